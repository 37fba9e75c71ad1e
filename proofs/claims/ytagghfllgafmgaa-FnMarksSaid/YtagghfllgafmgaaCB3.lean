/-
  Contracts of functions, printed by a program of ours.
-/
import Derived.Test.YtagghfllgafmgaaCB2
namespace Go.Proofs.Ytagghfllgafmgaa
open Go.RowKit
set_option linter.unusedVariables false
set_option linter.unusedSimpArgs false

set_option maxHeartbeats 400000 in
set_option maxRecDepth 4000 in
theorem c_impl_BestShift {p : Int} {c : Nat → Nat} {r : Int} {d : Nat → Nat} {q : Nat} {w : World} (hp : -128 ≤ p ∧ p ≤ 127) (hc : ∀ k, c k < 256) (hr : -128 ≤ r ∧ r ≤ 127) (hd : ∀ k, d k < 256) (hq : q < 18446744073709551616) :
    CE Try.prog 28 [.agg (layV (p) (c)).toArray, .agg (layV (r) (d)).toArray, .int .u64 (((q : Nat) : Int))] w (RetV w (.tuple #[.int .i64 (selZ (bsC p c r d q) (bsF q c d 25).1), .int .i64 (selZ (bsC p c r d q) (bsF q c d 25).2.1), .int .i64 (selZ (bsC p c r d q) (bsF q c d 25).2.2), .int .i64 (((bsC p c r d q : Nat) : Int))])) := by
  refine CE.enter 78 [(0, .agg (layV (p) (c)).toArray), (1, .agg (layV (r) (d)).toArray), (2, .int .u64 (((q : Nat) : Int)))] en_28 Try.func28 rfl rfl (Nat.le_of_ble_eq_true rfl) rfl ?_
  have st := St.start w
  refine Wc.seq ?_
  refine Wc.region rfl ?_
  refine Wl.boxA st rfl ?_
  clear st
  intro b3 w1 st
  refine Wl.boxA st rfl ?_
  clear st
  intro b4 w2 st
  refine Wl.pure (PR.assI rfl) ?_
  refine Wl.pure (PR.assI rfl) ?_
  refine Wl.pure (PR.assI rfl) ?_
  refine Wl.pure (PR.assI rfl) ?_
  refine Wl.nil ?_
  refine tn ?_
  refine Wc.seq ?_
  refine Wc.seq ?_
  refine Wc.tree1 (w0 := w) (X := []) (Ks := [b3, b4]) (S := fun i => i == 2 || i == 3 || i == 20 || i == 21) (.st 6 0 (.st 8 0 (.st 12 0 (.st 13 0 (.st 0 3 (.st 1 3 (.st 7 3 (.st 9 3 (.st 10 0 (.st 11 0 (.st 2 2 (.st 3 2 (.st 4 0 (.st 5 0 (.st 14 0 (.st 15 0 (.st 16 0 (.st 17 0 (.st 18 0 (.st 19 0 (.st 20 2 (.st 21 2 (.st 22 0 PT.nil))))))))))))))))))))))) hmix (by kernel_rfl) (by kernel_rfl) rfl rfl ?_
  intro w3 hbel
  replace st := st.call hbel
  clear hbel
  refine WT.pure rfl (PR.fieldAddr tF_29_0 rfl) ?_
  refine WT.pure rfl (PR.fieldAddr tF_29_0 rfl) ?_
  refine WT.pure rfl (PR.moveI rfl) ?_
  refine WT.pure rfl (PR.eql (a := ((q : Nat) : Int)) (b := 0) rfl rfl) ?_
  refine WT.loadA (j := 1) rfl (by simp) st tA_29 rfl rfl (all_sub layV_len) layV_len ?_
  refine WT.loadA (j := 0) rfl (by simp) st tA_29 rfl rfl (all_sub layV_len) layV_len ?_
  refine WT.load (j := 1) rfl (by simp) st tA_22 rfl rfl (rfl) ?_
  refine WT.load (j := 0) rfl (by simp) st tA_22 rfl rfl (rfl) ?_
  refine WT.pure rfl (PR.neq (a := p) (b := r) rfl rfl) ?_
  refine WT.pure rfl (PR.build (ps := [(0, .bool (!decide (p = r))), (1, .int .i64 (4))]) (cs := [.bool (!decide (p = r)), .int .i64 (4)]) tB_95 rfl rfl) ?_
  have st0 := st
  refine WT.s rfl rfl ?_
  refine Wl.buildSlice (ps := [(0, .agg (layV (p) (c)).toArray), (1, .agg (layV (r) (d)).toArray)]) (cs := layS 2 (fun z_ => [(p), (r)].getD z_ 0) (fun z_ => [c, d].getD z_ (fun _ => 0))) st tS_37 tZ_29 rfl rfl (lit_lays2 _ _ _ _ _) ?_
  clear st
  intro b22 w4 st
  refine Wl.nil ⟨rfl, RK.of st0 st (ksC (i := 1) (j := 2) rfl rfl rfl (ksC (i := 0) (j := 1) rfl rfl rfl ksN)), ?_⟩
  clear st0
  have st0 := st
  refine WT.s rfl rfl ?_
  refine Wl.callV (c_impl_areLayers (A := some ⟨b22, 0, none⟩) (n := 2) (cp := 2) (p := (fun z_ => [(p), (r)].getD z_ 0)) (c := (fun z_ => [c, d].getD z_ (fun _ => 0))) ((st.rdA (i := 0) (n := (2 * 65)) rfl (all_sub (recV_len (s := 65) (layS_row _ _) _))).sl) (lit_p2 hp hr) (lit_lt2 hc hd) (by first | assumption | omega)) rfl ?_
  intro w5 hbel
  replace st := st.call hbel
  clear hbel
  refine Wl.nil ⟨rfl, RK.of st0 st (ksC (i := 2) (j := 2) rfl rfl rfl (ksC (i := 1) (j := 1) rfl rfl rfl ksN)), ?_⟩
  clear st0
  refine WT.pure rfl (PR.not_ rfl) ?_
  refine WT.pure rfl (PR.build (ps := [(0, .bool (!(layAll 2 (fun z_ => [(p), (r)].getD z_ 0) (fun z_ => [c, d].getD z_ (fun _ => 0))))), (1, .int .i64 (1))]) (cs := [.bool (!(layAll 2 (fun z_ => [(p), (r)].getD z_ 0) (fun z_ => [c, d].getD z_ (fun _ => 0)))), .int .i64 (1)]) tB_95 rfl rfl) ?_
  refine WT.pure rfl (PR.moveB rfl) ?_
  refine WT.split (q := ((q : Nat) : Int) = 0) (gd := 34) rfl (fun h6 => ?_) (fun h6 => ?_)
  · refine WT.off (by decide) rfl rfl rfl rfl ?_
    refine WT.off (by decide) rfl rfl rfl rfl ?_
    refine WT.off (by decide) rfl rfl rfl rfl ?_
    refine WT.pure rfl (PR.pickTB rfl rfl) ?_
    refine WT.pure rfl (PR.build (ps := [(0, .bool true), (1, .int .i64 (6))]) (cs := [.bool true, .int .i64 (6)]) tB_95 rfl rfl) ?_
    have st0 := st
    refine WT.s rfl rfl ?_
    refine Wl.buildSlice (ps := [(0, .agg ([.bool (!(layAll 2 (fun z_ => [(p), (r)].getD z_ 0) (fun z_ => [c, d].getD z_ (fun _ => 0)))), .int .i64 (1)]).toArray), (1, .agg ([.bool (!decide (p = r)), .int .i64 (4)]).toArray), (2, .agg ([.bool true, .int .i64 (6)]).toArray)]) (cs := [.bool (!(layAll 2 (fun z_ => [(p), (r)].getD z_ 0) (fun z_ => [c, d].getD z_ (fun _ => 0)))), .int .i64 (1), .bool (!decide (p = r)), .int .i64 (4), .bool true, .int .i64 (6)]) st tS_127 tZ_95 rfl rfl rfl ?_
    clear st
    intro b40 w7 st
    refine Wl.nil ⟨rfl, RK.of st0 st (ksC (i := 2) (j := 3) rfl rfl rfl (ksC (i := 1) (j := 2) rfl rfl rfl ksN)), ?_⟩
    clear st0
    have st0 := st
    refine WT.s rfl rfl ?_
    refine Wl.callV (c_impl_firstOf (bk := b40) (o := 0) (n := 3) (cp := 3) (c := (fun i => [(!(layAll 2 (fun z_ => [(p), (r)].getD z_ 0) (fun z_ => [c, d].getD z_ (fun _ => 0)))), (!decide (p = r)), true].getD i false)) (e := (fun i => [1, 4, 6].getD i 0)) (st.rdA (i := 0) (n := 6) rfl rfl) (by first | assumption | omega)) rfl ?_
    intro w8 hbel
    replace st := st.call hbel
    clear hbel
    refine Wl.nil ⟨rfl, RK.of st0 st (ksC (i := 3) (j := 3) rfl rfl rfl (ksC (i := 2) (j := 2) rfl rfl rfl ksN)), ?_⟩
    clear st0
    refine WT.pure rfl (PR.assI rfl) ?_
    refine WT.nil ?_
    refine tn ?_
    refine Wc.seq ?_
    have hq9 : firstZ 3 (fun i => [(!(layAll 2 (fun z_ => [(p), (r)].getD z_ 0) (fun z_ => [c, d].getD z_ (fun _ => 0)))), (!decide (p = r)), true].getD i false) (fun i => [1, 4, 6].getD i 0) = ((bsC p c r d q : Nat) : Int) := first_bsC hq _ (by simp [layAll, List.range_succ]) _ (by first | (rw [decide_eq_decide]; omega) | exact (decide_eq_true (by omega)).symm)
    refine Wc.region rfl ?_
    refine Wl.pure (PR.moveI rfl) ?_
    refine Wl.pure (PR.neq (a := firstZ 3 (fun i => [(!(layAll 2 (fun z_ => [(p), (r)].getD z_ 0) (fun z_ => [c, d].getD z_ (fun _ => 0)))), (!decide (p = r)), true].getD i false) (fun i => [1, 4, 6].getD i 0)) (b := 0) rfl rfl) ?_
    refine Wl.nil ?_
    refine tn ?_
    refine Wc.condN (p := firstZ 3 (fun i => [(!(layAll 2 (fun z_ => [(p), (r)].getD z_ 0) (fun z_ => [c, d].getD z_ (fun _ => 0)))), (!decide (p = r)), true].getD i false) (fun i => [1, 4, 6].getD i 0) = 0) rfl (fun h9 => ?_) (fun h9 => ?_)
    · refine Wc.seq ?_
      refine Wc.region rfl ?_
      refine Wl.pure (PR.moveI rfl) ?_
      refine Wl.pure (PR.assI rfl) ?_
      refine Wl.pure (PR.assI rfl) ?_
      refine Wl.pure (PR.assI rfl) ?_
      refine Wl.pure (PR.assI rfl) ?_
      refine Wl.nil ?_
      refine tn ?_
      refine Wc.ret ?_
      refine tr ?_
      refine postL.many (rvs := [.tmp 6, .tmp 7, .tmp 8, .tmp 9]) rfl (.tmp (v := .int .i64 (0)) rfl (.tmp (v := .int .i64 (0)) rfl (.tmp (v := .int .i64 (0)) rfl (.tmp (v := .int .i64 (firstZ 3 (fun i => [(!(layAll 2 (fun z_ => [(p), (r)].getD z_ 0) (fun z_ => [c, d].getD z_ (fun _ => 0)))), (!decide (p = r)), true].getD i false) (fun i => [1, 4, 6].getD i 0))) rfl .nil)))) ?_
      refine RetV.of ?_ st.below
      exact bs_er (by omega) hq9
    · refine Wc.skip ?_
      refine tn ?_
      refine Wc.seq ?_
      obtain ⟨hok1, hok2, hpr, hqg⟩ := bsC_spec (p := p) (c := c) (r := r) (d := d) (q := q) (by omega)
      refine Wc.region rfl ?_
      refine Wl.pure (PR.assI rfl) ?_
      refine Wl.pure (PR.assI rfl) ?_
      refine Wl.pure (PR.assI rfl) ?_
      refine Wl.nil ?_
      refine tn ?_
      refine Wc.seq ?_
      refine Wc.seq ?_
      refine Wc.region rfl ?_
      refine Wl.pure (PR.assI rfl) ?_
      refine Wl.nil ?_
      refine tn ?_
      refine Wc.block ?_
      refine Wc.loopF (γ := Nat × Int × Int × Int × Int) (fun g => [(2, .int .u64 (((q : Nat) : Int))), (3, .pointer (some ⟨b3, 0, none⟩)), (4, .pointer (some ⟨b4, 0, none⟩)), (6, .int .i64 (0)), (7, .int .i64 (0)), (8, .int .i64 (0)), (9, .int .i64 (0)), (11, .int .i64 (g.2.2.1)), (12, .int .i64 (g.2.2.2.1)), (13, .int .i64 (g.2.2.2.2)), (14, .int .i64 (g.2.1))]) (fun g w_ => St [] w w_ [(b40, [.bool (!(layAll 2 (fun z_ => [(p), (r)].getD z_ 0) (fun z_ => [c, d].getD z_ (fun _ => 0)))), .int .i64 (1), .bool (!decide (p = r)), .int .i64 (4), .bool true, .int .i64 (6)], 95), (b22, layS 2 (fun z_ => [(p), (r)].getD z_ 0) (fun z_ => [c, d].getD z_ (fun _ => 0)), 29), (b4, layV (r) (d), 29), (b3, layV (p) (c), 29)] ∧ (g.1 ≤ 5) ∧ (g.2.1 = (g.1 : Int) - 2) ∧ (bsF q c d (5 * g.1 + 0) = (g.2.2.1, g.2.2.2.1, g.2.2.2.2))) (fun g => 5 - g.1) ?_ ?_
      · exact ⟨(0, (-2), 0, 0, (-9)), (.cons rfl (.cons rfl (.cons rfl (.cons rfl (.cons rfl (.cons rfl (.cons rfl (.cons rfl (.cons rfl (.cons rfl (.cons rfl (.nil _)))))))))))), st, (by first | omega | (dsimp only; omega)), (by first | omega | (dsimp only; omega)), rfl⟩
      clear st
      rintro ⟨i, u, x, y, z⟩ w10 ⟨st, hi, hu, hb⟩
      try dsimp only at st hi hu hb ⊢
      refine Wc.seq ?_
      refine Wc.seq ?_
      refine Wc.region rfl ?_
      refine Wl.pure (PR.moveI rfl) ?_
      refine Wl.pure (PR.leq (a := u) (b := 2) rfl rfl) ?_
      refine Wl.nil ?_
      refine tn ?_
      refine Wc.condD (p := u ≤ 2) rfl (fun h11 => ?_) (fun h11 => ?_)
      · refine Wc.skip ?_
        refine tn ?_
        refine Wc.seq ?_
        refine Wc.block ?_
        refine Wc.seq ?_
        refine Wc.region rfl ?_
        refine Wl.pure (PR.assI rfl) ?_
        refine Wl.nil ?_
        refine tn ?_
        refine Wc.block ?_
        refine Wc.loopF (γ := Nat × Int × Int × Int × Int) (fun g => [(2, .int .u64 (((q : Nat) : Int))), (3, .pointer (some ⟨b3, 0, none⟩)), (4, .pointer (some ⟨b4, 0, none⟩)), (6, .int .i64 (0)), (7, .int .i64 (0)), (8, .int .i64 (0)), (9, .int .i64 (0)), (11, .int .i64 (g.2.2.1)), (12, .int .i64 (g.2.2.2.1)), (13, .int .i64 (g.2.2.2.2)), (14, .int .i64 (u)), (15, .int .i64 (g.2.1)), (45, .int .i64 (u)), (46, .bool (decide (u ≤ 2)))]) (fun g w_ => St [] w w_ [(b40, [.bool (!(layAll 2 (fun z_ => [(p), (r)].getD z_ 0) (fun z_ => [c, d].getD z_ (fun _ => 0)))), .int .i64 (1), .bool (!decide (p = r)), .int .i64 (4), .bool true, .int .i64 (6)], 95), (b22, layS 2 (fun z_ => [(p), (r)].getD z_ 0) (fun z_ => [c, d].getD z_ (fun _ => 0)), 29), (b4, layV (r) (d), 29), (b3, layV (p) (c), 29)] ∧ (g.1 ≤ 5) ∧ (g.2.1 = (g.1 : Int) - 2) ∧ (bsF q c d (5 * i + g.1) = (g.2.2.1, g.2.2.2.1, g.2.2.2.2))) (fun g => 5 - g.1) ?_ ?_
        · exact ⟨(0, (-2), x, y, z), (.cons rfl (.cons rfl (.cons rfl (.cons rfl (.cons rfl (.cons rfl (.cons rfl (.cons rfl (.cons rfl (.cons rfl (.cons rfl (.cons rfl (.cons rfl (.cons rfl (.nil _))))))))))))))), st, (by first | omega | (dsimp only; omega)), (by first | omega | (dsimp only; omega)), hb⟩
        clear st
        rintro ⟨j, v, x, y, z⟩ w12 ⟨st, hj, hv, hb⟩
        try dsimp only at st hj hv hb ⊢
        refine Wc.seq ?_
        refine Wc.seq ?_
        refine Wc.region rfl ?_
        refine Wl.pure (PR.moveI rfl) ?_
        refine Wl.pure (PR.leq (a := v) (b := 2) rfl rfl) ?_
        refine Wl.nil ?_
        refine tn ?_
        refine Wc.condD (p := v ≤ 2) rfl (fun h13 => ?_) (fun h13 => ?_)
        · refine Wc.skip ?_
          refine tn ?_
          refine Wc.seq ?_
          refine Wc.block ?_
          refine Wc.seq ?_
          refine Wc.region rfl ?_
          refine Wl.loadA (i := 2) st tA_29 rfl rfl (all_sub layV_len) layV_len ?_
          refine Wl.pure (PR.moveI rfl) ?_
          refine Wl.pure (PR.moveI rfl) ?_
          refine Wl.callV (c_impl_ShiftLayer (r := r) (d := d) (u := u) (v := v) (by first | assumption | omega) hd (by first | assumption | omega) (by first | assumption | omega) (by first | assumption | omega)) rfl ?_
          intro w14 hbel
          replace st := st.call hbel
          clear hbel
          refine Wl.pure (PR.moveV (.tuple #[.agg (layV (r) ((shC d u v))).toArray, .int .i64 (0)]) rfl) ?_
          refine Wl.pure (PR.extr (i := 0) (vs := [.agg (layV (r) ((shC d u v))).toArray, .int .i64 (0)]) rfl rfl) ?_
          refine Wl.pure (PR.extr (i := 1) (vs := [.agg (layV (r) ((shC d u v))).toArray, .int .i64 (0)]) rfl rfl) ?_
          refine Wl.alloc st tZ_29 rfl ?_
          clear st
          intro b16 w15 st
          refine Wl.storeA (i := 0) (cs' := layV (r) ((shC d u v))) st tA_29 rfl rfl layV_len layV_one rfl (le_of_len layV_len (by omega)) (all_put layV_len) ?_
          clear st
          intro w16 st
          replace st : St [] w w16 [(b16, layV (r) ((shC d u v)), 29), (b40, [.bool (!(layAll 2 (fun z_ => [(p), (r)].getD z_ 0) (fun z_ => [c, d].getD z_ (fun _ => 0)))), .int .i64 (1), .bool (!decide (p = r)), .int .i64 (4), .bool true, .int .i64 (6)], 95), (b22, layS 2 (fun z_ => [(p), (r)].getD z_ 0) (fun z_ => [c, d].getD z_ (fun _ => 0)), 29), (b4, layV (r) (d), 29), (b3, layV (p) (c), 29)] := st
          refine Wl.pure (PR.assI rfl) ?_
          refine Wl.nil ?_
          refine tn ?_
          refine Wc.seq ?_
          refine Wc.region rfl ?_
          refine Wl.loadA (i := 4) st tA_29 rfl rfl (all_sub layV_len) layV_len ?_
          refine Wl.loadA (i := 0) st tA_29 rfl rfl (all_sub layV_len) layV_len ?_
          refine Wl.buildSlice (ps := [(0, .agg (layV (p) (c)).toArray), (1, .agg (layV (r) ((shC d u v))).toArray)]) (cs := layS 2 (fun z_ => [(p), (r)].getD z_ 0) (fun z_ => [c, (shC d u v)].getD z_ (fun _ => 0))) st tS_37 tZ_29 rfl rfl (lit_lays2 _ _ _ _ _) ?_
          clear st
          intro b63 w17 st
          refine Wl.callV (c_impl_stack (A := some ⟨b63, 0, none⟩) (n := 2) (cp := 2) (p := (fun z_ => [(p), (r)].getD z_ 0)) (c := (fun z_ => [c, (shC d u v)].getD z_ (fun _ => 0))) ((st.rdA (i := 0) (n := (2 * 65)) rfl (all_sub (recV_len (s := 65) (layS_row _ _) _))).sl) (lit_p2 hp (by first | assumption | exact hr | (subst hpr; exact hp))) (lit_lt2 hc (shC_lt hd u v)) (by first | assumption | omega) (by first | assumption | omega)) rfl ?_
          intro w18 hbel
          replace st := st.call hbel
          clear hbel
          refine Wl.pure (PR.moveI rfl) ?_
          refine Wl.callV (c_impl_ContrastOf (p := (fun z_ => [(p), (r)].getD z_ 0) 0) (c := (orC (fun z_ => [c, (shC d u v)].getD z_ (fun _ => 0)) 2)) (q := q) (by first | assumption | omega) (orC_lt (lit_lt2 hc (shC_lt hd u v)) 2) hq (layOk_stk hok1 hok2 hpr u v) hqg) rfl ?_
          intro w19 hbel
          replace st := st.call hbel
          clear hbel
          refine Wl.pure (PR.moveV (.tuple #[.int .i64 (conZ q (orC (fun z_ => [c, (shC d u v)].getD z_ (fun _ => 0)) 2)), .int .i64 (0)]) rfl) ?_
          refine Wl.pure (PR.extr (i := 0) (vs := [.int .i64 (conZ q (orC (fun z_ => [c, (shC d u v)].getD z_ (fun _ => 0)) 2)), .int .i64 (0)]) rfl rfl) ?_
          refine Wl.pure (PR.extr (i := 1) (vs := [.int .i64 (conZ q (orC (fun z_ => [c, (shC d u v)].getD z_ (fun _ => 0)) 2)), .int .i64 (0)]) rfl rfl) ?_
          refine Wl.pure (PR.assI rfl) ?_
          refine Wl.pure (PR.assI rfl) ?_
          refine Wl.nil ?_
          refine tn ?_
          refine Wc.seq ?_
          refine Wc.region rfl ?_
          refine Wl.pure (PR.moveI rfl) ?_
          refine Wl.pure (PR.moveI rfl) ?_
          refine Wl.pure (PR.gtr (a := conZ q (orC (fun z_ => [c, (shC d u v)].getD z_ (fun _ => 0)) 2)) (b := z) rfl rfl) ?_
          refine Wl.nil ?_
          refine tn ?_
          refine Wc.condD (p := z < conZ q (orC (fun z_ => [c, (shC d u v)].getD z_ (fun _ => 0)) 2)) rfl (fun h20 => ?_) (fun h20 => ?_)
          · refine Wc.region rfl ?_
            refine Wl.pure (PR.moveI rfl) ?_
            refine Wl.pure (PR.moveI rfl) ?_
            refine Wl.pure (PR.moveI rfl) ?_
            refine Wl.pure (PR.assI rfl) ?_
            refine Wl.pure (PR.assI rfl) ?_
            refine Wl.pure (PR.assI rfl) ?_
            refine Wl.nil ?_
            refine bn ?_
            refine tn ?_
            refine Wc.region rfl ?_
            refine Wl.pure (PR.moveI rfl) ?_
            refine Wl.pure (PR.add (a := v) (b := 1) rfl rfl (by simp only [fitI]; omega)) ?_
            refine Wl.pure (PR.assI rfl) ?_
            refine Wl.nil ?_
            refine tn ?_
            replace st := st.tail
            replace st := st.tail
            exact ⟨(j + 1, (v + 1), u, v, conZ q (orC (fun z_ => [c, (shC d u v)].getD z_ (fun _ => 0)) 2)), (.cons rfl (.cons rfl (.cons rfl (.cons rfl (.cons rfl (.cons rfl (.cons rfl (.cons rfl (.cons rfl (.cons rfl (.cons rfl (.cons rfl (.cons rfl (.cons rfl (.nil _))))))))))))))), ⟨st, (by first | omega | (dsimp only; omega)), (by first | omega | (dsimp only; omega)), (by first | exact bs_t hb (by omega) hu hv (by assumption) | exact bs_f hb (by omega) hu hv (by assumption))⟩, (by first | omega | (dsimp only; omega))⟩
          · refine Wc.skip ?_
            refine bn ?_
            refine tn ?_
            refine Wc.region rfl ?_
            refine Wl.pure (PR.moveI rfl) ?_
            refine Wl.pure (PR.add (a := v) (b := 1) rfl rfl (by simp only [fitI]; omega)) ?_
            refine Wl.pure (PR.assI rfl) ?_
            refine Wl.nil ?_
            refine tn ?_
            replace st := st.tail
            replace st := st.tail
            exact ⟨(j + 1, (v + 1), x, y, z), (.cons rfl (.cons rfl (.cons rfl (.cons rfl (.cons rfl (.cons rfl (.cons rfl (.cons rfl (.cons rfl (.cons rfl (.cons rfl (.cons rfl (.cons rfl (.cons rfl (.nil _))))))))))))))), ⟨st, (by first | omega | (dsimp only; omega)), (by first | omega | (dsimp only; omega)), (by first | exact bs_t hb (by omega) hu hv (by assumption) | exact bs_f hb (by omega) hu hv (by assumption))⟩, (by first | omega | (dsimp only; omega))⟩
        · refine Wc.exit ?_
          refine tx ?_
          refine tx ?_
          refine bh ?_
          refine bn ?_
          refine tn ?_
          refine Wc.region rfl ?_
          refine Wl.pure (PR.moveI rfl) ?_
          refine Wl.pure (PR.add (a := u) (b := 1) rfl rfl (by simp only [fitI]; omega)) ?_
          refine Wl.pure (PR.assI rfl) ?_
          refine Wl.nil ?_
          refine tn ?_
          exact ⟨(i + 1, (u + 1), x, y, z), (.cons rfl (.cons rfl (.cons rfl (.cons rfl (.cons rfl (.cons rfl (.cons rfl (.cons rfl (.cons rfl (.cons rfl (.cons rfl (.nil _)))))))))))), ⟨st, (by first | omega | (dsimp only; omega)), (by first | omega | (dsimp only; omega)), (by obtain rfl : j = 5 := (by omega); exact hb)⟩, (by first | omega | (dsimp only; omega))⟩
      · refine Wc.exit ?_
        refine tx ?_
        refine tx ?_
        refine bh ?_
        refine tn ?_
        refine Wc.seq ?_
        refine Wc.region rfl ?_
        refine Wl.pure (PR.moveI rfl) ?_
        refine Wl.pure (PR.moveI rfl) ?_
        refine Wl.pure (PR.moveI rfl) ?_
        refine Wl.pure (PR.assI rfl) ?_
        refine Wl.pure (PR.assI rfl) ?_
        refine Wl.pure (PR.assI rfl) ?_
        refine Wl.pure (PR.assI rfl) ?_
        refine Wl.nil ?_
        refine tn ?_
        refine Wc.ret ?_
        refine postL.many (rvs := [.tmp 6, .tmp 7, .tmp 8, .tmp 9]) rfl (.tmp (v := .int .i64 (x)) rfl (.tmp (v := .int .i64 (y)) rfl (.tmp (v := .int .i64 (z)) rfl (.tmp (v := .int .i64 (0)) rfl .nil)))) ?_
        refine RetV.of ?_ st.below
        exact bs_ok (by omega) (by obtain rfl : i = 5 := (by omega); exact hb)
  · refine WT.pureG rfl rfl rfl (PR.moveI rfl) ?_
    refine WT.pureG rfl rfl rfl (PR.compl (n := q) rfl (by decide) hq) ?_
    refine WT.pureG rfl rfl rfl (PR.eql (a := (((18446744073709551615 - (q)) : Nat) : Int)) (b := 0) rfl rfl) ?_
    refine WT.pure rfl (PR.pickFB rfl rfl) ?_
    refine WT.pure rfl (PR.build (ps := [(0, .bool (decide ((((18446744073709551615 - (q)) : Nat) : Int) = 0))), (1, .int .i64 (6))]) (cs := [.bool (decide ((((18446744073709551615 - (q)) : Nat) : Int) = 0)), .int .i64 (6)]) tB_95 rfl rfl) ?_
    have st0 := st
    refine WT.s rfl rfl ?_
    refine Wl.buildSlice (ps := [(0, .agg ([.bool (!(layAll 2 (fun z_ => [(p), (r)].getD z_ 0) (fun z_ => [c, d].getD z_ (fun _ => 0)))), .int .i64 (1)]).toArray), (1, .agg ([.bool (!decide (p = r)), .int .i64 (4)]).toArray), (2, .agg ([.bool (decide ((((18446744073709551615 - (q)) : Nat) : Int) = 0)), .int .i64 (6)]).toArray)]) (cs := [.bool (!(layAll 2 (fun z_ => [(p), (r)].getD z_ 0) (fun z_ => [c, d].getD z_ (fun _ => 0)))), .int .i64 (1), .bool (!decide (p = r)), .int .i64 (4), .bool (decide ((((18446744073709551615 - (q)) : Nat) : Int) = 0)), .int .i64 (6)]) st tS_127 tZ_95 rfl rfl rfl ?_
    clear st
    intro b40 w21 st
    refine Wl.nil ⟨rfl, RK.of st0 st (ksC (i := 2) (j := 3) rfl rfl rfl (ksC (i := 1) (j := 2) rfl rfl rfl ksN)), ?_⟩
    clear st0
    have st0 := st
    refine WT.s rfl rfl ?_
    refine Wl.callV (c_impl_firstOf (bk := b40) (o := 0) (n := 3) (cp := 3) (c := (fun i => [(!(layAll 2 (fun z_ => [(p), (r)].getD z_ 0) (fun z_ => [c, d].getD z_ (fun _ => 0)))), (!decide (p = r)), (decide ((((18446744073709551615 - (q)) : Nat) : Int) = 0))].getD i false)) (e := (fun i => [1, 4, 6].getD i 0)) (st.rdA (i := 0) (n := 6) rfl rfl) (by first | assumption | omega)) rfl ?_
    intro w22 hbel
    replace st := st.call hbel
    clear hbel
    refine Wl.nil ⟨rfl, RK.of st0 st (ksC (i := 3) (j := 3) rfl rfl rfl (ksC (i := 2) (j := 2) rfl rfl rfl ksN)), ?_⟩
    clear st0
    refine WT.pure rfl (PR.assI rfl) ?_
    refine WT.nil ?_
    refine tn ?_
    refine Wc.seq ?_
    have hq9 : firstZ 3 (fun i => [(!(layAll 2 (fun z_ => [(p), (r)].getD z_ 0) (fun z_ => [c, d].getD z_ (fun _ => 0)))), (!decide (p = r)), (decide ((((18446744073709551615 - (q)) : Nat) : Int) = 0))].getD i false) (fun i => [1, 4, 6].getD i 0) = ((bsC p c r d q : Nat) : Int) := first_bsC hq _ (by simp [layAll, List.range_succ]) _ (by first | (rw [decide_eq_decide]; omega) | exact (decide_eq_true (by omega)).symm)
    refine Wc.region rfl ?_
    refine Wl.pure (PR.moveI rfl) ?_
    refine Wl.pure (PR.neq (a := firstZ 3 (fun i => [(!(layAll 2 (fun z_ => [(p), (r)].getD z_ 0) (fun z_ => [c, d].getD z_ (fun _ => 0)))), (!decide (p = r)), (decide ((((18446744073709551615 - (q)) : Nat) : Int) = 0))].getD i false) (fun i => [1, 4, 6].getD i 0)) (b := 0) rfl rfl) ?_
    refine Wl.nil ?_
    refine tn ?_
    refine Wc.condN (p := firstZ 3 (fun i => [(!(layAll 2 (fun z_ => [(p), (r)].getD z_ 0) (fun z_ => [c, d].getD z_ (fun _ => 0)))), (!decide (p = r)), (decide ((((18446744073709551615 - (q)) : Nat) : Int) = 0))].getD i false) (fun i => [1, 4, 6].getD i 0) = 0) rfl (fun h23 => ?_) (fun h23 => ?_)
    · refine Wc.seq ?_
      refine Wc.region rfl ?_
      refine Wl.pure (PR.moveI rfl) ?_
      refine Wl.pure (PR.assI rfl) ?_
      refine Wl.pure (PR.assI rfl) ?_
      refine Wl.pure (PR.assI rfl) ?_
      refine Wl.pure (PR.assI rfl) ?_
      refine Wl.nil ?_
      refine tn ?_
      refine Wc.ret ?_
      refine tr ?_
      refine postL.many (rvs := [.tmp 6, .tmp 7, .tmp 8, .tmp 9]) rfl (.tmp (v := .int .i64 (0)) rfl (.tmp (v := .int .i64 (0)) rfl (.tmp (v := .int .i64 (0)) rfl (.tmp (v := .int .i64 (firstZ 3 (fun i => [(!(layAll 2 (fun z_ => [(p), (r)].getD z_ 0) (fun z_ => [c, d].getD z_ (fun _ => 0)))), (!decide (p = r)), (decide ((((18446744073709551615 - (q)) : Nat) : Int) = 0))].getD i false) (fun i => [1, 4, 6].getD i 0))) rfl .nil)))) ?_
      refine RetV.of ?_ st.below
      exact bs_er (by omega) hq9
    · refine Wc.skip ?_
      refine tn ?_
      refine Wc.seq ?_
      obtain ⟨hok1, hok2, hpr, hqg⟩ := bsC_spec (p := p) (c := c) (r := r) (d := d) (q := q) (by omega)
      refine Wc.region rfl ?_
      refine Wl.pure (PR.assI rfl) ?_
      refine Wl.pure (PR.assI rfl) ?_
      refine Wl.pure (PR.assI rfl) ?_
      refine Wl.nil ?_
      refine tn ?_
      refine Wc.seq ?_
      refine Wc.seq ?_
      refine Wc.region rfl ?_
      refine Wl.pure (PR.assI rfl) ?_
      refine Wl.nil ?_
      refine tn ?_
      refine Wc.block ?_
      refine Wc.loopF (γ := Nat × Int × Int × Int × Int) (fun g => [(2, .int .u64 (((q : Nat) : Int))), (3, .pointer (some ⟨b3, 0, none⟩)), (4, .pointer (some ⟨b4, 0, none⟩)), (6, .int .i64 (0)), (7, .int .i64 (0)), (8, .int .i64 (0)), (9, .int .i64 (0)), (11, .int .i64 (g.2.2.1)), (12, .int .i64 (g.2.2.2.1)), (13, .int .i64 (g.2.2.2.2)), (14, .int .i64 (g.2.1))]) (fun g w_ => St [] w w_ [(b40, [.bool (!(layAll 2 (fun z_ => [(p), (r)].getD z_ 0) (fun z_ => [c, d].getD z_ (fun _ => 0)))), .int .i64 (1), .bool (!decide (p = r)), .int .i64 (4), .bool (decide ((((18446744073709551615 - (q)) : Nat) : Int) = 0)), .int .i64 (6)], 95), (b22, layS 2 (fun z_ => [(p), (r)].getD z_ 0) (fun z_ => [c, d].getD z_ (fun _ => 0)), 29), (b4, layV (r) (d), 29), (b3, layV (p) (c), 29)] ∧ (g.1 ≤ 5) ∧ (g.2.1 = (g.1 : Int) - 2) ∧ (bsF q c d (5 * g.1 + 0) = (g.2.2.1, g.2.2.2.1, g.2.2.2.2))) (fun g => 5 - g.1) ?_ ?_
      · exact ⟨(0, (-2), 0, 0, (-9)), (.cons rfl (.cons rfl (.cons rfl (.cons rfl (.cons rfl (.cons rfl (.cons rfl (.cons rfl (.cons rfl (.cons rfl (.cons rfl (.nil _)))))))))))), st, (by first | omega | (dsimp only; omega)), (by first | omega | (dsimp only; omega)), rfl⟩
      clear st
      rintro ⟨i, u, x, y, z⟩ w24 ⟨st, hi, hu, hb⟩
      try dsimp only at st hi hu hb ⊢
      refine Wc.seq ?_
      refine Wc.seq ?_
      refine Wc.region rfl ?_
      refine Wl.pure (PR.moveI rfl) ?_
      refine Wl.pure (PR.leq (a := u) (b := 2) rfl rfl) ?_
      refine Wl.nil ?_
      refine tn ?_
      refine Wc.condD (p := u ≤ 2) rfl (fun h25 => ?_) (fun h25 => ?_)
      · refine Wc.skip ?_
        refine tn ?_
        refine Wc.seq ?_
        refine Wc.block ?_
        refine Wc.seq ?_
        refine Wc.region rfl ?_
        refine Wl.pure (PR.assI rfl) ?_
        refine Wl.nil ?_
        refine tn ?_
        refine Wc.block ?_
        refine Wc.loopF (γ := Nat × Int × Int × Int × Int) (fun g => [(2, .int .u64 (((q : Nat) : Int))), (3, .pointer (some ⟨b3, 0, none⟩)), (4, .pointer (some ⟨b4, 0, none⟩)), (6, .int .i64 (0)), (7, .int .i64 (0)), (8, .int .i64 (0)), (9, .int .i64 (0)), (11, .int .i64 (g.2.2.1)), (12, .int .i64 (g.2.2.2.1)), (13, .int .i64 (g.2.2.2.2)), (14, .int .i64 (u)), (15, .int .i64 (g.2.1)), (45, .int .i64 (u)), (46, .bool (decide (u ≤ 2)))]) (fun g w_ => St [] w w_ [(b40, [.bool (!(layAll 2 (fun z_ => [(p), (r)].getD z_ 0) (fun z_ => [c, d].getD z_ (fun _ => 0)))), .int .i64 (1), .bool (!decide (p = r)), .int .i64 (4), .bool (decide ((((18446744073709551615 - (q)) : Nat) : Int) = 0)), .int .i64 (6)], 95), (b22, layS 2 (fun z_ => [(p), (r)].getD z_ 0) (fun z_ => [c, d].getD z_ (fun _ => 0)), 29), (b4, layV (r) (d), 29), (b3, layV (p) (c), 29)] ∧ (g.1 ≤ 5) ∧ (g.2.1 = (g.1 : Int) - 2) ∧ (bsF q c d (5 * i + g.1) = (g.2.2.1, g.2.2.2.1, g.2.2.2.2))) (fun g => 5 - g.1) ?_ ?_
        · exact ⟨(0, (-2), x, y, z), (.cons rfl (.cons rfl (.cons rfl (.cons rfl (.cons rfl (.cons rfl (.cons rfl (.cons rfl (.cons rfl (.cons rfl (.cons rfl (.cons rfl (.cons rfl (.cons rfl (.nil _))))))))))))))), st, (by first | omega | (dsimp only; omega)), (by first | omega | (dsimp only; omega)), hb⟩
        clear st
        rintro ⟨j, v, x, y, z⟩ w26 ⟨st, hj, hv, hb⟩
        try dsimp only at st hj hv hb ⊢
        refine Wc.seq ?_
        refine Wc.seq ?_
        refine Wc.region rfl ?_
        refine Wl.pure (PR.moveI rfl) ?_
        refine Wl.pure (PR.leq (a := v) (b := 2) rfl rfl) ?_
        refine Wl.nil ?_
        refine tn ?_
        refine Wc.condD (p := v ≤ 2) rfl (fun h27 => ?_) (fun h27 => ?_)
        · refine Wc.skip ?_
          refine tn ?_
          refine Wc.seq ?_
          refine Wc.block ?_
          refine Wc.seq ?_
          refine Wc.region rfl ?_
          refine Wl.loadA (i := 2) st tA_29 rfl rfl (all_sub layV_len) layV_len ?_
          refine Wl.pure (PR.moveI rfl) ?_
          refine Wl.pure (PR.moveI rfl) ?_
          refine Wl.callV (c_impl_ShiftLayer (r := r) (d := d) (u := u) (v := v) (by first | assumption | omega) hd (by first | assumption | omega) (by first | assumption | omega) (by first | assumption | omega)) rfl ?_
          intro w28 hbel
          replace st := st.call hbel
          clear hbel
          refine Wl.pure (PR.moveV (.tuple #[.agg (layV (r) ((shC d u v))).toArray, .int .i64 (0)]) rfl) ?_
          refine Wl.pure (PR.extr (i := 0) (vs := [.agg (layV (r) ((shC d u v))).toArray, .int .i64 (0)]) rfl rfl) ?_
          refine Wl.pure (PR.extr (i := 1) (vs := [.agg (layV (r) ((shC d u v))).toArray, .int .i64 (0)]) rfl rfl) ?_
          refine Wl.alloc st tZ_29 rfl ?_
          clear st
          intro b16 w29 st
          refine Wl.storeA (i := 0) (cs' := layV (r) ((shC d u v))) st tA_29 rfl rfl layV_len layV_one rfl (le_of_len layV_len (by omega)) (all_put layV_len) ?_
          clear st
          intro w30 st
          replace st : St [] w w30 [(b16, layV (r) ((shC d u v)), 29), (b40, [.bool (!(layAll 2 (fun z_ => [(p), (r)].getD z_ 0) (fun z_ => [c, d].getD z_ (fun _ => 0)))), .int .i64 (1), .bool (!decide (p = r)), .int .i64 (4), .bool (decide ((((18446744073709551615 - (q)) : Nat) : Int) = 0)), .int .i64 (6)], 95), (b22, layS 2 (fun z_ => [(p), (r)].getD z_ 0) (fun z_ => [c, d].getD z_ (fun _ => 0)), 29), (b4, layV (r) (d), 29), (b3, layV (p) (c), 29)] := st
          refine Wl.pure (PR.assI rfl) ?_
          refine Wl.nil ?_
          refine tn ?_
          refine Wc.seq ?_
          refine Wc.region rfl ?_
          refine Wl.loadA (i := 4) st tA_29 rfl rfl (all_sub layV_len) layV_len ?_
          refine Wl.loadA (i := 0) st tA_29 rfl rfl (all_sub layV_len) layV_len ?_
          refine Wl.buildSlice (ps := [(0, .agg (layV (p) (c)).toArray), (1, .agg (layV (r) ((shC d u v))).toArray)]) (cs := layS 2 (fun z_ => [(p), (r)].getD z_ 0) (fun z_ => [c, (shC d u v)].getD z_ (fun _ => 0))) st tS_37 tZ_29 rfl rfl (lit_lays2 _ _ _ _ _) ?_
          clear st
          intro b63 w31 st
          refine Wl.callV (c_impl_stack (A := some ⟨b63, 0, none⟩) (n := 2) (cp := 2) (p := (fun z_ => [(p), (r)].getD z_ 0)) (c := (fun z_ => [c, (shC d u v)].getD z_ (fun _ => 0))) ((st.rdA (i := 0) (n := (2 * 65)) rfl (all_sub (recV_len (s := 65) (layS_row _ _) _))).sl) (lit_p2 hp (by first | assumption | exact hr | (subst hpr; exact hp))) (lit_lt2 hc (shC_lt hd u v)) (by first | assumption | omega) (by first | assumption | omega)) rfl ?_
          intro w32 hbel
          replace st := st.call hbel
          clear hbel
          refine Wl.pure (PR.moveI rfl) ?_
          refine Wl.callV (c_impl_ContrastOf (p := (fun z_ => [(p), (r)].getD z_ 0) 0) (c := (orC (fun z_ => [c, (shC d u v)].getD z_ (fun _ => 0)) 2)) (q := q) (by first | assumption | omega) (orC_lt (lit_lt2 hc (shC_lt hd u v)) 2) hq (layOk_stk hok1 hok2 hpr u v) hqg) rfl ?_
          intro w33 hbel
          replace st := st.call hbel
          clear hbel
          refine Wl.pure (PR.moveV (.tuple #[.int .i64 (conZ q (orC (fun z_ => [c, (shC d u v)].getD z_ (fun _ => 0)) 2)), .int .i64 (0)]) rfl) ?_
          refine Wl.pure (PR.extr (i := 0) (vs := [.int .i64 (conZ q (orC (fun z_ => [c, (shC d u v)].getD z_ (fun _ => 0)) 2)), .int .i64 (0)]) rfl rfl) ?_
          refine Wl.pure (PR.extr (i := 1) (vs := [.int .i64 (conZ q (orC (fun z_ => [c, (shC d u v)].getD z_ (fun _ => 0)) 2)), .int .i64 (0)]) rfl rfl) ?_
          refine Wl.pure (PR.assI rfl) ?_
          refine Wl.pure (PR.assI rfl) ?_
          refine Wl.nil ?_
          refine tn ?_
          refine Wc.seq ?_
          refine Wc.region rfl ?_
          refine Wl.pure (PR.moveI rfl) ?_
          refine Wl.pure (PR.moveI rfl) ?_
          refine Wl.pure (PR.gtr (a := conZ q (orC (fun z_ => [c, (shC d u v)].getD z_ (fun _ => 0)) 2)) (b := z) rfl rfl) ?_
          refine Wl.nil ?_
          refine tn ?_
          refine Wc.condD (p := z < conZ q (orC (fun z_ => [c, (shC d u v)].getD z_ (fun _ => 0)) 2)) rfl (fun h34 => ?_) (fun h34 => ?_)
          · refine Wc.region rfl ?_
            refine Wl.pure (PR.moveI rfl) ?_
            refine Wl.pure (PR.moveI rfl) ?_
            refine Wl.pure (PR.moveI rfl) ?_
            refine Wl.pure (PR.assI rfl) ?_
            refine Wl.pure (PR.assI rfl) ?_
            refine Wl.pure (PR.assI rfl) ?_
            refine Wl.nil ?_
            refine bn ?_
            refine tn ?_
            refine Wc.region rfl ?_
            refine Wl.pure (PR.moveI rfl) ?_
            refine Wl.pure (PR.add (a := v) (b := 1) rfl rfl (by simp only [fitI]; omega)) ?_
            refine Wl.pure (PR.assI rfl) ?_
            refine Wl.nil ?_
            refine tn ?_
            replace st := st.tail
            replace st := st.tail
            exact ⟨(j + 1, (v + 1), u, v, conZ q (orC (fun z_ => [c, (shC d u v)].getD z_ (fun _ => 0)) 2)), (.cons rfl (.cons rfl (.cons rfl (.cons rfl (.cons rfl (.cons rfl (.cons rfl (.cons rfl (.cons rfl (.cons rfl (.cons rfl (.cons rfl (.cons rfl (.cons rfl (.nil _))))))))))))))), ⟨st, (by first | omega | (dsimp only; omega)), (by first | omega | (dsimp only; omega)), (by first | exact bs_t hb (by omega) hu hv (by assumption) | exact bs_f hb (by omega) hu hv (by assumption))⟩, (by first | omega | (dsimp only; omega))⟩
          · refine Wc.skip ?_
            refine bn ?_
            refine tn ?_
            refine Wc.region rfl ?_
            refine Wl.pure (PR.moveI rfl) ?_
            refine Wl.pure (PR.add (a := v) (b := 1) rfl rfl (by simp only [fitI]; omega)) ?_
            refine Wl.pure (PR.assI rfl) ?_
            refine Wl.nil ?_
            refine tn ?_
            replace st := st.tail
            replace st := st.tail
            exact ⟨(j + 1, (v + 1), x, y, z), (.cons rfl (.cons rfl (.cons rfl (.cons rfl (.cons rfl (.cons rfl (.cons rfl (.cons rfl (.cons rfl (.cons rfl (.cons rfl (.cons rfl (.cons rfl (.cons rfl (.nil _))))))))))))))), ⟨st, (by first | omega | (dsimp only; omega)), (by first | omega | (dsimp only; omega)), (by first | exact bs_t hb (by omega) hu hv (by assumption) | exact bs_f hb (by omega) hu hv (by assumption))⟩, (by first | omega | (dsimp only; omega))⟩
        · refine Wc.exit ?_
          refine tx ?_
          refine tx ?_
          refine bh ?_
          refine bn ?_
          refine tn ?_
          refine Wc.region rfl ?_
          refine Wl.pure (PR.moveI rfl) ?_
          refine Wl.pure (PR.add (a := u) (b := 1) rfl rfl (by simp only [fitI]; omega)) ?_
          refine Wl.pure (PR.assI rfl) ?_
          refine Wl.nil ?_
          refine tn ?_
          exact ⟨(i + 1, (u + 1), x, y, z), (.cons rfl (.cons rfl (.cons rfl (.cons rfl (.cons rfl (.cons rfl (.cons rfl (.cons rfl (.cons rfl (.cons rfl (.cons rfl (.nil _)))))))))))), ⟨st, (by first | omega | (dsimp only; omega)), (by first | omega | (dsimp only; omega)), (by obtain rfl : j = 5 := (by omega); exact hb)⟩, (by first | omega | (dsimp only; omega))⟩
      · refine Wc.exit ?_
        refine tx ?_
        refine tx ?_
        refine bh ?_
        refine tn ?_
        refine Wc.seq ?_
        refine Wc.region rfl ?_
        refine Wl.pure (PR.moveI rfl) ?_
        refine Wl.pure (PR.moveI rfl) ?_
        refine Wl.pure (PR.moveI rfl) ?_
        refine Wl.pure (PR.assI rfl) ?_
        refine Wl.pure (PR.assI rfl) ?_
        refine Wl.pure (PR.assI rfl) ?_
        refine Wl.pure (PR.assI rfl) ?_
        refine Wl.nil ?_
        refine tn ?_
        refine Wc.ret ?_
        refine postL.many (rvs := [.tmp 6, .tmp 7, .tmp 8, .tmp 9]) rfl (.tmp (v := .int .i64 (x)) rfl (.tmp (v := .int .i64 (y)) rfl (.tmp (v := .int .i64 (z)) rfl (.tmp (v := .int .i64 (0)) rfl .nil)))) ?_
        refine RetV.of ?_ st.below
        exact bs_ok (by omega) (by obtain rfl : i = 5 := (by omega); exact hb)

set_option maxHeartbeats 400000 in
set_option maxRecDepth 4000 in
theorem c_spec_BestShift {p : Int} {c : Nat → Nat} {r : Int} {d : Nat → Nat} {q : Nat} {w : World} (hp : -128 ≤ p ∧ p ≤ 127) (hc : ∀ k, c k < 256) (hr : -128 ≤ r ∧ r ≤ 127) (hd : ∀ k, d k < 256) (hq : q < 18446744073709551616) :
    CE Try.prog 27 [.agg (layV (p) (c)).toArray, .agg (layV (r) (d)).toArray, .int .u64 (((q : Nat) : Int))] w (RetV w (.tuple #[.int .i64 (selZ (bsC p c r d q) (bsF q c d 25).1), .int .i64 (selZ (bsC p c r d q) (bsF q c d 25).2.1), .int .i64 (selZ (bsC p c r d q) (bsF q c d 25).2.2), .int .i64 (((bsC p c r d q : Nat) : Int))])) := by
  refine CE.enter 59 [(0, .agg (layV (p) (c)).toArray), (1, .agg (layV (r) (d)).toArray), (2, .int .u64 (((q : Nat) : Int)))] en_27 Try.func27 rfl rfl (Nat.le_of_ble_eq_true rfl) rfl ?_
  have st := St.start w
  refine Wc.seq ?_
  refine Wc.region rfl ?_
  refine Wl.boxA st rfl ?_
  clear st
  intro b3 w1 st
  refine Wl.boxA st rfl ?_
  clear st
  intro b4 w2 st
  refine Wl.pure (PR.assI rfl) ?_
  refine Wl.pure (PR.assI rfl) ?_
  refine Wl.pure (PR.assI rfl) ?_
  refine Wl.pure (PR.assI rfl) ?_
  refine Wl.nil ?_
  refine tn ?_
  refine Wc.seq ?_
  refine Wc.seq ?_
  refine Wc.region rfl ?_
  refine Wl.callV (c_spec_l01Ok (b := b3) (o := 0) (p := p) (c := c) (st.rdA (i := 1) rfl (all_sub layV_len)) (by first | assumption | omega) hc) rfl ?_
  intro w3 hbel
  replace st := st.call hbel
  clear hbel
  refine Wl.pure (PR.not_ rfl) ?_
  refine Wl.pure (PR.moveB rfl) ?_
  refine Wl.splitB (b := (!(layOk p c))) rfl rfl (fun h4 => ?_) (fun h4 => ?_)
  · simp only [Bool.not_eq_true', Bool.not_eq_false', Bool.not_true, Bool.not_false] at h4
    refine Wl.callV (c_spec_l01Ok (b := b4) (o := 0) (p := r) (c := d) (st.rdA (i := 0) rfl (all_sub layV_len)) (by first | assumption | omega) hd) rfl ?_
    intro w5 hbel
    replace st := st.call hbel
    clear hbel
    refine Wl.on rfl rfl ?_
    refine Wl.pure (PR.not_ rfl) ?_
    refine Wl.pure (PR.pickFB rfl rfl) ?_
    refine Wl.nil ?_
    refine tn ?_
    refine Wc.condNB (b := layOk r d) rfl (fun h6 => ?_) (fun h6 => ?_)
    · refine Wc.seq ?_
      refine Wc.region rfl ?_
      refine Wl.pure (PR.assI rfl) ?_
      refine Wl.pure (PR.assI rfl) ?_
      refine Wl.pure (PR.assI rfl) ?_
      refine Wl.pure (PR.assI rfl) ?_
      refine Wl.nil ?_
      refine tn ?_
      refine Wc.ret ?_
      refine tr ?_
      refine postL.many (rvs := [.tmp 6, .tmp 7, .tmp 8, .tmp 9]) rfl (.tmp (v := .int .i64 (0)) rfl (.tmp (v := .int .i64 (0)) rfl (.tmp (v := .int .i64 (0)) rfl (.tmp (v := .int .i64 (1)) rfl .nil)))) ?_
      refine RetV.of ?_ st.below
      exact bs_er (by rw [bsC_1 (by first | exact Or.inl (by assumption) | exact Or.inr (by assumption))]; decide) (by rw [bsC_1 (by first | exact Or.inl (by assumption) | exact Or.inr (by assumption))]; rfl)
    · refine Wc.skip ?_
      refine tn ?_
      refine Wc.seq ?_
      refine Wc.seq ?_
      have hok1 : layOk p c = true := by assumption
      have hok2 : layOk r d = true := by assumption
      refine Wc.region rfl ?_
      refine Wl.pure (PR.fieldAddr tF_29_0 rfl) ?_
      refine Wl.load (i := 1) st tA_22 rfl rfl (rfl) ?_
      refine Wl.pure (PR.fieldAddr tF_29_0 rfl) ?_
      refine Wl.load (i := 0) st tA_22 rfl rfl (rfl) ?_
      refine Wl.pure (PR.neq (a := p) (b := r) rfl rfl) ?_
      refine Wl.nil ?_
      refine tn ?_
      refine Wc.condN (p := p = r) rfl (fun h7 => ?_) (fun h7 => ?_)
      · refine Wc.seq ?_
        refine Wc.region rfl ?_
        refine Wl.pure (PR.assI rfl) ?_
        refine Wl.pure (PR.assI rfl) ?_
        refine Wl.pure (PR.assI rfl) ?_
        refine Wl.pure (PR.assI rfl) ?_
        refine Wl.nil ?_
        refine tn ?_
        refine Wc.ret ?_
        refine tr ?_
        refine postL.many (rvs := [.tmp 6, .tmp 7, .tmp 8, .tmp 9]) rfl (.tmp (v := .int .i64 (0)) rfl (.tmp (v := .int .i64 (0)) rfl (.tmp (v := .int .i64 (0)) rfl (.tmp (v := .int .i64 (4)) rfl .nil)))) ?_
        refine RetV.of ?_ st.below
        exact bs_er (by rw [bsC_4 hok1 hok2 (by omega)]; decide) (by rw [bsC_4 hok1 hok2 (by omega)]; rfl)
      · refine Wc.skip ?_
        refine tn ?_
        refine Wc.seq ?_
        have hpr : p = r := by omega
        refine Wc.region rfl ?_
        refine Wl.pure (PR.assI rfl) ?_
        refine Wl.nil ?_
        refine tn ?_
        refine Wc.seq ?_
        refine Wc.region rfl ?_
        refine Wl.pure (PR.assI rfl) ?_
        refine Wl.nil ?_
        refine tn ?_
        refine Wc.seq ?_
        refine Wc.region rfl ?_
        refine Wl.pure (PR.assI rfl) ?_
        refine Wl.nil ?_
        refine tn ?_
        refine Wc.seq ?_
        refine Wc.seq ?_
        by_cases hqg : q ≠ 0 ∧ q ≠ 18446744073709551615
        · refine Wc.region rfl ?_
          refine Wl.pure (PR.assI rfl) ?_
          refine Wl.nil ?_
          refine tn ?_
          refine Wc.block ?_
          refine Wc.loopF (γ := Nat × Int × Int × Int × Int) (fun g => [(2, .int .u64 (((q : Nat) : Int))), (3, .pointer (some ⟨b3, 0, none⟩)), (4, .pointer (some ⟨b4, 0, none⟩)), (10, .int .i64 (g.2.2.1)), (11, .int .i64 (g.2.2.2.1)), (12, .int .i64 (g.2.2.2.2)), (13, .int .i64 (g.2.1))]) (fun g w_ => St [] w w_ [(b4, layV (r) (d), 29), (b3, layV (p) (c), 29)] ∧ (g.1 ≤ 5) ∧ (g.2.1 = (g.1 : Int) - 2) ∧ ((∃ z1, bsF q c d (5 * g.1 + 0) = (g.2.2.1, g.2.2.2.1, z1) ∧ (g.2.2.2.2 = z1 ∨ (g.2.2.2.2 = -100 ∧ z1 = -9)))) ∧ ((q ≠ 0 ∧ q ≠ 18446744073709551615) ∨ g.1 = 0)) (fun g => 5 - g.1) ?_ ?_
          · exact ⟨(0, (-2), 0, 0, (-100)), (.cons rfl (.cons rfl (.cons rfl (.cons rfl (.cons rfl (.cons rfl (.cons rfl (.nil _)))))))), st, (by first | omega | (dsimp only; omega)), (by first | omega | (dsimp only; omega)), ⟨_, rfl, Or.inr ⟨rfl, rfl⟩⟩, (Or.inr rfl)⟩
          clear st
          rintro ⟨i, u, x, y, z⟩ w8 ⟨st, hi, hu, hb, hbadi⟩
          try dsimp only at st hi hu hb hbadi ⊢
          refine Wc.seq ?_
          refine Wc.seq ?_
          refine Wc.region rfl ?_
          refine Wl.pure (PR.moveI rfl) ?_
          refine Wl.pure (PR.leq (a := u) (b := 2) rfl rfl) ?_
          refine Wl.nil ?_
          refine tn ?_
          refine Wc.condD (p := u ≤ 2) rfl (fun h9 => ?_) (fun h9 => ?_)
          · refine Wc.skip ?_
            refine tn ?_
            refine Wc.seq ?_
            refine Wc.block ?_
            refine Wc.seq ?_
            refine Wc.region rfl ?_
            refine Wl.pure (PR.assI rfl) ?_
            refine Wl.nil ?_
            refine tn ?_
            refine Wc.block ?_
            refine Wc.loopF (γ := Nat × Int × Int × Int × Int) (fun g => [(2, .int .u64 (((q : Nat) : Int))), (3, .pointer (some ⟨b3, 0, none⟩)), (4, .pointer (some ⟨b4, 0, none⟩)), (10, .int .i64 (g.2.2.1)), (11, .int .i64 (g.2.2.2.1)), (12, .int .i64 (g.2.2.2.2)), (13, .int .i64 (u)), (14, .int .i64 (g.2.1)), (29, .int .i64 (u)), (30, .bool (decide (u ≤ 2)))]) (fun g w_ => St [] w w_ [(b4, layV (r) (d), 29), (b3, layV (p) (c), 29)] ∧ (g.1 ≤ 5) ∧ (g.2.1 = (g.1 : Int) - 2) ∧ ((∃ z1, bsF q c d (5 * i + g.1) = (g.2.2.1, g.2.2.2.1, z1) ∧ (g.2.2.2.2 = z1 ∨ (g.2.2.2.2 = -100 ∧ z1 = -9)))) ∧ ((q ≠ 0 ∧ q ≠ 18446744073709551615) ∨ g.1 = 0)) (fun g => 5 - g.1) ?_ ?_
            · exact ⟨(0, (-2), x, y, z), (.cons rfl (.cons rfl (.cons rfl (.cons rfl (.cons rfl (.cons rfl (.cons rfl (.cons rfl (.cons rfl (.cons rfl (.nil _))))))))))), st, (by first | omega | (dsimp only; omega)), (by first | omega | (dsimp only; omega)), hb, (Or.inr rfl)⟩
            clear st
            rintro ⟨j, v, x, y, z⟩ w10 ⟨st, hj, hv, hb, hbadj⟩
            try dsimp only at st hj hv hb hbadj ⊢
            refine Wc.seq ?_
            refine Wc.seq ?_
            refine Wc.region rfl ?_
            refine Wl.pure (PR.moveI rfl) ?_
            refine Wl.pure (PR.leq (a := v) (b := 2) rfl rfl) ?_
            refine Wl.nil ?_
            refine tn ?_
            refine Wc.condD (p := v ≤ 2) rfl (fun h11 => ?_) (fun h11 => ?_)
            · refine Wc.skip ?_
              refine tn ?_
              refine Wc.seq ?_
              refine Wc.block ?_
              refine Wc.seq ?_
              refine Wc.tree (γ := Nat × Nat) (w0 := w) (X := []) (Ks := [b3]) (S := fun i => i == 3 || i == 4 || i == 5 || i == 6 || i == 7) (fun g => [(2, .int .u64 (((q : Nat) : Int))), (3, .pointer (some ⟨b3, 0, none⟩)), (4, .pointer (some ⟨b4, 0, none⟩)), (10, .int .i64 (x)), (11, .int .i64 (y)), (12, .int .i64 (z)), (13, .int .i64 (u)), (14, .int .i64 (v)), (15, .pointer (some ⟨g.2, 0, none⟩)), (29, .int .i64 (u)), (30, .bool (decide (u ≤ 2))), (33, .int .i64 (v)), (34, .bool (decide (v ≤ 2))), (37, .agg (layV (p) (c)).toArray), (38, .int .i64 (u)), (39, .int .i64 (v)), (40, .agg (layV (r) ((shC d u v))).toArray), (41, .slice (some ⟨g.1, 0, none⟩) (2) (2)), (42, .agg (layV ((fun z_ => [(p), (r)].getD z_ 0) 0) ((orC (fun z_ => [c, (shC d u v)].getD z_ (fun _ => 0)) 2))).toArray)]) (fun g w_ => St [] w w_ [(g.1, layS 2 (fun z_ => [(p), (r)].getD z_ 0) (fun z_ => [c, (shC d u v)].getD z_ (fun _ => 0)), 29), (g.2, layV ((fun z_ => [(p), (r)].getD z_ 0) 0) ((orC (fun z_ => [c, (shC d u v)].getD z_ (fun _ => 0)) 2)), 29), (b4, layV (r) (d), 29), (b3, layV (p) (c), 29)]) (.st 1 0 (.st 2 0 (.st 0 3 (.alt 6 (.st 3 2 (.st 4 2 (.st 5 2 (.st 7 2 PT.nil)))) (.st 3 2 (.alt 4 (.alt 6 (.st 5 2 (.st 7 2 PT.nil)) (.st 5 2 (.st 6 2 (.st 7 2 PT.nil)))) (.st 6 2 (.st 4 2 (.st 5 2 (.st 7 2 PT.nil)))))))))) hmix (by kernel_rfl) (by kernel_rfl) rfl rfl ?_ ?_
              · intro w12 hbel
                replace st := st.call hbel
                clear hbel
                refine WT.pure rfl (PR.moveI rfl) ?_
                refine WT.pure rfl (PR.moveI rfl) ?_
                refine WT.loadA (j := 1) rfl (by simp) st tA_29 rfl rfl (all_sub layV_len) layV_len ?_
                refine WT.alt ?_ ?_
                · have st0 := st
                  refine WT.s rfl rfl ?_
                  refine Wl.alloc st tZ_29 rfl ?_
                  clear st
                  intro b15 w13 st
                  refine Wl.nil ⟨rfl, RK.of st0 st (ksC (i := 1) (j := 2) rfl rfl rfl ksN), ?_⟩
                  clear st0
                  have st0 := st
                  refine WT.s rfl rfl ?_
                  refine Wl.callV (c_spec_l01Carried (bk := b4) (o := 0) (r := r) (d := d) (u := u) (v := v) (st.rdA (i := 1) rfl (all_sub layV_len)) (by first | assumption | omega) hd (by first | assumption | omega) (by first | assumption | omega)) rfl ?_
                  intro w14 hbel
                  replace st := st.call hbel
                  clear hbel
                  refine Wl.nil ⟨rfl, RK.of st0 st (ksC (i := 2) (j := 2) rfl rfl rfl ksN), ?_⟩
                  clear st0
                  have st0 := st
                  refine WT.s rfl rfl ?_
                  refine Wl.buildSlice (ps := [(0, .agg (layV (p) (c)).toArray), (1, .agg (layV (r) ((shC d u v))).toArray)]) (cs := layS 2 (fun z_ => [(p), (r)].getD z_ 0) (fun z_ => [c, (shC d u v)].getD z_ (fun _ => 0))) st tS_37 tZ_29 rfl rfl (lit_lays2 _ _ _ _ _) ?_
                  clear st
                  intro b41 w15 st
                  refine Wl.nil ⟨rfl, RK.of st0 st (ksC (i := 2) (j := 3) rfl rfl rfl ksN), ?_⟩
                  clear st0
                  have st0 := st
                  refine WT.s rfl rfl ?_
                  refine Wl.callV (c_spec_l01Stack (A := some ⟨b41, 0, none⟩) (n := 2) (cp := 2) (p := (fun z_ => [(p), (r)].getD z_ 0)) (c := (fun z_ => [c, (shC d u v)].getD z_ (fun _ => 0))) ((st.rdA (i := 0) (n := (2 * 65)) rfl (all_sub (recV_len (s := 65) (layS_row _ _) _))).sl) (lit_p2 hp (by first | assumption | exact hr | (subst hpr; exact hp))) (lit_lt2 hc (shC_lt hd u v)) (by first | assumption | omega) (by first | assumption | omega)) rfl ?_
                  intro w16 hbel
                  replace st := st.call hbel
                  clear hbel
                  refine Wl.nil ⟨rfl, RK.of st0 st (ksC (i := 3) (j := 3) rfl rfl rfl ksN), ?_⟩
                  clear st0
                  have st0 := st
                  refine WT.s rfl rfl ?_
                  refine Wl.storeA (i := 1) (cs' := layV ((fun z_ => [(p), (r)].getD z_ 0) 0) ((orC (fun z_ => [c, (shC d u v)].getD z_ (fun _ => 0)) 2))) st tA_29 rfl rfl layV_len layV_one rfl (le_of_len layV_len (by omega)) (all_put layV_len) ?_
                  clear st
                  intro w17 st
                  replace st : St [] w w17 [(b41, layS 2 (fun z_ => [(p), (r)].getD z_ 0) (fun z_ => [c, (shC d u v)].getD z_ (fun _ => 0)), 29), (b15, layV ((fun z_ => [(p), (r)].getD z_ 0) 0) ((orC (fun z_ => [c, (shC d u v)].getD z_ (fun _ => 0)) 2)), 29), (b4, layV (r) (d), 29), (b3, layV (p) (c), 29)] := st
                  refine Wl.nil ⟨rfl, RK.of st0 st (ksC (i := 3) (j := 3) rfl rfl rfl ksN), ?_⟩
                  clear st0
                  exact WT.nil ⟨(b41, b15), (.cons rfl (.cons rfl (.cons rfl (.cons rfl (.cons rfl (.cons rfl (.cons rfl (.cons rfl (.cons rfl (.cons rfl (.cons rfl (.cons rfl (.cons rfl (.cons rfl (.cons rfl (.cons rfl (.cons rfl (.cons rfl (.cons rfl (.nil _)))))))))))))))))))), st⟩
                · have st0 := st
                  refine WT.s rfl rfl ?_
                  refine Wl.callV (c_spec_l01Carried (bk := b4) (o := 0) (r := r) (d := d) (u := u) (v := v) (st.rdA (i := 0) rfl (all_sub layV_len)) (by first | assumption | omega) hd (by first | assumption | omega) (by first | assumption | omega)) rfl ?_
                  intro w13 hbel
                  replace st := st.call hbel
                  clear hbel
                  refine Wl.nil ⟨rfl, RK.of st0 st (ksC (i := 1) (j := 1) rfl rfl rfl ksN), ?_⟩
                  clear st0
                  refine WT.alt ?_ ?_
                  · have st0 := st
                    refine WT.s rfl rfl ?_
                    refine Wl.buildSlice (ps := [(0, .agg (layV (p) (c)).toArray), (1, .agg (layV (r) ((shC d u v))).toArray)]) (cs := layS 2 (fun z_ => [(p), (r)].getD z_ 0) (fun z_ => [c, (shC d u v)].getD z_ (fun _ => 0))) st tS_37 tZ_29 rfl rfl (lit_lays2 _ _ _ _ _) ?_
                    clear st
                    intro b41 w14 st
                    refine Wl.nil ⟨rfl, RK.of st0 st (ksC (i := 1) (j := 2) rfl rfl rfl ksN), ?_⟩
                    clear st0
                    refine WT.alt ?_ ?_
                    · have st0 := st
                      refine WT.s rfl rfl ?_
                      refine Wl.alloc st tZ_29 rfl ?_
                      clear st
                      intro b15 w15 st
                      refine Wl.nil ⟨rfl, RK.of st0 st (ksC (i := 2) (j := 3) rfl rfl rfl ksN), ?_⟩
                      clear st0
                      have st0 := st
                      refine WT.s rfl rfl ?_
                      refine Wl.callV (c_spec_l01Stack (A := some ⟨b41, 0, none⟩) (n := 2) (cp := 2) (p := (fun z_ => [(p), (r)].getD z_ 0)) (c := (fun z_ => [c, (shC d u v)].getD z_ (fun _ => 0))) ((st.rdA (i := 1) (n := (2 * 65)) rfl (all_sub (recV_len (s := 65) (layS_row _ _) _))).sl) (lit_p2 hp (by first | assumption | exact hr | (subst hpr; exact hp))) (lit_lt2 hc (shC_lt hd u v)) (by first | assumption | omega) (by first | assumption | omega)) rfl ?_
                      intro w16 hbel
                      replace st := st.call hbel
                      clear hbel
                      refine Wl.nil ⟨rfl, RK.of st0 st (ksC (i := 3) (j := 3) rfl rfl rfl ksN), ?_⟩
                      clear st0
                      have st0 := st
                      refine WT.s rfl rfl ?_
                      refine Wl.storeA (i := 0) (cs' := layV ((fun z_ => [(p), (r)].getD z_ 0) 0) ((orC (fun z_ => [c, (shC d u v)].getD z_ (fun _ => 0)) 2))) st tA_29 rfl rfl layV_len layV_one rfl (le_of_len layV_len (by omega)) (all_put layV_len) ?_
                      clear st
                      intro w17 st
                      replace st : St [] w w17 [(b15, layV ((fun z_ => [(p), (r)].getD z_ 0) 0) ((orC (fun z_ => [c, (shC d u v)].getD z_ (fun _ => 0)) 2)), 29), (b41, layS 2 (fun z_ => [(p), (r)].getD z_ 0) (fun z_ => [c, (shC d u v)].getD z_ (fun _ => 0)), 29), (b4, layV (r) (d), 29), (b3, layV (p) (c), 29)] := st
                      refine Wl.nil ⟨rfl, RK.of st0 st (ksC (i := 3) (j := 3) rfl rfl rfl ksN), ?_⟩
                      clear st0
                      replace st : St [] w w17 [(b41, layS 2 (fun z_ => [(p), (r)].getD z_ 0) (fun z_ => [c, (shC d u v)].getD z_ (fun _ => 0)), 29), (b15, layV ((fun z_ => [(p), (r)].getD z_ 0) 0) ((orC (fun z_ => [c, (shC d u v)].getD z_ (fun _ => 0)) 2)), 29), (b4, layV (r) (d), 29), (b3, layV (p) (c), 29)] := st.pick [1, 0, 2, 3] (by decide) rfl
                      exact WT.nil ⟨(b41, b15), (.cons rfl (.cons rfl (.cons rfl (.cons rfl (.cons rfl (.cons rfl (.cons rfl (.cons rfl (.cons rfl (.cons rfl (.cons rfl (.cons rfl (.cons rfl (.cons rfl (.cons rfl (.cons rfl (.cons rfl (.cons rfl (.cons rfl (.nil _)))))))))))))))))))), st⟩
                    · have st0 := st
                      refine WT.s rfl rfl ?_
                      refine Wl.callV (c_spec_l01Stack (A := some ⟨b41, 0, none⟩) (n := 2) (cp := 2) (p := (fun z_ => [(p), (r)].getD z_ 0)) (c := (fun z_ => [c, (shC d u v)].getD z_ (fun _ => 0))) ((st.rdA (i := 0) (n := (2 * 65)) rfl (all_sub (recV_len (s := 65) (layS_row _ _) _))).sl) (lit_p2 hp (by first | assumption | exact hr | (subst hpr; exact hp))) (lit_lt2 hc (shC_lt hd u v)) (by first | assumption | omega) (by first | assumption | omega)) rfl ?_
                      intro w15 hbel
                      replace st := st.call hbel
                      clear hbel
                      refine Wl.nil ⟨rfl, RK.of st0 st (ksC (i := 2) (j := 2) rfl rfl rfl ksN), ?_⟩
                      clear st0
                      have st0 := st
                      refine WT.s rfl rfl ?_
                      refine Wl.alloc st tZ_29 rfl ?_
                      clear st
                      intro b15 w16 st
                      refine Wl.nil ⟨rfl, RK.of st0 st (ksC (i := 2) (j := 3) rfl rfl rfl ksN), ?_⟩
                      clear st0
                      have st0 := st
                      refine WT.s rfl rfl ?_
                      refine Wl.storeA (i := 0) (cs' := layV ((fun z_ => [(p), (r)].getD z_ 0) 0) ((orC (fun z_ => [c, (shC d u v)].getD z_ (fun _ => 0)) 2))) st tA_29 rfl rfl layV_len layV_one rfl (le_of_len layV_len (by omega)) (all_put layV_len) ?_
                      clear st
                      intro w17 st
                      replace st : St [] w w17 [(b15, layV ((fun z_ => [(p), (r)].getD z_ 0) 0) ((orC (fun z_ => [c, (shC d u v)].getD z_ (fun _ => 0)) 2)), 29), (b41, layS 2 (fun z_ => [(p), (r)].getD z_ 0) (fun z_ => [c, (shC d u v)].getD z_ (fun _ => 0)), 29), (b4, layV (r) (d), 29), (b3, layV (p) (c), 29)] := st
                      refine Wl.nil ⟨rfl, RK.of st0 st (ksC (i := 3) (j := 3) rfl rfl rfl ksN), ?_⟩
                      clear st0
                      replace st : St [] w w17 [(b41, layS 2 (fun z_ => [(p), (r)].getD z_ 0) (fun z_ => [c, (shC d u v)].getD z_ (fun _ => 0)), 29), (b15, layV ((fun z_ => [(p), (r)].getD z_ 0) 0) ((orC (fun z_ => [c, (shC d u v)].getD z_ (fun _ => 0)) 2)), 29), (b4, layV (r) (d), 29), (b3, layV (p) (c), 29)] := st.pick [1, 0, 2, 3] (by decide) rfl
                      exact WT.nil ⟨(b41, b15), (.cons rfl (.cons rfl (.cons rfl (.cons rfl (.cons rfl (.cons rfl (.cons rfl (.cons rfl (.cons rfl (.cons rfl (.cons rfl (.cons rfl (.cons rfl (.cons rfl (.cons rfl (.cons rfl (.cons rfl (.cons rfl (.cons rfl (.nil _)))))))))))))))))))), st⟩
                  · have st0 := st
                    refine WT.s rfl rfl ?_
                    refine Wl.alloc st tZ_29 rfl ?_
                    clear st
                    intro b15 w14 st
                    refine Wl.nil ⟨rfl, RK.of st0 st (ksC (i := 1) (j := 2) rfl rfl rfl ksN), ?_⟩
                    clear st0
                    have st0 := st
                    refine WT.s rfl rfl ?_
                    refine Wl.buildSlice (ps := [(0, .agg (layV (p) (c)).toArray), (1, .agg (layV (r) ((shC d u v))).toArray)]) (cs := layS 2 (fun z_ => [(p), (r)].getD z_ 0) (fun z_ => [c, (shC d u v)].getD z_ (fun _ => 0))) st tS_37 tZ_29 rfl rfl (lit_lays2 _ _ _ _ _) ?_
                    clear st
                    intro b41 w15 st
                    refine Wl.nil ⟨rfl, RK.of st0 st (ksC (i := 2) (j := 3) rfl rfl rfl ksN), ?_⟩
                    clear st0
                    have st0 := st
                    refine WT.s rfl rfl ?_
                    refine Wl.callV (c_spec_l01Stack (A := some ⟨b41, 0, none⟩) (n := 2) (cp := 2) (p := (fun z_ => [(p), (r)].getD z_ 0)) (c := (fun z_ => [c, (shC d u v)].getD z_ (fun _ => 0))) ((st.rdA (i := 0) (n := (2 * 65)) rfl (all_sub (recV_len (s := 65) (layS_row _ _) _))).sl) (lit_p2 hp (by first | assumption | exact hr | (subst hpr; exact hp))) (lit_lt2 hc (shC_lt hd u v)) (by first | assumption | omega) (by first | assumption | omega)) rfl ?_
                    intro w16 hbel
                    replace st := st.call hbel
                    clear hbel
                    refine Wl.nil ⟨rfl, RK.of st0 st (ksC (i := 3) (j := 3) rfl rfl rfl ksN), ?_⟩
                    clear st0
                    have st0 := st
                    refine WT.s rfl rfl ?_
                    refine Wl.storeA (i := 1) (cs' := layV ((fun z_ => [(p), (r)].getD z_ 0) 0) ((orC (fun z_ => [c, (shC d u v)].getD z_ (fun _ => 0)) 2))) st tA_29 rfl rfl layV_len layV_one rfl (le_of_len layV_len (by omega)) (all_put layV_len) ?_
                    clear st
                    intro w17 st
                    replace st : St [] w w17 [(b41, layS 2 (fun z_ => [(p), (r)].getD z_ 0) (fun z_ => [c, (shC d u v)].getD z_ (fun _ => 0)), 29), (b15, layV ((fun z_ => [(p), (r)].getD z_ 0) 0) ((orC (fun z_ => [c, (shC d u v)].getD z_ (fun _ => 0)) 2)), 29), (b4, layV (r) (d), 29), (b3, layV (p) (c), 29)] := st
                    refine Wl.nil ⟨rfl, RK.of st0 st (ksC (i := 3) (j := 3) rfl rfl rfl ksN), ?_⟩
                    clear st0
                    exact WT.nil ⟨(b41, b15), (.cons rfl (.cons rfl (.cons rfl (.cons rfl (.cons rfl (.cons rfl (.cons rfl (.cons rfl (.cons rfl (.cons rfl (.cons rfl (.cons rfl (.cons rfl (.cons rfl (.cons rfl (.cons rfl (.cons rfl (.cons rfl (.cons rfl (.nil _)))))))))))))))))))), st⟩
              clear st
              rintro ⟨b41, b15⟩ w18 st
              try dsimp only at st ⊢
              refine tn ?_
              refine Wc.seq ?_
              refine Wc.region rfl ?_
              refine Wl.pure (PR.moveI rfl) ?_
              refine Wl.callV (c_l01Contrast_t (bk := b15) (o := 0) (p := (fun z_ => [(p), (r)].getD z_ 0) 0) (c := (orC (fun z_ => [c, (shC d u v)].getD z_ (fun _ => 0)) 2)) (q := q) (st.rdA (i := 1) rfl (all_sub layV_len)) (by first | assumption | omega) (orC_lt (lit_lt2 hc (shC_lt hd u v)) 2) hq (by first | assumption | omega)) rfl ?_
              intro w19 hbel
              replace st := st.call hbel
              clear hbel
              refine Wl.pure (PR.moveV (.tuple #[.int .i64 (conZ q (orC (fun z_ => [c, (shC d u v)].getD z_ (fun _ => 0)) 2)), .bool true]) rfl) ?_
              refine Wl.pure (PR.extr (i := 0) (vs := [.int .i64 (conZ q (orC (fun z_ => [c, (shC d u v)].getD z_ (fun _ => 0)) 2)), .bool true]) rfl rfl) ?_
              refine Wl.pure (PR.extr (i := 1) (vs := [.int .i64 (conZ q (orC (fun z_ => [c, (shC d u v)].getD z_ (fun _ => 0)) 2)), .bool true]) rfl rfl) ?_
              refine Wl.pure (PR.assI rfl) ?_
              refine Wl.pure (PR.assB rfl) ?_
              refine Wl.nil ?_
              refine tn ?_
              refine Wc.seq ?_
              refine Wc.seq ?_
              refine Wc.region rfl ?_
              refine Wl.pure (PR.moveB rfl) ?_
              refine Wl.pure (PR.not_ rfl) ?_
              refine Wl.nil ?_
              refine tn ?_
              refine Wc.condF rfl ?_
              refine Wc.skip ?_
              refine tn ?_
              refine Wc.seq ?_
              refine Wc.region rfl ?_
              refine Wl.pure (PR.moveI rfl) ?_
              refine Wl.pure (PR.moveI rfl) ?_
              refine Wl.pure (PR.gtr (a := conZ q (orC (fun z_ => [c, (shC d u v)].getD z_ (fun _ => 0)) 2)) (b := z) rfl rfl) ?_
              refine Wl.nil ?_
              refine tn ?_
              refine Wc.condD (p := z < conZ q (orC (fun z_ => [c, (shC d u v)].getD z_ (fun _ => 0)) 2)) rfl (fun h20 => ?_) (fun h20 => ?_)
              · refine Wc.seq ?_
                refine Wc.region rfl ?_
                refine Wl.pure (PR.moveI rfl) ?_
                refine Wl.pure (PR.assI rfl) ?_
                refine Wl.nil ?_
                refine tn ?_
                refine Wc.seq ?_
                refine Wc.region rfl ?_
                refine Wl.pure (PR.moveI rfl) ?_
                refine Wl.pure (PR.assI rfl) ?_
                refine Wl.nil ?_
                refine tn ?_
                refine Wc.region rfl ?_
                refine Wl.pure (PR.moveI rfl) ?_
                refine Wl.pure (PR.assI rfl) ?_
                refine Wl.nil ?_
                refine bn ?_
                refine tn ?_
                refine Wc.region rfl ?_
                refine Wl.pure (PR.moveI rfl) ?_
                refine Wl.pure (PR.add (a := v) (b := 1) rfl rfl (by simp only [fitI]; omega)) ?_
                refine Wl.pure (PR.assI rfl) ?_
                refine Wl.nil ?_
                refine tn ?_
                replace st := st.tail
                replace st := st.tail
                exact ⟨(j + 1, (v + 1), u, v, conZ q (orC (fun z_ => [c, (shC d u v)].getD z_ (fun _ => 0)) 2)), (.cons rfl (.cons rfl (.cons rfl (.cons rfl (.cons rfl (.cons rfl (.cons rfl (.cons rfl (.cons rfl (.cons rfl (.nil _))))))))))), ⟨st, (by first | omega | (dsimp only; omega)), (by first | omega | (dsimp only; omega)), (by first | exact bs_t2 hb (by omega) hu hv (by assumption) (con_bd (orC_lt (lit_lt2 hc (shC_lt hd u v)) 2) q) | exact bs_f2 hb (by omega) hu hv (by assumption) (con_bd (orC_lt (lit_lt2 hc (shC_lt hd u v)) 2) q)), (by omega)⟩, (by first | omega | (dsimp only; omega))⟩
              · refine Wc.skip ?_
                refine bn ?_
                refine tn ?_
                refine Wc.region rfl ?_
                refine Wl.pure (PR.moveI rfl) ?_
                refine Wl.pure (PR.add (a := v) (b := 1) rfl rfl (by simp only [fitI]; omega)) ?_
                refine Wl.pure (PR.assI rfl) ?_
                refine Wl.nil ?_
                refine tn ?_
                replace st := st.tail
                replace st := st.tail
                exact ⟨(j + 1, (v + 1), x, y, z), (.cons rfl (.cons rfl (.cons rfl (.cons rfl (.cons rfl (.cons rfl (.cons rfl (.cons rfl (.cons rfl (.cons rfl (.nil _))))))))))), ⟨st, (by first | omega | (dsimp only; omega)), (by first | omega | (dsimp only; omega)), (by first | exact bs_t2 hb (by omega) hu hv (by assumption) (con_bd (orC_lt (lit_lt2 hc (shC_lt hd u v)) 2) q) | exact bs_f2 hb (by omega) hu hv (by assumption) (con_bd (orC_lt (lit_lt2 hc (shC_lt hd u v)) 2) q)), (by omega)⟩, (by first | omega | (dsimp only; omega))⟩
            · refine Wc.exit ?_
              refine tx ?_
              refine tx ?_
              refine bh ?_
              refine bn ?_
              refine tn ?_
              refine Wc.region rfl ?_
              refine Wl.pure (PR.moveI rfl) ?_
              refine Wl.pure (PR.add (a := u) (b := 1) rfl rfl (by simp only [fitI]; omega)) ?_
              refine Wl.pure (PR.assI rfl) ?_
              refine Wl.nil ?_
              refine tn ?_
              exact ⟨(i + 1, (u + 1), x, y, z), (.cons rfl (.cons rfl (.cons rfl (.cons rfl (.cons rfl (.cons rfl (.cons rfl (.nil _)))))))), ⟨st, (by first | omega | (dsimp only; omega)), (by first | omega | (dsimp only; omega)), (by obtain rfl : j = 5 := (by omega); exact hb), (by omega)⟩, (by first | omega | (dsimp only; omega))⟩
          · refine Wc.exit ?_
            refine tx ?_
            refine tx ?_
            refine bh ?_
            refine tn ?_
            refine Wc.seq ?_
            refine Wc.region rfl ?_
            refine Wl.pure (PR.moveI rfl) ?_
            refine Wl.pure (PR.moveI rfl) ?_
            refine Wl.pure (PR.moveI rfl) ?_
            refine Wl.pure (PR.assI rfl) ?_
            refine Wl.pure (PR.assI rfl) ?_
            refine Wl.pure (PR.assI rfl) ?_
            refine Wl.pure (PR.assI rfl) ?_
            refine Wl.nil ?_
            refine tn ?_
            refine Wc.ret ?_
            refine postL.many (rvs := [.tmp 6, .tmp 7, .tmp 8, .tmp 9]) rfl (.tmp (v := .int .i64 (x)) rfl (.tmp (v := .int .i64 (y)) rfl (.tmp (v := .int .i64 (z)) rfl (.tmp (v := .int .i64 (0)) rfl .nil)))) ?_
            refine RetV.of ?_ st.below
            exact bs_ok (bsC_0 hok1 hok2 hpr hqg) (bs_fin hc hd (by obtain rfl : i = 5 := (by omega); exact hb))
        · refine Wc.region rfl ?_
          refine Wl.pure (PR.assI rfl) ?_
          refine Wl.nil ?_
          refine tn ?_
          refine Wc.block ?_
          refine Wc.loopF (γ := Nat × Int × Int × Int × Int) (fun g => [(2, .int .u64 (((q : Nat) : Int))), (3, .pointer (some ⟨b3, 0, none⟩)), (4, .pointer (some ⟨b4, 0, none⟩)), (10, .int .i64 (g.2.2.1)), (11, .int .i64 (g.2.2.2.1)), (12, .int .i64 (g.2.2.2.2)), (13, .int .i64 (g.2.1))]) (fun g w_ => St [] w w_ [(b4, layV (r) (d), 29), (b3, layV (p) (c), 29)] ∧ (g.1 ≤ 5) ∧ (g.2.1 = (g.1 : Int) - 2) ∧ ((∃ z1, bsF q c d (5 * g.1 + 0) = (g.2.2.1, g.2.2.2.1, z1) ∧ (g.2.2.2.2 = z1 ∨ (g.2.2.2.2 = -100 ∧ z1 = -9)))) ∧ ((q ≠ 0 ∧ q ≠ 18446744073709551615) ∨ g.1 = 0)) (fun g => 5 - g.1) ?_ ?_
          · exact ⟨(0, (-2), 0, 0, (-100)), (.cons rfl (.cons rfl (.cons rfl (.cons rfl (.cons rfl (.cons rfl (.cons rfl (.nil _)))))))), st, (by first | omega | (dsimp only; omega)), (by first | omega | (dsimp only; omega)), ⟨_, rfl, Or.inr ⟨rfl, rfl⟩⟩, (Or.inr rfl)⟩
          clear st
          rintro ⟨i, u, x, y, z⟩ w21 ⟨st, hi, hu, hb, hbadi⟩
          try dsimp only at st hi hu hb hbadi ⊢
          refine Wc.seq ?_
          refine Wc.seq ?_
          refine Wc.region rfl ?_
          refine Wl.pure (PR.moveI rfl) ?_
          refine Wl.pure (PR.leq (a := u) (b := 2) rfl rfl) ?_
          refine Wl.nil ?_
          refine tn ?_
          refine Wc.condD (p := u ≤ 2) rfl (fun h22 => ?_) (fun h22 => ?_)
          · refine Wc.skip ?_
            refine tn ?_
            refine Wc.seq ?_
            refine Wc.block ?_
            refine Wc.seq ?_
            refine Wc.region rfl ?_
            refine Wl.pure (PR.assI rfl) ?_
            refine Wl.nil ?_
            refine tn ?_
            refine Wc.block ?_
            refine Wc.loopF (γ := Nat × Int × Int × Int × Int) (fun g => [(2, .int .u64 (((q : Nat) : Int))), (3, .pointer (some ⟨b3, 0, none⟩)), (4, .pointer (some ⟨b4, 0, none⟩)), (10, .int .i64 (g.2.2.1)), (11, .int .i64 (g.2.2.2.1)), (12, .int .i64 (g.2.2.2.2)), (13, .int .i64 (u)), (14, .int .i64 (g.2.1)), (29, .int .i64 (u)), (30, .bool (decide (u ≤ 2)))]) (fun g w_ => St [] w w_ [(b4, layV (r) (d), 29), (b3, layV (p) (c), 29)] ∧ (g.1 ≤ 5) ∧ (g.2.1 = (g.1 : Int) - 2) ∧ ((∃ z1, bsF q c d (5 * i + g.1) = (g.2.2.1, g.2.2.2.1, z1) ∧ (g.2.2.2.2 = z1 ∨ (g.2.2.2.2 = -100 ∧ z1 = -9)))) ∧ ((q ≠ 0 ∧ q ≠ 18446744073709551615) ∨ g.1 = 0)) (fun g => 5 - g.1) ?_ ?_
            · exact ⟨(0, (-2), x, y, z), (.cons rfl (.cons rfl (.cons rfl (.cons rfl (.cons rfl (.cons rfl (.cons rfl (.cons rfl (.cons rfl (.cons rfl (.nil _))))))))))), st, (by first | omega | (dsimp only; omega)), (by first | omega | (dsimp only; omega)), hb, (Or.inr rfl)⟩
            clear st
            rintro ⟨j, v, x, y, z⟩ w23 ⟨st, hj, hv, hb, hbadj⟩
            try dsimp only at st hj hv hb hbadj ⊢
            refine Wc.seq ?_
            refine Wc.seq ?_
            refine Wc.region rfl ?_
            refine Wl.pure (PR.moveI rfl) ?_
            refine Wl.pure (PR.leq (a := v) (b := 2) rfl rfl) ?_
            refine Wl.nil ?_
            refine tn ?_
            refine Wc.condD (p := v ≤ 2) rfl (fun h24 => ?_) (fun h24 => ?_)
            · refine Wc.skip ?_
              refine tn ?_
              refine Wc.seq ?_
              refine Wc.block ?_
              refine Wc.seq ?_
              refine Wc.tree (γ := Nat × Nat) (w0 := w) (X := []) (Ks := [b3]) (S := fun i => i == 3 || i == 4 || i == 5 || i == 6 || i == 7) (fun g => [(2, .int .u64 (((q : Nat) : Int))), (3, .pointer (some ⟨b3, 0, none⟩)), (4, .pointer (some ⟨b4, 0, none⟩)), (10, .int .i64 (x)), (11, .int .i64 (y)), (12, .int .i64 (z)), (13, .int .i64 (u)), (14, .int .i64 (v)), (15, .pointer (some ⟨g.2, 0, none⟩)), (29, .int .i64 (u)), (30, .bool (decide (u ≤ 2))), (33, .int .i64 (v)), (34, .bool (decide (v ≤ 2))), (37, .agg (layV (p) (c)).toArray), (38, .int .i64 (u)), (39, .int .i64 (v)), (40, .agg (layV (r) ((shC d u v))).toArray), (41, .slice (some ⟨g.1, 0, none⟩) (2) (2)), (42, .agg (layV ((fun z_ => [(p), (r)].getD z_ 0) 0) ((orC (fun z_ => [c, (shC d u v)].getD z_ (fun _ => 0)) 2))).toArray)]) (fun g w_ => St [] w w_ [(g.1, layS 2 (fun z_ => [(p), (r)].getD z_ 0) (fun z_ => [c, (shC d u v)].getD z_ (fun _ => 0)), 29), (g.2, layV ((fun z_ => [(p), (r)].getD z_ 0) 0) ((orC (fun z_ => [c, (shC d u v)].getD z_ (fun _ => 0)) 2)), 29), (b4, layV (r) (d), 29), (b3, layV (p) (c), 29)]) (.st 1 0 (.st 2 0 (.st 0 3 (.alt 6 (.st 3 2 (.st 4 2 (.st 5 2 (.st 7 2 PT.nil)))) (.st 3 2 (.alt 4 (.alt 6 (.st 5 2 (.st 7 2 PT.nil)) (.st 5 2 (.st 6 2 (.st 7 2 PT.nil)))) (.st 6 2 (.st 4 2 (.st 5 2 (.st 7 2 PT.nil)))))))))) hmix (by kernel_rfl) (by kernel_rfl) rfl rfl ?_ ?_
              · intro w25 hbel
                replace st := st.call hbel
                clear hbel
                refine WT.pure rfl (PR.moveI rfl) ?_
                refine WT.pure rfl (PR.moveI rfl) ?_
                refine WT.loadA (j := 1) rfl (by simp) st tA_29 rfl rfl (all_sub layV_len) layV_len ?_
                refine WT.alt ?_ ?_
                · have st0 := st
                  refine WT.s rfl rfl ?_
                  refine Wl.alloc st tZ_29 rfl ?_
                  clear st
                  intro b15 w26 st
                  refine Wl.nil ⟨rfl, RK.of st0 st (ksC (i := 1) (j := 2) rfl rfl rfl ksN), ?_⟩
                  clear st0
                  have st0 := st
                  refine WT.s rfl rfl ?_
                  refine Wl.callV (c_spec_l01Carried (bk := b4) (o := 0) (r := r) (d := d) (u := u) (v := v) (st.rdA (i := 1) rfl (all_sub layV_len)) (by first | assumption | omega) hd (by first | assumption | omega) (by first | assumption | omega)) rfl ?_
                  intro w27 hbel
                  replace st := st.call hbel
                  clear hbel
                  refine Wl.nil ⟨rfl, RK.of st0 st (ksC (i := 2) (j := 2) rfl rfl rfl ksN), ?_⟩
                  clear st0
                  have st0 := st
                  refine WT.s rfl rfl ?_
                  refine Wl.buildSlice (ps := [(0, .agg (layV (p) (c)).toArray), (1, .agg (layV (r) ((shC d u v))).toArray)]) (cs := layS 2 (fun z_ => [(p), (r)].getD z_ 0) (fun z_ => [c, (shC d u v)].getD z_ (fun _ => 0))) st tS_37 tZ_29 rfl rfl (lit_lays2 _ _ _ _ _) ?_
                  clear st
                  intro b41 w28 st
                  refine Wl.nil ⟨rfl, RK.of st0 st (ksC (i := 2) (j := 3) rfl rfl rfl ksN), ?_⟩
                  clear st0
                  have st0 := st
                  refine WT.s rfl rfl ?_
                  refine Wl.callV (c_spec_l01Stack (A := some ⟨b41, 0, none⟩) (n := 2) (cp := 2) (p := (fun z_ => [(p), (r)].getD z_ 0)) (c := (fun z_ => [c, (shC d u v)].getD z_ (fun _ => 0))) ((st.rdA (i := 0) (n := (2 * 65)) rfl (all_sub (recV_len (s := 65) (layS_row _ _) _))).sl) (lit_p2 hp (by first | assumption | exact hr | (subst hpr; exact hp))) (lit_lt2 hc (shC_lt hd u v)) (by first | assumption | omega) (by first | assumption | omega)) rfl ?_
                  intro w29 hbel
                  replace st := st.call hbel
                  clear hbel
                  refine Wl.nil ⟨rfl, RK.of st0 st (ksC (i := 3) (j := 3) rfl rfl rfl ksN), ?_⟩
                  clear st0
                  have st0 := st
                  refine WT.s rfl rfl ?_
                  refine Wl.storeA (i := 1) (cs' := layV ((fun z_ => [(p), (r)].getD z_ 0) 0) ((orC (fun z_ => [c, (shC d u v)].getD z_ (fun _ => 0)) 2))) st tA_29 rfl rfl layV_len layV_one rfl (le_of_len layV_len (by omega)) (all_put layV_len) ?_
                  clear st
                  intro w30 st
                  replace st : St [] w w30 [(b41, layS 2 (fun z_ => [(p), (r)].getD z_ 0) (fun z_ => [c, (shC d u v)].getD z_ (fun _ => 0)), 29), (b15, layV ((fun z_ => [(p), (r)].getD z_ 0) 0) ((orC (fun z_ => [c, (shC d u v)].getD z_ (fun _ => 0)) 2)), 29), (b4, layV (r) (d), 29), (b3, layV (p) (c), 29)] := st
                  refine Wl.nil ⟨rfl, RK.of st0 st (ksC (i := 3) (j := 3) rfl rfl rfl ksN), ?_⟩
                  clear st0
                  exact WT.nil ⟨(b41, b15), (.cons rfl (.cons rfl (.cons rfl (.cons rfl (.cons rfl (.cons rfl (.cons rfl (.cons rfl (.cons rfl (.cons rfl (.cons rfl (.cons rfl (.cons rfl (.cons rfl (.cons rfl (.cons rfl (.cons rfl (.cons rfl (.cons rfl (.nil _)))))))))))))))))))), st⟩
                · have st0 := st
                  refine WT.s rfl rfl ?_
                  refine Wl.callV (c_spec_l01Carried (bk := b4) (o := 0) (r := r) (d := d) (u := u) (v := v) (st.rdA (i := 0) rfl (all_sub layV_len)) (by first | assumption | omega) hd (by first | assumption | omega) (by first | assumption | omega)) rfl ?_
                  intro w26 hbel
                  replace st := st.call hbel
                  clear hbel
                  refine Wl.nil ⟨rfl, RK.of st0 st (ksC (i := 1) (j := 1) rfl rfl rfl ksN), ?_⟩
                  clear st0
                  refine WT.alt ?_ ?_
                  · have st0 := st
                    refine WT.s rfl rfl ?_
                    refine Wl.buildSlice (ps := [(0, .agg (layV (p) (c)).toArray), (1, .agg (layV (r) ((shC d u v))).toArray)]) (cs := layS 2 (fun z_ => [(p), (r)].getD z_ 0) (fun z_ => [c, (shC d u v)].getD z_ (fun _ => 0))) st tS_37 tZ_29 rfl rfl (lit_lays2 _ _ _ _ _) ?_
                    clear st
                    intro b41 w27 st
                    refine Wl.nil ⟨rfl, RK.of st0 st (ksC (i := 1) (j := 2) rfl rfl rfl ksN), ?_⟩
                    clear st0
                    refine WT.alt ?_ ?_
                    · have st0 := st
                      refine WT.s rfl rfl ?_
                      refine Wl.alloc st tZ_29 rfl ?_
                      clear st
                      intro b15 w28 st
                      refine Wl.nil ⟨rfl, RK.of st0 st (ksC (i := 2) (j := 3) rfl rfl rfl ksN), ?_⟩
                      clear st0
                      have st0 := st
                      refine WT.s rfl rfl ?_
                      refine Wl.callV (c_spec_l01Stack (A := some ⟨b41, 0, none⟩) (n := 2) (cp := 2) (p := (fun z_ => [(p), (r)].getD z_ 0)) (c := (fun z_ => [c, (shC d u v)].getD z_ (fun _ => 0))) ((st.rdA (i := 1) (n := (2 * 65)) rfl (all_sub (recV_len (s := 65) (layS_row _ _) _))).sl) (lit_p2 hp (by first | assumption | exact hr | (subst hpr; exact hp))) (lit_lt2 hc (shC_lt hd u v)) (by first | assumption | omega) (by first | assumption | omega)) rfl ?_
                      intro w29 hbel
                      replace st := st.call hbel
                      clear hbel
                      refine Wl.nil ⟨rfl, RK.of st0 st (ksC (i := 3) (j := 3) rfl rfl rfl ksN), ?_⟩
                      clear st0
                      have st0 := st
                      refine WT.s rfl rfl ?_
                      refine Wl.storeA (i := 0) (cs' := layV ((fun z_ => [(p), (r)].getD z_ 0) 0) ((orC (fun z_ => [c, (shC d u v)].getD z_ (fun _ => 0)) 2))) st tA_29 rfl rfl layV_len layV_one rfl (le_of_len layV_len (by omega)) (all_put layV_len) ?_
                      clear st
                      intro w30 st
                      replace st : St [] w w30 [(b15, layV ((fun z_ => [(p), (r)].getD z_ 0) 0) ((orC (fun z_ => [c, (shC d u v)].getD z_ (fun _ => 0)) 2)), 29), (b41, layS 2 (fun z_ => [(p), (r)].getD z_ 0) (fun z_ => [c, (shC d u v)].getD z_ (fun _ => 0)), 29), (b4, layV (r) (d), 29), (b3, layV (p) (c), 29)] := st
                      refine Wl.nil ⟨rfl, RK.of st0 st (ksC (i := 3) (j := 3) rfl rfl rfl ksN), ?_⟩
                      clear st0
                      replace st : St [] w w30 [(b41, layS 2 (fun z_ => [(p), (r)].getD z_ 0) (fun z_ => [c, (shC d u v)].getD z_ (fun _ => 0)), 29), (b15, layV ((fun z_ => [(p), (r)].getD z_ 0) 0) ((orC (fun z_ => [c, (shC d u v)].getD z_ (fun _ => 0)) 2)), 29), (b4, layV (r) (d), 29), (b3, layV (p) (c), 29)] := st.pick [1, 0, 2, 3] (by decide) rfl
                      exact WT.nil ⟨(b41, b15), (.cons rfl (.cons rfl (.cons rfl (.cons rfl (.cons rfl (.cons rfl (.cons rfl (.cons rfl (.cons rfl (.cons rfl (.cons rfl (.cons rfl (.cons rfl (.cons rfl (.cons rfl (.cons rfl (.cons rfl (.cons rfl (.cons rfl (.nil _)))))))))))))))))))), st⟩
                    · have st0 := st
                      refine WT.s rfl rfl ?_
                      refine Wl.callV (c_spec_l01Stack (A := some ⟨b41, 0, none⟩) (n := 2) (cp := 2) (p := (fun z_ => [(p), (r)].getD z_ 0)) (c := (fun z_ => [c, (shC d u v)].getD z_ (fun _ => 0))) ((st.rdA (i := 0) (n := (2 * 65)) rfl (all_sub (recV_len (s := 65) (layS_row _ _) _))).sl) (lit_p2 hp (by first | assumption | exact hr | (subst hpr; exact hp))) (lit_lt2 hc (shC_lt hd u v)) (by first | assumption | omega) (by first | assumption | omega)) rfl ?_
                      intro w28 hbel
                      replace st := st.call hbel
                      clear hbel
                      refine Wl.nil ⟨rfl, RK.of st0 st (ksC (i := 2) (j := 2) rfl rfl rfl ksN), ?_⟩
                      clear st0
                      have st0 := st
                      refine WT.s rfl rfl ?_
                      refine Wl.alloc st tZ_29 rfl ?_
                      clear st
                      intro b15 w29 st
                      refine Wl.nil ⟨rfl, RK.of st0 st (ksC (i := 2) (j := 3) rfl rfl rfl ksN), ?_⟩
                      clear st0
                      have st0 := st
                      refine WT.s rfl rfl ?_
                      refine Wl.storeA (i := 0) (cs' := layV ((fun z_ => [(p), (r)].getD z_ 0) 0) ((orC (fun z_ => [c, (shC d u v)].getD z_ (fun _ => 0)) 2))) st tA_29 rfl rfl layV_len layV_one rfl (le_of_len layV_len (by omega)) (all_put layV_len) ?_
                      clear st
                      intro w30 st
                      replace st : St [] w w30 [(b15, layV ((fun z_ => [(p), (r)].getD z_ 0) 0) ((orC (fun z_ => [c, (shC d u v)].getD z_ (fun _ => 0)) 2)), 29), (b41, layS 2 (fun z_ => [(p), (r)].getD z_ 0) (fun z_ => [c, (shC d u v)].getD z_ (fun _ => 0)), 29), (b4, layV (r) (d), 29), (b3, layV (p) (c), 29)] := st
                      refine Wl.nil ⟨rfl, RK.of st0 st (ksC (i := 3) (j := 3) rfl rfl rfl ksN), ?_⟩
                      clear st0
                      replace st : St [] w w30 [(b41, layS 2 (fun z_ => [(p), (r)].getD z_ 0) (fun z_ => [c, (shC d u v)].getD z_ (fun _ => 0)), 29), (b15, layV ((fun z_ => [(p), (r)].getD z_ 0) 0) ((orC (fun z_ => [c, (shC d u v)].getD z_ (fun _ => 0)) 2)), 29), (b4, layV (r) (d), 29), (b3, layV (p) (c), 29)] := st.pick [1, 0, 2, 3] (by decide) rfl
                      exact WT.nil ⟨(b41, b15), (.cons rfl (.cons rfl (.cons rfl (.cons rfl (.cons rfl (.cons rfl (.cons rfl (.cons rfl (.cons rfl (.cons rfl (.cons rfl (.cons rfl (.cons rfl (.cons rfl (.cons rfl (.cons rfl (.cons rfl (.cons rfl (.cons rfl (.nil _)))))))))))))))))))), st⟩
                  · have st0 := st
                    refine WT.s rfl rfl ?_
                    refine Wl.alloc st tZ_29 rfl ?_
                    clear st
                    intro b15 w27 st
                    refine Wl.nil ⟨rfl, RK.of st0 st (ksC (i := 1) (j := 2) rfl rfl rfl ksN), ?_⟩
                    clear st0
                    have st0 := st
                    refine WT.s rfl rfl ?_
                    refine Wl.buildSlice (ps := [(0, .agg (layV (p) (c)).toArray), (1, .agg (layV (r) ((shC d u v))).toArray)]) (cs := layS 2 (fun z_ => [(p), (r)].getD z_ 0) (fun z_ => [c, (shC d u v)].getD z_ (fun _ => 0))) st tS_37 tZ_29 rfl rfl (lit_lays2 _ _ _ _ _) ?_
                    clear st
                    intro b41 w28 st
                    refine Wl.nil ⟨rfl, RK.of st0 st (ksC (i := 2) (j := 3) rfl rfl rfl ksN), ?_⟩
                    clear st0
                    have st0 := st
                    refine WT.s rfl rfl ?_
                    refine Wl.callV (c_spec_l01Stack (A := some ⟨b41, 0, none⟩) (n := 2) (cp := 2) (p := (fun z_ => [(p), (r)].getD z_ 0)) (c := (fun z_ => [c, (shC d u v)].getD z_ (fun _ => 0))) ((st.rdA (i := 0) (n := (2 * 65)) rfl (all_sub (recV_len (s := 65) (layS_row _ _) _))).sl) (lit_p2 hp (by first | assumption | exact hr | (subst hpr; exact hp))) (lit_lt2 hc (shC_lt hd u v)) (by first | assumption | omega) (by first | assumption | omega)) rfl ?_
                    intro w29 hbel
                    replace st := st.call hbel
                    clear hbel
                    refine Wl.nil ⟨rfl, RK.of st0 st (ksC (i := 3) (j := 3) rfl rfl rfl ksN), ?_⟩
                    clear st0
                    have st0 := st
                    refine WT.s rfl rfl ?_
                    refine Wl.storeA (i := 1) (cs' := layV ((fun z_ => [(p), (r)].getD z_ 0) 0) ((orC (fun z_ => [c, (shC d u v)].getD z_ (fun _ => 0)) 2))) st tA_29 rfl rfl layV_len layV_one rfl (le_of_len layV_len (by omega)) (all_put layV_len) ?_
                    clear st
                    intro w30 st
                    replace st : St [] w w30 [(b41, layS 2 (fun z_ => [(p), (r)].getD z_ 0) (fun z_ => [c, (shC d u v)].getD z_ (fun _ => 0)), 29), (b15, layV ((fun z_ => [(p), (r)].getD z_ 0) 0) ((orC (fun z_ => [c, (shC d u v)].getD z_ (fun _ => 0)) 2)), 29), (b4, layV (r) (d), 29), (b3, layV (p) (c), 29)] := st
                    refine Wl.nil ⟨rfl, RK.of st0 st (ksC (i := 3) (j := 3) rfl rfl rfl ksN), ?_⟩
                    clear st0
                    exact WT.nil ⟨(b41, b15), (.cons rfl (.cons rfl (.cons rfl (.cons rfl (.cons rfl (.cons rfl (.cons rfl (.cons rfl (.cons rfl (.cons rfl (.cons rfl (.cons rfl (.cons rfl (.cons rfl (.cons rfl (.cons rfl (.cons rfl (.cons rfl (.cons rfl (.nil _)))))))))))))))))))), st⟩
              clear st
              rintro ⟨b41, b15⟩ w31 st
              try dsimp only at st ⊢
              refine tn ?_
              refine Wc.seq ?_
              refine Wc.region rfl ?_
              refine Wl.pure (PR.moveI rfl) ?_
              refine Wl.callV (c_l01Contrast_f (bk := b15) (o := 0) (p := (fun z_ => [(p), (r)].getD z_ 0) 0) (c := (orC (fun z_ => [c, (shC d u v)].getD z_ (fun _ => 0)) 2)) (q := q) (st.rdA (i := 1) rfl (all_sub layV_len)) (by first | assumption | omega) (orC_lt (lit_lt2 hc (shC_lt hd u v)) 2) hq (by first | assumption | omega)) rfl ?_
              intro w32 hbel
              replace st := st.call hbel
              clear hbel
              refine Wl.pure (PR.moveV (.tuple #[.int .i64 (0), .bool false]) rfl) ?_
              refine Wl.pure (PR.extr (i := 0) (vs := [.int .i64 (0), .bool false]) rfl rfl) ?_
              refine Wl.pure (PR.extr (i := 1) (vs := [.int .i64 (0), .bool false]) rfl rfl) ?_
              refine Wl.pure (PR.assI rfl) ?_
              refine Wl.pure (PR.assB rfl) ?_
              refine Wl.nil ?_
              refine tn ?_
              refine Wc.seq ?_
              refine Wc.seq ?_
              refine Wc.region rfl ?_
              refine Wl.pure (PR.moveB rfl) ?_
              refine Wl.pure (PR.not_ rfl) ?_
              refine Wl.nil ?_
              refine tn ?_
              refine Wc.condT rfl ?_
              refine Wc.seq ?_
              refine Wc.region rfl ?_
              refine Wl.pure (PR.assI rfl) ?_
              refine Wl.pure (PR.assI rfl) ?_
              refine Wl.pure (PR.assI rfl) ?_
              refine Wl.pure (PR.assI rfl) ?_
              refine Wl.nil ?_
              refine tn ?_
              refine Wc.ret ?_
              refine tr ?_
              refine br ?_
              refine tr ?_
              refine tr ?_
              refine br ?_
              refine br ?_
              refine tr ?_
              refine tr ?_
              refine br ?_
              refine tr ?_
              refine postL.many (rvs := [.tmp 6, .tmp 7, .tmp 8, .tmp 9]) rfl (.tmp (v := .int .i64 (0)) rfl (.tmp (v := .int .i64 (0)) rfl (.tmp (v := .int .i64 (0)) rfl (.tmp (v := .int .i64 (6)) rfl .nil)))) ?_
              refine RetV.of ?_ st.below
              exact bs_er (by rw [bsC_6 hok1 hok2 hpr hqg]; decide) (by rw [bsC_6 hok1 hok2 hpr hqg]; rfl)
            · refine Wc.exit ?_
              refine tx ?_
              refine tx ?_
              refine bh ?_
              refine bn ?_
              refine tn ?_
              refine Wc.region rfl ?_
              refine Wl.pure (PR.moveI rfl) ?_
              refine Wl.pure (PR.add (a := u) (b := 1) rfl rfl (by simp only [fitI]; omega)) ?_
              refine Wl.pure (PR.assI rfl) ?_
              refine Wl.nil ?_
              refine tn ?_
              exact ⟨(i + 1, (u + 1), x, y, z), (.cons rfl (.cons rfl (.cons rfl (.cons rfl (.cons rfl (.cons rfl (.cons rfl (.nil _)))))))), ⟨st, (by first | omega | (dsimp only; omega)), (by first | omega | (dsimp only; omega)), (by obtain rfl : j = 5 := (by omega); exact hb), (by omega)⟩, (by first | omega | (dsimp only; omega))⟩
          · refine Wc.exit ?_
            refine tx ?_
            refine tx ?_
            refine bh ?_
            refine tn ?_
            refine Wc.seq ?_
            refine Wc.region rfl ?_
            refine Wl.pure (PR.moveI rfl) ?_
            refine Wl.pure (PR.moveI rfl) ?_
            refine Wl.pure (PR.moveI rfl) ?_
            refine Wl.pure (PR.assI rfl) ?_
            refine Wl.pure (PR.assI rfl) ?_
            refine Wl.pure (PR.assI rfl) ?_
            refine Wl.pure (PR.assI rfl) ?_
            refine Wl.nil ?_
            refine tn ?_
            refine Wc.ret ?_
            refine postL.many (rvs := [.tmp 6, .tmp 7, .tmp 8, .tmp 9]) rfl (.tmp (v := .int .i64 (x)) rfl (.tmp (v := .int .i64 (y)) rfl (.tmp (v := .int .i64 (z)) rfl (.tmp (v := .int .i64 (0)) rfl .nil)))) ?_
            refine RetV.of ?_ st.below
            exact absurd (hbadi.resolve_left hqg) (by omega)
  · simp only [Bool.not_eq_true', Bool.not_eq_false', Bool.not_true, Bool.not_false] at h4
    refine Wl.off rfl rfl rfl ?_
    refine Wl.pure (PR.pickTB rfl rfl) ?_
    refine Wl.nil ?_
    refine tn ?_
    refine Wc.condT rfl ?_
    refine Wc.seq ?_
    refine Wc.region rfl ?_
    refine Wl.pure (PR.assI rfl) ?_
    refine Wl.pure (PR.assI rfl) ?_
    refine Wl.pure (PR.assI rfl) ?_
    refine Wl.pure (PR.assI rfl) ?_
    refine Wl.nil ?_
    refine tn ?_
    refine Wc.ret ?_
    refine tr ?_
    refine postL.many (rvs := [.tmp 6, .tmp 7, .tmp 8, .tmp 9]) rfl (.tmp (v := .int .i64 (0)) rfl (.tmp (v := .int .i64 (0)) rfl (.tmp (v := .int .i64 (0)) rfl (.tmp (v := .int .i64 (1)) rfl .nil)))) ?_
    refine RetV.of ?_ st.below
    exact bs_er (by rw [bsC_1 (by first | exact Or.inl (by assumption) | exact Or.inr (by assumption))]; decide) (by rw [bsC_1 (by first | exact Or.inl (by assumption) | exact Or.inr (by assumption))]; rfl)

set_option maxHeartbeats 400000 in
set_option maxRecDepth 4000 in
theorem c_laws_FnExactBestShift {p : Int} {c : Nat → Nat} {r : Int} {d : Nat → Nat} {q : Nat} {w : World} (hp : -128 ≤ p ∧ p ≤ 127) (hc : ∀ k, c k < 256) (hr : -128 ≤ r ∧ r ≤ 127) (hd : ∀ k, d k < 256) (hq : q < 18446744073709551616) :
    CE Try.prog 6 [.agg (layV (p) (c)).toArray, .agg (layV (r) (d)).toArray, .int .u64 (((q : Nat) : Int))] w (RetV w (.bool true)) := by
  refine CE.enter 55 [(0, .agg (layV (p) (c)).toArray), (1, .agg (layV (r) (d)).toArray), (2, .int .u64 (((q : Nat) : Int)))] en_6 Try.func6 rfl rfl (Nat.le_of_ble_eq_true rfl) rfl ?_
  have st := St.start w
  refine Wc.seq ?_
  refine Wc.region rfl ?_
  refine Wl.boxA st rfl ?_
  clear st
  intro b3 w1 st
  refine Wl.boxA st rfl ?_
  clear st
  intro b4 w2 st
  refine Wl.pure (PR.assB rfl) ?_
  refine Wl.nil ?_
  refine tn ?_
  refine Wc.seq ?_
  refine Wc.quiet hmix (by kernel_rfl) rfl ?_
  refine Wq.loadA (i := 1) st tA_25 rfl rfl (all_sub layV_len) layV_len ?_
  refine Wq.callV (fun _ hbel => c_laws_toLayer (p := p) (c := c) hc) rfl ?_
  refine Wq.loadA (i := 0) st tA_25 rfl rfl (all_sub layV_len) layV_len ?_
  refine Wq.callV (fun _ hbel => c_laws_toLayer (p := r) (c := d) hd) rfl ?_
  refine Wq.pure (PR.moveI rfl) ?_
  refine Wq.callV (fun _ hbel => c_spec_BestShift (p := p) (c := c) (r := r) (d := d) (q := q) (by first | assumption | omega) (by assumption) (by first | assumption | omega) (by assumption) hq) rfl ?_
  refine Wq.pure (PR.moveV (.tuple #[.int .i64 (selZ (bsC p c r d q) (bsF q c d 25).1), .int .i64 (selZ (bsC p c r d q) (bsF q c d 25).2.1), .int .i64 (selZ (bsC p c r d q) (bsF q c d 25).2.2), .int .i64 (((bsC p c r d q : Nat) : Int))]) rfl) ?_
  refine Wq.pure (PR.extr (i := 0) (vs := [.int .i64 (selZ (bsC p c r d q) (bsF q c d 25).1), .int .i64 (selZ (bsC p c r d q) (bsF q c d 25).2.1), .int .i64 (selZ (bsC p c r d q) (bsF q c d 25).2.2), .int .i64 (((bsC p c r d q : Nat) : Int))]) rfl rfl) ?_
  refine Wq.pure (PR.extr (i := 1) (vs := [.int .i64 (selZ (bsC p c r d q) (bsF q c d 25).1), .int .i64 (selZ (bsC p c r d q) (bsF q c d 25).2.1), .int .i64 (selZ (bsC p c r d q) (bsF q c d 25).2.2), .int .i64 (((bsC p c r d q : Nat) : Int))]) rfl rfl) ?_
  refine Wq.pure (PR.extr (i := 2) (vs := [.int .i64 (selZ (bsC p c r d q) (bsF q c d 25).1), .int .i64 (selZ (bsC p c r d q) (bsF q c d 25).2.1), .int .i64 (selZ (bsC p c r d q) (bsF q c d 25).2.2), .int .i64 (((bsC p c r d q : Nat) : Int))]) rfl rfl) ?_
  refine Wq.pure (PR.extr (i := 3) (vs := [.int .i64 (selZ (bsC p c r d q) (bsF q c d 25).1), .int .i64 (selZ (bsC p c r d q) (bsF q c d 25).2.1), .int .i64 (selZ (bsC p c r d q) (bsF q c d 25).2.2), .int .i64 (((bsC p c r d q : Nat) : Int))]) rfl rfl) ?_
  refine Wq.pure (PR.assI rfl) ?_
  refine Wq.pure (PR.assI rfl) ?_
  refine Wq.pure (PR.assI rfl) ?_
  refine Wq.pure (PR.assI rfl) ?_
  refine Wq.nil (fun w3 hbel => ?_)
  replace st := st.call hbel
  clear hbel
  refine tn ?_
  refine Wc.seq ?_
  refine Wc.quiet hmix (by kernel_rfl) rfl ?_
  refine Wq.loadA (i := 1) st tA_25 rfl rfl (all_sub layV_len) layV_len ?_
  refine Wq.callV (fun _ hbel => c_laws_toLayer (p := p) (c := c) hc) rfl ?_
  refine Wq.loadA (i := 0) st tA_25 rfl rfl (all_sub layV_len) layV_len ?_
  refine Wq.callV (fun _ hbel => c_laws_toLayer (p := r) (c := d) hd) rfl ?_
  refine Wq.pure (PR.moveI rfl) ?_
  refine Wq.callV (fun _ hbel => c_impl_BestShift (p := p) (c := c) (r := r) (d := d) (q := q) (by first | assumption | omega) (by assumption) (by first | assumption | omega) (by assumption) hq) rfl ?_
  refine Wq.pure (PR.moveV (.tuple #[.int .i64 (selZ (bsC p c r d q) (bsF q c d 25).1), .int .i64 (selZ (bsC p c r d q) (bsF q c d 25).2.1), .int .i64 (selZ (bsC p c r d q) (bsF q c d 25).2.2), .int .i64 (((bsC p c r d q : Nat) : Int))]) rfl) ?_
  refine Wq.pure (PR.extr (i := 0) (vs := [.int .i64 (selZ (bsC p c r d q) (bsF q c d 25).1), .int .i64 (selZ (bsC p c r d q) (bsF q c d 25).2.1), .int .i64 (selZ (bsC p c r d q) (bsF q c d 25).2.2), .int .i64 (((bsC p c r d q : Nat) : Int))]) rfl rfl) ?_
  refine Wq.pure (PR.extr (i := 1) (vs := [.int .i64 (selZ (bsC p c r d q) (bsF q c d 25).1), .int .i64 (selZ (bsC p c r d q) (bsF q c d 25).2.1), .int .i64 (selZ (bsC p c r d q) (bsF q c d 25).2.2), .int .i64 (((bsC p c r d q : Nat) : Int))]) rfl rfl) ?_
  refine Wq.pure (PR.extr (i := 2) (vs := [.int .i64 (selZ (bsC p c r d q) (bsF q c d 25).1), .int .i64 (selZ (bsC p c r d q) (bsF q c d 25).2.1), .int .i64 (selZ (bsC p c r d q) (bsF q c d 25).2.2), .int .i64 (((bsC p c r d q : Nat) : Int))]) rfl rfl) ?_
  refine Wq.pure (PR.extr (i := 3) (vs := [.int .i64 (selZ (bsC p c r d q) (bsF q c d 25).1), .int .i64 (selZ (bsC p c r d q) (bsF q c d 25).2.1), .int .i64 (selZ (bsC p c r d q) (bsF q c d 25).2.2), .int .i64 (((bsC p c r d q : Nat) : Int))]) rfl rfl) ?_
  refine Wq.pure (PR.assI rfl) ?_
  refine Wq.pure (PR.assI rfl) ?_
  refine Wq.pure (PR.assI rfl) ?_
  refine Wq.pure (PR.assI rfl) ?_
  refine Wq.nil (fun w4 hbel => ?_)
  replace st := st.call hbel
  clear hbel
  refine tn ?_
  refine Wc.seq ?_
  refine Wc.seq ?_
  refine Wc.region rfl ?_
  refine Wl.pure (PR.moveI rfl) ?_
  refine Wl.pure (PR.moveI rfl) ?_
  refine Wl.pure (PR.neqS (a := selZ (bsC p c r d q) (bsF q c d 25).1) rfl rfl) ?_
  refine Wl.pure (PR.moveB rfl) ?_
  refine Wl.on rfl rfl ?_
  refine Wl.pure (PR.moveI rfl) ?_
  refine Wl.on rfl rfl ?_
  refine Wl.pure (PR.moveI rfl) ?_
  refine Wl.on rfl rfl ?_
  refine Wl.pure (PR.neqS (a := selZ (bsC p c r d q) (bsF q c d 25).2.1) rfl rfl) ?_
  refine Wl.pure (PR.pickFB rfl rfl) ?_
  refine Wl.pure (PR.moveB rfl) ?_
  refine Wl.on rfl rfl ?_
  refine Wl.pure (PR.moveI rfl) ?_
  refine Wl.on rfl rfl ?_
  refine Wl.pure (PR.moveI rfl) ?_
  refine Wl.on rfl rfl ?_
  refine Wl.pure (PR.neqS (a := selZ (bsC p c r d q) (bsF q c d 25).2.2) rfl rfl) ?_
  refine Wl.pure (PR.pickFB rfl rfl) ?_
  refine Wl.pure (PR.moveB rfl) ?_
  refine Wl.on rfl rfl ?_
  refine Wl.pure (PR.moveI rfl) ?_
  refine Wl.on rfl rfl ?_
  refine Wl.pure (PR.moveI rfl) ?_
  refine Wl.on rfl rfl ?_
  refine Wl.pure (PR.neqS (a := ((bsC p c r d q : Nat) : Int)) rfl rfl) ?_
  refine Wl.pure (PR.pickFB rfl rfl) ?_
  refine Wl.nil ?_
  refine tn ?_
  refine Wc.condF rfl ?_
  refine Wc.skip ?_
  refine tn ?_
  refine Wc.seq ?_
  refine Wc.region rfl ?_
  refine Wl.pure (PR.assB rfl) ?_
  refine Wl.nil ?_
  refine tn ?_
  refine Wc.ret ?_
  refine postL.tmp rfl rfl ?_
  exact RetV.of rfl st.below

end Go.Proofs.Ytagghfllgafmgaa
