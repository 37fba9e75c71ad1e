/-
  Contracts of functions, printed by a program of ours.
-/
import Derived.Test.YtajkjhjnbfcpfaaCW2
namespace Go.Proofs.Ytajkjhjnbfcpfaa
open Go.RowKit
set_option linter.unusedVariables false
set_option linter.unusedSimpArgs false

set_option maxHeartbeats 400000 in
set_option maxRecDepth 4000 in
theorem c_impl_drawn {bs : Nat} {x : Nat} {n : Nat} {fk : Nat} {cap : List Value} {m : Nat} {f : Nat → Nat → Nat} {w : World} (hx : x < 4294967296) (hn : 1 ≤ n ∧ n ≤ 8) (hm : 1 ≤ m ∧ m ≤ 8) (hf : ∀ i j, f i j < 256) (hF : ∀ i, i < 64 → ∀ w', Fr [bs] w w' → CE Try.prog fk (.int .i64 ((i : Nat) : Int) :: cap) w' (RetXG w' [] 5 1 m (arrU .u8 m (f i)) (fun b_ c_ => .slice (some ⟨b_, 0, none⟩) (m) (c_)) [])) (hst : St [bs] w w [(bs, [.int .u32 (((x : Nat) : Int))], 38)]) :
    CE Try.prog 76 [.int .i8 (((n : Nat) : Int)), .pointer (some ⟨bs, 0, none⟩), .func (.func fk) #[] cap.toArray] w (RetXG w [bs] 30 65 (m) (layS m (fun _ => ((n : Nat) : Int)) (dwC f n x)) (fun b_ c_ => .slice (some ⟨b_, 0, none⟩) (m) (c_)) [(bs, [.int .u32 (((sdK n x 64 : Nat) : Int))], 38)]) := by
  refine CE.enter 46 [(0, .int .i8 (((n : Nat) : Int))), (1, .pointer (some ⟨bs, 0, none⟩)), (2, .func (.func fk) #[] cap.toArray)] en_76 Try.func76 rfl rfl (Nat.le_of_ble_eq_true rfl) rfl ?_
  have st := hst
  refine Wc.seq ?_
  refine Wc.region rfl ?_
  refine Wl.pure (PR.assL rfl) ?_
  refine Wl.nil ?_
  refine tn ?_
  refine Wc.seq ?_
  refine Wc.region rfl ?_
  refine Wl.pure (PR.moveI rfl) ?_
  refine Wl.pure (PR.build (ps := [(0, .int .i8 (((n : Nat) : Int)))]) (cs := layV ((n : Nat) : Int) ((fun _ => 0))) tB_30 rfl rfl) ?_
  refine Wl.buildSlice (ps := [(0, .agg (layV ((n : Nat) : Int) ((fun _ => 0))).toArray)]) (cs := layS 1 (fun z_ => [((n : Nat) : Int)].getD z_ 0) (fun z_ => [(fun _ => 0)].getD z_ (fun _ => 0))) st tS_99 tZ_30 rfl rfl (lit_lays1 _ _ _) ?_
  clear st
  intro b14 w1 st
  refine Wl.pure (PR.moveF rfl) ?_
  refine Wl.callPXG [] st rfl rfl (hF 0 (by omega) _ st.fr) rfl ?_
  clear st
  intro b16 c16 sp16 w2 hc16 hs16 st
  replace st : St [bs] w w2 [(b16, arrU .u8 m (f 0) ++ sp16, 5), (b14, layS 1 (fun z_ => [((n : Nat) : Int)].getD z_ 0) (fun z_ => [(fun _ => 0)].getD z_ (fun _ => 0)), 30), (bs, [.int .u32 (((x : Nat) : Int))], 38)] := st
  refine Wl.pure (PR.lenL tS_67 rfl) ?_
  refine Wl.callXG [] st (c_slices_Repeat_impl_Layer_impl_Layer (A := some ⟨b14, 0, none⟩) (cp := 1) (p0 := ((n : Nat) : Int)) (c0 := (fun _ => 0)) (m := m) (by rw [← lit1_eq]; exact (st.rdA (i := 1) (n := 1 * 65) rfl (all_sub (recV_len (layS_row _ _) _))).sl) (by first | assumption | omega) (fun _ => by decide)) rfl rfl ?_
  clear st
  intro b18 c18 sp18 w3 hc18 hs18 st
  replace st : St [bs] w w3 [(b18, layS m (fun _ => ((n : Nat) : Int)) (fun _ => (fun _ => 0)) ++ sp18, 30), (b16, arrU .u8 m (f 0) ++ sp16, 5), (b14, layS 1 (fun z_ => [((n : Nat) : Int)].getD z_ 0) (fun z_ => [(fun _ => 0)].getD z_ (fun _ => 0)), 30), (bs, [.int .u32 (((x : Nat) : Int))], 38)] := st
  refine Wl.pure (PR.assL rfl) ?_
  refine Wl.nil ?_
  refine tn ?_
  refine Wc.seq ?_
  refine Wc.seq ?_
  refine Wc.region rfl ?_
  refine Wl.pure (PR.moveI rfl) ?_
  refine Wl.nil ?_
  refine tn ?_
  refine Wc.block ?_
  refine Wc.loopF (γ := Nat × (Nat → Nat → Nat) × Nat × Nat × List Value) (fun g => [(0, .int .i8 (((n : Nat) : Int))), (1, .pointer (some ⟨bs, 0, none⟩)), (2, .func (.func fk) #[] cap.toArray), (6, .slice (none) (0) (0)), (7, .slice (some ⟨g.2.2.1, 0, none⟩) (m) (g.2.2.2.1)), (19, .int .i64 (((g.1 : Nat) : Int)))]) (fun g w_ => St [bs] w w_ [(g.2.2.1, layS m (fun _ => ((n : Nat) : Int)) g.2.1 ++ g.2.2.2.2, 30), (b16, arrU .u8 m (f 0) ++ sp16, 5), (b14, layS 1 (fun z_ => [((n : Nat) : Int)].getD z_ 0) (fun z_ => [(fun _ => 0)].getD z_ (fun _ => 0)), 30), (bs, [.int .u32 (((sdK n x g.1 : Nat) : Int))], 38)] ∧ (g.1 ≤ 64) ∧ (∀ u v, g.2.1 u v < 256) ∧ (∀ u, u < m → ∀ v, v < g.1 → g.2.1 u v = dwC f n x u v) ∧ (m ≤ g.2.2.2.1) ∧ (g.2.2.2.2.length = (g.2.2.2.1 - m) * 65)) (fun g => 64 - g.1) ?_ ?_
  · exact ⟨(0, (fun _ _ => 0), b18, c18, sp18), (.cons rfl (.cons rfl (.cons rfl (.cons rfl (.cons rfl (.cons rfl (.nil _))))))), st, (by first | omega | (dsimp only; omega)), (fun _ _ => by dsimp only; decide), (fun u hu v hv => by omega), hc18, hs18⟩
  clear st
  rintro ⟨i, C, b_l, c_l, sp_l⟩ w4 ⟨st, hi, hC, hg, hc_l, hs_l⟩
  try dsimp only at st hi hC hg hc_l hs_l ⊢
  refine Wc.seq ?_
  refine Wc.region rfl ?_
  refine Wl.pure (PR.lss (a := ((i : Nat) : Int)) (b := 64) rfl rfl) ?_
  refine Wl.nil ?_
  refine tn ?_
  refine Wc.seq ?_
  refine Wc.condD (p := ((i : Nat) : Int) < 64) rfl (fun h5 => ?_) (fun h5 => ?_)
  · refine Wc.skip ?_
    refine tn ?_
    refine Wc.seq ?_
    refine Wc.block ?_
    refine Wc.seq ?_
    refine Wc.region rfl ?_
    refine Wl.pure (PR.moveI rfl) ?_
    refine Wl.pure (PR.assI rfl) ?_
    refine Wl.nil ?_
    refine tn ?_
    refine Wc.seq ?_
    refine Wc.region rfl ?_
    refine Wl.pure (PR.moveP rfl) ?_
    refine Wl.pure (PR.moveI rfl) ?_
    refine Wl.callXG [3] st (c_impl_drawOrder (bs := bs) (x := sdK n x i) (n := n) (sdK_lt hx i) (by first | assumption | omega) (st.lend (L' := [(bs, [.int .u32 (((sdK n x i : Nat) : Int))], 38)]) [3] (by decide) rfl)) rfl rfl ?_
    clear st
    intro b24 c24 sp24 w6 hc24 hs24 st
    replace st : St [bs] w w6 [(b24, arrU .i8 n (oOf n (sdK n x i)) ++ sp24, 22), (bs, [.int .u32 (((xOf n (sdK n x i) : Nat) : Int))], 38), (b_l, layS m (fun _ => ((n : Nat) : Int)) C ++ sp_l, 30), (b16, arrU .u8 m (f 0) ++ sp16, 5), (b14, layS 1 (fun z_ => [((n : Nat) : Int)].getD z_ 0) (fun z_ => [(fun _ => 0)].getD z_ (fun _ => 0)), 30)] := st
    refine Wl.pure (PR.assL rfl) ?_
    refine Wl.nil ?_
    refine tn ?_
    refine Wc.seq ?_
    refine Wc.region rfl ?_
    refine Wl.pure (PR.moveF rfl) ?_
    refine Wl.pure (PR.moveI rfl) ?_
    refine Wl.callPXG [] st rfl rfl (hF i (by omega) _ st.fr) rfl ?_
    clear st
    intro b27 c27 sp27 w7 hc27 hs27 st
    replace st : St [bs] w w7 [(b27, arrU .u8 m (f i) ++ sp27, 5), (b24, arrU .i8 n (oOf n (sdK n x i)) ++ sp24, 22), (bs, [.int .u32 (((xOf n (sdK n x i) : Nat) : Int))], 38), (b_l, layS m (fun _ => ((n : Nat) : Int)) C ++ sp_l, 30), (b16, arrU .u8 m (f 0) ++ sp16, 5), (b14, layS 1 (fun z_ => [((n : Nat) : Int)].getD z_ 0) (fun z_ => [(fun _ => 0)].getD z_ (fun _ => 0)), 30)] := st
    refine Wl.pure (PR.lenL tS_67 rfl) ?_
    refine Wl.pure (PR.moveI rfl) ?_
    refine Wl.nil ?_
    refine tn ?_
    refine Wc.block ?_
    refine Wc.loopF (γ := Nat × (Nat → Nat → Nat)) (fun g => [(0, .int .i8 (((n : Nat) : Int))), (1, .pointer (some ⟨bs, 0, none⟩)), (2, .func (.func fk) #[] cap.toArray), (6, .slice (none) (0) (0)), (7, .slice (some ⟨b_l, 0, none⟩) (m) (c_l)), (8, .int .i64 (((i : Nat) : Int))), (9, .slice (some ⟨b24, 0, none⟩) (n) (c24)), (19, .int .i64 (((i : Nat) : Int))), (20, .bool (decide (((i : Nat) : Int) < 64))), (21, .int .i64 (((i : Nat) : Int))), (22, .pointer (some ⟨bs, 0, none⟩)), (23, .int .i8 (((n : Nat) : Int))), (24, .slice (some ⟨b24, 0, none⟩) (n) (c24)), (25, .func (.func fk) #[] cap.toArray), (26, .int .i64 (((i : Nat) : Int))), (27, .slice (some ⟨b27, 0, none⟩) (m) (c27)), (28, .int .i64 (((m : Nat) : Int))), (29, .int .i64 (((g.1 : Nat) : Int)))]) (fun g w_ => St [bs] w w_ [(b27, arrU .u8 m (f i) ++ sp27, 5), (b24, arrU .i8 n (oOf n (sdK n x i)) ++ sp24, 22), (bs, [.int .u32 (((xOf n (sdK n x i) : Nat) : Int))], 38), (b_l, layS m (fun _ => ((n : Nat) : Int)) g.2 ++ sp_l, 30), (b16, arrU .u8 m (f 0) ++ sp16, 5), (b14, layS 1 (fun z_ => [((n : Nat) : Int)].getD z_ 0) (fun z_ => [(fun _ => 0)].getD z_ (fun _ => 0)), 30)] ∧ (g.1 ≤ m) ∧ (∀ u v, g.2 u v < 256) ∧ (∀ u, u < m → ∀ v, v < i → g.2 u v = dwC f n x u v) ∧ (∀ u, u < g.1 → g.2 u i = dwC f n x u i)) (fun g => m - g.1) ?_ ?_
    · exact ⟨(0, C), (.cons rfl (.cons rfl (.cons rfl (.cons rfl (.cons rfl (.cons rfl (.cons rfl (.cons rfl (.cons rfl (.cons rfl (.cons rfl (.cons rfl (.cons rfl (.cons rfl (.cons rfl (.cons rfl (.cons rfl (.cons rfl (.nil _))))))))))))))))))), st, (by first | omega | (dsimp only; omega)), hC, hg, (fun u hu => by omega)⟩
    clear st
    rintro ⟨r0, C⟩ w8 ⟨st, hr0, hC, hg, hr⟩
    try dsimp only at st hr0 hC hg hr ⊢
    refine Wc.seq ?_
    refine Wc.region rfl ?_
    refine Wl.pure (PR.lss (a := ((r0 : Nat) : Int)) (b := ((m : Nat) : Int)) rfl rfl) ?_
    refine Wl.nil ?_
    refine tn ?_
    refine Wc.seq ?_
    refine Wc.condD (p := ((r0 : Nat) : Int) < ((m : Nat) : Int)) rfl (fun h9 => ?_) (fun h9 => ?_)
    · refine Wc.skip ?_
      refine tn ?_
      refine Wc.seq ?_
      refine Wc.block ?_
      refine Wc.seq ?_
      refine Wc.region rfl ?_
      refine Wl.pure (PR.moveI rfl) ?_
      refine Wl.pure (PR.idxAddrS1 (i := r0) tS_67 rfl rfl (by omega)) ?_
      refine Wl.load (i := 0) st tA_5 rfl rfl (app_get (arrU_get0 (by omega))) ?_
      refine Wl.pure (PR.assI rfl) ?_
      refine Wl.pure (PR.assI rfl) ?_
      refine Wl.nil ?_
      refine tn ?_
      refine Wc.quietTail 9 hmix (by kernel_rfl) rfl ?_
      refine Wq.pure (PR.moveL rfl) ?_
      refine Wq.pure (PR.moveI rfl) ?_
      refine Wq.pure (PR.moveI rfl) ?_
      refine Wq.pure (PR.moveI rfl) ?_
      refine Wq.pure (PR.moveL rfl) ?_
      refine Wq.callV (fun _ hbel => c_impl_reorder (v := (f i) (r0)) (A := some ⟨b24, 0, none⟩) (n := n) (cp := c24) (o := (oOf n (sdK n x i))) ((hf i) (r0)) (((st.rdA (i := 1) (n := n) rfl (app_all (arrU_len _))).sl).below hbel) (by omega) (fun j hj => Nat.lt_of_lt_of_le (oOf_lt j hj) (by omega))) rfl ?_
      refine Wq.pure (PR.idxAddrS (i := r0) tS_99 rfl rfl (by omega)) ?_
      refine Wq.pure (PR.fieldAddr tF_30_1 rfl) ?_
      refine Wq.pure (PR.idxAddrA1 (i := i) tE_23 rfl rfl (by omega)) ?_
      refine Wq.nil (fun w10 hbel => ?_)
      replace st := st.call hbel
      clear hbel
      refine Wl.store (i := 3) (cs' := layS m (fun _ => ((n : Nat) : Int)) (upd C r0 (upd (C r0) i (rdF ((f i) (r0)) (oOf n (sdK n x i)) n))) ++ sp_l) st tA_5 rfl rfl rfl rfl (app_in (layS_in (i := r0) (j := 1 + i) (by omega) (by omega) (by omega))) (app_set (layS_in (i := r0) (j := 1 + i) (by omega) (by omega) (by omega)) (layS_set_c (by omega) (by omega))) ?_
      clear st
      intro w11 st
      replace st : St [bs] w w11 [(b27, arrU .u8 m (f i) ++ sp27, 5), (b24, arrU .i8 n (oOf n (sdK n x i)) ++ sp24, 22), (bs, [.int .u32 (((xOf n (sdK n x i) : Nat) : Int))], 38), (b_l, layS m (fun _ => ((n : Nat) : Int)) (upd C r0 (upd (C r0) i (rdF ((f i) (r0)) (oOf n (sdK n x i)) n))) ++ sp_l, 30), (b16, arrU .u8 m (f 0) ++ sp16, 5), (b14, layS 1 (fun z_ => [((n : Nat) : Int)].getD z_ 0) (fun z_ => [(fun _ => 0)].getD z_ (fun _ => 0)), 30)] := st
      refine Wl.nil ?_
      refine bn ?_
      refine tn ?_
      refine Wc.region rfl ?_
      refine Wl.pure (PR.add (a := ((r0 : Nat) : Int)) (b := 1) rfl rfl (by simp only [fitI]; omega)) ?_
      refine Wl.pure (PR.moveI rfl) ?_
      refine Wl.nil ?_
      refine tn ?_
      exact ⟨(r0 + 1, (upd C r0 (upd (C r0) i (rdF ((f i) (r0)) (oOf n (sdK n x i)) n)))), (.cons rfl (.cons rfl (.cons rfl (.cons rfl (.cons rfl (.cons rfl (.cons rfl (.cons rfl (.cons rfl (.cons rfl (.cons rfl (.cons rfl (.cons rfl (.cons rfl (.cons rfl (.cons rfl (.cons rfl (.cons rfl (.nil _))))))))))))))))))), ⟨st, (by first | omega | (dsimp only; omega)), (upd2_lt hC (rdF_lt _ _ _)), (dw_cell hg), (dw_row hr rfl)⟩, (by first | omega | (dsimp only; omega))⟩
    · refine Wc.exit ?_
      refine tx ?_
      refine tx ?_
      refine bh ?_
      refine bn ?_
      refine tn ?_
      refine Wc.region rfl ?_
      refine Wl.pure (PR.add (a := ((i : Nat) : Int)) (b := 1) rfl rfl (by simp only [fitI]; omega)) ?_
      refine Wl.pure (PR.moveI rfl) ?_
      refine Wl.nil ?_
      refine tn ?_
      replace st : St [bs] w w8 [(b_l, layS m (fun _ => ((n : Nat) : Int)) C ++ sp_l, 30), (b16, arrU .u8 m (f 0) ++ sp16, 5), (b14, layS 1 (fun z_ => [((n : Nat) : Int)].getD z_ 0) (fun z_ => [(fun _ => 0)].getD z_ (fun _ => 0)), 30), (bs, [.int .u32 (((xOf n (sdK n x i) : Nat) : Int))], 38)] := st.pick [3, 4, 5, 2] (by decide) rfl
      exact ⟨(i + 1, C, b_l, c_l, sp_l), (.cons rfl (.cons rfl (.cons rfl (.cons rfl (.cons rfl (.cons rfl (.nil _))))))), ⟨st, (by first | omega | (dsimp only; omega)), hC, (dw_next hg hr (by omega)), hc_l, hs_l⟩, (by first | omega | (dsimp only; omega))⟩
  · refine Wc.exit ?_
    refine tx ?_
    refine tx ?_
    refine bh ?_
    refine tn ?_
    refine Wc.seq ?_
    refine Wc.region rfl ?_
    refine Wl.pure (PR.moveL rfl) ?_
    refine Wl.pure (PR.assL rfl) ?_
    refine Wl.nil ?_
    refine tn ?_
    refine Wc.ret ?_
    refine postL.tmp rfl rfl ?_
    obtain rfl : i = 64 := by omega
    rw [show layS m (fun _ => ((n : Nat) : Int)) C = layS m (fun _ => ((n : Nat) : Int)) (dwC f n x) from layS_congr (fun _ _ => rfl) (fun u hu v hv => hg u hu v hv)] at st
    replace st : St [bs] w w4 [(b_l, layS m (fun _ => ((n : Nat) : Int)) (dwC f n x) ++ sp_l, 30), (bs, [.int .u32 (((sdK n x 64 : Nat) : Int))], 38)] := st.pick [0, 3] (by decide) rfl
    exact ⟨b_l, c_l, sp_l, hc_l, hs_l, rfl, st⟩

set_option maxHeartbeats 400000 in
set_option maxRecDepth 4000 in
theorem c_bit_impl {x : Nat} {k : Nat} {w : World} (hx : x < 18446744073709551616) (hk : k < 64) :
    CE Try.prog 79 [.int .u64 (((x : Nat) : Int)), .int .i64 (((k : Nat) : Int))] w (RetV w (.bool (bitB x k))) := by
  refine CE.enter 10 [(0, .int .u64 (((x : Nat) : Int))), (1, .int .i64 (((k : Nat) : Int)))] en_79 Try.func79 rfl rfl (Nat.le_of_ble_eq_true rfl) rfl ?_
  have st := St.start w
  refine Wc.seq ?_
  refine Wc.region rfl ?_
  refine Wl.pure (PR.assB rfl) ?_
  refine Wl.nil ?_
  refine tn ?_
  refine Wc.seq ?_
  refine Wc.region rfl ?_
  refine Wl.pure (PR.moveI rfl) ?_
  refine Wl.pure (PR.moveI rfl) ?_
  refine Wl.pure (PR.shr (a := x) (n := k) rfl rfl (by decide) hx) ?_
  refine Wl.pure (PR.and (a := (x >>> k)) (b := 1) rfl rfl (by decide) (shr_lt hx) (by decide)) ?_
  refine Wl.pure (PR.eql (a := ((((x >>> k) &&& 1) : Nat) : Int)) (b := 1) rfl rfl) ?_
  refine Wl.pure (PR.assB rfl) ?_
  refine Wl.nil ?_
  refine tn ?_
  refine Wc.ret ?_
  refine postL.tmp rfl rfl ?_
  refine RetV.of ?_ st.below
  refine congrArg Value.bool ?_
  unfold bitB; exact decide_eq_decide.2 (by omega)

set_option maxHeartbeats 400000 in
set_option maxRecDepth 4000 in
theorem c_bit_pec {x : Nat} {k : Nat} {w : World} (hx : x < 18446744073709551616) (hk : k < 64) :
    CE Try.prog 75 [.int .u64 (((x : Nat) : Int)), .int .i64 (((k : Nat) : Int))] w (RetV w (.bool (bitB x k))) := by
  refine CE.enter 11 [(0, .int .u64 (((x : Nat) : Int))), (1, .int .i64 (((k : Nat) : Int)))] en_75 Try.func75 rfl rfl (Nat.le_of_ble_eq_true rfl) rfl ?_
  have st := St.start w
  refine Wc.seq ?_
  refine Wc.region rfl ?_
  refine Wl.pure (PR.assB rfl) ?_
  refine Wl.nil ?_
  refine tn ?_
  refine Wc.seq ?_
  refine Wc.region rfl ?_
  refine Wl.pure (PR.moveI rfl) ?_
  refine Wl.pure (PR.moveI rfl) ?_
  refine Wl.pure (PR.conv (n := ((k : Nat) : Int)) tI_133 rfl (by simp only [fitI]; omega) Try.underlying3) ?_
  refine Wl.pure (PR.shr (a := x) (n := k) rfl rfl (by decide) hx) ?_
  refine Wl.pure (PR.and (a := (x >>> k)) (b := 1) rfl rfl (by decide) (shr_lt hx) (by decide)) ?_
  refine Wl.pure (PR.eql (a := ((((x >>> k) &&& 1) : Nat) : Int)) (b := 1) rfl rfl) ?_
  refine Wl.pure (PR.assB rfl) ?_
  refine Wl.nil ?_
  refine tn ?_
  refine Wc.ret ?_
  refine postL.tmp rfl rfl ?_
  refine RetV.of ?_ st.below
  refine congrArg Value.bool ?_
  unfold bitB; exact decide_eq_decide.2 (by omega)

set_option maxHeartbeats 400000 in
set_option maxRecDepth 4000 in
theorem c_impl_other {q : Bool} {w : World} :
    CE Try.prog 78 [.bool (q)] w (RetV w (.int .u8 (((otF q : Nat) : Int)))) := by
  refine CE.enter 4 [(0, .bool (q))] en_78 Try.func78 rfl rfl (Nat.le_of_ble_eq_true rfl) rfl ?_
  have st := St.start w
  refine Wc.seq ?_
  refine Wc.region rfl ?_
  refine Wl.pure (PR.assI rfl) ?_
  refine Wl.nil ?_
  refine tn ?_
  refine Wc.seq ?_
  refine Wc.seq ?_
  refine Wc.region rfl ?_
  refine Wl.pure (PR.moveB rfl) ?_
  refine Wl.nil ?_
  refine tn ?_
  refine Wc.condB (b := q) rfl (fun h1 => ?_) (fun h1 => ?_)
  · refine Wc.seq ?_
    refine Wc.region rfl ?_
    refine Wl.pure (PR.assI rfl) ?_
    refine Wl.nil ?_
    refine tn ?_
    refine Wc.ret ?_
    refine tr ?_
    refine postL.tmp rfl rfl ?_
    refine RetV.of ?_ st.below
    refine congrArg (fun x : Nat => Value.int .u8 (x : Int)) ?_
    rw [show q = _ from by assumption]; rfl
  · refine Wc.skip ?_
    refine tn ?_
    refine Wc.seq ?_
    refine Wc.region rfl ?_
    refine Wl.pure (PR.assI rfl) ?_
    refine Wl.nil ?_
    refine tn ?_
    refine Wc.ret ?_
    refine postL.tmp rfl rfl ?_
    refine RetV.of ?_ st.below
    refine congrArg (fun x : Nat => Value.int .u8 (x : Int)) ?_
    rw [show q = _ from by assumption]; rfl

set_option maxHeartbeats 400000 in
set_option maxRecDepth 4000 in
theorem c_spec_l05Other {q : Bool} {w : World} :
    CE Try.prog 74 [.bool (q)] w (RetV w (.int .u8 (((otF q : Nat) : Int)))) := by
  refine CE.enter 4 [(0, .bool (q))] en_74 Try.func74 rfl rfl (Nat.le_of_ble_eq_true rfl) rfl ?_
  have st := St.start w
  refine Wc.seq ?_
  refine Wc.region rfl ?_
  refine Wl.pure (PR.assI rfl) ?_
  refine Wl.nil ?_
  refine tn ?_
  refine Wc.seq ?_
  refine Wc.seq ?_
  refine Wc.region rfl ?_
  refine Wl.pure (PR.moveB rfl) ?_
  refine Wl.nil ?_
  refine tn ?_
  refine Wc.condB (b := q) rfl (fun h1 => ?_) (fun h1 => ?_)
  · refine Wc.seq ?_
    refine Wc.region rfl ?_
    refine Wl.pure (PR.assI rfl) ?_
    refine Wl.nil ?_
    refine tn ?_
    refine Wc.ret ?_
    refine tr ?_
    refine postL.tmp rfl rfl ?_
    refine RetV.of ?_ st.below
    refine congrArg (fun x : Nat => Value.int .u8 (x : Int)) ?_
    rw [show q = _ from by assumption]; rfl
  · refine Wc.skip ?_
    refine tn ?_
    refine Wc.seq ?_
    refine Wc.region rfl ?_
    refine Wl.pure (PR.assI rfl) ?_
    refine Wl.nil ?_
    refine tn ?_
    refine Wc.ret ?_
    refine postL.tmp rfl rfl ?_
    refine RetV.of ?_ st.below
    refine congrArg (fun x : Nat => Value.int .u8 (x : Int)) ?_
    rw [show q = _ from by assumption]; rfl

set_option maxHeartbeats 400000 in
set_option maxRecDepth 4000 in
theorem c_impl_TripleLayers_1 {b1 : Nat} {ob1 : Nat} {b2 : Nat} {ob2 : Nat} {p : Nat} {q : Nat} {k : Nat} {w : World} (h1 : RdA w b1 ob1 [.int .u64 ((p : Nat) : Int)]) (h2 : RdA w b2 ob2 [.int .u64 ((q : Nat) : Int)]) (hp : p < 18446744073709551616) (hq : q < 18446744073709551616) (hk : k < 64) :
    CE Try.prog 77 [.int .i64 (((k : Nat) : Int)), .pointer (some ⟨b1, ob1, none⟩), .pointer (some ⟨b2, ob2, none⟩)] w (RetXG w [] 5 1 (3) (arrU .u8 3 (triF p q k)) (fun b_ c_ => .slice (some ⟨b_, 0, none⟩) (3) (c_)) []) := by
  refine CE.enter 14 [(0, .int .i64 (((k : Nat) : Int))), (1, .pointer (some ⟨b1, ob1, none⟩)), (2, .pointer (some ⟨b2, ob2, none⟩))] en_77 Try.func77 rfl rfl (Nat.le_of_ble_eq_true rfl) rfl ?_
  have st := St.start w
  refine Wc.seq ?_
  refine Wc.region rfl ?_
  refine Wl.pure (PR.assL rfl) ?_
  refine Wl.nil ?_
  refine tn ?_
  refine Wc.seq ?_
  refine Wc.quietTail 8 hmix (by kernel_rfl) rfl ?_
  refine Wq.loadC tA_27 rfl ((h1.st st).at_ (j := 0) (rfl) rfl) ?_
  refine Wq.pure (PR.moveI rfl) ?_
  refine Wq.callV (fun _ hbel => c_bit_impl (x := p) (k := k) hp (by first | assumption | omega)) rfl ?_
  refine Wq.callV (fun _ hbel => c_impl_other (q := (bitB p k))) rfl ?_
  refine Wq.loadC tA_27 rfl ((h2.st st).at_ (j := 0) (rfl) rfl) ?_
  refine Wq.pure (PR.moveI rfl) ?_
  refine Wq.callV (fun _ hbel => c_bit_impl (x := q) (k := k) hq (by first | assumption | omega)) rfl ?_
  refine Wq.callV (fun _ hbel => c_impl_other (q := (bitB q k))) rfl ?_
  refine Wq.nil (fun w1 hbel => ?_)
  replace st := st.call hbel
  clear hbel
  refine Wl.buildSlice (ps := [(0, .int .u8 (1)), (1, .int .u8 (((otF (bitB p k) : Nat) : Int))), (2, .int .u8 (((otF (bitB q k) : Nat) : Int)))]) (cs := [.int .u8 (1), .int .u8 (((otF (bitB p k) : Nat) : Int)), .int .u8 (((otF (bitB q k) : Nat) : Int))]) st tS_67 tZ_5 rfl rfl rfl ?_
  clear st
  intro b13 w2 st
  refine Wl.pure (PR.assL rfl) ?_
  refine Wl.nil ?_
  refine tn ?_
  refine Wc.ret ?_
  refine postL.tmp rfl rfl ?_
  replace st := st.nilapp
  exact ⟨b13, 3, ([]), (Nat.le_refl _), (by simp), rfl, st⟩

end Go.Proofs.Ytajkjhjnbfcpfaa
