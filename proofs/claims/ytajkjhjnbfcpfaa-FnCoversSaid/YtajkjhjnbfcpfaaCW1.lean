/-
  Contracts of functions, printed by a program of ours.
-/
import Derived.Test.YtajkjhjnbfcpfaaCV5
import Derived.Test.YtajkjhjnbfcpfaaMx
import Derived.Test.YtajkjhjnbfcpfaaMix
import Derived.Test.YtajkjhjnbfcpfaaDraw
namespace Go.Proofs.Ytajkjhjnbfcpfaa
open Go.RowKit
set_option linter.unusedVariables false
set_option linter.unusedSimpArgs false

set_option maxHeartbeats 400000 in
set_option maxRecDepth 4000 in
theorem c_impl_draw {bs : Nat} {x : Nat} {n : Nat} {w : World} (hx : x < 4294967296) (hn : 0 < n ∧ n ≤ 1000) (hst : St [bs] w w [(bs, [.int .u32 (((x : Nat) : Int))], 38)]) :
    CE Try.prog 132 [.pointer (some ⟨bs, 0, none⟩), .int .i64 (((n : Nat) : Int))] w (RetX w [bs] (.int .i64 (((drawK x n : Nat) : Int))) [(bs, [.int .u32 (((lcg x : Nat) : Int))], 38)]) := by
  refine CE.enter 19 [(0, .pointer (some ⟨bs, 0, none⟩)), (1, .int .i64 (((n : Nat) : Int)))] en_132 Try.func132 rfl rfl (Nat.le_of_ble_eq_true rfl) rfl ?_
  have st := hst
  refine Wc.seq ?_
  refine Wc.region rfl ?_
  refine Wl.pure (PR.assI rfl) ?_
  refine Wl.nil ?_
  refine tn ?_
  refine Wc.seq ?_
  refine Wc.region rfl ?_
  refine Wl.pure (PR.moveP rfl) ?_
  refine Wl.pure (PR.moveP rfl) ?_
  refine Wl.pure (PR.nil_ rfl) ?_
  refine Wl.load (i := 0) st tA_38 rfl rfl (rfl) ?_
  refine Wl.pure (PR.mulU (a := 1664525) (b := x) rfl rfl (by decide)) ?_
  refine Wl.pure (PR.addU (a := ((1664525 * x) % 4294967296)) (b := 1013904223) rfl rfl (by decide)) ?_
  refine Wl.pure (PR.nil_ rfl) ?_
  refine Wl.store (i := 0) (cs' := [.int .u32 (((((((1664525 * x) % 4294967296) + 1013904223) % 4294967296) : Nat) : Int))]) st tA_38 rfl rfl rfl rfl (by simp) (rfl) ?_
  clear st
  intro w1 st
  replace st : St [bs] w w1 [(bs, [.int .u32 (((((((1664525 * x) % 4294967296) + 1013904223) % 4294967296) : Nat) : Int))], 38)] := st
  refine Wl.nil ?_
  refine tn ?_
  refine Wc.seq ?_
  refine Wc.region rfl ?_
  refine Wl.pure (PR.moveP rfl) ?_
  refine Wl.pure (PR.nil_ rfl) ?_
  refine Wl.load (i := 0) st tA_38 rfl rfl (rfl) ?_
  refine Wl.pure (PR.shr (a := ((((1664525 * x) % 4294967296) + 1013904223) % 4294967296)) (n := 16) rfl rfl (by decide) (Nat.mod_lt _ (by decide))) ?_
  refine Wl.pure (PR.conv (n := (((((((1664525 * x) % 4294967296) + 1013904223) % 4294967296) >>> 16) : Nat) : Int)) tI_2 rfl (fitN (shr_lt (Nat.mod_lt _ (by decide))) rfl) Try.underlying38) ?_
  refine Wl.pure (PR.moveI rfl) ?_
  refine Wl.pure (PR.rem (a := (((((((1664525 * x) % 4294967296) + 1013904223) % 4294967296) >>> 16) : Nat) : Int)) (b := ((n : Nat) : Int)) rfl rfl (by omega) (by omega)) ?_
  refine Wl.pure (PR.assI rfl) ?_
  refine Wl.nil ?_
  refine tn ?_
  refine Wc.ret ?_
  refine postL.tmp rfl rfl ?_
  exact st.retX (by
    refine congrArg (Value.int .i64) ?_
    rfl) rfl

set_option maxHeartbeats 400000 in
set_option maxRecDepth 4000 in
theorem c_spec_l03Number {x : Nat} {n : Nat} {w : World} (hx : x < 4294967296) (hn : 0 < n ∧ n ≤ 1000) :
    CE Try.prog 130 [.int .u32 (((x : Nat) : Int)), .int .i64 (((n : Nat) : Int))] w (RetV w (.tuple #[.int .i64 (((drawK x n : Nat) : Int)), .int .u32 (((lcg x : Nat) : Int))])) := by
  refine CE.enter 15 [(0, .int .u32 (((x : Nat) : Int))), (1, .int .i64 (((n : Nat) : Int)))] en_130 Try.func130 rfl rfl (Nat.le_of_ble_eq_true rfl) rfl ?_
  have st := St.start w
  refine Wc.seq ?_
  refine Wc.region rfl ?_
  refine Wl.pure (PR.assI rfl) ?_
  refine Wl.pure (PR.assI rfl) ?_
  refine Wl.nil ?_
  refine tn ?_
  refine Wc.seq ?_
  refine Wc.region rfl ?_
  refine Wl.pure (PR.moveI rfl) ?_
  refine Wl.pure (PR.mulU (a := 1664525) (b := x) rfl rfl (by decide)) ?_
  refine Wl.pure (PR.addU (a := ((1664525 * x) % 4294967296)) (b := 1013904223) rfl rfl (by decide)) ?_
  refine Wl.pure (PR.assI rfl) ?_
  refine Wl.nil ?_
  refine tn ?_
  refine Wc.seq ?_
  refine Wc.region rfl ?_
  refine Wl.pure (PR.moveI rfl) ?_
  refine Wl.pure (PR.shr (a := ((((1664525 * x) % 4294967296) + 1013904223) % 4294967296)) (n := 16) rfl rfl (by decide) (Nat.mod_lt _ (by decide))) ?_
  refine Wl.pure (PR.conv (n := (((((((1664525 * x) % 4294967296) + 1013904223) % 4294967296) >>> 16) : Nat) : Int)) tI_2 rfl (fitN (shr_lt (Nat.mod_lt _ (by decide))) rfl) Try.underlying38) ?_
  refine Wl.pure (PR.moveI rfl) ?_
  refine Wl.pure (PR.rem (a := (((((((1664525 * x) % 4294967296) + 1013904223) % 4294967296) >>> 16) : Nat) : Int)) (b := ((n : Nat) : Int)) rfl rfl (by omega) (by omega)) ?_
  refine Wl.pure (PR.moveI rfl) ?_
  refine Wl.pure (PR.assI rfl) ?_
  refine Wl.pure (PR.assI rfl) ?_
  refine Wl.nil ?_
  refine tn ?_
  refine Wc.ret ?_
  refine postL.tmp2 rfl rfl rfl ?_
  refine RetV.of ?_ st.below
  rfl

set_option maxHeartbeats 400000 in
set_option maxRecDepth 4000 in
theorem c_impl_drawOrder {bs : Nat} {x : Nat} {n : Nat} {w : World} (hx : x < 4294967296) (hn : 1 ≤ n ∧ n ≤ 8) (hst : St [bs] w w [(bs, [.int .u32 (((x : Nat) : Int))], 38)]) :
    CE Try.prog 115 [.pointer (some ⟨bs, 0, none⟩), .int .i8 (((n : Nat) : Int))] w (RetXG w [bs] 22 1 (n) (arrU .i8 n (oOf n x)) (fun b_ c_ => .slice (some ⟨b_, 0, none⟩) (n) (c_)) [(bs, [.int .u32 (((xOf n x : Nat) : Int))], 38)]) := by
  refine CE.enter 45 [(0, .pointer (some ⟨bs, 0, none⟩)), (1, .int .i8 (((n : Nat) : Int)))] en_115 Try.func115 rfl rfl (Nat.le_of_ble_eq_true rfl) rfl ?_
  have st := hst
  refine Wc.seq ?_
  refine Wc.region rfl ?_
  refine Wl.pure (PR.assL rfl) ?_
  refine Wl.nil ?_
  refine tn ?_
  refine Wc.seq ?_
  refine Wc.region rfl ?_
  refine Wl.buildSlice (ps := []) (cs := arrU .i8 0 (fun _ => 0) ++ []) st tS_143 tZ_22 rfl rfl rfl ?_
  clear st
  intro b9 w1 st
  refine Wl.pure (PR.assL rfl) ?_
  refine Wl.nil ?_
  refine tn ?_
  refine Wc.seq ?_
  refine Wc.seq ?_
  refine Wc.region rfl ?_
  refine Wl.pure (PR.moveI rfl) ?_
  refine Wl.pure (PR.moveI rfl) ?_
  refine Wl.nil ?_
  refine tn ?_
  refine Wc.block ?_
  refine Wc.loopF (γ := Nat × (Nat → Nat) × Nat × Nat × List Value) (fun g => [(0, .pointer (some ⟨bs, 0, none⟩)), (1, .int .i8 (((n : Nat) : Int))), (4, .slice (none) (0) (0)), (5, .slice (some ⟨g.2.2.1, 0, none⟩) (g.1) (g.2.2.2.1)), (10, .int .i8 (((n : Nat) : Int))), (11, .int .i8 (((g.1 : Nat) : Int)))]) (fun g w_ => St [bs] w w_ [(g.2.2.1, arrU .i8 g.1 g.2.1 ++ g.2.2.2.2, 22), (bs, [.int .u32 (((x : Nat) : Int))], 38)] ∧ (g.1 ≤ n) ∧ (∀ j, j < g.1 → g.2.1 j = j) ∧ (g.1 ≤ g.2.2.2.1) ∧ (g.2.2.2.2.length = (g.2.2.2.1 - g.1) * 1)) (fun g => n - g.1) ?_ ?_
  · exact ⟨(0, (fun _ => 0), b9, 0, []), (.cons rfl (.cons rfl (.cons rfl (.cons rfl (.cons rfl (.cons rfl (.nil _))))))), st, (by first | omega | (dsimp only; omega)), (fun j hj => by omega), (Nat.le_refl _), rfl⟩
  clear st
  rintro ⟨k, y, b_o, c_o, sp_o⟩ w2 ⟨st, hk, hy, hc_o, hs_o⟩
  try dsimp only at st hk hy hc_o hs_o ⊢
  refine Wc.seq ?_
  refine Wc.region rfl ?_
  refine Wl.pure (PR.lss (a := ((k : Nat) : Int)) (b := ((n : Nat) : Int)) rfl rfl) ?_
  refine Wl.nil ?_
  refine tn ?_
  refine Wc.seq ?_
  refine Wc.condD (p := ((k : Nat) : Int) < ((n : Nat) : Int)) rfl (fun h3 => ?_) (fun h3 => ?_)
  · refine Wc.skip ?_
    refine tn ?_
    refine Wc.seq ?_
    refine Wc.block ?_
    refine Wc.seq ?_
    refine Wc.region rfl ?_
    refine Wl.pure (PR.moveI rfl) ?_
    refine Wl.pure (PR.assI rfl) ?_
    refine Wl.nil ?_
    refine tn ?_
    refine Wc.region rfl ?_
    refine Wl.pure (PR.moveL rfl) ?_
    refine Wl.pure (PR.moveI rfl) ?_
    refine Wl.buildSlice (ps := [(0, .int .i8 (((k : Nat) : Int)))]) (cs := [.int .i8 (((k : Nat) : Int))]) st tS_143 tZ_22 rfl rfl rfl ?_
    clear st
    intro b16 w4 st
    refine Wl.append (n := k) (c := c_o) (m := 1) (cs := arrU .i8 k y) (sp := sp_o) (vs := [.int .i8 (((k : Nat) : Int))]) (i := 1) st tS_143 tZ_22 rfl rfl rfl (by rw [(arrU_len _), Nat.mul_one]) hs_o hc_o rfl (Src.ofRdA (tyS_und tS_143) (st.rdA (i := 0) (n := 1) rfl rfl) rfl (by simp [Value.oneCell'])) (by omega) (by omega) ?_
    clear st
    intro b17 c17 sp17 w5 hc17 hs17 st
    rw [arrU_snoc] at st
    replace st : St [bs] w w5 [(b17, arrU .i8 (k + 1) (upd y k k) ++ sp17, 22), (b16, [.int .i8 (((k : Nat) : Int))], 22), (bs, [.int .u32 (((x : Nat) : Int))], 38)] := st
    refine Wl.pure (PR.assL rfl) ?_
    refine Wl.nil ?_
    refine bn ?_
    refine tn ?_
    refine Wc.region rfl ?_
    refine Wl.pure (PR.add (a := ((k : Nat) : Int)) (b := 1) rfl rfl (by simp only [fitI]; omega)) ?_
    refine Wl.pure (PR.moveI rfl) ?_
    refine Wl.nil ?_
    refine tn ?_
    replace st : St [bs] w w5 [(b17, arrU .i8 (k + 1) (upd y k k) ++ sp17, 22), (bs, [.int .u32 (((x : Nat) : Int))], 38)] := st.pick [0, 2] (by decide) rfl
    exact ⟨(k + 1, (upd y k k), b17, c17, sp17), (.cons rfl (.cons rfl (.cons rfl (.cons rfl (.cons rfl (.cons rfl (.nil _))))))), ⟨st, (by first | omega | (dsimp only; omega)), (id_snoc hy), hc17, hs17⟩, (by first | omega | (dsimp only; omega))⟩
  · refine Wc.exit ?_
    refine tx ?_
    refine tx ?_
    refine bh ?_
    refine tn ?_
    refine Wc.seq ?_
    refine Wc.seq ?_
    obtain rfl : n = k := by omega
    refine Wc.region rfl ?_
    refine Wl.pure (PR.moveI rfl) ?_
    refine Wl.pure (PR.subN (a := n) (b := 1) rfl rfl (by omega) (by simp only [fitI]; omega)) ?_
    refine Wl.pure (PR.assI rfl) ?_
    refine Wl.nil ?_
    refine tn ?_
    refine Wc.block ?_
    refine Wc.loopF (γ := Nat × (Nat → Nat) × Nat × Nat × List Value) (fun g => [(0, .pointer (some ⟨bs, 0, none⟩)), (4, .slice (none) (0) (0)), (5, .slice (some ⟨g.2.2.1, 0, none⟩) (n) (g.2.2.2.1)), (7, .int .i8 ((((n - 1 - g.1) : Nat) : Int)))]) (fun g w_ => St [bs] w w_ [(g.2.2.1, arrU .i8 n g.2.1 ++ g.2.2.2.2, 22), (bs, [.int .u32 (((ordX n x g.1 : Nat) : Int))], 38)] ∧ (g.1 ≤ n - 1) ∧ (∀ j, j < n → g.2.1 j = ordO n x g.1 j) ∧ (n ≤ g.2.2.2.1) ∧ (g.2.2.2.2.length = (g.2.2.2.1 - n) * 1)) (fun g => n - g.1) ?_ ?_
    · exact ⟨(0, y, b_o, c_o, sp_o), (.cons rfl (.cons rfl (.cons rfl (.cons rfl (.nil _))))), st, (by first | omega | (dsimp only; omega)), hy, hc_o, hs_o⟩
    clear st
    rintro ⟨r, y, b_q, c_q, sp_q⟩ w6 ⟨st, hr, hy, hc_q, hs_q⟩
    try dsimp only at st hr hy hc_q hs_q ⊢
    refine Wc.seq ?_
    refine Wc.seq ?_
    refine Wc.region rfl ?_
    refine Wl.pure (PR.moveI rfl) ?_
    refine Wl.pure (PR.geq (a := (((n - 1 - r) : Nat) : Int)) (b := 1) rfl rfl) ?_
    refine Wl.nil ?_
    refine tn ?_
    refine Wc.condD (p := 1 ≤ (((n - 1 - r) : Nat) : Int)) rfl (fun h7 => ?_) (fun h7 => ?_)
    · refine Wc.skip ?_
      refine tn ?_
      refine Wc.seq ?_
      refine Wc.block ?_
      refine Wc.seq ?_
      refine Wc.region rfl ?_
      refine Wl.pure (PR.moveP rfl) ?_
      refine Wl.pure (PR.moveI rfl) ?_
      refine Wl.pure (PR.conv (n := (((n - 1 - r) : Nat) : Int)) tI_2 rfl (by simp only [fitI]; omega) Try.underlying22) ?_
      refine Wl.pure (PR.add (a := (((n - 1 - r) : Nat) : Int)) (b := 1) rfl rfl (by simp only [fitI]; omega)) ?_
      refine Wl.callX [1] st (c_impl_draw (bs := bs) (x := ordX n x r) (n := ((n - 1 - r) + 1)) (ordX_lt hx r) (by first | assumption | omega) (st.lend (L' := [(bs, [.int .u32 (((ordX n x r : Nat) : Int))], 38)]) [1] (by decide) rfl)) rfl rfl ?_
      clear st
      intro w8 st
      replace st : St [bs] w w8 [(bs, [.int .u32 (((lcg (ordX n x r) : Nat) : Int))], 38), (b_q, arrU .i8 n y ++ sp_q, 22)] := st
      refine Wl.pure (PR.assI rfl) ?_
      refine Wl.nil ?_
      refine tn ?_
      have hkd := drawK_lt (x := ordX n x r) (n := n - 1 - r + 1) (by omega)
      refine Wc.mixed (S := fun i => i == 13 || i == 15) (R := fun _ _ => True) [(0, 0), (1, 0), (2, 0), (3, 0), (4, 0), (5, 0), (6, 0), (8, 0), (9, 0), (10, 0), (7, 1), (11, 1), (12, 0), (13, 2), (14, 0), (15, 2)] (fun _ => trivial) (fun _ _ _ _ _ => trivial) hmix (by kernel_rfl) (by kernel_rfl) rfl rfl ?_
      intro w9 hbel
      replace st := st.call hbel
      clear hbel
      refine Wm.pure (by decide) rfl (PR.moveL rfl) ?_
      refine Wm.pure (by decide) rfl (PR.moveI rfl) ?_
      refine Wm.pure (by decide) rfl (PR.moveL rfl) ?_
      refine Wm.pure (by decide) rfl (PR.moveI rfl) ?_
      refine Wm.pure (by decide) rfl (PR.moveL rfl) ?_
      refine Wm.pure (by decide) rfl (PR.moveI rfl) ?_
      refine Wm.pure (by decide) rfl (PR.idxAddrS1 (i := drawK (ordX n x r) ((n - 1 - r) + 1)) tS_143 rfl rfl (by omega)) ?_
      refine Wm.pure (by decide) rfl (PR.moveL rfl) ?_
      refine Wm.pure (by decide) rfl (PR.moveI rfl) ?_
      refine Wm.pure (by decide) rfl (PR.idxAddrS1 (i := (n - 1 - r)) tS_143 rfl rfl (by omega)) ?_
      refine Wm.load (j := 1) rfl st tA_22 rfl rfl (app_get (arrU_get0 (by omega))) ?_
      refine Wm.load (j := 1) rfl st tA_22 rfl rfl (app_get (arrU_get0 (by omega))) ?_
      refine Wm.pure (by decide) rfl (PR.idxAddrS1 (i := (n - 1 - r)) tS_143 rfl rfl (by omega)) ?_
      refine Wm.store (j := 1) (cs' := arrU .i8 n (upd y ((n - 1 - r)) (y (drawK (ordX n x r) ((n - 1 - r) + 1)))) ++ sp_q) rfl st (fun _ _ => trivial) tA_22 rfl rfl rfl rfl (app_in (lt_of_len (arrU_len _) (by omega))) (app_set (lt_of_len (arrU_len _) (by omega)) (arrU_set0)) rfl ?_
      clear st
      intro w10 st
      replace st : St [bs] w w10 [(bs, [.int .u32 (((lcg (ordX n x r) : Nat) : Int))], 38), (b_q, arrU .i8 n (upd y ((n - 1 - r)) (y (drawK (ordX n x r) ((n - 1 - r) + 1)))) ++ sp_q, 22)] := st
      refine Wm.pure (by decide) rfl (PR.idxAddrS1 (i := drawK (ordX n x r) ((n - 1 - r) + 1)) tS_143 rfl rfl (by omega)) ?_
      refine Wm.store (j := 1) (cs' := arrU .i8 n (upd (upd y ((n - 1 - r)) (y (drawK (ordX n x r) ((n - 1 - r) + 1)))) (drawK (ordX n x r) ((n - 1 - r) + 1)) (y ((n - 1 - r)))) ++ sp_q) rfl st (fun _ _ => trivial) tA_22 rfl rfl rfl rfl (app_in (lt_of_len (arrU_len _) (by omega))) (app_set (lt_of_len (arrU_len _) (by omega)) (arrU_set0)) rfl ?_
      clear st
      intro w11 st
      replace st : St [bs] w w11 [(bs, [.int .u32 (((lcg (ordX n x r) : Nat) : Int))], 38), (b_q, arrU .i8 n (upd (upd y ((n - 1 - r)) (y (drawK (ordX n x r) ((n - 1 - r) + 1)))) (drawK (ordX n x r) ((n - 1 - r) + 1)) (y ((n - 1 - r)))) ++ sp_q, 22)] := st
      refine Wm.nil ?_
      refine bn ?_
      refine tn ?_
      refine Wc.region rfl ?_
      refine Wl.pure (PR.moveI rfl) ?_
      refine Wl.pure (PR.subN (a := (n - 1 - r)) (b := 1) rfl rfl (by omega) (by simp only [fitI]; omega)) ?_
      refine Wl.pure (PR.assI rfl) ?_
      refine Wl.nil ?_
      refine tn ?_
      replace st : St [bs] w w11 [(b_q, arrU .i8 n (upd (upd y ((n - 1 - r)) (y (drawK (ordX n x r) ((n - 1 - r) + 1)))) (drawK (ordX n x r) ((n - 1 - r) + 1)) (y ((n - 1 - r)))) ++ sp_q, 22), (bs, [.int .u32 (((lcg (ordX n x r) : Nat) : Int))], 38)] := st.pick [1, 0] (by decide) rfl
      exact ⟨(r + 1, upd (upd y ((n - 1 - r)) (y (drawK (ordX n x r) ((n - 1 - r) + 1)))) (drawK (ordX n x r) ((n - 1 - r) + 1)) (y ((n - 1 - r))), b_q, c_q, sp_q), (.cons rfl (.cons rfl (.cons rfl (.cons rfl (.nil _))))), ⟨st, (by first | omega | (dsimp only; omega)), (ord_next hy (by omega)), hc_q, hs_q⟩, (by first | omega | (dsimp only; omega))⟩
    · refine Wc.exit ?_
      refine tx ?_
      refine tx ?_
      refine bh ?_
      refine tn ?_
      refine Wc.seq ?_
      refine Wc.region rfl ?_
      refine Wl.pure (PR.moveL rfl) ?_
      refine Wl.pure (PR.assL rfl) ?_
      refine Wl.nil ?_
      refine tn ?_
      refine Wc.ret ?_
      refine postL.tmp rfl rfl ?_
      rw [oOf_of hy (by omega), xOf_of (by omega)] at st
      exact ⟨b_q, c_q, sp_q, hc_q, hs_q, rfl, st⟩

set_option maxHeartbeats 400000 in
set_option maxRecDepth 4000 in
theorem c_spec_l03Order {x : Nat} {n : Nat} {w : World} (hx : x < 4294967296) (hn : 1 ≤ n ∧ n ≤ 8) :
    CE Try.prog 112 [.int .u32 (((x : Nat) : Int)), .int .i64 (((n : Nat) : Int))] w (RetXG w [] 22 1 (n) (arrU .i8 n (oOf n x)) (fun b_ c_ => .tuple #[.slice (some ⟨b_, 0, none⟩) (n) (c_), .int .u32 (((xOf n x : Nat) : Int))]) []) := by
  refine CE.enter 54 [(0, .int .u32 (((x : Nat) : Int))), (1, .int .i64 (((n : Nat) : Int)))] en_112 Try.func112 rfl rfl (Nat.le_of_ble_eq_true rfl) rfl ?_
  have st := St.start w
  refine Wc.seq ?_
  refine Wc.region rfl ?_
  refine Wl.pure (PR.assL rfl) ?_
  refine Wl.pure (PR.assI rfl) ?_
  refine Wl.nil ?_
  refine tn ?_
  refine Wc.seq ?_
  refine Wc.region rfl ?_
  refine Wl.buildSlice (ps := []) (cs := arrU .i8 0 (fun _ => 0) ++ []) st tS_143 tZ_22 rfl rfl rfl ?_
  clear st
  intro b12 w1 st
  refine Wl.pure (PR.assL rfl) ?_
  refine Wl.nil ?_
  refine tn ?_
  refine Wc.seq ?_
  refine Wc.seq ?_
  refine Wc.region rfl ?_
  refine Wl.pure (PR.assI rfl) ?_
  refine Wl.nil ?_
  refine tn ?_
  refine Wc.block ?_
  refine Wc.loopF (γ := Nat × (Nat → Nat) × Nat × Nat × List Value) (fun g => [(0, .int .u32 (((x : Nat) : Int))), (1, .int .i64 (((n : Nat) : Int))), (4, .slice (none) (0) (0)), (5, .int .u32 (0)), (6, .slice (some ⟨g.2.2.1, 0, none⟩) (g.1) (g.2.2.2.1)), (7, .int .i64 (((g.1 : Nat) : Int)))]) (fun g w_ => St [] w w_ [(g.2.2.1, arrU .i8 g.1 g.2.1 ++ g.2.2.2.2, 22)] ∧ (g.1 ≤ n) ∧ (∀ j, j < g.1 → g.2.1 j = j) ∧ (g.1 ≤ g.2.2.2.1) ∧ (g.2.2.2.2.length = (g.2.2.2.1 - g.1) * 1)) (fun g => n - g.1) ?_ ?_
  · exact ⟨(0, (fun _ => 0), b12, 0, []), (.cons rfl (.cons rfl (.cons rfl (.cons rfl (.cons rfl (.cons rfl (.nil _))))))), st, (by first | omega | (dsimp only; omega)), (fun j hj => by omega), (Nat.le_refl _), rfl⟩
  clear st
  rintro ⟨k, y, b_o, c_o, sp_o⟩ w2 ⟨st, hk, hy, hc_o, hs_o⟩
  try dsimp only at st hk hy hc_o hs_o ⊢
  refine Wc.seq ?_
  refine Wc.seq ?_
  refine Wc.region rfl ?_
  refine Wl.pure (PR.moveI rfl) ?_
  refine Wl.pure (PR.moveI rfl) ?_
  refine Wl.pure (PR.lss (a := ((k : Nat) : Int)) (b := ((n : Nat) : Int)) rfl rfl) ?_
  refine Wl.nil ?_
  refine tn ?_
  refine Wc.condD (p := ((k : Nat) : Int) < ((n : Nat) : Int)) rfl (fun h3 => ?_) (fun h3 => ?_)
  · refine Wc.skip ?_
    refine tn ?_
    refine Wc.seq ?_
    refine Wc.block ?_
    refine Wc.region rfl ?_
    refine Wl.pure (PR.moveL rfl) ?_
    refine Wl.pure (PR.moveI rfl) ?_
    refine Wl.pure (PR.conv (n := ((k : Nat) : Int)) tI_22 rfl (by simp only [fitI]; omega) Try.underlying2) ?_
    refine Wl.buildSlice (ps := [(0, .int .i8 (((k : Nat) : Int)))]) (cs := [.int .i8 (((k : Nat) : Int))]) st tS_143 tZ_22 rfl rfl rfl ?_
    clear st
    intro b21 w4 st
    refine Wl.append (n := k) (c := c_o) (m := 1) (cs := arrU .i8 k y) (sp := sp_o) (vs := [.int .i8 (((k : Nat) : Int))]) (i := 1) st tS_143 tZ_22 rfl rfl rfl (by rw [(arrU_len _), Nat.mul_one]) hs_o hc_o rfl (Src.ofRdA (tyS_und tS_143) (st.rdA (i := 0) (n := 1) rfl rfl) rfl (by simp [Value.oneCell'])) (by omega) (by omega) ?_
    clear st
    intro b22 c22 sp22 w5 hc22 hs22 st
    rw [arrU_snoc] at st
    replace st : St [] w w5 [(b22, arrU .i8 (k + 1) (upd y k k) ++ sp22, 22), (b21, [.int .i8 (((k : Nat) : Int))], 22)] := st
    refine Wl.pure (PR.assL rfl) ?_
    refine Wl.nil ?_
    refine bn ?_
    refine tn ?_
    refine Wc.region rfl ?_
    refine Wl.pure (PR.moveI rfl) ?_
    refine Wl.pure (PR.add (a := ((k : Nat) : Int)) (b := 1) rfl rfl (by simp only [fitI]; omega)) ?_
    refine Wl.pure (PR.assI rfl) ?_
    refine Wl.nil ?_
    refine tn ?_
    replace st : St [] w w5 [(b22, arrU .i8 (k + 1) (upd y k k) ++ sp22, 22)] := st.pick [0] (by decide) rfl
    exact ⟨(k + 1, (upd y k k), b22, c22, sp22), (.cons rfl (.cons rfl (.cons rfl (.cons rfl (.cons rfl (.cons rfl (.nil _))))))), ⟨st, (by first | omega | (dsimp only; omega)), (id_snoc hy), hc22, hs22⟩, (by first | omega | (dsimp only; omega))⟩
  · refine Wc.exit ?_
    refine tx ?_
    refine tx ?_
    refine bh ?_
    refine tn ?_
    refine Wc.seq ?_
    refine Wc.seq ?_
    obtain rfl : n = k := by omega
    refine Wc.region rfl ?_
    refine Wl.pure (PR.moveI rfl) ?_
    refine Wl.pure (PR.subN (a := n) (b := 1) rfl rfl (by omega) (by simp only [fitI]; omega)) ?_
    refine Wl.pure (PR.assI rfl) ?_
    refine Wl.nil ?_
    refine tn ?_
    refine Wc.block ?_
    refine Wc.loopF (γ := Nat × Nat × (Nat → Nat) × Nat × Nat × List Value) (fun g => [(0, .int .u32 (((g.2.1 : Nat) : Int))), (4, .slice (none) (0) (0)), (5, .int .u32 (0)), (6, .slice (some ⟨g.2.2.2.1, 0, none⟩) (n) (g.2.2.2.2.1)), (8, .int .i64 ((((n - 1 - g.1) : Nat) : Int)))]) (fun g w_ => St [] w w_ [(g.2.2.2.1, arrU .i8 n g.2.2.1 ++ g.2.2.2.2.2, 22)] ∧ (g.1 ≤ n - 1) ∧ (g.2.1 = ordX n x g.1) ∧ (g.2.1 < 4294967296) ∧ (∀ j, j < n → g.2.2.1 j = ordO n x g.1 j) ∧ (n ≤ g.2.2.2.2.1) ∧ (g.2.2.2.2.2.length = (g.2.2.2.2.1 - n) * 1)) (fun g => n - g.1) ?_ ?_
    · exact ⟨(0, x, y, b_o, c_o, sp_o), (.cons rfl (.cons rfl (.cons rfl (.cons rfl (.cons rfl (.nil _)))))), st, (by first | omega | (dsimp only; omega)), rfl, hx, hy, hc_o, hs_o⟩
    clear st
    rintro ⟨r, z, y, b_q, c_q, sp_q⟩ w6 ⟨st, hr, hzz, hz, hy, hc_q, hs_q⟩
    try dsimp only at st hr hzz hz hy hc_q hs_q ⊢
    refine Wc.seq ?_
    refine Wc.seq ?_
    refine Wc.region rfl ?_
    refine Wl.pure (PR.moveI rfl) ?_
    refine Wl.pure (PR.geq (a := (((n - 1 - r) : Nat) : Int)) (b := 1) rfl rfl) ?_
    refine Wl.nil ?_
    refine tn ?_
    refine Wc.condD (p := 1 ≤ (((n - 1 - r) : Nat) : Int)) rfl (fun h7 => ?_) (fun h7 => ?_)
    · refine Wc.skip ?_
      refine tn ?_
      refine Wc.seq ?_
      refine Wc.block ?_
      refine Wc.seq ?_
      have hkd := drawK_lt (x := z) (n := n - 1 - r + 1) (by omega)
      refine Wc.region rfl ?_
      refine Wl.pure (PR.moveI rfl) ?_
      refine Wl.pure (PR.moveI rfl) ?_
      refine Wl.pure (PR.add (a := (((n - 1 - r) : Nat) : Int)) (b := 1) rfl rfl (by simp only [fitI]; omega)) ?_
      refine Wl.callV (c_spec_l03Number (x := z) (n := ((n - 1 - r) + 1)) hz (by first | assumption | omega)) rfl ?_
      intro w8 hbel
      replace st := st.call hbel
      clear hbel
      refine Wl.pure (PR.moveV (.tuple #[.int .i64 (((drawK z ((n - 1 - r) + 1) : Nat) : Int)), .int .u32 (((lcg z : Nat) : Int))]) rfl) ?_
      refine Wl.pure (PR.extr (i := 0) (vs := [.int .i64 (((drawK z ((n - 1 - r) + 1) : Nat) : Int)), .int .u32 (((lcg z : Nat) : Int))]) rfl rfl) ?_
      refine Wl.pure (PR.extr (i := 1) (vs := [.int .i64 (((drawK z ((n - 1 - r) + 1) : Nat) : Int)), .int .u32 (((lcg z : Nat) : Int))]) rfl rfl) ?_
      refine Wl.pure (PR.assI rfl) ?_
      refine Wl.pure (PR.assI rfl) ?_
      refine Wl.nil ?_
      refine tn ?_
      refine Wc.seq ?_
      refine Wc.region rfl ?_
      refine Wl.pure (PR.moveI rfl) ?_
      refine Wl.pure (PR.assI rfl) ?_
      refine Wl.nil ?_
      refine tn ?_
      refine Wc.seq ?_
      refine Wc.region rfl ?_
      refine Wl.pure (PR.moveL rfl) ?_
      refine Wl.pure (PR.moveI rfl) ?_
      refine Wl.pure (PR.idxAddrS1 (i := drawK z ((n - 1 - r) + 1)) tS_143 rfl rfl (by omega)) ?_
      refine Wl.load (i := 0) st tA_22 rfl rfl (app_get (arrU_get0 (by omega))) ?_
      refine Wl.pure (PR.assI rfl) ?_
      refine Wl.nil ?_
      refine tn ?_
      refine Wc.seq ?_
      refine Wc.region rfl ?_
      refine Wl.pure (PR.moveL rfl) ?_
      refine Wl.pure (PR.moveI rfl) ?_
      refine Wl.pure (PR.moveL rfl) ?_
      refine Wl.pure (PR.moveI rfl) ?_
      refine Wl.pure (PR.idxAddrS1 (i := (n - 1 - r)) tS_143 rfl rfl (by omega)) ?_
      refine Wl.load (i := 0) st tA_22 rfl rfl (app_get (arrU_get0 (by omega))) ?_
      refine Wl.pure (PR.idxAddrS1 (i := drawK z ((n - 1 - r) + 1)) tS_143 rfl rfl (by omega)) ?_
      refine Wl.store (i := 0) (cs' := arrU .i8 n (upd y (drawK z ((n - 1 - r) + 1)) (y ((n - 1 - r)))) ++ sp_q) st tA_22 rfl rfl rfl rfl (app_in (lt_of_len (arrU_len _) (by omega))) (app_set (lt_of_len (arrU_len _) (by omega)) (arrU_set0)) ?_
      clear st
      intro w9 st
      replace st : St [] w w9 [(b_q, arrU .i8 n (upd y (drawK z ((n - 1 - r) + 1)) (y ((n - 1 - r)))) ++ sp_q, 22)] := st
      refine Wl.nil ?_
      refine tn ?_
      refine Wc.region rfl ?_
      refine Wl.pure (PR.moveL rfl) ?_
      refine Wl.pure (PR.moveI rfl) ?_
      refine Wl.pure (PR.moveI rfl) ?_
      refine Wl.pure (PR.idxAddrS1 (i := (n - 1 - r)) tS_143 rfl rfl (by omega)) ?_
      refine Wl.store (i := 0) (cs' := arrU .i8 n (upd (upd y (drawK z ((n - 1 - r) + 1)) (y ((n - 1 - r)))) ((n - 1 - r)) (y (drawK z ((n - 1 - r) + 1)))) ++ sp_q) st tA_22 rfl rfl rfl rfl (app_in (lt_of_len (arrU_len _) (by omega))) (app_set (lt_of_len (arrU_len _) (by omega)) (arrU_set0)) ?_
      clear st
      intro w10 st
      replace st : St [] w w10 [(b_q, arrU .i8 n (upd (upd y (drawK z ((n - 1 - r) + 1)) (y ((n - 1 - r)))) ((n - 1 - r)) (y (drawK z ((n - 1 - r) + 1)))) ++ sp_q, 22)] := st
      refine Wl.nil ?_
      refine bn ?_
      refine tn ?_
      refine Wc.region rfl ?_
      refine Wl.pure (PR.moveI rfl) ?_
      refine Wl.pure (PR.subN (a := (n - 1 - r)) (b := 1) rfl rfl (by omega) (by simp only [fitI]; omega)) ?_
      refine Wl.pure (PR.assI rfl) ?_
      refine Wl.nil ?_
      refine tn ?_
      exact ⟨(r + 1, lcg z, upd (upd y (drawK z ((n - 1 - r) + 1)) (y ((n - 1 - r)))) ((n - 1 - r)) (y (drawK z ((n - 1 - r) + 1))), b_q, c_q, sp_q), (.cons rfl (.cons rfl (.cons rfl (.cons rfl (.cons rfl (.nil _)))))), ⟨st, (by first | omega | (dsimp only; omega)), (by rw [hzz]; rfl), (lcg_lt _), (by subst hzz; rw [swp_eq]; exact ord_next hy (by omega)), hc_q, hs_q⟩, (by first | omega | (dsimp only; omega))⟩
    · refine Wc.exit ?_
      refine tx ?_
      refine tx ?_
      refine bh ?_
      refine tn ?_
      refine Wc.seq ?_
      refine Wc.region rfl ?_
      refine Wl.pure (PR.moveL rfl) ?_
      refine Wl.pure (PR.moveI rfl) ?_
      refine Wl.pure (PR.assL rfl) ?_
      refine Wl.pure (PR.assI rfl) ?_
      refine Wl.nil ?_
      refine tn ?_
      refine Wc.ret ?_
      refine postL.tmp2 rfl rfl rfl ?_
      rw [oOf_of hy (by omega)] at st
      exact ⟨b_q, c_q, sp_q, hc_q, hs_q, (by rw [hzz, xOf_of (by omega)]), st⟩

set_option maxHeartbeats 400000 in
set_option maxRecDepth 4000 in
theorem c_impl_reorder {v : Nat} {A : Option Addr} {n : Nat} {cp : Nat} {o : Nat → Nat} {w : World} (hv : v < 256) (hR : RdS w A n (arrU .i8 n o)) (hn : n ≤ 8) (ho : ∀ j, j < n → o j < 8) :
    CE Try.prog 116 [.int .u8 (((v : Nat) : Int)), .slice (A) (n) (cp)] w (RetV w (.int .u8 (((rdF v o n : Nat) : Int)))) := by
  refine CE.enter 25 [(0, .int .u8 (((v : Nat) : Int))), (1, .slice (A) (n) (cp))] en_116 Try.func116 rfl rfl (Nat.le_of_ble_eq_true rfl) rfl ?_
  have st := St.start w
  refine Wc.seq ?_
  refine Wc.region rfl ?_
  refine Wl.pure (PR.assI rfl) ?_
  refine Wl.nil ?_
  refine tn ?_
  refine Wc.seq ?_
  refine Wc.region rfl ?_
  refine Wl.pure (PR.assI rfl) ?_
  refine Wl.nil ?_
  refine tn ?_
  refine Wc.seq ?_
  refine Wc.seq ?_
  refine Wc.region rfl ?_
  refine Wl.pure (PR.moveL rfl) ?_
  refine Wl.pure (PR.lenL tS_143 rfl) ?_
  refine Wl.pure (PR.moveI rfl) ?_
  refine Wl.nil ?_
  refine tn ?_
  refine Wc.block ?_
  refine Wc.loopF (γ := Nat × Nat) (fun g => [(0, .int .u8 (((v : Nat) : Int))), (4, .int .u8 (0)), (5, .int .u8 (((g.2 : Nat) : Int))), (8, .slice (A) (n) (cp)), (9, .int .i64 (((n : Nat) : Int))), (10, .int .i64 (((g.1 : Nat) : Int)))]) (fun g w_ => St [] w w_ [] ∧ (g.1 ≤ n) ∧ (g.2 = rdF v o g.1) ∧ (g.2 < 256)) (fun g => n - g.1) ?_ ?_
  · exact ⟨(0, 0), (.cons rfl (.cons rfl (.cons rfl (.cons rfl (.cons rfl (.cons rfl (.nil _))))))), st, (by first | omega | (dsimp only; omega)), rfl, (by decide)⟩
  clear st
  rintro ⟨k, u⟩ w1 ⟨st, hk, hu, hub⟩
  try dsimp only at st hk hu hub ⊢
  refine Wc.seq ?_
  refine Wc.region rfl ?_
  refine Wl.pure (PR.lss (a := ((k : Nat) : Int)) (b := ((n : Nat) : Int)) rfl rfl) ?_
  refine Wl.nil ?_
  refine tn ?_
  refine Wc.seq ?_
  refine Wc.condD (p := ((k : Nat) : Int) < ((n : Nat) : Int)) rfl (fun h2 => ?_) (fun h2 => ?_)
  · refine Wc.skip ?_
    refine tn ?_
    refine Wc.seq ?_
    refine Wc.block ?_
    refine Wc.seq ?_
    refine Wc.region rfl ?_
    refine Wl.pure (PR.moveI rfl) ?_
    obtain ⟨bs3, os4, rfl, hs5⟩ := hR (by omega)
    refine Wl.pure (PR.idxAddrS1 (i := k) tS_143 rfl rfl (by omega)) ?_
    refine Wl.loadC tA_22 rfl ((hs5.st st).at_ (arrU_get0 (by omega)) (Nat.add_assoc _ _ _).symm) ?_
    refine Wl.pure (PR.assI rfl) ?_
    refine Wl.pure (PR.assI rfl) ?_
    refine Wl.nil ?_
    refine tn ?_
    have hok := ho k (by omega)
    refine Wc.region rfl ?_
    refine Wl.pure (PR.moveI rfl) ?_
    refine Wl.pure (PR.moveI rfl) ?_
    refine Wl.pure (PR.moveI rfl) ?_
    refine Wl.pure (PR.shr (a := v) (n := o (k)) rfl rfl (by decide) hv) ?_
    refine Wl.pure (PR.and (a := (v >>> (o (k)))) (b := 1) rfl rfl (by decide) (shr_lt hv) (by decide)) ?_
    refine Wl.pure (PR.moveI rfl) ?_
    refine Wl.pure (PR.shl (a := ((v >>> (o (k))) &&& 1)) (n := k) rfl rfl (by decide)) ?_
    refine Wl.pure (PR.or (a := u) (b := ((((v >>> (o (k))) &&& 1) <<< k) % 256)) rfl rfl (by decide) hub (Nat.mod_lt _ (by decide))) ?_
    refine Wl.pure (PR.assI rfl) ?_
    refine Wl.nil ?_
    refine bn ?_
    refine tn ?_
    refine Wc.region rfl ?_
    refine Wl.pure (PR.add (a := ((k : Nat) : Int)) (b := 1) rfl rfl (by simp only [fitI]; omega)) ?_
    refine Wl.pure (PR.moveI rfl) ?_
    refine Wl.nil ?_
    refine tn ?_
    exact ⟨(k + 1, (u ||| ((((v >>> (o (k))) &&& 1) <<< k) % 256))), (.cons rfl (.cons rfl (.cons rfl (.cons rfl (.cons rfl (.cons rfl (.nil _))))))), ⟨st, (by first | omega | (dsimp only; omega)), (by rw [hu]; rfl), (or_lt_u8 hub (Nat.mod_lt _ (by decide)))⟩, (by first | omega | (dsimp only; omega))⟩
  · refine Wc.exit ?_
    refine tx ?_
    refine tx ?_
    refine bh ?_
    refine tn ?_
    refine Wc.seq ?_
    refine Wc.region rfl ?_
    refine Wl.pure (PR.moveI rfl) ?_
    refine Wl.pure (PR.assI rfl) ?_
    refine Wl.nil ?_
    refine tn ?_
    refine Wc.ret ?_
    refine postL.tmp rfl rfl ?_
    refine RetV.of ?_ st.below
    refine congrArg (fun x : Nat => Value.int .u8 (x : Int)) ?_
    obtain rfl : k = n := by omega
    exact hu

set_option maxHeartbeats 400000 in
set_option maxRecDepth 4000 in
theorem c_spec_l01Reordered {v : Nat} {A : Option Addr} {n : Nat} {cp : Nat} {o : Nat → Nat} {w : World} (hv : v < 256) (hR : RdS w A n (arrU .i8 n o)) (hn : n ≤ 8) (ho : ∀ j, j < n → o j < 8) :
    CE Try.prog 113 [.int .u8 (((v : Nat) : Int)), .slice (A) (n) (cp)] w (RetV w (.int .u8 (((rdF v o n : Nat) : Int)))) := by
  refine CE.enter 27 [(0, .int .u8 (((v : Nat) : Int))), (1, .slice (A) (n) (cp))] en_113 Try.func113 rfl rfl (Nat.le_of_ble_eq_true rfl) rfl ?_
  have st := St.start w
  refine Wc.seq ?_
  refine Wc.region rfl ?_
  refine Wl.pure (PR.assI rfl) ?_
  refine Wl.nil ?_
  refine tn ?_
  refine Wc.seq ?_
  refine Wc.region rfl ?_
  refine Wl.pure (PR.assI rfl) ?_
  refine Wl.nil ?_
  refine tn ?_
  refine Wc.seq ?_
  refine Wc.seq ?_
  refine Wc.region rfl ?_
  refine Wl.pure (PR.assI rfl) ?_
  refine Wl.nil ?_
  refine tn ?_
  refine Wc.block ?_
  refine Wc.loopF (γ := Nat × Nat) (fun g => [(0, .int .u8 (((v : Nat) : Int))), (1, .slice (A) (n) (cp)), (4, .int .u8 (0)), (5, .int .u8 (((g.2 : Nat) : Int))), (6, .int .i64 (((g.1 : Nat) : Int)))]) (fun g w_ => St [] w w_ [] ∧ (g.1 ≤ n) ∧ (g.2 = rdF v o g.1) ∧ (g.2 < 256)) (fun g => n - g.1) ?_ ?_
  · exact ⟨(0, 0), (.cons rfl (.cons rfl (.cons rfl (.cons rfl (.cons rfl (.nil _)))))), st, (by first | omega | (dsimp only; omega)), rfl, (by decide)⟩
  clear st
  rintro ⟨k, u⟩ w1 ⟨st, hk, hu, hub⟩
  try dsimp only at st hk hu hub ⊢
  refine Wc.seq ?_
  refine Wc.seq ?_
  refine Wc.region rfl ?_
  refine Wl.pure (PR.moveI rfl) ?_
  refine Wl.pure (PR.moveL rfl) ?_
  refine Wl.pure (PR.lenL tS_143 rfl) ?_
  refine Wl.pure (PR.lss (a := ((k : Nat) : Int)) (b := ((n : Nat) : Int)) rfl rfl) ?_
  refine Wl.nil ?_
  refine tn ?_
  refine Wc.condD (p := ((k : Nat) : Int) < ((n : Nat) : Int)) rfl (fun h2 => ?_) (fun h2 => ?_)
  · refine Wc.skip ?_
    refine tn ?_
    refine Wc.seq ?_
    refine Wc.block ?_
    have hok := ho k (by omega)
    refine Wc.region rfl ?_
    refine Wl.pure (PR.moveI rfl) ?_
    refine Wl.pure (PR.moveI rfl) ?_
    refine Wl.pure (PR.moveL rfl) ?_
    refine Wl.pure (PR.moveI rfl) ?_
    obtain ⟨bs3, os4, rfl, hs5⟩ := hR (by omega)
    refine Wl.pure (PR.idxAddrS1 (i := k) tS_143 rfl rfl (by omega)) ?_
    refine Wl.loadC tA_22 rfl ((hs5.st st).at_ (arrU_get0 (by omega)) (Nat.add_assoc _ _ _).symm) ?_
    refine Wl.pure (PR.conv (n := ((o (k) : Nat) : Int)) tI_133 rfl (by simp only [fitI]; omega) Try.underlying22) ?_
    refine Wl.pure (PR.shr (a := v) (n := o (k)) rfl rfl (by decide) hv) ?_
    refine Wl.pure (PR.and (a := (v >>> (o (k)))) (b := 1) rfl rfl (by decide) (shr_lt hv) (by decide)) ?_
    refine Wl.pure (PR.moveI rfl) ?_
    refine Wl.pure (PR.conv (n := ((k : Nat) : Int)) tI_133 rfl (by simp only [fitI]; omega) Try.underlying3) ?_
    refine Wl.pure (PR.shl (a := ((v >>> (o (k))) &&& 1)) (n := k) rfl rfl (by decide)) ?_
    refine Wl.pure (PR.or (a := u) (b := ((((v >>> (o (k))) &&& 1) <<< k) % 256)) rfl rfl (by decide) hub (Nat.mod_lt _ (by decide))) ?_
    refine Wl.pure (PR.assI rfl) ?_
    refine Wl.nil ?_
    refine bn ?_
    refine tn ?_
    refine Wc.region rfl ?_
    refine Wl.pure (PR.moveI rfl) ?_
    refine Wl.pure (PR.add (a := ((k : Nat) : Int)) (b := 1) rfl rfl (by simp only [fitI]; omega)) ?_
    refine Wl.pure (PR.assI rfl) ?_
    refine Wl.nil ?_
    refine tn ?_
    exact ⟨(k + 1, (u ||| ((((v >>> (o (k))) &&& 1) <<< k) % 256))), (.cons rfl (.cons rfl (.cons rfl (.cons rfl (.cons rfl (.nil _)))))), ⟨st, (by first | omega | (dsimp only; omega)), (by rw [hu]; rfl), (or_lt_u8 hub (Nat.mod_lt _ (by decide)))⟩, (by first | omega | (dsimp only; omega))⟩
  · refine Wc.exit ?_
    refine tx ?_
    refine tx ?_
    refine bh ?_
    refine tn ?_
    refine Wc.seq ?_
    refine Wc.region rfl ?_
    refine Wl.pure (PR.moveI rfl) ?_
    refine Wl.pure (PR.assI rfl) ?_
    refine Wl.nil ?_
    refine tn ?_
    refine Wc.ret ?_
    refine postL.tmp rfl rfl ?_
    refine RetV.of ?_ st.below
    refine congrArg (fun x : Nat => Value.int .u8 (x : Int)) ?_
    obtain rfl : k = n := by omega
    exact hu

end Go.Proofs.Ytajkjhjnbfcpfaa
