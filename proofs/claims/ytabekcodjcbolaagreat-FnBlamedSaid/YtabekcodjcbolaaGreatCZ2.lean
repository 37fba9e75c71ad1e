/-
  Contracts of functions, printed by a program of ours.
-/
import Derived.Test.YtabekcodjcbolaaGreatCZ1
import Derived.Test.YtabekcodjcbolaaGreatCG6
namespace Go.Proofs.YtabekcodjcbolaaGreat
open Go.RowKit
set_option linter.unusedVariables false
set_option linter.unusedSimpArgs false

set_option maxHeartbeats 400000 in
set_option maxRecDepth 4000 in
theorem c_spec_l03Number {x : Nat} {n : Nat} {w : World} (hx : x < 4294967296) (hn : 0 < n ∧ n ≤ 1000) :
    CE Tryz.prog 75 [.int .u32 (((x : Nat) : Int)), .int .i64 (((n : Nat) : Int))] w (RetV w (.tuple #[.int .i64 (((drawK x n : Nat) : Int)), .int .u32 (((lcg x : Nat) : Int))])) := by
  refine CE.enter 15 [(0, .int .u32 (((x : Nat) : Int))), (1, .int .i64 (((n : Nat) : Int)))] en_75 Tryz.func75 rfl rfl (Nat.le_of_ble_eq_true rfl) rfl ?_
  have st := St.start w
  refine Wc.seq ?_
  refine Wc.region rfl ?_
  refine Wl.pure (PR.assI rfl) ?_
  refine Wl.pure (PR.assI rfl) ?_
  refine Wl.nil ?_
  refine tn ?_
  refine Wc.seq ?_
  refine Wc.region rfl ?_
  refine Wl.pure (PR.moveI rfl) ?_
  refine Wl.pure (PR.mulU (a := 1664525) (b := x) rfl rfl (by decide)) ?_
  refine Wl.pure (PR.addU (a := ((1664525 * x) % 4294967296)) (b := 1013904223) rfl rfl (by decide)) ?_
  refine Wl.pure (PR.assI rfl) ?_
  refine Wl.nil ?_
  refine tn ?_
  refine Wc.seq ?_
  refine Wc.region rfl ?_
  refine Wl.pure (PR.moveI rfl) ?_
  refine Wl.pure (PR.shr (a := ((((1664525 * x) % 4294967296) + 1013904223) % 4294967296)) (n := 16) rfl rfl (by decide) (Nat.mod_lt _ (by decide))) ?_
  refine Wl.pure (PR.conv (n := (((((((1664525 * x) % 4294967296) + 1013904223) % 4294967296) >>> 16) : Nat) : Int)) tI_2 rfl (fitN (shr_lt (Nat.mod_lt _ (by decide))) rfl) Tryz.underlying33) ?_
  refine Wl.pure (PR.moveI rfl) ?_
  refine Wl.pure (PR.rem (a := (((((((1664525 * x) % 4294967296) + 1013904223) % 4294967296) >>> 16) : Nat) : Int)) (b := ((n : Nat) : Int)) rfl rfl (by omega) (by omega)) ?_
  refine Wl.pure (PR.moveI rfl) ?_
  refine Wl.pure (PR.assI rfl) ?_
  refine Wl.pure (PR.assI rfl) ?_
  refine Wl.nil ?_
  refine tn ?_
  refine Wc.ret ?_
  refine postL.tmp2 rfl rfl rfl ?_
  refine RetV.of ?_ st.below
  rfl

set_option maxHeartbeats 400000 in
set_option maxRecDepth 4000 in
theorem c_spec_l03Order {x : Nat} {n : Nat} {w : World} (hx : x < 4294967296) (hn : 1 ≤ n ∧ n ≤ 8) :
    CE Tryz.prog 54 [.int .u32 (((x : Nat) : Int)), .int .i64 (((n : Nat) : Int))] w (RetXG w [] 24 1 (n) (arrU .i8 n (oOf n x)) (fun b_ c_ => .tuple #[.slice (some ⟨b_, 0, none⟩) (n) (c_), .int .u32 (((xOf n x : Nat) : Int))]) []) := by
  refine CE.enter 54 [(0, .int .u32 (((x : Nat) : Int))), (1, .int .i64 (((n : Nat) : Int)))] en_54 Tryz.func54 rfl rfl (Nat.le_of_ble_eq_true rfl) rfl ?_
  have st := St.start w
  refine Wc.seq ?_
  refine Wc.region rfl ?_
  refine Wl.pure (PR.assL rfl) ?_
  refine Wl.pure (PR.assI rfl) ?_
  refine Wl.nil ?_
  refine tn ?_
  refine Wc.seq ?_
  refine Wc.region rfl ?_
  refine Wl.buildSlice (ps := []) (cs := arrU .i8 0 (fun _ => 0) ++ []) st tS_88 tZ_24 rfl rfl rfl ?_
  clear st
  intro b12 w1 st
  refine Wl.pure (PR.assL rfl) ?_
  refine Wl.nil ?_
  refine tn ?_
  refine Wc.seq ?_
  refine Wc.seq ?_
  refine Wc.region rfl ?_
  refine Wl.pure (PR.assI rfl) ?_
  refine Wl.nil ?_
  refine tn ?_
  refine Wc.block ?_
  refine Wc.loopF (γ := Nat × (Nat → Nat) × Nat × Nat × List Value) (fun g => [(0, .int .u32 (((x : Nat) : Int))), (1, .int .i64 (((n : Nat) : Int))), (4, .slice (none) (0) (0)), (5, .int .u32 (0)), (6, .slice (some ⟨g.2.2.1, 0, none⟩) (g.1) (g.2.2.2.1)), (7, .int .i64 (((g.1 : Nat) : Int)))]) (fun g w_ => St [] w w_ [(g.2.2.1, arrU .i8 g.1 g.2.1 ++ g.2.2.2.2, 24)] ∧ (g.1 ≤ n) ∧ (∀ j, j < g.1 → g.2.1 j = j) ∧ (g.1 ≤ g.2.2.2.1) ∧ (g.2.2.2.2.length = (g.2.2.2.1 - g.1) * 1)) (fun g => n - g.1) ?_ ?_
  · exact ⟨(0, (fun _ => 0), b12, 0, []), (.cons rfl (.cons rfl (.cons rfl (.cons rfl (.cons rfl (.cons rfl (.nil _))))))), st, (by first | omega | (dsimp only; omega)), (fun j hj => by omega), (Nat.le_refl _), rfl⟩
  clear st
  rintro ⟨k, y, b_o, c_o, sp_o⟩ w2 ⟨st, hk, hy, hc_o, hs_o⟩
  try dsimp only at st hk hy hc_o hs_o ⊢
  refine Wc.seq ?_
  refine Wc.seq ?_
  refine Wc.region rfl ?_
  refine Wl.pure (PR.moveI rfl) ?_
  refine Wl.pure (PR.moveI rfl) ?_
  refine Wl.pure (PR.lss (a := ((k : Nat) : Int)) (b := ((n : Nat) : Int)) rfl rfl) ?_
  refine Wl.nil ?_
  refine tn ?_
  refine Wc.condD (p := ((k : Nat) : Int) < ((n : Nat) : Int)) rfl (fun h3 => ?_) (fun h3 => ?_)
  · refine Wc.skip ?_
    refine tn ?_
    refine Wc.seq ?_
    refine Wc.block ?_
    refine Wc.region rfl ?_
    refine Wl.pure (PR.moveL rfl) ?_
    refine Wl.pure (PR.moveI rfl) ?_
    refine Wl.pure (PR.conv (n := ((k : Nat) : Int)) tI_24 rfl (by simp only [fitI]; omega) Tryz.underlying2) ?_
    refine Wl.buildSlice (ps := [(0, .int .i8 (((k : Nat) : Int)))]) (cs := [.int .i8 (((k : Nat) : Int))]) st tS_88 tZ_24 rfl rfl rfl ?_
    clear st
    intro b21 w4 st
    refine Wl.append (n := k) (c := c_o) (m := 1) (cs := arrU .i8 k y) (sp := sp_o) (vs := [.int .i8 (((k : Nat) : Int))]) (i := 1) st tS_88 tZ_24 rfl rfl rfl (by rw [(arrU_len _), Nat.mul_one]) hs_o hc_o rfl (Src.ofRdA (tyS_und tS_88) (st.rdA (i := 0) (n := 1) rfl rfl) rfl (by simp [Value.oneCell'])) (by omega) (by omega) ?_
    clear st
    intro b22 c22 sp22 w5 hc22 hs22 st
    rw [arrU_snoc] at st
    replace st : St [] w w5 [(b22, arrU .i8 (k + 1) (upd y k k) ++ sp22, 24), (b21, [.int .i8 (((k : Nat) : Int))], 24)] := st
    refine Wl.pure (PR.assL rfl) ?_
    refine Wl.nil ?_
    refine bn ?_
    refine tn ?_
    refine Wc.region rfl ?_
    refine Wl.pure (PR.moveI rfl) ?_
    refine Wl.pure (PR.add (a := ((k : Nat) : Int)) (b := 1) rfl rfl (by simp only [fitI]; omega)) ?_
    refine Wl.pure (PR.assI rfl) ?_
    refine Wl.nil ?_
    refine tn ?_
    replace st : St [] w w5 [(b22, arrU .i8 (k + 1) (upd y k k) ++ sp22, 24)] := st.pick [0] (by decide) rfl
    exact ⟨(k + 1, (upd y k k), b22, c22, sp22), (.cons rfl (.cons rfl (.cons rfl (.cons rfl (.cons rfl (.cons rfl (.nil _))))))), ⟨st, (by first | omega | (dsimp only; omega)), (id_snoc hy), hc22, hs22⟩, (by first | omega | (dsimp only; omega))⟩
  · refine Wc.exit ?_
    refine tx ?_
    refine tx ?_
    refine bh ?_
    refine tn ?_
    refine Wc.seq ?_
    refine Wc.seq ?_
    obtain rfl : n = k := by omega
    refine Wc.region rfl ?_
    refine Wl.pure (PR.moveI rfl) ?_
    refine Wl.pure (PR.subN (a := n) (b := 1) rfl rfl (by omega) (by simp only [fitI]; omega)) ?_
    refine Wl.pure (PR.assI rfl) ?_
    refine Wl.nil ?_
    refine tn ?_
    refine Wc.block ?_
    refine Wc.loopF (γ := Nat × Nat × (Nat → Nat) × Nat × Nat × List Value) (fun g => [(0, .int .u32 (((g.2.1 : Nat) : Int))), (4, .slice (none) (0) (0)), (5, .int .u32 (0)), (6, .slice (some ⟨g.2.2.2.1, 0, none⟩) (n) (g.2.2.2.2.1)), (8, .int .i64 ((((n - 1 - g.1) : Nat) : Int)))]) (fun g w_ => St [] w w_ [(g.2.2.2.1, arrU .i8 n g.2.2.1 ++ g.2.2.2.2.2, 24)] ∧ (g.1 ≤ n - 1) ∧ (g.2.1 = ordX n x g.1) ∧ (g.2.1 < 4294967296) ∧ (∀ j, j < n → g.2.2.1 j = ordO n x g.1 j) ∧ (n ≤ g.2.2.2.2.1) ∧ (g.2.2.2.2.2.length = (g.2.2.2.2.1 - n) * 1)) (fun g => n - g.1) ?_ ?_
    · exact ⟨(0, x, y, b_o, c_o, sp_o), (.cons rfl (.cons rfl (.cons rfl (.cons rfl (.cons rfl (.nil _)))))), st, (by first | omega | (dsimp only; omega)), rfl, hx, hy, hc_o, hs_o⟩
    clear st
    rintro ⟨r, z, y, b_q, c_q, sp_q⟩ w6 ⟨st, hr, hzz, hz, hy, hc_q, hs_q⟩
    try dsimp only at st hr hzz hz hy hc_q hs_q ⊢
    refine Wc.seq ?_
    refine Wc.seq ?_
    refine Wc.region rfl ?_
    refine Wl.pure (PR.moveI rfl) ?_
    refine Wl.pure (PR.geq (a := (((n - 1 - r) : Nat) : Int)) (b := 1) rfl rfl) ?_
    refine Wl.nil ?_
    refine tn ?_
    refine Wc.condD (p := 1 ≤ (((n - 1 - r) : Nat) : Int)) rfl (fun h7 => ?_) (fun h7 => ?_)
    · refine Wc.skip ?_
      refine tn ?_
      refine Wc.seq ?_
      refine Wc.block ?_
      refine Wc.seq ?_
      have hkd := drawK_lt (x := z) (n := n - 1 - r + 1) (by omega)
      refine Wc.region rfl ?_
      refine Wl.pure (PR.moveI rfl) ?_
      refine Wl.pure (PR.moveI rfl) ?_
      refine Wl.pure (PR.add (a := (((n - 1 - r) : Nat) : Int)) (b := 1) rfl rfl (by simp only [fitI]; omega)) ?_
      refine Wl.callV (c_spec_l03Number (x := z) (n := ((n - 1 - r) + 1)) hz (by first | assumption | omega)) rfl ?_
      intro w8 hbel
      replace st := st.call hbel
      clear hbel
      refine Wl.pure (PR.moveV (.tuple #[.int .i64 (((drawK z ((n - 1 - r) + 1) : Nat) : Int)), .int .u32 (((lcg z : Nat) : Int))]) rfl) ?_
      refine Wl.pure (PR.extr (i := 0) (vs := [.int .i64 (((drawK z ((n - 1 - r) + 1) : Nat) : Int)), .int .u32 (((lcg z : Nat) : Int))]) rfl rfl) ?_
      refine Wl.pure (PR.extr (i := 1) (vs := [.int .i64 (((drawK z ((n - 1 - r) + 1) : Nat) : Int)), .int .u32 (((lcg z : Nat) : Int))]) rfl rfl) ?_
      refine Wl.pure (PR.assI rfl) ?_
      refine Wl.pure (PR.assI rfl) ?_
      refine Wl.nil ?_
      refine tn ?_
      refine Wc.seq ?_
      refine Wc.region rfl ?_
      refine Wl.pure (PR.moveI rfl) ?_
      refine Wl.pure (PR.assI rfl) ?_
      refine Wl.nil ?_
      refine tn ?_
      refine Wc.seq ?_
      refine Wc.region rfl ?_
      refine Wl.pure (PR.moveL rfl) ?_
      refine Wl.pure (PR.moveI rfl) ?_
      refine Wl.pure (PR.idxAddrS1 (i := drawK z ((n - 1 - r) + 1)) tS_88 rfl rfl (by omega)) ?_
      refine Wl.load (i := 0) st tA_24 rfl rfl (app_get (arrU_get0 (by omega))) ?_
      refine Wl.pure (PR.assI rfl) ?_
      refine Wl.nil ?_
      refine tn ?_
      refine Wc.seq ?_
      refine Wc.region rfl ?_
      refine Wl.pure (PR.moveL rfl) ?_
      refine Wl.pure (PR.moveI rfl) ?_
      refine Wl.pure (PR.moveL rfl) ?_
      refine Wl.pure (PR.moveI rfl) ?_
      refine Wl.pure (PR.idxAddrS1 (i := (n - 1 - r)) tS_88 rfl rfl (by omega)) ?_
      refine Wl.load (i := 0) st tA_24 rfl rfl (app_get (arrU_get0 (by omega))) ?_
      refine Wl.pure (PR.idxAddrS1 (i := drawK z ((n - 1 - r) + 1)) tS_88 rfl rfl (by omega)) ?_
      refine Wl.store (i := 0) (cs' := arrU .i8 n (upd y (drawK z ((n - 1 - r) + 1)) (y ((n - 1 - r)))) ++ sp_q) st tA_24 rfl rfl rfl rfl (app_in (lt_of_len (arrU_len _) (by omega))) (app_set (lt_of_len (arrU_len _) (by omega)) (arrU_set0)) ?_
      clear st
      intro w9 st
      replace st : St [] w w9 [(b_q, arrU .i8 n (upd y (drawK z ((n - 1 - r) + 1)) (y ((n - 1 - r)))) ++ sp_q, 24)] := st
      refine Wl.nil ?_
      refine tn ?_
      refine Wc.region rfl ?_
      refine Wl.pure (PR.moveL rfl) ?_
      refine Wl.pure (PR.moveI rfl) ?_
      refine Wl.pure (PR.moveI rfl) ?_
      refine Wl.pure (PR.idxAddrS1 (i := (n - 1 - r)) tS_88 rfl rfl (by omega)) ?_
      refine Wl.store (i := 0) (cs' := arrU .i8 n (upd (upd y (drawK z ((n - 1 - r) + 1)) (y ((n - 1 - r)))) ((n - 1 - r)) (y (drawK z ((n - 1 - r) + 1)))) ++ sp_q) st tA_24 rfl rfl rfl rfl (app_in (lt_of_len (arrU_len _) (by omega))) (app_set (lt_of_len (arrU_len _) (by omega)) (arrU_set0)) ?_
      clear st
      intro w10 st
      replace st : St [] w w10 [(b_q, arrU .i8 n (upd (upd y (drawK z ((n - 1 - r) + 1)) (y ((n - 1 - r)))) ((n - 1 - r)) (y (drawK z ((n - 1 - r) + 1)))) ++ sp_q, 24)] := st
      refine Wl.nil ?_
      refine bn ?_
      refine tn ?_
      refine Wc.region rfl ?_
      refine Wl.pure (PR.moveI rfl) ?_
      refine Wl.pure (PR.subN (a := (n - 1 - r)) (b := 1) rfl rfl (by omega) (by simp only [fitI]; omega)) ?_
      refine Wl.pure (PR.assI rfl) ?_
      refine Wl.nil ?_
      refine tn ?_
      exact ⟨(r + 1, lcg z, upd (upd y (drawK z ((n - 1 - r) + 1)) (y ((n - 1 - r)))) ((n - 1 - r)) (y (drawK z ((n - 1 - r) + 1))), b_q, c_q, sp_q), (.cons rfl (.cons rfl (.cons rfl (.cons rfl (.cons rfl (.nil _)))))), ⟨st, (by first | omega | (dsimp only; omega)), (by rw [hzz]; rfl), (lcg_lt _), (by subst hzz; rw [swp_eq]; exact ord_next hy (by omega)), hc_q, hs_q⟩, (by first | omega | (dsimp only; omega))⟩
    · refine Wc.exit ?_
      refine tx ?_
      refine tx ?_
      refine bh ?_
      refine tn ?_
      refine Wc.seq ?_
      refine Wc.region rfl ?_
      refine Wl.pure (PR.moveL rfl) ?_
      refine Wl.pure (PR.moveI rfl) ?_
      refine Wl.pure (PR.assL rfl) ?_
      refine Wl.pure (PR.assI rfl) ?_
      refine Wl.nil ?_
      refine tn ?_
      refine Wc.ret ?_
      refine postL.tmp2 rfl rfl rfl ?_
      rw [oOf_of hy (by omega)] at st
      exact ⟨b_q, c_q, sp_q, hc_q, hs_q, (by rw [hzz, xOf_of (by omega)]), st⟩

set_option maxHeartbeats 400000 in
set_option maxRecDepth 4000 in
theorem c_spec_l01Reordered {v : Nat} {A : Option Addr} {n : Nat} {cp : Nat} {o : Nat → Nat} {w : World} (hv : v < 256) (hR : RdS w A n (arrU .i8 n o)) (hn : n ≤ 8) (ho : ∀ j, j < n → o j < 8) :
    CE Tryz.prog 76 [.int .u8 (((v : Nat) : Int)), .slice (A) (n) (cp)] w (RetV w (.int .u8 (((rdF v o n : Nat) : Int)))) := by
  refine CE.enter 27 [(0, .int .u8 (((v : Nat) : Int))), (1, .slice (A) (n) (cp))] en_76 Tryz.func76 rfl rfl (Nat.le_of_ble_eq_true rfl) rfl ?_
  have st := St.start w
  refine Wc.seq ?_
  refine Wc.region rfl ?_
  refine Wl.pure (PR.assI rfl) ?_
  refine Wl.nil ?_
  refine tn ?_
  refine Wc.seq ?_
  refine Wc.region rfl ?_
  refine Wl.pure (PR.assI rfl) ?_
  refine Wl.nil ?_
  refine tn ?_
  refine Wc.seq ?_
  refine Wc.seq ?_
  refine Wc.region rfl ?_
  refine Wl.pure (PR.assI rfl) ?_
  refine Wl.nil ?_
  refine tn ?_
  refine Wc.block ?_
  refine Wc.loopF (γ := Nat × Nat) (fun g => [(0, .int .u8 (((v : Nat) : Int))), (1, .slice (A) (n) (cp)), (4, .int .u8 (0)), (5, .int .u8 (((g.2 : Nat) : Int))), (6, .int .i64 (((g.1 : Nat) : Int)))]) (fun g w_ => St [] w w_ [] ∧ (g.1 ≤ n) ∧ (g.2 = rdF v o g.1) ∧ (g.2 < 256)) (fun g => n - g.1) ?_ ?_
  · exact ⟨(0, 0), (.cons rfl (.cons rfl (.cons rfl (.cons rfl (.cons rfl (.nil _)))))), st, (by first | omega | (dsimp only; omega)), rfl, (by decide)⟩
  clear st
  rintro ⟨k, u⟩ w1 ⟨st, hk, hu, hub⟩
  try dsimp only at st hk hu hub ⊢
  refine Wc.seq ?_
  refine Wc.seq ?_
  refine Wc.region rfl ?_
  refine Wl.pure (PR.moveI rfl) ?_
  refine Wl.pure (PR.moveL rfl) ?_
  refine Wl.pure (PR.lenL tS_88 rfl) ?_
  refine Wl.pure (PR.lss (a := ((k : Nat) : Int)) (b := ((n : Nat) : Int)) rfl rfl) ?_
  refine Wl.nil ?_
  refine tn ?_
  refine Wc.condD (p := ((k : Nat) : Int) < ((n : Nat) : Int)) rfl (fun h2 => ?_) (fun h2 => ?_)
  · refine Wc.skip ?_
    refine tn ?_
    refine Wc.seq ?_
    refine Wc.block ?_
    have hok := ho k (by omega)
    refine Wc.region rfl ?_
    refine Wl.pure (PR.moveI rfl) ?_
    refine Wl.pure (PR.moveI rfl) ?_
    refine Wl.pure (PR.moveL rfl) ?_
    refine Wl.pure (PR.moveI rfl) ?_
    obtain ⟨bs3, os4, rfl, hs5⟩ := hR (by omega)
    refine Wl.pure (PR.idxAddrS1 (i := k) tS_88 rfl rfl (by omega)) ?_
    refine Wl.loadC tA_24 rfl ((hs5.st st).at_ (arrU_get0 (by omega)) (Nat.add_assoc _ _ _).symm) ?_
    refine Wl.pure (PR.conv (n := ((o (k) : Nat) : Int)) tI_51 rfl (by simp only [fitI]; omega) Tryz.underlying24) ?_
    refine Wl.pure (PR.shr (a := v) (n := o (k)) rfl rfl (by decide) hv) ?_
    refine Wl.pure (PR.and (a := (v >>> (o (k)))) (b := 1) rfl rfl (by decide) (shr_lt hv) (by decide)) ?_
    refine Wl.pure (PR.moveI rfl) ?_
    refine Wl.pure (PR.conv (n := ((k : Nat) : Int)) tI_51 rfl (by simp only [fitI]; omega) Tryz.underlying3) ?_
    refine Wl.pure (PR.shl (a := ((v >>> (o (k))) &&& 1)) (n := k) rfl rfl (by decide)) ?_
    refine Wl.pure (PR.or (a := u) (b := ((((v >>> (o (k))) &&& 1) <<< k) % 256)) rfl rfl (by decide) hub (Nat.mod_lt _ (by decide))) ?_
    refine Wl.pure (PR.assI rfl) ?_
    refine Wl.nil ?_
    refine bn ?_
    refine tn ?_
    refine Wc.region rfl ?_
    refine Wl.pure (PR.moveI rfl) ?_
    refine Wl.pure (PR.add (a := ((k : Nat) : Int)) (b := 1) rfl rfl (by simp only [fitI]; omega)) ?_
    refine Wl.pure (PR.assI rfl) ?_
    refine Wl.nil ?_
    refine tn ?_
    exact ⟨(k + 1, (u ||| ((((v >>> (o (k))) &&& 1) <<< k) % 256))), (.cons rfl (.cons rfl (.cons rfl (.cons rfl (.cons rfl (.nil _)))))), ⟨st, (by first | omega | (dsimp only; omega)), (by rw [hu]; rfl), (or_lt_u8 hub (Nat.mod_lt _ (by decide)))⟩, (by first | omega | (dsimp only; omega))⟩
  · refine Wc.exit ?_
    refine tx ?_
    refine tx ?_
    refine bh ?_
    refine tn ?_
    refine Wc.seq ?_
    refine Wc.region rfl ?_
    refine Wl.pure (PR.moveI rfl) ?_
    refine Wl.pure (PR.assI rfl) ?_
    refine Wl.nil ?_
    refine tn ?_
    refine Wc.ret ?_
    refine postL.tmp rfl rfl ?_
    refine RetV.of ?_ st.below
    refine congrArg (fun x : Nat => Value.int .u8 (x : Int)) ?_
    obtain rfl : k = n := by omega
    exact hu

set_option maxHeartbeats 400000 in
set_option maxRecDepth 4000 in
theorem c_spec_l03Cell {bk : Nat} {ok_ : Nat} {s : Nat} {p : Nat} {a : Nat → Nat} {b : Nat → Nat} {q : Bool} {A : Option Addr} {cp : Nat} {o : Nat → Nat} {w : World} (hR : RdA w bk ok_ (schV ((s : Nat) : Int) ((p : Nat) : Int) a b)) (hp8 : 1 ≤ p ∧ p ≤ 8) (ha : ∀ k, a k < 256) (hb : ∀ k, b k < 256) (hs6 : 1 ≤ s ∧ s ≤ 6) (hO : RdS w A p (arrU .i8 p o)) (ho : ∀ j, j < p → o j < 8) :
    CE Tryz.prog 55 [.pointer (some ⟨bk, ok_, none⟩), .bool (q), .slice (A) (p) (cp)] w (RetXG w [] 5 1 (s) (arrU .u8 s (fun i_ => rdF (bif q then b i_ else a i_) o p)) (fun b_ c_ => .slice (some ⟨b_, 0, none⟩) (s) (c_)) []) := by
  refine CE.enter 40 [(0, .pointer (some ⟨bk, ok_, none⟩)), (1, .bool (q)), (2, .slice (A) (p) (cp))] en_55 Tryz.func55 rfl rfl (Nat.le_of_ble_eq_true rfl) rfl ?_
  have st := St.start w
  refine Wc.seq ?_
  refine Wc.region rfl ?_
  refine Wl.pure (PR.assL rfl) ?_
  refine Wl.nil ?_
  refine tn ?_
  refine Wc.seq ?_
  refine Wc.region rfl ?_
  refine Wl.buildSlice (ps := []) (cs := arrU .u8 0 (fun _ => 0) ++ []) st tS_22 tZ_5 rfl rfl rfl ?_
  clear st
  intro b10 w1 st
  refine Wl.pure (PR.assL rfl) ?_
  refine Wl.nil ?_
  refine tn ?_
  refine Wc.seq ?_
  refine Wc.seq ?_
  refine Wc.region rfl ?_
  refine Wl.pure (PR.assI rfl) ?_
  refine Wl.nil ?_
  refine tn ?_
  refine Wc.block ?_
  refine Wc.loopF (γ := Nat × (Nat → Nat) × Nat × Nat × List Value) (fun g => [(0, .pointer (some ⟨bk, ok_, none⟩)), (1, .bool (q)), (2, .slice (A) (p) (cp)), (6, .slice (none) (0) (0)), (7, .slice (some ⟨g.2.2.1, 0, none⟩) (g.1) (g.2.2.2.1)), (8, .int .i64 (((g.1 : Nat) : Int)))]) (fun g w_ => St [] w w_ [(g.2.2.1, arrU .u8 g.1 g.2.1 ++ g.2.2.2.2, 5)] ∧ (g.1 ≤ s) ∧ (∀ j, j < g.1 → g.2.1 j = (fun i_ => rdF (bif q then b i_ else a i_) o p) j) ∧ (g.1 ≤ g.2.2.2.1) ∧ (g.2.2.2.2.length = (g.2.2.2.1 - g.1) * 1)) (fun g => s - g.1) ?_ ?_
  · exact ⟨(0, (fun _ => 0), b10, 0, []), (.cons rfl (.cons rfl (.cons rfl (.cons rfl (.cons rfl (.cons rfl (.nil _))))))), st, (by first | omega | (dsimp only; omega)), (fun j hj => by omega), (Nat.le_refl _), rfl⟩
  clear st
  rintro ⟨k, u, b_o, c_o, sp_o⟩ w2 ⟨st, hk, hu, hc_o, hs_o⟩
  try dsimp only at st hk hu hc_o hs_o ⊢
  refine Wc.seq ?_
  refine Wc.seq ?_
  refine Wc.region rfl ?_
  refine Wl.pure (PR.moveI rfl) ?_
  refine Wl.pure (PR.moveP rfl) ?_
  refine Wl.pure (PR.nil_ rfl) ?_
  refine Wl.pure (PR.fieldAddr tF_27_0 rfl) ?_
  refine Wl.loadC tA_24 rfl ((hR.st st).at_ (j := 0) (rfl) rfl) ?_
  refine Wl.pure (PR.conv (n := ((s : Nat) : Int)) tI_3 rfl (by simp only [fitI]; omega) Tryz.underlying24) ?_
  refine Wl.pure (PR.lss (a := ((k : Nat) : Int)) (b := ((s : Nat) : Int)) rfl rfl) ?_
  refine Wl.nil ?_
  refine tn ?_
  refine Wc.condD (p := ((k : Nat) : Int) < ((s : Nat) : Int)) rfl (fun h3 => ?_) (fun h3 => ?_)
  · refine Wc.skip ?_
    refine tn ?_
    refine Wc.seq ?_
    refine Wc.block ?_
    refine Wc.seq ?_
    refine Wc.region rfl ?_
    refine Wl.pure (PR.moveP rfl) ?_
    refine Wl.pure (PR.moveI rfl) ?_
    refine Wl.pure (PR.nil_ rfl) ?_
    refine Wl.pure (PR.fieldAddr tF_27_2 rfl) ?_
    refine Wl.pure (PR.idxAddrA1 (i := k) tE_25 rfl rfl (by omega)) ?_
    refine Wl.loadC tA_5 rfl ((hR.st st).at_ (schV_get_a (by omega)) (Nat.add_assoc _ _ _).symm) ?_
    refine Wl.pure (PR.assI rfl) ?_
    refine Wl.nil ?_
    refine tn ?_
    refine Wc.seq ?_
    refine Wc.seq ?_
    refine Wc.region rfl ?_
    refine Wl.pure (PR.moveB rfl) ?_
    refine Wl.nil ?_
    refine tn ?_
    refine Wc.condB (b := q) rfl (fun h4 => ?_) (fun h4 => ?_)
    · refine Wc.region rfl ?_
      refine Wl.pure (PR.moveP rfl) ?_
      refine Wl.pure (PR.moveI rfl) ?_
      refine Wl.pure (PR.nil_ rfl) ?_
      refine Wl.pure (PR.fieldAddr tF_27_3 rfl) ?_
      refine Wl.pure (PR.idxAddrA1 (i := k) tE_25 rfl rfl (by omega)) ?_
      refine Wl.loadC tA_5 rfl ((hR.st st).at_ (schV_get_b (by omega)) (Nat.add_assoc _ _ _).symm) ?_
      refine Wl.pure (PR.assI rfl) ?_
      refine Wl.nil ?_
      refine tn ?_
      refine Wc.region rfl ?_
      refine Wl.pure (PR.moveL rfl) ?_
      refine Wl.pure (PR.moveI rfl) ?_
      refine Wl.pure (PR.moveL rfl) ?_
      refine Wl.callV (c_spec_l01Reordered (v := b (k)) (A := A) (n := p) (cp := cp) (o := o) (hb (k)) (hO.st st) (by first | assumption | omega) (by first | assumption | omega)) rfl ?_
      intro w5 hbel
      replace st := st.call hbel
      clear hbel
      refine Wl.buildSlice (ps := [(0, .int .u8 (((rdF (b (k)) o p : Nat) : Int)))]) (cs := [.int .u8 (((rdF (b (k)) o p : Nat) : Int))]) st tS_22 tZ_5 rfl rfl rfl ?_
      clear st
      intro b37 w6 st
      refine Wl.append (n := k) (c := c_o) (m := 1) (cs := arrU .u8 k u) (sp := sp_o) (vs := [.int .u8 (((rdF (b (k)) o p : Nat) : Int))]) (i := 1) st tS_22 tZ_5 rfl rfl rfl (by rw [(arrU_len _), Nat.mul_one]) hs_o hc_o rfl (Src.ofRdA (tyS_und tS_22) (st.rdA (i := 0) (n := 1) rfl rfl) rfl (by simp [Value.oneCell'])) (by omega) (by omega) ?_
      clear st
      intro b38 c38 sp38 w7 hc38 hs38 st
      rw [arrU_snoc] at st
      replace st : St [] w w7 [(b38, arrU .u8 (k + 1) (upd u k (rdF (b (k)) o p)) ++ sp38, 5), (b37, [.int .u8 (((rdF (b (k)) o p : Nat) : Int))], 5)] := st
      refine Wl.pure (PR.assL rfl) ?_
      refine Wl.nil ?_
      refine bn ?_
      refine tn ?_
      refine Wc.region rfl ?_
      refine Wl.pure (PR.moveI rfl) ?_
      refine Wl.pure (PR.add (a := ((k : Nat) : Int)) (b := 1) rfl rfl (by simp only [fitI]; omega)) ?_
      refine Wl.pure (PR.assI rfl) ?_
      refine Wl.nil ?_
      refine tn ?_
      replace st : St [] w w7 [(b38, arrU .u8 (k + 1) (upd u k (rdF (b (k)) o p)) ++ sp38, 5)] := st.pick [0] (by decide) rfl
      exact ⟨(k + 1, (upd u k (rdF (b (k)) o p)), b38, c38, sp38), (.cons rfl (.cons rfl (.cons rfl (.cons rfl (.cons rfl (.cons rfl (.nil _))))))), ⟨st, (by first | omega | (dsimp only; omega)), (upd_snoc hu (by first | rw [show q = true by assumption]; rfl | rw [show q = false by assumption]; rfl)), hc38, hs38⟩, (by first | omega | (dsimp only; omega))⟩
    · refine Wc.skip ?_
      refine tn ?_
      refine Wc.region rfl ?_
      refine Wl.pure (PR.moveL rfl) ?_
      refine Wl.pure (PR.moveI rfl) ?_
      refine Wl.pure (PR.moveL rfl) ?_
      refine Wl.callV (c_spec_l01Reordered (v := a (k)) (A := A) (n := p) (cp := cp) (o := o) (ha (k)) (hO.st st) (by first | assumption | omega) (by first | assumption | omega)) rfl ?_
      intro w8 hbel
      replace st := st.call hbel
      clear hbel
      refine Wl.buildSlice (ps := [(0, .int .u8 (((rdF (a (k)) o p : Nat) : Int)))]) (cs := [.int .u8 (((rdF (a (k)) o p : Nat) : Int))]) st tS_22 tZ_5 rfl rfl rfl ?_
      clear st
      intro b37 w9 st
      refine Wl.append (n := k) (c := c_o) (m := 1) (cs := arrU .u8 k u) (sp := sp_o) (vs := [.int .u8 (((rdF (a (k)) o p : Nat) : Int))]) (i := 1) st tS_22 tZ_5 rfl rfl rfl (by rw [(arrU_len _), Nat.mul_one]) hs_o hc_o rfl (Src.ofRdA (tyS_und tS_22) (st.rdA (i := 0) (n := 1) rfl rfl) rfl (by simp [Value.oneCell'])) (by omega) (by omega) ?_
      clear st
      intro b38 c38 sp38 w10 hc38 hs38 st
      rw [arrU_snoc] at st
      replace st : St [] w w10 [(b38, arrU .u8 (k + 1) (upd u k (rdF (a (k)) o p)) ++ sp38, 5), (b37, [.int .u8 (((rdF (a (k)) o p : Nat) : Int))], 5)] := st
      refine Wl.pure (PR.assL rfl) ?_
      refine Wl.nil ?_
      refine bn ?_
      refine tn ?_
      refine Wc.region rfl ?_
      refine Wl.pure (PR.moveI rfl) ?_
      refine Wl.pure (PR.add (a := ((k : Nat) : Int)) (b := 1) rfl rfl (by simp only [fitI]; omega)) ?_
      refine Wl.pure (PR.assI rfl) ?_
      refine Wl.nil ?_
      refine tn ?_
      replace st : St [] w w10 [(b38, arrU .u8 (k + 1) (upd u k (rdF (a (k)) o p)) ++ sp38, 5)] := st.pick [0] (by decide) rfl
      exact ⟨(k + 1, (upd u k (rdF (a (k)) o p)), b38, c38, sp38), (.cons rfl (.cons rfl (.cons rfl (.cons rfl (.cons rfl (.cons rfl (.nil _))))))), ⟨st, (by first | omega | (dsimp only; omega)), (upd_snoc hu (by first | rw [show q = true by assumption]; rfl | rw [show q = false by assumption]; rfl)), hc38, hs38⟩, (by first | omega | (dsimp only; omega))⟩
  · refine Wc.exit ?_
    refine tx ?_
    refine tx ?_
    refine bh ?_
    refine tn ?_
    refine Wc.seq ?_
    refine Wc.region rfl ?_
    refine Wl.pure (PR.moveL rfl) ?_
    refine Wl.pure (PR.assL rfl) ?_
    refine Wl.nil ?_
    refine tn ?_
    refine Wc.ret ?_
    refine postL.tmp rfl rfl ?_
    obtain rfl : s = k := by omega
    rw [arrU_congr (d := (fun i_ => rdF (bif q then b i_ else a i_) o p)) (fun j hj => hu j hj)] at st
    exact ⟨b_o, c_o, sp_o, hc_o, hs_o, rfl, st⟩

set_option maxHeartbeats 400000 in
set_option maxRecDepth 4000 in
theorem c_spec_l03Share {bk : Nat} {ok_ : Nat} {s : Nat} {p : Nat} {a : Nat → Nat} {b : Nat → Nat} {x : Nat} {sd : Nat} {w : World} (hR : RdA w bk ok_ (schV ((s : Nat) : Int) ((p : Nat) : Int) a b)) (hp8 : 1 ≤ p ∧ p ≤ 8) (ha : ∀ k, a k < 256) (hb : ∀ k, b k < 256) (hs6 : 1 ≤ s ∧ s ≤ 6) (hx : x < 18446744073709551616) (hsd : sd < 4294967296) :
    CE Tryz.prog 29 [.pointer (some ⟨bk, ok_, none⟩), .int .u64 (((x : Nat) : Int)), .int .u32 (((sd : Nat) : Int))] w (RetXG w [] 50 65 (s) (layS s (fun _ => ((p : Nat) : Int)) (dwC (shF a b x) p sd)) (fun b_ c_ => .tuple #[.slice (some ⟨b_, 0, none⟩) (s) (c_), .int .u32 (((sdK p sd 64 : Nat) : Int))]) []) := by
  refine CE.enter 73 [(0, .pointer (some ⟨bk, ok_, none⟩)), (1, .int .u64 (((x : Nat) : Int))), (2, .int .u32 (((sd : Nat) : Int)))] en_29 Tryz.func29 rfl rfl (Nat.le_of_ble_eq_true rfl) rfl ?_
  have st := St.start w
  refine Wc.seq ?_
  refine Wc.region rfl ?_
  refine Wl.pure (PR.assL rfl) ?_
  refine Wl.pure (PR.assI rfl) ?_
  refine Wl.nil ?_
  refine tn ?_
  refine Wc.seq ?_
  refine Wc.region rfl ?_
  refine Wl.pure (PR.moveP rfl) ?_
  refine Wl.pure (PR.nil_ rfl) ?_
  refine Wl.pure (PR.fieldAddr tF_27_0 rfl) ?_
  refine Wl.loadC tA_24 rfl ((hR.st st).at_ (j := 0) (rfl) rfl) ?_
  refine Wl.makeSlice (n := s) st tS_32 tZ_50 rfl rfl rfl (by omega) (by omega) ?_
  clear st
  intro b19 w1 st
  replace st : St [] w w1 [(b19, layS s (fun _ => 0) (fun _ _ => 0), 50)] := st
  refine Wl.pure (PR.assL rfl) ?_
  refine Wl.nil ?_
  refine tn ?_
  refine Wc.seq ?_
  refine Wc.seq ?_
  refine Wc.region rfl ?_
  refine Wl.pure (PR.assI rfl) ?_
  refine Wl.nil ?_
  refine tn ?_
  refine Wc.block ?_
  refine Wc.loopF (γ := Nat × (Nat → Int)) (fun g => [(0, .pointer (some ⟨bk, ok_, none⟩)), (1, .int .u64 (((x : Nat) : Int))), (2, .int .u32 (((sd : Nat) : Int))), (6, .slice (none) (0) (0)), (7, .int .u32 (0)), (8, .slice (some ⟨b19, 0, none⟩) (s) (s)), (9, .int .i64 (((g.1 : Nat) : Int)))]) (fun g w_ => St [] w w_ [(b19, layS s g.2 (fun _ _ => 0), 50)] ∧ (g.1 ≤ s) ∧ (∀ j, j < g.1 → g.2 j = ((p : Nat) : Int))) (fun g => s - g.1) ?_ ?_
  · exact ⟨(0, (fun _ => 0)), (.cons rfl (.cons rfl (.cons rfl (.cons rfl (.cons rfl (.cons rfl (.cons rfl (.nil _)))))))), st, (by first | omega | (dsimp only; omega)), (fun j hj => by omega)⟩
  clear st
  rintro ⟨i, P⟩ w2 ⟨st, hi, hP⟩
  try dsimp only at st hi hP ⊢
  refine Wc.seq ?_
  refine Wc.seq ?_
  refine Wc.region rfl ?_
  refine Wl.pure (PR.moveI rfl) ?_
  refine Wl.pure (PR.moveL rfl) ?_
  refine Wl.pure (PR.lenL tS_32 rfl) ?_
  refine Wl.pure (PR.lss (a := ((i : Nat) : Int)) (b := ((s : Nat) : Int)) rfl rfl) ?_
  refine Wl.nil ?_
  refine tn ?_
  refine Wc.condD (p := ((i : Nat) : Int) < ((s : Nat) : Int)) rfl (fun h3 => ?_) (fun h3 => ?_)
  · refine Wc.skip ?_
    refine tn ?_
    refine Wc.seq ?_
    refine Wc.block ?_
    refine Wc.region rfl ?_
    refine Wl.pure (PR.moveL rfl) ?_
    refine Wl.pure (PR.moveI rfl) ?_
    refine Wl.pure (PR.moveP rfl) ?_
    refine Wl.pure (PR.nil_ rfl) ?_
    refine Wl.pure (PR.fieldAddr tF_27_1 rfl) ?_
    refine Wl.loadC tA_24 rfl ((hR.st st).at_ (j := 1) (rfl) rfl) ?_
    refine Wl.pure (PR.idxAddrS (i := i) tS_32 rfl rfl (by omega)) ?_
    refine Wl.pure (PR.fieldAddr tF_50_0 rfl) ?_
    refine Wl.store (i := 0) (cs' := layS s (upd P i ((p : Nat) : Int)) (fun _ _ => 0)) st tA_24 rfl rfl rfl rfl (layS_in (i := i) (j := 0) (by omega) (by omega) (by omega)) (layS_set_p (by omega)) ?_
    clear st
    intro w4 st
    replace st : St [] w w4 [(b19, layS s (upd P i ((p : Nat) : Int)) (fun _ _ => 0), 50)] := st
    refine Wl.nil ?_
    refine bn ?_
    refine tn ?_
    refine Wc.region rfl ?_
    refine Wl.pure (PR.moveI rfl) ?_
    refine Wl.pure (PR.add (a := ((i : Nat) : Int)) (b := 1) rfl rfl (by simp only [fitI]; omega)) ?_
    refine Wl.pure (PR.assI rfl) ?_
    refine Wl.nil ?_
    refine tn ?_
    exact ⟨(i + 1, (upd P i ((p : Nat) : Int))), (.cons rfl (.cons rfl (.cons rfl (.cons rfl (.cons rfl (.cons rfl (.cons rfl (.nil _)))))))), ⟨st, (by first | omega | (dsimp only; omega)), (upd_snoc hP rfl)⟩, (by first | omega | (dsimp only; omega))⟩
  · refine Wc.exit ?_
    refine tx ?_
    refine tx ?_
    refine bh ?_
    refine tn ?_
    refine Wc.seq ?_
    refine Wc.seq ?_
    refine Wc.region rfl ?_
    refine Wl.pure (PR.assI rfl) ?_
    refine Wl.nil ?_
    refine tn ?_
    refine Wc.block ?_
    refine Wc.loopF (γ := Nat × Nat × (Nat → Nat → Nat)) (fun g => [(0, .pointer (some ⟨bk, ok_, none⟩)), (1, .int .u64 (((x : Nat) : Int))), (2, .int .u32 (((g.2.1 : Nat) : Int))), (6, .slice (none) (0) (0)), (7, .int .u32 (0)), (8, .slice (some ⟨b19, 0, none⟩) (s) (s)), (10, .int .i64 (((g.1 : Nat) : Int)))]) (fun g w_ => St [] w w_ [(b19, layS s P g.2.2, 50)] ∧ (g.1 ≤ 64) ∧ (g.2.1 = sdK p sd g.1) ∧ (g.2.1 < 4294967296) ∧ (∀ u v, g.2.2 u v < 256) ∧ (∀ u, u < s → ∀ v, v < g.1 → g.2.2 u v = dwC (shF a b x) p sd u v)) (fun g => 64 - g.1) ?_ ?_
    · exact ⟨(0, sd, (fun _ _ => 0)), (.cons rfl (.cons rfl (.cons rfl (.cons rfl (.cons rfl (.cons rfl (.cons rfl (.nil _)))))))), st, (by first | omega | (dsimp only; omega)), rfl, hsd, (fun _ _ => show (0 : Nat) < 256 by decide), (fun u hu v hv => by omega)⟩
    clear st
    rintro ⟨k, z, C⟩ w5 ⟨st, hk, hz, hzb, hC, hg⟩
    try dsimp only at st hk hz hzb hC hg ⊢
    refine Wc.seq ?_
    refine Wc.seq ?_
    refine Wc.region rfl ?_
    refine Wl.pure (PR.moveI rfl) ?_
    refine Wl.pure (PR.lss (a := ((k : Nat) : Int)) (b := 64) rfl rfl) ?_
    refine Wl.nil ?_
    refine tn ?_
    refine Wc.condD (p := ((k : Nat) : Int) < 64) rfl (fun h6 => ?_) (fun h6 => ?_)
    · refine Wc.skip ?_
      refine tn ?_
      refine Wc.seq ?_
      refine Wc.block ?_
      refine Wc.seq ?_
      refine Wc.region rfl ?_
      refine Wl.pure (PR.moveI rfl) ?_
      refine Wl.pure (PR.moveP rfl) ?_
      refine Wl.pure (PR.nil_ rfl) ?_
      refine Wl.pure (PR.fieldAddr tF_27_1 rfl) ?_
      refine Wl.loadC tA_24 rfl ((hR.st st).at_ (j := 1) (rfl) rfl) ?_
      refine Wl.pure (PR.conv (n := ((p : Nat) : Int)) tI_2 rfl (by simp only [fitI]; omega) Tryz.underlying24) ?_
      refine Wl.callXG [] st (c_spec_l03Order (x := z) (n := p) hzb hp8) rfl rfl ?_
      clear st
      intro b45 c45 sp45 w7 hc45 hs45 st
      replace st : St [] w w7 [(b45, arrU .i8 p (oOf p z) ++ sp45, 24), (b19, layS s P C, 50)] := st
      refine Wl.pure (PR.moveV (.tuple #[.slice (some ⟨b45, 0, none⟩) (p) (c45), .int .u32 (((xOf p z : Nat) : Int))]) rfl) ?_
      refine Wl.pure (PR.extr (i := 0) (vs := [.slice (some ⟨b45, 0, none⟩) (p) (c45), .int .u32 (((xOf p z : Nat) : Int))]) rfl rfl) ?_
      refine Wl.pure (PR.extr (i := 1) (vs := [.slice (some ⟨b45, 0, none⟩) (p) (c45), .int .u32 (((xOf p z : Nat) : Int))]) rfl rfl) ?_
      refine Wl.pure (PR.assL rfl) ?_
      refine Wl.pure (PR.assI rfl) ?_
      refine Wl.nil ?_
      refine tn ?_
      refine Wc.seq ?_
      refine Wc.region rfl ?_
      refine Wl.pure (PR.moveI rfl) ?_
      refine Wl.pure (PR.assI rfl) ?_
      refine Wl.nil ?_
      refine tn ?_
      refine Wc.seq ?_
      refine Wc.region rfl ?_
      refine Wl.pure (PR.moveP rfl) ?_
      refine Wl.pure (PR.moveI rfl) ?_
      refine Wl.pure (PR.moveI rfl) ?_
      refine Wl.callV (c_bit_pec (x := x) (k := k) hx (by first | assumption | omega)) rfl ?_
      intro w8 hbel
      replace st := st.call hbel
      clear hbel
      refine Wl.pure (PR.moveL rfl) ?_
      refine Wl.callXG [] st (c_spec_l03Cell (bk := bk) (ok_ := ok_) (s := s) (p := p) (a := a) (b := b) (q := (bitB x k)) (A := some ⟨b45, 0, none⟩) (cp := c45) (o := (oOf p z)) (hR.st st) (by first | assumption | omega) ha hb (by first | assumption | omega) ((st.rdA (i := 0) (n := p) rfl (app_all (arrU_len _))).sl) (fun j hj => Nat.lt_of_lt_of_le (oOf_lt j hj) (by omega))) rfl rfl ?_
      clear st
      intro b54 c54 sp54 w9 hc54 hs54 st
      replace st : St [] w w9 [(b54, arrU .u8 s (fun i_ => rdF (bif (bitB x k) then b i_ else a i_) (oOf p z) p) ++ sp54, 5), (b45, arrU .i8 p (oOf p z) ++ sp45, 24), (b19, layS s P C, 50)] := st
      refine Wl.pure (PR.assL rfl) ?_
      refine Wl.nil ?_
      refine tn ?_
      refine Wc.seq ?_
      refine Wc.region rfl ?_
      refine Wl.pure (PR.assI rfl) ?_
      refine Wl.nil ?_
      refine tn ?_
      refine Wc.block ?_
      refine Wc.loopF (γ := Nat × (Nat → Nat → Nat)) (fun g => [(0, .pointer (some ⟨bk, ok_, none⟩)), (1, .int .u64 (((x : Nat) : Int))), (2, .int .u32 (((xOf p z : Nat) : Int))), (6, .slice (none) (0) (0)), (7, .int .u32 (0)), (8, .slice (some ⟨b19, 0, none⟩) (s) (s)), (10, .int .i64 (((k : Nat) : Int))), (11, .slice (some ⟨b45, 0, none⟩) (p) (c45)), (12, .int .u32 (((xOf p z : Nat) : Int))), (13, .slice (some ⟨b54, 0, none⟩) (s) (c54)), (14, .int .i64 (((g.1 : Nat) : Int))), (34, .int .i64 (((k : Nat) : Int))), (35, .bool (decide (((k : Nat) : Int) < 64))), (38, .tuple #[.slice (some ⟨b45, 0, none⟩) (p) (c45), .int .u32 (((xOf p z : Nat) : Int))]), (39, .int .u32 (((z : Nat) : Int))), (40, .pointer (some ⟨bk, ok_, none⟩)), (41, .pointer (some ⟨bk, ok_, none⟩)), (42, .pointer (some ⟨bk, ok_ + 1, none⟩)), (43, .int .i8 (((p : Nat) : Int))), (44, .int .i64 (((p : Nat) : Int))), (45, .tuple #[.slice (some ⟨b45, 0, none⟩) (p) (c45), .int .u32 (((xOf p z : Nat) : Int))]), (46, .slice (some ⟨b45, 0, none⟩) (p) (c45)), (47, .int .u32 (((xOf p z : Nat) : Int))), (48, .int .u32 (((xOf p z : Nat) : Int))), (49, .pointer (some ⟨bk, ok_, none⟩)), (50, .int .u64 (((x : Nat) : Int))), (51, .int .i64 (((k : Nat) : Int))), (52, .bool (bitB x k)), (53, .slice (some ⟨b45, 0, none⟩) (p) (c45)), (54, .slice (some ⟨b54, 0, none⟩) (s) (c54))]) (fun g w_ => St [] w w_ [(b54, arrU .u8 s (fun i_ => rdF (bif (bitB x k) then b i_ else a i_) (oOf p z) p) ++ sp54, 5), (b45, arrU .i8 p (oOf p z) ++ sp45, 24), (b19, layS s P g.2, 50)] ∧ (g.1 ≤ s) ∧ (∀ u v, g.2 u v < 256) ∧ (∀ u, u < s → ∀ v, v < k → g.2 u v = dwC (shF a b x) p sd u v) ∧ (∀ u, u < g.1 → g.2 u k = dwC (shF a b x) p sd u k)) (fun g => s - g.1) ?_ ?_
      · exact ⟨(0, C), (.cons rfl (.cons rfl (.cons rfl (.cons rfl (.cons rfl (.cons rfl (.cons rfl (.cons rfl (.cons rfl (.cons rfl (.cons rfl (.cons rfl (.cons rfl (.cons rfl (.cons rfl (.cons rfl (.cons rfl (.cons rfl (.cons rfl (.cons rfl (.cons rfl (.cons rfl (.cons rfl (.cons rfl (.cons rfl (.cons rfl (.cons rfl (.cons rfl (.cons rfl (.cons rfl (.nil _))))))))))))))))))))))))))))))), st, (by first | omega | (dsimp only; omega)), hC, hg, (fun u hu => by omega)⟩
      clear st
      rintro ⟨r0, C⟩ w10 ⟨st, hr0, hC, hg, hr⟩
      try dsimp only at st hr0 hC hg hr ⊢
      refine Wc.seq ?_
      refine Wc.seq ?_
      refine Wc.region rfl ?_
      refine Wl.pure (PR.moveI rfl) ?_
      refine Wl.pure (PR.moveL rfl) ?_
      refine Wl.pure (PR.lenL tS_32 rfl) ?_
      refine Wl.pure (PR.lss (a := ((r0 : Nat) : Int)) (b := ((s : Nat) : Int)) rfl rfl) ?_
      refine Wl.nil ?_
      refine tn ?_
      refine Wc.condD (p := ((r0 : Nat) : Int) < ((s : Nat) : Int)) rfl (fun h11 => ?_) (fun h11 => ?_)
      · refine Wc.skip ?_
        refine tn ?_
        refine Wc.seq ?_
        refine Wc.block ?_
        refine Wc.quietTail 10 hmix (by kernel_rfl) rfl ?_
        refine Wq.pure (PR.moveL rfl) ?_
        refine Wq.pure (PR.moveI rfl) ?_
        refine Wq.pure (PR.moveI rfl) ?_
        refine Wq.pure (PR.moveL rfl) ?_
        refine Wq.pure (PR.moveI rfl) ?_
        refine Wq.pure (PR.idxAddrS1 (i := r0) tS_22 rfl rfl (by omega)) ?_
        refine Wq.load (i := 0) st tA_5 rfl rfl (app_get (arrU_get0 (by omega))) ?_
        refine Wq.pure (PR.idxAddrS (i := r0) tS_32 rfl rfl (by omega)) ?_
        refine Wq.pure (PR.fieldAddr tF_50_1 rfl) ?_
        refine Wq.pure (PR.idxAddrA1 (i := k) tE_48 rfl rfl (by omega)) ?_
        refine Wq.nil (fun w12 hbel => ?_)
        replace st := st.call hbel
        clear hbel
        refine Wl.store (i := 2) (cs' := layS s P (upd C r0 (upd (C r0) k (rdF (bif (bitB x k) then b r0 else a r0) (oOf p z) p)))) st tA_5 rfl rfl rfl rfl (layS_in (i := r0) (j := 1 + k) (by omega) (by omega) (by omega)) (layS_set_c (by omega) (by omega)) ?_
        clear st
        intro w13 st
        replace st : St [] w w13 [(b54, arrU .u8 s (fun i_ => rdF (bif (bitB x k) then b i_ else a i_) (oOf p z) p) ++ sp54, 5), (b45, arrU .i8 p (oOf p z) ++ sp45, 24), (b19, layS s P (upd C r0 (upd (C r0) k (rdF (bif (bitB x k) then b r0 else a r0) (oOf p z) p))), 50)] := st
        refine Wl.nil ?_
        refine bn ?_
        refine tn ?_
        refine Wc.region rfl ?_
        refine Wl.pure (PR.moveI rfl) ?_
        refine Wl.pure (PR.add (a := ((r0 : Nat) : Int)) (b := 1) rfl rfl (by simp only [fitI]; omega)) ?_
        refine Wl.pure (PR.assI rfl) ?_
        refine Wl.nil ?_
        refine tn ?_
        exact ⟨(r0 + 1, (upd C r0 (upd (C r0) k (rdF (bif (bitB x k) then b r0 else a r0) (oOf p z) p)))), (.cons rfl (.cons rfl (.cons rfl (.cons rfl (.cons rfl (.cons rfl (.cons rfl (.cons rfl (.cons rfl (.cons rfl (.cons rfl (.cons rfl (.cons rfl (.cons rfl (.cons rfl (.cons rfl (.cons rfl (.cons rfl (.cons rfl (.cons rfl (.cons rfl (.cons rfl (.cons rfl (.cons rfl (.cons rfl (.cons rfl (.cons rfl (.cons rfl (.cons rfl (.cons rfl (.nil _))))))))))))))))))))))))))))))), ⟨st, (by first | omega | (dsimp only; omega)), (upd2_lt hC (rdF_lt _ _ _)), (dw_cell hg), (dw_row hr (by rw [hz]; rfl))⟩, (by first | omega | (dsimp only; omega))⟩
      · refine Wc.exit ?_
        refine tx ?_
        refine tx ?_
        refine bh ?_
        refine bn ?_
        refine tn ?_
        refine Wc.region rfl ?_
        refine Wl.pure (PR.moveI rfl) ?_
        refine Wl.pure (PR.add (a := ((k : Nat) : Int)) (b := 1) rfl rfl (by simp only [fitI]; omega)) ?_
        refine Wl.pure (PR.assI rfl) ?_
        refine Wl.nil ?_
        refine tn ?_
        replace st := st.tail
        replace st := st.tail
        exact ⟨(k + 1, xOf p z, C), (.cons rfl (.cons rfl (.cons rfl (.cons rfl (.cons rfl (.cons rfl (.cons rfl (.nil _)))))))), ⟨st, (by first | omega | (dsimp only; omega)), (by rw [hz]; rfl), (xOf_lt hzb), hC, (dw_next hg hr (by omega))⟩, (by first | omega | (dsimp only; omega))⟩
    · refine Wc.exit ?_
      refine tx ?_
      refine tx ?_
      refine bh ?_
      refine tn ?_
      refine Wc.seq ?_
      refine Wc.region rfl ?_
      refine Wl.pure (PR.moveL rfl) ?_
      refine Wl.pure (PR.moveI rfl) ?_
      refine Wl.pure (PR.assL rfl) ?_
      refine Wl.pure (PR.assI rfl) ?_
      refine Wl.nil ?_
      refine tn ?_
      refine Wc.ret ?_
      refine postL.tmp2 rfl rfl rfl ?_
      obtain rfl : k = 64 := by omega
      rw [show layS s P C = layS s (fun _ => ((p : Nat) : Int)) (dwC (shF a b x) p sd) from layS_congr (fun i hi => hP i (by omega)) (fun u hu v hv => hg u hu v hv)] at st
      replace st := st.nilapp
      exact ⟨b19, s, ([]), (Nat.le_refl _), (by simp), (by rw [hz]), st⟩

set_option maxHeartbeats 400000 in
set_option maxRecDepth 4000 in
theorem c_spec_SharePicture {s : Nat} {p : Nat} {a : Nat → Nat} {b : Nat → Nat} {x : Nat} {sd : Nat} {w : World} (hok : schOk ((s : Nat) : Int) ((p : Nat) : Int) a b = true) (hp8 : 1 ≤ p ∧ p ≤ 8) (ha : ∀ k, a k < 256) (hb : ∀ k, b k < 256) (hs6 : 1 ≤ s ∧ s ≤ 6) (hx : x < 18446744073709551616) (hsd : sd < 4294967296) :
    CE Tryz.prog 7 [.agg (schV ((s : Nat) : Int) ((p : Nat) : Int) (a) (b)).toArray, .int .u64 (((x : Nat) : Int)), .int .u32 (((sd : Nat) : Int))] w (RetXG w [] 50 65 (s) (layS s (fun _ => ((p : Nat) : Int)) (dwC (shF a b x) p sd)) (fun b_ c_ => .tuple #[.slice (some ⟨b_, 0, none⟩) (s) (c_), .int .u32 (((sdK p sd 64 : Nat) : Int)), .int .i64 (0)]) []) := by
  refine CE.enter 23 [(0, .agg (schV ((s : Nat) : Int) ((p : Nat) : Int) (a) (b)).toArray), (1, .int .u64 (((x : Nat) : Int))), (2, .int .u32 (((sd : Nat) : Int)))] en_7 Tryz.func7 rfl rfl (Nat.le_of_ble_eq_true rfl) rfl ?_
  have st := St.start w
  refine Wc.seq ?_
  refine Wc.region rfl ?_
  refine Wl.boxA st rfl ?_
  clear st
  intro b3 w1 st
  refine Wl.pure (PR.assL rfl) ?_
  refine Wl.pure (PR.assI rfl) ?_
  refine Wl.pure (PR.assI rfl) ?_
  refine Wl.nil ?_
  refine tn ?_
  refine Wc.seq ?_
  refine Wc.seq ?_
  refine Wc.region rfl ?_
  refine Wl.loadA (i := 0) st tA_27 rfl rfl (all_sub schV_len) schV_len ?_
  refine Wl.callV (c_spec_ValidScheme (s := ((s : Nat) : Int)) (p := ((p : Nat) : Int)) (a := a) (b := b) (by first | assumption | omega) (by first | assumption | omega) ha hb) rfl ?_
  intro w2 hbel
  replace st := st.call hbel
  clear hbel
  refine Wl.pure (PR.not_ rfl) ?_
  refine Wl.nil ?_
  refine tn ?_
  refine Wc.condNB (b := schOk ((s : Nat) : Int) ((p : Nat) : Int) a b) rfl (fun h3 => ?_) (fun h3 => ?_)
  · refine Wc.seq ?_
    exfalso
    rw [hok] at *; contradiction
  · refine Wc.skip ?_
    refine tn ?_
    refine Wc.seq ?_
    refine Wc.region rfl ?_
    refine Wl.pure (PR.moveI rfl) ?_
    refine Wl.pure (PR.moveI rfl) ?_
    refine Wl.callXG [] st (c_spec_l03Share (bk := b3) (ok_ := 0) (s := s) (p := p) (a := a) (b := b) (x := x) (sd := sd) (st.rdA (i := 0) rfl (all_sub schV_len)) (by first | assumption | omega) ha hb (by first | assumption | omega) hx hsd) rfl rfl ?_
    clear st
    intro b18 c18 sp18 w4 hc18 hs18 st
    replace st : St [] w w4 [(b18, layS s (fun _ => ((p : Nat) : Int)) (dwC (shF a b x) p sd) ++ sp18, 50), (b3, schV ((s : Nat) : Int) ((p : Nat) : Int) (a) (b), 27)] := st
    refine Wl.pure (PR.moveV (.tuple #[.slice (some ⟨b18, 0, none⟩) (s) (c18), .int .u32 (((sdK p sd 64 : Nat) : Int))]) rfl) ?_
    refine Wl.pure (PR.extr (i := 0) (vs := [.slice (some ⟨b18, 0, none⟩) (s) (c18), .int .u32 (((sdK p sd 64 : Nat) : Int))]) rfl rfl) ?_
    refine Wl.pure (PR.extr (i := 1) (vs := [.slice (some ⟨b18, 0, none⟩) (s) (c18), .int .u32 (((sdK p sd 64 : Nat) : Int))]) rfl rfl) ?_
    refine Wl.pure (PR.assL rfl) ?_
    refine Wl.pure (PR.assI rfl) ?_
    refine Wl.nil ?_
    refine tn ?_
    refine Wc.seq ?_
    refine Wc.region rfl ?_
    refine Wl.pure (PR.moveL rfl) ?_
    refine Wl.pure (PR.moveI rfl) ?_
    refine Wl.pure (PR.assL rfl) ?_
    refine Wl.pure (PR.assI rfl) ?_
    refine Wl.pure (PR.assI rfl) ?_
    refine Wl.nil ?_
    refine tn ?_
    refine Wc.ret ?_
    refine postL.many (rvs := [.tmp 6, .tmp 7, .tmp 8]) rfl (.tmp (v := .slice (some ⟨b18, 0, none⟩) (s) (c18)) rfl (.tmp (v := .int .u32 (((sdK p sd 64 : Nat) : Int))) rfl (.tmp (v := .int .i64 (0)) rfl .nil))) ?_
    replace st : St [] w w4 [(b18, layS s (fun _ => ((p : Nat) : Int)) (dwC (shF a b x) p sd) ++ sp18, 50)] := st.pick [0] (by decide) rfl
    exact ⟨b18, c18, sp18, hc18, hs18, rfl, st⟩

end Go.Proofs.YtabekcodjcbolaaGreat
