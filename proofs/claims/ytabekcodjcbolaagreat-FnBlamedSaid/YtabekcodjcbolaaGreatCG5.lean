/-
  Contracts of functions, printed by a program of ours.
-/
import Derived.Test.YtabekcodjcbolaaGreatCG4
namespace Go.Proofs.YtabekcodjcbolaaGreat
open Go.RowKit
set_option linter.unusedVariables false
set_option linter.unusedSimpArgs false

set_option maxHeartbeats 400000 in
set_option maxRecDepth 4000 in
theorem c_spec_l01Count {x : Nat} {w : World} (hx : x < 18446744073709551616) :
    CE Tryz.prog 73 [.int .u64 (((x : Nat) : Int))] w (RetV w (.int .i64 (((pc x : Nat) : Int)))) := by
  refine CE.enter 14 [(0, .int .u64 (((x : Nat) : Int)))] en_73 Tryz.func73 rfl rfl (Nat.le_of_ble_eq_true rfl) rfl ?_
  have st := St.start w
  refine Wc.seq ?_
  refine Wc.region rfl ?_
  refine Wl.pure (PR.assI rfl) ?_
  refine Wl.nil ?_
  refine tn ?_
  refine Wc.seq ?_
  refine Wc.region rfl ?_
  refine Wl.pure (PR.assI rfl) ?_
  refine Wl.nil ?_
  refine tn ?_
  refine Wc.seq ?_
  refine Wc.block ?_
  refine Wc.loopF (γ := Nat × Nat) (fun g => [(0, .int .u64 (((g.1 : Nat) : Int))), (2, .int .i64 (0)), (3, .int .i64 (((g.2 : Nat) : Int)))]) (fun g w_ => St [] w w_ [] ∧ (g.1 < 18446744073709551616) ∧ (pc x = g.2 + pc g.1)) (fun g => g.1) ?_ ?_
  · exact ⟨(x, 0), (.cons rfl (.cons rfl (.cons rfl (.nil _)))), st, hx, (Nat.zero_add _).symm⟩
  clear st
  rintro ⟨y, c⟩ w1 ⟨st, hy, hc⟩
  try dsimp only at st hy hc ⊢
  refine Wc.seq ?_
  refine Wc.seq ?_
  refine Wc.region rfl ?_
  refine Wl.pure (PR.moveI rfl) ?_
  refine Wl.pure (PR.neq (a := ((y : Nat) : Int)) (b := 0) rfl rfl) ?_
  refine Wl.nil ?_
  refine tn ?_
  refine Wc.condN (p := ((y : Nat) : Int) = 0) rfl (fun h2 => ?_) (fun h2 => ?_)
  · refine Wc.skip ?_
    refine tn ?_
    refine Wc.seq ?_
    refine Wc.block ?_
    refine Wc.region rfl ?_
    refine Wl.pure (PR.moveI rfl) ?_
    refine Wl.pure (PR.moveI rfl) ?_
    refine Wl.pure (PR.and (a := y) (b := 1) rfl rfl (by decide) hy (by decide)) ?_
    refine Wl.pure (PR.conv (n := (((y &&& 1) : Nat) : Int)) tI_2 rfl (by have : y &&& 1 ≤ 1 := Nat.and_le_right; simp only [fitI]; omega) Tryz.underlying29) ?_
    refine Wl.pure (PR.add (a := ((c : Nat) : Int)) (b := (((y &&& 1) : Nat) : Int)) rfl rfl (by have := pc_le x; have : y &&& 1 ≤ 1 := Nat.and_le_right; simp only [fitI]; omega)) ?_
    refine Wl.pure (PR.assI rfl) ?_
    refine Wl.nil ?_
    refine bn ?_
    refine tn ?_
    refine Wc.region rfl ?_
    refine Wl.pure (PR.moveI rfl) ?_
    refine Wl.pure (PR.shr (a := y) (n := 1) rfl rfl (by decide) hy) ?_
    refine Wl.pure (PR.assI rfl) ?_
    refine Wl.nil ?_
    refine tn ?_
    exact ⟨((y >>> 1), (c + (y &&& 1))), (.cons rfl (.cons rfl (.cons rfl (.nil _)))), ⟨st, (shr_lt hy), (pc_next hy hc)⟩, (by have := shr1 y; dsimp only; omega)⟩
  · refine Wc.exit ?_
    refine tx ?_
    refine tx ?_
    refine bh ?_
    refine tn ?_
    refine Wc.seq ?_
    refine Wc.region rfl ?_
    refine Wl.pure (PR.moveI rfl) ?_
    refine Wl.pure (PR.assI rfl) ?_
    refine Wl.nil ?_
    refine tn ?_
    refine Wc.ret ?_
    refine postL.tmp rfl rfl ?_
    refine RetV.of ?_ st.below
    refine congrArg (fun x : Nat => Value.int .i64 (x : Int)) ?_
    obtain rfl : y = 0 := by omega
    rw [hc]; unfold pc; rfl

set_option maxHeartbeats 400000 in
set_option maxRecDepth 4000 in
theorem c_impl_Scheme_repaired {s : Nat} {p : Nat} {a : Nat → Nat} {b : Nat → Nat} {A : Option Addr} {n : Nat} {cp : Nat} {y : Nat → Int} {c : Nat → Nat → Nat} {i : Nat} {x : Nat} {z : Nat} {w : World} (hp8 : 1 ≤ p ∧ p ≤ 8) (ha : ∀ k, a k < 256) (hb : ∀ k, b k < 256) (hs6 : 1 ≤ s ∧ s ≤ 6) (hza : ∀ k, s ≤ k → k < 6 → a k = 0) (hzb : ∀ k, s ≤ k → k < 6 → b k = 0) (hRL : RdS w A n (layS n y c)) (hg : ∀ i, i < n → -128 ≤ y i ∧ y i ≤ 127) (hc : ∀ i k, c i k < 256) (hn6 : 1 ≤ n ∧ n ≤ 6) (hx : x < 18446744073709551616) (hz : z < 18446744073709551616) (hns : n = s) (hi0 : i < n) :
    CE Tryz.prog 33 [.agg (schV ((s : Nat) : Int) ((p : Nat) : Int) (a) (b)).toArray, .int .u64 (((x : Nat) : Int)), .int .u64 (((z : Nat) : Int)), .slice (A) (n) (cp), .int .i64 (((i : Nat) : Int))] w (RetV w (.tuple #[.agg (layV (rpZ (repOk s p a b n c i x z) (y i)) ((rpF (repOk s p a b n c i x z) (rpC s p a b n c i x z)))).toArray, .int .i64 (((rpN (repOk s p a b n c i x z) (pc z) : Nat) : Int)), .bool ((repOk s p a b n c i x z))])) := by
  refine CE.enter 51 [(0, .agg (schV ((s : Nat) : Int) ((p : Nat) : Int) (a) (b)).toArray), (1, .int .u64 (((x : Nat) : Int))), (2, .int .u64 (((z : Nat) : Int))), (3, .slice (A) (n) (cp)), (4, .int .i64 (((i : Nat) : Int)))] en_33 Tryz.func33 rfl rfl (Nat.le_of_ble_eq_true rfl) rfl ?_
  have st := St.start w
  refine Wc.seq ?_
  refine Wc.region rfl ?_
  refine Wl.boxA st rfl ?_
  clear st
  intro b5 w1 st
  refine Wl.alloc st tZ_50 rfl ?_
  clear st
  intro b10 w2 st
  refine Wl.pure (PR.assI rfl) ?_
  refine Wl.pure (PR.assB rfl) ?_
  refine Wl.nil ?_
  refine tn ?_
  refine Wc.seq ?_
  refine Wc.region rfl ?_
  refine Wl.pure (PR.moveL rfl) ?_
  refine Wl.pure (PR.moveI rfl) ?_
  obtain ⟨bs3, os4, rfl, hs5⟩ := hRL (by omega)
  have := hg (i) (by omega)
  refine Wl.pure (PR.idxAddrS (i := i) tS_32 rfl rfl (by omega)) ?_
  refine Wl.loadAC (vs := layV (y i) ((c i))) tA_50 rfl layV_len ((hs5.st st).sub (recV_sub (n := n) (i := i) (layS_row _ _) (by omega)) rfl) ?_
  refine Wl.alloc st tZ_50 rfl ?_
  clear st
  intro b13 w6 st
  refine Wl.storeA (i := 0) (cs' := layV (y i) ((c i))) st tA_50 rfl rfl layV_len layV_one rfl (le_of_len layV_len (by omega)) (all_put layV_len) ?_
  clear st
  intro w7 st
  replace st : St [] w w7 [(b13, layV (y i) ((c i)), 50), (b10, layV (0) ((fun _ => 0)), 50), (b5, schV ((s : Nat) : Int) ((p : Nat) : Int) (a) (b), 27)] := st
  refine Wl.pure (PR.assI rfl) ?_
  refine Wl.nil ?_
  refine tn ?_
  refine Wc.seq ?_
  refine Wc.seq ?_
  refine Wc.region rfl ?_
  refine Wl.pure (PR.moveI rfl) ?_
  refine Wl.nil ?_
  refine tn ?_
  refine Wc.block ?_
  refine Wc.loopF (γ := Nat × (Nat → Nat) × Nat) (fun g => [(1, .int .u64 (((x : Nat) : Int))), (2, .int .u64 (((z : Nat) : Int))), (3, .slice (some ⟨bs3, os4, none⟩) (n) (cp)), (4, .int .i64 (((i : Nat) : Int))), (5, .pointer (some ⟨b5, 0, none⟩)), (10, .pointer (some ⟨b10, 0, none⟩)), (13, .pointer (some ⟨b13, 0, none⟩)), (14, .int .i64 (((g.2.2 : Nat) : Int))), (21, .int .i64 (((g.1 : Nat) : Int)))]) (fun g w_ => St [] w w_ [(b13, layV (y i) (g.2.1), 50), (b10, layV (0) ((fun _ => 0)), 50), (b5, schV ((s : Nat) : Int) ((p : Nat) : Int) (a) (b), 27)] ∧ (g.1 ≤ 64) ∧ (∀ j, j < g.1 → g.2.1 j = (rpC s p a b n c i x z) j) ∧ (∀ j, g.1 ≤ j → g.2.1 j = c i j) ∧ (∀ j, j < g.1 → bitB z j = true → 0 < flN (possQ s p a b n c i (bitB x j) j) (1 <<< p)) ∧ (∀ j, g.2.1 j < 256) ∧ (g.2.2 = flN (bitB z) g.1)) (fun g => 64 - g.1) ?_ ?_
  · exact ⟨(0, (c i), 0), (.cons rfl (.cons rfl (.cons rfl (.cons rfl (.cons rfl (.cons rfl (.cons rfl (.cons rfl (.cons rfl (.nil _)))))))))), st, (by first | omega | (dsimp only; omega)), (fun j hj => by omega), (fun _ _ => rfl), (fun j hj => by omega), (fun j => hc i j), rfl⟩
  clear st
  rintro ⟨k, d, m⟩ w8 ⟨st, hk, hlo, hhi, hok, hdb, hm⟩
  try dsimp only at st hk hlo hhi hok hdb hm ⊢
  have hfl8 := flN_le (bitB z) k
  refine Wc.seq ?_
  refine Wc.region rfl ?_
  refine Wl.pure (PR.lss (a := ((k : Nat) : Int)) (b := 64) rfl rfl) ?_
  refine Wl.nil ?_
  refine tn ?_
  refine Wc.seq ?_
  refine Wc.condD (p := ((k : Nat) : Int) < 64) rfl (fun h9 => ?_) (fun h9 => ?_)
  · refine Wc.skip ?_
    refine tn ?_
    refine Wc.seq ?_
    refine Wc.block ?_
    refine Wc.seq ?_
    refine Wc.region rfl ?_
    refine Wl.pure (PR.moveI rfl) ?_
    refine Wl.pure (PR.assI rfl) ?_
    refine Wl.nil ?_
    refine tn ?_
    refine Wc.seq ?_
    refine Wc.seq ?_
    refine Wc.region rfl ?_
    refine Wl.pure (PR.moveI rfl) ?_
    refine Wl.pure (PR.moveI rfl) ?_
    refine Wl.callV (c_bit_impl (x := z) (k := k) hz (by first | assumption | omega)) rfl ?_
    intro w10 hbel
    replace st := st.call hbel
    clear hbel
    refine Wl.pure (PR.not_ rfl) ?_
    refine Wl.nil ?_
    refine tn ?_
    refine Wc.condNB (b := bitB z k) rfl (fun h11 => ?_) (fun h11 => ?_)
    · refine Wc.exit ?_
      refine tx ?_
      refine bh ?_
      refine tn ?_
      refine Wc.region rfl ?_
      refine Wl.pure (PR.add (a := ((k : Nat) : Int)) (b := 1) rfl rfl (by simp only [fitI]; omega)) ?_
      refine Wl.pure (PR.moveI rfl) ?_
      refine Wl.nil ?_
      refine tn ?_
      exact ⟨(k + 1, d, m), (.cons rfl (.cons rfl (.cons rfl (.cons rfl (.cons rfl (.cons rfl (.cons rfl (.cons rfl (.cons rfl (.nil _)))))))))), ⟨st, (by first | omega | (dsimp only; omega)), (by first | exact rp_lo_t hlo (by assumption) | exact rp_lo_f hlo hhi (by assumption)), (by first | exact rp_hi_t hhi | exact fun j hj => hhi j (by omega)), (by first | exact rp_ok_f hok (by assumption) | exact rp_ok_t hok (by omega)), (by first | exact hdb | exact upd_lt hdb (flA_256 (by omega) _)), (by first | exact flN_t hm (by assumption) | exact flN_f hm (by assumption))⟩, (by first | omega | (dsimp only; omega))⟩
    · refine Wc.skip ?_
      refine tn ?_
      refine Wc.seq ?_
      refine Wc.tree1 (w0 := w) (X := []) (Ks := [b5]) (S := fun i => i == 5 || i == 7) (.st 1 0 (.st 2 0 (.st 3 0 (.st 4 0 (.st 6 0 (.st 0 3 (.st 5 2 (.st 7 2 (.st 8 0 PT.nil))))))))) hmix (by kernel_rfl) (by kernel_rfl) rfl rfl ?_
      intro w12 hbel
      replace st := st.call hbel
      clear hbel
      refine WT.pure rfl (PR.moveL rfl) ?_
      refine WT.pure rfl (PR.moveI rfl) ?_
      refine WT.pure rfl (PR.moveI rfl) ?_
      refine WT.pure rfl (PR.moveI rfl) ?_
      refine WT.pure rfl (PR.moveI rfl) ?_
      refine WT.loadA (j := 2) rfl (by simp) st tA_27 rfl rfl (all_sub schV_len) schV_len ?_
      have st0 := st
      refine WT.s rfl rfl ?_
      refine Wl.callV (c_bit_impl (x := x) (k := k) hx (by first | assumption | omega)) rfl ?_
      intro w13 hbel
      replace st := st.call hbel
      clear hbel
      refine Wl.nil ⟨rfl, RK.of st0 st (ksC (i := 2) (j := 2) rfl rfl rfl ksN), ?_⟩
      clear st0
      have st0 := st
      refine WT.s rfl rfl ?_
      refine Wl.callXG [] st (c_impl_Scheme_possible (s := s) (p := p) (a := a) (b := b) (A := some ⟨bs3, os4, none⟩) (n := n) (cp := cp) (y := y) (c := c) (i := i) (q := (bitB x k)) (k := k) (by first | assumption | omega) ha hb (by first | assumption | omega) (by first | assumption | omega) (by first | assumption | omega) ((hs5.st st).sl) hg hc (by first | assumption | omega) (by first | assumption | omega) (by first | assumption | omega) (by first | assumption | omega)) rfl rfl ?_
      clear st
      intro b35 c35 sp35 w14 hc35 hs35 st
      replace st : St [] w w14 [(b35, arrU .u8 (flN (possQ s p a b n c i (bitB x k) k) (1 <<< p)) (flA (possQ s p a b n c i (bitB x k) k) (1 <<< p)) ++ sp35, 5), (b13, layV (y i) (d), 50), (b10, layV (0) ((fun _ => 0)), 50), (b5, schV ((s : Nat) : Int) ((p : Nat) : Int) (a) (b), 27)] := st
      refine Wl.nil ⟨rfl, RK.of st0 st (ksC (i := 2) (j := 3) rfl rfl rfl ksN), ?_⟩
      clear st0
      refine WT.pure rfl (PR.assL rfl) ?_
      refine WT.nil ?_
      refine tn ?_
      refine Wc.seq ?_
      refine Wc.seq ?_
      refine Wc.region rfl ?_
      refine Wl.pure (PR.moveL rfl) ?_
      refine Wl.pure (PR.lenL tS_22 rfl) ?_
      refine Wl.pure (PR.eql (a := (((flN (possQ s p a b n c i (bitB x k) k) (1 <<< p)) : Nat) : Int)) (b := 0) rfl rfl) ?_
      refine Wl.nil ?_
      refine tn ?_
      refine Wc.condD (p := (((flN (possQ s p a b n c i (bitB x k) k) (1 <<< p)) : Nat) : Int) = 0) rfl (fun h15 => ?_) (fun h15 => ?_)
      · refine Wc.seq ?_
        refine Wc.region rfl ?_
        refine Wl.pure (PR.build (ps := []) (cs := layV (0) ((fun _ => 0))) tB_50 rfl rfl) ?_
        refine Wl.storeA (i := 2) (cs' := layV (0) ((fun _ => 0))) st tA_50 rfl rfl layV_len layV_one rfl (le_of_len layV_len (by omega)) (all_put layV_len) ?_
        clear st
        intro w16 st
        replace st : St [] w w16 [(b35, arrU .u8 (flN (possQ s p a b n c i (bitB x k) k) (1 <<< p)) (flA (possQ s p a b n c i (bitB x k) k) (1 <<< p)) ++ sp35, 5), (b13, layV (y i) (d), 50), (b10, layV (0) ((fun _ => 0)), 50), (b5, schV ((s : Nat) : Int) ((p : Nat) : Int) (a) (b), 27)] := st
        refine Wl.pure (PR.assI rfl) ?_
        refine Wl.pure (PR.assB rfl) ?_
        refine Wl.nil ?_
        refine tn ?_
        refine Wc.ret ?_
        refine tr ?_
        refine br ?_
        refine tr ?_
        refine tr ?_
        refine br ?_
        refine tr ?_
        refine postL.many (rvs := [.cell 10 50, .tmp 11, .tmp 12]) rfl (.cell (us := layV (0) ((fun _ => 0))) tA_50 rfl layV_len (st.rdA (i := 2) (n := 65) rfl (all_sub layV_len)) (.tmp (v := .int .i64 (0)) rfl (.tmp (v := .bool false) rfl .nil))) ?_
        refine RetV.of ?_ st.below
        exact rp_f (repOk_f (k := k) (by omega) (by assumption) (by omega))
      · refine Wc.skip ?_
        refine tn ?_
        refine Wc.seq ?_
        refine Wc.region rfl ?_
        refine Wl.pure (PR.moveI rfl) ?_
        refine Wl.pure (PR.moveL rfl) ?_
        refine Wl.pure (PR.idxAddrS1 (i := 0) tS_22 rfl rfl (by omega)) ?_
        refine Wl.load (i := 0) st tA_5 rfl rfl (app_get (arrU_get0 (by omega))) ?_
        refine Wl.pure (PR.fieldAddr tF_50_1 rfl) ?_
        refine Wl.pure (PR.idxAddrA1 (i := k) tE_48 rfl rfl (by omega)) ?_
        refine Wl.store (i := 1) (cs' := layV (y i) (upd d (k) ((flA (possQ s p a b n c i (bitB x k) k) (1 <<< p)) (0)))) st tA_5 rfl rfl rfl rfl (lt_of_len layV_len (by omega)) (layV_set_c) ?_
        clear st
        intro w17 st
        replace st : St [] w w17 [(b35, arrU .u8 (flN (possQ s p a b n c i (bitB x k) k) (1 <<< p)) (flA (possQ s p a b n c i (bitB x k) k) (1 <<< p)) ++ sp35, 5), (b13, layV (y i) (upd d (k) ((flA (possQ s p a b n c i (bitB x k) k) (1 <<< p)) (0))), 50), (b10, layV (0) ((fun _ => 0)), 50), (b5, schV ((s : Nat) : Int) ((p : Nat) : Int) (a) (b), 27)] := st
        refine Wl.nil ?_
        refine tn ?_
        refine Wc.region rfl ?_
        refine Wl.pure (PR.moveI rfl) ?_
        refine Wl.pure (PR.add (a := ((m : Nat) : Int)) (b := 1) rfl rfl (by simp only [fitI]; omega)) ?_
        refine Wl.pure (PR.assI rfl) ?_
        refine Wl.nil ?_
        refine bn ?_
        refine tn ?_
        refine Wc.region rfl ?_
        refine Wl.pure (PR.add (a := ((k : Nat) : Int)) (b := 1) rfl rfl (by simp only [fitI]; omega)) ?_
        refine Wl.pure (PR.moveI rfl) ?_
        refine Wl.nil ?_
        refine tn ?_
        replace st := st.tail
        exact ⟨(k + 1, upd d (k) ((flA (possQ s p a b n c i (bitB x k) k) (1 <<< p)) (0)), (m + 1)), (.cons rfl (.cons rfl (.cons rfl (.cons rfl (.cons rfl (.cons rfl (.cons rfl (.cons rfl (.cons rfl (.nil _)))))))))), ⟨st, (by first | omega | (dsimp only; omega)), (by first | exact rp_lo_t hlo (by assumption) | exact rp_lo_f hlo hhi (by assumption)), (by first | exact rp_hi_t hhi | exact fun j hj => hhi j (by omega)), (by first | exact rp_ok_f hok (by assumption) | exact rp_ok_t hok (by omega)), (by first | exact hdb | exact upd_lt hdb (flA_256 (by omega) _)), (by first | exact flN_t hm (by assumption) | exact flN_f hm (by assumption))⟩, (by first | omega | (dsimp only; omega))⟩
  · refine Wc.exit ?_
    refine tx ?_
    refine tx ?_
    refine bh ?_
    refine tn ?_
    refine Wc.seq ?_
    refine Wc.region rfl ?_
    refine Wl.loadA (i := 0) st tA_50 rfl rfl (all_sub layV_len) layV_len ?_
    refine Wl.pure (PR.moveI rfl) ?_
    refine Wl.storeA (i := 1) (cs' := layV (y i) (d)) st tA_50 rfl rfl layV_len layV_one rfl (le_of_len layV_len (by omega)) (all_put layV_len) ?_
    clear st
    intro w18 st
    replace st : St [] w w18 [(b13, layV (y i) (d), 50), (b10, layV (y i) (d), 50), (b5, schV ((s : Nat) : Int) ((p : Nat) : Int) (a) (b), 27)] := st
    refine Wl.pure (PR.assI rfl) ?_
    refine Wl.pure (PR.assB rfl) ?_
    refine Wl.nil ?_
    refine tn ?_
    refine Wc.ret ?_
    refine postL.many (rvs := [.cell 10 50, .tmp 11, .tmp 12]) rfl (.cell (us := layV (y i) (d)) tA_50 rfl layV_len (st.rdA (i := 1) (n := 65) rfl (all_sub layV_len)) (.tmp (v := .int .i64 (((m : Nat) : Int))) rfl (.tmp (v := .bool true) rfl .nil))) ?_
    refine RetV.of ?_ st.below
    obtain rfl : k = 64 := by omega
    exact rp_t (repOk_t (fun j hj => hok j hj)) (fun j hj => hlo j hj) (hm.trans (fl_pc hz))

set_option maxHeartbeats 400000 in
set_option maxRecDepth 4000 in
theorem c_spec_l07Repaired {bk : Nat} {o : Nat} {s : Nat} {p : Nat} {a : Nat → Nat} {b : Nat → Nat} {A : Option Addr} {n : Nat} {cp : Nat} {y : Nat → Int} {c : Nat → Nat → Nat} {i : Nat} {x : Nat} {w : World} (hR : RdA w bk o (schV ((s : Nat) : Int) ((p : Nat) : Int) a b)) (hp8 : 1 ≤ p ∧ p ≤ 8) (ha : ∀ k, a k < 256) (hb : ∀ k, b k < 256) (hs6 : 1 ≤ s ∧ s ≤ 6) (hRL : RdS w A n (layS n y c)) (hg : ∀ i, i < n → -128 ≤ y i ∧ y i ≤ 127) (hc : ∀ i k, c i k < 256) (hn6 : 1 ≤ n ∧ n ≤ 6) (hx : x < 18446744073709551616) (hns : n = s) (hi0 : i < n) :
    CE Tryz.prog 49 [.pointer (some ⟨bk, o, none⟩), .int .u64 (((x : Nat) : Int)), .slice (A) (n) (cp), .int .i64 (((i : Nat) : Int))] w (RetV w (.tuple #[.agg (layV (rpZ (repOk s p a b n c i x (pic (wrQ s p a b n c x))) (y i)) ((rpF (repOk s p a b n c i x (pic (wrQ s p a b n c x))) (rpC s p a b n c i x (pic (wrQ s p a b n c x)))))).toArray, .int .i64 (((rpN (repOk s p a b n c i x (pic (wrQ s p a b n c x))) (pc (pic (wrQ s p a b n c x))) : Nat) : Int)), .bool ((repOk s p a b n c i x (pic (wrQ s p a b n c x))))])) := by
  refine CE.enter 52 [(0, .pointer (some ⟨bk, o, none⟩)), (1, .int .u64 (((x : Nat) : Int))), (2, .slice (A) (n) (cp)), (3, .int .i64 (((i : Nat) : Int)))] en_49 Tryz.func49 rfl rfl (Nat.le_of_ble_eq_true rfl) rfl ?_
  have st := St.start w
  refine Wc.seq ?_
  refine Wc.region rfl ?_
  refine Wl.alloc st tZ_50 rfl ?_
  clear st
  intro b8 w1 st
  refine Wl.pure (PR.assI rfl) ?_
  refine Wl.pure (PR.assB rfl) ?_
  refine Wl.nil ?_
  refine tn ?_
  refine Wc.seq ?_
  refine Wc.region rfl ?_
  refine Wl.pure (PR.moveP rfl) ?_
  refine Wl.pure (PR.moveI rfl) ?_
  refine Wl.pure (PR.moveL rfl) ?_
  refine Wl.callV (c_spec_l07Wrong (bk := bk) (o := o) (s := s) (p := p) (a := a) (b := b) (A := A) (n := n) (cp := cp) (y := y) (c := c) (x := x) (hR.st st) (by first | assumption | omega) ha hb (by first | assumption | omega) (hRL.st st) hg hc (by first | assumption | omega) hx (by first | assumption | omega)) rfl ?_
  intro w2 hbel
  replace st := st.call hbel
  clear hbel
  refine Wl.pure (PR.assI rfl) ?_
  refine Wl.nil ?_
  refine tn ?_
  refine Wc.seq ?_
  refine Wc.region rfl ?_
  refine Wl.pure (PR.moveL rfl) ?_
  refine Wl.pure (PR.moveI rfl) ?_
  obtain ⟨bs3, os4, rfl, hs5⟩ := hRL (by omega)
  have := hg (i) (by omega)
  refine Wl.pure (PR.idxAddrS (i := i) tS_32 rfl rfl (by omega)) ?_
  refine Wl.loadAC (vs := layV (y i) ((c i))) tA_50 rfl layV_len ((hs5.st st).sub (recV_sub (n := n) (i := i) (layS_row _ _) (by omega)) rfl) ?_
  refine Wl.alloc st tZ_50 rfl ?_
  clear st
  intro b12 w6 st
  refine Wl.storeA (i := 0) (cs' := layV (y i) ((c i))) st tA_50 rfl rfl layV_len layV_one rfl (le_of_len layV_len (by omega)) (all_put layV_len) ?_
  clear st
  intro w7 st
  replace st : St [] w w7 [(b12, layV (y i) ((c i)), 50), (b8, layV (0) ((fun _ => 0)), 50)] := st
  refine Wl.nil ?_
  refine tn ?_
  refine Wc.seq ?_
  refine Wc.seq ?_
  refine Wc.region rfl ?_
  refine Wl.pure (PR.assI rfl) ?_
  refine Wl.nil ?_
  refine tn ?_
  refine Wc.block ?_
  refine Wc.loopF (γ := Nat × (Nat → Nat)) (fun g => [(0, .pointer (some ⟨bk, o, none⟩)), (1, .int .u64 (((x : Nat) : Int))), (2, .slice (some ⟨bs3, os4, none⟩) (n) (cp)), (3, .int .i64 (((i : Nat) : Int))), (8, .pointer (some ⟨b8, 0, none⟩)), (11, .int .u64 (((pic (wrQ s p a b n c x) : Nat) : Int))), (12, .pointer (some ⟨b12, 0, none⟩)), (13, .int .i64 (((g.1 : Nat) : Int)))]) (fun g w_ => St [] w w_ [(b12, layV (y i) (g.2), 50), (b8, layV (0) ((fun _ => 0)), 50)] ∧ (g.1 ≤ 64) ∧ (∀ j, j < g.1 → g.2 j = (rpC s p a b n c i x (pic (wrQ s p a b n c x))) j) ∧ (∀ j, g.1 ≤ j → g.2 j = c i j) ∧ (∀ j, j < g.1 → bitB (pic (wrQ s p a b n c x)) j = true → 0 < flN (possQ s p a b n c i (bitB x j) j) (1 <<< p)) ∧ (∀ j, g.2 j < 256)) (fun g => 64 - g.1) ?_ ?_
  · exact ⟨(0, (c i)), (.cons rfl (.cons rfl (.cons rfl (.cons rfl (.cons rfl (.cons rfl (.cons rfl (.cons rfl (.nil _))))))))), st, (by first | omega | (dsimp only; omega)), (fun j hj => by omega), (fun _ _ => rfl), (fun j hj => by omega), (fun j => hc i j)⟩
  clear st
  rintro ⟨k, d⟩ w8 ⟨st, hk, hlo, hhi, hok, hdb⟩
  try dsimp only at st hk hlo hhi hok hdb ⊢
  have hfl8 := flN_le (bitB (pic (wrQ s p a b n c x))) k
  refine Wc.seq ?_
  refine Wc.seq ?_
  refine Wc.region rfl ?_
  refine Wl.pure (PR.moveI rfl) ?_
  refine Wl.pure (PR.lss (a := ((k : Nat) : Int)) (b := 64) rfl rfl) ?_
  refine Wl.nil ?_
  refine tn ?_
  refine Wc.condD (p := ((k : Nat) : Int) < 64) rfl (fun h9 => ?_) (fun h9 => ?_)
  · refine Wc.skip ?_
    refine tn ?_
    refine Wc.seq ?_
    refine Wc.block ?_
    refine Wc.seq ?_
    refine Wc.seq ?_
    refine Wc.region rfl ?_
    refine Wl.pure (PR.moveI rfl) ?_
    refine Wl.pure (PR.moveI rfl) ?_
    refine Wl.callV (c_bit_pec (x := pic (wrQ s p a b n c x)) (k := k) (picF_lt _ 64) (by first | assumption | omega)) rfl ?_
    intro w10 hbel
    replace st := st.call hbel
    clear hbel
    refine Wl.pure (PR.not_ rfl) ?_
    refine Wl.nil ?_
    refine tn ?_
    refine Wc.condNB (b := bitB (pic (wrQ s p a b n c x)) k) rfl (fun h11 => ?_) (fun h11 => ?_)
    · refine Wc.exit ?_
      refine tx ?_
      refine bh ?_
      refine tn ?_
      refine Wc.region rfl ?_
      refine Wl.pure (PR.moveI rfl) ?_
      refine Wl.pure (PR.add (a := ((k : Nat) : Int)) (b := 1) rfl rfl (by simp only [fitI]; omega)) ?_
      refine Wl.pure (PR.assI rfl) ?_
      refine Wl.nil ?_
      refine tn ?_
      exact ⟨(k + 1, d), (.cons rfl (.cons rfl (.cons rfl (.cons rfl (.cons rfl (.cons rfl (.cons rfl (.cons rfl (.nil _))))))))), ⟨st, (by first | omega | (dsimp only; omega)), (by first | exact rp_lo_t hlo (by assumption) | exact rp_lo_f hlo hhi (by assumption)), (by first | exact rp_hi_t hhi | exact fun j hj => hhi j (by omega)), (by first | exact rp_ok_f hok (by assumption) | exact rp_ok_t hok (by omega)), (by first | exact hdb | exact upd_lt hdb (flA_256 (by omega) _))⟩, (by first | omega | (dsimp only; omega))⟩
    · refine Wc.skip ?_
      refine tn ?_
      refine Wc.seq ?_
      refine Wc.region rfl ?_
      refine Wl.pure (PR.moveP rfl) ?_
      refine Wl.pure (PR.moveL rfl) ?_
      refine Wl.pure (PR.moveI rfl) ?_
      refine Wl.pure (PR.moveI rfl) ?_
      refine Wl.pure (PR.moveI rfl) ?_
      refine Wl.callV (c_bit_pec (x := x) (k := k) hx (by first | assumption | omega)) rfl ?_
      intro w12 hbel
      replace st := st.call hbel
      clear hbel
      refine Wl.pure (PR.moveI rfl) ?_
      refine Wl.callXG [] st (c_spec_l07Possible (bk := bk) (o := o) (s := s) (p := p) (a := a) (b := b) (A := some ⟨bs3, os4, none⟩) (n := n) (cp := cp) (y := y) (c := c) (i := i) (q := (bitB x k)) (k := k) (hR.st st) (by first | assumption | omega) ha hb (by first | assumption | omega) ((hs5.st st).sl) hg hc (by first | assumption | omega) (by first | assumption | omega) (by first | assumption | omega) (by first | assumption | omega)) rfl rfl ?_
      clear st
      intro b38 c38 sp38 w13 hc38 hs38 st
      replace st : St [] w w13 [(b38, arrU .u8 (flN (possQ s p a b n c i (bitB x k) k) (1 <<< p)) (flA (possQ s p a b n c i (bitB x k) k) (1 <<< p)) ++ sp38, 5), (b12, layV (y i) (d), 50), (b8, layV (0) ((fun _ => 0)), 50)] := st
      refine Wl.pure (PR.assL rfl) ?_
      refine Wl.nil ?_
      refine tn ?_
      refine Wc.seq ?_
      refine Wc.seq ?_
      refine Wc.region rfl ?_
      refine Wl.pure (PR.moveL rfl) ?_
      refine Wl.pure (PR.lenL tS_22 rfl) ?_
      refine Wl.pure (PR.eql (a := (((flN (possQ s p a b n c i (bitB x k) k) (1 <<< p)) : Nat) : Int)) (b := 0) rfl rfl) ?_
      refine Wl.nil ?_
      refine tn ?_
      refine Wc.condD (p := (((flN (possQ s p a b n c i (bitB x k) k) (1 <<< p)) : Nat) : Int) = 0) rfl (fun h14 => ?_) (fun h14 => ?_)
      · refine Wc.seq ?_
        refine Wc.region rfl ?_
        refine Wl.pure (PR.build (ps := []) (cs := layV (0) ((fun _ => 0))) tB_50 rfl rfl) ?_
        refine Wl.storeA (i := 2) (cs' := layV (0) ((fun _ => 0))) st tA_50 rfl rfl layV_len layV_one rfl (le_of_len layV_len (by omega)) (all_put layV_len) ?_
        clear st
        intro w15 st
        replace st : St [] w w15 [(b38, arrU .u8 (flN (possQ s p a b n c i (bitB x k) k) (1 <<< p)) (flA (possQ s p a b n c i (bitB x k) k) (1 <<< p)) ++ sp38, 5), (b12, layV (y i) (d), 50), (b8, layV (0) ((fun _ => 0)), 50)] := st
        refine Wl.pure (PR.assI rfl) ?_
        refine Wl.pure (PR.assB rfl) ?_
        refine Wl.nil ?_
        refine tn ?_
        refine Wc.ret ?_
        refine tr ?_
        refine br ?_
        refine tr ?_
        refine tr ?_
        refine br ?_
        refine tr ?_
        refine postL.many (rvs := [.cell 8 50, .tmp 9, .tmp 10]) rfl (.cell (us := layV (0) ((fun _ => 0))) tA_50 rfl layV_len (st.rdA (i := 2) (n := 65) rfl (all_sub layV_len)) (.tmp (v := .int .i64 (0)) rfl (.tmp (v := .bool false) rfl .nil))) ?_
        refine RetV.of ?_ st.below
        exact rp_f (repOk_f (k := k) (by omega) (by assumption) (by omega))
      · refine Wc.skip ?_
        refine tn ?_
        refine Wc.region rfl ?_
        refine Wl.pure (PR.moveI rfl) ?_
        refine Wl.pure (PR.moveL rfl) ?_
        refine Wl.pure (PR.idxAddrS1 (i := 0) tS_22 rfl rfl (by omega)) ?_
        refine Wl.load (i := 0) st tA_5 rfl rfl (app_get (arrU_get0 (by omega))) ?_
        refine Wl.pure (PR.fieldAddr tF_50_1 rfl) ?_
        refine Wl.pure (PR.idxAddrA1 (i := k) tE_48 rfl rfl (by omega)) ?_
        refine Wl.store (i := 1) (cs' := layV (y i) (upd d (k) ((flA (possQ s p a b n c i (bitB x k) k) (1 <<< p)) (0)))) st tA_5 rfl rfl rfl rfl (lt_of_len layV_len (by omega)) (layV_set_c) ?_
        clear st
        intro w16 st
        replace st : St [] w w16 [(b38, arrU .u8 (flN (possQ s p a b n c i (bitB x k) k) (1 <<< p)) (flA (possQ s p a b n c i (bitB x k) k) (1 <<< p)) ++ sp38, 5), (b12, layV (y i) (upd d (k) ((flA (possQ s p a b n c i (bitB x k) k) (1 <<< p)) (0))), 50), (b8, layV (0) ((fun _ => 0)), 50)] := st
        refine Wl.nil ?_
        refine bn ?_
        refine tn ?_
        refine Wc.region rfl ?_
        refine Wl.pure (PR.moveI rfl) ?_
        refine Wl.pure (PR.add (a := ((k : Nat) : Int)) (b := 1) rfl rfl (by simp only [fitI]; omega)) ?_
        refine Wl.pure (PR.assI rfl) ?_
        refine Wl.nil ?_
        refine tn ?_
        replace st := st.tail
        exact ⟨(k + 1, upd d (k) ((flA (possQ s p a b n c i (bitB x k) k) (1 <<< p)) (0))), (.cons rfl (.cons rfl (.cons rfl (.cons rfl (.cons rfl (.cons rfl (.cons rfl (.cons rfl (.nil _))))))))), ⟨st, (by first | omega | (dsimp only; omega)), (by first | exact rp_lo_t hlo (by assumption) | exact rp_lo_f hlo hhi (by assumption)), (by first | exact rp_hi_t hhi | exact fun j hj => hhi j (by omega)), (by first | exact rp_ok_f hok (by assumption) | exact rp_ok_t hok (by omega)), (by first | exact hdb | exact upd_lt hdb (flA_256 (by omega) _))⟩, (by first | omega | (dsimp only; omega))⟩
  · refine Wc.exit ?_
    refine tx ?_
    refine tx ?_
    refine bh ?_
    refine tn ?_
    refine Wc.seq ?_
    refine Wc.quietTail 3 hmix (by kernel_rfl) rfl ?_
    refine Wq.loadA (i := 0) st tA_50 rfl rfl (all_sub layV_len) layV_len ?_
    refine Wq.pure (PR.moveI rfl) ?_
    refine Wq.callV (fun _ hbel => c_spec_l01Count (x := pic (wrQ s p a b n c x)) (picF_lt _ 64)) rfl ?_
    refine Wq.nil (fun w17 hbel => ?_)
    replace st := st.call hbel
    clear hbel
    refine Wl.storeA (i := 1) (cs' := layV (y i) (d)) st tA_50 rfl rfl layV_len layV_one rfl (le_of_len layV_len (by omega)) (all_put layV_len) ?_
    clear st
    intro w18 st
    replace st : St [] w w18 [(b12, layV (y i) (d), 50), (b8, layV (y i) (d), 50)] := st
    refine Wl.pure (PR.assI rfl) ?_
    refine Wl.pure (PR.assB rfl) ?_
    refine Wl.nil ?_
    refine tn ?_
    refine Wc.ret ?_
    refine postL.many (rvs := [.cell 8 50, .tmp 9, .tmp 10]) rfl (.cell (us := layV (y i) (d)) tA_50 rfl layV_len (st.rdA (i := 1) (n := 65) rfl (all_sub layV_len)) (.tmp (v := .int .i64 (((pc (pic (wrQ s p a b n c x)) : Nat) : Int))) rfl (.tmp (v := .bool true) rfl .nil))) ?_
    refine RetV.of ?_ st.below
    obtain rfl : k = 64 := by omega
    exact rp_t (repOk_t (fun j hj => hok j hj)) (fun j hj => hlo j hj) rfl

set_option maxHeartbeats 400000 in
set_option maxRecDepth 4000 in
theorem c_impl_RepairLayer {s : Int} {p : Int} {a : Nat → Nat} {b : Nat → Nat} {x : Nat} {A : Option Addr} {n : Nat} {cp : Nat} {y : Nat → Int} {c : Nat → Nat → Nat} {z : Int} {w : World} (hs : -128 ≤ s ∧ s ≤ 127) (hp : -128 ≤ p ∧ p ≤ 127) (ha : ∀ k, a k < 256) (hb : ∀ k, b k < 256) (hx : x < 18446744073709551616) (hRL : RdS w A n (layS n y c)) (hg : ∀ i, i < n → -128 ≤ y i ∧ y i ≤ 127) (hc : ∀ i k, c i k < 256) (hn : n ≤ 1048576) :
    CE Tryz.prog 22 [.agg (schV (s) (p) (a) (b)).toArray, .int .u64 (((x : Nat) : Int)), .slice (A) (n) (cp), .int .i64 (z)] w (RetV w (.tuple #[.agg (layV (rpZ (rlB (shC s p a b n y c z) (repOk ((s).toNat) ((p).toNat) a b n c ((z).toNat) x (pic (wrQ ((s).toNat) ((p).toNat) a b n c x)))) (y (z).toNat)) ((rpF (rlB (shC s p a b n y c z) (repOk ((s).toNat) ((p).toNat) a b n c ((z).toNat) x (pic (wrQ ((s).toNat) ((p).toNat) a b n c x)))) (rpC ((s).toNat) ((p).toNat) a b n c ((z).toNat) x (pic (wrQ ((s).toNat) ((p).toNat) a b n c x)))))).toArray, .int .i64 (((rpN (rlB (shC s p a b n y c z) (repOk ((s).toNat) ((p).toNat) a b n c ((z).toNat) x (pic (wrQ ((s).toNat) ((p).toNat) a b n c x)))) (pc (pic (wrQ ((s).toNat) ((p).toNat) a b n c x))) : Nat) : Int)), .int .i64 (((rlC (shC s p a b n y c z) (repOk ((s).toNat) ((p).toNat) a b n c ((z).toNat) x (pic (wrQ ((s).toNat) ((p).toNat) a b n c x))) : Nat) : Int))])) := by
  refine CE.enter 41 [(0, .agg (schV (s) (p) (a) (b)).toArray), (1, .int .u64 (((x : Nat) : Int))), (2, .slice (A) (n) (cp)), (3, .int .i64 (z))] en_22 Tryz.func22 rfl rfl (Nat.le_of_ble_eq_true rfl) rfl ?_
  have st := St.start w
  refine Wc.seq ?_
  refine Wc.region rfl ?_
  refine Wl.boxA st rfl ?_
  clear st
  intro b4 w1 st
  refine Wl.alloc st tZ_50 rfl ?_
  clear st
  intro b8 w2 st
  refine Wl.pure (PR.assI rfl) ?_
  refine Wl.pure (PR.assI rfl) ?_
  refine Wl.nil ?_
  refine tn ?_
  refine Wc.seq ?_
  refine Wc.seq ?_
  refine Wc.region rfl ?_
  refine Wl.loadA (i := 1) st tA_27 rfl rfl (all_sub schV_len) schV_len ?_
  refine Wl.pure (PR.moveL rfl) ?_
  refine Wl.pure (PR.moveI rfl) ?_
  refine Wl.callV (c_impl_cheatCode (s := s) (p := p) (a := a) (b := b) (A := A) (n := n) (cp := cp) (y := y) (c := c) (z := z) (by first | assumption | omega) (by first | assumption | omega) ha hb (hRL.st st) hg hc (by first | assumption | omega)) rfl ?_
  intro w3 hbel
  replace st := st.call hbel
  clear hbel
  refine Wl.pure (PR.assI rfl) ?_
  refine Wl.nil ?_
  refine tn ?_
  refine Wc.seq ?_
  refine Wc.region rfl ?_
  refine Wl.pure (PR.moveI rfl) ?_
  refine Wl.pure (PR.neq (a := ((shC s p a b n y c z : Nat) : Int)) (b := 0) rfl rfl) ?_
  refine Wl.nil ?_
  refine tn ?_
  refine Wc.condN (p := ((shC s p a b n y c z : Nat) : Int) = 0) rfl (fun h4 => ?_) (fun h4 => ?_)
  · refine Wc.seq ?_
    refine Wc.region rfl ?_
    refine Wl.pure (PR.build (ps := []) (cs := layV (0) ((fun _ => 0))) tB_50 rfl rfl) ?_
    refine Wl.pure (PR.moveI rfl) ?_
    refine Wl.storeA (i := 0) (cs' := layV (0) ((fun _ => 0))) st tA_50 rfl rfl layV_len layV_one rfl (le_of_len layV_len (by omega)) (all_put layV_len) ?_
    clear st
    intro w5 st
    replace st : St [] w w5 [(b8, layV (0) ((fun _ => 0)), 50), (b4, schV (s) (p) (a) (b), 27)] := st
    refine Wl.pure (PR.assI rfl) ?_
    refine Wl.pure (PR.assI rfl) ?_
    refine Wl.nil ?_
    refine tn ?_
    refine Wc.ret ?_
    refine tr ?_
    refine postL.many (rvs := [.cell 8 50, .tmp 9, .tmp 10]) rfl (.cell (us := layV (0) ((fun _ => 0))) tA_50 rfl layV_len (st.rdA (i := 0) (n := 65) rfl (all_sub layV_len)) (.tmp (v := .int .i64 (0)) rfl (.tmp (v := .int .i64 (((shC s p a b n y c z : Nat) : Int))) rfl .nil))) ?_
    refine RetV.of ?_ st.below
    exact rl_c (by omega) (by omega)
  · refine Wc.skip ?_
    refine tn ?_
    refine Wc.seq ?_
    obtain ⟨hb9, hzi⟩ := shC_spec (s := s) (p := p) (a := a) (b := b) (n := n) (g := y) (c := c) (i := z) (by omega)
    have hcode0 : bothC s p a b n y c = 0 := hb9
    obtain ⟨hok, hlay, hns⟩ := bothC_spec hcode0
    have hall := bothC_all hcode0
    obtain ⟨hs1, hp1, _⟩ := schOk_spec hok
    obtain ⟨d_, rfl⟩ : ∃ d_ : Nat, s = ((d_ : Nat) : Int) := ⟨s.toNat, by omega⟩
    obtain ⟨e_, rfl⟩ : ∃ e_ : Nat, p = ((e_ : Nat) : Int) := ⟨p.toNat, by omega⟩
    obtain ⟨_, hza, hzb⟩ := sch_zero hok
    have hns9 : n = d_ := by omega
    have hy0 : y 0 = ((e_ : Nat) : Int) := hall 0 (by omega)
    have hn6 : 1 ≤ n ∧ n ≤ 6 := by omega
    obtain ⟨i_, rfl⟩ : ∃ i_ : Nat, z = ((i_ : Nat) : Int) := ⟨z.toNat, by omega⟩
    have hi0 : i_ < n := by omega
    refine Wc.tree (γ := Nat) (w0 := w) (X := []) (Ks := [b4]) (S := fun i => i == 5 || i == 8 || i == 13 || i == 14) (fun g => [(8, .pointer (some ⟨b8, 0, none⟩)), (9, .int .i64 (0)), (10, .int .i64 (0)), (12, .pointer (some ⟨g, 0, none⟩)), (13, .int .i64 (((rpN (repOk d_ e_ a b n c i_ x (pic (wrQ d_ e_ a b n c x))) (pc (pic (wrQ d_ e_ a b n c x))) : Nat) : Int))), (14, .bool ((repOk d_ e_ a b n c i_ x (pic (wrQ d_ e_ a b n c x)))))]) (fun g w_ => St [] w w_ [(g, layV (rpZ (repOk d_ e_ a b n c i_ x (pic (wrQ d_ e_ a b n c x))) (y i_)) ((rpF (repOk d_ e_ a b n c i_ x (pic (wrQ d_ e_ a b n c x))) (rpC d_ e_ a b n c i_ x (pic (wrQ d_ e_ a b n c x))))), 50), (b8, layV (0) ((fun _ => 0)), 50), (b4, schV ((d_ : Nat) : Int) ((e_ : Nat) : Int) (a) (b), 27)]) (.st 1 0 (.st 3 0 (.st 4 0 (.st 6 0 (.st 7 0 (.st 0 3 (.st 2 3 (.alt 13 (.st 5 2 (.st 8 2 (.st 9 0 (.st 10 0 (.st 11 0 (.st 12 0 (.st 14 2 (.st 15 0 (.st 16 0 PT.nil))))))))) (.st 5 2 (.alt 13 (.st 8 2 (.st 9 0 (.st 10 0 (.st 11 0 (.st 12 0 (.st 14 2 (.st 15 0 (.st 16 0 PT.nil)))))))) (.st 8 2 (.st 9 0 (.st 10 0 (.st 11 0 (.st 12 0 (.st 13 2 (.st 14 2 (.st 15 0 (.st 16 0 PT.nil))))))))))))))))))) hmix (by kernel_rfl) (by kernel_rfl) rfl rfl ?_ ?_
    · intro w6 hbel
      replace st := st.call hbel
      clear hbel
      refine WT.pure rfl (PR.moveI rfl) ?_
      refine WT.pure rfl (PR.moveI rfl) ?_
      refine WT.pure rfl (PR.moveL rfl) ?_
      refine WT.pure rfl (PR.moveL rfl) ?_
      refine WT.pure rfl (PR.moveI rfl) ?_
      refine WT.loadA (j := 1) rfl (by simp) st tA_27 rfl rfl (all_sub schV_len) schV_len ?_
      refine WT.loadA (j := 1) rfl (by simp) st tA_27 rfl rfl (all_sub schV_len) schV_len ?_
      refine WT.alt ?_ ?_
      · have st0 := st
        refine WT.s rfl rfl ?_
        refine Wl.alloc st tZ_50 rfl ?_
        clear st
        intro b12 w7 st
        refine Wl.nil ⟨rfl, RK.of st0 st (ksC (i := 1) (j := 2) rfl rfl rfl ksN), ?_⟩
        clear st0
        have st0 := st
        refine WT.s rfl rfl ?_
        refine Wl.callV (c_impl_Scheme_wrong (s := d_) (p := e_) (a := a) (b := b) (A := A) (n := n) (cp := cp) (y := y) (c := c) (x := x) (by first | assumption | omega) ha hb (by first | assumption | omega) (by first | assumption | omega) (by first | assumption | omega) (hRL.st st) hg hc (by first | assumption | omega) (by first | assumption | omega) hx (by first | assumption | omega)) rfl ?_
        intro w8 hbel
        replace st := st.call hbel
        clear hbel
        refine Wl.nil ⟨rfl, RK.of st0 st (ksC (i := 2) (j := 2) rfl rfl rfl ksN), ?_⟩
        clear st0
        have st0 := st
        refine WT.s rfl rfl ?_
        refine Wl.callV (c_impl_Scheme_repaired (s := d_) (p := e_) (a := a) (b := b) (A := A) (n := n) (cp := cp) (y := y) (c := c) (i := i_) (x := x) (z := pic (wrQ d_ e_ a b n c x)) (by first | assumption | omega) ha hb (by first | assumption | omega) (by first | assumption | omega) (by first | assumption | omega) (hRL.st st) hg hc (by first | assumption | omega) hx (picF_lt _ 64) (by first | assumption | omega) (by first | assumption | omega)) rfl ?_
        intro w9 hbel
        replace st := st.call hbel
        clear hbel
        refine Wl.nil ⟨rfl, RK.of st0 st (ksC (i := 2) (j := 2) rfl rfl rfl ksN), ?_⟩
        clear st0
        refine WT.pure rfl (PR.moveV (.tuple #[.agg (layV (rpZ (repOk d_ e_ a b n c i_ x (pic (wrQ d_ e_ a b n c x))) (y i_)) ((rpF (repOk d_ e_ a b n c i_ x (pic (wrQ d_ e_ a b n c x))) (rpC d_ e_ a b n c i_ x (pic (wrQ d_ e_ a b n c x)))))).toArray, .int .i64 (((rpN (repOk d_ e_ a b n c i_ x (pic (wrQ d_ e_ a b n c x))) (pc (pic (wrQ d_ e_ a b n c x))) : Nat) : Int)), .bool ((repOk d_ e_ a b n c i_ x (pic (wrQ d_ e_ a b n c x))))]) rfl) ?_
        refine WT.pure rfl (PR.extr (i := 0) (vs := [.agg (layV (rpZ (repOk d_ e_ a b n c i_ x (pic (wrQ d_ e_ a b n c x))) (y i_)) ((rpF (repOk d_ e_ a b n c i_ x (pic (wrQ d_ e_ a b n c x))) (rpC d_ e_ a b n c i_ x (pic (wrQ d_ e_ a b n c x)))))).toArray, .int .i64 (((rpN (repOk d_ e_ a b n c i_ x (pic (wrQ d_ e_ a b n c x))) (pc (pic (wrQ d_ e_ a b n c x))) : Nat) : Int)), .bool ((repOk d_ e_ a b n c i_ x (pic (wrQ d_ e_ a b n c x))))]) rfl rfl) ?_
        refine WT.pure rfl (PR.extr (i := 1) (vs := [.agg (layV (rpZ (repOk d_ e_ a b n c i_ x (pic (wrQ d_ e_ a b n c x))) (y i_)) ((rpF (repOk d_ e_ a b n c i_ x (pic (wrQ d_ e_ a b n c x))) (rpC d_ e_ a b n c i_ x (pic (wrQ d_ e_ a b n c x)))))).toArray, .int .i64 (((rpN (repOk d_ e_ a b n c i_ x (pic (wrQ d_ e_ a b n c x))) (pc (pic (wrQ d_ e_ a b n c x))) : Nat) : Int)), .bool ((repOk d_ e_ a b n c i_ x (pic (wrQ d_ e_ a b n c x))))]) rfl rfl) ?_
        refine WT.pure rfl (PR.extr (i := 2) (vs := [.agg (layV (rpZ (repOk d_ e_ a b n c i_ x (pic (wrQ d_ e_ a b n c x))) (y i_)) ((rpF (repOk d_ e_ a b n c i_ x (pic (wrQ d_ e_ a b n c x))) (rpC d_ e_ a b n c i_ x (pic (wrQ d_ e_ a b n c x)))))).toArray, .int .i64 (((rpN (repOk d_ e_ a b n c i_ x (pic (wrQ d_ e_ a b n c x))) (pc (pic (wrQ d_ e_ a b n c x))) : Nat) : Int)), .bool ((repOk d_ e_ a b n c i_ x (pic (wrQ d_ e_ a b n c x))))]) rfl rfl) ?_
        have st0 := st
        refine WT.s rfl rfl ?_
        refine Wl.storeA (i := 0) (cs' := layV (rpZ (repOk d_ e_ a b n c i_ x (pic (wrQ d_ e_ a b n c x))) (y i_)) ((rpF (repOk d_ e_ a b n c i_ x (pic (wrQ d_ e_ a b n c x))) (rpC d_ e_ a b n c i_ x (pic (wrQ d_ e_ a b n c x)))))) st tA_50 rfl rfl layV_len layV_one rfl (le_of_len layV_len (by omega)) (all_put layV_len) ?_
        clear st
        intro w10 st
        replace st : St [] w w10 [(b12, layV (rpZ (repOk d_ e_ a b n c i_ x (pic (wrQ d_ e_ a b n c x))) (y i_)) ((rpF (repOk d_ e_ a b n c i_ x (pic (wrQ d_ e_ a b n c x))) (rpC d_ e_ a b n c i_ x (pic (wrQ d_ e_ a b n c x))))), 50), (b8, layV (0) ((fun _ => 0)), 50), (b4, schV ((d_ : Nat) : Int) ((e_ : Nat) : Int) (a) (b), 27)] := st
        refine Wl.nil ⟨rfl, RK.of st0 st (ksC (i := 2) (j := 2) rfl rfl rfl ksN), ?_⟩
        clear st0
        refine WT.pure rfl (PR.assI rfl) ?_
        refine WT.pure rfl (PR.assB rfl) ?_
        exact WT.nil ⟨b12, (.cons rfl (.cons rfl (.cons rfl (.cons rfl (.cons rfl (.cons rfl (.nil _))))))), st⟩
      · have st0 := st
        refine WT.s rfl rfl ?_
        refine Wl.callV (c_impl_Scheme_wrong (s := d_) (p := e_) (a := a) (b := b) (A := A) (n := n) (cp := cp) (y := y) (c := c) (x := x) (by first | assumption | omega) ha hb (by first | assumption | omega) (by first | assumption | omega) (by first | assumption | omega) (hRL.st st) hg hc (by first | assumption | omega) (by first | assumption | omega) hx (by first | assumption | omega)) rfl ?_
        intro w7 hbel
        replace st := st.call hbel
        clear hbel
        refine Wl.nil ⟨rfl, RK.of st0 st (ksC (i := 1) (j := 1) rfl rfl rfl ksN), ?_⟩
        clear st0
        refine WT.alt ?_ ?_
        · have st0 := st
          refine WT.s rfl rfl ?_
          refine Wl.alloc st tZ_50 rfl ?_
          clear st
          intro b12 w8 st
          refine Wl.nil ⟨rfl, RK.of st0 st (ksC (i := 1) (j := 2) rfl rfl rfl ksN), ?_⟩
          clear st0
          have st0 := st
          refine WT.s rfl rfl ?_
          refine Wl.callV (c_impl_Scheme_repaired (s := d_) (p := e_) (a := a) (b := b) (A := A) (n := n) (cp := cp) (y := y) (c := c) (i := i_) (x := x) (z := pic (wrQ d_ e_ a b n c x)) (by first | assumption | omega) ha hb (by first | assumption | omega) (by first | assumption | omega) (by first | assumption | omega) (hRL.st st) hg hc (by first | assumption | omega) hx (picF_lt _ 64) (by first | assumption | omega) (by first | assumption | omega)) rfl ?_
          intro w9 hbel
          replace st := st.call hbel
          clear hbel
          refine Wl.nil ⟨rfl, RK.of st0 st (ksC (i := 2) (j := 2) rfl rfl rfl ksN), ?_⟩
          clear st0
          refine WT.pure rfl (PR.moveV (.tuple #[.agg (layV (rpZ (repOk d_ e_ a b n c i_ x (pic (wrQ d_ e_ a b n c x))) (y i_)) ((rpF (repOk d_ e_ a b n c i_ x (pic (wrQ d_ e_ a b n c x))) (rpC d_ e_ a b n c i_ x (pic (wrQ d_ e_ a b n c x)))))).toArray, .int .i64 (((rpN (repOk d_ e_ a b n c i_ x (pic (wrQ d_ e_ a b n c x))) (pc (pic (wrQ d_ e_ a b n c x))) : Nat) : Int)), .bool ((repOk d_ e_ a b n c i_ x (pic (wrQ d_ e_ a b n c x))))]) rfl) ?_
          refine WT.pure rfl (PR.extr (i := 0) (vs := [.agg (layV (rpZ (repOk d_ e_ a b n c i_ x (pic (wrQ d_ e_ a b n c x))) (y i_)) ((rpF (repOk d_ e_ a b n c i_ x (pic (wrQ d_ e_ a b n c x))) (rpC d_ e_ a b n c i_ x (pic (wrQ d_ e_ a b n c x)))))).toArray, .int .i64 (((rpN (repOk d_ e_ a b n c i_ x (pic (wrQ d_ e_ a b n c x))) (pc (pic (wrQ d_ e_ a b n c x))) : Nat) : Int)), .bool ((repOk d_ e_ a b n c i_ x (pic (wrQ d_ e_ a b n c x))))]) rfl rfl) ?_
          refine WT.pure rfl (PR.extr (i := 1) (vs := [.agg (layV (rpZ (repOk d_ e_ a b n c i_ x (pic (wrQ d_ e_ a b n c x))) (y i_)) ((rpF (repOk d_ e_ a b n c i_ x (pic (wrQ d_ e_ a b n c x))) (rpC d_ e_ a b n c i_ x (pic (wrQ d_ e_ a b n c x)))))).toArray, .int .i64 (((rpN (repOk d_ e_ a b n c i_ x (pic (wrQ d_ e_ a b n c x))) (pc (pic (wrQ d_ e_ a b n c x))) : Nat) : Int)), .bool ((repOk d_ e_ a b n c i_ x (pic (wrQ d_ e_ a b n c x))))]) rfl rfl) ?_
          refine WT.pure rfl (PR.extr (i := 2) (vs := [.agg (layV (rpZ (repOk d_ e_ a b n c i_ x (pic (wrQ d_ e_ a b n c x))) (y i_)) ((rpF (repOk d_ e_ a b n c i_ x (pic (wrQ d_ e_ a b n c x))) (rpC d_ e_ a b n c i_ x (pic (wrQ d_ e_ a b n c x)))))).toArray, .int .i64 (((rpN (repOk d_ e_ a b n c i_ x (pic (wrQ d_ e_ a b n c x))) (pc (pic (wrQ d_ e_ a b n c x))) : Nat) : Int)), .bool ((repOk d_ e_ a b n c i_ x (pic (wrQ d_ e_ a b n c x))))]) rfl rfl) ?_
          have st0 := st
          refine WT.s rfl rfl ?_
          refine Wl.storeA (i := 0) (cs' := layV (rpZ (repOk d_ e_ a b n c i_ x (pic (wrQ d_ e_ a b n c x))) (y i_)) ((rpF (repOk d_ e_ a b n c i_ x (pic (wrQ d_ e_ a b n c x))) (rpC d_ e_ a b n c i_ x (pic (wrQ d_ e_ a b n c x)))))) st tA_50 rfl rfl layV_len layV_one rfl (le_of_len layV_len (by omega)) (all_put layV_len) ?_
          clear st
          intro w10 st
          replace st : St [] w w10 [(b12, layV (rpZ (repOk d_ e_ a b n c i_ x (pic (wrQ d_ e_ a b n c x))) (y i_)) ((rpF (repOk d_ e_ a b n c i_ x (pic (wrQ d_ e_ a b n c x))) (rpC d_ e_ a b n c i_ x (pic (wrQ d_ e_ a b n c x))))), 50), (b8, layV (0) ((fun _ => 0)), 50), (b4, schV ((d_ : Nat) : Int) ((e_ : Nat) : Int) (a) (b), 27)] := st
          refine Wl.nil ⟨rfl, RK.of st0 st (ksC (i := 2) (j := 2) rfl rfl rfl ksN), ?_⟩
          clear st0
          refine WT.pure rfl (PR.assI rfl) ?_
          refine WT.pure rfl (PR.assB rfl) ?_
          exact WT.nil ⟨b12, (.cons rfl (.cons rfl (.cons rfl (.cons rfl (.cons rfl (.cons rfl (.nil _))))))), st⟩
        · have st0 := st
          refine WT.s rfl rfl ?_
          refine Wl.callV (c_impl_Scheme_repaired (s := d_) (p := e_) (a := a) (b := b) (A := A) (n := n) (cp := cp) (y := y) (c := c) (i := i_) (x := x) (z := pic (wrQ d_ e_ a b n c x)) (by first | assumption | omega) ha hb (by first | assumption | omega) (by first | assumption | omega) (by first | assumption | omega) (hRL.st st) hg hc (by first | assumption | omega) hx (picF_lt _ 64) (by first | assumption | omega) (by first | assumption | omega)) rfl ?_
          intro w8 hbel
          replace st := st.call hbel
          clear hbel
          refine Wl.nil ⟨rfl, RK.of st0 st (ksC (i := 1) (j := 1) rfl rfl rfl ksN), ?_⟩
          clear st0
          refine WT.pure rfl (PR.moveV (.tuple #[.agg (layV (rpZ (repOk d_ e_ a b n c i_ x (pic (wrQ d_ e_ a b n c x))) (y i_)) ((rpF (repOk d_ e_ a b n c i_ x (pic (wrQ d_ e_ a b n c x))) (rpC d_ e_ a b n c i_ x (pic (wrQ d_ e_ a b n c x)))))).toArray, .int .i64 (((rpN (repOk d_ e_ a b n c i_ x (pic (wrQ d_ e_ a b n c x))) (pc (pic (wrQ d_ e_ a b n c x))) : Nat) : Int)), .bool ((repOk d_ e_ a b n c i_ x (pic (wrQ d_ e_ a b n c x))))]) rfl) ?_
          refine WT.pure rfl (PR.extr (i := 0) (vs := [.agg (layV (rpZ (repOk d_ e_ a b n c i_ x (pic (wrQ d_ e_ a b n c x))) (y i_)) ((rpF (repOk d_ e_ a b n c i_ x (pic (wrQ d_ e_ a b n c x))) (rpC d_ e_ a b n c i_ x (pic (wrQ d_ e_ a b n c x)))))).toArray, .int .i64 (((rpN (repOk d_ e_ a b n c i_ x (pic (wrQ d_ e_ a b n c x))) (pc (pic (wrQ d_ e_ a b n c x))) : Nat) : Int)), .bool ((repOk d_ e_ a b n c i_ x (pic (wrQ d_ e_ a b n c x))))]) rfl rfl) ?_
          refine WT.pure rfl (PR.extr (i := 1) (vs := [.agg (layV (rpZ (repOk d_ e_ a b n c i_ x (pic (wrQ d_ e_ a b n c x))) (y i_)) ((rpF (repOk d_ e_ a b n c i_ x (pic (wrQ d_ e_ a b n c x))) (rpC d_ e_ a b n c i_ x (pic (wrQ d_ e_ a b n c x)))))).toArray, .int .i64 (((rpN (repOk d_ e_ a b n c i_ x (pic (wrQ d_ e_ a b n c x))) (pc (pic (wrQ d_ e_ a b n c x))) : Nat) : Int)), .bool ((repOk d_ e_ a b n c i_ x (pic (wrQ d_ e_ a b n c x))))]) rfl rfl) ?_
          refine WT.pure rfl (PR.extr (i := 2) (vs := [.agg (layV (rpZ (repOk d_ e_ a b n c i_ x (pic (wrQ d_ e_ a b n c x))) (y i_)) ((rpF (repOk d_ e_ a b n c i_ x (pic (wrQ d_ e_ a b n c x))) (rpC d_ e_ a b n c i_ x (pic (wrQ d_ e_ a b n c x)))))).toArray, .int .i64 (((rpN (repOk d_ e_ a b n c i_ x (pic (wrQ d_ e_ a b n c x))) (pc (pic (wrQ d_ e_ a b n c x))) : Nat) : Int)), .bool ((repOk d_ e_ a b n c i_ x (pic (wrQ d_ e_ a b n c x))))]) rfl rfl) ?_
          have st0 := st
          refine WT.s rfl rfl ?_
          refine Wl.alloc st tZ_50 rfl ?_
          clear st
          intro b12 w9 st
          refine Wl.nil ⟨rfl, RK.of st0 st (ksC (i := 1) (j := 2) rfl rfl rfl ksN), ?_⟩
          clear st0
          have st0 := st
          refine WT.s rfl rfl ?_
          refine Wl.storeA (i := 0) (cs' := layV (rpZ (repOk d_ e_ a b n c i_ x (pic (wrQ d_ e_ a b n c x))) (y i_)) ((rpF (repOk d_ e_ a b n c i_ x (pic (wrQ d_ e_ a b n c x))) (rpC d_ e_ a b n c i_ x (pic (wrQ d_ e_ a b n c x)))))) st tA_50 rfl rfl layV_len layV_one rfl (le_of_len layV_len (by omega)) (all_put layV_len) ?_
          clear st
          intro w10 st
          replace st : St [] w w10 [(b12, layV (rpZ (repOk d_ e_ a b n c i_ x (pic (wrQ d_ e_ a b n c x))) (y i_)) ((rpF (repOk d_ e_ a b n c i_ x (pic (wrQ d_ e_ a b n c x))) (rpC d_ e_ a b n c i_ x (pic (wrQ d_ e_ a b n c x))))), 50), (b8, layV (0) ((fun _ => 0)), 50), (b4, schV ((d_ : Nat) : Int) ((e_ : Nat) : Int) (a) (b), 27)] := st
          refine Wl.nil ⟨rfl, RK.of st0 st (ksC (i := 2) (j := 2) rfl rfl rfl ksN), ?_⟩
          clear st0
          refine WT.pure rfl (PR.assI rfl) ?_
          refine WT.pure rfl (PR.assB rfl) ?_
          exact WT.nil ⟨b12, (.cons rfl (.cons rfl (.cons rfl (.cons rfl (.cons rfl (.cons rfl (.nil _))))))), st⟩
    clear st
    rintro b12 w11 st
    try dsimp only at st ⊢
    refine tn ?_
    refine Wc.seq ?_
    refine Wc.seq ?_
    refine Wc.region rfl ?_
    refine Wl.pure (PR.moveB rfl) ?_
    refine Wl.pure (PR.not_ rfl) ?_
    refine Wl.nil ?_
    refine tn ?_
    refine Wc.condNB (b := (repOk d_ e_ a b n c i_ x (pic (wrQ d_ e_ a b n c x)))) rfl (fun h12 => ?_) (fun h12 => ?_)
    · refine Wc.seq ?_
      refine Wc.region rfl ?_
      refine Wl.pure (PR.build (ps := []) (cs := layV (0) ((fun _ => 0))) tB_50 rfl rfl) ?_
      refine Wl.storeA (i := 1) (cs' := layV (0) ((fun _ => 0))) st tA_50 rfl rfl layV_len layV_one rfl (le_of_len layV_len (by omega)) (all_put layV_len) ?_
      clear st
      intro w13 st
      replace st : St [] w w13 [(b12, layV (rpZ (repOk d_ e_ a b n c i_ x (pic (wrQ d_ e_ a b n c x))) (y i_)) ((rpF (repOk d_ e_ a b n c i_ x (pic (wrQ d_ e_ a b n c x))) (rpC d_ e_ a b n c i_ x (pic (wrQ d_ e_ a b n c x))))), 50), (b8, layV (0) ((fun _ => 0)), 50), (b4, schV ((d_ : Nat) : Int) ((e_ : Nat) : Int) (a) (b), 27)] := st
      refine Wl.pure (PR.assI rfl) ?_
      refine Wl.pure (PR.assI rfl) ?_
      refine Wl.nil ?_
      refine tn ?_
      refine Wc.ret ?_
      refine tr ?_
      refine postL.many (rvs := [.cell 8 50, .tmp 9, .tmp 10]) rfl (.cell (us := layV (0) ((fun _ => 0))) tA_50 rfl layV_len (st.rdA (i := 1) (n := 65) rfl (all_sub layV_len)) (.tmp (v := .int .i64 (0)) rfl (.tmp (v := .int .i64 (8)) rfl .nil))) ?_
      refine RetV.of ?_ st.below
      exact rl_8 (by omega) (by assumption)
    · refine Wc.skip ?_
      refine tn ?_
      refine Wc.seq ?_
      refine Wc.region rfl ?_
      refine Wl.loadA (i := 0) st tA_50 rfl rfl (all_sub layV_len) layV_len ?_
      refine Wl.pure (PR.moveI rfl) ?_
      refine Wl.storeA (i := 1) (cs' := layV (rpZ (repOk d_ e_ a b n c i_ x (pic (wrQ d_ e_ a b n c x))) (y i_)) ((rpF (repOk d_ e_ a b n c i_ x (pic (wrQ d_ e_ a b n c x))) (rpC d_ e_ a b n c i_ x (pic (wrQ d_ e_ a b n c x)))))) st tA_50 rfl rfl layV_len layV_one rfl (le_of_len layV_len (by omega)) (all_put layV_len) ?_
      clear st
      intro w14 st
      replace st : St [] w w14 [(b12, layV (rpZ (repOk d_ e_ a b n c i_ x (pic (wrQ d_ e_ a b n c x))) (y i_)) ((rpF (repOk d_ e_ a b n c i_ x (pic (wrQ d_ e_ a b n c x))) (rpC d_ e_ a b n c i_ x (pic (wrQ d_ e_ a b n c x))))), 50), (b8, layV (rpZ (repOk d_ e_ a b n c i_ x (pic (wrQ d_ e_ a b n c x))) (y i_)) ((rpF (repOk d_ e_ a b n c i_ x (pic (wrQ d_ e_ a b n c x))) (rpC d_ e_ a b n c i_ x (pic (wrQ d_ e_ a b n c x))))), 50), (b4, schV ((d_ : Nat) : Int) ((e_ : Nat) : Int) (a) (b), 27)] := st
      refine Wl.pure (PR.assI rfl) ?_
      refine Wl.pure (PR.assI rfl) ?_
      refine Wl.nil ?_
      refine tn ?_
      refine Wc.ret ?_
      refine postL.many (rvs := [.cell 8 50, .tmp 9, .tmp 10]) rfl (.cell (us := layV (rpZ (repOk d_ e_ a b n c i_ x (pic (wrQ d_ e_ a b n c x))) (y i_)) ((rpF (repOk d_ e_ a b n c i_ x (pic (wrQ d_ e_ a b n c x))) (rpC d_ e_ a b n c i_ x (pic (wrQ d_ e_ a b n c x)))))) tA_50 rfl layV_len (st.rdA (i := 1) (n := 65) rfl (all_sub layV_len)) (.tmp (v := .int .i64 (((rpN (repOk d_ e_ a b n c i_ x (pic (wrQ d_ e_ a b n c x))) (pc (pic (wrQ d_ e_ a b n c x))) : Nat) : Int))) rfl (.tmp (v := .int .i64 (0)) rfl .nil))) ?_
      refine RetV.of ?_ st.below
      exact rl_0 (by omega) (by assumption)

set_option maxHeartbeats 400000 in
set_option maxRecDepth 4000 in
theorem c_spec_RepairLayer {s : Int} {p : Int} {a : Nat → Nat} {b : Nat → Nat} {x : Nat} {A : Option Addr} {n : Nat} {cp : Nat} {y : Nat → Int} {c : Nat → Nat → Nat} {z : Int} {w : World} (hs : -128 ≤ s ∧ s ≤ 127) (hp : -128 ≤ p ∧ p ≤ 127) (ha : ∀ k, a k < 256) (hb : ∀ k, b k < 256) (hx : x < 18446744073709551616) (hRL : RdS w A n (layS n y c)) (hg : ∀ i, i < n → -128 ≤ y i ∧ y i ≤ 127) (hc : ∀ i k, c i k < 256) (hn : n ≤ 1048576) :
    CE Tryz.prog 23 [.agg (schV (s) (p) (a) (b)).toArray, .int .u64 (((x : Nat) : Int)), .slice (A) (n) (cp), .int .i64 (z)] w (RetV w (.tuple #[.agg (layV (rpZ (rlB (shC s p a b n y c z) (repOk ((s).toNat) ((p).toNat) a b n c ((z).toNat) x (pic (wrQ ((s).toNat) ((p).toNat) a b n c x)))) (y (z).toNat)) ((rpF (rlB (shC s p a b n y c z) (repOk ((s).toNat) ((p).toNat) a b n c ((z).toNat) x (pic (wrQ ((s).toNat) ((p).toNat) a b n c x)))) (rpC ((s).toNat) ((p).toNat) a b n c ((z).toNat) x (pic (wrQ ((s).toNat) ((p).toNat) a b n c x)))))).toArray, .int .i64 (((rpN (rlB (shC s p a b n y c z) (repOk ((s).toNat) ((p).toNat) a b n c ((z).toNat) x (pic (wrQ ((s).toNat) ((p).toNat) a b n c x)))) (pc (pic (wrQ ((s).toNat) ((p).toNat) a b n c x))) : Nat) : Int)), .int .i64 (((rlC (shC s p a b n y c z) (repOk ((s).toNat) ((p).toNat) a b n c ((z).toNat) x (pic (wrQ ((s).toNat) ((p).toNat) a b n c x))) : Nat) : Int))])) := by
  refine CE.enter 35 [(0, .agg (schV (s) (p) (a) (b)).toArray), (1, .int .u64 (((x : Nat) : Int))), (2, .slice (A) (n) (cp)), (3, .int .i64 (z))] en_23 Tryz.func23 rfl rfl (Nat.le_of_ble_eq_true rfl) rfl ?_
  have st := St.start w
  refine Wc.seq ?_
  refine Wc.region rfl ?_
  refine Wl.boxA st rfl ?_
  clear st
  intro b4 w1 st
  refine Wl.alloc st tZ_50 rfl ?_
  clear st
  intro b8 w2 st
  refine Wl.pure (PR.assI rfl) ?_
  refine Wl.pure (PR.assI rfl) ?_
  refine Wl.nil ?_
  refine tn ?_
  refine Wc.seq ?_
  refine Wc.seq ?_
  refine Wc.region rfl ?_
  refine Wl.pure (PR.moveL rfl) ?_
  refine Wl.pure (PR.moveI rfl) ?_
  refine Wl.callV (c_spec_l07Share (bk := b4) (o := 0) (s := s) (p := p) (a := a) (b := b) (A := A) (n := n) (cp := cp) (y := y) (c := c) (z := z) (st.rdA (i := 1) rfl (all_sub schV_len)) (by first | assumption | omega) (by first | assumption | omega) ha hb (hRL.st st) hg hc (by first | assumption | omega)) rfl ?_
  intro w3 hbel
  replace st := st.call hbel
  clear hbel
  refine Wl.pure (PR.assI rfl) ?_
  refine Wl.nil ?_
  refine tn ?_
  refine Wc.seq ?_
  refine Wc.region rfl ?_
  refine Wl.pure (PR.moveI rfl) ?_
  refine Wl.pure (PR.neq (a := ((shC s p a b n y c z : Nat) : Int)) (b := 0) rfl rfl) ?_
  refine Wl.nil ?_
  refine tn ?_
  refine Wc.condN (p := ((shC s p a b n y c z : Nat) : Int) = 0) rfl (fun h4 => ?_) (fun h4 => ?_)
  · refine Wc.seq ?_
    refine Wc.region rfl ?_
    refine Wl.pure (PR.build (ps := []) (cs := layV (0) ((fun _ => 0))) tB_50 rfl rfl) ?_
    refine Wl.pure (PR.moveI rfl) ?_
    refine Wl.storeA (i := 0) (cs' := layV (0) ((fun _ => 0))) st tA_50 rfl rfl layV_len layV_one rfl (le_of_len layV_len (by omega)) (all_put layV_len) ?_
    clear st
    intro w5 st
    replace st : St [] w w5 [(b8, layV (0) ((fun _ => 0)), 50), (b4, schV (s) (p) (a) (b), 27)] := st
    refine Wl.pure (PR.assI rfl) ?_
    refine Wl.pure (PR.assI rfl) ?_
    refine Wl.nil ?_
    refine tn ?_
    refine Wc.ret ?_
    refine tr ?_
    refine postL.many (rvs := [.cell 8 50, .tmp 9, .tmp 10]) rfl (.cell (us := layV (0) ((fun _ => 0))) tA_50 rfl layV_len (st.rdA (i := 0) (n := 65) rfl (all_sub layV_len)) (.tmp (v := .int .i64 (0)) rfl (.tmp (v := .int .i64 (((shC s p a b n y c z : Nat) : Int))) rfl .nil))) ?_
    refine RetV.of ?_ st.below
    exact rl_c (by omega) (by omega)
  · refine Wc.skip ?_
    refine tn ?_
    refine Wc.seq ?_
    obtain ⟨hb9, hzi⟩ := shC_spec (s := s) (p := p) (a := a) (b := b) (n := n) (g := y) (c := c) (i := z) (by omega)
    have hcode0 : bothC s p a b n y c = 0 := hb9
    obtain ⟨hok, hlay, hns⟩ := bothC_spec hcode0
    have hall := bothC_all hcode0
    obtain ⟨hs1, hp1, _⟩ := schOk_spec hok
    obtain ⟨d_, rfl⟩ : ∃ d_ : Nat, s = ((d_ : Nat) : Int) := ⟨s.toNat, by omega⟩
    obtain ⟨e_, rfl⟩ : ∃ e_ : Nat, p = ((e_ : Nat) : Int) := ⟨p.toNat, by omega⟩
    obtain ⟨_, hza, hzb⟩ := sch_zero hok
    have hns9 : n = d_ := by omega
    have hy0 : y 0 = ((e_ : Nat) : Int) := hall 0 (by omega)
    have hn6 : 1 ≤ n ∧ n ≤ 6 := by omega
    obtain ⟨i_, rfl⟩ : ∃ i_ : Nat, z = ((i_ : Nat) : Int) := ⟨z.toNat, by omega⟩
    have hi0 : i_ < n := by omega
    refine Wc.region rfl ?_
    refine Wl.pure (PR.moveI rfl) ?_
    refine Wl.pure (PR.moveL rfl) ?_
    refine Wl.pure (PR.moveI rfl) ?_
    refine Wl.callV (c_spec_l07Repaired (bk := b4) (o := 0) (s := d_) (p := e_) (a := a) (b := b) (A := A) (n := n) (cp := cp) (y := y) (c := c) (i := i_) (x := x) (st.rdA (i := 1) rfl (all_sub schV_len)) (by first | assumption | omega) ha hb (by first | assumption | omega) (hRL.st st) hg hc (by first | assumption | omega) hx (by first | assumption | omega) (by first | assumption | omega)) rfl ?_
    intro w6 hbel
    replace st := st.call hbel
    clear hbel
    refine Wl.pure (PR.moveV (.tuple #[.agg (layV (rpZ (repOk d_ e_ a b n c i_ x (pic (wrQ d_ e_ a b n c x))) (y i_)) ((rpF (repOk d_ e_ a b n c i_ x (pic (wrQ d_ e_ a b n c x))) (rpC d_ e_ a b n c i_ x (pic (wrQ d_ e_ a b n c x)))))).toArray, .int .i64 (((rpN (repOk d_ e_ a b n c i_ x (pic (wrQ d_ e_ a b n c x))) (pc (pic (wrQ d_ e_ a b n c x))) : Nat) : Int)), .bool ((repOk d_ e_ a b n c i_ x (pic (wrQ d_ e_ a b n c x))))]) rfl) ?_
    refine Wl.pure (PR.extr (i := 0) (vs := [.agg (layV (rpZ (repOk d_ e_ a b n c i_ x (pic (wrQ d_ e_ a b n c x))) (y i_)) ((rpF (repOk d_ e_ a b n c i_ x (pic (wrQ d_ e_ a b n c x))) (rpC d_ e_ a b n c i_ x (pic (wrQ d_ e_ a b n c x)))))).toArray, .int .i64 (((rpN (repOk d_ e_ a b n c i_ x (pic (wrQ d_ e_ a b n c x))) (pc (pic (wrQ d_ e_ a b n c x))) : Nat) : Int)), .bool ((repOk d_ e_ a b n c i_ x (pic (wrQ d_ e_ a b n c x))))]) rfl rfl) ?_
    refine Wl.pure (PR.extr (i := 1) (vs := [.agg (layV (rpZ (repOk d_ e_ a b n c i_ x (pic (wrQ d_ e_ a b n c x))) (y i_)) ((rpF (repOk d_ e_ a b n c i_ x (pic (wrQ d_ e_ a b n c x))) (rpC d_ e_ a b n c i_ x (pic (wrQ d_ e_ a b n c x)))))).toArray, .int .i64 (((rpN (repOk d_ e_ a b n c i_ x (pic (wrQ d_ e_ a b n c x))) (pc (pic (wrQ d_ e_ a b n c x))) : Nat) : Int)), .bool ((repOk d_ e_ a b n c i_ x (pic (wrQ d_ e_ a b n c x))))]) rfl rfl) ?_
    refine Wl.pure (PR.extr (i := 2) (vs := [.agg (layV (rpZ (repOk d_ e_ a b n c i_ x (pic (wrQ d_ e_ a b n c x))) (y i_)) ((rpF (repOk d_ e_ a b n c i_ x (pic (wrQ d_ e_ a b n c x))) (rpC d_ e_ a b n c i_ x (pic (wrQ d_ e_ a b n c x)))))).toArray, .int .i64 (((rpN (repOk d_ e_ a b n c i_ x (pic (wrQ d_ e_ a b n c x))) (pc (pic (wrQ d_ e_ a b n c x))) : Nat) : Int)), .bool ((repOk d_ e_ a b n c i_ x (pic (wrQ d_ e_ a b n c x))))]) rfl rfl) ?_
    refine Wl.alloc st tZ_50 rfl ?_
    clear st
    intro b12 w7 st
    refine Wl.storeA (i := 0) (cs' := layV (rpZ (repOk d_ e_ a b n c i_ x (pic (wrQ d_ e_ a b n c x))) (y i_)) ((rpF (repOk d_ e_ a b n c i_ x (pic (wrQ d_ e_ a b n c x))) (rpC d_ e_ a b n c i_ x (pic (wrQ d_ e_ a b n c x)))))) st tA_50 rfl rfl layV_len layV_one rfl (le_of_len layV_len (by omega)) (all_put layV_len) ?_
    clear st
    intro w8 st
    replace st : St [] w w8 [(b12, layV (rpZ (repOk d_ e_ a b n c i_ x (pic (wrQ d_ e_ a b n c x))) (y i_)) ((rpF (repOk d_ e_ a b n c i_ x (pic (wrQ d_ e_ a b n c x))) (rpC d_ e_ a b n c i_ x (pic (wrQ d_ e_ a b n c x))))), 50), (b8, layV (0) ((fun _ => 0)), 50), (b4, schV ((d_ : Nat) : Int) ((e_ : Nat) : Int) (a) (b), 27)] := st
    refine Wl.pure (PR.assI rfl) ?_
    refine Wl.pure (PR.assB rfl) ?_
    refine Wl.nil ?_
    refine tn ?_
    refine Wc.seq ?_
    refine Wc.seq ?_
    refine Wc.region rfl ?_
    refine Wl.pure (PR.moveB rfl) ?_
    refine Wl.pure (PR.not_ rfl) ?_
    refine Wl.nil ?_
    refine tn ?_
    refine Wc.condNB (b := (repOk d_ e_ a b n c i_ x (pic (wrQ d_ e_ a b n c x)))) rfl (fun h9 => ?_) (fun h9 => ?_)
    · refine Wc.seq ?_
      refine Wc.region rfl ?_
      refine Wl.pure (PR.build (ps := []) (cs := layV (0) ((fun _ => 0))) tB_50 rfl rfl) ?_
      refine Wl.storeA (i := 1) (cs' := layV (0) ((fun _ => 0))) st tA_50 rfl rfl layV_len layV_one rfl (le_of_len layV_len (by omega)) (all_put layV_len) ?_
      clear st
      intro w10 st
      replace st : St [] w w10 [(b12, layV (rpZ (repOk d_ e_ a b n c i_ x (pic (wrQ d_ e_ a b n c x))) (y i_)) ((rpF (repOk d_ e_ a b n c i_ x (pic (wrQ d_ e_ a b n c x))) (rpC d_ e_ a b n c i_ x (pic (wrQ d_ e_ a b n c x))))), 50), (b8, layV (0) ((fun _ => 0)), 50), (b4, schV ((d_ : Nat) : Int) ((e_ : Nat) : Int) (a) (b), 27)] := st
      refine Wl.pure (PR.assI rfl) ?_
      refine Wl.pure (PR.assI rfl) ?_
      refine Wl.nil ?_
      refine tn ?_
      refine Wc.ret ?_
      refine tr ?_
      refine postL.many (rvs := [.cell 8 50, .tmp 9, .tmp 10]) rfl (.cell (us := layV (0) ((fun _ => 0))) tA_50 rfl layV_len (st.rdA (i := 1) (n := 65) rfl (all_sub layV_len)) (.tmp (v := .int .i64 (0)) rfl (.tmp (v := .int .i64 (8)) rfl .nil))) ?_
      refine RetV.of ?_ st.below
      exact rl_8 (by omega) (by assumption)
    · refine Wc.skip ?_
      refine tn ?_
      refine Wc.seq ?_
      refine Wc.region rfl ?_
      refine Wl.loadA (i := 0) st tA_50 rfl rfl (all_sub layV_len) layV_len ?_
      refine Wl.pure (PR.moveI rfl) ?_
      refine Wl.storeA (i := 1) (cs' := layV (rpZ (repOk d_ e_ a b n c i_ x (pic (wrQ d_ e_ a b n c x))) (y i_)) ((rpF (repOk d_ e_ a b n c i_ x (pic (wrQ d_ e_ a b n c x))) (rpC d_ e_ a b n c i_ x (pic (wrQ d_ e_ a b n c x)))))) st tA_50 rfl rfl layV_len layV_one rfl (le_of_len layV_len (by omega)) (all_put layV_len) ?_
      clear st
      intro w11 st
      replace st : St [] w w11 [(b12, layV (rpZ (repOk d_ e_ a b n c i_ x (pic (wrQ d_ e_ a b n c x))) (y i_)) ((rpF (repOk d_ e_ a b n c i_ x (pic (wrQ d_ e_ a b n c x))) (rpC d_ e_ a b n c i_ x (pic (wrQ d_ e_ a b n c x))))), 50), (b8, layV (rpZ (repOk d_ e_ a b n c i_ x (pic (wrQ d_ e_ a b n c x))) (y i_)) ((rpF (repOk d_ e_ a b n c i_ x (pic (wrQ d_ e_ a b n c x))) (rpC d_ e_ a b n c i_ x (pic (wrQ d_ e_ a b n c x))))), 50), (b4, schV ((d_ : Nat) : Int) ((e_ : Nat) : Int) (a) (b), 27)] := st
      refine Wl.pure (PR.assI rfl) ?_
      refine Wl.pure (PR.assI rfl) ?_
      refine Wl.nil ?_
      refine tn ?_
      refine Wc.ret ?_
      refine postL.many (rvs := [.cell 8 50, .tmp 9, .tmp 10]) rfl (.cell (us := layV (rpZ (repOk d_ e_ a b n c i_ x (pic (wrQ d_ e_ a b n c x))) (y i_)) ((rpF (repOk d_ e_ a b n c i_ x (pic (wrQ d_ e_ a b n c x))) (rpC d_ e_ a b n c i_ x (pic (wrQ d_ e_ a b n c x)))))) tA_50 rfl layV_len (st.rdA (i := 1) (n := 65) rfl (all_sub layV_len)) (.tmp (v := .int .i64 (((rpN (repOk d_ e_ a b n c i_ x (pic (wrQ d_ e_ a b n c x))) (pc (pic (wrQ d_ e_ a b n c x))) : Nat) : Int))) rfl (.tmp (v := .int .i64 (0)) rfl .nil))) ?_
      refine RetV.of ?_ st.below
      exact rl_0 (by omega) (by assumption)

end Go.Proofs.YtabekcodjcbolaaGreat
