/-
  Contracts of functions, printed by a program of ours.
-/
import Derived.Test.YtabekcodjcbolaaGreatCG2
import Derived.Test.YtabekcodjcbolaaGreatWrong2
namespace Go.Proofs.YtabekcodjcbolaaGreat
open Go.RowKit
set_option linter.unusedVariables false
set_option linter.unusedSimpArgs false

set_option maxHeartbeats 400000 in
set_option maxRecDepth 4000 in
theorem c_impl_Scheme_possible {s : Nat} {p : Nat} {a : Nat → Nat} {b : Nat → Nat} {A : Option Addr} {n : Nat} {cp : Nat} {y : Nat → Int} {c : Nat → Nat → Nat} {i : Nat} {q : Bool} {k : Nat} {w : World} (hp8 : 1 ≤ p ∧ p ≤ 8) (ha : ∀ k, a k < 256) (hb : ∀ k, b k < 256) (hs6 : 1 ≤ s ∧ s ≤ 6) (hza : ∀ k, s ≤ k → k < 6 → a k = 0) (hzb : ∀ k, s ≤ k → k < 6 → b k = 0) (hRL : RdS w A n (layS n y c)) (hg : ∀ i, i < n → -128 ≤ y i ∧ y i ≤ 127) (hc : ∀ i k, c i k < 256) (hn6 : 1 ≤ n ∧ n ≤ 6) (hk : k < 64) (hns : n = s) (hi0 : i < n) :
    CE Tryz.prog 38 [.agg (schV ((s : Nat) : Int) ((p : Nat) : Int) (a) (b)).toArray, .slice (A) (n) (cp), .int .i64 (((i : Nat) : Int)), .bool (q), .int .i64 (((k : Nat) : Int))] w (RetXG w [] 5 1 ((flN (possQ s p a b n c i q k) (1 <<< p))) (arrU .u8 (flN (possQ s p a b n c i q k) (1 <<< p)) (flA (possQ s p a b n c i q k) (1 <<< p))) (fun b_ c_ => .slice (some ⟨b_, 0, none⟩) ((flN (possQ s p a b n c i q k) (1 <<< p))) (c_)) []) := by
  refine CE.enter 66 [(0, .agg (schV ((s : Nat) : Int) ((p : Nat) : Int) (a) (b)).toArray), (1, .slice (A) (n) (cp)), (2, .int .i64 (((i : Nat) : Int))), (3, .bool (q)), (4, .int .i64 (((k : Nat) : Int)))] en_38 Tryz.func38 rfl rfl (Nat.le_of_ble_eq_true rfl) rfl ?_
  have st := St.start w
  refine Wc.seq ?_
  refine Wc.region rfl ?_
  refine Wl.boxA st rfl ?_
  clear st
  intro b5 w1 st
  refine Wl.pure (PR.assL rfl) ?_
  refine Wl.nil ?_
  refine tn ?_
  refine Wc.seq ?_
  refine Wc.tree (γ := Nat × Nat × Nat × List Value) (w0 := w) (X := []) (Ks := [b5]) (S := fun i => i == 2 || i == 4 || i == 5) (fun g => [(1, .slice (A) (n) (cp)), (2, .int .i64 (((i : Nat) : Int))), (4, .int .i64 (((k : Nat) : Int))), (5, .pointer (some ⟨b5, 0, none⟩)), (10, .slice (none) (0) (0)), (11, .slice (some ⟨g.1, 0, none⟩) (p) (g.2.2.1)), (12, .slice (some ⟨g.2.1, 0, none⟩) (0) (0))]) (fun g w_ => St [] w w_ [(g.1, arrU .u8 p (srtF p (colR (bif (q) then b else a) ((((1 <<< (((s : Nat) : Int)).toNat) % 256) + 255) % 256) 6)) ++ g.2.2.2, 5), (g.2.1, arrU .u8 0 (fun _ => 0) ++ [], 5), (b5, schV ((s : Nat) : Int) ((p : Nat) : Int) (a) (b), 27)] ∧ (p ≤ g.2.2.1) ∧ (g.2.2.2.length = (g.2.2.1 - p) * 1)) (.st 3 0 (.st 0 3 (.st 1 3 (.alt 5 (.st 2 2 (.st 4 2 (.st 6 0 (.st 7 0 PT.nil)))) (.st 2 2 (.alt 5 (.st 4 2 (.st 6 0 (.st 7 0 PT.nil))) (.st 4 2 (.st 6 0 (.st 5 2 (.st 7 0 PT.nil)))))))))) hmix (by kernel_rfl) (by kernel_rfl) rfl rfl ?_ ?_
  · intro w2 hbel
    replace st := st.call hbel
    clear hbel
    refine WT.pure rfl (PR.moveB rfl) ?_
    refine WT.loadA (j := 0) rfl (by simp) st tA_27 rfl rfl (all_sub schV_len) schV_len ?_
    refine WT.loadA (j := 0) rfl (by simp) st tA_27 rfl rfl (all_sub schV_len) schV_len ?_
    refine WT.alt ?_ ?_
    · have st0 := st
      refine WT.s rfl rfl ?_
      refine Wl.buildSlice (ps := []) (cs := arrU .u8 0 (fun _ => 0) ++ []) st tS_22 tZ_5 rfl rfl rfl ?_
      clear st
      intro b22 w3 st
      refine Wl.nil ⟨rfl, RK.of st0 st (ksC (i := 0) (j := 1) rfl rfl rfl ksN), ?_⟩
      clear st0
      have st0 := st
      refine WT.s rfl rfl ?_
      refine Wl.callV (c_impl_Scheme_all (s := ((s : Nat) : Int)) (p := ((p : Nat) : Int)) (a := a) (b := b) (by first | assumption | omega) ha hb) rfl ?_
      intro w4 hbel
      replace st := st.call hbel
      clear hbel
      refine Wl.nil ⟨rfl, RK.of st0 st (ksC (i := 1) (j := 1) rfl rfl rfl ksN), ?_⟩
      clear st0
      have st0 := st
      refine WT.s rfl rfl ?_
      refine Wl.callXG [] st (c_sortedColumnsQ (s := s) (p := p) (a := a) (b := b) (x := ((((1 <<< (((s : Nat) : Int)).toNat) % 256) + 255) % 256)) (q := (q)) (by first | assumption | omega) ha hb (Nat.mod_lt _ (by decide))) rfl rfl ?_
      clear st
      intro b21 c21 sp21 w5 hc21 hs21 st
      replace st : St [] w w5 [(b21, arrU .u8 p (srtF p (colR (bif (q) then b else a) ((((1 <<< (((s : Nat) : Int)).toNat) % 256) + 255) % 256) 6)) ++ sp21, 5), (b22, arrU .u8 0 (fun _ => 0) ++ [], 5), (b5, schV ((s : Nat) : Int) ((p : Nat) : Int) (a) (b), 27)] := st
      refine Wl.nil ⟨rfl, RK.of st0 st (ksC (i := 1) (j := 2) rfl rfl rfl ksN), ?_⟩
      clear st0
      refine WT.pure rfl (PR.assL rfl) ?_
      refine WT.pure rfl (PR.assL rfl) ?_
      exact WT.nil ⟨(b21, b22, c21, sp21), (.cons rfl (.cons rfl (.cons rfl (.cons rfl (.cons rfl (.cons rfl (.cons rfl (.nil _)))))))), st, hc21, hs21⟩
    · have st0 := st
      refine WT.s rfl rfl ?_
      refine Wl.callV (c_impl_Scheme_all (s := ((s : Nat) : Int)) (p := ((p : Nat) : Int)) (a := a) (b := b) (by first | assumption | omega) ha hb) rfl ?_
      intro w3 hbel
      replace st := st.call hbel
      clear hbel
      refine Wl.nil ⟨rfl, RK.of st0 st (ksC (i := 0) (j := 0) rfl rfl rfl ksN), ?_⟩
      clear st0
      refine WT.alt ?_ ?_
      · have st0 := st
        refine WT.s rfl rfl ?_
        refine Wl.buildSlice (ps := []) (cs := arrU .u8 0 (fun _ => 0) ++ []) st tS_22 tZ_5 rfl rfl rfl ?_
        clear st
        intro b22 w4 st
        refine Wl.nil ⟨rfl, RK.of st0 st (ksC (i := 0) (j := 1) rfl rfl rfl ksN), ?_⟩
        clear st0
        have st0 := st
        refine WT.s rfl rfl ?_
        refine Wl.callXG [] st (c_sortedColumnsQ (s := s) (p := p) (a := a) (b := b) (x := ((((1 <<< (((s : Nat) : Int)).toNat) % 256) + 255) % 256)) (q := (q)) (by first | assumption | omega) ha hb (Nat.mod_lt _ (by decide))) rfl rfl ?_
        clear st
        intro b21 c21 sp21 w5 hc21 hs21 st
        replace st : St [] w w5 [(b21, arrU .u8 p (srtF p (colR (bif (q) then b else a) ((((1 <<< (((s : Nat) : Int)).toNat) % 256) + 255) % 256) 6)) ++ sp21, 5), (b22, arrU .u8 0 (fun _ => 0) ++ [], 5), (b5, schV ((s : Nat) : Int) ((p : Nat) : Int) (a) (b), 27)] := st
        refine Wl.nil ⟨rfl, RK.of st0 st (ksC (i := 1) (j := 2) rfl rfl rfl ksN), ?_⟩
        clear st0
        refine WT.pure rfl (PR.assL rfl) ?_
        refine WT.pure rfl (PR.assL rfl) ?_
        exact WT.nil ⟨(b21, b22, c21, sp21), (.cons rfl (.cons rfl (.cons rfl (.cons rfl (.cons rfl (.cons rfl (.cons rfl (.nil _)))))))), st, hc21, hs21⟩
      · have st0 := st
        refine WT.s rfl rfl ?_
        refine Wl.callXG [] st (c_sortedColumnsQ (s := s) (p := p) (a := a) (b := b) (x := ((((1 <<< (((s : Nat) : Int)).toNat) % 256) + 255) % 256)) (q := (q)) (by first | assumption | omega) ha hb (Nat.mod_lt _ (by decide))) rfl rfl ?_
        clear st
        intro b21 c21 sp21 w4 hc21 hs21 st
        replace st : St [] w w4 [(b21, arrU .u8 p (srtF p (colR (bif (q) then b else a) ((((1 <<< (((s : Nat) : Int)).toNat) % 256) + 255) % 256) 6)) ++ sp21, 5), (b5, schV ((s : Nat) : Int) ((p : Nat) : Int) (a) (b), 27)] := st
        refine Wl.nil ⟨rfl, RK.of st0 st (ksC (i := 0) (j := 1) rfl rfl rfl ksN), ?_⟩
        clear st0
        refine WT.pure rfl (PR.assL rfl) ?_
        have st0 := st
        refine WT.s rfl rfl ?_
        refine Wl.buildSlice (ps := []) (cs := arrU .u8 0 (fun _ => 0) ++ []) st tS_22 tZ_5 rfl rfl rfl ?_
        clear st
        intro b22 w5 st
        refine Wl.nil ⟨rfl, RK.of st0 st (ksC (i := 1) (j := 2) rfl rfl rfl ksN), ?_⟩
        clear st0
        refine WT.pure rfl (PR.assL rfl) ?_
        replace st : St [] w w5 [(b21, arrU .u8 p (srtF p (colR (bif (q) then b else a) ((((1 <<< (((s : Nat) : Int)).toNat) % 256) + 255) % 256) 6)) ++ sp21, 5), (b22, arrU .u8 0 (fun _ => 0) ++ [], 5), (b5, schV ((s : Nat) : Int) ((p : Nat) : Int) (a) (b), 27)] := st.pick [1, 0, 2] (by decide) rfl
        exact WT.nil ⟨(b21, b22, c21, sp21), (.cons rfl (.cons rfl (.cons rfl (.cons rfl (.cons rfl (.cons rfl (.cons rfl (.nil _)))))))), st, hc21, hs21⟩
  clear st
  rintro ⟨b21, b22, c21, sp21⟩ w6 ⟨st, hc21, hs21⟩
  try dsimp only at st hc21 hs21 ⊢
  refine tn ?_
  refine Wc.seq ?_
  refine Wc.region rfl ?_
  refine Wl.buildSlice (ps := []) (cs := arrU .u8 0 (fun _ => 0) ++ []) st tS_22 tZ_5 rfl rfl rfl ?_
  clear st
  intro b23 w7 st
  refine Wl.pure (PR.assL rfl) ?_
  refine Wl.nil ?_
  refine tn ?_
  refine Wc.seq ?_
  refine Wc.seq ?_
  refine Wc.region rfl ?_
  refine Wl.pure (PR.moveL rfl) ?_
  refine Wl.pure (PR.lenL tS_32 rfl) ?_
  refine Wl.pure (PR.moveI rfl) ?_
  refine Wl.nil ?_
  refine tn ?_
  refine Wc.block ?_
  refine Wc.loopF (γ := Nat × (Nat → Nat) × Nat × Nat × List Value) (fun g => [(2, .int .i64 (((i : Nat) : Int))), (4, .int .i64 (((k : Nat) : Int))), (5, .pointer (some ⟨b5, 0, none⟩)), (10, .slice (none) (0) (0)), (11, .slice (some ⟨b21, 0, none⟩) (p) (c21)), (12, .slice (some ⟨b22, 0, none⟩) (0) (0)), (13, .slice (some ⟨g.2.2.1, 0, none⟩) (g.1) (g.2.2.2.1)), (24, .slice (A) (n) (cp)), (25, .int .i64 (((n : Nat) : Int))), (26, .int .i64 (((g.1 : Nat) : Int)))]) (fun g w_ => St [] w w_ [(g.2.2.1, arrU .u8 g.1 g.2.1 ++ g.2.2.2.2, 5), (b21, arrU .u8 p (srtF p (colR (bif (q) then b else a) ((((1 <<< (((s : Nat) : Int)).toNat) % 256) + 255) % 256) 6)) ++ sp21, 5), (b22, arrU .u8 0 (fun _ => 0) ++ [], 5), (b5, schV ((s : Nat) : Int) ((p : Nat) : Int) (a) (b), 27)] ∧ (g.1 ≤ n) ∧ (∀ j, j < g.1 → g.2.1 j = c j k) ∧ (g.1 ≤ g.2.2.2.1) ∧ (g.2.2.2.2.length = (g.2.2.2.1 - g.1) * 1)) (fun g => n - g.1) ?_ ?_
  · exact ⟨(0, (fun _ => 0), b23, 0, []), (.cons rfl (.cons rfl (.cons rfl (.cons rfl (.cons rfl (.cons rfl (.cons rfl (.cons rfl (.cons rfl (.cons rfl (.nil _))))))))))), st, (by first | omega | (dsimp only; omega)), (fun j hj => by omega), (Nat.le_refl _), rfl⟩
  clear st
  rintro ⟨r, u, b_r, c_r, sp_r⟩ w8 ⟨st, hr, hu, hc_r, hs_r⟩
  try dsimp only at st hr hu hc_r hs_r ⊢
  refine Wc.seq ?_
  refine Wc.region rfl ?_
  refine Wl.pure (PR.lss (a := ((r : Nat) : Int)) (b := ((n : Nat) : Int)) rfl rfl) ?_
  refine Wl.nil ?_
  refine tn ?_
  refine Wc.seq ?_
  refine Wc.condD (p := ((r : Nat) : Int) < ((n : Nat) : Int)) rfl (fun h9 => ?_) (fun h9 => ?_)
  · refine Wc.skip ?_
    refine tn ?_
    refine Wc.seq ?_
    refine Wc.block ?_
    refine Wc.seq ?_
    refine Wc.region rfl ?_
    obtain ⟨bs10, os11, rfl, hs12⟩ := hRL (by omega)
    have := hg (r) (by omega)
    refine Wl.pure (PR.idxAddrS (i := r) tS_32 rfl rfl (by omega)) ?_
    refine Wl.loadAC (vs := layV (y r) ((c r))) tA_50 rfl layV_len ((hs12.st st).sub (recV_sub (n := n) (i := r) (layS_row _ _) (by omega)) rfl) ?_
    refine Wl.alloc st tZ_50 rfl ?_
    clear st
    intro b15 w13 st
    refine Wl.storeA (i := 0) (cs' := layV (y r) ((c r))) st tA_50 rfl rfl layV_len layV_one rfl (le_of_len layV_len (by omega)) (all_put layV_len) ?_
    clear st
    intro w14 st
    replace st : St [] w w14 [(b15, layV (y r) ((c r)), 50), (b_r, arrU .u8 r u ++ sp_r, 5), (b21, arrU .u8 p (srtF p (colR (bif (q) then b else a) ((((1 <<< (((s : Nat) : Int)).toNat) % 256) + 255) % 256) 6)) ++ sp21, 5), (b22, arrU .u8 0 (fun _ => 0) ++ [], 5), (b5, schV ((s : Nat) : Int) ((p : Nat) : Int) (a) (b), 27)] := st
    refine Wl.nil ?_
    refine tn ?_
    refine Wc.region rfl ?_
    refine Wl.pure (PR.moveL rfl) ?_
    refine Wl.pure (PR.moveI rfl) ?_
    refine Wl.pure (PR.fieldAddr tF_50_1 rfl) ?_
    refine Wl.pure (PR.idxAddrA1 (i := k) tE_48 rfl rfl (by omega)) ?_
    refine Wl.load (i := 0) st tA_5 rfl rfl (layV_get_c (by omega)) ?_
    refine Wl.buildSlice (ps := [(0, .int .u8 ((((c r) (k) : Nat) : Int)))]) (cs := [.int .u8 ((((c r) (k) : Nat) : Int))]) st tS_22 tZ_5 rfl rfl rfl ?_
    clear st
    intro b35 w15 st
    refine Wl.append (n := r) (c := c_r) (m := 1) (cs := arrU .u8 r u) (sp := sp_r) (vs := [.int .u8 ((((c r) (k) : Nat) : Int))]) (i := 2) st tS_22 tZ_5 rfl rfl rfl (by rw [(arrU_len _), Nat.mul_one]) hs_r hc_r rfl (Src.ofRdA (tyS_und tS_22) (st.rdA (i := 0) (n := 1) rfl rfl) rfl (by simp [Value.oneCell'])) (by omega) (by omega) ?_
    clear st
    intro b36 c36 sp36 w16 hc36 hs36 st
    rw [arrU_snoc] at st
    replace st : St [] w w16 [(b36, arrU .u8 (r + 1) (upd u r ((c r) (k))) ++ sp36, 5), (b35, [.int .u8 ((((c r) (k) : Nat) : Int))], 5), (b15, layV (y r) ((c r)), 50), (b21, arrU .u8 p (srtF p (colR (bif (q) then b else a) ((((1 <<< (((s : Nat) : Int)).toNat) % 256) + 255) % 256) 6)) ++ sp21, 5), (b22, arrU .u8 0 (fun _ => 0) ++ [], 5), (b5, schV ((s : Nat) : Int) ((p : Nat) : Int) (a) (b), 27)] := st
    refine Wl.pure (PR.assL rfl) ?_
    refine Wl.nil ?_
    refine bn ?_
    refine tn ?_
    refine Wc.region rfl ?_
    refine Wl.pure (PR.add (a := ((r : Nat) : Int)) (b := 1) rfl rfl (by simp only [fitI]; omega)) ?_
    refine Wl.pure (PR.moveI rfl) ?_
    refine Wl.nil ?_
    refine tn ?_
    replace st : St [] w w16 [(b36, arrU .u8 (r + 1) (upd u r ((c r) (k))) ++ sp36, 5), (b21, arrU .u8 p (srtF p (colR (bif (q) then b else a) ((((1 <<< (((s : Nat) : Int)).toNat) % 256) + 255) % 256) 6)) ++ sp21, 5), (b22, arrU .u8 0 (fun _ => 0) ++ [], 5), (b5, schV ((s : Nat) : Int) ((p : Nat) : Int) (a) (b), 27)] := st.pick [0, 3, 4, 5] (by decide) rfl
    exact ⟨(r + 1, (upd u r ((c r) (k))), b36, c36, sp36), (.cons rfl (.cons rfl (.cons rfl (.cons rfl (.cons rfl (.cons rfl (.cons rfl (.cons rfl (.cons rfl (.cons rfl (.nil _))))))))))), ⟨st, (by first | omega | (dsimp only; omega)), (upd_snoc hu rfl), hc36, hs36⟩, (by first | omega | (dsimp only; omega))⟩
  · refine Wc.exit ?_
    refine tx ?_
    refine tx ?_
    refine bh ?_
    refine tn ?_
    refine Wc.seq ?_
    refine Wc.seq ?_
    obtain rfl : n = r := by omega
    rw [arrU_congr (d := (fun r => c r k)) (fun j hj => hu j hj)] at st
    have h256 := shl_256 (k := p) (by omega)
    refine Wc.region rfl ?_
    refine Wl.pure (PR.fieldAddr tF_27_1 rfl) ?_
    refine Wl.load (i := 3) st tA_24 rfl rfl (rfl) ?_
    refine Wl.pure (PR.shlI (a := 1) (n := p) rfl rfl (by omega) (sh8 (by omega))) ?_
    refine Wl.pure (PR.moveI rfl) ?_
    refine Wl.nil ?_
    refine tn ?_
    refine Wc.block ?_
    refine Wc.loopF (γ := Nat × (Nat → Nat) × Nat × (Nat → Nat) × Nat × Nat × List Value) (fun g => [(2, .int .i64 (((i : Nat) : Int))), (5, .pointer (some ⟨b5, 0, none⟩)), (10, .slice (none) (0) (0)), (11, .slice (some ⟨b21, 0, none⟩) (p) (c21)), (12, .slice (some ⟨g.2.2.2.2.1, 0, none⟩) (g.2.2.1) (g.2.2.2.2.2.1)), (13, .slice (some ⟨b_r, 0, none⟩) (n) (c_r)), (40, .int .i64 ((((1 <<< p) : Nat) : Int))), (41, .int .i64 (((g.1 : Nat) : Int)))]) (fun g w_ => St [] w w_ [(b_r, arrU .u8 n g.2.1 ++ sp_r, 5), (b21, arrU .u8 p (srtF p (colR (bif (q) then b else a) ((((1 <<< (((s : Nat) : Int)).toNat) % 256) + 255) % 256) 6)) ++ sp21, 5), (g.2.2.2.2.1, arrU .u8 g.2.2.1 g.2.2.2.1 ++ g.2.2.2.2.2.2, 5), (b5, schV ((s : Nat) : Int) ((p : Nat) : Int) (a) (b), 27)] ∧ (g.1 ≤ 1 <<< p) ∧ (∀ z, upd g.2.1 i z = upd (fun r => c r k) i z) ∧ (∀ z, g.2.1 z < 256) ∧ (g.2.2.1 = flN (possQ s p a b n c i q k) g.1) ∧ (∀ j, j < g.2.2.1 → g.2.2.2.1 j = (fun z => z) (flA (possQ s p a b n c i q k) g.1 j)) ∧ (g.2.2.1 ≤ g.2.2.2.2.2.1) ∧ (g.2.2.2.2.2.2.length = (g.2.2.2.2.2.1 - g.2.2.1) * 1)) (fun g => (1 <<< p) - g.1) ?_ ?_
    · exact ⟨(0, (fun r => c r k), 0, (fun _ => 0), b22, 0, []), (.cons rfl (.cons rfl (.cons rfl (.cons rfl (.cons rfl (.cons rfl (.cons rfl (.cons rfl (.nil _))))))))), st, (Nat.zero_le _), (fun _ => rfl), (fun r => hc r k), rfl, (fun j hj => absurd hj (Nat.not_lt_zero _)), (Nat.le_refl _), rfl⟩
    clear st
    rintro ⟨v, u, mm, e, b_o, c_o, sp_o⟩ w17 ⟨st, hv, hu9, hub, hm, hue, hc_o, hs_o⟩
    try dsimp only at st hv hu9 hub hm hue hc_o hs_o ⊢
    have hfl8 := flN_le (possQ s p a b n c i q k) v
    have h256 := shl_256 (k := p) (by omega)
    refine Wc.seq ?_
    refine Wc.region rfl ?_
    refine Wl.pure (PR.lss (a := ((v : Nat) : Int)) (b := (((1 <<< p) : Nat) : Int)) rfl rfl) ?_
    refine Wl.nil ?_
    refine tn ?_
    refine Wc.seq ?_
    refine Wc.condD (p := ((v : Nat) : Int) < (((1 <<< p) : Nat) : Int)) rfl (fun h18 => ?_) (fun h18 => ?_)
    · refine Wc.skip ?_
      refine tn ?_
      refine Wc.seq ?_
      refine Wc.block ?_
      refine Wc.seq ?_
      refine Wc.region rfl ?_
      refine Wl.pure (PR.moveI rfl) ?_
      refine Wl.pure (PR.assI rfl) ?_
      refine Wl.nil ?_
      refine tn ?_
      refine Wc.seq ?_
      refine Wc.region rfl ?_
      refine Wl.pure (PR.moveL rfl) ?_
      refine Wl.pure (PR.moveI rfl) ?_
      refine Wl.pure (PR.moveI rfl) ?_
      refine Wl.pure (PR.conv (n := ((v : Nat) : Int)) tI_5 rfl (by simp only [fitI]; omega) Tryz.underlying3) ?_
      refine Wl.pure (PR.idxAddrS1 (i := i) tS_22 rfl rfl (by omega)) ?_
      refine Wl.store (i := 0) (cs' := arrU .u8 n (upd u (i) (v)) ++ sp_r) st tA_5 rfl rfl rfl rfl (app_in (lt_of_len (arrU_len _) (by omega))) (app_set (lt_of_len (arrU_len _) (by omega)) (arrU_set0)) ?_
      clear st
      intro w19 st
      replace st : St [] w w19 [(b_r, arrU .u8 n (upd u (i) (v)) ++ sp_r, 5), (b21, arrU .u8 p (srtF p (colR (bif (q) then b else a) ((((1 <<< (((s : Nat) : Int)).toNat) % 256) + 255) % 256) 6)) ++ sp21, 5), (b_o, arrU .u8 mm e ++ sp_o, 5), (b5, schV ((s : Nat) : Int) ((p : Nat) : Int) (a) (b), 27)] := st
      refine Wl.nil ?_
      refine tn ?_
      refine Wc.seq ?_
      refine Wc.tree1 (w0 := w) (X := []) (Ks := [b5]) (S := fun i => i == 4 || i == 5 || i == 6 || i == 7 || i == 9) (.st 0 0 (.st 1 0 (.st 8 0 (.st 2 3 (.st 3 3 (.st 4 2 (.st 5 2 (.st 6 2 (.st 7 2 (.st 9 2 PT.nil)))))))))) hmix (by kernel_rfl) (by kernel_rfl) rfl rfl ?_
      intro w20 hbel
      replace st := st.call hbel
      clear hbel
      refine WT.pure rfl (PR.moveL rfl) ?_
      refine WT.pure rfl (PR.fieldAddr tF_27_1 rfl) ?_
      refine WT.pure rfl (PR.moveL rfl) ?_
      refine WT.load (j := 3) rfl (by simp) st tA_24 rfl rfl (rfl) ?_
      refine WT.loadA (j := 3) rfl (by simp) st tA_27 rfl rfl (all_sub schV_len) schV_len ?_
      have st0 := st
      refine WT.s rfl rfl ?_
      refine Wl.callV (c_impl_Scheme_all (s := ((s : Nat) : Int)) (p := ((p : Nat) : Int)) (a := a) (b := b) (by first | assumption | omega) ha hb) rfl ?_
      intro w21 hbel
      replace st := st.call hbel
      clear hbel
      refine Wl.nil ⟨rfl, RK.of st0 st (ksC (i := 3) (j := 3) rfl rfl rfl ksN), ?_⟩
      clear st0
      have st0 := st
      refine WT.s rfl rfl ?_
      refine Wl.callS st (c_impl_columnsOf (A := some ⟨b_r, 0, none⟩) (r := n) (cp := c_r) (t := upd u (i) (v)) (m := p) (x := ((((1 <<< (((s : Nat) : Int)).toNat) % 256) + 255) % 256)) ((st.rdA (i := 0) (n := n) rfl (app_all (arrU_len _))).sl) (upd_lt hub (by omega)) (by first | assumption | omega) (Nat.mod_lt _ (by decide)) (by first | assumption | omega)) rfl ?_
      clear st
      intro b54 w22 st
      refine Wl.nil ⟨rfl, RK.of st0 st (ksC (i := 3) (j := 4) rfl rfl rfl ksN), ?_⟩
      clear st0
      have st0 := st
      refine WT.s rfl rfl ?_
      refine Wl.callXG [] st (c_slices_Values_uint8_uint8 (A := some ⟨b54, 0, none⟩) (n := p) (cp := p)) rfl rfl ?_
      clear st
      intro b55 c55 sp55 w23 hc55 hs55 st
      replace st : St [] w w23 [(b55, [.slice (some ⟨b54, 0, none⟩) (p) (p)] ++ sp55, 22), (b54, arrU .u8 p (colR (upd u (i) (v)) ((((1 <<< (((s : Nat) : Int)).toNat) % 256) + 255) % 256) n), 5), (b_r, arrU .u8 n (upd u (i) (v)) ++ sp_r, 5), (b21, arrU .u8 p (srtF p (colR (bif (q) then b else a) ((((1 <<< (((s : Nat) : Int)).toNat) % 256) + 255) % 256) 6)) ++ sp21, 5), (b_o, arrU .u8 mm e ++ sp_o, 5), (b5, schV ((s : Nat) : Int) ((p : Nat) : Int) (a) (b), 27)] := st
      refine Wl.nil ⟨rfl, RK.of st0 st (ksC (i := 4) (j := 5) rfl rfl rfl ksN), ?_⟩
      clear st0
      have st0 := st
      refine WT.s rfl rfl ?_
      refine Wl.callXG [] st (c_slices_Sorted_uint8 (b1 := b55) (o1 := 0) (A := some ⟨b54, 0, none⟩) (n := p) (cp := p) (c := (colR (upd u (i) (v)) ((((1 <<< (((s : Nat) : Int)).toNat) % 256) + 255) % 256) n)) (st.rdA (i := 0) (n := 1) rfl (app_all rfl)) ((st.rdA (i := 1) (n := p) rfl (all_sub (arrU_len _))).sl) (by first | assumption | omega) (colR_lt (upd u (i) (v)) ((((1 <<< (((s : Nat) : Int)).toNat) % 256) + 255) % 256) n)) rfl rfl ?_
      clear st
      intro b56 c56 sp56 w24 hc56 hs56 st
      replace st : St [] w w24 [(b56, arrU .u8 p (srtF p (colR (upd u (i) (v)) ((((1 <<< (((s : Nat) : Int)).toNat) % 256) + 255) % 256) n)) ++ sp56, 5), (b55, [.slice (some ⟨b54, 0, none⟩) (p) (p)] ++ sp55, 22), (b54, arrU .u8 p (colR (upd u (i) (v)) ((((1 <<< (((s : Nat) : Int)).toNat) % 256) + 255) % 256) n), 5), (b_r, arrU .u8 n (upd u (i) (v)) ++ sp_r, 5), (b21, arrU .u8 p (srtF p (colR (bif (q) then b else a) ((((1 <<< (((s : Nat) : Int)).toNat) % 256) + 255) % 256) 6)) ++ sp21, 5), (b_o, arrU .u8 mm e ++ sp_o, 5), (b5, schV ((s : Nat) : Int) ((p : Nat) : Int) (a) (b), 27)] := st
      refine Wl.nil ⟨rfl, RK.of st0 st (ksC (i := 5) (j := 6) rfl rfl rfl ksN), ?_⟩
      clear st0
      have st0 := st
      refine WT.s rfl rfl ?_
      refine Wl.callV (c_slices_Equal_uint8_uint8 (A := some ⟨b56, 0, none⟩) (n := p) (cp := c56) (c := (srtF p (colR (upd u (i) (v)) ((((1 <<< (((s : Nat) : Int)).toNat) % 256) + 255) % 256) n))) (B := some ⟨b21, 0, none⟩) (cq := c21) (d := (srtF p (colR (bif (q) then b else a) ((((1 <<< (((s : Nat) : Int)).toNat) % 256) + 255) % 256) 6))) ((st.rdA (i := 0) (n := p) rfl (app_all (arrU_len _))).sl) ((st.rdA (i := 4) (n := p) rfl (app_all (arrU_len _))).sl) (srtF_lt (colR_lt (upd u (i) (v)) ((((1 <<< (((s : Nat) : Int)).toNat) % 256) + 255) % 256) n)) (srtF_lt (colR_lt2 ha hb)) (by first | assumption | omega)) rfl ?_
      intro w25 hbel
      replace st := st.call hbel
      clear hbel
      refine Wl.nil ⟨rfl, RK.of st0 st (ksC (i := 6) (j := 6) rfl rfl rfl ksN), ?_⟩
      clear st0
      refine WT.nil ?_
      refine tn ?_
      refine Wc.condB (b := eqR p (srtF p (colR (upd u (i) (v)) ((((1 <<< (((s : Nat) : Int)).toNat) % 256) + 255) % 256) n)) (srtF p (colR (bif (q) then b else a) ((((1 <<< (((s : Nat) : Int)).toNat) % 256) + 255) % 256) 6))) rfl (fun h26 => ?_) (fun h26 => ?_)
      · refine Wc.region rfl ?_
        refine Wl.pure (PR.moveL rfl) ?_
        refine Wl.pure (PR.moveI rfl) ?_
        refine Wl.pure (PR.conv (n := ((v : Nat) : Int)) tI_5 rfl (by simp only [fitI]; omega) Tryz.underlying3) ?_
        refine Wl.buildSlice (ps := [(0, .int .u8 (((v : Nat) : Int)))]) (cs := [.int .u8 (((v : Nat) : Int))]) st tS_22 tZ_5 rfl rfl rfl ?_
        clear st
        intro b62 w27 st
        refine Wl.append (n := mm) (c := c_o) (m := 1) (cs := arrU .u8 mm e) (sp := sp_o) (vs := [.int .u8 (((v : Nat) : Int))]) (i := 6) st tS_22 tZ_5 rfl rfl rfl (by rw [(arrU_len _), Nat.mul_one]) hs_o hc_o rfl (Src.ofRdA (tyS_und tS_22) (st.rdA (i := 0) (n := 1) rfl rfl) rfl (by simp [Value.oneCell'])) (by omega) (by omega) ?_
        clear st
        intro b63 c63 sp63 w28 hc63 hs63 st
        rw [arrU_snoc] at st
        replace st : St [] w w28 [(b63, arrU .u8 (mm + 1) (upd e mm v) ++ sp63, 5), (b62, [.int .u8 (((v : Nat) : Int))], 5), (b56, arrU .u8 p (srtF p (colR (upd u (i) (v)) ((((1 <<< (((s : Nat) : Int)).toNat) % 256) + 255) % 256) n)) ++ sp56, 5), (b55, [.slice (some ⟨b54, 0, none⟩) (p) (p)] ++ sp55, 22), (b54, arrU .u8 p (colR (upd u (i) (v)) ((((1 <<< (((s : Nat) : Int)).toNat) % 256) + 255) % 256) n), 5), (b_r, arrU .u8 n (upd u (i) (v)) ++ sp_r, 5), (b21, arrU .u8 p (srtF p (colR (bif (q) then b else a) ((((1 <<< (((s : Nat) : Int)).toNat) % 256) + 255) % 256) 6)) ++ sp21, 5), (b5, schV ((s : Nat) : Int) ((p : Nat) : Int) (a) (b), 27)] := st
        refine Wl.pure (PR.assL rfl) ?_
        refine Wl.nil ?_
        refine bn ?_
        refine tn ?_
        refine Wc.region rfl ?_
        refine Wl.pure (PR.add (a := ((v : Nat) : Int)) (b := 1) rfl rfl (by simp only [fitI]; omega)) ?_
        refine Wl.pure (PR.moveI rfl) ?_
        refine Wl.nil ?_
        refine tn ?_
        replace st : St [] w w28 [(b_r, arrU .u8 n (upd u (i) (v)) ++ sp_r, 5), (b21, arrU .u8 p (srtF p (colR (bif (q) then b else a) ((((1 <<< (((s : Nat) : Int)).toNat) % 256) + 255) % 256) 6)) ++ sp21, 5), (b63, arrU .u8 (mm + 1) (upd e mm v) ++ sp63, 5), (b5, schV ((s : Nat) : Int) ((p : Nat) : Int) (a) (b), 27)] := st.pick [5, 6, 0, 7] (by decide) rfl
        exact ⟨(v + 1, upd u (i) (v), mm + 1, (upd e mm v), b63, c63, sp63), (.cons rfl (.cons rfl (.cons rfl (.cons rfl (.cons rfl (.cons rfl (.cons rfl (.cons rfl (.nil _))))))))), ⟨st, (by first | omega | (dsimp only; omega)), (upd_hu hu9), (upd_lt hub (by omega)), (by first | exact flN_t hm (pi_t hu9 (by omega) hns hza hzb (by assumption)) | exact flN_f hm (pi_f hu9 (by omega) hns hza hzb (by assumption))), (by first | exact flA_t (g := fun z => z) hm hue (pi_t hu9 (by omega) hns hza hzb (by assumption)) | exact flA_f (g := fun z => z) hue (pi_f hu9 (by omega) hns hza hzb (by assumption))), hc63, hs63⟩, (by first | omega | (dsimp only; omega))⟩
      · refine Wc.skip ?_
        refine bn ?_
        refine tn ?_
        refine Wc.region rfl ?_
        refine Wl.pure (PR.add (a := ((v : Nat) : Int)) (b := 1) rfl rfl (by simp only [fitI]; omega)) ?_
        refine Wl.pure (PR.moveI rfl) ?_
        refine Wl.nil ?_
        refine tn ?_
        replace st := st.tail
        replace st := st.tail
        replace st := st.tail
        exact ⟨(v + 1, upd u (i) (v), mm, e, b_o, c_o, sp_o), (.cons rfl (.cons rfl (.cons rfl (.cons rfl (.cons rfl (.cons rfl (.cons rfl (.cons rfl (.nil _))))))))), ⟨st, (by first | omega | (dsimp only; omega)), (upd_hu hu9), (upd_lt hub (by omega)), (by first | exact flN_t hm (pi_t hu9 (by omega) hns hza hzb (by assumption)) | exact flN_f hm (pi_f hu9 (by omega) hns hza hzb (by assumption))), (by first | exact flA_t (g := fun z => z) hm hue (pi_t hu9 (by omega) hns hza hzb (by assumption)) | exact flA_f (g := fun z => z) hue (pi_f hu9 (by omega) hns hza hzb (by assumption))), hc_o, hs_o⟩, (by first | omega | (dsimp only; omega))⟩
    · refine Wc.exit ?_
      refine tx ?_
      refine tx ?_
      refine bh ?_
      refine tn ?_
      refine Wc.seq ?_
      refine Wc.region rfl ?_
      refine Wl.pure (PR.moveL rfl) ?_
      refine Wl.pure (PR.assL rfl) ?_
      refine Wl.nil ?_
      refine tn ?_
      refine Wc.ret ?_
      refine postL.tmp rfl rfl ?_
      obtain rfl : v = 1 <<< p := by omega
      subst hm
      rw [arrU_congr (d := flA (possQ s p a b n c i q k) (1 <<< p)) (fun j hj => hue j hj)] at st
      replace st : St [] w w17 [(b_o, arrU .u8 (flN (possQ s p a b n c i q k) (1 <<< p)) (flA (possQ s p a b n c i q k) (1 <<< p)) ++ sp_o, 5)] := st.pick [2] (by decide) rfl
      exact ⟨b_o, c_o, sp_o, hc_o, hs_o, rfl, st⟩

set_option maxHeartbeats 400000 in
set_option maxRecDepth 4000 in
theorem c_spec_l07Possible {bk : Nat} {o : Nat} {s : Nat} {p : Nat} {a : Nat → Nat} {b : Nat → Nat} {A : Option Addr} {n : Nat} {cp : Nat} {y : Nat → Int} {c : Nat → Nat → Nat} {i : Nat} {q : Bool} {k : Nat} {w : World} (hR : RdA w bk o (schV ((s : Nat) : Int) ((p : Nat) : Int) a b)) (hp8 : 1 ≤ p ∧ p ≤ 8) (ha : ∀ k, a k < 256) (hb : ∀ k, b k < 256) (hs6 : 1 ≤ s ∧ s ≤ 6) (hRL : RdS w A n (layS n y c)) (hg : ∀ i, i < n → -128 ≤ y i ∧ y i ≤ 127) (hc : ∀ i k, c i k < 256) (hn6 : 1 ≤ n ∧ n ≤ 6) (hk : k < 64) (hns : n = s) (hi0 : i < n) :
    CE Tryz.prog 41 [.pointer (some ⟨bk, o, none⟩), .slice (A) (n) (cp), .int .i64 (((i : Nat) : Int)), .bool (q), .int .i64 (((k : Nat) : Int))] w (RetXG w [] 5 1 ((flN (possQ s p a b n c i q k) (1 <<< p))) (arrU .u8 (flN (possQ s p a b n c i q k) (1 <<< p)) (flA (possQ s p a b n c i q k) (1 <<< p))) (fun b_ c_ => .slice (some ⟨b_, 0, none⟩) ((flN (possQ s p a b n c i q k) (1 <<< p))) (c_)) []) := by
  refine CE.enter 52 [(0, .pointer (some ⟨bk, o, none⟩)), (1, .slice (A) (n) (cp)), (2, .int .i64 (((i : Nat) : Int))), (3, .bool (q)), (4, .int .i64 (((k : Nat) : Int)))] en_41 Tryz.func41 rfl rfl (Nat.le_of_ble_eq_true rfl) rfl ?_
  have st := St.start w
  refine Wc.seq ?_
  refine Wc.region rfl ?_
  refine Wl.pure (PR.assL rfl) ?_
  refine Wl.nil ?_
  refine tn ?_
  refine Wc.seq ?_
  refine Wc.region rfl ?_
  refine Wl.pure (PR.moveP rfl) ?_
  refine Wl.pure (PR.moveB rfl) ?_
  refine Wl.callXG [] st (c_l07DueQ (bk := bk) (o := o) (s := s) (p := p) (a := a) (b := b) (q := (q)) (hR.st st) (by first | assumption | omega) ha hb (by first | assumption | omega)) rfl rfl ?_
  clear st
  intro b17 c17 sp17 w1 hc17 hs17 st
  replace st : St [] w w1 [(b17, arrU .u8 p (dueF s p a b (q)) ++ sp17, 5)] := st
  refine Wl.pure (PR.assL rfl) ?_
  refine Wl.nil ?_
  refine tn ?_
  refine Wc.seq ?_
  refine Wc.region rfl ?_
  refine Wl.pure (PR.moveL rfl) ?_
  refine Wl.pure (PR.moveI rfl) ?_
  refine Wl.callXG [] st (c_spec_l03Rows (A := A) (n := n) (cp := cp) (y := y) (c := c) (k := k) (hRL.st st) hg hc (by first | assumption | omega) (by first | assumption | omega)) rfl rfl ?_
  clear st
  intro b20 c20 sp20 w2 hc20 hs20 st
  replace st : St [] w w2 [(b20, arrU .u8 n (fun r => c r k) ++ sp20, 5), (b17, arrU .u8 p (dueF s p a b (q)) ++ sp17, 5)] := st
  refine Wl.pure (PR.assL rfl) ?_
  refine Wl.nil ?_
  refine tn ?_
  refine Wc.seq ?_
  refine Wc.region rfl ?_
  refine Wl.buildSlice (ps := []) (cs := arrU .u8 0 (fun _ => 0) ++ []) st tS_22 tZ_5 rfl rfl rfl ?_
  clear st
  intro b21 w3 st
  refine Wl.pure (PR.assL rfl) ?_
  refine Wl.nil ?_
  refine tn ?_
  refine Wc.seq ?_
  refine Wc.seq ?_
  refine Wc.region rfl ?_
  refine Wl.pure (PR.assI rfl) ?_
  refine Wl.nil ?_
  refine tn ?_
  refine Wc.block ?_
  refine Wc.loopF (γ := Nat × (Nat → Nat) × Nat × (Nat → Nat) × Nat × Nat × List Value) (fun g => [(0, .pointer (some ⟨bk, o, none⟩)), (2, .int .i64 (((i : Nat) : Int))), (10, .slice (none) (0) (0)), (11, .slice (some ⟨b17, 0, none⟩) (p) (c17)), (12, .slice (some ⟨b20, 0, none⟩) (n) (c20)), (13, .slice (some ⟨g.2.2.2.2.1, 0, none⟩) (g.2.2.1) (g.2.2.2.2.2.1)), (14, .int .i64 (((g.1 : Nat) : Int)))]) (fun g w_ => St [] w w_ [(g.2.2.2.2.1, arrU .u8 g.2.2.1 g.2.2.2.1 ++ g.2.2.2.2.2.2, 5), (b20, arrU .u8 n g.2.1 ++ sp20, 5), (b17, arrU .u8 p (dueF s p a b (q)) ++ sp17, 5)] ∧ (g.1 ≤ 1 <<< p) ∧ (∀ z, upd g.2.1 i z = upd (fun r => c r k) i z) ∧ (∀ z, g.2.1 z < 256) ∧ (g.2.2.1 = flN (possQ s p a b n c i q k) g.1) ∧ (∀ j, j < g.2.2.1 → g.2.2.2.1 j = (fun z => z) (flA (possQ s p a b n c i q k) g.1 j)) ∧ (g.2.2.1 ≤ g.2.2.2.2.2.1) ∧ (g.2.2.2.2.2.2.length = (g.2.2.2.2.2.1 - g.2.2.1) * 1)) (fun g => (1 <<< p) - g.1) ?_ ?_
  · exact ⟨(0, (fun r => c r k), 0, (fun _ => 0), b21, 0, []), (.cons rfl (.cons rfl (.cons rfl (.cons rfl (.cons rfl (.cons rfl (.cons rfl (.nil _)))))))), st, (Nat.zero_le _), (fun _ => rfl), (fun r => hc r k), rfl, (fun j hj => absurd hj (Nat.not_lt_zero _)), (Nat.le_refl _), rfl⟩
  clear st
  rintro ⟨v, u, mm, e, b_o, c_o, sp_o⟩ w4 ⟨st, hv, hu9, hub, hm, hue, hc_o, hs_o⟩
  try dsimp only at st hv hu9 hub hm hue hc_o hs_o ⊢
  have hfl8 := flN_le (possQ s p a b n c i q k) v
  have h256 := shl_256 (k := p) (by omega)
  refine Wc.seq ?_
  refine Wc.seq ?_
  refine Wc.region rfl ?_
  refine Wl.pure (PR.moveI rfl) ?_
  refine Wl.pure (PR.moveP rfl) ?_
  refine Wl.pure (PR.nil_ rfl) ?_
  refine Wl.pure (PR.fieldAddr tF_27_1 rfl) ?_
  refine Wl.loadC tA_24 rfl ((hR.st st).at_ (j := 1) (rfl) rfl) ?_
  refine Wl.pure (PR.conv (n := ((p : Nat) : Int)) tI_51 rfl (by simp only [fitI]; omega) Tryz.underlying24) ?_
  refine Wl.pure (PR.shlI (a := 1) (n := p) rfl rfl (by omega) (sh8 (by omega))) ?_
  refine Wl.pure (PR.lss (a := ((v : Nat) : Int)) (b := (((1 <<< p) : Nat) : Int)) rfl rfl) ?_
  refine Wl.nil ?_
  refine tn ?_
  refine Wc.condD (p := ((v : Nat) : Int) < (((1 <<< p) : Nat) : Int)) rfl (fun h5 => ?_) (fun h5 => ?_)
  · refine Wc.skip ?_
    refine tn ?_
    refine Wc.seq ?_
    refine Wc.block ?_
    refine Wc.seq ?_
    refine Wc.region rfl ?_
    refine Wl.pure (PR.moveL rfl) ?_
    refine Wl.pure (PR.moveI rfl) ?_
    refine Wl.pure (PR.moveI rfl) ?_
    refine Wl.pure (PR.conv (n := ((v : Nat) : Int)) tI_5 rfl (by simp only [fitI]; omega) Tryz.underlying2) ?_
    refine Wl.pure (PR.idxAddrS1 (i := i) tS_22 rfl rfl (by omega)) ?_
    refine Wl.store (i := 1) (cs' := arrU .u8 n (upd u (i) (v)) ++ sp20) st tA_5 rfl rfl rfl rfl (app_in (lt_of_len (arrU_len _) (by omega))) (app_set (lt_of_len (arrU_len _) (by omega)) (arrU_set0)) ?_
    clear st
    intro w6 st
    replace st : St [] w w6 [(b_o, arrU .u8 mm e ++ sp_o, 5), (b20, arrU .u8 n (upd u (i) (v)) ++ sp20, 5), (b17, arrU .u8 p (dueF s p a b (q)) ++ sp17, 5)] := st
    refine Wl.nil ?_
    refine tn ?_
    refine Wc.seq ?_
    refine Wc.region rfl ?_
    refine Wl.pure (PR.moveL rfl) ?_
    refine Wl.pure (PR.moveP rfl) ?_
    refine Wl.pure (PR.nil_ rfl) ?_
    refine Wl.pure (PR.fieldAddr tF_27_1 rfl) ?_
    refine Wl.loadC tA_24 rfl ((hR.st st).at_ (j := 1) (rfl) rfl) ?_
    refine Wl.pure (PR.conv (n := ((p : Nat) : Int)) tI_2 rfl (by simp only [fitI]; omega) Tryz.underlying24) ?_
    refine Wl.callXG [] st (c_spec_l03Columns (A := some ⟨b20, 0, none⟩) (n := n) (cp := c20) (c := upd u (i) (v)) (m := p) ((st.rdA (i := 1) (n := n) rfl (app_all (arrU_len _))).sl) (upd_lt hub (by omega)) (by first | assumption | omega) (by first | assumption | omega)) rfl rfl ?_
    clear st
    intro b43 c43 sp43 w7 hc43 hs43 st
    replace st : St [] w w7 [(b43, arrU .u8 p (srtF p (colsA n (upd u (i) (v)))) ++ sp43, 5), (b_o, arrU .u8 mm e ++ sp_o, 5), (b20, arrU .u8 n (upd u (i) (v)) ++ sp20, 5), (b17, arrU .u8 p (dueF s p a b (q)) ++ sp17, 5)] := st
    refine Wl.pure (PR.moveL rfl) ?_
    refine Wl.callV (c_spec_l03Same (A := some ⟨b43, 0, none⟩) (n := p) (cp := c43) (c := (srtF p (colsA n (upd u (i) (v))))) (B := some ⟨b17, 0, none⟩) (cq := c17) (d := (dueF s p a b (q))) ((st.rdA (i := 0) (n := p) rfl (app_all (arrU_len _))).sl) ((st.rdA (i := 3) (n := p) rfl (app_all (arrU_len _))).sl) (srtF_lt (fun j => colA_lt _ _ _)) (dueF_lt _ _ _ _ _) (by first | assumption | omega)) rfl ?_
    intro w8 hbel
    replace st := st.call hbel
    clear hbel
    refine Wl.nil ?_
    refine tn ?_
    refine Wc.condB (b := eqR p (srtF p (colsA n (upd u (i) (v)))) (dueF s p a b (q))) rfl (fun h9 => ?_) (fun h9 => ?_)
    · refine Wc.region rfl ?_
      refine Wl.pure (PR.moveL rfl) ?_
      refine Wl.pure (PR.moveI rfl) ?_
      refine Wl.pure (PR.conv (n := ((v : Nat) : Int)) tI_5 rfl (by simp only [fitI]; omega) Tryz.underlying2) ?_
      refine Wl.buildSlice (ps := [(0, .int .u8 (((v : Nat) : Int)))]) (cs := [.int .u8 (((v : Nat) : Int))]) st tS_22 tZ_5 rfl rfl rfl ?_
      clear st
      intro b49 w10 st
      refine Wl.append (n := mm) (c := c_o) (m := 1) (cs := arrU .u8 mm e) (sp := sp_o) (vs := [.int .u8 (((v : Nat) : Int))]) (i := 2) st tS_22 tZ_5 rfl rfl rfl (by rw [(arrU_len _), Nat.mul_one]) hs_o hc_o rfl (Src.ofRdA (tyS_und tS_22) (st.rdA (i := 0) (n := 1) rfl rfl) rfl (by simp [Value.oneCell'])) (by omega) (by omega) ?_
      clear st
      intro b50 c50 sp50 w11 hc50 hs50 st
      rw [arrU_snoc] at st
      replace st : St [] w w11 [(b50, arrU .u8 (mm + 1) (upd e mm v) ++ sp50, 5), (b49, [.int .u8 (((v : Nat) : Int))], 5), (b43, arrU .u8 p (srtF p (colsA n (upd u (i) (v)))) ++ sp43, 5), (b20, arrU .u8 n (upd u (i) (v)) ++ sp20, 5), (b17, arrU .u8 p (dueF s p a b (q)) ++ sp17, 5)] := st
      refine Wl.pure (PR.assL rfl) ?_
      refine Wl.nil ?_
      refine bn ?_
      refine tn ?_
      refine Wc.region rfl ?_
      refine Wl.pure (PR.moveI rfl) ?_
      refine Wl.pure (PR.add (a := ((v : Nat) : Int)) (b := 1) rfl rfl (by simp only [fitI]; omega)) ?_
      refine Wl.pure (PR.assI rfl) ?_
      refine Wl.nil ?_
      refine tn ?_
      replace st : St [] w w11 [(b50, arrU .u8 (mm + 1) (upd e mm v) ++ sp50, 5), (b20, arrU .u8 n (upd u (i) (v)) ++ sp20, 5), (b17, arrU .u8 p (dueF s p a b (q)) ++ sp17, 5)] := st.pick [0, 3, 4] (by decide) rfl
      exact ⟨(v + 1, upd u (i) (v), mm + 1, (upd e mm v), b50, c50, sp50), (.cons rfl (.cons rfl (.cons rfl (.cons rfl (.cons rfl (.cons rfl (.cons rfl (.nil _)))))))), ⟨st, (by first | omega | (dsimp only; omega)), (upd_hu hu9), (upd_lt hub (by omega)), (by first | exact flN_t hm (po_t hu9 (by assumption)) | exact flN_f hm (po_f hu9 (by assumption))), (by first | exact flA_t (g := fun z => z) hm hue (po_t hu9 (by assumption)) | exact flA_f (g := fun z => z) hue (po_f hu9 (by assumption))), hc50, hs50⟩, (by first | omega | (dsimp only; omega))⟩
    · refine Wc.skip ?_
      refine bn ?_
      refine tn ?_
      refine Wc.region rfl ?_
      refine Wl.pure (PR.moveI rfl) ?_
      refine Wl.pure (PR.add (a := ((v : Nat) : Int)) (b := 1) rfl rfl (by simp only [fitI]; omega)) ?_
      refine Wl.pure (PR.assI rfl) ?_
      refine Wl.nil ?_
      refine tn ?_
      replace st := st.tail
      exact ⟨(v + 1, upd u (i) (v), mm, e, b_o, c_o, sp_o), (.cons rfl (.cons rfl (.cons rfl (.cons rfl (.cons rfl (.cons rfl (.cons rfl (.nil _)))))))), ⟨st, (by first | omega | (dsimp only; omega)), (upd_hu hu9), (upd_lt hub (by omega)), (by first | exact flN_t hm (po_t hu9 (by assumption)) | exact flN_f hm (po_f hu9 (by assumption))), (by first | exact flA_t (g := fun z => z) hm hue (po_t hu9 (by assumption)) | exact flA_f (g := fun z => z) hue (po_f hu9 (by assumption))), hc_o, hs_o⟩, (by first | omega | (dsimp only; omega))⟩
  · refine Wc.exit ?_
    refine tx ?_
    refine tx ?_
    refine bh ?_
    refine tn ?_
    refine Wc.seq ?_
    refine Wc.region rfl ?_
    refine Wl.pure (PR.moveL rfl) ?_
    refine Wl.pure (PR.assL rfl) ?_
    refine Wl.nil ?_
    refine tn ?_
    refine Wc.ret ?_
    refine postL.tmp rfl rfl ?_
    obtain rfl : v = 1 <<< p := by omega
    subst hm
    rw [arrU_congr (d := flA (possQ s p a b n c i q k) (1 <<< p)) (fun j hj => hue j hj)] at st
    replace st : St [] w w4 [(b_o, arrU .u8 (flN (possQ s p a b n c i q k) (1 <<< p)) (flA (possQ s p a b n c i q k) (1 <<< p)) ++ sp_o, 5)] := st.pick [0] (by decide) rfl
    exact ⟨b_o, c_o, sp_o, hc_o, hs_o, rfl, st⟩

set_option maxHeartbeats 400000 in
set_option maxRecDepth 4000 in
theorem c_impl_Scheme_isShare {s : Int} {p : Int} {a : Nat → Nat} {b : Nat → Nat} {z : Int} {w : World} (hs : -128 ≤ s ∧ s ≤ 127) (hp : -128 ≤ p ∧ p ≤ 127) (ha : ∀ k, a k < 256) (hb : ∀ k, b k < 256) :
    CE Tryz.prog 65 [.agg (schV (s) (p) (a) (b)).toArray, .int .i64 (z)] w (RetV w (.bool (decide (0 ≤ z ∧ z ≤ s - 1)))) := by
  refine CE.enter 11 [(0, .agg (schV (s) (p) (a) (b)).toArray), (1, .int .i64 (z))] en_65 Tryz.func65 rfl rfl (Nat.le_of_ble_eq_true rfl) rfl ?_
  have st := St.start w
  refine Wc.seq ?_
  refine Wc.region rfl ?_
  refine Wl.boxA st rfl ?_
  clear st
  intro b2 w1 st
  refine Wl.pure (PR.assB rfl) ?_
  refine Wl.nil ?_
  refine tn ?_
  refine Wc.seq ?_
  refine Wc.region rfl ?_
  refine Wl.pure (PR.moveI rfl) ?_
  refine Wl.pure (PR.fieldAddr tF_27_0 rfl) ?_
  refine Wl.load (i := 0) st tA_24 rfl rfl (rfl) ?_
  refine Wl.pure (PR.conv (n := s) tI_2 rfl (by simp only [fitI]; omega) Tryz.underlying24) ?_
  refine Wl.pure (PR.sub (a := s) (b := 1) rfl rfl (by simp only [fitI]; omega)) ?_
  refine Wl.callV (c_impl_within (n := z) (lo := 0) (hi := (s - 1))) rfl ?_
  intro w2 hbel
  replace st := st.call hbel
  clear hbel
  refine Wl.pure (PR.assB rfl) ?_
  refine Wl.nil ?_
  refine tn ?_
  refine Wc.ret ?_
  refine postL.tmp rfl rfl ?_
  refine RetV.of ?_ st.below
  rfl

set_option maxHeartbeats 400000 in
set_option maxRecDepth 4000 in
theorem c_impl_cheatCode {s : Int} {p : Int} {a : Nat → Nat} {b : Nat → Nat} {A : Option Addr} {n : Nat} {cp : Nat} {y : Nat → Int} {c : Nat → Nat → Nat} {z : Int} {w : World} (hs : -128 ≤ s ∧ s ≤ 127) (hp : -128 ≤ p ∧ p ≤ 127) (ha : ∀ k, a k < 256) (hb : ∀ k, b k < 256) (hRL : RdS w A n (layS n y c)) (hg : ∀ i, i < n → -128 ≤ y i ∧ y i ≤ 127) (hc : ∀ i k, c i k < 256) (hn : n ≤ 1048576) :
    CE Tryz.prog 35 [.agg (schV (s) (p) (a) (b)).toArray, .slice (A) (n) (cp), .int .i64 (z)] w (RetV w (.int .i64 (((shC s p a b n y c z : Nat) : Int)))) := by
  refine CE.enter 22 [(0, .agg (schV (s) (p) (a) (b)).toArray), (1, .slice (A) (n) (cp)), (2, .int .i64 (z))] en_35 Tryz.func35 rfl rfl (Nat.le_of_ble_eq_true rfl) rfl ?_
  have st := St.start w
  refine Wc.seq ?_
  refine Wc.region rfl ?_
  refine Wl.boxA st rfl ?_
  clear st
  intro b3 w1 st
  refine Wl.pure (PR.assI rfl) ?_
  refine Wl.nil ?_
  refine tn ?_
  refine Wc.seq ?_
  refine Wc.region rfl ?_
  refine Wl.loadA (i := 0) st tA_27 rfl rfl (all_sub schV_len) schV_len ?_
  refine Wl.pure (PR.moveL rfl) ?_
  refine Wl.callV (c_impl_sharedCode (s := s) (p := p) (a := a) (b := b) (A := A) (n := n) (cp := cp) (y := y) (c := c) (by first | assumption | omega) (by first | assumption | omega) ha hb (hRL.st st) hg hc (by first | assumption | omega)) rfl ?_
  intro w2 hbel
  replace st := st.call hbel
  clear hbel
  refine Wl.pure (PR.assI rfl) ?_
  refine Wl.nil ?_
  refine tn ?_
  refine Wc.seq ?_
  refine Wc.region rfl ?_
  refine Wl.pure (PR.moveI rfl) ?_
  refine Wl.pure (PR.neq (a := ((bothC s p a b n y c : Nat) : Int)) (b := 0) rfl rfl) ?_
  refine Wl.pure (PR.moveI rfl) ?_
  refine Wl.pure (PR.build (ps := [(0, .bool (!decide (((bothC s p a b n y c : Nat) : Int) = 0))), (1, .int .i64 (((bothC s p a b n y c : Nat) : Int)))]) (cs := [.bool (!decide (((bothC s p a b n y c : Nat) : Int) = 0)), .int .i64 (((bothC s p a b n y c : Nat) : Int))]) tB_79 rfl rfl) ?_
  refine Wl.loadA (i := 0) st tA_27 rfl rfl (all_sub schV_len) schV_len ?_
  refine Wl.pure (PR.moveI rfl) ?_
  refine Wl.callV (c_impl_Scheme_isShare (s := s) (p := p) (a := a) (b := b) (z := z) (by first | assumption | omega) (by first | assumption | omega) ha hb) rfl ?_
  intro w3 hbel
  replace st := st.call hbel
  clear hbel
  refine Wl.pure (PR.not_ rfl) ?_
  refine Wl.pure (PR.build (ps := [(0, .bool (!decide (0 ≤ z ∧ z ≤ s - 1))), (1, .int .i64 (2))]) (cs := [.bool (!decide (0 ≤ z ∧ z ≤ s - 1)), .int .i64 (2)]) tB_79 rfl rfl) ?_
  refine Wl.buildSlice (ps := [(0, .agg ([.bool (!decide (((bothC s p a b n y c : Nat) : Int) = 0)), .int .i64 (((bothC s p a b n y c : Nat) : Int))]).toArray), (1, .agg ([.bool (!decide (0 ≤ z ∧ z ≤ s - 1)), .int .i64 (2)]).toArray)]) (cs := [.bool (!decide (((bothC s p a b n y c : Nat) : Int) = 0)), .int .i64 (((bothC s p a b n y c : Nat) : Int)), .bool (!decide (0 ≤ z ∧ z ≤ s - 1)), .int .i64 (2)]) st tS_107 tZ_79 rfl rfl rfl ?_
  clear st
  intro b20 w4 st
  refine Wl.callV (c_impl_firstOf (bk := b20) (o := 0) (n := 2) (cp := 2) (c := (fun i => [(!decide (((bothC s p a b n y c : Nat) : Int) = 0)), (!decide (0 ≤ z ∧ z ≤ s - 1))].getD i false)) (e := (fun i => [((bothC s p a b n y c : Nat) : Int), 2].getD i 0)) (st.rdA (i := 0) (n := 4) rfl rfl) (by first | assumption | omega)) rfl ?_
  intro w5 hbel
  replace st := st.call hbel
  clear hbel
  refine Wl.pure (PR.assI rfl) ?_
  refine Wl.nil ?_
  refine tn ?_
  refine Wc.ret ?_
  refine postL.tmp rfl rfl ?_
  refine RetV.of ?_ st.below
  exact congrArg (Value.int .i64) (first_sh rfl rfl)

set_option maxHeartbeats 400000 in
set_option maxRecDepth 4000 in
theorem c_spec_l07Share {bk : Nat} {o : Nat} {s : Int} {p : Int} {a : Nat → Nat} {b : Nat → Nat} {A : Option Addr} {n : Nat} {cp : Nat} {y : Nat → Int} {c : Nat → Nat → Nat} {z : Int} {w : World} (hR : RdA w bk o (schV s p a b)) (hs : -128 ≤ s ∧ s ≤ 127) (hp : -128 ≤ p ∧ p ≤ 127) (ha : ∀ k, a k < 256) (hb : ∀ k, b k < 256) (hRL : RdS w A n (layS n y c)) (hg : ∀ i, i < n → -128 ≤ y i ∧ y i ≤ 127) (hc : ∀ i k, c i k < 256) (hn : n ≤ 1048576) :
    CE Tryz.prog 40 [.pointer (some ⟨bk, o, none⟩), .slice (A) (n) (cp), .int .i64 (z)] w (RetV w (.int .i64 (((shC s p a b n y c z : Nat) : Int)))) := by
  refine CE.enter 25 [(0, .pointer (some ⟨bk, o, none⟩)), (1, .slice (A) (n) (cp)), (2, .int .i64 (z))] en_40 Tryz.func40 rfl rfl (Nat.le_of_ble_eq_true rfl) rfl ?_
  have st := St.start w
  refine Wc.seq ?_
  refine Wc.region rfl ?_
  refine Wl.pure (PR.assI rfl) ?_
  refine Wl.nil ?_
  refine tn ?_
  refine Wc.seq ?_
  refine Wc.region rfl ?_
  refine Wl.pure (PR.moveP rfl) ?_
  refine Wl.pure (PR.moveL rfl) ?_
  refine Wl.callV (c_spec_l03Both (bk := bk) (o := o) (s := s) (p := p) (a := a) (b := b) (A := A) (n := n) (cp := cp) (y := y) (c := c) (hR.st st) (by first | assumption | omega) (by first | assumption | omega) ha hb (hRL.st st) hg hc (by first | assumption | omega)) rfl ?_
  intro w1 hbel
  replace st := st.call hbel
  clear hbel
  refine Wl.pure (PR.assI rfl) ?_
  refine Wl.nil ?_
  refine tn ?_
  refine Wc.seq ?_
  refine Wc.seq ?_
  refine Wc.region rfl ?_
  refine Wl.pure (PR.moveI rfl) ?_
  refine Wl.pure (PR.eql (a := ((bothC s p a b n y c : Nat) : Int)) (b := 0) rfl rfl) ?_
  refine Wl.pure (PR.moveB rfl) ?_
  refine Wl.splitT (q := ((bothC s p a b n y c : Nat) : Int) = 0) rfl rfl (fun h2 => ?_) (fun h2 => ?_)
  · refine Wl.pure (PR.moveI rfl) ?_
    refine Wl.on rfl rfl ?_
    refine Wl.pure (PR.moveP rfl) ?_
    refine Wl.on rfl rfl ?_
    refine Wl.pure (PR.nil_ rfl) ?_
    refine Wl.on rfl rfl ?_
    refine Wl.pure (PR.fieldAddr tF_27_0 rfl) ?_
    refine Wl.on rfl rfl ?_
    refine Wl.loadC tA_24 rfl ((hR.st st).at_ (j := 0) (rfl) rfl) ?_
    refine Wl.on rfl rfl ?_
    refine Wl.pure (PR.conv (n := s) tI_2 rfl (by simp only [fitI]; omega) Tryz.underlying24) ?_
    refine Wl.on rfl rfl ?_
    refine Wl.pure (PR.sub (a := s) (b := 1) rfl rfl (by simp only [fitI]; omega)) ?_
    refine Wl.on rfl rfl ?_
    refine Wl.callV (c_spec_l00In (n := z) (lo := 0) (hi := (s - 1))) rfl ?_
    intro w3 hbel
    replace st := st.call hbel
    clear hbel
    refine Wl.on rfl rfl ?_
    refine Wl.pure (PR.not_ rfl) ?_
    refine Wl.pure (PR.pickTB rfl rfl) ?_
    refine Wl.nil ?_
    refine tn ?_
    refine Wc.condN (p := 0 ≤ z ∧ z ≤ (s - 1)) rfl (fun h4 => ?_) (fun h4 => ?_)
    · refine Wc.region rfl ?_
      refine Wl.pure (PR.assI rfl) ?_
      refine Wl.nil ?_
      refine tn ?_
      refine Wc.seq ?_
      refine Wc.region rfl ?_
      refine Wl.pure (PR.moveI rfl) ?_
      refine Wl.pure (PR.assI rfl) ?_
      refine Wl.nil ?_
      refine tn ?_
      refine Wc.ret ?_
      refine postL.tmp rfl rfl ?_
      refine RetV.of ?_ st.below
      refine congrArg (Value.int .i64) ?_
      first | exact sh_z2 (by omega) (by assumption) | exact sh_z0 (by omega) (by assumption) | exact sh_zb (by omega)
    · refine Wc.skip ?_
      refine tn ?_
      refine Wc.seq ?_
      refine Wc.region rfl ?_
      refine Wl.pure (PR.moveI rfl) ?_
      refine Wl.pure (PR.assI rfl) ?_
      refine Wl.nil ?_
      refine tn ?_
      refine Wc.ret ?_
      refine postL.tmp rfl rfl ?_
      refine RetV.of ?_ st.below
      refine congrArg (Value.int .i64) ?_
      first | exact sh_z2 (by omega) (by assumption) | exact sh_z0 (by omega) (by assumption) | exact sh_zb (by omega)
  · refine Wl.off rfl rfl rfl ?_
    refine Wl.off rfl rfl rfl ?_
    refine Wl.off rfl rfl rfl ?_
    refine Wl.off rfl rfl rfl ?_
    refine Wl.off rfl rfl rfl ?_
    refine Wl.off rfl rfl rfl ?_
    refine Wl.off rfl rfl rfl ?_
    refine Wl.off rfl rfl rfl ?_
    refine Wl.pure (PR.pickFB rfl rfl) ?_
    refine Wl.nil ?_
    refine tn ?_
    refine Wc.condF rfl ?_
    refine Wc.skip ?_
    refine tn ?_
    refine Wc.seq ?_
    refine Wc.region rfl ?_
    refine Wl.pure (PR.moveI rfl) ?_
    refine Wl.pure (PR.assI rfl) ?_
    refine Wl.nil ?_
    refine tn ?_
    refine Wc.ret ?_
    refine postL.tmp rfl rfl ?_
    refine RetV.of ?_ st.below
    refine congrArg (Value.int .i64) ?_
    first | exact sh_z2 (by omega) (by assumption) | exact sh_z0 (by omega) (by assumption) | exact sh_zb (by omega)

set_option maxHeartbeats 400000 in
set_option maxRecDepth 4000 in
theorem c_impl_SureCells_1 {b1 : Nat} {o1 : Nat} {b2 : Nat} {o2 : Nat} {b3 : Nat} {o3 : Nat} {b4 : Nat} {o4 : Nat} {s : Nat} {p : Nat} {a : Nat → Nat} {b : Nat → Nat} {A : Option Addr} {n : Nat} {cp : Nat} {y : Nat → Int} {c : Nat → Nat → Nat} {x : Nat} {i : Nat} {k : Nat} {w : World} (h1 : RdA w b1 o1 (schV ((s : Nat) : Int) ((p : Nat) : Int) a b)) (h2 : RdA w b2 o2 [.slice A n cp]) (h3 : RdA w b3 o3 [.int .i64 ((i : Nat) : Int)]) (h4 : RdA w b4 o4 [.int .u64 ((x : Nat) : Int)]) (hp8 : 1 ≤ p ∧ p ≤ 8) (ha : ∀ k, a k < 256) (hb : ∀ k, b k < 256) (hs6 : 1 ≤ s ∧ s ≤ 6) (hza : ∀ k, s ≤ k → k < 6 → a k = 0) (hzb : ∀ k, s ≤ k → k < 6 → b k = 0) (hRL : RdS w A n (layS n y c)) (hg : ∀ i, i < n → -128 ≤ y i ∧ y i ≤ 127) (hc : ∀ i k, c i k < 256) (hn6 : 1 ≤ n ∧ n ≤ 6) (hx : x < 18446744073709551616) (hk : k < 64) (hns : n = s) (hi0 : i < n) :
    CE Tryz.prog 37 [.int .i64 (((k : Nat) : Int)), .pointer (some ⟨b1, o1, none⟩), .pointer (some ⟨b2, o2, none⟩), .pointer (some ⟨b3, o3, none⟩), .pointer (some ⟨b4, o4, none⟩)] w (RetV w (.bool ((sureQ s p a b n c i x) k))) := by
  refine CE.enter 17 [(0, .int .i64 (((k : Nat) : Int))), (1, .pointer (some ⟨b1, o1, none⟩)), (2, .pointer (some ⟨b2, o2, none⟩)), (3, .pointer (some ⟨b3, o3, none⟩)), (4, .pointer (some ⟨b4, o4, none⟩))] en_37 Tryz.func37 rfl rfl (Nat.le_of_ble_eq_true rfl) rfl ?_
  have st := St.start w
  refine Wc.seq ?_
  refine Wc.region rfl ?_
  refine Wl.pure (PR.assB rfl) ?_
  refine Wl.nil ?_
  refine tn ?_
  refine Wc.seq ?_
  refine Wc.tree1 (w0 := w) (X := []) (Ks := []) (S := fun i => i == 5 || i == 7) (.st 4 0 (.st 6 0 (.st 0 3 (.st 1 3 (.st 2 3 (.st 3 3 (.st 5 2 (.st 7 2 (.st 8 0 (.st 9 0 (.st 10 0 PT.nil))))))))))) hmix (by kernel_rfl) (by kernel_rfl) rfl rfl ?_
  intro w1 hbel
  replace st := st.call hbel
  clear hbel
  refine WT.pure rfl (PR.moveI rfl) ?_
  refine WT.pure rfl (PR.moveI rfl) ?_
  refine WT.loadAC rfl h1.1 (by simp) tA_27 rfl schV_len ((h1.st st).sub (all_sub schV_len) rfl) ?_
  refine WT.loadC rfl h2.1 (by simp) tA_32 rfl ((h2.st st).at_ (j := 0) (rfl) rfl) ?_
  refine WT.loadC rfl h3.1 (by simp) tA_2 rfl ((h3.st st).at_ (j := 0) (rfl) rfl) ?_
  refine WT.loadC rfl h4.1 (by simp) tA_30 rfl ((h4.st st).at_ (j := 0) (rfl) rfl) ?_
  have st0 := st
  refine WT.s rfl rfl ?_
  refine Wl.callV (c_bit_impl (x := x) (k := k) hx (by first | assumption | omega)) rfl ?_
  intro w2 hbel
  replace st := st.call hbel
  clear hbel
  refine Wl.nil ⟨rfl, RK.of st0 st ksN, ?_⟩
  clear st0
  have st0 := st
  refine WT.s rfl rfl ?_
  refine Wl.callXG [] st (c_impl_Scheme_possible (s := s) (p := p) (a := a) (b := b) (A := A) (n := n) (cp := cp) (y := y) (c := c) (i := i) (q := (bitB x k)) (k := k) (by first | assumption | omega) ha hb (by first | assumption | omega) (by first | assumption | omega) (by first | assumption | omega) (hRL.st st) hg hc (by first | assumption | omega) (by first | assumption | omega) (by first | assumption | omega) (by first | assumption | omega)) rfl rfl ?_
  clear st
  intro b14 c14 sp14 w3 hc14 hs14 st
  replace st : St [] w w3 [(b14, arrU .u8 (flN (possQ s p a b n c i (bitB x k) k) (1 <<< p)) (flA (possQ s p a b n c i (bitB x k) k) (1 <<< p)) ++ sp14, 5)] := st
  refine Wl.nil ⟨rfl, RK.of st0 st ksN, ?_⟩
  clear st0
  refine WT.pure rfl (PR.lenL tS_22 rfl) ?_
  refine WT.pure rfl (PR.eql (a := (((flN (possQ s p a b n c i (bitB x k) k) (1 <<< p)) : Nat) : Int)) (b := 1) rfl rfl) ?_
  refine WT.pure rfl (PR.assB rfl) ?_
  refine WT.nil ?_
  refine tn ?_
  refine Wc.ret ?_
  refine postL.tmp rfl rfl ?_
  refine RetV.of ?_ st.below
  refine congrArg Value.bool ?_
  unfold sureQ; exact decide_eq_decide.2 (by omega)

set_option maxHeartbeats 400000 in
set_option maxRecDepth 4000 in
theorem c_impl_SureCells {s : Int} {p : Int} {a : Nat → Nat} {b : Nat → Nat} {A : Option Addr} {n : Nat} {cp : Nat} {y : Nat → Int} {c : Nat → Nat → Nat} {z : Int} {x : Nat} {w : World} (hs : -128 ≤ s ∧ s ≤ 127) (hp : -128 ≤ p ∧ p ≤ 127) (ha : ∀ k, a k < 256) (hb : ∀ k, b k < 256) (hRL : RdS w A n (layS n y c)) (hg : ∀ i, i < n → -128 ≤ y i ∧ y i ≤ 127) (hc : ∀ i k, c i k < 256) (hn : n ≤ 1048576) (hx : x < 18446744073709551616) :
    CE Tryz.prog 12 [.agg (schV (s) (p) (a) (b)).toArray, .slice (A) (n) (cp), .int .i64 (z), .int .u64 (((x : Nat) : Int))] w (RetV w (.tuple #[.int .u64 (((selN (shC s p a b n y c z) (pic (sureQ ((s).toNat) ((p).toNat) a b n c ((z).toNat) x)) : Nat) : Int)), .int .i64 (((shC s p a b n y c z : Nat) : Int))])) := by
  refine CE.enter 20 [(0, .agg (schV (s) (p) (a) (b)).toArray), (1, .slice (A) (n) (cp)), (2, .int .i64 (z)), (3, .int .u64 (((x : Nat) : Int)))] en_12 Tryz.func12 rfl rfl (Nat.le_of_ble_eq_true rfl) rfl ?_
  have st := St.start w
  refine Wc.seq ?_
  refine Wc.region rfl ?_
  refine Wl.boxA st rfl ?_
  clear st
  intro b4 w1 st
  refine Wl.boxL st rfl ?_
  clear st
  intro b5 w2 st
  refine Wl.boxI st rfl ?_
  clear st
  intro b6 w3 st
  refine Wl.boxI st rfl ?_
  clear st
  intro b7 w4 st
  refine Wl.pure (PR.assI rfl) ?_
  refine Wl.pure (PR.assI rfl) ?_
  refine Wl.nil ?_
  refine tn ?_
  refine Wc.seq ?_
  refine Wc.seq ?_
  refine Wc.region rfl ?_
  refine Wl.loadA (i := 3) st tA_27 rfl rfl (all_sub schV_len) schV_len ?_
  refine Wl.load (i := 2) st tA_32 rfl rfl (rfl) ?_
  refine Wl.load (i := 1) st tA_2 rfl rfl (rfl) ?_
  refine Wl.callV (c_impl_cheatCode (s := s) (p := p) (a := a) (b := b) (A := A) (n := n) (cp := cp) (y := y) (c := c) (z := z) (by first | assumption | omega) (by first | assumption | omega) ha hb (hRL.st st) hg hc (by first | assumption | omega)) rfl ?_
  intro w5 hbel
  replace st := st.call hbel
  clear hbel
  refine Wl.pure (PR.assI rfl) ?_
  refine Wl.nil ?_
  refine tn ?_
  refine Wc.seq ?_
  refine Wc.region rfl ?_
  refine Wl.pure (PR.moveI rfl) ?_
  refine Wl.pure (PR.neq (a := ((shC s p a b n y c z : Nat) : Int)) (b := 0) rfl rfl) ?_
  refine Wl.nil ?_
  refine tn ?_
  refine Wc.condN (p := ((shC s p a b n y c z : Nat) : Int) = 0) rfl (fun h6 => ?_) (fun h6 => ?_)
  · refine Wc.seq ?_
    refine Wc.region rfl ?_
    refine Wl.pure (PR.moveI rfl) ?_
    refine Wl.pure (PR.assI rfl) ?_
    refine Wl.pure (PR.assI rfl) ?_
    refine Wl.nil ?_
    refine tn ?_
    refine Wc.ret ?_
    refine tr ?_
    refine postL.tmp2 rfl rfl rfl ?_
    refine RetV.of ?_ st.below
    exact rw_f (by omega) (by omega)
  · refine Wc.skip ?_
    refine tn ?_
    refine Wc.seq ?_
    obtain ⟨hb9, hzi⟩ := shC_spec (s := s) (p := p) (a := a) (b := b) (n := n) (g := y) (c := c) (i := z) (by omega)
    have hcode0 : bothC s p a b n y c = 0 := hb9
    obtain ⟨hok, hlay, hns⟩ := bothC_spec hcode0
    have hall := bothC_all hcode0
    obtain ⟨hs1, hp1, _⟩ := schOk_spec hok
    obtain ⟨d_, rfl⟩ : ∃ d_ : Nat, s = ((d_ : Nat) : Int) := ⟨s.toNat, by omega⟩
    obtain ⟨e_, rfl⟩ : ∃ e_ : Nat, p = ((e_ : Nat) : Int) := ⟨p.toNat, by omega⟩
    obtain ⟨_, hza, hzb⟩ := sch_zero hok
    have hns9 : n = d_ := by omega
    have hy0 : y 0 = ((e_ : Nat) : Int) := hall 0 (by omega)
    have hn6 : 1 ≤ n ∧ n ≤ 6 := by omega
    obtain ⟨i_, rfl⟩ : ∃ i_ : Nat, z = ((i_ : Nat) : Int) := ⟨z.toNat, by omega⟩
    have hi0 : i_ < n := by omega
    refine Wc.region rfl ?_
    refine Wl.pure (PR.mkFunc (vs := [.pointer (some ⟨b4, 0, none⟩), .pointer (some ⟨b5, 0, none⟩), .pointer (some ⟨b6, 0, none⟩), .pointer (some ⟨b7, 0, none⟩)]) rfl) ?_
    refine Wl.callV (c_impl_pictureOf (fk := 37) (cap := [.pointer (some ⟨b4, 0, none⟩), .pointer (some ⟨b5, 0, none⟩), .pointer (some ⟨b6, 0, none⟩), .pointer (some ⟨b7, 0, none⟩)]) (q := (sureQ d_ e_ a b n c i_ x)) (fun i hi w' hb' => c_impl_SureCells_1 ((st.rdA (i := 3) rfl (all_sub schV_len)).below hb') ((st.rdA (i := 2) (n := 1) rfl rfl).below hb') ((st.rdA (i := 1) (n := 1) rfl rfl).below hb') ((st.rdA (i := 0) (n := 1) rfl rfl).below hb') (by omega) ha hb (by omega) hza hzb ((hRL.st st).below hb') hg hc hn6 hx hi hns9 hi0)) rfl ?_
    intro w7 hbel
    replace st := st.call hbel
    clear hbel
    refine Wl.pure (PR.assI rfl) ?_
    refine Wl.pure (PR.assI rfl) ?_
    refine Wl.nil ?_
    refine tn ?_
    refine Wc.ret ?_
    refine postL.tmp2 rfl rfl rfl ?_
    refine RetV.of ?_ st.below
    exact rw_t' (by first | assumption | omega) rfl

set_option maxHeartbeats 400000 in
set_option maxRecDepth 4000 in
theorem c_spec_SureCells {s : Int} {p : Int} {a : Nat → Nat} {b : Nat → Nat} {A : Option Addr} {n : Nat} {cp : Nat} {y : Nat → Int} {c : Nat → Nat → Nat} {z : Int} {x : Nat} {w : World} (hs : -128 ≤ s ∧ s ≤ 127) (hp : -128 ≤ p ∧ p ≤ 127) (ha : ∀ k, a k < 256) (hb : ∀ k, b k < 256) (hRL : RdS w A n (layS n y c)) (hg : ∀ i, i < n → -128 ≤ y i ∧ y i ≤ 127) (hc : ∀ i k, c i k < 256) (hn : n ≤ 1048576) (hx : x < 18446744073709551616) :
    CE Tryz.prog 13 [.agg (schV (s) (p) (a) (b)).toArray, .slice (A) (n) (cp), .int .i64 (z), .int .u64 (((x : Nat) : Int))] w (RetV w (.tuple #[.int .u64 (((selN (shC s p a b n y c z) (pic (sureQ ((s).toNat) ((p).toNat) a b n c ((z).toNat) x)) : Nat) : Int)), .int .i64 (((shC s p a b n y c z : Nat) : Int))])) := by
  refine CE.enter 38 [(0, .agg (schV (s) (p) (a) (b)).toArray), (1, .slice (A) (n) (cp)), (2, .int .i64 (z)), (3, .int .u64 (((x : Nat) : Int)))] en_13 Tryz.func13 rfl rfl (Nat.le_of_ble_eq_true rfl) rfl ?_
  have st := St.start w
  refine Wc.seq ?_
  refine Wc.region rfl ?_
  refine Wl.boxA st rfl ?_
  clear st
  intro b4 w1 st
  refine Wl.pure (PR.assI rfl) ?_
  refine Wl.pure (PR.assI rfl) ?_
  refine Wl.nil ?_
  refine tn ?_
  refine Wc.seq ?_
  refine Wc.seq ?_
  refine Wc.region rfl ?_
  refine Wl.pure (PR.moveL rfl) ?_
  refine Wl.pure (PR.moveI rfl) ?_
  refine Wl.callV (c_spec_l07Share (bk := b4) (o := 0) (s := s) (p := p) (a := a) (b := b) (A := A) (n := n) (cp := cp) (y := y) (c := c) (z := z) (st.rdA (i := 0) rfl (all_sub schV_len)) (by first | assumption | omega) (by first | assumption | omega) ha hb (hRL.st st) hg hc (by first | assumption | omega)) rfl ?_
  intro w2 hbel
  replace st := st.call hbel
  clear hbel
  refine Wl.pure (PR.assI rfl) ?_
  refine Wl.nil ?_
  refine tn ?_
  refine Wc.seq ?_
  refine Wc.region rfl ?_
  refine Wl.pure (PR.moveI rfl) ?_
  refine Wl.pure (PR.neq (a := ((shC s p a b n y c z : Nat) : Int)) (b := 0) rfl rfl) ?_
  refine Wl.nil ?_
  refine tn ?_
  refine Wc.condN (p := ((shC s p a b n y c z : Nat) : Int) = 0) rfl (fun h3 => ?_) (fun h3 => ?_)
  · refine Wc.seq ?_
    refine Wc.region rfl ?_
    refine Wl.pure (PR.moveI rfl) ?_
    refine Wl.pure (PR.assI rfl) ?_
    refine Wl.pure (PR.assI rfl) ?_
    refine Wl.nil ?_
    refine tn ?_
    refine Wc.ret ?_
    refine tr ?_
    refine postL.tmp2 rfl rfl rfl ?_
    refine RetV.of ?_ st.below
    exact rw_f (by omega) (by omega)
  · refine Wc.skip ?_
    refine tn ?_
    refine Wc.seq ?_
    obtain ⟨hb9, hzi⟩ := shC_spec (s := s) (p := p) (a := a) (b := b) (n := n) (g := y) (c := c) (i := z) (by omega)
    have hcode0 : bothC s p a b n y c = 0 := hb9
    obtain ⟨hok, hlay, hns⟩ := bothC_spec hcode0
    have hall := bothC_all hcode0
    obtain ⟨hs1, hp1, _⟩ := schOk_spec hok
    obtain ⟨d_, rfl⟩ : ∃ d_ : Nat, s = ((d_ : Nat) : Int) := ⟨s.toNat, by omega⟩
    obtain ⟨e_, rfl⟩ : ∃ e_ : Nat, p = ((e_ : Nat) : Int) := ⟨p.toNat, by omega⟩
    obtain ⟨_, hza, hzb⟩ := sch_zero hok
    have hns9 : n = d_ := by omega
    have hy0 : y 0 = ((e_ : Nat) : Int) := hall 0 (by omega)
    have hn6 : 1 ≤ n ∧ n ≤ 6 := by omega
    obtain ⟨i_, rfl⟩ : ∃ i_ : Nat, z = ((i_ : Nat) : Int) := ⟨z.toNat, by omega⟩
    have hi0 : i_ < n := by omega
    refine Wc.region rfl ?_
    refine Wl.pure (PR.assI rfl) ?_
    refine Wl.nil ?_
    refine tn ?_
    refine Wc.seq ?_
    refine Wc.seq ?_
    refine Wc.region rfl ?_
    refine Wl.pure (PR.assI rfl) ?_
    refine Wl.nil ?_
    refine tn ?_
    refine Wc.block ?_
    refine Wc.loopF (γ := Nat × Nat) (fun g => [(1, .slice (A) (n) (cp)), (2, .int .i64 (((i_ : Nat) : Int))), (3, .int .u64 (((x : Nat) : Int))), (4, .pointer (some ⟨b4, 0, none⟩)), (8, .int .u64 (0)), (9, .int .i64 (0)), (11, .int .u64 (((g.2 : Nat) : Int))), (12, .int .i64 (((g.1 : Nat) : Int)))]) (fun g w_ => St [] w w_ [(b4, schV ((d_ : Nat) : Int) ((e_ : Nat) : Int) (a) (b), 27)] ∧ (g.1 ≤ 64) ∧ (g.2 = picF (sureQ d_ e_ a b n c i_ x) g.1) ∧ (g.2 < 18446744073709551616)) (fun g => 64 - g.1) ?_ ?_
    · exact ⟨(0, 0), (.cons rfl (.cons rfl (.cons rfl (.cons rfl (.cons rfl (.cons rfl (.cons rfl (.cons rfl (.nil _))))))))), st, (by first | omega | (dsimp only; omega)), rfl, (by decide)⟩
    clear st
    rintro ⟨k, v⟩ w4 ⟨st, hk, hv, hvb⟩
    try dsimp only at st hk hv hvb ⊢
    refine Wc.seq ?_
    refine Wc.seq ?_
    refine Wc.region rfl ?_
    refine Wl.pure (PR.moveI rfl) ?_
    refine Wl.pure (PR.lss (a := ((k : Nat) : Int)) (b := 64) rfl rfl) ?_
    refine Wl.nil ?_
    refine tn ?_
    refine Wc.condD (p := ((k : Nat) : Int) < 64) rfl (fun h5 => ?_) (fun h5 => ?_)
    · refine Wc.skip ?_
      refine tn ?_
      refine Wc.seq ?_
      refine Wc.block ?_
      refine Wc.seq ?_
      refine Wc.region rfl ?_
      refine Wl.pure (PR.moveL rfl) ?_
      refine Wl.pure (PR.moveI rfl) ?_
      refine Wl.pure (PR.moveI rfl) ?_
      refine Wl.pure (PR.moveI rfl) ?_
      refine Wl.callV (c_bit_pec (x := x) (k := k) hx (by first | assumption | omega)) rfl ?_
      intro w6 hbel
      replace st := st.call hbel
      clear hbel
      refine Wl.pure (PR.moveI rfl) ?_
      refine Wl.callXG [] st (c_spec_l07Possible (bk := b4) (o := 0) (s := d_) (p := e_) (a := a) (b := b) (A := A) (n := n) (cp := cp) (y := y) (c := c) (i := i_) (q := (bitB x k)) (k := k) (st.rdA (i := 0) rfl (all_sub schV_len)) (by first | assumption | omega) ha hb (by first | assumption | omega) (hRL.st st) hg hc (by first | assumption | omega) (by first | assumption | omega) (by first | assumption | omega) (by first | assumption | omega)) rfl rfl ?_
      clear st
      intro b29 c29 sp29 w7 hc29 hs29 st
      replace st : St [] w w7 [(b29, arrU .u8 (flN (possQ d_ e_ a b n c i_ (bitB x k) k) (1 <<< e_)) (flA (possQ d_ e_ a b n c i_ (bitB x k) k) (1 <<< e_)) ++ sp29, 5), (b4, schV ((d_ : Nat) : Int) ((e_ : Nat) : Int) (a) (b), 27)] := st
      refine Wl.pure (PR.lenL tS_22 rfl) ?_
      refine Wl.pure (PR.eql (a := (((flN (possQ d_ e_ a b n c i_ (bitB x k) k) (1 <<< e_)) : Nat) : Int)) (b := 1) rfl rfl) ?_
      refine Wl.nil ?_
      refine tn ?_
      refine Wc.condD (p := (((flN (possQ d_ e_ a b n c i_ (bitB x k) k) (1 <<< e_)) : Nat) : Int) = 1) rfl (fun h8 => ?_) (fun h8 => ?_)
      · refine Wc.region rfl ?_
        refine Wl.pure (PR.moveI rfl) ?_
        refine Wl.pure (PR.moveI rfl) ?_
        refine Wl.pure (PR.conv (n := ((k : Nat) : Int)) tI_51 rfl (by simp only [fitI]; omega) Tryz.underlying2) ?_
        refine Wl.pure (PR.shl (a := 1) (n := k) rfl rfl (by decide)) ?_
        refine Wl.pure (PR.or (a := v) (b := ((1 <<< k) % 18446744073709551616)) rfl rfl (by decide) hvb (Nat.mod_lt _ (by decide))) ?_
        refine Wl.pure (PR.assI rfl) ?_
        refine Wl.nil ?_
        refine bn ?_
        refine tn ?_
        refine Wc.region rfl ?_
        refine Wl.pure (PR.moveI rfl) ?_
        refine Wl.pure (PR.add (a := ((k : Nat) : Int)) (b := 1) rfl rfl (by simp only [fitI]; omega)) ?_
        refine Wl.pure (PR.assI rfl) ?_
        refine Wl.nil ?_
        refine tn ?_
        replace st := st.tail
        exact ⟨(k + 1, (v ||| ((1 <<< k) % 18446744073709551616))), (.cons rfl (.cons rfl (.cons rfl (.cons rfl (.cons rfl (.cons rfl (.cons rfl (.cons rfl (.nil _))))))))), ⟨st, (by first | omega | (dsimp only; omega)), (by first | exact picF_t hv (su_t (by omega)) | exact picF_f hv (su_f (by omega))), (by first | exact hvb | exact or_lt_u64 hvb (Nat.mod_lt _ (by decide)))⟩, (by first | omega | (dsimp only; omega))⟩
      · refine Wc.skip ?_
        refine bn ?_
        refine tn ?_
        refine Wc.region rfl ?_
        refine Wl.pure (PR.moveI rfl) ?_
        refine Wl.pure (PR.add (a := ((k : Nat) : Int)) (b := 1) rfl rfl (by simp only [fitI]; omega)) ?_
        refine Wl.pure (PR.assI rfl) ?_
        refine Wl.nil ?_
        refine tn ?_
        replace st := st.tail
        exact ⟨(k + 1, v), (.cons rfl (.cons rfl (.cons rfl (.cons rfl (.cons rfl (.cons rfl (.cons rfl (.cons rfl (.nil _))))))))), ⟨st, (by first | omega | (dsimp only; omega)), (by first | exact picF_t hv (su_t (by omega)) | exact picF_f hv (su_f (by omega))), (by first | exact hvb | exact or_lt_u64 hvb (Nat.mod_lt _ (by decide)))⟩, (by first | omega | (dsimp only; omega))⟩
    · refine Wc.exit ?_
      refine tx ?_
      refine tx ?_
      refine bh ?_
      refine tn ?_
      refine Wc.seq ?_
      refine Wc.region rfl ?_
      refine Wl.pure (PR.moveI rfl) ?_
      refine Wl.pure (PR.assI rfl) ?_
      refine Wl.pure (PR.assI rfl) ?_
      refine Wl.nil ?_
      refine tn ?_
      refine Wc.ret ?_
      refine postL.tmp2 rfl rfl rfl ?_
      refine RetV.of ?_ st.below
      exact rw_t' (by first | assumption | omega) (pic_at (by omega) hv)

end Go.Proofs.YtabekcodjcbolaaGreat
