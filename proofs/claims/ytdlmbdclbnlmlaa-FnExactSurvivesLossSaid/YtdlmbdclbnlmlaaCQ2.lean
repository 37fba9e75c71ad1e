/-
  Contracts of functions, printed by a program of ours.
-/
import Derived.Test.YtdlmbdclbnlmlaaCQ1
import Derived.Test.YtdlmbdclbnlmlaaCS1
import Derived.Test.YtdlmbdclbnlmlaaFactsQ
import Derived.Test.YtdlmbdclbnlmlaaMx
namespace Go.Proofs.Ytdlmbdclbnlmlaa
open Go.RowKit
set_option linter.unusedVariables false
set_option linter.unusedSimpArgs false

set_option maxHeartbeats 400000 in
set_option maxRecDepth 4000 in
theorem c_impl_columnsOf {A : Option Addr} {cp : Nat} {t : Nat → Nat} {m : Nat} {x : Nat} {w : World} (hR : RdS w A 6 (arrU .u8 6 t)) (ht : ∀ k, t k < 256) (hm : m ≤ 8) (hx : x < 256) :
    CE Try.prog 82 [.slice (A) (6) (cp), .int .i8 (((m : Nat) : Int)), .int .u8 (((x : Nat) : Int))] w (RetS w 5 (m) (m) (arrU .u8 m (colR t x 6))) := by
  refine CE.enter 45 [(0, .slice (A) (6) (cp)), (1, .int .i8 (((m : Nat) : Int))), (2, .int .u8 (((x : Nat) : Int)))] en_82 Try.func82 rfl rfl (Nat.le_of_ble_eq_true rfl) rfl ?_
  have st := St.start w
  refine Wc.seq ?_
  refine Wc.region rfl ?_
  refine Wl.pure (PR.assL rfl) ?_
  refine Wl.nil ?_
  refine tn ?_
  refine Wc.seq ?_
  refine Wc.region rfl ?_
  refine Wl.pure (PR.moveI rfl) ?_
  refine Wl.makeSlice (n := m) st tS_97 tZ_5 rfl rfl rfl (by omega) (by omega) ?_
  clear st
  intro b12 w1 st
  rw [made_arrU] at st
  refine Wl.pure (PR.assL rfl) ?_
  refine Wl.nil ?_
  refine tn ?_
  refine Wc.seq ?_
  refine Wc.seq ?_
  refine Wc.region rfl ?_
  refine Wl.pure (PR.moveL rfl) ?_
  refine Wl.pure (PR.lenL tS_97 rfl) ?_
  refine Wl.pure (PR.moveI rfl) ?_
  refine Wl.nil ?_
  refine tn ?_
  refine Wc.block ?_
  refine Wc.loopF (γ := Nat × (Nat → Nat)) (fun g => [(2, .int .u8 (((x : Nat) : Int))), (6, .slice (none) (0) (0)), (7, .slice (some ⟨b12, 0, none⟩) (m) (m)), (13, .slice (A) (6) (cp)), (14, .int .i64 (6)), (15, .int .i64 (((g.1 : Nat) : Int)))]) (fun g w_ => St [] w w_ [(b12, arrU .u8 m g.2, 5)] ∧ (g.1 ≤ 6) ∧ (∀ j, j < m → g.2 j = colR t x g.1 j) ∧ (∀ z, g.2 z < 256)) (fun g => 6 - g.1) ?_ ?_
  · exact ⟨(0, (fun _ => 0)), (.cons rfl (.cons rfl (.cons rfl (.cons rfl (.cons rfl (.cons rfl (.nil _))))))), st, (by first | omega | (dsimp only; omega)), (fun _ _ => rfl), (fun _ => show (0 : Nat) < 256 by decide)⟩
  clear st
  rintro ⟨i, d⟩ w2 ⟨st, hi, hd, hdb⟩
  try dsimp only at st hi hd hdb ⊢
  refine Wc.seq ?_
  refine Wc.region rfl ?_
  refine Wl.pure (PR.lss (a := ((i : Nat) : Int)) (b := 6) rfl rfl) ?_
  refine Wl.nil ?_
  refine tn ?_
  refine Wc.seq ?_
  refine Wc.condD (p := ((i : Nat) : Int) < 6) rfl (fun h3 => ?_) (fun h3 => ?_)
  · refine Wc.skip ?_
    refine tn ?_
    refine Wc.seq ?_
    refine Wc.block ?_
    refine Wc.seq ?_
    refine Wc.region rfl ?_
    refine Wl.pure (PR.moveI rfl) ?_
    obtain ⟨bs4, os5, rfl, hs6⟩ := hR (by omega)
    refine Wl.pure (PR.idxAddrS1 (i := i) tS_97 rfl rfl (by omega)) ?_
    refine Wl.loadC tA_5 rfl ((hs6.st st).at_ (arrU_get0 (by omega)) (Nat.add_assoc _ _ _).symm) ?_
    refine Wl.pure (PR.assI rfl) ?_
    refine Wl.pure (PR.assI rfl) ?_
    refine Wl.nil ?_
    refine tn ?_
    refine Wc.seq ?_
    refine Wc.seq ?_
    refine Wc.region rfl ?_
    refine Wl.pure (PR.moveI rfl) ?_
    refine Wl.pure (PR.moveI rfl) ?_
    refine Wl.pure (PR.shr (a := x) (n := i) rfl rfl (by decide) hx) ?_
    refine Wl.pure (PR.and (a := (x >>> i)) (b := 1) rfl rfl (by decide) (shr_lt hx) (by decide)) ?_
    refine Wl.pure (PR.eql (a := ((((x >>> i) &&& 1) : Nat) : Int)) (b := 0) rfl rfl) ?_
    refine Wl.nil ?_
    refine tn ?_
    refine Wc.condD (p := ((((x >>> i) &&& 1) : Nat) : Int) = 0) rfl (fun h7 => ?_) (fun h7 => ?_)
    · refine Wc.exit ?_
      refine tx ?_
      refine bh ?_
      refine tn ?_
      refine Wc.region rfl ?_
      refine Wl.pure (PR.add (a := ((i : Nat) : Int)) (b := 1) rfl rfl (by simp only [fitI]; omega)) ?_
      refine Wl.pure (PR.moveI rfl) ?_
      refine Wl.nil ?_
      refine tn ?_
      exact ⟨(i + 1, d), (.cons rfl (.cons rfl (.cons rfl (.cons rfl (.cons rfl (.cons rfl (.nil _))))))), ⟨st, (by first | omega | (dsimp only; omega)), (by first | exact fun j hj => hlo j (by omega) | exact col_skip hd (by omega)), hdb⟩, (by first | omega | (dsimp only; omega))⟩
    · refine Wc.skip ?_
      refine tn ?_
      refine Wc.seq ?_
      refine Wc.region rfl ?_
      refine Wl.pure (PR.moveL rfl) ?_
      refine Wl.pure (PR.lenL tS_97 rfl) ?_
      refine Wl.pure (PR.moveI rfl) ?_
      refine Wl.nil ?_
      refine tn ?_
      refine Wc.block ?_
      refine Wc.loopF (γ := Nat × (Nat → Nat)) (fun g => [(2, .int .u8 (((x : Nat) : Int))), (6, .slice (none) (0) (0)), (7, .slice (some ⟨b12, 0, none⟩) (m) (m)), (8, .int .i64 (((i : Nat) : Int))), (9, .int .u8 (((t (i) : Nat) : Int))), (13, .slice (some ⟨bs4, os5, none⟩) (6) (cp)), (14, .int .i64 (6)), (15, .int .i64 (((i : Nat) : Int))), (16, .bool (decide (((i : Nat) : Int) < 6))), (17, .int .i64 (((i : Nat) : Int))), (18, .pointer (some ⟨bs4, os5 + i, none⟩)), (19, .int .u8 (((t (i) : Nat) : Int))), (20, .int .u8 (((x : Nat) : Int))), (21, .int .i64 (((i : Nat) : Int))), (22, .int .u8 ((((x >>> i) : Nat) : Int))), (23, .int .u8 (((((x >>> i) &&& 1) : Nat) : Int))), (24, .bool (decide (((((x >>> i) &&& 1) : Nat) : Int) = 0))), (25, .slice (some ⟨b12, 0, none⟩) (m) (m)), (26, .int .i64 (((m : Nat) : Int))), (27, .int .i64 (((g.1 : Nat) : Int)))]) (fun g w_ => St [] w w_ [(b12, arrU .u8 m g.2, 5)] ∧ (g.1 ≤ m) ∧ (∀ j, j < g.1 → g.2 j = colR t x (i + 1) j) ∧ (∀ j, g.1 ≤ j → j < m → g.2 j = colR t x i j) ∧ (∀ z, g.2 z < 256)) (fun g => m - g.1) ?_ ?_
      · exact ⟨(0, d), (.cons rfl (.cons rfl (.cons rfl (.cons rfl (.cons rfl (.cons rfl (.cons rfl (.cons rfl (.cons rfl (.cons rfl (.cons rfl (.cons rfl (.cons rfl (.cons rfl (.cons rfl (.cons rfl (.cons rfl (.cons rfl (.cons rfl (.cons rfl (.nil _))))))))))))))))))))), st, (by first | omega | (dsimp only; omega)), (fun j hj => by omega), (fun j _ hj => hd j hj), hdb⟩
      clear st
      rintro ⟨k, d⟩ w8 ⟨st, hk, hlo, hhi, hdb⟩
      try dsimp only at st hk hlo hhi hdb ⊢
      refine Wc.seq ?_
      refine Wc.region rfl ?_
      refine Wl.pure (PR.lss (a := ((k : Nat) : Int)) (b := ((m : Nat) : Int)) rfl rfl) ?_
      refine Wl.nil ?_
      refine tn ?_
      refine Wc.seq ?_
      refine Wc.condD (p := ((k : Nat) : Int) < ((m : Nat) : Int)) rfl (fun h9 => ?_) (fun h9 => ?_)
      · refine Wc.skip ?_
        refine tn ?_
        refine Wc.seq ?_
        refine Wc.block ?_
        refine Wc.seq ?_
        refine Wc.region rfl ?_
        refine Wl.pure (PR.moveI rfl) ?_
        refine Wl.pure (PR.assI rfl) ?_
        refine Wl.nil ?_
        refine tn ?_
        refine Wc.quietTail 12 hmix (by kernel_rfl) rfl ?_
        refine Wq.pure (PR.moveL rfl) ?_
        refine Wq.pure (PR.moveI rfl) ?_
        refine Wq.pure (PR.idxAddrS1 (i := k) tS_97 rfl rfl (by omega)) ?_
        refine Wq.load (i := 0) st tA_5 rfl rfl (arrU_get0 (by omega)) ?_
        refine Wq.pure (PR.moveI rfl) ?_
        refine Wq.pure (PR.moveI rfl) ?_
        refine Wq.pure (PR.shr (a := t (i)) (n := k) rfl rfl (by decide) (ht (i))) ?_
        refine Wq.pure (PR.and (a := ((t (i)) >>> k)) (b := 1) rfl rfl (by decide) (shr_lt (ht (i))) (by decide)) ?_
        refine Wq.pure (PR.moveI rfl) ?_
        refine Wq.pure (PR.shl (a := (((t (i)) >>> k) &&& 1)) (n := i) rfl rfl (by decide)) ?_
        refine Wq.pure (PR.or (a := d (k)) (b := (((((t (i)) >>> k) &&& 1) <<< i) % 256)) rfl rfl (by decide) (hdb (k)) (Nat.mod_lt _ (by decide))) ?_
        refine Wq.pure (PR.idxAddrS1 (i := k) tS_97 rfl rfl (by omega)) ?_
        refine Wq.nil (fun w10 hbel => ?_)
        replace st := st.call hbel
        clear hbel
        refine Wl.store (i := 0) (cs' := arrU .u8 m (upd d (k) (((d (k)) ||| (((((t (i)) >>> k) &&& 1) <<< i) % 256))))) st tA_5 rfl rfl rfl rfl (lt_of_len (arrU_len _) (by omega)) (arrU_set0) ?_
        clear st
        intro w11 st
        replace st : St [] w w11 [(b12, arrU .u8 m (upd d (k) (((d (k)) ||| (((((t (i)) >>> k) &&& 1) <<< i) % 256)))), 5)] := st
        refine Wl.nil ?_
        refine bn ?_
        refine tn ?_
        refine Wc.region rfl ?_
        refine Wl.pure (PR.add (a := ((k : Nat) : Int)) (b := 1) rfl rfl (by simp only [fitI]; omega)) ?_
        refine Wl.pure (PR.moveI rfl) ?_
        refine Wl.nil ?_
        refine tn ?_
        exact ⟨(k + 1, upd d (k) (((d (k)) ||| (((((t (i)) >>> k) &&& 1) <<< i) % 256)))), (.cons rfl (.cons rfl (.cons rfl (.cons rfl (.cons rfl (.cons rfl (.cons rfl (.cons rfl (.cons rfl (.cons rfl (.cons rfl (.cons rfl (.cons rfl (.cons rfl (.cons rfl (.cons rfl (.cons rfl (.cons rfl (.cons rfl (.cons rfl (.nil _))))))))))))))))))))), ⟨st, (by first | omega | (dsimp only; omega)), (col_lo hlo hhi (by omega) (by omega)), (col_hi hhi), (upd_lt hdb (or_lt_u8 (hdb _) (Nat.mod_lt _ (by decide))))⟩, (by first | omega | (dsimp only; omega))⟩
      · refine Wc.exit ?_
        refine tx ?_
        refine tx ?_
        refine bh ?_
        refine bn ?_
        refine tn ?_
        refine Wc.region rfl ?_
        refine Wl.pure (PR.add (a := ((i : Nat) : Int)) (b := 1) rfl rfl (by simp only [fitI]; omega)) ?_
        refine Wl.pure (PR.moveI rfl) ?_
        refine Wl.nil ?_
        refine tn ?_
        exact ⟨(i + 1, d), (.cons rfl (.cons rfl (.cons rfl (.cons rfl (.cons rfl (.cons rfl (.nil _))))))), ⟨st, (by first | omega | (dsimp only; omega)), (by first | exact fun j hj => hlo j (by omega) | exact col_skip hd (by omega)), hdb⟩, (by first | omega | (dsimp only; omega))⟩
  · refine Wc.exit ?_
    refine tx ?_
    refine tx ?_
    refine bh ?_
    refine tn ?_
    refine Wc.seq ?_
    refine Wc.region rfl ?_
    refine Wl.pure (PR.moveL rfl) ?_
    refine Wl.pure (PR.assL rfl) ?_
    refine Wl.nil ?_
    refine tn ?_
    refine Wc.ret ?_
    refine postL.tmp rfl rfl ?_
    obtain rfl : i = 6 := by omega
    exact st.retS (i := 0) rfl (arrU_congr (fun j hj => hd j hj))

set_option maxHeartbeats 400000 in
set_option maxRecDepth 4000 in
theorem c_columnsT {s : Nat} {p : Nat} {a : Nat → Nat} {b : Nat → Nat} {x : Nat} {w : World} (hp8 : 1 ≤ p ∧ p ≤ 8) (ha : ∀ k, a k < 256) (hb : ∀ k, b k < 256) (hx : x < 256) :
    CE Try.prog 77 [.agg (schV ((s : Nat) : Int) ((p : Nat) : Int) (a) (b)).toArray, .int .u8 (((x : Nat) : Int)), .bool true] w (RetS w 5 (p) (p) (arrU .u8 p (colR b x 6))) := by
  refine CE.enter 15 [(0, .agg (schV ((s : Nat) : Int) ((p : Nat) : Int) (a) (b)).toArray), (1, .int .u8 (((x : Nat) : Int))), (2, .bool true)] en_77 Try.func77 rfl rfl (Nat.le_of_ble_eq_true rfl) rfl ?_
  have st := St.start w
  refine Wc.seq ?_
  refine Wc.region rfl ?_
  refine Wl.boxA st rfl ?_
  clear st
  intro b3 w1 st
  refine Wl.pure (PR.assL rfl) ?_
  refine Wl.nil ?_
  refine tn ?_
  refine Wc.seq ?_
  refine Wc.tree1 (w0 := w) (X := []) (Ks := [b3]) (S := fun i => i == 1 || i == 7) (.st 0 0 (.st 4 0 (.st 6 0 (.st 5 3 (.st 1 2 (.st 2 0 (.st 3 0 (.st 7 2 (.st 8 0 PT.nil))))))))) hmix (by kernel_rfl) (by kernel_rfl) rfl rfl ?_
  intro w2 hbel
  replace st := st.call hbel
  clear hbel
  refine WT.pure rfl (PR.moveB rfl) ?_
  refine WT.pure rfl (PR.fieldAddr tF_31_1 rfl) ?_
  refine WT.pure rfl (PR.moveI rfl) ?_
  refine WT.load (j := 0) rfl (by simp) st tA_22 rfl rfl (rfl) ?_
  have st0 := st
  refine WT.s rfl rfl ?_
  refine Wl.callV (c_rowsT (bk := b3) (o := 0) (s := ((s : Nat) : Int)) (p := ((p : Nat) : Int)) (a := a) (b := b) (st.rdA (i := 0) rfl (all_sub schV_len))) rfl ?_
  intro w3 hbel
  replace st := st.call hbel
  clear hbel
  refine Wl.nil ⟨rfl, RK.of st0 st (ksC (i := 0) (j := 0) rfl rfl rfl ksN), ?_⟩
  clear st0
  refine WT.pure rfl (PR.nil_ rfl) ?_
  refine WT.pure rfl (PR.sliceArr tE_23 rfl) ?_
  have st0 := st
  refine WT.s rfl rfl ?_
  refine Wl.callS st (c_impl_columnsOf (A := some ⟨b3, 8, none⟩) (cp := 6) (t := b) (m := p) (x := x) ((st.rdA (i := 0) rfl schV_sub_b).sl) hb (by first | assumption | omega) hx) rfl ?_
  clear st
  intro b14 w4 st
  refine Wl.nil ⟨rfl, RK.of st0 st (ksC (i := 0) (j := 1) rfl rfl rfl ksN), ?_⟩
  clear st0
  refine WT.pure rfl (PR.assL rfl) ?_
  refine WT.nil ?_
  refine tn ?_
  refine Wc.ret ?_
  refine postL.tmp rfl rfl ?_
  exact st.retS (i := 0) rfl rfl

set_option maxHeartbeats 400000 in
set_option maxRecDepth 4000 in
theorem c_columnsF {s : Nat} {p : Nat} {a : Nat → Nat} {b : Nat → Nat} {x : Nat} {w : World} (hp8 : 1 ≤ p ∧ p ≤ 8) (ha : ∀ k, a k < 256) (hb : ∀ k, b k < 256) (hx : x < 256) :
    CE Try.prog 77 [.agg (schV ((s : Nat) : Int) ((p : Nat) : Int) (a) (b)).toArray, .int .u8 (((x : Nat) : Int)), .bool false] w (RetS w 5 (p) (p) (arrU .u8 p (colR a x 6))) := by
  refine CE.enter 15 [(0, .agg (schV ((s : Nat) : Int) ((p : Nat) : Int) (a) (b)).toArray), (1, .int .u8 (((x : Nat) : Int))), (2, .bool false)] en_77 Try.func77 rfl rfl (Nat.le_of_ble_eq_true rfl) rfl ?_
  have st := St.start w
  refine Wc.seq ?_
  refine Wc.region rfl ?_
  refine Wl.boxA st rfl ?_
  clear st
  intro b3 w1 st
  refine Wl.pure (PR.assL rfl) ?_
  refine Wl.nil ?_
  refine tn ?_
  refine Wc.seq ?_
  refine Wc.tree1 (w0 := w) (X := []) (Ks := [b3]) (S := fun i => i == 1 || i == 7) (.st 0 0 (.st 4 0 (.st 6 0 (.st 5 3 (.st 1 2 (.st 2 0 (.st 3 0 (.st 7 2 (.st 8 0 PT.nil))))))))) hmix (by kernel_rfl) (by kernel_rfl) rfl rfl ?_
  intro w2 hbel
  replace st := st.call hbel
  clear hbel
  refine WT.pure rfl (PR.moveB rfl) ?_
  refine WT.pure rfl (PR.fieldAddr tF_31_1 rfl) ?_
  refine WT.pure rfl (PR.moveI rfl) ?_
  refine WT.load (j := 0) rfl (by simp) st tA_22 rfl rfl (rfl) ?_
  have st0 := st
  refine WT.s rfl rfl ?_
  refine Wl.callV (c_rowsF (bk := b3) (o := 0) (s := ((s : Nat) : Int)) (p := ((p : Nat) : Int)) (a := a) (b := b) (st.rdA (i := 0) rfl (all_sub schV_len))) rfl ?_
  intro w3 hbel
  replace st := st.call hbel
  clear hbel
  refine Wl.nil ⟨rfl, RK.of st0 st (ksC (i := 0) (j := 0) rfl rfl rfl ksN), ?_⟩
  clear st0
  refine WT.pure rfl (PR.nil_ rfl) ?_
  refine WT.pure rfl (PR.sliceArr tE_23 rfl) ?_
  have st0 := st
  refine WT.s rfl rfl ?_
  refine Wl.callS st (c_impl_columnsOf (A := some ⟨b3, 2, none⟩) (cp := 6) (t := a) (m := p) (x := x) ((st.rdA (i := 0) rfl schV_sub_a).sl) ha (by first | assumption | omega) hx) rfl ?_
  clear st
  intro b14 w4 st
  refine Wl.nil ⟨rfl, RK.of st0 st (ksC (i := 0) (j := 1) rfl rfl rfl ksN), ?_⟩
  clear st0
  refine WT.pure rfl (PR.assL rfl) ?_
  refine WT.nil ?_
  refine tn ?_
  refine Wc.ret ?_
  refine postL.tmp rfl rfl ?_
  exact st.retS (i := 0) rfl rfl

set_option maxHeartbeats 400000 in
set_option maxRecDepth 4000 in
theorem c_sortedColumnsT {s : Nat} {p : Nat} {a : Nat → Nat} {b : Nat → Nat} {x : Nat} {w : World} (hp8 : 1 ≤ p ∧ p ≤ 8) (ha : ∀ k, a k < 256) (hb : ∀ k, b k < 256) (hx : x < 256) :
    CE Try.prog 73 [.agg (schV ((s : Nat) : Int) ((p : Nat) : Int) (a) (b)).toArray, .int .u8 (((x : Nat) : Int)), .bool true] w (RetXG w [] 5 1 (p) (arrU .u8 p (srtF p (colR b x 6))) (fun b_ c_ => .slice (some ⟨b_, 0, none⟩) (p) (c_)) []) := by
  refine CE.enter 13 [(0, .agg (schV ((s : Nat) : Int) ((p : Nat) : Int) (a) (b)).toArray), (1, .int .u8 (((x : Nat) : Int))), (2, .bool true)] en_73 Try.func73 rfl rfl (Nat.le_of_ble_eq_true rfl) rfl ?_
  have st := St.start w
  refine Wc.seq ?_
  refine Wc.region rfl ?_
  refine Wl.boxA st rfl ?_
  clear st
  intro b3 w1 st
  refine Wl.pure (PR.assL rfl) ?_
  refine Wl.nil ?_
  refine tn ?_
  refine Wc.seq ?_
  refine Wc.region rfl ?_
  refine Wl.loadA (i := 0) st tA_31 rfl rfl (all_sub schV_len) schV_len ?_
  refine Wl.pure (PR.moveI rfl) ?_
  refine Wl.pure (PR.moveB rfl) ?_
  refine Wl.callS st (c_columnsT (s := s) (p := p) (a := a) (b := b) (x := x) (by first | assumption | omega) ha hb hx) rfl ?_
  clear st
  intro b10 w2 st
  refine Wl.callXG [] st (c_slices_Values_uint8_uint8 (A := some ⟨b10, 0, none⟩) (n := p) (cp := p)) rfl rfl ?_
  clear st
  intro b11 c11 sp11 w3 hc11 hs11 st
  replace st : St [] w w3 [(b11, [.slice (some ⟨b10, 0, none⟩) (p) (p)] ++ sp11, 97), (b10, arrU .u8 p (colR b x 6), 5), (b3, schV ((s : Nat) : Int) ((p : Nat) : Int) (a) (b), 31)] := st
  refine Wl.callXG [] st (c_slices_Sorted_uint8 (b1 := b11) (o1 := 0) (A := some ⟨b10, 0, none⟩) (n := p) (cp := p) (c := (colR b x 6)) (st.rdA (i := 0) (n := 1) rfl (app_all rfl)) ((st.rdA (i := 1) (n := p) rfl (all_sub (arrU_len _))).sl) ⟨by omega, by omega⟩ (colR_lt b x 6)) rfl rfl ?_
  clear st
  intro b12 c12 sp12 w4 hc12 hs12 st
  replace st : St [] w w4 [(b12, arrU .u8 p (srtF p (colR b x 6)) ++ sp12, 5), (b11, [.slice (some ⟨b10, 0, none⟩) (p) (p)] ++ sp11, 97), (b10, arrU .u8 p (colR b x 6), 5), (b3, schV ((s : Nat) : Int) ((p : Nat) : Int) (a) (b), 31)] := st
  refine Wl.pure (PR.assL rfl) ?_
  refine Wl.nil ?_
  refine tn ?_
  refine Wc.ret ?_
  refine postL.tmp rfl rfl ?_
  replace st : St [] w w4 [(b12, arrU .u8 p (srtF p (colR b x 6)) ++ sp12, 5)] := st.pick [0] (by decide) rfl
  exact ⟨b12, c12, sp12, hc12, hs12, rfl, st⟩

set_option maxHeartbeats 400000 in
set_option maxRecDepth 4000 in
theorem c_sortedColumnsF {s : Nat} {p : Nat} {a : Nat → Nat} {b : Nat → Nat} {x : Nat} {w : World} (hp8 : 1 ≤ p ∧ p ≤ 8) (ha : ∀ k, a k < 256) (hb : ∀ k, b k < 256) (hx : x < 256) :
    CE Try.prog 73 [.agg (schV ((s : Nat) : Int) ((p : Nat) : Int) (a) (b)).toArray, .int .u8 (((x : Nat) : Int)), .bool false] w (RetXG w [] 5 1 (p) (arrU .u8 p (srtF p (colR a x 6))) (fun b_ c_ => .slice (some ⟨b_, 0, none⟩) (p) (c_)) []) := by
  refine CE.enter 13 [(0, .agg (schV ((s : Nat) : Int) ((p : Nat) : Int) (a) (b)).toArray), (1, .int .u8 (((x : Nat) : Int))), (2, .bool false)] en_73 Try.func73 rfl rfl (Nat.le_of_ble_eq_true rfl) rfl ?_
  have st := St.start w
  refine Wc.seq ?_
  refine Wc.region rfl ?_
  refine Wl.boxA st rfl ?_
  clear st
  intro b3 w1 st
  refine Wl.pure (PR.assL rfl) ?_
  refine Wl.nil ?_
  refine tn ?_
  refine Wc.seq ?_
  refine Wc.region rfl ?_
  refine Wl.loadA (i := 0) st tA_31 rfl rfl (all_sub schV_len) schV_len ?_
  refine Wl.pure (PR.moveI rfl) ?_
  refine Wl.pure (PR.moveB rfl) ?_
  refine Wl.callS st (c_columnsF (s := s) (p := p) (a := a) (b := b) (x := x) (by first | assumption | omega) ha hb hx) rfl ?_
  clear st
  intro b10 w2 st
  refine Wl.callXG [] st (c_slices_Values_uint8_uint8 (A := some ⟨b10, 0, none⟩) (n := p) (cp := p)) rfl rfl ?_
  clear st
  intro b11 c11 sp11 w3 hc11 hs11 st
  replace st : St [] w w3 [(b11, [.slice (some ⟨b10, 0, none⟩) (p) (p)] ++ sp11, 97), (b10, arrU .u8 p (colR a x 6), 5), (b3, schV ((s : Nat) : Int) ((p : Nat) : Int) (a) (b), 31)] := st
  refine Wl.callXG [] st (c_slices_Sorted_uint8 (b1 := b11) (o1 := 0) (A := some ⟨b10, 0, none⟩) (n := p) (cp := p) (c := (colR a x 6)) (st.rdA (i := 0) (n := 1) rfl (app_all rfl)) ((st.rdA (i := 1) (n := p) rfl (all_sub (arrU_len _))).sl) ⟨by omega, by omega⟩ (colR_lt a x 6)) rfl rfl ?_
  clear st
  intro b12 c12 sp12 w4 hc12 hs12 st
  replace st : St [] w w4 [(b12, arrU .u8 p (srtF p (colR a x 6)) ++ sp12, 5), (b11, [.slice (some ⟨b10, 0, none⟩) (p) (p)] ++ sp11, 97), (b10, arrU .u8 p (colR a x 6), 5), (b3, schV ((s : Nat) : Int) ((p : Nat) : Int) (a) (b), 31)] := st
  refine Wl.pure (PR.assL rfl) ?_
  refine Wl.nil ?_
  refine tn ?_
  refine Wc.ret ?_
  refine postL.tmp rfl rfl ?_
  replace st : St [] w w4 [(b12, arrU .u8 p (srtF p (colR a x 6)) ++ sp12, 5)] := st.pick [0] (by decide) rfl
  exact ⟨b12, c12, sp12, hc12, hs12, rfl, st⟩

set_option maxHeartbeats 400000 in
set_option maxRecDepth 4000 in
theorem c_slices_Equal_uint8_uint8 {A : Option Addr} {n : Nat} {cp : Nat} {c : Nat → Nat} {B : Option Addr} {cq : Nat} {d : Nat → Nat} {w : World} (hR : RdS w A n (arrU .u8 n c)) (hQ : RdS w B n (arrU .u8 n d)) (hc : ∀ k, c k < 256) (hd : ∀ k, d k < 256) (hn : n ≤ 1000) :
    CE Try.prog 72 [.slice (A) (n) (cp), .slice (B) (n) (cq)] w (RetV w (.bool (eqR n c d))) := by
  refine CE.enter 26 [(0, .slice (A) (n) (cp)), (1, .slice (B) (n) (cq))] en_72 Try.func72 rfl rfl (Nat.le_of_ble_eq_true rfl) rfl ?_
  have st := St.start w
  refine Wc.seq ?_
  refine Wc.region rfl ?_
  refine Wl.pure (PR.assB rfl) ?_
  refine Wl.nil ?_
  refine tn ?_
  refine Wc.seq ?_
  refine Wc.seq ?_
  refine Wc.region rfl ?_
  refine Wl.pure (PR.moveL rfl) ?_
  refine Wl.pure (PR.lenL tS_97 rfl) ?_
  refine Wl.pure (PR.moveL rfl) ?_
  refine Wl.pure (PR.lenL tS_97 rfl) ?_
  refine Wl.pure (PR.neqS (a := ((n : Nat) : Int)) rfl rfl) ?_
  refine Wl.nil ?_
  refine tn ?_
  refine Wc.condF rfl ?_
  refine Wc.skip ?_
  refine tn ?_
  refine Wc.seq ?_
  refine Wc.seq ?_
  refine Wc.region rfl ?_
  refine Wl.pure (PR.moveL rfl) ?_
  refine Wl.pure (PR.lenL tS_97 rfl) ?_
  refine Wl.pure (PR.moveI rfl) ?_
  refine Wl.nil ?_
  refine tn ?_
  refine Wc.block ?_
  refine Wc.loopF (γ := Nat) (fun g => [(0, .slice (A) (n) (cp)), (1, .slice (B) (n) (cq)), (12, .int .i64 (((n : Nat) : Int))), (13, .int .i64 (((g : Nat) : Int)))]) (fun g w_ => St [] w w_ [] ∧ (g ≤ n) ∧ (∀ j, j < g → c j = d j)) (fun g => n - g) ?_ ?_
  · exact ⟨0, (.cons rfl (.cons rfl (.cons rfl (.cons rfl (.nil _))))), st, (by first | omega | (dsimp only; omega)), (fun j hj => by omega)⟩
  clear st
  rintro k w1 ⟨st, hk, hg⟩
  try dsimp only at st hk hg ⊢
  refine Wc.seq ?_
  refine Wc.region rfl ?_
  refine Wl.pure (PR.lss (a := ((k : Nat) : Int)) (b := ((n : Nat) : Int)) rfl rfl) ?_
  refine Wl.nil ?_
  refine tn ?_
  refine Wc.seq ?_
  refine Wc.condD (p := ((k : Nat) : Int) < ((n : Nat) : Int)) rfl (fun h2 => ?_) (fun h2 => ?_)
  · refine Wc.skip ?_
    refine tn ?_
    refine Wc.seq ?_
    refine Wc.block ?_
    refine Wc.seq ?_
    refine Wc.region rfl ?_
    refine Wl.pure (PR.moveI rfl) ?_
    refine Wl.pure (PR.assI rfl) ?_
    refine Wl.nil ?_
    refine tn ?_
    refine Wc.seq ?_
    refine Wc.quiet hmix (by kernel_rfl) rfl ?_
    refine Wq.pure (PR.moveL rfl) ?_
    refine Wq.pure (PR.moveI rfl) ?_
    obtain ⟨bs3, os4, rfl, hs5⟩ := hR (by omega)
    refine Wq.pure (PR.idxAddrS1 (i := k) tS_97 rfl rfl (by omega)) ?_
    refine Wq.loadC tA_5 rfl ((hs5.st st).at_ (arrU_get0 (by omega)) (Nat.add_assoc _ _ _).symm) ?_
    refine Wq.pure (PR.moveL rfl) ?_
    refine Wq.pure (PR.moveI rfl) ?_
    obtain ⟨bs6, os7, rfl, hs8⟩ := hQ (by omega)
    refine Wq.pure (PR.idxAddrS1 (i := k) tS_97 rfl rfl (by omega)) ?_
    refine Wq.loadC tA_5 rfl ((hs8.st st).at_ (arrU_get0 (by omega)) (Nat.add_assoc _ _ _).symm) ?_
    refine Wq.pure (PR.neq (a := ((c (k) : Nat) : Int)) (b := ((d (k) : Nat) : Int)) rfl rfl) ?_
    refine Wq.nil (fun w9 hbel => ?_)
    replace st := st.call hbel
    clear hbel
    refine tn ?_
    refine Wc.condN (p := ((c (k) : Nat) : Int) = ((d (k) : Nat) : Int)) rfl (fun h10 => ?_) (fun h10 => ?_)
    · refine Wc.seq ?_
      refine Wc.region rfl ?_
      refine Wl.pure (PR.assB rfl) ?_
      refine Wl.nil ?_
      refine tn ?_
      refine Wc.ret ?_
      refine br ?_
      refine tr ?_
      refine tr ?_
      refine br ?_
      refine tr ?_
      refine postL.tmp rfl rfl ?_
      refine RetV.of ?_ st.below
      refine congrArg Value.bool ?_
      exact eqR_f (k := k) (by omega) (by omega)
    · refine Wc.skip ?_
      refine bn ?_
      refine tn ?_
      refine Wc.region rfl ?_
      refine Wl.pure (PR.add (a := ((k : Nat) : Int)) (b := 1) rfl rfl (by simp only [fitI]; omega)) ?_
      refine Wl.pure (PR.moveI rfl) ?_
      refine Wl.nil ?_
      refine tn ?_
      exact ⟨k + 1, (.cons rfl (.cons rfl (.cons rfl (.cons rfl (.nil _))))), ⟨st, (by first | omega | (dsimp only; omega)), (all_snoc hg (by omega))⟩, (by first | omega | (dsimp only; omega))⟩
  · refine Wc.exit ?_
    refine tx ?_
    refine tx ?_
    refine bh ?_
    refine tn ?_
    refine Wc.seq ?_
    refine Wc.region rfl ?_
    refine Wl.pure (PR.assB rfl) ?_
    refine Wl.nil ?_
    refine tn ?_
    refine Wc.ret ?_
    refine postL.tmp rfl rfl ?_
    refine RetV.of ?_ st.below
    refine congrArg Value.bool ?_
    exact eqR_t (fun j hj => hg j (by omega))

set_option maxHeartbeats 400000 in
set_option maxRecDepth 4000 in
theorem c_impl_Scheme_learnsNothing {s : Nat} {p : Nat} {a : Nat → Nat} {b : Nat → Nat} {x : Nat} {w : World} (hp8 : 1 ≤ p ∧ p ≤ 8) (ha : ∀ k, a k < 256) (hb : ∀ k, b k < 256) (hx : x < 256) :
    CE Try.prog 68 [.agg (schV ((s : Nat) : Int) ((p : Nat) : Int) (a) (b)).toArray, .int .u8 (((x : Nat) : Int))] w (RetV w (.bool (blB p a b x))) := by
  refine CE.enter 12 [(0, .agg (schV ((s : Nat) : Int) ((p : Nat) : Int) (a) (b)).toArray), (1, .int .u8 (((x : Nat) : Int)))] en_68 Try.func68 rfl rfl (Nat.le_of_ble_eq_true rfl) rfl ?_
  have st := St.start w
  refine Wc.seq ?_
  refine Wc.region rfl ?_
  refine Wl.boxA st rfl ?_
  clear st
  intro b2 w1 st
  refine Wl.pure (PR.assB rfl) ?_
  refine Wl.nil ?_
  refine tn ?_
  refine Wc.seq ?_
  refine Wc.tree1 (w0 := w) (X := []) (Ks := [b2]) (S := fun i => i == 2 || i == 5 || i == 6) (.st 1 0 (.st 4 0 (.st 0 3 (.st 3 3 (.st 2 2 (.st 5 2 (.st 6 2 (.st 7 0 PT.nil)))))))) hmix (by kernel_rfl) (by kernel_rfl) rfl rfl ?_
  intro w2 hbel
  replace st := st.call hbel
  clear hbel
  refine WT.pure rfl (PR.moveI rfl) ?_
  refine WT.pure rfl (PR.moveI rfl) ?_
  refine WT.loadA (j := 0) rfl (by simp) st tA_31 rfl rfl (all_sub schV_len) schV_len ?_
  refine WT.loadA (j := 0) rfl (by simp) st tA_31 rfl rfl (all_sub schV_len) schV_len ?_
  have st0 := st
  refine WT.s rfl rfl ?_
  refine Wl.callXG [] st (c_sortedColumnsF (s := s) (p := p) (a := a) (b := b) (x := x) (by first | assumption | omega) ha hb hx) rfl rfl ?_
  clear st
  intro b7 c7 sp7 w3 hc7 hs7 st
  replace st : St [] w w3 [(b7, arrU .u8 p (srtF p (colR a x 6)) ++ sp7, 5), (b2, schV ((s : Nat) : Int) ((p : Nat) : Int) (a) (b), 31)] := st
  refine Wl.nil ⟨rfl, RK.of st0 st (ksC (i := 0) (j := 1) rfl rfl rfl ksN), ?_⟩
  clear st0
  have st0 := st
  refine WT.s rfl rfl ?_
  refine Wl.callXG [] st (c_sortedColumnsT (s := s) (p := p) (a := a) (b := b) (x := x) (by first | assumption | omega) ha hb hx) rfl rfl ?_
  clear st
  intro b10 c10 sp10 w4 hc10 hs10 st
  replace st : St [] w w4 [(b10, arrU .u8 p (srtF p (colR b x 6)) ++ sp10, 5), (b7, arrU .u8 p (srtF p (colR a x 6)) ++ sp7, 5), (b2, schV ((s : Nat) : Int) ((p : Nat) : Int) (a) (b), 31)] := st
  refine Wl.nil ⟨rfl, RK.of st0 st (ksC (i := 1) (j := 2) rfl rfl rfl ksN), ?_⟩
  clear st0
  have st0 := st
  refine WT.s rfl rfl ?_
  refine Wl.callV (c_slices_Equal_uint8_uint8 (A := some ⟨b7, 0, none⟩) (n := p) (cp := c7) (c := (srtF p (colR a x 6))) (B := some ⟨b10, 0, none⟩) (cq := c10) (d := (srtF p (colR b x 6))) ((st.rdA (i := 1) (n := p) rfl (app_all (arrU_len _))).sl) ((st.rdA (i := 0) (n := p) rfl (app_all (arrU_len _))).sl) (srtF_lt (colR_lt a x 6)) (srtF_lt (colR_lt b x 6)) (by first | assumption | omega)) rfl ?_
  intro w5 hbel
  replace st := st.call hbel
  clear hbel
  refine Wl.nil ⟨rfl, RK.of st0 st (ksC (i := 2) (j := 2) rfl rfl rfl ksN), ?_⟩
  clear st0
  refine WT.pure rfl (PR.assB rfl) ?_
  refine WT.nil ?_
  refine tn ?_
  refine Wc.ret ?_
  refine postL.tmp rfl rfl ?_
  refine RetV.of ?_ st.below
  refine congrArg Value.bool ?_
  unfold eqR blB; rfl

set_option maxHeartbeats 400000 in
set_option maxRecDepth 4000 in
theorem c_l02ColumnT {bk : Nat} {o : Nat} {s : Nat} {p : Nat} {a : Nat → Nat} {b : Nat → Nat} {x : Nat} {j : Nat} {w : World} (hR : RdA w bk o (schV ((s : Nat) : Int) ((p : Nat) : Int) a b)) (hp8 : 1 ≤ p ∧ p ≤ 8) (ha : ∀ k, a k < 256) (hb : ∀ k, b k < 256) (hx : x < 256) (hj : j < 8) :
    CE Try.prog 78 [.pointer (some ⟨bk, o, none⟩), .int .u8 (((x : Nat) : Int)), .bool true, .int .i64 (((j : Nat) : Int))] w (RetV w (.int .u8 (((colR b x 6 j : Nat) : Int)))) := by
  refine CE.enter 34 [(0, .pointer (some ⟨bk, o, none⟩)), (1, .int .u8 (((x : Nat) : Int))), (2, .bool true), (3, .int .i64 (((j : Nat) : Int)))] en_78 Try.func78 rfl rfl (Nat.le_of_ble_eq_true rfl) rfl ?_
  have st := St.start w
  refine Wc.seq ?_
  refine Wc.region rfl ?_
  refine Wl.pure (PR.assI rfl) ?_
  refine Wl.nil ?_
  refine tn ?_
  refine Wc.seq ?_
  refine Wc.region rfl ?_
  refine Wl.pure (PR.moveP rfl) ?_
  refine Wl.pure (PR.moveB rfl) ?_
  refine Wl.callV (c_l02RowsT (bk := bk) (o := o) (s := ((s : Nat) : Int)) (p := ((p : Nat) : Int)) (a := a) (b := b) (hR.st st)) rfl ?_
  intro w1 hbel
  replace st := st.call hbel
  clear hbel
  refine Wl.alloc st tZ_23 rfl ?_
  clear st
  intro b9 w2 st
  refine Wl.storeA (i := 0) (cs' := arrU .u8 6 b) st tA_23 rfl rfl (arrU_len _) (arrU_one _) rfl (le_of_len (arrU_len _) (by omega)) (all_put (arrU_len _)) ?_
  clear st
  intro w3 st
  replace st : St [] w w3 [(b9, arrU .u8 6 b, 23)] := st
  refine Wl.nil ?_
  refine tn ?_
  refine Wc.seq ?_
  refine Wc.region rfl ?_
  refine Wl.pure (PR.assI rfl) ?_
  refine Wl.nil ?_
  refine tn ?_
  refine Wc.seq ?_
  refine Wc.seq ?_
  refine Wc.region rfl ?_
  refine Wl.pure (PR.assI rfl) ?_
  refine Wl.nil ?_
  refine tn ?_
  refine Wc.block ?_
  refine Wc.loopF (γ := Nat × Nat) (fun g => [(1, .int .u8 (((x : Nat) : Int))), (3, .int .i64 (((j : Nat) : Int))), (8, .int .u8 (0)), (9, .pointer (some ⟨b9, 0, none⟩)), (10, .int .u8 (((g.2 : Nat) : Int))), (11, .int .i64 (((g.1 : Nat) : Int)))]) (fun g w_ => St [] w w_ [(b9, arrU .u8 6 b, 23)] ∧ (g.1 ≤ 6) ∧ (g.2 = colA b j g.1) ∧ (g.2 < 256)) (fun g => 6 - g.1) ?_ ?_
  · exact ⟨(0, 0), (.cons rfl (.cons rfl (.cons rfl (.cons rfl (.cons rfl (.cons rfl (.nil _))))))), st, (by first | omega | (dsimp only; omega)), rfl, (by decide)⟩
  clear st
  rintro ⟨i, v⟩ w4 ⟨st, hi, hv, hvb⟩
  try dsimp only at st hi hv hvb ⊢
  refine Wc.seq ?_
  refine Wc.seq ?_
  refine Wc.region rfl ?_
  refine Wl.pure (PR.moveI rfl) ?_
  refine Wl.pure (PR.lss (a := ((i : Nat) : Int)) (b := 6) rfl rfl) ?_
  refine Wl.nil ?_
  refine tn ?_
  refine Wc.condD (p := ((i : Nat) : Int) < 6) rfl (fun h5 => ?_) (fun h5 => ?_)
  · refine Wc.skip ?_
    refine tn ?_
    refine Wc.seq ?_
    refine Wc.block ?_
    refine Wc.region rfl ?_
    refine Wl.pure (PR.moveI rfl) ?_
    refine Wl.pure (PR.moveI rfl) ?_
    refine Wl.pure (PR.idxAddrA1 (i := i) tE_23 rfl rfl (by omega)) ?_
    refine Wl.load (i := 0) st tA_5 rfl rfl (arrU_get0 (by omega)) ?_
    refine Wl.pure (PR.moveI rfl) ?_
    refine Wl.pure (PR.conv (n := ((j : Nat) : Int)) tI_52 rfl (by simp only [fitI]; omega) Try.underlying3) ?_
    refine Wl.pure (PR.shr (a := b (i)) (n := j) rfl rfl (by decide) (hb (i))) ?_
    refine Wl.pure (PR.and (a := ((b (i)) >>> j)) (b := 1) rfl rfl (by decide) (shr_lt (hb (i))) (by decide)) ?_
    refine Wl.pure (PR.moveI rfl) ?_
    refine Wl.pure (PR.conv (n := ((i : Nat) : Int)) tI_52 rfl (by simp only [fitI]; omega) Try.underlying3) ?_
    refine Wl.pure (PR.shl (a := (((b (i)) >>> j) &&& 1)) (n := i) rfl rfl (by decide)) ?_
    refine Wl.pure (PR.or (a := v) (b := (((((b (i)) >>> j) &&& 1) <<< i) % 256)) rfl rfl (by decide) hvb (Nat.mod_lt _ (by decide))) ?_
    refine Wl.pure (PR.assI rfl) ?_
    refine Wl.nil ?_
    refine bn ?_
    refine tn ?_
    refine Wc.region rfl ?_
    refine Wl.pure (PR.moveI rfl) ?_
    refine Wl.pure (PR.add (a := ((i : Nat) : Int)) (b := 1) rfl rfl (by simp only [fitI]; omega)) ?_
    refine Wl.pure (PR.assI rfl) ?_
    refine Wl.nil ?_
    refine tn ?_
    exact ⟨(i + 1, (v ||| (((((b (i)) >>> j) &&& 1) <<< i) % 256))), (.cons rfl (.cons rfl (.cons rfl (.cons rfl (.cons rfl (.cons rfl (.nil _))))))), ⟨st, (by first | omega | (dsimp only; omega)), (colA_next hv), (or_lt_u8 hvb (Nat.mod_lt _ (by decide)))⟩, (by first | omega | (dsimp only; omega))⟩
  · refine Wc.exit ?_
    refine tx ?_
    refine tx ?_
    refine bh ?_
    refine tn ?_
    refine Wc.seq ?_
    refine Wc.region rfl ?_
    refine Wl.pure (PR.moveI rfl) ?_
    refine Wl.pure (PR.moveI rfl) ?_
    refine Wl.pure (PR.and (a := v) (b := x) rfl rfl (by decide) hvb hx) ?_
    refine Wl.pure (PR.assI rfl) ?_
    refine Wl.nil ?_
    refine tn ?_
    refine Wc.ret ?_
    refine postL.tmp rfl rfl ?_
    refine RetV.of ?_ st.below
    refine congrArg (fun x : Nat => Value.int .u8 (x : Int)) ?_
    obtain rfl : i = 6 := by omega
    rw [hv]; exact colA_and _ _ _ 6 (by decide)

set_option maxHeartbeats 400000 in
set_option maxRecDepth 4000 in
theorem c_l02ColumnF {bk : Nat} {o : Nat} {s : Nat} {p : Nat} {a : Nat → Nat} {b : Nat → Nat} {x : Nat} {j : Nat} {w : World} (hR : RdA w bk o (schV ((s : Nat) : Int) ((p : Nat) : Int) a b)) (hp8 : 1 ≤ p ∧ p ≤ 8) (ha : ∀ k, a k < 256) (hb : ∀ k, b k < 256) (hx : x < 256) (hj : j < 8) :
    CE Try.prog 78 [.pointer (some ⟨bk, o, none⟩), .int .u8 (((x : Nat) : Int)), .bool false, .int .i64 (((j : Nat) : Int))] w (RetV w (.int .u8 (((colR a x 6 j : Nat) : Int)))) := by
  refine CE.enter 34 [(0, .pointer (some ⟨bk, o, none⟩)), (1, .int .u8 (((x : Nat) : Int))), (2, .bool false), (3, .int .i64 (((j : Nat) : Int)))] en_78 Try.func78 rfl rfl (Nat.le_of_ble_eq_true rfl) rfl ?_
  have st := St.start w
  refine Wc.seq ?_
  refine Wc.region rfl ?_
  refine Wl.pure (PR.assI rfl) ?_
  refine Wl.nil ?_
  refine tn ?_
  refine Wc.seq ?_
  refine Wc.region rfl ?_
  refine Wl.pure (PR.moveP rfl) ?_
  refine Wl.pure (PR.moveB rfl) ?_
  refine Wl.callV (c_l02RowsF (bk := bk) (o := o) (s := ((s : Nat) : Int)) (p := ((p : Nat) : Int)) (a := a) (b := b) (hR.st st)) rfl ?_
  intro w1 hbel
  replace st := st.call hbel
  clear hbel
  refine Wl.alloc st tZ_23 rfl ?_
  clear st
  intro b9 w2 st
  refine Wl.storeA (i := 0) (cs' := arrU .u8 6 a) st tA_23 rfl rfl (arrU_len _) (arrU_one _) rfl (le_of_len (arrU_len _) (by omega)) (all_put (arrU_len _)) ?_
  clear st
  intro w3 st
  replace st : St [] w w3 [(b9, arrU .u8 6 a, 23)] := st
  refine Wl.nil ?_
  refine tn ?_
  refine Wc.seq ?_
  refine Wc.region rfl ?_
  refine Wl.pure (PR.assI rfl) ?_
  refine Wl.nil ?_
  refine tn ?_
  refine Wc.seq ?_
  refine Wc.seq ?_
  refine Wc.region rfl ?_
  refine Wl.pure (PR.assI rfl) ?_
  refine Wl.nil ?_
  refine tn ?_
  refine Wc.block ?_
  refine Wc.loopF (γ := Nat × Nat) (fun g => [(1, .int .u8 (((x : Nat) : Int))), (3, .int .i64 (((j : Nat) : Int))), (8, .int .u8 (0)), (9, .pointer (some ⟨b9, 0, none⟩)), (10, .int .u8 (((g.2 : Nat) : Int))), (11, .int .i64 (((g.1 : Nat) : Int)))]) (fun g w_ => St [] w w_ [(b9, arrU .u8 6 a, 23)] ∧ (g.1 ≤ 6) ∧ (g.2 = colA a j g.1) ∧ (g.2 < 256)) (fun g => 6 - g.1) ?_ ?_
  · exact ⟨(0, 0), (.cons rfl (.cons rfl (.cons rfl (.cons rfl (.cons rfl (.cons rfl (.nil _))))))), st, (by first | omega | (dsimp only; omega)), rfl, (by decide)⟩
  clear st
  rintro ⟨i, v⟩ w4 ⟨st, hi, hv, hvb⟩
  try dsimp only at st hi hv hvb ⊢
  refine Wc.seq ?_
  refine Wc.seq ?_
  refine Wc.region rfl ?_
  refine Wl.pure (PR.moveI rfl) ?_
  refine Wl.pure (PR.lss (a := ((i : Nat) : Int)) (b := 6) rfl rfl) ?_
  refine Wl.nil ?_
  refine tn ?_
  refine Wc.condD (p := ((i : Nat) : Int) < 6) rfl (fun h5 => ?_) (fun h5 => ?_)
  · refine Wc.skip ?_
    refine tn ?_
    refine Wc.seq ?_
    refine Wc.block ?_
    refine Wc.region rfl ?_
    refine Wl.pure (PR.moveI rfl) ?_
    refine Wl.pure (PR.moveI rfl) ?_
    refine Wl.pure (PR.idxAddrA1 (i := i) tE_23 rfl rfl (by omega)) ?_
    refine Wl.load (i := 0) st tA_5 rfl rfl (arrU_get0 (by omega)) ?_
    refine Wl.pure (PR.moveI rfl) ?_
    refine Wl.pure (PR.conv (n := ((j : Nat) : Int)) tI_52 rfl (by simp only [fitI]; omega) Try.underlying3) ?_
    refine Wl.pure (PR.shr (a := a (i)) (n := j) rfl rfl (by decide) (ha (i))) ?_
    refine Wl.pure (PR.and (a := ((a (i)) >>> j)) (b := 1) rfl rfl (by decide) (shr_lt (ha (i))) (by decide)) ?_
    refine Wl.pure (PR.moveI rfl) ?_
    refine Wl.pure (PR.conv (n := ((i : Nat) : Int)) tI_52 rfl (by simp only [fitI]; omega) Try.underlying3) ?_
    refine Wl.pure (PR.shl (a := (((a (i)) >>> j) &&& 1)) (n := i) rfl rfl (by decide)) ?_
    refine Wl.pure (PR.or (a := v) (b := (((((a (i)) >>> j) &&& 1) <<< i) % 256)) rfl rfl (by decide) hvb (Nat.mod_lt _ (by decide))) ?_
    refine Wl.pure (PR.assI rfl) ?_
    refine Wl.nil ?_
    refine bn ?_
    refine tn ?_
    refine Wc.region rfl ?_
    refine Wl.pure (PR.moveI rfl) ?_
    refine Wl.pure (PR.add (a := ((i : Nat) : Int)) (b := 1) rfl rfl (by simp only [fitI]; omega)) ?_
    refine Wl.pure (PR.assI rfl) ?_
    refine Wl.nil ?_
    refine tn ?_
    exact ⟨(i + 1, (v ||| (((((a (i)) >>> j) &&& 1) <<< i) % 256))), (.cons rfl (.cons rfl (.cons rfl (.cons rfl (.cons rfl (.cons rfl (.nil _))))))), ⟨st, (by first | omega | (dsimp only; omega)), (colA_next hv), (or_lt_u8 hvb (Nat.mod_lt _ (by decide)))⟩, (by first | omega | (dsimp only; omega))⟩
  · refine Wc.exit ?_
    refine tx ?_
    refine tx ?_
    refine bh ?_
    refine tn ?_
    refine Wc.seq ?_
    refine Wc.region rfl ?_
    refine Wl.pure (PR.moveI rfl) ?_
    refine Wl.pure (PR.moveI rfl) ?_
    refine Wl.pure (PR.and (a := v) (b := x) rfl rfl (by decide) hvb hx) ?_
    refine Wl.pure (PR.assI rfl) ?_
    refine Wl.nil ?_
    refine tn ?_
    refine Wc.ret ?_
    refine postL.tmp rfl rfl ?_
    refine RetV.of ?_ st.below
    refine congrArg (fun x : Nat => Value.int .u8 (x : Int)) ?_
    obtain rfl : i = 6 := by omega
    rw [hv]; exact colA_and _ _ _ 6 (by decide)

set_option maxHeartbeats 400000 in
set_option maxRecDepth 4000 in
theorem c_l02ColumnsT {bk : Nat} {o : Nat} {s : Nat} {p : Nat} {a : Nat → Nat} {b : Nat → Nat} {x : Nat} {w : World} (hR : RdA w bk o (schV ((s : Nat) : Int) ((p : Nat) : Int) a b)) (hp8 : 1 ≤ p ∧ p ≤ 8) (ha : ∀ k, a k < 256) (hb : ∀ k, b k < 256) (hx : x < 256) :
    CE Try.prog 74 [.pointer (some ⟨bk, o, none⟩), .int .u8 (((x : Nat) : Int)), .bool true] w (RetV w (.agg (arrU .i8 64 (cntC b x p)).toArray)) := by
  refine CE.enter 29 [(0, .pointer (some ⟨bk, o, none⟩)), (1, .int .u8 (((x : Nat) : Int))), (2, .bool true)] en_74 Try.func74 rfl rfl (Nat.le_of_ble_eq_true rfl) rfl ?_
  have st := St.start w
  refine Wc.seq ?_
  refine Wc.region rfl ?_
  refine Wl.alloc st tZ_99 rfl ?_
  clear st
  intro b6 w1 st
  refine Wl.nil ?_
  refine tn ?_
  refine Wc.seq ?_
  refine Wc.region rfl ?_
  refine Wl.pure (PR.build (ps := []) (cs := arrZ .i8 64 (fun _ => 0)) tB_99 rfl rfl) ?_
  refine Wl.alloc st tZ_99 rfl ?_
  clear st
  intro b7 w2 st
  refine Wl.storeA (i := 0) (cs' := arrZ .i8 64 (fun _ => 0)) st tA_99 rfl rfl (arrZ_len _) (arrZ_one _) rfl (le_of_len (arrZ_len _) (by omega)) (all_put (arrZ_len _)) ?_
  clear st
  intro w3 st
  replace st : St [] w w3 [(b7, arrZ .i8 64 (fun _ => 0), 99), (b6, arrZ .i8 64 (fun _ => 0), 99)] := st
  refine Wl.nil ?_
  refine tn ?_
  refine Wc.seq ?_
  refine Wc.seq ?_
  refine Wc.region rfl ?_
  refine Wl.pure (PR.assI rfl) ?_
  refine Wl.nil ?_
  refine tn ?_
  refine Wc.block ?_
  refine Wc.loopF (γ := Nat × (Nat → Nat)) (fun g => [(0, .pointer (some ⟨bk, o, none⟩)), (1, .int .u8 (((x : Nat) : Int))), (2, .bool true), (6, .pointer (some ⟨b6, 0, none⟩)), (7, .pointer (some ⟨b7, 0, none⟩)), (8, .int .i64 (((g.1 : Nat) : Int)))]) (fun g w_ => St [] w w_ [(b7, arrU .i8 64 g.2, 99), (b6, arrZ .i8 64 (fun _ => 0), 99)] ∧ (g.1 ≤ p) ∧ (∀ v, g.2 v = cnt (colR b x 6) v g.1)) (fun g => p - g.1) ?_ ?_
  · exact ⟨(0, (fun _ => 0)), (.cons rfl (.cons rfl (.cons rfl (.cons rfl (.cons rfl (.cons rfl (.nil _))))))), st, (by first | omega | (dsimp only; omega)), (fun _ => rfl)⟩
  clear st
  rintro ⟨k, e⟩ w4 ⟨st, hk, he⟩
  try dsimp only at st hk he ⊢
  refine Wc.seq ?_
  refine Wc.seq ?_
  refine Wc.region rfl ?_
  refine Wl.pure (PR.moveI rfl) ?_
  refine Wl.pure (PR.moveP rfl) ?_
  refine Wl.pure (PR.nil_ rfl) ?_
  refine Wl.pure (PR.fieldAddr tF_31_1 rfl) ?_
  refine Wl.loadC tA_22 rfl ((hR.st st).at_ (j := 1) (rfl) rfl) ?_
  refine Wl.pure (PR.conv (n := ((p : Nat) : Int)) tI_3 rfl (by simp only [fitI]; omega) Try.underlying22) ?_
  refine Wl.pure (PR.lss (a := ((k : Nat) : Int)) (b := ((p : Nat) : Int)) rfl rfl) ?_
  refine Wl.nil ?_
  refine tn ?_
  refine Wc.condD (p := ((k : Nat) : Int) < ((p : Nat) : Int)) rfl (fun h5 => ?_) (fun h5 => ?_)
  · refine Wc.skip ?_
    refine tn ?_
    refine Wc.seq ?_
    refine Wc.block ?_
    have hcl := colR_64 b x k 6 (by decide)
    refine Wc.region rfl ?_
    refine Wl.pure (PR.moveP rfl) ?_
    refine Wl.pure (PR.moveI rfl) ?_
    refine Wl.pure (PR.moveB rfl) ?_
    refine Wl.pure (PR.moveI rfl) ?_
    refine Wl.callV (c_l02ColumnT (bk := bk) (o := o) (s := s) (p := p) (a := a) (b := b) (x := x) (j := k) (hR.st st) (by first | assumption | omega) ha hb hx (by first | assumption | omega)) rfl ?_
    intro w6 hbel
    replace st := st.call hbel
    clear hbel
    refine Wl.pure (PR.idxAddrA1 (i := colR b x 6 k) tE_99 rfl rfl (by omega)) ?_
    refine Wl.load (i := 0) st tA_22 rfl rfl (arrU_get0 (by omega)) ?_
    refine Wl.pure (PR.add (a := ((e (colR b x 6 k) : Nat) : Int)) (b := 1) rfl rfl (by have := cnt_le (colR b x 6) (colR b x 6 k) k; rw [he]; simp only [fitI]; omega)) ?_
    refine Wl.pure (PR.idxAddrA1 (i := colR b x 6 k) tE_99 rfl rfl (by omega)) ?_
    refine Wl.store (i := 0) (cs' := arrU .i8 64 (upd e (colR b x 6 k) (((e (colR b x 6 k)) + 1)))) st tA_22 rfl rfl rfl rfl (lt_of_len (arrU_len _) (by omega)) (arrU_set0) ?_
    clear st
    intro w7 st
    replace st : St [] w w7 [(b7, arrU .i8 64 (upd e (colR b x 6 k) (((e (colR b x 6 k)) + 1))), 99), (b6, arrZ .i8 64 (fun _ => 0), 99)] := st
    refine Wl.nil ?_
    refine bn ?_
    refine tn ?_
    refine Wc.region rfl ?_
    refine Wl.pure (PR.moveI rfl) ?_
    refine Wl.pure (PR.add (a := ((k : Nat) : Int)) (b := 1) rfl rfl (by simp only [fitI]; omega)) ?_
    refine Wl.pure (PR.assI rfl) ?_
    refine Wl.nil ?_
    refine tn ?_
    exact ⟨(k + 1, upd e (colR b x 6 k) (((e (colR b x 6 k)) + 1))), (.cons rfl (.cons rfl (.cons rfl (.cons rfl (.cons rfl (.cons rfl (.nil _))))))), ⟨st, (by first | omega | (dsimp only; omega)), (cnt_step he)⟩, (by first | omega | (dsimp only; omega))⟩
  · refine Wc.exit ?_
    refine tx ?_
    refine tx ?_
    refine bh ?_
    refine tn ?_
    refine Wc.seq ?_
    refine Wc.region rfl ?_
    refine Wl.loadA (i := 0) st tA_99 rfl rfl (all_sub (arrU_len _)) (arrU_len _) ?_
    refine Wl.storeA (i := 1) (cs' := arrU .i8 64 e) st tA_99 rfl rfl (arrU_len _) (arrU_one _) rfl (le_of_len (arrZ_len _) (by omega)) (all_put (arrZ_len _)) ?_
    clear st
    intro w8 st
    replace st : St [] w w8 [(b7, arrU .i8 64 e, 99), (b6, arrU .i8 64 e, 99)] := st
    refine Wl.nil ?_
    refine tn ?_
    refine Wc.ret ?_
    refine postL.cell (i := 1) st rfl tA_99 rfl rfl (arrU_len _) ?_
    refine RetV.of ?_ st.below
    obtain rfl : k = p := by omega
    exact congrArg (fun l : List Value => Value.agg l.toArray) (arrU_congr (fun j hj => he j))

set_option maxHeartbeats 400000 in
set_option maxRecDepth 4000 in
theorem c_l02ColumnsF {bk : Nat} {o : Nat} {s : Nat} {p : Nat} {a : Nat → Nat} {b : Nat → Nat} {x : Nat} {w : World} (hR : RdA w bk o (schV ((s : Nat) : Int) ((p : Nat) : Int) a b)) (hp8 : 1 ≤ p ∧ p ≤ 8) (ha : ∀ k, a k < 256) (hb : ∀ k, b k < 256) (hx : x < 256) :
    CE Try.prog 74 [.pointer (some ⟨bk, o, none⟩), .int .u8 (((x : Nat) : Int)), .bool false] w (RetV w (.agg (arrU .i8 64 (cntC a x p)).toArray)) := by
  refine CE.enter 29 [(0, .pointer (some ⟨bk, o, none⟩)), (1, .int .u8 (((x : Nat) : Int))), (2, .bool false)] en_74 Try.func74 rfl rfl (Nat.le_of_ble_eq_true rfl) rfl ?_
  have st := St.start w
  refine Wc.seq ?_
  refine Wc.region rfl ?_
  refine Wl.alloc st tZ_99 rfl ?_
  clear st
  intro b6 w1 st
  refine Wl.nil ?_
  refine tn ?_
  refine Wc.seq ?_
  refine Wc.region rfl ?_
  refine Wl.pure (PR.build (ps := []) (cs := arrZ .i8 64 (fun _ => 0)) tB_99 rfl rfl) ?_
  refine Wl.alloc st tZ_99 rfl ?_
  clear st
  intro b7 w2 st
  refine Wl.storeA (i := 0) (cs' := arrZ .i8 64 (fun _ => 0)) st tA_99 rfl rfl (arrZ_len _) (arrZ_one _) rfl (le_of_len (arrZ_len _) (by omega)) (all_put (arrZ_len _)) ?_
  clear st
  intro w3 st
  replace st : St [] w w3 [(b7, arrZ .i8 64 (fun _ => 0), 99), (b6, arrZ .i8 64 (fun _ => 0), 99)] := st
  refine Wl.nil ?_
  refine tn ?_
  refine Wc.seq ?_
  refine Wc.seq ?_
  refine Wc.region rfl ?_
  refine Wl.pure (PR.assI rfl) ?_
  refine Wl.nil ?_
  refine tn ?_
  refine Wc.block ?_
  refine Wc.loopF (γ := Nat × (Nat → Nat)) (fun g => [(0, .pointer (some ⟨bk, o, none⟩)), (1, .int .u8 (((x : Nat) : Int))), (2, .bool false), (6, .pointer (some ⟨b6, 0, none⟩)), (7, .pointer (some ⟨b7, 0, none⟩)), (8, .int .i64 (((g.1 : Nat) : Int)))]) (fun g w_ => St [] w w_ [(b7, arrU .i8 64 g.2, 99), (b6, arrZ .i8 64 (fun _ => 0), 99)] ∧ (g.1 ≤ p) ∧ (∀ v, g.2 v = cnt (colR a x 6) v g.1)) (fun g => p - g.1) ?_ ?_
  · exact ⟨(0, (fun _ => 0)), (.cons rfl (.cons rfl (.cons rfl (.cons rfl (.cons rfl (.cons rfl (.nil _))))))), st, (by first | omega | (dsimp only; omega)), (fun _ => rfl)⟩
  clear st
  rintro ⟨k, e⟩ w4 ⟨st, hk, he⟩
  try dsimp only at st hk he ⊢
  refine Wc.seq ?_
  refine Wc.seq ?_
  refine Wc.region rfl ?_
  refine Wl.pure (PR.moveI rfl) ?_
  refine Wl.pure (PR.moveP rfl) ?_
  refine Wl.pure (PR.nil_ rfl) ?_
  refine Wl.pure (PR.fieldAddr tF_31_1 rfl) ?_
  refine Wl.loadC tA_22 rfl ((hR.st st).at_ (j := 1) (rfl) rfl) ?_
  refine Wl.pure (PR.conv (n := ((p : Nat) : Int)) tI_3 rfl (by simp only [fitI]; omega) Try.underlying22) ?_
  refine Wl.pure (PR.lss (a := ((k : Nat) : Int)) (b := ((p : Nat) : Int)) rfl rfl) ?_
  refine Wl.nil ?_
  refine tn ?_
  refine Wc.condD (p := ((k : Nat) : Int) < ((p : Nat) : Int)) rfl (fun h5 => ?_) (fun h5 => ?_)
  · refine Wc.skip ?_
    refine tn ?_
    refine Wc.seq ?_
    refine Wc.block ?_
    have hcl := colR_64 a x k 6 (by decide)
    refine Wc.region rfl ?_
    refine Wl.pure (PR.moveP rfl) ?_
    refine Wl.pure (PR.moveI rfl) ?_
    refine Wl.pure (PR.moveB rfl) ?_
    refine Wl.pure (PR.moveI rfl) ?_
    refine Wl.callV (c_l02ColumnF (bk := bk) (o := o) (s := s) (p := p) (a := a) (b := b) (x := x) (j := k) (hR.st st) (by first | assumption | omega) ha hb hx (by first | assumption | omega)) rfl ?_
    intro w6 hbel
    replace st := st.call hbel
    clear hbel
    refine Wl.pure (PR.idxAddrA1 (i := colR a x 6 k) tE_99 rfl rfl (by omega)) ?_
    refine Wl.load (i := 0) st tA_22 rfl rfl (arrU_get0 (by omega)) ?_
    refine Wl.pure (PR.add (a := ((e (colR a x 6 k) : Nat) : Int)) (b := 1) rfl rfl (by have := cnt_le (colR a x 6) (colR a x 6 k) k; rw [he]; simp only [fitI]; omega)) ?_
    refine Wl.pure (PR.idxAddrA1 (i := colR a x 6 k) tE_99 rfl rfl (by omega)) ?_
    refine Wl.store (i := 0) (cs' := arrU .i8 64 (upd e (colR a x 6 k) (((e (colR a x 6 k)) + 1)))) st tA_22 rfl rfl rfl rfl (lt_of_len (arrU_len _) (by omega)) (arrU_set0) ?_
    clear st
    intro w7 st
    replace st : St [] w w7 [(b7, arrU .i8 64 (upd e (colR a x 6 k) (((e (colR a x 6 k)) + 1))), 99), (b6, arrZ .i8 64 (fun _ => 0), 99)] := st
    refine Wl.nil ?_
    refine bn ?_
    refine tn ?_
    refine Wc.region rfl ?_
    refine Wl.pure (PR.moveI rfl) ?_
    refine Wl.pure (PR.add (a := ((k : Nat) : Int)) (b := 1) rfl rfl (by simp only [fitI]; omega)) ?_
    refine Wl.pure (PR.assI rfl) ?_
    refine Wl.nil ?_
    refine tn ?_
    exact ⟨(k + 1, upd e (colR a x 6 k) (((e (colR a x 6 k)) + 1))), (.cons rfl (.cons rfl (.cons rfl (.cons rfl (.cons rfl (.cons rfl (.nil _))))))), ⟨st, (by first | omega | (dsimp only; omega)), (cnt_step he)⟩, (by first | omega | (dsimp only; omega))⟩
  · refine Wc.exit ?_
    refine tx ?_
    refine tx ?_
    refine bh ?_
    refine tn ?_
    refine Wc.seq ?_
    refine Wc.region rfl ?_
    refine Wl.loadA (i := 0) st tA_99 rfl rfl (all_sub (arrU_len _)) (arrU_len _) ?_
    refine Wl.storeA (i := 1) (cs' := arrU .i8 64 e) st tA_99 rfl rfl (arrU_len _) (arrU_one _) rfl (le_of_len (arrZ_len _) (by omega)) (all_put (arrZ_len _)) ?_
    clear st
    intro w8 st
    replace st : St [] w w8 [(b7, arrU .i8 64 e, 99), (b6, arrU .i8 64 e, 99)] := st
    refine Wl.nil ?_
    refine tn ?_
    refine Wc.ret ?_
    refine postL.cell (i := 1) st rfl tA_99 rfl rfl (arrU_len _) ?_
    refine RetV.of ?_ st.below
    obtain rfl : k = p := by omega
    exact congrArg (fun l : List Value => Value.agg l.toArray) (arrU_congr (fun j hj => he j))

set_option maxHeartbeats 400000 in
set_option maxRecDepth 4000 in
theorem c_spec_l02Blind {bk : Nat} {o : Nat} {s : Nat} {p : Nat} {a : Nat → Nat} {b : Nat → Nat} {x : Nat} {w : World} (hR : RdA w bk o (schV ((s : Nat) : Int) ((p : Nat) : Int) a b)) (hp8 : 1 ≤ p ∧ p ≤ 8) (ha : ∀ k, a k < 256) (hb : ∀ k, b k < 256) (hx : x < 256) :
    CE Try.prog 69 [.pointer (some ⟨bk, o, none⟩), .int .u8 (((x : Nat) : Int))] w (RetV w (.bool (blB p a b x))) := by
  refine CE.enter 12 [(0, .pointer (some ⟨bk, o, none⟩)), (1, .int .u8 (((x : Nat) : Int)))] en_69 Try.func69 rfl rfl (Nat.le_of_ble_eq_true rfl) rfl ?_
  have st := St.start w
  refine Wc.seq ?_
  refine Wc.region rfl ?_
  refine Wl.pure (PR.assB rfl) ?_
  refine Wl.nil ?_
  refine tn ?_
  refine Wc.seq ?_
  refine Wc.region rfl ?_
  refine Wl.pure (PR.moveP rfl) ?_
  refine Wl.pure (PR.moveI rfl) ?_
  refine Wl.callV (c_l02ColumnsT (bk := bk) (o := o) (s := s) (p := p) (a := a) (b := b) (x := x) (hR.st st) (by first | assumption | omega) ha hb hx) rfl ?_
  intro w1 hbel
  replace st := st.call hbel
  clear hbel
  refine Wl.pure (PR.moveP rfl) ?_
  refine Wl.pure (PR.moveI rfl) ?_
  refine Wl.callV (c_l02ColumnsF (bk := bk) (o := o) (s := s) (p := p) (a := a) (b := b) (x := x) (hR.st st) (by first | assumption | omega) ha hb hx) rfl ?_
  intro w2 hbel
  replace st := st.call hbel
  clear hbel
  refine Wl.pure (PR.eqlF (q := ∀ j, j < 64 → (cntC b x p) j = (cntC a x p) j) tQ_99 rfl rfl (flat_cnt hp8.2) (flat_cnt hp8.2) arrU_inj) ?_
  refine Wl.pure (PR.assB rfl) ?_
  refine Wl.nil ?_
  refine tn ?_
  refine Wc.ret ?_
  refine postL.tmp rfl rfl ?_
  refine RetV.of ?_ st.below
  refine congrArg Value.bool ?_
  rw [← bl_cnt]; unfold eqR; rfl

end Go.Proofs.Ytdlmbdclbnlmlaa
