/-
  Contracts of functions, printed by a program of ours.
-/
import Derived.Test.YtabekcodjcbolaaGreatCQ1
import Derived.Test.YtabekcodjcbolaaGreatCR1
import Derived.Test.YtabekcodjcbolaaGreatFactsQ
import Derived.Test.YtabekcodjcbolaaGreatWrong
import Derived.Test.YtabekcodjcbolaaGreatApp
namespace Go.Proofs.YtabekcodjcbolaaGreat
open Go.RowKit
set_option linter.unusedVariables false
set_option linter.unusedSimpArgs false

set_option maxHeartbeats 400000 in
set_option maxRecDepth 4000 in
theorem c_impl_columnsOf {A : Option Addr} {r : Nat} {cp : Nat} {t : Nat → Nat} {m : Nat} {x : Nat} {w : World} (hR : RdS w A r (arrU .u8 r t)) (ht : ∀ k, t k < 256) (hm : m ≤ 8) (hx : x < 256) (hr : r ≤ 8) :
    CE Tryz.prog 68 [.slice (A) (r) (cp), .int .i8 (((m : Nat) : Int)), .int .u8 (((x : Nat) : Int))] w (RetS w 5 (m) (m) (arrU .u8 m (colR t x r))) := by
  refine CE.enter 45 [(0, .slice (A) (r) (cp)), (1, .int .i8 (((m : Nat) : Int))), (2, .int .u8 (((x : Nat) : Int)))] en_68 Tryz.func68 rfl rfl (Nat.le_of_ble_eq_true rfl) rfl ?_
  have st := St.start w
  refine Wc.seq ?_
  refine Wc.region rfl ?_
  refine Wl.pure (PR.assL rfl) ?_
  refine Wl.nil ?_
  refine tn ?_
  refine Wc.seq ?_
  refine Wc.region rfl ?_
  refine Wl.pure (PR.moveI rfl) ?_
  refine Wl.makeSlice (n := m) st tS_22 tZ_5 rfl rfl rfl (by omega) (by omega) ?_
  clear st
  intro b12 w1 st
  rw [made_arrU] at st
  refine Wl.pure (PR.assL rfl) ?_
  refine Wl.nil ?_
  refine tn ?_
  refine Wc.seq ?_
  refine Wc.seq ?_
  refine Wc.region rfl ?_
  refine Wl.pure (PR.moveL rfl) ?_
  refine Wl.pure (PR.lenL tS_22 rfl) ?_
  refine Wl.pure (PR.moveI rfl) ?_
  refine Wl.nil ?_
  refine tn ?_
  refine Wc.block ?_
  refine Wc.loopF (γ := Nat × (Nat → Nat)) (fun g => [(2, .int .u8 (((x : Nat) : Int))), (6, .slice (none) (0) (0)), (7, .slice (some ⟨b12, 0, none⟩) (m) (m)), (13, .slice (A) (r) (cp)), (14, .int .i64 (((r : Nat) : Int))), (15, .int .i64 (((g.1 : Nat) : Int)))]) (fun g w_ => St [] w w_ [(b12, arrU .u8 m g.2, 5)] ∧ (g.1 ≤ r) ∧ (∀ j, j < m → g.2 j = colR t x g.1 j) ∧ (∀ z, g.2 z < 256)) (fun g => r - g.1) ?_ ?_
  · exact ⟨(0, (fun _ => 0)), (.cons rfl (.cons rfl (.cons rfl (.cons rfl (.cons rfl (.cons rfl (.nil _))))))), st, (by first | omega | (dsimp only; omega)), (fun _ _ => rfl), (fun _ => show (0 : Nat) < 256 by decide)⟩
  clear st
  rintro ⟨i, d⟩ w2 ⟨st, hi, hd, hdb⟩
  try dsimp only at st hi hd hdb ⊢
  refine Wc.seq ?_
  refine Wc.region rfl ?_
  refine Wl.pure (PR.lss (a := ((i : Nat) : Int)) (b := ((r : Nat) : Int)) rfl rfl) ?_
  refine Wl.nil ?_
  refine tn ?_
  refine Wc.seq ?_
  refine Wc.condD (p := ((i : Nat) : Int) < ((r : Nat) : Int)) rfl (fun h3 => ?_) (fun h3 => ?_)
  · refine Wc.skip ?_
    refine tn ?_
    refine Wc.seq ?_
    refine Wc.block ?_
    refine Wc.seq ?_
    refine Wc.region rfl ?_
    refine Wl.pure (PR.moveI rfl) ?_
    obtain ⟨bs4, os5, rfl, hs6⟩ := hR (by omega)
    refine Wl.pure (PR.idxAddrS1 (i := i) tS_22 rfl rfl (by omega)) ?_
    refine Wl.loadC tA_5 rfl ((hs6.st st).at_ (arrU_get0 (by omega)) (Nat.add_assoc _ _ _).symm) ?_
    refine Wl.pure (PR.assI rfl) ?_
    refine Wl.pure (PR.assI rfl) ?_
    refine Wl.nil ?_
    refine tn ?_
    refine Wc.seq ?_
    refine Wc.seq ?_
    refine Wc.region rfl ?_
    refine Wl.pure (PR.moveI rfl) ?_
    refine Wl.pure (PR.moveI rfl) ?_
    refine Wl.pure (PR.shr (a := x) (n := i) rfl rfl (by decide) hx) ?_
    refine Wl.pure (PR.and (a := (x >>> i)) (b := 1) rfl rfl (by decide) (shr_lt hx) (by decide)) ?_
    refine Wl.pure (PR.eql (a := ((((x >>> i) &&& 1) : Nat) : Int)) (b := 0) rfl rfl) ?_
    refine Wl.nil ?_
    refine tn ?_
    refine Wc.condD (p := ((((x >>> i) &&& 1) : Nat) : Int) = 0) rfl (fun h7 => ?_) (fun h7 => ?_)
    · refine Wc.exit ?_
      refine tx ?_
      refine bh ?_
      refine tn ?_
      refine Wc.region rfl ?_
      refine Wl.pure (PR.add (a := ((i : Nat) : Int)) (b := 1) rfl rfl (by simp only [fitI]; omega)) ?_
      refine Wl.pure (PR.moveI rfl) ?_
      refine Wl.nil ?_
      refine tn ?_
      exact ⟨(i + 1, d), (.cons rfl (.cons rfl (.cons rfl (.cons rfl (.cons rfl (.cons rfl (.nil _))))))), ⟨st, (by first | omega | (dsimp only; omega)), (by first | exact fun j hj => hlo j (by omega) | exact col_skip hd (by omega)), hdb⟩, (by first | omega | (dsimp only; omega))⟩
    · refine Wc.skip ?_
      refine tn ?_
      refine Wc.seq ?_
      refine Wc.region rfl ?_
      refine Wl.pure (PR.moveL rfl) ?_
      refine Wl.pure (PR.lenL tS_22 rfl) ?_
      refine Wl.pure (PR.moveI rfl) ?_
      refine Wl.nil ?_
      refine tn ?_
      refine Wc.block ?_
      refine Wc.loopF (γ := Nat × (Nat → Nat)) (fun g => [(2, .int .u8 (((x : Nat) : Int))), (6, .slice (none) (0) (0)), (7, .slice (some ⟨b12, 0, none⟩) (m) (m)), (8, .int .i64 (((i : Nat) : Int))), (9, .int .u8 (((t (i) : Nat) : Int))), (13, .slice (some ⟨bs4, os5, none⟩) (r) (cp)), (14, .int .i64 (((r : Nat) : Int))), (15, .int .i64 (((i : Nat) : Int))), (16, .bool (decide (((i : Nat) : Int) < ((r : Nat) : Int)))), (17, .int .i64 (((i : Nat) : Int))), (18, .pointer (some ⟨bs4, os5 + i, none⟩)), (19, .int .u8 (((t (i) : Nat) : Int))), (20, .int .u8 (((x : Nat) : Int))), (21, .int .i64 (((i : Nat) : Int))), (22, .int .u8 ((((x >>> i) : Nat) : Int))), (23, .int .u8 (((((x >>> i) &&& 1) : Nat) : Int))), (24, .bool (decide (((((x >>> i) &&& 1) : Nat) : Int) = 0))), (25, .slice (some ⟨b12, 0, none⟩) (m) (m)), (26, .int .i64 (((m : Nat) : Int))), (27, .int .i64 (((g.1 : Nat) : Int)))]) (fun g w_ => St [] w w_ [(b12, arrU .u8 m g.2, 5)] ∧ (g.1 ≤ m) ∧ (∀ j, j < g.1 → g.2 j = colR t x (i + 1) j) ∧ (∀ j, g.1 ≤ j → j < m → g.2 j = colR t x i j) ∧ (∀ z, g.2 z < 256)) (fun g => m - g.1) ?_ ?_
      · exact ⟨(0, d), (.cons rfl (.cons rfl (.cons rfl (.cons rfl (.cons rfl (.cons rfl (.cons rfl (.cons rfl (.cons rfl (.cons rfl (.cons rfl (.cons rfl (.cons rfl (.cons rfl (.cons rfl (.cons rfl (.cons rfl (.cons rfl (.cons rfl (.cons rfl (.nil _))))))))))))))))))))), st, (by first | omega | (dsimp only; omega)), (fun j hj => by omega), (fun j _ hj => hd j hj), hdb⟩
      clear st
      rintro ⟨k, d⟩ w8 ⟨st, hk, hlo, hhi, hdb⟩
      try dsimp only at st hk hlo hhi hdb ⊢
      refine Wc.seq ?_
      refine Wc.region rfl ?_
      refine Wl.pure (PR.lss (a := ((k : Nat) : Int)) (b := ((m : Nat) : Int)) rfl rfl) ?_
      refine Wl.nil ?_
      refine tn ?_
      refine Wc.seq ?_
      refine Wc.condD (p := ((k : Nat) : Int) < ((m : Nat) : Int)) rfl (fun h9 => ?_) (fun h9 => ?_)
      · refine Wc.skip ?_
        refine tn ?_
        refine Wc.seq ?_
        refine Wc.block ?_
        refine Wc.seq ?_
        refine Wc.region rfl ?_
        refine Wl.pure (PR.moveI rfl) ?_
        refine Wl.pure (PR.assI rfl) ?_
        refine Wl.nil ?_
        refine tn ?_
        refine Wc.quietTail 12 hmix (by kernel_rfl) rfl ?_
        refine Wq.pure (PR.moveL rfl) ?_
        refine Wq.pure (PR.moveI rfl) ?_
        refine Wq.pure (PR.idxAddrS1 (i := k) tS_22 rfl rfl (by omega)) ?_
        refine Wq.load (i := 0) st tA_5 rfl rfl (arrU_get0 (by omega)) ?_
        refine Wq.pure (PR.moveI rfl) ?_
        refine Wq.pure (PR.moveI rfl) ?_
        refine Wq.pure (PR.shr (a := t (i)) (n := k) rfl rfl (by decide) (ht (i))) ?_
        refine Wq.pure (PR.and (a := ((t (i)) >>> k)) (b := 1) rfl rfl (by decide) (shr_lt (ht (i))) (by decide)) ?_
        refine Wq.pure (PR.moveI rfl) ?_
        refine Wq.pure (PR.shl (a := (((t (i)) >>> k) &&& 1)) (n := i) rfl rfl (by decide)) ?_
        refine Wq.pure (PR.or (a := d (k)) (b := (((((t (i)) >>> k) &&& 1) <<< i) % 256)) rfl rfl (by decide) (hdb (k)) (Nat.mod_lt _ (by decide))) ?_
        refine Wq.pure (PR.idxAddrS1 (i := k) tS_22 rfl rfl (by omega)) ?_
        refine Wq.nil (fun w10 hbel => ?_)
        replace st := st.call hbel
        clear hbel
        refine Wl.store (i := 0) (cs' := arrU .u8 m (upd d (k) (((d (k)) ||| (((((t (i)) >>> k) &&& 1) <<< i) % 256))))) st tA_5 rfl rfl rfl rfl (lt_of_len (arrU_len _) (by omega)) (arrU_set0) ?_
        clear st
        intro w11 st
        replace st : St [] w w11 [(b12, arrU .u8 m (upd d (k) (((d (k)) ||| (((((t (i)) >>> k) &&& 1) <<< i) % 256)))), 5)] := st
        refine Wl.nil ?_
        refine bn ?_
        refine tn ?_
        refine Wc.region rfl ?_
        refine Wl.pure (PR.add (a := ((k : Nat) : Int)) (b := 1) rfl rfl (by simp only [fitI]; omega)) ?_
        refine Wl.pure (PR.moveI rfl) ?_
        refine Wl.nil ?_
        refine tn ?_
        exact ⟨(k + 1, upd d (k) (((d (k)) ||| (((((t (i)) >>> k) &&& 1) <<< i) % 256)))), (.cons rfl (.cons rfl (.cons rfl (.cons rfl (.cons rfl (.cons rfl (.cons rfl (.cons rfl (.cons rfl (.cons rfl (.cons rfl (.cons rfl (.cons rfl (.cons rfl (.cons rfl (.cons rfl (.cons rfl (.cons rfl (.cons rfl (.cons rfl (.nil _))))))))))))))))))))), ⟨st, (by first | omega | (dsimp only; omega)), (col_lo hlo hhi (by omega) (by omega)), (col_hi hhi), (upd_lt hdb (or_lt_u8 (hdb _) (Nat.mod_lt _ (by decide))))⟩, (by first | omega | (dsimp only; omega))⟩
      · refine Wc.exit ?_
        refine tx ?_
        refine tx ?_
        refine bh ?_
        refine bn ?_
        refine tn ?_
        refine Wc.region rfl ?_
        refine Wl.pure (PR.add (a := ((i : Nat) : Int)) (b := 1) rfl rfl (by simp only [fitI]; omega)) ?_
        refine Wl.pure (PR.moveI rfl) ?_
        refine Wl.nil ?_
        refine tn ?_
        exact ⟨(i + 1, d), (.cons rfl (.cons rfl (.cons rfl (.cons rfl (.cons rfl (.cons rfl (.nil _))))))), ⟨st, (by first | omega | (dsimp only; omega)), (by first | exact fun j hj => hlo j (by omega) | exact col_skip hd (by omega)), hdb⟩, (by first | omega | (dsimp only; omega))⟩
  · refine Wc.exit ?_
    refine tx ?_
    refine tx ?_
    refine bh ?_
    refine tn ?_
    refine Wc.seq ?_
    refine Wc.region rfl ?_
    refine Wl.pure (PR.moveL rfl) ?_
    refine Wl.pure (PR.assL rfl) ?_
    refine Wl.nil ?_
    refine tn ?_
    refine Wc.ret ?_
    refine postL.tmp rfl rfl ?_
    obtain rfl : i = r := by omega
    exact st.retS (i := 0) rfl (arrU_congr (fun j hj => hd j hj))

set_option maxHeartbeats 400000 in
set_option maxRecDepth 4000 in
theorem c_rowsT {bk : Nat} {o : Nat} {s : Int} {p : Int} {a : Nat → Nat} {b : Nat → Nat} {w : World} (hR : RdA w bk o (schV s p a b)) :
    CE Tryz.prog 86 [.pointer (some ⟨bk, o, none⟩), .bool true] w (RetV w (.pointer (some ⟨bk, o + 8, none⟩))) := by
  refine CE.enter 12 [(0, .pointer (some ⟨bk, o, none⟩)), (1, .bool true)] en_86 Tryz.func86 rfl rfl (Nat.le_of_ble_eq_true rfl) rfl ?_
  have st := St.start w
  refine Wc.seq ?_
  refine Wc.region rfl ?_
  refine Wl.pure (PR.assV ((.pointer none)) rfl) ?_
  refine Wl.nil ?_
  refine tn ?_
  refine Wc.seq ?_
  refine Wc.seq ?_
  refine Wc.region rfl ?_
  refine Wl.pure (PR.moveB rfl) ?_
  refine Wl.nil ?_
  refine tn ?_
  refine Wc.condT rfl ?_
  refine Wc.seq ?_
  refine Wc.region rfl ?_
  refine Wl.pure (PR.moveP rfl) ?_
  refine Wl.pure (PR.nil_ rfl) ?_
  refine Wl.pure (PR.fieldAddr tF_27_3 rfl) ?_
  refine Wl.pure (PR.assP rfl) ?_
  refine Wl.nil ?_
  refine tn ?_
  refine Wc.ret ?_
  refine tr ?_
  refine postL.tmp rfl rfl ?_
  exact RetV.of rfl st.below

set_option maxHeartbeats 400000 in
set_option maxRecDepth 4000 in
theorem c_rowsF {bk : Nat} {o : Nat} {s : Int} {p : Int} {a : Nat → Nat} {b : Nat → Nat} {w : World} (hR : RdA w bk o (schV s p a b)) :
    CE Tryz.prog 86 [.pointer (some ⟨bk, o, none⟩), .bool false] w (RetV w (.pointer (some ⟨bk, o + 2, none⟩))) := by
  refine CE.enter 12 [(0, .pointer (some ⟨bk, o, none⟩)), (1, .bool false)] en_86 Tryz.func86 rfl rfl (Nat.le_of_ble_eq_true rfl) rfl ?_
  have st := St.start w
  refine Wc.seq ?_
  refine Wc.region rfl ?_
  refine Wl.pure (PR.assV ((.pointer none)) rfl) ?_
  refine Wl.nil ?_
  refine tn ?_
  refine Wc.seq ?_
  refine Wc.seq ?_
  refine Wc.region rfl ?_
  refine Wl.pure (PR.moveB rfl) ?_
  refine Wl.nil ?_
  refine tn ?_
  refine Wc.condF rfl ?_
  refine Wc.skip ?_
  refine tn ?_
  refine Wc.seq ?_
  refine Wc.region rfl ?_
  refine Wl.pure (PR.moveP rfl) ?_
  refine Wl.pure (PR.nil_ rfl) ?_
  refine Wl.pure (PR.fieldAddr tF_27_2 rfl) ?_
  refine Wl.pure (PR.assP rfl) ?_
  refine Wl.nil ?_
  refine tn ?_
  refine Wc.ret ?_
  refine postL.tmp rfl rfl ?_
  exact RetV.of rfl st.below

set_option maxHeartbeats 400000 in
set_option maxRecDepth 4000 in
theorem c_columnsT {s : Nat} {p : Nat} {a : Nat → Nat} {b : Nat → Nat} {x : Nat} {w : World} (hp8 : 1 ≤ p ∧ p ≤ 8) (ha : ∀ k, a k < 256) (hb : ∀ k, b k < 256) (hx : x < 256) :
    CE Tryz.prog 80 [.agg (schV ((s : Nat) : Int) ((p : Nat) : Int) (a) (b)).toArray, .int .u8 (((x : Nat) : Int)), .bool true] w (RetS w 5 (p) (p) (arrU .u8 p (colR b x 6))) := by
  refine CE.enter 15 [(0, .agg (schV ((s : Nat) : Int) ((p : Nat) : Int) (a) (b)).toArray), (1, .int .u8 (((x : Nat) : Int))), (2, .bool true)] en_80 Tryz.func80 rfl rfl (Nat.le_of_ble_eq_true rfl) rfl ?_
  have st := St.start w
  refine Wc.seq ?_
  refine Wc.region rfl ?_
  refine Wl.boxA st rfl ?_
  clear st
  intro b3 w1 st
  refine Wl.pure (PR.assL rfl) ?_
  refine Wl.nil ?_
  refine tn ?_
  refine Wc.seq ?_
  refine Wc.tree1 (w0 := w) (X := []) (Ks := [b3]) (S := fun i => i == 1 || i == 7) (.st 0 0 (.st 4 0 (.st 6 0 (.st 5 3 (.st 1 2 (.st 2 0 (.st 3 0 (.st 7 2 (.st 8 0 PT.nil))))))))) hmix (by kernel_rfl) (by kernel_rfl) rfl rfl ?_
  intro w2 hbel
  replace st := st.call hbel
  clear hbel
  refine WT.pure rfl (PR.moveB rfl) ?_
  refine WT.pure rfl (PR.fieldAddr tF_27_1 rfl) ?_
  refine WT.pure rfl (PR.moveI rfl) ?_
  refine WT.load (j := 0) rfl (by simp) st tA_24 rfl rfl (rfl) ?_
  have st0 := st
  refine WT.s rfl rfl ?_
  refine Wl.callV (c_rowsT (bk := b3) (o := 0) (s := ((s : Nat) : Int)) (p := ((p : Nat) : Int)) (a := a) (b := b) (st.rdA (i := 0) rfl (all_sub schV_len))) rfl ?_
  intro w3 hbel
  replace st := st.call hbel
  clear hbel
  refine Wl.nil ⟨rfl, RK.of st0 st (ksC (i := 0) (j := 0) rfl rfl rfl ksN), ?_⟩
  clear st0
  refine WT.pure rfl (PR.nil_ rfl) ?_
  refine WT.pure rfl (PR.sliceArr tE_25 rfl) ?_
  have st0 := st
  refine WT.s rfl rfl ?_
  refine Wl.callS st (c_impl_columnsOf (A := some ⟨b3, 8, none⟩) (r := 6) (cp := 6) (t := b) (m := p) (x := x) ((st.rdA (i := 0) rfl schV_sub_b).sl) hb (by first | assumption | omega) hx (by first | assumption | omega)) rfl ?_
  clear st
  intro b14 w4 st
  refine Wl.nil ⟨rfl, RK.of st0 st (ksC (i := 0) (j := 1) rfl rfl rfl ksN), ?_⟩
  clear st0
  refine WT.pure rfl (PR.assL rfl) ?_
  refine WT.nil ?_
  refine tn ?_
  refine Wc.ret ?_
  refine postL.tmp rfl rfl ?_
  exact st.retS (i := 0) rfl rfl

set_option maxHeartbeats 400000 in
set_option maxRecDepth 4000 in
theorem c_columnsF {s : Nat} {p : Nat} {a : Nat → Nat} {b : Nat → Nat} {x : Nat} {w : World} (hp8 : 1 ≤ p ∧ p ≤ 8) (ha : ∀ k, a k < 256) (hb : ∀ k, b k < 256) (hx : x < 256) :
    CE Tryz.prog 80 [.agg (schV ((s : Nat) : Int) ((p : Nat) : Int) (a) (b)).toArray, .int .u8 (((x : Nat) : Int)), .bool false] w (RetS w 5 (p) (p) (arrU .u8 p (colR a x 6))) := by
  refine CE.enter 15 [(0, .agg (schV ((s : Nat) : Int) ((p : Nat) : Int) (a) (b)).toArray), (1, .int .u8 (((x : Nat) : Int))), (2, .bool false)] en_80 Tryz.func80 rfl rfl (Nat.le_of_ble_eq_true rfl) rfl ?_
  have st := St.start w
  refine Wc.seq ?_
  refine Wc.region rfl ?_
  refine Wl.boxA st rfl ?_
  clear st
  intro b3 w1 st
  refine Wl.pure (PR.assL rfl) ?_
  refine Wl.nil ?_
  refine tn ?_
  refine Wc.seq ?_
  refine Wc.tree1 (w0 := w) (X := []) (Ks := [b3]) (S := fun i => i == 1 || i == 7) (.st 0 0 (.st 4 0 (.st 6 0 (.st 5 3 (.st 1 2 (.st 2 0 (.st 3 0 (.st 7 2 (.st 8 0 PT.nil))))))))) hmix (by kernel_rfl) (by kernel_rfl) rfl rfl ?_
  intro w2 hbel
  replace st := st.call hbel
  clear hbel
  refine WT.pure rfl (PR.moveB rfl) ?_
  refine WT.pure rfl (PR.fieldAddr tF_27_1 rfl) ?_
  refine WT.pure rfl (PR.moveI rfl) ?_
  refine WT.load (j := 0) rfl (by simp) st tA_24 rfl rfl (rfl) ?_
  have st0 := st
  refine WT.s rfl rfl ?_
  refine Wl.callV (c_rowsF (bk := b3) (o := 0) (s := ((s : Nat) : Int)) (p := ((p : Nat) : Int)) (a := a) (b := b) (st.rdA (i := 0) rfl (all_sub schV_len))) rfl ?_
  intro w3 hbel
  replace st := st.call hbel
  clear hbel
  refine Wl.nil ⟨rfl, RK.of st0 st (ksC (i := 0) (j := 0) rfl rfl rfl ksN), ?_⟩
  clear st0
  refine WT.pure rfl (PR.nil_ rfl) ?_
  refine WT.pure rfl (PR.sliceArr tE_25 rfl) ?_
  have st0 := st
  refine WT.s rfl rfl ?_
  refine Wl.callS st (c_impl_columnsOf (A := some ⟨b3, 2, none⟩) (r := 6) (cp := 6) (t := a) (m := p) (x := x) ((st.rdA (i := 0) rfl schV_sub_a).sl) ha (by first | assumption | omega) hx (by first | assumption | omega)) rfl ?_
  clear st
  intro b14 w4 st
  refine Wl.nil ⟨rfl, RK.of st0 st (ksC (i := 0) (j := 1) rfl rfl rfl ksN), ?_⟩
  clear st0
  refine WT.pure rfl (PR.assL rfl) ?_
  refine WT.nil ?_
  refine tn ?_
  refine Wc.ret ?_
  refine postL.tmp rfl rfl ?_
  exact st.retS (i := 0) rfl rfl

set_option maxHeartbeats 400000 in
set_option maxRecDepth 4000 in
theorem c_sortedColumnsT {s : Nat} {p : Nat} {a : Nat → Nat} {b : Nat → Nat} {x : Nat} {w : World} (hp8 : 1 ≤ p ∧ p ≤ 8) (ha : ∀ k, a k < 256) (hb : ∀ k, b k < 256) (hx : x < 256) :
    CE Tryz.prog 62 [.agg (schV ((s : Nat) : Int) ((p : Nat) : Int) (a) (b)).toArray, .int .u8 (((x : Nat) : Int)), .bool true] w (RetXG w [] 5 1 (p) (arrU .u8 p (srtF p (colR b x 6))) (fun b_ c_ => .slice (some ⟨b_, 0, none⟩) (p) (c_)) []) := by
  refine CE.enter 13 [(0, .agg (schV ((s : Nat) : Int) ((p : Nat) : Int) (a) (b)).toArray), (1, .int .u8 (((x : Nat) : Int))), (2, .bool true)] en_62 Tryz.func62 rfl rfl (Nat.le_of_ble_eq_true rfl) rfl ?_
  have st := St.start w
  refine Wc.seq ?_
  refine Wc.region rfl ?_
  refine Wl.boxA st rfl ?_
  clear st
  intro b3 w1 st
  refine Wl.pure (PR.assL rfl) ?_
  refine Wl.nil ?_
  refine tn ?_
  refine Wc.seq ?_
  refine Wc.region rfl ?_
  refine Wl.loadA (i := 0) st tA_27 rfl rfl (all_sub schV_len) schV_len ?_
  refine Wl.pure (PR.moveI rfl) ?_
  refine Wl.pure (PR.moveB rfl) ?_
  refine Wl.callS st (c_columnsT (s := s) (p := p) (a := a) (b := b) (x := x) (by first | assumption | omega) ha hb hx) rfl ?_
  clear st
  intro b10 w2 st
  refine Wl.callXG [] st (c_slices_Values_uint8_uint8 (A := some ⟨b10, 0, none⟩) (n := p) (cp := p)) rfl rfl ?_
  clear st
  intro b11 c11 sp11 w3 hc11 hs11 st
  replace st : St [] w w3 [(b11, [.slice (some ⟨b10, 0, none⟩) (p) (p)] ++ sp11, 22), (b10, arrU .u8 p (colR b x 6), 5), (b3, schV ((s : Nat) : Int) ((p : Nat) : Int) (a) (b), 27)] := st
  refine Wl.callXG [] st (c_slices_Sorted_uint8 (b1 := b11) (o1 := 0) (A := some ⟨b10, 0, none⟩) (n := p) (cp := p) (c := (colR b x 6)) (st.rdA (i := 0) (n := 1) rfl (app_all rfl)) ((st.rdA (i := 1) (n := p) rfl (all_sub (arrU_len _))).sl) ⟨by omega, by omega⟩ (colR_lt b x 6)) rfl rfl ?_
  clear st
  intro b12 c12 sp12 w4 hc12 hs12 st
  replace st : St [] w w4 [(b12, arrU .u8 p (srtF p (colR b x 6)) ++ sp12, 5), (b11, [.slice (some ⟨b10, 0, none⟩) (p) (p)] ++ sp11, 22), (b10, arrU .u8 p (colR b x 6), 5), (b3, schV ((s : Nat) : Int) ((p : Nat) : Int) (a) (b), 27)] := st
  refine Wl.pure (PR.assL rfl) ?_
  refine Wl.nil ?_
  refine tn ?_
  refine Wc.ret ?_
  refine postL.tmp rfl rfl ?_
  replace st : St [] w w4 [(b12, arrU .u8 p (srtF p (colR b x 6)) ++ sp12, 5)] := st.pick [0] (by decide) rfl
  exact ⟨b12, c12, sp12, hc12, hs12, rfl, st⟩

set_option maxHeartbeats 400000 in
set_option maxRecDepth 4000 in
theorem c_sortedColumnsF {s : Nat} {p : Nat} {a : Nat → Nat} {b : Nat → Nat} {x : Nat} {w : World} (hp8 : 1 ≤ p ∧ p ≤ 8) (ha : ∀ k, a k < 256) (hb : ∀ k, b k < 256) (hx : x < 256) :
    CE Tryz.prog 62 [.agg (schV ((s : Nat) : Int) ((p : Nat) : Int) (a) (b)).toArray, .int .u8 (((x : Nat) : Int)), .bool false] w (RetXG w [] 5 1 (p) (arrU .u8 p (srtF p (colR a x 6))) (fun b_ c_ => .slice (some ⟨b_, 0, none⟩) (p) (c_)) []) := by
  refine CE.enter 13 [(0, .agg (schV ((s : Nat) : Int) ((p : Nat) : Int) (a) (b)).toArray), (1, .int .u8 (((x : Nat) : Int))), (2, .bool false)] en_62 Tryz.func62 rfl rfl (Nat.le_of_ble_eq_true rfl) rfl ?_
  have st := St.start w
  refine Wc.seq ?_
  refine Wc.region rfl ?_
  refine Wl.boxA st rfl ?_
  clear st
  intro b3 w1 st
  refine Wl.pure (PR.assL rfl) ?_
  refine Wl.nil ?_
  refine tn ?_
  refine Wc.seq ?_
  refine Wc.region rfl ?_
  refine Wl.loadA (i := 0) st tA_27 rfl rfl (all_sub schV_len) schV_len ?_
  refine Wl.pure (PR.moveI rfl) ?_
  refine Wl.pure (PR.moveB rfl) ?_
  refine Wl.callS st (c_columnsF (s := s) (p := p) (a := a) (b := b) (x := x) (by first | assumption | omega) ha hb hx) rfl ?_
  clear st
  intro b10 w2 st
  refine Wl.callXG [] st (c_slices_Values_uint8_uint8 (A := some ⟨b10, 0, none⟩) (n := p) (cp := p)) rfl rfl ?_
  clear st
  intro b11 c11 sp11 w3 hc11 hs11 st
  replace st : St [] w w3 [(b11, [.slice (some ⟨b10, 0, none⟩) (p) (p)] ++ sp11, 22), (b10, arrU .u8 p (colR a x 6), 5), (b3, schV ((s : Nat) : Int) ((p : Nat) : Int) (a) (b), 27)] := st
  refine Wl.callXG [] st (c_slices_Sorted_uint8 (b1 := b11) (o1 := 0) (A := some ⟨b10, 0, none⟩) (n := p) (cp := p) (c := (colR a x 6)) (st.rdA (i := 0) (n := 1) rfl (app_all rfl)) ((st.rdA (i := 1) (n := p) rfl (all_sub (arrU_len _))).sl) ⟨by omega, by omega⟩ (colR_lt a x 6)) rfl rfl ?_
  clear st
  intro b12 c12 sp12 w4 hc12 hs12 st
  replace st : St [] w w4 [(b12, arrU .u8 p (srtF p (colR a x 6)) ++ sp12, 5), (b11, [.slice (some ⟨b10, 0, none⟩) (p) (p)] ++ sp11, 22), (b10, arrU .u8 p (colR a x 6), 5), (b3, schV ((s : Nat) : Int) ((p : Nat) : Int) (a) (b), 27)] := st
  refine Wl.pure (PR.assL rfl) ?_
  refine Wl.nil ?_
  refine tn ?_
  refine Wc.ret ?_
  refine postL.tmp rfl rfl ?_
  replace st : St [] w w4 [(b12, arrU .u8 p (srtF p (colR a x 6)) ++ sp12, 5)] := st.pick [0] (by decide) rfl
  exact ⟨b12, c12, sp12, hc12, hs12, rfl, st⟩

set_option maxHeartbeats 400000 in
set_option maxRecDepth 4000 in
theorem c_sortedColumnsQ {s : Nat} {p : Nat} {a : Nat → Nat} {b : Nat → Nat} {x : Nat} {q : Bool} {w : World} (hp8 : 1 ≤ p ∧ p ≤ 8) (ha : ∀ k, a k < 256) (hb : ∀ k, b k < 256) (hx : x < 256) :
    CE Tryz.prog 62 [.agg (schV ((s : Nat) : Int) ((p : Nat) : Int) (a) (b)).toArray, .int .u8 (((x : Nat) : Int)), .bool (q)] w (RetXG w [] 5 1 (p) (arrU .u8 p (srtF p (colR (bif q then b else a) x 6))) (fun b_ c_ => .slice (some ⟨b_, 0, none⟩) (p) (c_)) []) := by
  cases q
  · exact c_sortedColumnsF hp8 ha hb hx
  · exact c_sortedColumnsT hp8 ha hb hx

set_option maxHeartbeats 400000 in
set_option maxRecDepth 4000 in
theorem c_slices_Equal_uint8_uint8 {A : Option Addr} {n : Nat} {cp : Nat} {c : Nat → Nat} {B : Option Addr} {cq : Nat} {d : Nat → Nat} {w : World} (hR : RdS w A n (arrU .u8 n c)) (hQ : RdS w B n (arrU .u8 n d)) (hc : ∀ k, c k < 256) (hd : ∀ k, d k < 256) (hn : n ≤ 1000) :
    CE Tryz.prog 60 [.slice (A) (n) (cp), .slice (B) (n) (cq)] w (RetV w (.bool (eqR n c d))) := by
  refine CE.enter 26 [(0, .slice (A) (n) (cp)), (1, .slice (B) (n) (cq))] en_60 Tryz.func60 rfl rfl (Nat.le_of_ble_eq_true rfl) rfl ?_
  have st := St.start w
  refine Wc.seq ?_
  refine Wc.region rfl ?_
  refine Wl.pure (PR.assB rfl) ?_
  refine Wl.nil ?_
  refine tn ?_
  refine Wc.seq ?_
  refine Wc.seq ?_
  refine Wc.region rfl ?_
  refine Wl.pure (PR.moveL rfl) ?_
  refine Wl.pure (PR.lenL tS_22 rfl) ?_
  refine Wl.pure (PR.moveL rfl) ?_
  refine Wl.pure (PR.lenL tS_22 rfl) ?_
  refine Wl.pure (PR.neqS (a := ((n : Nat) : Int)) rfl rfl) ?_
  refine Wl.nil ?_
  refine tn ?_
  refine Wc.condF rfl ?_
  refine Wc.skip ?_
  refine tn ?_
  refine Wc.seq ?_
  refine Wc.seq ?_
  refine Wc.region rfl ?_
  refine Wl.pure (PR.moveL rfl) ?_
  refine Wl.pure (PR.lenL tS_22 rfl) ?_
  refine Wl.pure (PR.moveI rfl) ?_
  refine Wl.nil ?_
  refine tn ?_
  refine Wc.block ?_
  refine Wc.loopF (γ := Nat) (fun g => [(0, .slice (A) (n) (cp)), (1, .slice (B) (n) (cq)), (12, .int .i64 (((n : Nat) : Int))), (13, .int .i64 (((g : Nat) : Int)))]) (fun g w_ => St [] w w_ [] ∧ (g ≤ n) ∧ (∀ j, j < g → c j = d j)) (fun g => n - g) ?_ ?_
  · exact ⟨0, (.cons rfl (.cons rfl (.cons rfl (.cons rfl (.nil _))))), st, (by first | omega | (dsimp only; omega)), (fun j hj => by omega)⟩
  clear st
  rintro k w1 ⟨st, hk, hg⟩
  try dsimp only at st hk hg ⊢
  refine Wc.seq ?_
  refine Wc.region rfl ?_
  refine Wl.pure (PR.lss (a := ((k : Nat) : Int)) (b := ((n : Nat) : Int)) rfl rfl) ?_
  refine Wl.nil ?_
  refine tn ?_
  refine Wc.seq ?_
  refine Wc.condD (p := ((k : Nat) : Int) < ((n : Nat) : Int)) rfl (fun h2 => ?_) (fun h2 => ?_)
  · refine Wc.skip ?_
    refine tn ?_
    refine Wc.seq ?_
    refine Wc.block ?_
    refine Wc.seq ?_
    refine Wc.region rfl ?_
    refine Wl.pure (PR.moveI rfl) ?_
    refine Wl.pure (PR.assI rfl) ?_
    refine Wl.nil ?_
    refine tn ?_
    refine Wc.seq ?_
    refine Wc.quiet hmix (by kernel_rfl) rfl ?_
    refine Wq.pure (PR.moveL rfl) ?_
    refine Wq.pure (PR.moveI rfl) ?_
    obtain ⟨bs3, os4, rfl, hs5⟩ := hR (by omega)
    refine Wq.pure (PR.idxAddrS1 (i := k) tS_22 rfl rfl (by omega)) ?_
    refine Wq.loadC tA_5 rfl ((hs5.st st).at_ (arrU_get0 (by omega)) (Nat.add_assoc _ _ _).symm) ?_
    refine Wq.pure (PR.moveL rfl) ?_
    refine Wq.pure (PR.moveI rfl) ?_
    obtain ⟨bs6, os7, rfl, hs8⟩ := hQ (by omega)
    refine Wq.pure (PR.idxAddrS1 (i := k) tS_22 rfl rfl (by omega)) ?_
    refine Wq.loadC tA_5 rfl ((hs8.st st).at_ (arrU_get0 (by omega)) (Nat.add_assoc _ _ _).symm) ?_
    refine Wq.pure (PR.neq (a := ((c (k) : Nat) : Int)) (b := ((d (k) : Nat) : Int)) rfl rfl) ?_
    refine Wq.nil (fun w9 hbel => ?_)
    replace st := st.call hbel
    clear hbel
    refine tn ?_
    refine Wc.condN (p := ((c (k) : Nat) : Int) = ((d (k) : Nat) : Int)) rfl (fun h10 => ?_) (fun h10 => ?_)
    · refine Wc.seq ?_
      refine Wc.region rfl ?_
      refine Wl.pure (PR.assB rfl) ?_
      refine Wl.nil ?_
      refine tn ?_
      refine Wc.ret ?_
      refine br ?_
      refine tr ?_
      refine tr ?_
      refine br ?_
      refine tr ?_
      refine postL.tmp rfl rfl ?_
      refine RetV.of ?_ st.below
      refine congrArg Value.bool ?_
      exact eqR_f (k := k) (by omega) (by omega)
    · refine Wc.skip ?_
      refine bn ?_
      refine tn ?_
      refine Wc.region rfl ?_
      refine Wl.pure (PR.add (a := ((k : Nat) : Int)) (b := 1) rfl rfl (by simp only [fitI]; omega)) ?_
      refine Wl.pure (PR.moveI rfl) ?_
      refine Wl.nil ?_
      refine tn ?_
      exact ⟨k + 1, (.cons rfl (.cons rfl (.cons rfl (.cons rfl (.nil _))))), ⟨st, (by first | omega | (dsimp only; omega)), (all_snoc hg (by omega))⟩, (by first | omega | (dsimp only; omega))⟩
  · refine Wc.exit ?_
    refine tx ?_
    refine tx ?_
    refine bh ?_
    refine tn ?_
    refine Wc.seq ?_
    refine Wc.region rfl ?_
    refine Wl.pure (PR.assB rfl) ?_
    refine Wl.nil ?_
    refine tn ?_
    refine Wc.ret ?_
    refine postL.tmp rfl rfl ?_
    refine RetV.of ?_ st.below
    refine congrArg Value.bool ?_
    exact eqR_t (fun j hj => hg j (by omega))

set_option maxHeartbeats 400000 in
set_option maxRecDepth 4000 in
theorem c_spec_l03Rows {A : Option Addr} {n : Nat} {cp : Nat} {y : Nat → Int} {c : Nat → Nat → Nat} {k : Nat} {w : World} (hRL : RdS w A n (layS n y c)) (hg : ∀ i, i < n → -128 ≤ y i ∧ y i ≤ 127) (hc : ∀ i k, c i k < 256) (hn6 : 1 ≤ n ∧ n ≤ 6) (hk : k < 64) :
    CE Tryz.prog 70 [.slice (A) (n) (cp), .int .i64 (((k : Nat) : Int))] w (RetXG w [] 5 1 (n) (arrU .u8 n (fun r => c r k)) (fun b_ c_ => .slice (some ⟨b_, 0, none⟩) (n) (c_)) []) := by
  refine CE.enter 25 [(0, .slice (A) (n) (cp)), (1, .int .i64 (((k : Nat) : Int)))] en_70 Tryz.func70 rfl rfl (Nat.le_of_ble_eq_true rfl) rfl ?_
  have st := St.start w
  refine Wc.seq ?_
  refine Wc.region rfl ?_
  refine Wl.pure (PR.assL rfl) ?_
  refine Wl.nil ?_
  refine tn ?_
  refine Wc.seq ?_
  refine Wc.region rfl ?_
  refine Wl.buildSlice (ps := []) (cs := arrU .u8 0 (fun _ => 0) ++ []) st tS_22 tZ_5 rfl rfl rfl ?_
  clear st
  intro b7 w1 st
  refine Wl.pure (PR.assL rfl) ?_
  refine Wl.nil ?_
  refine tn ?_
  refine Wc.seq ?_
  refine Wc.seq ?_
  refine Wc.region rfl ?_
  refine Wl.pure (PR.assI rfl) ?_
  refine Wl.nil ?_
  refine tn ?_
  refine Wc.block ?_
  refine Wc.loopF (γ := Nat × (Nat → Nat) × Nat × Nat × List Value) (fun g => [(0, .slice (A) (n) (cp)), (1, .int .i64 (((k : Nat) : Int))), (4, .slice (none) (0) (0)), (5, .slice (some ⟨g.2.2.1, 0, none⟩) (g.1) (g.2.2.2.1)), (6, .int .i64 (((g.1 : Nat) : Int)))]) (fun g w_ => St [] w w_ [(g.2.2.1, arrU .u8 g.1 g.2.1 ++ g.2.2.2.2, 5)] ∧ (g.1 ≤ n) ∧ (∀ j, j < g.1 → g.2.1 j = c j k) ∧ (g.1 ≤ g.2.2.2.1) ∧ (g.2.2.2.2.length = (g.2.2.2.1 - g.1) * 1)) (fun g => n - g.1) ?_ ?_
  · exact ⟨(0, (fun _ => 0), b7, 0, []), (.cons rfl (.cons rfl (.cons rfl (.cons rfl (.cons rfl (.nil _)))))), st, (by first | omega | (dsimp only; omega)), (fun j hj => by omega), (Nat.le_refl _), rfl⟩
  clear st
  rintro ⟨i, u, b_o, c_o, sp_o⟩ w2 ⟨st, hi, hu, hc_o, hs_o⟩
  try dsimp only at st hi hu hc_o hs_o ⊢
  refine Wc.seq ?_
  refine Wc.seq ?_
  refine Wc.region rfl ?_
  refine Wl.pure (PR.moveI rfl) ?_
  refine Wl.pure (PR.moveL rfl) ?_
  refine Wl.pure (PR.lenL tS_32 rfl) ?_
  refine Wl.pure (PR.lss (a := ((i : Nat) : Int)) (b := ((n : Nat) : Int)) rfl rfl) ?_
  refine Wl.nil ?_
  refine tn ?_
  refine Wc.condD (p := ((i : Nat) : Int) < ((n : Nat) : Int)) rfl (fun h3 => ?_) (fun h3 => ?_)
  · refine Wc.skip ?_
    refine tn ?_
    refine Wc.seq ?_
    refine Wc.block ?_
    refine Wc.region rfl ?_
    refine Wl.pure (PR.moveL rfl) ?_
    refine Wl.pure (PR.moveL rfl) ?_
    refine Wl.pure (PR.moveI rfl) ?_
    refine Wl.pure (PR.moveI rfl) ?_
    obtain ⟨bs4, os5, rfl, hs6⟩ := hRL (by omega)
    have := hg (i) (by omega)
    refine Wl.pure (PR.idxAddrS (i := i) tS_32 rfl rfl (by omega)) ?_
    refine Wl.pure (PR.fieldAddr tF_50_1 rfl) ?_
    refine Wl.pure (PR.idxAddrA1 (i := k) tE_48 rfl rfl (by omega)) ?_
    refine Wl.loadC tA_5 rfl ((hs6.st st).at_ (recV_get (i := i) (j := 1 + k) (layS_row _ _) (by omega) (layV_get_c (by omega))) (by omega)) ?_
    refine Wl.buildSlice (ps := [(0, .int .u8 ((((c i) (k) : Nat) : Int)))]) (cs := [.int .u8 ((((c i) (k) : Nat) : Int))]) st tS_22 tZ_5 rfl rfl rfl ?_
    clear st
    intro b22 w7 st
    refine Wl.append (n := i) (c := c_o) (m := 1) (cs := arrU .u8 i u) (sp := sp_o) (vs := [.int .u8 ((((c i) (k) : Nat) : Int))]) (i := 1) st tS_22 tZ_5 rfl rfl rfl (by rw [(arrU_len _), Nat.mul_one]) hs_o hc_o rfl (Src.ofRdA (tyS_und tS_22) (st.rdA (i := 0) (n := 1) rfl rfl) rfl (by simp [Value.oneCell'])) (by omega) (by omega) ?_
    clear st
    intro b23 c23 sp23 w8 hc23 hs23 st
    rw [arrU_snoc] at st
    replace st : St [] w w8 [(b23, arrU .u8 (i + 1) (upd u i ((c i) (k))) ++ sp23, 5), (b22, [.int .u8 ((((c i) (k) : Nat) : Int))], 5)] := st
    refine Wl.pure (PR.assL rfl) ?_
    refine Wl.nil ?_
    refine bn ?_
    refine tn ?_
    refine Wc.region rfl ?_
    refine Wl.pure (PR.moveI rfl) ?_
    refine Wl.pure (PR.add (a := ((i : Nat) : Int)) (b := 1) rfl rfl (by simp only [fitI]; omega)) ?_
    refine Wl.pure (PR.assI rfl) ?_
    refine Wl.nil ?_
    refine tn ?_
    replace st : St [] w w8 [(b23, arrU .u8 (i + 1) (upd u i ((c i) (k))) ++ sp23, 5)] := st.pick [0] (by decide) rfl
    exact ⟨(i + 1, (upd u i ((c i) (k))), b23, c23, sp23), (.cons rfl (.cons rfl (.cons rfl (.cons rfl (.cons rfl (.nil _)))))), ⟨st, (by first | omega | (dsimp only; omega)), (upd_snoc hu rfl), hc23, hs23⟩, (by first | omega | (dsimp only; omega))⟩
  · refine Wc.exit ?_
    refine tx ?_
    refine tx ?_
    refine bh ?_
    refine tn ?_
    refine Wc.seq ?_
    refine Wc.region rfl ?_
    refine Wl.pure (PR.moveL rfl) ?_
    refine Wl.pure (PR.assL rfl) ?_
    refine Wl.nil ?_
    refine tn ?_
    refine Wc.ret ?_
    refine postL.tmp rfl rfl ?_
    obtain rfl : n = i := by omega
    rw [arrU_congr (d := (fun r => c r k)) (fun j hj => hu j hj)] at st
    exact ⟨b_o, c_o, sp_o, hc_o, hs_o, rfl, st⟩

set_option maxHeartbeats 400000 in
set_option maxRecDepth 4000 in
theorem c_spec_l03Sorted {A : Option Addr} {n : Nat} {cp : Nat} {c : Nat → Nat} {w : World} (hR : RdS w A n (arrU .u8 n c)) (hc : ∀ k, c k < 256) (hn : n ≤ 12) :
    CE Tryz.prog 84 [.slice (A) (n) (cp)] w (RetXG w [] 5 1 (n) (arrU .u8 n (srtF n c)) (fun b_ c_ => .slice (some ⟨b_, 0, none⟩) (n) (c_)) []) := by
  refine CE.enter 47 [(0, .slice (A) (n) (cp))] en_84 Tryz.func84 rfl rfl (Nat.le_of_ble_eq_true rfl) rfl ?_
  have st := St.start w
  refine Wc.seq ?_
  refine Wc.region rfl ?_
  refine Wl.pure (PR.assL rfl) ?_
  refine Wl.nil ?_
  refine tn ?_
  refine Wc.seq ?_
  refine Wc.region rfl ?_
  refine Wl.buildSlice (ps := []) (cs := arrU .u8 0 (fun _ => 0) ++ []) st tS_22 tZ_5 rfl rfl rfl ?_
  clear st
  intro b7 w1 st
  refine Wl.pure (PR.moveL rfl) ?_
  refine Wl.append0 (c := 0) (m := n) (sp := []) (vs := arrU .u8 n c) (i := 0) st tS_22 tZ_5 rfl rfl rfl rfl rfl (Src.ofRdS' (tyS_und tS_22) (hR.st st) (by rw [(arrU_len _), Nat.mul_one]) (arrU_one _)) (by omega) (by omega) ?_
  clear st
  intro b9 c9 sp9 w2 hc9 hs9 st
  replace st : St [] w w2 [(b9, arrU .u8 n c ++ sp9, 5)] := st
  refine Wl.pure (PR.assL rfl) ?_
  refine Wl.nil ?_
  refine tn ?_
  refine Wc.seq ?_
  refine Wc.seq ?_
  refine Wc.region rfl ?_
  refine Wl.pure (PR.assI rfl) ?_
  refine Wl.nil ?_
  refine tn ?_
  refine Wc.block ?_
  refine Wc.loopF (γ := Nat × (Nat → Nat)) (fun g => [(2, .slice (none) (0) (0)), (3, .slice (some ⟨b9, 0, none⟩) (n) (c9)), (4, .int .i64 (((g.1 : Nat) : Int)))]) (fun g w_ => St [] w w_ [(b9, arrU .u8 n g.2 ++ sp9, 5)] ∧ (1 ≤ g.1 ∧ g.1 ≤ n + 1) ∧ (∀ k, k + 1 < g.1 → g.2 k ≤ g.2 (k + 1)) ∧ (∀ v, cnt g.2 v n = cnt c v n) ∧ (∀ k, g.2 k < 256)) (fun g => n + 1 - g.1) ?_ ?_
  · exact ⟨(1, c), (.cons rfl (.cons rfl (.cons rfl (.nil _)))), st, (by first | omega | (dsimp only; omega)), (fun k hk => by omega), (fun _ => rfl), hc⟩
  clear st
  rintro ⟨i, u⟩ w3 ⟨st, hi, hs, hcn, hub⟩
  try dsimp only at st hi hs hcn hub ⊢
  refine Wc.seq ?_
  refine Wc.seq ?_
  refine Wc.region rfl ?_
  refine Wl.pure (PR.moveI rfl) ?_
  refine Wl.pure (PR.moveL rfl) ?_
  refine Wl.pure (PR.lenL tS_22 rfl) ?_
  refine Wl.pure (PR.lss (a := ((i : Nat) : Int)) (b := ((n : Nat) : Int)) rfl rfl) ?_
  refine Wl.nil ?_
  refine tn ?_
  refine Wc.condD (p := ((i : Nat) : Int) < ((n : Nat) : Int)) rfl (fun h4 => ?_) (fun h4 => ?_)
  · refine Wc.skip ?_
    refine tn ?_
    refine Wc.seq ?_
    refine Wc.block ?_
    refine Wc.seq ?_
    refine Wc.region rfl ?_
    refine Wl.pure (PR.moveL rfl) ?_
    refine Wl.pure (PR.moveI rfl) ?_
    refine Wl.pure (PR.idxAddrS1 (i := i) tS_22 rfl rfl (by omega)) ?_
    refine Wl.load (i := 0) st tA_5 rfl rfl (app_get (arrU_get0 (by omega))) ?_
    refine Wl.pure (PR.assI rfl) ?_
    refine Wl.nil ?_
    refine tn ?_
    refine Wc.seq ?_
    refine Wc.region rfl ?_
    refine Wl.pure (PR.moveI rfl) ?_
    refine Wl.pure (PR.assI rfl) ?_
    refine Wl.nil ?_
    refine tn ?_
    refine Wc.seq ?_
    refine Wc.block ?_
    refine Wc.loopF (γ := Nat × (Nat → Nat)) (fun g => [(2, .slice (none) (0) (0)), (3, .slice (some ⟨b9, 0, none⟩) (n) (c9)), (4, .int .i64 (((i : Nat) : Int))), (5, .int .u8 (((u (i) : Nat) : Int))), (6, .int .i64 (((g.1 : Nat) : Int))), (10, .int .i64 (((i : Nat) : Int))), (11, .slice (some ⟨b9, 0, none⟩) (n) (c9)), (12, .int .i64 (((n : Nat) : Int))), (13, .bool (decide (((i : Nat) : Int) < ((n : Nat) : Int)))), (16, .slice (some ⟨b9, 0, none⟩) (n) (c9)), (17, .int .i64 (((i : Nat) : Int))), (18, .pointer (some ⟨b9, 0 + i, none⟩)), (19, .int .u8 (((u (i) : Nat) : Int))), (20, .int .i64 (((i : Nat) : Int)))]) (fun g w_ => St [] w w_ [(b9, arrU .u8 n g.2 ++ sp9, 5)] ∧ (g.1 ≤ i) ∧ (∀ k, k + 1 ≤ i → k + 1 ≠ g.1 → upd g.2 g.1 (u i) k ≤ upd g.2 g.1 (u i) (k + 1)) ∧ (∀ k, k + 1 = g.1 → g.1 + 1 ≤ i → upd g.2 g.1 (u i) k ≤ upd g.2 g.1 (u i) (g.1 + 1)) ∧ (∀ v, cnt (upd g.2 g.1 (u i)) v n = cnt c v n) ∧ (∀ k, g.2 k < 256)) (fun g => g.1) ?_ ?_
    · exact ⟨(i, u), (.cons rfl (.cons rfl (.cons rfl (.cons rfl (.cons rfl (.cons rfl (.cons rfl (.cons rfl (.cons rfl (.cons rfl (.cons rfl (.cons rfl (.cons rfl (.cons rfl (.nil _))))))))))))))), st, (by first | omega | (dsimp only; omega)), (by rw [shf_0]; exact fun k hk hne => hs k (by omega)), (fun k hk h => by omega), (by rw [shf_0]; exact hcn), hub⟩
    clear st
    rintro ⟨j, e⟩ w5 ⟨st, hj, hs2, hx, hcm, heb⟩
    try dsimp only at st hj hs2 hx hcm heb ⊢
    refine Wc.seq ?_
    refine Wc.seq ?_
    refine Wc.region rfl ?_
    refine Wl.pure (PR.moveI rfl) ?_
    refine Wl.pure (PR.gtr (a := ((j : Nat) : Int)) (b := 0) rfl rfl) ?_
    refine Wl.pure (PR.moveB rfl) ?_
    refine Wl.splitT (q := 0 < ((j : Nat) : Int)) rfl rfl (fun h6 => ?_) (fun h6 => ?_)
    · refine Wl.pure (PR.moveI rfl) ?_
      refine Wl.on rfl rfl ?_
      refine Wl.pure (PR.moveL rfl) ?_
      refine Wl.on rfl rfl ?_
      refine Wl.pure (PR.moveI rfl) ?_
      refine Wl.on rfl rfl ?_
      refine Wl.pure (PR.subN (a := j) (b := 1) rfl rfl (by omega) (by simp only [fitI]; omega)) ?_
      refine Wl.on rfl rfl ?_
      refine Wl.pure (PR.idxAddrS1 (i := (j - 1)) tS_22 rfl rfl (by omega)) ?_
      refine Wl.on rfl rfl ?_
      refine Wl.load (i := 0) st tA_5 rfl rfl (app_get (arrU_get0 (by omega))) ?_
      refine Wl.on rfl rfl ?_
      refine Wl.pure (PR.lss (a := ((u (i) : Nat) : Int)) (b := ((e ((j - 1)) : Nat) : Int)) rfl rfl) ?_
      refine Wl.pure (PR.pickTB rfl rfl) ?_
      refine Wl.nil ?_
      refine tn ?_
      refine Wc.condD (p := ((u (i) : Nat) : Int) < ((e ((j - 1)) : Nat) : Int)) rfl (fun h7 => ?_) (fun h7 => ?_)
      · refine Wc.skip ?_
        refine tn ?_
        refine Wc.block ?_
        refine Wc.seq ?_
        refine Wc.region rfl ?_
        refine Wl.pure (PR.moveL rfl) ?_
        refine Wl.pure (PR.moveI rfl) ?_
        refine Wl.pure (PR.moveL rfl) ?_
        refine Wl.pure (PR.moveI rfl) ?_
        refine Wl.pure (PR.subN (a := j) (b := 1) rfl rfl (by omega) (by simp only [fitI]; omega)) ?_
        refine Wl.pure (PR.idxAddrS1 (i := (j - 1)) tS_22 rfl rfl (by omega)) ?_
        refine Wl.load (i := 0) st tA_5 rfl rfl (app_get (arrU_get0 (by omega))) ?_
        refine Wl.pure (PR.idxAddrS1 (i := j) tS_22 rfl rfl (by omega)) ?_
        refine Wl.store (i := 0) (cs' := arrU .u8 n (upd e (j) (e ((j - 1)))) ++ sp9) st tA_5 rfl rfl rfl rfl (app_in (lt_of_len (arrU_len _) (by omega))) (app_set (lt_of_len (arrU_len _) (by omega)) (arrU_set0)) ?_
        clear st
        intro w8 st
        replace st : St [] w w8 [(b9, arrU .u8 n (upd e (j) (e ((j - 1)))) ++ sp9, 5)] := st
        refine Wl.nil ?_
        refine tn ?_
        refine Wc.region rfl ?_
        refine Wl.pure (PR.moveI rfl) ?_
        refine Wl.pure (PR.subN (a := j) (b := 1) rfl rfl (by omega) (by simp only [fitI]; omega)) ?_
        refine Wl.pure (PR.assI rfl) ?_
        refine Wl.nil ?_
        refine bn ?_
        refine tn ?_
        exact ⟨(j - 1, upd e (j) (e ((j - 1)))), (.cons rfl (.cons rfl (.cons rfl (.cons rfl (.cons rfl (.cons rfl (.cons rfl (.cons rfl (.cons rfl (.cons rfl (.cons rfl (.cons rfl (.cons rfl (.cons rfl (.nil _))))))))))))))), ⟨st, (by first | omega | (dsimp only; omega)), (shf_1 hs2 hx (by omega) hj (by omega)), (shf_2 hs2 (by omega) hj), (shf_3 hcm (by omega) (by omega)), (upd_lt heb (heb _))⟩, (by first | omega | (dsimp only; omega))⟩
      · refine Wc.exit ?_
        refine tx ?_
        refine tx ?_
        refine bh ?_
        refine tn ?_
        refine Wc.region rfl ?_
        refine Wl.pure (PR.moveL rfl) ?_
        refine Wl.pure (PR.moveI rfl) ?_
        refine Wl.pure (PR.moveI rfl) ?_
        refine Wl.pure (PR.idxAddrS1 (i := j) tS_22 rfl rfl (by omega)) ?_
        refine Wl.store (i := 0) (cs' := arrU .u8 n (upd e (j) (u (i))) ++ sp9) st tA_5 rfl rfl rfl rfl (app_in (lt_of_len (arrU_len _) (by omega))) (app_set (lt_of_len (arrU_len _) (by omega)) (arrU_set0)) ?_
        clear st
        intro w9 st
        replace st : St [] w w9 [(b9, arrU .u8 n (upd e (j) (u (i))) ++ sp9, 5)] := st
        refine Wl.nil ?_
        refine bn ?_
        refine tn ?_
        refine Wc.region rfl ?_
        refine Wl.pure (PR.moveI rfl) ?_
        refine Wl.pure (PR.add (a := ((i : Nat) : Int)) (b := 1) rfl rfl (by simp only [fitI]; omega)) ?_
        refine Wl.pure (PR.assI rfl) ?_
        refine Wl.nil ?_
        refine tn ?_
        exact ⟨(i + 1, upd e (j) (u (i))), (.cons rfl (.cons rfl (.cons rfl (.nil _)))), ⟨st, (by first | omega | (dsimp only; omega)), (shf_e hs2 (fun _ => by omega)), hcm, (upd_lt heb (hub i))⟩, (by first | omega | (dsimp only; omega))⟩
    · refine Wl.off rfl rfl rfl ?_
      refine Wl.off rfl rfl rfl ?_
      refine Wl.off rfl rfl rfl ?_
      refine Wl.off rfl rfl rfl ?_
      refine Wl.off rfl rfl rfl ?_
      refine Wl.off rfl rfl rfl ?_
      refine Wl.pure (PR.pickFB rfl rfl) ?_
      refine Wl.nil ?_
      refine tn ?_
      refine Wc.condF rfl ?_
      refine Wc.exit ?_
      refine tx ?_
      refine tx ?_
      refine bh ?_
      refine tn ?_
      refine Wc.region rfl ?_
      refine Wl.pure (PR.moveL rfl) ?_
      refine Wl.pure (PR.moveI rfl) ?_
      refine Wl.pure (PR.moveI rfl) ?_
      refine Wl.pure (PR.idxAddrS1 (i := j) tS_22 rfl rfl (by omega)) ?_
      refine Wl.store (i := 0) (cs' := arrU .u8 n (upd e (j) (u (i))) ++ sp9) st tA_5 rfl rfl rfl rfl (app_in (lt_of_len (arrU_len _) (by omega))) (app_set (lt_of_len (arrU_len _) (by omega)) (arrU_set0)) ?_
      clear st
      intro w10 st
      replace st : St [] w w10 [(b9, arrU .u8 n (upd e (j) (u (i))) ++ sp9, 5)] := st
      refine Wl.nil ?_
      refine bn ?_
      refine tn ?_
      refine Wc.region rfl ?_
      refine Wl.pure (PR.moveI rfl) ?_
      refine Wl.pure (PR.add (a := ((i : Nat) : Int)) (b := 1) rfl rfl (by simp only [fitI]; omega)) ?_
      refine Wl.pure (PR.assI rfl) ?_
      refine Wl.nil ?_
      refine tn ?_
      exact ⟨(i + 1, upd e (j) (u (i))), (.cons rfl (.cons rfl (.cons rfl (.nil _)))), ⟨st, (by first | omega | (dsimp only; omega)), (shf_e hs2 (fun _ => by omega)), hcm, (upd_lt heb (hub i))⟩, (by first | omega | (dsimp only; omega))⟩
  · refine Wc.exit ?_
    refine tx ?_
    refine tx ?_
    refine bh ?_
    refine tn ?_
    refine Wc.seq ?_
    refine Wc.region rfl ?_
    refine Wl.pure (PR.moveL rfl) ?_
    refine Wl.pure (PR.assL rfl) ?_
    refine Wl.nil ?_
    refine tn ?_
    refine Wc.ret ?_
    refine postL.tmp rfl rfl ?_
    rw [arrU_congr (srt_of (u := u) (c := c) (n := n) (fun k hk => hs k (by omega)) hcn)] at st
    exact ⟨b9, c9, sp9, hc9, hs9, rfl, st⟩

set_option maxHeartbeats 400000 in
set_option maxRecDepth 4000 in
theorem c_spec_l03Columns {A : Option Addr} {n : Nat} {cp : Nat} {c : Nat → Nat} {m : Nat} {w : World} (hR : RdS w A n (arrU .u8 n c)) (hc : ∀ k, c k < 256) (hn : n ≤ 8) (hm : m ≤ 8) :
    CE Tryz.prog 71 [.slice (A) (n) (cp), .int .i64 (((m : Nat) : Int))] w (RetXG w [] 5 1 (m) (arrU .u8 m (srtF m (colsA n c))) (fun b_ c_ => .slice (some ⟨b_, 0, none⟩) (m) (c_)) []) := by
  refine CE.enter 40 [(0, .slice (A) (n) (cp)), (1, .int .i64 (((m : Nat) : Int)))] en_71 Tryz.func71 rfl rfl (Nat.le_of_ble_eq_true rfl) rfl ?_
  have st := St.start w
  refine Wc.seq ?_
  refine Wc.region rfl ?_
  refine Wl.pure (PR.assL rfl) ?_
  refine Wl.nil ?_
  refine tn ?_
  refine Wc.seq ?_
  refine Wc.region rfl ?_
  refine Wl.buildSlice (ps := []) (cs := arrU .u8 0 (fun _ => 0) ++ []) st tS_22 tZ_5 rfl rfl rfl ?_
  clear st
  intro b9 w1 st
  refine Wl.pure (PR.assL rfl) ?_
  refine Wl.nil ?_
  refine tn ?_
  refine Wc.seq ?_
  refine Wc.seq ?_
  refine Wc.region rfl ?_
  refine Wl.pure (PR.assI rfl) ?_
  refine Wl.nil ?_
  refine tn ?_
  refine Wc.block ?_
  refine Wc.loopF (γ := Nat × (Nat → Nat) × Nat × Nat × List Value) (fun g => [(0, .slice (A) (n) (cp)), (1, .int .i64 (((m : Nat) : Int))), (4, .slice (none) (0) (0)), (5, .slice (some ⟨g.2.2.1, 0, none⟩) (g.1) (g.2.2.2.1)), (6, .int .i64 (((g.1 : Nat) : Int)))]) (fun g w_ => St [] w w_ [(g.2.2.1, arrU .u8 g.1 g.2.1 ++ g.2.2.2.2, 5)] ∧ (g.1 ≤ m) ∧ (∀ j, j < g.1 → g.2.1 j = colA c j n) ∧ (g.1 ≤ g.2.2.2.1) ∧ (g.2.2.2.2.length = (g.2.2.2.1 - g.1) * 1)) (fun g => m - g.1) ?_ ?_
  · exact ⟨(0, (fun _ => 0), b9, 0, []), (.cons rfl (.cons rfl (.cons rfl (.cons rfl (.cons rfl (.nil _)))))), st, (by first | omega | (dsimp only; omega)), (fun j hj => by omega), (Nat.le_refl _), rfl⟩
  clear st
  rintro ⟨i, u, b_o, c_o, sp_o⟩ w2 ⟨st, hi, hu, hc_o, hs_o⟩
  try dsimp only at st hi hu hc_o hs_o ⊢
  refine Wc.seq ?_
  refine Wc.seq ?_
  refine Wc.region rfl ?_
  refine Wl.pure (PR.moveI rfl) ?_
  refine Wl.pure (PR.moveI rfl) ?_
  refine Wl.pure (PR.lss (a := ((i : Nat) : Int)) (b := ((m : Nat) : Int)) rfl rfl) ?_
  refine Wl.nil ?_
  refine tn ?_
  refine Wc.condD (p := ((i : Nat) : Int) < ((m : Nat) : Int)) rfl (fun h3 => ?_) (fun h3 => ?_)
  · refine Wc.skip ?_
    refine tn ?_
    refine Wc.seq ?_
    refine Wc.block ?_
    refine Wc.seq ?_
    refine Wc.region rfl ?_
    refine Wl.pure (PR.assI rfl) ?_
    refine Wl.nil ?_
    refine tn ?_
    refine Wc.seq ?_
    refine Wc.seq ?_
    refine Wc.region rfl ?_
    refine Wl.pure (PR.assI rfl) ?_
    refine Wl.nil ?_
    refine tn ?_
    refine Wc.block ?_
    refine Wc.loopF (γ := Nat × Nat) (fun g => [(0, .slice (A) (n) (cp)), (1, .int .i64 (((m : Nat) : Int))), (4, .slice (none) (0) (0)), (5, .slice (some ⟨b_o, 0, none⟩) (i) (c_o)), (6, .int .i64 (((i : Nat) : Int))), (7, .int .u8 (((g.2 : Nat) : Int))), (8, .int .i64 (((g.1 : Nat) : Int))), (10, .int .i64 (((i : Nat) : Int))), (11, .int .i64 (((m : Nat) : Int))), (12, .bool (decide (((i : Nat) : Int) < ((m : Nat) : Int))))]) (fun g w_ => St [] w w_ [(b_o, arrU .u8 i u ++ sp_o, 5)] ∧ (g.1 ≤ n) ∧ (g.2 = colA c i g.1) ∧ (g.2 < 256)) (fun g => n - g.1) ?_ ?_
    · exact ⟨(0, 0), (.cons rfl (.cons rfl (.cons rfl (.cons rfl (.cons rfl (.cons rfl (.cons rfl (.cons rfl (.cons rfl (.cons rfl (.nil _))))))))))), st, (by first | omega | (dsimp only; omega)), rfl, (by decide)⟩
    clear st
    rintro ⟨r, v⟩ w4 ⟨st, hr, hv, hvb⟩
    try dsimp only at st hr hv hvb ⊢
    refine Wc.seq ?_
    refine Wc.seq ?_
    refine Wc.region rfl ?_
    refine Wl.pure (PR.moveI rfl) ?_
    refine Wl.pure (PR.moveL rfl) ?_
    refine Wl.pure (PR.lenL tS_22 rfl) ?_
    refine Wl.pure (PR.lss (a := ((r : Nat) : Int)) (b := ((n : Nat) : Int)) rfl rfl) ?_
    refine Wl.nil ?_
    refine tn ?_
    refine Wc.condD (p := ((r : Nat) : Int) < ((n : Nat) : Int)) rfl (fun h5 => ?_) (fun h5 => ?_)
    · refine Wc.skip ?_
      refine tn ?_
      refine Wc.seq ?_
      refine Wc.block ?_
      refine Wc.region rfl ?_
      refine Wl.pure (PR.moveI rfl) ?_
      refine Wl.pure (PR.moveL rfl) ?_
      refine Wl.pure (PR.moveI rfl) ?_
      obtain ⟨bs6, os7, rfl, hs8⟩ := hR (by omega)
      refine Wl.pure (PR.idxAddrS1 (i := r) tS_22 rfl rfl (by omega)) ?_
      refine Wl.loadC tA_5 rfl ((hs8.st st).at_ (arrU_get0 (by omega)) (Nat.add_assoc _ _ _).symm) ?_
      refine Wl.pure (PR.moveI rfl) ?_
      refine Wl.pure (PR.conv (n := ((i : Nat) : Int)) tI_51 rfl (by simp only [fitI]; omega) Tryz.underlying2) ?_
      refine Wl.pure (PR.shr (a := c (r)) (n := i) rfl rfl (by decide) (hc (r))) ?_
      refine Wl.pure (PR.and (a := ((c (r)) >>> i)) (b := 1) rfl rfl (by decide) (shr_lt (hc (r))) (by decide)) ?_
      refine Wl.pure (PR.moveI rfl) ?_
      refine Wl.pure (PR.conv (n := ((r : Nat) : Int)) tI_51 rfl (by simp only [fitI]; omega) Tryz.underlying3) ?_
      refine Wl.pure (PR.shl (a := (((c (r)) >>> i) &&& 1)) (n := r) rfl rfl (by decide)) ?_
      refine Wl.pure (PR.or (a := v) (b := (((((c (r)) >>> i) &&& 1) <<< r) % 256)) rfl rfl (by decide) hvb (Nat.mod_lt _ (by decide))) ?_
      refine Wl.pure (PR.assI rfl) ?_
      refine Wl.nil ?_
      refine bn ?_
      refine tn ?_
      refine Wc.region rfl ?_
      refine Wl.pure (PR.moveI rfl) ?_
      refine Wl.pure (PR.add (a := ((r : Nat) : Int)) (b := 1) rfl rfl (by simp only [fitI]; omega)) ?_
      refine Wl.pure (PR.assI rfl) ?_
      refine Wl.nil ?_
      refine tn ?_
      exact ⟨(r + 1, (v ||| (((((c (r)) >>> i) &&& 1) <<< r) % 256))), (.cons rfl (.cons rfl (.cons rfl (.cons rfl (.cons rfl (.cons rfl (.cons rfl (.cons rfl (.cons rfl (.cons rfl (.nil _))))))))))), ⟨st, (by first | omega | (dsimp only; omega)), (colA_next hv), (or_lt_u8 hvb (Nat.mod_lt _ (by decide)))⟩, (by first | omega | (dsimp only; omega))⟩
    · refine Wc.exit ?_
      refine tx ?_
      refine tx ?_
      refine bh ?_
      refine tn ?_
      refine Wc.region rfl ?_
      refine Wl.pure (PR.moveL rfl) ?_
      refine Wl.pure (PR.moveI rfl) ?_
      refine Wl.buildSlice (ps := [(0, .int .u8 (((v : Nat) : Int)))]) (cs := [.int .u8 (((v : Nat) : Int))]) st tS_22 tZ_5 rfl rfl rfl ?_
      clear st
      intro b36 w9 st
      refine Wl.append (n := i) (c := c_o) (m := 1) (cs := arrU .u8 i u) (sp := sp_o) (vs := [.int .u8 (((v : Nat) : Int))]) (i := 1) st tS_22 tZ_5 rfl rfl rfl (by rw [(arrU_len _), Nat.mul_one]) hs_o hc_o rfl (Src.ofRdA (tyS_und tS_22) (st.rdA (i := 0) (n := 1) rfl rfl) rfl (by simp [Value.oneCell'])) (by omega) (by omega) ?_
      clear st
      intro b37 c37 sp37 w10 hc37 hs37 st
      rw [arrU_snoc] at st
      replace st : St [] w w10 [(b37, arrU .u8 (i + 1) (upd u i v) ++ sp37, 5), (b36, [.int .u8 (((v : Nat) : Int))], 5)] := st
      refine Wl.pure (PR.assL rfl) ?_
      refine Wl.nil ?_
      refine bn ?_
      refine tn ?_
      refine Wc.region rfl ?_
      refine Wl.pure (PR.moveI rfl) ?_
      refine Wl.pure (PR.add (a := ((i : Nat) : Int)) (b := 1) rfl rfl (by simp only [fitI]; omega)) ?_
      refine Wl.pure (PR.assI rfl) ?_
      refine Wl.nil ?_
      refine tn ?_
      replace st : St [] w w10 [(b37, arrU .u8 (i + 1) (upd u i v) ++ sp37, 5)] := st.pick [0] (by decide) rfl
      exact ⟨(i + 1, (upd u i v), b37, c37, sp37), (.cons rfl (.cons rfl (.cons rfl (.cons rfl (.cons rfl (.nil _)))))), ⟨st, (by first | omega | (dsimp only; omega)), (upd_snoc hu (by rw [hv]; exact congrArg (colA c i) (by omega))), hc37, hs37⟩, (by first | omega | (dsimp only; omega))⟩
  · refine Wc.exit ?_
    refine tx ?_
    refine tx ?_
    refine bh ?_
    refine tn ?_
    refine Wc.seq ?_
    obtain rfl : m = i := by omega
    rw [arrU_congr (d := colsA n c) (fun j hj => hu j hj)] at st
    refine Wc.region rfl ?_
    refine Wl.pure (PR.moveL rfl) ?_
    refine Wl.callXG [] st (c_spec_l03Sorted (A := some ⟨b_o, 0, none⟩) (n := m) (cp := c_o) (c := (colsA n c)) ((st.rdA (i := 0) (n := m) rfl (app_all (arrU_len _))).sl) (fun j => colA_lt _ _ _) (by first | assumption | omega)) rfl rfl ?_
    clear st
    intro b39 c39 sp39 w11 hc39 hs39 st
    replace st : St [] w w11 [(b39, arrU .u8 m (srtF m (colsA n c)) ++ sp39, 5), (b_o, arrU .u8 m (colsA n c) ++ sp_o, 5)] := st
    refine Wl.pure (PR.assL rfl) ?_
    refine Wl.nil ?_
    refine tn ?_
    refine Wc.ret ?_
    refine postL.tmp rfl rfl ?_
    replace st : St [] w w11 [(b39, arrU .u8 m (srtF m (colsA n c)) ++ sp39, 5)] := st.pick [0] (by decide) rfl
    exact ⟨b39, c39, sp39, hc39, hs39, rfl, st⟩

set_option maxHeartbeats 400000 in
set_option maxRecDepth 4000 in
theorem c_spec_l03Same {A : Option Addr} {n : Nat} {cp : Nat} {c : Nat → Nat} {B : Option Addr} {cq : Nat} {d : Nat → Nat} {w : World} (hR : RdS w A n (arrU .u8 n c)) (hQ : RdS w B n (arrU .u8 n d)) (hc : ∀ k, c k < 256) (hd : ∀ k, d k < 256) (hn : n ≤ 1000) :
    CE Tryz.prog 46 [.slice (A) (n) (cp), .slice (B) (n) (cq)] w (RetV w (.bool (eqR n c d))) := by
  refine CE.enter 26 [(0, .slice (A) (n) (cp)), (1, .slice (B) (n) (cq))] en_46 Tryz.func46 rfl rfl (Nat.le_of_ble_eq_true rfl) rfl ?_
  have st := St.start w
  refine Wc.seq ?_
  refine Wc.region rfl ?_
  refine Wl.pure (PR.assB rfl) ?_
  refine Wl.nil ?_
  refine tn ?_
  refine Wc.seq ?_
  refine Wc.seq ?_
  refine Wc.region rfl ?_
  refine Wl.pure (PR.moveL rfl) ?_
  refine Wl.pure (PR.lenL tS_22 rfl) ?_
  refine Wl.pure (PR.moveL rfl) ?_
  refine Wl.pure (PR.lenL tS_22 rfl) ?_
  refine Wl.pure (PR.neqS (a := ((n : Nat) : Int)) rfl rfl) ?_
  refine Wl.nil ?_
  refine tn ?_
  refine Wc.condF rfl ?_
  refine Wc.skip ?_
  refine tn ?_
  refine Wc.seq ?_
  refine Wc.seq ?_
  refine Wc.region rfl ?_
  refine Wl.pure (PR.assI rfl) ?_
  refine Wl.nil ?_
  refine tn ?_
  refine Wc.block ?_
  refine Wc.loopF (γ := Nat) (fun g => [(0, .slice (A) (n) (cp)), (1, .slice (B) (n) (cq)), (5, .int .i64 (((g : Nat) : Int)))]) (fun g w_ => St [] w w_ [] ∧ (g ≤ n) ∧ (∀ j, j < g → c j = d j)) (fun g => n - g) ?_ ?_
  · exact ⟨0, (.cons rfl (.cons rfl (.cons rfl (.nil _)))), st, (by first | omega | (dsimp only; omega)), (fun j hj => by omega)⟩
  clear st
  rintro k w1 ⟨st, hk, hg⟩
  try dsimp only at st hk hg ⊢
  refine Wc.seq ?_
  refine Wc.seq ?_
  refine Wc.region rfl ?_
  refine Wl.pure (PR.moveI rfl) ?_
  refine Wl.pure (PR.moveL rfl) ?_
  refine Wl.pure (PR.lenL tS_22 rfl) ?_
  refine Wl.pure (PR.lss (a := ((k : Nat) : Int)) (b := ((n : Nat) : Int)) rfl rfl) ?_
  refine Wl.nil ?_
  refine tn ?_
  refine Wc.condD (p := ((k : Nat) : Int) < ((n : Nat) : Int)) rfl (fun h2 => ?_) (fun h2 => ?_)
  · refine Wc.skip ?_
    refine tn ?_
    refine Wc.seq ?_
    refine Wc.block ?_
    refine Wc.seq ?_
    refine Wc.quiet hmix (by kernel_rfl) rfl ?_
    refine Wq.pure (PR.moveL rfl) ?_
    refine Wq.pure (PR.moveI rfl) ?_
    obtain ⟨bs3, os4, rfl, hs5⟩ := hR (by omega)
    refine Wq.pure (PR.idxAddrS1 (i := k) tS_22 rfl rfl (by omega)) ?_
    refine Wq.loadC tA_5 rfl ((hs5.st st).at_ (arrU_get0 (by omega)) (Nat.add_assoc _ _ _).symm) ?_
    refine Wq.pure (PR.moveL rfl) ?_
    refine Wq.pure (PR.moveI rfl) ?_
    obtain ⟨bs6, os7, rfl, hs8⟩ := hQ (by omega)
    refine Wq.pure (PR.idxAddrS1 (i := k) tS_22 rfl rfl (by omega)) ?_
    refine Wq.loadC tA_5 rfl ((hs8.st st).at_ (arrU_get0 (by omega)) (Nat.add_assoc _ _ _).symm) ?_
    refine Wq.pure (PR.neq (a := ((c (k) : Nat) : Int)) (b := ((d (k) : Nat) : Int)) rfl rfl) ?_
    refine Wq.nil (fun w9 hbel => ?_)
    replace st := st.call hbel
    clear hbel
    refine tn ?_
    refine Wc.condN (p := ((c (k) : Nat) : Int) = ((d (k) : Nat) : Int)) rfl (fun h10 => ?_) (fun h10 => ?_)
    · refine Wc.seq ?_
      refine Wc.region rfl ?_
      refine Wl.pure (PR.assB rfl) ?_
      refine Wl.nil ?_
      refine tn ?_
      refine Wc.ret ?_
      refine br ?_
      refine tr ?_
      refine tr ?_
      refine br ?_
      refine tr ?_
      refine postL.tmp rfl rfl ?_
      refine RetV.of ?_ st.below
      refine congrArg Value.bool ?_
      exact eqR_f (k := k) (by omega) (by omega)
    · refine Wc.skip ?_
      refine bn ?_
      refine tn ?_
      refine Wc.region rfl ?_
      refine Wl.pure (PR.moveI rfl) ?_
      refine Wl.pure (PR.add (a := ((k : Nat) : Int)) (b := 1) rfl rfl (by simp only [fitI]; omega)) ?_
      refine Wl.pure (PR.assI rfl) ?_
      refine Wl.nil ?_
      refine tn ?_
      exact ⟨k + 1, (.cons rfl (.cons rfl (.cons rfl (.nil _)))), ⟨st, (by first | omega | (dsimp only; omega)), (all_snoc hg (by omega))⟩, (by first | omega | (dsimp only; omega))⟩
  · refine Wc.exit ?_
    refine tx ?_
    refine tx ?_
    refine bh ?_
    refine tn ?_
    refine Wc.seq ?_
    refine Wc.region rfl ?_
    refine Wl.pure (PR.assB rfl) ?_
    refine Wl.nil ?_
    refine tn ?_
    refine Wc.ret ?_
    refine postL.tmp rfl rfl ?_
    refine RetV.of ?_ st.below
    refine congrArg Value.bool ?_
    exact eqR_t (fun j hj => hg j (by omega))

set_option maxHeartbeats 400000 in
set_option maxRecDepth 4000 in
theorem c_l07DueT {bk : Nat} {o : Nat} {s : Nat} {p : Nat} {a : Nat → Nat} {b : Nat → Nat} {w : World} (hR : RdA w bk o (schV ((s : Nat) : Int) ((p : Nat) : Int) a b)) (hp8 : 1 ≤ p ∧ p ≤ 8) (ha : ∀ k, a k < 256) (hb : ∀ k, b k < 256) (hs6 : 1 ≤ s ∧ s ≤ 6) :
    CE Tryz.prog 69 [.pointer (some ⟨bk, o, none⟩), .bool true] w (RetXG w [] 5 1 (p) (arrU .u8 p (dueF s p a b true)) (fun b_ c_ => .slice (some ⟨b_, 0, none⟩) (p) (c_)) []) := by
  refine CE.enter 34 [(0, .pointer (some ⟨bk, o, none⟩)), (1, .bool true)] en_69 Tryz.func69 rfl rfl (Nat.le_of_ble_eq_true rfl) rfl ?_
  have st := St.start w
  refine Wc.seq ?_
  refine Wc.region rfl ?_
  refine Wl.pure (PR.assL rfl) ?_
  refine Wl.nil ?_
  refine tn ?_
  refine Wc.seq ?_
  refine Wc.tree1 (w0 := w) (X := []) (Ks := []) (S := fun i => i == 0 || i == 9) (.st 1 0 (.st 2 0 (.st 3 0 (.st 4 0 (.st 5 0 (.st 6 0 (.st 7 3 (.st 8 0 (.st 0 2 (.st 9 2 (.st 10 0 PT.nil))))))))))) hmix (by kernel_rfl) (by kernel_rfl) rfl rfl ?_
  intro w1 hbel
  replace st := st.call hbel
  clear hbel
  refine WT.pure rfl (PR.moveP rfl) ?_
  refine WT.pure rfl (PR.nil_ rfl) ?_
  refine WT.pure rfl (PR.fieldAddr tF_27_2 rfl) ?_
  refine WT.pure rfl (PR.moveP rfl) ?_
  refine WT.pure rfl (PR.nil_ rfl) ?_
  refine WT.pure rfl (PR.fieldAddr tF_27_0 rfl) ?_
  refine WT.loadC rfl hR.1 (by simp) tA_24 rfl ((hR.st st).at_ (j := 0) (rfl) rfl) ?_
  refine WT.pure rfl (PR.sliceArrTo (hi := s) tE_25 rfl rfl (by omega)) ?_
  have st0 := st
  refine WT.s rfl rfl ?_
  refine Wl.buildSlice (ps := []) (cs := arrU .u8 0 (fun _ => 0) ++ []) st tS_22 tZ_5 rfl rfl rfl ?_
  clear st
  intro b6 w2 st
  refine Wl.nil ⟨rfl, RK.of st0 st ksN, ?_⟩
  clear st0
  have st0 := st
  refine WT.s rfl rfl ?_
  refine Wl.append0 (c := 0) (m := s) (sp := []) (vs := arrU .u8 s a) (i := 0) st tS_22 tZ_5 rfl rfl rfl rfl rfl (Src.ofRdS' (tyS_und tS_22) ((RdA.preU ((hR.st st).row schV_sub_a) (by omega)).sl) (by rw [(arrU_len _), Nat.mul_one]) (arrU_one _)) (by omega) (by omega) ?_
  clear st
  intro b15 c15 sp15 w3 hc15 hs15 st
  replace st : St [] w w3 [(b15, arrU .u8 s a ++ sp15, 5)] := st
  refine Wl.nil ⟨rfl, RK.of st0 st ksN, ?_⟩
  clear st0
  refine WT.pure rfl (PR.assL rfl) ?_
  refine WT.nil ?_
  refine tn ?_
  refine Wc.seq ?_
  refine Wc.seq ?_
  refine Wc.region rfl ?_
  refine Wl.pure (PR.moveB rfl) ?_
  refine Wl.nil ?_
  refine tn ?_
  refine Wc.condT rfl ?_
  refine Wc.tree1 (w0 := w) (X := []) (Ks := []) (S := fun i => i == 0 || i == 9) (.st 1 0 (.st 2 0 (.st 3 0 (.st 4 0 (.st 5 0 (.st 6 0 (.st 7 3 (.st 8 0 (.st 0 2 (.st 9 2 (.st 10 0 PT.nil))))))))))) hmix (by kernel_rfl) (by kernel_rfl) rfl rfl ?_
  intro w4 hbel
  replace st := st.call hbel
  clear hbel
  refine WT.pure rfl (PR.moveP rfl) ?_
  refine WT.pure rfl (PR.nil_ rfl) ?_
  refine WT.pure rfl (PR.fieldAddr tF_27_3 rfl) ?_
  refine WT.pure rfl (PR.moveP rfl) ?_
  refine WT.pure rfl (PR.nil_ rfl) ?_
  refine WT.pure rfl (PR.fieldAddr tF_27_0 rfl) ?_
  refine WT.loadC rfl hR.1 (by simp) tA_24 rfl ((hR.st st).at_ (j := 0) (rfl) rfl) ?_
  refine WT.pure rfl (PR.sliceArrTo (hi := s) tE_25 rfl rfl (by omega)) ?_
  have st0 := st
  refine WT.s rfl rfl ?_
  refine Wl.buildSlice (ps := []) (cs := arrU .u8 0 (fun _ => 0) ++ []) st tS_22 tZ_5 rfl rfl rfl ?_
  clear st
  intro b17 w5 st
  refine Wl.nil ⟨rfl, RK.of st0 st ksN, ?_⟩
  clear st0
  have st0 := st
  refine WT.s rfl rfl ?_
  refine Wl.append0 (c := 0) (m := s) (sp := []) (vs := arrU .u8 s b) (i := 0) st tS_22 tZ_5 rfl rfl rfl rfl rfl (Src.ofRdS' (tyS_und tS_22) ((RdA.preU ((hR.st st).row schV_sub_b) (by omega)).sl) (by rw [(arrU_len _), Nat.mul_one]) (arrU_one _)) (by omega) (by omega) ?_
  clear st
  intro b26 c26 sp26 w6 hc26 hs26 st
  replace st : St [] w w6 [(b26, arrU .u8 s b ++ sp26, 5), (b15, arrU .u8 s a ++ sp15, 5)] := st
  refine Wl.nil ⟨rfl, RK.of st0 st ksN, ?_⟩
  clear st0
  refine WT.pure rfl (PR.assL rfl) ?_
  refine WT.nil ?_
  refine tn ?_
  refine Wc.seq ?_
  refine Wc.region rfl ?_
  refine Wl.pure (PR.moveL rfl) ?_
  refine Wl.pure (PR.moveP rfl) ?_
  refine Wl.pure (PR.nil_ rfl) ?_
  refine Wl.pure (PR.fieldAddr tF_27_1 rfl) ?_
  refine Wl.loadC tA_24 rfl ((hR.st st).at_ (j := 1) (rfl) rfl) ?_
  refine Wl.pure (PR.conv (n := ((p : Nat) : Int)) tI_2 rfl (by simp only [fitI]; omega) Tryz.underlying24) ?_
  refine Wl.callXG [] st (c_spec_l03Columns (A := some ⟨b26, 0, none⟩) (n := s) (cp := c26) (c := b) (m := p) ((st.rdA (i := 0) (n := s) rfl (app_all (arrU_len _))).sl) hb (by first | assumption | omega) (by first | assumption | omega)) rfl rfl ?_
  clear st
  intro b33 c33 sp33 w7 hc33 hs33 st
  replace st : St [] w w7 [(b33, arrU .u8 p (srtF p (colsA s b)) ++ sp33, 5), (b26, arrU .u8 s b ++ sp26, 5), (b15, arrU .u8 s a ++ sp15, 5)] := st
  refine Wl.pure (PR.assL rfl) ?_
  refine Wl.nil ?_
  refine tn ?_
  refine Wc.ret ?_
  refine postL.tmp rfl rfl ?_
  rw [show srtF p (colsA s b) = dueF s p a b true from due_T] at st
  replace st : St [] w w7 [(b33, arrU .u8 p (dueF s p a b true) ++ sp33, 5)] := st.pick [0] (by decide) rfl
  exact ⟨b33, c33, sp33, hc33, hs33, rfl, st⟩

set_option maxHeartbeats 400000 in
set_option maxRecDepth 4000 in
theorem c_l07DueF {bk : Nat} {o : Nat} {s : Nat} {p : Nat} {a : Nat → Nat} {b : Nat → Nat} {w : World} (hR : RdA w bk o (schV ((s : Nat) : Int) ((p : Nat) : Int) a b)) (hp8 : 1 ≤ p ∧ p ≤ 8) (ha : ∀ k, a k < 256) (hb : ∀ k, b k < 256) (hs6 : 1 ≤ s ∧ s ≤ 6) :
    CE Tryz.prog 69 [.pointer (some ⟨bk, o, none⟩), .bool false] w (RetXG w [] 5 1 (p) (arrU .u8 p (dueF s p a b false)) (fun b_ c_ => .slice (some ⟨b_, 0, none⟩) (p) (c_)) []) := by
  refine CE.enter 34 [(0, .pointer (some ⟨bk, o, none⟩)), (1, .bool false)] en_69 Tryz.func69 rfl rfl (Nat.le_of_ble_eq_true rfl) rfl ?_
  have st := St.start w
  refine Wc.seq ?_
  refine Wc.region rfl ?_
  refine Wl.pure (PR.assL rfl) ?_
  refine Wl.nil ?_
  refine tn ?_
  refine Wc.seq ?_
  refine Wc.tree1 (w0 := w) (X := []) (Ks := []) (S := fun i => i == 0 || i == 9) (.st 1 0 (.st 2 0 (.st 3 0 (.st 4 0 (.st 5 0 (.st 6 0 (.st 7 3 (.st 8 0 (.st 0 2 (.st 9 2 (.st 10 0 PT.nil))))))))))) hmix (by kernel_rfl) (by kernel_rfl) rfl rfl ?_
  intro w1 hbel
  replace st := st.call hbel
  clear hbel
  refine WT.pure rfl (PR.moveP rfl) ?_
  refine WT.pure rfl (PR.nil_ rfl) ?_
  refine WT.pure rfl (PR.fieldAddr tF_27_2 rfl) ?_
  refine WT.pure rfl (PR.moveP rfl) ?_
  refine WT.pure rfl (PR.nil_ rfl) ?_
  refine WT.pure rfl (PR.fieldAddr tF_27_0 rfl) ?_
  refine WT.loadC rfl hR.1 (by simp) tA_24 rfl ((hR.st st).at_ (j := 0) (rfl) rfl) ?_
  refine WT.pure rfl (PR.sliceArrTo (hi := s) tE_25 rfl rfl (by omega)) ?_
  have st0 := st
  refine WT.s rfl rfl ?_
  refine Wl.buildSlice (ps := []) (cs := arrU .u8 0 (fun _ => 0) ++ []) st tS_22 tZ_5 rfl rfl rfl ?_
  clear st
  intro b6 w2 st
  refine Wl.nil ⟨rfl, RK.of st0 st ksN, ?_⟩
  clear st0
  have st0 := st
  refine WT.s rfl rfl ?_
  refine Wl.append0 (c := 0) (m := s) (sp := []) (vs := arrU .u8 s a) (i := 0) st tS_22 tZ_5 rfl rfl rfl rfl rfl (Src.ofRdS' (tyS_und tS_22) ((RdA.preU ((hR.st st).row schV_sub_a) (by omega)).sl) (by rw [(arrU_len _), Nat.mul_one]) (arrU_one _)) (by omega) (by omega) ?_
  clear st
  intro b15 c15 sp15 w3 hc15 hs15 st
  replace st : St [] w w3 [(b15, arrU .u8 s a ++ sp15, 5)] := st
  refine Wl.nil ⟨rfl, RK.of st0 st ksN, ?_⟩
  clear st0
  refine WT.pure rfl (PR.assL rfl) ?_
  refine WT.nil ?_
  refine tn ?_
  refine Wc.seq ?_
  refine Wc.seq ?_
  refine Wc.region rfl ?_
  refine Wl.pure (PR.moveB rfl) ?_
  refine Wl.nil ?_
  refine tn ?_
  refine Wc.condF rfl ?_
  refine Wc.skip ?_
  refine tn ?_
  refine Wc.seq ?_
  refine Wc.region rfl ?_
  refine Wl.pure (PR.moveL rfl) ?_
  refine Wl.pure (PR.moveP rfl) ?_
  refine Wl.pure (PR.nil_ rfl) ?_
  refine Wl.pure (PR.fieldAddr tF_27_1 rfl) ?_
  refine Wl.loadC tA_24 rfl ((hR.st st).at_ (j := 1) (rfl) rfl) ?_
  refine Wl.pure (PR.conv (n := ((p : Nat) : Int)) tI_2 rfl (by simp only [fitI]; omega) Tryz.underlying24) ?_
  refine Wl.callXG [] st (c_spec_l03Columns (A := some ⟨b15, 0, none⟩) (n := s) (cp := c15) (c := a) (m := p) ((st.rdA (i := 0) (n := s) rfl (app_all (arrU_len _))).sl) ha (by first | assumption | omega) (by first | assumption | omega)) rfl rfl ?_
  clear st
  intro b33 c33 sp33 w4 hc33 hs33 st
  replace st : St [] w w4 [(b33, arrU .u8 p (srtF p (colsA s a)) ++ sp33, 5), (b15, arrU .u8 s a ++ sp15, 5)] := st
  refine Wl.pure (PR.assL rfl) ?_
  refine Wl.nil ?_
  refine tn ?_
  refine Wc.ret ?_
  refine postL.tmp rfl rfl ?_
  rw [show srtF p (colsA s a) = dueF s p a b false from due_F] at st
  replace st : St [] w w4 [(b33, arrU .u8 p (dueF s p a b false) ++ sp33, 5)] := st.pick [0] (by decide) rfl
  exact ⟨b33, c33, sp33, hc33, hs33, rfl, st⟩

set_option maxHeartbeats 400000 in
set_option maxRecDepth 4000 in
theorem c_l07DueQ {bk : Nat} {o : Nat} {s : Nat} {p : Nat} {a : Nat → Nat} {b : Nat → Nat} {q : Bool} {w : World} (hR : RdA w bk o (schV ((s : Nat) : Int) ((p : Nat) : Int) a b)) (hp8 : 1 ≤ p ∧ p ≤ 8) (ha : ∀ k, a k < 256) (hb : ∀ k, b k < 256) (hs6 : 1 ≤ s ∧ s ≤ 6) :
    CE Tryz.prog 69 [.pointer (some ⟨bk, o, none⟩), .bool (q)] w (RetXG w [] 5 1 (p) (arrU .u8 p (dueF s p a b q)) (fun b_ c_ => .slice (some ⟨b_, 0, none⟩) (p) (c_)) []) := by
  cases q
  · exact c_l07DueF hR hp8 ha hb hs6
  · exact c_l07DueT hR hp8 ha hb hs6

set_option maxHeartbeats 400000 in
set_option maxRecDepth 4000 in
theorem c_impl_columnsAt {A : Option Addr} {n : Nat} {cp : Nat} {y : Nat → Int} {c : Nat → Nat → Nat} {k : Nat} {p : Nat} {w : World} (hRL : RdS w A n (layS n y c)) (hg : ∀ i, i < n → -128 ≤ y i ∧ y i ≤ 127) (hc : ∀ i k, c i k < 256) (hn6 : 1 ≤ n ∧ n ≤ 6) (hk : k < 64) (hp8 : 1 ≤ p ∧ p ≤ 8) (hy0 : y 0 = ((p : Nat) : Int)) :
    CE Tryz.prog 61 [.slice (A) (n) (cp), .int .i64 (((k : Nat) : Int))] w (RetXG w [] 5 1 (p) (arrU .u8 p (srtF p (colR (fun r => c r k) 255 n))) (fun b_ c_ => .slice (some ⟨b_, 0, none⟩) (p) (c_)) []) := by
  refine CE.enter 31 [(0, .slice (A) (n) (cp)), (1, .int .i64 (((k : Nat) : Int)))] en_61 Tryz.func61 rfl rfl (Nat.le_of_ble_eq_true rfl) rfl ?_
  have st := St.start w
  refine Wc.seq ?_
  refine Wc.region rfl ?_
  refine Wl.pure (PR.assL rfl) ?_
  refine Wl.nil ?_
  refine tn ?_
  refine Wc.seq ?_
  refine Wc.region rfl ?_
  refine Wl.buildSlice (ps := []) (cs := arrU .u8 0 (fun _ => 0) ++ []) st tS_22 tZ_5 rfl rfl rfl ?_
  clear st
  intro b8 w1 st
  refine Wl.pure (PR.assL rfl) ?_
  refine Wl.nil ?_
  refine tn ?_
  refine Wc.seq ?_
  refine Wc.seq ?_
  refine Wc.region rfl ?_
  refine Wl.pure (PR.moveL rfl) ?_
  refine Wl.pure (PR.lenL tS_32 rfl) ?_
  refine Wl.pure (PR.moveI rfl) ?_
  refine Wl.nil ?_
  refine tn ?_
  refine Wc.block ?_
  refine Wc.loopF (γ := Nat × (Nat → Nat) × Nat × Nat × List Value) (fun g => [(0, .slice (A) (n) (cp)), (1, .int .i64 (((k : Nat) : Int))), (4, .slice (none) (0) (0)), (5, .slice (some ⟨g.2.2.1, 0, none⟩) (g.1) (g.2.2.2.1)), (9, .slice (A) (n) (cp)), (10, .int .i64 (((n : Nat) : Int))), (11, .int .i64 (((g.1 : Nat) : Int)))]) (fun g w_ => St [] w w_ [(g.2.2.1, arrU .u8 g.1 g.2.1 ++ g.2.2.2.2, 5)] ∧ (g.1 ≤ n) ∧ (∀ j, j < g.1 → g.2.1 j = c j k) ∧ (g.1 ≤ g.2.2.2.1) ∧ (g.2.2.2.2.length = (g.2.2.2.1 - g.1) * 1)) (fun g => n - g.1) ?_ ?_
  · exact ⟨(0, (fun _ => 0), b8, 0, []), (.cons rfl (.cons rfl (.cons rfl (.cons rfl (.cons rfl (.cons rfl (.cons rfl (.nil _)))))))), st, (by first | omega | (dsimp only; omega)), (fun j hj => by omega), (Nat.le_refl _), rfl⟩
  clear st
  rintro ⟨i, u, b_o, c_o, sp_o⟩ w2 ⟨st, hi, hu, hc_o, hs_o⟩
  try dsimp only at st hi hu hc_o hs_o ⊢
  refine Wc.seq ?_
  refine Wc.region rfl ?_
  refine Wl.pure (PR.lss (a := ((i : Nat) : Int)) (b := ((n : Nat) : Int)) rfl rfl) ?_
  refine Wl.nil ?_
  refine tn ?_
  refine Wc.seq ?_
  refine Wc.condD (p := ((i : Nat) : Int) < ((n : Nat) : Int)) rfl (fun h3 => ?_) (fun h3 => ?_)
  · refine Wc.skip ?_
    refine tn ?_
    refine Wc.seq ?_
    refine Wc.block ?_
    refine Wc.seq ?_
    refine Wc.region rfl ?_
    obtain ⟨bs4, os5, rfl, hs6⟩ := hRL (by omega)
    have := hg (i) (by omega)
    refine Wl.pure (PR.idxAddrS (i := i) tS_32 rfl rfl (by omega)) ?_
    refine Wl.loadAC (vs := layV (y i) ((c i))) tA_50 rfl layV_len ((hs6.st st).sub (recV_sub (n := n) (i := i) (layS_row _ _) (by omega)) rfl) ?_
    refine Wl.alloc st tZ_50 rfl ?_
    clear st
    intro b7 w7 st
    refine Wl.storeA (i := 0) (cs' := layV (y i) ((c i))) st tA_50 rfl rfl layV_len layV_one rfl (le_of_len layV_len (by omega)) (all_put layV_len) ?_
    clear st
    intro w8 st
    replace st : St [] w w8 [(b7, layV (y i) ((c i)), 50), (b_o, arrU .u8 i u ++ sp_o, 5)] := st
    refine Wl.nil ?_
    refine tn ?_
    refine Wc.region rfl ?_
    refine Wl.pure (PR.moveL rfl) ?_
    refine Wl.pure (PR.moveI rfl) ?_
    refine Wl.pure (PR.fieldAddr tF_50_1 rfl) ?_
    refine Wl.pure (PR.idxAddrA1 (i := k) tE_48 rfl rfl (by omega)) ?_
    refine Wl.load (i := 0) st tA_5 rfl rfl (layV_get_c (by omega)) ?_
    refine Wl.buildSlice (ps := [(0, .int .u8 ((((c i) (k) : Nat) : Int)))]) (cs := [.int .u8 ((((c i) (k) : Nat) : Int))]) st tS_22 tZ_5 rfl rfl rfl ?_
    clear st
    intro b20 w9 st
    refine Wl.append (n := i) (c := c_o) (m := 1) (cs := arrU .u8 i u) (sp := sp_o) (vs := [.int .u8 ((((c i) (k) : Nat) : Int))]) (i := 2) st tS_22 tZ_5 rfl rfl rfl (by rw [(arrU_len _), Nat.mul_one]) hs_o hc_o rfl (Src.ofRdA (tyS_und tS_22) (st.rdA (i := 0) (n := 1) rfl rfl) rfl (by simp [Value.oneCell'])) (by omega) (by omega) ?_
    clear st
    intro b21 c21 sp21 w10 hc21 hs21 st
    rw [arrU_snoc] at st
    replace st : St [] w w10 [(b21, arrU .u8 (i + 1) (upd u i ((c i) (k))) ++ sp21, 5), (b20, [.int .u8 ((((c i) (k) : Nat) : Int))], 5), (b7, layV (y i) ((c i)), 50)] := st
    refine Wl.pure (PR.assL rfl) ?_
    refine Wl.nil ?_
    refine bn ?_
    refine tn ?_
    refine Wc.region rfl ?_
    refine Wl.pure (PR.add (a := ((i : Nat) : Int)) (b := 1) rfl rfl (by simp only [fitI]; omega)) ?_
    refine Wl.pure (PR.moveI rfl) ?_
    refine Wl.nil ?_
    refine tn ?_
    replace st : St [] w w10 [(b21, arrU .u8 (i + 1) (upd u i ((c i) (k))) ++ sp21, 5)] := st.pick [0] (by decide) rfl
    exact ⟨(i + 1, (upd u i ((c i) (k))), b21, c21, sp21), (.cons rfl (.cons rfl (.cons rfl (.cons rfl (.cons rfl (.cons rfl (.cons rfl (.nil _)))))))), ⟨st, (by first | omega | (dsimp only; omega)), (upd_snoc hu rfl), hc21, hs21⟩, (by first | omega | (dsimp only; omega))⟩
  · refine Wc.exit ?_
    refine tx ?_
    refine tx ?_
    refine bh ?_
    refine tn ?_
    refine Wc.seq ?_
    obtain rfl : n = i := by omega
    rw [arrU_congr (d := (fun r => c r k)) (fun j hj => hu j hj)] at st
    refine Wc.region rfl ?_
    refine Wl.pure (PR.moveL rfl) ?_
    refine Wl.pure (PR.moveL rfl) ?_
    obtain ⟨bs11, os12, rfl, hs13⟩ := hRL (by omega)
    have := hg (0) (by omega)
    refine Wl.pure (PR.idxAddrS (i := 0) tS_32 rfl rfl (by omega)) ?_
    refine Wl.pure (PR.fieldAddr tF_50_0 rfl) ?_
    refine Wl.loadC tA_24 rfl ((hs13.st st).at_ (recV_get (n := n) (i := 0) (layS_row _ _) (by omega) (rfl)) (Nat.add_assoc _ _ _).symm) ?_
    rw [hy0]
    refine Wl.callS st (c_impl_columnsOf (A := some ⟨b_o, 0, none⟩) (r := n) (cp := c_o) (t := (fun r => c r k)) (m := p) (x := 255) ((st.rdA (i := 0) (n := n) rfl (app_all (arrU_len _))).sl) (fun r => hc r k) (by first | assumption | omega) (by decide) (by first | assumption | omega)) rfl ?_
    clear st
    intro b28 w14 st
    refine Wl.callXG [] st (c_slices_Values_uint8_uint8 (A := some ⟨b28, 0, none⟩) (n := p) (cp := p)) rfl rfl ?_
    clear st
    intro b29 c29 sp29 w15 hc29 hs29 st
    replace st : St [] w w15 [(b29, [.slice (some ⟨b28, 0, none⟩) (p) (p)] ++ sp29, 22), (b28, arrU .u8 p (colR (fun r => c r k) 255 n), 5), (b_o, arrU .u8 n (fun r => c r k) ++ sp_o, 5)] := st
    refine Wl.callXG [] st (c_slices_Sorted_uint8 (b1 := b29) (o1 := 0) (A := some ⟨b28, 0, none⟩) (n := p) (cp := p) (c := (colR (fun r => c r k) 255 n)) (st.rdA (i := 0) (n := 1) rfl (app_all rfl)) ((st.rdA (i := 1) (n := p) rfl (all_sub (arrU_len _))).sl) (by first | assumption | omega) (colR_lt (fun r => c r k) 255 n)) rfl rfl ?_
    clear st
    intro b30 c30 sp30 w16 hc30 hs30 st
    replace st : St [] w w16 [(b30, arrU .u8 p (srtF p (colR (fun r => c r k) 255 n)) ++ sp30, 5), (b29, [.slice (some ⟨b28, 0, none⟩) (p) (p)] ++ sp29, 22), (b28, arrU .u8 p (colR (fun r => c r k) 255 n), 5), (b_o, arrU .u8 n (fun r => c r k) ++ sp_o, 5)] := st
    refine Wl.pure (PR.assL rfl) ?_
    refine Wl.nil ?_
    refine tn ?_
    refine Wc.ret ?_
    refine postL.tmp rfl rfl ?_
    replace st : St [] w w16 [(b30, arrU .u8 p (srtF p (colR (fun r => c r k) 255 n)) ++ sp30, 5)] := st.pick [0] (by decide) rfl
    exact ⟨b30, c30, sp30, hc30, hs30, rfl, st⟩

set_option maxHeartbeats 400000 in
set_option maxRecDepth 4000 in
theorem c_bit_impl {x : Nat} {k : Nat} {w : World} (hx : x < 18446744073709551616) (hk : k < 64) :
    CE Tryz.prog 39 [.int .u64 (((x : Nat) : Int)), .int .i64 (((k : Nat) : Int))] w (RetV w (.bool (bitB x k))) := by
  refine CE.enter 10 [(0, .int .u64 (((x : Nat) : Int))), (1, .int .i64 (((k : Nat) : Int)))] en_39 Tryz.func39 rfl rfl (Nat.le_of_ble_eq_true rfl) rfl ?_
  have st := St.start w
  refine Wc.seq ?_
  refine Wc.region rfl ?_
  refine Wl.pure (PR.assB rfl) ?_
  refine Wl.nil ?_
  refine tn ?_
  refine Wc.seq ?_
  refine Wc.region rfl ?_
  refine Wl.pure (PR.moveI rfl) ?_
  refine Wl.pure (PR.moveI rfl) ?_
  refine Wl.pure (PR.shr (a := x) (n := k) rfl rfl (by decide) hx) ?_
  refine Wl.pure (PR.and (a := (x >>> k)) (b := 1) rfl rfl (by decide) (shr_lt hx) (by decide)) ?_
  refine Wl.pure (PR.eql (a := ((((x >>> k) &&& 1) : Nat) : Int)) (b := 1) rfl rfl) ?_
  refine Wl.pure (PR.assB rfl) ?_
  refine Wl.nil ?_
  refine tn ?_
  refine Wc.ret ?_
  refine postL.tmp rfl rfl ?_
  refine RetV.of ?_ st.below
  refine congrArg Value.bool ?_
  unfold bitB; exact decide_eq_decide.2 (by omega)

set_option maxHeartbeats 400000 in
set_option maxRecDepth 4000 in
theorem c_bit_pec {x : Nat} {k : Nat} {w : World} (hx : x < 18446744073709551616) (hk : k < 64) :
    CE Tryz.prog 42 [.int .u64 (((x : Nat) : Int)), .int .i64 (((k : Nat) : Int))] w (RetV w (.bool (bitB x k))) := by
  refine CE.enter 11 [(0, .int .u64 (((x : Nat) : Int))), (1, .int .i64 (((k : Nat) : Int)))] en_42 Tryz.func42 rfl rfl (Nat.le_of_ble_eq_true rfl) rfl ?_
  have st := St.start w
  refine Wc.seq ?_
  refine Wc.region rfl ?_
  refine Wl.pure (PR.assB rfl) ?_
  refine Wl.nil ?_
  refine tn ?_
  refine Wc.seq ?_
  refine Wc.region rfl ?_
  refine Wl.pure (PR.moveI rfl) ?_
  refine Wl.pure (PR.moveI rfl) ?_
  refine Wl.pure (PR.conv (n := ((k : Nat) : Int)) tI_51 rfl (by simp only [fitI]; omega) Tryz.underlying3) ?_
  refine Wl.pure (PR.shr (a := x) (n := k) rfl rfl (by decide) hx) ?_
  refine Wl.pure (PR.and (a := (x >>> k)) (b := 1) rfl rfl (by decide) (shr_lt hx) (by decide)) ?_
  refine Wl.pure (PR.eql (a := ((((x >>> k) &&& 1) : Nat) : Int)) (b := 1) rfl rfl) ?_
  refine Wl.pure (PR.assB rfl) ?_
  refine Wl.nil ?_
  refine tn ?_
  refine Wc.ret ?_
  refine postL.tmp rfl rfl ?_
  refine RetV.of ?_ st.below
  refine congrArg Value.bool ?_
  unfold bitB; exact decide_eq_decide.2 (by omega)

end Go.Proofs.YtabekcodjcbolaaGreat
