/-
  Contracts of functions, printed by a program of ours.
-/
import Derived.Test.YtabekcodjcbolaaGreatSeqT
import Derived.Test.YtabekcodjcbolaaGreatSort
import Derived.Test.YtabekcodjcbolaaGreatDefs
import Derived.Test.YtabekcodjcbolaaGreatMix
namespace Go.Proofs.YtabekcodjcbolaaGreat
open Go.RowKit
set_option linter.unusedVariables false
set_option linter.unusedSimpArgs false

set_option maxHeartbeats 400000 in
set_option maxRecDepth 4000 in
theorem c_slices_Values_uint8_uint8 {A : Option Addr} {n : Nat} {cp : Nat} {w : World} :
    CE Tryz.prog 67 [.slice (A) (n) (cp)] w (RetXG w [] 22 1 (1) ([.slice (A) (n) (cp)]) (fun b_ c_ => .func (.func 83) #[] #[.pointer (some ⟨b_, 0, none⟩)]) []) := by
  refine CE.enter 4 [(0, .slice (A) (n) (cp))] en_67 Tryz.func67 rfl rfl (Nat.le_of_ble_eq_true rfl) rfl ?_
  have st := St.start w
  refine Wc.seq ?_
  refine Wc.region rfl ?_
  refine Wl.boxL st rfl ?_
  clear st
  intro b1 w1 st
  refine Wl.pure (PR.assV (.nilFunc) rfl) ?_
  refine Wl.nil ?_
  refine tn ?_
  refine Wc.seq ?_
  refine Wc.region rfl ?_
  refine Wl.pure (PR.mkFunc (vs := [.pointer (some ⟨b1, 0, none⟩)]) rfl) ?_
  refine Wl.pure (PR.assF rfl) ?_
  refine Wl.nil ?_
  refine tn ?_
  refine Wc.ret ?_
  refine postL.tmp rfl rfl ?_
  replace st := st.nilapp
  exact ⟨b1, 1, ([]), (Nat.le_refl _), (by simp), rfl, st⟩

set_option maxHeartbeats 400000 in
set_option maxRecDepth 4000 in
theorem c_slices_Collect_uint8 {b1 : Nat} {o1 : Nat} {A : Option Addr} {n : Nat} {cp : Nat} {c : Nat → Nat} {w : World} (h1 : RdA w b1 o1 [.slice A n cp]) (hR : RdS w A n (arrU .u8 n c)) (hn : 0 < n ∧ n ≤ 12) :
    CE Tryz.prog 81 [.func (.func 83) #[] #[.pointer (some ⟨b1, o1, none⟩)]] w (RetXG w [] 5 1 (n) (arrU .u8 n c) (fun b_ c_ => .slice (some ⟨b_, 0, none⟩) (n) (c_)) []) := by
  refine CE.enter 5 [(0, .func (.func 83) #[] #[.pointer (some ⟨b1, o1, none⟩)])] en_81 Tryz.func81 rfl rfl (Nat.le_of_ble_eq_true rfl) rfl ?_
  have st := St.start w
  refine Wc.seq ?_
  refine Wc.region rfl ?_
  refine Wl.pure (PR.assL rfl) ?_
  refine Wl.nil ?_
  refine tn ?_
  refine Wc.seq ?_
  refine Wc.region rfl ?_
  refine Wl.pure (PR.moveF rfl) ?_
  refine Wl.callXG [] st (c_AppendSeq (b1 := b1) (o1 := o1) (A := A) (n := n) (cp := cp) (c := c) (h1.st st) (hR.st st) ⟨hn.1, by omega⟩) rfl rfl ?_
  clear st
  intro b4 c4 sp4 w1 hc4 hs4 st
  replace st : St [] w w1 [(b4, arrU .u8 n c ++ sp4, 5)] := st
  refine Wl.pure (PR.assL rfl) ?_
  refine Wl.nil ?_
  refine tn ?_
  refine Wc.ret ?_
  refine postL.tmp rfl rfl ?_
  exact ⟨b4, c4, sp4, hc4, hs4, rfl, st⟩

set_option maxHeartbeats 400000 in
set_option maxRecDepth 4000 in
theorem c_cmp_isNaN_uint8 {x : Nat} {w : World} (hx : x < 256) :
    CE Tryz.prog 106 [.int .u8 (((x : Nat) : Int))] w (RetV w (.bool false)) := by
  refine CE.enter 6 [(0, .int .u8 (((x : Nat) : Int)))] en_106 Tryz.func106 rfl rfl (Nat.le_of_ble_eq_true rfl) rfl ?_
  have st := St.start w
  refine Wc.seq ?_
  refine Wc.region rfl ?_
  refine Wl.pure (PR.assB rfl) ?_
  refine Wl.nil ?_
  refine tn ?_
  refine Wc.seq ?_
  refine Wc.region rfl ?_
  refine Wl.pure (PR.moveI rfl) ?_
  refine Wl.pure (PR.moveI rfl) ?_
  refine Wl.pure (PR.neqS (a := ((x : Nat) : Int)) rfl rfl) ?_
  refine Wl.pure (PR.assB rfl) ?_
  refine Wl.nil ?_
  refine tn ?_
  refine Wc.ret ?_
  refine postL.tmp rfl rfl ?_
  exact RetV.of rfl st.below

set_option maxHeartbeats 400000 in
set_option maxRecDepth 4000 in
theorem c_cmp_Less_uint8 {x : Nat} {y : Nat} {w : World} (hx : x < 256) (hy : y < 256) :
    CE Tryz.prog 96 [.int .u8 (((x : Nat) : Int)), .int .u8 (((y : Nat) : Int))] w (RetV w (.bool (decide (((x : Nat) : Int) < ((y : Nat) : Int))))) := by
  refine CE.enter 17 [(0, .int .u8 (((x : Nat) : Int))), (1, .int .u8 (((y : Nat) : Int)))] en_96 Tryz.func96 rfl rfl (Nat.le_of_ble_eq_true rfl) rfl ?_
  have st := St.start w
  refine Wc.seq ?_
  refine Wc.region rfl ?_
  refine Wl.pure (PR.assB rfl) ?_
  refine Wl.nil ?_
  refine tn ?_
  refine Wc.seq ?_
  refine Wc.region rfl ?_
  refine Wl.pure (PR.moveI rfl) ?_
  refine Wl.callV (c_cmp_isNaN_uint8 (x := x) hx) rfl ?_
  intro w1 hbel
  replace st := st.call hbel
  clear hbel
  refine Wl.pure (PR.moveB rfl) ?_
  refine Wl.off rfl rfl rfl ?_
  refine Wl.off rfl rfl rfl ?_
  refine Wl.off rfl rfl rfl ?_
  refine Wl.pure (PR.pickFB rfl rfl) ?_
  refine Wl.pure (PR.moveB rfl) ?_
  refine Wl.on rfl rfl ?_
  refine Wl.pure (PR.moveI rfl) ?_
  refine Wl.on rfl rfl ?_
  refine Wl.pure (PR.moveI rfl) ?_
  refine Wl.on rfl rfl ?_
  refine Wl.pure (PR.lss (a := ((x : Nat) : Int)) (b := ((y : Nat) : Int)) rfl rfl) ?_
  refine Wl.pure (PR.pickFB rfl rfl) ?_
  refine Wl.pure (PR.assB rfl) ?_
  refine Wl.nil ?_
  refine tn ?_
  refine Wc.ret ?_
  refine postL.tmp rfl rfl ?_
  exact RetV.of rfl st.below

set_option maxHeartbeats 400000 in
set_option maxRecDepth 4000 in
theorem c_slices_insertionSortOrdered_uint8 {ba : Nat} {n : Nat} {cp : Nat} {c : Nat → Nat} {sp : List Value} {w : World} (hc : ∀ k, c k < 256) (hn : n ≤ 12) (hst : St [ba] w w [(ba, arrU .u8 n c ++ sp, 5)]) :
    CE Tryz.prog 90 [.slice (some ⟨ba, 0, none⟩) (n) (cp), .int .i64 (0), .int .i64 (((n : Nat) : Int))] w (RetX w [ba] (.tuple #[]) [(ba, arrU .u8 n (srtF n c) ++ sp, 5)]) := by
  refine CE.enter 49 [(0, .slice (some ⟨ba, 0, none⟩) (n) (cp)), (1, .int .i64 (0)), (2, .int .i64 (((n : Nat) : Int)))] en_90 Tryz.func90 rfl rfl (Nat.le_of_ble_eq_true rfl) rfl ?_
  have st := hst
  refine Wc.seq ?_
  refine Wc.region rfl ?_
  refine Wl.pure (PR.moveI rfl) ?_
  refine Wl.pure (PR.add (a := 0) (b := 1) rfl rfl (by simp only [fitI]; omega)) ?_
  refine Wl.pure (PR.assI rfl) ?_
  refine Wl.nil ?_
  refine tn ?_
  refine Wc.block ?_
  refine Wc.loopF (γ := Nat × (Nat → Nat)) (fun g => [(0, .slice (some ⟨ba, 0, none⟩) (n) (cp)), (1, .int .i64 (0)), (2, .int .i64 (((n : Nat) : Int))), (6, .int .i64 (((g.1 : Nat) : Int)))]) (fun g w_ => St [ba] w w_ [(ba, arrU .u8 n g.2 ++ sp, 5)] ∧ (1 ≤ g.1 ∧ g.1 ≤ n + 1) ∧ (∀ k, k + 1 < g.1 → g.2 k ≤ g.2 (k + 1)) ∧ (∀ v, cnt g.2 v n = cnt c v n) ∧ (∀ k, g.2 k < 256)) (fun g => n + 1 - g.1) ?_ ?_
  · exact ⟨(1, c), (.cons rfl (.cons rfl (.cons rfl (.cons rfl (.nil _))))), st, (by first | omega | (dsimp only; omega)), (fun k hk => by omega), (fun _ => rfl), hc⟩
  clear st
  rintro ⟨i, u⟩ w1 ⟨st, hi, hs, hcn, hub⟩
  try dsimp only at st hi hs hcn hub ⊢
  refine Wc.seq ?_
  refine Wc.seq ?_
  refine Wc.region rfl ?_
  refine Wl.pure (PR.moveI rfl) ?_
  refine Wl.pure (PR.moveI rfl) ?_
  refine Wl.pure (PR.lss (a := ((i : Nat) : Int)) (b := ((n : Nat) : Int)) rfl rfl) ?_
  refine Wl.nil ?_
  refine tn ?_
  refine Wc.condD (p := ((i : Nat) : Int) < ((n : Nat) : Int)) rfl (fun h2 => ?_) (fun h2 => ?_)
  · refine Wc.skip ?_
    refine tn ?_
    refine Wc.seq ?_
    refine Wc.block ?_
    refine Wc.seq ?_
    refine Wc.region rfl ?_
    refine Wl.pure (PR.moveI rfl) ?_
    refine Wl.pure (PR.assI rfl) ?_
    refine Wl.nil ?_
    refine tn ?_
    refine Wc.block ?_
    refine Wc.loopF (γ := Nat × (Nat → Nat)) (fun g => [(0, .slice (some ⟨ba, 0, none⟩) (n) (cp)), (1, .int .i64 (0)), (2, .int .i64 (((n : Nat) : Int))), (6, .int .i64 (((i : Nat) : Int))), (7, .int .i64 (((g.1 : Nat) : Int))), (10, .int .i64 (((i : Nat) : Int))), (11, .int .i64 (((n : Nat) : Int))), (12, .bool (decide (((i : Nat) : Int) < ((n : Nat) : Int)))), (15, .int .i64 (((i : Nat) : Int)))]) (fun g w_ => St [ba] w w_ [(ba, arrU .u8 n g.2 ++ sp, 5)] ∧ (g.1 ≤ i) ∧ (∀ k, k + 1 ≤ i → k + 1 ≠ g.1 → g.2 k ≤ g.2 (k + 1)) ∧ (∀ k, k + 1 = g.1 → g.1 + 1 ≤ i → g.2 k ≤ g.2 (g.1 + 1)) ∧ (∀ v, cnt g.2 v n = cnt c v n) ∧ (∀ k, g.2 k < 256)) (fun g => g.1) ?_ ?_
    · exact ⟨(i, u), (.cons rfl (.cons rfl (.cons rfl (.cons rfl (.cons rfl (.cons rfl (.cons rfl (.cons rfl (.cons rfl (.nil _)))))))))), st, (by first | omega | (dsimp only; omega)), (fun k hk hne => hs k (by omega)), (fun k hk h => by omega), hcn, hub⟩
    clear st
    rintro ⟨j, u⟩ w3 ⟨st, hj, hs2, hx, hcn, hub⟩
    try dsimp only at st hj hs2 hx hcn hub ⊢
    refine Wc.seq ?_
    refine Wc.seq ?_
    refine Wc.quiet hmix (by kernel_rfl) rfl ?_
    refine Wq.pure (PR.moveI rfl) ?_
    refine Wq.pure (PR.moveI rfl) ?_
    refine Wq.pure (PR.gtr (a := ((j : Nat) : Int)) (b := 0) rfl rfl) ?_
    refine Wq.pure (PR.moveB rfl) ?_
    refine Wq.splitT (q := 0 < ((j : Nat) : Int)) rfl rfl (fun h4 => ?_) (fun h4 => ?_)
    · refine Wq.pure (PR.moveL rfl) ?_
      refine Wq.on rfl rfl ?_
      refine Wq.pure (PR.moveI rfl) ?_
      refine Wq.on rfl rfl ?_
      refine Wq.pure (PR.idxAddrS1 (i := j) tS_22 rfl rfl (by omega)) ?_
      refine Wq.on rfl rfl ?_
      refine Wq.load (i := 0) st tA_5 rfl rfl (app_get (arrU_get0 (by omega))) ?_
      refine Wq.on rfl rfl ?_
      refine Wq.pure (PR.moveL rfl) ?_
      refine Wq.on rfl rfl ?_
      refine Wq.pure (PR.moveI rfl) ?_
      refine Wq.on rfl rfl ?_
      refine Wq.pure (PR.subN (a := j) (b := 1) rfl rfl (by omega) (by simp only [fitI]; omega)) ?_
      refine Wq.on rfl rfl ?_
      refine Wq.pure (PR.idxAddrS1 (i := (j - 1)) tS_22 rfl rfl (by omega)) ?_
      refine Wq.on rfl rfl ?_
      refine Wq.load (i := 0) st tA_5 rfl rfl (app_get (arrU_get0 (by omega))) ?_
      refine Wq.on rfl rfl ?_
      refine Wq.callV (fun _ hbel => c_cmp_Less_uint8 (x := u (j)) (y := u ((j - 1))) (hub (j)) (hub ((j - 1)))) rfl ?_
      refine Wq.pure (PR.pickTB rfl rfl) ?_
      refine Wq.nil (fun w5 hbel => ?_)
      replace st := st.call hbel
      clear hbel
      refine tn ?_
      refine Wc.condD (p := ((u (j) : Nat) : Int) < ((u ((j - 1)) : Nat) : Int)) rfl (fun h6 => ?_) (fun h6 => ?_)
      · refine Wc.skip ?_
        refine tn ?_
        refine Wc.seq ?_
        refine Wc.block ?_
        refine Wc.mixed (S := fun i => i == 15 || i == 17) (R := fun _ _ => True) [(0, 0), (1, 0), (2, 0), (3, 0), (4, 0), (5, 0), (6, 0), (7, 0), (8, 0), (10, 0), (11, 0), (12, 0), (9, 1), (13, 1), (14, 0), (15, 2), (16, 0), (17, 2)] (fun _ => trivial) (fun _ _ _ _ _ => trivial) hmix (by kernel_rfl) (by kernel_rfl) rfl rfl ?_
        intro w7 hbel
        replace st := st.call hbel
        clear hbel
        refine Wm.pure (by decide) rfl (PR.moveL rfl) ?_
        refine Wm.pure (by decide) rfl (PR.moveI rfl) ?_
        refine Wm.pure (by decide) rfl (PR.moveL rfl) ?_
        refine Wm.pure (by decide) rfl (PR.moveI rfl) ?_
        refine Wm.pure (by decide) rfl (PR.subN (a := j) (b := 1) rfl rfl (by omega) (by simp only [fitI]; omega)) ?_
        refine Wm.pure (by decide) rfl (PR.moveL rfl) ?_
        refine Wm.pure (by decide) rfl (PR.moveI rfl) ?_
        refine Wm.pure (by decide) rfl (PR.subN (a := j) (b := 1) rfl rfl (by omega) (by simp only [fitI]; omega)) ?_
        refine Wm.pure (by decide) rfl (PR.idxAddrS1 (i := (j - 1)) tS_22 rfl rfl (by omega)) ?_
        refine Wm.pure (by decide) rfl (PR.moveL rfl) ?_
        refine Wm.pure (by decide) rfl (PR.moveI rfl) ?_
        refine Wm.pure (by decide) rfl (PR.idxAddrS1 (i := j) tS_22 rfl rfl (by omega)) ?_
        refine Wm.load (j := 0) rfl st tA_5 rfl rfl (app_get (arrU_get0 (by omega))) ?_
        refine Wm.load (j := 0) rfl st tA_5 rfl rfl (app_get (arrU_get0 (by omega))) ?_
        refine Wm.pure (by decide) rfl (PR.idxAddrS1 (i := j) tS_22 rfl rfl (by omega)) ?_
        refine Wm.store (j := 0) (cs' := arrU .u8 n (upd u (j) (u ((j - 1)))) ++ sp) rfl st (fun _ _ => trivial) tA_5 rfl rfl rfl rfl (app_in (lt_of_len (arrU_len _) (by omega))) (app_set (lt_of_len (arrU_len _) (by omega)) (arrU_set0)) rfl ?_
        clear st
        intro w8 st
        replace st : St [ba] w w8 [(ba, arrU .u8 n (upd u (j) (u ((j - 1)))) ++ sp, 5)] := st
        refine Wm.pure (by decide) rfl (PR.idxAddrS1 (i := (j - 1)) tS_22 rfl rfl (by omega)) ?_
        refine Wm.store (j := 0) (cs' := arrU .u8 n (upd (upd u (j) (u ((j - 1)))) ((j - 1)) (u (j))) ++ sp) rfl st (fun _ _ => trivial) tA_5 rfl rfl rfl rfl (app_in (lt_of_len (arrU_len _) (by omega))) (app_set (lt_of_len (arrU_len _) (by omega)) (arrU_set0)) rfl ?_
        clear st
        intro w9 st
        replace st : St [ba] w w9 [(ba, arrU .u8 n (upd (upd u (j) (u ((j - 1)))) ((j - 1)) (u (j))) ++ sp, 5)] := st
        refine Wm.nil ?_
        refine bn ?_
        refine tn ?_
        refine Wc.region rfl ?_
        refine Wl.pure (PR.moveI rfl) ?_
        refine Wl.pure (PR.subN (a := j) (b := 1) rfl rfl (by omega) (by simp only [fitI]; omega)) ?_
        refine Wl.pure (PR.assI rfl) ?_
        refine Wl.nil ?_
        refine tn ?_
        exact ⟨(j - 1, upd (upd u (j) (u ((j - 1)))) ((j - 1)) (u (j))), (.cons rfl (.cons rfl (.cons rfl (.cons rfl (.cons rfl (.cons rfl (.cons rfl (.cons rfl (.cons rfl (.nil _)))))))))), ⟨st, (by first | omega | (dsimp only; omega)), (ins_step1 hs2 hx (by omega) hj (by omega)), (ins_step2 hs2 (by omega) hj), (fun v => (cnt_swp v (by omega) n (by omega)).trans (hcn v)), (upd_lt (upd_lt hub (hub _)) (hub _))⟩, (by first | omega | (dsimp only; omega))⟩
      · refine Wc.exit ?_
        refine tx ?_
        refine tx ?_
        refine bh ?_
        refine bn ?_
        refine tn ?_
        refine Wc.region rfl ?_
        refine Wl.pure (PR.moveI rfl) ?_
        refine Wl.pure (PR.add (a := ((i : Nat) : Int)) (b := 1) rfl rfl (by simp only [fitI]; omega)) ?_
        refine Wl.pure (PR.assI rfl) ?_
        refine Wl.nil ?_
        refine tn ?_
        exact ⟨(i + 1, u), (.cons rfl (.cons rfl (.cons rfl (.cons rfl (.nil _))))), ⟨st, (by first | omega | (dsimp only; omega)), (ins_exit (u := u) hs2 (fun _ => by omega)), hcn, hub⟩, (by first | omega | (dsimp only; omega))⟩
    · refine Wq.off rfl rfl rfl ?_
      refine Wq.off rfl rfl rfl ?_
      refine Wq.off rfl rfl rfl ?_
      refine Wq.off rfl rfl rfl ?_
      refine Wq.off rfl rfl rfl ?_
      refine Wq.off rfl rfl rfl ?_
      refine Wq.off rfl rfl rfl ?_
      refine Wq.off rfl rfl rfl ?_
      refine Wq.off rfl rfl rfl ?_
      refine Wq.pure (PR.pickFB rfl rfl) ?_
      refine Wq.nil (fun w10 hbel => ?_)
      replace st := st.call hbel
      clear hbel
      refine tn ?_
      refine Wc.condF rfl ?_
      refine Wc.exit ?_
      refine tx ?_
      refine tx ?_
      refine bh ?_
      refine bn ?_
      refine tn ?_
      refine Wc.region rfl ?_
      refine Wl.pure (PR.moveI rfl) ?_
      refine Wl.pure (PR.add (a := ((i : Nat) : Int)) (b := 1) rfl rfl (by simp only [fitI]; omega)) ?_
      refine Wl.pure (PR.assI rfl) ?_
      refine Wl.nil ?_
      refine tn ?_
      exact ⟨(i + 1, u), (.cons rfl (.cons rfl (.cons rfl (.cons rfl (.nil _))))), ⟨st, (by first | omega | (dsimp only; omega)), (ins_exit (u := u) hs2 (fun _ => by omega)), hcn, hub⟩, (by first | omega | (dsimp only; omega))⟩
  · refine Wc.exit ?_
    refine tx ?_
    refine tx ?_
    refine bh ?_
    refine postL.nores' rfl ?_
    rw [arrU_congr (srt_of (u := u) (c := c) (n := n) (fun k hk => hs k (by omega)) hcn)] at st
    exact st.retX rfl rfl

set_option maxHeartbeats 400000 in
set_option maxRecDepth 4000 in
theorem c_slices_pdqsortOrdered_uint8 {ba : Nat} {n : Nat} {cp : Nat} {c : Nat → Nat} {sp : List Value} {z : Int} {w : World} (hc : ∀ k, c k < 256) (hn : n ≤ 12) (hst : St [ba] w w [(ba, arrU .u8 n c ++ sp, 5)]) :
    CE Tryz.prog 88 [.slice (some ⟨ba, 0, none⟩) (n) (cp), .int .i64 (0), .int .i64 (((n : Nat) : Int)), .int .i64 (z)] w (RetX w [ba] (.tuple #[]) [(ba, arrU .u8 n (srtF n c) ++ sp, 5)]) := by
  refine CE.enter 134 [(0, .slice (some ⟨ba, 0, none⟩) (n) (cp)), (1, .int .i64 (0)), (2, .int .i64 (((n : Nat) : Int))), (3, .int .i64 (z))] en_88 Tryz.func88 rfl rfl (Nat.le_of_ble_eq_true rfl) rfl ?_
  have st := hst
  refine Wc.seq ?_
  refine Wc.region rfl ?_
  refine Wl.pure (PR.assB rfl) ?_
  refine Wl.nil ?_
  refine tn ?_
  refine Wc.seq ?_
  refine Wc.region rfl ?_
  refine Wl.pure (PR.assB rfl) ?_
  refine Wl.nil ?_
  refine tn ?_
  refine Wc.block ?_
  refine Wc.loopF (γ := Unit) (fun g => [(0, .slice (some ⟨ba, 0, none⟩) (n) (cp)), (1, .int .i64 (0)), (2, .int .i64 (((n : Nat) : Int))), (3, .int .i64 (z)), (8, .bool true), (9, .bool true)]) (fun g w_ => St [ba] w w_ [(ba, arrU .u8 n c ++ sp, 5)]) (fun g => 0) ?_ ?_
  · exact ⟨(), (.cons rfl (.cons rfl (.cons rfl (.cons rfl (.cons rfl (.cons rfl (.nil _))))))), st⟩
  clear st
  rintro u_ w1 st
  try dsimp only at st ⊢
  refine Wc.block ?_
  refine Wc.seq ?_
  refine Wc.region rfl ?_
  refine Wl.pure (PR.moveI rfl) ?_
  refine Wl.pure (PR.moveI rfl) ?_
  refine Wl.pure (PR.sub (a := ((n : Nat) : Int)) (b := 0) rfl rfl (by simp only [fitI]; omega)) ?_
  refine Wl.pure (PR.assI rfl) ?_
  refine Wl.nil ?_
  refine tn ?_
  refine Wc.seq ?_
  refine Wc.seq ?_
  refine Wc.region rfl ?_
  refine Wl.pure (PR.moveI rfl) ?_
  refine Wl.pure (PR.leq (a := (((n : Nat) : Int) - 0)) (b := 12) rfl rfl) ?_
  refine Wl.nil ?_
  refine tn ?_
  refine Wc.condD (p := (((n : Nat) : Int) - 0) ≤ 12) rfl (fun h2 => ?_) (fun h2 => ?_)
  · refine Wc.seq ?_
    refine Wc.region rfl ?_
    refine Wl.pure (PR.moveL rfl) ?_
    refine Wl.pure (PR.moveI rfl) ?_
    refine Wl.pure (PR.moveI rfl) ?_
    refine Wl.callX [0] st (c_slices_insertionSortOrdered_uint8 (ba := ba) (n := n) (cp := cp) (c := c) (sp := sp) hc (by first | assumption | omega) (st.lend (L' := [(ba, arrU .u8 n c ++ sp, 5)]) [0] (by decide) rfl)) rfl rfl ?_
    clear st
    intro w3 st
    replace st : St [ba] w w3 [(ba, arrU .u8 n (srtF n c) ++ sp, 5)] := st
    refine Wl.nil ?_
    refine tn ?_
    refine Wc.ret ?_
    refine tr ?_
    refine br ?_
    refine tr ?_
    refine br ?_
    refine postL.nores rfl ?_
    exact st.retX rfl rfl
  · refine Wc.skip ?_
    refine tn ?_
    refine Wc.seq ?_
    refine Wc.seq ?_
    exfalso
    omega

set_option maxHeartbeats 400000 in
set_option maxRecDepth 4000 in
theorem c_math_bits_Len64 {x : Nat} {w : World} (hx : x < 256) :
    CE Tryz.prog 100 [.int .u64 (((x : Nat) : Int))] w (RetV w (.int .i64 ((((0 + (UInt8.ofNat (blen x)).toNat) : Nat) : Int)))) := by
  refine CE.enter 25 [(0, .int .u64 (((x : Nat) : Int)))] en_100 Tryz.func100 rfl rfl (Nat.le_of_ble_eq_true rfl) rfl ?_
  have st := St.start w
  refine Wc.seq ?_
  refine Wc.region rfl ?_
  refine Wl.pure (PR.assI rfl) ?_
  refine Wl.nil ?_
  refine tn ?_
  refine Wc.seq ?_
  refine Wc.seq ?_
  refine Wc.region rfl ?_
  refine Wl.pure (PR.moveI rfl) ?_
  refine Wl.pure (PR.geq (a := ((x : Nat) : Int)) (b := 4294967296) rfl rfl) ?_
  refine Wl.nil ?_
  refine tn ?_
  refine Wc.condD (p := 4294967296 ≤ ((x : Nat) : Int)) rfl (fun h1 => ?_) (fun h1 => ?_)
  · refine Wc.seq ?_
    exfalso
    omega
  · refine Wc.skip ?_
    refine tn ?_
    refine Wc.seq ?_
    refine Wc.seq ?_
    refine Wc.region rfl ?_
    refine Wl.pure (PR.moveI rfl) ?_
    refine Wl.pure (PR.geq (a := ((x : Nat) : Int)) (b := 65536) rfl rfl) ?_
    refine Wl.nil ?_
    refine tn ?_
    refine Wc.condD (p := 65536 ≤ ((x : Nat) : Int)) rfl (fun h2 => ?_) (fun h2 => ?_)
    · refine Wc.seq ?_
      exfalso
      omega
    · refine Wc.skip ?_
      refine tn ?_
      refine Wc.seq ?_
      refine Wc.seq ?_
      refine Wc.region rfl ?_
      refine Wl.pure (PR.moveI rfl) ?_
      refine Wl.pure (PR.geq (a := ((x : Nat) : Int)) (b := 256) rfl rfl) ?_
      refine Wl.nil ?_
      refine tn ?_
      refine Wc.condD (p := 256 ≤ ((x : Nat) : Int)) rfl (fun h3 => ?_) (fun h3 => ?_)
      · refine Wc.seq ?_
        exfalso
        omega
      · refine Wc.skip ?_
        refine tn ?_
        refine Wc.seq ?_
        refine Wc.region rfl ?_
        refine Wl.pure (PR.moveI rfl) ?_
        refine Wl.pure (PR.moveI rfl) ?_
        refine Wl.pure (PR.conv (n := ((x : Nat) : Int)) tI_5 rfl (by simp only [fitI]; omega) Tryz.underlying29) ?_
        refine Wl.pure (PR.idxStr (i := x) (c := UInt8.ofNat (blen x)) Tryz.underlying9 rfl rfl (tab_gen blen _ (by kernel_rfl) hx)) ?_
        refine Wl.pure (PR.conv (n := (((UInt8.ofNat (blen x)).toNat : Nat) : Int)) tI_3 rfl (fitN (UInt8.ofNat (blen x)).toNat_lt rfl) Tryz.underlying5) ?_
        refine Wl.pure (PR.add (a := 0) (b := (((UInt8.ofNat (blen x)).toNat : Nat) : Int)) rfl rfl (by have := (UInt8.ofNat (blen x)).toNat_lt; simp only [fitI]; omega)) ?_
        refine Wl.pure (PR.assI rfl) ?_
        refine Wl.nil ?_
        refine tn ?_
        refine Wc.ret ?_
        refine postL.tmp rfl rfl ?_
        refine RetV.of ?_ st.below
        refine congrArg (Value.int .i64) ?_
        first | rfl | omega | simp_all

set_option maxHeartbeats 400000 in
set_option maxRecDepth 4000 in
theorem c_math_bits_Len {x : Nat} {w : World} (hx : x < 256) :
    CE Tryz.prog 89 [.int .u64 (((x : Nat) : Int))] w (RetV w (.int .i64 ((((0 + (UInt8.ofNat (blen x)).toNat) : Nat) : Int)))) := by
  refine CE.enter 8 [(0, .int .u64 (((x : Nat) : Int)))] en_89 Tryz.func89 rfl rfl (Nat.le_of_ble_eq_true rfl) rfl ?_
  have st := St.start w
  refine Wc.seq ?_
  refine Wc.region rfl ?_
  refine Wl.pure (PR.assI rfl) ?_
  refine Wl.nil ?_
  refine tn ?_
  refine Wc.seq ?_
  refine Wc.condF rfl ?_
  refine Wc.skip ?_
  refine tn ?_
  refine Wc.seq ?_
  refine Wc.region rfl ?_
  refine Wl.pure (PR.moveI rfl) ?_
  refine Wl.callV (c_math_bits_Len64 (x := x) hx) rfl ?_
  intro w1 hbel
  replace st := st.call hbel
  clear hbel
  refine Wl.pure (PR.assI rfl) ?_
  refine Wl.nil ?_
  refine tn ?_
  refine Wc.ret ?_
  refine postL.tmp rfl rfl ?_
  exact RetV.of rfl st.below

set_option maxHeartbeats 400000 in
set_option maxRecDepth 4000 in
theorem c_slices_Sort_uint8_uint8 {ba : Nat} {n : Nat} {cp : Nat} {c : Nat → Nat} {sp : List Value} {w : World} (hc : ∀ k, c k < 256) (hn : n ≤ 12) (hst : St [ba] w w [(ba, arrU .u8 n c ++ sp, 5)]) :
    CE Tryz.prog 82 [.slice (some ⟨ba, 0, none⟩) (n) (cp)] w (RetX w [ba] (.tuple #[]) [(ba, arrU .u8 n (srtF n c) ++ sp, 5)]) := by
  refine CE.enter 11 [(0, .slice (some ⟨ba, 0, none⟩) (n) (cp))] en_82 Tryz.func82 rfl rfl (Nat.le_of_ble_eq_true rfl) rfl ?_
  have st := hst
  refine Wc.seq ?_
  refine Wc.region rfl ?_
  refine Wl.pure (PR.moveL rfl) ?_
  refine Wl.pure (PR.lenL tS_22 rfl) ?_
  refine Wl.pure (PR.assI rfl) ?_
  refine Wl.nil ?_
  refine tn ?_
  refine Wc.region rfl ?_
  refine Wl.pure (PR.moveL rfl) ?_
  refine Wl.pure (PR.moveI rfl) ?_
  refine Wl.pure (PR.moveI rfl) ?_
  refine Wl.pure (PR.conv (n := ((n : Nat) : Int)) tI_51 rfl (by simp only [fitI]; omega) Tryz.underlying3) ?_
  refine Wl.callV (c_math_bits_Len (x := n) (by first | assumption | omega)) rfl ?_
  intro w1 hbel
  replace st := st.call hbel
  clear hbel
  refine Wl.callX [0] st (c_slices_pdqsortOrdered_uint8 (ba := ba) (n := n) (cp := cp) (c := c) (sp := sp) (z := (((0 + (UInt8.ofNat (blen n)).toNat) : Nat) : Int)) hc (by first | assumption | omega) (st.lend (L' := [(ba, arrU .u8 n c ++ sp, 5)]) [0] (by decide) rfl)) rfl rfl ?_
  clear st
  intro w2 st
  replace st : St [ba] w w2 [(ba, arrU .u8 n (srtF n c) ++ sp, 5)] := st
  refine Wl.nil ?_
  refine postL.nores' rfl ?_
  exact st.retX rfl rfl

set_option maxHeartbeats 400000 in
set_option maxRecDepth 4000 in
theorem c_slices_Sorted_uint8 {b1 : Nat} {o1 : Nat} {A : Option Addr} {n : Nat} {cp : Nat} {c : Nat → Nat} {w : World} (h1 : RdA w b1 o1 [.slice A n cp]) (hR : RdS w A n (arrU .u8 n c)) (hn : 0 < n ∧ n ≤ 12) (hc : ∀ k, c k < 256) :
    CE Tryz.prog 66 [.func (.func 83) #[] #[.pointer (some ⟨b1, o1, none⟩)]] w (RetXG w [] 5 1 (n) (arrU .u8 n (srtF n c)) (fun b_ c_ => .slice (some ⟨b_, 0, none⟩) (n) (c_)) []) := by
  refine CE.enter 9 [(0, .func (.func 83) #[] #[.pointer (some ⟨b1, o1, none⟩)])] en_66 Tryz.func66 rfl rfl (Nat.le_of_ble_eq_true rfl) rfl ?_
  have st := St.start w
  refine Wc.seq ?_
  refine Wc.region rfl ?_
  refine Wl.pure (PR.assL rfl) ?_
  refine Wl.nil ?_
  refine tn ?_
  refine Wc.seq ?_
  refine Wc.region rfl ?_
  refine Wl.pure (PR.moveF rfl) ?_
  refine Wl.callXG [] st (c_slices_Collect_uint8 (b1 := b1) (o1 := o1) (A := A) (n := n) (cp := cp) (c := c) (h1.st st) (hR.st st) (by first | assumption | omega)) rfl rfl ?_
  clear st
  intro b5 c5 sp5 w1 hc5 hs5 st
  replace st : St [] w w1 [(b5, arrU .u8 n c ++ sp5, 5)] := st
  refine Wl.pure (PR.assL rfl) ?_
  refine Wl.nil ?_
  refine tn ?_
  refine Wc.seq ?_
  refine Wc.region rfl ?_
  refine Wl.pure (PR.moveL rfl) ?_
  refine Wl.callX [0] st (c_slices_Sort_uint8_uint8 (ba := b5) (n := n) (cp := c5) (c := c) (sp := sp5) hc (by first | assumption | omega) (st.lend (L' := [(b5, arrU .u8 n c ++ sp5, 5)]) [0] (by decide) rfl)) rfl rfl ?_
  clear st
  intro w2 st
  replace st : St [] w w2 [(b5, arrU .u8 n (srtF n c) ++ sp5, 5)] := st
  refine Wl.nil ?_
  refine tn ?_
  refine Wc.seq ?_
  refine Wc.region rfl ?_
  refine Wl.pure (PR.moveL rfl) ?_
  refine Wl.pure (PR.assL rfl) ?_
  refine Wl.nil ?_
  refine tn ?_
  refine Wc.ret ?_
  refine postL.tmp rfl rfl ?_
  exact ⟨b5, c5, sp5, hc5, hs5, rfl, st⟩

end Go.Proofs.YtabekcodjcbolaaGreat
