/-
  Contracts of functions, printed by a program of ours.
-/
import Derived.Test.YtajkjhjnbfcpfaaCW3
import Derived.Test.YtajkjhjnbfcpfaaSeqT
import Derived.Test.YtajkjhjnbfcpfaaSort
import Derived.Test.YtajkjhjnbfcpfaaMix
import Derived.Test.YtajkjhjnbfcpfaaChk
namespace Go.Proofs.Ytajkjhjnbfcpfaa
open Go.RowKit
set_option linter.unusedVariables false
set_option linter.unusedSimpArgs false

set_option maxHeartbeats 400000 in
set_option maxRecDepth 4000 in
theorem c_slices_Values_uint8_uint8 {A : Option Addr} {n : Nat} {cp : Nat} {w : World} :
    CE Try.prog 122 [.slice (A) (n) (cp)] w (RetXG w [] 67 1 (1) ([.slice (A) (n) (cp)]) (fun b_ c_ => .func (.func 135) #[] #[.pointer (some ⟨b_, 0, none⟩)]) []) := by
  refine CE.enter 4 [(0, .slice (A) (n) (cp))] en_122 Try.func122 rfl rfl (Nat.le_of_ble_eq_true rfl) rfl ?_
  have st := St.start w
  refine Wc.seq ?_
  refine Wc.region rfl ?_
  refine Wl.boxL st rfl ?_
  clear st
  intro b1 w1 st
  refine Wl.pure (PR.assV (.nilFunc) rfl) ?_
  refine Wl.nil ?_
  refine tn ?_
  refine Wc.seq ?_
  refine Wc.region rfl ?_
  refine Wl.pure (PR.mkFunc (vs := [.pointer (some ⟨b1, 0, none⟩)]) rfl) ?_
  refine Wl.pure (PR.assF rfl) ?_
  refine Wl.nil ?_
  refine tn ?_
  refine Wc.ret ?_
  refine postL.tmp rfl rfl ?_
  replace st := st.nilapp
  exact ⟨b1, 1, ([]), (Nat.le_refl _), (by simp), rfl, st⟩

set_option maxHeartbeats 400000 in
set_option maxRecDepth 4000 in
theorem c_slices_Collect_uint8 {b1 : Nat} {o1 : Nat} {A : Option Addr} {n : Nat} {cp : Nat} {c : Nat → Nat} {w : World} (h1 : RdA w b1 o1 [.slice A n cp]) (hR : RdS w A n (arrU .u8 n c)) (hn : 0 < n ∧ n ≤ 12) :
    CE Try.prog 133 [.func (.func 135) #[] #[.pointer (some ⟨b1, o1, none⟩)]] w (RetXG w [] 5 1 (n) (arrU .u8 n c) (fun b_ c_ => .slice (some ⟨b_, 0, none⟩) (n) (c_)) []) := by
  refine CE.enter 5 [(0, .func (.func 135) #[] #[.pointer (some ⟨b1, o1, none⟩)])] en_133 Try.func133 rfl rfl (Nat.le_of_ble_eq_true rfl) rfl ?_
  have st := St.start w
  refine Wc.seq ?_
  refine Wc.region rfl ?_
  refine Wl.pure (PR.assL rfl) ?_
  refine Wl.nil ?_
  refine tn ?_
  refine Wc.seq ?_
  refine Wc.region rfl ?_
  refine Wl.pure (PR.moveF rfl) ?_
  refine Wl.callXG [] st (c_AppendSeq (b1 := b1) (o1 := o1) (A := A) (n := n) (cp := cp) (c := c) (h1.st st) (hR.st st) ⟨hn.1, by omega⟩) rfl rfl ?_
  clear st
  intro b4 c4 sp4 w1 hc4 hs4 st
  replace st : St [] w w1 [(b4, arrU .u8 n c ++ sp4, 5)] := st
  refine Wl.pure (PR.assL rfl) ?_
  refine Wl.nil ?_
  refine tn ?_
  refine Wc.ret ?_
  refine postL.tmp rfl rfl ?_
  exact ⟨b4, c4, sp4, hc4, hs4, rfl, st⟩

set_option maxHeartbeats 400000 in
set_option maxRecDepth 4000 in
theorem c_cmp_isNaN_uint8 {x : Nat} {w : World} (hx : x < 256) :
    CE Try.prog 158 [.int .u8 (((x : Nat) : Int))] w (RetV w (.bool false)) := by
  refine CE.enter 6 [(0, .int .u8 (((x : Nat) : Int)))] en_158 Try.func158 rfl rfl (Nat.le_of_ble_eq_true rfl) rfl ?_
  have st := St.start w
  refine Wc.seq ?_
  refine Wc.region rfl ?_
  refine Wl.pure (PR.assB rfl) ?_
  refine Wl.nil ?_
  refine tn ?_
  refine Wc.seq ?_
  refine Wc.region rfl ?_
  refine Wl.pure (PR.moveI rfl) ?_
  refine Wl.pure (PR.moveI rfl) ?_
  refine Wl.pure (PR.neqS (a := ((x : Nat) : Int)) rfl rfl) ?_
  refine Wl.pure (PR.assB rfl) ?_
  refine Wl.nil ?_
  refine tn ?_
  refine Wc.ret ?_
  refine postL.tmp rfl rfl ?_
  exact RetV.of rfl st.below

set_option maxHeartbeats 400000 in
set_option maxRecDepth 4000 in
theorem c_cmp_Less_uint8 {x : Nat} {y : Nat} {w : World} (hx : x < 256) (hy : y < 256) :
    CE Try.prog 148 [.int .u8 (((x : Nat) : Int)), .int .u8 (((y : Nat) : Int))] w (RetV w (.bool (decide (((x : Nat) : Int) < ((y : Nat) : Int))))) := by
  refine CE.enter 17 [(0, .int .u8 (((x : Nat) : Int))), (1, .int .u8 (((y : Nat) : Int)))] en_148 Try.func148 rfl rfl (Nat.le_of_ble_eq_true rfl) rfl ?_
  have st := St.start w
  refine Wc.seq ?_
  refine Wc.region rfl ?_
  refine Wl.pure (PR.assB rfl) ?_
  refine Wl.nil ?_
  refine tn ?_
  refine Wc.seq ?_
  refine Wc.region rfl ?_
  refine Wl.pure (PR.moveI rfl) ?_
  refine Wl.callV (c_cmp_isNaN_uint8 (x := x) hx) rfl ?_
  intro w1 hbel
  replace st := st.call hbel
  clear hbel
  refine Wl.pure (PR.moveB rfl) ?_
  refine Wl.off rfl rfl rfl ?_
  refine Wl.off rfl rfl rfl ?_
  refine Wl.off rfl rfl rfl ?_
  refine Wl.pure (PR.pickFB rfl rfl) ?_
  refine Wl.pure (PR.moveB rfl) ?_
  refine Wl.on rfl rfl ?_
  refine Wl.pure (PR.moveI rfl) ?_
  refine Wl.on rfl rfl ?_
  refine Wl.pure (PR.moveI rfl) ?_
  refine Wl.on rfl rfl ?_
  refine Wl.pure (PR.lss (a := ((x : Nat) : Int)) (b := ((y : Nat) : Int)) rfl rfl) ?_
  refine Wl.pure (PR.pickFB rfl rfl) ?_
  refine Wl.pure (PR.assB rfl) ?_
  refine Wl.nil ?_
  refine tn ?_
  refine Wc.ret ?_
  refine postL.tmp rfl rfl ?_
  exact RetV.of rfl st.below

set_option maxHeartbeats 400000 in
set_option maxRecDepth 4000 in
theorem c_slices_insertionSortOrdered_uint8 {ba : Nat} {n : Nat} {cp : Nat} {c : Nat → Nat} {sp : List Value} {w : World} (hc : ∀ k, c k < 256) (hn : n ≤ 12) (hst : St [ba] w w [(ba, arrU .u8 n c ++ sp, 5)]) :
    CE Try.prog 142 [.slice (some ⟨ba, 0, none⟩) (n) (cp), .int .i64 (0), .int .i64 (((n : Nat) : Int))] w (RetX w [ba] (.tuple #[]) [(ba, arrU .u8 n (srtF n c) ++ sp, 5)]) := by
  refine CE.enter 49 [(0, .slice (some ⟨ba, 0, none⟩) (n) (cp)), (1, .int .i64 (0)), (2, .int .i64 (((n : Nat) : Int)))] en_142 Try.func142 rfl rfl (Nat.le_of_ble_eq_true rfl) rfl ?_
  have st := hst
  refine Wc.seq ?_
  refine Wc.region rfl ?_
  refine Wl.pure (PR.moveI rfl) ?_
  refine Wl.pure (PR.add (a := 0) (b := 1) rfl rfl (by simp only [fitI]; omega)) ?_
  refine Wl.pure (PR.assI rfl) ?_
  refine Wl.nil ?_
  refine tn ?_
  refine Wc.block ?_
  refine Wc.loopF (γ := Nat × (Nat → Nat)) (fun g => [(0, .slice (some ⟨ba, 0, none⟩) (n) (cp)), (1, .int .i64 (0)), (2, .int .i64 (((n : Nat) : Int))), (6, .int .i64 (((g.1 : Nat) : Int)))]) (fun g w_ => St [ba] w w_ [(ba, arrU .u8 n g.2 ++ sp, 5)] ∧ (1 ≤ g.1 ∧ g.1 ≤ n + 1) ∧ (∀ k, k + 1 < g.1 → g.2 k ≤ g.2 (k + 1)) ∧ (∀ v, cnt g.2 v n = cnt c v n) ∧ (∀ k, g.2 k < 256)) (fun g => n + 1 - g.1) ?_ ?_
  · exact ⟨(1, c), (.cons rfl (.cons rfl (.cons rfl (.cons rfl (.nil _))))), st, (by first | omega | (dsimp only; omega)), (fun k hk => by omega), (fun _ => rfl), hc⟩
  clear st
  rintro ⟨i, u⟩ w1 ⟨st, hi, hs, hcn, hub⟩
  try dsimp only at st hi hs hcn hub ⊢
  refine Wc.seq ?_
  refine Wc.seq ?_
  refine Wc.region rfl ?_
  refine Wl.pure (PR.moveI rfl) ?_
  refine Wl.pure (PR.moveI rfl) ?_
  refine Wl.pure (PR.lss (a := ((i : Nat) : Int)) (b := ((n : Nat) : Int)) rfl rfl) ?_
  refine Wl.nil ?_
  refine tn ?_
  refine Wc.condD (p := ((i : Nat) : Int) < ((n : Nat) : Int)) rfl (fun h2 => ?_) (fun h2 => ?_)
  · refine Wc.skip ?_
    refine tn ?_
    refine Wc.seq ?_
    refine Wc.block ?_
    refine Wc.seq ?_
    refine Wc.region rfl ?_
    refine Wl.pure (PR.moveI rfl) ?_
    refine Wl.pure (PR.assI rfl) ?_
    refine Wl.nil ?_
    refine tn ?_
    refine Wc.block ?_
    refine Wc.loopF (γ := Nat × (Nat → Nat)) (fun g => [(0, .slice (some ⟨ba, 0, none⟩) (n) (cp)), (1, .int .i64 (0)), (2, .int .i64 (((n : Nat) : Int))), (6, .int .i64 (((i : Nat) : Int))), (7, .int .i64 (((g.1 : Nat) : Int))), (10, .int .i64 (((i : Nat) : Int))), (11, .int .i64 (((n : Nat) : Int))), (12, .bool (decide (((i : Nat) : Int) < ((n : Nat) : Int)))), (15, .int .i64 (((i : Nat) : Int)))]) (fun g w_ => St [ba] w w_ [(ba, arrU .u8 n g.2 ++ sp, 5)] ∧ (g.1 ≤ i) ∧ (∀ k, k + 1 ≤ i → k + 1 ≠ g.1 → g.2 k ≤ g.2 (k + 1)) ∧ (∀ k, k + 1 = g.1 → g.1 + 1 ≤ i → g.2 k ≤ g.2 (g.1 + 1)) ∧ (∀ v, cnt g.2 v n = cnt c v n) ∧ (∀ k, g.2 k < 256)) (fun g => g.1) ?_ ?_
    · exact ⟨(i, u), (.cons rfl (.cons rfl (.cons rfl (.cons rfl (.cons rfl (.cons rfl (.cons rfl (.cons rfl (.cons rfl (.nil _)))))))))), st, (by first | omega | (dsimp only; omega)), (fun k hk hne => hs k (by omega)), (fun k hk h => by omega), hcn, hub⟩
    clear st
    rintro ⟨j, u⟩ w3 ⟨st, hj, hs2, hx, hcn, hub⟩
    try dsimp only at st hj hs2 hx hcn hub ⊢
    refine Wc.seq ?_
    refine Wc.seq ?_
    refine Wc.quiet hmix (by kernel_rfl) rfl ?_
    refine Wq.pure (PR.moveI rfl) ?_
    refine Wq.pure (PR.moveI rfl) ?_
    refine Wq.pure (PR.gtr (a := ((j : Nat) : Int)) (b := 0) rfl rfl) ?_
    refine Wq.pure (PR.moveB rfl) ?_
    refine Wq.splitT (q := 0 < ((j : Nat) : Int)) rfl rfl (fun h4 => ?_) (fun h4 => ?_)
    · refine Wq.pure (PR.moveL rfl) ?_
      refine Wq.on rfl rfl ?_
      refine Wq.pure (PR.moveI rfl) ?_
      refine Wq.on rfl rfl ?_
      refine Wq.pure (PR.idxAddrS1 (i := j) tS_67 rfl rfl (by omega)) ?_
      refine Wq.on rfl rfl ?_
      refine Wq.load (i := 0) st tA_5 rfl rfl (app_get (arrU_get0 (by omega))) ?_
      refine Wq.on rfl rfl ?_
      refine Wq.pure (PR.moveL rfl) ?_
      refine Wq.on rfl rfl ?_
      refine Wq.pure (PR.moveI rfl) ?_
      refine Wq.on rfl rfl ?_
      refine Wq.pure (PR.subN (a := j) (b := 1) rfl rfl (by omega) (by simp only [fitI]; omega)) ?_
      refine Wq.on rfl rfl ?_
      refine Wq.pure (PR.idxAddrS1 (i := (j - 1)) tS_67 rfl rfl (by omega)) ?_
      refine Wq.on rfl rfl ?_
      refine Wq.load (i := 0) st tA_5 rfl rfl (app_get (arrU_get0 (by omega))) ?_
      refine Wq.on rfl rfl ?_
      refine Wq.callV (fun _ hbel => c_cmp_Less_uint8 (x := u (j)) (y := u ((j - 1))) (hub (j)) (hub ((j - 1)))) rfl ?_
      refine Wq.pure (PR.pickTB rfl rfl) ?_
      refine Wq.nil (fun w5 hbel => ?_)
      replace st := st.call hbel
      clear hbel
      refine tn ?_
      refine Wc.condD (p := ((u (j) : Nat) : Int) < ((u ((j - 1)) : Nat) : Int)) rfl (fun h6 => ?_) (fun h6 => ?_)
      · refine Wc.skip ?_
        refine tn ?_
        refine Wc.seq ?_
        refine Wc.block ?_
        refine Wc.mixed (S := fun i => i == 15 || i == 17) (R := fun _ _ => True) [(0, 0), (1, 0), (2, 0), (3, 0), (4, 0), (5, 0), (6, 0), (7, 0), (8, 0), (10, 0), (11, 0), (12, 0), (9, 1), (13, 1), (14, 0), (15, 2), (16, 0), (17, 2)] (fun _ => trivial) (fun _ _ _ _ _ => trivial) hmix (by kernel_rfl) (by kernel_rfl) rfl rfl ?_
        intro w7 hbel
        replace st := st.call hbel
        clear hbel
        refine Wm.pure (by decide) rfl (PR.moveL rfl) ?_
        refine Wm.pure (by decide) rfl (PR.moveI rfl) ?_
        refine Wm.pure (by decide) rfl (PR.moveL rfl) ?_
        refine Wm.pure (by decide) rfl (PR.moveI rfl) ?_
        refine Wm.pure (by decide) rfl (PR.subN (a := j) (b := 1) rfl rfl (by omega) (by simp only [fitI]; omega)) ?_
        refine Wm.pure (by decide) rfl (PR.moveL rfl) ?_
        refine Wm.pure (by decide) rfl (PR.moveI rfl) ?_
        refine Wm.pure (by decide) rfl (PR.subN (a := j) (b := 1) rfl rfl (by omega) (by simp only [fitI]; omega)) ?_
        refine Wm.pure (by decide) rfl (PR.idxAddrS1 (i := (j - 1)) tS_67 rfl rfl (by omega)) ?_
        refine Wm.pure (by decide) rfl (PR.moveL rfl) ?_
        refine Wm.pure (by decide) rfl (PR.moveI rfl) ?_
        refine Wm.pure (by decide) rfl (PR.idxAddrS1 (i := j) tS_67 rfl rfl (by omega)) ?_
        refine Wm.load (j := 0) rfl st tA_5 rfl rfl (app_get (arrU_get0 (by omega))) ?_
        refine Wm.load (j := 0) rfl st tA_5 rfl rfl (app_get (arrU_get0 (by omega))) ?_
        refine Wm.pure (by decide) rfl (PR.idxAddrS1 (i := j) tS_67 rfl rfl (by omega)) ?_
        refine Wm.store (j := 0) (cs' := arrU .u8 n (upd u (j) (u ((j - 1)))) ++ sp) rfl st (fun _ _ => trivial) tA_5 rfl rfl rfl rfl (app_in (lt_of_len (arrU_len _) (by omega))) (app_set (lt_of_len (arrU_len _) (by omega)) (arrU_set0)) rfl ?_
        clear st
        intro w8 st
        replace st : St [ba] w w8 [(ba, arrU .u8 n (upd u (j) (u ((j - 1)))) ++ sp, 5)] := st
        refine Wm.pure (by decide) rfl (PR.idxAddrS1 (i := (j - 1)) tS_67 rfl rfl (by omega)) ?_
        refine Wm.store (j := 0) (cs' := arrU .u8 n (upd (upd u (j) (u ((j - 1)))) ((j - 1)) (u (j))) ++ sp) rfl st (fun _ _ => trivial) tA_5 rfl rfl rfl rfl (app_in (lt_of_len (arrU_len _) (by omega))) (app_set (lt_of_len (arrU_len _) (by omega)) (arrU_set0)) rfl ?_
        clear st
        intro w9 st
        replace st : St [ba] w w9 [(ba, arrU .u8 n (upd (upd u (j) (u ((j - 1)))) ((j - 1)) (u (j))) ++ sp, 5)] := st
        refine Wm.nil ?_
        refine bn ?_
        refine tn ?_
        refine Wc.region rfl ?_
        refine Wl.pure (PR.moveI rfl) ?_
        refine Wl.pure (PR.subN (a := j) (b := 1) rfl rfl (by omega) (by simp only [fitI]; omega)) ?_
        refine Wl.pure (PR.assI rfl) ?_
        refine Wl.nil ?_
        refine tn ?_
        exact ⟨(j - 1, upd (upd u (j) (u ((j - 1)))) ((j - 1)) (u (j))), (.cons rfl (.cons rfl (.cons rfl (.cons rfl (.cons rfl (.cons rfl (.cons rfl (.cons rfl (.cons rfl (.nil _)))))))))), ⟨st, (by first | omega | (dsimp only; omega)), (ins_step1 hs2 hx (by omega) hj (by omega)), (ins_step2 hs2 (by omega) hj), (fun v => (cnt_swp v (by omega) n (by omega)).trans (hcn v)), (upd_lt (upd_lt hub (hub _)) (hub _))⟩, (by first | omega | (dsimp only; omega))⟩
      · refine Wc.exit ?_
        refine tx ?_
        refine tx ?_
        refine bh ?_
        refine bn ?_
        refine tn ?_
        refine Wc.region rfl ?_
        refine Wl.pure (PR.moveI rfl) ?_
        refine Wl.pure (PR.add (a := ((i : Nat) : Int)) (b := 1) rfl rfl (by simp only [fitI]; omega)) ?_
        refine Wl.pure (PR.assI rfl) ?_
        refine Wl.nil ?_
        refine tn ?_
        exact ⟨(i + 1, u), (.cons rfl (.cons rfl (.cons rfl (.cons rfl (.nil _))))), ⟨st, (by first | omega | (dsimp only; omega)), (ins_exit (u := u) hs2 (fun _ => by omega)), hcn, hub⟩, (by first | omega | (dsimp only; omega))⟩
    · refine Wq.off rfl rfl rfl ?_
      refine Wq.off rfl rfl rfl ?_
      refine Wq.off rfl rfl rfl ?_
      refine Wq.off rfl rfl rfl ?_
      refine Wq.off rfl rfl rfl ?_
      refine Wq.off rfl rfl rfl ?_
      refine Wq.off rfl rfl rfl ?_
      refine Wq.off rfl rfl rfl ?_
      refine Wq.off rfl rfl rfl ?_
      refine Wq.pure (PR.pickFB rfl rfl) ?_
      refine Wq.nil (fun w10 hbel => ?_)
      replace st := st.call hbel
      clear hbel
      refine tn ?_
      refine Wc.condF rfl ?_
      refine Wc.exit ?_
      refine tx ?_
      refine tx ?_
      refine bh ?_
      refine bn ?_
      refine tn ?_
      refine Wc.region rfl ?_
      refine Wl.pure (PR.moveI rfl) ?_
      refine Wl.pure (PR.add (a := ((i : Nat) : Int)) (b := 1) rfl rfl (by simp only [fitI]; omega)) ?_
      refine Wl.pure (PR.assI rfl) ?_
      refine Wl.nil ?_
      refine tn ?_
      exact ⟨(i + 1, u), (.cons rfl (.cons rfl (.cons rfl (.cons rfl (.nil _))))), ⟨st, (by first | omega | (dsimp only; omega)), (ins_exit (u := u) hs2 (fun _ => by omega)), hcn, hub⟩, (by first | omega | (dsimp only; omega))⟩
  · refine Wc.exit ?_
    refine tx ?_
    refine tx ?_
    refine bh ?_
    refine postL.nores' rfl ?_
    rw [arrU_congr (srt_of (u := u) (c := c) (n := n) (fun k hk => hs k (by omega)) hcn)] at st
    exact st.retX rfl rfl

set_option maxHeartbeats 400000 in
set_option maxRecDepth 4000 in
theorem c_slices_pdqsortOrdered_uint8 {ba : Nat} {n : Nat} {cp : Nat} {c : Nat → Nat} {sp : List Value} {z : Int} {w : World} (hc : ∀ k, c k < 256) (hn : n ≤ 12) (hst : St [ba] w w [(ba, arrU .u8 n c ++ sp, 5)]) :
    CE Try.prog 140 [.slice (some ⟨ba, 0, none⟩) (n) (cp), .int .i64 (0), .int .i64 (((n : Nat) : Int)), .int .i64 (z)] w (RetX w [ba] (.tuple #[]) [(ba, arrU .u8 n (srtF n c) ++ sp, 5)]) := by
  refine CE.enter 134 [(0, .slice (some ⟨ba, 0, none⟩) (n) (cp)), (1, .int .i64 (0)), (2, .int .i64 (((n : Nat) : Int))), (3, .int .i64 (z))] en_140 Try.func140 rfl rfl (Nat.le_of_ble_eq_true rfl) rfl ?_
  have st := hst
  refine Wc.seq ?_
  refine Wc.region rfl ?_
  refine Wl.pure (PR.assB rfl) ?_
  refine Wl.nil ?_
  refine tn ?_
  refine Wc.seq ?_
  refine Wc.region rfl ?_
  refine Wl.pure (PR.assB rfl) ?_
  refine Wl.nil ?_
  refine tn ?_
  refine Wc.block ?_
  refine Wc.loopF (γ := Unit) (fun g => [(0, .slice (some ⟨ba, 0, none⟩) (n) (cp)), (1, .int .i64 (0)), (2, .int .i64 (((n : Nat) : Int))), (3, .int .i64 (z)), (8, .bool true), (9, .bool true)]) (fun g w_ => St [ba] w w_ [(ba, arrU .u8 n c ++ sp, 5)]) (fun g => 0) ?_ ?_
  · exact ⟨(), (.cons rfl (.cons rfl (.cons rfl (.cons rfl (.cons rfl (.cons rfl (.nil _))))))), st⟩
  clear st
  rintro u_ w1 st
  try dsimp only at st ⊢
  refine Wc.block ?_
  refine Wc.seq ?_
  refine Wc.region rfl ?_
  refine Wl.pure (PR.moveI rfl) ?_
  refine Wl.pure (PR.moveI rfl) ?_
  refine Wl.pure (PR.sub (a := ((n : Nat) : Int)) (b := 0) rfl rfl (by simp only [fitI]; omega)) ?_
  refine Wl.pure (PR.assI rfl) ?_
  refine Wl.nil ?_
  refine tn ?_
  refine Wc.seq ?_
  refine Wc.seq ?_
  refine Wc.region rfl ?_
  refine Wl.pure (PR.moveI rfl) ?_
  refine Wl.pure (PR.leq (a := (((n : Nat) : Int) - 0)) (b := 12) rfl rfl) ?_
  refine Wl.nil ?_
  refine tn ?_
  refine Wc.condD (p := (((n : Nat) : Int) - 0) ≤ 12) rfl (fun h2 => ?_) (fun h2 => ?_)
  · refine Wc.seq ?_
    refine Wc.region rfl ?_
    refine Wl.pure (PR.moveL rfl) ?_
    refine Wl.pure (PR.moveI rfl) ?_
    refine Wl.pure (PR.moveI rfl) ?_
    refine Wl.callX [0] st (c_slices_insertionSortOrdered_uint8 (ba := ba) (n := n) (cp := cp) (c := c) (sp := sp) hc (by first | assumption | omega) (st.lend (L' := [(ba, arrU .u8 n c ++ sp, 5)]) [0] (by decide) rfl)) rfl rfl ?_
    clear st
    intro w3 st
    replace st : St [ba] w w3 [(ba, arrU .u8 n (srtF n c) ++ sp, 5)] := st
    refine Wl.nil ?_
    refine tn ?_
    refine Wc.ret ?_
    refine tr ?_
    refine br ?_
    refine tr ?_
    refine br ?_
    refine postL.nores rfl ?_
    exact st.retX rfl rfl
  · refine Wc.skip ?_
    refine tn ?_
    refine Wc.seq ?_
    refine Wc.seq ?_
    exfalso
    omega

set_option maxHeartbeats 400000 in
set_option maxRecDepth 4000 in
theorem c_math_bits_Len64 {x : Nat} {w : World} (hx : x < 256) :
    CE Try.prog 152 [.int .u64 (((x : Nat) : Int))] w (RetV w (.int .i64 ((((0 + (UInt8.ofNat (blen x)).toNat) : Nat) : Int)))) := by
  refine CE.enter 25 [(0, .int .u64 (((x : Nat) : Int)))] en_152 Try.func152 rfl rfl (Nat.le_of_ble_eq_true rfl) rfl ?_
  have st := St.start w
  refine Wc.seq ?_
  refine Wc.region rfl ?_
  refine Wl.pure (PR.assI rfl) ?_
  refine Wl.nil ?_
  refine tn ?_
  refine Wc.seq ?_
  refine Wc.seq ?_
  refine Wc.region rfl ?_
  refine Wl.pure (PR.moveI rfl) ?_
  refine Wl.pure (PR.geq (a := ((x : Nat) : Int)) (b := 4294967296) rfl rfl) ?_
  refine Wl.nil ?_
  refine tn ?_
  refine Wc.condD (p := 4294967296 ≤ ((x : Nat) : Int)) rfl (fun h1 => ?_) (fun h1 => ?_)
  · refine Wc.seq ?_
    exfalso
    omega
  · refine Wc.skip ?_
    refine tn ?_
    refine Wc.seq ?_
    refine Wc.seq ?_
    refine Wc.region rfl ?_
    refine Wl.pure (PR.moveI rfl) ?_
    refine Wl.pure (PR.geq (a := ((x : Nat) : Int)) (b := 65536) rfl rfl) ?_
    refine Wl.nil ?_
    refine tn ?_
    refine Wc.condD (p := 65536 ≤ ((x : Nat) : Int)) rfl (fun h2 => ?_) (fun h2 => ?_)
    · refine Wc.seq ?_
      exfalso
      omega
    · refine Wc.skip ?_
      refine tn ?_
      refine Wc.seq ?_
      refine Wc.seq ?_
      refine Wc.region rfl ?_
      refine Wl.pure (PR.moveI rfl) ?_
      refine Wl.pure (PR.geq (a := ((x : Nat) : Int)) (b := 256) rfl rfl) ?_
      refine Wl.nil ?_
      refine tn ?_
      refine Wc.condD (p := 256 ≤ ((x : Nat) : Int)) rfl (fun h3 => ?_) (fun h3 => ?_)
      · refine Wc.seq ?_
        exfalso
        omega
      · refine Wc.skip ?_
        refine tn ?_
        refine Wc.seq ?_
        refine Wc.region rfl ?_
        refine Wl.pure (PR.moveI rfl) ?_
        refine Wl.pure (PR.moveI rfl) ?_
        refine Wl.pure (PR.conv (n := ((x : Nat) : Int)) tI_5 rfl (by simp only [fitI]; omega) Try.underlying26) ?_
        refine Wl.pure (PR.idxStr (i := x) (c := UInt8.ofNat (blen x)) Try.underlying9 rfl rfl (tab_gen blen _ (by kernel_rfl) hx)) ?_
        refine Wl.pure (PR.conv (n := (((UInt8.ofNat (blen x)).toNat : Nat) : Int)) tI_3 rfl (fitN (UInt8.ofNat (blen x)).toNat_lt rfl) Try.underlying5) ?_
        refine Wl.pure (PR.add (a := 0) (b := (((UInt8.ofNat (blen x)).toNat : Nat) : Int)) rfl rfl (by have := (UInt8.ofNat (blen x)).toNat_lt; simp only [fitI]; omega)) ?_
        refine Wl.pure (PR.assI rfl) ?_
        refine Wl.nil ?_
        refine tn ?_
        refine Wc.ret ?_
        refine postL.tmp rfl rfl ?_
        refine RetV.of ?_ st.below
        refine congrArg (Value.int .i64) ?_
        first | rfl | omega | simp_all

set_option maxHeartbeats 400000 in
set_option maxRecDepth 4000 in
theorem c_math_bits_Len {x : Nat} {w : World} (hx : x < 256) :
    CE Try.prog 141 [.int .u64 (((x : Nat) : Int))] w (RetV w (.int .i64 ((((0 + (UInt8.ofNat (blen x)).toNat) : Nat) : Int)))) := by
  refine CE.enter 8 [(0, .int .u64 (((x : Nat) : Int)))] en_141 Try.func141 rfl rfl (Nat.le_of_ble_eq_true rfl) rfl ?_
  have st := St.start w
  refine Wc.seq ?_
  refine Wc.region rfl ?_
  refine Wl.pure (PR.assI rfl) ?_
  refine Wl.nil ?_
  refine tn ?_
  refine Wc.seq ?_
  refine Wc.condF rfl ?_
  refine Wc.skip ?_
  refine tn ?_
  refine Wc.seq ?_
  refine Wc.region rfl ?_
  refine Wl.pure (PR.moveI rfl) ?_
  refine Wl.callV (c_math_bits_Len64 (x := x) hx) rfl ?_
  intro w1 hbel
  replace st := st.call hbel
  clear hbel
  refine Wl.pure (PR.assI rfl) ?_
  refine Wl.nil ?_
  refine tn ?_
  refine Wc.ret ?_
  refine postL.tmp rfl rfl ?_
  exact RetV.of rfl st.below

set_option maxHeartbeats 400000 in
set_option maxRecDepth 4000 in
theorem c_slices_Sort_uint8_uint8 {ba : Nat} {n : Nat} {cp : Nat} {c : Nat → Nat} {sp : List Value} {w : World} (hc : ∀ k, c k < 256) (hn : n ≤ 12) (hst : St [ba] w w [(ba, arrU .u8 n c ++ sp, 5)]) :
    CE Try.prog 134 [.slice (some ⟨ba, 0, none⟩) (n) (cp)] w (RetX w [ba] (.tuple #[]) [(ba, arrU .u8 n (srtF n c) ++ sp, 5)]) := by
  refine CE.enter 11 [(0, .slice (some ⟨ba, 0, none⟩) (n) (cp))] en_134 Try.func134 rfl rfl (Nat.le_of_ble_eq_true rfl) rfl ?_
  have st := hst
  refine Wc.seq ?_
  refine Wc.region rfl ?_
  refine Wl.pure (PR.moveL rfl) ?_
  refine Wl.pure (PR.lenL tS_67 rfl) ?_
  refine Wl.pure (PR.assI rfl) ?_
  refine Wl.nil ?_
  refine tn ?_
  refine Wc.region rfl ?_
  refine Wl.pure (PR.moveL rfl) ?_
  refine Wl.pure (PR.moveI rfl) ?_
  refine Wl.pure (PR.moveI rfl) ?_
  refine Wl.pure (PR.conv (n := ((n : Nat) : Int)) tI_133 rfl (by simp only [fitI]; omega) Try.underlying3) ?_
  refine Wl.callV (c_math_bits_Len (x := n) (by first | assumption | omega)) rfl ?_
  intro w1 hbel
  replace st := st.call hbel
  clear hbel
  refine Wl.callX [0] st (c_slices_pdqsortOrdered_uint8 (ba := ba) (n := n) (cp := cp) (c := c) (sp := sp) (z := (((0 + (UInt8.ofNat (blen n)).toNat) : Nat) : Int)) hc (by first | assumption | omega) (st.lend (L' := [(ba, arrU .u8 n c ++ sp, 5)]) [0] (by decide) rfl)) rfl rfl ?_
  clear st
  intro w2 st
  replace st : St [ba] w w2 [(ba, arrU .u8 n (srtF n c) ++ sp, 5)] := st
  refine Wl.nil ?_
  refine postL.nores' rfl ?_
  exact st.retX rfl rfl

set_option maxHeartbeats 400000 in
set_option maxRecDepth 4000 in
theorem c_slices_Sorted_uint8 {b1 : Nat} {o1 : Nat} {A : Option Addr} {n : Nat} {cp : Nat} {c : Nat → Nat} {w : World} (h1 : RdA w b1 o1 [.slice A n cp]) (hR : RdS w A n (arrU .u8 n c)) (hn : 0 < n ∧ n ≤ 12) (hc : ∀ k, c k < 256) :
    CE Try.prog 121 [.func (.func 135) #[] #[.pointer (some ⟨b1, o1, none⟩)]] w (RetXG w [] 5 1 (n) (arrU .u8 n (srtF n c)) (fun b_ c_ => .slice (some ⟨b_, 0, none⟩) (n) (c_)) []) := by
  refine CE.enter 9 [(0, .func (.func 135) #[] #[.pointer (some ⟨b1, o1, none⟩)])] en_121 Try.func121 rfl rfl (Nat.le_of_ble_eq_true rfl) rfl ?_
  have st := St.start w
  refine Wc.seq ?_
  refine Wc.region rfl ?_
  refine Wl.pure (PR.assL rfl) ?_
  refine Wl.nil ?_
  refine tn ?_
  refine Wc.seq ?_
  refine Wc.region rfl ?_
  refine Wl.pure (PR.moveF rfl) ?_
  refine Wl.callXG [] st (c_slices_Collect_uint8 (b1 := b1) (o1 := o1) (A := A) (n := n) (cp := cp) (c := c) (h1.st st) (hR.st st) (by first | assumption | omega)) rfl rfl ?_
  clear st
  intro b5 c5 sp5 w1 hc5 hs5 st
  replace st : St [] w w1 [(b5, arrU .u8 n c ++ sp5, 5)] := st
  refine Wl.pure (PR.assL rfl) ?_
  refine Wl.nil ?_
  refine tn ?_
  refine Wc.seq ?_
  refine Wc.region rfl ?_
  refine Wl.pure (PR.moveL rfl) ?_
  refine Wl.callX [0] st (c_slices_Sort_uint8_uint8 (ba := b5) (n := n) (cp := c5) (c := c) (sp := sp5) hc (by first | assumption | omega) (st.lend (L' := [(b5, arrU .u8 n c ++ sp5, 5)]) [0] (by decide) rfl)) rfl rfl ?_
  clear st
  intro w2 st
  replace st : St [] w w2 [(b5, arrU .u8 n (srtF n c) ++ sp5, 5)] := st
  refine Wl.nil ?_
  refine tn ?_
  refine Wc.seq ?_
  refine Wc.region rfl ?_
  refine Wl.pure (PR.moveL rfl) ?_
  refine Wl.pure (PR.assL rfl) ?_
  refine Wl.nil ?_
  refine tn ?_
  refine Wc.ret ?_
  refine postL.tmp rfl rfl ?_
  exact ⟨b5, c5, sp5, hc5, hs5, rfl, st⟩

set_option maxHeartbeats 400000 in
set_option maxRecDepth 4000 in
theorem c_impl_columnsOf {A : Option Addr} {r : Nat} {cp : Nat} {t : Nat → Nat} {m : Nat} {x : Nat} {w : World} (hR : RdS w A r (arrU .u8 r t)) (ht : ∀ k, t k < 256) (hm : m ≤ 8) (hx : x < 256) (hr : r ≤ 8) :
    CE Try.prog 123 [.slice (A) (r) (cp), .int .i8 (((m : Nat) : Int)), .int .u8 (((x : Nat) : Int))] w (RetS w 5 (m) (m) (arrU .u8 m (colR t x r))) := by
  refine CE.enter 45 [(0, .slice (A) (r) (cp)), (1, .int .i8 (((m : Nat) : Int))), (2, .int .u8 (((x : Nat) : Int)))] en_123 Try.func123 rfl rfl (Nat.le_of_ble_eq_true rfl) rfl ?_
  have st := St.start w
  refine Wc.seq ?_
  refine Wc.region rfl ?_
  refine Wl.pure (PR.assL rfl) ?_
  refine Wl.nil ?_
  refine tn ?_
  refine Wc.seq ?_
  refine Wc.region rfl ?_
  refine Wl.pure (PR.moveI rfl) ?_
  refine Wl.makeSlice (n := m) st tS_67 tZ_5 rfl rfl rfl (by omega) (by omega) ?_
  clear st
  intro b12 w1 st
  rw [made_arrU] at st
  refine Wl.pure (PR.assL rfl) ?_
  refine Wl.nil ?_
  refine tn ?_
  refine Wc.seq ?_
  refine Wc.seq ?_
  refine Wc.region rfl ?_
  refine Wl.pure (PR.moveL rfl) ?_
  refine Wl.pure (PR.lenL tS_67 rfl) ?_
  refine Wl.pure (PR.moveI rfl) ?_
  refine Wl.nil ?_
  refine tn ?_
  refine Wc.block ?_
  refine Wc.loopF (γ := Nat × (Nat → Nat)) (fun g => [(2, .int .u8 (((x : Nat) : Int))), (6, .slice (none) (0) (0)), (7, .slice (some ⟨b12, 0, none⟩) (m) (m)), (13, .slice (A) (r) (cp)), (14, .int .i64 (((r : Nat) : Int))), (15, .int .i64 (((g.1 : Nat) : Int)))]) (fun g w_ => St [] w w_ [(b12, arrU .u8 m g.2, 5)] ∧ (g.1 ≤ r) ∧ (∀ j, j < m → g.2 j = colR t x g.1 j) ∧ (∀ z, g.2 z < 256)) (fun g => r - g.1) ?_ ?_
  · exact ⟨(0, (fun _ => 0)), (.cons rfl (.cons rfl (.cons rfl (.cons rfl (.cons rfl (.cons rfl (.nil _))))))), st, (by first | omega | (dsimp only; omega)), (fun _ _ => rfl), (fun _ => show (0 : Nat) < 256 by decide)⟩
  clear st
  rintro ⟨i, d⟩ w2 ⟨st, hi, hd, hdb⟩
  try dsimp only at st hi hd hdb ⊢
  refine Wc.seq ?_
  refine Wc.region rfl ?_
  refine Wl.pure (PR.lss (a := ((i : Nat) : Int)) (b := ((r : Nat) : Int)) rfl rfl) ?_
  refine Wl.nil ?_
  refine tn ?_
  refine Wc.seq ?_
  refine Wc.condD (p := ((i : Nat) : Int) < ((r : Nat) : Int)) rfl (fun h3 => ?_) (fun h3 => ?_)
  · refine Wc.skip ?_
    refine tn ?_
    refine Wc.seq ?_
    refine Wc.block ?_
    refine Wc.seq ?_
    refine Wc.region rfl ?_
    refine Wl.pure (PR.moveI rfl) ?_
    obtain ⟨bs4, os5, rfl, hs6⟩ := hR (by omega)
    refine Wl.pure (PR.idxAddrS1 (i := i) tS_67 rfl rfl (by omega)) ?_
    refine Wl.loadC tA_5 rfl ((hs6.st st).at_ (arrU_get0 (by omega)) (Nat.add_assoc _ _ _).symm) ?_
    refine Wl.pure (PR.assI rfl) ?_
    refine Wl.pure (PR.assI rfl) ?_
    refine Wl.nil ?_
    refine tn ?_
    refine Wc.seq ?_
    refine Wc.seq ?_
    refine Wc.region rfl ?_
    refine Wl.pure (PR.moveI rfl) ?_
    refine Wl.pure (PR.moveI rfl) ?_
    refine Wl.pure (PR.shr (a := x) (n := i) rfl rfl (by decide) hx) ?_
    refine Wl.pure (PR.and (a := (x >>> i)) (b := 1) rfl rfl (by decide) (shr_lt hx) (by decide)) ?_
    refine Wl.pure (PR.eql (a := ((((x >>> i) &&& 1) : Nat) : Int)) (b := 0) rfl rfl) ?_
    refine Wl.nil ?_
    refine tn ?_
    refine Wc.condD (p := ((((x >>> i) &&& 1) : Nat) : Int) = 0) rfl (fun h7 => ?_) (fun h7 => ?_)
    · refine Wc.exit ?_
      refine tx ?_
      refine bh ?_
      refine tn ?_
      refine Wc.region rfl ?_
      refine Wl.pure (PR.add (a := ((i : Nat) : Int)) (b := 1) rfl rfl (by simp only [fitI]; omega)) ?_
      refine Wl.pure (PR.moveI rfl) ?_
      refine Wl.nil ?_
      refine tn ?_
      exact ⟨(i + 1, d), (.cons rfl (.cons rfl (.cons rfl (.cons rfl (.cons rfl (.cons rfl (.nil _))))))), ⟨st, (by first | omega | (dsimp only; omega)), (by first | exact fun j hj => hlo j (by omega) | exact col_skip hd (by omega)), hdb⟩, (by first | omega | (dsimp only; omega))⟩
    · refine Wc.skip ?_
      refine tn ?_
      refine Wc.seq ?_
      refine Wc.region rfl ?_
      refine Wl.pure (PR.moveL rfl) ?_
      refine Wl.pure (PR.lenL tS_67 rfl) ?_
      refine Wl.pure (PR.moveI rfl) ?_
      refine Wl.nil ?_
      refine tn ?_
      refine Wc.block ?_
      refine Wc.loopF (γ := Nat × (Nat → Nat)) (fun g => [(2, .int .u8 (((x : Nat) : Int))), (6, .slice (none) (0) (0)), (7, .slice (some ⟨b12, 0, none⟩) (m) (m)), (8, .int .i64 (((i : Nat) : Int))), (9, .int .u8 (((t (i) : Nat) : Int))), (13, .slice (some ⟨bs4, os5, none⟩) (r) (cp)), (14, .int .i64 (((r : Nat) : Int))), (15, .int .i64 (((i : Nat) : Int))), (16, .bool (decide (((i : Nat) : Int) < ((r : Nat) : Int)))), (17, .int .i64 (((i : Nat) : Int))), (18, .pointer (some ⟨bs4, os5 + i, none⟩)), (19, .int .u8 (((t (i) : Nat) : Int))), (20, .int .u8 (((x : Nat) : Int))), (21, .int .i64 (((i : Nat) : Int))), (22, .int .u8 ((((x >>> i) : Nat) : Int))), (23, .int .u8 (((((x >>> i) &&& 1) : Nat) : Int))), (24, .bool (decide (((((x >>> i) &&& 1) : Nat) : Int) = 0))), (25, .slice (some ⟨b12, 0, none⟩) (m) (m)), (26, .int .i64 (((m : Nat) : Int))), (27, .int .i64 (((g.1 : Nat) : Int)))]) (fun g w_ => St [] w w_ [(b12, arrU .u8 m g.2, 5)] ∧ (g.1 ≤ m) ∧ (∀ j, j < g.1 → g.2 j = colR t x (i + 1) j) ∧ (∀ j, g.1 ≤ j → j < m → g.2 j = colR t x i j) ∧ (∀ z, g.2 z < 256)) (fun g => m - g.1) ?_ ?_
      · exact ⟨(0, d), (.cons rfl (.cons rfl (.cons rfl (.cons rfl (.cons rfl (.cons rfl (.cons rfl (.cons rfl (.cons rfl (.cons rfl (.cons rfl (.cons rfl (.cons rfl (.cons rfl (.cons rfl (.cons rfl (.cons rfl (.cons rfl (.cons rfl (.cons rfl (.nil _))))))))))))))))))))), st, (by first | omega | (dsimp only; omega)), (fun j hj => by omega), (fun j _ hj => hd j hj), hdb⟩
      clear st
      rintro ⟨k, d⟩ w8 ⟨st, hk, hlo, hhi, hdb⟩
      try dsimp only at st hk hlo hhi hdb ⊢
      refine Wc.seq ?_
      refine Wc.region rfl ?_
      refine Wl.pure (PR.lss (a := ((k : Nat) : Int)) (b := ((m : Nat) : Int)) rfl rfl) ?_
      refine Wl.nil ?_
      refine tn ?_
      refine Wc.seq ?_
      refine Wc.condD (p := ((k : Nat) : Int) < ((m : Nat) : Int)) rfl (fun h9 => ?_) (fun h9 => ?_)
      · refine Wc.skip ?_
        refine tn ?_
        refine Wc.seq ?_
        refine Wc.block ?_
        refine Wc.seq ?_
        refine Wc.region rfl ?_
        refine Wl.pure (PR.moveI rfl) ?_
        refine Wl.pure (PR.assI rfl) ?_
        refine Wl.nil ?_
        refine tn ?_
        refine Wc.quietTail 12 hmix (by kernel_rfl) rfl ?_
        refine Wq.pure (PR.moveL rfl) ?_
        refine Wq.pure (PR.moveI rfl) ?_
        refine Wq.pure (PR.idxAddrS1 (i := k) tS_67 rfl rfl (by omega)) ?_
        refine Wq.load (i := 0) st tA_5 rfl rfl (arrU_get0 (by omega)) ?_
        refine Wq.pure (PR.moveI rfl) ?_
        refine Wq.pure (PR.moveI rfl) ?_
        refine Wq.pure (PR.shr (a := t (i)) (n := k) rfl rfl (by decide) (ht (i))) ?_
        refine Wq.pure (PR.and (a := ((t (i)) >>> k)) (b := 1) rfl rfl (by decide) (shr_lt (ht (i))) (by decide)) ?_
        refine Wq.pure (PR.moveI rfl) ?_
        refine Wq.pure (PR.shl (a := (((t (i)) >>> k) &&& 1)) (n := i) rfl rfl (by decide)) ?_
        refine Wq.pure (PR.or (a := d (k)) (b := (((((t (i)) >>> k) &&& 1) <<< i) % 256)) rfl rfl (by decide) (hdb (k)) (Nat.mod_lt _ (by decide))) ?_
        refine Wq.pure (PR.idxAddrS1 (i := k) tS_67 rfl rfl (by omega)) ?_
        refine Wq.nil (fun w10 hbel => ?_)
        replace st := st.call hbel
        clear hbel
        refine Wl.store (i := 0) (cs' := arrU .u8 m (upd d (k) (((d (k)) ||| (((((t (i)) >>> k) &&& 1) <<< i) % 256))))) st tA_5 rfl rfl rfl rfl (lt_of_len (arrU_len _) (by omega)) (arrU_set0) ?_
        clear st
        intro w11 st
        replace st : St [] w w11 [(b12, arrU .u8 m (upd d (k) (((d (k)) ||| (((((t (i)) >>> k) &&& 1) <<< i) % 256)))), 5)] := st
        refine Wl.nil ?_
        refine bn ?_
        refine tn ?_
        refine Wc.region rfl ?_
        refine Wl.pure (PR.add (a := ((k : Nat) : Int)) (b := 1) rfl rfl (by simp only [fitI]; omega)) ?_
        refine Wl.pure (PR.moveI rfl) ?_
        refine Wl.nil ?_
        refine tn ?_
        exact ⟨(k + 1, upd d (k) (((d (k)) ||| (((((t (i)) >>> k) &&& 1) <<< i) % 256)))), (.cons rfl (.cons rfl (.cons rfl (.cons rfl (.cons rfl (.cons rfl (.cons rfl (.cons rfl (.cons rfl (.cons rfl (.cons rfl (.cons rfl (.cons rfl (.cons rfl (.cons rfl (.cons rfl (.cons rfl (.cons rfl (.cons rfl (.cons rfl (.nil _))))))))))))))))))))), ⟨st, (by first | omega | (dsimp only; omega)), (col_lo hlo hhi (by omega) (by omega)), (col_hi hhi), (upd_lt hdb (or_lt_u8 (hdb _) (Nat.mod_lt _ (by decide))))⟩, (by first | omega | (dsimp only; omega))⟩
      · refine Wc.exit ?_
        refine tx ?_
        refine tx ?_
        refine bh ?_
        refine bn ?_
        refine tn ?_
        refine Wc.region rfl ?_
        refine Wl.pure (PR.add (a := ((i : Nat) : Int)) (b := 1) rfl rfl (by simp only [fitI]; omega)) ?_
        refine Wl.pure (PR.moveI rfl) ?_
        refine Wl.nil ?_
        refine tn ?_
        exact ⟨(i + 1, d), (.cons rfl (.cons rfl (.cons rfl (.cons rfl (.cons rfl (.cons rfl (.nil _))))))), ⟨st, (by first | omega | (dsimp only; omega)), (by first | exact fun j hj => hlo j (by omega) | exact col_skip hd (by omega)), hdb⟩, (by first | omega | (dsimp only; omega))⟩
  · refine Wc.exit ?_
    refine tx ?_
    refine tx ?_
    refine bh ?_
    refine tn ?_
    refine Wc.seq ?_
    refine Wc.region rfl ?_
    refine Wl.pure (PR.moveL rfl) ?_
    refine Wl.pure (PR.assL rfl) ?_
    refine Wl.nil ?_
    refine tn ?_
    refine Wc.ret ?_
    refine postL.tmp rfl rfl ?_
    obtain rfl : i = r := by omega
    exact st.retS (i := 0) rfl (arrU_congr (fun j hj => hd j hj))

set_option maxHeartbeats 400000 in
set_option maxRecDepth 4000 in
theorem c_slices_Equal_uint8_uint8 {A : Option Addr} {n : Nat} {cp : Nat} {c : Nat → Nat} {B : Option Addr} {cq : Nat} {d : Nat → Nat} {w : World} (hR : RdS w A n (arrU .u8 n c)) (hQ : RdS w B n (arrU .u8 n d)) (hc : ∀ k, c k < 256) (hd : ∀ k, d k < 256) (hn : n ≤ 1000) :
    CE Try.prog 124 [.slice (A) (n) (cp), .slice (B) (n) (cq)] w (RetV w (.bool (eqR n c d))) := by
  refine CE.enter 26 [(0, .slice (A) (n) (cp)), (1, .slice (B) (n) (cq))] en_124 Try.func124 rfl rfl (Nat.le_of_ble_eq_true rfl) rfl ?_
  have st := St.start w
  refine Wc.seq ?_
  refine Wc.region rfl ?_
  refine Wl.pure (PR.assB rfl) ?_
  refine Wl.nil ?_
  refine tn ?_
  refine Wc.seq ?_
  refine Wc.seq ?_
  refine Wc.region rfl ?_
  refine Wl.pure (PR.moveL rfl) ?_
  refine Wl.pure (PR.lenL tS_67 rfl) ?_
  refine Wl.pure (PR.moveL rfl) ?_
  refine Wl.pure (PR.lenL tS_67 rfl) ?_
  refine Wl.pure (PR.neqS (a := ((n : Nat) : Int)) rfl rfl) ?_
  refine Wl.nil ?_
  refine tn ?_
  refine Wc.condF rfl ?_
  refine Wc.skip ?_
  refine tn ?_
  refine Wc.seq ?_
  refine Wc.seq ?_
  refine Wc.region rfl ?_
  refine Wl.pure (PR.moveL rfl) ?_
  refine Wl.pure (PR.lenL tS_67 rfl) ?_
  refine Wl.pure (PR.moveI rfl) ?_
  refine Wl.nil ?_
  refine tn ?_
  refine Wc.block ?_
  refine Wc.loopF (γ := Nat) (fun g => [(0, .slice (A) (n) (cp)), (1, .slice (B) (n) (cq)), (12, .int .i64 (((n : Nat) : Int))), (13, .int .i64 (((g : Nat) : Int)))]) (fun g w_ => St [] w w_ [] ∧ (g ≤ n) ∧ (∀ j, j < g → c j = d j)) (fun g => n - g) ?_ ?_
  · exact ⟨0, (.cons rfl (.cons rfl (.cons rfl (.cons rfl (.nil _))))), st, (by first | omega | (dsimp only; omega)), (fun j hj => by omega)⟩
  clear st
  rintro k w1 ⟨st, hk, hg⟩
  try dsimp only at st hk hg ⊢
  refine Wc.seq ?_
  refine Wc.region rfl ?_
  refine Wl.pure (PR.lss (a := ((k : Nat) : Int)) (b := ((n : Nat) : Int)) rfl rfl) ?_
  refine Wl.nil ?_
  refine tn ?_
  refine Wc.seq ?_
  refine Wc.condD (p := ((k : Nat) : Int) < ((n : Nat) : Int)) rfl (fun h2 => ?_) (fun h2 => ?_)
  · refine Wc.skip ?_
    refine tn ?_
    refine Wc.seq ?_
    refine Wc.block ?_
    refine Wc.seq ?_
    refine Wc.region rfl ?_
    refine Wl.pure (PR.moveI rfl) ?_
    refine Wl.pure (PR.assI rfl) ?_
    refine Wl.nil ?_
    refine tn ?_
    refine Wc.seq ?_
    refine Wc.quiet hmix (by kernel_rfl) rfl ?_
    refine Wq.pure (PR.moveL rfl) ?_
    refine Wq.pure (PR.moveI rfl) ?_
    obtain ⟨bs3, os4, rfl, hs5⟩ := hR (by omega)
    refine Wq.pure (PR.idxAddrS1 (i := k) tS_67 rfl rfl (by omega)) ?_
    refine Wq.loadC tA_5 rfl ((hs5.st st).at_ (arrU_get0 (by omega)) (Nat.add_assoc _ _ _).symm) ?_
    refine Wq.pure (PR.moveL rfl) ?_
    refine Wq.pure (PR.moveI rfl) ?_
    obtain ⟨bs6, os7, rfl, hs8⟩ := hQ (by omega)
    refine Wq.pure (PR.idxAddrS1 (i := k) tS_67 rfl rfl (by omega)) ?_
    refine Wq.loadC tA_5 rfl ((hs8.st st).at_ (arrU_get0 (by omega)) (Nat.add_assoc _ _ _).symm) ?_
    refine Wq.pure (PR.neq (a := ((c (k) : Nat) : Int)) (b := ((d (k) : Nat) : Int)) rfl rfl) ?_
    refine Wq.nil (fun w9 hbel => ?_)
    replace st := st.call hbel
    clear hbel
    refine tn ?_
    refine Wc.condN (p := ((c (k) : Nat) : Int) = ((d (k) : Nat) : Int)) rfl (fun h10 => ?_) (fun h10 => ?_)
    · refine Wc.seq ?_
      refine Wc.region rfl ?_
      refine Wl.pure (PR.assB rfl) ?_
      refine Wl.nil ?_
      refine tn ?_
      refine Wc.ret ?_
      refine br ?_
      refine tr ?_
      refine tr ?_
      refine br ?_
      refine tr ?_
      refine postL.tmp rfl rfl ?_
      refine RetV.of ?_ st.below
      refine congrArg Value.bool ?_
      exact eqR_f (k := k) (by omega) (by omega)
    · refine Wc.skip ?_
      refine bn ?_
      refine tn ?_
      refine Wc.region rfl ?_
      refine Wl.pure (PR.add (a := ((k : Nat) : Int)) (b := 1) rfl rfl (by simp only [fitI]; omega)) ?_
      refine Wl.pure (PR.moveI rfl) ?_
      refine Wl.nil ?_
      refine tn ?_
      exact ⟨k + 1, (.cons rfl (.cons rfl (.cons rfl (.cons rfl (.nil _))))), ⟨st, (by first | omega | (dsimp only; omega)), (all_snoc hg (by omega))⟩, (by first | omega | (dsimp only; omega))⟩
  · refine Wc.exit ?_
    refine tx ?_
    refine tx ?_
    refine bh ?_
    refine tn ?_
    refine Wc.seq ?_
    refine Wc.region rfl ?_
    refine Wl.pure (PR.assB rfl) ?_
    refine Wl.nil ?_
    refine tn ?_
    refine Wc.ret ?_
    refine postL.tmp rfl rfl ?_
    refine RetV.of ?_ st.below
    refine congrArg Value.bool ?_
    exact eqR_t (fun j hj => hg j (by omega))

set_option maxHeartbeats 400000 in
set_option maxRecDepth 4000 in
theorem c_impl_alikeCells_1 {x : Nat} {y : Nat} {w : World} (hx : x < 256) (hy : y < 256) :
    CE Try.prog 120 [.int .u8 (((x : Nat) : Int)), .int .u8 (((y : Nat) : Int))] w (RetXG w [] 5 1 (8) (arrU .u8 8 (srtF 8 (colR (fun z_ => [x, y].getD z_ 0) 3 2))) (fun b_ c_ => .slice (some ⟨b_, 0, none⟩) (8) (c_)) []) := by
  refine CE.enter 11 [(0, .int .u8 (((x : Nat) : Int))), (1, .int .u8 (((y : Nat) : Int)))] en_120 Try.func120 rfl rfl (Nat.le_of_ble_eq_true rfl) rfl ?_
  have st := St.start w
  refine Wc.seq ?_
  refine Wc.region rfl ?_
  refine Wl.pure (PR.assL rfl) ?_
  refine Wl.nil ?_
  refine tn ?_
  refine Wc.seq ?_
  refine Wc.region rfl ?_
  refine Wl.pure (PR.moveI rfl) ?_
  refine Wl.pure (PR.moveI rfl) ?_
  refine Wl.buildSlice (ps := [(0, .int .u8 (((x : Nat) : Int))), (1, .int .u8 (((y : Nat) : Int)))]) (cs := arrU .u8 2 (fun z_ => [x, y].getD z_ 0)) st tS_67 tZ_5 rfl rfl rfl ?_
  clear st
  intro b7 w1 st
  refine Wl.callS st (c_impl_columnsOf (A := some ⟨b7, 0, none⟩) (r := 2) (cp := 2) (t := (fun z_ => [x, y].getD z_ 0)) (m := 8) (x := 3) ((st.rdA (i := 0) (n := 2) rfl (all_sub (arrU_len _))).sl) (nat_lt2 hx hy) (by first | assumption | omega) (by decide) (by first | assumption | omega)) rfl ?_
  clear st
  intro b8 w2 st
  refine Wl.callXG [] st (c_slices_Values_uint8_uint8 (A := some ⟨b8, 0, none⟩) (n := 8) (cp := 8)) rfl rfl ?_
  clear st
  intro b9 c9 sp9 w3 hc9 hs9 st
  replace st : St [] w w3 [(b9, [.slice (some ⟨b8, 0, none⟩) (8) (8)] ++ sp9, 67), (b8, arrU .u8 8 (colR (fun z_ => [x, y].getD z_ 0) 3 2), 5), (b7, arrU .u8 2 (fun z_ => [x, y].getD z_ 0), 5)] := st
  refine Wl.callXG [] st (c_slices_Sorted_uint8 (b1 := b9) (o1 := 0) (A := some ⟨b8, 0, none⟩) (n := 8) (cp := 8) (c := (colR (fun z_ => [x, y].getD z_ 0) 3 2)) (st.rdA (i := 0) (n := 1) rfl (app_all rfl)) ((st.rdA (i := 1) (n := 8) rfl (all_sub (arrU_len _))).sl) (by first | assumption | omega) (colR_lt (fun z_ => [x, y].getD z_ 0) 3 2)) rfl rfl ?_
  clear st
  intro b10 c10 sp10 w4 hc10 hs10 st
  replace st : St [] w w4 [(b10, arrU .u8 8 (srtF 8 (colR (fun z_ => [x, y].getD z_ 0) 3 2)) ++ sp10, 5), (b9, [.slice (some ⟨b8, 0, none⟩) (8) (8)] ++ sp9, 67), (b8, arrU .u8 8 (colR (fun z_ => [x, y].getD z_ 0) 3 2), 5), (b7, arrU .u8 2 (fun z_ => [x, y].getD z_ 0), 5)] := st
  refine Wl.pure (PR.assL rfl) ?_
  refine Wl.nil ?_
  refine tn ?_
  refine Wc.ret ?_
  refine postL.tmp rfl rfl ?_
  replace st : St [] w w4 [(b10, arrU .u8 8 (srtF 8 (colR (fun z_ => [x, y].getD z_ 0) 3 2)) ++ sp10, 5)] := st.pick [0] (by decide) rfl
  exact ⟨b10, c10, sp10, hc10, hs10, rfl, st⟩

set_option maxHeartbeats 400000 in
set_option maxRecDepth 4000 in
theorem c_impl_alikeCells {x : Nat} {y : Nat} {u : Nat} {v : Nat} {w : World} (hx : x < 256) (hy : y < 256) (hu : u < 256) (hv : v < 256) :
    CE Try.prog 92 [.int .u8 (((x : Nat) : Int)), .int .u8 (((y : Nat) : Int)), .int .u8 (((u : Nat) : Int)), .int .u8 (((v : Nat) : Int))] w (RetV w (.bool (alk x y u v))) := by
  refine CE.enter 19 [(0, .int .u8 (((x : Nat) : Int))), (1, .int .u8 (((y : Nat) : Int))), (2, .int .u8 (((u : Nat) : Int))), (3, .int .u8 (((v : Nat) : Int)))] en_92 Try.func92 rfl rfl (Nat.le_of_ble_eq_true rfl) rfl ?_
  have st := St.start w
  refine Wc.seq ?_
  refine Wc.region rfl ?_
  refine Wl.pure (PR.assB rfl) ?_
  refine Wl.nil ?_
  refine tn ?_
  refine Wc.seq ?_
  refine Wc.region rfl ?_
  refine Wl.pure (PR.assF rfl) ?_
  refine Wl.nil ?_
  refine tn ?_
  refine Wc.seq ?_
  refine Wc.region rfl ?_
  refine Wl.pure (PR.moveF rfl) ?_
  refine Wl.pure (PR.moveI rfl) ?_
  refine Wl.pure (PR.moveI rfl) ?_
  refine Wl.callFXG (cap := []) (vs := [.int .u8 (((x : Nat) : Int)), .int .u8 (((y : Nat) : Int))]) [] st (c_impl_alikeCells_1 (x := x) (y := y) hx hy) rfl rfl rfl ?_
  clear st
  intro b13 c13 sp13 w1 hc13 hs13 st
  replace st : St [] w w1 [(b13, arrU .u8 8 (srtF 8 (colR (fun z_ => [x, y].getD z_ 0) 3 2)) ++ sp13, 5)] := st
  refine Wl.pure (PR.moveF rfl) ?_
  refine Wl.pure (PR.moveI rfl) ?_
  refine Wl.pure (PR.moveI rfl) ?_
  refine Wl.callFXG (cap := []) (vs := [.int .u8 (((u : Nat) : Int)), .int .u8 (((v : Nat) : Int))]) [] st (c_impl_alikeCells_1 (x := u) (y := v) hu hv) rfl rfl rfl ?_
  clear st
  intro b17 c17 sp17 w2 hc17 hs17 st
  replace st : St [] w w2 [(b17, arrU .u8 8 (srtF 8 (colR (fun z_ => [u, v].getD z_ 0) 3 2)) ++ sp17, 5), (b13, arrU .u8 8 (srtF 8 (colR (fun z_ => [x, y].getD z_ 0) 3 2)) ++ sp13, 5)] := st
  refine Wl.callV (c_slices_Equal_uint8_uint8 (A := some ⟨b13, 0, none⟩) (n := 8) (cp := c13) (c := (srtF 8 (colR (fun z_ => [x, y].getD z_ 0) 3 2))) (B := some ⟨b17, 0, none⟩) (cq := c17) (d := (srtF 8 (colR (fun z_ => [u, v].getD z_ 0) 3 2))) ((st.rdA (i := 1) (n := 8) rfl (app_all (arrU_len _))).sl) ((st.rdA (i := 0) (n := 8) rfl (app_all (arrU_len _))).sl) (srtF_lt (colR_lt _ _ _)) (srtF_lt (colR_lt _ _ _)) (by first | assumption | omega)) rfl ?_
  intro w3 hbel
  replace st := st.call hbel
  clear hbel
  refine Wl.pure (PR.assB rfl) ?_
  refine Wl.nil ?_
  refine tn ?_
  refine Wc.ret ?_
  refine postL.tmp rfl rfl ?_
  refine RetV.of ?_ st.below
  refine congrArg Value.bool ?_
  unfold alk; rfl

end Go.Proofs.Ytajkjhjnbfcpfaa
