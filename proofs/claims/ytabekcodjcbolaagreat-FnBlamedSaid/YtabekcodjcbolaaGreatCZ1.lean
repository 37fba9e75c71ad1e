/-
  Contracts of functions, printed by a program of ours.
-/
import Derived.Test.YtabekcodjcbolaaGreatCL1
import Derived.Test.YtabekcodjcbolaaGreatCR1
import Derived.Test.YtabekcodjcbolaaGreatShare
import Derived.Test.YtabekcodjcbolaaGreatFactsQ
import Derived.Test.YtabekcodjcbolaaGreatApp
namespace Go.Proofs.YtabekcodjcbolaaGreat
open Go.RowKit
set_option linter.unusedVariables false
set_option linter.unusedSimpArgs false

set_option maxHeartbeats 400000 in
set_option maxRecDepth 4000 in
theorem c_spec_l00Src_next {bs : Nat} {A : Option Addr} {n : Nat} {cp : Nat} {c : Nat → Nat} {t : Nat} {sd : Nat} {w : World} (hR : RdN w A n (arrU .u8 n c) bs) (hc : ∀ k, c k < 256) (ht : t ≤ 1000000) (hsd : sd < 18446744073709551616) (hst : St [bs] w w [(bs, [.slice (A) (n) (cp), .int .i64 (((t : Nat) : Int)), .int .u64 (((sd : Nat) : Int))], 86)]) :
    CE Tryz.prog 64 [.pointer (some ⟨bs, 0, none⟩)] w (RetXE (γ := Nat × Nat × Nat) w [bs] (fun g => (g.1 < 256) ∧ (g.2.1 ≤ t + 1 ∧ t ≤ g.2.1) ∧ (g.2.2 < 18446744073709551616)) (fun g => .int .i64 (((g.1 : Nat) : Int))) (fun g => [(bs, [.slice (A) (n) (cp), .int .i64 (((g.2.1 : Nat) : Int)), .int .u64 (((g.2.2 : Nat) : Int))], 86)])) := by
  refine CE.enter 62 [(0, .pointer (some ⟨bs, 0, none⟩))] en_64 Tryz.func64 rfl rfl (Nat.le_of_ble_eq_true rfl) rfl ?_
  have st := hst
  refine Wc.seq ?_
  refine Wc.region rfl ?_
  refine Wl.pure (PR.assI rfl) ?_
  refine Wl.nil ?_
  refine tn ?_
  refine Wc.seq ?_
  refine Wc.region rfl ?_
  refine Wl.pure (PR.assI rfl) ?_
  refine Wl.nil ?_
  refine tn ?_
  refine Wc.seq ?_
  refine Wc.seq ?_
  refine Wc.quiet hmix (by kernel_rfl) rfl ?_
  refine Wq.pure (PR.moveP rfl) ?_
  refine Wq.pure (PR.nil_ rfl) ?_
  refine Wq.pure (PR.fieldAddr tF_86_1 rfl) ?_
  refine Wq.load (i := 0) st tA_3 rfl rfl (rfl) ?_
  refine Wq.pure (PR.moveP rfl) ?_
  refine Wq.pure (PR.nil_ rfl) ?_
  refine Wq.pure (PR.fieldAddr tF_86_0 rfl) ?_
  refine Wq.load (i := 0) st tA_22 rfl rfl (rfl) ?_
  refine Wq.pure (PR.lenL tS_22 rfl) ?_
  refine Wq.pure (PR.lss (a := ((t : Nat) : Int)) (b := ((n : Nat) : Int)) rfl rfl) ?_
  refine Wq.nil (fun w1 hbel => ?_)
  replace st := st.call hbel
  clear hbel
  refine tn ?_
  refine Wc.condD (p := ((t : Nat) : Int) < ((n : Nat) : Int)) rfl (fun h2 => ?_) (fun h2 => ?_)
  · have hcb := hc t
    refine Wc.quiet hmix (by kernel_rfl) rfl ?_
    refine Wq.pure (PR.moveP rfl) ?_
    refine Wq.pure (PR.nil_ rfl) ?_
    refine Wq.pure (PR.fieldAddr tF_86_0 rfl) ?_
    refine Wq.load (i := 0) st tA_22 rfl rfl (rfl) ?_
    refine Wq.pure (PR.moveP rfl) ?_
    refine Wq.pure (PR.nil_ rfl) ?_
    refine Wq.pure (PR.fieldAddr tF_86_1 rfl) ?_
    refine Wq.load (i := 0) st tA_3 rfl rfl (rfl) ?_
    obtain ⟨bs3, os4, rfl, hs5⟩ := hR (by omega)
    refine Wq.pure (PR.idxAddrS1 (i := t) tS_22 rfl rfl (by omega)) ?_
    refine Wq.loadC tA_5 rfl ((hs5.st st).at_ (arrU_get0 (by omega)) (Nat.add_assoc _ _ _).symm) ?_
    refine Wq.pure (PR.conv (n := ((c (t) : Nat) : Int)) tI_3 rfl (fitN (hc (t)) rfl) Tryz.underlying5) ?_
    refine Wq.pure (PR.assI rfl) ?_
    refine Wq.nil (fun w6 hbel => ?_)
    replace st := st.call hbel
    clear hbel
    refine tn ?_
    refine Wc.seq ?_
    refine Wc.region rfl ?_
    refine Wl.pure (PR.moveP rfl) ?_
    refine Wl.pure (PR.nil_ rfl) ?_
    refine Wl.pure (PR.fieldAddr tF_86_1 rfl) ?_
    refine Wl.load (i := 0) st tA_3 rfl rfl (rfl) ?_
    refine Wl.pure (PR.add (a := ((t : Nat) : Int)) (b := 1) rfl rfl (by simp only [fitI]; omega)) ?_
    refine Wl.pure (PR.nil_ rfl) ?_
    refine Wl.pure (PR.fieldAddr tF_86_1 rfl) ?_
    refine Wl.store (i := 0) (cs' := [.slice (some ⟨bs3, os4, none⟩) (n) (cp), .int .i64 ((((t + 1) : Nat) : Int)), .int .u64 (((sd : Nat) : Int))]) st tA_3 rfl rfl rfl rfl (by simp) (rfl) ?_
    clear st
    intro w7 st
    replace st : St [bs] w w7 [(bs, [.slice (some ⟨bs3, os4, none⟩) (n) (cp), .int .i64 ((((t + 1) : Nat) : Int)), .int .u64 (((sd : Nat) : Int))], 86)] := st
    refine Wl.nil ?_
    refine tn ?_
    refine Wc.seq ?_
    refine Wc.region rfl ?_
    refine Wl.pure (PR.moveP rfl) ?_
    refine Wl.pure (PR.moveP rfl) ?_
    refine Wl.pure (PR.nil_ rfl) ?_
    refine Wl.pure (PR.fieldAddr tF_86_2 rfl) ?_
    refine Wl.load (i := 0) st tA_29 rfl rfl (rfl) ?_
    refine Wl.pure (PR.mulU (a := sd) (b := 6364136223846793005) rfl rfl (by decide)) ?_
    refine Wl.pure (PR.moveI rfl) ?_
    refine Wl.pure (PR.conv (n := ((c (t) : Nat) : Int)) tI_29 rfl (by have := hc t; simp only [fitI]; omega) Tryz.underlying3) ?_
    refine Wl.pure (PR.addU (a := ((sd * 6364136223846793005) % 18446744073709551616)) (b := c (t)) rfl rfl (by decide)) ?_
    refine Wl.pure (PR.addU (a := ((((sd * 6364136223846793005) % 18446744073709551616) + (c (t))) % 18446744073709551616)) (b := 1442695040888963407) rfl rfl (by decide)) ?_
    refine Wl.pure (PR.nil_ rfl) ?_
    refine Wl.pure (PR.fieldAddr tF_86_2 rfl) ?_
    refine Wl.store (i := 0) (cs' := [.slice (some ⟨bs3, os4, none⟩) (n) (cp), .int .i64 ((((t + 1) : Nat) : Int)), .int .u64 (((((((((sd * 6364136223846793005) % 18446744073709551616) + (c (t))) % 18446744073709551616) + 1442695040888963407) % 18446744073709551616) : Nat) : Int))]) st tA_29 rfl rfl rfl rfl (by simp) (rfl) ?_
    clear st
    intro w8 st
    replace st : St [bs] w w8 [(bs, [.slice (some ⟨bs3, os4, none⟩) (n) (cp), .int .i64 ((((t + 1) : Nat) : Int)), .int .u64 (((((((((sd * 6364136223846793005) % 18446744073709551616) + (c (t))) % 18446744073709551616) + 1442695040888963407) % 18446744073709551616) : Nat) : Int))], 86)] := st
    refine Wl.nil ?_
    refine tn ?_
    refine Wc.seq ?_
    refine Wc.seq ?_
    refine Wc.quiet hmix (by kernel_rfl) rfl ?_
    refine Wq.pure (PR.moveP rfl) ?_
    refine Wq.pure (PR.nil_ rfl) ?_
    refine Wq.pure (PR.fieldAddr tF_86_1 rfl) ?_
    refine Wq.load (i := 0) st tA_3 rfl rfl (rfl) ?_
    refine Wq.pure (PR.moveP rfl) ?_
    refine Wq.pure (PR.nil_ rfl) ?_
    refine Wq.pure (PR.fieldAddr tF_86_0 rfl) ?_
    refine Wq.load (i := 0) st tA_22 rfl rfl (rfl) ?_
    refine Wq.pure (PR.lenL tS_22 rfl) ?_
    refine Wq.pure (PR.leq (a := (((t + 1) : Nat) : Int)) (b := ((n : Nat) : Int)) rfl rfl) ?_
    refine Wq.nil (fun w9 hbel => ?_)
    replace st := st.call hbel
    clear hbel
    refine tn ?_
    refine Wc.condD (p := (((t + 1) : Nat) : Int) ≤ ((n : Nat) : Int)) rfl (fun h10 => ?_) (fun h10 => ?_)
    · refine Wc.seq ?_
      refine Wc.region rfl ?_
      refine Wl.pure (PR.moveI rfl) ?_
      refine Wl.pure (PR.assI rfl) ?_
      refine Wl.nil ?_
      refine tn ?_
      refine Wc.ret ?_
      refine tr ?_
      refine postL.tmp rfl rfl ?_
      exact ⟨(c (t), (t + 1), ((((((sd * 6364136223846793005) % 18446744073709551616) + (c (t))) % 18446744073709551616) + 1442695040888963407) % 18446744073709551616)), ⟨(by dsimp only; first | decide | assumption | exact hc _ | exact Nat.lt_succ_of_le Nat.and_le_right), (by dsimp only; omega), (by dsimp only; first | exact Nat.mod_lt _ (by decide) | assumption)⟩, rfl, st⟩
    · refine Wc.skip ?_
      refine tn ?_
      refine Wc.seq ?_
      refine Wc.region rfl ?_
      refine Wl.pure (PR.moveP rfl) ?_
      refine Wl.pure (PR.nil_ rfl) ?_
      refine Wl.pure (PR.fieldAddr tF_86_2 rfl) ?_
      refine Wl.load (i := 0) st tA_29 rfl rfl (rfl) ?_
      refine Wl.pure (PR.shr (a := ((((((sd * 6364136223846793005) % 18446744073709551616) + (c (t))) % 18446744073709551616) + 1442695040888963407) % 18446744073709551616)) (n := 40) rfl rfl (by decide) (Nat.mod_lt _ (by decide))) ?_
      refine Wl.pure (PR.and (a := (((((((sd * 6364136223846793005) % 18446744073709551616) + (c (t))) % 18446744073709551616) + 1442695040888963407) % 18446744073709551616) >>> 40)) (b := 255) rfl rfl (by decide) (shr_lt (Nat.mod_lt _ (by decide))) (by decide)) ?_
      refine Wl.pure (PR.conv (n := ((((((((((sd * 6364136223846793005) % 18446744073709551616) + (c (t))) % 18446744073709551616) + 1442695040888963407) % 18446744073709551616) >>> 40) &&& 255) : Nat) : Int)) tI_2 rfl (fit255 Nat.and_le_right) Tryz.underlying29) ?_
      refine Wl.pure (PR.assI rfl) ?_
      refine Wl.nil ?_
      refine tn ?_
      refine Wc.ret ?_
      refine postL.tmp rfl rfl ?_
      exact ⟨(((((((((sd * 6364136223846793005) % 18446744073709551616) + (c (t))) % 18446744073709551616) + 1442695040888963407) % 18446744073709551616) >>> 40) &&& 255), (t + 1), ((((((sd * 6364136223846793005) % 18446744073709551616) + (c (t))) % 18446744073709551616) + 1442695040888963407) % 18446744073709551616)), ⟨(by dsimp only; first | decide | assumption | exact hc _ | exact Nat.lt_succ_of_le Nat.and_le_right), (by dsimp only; omega), (by dsimp only; first | exact Nat.mod_lt _ (by decide) | assumption)⟩, rfl, st⟩
  · refine Wc.skip ?_
    refine tn ?_
    refine Wc.seq ?_
    refine Wc.region rfl ?_
    refine Wl.pure (PR.moveP rfl) ?_
    refine Wl.pure (PR.nil_ rfl) ?_
    refine Wl.pure (PR.fieldAddr tF_86_1 rfl) ?_
    refine Wl.load (i := 0) st tA_3 rfl rfl (rfl) ?_
    refine Wl.pure (PR.add (a := ((t : Nat) : Int)) (b := 1) rfl rfl (by simp only [fitI]; omega)) ?_
    refine Wl.pure (PR.nil_ rfl) ?_
    refine Wl.pure (PR.fieldAddr tF_86_1 rfl) ?_
    refine Wl.store (i := 0) (cs' := [.slice (A) (n) (cp), .int .i64 ((((t + 1) : Nat) : Int)), .int .u64 (((sd : Nat) : Int))]) st tA_3 rfl rfl rfl rfl (by simp) (rfl) ?_
    clear st
    intro w11 st
    replace st : St [bs] w w11 [(bs, [.slice (A) (n) (cp), .int .i64 ((((t + 1) : Nat) : Int)), .int .u64 (((sd : Nat) : Int))], 86)] := st
    refine Wl.nil ?_
    refine tn ?_
    refine Wc.seq ?_
    refine Wc.region rfl ?_
    refine Wl.pure (PR.moveP rfl) ?_
    refine Wl.pure (PR.moveP rfl) ?_
    refine Wl.pure (PR.nil_ rfl) ?_
    refine Wl.pure (PR.fieldAddr tF_86_2 rfl) ?_
    refine Wl.load (i := 0) st tA_29 rfl rfl (rfl) ?_
    refine Wl.pure (PR.mulU (a := sd) (b := 6364136223846793005) rfl rfl (by decide)) ?_
    refine Wl.pure (PR.moveI rfl) ?_
    refine Wl.pure (PR.conv (n := 0) tI_29 rfl (by have := hc t; simp only [fitI]; omega) Tryz.underlying3) ?_
    refine Wl.pure (PR.addU (a := ((sd * 6364136223846793005) % 18446744073709551616)) (b := 0) rfl rfl (by decide)) ?_
    refine Wl.pure (PR.addU (a := ((((sd * 6364136223846793005) % 18446744073709551616) + 0) % 18446744073709551616)) (b := 1442695040888963407) rfl rfl (by decide)) ?_
    refine Wl.pure (PR.nil_ rfl) ?_
    refine Wl.pure (PR.fieldAddr tF_86_2 rfl) ?_
    refine Wl.store (i := 0) (cs' := [.slice (A) (n) (cp), .int .i64 ((((t + 1) : Nat) : Int)), .int .u64 (((((((((sd * 6364136223846793005) % 18446744073709551616) + 0) % 18446744073709551616) + 1442695040888963407) % 18446744073709551616) : Nat) : Int))]) st tA_29 rfl rfl rfl rfl (by simp) (rfl) ?_
    clear st
    intro w12 st
    replace st : St [bs] w w12 [(bs, [.slice (A) (n) (cp), .int .i64 ((((t + 1) : Nat) : Int)), .int .u64 (((((((((sd * 6364136223846793005) % 18446744073709551616) + 0) % 18446744073709551616) + 1442695040888963407) % 18446744073709551616) : Nat) : Int))], 86)] := st
    refine Wl.nil ?_
    refine tn ?_
    refine Wc.seq ?_
    refine Wc.seq ?_
    refine Wc.quiet hmix (by kernel_rfl) rfl ?_
    refine Wq.pure (PR.moveP rfl) ?_
    refine Wq.pure (PR.nil_ rfl) ?_
    refine Wq.pure (PR.fieldAddr tF_86_1 rfl) ?_
    refine Wq.load (i := 0) st tA_3 rfl rfl (rfl) ?_
    refine Wq.pure (PR.moveP rfl) ?_
    refine Wq.pure (PR.nil_ rfl) ?_
    refine Wq.pure (PR.fieldAddr tF_86_0 rfl) ?_
    refine Wq.load (i := 0) st tA_22 rfl rfl (rfl) ?_
    refine Wq.pure (PR.lenL tS_22 rfl) ?_
    refine Wq.pure (PR.leq (a := (((t + 1) : Nat) : Int)) (b := ((n : Nat) : Int)) rfl rfl) ?_
    refine Wq.nil (fun w13 hbel => ?_)
    replace st := st.call hbel
    clear hbel
    refine tn ?_
    refine Wc.condD (p := (((t + 1) : Nat) : Int) ≤ ((n : Nat) : Int)) rfl (fun h14 => ?_) (fun h14 => ?_)
    · refine Wc.seq ?_
      refine Wc.region rfl ?_
      refine Wl.pure (PR.moveI rfl) ?_
      refine Wl.pure (PR.assI rfl) ?_
      refine Wl.nil ?_
      refine tn ?_
      refine Wc.ret ?_
      refine tr ?_
      refine postL.tmp rfl rfl ?_
      exact ⟨(0, (t + 1), ((((((sd * 6364136223846793005) % 18446744073709551616) + 0) % 18446744073709551616) + 1442695040888963407) % 18446744073709551616)), ⟨(by dsimp only; first | decide | assumption | exact hc _ | exact Nat.lt_succ_of_le Nat.and_le_right), (by dsimp only; omega), (by dsimp only; first | exact Nat.mod_lt _ (by decide) | assumption)⟩, rfl, st⟩
    · refine Wc.skip ?_
      refine tn ?_
      refine Wc.seq ?_
      refine Wc.region rfl ?_
      refine Wl.pure (PR.moveP rfl) ?_
      refine Wl.pure (PR.nil_ rfl) ?_
      refine Wl.pure (PR.fieldAddr tF_86_2 rfl) ?_
      refine Wl.load (i := 0) st tA_29 rfl rfl (rfl) ?_
      refine Wl.pure (PR.shr (a := ((((((sd * 6364136223846793005) % 18446744073709551616) + 0) % 18446744073709551616) + 1442695040888963407) % 18446744073709551616)) (n := 40) rfl rfl (by decide) (Nat.mod_lt _ (by decide))) ?_
      refine Wl.pure (PR.and (a := (((((((sd * 6364136223846793005) % 18446744073709551616) + 0) % 18446744073709551616) + 1442695040888963407) % 18446744073709551616) >>> 40)) (b := 255) rfl rfl (by decide) (shr_lt (Nat.mod_lt _ (by decide))) (by decide)) ?_
      refine Wl.pure (PR.conv (n := ((((((((((sd * 6364136223846793005) % 18446744073709551616) + 0) % 18446744073709551616) + 1442695040888963407) % 18446744073709551616) >>> 40) &&& 255) : Nat) : Int)) tI_2 rfl (fit255 Nat.and_le_right) Tryz.underlying29) ?_
      refine Wl.pure (PR.assI rfl) ?_
      refine Wl.nil ?_
      refine tn ?_
      refine Wc.ret ?_
      refine postL.tmp rfl rfl ?_
      exact ⟨(((((((((sd * 6364136223846793005) % 18446744073709551616) + 0) % 18446744073709551616) + 1442695040888963407) % 18446744073709551616) >>> 40) &&& 255), (t + 1), ((((((sd * 6364136223846793005) % 18446744073709551616) + 0) % 18446744073709551616) + 1442695040888963407) % 18446744073709551616)), ⟨(by dsimp only; first | decide | assumption | exact hc _ | exact Nat.lt_succ_of_le Nat.and_le_right), (by dsimp only; omega), (by dsimp only; first | exact Nat.mod_lt _ (by decide) | assumption)⟩, rfl, st⟩

set_option maxHeartbeats 400000 in
set_option maxRecDepth 4000 in
theorem c_spec_l00Src_pick {bs : Nat} {A : Option Addr} {n : Nat} {cp : Nat} {c : Nat → Nat} {t : Nat} {sd : Nat} {m : Nat} {w : World} (hR : RdN w A n (arrU .u8 n c) bs) (hc : ∀ k, c k < 256) (ht : t ≤ 990000) (hsd : sd < 18446744073709551616) (hm : m ≤ 4294967296) (hst : St [bs] w w [(bs, [.slice (A) (n) (cp), .int .i64 (((t : Nat) : Int)), .int .u64 (((sd : Nat) : Int))], 86)]) :
    CE Tryz.prog 34 [.pointer (some ⟨bs, 0, none⟩), .int .i64 (((m : Nat) : Int))] w (RetXE (γ := Nat × Nat × Nat) w [bs] (fun g => (g.1 < m ∨ (g.1 = 0 ∧ m ≤ 1)) ∧ (g.2.1 ≤ t + 2 ∧ t ≤ g.2.1) ∧ (g.2.2 < 18446744073709551616)) (fun g => .int .i64 (((g.1 : Nat) : Int))) (fun g => [(bs, [.slice (A) (n) (cp), .int .i64 (((g.2.1 : Nat) : Int)), .int .u64 (((g.2.2 : Nat) : Int))], 86)])) := by
  refine CE.enter 20 [(0, .pointer (some ⟨bs, 0, none⟩)), (1, .int .i64 (((m : Nat) : Int)))] en_34 Tryz.func34 rfl rfl (Nat.le_of_ble_eq_true rfl) rfl ?_
  have st := hst
  refine Wc.seq ?_
  refine Wc.region rfl ?_
  refine Wl.pure (PR.assI rfl) ?_
  refine Wl.nil ?_
  refine tn ?_
  refine Wc.seq ?_
  refine Wc.seq ?_
  refine Wc.region rfl ?_
  refine Wl.pure (PR.moveI rfl) ?_
  refine Wl.pure (PR.leq (a := ((m : Nat) : Int)) (b := 1) rfl rfl) ?_
  refine Wl.nil ?_
  refine tn ?_
  refine Wc.condD (p := ((m : Nat) : Int) ≤ 1) rfl (fun h1 => ?_) (fun h1 => ?_)
  · refine Wc.seq ?_
    refine Wc.region rfl ?_
    refine Wl.pure (PR.assI rfl) ?_
    refine Wl.nil ?_
    refine tn ?_
    refine Wc.ret ?_
    refine tr ?_
    refine postL.tmp rfl rfl ?_
    exact ⟨(0, t, sd), ⟨(by dsimp only; first | omega | exact pk_lt (by omega)), (by dsimp only; omega), (by dsimp only; first | exact Nat.mod_lt _ (by decide) | assumption)⟩, rfl, st⟩
  · refine Wc.skip ?_
    refine tn ?_
    refine Wc.seq ?_
    refine Wc.region rfl ?_
    refine Wl.pure (PR.moveP rfl) ?_
    refine Wl.callXE [0] st (c_spec_l00Src_next (bs := bs) (A := A) (n := n) (cp := cp) (c := c) (t := t) (sd := sd) (hR.st st) hc (by first | assumption | omega) hsd (st.lend (L' := [(bs, [.slice (A) (n) (cp), .int .i64 (((t : Nat) : Int)), .int .u64 (((sd : Nat) : Int))], 86)]) [0] (by decide) rfl)) rfl rfl ?_
    clear st
    rintro ⟨v__3, t__4, e__5⟩ ⟨hx_6, hx_7, hx_8⟩ w2 st
    try dsimp only at st hx_6 hx_7 hx_8
    replace st : St [bs] w w2 [(bs, [.slice (A) (n) (cp), .int .i64 (((t__4 : Nat) : Int)), .int .u64 (((e__5 : Nat) : Int))], 86)] := st
    refine Wl.pure (PR.assI rfl) ?_
    refine Wl.nil ?_
    refine tn ?_
    refine Wc.seq ?_
    refine Wc.seq ?_
    refine Wc.region rfl ?_
    refine Wl.pure (PR.moveI rfl) ?_
    refine Wl.pure (PR.gtr (a := ((m : Nat) : Int)) (b := 200) rfl rfl) ?_
    refine Wl.nil ?_
    refine tn ?_
    refine Wc.condD (p := 200 < ((m : Nat) : Int)) rfl (fun h9 => ?_) (fun h9 => ?_)
    · refine Wc.region rfl ?_
      refine Wl.pure (PR.moveI rfl) ?_
      refine Wl.pure (PR.mul (a := ((v__3 : Nat) : Int)) (b := 256) rfl rfl (by simp only [fitI]; omega)) ?_
      refine Wl.pure (PR.moveP rfl) ?_
      refine Wl.callXE [0] st (c_spec_l00Src_next (bs := bs) (A := A) (n := n) (cp := cp) (c := c) (t := t__4) (sd := e__5) (hR.st st) hc (by first | assumption | omega) (by first | assumption | omega) (st.lend (L' := [(bs, [.slice (A) (n) (cp), .int .i64 (((t__4 : Nat) : Int)), .int .u64 (((e__5 : Nat) : Int))], 86)]) [0] (by decide) rfl)) rfl rfl ?_
      clear st
      rintro ⟨v__11, t__12, e__13⟩ ⟨hx_14, hx_15, hx_16⟩ w10 st
      try dsimp only at st hx_14 hx_15 hx_16
      replace st : St [bs] w w10 [(bs, [.slice (A) (n) (cp), .int .i64 (((t__12 : Nat) : Int)), .int .u64 (((e__13 : Nat) : Int))], 86)] := st
      refine Wl.pure (PR.add (a := (((v__3 * 256) : Nat) : Int)) (b := ((v__11 : Nat) : Int)) rfl rfl (by simp only [fitI]; omega)) ?_
      refine Wl.pure (PR.assI rfl) ?_
      refine Wl.nil ?_
      refine tn ?_
      refine Wc.seq ?_
      refine Wc.region rfl ?_
      refine Wl.pure (PR.moveI rfl) ?_
      refine Wl.pure (PR.moveI rfl) ?_
      refine Wl.pure (PR.rem (a := ((((v__3 * 256) + v__11) : Nat) : Int)) (b := ((m : Nat) : Int)) rfl rfl (by omega) (by omega)) ?_
      refine Wl.pure (PR.assI rfl) ?_
      refine Wl.nil ?_
      refine tn ?_
      refine Wc.ret ?_
      refine postL.tmp rfl rfl ?_
      exact ⟨((((v__3 * 256) + v__11) % m), t__12, e__13), ⟨(by dsimp only; first | omega | exact pk_lt (by omega)), (by dsimp only; omega), (by dsimp only; first | exact Nat.mod_lt _ (by decide) | assumption)⟩, rfl, st⟩
    · refine Wc.skip ?_
      refine tn ?_
      refine Wc.seq ?_
      refine Wc.region rfl ?_
      refine Wl.pure (PR.moveI rfl) ?_
      refine Wl.pure (PR.moveI rfl) ?_
      refine Wl.pure (PR.rem (a := ((v__3 : Nat) : Int)) (b := ((m : Nat) : Int)) rfl rfl (by omega) (by omega)) ?_
      refine Wl.pure (PR.assI rfl) ?_
      refine Wl.nil ?_
      refine tn ?_
      refine Wc.ret ?_
      refine postL.tmp rfl rfl ?_
      exact ⟨((v__3 % m), t__4, e__5), ⟨(by dsimp only; first | omega | exact pk_lt (by omega)), (by dsimp only; omega), (by dsimp only; first | exact Nat.mod_lt _ (by decide) | assumption)⟩, rfl, st⟩

set_option maxHeartbeats 400000 in
set_option maxRecDepth 4000 in
theorem c_spec_l01Pictured {bs : Nat} {A : Option Addr} {n : Nat} {cp : Nat} {c : Nat → Nat} {t : Nat} {sd : Nat} {w : World} (hR : RdN w A n (arrU .u8 n c) bs) (hc : ∀ k, c k < 256) (ht : t ≤ 980000) (hsd : sd < 18446744073709551616) (hst : St [bs] w w [(bs, [.slice (A) (n) (cp), .int .i64 (((t : Nat) : Int)), .int .u64 (((sd : Nat) : Int))], 86)]) :
    CE Tryz.prog 27 [.pointer (some ⟨bs, 0, none⟩)] w (RetXE (γ := Nat × Nat × Nat) w [bs] (fun g => (g.1 < 18446744073709551616) ∧ (g.2.1 ≤ t + 6 ∧ t ≤ g.2.1) ∧ (g.2.2 < 18446744073709551616)) (fun g => .int .u64 (((g.1 : Nat) : Int))) (fun g => [(bs, [.slice (A) (n) (cp), .int .i64 (((g.2.1 : Nat) : Int)), .int .u64 (((g.2.2 : Nat) : Int))], 86)])) := by
  refine CE.enter 27 [(0, .pointer (some ⟨bs, 0, none⟩))] en_27 Tryz.func27 rfl rfl (Nat.le_of_ble_eq_true rfl) rfl ?_
  have st := hst
  refine Wc.seq ?_
  refine Wc.region rfl ?_
  refine Wl.pure (PR.assI rfl) ?_
  refine Wl.nil ?_
  refine tn ?_
  refine Wc.seq ?_
  refine Wc.seq ?_
  refine Wc.region rfl ?_
  refine Wl.pure (PR.moveP rfl) ?_
  refine Wl.callXE [0] st (c_spec_l00Src_pick (bs := bs) (A := A) (n := n) (cp := cp) (c := c) (t := t) (sd := sd) (m := 8) (hR.st st) hc (by first | assumption | omega) hsd (by first | assumption | omega) (st.lend (L' := [(bs, [.slice (A) (n) (cp), .int .i64 (((t : Nat) : Int)), .int .u64 (((sd : Nat) : Int))], 86)]) [0] (by decide) rfl)) rfl rfl ?_
  clear st
  rintro ⟨v__2, t__3, e__4⟩ ⟨hx_5, hx_6, hx_7⟩ w1 st
  try dsimp only at st hx_5 hx_6 hx_7
  replace st : St [bs] w w1 [(bs, [.slice (A) (n) (cp), .int .i64 (((t__3 : Nat) : Int)), .int .u64 (((e__4 : Nat) : Int))], 86)] := st
  refine Wl.nil ?_
  refine tn ?_
  refine Wc.block ?_
  refine Wc.seq ?_
  refine Wc.region rfl ?_
  refine Wl.pure (PR.eql (a := ((v__2 : Nat) : Int)) (b := 0) rfl rfl) ?_
  refine Wl.pure (PR.assB rfl) ?_
  refine Wl.nil ?_
  refine tn ?_
  refine Wc.condD (p := ((v__2 : Nat) : Int) = 0) rfl (fun h8 => ?_) (fun h8 => ?_)
  · refine Wc.seq ?_
    refine Wc.region rfl ?_
    refine Wl.pure (PR.assI rfl) ?_
    refine Wl.nil ?_
    refine tn ?_
    refine Wc.ret ?_
    refine br ?_
    refine tr ?_
    refine postL.tmp rfl rfl ?_
    exact ⟨(0, t__3, e__4), ⟨(by dsimp only; first | decide | exact Nat.mod_lt _ (by decide) | exact or_lt_u64 (Nat.mod_lt _ (by decide)) (by omega)), (by dsimp only; omega), (by dsimp only; first | exact Nat.mod_lt _ (by decide) | assumption)⟩, rfl, st⟩
  · refine Wc.seq ?_
    refine Wc.region rfl ?_
    refine Wl.pure (PR.eql (a := ((v__2 : Nat) : Int)) (b := 1) rfl rfl) ?_
    refine Wl.pure (PR.assB rfl) ?_
    refine Wl.nil ?_
    refine tn ?_
    refine Wc.condD (p := ((v__2 : Nat) : Int) = 1) rfl (fun h9 => ?_) (fun h9 => ?_)
    · refine Wc.seq ?_
      refine Wc.region rfl ?_
      refine Wl.pure (PR.assI rfl) ?_
      refine Wl.nil ?_
      refine tn ?_
      refine Wc.ret ?_
      refine br ?_
      refine tr ?_
      refine postL.tmp rfl rfl ?_
      exact ⟨(18446744073709551615, t__3, e__4), ⟨(by dsimp only; first | decide | exact Nat.mod_lt _ (by decide) | exact or_lt_u64 (Nat.mod_lt _ (by decide)) (by omega)), (by dsimp only; omega), (by dsimp only; first | exact Nat.mod_lt _ (by decide) | assumption)⟩, rfl, st⟩
    · refine Wc.seq ?_
      refine Wc.region rfl ?_
      refine Wl.pure (PR.eql (a := ((v__2 : Nat) : Int)) (b := 2) rfl rfl) ?_
      refine Wl.pure (PR.assB rfl) ?_
      refine Wl.nil ?_
      refine tn ?_
      refine Wc.condD (p := ((v__2 : Nat) : Int) = 2) rfl (fun h10 => ?_) (fun h10 => ?_)
      · refine Wc.seq ?_
        refine Wc.region rfl ?_
        refine Wl.pure (PR.moveP rfl) ?_
        refine Wl.callXE [0] st (c_spec_l00Src_pick (bs := bs) (A := A) (n := n) (cp := cp) (c := c) (t := t__3) (sd := e__4) (m := 64) (hR.st st) hc (by first | assumption | omega) (by first | assumption | omega) (by first | assumption | omega) (st.lend (L' := [(bs, [.slice (A) (n) (cp), .int .i64 (((t__3 : Nat) : Int)), .int .u64 (((e__4 : Nat) : Int))], 86)]) [0] (by decide) rfl)) rfl rfl ?_
        clear st
        rintro ⟨v__12, t__13, e__14⟩ ⟨hx_15, hx_16, hx_17⟩ w11 st
        try dsimp only at st hx_15 hx_16 hx_17
        replace st : St [bs] w w11 [(bs, [.slice (A) (n) (cp), .int .i64 (((t__13 : Nat) : Int)), .int .u64 (((e__14 : Nat) : Int))], 86)] := st
        refine Wl.pure (PR.conv (n := ((v__12 : Nat) : Int)) tI_51 rfl (by simp only [fitI]; omega) Tryz.underlying2) ?_
        refine Wl.pure (PR.shl (a := 1) (n := v__12) rfl rfl (by decide)) ?_
        refine Wl.pure (PR.assI rfl) ?_
        refine Wl.nil ?_
        refine tn ?_
        refine Wc.ret ?_
        refine br ?_
        refine tr ?_
        refine postL.tmp rfl rfl ?_
        exact ⟨(((1 <<< v__12) % 18446744073709551616), t__13, e__14), ⟨(by dsimp only; first | decide | exact Nat.mod_lt _ (by decide) | exact or_lt_u64 (Nat.mod_lt _ (by decide)) (by omega)), (by dsimp only; omega), (by dsimp only; first | exact Nat.mod_lt _ (by decide) | assumption)⟩, rfl, st⟩
      · refine Wc.skip ?_
        refine bn ?_
        refine tn ?_
        refine Wc.seq ?_
        refine Wc.region rfl ?_
        refine Wl.pure (PR.moveP rfl) ?_
        refine Wl.callXE [0] st (c_spec_l00Src_pick (bs := bs) (A := A) (n := n) (cp := cp) (c := c) (t := t__3) (sd := e__4) (m := 1073741824) (hR.st st) hc (by first | assumption | omega) (by first | assumption | omega) (by first | assumption | omega) (st.lend (L' := [(bs, [.slice (A) (n) (cp), .int .i64 (((t__3 : Nat) : Int)), .int .u64 (((e__4 : Nat) : Int))], 86)]) [0] (by decide) rfl)) rfl rfl ?_
        clear st
        rintro ⟨v__19, t__20, e__21⟩ ⟨hx_22, hx_23, hx_24⟩ w18 st
        try dsimp only at st hx_22 hx_23 hx_24
        replace st : St [bs] w w18 [(bs, [.slice (A) (n) (cp), .int .i64 (((t__20 : Nat) : Int)), .int .u64 (((e__21 : Nat) : Int))], 86)] := st
        refine Wl.pure (PR.conv (n := ((v__19 : Nat) : Int)) tI_30 rfl (by simp only [fitI]; omega) Tryz.underlying2) ?_
        refine Wl.pure (PR.assI rfl) ?_
        refine Wl.nil ?_
        refine tn ?_
        refine Wc.seq ?_
        refine Wc.region rfl ?_
        refine Wl.pure (PR.moveP rfl) ?_
        refine Wl.callXE [0] st (c_spec_l00Src_pick (bs := bs) (A := A) (n := n) (cp := cp) (c := c) (t := t__20) (sd := e__21) (m := 1073741824) (hR.st st) hc (by first | assumption | omega) (by first | assumption | omega) (by first | assumption | omega) (st.lend (L' := [(bs, [.slice (A) (n) (cp), .int .i64 (((t__20 : Nat) : Int)), .int .u64 (((e__21 : Nat) : Int))], 86)]) [0] (by decide) rfl)) rfl rfl ?_
        clear st
        rintro ⟨v__26, t__27, e__28⟩ ⟨hx_29, hx_30, hx_31⟩ w25 st
        try dsimp only at st hx_29 hx_30 hx_31
        replace st : St [bs] w w25 [(bs, [.slice (A) (n) (cp), .int .i64 (((t__27 : Nat) : Int)), .int .u64 (((e__28 : Nat) : Int))], 86)] := st
        refine Wl.pure (PR.conv (n := ((v__26 : Nat) : Int)) tI_30 rfl (by simp only [fitI]; omega) Tryz.underlying2) ?_
        refine Wl.pure (PR.assI rfl) ?_
        refine Wl.nil ?_
        refine tn ?_
        refine Wc.seq ?_
        refine Wc.region rfl ?_
        refine Wl.pure (PR.moveI rfl) ?_
        refine Wl.pure (PR.shl (a := v__19) (n := 34) rfl rfl (by decide)) ?_
        refine Wl.pure (PR.moveI rfl) ?_
        refine Wl.pure (PR.or (a := ((v__19 <<< 34) % 18446744073709551616)) (b := v__26) rfl rfl (by decide) (Nat.mod_lt _ (by decide)) (show _ < 18446744073709551616 by omega)) ?_
        refine Wl.pure (PR.assI rfl) ?_
        refine Wl.nil ?_
        refine tn ?_
        refine Wc.ret ?_
        refine postL.tmp rfl rfl ?_
        exact ⟨((((v__19 <<< 34) % 18446744073709551616) ||| v__26), t__27, e__28), ⟨(by dsimp only; first | decide | exact Nat.mod_lt _ (by decide) | exact or_lt_u64 (Nat.mod_lt _ (by decide)) (by omega)), (by dsimp only; omega), (by dsimp only; first | exact Nat.mod_lt _ (by decide) | assumption)⟩, rfl, st⟩

set_option maxHeartbeats 400000 in
set_option maxRecDepth 4000 in
theorem c_spec_l03Seed {bs : Nat} {A : Option Addr} {n : Nat} {cp : Nat} {c : Nat → Nat} {t : Nat} {sd : Nat} {w : World} (hR : RdN w A n (arrU .u8 n c) bs) (hc : ∀ k, c k < 256) (ht : t ≤ 980000) (hsd : sd < 18446744073709551616) (hst : St [bs] w w [(bs, [.slice (A) (n) (cp), .int .i64 (((t : Nat) : Int)), .int .u64 (((sd : Nat) : Int))], 86)]) :
    CE Tryz.prog 30 [.pointer (some ⟨bs, 0, none⟩)] w (RetXE (γ := Nat × Nat × Nat) w [bs] (fun g => (g.1 < 4294967296) ∧ (g.2.1 ≤ t + 2 ∧ t ≤ g.2.1) ∧ (g.2.2 < 18446744073709551616)) (fun g => .int .u32 (((g.1 : Nat) : Int))) (fun g => [(bs, [.slice (A) (n) (cp), .int .i64 (((g.2.1 : Nat) : Int)), .int .u64 (((g.2.2 : Nat) : Int))], 86)])) := by
  refine CE.enter 7 [(0, .pointer (some ⟨bs, 0, none⟩))] en_30 Tryz.func30 rfl rfl (Nat.le_of_ble_eq_true rfl) rfl ?_
  have st := hst
  refine Wc.seq ?_
  refine Wc.region rfl ?_
  refine Wl.pure (PR.assI rfl) ?_
  refine Wl.nil ?_
  refine tn ?_
  refine Wc.seq ?_
  refine Wc.region rfl ?_
  refine Wl.pure (PR.moveP rfl) ?_
  refine Wl.callXE [0] st (c_spec_l00Src_pick (bs := bs) (A := A) (n := n) (cp := cp) (c := c) (t := t) (sd := sd) (m := 1073741824) (hR.st st) hc (by first | assumption | omega) hsd (by first | assumption | omega) (st.lend (L' := [(bs, [.slice (A) (n) (cp), .int .i64 (((t : Nat) : Int)), .int .u64 (((sd : Nat) : Int))], 86)]) [0] (by decide) rfl)) rfl rfl ?_
  clear st
  rintro ⟨v__2, t__3, e__4⟩ ⟨hx_5, hx_6, hx_7⟩ w1 st
  try dsimp only at st hx_5 hx_6 hx_7
  replace st : St [bs] w w1 [(bs, [.slice (A) (n) (cp), .int .i64 (((t__3 : Nat) : Int)), .int .u64 (((e__4 : Nat) : Int))], 86)] := st
  refine Wl.pure (PR.conv (n := ((v__2 : Nat) : Int)) tI_33 rfl (by simp only [fitI]; omega) Tryz.underlying2) ?_
  refine Wl.pure (PR.mulU (a := v__2) (b := 5) rfl rfl (by decide)) ?_
  refine Wl.pure (PR.assI rfl) ?_
  refine Wl.nil ?_
  refine tn ?_
  refine Wc.ret ?_
  refine postL.tmp rfl rfl ?_
  exact ⟨(((v__2 * 5) % 4294967296), t__3, e__4), ⟨(by dsimp only; first | decide | exact Nat.mod_lt _ (by decide)), (by dsimp only; omega), (by dsimp only; first | exact Nat.mod_lt _ (by decide) | assumption)⟩, rfl, st⟩

set_option maxHeartbeats 400000 in
set_option maxRecDepth 4000 in
theorem c_spec_l00From {A : Option Addr} {n : Nat} {cp : Nat} {c : Nat → Nat} {w : World} (hR : RdS w A n (arrU .u8 n c)) (hc : ∀ k, c k < 256) :
    CE Tryz.prog 26 [.slice (A) (n) (cp)] w (RetP w 86 ([.slice (A) (n) (cp), .int .i64 (0), .int .u64 (0)])) := by
  refine CE.enter 6 [(0, .slice (A) (n) (cp))] en_26 Tryz.func26 rfl rfl (Nat.le_of_ble_eq_true rfl) rfl ?_
  have st := St.start w
  refine Wc.seq ?_
  refine Wc.region rfl ?_
  refine Wl.pure (PR.assV ((.pointer none)) rfl) ?_
  refine Wl.nil ?_
  refine tn ?_
  refine Wc.seq ?_
  refine Wc.region rfl ?_
  refine Wl.pure (PR.moveL rfl) ?_
  refine Wl.pure (PR.build (ps := [(0, .slice (A) (n) (cp))]) (cs := [.slice (A) (n) (cp), .int .i64 (0), .int .u64 (0)]) tB_86 rfl rfl) ?_
  refine Wl.boxA st rfl ?_
  clear st
  intro b5 w1 st
  refine Wl.pure (PR.assP rfl) ?_
  refine Wl.nil ?_
  refine tn ?_
  refine Wc.ret ?_
  refine postL.tmp rfl rfl ?_
  exact ⟨b5, rfl, st⟩

set_option maxHeartbeats 400000 in
set_option maxRecDepth 4000 in
theorem c_spec_P6Picture {A : Option Addr} {n : Nat} {cp : Nat} {c : Nat → Nat} {w : World} (hR : RdS w A n (arrU .u8 n c)) (hc : ∀ k, c k < 256) :
    CE Tryz.prog 6 [.slice (A) (n) (cp)] w (RetXE (γ := Nat) w [] (fun g => (g < 18446744073709551616)) (fun g => .int .u64 (((g : Nat) : Int))) (fun g => [])) := by
  refine CE.enter 6 [(0, .slice (A) (n) (cp))] en_6 Tryz.func6 rfl rfl (Nat.le_of_ble_eq_true rfl) rfl ?_
  have st := St.start w
  refine Wc.seq ?_
  refine Wc.region rfl ?_
  refine Wl.pure (PR.assI rfl) ?_
  refine Wl.nil ?_
  refine tn ?_
  refine Wc.seq ?_
  refine Wc.region rfl ?_
  refine Wl.pure (PR.moveL rfl) ?_
  refine Wl.callPn st (c_spec_l00From (A := A) (n := n) (cp := cp) (c := c) (hR.st st) hc) rfl ?_
  clear st
  intro b4 w1 st
  replace st : St [] w w1 [(b4, [.slice (A) (n) (cp), .int .i64 (0), .int .u64 (0)], 86)] := st
  refine Wl.callXE [0] st (c_spec_l01Pictured (bs := b4) (A := A) (n := n) (cp := cp) (c := c) (t := 0) (sd := 0) (hR.ne st (i := 0) rfl) hc (by first | assumption | omega) (by first | assumption | omega) (st.lend (L' := [(b4, [.slice (A) (n) (cp), .int .i64 (0), .int .u64 (0)], 86)]) [0] (by decide) rfl)) rfl rfl ?_
  clear st
  rintro ⟨p__3, t__4, e__5⟩ ⟨hx_6, hx_7, hx_8⟩ w2 st
  try dsimp only at st hx_6 hx_7 hx_8
  replace st : St [] w w2 [(b4, [.slice (A) (n) (cp), .int .i64 (((t__4 : Nat) : Int)), .int .u64 (((e__5 : Nat) : Int))], 86)] := st
  refine Wl.pure (PR.assI rfl) ?_
  refine Wl.nil ?_
  refine tn ?_
  refine Wc.ret ?_
  refine postL.tmp rfl rfl ?_
  replace st : St [] w w2 [] := st.pick [] (by decide) rfl
  exact ⟨p__3, (by dsimp only; assumption), rfl, st⟩

set_option maxHeartbeats 400000 in
set_option maxRecDepth 4000 in
theorem c_spec_P6Seed {A : Option Addr} {n : Nat} {cp : Nat} {c : Nat → Nat} {w : World} (hR : RdS w A n (arrU .u8 n c)) (hc : ∀ k, c k < 256) :
    CE Tryz.prog 8 [.slice (A) (n) (cp)] w (RetXE (γ := Nat) w [] (fun g => (g < 4294967296)) (fun g => .int .u32 (((g : Nat) : Int))) (fun g => [])) := by
  refine CE.enter 6 [(0, .slice (A) (n) (cp))] en_8 Tryz.func8 rfl rfl (Nat.le_of_ble_eq_true rfl) rfl ?_
  have st := St.start w
  refine Wc.seq ?_
  refine Wc.region rfl ?_
  refine Wl.pure (PR.assI rfl) ?_
  refine Wl.nil ?_
  refine tn ?_
  refine Wc.seq ?_
  refine Wc.region rfl ?_
  refine Wl.pure (PR.moveL rfl) ?_
  refine Wl.callPn st (c_spec_l00From (A := A) (n := n) (cp := cp) (c := c) (hR.st st) hc) rfl ?_
  clear st
  intro b4 w1 st
  replace st : St [] w w1 [(b4, [.slice (A) (n) (cp), .int .i64 (0), .int .u64 (0)], 86)] := st
  refine Wl.callXE [0] st (c_spec_l03Seed (bs := b4) (A := A) (n := n) (cp := cp) (c := c) (t := 0) (sd := 0) (hR.ne st (i := 0) rfl) hc (by first | assumption | omega) (by first | assumption | omega) (st.lend (L' := [(b4, [.slice (A) (n) (cp), .int .i64 (0), .int .u64 (0)], 86)]) [0] (by decide) rfl)) rfl rfl ?_
  clear st
  rintro ⟨x__3, t__4, e__5⟩ ⟨hx_6, hx_7, hx_8⟩ w2 st
  try dsimp only at st hx_6 hx_7 hx_8
  replace st : St [] w w2 [(b4, [.slice (A) (n) (cp), .int .i64 (((t__4 : Nat) : Int)), .int .u64 (((e__5 : Nat) : Int))], 86)] := st
  refine Wl.pure (PR.assI rfl) ?_
  refine Wl.nil ?_
  refine tn ?_
  refine Wc.ret ?_
  refine postL.tmp rfl rfl ?_
  replace st : St [] w w2 [] := st.pick [] (by decide) rfl
  exact ⟨x__3, (by dsimp only; assumption), rfl, st⟩

set_option maxHeartbeats 400000 in
set_option maxRecDepth 4000 in
theorem c_spec_P6Pick {A : Option Addr} {n : Nat} {cp : Nat} {c : Nat → Nat} {m : Nat} {w : World} (hR : RdS w A n (arrU .u8 n c)) (hc : ∀ k, c k < 256) (hm : m ≤ 4294967296) :
    CE Tryz.prog 11 [.slice (A) (n) (cp), .int .i64 (((m : Nat) : Int))] w (RetXE (γ := Nat) w [] (fun g => (g < m ∨ (g = 0 ∧ m ≤ 1))) (fun g => .int .i64 (((g : Nat) : Int))) (fun g => [])) := by
  refine CE.enter 9 [(0, .slice (A) (n) (cp)), (1, .int .i64 (((m : Nat) : Int)))] en_11 Tryz.func11 rfl rfl (Nat.le_of_ble_eq_true rfl) rfl ?_
  have st := St.start w
  refine Wc.seq ?_
  refine Wc.region rfl ?_
  refine Wl.pure (PR.assI rfl) ?_
  refine Wl.nil ?_
  refine tn ?_
  refine Wc.seq ?_
  refine Wc.region rfl ?_
  refine Wl.pure (PR.moveL rfl) ?_
  refine Wl.callPn st (c_spec_l00From (A := A) (n := n) (cp := cp) (c := c) (hR.st st) hc) rfl ?_
  clear st
  intro b6 w1 st
  replace st : St [] w w1 [(b6, [.slice (A) (n) (cp), .int .i64 (0), .int .u64 (0)], 86)] := st
  refine Wl.pure (PR.moveI rfl) ?_
  refine Wl.callXE [0] st (c_spec_l00Src_pick (bs := b6) (A := A) (n := n) (cp := cp) (c := c) (t := 0) (sd := 0) (m := m) (hR.ne st (i := 0) rfl) hc (by first | assumption | omega) (by first | assumption | omega) (by first | assumption | omega) (st.lend (L' := [(b6, [.slice (A) (n) (cp), .int .i64 (0), .int .u64 (0)], 86)]) [0] (by decide) rfl)) rfl rfl ?_
  clear st
  rintro ⟨v__3, t__4, e__5⟩ ⟨hx_6, hx_7, hx_8⟩ w2 st
  try dsimp only at st hx_6 hx_7 hx_8
  replace st : St [] w w2 [(b6, [.slice (A) (n) (cp), .int .i64 (((t__4 : Nat) : Int)), .int .u64 (((e__5 : Nat) : Int))], 86)] := st
  refine Wl.pure (PR.assI rfl) ?_
  refine Wl.nil ?_
  refine tn ?_
  refine Wc.ret ?_
  refine postL.tmp rfl rfl ?_
  replace st : St [] w w2 [] := st.pick [] (by decide) rfl
  exact ⟨v__3, (by dsimp only; assumption), rfl, st⟩

set_option maxHeartbeats 400000 in
set_option maxRecDepth 4000 in
theorem c_laws_f6big {A : Option Addr} {n : Nat} {cp : Nat} {w : World} (hn : n ≤ 9223372036854775807) :
    CE Tryz.prog 4 [.slice (A) (n) (cp)] w (RetV w (.bool (decide ((4096 : Int) < ((n : Nat) : Int))))) := by
  refine CE.enter 6 [(0, .slice (A) (n) (cp))] en_4 Tryz.func4 rfl rfl (Nat.le_of_ble_eq_true rfl) rfl ?_
  have st := St.start w
  refine Wc.seq ?_
  refine Wc.region rfl ?_
  refine Wl.pure (PR.assB rfl) ?_
  refine Wl.nil ?_
  refine tn ?_
  refine Wc.seq ?_
  refine Wc.region rfl ?_
  refine Wl.pure (PR.moveL rfl) ?_
  refine Wl.pure (PR.lenL tS_22 rfl) ?_
  refine Wl.pure (PR.gtr (a := ((n : Nat) : Int)) (b := 4096) rfl rfl) ?_
  refine Wl.pure (PR.assB rfl) ?_
  refine Wl.nil ?_
  refine tn ?_
  refine Wc.ret ?_
  refine postL.tmp rfl rfl ?_
  refine RetV.of ?_ st.below
  refine congrArg Value.bool ?_
  first | rfl | (exfalso; omega) | (simp only [*, decide_true, decide_false, Bool.not_true, Bool.not_false]; done) | (simp; omega) | (rw [Bool.eq_iff_iff]; simp; omega) | simp_all

set_option maxHeartbeats 400000 in
set_option maxRecDepth 4000 in
theorem c_spec_l03Known {bs : Nat} {A : Option Addr} {n : Nat} {cp : Nat} {c : Nat → Nat} {t : Nat} {sd : Nat} {w : World} (hR : RdN w A n (arrU .u8 n c) bs) (hc : ∀ k, c k < 256) (ht : t ≤ 980000) (hsd : sd < 18446744073709551616) (hst : St [bs] w w [(bs, [.slice (A) (n) (cp), .int .i64 (((t : Nat) : Int)), .int .u64 (((sd : Nat) : Int))], 86)]) :
    CE Tryz.prog 25 [.pointer (some ⟨bs, 0, none⟩)] w (RetXE (γ := Nat × Nat × (Nat → Nat) × (Nat → Nat) × Nat × Nat) w [bs] (fun g => (schOk ((g.1 : Nat) : Int) ((g.2.1 : Nat) : Int) g.2.2.1 g.2.2.2.1 = true) ∧ (∀ k, g.2.2.1 k < 256) ∧ (∀ k, g.2.2.2.1 k < 256) ∧ (1 ≤ g.1 ∧ g.1 ≤ 5) ∧ (1 ≤ g.2.1 ∧ g.2.1 ≤ 6) ∧ (g.2.2.2.2.1 ≤ t + 60 ∧ t ≤ g.2.2.2.2.1) ∧ (g.2.2.2.2.2 < 18446744073709551616)) (fun g => .agg (schV ((g.1 : Nat) : Int) ((g.2.1 : Nat) : Int) (g.2.2.1) (g.2.2.2.1)).toArray) (fun g => [(bs, [.slice (A) (n) (cp), .int .i64 (((g.2.2.2.2.1 : Nat) : Int)), .int .u64 (((g.2.2.2.2.2 : Nat) : Int))], 86)])) := by
  refine CE.enter 59 [(0, .pointer (some ⟨bs, 0, none⟩))] en_25 Tryz.func25 rfl rfl (Nat.le_of_ble_eq_true rfl) rfl ?_
  have st := hst
  refine Wc.seq ?_
  refine Wc.region rfl ?_
  refine Wl.alloc st tZ_27 rfl ?_
  clear st
  intro b2 w1 st
  refine Wl.nil ?_
  refine tn ?_
  refine Wc.seq ?_
  refine Wc.seq ?_
  refine Wc.region rfl ?_
  refine Wl.pure (PR.moveP rfl) ?_
  refine Wl.callXE [1] st (c_spec_l00Src_pick (bs := bs) (A := A) (n := n) (cp := cp) (c := c) (t := t) (sd := sd) (m := 4) (hR.st st) hc (by first | assumption | omega) hsd (by first | assumption | omega) (st.lend (L' := [(bs, [.slice (A) (n) (cp), .int .i64 (((t : Nat) : Int)), .int .u64 (((sd : Nat) : Int))], 86)]) [1] (by decide) rfl)) rfl rfl ?_
  clear st
  rintro ⟨v__3, t__4, e__5⟩ ⟨hx_6, hx_7, hx_8⟩ w2 st
  try dsimp only at st hx_6 hx_7 hx_8
  replace st : St [bs] w w2 [(bs, [.slice (A) (n) (cp), .int .i64 (((t__4 : Nat) : Int)), .int .u64 (((e__5 : Nat) : Int))], 86), (b2, schV (0) (0) ((fun _ => 0)) ((fun _ => 0)), 27)] := st
  refine Wl.nil ?_
  refine tn ?_
  refine Wc.block ?_
  refine Wc.seq ?_
  refine Wc.region rfl ?_
  refine Wl.pure (PR.eql (a := ((v__3 : Nat) : Int)) (b := 0) rfl rfl) ?_
  refine Wl.pure (PR.assB rfl) ?_
  refine Wl.nil ?_
  refine tn ?_
  refine Wc.condD (p := ((v__3 : Nat) : Int) = 0) rfl (fun h9 => ?_) (fun h9 => ?_)
  · refine Wc.seq ?_
    refine Wc.region rfl ?_
    refine Wl.pure (PR.build (ps := [(0, .int .u8 (1)), (1, .int .u8 (1))]) (cs := arrU .u8 6 (upd (upd (fun _ => 0) (0) (1)) (1) (1))) tB_25 rfl rfl) ?_
    refine Wl.pure (PR.build (ps := [(0, .int .u8 (1)), (1, .int .u8 (2))]) (cs := arrU .u8 6 (upd (upd (fun _ => 0) (0) (1)) (1) (2))) tB_25 rfl rfl) ?_
    refine Wl.pure (PR.build (ps := [(0, .int .i8 (2)), (1, .int .i8 (2)), (2, .agg (arrU .u8 6 (upd (upd (fun _ => 0) (0) (1)) (1) (1))).toArray), (3, .agg (arrU .u8 6 (upd (upd (fun _ => 0) (0) (1)) (1) (2))).toArray)]) (cs := schV ((2 : Nat) : Int) ((2 : Nat) : Int) (upd (upd (fun _ => 0) (0) (1)) (1) (1)) (upd (upd (fun _ => 0) (0) (1)) (1) (2))) tB_27 rfl rfl) ?_
    refine Wl.storeA (i := 1) (cs' := schV ((2 : Nat) : Int) ((2 : Nat) : Int) (upd (upd (fun _ => 0) (0) (1)) (1) (1)) (upd (upd (fun _ => 0) (0) (1)) (1) (2))) st tA_27 rfl rfl schV_len schV_one rfl (le_of_len schV_len (by omega)) (all_put schV_len) ?_
    clear st
    intro w10 st
    replace st : St [bs] w w10 [(bs, [.slice (A) (n) (cp), .int .i64 (((t__4 : Nat) : Int)), .int .u64 (((e__5 : Nat) : Int))], 86), (b2, schV ((2 : Nat) : Int) ((2 : Nat) : Int) (upd (upd (fun _ => 0) (0) (1)) (1) (1)) (upd (upd (fun _ => 0) (0) (1)) (1) (2)), 27)] := st
    refine Wl.nil ?_
    refine tn ?_
    refine Wc.ret ?_
    refine br ?_
    refine tr ?_
    refine postL.cell (i := 1) st rfl tA_27 rfl rfl schV_len ?_
    replace st : St [bs] w w10 [(bs, [.slice (A) (n) (cp), .int .i64 (((t__4 : Nat) : Int)), .int .u64 (((e__5 : Nat) : Int))], 86)] := st.pick [0] (by decide) rfl
    exact ⟨(2, 2, upd (upd (fun _ => 0) (0) (1)) (1) (1), upd (upd (fun _ => 0) (0) (1)) (1) (2), t__4, e__5), ⟨(by dsimp only; first | exact known_1 | exact known_2 | exact known_3 | exact drawn_ok (by omega) (by omega) hka hkb), (by dsimp only; first | exact known_b1 | assumption | exact upd_lt (upd_lt (fun _ => by decide) (by decide)) (by decide) | exact upd_lt (upd_lt (upd_lt (fun _ => by decide) (by decide)) (by decide)) (by decide)), (by dsimp only; first | assumption | exact upd_lt (upd_lt (fun _ => by decide) (by decide)) (by decide) | exact upd_lt (upd_lt (upd_lt (fun _ => by decide) (by decide)) (by decide)) (by decide)), (by dsimp only; omega), (by dsimp only; omega), (by dsimp only; omega), (by dsimp only; first | exact Nat.mod_lt _ (by decide) | assumption)⟩, rfl, st⟩
  · refine Wc.seq ?_
    refine Wc.region rfl ?_
    refine Wl.pure (PR.eql (a := ((v__3 : Nat) : Int)) (b := 1) rfl rfl) ?_
    refine Wl.pure (PR.assB rfl) ?_
    refine Wl.nil ?_
    refine tn ?_
    refine Wc.condD (p := ((v__3 : Nat) : Int) = 1) rfl (fun h11 => ?_) (fun h11 => ?_)
    · refine Wc.seq ?_
      refine Wc.region rfl ?_
      refine Wl.pure (PR.build (ps := [(0, .int .u8 (1)), (1, .int .u8 (1)), (2, .int .u8 (1))]) (cs := arrU .u8 6 (upd (upd (upd (fun _ => 0) (0) (1)) (1) (1)) (2) (1))) tB_25 rfl rfl) ?_
      refine Wl.pure (PR.build (ps := [(0, .int .u8 (1)), (1, .int .u8 (2)), (2, .int .u8 (4))]) (cs := arrU .u8 6 (upd (upd (upd (fun _ => 0) (0) (1)) (1) (2)) (2) (4))) tB_25 rfl rfl) ?_
      refine Wl.pure (PR.build (ps := [(0, .int .i8 (3)), (1, .int .i8 (3)), (2, .agg (arrU .u8 6 (upd (upd (upd (fun _ => 0) (0) (1)) (1) (1)) (2) (1))).toArray), (3, .agg (arrU .u8 6 (upd (upd (upd (fun _ => 0) (0) (1)) (1) (2)) (2) (4))).toArray)]) (cs := schV ((3 : Nat) : Int) ((3 : Nat) : Int) (upd (upd (upd (fun _ => 0) (0) (1)) (1) (1)) (2) (1)) (upd (upd (upd (fun _ => 0) (0) (1)) (1) (2)) (2) (4))) tB_27 rfl rfl) ?_
      refine Wl.storeA (i := 1) (cs' := schV ((3 : Nat) : Int) ((3 : Nat) : Int) (upd (upd (upd (fun _ => 0) (0) (1)) (1) (1)) (2) (1)) (upd (upd (upd (fun _ => 0) (0) (1)) (1) (2)) (2) (4))) st tA_27 rfl rfl schV_len schV_one rfl (le_of_len schV_len (by omega)) (all_put schV_len) ?_
      clear st
      intro w12 st
      replace st : St [bs] w w12 [(bs, [.slice (A) (n) (cp), .int .i64 (((t__4 : Nat) : Int)), .int .u64 (((e__5 : Nat) : Int))], 86), (b2, schV ((3 : Nat) : Int) ((3 : Nat) : Int) (upd (upd (upd (fun _ => 0) (0) (1)) (1) (1)) (2) (1)) (upd (upd (upd (fun _ => 0) (0) (1)) (1) (2)) (2) (4)), 27)] := st
      refine Wl.nil ?_
      refine tn ?_
      refine Wc.ret ?_
      refine br ?_
      refine tr ?_
      refine postL.cell (i := 1) st rfl tA_27 rfl rfl schV_len ?_
      replace st : St [bs] w w12 [(bs, [.slice (A) (n) (cp), .int .i64 (((t__4 : Nat) : Int)), .int .u64 (((e__5 : Nat) : Int))], 86)] := st.pick [0] (by decide) rfl
      exact ⟨(3, 3, upd (upd (upd (fun _ => 0) (0) (1)) (1) (1)) (2) (1), upd (upd (upd (fun _ => 0) (0) (1)) (1) (2)) (2) (4), t__4, e__5), ⟨(by dsimp only; first | exact known_1 | exact known_2 | exact known_3 | exact drawn_ok (by omega) (by omega) hka hkb), (by dsimp only; first | exact known_b1 | assumption | exact upd_lt (upd_lt (fun _ => by decide) (by decide)) (by decide) | exact upd_lt (upd_lt (upd_lt (fun _ => by decide) (by decide)) (by decide)) (by decide)), (by dsimp only; first | assumption | exact upd_lt (upd_lt (fun _ => by decide) (by decide)) (by decide) | exact upd_lt (upd_lt (upd_lt (fun _ => by decide) (by decide)) (by decide)) (by decide)), (by dsimp only; omega), (by dsimp only; omega), (by dsimp only; omega), (by dsimp only; first | exact Nat.mod_lt _ (by decide) | assumption)⟩, rfl, st⟩
    · refine Wc.seq ?_
      refine Wc.region rfl ?_
      refine Wl.pure (PR.eql (a := ((v__3 : Nat) : Int)) (b := 2) rfl rfl) ?_
      refine Wl.pure (PR.assB rfl) ?_
      refine Wl.nil ?_
      refine tn ?_
      refine Wc.condD (p := ((v__3 : Nat) : Int) = 2) rfl (fun h13 => ?_) (fun h13 => ?_)
      · refine Wc.seq ?_
        refine Wc.region rfl ?_
        refine Wl.pure (PR.build (ps := [(0, .int .u8 (12)), (1, .int .u8 (10)), (2, .int .u8 (6))]) (cs := arrU .u8 6 (upd (upd (upd (fun _ => 0) (0) (12)) (1) (10)) (2) (6))) tB_25 rfl rfl) ?_
        refine Wl.pure (PR.build (ps := [(0, .int .u8 (3)), (1, .int .u8 (5)), (2, .int .u8 (9))]) (cs := arrU .u8 6 (upd (upd (upd (fun _ => 0) (0) (3)) (1) (5)) (2) (9))) tB_25 rfl rfl) ?_
        refine Wl.pure (PR.build (ps := [(0, .int .i8 (3)), (1, .int .i8 (4)), (2, .agg (arrU .u8 6 (upd (upd (upd (fun _ => 0) (0) (12)) (1) (10)) (2) (6))).toArray), (3, .agg (arrU .u8 6 (upd (upd (upd (fun _ => 0) (0) (3)) (1) (5)) (2) (9))).toArray)]) (cs := schV ((3 : Nat) : Int) ((4 : Nat) : Int) (upd (upd (upd (fun _ => 0) (0) (12)) (1) (10)) (2) (6)) (upd (upd (upd (fun _ => 0) (0) (3)) (1) (5)) (2) (9))) tB_27 rfl rfl) ?_
        refine Wl.storeA (i := 1) (cs' := schV ((3 : Nat) : Int) ((4 : Nat) : Int) (upd (upd (upd (fun _ => 0) (0) (12)) (1) (10)) (2) (6)) (upd (upd (upd (fun _ => 0) (0) (3)) (1) (5)) (2) (9))) st tA_27 rfl rfl schV_len schV_one rfl (le_of_len schV_len (by omega)) (all_put schV_len) ?_
        clear st
        intro w14 st
        replace st : St [bs] w w14 [(bs, [.slice (A) (n) (cp), .int .i64 (((t__4 : Nat) : Int)), .int .u64 (((e__5 : Nat) : Int))], 86), (b2, schV ((3 : Nat) : Int) ((4 : Nat) : Int) (upd (upd (upd (fun _ => 0) (0) (12)) (1) (10)) (2) (6)) (upd (upd (upd (fun _ => 0) (0) (3)) (1) (5)) (2) (9)), 27)] := st
        refine Wl.nil ?_
        refine tn ?_
        refine Wc.ret ?_
        refine br ?_
        refine tr ?_
        refine postL.cell (i := 1) st rfl tA_27 rfl rfl schV_len ?_
        replace st : St [bs] w w14 [(bs, [.slice (A) (n) (cp), .int .i64 (((t__4 : Nat) : Int)), .int .u64 (((e__5 : Nat) : Int))], 86)] := st.pick [0] (by decide) rfl
        exact ⟨(3, 4, upd (upd (upd (fun _ => 0) (0) (12)) (1) (10)) (2) (6), upd (upd (upd (fun _ => 0) (0) (3)) (1) (5)) (2) (9), t__4, e__5), ⟨(by dsimp only; first | exact known_1 | exact known_2 | exact known_3 | exact drawn_ok (by omega) (by omega) hka hkb), (by dsimp only; first | exact known_b1 | assumption | exact upd_lt (upd_lt (fun _ => by decide) (by decide)) (by decide) | exact upd_lt (upd_lt (upd_lt (fun _ => by decide) (by decide)) (by decide)) (by decide)), (by dsimp only; first | assumption | exact upd_lt (upd_lt (fun _ => by decide) (by decide)) (by decide) | exact upd_lt (upd_lt (upd_lt (fun _ => by decide) (by decide)) (by decide)) (by decide)), (by dsimp only; omega), (by dsimp only; omega), (by dsimp only; omega), (by dsimp only; first | exact Nat.mod_lt _ (by decide) | assumption)⟩, rfl, st⟩
      · refine Wc.skip ?_
        refine bn ?_
        refine tn ?_
        refine Wc.seq ?_
        refine Wc.region rfl ?_
        refine Wl.pure (PR.moveP rfl) ?_
        refine Wl.callXE [0] st (c_spec_l00Src_pick (bs := bs) (A := A) (n := n) (cp := cp) (c := c) (t := t__4) (sd := e__5) (m := 5) (hR.st st) hc (by first | assumption | omega) (by first | assumption | omega) (by first | assumption | omega) (st.lend (L' := [(bs, [.slice (A) (n) (cp), .int .i64 (((t__4 : Nat) : Int)), .int .u64 (((e__5 : Nat) : Int))], 86)]) [0] (by decide) rfl)) rfl rfl ?_
        clear st
        rintro ⟨v__16, t__17, e__18⟩ ⟨hx_19, hx_20, hx_21⟩ w15 st
        try dsimp only at st hx_19 hx_20 hx_21
        replace st : St [bs] w w15 [(bs, [.slice (A) (n) (cp), .int .i64 (((t__17 : Nat) : Int)), .int .u64 (((e__18 : Nat) : Int))], 86), (b2, schV (0) (0) ((fun _ => 0)) ((fun _ => 0)), 27)] := st
        refine Wl.pure (PR.add (a := 1) (b := ((v__16 : Nat) : Int)) rfl rfl (by simp only [fitI]; omega)) ?_
        refine Wl.pure (PR.conv (n := (((1 + v__16) : Nat) : Int)) tI_24 rfl (by simp only [fitI]; omega) Tryz.underlying2) ?_
        refine Wl.pure (PR.moveP rfl) ?_
        refine Wl.callXE [0] st (c_spec_l00Src_pick (bs := bs) (A := A) (n := n) (cp := cp) (c := c) (t := t__17) (sd := e__18) (m := 6) (hR.st st) hc (by first | assumption | omega) (by first | assumption | omega) (by first | assumption | omega) (st.lend (L' := [(bs, [.slice (A) (n) (cp), .int .i64 (((t__17 : Nat) : Int)), .int .u64 (((e__18 : Nat) : Int))], 86)]) [0] (by decide) rfl)) rfl rfl ?_
        clear st
        rintro ⟨v__23, t__24, e__25⟩ ⟨hx_26, hx_27, hx_28⟩ w22 st
        try dsimp only at st hx_26 hx_27 hx_28
        replace st : St [bs] w w22 [(bs, [.slice (A) (n) (cp), .int .i64 (((t__24 : Nat) : Int)), .int .u64 (((e__25 : Nat) : Int))], 86), (b2, schV (0) (0) ((fun _ => 0)) ((fun _ => 0)), 27)] := st
        refine Wl.pure (PR.add (a := 1) (b := ((v__23 : Nat) : Int)) rfl rfl (by simp only [fitI]; omega)) ?_
        refine Wl.pure (PR.conv (n := (((1 + v__23) : Nat) : Int)) tI_24 rfl (by simp only [fitI]; omega) Tryz.underlying2) ?_
        refine Wl.pure (PR.build (ps := [(0, .int .i8 ((((1 + v__16) : Nat) : Int))), (1, .int .i8 ((((1 + v__23) : Nat) : Int)))]) (cs := schV (((1 + v__16) : Nat) : Int) (((1 + v__23) : Nat) : Int) ((fun _ => 0)) ((fun _ => 0))) tB_27 rfl rfl) ?_
        refine Wl.alloc st tZ_27 rfl ?_
        clear st
        intro b3 w29 st
        refine Wl.storeA (i := 0) (cs' := schV (((1 + v__16) : Nat) : Int) (((1 + v__23) : Nat) : Int) ((fun _ => 0)) ((fun _ => 0))) st tA_27 rfl rfl schV_len schV_one rfl (le_of_len schV_len (by omega)) (all_put schV_len) ?_
        clear st
        intro w30 st
        replace st : St [bs] w w30 [(b3, schV (((1 + v__16) : Nat) : Int) (((1 + v__23) : Nat) : Int) ((fun _ => 0)) ((fun _ => 0)), 27), (bs, [.slice (A) (n) (cp), .int .i64 (((t__24 : Nat) : Int)), .int .u64 (((e__25 : Nat) : Int))], 86), (b2, schV (0) (0) ((fun _ => 0)) ((fun _ => 0)), 27)] := st
        refine Wl.nil ?_
        refine tn ?_
        refine Wc.seq ?_
        refine Wc.seq ?_
        refine Wc.region rfl ?_
        refine Wl.pure (PR.assI rfl) ?_
        refine Wl.nil ?_
        refine tn ?_
        refine Wc.block ?_
        refine Wc.loopF (γ := Nat × Nat × Nat × (Nat → Nat) × (Nat → Nat)) (fun g => [(0, .pointer (some ⟨bs, 0, none⟩)), (2, .pointer (some ⟨b2, 0, none⟩)), (3, .pointer (some ⟨b3, 0, none⟩)), (4, .int .i64 (((g.1 : Nat) : Int)))]) (fun g w_ => St [bs] w w_ [(b3, schV (((1 + v__16) : Nat) : Int) (((1 + v__23) : Nat) : Int) (g.2.2.2.1) (g.2.2.2.2), 27), (bs, [.slice (A) (n) (cp), .int .i64 (((g.2.1 : Nat) : Int)), .int .u64 (((g.2.2.1 : Nat) : Int))], 86), (b2, schV (0) (0) ((fun _ => 0)) ((fun _ => 0)), 27)] ∧ (g.1 ≤ (1 + v__16)) ∧ (g.2.1 ≤ t + 6 + 4 * g.1 ∧ t ≤ g.2.1) ∧ (g.2.2.1 < 18446744073709551616) ∧ (∀ k, g.2.2.2.1 k < 2 ^ ((1 + v__23)) ∧ ((1 + v__16) ≤ k → g.2.2.2.1 k = 0)) ∧ (∀ k, g.2.2.2.2 k < 2 ^ ((1 + v__23)) ∧ ((1 + v__16) ≤ k → g.2.2.2.2 k = 0)) ∧ (∀ k, g.2.2.2.1 k < 256) ∧ (∀ k, g.2.2.2.2 k < 256)) (fun g => (1 + v__16) - g.1) ?_ ?_
        · exact ⟨(0, t__24, e__25, (fun _ => 0), (fun _ => 0)), (.cons rfl (.cons rfl (.cons rfl (.cons rfl (.nil _))))), st, (by first | omega | (dsimp only; omega)), (by first | omega | (dsimp only; omega)), (by assumption), (fun k => ⟨Nat.two_pow_pos _, fun _ => rfl⟩), (fun k => ⟨Nat.two_pow_pos _, fun _ => rfl⟩), (fun _ => show (0 : Nat) < 256 by decide), (fun _ => show (0 : Nat) < 256 by decide)⟩
        clear st
        rintro ⟨i, t1, e1, a1, b1⟩ w31 ⟨st, hi, ht1, he1, hka, hkb, hab, hbb⟩
        try dsimp only at st hi ht1 he1 hka hkb hab hbb ⊢
        have h64 := shl_64 (k := (1 + v__23)) (by omega)
        refine Wc.seq ?_
        refine Wc.seq ?_
        refine Wc.region rfl ?_
        refine Wl.pure (PR.moveI rfl) ?_
        refine Wl.pure (PR.fieldAddr tF_27_0 rfl) ?_
        refine Wl.load (i := 0) st tA_24 rfl rfl (rfl) ?_
        refine Wl.pure (PR.conv (n := (((1 + v__16) : Nat) : Int)) tI_3 rfl (by simp only [fitI]; omega) Tryz.underlying24) ?_
        refine Wl.pure (PR.lss (a := ((i : Nat) : Int)) (b := (((1 + v__16) : Nat) : Int)) rfl rfl) ?_
        refine Wl.nil ?_
        refine tn ?_
        refine Wc.condD (p := ((i : Nat) : Int) < (((1 + v__16) : Nat) : Int)) rfl (fun h32 => ?_) (fun h32 => ?_)
        · refine Wc.skip ?_
          refine tn ?_
          refine Wc.seq ?_
          refine Wc.block ?_
          refine Wc.seq ?_
          refine Wc.region rfl ?_
          refine Wl.pure (PR.moveI rfl) ?_
          refine Wl.pure (PR.moveP rfl) ?_
          refine Wl.pure (PR.fieldAddr tF_27_1 rfl) ?_
          refine Wl.load (i := 0) st tA_24 rfl rfl (rfl) ?_
          refine Wl.pure (PR.conv (n := (((1 + v__23) : Nat) : Int)) tI_51 rfl (by simp only [fitI]; omega) Tryz.underlying24) ?_
          refine Wl.pure (PR.shlI (a := 1) (n := (1 + v__23)) rfl rfl (by omega) (shl_62 (by omega))) ?_
          refine Wl.callXE [1] st (c_spec_l00Src_pick (bs := bs) (A := A) (n := n) (cp := cp) (c := c) (t := t1) (sd := e1) (m := (1 <<< (1 + v__23))) (hR.st st) hc (by first | assumption | omega) he1 (by first | assumption | omega) (st.lend (L' := [(bs, [.slice (A) (n) (cp), .int .i64 (((t1 : Nat) : Int)), .int .u64 (((e1 : Nat) : Int))], 86)]) [1] (by decide) rfl)) rfl rfl ?_
          clear st
          rintro ⟨v__34, t__35, e__36⟩ ⟨hx_37, hx_38, hx_39⟩ w33 st
          try dsimp only at st hx_37 hx_38 hx_39
          replace st : St [bs] w w33 [(bs, [.slice (A) (n) (cp), .int .i64 (((t__35 : Nat) : Int)), .int .u64 (((e__36 : Nat) : Int))], 86), (b3, schV (((1 + v__16) : Nat) : Int) (((1 + v__23) : Nat) : Int) (a1) (b1), 27), (b2, schV (0) (0) ((fun _ => 0)) ((fun _ => 0)), 27)] := st
          refine Wl.pure (PR.conv (n := ((v__34 : Nat) : Int)) tI_5 rfl (by simp only [fitI]; omega) Tryz.underlying2) ?_
          refine Wl.pure (PR.fieldAddr tF_27_2 rfl) ?_
          refine Wl.pure (PR.idxAddrA1 (i := i) tE_25 rfl rfl (by omega)) ?_
          refine Wl.store (i := 1) (cs' := schV (((1 + v__16) : Nat) : Int) (((1 + v__23) : Nat) : Int) (upd a1 (i) (v__34)) (b1)) st tA_5 rfl rfl rfl rfl (lt_of_len schV_len (by omega)) (schV_set_a (by omega)) ?_
          clear st
          intro w40 st
          replace st : St [bs] w w40 [(bs, [.slice (A) (n) (cp), .int .i64 (((t__35 : Nat) : Int)), .int .u64 (((e__36 : Nat) : Int))], 86), (b3, schV (((1 + v__16) : Nat) : Int) (((1 + v__23) : Nat) : Int) (upd a1 (i) (v__34)) (b1), 27), (b2, schV (0) (0) ((fun _ => 0)) ((fun _ => 0)), 27)] := st
          refine Wl.nil ?_
          refine tn ?_
          refine Wc.region rfl ?_
          refine Wl.pure (PR.moveI rfl) ?_
          refine Wl.pure (PR.moveP rfl) ?_
          refine Wl.pure (PR.fieldAddr tF_27_1 rfl) ?_
          refine Wl.load (i := 1) st tA_24 rfl rfl (rfl) ?_
          refine Wl.pure (PR.conv (n := (((1 + v__23) : Nat) : Int)) tI_51 rfl (by simp only [fitI]; omega) Tryz.underlying24) ?_
          refine Wl.pure (PR.shlI (a := 1) (n := (1 + v__23)) rfl rfl (by omega) (shl_62 (by omega))) ?_
          refine Wl.callXE [0] st (c_spec_l00Src_pick (bs := bs) (A := A) (n := n) (cp := cp) (c := c) (t := t__35) (sd := e__36) (m := (1 <<< (1 + v__23))) (hR.st st) hc (by first | assumption | omega) (by first | assumption | omega) (by first | assumption | omega) (st.lend (L' := [(bs, [.slice (A) (n) (cp), .int .i64 (((t__35 : Nat) : Int)), .int .u64 (((e__36 : Nat) : Int))], 86)]) [0] (by decide) rfl)) rfl rfl ?_
          clear st
          rintro ⟨v__42, t__43, e__44⟩ ⟨hx_45, hx_46, hx_47⟩ w41 st
          try dsimp only at st hx_45 hx_46 hx_47
          replace st : St [bs] w w41 [(bs, [.slice (A) (n) (cp), .int .i64 (((t__43 : Nat) : Int)), .int .u64 (((e__44 : Nat) : Int))], 86), (b3, schV (((1 + v__16) : Nat) : Int) (((1 + v__23) : Nat) : Int) (upd a1 (i) (v__34)) (b1), 27), (b2, schV (0) (0) ((fun _ => 0)) ((fun _ => 0)), 27)] := st
          refine Wl.pure (PR.conv (n := ((v__42 : Nat) : Int)) tI_5 rfl (by simp only [fitI]; omega) Tryz.underlying2) ?_
          refine Wl.pure (PR.fieldAddr tF_27_3 rfl) ?_
          refine Wl.pure (PR.idxAddrA1 (i := i) tE_25 rfl rfl (by omega)) ?_
          refine Wl.store (i := 1) (cs' := schV (((1 + v__16) : Nat) : Int) (((1 + v__23) : Nat) : Int) (upd a1 (i) (v__34)) (upd b1 (i) (v__42))) st tA_5 rfl rfl rfl rfl (lt_of_len schV_len (by omega)) (schV_set_b) ?_
          clear st
          intro w48 st
          replace st : St [bs] w w48 [(bs, [.slice (A) (n) (cp), .int .i64 (((t__43 : Nat) : Int)), .int .u64 (((e__44 : Nat) : Int))], 86), (b3, schV (((1 + v__16) : Nat) : Int) (((1 + v__23) : Nat) : Int) (upd a1 (i) (v__34)) (upd b1 (i) (v__42)), 27), (b2, schV (0) (0) ((fun _ => 0)) ((fun _ => 0)), 27)] := st
          refine Wl.nil ?_
          refine bn ?_
          refine tn ?_
          refine Wc.region rfl ?_
          refine Wl.pure (PR.moveI rfl) ?_
          refine Wl.pure (PR.add (a := ((i : Nat) : Int)) (b := 1) rfl rfl (by simp only [fitI]; omega)) ?_
          refine Wl.pure (PR.assI rfl) ?_
          refine Wl.nil ?_
          refine tn ?_
          replace st : St [bs] w w48 [(b3, schV (((1 + v__16) : Nat) : Int) (((1 + v__23) : Nat) : Int) (upd a1 (i) (v__34)) (upd b1 (i) (v__42)), 27), (bs, [.slice (A) (n) (cp), .int .i64 (((t__43 : Nat) : Int)), .int .u64 (((e__44 : Nat) : Int))], 86), (b2, schV (0) (0) ((fun _ => 0)) ((fun _ => 0)), 27)] := st.pick [1, 0, 2] (by decide) rfl
          exact ⟨(i + 1, t__43, e__44, upd a1 (i) (v__34), upd b1 (i) (v__42)), (.cons rfl (.cons rfl (.cons rfl (.cons rfl (.nil _))))), ⟨st, (by first | omega | (dsimp only; omega)), (by first | omega | (dsimp only; omega)), (by assumption), (drawn_up hka (by omega) (by assumption)), (drawn_up hkb (by omega) (by assumption)), (upd_lt hab (show _ < 256 by omega)), (upd_lt hbb (show _ < 256 by omega))⟩, (by first | omega | (dsimp only; omega))⟩
        · refine Wc.exit ?_
          refine tx ?_
          refine tx ?_
          refine bh ?_
          refine tn ?_
          refine Wc.seq ?_
          refine Wc.region rfl ?_
          refine Wl.loadA (i := 0) st tA_27 rfl rfl (all_sub schV_len) schV_len ?_
          refine Wl.storeA (i := 2) (cs' := schV (((1 + v__16) : Nat) : Int) (((1 + v__23) : Nat) : Int) (a1) (b1)) st tA_27 rfl rfl schV_len schV_one rfl (le_of_len schV_len (by omega)) (all_put schV_len) ?_
          clear st
          intro w49 st
          replace st : St [bs] w w49 [(b3, schV (((1 + v__16) : Nat) : Int) (((1 + v__23) : Nat) : Int) (a1) (b1), 27), (bs, [.slice (A) (n) (cp), .int .i64 (((t1 : Nat) : Int)), .int .u64 (((e1 : Nat) : Int))], 86), (b2, schV (((1 + v__16) : Nat) : Int) (((1 + v__23) : Nat) : Int) (a1) (b1), 27)] := st
          refine Wl.nil ?_
          refine tn ?_
          refine Wc.ret ?_
          refine postL.cell (i := 2) st rfl tA_27 rfl rfl schV_len ?_
          replace st : St [bs] w w49 [(bs, [.slice (A) (n) (cp), .int .i64 (((t1 : Nat) : Int)), .int .u64 (((e1 : Nat) : Int))], 86)] := st.pick [1] (by decide) rfl
          exact ⟨((1 + v__16), (1 + v__23), a1, b1, t1, e1), ⟨(by dsimp only; first | exact known_1 | exact known_2 | exact known_3 | exact drawn_ok (by omega) (by omega) hka hkb), (by dsimp only; first | exact known_b1 | assumption | exact upd_lt (upd_lt (fun _ => by decide) (by decide)) (by decide) | exact upd_lt (upd_lt (upd_lt (fun _ => by decide) (by decide)) (by decide)) (by decide)), (by dsimp only; first | assumption | exact upd_lt (upd_lt (fun _ => by decide) (by decide)) (by decide) | exact upd_lt (upd_lt (upd_lt (fun _ => by decide) (by decide)) (by decide)) (by decide)), (by dsimp only; omega), (by dsimp only; omega), (by dsimp only; omega), (by dsimp only; first | exact Nat.mod_lt _ (by decide) | assumption)⟩, rfl, st⟩

set_option maxHeartbeats 400000 in
set_option maxRecDepth 4000 in
theorem c_spec_P6Scheme {A : Option Addr} {n : Nat} {cp : Nat} {c : Nat → Nat} {w : World} (hR : RdS w A n (arrU .u8 n c)) (hc : ∀ k, c k < 256) :
    CE Tryz.prog 5 [.slice (A) (n) (cp)] w (RetXE (γ := Nat × Nat × (Nat → Nat) × (Nat → Nat)) w [] (fun g => (schOk ((g.1 : Nat) : Int) ((g.2.1 : Nat) : Int) g.2.2.1 g.2.2.2 = true) ∧ (∀ k, g.2.2.1 k < 256) ∧ (∀ k, g.2.2.2 k < 256) ∧ (1 ≤ g.1 ∧ g.1 ≤ 5) ∧ (1 ≤ g.2.1 ∧ g.2.1 ≤ 6)) (fun g => .agg (schV ((g.1 : Nat) : Int) ((g.2.1 : Nat) : Int) (g.2.2.1) (g.2.2.2)).toArray) (fun g => [])) := by
  refine CE.enter 6 [(0, .slice (A) (n) (cp))] en_5 Tryz.func5 rfl rfl (Nat.le_of_ble_eq_true rfl) rfl ?_
  have st := St.start w
  refine Wc.seq ?_
  refine Wc.region rfl ?_
  refine Wl.alloc st tZ_27 rfl ?_
  clear st
  intro b2 w1 st
  refine Wl.nil ?_
  refine tn ?_
  refine Wc.seq ?_
  refine Wc.region rfl ?_
  refine Wl.pure (PR.moveL rfl) ?_
  refine Wl.callPn st (c_spec_l00From (A := A) (n := n) (cp := cp) (c := c) (hR.st st) hc) rfl ?_
  clear st
  intro b4 w2 st
  replace st : St [] w w2 [(b4, [.slice (A) (n) (cp), .int .i64 (0), .int .u64 (0)], 86), (b2, schV (0) (0) ((fun _ => 0)) ((fun _ => 0)), 27)] := st
  refine Wl.callXE [0] st (c_spec_l03Known (bs := b4) (A := A) (n := n) (cp := cp) (c := c) (t := 0) (sd := 0) (hR.ne st (i := 0) rfl) hc (by first | assumption | omega) (by first | assumption | omega) (st.lend (L' := [(b4, [.slice (A) (n) (cp), .int .i64 (0), .int .u64 (0)], 86)]) [0] (by decide) rfl)) rfl rfl ?_
  clear st
  rintro ⟨s__4, p__5, a__6, b__7, t__8, e__9⟩ ⟨hx_10, hx_11, hx_12, hx_13, hx_14, hx_15, hx_16⟩ w3 st
  try dsimp only at st hx_10 hx_11 hx_12 hx_13 hx_14 hx_15 hx_16
  replace st : St [] w w3 [(b4, [.slice (A) (n) (cp), .int .i64 (((t__8 : Nat) : Int)), .int .u64 (((e__9 : Nat) : Int))], 86), (b2, schV (0) (0) ((fun _ => 0)) ((fun _ => 0)), 27)] := st
  refine Wl.storeA (i := 1) (cs' := schV ((s__4 : Nat) : Int) ((p__5 : Nat) : Int) (a__6) (b__7)) st tA_27 rfl rfl schV_len schV_one rfl (le_of_len schV_len (by omega)) (all_put schV_len) ?_
  clear st
  intro w17 st
  replace st : St [] w w17 [(b4, [.slice (A) (n) (cp), .int .i64 (((t__8 : Nat) : Int)), .int .u64 (((e__9 : Nat) : Int))], 86), (b2, schV ((s__4 : Nat) : Int) ((p__5 : Nat) : Int) (a__6) (b__7), 27)] := st
  refine Wl.nil ?_
  refine tn ?_
  refine Wc.ret ?_
  refine postL.cell (i := 1) st rfl tA_27 rfl rfl schV_len ?_
  replace st : St [] w w17 [] := st.pick [] (by decide) rfl
  exact ⟨(s__4, p__5, a__6, b__7), ⟨(by dsimp only; assumption), (by dsimp only; first | assumption | omega), (by dsimp only; first | assumption | omega), (by dsimp only; first | assumption | omega), (by dsimp only; first | assumption | omega)⟩, rfl, st⟩

end Go.Proofs.YtabekcodjcbolaaGreat
