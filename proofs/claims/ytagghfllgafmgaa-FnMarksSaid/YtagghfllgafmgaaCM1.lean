/-
  Contracts of functions, printed by a program of ours.
-/
import Derived.Test.YtagghfllgafmgaaCR3
import Derived.Test.YtagghfllgafmgaaCB3
import Derived.Test.YtagghfllgafmgaaShare
import Derived.Test.YtagghfllgafmgaaFactsQ
import Derived.Test.YtagghfllgafmgaaApp
namespace Go.Proofs.Ytagghfllgafmgaa
open Go.RowKit
set_option linter.unusedVariables false
set_option linter.unusedSimpArgs false

set_option maxHeartbeats 400000 in
set_option maxRecDepth 4000 in
theorem c_spec_l00Src_next {bs : Nat} {A : Option Addr} {n : Nat} {cp : Nat} {c : Nat → Nat} {t : Nat} {sd : Nat} {w : World} (hR : RdN w A n (arrU .u8 n c) bs) (hc : ∀ k, c k < 256) (ht : t ≤ 1000000) (hsd : sd < 18446744073709551616) (hst : St [bs] w w [(bs, [.slice (A) (n) (cp), .int .i64 (((t : Nat) : Int)), .int .u64 (((sd : Nat) : Int))], 138)]) :
    CE Try.prog 99 [.pointer (some ⟨bs, 0, none⟩)] w (RetXE (γ := Nat × Nat × Nat) w [bs] (fun g => (g.1 < 256) ∧ (g.2.1 ≤ t + 1 ∧ t ≤ g.2.1) ∧ (g.2.2 < 18446744073709551616)) (fun g => .int .i64 (((g.1 : Nat) : Int))) (fun g => [(bs, [.slice (A) (n) (cp), .int .i64 (((g.2.1 : Nat) : Int)), .int .u64 (((g.2.2 : Nat) : Int))], 138)])) := by
  refine CE.enter 62 [(0, .pointer (some ⟨bs, 0, none⟩))] en_99 Try.func99 rfl rfl (Nat.le_of_ble_eq_true rfl) rfl ?_
  have st := hst
  refine Wc.seq ?_
  refine Wc.region rfl ?_
  refine Wl.pure (PR.assI rfl) ?_
  refine Wl.nil ?_
  refine tn ?_
  refine Wc.seq ?_
  refine Wc.region rfl ?_
  refine Wl.pure (PR.assI rfl) ?_
  refine Wl.nil ?_
  refine tn ?_
  refine Wc.seq ?_
  refine Wc.seq ?_
  refine Wc.quiet hmix (by kernel_rfl) rfl ?_
  refine Wq.pure (PR.moveP rfl) ?_
  refine Wq.pure (PR.nil_ rfl) ?_
  refine Wq.pure (PR.fieldAddr tF_138_1 rfl) ?_
  refine Wq.load (i := 0) st tA_3 rfl rfl (rfl) ?_
  refine Wq.pure (PR.moveP rfl) ?_
  refine Wq.pure (PR.nil_ rfl) ?_
  refine Wq.pure (PR.fieldAddr tF_138_0 rfl) ?_
  refine Wq.load (i := 0) st tA_68 rfl rfl (rfl) ?_
  refine Wq.pure (PR.lenL tS_68 rfl) ?_
  refine Wq.pure (PR.lss (a := ((t : Nat) : Int)) (b := ((n : Nat) : Int)) rfl rfl) ?_
  refine Wq.nil (fun w1 hbel => ?_)
  replace st := st.call hbel
  clear hbel
  refine tn ?_
  refine Wc.condD (p := ((t : Nat) : Int) < ((n : Nat) : Int)) rfl (fun h2 => ?_) (fun h2 => ?_)
  · have hcb := hc t
    refine Wc.quiet hmix (by kernel_rfl) rfl ?_
    refine Wq.pure (PR.moveP rfl) ?_
    refine Wq.pure (PR.nil_ rfl) ?_
    refine Wq.pure (PR.fieldAddr tF_138_0 rfl) ?_
    refine Wq.load (i := 0) st tA_68 rfl rfl (rfl) ?_
    refine Wq.pure (PR.moveP rfl) ?_
    refine Wq.pure (PR.nil_ rfl) ?_
    refine Wq.pure (PR.fieldAddr tF_138_1 rfl) ?_
    refine Wq.load (i := 0) st tA_3 rfl rfl (rfl) ?_
    obtain ⟨bs3, os4, rfl, hs5⟩ := hR (by omega)
    refine Wq.pure (PR.idxAddrS1 (i := t) tS_68 rfl rfl (by omega)) ?_
    refine Wq.loadC tA_5 rfl ((hs5.st st).at_ (arrU_get0 (by omega)) (Nat.add_assoc _ _ _).symm) ?_
    refine Wq.pure (PR.conv (n := ((c (t) : Nat) : Int)) tI_3 rfl (fitN (hc (t)) rfl) Try.underlying5) ?_
    refine Wq.pure (PR.assI rfl) ?_
    refine Wq.nil (fun w6 hbel => ?_)
    replace st := st.call hbel
    clear hbel
    refine tn ?_
    refine Wc.seq ?_
    refine Wc.region rfl ?_
    refine Wl.pure (PR.moveP rfl) ?_
    refine Wl.pure (PR.nil_ rfl) ?_
    refine Wl.pure (PR.fieldAddr tF_138_1 rfl) ?_
    refine Wl.load (i := 0) st tA_3 rfl rfl (rfl) ?_
    refine Wl.pure (PR.add (a := ((t : Nat) : Int)) (b := 1) rfl rfl (by simp only [fitI]; omega)) ?_
    refine Wl.pure (PR.nil_ rfl) ?_
    refine Wl.pure (PR.fieldAddr tF_138_1 rfl) ?_
    refine Wl.store (i := 0) (cs' := [.slice (some ⟨bs3, os4, none⟩) (n) (cp), .int .i64 ((((t + 1) : Nat) : Int)), .int .u64 (((sd : Nat) : Int))]) st tA_3 rfl rfl rfl rfl (by simp) (rfl) ?_
    clear st
    intro w7 st
    replace st : St [bs] w w7 [(bs, [.slice (some ⟨bs3, os4, none⟩) (n) (cp), .int .i64 ((((t + 1) : Nat) : Int)), .int .u64 (((sd : Nat) : Int))], 138)] := st
    refine Wl.nil ?_
    refine tn ?_
    refine Wc.seq ?_
    refine Wc.region rfl ?_
    refine Wl.pure (PR.moveP rfl) ?_
    refine Wl.pure (PR.moveP rfl) ?_
    refine Wl.pure (PR.nil_ rfl) ?_
    refine Wl.pure (PR.fieldAddr tF_138_2 rfl) ?_
    refine Wl.load (i := 0) st tA_51 rfl rfl (rfl) ?_
    refine Wl.pure (PR.mulU (a := sd) (b := 6364136223846793005) rfl rfl (by decide)) ?_
    refine Wl.pure (PR.moveI rfl) ?_
    refine Wl.pure (PR.conv (n := ((c (t) : Nat) : Int)) tI_51 rfl (by have := hc t; simp only [fitI]; omega) Try.underlying3) ?_
    refine Wl.pure (PR.addU (a := ((sd * 6364136223846793005) % 18446744073709551616)) (b := c (t)) rfl rfl (by decide)) ?_
    refine Wl.pure (PR.addU (a := ((((sd * 6364136223846793005) % 18446744073709551616) + (c (t))) % 18446744073709551616)) (b := 1442695040888963407) rfl rfl (by decide)) ?_
    refine Wl.pure (PR.nil_ rfl) ?_
    refine Wl.pure (PR.fieldAddr tF_138_2 rfl) ?_
    refine Wl.store (i := 0) (cs' := [.slice (some ⟨bs3, os4, none⟩) (n) (cp), .int .i64 ((((t + 1) : Nat) : Int)), .int .u64 (((((((((sd * 6364136223846793005) % 18446744073709551616) + (c (t))) % 18446744073709551616) + 1442695040888963407) % 18446744073709551616) : Nat) : Int))]) st tA_51 rfl rfl rfl rfl (by simp) (rfl) ?_
    clear st
    intro w8 st
    replace st : St [bs] w w8 [(bs, [.slice (some ⟨bs3, os4, none⟩) (n) (cp), .int .i64 ((((t + 1) : Nat) : Int)), .int .u64 (((((((((sd * 6364136223846793005) % 18446744073709551616) + (c (t))) % 18446744073709551616) + 1442695040888963407) % 18446744073709551616) : Nat) : Int))], 138)] := st
    refine Wl.nil ?_
    refine tn ?_
    refine Wc.seq ?_
    refine Wc.seq ?_
    refine Wc.quiet hmix (by kernel_rfl) rfl ?_
    refine Wq.pure (PR.moveP rfl) ?_
    refine Wq.pure (PR.nil_ rfl) ?_
    refine Wq.pure (PR.fieldAddr tF_138_1 rfl) ?_
    refine Wq.load (i := 0) st tA_3 rfl rfl (rfl) ?_
    refine Wq.pure (PR.moveP rfl) ?_
    refine Wq.pure (PR.nil_ rfl) ?_
    refine Wq.pure (PR.fieldAddr tF_138_0 rfl) ?_
    refine Wq.load (i := 0) st tA_68 rfl rfl (rfl) ?_
    refine Wq.pure (PR.lenL tS_68 rfl) ?_
    refine Wq.pure (PR.leq (a := (((t + 1) : Nat) : Int)) (b := ((n : Nat) : Int)) rfl rfl) ?_
    refine Wq.nil (fun w9 hbel => ?_)
    replace st := st.call hbel
    clear hbel
    refine tn ?_
    refine Wc.condD (p := (((t + 1) : Nat) : Int) ≤ ((n : Nat) : Int)) rfl (fun h10 => ?_) (fun h10 => ?_)
    · refine Wc.seq ?_
      refine Wc.region rfl ?_
      refine Wl.pure (PR.moveI rfl) ?_
      refine Wl.pure (PR.assI rfl) ?_
      refine Wl.nil ?_
      refine tn ?_
      refine Wc.ret ?_
      refine tr ?_
      refine postL.tmp rfl rfl ?_
      exact ⟨(c (t), (t + 1), ((((((sd * 6364136223846793005) % 18446744073709551616) + (c (t))) % 18446744073709551616) + 1442695040888963407) % 18446744073709551616)), ⟨(by dsimp only; first | decide | assumption | exact hc _ | exact Nat.lt_succ_of_le Nat.and_le_right), (by dsimp only; omega), (by dsimp only; first | exact Nat.mod_lt _ (by decide) | assumption)⟩, rfl, st⟩
    · refine Wc.skip ?_
      refine tn ?_
      refine Wc.seq ?_
      refine Wc.region rfl ?_
      refine Wl.pure (PR.moveP rfl) ?_
      refine Wl.pure (PR.nil_ rfl) ?_
      refine Wl.pure (PR.fieldAddr tF_138_2 rfl) ?_
      refine Wl.load (i := 0) st tA_51 rfl rfl (rfl) ?_
      refine Wl.pure (PR.shr (a := ((((((sd * 6364136223846793005) % 18446744073709551616) + (c (t))) % 18446744073709551616) + 1442695040888963407) % 18446744073709551616)) (n := 40) rfl rfl (by decide) (Nat.mod_lt _ (by decide))) ?_
      refine Wl.pure (PR.and (a := (((((((sd * 6364136223846793005) % 18446744073709551616) + (c (t))) % 18446744073709551616) + 1442695040888963407) % 18446744073709551616) >>> 40)) (b := 255) rfl rfl (by decide) (shr_lt (Nat.mod_lt _ (by decide))) (by decide)) ?_
      refine Wl.pure (PR.conv (n := ((((((((((sd * 6364136223846793005) % 18446744073709551616) + (c (t))) % 18446744073709551616) + 1442695040888963407) % 18446744073709551616) >>> 40) &&& 255) : Nat) : Int)) tI_2 rfl (fit255 Nat.and_le_right) Try.underlying51) ?_
      refine Wl.pure (PR.assI rfl) ?_
      refine Wl.nil ?_
      refine tn ?_
      refine Wc.ret ?_
      refine postL.tmp rfl rfl ?_
      exact ⟨(((((((((sd * 6364136223846793005) % 18446744073709551616) + (c (t))) % 18446744073709551616) + 1442695040888963407) % 18446744073709551616) >>> 40) &&& 255), (t + 1), ((((((sd * 6364136223846793005) % 18446744073709551616) + (c (t))) % 18446744073709551616) + 1442695040888963407) % 18446744073709551616)), ⟨(by dsimp only; first | decide | assumption | exact hc _ | exact Nat.lt_succ_of_le Nat.and_le_right), (by dsimp only; omega), (by dsimp only; first | exact Nat.mod_lt _ (by decide) | assumption)⟩, rfl, st⟩
  · refine Wc.skip ?_
    refine tn ?_
    refine Wc.seq ?_
    refine Wc.region rfl ?_
    refine Wl.pure (PR.moveP rfl) ?_
    refine Wl.pure (PR.nil_ rfl) ?_
    refine Wl.pure (PR.fieldAddr tF_138_1 rfl) ?_
    refine Wl.load (i := 0) st tA_3 rfl rfl (rfl) ?_
    refine Wl.pure (PR.add (a := ((t : Nat) : Int)) (b := 1) rfl rfl (by simp only [fitI]; omega)) ?_
    refine Wl.pure (PR.nil_ rfl) ?_
    refine Wl.pure (PR.fieldAddr tF_138_1 rfl) ?_
    refine Wl.store (i := 0) (cs' := [.slice (A) (n) (cp), .int .i64 ((((t + 1) : Nat) : Int)), .int .u64 (((sd : Nat) : Int))]) st tA_3 rfl rfl rfl rfl (by simp) (rfl) ?_
    clear st
    intro w11 st
    replace st : St [bs] w w11 [(bs, [.slice (A) (n) (cp), .int .i64 ((((t + 1) : Nat) : Int)), .int .u64 (((sd : Nat) : Int))], 138)] := st
    refine Wl.nil ?_
    refine tn ?_
    refine Wc.seq ?_
    refine Wc.region rfl ?_
    refine Wl.pure (PR.moveP rfl) ?_
    refine Wl.pure (PR.moveP rfl) ?_
    refine Wl.pure (PR.nil_ rfl) ?_
    refine Wl.pure (PR.fieldAddr tF_138_2 rfl) ?_
    refine Wl.load (i := 0) st tA_51 rfl rfl (rfl) ?_
    refine Wl.pure (PR.mulU (a := sd) (b := 6364136223846793005) rfl rfl (by decide)) ?_
    refine Wl.pure (PR.moveI rfl) ?_
    refine Wl.pure (PR.conv (n := 0) tI_51 rfl (by have := hc t; simp only [fitI]; omega) Try.underlying3) ?_
    refine Wl.pure (PR.addU (a := ((sd * 6364136223846793005) % 18446744073709551616)) (b := 0) rfl rfl (by decide)) ?_
    refine Wl.pure (PR.addU (a := ((((sd * 6364136223846793005) % 18446744073709551616) + 0) % 18446744073709551616)) (b := 1442695040888963407) rfl rfl (by decide)) ?_
    refine Wl.pure (PR.nil_ rfl) ?_
    refine Wl.pure (PR.fieldAddr tF_138_2 rfl) ?_
    refine Wl.store (i := 0) (cs' := [.slice (A) (n) (cp), .int .i64 ((((t + 1) : Nat) : Int)), .int .u64 (((((((((sd * 6364136223846793005) % 18446744073709551616) + 0) % 18446744073709551616) + 1442695040888963407) % 18446744073709551616) : Nat) : Int))]) st tA_51 rfl rfl rfl rfl (by simp) (rfl) ?_
    clear st
    intro w12 st
    replace st : St [bs] w w12 [(bs, [.slice (A) (n) (cp), .int .i64 ((((t + 1) : Nat) : Int)), .int .u64 (((((((((sd * 6364136223846793005) % 18446744073709551616) + 0) % 18446744073709551616) + 1442695040888963407) % 18446744073709551616) : Nat) : Int))], 138)] := st
    refine Wl.nil ?_
    refine tn ?_
    refine Wc.seq ?_
    refine Wc.seq ?_
    refine Wc.quiet hmix (by kernel_rfl) rfl ?_
    refine Wq.pure (PR.moveP rfl) ?_
    refine Wq.pure (PR.nil_ rfl) ?_
    refine Wq.pure (PR.fieldAddr tF_138_1 rfl) ?_
    refine Wq.load (i := 0) st tA_3 rfl rfl (rfl) ?_
    refine Wq.pure (PR.moveP rfl) ?_
    refine Wq.pure (PR.nil_ rfl) ?_
    refine Wq.pure (PR.fieldAddr tF_138_0 rfl) ?_
    refine Wq.load (i := 0) st tA_68 rfl rfl (rfl) ?_
    refine Wq.pure (PR.lenL tS_68 rfl) ?_
    refine Wq.pure (PR.leq (a := (((t + 1) : Nat) : Int)) (b := ((n : Nat) : Int)) rfl rfl) ?_
    refine Wq.nil (fun w13 hbel => ?_)
    replace st := st.call hbel
    clear hbel
    refine tn ?_
    refine Wc.condD (p := (((t + 1) : Nat) : Int) ≤ ((n : Nat) : Int)) rfl (fun h14 => ?_) (fun h14 => ?_)
    · refine Wc.seq ?_
      refine Wc.region rfl ?_
      refine Wl.pure (PR.moveI rfl) ?_
      refine Wl.pure (PR.assI rfl) ?_
      refine Wl.nil ?_
      refine tn ?_
      refine Wc.ret ?_
      refine tr ?_
      refine postL.tmp rfl rfl ?_
      exact ⟨(0, (t + 1), ((((((sd * 6364136223846793005) % 18446744073709551616) + 0) % 18446744073709551616) + 1442695040888963407) % 18446744073709551616)), ⟨(by dsimp only; first | decide | assumption | exact hc _ | exact Nat.lt_succ_of_le Nat.and_le_right), (by dsimp only; omega), (by dsimp only; first | exact Nat.mod_lt _ (by decide) | assumption)⟩, rfl, st⟩
    · refine Wc.skip ?_
      refine tn ?_
      refine Wc.seq ?_
      refine Wc.region rfl ?_
      refine Wl.pure (PR.moveP rfl) ?_
      refine Wl.pure (PR.nil_ rfl) ?_
      refine Wl.pure (PR.fieldAddr tF_138_2 rfl) ?_
      refine Wl.load (i := 0) st tA_51 rfl rfl (rfl) ?_
      refine Wl.pure (PR.shr (a := ((((((sd * 6364136223846793005) % 18446744073709551616) + 0) % 18446744073709551616) + 1442695040888963407) % 18446744073709551616)) (n := 40) rfl rfl (by decide) (Nat.mod_lt _ (by decide))) ?_
      refine Wl.pure (PR.and (a := (((((((sd * 6364136223846793005) % 18446744073709551616) + 0) % 18446744073709551616) + 1442695040888963407) % 18446744073709551616) >>> 40)) (b := 255) rfl rfl (by decide) (shr_lt (Nat.mod_lt _ (by decide))) (by decide)) ?_
      refine Wl.pure (PR.conv (n := ((((((((((sd * 6364136223846793005) % 18446744073709551616) + 0) % 18446744073709551616) + 1442695040888963407) % 18446744073709551616) >>> 40) &&& 255) : Nat) : Int)) tI_2 rfl (fit255 Nat.and_le_right) Try.underlying51) ?_
      refine Wl.pure (PR.assI rfl) ?_
      refine Wl.nil ?_
      refine tn ?_
      refine Wc.ret ?_
      refine postL.tmp rfl rfl ?_
      exact ⟨(((((((((sd * 6364136223846793005) % 18446744073709551616) + 0) % 18446744073709551616) + 1442695040888963407) % 18446744073709551616) >>> 40) &&& 255), (t + 1), ((((((sd * 6364136223846793005) % 18446744073709551616) + 0) % 18446744073709551616) + 1442695040888963407) % 18446744073709551616)), ⟨(by dsimp only; first | decide | assumption | exact hc _ | exact Nat.lt_succ_of_le Nat.and_le_right), (by dsimp only; omega), (by dsimp only; first | exact Nat.mod_lt _ (by decide) | assumption)⟩, rfl, st⟩

set_option maxHeartbeats 400000 in
set_option maxRecDepth 4000 in
theorem c_spec_l00Src_pick {bs : Nat} {A : Option Addr} {n : Nat} {cp : Nat} {c : Nat → Nat} {t : Nat} {sd : Nat} {m : Nat} {w : World} (hR : RdN w A n (arrU .u8 n c) bs) (hc : ∀ k, c k < 256) (ht : t ≤ 990000) (hsd : sd < 18446744073709551616) (hm : m ≤ 4294967296) (hst : St [bs] w w [(bs, [.slice (A) (n) (cp), .int .i64 (((t : Nat) : Int)), .int .u64 (((sd : Nat) : Int))], 138)]) :
    CE Try.prog 69 [.pointer (some ⟨bs, 0, none⟩), .int .i64 (((m : Nat) : Int))] w (RetXE (γ := Nat × Nat × Nat) w [bs] (fun g => (g.1 < m ∨ (g.1 = 0 ∧ m ≤ 1)) ∧ (g.2.1 ≤ t + 2 ∧ t ≤ g.2.1) ∧ (g.2.2 < 18446744073709551616)) (fun g => .int .i64 (((g.1 : Nat) : Int))) (fun g => [(bs, [.slice (A) (n) (cp), .int .i64 (((g.2.1 : Nat) : Int)), .int .u64 (((g.2.2 : Nat) : Int))], 138)])) := by
  refine CE.enter 20 [(0, .pointer (some ⟨bs, 0, none⟩)), (1, .int .i64 (((m : Nat) : Int)))] en_69 Try.func69 rfl rfl (Nat.le_of_ble_eq_true rfl) rfl ?_
  have st := hst
  refine Wc.seq ?_
  refine Wc.region rfl ?_
  refine Wl.pure (PR.assI rfl) ?_
  refine Wl.nil ?_
  refine tn ?_
  refine Wc.seq ?_
  refine Wc.seq ?_
  refine Wc.region rfl ?_
  refine Wl.pure (PR.moveI rfl) ?_
  refine Wl.pure (PR.leq (a := ((m : Nat) : Int)) (b := 1) rfl rfl) ?_
  refine Wl.nil ?_
  refine tn ?_
  refine Wc.condD (p := ((m : Nat) : Int) ≤ 1) rfl (fun h1 => ?_) (fun h1 => ?_)
  · refine Wc.seq ?_
    refine Wc.region rfl ?_
    refine Wl.pure (PR.assI rfl) ?_
    refine Wl.nil ?_
    refine tn ?_
    refine Wc.ret ?_
    refine tr ?_
    refine postL.tmp rfl rfl ?_
    exact ⟨(0, t, sd), ⟨(by dsimp only; first | omega | exact pk_lt (by omega)), (by dsimp only; omega), (by dsimp only; first | exact Nat.mod_lt _ (by decide) | assumption)⟩, rfl, st⟩
  · refine Wc.skip ?_
    refine tn ?_
    refine Wc.seq ?_
    refine Wc.region rfl ?_
    refine Wl.pure (PR.moveP rfl) ?_
    refine Wl.callXE [0] st (c_spec_l00Src_next (bs := bs) (A := A) (n := n) (cp := cp) (c := c) (t := t) (sd := sd) (hR.st st) hc (by first | assumption | omega) hsd (st.lend (L' := [(bs, [.slice (A) (n) (cp), .int .i64 (((t : Nat) : Int)), .int .u64 (((sd : Nat) : Int))], 138)]) [0] (by decide) rfl)) rfl rfl ?_
    clear st
    rintro ⟨v__3, t__4, e__5⟩ ⟨hx_6, hx_7, hx_8⟩ w2 st
    try dsimp only at st hx_6 hx_7 hx_8
    replace st : St [bs] w w2 [(bs, [.slice (A) (n) (cp), .int .i64 (((t__4 : Nat) : Int)), .int .u64 (((e__5 : Nat) : Int))], 138)] := st
    refine Wl.pure (PR.assI rfl) ?_
    refine Wl.nil ?_
    refine tn ?_
    refine Wc.seq ?_
    refine Wc.seq ?_
    refine Wc.region rfl ?_
    refine Wl.pure (PR.moveI rfl) ?_
    refine Wl.pure (PR.gtr (a := ((m : Nat) : Int)) (b := 200) rfl rfl) ?_
    refine Wl.nil ?_
    refine tn ?_
    refine Wc.condD (p := 200 < ((m : Nat) : Int)) rfl (fun h9 => ?_) (fun h9 => ?_)
    · refine Wc.region rfl ?_
      refine Wl.pure (PR.moveI rfl) ?_
      refine Wl.pure (PR.mul (a := ((v__3 : Nat) : Int)) (b := 256) rfl rfl (by simp only [fitI]; omega)) ?_
      refine Wl.pure (PR.moveP rfl) ?_
      refine Wl.callXE [0] st (c_spec_l00Src_next (bs := bs) (A := A) (n := n) (cp := cp) (c := c) (t := t__4) (sd := e__5) (hR.st st) hc (by first | assumption | omega) (by first | assumption | omega) (st.lend (L' := [(bs, [.slice (A) (n) (cp), .int .i64 (((t__4 : Nat) : Int)), .int .u64 (((e__5 : Nat) : Int))], 138)]) [0] (by decide) rfl)) rfl rfl ?_
      clear st
      rintro ⟨v__11, t__12, e__13⟩ ⟨hx_14, hx_15, hx_16⟩ w10 st
      try dsimp only at st hx_14 hx_15 hx_16
      replace st : St [bs] w w10 [(bs, [.slice (A) (n) (cp), .int .i64 (((t__12 : Nat) : Int)), .int .u64 (((e__13 : Nat) : Int))], 138)] := st
      refine Wl.pure (PR.add (a := (((v__3 * 256) : Nat) : Int)) (b := ((v__11 : Nat) : Int)) rfl rfl (by simp only [fitI]; omega)) ?_
      refine Wl.pure (PR.assI rfl) ?_
      refine Wl.nil ?_
      refine tn ?_
      refine Wc.seq ?_
      refine Wc.region rfl ?_
      refine Wl.pure (PR.moveI rfl) ?_
      refine Wl.pure (PR.moveI rfl) ?_
      refine Wl.pure (PR.rem (a := ((((v__3 * 256) + v__11) : Nat) : Int)) (b := ((m : Nat) : Int)) rfl rfl (by omega) (by omega)) ?_
      refine Wl.pure (PR.assI rfl) ?_
      refine Wl.nil ?_
      refine tn ?_
      refine Wc.ret ?_
      refine postL.tmp rfl rfl ?_
      exact ⟨((((v__3 * 256) + v__11) % m), t__12, e__13), ⟨(by dsimp only; first | omega | exact pk_lt (by omega)), (by dsimp only; omega), (by dsimp only; first | exact Nat.mod_lt _ (by decide) | assumption)⟩, rfl, st⟩
    · refine Wc.skip ?_
      refine tn ?_
      refine Wc.seq ?_
      refine Wc.region rfl ?_
      refine Wl.pure (PR.moveI rfl) ?_
      refine Wl.pure (PR.moveI rfl) ?_
      refine Wl.pure (PR.rem (a := ((v__3 : Nat) : Int)) (b := ((m : Nat) : Int)) rfl rfl (by omega) (by omega)) ?_
      refine Wl.pure (PR.assI rfl) ?_
      refine Wl.nil ?_
      refine tn ?_
      refine Wc.ret ?_
      refine postL.tmp rfl rfl ?_
      exact ⟨((v__3 % m), t__4, e__5), ⟨(by dsimp only; first | omega | exact pk_lt (by omega)), (by dsimp only; omega), (by dsimp only; first | exact Nat.mod_lt _ (by decide) | assumption)⟩, rfl, st⟩

set_option maxHeartbeats 400000 in
set_option maxRecDepth 4000 in
theorem c_spec_l01Pictured {bs : Nat} {A : Option Addr} {n : Nat} {cp : Nat} {c : Nat → Nat} {t : Nat} {sd : Nat} {w : World} (hR : RdN w A n (arrU .u8 n c) bs) (hc : ∀ k, c k < 256) (ht : t ≤ 980000) (hsd : sd < 18446744073709551616) (hst : St [bs] w w [(bs, [.slice (A) (n) (cp), .int .i64 (((t : Nat) : Int)), .int .u64 (((sd : Nat) : Int))], 138)]) :
    CE Try.prog 65 [.pointer (some ⟨bs, 0, none⟩)] w (RetXE (γ := Nat × Nat × Nat) w [bs] (fun g => (g.1 < 18446744073709551616) ∧ (g.2.1 ≤ t + 6 ∧ t ≤ g.2.1) ∧ (g.2.2 < 18446744073709551616)) (fun g => .int .u64 (((g.1 : Nat) : Int))) (fun g => [(bs, [.slice (A) (n) (cp), .int .i64 (((g.2.1 : Nat) : Int)), .int .u64 (((g.2.2 : Nat) : Int))], 138)])) := by
  refine CE.enter 27 [(0, .pointer (some ⟨bs, 0, none⟩))] en_65 Try.func65 rfl rfl (Nat.le_of_ble_eq_true rfl) rfl ?_
  have st := hst
  refine Wc.seq ?_
  refine Wc.region rfl ?_
  refine Wl.pure (PR.assI rfl) ?_
  refine Wl.nil ?_
  refine tn ?_
  refine Wc.seq ?_
  refine Wc.seq ?_
  refine Wc.region rfl ?_
  refine Wl.pure (PR.moveP rfl) ?_
  refine Wl.callXE [0] st (c_spec_l00Src_pick (bs := bs) (A := A) (n := n) (cp := cp) (c := c) (t := t) (sd := sd) (m := 8) (hR.st st) hc (by first | assumption | omega) hsd (by first | assumption | omega) (st.lend (L' := [(bs, [.slice (A) (n) (cp), .int .i64 (((t : Nat) : Int)), .int .u64 (((sd : Nat) : Int))], 138)]) [0] (by decide) rfl)) rfl rfl ?_
  clear st
  rintro ⟨v__2, t__3, e__4⟩ ⟨hx_5, hx_6, hx_7⟩ w1 st
  try dsimp only at st hx_5 hx_6 hx_7
  replace st : St [bs] w w1 [(bs, [.slice (A) (n) (cp), .int .i64 (((t__3 : Nat) : Int)), .int .u64 (((e__4 : Nat) : Int))], 138)] := st
  refine Wl.nil ?_
  refine tn ?_
  refine Wc.block ?_
  refine Wc.seq ?_
  refine Wc.region rfl ?_
  refine Wl.pure (PR.eql (a := ((v__2 : Nat) : Int)) (b := 0) rfl rfl) ?_
  refine Wl.pure (PR.assB rfl) ?_
  refine Wl.nil ?_
  refine tn ?_
  refine Wc.condD (p := ((v__2 : Nat) : Int) = 0) rfl (fun h8 => ?_) (fun h8 => ?_)
  · refine Wc.seq ?_
    refine Wc.region rfl ?_
    refine Wl.pure (PR.assI rfl) ?_
    refine Wl.nil ?_
    refine tn ?_
    refine Wc.ret ?_
    refine br ?_
    refine tr ?_
    refine postL.tmp rfl rfl ?_
    exact ⟨(0, t__3, e__4), ⟨(by dsimp only; first | decide | exact Nat.mod_lt _ (by decide) | exact or_lt_u64 (Nat.mod_lt _ (by decide)) (by omega)), (by dsimp only; omega), (by dsimp only; first | exact Nat.mod_lt _ (by decide) | assumption)⟩, rfl, st⟩
  · refine Wc.seq ?_
    refine Wc.region rfl ?_
    refine Wl.pure (PR.eql (a := ((v__2 : Nat) : Int)) (b := 1) rfl rfl) ?_
    refine Wl.pure (PR.assB rfl) ?_
    refine Wl.nil ?_
    refine tn ?_
    refine Wc.condD (p := ((v__2 : Nat) : Int) = 1) rfl (fun h9 => ?_) (fun h9 => ?_)
    · refine Wc.seq ?_
      refine Wc.region rfl ?_
      refine Wl.pure (PR.assI rfl) ?_
      refine Wl.nil ?_
      refine tn ?_
      refine Wc.ret ?_
      refine br ?_
      refine tr ?_
      refine postL.tmp rfl rfl ?_
      exact ⟨(18446744073709551615, t__3, e__4), ⟨(by dsimp only; first | decide | exact Nat.mod_lt _ (by decide) | exact or_lt_u64 (Nat.mod_lt _ (by decide)) (by omega)), (by dsimp only; omega), (by dsimp only; first | exact Nat.mod_lt _ (by decide) | assumption)⟩, rfl, st⟩
    · refine Wc.seq ?_
      refine Wc.region rfl ?_
      refine Wl.pure (PR.eql (a := ((v__2 : Nat) : Int)) (b := 2) rfl rfl) ?_
      refine Wl.pure (PR.assB rfl) ?_
      refine Wl.nil ?_
      refine tn ?_
      refine Wc.condD (p := ((v__2 : Nat) : Int) = 2) rfl (fun h10 => ?_) (fun h10 => ?_)
      · refine Wc.seq ?_
        refine Wc.region rfl ?_
        refine Wl.pure (PR.moveP rfl) ?_
        refine Wl.callXE [0] st (c_spec_l00Src_pick (bs := bs) (A := A) (n := n) (cp := cp) (c := c) (t := t__3) (sd := e__4) (m := 64) (hR.st st) hc (by first | assumption | omega) (by first | assumption | omega) (by first | assumption | omega) (st.lend (L' := [(bs, [.slice (A) (n) (cp), .int .i64 (((t__3 : Nat) : Int)), .int .u64 (((e__4 : Nat) : Int))], 138)]) [0] (by decide) rfl)) rfl rfl ?_
        clear st
        rintro ⟨v__12, t__13, e__14⟩ ⟨hx_15, hx_16, hx_17⟩ w11 st
        try dsimp only at st hx_15 hx_16 hx_17
        replace st : St [bs] w w11 [(bs, [.slice (A) (n) (cp), .int .i64 (((t__13 : Nat) : Int)), .int .u64 (((e__14 : Nat) : Int))], 138)] := st
        refine Wl.pure (PR.conv (n := ((v__12 : Nat) : Int)) tI_76 rfl (by simp only [fitI]; omega) Try.underlying2) ?_
        refine Wl.pure (PR.shl (a := 1) (n := v__12) rfl rfl (by decide)) ?_
        refine Wl.pure (PR.assI rfl) ?_
        refine Wl.nil ?_
        refine tn ?_
        refine Wc.ret ?_
        refine br ?_
        refine tr ?_
        refine postL.tmp rfl rfl ?_
        exact ⟨(((1 <<< v__12) % 18446744073709551616), t__13, e__14), ⟨(by dsimp only; first | decide | exact Nat.mod_lt _ (by decide) | exact or_lt_u64 (Nat.mod_lt _ (by decide)) (by omega)), (by dsimp only; omega), (by dsimp only; first | exact Nat.mod_lt _ (by decide) | assumption)⟩, rfl, st⟩
      · refine Wc.skip ?_
        refine bn ?_
        refine tn ?_
        refine Wc.seq ?_
        refine Wc.region rfl ?_
        refine Wl.pure (PR.moveP rfl) ?_
        refine Wl.callXE [0] st (c_spec_l00Src_pick (bs := bs) (A := A) (n := n) (cp := cp) (c := c) (t := t__3) (sd := e__4) (m := 1073741824) (hR.st st) hc (by first | assumption | omega) (by first | assumption | omega) (by first | assumption | omega) (st.lend (L' := [(bs, [.slice (A) (n) (cp), .int .i64 (((t__3 : Nat) : Int)), .int .u64 (((e__4 : Nat) : Int))], 138)]) [0] (by decide) rfl)) rfl rfl ?_
        clear st
        rintro ⟨v__19, t__20, e__21⟩ ⟨hx_22, hx_23, hx_24⟩ w18 st
        try dsimp only at st hx_22 hx_23 hx_24
        replace st : St [bs] w w18 [(bs, [.slice (A) (n) (cp), .int .i64 (((t__20 : Nat) : Int)), .int .u64 (((e__21 : Nat) : Int))], 138)] := st
        refine Wl.pure (PR.conv (n := ((v__19 : Nat) : Int)) tI_54 rfl (by simp only [fitI]; omega) Try.underlying2) ?_
        refine Wl.pure (PR.assI rfl) ?_
        refine Wl.nil ?_
        refine tn ?_
        refine Wc.seq ?_
        refine Wc.region rfl ?_
        refine Wl.pure (PR.moveP rfl) ?_
        refine Wl.callXE [0] st (c_spec_l00Src_pick (bs := bs) (A := A) (n := n) (cp := cp) (c := c) (t := t__20) (sd := e__21) (m := 1073741824) (hR.st st) hc (by first | assumption | omega) (by first | assumption | omega) (by first | assumption | omega) (st.lend (L' := [(bs, [.slice (A) (n) (cp), .int .i64 (((t__20 : Nat) : Int)), .int .u64 (((e__21 : Nat) : Int))], 138)]) [0] (by decide) rfl)) rfl rfl ?_
        clear st
        rintro ⟨v__26, t__27, e__28⟩ ⟨hx_29, hx_30, hx_31⟩ w25 st
        try dsimp only at st hx_29 hx_30 hx_31
        replace st : St [bs] w w25 [(bs, [.slice (A) (n) (cp), .int .i64 (((t__27 : Nat) : Int)), .int .u64 (((e__28 : Nat) : Int))], 138)] := st
        refine Wl.pure (PR.conv (n := ((v__26 : Nat) : Int)) tI_54 rfl (by simp only [fitI]; omega) Try.underlying2) ?_
        refine Wl.pure (PR.assI rfl) ?_
        refine Wl.nil ?_
        refine tn ?_
        refine Wc.seq ?_
        refine Wc.region rfl ?_
        refine Wl.pure (PR.moveI rfl) ?_
        refine Wl.pure (PR.shl (a := v__19) (n := 34) rfl rfl (by decide)) ?_
        refine Wl.pure (PR.moveI rfl) ?_
        refine Wl.pure (PR.or (a := ((v__19 <<< 34) % 18446744073709551616)) (b := v__26) rfl rfl (by decide) (Nat.mod_lt _ (by decide)) (show _ < 18446744073709551616 by omega)) ?_
        refine Wl.pure (PR.assI rfl) ?_
        refine Wl.nil ?_
        refine tn ?_
        refine Wc.ret ?_
        refine postL.tmp rfl rfl ?_
        exact ⟨((((v__19 <<< 34) % 18446744073709551616) ||| v__26), t__27, e__28), ⟨(by dsimp only; first | decide | exact Nat.mod_lt _ (by decide) | exact or_lt_u64 (Nat.mod_lt _ (by decide)) (by omega)), (by dsimp only; omega), (by dsimp only; first | exact Nat.mod_lt _ (by decide) | assumption)⟩, rfl, st⟩

set_option maxHeartbeats 400000 in
set_option maxRecDepth 4000 in
theorem c_spec_l03Seed {bs : Nat} {A : Option Addr} {n : Nat} {cp : Nat} {c : Nat → Nat} {t : Nat} {sd : Nat} {w : World} (hR : RdN w A n (arrU .u8 n c) bs) (hc : ∀ k, c k < 256) (ht : t ≤ 980000) (hsd : sd < 18446744073709551616) (hst : St [bs] w w [(bs, [.slice (A) (n) (cp), .int .i64 (((t : Nat) : Int)), .int .u64 (((sd : Nat) : Int))], 138)]) :
    CE Try.prog 66 [.pointer (some ⟨bs, 0, none⟩)] w (RetXE (γ := Nat × Nat × Nat) w [bs] (fun g => (g.1 < 4294967296) ∧ (g.2.1 ≤ t + 2 ∧ t ≤ g.2.1) ∧ (g.2.2 < 18446744073709551616)) (fun g => .int .u32 (((g.1 : Nat) : Int))) (fun g => [(bs, [.slice (A) (n) (cp), .int .i64 (((g.2.1 : Nat) : Int)), .int .u64 (((g.2.2 : Nat) : Int))], 138)])) := by
  refine CE.enter 7 [(0, .pointer (some ⟨bs, 0, none⟩))] en_66 Try.func66 rfl rfl (Nat.le_of_ble_eq_true rfl) rfl ?_
  have st := hst
  refine Wc.seq ?_
  refine Wc.region rfl ?_
  refine Wl.pure (PR.assI rfl) ?_
  refine Wl.nil ?_
  refine tn ?_
  refine Wc.seq ?_
  refine Wc.region rfl ?_
  refine Wl.pure (PR.moveP rfl) ?_
  refine Wl.callXE [0] st (c_spec_l00Src_pick (bs := bs) (A := A) (n := n) (cp := cp) (c := c) (t := t) (sd := sd) (m := 1073741824) (hR.st st) hc (by first | assumption | omega) hsd (by first | assumption | omega) (st.lend (L' := [(bs, [.slice (A) (n) (cp), .int .i64 (((t : Nat) : Int)), .int .u64 (((sd : Nat) : Int))], 138)]) [0] (by decide) rfl)) rfl rfl ?_
  clear st
  rintro ⟨v__2, t__3, e__4⟩ ⟨hx_5, hx_6, hx_7⟩ w1 st
  try dsimp only at st hx_5 hx_6 hx_7
  replace st : St [bs] w w1 [(bs, [.slice (A) (n) (cp), .int .i64 (((t__3 : Nat) : Int)), .int .u64 (((e__4 : Nat) : Int))], 138)] := st
  refine Wl.pure (PR.conv (n := ((v__2 : Nat) : Int)) tI_26 rfl (by simp only [fitI]; omega) Try.underlying2) ?_
  refine Wl.pure (PR.mulU (a := v__2) (b := 5) rfl rfl (by decide)) ?_
  refine Wl.pure (PR.assI rfl) ?_
  refine Wl.nil ?_
  refine tn ?_
  refine Wc.ret ?_
  refine postL.tmp rfl rfl ?_
  exact ⟨(((v__2 * 5) % 4294967296), t__3, e__4), ⟨(by dsimp only; first | decide | exact Nat.mod_lt _ (by decide)), (by dsimp only; omega), (by dsimp only; first | exact Nat.mod_lt _ (by decide) | assumption)⟩, rfl, st⟩

set_option maxHeartbeats 400000 in
set_option maxRecDepth 4000 in
theorem c_spec_l00From {A : Option Addr} {n : Nat} {cp : Nat} {c : Nat → Nat} {w : World} (hR : RdS w A n (arrU .u8 n c)) (hc : ∀ k, c k < 256) :
    CE Try.prog 64 [.slice (A) (n) (cp)] w (RetP w 138 ([.slice (A) (n) (cp), .int .i64 (0), .int .u64 (0)])) := by
  refine CE.enter 6 [(0, .slice (A) (n) (cp))] en_64 Try.func64 rfl rfl (Nat.le_of_ble_eq_true rfl) rfl ?_
  have st := St.start w
  refine Wc.seq ?_
  refine Wc.region rfl ?_
  refine Wl.pure (PR.assV ((.pointer none)) rfl) ?_
  refine Wl.nil ?_
  refine tn ?_
  refine Wc.seq ?_
  refine Wc.region rfl ?_
  refine Wl.pure (PR.moveL rfl) ?_
  refine Wl.pure (PR.build (ps := [(0, .slice (A) (n) (cp))]) (cs := [.slice (A) (n) (cp), .int .i64 (0), .int .u64 (0)]) tB_138 rfl rfl) ?_
  refine Wl.boxA st rfl ?_
  clear st
  intro b5 w1 st
  refine Wl.pure (PR.assP rfl) ?_
  refine Wl.nil ?_
  refine tn ?_
  refine Wc.ret ?_
  refine postL.tmp rfl rfl ?_
  exact ⟨b5, rfl, st⟩

set_option maxHeartbeats 400000 in
set_option maxRecDepth 4000 in
theorem c_spec_P6Picture {A : Option Addr} {n : Nat} {cp : Nat} {c : Nat → Nat} {w : World} (hR : RdS w A n (arrU .u8 n c)) (hc : ∀ k, c k < 256) :
    CE Try.prog 36 [.slice (A) (n) (cp)] w (RetXE (γ := Nat) w [] (fun g => (g < 18446744073709551616)) (fun g => .int .u64 (((g : Nat) : Int))) (fun g => [])) := by
  refine CE.enter 6 [(0, .slice (A) (n) (cp))] en_36 Try.func36 rfl rfl (Nat.le_of_ble_eq_true rfl) rfl ?_
  have st := St.start w
  refine Wc.seq ?_
  refine Wc.region rfl ?_
  refine Wl.pure (PR.assI rfl) ?_
  refine Wl.nil ?_
  refine tn ?_
  refine Wc.seq ?_
  refine Wc.region rfl ?_
  refine Wl.pure (PR.moveL rfl) ?_
  refine Wl.callPn st (c_spec_l00From (A := A) (n := n) (cp := cp) (c := c) (hR.st st) hc) rfl ?_
  clear st
  intro b4 w1 st
  replace st : St [] w w1 [(b4, [.slice (A) (n) (cp), .int .i64 (0), .int .u64 (0)], 138)] := st
  refine Wl.callXE [0] st (c_spec_l01Pictured (bs := b4) (A := A) (n := n) (cp := cp) (c := c) (t := 0) (sd := 0) (hR.ne st (i := 0) rfl) hc (by first | assumption | omega) (by first | assumption | omega) (st.lend (L' := [(b4, [.slice (A) (n) (cp), .int .i64 (0), .int .u64 (0)], 138)]) [0] (by decide) rfl)) rfl rfl ?_
  clear st
  rintro ⟨p__3, t__4, e__5⟩ ⟨hx_6, hx_7, hx_8⟩ w2 st
  try dsimp only at st hx_6 hx_7 hx_8
  replace st : St [] w w2 [(b4, [.slice (A) (n) (cp), .int .i64 (((t__4 : Nat) : Int)), .int .u64 (((e__5 : Nat) : Int))], 138)] := st
  refine Wl.pure (PR.assI rfl) ?_
  refine Wl.nil ?_
  refine tn ?_
  refine Wc.ret ?_
  refine postL.tmp rfl rfl ?_
  replace st : St [] w w2 [] := st.pick [] (by decide) rfl
  exact ⟨p__3, (by dsimp only; assumption), rfl, st⟩

set_option maxHeartbeats 400000 in
set_option maxRecDepth 4000 in
theorem c_spec_P6Seed {A : Option Addr} {n : Nat} {cp : Nat} {c : Nat → Nat} {w : World} (hR : RdS w A n (arrU .u8 n c)) (hc : ∀ k, c k < 256) :
    CE Try.prog 37 [.slice (A) (n) (cp)] w (RetXE (γ := Nat) w [] (fun g => (g < 4294967296)) (fun g => .int .u32 (((g : Nat) : Int))) (fun g => [])) := by
  refine CE.enter 6 [(0, .slice (A) (n) (cp))] en_37 Try.func37 rfl rfl (Nat.le_of_ble_eq_true rfl) rfl ?_
  have st := St.start w
  refine Wc.seq ?_
  refine Wc.region rfl ?_
  refine Wl.pure (PR.assI rfl) ?_
  refine Wl.nil ?_
  refine tn ?_
  refine Wc.seq ?_
  refine Wc.region rfl ?_
  refine Wl.pure (PR.moveL rfl) ?_
  refine Wl.callPn st (c_spec_l00From (A := A) (n := n) (cp := cp) (c := c) (hR.st st) hc) rfl ?_
  clear st
  intro b4 w1 st
  replace st : St [] w w1 [(b4, [.slice (A) (n) (cp), .int .i64 (0), .int .u64 (0)], 138)] := st
  refine Wl.callXE [0] st (c_spec_l03Seed (bs := b4) (A := A) (n := n) (cp := cp) (c := c) (t := 0) (sd := 0) (hR.ne st (i := 0) rfl) hc (by first | assumption | omega) (by first | assumption | omega) (st.lend (L' := [(b4, [.slice (A) (n) (cp), .int .i64 (0), .int .u64 (0)], 138)]) [0] (by decide) rfl)) rfl rfl ?_
  clear st
  rintro ⟨x__3, t__4, e__5⟩ ⟨hx_6, hx_7, hx_8⟩ w2 st
  try dsimp only at st hx_6 hx_7 hx_8
  replace st : St [] w w2 [(b4, [.slice (A) (n) (cp), .int .i64 (((t__4 : Nat) : Int)), .int .u64 (((e__5 : Nat) : Int))], 138)] := st
  refine Wl.pure (PR.assI rfl) ?_
  refine Wl.nil ?_
  refine tn ?_
  refine Wc.ret ?_
  refine postL.tmp rfl rfl ?_
  replace st : St [] w w2 [] := st.pick [] (by decide) rfl
  exact ⟨x__3, (by dsimp only; assumption), rfl, st⟩

set_option maxHeartbeats 400000 in
set_option maxRecDepth 4000 in
theorem c_spec_P6Pick {A : Option Addr} {n : Nat} {cp : Nat} {c : Nat → Nat} {m : Nat} {w : World} (hR : RdS w A n (arrU .u8 n c)) (hc : ∀ k, c k < 256) (hm : m ≤ 4294967296) :
    CE Try.prog 39 [.slice (A) (n) (cp), .int .i64 (((m : Nat) : Int))] w (RetXE (γ := Nat) w [] (fun g => (g < m ∨ (g = 0 ∧ m ≤ 1))) (fun g => .int .i64 (((g : Nat) : Int))) (fun g => [])) := by
  refine CE.enter 9 [(0, .slice (A) (n) (cp)), (1, .int .i64 (((m : Nat) : Int)))] en_39 Try.func39 rfl rfl (Nat.le_of_ble_eq_true rfl) rfl ?_
  have st := St.start w
  refine Wc.seq ?_
  refine Wc.region rfl ?_
  refine Wl.pure (PR.assI rfl) ?_
  refine Wl.nil ?_
  refine tn ?_
  refine Wc.seq ?_
  refine Wc.region rfl ?_
  refine Wl.pure (PR.moveL rfl) ?_
  refine Wl.callPn st (c_spec_l00From (A := A) (n := n) (cp := cp) (c := c) (hR.st st) hc) rfl ?_
  clear st
  intro b6 w1 st
  replace st : St [] w w1 [(b6, [.slice (A) (n) (cp), .int .i64 (0), .int .u64 (0)], 138)] := st
  refine Wl.pure (PR.moveI rfl) ?_
  refine Wl.callXE [0] st (c_spec_l00Src_pick (bs := b6) (A := A) (n := n) (cp := cp) (c := c) (t := 0) (sd := 0) (m := m) (hR.ne st (i := 0) rfl) hc (by first | assumption | omega) (by first | assumption | omega) (by first | assumption | omega) (st.lend (L' := [(b6, [.slice (A) (n) (cp), .int .i64 (0), .int .u64 (0)], 138)]) [0] (by decide) rfl)) rfl rfl ?_
  clear st
  rintro ⟨v__3, t__4, e__5⟩ ⟨hx_6, hx_7, hx_8⟩ w2 st
  try dsimp only at st hx_6 hx_7 hx_8
  replace st : St [] w w2 [(b6, [.slice (A) (n) (cp), .int .i64 (((t__4 : Nat) : Int)), .int .u64 (((e__5 : Nat) : Int))], 138)] := st
  refine Wl.pure (PR.assI rfl) ?_
  refine Wl.nil ?_
  refine tn ?_
  refine Wc.ret ?_
  refine postL.tmp rfl rfl ?_
  replace st : St [] w w2 [] := st.pick [] (by decide) rfl
  exact ⟨v__3, (by dsimp only; assumption), rfl, st⟩

set_option maxHeartbeats 400000 in
set_option maxRecDepth 4000 in
theorem c_laws_f6big {A : Option Addr} {n : Nat} {cp : Nat} {w : World} (hn : n ≤ 9223372036854775807) :
    CE Try.prog 34 [.slice (A) (n) (cp)] w (RetV w (.bool (decide ((4096 : Int) < ((n : Nat) : Int))))) := by
  refine CE.enter 6 [(0, .slice (A) (n) (cp))] en_34 Try.func34 rfl rfl (Nat.le_of_ble_eq_true rfl) rfl ?_
  have st := St.start w
  refine Wc.seq ?_
  refine Wc.region rfl ?_
  refine Wl.pure (PR.assB rfl) ?_
  refine Wl.nil ?_
  refine tn ?_
  refine Wc.seq ?_
  refine Wc.region rfl ?_
  refine Wl.pure (PR.moveL rfl) ?_
  refine Wl.pure (PR.lenL tS_68 rfl) ?_
  refine Wl.pure (PR.gtr (a := ((n : Nat) : Int)) (b := 4096) rfl rfl) ?_
  refine Wl.pure (PR.assB rfl) ?_
  refine Wl.nil ?_
  refine tn ?_
  refine Wc.ret ?_
  refine postL.tmp rfl rfl ?_
  refine RetV.of ?_ st.below
  refine congrArg Value.bool ?_
  first | rfl | (exfalso; omega) | (simp only [*, decide_true, decide_false, Bool.not_true, Bool.not_false]; done) | (simp; omega) | (rw [Bool.eq_iff_iff]; simp; omega) | simp_all

set_option maxHeartbeats 400000 in
set_option maxRecDepth 4000 in
theorem c_spec_l03Known {bs : Nat} {A : Option Addr} {n : Nat} {cp : Nat} {c : Nat → Nat} {t : Nat} {sd : Nat} {w : World} (hR : RdN w A n (arrU .u8 n c) bs) (hc : ∀ k, c k < 256) (ht : t ≤ 980000) (hsd : sd < 18446744073709551616) (hst : St [bs] w w [(bs, [.slice (A) (n) (cp), .int .i64 (((t : Nat) : Int)), .int .u64 (((sd : Nat) : Int))], 138)]) :
    CE Try.prog 63 [.pointer (some ⟨bs, 0, none⟩)] w (RetXE (γ := Nat × Nat × (Nat → Nat) × (Nat → Nat) × Nat × Nat) w [bs] (fun g => (schOk ((g.1 : Nat) : Int) ((g.2.1 : Nat) : Int) g.2.2.1 g.2.2.2.1 = true) ∧ (∀ k, g.2.2.1 k < 256) ∧ (∀ k, g.2.2.2.1 k < 256) ∧ (1 ≤ g.1 ∧ g.1 ≤ 5) ∧ (1 ≤ g.2.1 ∧ g.2.1 ≤ 6) ∧ (g.2.2.2.2.1 ≤ t + 60 ∧ t ≤ g.2.2.2.2.1) ∧ (g.2.2.2.2.2 < 18446744073709551616)) (fun g => .agg (schV ((g.1 : Nat) : Int) ((g.2.1 : Nat) : Int) (g.2.2.1) (g.2.2.2.1)).toArray) (fun g => [(bs, [.slice (A) (n) (cp), .int .i64 (((g.2.2.2.2.1 : Nat) : Int)), .int .u64 (((g.2.2.2.2.2 : Nat) : Int))], 138)])) := by
  refine CE.enter 59 [(0, .pointer (some ⟨bs, 0, none⟩))] en_63 Try.func63 rfl rfl (Nat.le_of_ble_eq_true rfl) rfl ?_
  have st := hst
  refine Wc.seq ?_
  refine Wc.region rfl ?_
  refine Wl.alloc st tZ_62 rfl ?_
  clear st
  intro b2 w1 st
  refine Wl.nil ?_
  refine tn ?_
  refine Wc.seq ?_
  refine Wc.seq ?_
  refine Wc.region rfl ?_
  refine Wl.pure (PR.moveP rfl) ?_
  refine Wl.callXE [1] st (c_spec_l00Src_pick (bs := bs) (A := A) (n := n) (cp := cp) (c := c) (t := t) (sd := sd) (m := 4) (hR.st st) hc (by first | assumption | omega) hsd (by first | assumption | omega) (st.lend (L' := [(bs, [.slice (A) (n) (cp), .int .i64 (((t : Nat) : Int)), .int .u64 (((sd : Nat) : Int))], 138)]) [1] (by decide) rfl)) rfl rfl ?_
  clear st
  rintro ⟨v__3, t__4, e__5⟩ ⟨hx_6, hx_7, hx_8⟩ w2 st
  try dsimp only at st hx_6 hx_7 hx_8
  replace st : St [bs] w w2 [(bs, [.slice (A) (n) (cp), .int .i64 (((t__4 : Nat) : Int)), .int .u64 (((e__5 : Nat) : Int))], 138), (b2, schV (0) (0) ((fun _ => 0)) ((fun _ => 0)), 62)] := st
  refine Wl.nil ?_
  refine tn ?_
  refine Wc.block ?_
  refine Wc.seq ?_
  refine Wc.region rfl ?_
  refine Wl.pure (PR.eql (a := ((v__3 : Nat) : Int)) (b := 0) rfl rfl) ?_
  refine Wl.pure (PR.assB rfl) ?_
  refine Wl.nil ?_
  refine tn ?_
  refine Wc.condD (p := ((v__3 : Nat) : Int) = 0) rfl (fun h9 => ?_) (fun h9 => ?_)
  · refine Wc.seq ?_
    refine Wc.region rfl ?_
    refine Wl.pure (PR.build (ps := [(0, .int .u8 (1)), (1, .int .u8 (1))]) (cs := arrU .u8 6 (upd (upd (fun _ => 0) (0) (1)) (1) (1))) tB_56 rfl rfl) ?_
    refine Wl.pure (PR.build (ps := [(0, .int .u8 (1)), (1, .int .u8 (2))]) (cs := arrU .u8 6 (upd (upd (fun _ => 0) (0) (1)) (1) (2))) tB_56 rfl rfl) ?_
    refine Wl.pure (PR.build (ps := [(0, .int .i8 (2)), (1, .int .i8 (2)), (2, .agg (arrU .u8 6 (upd (upd (fun _ => 0) (0) (1)) (1) (1))).toArray), (3, .agg (arrU .u8 6 (upd (upd (fun _ => 0) (0) (1)) (1) (2))).toArray)]) (cs := schV ((2 : Nat) : Int) ((2 : Nat) : Int) (upd (upd (fun _ => 0) (0) (1)) (1) (1)) (upd (upd (fun _ => 0) (0) (1)) (1) (2))) tB_62 rfl rfl) ?_
    refine Wl.storeA (i := 1) (cs' := schV ((2 : Nat) : Int) ((2 : Nat) : Int) (upd (upd (fun _ => 0) (0) (1)) (1) (1)) (upd (upd (fun _ => 0) (0) (1)) (1) (2))) st tA_62 rfl rfl schV_len schV_one rfl (le_of_len schV_len (by omega)) (all_put schV_len) ?_
    clear st
    intro w10 st
    replace st : St [bs] w w10 [(bs, [.slice (A) (n) (cp), .int .i64 (((t__4 : Nat) : Int)), .int .u64 (((e__5 : Nat) : Int))], 138), (b2, schV ((2 : Nat) : Int) ((2 : Nat) : Int) (upd (upd (fun _ => 0) (0) (1)) (1) (1)) (upd (upd (fun _ => 0) (0) (1)) (1) (2)), 62)] := st
    refine Wl.nil ?_
    refine tn ?_
    refine Wc.ret ?_
    refine br ?_
    refine tr ?_
    refine postL.cell (i := 1) st rfl tA_62 rfl rfl schV_len ?_
    replace st : St [bs] w w10 [(bs, [.slice (A) (n) (cp), .int .i64 (((t__4 : Nat) : Int)), .int .u64 (((e__5 : Nat) : Int))], 138)] := st.pick [0] (by decide) rfl
    exact ⟨(2, 2, upd (upd (fun _ => 0) (0) (1)) (1) (1), upd (upd (fun _ => 0) (0) (1)) (1) (2), t__4, e__5), ⟨(by dsimp only; first | exact known_1 | exact known_2 | exact known_3 | exact drawn_ok (by omega) (by omega) hka hkb), (by dsimp only; first | exact known_b1 | assumption | exact upd_lt (upd_lt (fun _ => by decide) (by decide)) (by decide) | exact upd_lt (upd_lt (upd_lt (fun _ => by decide) (by decide)) (by decide)) (by decide)), (by dsimp only; first | assumption | exact upd_lt (upd_lt (fun _ => by decide) (by decide)) (by decide) | exact upd_lt (upd_lt (upd_lt (fun _ => by decide) (by decide)) (by decide)) (by decide)), (by dsimp only; omega), (by dsimp only; omega), (by dsimp only; omega), (by dsimp only; first | exact Nat.mod_lt _ (by decide) | assumption)⟩, rfl, st⟩
  · refine Wc.seq ?_
    refine Wc.region rfl ?_
    refine Wl.pure (PR.eql (a := ((v__3 : Nat) : Int)) (b := 1) rfl rfl) ?_
    refine Wl.pure (PR.assB rfl) ?_
    refine Wl.nil ?_
    refine tn ?_
    refine Wc.condD (p := ((v__3 : Nat) : Int) = 1) rfl (fun h11 => ?_) (fun h11 => ?_)
    · refine Wc.seq ?_
      refine Wc.region rfl ?_
      refine Wl.pure (PR.build (ps := [(0, .int .u8 (1)), (1, .int .u8 (1)), (2, .int .u8 (1))]) (cs := arrU .u8 6 (upd (upd (upd (fun _ => 0) (0) (1)) (1) (1)) (2) (1))) tB_56 rfl rfl) ?_
      refine Wl.pure (PR.build (ps := [(0, .int .u8 (1)), (1, .int .u8 (2)), (2, .int .u8 (4))]) (cs := arrU .u8 6 (upd (upd (upd (fun _ => 0) (0) (1)) (1) (2)) (2) (4))) tB_56 rfl rfl) ?_
      refine Wl.pure (PR.build (ps := [(0, .int .i8 (3)), (1, .int .i8 (3)), (2, .agg (arrU .u8 6 (upd (upd (upd (fun _ => 0) (0) (1)) (1) (1)) (2) (1))).toArray), (3, .agg (arrU .u8 6 (upd (upd (upd (fun _ => 0) (0) (1)) (1) (2)) (2) (4))).toArray)]) (cs := schV ((3 : Nat) : Int) ((3 : Nat) : Int) (upd (upd (upd (fun _ => 0) (0) (1)) (1) (1)) (2) (1)) (upd (upd (upd (fun _ => 0) (0) (1)) (1) (2)) (2) (4))) tB_62 rfl rfl) ?_
      refine Wl.storeA (i := 1) (cs' := schV ((3 : Nat) : Int) ((3 : Nat) : Int) (upd (upd (upd (fun _ => 0) (0) (1)) (1) (1)) (2) (1)) (upd (upd (upd (fun _ => 0) (0) (1)) (1) (2)) (2) (4))) st tA_62 rfl rfl schV_len schV_one rfl (le_of_len schV_len (by omega)) (all_put schV_len) ?_
      clear st
      intro w12 st
      replace st : St [bs] w w12 [(bs, [.slice (A) (n) (cp), .int .i64 (((t__4 : Nat) : Int)), .int .u64 (((e__5 : Nat) : Int))], 138), (b2, schV ((3 : Nat) : Int) ((3 : Nat) : Int) (upd (upd (upd (fun _ => 0) (0) (1)) (1) (1)) (2) (1)) (upd (upd (upd (fun _ => 0) (0) (1)) (1) (2)) (2) (4)), 62)] := st
      refine Wl.nil ?_
      refine tn ?_
      refine Wc.ret ?_
      refine br ?_
      refine tr ?_
      refine postL.cell (i := 1) st rfl tA_62 rfl rfl schV_len ?_
      replace st : St [bs] w w12 [(bs, [.slice (A) (n) (cp), .int .i64 (((t__4 : Nat) : Int)), .int .u64 (((e__5 : Nat) : Int))], 138)] := st.pick [0] (by decide) rfl
      exact ⟨(3, 3, upd (upd (upd (fun _ => 0) (0) (1)) (1) (1)) (2) (1), upd (upd (upd (fun _ => 0) (0) (1)) (1) (2)) (2) (4), t__4, e__5), ⟨(by dsimp only; first | exact known_1 | exact known_2 | exact known_3 | exact drawn_ok (by omega) (by omega) hka hkb), (by dsimp only; first | exact known_b1 | assumption | exact upd_lt (upd_lt (fun _ => by decide) (by decide)) (by decide) | exact upd_lt (upd_lt (upd_lt (fun _ => by decide) (by decide)) (by decide)) (by decide)), (by dsimp only; first | assumption | exact upd_lt (upd_lt (fun _ => by decide) (by decide)) (by decide) | exact upd_lt (upd_lt (upd_lt (fun _ => by decide) (by decide)) (by decide)) (by decide)), (by dsimp only; omega), (by dsimp only; omega), (by dsimp only; omega), (by dsimp only; first | exact Nat.mod_lt _ (by decide) | assumption)⟩, rfl, st⟩
    · refine Wc.seq ?_
      refine Wc.region rfl ?_
      refine Wl.pure (PR.eql (a := ((v__3 : Nat) : Int)) (b := 2) rfl rfl) ?_
      refine Wl.pure (PR.assB rfl) ?_
      refine Wl.nil ?_
      refine tn ?_
      refine Wc.condD (p := ((v__3 : Nat) : Int) = 2) rfl (fun h13 => ?_) (fun h13 => ?_)
      · refine Wc.seq ?_
        refine Wc.region rfl ?_
        refine Wl.pure (PR.build (ps := [(0, .int .u8 (12)), (1, .int .u8 (10)), (2, .int .u8 (6))]) (cs := arrU .u8 6 (upd (upd (upd (fun _ => 0) (0) (12)) (1) (10)) (2) (6))) tB_56 rfl rfl) ?_
        refine Wl.pure (PR.build (ps := [(0, .int .u8 (3)), (1, .int .u8 (5)), (2, .int .u8 (9))]) (cs := arrU .u8 6 (upd (upd (upd (fun _ => 0) (0) (3)) (1) (5)) (2) (9))) tB_56 rfl rfl) ?_
        refine Wl.pure (PR.build (ps := [(0, .int .i8 (3)), (1, .int .i8 (4)), (2, .agg (arrU .u8 6 (upd (upd (upd (fun _ => 0) (0) (12)) (1) (10)) (2) (6))).toArray), (3, .agg (arrU .u8 6 (upd (upd (upd (fun _ => 0) (0) (3)) (1) (5)) (2) (9))).toArray)]) (cs := schV ((3 : Nat) : Int) ((4 : Nat) : Int) (upd (upd (upd (fun _ => 0) (0) (12)) (1) (10)) (2) (6)) (upd (upd (upd (fun _ => 0) (0) (3)) (1) (5)) (2) (9))) tB_62 rfl rfl) ?_
        refine Wl.storeA (i := 1) (cs' := schV ((3 : Nat) : Int) ((4 : Nat) : Int) (upd (upd (upd (fun _ => 0) (0) (12)) (1) (10)) (2) (6)) (upd (upd (upd (fun _ => 0) (0) (3)) (1) (5)) (2) (9))) st tA_62 rfl rfl schV_len schV_one rfl (le_of_len schV_len (by omega)) (all_put schV_len) ?_
        clear st
        intro w14 st
        replace st : St [bs] w w14 [(bs, [.slice (A) (n) (cp), .int .i64 (((t__4 : Nat) : Int)), .int .u64 (((e__5 : Nat) : Int))], 138), (b2, schV ((3 : Nat) : Int) ((4 : Nat) : Int) (upd (upd (upd (fun _ => 0) (0) (12)) (1) (10)) (2) (6)) (upd (upd (upd (fun _ => 0) (0) (3)) (1) (5)) (2) (9)), 62)] := st
        refine Wl.nil ?_
        refine tn ?_
        refine Wc.ret ?_
        refine br ?_
        refine tr ?_
        refine postL.cell (i := 1) st rfl tA_62 rfl rfl schV_len ?_
        replace st : St [bs] w w14 [(bs, [.slice (A) (n) (cp), .int .i64 (((t__4 : Nat) : Int)), .int .u64 (((e__5 : Nat) : Int))], 138)] := st.pick [0] (by decide) rfl
        exact ⟨(3, 4, upd (upd (upd (fun _ => 0) (0) (12)) (1) (10)) (2) (6), upd (upd (upd (fun _ => 0) (0) (3)) (1) (5)) (2) (9), t__4, e__5), ⟨(by dsimp only; first | exact known_1 | exact known_2 | exact known_3 | exact drawn_ok (by omega) (by omega) hka hkb), (by dsimp only; first | exact known_b1 | assumption | exact upd_lt (upd_lt (fun _ => by decide) (by decide)) (by decide) | exact upd_lt (upd_lt (upd_lt (fun _ => by decide) (by decide)) (by decide)) (by decide)), (by dsimp only; first | assumption | exact upd_lt (upd_lt (fun _ => by decide) (by decide)) (by decide) | exact upd_lt (upd_lt (upd_lt (fun _ => by decide) (by decide)) (by decide)) (by decide)), (by dsimp only; omega), (by dsimp only; omega), (by dsimp only; omega), (by dsimp only; first | exact Nat.mod_lt _ (by decide) | assumption)⟩, rfl, st⟩
      · refine Wc.skip ?_
        refine bn ?_
        refine tn ?_
        refine Wc.seq ?_
        refine Wc.region rfl ?_
        refine Wl.pure (PR.moveP rfl) ?_
        refine Wl.callXE [0] st (c_spec_l00Src_pick (bs := bs) (A := A) (n := n) (cp := cp) (c := c) (t := t__4) (sd := e__5) (m := 5) (hR.st st) hc (by first | assumption | omega) (by first | assumption | omega) (by first | assumption | omega) (st.lend (L' := [(bs, [.slice (A) (n) (cp), .int .i64 (((t__4 : Nat) : Int)), .int .u64 (((e__5 : Nat) : Int))], 138)]) [0] (by decide) rfl)) rfl rfl ?_
        clear st
        rintro ⟨v__16, t__17, e__18⟩ ⟨hx_19, hx_20, hx_21⟩ w15 st
        try dsimp only at st hx_19 hx_20 hx_21
        replace st : St [bs] w w15 [(bs, [.slice (A) (n) (cp), .int .i64 (((t__17 : Nat) : Int)), .int .u64 (((e__18 : Nat) : Int))], 138), (b2, schV (0) (0) ((fun _ => 0)) ((fun _ => 0)), 62)] := st
        refine Wl.pure (PR.add (a := 1) (b := ((v__16 : Nat) : Int)) rfl rfl (by simp only [fitI]; omega)) ?_
        refine Wl.pure (PR.conv (n := (((1 + v__16) : Nat) : Int)) tI_22 rfl (by simp only [fitI]; omega) Try.underlying2) ?_
        refine Wl.pure (PR.moveP rfl) ?_
        refine Wl.callXE [0] st (c_spec_l00Src_pick (bs := bs) (A := A) (n := n) (cp := cp) (c := c) (t := t__17) (sd := e__18) (m := 6) (hR.st st) hc (by first | assumption | omega) (by first | assumption | omega) (by first | assumption | omega) (st.lend (L' := [(bs, [.slice (A) (n) (cp), .int .i64 (((t__17 : Nat) : Int)), .int .u64 (((e__18 : Nat) : Int))], 138)]) [0] (by decide) rfl)) rfl rfl ?_
        clear st
        rintro ⟨v__23, t__24, e__25⟩ ⟨hx_26, hx_27, hx_28⟩ w22 st
        try dsimp only at st hx_26 hx_27 hx_28
        replace st : St [bs] w w22 [(bs, [.slice (A) (n) (cp), .int .i64 (((t__24 : Nat) : Int)), .int .u64 (((e__25 : Nat) : Int))], 138), (b2, schV (0) (0) ((fun _ => 0)) ((fun _ => 0)), 62)] := st
        refine Wl.pure (PR.add (a := 1) (b := ((v__23 : Nat) : Int)) rfl rfl (by simp only [fitI]; omega)) ?_
        refine Wl.pure (PR.conv (n := (((1 + v__23) : Nat) : Int)) tI_22 rfl (by simp only [fitI]; omega) Try.underlying2) ?_
        refine Wl.pure (PR.build (ps := [(0, .int .i8 ((((1 + v__16) : Nat) : Int))), (1, .int .i8 ((((1 + v__23) : Nat) : Int)))]) (cs := schV (((1 + v__16) : Nat) : Int) (((1 + v__23) : Nat) : Int) ((fun _ => 0)) ((fun _ => 0))) tB_62 rfl rfl) ?_
        refine Wl.alloc st tZ_62 rfl ?_
        clear st
        intro b3 w29 st
        refine Wl.storeA (i := 0) (cs' := schV (((1 + v__16) : Nat) : Int) (((1 + v__23) : Nat) : Int) ((fun _ => 0)) ((fun _ => 0))) st tA_62 rfl rfl schV_len schV_one rfl (le_of_len schV_len (by omega)) (all_put schV_len) ?_
        clear st
        intro w30 st
        replace st : St [bs] w w30 [(b3, schV (((1 + v__16) : Nat) : Int) (((1 + v__23) : Nat) : Int) ((fun _ => 0)) ((fun _ => 0)), 62), (bs, [.slice (A) (n) (cp), .int .i64 (((t__24 : Nat) : Int)), .int .u64 (((e__25 : Nat) : Int))], 138), (b2, schV (0) (0) ((fun _ => 0)) ((fun _ => 0)), 62)] := st
        refine Wl.nil ?_
        refine tn ?_
        refine Wc.seq ?_
        refine Wc.seq ?_
        refine Wc.region rfl ?_
        refine Wl.pure (PR.assI rfl) ?_
        refine Wl.nil ?_
        refine tn ?_
        refine Wc.block ?_
        refine Wc.loopF (γ := Nat × Nat × Nat × (Nat → Nat) × (Nat → Nat)) (fun g => [(0, .pointer (some ⟨bs, 0, none⟩)), (2, .pointer (some ⟨b2, 0, none⟩)), (3, .pointer (some ⟨b3, 0, none⟩)), (4, .int .i64 (((g.1 : Nat) : Int)))]) (fun g w_ => St [bs] w w_ [(b3, schV (((1 + v__16) : Nat) : Int) (((1 + v__23) : Nat) : Int) (g.2.2.2.1) (g.2.2.2.2), 62), (bs, [.slice (A) (n) (cp), .int .i64 (((g.2.1 : Nat) : Int)), .int .u64 (((g.2.2.1 : Nat) : Int))], 138), (b2, schV (0) (0) ((fun _ => 0)) ((fun _ => 0)), 62)] ∧ (g.1 ≤ (1 + v__16)) ∧ (g.2.1 ≤ t + 6 + 4 * g.1 ∧ t ≤ g.2.1) ∧ (g.2.2.1 < 18446744073709551616) ∧ (∀ k, g.2.2.2.1 k < 2 ^ ((1 + v__23)) ∧ ((1 + v__16) ≤ k → g.2.2.2.1 k = 0)) ∧ (∀ k, g.2.2.2.2 k < 2 ^ ((1 + v__23)) ∧ ((1 + v__16) ≤ k → g.2.2.2.2 k = 0)) ∧ (∀ k, g.2.2.2.1 k < 256) ∧ (∀ k, g.2.2.2.2 k < 256)) (fun g => (1 + v__16) - g.1) ?_ ?_
        · exact ⟨(0, t__24, e__25, (fun _ => 0), (fun _ => 0)), (.cons rfl (.cons rfl (.cons rfl (.cons rfl (.nil _))))), st, (by first | omega | (dsimp only; omega)), (by first | omega | (dsimp only; omega)), (by assumption), (fun k => ⟨Nat.two_pow_pos _, fun _ => rfl⟩), (fun k => ⟨Nat.two_pow_pos _, fun _ => rfl⟩), (fun _ => show (0 : Nat) < 256 by decide), (fun _ => show (0 : Nat) < 256 by decide)⟩
        clear st
        rintro ⟨i, t1, e1, a1, b1⟩ w31 ⟨st, hi, ht1, he1, hka, hkb, hab, hbb⟩
        try dsimp only at st hi ht1 he1 hka hkb hab hbb ⊢
        have h64 := shl_64 (k := (1 + v__23)) (by omega)
        refine Wc.seq ?_
        refine Wc.seq ?_
        refine Wc.region rfl ?_
        refine Wl.pure (PR.moveI rfl) ?_
        refine Wl.pure (PR.fieldAddr tF_62_0 rfl) ?_
        refine Wl.load (i := 0) st tA_22 rfl rfl (rfl) ?_
        refine Wl.pure (PR.conv (n := (((1 + v__16) : Nat) : Int)) tI_3 rfl (by simp only [fitI]; omega) Try.underlying22) ?_
        refine Wl.pure (PR.lss (a := ((i : Nat) : Int)) (b := (((1 + v__16) : Nat) : Int)) rfl rfl) ?_
        refine Wl.nil ?_
        refine tn ?_
        refine Wc.condD (p := ((i : Nat) : Int) < (((1 + v__16) : Nat) : Int)) rfl (fun h32 => ?_) (fun h32 => ?_)
        · refine Wc.skip ?_
          refine tn ?_
          refine Wc.seq ?_
          refine Wc.block ?_
          refine Wc.seq ?_
          refine Wc.region rfl ?_
          refine Wl.pure (PR.moveI rfl) ?_
          refine Wl.pure (PR.moveP rfl) ?_
          refine Wl.pure (PR.fieldAddr tF_62_1 rfl) ?_
          refine Wl.load (i := 0) st tA_22 rfl rfl (rfl) ?_
          refine Wl.pure (PR.conv (n := (((1 + v__23) : Nat) : Int)) tI_76 rfl (by simp only [fitI]; omega) Try.underlying22) ?_
          refine Wl.pure (PR.shlI (a := 1) (n := (1 + v__23)) rfl rfl (by omega) (shl_62 (by omega))) ?_
          refine Wl.callXE [1] st (c_spec_l00Src_pick (bs := bs) (A := A) (n := n) (cp := cp) (c := c) (t := t1) (sd := e1) (m := (1 <<< (1 + v__23))) (hR.st st) hc (by first | assumption | omega) he1 (by first | assumption | omega) (st.lend (L' := [(bs, [.slice (A) (n) (cp), .int .i64 (((t1 : Nat) : Int)), .int .u64 (((e1 : Nat) : Int))], 138)]) [1] (by decide) rfl)) rfl rfl ?_
          clear st
          rintro ⟨v__34, t__35, e__36⟩ ⟨hx_37, hx_38, hx_39⟩ w33 st
          try dsimp only at st hx_37 hx_38 hx_39
          replace st : St [bs] w w33 [(bs, [.slice (A) (n) (cp), .int .i64 (((t__35 : Nat) : Int)), .int .u64 (((e__36 : Nat) : Int))], 138), (b3, schV (((1 + v__16) : Nat) : Int) (((1 + v__23) : Nat) : Int) (a1) (b1), 62), (b2, schV (0) (0) ((fun _ => 0)) ((fun _ => 0)), 62)] := st
          refine Wl.pure (PR.conv (n := ((v__34 : Nat) : Int)) tI_5 rfl (by simp only [fitI]; omega) Try.underlying2) ?_
          refine Wl.pure (PR.fieldAddr tF_62_2 rfl) ?_
          refine Wl.pure (PR.idxAddrA1 (i := i) tE_56 rfl rfl (by omega)) ?_
          refine Wl.store (i := 1) (cs' := schV (((1 + v__16) : Nat) : Int) (((1 + v__23) : Nat) : Int) (upd a1 (i) (v__34)) (b1)) st tA_5 rfl rfl rfl rfl (lt_of_len schV_len (by omega)) (schV_set_a (by omega)) ?_
          clear st
          intro w40 st
          replace st : St [bs] w w40 [(bs, [.slice (A) (n) (cp), .int .i64 (((t__35 : Nat) : Int)), .int .u64 (((e__36 : Nat) : Int))], 138), (b3, schV (((1 + v__16) : Nat) : Int) (((1 + v__23) : Nat) : Int) (upd a1 (i) (v__34)) (b1), 62), (b2, schV (0) (0) ((fun _ => 0)) ((fun _ => 0)), 62)] := st
          refine Wl.nil ?_
          refine tn ?_
          refine Wc.region rfl ?_
          refine Wl.pure (PR.moveI rfl) ?_
          refine Wl.pure (PR.moveP rfl) ?_
          refine Wl.pure (PR.fieldAddr tF_62_1 rfl) ?_
          refine Wl.load (i := 1) st tA_22 rfl rfl (rfl) ?_
          refine Wl.pure (PR.conv (n := (((1 + v__23) : Nat) : Int)) tI_76 rfl (by simp only [fitI]; omega) Try.underlying22) ?_
          refine Wl.pure (PR.shlI (a := 1) (n := (1 + v__23)) rfl rfl (by omega) (shl_62 (by omega))) ?_
          refine Wl.callXE [0] st (c_spec_l00Src_pick (bs := bs) (A := A) (n := n) (cp := cp) (c := c) (t := t__35) (sd := e__36) (m := (1 <<< (1 + v__23))) (hR.st st) hc (by first | assumption | omega) (by first | assumption | omega) (by first | assumption | omega) (st.lend (L' := [(bs, [.slice (A) (n) (cp), .int .i64 (((t__35 : Nat) : Int)), .int .u64 (((e__36 : Nat) : Int))], 138)]) [0] (by decide) rfl)) rfl rfl ?_
          clear st
          rintro ⟨v__42, t__43, e__44⟩ ⟨hx_45, hx_46, hx_47⟩ w41 st
          try dsimp only at st hx_45 hx_46 hx_47
          replace st : St [bs] w w41 [(bs, [.slice (A) (n) (cp), .int .i64 (((t__43 : Nat) : Int)), .int .u64 (((e__44 : Nat) : Int))], 138), (b3, schV (((1 + v__16) : Nat) : Int) (((1 + v__23) : Nat) : Int) (upd a1 (i) (v__34)) (b1), 62), (b2, schV (0) (0) ((fun _ => 0)) ((fun _ => 0)), 62)] := st
          refine Wl.pure (PR.conv (n := ((v__42 : Nat) : Int)) tI_5 rfl (by simp only [fitI]; omega) Try.underlying2) ?_
          refine Wl.pure (PR.fieldAddr tF_62_3 rfl) ?_
          refine Wl.pure (PR.idxAddrA1 (i := i) tE_56 rfl rfl (by omega)) ?_
          refine Wl.store (i := 1) (cs' := schV (((1 + v__16) : Nat) : Int) (((1 + v__23) : Nat) : Int) (upd a1 (i) (v__34)) (upd b1 (i) (v__42))) st tA_5 rfl rfl rfl rfl (lt_of_len schV_len (by omega)) (schV_set_b) ?_
          clear st
          intro w48 st
          replace st : St [bs] w w48 [(bs, [.slice (A) (n) (cp), .int .i64 (((t__43 : Nat) : Int)), .int .u64 (((e__44 : Nat) : Int))], 138), (b3, schV (((1 + v__16) : Nat) : Int) (((1 + v__23) : Nat) : Int) (upd a1 (i) (v__34)) (upd b1 (i) (v__42)), 62), (b2, schV (0) (0) ((fun _ => 0)) ((fun _ => 0)), 62)] := st
          refine Wl.nil ?_
          refine bn ?_
          refine tn ?_
          refine Wc.region rfl ?_
          refine Wl.pure (PR.moveI rfl) ?_
          refine Wl.pure (PR.add (a := ((i : Nat) : Int)) (b := 1) rfl rfl (by simp only [fitI]; omega)) ?_
          refine Wl.pure (PR.assI rfl) ?_
          refine Wl.nil ?_
          refine tn ?_
          replace st : St [bs] w w48 [(b3, schV (((1 + v__16) : Nat) : Int) (((1 + v__23) : Nat) : Int) (upd a1 (i) (v__34)) (upd b1 (i) (v__42)), 62), (bs, [.slice (A) (n) (cp), .int .i64 (((t__43 : Nat) : Int)), .int .u64 (((e__44 : Nat) : Int))], 138), (b2, schV (0) (0) ((fun _ => 0)) ((fun _ => 0)), 62)] := st.pick [1, 0, 2] (by decide) rfl
          exact ⟨(i + 1, t__43, e__44, upd a1 (i) (v__34), upd b1 (i) (v__42)), (.cons rfl (.cons rfl (.cons rfl (.cons rfl (.nil _))))), ⟨st, (by first | omega | (dsimp only; omega)), (by first | omega | (dsimp only; omega)), (by assumption), (drawn_up hka (by omega) (by assumption)), (drawn_up hkb (by omega) (by assumption)), (upd_lt hab (show _ < 256 by omega)), (upd_lt hbb (show _ < 256 by omega))⟩, (by first | omega | (dsimp only; omega))⟩
        · refine Wc.exit ?_
          refine tx ?_
          refine tx ?_
          refine bh ?_
          refine tn ?_
          refine Wc.seq ?_
          refine Wc.region rfl ?_
          refine Wl.loadA (i := 0) st tA_62 rfl rfl (all_sub schV_len) schV_len ?_
          refine Wl.storeA (i := 2) (cs' := schV (((1 + v__16) : Nat) : Int) (((1 + v__23) : Nat) : Int) (a1) (b1)) st tA_62 rfl rfl schV_len schV_one rfl (le_of_len schV_len (by omega)) (all_put schV_len) ?_
          clear st
          intro w49 st
          replace st : St [bs] w w49 [(b3, schV (((1 + v__16) : Nat) : Int) (((1 + v__23) : Nat) : Int) (a1) (b1), 62), (bs, [.slice (A) (n) (cp), .int .i64 (((t1 : Nat) : Int)), .int .u64 (((e1 : Nat) : Int))], 138), (b2, schV (((1 + v__16) : Nat) : Int) (((1 + v__23) : Nat) : Int) (a1) (b1), 62)] := st
          refine Wl.nil ?_
          refine tn ?_
          refine Wc.ret ?_
          refine postL.cell (i := 2) st rfl tA_62 rfl rfl schV_len ?_
          replace st : St [bs] w w49 [(bs, [.slice (A) (n) (cp), .int .i64 (((t1 : Nat) : Int)), .int .u64 (((e1 : Nat) : Int))], 138)] := st.pick [1] (by decide) rfl
          exact ⟨((1 + v__16), (1 + v__23), a1, b1, t1, e1), ⟨(by dsimp only; first | exact known_1 | exact known_2 | exact known_3 | exact drawn_ok (by omega) (by omega) hka hkb), (by dsimp only; first | exact known_b1 | assumption | exact upd_lt (upd_lt (fun _ => by decide) (by decide)) (by decide) | exact upd_lt (upd_lt (upd_lt (fun _ => by decide) (by decide)) (by decide)) (by decide)), (by dsimp only; first | assumption | exact upd_lt (upd_lt (fun _ => by decide) (by decide)) (by decide) | exact upd_lt (upd_lt (upd_lt (fun _ => by decide) (by decide)) (by decide)) (by decide)), (by dsimp only; omega), (by dsimp only; omega), (by dsimp only; omega), (by dsimp only; first | exact Nat.mod_lt _ (by decide) | assumption)⟩, rfl, st⟩

set_option maxHeartbeats 400000 in
set_option maxRecDepth 4000 in
theorem c_spec_P6Scheme {A : Option Addr} {n : Nat} {cp : Nat} {c : Nat → Nat} {w : World} (hR : RdS w A n (arrU .u8 n c)) (hc : ∀ k, c k < 256) :
    CE Try.prog 35 [.slice (A) (n) (cp)] w (RetXE (γ := Nat × Nat × (Nat → Nat) × (Nat → Nat)) w [] (fun g => (schOk ((g.1 : Nat) : Int) ((g.2.1 : Nat) : Int) g.2.2.1 g.2.2.2 = true) ∧ (∀ k, g.2.2.1 k < 256) ∧ (∀ k, g.2.2.2 k < 256) ∧ (1 ≤ g.1 ∧ g.1 ≤ 5) ∧ (1 ≤ g.2.1 ∧ g.2.1 ≤ 6)) (fun g => .agg (schV ((g.1 : Nat) : Int) ((g.2.1 : Nat) : Int) (g.2.2.1) (g.2.2.2)).toArray) (fun g => [])) := by
  refine CE.enter 6 [(0, .slice (A) (n) (cp))] en_35 Try.func35 rfl rfl (Nat.le_of_ble_eq_true rfl) rfl ?_
  have st := St.start w
  refine Wc.seq ?_
  refine Wc.region rfl ?_
  refine Wl.alloc st tZ_62 rfl ?_
  clear st
  intro b2 w1 st
  refine Wl.nil ?_
  refine tn ?_
  refine Wc.seq ?_
  refine Wc.region rfl ?_
  refine Wl.pure (PR.moveL rfl) ?_
  refine Wl.callPn st (c_spec_l00From (A := A) (n := n) (cp := cp) (c := c) (hR.st st) hc) rfl ?_
  clear st
  intro b4 w2 st
  replace st : St [] w w2 [(b4, [.slice (A) (n) (cp), .int .i64 (0), .int .u64 (0)], 138), (b2, schV (0) (0) ((fun _ => 0)) ((fun _ => 0)), 62)] := st
  refine Wl.callXE [0] st (c_spec_l03Known (bs := b4) (A := A) (n := n) (cp := cp) (c := c) (t := 0) (sd := 0) (hR.ne st (i := 0) rfl) hc (by first | assumption | omega) (by first | assumption | omega) (st.lend (L' := [(b4, [.slice (A) (n) (cp), .int .i64 (0), .int .u64 (0)], 138)]) [0] (by decide) rfl)) rfl rfl ?_
  clear st
  rintro ⟨s__4, p__5, a__6, b__7, t__8, e__9⟩ ⟨hx_10, hx_11, hx_12, hx_13, hx_14, hx_15, hx_16⟩ w3 st
  try dsimp only at st hx_10 hx_11 hx_12 hx_13 hx_14 hx_15 hx_16
  replace st : St [] w w3 [(b4, [.slice (A) (n) (cp), .int .i64 (((t__8 : Nat) : Int)), .int .u64 (((e__9 : Nat) : Int))], 138), (b2, schV (0) (0) ((fun _ => 0)) ((fun _ => 0)), 62)] := st
  refine Wl.storeA (i := 1) (cs' := schV ((s__4 : Nat) : Int) ((p__5 : Nat) : Int) (a__6) (b__7)) st tA_62 rfl rfl schV_len schV_one rfl (le_of_len schV_len (by omega)) (all_put schV_len) ?_
  clear st
  intro w17 st
  replace st : St [] w w17 [(b4, [.slice (A) (n) (cp), .int .i64 (((t__8 : Nat) : Int)), .int .u64 (((e__9 : Nat) : Int))], 138), (b2, schV ((s__4 : Nat) : Int) ((p__5 : Nat) : Int) (a__6) (b__7), 62)] := st
  refine Wl.nil ?_
  refine tn ?_
  refine Wc.ret ?_
  refine postL.cell (i := 1) st rfl tA_62 rfl rfl schV_len ?_
  replace st : St [] w w17 [] := st.pick [] (by decide) rfl
  exact ⟨(s__4, p__5, a__6, b__7), ⟨(by dsimp only; assumption), (by dsimp only; first | assumption | omega), (by dsimp only; first | assumption | omega), (by dsimp only; first | assumption | omega), (by dsimp only; first | assumption | omega)⟩, rfl, st⟩

set_option maxHeartbeats 400000 in
set_option maxRecDepth 4000 in
theorem c_spec_l03Number {x : Nat} {n : Nat} {w : World} (hx : x < 4294967296) (hn : 0 < n ∧ n ≤ 1000) :
    CE Try.prog 110 [.int .u32 (((x : Nat) : Int)), .int .i64 (((n : Nat) : Int))] w (RetV w (.tuple #[.int .i64 (((drawK x n : Nat) : Int)), .int .u32 (((lcg x : Nat) : Int))])) := by
  refine CE.enter 15 [(0, .int .u32 (((x : Nat) : Int))), (1, .int .i64 (((n : Nat) : Int)))] en_110 Try.func110 rfl rfl (Nat.le_of_ble_eq_true rfl) rfl ?_
  have st := St.start w
  refine Wc.seq ?_
  refine Wc.region rfl ?_
  refine Wl.pure (PR.assI rfl) ?_
  refine Wl.pure (PR.assI rfl) ?_
  refine Wl.nil ?_
  refine tn ?_
  refine Wc.seq ?_
  refine Wc.region rfl ?_
  refine Wl.pure (PR.moveI rfl) ?_
  refine Wl.pure (PR.mulU (a := 1664525) (b := x) rfl rfl (by decide)) ?_
  refine Wl.pure (PR.addU (a := ((1664525 * x) % 4294967296)) (b := 1013904223) rfl rfl (by decide)) ?_
  refine Wl.pure (PR.assI rfl) ?_
  refine Wl.nil ?_
  refine tn ?_
  refine Wc.seq ?_
  refine Wc.region rfl ?_
  refine Wl.pure (PR.moveI rfl) ?_
  refine Wl.pure (PR.shr (a := ((((1664525 * x) % 4294967296) + 1013904223) % 4294967296)) (n := 16) rfl rfl (by decide) (Nat.mod_lt _ (by decide))) ?_
  refine Wl.pure (PR.conv (n := (((((((1664525 * x) % 4294967296) + 1013904223) % 4294967296) >>> 16) : Nat) : Int)) tI_2 rfl (fitN (shr_lt (Nat.mod_lt _ (by decide))) rfl) Try.underlying26) ?_
  refine Wl.pure (PR.moveI rfl) ?_
  refine Wl.pure (PR.rem (a := (((((((1664525 * x) % 4294967296) + 1013904223) % 4294967296) >>> 16) : Nat) : Int)) (b := ((n : Nat) : Int)) rfl rfl (by omega) (by omega)) ?_
  refine Wl.pure (PR.moveI rfl) ?_
  refine Wl.pure (PR.assI rfl) ?_
  refine Wl.pure (PR.assI rfl) ?_
  refine Wl.nil ?_
  refine tn ?_
  refine Wc.ret ?_
  refine postL.tmp2 rfl rfl rfl ?_
  refine RetV.of ?_ st.below
  rfl

set_option maxHeartbeats 400000 in
set_option maxRecDepth 4000 in
theorem c_spec_l03Order {x : Nat} {n : Nat} {w : World} (hx : x < 4294967296) (hn : 1 ≤ n ∧ n ≤ 8) :
    CE Try.prog 97 [.int .u32 (((x : Nat) : Int)), .int .i64 (((n : Nat) : Int))] w (RetXG w [] 22 1 (n) (arrU .i8 n (oOf n x)) (fun b_ c_ => .tuple #[.slice (some ⟨b_, 0, none⟩) (n) (c_), .int .u32 (((xOf n x : Nat) : Int))]) []) := by
  refine CE.enter 54 [(0, .int .u32 (((x : Nat) : Int))), (1, .int .i64 (((n : Nat) : Int)))] en_97 Try.func97 rfl rfl (Nat.le_of_ble_eq_true rfl) rfl ?_
  have st := St.start w
  refine Wc.seq ?_
  refine Wc.region rfl ?_
  refine Wl.pure (PR.assL rfl) ?_
  refine Wl.pure (PR.assI rfl) ?_
  refine Wl.nil ?_
  refine tn ?_
  refine Wc.seq ?_
  refine Wc.region rfl ?_
  refine Wl.buildSlice (ps := []) (cs := arrU .i8 0 (fun _ => 0) ++ []) st tS_140 tZ_22 rfl rfl rfl ?_
  clear st
  intro b12 w1 st
  refine Wl.pure (PR.assL rfl) ?_
  refine Wl.nil ?_
  refine tn ?_
  refine Wc.seq ?_
  refine Wc.seq ?_
  refine Wc.region rfl ?_
  refine Wl.pure (PR.assI rfl) ?_
  refine Wl.nil ?_
  refine tn ?_
  refine Wc.block ?_
  refine Wc.loopF (γ := Nat × (Nat → Nat) × Nat × Nat × List Value) (fun g => [(0, .int .u32 (((x : Nat) : Int))), (1, .int .i64 (((n : Nat) : Int))), (4, .slice (none) (0) (0)), (5, .int .u32 (0)), (6, .slice (some ⟨g.2.2.1, 0, none⟩) (g.1) (g.2.2.2.1)), (7, .int .i64 (((g.1 : Nat) : Int)))]) (fun g w_ => St [] w w_ [(g.2.2.1, arrU .i8 g.1 g.2.1 ++ g.2.2.2.2, 22)] ∧ (g.1 ≤ n) ∧ (∀ j, j < g.1 → g.2.1 j = j) ∧ (g.1 ≤ g.2.2.2.1) ∧ (g.2.2.2.2.length = (g.2.2.2.1 - g.1) * 1)) (fun g => n - g.1) ?_ ?_
  · exact ⟨(0, (fun _ => 0), b12, 0, []), (.cons rfl (.cons rfl (.cons rfl (.cons rfl (.cons rfl (.cons rfl (.nil _))))))), st, (by first | omega | (dsimp only; omega)), (fun j hj => by omega), (Nat.le_refl _), rfl⟩
  clear st
  rintro ⟨k, y, b_o, c_o, sp_o⟩ w2 ⟨st, hk, hy, hc_o, hs_o⟩
  try dsimp only at st hk hy hc_o hs_o ⊢
  refine Wc.seq ?_
  refine Wc.seq ?_
  refine Wc.region rfl ?_
  refine Wl.pure (PR.moveI rfl) ?_
  refine Wl.pure (PR.moveI rfl) ?_
  refine Wl.pure (PR.lss (a := ((k : Nat) : Int)) (b := ((n : Nat) : Int)) rfl rfl) ?_
  refine Wl.nil ?_
  refine tn ?_
  refine Wc.condD (p := ((k : Nat) : Int) < ((n : Nat) : Int)) rfl (fun h3 => ?_) (fun h3 => ?_)
  · refine Wc.skip ?_
    refine tn ?_
    refine Wc.seq ?_
    refine Wc.block ?_
    refine Wc.region rfl ?_
    refine Wl.pure (PR.moveL rfl) ?_
    refine Wl.pure (PR.moveI rfl) ?_
    refine Wl.pure (PR.conv (n := ((k : Nat) : Int)) tI_22 rfl (by simp only [fitI]; omega) Try.underlying2) ?_
    refine Wl.buildSlice (ps := [(0, .int .i8 (((k : Nat) : Int)))]) (cs := [.int .i8 (((k : Nat) : Int))]) st tS_140 tZ_22 rfl rfl rfl ?_
    clear st
    intro b21 w4 st
    refine Wl.append (n := k) (c := c_o) (m := 1) (cs := arrU .i8 k y) (sp := sp_o) (vs := [.int .i8 (((k : Nat) : Int))]) (i := 1) st tS_140 tZ_22 rfl rfl rfl (by rw [(arrU_len _), Nat.mul_one]) hs_o hc_o rfl (Src.ofRdA (tyS_und tS_140) (st.rdA (i := 0) (n := 1) rfl rfl) rfl (by simp [Value.oneCell'])) (by omega) (by omega) ?_
    clear st
    intro b22 c22 sp22 w5 hc22 hs22 st
    rw [arrU_snoc] at st
    replace st : St [] w w5 [(b22, arrU .i8 (k + 1) (upd y k k) ++ sp22, 22), (b21, [.int .i8 (((k : Nat) : Int))], 22)] := st
    refine Wl.pure (PR.assL rfl) ?_
    refine Wl.nil ?_
    refine bn ?_
    refine tn ?_
    refine Wc.region rfl ?_
    refine Wl.pure (PR.moveI rfl) ?_
    refine Wl.pure (PR.add (a := ((k : Nat) : Int)) (b := 1) rfl rfl (by simp only [fitI]; omega)) ?_
    refine Wl.pure (PR.assI rfl) ?_
    refine Wl.nil ?_
    refine tn ?_
    replace st : St [] w w5 [(b22, arrU .i8 (k + 1) (upd y k k) ++ sp22, 22)] := st.pick [0] (by decide) rfl
    exact ⟨(k + 1, (upd y k k), b22, c22, sp22), (.cons rfl (.cons rfl (.cons rfl (.cons rfl (.cons rfl (.cons rfl (.nil _))))))), ⟨st, (by first | omega | (dsimp only; omega)), (id_snoc hy), hc22, hs22⟩, (by first | omega | (dsimp only; omega))⟩
  · refine Wc.exit ?_
    refine tx ?_
    refine tx ?_
    refine bh ?_
    refine tn ?_
    refine Wc.seq ?_
    refine Wc.seq ?_
    obtain rfl : n = k := by omega
    refine Wc.region rfl ?_
    refine Wl.pure (PR.moveI rfl) ?_
    refine Wl.pure (PR.subN (a := n) (b := 1) rfl rfl (by omega) (by simp only [fitI]; omega)) ?_
    refine Wl.pure (PR.assI rfl) ?_
    refine Wl.nil ?_
    refine tn ?_
    refine Wc.block ?_
    refine Wc.loopF (γ := Nat × Nat × (Nat → Nat) × Nat × Nat × List Value) (fun g => [(0, .int .u32 (((g.2.1 : Nat) : Int))), (4, .slice (none) (0) (0)), (5, .int .u32 (0)), (6, .slice (some ⟨g.2.2.2.1, 0, none⟩) (n) (g.2.2.2.2.1)), (8, .int .i64 ((((n - 1 - g.1) : Nat) : Int)))]) (fun g w_ => St [] w w_ [(g.2.2.2.1, arrU .i8 n g.2.2.1 ++ g.2.2.2.2.2, 22)] ∧ (g.1 ≤ n - 1) ∧ (g.2.1 = ordX n x g.1) ∧ (g.2.1 < 4294967296) ∧ (∀ j, j < n → g.2.2.1 j = ordO n x g.1 j) ∧ (n ≤ g.2.2.2.2.1) ∧ (g.2.2.2.2.2.length = (g.2.2.2.2.1 - n) * 1)) (fun g => n - g.1) ?_ ?_
    · exact ⟨(0, x, y, b_o, c_o, sp_o), (.cons rfl (.cons rfl (.cons rfl (.cons rfl (.cons rfl (.nil _)))))), st, (by first | omega | (dsimp only; omega)), rfl, hx, hy, hc_o, hs_o⟩
    clear st
    rintro ⟨r, z, y, b_q, c_q, sp_q⟩ w6 ⟨st, hr, hzz, hz, hy, hc_q, hs_q⟩
    try dsimp only at st hr hzz hz hy hc_q hs_q ⊢
    refine Wc.seq ?_
    refine Wc.seq ?_
    refine Wc.region rfl ?_
    refine Wl.pure (PR.moveI rfl) ?_
    refine Wl.pure (PR.geq (a := (((n - 1 - r) : Nat) : Int)) (b := 1) rfl rfl) ?_
    refine Wl.nil ?_
    refine tn ?_
    refine Wc.condD (p := 1 ≤ (((n - 1 - r) : Nat) : Int)) rfl (fun h7 => ?_) (fun h7 => ?_)
    · refine Wc.skip ?_
      refine tn ?_
      refine Wc.seq ?_
      refine Wc.block ?_
      refine Wc.seq ?_
      have hkd := drawK_lt (x := z) (n := n - 1 - r + 1) (by omega)
      refine Wc.region rfl ?_
      refine Wl.pure (PR.moveI rfl) ?_
      refine Wl.pure (PR.moveI rfl) ?_
      refine Wl.pure (PR.add (a := (((n - 1 - r) : Nat) : Int)) (b := 1) rfl rfl (by simp only [fitI]; omega)) ?_
      refine Wl.callV (c_spec_l03Number (x := z) (n := ((n - 1 - r) + 1)) hz (by first | assumption | omega)) rfl ?_
      intro w8 hbel
      replace st := st.call hbel
      clear hbel
      refine Wl.pure (PR.moveV (.tuple #[.int .i64 (((drawK z ((n - 1 - r) + 1) : Nat) : Int)), .int .u32 (((lcg z : Nat) : Int))]) rfl) ?_
      refine Wl.pure (PR.extr (i := 0) (vs := [.int .i64 (((drawK z ((n - 1 - r) + 1) : Nat) : Int)), .int .u32 (((lcg z : Nat) : Int))]) rfl rfl) ?_
      refine Wl.pure (PR.extr (i := 1) (vs := [.int .i64 (((drawK z ((n - 1 - r) + 1) : Nat) : Int)), .int .u32 (((lcg z : Nat) : Int))]) rfl rfl) ?_
      refine Wl.pure (PR.assI rfl) ?_
      refine Wl.pure (PR.assI rfl) ?_
      refine Wl.nil ?_
      refine tn ?_
      refine Wc.seq ?_
      refine Wc.region rfl ?_
      refine Wl.pure (PR.moveI rfl) ?_
      refine Wl.pure (PR.assI rfl) ?_
      refine Wl.nil ?_
      refine tn ?_
      refine Wc.seq ?_
      refine Wc.region rfl ?_
      refine Wl.pure (PR.moveL rfl) ?_
      refine Wl.pure (PR.moveI rfl) ?_
      refine Wl.pure (PR.idxAddrS1 (i := drawK z ((n - 1 - r) + 1)) tS_140 rfl rfl (by omega)) ?_
      refine Wl.load (i := 0) st tA_22 rfl rfl (app_get (arrU_get0 (by omega))) ?_
      refine Wl.pure (PR.assI rfl) ?_
      refine Wl.nil ?_
      refine tn ?_
      refine Wc.seq ?_
      refine Wc.region rfl ?_
      refine Wl.pure (PR.moveL rfl) ?_
      refine Wl.pure (PR.moveI rfl) ?_
      refine Wl.pure (PR.moveL rfl) ?_
      refine Wl.pure (PR.moveI rfl) ?_
      refine Wl.pure (PR.idxAddrS1 (i := (n - 1 - r)) tS_140 rfl rfl (by omega)) ?_
      refine Wl.load (i := 0) st tA_22 rfl rfl (app_get (arrU_get0 (by omega))) ?_
      refine Wl.pure (PR.idxAddrS1 (i := drawK z ((n - 1 - r) + 1)) tS_140 rfl rfl (by omega)) ?_
      refine Wl.store (i := 0) (cs' := arrU .i8 n (upd y (drawK z ((n - 1 - r) + 1)) (y ((n - 1 - r)))) ++ sp_q) st tA_22 rfl rfl rfl rfl (app_in (lt_of_len (arrU_len _) (by omega))) (app_set (lt_of_len (arrU_len _) (by omega)) (arrU_set0)) ?_
      clear st
      intro w9 st
      replace st : St [] w w9 [(b_q, arrU .i8 n (upd y (drawK z ((n - 1 - r) + 1)) (y ((n - 1 - r)))) ++ sp_q, 22)] := st
      refine Wl.nil ?_
      refine tn ?_
      refine Wc.region rfl ?_
      refine Wl.pure (PR.moveL rfl) ?_
      refine Wl.pure (PR.moveI rfl) ?_
      refine Wl.pure (PR.moveI rfl) ?_
      refine Wl.pure (PR.idxAddrS1 (i := (n - 1 - r)) tS_140 rfl rfl (by omega)) ?_
      refine Wl.store (i := 0) (cs' := arrU .i8 n (upd (upd y (drawK z ((n - 1 - r) + 1)) (y ((n - 1 - r)))) ((n - 1 - r)) (y (drawK z ((n - 1 - r) + 1)))) ++ sp_q) st tA_22 rfl rfl rfl rfl (app_in (lt_of_len (arrU_len _) (by omega))) (app_set (lt_of_len (arrU_len _) (by omega)) (arrU_set0)) ?_
      clear st
      intro w10 st
      replace st : St [] w w10 [(b_q, arrU .i8 n (upd (upd y (drawK z ((n - 1 - r) + 1)) (y ((n - 1 - r)))) ((n - 1 - r)) (y (drawK z ((n - 1 - r) + 1)))) ++ sp_q, 22)] := st
      refine Wl.nil ?_
      refine bn ?_
      refine tn ?_
      refine Wc.region rfl ?_
      refine Wl.pure (PR.moveI rfl) ?_
      refine Wl.pure (PR.subN (a := (n - 1 - r)) (b := 1) rfl rfl (by omega) (by simp only [fitI]; omega)) ?_
      refine Wl.pure (PR.assI rfl) ?_
      refine Wl.nil ?_
      refine tn ?_
      exact ⟨(r + 1, lcg z, upd (upd y (drawK z ((n - 1 - r) + 1)) (y ((n - 1 - r)))) ((n - 1 - r)) (y (drawK z ((n - 1 - r) + 1))), b_q, c_q, sp_q), (.cons rfl (.cons rfl (.cons rfl (.cons rfl (.cons rfl (.nil _)))))), ⟨st, (by first | omega | (dsimp only; omega)), (by rw [hzz]; rfl), (lcg_lt _), (by subst hzz; rw [swp_eq]; exact ord_next hy (by omega)), hc_q, hs_q⟩, (by first | omega | (dsimp only; omega))⟩
    · refine Wc.exit ?_
      refine tx ?_
      refine tx ?_
      refine bh ?_
      refine tn ?_
      refine Wc.seq ?_
      refine Wc.region rfl ?_
      refine Wl.pure (PR.moveL rfl) ?_
      refine Wl.pure (PR.moveI rfl) ?_
      refine Wl.pure (PR.assL rfl) ?_
      refine Wl.pure (PR.assI rfl) ?_
      refine Wl.nil ?_
      refine tn ?_
      refine Wc.ret ?_
      refine postL.tmp2 rfl rfl rfl ?_
      rw [oOf_of hy (by omega)] at st
      exact ⟨b_q, c_q, sp_q, hc_q, hs_q, (by rw [hzz, xOf_of (by omega)]), st⟩

set_option maxHeartbeats 400000 in
set_option maxRecDepth 4000 in
theorem c_spec_l01Reordered {v : Nat} {A : Option Addr} {n : Nat} {cp : Nat} {o : Nat → Nat} {w : World} (hv : v < 256) (hR : RdS w A n (arrU .i8 n o)) (hn : n ≤ 8) (ho : ∀ j, j < n → o j < 8) :
    CE Try.prog 111 [.int .u8 (((v : Nat) : Int)), .slice (A) (n) (cp)] w (RetV w (.int .u8 (((rdF v o n : Nat) : Int)))) := by
  refine CE.enter 27 [(0, .int .u8 (((v : Nat) : Int))), (1, .slice (A) (n) (cp))] en_111 Try.func111 rfl rfl (Nat.le_of_ble_eq_true rfl) rfl ?_
  have st := St.start w
  refine Wc.seq ?_
  refine Wc.region rfl ?_
  refine Wl.pure (PR.assI rfl) ?_
  refine Wl.nil ?_
  refine tn ?_
  refine Wc.seq ?_
  refine Wc.region rfl ?_
  refine Wl.pure (PR.assI rfl) ?_
  refine Wl.nil ?_
  refine tn ?_
  refine Wc.seq ?_
  refine Wc.seq ?_
  refine Wc.region rfl ?_
  refine Wl.pure (PR.assI rfl) ?_
  refine Wl.nil ?_
  refine tn ?_
  refine Wc.block ?_
  refine Wc.loopF (γ := Nat × Nat) (fun g => [(0, .int .u8 (((v : Nat) : Int))), (1, .slice (A) (n) (cp)), (4, .int .u8 (0)), (5, .int .u8 (((g.2 : Nat) : Int))), (6, .int .i64 (((g.1 : Nat) : Int)))]) (fun g w_ => St [] w w_ [] ∧ (g.1 ≤ n) ∧ (g.2 = rdF v o g.1) ∧ (g.2 < 256)) (fun g => n - g.1) ?_ ?_
  · exact ⟨(0, 0), (.cons rfl (.cons rfl (.cons rfl (.cons rfl (.cons rfl (.nil _)))))), st, (by first | omega | (dsimp only; omega)), rfl, (by decide)⟩
  clear st
  rintro ⟨k, u⟩ w1 ⟨st, hk, hu, hub⟩
  try dsimp only at st hk hu hub ⊢
  refine Wc.seq ?_
  refine Wc.seq ?_
  refine Wc.region rfl ?_
  refine Wl.pure (PR.moveI rfl) ?_
  refine Wl.pure (PR.moveL rfl) ?_
  refine Wl.pure (PR.lenL tS_140 rfl) ?_
  refine Wl.pure (PR.lss (a := ((k : Nat) : Int)) (b := ((n : Nat) : Int)) rfl rfl) ?_
  refine Wl.nil ?_
  refine tn ?_
  refine Wc.condD (p := ((k : Nat) : Int) < ((n : Nat) : Int)) rfl (fun h2 => ?_) (fun h2 => ?_)
  · refine Wc.skip ?_
    refine tn ?_
    refine Wc.seq ?_
    refine Wc.block ?_
    have hok := ho k (by omega)
    refine Wc.region rfl ?_
    refine Wl.pure (PR.moveI rfl) ?_
    refine Wl.pure (PR.moveI rfl) ?_
    refine Wl.pure (PR.moveL rfl) ?_
    refine Wl.pure (PR.moveI rfl) ?_
    obtain ⟨bs3, os4, rfl, hs5⟩ := hR (by omega)
    refine Wl.pure (PR.idxAddrS1 (i := k) tS_140 rfl rfl (by omega)) ?_
    refine Wl.loadC tA_22 rfl ((hs5.st st).at_ (arrU_get0 (by omega)) (Nat.add_assoc _ _ _).symm) ?_
    refine Wl.pure (PR.conv (n := ((o (k) : Nat) : Int)) tI_76 rfl (by simp only [fitI]; omega) Try.underlying22) ?_
    refine Wl.pure (PR.shr (a := v) (n := o (k)) rfl rfl (by decide) hv) ?_
    refine Wl.pure (PR.and (a := (v >>> (o (k)))) (b := 1) rfl rfl (by decide) (shr_lt hv) (by decide)) ?_
    refine Wl.pure (PR.moveI rfl) ?_
    refine Wl.pure (PR.conv (n := ((k : Nat) : Int)) tI_76 rfl (by simp only [fitI]; omega) Try.underlying3) ?_
    refine Wl.pure (PR.shl (a := ((v >>> (o (k))) &&& 1)) (n := k) rfl rfl (by decide)) ?_
    refine Wl.pure (PR.or (a := u) (b := ((((v >>> (o (k))) &&& 1) <<< k) % 256)) rfl rfl (by decide) hub (Nat.mod_lt _ (by decide))) ?_
    refine Wl.pure (PR.assI rfl) ?_
    refine Wl.nil ?_
    refine bn ?_
    refine tn ?_
    refine Wc.region rfl ?_
    refine Wl.pure (PR.moveI rfl) ?_
    refine Wl.pure (PR.add (a := ((k : Nat) : Int)) (b := 1) rfl rfl (by simp only [fitI]; omega)) ?_
    refine Wl.pure (PR.assI rfl) ?_
    refine Wl.nil ?_
    refine tn ?_
    exact ⟨(k + 1, (u ||| ((((v >>> (o (k))) &&& 1) <<< k) % 256))), (.cons rfl (.cons rfl (.cons rfl (.cons rfl (.cons rfl (.nil _)))))), ⟨st, (by first | omega | (dsimp only; omega)), (by rw [hu]; rfl), (or_lt_u8 hub (Nat.mod_lt _ (by decide)))⟩, (by first | omega | (dsimp only; omega))⟩
  · refine Wc.exit ?_
    refine tx ?_
    refine tx ?_
    refine bh ?_
    refine tn ?_
    refine Wc.seq ?_
    refine Wc.region rfl ?_
    refine Wl.pure (PR.moveI rfl) ?_
    refine Wl.pure (PR.assI rfl) ?_
    refine Wl.nil ?_
    refine tn ?_
    refine Wc.ret ?_
    refine postL.tmp rfl rfl ?_
    refine RetV.of ?_ st.below
    refine congrArg (fun x : Nat => Value.int .u8 (x : Int)) ?_
    obtain rfl : k = n := by omega
    exact hu

set_option maxHeartbeats 400000 in
set_option maxRecDepth 4000 in
theorem c_spec_l03Cell {bk : Nat} {ok_ : Nat} {s : Nat} {p : Nat} {a : Nat → Nat} {b : Nat → Nat} {q : Bool} {A : Option Addr} {cp : Nat} {o : Nat → Nat} {w : World} (hR : RdA w bk ok_ (schV ((s : Nat) : Int) ((p : Nat) : Int) a b)) (hp8 : 1 ≤ p ∧ p ≤ 8) (ha : ∀ k, a k < 256) (hb : ∀ k, b k < 256) (hs6 : 1 ≤ s ∧ s ≤ 6) (hO : RdS w A p (arrU .i8 p o)) (ho : ∀ j, j < p → o j < 8) :
    CE Try.prog 98 [.pointer (some ⟨bk, ok_, none⟩), .bool (q), .slice (A) (p) (cp)] w (RetXG w [] 5 1 (s) (arrU .u8 s (fun i_ => rdF (bif q then b i_ else a i_) o p)) (fun b_ c_ => .slice (some ⟨b_, 0, none⟩) (s) (c_)) []) := by
  refine CE.enter 40 [(0, .pointer (some ⟨bk, ok_, none⟩)), (1, .bool (q)), (2, .slice (A) (p) (cp))] en_98 Try.func98 rfl rfl (Nat.le_of_ble_eq_true rfl) rfl ?_
  have st := St.start w
  refine Wc.seq ?_
  refine Wc.region rfl ?_
  refine Wl.pure (PR.assL rfl) ?_
  refine Wl.nil ?_
  refine tn ?_
  refine Wc.seq ?_
  refine Wc.region rfl ?_
  refine Wl.buildSlice (ps := []) (cs := arrU .u8 0 (fun _ => 0) ++ []) st tS_68 tZ_5 rfl rfl rfl ?_
  clear st
  intro b10 w1 st
  refine Wl.pure (PR.assL rfl) ?_
  refine Wl.nil ?_
  refine tn ?_
  refine Wc.seq ?_
  refine Wc.seq ?_
  refine Wc.region rfl ?_
  refine Wl.pure (PR.assI rfl) ?_
  refine Wl.nil ?_
  refine tn ?_
  refine Wc.block ?_
  refine Wc.loopF (γ := Nat × (Nat → Nat) × Nat × Nat × List Value) (fun g => [(0, .pointer (some ⟨bk, ok_, none⟩)), (1, .bool (q)), (2, .slice (A) (p) (cp)), (6, .slice (none) (0) (0)), (7, .slice (some ⟨g.2.2.1, 0, none⟩) (g.1) (g.2.2.2.1)), (8, .int .i64 (((g.1 : Nat) : Int)))]) (fun g w_ => St [] w w_ [(g.2.2.1, arrU .u8 g.1 g.2.1 ++ g.2.2.2.2, 5)] ∧ (g.1 ≤ s) ∧ (∀ j, j < g.1 → g.2.1 j = (fun i_ => rdF (bif q then b i_ else a i_) o p) j) ∧ (g.1 ≤ g.2.2.2.1) ∧ (g.2.2.2.2.length = (g.2.2.2.1 - g.1) * 1)) (fun g => s - g.1) ?_ ?_
  · exact ⟨(0, (fun _ => 0), b10, 0, []), (.cons rfl (.cons rfl (.cons rfl (.cons rfl (.cons rfl (.cons rfl (.nil _))))))), st, (by first | omega | (dsimp only; omega)), (fun j hj => by omega), (Nat.le_refl _), rfl⟩
  clear st
  rintro ⟨k, u, b_o, c_o, sp_o⟩ w2 ⟨st, hk, hu, hc_o, hs_o⟩
  try dsimp only at st hk hu hc_o hs_o ⊢
  refine Wc.seq ?_
  refine Wc.seq ?_
  refine Wc.region rfl ?_
  refine Wl.pure (PR.moveI rfl) ?_
  refine Wl.pure (PR.moveP rfl) ?_
  refine Wl.pure (PR.nil_ rfl) ?_
  refine Wl.pure (PR.fieldAddr tF_62_0 rfl) ?_
  refine Wl.loadC tA_22 rfl ((hR.st st).at_ (j := 0) (rfl) rfl) ?_
  refine Wl.pure (PR.conv (n := ((s : Nat) : Int)) tI_3 rfl (by simp only [fitI]; omega) Try.underlying22) ?_
  refine Wl.pure (PR.lss (a := ((k : Nat) : Int)) (b := ((s : Nat) : Int)) rfl rfl) ?_
  refine Wl.nil ?_
  refine tn ?_
  refine Wc.condD (p := ((k : Nat) : Int) < ((s : Nat) : Int)) rfl (fun h3 => ?_) (fun h3 => ?_)
  · refine Wc.skip ?_
    refine tn ?_
    refine Wc.seq ?_
    refine Wc.block ?_
    refine Wc.seq ?_
    refine Wc.region rfl ?_
    refine Wl.pure (PR.moveP rfl) ?_
    refine Wl.pure (PR.moveI rfl) ?_
    refine Wl.pure (PR.nil_ rfl) ?_
    refine Wl.pure (PR.fieldAddr tF_62_2 rfl) ?_
    refine Wl.pure (PR.idxAddrA1 (i := k) tE_56 rfl rfl (by omega)) ?_
    refine Wl.loadC tA_5 rfl ((hR.st st).at_ (schV_get_a (by omega)) (Nat.add_assoc _ _ _).symm) ?_
    refine Wl.pure (PR.assI rfl) ?_
    refine Wl.nil ?_
    refine tn ?_
    refine Wc.seq ?_
    refine Wc.seq ?_
    refine Wc.region rfl ?_
    refine Wl.pure (PR.moveB rfl) ?_
    refine Wl.nil ?_
    refine tn ?_
    refine Wc.condB (b := q) rfl (fun h4 => ?_) (fun h4 => ?_)
    · refine Wc.region rfl ?_
      refine Wl.pure (PR.moveP rfl) ?_
      refine Wl.pure (PR.moveI rfl) ?_
      refine Wl.pure (PR.nil_ rfl) ?_
      refine Wl.pure (PR.fieldAddr tF_62_3 rfl) ?_
      refine Wl.pure (PR.idxAddrA1 (i := k) tE_56 rfl rfl (by omega)) ?_
      refine Wl.loadC tA_5 rfl ((hR.st st).at_ (schV_get_b (by omega)) (Nat.add_assoc _ _ _).symm) ?_
      refine Wl.pure (PR.assI rfl) ?_
      refine Wl.nil ?_
      refine tn ?_
      refine Wc.region rfl ?_
      refine Wl.pure (PR.moveL rfl) ?_
      refine Wl.pure (PR.moveI rfl) ?_
      refine Wl.pure (PR.moveL rfl) ?_
      refine Wl.callV (c_spec_l01Reordered (v := b (k)) (A := A) (n := p) (cp := cp) (o := o) (hb (k)) (hO.st st) (by first | assumption | omega) (by first | assumption | omega)) rfl ?_
      intro w5 hbel
      replace st := st.call hbel
      clear hbel
      refine Wl.buildSlice (ps := [(0, .int .u8 (((rdF (b (k)) o p : Nat) : Int)))]) (cs := [.int .u8 (((rdF (b (k)) o p : Nat) : Int))]) st tS_68 tZ_5 rfl rfl rfl ?_
      clear st
      intro b37 w6 st
      refine Wl.append (n := k) (c := c_o) (m := 1) (cs := arrU .u8 k u) (sp := sp_o) (vs := [.int .u8 (((rdF (b (k)) o p : Nat) : Int))]) (i := 1) st tS_68 tZ_5 rfl rfl rfl (by rw [(arrU_len _), Nat.mul_one]) hs_o hc_o rfl (Src.ofRdA (tyS_und tS_68) (st.rdA (i := 0) (n := 1) rfl rfl) rfl (by simp [Value.oneCell'])) (by omega) (by omega) ?_
      clear st
      intro b38 c38 sp38 w7 hc38 hs38 st
      rw [arrU_snoc] at st
      replace st : St [] w w7 [(b38, arrU .u8 (k + 1) (upd u k (rdF (b (k)) o p)) ++ sp38, 5), (b37, [.int .u8 (((rdF (b (k)) o p : Nat) : Int))], 5)] := st
      refine Wl.pure (PR.assL rfl) ?_
      refine Wl.nil ?_
      refine bn ?_
      refine tn ?_
      refine Wc.region rfl ?_
      refine Wl.pure (PR.moveI rfl) ?_
      refine Wl.pure (PR.add (a := ((k : Nat) : Int)) (b := 1) rfl rfl (by simp only [fitI]; omega)) ?_
      refine Wl.pure (PR.assI rfl) ?_
      refine Wl.nil ?_
      refine tn ?_
      replace st : St [] w w7 [(b38, arrU .u8 (k + 1) (upd u k (rdF (b (k)) o p)) ++ sp38, 5)] := st.pick [0] (by decide) rfl
      exact ⟨(k + 1, (upd u k (rdF (b (k)) o p)), b38, c38, sp38), (.cons rfl (.cons rfl (.cons rfl (.cons rfl (.cons rfl (.cons rfl (.nil _))))))), ⟨st, (by first | omega | (dsimp only; omega)), (upd_snoc hu (by first | rw [show q = true by assumption]; rfl | rw [show q = false by assumption]; rfl)), hc38, hs38⟩, (by first | omega | (dsimp only; omega))⟩
    · refine Wc.skip ?_
      refine tn ?_
      refine Wc.region rfl ?_
      refine Wl.pure (PR.moveL rfl) ?_
      refine Wl.pure (PR.moveI rfl) ?_
      refine Wl.pure (PR.moveL rfl) ?_
      refine Wl.callV (c_spec_l01Reordered (v := a (k)) (A := A) (n := p) (cp := cp) (o := o) (ha (k)) (hO.st st) (by first | assumption | omega) (by first | assumption | omega)) rfl ?_
      intro w8 hbel
      replace st := st.call hbel
      clear hbel
      refine Wl.buildSlice (ps := [(0, .int .u8 (((rdF (a (k)) o p : Nat) : Int)))]) (cs := [.int .u8 (((rdF (a (k)) o p : Nat) : Int))]) st tS_68 tZ_5 rfl rfl rfl ?_
      clear st
      intro b37 w9 st
      refine Wl.append (n := k) (c := c_o) (m := 1) (cs := arrU .u8 k u) (sp := sp_o) (vs := [.int .u8 (((rdF (a (k)) o p : Nat) : Int))]) (i := 1) st tS_68 tZ_5 rfl rfl rfl (by rw [(arrU_len _), Nat.mul_one]) hs_o hc_o rfl (Src.ofRdA (tyS_und tS_68) (st.rdA (i := 0) (n := 1) rfl rfl) rfl (by simp [Value.oneCell'])) (by omega) (by omega) ?_
      clear st
      intro b38 c38 sp38 w10 hc38 hs38 st
      rw [arrU_snoc] at st
      replace st : St [] w w10 [(b38, arrU .u8 (k + 1) (upd u k (rdF (a (k)) o p)) ++ sp38, 5), (b37, [.int .u8 (((rdF (a (k)) o p : Nat) : Int))], 5)] := st
      refine Wl.pure (PR.assL rfl) ?_
      refine Wl.nil ?_
      refine bn ?_
      refine tn ?_
      refine Wc.region rfl ?_
      refine Wl.pure (PR.moveI rfl) ?_
      refine Wl.pure (PR.add (a := ((k : Nat) : Int)) (b := 1) rfl rfl (by simp only [fitI]; omega)) ?_
      refine Wl.pure (PR.assI rfl) ?_
      refine Wl.nil ?_
      refine tn ?_
      replace st : St [] w w10 [(b38, arrU .u8 (k + 1) (upd u k (rdF (a (k)) o p)) ++ sp38, 5)] := st.pick [0] (by decide) rfl
      exact ⟨(k + 1, (upd u k (rdF (a (k)) o p)), b38, c38, sp38), (.cons rfl (.cons rfl (.cons rfl (.cons rfl (.cons rfl (.cons rfl (.nil _))))))), ⟨st, (by first | omega | (dsimp only; omega)), (upd_snoc hu (by first | rw [show q = true by assumption]; rfl | rw [show q = false by assumption]; rfl)), hc38, hs38⟩, (by first | omega | (dsimp only; omega))⟩
  · refine Wc.exit ?_
    refine tx ?_
    refine tx ?_
    refine bh ?_
    refine tn ?_
    refine Wc.seq ?_
    refine Wc.region rfl ?_
    refine Wl.pure (PR.moveL rfl) ?_
    refine Wl.pure (PR.assL rfl) ?_
    refine Wl.nil ?_
    refine tn ?_
    refine Wc.ret ?_
    refine postL.tmp rfl rfl ?_
    obtain rfl : s = k := by omega
    rw [arrU_congr (d := (fun i_ => rdF (bif q then b i_ else a i_) o p)) (fun j hj => hu j hj)] at st
    exact ⟨b_o, c_o, sp_o, hc_o, hs_o, rfl, st⟩

set_option maxHeartbeats 400000 in
set_option maxRecDepth 4000 in
theorem c_spec_l03Share {bk : Nat} {ok_ : Nat} {s : Nat} {p : Nat} {a : Nat → Nat} {b : Nat → Nat} {x : Nat} {sd : Nat} {w : World} (hR : RdA w bk ok_ (schV ((s : Nat) : Int) ((p : Nat) : Int) a b)) (hp8 : 1 ≤ p ∧ p ≤ 8) (ha : ∀ k, a k < 256) (hb : ∀ k, b k < 256) (hs6 : 1 ≤ s ∧ s ≤ 6) (hx : x < 18446744073709551616) (hsd : sd < 4294967296) :
    CE Try.prog 68 [.pointer (some ⟨bk, ok_, none⟩), .int .u64 (((x : Nat) : Int)), .int .u32 (((sd : Nat) : Int))] w (RetXG w [] 29 65 (s) (layS s (fun _ => ((p : Nat) : Int)) (dwC (shF a b x) p sd)) (fun b_ c_ => .tuple #[.slice (some ⟨b_, 0, none⟩) (s) (c_), .int .u32 (((sdK p sd 64 : Nat) : Int))]) []) := by
  refine CE.enter 73 [(0, .pointer (some ⟨bk, ok_, none⟩)), (1, .int .u64 (((x : Nat) : Int))), (2, .int .u32 (((sd : Nat) : Int)))] en_68 Try.func68 rfl rfl (Nat.le_of_ble_eq_true rfl) rfl ?_
  have st := St.start w
  refine Wc.seq ?_
  refine Wc.region rfl ?_
  refine Wl.pure (PR.assL rfl) ?_
  refine Wl.pure (PR.assI rfl) ?_
  refine Wl.nil ?_
  refine tn ?_
  refine Wc.seq ?_
  refine Wc.region rfl ?_
  refine Wl.pure (PR.moveP rfl) ?_
  refine Wl.pure (PR.nil_ rfl) ?_
  refine Wl.pure (PR.fieldAddr tF_62_0 rfl) ?_
  refine Wl.loadC tA_22 rfl ((hR.st st).at_ (j := 0) (rfl) rfl) ?_
  refine Wl.makeSlice (n := s) st tS_37 tZ_29 rfl rfl rfl (by omega) (by omega) ?_
  clear st
  intro b19 w1 st
  replace st : St [] w w1 [(b19, layS s (fun _ => 0) (fun _ _ => 0), 29)] := st
  refine Wl.pure (PR.assL rfl) ?_
  refine Wl.nil ?_
  refine tn ?_
  refine Wc.seq ?_
  refine Wc.seq ?_
  refine Wc.region rfl ?_
  refine Wl.pure (PR.assI rfl) ?_
  refine Wl.nil ?_
  refine tn ?_
  refine Wc.block ?_
  refine Wc.loopF (γ := Nat × (Nat → Int)) (fun g => [(0, .pointer (some ⟨bk, ok_, none⟩)), (1, .int .u64 (((x : Nat) : Int))), (2, .int .u32 (((sd : Nat) : Int))), (6, .slice (none) (0) (0)), (7, .int .u32 (0)), (8, .slice (some ⟨b19, 0, none⟩) (s) (s)), (9, .int .i64 (((g.1 : Nat) : Int)))]) (fun g w_ => St [] w w_ [(b19, layS s g.2 (fun _ _ => 0), 29)] ∧ (g.1 ≤ s) ∧ (∀ j, j < g.1 → g.2 j = ((p : Nat) : Int))) (fun g => s - g.1) ?_ ?_
  · exact ⟨(0, (fun _ => 0)), (.cons rfl (.cons rfl (.cons rfl (.cons rfl (.cons rfl (.cons rfl (.cons rfl (.nil _)))))))), st, (by first | omega | (dsimp only; omega)), (fun j hj => by omega)⟩
  clear st
  rintro ⟨i, P⟩ w2 ⟨st, hi, hP⟩
  try dsimp only at st hi hP ⊢
  refine Wc.seq ?_
  refine Wc.seq ?_
  refine Wc.region rfl ?_
  refine Wl.pure (PR.moveI rfl) ?_
  refine Wl.pure (PR.moveL rfl) ?_
  refine Wl.pure (PR.lenL tS_37 rfl) ?_
  refine Wl.pure (PR.lss (a := ((i : Nat) : Int)) (b := ((s : Nat) : Int)) rfl rfl) ?_
  refine Wl.nil ?_
  refine tn ?_
  refine Wc.condD (p := ((i : Nat) : Int) < ((s : Nat) : Int)) rfl (fun h3 => ?_) (fun h3 => ?_)
  · refine Wc.skip ?_
    refine tn ?_
    refine Wc.seq ?_
    refine Wc.block ?_
    refine Wc.region rfl ?_
    refine Wl.pure (PR.moveL rfl) ?_
    refine Wl.pure (PR.moveI rfl) ?_
    refine Wl.pure (PR.moveP rfl) ?_
    refine Wl.pure (PR.nil_ rfl) ?_
    refine Wl.pure (PR.fieldAddr tF_62_1 rfl) ?_
    refine Wl.loadC tA_22 rfl ((hR.st st).at_ (j := 1) (rfl) rfl) ?_
    refine Wl.pure (PR.idxAddrS (i := i) tS_37 rfl rfl (by omega)) ?_
    refine Wl.pure (PR.fieldAddr tF_29_0 rfl) ?_
    refine Wl.store (i := 0) (cs' := layS s (upd P i ((p : Nat) : Int)) (fun _ _ => 0)) st tA_22 rfl rfl rfl rfl (layS_in (i := i) (j := 0) (by omega) (by omega) (by omega)) (layS_set_p (by omega)) ?_
    clear st
    intro w4 st
    replace st : St [] w w4 [(b19, layS s (upd P i ((p : Nat) : Int)) (fun _ _ => 0), 29)] := st
    refine Wl.nil ?_
    refine bn ?_
    refine tn ?_
    refine Wc.region rfl ?_
    refine Wl.pure (PR.moveI rfl) ?_
    refine Wl.pure (PR.add (a := ((i : Nat) : Int)) (b := 1) rfl rfl (by simp only [fitI]; omega)) ?_
    refine Wl.pure (PR.assI rfl) ?_
    refine Wl.nil ?_
    refine tn ?_
    exact ⟨(i + 1, (upd P i ((p : Nat) : Int))), (.cons rfl (.cons rfl (.cons rfl (.cons rfl (.cons rfl (.cons rfl (.cons rfl (.nil _)))))))), ⟨st, (by first | omega | (dsimp only; omega)), (upd_snoc hP rfl)⟩, (by first | omega | (dsimp only; omega))⟩
  · refine Wc.exit ?_
    refine tx ?_
    refine tx ?_
    refine bh ?_
    refine tn ?_
    refine Wc.seq ?_
    refine Wc.seq ?_
    refine Wc.region rfl ?_
    refine Wl.pure (PR.assI rfl) ?_
    refine Wl.nil ?_
    refine tn ?_
    refine Wc.block ?_
    refine Wc.loopF (γ := Nat × Nat × (Nat → Nat → Nat)) (fun g => [(0, .pointer (some ⟨bk, ok_, none⟩)), (1, .int .u64 (((x : Nat) : Int))), (2, .int .u32 (((g.2.1 : Nat) : Int))), (6, .slice (none) (0) (0)), (7, .int .u32 (0)), (8, .slice (some ⟨b19, 0, none⟩) (s) (s)), (10, .int .i64 (((g.1 : Nat) : Int)))]) (fun g w_ => St [] w w_ [(b19, layS s P g.2.2, 29)] ∧ (g.1 ≤ 64) ∧ (g.2.1 = sdK p sd g.1) ∧ (g.2.1 < 4294967296) ∧ (∀ u v, g.2.2 u v < 256) ∧ (∀ u, u < s → ∀ v, v < g.1 → g.2.2 u v = dwC (shF a b x) p sd u v)) (fun g => 64 - g.1) ?_ ?_
    · exact ⟨(0, sd, (fun _ _ => 0)), (.cons rfl (.cons rfl (.cons rfl (.cons rfl (.cons rfl (.cons rfl (.cons rfl (.nil _)))))))), st, (by first | omega | (dsimp only; omega)), rfl, hsd, (fun _ _ => show (0 : Nat) < 256 by decide), (fun u hu v hv => by omega)⟩
    clear st
    rintro ⟨k, z, C⟩ w5 ⟨st, hk, hz, hzb, hC, hg⟩
    try dsimp only at st hk hz hzb hC hg ⊢
    refine Wc.seq ?_
    refine Wc.seq ?_
    refine Wc.region rfl ?_
    refine Wl.pure (PR.moveI rfl) ?_
    refine Wl.pure (PR.lss (a := ((k : Nat) : Int)) (b := 64) rfl rfl) ?_
    refine Wl.nil ?_
    refine tn ?_
    refine Wc.condD (p := ((k : Nat) : Int) < 64) rfl (fun h6 => ?_) (fun h6 => ?_)
    · refine Wc.skip ?_
      refine tn ?_
      refine Wc.seq ?_
      refine Wc.block ?_
      refine Wc.seq ?_
      refine Wc.region rfl ?_
      refine Wl.pure (PR.moveI rfl) ?_
      refine Wl.pure (PR.moveP rfl) ?_
      refine Wl.pure (PR.nil_ rfl) ?_
      refine Wl.pure (PR.fieldAddr tF_62_1 rfl) ?_
      refine Wl.loadC tA_22 rfl ((hR.st st).at_ (j := 1) (rfl) rfl) ?_
      refine Wl.pure (PR.conv (n := ((p : Nat) : Int)) tI_2 rfl (by simp only [fitI]; omega) Try.underlying22) ?_
      refine Wl.callXG [] st (c_spec_l03Order (x := z) (n := p) hzb hp8) rfl rfl ?_
      clear st
      intro b45 c45 sp45 w7 hc45 hs45 st
      replace st : St [] w w7 [(b45, arrU .i8 p (oOf p z) ++ sp45, 22), (b19, layS s P C, 29)] := st
      refine Wl.pure (PR.moveV (.tuple #[.slice (some ⟨b45, 0, none⟩) (p) (c45), .int .u32 (((xOf p z : Nat) : Int))]) rfl) ?_
      refine Wl.pure (PR.extr (i := 0) (vs := [.slice (some ⟨b45, 0, none⟩) (p) (c45), .int .u32 (((xOf p z : Nat) : Int))]) rfl rfl) ?_
      refine Wl.pure (PR.extr (i := 1) (vs := [.slice (some ⟨b45, 0, none⟩) (p) (c45), .int .u32 (((xOf p z : Nat) : Int))]) rfl rfl) ?_
      refine Wl.pure (PR.assL rfl) ?_
      refine Wl.pure (PR.assI rfl) ?_
      refine Wl.nil ?_
      refine tn ?_
      refine Wc.seq ?_
      refine Wc.region rfl ?_
      refine Wl.pure (PR.moveI rfl) ?_
      refine Wl.pure (PR.assI rfl) ?_
      refine Wl.nil ?_
      refine tn ?_
      refine Wc.seq ?_
      refine Wc.region rfl ?_
      refine Wl.pure (PR.moveP rfl) ?_
      refine Wl.pure (PR.moveI rfl) ?_
      refine Wl.pure (PR.moveI rfl) ?_
      refine Wl.callV (c_bit_pec (x := x) (k := k) hx (by first | assumption | omega)) rfl ?_
      intro w8 hbel
      replace st := st.call hbel
      clear hbel
      refine Wl.pure (PR.moveL rfl) ?_
      refine Wl.callXG [] st (c_spec_l03Cell (bk := bk) (ok_ := ok_) (s := s) (p := p) (a := a) (b := b) (q := (bitB x k)) (A := some ⟨b45, 0, none⟩) (cp := c45) (o := (oOf p z)) (hR.st st) (by first | assumption | omega) ha hb (by first | assumption | omega) ((st.rdA (i := 0) (n := p) rfl (app_all (arrU_len _))).sl) (fun j hj => Nat.lt_of_lt_of_le (oOf_lt j hj) (by omega))) rfl rfl ?_
      clear st
      intro b54 c54 sp54 w9 hc54 hs54 st
      replace st : St [] w w9 [(b54, arrU .u8 s (fun i_ => rdF (bif (bitB x k) then b i_ else a i_) (oOf p z) p) ++ sp54, 5), (b45, arrU .i8 p (oOf p z) ++ sp45, 22), (b19, layS s P C, 29)] := st
      refine Wl.pure (PR.assL rfl) ?_
      refine Wl.nil ?_
      refine tn ?_
      refine Wc.seq ?_
      refine Wc.region rfl ?_
      refine Wl.pure (PR.assI rfl) ?_
      refine Wl.nil ?_
      refine tn ?_
      refine Wc.block ?_
      refine Wc.loopF (γ := Nat × (Nat → Nat → Nat)) (fun g => [(0, .pointer (some ⟨bk, ok_, none⟩)), (1, .int .u64 (((x : Nat) : Int))), (2, .int .u32 (((xOf p z : Nat) : Int))), (6, .slice (none) (0) (0)), (7, .int .u32 (0)), (8, .slice (some ⟨b19, 0, none⟩) (s) (s)), (10, .int .i64 (((k : Nat) : Int))), (11, .slice (some ⟨b45, 0, none⟩) (p) (c45)), (12, .int .u32 (((xOf p z : Nat) : Int))), (13, .slice (some ⟨b54, 0, none⟩) (s) (c54)), (14, .int .i64 (((g.1 : Nat) : Int))), (34, .int .i64 (((k : Nat) : Int))), (35, .bool (decide (((k : Nat) : Int) < 64))), (38, .tuple #[.slice (some ⟨b45, 0, none⟩) (p) (c45), .int .u32 (((xOf p z : Nat) : Int))]), (39, .int .u32 (((z : Nat) : Int))), (40, .pointer (some ⟨bk, ok_, none⟩)), (41, .pointer (some ⟨bk, ok_, none⟩)), (42, .pointer (some ⟨bk, ok_ + 1, none⟩)), (43, .int .i8 (((p : Nat) : Int))), (44, .int .i64 (((p : Nat) : Int))), (45, .tuple #[.slice (some ⟨b45, 0, none⟩) (p) (c45), .int .u32 (((xOf p z : Nat) : Int))]), (46, .slice (some ⟨b45, 0, none⟩) (p) (c45)), (47, .int .u32 (((xOf p z : Nat) : Int))), (48, .int .u32 (((xOf p z : Nat) : Int))), (49, .pointer (some ⟨bk, ok_, none⟩)), (50, .int .u64 (((x : Nat) : Int))), (51, .int .i64 (((k : Nat) : Int))), (52, .bool (bitB x k)), (53, .slice (some ⟨b45, 0, none⟩) (p) (c45)), (54, .slice (some ⟨b54, 0, none⟩) (s) (c54))]) (fun g w_ => St [] w w_ [(b54, arrU .u8 s (fun i_ => rdF (bif (bitB x k) then b i_ else a i_) (oOf p z) p) ++ sp54, 5), (b45, arrU .i8 p (oOf p z) ++ sp45, 22), (b19, layS s P g.2, 29)] ∧ (g.1 ≤ s) ∧ (∀ u v, g.2 u v < 256) ∧ (∀ u, u < s → ∀ v, v < k → g.2 u v = dwC (shF a b x) p sd u v) ∧ (∀ u, u < g.1 → g.2 u k = dwC (shF a b x) p sd u k)) (fun g => s - g.1) ?_ ?_
      · exact ⟨(0, C), (.cons rfl (.cons rfl (.cons rfl (.cons rfl (.cons rfl (.cons rfl (.cons rfl (.cons rfl (.cons rfl (.cons rfl (.cons rfl (.cons rfl (.cons rfl (.cons rfl (.cons rfl (.cons rfl (.cons rfl (.cons rfl (.cons rfl (.cons rfl (.cons rfl (.cons rfl (.cons rfl (.cons rfl (.cons rfl (.cons rfl (.cons rfl (.cons rfl (.cons rfl (.cons rfl (.nil _))))))))))))))))))))))))))))))), st, (by first | omega | (dsimp only; omega)), hC, hg, (fun u hu => by omega)⟩
      clear st
      rintro ⟨r0, C⟩ w10 ⟨st, hr0, hC, hg, hr⟩
      try dsimp only at st hr0 hC hg hr ⊢
      refine Wc.seq ?_
      refine Wc.seq ?_
      refine Wc.region rfl ?_
      refine Wl.pure (PR.moveI rfl) ?_
      refine Wl.pure (PR.moveL rfl) ?_
      refine Wl.pure (PR.lenL tS_37 rfl) ?_
      refine Wl.pure (PR.lss (a := ((r0 : Nat) : Int)) (b := ((s : Nat) : Int)) rfl rfl) ?_
      refine Wl.nil ?_
      refine tn ?_
      refine Wc.condD (p := ((r0 : Nat) : Int) < ((s : Nat) : Int)) rfl (fun h11 => ?_) (fun h11 => ?_)
      · refine Wc.skip ?_
        refine tn ?_
        refine Wc.seq ?_
        refine Wc.block ?_
        refine Wc.quietTail 10 hmix (by kernel_rfl) rfl ?_
        refine Wq.pure (PR.moveL rfl) ?_
        refine Wq.pure (PR.moveI rfl) ?_
        refine Wq.pure (PR.moveI rfl) ?_
        refine Wq.pure (PR.moveL rfl) ?_
        refine Wq.pure (PR.moveI rfl) ?_
        refine Wq.pure (PR.idxAddrS1 (i := r0) tS_68 rfl rfl (by omega)) ?_
        refine Wq.load (i := 0) st tA_5 rfl rfl (app_get (arrU_get0 (by omega))) ?_
        refine Wq.pure (PR.idxAddrS (i := r0) tS_37 rfl rfl (by omega)) ?_
        refine Wq.pure (PR.fieldAddr tF_29_1 rfl) ?_
        refine Wq.pure (PR.idxAddrA1 (i := k) tE_23 rfl rfl (by omega)) ?_
        refine Wq.nil (fun w12 hbel => ?_)
        replace st := st.call hbel
        clear hbel
        refine Wl.store (i := 2) (cs' := layS s P (upd C r0 (upd (C r0) k (rdF (bif (bitB x k) then b r0 else a r0) (oOf p z) p)))) st tA_5 rfl rfl rfl rfl (layS_in (i := r0) (j := 1 + k) (by omega) (by omega) (by omega)) (layS_set_c (by omega) (by omega)) ?_
        clear st
        intro w13 st
        replace st : St [] w w13 [(b54, arrU .u8 s (fun i_ => rdF (bif (bitB x k) then b i_ else a i_) (oOf p z) p) ++ sp54, 5), (b45, arrU .i8 p (oOf p z) ++ sp45, 22), (b19, layS s P (upd C r0 (upd (C r0) k (rdF (bif (bitB x k) then b r0 else a r0) (oOf p z) p))), 29)] := st
        refine Wl.nil ?_
        refine bn ?_
        refine tn ?_
        refine Wc.region rfl ?_
        refine Wl.pure (PR.moveI rfl) ?_
        refine Wl.pure (PR.add (a := ((r0 : Nat) : Int)) (b := 1) rfl rfl (by simp only [fitI]; omega)) ?_
        refine Wl.pure (PR.assI rfl) ?_
        refine Wl.nil ?_
        refine tn ?_
        exact ⟨(r0 + 1, (upd C r0 (upd (C r0) k (rdF (bif (bitB x k) then b r0 else a r0) (oOf p z) p)))), (.cons rfl (.cons rfl (.cons rfl (.cons rfl (.cons rfl (.cons rfl (.cons rfl (.cons rfl (.cons rfl (.cons rfl (.cons rfl (.cons rfl (.cons rfl (.cons rfl (.cons rfl (.cons rfl (.cons rfl (.cons rfl (.cons rfl (.cons rfl (.cons rfl (.cons rfl (.cons rfl (.cons rfl (.cons rfl (.cons rfl (.cons rfl (.cons rfl (.cons rfl (.cons rfl (.nil _))))))))))))))))))))))))))))))), ⟨st, (by first | omega | (dsimp only; omega)), (upd2_lt hC (rdF_lt _ _ _)), (dw_cell hg), (dw_row hr (by rw [hz]; rfl))⟩, (by first | omega | (dsimp only; omega))⟩
      · refine Wc.exit ?_
        refine tx ?_
        refine tx ?_
        refine bh ?_
        refine bn ?_
        refine tn ?_
        refine Wc.region rfl ?_
        refine Wl.pure (PR.moveI rfl) ?_
        refine Wl.pure (PR.add (a := ((k : Nat) : Int)) (b := 1) rfl rfl (by simp only [fitI]; omega)) ?_
        refine Wl.pure (PR.assI rfl) ?_
        refine Wl.nil ?_
        refine tn ?_
        replace st := st.tail
        replace st := st.tail
        exact ⟨(k + 1, xOf p z, C), (.cons rfl (.cons rfl (.cons rfl (.cons rfl (.cons rfl (.cons rfl (.cons rfl (.nil _)))))))), ⟨st, (by first | omega | (dsimp only; omega)), (by rw [hz]; rfl), (xOf_lt hzb), hC, (dw_next hg hr (by omega))⟩, (by first | omega | (dsimp only; omega))⟩
    · refine Wc.exit ?_
      refine tx ?_
      refine tx ?_
      refine bh ?_
      refine tn ?_
      refine Wc.seq ?_
      refine Wc.region rfl ?_
      refine Wl.pure (PR.moveL rfl) ?_
      refine Wl.pure (PR.moveI rfl) ?_
      refine Wl.pure (PR.assL rfl) ?_
      refine Wl.pure (PR.assI rfl) ?_
      refine Wl.nil ?_
      refine tn ?_
      refine Wc.ret ?_
      refine postL.tmp2 rfl rfl rfl ?_
      obtain rfl : k = 64 := by omega
      rw [show layS s P C = layS s (fun _ => ((p : Nat) : Int)) (dwC (shF a b x) p sd) from layS_congr (fun i hi => hP i (by omega)) (fun u hu v hv => hg u hu v hv)] at st
      replace st := st.nilapp
      exact ⟨b19, s, ([]), (Nat.le_refl _), (by simp), (by rw [hz]), st⟩

set_option maxHeartbeats 400000 in
set_option maxRecDepth 4000 in
theorem c_spec_SharePicture {s : Nat} {p : Nat} {a : Nat → Nat} {b : Nat → Nat} {x : Nat} {sd : Nat} {w : World} (hok : schOk ((s : Nat) : Int) ((p : Nat) : Int) a b = true) (hp8 : 1 ≤ p ∧ p ≤ 8) (ha : ∀ k, a k < 256) (hb : ∀ k, b k < 256) (hs6 : 1 ≤ s ∧ s ≤ 6) (hx : x < 18446744073709551616) (hsd : sd < 4294967296) :
    CE Try.prog 38 [.agg (schV ((s : Nat) : Int) ((p : Nat) : Int) (a) (b)).toArray, .int .u64 (((x : Nat) : Int)), .int .u32 (((sd : Nat) : Int))] w (RetXG w [] 29 65 (s) (layS s (fun _ => ((p : Nat) : Int)) (dwC (shF a b x) p sd)) (fun b_ c_ => .tuple #[.slice (some ⟨b_, 0, none⟩) (s) (c_), .int .u32 (((sdK p sd 64 : Nat) : Int)), .int .i64 (0)]) []) := by
  refine CE.enter 23 [(0, .agg (schV ((s : Nat) : Int) ((p : Nat) : Int) (a) (b)).toArray), (1, .int .u64 (((x : Nat) : Int))), (2, .int .u32 (((sd : Nat) : Int)))] en_38 Try.func38 rfl rfl (Nat.le_of_ble_eq_true rfl) rfl ?_
  have st := St.start w
  refine Wc.seq ?_
  refine Wc.region rfl ?_
  refine Wl.boxA st rfl ?_
  clear st
  intro b3 w1 st
  refine Wl.pure (PR.assL rfl) ?_
  refine Wl.pure (PR.assI rfl) ?_
  refine Wl.pure (PR.assI rfl) ?_
  refine Wl.nil ?_
  refine tn ?_
  refine Wc.seq ?_
  refine Wc.seq ?_
  refine Wc.region rfl ?_
  refine Wl.loadA (i := 0) st tA_62 rfl rfl (all_sub schV_len) schV_len ?_
  refine Wl.callV (c_spec_ValidScheme (s := ((s : Nat) : Int)) (p := ((p : Nat) : Int)) (a := a) (b := b) (by first | assumption | omega) (by first | assumption | omega) ha hb) rfl ?_
  intro w2 hbel
  replace st := st.call hbel
  clear hbel
  refine Wl.pure (PR.not_ rfl) ?_
  refine Wl.nil ?_
  refine tn ?_
  refine Wc.condNB (b := schOk ((s : Nat) : Int) ((p : Nat) : Int) a b) rfl (fun h3 => ?_) (fun h3 => ?_)
  · refine Wc.seq ?_
    exfalso
    rw [hok] at *; contradiction
  · refine Wc.skip ?_
    refine tn ?_
    refine Wc.seq ?_
    refine Wc.region rfl ?_
    refine Wl.pure (PR.moveI rfl) ?_
    refine Wl.pure (PR.moveI rfl) ?_
    refine Wl.callXG [] st (c_spec_l03Share (bk := b3) (ok_ := 0) (s := s) (p := p) (a := a) (b := b) (x := x) (sd := sd) (st.rdA (i := 0) rfl (all_sub schV_len)) (by first | assumption | omega) ha hb (by first | assumption | omega) hx hsd) rfl rfl ?_
    clear st
    intro b18 c18 sp18 w4 hc18 hs18 st
    replace st : St [] w w4 [(b18, layS s (fun _ => ((p : Nat) : Int)) (dwC (shF a b x) p sd) ++ sp18, 29), (b3, schV ((s : Nat) : Int) ((p : Nat) : Int) (a) (b), 62)] := st
    refine Wl.pure (PR.moveV (.tuple #[.slice (some ⟨b18, 0, none⟩) (s) (c18), .int .u32 (((sdK p sd 64 : Nat) : Int))]) rfl) ?_
    refine Wl.pure (PR.extr (i := 0) (vs := [.slice (some ⟨b18, 0, none⟩) (s) (c18), .int .u32 (((sdK p sd 64 : Nat) : Int))]) rfl rfl) ?_
    refine Wl.pure (PR.extr (i := 1) (vs := [.slice (some ⟨b18, 0, none⟩) (s) (c18), .int .u32 (((sdK p sd 64 : Nat) : Int))]) rfl rfl) ?_
    refine Wl.pure (PR.assL rfl) ?_
    refine Wl.pure (PR.assI rfl) ?_
    refine Wl.nil ?_
    refine tn ?_
    refine Wc.seq ?_
    refine Wc.region rfl ?_
    refine Wl.pure (PR.moveL rfl) ?_
    refine Wl.pure (PR.moveI rfl) ?_
    refine Wl.pure (PR.assL rfl) ?_
    refine Wl.pure (PR.assI rfl) ?_
    refine Wl.pure (PR.assI rfl) ?_
    refine Wl.nil ?_
    refine tn ?_
    refine Wc.ret ?_
    refine postL.many (rvs := [.tmp 6, .tmp 7, .tmp 8]) rfl (.tmp (v := .slice (some ⟨b18, 0, none⟩) (s) (c18)) rfl (.tmp (v := .int .u32 (((sdK p sd 64 : Nat) : Int))) rfl (.tmp (v := .int .i64 (0)) rfl .nil))) ?_
    replace st : St [] w w4 [(b18, layS s (fun _ => ((p : Nat) : Int)) (dwC (shF a b x) p sd) ++ sp18, 29)] := st.pick [0] (by decide) rfl
    exact ⟨b18, c18, sp18, hc18, hs18, rfl, st⟩

end Go.Proofs.Ytagghfllgafmgaa
