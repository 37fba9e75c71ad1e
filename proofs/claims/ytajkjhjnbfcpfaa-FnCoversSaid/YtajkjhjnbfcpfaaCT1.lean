/-
  Contracts of functions, printed by a program of ours.
-/
import Derived.Test.YtajkjhjnbfcpfaaCW4
import Derived.Test.YtajkjhjnbfcpfaaCX1
import Derived.Test.YtajkjhjnbfcpfaaTri
import Derived.Test.YtajkjhjnbfcpfaaFactsQ
namespace Go.Proofs.Ytajkjhjnbfcpfaa
open Go.RowKit
set_option linter.unusedVariables false
set_option linter.unusedSimpArgs false

set_option maxHeartbeats 400000 in
set_option maxRecDepth 4000 in
theorem c_spec_l00Src_next {bs : Nat} {A : Option Addr} {n : Nat} {cp : Nat} {c : Nat → Nat} {t : Nat} {sd : Nat} {w : World} (hR : RdN w A n (arrU .u8 n c) bs) (hc : ∀ k, c k < 256) (ht : t ≤ 1000000) (hsd : sd < 18446744073709551616) (hst : St [bs] w w [(bs, [.slice (A) (n) (cp), .int .i64 (((t : Nat) : Int)), .int .u64 (((sd : Nat) : Int))], 162)]) :
    CE Try.prog 127 [.pointer (some ⟨bs, 0, none⟩)] w (RetXE (γ := Nat × Nat × Nat) w [bs] (fun g => (g.1 < 256) ∧ (g.2.1 ≤ t + 1 ∧ t ≤ g.2.1) ∧ (g.2.2 < 18446744073709551616)) (fun g => .int .i64 (((g.1 : Nat) : Int))) (fun g => [(bs, [.slice (A) (n) (cp), .int .i64 (((g.2.1 : Nat) : Int)), .int .u64 (((g.2.2 : Nat) : Int))], 162)])) := by
  refine CE.enter 62 [(0, .pointer (some ⟨bs, 0, none⟩))] en_127 Try.func127 rfl rfl (Nat.le_of_ble_eq_true rfl) rfl ?_
  have st := hst
  refine Wc.seq ?_
  refine Wc.region rfl ?_
  refine Wl.pure (PR.assI rfl) ?_
  refine Wl.nil ?_
  refine tn ?_
  refine Wc.seq ?_
  refine Wc.region rfl ?_
  refine Wl.pure (PR.assI rfl) ?_
  refine Wl.nil ?_
  refine tn ?_
  refine Wc.seq ?_
  refine Wc.seq ?_
  refine Wc.quiet hmix (by kernel_rfl) rfl ?_
  refine Wq.pure (PR.moveP rfl) ?_
  refine Wq.pure (PR.nil_ rfl) ?_
  refine Wq.pure (PR.fieldAddr tF_162_1 rfl) ?_
  refine Wq.load (i := 0) st tA_3 rfl rfl (rfl) ?_
  refine Wq.pure (PR.moveP rfl) ?_
  refine Wq.pure (PR.nil_ rfl) ?_
  refine Wq.pure (PR.fieldAddr tF_162_0 rfl) ?_
  refine Wq.load (i := 0) st tA_67 rfl rfl (rfl) ?_
  refine Wq.pure (PR.lenL tS_67 rfl) ?_
  refine Wq.pure (PR.lss (a := ((t : Nat) : Int)) (b := ((n : Nat) : Int)) rfl rfl) ?_
  refine Wq.nil (fun w1 hbel => ?_)
  replace st := st.call hbel
  clear hbel
  refine tn ?_
  refine Wc.condD (p := ((t : Nat) : Int) < ((n : Nat) : Int)) rfl (fun h2 => ?_) (fun h2 => ?_)
  · have hcb := hc t
    refine Wc.quiet hmix (by kernel_rfl) rfl ?_
    refine Wq.pure (PR.moveP rfl) ?_
    refine Wq.pure (PR.nil_ rfl) ?_
    refine Wq.pure (PR.fieldAddr tF_162_0 rfl) ?_
    refine Wq.load (i := 0) st tA_67 rfl rfl (rfl) ?_
    refine Wq.pure (PR.moveP rfl) ?_
    refine Wq.pure (PR.nil_ rfl) ?_
    refine Wq.pure (PR.fieldAddr tF_162_1 rfl) ?_
    refine Wq.load (i := 0) st tA_3 rfl rfl (rfl) ?_
    obtain ⟨bs3, os4, rfl, hs5⟩ := hR (by omega)
    refine Wq.pure (PR.idxAddrS1 (i := t) tS_67 rfl rfl (by omega)) ?_
    refine Wq.loadC tA_5 rfl ((hs5.st st).at_ (arrU_get0 (by omega)) (Nat.add_assoc _ _ _).symm) ?_
    refine Wq.pure (PR.conv (n := ((c (t) : Nat) : Int)) tI_3 rfl (fitN (hc (t)) rfl) Try.underlying5) ?_
    refine Wq.pure (PR.assI rfl) ?_
    refine Wq.nil (fun w6 hbel => ?_)
    replace st := st.call hbel
    clear hbel
    refine tn ?_
    refine Wc.seq ?_
    refine Wc.region rfl ?_
    refine Wl.pure (PR.moveP rfl) ?_
    refine Wl.pure (PR.nil_ rfl) ?_
    refine Wl.pure (PR.fieldAddr tF_162_1 rfl) ?_
    refine Wl.load (i := 0) st tA_3 rfl rfl (rfl) ?_
    refine Wl.pure (PR.add (a := ((t : Nat) : Int)) (b := 1) rfl rfl (by simp only [fitI]; omega)) ?_
    refine Wl.pure (PR.nil_ rfl) ?_
    refine Wl.pure (PR.fieldAddr tF_162_1 rfl) ?_
    refine Wl.store (i := 0) (cs' := [.slice (some ⟨bs3, os4, none⟩) (n) (cp), .int .i64 ((((t + 1) : Nat) : Int)), .int .u64 (((sd : Nat) : Int))]) st tA_3 rfl rfl rfl rfl (by simp) (rfl) ?_
    clear st
    intro w7 st
    replace st : St [bs] w w7 [(bs, [.slice (some ⟨bs3, os4, none⟩) (n) (cp), .int .i64 ((((t + 1) : Nat) : Int)), .int .u64 (((sd : Nat) : Int))], 162)] := st
    refine Wl.nil ?_
    refine tn ?_
    refine Wc.seq ?_
    refine Wc.region rfl ?_
    refine Wl.pure (PR.moveP rfl) ?_
    refine Wl.pure (PR.moveP rfl) ?_
    refine Wl.pure (PR.nil_ rfl) ?_
    refine Wl.pure (PR.fieldAddr tF_162_2 rfl) ?_
    refine Wl.load (i := 0) st tA_26 rfl rfl (rfl) ?_
    refine Wl.pure (PR.mulU (a := sd) (b := 6364136223846793005) rfl rfl (by decide)) ?_
    refine Wl.pure (PR.moveI rfl) ?_
    refine Wl.pure (PR.conv (n := ((c (t) : Nat) : Int)) tI_26 rfl (by have := hc t; simp only [fitI]; omega) Try.underlying3) ?_
    refine Wl.pure (PR.addU (a := ((sd * 6364136223846793005) % 18446744073709551616)) (b := c (t)) rfl rfl (by decide)) ?_
    refine Wl.pure (PR.addU (a := ((((sd * 6364136223846793005) % 18446744073709551616) + (c (t))) % 18446744073709551616)) (b := 1442695040888963407) rfl rfl (by decide)) ?_
    refine Wl.pure (PR.nil_ rfl) ?_
    refine Wl.pure (PR.fieldAddr tF_162_2 rfl) ?_
    refine Wl.store (i := 0) (cs' := [.slice (some ⟨bs3, os4, none⟩) (n) (cp), .int .i64 ((((t + 1) : Nat) : Int)), .int .u64 (((((((((sd * 6364136223846793005) % 18446744073709551616) + (c (t))) % 18446744073709551616) + 1442695040888963407) % 18446744073709551616) : Nat) : Int))]) st tA_26 rfl rfl rfl rfl (by simp) (rfl) ?_
    clear st
    intro w8 st
    replace st : St [bs] w w8 [(bs, [.slice (some ⟨bs3, os4, none⟩) (n) (cp), .int .i64 ((((t + 1) : Nat) : Int)), .int .u64 (((((((((sd * 6364136223846793005) % 18446744073709551616) + (c (t))) % 18446744073709551616) + 1442695040888963407) % 18446744073709551616) : Nat) : Int))], 162)] := st
    refine Wl.nil ?_
    refine tn ?_
    refine Wc.seq ?_
    refine Wc.seq ?_
    refine Wc.quiet hmix (by kernel_rfl) rfl ?_
    refine Wq.pure (PR.moveP rfl) ?_
    refine Wq.pure (PR.nil_ rfl) ?_
    refine Wq.pure (PR.fieldAddr tF_162_1 rfl) ?_
    refine Wq.load (i := 0) st tA_3 rfl rfl (rfl) ?_
    refine Wq.pure (PR.moveP rfl) ?_
    refine Wq.pure (PR.nil_ rfl) ?_
    refine Wq.pure (PR.fieldAddr tF_162_0 rfl) ?_
    refine Wq.load (i := 0) st tA_67 rfl rfl (rfl) ?_
    refine Wq.pure (PR.lenL tS_67 rfl) ?_
    refine Wq.pure (PR.leq (a := (((t + 1) : Nat) : Int)) (b := ((n : Nat) : Int)) rfl rfl) ?_
    refine Wq.nil (fun w9 hbel => ?_)
    replace st := st.call hbel
    clear hbel
    refine tn ?_
    refine Wc.condD (p := (((t + 1) : Nat) : Int) ≤ ((n : Nat) : Int)) rfl (fun h10 => ?_) (fun h10 => ?_)
    · refine Wc.seq ?_
      refine Wc.region rfl ?_
      refine Wl.pure (PR.moveI rfl) ?_
      refine Wl.pure (PR.assI rfl) ?_
      refine Wl.nil ?_
      refine tn ?_
      refine Wc.ret ?_
      refine tr ?_
      refine postL.tmp rfl rfl ?_
      exact ⟨(c (t), (t + 1), ((((((sd * 6364136223846793005) % 18446744073709551616) + (c (t))) % 18446744073709551616) + 1442695040888963407) % 18446744073709551616)), ⟨(by dsimp only; first | decide | assumption | exact hc _ | exact Nat.lt_succ_of_le Nat.and_le_right), (by dsimp only; omega), (by dsimp only; first | exact Nat.mod_lt _ (by decide) | assumption)⟩, rfl, st⟩
    · refine Wc.skip ?_
      refine tn ?_
      refine Wc.seq ?_
      refine Wc.region rfl ?_
      refine Wl.pure (PR.moveP rfl) ?_
      refine Wl.pure (PR.nil_ rfl) ?_
      refine Wl.pure (PR.fieldAddr tF_162_2 rfl) ?_
      refine Wl.load (i := 0) st tA_26 rfl rfl (rfl) ?_
      refine Wl.pure (PR.shr (a := ((((((sd * 6364136223846793005) % 18446744073709551616) + (c (t))) % 18446744073709551616) + 1442695040888963407) % 18446744073709551616)) (n := 40) rfl rfl (by decide) (Nat.mod_lt _ (by decide))) ?_
      refine Wl.pure (PR.and (a := (((((((sd * 6364136223846793005) % 18446744073709551616) + (c (t))) % 18446744073709551616) + 1442695040888963407) % 18446744073709551616) >>> 40)) (b := 255) rfl rfl (by decide) (shr_lt (Nat.mod_lt _ (by decide))) (by decide)) ?_
      refine Wl.pure (PR.conv (n := ((((((((((sd * 6364136223846793005) % 18446744073709551616) + (c (t))) % 18446744073709551616) + 1442695040888963407) % 18446744073709551616) >>> 40) &&& 255) : Nat) : Int)) tI_2 rfl (fit255 Nat.and_le_right) Try.underlying26) ?_
      refine Wl.pure (PR.assI rfl) ?_
      refine Wl.nil ?_
      refine tn ?_
      refine Wc.ret ?_
      refine postL.tmp rfl rfl ?_
      exact ⟨(((((((((sd * 6364136223846793005) % 18446744073709551616) + (c (t))) % 18446744073709551616) + 1442695040888963407) % 18446744073709551616) >>> 40) &&& 255), (t + 1), ((((((sd * 6364136223846793005) % 18446744073709551616) + (c (t))) % 18446744073709551616) + 1442695040888963407) % 18446744073709551616)), ⟨(by dsimp only; first | decide | assumption | exact hc _ | exact Nat.lt_succ_of_le Nat.and_le_right), (by dsimp only; omega), (by dsimp only; first | exact Nat.mod_lt _ (by decide) | assumption)⟩, rfl, st⟩
  · refine Wc.skip ?_
    refine tn ?_
    refine Wc.seq ?_
    refine Wc.region rfl ?_
    refine Wl.pure (PR.moveP rfl) ?_
    refine Wl.pure (PR.nil_ rfl) ?_
    refine Wl.pure (PR.fieldAddr tF_162_1 rfl) ?_
    refine Wl.load (i := 0) st tA_3 rfl rfl (rfl) ?_
    refine Wl.pure (PR.add (a := ((t : Nat) : Int)) (b := 1) rfl rfl (by simp only [fitI]; omega)) ?_
    refine Wl.pure (PR.nil_ rfl) ?_
    refine Wl.pure (PR.fieldAddr tF_162_1 rfl) ?_
    refine Wl.store (i := 0) (cs' := [.slice (A) (n) (cp), .int .i64 ((((t + 1) : Nat) : Int)), .int .u64 (((sd : Nat) : Int))]) st tA_3 rfl rfl rfl rfl (by simp) (rfl) ?_
    clear st
    intro w11 st
    replace st : St [bs] w w11 [(bs, [.slice (A) (n) (cp), .int .i64 ((((t + 1) : Nat) : Int)), .int .u64 (((sd : Nat) : Int))], 162)] := st
    refine Wl.nil ?_
    refine tn ?_
    refine Wc.seq ?_
    refine Wc.region rfl ?_
    refine Wl.pure (PR.moveP rfl) ?_
    refine Wl.pure (PR.moveP rfl) ?_
    refine Wl.pure (PR.nil_ rfl) ?_
    refine Wl.pure (PR.fieldAddr tF_162_2 rfl) ?_
    refine Wl.load (i := 0) st tA_26 rfl rfl (rfl) ?_
    refine Wl.pure (PR.mulU (a := sd) (b := 6364136223846793005) rfl rfl (by decide)) ?_
    refine Wl.pure (PR.moveI rfl) ?_
    refine Wl.pure (PR.conv (n := 0) tI_26 rfl (by have := hc t; simp only [fitI]; omega) Try.underlying3) ?_
    refine Wl.pure (PR.addU (a := ((sd * 6364136223846793005) % 18446744073709551616)) (b := 0) rfl rfl (by decide)) ?_
    refine Wl.pure (PR.addU (a := ((((sd * 6364136223846793005) % 18446744073709551616) + 0) % 18446744073709551616)) (b := 1442695040888963407) rfl rfl (by decide)) ?_
    refine Wl.pure (PR.nil_ rfl) ?_
    refine Wl.pure (PR.fieldAddr tF_162_2 rfl) ?_
    refine Wl.store (i := 0) (cs' := [.slice (A) (n) (cp), .int .i64 ((((t + 1) : Nat) : Int)), .int .u64 (((((((((sd * 6364136223846793005) % 18446744073709551616) + 0) % 18446744073709551616) + 1442695040888963407) % 18446744073709551616) : Nat) : Int))]) st tA_26 rfl rfl rfl rfl (by simp) (rfl) ?_
    clear st
    intro w12 st
    replace st : St [bs] w w12 [(bs, [.slice (A) (n) (cp), .int .i64 ((((t + 1) : Nat) : Int)), .int .u64 (((((((((sd * 6364136223846793005) % 18446744073709551616) + 0) % 18446744073709551616) + 1442695040888963407) % 18446744073709551616) : Nat) : Int))], 162)] := st
    refine Wl.nil ?_
    refine tn ?_
    refine Wc.seq ?_
    refine Wc.seq ?_
    refine Wc.quiet hmix (by kernel_rfl) rfl ?_
    refine Wq.pure (PR.moveP rfl) ?_
    refine Wq.pure (PR.nil_ rfl) ?_
    refine Wq.pure (PR.fieldAddr tF_162_1 rfl) ?_
    refine Wq.load (i := 0) st tA_3 rfl rfl (rfl) ?_
    refine Wq.pure (PR.moveP rfl) ?_
    refine Wq.pure (PR.nil_ rfl) ?_
    refine Wq.pure (PR.fieldAddr tF_162_0 rfl) ?_
    refine Wq.load (i := 0) st tA_67 rfl rfl (rfl) ?_
    refine Wq.pure (PR.lenL tS_67 rfl) ?_
    refine Wq.pure (PR.leq (a := (((t + 1) : Nat) : Int)) (b := ((n : Nat) : Int)) rfl rfl) ?_
    refine Wq.nil (fun w13 hbel => ?_)
    replace st := st.call hbel
    clear hbel
    refine tn ?_
    refine Wc.condD (p := (((t + 1) : Nat) : Int) ≤ ((n : Nat) : Int)) rfl (fun h14 => ?_) (fun h14 => ?_)
    · refine Wc.seq ?_
      refine Wc.region rfl ?_
      refine Wl.pure (PR.moveI rfl) ?_
      refine Wl.pure (PR.assI rfl) ?_
      refine Wl.nil ?_
      refine tn ?_
      refine Wc.ret ?_
      refine tr ?_
      refine postL.tmp rfl rfl ?_
      exact ⟨(0, (t + 1), ((((((sd * 6364136223846793005) % 18446744073709551616) + 0) % 18446744073709551616) + 1442695040888963407) % 18446744073709551616)), ⟨(by dsimp only; first | decide | assumption | exact hc _ | exact Nat.lt_succ_of_le Nat.and_le_right), (by dsimp only; omega), (by dsimp only; first | exact Nat.mod_lt _ (by decide) | assumption)⟩, rfl, st⟩
    · refine Wc.skip ?_
      refine tn ?_
      refine Wc.seq ?_
      refine Wc.region rfl ?_
      refine Wl.pure (PR.moveP rfl) ?_
      refine Wl.pure (PR.nil_ rfl) ?_
      refine Wl.pure (PR.fieldAddr tF_162_2 rfl) ?_
      refine Wl.load (i := 0) st tA_26 rfl rfl (rfl) ?_
      refine Wl.pure (PR.shr (a := ((((((sd * 6364136223846793005) % 18446744073709551616) + 0) % 18446744073709551616) + 1442695040888963407) % 18446744073709551616)) (n := 40) rfl rfl (by decide) (Nat.mod_lt _ (by decide))) ?_
      refine Wl.pure (PR.and (a := (((((((sd * 6364136223846793005) % 18446744073709551616) + 0) % 18446744073709551616) + 1442695040888963407) % 18446744073709551616) >>> 40)) (b := 255) rfl rfl (by decide) (shr_lt (Nat.mod_lt _ (by decide))) (by decide)) ?_
      refine Wl.pure (PR.conv (n := ((((((((((sd * 6364136223846793005) % 18446744073709551616) + 0) % 18446744073709551616) + 1442695040888963407) % 18446744073709551616) >>> 40) &&& 255) : Nat) : Int)) tI_2 rfl (fit255 Nat.and_le_right) Try.underlying26) ?_
      refine Wl.pure (PR.assI rfl) ?_
      refine Wl.nil ?_
      refine tn ?_
      refine Wc.ret ?_
      refine postL.tmp rfl rfl ?_
      exact ⟨(((((((((sd * 6364136223846793005) % 18446744073709551616) + 0) % 18446744073709551616) + 1442695040888963407) % 18446744073709551616) >>> 40) &&& 255), (t + 1), ((((((sd * 6364136223846793005) % 18446744073709551616) + 0) % 18446744073709551616) + 1442695040888963407) % 18446744073709551616)), ⟨(by dsimp only; first | decide | assumption | exact hc _ | exact Nat.lt_succ_of_le Nat.and_le_right), (by dsimp only; omega), (by dsimp only; first | exact Nat.mod_lt _ (by decide) | assumption)⟩, rfl, st⟩

set_option maxHeartbeats 400000 in
set_option maxRecDepth 4000 in
theorem c_spec_l00Src_pick {bs : Nat} {A : Option Addr} {n : Nat} {cp : Nat} {c : Nat → Nat} {t : Nat} {sd : Nat} {m : Nat} {w : World} (hR : RdN w A n (arrU .u8 n c) bs) (hc : ∀ k, c k < 256) (ht : t ≤ 990000) (hsd : sd < 18446744073709551616) (hm : m ≤ 4294967296) (hst : St [bs] w w [(bs, [.slice (A) (n) (cp), .int .i64 (((t : Nat) : Int)), .int .u64 (((sd : Nat) : Int))], 162)]) :
    CE Try.prog 98 [.pointer (some ⟨bs, 0, none⟩), .int .i64 (((m : Nat) : Int))] w (RetXE (γ := Nat × Nat × Nat) w [bs] (fun g => (g.1 < m ∨ (g.1 = 0 ∧ m ≤ 1)) ∧ (g.2.1 ≤ t + 2 ∧ t ≤ g.2.1) ∧ (g.2.2 < 18446744073709551616)) (fun g => .int .i64 (((g.1 : Nat) : Int))) (fun g => [(bs, [.slice (A) (n) (cp), .int .i64 (((g.2.1 : Nat) : Int)), .int .u64 (((g.2.2 : Nat) : Int))], 162)])) := by
  refine CE.enter 20 [(0, .pointer (some ⟨bs, 0, none⟩)), (1, .int .i64 (((m : Nat) : Int)))] en_98 Try.func98 rfl rfl (Nat.le_of_ble_eq_true rfl) rfl ?_
  have st := hst
  refine Wc.seq ?_
  refine Wc.region rfl ?_
  refine Wl.pure (PR.assI rfl) ?_
  refine Wl.nil ?_
  refine tn ?_
  refine Wc.seq ?_
  refine Wc.seq ?_
  refine Wc.region rfl ?_
  refine Wl.pure (PR.moveI rfl) ?_
  refine Wl.pure (PR.leq (a := ((m : Nat) : Int)) (b := 1) rfl rfl) ?_
  refine Wl.nil ?_
  refine tn ?_
  refine Wc.condD (p := ((m : Nat) : Int) ≤ 1) rfl (fun h1 => ?_) (fun h1 => ?_)
  · refine Wc.seq ?_
    refine Wc.region rfl ?_
    refine Wl.pure (PR.assI rfl) ?_
    refine Wl.nil ?_
    refine tn ?_
    refine Wc.ret ?_
    refine tr ?_
    refine postL.tmp rfl rfl ?_
    exact ⟨(0, t, sd), ⟨(by dsimp only; first | omega | exact pk_lt (by omega)), (by dsimp only; omega), (by dsimp only; first | exact Nat.mod_lt _ (by decide) | assumption)⟩, rfl, st⟩
  · refine Wc.skip ?_
    refine tn ?_
    refine Wc.seq ?_
    refine Wc.region rfl ?_
    refine Wl.pure (PR.moveP rfl) ?_
    refine Wl.callXE [0] st (c_spec_l00Src_next (bs := bs) (A := A) (n := n) (cp := cp) (c := c) (t := t) (sd := sd) (hR.st st) hc (by first | assumption | omega) hsd (st.lend (L' := [(bs, [.slice (A) (n) (cp), .int .i64 (((t : Nat) : Int)), .int .u64 (((sd : Nat) : Int))], 162)]) [0] (by decide) rfl)) rfl rfl ?_
    clear st
    rintro ⟨v__3, t__4, e__5⟩ ⟨hx_6, hx_7, hx_8⟩ w2 st
    try dsimp only at st hx_6 hx_7 hx_8
    replace st : St [bs] w w2 [(bs, [.slice (A) (n) (cp), .int .i64 (((t__4 : Nat) : Int)), .int .u64 (((e__5 : Nat) : Int))], 162)] := st
    refine Wl.pure (PR.assI rfl) ?_
    refine Wl.nil ?_
    refine tn ?_
    refine Wc.seq ?_
    refine Wc.seq ?_
    refine Wc.region rfl ?_
    refine Wl.pure (PR.moveI rfl) ?_
    refine Wl.pure (PR.gtr (a := ((m : Nat) : Int)) (b := 200) rfl rfl) ?_
    refine Wl.nil ?_
    refine tn ?_
    refine Wc.condD (p := 200 < ((m : Nat) : Int)) rfl (fun h9 => ?_) (fun h9 => ?_)
    · refine Wc.region rfl ?_
      refine Wl.pure (PR.moveI rfl) ?_
      refine Wl.pure (PR.mul (a := ((v__3 : Nat) : Int)) (b := 256) rfl rfl (by simp only [fitI]; omega)) ?_
      refine Wl.pure (PR.moveP rfl) ?_
      refine Wl.callXE [0] st (c_spec_l00Src_next (bs := bs) (A := A) (n := n) (cp := cp) (c := c) (t := t__4) (sd := e__5) (hR.st st) hc (by first | assumption | omega) (by first | assumption | omega) (st.lend (L' := [(bs, [.slice (A) (n) (cp), .int .i64 (((t__4 : Nat) : Int)), .int .u64 (((e__5 : Nat) : Int))], 162)]) [0] (by decide) rfl)) rfl rfl ?_
      clear st
      rintro ⟨v__11, t__12, e__13⟩ ⟨hx_14, hx_15, hx_16⟩ w10 st
      try dsimp only at st hx_14 hx_15 hx_16
      replace st : St [bs] w w10 [(bs, [.slice (A) (n) (cp), .int .i64 (((t__12 : Nat) : Int)), .int .u64 (((e__13 : Nat) : Int))], 162)] := st
      refine Wl.pure (PR.add (a := (((v__3 * 256) : Nat) : Int)) (b := ((v__11 : Nat) : Int)) rfl rfl (by simp only [fitI]; omega)) ?_
      refine Wl.pure (PR.assI rfl) ?_
      refine Wl.nil ?_
      refine tn ?_
      refine Wc.seq ?_
      refine Wc.region rfl ?_
      refine Wl.pure (PR.moveI rfl) ?_
      refine Wl.pure (PR.moveI rfl) ?_
      refine Wl.pure (PR.rem (a := ((((v__3 * 256) + v__11) : Nat) : Int)) (b := ((m : Nat) : Int)) rfl rfl (by omega) (by omega)) ?_
      refine Wl.pure (PR.assI rfl) ?_
      refine Wl.nil ?_
      refine tn ?_
      refine Wc.ret ?_
      refine postL.tmp rfl rfl ?_
      exact ⟨((((v__3 * 256) + v__11) % m), t__12, e__13), ⟨(by dsimp only; first | omega | exact pk_lt (by omega)), (by dsimp only; omega), (by dsimp only; first | exact Nat.mod_lt _ (by decide) | assumption)⟩, rfl, st⟩
    · refine Wc.skip ?_
      refine tn ?_
      refine Wc.seq ?_
      refine Wc.region rfl ?_
      refine Wl.pure (PR.moveI rfl) ?_
      refine Wl.pure (PR.moveI rfl) ?_
      refine Wl.pure (PR.rem (a := ((v__3 : Nat) : Int)) (b := ((m : Nat) : Int)) rfl rfl (by omega) (by omega)) ?_
      refine Wl.pure (PR.assI rfl) ?_
      refine Wl.nil ?_
      refine tn ?_
      refine Wc.ret ?_
      refine postL.tmp rfl rfl ?_
      exact ⟨((v__3 % m), t__4, e__5), ⟨(by dsimp only; first | omega | exact pk_lt (by omega)), (by dsimp only; omega), (by dsimp only; first | exact Nat.mod_lt _ (by decide) | assumption)⟩, rfl, st⟩

set_option maxHeartbeats 400000 in
set_option maxRecDepth 4000 in
theorem c_spec_l01Pictured {bs : Nat} {A : Option Addr} {n : Nat} {cp : Nat} {c : Nat → Nat} {t : Nat} {sd : Nat} {w : World} (hR : RdN w A n (arrU .u8 n c) bs) (hc : ∀ k, c k < 256) (ht : t ≤ 980000) (hsd : sd < 18446744073709551616) (hst : St [bs] w w [(bs, [.slice (A) (n) (cp), .int .i64 (((t : Nat) : Int)), .int .u64 (((sd : Nat) : Int))], 162)]) :
    CE Try.prog 93 [.pointer (some ⟨bs, 0, none⟩)] w (RetXE (γ := Nat × Nat × Nat) w [bs] (fun g => (g.1 < 18446744073709551616) ∧ (g.2.1 ≤ t + 6 ∧ t ≤ g.2.1) ∧ (g.2.2 < 18446744073709551616)) (fun g => .int .u64 (((g.1 : Nat) : Int))) (fun g => [(bs, [.slice (A) (n) (cp), .int .i64 (((g.2.1 : Nat) : Int)), .int .u64 (((g.2.2 : Nat) : Int))], 162)])) := by
  refine CE.enter 27 [(0, .pointer (some ⟨bs, 0, none⟩))] en_93 Try.func93 rfl rfl (Nat.le_of_ble_eq_true rfl) rfl ?_
  have st := hst
  refine Wc.seq ?_
  refine Wc.region rfl ?_
  refine Wl.pure (PR.assI rfl) ?_
  refine Wl.nil ?_
  refine tn ?_
  refine Wc.seq ?_
  refine Wc.seq ?_
  refine Wc.region rfl ?_
  refine Wl.pure (PR.moveP rfl) ?_
  refine Wl.callXE [0] st (c_spec_l00Src_pick (bs := bs) (A := A) (n := n) (cp := cp) (c := c) (t := t) (sd := sd) (m := 8) (hR.st st) hc (by first | assumption | omega) hsd (by first | assumption | omega) (st.lend (L' := [(bs, [.slice (A) (n) (cp), .int .i64 (((t : Nat) : Int)), .int .u64 (((sd : Nat) : Int))], 162)]) [0] (by decide) rfl)) rfl rfl ?_
  clear st
  rintro ⟨v__2, t__3, e__4⟩ ⟨hx_5, hx_6, hx_7⟩ w1 st
  try dsimp only at st hx_5 hx_6 hx_7
  replace st : St [bs] w w1 [(bs, [.slice (A) (n) (cp), .int .i64 (((t__3 : Nat) : Int)), .int .u64 (((e__4 : Nat) : Int))], 162)] := st
  refine Wl.nil ?_
  refine tn ?_
  refine Wc.block ?_
  refine Wc.seq ?_
  refine Wc.region rfl ?_
  refine Wl.pure (PR.eql (a := ((v__2 : Nat) : Int)) (b := 0) rfl rfl) ?_
  refine Wl.pure (PR.assB rfl) ?_
  refine Wl.nil ?_
  refine tn ?_
  refine Wc.condD (p := ((v__2 : Nat) : Int) = 0) rfl (fun h8 => ?_) (fun h8 => ?_)
  · refine Wc.seq ?_
    refine Wc.region rfl ?_
    refine Wl.pure (PR.assI rfl) ?_
    refine Wl.nil ?_
    refine tn ?_
    refine Wc.ret ?_
    refine br ?_
    refine tr ?_
    refine postL.tmp rfl rfl ?_
    exact ⟨(0, t__3, e__4), ⟨(by dsimp only; first | decide | exact Nat.mod_lt _ (by decide) | exact or_lt_u64 (Nat.mod_lt _ (by decide)) (by omega)), (by dsimp only; omega), (by dsimp only; first | exact Nat.mod_lt _ (by decide) | assumption)⟩, rfl, st⟩
  · refine Wc.seq ?_
    refine Wc.region rfl ?_
    refine Wl.pure (PR.eql (a := ((v__2 : Nat) : Int)) (b := 1) rfl rfl) ?_
    refine Wl.pure (PR.assB rfl) ?_
    refine Wl.nil ?_
    refine tn ?_
    refine Wc.condD (p := ((v__2 : Nat) : Int) = 1) rfl (fun h9 => ?_) (fun h9 => ?_)
    · refine Wc.seq ?_
      refine Wc.region rfl ?_
      refine Wl.pure (PR.assI rfl) ?_
      refine Wl.nil ?_
      refine tn ?_
      refine Wc.ret ?_
      refine br ?_
      refine tr ?_
      refine postL.tmp rfl rfl ?_
      exact ⟨(18446744073709551615, t__3, e__4), ⟨(by dsimp only; first | decide | exact Nat.mod_lt _ (by decide) | exact or_lt_u64 (Nat.mod_lt _ (by decide)) (by omega)), (by dsimp only; omega), (by dsimp only; first | exact Nat.mod_lt _ (by decide) | assumption)⟩, rfl, st⟩
    · refine Wc.seq ?_
      refine Wc.region rfl ?_
      refine Wl.pure (PR.eql (a := ((v__2 : Nat) : Int)) (b := 2) rfl rfl) ?_
      refine Wl.pure (PR.assB rfl) ?_
      refine Wl.nil ?_
      refine tn ?_
      refine Wc.condD (p := ((v__2 : Nat) : Int) = 2) rfl (fun h10 => ?_) (fun h10 => ?_)
      · refine Wc.seq ?_
        refine Wc.region rfl ?_
        refine Wl.pure (PR.moveP rfl) ?_
        refine Wl.callXE [0] st (c_spec_l00Src_pick (bs := bs) (A := A) (n := n) (cp := cp) (c := c) (t := t__3) (sd := e__4) (m := 64) (hR.st st) hc (by first | assumption | omega) (by first | assumption | omega) (by first | assumption | omega) (st.lend (L' := [(bs, [.slice (A) (n) (cp), .int .i64 (((t__3 : Nat) : Int)), .int .u64 (((e__4 : Nat) : Int))], 162)]) [0] (by decide) rfl)) rfl rfl ?_
        clear st
        rintro ⟨v__12, t__13, e__14⟩ ⟨hx_15, hx_16, hx_17⟩ w11 st
        try dsimp only at st hx_15 hx_16 hx_17
        replace st : St [bs] w w11 [(bs, [.slice (A) (n) (cp), .int .i64 (((t__13 : Nat) : Int)), .int .u64 (((e__14 : Nat) : Int))], 162)] := st
        refine Wl.pure (PR.conv (n := ((v__12 : Nat) : Int)) tI_133 rfl (by simp only [fitI]; omega) Try.underlying2) ?_
        refine Wl.pure (PR.shl (a := 1) (n := v__12) rfl rfl (by decide)) ?_
        refine Wl.pure (PR.assI rfl) ?_
        refine Wl.nil ?_
        refine tn ?_
        refine Wc.ret ?_
        refine br ?_
        refine tr ?_
        refine postL.tmp rfl rfl ?_
        exact ⟨(((1 <<< v__12) % 18446744073709551616), t__13, e__14), ⟨(by dsimp only; first | decide | exact Nat.mod_lt _ (by decide) | exact or_lt_u64 (Nat.mod_lt _ (by decide)) (by omega)), (by dsimp only; omega), (by dsimp only; first | exact Nat.mod_lt _ (by decide) | assumption)⟩, rfl, st⟩
      · refine Wc.skip ?_
        refine bn ?_
        refine tn ?_
        refine Wc.seq ?_
        refine Wc.region rfl ?_
        refine Wl.pure (PR.moveP rfl) ?_
        refine Wl.callXE [0] st (c_spec_l00Src_pick (bs := bs) (A := A) (n := n) (cp := cp) (c := c) (t := t__3) (sd := e__4) (m := 1073741824) (hR.st st) hc (by first | assumption | omega) (by first | assumption | omega) (by first | assumption | omega) (st.lend (L' := [(bs, [.slice (A) (n) (cp), .int .i64 (((t__3 : Nat) : Int)), .int .u64 (((e__4 : Nat) : Int))], 162)]) [0] (by decide) rfl)) rfl rfl ?_
        clear st
        rintro ⟨v__19, t__20, e__21⟩ ⟨hx_22, hx_23, hx_24⟩ w18 st
        try dsimp only at st hx_22 hx_23 hx_24
        replace st : St [bs] w w18 [(bs, [.slice (A) (n) (cp), .int .i64 (((t__20 : Nat) : Int)), .int .u64 (((e__21 : Nat) : Int))], 162)] := st
        refine Wl.pure (PR.conv (n := ((v__19 : Nat) : Int)) tI_27 rfl (by simp only [fitI]; omega) Try.underlying2) ?_
        refine Wl.pure (PR.assI rfl) ?_
        refine Wl.nil ?_
        refine tn ?_
        refine Wc.seq ?_
        refine Wc.region rfl ?_
        refine Wl.pure (PR.moveP rfl) ?_
        refine Wl.callXE [0] st (c_spec_l00Src_pick (bs := bs) (A := A) (n := n) (cp := cp) (c := c) (t := t__20) (sd := e__21) (m := 1073741824) (hR.st st) hc (by first | assumption | omega) (by first | assumption | omega) (by first | assumption | omega) (st.lend (L' := [(bs, [.slice (A) (n) (cp), .int .i64 (((t__20 : Nat) : Int)), .int .u64 (((e__21 : Nat) : Int))], 162)]) [0] (by decide) rfl)) rfl rfl ?_
        clear st
        rintro ⟨v__26, t__27, e__28⟩ ⟨hx_29, hx_30, hx_31⟩ w25 st
        try dsimp only at st hx_29 hx_30 hx_31
        replace st : St [bs] w w25 [(bs, [.slice (A) (n) (cp), .int .i64 (((t__27 : Nat) : Int)), .int .u64 (((e__28 : Nat) : Int))], 162)] := st
        refine Wl.pure (PR.conv (n := ((v__26 : Nat) : Int)) tI_27 rfl (by simp only [fitI]; omega) Try.underlying2) ?_
        refine Wl.pure (PR.assI rfl) ?_
        refine Wl.nil ?_
        refine tn ?_
        refine Wc.seq ?_
        refine Wc.region rfl ?_
        refine Wl.pure (PR.moveI rfl) ?_
        refine Wl.pure (PR.shl (a := v__19) (n := 34) rfl rfl (by decide)) ?_
        refine Wl.pure (PR.moveI rfl) ?_
        refine Wl.pure (PR.or (a := ((v__19 <<< 34) % 18446744073709551616)) (b := v__26) rfl rfl (by decide) (Nat.mod_lt _ (by decide)) (show _ < 18446744073709551616 by omega)) ?_
        refine Wl.pure (PR.assI rfl) ?_
        refine Wl.nil ?_
        refine tn ?_
        refine Wc.ret ?_
        refine postL.tmp rfl rfl ?_
        exact ⟨((((v__19 <<< 34) % 18446744073709551616) ||| v__26), t__27, e__28), ⟨(by dsimp only; first | decide | exact Nat.mod_lt _ (by decide) | exact or_lt_u64 (Nat.mod_lt _ (by decide)) (by omega)), (by dsimp only; omega), (by dsimp only; first | exact Nat.mod_lt _ (by decide) | assumption)⟩, rfl, st⟩

set_option maxHeartbeats 400000 in
set_option maxRecDepth 4000 in
theorem c_spec_l03Seed {bs : Nat} {A : Option Addr} {n : Nat} {cp : Nat} {c : Nat → Nat} {t : Nat} {sd : Nat} {w : World} (hR : RdN w A n (arrU .u8 n c) bs) (hc : ∀ k, c k < 256) (ht : t ≤ 980000) (hsd : sd < 18446744073709551616) (hst : St [bs] w w [(bs, [.slice (A) (n) (cp), .int .i64 (((t : Nat) : Int)), .int .u64 (((sd : Nat) : Int))], 162)]) :
    CE Try.prog 95 [.pointer (some ⟨bs, 0, none⟩)] w (RetXE (γ := Nat × Nat × Nat) w [bs] (fun g => (g.1 < 4294967296) ∧ (g.2.1 ≤ t + 2 ∧ t ≤ g.2.1) ∧ (g.2.2 < 18446744073709551616)) (fun g => .int .u32 (((g.1 : Nat) : Int))) (fun g => [(bs, [.slice (A) (n) (cp), .int .i64 (((g.2.1 : Nat) : Int)), .int .u64 (((g.2.2 : Nat) : Int))], 162)])) := by
  refine CE.enter 7 [(0, .pointer (some ⟨bs, 0, none⟩))] en_95 Try.func95 rfl rfl (Nat.le_of_ble_eq_true rfl) rfl ?_
  have st := hst
  refine Wc.seq ?_
  refine Wc.region rfl ?_
  refine Wl.pure (PR.assI rfl) ?_
  refine Wl.nil ?_
  refine tn ?_
  refine Wc.seq ?_
  refine Wc.region rfl ?_
  refine Wl.pure (PR.moveP rfl) ?_
  refine Wl.callXE [0] st (c_spec_l00Src_pick (bs := bs) (A := A) (n := n) (cp := cp) (c := c) (t := t) (sd := sd) (m := 1073741824) (hR.st st) hc (by first | assumption | omega) hsd (by first | assumption | omega) (st.lend (L' := [(bs, [.slice (A) (n) (cp), .int .i64 (((t : Nat) : Int)), .int .u64 (((sd : Nat) : Int))], 162)]) [0] (by decide) rfl)) rfl rfl ?_
  clear st
  rintro ⟨v__2, t__3, e__4⟩ ⟨hx_5, hx_6, hx_7⟩ w1 st
  try dsimp only at st hx_5 hx_6 hx_7
  replace st : St [bs] w w1 [(bs, [.slice (A) (n) (cp), .int .i64 (((t__3 : Nat) : Int)), .int .u64 (((e__4 : Nat) : Int))], 162)] := st
  refine Wl.pure (PR.conv (n := ((v__2 : Nat) : Int)) tI_38 rfl (by simp only [fitI]; omega) Try.underlying2) ?_
  refine Wl.pure (PR.mulU (a := v__2) (b := 5) rfl rfl (by decide)) ?_
  refine Wl.pure (PR.assI rfl) ?_
  refine Wl.nil ?_
  refine tn ?_
  refine Wc.ret ?_
  refine postL.tmp rfl rfl ?_
  exact ⟨(((v__2 * 5) % 4294967296), t__3, e__4), ⟨(by dsimp only; first | decide | exact Nat.mod_lt _ (by decide)), (by dsimp only; omega), (by dsimp only; first | exact Nat.mod_lt _ (by decide) | assumption)⟩, rfl, st⟩

set_option maxHeartbeats 400000 in
set_option maxRecDepth 4000 in
theorem c_spec_l00From {A : Option Addr} {n : Nat} {cp : Nat} {c : Nat → Nat} {w : World} (hR : RdS w A n (arrU .u8 n c)) (hc : ∀ k, c k < 256) :
    CE Try.prog 94 [.slice (A) (n) (cp)] w (RetP w 162 ([.slice (A) (n) (cp), .int .i64 (0), .int .u64 (0)])) := by
  refine CE.enter 6 [(0, .slice (A) (n) (cp))] en_94 Try.func94 rfl rfl (Nat.le_of_ble_eq_true rfl) rfl ?_
  have st := St.start w
  refine Wc.seq ?_
  refine Wc.region rfl ?_
  refine Wl.pure (PR.assV ((.pointer none)) rfl) ?_
  refine Wl.nil ?_
  refine tn ?_
  refine Wc.seq ?_
  refine Wc.region rfl ?_
  refine Wl.pure (PR.moveL rfl) ?_
  refine Wl.pure (PR.build (ps := [(0, .slice (A) (n) (cp))]) (cs := [.slice (A) (n) (cp), .int .i64 (0), .int .u64 (0)]) tB_162 rfl rfl) ?_
  refine Wl.boxA st rfl ?_
  clear st
  intro b5 w1 st
  refine Wl.pure (PR.assP rfl) ?_
  refine Wl.nil ?_
  refine tn ?_
  refine Wc.ret ?_
  refine postL.tmp rfl rfl ?_
  exact ⟨b5, rfl, st⟩

set_option maxHeartbeats 400000 in
set_option maxRecDepth 4000 in
theorem c_spec_P6Picture {A : Option Addr} {n : Nat} {cp : Nat} {c : Nat → Nat} {w : World} (hR : RdS w A n (arrU .u8 n c)) (hc : ∀ k, c k < 256) :
    CE Try.prog 45 [.slice (A) (n) (cp)] w (RetXE (γ := Nat) w [] (fun g => (g < 18446744073709551616)) (fun g => .int .u64 (((g : Nat) : Int))) (fun g => [])) := by
  refine CE.enter 6 [(0, .slice (A) (n) (cp))] en_45 Try.func45 rfl rfl (Nat.le_of_ble_eq_true rfl) rfl ?_
  have st := St.start w
  refine Wc.seq ?_
  refine Wc.region rfl ?_
  refine Wl.pure (PR.assI rfl) ?_
  refine Wl.nil ?_
  refine tn ?_
  refine Wc.seq ?_
  refine Wc.region rfl ?_
  refine Wl.pure (PR.moveL rfl) ?_
  refine Wl.callPn st (c_spec_l00From (A := A) (n := n) (cp := cp) (c := c) (hR.st st) hc) rfl ?_
  clear st
  intro b4 w1 st
  replace st : St [] w w1 [(b4, [.slice (A) (n) (cp), .int .i64 (0), .int .u64 (0)], 162)] := st
  refine Wl.callXE [0] st (c_spec_l01Pictured (bs := b4) (A := A) (n := n) (cp := cp) (c := c) (t := 0) (sd := 0) (hR.ne st (i := 0) rfl) hc (by first | assumption | omega) (by first | assumption | omega) (st.lend (L' := [(b4, [.slice (A) (n) (cp), .int .i64 (0), .int .u64 (0)], 162)]) [0] (by decide) rfl)) rfl rfl ?_
  clear st
  rintro ⟨p__3, t__4, e__5⟩ ⟨hx_6, hx_7, hx_8⟩ w2 st
  try dsimp only at st hx_6 hx_7 hx_8
  replace st : St [] w w2 [(b4, [.slice (A) (n) (cp), .int .i64 (((t__4 : Nat) : Int)), .int .u64 (((e__5 : Nat) : Int))], 162)] := st
  refine Wl.pure (PR.assI rfl) ?_
  refine Wl.nil ?_
  refine tn ?_
  refine Wc.ret ?_
  refine postL.tmp rfl rfl ?_
  replace st : St [] w w2 [] := st.pick [] (by decide) rfl
  exact ⟨p__3, (by dsimp only; assumption), rfl, st⟩

set_option maxHeartbeats 400000 in
set_option maxRecDepth 4000 in
theorem c_spec_P6Seed {A : Option Addr} {n : Nat} {cp : Nat} {c : Nat → Nat} {w : World} (hR : RdS w A n (arrU .u8 n c)) (hc : ∀ k, c k < 256) :
    CE Try.prog 46 [.slice (A) (n) (cp)] w (RetXE (γ := Nat) w [] (fun g => (g < 4294967296)) (fun g => .int .u32 (((g : Nat) : Int))) (fun g => [])) := by
  refine CE.enter 6 [(0, .slice (A) (n) (cp))] en_46 Try.func46 rfl rfl (Nat.le_of_ble_eq_true rfl) rfl ?_
  have st := St.start w
  refine Wc.seq ?_
  refine Wc.region rfl ?_
  refine Wl.pure (PR.assI rfl) ?_
  refine Wl.nil ?_
  refine tn ?_
  refine Wc.seq ?_
  refine Wc.region rfl ?_
  refine Wl.pure (PR.moveL rfl) ?_
  refine Wl.callPn st (c_spec_l00From (A := A) (n := n) (cp := cp) (c := c) (hR.st st) hc) rfl ?_
  clear st
  intro b4 w1 st
  replace st : St [] w w1 [(b4, [.slice (A) (n) (cp), .int .i64 (0), .int .u64 (0)], 162)] := st
  refine Wl.callXE [0] st (c_spec_l03Seed (bs := b4) (A := A) (n := n) (cp := cp) (c := c) (t := 0) (sd := 0) (hR.ne st (i := 0) rfl) hc (by first | assumption | omega) (by first | assumption | omega) (st.lend (L' := [(b4, [.slice (A) (n) (cp), .int .i64 (0), .int .u64 (0)], 162)]) [0] (by decide) rfl)) rfl rfl ?_
  clear st
  rintro ⟨x__3, t__4, e__5⟩ ⟨hx_6, hx_7, hx_8⟩ w2 st
  try dsimp only at st hx_6 hx_7 hx_8
  replace st : St [] w w2 [(b4, [.slice (A) (n) (cp), .int .i64 (((t__4 : Nat) : Int)), .int .u64 (((e__5 : Nat) : Int))], 162)] := st
  refine Wl.pure (PR.assI rfl) ?_
  refine Wl.nil ?_
  refine tn ?_
  refine Wc.ret ?_
  refine postL.tmp rfl rfl ?_
  replace st : St [] w w2 [] := st.pick [] (by decide) rfl
  exact ⟨x__3, (by dsimp only; assumption), rfl, st⟩

set_option maxHeartbeats 400000 in
set_option maxRecDepth 4000 in
theorem c_laws_f6big {A : Option Addr} {n : Nat} {cp : Nat} {w : World} (hn : n ≤ 9223372036854775807) :
    CE Try.prog 44 [.slice (A) (n) (cp)] w (RetV w (.bool (decide ((4096 : Int) < ((n : Nat) : Int))))) := by
  refine CE.enter 6 [(0, .slice (A) (n) (cp))] en_44 Try.func44 rfl rfl (Nat.le_of_ble_eq_true rfl) rfl ?_
  have st := St.start w
  refine Wc.seq ?_
  refine Wc.region rfl ?_
  refine Wl.pure (PR.assB rfl) ?_
  refine Wl.nil ?_
  refine tn ?_
  refine Wc.seq ?_
  refine Wc.region rfl ?_
  refine Wl.pure (PR.moveL rfl) ?_
  refine Wl.pure (PR.lenL tS_67 rfl) ?_
  refine Wl.pure (PR.gtr (a := ((n : Nat) : Int)) (b := 4096) rfl rfl) ?_
  refine Wl.pure (PR.assB rfl) ?_
  refine Wl.nil ?_
  refine tn ?_
  refine Wc.ret ?_
  refine postL.tmp rfl rfl ?_
  refine RetV.of ?_ st.below
  refine congrArg Value.bool ?_
  first | rfl | (exfalso; omega) | (simp only [*, decide_true, decide_false, Bool.not_true, Bool.not_false]; done) | (simp; omega) | (rw [Bool.eq_iff_iff]; simp; omega) | simp_all

set_option maxHeartbeats 400000 in
set_option maxRecDepth 4000 in
theorem c_impl_HistogramOf {p : Int} {c : Nat → Nat} {w : World} (hp : -128 ≤ p ∧ p ≤ 127) (hc : ∀ k, c k < 256) :
    CE Try.prog 47 [.agg (layV (p) (c)).toArray] w (RetV w (.tuple #[.agg (arrU .i64 9 (hsF p c)).toArray, .int .i64 (((hsC p c : Nat) : Int))])) := by
  refine CE.enter 23 [(0, .agg (layV (p) (c)).toArray)] en_47 Try.func47 rfl rfl (Nat.le_of_ble_eq_true rfl) rfl ?_
  have st := St.start w
  refine Wc.seq ?_
  refine Wc.region rfl ?_
  refine Wl.boxA st rfl ?_
  clear st
  intro b1 w1 st
  refine Wl.alloc st tZ_71 rfl ?_
  clear st
  intro b2 w2 st
  refine Wl.pure (PR.assI rfl) ?_
  refine Wl.nil ?_
  refine tn ?_
  refine Wc.seq ?_
  refine Wc.region rfl ?_
  refine Wl.pure (PR.build (ps := []) (cs := arrZ .i64 9 (fun _ => 0)) tB_71 rfl rfl) ?_
  refine Wl.alloc st tZ_71 rfl ?_
  clear st
  intro b4 w3 st
  refine Wl.storeA (i := 0) (cs' := arrZ .i64 9 (fun _ => 0)) st tA_71 rfl rfl (arrZ_len _) (arrZ_one _) rfl (le_of_len (arrZ_len _) (by omega)) (all_put (arrZ_len _)) ?_
  clear st
  intro w4 st
  replace st : St [] w w4 [(b4, arrZ .i64 9 (fun _ => 0), 71), (b2, arrZ .i64 9 (fun _ => 0), 71), (b1, layV (p) (c), 30)] := st
  refine Wl.nil ?_
  refine tn ?_
  refine Wc.seq ?_
  refine Wc.seq ?_
  refine Wc.region rfl ?_
  refine Wl.loadA (i := 2) st tA_30 rfl rfl (all_sub layV_len) layV_len ?_
  refine Wl.callV (c_impl_ValidLayer (p := p) (c := c) (by first | assumption | omega) hc) rfl ?_
  intro w5 hbel
  replace st := st.call hbel
  clear hbel
  refine Wl.pure (PR.not_ rfl) ?_
  refine Wl.nil ?_
  refine tn ?_
  refine Wc.condNB (b := layOk p c) rfl (fun h6 => ?_) (fun h6 => ?_)
  · refine Wc.seq ?_
    refine Wc.region rfl ?_
    refine Wl.loadA (i := 0) st tA_71 rfl rfl (all_sub (arrZ_len _)) (arrZ_len _) ?_
    refine Wl.storeA (i := 1) (cs' := arrZ .i64 9 (fun _ => 0)) st tA_71 rfl rfl (arrZ_len _) (arrZ_one _) rfl (le_of_len (arrZ_len _) (by omega)) (all_put (arrZ_len _)) ?_
    clear st
    intro w7 st
    replace st : St [] w w7 [(b4, arrZ .i64 9 (fun _ => 0), 71), (b2, arrZ .i64 9 (fun _ => 0), 71), (b1, layV (p) (c), 30)] := st
    refine Wl.pure (PR.assI rfl) ?_
    refine Wl.nil ?_
    refine tn ?_
    refine Wc.ret ?_
    refine tr ?_
    refine postL.many (rvs := [.cell 2 71, .tmp 3]) rfl (.cell (us := arrZ .i64 9 (fun _ => 0)) tA_71 rfl (arrZ_len _) (st.rdA (i := 1) (n := 9) rfl (all_sub (arrZ_len _))) (.tmp (v := .int .i64 (1)) rfl .nil)) ?_
    refine RetV.of ?_ st.below
    exact hs_f (by assumption)
  · refine Wc.skip ?_
    refine tn ?_
    refine Wc.seq ?_
    refine Wc.seq ?_
    refine Wc.region rfl ?_
    refine Wl.pure (PR.moveI rfl) ?_
    refine Wl.nil ?_
    refine tn ?_
    refine Wc.block ?_
    refine Wc.loopF (γ := Nat × (Nat → Nat)) (fun g => [(1, .pointer (some ⟨b1, 0, none⟩)), (2, .pointer (some ⟨b2, 0, none⟩)), (3, .int .i64 (0)), (4, .pointer (some ⟨b4, 0, none⟩)), (11, .int .i64 (((g.1 : Nat) : Int)))]) (fun g w_ => St [] w w_ [(b4, arrU .i64 9 g.2, 71), (b2, arrZ .i64 9 (fun _ => 0), 71), (b1, layV (p) (c), 30)] ∧ (g.1 ≤ 64) ∧ (∀ v, g.2 v = cnt (fun j => pc (c j)) v g.1)) (fun g => 64 - g.1) ?_ ?_
    · exact ⟨(0, (fun _ => 0)), (.cons rfl (.cons rfl (.cons rfl (.cons rfl (.cons rfl (.nil _)))))), st, (by first | omega | (dsimp only; omega)), (fun _ => rfl)⟩
    clear st
    rintro ⟨k, e⟩ w8 ⟨st, hk, he⟩
    try dsimp only at st hk he ⊢
    refine Wc.seq ?_
    refine Wc.region rfl ?_
    refine Wl.pure (PR.lss (a := ((k : Nat) : Int)) (b := 64) rfl rfl) ?_
    refine Wl.nil ?_
    refine tn ?_
    refine Wc.seq ?_
    refine Wc.condD (p := ((k : Nat) : Int) < 64) rfl (fun h9 => ?_) (fun h9 => ?_)
    · refine Wc.skip ?_
      refine tn ?_
      refine Wc.seq ?_
      refine Wc.block ?_
      refine Wc.seq ?_
      refine Wc.region rfl ?_
      refine Wl.pure (PR.moveI rfl) ?_
      refine Wl.pure (PR.assI rfl) ?_
      refine Wl.nil ?_
      refine tn ?_
      have h8 := pc_le8 (hc k)
      have hcl := cnt_le (fun j => pc (c j)) (pc (c k)) k
      refine Wc.region rfl ?_
      refine Wl.loadA (i := 2) st tA_30 rfl rfl (all_sub layV_len) layV_len ?_
      refine Wl.pure (PR.moveI rfl) ?_
      refine Wl.callV (c_impl_Layer_count (p := p) (c := c) (k := k) hc (by first | assumption | omega)) rfl ?_
      intro w10 hbel
      replace st := st.call hbel
      clear hbel
      refine Wl.pure (PR.idxAddrA1 (i := pc (c k)) tE_71 rfl rfl (by omega)) ?_
      refine Wl.load (i := 0) st tA_2 rfl rfl (arrU_get0 (by omega)) ?_
      refine Wl.pure (PR.add (a := ((e (pc (c k)) : Nat) : Int)) (b := 1) rfl rfl (by rw [he]; simp only [fitI]; omega)) ?_
      refine Wl.pure (PR.idxAddrA1 (i := pc (c k)) tE_71 rfl rfl (by omega)) ?_
      refine Wl.store (i := 0) (cs' := arrU .i64 9 (upd e (pc (c k)) (((e (pc (c k))) + 1)))) st tA_2 rfl rfl rfl rfl (lt_of_len (arrU_len _) (by omega)) (arrU_set0) ?_
      clear st
      intro w11 st
      replace st : St [] w w11 [(b4, arrU .i64 9 (upd e (pc (c k)) (((e (pc (c k))) + 1))), 71), (b2, arrZ .i64 9 (fun _ => 0), 71), (b1, layV (p) (c), 30)] := st
      refine Wl.nil ?_
      refine bn ?_
      refine tn ?_
      refine Wc.region rfl ?_
      refine Wl.pure (PR.add (a := ((k : Nat) : Int)) (b := 1) rfl rfl (by simp only [fitI]; omega)) ?_
      refine Wl.pure (PR.moveI rfl) ?_
      refine Wl.nil ?_
      refine tn ?_
      exact ⟨(k + 1, upd e (pc (c k)) (((e (pc (c k))) + 1))), (.cons rfl (.cons rfl (.cons rfl (.cons rfl (.cons rfl (.nil _)))))), ⟨st, (by first | omega | (dsimp only; omega)), (cnt_step (u := fun j => pc (c j)) he)⟩, (by first | omega | (dsimp only; omega))⟩
    · refine Wc.exit ?_
      refine tx ?_
      refine tx ?_
      refine bh ?_
      refine tn ?_
      refine Wc.seq ?_
      refine Wc.region rfl ?_
      refine Wl.loadA (i := 0) st tA_71 rfl rfl (all_sub (arrU_len _)) (arrU_len _) ?_
      refine Wl.storeA (i := 1) (cs' := arrU .i64 9 e) st tA_71 rfl rfl (arrU_len _) (arrU_one _) rfl (le_of_len (arrZ_len _) (by omega)) (all_put (arrZ_len _)) ?_
      clear st
      intro w12 st
      replace st : St [] w w12 [(b4, arrU .i64 9 e, 71), (b2, arrU .i64 9 e, 71), (b1, layV (p) (c), 30)] := st
      refine Wl.pure (PR.assI rfl) ?_
      refine Wl.nil ?_
      refine tn ?_
      refine Wc.ret ?_
      refine postL.many (rvs := [.cell 2 71, .tmp 3]) rfl (.cell (us := arrU .i64 9 e) tA_71 rfl (arrU_len _) (st.rdA (i := 1) (n := 9) rfl (all_sub (arrU_len _))) (.tmp (v := .int .i64 (0)) rfl .nil)) ?_
      refine RetV.of ?_ st.below
      obtain rfl : k = 64 := by omega
      exact hs_t (by assumption) he

end Go.Proofs.Ytajkjhjnbfcpfaa
