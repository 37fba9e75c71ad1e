/-
  Contracts of functions, printed by a program of ours.
-/
import Derived.Test.YtajkjhjnbfcpfaaCV1
namespace Go.Proofs.Ytajkjhjnbfcpfaa
open Go.RowKit
set_option linter.unusedVariables false
set_option linter.unusedSimpArgs false

set_option maxHeartbeats 400000 in
set_option maxRecDepth 4000 in
theorem c_math_bits_OnesCount8 {x : Nat} {w : World} (hx : x < 256) :
    CE Try.prog 72 [.int .u8 (((x : Nat) : Int))] w (RetV w (.int .i64 (((pc x : Nat) : Int)))) := by
  refine CE.enter 6 [(0, .int .u8 (((x : Nat) : Int)))] en_72 Try.func72 rfl rfl (Nat.le_of_ble_eq_true rfl) rfl ?_
  have st := St.start w
  refine Wc.seq ?_
  refine Wc.region rfl ?_
  refine Wl.pure (PR.assI rfl) ?_
  refine Wl.nil ?_
  refine tn ?_
  refine Wc.seq ?_
  refine Wc.region rfl ?_
  refine Wl.pure (PR.moveI rfl) ?_
  refine Wl.pure (PR.idxStr (i := x) (c := UInt8.ofNat (pc x)) Try.underlying9 rfl rfl (tab_of _ (by kernel_rfl) hx)) ?_
  refine Wl.pure (PR.conv (n := (((UInt8.ofNat (pc x)).toNat : Nat) : Int)) tI_3 rfl (fitN (show (UInt8.ofNat (pc x)).toNat < 256 from by rw [tab_nat hx]; have := pc_le8 hx; omega) rfl) Try.underlying5) ?_
  refine Wl.pure (PR.assI rfl) ?_
  refine Wl.nil ?_
  refine tn ?_
  refine Wc.ret ?_
  refine postL.tmp rfl rfl ?_
  refine RetV.of ?_ st.below
  refine congrArg (fun x : Nat => Value.int .i64 (x : Int)) ?_
  exact tab_nat hx

set_option maxHeartbeats 400000 in
set_option maxRecDepth 4000 in
theorem c_spec_l01Count {x : Nat} {w : World} (hx : x < 18446744073709551616) :
    CE Try.prog 71 [.int .u64 (((x : Nat) : Int))] w (RetV w (.int .i64 (((pc x : Nat) : Int)))) := by
  refine CE.enter 14 [(0, .int .u64 (((x : Nat) : Int)))] en_71 Try.func71 rfl rfl (Nat.le_of_ble_eq_true rfl) rfl ?_
  have st := St.start w
  refine Wc.seq ?_
  refine Wc.region rfl ?_
  refine Wl.pure (PR.assI rfl) ?_
  refine Wl.nil ?_
  refine tn ?_
  refine Wc.seq ?_
  refine Wc.region rfl ?_
  refine Wl.pure (PR.assI rfl) ?_
  refine Wl.nil ?_
  refine tn ?_
  refine Wc.seq ?_
  refine Wc.block ?_
  refine Wc.loopF (γ := Nat × Nat) (fun g => [(0, .int .u64 (((g.1 : Nat) : Int))), (2, .int .i64 (0)), (3, .int .i64 (((g.2 : Nat) : Int)))]) (fun g w_ => St [] w w_ [] ∧ (g.1 < 18446744073709551616) ∧ (pc x = g.2 + pc g.1)) (fun g => g.1) ?_ ?_
  · exact ⟨(x, 0), (.cons rfl (.cons rfl (.cons rfl (.nil _)))), st, hx, (Nat.zero_add _).symm⟩
  clear st
  rintro ⟨y, c⟩ w1 ⟨st, hy, hc⟩
  try dsimp only at st hy hc ⊢
  refine Wc.seq ?_
  refine Wc.seq ?_
  refine Wc.region rfl ?_
  refine Wl.pure (PR.moveI rfl) ?_
  refine Wl.pure (PR.neq (a := ((y : Nat) : Int)) (b := 0) rfl rfl) ?_
  refine Wl.nil ?_
  refine tn ?_
  refine Wc.condN (p := ((y : Nat) : Int) = 0) rfl (fun h2 => ?_) (fun h2 => ?_)
  · refine Wc.skip ?_
    refine tn ?_
    refine Wc.seq ?_
    refine Wc.block ?_
    refine Wc.region rfl ?_
    refine Wl.pure (PR.moveI rfl) ?_
    refine Wl.pure (PR.moveI rfl) ?_
    refine Wl.pure (PR.and (a := y) (b := 1) rfl rfl (by decide) hy (by decide)) ?_
    refine Wl.pure (PR.conv (n := (((y &&& 1) : Nat) : Int)) tI_2 rfl (by have : y &&& 1 ≤ 1 := Nat.and_le_right; simp only [fitI]; omega) Try.underlying26) ?_
    refine Wl.pure (PR.add (a := ((c : Nat) : Int)) (b := (((y &&& 1) : Nat) : Int)) rfl rfl (by have := pc_le x; have : y &&& 1 ≤ 1 := Nat.and_le_right; simp only [fitI]; omega)) ?_
    refine Wl.pure (PR.assI rfl) ?_
    refine Wl.nil ?_
    refine bn ?_
    refine tn ?_
    refine Wc.region rfl ?_
    refine Wl.pure (PR.moveI rfl) ?_
    refine Wl.pure (PR.shr (a := y) (n := 1) rfl rfl (by decide) hy) ?_
    refine Wl.pure (PR.assI rfl) ?_
    refine Wl.nil ?_
    refine tn ?_
    exact ⟨((y >>> 1), (c + (y &&& 1))), (.cons rfl (.cons rfl (.cons rfl (.nil _)))), ⟨st, (shr_lt hy), (pc_next hy hc)⟩, (by have := shr1 y; dsimp only; omega)⟩
  · refine Wc.exit ?_
    refine tx ?_
    refine tx ?_
    refine bh ?_
    refine tn ?_
    refine Wc.seq ?_
    refine Wc.region rfl ?_
    refine Wl.pure (PR.moveI rfl) ?_
    refine Wl.pure (PR.assI rfl) ?_
    refine Wl.nil ?_
    refine tn ?_
    refine Wc.ret ?_
    refine postL.tmp rfl rfl ?_
    refine RetV.of ?_ st.below
    refine congrArg (fun x : Nat => Value.int .i64 (x : Int)) ?_
    obtain rfl : y = 0 := by omega
    rw [hc]; unfold pc; rfl

set_option maxHeartbeats 400000 in
set_option maxRecDepth 4000 in
theorem c_impl_Layer_count {p : Int} {c : Nat → Nat} {k : Nat} {w : World} (hc : ∀ k, c k < 256) (hk : k < 64) :
    CE Try.prog 97 [.agg (layV (p) (c)).toArray, .int .i64 (((k : Nat) : Int))] w (RetV w (.int .i64 (((pc (c k) : Nat) : Int)))) := by
  refine CE.enter 10 [(0, .agg (layV (p) (c)).toArray), (1, .int .i64 (((k : Nat) : Int)))] en_97 Try.func97 rfl rfl (Nat.le_of_ble_eq_true rfl) rfl ?_
  have st := St.start w
  refine Wc.seq ?_
  refine Wc.region rfl ?_
  refine Wl.boxA st rfl ?_
  clear st
  intro b2 w1 st
  refine Wl.pure (PR.assI rfl) ?_
  refine Wl.nil ?_
  refine tn ?_
  refine Wc.seq ?_
  refine Wc.region rfl ?_
  refine Wl.pure (PR.moveI rfl) ?_
  refine Wl.pure (PR.fieldAddr tF_30_1 rfl) ?_
  refine Wl.pure (PR.idxAddrA1 (i := k) tE_23 rfl rfl (by omega)) ?_
  refine Wl.load (i := 0) st tA_5 rfl rfl (layV_get_c (by omega)) ?_
  refine Wl.callV (c_math_bits_OnesCount8 (x := c (k)) (hc (k))) rfl ?_
  intro w2 hbel
  replace st := st.call hbel
  clear hbel
  refine Wl.pure (PR.assI rfl) ?_
  refine Wl.nil ?_
  refine tn ?_
  refine Wc.ret ?_
  refine postL.tmp rfl rfl ?_
  refine RetV.of ?_ st.below
  refine congrArg (Value.int .i64) ?_
  first | rfl | omega | simp_all

set_option maxHeartbeats 400000 in
set_option maxRecDepth 4000 in
theorem c_impl_pictureOf {fk : Nat} {cap : List Value} {q : Nat → Bool} {w : World} (hF : ∀ i, i < 64 → ∀ w', Below w.heap.size w w' → CE Try.prog fk (.int .i64 ((i : Nat) : Int) :: cap) w' (RetV w' (.bool (q i)))) :
    CE Try.prog 100 [.func (.func fk) #[] cap.toArray] w (RetV w (.int .u64 (((pic q : Nat) : Int)))) := by
  refine CE.enter 17 [(0, .func (.func fk) #[] cap.toArray)] en_100 Try.func100 rfl rfl (Nat.le_of_ble_eq_true rfl) rfl ?_
  have st := St.start w
  refine Wc.seq ?_
  refine Wc.region rfl ?_
  refine Wl.pure (PR.assI rfl) ?_
  refine Wl.nil ?_
  refine tn ?_
  refine Wc.seq ?_
  refine Wc.region rfl ?_
  refine Wl.pure (PR.assI rfl) ?_
  refine Wl.nil ?_
  refine tn ?_
  refine Wc.seq ?_
  refine Wc.seq ?_
  refine Wc.region rfl ?_
  refine Wl.pure (PR.moveI rfl) ?_
  refine Wl.nil ?_
  refine tn ?_
  refine Wc.block ?_
  refine Wc.loopF (γ := Nat × Nat) (fun g => [(0, .func (.func fk) #[] cap.toArray), (2, .int .u64 (0)), (3, .int .u64 (((g.2 : Nat) : Int))), (5, .int .i64 (((g.1 : Nat) : Int)))]) (fun g w_ => St [] w w_ [] ∧ (g.1 ≤ 64) ∧ (g.2 = picF q g.1) ∧ (g.2 < 18446744073709551616)) (fun g => 64 - g.1) ?_ ?_
  · exact ⟨(0, 0), (.cons rfl (.cons rfl (.cons rfl (.cons rfl (.nil _))))), st, (by first | omega | (dsimp only; omega)), rfl, (by decide)⟩
  clear st
  rintro ⟨k, v⟩ w1 ⟨st, hk, hv, hvb⟩
  try dsimp only at st hk hv hvb ⊢
  refine Wc.seq ?_
  refine Wc.region rfl ?_
  refine Wl.pure (PR.lss (a := ((k : Nat) : Int)) (b := 64) rfl rfl) ?_
  refine Wl.nil ?_
  refine tn ?_
  refine Wc.seq ?_
  refine Wc.condD (p := ((k : Nat) : Int) < 64) rfl (fun h2 => ?_) (fun h2 => ?_)
  · refine Wc.skip ?_
    refine tn ?_
    refine Wc.seq ?_
    refine Wc.block ?_
    refine Wc.seq ?_
    refine Wc.region rfl ?_
    refine Wl.pure (PR.moveI rfl) ?_
    refine Wl.pure (PR.assI rfl) ?_
    refine Wl.nil ?_
    refine tn ?_
    refine Wc.seq ?_
    refine Wc.region rfl ?_
    refine Wl.pure (PR.moveF rfl) ?_
    refine Wl.pure (PR.moveI rfl) ?_
    refine Wl.callFW rfl rfl (hF k (by omega) _ st.below) ?_
    intro w3 hbel
    replace st := st.call hbel
    clear hbel
    refine Wl.nil ?_
    refine tn ?_
    refine Wc.condB (b := q k) rfl (fun h4 => ?_) (fun h4 => ?_)
    · refine Wc.region rfl ?_
      refine Wl.pure (PR.moveI rfl) ?_
      refine Wl.pure (PR.moveI rfl) ?_
      refine Wl.pure (PR.shl (a := 1) (n := k) rfl rfl (by decide)) ?_
      refine Wl.pure (PR.or (a := v) (b := ((1 <<< k) % 18446744073709551616)) rfl rfl (by decide) hvb (Nat.mod_lt _ (by decide))) ?_
      refine Wl.pure (PR.assI rfl) ?_
      refine Wl.nil ?_
      refine bn ?_
      refine tn ?_
      refine Wc.region rfl ?_
      refine Wl.pure (PR.add (a := ((k : Nat) : Int)) (b := 1) rfl rfl (by simp only [fitI]; omega)) ?_
      refine Wl.pure (PR.moveI rfl) ?_
      refine Wl.nil ?_
      refine tn ?_
      exact ⟨(k + 1, (v ||| ((1 <<< k) % 18446744073709551616))), (.cons rfl (.cons rfl (.cons rfl (.cons rfl (.nil _))))), ⟨st, (by first | omega | (dsimp only; omega)), (by first | exact picF_t hv (by assumption) | exact picF_f hv (by assumption)), (by first | exact hvb | exact or_lt_u64 hvb (Nat.mod_lt _ (by decide)))⟩, (by first | omega | (dsimp only; omega))⟩
    · refine Wc.skip ?_
      refine bn ?_
      refine tn ?_
      refine Wc.region rfl ?_
      refine Wl.pure (PR.add (a := ((k : Nat) : Int)) (b := 1) rfl rfl (by simp only [fitI]; omega)) ?_
      refine Wl.pure (PR.moveI rfl) ?_
      refine Wl.nil ?_
      refine tn ?_
      exact ⟨(k + 1, v), (.cons rfl (.cons rfl (.cons rfl (.cons rfl (.nil _))))), ⟨st, (by first | omega | (dsimp only; omega)), (by first | exact picF_t hv (by assumption) | exact picF_f hv (by assumption)), (by first | exact hvb | exact or_lt_u64 hvb (Nat.mod_lt _ (by decide)))⟩, (by first | omega | (dsimp only; omega))⟩
  · refine Wc.exit ?_
    refine tx ?_
    refine tx ?_
    refine bh ?_
    refine tn ?_
    refine Wc.seq ?_
    refine Wc.region rfl ?_
    refine Wl.pure (PR.moveI rfl) ?_
    refine Wl.pure (PR.assI rfl) ?_
    refine Wl.nil ?_
    refine tn ?_
    refine Wc.ret ?_
    refine postL.tmp rfl rfl ?_
    refine RetV.of ?_ st.below
    refine congrArg (fun x : Nat => Value.int .u64 (x : Int)) ?_
    obtain rfl : k = 64 := by omega
    exact hv

set_option maxHeartbeats 400000 in
set_option maxRecDepth 4000 in
theorem c_impl_Layer_shown_1 {b1 : Nat} {o1 : Nat} {b2 : Nat} {o2 : Nat} {p : Int} {c : Nat → Nat} {t : Int} {k : Nat} {w : World} (h1 : RdA w b1 o1 (layV p c)) (h2 : RdA w b2 o2 [.int .i64 t]) (hc : ∀ k, c k < 256) (hk : k < 64) :
    CE Try.prog 111 [.int .i64 (((k : Nat) : Int)), .pointer (some ⟨b1, o1, none⟩), .pointer (some ⟨b2, o2, none⟩)] w (RetV w (.bool (decide (t ≤ ((pc (c k) : Nat) : Int))))) := by
  refine CE.enter 10 [(0, .int .i64 (((k : Nat) : Int))), (1, .pointer (some ⟨b1, o1, none⟩)), (2, .pointer (some ⟨b2, o2, none⟩))] en_111 Try.func111 rfl rfl (Nat.le_of_ble_eq_true rfl) rfl ?_
  have st := St.start w
  refine Wc.seq ?_
  refine Wc.region rfl ?_
  refine Wl.pure (PR.assB rfl) ?_
  refine Wl.nil ?_
  refine tn ?_
  refine Wc.seq ?_
  refine Wc.quiet hmix (by kernel_rfl) rfl ?_
  refine Wq.loadAC tA_30 rfl layV_len ((h1.st st).sub (all_sub layV_len) rfl) ?_
  refine Wq.pure (PR.moveI rfl) ?_
  refine Wq.callV (fun _ hbel => c_impl_Layer_count (p := p) (c := c) (k := k) hc (by first | assumption | omega)) rfl ?_
  refine Wq.loadC tA_2 rfl ((h2.st st).at_ (j := 0) (rfl) rfl) ?_
  refine Wq.pure (PR.geq (a := ((pc (c k) : Nat) : Int)) (b := t) rfl rfl) ?_
  refine Wq.pure (PR.assB rfl) ?_
  refine Wq.nil (fun w1 hbel => ?_)
  replace st := st.call hbel
  clear hbel
  refine tn ?_
  refine Wc.ret ?_
  refine postL.tmp rfl rfl ?_
  exact RetV.of rfl st.below

set_option maxHeartbeats 400000 in
set_option maxRecDepth 4000 in
theorem c_impl_Layer_shown {p : Int} {c : Nat → Nat} {t : Int} {w : World} (hc : ∀ k, c k < 256) :
    CE Try.prog 70 [.agg (layV (p) (c)).toArray, .int .i64 (t)] w (RetV w (.int .u64 (((pic (fun r => decide (t ≤ ((pc (c r) : Nat) : Int))) : Nat) : Int)))) := by
  refine CE.enter 7 [(0, .agg (layV (p) (c)).toArray), (1, .int .i64 (t))] en_70 Try.func70 rfl rfl (Nat.le_of_ble_eq_true rfl) rfl ?_
  have st := St.start w
  refine Wc.seq ?_
  refine Wc.region rfl ?_
  refine Wl.boxA st rfl ?_
  clear st
  intro b2 w1 st
  refine Wl.boxI st rfl ?_
  clear st
  intro b3 w2 st
  refine Wl.pure (PR.assI rfl) ?_
  refine Wl.nil ?_
  refine tn ?_
  refine Wc.seq ?_
  refine Wc.region rfl ?_
  refine Wl.pure (PR.mkFunc (vs := [.pointer (some ⟨b2, 0, none⟩), .pointer (some ⟨b3, 0, none⟩)]) rfl) ?_
  refine Wl.callV (c_impl_pictureOf (fk := 111) (cap := [.pointer (some ⟨b2, 0, none⟩), .pointer (some ⟨b3, 0, none⟩)]) (q := (fun r => decide (t ≤ ((pc (c r) : Nat) : Int)))) (fun i hi w' hb => c_impl_Layer_shown_1 ((st.rdA (i := 1) rfl (all_sub layV_len)).below hb) ((st.rdA (i := 0) (n := 1) rfl rfl).below hb) hc hi)) rfl ?_
  intro w3 hbel
  replace st := st.call hbel
  clear hbel
  refine Wl.pure (PR.assI rfl) ?_
  refine Wl.nil ?_
  refine tn ?_
  refine Wc.ret ?_
  refine postL.tmp rfl rfl ?_
  exact RetV.of rfl st.below

set_option maxHeartbeats 400000 in
set_option maxRecDepth 4000 in
theorem c_spec_l01Shown {b : Nat} {o : Nat} {p : Int} {c : Nat → Nat} {t : Int} {w : World} (hR : RdA w b o (layV p c)) (hc : ∀ k, c k < 256) :
    CE Try.prog 67 [.pointer (some ⟨b, o, none⟩), .int .i64 (t)] w (RetV w (.int .u64 (((pic (fun r => decide (t ≤ ((pc (c r) : Nat) : Int))) : Nat) : Int)))) := by
  refine CE.enter 27 [(0, .pointer (some ⟨b, o, none⟩)), (1, .int .i64 (t))] en_67 Try.func67 rfl rfl (Nat.le_of_ble_eq_true rfl) rfl ?_
  have st := St.start w
  refine Wc.seq ?_
  refine Wc.region rfl ?_
  refine Wl.pure (PR.assI rfl) ?_
  refine Wl.nil ?_
  refine tn ?_
  refine Wc.seq ?_
  refine Wc.region rfl ?_
  refine Wl.pure (PR.assI rfl) ?_
  refine Wl.nil ?_
  refine tn ?_
  refine Wc.seq ?_
  refine Wc.seq ?_
  refine Wc.region rfl ?_
  refine Wl.pure (PR.assI rfl) ?_
  refine Wl.nil ?_
  refine tn ?_
  refine Wc.block ?_
  refine Wc.loopF (γ := Nat × Nat) (fun g => [(0, .pointer (some ⟨b, o, none⟩)), (1, .int .i64 (t)), (4, .int .u64 (0)), (5, .int .u64 (((g.2 : Nat) : Int))), (6, .int .i64 (((g.1 : Nat) : Int)))]) (fun g w_ => St [] w w_ [] ∧ (g.1 ≤ 64) ∧ (g.2 = picF (fun r => decide (t ≤ ((pc (c r) : Nat) : Int))) g.1) ∧ (g.2 < 18446744073709551616)) (fun g => 64 - g.1) ?_ ?_
  · exact ⟨(0, 0), (.cons rfl (.cons rfl (.cons rfl (.cons rfl (.cons rfl (.nil _)))))), st, (by first | omega | (dsimp only; omega)), rfl, (by decide)⟩
  clear st
  rintro ⟨k, v⟩ w1 ⟨st, hk, hv, hvb⟩
  try dsimp only at st hk hv hvb ⊢
  refine Wc.seq ?_
  refine Wc.seq ?_
  refine Wc.region rfl ?_
  refine Wl.pure (PR.moveI rfl) ?_
  refine Wl.pure (PR.lss (a := ((k : Nat) : Int)) (b := 64) rfl rfl) ?_
  refine Wl.nil ?_
  refine tn ?_
  refine Wc.condD (p := ((k : Nat) : Int) < 64) rfl (fun h2 => ?_) (fun h2 => ?_)
  · refine Wc.skip ?_
    refine tn ?_
    refine Wc.seq ?_
    refine Wc.block ?_
    refine Wc.seq ?_
    refine Wc.region rfl ?_
    refine Wl.pure (PR.moveP rfl) ?_
    refine Wl.pure (PR.moveI rfl) ?_
    refine Wl.pure (PR.nil_ rfl) ?_
    refine Wl.pure (PR.fieldAddr tF_30_1 rfl) ?_
    refine Wl.pure (PR.idxAddrA1 (i := k) tE_23 rfl rfl (by omega)) ?_
    refine Wl.loadC tA_5 rfl ((hR.st st).at_ (layV_get_c (by omega)) (Nat.add_assoc _ _ _).symm) ?_
    refine Wl.pure (PR.conv (n := ((c (k) : Nat) : Int)) tI_26 rfl (fitN (hc (k)) rfl) Try.underlying5) ?_
    refine Wl.callV (c_spec_l01Count (x := c (k)) (Nat.lt_of_lt_of_le (hc (k)) (by decide))) rfl ?_
    intro w3 hbel
    replace st := st.call hbel
    clear hbel
    refine Wl.pure (PR.moveI rfl) ?_
    refine Wl.pure (PR.geq (a := ((pc (c (k)) : Nat) : Int)) (b := t) rfl rfl) ?_
    refine Wl.nil ?_
    refine tn ?_
    refine Wc.condD (p := t ≤ ((pc (c (k)) : Nat) : Int)) rfl (fun h4 => ?_) (fun h4 => ?_)
    · refine Wc.region rfl ?_
      refine Wl.pure (PR.moveI rfl) ?_
      refine Wl.pure (PR.moveI rfl) ?_
      refine Wl.pure (PR.conv (n := ((k : Nat) : Int)) tI_133 rfl (by simp only [fitI]; omega) Try.underlying3) ?_
      refine Wl.pure (PR.shl (a := 1) (n := k) rfl rfl (by decide)) ?_
      refine Wl.pure (PR.or (a := v) (b := ((1 <<< k) % 18446744073709551616)) rfl rfl (by decide) hvb (Nat.mod_lt _ (by decide))) ?_
      refine Wl.pure (PR.assI rfl) ?_
      refine Wl.nil ?_
      refine bn ?_
      refine tn ?_
      refine Wc.region rfl ?_
      refine Wl.pure (PR.moveI rfl) ?_
      refine Wl.pure (PR.add (a := ((k : Nat) : Int)) (b := 1) rfl rfl (by simp only [fitI]; omega)) ?_
      refine Wl.pure (PR.assI rfl) ?_
      refine Wl.nil ?_
      refine tn ?_
      exact ⟨(k + 1, (v ||| ((1 <<< k) % 18446744073709551616))), (.cons rfl (.cons rfl (.cons rfl (.cons rfl (.cons rfl (.nil _)))))), ⟨st, (by first | omega | (dsimp only; omega)), (by first | exact picF_t hv (decide_eq_true (by assumption)) | exact picF_f hv (decide_eq_false (by assumption))), (by first | exact hvb | exact or_lt_u64 hvb (Nat.mod_lt _ (by decide)))⟩, (by first | omega | (dsimp only; omega))⟩
    · refine Wc.skip ?_
      refine bn ?_
      refine tn ?_
      refine Wc.region rfl ?_
      refine Wl.pure (PR.moveI rfl) ?_
      refine Wl.pure (PR.add (a := ((k : Nat) : Int)) (b := 1) rfl rfl (by simp only [fitI]; omega)) ?_
      refine Wl.pure (PR.assI rfl) ?_
      refine Wl.nil ?_
      refine tn ?_
      exact ⟨(k + 1, v), (.cons rfl (.cons rfl (.cons rfl (.cons rfl (.cons rfl (.nil _)))))), ⟨st, (by first | omega | (dsimp only; omega)), (by first | exact picF_t hv (decide_eq_true (by assumption)) | exact picF_f hv (decide_eq_false (by assumption))), (by first | exact hvb | exact or_lt_u64 hvb (Nat.mod_lt _ (by decide)))⟩, (by first | omega | (dsimp only; omega))⟩
  · refine Wc.exit ?_
    refine tx ?_
    refine tx ?_
    refine bh ?_
    refine tn ?_
    refine Wc.seq ?_
    refine Wc.region rfl ?_
    refine Wl.pure (PR.moveI rfl) ?_
    refine Wl.pure (PR.assI rfl) ?_
    refine Wl.nil ?_
    refine tn ?_
    refine Wc.ret ?_
    refine postL.tmp rfl rfl ?_
    refine RetV.of ?_ st.below
    refine congrArg (fun x : Nat => Value.int .u64 (x : Int)) ?_
    obtain rfl : k = 64 := by omega
    exact hv

end Go.Proofs.Ytajkjhjnbfcpfaa
