/-
  Contracts of functions, printed by a program of ours.
-/
import Derived.Test.YtdlmbdclbnlmlaaCE4
import Derived.Test.YtdlmbdclbnlmlaaLoss
namespace Go.Proofs.Ytdlmbdclbnlmlaa
open Go.RowKit
set_option linter.unusedVariables false
set_option linter.unusedSimpArgs false

set_option maxHeartbeats 400000 in
set_option maxRecDepth 4000 in
theorem c_math_bits_OnesCount64 {x : Nat} {w : World} (hx : x < 256) (hxx : x < 18446744073709551616) :
    CE Try.prog 63 [.int .u64 (((x : Nat) : Int))] w (RetV w (.int .i64 (((pc x : Nat) : Int)))) := by
  refine CE.enter 35 [(0, .int .u64 (((x : Nat) : Int)))] en_63 Try.func63 rfl rfl (Nat.le_of_ble_eq_true rfl) rfl ?_
  have st := St.start w
  refine Wc.seq ?_
  refine Wc.region rfl ?_
  refine Wl.pure (PR.assI rfl) ?_
  refine Wl.nil ?_
  refine tn ?_
  refine Wc.seq ?_
  refine Wc.region rfl ?_
  refine Wl.pure (PR.moveI rfl) ?_
  refine Wl.pure (PR.shr (a := x) (n := 1) rfl rfl (by decide) hxx) ?_
  refine Wl.pure (PR.and (a := (x >>> 1)) (b := 6148914691236517205) rfl rfl (by decide) (shr_lt hxx) (by decide)) ?_
  refine Wl.pure (PR.moveI rfl) ?_
  refine Wl.pure (PR.and (a := x) (b := 6148914691236517205) rfl rfl (by decide) hxx (by decide)) ?_
  refine Wl.pure (PR.addU (a := ((x >>> 1) &&& 6148914691236517205)) (b := (x &&& 6148914691236517205)) rfl rfl (by decide)) ?_
  refine Wl.pure (PR.assI rfl) ?_
  refine Wl.nil ?_
  refine tn ?_
  refine Wc.seq ?_
  refine Wc.region rfl ?_
  refine Wl.pure (PR.moveI rfl) ?_
  refine Wl.pure (PR.shr (a := (oc1 x)) (n := 2) rfl rfl (by decide) ((oc_lt _).1)) ?_
  refine Wl.pure (PR.and (a := ((oc1 x) >>> 2)) (b := 3689348814741910323) rfl rfl (by decide) (shr_lt ((oc_lt _).1)) (by decide)) ?_
  refine Wl.pure (PR.moveI rfl) ?_
  refine Wl.pure (PR.and (a := (oc1 x)) (b := 3689348814741910323) rfl rfl (by decide) ((oc_lt _).1) (by decide)) ?_
  refine Wl.pure (PR.addU (a := (((oc1 x) >>> 2) &&& 3689348814741910323)) (b := ((oc1 x) &&& 3689348814741910323)) rfl rfl (by decide)) ?_
  refine Wl.pure (PR.assI rfl) ?_
  refine Wl.nil ?_
  refine tn ?_
  refine Wc.seq ?_
  refine Wc.region rfl ?_
  refine Wl.pure (PR.moveI rfl) ?_
  refine Wl.pure (PR.shr (a := (oc2 (oc1 x))) (n := 4) rfl rfl (by decide) ((oc_lt _).2.1)) ?_
  refine Wl.pure (PR.moveI rfl) ?_
  refine Wl.pure (PR.addU (a := ((oc2 (oc1 x)) >>> 4)) (b := (oc2 (oc1 x))) rfl rfl (by decide)) ?_
  refine Wl.pure (PR.and (a := ((((oc2 (oc1 x)) >>> 4) + (oc2 (oc1 x))) % 18446744073709551616)) (b := 1085102592571150095) rfl rfl (by decide) (Nat.mod_lt _ (by decide)) (by decide)) ?_
  refine Wl.pure (PR.assI rfl) ?_
  refine Wl.nil ?_
  refine tn ?_
  refine Wc.seq ?_
  refine Wc.region rfl ?_
  refine Wl.pure (PR.moveI rfl) ?_
  refine Wl.pure (PR.moveI rfl) ?_
  refine Wl.pure (PR.shr (a := (oc3 (oc2 (oc1 x)))) (n := 8) rfl rfl (by decide) ((oc_lt _).2.2.1)) ?_
  refine Wl.pure (PR.addU (a := (oc3 (oc2 (oc1 x)))) (b := ((oc3 (oc2 (oc1 x))) >>> 8)) rfl rfl (by decide)) ?_
  refine Wl.pure (PR.assI rfl) ?_
  refine Wl.nil ?_
  refine tn ?_
  refine Wc.seq ?_
  refine Wc.region rfl ?_
  refine Wl.pure (PR.moveI rfl) ?_
  refine Wl.pure (PR.moveI rfl) ?_
  refine Wl.pure (PR.shr (a := (oc4 (oc3 (oc2 (oc1 x))))) (n := 16) rfl rfl (by decide) ((oc_lt _).2.2.2.1)) ?_
  refine Wl.pure (PR.addU (a := (oc4 (oc3 (oc2 (oc1 x))))) (b := ((oc4 (oc3 (oc2 (oc1 x)))) >>> 16)) rfl rfl (by decide)) ?_
  refine Wl.pure (PR.assI rfl) ?_
  refine Wl.nil ?_
  refine tn ?_
  refine Wc.seq ?_
  refine Wc.region rfl ?_
  refine Wl.pure (PR.moveI rfl) ?_
  refine Wl.pure (PR.moveI rfl) ?_
  refine Wl.pure (PR.shr (a := (oc5 (oc4 (oc3 (oc2 (oc1 x)))))) (n := 32) rfl rfl (by decide) ((oc_lt _).2.2.2.2.1)) ?_
  refine Wl.pure (PR.addU (a := (oc5 (oc4 (oc3 (oc2 (oc1 x)))))) (b := ((oc5 (oc4 (oc3 (oc2 (oc1 x))))) >>> 32)) rfl rfl (by decide)) ?_
  refine Wl.pure (PR.assI rfl) ?_
  refine Wl.nil ?_
  refine tn ?_
  refine Wc.seq ?_
  obtain ⟨ho1, ho2⟩ := oc_ok hx
  refine Wc.region rfl ?_
  refine Wl.pure (PR.moveI rfl) ?_
  refine Wl.pure (PR.conv (n := ((oc x : Nat) : Int)) tI_3 rfl (by simp only [fitI]; omega) Try.underlying26) ?_
  refine Wl.pure (PR.andI (a := oc x) (b := 127) rfl rfl ho1 (by decide)) ?_
  refine Wl.pure (PR.assI rfl) ?_
  refine Wl.nil ?_
  refine tn ?_
  refine Wc.ret ?_
  refine postL.tmp rfl rfl ?_
  refine RetV.of ?_ st.below
  exact congrArg (fun x : Nat => Value.int .i64 (x : Int)) ho2

set_option maxHeartbeats 400000 in
set_option maxRecDepth 4000 in
theorem c_math_bits_OnesCount {x : Nat} {w : World} (hx : x < 256) (hxx : x < 18446744073709551616) :
    CE Try.prog 46 [.int .u64 (((x : Nat) : Int))] w (RetV w (.int .i64 (((pc x : Nat) : Int)))) := by
  refine CE.enter 8 [(0, .int .u64 (((x : Nat) : Int)))] en_46 Try.func46 rfl rfl (Nat.le_of_ble_eq_true rfl) rfl ?_
  have st := St.start w
  refine Wc.seq ?_
  refine Wc.region rfl ?_
  refine Wl.pure (PR.assI rfl) ?_
  refine Wl.nil ?_
  refine tn ?_
  refine Wc.seq ?_
  refine Wc.condF rfl ?_
  refine Wc.skip ?_
  refine tn ?_
  refine Wc.seq ?_
  refine Wc.region rfl ?_
  refine Wl.pure (PR.moveI rfl) ?_
  refine Wl.callV (c_math_bits_OnesCount64 (x := x) (by first | assumption | omega) hxx) rfl ?_
  intro w1 hbel
  replace st := st.call hbel
  clear hbel
  refine Wl.pure (PR.assI rfl) ?_
  refine Wl.nil ?_
  refine tn ?_
  refine Wc.ret ?_
  refine postL.tmp rfl rfl ?_
  exact RetV.of rfl st.below

set_option maxHeartbeats 400000 in
set_option maxRecDepth 4000 in
theorem c_impl_Scheme_keep {s : Nat} {p : Nat} {a : Nat → Nat} {b : Nat → Nat} {x : Nat} {w : World} (hp8 : 1 ≤ p ∧ p ≤ 8) (ha : ∀ k, a k < 256) (hb : ∀ k, b k < 256) (hx : x < 256) :
    CE Try.prog 47 [.agg (schV ((s : Nat) : Int) ((p : Nat) : Int) (a) (b)).toArray, .int .u8 (((x : Nat) : Int))] w (RetV w (.agg (schV ((s : Nat) : Int) ((kpC x p : Nat) : Int) ((fun k => kpV x (a k) p)) ((fun k => kpV x (b k) p))).toArray)) := by
  refine CE.enter 65 [(0, .agg (schV ((s : Nat) : Int) ((p : Nat) : Int) (a) (b)).toArray), (1, .int .u8 (((x : Nat) : Int)))] en_47 Try.func47 rfl rfl (Nat.le_of_ble_eq_true rfl) rfl ?_
  have st := St.start w
  refine Wc.seq ?_
  refine Wc.region rfl ?_
  refine Wl.boxA st rfl ?_
  clear st
  intro b2 w1 st
  refine Wl.alloc st tZ_31 rfl ?_
  clear st
  intro b4 w2 st
  refine Wl.nil ?_
  refine tn ?_
  refine Wc.seq ?_
  refine Wc.region rfl ?_
  refine Wl.pure (PR.fieldAddr tF_31_0 rfl) ?_
  refine Wl.load (i := 1) st tA_22 rfl rfl (rfl) ?_
  refine Wl.pure (PR.build (ps := [(0, .int .i8 (((s : Nat) : Int)))]) (cs := schV ((s : Nat) : Int) (0) ((fun _ => 0)) ((fun _ => 0))) tB_31 rfl rfl) ?_
  refine Wl.alloc st tZ_31 rfl ?_
  clear st
  intro b5 w3 st
  refine Wl.storeA (i := 0) (cs' := schV ((s : Nat) : Int) (0) ((fun _ => 0)) ((fun _ => 0))) st tA_31 rfl rfl schV_len schV_one rfl (le_of_len schV_len (by omega)) (all_put schV_len) ?_
  clear st
  intro w4 st
  replace st : St [] w w4 [(b5, schV ((s : Nat) : Int) (0) ((fun _ => 0)) ((fun _ => 0)), 31), (b4, schV (0) (0) ((fun _ => 0)) ((fun _ => 0)), 31), (b2, schV ((s : Nat) : Int) ((p : Nat) : Int) (a) (b), 31)] := st
  refine Wl.nil ?_
  refine tn ?_
  refine Wc.seq ?_
  refine Wc.seq ?_
  refine Wc.region rfl ?_
  refine Wl.pure (PR.fieldAddr tF_31_1 rfl) ?_
  refine Wl.load (i := 2) st tA_22 rfl rfl (rfl) ?_
  refine Wl.pure (PR.moveI rfl) ?_
  refine Wl.nil ?_
  refine tn ?_
  refine Wc.block ?_
  refine Wc.loopF (γ := Nat × Nat × (Nat → Nat) × (Nat → Nat)) (fun g => [(1, .int .u8 (((x : Nat) : Int))), (2, .pointer (some ⟨b2, 0, none⟩)), (4, .pointer (some ⟨b4, 0, none⟩)), (5, .pointer (some ⟨b5, 0, none⟩)), (12, .int .i8 (((p : Nat) : Int))), (13, .int .i8 (((g.1 : Nat) : Int)))]) (fun g w_ => St [] w w_ [(b5, schV ((s : Nat) : Int) ((g.2.1 : Nat) : Int) (g.2.2.1) (g.2.2.2), 31), (b4, schV (0) (0) ((fun _ => 0)) ((fun _ => 0)), 31), (b2, schV ((s : Nat) : Int) ((p : Nat) : Int) (a) (b), 31)] ∧ (g.1 ≤ p) ∧ (g.2.1 = kpC x g.1) ∧ (∀ k, g.2.2.1 k < 256) ∧ (∀ k, g.2.2.2 k < 256) ∧ (∀ r, r < 6 → g.2.2.1 r = kpV x (a r) g.1) ∧ (∀ r, r < 6 → g.2.2.2 r = kpV x (b r) g.1)) (fun g => p - g.1) ?_ ?_
  · exact ⟨(0, 0, (fun _ => 0), (fun _ => 0)), (.cons rfl (.cons rfl (.cons rfl (.cons rfl (.cons rfl (.cons rfl (.nil _))))))), st, (Nat.zero_le _), rfl, (fun _ => by show 0 < 256; decide), (fun _ => by show 0 < 256; decide), (fun _ _ => rfl), (fun _ _ => rfl)⟩
  clear st
  rintro ⟨i, j, A, B⟩ w5 ⟨st, hi, hj, hA, hB, qA, qB⟩
  try dsimp only at st hi hj hA hB qA qB ⊢
  have hji := kpC_le x i
  refine Wc.seq ?_
  refine Wc.region rfl ?_
  refine Wl.pure (PR.lss (a := ((i : Nat) : Int)) (b := ((p : Nat) : Int)) rfl rfl) ?_
  refine Wl.nil ?_
  refine tn ?_
  refine Wc.seq ?_
  refine Wc.condD (p := ((i : Nat) : Int) < ((p : Nat) : Int)) rfl (fun h6 => ?_) (fun h6 => ?_)
  · refine Wc.skip ?_
    refine tn ?_
    refine Wc.seq ?_
    refine Wc.block ?_
    refine Wc.seq ?_
    refine Wc.region rfl ?_
    refine Wl.pure (PR.moveI rfl) ?_
    refine Wl.pure (PR.assI rfl) ?_
    refine Wl.nil ?_
    refine tn ?_
    refine Wc.seq ?_
    refine Wc.seq ?_
    refine Wc.region rfl ?_
    refine Wl.pure (PR.moveI rfl) ?_
    refine Wl.pure (PR.moveI rfl) ?_
    refine Wl.pure (PR.shr (a := x) (n := i) rfl rfl (by decide) hx) ?_
    refine Wl.pure (PR.and (a := (x >>> i)) (b := 1) rfl rfl (by decide) (shr_lt hx) (by decide)) ?_
    refine Wl.pure (PR.eql (a := ((((x >>> i) &&& 1) : Nat) : Int)) (b := 0) rfl rfl) ?_
    refine Wl.nil ?_
    refine tn ?_
    refine Wc.condD (p := ((((x >>> i) &&& 1) : Nat) : Int) = 0) rfl (fun h7 => ?_) (fun h7 => ?_)
    · refine Wc.exit ?_
      refine tx ?_
      refine bh ?_
      refine tn ?_
      refine Wc.region rfl ?_
      refine Wl.pure (PR.add (a := ((i : Nat) : Int)) (b := 1) rfl rfl (by simp only [fitI]; omega)) ?_
      refine Wl.pure (PR.moveI rfl) ?_
      refine Wl.nil ?_
      refine tn ?_
      exact ⟨(i + 1, j, A, B), (.cons rfl (.cons rfl (.cons rfl (.cons rfl (.cons rfl (.cons rfl (.nil _))))))), ⟨st, (by first | omega | (dsimp only; omega)), (by first | exact kpC_t hj (by omega) | exact kpC_f hj (by omega)), (by first | exact mix_lt (nxR_lt hA i j) hA _ | exact hA), (by first | exact mix_lt (nxR_lt hB i j) hB _ | exact hB), (by first | exact keep_t qA hj (by omega) (by omega) | exact keep_f qA (by omega)), (by first | exact keep_t qB hj (by omega) (by omega) | exact keep_f qB (by omega))⟩, (by first | omega | (dsimp only; omega))⟩
    · refine Wc.skip ?_
      refine tn ?_
      refine Wc.seq ?_
      refine Wc.seq ?_
      refine Wc.region rfl ?_
      refine Wl.pure (PR.moveI rfl) ?_
      refine Wl.nil ?_
      refine tn ?_
      refine Wc.block ?_
      rw [mix_zero (nxR a A i j) A, mix_zero (nxR b B i j) B] at st
      refine Wc.loopF (γ := Nat) (fun g => [(1, .int .u8 (((x : Nat) : Int))), (2, .pointer (some ⟨b2, 0, none⟩)), (4, .pointer (some ⟨b4, 0, none⟩)), (5, .pointer (some ⟨b5, 0, none⟩)), (6, .int .i8 (((i : Nat) : Int))), (12, .int .i8 (((p : Nat) : Int))), (13, .int .i8 (((i : Nat) : Int))), (14, .bool (decide (((i : Nat) : Int) < ((p : Nat) : Int)))), (15, .int .i8 (((i : Nat) : Int))), (16, .int .u8 (((x : Nat) : Int))), (17, .int .i8 (((i : Nat) : Int))), (18, .int .u8 ((((x >>> i) : Nat) : Int))), (19, .int .u8 (((((x >>> i) &&& 1) : Nat) : Int))), (20, .bool (decide (((((x >>> i) &&& 1) : Nat) : Int) = 0))), (21, .int .i64 (((g : Nat) : Int)))]) (fun g w_ => St [] w w_ [(b5, schV ((s : Nat) : Int) ((j : Nat) : Int) ((mixF (nxR a A i j) A g)) ((mixF (nxR b B i j) B g)), 31), (b4, schV (0) (0) ((fun _ => 0)) ((fun _ => 0)), 31), (b2, schV ((s : Nat) : Int) ((p : Nat) : Int) (a) (b), 31)] ∧ (g ≤ 6)) (fun g => 6 - g) ?_ ?_
      · exact ⟨0, (.cons rfl (.cons rfl (.cons rfl (.cons rfl (.cons rfl (.cons rfl (.cons rfl (.cons rfl (.cons rfl (.cons rfl (.cons rfl (.cons rfl (.cons rfl (.cons rfl (.cons rfl (.nil _)))))))))))))))), st, (by first | omega | (dsimp only; omega))⟩
      clear st
      rintro k w8 ⟨st, hk⟩
      try dsimp only at st hk ⊢
      refine Wc.seq ?_
      refine Wc.region rfl ?_
      refine Wl.pure (PR.lss (a := ((k : Nat) : Int)) (b := 6) rfl rfl) ?_
      refine Wl.nil ?_
      refine tn ?_
      refine Wc.seq ?_
      refine Wc.condD (p := ((k : Nat) : Int) < 6) rfl (fun h9 => ?_) (fun h9 => ?_)
      · refine Wc.skip ?_
        refine tn ?_
        refine Wc.seq ?_
        refine Wc.block ?_
        refine Wc.seq ?_
        refine Wc.region rfl ?_
        refine Wl.pure (PR.moveI rfl) ?_
        refine Wl.pure (PR.assI rfl) ?_
        refine Wl.nil ?_
        refine tn ?_
        refine Wc.seq ?_
        refine Wc.quietTail 17 hmix (by kernel_rfl) rfl ?_
        refine Wq.pure (PR.moveI rfl) ?_
        refine Wq.pure (PR.fieldAddr tF_31_2 rfl) ?_
        refine Wq.pure (PR.idxAddrA1 (i := k) tE_23 rfl rfl (by omega)) ?_
        refine Wq.load (i := 0) st tA_5 rfl rfl (schV_get_a (by omega)) ?_
        refine Wq.pure (PR.moveI rfl) ?_
        refine Wq.pure (PR.fieldAddr tF_31_2 rfl) ?_
        refine Wq.pure (PR.idxAddrA1 (i := k) tE_23 rfl rfl (by omega)) ?_
        refine Wq.load (i := 2) st tA_5 rfl rfl (schV_get_a (by omega)) ?_
        refine Wq.pure (PR.moveI rfl) ?_
        refine Wq.pure (PR.shr (a := a (k)) (n := i) rfl rfl (by decide) (ha (k))) ?_
        refine Wq.pure (PR.and (a := ((a (k)) >>> i)) (b := 1) rfl rfl (by decide) (shr_lt (ha (k))) (by decide)) ?_
        refine Wq.pure (PR.fieldAddr tF_31_1 rfl) ?_
        refine Wq.load (i := 0) st tA_22 rfl rfl (rfl) ?_
        refine Wq.pure (PR.shl (a := (((a (k)) >>> i) &&& 1)) (n := j) rfl rfl (by decide)) ?_
        refine Wq.pure (PR.or (a := (mixF (nxR a A i j) A k) (k)) (b := (((((a (k)) >>> i) &&& 1) <<< j) % 256)) rfl rfl (by decide) ((mix_lt (nxR_lt hA i j) hA k) (k)) (Nat.mod_lt _ (by decide))) ?_
        refine Wq.pure (PR.fieldAddr tF_31_2 rfl) ?_
        refine Wq.pure (PR.idxAddrA1 (i := k) tE_23 rfl rfl (by omega)) ?_
        refine Wq.nil (fun w10 hbel => ?_)
        replace st := st.call hbel
        clear hbel
        refine Wl.store (i := 0) (cs' := schV ((s : Nat) : Int) ((j : Nat) : Int) (upd (mixF (nxR a A i j) A k) (k) ((((mixF (nxR a A i j) A k) (k)) ||| (((((a (k)) >>> i) &&& 1) <<< j) % 256)))) ((mixF (nxR b B i j) B k))) st tA_5 rfl rfl rfl rfl (lt_of_len schV_len (by omega)) (schV_set_a (by omega)) ?_
        clear st
        intro w11 st
        replace st : St [] w w11 [(b5, schV ((s : Nat) : Int) ((j : Nat) : Int) (upd (mixF (nxR a A i j) A k) (k) ((((mixF (nxR a A i j) A k) (k)) ||| (((((a (k)) >>> i) &&& 1) <<< j) % 256)))) ((mixF (nxR b B i j) B k)), 31), (b4, schV (0) (0) ((fun _ => 0)) ((fun _ => 0)), 31), (b2, schV ((s : Nat) : Int) ((p : Nat) : Int) (a) (b), 31)] := st
        refine Wl.nil ?_
        refine tn ?_
        refine Wc.quietTail 17 hmix (by kernel_rfl) rfl ?_
        refine Wq.pure (PR.moveI rfl) ?_
        refine Wq.pure (PR.fieldAddr tF_31_3 rfl) ?_
        refine Wq.pure (PR.idxAddrA1 (i := k) tE_23 rfl rfl (by omega)) ?_
        refine Wq.load (i := 0) st tA_5 rfl rfl (schV_get_b (by omega)) ?_
        refine Wq.pure (PR.moveI rfl) ?_
        refine Wq.pure (PR.fieldAddr tF_31_3 rfl) ?_
        refine Wq.pure (PR.idxAddrA1 (i := k) tE_23 rfl rfl (by omega)) ?_
        refine Wq.load (i := 2) st tA_5 rfl rfl (schV_get_b (by omega)) ?_
        refine Wq.pure (PR.moveI rfl) ?_
        refine Wq.pure (PR.shr (a := b (k)) (n := i) rfl rfl (by decide) (hb (k))) ?_
        refine Wq.pure (PR.and (a := ((b (k)) >>> i)) (b := 1) rfl rfl (by decide) (shr_lt (hb (k))) (by decide)) ?_
        refine Wq.pure (PR.fieldAddr tF_31_1 rfl) ?_
        refine Wq.load (i := 0) st tA_22 rfl rfl (rfl) ?_
        refine Wq.pure (PR.shl (a := (((b (k)) >>> i) &&& 1)) (n := j) rfl rfl (by decide)) ?_
        refine Wq.pure (PR.or (a := (mixF (nxR b B i j) B k) (k)) (b := (((((b (k)) >>> i) &&& 1) <<< j) % 256)) rfl rfl (by decide) ((mix_lt (nxR_lt hB i j) hB k) (k)) (Nat.mod_lt _ (by decide))) ?_
        refine Wq.pure (PR.fieldAddr tF_31_3 rfl) ?_
        refine Wq.pure (PR.idxAddrA1 (i := k) tE_23 rfl rfl (by omega)) ?_
        refine Wq.nil (fun w12 hbel => ?_)
        replace st := st.call hbel
        clear hbel
        refine Wl.store (i := 0) (cs' := schV ((s : Nat) : Int) ((j : Nat) : Int) (upd (mixF (nxR a A i j) A k) (k) ((((mixF (nxR a A i j) A k) (k)) ||| (((((a (k)) >>> i) &&& 1) <<< j) % 256)))) (upd (mixF (nxR b B i j) B k) (k) ((((mixF (nxR b B i j) B k) (k)) ||| (((((b (k)) >>> i) &&& 1) <<< j) % 256))))) st tA_5 rfl rfl rfl rfl (lt_of_len schV_len (by omega)) (schV_set_b) ?_
        clear st
        intro w13 st
        replace st : St [] w w13 [(b5, schV ((s : Nat) : Int) ((j : Nat) : Int) (upd (mixF (nxR a A i j) A k) (k) ((((mixF (nxR a A i j) A k) (k)) ||| (((((a (k)) >>> i) &&& 1) <<< j) % 256)))) (upd (mixF (nxR b B i j) B k) (k) ((((mixF (nxR b B i j) B k) (k)) ||| (((((b (k)) >>> i) &&& 1) <<< j) % 256)))), 31), (b4, schV (0) (0) ((fun _ => 0)) ((fun _ => 0)), 31), (b2, schV ((s : Nat) : Int) ((p : Nat) : Int) (a) (b), 31)] := st
        refine Wl.nil ?_
        refine bn ?_
        refine tn ?_
        refine Wc.region rfl ?_
        refine Wl.pure (PR.add (a := ((k : Nat) : Int)) (b := 1) rfl rfl (by simp only [fitI]; omega)) ?_
        refine Wl.pure (PR.moveI rfl) ?_
        refine Wl.nil ?_
        refine tn ?_
        rw [keep_upd, keep_upd] at st
        exact ⟨k + 1, (.cons rfl (.cons rfl (.cons rfl (.cons rfl (.cons rfl (.cons rfl (.cons rfl (.cons rfl (.cons rfl (.cons rfl (.cons rfl (.cons rfl (.cons rfl (.cons rfl (.cons rfl (.nil _)))))))))))))))), ⟨st, (by first | omega | (dsimp only; omega))⟩, (by first | omega | (dsimp only; omega))⟩
      · refine Wc.exit ?_
        refine tx ?_
        refine tx ?_
        refine bh ?_
        refine tn ?_
        have hji := kpC_le x i
        refine Wc.region rfl ?_
        refine Wl.pure (PR.fieldAddr tF_31_1 rfl) ?_
        refine Wl.load (i := 0) st tA_22 rfl rfl (rfl) ?_
        refine Wl.pure (PR.add (a := ((j : Nat) : Int)) (b := 1) rfl rfl (by simp only [fitI]; omega)) ?_
        refine Wl.pure (PR.fieldAddr tF_31_1 rfl) ?_
        refine Wl.store (i := 0) (cs' := schV ((s : Nat) : Int) (((j + 1) : Nat) : Int) ((mixF (nxR a A i j) A k)) ((mixF (nxR b B i j) B k))) st tA_22 rfl rfl rfl rfl (lt_of_len schV_len (by omega)) (rfl) ?_
        clear st
        intro w14 st
        replace st : St [] w w14 [(b5, schV ((s : Nat) : Int) (((j + 1) : Nat) : Int) ((mixF (nxR a A i j) A k)) ((mixF (nxR b B i j) B k)), 31), (b4, schV (0) (0) ((fun _ => 0)) ((fun _ => 0)), 31), (b2, schV ((s : Nat) : Int) ((p : Nat) : Int) (a) (b), 31)] := st
        refine Wl.nil ?_
        refine bn ?_
        refine tn ?_
        refine Wc.region rfl ?_
        refine Wl.pure (PR.add (a := ((i : Nat) : Int)) (b := 1) rfl rfl (by simp only [fitI]; omega)) ?_
        refine Wl.pure (PR.moveI rfl) ?_
        refine Wl.nil ?_
        refine tn ?_
        exact ⟨(i + 1, (j + 1), (mixF (nxR a A i j) A k), (mixF (nxR b B i j) B k)), (.cons rfl (.cons rfl (.cons rfl (.cons rfl (.cons rfl (.cons rfl (.nil _))))))), ⟨st, (by first | omega | (dsimp only; omega)), (by first | exact kpC_t hj (by omega) | exact kpC_f hj (by omega)), (by first | exact mix_lt (nxR_lt hA i j) hA _ | exact hA), (by first | exact mix_lt (nxR_lt hB i j) hB _ | exact hB), (by first | exact keep_t qA hj (by omega) (by omega) | exact keep_f qA (by omega)), (by first | exact keep_t qB hj (by omega) (by omega) | exact keep_f qB (by omega))⟩, (by first | omega | (dsimp only; omega))⟩
  · refine Wc.exit ?_
    refine tx ?_
    refine tx ?_
    refine bh ?_
    refine tn ?_
    refine Wc.seq ?_
    refine Wc.region rfl ?_
    refine Wl.loadA (i := 0) st tA_31 rfl rfl (all_sub schV_len) schV_len ?_
    refine Wl.storeA (i := 1) (cs' := schV ((s : Nat) : Int) ((j : Nat) : Int) (A) (B)) st tA_31 rfl rfl schV_len schV_one rfl (le_of_len schV_len (by omega)) (all_put schV_len) ?_
    clear st
    intro w15 st
    replace st : St [] w w15 [(b5, schV ((s : Nat) : Int) ((j : Nat) : Int) (A) (B), 31), (b4, schV ((s : Nat) : Int) ((j : Nat) : Int) (A) (B), 31), (b2, schV ((s : Nat) : Int) ((p : Nat) : Int) (a) (b), 31)] := st
    refine Wl.nil ?_
    refine tn ?_
    refine Wc.ret ?_
    refine postL.cell (i := 1) st rfl tA_31 rfl rfl schV_len ?_
    refine RetV.of ?_ st.below
    obtain rfl : i = p := by omega
    subst hj
    exact congrArg (fun l : List Value => Value.agg l.toArray) (schV_congr rfl rfl qA qB)

end Go.Proofs.Ytdlmbdclbnlmlaa
