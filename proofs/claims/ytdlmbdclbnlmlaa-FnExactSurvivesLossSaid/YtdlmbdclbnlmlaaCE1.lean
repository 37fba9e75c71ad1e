/-
  Contracts of functions, printed by a program of ours.
-/
import Derived.Test.YtdlmbdclbnlmlaaCQ2
import Derived.Test.YtdlmbdclbnlmlaaFam
namespace Go.Proofs.Ytdlmbdclbnlmlaa
open Go.RowKit
set_option linter.unusedVariables false
set_option linter.unusedSimpArgs false

set_option maxHeartbeats 400000 in
set_option maxRecDepth 4000 in
theorem c_laws_toFamily {m : Int} {f : Nat} {w : World} (hm : -128 ≤ m ∧ m ≤ 127) (hf : f < 18446744073709551616) :
    CE Try.prog 11 [.agg ([.int .i8 (m), .int .u64 (((f : Nat) : Int))]).toArray] w (RetV w (.agg ([.int .i8 (m), .int .u64 (((f : Nat) : Int))]).toArray)) := by
  refine CE.enter 11 [(0, .agg ([.int .i8 (m), .int .u64 (((f : Nat) : Int))]).toArray)] en_11 Try.func11 rfl rfl (Nat.le_of_ble_eq_true rfl) rfl ?_
  have st := St.start w
  refine Wc.seq ?_
  refine Wc.region rfl ?_
  refine Wl.boxA st rfl ?_
  clear st
  intro b1 w1 st
  refine Wl.alloc st tZ_33 rfl ?_
  clear st
  intro b2 w2 st
  refine Wl.nil ?_
  refine tn ?_
  refine Wc.seq ?_
  refine Wc.region rfl ?_
  refine Wl.alloc st tZ_33 rfl ?_
  clear st
  intro b3 w3 st
  refine Wl.nil ?_
  refine tn ?_
  refine Wc.seq ?_
  refine Wc.region rfl ?_
  refine Wl.pure (PR.fieldAddr tF_28_0 rfl) ?_
  refine Wl.load (i := 2) st tA_22 rfl rfl (rfl) ?_
  refine Wl.pure (PR.fieldAddr tF_33_0 rfl) ?_
  refine Wl.store (i := 0) (cs' := [.int .i8 (m), .int .u64 (0)]) st tA_22 rfl rfl rfl rfl (by simp) (rfl) ?_
  clear st
  intro w4 st
  replace st : St [] w w4 [(b3, [.int .i8 (m), .int .u64 (0)], 33), (b2, [.int .i8 (0), .int .u64 (0)], 33), (b1, [.int .i8 (m), .int .u64 (((f : Nat) : Int))], 28)] := st
  refine Wl.nil ?_
  refine tn ?_
  refine Wc.seq ?_
  refine Wc.region rfl ?_
  refine Wl.pure (PR.fieldAddr tF_28_1 rfl) ?_
  refine Wl.load (i := 2) st tA_26 rfl rfl (rfl) ?_
  refine Wl.pure (PR.fieldAddr tF_33_1 rfl) ?_
  refine Wl.store (i := 0) (cs' := [.int .i8 (m), .int .u64 (((f : Nat) : Int))]) st tA_26 rfl rfl rfl rfl (by simp) (rfl) ?_
  clear st
  intro w5 st
  replace st : St [] w w5 [(b3, [.int .i8 (m), .int .u64 (((f : Nat) : Int))], 33), (b2, [.int .i8 (0), .int .u64 (0)], 33), (b1, [.int .i8 (m), .int .u64 (((f : Nat) : Int))], 28)] := st
  refine Wl.nil ?_
  refine tn ?_
  refine Wc.seq ?_
  refine Wc.region rfl ?_
  refine Wl.loadA (i := 0) st tA_33 rfl rfl rfl rfl ?_
  refine Wl.storeA (i := 1) (cs' := [.int .i8 (m), .int .u64 (((f : Nat) : Int))]) st tA_33 rfl rfl rfl (by simp [Value.oneCell']) rfl (by simp) (all_put rfl) ?_
  clear st
  intro w6 st
  replace st : St [] w w6 [(b3, [.int .i8 (m), .int .u64 (((f : Nat) : Int))], 33), (b2, [.int .i8 (m), .int .u64 (((f : Nat) : Int))], 33), (b1, [.int .i8 (m), .int .u64 (((f : Nat) : Int))], 28)] := st
  refine Wl.nil ?_
  refine tn ?_
  refine Wc.ret ?_
  refine postL.cell (i := 1) st rfl tA_33 rfl rfl rfl ?_
  exact RetV.of rfl st.below

set_option maxHeartbeats 400000 in
set_option maxRecDepth 4000 in
theorem c_spec_l04Has {bf : Nat} {of : Nat} {m : Int} {f : Nat} {x : Nat} {w : World} (hF : RdA w bf of [.int .i8 m, .int .u64 ((f : Nat) : Int)]) (hm : -128 ≤ m ∧ m ≤ 127) (hf : f < 18446744073709551616) (hx : x < 64) :
    CE Try.prog 29 [.pointer (some ⟨bf, of, none⟩), .int .i64 (((x : Nat) : Int))] w (RetV w (.bool (bitB f x))) := by
  refine CE.enter 14 [(0, .pointer (some ⟨bf, of, none⟩)), (1, .int .i64 (((x : Nat) : Int)))] en_29 Try.func29 rfl rfl (Nat.le_of_ble_eq_true rfl) rfl ?_
  have st := St.start w
  refine Wc.seq ?_
  refine Wc.region rfl ?_
  refine Wl.pure (PR.assB rfl) ?_
  refine Wl.nil ?_
  refine tn ?_
  refine Wc.seq ?_
  refine Wc.region rfl ?_
  refine Wl.pure (PR.moveP rfl) ?_
  refine Wl.pure (PR.nil_ rfl) ?_
  refine Wl.pure (PR.fieldAddr tF_33_1 rfl) ?_
  refine Wl.loadC tA_26 rfl ((hF.st st).at_ (j := 1) (rfl) rfl) ?_
  refine Wl.pure (PR.moveI rfl) ?_
  refine Wl.pure (PR.conv (n := ((x : Nat) : Int)) tI_52 rfl (by simp only [fitI]; omega) Try.underlying3) ?_
  refine Wl.pure (PR.shr (a := f) (n := x) rfl rfl (by decide) hf) ?_
  refine Wl.pure (PR.and (a := (f >>> x)) (b := 1) rfl rfl (by decide) (shr_lt hf) (by decide)) ?_
  refine Wl.pure (PR.eql (a := ((((f >>> x) &&& 1) : Nat) : Int)) (b := 1) rfl rfl) ?_
  refine Wl.pure (PR.assB rfl) ?_
  refine Wl.nil ?_
  refine tn ?_
  refine Wc.ret ?_
  refine postL.tmp rfl rfl ?_
  refine RetV.of ?_ st.below
  refine congrArg Value.bool ?_
  unfold bitB; exact decide_eq_decide.2 (by omega)

set_option maxHeartbeats 400000 in
set_option maxRecDepth 4000 in
theorem c_impl_Family_has {m : Int} {f : Nat} {x : Nat} {w : World} (hm : -128 ≤ m ∧ m ≤ 127) (hf : f < 18446744073709551616) (hx : x < 64) :
    CE Try.prog 55 [.agg ([.int .i8 (m), .int .u64 (((f : Nat) : Int))]).toArray, .int .i64 (((x : Nat) : Int))] w (RetV w (.bool (bitB f x))) := by
  refine CE.enter 11 [(0, .agg ([.int .i8 (m), .int .u64 (((f : Nat) : Int))]).toArray), (1, .int .i64 (((x : Nat) : Int)))] en_55 Try.func55 rfl rfl (Nat.le_of_ble_eq_true rfl) rfl ?_
  have st := St.start w
  refine Wc.seq ?_
  refine Wc.region rfl ?_
  refine Wl.boxA st rfl ?_
  clear st
  intro b2 w1 st
  refine Wl.pure (PR.assB rfl) ?_
  refine Wl.nil ?_
  refine tn ?_
  refine Wc.seq ?_
  refine Wc.region rfl ?_
  refine Wl.pure (PR.fieldAddr tF_33_1 rfl) ?_
  refine Wl.load (i := 0) st tA_26 rfl rfl (rfl) ?_
  refine Wl.pure (PR.moveI rfl) ?_
  refine Wl.pure (PR.shr (a := f) (n := x) rfl rfl (by decide) hf) ?_
  refine Wl.pure (PR.and (a := (f >>> x)) (b := 1) rfl rfl (by decide) (shr_lt hf) (by decide)) ?_
  refine Wl.pure (PR.eql (a := ((((f >>> x) &&& 1) : Nat) : Int)) (b := 1) rfl rfl) ?_
  refine Wl.pure (PR.assB rfl) ?_
  refine Wl.nil ?_
  refine tn ?_
  refine Wc.ret ?_
  refine postL.tmp rfl rfl ?_
  refine RetV.of ?_ st.below
  refine congrArg Value.bool ?_
  unfold bitB; exact decide_eq_decide.2 (by omega)

set_option maxHeartbeats 400000 in
set_option maxRecDepth 4000 in
theorem c_impl_Family_size {m : Int} {f : Nat} {w : World} (hm : -128 ≤ m ∧ m ≤ 127) (hf : f < 18446744073709551616) (hm6 : 0 ≤ m ∧ m ≤ 6) :
    CE Try.prog 54 [.agg ([.int .i8 (m), .int .u64 (((f : Nat) : Int))]).toArray] w (RetV w (.int .i64 ((((1 <<< (m).toNat) : Nat) : Int)))) := by
  refine CE.enter 6 [(0, .agg ([.int .i8 (m), .int .u64 (((f : Nat) : Int))]).toArray)] en_54 Try.func54 rfl rfl (Nat.le_of_ble_eq_true rfl) rfl ?_
  have st := St.start w
  refine Wc.seq ?_
  refine Wc.region rfl ?_
  refine Wl.boxA st rfl ?_
  clear st
  intro b1 w1 st
  refine Wl.pure (PR.assI rfl) ?_
  refine Wl.nil ?_
  refine tn ?_
  refine Wc.seq ?_
  obtain ⟨k, rfl⟩ : ∃ k : Nat, m = ((k : Nat) : Int) := ⟨m.toNat, by omega⟩
  refine Wc.region rfl ?_
  refine Wl.pure (PR.fieldAddr tF_33_0 rfl) ?_
  refine Wl.load (i := 0) st tA_22 rfl rfl (rfl) ?_
  refine Wl.pure (PR.shlI (a := 1) (n := k) rfl rfl (by omega) (sh62 (by omega))) ?_
  refine Wl.pure (PR.assI rfl) ?_
  refine Wl.nil ?_
  refine tn ?_
  refine Wc.ret ?_
  refine postL.tmp rfl rfl ?_
  refine RetV.of ?_ st.below
  rfl

set_option maxHeartbeats 400000 in
set_option maxRecDepth 4000 in
theorem c_spec_l02Whole {m : Int} {w : World} (hm6 : 1 ≤ m ∧ m ≤ 6) :
    CE Try.prog 58 [.int .i8 (m)] w (RetV w (.int .u64 ((((whF (m).toNat) : Nat) : Int)))) := by
  refine CE.enter 10 [(0, .int .i8 (m))] en_58 Try.func58 rfl rfl (Nat.le_of_ble_eq_true rfl) rfl ?_
  have st := St.start w
  refine Wc.seq ?_
  refine Wc.region rfl ?_
  refine Wl.pure (PR.assI rfl) ?_
  refine Wl.nil ?_
  refine tn ?_
  refine Wc.seq ?_
  refine Wc.seq ?_
  obtain ⟨k, rfl⟩ : ∃ k : Nat, m = ((k : Nat) : Int) := ⟨m.toNat, by omega⟩
  refine Wc.region rfl ?_
  refine Wl.pure (PR.moveI rfl) ?_
  refine Wl.pure (PR.eql (a := ((k : Nat) : Int)) (b := 6) rfl rfl) ?_
  refine Wl.nil ?_
  refine tn ?_
  refine Wc.condD (p := ((k : Nat) : Int) = 6) rfl (fun h1 => ?_) (fun h1 => ?_)
  · refine Wc.seq ?_
    refine Wc.region rfl ?_
    refine Wl.pure (PR.assI rfl) ?_
    refine Wl.nil ?_
    refine tn ?_
    refine Wc.ret ?_
    refine tr ?_
    refine postL.tmp rfl rfl ?_
    refine RetV.of ?_ st.below
    refine congrArg (fun x : Nat => Value.int .u64 (x : Int)) ?_
    unfold whF
    first | (rw [if_pos (show ((k : Nat) : Int).toNat = 6 by omega)]; done) | (rw [if_neg (show ¬ ((k : Nat) : Int).toNat = 6 by omega)]; rfl)
  · refine Wc.skip ?_
    refine tn ?_
    refine Wc.seq ?_
    have hwp := wh_pos (m := k) (by omega)
    refine Wc.region rfl ?_
    refine Wl.pure (PR.moveI rfl) ?_
    refine Wl.pure (PR.conv (n := ((k : Nat) : Int)) tI_52 rfl (by simp only [fitI]; omega) Try.underlying22) ?_
    refine Wl.pure (PR.shl (a := 1) (n := k) rfl rfl (by decide)) ?_
    refine Wl.pure (PR.shl (a := 1) (n := ((1 <<< k) % 18446744073709551616)) rfl rfl (by decide)) ?_
    refine Wl.pure (PR.subN (a := ((1 <<< ((1 <<< k) % 18446744073709551616)) % 18446744073709551616)) (b := 1) rfl rfl (by omega) (by simp only [fitI]; omega)) ?_
    refine Wl.pure (PR.assI rfl) ?_
    refine Wl.nil ?_
    refine tn ?_
    refine Wc.ret ?_
    refine postL.tmp rfl rfl ?_
    refine RetV.of ?_ st.below
    refine congrArg (fun x : Nat => Value.int .u64 (x : Int)) ?_
    unfold whF
    first | (rw [if_pos (show ((k : Nat) : Int).toNat = 6 by omega)]; done) | (rw [if_neg (show ¬ ((k : Nat) : Int).toNat = 6 by omega)]; rfl)

set_option maxHeartbeats 400000 in
set_option maxRecDepth 4000 in
theorem c_impl_ValidFamily {m : Int} {f : Nat} {w : World} (hm : -128 ≤ m ∧ m ≤ 127) (hf : f < 18446744073709551616) :
    CE Try.prog 43 [.agg ([.int .i8 (m), .int .u64 (((f : Nat) : Int))]).toArray] w (RetV w (.bool (famOk m f))) := by
  refine CE.enter 60 [(0, .agg ([.int .i8 (m), .int .u64 (((f : Nat) : Int))]).toArray)] en_43 Try.func43 rfl rfl (Nat.le_of_ble_eq_true rfl) rfl ?_
  have st := St.start w
  refine Wc.seq ?_
  refine Wc.region rfl ?_
  refine Wl.boxA st rfl ?_
  clear st
  intro b1 w1 st
  refine Wl.pure (PR.assB rfl) ?_
  refine Wl.nil ?_
  refine tn ?_
  refine Wc.seq ?_
  refine Wc.seq ?_
  refine Wc.quiet hmix (by kernel_rfl) rfl ?_
  refine Wq.pure (PR.fieldAddr tF_33_0 rfl) ?_
  refine Wq.load (i := 0) st tA_22 rfl rfl (rfl) ?_
  refine Wq.pure (PR.conv (n := m) tI_2 rfl (by simp only [fitI]; omega) Try.underlying22) ?_
  refine Wq.callV (fun _ hbel => c_impl_within (n := m) (lo := 1) (hi := 6)) rfl ?_
  refine Wq.pure (PR.not_ rfl) ?_
  refine Wq.pure (PR.moveB rfl) ?_
  refine Wq.splitB (b := (!decide (1 ≤ m ∧ m ≤ 6))) rfl rfl (fun h2 => ?_) (fun h2 => ?_)
  · simp only [Bool.not_eq_true', Bool.not_eq_false', Bool.not_true, Bool.not_false, decide_eq_true_eq, decide_eq_false_iff_not] at h2
    refine Wq.pure (PR.fieldAddr tF_33_0 rfl) ?_
    refine Wq.on rfl rfl ?_
    refine Wq.load (i := 0) st tA_22 rfl rfl (rfl) ?_
    refine Wq.on rfl rfl ?_
    refine Wq.pure (PR.lss (a := m) (b := 6) rfl rfl) ?_
    refine Wq.on rfl rfl ?_
    refine Wq.pure (PR.moveB rfl) ?_
    refine Wq.splitT (q := m < 6) rfl rfl (fun h3 => ?_) (fun h3 => ?_)
    · refine Wq.pure (PR.fieldAddr tF_33_1 rfl) ?_
      refine Wq.on rfl rfl ?_
      refine Wq.load (i := 0) st tA_26 rfl rfl (rfl) ?_
      refine Wq.on rfl rfl ?_
      refine Wq.loadA (i := 0) st tA_33 rfl rfl rfl rfl ?_
      refine Wq.on rfl rfl ?_
      refine Wq.callV (fun _ hbel => c_impl_Family_size (m := m) (f := f) (by first | assumption | omega) hf (by first | assumption | omega)) rfl ?_
      refine Wq.on rfl rfl ?_
      refine Wq.pure (PR.shr (a := f) (n := (1 <<< (m).toNat)) rfl rfl (by decide) hf) ?_
      refine Wq.on rfl rfl ?_
      refine Wq.pure (PR.neq (a := (((f >>> (1 <<< (m).toNat)) : Nat) : Int)) (b := 0) rfl rfl) ?_
      refine Wq.on rfl rfl ?_
      refine Wq.pure (PR.pickTB rfl rfl) ?_
      refine Wq.pure (PR.pickFB rfl rfl) ?_
      refine Wq.pure (PR.moveB rfl) ?_
      refine Wq.splitB (b := (!decide ((((f >>> (1 <<< (m).toNat)) : Nat) : Int) = 0))) rfl rfl (fun h4 => ?_) (fun h4 => ?_)
      · simp only [Bool.not_eq_true', Bool.not_eq_false', Bool.not_true, Bool.not_false, decide_eq_true_eq, decide_eq_false_iff_not] at h4
        refine Wq.loadA (i := 0) st tA_33 rfl rfl rfl rfl ?_
        refine Wq.on rfl rfl ?_
        refine Wq.callV (fun _ hbel => c_impl_Family_has (m := m) (f := f) (x := 0) (by first | assumption | omega) hf (by first | assumption | omega)) rfl ?_
        refine Wq.pure (PR.pickFB rfl rfl) ?_
        refine Wq.pure (PR.moveB rfl) ?_
        refine Wq.splitB (b := (bitB f 0)) rfl rfl (fun h5 => ?_) (fun h5 => ?_)
        · try simp only [Bool.not_true, Bool.not_false] at h5
          refine Wq.loadA (i := 0) st tA_33 rfl rfl rfl rfl ?_
          have hsz : m ≤ 6 → 1 <<< m.toNat ≤ 64 ∧ 0 < 1 <<< m.toNat := fun h => shl_bd (by omega)
          refine Wq.on rfl rfl ?_
          refine Wq.loadA (i := 0) st tA_33 rfl rfl rfl rfl ?_
          refine Wq.on rfl rfl ?_
          refine Wq.callV (fun _ hbel => c_impl_Family_size (m := m) (f := f) (by first | assumption | omega) hf (by first | assumption | omega)) rfl ?_
          refine Wq.on rfl rfl ?_
          refine Wq.pure (PR.subN (a := (1 <<< (m).toNat)) (b := 1) rfl rfl (by omega) (by simp only [fitI]; omega)) ?_
          refine Wq.on rfl rfl ?_
          refine Wq.callV (fun _ hbel => c_impl_Family_has (m := m) (f := f) (x := ((1 <<< (m).toNat) - 1)) (by first | assumption | omega) hf (by first | assumption | omega)) rfl ?_
          refine Wq.on rfl rfl ?_
          refine Wq.pure (PR.not_ rfl) ?_
          refine Wq.pure (PR.pickFB rfl rfl) ?_
          refine Wq.nil (fun w6 hbel => ?_)
          replace st := st.call hbel
          clear hbel
          refine tn ?_
          refine Wc.condNB (b := bitB f ((1 <<< (m).toNat) - 1)) rfl (fun h7 => ?_) (fun h7 => ?_)
          · refine Wc.seq ?_
            refine Wc.region rfl ?_
            refine Wl.pure (PR.assB rfl) ?_
            refine Wl.nil ?_
            refine tn ?_
            refine Wc.ret ?_
            refine tr ?_
            refine postL.tmp rfl rfl ?_
            refine RetV.of ?_ st.below
            refine congrArg Value.bool ?_
            first | exact fam_f1 (by omega) | exact fam_f5 (x := x) (by first | assumption | omega) (up1_f (k := q) (by omega) (by assumption) (by assumption)) | exact fam_w (by omega) hf (by omega) | exact fam_s (by omega) (by omega) | exact fam_f3 (by assumption) | exact fam_f4 (by assumption)
          · refine Wc.skip ?_
            refine tn ?_
            refine Wc.seq ?_
            refine Wc.seq ?_
            have hsz := shl_bd (m := m.toNat) (by omega)
            refine Wc.region rfl ?_
            refine Wl.loadA (i := 0) st tA_33 rfl rfl rfl rfl ?_
            refine Wl.callV (c_impl_Family_size (m := m) (f := f) (by first | assumption | omega) hf (by first | assumption | omega)) rfl ?_
            intro w8 hbel
            replace st := st.call hbel
            clear hbel
            refine Wl.pure (PR.moveI rfl) ?_
            refine Wl.nil ?_
            refine tn ?_
            refine Wc.block ?_
            refine Wc.loopF (γ := Nat) (fun g => [(1, .pointer (some ⟨b1, 0, none⟩)), (36, .int .i64 ((((1 <<< (m).toNat) : Nat) : Int))), (37, .int .i64 (((g : Nat) : Int)))]) (fun g w_ => St [] w w_ [(b1, [.int .i8 (m), .int .u64 (((f : Nat) : Int))], 33)] ∧ (g ≤ (1 <<< m.toNat)) ∧ (∀ j, j < g → up1 m.toNat f j = true)) (fun g => (1 <<< m.toNat) - g) ?_ ?_
            · exact ⟨0, (.cons rfl (.cons rfl (.cons rfl (.nil _)))), st, (by first | omega | (dsimp only; omega)), (fun j hj => by omega)⟩
            clear st
            rintro x w9 ⟨st, hx, hall⟩
            try dsimp only at st hx hall ⊢
            refine Wc.seq ?_
            refine Wc.region rfl ?_
            refine Wl.pure (PR.lss (a := ((x : Nat) : Int)) (b := (((1 <<< (m).toNat) : Nat) : Int)) rfl rfl) ?_
            refine Wl.nil ?_
            refine tn ?_
            refine Wc.seq ?_
            refine Wc.condD (p := ((x : Nat) : Int) < (((1 <<< (m).toNat) : Nat) : Int)) rfl (fun h10 => ?_) (fun h10 => ?_)
            · refine Wc.skip ?_
              refine tn ?_
              refine Wc.seq ?_
              refine Wc.block ?_
              refine Wc.seq ?_
              refine Wc.region rfl ?_
              refine Wl.pure (PR.moveI rfl) ?_
              refine Wl.pure (PR.assI rfl) ?_
              refine Wl.nil ?_
              refine tn ?_
              refine Wc.seq ?_
              refine Wc.region rfl ?_
              refine Wl.pure (PR.fieldAddr tF_33_0 rfl) ?_
              refine Wl.load (i := 0) st tA_22 rfl rfl (rfl) ?_
              refine Wl.pure (PR.conv (n := m) tI_3 rfl (by simp only [fitI]; omega) Try.underlying22) ?_
              refine Wl.pure (PR.moveI rfl) ?_
              refine Wl.nil ?_
              refine tn ?_
              refine Wc.block ?_
              refine Wc.loopF (γ := Nat) (fun g => [(1, .pointer (some ⟨b1, 0, none⟩)), (3, .int .i64 (((x : Nat) : Int))), (36, .int .i64 ((((1 <<< (m).toNat) : Nat) : Int))), (37, .int .i64 (((x : Nat) : Int))), (38, .bool (decide (((x : Nat) : Int) < (((1 <<< (m).toNat) : Nat) : Int)))), (39, .int .i64 (((x : Nat) : Int))), (40, .pointer (some ⟨b1, 0, none⟩)), (41, .int .i8 (m)), (42, .int .i64 (m)), (43, .int .i64 (((g : Nat) : Int)))]) (fun g w_ => St [] w w_ [(b1, [.int .i8 (m), .int .u64 (((f : Nat) : Int))], 33)] ∧ (g ≤ m.toNat) ∧ (∀ j, j < g → bitB f x = true → bitB f (x ||| (1 <<< j)) = true)) (fun g => m.toNat - g) ?_ ?_
              · exact ⟨0, (.cons rfl (.cons rfl (.cons rfl (.cons rfl (.cons rfl (.cons rfl (.cons rfl (.cons rfl (.cons rfl (.cons rfl (.nil _))))))))))), st, (by first | omega | (dsimp only; omega)), (fun j hj => by omega)⟩
              clear st
              rintro q w11 ⟨st, hq, hin⟩
              try dsimp only at st hq hin ⊢
              refine Wc.seq ?_
              refine Wc.region rfl ?_
              refine Wl.pure (PR.lss (a := ((q : Nat) : Int)) (b := m) rfl rfl) ?_
              refine Wl.nil ?_
              refine tn ?_
              refine Wc.seq ?_
              refine Wc.condD (p := ((q : Nat) : Int) < m) rfl (fun h12 => ?_) (fun h12 => ?_)
              · refine Wc.skip ?_
                refine tn ?_
                refine Wc.seq ?_
                refine Wc.block ?_
                refine Wc.seq ?_
                refine Wc.region rfl ?_
                refine Wl.pure (PR.moveI rfl) ?_
                refine Wl.pure (PR.assI rfl) ?_
                refine Wl.nil ?_
                refine tn ?_
                refine Wc.seq ?_
                have hor := or_64 (x := x) (k := q) (by omega) (by omega)
                have hq6 := shl_bd6 (m := q) (by omega)
                refine Wc.quiet hmix (by kernel_rfl) rfl ?_
                refine Wq.loadA (i := 0) st tA_33 rfl rfl rfl rfl ?_
                refine Wq.pure (PR.moveI rfl) ?_
                refine Wq.callV (fun _ hbel => c_impl_Family_has (m := m) (f := f) (x := x) (by first | assumption | omega) hf (by first | assumption | omega)) rfl ?_
                refine Wq.pure (PR.moveB rfl) ?_
                refine Wq.splitB (b := (bitB f x)) rfl rfl (fun h13 => ?_) (fun h13 => ?_)
                · try simp only [Bool.not_true, Bool.not_false] at h13
                  refine Wq.loadA (i := 0) st tA_33 rfl rfl rfl rfl ?_
                  refine Wq.on rfl rfl ?_
                  refine Wq.pure (PR.moveI rfl) ?_
                  refine Wq.on rfl rfl ?_
                  refine Wq.pure (PR.moveI rfl) ?_
                  refine Wq.on rfl rfl ?_
                  refine Wq.pure (PR.shlI (a := 1) (n := q) rfl rfl (by omega) (sh62 (by omega))) ?_
                  refine Wq.on rfl rfl ?_
                  refine Wq.pure (PR.orI (a := x) (b := (1 <<< q)) rfl rfl (by first | assumption | omega) (by first | assumption | omega)) ?_
                  refine Wq.on rfl rfl ?_
                  refine Wq.callV (fun _ hbel => c_impl_Family_has (m := m) (f := f) (x := (x ||| (1 <<< q))) (by first | assumption | omega) hf (by first | assumption | omega)) rfl ?_
                  refine Wq.on rfl rfl ?_
                  refine Wq.pure (PR.not_ rfl) ?_
                  refine Wq.pure (PR.pickTB rfl rfl) ?_
                  refine Wq.nil (fun w14 hbel => ?_)
                  replace st := st.call hbel
                  clear hbel
                  refine tn ?_
                  refine Wc.condNB (b := bitB f (x ||| (1 <<< q))) rfl (fun h15 => ?_) (fun h15 => ?_)
                  · refine Wc.seq ?_
                    refine Wc.region rfl ?_
                    refine Wl.pure (PR.assB rfl) ?_
                    refine Wl.nil ?_
                    refine tn ?_
                    refine Wc.ret ?_
                    refine br ?_
                    refine tr ?_
                    refine tr ?_
                    refine br ?_
                    refine br ?_
                    refine tr ?_
                    refine tr ?_
                    refine br ?_
                    refine tr ?_
                    refine postL.tmp rfl rfl ?_
                    refine RetV.of ?_ st.below
                    refine congrArg Value.bool ?_
                    first | exact fam_f1 (by omega) | exact fam_f5 (x := x) (by first | assumption | omega) (up1_f (k := q) (by omega) (by assumption) (by assumption)) | exact fam_w (by omega) hf (by omega) | exact fam_s (by omega) (by omega) | exact fam_f3 (by assumption) | exact fam_f4 (by assumption)
                  · refine Wc.skip ?_
                    refine bn ?_
                    refine tn ?_
                    refine Wc.region rfl ?_
                    refine Wl.pure (PR.add (a := ((q : Nat) : Int)) (b := 1) rfl rfl (by simp only [fitI]; omega)) ?_
                    refine Wl.pure (PR.moveI rfl) ?_
                    refine Wl.nil ?_
                    refine tn ?_
                    exact ⟨q + 1, (.cons rfl (.cons rfl (.cons rfl (.cons rfl (.cons rfl (.cons rfl (.cons rfl (.cons rfl (.cons rfl (.cons rfl (.nil _))))))))))), ⟨st, (by first | omega | (dsimp only; omega)), (up_snoc hin (fun hb9 => by first | assumption | exact absurd hb9 (by simp [*])))⟩, (by first | omega | (dsimp only; omega))⟩
                · try simp only [Bool.not_true, Bool.not_false] at h13
                  refine Wq.off rfl rfl rfl ?_
                  refine Wq.off rfl rfl rfl ?_
                  refine Wq.off rfl rfl rfl ?_
                  refine Wq.off rfl rfl rfl ?_
                  refine Wq.off rfl rfl rfl ?_
                  refine Wq.off rfl rfl rfl ?_
                  refine Wq.pure (PR.pickFB rfl rfl) ?_
                  refine Wq.nil (fun w16 hbel => ?_)
                  replace st := st.call hbel
                  clear hbel
                  refine tn ?_
                  refine Wc.condF rfl ?_
                  refine Wc.skip ?_
                  refine bn ?_
                  refine tn ?_
                  refine Wc.region rfl ?_
                  refine Wl.pure (PR.add (a := ((q : Nat) : Int)) (b := 1) rfl rfl (by simp only [fitI]; omega)) ?_
                  refine Wl.pure (PR.moveI rfl) ?_
                  refine Wl.nil ?_
                  refine tn ?_
                  exact ⟨q + 1, (.cons rfl (.cons rfl (.cons rfl (.cons rfl (.cons rfl (.cons rfl (.cons rfl (.cons rfl (.cons rfl (.cons rfl (.nil _))))))))))), ⟨st, (by first | omega | (dsimp only; omega)), (up_snoc hin (fun hb9 => by first | assumption | exact absurd hb9 (by simp [*])))⟩, (by first | omega | (dsimp only; omega))⟩
              · refine Wc.exit ?_
                refine tx ?_
                refine tx ?_
                refine bh ?_
                refine bn ?_
                refine tn ?_
                refine Wc.region rfl ?_
                refine Wl.pure (PR.add (a := ((x : Nat) : Int)) (b := 1) rfl rfl (by simp only [fitI]; omega)) ?_
                refine Wl.pure (PR.moveI rfl) ?_
                refine Wl.nil ?_
                refine tn ?_
                exact ⟨x + 1, (.cons rfl (.cons rfl (.cons rfl (.nil _)))), ⟨st, (by first | omega | (dsimp only; omega)), (all_snoc hall (up1_t (fun j hj => hin j (by omega))))⟩, (by first | omega | (dsimp only; omega))⟩
            · refine Wc.exit ?_
              refine tx ?_
              refine tx ?_
              refine bh ?_
              refine tn ?_
              refine Wc.seq ?_
              refine Wc.region rfl ?_
              refine Wl.pure (PR.assB rfl) ?_
              refine Wl.nil ?_
              refine tn ?_
              refine Wc.ret ?_
              refine postL.tmp rfl rfl ?_
              refine RetV.of ?_ st.below
              refine congrArg Value.bool ?_
              first | exact fam_t (by omega) ((wh_iff (by omega) hf).1 (by omega)) (by assumption) (by assumption) (fun j hj => hall j (by omega)) | exact fam_t (by omega) ((shr_fam (by omega)).1 (by omega)) (by assumption) (by assumption) (fun j hj => hall j (by omega)) | exact fam_t (by omega) (fam_6 (by omega) hf) (by assumption) (by assumption) (fun j hj => hall j (by omega))
        · try simp only [Bool.not_true, Bool.not_false] at h5
          have hsz : m ≤ 6 → 1 <<< m.toNat ≤ 64 ∧ 0 < 1 <<< m.toNat := fun h => shl_bd (by omega)
          refine Wq.off rfl rfl rfl ?_
          refine Wq.off rfl rfl rfl ?_
          refine Wq.off rfl rfl rfl ?_
          refine Wq.off rfl rfl rfl ?_
          refine Wq.off rfl rfl rfl ?_
          refine Wq.pure (PR.pickTB rfl rfl) ?_
          refine Wq.nil (fun w17 hbel => ?_)
          replace st := st.call hbel
          clear hbel
          refine tn ?_
          refine Wc.condT rfl ?_
          refine Wc.seq ?_
          refine Wc.region rfl ?_
          refine Wl.pure (PR.assB rfl) ?_
          refine Wl.nil ?_
          refine tn ?_
          refine Wc.ret ?_
          refine tr ?_
          refine postL.tmp rfl rfl ?_
          refine RetV.of ?_ st.below
          refine congrArg Value.bool ?_
          first | exact fam_f1 (by omega) | exact fam_f5 (x := x) (by first | assumption | omega) (up1_f (k := q) (by omega) (by assumption) (by assumption)) | exact fam_w (by omega) hf (by omega) | exact fam_s (by omega) (by omega) | exact fam_f3 (by assumption) | exact fam_f4 (by assumption)
      · simp only [Bool.not_eq_true', Bool.not_eq_false', Bool.not_true, Bool.not_false, decide_eq_true_eq, decide_eq_false_iff_not] at h4
        refine Wq.off rfl rfl rfl ?_
        refine Wq.pure (PR.pickTB rfl rfl) ?_
        refine Wq.pure (PR.moveB rfl) ?_
        refine Wq.off rfl rfl rfl ?_
        have hsz : m ≤ 6 → 1 <<< m.toNat ≤ 64 ∧ 0 < 1 <<< m.toNat := fun h => shl_bd (by omega)
        refine Wq.off rfl rfl rfl ?_
        refine Wq.off rfl rfl rfl ?_
        refine Wq.off rfl rfl rfl ?_
        refine Wq.off rfl rfl rfl ?_
        refine Wq.off rfl rfl rfl ?_
        refine Wq.pure (PR.pickTB rfl rfl) ?_
        refine Wq.nil (fun w18 hbel => ?_)
        replace st := st.call hbel
        clear hbel
        refine tn ?_
        refine Wc.condT rfl ?_
        refine Wc.seq ?_
        refine Wc.region rfl ?_
        refine Wl.pure (PR.assB rfl) ?_
        refine Wl.nil ?_
        refine tn ?_
        refine Wc.ret ?_
        refine tr ?_
        refine postL.tmp rfl rfl ?_
        refine RetV.of ?_ st.below
        refine congrArg Value.bool ?_
        first | exact fam_f1 (by omega) | exact fam_f5 (x := x) (by first | assumption | omega) (up1_f (k := q) (by omega) (by assumption) (by assumption)) | exact fam_w (by omega) hf (by omega) | exact fam_s (by omega) (by omega) | exact fam_f3 (by assumption) | exact fam_f4 (by assumption)
    · refine Wq.off rfl rfl rfl ?_
      refine Wq.off rfl rfl rfl ?_
      refine Wq.off rfl rfl rfl ?_
      refine Wq.off rfl rfl rfl ?_
      refine Wq.off rfl rfl rfl ?_
      refine Wq.on rfl rfl ?_
      refine Wq.pure (PR.pickFB rfl rfl) ?_
      refine Wq.pure (PR.pickFB rfl rfl) ?_
      refine Wq.pure (PR.moveB rfl) ?_
      refine Wq.on rfl rfl ?_
      refine Wq.loadA (i := 0) st tA_33 rfl rfl rfl rfl ?_
      refine Wq.on rfl rfl ?_
      refine Wq.callV (fun _ hbel => c_impl_Family_has (m := m) (f := f) (x := 0) (by first | assumption | omega) hf (by first | assumption | omega)) rfl ?_
      refine Wq.pure (PR.pickFB rfl rfl) ?_
      refine Wq.pure (PR.moveB rfl) ?_
      refine Wq.splitB (b := (bitB f 0)) rfl rfl (fun h19 => ?_) (fun h19 => ?_)
      · try simp only [Bool.not_true, Bool.not_false] at h19
        refine Wq.loadA (i := 0) st tA_33 rfl rfl rfl rfl ?_
        have hsz : m ≤ 6 → 1 <<< m.toNat ≤ 64 ∧ 0 < 1 <<< m.toNat := fun h => shl_bd (by omega)
        refine Wq.on rfl rfl ?_
        refine Wq.loadA (i := 0) st tA_33 rfl rfl rfl rfl ?_
        refine Wq.on rfl rfl ?_
        refine Wq.callV (fun _ hbel => c_impl_Family_size (m := m) (f := f) (by first | assumption | omega) hf (by first | assumption | omega)) rfl ?_
        refine Wq.on rfl rfl ?_
        refine Wq.pure (PR.subN (a := (1 <<< (m).toNat)) (b := 1) rfl rfl (by omega) (by simp only [fitI]; omega)) ?_
        refine Wq.on rfl rfl ?_
        refine Wq.callV (fun _ hbel => c_impl_Family_has (m := m) (f := f) (x := ((1 <<< (m).toNat) - 1)) (by first | assumption | omega) hf (by first | assumption | omega)) rfl ?_
        refine Wq.on rfl rfl ?_
        refine Wq.pure (PR.not_ rfl) ?_
        refine Wq.pure (PR.pickFB rfl rfl) ?_
        refine Wq.nil (fun w20 hbel => ?_)
        replace st := st.call hbel
        clear hbel
        refine tn ?_
        refine Wc.condNB (b := bitB f ((1 <<< (m).toNat) - 1)) rfl (fun h21 => ?_) (fun h21 => ?_)
        · refine Wc.seq ?_
          refine Wc.region rfl ?_
          refine Wl.pure (PR.assB rfl) ?_
          refine Wl.nil ?_
          refine tn ?_
          refine Wc.ret ?_
          refine tr ?_
          refine postL.tmp rfl rfl ?_
          refine RetV.of ?_ st.below
          refine congrArg Value.bool ?_
          first | exact fam_f1 (by omega) | exact fam_f5 (x := x) (by first | assumption | omega) (up1_f (k := q) (by omega) (by assumption) (by assumption)) | exact fam_w (by omega) hf (by omega) | exact fam_s (by omega) (by omega) | exact fam_f3 (by assumption) | exact fam_f4 (by assumption)
        · refine Wc.skip ?_
          refine tn ?_
          refine Wc.seq ?_
          refine Wc.seq ?_
          have hsz := shl_bd (m := m.toNat) (by omega)
          refine Wc.region rfl ?_
          refine Wl.loadA (i := 0) st tA_33 rfl rfl rfl rfl ?_
          refine Wl.callV (c_impl_Family_size (m := m) (f := f) (by first | assumption | omega) hf (by first | assumption | omega)) rfl ?_
          intro w22 hbel
          replace st := st.call hbel
          clear hbel
          refine Wl.pure (PR.moveI rfl) ?_
          refine Wl.nil ?_
          refine tn ?_
          refine Wc.block ?_
          refine Wc.loopF (γ := Nat) (fun g => [(1, .pointer (some ⟨b1, 0, none⟩)), (36, .int .i64 ((((1 <<< (m).toNat) : Nat) : Int))), (37, .int .i64 (((g : Nat) : Int)))]) (fun g w_ => St [] w w_ [(b1, [.int .i8 (m), .int .u64 (((f : Nat) : Int))], 33)] ∧ (g ≤ (1 <<< m.toNat)) ∧ (∀ j, j < g → up1 m.toNat f j = true)) (fun g => (1 <<< m.toNat) - g) ?_ ?_
          · exact ⟨0, (.cons rfl (.cons rfl (.cons rfl (.nil _)))), st, (by first | omega | (dsimp only; omega)), (fun j hj => by omega)⟩
          clear st
          rintro x w23 ⟨st, hx, hall⟩
          try dsimp only at st hx hall ⊢
          refine Wc.seq ?_
          refine Wc.region rfl ?_
          refine Wl.pure (PR.lss (a := ((x : Nat) : Int)) (b := (((1 <<< (m).toNat) : Nat) : Int)) rfl rfl) ?_
          refine Wl.nil ?_
          refine tn ?_
          refine Wc.seq ?_
          refine Wc.condD (p := ((x : Nat) : Int) < (((1 <<< (m).toNat) : Nat) : Int)) rfl (fun h24 => ?_) (fun h24 => ?_)
          · refine Wc.skip ?_
            refine tn ?_
            refine Wc.seq ?_
            refine Wc.block ?_
            refine Wc.seq ?_
            refine Wc.region rfl ?_
            refine Wl.pure (PR.moveI rfl) ?_
            refine Wl.pure (PR.assI rfl) ?_
            refine Wl.nil ?_
            refine tn ?_
            refine Wc.seq ?_
            refine Wc.region rfl ?_
            refine Wl.pure (PR.fieldAddr tF_33_0 rfl) ?_
            refine Wl.load (i := 0) st tA_22 rfl rfl (rfl) ?_
            refine Wl.pure (PR.conv (n := m) tI_3 rfl (by simp only [fitI]; omega) Try.underlying22) ?_
            refine Wl.pure (PR.moveI rfl) ?_
            refine Wl.nil ?_
            refine tn ?_
            refine Wc.block ?_
            refine Wc.loopF (γ := Nat) (fun g => [(1, .pointer (some ⟨b1, 0, none⟩)), (3, .int .i64 (((x : Nat) : Int))), (36, .int .i64 ((((1 <<< (m).toNat) : Nat) : Int))), (37, .int .i64 (((x : Nat) : Int))), (38, .bool (decide (((x : Nat) : Int) < (((1 <<< (m).toNat) : Nat) : Int)))), (39, .int .i64 (((x : Nat) : Int))), (40, .pointer (some ⟨b1, 0, none⟩)), (41, .int .i8 (m)), (42, .int .i64 (m)), (43, .int .i64 (((g : Nat) : Int)))]) (fun g w_ => St [] w w_ [(b1, [.int .i8 (m), .int .u64 (((f : Nat) : Int))], 33)] ∧ (g ≤ m.toNat) ∧ (∀ j, j < g → bitB f x = true → bitB f (x ||| (1 <<< j)) = true)) (fun g => m.toNat - g) ?_ ?_
            · exact ⟨0, (.cons rfl (.cons rfl (.cons rfl (.cons rfl (.cons rfl (.cons rfl (.cons rfl (.cons rfl (.cons rfl (.cons rfl (.nil _))))))))))), st, (by first | omega | (dsimp only; omega)), (fun j hj => by omega)⟩
            clear st
            rintro q w25 ⟨st, hq, hin⟩
            try dsimp only at st hq hin ⊢
            refine Wc.seq ?_
            refine Wc.region rfl ?_
            refine Wl.pure (PR.lss (a := ((q : Nat) : Int)) (b := m) rfl rfl) ?_
            refine Wl.nil ?_
            refine tn ?_
            refine Wc.seq ?_
            refine Wc.condD (p := ((q : Nat) : Int) < m) rfl (fun h26 => ?_) (fun h26 => ?_)
            · refine Wc.skip ?_
              refine tn ?_
              refine Wc.seq ?_
              refine Wc.block ?_
              refine Wc.seq ?_
              refine Wc.region rfl ?_
              refine Wl.pure (PR.moveI rfl) ?_
              refine Wl.pure (PR.assI rfl) ?_
              refine Wl.nil ?_
              refine tn ?_
              refine Wc.seq ?_
              have hor := or_64 (x := x) (k := q) (by omega) (by omega)
              have hq6 := shl_bd6 (m := q) (by omega)
              refine Wc.quiet hmix (by kernel_rfl) rfl ?_
              refine Wq.loadA (i := 0) st tA_33 rfl rfl rfl rfl ?_
              refine Wq.pure (PR.moveI rfl) ?_
              refine Wq.callV (fun _ hbel => c_impl_Family_has (m := m) (f := f) (x := x) (by first | assumption | omega) hf (by first | assumption | omega)) rfl ?_
              refine Wq.pure (PR.moveB rfl) ?_
              refine Wq.splitB (b := (bitB f x)) rfl rfl (fun h27 => ?_) (fun h27 => ?_)
              · try simp only [Bool.not_true, Bool.not_false] at h27
                refine Wq.loadA (i := 0) st tA_33 rfl rfl rfl rfl ?_
                refine Wq.on rfl rfl ?_
                refine Wq.pure (PR.moveI rfl) ?_
                refine Wq.on rfl rfl ?_
                refine Wq.pure (PR.moveI rfl) ?_
                refine Wq.on rfl rfl ?_
                refine Wq.pure (PR.shlI (a := 1) (n := q) rfl rfl (by omega) (sh62 (by omega))) ?_
                refine Wq.on rfl rfl ?_
                refine Wq.pure (PR.orI (a := x) (b := (1 <<< q)) rfl rfl (by first | assumption | omega) (by first | assumption | omega)) ?_
                refine Wq.on rfl rfl ?_
                refine Wq.callV (fun _ hbel => c_impl_Family_has (m := m) (f := f) (x := (x ||| (1 <<< q))) (by first | assumption | omega) hf (by first | assumption | omega)) rfl ?_
                refine Wq.on rfl rfl ?_
                refine Wq.pure (PR.not_ rfl) ?_
                refine Wq.pure (PR.pickTB rfl rfl) ?_
                refine Wq.nil (fun w28 hbel => ?_)
                replace st := st.call hbel
                clear hbel
                refine tn ?_
                refine Wc.condNB (b := bitB f (x ||| (1 <<< q))) rfl (fun h29 => ?_) (fun h29 => ?_)
                · refine Wc.seq ?_
                  refine Wc.region rfl ?_
                  refine Wl.pure (PR.assB rfl) ?_
                  refine Wl.nil ?_
                  refine tn ?_
                  refine Wc.ret ?_
                  refine br ?_
                  refine tr ?_
                  refine tr ?_
                  refine br ?_
                  refine br ?_
                  refine tr ?_
                  refine tr ?_
                  refine br ?_
                  refine tr ?_
                  refine postL.tmp rfl rfl ?_
                  refine RetV.of ?_ st.below
                  refine congrArg Value.bool ?_
                  first | exact fam_f1 (by omega) | exact fam_f5 (x := x) (by first | assumption | omega) (up1_f (k := q) (by omega) (by assumption) (by assumption)) | exact fam_w (by omega) hf (by omega) | exact fam_s (by omega) (by omega) | exact fam_f3 (by assumption) | exact fam_f4 (by assumption)
                · refine Wc.skip ?_
                  refine bn ?_
                  refine tn ?_
                  refine Wc.region rfl ?_
                  refine Wl.pure (PR.add (a := ((q : Nat) : Int)) (b := 1) rfl rfl (by simp only [fitI]; omega)) ?_
                  refine Wl.pure (PR.moveI rfl) ?_
                  refine Wl.nil ?_
                  refine tn ?_
                  exact ⟨q + 1, (.cons rfl (.cons rfl (.cons rfl (.cons rfl (.cons rfl (.cons rfl (.cons rfl (.cons rfl (.cons rfl (.cons rfl (.nil _))))))))))), ⟨st, (by first | omega | (dsimp only; omega)), (up_snoc hin (fun hb9 => by first | assumption | exact absurd hb9 (by simp [*])))⟩, (by first | omega | (dsimp only; omega))⟩
              · try simp only [Bool.not_true, Bool.not_false] at h27
                refine Wq.off rfl rfl rfl ?_
                refine Wq.off rfl rfl rfl ?_
                refine Wq.off rfl rfl rfl ?_
                refine Wq.off rfl rfl rfl ?_
                refine Wq.off rfl rfl rfl ?_
                refine Wq.off rfl rfl rfl ?_
                refine Wq.pure (PR.pickFB rfl rfl) ?_
                refine Wq.nil (fun w30 hbel => ?_)
                replace st := st.call hbel
                clear hbel
                refine tn ?_
                refine Wc.condF rfl ?_
                refine Wc.skip ?_
                refine bn ?_
                refine tn ?_
                refine Wc.region rfl ?_
                refine Wl.pure (PR.add (a := ((q : Nat) : Int)) (b := 1) rfl rfl (by simp only [fitI]; omega)) ?_
                refine Wl.pure (PR.moveI rfl) ?_
                refine Wl.nil ?_
                refine tn ?_
                exact ⟨q + 1, (.cons rfl (.cons rfl (.cons rfl (.cons rfl (.cons rfl (.cons rfl (.cons rfl (.cons rfl (.cons rfl (.cons rfl (.nil _))))))))))), ⟨st, (by first | omega | (dsimp only; omega)), (up_snoc hin (fun hb9 => by first | assumption | exact absurd hb9 (by simp [*])))⟩, (by first | omega | (dsimp only; omega))⟩
            · refine Wc.exit ?_
              refine tx ?_
              refine tx ?_
              refine bh ?_
              refine bn ?_
              refine tn ?_
              refine Wc.region rfl ?_
              refine Wl.pure (PR.add (a := ((x : Nat) : Int)) (b := 1) rfl rfl (by simp only [fitI]; omega)) ?_
              refine Wl.pure (PR.moveI rfl) ?_
              refine Wl.nil ?_
              refine tn ?_
              exact ⟨x + 1, (.cons rfl (.cons rfl (.cons rfl (.nil _)))), ⟨st, (by first | omega | (dsimp only; omega)), (all_snoc hall (up1_t (fun j hj => hin j (by omega))))⟩, (by first | omega | (dsimp only; omega))⟩
          · refine Wc.exit ?_
            refine tx ?_
            refine tx ?_
            refine bh ?_
            refine tn ?_
            refine Wc.seq ?_
            refine Wc.region rfl ?_
            refine Wl.pure (PR.assB rfl) ?_
            refine Wl.nil ?_
            refine tn ?_
            refine Wc.ret ?_
            refine postL.tmp rfl rfl ?_
            refine RetV.of ?_ st.below
            refine congrArg Value.bool ?_
            first | exact fam_t (by omega) ((wh_iff (by omega) hf).1 (by omega)) (by assumption) (by assumption) (fun j hj => hall j (by omega)) | exact fam_t (by omega) ((shr_fam (by omega)).1 (by omega)) (by assumption) (by assumption) (fun j hj => hall j (by omega)) | exact fam_t (by omega) (fam_6 (by omega) hf) (by assumption) (by assumption) (fun j hj => hall j (by omega))
      · try simp only [Bool.not_true, Bool.not_false] at h19
        have hsz : m ≤ 6 → 1 <<< m.toNat ≤ 64 ∧ 0 < 1 <<< m.toNat := fun h => shl_bd (by omega)
        refine Wq.off rfl rfl rfl ?_
        refine Wq.off rfl rfl rfl ?_
        refine Wq.off rfl rfl rfl ?_
        refine Wq.off rfl rfl rfl ?_
        refine Wq.off rfl rfl rfl ?_
        refine Wq.pure (PR.pickTB rfl rfl) ?_
        refine Wq.nil (fun w31 hbel => ?_)
        replace st := st.call hbel
        clear hbel
        refine tn ?_
        refine Wc.condT rfl ?_
        refine Wc.seq ?_
        refine Wc.region rfl ?_
        refine Wl.pure (PR.assB rfl) ?_
        refine Wl.nil ?_
        refine tn ?_
        refine Wc.ret ?_
        refine tr ?_
        refine postL.tmp rfl rfl ?_
        refine RetV.of ?_ st.below
        refine congrArg Value.bool ?_
        first | exact fam_f1 (by omega) | exact fam_f5 (x := x) (by first | assumption | omega) (up1_f (k := q) (by omega) (by assumption) (by assumption)) | exact fam_w (by omega) hf (by omega) | exact fam_s (by omega) (by omega) | exact fam_f3 (by assumption) | exact fam_f4 (by assumption)
  · simp only [Bool.not_eq_true', Bool.not_eq_false', Bool.not_true, Bool.not_false, decide_eq_true_eq, decide_eq_false_iff_not] at h2
    refine Wq.off rfl rfl rfl ?_
    refine Wq.off rfl rfl rfl ?_
    refine Wq.off rfl rfl rfl ?_
    refine Wq.offU rfl rfl ?_
    refine Wq.offU rfl rfl ?_
    refine Wq.offU rfl rfl ?_
    refine Wq.offU rfl rfl ?_
    refine Wq.offU rfl rfl ?_
    refine Wq.offU rfl rfl ?_
    refine Wq.off rfl rfl rfl ?_
    refine Wq.pure (PR.pickTB rfl rfl) ?_
    refine Wq.pure (PR.moveB rfl) ?_
    refine Wq.off rfl rfl rfl ?_
    refine Wq.off rfl rfl rfl ?_
    refine Wq.pure (PR.pickTB rfl rfl) ?_
    refine Wq.pure (PR.moveB rfl) ?_
    refine Wq.off rfl rfl rfl ?_
    have hsz : m ≤ 6 → 1 <<< m.toNat ≤ 64 ∧ 0 < 1 <<< m.toNat := fun h => shl_bd (by omega)
    refine Wq.off rfl rfl rfl ?_
    refine Wq.off rfl rfl rfl ?_
    refine Wq.off rfl rfl rfl ?_
    refine Wq.off rfl rfl rfl ?_
    refine Wq.off rfl rfl rfl ?_
    refine Wq.pure (PR.pickTB rfl rfl) ?_
    refine Wq.nil (fun w32 hbel => ?_)
    replace st := st.call hbel
    clear hbel
    refine tn ?_
    refine Wc.condT rfl ?_
    refine Wc.seq ?_
    refine Wc.region rfl ?_
    refine Wl.pure (PR.assB rfl) ?_
    refine Wl.nil ?_
    refine tn ?_
    refine Wc.ret ?_
    refine tr ?_
    refine postL.tmp rfl rfl ?_
    refine RetV.of ?_ st.below
    refine congrArg Value.bool ?_
    first | exact fam_f1 (by omega) | exact fam_f5 (x := x) (by first | assumption | omega) (up1_f (k := q) (by omega) (by assumption) (by assumption)) | exact fam_w (by omega) hf (by omega) | exact fam_s (by omega) (by omega) | exact fam_f3 (by assumption) | exact fam_f4 (by assumption)

set_option maxHeartbeats 400000 in
set_option maxRecDepth 4000 in
theorem c_spec_l04Ok {bf : Nat} {of : Nat} {m : Int} {f : Nat} {w : World} (hF : RdA w bf of [.int .i8 m, .int .u64 ((f : Nat) : Int)]) (hm : -128 ≤ m ∧ m ≤ 127) (hf : f < 18446744073709551616) :
    CE Try.prog 36 [.pointer (some ⟨bf, of, none⟩)] w (RetV w (.bool (famOk m f))) := by
  refine CE.enter 68 [(0, .pointer (some ⟨bf, of, none⟩))] en_36 Try.func36 rfl rfl (Nat.le_of_ble_eq_true rfl) rfl ?_
  have st := St.start w
  refine Wc.seq ?_
  refine Wc.region rfl ?_
  refine Wl.pure (PR.assB rfl) ?_
  refine Wl.nil ?_
  refine tn ?_
  refine Wc.seq ?_
  refine Wc.seq ?_
  refine Wc.quiet hmix (by kernel_rfl) rfl ?_
  refine Wq.pure (PR.moveP rfl) ?_
  refine Wq.pure (PR.nil_ rfl) ?_
  refine Wq.pure (PR.fieldAddr tF_33_0 rfl) ?_
  refine Wq.loadC tA_22 rfl ((hF.st st).at_ (j := 0) (rfl) rfl) ?_
  refine Wq.pure (PR.conv (n := m) tI_2 rfl (by simp only [fitI]; omega) Try.underlying22) ?_
  refine Wq.callV (fun _ hbel => c_spec_l00In (n := m) (lo := 1) (hi := 6)) rfl ?_
  refine Wq.pure (PR.not_ rfl) ?_
  refine Wq.pure (PR.moveB rfl) ?_
  refine Wq.splitB (b := (!decide (1 ≤ m ∧ m ≤ 6))) rfl rfl (fun h1 => ?_) (fun h1 => ?_)
  · simp only [Bool.not_eq_true', Bool.not_eq_false', Bool.not_true, Bool.not_false, decide_eq_true_eq, decide_eq_false_iff_not] at h1
    refine Wq.pure (PR.moveP rfl) ?_
    refine Wq.on rfl rfl ?_
    refine Wq.pure (PR.nil_ rfl) ?_
    refine Wq.on rfl rfl ?_
    refine Wq.pure (PR.fieldAddr tF_33_1 rfl) ?_
    refine Wq.on rfl rfl ?_
    refine Wq.loadC tA_26 rfl ((hF.st st).at_ (j := 1) (rfl) rfl) ?_
    refine Wq.on rfl rfl ?_
    refine Wq.pure (PR.moveP rfl) ?_
    refine Wq.on rfl rfl ?_
    refine Wq.pure (PR.nil_ rfl) ?_
    refine Wq.on rfl rfl ?_
    refine Wq.pure (PR.fieldAddr tF_33_0 rfl) ?_
    refine Wq.on rfl rfl ?_
    refine Wq.loadC tA_22 rfl ((hF.st st).at_ (j := 0) (rfl) rfl) ?_
    refine Wq.on rfl rfl ?_
    refine Wq.callV (fun _ hbel => c_spec_l02Whole (m := m) (by first | assumption | omega)) rfl ?_
    refine Wq.on rfl rfl ?_
    refine Wq.pure (PR.andNot (a := f) (b := (whF (m).toNat)) rfl rfl (by decide) hf (wh_lt _)) ?_
    refine Wq.on rfl rfl ?_
    refine Wq.pure (PR.neq (a := (((bdiff f (whF (m).toNat)) : Nat) : Int)) (b := 0) rfl rfl) ?_
    refine Wq.pure (PR.pickFB rfl rfl) ?_
    refine Wq.nil (fun w2 hbel => ?_)
    replace st := st.call hbel
    clear hbel
    refine tn ?_
    refine Wc.condN (p := (((bdiff f (whF (m).toNat)) : Nat) : Int) = 0) rfl (fun h3 => ?_) (fun h3 => ?_)
    · refine Wc.seq ?_
      refine Wc.region rfl ?_
      refine Wl.pure (PR.assB rfl) ?_
      refine Wl.nil ?_
      refine tn ?_
      refine Wc.ret ?_
      refine tr ?_
      refine postL.tmp rfl rfl ?_
      refine RetV.of ?_ st.below
      refine congrArg Value.bool ?_
      first | exact fam_f1 (by omega) | exact fam_f5 (m := ((k : Nat) : Int)) (x := x) (show x < 1 <<< k by omega) (up1_f (m := k) (k := q) (by omega) (by assumption) (by assumption)) | exact fam_w (by omega) hf (by omega) | exact fam_f3 (m := ((k : Nat) : Int)) (show bitB f (1 <<< k - 1) = false by assumption) | exact fam_f4 (by assumption)
    · refine Wc.skip ?_
      refine tn ?_
      refine Wc.seq ?_
      have hwm : bdiff f (whF m.toNat) = 0 := by omega
      obtain ⟨k, rfl⟩ : ∃ k : Nat, m = ((k : Nat) : Int) := ⟨m.toNat, by omega⟩
      have hsz := shl_bd (m := k) (by omega)
      refine Wc.region rfl ?_
      refine Wl.pure (PR.moveP rfl) ?_
      refine Wl.pure (PR.nil_ rfl) ?_
      refine Wl.pure (PR.fieldAddr tF_33_0 rfl) ?_
      refine Wl.loadC tA_22 rfl ((hF.st st).at_ (j := 0) (rfl) rfl) ?_
      refine Wl.pure (PR.conv (n := ((k : Nat) : Int)) tI_52 rfl (by simp only [fitI]; omega) Try.underlying22) ?_
      refine Wl.pure (PR.shlI (a := 1) (n := k) rfl rfl (by omega) (sh62 (by omega))) ?_
      refine Wl.pure (PR.assI rfl) ?_
      refine Wl.nil ?_
      refine tn ?_
      refine Wc.seq ?_
      refine Wc.seq ?_
      refine Wc.region rfl ?_
      refine Wl.pure (PR.moveP rfl) ?_
      refine Wl.pure (PR.moveI rfl) ?_
      refine Wl.pure (PR.subN (a := (1 <<< k)) (b := 1) rfl rfl (by omega) (by simp only [fitI]; omega)) ?_
      refine Wl.callV (c_spec_l04Has (bf := bf) (of := of) (m := ((k : Nat) : Int)) (f := f) (x := ((1 <<< k) - 1)) (hF.st st) (by first | assumption | omega) hf (by first | assumption | omega)) rfl ?_
      intro w4 hbel
      replace st := st.call hbel
      clear hbel
      refine Wl.pure (PR.not_ rfl) ?_
      refine Wl.pure (PR.moveB rfl) ?_
      refine Wl.splitB (b := (!(bitB f ((1 <<< k) - 1)))) rfl rfl (fun h5 => ?_) (fun h5 => ?_)
      · simp only [Bool.not_eq_true', Bool.not_eq_false', Bool.not_true, Bool.not_false] at h5
        refine Wl.pure (PR.moveP rfl) ?_
        refine Wl.on rfl rfl ?_
        refine Wl.callV (c_spec_l04Has (bf := bf) (of := of) (m := ((k : Nat) : Int)) (f := f) (x := 0) (hF.st st) (by first | assumption | omega) hf (by first | assumption | omega)) rfl ?_
        intro w6 hbel
        replace st := st.call hbel
        clear hbel
        refine Wl.pure (PR.pickFB rfl rfl) ?_
        refine Wl.nil ?_
        refine tn ?_
        refine Wc.condB (b := bitB f 0) rfl (fun h7 => ?_) (fun h7 => ?_)
        · refine Wc.seq ?_
          refine Wc.region rfl ?_
          refine Wl.pure (PR.assB rfl) ?_
          refine Wl.nil ?_
          refine tn ?_
          refine Wc.ret ?_
          refine tr ?_
          refine postL.tmp rfl rfl ?_
          refine RetV.of ?_ st.below
          refine congrArg Value.bool ?_
          first | exact fam_f1 (by omega) | exact fam_f5 (m := ((k : Nat) : Int)) (x := x) (show x < 1 <<< k by omega) (up1_f (m := k) (k := q) (by omega) (by assumption) (by assumption)) | exact fam_w (by omega) hf (by omega) | exact fam_f3 (m := ((k : Nat) : Int)) (show bitB f (1 <<< k - 1) = false by assumption) | exact fam_f4 (by assumption)
        · refine Wc.skip ?_
          refine tn ?_
          refine Wc.seq ?_
          refine Wc.seq ?_
          refine Wc.region rfl ?_
          refine Wl.pure (PR.assI rfl) ?_
          refine Wl.nil ?_
          refine tn ?_
          refine Wc.block ?_
          refine Wc.loopF (γ := Nat) (fun g => [(0, .pointer (some ⟨bf, of, none⟩)), (3, .int .i64 ((((1 <<< k) : Nat) : Int))), (4, .int .i64 (((g : Nat) : Int)))]) (fun g w_ => St [] w w_ [] ∧ (g ≤ (1 <<< k)) ∧ (∀ j, j < g → up1 k f j = true)) (fun g => (1 <<< k) - g) ?_ ?_
          · exact ⟨0, (.cons rfl (.cons rfl (.cons rfl (.nil _)))), st, (by first | omega | (dsimp only; omega)), (fun j hj => by omega)⟩
          clear st
          rintro x w8 ⟨st, hx, hall⟩
          try dsimp only at st hx hall ⊢
          refine Wc.seq ?_
          refine Wc.seq ?_
          refine Wc.region rfl ?_
          refine Wl.pure (PR.moveI rfl) ?_
          refine Wl.pure (PR.moveI rfl) ?_
          refine Wl.pure (PR.lss (a := ((x : Nat) : Int)) (b := (((1 <<< k) : Nat) : Int)) rfl rfl) ?_
          refine Wl.nil ?_
          refine tn ?_
          refine Wc.condD (p := ((x : Nat) : Int) < (((1 <<< k) : Nat) : Int)) rfl (fun h9 => ?_) (fun h9 => ?_)
          · refine Wc.skip ?_
            refine tn ?_
            refine Wc.seq ?_
            refine Wc.block ?_
            refine Wc.seq ?_
            refine Wc.region rfl ?_
            refine Wl.pure (PR.assI rfl) ?_
            refine Wl.nil ?_
            refine tn ?_
            refine Wc.block ?_
            refine Wc.loopF (γ := Nat) (fun g => [(0, .pointer (some ⟨bf, of, none⟩)), (3, .int .i64 ((((1 <<< k) : Nat) : Int))), (4, .int .i64 (((x : Nat) : Int))), (5, .int .i64 (((g : Nat) : Int))), (41, .int .i64 (((x : Nat) : Int))), (42, .int .i64 ((((1 <<< k) : Nat) : Int))), (43, .bool (decide (((x : Nat) : Int) < (((1 <<< k) : Nat) : Int))))]) (fun g w_ => St [] w w_ [] ∧ (g ≤ k) ∧ (∀ j, j < g → bitB f x = true → bitB f (x ||| (1 <<< j)) = true)) (fun g => k - g) ?_ ?_
            · exact ⟨0, (.cons rfl (.cons rfl (.cons rfl (.cons rfl (.cons rfl (.cons rfl (.cons rfl (.nil _)))))))), st, (by first | omega | (dsimp only; omega)), (fun j hj => by omega)⟩
            clear st
            rintro q w10 ⟨st, hq, hin⟩
            try dsimp only at st hq hin ⊢
            refine Wc.seq ?_
            refine Wc.seq ?_
            refine Wc.region rfl ?_
            refine Wl.pure (PR.moveI rfl) ?_
            refine Wl.pure (PR.moveP rfl) ?_
            refine Wl.pure (PR.nil_ rfl) ?_
            refine Wl.pure (PR.fieldAddr tF_33_0 rfl) ?_
            refine Wl.loadC tA_22 rfl ((hF.st st).at_ (j := 0) (rfl) rfl) ?_
            refine Wl.pure (PR.conv (n := ((k : Nat) : Int)) tI_3 rfl (by simp only [fitI]; omega) Try.underlying22) ?_
            refine Wl.pure (PR.lss (a := ((q : Nat) : Int)) (b := ((k : Nat) : Int)) rfl rfl) ?_
            refine Wl.nil ?_
            refine tn ?_
            refine Wc.condD (p := ((q : Nat) : Int) < ((k : Nat) : Int)) rfl (fun h11 => ?_) (fun h11 => ?_)
            · refine Wc.skip ?_
              refine tn ?_
              refine Wc.seq ?_
              refine Wc.block ?_
              refine Wc.seq ?_
              have hor := or_64 (x := x) (k := q) (by omega) (by omega)
              have hq6 := shl_bd6 (m := q) (by omega)
              refine Wc.region rfl ?_
              refine Wl.pure (PR.moveP rfl) ?_
              refine Wl.pure (PR.moveI rfl) ?_
              refine Wl.callV (c_spec_l04Has (bf := bf) (of := of) (m := ((k : Nat) : Int)) (f := f) (x := x) (hF.st st) (by first | assumption | omega) hf (by first | assumption | omega)) rfl ?_
              intro w12 hbel
              replace st := st.call hbel
              clear hbel
              refine Wl.pure (PR.moveB rfl) ?_
              refine Wl.splitB (b := (bitB f x)) rfl rfl (fun h13 => ?_) (fun h13 => ?_)
              · try simp only [Bool.not_true, Bool.not_false] at h13
                refine Wl.pure (PR.moveP rfl) ?_
                refine Wl.on rfl rfl ?_
                refine Wl.pure (PR.moveI rfl) ?_
                refine Wl.on rfl rfl ?_
                refine Wl.pure (PR.moveI rfl) ?_
                refine Wl.on rfl rfl ?_
                refine Wl.pure (PR.conv (n := ((q : Nat) : Int)) tI_52 rfl (by simp only [fitI]; omega) Try.underlying3) ?_
                refine Wl.on rfl rfl ?_
                refine Wl.pure (PR.shlI (a := 1) (n := q) rfl rfl (by omega) (sh62 (by omega))) ?_
                refine Wl.on rfl rfl ?_
                refine Wl.pure (PR.orI (a := x) (b := (1 <<< q)) rfl rfl (by first | assumption | omega) (by first | assumption | omega)) ?_
                refine Wl.on rfl rfl ?_
                refine Wl.callV (c_spec_l04Has (bf := bf) (of := of) (m := ((k : Nat) : Int)) (f := f) (x := (x ||| (1 <<< q))) (hF.st st) (by first | assumption | omega) hf (by first | assumption | omega)) rfl ?_
                intro w14 hbel
                replace st := st.call hbel
                clear hbel
                refine Wl.on rfl rfl ?_
                refine Wl.pure (PR.not_ rfl) ?_
                refine Wl.pure (PR.pickTB rfl rfl) ?_
                refine Wl.nil ?_
                refine tn ?_
                refine Wc.condNB (b := bitB f (x ||| (1 <<< q))) rfl (fun h15 => ?_) (fun h15 => ?_)
                · refine Wc.seq ?_
                  refine Wc.region rfl ?_
                  refine Wl.pure (PR.assB rfl) ?_
                  refine Wl.nil ?_
                  refine tn ?_
                  refine Wc.ret ?_
                  refine br ?_
                  refine tr ?_
                  refine tr ?_
                  refine br ?_
                  refine br ?_
                  refine tr ?_
                  refine tr ?_
                  refine br ?_
                  refine tr ?_
                  refine postL.tmp rfl rfl ?_
                  refine RetV.of ?_ st.below
                  refine congrArg Value.bool ?_
                  first | exact fam_f1 (by omega) | exact fam_f5 (m := ((k : Nat) : Int)) (x := x) (show x < 1 <<< k by omega) (up1_f (m := k) (k := q) (by omega) (by assumption) (by assumption)) | exact fam_w (by omega) hf (by omega) | exact fam_f3 (m := ((k : Nat) : Int)) (show bitB f (1 <<< k - 1) = false by assumption) | exact fam_f4 (by assumption)
                · refine Wc.skip ?_
                  refine bn ?_
                  refine tn ?_
                  refine Wc.region rfl ?_
                  refine Wl.pure (PR.moveI rfl) ?_
                  refine Wl.pure (PR.add (a := ((q : Nat) : Int)) (b := 1) rfl rfl (by simp only [fitI]; omega)) ?_
                  refine Wl.pure (PR.assI rfl) ?_
                  refine Wl.nil ?_
                  refine tn ?_
                  exact ⟨q + 1, (.cons rfl (.cons rfl (.cons rfl (.cons rfl (.cons rfl (.cons rfl (.cons rfl (.nil _)))))))), ⟨st, (by first | omega | (dsimp only; omega)), (up_snoc hin (fun hb9 => by first | assumption | exact absurd hb9 (by simp [*])))⟩, (by first | omega | (dsimp only; omega))⟩
              · try simp only [Bool.not_true, Bool.not_false] at h13
                refine Wl.off rfl rfl rfl ?_
                refine Wl.off rfl rfl rfl ?_
                refine Wl.off rfl rfl rfl ?_
                refine Wl.off rfl rfl rfl ?_
                refine Wl.off rfl rfl rfl ?_
                refine Wl.off rfl rfl rfl ?_
                refine Wl.off rfl rfl rfl ?_
                refine Wl.pure (PR.pickFB rfl rfl) ?_
                refine Wl.nil ?_
                refine tn ?_
                refine Wc.condF rfl ?_
                refine Wc.skip ?_
                refine bn ?_
                refine tn ?_
                refine Wc.region rfl ?_
                refine Wl.pure (PR.moveI rfl) ?_
                refine Wl.pure (PR.add (a := ((q : Nat) : Int)) (b := 1) rfl rfl (by simp only [fitI]; omega)) ?_
                refine Wl.pure (PR.assI rfl) ?_
                refine Wl.nil ?_
                refine tn ?_
                exact ⟨q + 1, (.cons rfl (.cons rfl (.cons rfl (.cons rfl (.cons rfl (.cons rfl (.cons rfl (.nil _)))))))), ⟨st, (by first | omega | (dsimp only; omega)), (up_snoc hin (fun hb9 => by first | assumption | exact absurd hb9 (by simp [*])))⟩, (by first | omega | (dsimp only; omega))⟩
            · refine Wc.exit ?_
              refine tx ?_
              refine tx ?_
              refine bh ?_
              refine bn ?_
              refine tn ?_
              refine Wc.region rfl ?_
              refine Wl.pure (PR.moveI rfl) ?_
              refine Wl.pure (PR.add (a := ((x : Nat) : Int)) (b := 1) rfl rfl (by simp only [fitI]; omega)) ?_
              refine Wl.pure (PR.assI rfl) ?_
              refine Wl.nil ?_
              refine tn ?_
              exact ⟨x + 1, (.cons rfl (.cons rfl (.cons rfl (.nil _)))), ⟨st, (by first | omega | (dsimp only; omega)), (all_snoc hall (up1_t (fun j hj => hin j (by omega))))⟩, (by first | omega | (dsimp only; omega))⟩
          · refine Wc.exit ?_
            refine tx ?_
            refine tx ?_
            refine bh ?_
            refine tn ?_
            refine Wc.seq ?_
            refine Wc.region rfl ?_
            refine Wl.pure (PR.assB rfl) ?_
            refine Wl.nil ?_
            refine tn ?_
            refine Wc.ret ?_
            refine postL.tmp rfl rfl ?_
            refine RetV.of ?_ st.below
            refine congrArg Value.bool ?_
            exact fam_t (m := ((k : Nat) : Int)) (by omega) ((wh_iff (m := k) (by omega) hf).1 hwm) (show bitB f (1 <<< k - 1) = true by assumption) (by assumption) (show ∀ x, x < 1 <<< k → up1 k f x = true from fun j hj => hall j (by omega))
      · simp only [Bool.not_eq_true', Bool.not_eq_false', Bool.not_true, Bool.not_false] at h5
        refine Wl.off rfl rfl rfl ?_
        refine Wl.pure (PR.pickTB rfl rfl) ?_
        refine Wl.nil ?_
        refine tn ?_
        refine Wc.condT rfl ?_
        refine Wc.seq ?_
        refine Wc.region rfl ?_
        refine Wl.pure (PR.assB rfl) ?_
        refine Wl.nil ?_
        refine tn ?_
        refine Wc.ret ?_
        refine tr ?_
        refine postL.tmp rfl rfl ?_
        refine RetV.of ?_ st.below
        refine congrArg Value.bool ?_
        first | exact fam_f1 (by omega) | exact fam_f5 (m := ((k : Nat) : Int)) (x := x) (show x < 1 <<< k by omega) (up1_f (m := k) (k := q) (by omega) (by assumption) (by assumption)) | exact fam_w (by omega) hf (by omega) | exact fam_f3 (m := ((k : Nat) : Int)) (show bitB f (1 <<< k - 1) = false by assumption) | exact fam_f4 (by assumption)
  · simp only [Bool.not_eq_true', Bool.not_eq_false', Bool.not_true, Bool.not_false, decide_eq_true_eq, decide_eq_false_iff_not] at h1
    refine Wq.off rfl rfl rfl ?_
    refine Wq.off rfl rfl rfl ?_
    refine Wq.off rfl rfl rfl ?_
    refine Wq.off rfl rfl rfl ?_
    refine Wq.off rfl rfl rfl ?_
    refine Wq.off rfl rfl rfl ?_
    refine Wq.off rfl rfl rfl ?_
    refine Wq.off rfl rfl rfl ?_
    refine Wq.off rfl rfl rfl ?_
    refine Wq.off rfl rfl rfl ?_
    refine Wq.pure (PR.pickTB rfl rfl) ?_
    refine Wq.nil (fun w16 hbel => ?_)
    replace st := st.call hbel
    clear hbel
    refine tn ?_
    refine Wc.condT rfl ?_
    refine Wc.seq ?_
    refine Wc.region rfl ?_
    refine Wl.pure (PR.assB rfl) ?_
    refine Wl.nil ?_
    refine tn ?_
    refine Wc.ret ?_
    refine tr ?_
    refine postL.tmp rfl rfl ?_
    refine RetV.of ?_ st.below
    refine congrArg Value.bool ?_
    first | exact fam_f1 (by omega) | exact fam_f5 (m := ((k : Nat) : Int)) (x := x) (show x < 1 <<< k by omega) (up1_f (m := k) (k := q) (by omega) (by assumption) (by assumption)) | exact fam_w (by omega) hf (by omega) | exact fam_f3 (m := ((k : Nat) : Int)) (show bitB f (1 <<< k - 1) = false by assumption) | exact fam_f4 (by assumption)

end Go.Proofs.Ytdlmbdclbnlmlaa
