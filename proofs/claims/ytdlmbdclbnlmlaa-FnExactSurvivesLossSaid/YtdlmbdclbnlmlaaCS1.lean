/-
  Contracts of functions, printed by a program of ours.
-/
import Derived.Test.YtdlmbdclbnlmlaaSch
import Derived.Test.YtdlmbdclbnlmlaaDefs
namespace Go.Proofs.Ytdlmbdclbnlmlaa
open Go.RowKit
set_option linter.unusedVariables false
set_option linter.unusedSimpArgs false

set_option maxHeartbeats 400000 in
set_option maxRecDepth 4000 in
theorem c_impl_within {n : Int} {lo : Int} {hi : Int} {w : World} :
    CE Try.prog 44 [.int .i64 (n), .int .i64 (lo), .int .i64 (hi)] w (RetV w (.bool (decide (lo ≤ n ∧ n ≤ hi)))) := by
  refine CE.enter 15 [(0, .int .i64 (n)), (1, .int .i64 (lo)), (2, .int .i64 (hi))] en_44 Try.func44 rfl rfl (Nat.le_of_ble_eq_true rfl) rfl ?_
  have st := St.start w
  refine Wc.seq ?_
  refine Wc.region rfl ?_
  refine Wl.pure (PR.assB rfl) ?_
  refine Wl.nil ?_
  refine tn ?_
  refine Wc.seq ?_
  refine Wc.region rfl ?_
  refine Wl.pure (PR.moveI rfl) ?_
  refine Wl.pure (PR.moveI rfl) ?_
  refine Wl.pure (PR.geq (a := n) (b := lo) rfl rfl) ?_
  refine Wl.pure (PR.moveB rfl) ?_
  refine Wl.splitT (q := lo ≤ n) rfl rfl (fun h1 => ?_) (fun h1 => ?_)
  · refine Wl.pure (PR.moveI rfl) ?_
    refine Wl.on rfl rfl ?_
    refine Wl.pure (PR.moveI rfl) ?_
    refine Wl.on rfl rfl ?_
    refine Wl.pure (PR.leq (a := n) (b := hi) rfl rfl) ?_
    refine Wl.pure (PR.pickTB rfl rfl) ?_
    refine Wl.pure (PR.assB rfl) ?_
    refine Wl.nil ?_
    refine tn ?_
    refine Wc.ret ?_
    refine postL.tmp rfl rfl ?_
    refine RetV.of ?_ st.below
    refine congrArg Value.bool ?_
    first | rfl | (exfalso; omega) | (simp only [*, decide_true, decide_false, Bool.not_true, Bool.not_false]; done) | (simp; omega) | (rw [Bool.eq_iff_iff]; simp; omega) | simp_all
  · refine Wl.off rfl rfl rfl ?_
    refine Wl.off rfl rfl rfl ?_
    refine Wl.pure (PR.pickFB rfl rfl) ?_
    refine Wl.pure (PR.assB rfl) ?_
    refine Wl.nil ?_
    refine tn ?_
    refine Wc.ret ?_
    refine postL.tmp rfl rfl ?_
    refine RetV.of ?_ st.below
    refine congrArg Value.bool ?_
    first | rfl | (exfalso; omega) | (simp only [*, decide_true, decide_false, Bool.not_true, Bool.not_false]; done) | (simp; omega) | (rw [Bool.eq_iff_iff]; simp; omega) | simp_all

set_option maxHeartbeats 400000 in
set_option maxRecDepth 4000 in
theorem c_spec_l00In {n : Int} {lo : Int} {hi : Int} {w : World} :
    CE Try.prog 40 [.int .i64 (n), .int .i64 (lo), .int .i64 (hi)] w (RetV w (.bool (decide (lo ≤ n ∧ n ≤ hi)))) := by
  refine CE.enter 15 [(0, .int .i64 (n)), (1, .int .i64 (lo)), (2, .int .i64 (hi))] en_40 Try.func40 rfl rfl (Nat.le_of_ble_eq_true rfl) rfl ?_
  have st := St.start w
  refine Wc.seq ?_
  refine Wc.region rfl ?_
  refine Wl.pure (PR.assB rfl) ?_
  refine Wl.nil ?_
  refine tn ?_
  refine Wc.seq ?_
  refine Wc.region rfl ?_
  refine Wl.pure (PR.moveI rfl) ?_
  refine Wl.pure (PR.moveI rfl) ?_
  refine Wl.pure (PR.geq (a := n) (b := lo) rfl rfl) ?_
  refine Wl.pure (PR.moveB rfl) ?_
  refine Wl.splitT (q := lo ≤ n) rfl rfl (fun h1 => ?_) (fun h1 => ?_)
  · refine Wl.pure (PR.moveI rfl) ?_
    refine Wl.on rfl rfl ?_
    refine Wl.pure (PR.moveI rfl) ?_
    refine Wl.on rfl rfl ?_
    refine Wl.pure (PR.leq (a := n) (b := hi) rfl rfl) ?_
    refine Wl.pure (PR.pickTB rfl rfl) ?_
    refine Wl.pure (PR.assB rfl) ?_
    refine Wl.nil ?_
    refine tn ?_
    refine Wc.ret ?_
    refine postL.tmp rfl rfl ?_
    refine RetV.of ?_ st.below
    refine congrArg Value.bool ?_
    first | rfl | (exfalso; omega) | (simp only [*, decide_true, decide_false, Bool.not_true, Bool.not_false]; done) | (simp; omega) | (rw [Bool.eq_iff_iff]; simp; omega) | simp_all
  · refine Wl.off rfl rfl rfl ?_
    refine Wl.off rfl rfl rfl ?_
    refine Wl.pure (PR.pickFB rfl rfl) ?_
    refine Wl.pure (PR.assB rfl) ?_
    refine Wl.nil ?_
    refine tn ?_
    refine Wc.ret ?_
    refine postL.tmp rfl rfl ?_
    refine RetV.of ?_ st.below
    refine congrArg Value.bool ?_
    first | rfl | (exfalso; omega) | (simp only [*, decide_true, decide_false, Bool.not_true, Bool.not_false]; done) | (simp; omega) | (rw [Bool.eq_iff_iff]; simp; omega) | simp_all

set_option maxHeartbeats 400000 in
set_option maxRecDepth 4000 in
theorem c_impl_isParts {n : Int} {w : World} :
    CE Try.prog 59 [.int .i64 (n)] w (RetV w (.bool (decide (1 ≤ n ∧ n ≤ 8)))) := by
  refine CE.enter 5 [(0, .int .i64 (n))] en_59 Try.func59 rfl rfl (Nat.le_of_ble_eq_true rfl) rfl ?_
  have st := St.start w
  refine Wc.seq ?_
  refine Wc.region rfl ?_
  refine Wl.pure (PR.assB rfl) ?_
  refine Wl.nil ?_
  refine tn ?_
  refine Wc.seq ?_
  refine Wc.region rfl ?_
  refine Wl.pure (PR.moveI rfl) ?_
  refine Wl.callV (c_impl_within (n := n) (lo := 1) (hi := 8)) rfl ?_
  intro w1 hbel
  replace st := st.call hbel
  clear hbel
  refine Wl.pure (PR.assB rfl) ?_
  refine Wl.nil ?_
  refine tn ?_
  refine Wc.ret ?_
  refine postL.tmp rfl rfl ?_
  exact RetV.of rfl st.below

set_option maxHeartbeats 400000 in
set_option maxRecDepth 4000 in
theorem c_spec_l01Parts {n : Int} {w : World} :
    CE Try.prog 57 [.int .i64 (n)] w (RetV w (.bool (decide (1 ≤ n ∧ n ≤ 8)))) := by
  refine CE.enter 5 [(0, .int .i64 (n))] en_57 Try.func57 rfl rfl (Nat.le_of_ble_eq_true rfl) rfl ?_
  have st := St.start w
  refine Wc.seq ?_
  refine Wc.region rfl ?_
  refine Wl.pure (PR.assB rfl) ?_
  refine Wl.nil ?_
  refine tn ?_
  refine Wc.seq ?_
  refine Wc.region rfl ?_
  refine Wl.pure (PR.moveI rfl) ?_
  refine Wl.callV (c_spec_l00In (n := n) (lo := 1) (hi := 8)) rfl ?_
  intro w1 hbel
  replace st := st.call hbel
  clear hbel
  refine Wl.pure (PR.assB rfl) ?_
  refine Wl.nil ?_
  refine tn ?_
  refine Wc.ret ?_
  refine postL.tmp rfl rfl ?_
  exact RetV.of rfl st.below

set_option maxHeartbeats 400000 in
set_option maxRecDepth 4000 in
theorem c_impl_mask {p : Nat} {w : World} (hp : p ≤ 8) :
    CE Try.prog 60 [.int .i8 (((p : Nat) : Int))] w (RetV w (.int .u8 ((((2 ^ p - 1) : Nat) : Int)))) := by
  refine CE.enter 6 [(0, .int .i8 (((p : Nat) : Int)))] en_60 Try.func60 rfl rfl (Nat.le_of_ble_eq_true rfl) rfl ?_
  have st := St.start w
  refine Wc.seq ?_
  refine Wc.region rfl ?_
  refine Wl.pure (PR.assI rfl) ?_
  refine Wl.nil ?_
  refine tn ?_
  refine Wc.seq ?_
  refine Wc.region rfl ?_
  refine Wl.pure (PR.moveI rfl) ?_
  refine Wl.pure (PR.shl (a := 1) (n := p) rfl rfl (by decide)) ?_
  refine Wl.pure (PR.subU (a := ((1 <<< p) % 256)) (b := 1) rfl rfl (by decide) (by decide)) ?_
  refine Wl.pure (PR.assI rfl) ?_
  refine Wl.nil ?_
  refine tn ?_
  refine Wc.ret ?_
  refine postL.tmp rfl rfl ?_
  refine RetV.of ?_ st.below
  refine congrArg (fun x : Nat => Value.int .u8 (x : Int)) ?_
  exact mask_eq p hp

set_option maxHeartbeats 400000 in
set_option maxRecDepth 4000 in
theorem c_impl_ValidScheme {s : Int} {p : Int} {a : Nat → Nat} {b : Nat → Nat} {w : World} (hs : -128 ≤ s ∧ s ≤ 127) (hp : -128 ≤ p ∧ p ≤ 127) (ha : ∀ k, a k < 256) (hb : ∀ k, b k < 256) :
    CE Try.prog 42 [.agg (schV (s) (p) (a) (b)).toArray] w (RetV w (.bool (schOk s p a b))) := by
  refine CE.enter 47 [(0, .agg (schV (s) (p) (a) (b)).toArray)] en_42 Try.func42 rfl rfl (Nat.le_of_ble_eq_true rfl) rfl ?_
  have st := St.start w
  refine Wc.seq ?_
  refine Wc.region rfl ?_
  refine Wl.boxA st rfl ?_
  clear st
  intro b1 w1 st
  refine Wl.pure (PR.assB rfl) ?_
  refine Wl.nil ?_
  refine tn ?_
  refine Wc.seq ?_
  refine Wc.seq ?_
  refine Wc.region rfl ?_
  refine Wl.pure (PR.fieldAddr tF_31_0 rfl) ?_
  refine Wl.load (i := 0) st tA_22 rfl rfl (rfl) ?_
  refine Wl.pure (PR.conv (n := s) tI_2 rfl (by simp only [fitI]; omega) Try.underlying22) ?_
  refine Wl.callV (c_impl_within (n := s) (lo := 1) (hi := 6)) rfl ?_
  intro w2 hbel
  replace st := st.call hbel
  clear hbel
  refine Wl.pure (PR.not_ rfl) ?_
  refine Wl.pure (PR.moveB rfl) ?_
  refine Wl.splitB (b := (!decide (1 ≤ s ∧ s ≤ 6))) rfl rfl (fun h3 => ?_) (fun h3 => ?_)
  · simp only [Bool.not_eq_true', Bool.not_eq_false', Bool.not_true, Bool.not_false, decide_eq_true_eq, decide_eq_false_iff_not] at h3
    refine Wl.pure (PR.fieldAddr tF_31_1 rfl) ?_
    refine Wl.on rfl rfl ?_
    refine Wl.load (i := 0) st tA_22 rfl rfl (rfl) ?_
    refine Wl.on rfl rfl ?_
    refine Wl.pure (PR.conv (n := p) tI_2 rfl (by simp only [fitI]; omega) Try.underlying22) ?_
    refine Wl.on rfl rfl ?_
    refine Wl.callV (c_impl_isParts (n := p)) rfl ?_
    intro w4 hbel
    replace st := st.call hbel
    clear hbel
    refine Wl.on rfl rfl ?_
    refine Wl.pure (PR.not_ rfl) ?_
    refine Wl.pure (PR.pickFB rfl rfl) ?_
    refine Wl.nil ?_
    refine tn ?_
    refine Wc.condN (p := 1 ≤ p ∧ p ≤ 8) rfl (fun h5 => ?_) (fun h5 => ?_)
    · refine Wc.seq ?_
      refine Wc.region rfl ?_
      refine Wl.pure (PR.assB rfl) ?_
      refine Wl.nil ?_
      refine tn ?_
      refine Wc.ret ?_
      refine tr ?_
      refine postL.tmp rfl rfl ?_
      refine RetV.of ?_ st.below
      refine congrArg Value.bool ?_
      first | exact schOk_f3 (k := k) (by omega) hy | exact schOk_f1 (by assumption) | exact schOk_f2 (by assumption) | exact schOk_t (by assumption) (by assumption) (fun j hj => hg j (by omega))
    · refine Wc.skip ?_
      refine tn ?_
      refine Wc.seq ?_
      refine Wc.seq ?_
      obtain ⟨n, rfl⟩ : ∃ n : Nat, s = ((n : Nat) : Int) := ⟨s.toNat, by omega⟩
      obtain ⟨m, rfl⟩ : ∃ m : Nat, p = ((m : Nat) : Int) := ⟨p.toNat, by omega⟩
      refine Wc.region rfl ?_
      refine Wl.pure (PR.moveI rfl) ?_
      refine Wl.nil ?_
      refine tn ?_
      refine Wc.block ?_
      refine Wc.loopF (γ := Nat) (fun g => [(1, .pointer (some ⟨b1, 0, none⟩)), (17, .int .i64 (((g : Nat) : Int)))]) (fun g w_ => St [] w w_ [(b1, schV ((n : Nat) : Int) ((m : Nat) : Int) (a) (b), 31)] ∧ (g ≤ 6) ∧ (∀ j, j < g → rowOk n m (a j ||| b j) j)) (fun g => 6 - g) ?_ ?_
      · exact ⟨0, (.cons rfl (.cons rfl (.nil _))), st, (by first | omega | (dsimp only; omega)), (fun j hj => by omega)⟩
      clear st
      rintro k w6 ⟨st, hk, hg⟩
      try dsimp only at st hk hg ⊢
      refine Wc.seq ?_
      refine Wc.region rfl ?_
      refine Wl.pure (PR.lss (a := ((k : Nat) : Int)) (b := 6) rfl rfl) ?_
      refine Wl.nil ?_
      refine tn ?_
      refine Wc.seq ?_
      refine Wc.condD (p := ((k : Nat) : Int) < 6) rfl (fun h7 => ?_) (fun h7 => ?_)
      · refine Wc.skip ?_
        refine tn ?_
        refine Wc.seq ?_
        refine Wc.block ?_
        refine Wc.seq ?_
        refine Wc.region rfl ?_
        refine Wl.pure (PR.moveI rfl) ?_
        refine Wl.pure (PR.assI rfl) ?_
        refine Wl.nil ?_
        refine tn ?_
        refine Wc.seq ?_
        refine Wc.quiet hmix (by kernel_rfl) rfl ?_
        refine Wq.pure (PR.moveI rfl) ?_
        refine Wq.pure (PR.fieldAddr tF_31_2 rfl) ?_
        refine Wq.pure (PR.idxAddrA1 (i := k) tE_23 rfl rfl (by omega)) ?_
        refine Wq.load (i := 0) st tA_5 rfl rfl (schV_get_a (by omega)) ?_
        refine Wq.pure (PR.moveI rfl) ?_
        refine Wq.pure (PR.fieldAddr tF_31_3 rfl) ?_
        refine Wq.pure (PR.idxAddrA1 (i := k) tE_23 rfl rfl (by omega)) ?_
        refine Wq.load (i := 0) st tA_5 rfl rfl (schV_get_b (by omega)) ?_
        refine Wq.pure (PR.or (a := a (k)) (b := b (k)) rfl rfl (by decide) (ha (k)) (hb (k))) ?_
        refine Wq.pure (PR.assI rfl) ?_
        refine Wq.nil (fun w8 hbel => ?_)
        replace st := st.call hbel
        clear hbel
        refine tn ?_
        refine Wc.seq ?_
        refine Wc.region rfl ?_
        refine Wl.pure (PR.moveI rfl) ?_
        refine Wl.pure (PR.fieldAddr tF_31_1 rfl) ?_
        refine Wl.load (i := 0) st tA_22 rfl rfl (rfl) ?_
        refine Wl.callV (c_impl_mask (p := m) (by first | assumption | omega)) rfl ?_
        intro w9 hbel
        replace st := st.call hbel
        clear hbel
        refine Wl.pure (PR.andNot (a := ((a (k)) ||| (b (k)))) (b := (2 ^ m - 1)) rfl rfl (by decide) (or_lt_u8 (ha (k)) (hb (k))) (mask_lt (p := m) (by omega))) ?_
        refine Wl.pure (PR.neq (a := (((bdiff ((a (k)) ||| (b (k))) (2 ^ m - 1)) : Nat) : Int)) (b := 0) rfl rfl) ?_
        refine Wl.pure (PR.moveB rfl) ?_
        refine Wl.splitB (b := (!decide ((((bdiff ((a (k)) ||| (b (k))) (2 ^ m - 1)) : Nat) : Int) = 0))) rfl rfl (fun h10 => ?_) (fun h10 => ?_)
        · simp only [Bool.not_eq_true', Bool.not_eq_false', Bool.not_true, Bool.not_false, decide_eq_true_eq, decide_eq_false_iff_not] at h10
          refine Wl.pure (PR.moveI rfl) ?_
          refine Wl.on rfl rfl ?_
          refine Wl.pure (PR.fieldAddr tF_31_0 rfl) ?_
          refine Wl.on rfl rfl ?_
          refine Wl.load (i := 0) st tA_22 rfl rfl (rfl) ?_
          refine Wl.on rfl rfl ?_
          refine Wl.pure (PR.conv (n := ((n : Nat) : Int)) tI_3 rfl (by simp only [fitI]; omega) Try.underlying22) ?_
          refine Wl.on rfl rfl ?_
          refine Wl.pure (PR.geq (a := ((k : Nat) : Int)) (b := ((n : Nat) : Int)) rfl rfl) ?_
          refine Wl.on rfl rfl ?_
          refine Wl.pure (PR.moveB rfl) ?_
          refine Wl.splitT (q := ((n : Nat) : Int) ≤ ((k : Nat) : Int)) rfl rfl (fun h11 => ?_) (fun h11 => ?_)
          · refine Wl.pure (PR.moveI rfl) ?_
            refine Wl.on rfl rfl ?_
            refine Wl.pure (PR.neq (a := ((((a (k)) ||| (b (k))) : Nat) : Int)) (b := 0) rfl rfl) ?_
            refine Wl.on rfl rfl ?_
            refine Wl.pure (PR.pickTB rfl rfl) ?_
            refine Wl.pure (PR.pickFB rfl rfl) ?_
            refine Wl.nil ?_
            refine tn ?_
            refine Wc.condN (p := ((((a (k)) ||| (b (k))) : Nat) : Int) = 0) rfl (fun h12 => ?_) (fun h12 => ?_)
            · refine Wc.seq ?_
              have hy : ¬ rowOk n m (a k ||| b k) k := by
                intro q
                first | exact absurd ((bdiff_mask (or_lt_u8 (ha k) (hb k)) (by omega)).2 q.1) (by omega) | exact absurd (shr_zero.2 q.1) (by omega) | exact absurd (q.2 (by omega)) (by omega)
              refine Wc.region rfl ?_
              refine Wl.pure (PR.assB rfl) ?_
              refine Wl.nil ?_
              refine tn ?_
              refine Wc.ret ?_
              refine br ?_
              refine tr ?_
              refine tr ?_
              refine br ?_
              refine tr ?_
              refine postL.tmp rfl rfl ?_
              refine RetV.of ?_ st.below
              refine congrArg Value.bool ?_
              first | exact schOk_f3 (k := k) (by omega) hy | exact schOk_f1 (by assumption) | exact schOk_f2 (by assumption) | exact schOk_t (by assumption) (by assumption) (fun j hj => hg j (by omega))
            · refine Wc.skip ?_
              refine bn ?_
              refine tn ?_
              refine Wc.region rfl ?_
              refine Wl.pure (PR.add (a := ((k : Nat) : Int)) (b := 1) rfl rfl (by simp only [fitI]; omega)) ?_
              refine Wl.pure (PR.moveI rfl) ?_
              refine Wl.nil ?_
              refine tn ?_
              have hy : rowOk n m (a k ||| b k) k := ⟨by first | exact (bdiff_mask (or_lt_u8 (ha k) (hb k)) (by omega)).1 (by omega) | exact shr_zero.1 (by omega), fun q => by omega⟩
              exact ⟨k + 1, (.cons rfl (.cons rfl (.nil _))), ⟨st, (by first | omega | (dsimp only; omega)), (all_snoc hg hy)⟩, (by first | omega | (dsimp only; omega))⟩
          · refine Wl.off rfl rfl rfl ?_
            refine Wl.on rfl rfl ?_
            refine Wl.pure (PR.pickFB rfl rfl) ?_
            refine Wl.pure (PR.pickFB rfl rfl) ?_
            refine Wl.nil ?_
            refine tn ?_
            refine Wc.condF rfl ?_
            refine Wc.skip ?_
            refine bn ?_
            refine tn ?_
            refine Wc.region rfl ?_
            refine Wl.pure (PR.add (a := ((k : Nat) : Int)) (b := 1) rfl rfl (by simp only [fitI]; omega)) ?_
            refine Wl.pure (PR.moveI rfl) ?_
            refine Wl.nil ?_
            refine tn ?_
            have hy : rowOk n m (a k ||| b k) k := ⟨by first | exact (bdiff_mask (or_lt_u8 (ha k) (hb k)) (by omega)).1 (by omega) | exact shr_zero.1 (by omega), fun q => by omega⟩
            exact ⟨k + 1, (.cons rfl (.cons rfl (.nil _))), ⟨st, (by first | omega | (dsimp only; omega)), (all_snoc hg hy)⟩, (by first | omega | (dsimp only; omega))⟩
        · simp only [Bool.not_eq_true', Bool.not_eq_false', Bool.not_true, Bool.not_false, decide_eq_true_eq, decide_eq_false_iff_not] at h10
          refine Wl.off rfl rfl rfl ?_
          refine Wl.off rfl rfl rfl ?_
          refine Wl.off rfl rfl rfl ?_
          refine Wl.off rfl rfl rfl ?_
          refine Wl.off rfl rfl rfl ?_
          refine Wl.offU rfl rfl ?_
          refine Wl.offU rfl rfl ?_
          refine Wl.off rfl rfl rfl ?_
          refine Wl.pure (PR.pickTB rfl rfl) ?_
          refine Wl.nil ?_
          refine tn ?_
          refine Wc.condT rfl ?_
          refine Wc.seq ?_
          have hy : ¬ rowOk n m (a k ||| b k) k := by
            intro q
            first | exact absurd ((bdiff_mask (or_lt_u8 (ha k) (hb k)) (by omega)).2 q.1) (by omega) | exact absurd (shr_zero.2 q.1) (by omega) | exact absurd (q.2 (by omega)) (by omega)
          refine Wc.region rfl ?_
          refine Wl.pure (PR.assB rfl) ?_
          refine Wl.nil ?_
          refine tn ?_
          refine Wc.ret ?_
          refine br ?_
          refine tr ?_
          refine tr ?_
          refine br ?_
          refine tr ?_
          refine postL.tmp rfl rfl ?_
          refine RetV.of ?_ st.below
          refine congrArg Value.bool ?_
          first | exact schOk_f3 (k := k) (by omega) hy | exact schOk_f1 (by assumption) | exact schOk_f2 (by assumption) | exact schOk_t (by assumption) (by assumption) (fun j hj => hg j (by omega))
      · refine Wc.exit ?_
        refine tx ?_
        refine tx ?_
        refine bh ?_
        refine tn ?_
        refine Wc.seq ?_
        refine Wc.region rfl ?_
        refine Wl.pure (PR.assB rfl) ?_
        refine Wl.nil ?_
        refine tn ?_
        refine Wc.ret ?_
        refine postL.tmp rfl rfl ?_
        refine RetV.of ?_ st.below
        refine congrArg Value.bool ?_
        first | exact schOk_f3 (k := k) (by omega) hy | exact schOk_f1 (by assumption) | exact schOk_f2 (by assumption) | exact schOk_t (by assumption) (by assumption) (fun j hj => hg j (by omega))
  · simp only [Bool.not_eq_true', Bool.not_eq_false', Bool.not_true, Bool.not_false, decide_eq_true_eq, decide_eq_false_iff_not] at h3
    refine Wl.off rfl rfl rfl ?_
    refine Wl.off rfl rfl rfl ?_
    refine Wl.off rfl rfl rfl ?_
    refine Wl.off rfl rfl rfl ?_
    refine Wl.pure (PR.pickTB rfl rfl) ?_
    refine Wl.nil ?_
    refine tn ?_
    refine Wc.condT rfl ?_
    refine Wc.seq ?_
    refine Wc.region rfl ?_
    refine Wl.pure (PR.assB rfl) ?_
    refine Wl.nil ?_
    refine tn ?_
    refine Wc.ret ?_
    refine tr ?_
    refine postL.tmp rfl rfl ?_
    refine RetV.of ?_ st.below
    refine congrArg Value.bool ?_
    first | exact schOk_f3 (k := k) (by omega) hy | exact schOk_f1 (by assumption) | exact schOk_f2 (by assumption) | exact schOk_t (by assumption) (by assumption) (fun j hj => hg j (by omega))

set_option maxHeartbeats 400000 in
set_option maxRecDepth 4000 in
theorem c_spec_l02Ok {bk : Nat} {o : Nat} {s : Int} {p : Int} {a : Nat → Nat} {b : Nat → Nat} {w : World} (hR : RdA w bk o (schV s p a b)) (hs : -128 ≤ s ∧ s ≤ 127) (hp : -128 ≤ p ∧ p ≤ 127) (ha : ∀ k, a k < 256) (hb : ∀ k, b k < 256) :
    CE Try.prog 35 [.pointer (some ⟨bk, o, none⟩)] w (RetV w (.bool (schOk s p a b))) := by
  refine CE.enter 59 [(0, .pointer (some ⟨bk, o, none⟩))] en_35 Try.func35 rfl rfl (Nat.le_of_ble_eq_true rfl) rfl ?_
  have st := St.start w
  refine Wc.seq ?_
  refine Wc.region rfl ?_
  refine Wl.pure (PR.assB rfl) ?_
  refine Wl.nil ?_
  refine tn ?_
  refine Wc.seq ?_
  refine Wc.seq ?_
  refine Wc.region rfl ?_
  refine Wl.pure (PR.moveP rfl) ?_
  refine Wl.pure (PR.nil_ rfl) ?_
  refine Wl.pure (PR.fieldAddr tF_31_0 rfl) ?_
  refine Wl.loadC tA_22 rfl ((hR.st st).at_ (j := 0) (rfl) rfl) ?_
  refine Wl.pure (PR.conv (n := s) tI_2 rfl (by simp only [fitI]; omega) Try.underlying22) ?_
  refine Wl.callV (c_spec_l00In (n := s) (lo := 1) (hi := 6)) rfl ?_
  intro w1 hbel
  replace st := st.call hbel
  clear hbel
  refine Wl.pure (PR.not_ rfl) ?_
  refine Wl.pure (PR.moveB rfl) ?_
  refine Wl.splitB (b := (!decide (1 ≤ s ∧ s ≤ 6))) rfl rfl (fun h2 => ?_) (fun h2 => ?_)
  · simp only [Bool.not_eq_true', Bool.not_eq_false', Bool.not_true, Bool.not_false, decide_eq_true_eq, decide_eq_false_iff_not] at h2
    refine Wl.pure (PR.moveP rfl) ?_
    refine Wl.on rfl rfl ?_
    refine Wl.pure (PR.nil_ rfl) ?_
    refine Wl.on rfl rfl ?_
    refine Wl.pure (PR.fieldAddr tF_31_1 rfl) ?_
    refine Wl.on rfl rfl ?_
    refine Wl.loadC tA_22 rfl ((hR.st st).at_ (j := 1) (rfl) rfl) ?_
    refine Wl.on rfl rfl ?_
    refine Wl.pure (PR.conv (n := p) tI_2 rfl (by simp only [fitI]; omega) Try.underlying22) ?_
    refine Wl.on rfl rfl ?_
    refine Wl.callV (c_spec_l01Parts (n := p)) rfl ?_
    intro w3 hbel
    replace st := st.call hbel
    clear hbel
    refine Wl.on rfl rfl ?_
    refine Wl.pure (PR.not_ rfl) ?_
    refine Wl.pure (PR.pickFB rfl rfl) ?_
    refine Wl.nil ?_
    refine tn ?_
    refine Wc.condN (p := 1 ≤ p ∧ p ≤ 8) rfl (fun h4 => ?_) (fun h4 => ?_)
    · refine Wc.seq ?_
      refine Wc.region rfl ?_
      refine Wl.pure (PR.assB rfl) ?_
      refine Wl.nil ?_
      refine tn ?_
      refine Wc.ret ?_
      refine tr ?_
      refine postL.tmp rfl rfl ?_
      refine RetV.of ?_ st.below
      refine congrArg Value.bool ?_
      first | exact schOk_f3 (k := k) (by omega) hy | exact schOk_f1 (by assumption) | exact schOk_f2 (by assumption) | exact schOk_t (by assumption) (by assumption) (fun j hj => hg j (by omega))
    · refine Wc.skip ?_
      refine tn ?_
      refine Wc.seq ?_
      refine Wc.seq ?_
      obtain ⟨n, rfl⟩ : ∃ n : Nat, s = ((n : Nat) : Int) := ⟨s.toNat, by omega⟩
      obtain ⟨m, rfl⟩ : ∃ m : Nat, p = ((m : Nat) : Int) := ⟨p.toNat, by omega⟩
      refine Wc.region rfl ?_
      refine Wl.pure (PR.assI rfl) ?_
      refine Wl.nil ?_
      refine tn ?_
      refine Wc.block ?_
      refine Wc.loopF (γ := Nat) (fun g => [(0, .pointer (some ⟨bk, o, none⟩)), (3, .int .i64 (((g : Nat) : Int)))]) (fun g w_ => St [] w w_ [] ∧ (g ≤ 6) ∧ (∀ j, j < g → rowOk n m (a j ||| b j) j)) (fun g => 6 - g) ?_ ?_
      · exact ⟨0, (.cons rfl (.cons rfl (.nil _))), st, (by first | omega | (dsimp only; omega)), (fun j hj => by omega)⟩
      clear st
      rintro k w5 ⟨st, hk, hg⟩
      try dsimp only at st hk hg ⊢
      refine Wc.seq ?_
      refine Wc.seq ?_
      refine Wc.region rfl ?_
      refine Wl.pure (PR.moveI rfl) ?_
      refine Wl.pure (PR.lss (a := ((k : Nat) : Int)) (b := 6) rfl rfl) ?_
      refine Wl.nil ?_
      refine tn ?_
      refine Wc.condD (p := ((k : Nat) : Int) < 6) rfl (fun h6 => ?_) (fun h6 => ?_)
      · refine Wc.skip ?_
        refine tn ?_
        refine Wc.seq ?_
        refine Wc.block ?_
        refine Wc.seq ?_
        refine Wc.quiet hmix (by kernel_rfl) rfl ?_
        refine Wq.pure (PR.moveP rfl) ?_
        refine Wq.pure (PR.moveI rfl) ?_
        refine Wq.pure (PR.nil_ rfl) ?_
        refine Wq.pure (PR.fieldAddr tF_31_2 rfl) ?_
        refine Wq.pure (PR.idxAddrA1 (i := k) tE_23 rfl rfl (by omega)) ?_
        refine Wq.loadC tA_5 rfl ((hR.st st).at_ (schV_get_a (by omega)) (Nat.add_assoc _ _ _).symm) ?_
        refine Wq.pure (PR.moveP rfl) ?_
        refine Wq.pure (PR.moveI rfl) ?_
        refine Wq.pure (PR.nil_ rfl) ?_
        refine Wq.pure (PR.fieldAddr tF_31_3 rfl) ?_
        refine Wq.pure (PR.idxAddrA1 (i := k) tE_23 rfl rfl (by omega)) ?_
        refine Wq.loadC tA_5 rfl ((hR.st st).at_ (schV_get_b (by omega)) (Nat.add_assoc _ _ _).symm) ?_
        refine Wq.pure (PR.or (a := a (k)) (b := b (k)) rfl rfl (by decide) (ha (k)) (hb (k))) ?_
        refine Wq.pure (PR.assI rfl) ?_
        refine Wq.nil (fun w7 hbel => ?_)
        replace st := st.call hbel
        clear hbel
        refine tn ?_
        refine Wc.seq ?_
        refine Wc.region rfl ?_
        refine Wl.pure (PR.moveI rfl) ?_
        refine Wl.pure (PR.moveP rfl) ?_
        refine Wl.pure (PR.nil_ rfl) ?_
        refine Wl.pure (PR.fieldAddr tF_31_1 rfl) ?_
        refine Wl.loadC tA_22 rfl ((hR.st st).at_ (j := 1) (rfl) rfl) ?_
        refine Wl.pure (PR.conv (n := ((m : Nat) : Int)) tI_52 rfl (by simp only [fitI]; omega) Try.underlying22) ?_
        refine Wl.pure (PR.shr (a := ((a (k)) ||| (b (k)))) (n := m) rfl rfl (by decide) (or_lt_u8 (ha (k)) (hb (k)))) ?_
        refine Wl.pure (PR.neq (a := (((((a (k)) ||| (b (k))) >>> m) : Nat) : Int)) (b := 0) rfl rfl) ?_
        refine Wl.pure (PR.moveB rfl) ?_
        refine Wl.splitB (b := (!decide ((((((a (k)) ||| (b (k))) >>> m) : Nat) : Int) = 0))) rfl rfl (fun h8 => ?_) (fun h8 => ?_)
        · simp only [Bool.not_eq_true', Bool.not_eq_false', Bool.not_true, Bool.not_false, decide_eq_true_eq, decide_eq_false_iff_not] at h8
          refine Wl.pure (PR.moveI rfl) ?_
          refine Wl.on rfl rfl ?_
          refine Wl.pure (PR.moveP rfl) ?_
          refine Wl.on rfl rfl ?_
          refine Wl.pure (PR.nil_ rfl) ?_
          refine Wl.on rfl rfl ?_
          refine Wl.pure (PR.fieldAddr tF_31_0 rfl) ?_
          refine Wl.on rfl rfl ?_
          refine Wl.loadC tA_22 rfl ((hR.st st).at_ (j := 0) (rfl) rfl) ?_
          refine Wl.on rfl rfl ?_
          refine Wl.pure (PR.conv (n := ((n : Nat) : Int)) tI_3 rfl (by simp only [fitI]; omega) Try.underlying22) ?_
          refine Wl.on rfl rfl ?_
          refine Wl.pure (PR.geq (a := ((k : Nat) : Int)) (b := ((n : Nat) : Int)) rfl rfl) ?_
          refine Wl.on rfl rfl ?_
          refine Wl.pure (PR.moveB rfl) ?_
          refine Wl.splitT (q := ((n : Nat) : Int) ≤ ((k : Nat) : Int)) rfl rfl (fun h9 => ?_) (fun h9 => ?_)
          · refine Wl.pure (PR.moveI rfl) ?_
            refine Wl.on rfl rfl ?_
            refine Wl.pure (PR.neq (a := ((((a (k)) ||| (b (k))) : Nat) : Int)) (b := 0) rfl rfl) ?_
            refine Wl.on rfl rfl ?_
            refine Wl.pure (PR.pickTB rfl rfl) ?_
            refine Wl.pure (PR.pickFB rfl rfl) ?_
            refine Wl.nil ?_
            refine tn ?_
            refine Wc.condN (p := ((((a (k)) ||| (b (k))) : Nat) : Int) = 0) rfl (fun h10 => ?_) (fun h10 => ?_)
            · refine Wc.seq ?_
              have hy : ¬ rowOk n m (a k ||| b k) k := by
                intro q
                first | exact absurd ((bdiff_mask (or_lt_u8 (ha k) (hb k)) (by omega)).2 q.1) (by omega) | exact absurd (shr_zero.2 q.1) (by omega) | exact absurd (q.2 (by omega)) (by omega)
              refine Wc.region rfl ?_
              refine Wl.pure (PR.assB rfl) ?_
              refine Wl.nil ?_
              refine tn ?_
              refine Wc.ret ?_
              refine br ?_
              refine tr ?_
              refine tr ?_
              refine br ?_
              refine tr ?_
              refine postL.tmp rfl rfl ?_
              refine RetV.of ?_ st.below
              refine congrArg Value.bool ?_
              first | exact schOk_f3 (k := k) (by omega) hy | exact schOk_f1 (by assumption) | exact schOk_f2 (by assumption) | exact schOk_t (by assumption) (by assumption) (fun j hj => hg j (by omega))
            · refine Wc.skip ?_
              refine bn ?_
              refine tn ?_
              refine Wc.region rfl ?_
              refine Wl.pure (PR.moveI rfl) ?_
              refine Wl.pure (PR.add (a := ((k : Nat) : Int)) (b := 1) rfl rfl (by simp only [fitI]; omega)) ?_
              refine Wl.pure (PR.assI rfl) ?_
              refine Wl.nil ?_
              refine tn ?_
              have hy : rowOk n m (a k ||| b k) k := ⟨by first | exact (bdiff_mask (or_lt_u8 (ha k) (hb k)) (by omega)).1 (by omega) | exact shr_zero.1 (by omega), fun q => by omega⟩
              exact ⟨k + 1, (.cons rfl (.cons rfl (.nil _))), ⟨st, (by first | omega | (dsimp only; omega)), (all_snoc hg hy)⟩, (by first | omega | (dsimp only; omega))⟩
          · refine Wl.off rfl rfl rfl ?_
            refine Wl.on rfl rfl ?_
            refine Wl.pure (PR.pickFB rfl rfl) ?_
            refine Wl.pure (PR.pickFB rfl rfl) ?_
            refine Wl.nil ?_
            refine tn ?_
            refine Wc.condF rfl ?_
            refine Wc.skip ?_
            refine bn ?_
            refine tn ?_
            refine Wc.region rfl ?_
            refine Wl.pure (PR.moveI rfl) ?_
            refine Wl.pure (PR.add (a := ((k : Nat) : Int)) (b := 1) rfl rfl (by simp only [fitI]; omega)) ?_
            refine Wl.pure (PR.assI rfl) ?_
            refine Wl.nil ?_
            refine tn ?_
            have hy : rowOk n m (a k ||| b k) k := ⟨by first | exact (bdiff_mask (or_lt_u8 (ha k) (hb k)) (by omega)).1 (by omega) | exact shr_zero.1 (by omega), fun q => by omega⟩
            exact ⟨k + 1, (.cons rfl (.cons rfl (.nil _))), ⟨st, (by first | omega | (dsimp only; omega)), (all_snoc hg hy)⟩, (by first | omega | (dsimp only; omega))⟩
        · simp only [Bool.not_eq_true', Bool.not_eq_false', Bool.not_true, Bool.not_false, decide_eq_true_eq, decide_eq_false_iff_not] at h8
          refine Wl.off rfl rfl rfl ?_
          refine Wl.off rfl rfl rfl ?_
          refine Wl.off rfl rfl rfl ?_
          refine Wl.off rfl rfl rfl ?_
          refine Wl.off rfl rfl rfl ?_
          refine Wl.off rfl rfl rfl ?_
          refine Wl.off rfl rfl rfl ?_
          refine Wl.offU rfl rfl ?_
          refine Wl.offU rfl rfl ?_
          refine Wl.off rfl rfl rfl ?_
          refine Wl.pure (PR.pickTB rfl rfl) ?_
          refine Wl.nil ?_
          refine tn ?_
          refine Wc.condT rfl ?_
          refine Wc.seq ?_
          have hy : ¬ rowOk n m (a k ||| b k) k := by
            intro q
            first | exact absurd ((bdiff_mask (or_lt_u8 (ha k) (hb k)) (by omega)).2 q.1) (by omega) | exact absurd (shr_zero.2 q.1) (by omega) | exact absurd (q.2 (by omega)) (by omega)
          refine Wc.region rfl ?_
          refine Wl.pure (PR.assB rfl) ?_
          refine Wl.nil ?_
          refine tn ?_
          refine Wc.ret ?_
          refine br ?_
          refine tr ?_
          refine tr ?_
          refine br ?_
          refine tr ?_
          refine postL.tmp rfl rfl ?_
          refine RetV.of ?_ st.below
          refine congrArg Value.bool ?_
          first | exact schOk_f3 (k := k) (by omega) hy | exact schOk_f1 (by assumption) | exact schOk_f2 (by assumption) | exact schOk_t (by assumption) (by assumption) (fun j hj => hg j (by omega))
      · refine Wc.exit ?_
        refine tx ?_
        refine tx ?_
        refine bh ?_
        refine tn ?_
        refine Wc.seq ?_
        refine Wc.region rfl ?_
        refine Wl.pure (PR.assB rfl) ?_
        refine Wl.nil ?_
        refine tn ?_
        refine Wc.ret ?_
        refine postL.tmp rfl rfl ?_
        refine RetV.of ?_ st.below
        refine congrArg Value.bool ?_
        first | exact schOk_f3 (k := k) (by omega) hy | exact schOk_f1 (by assumption) | exact schOk_f2 (by assumption) | exact schOk_t (by assumption) (by assumption) (fun j hj => hg j (by omega))
  · simp only [Bool.not_eq_true', Bool.not_eq_false', Bool.not_true, Bool.not_false, decide_eq_true_eq, decide_eq_false_iff_not] at h2
    refine Wl.off rfl rfl rfl ?_
    refine Wl.off rfl rfl rfl ?_
    refine Wl.off rfl rfl rfl ?_
    refine Wl.off rfl rfl rfl ?_
    refine Wl.off rfl rfl rfl ?_
    refine Wl.off rfl rfl rfl ?_
    refine Wl.pure (PR.pickTB rfl rfl) ?_
    refine Wl.nil ?_
    refine tn ?_
    refine Wc.condT rfl ?_
    refine Wc.seq ?_
    refine Wc.region rfl ?_
    refine Wl.pure (PR.assB rfl) ?_
    refine Wl.nil ?_
    refine tn ?_
    refine Wc.ret ?_
    refine tr ?_
    refine postL.tmp rfl rfl ?_
    refine RetV.of ?_ st.below
    refine congrArg Value.bool ?_
    first | exact schOk_f3 (k := k) (by omega) hy | exact schOk_f1 (by assumption) | exact schOk_f2 (by assumption) | exact schOk_t (by assumption) (by assumption) (fun j hj => hg j (by omega))

set_option maxHeartbeats 400000 in
set_option maxRecDepth 4000 in
theorem c_laws_toByteA6 {c : Nat → Nat} {w : World} (hc : ∀ k, c k < 256) :
    CE Try.prog 26 [.agg (arrU .u8 6 c).toArray] w (RetV w (.agg (arrU .u8 6 c).toArray)) := by
  refine CE.enter 15 [(0, .agg (arrU .u8 6 c).toArray)] en_26 Try.func26 rfl rfl (Nat.le_of_ble_eq_true rfl) rfl ?_
  have st := St.start w
  refine Wc.seq ?_
  refine Wc.region rfl ?_
  refine Wl.boxA st rfl ?_
  clear st
  intro b1 w1 st
  refine Wl.alloc st tZ_23 rfl ?_
  clear st
  intro b2 w2 st
  refine Wl.nil ?_
  refine tn ?_
  refine Wc.seq ?_
  refine Wc.region rfl ?_
  refine Wl.alloc st tZ_23 rfl ?_
  clear st
  intro b3 w3 st
  refine Wl.nil ?_
  refine tn ?_
  refine Wc.seq ?_
  refine Wc.seq ?_
  refine Wc.region rfl ?_
  refine Wl.pure (PR.assI rfl) ?_
  refine Wl.nil ?_
  refine tn ?_
  refine Wc.block ?_
  refine Wc.loopF (γ := Nat × (Nat → Nat)) (fun g => [(1, .pointer (some ⟨b1, 0, none⟩)), (2, .pointer (some ⟨b2, 0, none⟩)), (3, .pointer (some ⟨b3, 0, none⟩)), (4, .int .i64 (((g.1 : Nat) : Int)))]) (fun g w_ => St [] w w_ [(b3, arrU .u8 6 g.2, 23), (b2, arrU .u8 6 (fun _ => 0), 23), (b1, arrU .u8 6 c, 23)] ∧ (g.1 ≤ 6) ∧ (∀ j, j < g.1 → g.2 j = c j)) (fun g => 6 - g.1) ?_ ?_
  · exact ⟨(0, (fun _ => 0)), (.cons rfl (.cons rfl (.cons rfl (.cons rfl (.nil _))))), st, (by first | omega | (dsimp only; omega)), (fun j hj => by omega)⟩
  clear st
  rintro ⟨k, d⟩ w4 ⟨st, hk, hg⟩
  try dsimp only at st hk hg ⊢
  refine Wc.seq ?_
  refine Wc.seq ?_
  refine Wc.region rfl ?_
  refine Wl.pure (PR.moveI rfl) ?_
  refine Wl.pure (PR.lss (a := ((k : Nat) : Int)) (b := 6) rfl rfl) ?_
  refine Wl.nil ?_
  refine tn ?_
  refine Wc.condD (p := ((k : Nat) : Int) < 6) rfl (fun h5 => ?_) (fun h5 => ?_)
  · refine Wc.skip ?_
    refine tn ?_
    refine Wc.seq ?_
    refine Wc.block ?_
    refine Wc.region rfl ?_
    refine Wl.pure (PR.moveI rfl) ?_
    refine Wl.pure (PR.moveI rfl) ?_
    refine Wl.pure (PR.idxAddrA1 (i := k) tE_23 rfl rfl (by omega)) ?_
    refine Wl.load (i := 2) st tA_5 rfl rfl (arrU_get0 (by omega)) ?_
    refine Wl.pure (PR.idxAddrA1 (i := k) tE_23 rfl rfl (by omega)) ?_
    refine Wl.store (i := 0) (cs' := arrU .u8 6 (upd d (k) (c (k)))) st tA_5 rfl rfl rfl rfl (lt_of_len (arrU_len _) (by omega)) (arrU_set0) ?_
    clear st
    intro w6 st
    replace st : St [] w w6 [(b3, arrU .u8 6 (upd d (k) (c (k))), 23), (b2, arrU .u8 6 (fun _ => 0), 23), (b1, arrU .u8 6 c, 23)] := st
    refine Wl.nil ?_
    refine bn ?_
    refine tn ?_
    refine Wc.region rfl ?_
    refine Wl.pure (PR.moveI rfl) ?_
    refine Wl.pure (PR.add (a := ((k : Nat) : Int)) (b := 1) rfl rfl (by simp only [fitI]; omega)) ?_
    refine Wl.pure (PR.assI rfl) ?_
    refine Wl.nil ?_
    refine tn ?_
    exact ⟨(k + 1, upd d (k) (c (k))), (.cons rfl (.cons rfl (.cons rfl (.cons rfl (.nil _))))), ⟨st, (by first | omega | (dsimp only; omega)), (upd_snoc hg rfl)⟩, (by first | omega | (dsimp only; omega))⟩
  · refine Wc.exit ?_
    refine tx ?_
    refine tx ?_
    refine bh ?_
    refine tn ?_
    refine Wc.seq ?_
    refine Wc.region rfl ?_
    refine Wl.loadA (i := 0) st tA_23 rfl rfl (all_sub (arrU_len _)) (arrU_len _) ?_
    refine Wl.storeA (i := 1) (cs' := arrU .u8 6 d) st tA_23 rfl rfl (arrU_len _) (arrU_one _) rfl (le_of_len (arrU_len _) (by omega)) (all_put (arrU_len _)) ?_
    clear st
    intro w7 st
    replace st : St [] w w7 [(b3, arrU .u8 6 d, 23), (b2, arrU .u8 6 d, 23), (b1, arrU .u8 6 c, 23)] := st
    refine Wl.nil ?_
    refine tn ?_
    refine Wc.ret ?_
    refine postL.cell (i := 1) st rfl tA_23 rfl rfl (arrU_len _) ?_
    refine RetV.of ?_ st.below
    exact congrArg (fun l : List Value => Value.agg l.toArray) (arrU_congr fun j hj => hg j (by omega))

set_option maxHeartbeats 400000 in
set_option maxRecDepth 4000 in
theorem c_laws_toScheme {s : Int} {p : Int} {a : Nat → Nat} {b : Nat → Nat} {w : World} (ha : ∀ k, a k < 256) (hb : ∀ k, b k < 256) :
    CE Try.prog 10 [.agg (schV (s) (p) (a) (b)).toArray] w (RetV w (.agg (schV (s) (p) (a) (b)).toArray)) := by
  refine CE.enter 19 [(0, .agg (schV (s) (p) (a) (b)).toArray)] en_10 Try.func10 rfl rfl (Nat.le_of_ble_eq_true rfl) rfl ?_
  have st := St.start w
  refine Wc.seq ?_
  refine Wc.region rfl ?_
  refine Wl.boxA st rfl ?_
  clear st
  intro b1 w1 st
  refine Wl.alloc st tZ_31 rfl ?_
  clear st
  intro b2 w2 st
  refine Wl.nil ?_
  refine tn ?_
  refine Wc.seq ?_
  refine Wc.region rfl ?_
  refine Wl.alloc st tZ_31 rfl ?_
  clear st
  intro b3 w3 st
  refine Wl.nil ?_
  refine tn ?_
  refine Wc.seq ?_
  refine Wc.region rfl ?_
  refine Wl.pure (PR.fieldAddr tF_25_0 rfl) ?_
  refine Wl.load (i := 2) st tA_22 rfl rfl (rfl) ?_
  refine Wl.pure (PR.fieldAddr tF_31_0 rfl) ?_
  refine Wl.store (i := 0) (cs' := schV (s) (0) ((fun _ => 0)) ((fun _ => 0))) st tA_22 rfl rfl rfl rfl (lt_of_len schV_len (by omega)) (rfl) ?_
  clear st
  intro w4 st
  replace st : St [] w w4 [(b3, schV (s) (0) ((fun _ => 0)) ((fun _ => 0)), 31), (b2, schV (0) (0) ((fun _ => 0)) ((fun _ => 0)), 31), (b1, schV (s) (p) (a) (b), 25)] := st
  refine Wl.nil ?_
  refine tn ?_
  refine Wc.seq ?_
  refine Wc.region rfl ?_
  refine Wl.pure (PR.fieldAddr tF_25_1 rfl) ?_
  refine Wl.load (i := 2) st tA_22 rfl rfl (rfl) ?_
  refine Wl.pure (PR.fieldAddr tF_31_1 rfl) ?_
  refine Wl.store (i := 0) (cs' := schV (s) (p) ((fun _ => 0)) ((fun _ => 0))) st tA_22 rfl rfl rfl rfl (lt_of_len schV_len (by omega)) (rfl) ?_
  clear st
  intro w5 st
  replace st : St [] w w5 [(b3, schV (s) (p) ((fun _ => 0)) ((fun _ => 0)), 31), (b2, schV (0) (0) ((fun _ => 0)) ((fun _ => 0)), 31), (b1, schV (s) (p) (a) (b), 25)] := st
  refine Wl.nil ?_
  refine tn ?_
  refine Wc.seq ?_
  refine Wc.region rfl ?_
  refine Wl.pure (PR.fieldAddr tF_25_2 rfl) ?_
  refine Wl.loadA (i := 2) st tA_23 rfl rfl schV_sub_a (arrU_len _) ?_
  refine Wl.callV (c_laws_toByteA6 (c := a) ha) rfl ?_
  intro w6 hbel
  replace st := st.call hbel
  clear hbel
  refine Wl.pure (PR.fieldAddr tF_31_2 rfl) ?_
  refine Wl.storeA (i := 0) (cs' := schV (s) (p) (a) ((fun _ => 0))) st tA_23 rfl rfl (arrU_len _) (arrU_one _) rfl (le_of_len schV_len (by omega)) schV_put_a ?_
  clear st
  intro w7 st
  replace st : St [] w w7 [(b3, schV (s) (p) (a) ((fun _ => 0)), 31), (b2, schV (0) (0) ((fun _ => 0)) ((fun _ => 0)), 31), (b1, schV (s) (p) (a) (b), 25)] := st
  refine Wl.nil ?_
  refine tn ?_
  refine Wc.seq ?_
  refine Wc.region rfl ?_
  refine Wl.pure (PR.fieldAddr tF_25_3 rfl) ?_
  refine Wl.loadA (i := 2) st tA_23 rfl rfl schV_sub_b (arrU_len _) ?_
  refine Wl.callV (c_laws_toByteA6 (c := b) hb) rfl ?_
  intro w8 hbel
  replace st := st.call hbel
  clear hbel
  refine Wl.pure (PR.fieldAddr tF_31_3 rfl) ?_
  refine Wl.storeA (i := 0) (cs' := schV (s) (p) (a) (b)) st tA_23 rfl rfl (arrU_len _) (arrU_one _) rfl (le_of_len schV_len (by omega)) schV_put_b ?_
  clear st
  intro w9 st
  replace st : St [] w w9 [(b3, schV (s) (p) (a) (b), 31), (b2, schV (0) (0) ((fun _ => 0)) ((fun _ => 0)), 31), (b1, schV (s) (p) (a) (b), 25)] := st
  refine Wl.nil ?_
  refine tn ?_
  refine Wc.seq ?_
  refine Wc.region rfl ?_
  refine Wl.loadA (i := 0) st tA_31 rfl rfl (all_sub schV_len) schV_len ?_
  refine Wl.storeA (i := 1) (cs' := schV (s) (p) (a) (b)) st tA_31 rfl rfl schV_len schV_one rfl (le_of_len schV_len (by omega)) (all_put schV_len) ?_
  clear st
  intro w10 st
  replace st : St [] w w10 [(b3, schV (s) (p) (a) (b), 31), (b2, schV (s) (p) (a) (b), 31), (b1, schV (s) (p) (a) (b), 25)] := st
  refine Wl.nil ?_
  refine tn ?_
  refine Wc.ret ?_
  refine postL.cell (i := 1) st rfl tA_31 rfl rfl schV_len ?_
  exact RetV.of rfl st.below

set_option maxHeartbeats 400000 in
set_option maxRecDepth 4000 in
theorem c_math_bits_OnesCount8 {x : Nat} {w : World} (hx : x < 256) :
    CE Try.prog 71 [.int .u8 (((x : Nat) : Int))] w (RetV w (.int .i64 (((pc x : Nat) : Int)))) := by
  refine CE.enter 6 [(0, .int .u8 (((x : Nat) : Int)))] en_71 Try.func71 rfl rfl (Nat.le_of_ble_eq_true rfl) rfl ?_
  have st := St.start w
  refine Wc.seq ?_
  refine Wc.region rfl ?_
  refine Wl.pure (PR.assI rfl) ?_
  refine Wl.nil ?_
  refine tn ?_
  refine Wc.seq ?_
  refine Wc.region rfl ?_
  refine Wl.pure (PR.moveI rfl) ?_
  refine Wl.pure (PR.idxStr (i := x) (c := UInt8.ofNat (pc x)) Try.underlying9 rfl rfl (tab_of _ (by kernel_rfl) hx)) ?_
  refine Wl.pure (PR.conv (n := (((UInt8.ofNat (pc x)).toNat : Nat) : Int)) tI_3 rfl (fitN (show (UInt8.ofNat (pc x)).toNat < 256 from by rw [tab_nat hx]; have := pc_le8 hx; omega) rfl) Try.underlying5) ?_
  refine Wl.pure (PR.assI rfl) ?_
  refine Wl.nil ?_
  refine tn ?_
  refine Wc.ret ?_
  refine postL.tmp rfl rfl ?_
  refine RetV.of ?_ st.below
  refine congrArg (fun x : Nat => Value.int .i64 (x : Int)) ?_
  exact tab_nat hx

set_option maxHeartbeats 400000 in
set_option maxRecDepth 4000 in
theorem c_spec_l01Count {x : Nat} {w : World} (hx : x < 18446744073709551616) :
    CE Try.prog 32 [.int .u64 (((x : Nat) : Int))] w (RetV w (.int .i64 (((pc x : Nat) : Int)))) := by
  refine CE.enter 14 [(0, .int .u64 (((x : Nat) : Int)))] en_32 Try.func32 rfl rfl (Nat.le_of_ble_eq_true rfl) rfl ?_
  have st := St.start w
  refine Wc.seq ?_
  refine Wc.region rfl ?_
  refine Wl.pure (PR.assI rfl) ?_
  refine Wl.nil ?_
  refine tn ?_
  refine Wc.seq ?_
  refine Wc.region rfl ?_
  refine Wl.pure (PR.assI rfl) ?_
  refine Wl.nil ?_
  refine tn ?_
  refine Wc.seq ?_
  refine Wc.block ?_
  refine Wc.loopF (γ := Nat × Nat) (fun g => [(0, .int .u64 (((g.1 : Nat) : Int))), (2, .int .i64 (0)), (3, .int .i64 (((g.2 : Nat) : Int)))]) (fun g w_ => St [] w w_ [] ∧ (g.1 < 18446744073709551616) ∧ (pc x = g.2 + pc g.1)) (fun g => g.1) ?_ ?_
  · exact ⟨(x, 0), (.cons rfl (.cons rfl (.cons rfl (.nil _)))), st, hx, (Nat.zero_add _).symm⟩
  clear st
  rintro ⟨y, c⟩ w1 ⟨st, hy, hc⟩
  try dsimp only at st hy hc ⊢
  refine Wc.seq ?_
  refine Wc.seq ?_
  refine Wc.region rfl ?_
  refine Wl.pure (PR.moveI rfl) ?_
  refine Wl.pure (PR.neq (a := ((y : Nat) : Int)) (b := 0) rfl rfl) ?_
  refine Wl.nil ?_
  refine tn ?_
  refine Wc.condN (p := ((y : Nat) : Int) = 0) rfl (fun h2 => ?_) (fun h2 => ?_)
  · refine Wc.skip ?_
    refine tn ?_
    refine Wc.seq ?_
    refine Wc.block ?_
    refine Wc.region rfl ?_
    refine Wl.pure (PR.moveI rfl) ?_
    refine Wl.pure (PR.moveI rfl) ?_
    refine Wl.pure (PR.and (a := y) (b := 1) rfl rfl (by decide) hy (by decide)) ?_
    refine Wl.pure (PR.conv (n := (((y &&& 1) : Nat) : Int)) tI_2 rfl (by have : y &&& 1 ≤ 1 := Nat.and_le_right; simp only [fitI]; omega) Try.underlying26) ?_
    refine Wl.pure (PR.add (a := ((c : Nat) : Int)) (b := (((y &&& 1) : Nat) : Int)) rfl rfl (by have := pc_le x; have : y &&& 1 ≤ 1 := Nat.and_le_right; simp only [fitI]; omega)) ?_
    refine Wl.pure (PR.assI rfl) ?_
    refine Wl.nil ?_
    refine bn ?_
    refine tn ?_
    refine Wc.region rfl ?_
    refine Wl.pure (PR.moveI rfl) ?_
    refine Wl.pure (PR.shr (a := y) (n := 1) rfl rfl (by decide) hy) ?_
    refine Wl.pure (PR.assI rfl) ?_
    refine Wl.nil ?_
    refine tn ?_
    exact ⟨((y >>> 1), (c + (y &&& 1))), (.cons rfl (.cons rfl (.cons rfl (.nil _)))), ⟨st, (shr_lt hy), (pc_next hy hc)⟩, (by have := shr1 y; dsimp only; omega)⟩
  · refine Wc.exit ?_
    refine tx ?_
    refine tx ?_
    refine bh ?_
    refine tn ?_
    refine Wc.seq ?_
    refine Wc.region rfl ?_
    refine Wl.pure (PR.moveI rfl) ?_
    refine Wl.pure (PR.assI rfl) ?_
    refine Wl.nil ?_
    refine tn ?_
    refine Wc.ret ?_
    refine postL.tmp rfl rfl ?_
    refine RetV.of ?_ st.below
    refine congrArg (fun x : Nat => Value.int .i64 (x : Int)) ?_
    obtain rfl : y = 0 := by omega
    rw [hc]; unfold pc; rfl

set_option maxHeartbeats 400000 in
set_option maxRecDepth 4000 in
theorem c_rowsT {bk : Nat} {o : Nat} {s : Int} {p : Int} {a : Nat → Nat} {b : Nat → Nat} {w : World} (hR : RdA w bk o (schV s p a b)) :
    CE Try.prog 70 [.pointer (some ⟨bk, o, none⟩), .bool true] w (RetV w (.pointer (some ⟨bk, o + 8, none⟩))) := by
  refine CE.enter 12 [(0, .pointer (some ⟨bk, o, none⟩)), (1, .bool true)] en_70 Try.func70 rfl rfl (Nat.le_of_ble_eq_true rfl) rfl ?_
  have st := St.start w
  refine Wc.seq ?_
  refine Wc.region rfl ?_
  refine Wl.pure (PR.assV ((.pointer none)) rfl) ?_
  refine Wl.nil ?_
  refine tn ?_
  refine Wc.seq ?_
  refine Wc.seq ?_
  refine Wc.region rfl ?_
  refine Wl.pure (PR.moveB rfl) ?_
  refine Wl.nil ?_
  refine tn ?_
  refine Wc.condT rfl ?_
  refine Wc.seq ?_
  refine Wc.region rfl ?_
  refine Wl.pure (PR.moveP rfl) ?_
  refine Wl.pure (PR.nil_ rfl) ?_
  refine Wl.pure (PR.fieldAddr tF_31_3 rfl) ?_
  refine Wl.pure (PR.assP rfl) ?_
  refine Wl.nil ?_
  refine tn ?_
  refine Wc.ret ?_
  refine tr ?_
  refine postL.tmp rfl rfl ?_
  exact RetV.of rfl st.below

set_option maxHeartbeats 400000 in
set_option maxRecDepth 4000 in
theorem c_rowsF {bk : Nat} {o : Nat} {s : Int} {p : Int} {a : Nat → Nat} {b : Nat → Nat} {w : World} (hR : RdA w bk o (schV s p a b)) :
    CE Try.prog 70 [.pointer (some ⟨bk, o, none⟩), .bool false] w (RetV w (.pointer (some ⟨bk, o + 2, none⟩))) := by
  refine CE.enter 12 [(0, .pointer (some ⟨bk, o, none⟩)), (1, .bool false)] en_70 Try.func70 rfl rfl (Nat.le_of_ble_eq_true rfl) rfl ?_
  have st := St.start w
  refine Wc.seq ?_
  refine Wc.region rfl ?_
  refine Wl.pure (PR.assV ((.pointer none)) rfl) ?_
  refine Wl.nil ?_
  refine tn ?_
  refine Wc.seq ?_
  refine Wc.seq ?_
  refine Wc.region rfl ?_
  refine Wl.pure (PR.moveB rfl) ?_
  refine Wl.nil ?_
  refine tn ?_
  refine Wc.condF rfl ?_
  refine Wc.skip ?_
  refine tn ?_
  refine Wc.seq ?_
  refine Wc.region rfl ?_
  refine Wl.pure (PR.moveP rfl) ?_
  refine Wl.pure (PR.nil_ rfl) ?_
  refine Wl.pure (PR.fieldAddr tF_31_2 rfl) ?_
  refine Wl.pure (PR.assP rfl) ?_
  refine Wl.nil ?_
  refine tn ?_
  refine Wc.ret ?_
  refine postL.tmp rfl rfl ?_
  exact RetV.of rfl st.below

set_option maxHeartbeats 400000 in
set_option maxRecDepth 4000 in
theorem c_l02RowsT {bk : Nat} {o : Nat} {s : Int} {p : Int} {a : Nat → Nat} {b : Nat → Nat} {w : World} (hR : RdA w bk o (schV s p a b)) :
    CE Try.prog 65 [.pointer (some ⟨bk, o, none⟩), .bool true] w (RetV w (.agg (arrU .u8 6 b).toArray)) := by
  refine CE.enter 14 [(0, .pointer (some ⟨bk, o, none⟩)), (1, .bool true)] en_65 Try.func65 rfl rfl (Nat.le_of_ble_eq_true rfl) rfl ?_
  have st := St.start w
  refine Wc.seq ?_
  refine Wc.region rfl ?_
  refine Wl.alloc st tZ_23 rfl ?_
  clear st
  intro b4 w1 st
  refine Wl.nil ?_
  refine tn ?_
  refine Wc.seq ?_
  refine Wc.seq ?_
  refine Wc.region rfl ?_
  refine Wl.pure (PR.moveB rfl) ?_
  refine Wl.nil ?_
  refine tn ?_
  refine Wc.condT rfl ?_
  refine Wc.seq ?_
  refine Wc.region rfl ?_
  refine Wl.pure (PR.moveP rfl) ?_
  refine Wl.pure (PR.nil_ rfl) ?_
  refine Wl.pure (PR.fieldAddr tF_31_3 rfl) ?_
  refine Wl.loadAC tA_23 rfl (arrU_len _) ((hR.st st).sub schV_sub_b rfl) ?_
  refine Wl.storeA (i := 0) (cs' := arrU .u8 6 b) st tA_23 rfl rfl (arrU_len _) (arrU_one _) rfl (le_of_len (arrU_len _) (by omega)) (all_put (arrU_len _)) ?_
  clear st
  intro w2 st
  replace st : St [] w w2 [(b4, arrU .u8 6 b, 23)] := st
  refine Wl.nil ?_
  refine tn ?_
  refine Wc.ret ?_
  refine tr ?_
  refine postL.cell (i := 0) st rfl tA_23 rfl rfl (arrU_len _) ?_
  exact RetV.of rfl st.below

set_option maxHeartbeats 400000 in
set_option maxRecDepth 4000 in
theorem c_l02RowsF {bk : Nat} {o : Nat} {s : Int} {p : Int} {a : Nat → Nat} {b : Nat → Nat} {w : World} (hR : RdA w bk o (schV s p a b)) :
    CE Try.prog 65 [.pointer (some ⟨bk, o, none⟩), .bool false] w (RetV w (.agg (arrU .u8 6 a).toArray)) := by
  refine CE.enter 14 [(0, .pointer (some ⟨bk, o, none⟩)), (1, .bool false)] en_65 Try.func65 rfl rfl (Nat.le_of_ble_eq_true rfl) rfl ?_
  have st := St.start w
  refine Wc.seq ?_
  refine Wc.region rfl ?_
  refine Wl.alloc st tZ_23 rfl ?_
  clear st
  intro b4 w1 st
  refine Wl.nil ?_
  refine tn ?_
  refine Wc.seq ?_
  refine Wc.seq ?_
  refine Wc.region rfl ?_
  refine Wl.pure (PR.moveB rfl) ?_
  refine Wl.nil ?_
  refine tn ?_
  refine Wc.condF rfl ?_
  refine Wc.skip ?_
  refine tn ?_
  refine Wc.seq ?_
  refine Wc.region rfl ?_
  refine Wl.pure (PR.moveP rfl) ?_
  refine Wl.pure (PR.nil_ rfl) ?_
  refine Wl.pure (PR.fieldAddr tF_31_2 rfl) ?_
  refine Wl.loadAC tA_23 rfl (arrU_len _) ((hR.st st).sub schV_sub_a rfl) ?_
  refine Wl.storeA (i := 0) (cs' := arrU .u8 6 a) st tA_23 rfl rfl (arrU_len _) (arrU_one _) rfl (le_of_len (arrU_len _) (by omega)) (all_put (arrU_len _)) ?_
  clear st
  intro w2 st
  replace st : St [] w w2 [(b4, arrU .u8 6 a, 23)] := st
  refine Wl.nil ?_
  refine tn ?_
  refine Wc.ret ?_
  refine postL.cell (i := 0) st rfl tA_23 rfl rfl (arrU_len _) ?_
  exact RetV.of rfl st.below

set_option maxHeartbeats 400000 in
set_option maxRecDepth 4000 in
theorem c_weightT {s : Int} {p : Int} {a : Nat → Nat} {b : Nat → Nat} {x : Nat} {w : World} (ha : ∀ k, a k < 256) (hb : ∀ k, b k < 256) (hx : x < 256) :
    CE Try.prog 66 [.agg (schV (s) (p) (a) (b)).toArray, .int .u8 (((x : Nat) : Int)), .bool true] w (RetV w (.int .i64 (((wt b x : Nat) : Int)))) := by
  refine CE.enter 29 [(0, .agg (schV (s) (p) (a) (b)).toArray), (1, .int .u8 (((x : Nat) : Int))), (2, .bool true)] en_66 Try.func66 rfl rfl (Nat.le_of_ble_eq_true rfl) rfl ?_
  have st := St.start w
  refine Wc.seq ?_
  refine Wc.region rfl ?_
  refine Wl.boxA st rfl ?_
  clear st
  intro b3 w1 st
  refine Wl.pure (PR.assI rfl) ?_
  refine Wl.nil ?_
  refine tn ?_
  refine Wc.seq ?_
  refine Wc.region rfl ?_
  refine Wl.pure (PR.assI rfl) ?_
  refine Wl.nil ?_
  refine tn ?_
  refine Wc.seq ?_
  refine Wc.seq ?_
  refine Wc.region rfl ?_
  refine Wl.pure (PR.moveB rfl) ?_
  refine Wl.callV (c_rowsT (bk := b3) (o := 0) (s := s) (p := p) (a := a) (b := b) (st.rdA (i := 0) rfl (all_sub schV_len))) rfl ?_
  intro w2 hbel
  replace st := st.call hbel
  clear hbel
  refine Wl.pure (PR.moveI rfl) ?_
  refine Wl.nil ?_
  refine tn ?_
  refine Wc.block ?_
  refine Wc.loopF (γ := Nat × Nat) (fun g => [(1, .int .u8 (((x : Nat) : Int))), (6, .int .i64 (0)), (7, .int .u8 (((g.2 : Nat) : Int))), (11, .pointer (some ⟨b3, 8, none⟩)), (12, .int .i64 (((g.1 : Nat) : Int)))]) (fun g w_ => St [] w w_ [(b3, schV (s) (p) (a) (b), 31)] ∧ (g.1 ≤ 6) ∧ (g.2 = orS b x g.1) ∧ (g.2 < 256)) (fun g => 6 - g.1) ?_ ?_
  · exact ⟨(0, 0), (.cons rfl (.cons rfl (.cons rfl (.cons rfl (.cons rfl (.nil _)))))), st, (by first | omega | (dsimp only; omega)), rfl, (by decide)⟩
  clear st
  rintro ⟨k, v⟩ w3 ⟨st, hk, hv, hvb⟩
  try dsimp only at st hk hv hvb ⊢
  refine Wc.seq ?_
  refine Wc.region rfl ?_
  refine Wl.pure (PR.lss (a := ((k : Nat) : Int)) (b := 6) rfl rfl) ?_
  refine Wl.nil ?_
  refine tn ?_
  refine Wc.seq ?_
  refine Wc.condD (p := ((k : Nat) : Int) < 6) rfl (fun h4 => ?_) (fun h4 => ?_)
  · refine Wc.skip ?_
    refine tn ?_
    refine Wc.seq ?_
    refine Wc.block ?_
    refine Wc.seq ?_
    refine Wc.quiet hmix (by kernel_rfl) rfl ?_
    refine Wq.pure (PR.moveI rfl) ?_
    refine Wq.pure (PR.nil_ rfl) ?_
    refine Wq.pure (PR.idxAddrA1 (i := k) tE_23 rfl rfl (by omega)) ?_
    refine Wq.load (i := 0) st tA_5 rfl rfl (schV_get_b (by omega)) ?_
    refine Wq.pure (PR.assI rfl) ?_
    refine Wq.pure (PR.assI rfl) ?_
    refine Wq.nil (fun w5 hbel => ?_)
    replace st := st.call hbel
    clear hbel
    refine tn ?_
    refine Wc.seq ?_
    refine Wc.region rfl ?_
    refine Wl.pure (PR.moveI rfl) ?_
    refine Wl.pure (PR.moveI rfl) ?_
    refine Wl.pure (PR.shr (a := x) (n := k) rfl rfl (by decide) hx) ?_
    refine Wl.pure (PR.and (a := (x >>> k)) (b := 1) rfl rfl (by decide) (shr_lt hx) (by decide)) ?_
    refine Wl.pure (PR.eql (a := ((((x >>> k) &&& 1) : Nat) : Int)) (b := 1) rfl rfl) ?_
    refine Wl.nil ?_
    refine tn ?_
    refine Wc.condD (p := ((((x >>> k) &&& 1) : Nat) : Int) = 1) rfl (fun h6 => ?_) (fun h6 => ?_)
    · refine Wc.region rfl ?_
      refine Wl.pure (PR.moveI rfl) ?_
      refine Wl.pure (PR.moveI rfl) ?_
      refine Wl.pure (PR.or (a := v) (b := b (k)) rfl rfl (by decide) hvb (hb (k))) ?_
      refine Wl.pure (PR.assI rfl) ?_
      refine Wl.nil ?_
      refine bn ?_
      refine tn ?_
      refine Wc.region rfl ?_
      refine Wl.pure (PR.add (a := ((k : Nat) : Int)) (b := 1) rfl rfl (by simp only [fitI]; omega)) ?_
      refine Wl.pure (PR.moveI rfl) ?_
      refine Wl.nil ?_
      refine tn ?_
      exact ⟨(k + 1, (v ||| (b (k)))), (.cons rfl (.cons rfl (.cons rfl (.cons rfl (.cons rfl (.nil _)))))), ⟨st, (by first | omega | (dsimp only; omega)), (by first | exact orS_t hv (by omega) | exact orS_f hv (by omega)), (by first | exact hvb | exact or_lt_u8 hvb (hb k))⟩, (by first | omega | (dsimp only; omega))⟩
    · refine Wc.skip ?_
      refine bn ?_
      refine tn ?_
      refine Wc.region rfl ?_
      refine Wl.pure (PR.add (a := ((k : Nat) : Int)) (b := 1) rfl rfl (by simp only [fitI]; omega)) ?_
      refine Wl.pure (PR.moveI rfl) ?_
      refine Wl.nil ?_
      refine tn ?_
      exact ⟨(k + 1, v), (.cons rfl (.cons rfl (.cons rfl (.cons rfl (.cons rfl (.nil _)))))), ⟨st, (by first | omega | (dsimp only; omega)), (by first | exact orS_t hv (by omega) | exact orS_f hv (by omega)), (by first | exact hvb | exact or_lt_u8 hvb (hb k))⟩, (by first | omega | (dsimp only; omega))⟩
  · refine Wc.exit ?_
    refine tx ?_
    refine tx ?_
    refine bh ?_
    refine tn ?_
    refine Wc.seq ?_
    refine Wc.region rfl ?_
    refine Wl.pure (PR.moveI rfl) ?_
    refine Wl.callV (c_math_bits_OnesCount8 (x := v) hvb) rfl ?_
    intro w7 hbel
    replace st := st.call hbel
    clear hbel
    refine Wl.pure (PR.assI rfl) ?_
    refine Wl.nil ?_
    refine tn ?_
    refine Wc.ret ?_
    refine postL.tmp rfl rfl ?_
    refine RetV.of ?_ st.below
    refine congrArg (fun x : Nat => Value.int .i64 (x : Int)) ?_
    obtain rfl : k = 6 := by omega
    unfold wt; rw [hv]

set_option maxHeartbeats 400000 in
set_option maxRecDepth 4000 in
theorem c_weightF {s : Int} {p : Int} {a : Nat → Nat} {b : Nat → Nat} {x : Nat} {w : World} (ha : ∀ k, a k < 256) (hb : ∀ k, b k < 256) (hx : x < 256) :
    CE Try.prog 66 [.agg (schV (s) (p) (a) (b)).toArray, .int .u8 (((x : Nat) : Int)), .bool false] w (RetV w (.int .i64 (((wt a x : Nat) : Int)))) := by
  refine CE.enter 29 [(0, .agg (schV (s) (p) (a) (b)).toArray), (1, .int .u8 (((x : Nat) : Int))), (2, .bool false)] en_66 Try.func66 rfl rfl (Nat.le_of_ble_eq_true rfl) rfl ?_
  have st := St.start w
  refine Wc.seq ?_
  refine Wc.region rfl ?_
  refine Wl.boxA st rfl ?_
  clear st
  intro b3 w1 st
  refine Wl.pure (PR.assI rfl) ?_
  refine Wl.nil ?_
  refine tn ?_
  refine Wc.seq ?_
  refine Wc.region rfl ?_
  refine Wl.pure (PR.assI rfl) ?_
  refine Wl.nil ?_
  refine tn ?_
  refine Wc.seq ?_
  refine Wc.seq ?_
  refine Wc.region rfl ?_
  refine Wl.pure (PR.moveB rfl) ?_
  refine Wl.callV (c_rowsF (bk := b3) (o := 0) (s := s) (p := p) (a := a) (b := b) (st.rdA (i := 0) rfl (all_sub schV_len))) rfl ?_
  intro w2 hbel
  replace st := st.call hbel
  clear hbel
  refine Wl.pure (PR.moveI rfl) ?_
  refine Wl.nil ?_
  refine tn ?_
  refine Wc.block ?_
  refine Wc.loopF (γ := Nat × Nat) (fun g => [(1, .int .u8 (((x : Nat) : Int))), (6, .int .i64 (0)), (7, .int .u8 (((g.2 : Nat) : Int))), (11, .pointer (some ⟨b3, 2, none⟩)), (12, .int .i64 (((g.1 : Nat) : Int)))]) (fun g w_ => St [] w w_ [(b3, schV (s) (p) (a) (b), 31)] ∧ (g.1 ≤ 6) ∧ (g.2 = orS a x g.1) ∧ (g.2 < 256)) (fun g => 6 - g.1) ?_ ?_
  · exact ⟨(0, 0), (.cons rfl (.cons rfl (.cons rfl (.cons rfl (.cons rfl (.nil _)))))), st, (by first | omega | (dsimp only; omega)), rfl, (by decide)⟩
  clear st
  rintro ⟨k, v⟩ w3 ⟨st, hk, hv, hvb⟩
  try dsimp only at st hk hv hvb ⊢
  refine Wc.seq ?_
  refine Wc.region rfl ?_
  refine Wl.pure (PR.lss (a := ((k : Nat) : Int)) (b := 6) rfl rfl) ?_
  refine Wl.nil ?_
  refine tn ?_
  refine Wc.seq ?_
  refine Wc.condD (p := ((k : Nat) : Int) < 6) rfl (fun h4 => ?_) (fun h4 => ?_)
  · refine Wc.skip ?_
    refine tn ?_
    refine Wc.seq ?_
    refine Wc.block ?_
    refine Wc.seq ?_
    refine Wc.quiet hmix (by kernel_rfl) rfl ?_
    refine Wq.pure (PR.moveI rfl) ?_
    refine Wq.pure (PR.nil_ rfl) ?_
    refine Wq.pure (PR.idxAddrA1 (i := k) tE_23 rfl rfl (by omega)) ?_
    refine Wq.load (i := 0) st tA_5 rfl rfl (schV_get_a (by omega)) ?_
    refine Wq.pure (PR.assI rfl) ?_
    refine Wq.pure (PR.assI rfl) ?_
    refine Wq.nil (fun w5 hbel => ?_)
    replace st := st.call hbel
    clear hbel
    refine tn ?_
    refine Wc.seq ?_
    refine Wc.region rfl ?_
    refine Wl.pure (PR.moveI rfl) ?_
    refine Wl.pure (PR.moveI rfl) ?_
    refine Wl.pure (PR.shr (a := x) (n := k) rfl rfl (by decide) hx) ?_
    refine Wl.pure (PR.and (a := (x >>> k)) (b := 1) rfl rfl (by decide) (shr_lt hx) (by decide)) ?_
    refine Wl.pure (PR.eql (a := ((((x >>> k) &&& 1) : Nat) : Int)) (b := 1) rfl rfl) ?_
    refine Wl.nil ?_
    refine tn ?_
    refine Wc.condD (p := ((((x >>> k) &&& 1) : Nat) : Int) = 1) rfl (fun h6 => ?_) (fun h6 => ?_)
    · refine Wc.region rfl ?_
      refine Wl.pure (PR.moveI rfl) ?_
      refine Wl.pure (PR.moveI rfl) ?_
      refine Wl.pure (PR.or (a := v) (b := a (k)) rfl rfl (by decide) hvb (ha (k))) ?_
      refine Wl.pure (PR.assI rfl) ?_
      refine Wl.nil ?_
      refine bn ?_
      refine tn ?_
      refine Wc.region rfl ?_
      refine Wl.pure (PR.add (a := ((k : Nat) : Int)) (b := 1) rfl rfl (by simp only [fitI]; omega)) ?_
      refine Wl.pure (PR.moveI rfl) ?_
      refine Wl.nil ?_
      refine tn ?_
      exact ⟨(k + 1, (v ||| (a (k)))), (.cons rfl (.cons rfl (.cons rfl (.cons rfl (.cons rfl (.nil _)))))), ⟨st, (by first | omega | (dsimp only; omega)), (by first | exact orS_t hv (by omega) | exact orS_f hv (by omega)), (by first | exact hvb | exact or_lt_u8 hvb (ha k))⟩, (by first | omega | (dsimp only; omega))⟩
    · refine Wc.skip ?_
      refine bn ?_
      refine tn ?_
      refine Wc.region rfl ?_
      refine Wl.pure (PR.add (a := ((k : Nat) : Int)) (b := 1) rfl rfl (by simp only [fitI]; omega)) ?_
      refine Wl.pure (PR.moveI rfl) ?_
      refine Wl.nil ?_
      refine tn ?_
      exact ⟨(k + 1, v), (.cons rfl (.cons rfl (.cons rfl (.cons rfl (.cons rfl (.nil _)))))), ⟨st, (by first | omega | (dsimp only; omega)), (by first | exact orS_t hv (by omega) | exact orS_f hv (by omega)), (by first | exact hvb | exact or_lt_u8 hvb (ha k))⟩, (by first | omega | (dsimp only; omega))⟩
  · refine Wc.exit ?_
    refine tx ?_
    refine tx ?_
    refine bh ?_
    refine tn ?_
    refine Wc.seq ?_
    refine Wc.region rfl ?_
    refine Wl.pure (PR.moveI rfl) ?_
    refine Wl.callV (c_math_bits_OnesCount8 (x := v) hvb) rfl ?_
    intro w7 hbel
    replace st := st.call hbel
    clear hbel
    refine Wl.pure (PR.assI rfl) ?_
    refine Wl.nil ?_
    refine tn ?_
    refine Wc.ret ?_
    refine postL.tmp rfl rfl ?_
    refine RetV.of ?_ st.below
    refine congrArg (fun x : Nat => Value.int .i64 (x : Int)) ?_
    obtain rfl : k = 6 := by omega
    unfold wt; rw [hv]

set_option maxHeartbeats 400000 in
set_option maxRecDepth 4000 in
theorem c_l02WeightT {bk : Nat} {o : Nat} {s : Int} {p : Int} {a : Nat → Nat} {b : Nat → Nat} {x : Nat} {w : World} (hR : RdA w bk o (schV s p a b)) (ha : ∀ k, a k < 256) (hb : ∀ k, b k < 256) (hx : x < 256) :
    CE Try.prog 51 [.pointer (some ⟨bk, o, none⟩), .int .u8 (((x : Nat) : Int)), .bool true] w (RetV w (.int .i64 (((wt b x : Nat) : Int)))) := by
  refine CE.enter 31 [(0, .pointer (some ⟨bk, o, none⟩)), (1, .int .u8 (((x : Nat) : Int))), (2, .bool true)] en_51 Try.func51 rfl rfl (Nat.le_of_ble_eq_true rfl) rfl ?_
  have st := St.start w
  refine Wc.seq ?_
  refine Wc.region rfl ?_
  refine Wl.pure (PR.assI rfl) ?_
  refine Wl.nil ?_
  refine tn ?_
  refine Wc.seq ?_
  refine Wc.region rfl ?_
  refine Wl.pure (PR.moveP rfl) ?_
  refine Wl.pure (PR.moveB rfl) ?_
  refine Wl.callV (c_l02RowsT (bk := bk) (o := o) (s := s) (p := p) (a := a) (b := b) (hR.st st)) rfl ?_
  intro w1 hbel
  replace st := st.call hbel
  clear hbel
  refine Wl.alloc st tZ_23 rfl ?_
  clear st
  intro b7 w2 st
  refine Wl.storeA (i := 0) (cs' := arrU .u8 6 b) st tA_23 rfl rfl (arrU_len _) (arrU_one _) rfl (le_of_len (arrU_len _) (by omega)) (all_put (arrU_len _)) ?_
  clear st
  intro w3 st
  replace st : St [] w w3 [(b7, arrU .u8 6 b, 23)] := st
  refine Wl.nil ?_
  refine tn ?_
  refine Wc.seq ?_
  refine Wc.region rfl ?_
  refine Wl.pure (PR.assI rfl) ?_
  refine Wl.nil ?_
  refine tn ?_
  refine Wc.seq ?_
  refine Wc.seq ?_
  refine Wc.region rfl ?_
  refine Wl.pure (PR.assI rfl) ?_
  refine Wl.nil ?_
  refine tn ?_
  refine Wc.block ?_
  refine Wc.loopF (γ := Nat × Nat) (fun g => [(1, .int .u8 (((x : Nat) : Int))), (6, .int .i64 (0)), (7, .pointer (some ⟨b7, 0, none⟩)), (8, .int .u8 (((g.2 : Nat) : Int))), (9, .int .i64 (((g.1 : Nat) : Int)))]) (fun g w_ => St [] w w_ [(b7, arrU .u8 6 b, 23)] ∧ (g.1 ≤ 6) ∧ (g.2 = orS b x g.1) ∧ (g.2 < 256)) (fun g => 6 - g.1) ?_ ?_
  · exact ⟨(0, 0), (.cons rfl (.cons rfl (.cons rfl (.cons rfl (.cons rfl (.nil _)))))), st, (by first | omega | (dsimp only; omega)), rfl, (by decide)⟩
  clear st
  rintro ⟨k, v⟩ w4 ⟨st, hk, hv, hvb⟩
  try dsimp only at st hk hv hvb ⊢
  refine Wc.seq ?_
  refine Wc.seq ?_
  refine Wc.region rfl ?_
  refine Wl.pure (PR.moveI rfl) ?_
  refine Wl.pure (PR.lss (a := ((k : Nat) : Int)) (b := 6) rfl rfl) ?_
  refine Wl.nil ?_
  refine tn ?_
  refine Wc.condD (p := ((k : Nat) : Int) < 6) rfl (fun h5 => ?_) (fun h5 => ?_)
  · refine Wc.skip ?_
    refine tn ?_
    refine Wc.seq ?_
    refine Wc.block ?_
    refine Wc.seq ?_
    refine Wc.region rfl ?_
    refine Wl.pure (PR.moveI rfl) ?_
    refine Wl.pure (PR.moveI rfl) ?_
    refine Wl.pure (PR.conv (n := ((k : Nat) : Int)) tI_52 rfl (by simp only [fitI]; omega) Try.underlying3) ?_
    refine Wl.pure (PR.shr (a := x) (n := k) rfl rfl (by decide) hx) ?_
    refine Wl.pure (PR.and (a := (x >>> k)) (b := 1) rfl rfl (by decide) (shr_lt hx) (by decide)) ?_
    refine Wl.pure (PR.eql (a := ((((x >>> k) &&& 1) : Nat) : Int)) (b := 1) rfl rfl) ?_
    refine Wl.nil ?_
    refine tn ?_
    refine Wc.condD (p := ((((x >>> k) &&& 1) : Nat) : Int) = 1) rfl (fun h6 => ?_) (fun h6 => ?_)
    · refine Wc.region rfl ?_
      refine Wl.pure (PR.moveI rfl) ?_
      refine Wl.pure (PR.moveI rfl) ?_
      refine Wl.pure (PR.idxAddrA1 (i := k) tE_23 rfl rfl (by omega)) ?_
      refine Wl.load (i := 0) st tA_5 rfl rfl (arrU_get0 (by omega)) ?_
      refine Wl.pure (PR.or (a := v) (b := b (k)) rfl rfl (by decide) hvb (hb (k))) ?_
      refine Wl.pure (PR.assI rfl) ?_
      refine Wl.nil ?_
      refine bn ?_
      refine tn ?_
      refine Wc.region rfl ?_
      refine Wl.pure (PR.moveI rfl) ?_
      refine Wl.pure (PR.add (a := ((k : Nat) : Int)) (b := 1) rfl rfl (by simp only [fitI]; omega)) ?_
      refine Wl.pure (PR.assI rfl) ?_
      refine Wl.nil ?_
      refine tn ?_
      exact ⟨(k + 1, (v ||| (b (k)))), (.cons rfl (.cons rfl (.cons rfl (.cons rfl (.cons rfl (.nil _)))))), ⟨st, (by first | omega | (dsimp only; omega)), (by first | exact orS_t hv (by omega) | exact orS_f hv (by omega)), (by first | exact hvb | exact or_lt_u8 hvb (hb k))⟩, (by first | omega | (dsimp only; omega))⟩
    · refine Wc.skip ?_
      refine bn ?_
      refine tn ?_
      refine Wc.region rfl ?_
      refine Wl.pure (PR.moveI rfl) ?_
      refine Wl.pure (PR.add (a := ((k : Nat) : Int)) (b := 1) rfl rfl (by simp only [fitI]; omega)) ?_
      refine Wl.pure (PR.assI rfl) ?_
      refine Wl.nil ?_
      refine tn ?_
      exact ⟨(k + 1, v), (.cons rfl (.cons rfl (.cons rfl (.cons rfl (.cons rfl (.nil _)))))), ⟨st, (by first | omega | (dsimp only; omega)), (by first | exact orS_t hv (by omega) | exact orS_f hv (by omega)), (by first | exact hvb | exact or_lt_u8 hvb (hb k))⟩, (by first | omega | (dsimp only; omega))⟩
  · refine Wc.exit ?_
    refine tx ?_
    refine tx ?_
    refine bh ?_
    refine tn ?_
    refine Wc.seq ?_
    refine Wc.region rfl ?_
    refine Wl.pure (PR.moveI rfl) ?_
    refine Wl.pure (PR.conv (n := ((v : Nat) : Int)) tI_26 rfl (fitN hvb rfl) Try.underlying5) ?_
    refine Wl.callV (c_spec_l01Count (x := v) (Nat.lt_of_lt_of_le hvb (by decide))) rfl ?_
    intro w7 hbel
    replace st := st.call hbel
    clear hbel
    refine Wl.pure (PR.assI rfl) ?_
    refine Wl.nil ?_
    refine tn ?_
    refine Wc.ret ?_
    refine postL.tmp rfl rfl ?_
    refine RetV.of ?_ st.below
    refine congrArg (fun x : Nat => Value.int .i64 (x : Int)) ?_
    obtain rfl : k = 6 := by omega
    unfold wt; rw [hv]

set_option maxHeartbeats 400000 in
set_option maxRecDepth 4000 in
theorem c_l02WeightF {bk : Nat} {o : Nat} {s : Int} {p : Int} {a : Nat → Nat} {b : Nat → Nat} {x : Nat} {w : World} (hR : RdA w bk o (schV s p a b)) (ha : ∀ k, a k < 256) (hb : ∀ k, b k < 256) (hx : x < 256) :
    CE Try.prog 51 [.pointer (some ⟨bk, o, none⟩), .int .u8 (((x : Nat) : Int)), .bool false] w (RetV w (.int .i64 (((wt a x : Nat) : Int)))) := by
  refine CE.enter 31 [(0, .pointer (some ⟨bk, o, none⟩)), (1, .int .u8 (((x : Nat) : Int))), (2, .bool false)] en_51 Try.func51 rfl rfl (Nat.le_of_ble_eq_true rfl) rfl ?_
  have st := St.start w
  refine Wc.seq ?_
  refine Wc.region rfl ?_
  refine Wl.pure (PR.assI rfl) ?_
  refine Wl.nil ?_
  refine tn ?_
  refine Wc.seq ?_
  refine Wc.region rfl ?_
  refine Wl.pure (PR.moveP rfl) ?_
  refine Wl.pure (PR.moveB rfl) ?_
  refine Wl.callV (c_l02RowsF (bk := bk) (o := o) (s := s) (p := p) (a := a) (b := b) (hR.st st)) rfl ?_
  intro w1 hbel
  replace st := st.call hbel
  clear hbel
  refine Wl.alloc st tZ_23 rfl ?_
  clear st
  intro b7 w2 st
  refine Wl.storeA (i := 0) (cs' := arrU .u8 6 a) st tA_23 rfl rfl (arrU_len _) (arrU_one _) rfl (le_of_len (arrU_len _) (by omega)) (all_put (arrU_len _)) ?_
  clear st
  intro w3 st
  replace st : St [] w w3 [(b7, arrU .u8 6 a, 23)] := st
  refine Wl.nil ?_
  refine tn ?_
  refine Wc.seq ?_
  refine Wc.region rfl ?_
  refine Wl.pure (PR.assI rfl) ?_
  refine Wl.nil ?_
  refine tn ?_
  refine Wc.seq ?_
  refine Wc.seq ?_
  refine Wc.region rfl ?_
  refine Wl.pure (PR.assI rfl) ?_
  refine Wl.nil ?_
  refine tn ?_
  refine Wc.block ?_
  refine Wc.loopF (γ := Nat × Nat) (fun g => [(1, .int .u8 (((x : Nat) : Int))), (6, .int .i64 (0)), (7, .pointer (some ⟨b7, 0, none⟩)), (8, .int .u8 (((g.2 : Nat) : Int))), (9, .int .i64 (((g.1 : Nat) : Int)))]) (fun g w_ => St [] w w_ [(b7, arrU .u8 6 a, 23)] ∧ (g.1 ≤ 6) ∧ (g.2 = orS a x g.1) ∧ (g.2 < 256)) (fun g => 6 - g.1) ?_ ?_
  · exact ⟨(0, 0), (.cons rfl (.cons rfl (.cons rfl (.cons rfl (.cons rfl (.nil _)))))), st, (by first | omega | (dsimp only; omega)), rfl, (by decide)⟩
  clear st
  rintro ⟨k, v⟩ w4 ⟨st, hk, hv, hvb⟩
  try dsimp only at st hk hv hvb ⊢
  refine Wc.seq ?_
  refine Wc.seq ?_
  refine Wc.region rfl ?_
  refine Wl.pure (PR.moveI rfl) ?_
  refine Wl.pure (PR.lss (a := ((k : Nat) : Int)) (b := 6) rfl rfl) ?_
  refine Wl.nil ?_
  refine tn ?_
  refine Wc.condD (p := ((k : Nat) : Int) < 6) rfl (fun h5 => ?_) (fun h5 => ?_)
  · refine Wc.skip ?_
    refine tn ?_
    refine Wc.seq ?_
    refine Wc.block ?_
    refine Wc.seq ?_
    refine Wc.region rfl ?_
    refine Wl.pure (PR.moveI rfl) ?_
    refine Wl.pure (PR.moveI rfl) ?_
    refine Wl.pure (PR.conv (n := ((k : Nat) : Int)) tI_52 rfl (by simp only [fitI]; omega) Try.underlying3) ?_
    refine Wl.pure (PR.shr (a := x) (n := k) rfl rfl (by decide) hx) ?_
    refine Wl.pure (PR.and (a := (x >>> k)) (b := 1) rfl rfl (by decide) (shr_lt hx) (by decide)) ?_
    refine Wl.pure (PR.eql (a := ((((x >>> k) &&& 1) : Nat) : Int)) (b := 1) rfl rfl) ?_
    refine Wl.nil ?_
    refine tn ?_
    refine Wc.condD (p := ((((x >>> k) &&& 1) : Nat) : Int) = 1) rfl (fun h6 => ?_) (fun h6 => ?_)
    · refine Wc.region rfl ?_
      refine Wl.pure (PR.moveI rfl) ?_
      refine Wl.pure (PR.moveI rfl) ?_
      refine Wl.pure (PR.idxAddrA1 (i := k) tE_23 rfl rfl (by omega)) ?_
      refine Wl.load (i := 0) st tA_5 rfl rfl (arrU_get0 (by omega)) ?_
      refine Wl.pure (PR.or (a := v) (b := a (k)) rfl rfl (by decide) hvb (ha (k))) ?_
      refine Wl.pure (PR.assI rfl) ?_
      refine Wl.nil ?_
      refine bn ?_
      refine tn ?_
      refine Wc.region rfl ?_
      refine Wl.pure (PR.moveI rfl) ?_
      refine Wl.pure (PR.add (a := ((k : Nat) : Int)) (b := 1) rfl rfl (by simp only [fitI]; omega)) ?_
      refine Wl.pure (PR.assI rfl) ?_
      refine Wl.nil ?_
      refine tn ?_
      exact ⟨(k + 1, (v ||| (a (k)))), (.cons rfl (.cons rfl (.cons rfl (.cons rfl (.cons rfl (.nil _)))))), ⟨st, (by first | omega | (dsimp only; omega)), (by first | exact orS_t hv (by omega) | exact orS_f hv (by omega)), (by first | exact hvb | exact or_lt_u8 hvb (ha k))⟩, (by first | omega | (dsimp only; omega))⟩
    · refine Wc.skip ?_
      refine bn ?_
      refine tn ?_
      refine Wc.region rfl ?_
      refine Wl.pure (PR.moveI rfl) ?_
      refine Wl.pure (PR.add (a := ((k : Nat) : Int)) (b := 1) rfl rfl (by simp only [fitI]; omega)) ?_
      refine Wl.pure (PR.assI rfl) ?_
      refine Wl.nil ?_
      refine tn ?_
      exact ⟨(k + 1, v), (.cons rfl (.cons rfl (.cons rfl (.cons rfl (.cons rfl (.nil _)))))), ⟨st, (by first | omega | (dsimp only; omega)), (by first | exact orS_t hv (by omega) | exact orS_f hv (by omega)), (by first | exact hvb | exact or_lt_u8 hvb (ha k))⟩, (by first | omega | (dsimp only; omega))⟩
  · refine Wc.exit ?_
    refine tx ?_
    refine tx ?_
    refine bh ?_
    refine tn ?_
    refine Wc.seq ?_
    refine Wc.region rfl ?_
    refine Wl.pure (PR.moveI rfl) ?_
    refine Wl.pure (PR.conv (n := ((v : Nat) : Int)) tI_26 rfl (fitN hvb rfl) Try.underlying5) ?_
    refine Wl.callV (c_spec_l01Count (x := v) (Nat.lt_of_lt_of_le hvb (by decide))) rfl ?_
    intro w7 hbel
    replace st := st.call hbel
    clear hbel
    refine Wl.pure (PR.assI rfl) ?_
    refine Wl.nil ?_
    refine tn ?_
    refine Wc.ret ?_
    refine postL.tmp rfl rfl ?_
    refine RetV.of ?_ st.below
    refine congrArg (fun x : Nat => Value.int .i64 (x : Int)) ?_
    obtain rfl : k = 6 := by omega
    unfold wt; rw [hv]

set_option maxHeartbeats 400000 in
set_option maxRecDepth 4000 in
theorem c_impl_Scheme_gap {s : Int} {p : Int} {a : Nat → Nat} {b : Nat → Nat} {x : Nat} {w : World} (ha : ∀ k, a k < 256) (hb : ∀ k, b k < 256) (hx : x < 256) :
    CE Try.prog 56 [.agg (schV (s) (p) (a) (b)).toArray, .int .u8 (((x : Nat) : Int))] w (RetV w (.int .i64 (gapZ a b x))) := by
  refine CE.enter 12 [(0, .agg (schV (s) (p) (a) (b)).toArray), (1, .int .u8 (((x : Nat) : Int)))] en_56 Try.func56 rfl rfl (Nat.le_of_ble_eq_true rfl) rfl ?_
  have st := St.start w
  refine Wc.seq ?_
  refine Wc.region rfl ?_
  refine Wl.boxA st rfl ?_
  clear st
  intro b2 w1 st
  refine Wl.pure (PR.assI rfl) ?_
  refine Wl.nil ?_
  refine tn ?_
  refine Wc.seq ?_
  refine Wc.quiet hmix (by kernel_rfl) rfl ?_
  refine Wq.loadA (i := 0) st tA_31 rfl rfl (all_sub schV_len) schV_len ?_
  refine Wq.pure (PR.moveI rfl) ?_
  refine Wq.callV (fun _ hbel => c_weightT (s := s) (p := p) (a := a) (b := b) (x := x) ha hb hx) rfl ?_
  refine Wq.loadA (i := 0) st tA_31 rfl rfl (all_sub schV_len) schV_len ?_
  refine Wq.pure (PR.moveI rfl) ?_
  refine Wq.callV (fun _ hbel => c_weightF (s := s) (p := p) (a := a) (b := b) (x := x) ha hb hx) rfl ?_
  refine Wq.pure (PR.sub (a := ((wt b x : Nat) : Int)) (b := ((wt a x : Nat) : Int)) rfl rfl (gap_fit ha hb x)) ?_
  refine Wq.pure (PR.assI rfl) ?_
  refine Wq.nil (fun w2 hbel => ?_)
  replace st := st.call hbel
  clear hbel
  refine tn ?_
  refine Wc.ret ?_
  refine postL.tmp rfl rfl ?_
  refine RetV.of ?_ st.below
  unfold gapZ; rfl

set_option maxHeartbeats 400000 in
set_option maxRecDepth 4000 in
theorem c_spec_l02Gap {bk : Nat} {o : Nat} {s : Int} {p : Int} {a : Nat → Nat} {b : Nat → Nat} {x : Nat} {w : World} (hR : RdA w bk o (schV s p a b)) (ha : ∀ k, a k < 256) (hb : ∀ k, b k < 256) (hx : x < 256) :
    CE Try.prog 30 [.pointer (some ⟨bk, o, none⟩), .int .u8 (((x : Nat) : Int))] w (RetV w (.int .i64 (gapZ a b x))) := by
  refine CE.enter 12 [(0, .pointer (some ⟨bk, o, none⟩)), (1, .int .u8 (((x : Nat) : Int)))] en_30 Try.func30 rfl rfl (Nat.le_of_ble_eq_true rfl) rfl ?_
  have st := St.start w
  refine Wc.seq ?_
  refine Wc.region rfl ?_
  refine Wl.pure (PR.assI rfl) ?_
  refine Wl.nil ?_
  refine tn ?_
  refine Wc.seq ?_
  refine Wc.region rfl ?_
  refine Wl.pure (PR.moveP rfl) ?_
  refine Wl.pure (PR.moveI rfl) ?_
  refine Wl.callV (c_l02WeightT (bk := bk) (o := o) (s := s) (p := p) (a := a) (b := b) (x := x) (hR.st st) ha hb hx) rfl ?_
  intro w1 hbel
  replace st := st.call hbel
  clear hbel
  refine Wl.pure (PR.moveP rfl) ?_
  refine Wl.pure (PR.moveI rfl) ?_
  refine Wl.callV (c_l02WeightF (bk := bk) (o := o) (s := s) (p := p) (a := a) (b := b) (x := x) (hR.st st) ha hb hx) rfl ?_
  intro w2 hbel
  replace st := st.call hbel
  clear hbel
  refine Wl.pure (PR.sub (a := ((wt b x : Nat) : Int)) (b := ((wt a x : Nat) : Int)) rfl rfl (gap_fit ha hb x)) ?_
  refine Wl.pure (PR.assI rfl) ?_
  refine Wl.nil ?_
  refine tn ?_
  refine Wc.ret ?_
  refine postL.tmp rfl rfl ?_
  refine RetV.of ?_ st.below
  unfold gapZ; rfl

set_option maxHeartbeats 400000 in
set_option maxRecDepth 4000 in
theorem c_impl_Scheme_sees {s : Int} {p : Int} {a : Nat → Nat} {b : Nat → Nat} {x : Nat} {w : World} (ha : ∀ k, a k < 256) (hb : ∀ k, b k < 256) (hx : x < 256) :
    CE Try.prog 67 [.agg (schV (s) (p) (a) (b)).toArray, .int .u8 (((x : Nat) : Int))] w (RetV w (.bool (decide (0 < gapZ a b x)))) := by
  refine CE.enter 9 [(0, .agg (schV (s) (p) (a) (b)).toArray), (1, .int .u8 (((x : Nat) : Int)))] en_67 Try.func67 rfl rfl (Nat.le_of_ble_eq_true rfl) rfl ?_
  have st := St.start w
  refine Wc.seq ?_
  refine Wc.region rfl ?_
  refine Wl.boxA st rfl ?_
  clear st
  intro b2 w1 st
  refine Wl.pure (PR.assB rfl) ?_
  refine Wl.nil ?_
  refine tn ?_
  refine Wc.seq ?_
  refine Wc.region rfl ?_
  refine Wl.loadA (i := 0) st tA_31 rfl rfl (all_sub schV_len) schV_len ?_
  refine Wl.pure (PR.moveI rfl) ?_
  refine Wl.callV (c_impl_Scheme_gap (s := s) (p := p) (a := a) (b := b) (x := x) ha hb hx) rfl ?_
  intro w2 hbel
  replace st := st.call hbel
  clear hbel
  refine Wl.pure (PR.gtr (a := gapZ a b x) (b := 0) rfl rfl) ?_
  refine Wl.pure (PR.assB rfl) ?_
  refine Wl.nil ?_
  refine tn ?_
  refine Wc.ret ?_
  refine postL.tmp rfl rfl ?_
  exact RetV.of rfl st.below

end Go.Proofs.Ytdlmbdclbnlmlaa
