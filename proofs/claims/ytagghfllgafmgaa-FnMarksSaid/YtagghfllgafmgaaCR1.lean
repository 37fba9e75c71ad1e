/-
  Contracts of functions, printed by a program of ours.
-/
import Derived.Test.YtagghfllgafmgaaCL2
import Derived.Test.YtagghfllgafmgaaTorn
namespace Go.Proofs.Ytagghfllgafmgaa
open Go.RowKit
set_option linter.unusedVariables false
set_option linter.unusedSimpArgs false

set_option maxHeartbeats 400000 in
set_option maxRecDepth 4000 in
theorem c_impl_ValidScheme {s : Int} {p : Int} {a : Nat → Nat} {b : Nat → Nat} {w : World} (hs : -128 ≤ s ∧ s ≤ 127) (hp : -128 ≤ p ∧ p ≤ 127) (ha : ∀ k, a k < 256) (hb : ∀ k, b k < 256) :
    CE Try.prog 91 [.agg (schV (s) (p) (a) (b)).toArray] w (RetV w (.bool (schOk s p a b))) := by
  refine CE.enter 47 [(0, .agg (schV (s) (p) (a) (b)).toArray)] en_91 Try.func91 rfl rfl (Nat.le_of_ble_eq_true rfl) rfl ?_
  have st := St.start w
  refine Wc.seq ?_
  refine Wc.region rfl ?_
  refine Wl.boxA st rfl ?_
  clear st
  intro b1 w1 st
  refine Wl.pure (PR.assB rfl) ?_
  refine Wl.nil ?_
  refine tn ?_
  refine Wc.seq ?_
  refine Wc.seq ?_
  refine Wc.region rfl ?_
  refine Wl.pure (PR.fieldAddr tF_62_0 rfl) ?_
  refine Wl.load (i := 0) st tA_22 rfl rfl (rfl) ?_
  refine Wl.pure (PR.conv (n := s) tI_2 rfl (by simp only [fitI]; omega) Try.underlying22) ?_
  refine Wl.callV (c_impl_within (n := s) (lo := 1) (hi := 6)) rfl ?_
  intro w2 hbel
  replace st := st.call hbel
  clear hbel
  refine Wl.pure (PR.not_ rfl) ?_
  refine Wl.pure (PR.moveB rfl) ?_
  refine Wl.splitB (b := (!decide (1 ≤ s ∧ s ≤ 6))) rfl rfl (fun h3 => ?_) (fun h3 => ?_)
  · simp only [Bool.not_eq_true', Bool.not_eq_false', Bool.not_true, Bool.not_false, decide_eq_true_eq, decide_eq_false_iff_not] at h3
    refine Wl.pure (PR.fieldAddr tF_62_1 rfl) ?_
    refine Wl.on rfl rfl ?_
    refine Wl.load (i := 0) st tA_22 rfl rfl (rfl) ?_
    refine Wl.on rfl rfl ?_
    refine Wl.pure (PR.conv (n := p) tI_2 rfl (by simp only [fitI]; omega) Try.underlying22) ?_
    refine Wl.on rfl rfl ?_
    refine Wl.callV (c_impl_isParts (n := p)) rfl ?_
    intro w4 hbel
    replace st := st.call hbel
    clear hbel
    refine Wl.on rfl rfl ?_
    refine Wl.pure (PR.not_ rfl) ?_
    refine Wl.pure (PR.pickFB rfl rfl) ?_
    refine Wl.nil ?_
    refine tn ?_
    refine Wc.condN (p := 1 ≤ p ∧ p ≤ 8) rfl (fun h5 => ?_) (fun h5 => ?_)
    · refine Wc.seq ?_
      refine Wc.region rfl ?_
      refine Wl.pure (PR.assB rfl) ?_
      refine Wl.nil ?_
      refine tn ?_
      refine Wc.ret ?_
      refine tr ?_
      refine postL.tmp rfl rfl ?_
      refine RetV.of ?_ st.below
      refine congrArg Value.bool ?_
      first | exact schOk_f3 (k := k) (by omega) hy | exact schOk_f1 (by assumption) | exact schOk_f2 (by assumption) | exact schOk_t (by assumption) (by assumption) (fun j hj => hg j (by omega))
    · refine Wc.skip ?_
      refine tn ?_
      refine Wc.seq ?_
      refine Wc.seq ?_
      obtain ⟨n, rfl⟩ : ∃ n : Nat, s = ((n : Nat) : Int) := ⟨s.toNat, by omega⟩
      obtain ⟨m, rfl⟩ : ∃ m : Nat, p = ((m : Nat) : Int) := ⟨p.toNat, by omega⟩
      refine Wc.region rfl ?_
      refine Wl.pure (PR.moveI rfl) ?_
      refine Wl.nil ?_
      refine tn ?_
      refine Wc.block ?_
      refine Wc.loopF (γ := Nat) (fun g => [(1, .pointer (some ⟨b1, 0, none⟩)), (17, .int .i64 (((g : Nat) : Int)))]) (fun g w_ => St [] w w_ [(b1, schV ((n : Nat) : Int) ((m : Nat) : Int) (a) (b), 62)] ∧ (g ≤ 6) ∧ (∀ j, j < g → rowOk n m (a j ||| b j) j)) (fun g => 6 - g) ?_ ?_
      · exact ⟨0, (.cons rfl (.cons rfl (.nil _))), st, (by first | omega | (dsimp only; omega)), (fun j hj => by omega)⟩
      clear st
      rintro k w6 ⟨st, hk, hg⟩
      try dsimp only at st hk hg ⊢
      refine Wc.seq ?_
      refine Wc.region rfl ?_
      refine Wl.pure (PR.lss (a := ((k : Nat) : Int)) (b := 6) rfl rfl) ?_
      refine Wl.nil ?_
      refine tn ?_
      refine Wc.seq ?_
      refine Wc.condD (p := ((k : Nat) : Int) < 6) rfl (fun h7 => ?_) (fun h7 => ?_)
      · refine Wc.skip ?_
        refine tn ?_
        refine Wc.seq ?_
        refine Wc.block ?_
        refine Wc.seq ?_
        refine Wc.region rfl ?_
        refine Wl.pure (PR.moveI rfl) ?_
        refine Wl.pure (PR.assI rfl) ?_
        refine Wl.nil ?_
        refine tn ?_
        refine Wc.seq ?_
        refine Wc.quiet hmix (by kernel_rfl) rfl ?_
        refine Wq.pure (PR.moveI rfl) ?_
        refine Wq.pure (PR.fieldAddr tF_62_2 rfl) ?_
        refine Wq.pure (PR.idxAddrA1 (i := k) tE_56 rfl rfl (by omega)) ?_
        refine Wq.load (i := 0) st tA_5 rfl rfl (schV_get_a (by omega)) ?_
        refine Wq.pure (PR.moveI rfl) ?_
        refine Wq.pure (PR.fieldAddr tF_62_3 rfl) ?_
        refine Wq.pure (PR.idxAddrA1 (i := k) tE_56 rfl rfl (by omega)) ?_
        refine Wq.load (i := 0) st tA_5 rfl rfl (schV_get_b (by omega)) ?_
        refine Wq.pure (PR.or (a := a (k)) (b := b (k)) rfl rfl (by decide) (ha (k)) (hb (k))) ?_
        refine Wq.pure (PR.assI rfl) ?_
        refine Wq.nil (fun w8 hbel => ?_)
        replace st := st.call hbel
        clear hbel
        refine tn ?_
        refine Wc.seq ?_
        refine Wc.region rfl ?_
        refine Wl.pure (PR.moveI rfl) ?_
        refine Wl.pure (PR.fieldAddr tF_62_1 rfl) ?_
        refine Wl.load (i := 0) st tA_22 rfl rfl (rfl) ?_
        refine Wl.callV (c_impl_mask (p := m) (by first | assumption | omega)) rfl ?_
        intro w9 hbel
        replace st := st.call hbel
        clear hbel
        refine Wl.pure (PR.andNot (a := ((a (k)) ||| (b (k)))) (b := (2 ^ m - 1)) rfl rfl (by decide) (or_lt_u8 (ha (k)) (hb (k))) (mask_lt (p := m) (by omega))) ?_
        refine Wl.pure (PR.neq (a := (((bdiff ((a (k)) ||| (b (k))) (2 ^ m - 1)) : Nat) : Int)) (b := 0) rfl rfl) ?_
        refine Wl.pure (PR.moveB rfl) ?_
        refine Wl.splitB (b := (!decide ((((bdiff ((a (k)) ||| (b (k))) (2 ^ m - 1)) : Nat) : Int) = 0))) rfl rfl (fun h10 => ?_) (fun h10 => ?_)
        · simp only [Bool.not_eq_true', Bool.not_eq_false', Bool.not_true, Bool.not_false, decide_eq_true_eq, decide_eq_false_iff_not] at h10
          refine Wl.pure (PR.moveI rfl) ?_
          refine Wl.on rfl rfl ?_
          refine Wl.pure (PR.fieldAddr tF_62_0 rfl) ?_
          refine Wl.on rfl rfl ?_
          refine Wl.load (i := 0) st tA_22 rfl rfl (rfl) ?_
          refine Wl.on rfl rfl ?_
          refine Wl.pure (PR.conv (n := ((n : Nat) : Int)) tI_3 rfl (by simp only [fitI]; omega) Try.underlying22) ?_
          refine Wl.on rfl rfl ?_
          refine Wl.pure (PR.geq (a := ((k : Nat) : Int)) (b := ((n : Nat) : Int)) rfl rfl) ?_
          refine Wl.on rfl rfl ?_
          refine Wl.pure (PR.moveB rfl) ?_
          refine Wl.splitT (q := ((n : Nat) : Int) ≤ ((k : Nat) : Int)) rfl rfl (fun h11 => ?_) (fun h11 => ?_)
          · refine Wl.pure (PR.moveI rfl) ?_
            refine Wl.on rfl rfl ?_
            refine Wl.pure (PR.neq (a := ((((a (k)) ||| (b (k))) : Nat) : Int)) (b := 0) rfl rfl) ?_
            refine Wl.on rfl rfl ?_
            refine Wl.pure (PR.pickTB rfl rfl) ?_
            refine Wl.pure (PR.pickFB rfl rfl) ?_
            refine Wl.nil ?_
            refine tn ?_
            refine Wc.condN (p := ((((a (k)) ||| (b (k))) : Nat) : Int) = 0) rfl (fun h12 => ?_) (fun h12 => ?_)
            · refine Wc.seq ?_
              have hy : ¬ rowOk n m (a k ||| b k) k := by
                intro q
                first | exact absurd ((bdiff_mask (or_lt_u8 (ha k) (hb k)) (by omega)).2 q.1) (by omega) | exact absurd (shr_zero.2 q.1) (by omega) | exact absurd (q.2 (by omega)) (by omega)
              refine Wc.region rfl ?_
              refine Wl.pure (PR.assB rfl) ?_
              refine Wl.nil ?_
              refine tn ?_
              refine Wc.ret ?_
              refine br ?_
              refine tr ?_
              refine tr ?_
              refine br ?_
              refine tr ?_
              refine postL.tmp rfl rfl ?_
              refine RetV.of ?_ st.below
              refine congrArg Value.bool ?_
              first | exact schOk_f3 (k := k) (by omega) hy | exact schOk_f1 (by assumption) | exact schOk_f2 (by assumption) | exact schOk_t (by assumption) (by assumption) (fun j hj => hg j (by omega))
            · refine Wc.skip ?_
              refine bn ?_
              refine tn ?_
              refine Wc.region rfl ?_
              refine Wl.pure (PR.add (a := ((k : Nat) : Int)) (b := 1) rfl rfl (by simp only [fitI]; omega)) ?_
              refine Wl.pure (PR.moveI rfl) ?_
              refine Wl.nil ?_
              refine tn ?_
              have hy : rowOk n m (a k ||| b k) k := ⟨by first | exact (bdiff_mask (or_lt_u8 (ha k) (hb k)) (by omega)).1 (by omega) | exact shr_zero.1 (by omega), fun q => by omega⟩
              exact ⟨k + 1, (.cons rfl (.cons rfl (.nil _))), ⟨st, (by first | omega | (dsimp only; omega)), (all_snoc hg hy)⟩, (by first | omega | (dsimp only; omega))⟩
          · refine Wl.off rfl rfl rfl ?_
            refine Wl.on rfl rfl ?_
            refine Wl.pure (PR.pickFB rfl rfl) ?_
            refine Wl.pure (PR.pickFB rfl rfl) ?_
            refine Wl.nil ?_
            refine tn ?_
            refine Wc.condF rfl ?_
            refine Wc.skip ?_
            refine bn ?_
            refine tn ?_
            refine Wc.region rfl ?_
            refine Wl.pure (PR.add (a := ((k : Nat) : Int)) (b := 1) rfl rfl (by simp only [fitI]; omega)) ?_
            refine Wl.pure (PR.moveI rfl) ?_
            refine Wl.nil ?_
            refine tn ?_
            have hy : rowOk n m (a k ||| b k) k := ⟨by first | exact (bdiff_mask (or_lt_u8 (ha k) (hb k)) (by omega)).1 (by omega) | exact shr_zero.1 (by omega), fun q => by omega⟩
            exact ⟨k + 1, (.cons rfl (.cons rfl (.nil _))), ⟨st, (by first | omega | (dsimp only; omega)), (all_snoc hg hy)⟩, (by first | omega | (dsimp only; omega))⟩
        · simp only [Bool.not_eq_true', Bool.not_eq_false', Bool.not_true, Bool.not_false, decide_eq_true_eq, decide_eq_false_iff_not] at h10
          refine Wl.off rfl rfl rfl ?_
          refine Wl.off rfl rfl rfl ?_
          refine Wl.off rfl rfl rfl ?_
          refine Wl.off rfl rfl rfl ?_
          refine Wl.off rfl rfl rfl ?_
          refine Wl.offU rfl rfl ?_
          refine Wl.offU rfl rfl ?_
          refine Wl.off rfl rfl rfl ?_
          refine Wl.pure (PR.pickTB rfl rfl) ?_
          refine Wl.nil ?_
          refine tn ?_
          refine Wc.condT rfl ?_
          refine Wc.seq ?_
          have hy : ¬ rowOk n m (a k ||| b k) k := by
            intro q
            first | exact absurd ((bdiff_mask (or_lt_u8 (ha k) (hb k)) (by omega)).2 q.1) (by omega) | exact absurd (shr_zero.2 q.1) (by omega) | exact absurd (q.2 (by omega)) (by omega)
          refine Wc.region rfl ?_
          refine Wl.pure (PR.assB rfl) ?_
          refine Wl.nil ?_
          refine tn ?_
          refine Wc.ret ?_
          refine br ?_
          refine tr ?_
          refine tr ?_
          refine br ?_
          refine tr ?_
          refine postL.tmp rfl rfl ?_
          refine RetV.of ?_ st.below
          refine congrArg Value.bool ?_
          first | exact schOk_f3 (k := k) (by omega) hy | exact schOk_f1 (by assumption) | exact schOk_f2 (by assumption) | exact schOk_t (by assumption) (by assumption) (fun j hj => hg j (by omega))
      · refine Wc.exit ?_
        refine tx ?_
        refine tx ?_
        refine bh ?_
        refine tn ?_
        refine Wc.seq ?_
        refine Wc.region rfl ?_
        refine Wl.pure (PR.assB rfl) ?_
        refine Wl.nil ?_
        refine tn ?_
        refine Wc.ret ?_
        refine postL.tmp rfl rfl ?_
        refine RetV.of ?_ st.below
        refine congrArg Value.bool ?_
        first | exact schOk_f3 (k := k) (by omega) hy | exact schOk_f1 (by assumption) | exact schOk_f2 (by assumption) | exact schOk_t (by assumption) (by assumption) (fun j hj => hg j (by omega))
  · simp only [Bool.not_eq_true', Bool.not_eq_false', Bool.not_true, Bool.not_false, decide_eq_true_eq, decide_eq_false_iff_not] at h3
    refine Wl.off rfl rfl rfl ?_
    refine Wl.off rfl rfl rfl ?_
    refine Wl.off rfl rfl rfl ?_
    refine Wl.off rfl rfl rfl ?_
    refine Wl.pure (PR.pickTB rfl rfl) ?_
    refine Wl.nil ?_
    refine tn ?_
    refine Wc.condT rfl ?_
    refine Wc.seq ?_
    refine Wc.region rfl ?_
    refine Wl.pure (PR.assB rfl) ?_
    refine Wl.nil ?_
    refine tn ?_
    refine Wc.ret ?_
    refine tr ?_
    refine postL.tmp rfl rfl ?_
    refine RetV.of ?_ st.below
    refine congrArg Value.bool ?_
    first | exact schOk_f3 (k := k) (by omega) hy | exact schOk_f1 (by assumption) | exact schOk_f2 (by assumption) | exact schOk_t (by assumption) (by assumption) (fun j hj => hg j (by omega))

set_option maxHeartbeats 400000 in
set_option maxRecDepth 4000 in
theorem c_spec_l02Ok {bk : Nat} {o : Nat} {s : Int} {p : Int} {a : Nat → Nat} {b : Nat → Nat} {w : World} (hR : RdA w bk o (schV s p a b)) (hs : -128 ≤ s ∧ s ≤ 127) (hp : -128 ≤ p ∧ p ≤ 127) (ha : ∀ k, a k < 256) (hb : ∀ k, b k < 256) :
    CE Try.prog 96 [.pointer (some ⟨bk, o, none⟩)] w (RetV w (.bool (schOk s p a b))) := by
  refine CE.enter 59 [(0, .pointer (some ⟨bk, o, none⟩))] en_96 Try.func96 rfl rfl (Nat.le_of_ble_eq_true rfl) rfl ?_
  have st := St.start w
  refine Wc.seq ?_
  refine Wc.region rfl ?_
  refine Wl.pure (PR.assB rfl) ?_
  refine Wl.nil ?_
  refine tn ?_
  refine Wc.seq ?_
  refine Wc.seq ?_
  refine Wc.region rfl ?_
  refine Wl.pure (PR.moveP rfl) ?_
  refine Wl.pure (PR.nil_ rfl) ?_
  refine Wl.pure (PR.fieldAddr tF_62_0 rfl) ?_
  refine Wl.loadC tA_22 rfl ((hR.st st).at_ (j := 0) (rfl) rfl) ?_
  refine Wl.pure (PR.conv (n := s) tI_2 rfl (by simp only [fitI]; omega) Try.underlying22) ?_
  refine Wl.callV (c_spec_l00In (n := s) (lo := 1) (hi := 6)) rfl ?_
  intro w1 hbel
  replace st := st.call hbel
  clear hbel
  refine Wl.pure (PR.not_ rfl) ?_
  refine Wl.pure (PR.moveB rfl) ?_
  refine Wl.splitB (b := (!decide (1 ≤ s ∧ s ≤ 6))) rfl rfl (fun h2 => ?_) (fun h2 => ?_)
  · simp only [Bool.not_eq_true', Bool.not_eq_false', Bool.not_true, Bool.not_false, decide_eq_true_eq, decide_eq_false_iff_not] at h2
    refine Wl.pure (PR.moveP rfl) ?_
    refine Wl.on rfl rfl ?_
    refine Wl.pure (PR.nil_ rfl) ?_
    refine Wl.on rfl rfl ?_
    refine Wl.pure (PR.fieldAddr tF_62_1 rfl) ?_
    refine Wl.on rfl rfl ?_
    refine Wl.loadC tA_22 rfl ((hR.st st).at_ (j := 1) (rfl) rfl) ?_
    refine Wl.on rfl rfl ?_
    refine Wl.pure (PR.conv (n := p) tI_2 rfl (by simp only [fitI]; omega) Try.underlying22) ?_
    refine Wl.on rfl rfl ?_
    refine Wl.callV (c_spec_l01Parts (n := p)) rfl ?_
    intro w3 hbel
    replace st := st.call hbel
    clear hbel
    refine Wl.on rfl rfl ?_
    refine Wl.pure (PR.not_ rfl) ?_
    refine Wl.pure (PR.pickFB rfl rfl) ?_
    refine Wl.nil ?_
    refine tn ?_
    refine Wc.condN (p := 1 ≤ p ∧ p ≤ 8) rfl (fun h4 => ?_) (fun h4 => ?_)
    · refine Wc.seq ?_
      refine Wc.region rfl ?_
      refine Wl.pure (PR.assB rfl) ?_
      refine Wl.nil ?_
      refine tn ?_
      refine Wc.ret ?_
      refine tr ?_
      refine postL.tmp rfl rfl ?_
      refine RetV.of ?_ st.below
      refine congrArg Value.bool ?_
      first | exact schOk_f3 (k := k) (by omega) hy | exact schOk_f1 (by assumption) | exact schOk_f2 (by assumption) | exact schOk_t (by assumption) (by assumption) (fun j hj => hg j (by omega))
    · refine Wc.skip ?_
      refine tn ?_
      refine Wc.seq ?_
      refine Wc.seq ?_
      obtain ⟨n, rfl⟩ : ∃ n : Nat, s = ((n : Nat) : Int) := ⟨s.toNat, by omega⟩
      obtain ⟨m, rfl⟩ : ∃ m : Nat, p = ((m : Nat) : Int) := ⟨p.toNat, by omega⟩
      refine Wc.region rfl ?_
      refine Wl.pure (PR.assI rfl) ?_
      refine Wl.nil ?_
      refine tn ?_
      refine Wc.block ?_
      refine Wc.loopF (γ := Nat) (fun g => [(0, .pointer (some ⟨bk, o, none⟩)), (3, .int .i64 (((g : Nat) : Int)))]) (fun g w_ => St [] w w_ [] ∧ (g ≤ 6) ∧ (∀ j, j < g → rowOk n m (a j ||| b j) j)) (fun g => 6 - g) ?_ ?_
      · exact ⟨0, (.cons rfl (.cons rfl (.nil _))), st, (by first | omega | (dsimp only; omega)), (fun j hj => by omega)⟩
      clear st
      rintro k w5 ⟨st, hk, hg⟩
      try dsimp only at st hk hg ⊢
      refine Wc.seq ?_
      refine Wc.seq ?_
      refine Wc.region rfl ?_
      refine Wl.pure (PR.moveI rfl) ?_
      refine Wl.pure (PR.lss (a := ((k : Nat) : Int)) (b := 6) rfl rfl) ?_
      refine Wl.nil ?_
      refine tn ?_
      refine Wc.condD (p := ((k : Nat) : Int) < 6) rfl (fun h6 => ?_) (fun h6 => ?_)
      · refine Wc.skip ?_
        refine tn ?_
        refine Wc.seq ?_
        refine Wc.block ?_
        refine Wc.seq ?_
        refine Wc.quiet hmix (by kernel_rfl) rfl ?_
        refine Wq.pure (PR.moveP rfl) ?_
        refine Wq.pure (PR.moveI rfl) ?_
        refine Wq.pure (PR.nil_ rfl) ?_
        refine Wq.pure (PR.fieldAddr tF_62_2 rfl) ?_
        refine Wq.pure (PR.idxAddrA1 (i := k) tE_56 rfl rfl (by omega)) ?_
        refine Wq.loadC tA_5 rfl ((hR.st st).at_ (schV_get_a (by omega)) (Nat.add_assoc _ _ _).symm) ?_
        refine Wq.pure (PR.moveP rfl) ?_
        refine Wq.pure (PR.moveI rfl) ?_
        refine Wq.pure (PR.nil_ rfl) ?_
        refine Wq.pure (PR.fieldAddr tF_62_3 rfl) ?_
        refine Wq.pure (PR.idxAddrA1 (i := k) tE_56 rfl rfl (by omega)) ?_
        refine Wq.loadC tA_5 rfl ((hR.st st).at_ (schV_get_b (by omega)) (Nat.add_assoc _ _ _).symm) ?_
        refine Wq.pure (PR.or (a := a (k)) (b := b (k)) rfl rfl (by decide) (ha (k)) (hb (k))) ?_
        refine Wq.pure (PR.assI rfl) ?_
        refine Wq.nil (fun w7 hbel => ?_)
        replace st := st.call hbel
        clear hbel
        refine tn ?_
        refine Wc.seq ?_
        refine Wc.region rfl ?_
        refine Wl.pure (PR.moveI rfl) ?_
        refine Wl.pure (PR.moveP rfl) ?_
        refine Wl.pure (PR.nil_ rfl) ?_
        refine Wl.pure (PR.fieldAddr tF_62_1 rfl) ?_
        refine Wl.loadC tA_22 rfl ((hR.st st).at_ (j := 1) (rfl) rfl) ?_
        refine Wl.pure (PR.conv (n := ((m : Nat) : Int)) tI_76 rfl (by simp only [fitI]; omega) Try.underlying22) ?_
        refine Wl.pure (PR.shr (a := ((a (k)) ||| (b (k)))) (n := m) rfl rfl (by decide) (or_lt_u8 (ha (k)) (hb (k)))) ?_
        refine Wl.pure (PR.neq (a := (((((a (k)) ||| (b (k))) >>> m) : Nat) : Int)) (b := 0) rfl rfl) ?_
        refine Wl.pure (PR.moveB rfl) ?_
        refine Wl.splitB (b := (!decide ((((((a (k)) ||| (b (k))) >>> m) : Nat) : Int) = 0))) rfl rfl (fun h8 => ?_) (fun h8 => ?_)
        · simp only [Bool.not_eq_true', Bool.not_eq_false', Bool.not_true, Bool.not_false, decide_eq_true_eq, decide_eq_false_iff_not] at h8
          refine Wl.pure (PR.moveI rfl) ?_
          refine Wl.on rfl rfl ?_
          refine Wl.pure (PR.moveP rfl) ?_
          refine Wl.on rfl rfl ?_
          refine Wl.pure (PR.nil_ rfl) ?_
          refine Wl.on rfl rfl ?_
          refine Wl.pure (PR.fieldAddr tF_62_0 rfl) ?_
          refine Wl.on rfl rfl ?_
          refine Wl.loadC tA_22 rfl ((hR.st st).at_ (j := 0) (rfl) rfl) ?_
          refine Wl.on rfl rfl ?_
          refine Wl.pure (PR.conv (n := ((n : Nat) : Int)) tI_3 rfl (by simp only [fitI]; omega) Try.underlying22) ?_
          refine Wl.on rfl rfl ?_
          refine Wl.pure (PR.geq (a := ((k : Nat) : Int)) (b := ((n : Nat) : Int)) rfl rfl) ?_
          refine Wl.on rfl rfl ?_
          refine Wl.pure (PR.moveB rfl) ?_
          refine Wl.splitT (q := ((n : Nat) : Int) ≤ ((k : Nat) : Int)) rfl rfl (fun h9 => ?_) (fun h9 => ?_)
          · refine Wl.pure (PR.moveI rfl) ?_
            refine Wl.on rfl rfl ?_
            refine Wl.pure (PR.neq (a := ((((a (k)) ||| (b (k))) : Nat) : Int)) (b := 0) rfl rfl) ?_
            refine Wl.on rfl rfl ?_
            refine Wl.pure (PR.pickTB rfl rfl) ?_
            refine Wl.pure (PR.pickFB rfl rfl) ?_
            refine Wl.nil ?_
            refine tn ?_
            refine Wc.condN (p := ((((a (k)) ||| (b (k))) : Nat) : Int) = 0) rfl (fun h10 => ?_) (fun h10 => ?_)
            · refine Wc.seq ?_
              have hy : ¬ rowOk n m (a k ||| b k) k := by
                intro q
                first | exact absurd ((bdiff_mask (or_lt_u8 (ha k) (hb k)) (by omega)).2 q.1) (by omega) | exact absurd (shr_zero.2 q.1) (by omega) | exact absurd (q.2 (by omega)) (by omega)
              refine Wc.region rfl ?_
              refine Wl.pure (PR.assB rfl) ?_
              refine Wl.nil ?_
              refine tn ?_
              refine Wc.ret ?_
              refine br ?_
              refine tr ?_
              refine tr ?_
              refine br ?_
              refine tr ?_
              refine postL.tmp rfl rfl ?_
              refine RetV.of ?_ st.below
              refine congrArg Value.bool ?_
              first | exact schOk_f3 (k := k) (by omega) hy | exact schOk_f1 (by assumption) | exact schOk_f2 (by assumption) | exact schOk_t (by assumption) (by assumption) (fun j hj => hg j (by omega))
            · refine Wc.skip ?_
              refine bn ?_
              refine tn ?_
              refine Wc.region rfl ?_
              refine Wl.pure (PR.moveI rfl) ?_
              refine Wl.pure (PR.add (a := ((k : Nat) : Int)) (b := 1) rfl rfl (by simp only [fitI]; omega)) ?_
              refine Wl.pure (PR.assI rfl) ?_
              refine Wl.nil ?_
              refine tn ?_
              have hy : rowOk n m (a k ||| b k) k := ⟨by first | exact (bdiff_mask (or_lt_u8 (ha k) (hb k)) (by omega)).1 (by omega) | exact shr_zero.1 (by omega), fun q => by omega⟩
              exact ⟨k + 1, (.cons rfl (.cons rfl (.nil _))), ⟨st, (by first | omega | (dsimp only; omega)), (all_snoc hg hy)⟩, (by first | omega | (dsimp only; omega))⟩
          · refine Wl.off rfl rfl rfl ?_
            refine Wl.on rfl rfl ?_
            refine Wl.pure (PR.pickFB rfl rfl) ?_
            refine Wl.pure (PR.pickFB rfl rfl) ?_
            refine Wl.nil ?_
            refine tn ?_
            refine Wc.condF rfl ?_
            refine Wc.skip ?_
            refine bn ?_
            refine tn ?_
            refine Wc.region rfl ?_
            refine Wl.pure (PR.moveI rfl) ?_
            refine Wl.pure (PR.add (a := ((k : Nat) : Int)) (b := 1) rfl rfl (by simp only [fitI]; omega)) ?_
            refine Wl.pure (PR.assI rfl) ?_
            refine Wl.nil ?_
            refine tn ?_
            have hy : rowOk n m (a k ||| b k) k := ⟨by first | exact (bdiff_mask (or_lt_u8 (ha k) (hb k)) (by omega)).1 (by omega) | exact shr_zero.1 (by omega), fun q => by omega⟩
            exact ⟨k + 1, (.cons rfl (.cons rfl (.nil _))), ⟨st, (by first | omega | (dsimp only; omega)), (all_snoc hg hy)⟩, (by first | omega | (dsimp only; omega))⟩
        · simp only [Bool.not_eq_true', Bool.not_eq_false', Bool.not_true, Bool.not_false, decide_eq_true_eq, decide_eq_false_iff_not] at h8
          refine Wl.off rfl rfl rfl ?_
          refine Wl.off rfl rfl rfl ?_
          refine Wl.off rfl rfl rfl ?_
          refine Wl.off rfl rfl rfl ?_
          refine Wl.off rfl rfl rfl ?_
          refine Wl.off rfl rfl rfl ?_
          refine Wl.off rfl rfl rfl ?_
          refine Wl.offU rfl rfl ?_
          refine Wl.offU rfl rfl ?_
          refine Wl.off rfl rfl rfl ?_
          refine Wl.pure (PR.pickTB rfl rfl) ?_
          refine Wl.nil ?_
          refine tn ?_
          refine Wc.condT rfl ?_
          refine Wc.seq ?_
          have hy : ¬ rowOk n m (a k ||| b k) k := by
            intro q
            first | exact absurd ((bdiff_mask (or_lt_u8 (ha k) (hb k)) (by omega)).2 q.1) (by omega) | exact absurd (shr_zero.2 q.1) (by omega) | exact absurd (q.2 (by omega)) (by omega)
          refine Wc.region rfl ?_
          refine Wl.pure (PR.assB rfl) ?_
          refine Wl.nil ?_
          refine tn ?_
          refine Wc.ret ?_
          refine br ?_
          refine tr ?_
          refine tr ?_
          refine br ?_
          refine tr ?_
          refine postL.tmp rfl rfl ?_
          refine RetV.of ?_ st.below
          refine congrArg Value.bool ?_
          first | exact schOk_f3 (k := k) (by omega) hy | exact schOk_f1 (by assumption) | exact schOk_f2 (by assumption) | exact schOk_t (by assumption) (by assumption) (fun j hj => hg j (by omega))
      · refine Wc.exit ?_
        refine tx ?_
        refine tx ?_
        refine bh ?_
        refine tn ?_
        refine Wc.seq ?_
        refine Wc.region rfl ?_
        refine Wl.pure (PR.assB rfl) ?_
        refine Wl.nil ?_
        refine tn ?_
        refine Wc.ret ?_
        refine postL.tmp rfl rfl ?_
        refine RetV.of ?_ st.below
        refine congrArg Value.bool ?_
        first | exact schOk_f3 (k := k) (by omega) hy | exact schOk_f1 (by assumption) | exact schOk_f2 (by assumption) | exact schOk_t (by assumption) (by assumption) (fun j hj => hg j (by omega))
  · simp only [Bool.not_eq_true', Bool.not_eq_false', Bool.not_true, Bool.not_false, decide_eq_true_eq, decide_eq_false_iff_not] at h2
    refine Wl.off rfl rfl rfl ?_
    refine Wl.off rfl rfl rfl ?_
    refine Wl.off rfl rfl rfl ?_
    refine Wl.off rfl rfl rfl ?_
    refine Wl.off rfl rfl rfl ?_
    refine Wl.off rfl rfl rfl ?_
    refine Wl.pure (PR.pickTB rfl rfl) ?_
    refine Wl.nil ?_
    refine tn ?_
    refine Wc.condT rfl ?_
    refine Wc.seq ?_
    refine Wc.region rfl ?_
    refine Wl.pure (PR.assB rfl) ?_
    refine Wl.nil ?_
    refine tn ?_
    refine Wc.ret ?_
    refine tr ?_
    refine postL.tmp rfl rfl ?_
    refine RetV.of ?_ st.below
    refine congrArg Value.bool ?_
    first | exact schOk_f3 (k := k) (by omega) hy | exact schOk_f1 (by assumption) | exact schOk_f2 (by assumption) | exact schOk_t (by assumption) (by assumption) (fun j hj => hg j (by omega))

set_option maxHeartbeats 400000 in
set_option maxRecDepth 4000 in
theorem c_spec_ValidScheme {s : Int} {p : Int} {a : Nat → Nat} {b : Nat → Nat} {w : World} (hs : -128 ≤ s ∧ s ≤ 127) (hp : -128 ≤ p ∧ p ≤ 127) (ha : ∀ k, a k < 256) (hb : ∀ k, b k < 256) :
    CE Try.prog 67 [.agg (schV (s) (p) (a) (b)).toArray] w (RetV w (.bool (schOk s p a b))) := by
  refine CE.enter 4 [(0, .agg (schV (s) (p) (a) (b)).toArray)] en_67 Try.func67 rfl rfl (Nat.le_of_ble_eq_true rfl) rfl ?_
  have st := St.start w
  refine Wc.seq ?_
  refine Wc.region rfl ?_
  refine Wl.boxA st rfl ?_
  clear st
  intro b1 w1 st
  refine Wl.pure (PR.assB rfl) ?_
  refine Wl.nil ?_
  refine tn ?_
  refine Wc.seq ?_
  refine Wc.region rfl ?_
  refine Wl.callV (c_spec_l02Ok (bk := b1) (o := 0) (s := s) (p := p) (a := a) (b := b) (st.rdA (i := 0) rfl (all_sub schV_len)) (by first | assumption | omega) (by first | assumption | omega) ha hb) rfl ?_
  intro w2 hbel
  replace st := st.call hbel
  clear hbel
  refine Wl.pure (PR.assB rfl) ?_
  refine Wl.nil ?_
  refine tn ?_
  refine Wc.ret ?_
  refine postL.tmp rfl rfl ?_
  exact RetV.of rfl st.below

set_option maxHeartbeats 400000 in
set_option maxRecDepth 4000 in
theorem c_laws_toByteA6 {c : Nat → Nat} {w : World} (hc : ∀ k, c k < 256) :
    CE Try.prog 60 [.agg (arrU .u8 6 c).toArray] w (RetV w (.agg (arrU .u8 6 c).toArray)) := by
  refine CE.enter 15 [(0, .agg (arrU .u8 6 c).toArray)] en_60 Try.func60 rfl rfl (Nat.le_of_ble_eq_true rfl) rfl ?_
  have st := St.start w
  refine Wc.seq ?_
  refine Wc.region rfl ?_
  refine Wl.boxA st rfl ?_
  clear st
  intro b1 w1 st
  refine Wl.alloc st tZ_56 rfl ?_
  clear st
  intro b2 w2 st
  refine Wl.nil ?_
  refine tn ?_
  refine Wc.seq ?_
  refine Wc.region rfl ?_
  refine Wl.alloc st tZ_56 rfl ?_
  clear st
  intro b3 w3 st
  refine Wl.nil ?_
  refine tn ?_
  refine Wc.seq ?_
  refine Wc.seq ?_
  refine Wc.region rfl ?_
  refine Wl.pure (PR.assI rfl) ?_
  refine Wl.nil ?_
  refine tn ?_
  refine Wc.block ?_
  refine Wc.loopF (γ := Nat × (Nat → Nat)) (fun g => [(1, .pointer (some ⟨b1, 0, none⟩)), (2, .pointer (some ⟨b2, 0, none⟩)), (3, .pointer (some ⟨b3, 0, none⟩)), (4, .int .i64 (((g.1 : Nat) : Int)))]) (fun g w_ => St [] w w_ [(b3, arrU .u8 6 g.2, 56), (b2, arrU .u8 6 (fun _ => 0), 56), (b1, arrU .u8 6 c, 56)] ∧ (g.1 ≤ 6) ∧ (∀ j, j < g.1 → g.2 j = c j)) (fun g => 6 - g.1) ?_ ?_
  · exact ⟨(0, (fun _ => 0)), (.cons rfl (.cons rfl (.cons rfl (.cons rfl (.nil _))))), st, (by first | omega | (dsimp only; omega)), (fun j hj => by omega)⟩
  clear st
  rintro ⟨k, d⟩ w4 ⟨st, hk, hg⟩
  try dsimp only at st hk hg ⊢
  refine Wc.seq ?_
  refine Wc.seq ?_
  refine Wc.region rfl ?_
  refine Wl.pure (PR.moveI rfl) ?_
  refine Wl.pure (PR.lss (a := ((k : Nat) : Int)) (b := 6) rfl rfl) ?_
  refine Wl.nil ?_
  refine tn ?_
  refine Wc.condD (p := ((k : Nat) : Int) < 6) rfl (fun h5 => ?_) (fun h5 => ?_)
  · refine Wc.skip ?_
    refine tn ?_
    refine Wc.seq ?_
    refine Wc.block ?_
    refine Wc.region rfl ?_
    refine Wl.pure (PR.moveI rfl) ?_
    refine Wl.pure (PR.moveI rfl) ?_
    refine Wl.pure (PR.idxAddrA1 (i := k) tE_56 rfl rfl (by omega)) ?_
    refine Wl.load (i := 2) st tA_5 rfl rfl (arrU_get0 (by omega)) ?_
    refine Wl.pure (PR.idxAddrA1 (i := k) tE_56 rfl rfl (by omega)) ?_
    refine Wl.store (i := 0) (cs' := arrU .u8 6 (upd d (k) (c (k)))) st tA_5 rfl rfl rfl rfl (lt_of_len (arrU_len _) (by omega)) (arrU_set0) ?_
    clear st
    intro w6 st
    replace st : St [] w w6 [(b3, arrU .u8 6 (upd d (k) (c (k))), 56), (b2, arrU .u8 6 (fun _ => 0), 56), (b1, arrU .u8 6 c, 56)] := st
    refine Wl.nil ?_
    refine bn ?_
    refine tn ?_
    refine Wc.region rfl ?_
    refine Wl.pure (PR.moveI rfl) ?_
    refine Wl.pure (PR.add (a := ((k : Nat) : Int)) (b := 1) rfl rfl (by simp only [fitI]; omega)) ?_
    refine Wl.pure (PR.assI rfl) ?_
    refine Wl.nil ?_
    refine tn ?_
    exact ⟨(k + 1, upd d (k) (c (k))), (.cons rfl (.cons rfl (.cons rfl (.cons rfl (.nil _))))), ⟨st, (by first | omega | (dsimp only; omega)), (upd_snoc hg rfl)⟩, (by first | omega | (dsimp only; omega))⟩
  · refine Wc.exit ?_
    refine tx ?_
    refine tx ?_
    refine bh ?_
    refine tn ?_
    refine Wc.seq ?_
    refine Wc.region rfl ?_
    refine Wl.loadA (i := 0) st tA_56 rfl rfl (all_sub (arrU_len _)) (arrU_len _) ?_
    refine Wl.storeA (i := 1) (cs' := arrU .u8 6 d) st tA_56 rfl rfl (arrU_len _) (arrU_one _) rfl (le_of_len (arrU_len _) (by omega)) (all_put (arrU_len _)) ?_
    clear st
    intro w7 st
    replace st : St [] w w7 [(b3, arrU .u8 6 d, 56), (b2, arrU .u8 6 d, 56), (b1, arrU .u8 6 c, 56)] := st
    refine Wl.nil ?_
    refine tn ?_
    refine Wc.ret ?_
    refine postL.cell (i := 1) st rfl tA_56 rfl rfl (arrU_len _) ?_
    refine RetV.of ?_ st.below
    exact congrArg (fun l : List Value => Value.agg l.toArray) (arrU_congr fun j hj => hg j (by omega))

set_option maxHeartbeats 400000 in
set_option maxRecDepth 4000 in
theorem c_laws_toScheme {s : Int} {p : Int} {a : Nat → Nat} {b : Nat → Nat} {w : World} (ha : ∀ k, a k < 256) (hb : ∀ k, b k < 256) :
    CE Try.prog 30 [.agg (schV (s) (p) (a) (b)).toArray] w (RetV w (.agg (schV (s) (p) (a) (b)).toArray)) := by
  refine CE.enter 19 [(0, .agg (schV (s) (p) (a) (b)).toArray)] en_30 Try.func30 rfl rfl (Nat.le_of_ble_eq_true rfl) rfl ?_
  have st := St.start w
  refine Wc.seq ?_
  refine Wc.region rfl ?_
  refine Wl.boxA st rfl ?_
  clear st
  intro b1 w1 st
  refine Wl.alloc st tZ_62 rfl ?_
  clear st
  intro b2 w2 st
  refine Wl.nil ?_
  refine tn ?_
  refine Wc.seq ?_
  refine Wc.region rfl ?_
  refine Wl.alloc st tZ_62 rfl ?_
  clear st
  intro b3 w3 st
  refine Wl.nil ?_
  refine tn ?_
  refine Wc.seq ?_
  refine Wc.region rfl ?_
  refine Wl.pure (PR.fieldAddr tF_58_0 rfl) ?_
  refine Wl.load (i := 2) st tA_22 rfl rfl (rfl) ?_
  refine Wl.pure (PR.fieldAddr tF_62_0 rfl) ?_
  refine Wl.store (i := 0) (cs' := schV (s) (0) ((fun _ => 0)) ((fun _ => 0))) st tA_22 rfl rfl rfl rfl (lt_of_len schV_len (by omega)) (rfl) ?_
  clear st
  intro w4 st
  replace st : St [] w w4 [(b3, schV (s) (0) ((fun _ => 0)) ((fun _ => 0)), 62), (b2, schV (0) (0) ((fun _ => 0)) ((fun _ => 0)), 62), (b1, schV (s) (p) (a) (b), 58)] := st
  refine Wl.nil ?_
  refine tn ?_
  refine Wc.seq ?_
  refine Wc.region rfl ?_
  refine Wl.pure (PR.fieldAddr tF_58_1 rfl) ?_
  refine Wl.load (i := 2) st tA_22 rfl rfl (rfl) ?_
  refine Wl.pure (PR.fieldAddr tF_62_1 rfl) ?_
  refine Wl.store (i := 0) (cs' := schV (s) (p) ((fun _ => 0)) ((fun _ => 0))) st tA_22 rfl rfl rfl rfl (lt_of_len schV_len (by omega)) (rfl) ?_
  clear st
  intro w5 st
  replace st : St [] w w5 [(b3, schV (s) (p) ((fun _ => 0)) ((fun _ => 0)), 62), (b2, schV (0) (0) ((fun _ => 0)) ((fun _ => 0)), 62), (b1, schV (s) (p) (a) (b), 58)] := st
  refine Wl.nil ?_
  refine tn ?_
  refine Wc.seq ?_
  refine Wc.region rfl ?_
  refine Wl.pure (PR.fieldAddr tF_58_2 rfl) ?_
  refine Wl.loadA (i := 2) st tA_56 rfl rfl schV_sub_a (arrU_len _) ?_
  refine Wl.callV (c_laws_toByteA6 (c := a) ha) rfl ?_
  intro w6 hbel
  replace st := st.call hbel
  clear hbel
  refine Wl.pure (PR.fieldAddr tF_62_2 rfl) ?_
  refine Wl.storeA (i := 0) (cs' := schV (s) (p) (a) ((fun _ => 0))) st tA_56 rfl rfl (arrU_len _) (arrU_one _) rfl (le_of_len schV_len (by omega)) schV_put_a ?_
  clear st
  intro w7 st
  replace st : St [] w w7 [(b3, schV (s) (p) (a) ((fun _ => 0)), 62), (b2, schV (0) (0) ((fun _ => 0)) ((fun _ => 0)), 62), (b1, schV (s) (p) (a) (b), 58)] := st
  refine Wl.nil ?_
  refine tn ?_
  refine Wc.seq ?_
  refine Wc.region rfl ?_
  refine Wl.pure (PR.fieldAddr tF_58_3 rfl) ?_
  refine Wl.loadA (i := 2) st tA_56 rfl rfl schV_sub_b (arrU_len _) ?_
  refine Wl.callV (c_laws_toByteA6 (c := b) hb) rfl ?_
  intro w8 hbel
  replace st := st.call hbel
  clear hbel
  refine Wl.pure (PR.fieldAddr tF_62_3 rfl) ?_
  refine Wl.storeA (i := 0) (cs' := schV (s) (p) (a) (b)) st tA_56 rfl rfl (arrU_len _) (arrU_one _) rfl (le_of_len schV_len (by omega)) schV_put_b ?_
  clear st
  intro w9 st
  replace st : St [] w w9 [(b3, schV (s) (p) (a) (b), 62), (b2, schV (0) (0) ((fun _ => 0)) ((fun _ => 0)), 62), (b1, schV (s) (p) (a) (b), 58)] := st
  refine Wl.nil ?_
  refine tn ?_
  refine Wc.seq ?_
  refine Wc.region rfl ?_
  refine Wl.loadA (i := 0) st tA_62 rfl rfl (all_sub schV_len) schV_len ?_
  refine Wl.storeA (i := 1) (cs' := schV (s) (p) (a) (b)) st tA_62 rfl rfl schV_len schV_one rfl (le_of_len schV_len (by omega)) (all_put schV_len) ?_
  clear st
  intro w10 st
  replace st : St [] w w10 [(b3, schV (s) (p) (a) (b), 62), (b2, schV (s) (p) (a) (b), 62), (b1, schV (s) (p) (a) (b), 58)] := st
  refine Wl.nil ?_
  refine tn ?_
  refine Wc.ret ?_
  refine postL.cell (i := 1) st rfl tA_62 rfl rfl schV_len ?_
  exact RetV.of rfl st.below

set_option maxHeartbeats 400000 in
set_option maxRecDepth 4000 in
theorem c_impl_haveParts {A : Option Addr} {n : Nat} {cp : Nat} {p : Nat → Int} {c : Nat → Nat → Nat} {q : Int} {w : World} (hR : RdS w A n (layS n p c)) (hp : ∀ i, i < n → -128 ≤ p i ∧ p i ≤ 127) (hc : ∀ i k, c i k < 256) (hn : n ≤ 1048576) :
    CE Try.prog 92 [.slice (A) (n) (cp), .int .i8 (q)] w (RetV w (.bool (allP n p q))) := by
  refine CE.enter 18 [(0, .slice (A) (n) (cp)), (1, .int .i8 (q))] en_92 Try.func92 rfl rfl (Nat.le_of_ble_eq_true rfl) rfl ?_
  have st := St.start w
  refine Wc.seq ?_
  refine Wc.region rfl ?_
  refine Wl.pure (PR.assB rfl) ?_
  refine Wl.nil ?_
  refine tn ?_
  refine Wc.seq ?_
  refine Wc.seq ?_
  refine Wc.region rfl ?_
  refine Wl.pure (PR.moveL rfl) ?_
  refine Wl.pure (PR.lenL tS_37 rfl) ?_
  refine Wl.pure (PR.moveI rfl) ?_
  refine Wl.nil ?_
  refine tn ?_
  refine Wc.block ?_
  refine Wc.loopF (γ := Nat) (fun g => [(1, .int .i8 (q)), (7, .slice (A) (n) (cp)), (8, .int .i64 (((n : Nat) : Int))), (9, .int .i64 (((g : Nat) : Int)))]) (fun g w_ => St [] w w_ [] ∧ (g ≤ n) ∧ (∀ j, j < g → p j = q)) (fun g => n - g) ?_ ?_
  · exact ⟨0, (.cons rfl (.cons rfl (.cons rfl (.cons rfl (.nil _))))), st, (by first | omega | (dsimp only; omega)), (fun j hj => by omega)⟩
  clear st
  rintro k w1 ⟨st, hk, hg⟩
  try dsimp only at st hk hg ⊢
  refine Wc.seq ?_
  refine Wc.region rfl ?_
  refine Wl.pure (PR.lss (a := ((k : Nat) : Int)) (b := ((n : Nat) : Int)) rfl rfl) ?_
  refine Wl.nil ?_
  refine tn ?_
  refine Wc.seq ?_
  refine Wc.condD (p := ((k : Nat) : Int) < ((n : Nat) : Int)) rfl (fun h2 => ?_) (fun h2 => ?_)
  · refine Wc.skip ?_
    refine tn ?_
    refine Wc.seq ?_
    refine Wc.block ?_
    refine Wc.seq ?_
    refine Wc.region rfl ?_
    obtain ⟨bs3, os4, rfl, hs5⟩ := hR (by omega)
    have := hp (k) (by omega)
    refine Wl.pure (PR.idxAddrS (i := k) tS_37 rfl rfl (by omega)) ?_
    refine Wl.loadAC (vs := layV (p k) ((c k))) tA_29 rfl layV_len ((hs5.st st).sub (recV_sub (n := n) (i := k) (layS_row _ _) (by omega)) rfl) ?_
    refine Wl.alloc st tZ_29 rfl ?_
    clear st
    intro b6 w6 st
    refine Wl.storeA (i := 0) (cs' := layV (p k) ((c k))) st tA_29 rfl rfl layV_len layV_one rfl (le_of_len layV_len (by omega)) (all_put layV_len) ?_
    clear st
    intro w7 st
    replace st : St [] w w7 [(b6, layV (p k) ((c k)), 29)] := st
    refine Wl.nil ?_
    refine tn ?_
    refine Wc.seq ?_
    refine Wc.region rfl ?_
    refine Wl.pure (PR.fieldAddr tF_29_0 rfl) ?_
    refine Wl.load (i := 0) st tA_22 rfl rfl (rfl) ?_
    refine Wl.pure (PR.moveI rfl) ?_
    refine Wl.pure (PR.neq (a := p k) (b := q) rfl rfl) ?_
    refine Wl.nil ?_
    refine tn ?_
    refine Wc.condN (p := p k = q) rfl (fun h8 => ?_) (fun h8 => ?_)
    · refine Wc.seq ?_
      refine Wc.region rfl ?_
      refine Wl.pure (PR.assB rfl) ?_
      refine Wl.nil ?_
      refine tn ?_
      refine Wc.ret ?_
      refine br ?_
      refine tr ?_
      refine tr ?_
      refine br ?_
      refine tr ?_
      refine postL.tmp rfl rfl ?_
      refine RetV.of ?_ st.below
      refine congrArg Value.bool ?_
      exact allP_f (k := k) (by omega) (by omega)
    · refine Wc.skip ?_
      refine bn ?_
      refine tn ?_
      refine Wc.region rfl ?_
      refine Wl.pure (PR.add (a := ((k : Nat) : Int)) (b := 1) rfl rfl (by simp only [fitI]; omega)) ?_
      refine Wl.pure (PR.moveI rfl) ?_
      refine Wl.nil ?_
      refine tn ?_
      replace st := st.tail
      exact ⟨k + 1, (.cons rfl (.cons rfl (.cons rfl (.cons rfl (.nil _))))), ⟨st, (by first | omega | (dsimp only; omega)), (all_snoc hg (by omega))⟩, (by first | omega | (dsimp only; omega))⟩
  · refine Wc.exit ?_
    refine tx ?_
    refine tx ?_
    refine bh ?_
    refine tn ?_
    refine Wc.seq ?_
    refine Wc.region rfl ?_
    refine Wl.pure (PR.assB rfl) ?_
    refine Wl.nil ?_
    refine tn ?_
    refine Wc.ret ?_
    refine postL.tmp rfl rfl ?_
    refine RetV.of ?_ st.below
    refine congrArg Value.bool ?_
    exact allP_t (fun j hj => hg j (by omega))

set_option maxHeartbeats 400000 in
set_option maxRecDepth 4000 in
theorem c_impl_sharedCode {s : Int} {p : Int} {a : Nat → Nat} {b : Nat → Nat} {A : Option Addr} {n : Nat} {cp : Nat} {y : Nat → Int} {c : Nat → Nat → Nat} {w : World} (hs : -128 ≤ s ∧ s ≤ 127) (hp : -128 ≤ p ∧ p ≤ 127) (ha : ∀ k, a k < 256) (hb : ∀ k, b k < 256) (hRL : RdS w A n (layS n y c)) (hg : ∀ i, i < n → -128 ≤ y i ∧ y i ≤ 127) (hc : ∀ i k, c i k < 256) (hn : n ≤ 1048576) :
    CE Try.prog 61 [.agg (schV (s) (p) (a) (b)).toArray, .slice (A) (n) (cp)] w (RetV w (.int .i64 (((bothC s p a b n y c : Nat) : Int)))) := by
  refine CE.enter 30 [(0, .agg (schV (s) (p) (a) (b)).toArray), (1, .slice (A) (n) (cp))] en_61 Try.func61 rfl rfl (Nat.le_of_ble_eq_true rfl) rfl ?_
  have st := St.start w
  refine Wc.seq ?_
  refine Wc.region rfl ?_
  refine Wl.boxA st rfl ?_
  clear st
  intro b2 w1 st
  refine Wl.pure (PR.assI rfl) ?_
  refine Wl.nil ?_
  refine tn ?_
  refine Wc.seq ?_
  refine Wc.quietTail 23 hmix (by kernel_rfl) rfl ?_
  refine Wq.loadA (i := 0) st tA_62 rfl rfl (all_sub schV_len) schV_len ?_
  refine Wq.callV (fun _ hbel => c_impl_ValidScheme (s := s) (p := p) (a := a) (b := b) (by first | assumption | omega) (by first | assumption | omega) ha hb) rfl ?_
  refine Wq.pure (PR.not_ rfl) ?_
  refine Wq.pure (PR.moveB rfl) ?_
  refine Wq.splitB (b := (!(schOk s p a b))) rfl rfl (fun h2 => ?_) (fun h2 => ?_)
  · simp only [Bool.not_eq_true', Bool.not_eq_false', Bool.not_true, Bool.not_false] at h2
    refine Wq.pure (PR.moveL rfl) ?_
    refine Wq.on rfl rfl ?_
    refine Wq.callV (fun _ hbel => c_impl_areLayers (A := A) (n := n) (cp := cp) (p := y) (c := c) ((hRL.st st).below hbel) hg hc (by first | assumption | omega)) rfl ?_
    refine Wq.on rfl rfl ?_
    refine Wq.pure (PR.not_ rfl) ?_
    refine Wq.pure (PR.pickFB rfl rfl) ?_
    refine Wq.pure (PR.build (ps := [(0, .bool (!(layAll n y c))), (1, .int .i64 (1))]) (cs := [.bool (!(layAll n y c)), .int .i64 (1)]) tB_95 rfl rfl) ?_
    refine Wq.pure (PR.moveL rfl) ?_
    refine Wq.pure (PR.lenL tS_37 rfl) ?_
    refine Wq.pure (PR.fieldAddr tF_62_0 rfl) ?_
    refine Wq.load (i := 0) st tA_22 rfl rfl (rfl) ?_
    refine Wq.pure (PR.conv (n := s) tI_3 rfl (by simp only [fitI]; omega) Try.underlying22) ?_
    refine Wq.pure (PR.neq (a := ((n : Nat) : Int)) (b := s) rfl rfl) ?_
    refine Wq.pure (PR.moveB rfl) ?_
    refine Wq.splitB (b := (!decide (((n : Nat) : Int) = s))) rfl rfl (fun h3 => ?_) (fun h3 => ?_)
    · simp only [Bool.not_eq_true', Bool.not_eq_false', Bool.not_true, Bool.not_false, decide_eq_true_eq, decide_eq_false_iff_not] at h3
      refine Wq.pure (PR.moveL rfl) ?_
      refine Wq.on rfl rfl ?_
      refine Wq.pure (PR.fieldAddr tF_62_1 rfl) ?_
      refine Wq.on rfl rfl ?_
      refine Wq.load (i := 0) st tA_22 rfl rfl (rfl) ?_
      refine Wq.on rfl rfl ?_
      refine Wq.callV (fun _ hbel => c_impl_haveParts (A := A) (n := n) (cp := cp) (p := y) (c := c) (q := p) ((hRL.st st).below hbel) hg hc (by first | assumption | omega)) rfl ?_
      refine Wq.on rfl rfl ?_
      refine Wq.pure (PR.not_ rfl) ?_
      refine Wq.pure (PR.pickFB rfl rfl) ?_
      refine Wq.pure (PR.build (ps := [(0, .bool (!(allP n y p))), (1, .int .i64 (4))]) (cs := [.bool (!(allP n y p)), .int .i64 (4)]) tB_95 rfl rfl) ?_
      refine Wq.nil (fun w4 hbel => ?_)
      replace st := st.call hbel
      clear hbel
      refine Wl.buildSlice (ps := [(0, .agg ([.bool (!(layAll n y c)), .int .i64 (1)]).toArray), (1, .agg ([.bool (!(allP n y p)), .int .i64 (4)]).toArray)]) (cs := [.bool (!(layAll n y c)), .int .i64 (1), .bool (!(allP n y p)), .int .i64 (4)]) st tS_127 tZ_95 rfl rfl rfl ?_
      clear st
      intro b28 w5 st
      refine Wl.callV (c_impl_firstOf (bk := b28) (o := 0) (n := 2) (cp := 2) (c := (fun i => [(!(layAll n y c)), (!(allP n y p))].getD i false)) (e := (fun i => [1, 4].getD i 0)) (st.rdA (i := 0) (n := 4) rfl rfl) (by first | assumption | omega)) rfl ?_
      intro w6 hbel
      replace st := st.call hbel
      clear hbel
      refine Wl.pure (PR.assI rfl) ?_
      refine Wl.nil ?_
      refine tn ?_
      refine Wc.ret ?_
      refine postL.tmp rfl rfl ?_
      refine RetV.of ?_ st.below
      exact congrArg (Value.int .i64) (first_both (by first | rfl | (rw [show schOk s p a b = true by assumption]; rfl) | (rw [show schOk s p a b = false by assumption]; rfl)) (by first | (rw [decide_eq_true (show (n : Int) = s by omega)]; rfl) | (rw [decide_eq_false (show ¬ (n : Int) = s by omega)]; rfl)))
    · simp only [Bool.not_eq_true', Bool.not_eq_false', Bool.not_true, Bool.not_false, decide_eq_true_eq, decide_eq_false_iff_not] at h3
      refine Wq.off rfl rfl rfl ?_
      refine Wq.off rfl rfl rfl ?_
      refine Wq.off rfl rfl rfl ?_
      refine Wq.off rfl rfl rfl ?_
      refine Wq.pure (PR.pickTB rfl rfl) ?_
      refine Wq.pure (PR.build (ps := [(0, .bool true), (1, .int .i64 (4))]) (cs := [.bool true, .int .i64 (4)]) tB_95 rfl rfl) ?_
      refine Wq.nil (fun w7 hbel => ?_)
      replace st := st.call hbel
      clear hbel
      refine Wl.buildSlice (ps := [(0, .agg ([.bool (!(layAll n y c)), .int .i64 (1)]).toArray), (1, .agg ([.bool true, .int .i64 (4)]).toArray)]) (cs := [.bool (!(layAll n y c)), .int .i64 (1), .bool true, .int .i64 (4)]) st tS_127 tZ_95 rfl rfl rfl ?_
      clear st
      intro b28 w8 st
      refine Wl.callV (c_impl_firstOf (bk := b28) (o := 0) (n := 2) (cp := 2) (c := (fun i => [(!(layAll n y c)), true].getD i false)) (e := (fun i => [1, 4].getD i 0)) (st.rdA (i := 0) (n := 4) rfl rfl) (by first | assumption | omega)) rfl ?_
      intro w9 hbel
      replace st := st.call hbel
      clear hbel
      refine Wl.pure (PR.assI rfl) ?_
      refine Wl.nil ?_
      refine tn ?_
      refine Wc.ret ?_
      refine postL.tmp rfl rfl ?_
      refine RetV.of ?_ st.below
      exact congrArg (Value.int .i64) (first_both (by first | rfl | (rw [show schOk s p a b = true by assumption]; rfl) | (rw [show schOk s p a b = false by assumption]; rfl)) (by first | (rw [decide_eq_true (show (n : Int) = s by omega)]; rfl) | (rw [decide_eq_false (show ¬ (n : Int) = s by omega)]; rfl)))
  · simp only [Bool.not_eq_true', Bool.not_eq_false', Bool.not_true, Bool.not_false] at h2
    refine Wq.off rfl rfl rfl ?_
    refine Wq.off rfl rfl rfl ?_
    refine Wq.pure (PR.pickTB rfl rfl) ?_
    refine Wq.pure (PR.build (ps := [(0, .bool true), (1, .int .i64 (1))]) (cs := [.bool true, .int .i64 (1)]) tB_95 rfl rfl) ?_
    refine Wq.pure (PR.moveL rfl) ?_
    refine Wq.pure (PR.lenL tS_37 rfl) ?_
    refine Wq.pure (PR.fieldAddr tF_62_0 rfl) ?_
    refine Wq.load (i := 0) st tA_22 rfl rfl (rfl) ?_
    refine Wq.pure (PR.conv (n := s) tI_3 rfl (by simp only [fitI]; omega) Try.underlying22) ?_
    refine Wq.pure (PR.neq (a := ((n : Nat) : Int)) (b := s) rfl rfl) ?_
    refine Wq.pure (PR.moveB rfl) ?_
    refine Wq.splitB (b := (!decide (((n : Nat) : Int) = s))) rfl rfl (fun h10 => ?_) (fun h10 => ?_)
    · simp only [Bool.not_eq_true', Bool.not_eq_false', Bool.not_true, Bool.not_false, decide_eq_true_eq, decide_eq_false_iff_not] at h10
      refine Wq.pure (PR.moveL rfl) ?_
      refine Wq.on rfl rfl ?_
      refine Wq.pure (PR.fieldAddr tF_62_1 rfl) ?_
      refine Wq.on rfl rfl ?_
      refine Wq.load (i := 0) st tA_22 rfl rfl (rfl) ?_
      refine Wq.on rfl rfl ?_
      refine Wq.callV (fun _ hbel => c_impl_haveParts (A := A) (n := n) (cp := cp) (p := y) (c := c) (q := p) ((hRL.st st).below hbel) hg hc (by first | assumption | omega)) rfl ?_
      refine Wq.on rfl rfl ?_
      refine Wq.pure (PR.not_ rfl) ?_
      refine Wq.pure (PR.pickFB rfl rfl) ?_
      refine Wq.pure (PR.build (ps := [(0, .bool (!(allP n y p))), (1, .int .i64 (4))]) (cs := [.bool (!(allP n y p)), .int .i64 (4)]) tB_95 rfl rfl) ?_
      refine Wq.nil (fun w11 hbel => ?_)
      replace st := st.call hbel
      clear hbel
      refine Wl.buildSlice (ps := [(0, .agg ([.bool true, .int .i64 (1)]).toArray), (1, .agg ([.bool (!(allP n y p)), .int .i64 (4)]).toArray)]) (cs := [.bool true, .int .i64 (1), .bool (!(allP n y p)), .int .i64 (4)]) st tS_127 tZ_95 rfl rfl rfl ?_
      clear st
      intro b28 w12 st
      refine Wl.callV (c_impl_firstOf (bk := b28) (o := 0) (n := 2) (cp := 2) (c := (fun i => [true, (!(allP n y p))].getD i false)) (e := (fun i => [1, 4].getD i 0)) (st.rdA (i := 0) (n := 4) rfl rfl) (by first | assumption | omega)) rfl ?_
      intro w13 hbel
      replace st := st.call hbel
      clear hbel
      refine Wl.pure (PR.assI rfl) ?_
      refine Wl.nil ?_
      refine tn ?_
      refine Wc.ret ?_
      refine postL.tmp rfl rfl ?_
      refine RetV.of ?_ st.below
      exact congrArg (Value.int .i64) (first_both (by first | rfl | (rw [show schOk s p a b = true by assumption]; rfl) | (rw [show schOk s p a b = false by assumption]; rfl)) (by first | (rw [decide_eq_true (show (n : Int) = s by omega)]; rfl) | (rw [decide_eq_false (show ¬ (n : Int) = s by omega)]; rfl)))
    · simp only [Bool.not_eq_true', Bool.not_eq_false', Bool.not_true, Bool.not_false, decide_eq_true_eq, decide_eq_false_iff_not] at h10
      refine Wq.off rfl rfl rfl ?_
      refine Wq.off rfl rfl rfl ?_
      refine Wq.off rfl rfl rfl ?_
      refine Wq.off rfl rfl rfl ?_
      refine Wq.pure (PR.pickTB rfl rfl) ?_
      refine Wq.pure (PR.build (ps := [(0, .bool true), (1, .int .i64 (4))]) (cs := [.bool true, .int .i64 (4)]) tB_95 rfl rfl) ?_
      refine Wq.nil (fun w14 hbel => ?_)
      replace st := st.call hbel
      clear hbel
      refine Wl.buildSlice (ps := [(0, .agg ([.bool true, .int .i64 (1)]).toArray), (1, .agg ([.bool true, .int .i64 (4)]).toArray)]) (cs := [.bool true, .int .i64 (1), .bool true, .int .i64 (4)]) st tS_127 tZ_95 rfl rfl rfl ?_
      clear st
      intro b28 w15 st
      refine Wl.callV (c_impl_firstOf (bk := b28) (o := 0) (n := 2) (cp := 2) (c := (fun i => [true, true].getD i false)) (e := (fun i => [1, 4].getD i 0)) (st.rdA (i := 0) (n := 4) rfl rfl) (by first | assumption | omega)) rfl ?_
      intro w16 hbel
      replace st := st.call hbel
      clear hbel
      refine Wl.pure (PR.assI rfl) ?_
      refine Wl.nil ?_
      refine tn ?_
      refine Wc.ret ?_
      refine postL.tmp rfl rfl ?_
      refine RetV.of ?_ st.below
      exact congrArg (Value.int .i64) (first_both (by first | rfl | (rw [show schOk s p a b = true by assumption]; rfl) | (rw [show schOk s p a b = false by assumption]; rfl)) (by first | (rw [decide_eq_true (show (n : Int) = s by omega)]; rfl) | (rw [decide_eq_false (show ¬ (n : Int) = s by omega)]; rfl)))

set_option maxHeartbeats 400000 in
set_option maxRecDepth 4000 in
theorem c_spec_l03Both {bk : Nat} {o : Nat} {s : Int} {p : Int} {a : Nat → Nat} {b : Nat → Nat} {A : Option Addr} {n : Nat} {cp : Nat} {y : Nat → Int} {c : Nat → Nat → Nat} {w : World} (hR : RdA w bk o (schV s p a b)) (hs : -128 ≤ s ∧ s ≤ 127) (hp : -128 ≤ p ∧ p ≤ 127) (ha : ∀ k, a k < 256) (hb : ∀ k, b k < 256) (hRL : RdS w A n (layS n y c)) (hg : ∀ i, i < n → -128 ≤ y i ∧ y i ≤ 127) (hc : ∀ i k, c i k < 256) (hn : n ≤ 1048576) :
    CE Try.prog 58 [.pointer (some ⟨bk, o, none⟩), .slice (A) (n) (cp)] w (RetV w (.int .i64 (((bothC s p a b n y c : Nat) : Int)))) := by
  refine CE.enter 40 [(0, .pointer (some ⟨bk, o, none⟩)), (1, .slice (A) (n) (cp))] en_58 Try.func58 rfl rfl (Nat.le_of_ble_eq_true rfl) rfl ?_
  have st := St.start w
  refine Wc.seq ?_
  refine Wc.region rfl ?_
  refine Wl.pure (PR.assI rfl) ?_
  refine Wl.nil ?_
  refine tn ?_
  refine Wc.seq ?_
  refine Wc.seq ?_
  refine Wc.region rfl ?_
  refine Wl.pure (PR.moveP rfl) ?_
  refine Wl.pure (PR.nil_ rfl) ?_
  refine Wl.loadAC tA_62 rfl schV_len ((hR.st st).sub (all_sub schV_len) rfl) ?_
  refine Wl.callV (c_spec_ValidScheme (s := s) (p := p) (a := a) (b := b) (by first | assumption | omega) (by first | assumption | omega) ha hb) rfl ?_
  intro w1 hbel
  replace st := st.call hbel
  clear hbel
  refine Wl.pure (PR.not_ rfl) ?_
  refine Wl.pure (PR.moveB rfl) ?_
  refine Wl.splitB (b := (!(schOk s p a b))) rfl rfl (fun h2 => ?_) (fun h2 => ?_)
  · simp only [Bool.not_eq_true', Bool.not_eq_false', Bool.not_true, Bool.not_false] at h2
    refine Wl.pure (PR.moveL rfl) ?_
    refine Wl.on rfl rfl ?_
    refine Wl.callV (c_spec_l01All (A := A) (n := n) (cp := cp) (p := y) (c := c) (hRL.st st) hg hc (by first | assumption | omega)) rfl ?_
    intro w3 hbel
    replace st := st.call hbel
    clear hbel
    refine Wl.on rfl rfl ?_
    refine Wl.pure (PR.not_ rfl) ?_
    refine Wl.pure (PR.pickFB rfl rfl) ?_
    refine Wl.nil ?_
    refine tn ?_
    refine Wc.condNB (b := layAll n y c) rfl (fun h4 => ?_) (fun h4 => ?_)
    · refine Wc.seq ?_
      refine Wc.region rfl ?_
      refine Wl.pure (PR.assI rfl) ?_
      refine Wl.nil ?_
      refine tn ?_
      refine Wc.ret ?_
      refine tr ?_
      refine postL.tmp rfl rfl ?_
      refine RetV.of ?_ st.below
      refine congrArg (fun x : Nat => Value.int .i64 (x : Int)) ?_
      first | exact bothC_1 (.inl (by assumption)) | exact bothC_1 (.inr (by assumption))
    · refine Wc.skip ?_
      refine tn ?_
      refine Wc.seq ?_
      refine Wc.seq ?_
      refine Wc.region rfl ?_
      refine Wl.pure (PR.moveL rfl) ?_
      refine Wl.pure (PR.lenL tS_37 rfl) ?_
      refine Wl.pure (PR.moveP rfl) ?_
      refine Wl.pure (PR.nil_ rfl) ?_
      refine Wl.pure (PR.fieldAddr tF_62_0 rfl) ?_
      refine Wl.loadC tA_22 rfl ((hR.st st).at_ (j := 0) (rfl) rfl) ?_
      refine Wl.pure (PR.conv (n := s) tI_3 rfl (by simp only [fitI]; omega) Try.underlying22) ?_
      refine Wl.pure (PR.neq (a := ((n : Nat) : Int)) (b := s) rfl rfl) ?_
      refine Wl.nil ?_
      refine tn ?_
      refine Wc.condN (p := ((n : Nat) : Int) = s) rfl (fun h5 => ?_) (fun h5 => ?_)
      · refine Wc.seq ?_
        refine Wc.region rfl ?_
        refine Wl.pure (PR.assI rfl) ?_
        refine Wl.nil ?_
        refine tn ?_
        refine Wc.ret ?_
        refine tr ?_
        refine postL.tmp rfl rfl ?_
        refine RetV.of ?_ st.below
        refine congrArg (fun x : Nat => Value.int .i64 (x : Int)) ?_
        first | exact bothC_4 (by assumption) (by assumption) (by omega) | exact bothC_5 (k := k) (by assumption) (by assumption) (by omega) (by omega)
      · refine Wc.skip ?_
        refine tn ?_
        refine Wc.seq ?_
        refine Wc.seq ?_
        refine Wc.region rfl ?_
        refine Wl.pure (PR.assI rfl) ?_
        refine Wl.nil ?_
        refine tn ?_
        refine Wc.block ?_
        refine Wc.loopF (γ := Nat) (fun g => [(0, .pointer (some ⟨bk, o, none⟩)), (1, .slice (A) (n) (cp)), (5, .int .i64 (((g : Nat) : Int)))]) (fun g w_ => St [] w w_ [] ∧ (g ≤ n) ∧ (∀ j, j < g → y j = p)) (fun g => n - g) ?_ ?_
        · exact ⟨0, (.cons rfl (.cons rfl (.cons rfl (.nil _)))), st, (by first | omega | (dsimp only; omega)), (fun j hj => by omega)⟩
        clear st
        rintro k w6 ⟨st, hk, hall⟩
        try dsimp only at st hk hall ⊢
        refine Wc.seq ?_
        refine Wc.seq ?_
        refine Wc.region rfl ?_
        refine Wl.pure (PR.moveI rfl) ?_
        refine Wl.pure (PR.moveL rfl) ?_
        refine Wl.pure (PR.lenL tS_37 rfl) ?_
        refine Wl.pure (PR.lss (a := ((k : Nat) : Int)) (b := ((n : Nat) : Int)) rfl rfl) ?_
        refine Wl.nil ?_
        refine tn ?_
        refine Wc.condD (p := ((k : Nat) : Int) < ((n : Nat) : Int)) rfl (fun h7 => ?_) (fun h7 => ?_)
        · refine Wc.skip ?_
          refine tn ?_
          refine Wc.seq ?_
          refine Wc.block ?_
          refine Wc.seq ?_
          refine Wc.quiet hmix (by kernel_rfl) rfl ?_
          refine Wq.pure (PR.moveL rfl) ?_
          refine Wq.pure (PR.moveI rfl) ?_
          obtain ⟨bs8, os9, rfl, hs10⟩ := hRL (by omega)
          have := hg (k) (by omega)
          refine Wq.pure (PR.idxAddrS (i := k) tS_37 rfl rfl (by omega)) ?_
          refine Wq.pure (PR.fieldAddr tF_29_0 rfl) ?_
          refine Wq.loadC tA_22 rfl ((hs10.st st).at_ (recV_get (n := n) (i := k) (layS_row _ _) (by omega) (rfl)) (Nat.add_assoc _ _ _).symm) ?_
          refine Wq.pure (PR.moveP rfl) ?_
          refine Wq.pure (PR.nil_ rfl) ?_
          refine Wq.pure (PR.fieldAddr tF_62_1 rfl) ?_
          refine Wq.loadC tA_22 rfl ((hR.st st).at_ (j := 1) (rfl) rfl) ?_
          refine Wq.pure (PR.neq (a := y k) (b := p) rfl rfl) ?_
          refine Wq.nil (fun w11 hbel => ?_)
          replace st := st.call hbel
          clear hbel
          refine tn ?_
          refine Wc.condN (p := y k = p) rfl (fun h12 => ?_) (fun h12 => ?_)
          · refine Wc.seq ?_
            refine Wc.region rfl ?_
            refine Wl.pure (PR.assI rfl) ?_
            refine Wl.nil ?_
            refine tn ?_
            refine Wc.ret ?_
            refine br ?_
            refine tr ?_
            refine tr ?_
            refine br ?_
            refine tr ?_
            refine postL.tmp rfl rfl ?_
            refine RetV.of ?_ st.below
            refine congrArg (fun x : Nat => Value.int .i64 (x : Int)) ?_
            first | exact bothC_4 (by assumption) (by assumption) (by omega) | exact bothC_5 (k := k) (by assumption) (by assumption) (by omega) (by omega)
          · refine Wc.skip ?_
            refine bn ?_
            refine tn ?_
            refine Wc.region rfl ?_
            refine Wl.pure (PR.moveI rfl) ?_
            refine Wl.pure (PR.add (a := ((k : Nat) : Int)) (b := 1) rfl rfl (by simp only [fitI]; omega)) ?_
            refine Wl.pure (PR.assI rfl) ?_
            refine Wl.nil ?_
            refine tn ?_
            exact ⟨k + 1, (.cons rfl (.cons rfl (.cons rfl (.nil _)))), ⟨st, (by first | omega | (dsimp only; omega)), (all_snoc hall (by omega))⟩, (by first | omega | (dsimp only; omega))⟩
        · refine Wc.exit ?_
          refine tx ?_
          refine tx ?_
          refine bh ?_
          refine tn ?_
          refine Wc.seq ?_
          refine Wc.region rfl ?_
          refine Wl.pure (PR.assI rfl) ?_
          refine Wl.nil ?_
          refine tn ?_
          refine Wc.ret ?_
          refine postL.tmp rfl rfl ?_
          refine RetV.of ?_ st.below
          refine congrArg (fun x : Nat => Value.int .i64 (x : Int)) ?_
          exact bothC_0 (by assumption) (by assumption) (by omega) (fun j hj => hall j (by omega))
  · simp only [Bool.not_eq_true', Bool.not_eq_false', Bool.not_true, Bool.not_false] at h2
    refine Wl.off rfl rfl rfl ?_
    refine Wl.off rfl rfl rfl ?_
    refine Wl.pure (PR.pickTB rfl rfl) ?_
    refine Wl.nil ?_
    refine tn ?_
    refine Wc.condT rfl ?_
    refine Wc.seq ?_
    refine Wc.region rfl ?_
    refine Wl.pure (PR.assI rfl) ?_
    refine Wl.nil ?_
    refine tn ?_
    refine Wc.ret ?_
    refine tr ?_
    refine postL.tmp rfl rfl ?_
    refine RetV.of ?_ st.below
    refine congrArg (fun x : Nat => Value.int .i64 (x : Int)) ?_
    first | exact bothC_1 (.inl (by assumption)) | exact bothC_1 (.inr (by assumption))

set_option maxHeartbeats 400000 in
set_option maxRecDepth 4000 in
theorem c_impl_Scheme_all {s : Int} {p : Int} {a : Nat → Nat} {b : Nat → Nat} {w : World} (hs0 : 0 ≤ s) (ha : ∀ k, a k < 256) (hb : ∀ k, b k < 256) :
    CE Try.prog 112 [.agg (schV (s) (p) (a) (b)).toArray] w (RetV w (.int .u8 (((((((1 <<< (s).toNat) % 256) + 255) % 256) : Nat) : Int)))) := by
  refine CE.enter 7 [(0, .agg (schV (s) (p) (a) (b)).toArray)] en_112 Try.func112 rfl rfl (Nat.le_of_ble_eq_true rfl) rfl ?_
  have st := St.start w
  refine Wc.seq ?_
  obtain ⟨n, rfl⟩ : ∃ n : Nat, s = ((n : Nat) : Int) := ⟨s.toNat, by omega⟩
  refine Wc.region rfl ?_
  refine Wl.boxA st rfl ?_
  clear st
  intro b1 w1 st
  refine Wl.pure (PR.assI rfl) ?_
  refine Wl.nil ?_
  refine tn ?_
  refine Wc.seq ?_
  refine Wc.region rfl ?_
  refine Wl.pure (PR.fieldAddr tF_62_0 rfl) ?_
  refine Wl.load (i := 0) st tA_22 rfl rfl (rfl) ?_
  refine Wl.pure (PR.shl (a := 1) (n := n) rfl rfl (by decide)) ?_
  refine Wl.pure (PR.subU (a := ((1 <<< n) % 256)) (b := 1) rfl rfl (by decide) (by decide)) ?_
  refine Wl.pure (PR.assI rfl) ?_
  refine Wl.nil ?_
  refine tn ?_
  refine Wc.ret ?_
  refine postL.tmp rfl rfl ?_
  refine RetV.of ?_ st.below
  refine congrArg (Value.int .u8) ?_
  first | rfl | omega | simp_all

set_option maxHeartbeats 400000 in
set_option maxRecDepth 4000 in
theorem c_impl_Scheme_isSet {s : Int} {p : Int} {a : Nat → Nat} {b : Nat → Nat} {x : Nat} {w : World} (ha : ∀ k, a k < 256) (hb : ∀ k, b k < 256) (hx : x < 256) :
    CE Try.prog 105 [.agg (schV (s) (p) (a) (b)).toArray, .int .u8 (((x : Nat) : Int))] w (RetV w (.bool (decide (isSetB s x)))) := by
  refine CE.enter 15 [(0, .agg (schV (s) (p) (a) (b)).toArray), (1, .int .u8 (((x : Nat) : Int)))] en_105 Try.func105 rfl rfl (Nat.le_of_ble_eq_true rfl) rfl ?_
  have st := St.start w
  refine Wc.seq ?_
  refine Wc.region rfl ?_
  refine Wl.boxA st rfl ?_
  clear st
  intro b2 w1 st
  refine Wl.pure (PR.assB rfl) ?_
  refine Wl.nil ?_
  refine tn ?_
  refine Wc.seq ?_
  refine Wc.region rfl ?_
  refine Wl.pure (PR.fieldAddr tF_62_0 rfl) ?_
  refine Wl.load (i := 0) st tA_22 rfl rfl (rfl) ?_
  refine Wl.pure (PR.geq (a := s) (b := 0) rfl rfl) ?_
  refine Wl.pure (PR.moveB rfl) ?_
  refine Wl.splitT (q := 0 ≤ s) rfl rfl (fun h2 => ?_) (fun h2 => ?_)
  · refine Wl.pure (PR.moveI rfl) ?_
    refine Wl.on rfl rfl ?_
    refine Wl.loadA (i := 0) st tA_62 rfl rfl (all_sub schV_len) schV_len ?_
    refine Wl.on rfl rfl ?_
    refine Wl.callV (c_impl_Scheme_all (s := s) (p := p) (a := a) (b := b) (by first | assumption | omega) ha hb) rfl ?_
    intro w3 hbel
    replace st := st.call hbel
    clear hbel
    refine Wl.on rfl rfl ?_
    refine Wl.pure (PR.andNot (a := x) (b := ((((1 <<< (s).toNat) % 256) + 255) % 256)) rfl rfl (by decide) hx (Nat.mod_lt _ (by decide))) ?_
    refine Wl.on rfl rfl ?_
    refine Wl.pure (PR.eql (a := (((bdiff x ((((1 <<< (s).toNat) % 256) + 255) % 256)) : Nat) : Int)) (b := 0) rfl rfl) ?_
    refine Wl.pure (PR.pickTB rfl rfl) ?_
    refine Wl.pure (PR.assB rfl) ?_
    refine Wl.nil ?_
    refine tn ?_
    refine Wc.ret ?_
    refine postL.tmp rfl rfl ?_
    refine RetV.of ?_ st.below
    refine congrArg Value.bool ?_
    first | exact (decide_eq_false (fun q => absurd q.1 (by assumption))).symm | (unfold isSetB; exact decide_eq_decide.2 (by omega))
  · refine Wl.off rfl rfl rfl ?_
    refine Wl.off rfl rfl rfl ?_
    refine Wl.off rfl rfl rfl ?_
    refine Wl.off rfl rfl rfl ?_
    refine Wl.pure (PR.pickFB rfl rfl) ?_
    refine Wl.pure (PR.assB rfl) ?_
    refine Wl.nil ?_
    refine tn ?_
    refine Wc.ret ?_
    refine postL.tmp rfl rfl ?_
    refine RetV.of ?_ st.below
    refine congrArg Value.bool ?_
    first | exact (decide_eq_false (fun q => absurd q.1 (by assumption))).symm | (unfold isSetB; exact decide_eq_decide.2 (by omega))

set_option maxHeartbeats 400000 in
set_option maxRecDepth 4000 in
theorem c_spec_l03Set {bk : Nat} {o : Nat} {s : Int} {p : Int} {a : Nat → Nat} {b : Nat → Nat} {x : Nat} {w : World} (hR : RdA w bk o (schV s p a b)) (hs : -128 ≤ s ∧ s ≤ 127) (hp : -128 ≤ p ∧ p ≤ 127) (ha : ∀ k, a k < 256) (hb : ∀ k, b k < 256) (hx : x < 256) (hok : schOk s p a b = true) :
    CE Try.prog 70 [.pointer (some ⟨bk, o, none⟩), .int .u8 (((x : Nat) : Int))] w (RetV w (.bool (decide (setOk s x)))) := by
  refine CE.enter 17 [(0, .pointer (some ⟨bk, o, none⟩)), (1, .int .u8 (((x : Nat) : Int)))] en_70 Try.func70 rfl rfl (Nat.le_of_ble_eq_true rfl) rfl ?_
  have st := St.start w
  refine Wc.seq ?_
  refine Wc.region rfl ?_
  refine Wl.pure (PR.assB rfl) ?_
  refine Wl.nil ?_
  refine tn ?_
  refine Wc.seq ?_
  obtain ⟨hs1, _⟩ := schOk_spec hok
  obtain ⟨n, rfl⟩ : ∃ n : Nat, s = ((n : Nat) : Int) := ⟨s.toNat, by omega⟩
  refine Wc.region rfl ?_
  refine Wl.pure (PR.moveI rfl) ?_
  refine Wl.pure (PR.neq (a := ((x : Nat) : Int)) (b := 0) rfl rfl) ?_
  refine Wl.pure (PR.moveB rfl) ?_
  refine Wl.splitB (b := (!decide (((x : Nat) : Int) = 0))) rfl rfl (fun h1 => ?_) (fun h1 => ?_)
  · simp only [Bool.not_eq_true', Bool.not_eq_false', Bool.not_true, Bool.not_false, decide_eq_true_eq, decide_eq_false_iff_not] at h1
    refine Wl.pure (PR.moveI rfl) ?_
    refine Wl.on rfl rfl ?_
    refine Wl.pure (PR.moveP rfl) ?_
    refine Wl.on rfl rfl ?_
    refine Wl.pure (PR.nil_ rfl) ?_
    refine Wl.on rfl rfl ?_
    refine Wl.pure (PR.fieldAddr tF_62_0 rfl) ?_
    refine Wl.on rfl rfl ?_
    refine Wl.loadC tA_22 rfl ((hR.st st).at_ (j := 0) (rfl) rfl) ?_
    refine Wl.on rfl rfl ?_
    refine Wl.pure (PR.conv (n := ((n : Nat) : Int)) tI_76 rfl (by simp only [fitI]; omega) Try.underlying22) ?_
    refine Wl.on rfl rfl ?_
    refine Wl.pure (PR.shr (a := x) (n := n) rfl rfl (by decide) hx) ?_
    refine Wl.on rfl rfl ?_
    refine Wl.pure (PR.eql (a := (((x >>> n) : Nat) : Int)) (b := 0) rfl rfl) ?_
    refine Wl.pure (PR.pickTB rfl rfl) ?_
    refine Wl.pure (PR.assB rfl) ?_
    refine Wl.nil ?_
    refine tn ?_
    refine Wc.ret ?_
    refine postL.tmp rfl rfl ?_
    refine RetV.of ?_ st.below
    refine congrArg Value.bool ?_
    first | exact (decide_eq_false (fun q => set_1 q (by omega))).symm | exact decide_eq_decide.2 ⟨fun q => set_2 (by omega) ((shr_zero (x := x) (n := n)).1 (by omega)), fun q => by have := (shr_zero (x := x) (n := n)).2 (set_3 q); omega⟩
  · simp only [Bool.not_eq_true', Bool.not_eq_false', Bool.not_true, Bool.not_false, decide_eq_true_eq, decide_eq_false_iff_not] at h1
    refine Wl.off rfl rfl rfl ?_
    refine Wl.off rfl rfl rfl ?_
    refine Wl.off rfl rfl rfl ?_
    refine Wl.off rfl rfl rfl ?_
    refine Wl.off rfl rfl rfl ?_
    refine Wl.off rfl rfl rfl ?_
    refine Wl.off rfl rfl rfl ?_
    refine Wl.pure (PR.pickFB rfl rfl) ?_
    refine Wl.pure (PR.assB rfl) ?_
    refine Wl.nil ?_
    refine tn ?_
    refine Wc.ret ?_
    refine postL.tmp rfl rfl ?_
    refine RetV.of ?_ st.below
    refine congrArg Value.bool ?_
    first | exact (decide_eq_false (fun q => set_1 q (by omega))).symm | exact decide_eq_decide.2 ⟨fun q => set_2 (by omega) ((shr_zero (x := x) (n := n)).1 (by omega)), fun q => by have := (shr_zero (x := x) (n := n)).2 (set_3 q); omega⟩

set_option maxHeartbeats 400000 in
set_option maxRecDepth 4000 in
theorem c_math_bits_OnesCount8 {x : Nat} {w : World} (hx : x < 256) :
    CE Try.prog 102 [.int .u8 (((x : Nat) : Int))] w (RetV w (.int .i64 (((pc x : Nat) : Int)))) := by
  refine CE.enter 6 [(0, .int .u8 (((x : Nat) : Int)))] en_102 Try.func102 rfl rfl (Nat.le_of_ble_eq_true rfl) rfl ?_
  have st := St.start w
  refine Wc.seq ?_
  refine Wc.region rfl ?_
  refine Wl.pure (PR.assI rfl) ?_
  refine Wl.nil ?_
  refine tn ?_
  refine Wc.seq ?_
  refine Wc.region rfl ?_
  refine Wl.pure (PR.moveI rfl) ?_
  refine Wl.pure (PR.idxStr (i := x) (c := UInt8.ofNat (pc x)) Try.underlying9 rfl rfl (tab_of _ (by kernel_rfl) hx)) ?_
  refine Wl.pure (PR.conv (n := (((UInt8.ofNat (pc x)).toNat : Nat) : Int)) tI_3 rfl (fitN (show (UInt8.ofNat (pc x)).toNat < 256 from by rw [tab_nat hx]; have := pc_le8 hx; omega) rfl) Try.underlying5) ?_
  refine Wl.pure (PR.assI rfl) ?_
  refine Wl.nil ?_
  refine tn ?_
  refine Wc.ret ?_
  refine postL.tmp rfl rfl ?_
  refine RetV.of ?_ st.below
  refine congrArg (fun x : Nat => Value.int .i64 (x : Int)) ?_
  exact tab_nat hx

set_option maxHeartbeats 400000 in
set_option maxRecDepth 4000 in
theorem c_spec_l01Count {x : Nat} {w : World} (hx : x < 18446744073709551616) :
    CE Try.prog 84 [.int .u64 (((x : Nat) : Int))] w (RetV w (.int .i64 (((pc x : Nat) : Int)))) := by
  refine CE.enter 14 [(0, .int .u64 (((x : Nat) : Int)))] en_84 Try.func84 rfl rfl (Nat.le_of_ble_eq_true rfl) rfl ?_
  have st := St.start w
  refine Wc.seq ?_
  refine Wc.region rfl ?_
  refine Wl.pure (PR.assI rfl) ?_
  refine Wl.nil ?_
  refine tn ?_
  refine Wc.seq ?_
  refine Wc.region rfl ?_
  refine Wl.pure (PR.assI rfl) ?_
  refine Wl.nil ?_
  refine tn ?_
  refine Wc.seq ?_
  refine Wc.block ?_
  refine Wc.loopF (γ := Nat × Nat) (fun g => [(0, .int .u64 (((g.1 : Nat) : Int))), (2, .int .i64 (0)), (3, .int .i64 (((g.2 : Nat) : Int)))]) (fun g w_ => St [] w w_ [] ∧ (g.1 < 18446744073709551616) ∧ (pc x = g.2 + pc g.1)) (fun g => g.1) ?_ ?_
  · exact ⟨(x, 0), (.cons rfl (.cons rfl (.cons rfl (.nil _)))), st, hx, (Nat.zero_add _).symm⟩
  clear st
  rintro ⟨y, c⟩ w1 ⟨st, hy, hc⟩
  try dsimp only at st hy hc ⊢
  refine Wc.seq ?_
  refine Wc.seq ?_
  refine Wc.region rfl ?_
  refine Wl.pure (PR.moveI rfl) ?_
  refine Wl.pure (PR.neq (a := ((y : Nat) : Int)) (b := 0) rfl rfl) ?_
  refine Wl.nil ?_
  refine tn ?_
  refine Wc.condN (p := ((y : Nat) : Int) = 0) rfl (fun h2 => ?_) (fun h2 => ?_)
  · refine Wc.skip ?_
    refine tn ?_
    refine Wc.seq ?_
    refine Wc.block ?_
    refine Wc.region rfl ?_
    refine Wl.pure (PR.moveI rfl) ?_
    refine Wl.pure (PR.moveI rfl) ?_
    refine Wl.pure (PR.and (a := y) (b := 1) rfl rfl (by decide) hy (by decide)) ?_
    refine Wl.pure (PR.conv (n := (((y &&& 1) : Nat) : Int)) tI_2 rfl (by have : y &&& 1 ≤ 1 := Nat.and_le_right; simp only [fitI]; omega) Try.underlying51) ?_
    refine Wl.pure (PR.add (a := ((c : Nat) : Int)) (b := (((y &&& 1) : Nat) : Int)) rfl rfl (by have := pc_le x; have : y &&& 1 ≤ 1 := Nat.and_le_right; simp only [fitI]; omega)) ?_
    refine Wl.pure (PR.assI rfl) ?_
    refine Wl.nil ?_
    refine bn ?_
    refine tn ?_
    refine Wc.region rfl ?_
    refine Wl.pure (PR.moveI rfl) ?_
    refine Wl.pure (PR.shr (a := y) (n := 1) rfl rfl (by decide) hy) ?_
    refine Wl.pure (PR.assI rfl) ?_
    refine Wl.nil ?_
    refine tn ?_
    exact ⟨((y >>> 1), (c + (y &&& 1))), (.cons rfl (.cons rfl (.cons rfl (.nil _)))), ⟨st, (shr_lt hy), (pc_next hy hc)⟩, (by have := shr1 y; dsimp only; omega)⟩
  · refine Wc.exit ?_
    refine tx ?_
    refine tx ?_
    refine bh ?_
    refine tn ?_
    refine Wc.seq ?_
    refine Wc.region rfl ?_
    refine Wl.pure (PR.moveI rfl) ?_
    refine Wl.pure (PR.assI rfl) ?_
    refine Wl.nil ?_
    refine tn ?_
    refine Wc.ret ?_
    refine postL.tmp rfl rfl ?_
    refine RetV.of ?_ st.below
    refine congrArg (fun x : Nat => Value.int .i64 (x : Int)) ?_
    obtain rfl : y = 0 := by omega
    rw [hc]; unfold pc; rfl

set_option maxHeartbeats 400000 in
set_option maxRecDepth 4000 in
theorem c_rowsT {bk : Nat} {o : Nat} {s : Int} {p : Int} {a : Nat → Nat} {b : Nat → Nat} {w : World} (hR : RdA w bk o (schV s p a b)) :
    CE Try.prog 114 [.pointer (some ⟨bk, o, none⟩), .bool true] w (RetV w (.pointer (some ⟨bk, o + 8, none⟩))) := by
  refine CE.enter 12 [(0, .pointer (some ⟨bk, o, none⟩)), (1, .bool true)] en_114 Try.func114 rfl rfl (Nat.le_of_ble_eq_true rfl) rfl ?_
  have st := St.start w
  refine Wc.seq ?_
  refine Wc.region rfl ?_
  refine Wl.pure (PR.assV ((.pointer none)) rfl) ?_
  refine Wl.nil ?_
  refine tn ?_
  refine Wc.seq ?_
  refine Wc.seq ?_
  refine Wc.region rfl ?_
  refine Wl.pure (PR.moveB rfl) ?_
  refine Wl.nil ?_
  refine tn ?_
  refine Wc.condT rfl ?_
  refine Wc.seq ?_
  refine Wc.region rfl ?_
  refine Wl.pure (PR.moveP rfl) ?_
  refine Wl.pure (PR.nil_ rfl) ?_
  refine Wl.pure (PR.fieldAddr tF_62_3 rfl) ?_
  refine Wl.pure (PR.assP rfl) ?_
  refine Wl.nil ?_
  refine tn ?_
  refine Wc.ret ?_
  refine tr ?_
  refine postL.tmp rfl rfl ?_
  exact RetV.of rfl st.below

set_option maxHeartbeats 400000 in
set_option maxRecDepth 4000 in
theorem c_rowsF {bk : Nat} {o : Nat} {s : Int} {p : Int} {a : Nat → Nat} {b : Nat → Nat} {w : World} (hR : RdA w bk o (schV s p a b)) :
    CE Try.prog 114 [.pointer (some ⟨bk, o, none⟩), .bool false] w (RetV w (.pointer (some ⟨bk, o + 2, none⟩))) := by
  refine CE.enter 12 [(0, .pointer (some ⟨bk, o, none⟩)), (1, .bool false)] en_114 Try.func114 rfl rfl (Nat.le_of_ble_eq_true rfl) rfl ?_
  have st := St.start w
  refine Wc.seq ?_
  refine Wc.region rfl ?_
  refine Wl.pure (PR.assV ((.pointer none)) rfl) ?_
  refine Wl.nil ?_
  refine tn ?_
  refine Wc.seq ?_
  refine Wc.seq ?_
  refine Wc.region rfl ?_
  refine Wl.pure (PR.moveB rfl) ?_
  refine Wl.nil ?_
  refine tn ?_
  refine Wc.condF rfl ?_
  refine Wc.skip ?_
  refine tn ?_
  refine Wc.seq ?_
  refine Wc.region rfl ?_
  refine Wl.pure (PR.moveP rfl) ?_
  refine Wl.pure (PR.nil_ rfl) ?_
  refine Wl.pure (PR.fieldAddr tF_62_2 rfl) ?_
  refine Wl.pure (PR.assP rfl) ?_
  refine Wl.nil ?_
  refine tn ?_
  refine Wc.ret ?_
  refine postL.tmp rfl rfl ?_
  exact RetV.of rfl st.below

set_option maxHeartbeats 400000 in
set_option maxRecDepth 4000 in
theorem c_weightT {s : Int} {p : Int} {a : Nat → Nat} {b : Nat → Nat} {x : Nat} {w : World} (ha : ∀ k, a k < 256) (hb : ∀ k, b k < 256) (hx : x < 256) :
    CE Try.prog 107 [.agg (schV (s) (p) (a) (b)).toArray, .int .u8 (((x : Nat) : Int)), .bool true] w (RetV w (.int .i64 (((wt b x : Nat) : Int)))) := by
  refine CE.enter 29 [(0, .agg (schV (s) (p) (a) (b)).toArray), (1, .int .u8 (((x : Nat) : Int))), (2, .bool true)] en_107 Try.func107 rfl rfl (Nat.le_of_ble_eq_true rfl) rfl ?_
  have st := St.start w
  refine Wc.seq ?_
  refine Wc.region rfl ?_
  refine Wl.boxA st rfl ?_
  clear st
  intro b3 w1 st
  refine Wl.pure (PR.assI rfl) ?_
  refine Wl.nil ?_
  refine tn ?_
  refine Wc.seq ?_
  refine Wc.region rfl ?_
  refine Wl.pure (PR.assI rfl) ?_
  refine Wl.nil ?_
  refine tn ?_
  refine Wc.seq ?_
  refine Wc.seq ?_
  refine Wc.region rfl ?_
  refine Wl.pure (PR.moveB rfl) ?_
  refine Wl.callV (c_rowsT (bk := b3) (o := 0) (s := s) (p := p) (a := a) (b := b) (st.rdA (i := 0) rfl (all_sub schV_len))) rfl ?_
  intro w2 hbel
  replace st := st.call hbel
  clear hbel
  refine Wl.pure (PR.moveI rfl) ?_
  refine Wl.nil ?_
  refine tn ?_
  refine Wc.block ?_
  refine Wc.loopF (γ := Nat × Nat) (fun g => [(1, .int .u8 (((x : Nat) : Int))), (6, .int .i64 (0)), (7, .int .u8 (((g.2 : Nat) : Int))), (11, .pointer (some ⟨b3, 8, none⟩)), (12, .int .i64 (((g.1 : Nat) : Int)))]) (fun g w_ => St [] w w_ [(b3, schV (s) (p) (a) (b), 62)] ∧ (g.1 ≤ 6) ∧ (g.2 = orS b x g.1) ∧ (g.2 < 256)) (fun g => 6 - g.1) ?_ ?_
  · exact ⟨(0, 0), (.cons rfl (.cons rfl (.cons rfl (.cons rfl (.cons rfl (.nil _)))))), st, (by first | omega | (dsimp only; omega)), rfl, (by decide)⟩
  clear st
  rintro ⟨k, v⟩ w3 ⟨st, hk, hv, hvb⟩
  try dsimp only at st hk hv hvb ⊢
  refine Wc.seq ?_
  refine Wc.region rfl ?_
  refine Wl.pure (PR.lss (a := ((k : Nat) : Int)) (b := 6) rfl rfl) ?_
  refine Wl.nil ?_
  refine tn ?_
  refine Wc.seq ?_
  refine Wc.condD (p := ((k : Nat) : Int) < 6) rfl (fun h4 => ?_) (fun h4 => ?_)
  · refine Wc.skip ?_
    refine tn ?_
    refine Wc.seq ?_
    refine Wc.block ?_
    refine Wc.seq ?_
    refine Wc.quiet hmix (by kernel_rfl) rfl ?_
    refine Wq.pure (PR.moveI rfl) ?_
    refine Wq.pure (PR.nil_ rfl) ?_
    refine Wq.pure (PR.idxAddrA1 (i := k) tE_56 rfl rfl (by omega)) ?_
    refine Wq.load (i := 0) st tA_5 rfl rfl (schV_get_b (by omega)) ?_
    refine Wq.pure (PR.assI rfl) ?_
    refine Wq.pure (PR.assI rfl) ?_
    refine Wq.nil (fun w5 hbel => ?_)
    replace st := st.call hbel
    clear hbel
    refine tn ?_
    refine Wc.seq ?_
    refine Wc.region rfl ?_
    refine Wl.pure (PR.moveI rfl) ?_
    refine Wl.pure (PR.moveI rfl) ?_
    refine Wl.pure (PR.shr (a := x) (n := k) rfl rfl (by decide) hx) ?_
    refine Wl.pure (PR.and (a := (x >>> k)) (b := 1) rfl rfl (by decide) (shr_lt hx) (by decide)) ?_
    refine Wl.pure (PR.eql (a := ((((x >>> k) &&& 1) : Nat) : Int)) (b := 1) rfl rfl) ?_
    refine Wl.nil ?_
    refine tn ?_
    refine Wc.condD (p := ((((x >>> k) &&& 1) : Nat) : Int) = 1) rfl (fun h6 => ?_) (fun h6 => ?_)
    · refine Wc.region rfl ?_
      refine Wl.pure (PR.moveI rfl) ?_
      refine Wl.pure (PR.moveI rfl) ?_
      refine Wl.pure (PR.or (a := v) (b := b (k)) rfl rfl (by decide) hvb (hb (k))) ?_
      refine Wl.pure (PR.assI rfl) ?_
      refine Wl.nil ?_
      refine bn ?_
      refine tn ?_
      refine Wc.region rfl ?_
      refine Wl.pure (PR.add (a := ((k : Nat) : Int)) (b := 1) rfl rfl (by simp only [fitI]; omega)) ?_
      refine Wl.pure (PR.moveI rfl) ?_
      refine Wl.nil ?_
      refine tn ?_
      exact ⟨(k + 1, (v ||| (b (k)))), (.cons rfl (.cons rfl (.cons rfl (.cons rfl (.cons rfl (.nil _)))))), ⟨st, (by first | omega | (dsimp only; omega)), (by first | exact orS_t hv (by omega) | exact orS_f hv (by omega)), (by first | exact hvb | exact or_lt_u8 hvb (hb k))⟩, (by first | omega | (dsimp only; omega))⟩
    · refine Wc.skip ?_
      refine bn ?_
      refine tn ?_
      refine Wc.region rfl ?_
      refine Wl.pure (PR.add (a := ((k : Nat) : Int)) (b := 1) rfl rfl (by simp only [fitI]; omega)) ?_
      refine Wl.pure (PR.moveI rfl) ?_
      refine Wl.nil ?_
      refine tn ?_
      exact ⟨(k + 1, v), (.cons rfl (.cons rfl (.cons rfl (.cons rfl (.cons rfl (.nil _)))))), ⟨st, (by first | omega | (dsimp only; omega)), (by first | exact orS_t hv (by omega) | exact orS_f hv (by omega)), (by first | exact hvb | exact or_lt_u8 hvb (hb k))⟩, (by first | omega | (dsimp only; omega))⟩
  · refine Wc.exit ?_
    refine tx ?_
    refine tx ?_
    refine bh ?_
    refine tn ?_
    refine Wc.seq ?_
    refine Wc.region rfl ?_
    refine Wl.pure (PR.moveI rfl) ?_
    refine Wl.callV (c_math_bits_OnesCount8 (x := v) hvb) rfl ?_
    intro w7 hbel
    replace st := st.call hbel
    clear hbel
    refine Wl.pure (PR.assI rfl) ?_
    refine Wl.nil ?_
    refine tn ?_
    refine Wc.ret ?_
    refine postL.tmp rfl rfl ?_
    refine RetV.of ?_ st.below
    refine congrArg (fun x : Nat => Value.int .i64 (x : Int)) ?_
    obtain rfl : k = 6 := by omega
    unfold wt; rw [hv]

set_option maxHeartbeats 400000 in
set_option maxRecDepth 4000 in
theorem c_weightF {s : Int} {p : Int} {a : Nat → Nat} {b : Nat → Nat} {x : Nat} {w : World} (ha : ∀ k, a k < 256) (hb : ∀ k, b k < 256) (hx : x < 256) :
    CE Try.prog 107 [.agg (schV (s) (p) (a) (b)).toArray, .int .u8 (((x : Nat) : Int)), .bool false] w (RetV w (.int .i64 (((wt a x : Nat) : Int)))) := by
  refine CE.enter 29 [(0, .agg (schV (s) (p) (a) (b)).toArray), (1, .int .u8 (((x : Nat) : Int))), (2, .bool false)] en_107 Try.func107 rfl rfl (Nat.le_of_ble_eq_true rfl) rfl ?_
  have st := St.start w
  refine Wc.seq ?_
  refine Wc.region rfl ?_
  refine Wl.boxA st rfl ?_
  clear st
  intro b3 w1 st
  refine Wl.pure (PR.assI rfl) ?_
  refine Wl.nil ?_
  refine tn ?_
  refine Wc.seq ?_
  refine Wc.region rfl ?_
  refine Wl.pure (PR.assI rfl) ?_
  refine Wl.nil ?_
  refine tn ?_
  refine Wc.seq ?_
  refine Wc.seq ?_
  refine Wc.region rfl ?_
  refine Wl.pure (PR.moveB rfl) ?_
  refine Wl.callV (c_rowsF (bk := b3) (o := 0) (s := s) (p := p) (a := a) (b := b) (st.rdA (i := 0) rfl (all_sub schV_len))) rfl ?_
  intro w2 hbel
  replace st := st.call hbel
  clear hbel
  refine Wl.pure (PR.moveI rfl) ?_
  refine Wl.nil ?_
  refine tn ?_
  refine Wc.block ?_
  refine Wc.loopF (γ := Nat × Nat) (fun g => [(1, .int .u8 (((x : Nat) : Int))), (6, .int .i64 (0)), (7, .int .u8 (((g.2 : Nat) : Int))), (11, .pointer (some ⟨b3, 2, none⟩)), (12, .int .i64 (((g.1 : Nat) : Int)))]) (fun g w_ => St [] w w_ [(b3, schV (s) (p) (a) (b), 62)] ∧ (g.1 ≤ 6) ∧ (g.2 = orS a x g.1) ∧ (g.2 < 256)) (fun g => 6 - g.1) ?_ ?_
  · exact ⟨(0, 0), (.cons rfl (.cons rfl (.cons rfl (.cons rfl (.cons rfl (.nil _)))))), st, (by first | omega | (dsimp only; omega)), rfl, (by decide)⟩
  clear st
  rintro ⟨k, v⟩ w3 ⟨st, hk, hv, hvb⟩
  try dsimp only at st hk hv hvb ⊢
  refine Wc.seq ?_
  refine Wc.region rfl ?_
  refine Wl.pure (PR.lss (a := ((k : Nat) : Int)) (b := 6) rfl rfl) ?_
  refine Wl.nil ?_
  refine tn ?_
  refine Wc.seq ?_
  refine Wc.condD (p := ((k : Nat) : Int) < 6) rfl (fun h4 => ?_) (fun h4 => ?_)
  · refine Wc.skip ?_
    refine tn ?_
    refine Wc.seq ?_
    refine Wc.block ?_
    refine Wc.seq ?_
    refine Wc.quiet hmix (by kernel_rfl) rfl ?_
    refine Wq.pure (PR.moveI rfl) ?_
    refine Wq.pure (PR.nil_ rfl) ?_
    refine Wq.pure (PR.idxAddrA1 (i := k) tE_56 rfl rfl (by omega)) ?_
    refine Wq.load (i := 0) st tA_5 rfl rfl (schV_get_a (by omega)) ?_
    refine Wq.pure (PR.assI rfl) ?_
    refine Wq.pure (PR.assI rfl) ?_
    refine Wq.nil (fun w5 hbel => ?_)
    replace st := st.call hbel
    clear hbel
    refine tn ?_
    refine Wc.seq ?_
    refine Wc.region rfl ?_
    refine Wl.pure (PR.moveI rfl) ?_
    refine Wl.pure (PR.moveI rfl) ?_
    refine Wl.pure (PR.shr (a := x) (n := k) rfl rfl (by decide) hx) ?_
    refine Wl.pure (PR.and (a := (x >>> k)) (b := 1) rfl rfl (by decide) (shr_lt hx) (by decide)) ?_
    refine Wl.pure (PR.eql (a := ((((x >>> k) &&& 1) : Nat) : Int)) (b := 1) rfl rfl) ?_
    refine Wl.nil ?_
    refine tn ?_
    refine Wc.condD (p := ((((x >>> k) &&& 1) : Nat) : Int) = 1) rfl (fun h6 => ?_) (fun h6 => ?_)
    · refine Wc.region rfl ?_
      refine Wl.pure (PR.moveI rfl) ?_
      refine Wl.pure (PR.moveI rfl) ?_
      refine Wl.pure (PR.or (a := v) (b := a (k)) rfl rfl (by decide) hvb (ha (k))) ?_
      refine Wl.pure (PR.assI rfl) ?_
      refine Wl.nil ?_
      refine bn ?_
      refine tn ?_
      refine Wc.region rfl ?_
      refine Wl.pure (PR.add (a := ((k : Nat) : Int)) (b := 1) rfl rfl (by simp only [fitI]; omega)) ?_
      refine Wl.pure (PR.moveI rfl) ?_
      refine Wl.nil ?_
      refine tn ?_
      exact ⟨(k + 1, (v ||| (a (k)))), (.cons rfl (.cons rfl (.cons rfl (.cons rfl (.cons rfl (.nil _)))))), ⟨st, (by first | omega | (dsimp only; omega)), (by first | exact orS_t hv (by omega) | exact orS_f hv (by omega)), (by first | exact hvb | exact or_lt_u8 hvb (ha k))⟩, (by first | omega | (dsimp only; omega))⟩
    · refine Wc.skip ?_
      refine bn ?_
      refine tn ?_
      refine Wc.region rfl ?_
      refine Wl.pure (PR.add (a := ((k : Nat) : Int)) (b := 1) rfl rfl (by simp only [fitI]; omega)) ?_
      refine Wl.pure (PR.moveI rfl) ?_
      refine Wl.nil ?_
      refine tn ?_
      exact ⟨(k + 1, v), (.cons rfl (.cons rfl (.cons rfl (.cons rfl (.cons rfl (.nil _)))))), ⟨st, (by first | omega | (dsimp only; omega)), (by first | exact orS_t hv (by omega) | exact orS_f hv (by omega)), (by first | exact hvb | exact or_lt_u8 hvb (ha k))⟩, (by first | omega | (dsimp only; omega))⟩
  · refine Wc.exit ?_
    refine tx ?_
    refine tx ?_
    refine bh ?_
    refine tn ?_
    refine Wc.seq ?_
    refine Wc.region rfl ?_
    refine Wl.pure (PR.moveI rfl) ?_
    refine Wl.callV (c_math_bits_OnesCount8 (x := v) hvb) rfl ?_
    intro w7 hbel
    replace st := st.call hbel
    clear hbel
    refine Wl.pure (PR.assI rfl) ?_
    refine Wl.nil ?_
    refine tn ?_
    refine Wc.ret ?_
    refine postL.tmp rfl rfl ?_
    refine RetV.of ?_ st.below
    refine congrArg (fun x : Nat => Value.int .i64 (x : Int)) ?_
    obtain rfl : k = 6 := by omega
    unfold wt; rw [hv]

set_option maxHeartbeats 400000 in
set_option maxRecDepth 4000 in
theorem c_impl_Scheme_gap {s : Int} {p : Int} {a : Nat → Nat} {b : Nat → Nat} {x : Nat} {w : World} (ha : ∀ k, a k < 256) (hb : ∀ k, b k < 256) (hx : x < 256) :
    CE Try.prog 113 [.agg (schV (s) (p) (a) (b)).toArray, .int .u8 (((x : Nat) : Int))] w (RetV w (.int .i64 (gapZ a b x))) := by
  refine CE.enter 12 [(0, .agg (schV (s) (p) (a) (b)).toArray), (1, .int .u8 (((x : Nat) : Int)))] en_113 Try.func113 rfl rfl (Nat.le_of_ble_eq_true rfl) rfl ?_
  have st := St.start w
  refine Wc.seq ?_
  refine Wc.region rfl ?_
  refine Wl.boxA st rfl ?_
  clear st
  intro b2 w1 st
  refine Wl.pure (PR.assI rfl) ?_
  refine Wl.nil ?_
  refine tn ?_
  refine Wc.seq ?_
  refine Wc.quiet hmix (by kernel_rfl) rfl ?_
  refine Wq.loadA (i := 0) st tA_62 rfl rfl (all_sub schV_len) schV_len ?_
  refine Wq.pure (PR.moveI rfl) ?_
  refine Wq.callV (fun _ hbel => c_weightT (s := s) (p := p) (a := a) (b := b) (x := x) ha hb hx) rfl ?_
  refine Wq.loadA (i := 0) st tA_62 rfl rfl (all_sub schV_len) schV_len ?_
  refine Wq.pure (PR.moveI rfl) ?_
  refine Wq.callV (fun _ hbel => c_weightF (s := s) (p := p) (a := a) (b := b) (x := x) ha hb hx) rfl ?_
  refine Wq.pure (PR.sub (a := ((wt b x : Nat) : Int)) (b := ((wt a x : Nat) : Int)) rfl rfl (gap_fit ha hb x)) ?_
  refine Wq.pure (PR.assI rfl) ?_
  refine Wq.nil (fun w2 hbel => ?_)
  replace st := st.call hbel
  clear hbel
  refine tn ?_
  refine Wc.ret ?_
  refine postL.tmp rfl rfl ?_
  refine RetV.of ?_ st.below
  unfold gapZ; rfl

set_option maxHeartbeats 400000 in
set_option maxRecDepth 4000 in
theorem c_impl_Scheme_sees {s : Int} {p : Int} {a : Nat → Nat} {b : Nat → Nat} {x : Nat} {w : World} (ha : ∀ k, a k < 256) (hb : ∀ k, b k < 256) (hx : x < 256) :
    CE Try.prog 106 [.agg (schV (s) (p) (a) (b)).toArray, .int .u8 (((x : Nat) : Int))] w (RetV w (.bool (decide (0 < gapZ a b x)))) := by
  refine CE.enter 9 [(0, .agg (schV (s) (p) (a) (b)).toArray), (1, .int .u8 (((x : Nat) : Int)))] en_106 Try.func106 rfl rfl (Nat.le_of_ble_eq_true rfl) rfl ?_
  have st := St.start w
  refine Wc.seq ?_
  refine Wc.region rfl ?_
  refine Wl.boxA st rfl ?_
  clear st
  intro b2 w1 st
  refine Wl.pure (PR.assB rfl) ?_
  refine Wl.nil ?_
  refine tn ?_
  refine Wc.seq ?_
  refine Wc.region rfl ?_
  refine Wl.loadA (i := 0) st tA_62 rfl rfl (all_sub schV_len) schV_len ?_
  refine Wl.pure (PR.moveI rfl) ?_
  refine Wl.callV (c_impl_Scheme_gap (s := s) (p := p) (a := a) (b := b) (x := x) ha hb hx) rfl ?_
  intro w2 hbel
  replace st := st.call hbel
  clear hbel
  refine Wl.pure (PR.gtr (a := gapZ a b x) (b := 0) rfl rfl) ?_
  refine Wl.pure (PR.assB rfl) ?_
  refine Wl.nil ?_
  refine tn ?_
  refine Wc.ret ?_
  refine postL.tmp rfl rfl ?_
  exact RetV.of rfl st.below

set_option maxHeartbeats 400000 in
set_option maxRecDepth 4000 in
theorem c_spec_l03Sees {bk : Nat} {o : Nat} {s : Int} {p : Int} {a : Nat → Nat} {b : Nat → Nat} {x : Nat} {w : World} (hR : RdA w bk o (schV s p a b)) (hs : -128 ≤ s ∧ s ≤ 127) (hp : -128 ≤ p ∧ p ≤ 127) (ha : ∀ k, a k < 256) (hb : ∀ k, b k < 256) (hx : x < 256) (hok : schOk s p a b = true) :
    CE Try.prog 71 [.pointer (some ⟨bk, o, none⟩), .int .u8 (((x : Nat) : Int))] w (RetV w (.tuple #[.int .i64 (((wt a x : Nat) : Int)), .int .i64 (((wt b x : Nat) : Int))])) := by
  refine CE.enter 46 [(0, .pointer (some ⟨bk, o, none⟩)), (1, .int .u8 (((x : Nat) : Int)))] en_71 Try.func71 rfl rfl (Nat.le_of_ble_eq_true rfl) rfl ?_
  have st := St.start w
  refine Wc.seq ?_
  refine Wc.region rfl ?_
  refine Wl.pure (PR.assI rfl) ?_
  refine Wl.pure (PR.assI rfl) ?_
  refine Wl.nil ?_
  refine tn ?_
  refine Wc.seq ?_
  obtain ⟨hs1, _⟩ := schOk_spec hok
  obtain ⟨n, rfl⟩ : ∃ n : Nat, s = ((n : Nat) : Int) := ⟨s.toNat, by omega⟩
  obtain ⟨hn6, hwa, hwb⟩ := sees_rows hok x
  refine Wc.region rfl ?_
  refine Wl.pure (PR.assI rfl) ?_
  refine Wl.nil ?_
  refine tn ?_
  refine Wc.seq ?_
  refine Wc.region rfl ?_
  refine Wl.pure (PR.assI rfl) ?_
  refine Wl.nil ?_
  refine tn ?_
  refine Wc.seq ?_
  refine Wc.seq ?_
  refine Wc.region rfl ?_
  refine Wl.pure (PR.assI rfl) ?_
  refine Wl.nil ?_
  refine tn ?_
  refine Wc.block ?_
  refine Wc.loopF (γ := Nat × Nat × Nat) (fun g => [(0, .pointer (some ⟨bk, o, none⟩)), (1, .int .u8 (((x : Nat) : Int))), (4, .int .i64 (0)), (5, .int .i64 (0)), (6, .int .u8 (((g.2.1 : Nat) : Int))), (7, .int .u8 (((g.2.2 : Nat) : Int))), (8, .int .i64 (((g.1 : Nat) : Int)))]) (fun g w_ => St [] w w_ [] ∧ (g.1 ≤ n) ∧ (g.2.1 = orS a x g.1) ∧ (g.2.1 < 256) ∧ (g.2.2 = orS b x g.1) ∧ (g.2.2 < 256)) (fun g => n - g.1) ?_ ?_
  · exact ⟨(0, 0, 0), (.cons rfl (.cons rfl (.cons rfl (.cons rfl (.cons rfl (.cons rfl (.cons rfl (.nil _)))))))), st, (by first | omega | (dsimp only; omega)), rfl, (by decide), rfl, (by decide)⟩
  clear st
  rintro ⟨k, u, v⟩ w1 ⟨st, hk, hu, hub, hv, hvb⟩
  try dsimp only at st hk hu hub hv hvb ⊢
  refine Wc.seq ?_
  refine Wc.seq ?_
  refine Wc.region rfl ?_
  refine Wl.pure (PR.moveI rfl) ?_
  refine Wl.pure (PR.moveP rfl) ?_
  refine Wl.pure (PR.nil_ rfl) ?_
  refine Wl.pure (PR.fieldAddr tF_62_0 rfl) ?_
  refine Wl.loadC tA_22 rfl ((hR.st st).at_ (j := 0) (rfl) rfl) ?_
  refine Wl.pure (PR.conv (n := ((n : Nat) : Int)) tI_3 rfl (by simp only [fitI]; omega) Try.underlying22) ?_
  refine Wl.pure (PR.lss (a := ((k : Nat) : Int)) (b := ((n : Nat) : Int)) rfl rfl) ?_
  refine Wl.nil ?_
  refine tn ?_
  refine Wc.condD (p := ((k : Nat) : Int) < ((n : Nat) : Int)) rfl (fun h2 => ?_) (fun h2 => ?_)
  · refine Wc.skip ?_
    refine tn ?_
    refine Wc.seq ?_
    refine Wc.block ?_
    refine Wc.seq ?_
    refine Wc.region rfl ?_
    refine Wl.pure (PR.moveI rfl) ?_
    refine Wl.pure (PR.moveI rfl) ?_
    refine Wl.pure (PR.conv (n := ((k : Nat) : Int)) tI_76 rfl (by simp only [fitI]; omega) Try.underlying3) ?_
    refine Wl.pure (PR.shr (a := x) (n := k) rfl rfl (by decide) hx) ?_
    refine Wl.pure (PR.and (a := (x >>> k)) (b := 1) rfl rfl (by decide) (shr_lt hx) (by decide)) ?_
    refine Wl.pure (PR.eql (a := ((((x >>> k) &&& 1) : Nat) : Int)) (b := 1) rfl rfl) ?_
    refine Wl.nil ?_
    refine tn ?_
    refine Wc.condD (p := ((((x >>> k) &&& 1) : Nat) : Int) = 1) rfl (fun h3 => ?_) (fun h3 => ?_)
    · refine Wc.seq ?_
      refine Wc.region rfl ?_
      refine Wl.pure (PR.moveI rfl) ?_
      refine Wl.pure (PR.moveP rfl) ?_
      refine Wl.pure (PR.moveI rfl) ?_
      refine Wl.pure (PR.nil_ rfl) ?_
      refine Wl.pure (PR.fieldAddr tF_62_2 rfl) ?_
      refine Wl.pure (PR.idxAddrA1 (i := k) tE_56 rfl rfl (by omega)) ?_
      refine Wl.loadC tA_5 rfl ((hR.st st).at_ (schV_get_a (by omega)) (Nat.add_assoc _ _ _).symm) ?_
      refine Wl.pure (PR.or (a := u) (b := a (k)) rfl rfl (by decide) hub (ha (k))) ?_
      refine Wl.pure (PR.assI rfl) ?_
      refine Wl.nil ?_
      refine tn ?_
      refine Wc.region rfl ?_
      refine Wl.pure (PR.moveI rfl) ?_
      refine Wl.pure (PR.moveP rfl) ?_
      refine Wl.pure (PR.moveI rfl) ?_
      refine Wl.pure (PR.nil_ rfl) ?_
      refine Wl.pure (PR.fieldAddr tF_62_3 rfl) ?_
      refine Wl.pure (PR.idxAddrA1 (i := k) tE_56 rfl rfl (by omega)) ?_
      refine Wl.loadC tA_5 rfl ((hR.st st).at_ (schV_get_b (by omega)) (Nat.add_assoc _ _ _).symm) ?_
      refine Wl.pure (PR.or (a := v) (b := b (k)) rfl rfl (by decide) hvb (hb (k))) ?_
      refine Wl.pure (PR.assI rfl) ?_
      refine Wl.nil ?_
      refine bn ?_
      refine tn ?_
      refine Wc.region rfl ?_
      refine Wl.pure (PR.moveI rfl) ?_
      refine Wl.pure (PR.add (a := ((k : Nat) : Int)) (b := 1) rfl rfl (by simp only [fitI]; omega)) ?_
      refine Wl.pure (PR.assI rfl) ?_
      refine Wl.nil ?_
      refine tn ?_
      exact ⟨(k + 1, (u ||| (a (k))), (v ||| (b (k)))), (.cons rfl (.cons rfl (.cons rfl (.cons rfl (.cons rfl (.cons rfl (.cons rfl (.nil _)))))))), ⟨st, (by first | omega | (dsimp only; omega)), (by first | exact orS_t hu (by omega) | exact orS_f hu (by omega)), (by first | exact hub | exact or_lt_u8 hub (ha k)), (by first | exact orS_t hv (by omega) | exact orS_f hv (by omega)), (by first | exact hvb | exact or_lt_u8 hvb (hb k))⟩, (by first | omega | (dsimp only; omega))⟩
    · refine Wc.skip ?_
      refine bn ?_
      refine tn ?_
      refine Wc.region rfl ?_
      refine Wl.pure (PR.moveI rfl) ?_
      refine Wl.pure (PR.add (a := ((k : Nat) : Int)) (b := 1) rfl rfl (by simp only [fitI]; omega)) ?_
      refine Wl.pure (PR.assI rfl) ?_
      refine Wl.nil ?_
      refine tn ?_
      exact ⟨(k + 1, u, v), (.cons rfl (.cons rfl (.cons rfl (.cons rfl (.cons rfl (.cons rfl (.cons rfl (.nil _)))))))), ⟨st, (by first | omega | (dsimp only; omega)), (by first | exact orS_t hu (by omega) | exact orS_f hu (by omega)), (by first | exact hub | exact or_lt_u8 hub (ha k)), (by first | exact orS_t hv (by omega) | exact orS_f hv (by omega)), (by first | exact hvb | exact or_lt_u8 hvb (hb k))⟩, (by first | omega | (dsimp only; omega))⟩
  · refine Wc.exit ?_
    refine tx ?_
    refine tx ?_
    refine bh ?_
    refine tn ?_
    refine Wc.seq ?_
    refine Wc.region rfl ?_
    refine Wl.pure (PR.moveI rfl) ?_
    refine Wl.pure (PR.conv (n := ((u : Nat) : Int)) tI_51 rfl (fitN hub rfl) Try.underlying5) ?_
    refine Wl.callV (c_spec_l01Count (x := u) (Nat.lt_of_lt_of_le hub (by decide))) rfl ?_
    intro w4 hbel
    replace st := st.call hbel
    clear hbel
    refine Wl.pure (PR.moveI rfl) ?_
    refine Wl.pure (PR.conv (n := ((v : Nat) : Int)) tI_51 rfl (fitN hvb rfl) Try.underlying5) ?_
    refine Wl.callV (c_spec_l01Count (x := v) (Nat.lt_of_lt_of_le hvb (by decide))) rfl ?_
    intro w5 hbel
    replace st := st.call hbel
    clear hbel
    refine Wl.pure (PR.assI rfl) ?_
    refine Wl.pure (PR.assI rfl) ?_
    refine Wl.nil ?_
    refine tn ?_
    refine Wc.ret ?_
    refine postL.tmp2 rfl rfl rfl ?_
    refine RetV.of ?_ st.below
    obtain rfl : k = n := by omega
    refine tup_2 ?_ ?_
    · refine congrArg (fun x : Nat => Value.int .i64 (x : Int)) ?_
      rw [hu, hwa]
    · refine congrArg (fun x : Nat => Value.int .i64 (x : Int)) ?_
      rw [hv, hwb]

set_option maxHeartbeats 400000 in
set_option maxRecDepth 4000 in
theorem c_impl_SeesWith {s : Int} {p : Int} {a : Nat → Nat} {b : Nat → Nat} {x : Nat} {w : World} (hs : -128 ≤ s ∧ s ≤ 127) (hp : -128 ≤ p ∧ p ≤ 127) (ha : ∀ k, a k < 256) (hb : ∀ k, b k < 256) (hx : x < 256) (hok : schOk s p a b = true) :
    CE Try.prog 93 [.agg (schV (s) (p) (a) (b)).toArray, .int .u8 (((x : Nat) : Int))] w (RetV w (.tuple #[.bool (decide (rsC s a b x = 0)), .int .i64 (((selN (rsC s a b x) (wt b x) : Nat) : Int)), .int .i64 (((swC s x : Nat) : Int))])) := by
  refine CE.enter 33 [(0, .agg (schV (s) (p) (a) (b)).toArray), (1, .int .u8 (((x : Nat) : Int)))] en_93 Try.func93 rfl rfl (Nat.le_of_ble_eq_true rfl) rfl ?_
  have st := St.start w
  refine Wc.seq ?_
  refine Wc.region rfl ?_
  refine Wl.boxA st rfl ?_
  clear st
  intro b2 w1 st
  refine Wl.pure (PR.assB rfl) ?_
  refine Wl.pure (PR.assI rfl) ?_
  refine Wl.pure (PR.assI rfl) ?_
  refine Wl.nil ?_
  refine tn ?_
  refine Wc.seq ?_
  refine Wc.seq ?_
  obtain ⟨hs1, _⟩ := schOk_spec hok
  refine Wc.region rfl ?_
  refine Wl.loadA (i := 0) st tA_62 rfl rfl (all_sub schV_len) schV_len ?_
  refine Wl.callV (c_impl_ValidScheme (s := s) (p := p) (a := a) (b := b) (by first | assumption | omega) (by first | assumption | omega) ha hb) rfl ?_
  intro w2 hbel
  replace st := st.call hbel
  clear hbel
  refine Wl.pure (PR.not_ rfl) ?_
  refine Wl.pure (PR.build (ps := [(0, .bool (!(schOk s p a b))), (1, .int .i64 (1))]) (cs := [.bool (!(schOk s p a b)), .int .i64 (1)]) tB_95 rfl rfl) ?_
  refine Wl.pure (PR.moveI rfl) ?_
  refine Wl.pure (PR.eql (a := ((x : Nat) : Int)) (b := 0) rfl rfl) ?_
  refine Wl.pure (PR.moveB rfl) ?_
  refine Wl.splitF (q := ((x : Nat) : Int) = 0) rfl rfl (fun h3 => ?_) (fun h3 => ?_)
  · refine Wl.loadA (i := 0) st tA_62 rfl rfl (all_sub schV_len) schV_len ?_
    refine Wl.on rfl rfl ?_
    refine Wl.pure (PR.moveI rfl) ?_
    refine Wl.on rfl rfl ?_
    refine Wl.callV (c_impl_Scheme_isSet (s := s) (p := p) (a := a) (b := b) (x := x) ha hb hx) rfl ?_
    intro w4 hbel
    replace st := st.call hbel
    clear hbel
    refine Wl.on rfl rfl ?_
    refine Wl.pure (PR.not_ rfl) ?_
    refine Wl.pure (PR.pickFB rfl rfl) ?_
    refine Wl.pure (PR.build (ps := [(0, .bool (!decide (isSetB s x))), (1, .int .i64 (2))]) (cs := [.bool (!decide (isSetB s x)), .int .i64 (2)]) tB_95 rfl rfl) ?_
    refine Wl.buildSlice (ps := [(0, .agg ([.bool (!(schOk s p a b)), .int .i64 (1)]).toArray), (1, .agg ([.bool (!decide (isSetB s x)), .int .i64 (2)]).toArray)]) (cs := [.bool (!(schOk s p a b)), .int .i64 (1), .bool (!decide (isSetB s x)), .int .i64 (2)]) st tS_127 tZ_95 rfl rfl rfl ?_
    clear st
    intro b21 w5 st
    refine Wl.callV (c_impl_firstOf (bk := b21) (o := 0) (n := 2) (cp := 2) (c := (fun i => [(!(schOk s p a b)), (!decide (isSetB s x))].getD i false)) (e := (fun i => [1, 2].getD i 0)) (st.rdA (i := 0) (n := 4) rfl rfl) (by first | assumption | omega)) rfl ?_
    intro w6 hbel
    replace st := st.call hbel
    clear hbel
    refine Wl.pure (PR.assI rfl) ?_
    refine Wl.nil ?_
    refine tn ?_
    refine Wc.seq ?_
    have hq9 : firstZ 2 (fun i => [(!(schOk s p a b)), (!decide (isSetB s x))].getD i false) (fun i => [1, 2].getD i 0) = ((swC s x : Nat) : Int) := first_sw (by rw [hok]; rfl) (by first | exact sw_e1 (by omega) | exact sw_e2 hs1 hx (by omega))
    refine Wc.region rfl ?_
    refine Wl.pure (PR.moveI rfl) ?_
    refine Wl.pure (PR.neq (a := firstZ 2 (fun i => [(!(schOk s p a b)), (!decide (isSetB s x))].getD i false) (fun i => [1, 2].getD i 0)) (b := 0) rfl rfl) ?_
    refine Wl.nil ?_
    refine tn ?_
    refine Wc.condN (p := firstZ 2 (fun i => [(!(schOk s p a b)), (!decide (isSetB s x))].getD i false) (fun i => [1, 2].getD i 0) = 0) rfl (fun h7 => ?_) (fun h7 => ?_)
    · refine Wc.seq ?_
      refine Wc.region rfl ?_
      refine Wl.pure (PR.moveI rfl) ?_
      refine Wl.pure (PR.assB rfl) ?_
      refine Wl.pure (PR.assI rfl) ?_
      refine Wl.pure (PR.assI rfl) ?_
      refine Wl.nil ?_
      refine tn ?_
      refine Wc.ret ?_
      refine tr ?_
      refine postL.many (rvs := [.tmp 4, .tmp 5, .tmp 6]) rfl (.tmp (v := .bool false) rfl (.tmp (v := .int .i64 (0)) rfl (.tmp (v := .int .i64 (firstZ 2 (fun i => [(!(schOk s p a b)), (!decide (isSetB s x))].getD i false) (fun i => [1, 2].getD i 0))) rfl .nil))) ?_
      refine RetV.of ?_ st.below
      exact sw_1 (by omega) (by omega)
    · refine Wc.skip ?_
      refine tn ?_
      refine Wc.seq ?_
      refine Wc.seq ?_
      refine Wc.region rfl ?_
      refine Wl.loadA (i := 1) st tA_62 rfl rfl (all_sub schV_len) schV_len ?_
      refine Wl.pure (PR.moveI rfl) ?_
      refine Wl.callV (c_impl_Scheme_sees (s := s) (p := p) (a := a) (b := b) (x := x) ha hb hx) rfl ?_
      intro w8 hbel
      replace st := st.call hbel
      clear hbel
      refine Wl.pure (PR.not_ rfl) ?_
      refine Wl.nil ?_
      refine tn ?_
      refine Wc.condN (p := 0 < gapZ a b x) rfl (fun h9 => ?_) (fun h9 => ?_)
      · refine Wc.seq ?_
        refine Wc.region rfl ?_
        refine Wl.pure (PR.assB rfl) ?_
        refine Wl.pure (PR.assI rfl) ?_
        refine Wl.pure (PR.assI rfl) ?_
        refine Wl.nil ?_
        refine tn ?_
        refine Wc.ret ?_
        refine tr ?_
        refine postL.many (rvs := [.tmp 4, .tmp 5, .tmp 6]) rfl (.tmp (v := .bool false) rfl (.tmp (v := .int .i64 (0)) rfl (.tmp (v := .int .i64 (0)) rfl .nil))) ?_
        refine RetV.of ?_ st.below
        exact sw_2 (by omega) (by assumption)
      · refine Wc.skip ?_
        refine tn ?_
        refine Wc.seq ?_
        refine Wc.region rfl ?_
        refine Wl.loadA (i := 1) st tA_62 rfl rfl (all_sub schV_len) schV_len ?_
        refine Wl.pure (PR.moveI rfl) ?_
        refine Wl.callV (c_weightT (s := s) (p := p) (a := a) (b := b) (x := x) ha hb hx) rfl ?_
        intro w10 hbel
        replace st := st.call hbel
        clear hbel
        refine Wl.pure (PR.assB rfl) ?_
        refine Wl.pure (PR.assI rfl) ?_
        refine Wl.pure (PR.assI rfl) ?_
        refine Wl.nil ?_
        refine tn ?_
        refine Wc.ret ?_
        refine postL.many (rvs := [.tmp 4, .tmp 5, .tmp 6]) rfl (.tmp (v := .bool true) rfl (.tmp (v := .int .i64 (((wt b x : Nat) : Int))) rfl (.tmp (v := .int .i64 (0)) rfl .nil))) ?_
        refine RetV.of ?_ st.below
        exact sw_3 (by omega) (by assumption)
  · refine Wl.off rfl rfl rfl ?_
    refine Wl.off rfl rfl rfl ?_
    refine Wl.off rfl rfl rfl ?_
    refine Wl.pure (PR.pickTB rfl rfl) ?_
    refine Wl.pure (PR.build (ps := [(0, .bool true), (1, .int .i64 (2))]) (cs := [.bool true, .int .i64 (2)]) tB_95 rfl rfl) ?_
    refine Wl.buildSlice (ps := [(0, .agg ([.bool (!(schOk s p a b)), .int .i64 (1)]).toArray), (1, .agg ([.bool true, .int .i64 (2)]).toArray)]) (cs := [.bool (!(schOk s p a b)), .int .i64 (1), .bool true, .int .i64 (2)]) st tS_127 tZ_95 rfl rfl rfl ?_
    clear st
    intro b21 w11 st
    refine Wl.callV (c_impl_firstOf (bk := b21) (o := 0) (n := 2) (cp := 2) (c := (fun i => [(!(schOk s p a b)), true].getD i false)) (e := (fun i => [1, 2].getD i 0)) (st.rdA (i := 0) (n := 4) rfl rfl) (by first | assumption | omega)) rfl ?_
    intro w12 hbel
    replace st := st.call hbel
    clear hbel
    refine Wl.pure (PR.assI rfl) ?_
    refine Wl.nil ?_
    refine tn ?_
    refine Wc.seq ?_
    have hq9 : firstZ 2 (fun i => [(!(schOk s p a b)), true].getD i false) (fun i => [1, 2].getD i 0) = ((swC s x : Nat) : Int) := first_sw (by rw [hok]; rfl) (by first | exact sw_e1 (by omega) | exact sw_e2 hs1 hx (by omega))
    refine Wc.region rfl ?_
    refine Wl.pure (PR.moveI rfl) ?_
    refine Wl.pure (PR.neq (a := firstZ 2 (fun i => [(!(schOk s p a b)), true].getD i false) (fun i => [1, 2].getD i 0)) (b := 0) rfl rfl) ?_
    refine Wl.nil ?_
    refine tn ?_
    refine Wc.condN (p := firstZ 2 (fun i => [(!(schOk s p a b)), true].getD i false) (fun i => [1, 2].getD i 0) = 0) rfl (fun h13 => ?_) (fun h13 => ?_)
    · refine Wc.seq ?_
      refine Wc.region rfl ?_
      refine Wl.pure (PR.moveI rfl) ?_
      refine Wl.pure (PR.assB rfl) ?_
      refine Wl.pure (PR.assI rfl) ?_
      refine Wl.pure (PR.assI rfl) ?_
      refine Wl.nil ?_
      refine tn ?_
      refine Wc.ret ?_
      refine tr ?_
      refine postL.many (rvs := [.tmp 4, .tmp 5, .tmp 6]) rfl (.tmp (v := .bool false) rfl (.tmp (v := .int .i64 (0)) rfl (.tmp (v := .int .i64 (firstZ 2 (fun i => [(!(schOk s p a b)), true].getD i false) (fun i => [1, 2].getD i 0))) rfl .nil))) ?_
      refine RetV.of ?_ st.below
      exact sw_1 (by omega) (by omega)
    · refine Wc.skip ?_
      refine tn ?_
      refine Wc.seq ?_
      refine Wc.seq ?_
      refine Wc.region rfl ?_
      refine Wl.loadA (i := 1) st tA_62 rfl rfl (all_sub schV_len) schV_len ?_
      refine Wl.pure (PR.moveI rfl) ?_
      refine Wl.callV (c_impl_Scheme_sees (s := s) (p := p) (a := a) (b := b) (x := x) ha hb hx) rfl ?_
      intro w14 hbel
      replace st := st.call hbel
      clear hbel
      refine Wl.pure (PR.not_ rfl) ?_
      refine Wl.nil ?_
      refine tn ?_
      refine Wc.condN (p := 0 < gapZ a b x) rfl (fun h15 => ?_) (fun h15 => ?_)
      · refine Wc.seq ?_
        refine Wc.region rfl ?_
        refine Wl.pure (PR.assB rfl) ?_
        refine Wl.pure (PR.assI rfl) ?_
        refine Wl.pure (PR.assI rfl) ?_
        refine Wl.nil ?_
        refine tn ?_
        refine Wc.ret ?_
        refine tr ?_
        refine postL.many (rvs := [.tmp 4, .tmp 5, .tmp 6]) rfl (.tmp (v := .bool false) rfl (.tmp (v := .int .i64 (0)) rfl (.tmp (v := .int .i64 (0)) rfl .nil))) ?_
        refine RetV.of ?_ st.below
        exact sw_2 (by omega) (by assumption)
      · refine Wc.skip ?_
        refine tn ?_
        refine Wc.seq ?_
        refine Wc.region rfl ?_
        refine Wl.loadA (i := 1) st tA_62 rfl rfl (all_sub schV_len) schV_len ?_
        refine Wl.pure (PR.moveI rfl) ?_
        refine Wl.callV (c_weightT (s := s) (p := p) (a := a) (b := b) (x := x) ha hb hx) rfl ?_
        intro w16 hbel
        replace st := st.call hbel
        clear hbel
        refine Wl.pure (PR.assB rfl) ?_
        refine Wl.pure (PR.assI rfl) ?_
        refine Wl.pure (PR.assI rfl) ?_
        refine Wl.nil ?_
        refine tn ?_
        refine Wc.ret ?_
        refine postL.many (rvs := [.tmp 4, .tmp 5, .tmp 6]) rfl (.tmp (v := .bool true) rfl (.tmp (v := .int .i64 (((wt b x : Nat) : Int))) rfl (.tmp (v := .int .i64 (0)) rfl .nil))) ?_
        refine RetV.of ?_ st.below
        exact sw_3 (by omega) (by assumption)

end Go.Proofs.Ytagghfllgafmgaa
