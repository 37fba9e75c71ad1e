/-
  Contracts of functions, printed by a program of ours.
-/
import Derived.Test.YtabekcodjcbolaaGreatCL1
import Derived.Test.YtabekcodjcbolaaGreatTorn
namespace Go.Proofs.YtabekcodjcbolaaGreat
open Go.RowKit
set_option linter.unusedVariables false
set_option linter.unusedSimpArgs false

set_option maxHeartbeats 400000 in
set_option maxRecDepth 4000 in
theorem c_impl_ValidScheme {s : Int} {p : Int} {a : Nat → Nat} {b : Nat → Nat} {w : World} (hs : -128 ≤ s ∧ s ≤ 127) (hp : -128 ≤ p ∧ p ≤ 127) (ha : ∀ k, a k < 256) (hb : ∀ k, b k < 256) :
    CE Tryz.prog 56 [.agg (schV (s) (p) (a) (b)).toArray] w (RetV w (.bool (schOk s p a b))) := by
  refine CE.enter 47 [(0, .agg (schV (s) (p) (a) (b)).toArray)] en_56 Tryz.func56 rfl rfl (Nat.le_of_ble_eq_true rfl) rfl ?_
  have st := St.start w
  refine Wc.seq ?_
  refine Wc.region rfl ?_
  refine Wl.boxA st rfl ?_
  clear st
  intro b1 w1 st
  refine Wl.pure (PR.assB rfl) ?_
  refine Wl.nil ?_
  refine tn ?_
  refine Wc.seq ?_
  refine Wc.seq ?_
  refine Wc.region rfl ?_
  refine Wl.pure (PR.fieldAddr tF_27_0 rfl) ?_
  refine Wl.load (i := 0) st tA_24 rfl rfl (rfl) ?_
  refine Wl.pure (PR.conv (n := s) tI_2 rfl (by simp only [fitI]; omega) Tryz.underlying24) ?_
  refine Wl.callV (c_impl_within (n := s) (lo := 1) (hi := 6)) rfl ?_
  intro w2 hbel
  replace st := st.call hbel
  clear hbel
  refine Wl.pure (PR.not_ rfl) ?_
  refine Wl.pure (PR.moveB rfl) ?_
  refine Wl.splitB (b := (!decide (1 ≤ s ∧ s ≤ 6))) rfl rfl (fun h3 => ?_) (fun h3 => ?_)
  · simp only [Bool.not_eq_true', Bool.not_eq_false', Bool.not_true, Bool.not_false, decide_eq_true_eq, decide_eq_false_iff_not] at h3
    refine Wl.pure (PR.fieldAddr tF_27_1 rfl) ?_
    refine Wl.on rfl rfl ?_
    refine Wl.load (i := 0) st tA_24 rfl rfl (rfl) ?_
    refine Wl.on rfl rfl ?_
    refine Wl.pure (PR.conv (n := p) tI_2 rfl (by simp only [fitI]; omega) Tryz.underlying24) ?_
    refine Wl.on rfl rfl ?_
    refine Wl.callV (c_impl_isParts (n := p)) rfl ?_
    intro w4 hbel
    replace st := st.call hbel
    clear hbel
    refine Wl.on rfl rfl ?_
    refine Wl.pure (PR.not_ rfl) ?_
    refine Wl.pure (PR.pickFB rfl rfl) ?_
    refine Wl.nil ?_
    refine tn ?_
    refine Wc.condN (p := 1 ≤ p ∧ p ≤ 8) rfl (fun h5 => ?_) (fun h5 => ?_)
    · refine Wc.seq ?_
      refine Wc.region rfl ?_
      refine Wl.pure (PR.assB rfl) ?_
      refine Wl.nil ?_
      refine tn ?_
      refine Wc.ret ?_
      refine tr ?_
      refine postL.tmp rfl rfl ?_
      refine RetV.of ?_ st.below
      refine congrArg Value.bool ?_
      first | exact schOk_f3 (k := k) (by omega) hy | exact schOk_f1 (by assumption) | exact schOk_f2 (by assumption) | exact schOk_t (by assumption) (by assumption) (fun j hj => hg j (by omega))
    · refine Wc.skip ?_
      refine tn ?_
      refine Wc.seq ?_
      refine Wc.seq ?_
      obtain ⟨n, rfl⟩ : ∃ n : Nat, s = ((n : Nat) : Int) := ⟨s.toNat, by omega⟩
      obtain ⟨m, rfl⟩ : ∃ m : Nat, p = ((m : Nat) : Int) := ⟨p.toNat, by omega⟩
      refine Wc.region rfl ?_
      refine Wl.pure (PR.moveI rfl) ?_
      refine Wl.nil ?_
      refine tn ?_
      refine Wc.block ?_
      refine Wc.loopF (γ := Nat) (fun g => [(1, .pointer (some ⟨b1, 0, none⟩)), (17, .int .i64 (((g : Nat) : Int)))]) (fun g w_ => St [] w w_ [(b1, schV ((n : Nat) : Int) ((m : Nat) : Int) (a) (b), 27)] ∧ (g ≤ 6) ∧ (∀ j, j < g → rowOk n m (a j ||| b j) j)) (fun g => 6 - g) ?_ ?_
      · exact ⟨0, (.cons rfl (.cons rfl (.nil _))), st, (by first | omega | (dsimp only; omega)), (fun j hj => by omega)⟩
      clear st
      rintro k w6 ⟨st, hk, hg⟩
      try dsimp only at st hk hg ⊢
      refine Wc.seq ?_
      refine Wc.region rfl ?_
      refine Wl.pure (PR.lss (a := ((k : Nat) : Int)) (b := 6) rfl rfl) ?_
      refine Wl.nil ?_
      refine tn ?_
      refine Wc.seq ?_
      refine Wc.condD (p := ((k : Nat) : Int) < 6) rfl (fun h7 => ?_) (fun h7 => ?_)
      · refine Wc.skip ?_
        refine tn ?_
        refine Wc.seq ?_
        refine Wc.block ?_
        refine Wc.seq ?_
        refine Wc.region rfl ?_
        refine Wl.pure (PR.moveI rfl) ?_
        refine Wl.pure (PR.assI rfl) ?_
        refine Wl.nil ?_
        refine tn ?_
        refine Wc.seq ?_
        refine Wc.quiet hmix (by kernel_rfl) rfl ?_
        refine Wq.pure (PR.moveI rfl) ?_
        refine Wq.pure (PR.fieldAddr tF_27_2 rfl) ?_
        refine Wq.pure (PR.idxAddrA1 (i := k) tE_25 rfl rfl (by omega)) ?_
        refine Wq.load (i := 0) st tA_5 rfl rfl (schV_get_a (by omega)) ?_
        refine Wq.pure (PR.moveI rfl) ?_
        refine Wq.pure (PR.fieldAddr tF_27_3 rfl) ?_
        refine Wq.pure (PR.idxAddrA1 (i := k) tE_25 rfl rfl (by omega)) ?_
        refine Wq.load (i := 0) st tA_5 rfl rfl (schV_get_b (by omega)) ?_
        refine Wq.pure (PR.or (a := a (k)) (b := b (k)) rfl rfl (by decide) (ha (k)) (hb (k))) ?_
        refine Wq.pure (PR.assI rfl) ?_
        refine Wq.nil (fun w8 hbel => ?_)
        replace st := st.call hbel
        clear hbel
        refine tn ?_
        refine Wc.seq ?_
        refine Wc.region rfl ?_
        refine Wl.pure (PR.moveI rfl) ?_
        refine Wl.pure (PR.fieldAddr tF_27_1 rfl) ?_
        refine Wl.load (i := 0) st tA_24 rfl rfl (rfl) ?_
        refine Wl.callV (c_impl_mask (p := m) (by first | assumption | omega)) rfl ?_
        intro w9 hbel
        replace st := st.call hbel
        clear hbel
        refine Wl.pure (PR.andNot (a := ((a (k)) ||| (b (k)))) (b := (2 ^ m - 1)) rfl rfl (by decide) (or_lt_u8 (ha (k)) (hb (k))) (mask_lt (p := m) (by omega))) ?_
        refine Wl.pure (PR.neq (a := (((bdiff ((a (k)) ||| (b (k))) (2 ^ m - 1)) : Nat) : Int)) (b := 0) rfl rfl) ?_
        refine Wl.pure (PR.moveB rfl) ?_
        refine Wl.splitB (b := (!decide ((((bdiff ((a (k)) ||| (b (k))) (2 ^ m - 1)) : Nat) : Int) = 0))) rfl rfl (fun h10 => ?_) (fun h10 => ?_)
        · simp only [Bool.not_eq_true', Bool.not_eq_false', Bool.not_true, Bool.not_false, decide_eq_true_eq, decide_eq_false_iff_not] at h10
          refine Wl.pure (PR.moveI rfl) ?_
          refine Wl.on rfl rfl ?_
          refine Wl.pure (PR.fieldAddr tF_27_0 rfl) ?_
          refine Wl.on rfl rfl ?_
          refine Wl.load (i := 0) st tA_24 rfl rfl (rfl) ?_
          refine Wl.on rfl rfl ?_
          refine Wl.pure (PR.conv (n := ((n : Nat) : Int)) tI_3 rfl (by simp only [fitI]; omega) Tryz.underlying24) ?_
          refine Wl.on rfl rfl ?_
          refine Wl.pure (PR.geq (a := ((k : Nat) : Int)) (b := ((n : Nat) : Int)) rfl rfl) ?_
          refine Wl.on rfl rfl ?_
          refine Wl.pure (PR.moveB rfl) ?_
          refine Wl.splitT (q := ((n : Nat) : Int) ≤ ((k : Nat) : Int)) rfl rfl (fun h11 => ?_) (fun h11 => ?_)
          · refine Wl.pure (PR.moveI rfl) ?_
            refine Wl.on rfl rfl ?_
            refine Wl.pure (PR.neq (a := ((((a (k)) ||| (b (k))) : Nat) : Int)) (b := 0) rfl rfl) ?_
            refine Wl.on rfl rfl ?_
            refine Wl.pure (PR.pickTB rfl rfl) ?_
            refine Wl.pure (PR.pickFB rfl rfl) ?_
            refine Wl.nil ?_
            refine tn ?_
            refine Wc.condN (p := ((((a (k)) ||| (b (k))) : Nat) : Int) = 0) rfl (fun h12 => ?_) (fun h12 => ?_)
            · refine Wc.seq ?_
              have hy : ¬ rowOk n m (a k ||| b k) k := by
                intro q
                first | exact absurd ((bdiff_mask (or_lt_u8 (ha k) (hb k)) (by omega)).2 q.1) (by omega) | exact absurd (shr_zero.2 q.1) (by omega) | exact absurd (q.2 (by omega)) (by omega)
              refine Wc.region rfl ?_
              refine Wl.pure (PR.assB rfl) ?_
              refine Wl.nil ?_
              refine tn ?_
              refine Wc.ret ?_
              refine br ?_
              refine tr ?_
              refine tr ?_
              refine br ?_
              refine tr ?_
              refine postL.tmp rfl rfl ?_
              refine RetV.of ?_ st.below
              refine congrArg Value.bool ?_
              first | exact schOk_f3 (k := k) (by omega) hy | exact schOk_f1 (by assumption) | exact schOk_f2 (by assumption) | exact schOk_t (by assumption) (by assumption) (fun j hj => hg j (by omega))
            · refine Wc.skip ?_
              refine bn ?_
              refine tn ?_
              refine Wc.region rfl ?_
              refine Wl.pure (PR.add (a := ((k : Nat) : Int)) (b := 1) rfl rfl (by simp only [fitI]; omega)) ?_
              refine Wl.pure (PR.moveI rfl) ?_
              refine Wl.nil ?_
              refine tn ?_
              have hy : rowOk n m (a k ||| b k) k := ⟨by first | exact (bdiff_mask (or_lt_u8 (ha k) (hb k)) (by omega)).1 (by omega) | exact shr_zero.1 (by omega), fun q => by omega⟩
              exact ⟨k + 1, (.cons rfl (.cons rfl (.nil _))), ⟨st, (by first | omega | (dsimp only; omega)), (all_snoc hg hy)⟩, (by first | omega | (dsimp only; omega))⟩
          · refine Wl.off rfl rfl rfl ?_
            refine Wl.on rfl rfl ?_
            refine Wl.pure (PR.pickFB rfl rfl) ?_
            refine Wl.pure (PR.pickFB rfl rfl) ?_
            refine Wl.nil ?_
            refine tn ?_
            refine Wc.condF rfl ?_
            refine Wc.skip ?_
            refine bn ?_
            refine tn ?_
            refine Wc.region rfl ?_
            refine Wl.pure (PR.add (a := ((k : Nat) : Int)) (b := 1) rfl rfl (by simp only [fitI]; omega)) ?_
            refine Wl.pure (PR.moveI rfl) ?_
            refine Wl.nil ?_
            refine tn ?_
            have hy : rowOk n m (a k ||| b k) k := ⟨by first | exact (bdiff_mask (or_lt_u8 (ha k) (hb k)) (by omega)).1 (by omega) | exact shr_zero.1 (by omega), fun q => by omega⟩
            exact ⟨k + 1, (.cons rfl (.cons rfl (.nil _))), ⟨st, (by first | omega | (dsimp only; omega)), (all_snoc hg hy)⟩, (by first | omega | (dsimp only; omega))⟩
        · simp only [Bool.not_eq_true', Bool.not_eq_false', Bool.not_true, Bool.not_false, decide_eq_true_eq, decide_eq_false_iff_not] at h10
          refine Wl.off rfl rfl rfl ?_
          refine Wl.off rfl rfl rfl ?_
          refine Wl.off rfl rfl rfl ?_
          refine Wl.off rfl rfl rfl ?_
          refine Wl.off rfl rfl rfl ?_
          refine Wl.offU rfl rfl ?_
          refine Wl.offU rfl rfl ?_
          refine Wl.off rfl rfl rfl ?_
          refine Wl.pure (PR.pickTB rfl rfl) ?_
          refine Wl.nil ?_
          refine tn ?_
          refine Wc.condT rfl ?_
          refine Wc.seq ?_
          have hy : ¬ rowOk n m (a k ||| b k) k := by
            intro q
            first | exact absurd ((bdiff_mask (or_lt_u8 (ha k) (hb k)) (by omega)).2 q.1) (by omega) | exact absurd (shr_zero.2 q.1) (by omega) | exact absurd (q.2 (by omega)) (by omega)
          refine Wc.region rfl ?_
          refine Wl.pure (PR.assB rfl) ?_
          refine Wl.nil ?_
          refine tn ?_
          refine Wc.ret ?_
          refine br ?_
          refine tr ?_
          refine tr ?_
          refine br ?_
          refine tr ?_
          refine postL.tmp rfl rfl ?_
          refine RetV.of ?_ st.below
          refine congrArg Value.bool ?_
          first | exact schOk_f3 (k := k) (by omega) hy | exact schOk_f1 (by assumption) | exact schOk_f2 (by assumption) | exact schOk_t (by assumption) (by assumption) (fun j hj => hg j (by omega))
      · refine Wc.exit ?_
        refine tx ?_
        refine tx ?_
        refine bh ?_
        refine tn ?_
        refine Wc.seq ?_
        refine Wc.region rfl ?_
        refine Wl.pure (PR.assB rfl) ?_
        refine Wl.nil ?_
        refine tn ?_
        refine Wc.ret ?_
        refine postL.tmp rfl rfl ?_
        refine RetV.of ?_ st.below
        refine congrArg Value.bool ?_
        first | exact schOk_f3 (k := k) (by omega) hy | exact schOk_f1 (by assumption) | exact schOk_f2 (by assumption) | exact schOk_t (by assumption) (by assumption) (fun j hj => hg j (by omega))
  · simp only [Bool.not_eq_true', Bool.not_eq_false', Bool.not_true, Bool.not_false, decide_eq_true_eq, decide_eq_false_iff_not] at h3
    refine Wl.off rfl rfl rfl ?_
    refine Wl.off rfl rfl rfl ?_
    refine Wl.off rfl rfl rfl ?_
    refine Wl.off rfl rfl rfl ?_
    refine Wl.pure (PR.pickTB rfl rfl) ?_
    refine Wl.nil ?_
    refine tn ?_
    refine Wc.condT rfl ?_
    refine Wc.seq ?_
    refine Wc.region rfl ?_
    refine Wl.pure (PR.assB rfl) ?_
    refine Wl.nil ?_
    refine tn ?_
    refine Wc.ret ?_
    refine tr ?_
    refine postL.tmp rfl rfl ?_
    refine RetV.of ?_ st.below
    refine congrArg Value.bool ?_
    first | exact schOk_f3 (k := k) (by omega) hy | exact schOk_f1 (by assumption) | exact schOk_f2 (by assumption) | exact schOk_t (by assumption) (by assumption) (fun j hj => hg j (by omega))

set_option maxHeartbeats 400000 in
set_option maxRecDepth 4000 in
theorem c_spec_l02Ok {bk : Nat} {o : Nat} {s : Int} {p : Int} {a : Nat → Nat} {b : Nat → Nat} {w : World} (hR : RdA w bk o (schV s p a b)) (hs : -128 ≤ s ∧ s ≤ 127) (hp : -128 ≤ p ∧ p ≤ 127) (ha : ∀ k, a k < 256) (hb : ∀ k, b k < 256) :
    CE Tryz.prog 53 [.pointer (some ⟨bk, o, none⟩)] w (RetV w (.bool (schOk s p a b))) := by
  refine CE.enter 59 [(0, .pointer (some ⟨bk, o, none⟩))] en_53 Tryz.func53 rfl rfl (Nat.le_of_ble_eq_true rfl) rfl ?_
  have st := St.start w
  refine Wc.seq ?_
  refine Wc.region rfl ?_
  refine Wl.pure (PR.assB rfl) ?_
  refine Wl.nil ?_
  refine tn ?_
  refine Wc.seq ?_
  refine Wc.seq ?_
  refine Wc.region rfl ?_
  refine Wl.pure (PR.moveP rfl) ?_
  refine Wl.pure (PR.nil_ rfl) ?_
  refine Wl.pure (PR.fieldAddr tF_27_0 rfl) ?_
  refine Wl.loadC tA_24 rfl ((hR.st st).at_ (j := 0) (rfl) rfl) ?_
  refine Wl.pure (PR.conv (n := s) tI_2 rfl (by simp only [fitI]; omega) Tryz.underlying24) ?_
  refine Wl.callV (c_spec_l00In (n := s) (lo := 1) (hi := 6)) rfl ?_
  intro w1 hbel
  replace st := st.call hbel
  clear hbel
  refine Wl.pure (PR.not_ rfl) ?_
  refine Wl.pure (PR.moveB rfl) ?_
  refine Wl.splitB (b := (!decide (1 ≤ s ∧ s ≤ 6))) rfl rfl (fun h2 => ?_) (fun h2 => ?_)
  · simp only [Bool.not_eq_true', Bool.not_eq_false', Bool.not_true, Bool.not_false, decide_eq_true_eq, decide_eq_false_iff_not] at h2
    refine Wl.pure (PR.moveP rfl) ?_
    refine Wl.on rfl rfl ?_
    refine Wl.pure (PR.nil_ rfl) ?_
    refine Wl.on rfl rfl ?_
    refine Wl.pure (PR.fieldAddr tF_27_1 rfl) ?_
    refine Wl.on rfl rfl ?_
    refine Wl.loadC tA_24 rfl ((hR.st st).at_ (j := 1) (rfl) rfl) ?_
    refine Wl.on rfl rfl ?_
    refine Wl.pure (PR.conv (n := p) tI_2 rfl (by simp only [fitI]; omega) Tryz.underlying24) ?_
    refine Wl.on rfl rfl ?_
    refine Wl.callV (c_spec_l01Parts (n := p)) rfl ?_
    intro w3 hbel
    replace st := st.call hbel
    clear hbel
    refine Wl.on rfl rfl ?_
    refine Wl.pure (PR.not_ rfl) ?_
    refine Wl.pure (PR.pickFB rfl rfl) ?_
    refine Wl.nil ?_
    refine tn ?_
    refine Wc.condN (p := 1 ≤ p ∧ p ≤ 8) rfl (fun h4 => ?_) (fun h4 => ?_)
    · refine Wc.seq ?_
      refine Wc.region rfl ?_
      refine Wl.pure (PR.assB rfl) ?_
      refine Wl.nil ?_
      refine tn ?_
      refine Wc.ret ?_
      refine tr ?_
      refine postL.tmp rfl rfl ?_
      refine RetV.of ?_ st.below
      refine congrArg Value.bool ?_
      first | exact schOk_f3 (k := k) (by omega) hy | exact schOk_f1 (by assumption) | exact schOk_f2 (by assumption) | exact schOk_t (by assumption) (by assumption) (fun j hj => hg j (by omega))
    · refine Wc.skip ?_
      refine tn ?_
      refine Wc.seq ?_
      refine Wc.seq ?_
      obtain ⟨n, rfl⟩ : ∃ n : Nat, s = ((n : Nat) : Int) := ⟨s.toNat, by omega⟩
      obtain ⟨m, rfl⟩ : ∃ m : Nat, p = ((m : Nat) : Int) := ⟨p.toNat, by omega⟩
      refine Wc.region rfl ?_
      refine Wl.pure (PR.assI rfl) ?_
      refine Wl.nil ?_
      refine tn ?_
      refine Wc.block ?_
      refine Wc.loopF (γ := Nat) (fun g => [(0, .pointer (some ⟨bk, o, none⟩)), (3, .int .i64 (((g : Nat) : Int)))]) (fun g w_ => St [] w w_ [] ∧ (g ≤ 6) ∧ (∀ j, j < g → rowOk n m (a j ||| b j) j)) (fun g => 6 - g) ?_ ?_
      · exact ⟨0, (.cons rfl (.cons rfl (.nil _))), st, (by first | omega | (dsimp only; omega)), (fun j hj => by omega)⟩
      clear st
      rintro k w5 ⟨st, hk, hg⟩
      try dsimp only at st hk hg ⊢
      refine Wc.seq ?_
      refine Wc.seq ?_
      refine Wc.region rfl ?_
      refine Wl.pure (PR.moveI rfl) ?_
      refine Wl.pure (PR.lss (a := ((k : Nat) : Int)) (b := 6) rfl rfl) ?_
      refine Wl.nil ?_
      refine tn ?_
      refine Wc.condD (p := ((k : Nat) : Int) < 6) rfl (fun h6 => ?_) (fun h6 => ?_)
      · refine Wc.skip ?_
        refine tn ?_
        refine Wc.seq ?_
        refine Wc.block ?_
        refine Wc.seq ?_
        refine Wc.quiet hmix (by kernel_rfl) rfl ?_
        refine Wq.pure (PR.moveP rfl) ?_
        refine Wq.pure (PR.moveI rfl) ?_
        refine Wq.pure (PR.nil_ rfl) ?_
        refine Wq.pure (PR.fieldAddr tF_27_2 rfl) ?_
        refine Wq.pure (PR.idxAddrA1 (i := k) tE_25 rfl rfl (by omega)) ?_
        refine Wq.loadC tA_5 rfl ((hR.st st).at_ (schV_get_a (by omega)) (Nat.add_assoc _ _ _).symm) ?_
        refine Wq.pure (PR.moveP rfl) ?_
        refine Wq.pure (PR.moveI rfl) ?_
        refine Wq.pure (PR.nil_ rfl) ?_
        refine Wq.pure (PR.fieldAddr tF_27_3 rfl) ?_
        refine Wq.pure (PR.idxAddrA1 (i := k) tE_25 rfl rfl (by omega)) ?_
        refine Wq.loadC tA_5 rfl ((hR.st st).at_ (schV_get_b (by omega)) (Nat.add_assoc _ _ _).symm) ?_
        refine Wq.pure (PR.or (a := a (k)) (b := b (k)) rfl rfl (by decide) (ha (k)) (hb (k))) ?_
        refine Wq.pure (PR.assI rfl) ?_
        refine Wq.nil (fun w7 hbel => ?_)
        replace st := st.call hbel
        clear hbel
        refine tn ?_
        refine Wc.seq ?_
        refine Wc.region rfl ?_
        refine Wl.pure (PR.moveI rfl) ?_
        refine Wl.pure (PR.moveP rfl) ?_
        refine Wl.pure (PR.nil_ rfl) ?_
        refine Wl.pure (PR.fieldAddr tF_27_1 rfl) ?_
        refine Wl.loadC tA_24 rfl ((hR.st st).at_ (j := 1) (rfl) rfl) ?_
        refine Wl.pure (PR.conv (n := ((m : Nat) : Int)) tI_51 rfl (by simp only [fitI]; omega) Tryz.underlying24) ?_
        refine Wl.pure (PR.shr (a := ((a (k)) ||| (b (k)))) (n := m) rfl rfl (by decide) (or_lt_u8 (ha (k)) (hb (k)))) ?_
        refine Wl.pure (PR.neq (a := (((((a (k)) ||| (b (k))) >>> m) : Nat) : Int)) (b := 0) rfl rfl) ?_
        refine Wl.pure (PR.moveB rfl) ?_
        refine Wl.splitB (b := (!decide ((((((a (k)) ||| (b (k))) >>> m) : Nat) : Int) = 0))) rfl rfl (fun h8 => ?_) (fun h8 => ?_)
        · simp only [Bool.not_eq_true', Bool.not_eq_false', Bool.not_true, Bool.not_false, decide_eq_true_eq, decide_eq_false_iff_not] at h8
          refine Wl.pure (PR.moveI rfl) ?_
          refine Wl.on rfl rfl ?_
          refine Wl.pure (PR.moveP rfl) ?_
          refine Wl.on rfl rfl ?_
          refine Wl.pure (PR.nil_ rfl) ?_
          refine Wl.on rfl rfl ?_
          refine Wl.pure (PR.fieldAddr tF_27_0 rfl) ?_
          refine Wl.on rfl rfl ?_
          refine Wl.loadC tA_24 rfl ((hR.st st).at_ (j := 0) (rfl) rfl) ?_
          refine Wl.on rfl rfl ?_
          refine Wl.pure (PR.conv (n := ((n : Nat) : Int)) tI_3 rfl (by simp only [fitI]; omega) Tryz.underlying24) ?_
          refine Wl.on rfl rfl ?_
          refine Wl.pure (PR.geq (a := ((k : Nat) : Int)) (b := ((n : Nat) : Int)) rfl rfl) ?_
          refine Wl.on rfl rfl ?_
          refine Wl.pure (PR.moveB rfl) ?_
          refine Wl.splitT (q := ((n : Nat) : Int) ≤ ((k : Nat) : Int)) rfl rfl (fun h9 => ?_) (fun h9 => ?_)
          · refine Wl.pure (PR.moveI rfl) ?_
            refine Wl.on rfl rfl ?_
            refine Wl.pure (PR.neq (a := ((((a (k)) ||| (b (k))) : Nat) : Int)) (b := 0) rfl rfl) ?_
            refine Wl.on rfl rfl ?_
            refine Wl.pure (PR.pickTB rfl rfl) ?_
            refine Wl.pure (PR.pickFB rfl rfl) ?_
            refine Wl.nil ?_
            refine tn ?_
            refine Wc.condN (p := ((((a (k)) ||| (b (k))) : Nat) : Int) = 0) rfl (fun h10 => ?_) (fun h10 => ?_)
            · refine Wc.seq ?_
              have hy : ¬ rowOk n m (a k ||| b k) k := by
                intro q
                first | exact absurd ((bdiff_mask (or_lt_u8 (ha k) (hb k)) (by omega)).2 q.1) (by omega) | exact absurd (shr_zero.2 q.1) (by omega) | exact absurd (q.2 (by omega)) (by omega)
              refine Wc.region rfl ?_
              refine Wl.pure (PR.assB rfl) ?_
              refine Wl.nil ?_
              refine tn ?_
              refine Wc.ret ?_
              refine br ?_
              refine tr ?_
              refine tr ?_
              refine br ?_
              refine tr ?_
              refine postL.tmp rfl rfl ?_
              refine RetV.of ?_ st.below
              refine congrArg Value.bool ?_
              first | exact schOk_f3 (k := k) (by omega) hy | exact schOk_f1 (by assumption) | exact schOk_f2 (by assumption) | exact schOk_t (by assumption) (by assumption) (fun j hj => hg j (by omega))
            · refine Wc.skip ?_
              refine bn ?_
              refine tn ?_
              refine Wc.region rfl ?_
              refine Wl.pure (PR.moveI rfl) ?_
              refine Wl.pure (PR.add (a := ((k : Nat) : Int)) (b := 1) rfl rfl (by simp only [fitI]; omega)) ?_
              refine Wl.pure (PR.assI rfl) ?_
              refine Wl.nil ?_
              refine tn ?_
              have hy : rowOk n m (a k ||| b k) k := ⟨by first | exact (bdiff_mask (or_lt_u8 (ha k) (hb k)) (by omega)).1 (by omega) | exact shr_zero.1 (by omega), fun q => by omega⟩
              exact ⟨k + 1, (.cons rfl (.cons rfl (.nil _))), ⟨st, (by first | omega | (dsimp only; omega)), (all_snoc hg hy)⟩, (by first | omega | (dsimp only; omega))⟩
          · refine Wl.off rfl rfl rfl ?_
            refine Wl.on rfl rfl ?_
            refine Wl.pure (PR.pickFB rfl rfl) ?_
            refine Wl.pure (PR.pickFB rfl rfl) ?_
            refine Wl.nil ?_
            refine tn ?_
            refine Wc.condF rfl ?_
            refine Wc.skip ?_
            refine bn ?_
            refine tn ?_
            refine Wc.region rfl ?_
            refine Wl.pure (PR.moveI rfl) ?_
            refine Wl.pure (PR.add (a := ((k : Nat) : Int)) (b := 1) rfl rfl (by simp only [fitI]; omega)) ?_
            refine Wl.pure (PR.assI rfl) ?_
            refine Wl.nil ?_
            refine tn ?_
            have hy : rowOk n m (a k ||| b k) k := ⟨by first | exact (bdiff_mask (or_lt_u8 (ha k) (hb k)) (by omega)).1 (by omega) | exact shr_zero.1 (by omega), fun q => by omega⟩
            exact ⟨k + 1, (.cons rfl (.cons rfl (.nil _))), ⟨st, (by first | omega | (dsimp only; omega)), (all_snoc hg hy)⟩, (by first | omega | (dsimp only; omega))⟩
        · simp only [Bool.not_eq_true', Bool.not_eq_false', Bool.not_true, Bool.not_false, decide_eq_true_eq, decide_eq_false_iff_not] at h8
          refine Wl.off rfl rfl rfl ?_
          refine Wl.off rfl rfl rfl ?_
          refine Wl.off rfl rfl rfl ?_
          refine Wl.off rfl rfl rfl ?_
          refine Wl.off rfl rfl rfl ?_
          refine Wl.off rfl rfl rfl ?_
          refine Wl.off rfl rfl rfl ?_
          refine Wl.offU rfl rfl ?_
          refine Wl.offU rfl rfl ?_
          refine Wl.off rfl rfl rfl ?_
          refine Wl.pure (PR.pickTB rfl rfl) ?_
          refine Wl.nil ?_
          refine tn ?_
          refine Wc.condT rfl ?_
          refine Wc.seq ?_
          have hy : ¬ rowOk n m (a k ||| b k) k := by
            intro q
            first | exact absurd ((bdiff_mask (or_lt_u8 (ha k) (hb k)) (by omega)).2 q.1) (by omega) | exact absurd (shr_zero.2 q.1) (by omega) | exact absurd (q.2 (by omega)) (by omega)
          refine Wc.region rfl ?_
          refine Wl.pure (PR.assB rfl) ?_
          refine Wl.nil ?_
          refine tn ?_
          refine Wc.ret ?_
          refine br ?_
          refine tr ?_
          refine tr ?_
          refine br ?_
          refine tr ?_
          refine postL.tmp rfl rfl ?_
          refine RetV.of ?_ st.below
          refine congrArg Value.bool ?_
          first | exact schOk_f3 (k := k) (by omega) hy | exact schOk_f1 (by assumption) | exact schOk_f2 (by assumption) | exact schOk_t (by assumption) (by assumption) (fun j hj => hg j (by omega))
      · refine Wc.exit ?_
        refine tx ?_
        refine tx ?_
        refine bh ?_
        refine tn ?_
        refine Wc.seq ?_
        refine Wc.region rfl ?_
        refine Wl.pure (PR.assB rfl) ?_
        refine Wl.nil ?_
        refine tn ?_
        refine Wc.ret ?_
        refine postL.tmp rfl rfl ?_
        refine RetV.of ?_ st.below
        refine congrArg Value.bool ?_
        first | exact schOk_f3 (k := k) (by omega) hy | exact schOk_f1 (by assumption) | exact schOk_f2 (by assumption) | exact schOk_t (by assumption) (by assumption) (fun j hj => hg j (by omega))
  · simp only [Bool.not_eq_true', Bool.not_eq_false', Bool.not_true, Bool.not_false, decide_eq_true_eq, decide_eq_false_iff_not] at h2
    refine Wl.off rfl rfl rfl ?_
    refine Wl.off rfl rfl rfl ?_
    refine Wl.off rfl rfl rfl ?_
    refine Wl.off rfl rfl rfl ?_
    refine Wl.off rfl rfl rfl ?_
    refine Wl.off rfl rfl rfl ?_
    refine Wl.pure (PR.pickTB rfl rfl) ?_
    refine Wl.nil ?_
    refine tn ?_
    refine Wc.condT rfl ?_
    refine Wc.seq ?_
    refine Wc.region rfl ?_
    refine Wl.pure (PR.assB rfl) ?_
    refine Wl.nil ?_
    refine tn ?_
    refine Wc.ret ?_
    refine tr ?_
    refine postL.tmp rfl rfl ?_
    refine RetV.of ?_ st.below
    refine congrArg Value.bool ?_
    first | exact schOk_f3 (k := k) (by omega) hy | exact schOk_f1 (by assumption) | exact schOk_f2 (by assumption) | exact schOk_t (by assumption) (by assumption) (fun j hj => hg j (by omega))

set_option maxHeartbeats 400000 in
set_option maxRecDepth 4000 in
theorem c_spec_ValidScheme {s : Int} {p : Int} {a : Nat → Nat} {b : Nat → Nat} {w : World} (hs : -128 ≤ s ∧ s ≤ 127) (hp : -128 ≤ p ∧ p ≤ 127) (ha : ∀ k, a k < 256) (hb : ∀ k, b k < 256) :
    CE Tryz.prog 28 [.agg (schV (s) (p) (a) (b)).toArray] w (RetV w (.bool (schOk s p a b))) := by
  refine CE.enter 4 [(0, .agg (schV (s) (p) (a) (b)).toArray)] en_28 Tryz.func28 rfl rfl (Nat.le_of_ble_eq_true rfl) rfl ?_
  have st := St.start w
  refine Wc.seq ?_
  refine Wc.region rfl ?_
  refine Wl.boxA st rfl ?_
  clear st
  intro b1 w1 st
  refine Wl.pure (PR.assB rfl) ?_
  refine Wl.nil ?_
  refine tn ?_
  refine Wc.seq ?_
  refine Wc.region rfl ?_
  refine Wl.callV (c_spec_l02Ok (bk := b1) (o := 0) (s := s) (p := p) (a := a) (b := b) (st.rdA (i := 0) rfl (all_sub schV_len)) (by first | assumption | omega) (by first | assumption | omega) ha hb) rfl ?_
  intro w2 hbel
  replace st := st.call hbel
  clear hbel
  refine Wl.pure (PR.assB rfl) ?_
  refine Wl.nil ?_
  refine tn ?_
  refine Wc.ret ?_
  refine postL.tmp rfl rfl ?_
  exact RetV.of rfl st.below

set_option maxHeartbeats 400000 in
set_option maxRecDepth 4000 in
theorem c_impl_haveParts {A : Option Addr} {n : Nat} {cp : Nat} {p : Nat → Int} {c : Nat → Nat → Nat} {q : Int} {w : World} (hR : RdS w A n (layS n p c)) (hp : ∀ i, i < n → -128 ≤ p i ∧ p i ≤ 127) (hc : ∀ i k, c i k < 256) (hn : n ≤ 1048576) :
    CE Tryz.prog 58 [.slice (A) (n) (cp), .int .i8 (q)] w (RetV w (.bool (allP n p q))) := by
  refine CE.enter 18 [(0, .slice (A) (n) (cp)), (1, .int .i8 (q))] en_58 Tryz.func58 rfl rfl (Nat.le_of_ble_eq_true rfl) rfl ?_
  have st := St.start w
  refine Wc.seq ?_
  refine Wc.region rfl ?_
  refine Wl.pure (PR.assB rfl) ?_
  refine Wl.nil ?_
  refine tn ?_
  refine Wc.seq ?_
  refine Wc.seq ?_
  refine Wc.region rfl ?_
  refine Wl.pure (PR.moveL rfl) ?_
  refine Wl.pure (PR.lenL tS_32 rfl) ?_
  refine Wl.pure (PR.moveI rfl) ?_
  refine Wl.nil ?_
  refine tn ?_
  refine Wc.block ?_
  refine Wc.loopF (γ := Nat) (fun g => [(1, .int .i8 (q)), (7, .slice (A) (n) (cp)), (8, .int .i64 (((n : Nat) : Int))), (9, .int .i64 (((g : Nat) : Int)))]) (fun g w_ => St [] w w_ [] ∧ (g ≤ n) ∧ (∀ j, j < g → p j = q)) (fun g => n - g) ?_ ?_
  · exact ⟨0, (.cons rfl (.cons rfl (.cons rfl (.cons rfl (.nil _))))), st, (by first | omega | (dsimp only; omega)), (fun j hj => by omega)⟩
  clear st
  rintro k w1 ⟨st, hk, hg⟩
  try dsimp only at st hk hg ⊢
  refine Wc.seq ?_
  refine Wc.region rfl ?_
  refine Wl.pure (PR.lss (a := ((k : Nat) : Int)) (b := ((n : Nat) : Int)) rfl rfl) ?_
  refine Wl.nil ?_
  refine tn ?_
  refine Wc.seq ?_
  refine Wc.condD (p := ((k : Nat) : Int) < ((n : Nat) : Int)) rfl (fun h2 => ?_) (fun h2 => ?_)
  · refine Wc.skip ?_
    refine tn ?_
    refine Wc.seq ?_
    refine Wc.block ?_
    refine Wc.seq ?_
    refine Wc.region rfl ?_
    obtain ⟨bs3, os4, rfl, hs5⟩ := hR (by omega)
    have := hp (k) (by omega)
    refine Wl.pure (PR.idxAddrS (i := k) tS_32 rfl rfl (by omega)) ?_
    refine Wl.loadAC (vs := layV (p k) ((c k))) tA_50 rfl layV_len ((hs5.st st).sub (recV_sub (n := n) (i := k) (layS_row _ _) (by omega)) rfl) ?_
    refine Wl.alloc st tZ_50 rfl ?_
    clear st
    intro b6 w6 st
    refine Wl.storeA (i := 0) (cs' := layV (p k) ((c k))) st tA_50 rfl rfl layV_len layV_one rfl (le_of_len layV_len (by omega)) (all_put layV_len) ?_
    clear st
    intro w7 st
    replace st : St [] w w7 [(b6, layV (p k) ((c k)), 50)] := st
    refine Wl.nil ?_
    refine tn ?_
    refine Wc.seq ?_
    refine Wc.region rfl ?_
    refine Wl.pure (PR.fieldAddr tF_50_0 rfl) ?_
    refine Wl.load (i := 0) st tA_24 rfl rfl (rfl) ?_
    refine Wl.pure (PR.moveI rfl) ?_
    refine Wl.pure (PR.neq (a := p k) (b := q) rfl rfl) ?_
    refine Wl.nil ?_
    refine tn ?_
    refine Wc.condN (p := p k = q) rfl (fun h8 => ?_) (fun h8 => ?_)
    · refine Wc.seq ?_
      refine Wc.region rfl ?_
      refine Wl.pure (PR.assB rfl) ?_
      refine Wl.nil ?_
      refine tn ?_
      refine Wc.ret ?_
      refine br ?_
      refine tr ?_
      refine tr ?_
      refine br ?_
      refine tr ?_
      refine postL.tmp rfl rfl ?_
      refine RetV.of ?_ st.below
      refine congrArg Value.bool ?_
      exact allP_f (k := k) (by omega) (by omega)
    · refine Wc.skip ?_
      refine bn ?_
      refine tn ?_
      refine Wc.region rfl ?_
      refine Wl.pure (PR.add (a := ((k : Nat) : Int)) (b := 1) rfl rfl (by simp only [fitI]; omega)) ?_
      refine Wl.pure (PR.moveI rfl) ?_
      refine Wl.nil ?_
      refine tn ?_
      replace st := st.tail
      exact ⟨k + 1, (.cons rfl (.cons rfl (.cons rfl (.cons rfl (.nil _))))), ⟨st, (by first | omega | (dsimp only; omega)), (all_snoc hg (by omega))⟩, (by first | omega | (dsimp only; omega))⟩
  · refine Wc.exit ?_
    refine tx ?_
    refine tx ?_
    refine bh ?_
    refine tn ?_
    refine Wc.seq ?_
    refine Wc.region rfl ?_
    refine Wl.pure (PR.assB rfl) ?_
    refine Wl.nil ?_
    refine tn ?_
    refine Wc.ret ?_
    refine postL.tmp rfl rfl ?_
    refine RetV.of ?_ st.below
    refine congrArg Value.bool ?_
    exact allP_t (fun j hj => hg j (by omega))

set_option maxHeartbeats 400000 in
set_option maxRecDepth 4000 in
theorem c_impl_firstOf {bk : Nat} {o : Nat} {n : Nat} {cp : Nat} {c : Nat → Bool} {e : Nat → Int} {w : World} (hR : RdA w bk o (prV n c e)) (hn : n ≤ 1000) :
    CE Tryz.prog 43 [.slice (some ⟨bk, o, none⟩) (n) (cp)] w (RetV w (.int .i64 (firstZ n c e))) := by
  refine CE.enter 16 [(0, .slice (some ⟨bk, o, none⟩) (n) (cp))] en_43 Tryz.func43 rfl rfl (Nat.le_of_ble_eq_true rfl) rfl ?_
  have st := St.start w
  refine Wc.seq ?_
  refine Wc.region rfl ?_
  refine Wl.pure (PR.assI rfl) ?_
  refine Wl.nil ?_
  refine tn ?_
  refine Wc.seq ?_
  refine Wc.seq ?_
  refine Wc.region rfl ?_
  refine Wl.pure (PR.moveL rfl) ?_
  refine Wl.pure (PR.lenL tS_107 rfl) ?_
  refine Wl.pure (PR.moveI rfl) ?_
  refine Wl.nil ?_
  refine tn ?_
  refine Wc.block ?_
  refine Wc.loopF (γ := Nat) (fun g => [(5, .slice (some ⟨bk, o, none⟩) (n) (cp)), (6, .int .i64 (((n : Nat) : Int))), (7, .int .i64 (((g : Nat) : Int)))]) (fun g w_ => St [] w w_ [] ∧ (g ≤ n) ∧ (firstZ n c e = firstF c e (n - g) g)) (fun g => n - g) ?_ ?_
  · exact ⟨0, (.cons rfl (.cons rfl (.cons rfl (.nil _)))), st, (by first | omega | (dsimp only; omega)), rfl⟩
  clear st
  rintro k w1 ⟨st, hk, hf⟩
  try dsimp only at st hk hf ⊢
  refine Wc.seq ?_
  refine Wc.region rfl ?_
  refine Wl.pure (PR.lss (a := ((k : Nat) : Int)) (b := ((n : Nat) : Int)) rfl rfl) ?_
  refine Wl.nil ?_
  refine tn ?_
  refine Wc.seq ?_
  refine Wc.condD (p := ((k : Nat) : Int) < ((n : Nat) : Int)) rfl (fun h2 => ?_) (fun h2 => ?_)
  · refine Wc.skip ?_
    refine tn ?_
    refine Wc.seq ?_
    refine Wc.block ?_
    refine Wc.seq ?_
    refine Wc.region rfl ?_
    refine Wl.pure (PR.idxAddrS (i := k) tS_107 rfl rfl (by omega)) ?_
    refine Wl.loadAC (vs := [.bool (c k), .int .i64 (e k)]) tA_79 rfl rfl ((hR.st st).sub (recV_sub (n := n) (i := k) (prV_row _ _) (by omega)) rfl) ?_
    refine Wl.alloc st tZ_79 rfl ?_
    clear st
    intro b4 w3 st
    refine Wl.storeA (i := 0) (cs' := [.bool (c k), .int .i64 (e k)]) st tA_79 rfl rfl rfl (by simp [Value.oneCell']) rfl (by simp) (all_put rfl) ?_
    clear st
    intro w4 st
    replace st : St [] w w4 [(b4, [.bool (c k), .int .i64 (e k)], 79)] := st
    refine Wl.nil ?_
    refine tn ?_
    refine Wc.seq ?_
    refine Wc.region rfl ?_
    refine Wl.pure (PR.fieldAddr tF_79_0 rfl) ?_
    refine Wl.load (i := 0) st tA_4 rfl rfl (rfl) ?_
    refine Wl.nil ?_
    refine tn ?_
    refine Wc.condB (b := c k) rfl (fun h5 => ?_) (fun h5 => ?_)
    · refine Wc.seq ?_
      refine Wc.region rfl ?_
      refine Wl.pure (PR.fieldAddr tF_79_1 rfl) ?_
      refine Wl.load (i := 0) st tA_2 rfl rfl (rfl) ?_
      refine Wl.pure (PR.assI rfl) ?_
      refine Wl.nil ?_
      refine tn ?_
      refine Wc.ret ?_
      refine br ?_
      refine tr ?_
      refine tr ?_
      refine br ?_
      refine tr ?_
      refine postL.tmp rfl rfl ?_
      refine RetV.of ?_ st.below
      refine congrArg (Value.int .i64) ?_
      first | exact firstF_t (by omega) hf (by assumption) | exact firstF_e (by omega) hf
    · refine Wc.skip ?_
      refine bn ?_
      refine tn ?_
      refine Wc.region rfl ?_
      refine Wl.pure (PR.add (a := ((k : Nat) : Int)) (b := 1) rfl rfl (by simp only [fitI]; omega)) ?_
      refine Wl.pure (PR.moveI rfl) ?_
      refine Wl.nil ?_
      refine tn ?_
      replace st := st.tail
      exact ⟨k + 1, (.cons rfl (.cons rfl (.cons rfl (.nil _)))), ⟨st, (by first | omega | (dsimp only; omega)), (firstF_f (by omega) hf (by assumption))⟩, (by first | omega | (dsimp only; omega))⟩
  · refine Wc.exit ?_
    refine tx ?_
    refine tx ?_
    refine bh ?_
    refine tn ?_
    refine Wc.seq ?_
    refine Wc.region rfl ?_
    refine Wl.pure (PR.assI rfl) ?_
    refine Wl.nil ?_
    refine tn ?_
    refine Wc.ret ?_
    refine postL.tmp rfl rfl ?_
    refine RetV.of ?_ st.below
    refine congrArg (Value.int .i64) ?_
    first | exact firstF_t (by omega) hf (by assumption) | exact firstF_e (by omega) hf

set_option maxHeartbeats 400000 in
set_option maxRecDepth 4000 in
theorem c_impl_sharedCode {s : Int} {p : Int} {a : Nat → Nat} {b : Nat → Nat} {A : Option Addr} {n : Nat} {cp : Nat} {y : Nat → Int} {c : Nat → Nat → Nat} {w : World} (hs : -128 ≤ s ∧ s ≤ 127) (hp : -128 ≤ p ∧ p ≤ 127) (ha : ∀ k, a k < 256) (hb : ∀ k, b k < 256) (hRL : RdS w A n (layS n y c)) (hg : ∀ i, i < n → -128 ≤ y i ∧ y i ≤ 127) (hc : ∀ i k, c i k < 256) (hn : n ≤ 1048576) :
    CE Tryz.prog 31 [.agg (schV (s) (p) (a) (b)).toArray, .slice (A) (n) (cp)] w (RetV w (.int .i64 (((bothC s p a b n y c : Nat) : Int)))) := by
  refine CE.enter 30 [(0, .agg (schV (s) (p) (a) (b)).toArray), (1, .slice (A) (n) (cp))] en_31 Tryz.func31 rfl rfl (Nat.le_of_ble_eq_true rfl) rfl ?_
  have st := St.start w
  refine Wc.seq ?_
  refine Wc.region rfl ?_
  refine Wl.boxA st rfl ?_
  clear st
  intro b2 w1 st
  refine Wl.pure (PR.assI rfl) ?_
  refine Wl.nil ?_
  refine tn ?_
  refine Wc.seq ?_
  refine Wc.quietTail 23 hmix (by kernel_rfl) rfl ?_
  refine Wq.loadA (i := 0) st tA_27 rfl rfl (all_sub schV_len) schV_len ?_
  refine Wq.callV (fun _ hbel => c_impl_ValidScheme (s := s) (p := p) (a := a) (b := b) (by first | assumption | omega) (by first | assumption | omega) ha hb) rfl ?_
  refine Wq.pure (PR.not_ rfl) ?_
  refine Wq.pure (PR.moveB rfl) ?_
  refine Wq.splitB (b := (!(schOk s p a b))) rfl rfl (fun h2 => ?_) (fun h2 => ?_)
  · simp only [Bool.not_eq_true', Bool.not_eq_false', Bool.not_true, Bool.not_false] at h2
    refine Wq.pure (PR.moveL rfl) ?_
    refine Wq.on rfl rfl ?_
    refine Wq.callV (fun _ hbel => c_impl_areLayers (A := A) (n := n) (cp := cp) (p := y) (c := c) ((hRL.st st).below hbel) hg hc (by first | assumption | omega)) rfl ?_
    refine Wq.on rfl rfl ?_
    refine Wq.pure (PR.not_ rfl) ?_
    refine Wq.pure (PR.pickFB rfl rfl) ?_
    refine Wq.pure (PR.build (ps := [(0, .bool (!(layAll n y c))), (1, .int .i64 (1))]) (cs := [.bool (!(layAll n y c)), .int .i64 (1)]) tB_79 rfl rfl) ?_
    refine Wq.pure (PR.moveL rfl) ?_
    refine Wq.pure (PR.lenL tS_32 rfl) ?_
    refine Wq.pure (PR.fieldAddr tF_27_0 rfl) ?_
    refine Wq.load (i := 0) st tA_24 rfl rfl (rfl) ?_
    refine Wq.pure (PR.conv (n := s) tI_3 rfl (by simp only [fitI]; omega) Tryz.underlying24) ?_
    refine Wq.pure (PR.neq (a := ((n : Nat) : Int)) (b := s) rfl rfl) ?_
    refine Wq.pure (PR.moveB rfl) ?_
    refine Wq.splitB (b := (!decide (((n : Nat) : Int) = s))) rfl rfl (fun h3 => ?_) (fun h3 => ?_)
    · simp only [Bool.not_eq_true', Bool.not_eq_false', Bool.not_true, Bool.not_false, decide_eq_true_eq, decide_eq_false_iff_not] at h3
      refine Wq.pure (PR.moveL rfl) ?_
      refine Wq.on rfl rfl ?_
      refine Wq.pure (PR.fieldAddr tF_27_1 rfl) ?_
      refine Wq.on rfl rfl ?_
      refine Wq.load (i := 0) st tA_24 rfl rfl (rfl) ?_
      refine Wq.on rfl rfl ?_
      refine Wq.callV (fun _ hbel => c_impl_haveParts (A := A) (n := n) (cp := cp) (p := y) (c := c) (q := p) ((hRL.st st).below hbel) hg hc (by first | assumption | omega)) rfl ?_
      refine Wq.on rfl rfl ?_
      refine Wq.pure (PR.not_ rfl) ?_
      refine Wq.pure (PR.pickFB rfl rfl) ?_
      refine Wq.pure (PR.build (ps := [(0, .bool (!(allP n y p))), (1, .int .i64 (4))]) (cs := [.bool (!(allP n y p)), .int .i64 (4)]) tB_79 rfl rfl) ?_
      refine Wq.nil (fun w4 hbel => ?_)
      replace st := st.call hbel
      clear hbel
      refine Wl.buildSlice (ps := [(0, .agg ([.bool (!(layAll n y c)), .int .i64 (1)]).toArray), (1, .agg ([.bool (!(allP n y p)), .int .i64 (4)]).toArray)]) (cs := [.bool (!(layAll n y c)), .int .i64 (1), .bool (!(allP n y p)), .int .i64 (4)]) st tS_107 tZ_79 rfl rfl rfl ?_
      clear st
      intro b28 w5 st
      refine Wl.callV (c_impl_firstOf (bk := b28) (o := 0) (n := 2) (cp := 2) (c := (fun i => [(!(layAll n y c)), (!(allP n y p))].getD i false)) (e := (fun i => [1, 4].getD i 0)) (st.rdA (i := 0) (n := 4) rfl rfl) (by first | assumption | omega)) rfl ?_
      intro w6 hbel
      replace st := st.call hbel
      clear hbel
      refine Wl.pure (PR.assI rfl) ?_
      refine Wl.nil ?_
      refine tn ?_
      refine Wc.ret ?_
      refine postL.tmp rfl rfl ?_
      refine RetV.of ?_ st.below
      exact congrArg (Value.int .i64) (first_both (by first | rfl | (rw [show schOk s p a b = true by assumption]; rfl) | (rw [show schOk s p a b = false by assumption]; rfl)) (by first | (rw [decide_eq_true (show (n : Int) = s by omega)]; rfl) | (rw [decide_eq_false (show ¬ (n : Int) = s by omega)]; rfl)))
    · simp only [Bool.not_eq_true', Bool.not_eq_false', Bool.not_true, Bool.not_false, decide_eq_true_eq, decide_eq_false_iff_not] at h3
      refine Wq.off rfl rfl rfl ?_
      refine Wq.off rfl rfl rfl ?_
      refine Wq.off rfl rfl rfl ?_
      refine Wq.off rfl rfl rfl ?_
      refine Wq.pure (PR.pickTB rfl rfl) ?_
      refine Wq.pure (PR.build (ps := [(0, .bool true), (1, .int .i64 (4))]) (cs := [.bool true, .int .i64 (4)]) tB_79 rfl rfl) ?_
      refine Wq.nil (fun w7 hbel => ?_)
      replace st := st.call hbel
      clear hbel
      refine Wl.buildSlice (ps := [(0, .agg ([.bool (!(layAll n y c)), .int .i64 (1)]).toArray), (1, .agg ([.bool true, .int .i64 (4)]).toArray)]) (cs := [.bool (!(layAll n y c)), .int .i64 (1), .bool true, .int .i64 (4)]) st tS_107 tZ_79 rfl rfl rfl ?_
      clear st
      intro b28 w8 st
      refine Wl.callV (c_impl_firstOf (bk := b28) (o := 0) (n := 2) (cp := 2) (c := (fun i => [(!(layAll n y c)), true].getD i false)) (e := (fun i => [1, 4].getD i 0)) (st.rdA (i := 0) (n := 4) rfl rfl) (by first | assumption | omega)) rfl ?_
      intro w9 hbel
      replace st := st.call hbel
      clear hbel
      refine Wl.pure (PR.assI rfl) ?_
      refine Wl.nil ?_
      refine tn ?_
      refine Wc.ret ?_
      refine postL.tmp rfl rfl ?_
      refine RetV.of ?_ st.below
      exact congrArg (Value.int .i64) (first_both (by first | rfl | (rw [show schOk s p a b = true by assumption]; rfl) | (rw [show schOk s p a b = false by assumption]; rfl)) (by first | (rw [decide_eq_true (show (n : Int) = s by omega)]; rfl) | (rw [decide_eq_false (show ¬ (n : Int) = s by omega)]; rfl)))
  · simp only [Bool.not_eq_true', Bool.not_eq_false', Bool.not_true, Bool.not_false] at h2
    refine Wq.off rfl rfl rfl ?_
    refine Wq.off rfl rfl rfl ?_
    refine Wq.pure (PR.pickTB rfl rfl) ?_
    refine Wq.pure (PR.build (ps := [(0, .bool true), (1, .int .i64 (1))]) (cs := [.bool true, .int .i64 (1)]) tB_79 rfl rfl) ?_
    refine Wq.pure (PR.moveL rfl) ?_
    refine Wq.pure (PR.lenL tS_32 rfl) ?_
    refine Wq.pure (PR.fieldAddr tF_27_0 rfl) ?_
    refine Wq.load (i := 0) st tA_24 rfl rfl (rfl) ?_
    refine Wq.pure (PR.conv (n := s) tI_3 rfl (by simp only [fitI]; omega) Tryz.underlying24) ?_
    refine Wq.pure (PR.neq (a := ((n : Nat) : Int)) (b := s) rfl rfl) ?_
    refine Wq.pure (PR.moveB rfl) ?_
    refine Wq.splitB (b := (!decide (((n : Nat) : Int) = s))) rfl rfl (fun h10 => ?_) (fun h10 => ?_)
    · simp only [Bool.not_eq_true', Bool.not_eq_false', Bool.not_true, Bool.not_false, decide_eq_true_eq, decide_eq_false_iff_not] at h10
      refine Wq.pure (PR.moveL rfl) ?_
      refine Wq.on rfl rfl ?_
      refine Wq.pure (PR.fieldAddr tF_27_1 rfl) ?_
      refine Wq.on rfl rfl ?_
      refine Wq.load (i := 0) st tA_24 rfl rfl (rfl) ?_
      refine Wq.on rfl rfl ?_
      refine Wq.callV (fun _ hbel => c_impl_haveParts (A := A) (n := n) (cp := cp) (p := y) (c := c) (q := p) ((hRL.st st).below hbel) hg hc (by first | assumption | omega)) rfl ?_
      refine Wq.on rfl rfl ?_
      refine Wq.pure (PR.not_ rfl) ?_
      refine Wq.pure (PR.pickFB rfl rfl) ?_
      refine Wq.pure (PR.build (ps := [(0, .bool (!(allP n y p))), (1, .int .i64 (4))]) (cs := [.bool (!(allP n y p)), .int .i64 (4)]) tB_79 rfl rfl) ?_
      refine Wq.nil (fun w11 hbel => ?_)
      replace st := st.call hbel
      clear hbel
      refine Wl.buildSlice (ps := [(0, .agg ([.bool true, .int .i64 (1)]).toArray), (1, .agg ([.bool (!(allP n y p)), .int .i64 (4)]).toArray)]) (cs := [.bool true, .int .i64 (1), .bool (!(allP n y p)), .int .i64 (4)]) st tS_107 tZ_79 rfl rfl rfl ?_
      clear st
      intro b28 w12 st
      refine Wl.callV (c_impl_firstOf (bk := b28) (o := 0) (n := 2) (cp := 2) (c := (fun i => [true, (!(allP n y p))].getD i false)) (e := (fun i => [1, 4].getD i 0)) (st.rdA (i := 0) (n := 4) rfl rfl) (by first | assumption | omega)) rfl ?_
      intro w13 hbel
      replace st := st.call hbel
      clear hbel
      refine Wl.pure (PR.assI rfl) ?_
      refine Wl.nil ?_
      refine tn ?_
      refine Wc.ret ?_
      refine postL.tmp rfl rfl ?_
      refine RetV.of ?_ st.below
      exact congrArg (Value.int .i64) (first_both (by first | rfl | (rw [show schOk s p a b = true by assumption]; rfl) | (rw [show schOk s p a b = false by assumption]; rfl)) (by first | (rw [decide_eq_true (show (n : Int) = s by omega)]; rfl) | (rw [decide_eq_false (show ¬ (n : Int) = s by omega)]; rfl)))
    · simp only [Bool.not_eq_true', Bool.not_eq_false', Bool.not_true, Bool.not_false, decide_eq_true_eq, decide_eq_false_iff_not] at h10
      refine Wq.off rfl rfl rfl ?_
      refine Wq.off rfl rfl rfl ?_
      refine Wq.off rfl rfl rfl ?_
      refine Wq.off rfl rfl rfl ?_
      refine Wq.pure (PR.pickTB rfl rfl) ?_
      refine Wq.pure (PR.build (ps := [(0, .bool true), (1, .int .i64 (4))]) (cs := [.bool true, .int .i64 (4)]) tB_79 rfl rfl) ?_
      refine Wq.nil (fun w14 hbel => ?_)
      replace st := st.call hbel
      clear hbel
      refine Wl.buildSlice (ps := [(0, .agg ([.bool true, .int .i64 (1)]).toArray), (1, .agg ([.bool true, .int .i64 (4)]).toArray)]) (cs := [.bool true, .int .i64 (1), .bool true, .int .i64 (4)]) st tS_107 tZ_79 rfl rfl rfl ?_
      clear st
      intro b28 w15 st
      refine Wl.callV (c_impl_firstOf (bk := b28) (o := 0) (n := 2) (cp := 2) (c := (fun i => [true, true].getD i false)) (e := (fun i => [1, 4].getD i 0)) (st.rdA (i := 0) (n := 4) rfl rfl) (by first | assumption | omega)) rfl ?_
      intro w16 hbel
      replace st := st.call hbel
      clear hbel
      refine Wl.pure (PR.assI rfl) ?_
      refine Wl.nil ?_
      refine tn ?_
      refine Wc.ret ?_
      refine postL.tmp rfl rfl ?_
      refine RetV.of ?_ st.below
      exact congrArg (Value.int .i64) (first_both (by first | rfl | (rw [show schOk s p a b = true by assumption]; rfl) | (rw [show schOk s p a b = false by assumption]; rfl)) (by first | (rw [decide_eq_true (show (n : Int) = s by omega)]; rfl) | (rw [decide_eq_false (show ¬ (n : Int) = s by omega)]; rfl)))

set_option maxHeartbeats 400000 in
set_option maxRecDepth 4000 in
theorem c_spec_l03Both {bk : Nat} {o : Nat} {s : Int} {p : Int} {a : Nat → Nat} {b : Nat → Nat} {A : Option Addr} {n : Nat} {cp : Nat} {y : Nat → Int} {c : Nat → Nat → Nat} {w : World} (hR : RdA w bk o (schV s p a b)) (hs : -128 ≤ s ∧ s ≤ 127) (hp : -128 ≤ p ∧ p ≤ 127) (ha : ∀ k, a k < 256) (hb : ∀ k, b k < 256) (hRL : RdS w A n (layS n y c)) (hg : ∀ i, i < n → -128 ≤ y i ∧ y i ≤ 127) (hc : ∀ i k, c i k < 256) (hn : n ≤ 1048576) :
    CE Tryz.prog 47 [.pointer (some ⟨bk, o, none⟩), .slice (A) (n) (cp)] w (RetV w (.int .i64 (((bothC s p a b n y c : Nat) : Int)))) := by
  refine CE.enter 40 [(0, .pointer (some ⟨bk, o, none⟩)), (1, .slice (A) (n) (cp))] en_47 Tryz.func47 rfl rfl (Nat.le_of_ble_eq_true rfl) rfl ?_
  have st := St.start w
  refine Wc.seq ?_
  refine Wc.region rfl ?_
  refine Wl.pure (PR.assI rfl) ?_
  refine Wl.nil ?_
  refine tn ?_
  refine Wc.seq ?_
  refine Wc.seq ?_
  refine Wc.region rfl ?_
  refine Wl.pure (PR.moveP rfl) ?_
  refine Wl.pure (PR.nil_ rfl) ?_
  refine Wl.loadAC tA_27 rfl schV_len ((hR.st st).sub (all_sub schV_len) rfl) ?_
  refine Wl.callV (c_spec_ValidScheme (s := s) (p := p) (a := a) (b := b) (by first | assumption | omega) (by first | assumption | omega) ha hb) rfl ?_
  intro w1 hbel
  replace st := st.call hbel
  clear hbel
  refine Wl.pure (PR.not_ rfl) ?_
  refine Wl.pure (PR.moveB rfl) ?_
  refine Wl.splitB (b := (!(schOk s p a b))) rfl rfl (fun h2 => ?_) (fun h2 => ?_)
  · simp only [Bool.not_eq_true', Bool.not_eq_false', Bool.not_true, Bool.not_false] at h2
    refine Wl.pure (PR.moveL rfl) ?_
    refine Wl.on rfl rfl ?_
    refine Wl.callV (c_spec_l01All (A := A) (n := n) (cp := cp) (p := y) (c := c) (hRL.st st) hg hc (by first | assumption | omega)) rfl ?_
    intro w3 hbel
    replace st := st.call hbel
    clear hbel
    refine Wl.on rfl rfl ?_
    refine Wl.pure (PR.not_ rfl) ?_
    refine Wl.pure (PR.pickFB rfl rfl) ?_
    refine Wl.nil ?_
    refine tn ?_
    refine Wc.condNB (b := layAll n y c) rfl (fun h4 => ?_) (fun h4 => ?_)
    · refine Wc.seq ?_
      refine Wc.region rfl ?_
      refine Wl.pure (PR.assI rfl) ?_
      refine Wl.nil ?_
      refine tn ?_
      refine Wc.ret ?_
      refine tr ?_
      refine postL.tmp rfl rfl ?_
      refine RetV.of ?_ st.below
      refine congrArg (fun x : Nat => Value.int .i64 (x : Int)) ?_
      first | exact bothC_1 (.inl (by assumption)) | exact bothC_1 (.inr (by assumption))
    · refine Wc.skip ?_
      refine tn ?_
      refine Wc.seq ?_
      refine Wc.seq ?_
      refine Wc.region rfl ?_
      refine Wl.pure (PR.moveL rfl) ?_
      refine Wl.pure (PR.lenL tS_32 rfl) ?_
      refine Wl.pure (PR.moveP rfl) ?_
      refine Wl.pure (PR.nil_ rfl) ?_
      refine Wl.pure (PR.fieldAddr tF_27_0 rfl) ?_
      refine Wl.loadC tA_24 rfl ((hR.st st).at_ (j := 0) (rfl) rfl) ?_
      refine Wl.pure (PR.conv (n := s) tI_3 rfl (by simp only [fitI]; omega) Tryz.underlying24) ?_
      refine Wl.pure (PR.neq (a := ((n : Nat) : Int)) (b := s) rfl rfl) ?_
      refine Wl.nil ?_
      refine tn ?_
      refine Wc.condN (p := ((n : Nat) : Int) = s) rfl (fun h5 => ?_) (fun h5 => ?_)
      · refine Wc.seq ?_
        refine Wc.region rfl ?_
        refine Wl.pure (PR.assI rfl) ?_
        refine Wl.nil ?_
        refine tn ?_
        refine Wc.ret ?_
        refine tr ?_
        refine postL.tmp rfl rfl ?_
        refine RetV.of ?_ st.below
        refine congrArg (fun x : Nat => Value.int .i64 (x : Int)) ?_
        first | exact bothC_4 (by assumption) (by assumption) (by omega) | exact bothC_5 (k := k) (by assumption) (by assumption) (by omega) (by omega)
      · refine Wc.skip ?_
        refine tn ?_
        refine Wc.seq ?_
        refine Wc.seq ?_
        refine Wc.region rfl ?_
        refine Wl.pure (PR.assI rfl) ?_
        refine Wl.nil ?_
        refine tn ?_
        refine Wc.block ?_
        refine Wc.loopF (γ := Nat) (fun g => [(0, .pointer (some ⟨bk, o, none⟩)), (1, .slice (A) (n) (cp)), (5, .int .i64 (((g : Nat) : Int)))]) (fun g w_ => St [] w w_ [] ∧ (g ≤ n) ∧ (∀ j, j < g → y j = p)) (fun g => n - g) ?_ ?_
        · exact ⟨0, (.cons rfl (.cons rfl (.cons rfl (.nil _)))), st, (by first | omega | (dsimp only; omega)), (fun j hj => by omega)⟩
        clear st
        rintro k w6 ⟨st, hk, hall⟩
        try dsimp only at st hk hall ⊢
        refine Wc.seq ?_
        refine Wc.seq ?_
        refine Wc.region rfl ?_
        refine Wl.pure (PR.moveI rfl) ?_
        refine Wl.pure (PR.moveL rfl) ?_
        refine Wl.pure (PR.lenL tS_32 rfl) ?_
        refine Wl.pure (PR.lss (a := ((k : Nat) : Int)) (b := ((n : Nat) : Int)) rfl rfl) ?_
        refine Wl.nil ?_
        refine tn ?_
        refine Wc.condD (p := ((k : Nat) : Int) < ((n : Nat) : Int)) rfl (fun h7 => ?_) (fun h7 => ?_)
        · refine Wc.skip ?_
          refine tn ?_
          refine Wc.seq ?_
          refine Wc.block ?_
          refine Wc.seq ?_
          refine Wc.quiet hmix (by kernel_rfl) rfl ?_
          refine Wq.pure (PR.moveL rfl) ?_
          refine Wq.pure (PR.moveI rfl) ?_
          obtain ⟨bs8, os9, rfl, hs10⟩ := hRL (by omega)
          have := hg (k) (by omega)
          refine Wq.pure (PR.idxAddrS (i := k) tS_32 rfl rfl (by omega)) ?_
          refine Wq.pure (PR.fieldAddr tF_50_0 rfl) ?_
          refine Wq.loadC tA_24 rfl ((hs10.st st).at_ (recV_get (n := n) (i := k) (layS_row _ _) (by omega) (rfl)) (Nat.add_assoc _ _ _).symm) ?_
          refine Wq.pure (PR.moveP rfl) ?_
          refine Wq.pure (PR.nil_ rfl) ?_
          refine Wq.pure (PR.fieldAddr tF_27_1 rfl) ?_
          refine Wq.loadC tA_24 rfl ((hR.st st).at_ (j := 1) (rfl) rfl) ?_
          refine Wq.pure (PR.neq (a := y k) (b := p) rfl rfl) ?_
          refine Wq.nil (fun w11 hbel => ?_)
          replace st := st.call hbel
          clear hbel
          refine tn ?_
          refine Wc.condN (p := y k = p) rfl (fun h12 => ?_) (fun h12 => ?_)
          · refine Wc.seq ?_
            refine Wc.region rfl ?_
            refine Wl.pure (PR.assI rfl) ?_
            refine Wl.nil ?_
            refine tn ?_
            refine Wc.ret ?_
            refine br ?_
            refine tr ?_
            refine tr ?_
            refine br ?_
            refine tr ?_
            refine postL.tmp rfl rfl ?_
            refine RetV.of ?_ st.below
            refine congrArg (fun x : Nat => Value.int .i64 (x : Int)) ?_
            first | exact bothC_4 (by assumption) (by assumption) (by omega) | exact bothC_5 (k := k) (by assumption) (by assumption) (by omega) (by omega)
          · refine Wc.skip ?_
            refine bn ?_
            refine tn ?_
            refine Wc.region rfl ?_
            refine Wl.pure (PR.moveI rfl) ?_
            refine Wl.pure (PR.add (a := ((k : Nat) : Int)) (b := 1) rfl rfl (by simp only [fitI]; omega)) ?_
            refine Wl.pure (PR.assI rfl) ?_
            refine Wl.nil ?_
            refine tn ?_
            exact ⟨k + 1, (.cons rfl (.cons rfl (.cons rfl (.nil _)))), ⟨st, (by first | omega | (dsimp only; omega)), (all_snoc hall (by omega))⟩, (by first | omega | (dsimp only; omega))⟩
        · refine Wc.exit ?_
          refine tx ?_
          refine tx ?_
          refine bh ?_
          refine tn ?_
          refine Wc.seq ?_
          refine Wc.region rfl ?_
          refine Wl.pure (PR.assI rfl) ?_
          refine Wl.nil ?_
          refine tn ?_
          refine Wc.ret ?_
          refine postL.tmp rfl rfl ?_
          refine RetV.of ?_ st.below
          refine congrArg (fun x : Nat => Value.int .i64 (x : Int)) ?_
          exact bothC_0 (by assumption) (by assumption) (by omega) (fun j hj => hall j (by omega))
  · simp only [Bool.not_eq_true', Bool.not_eq_false', Bool.not_true, Bool.not_false] at h2
    refine Wl.off rfl rfl rfl ?_
    refine Wl.off rfl rfl rfl ?_
    refine Wl.pure (PR.pickTB rfl rfl) ?_
    refine Wl.nil ?_
    refine tn ?_
    refine Wc.condT rfl ?_
    refine Wc.seq ?_
    refine Wc.region rfl ?_
    refine Wl.pure (PR.assI rfl) ?_
    refine Wl.nil ?_
    refine tn ?_
    refine Wc.ret ?_
    refine tr ?_
    refine postL.tmp rfl rfl ?_
    refine RetV.of ?_ st.below
    refine congrArg (fun x : Nat => Value.int .i64 (x : Int)) ?_
    first | exact bothC_1 (.inl (by assumption)) | exact bothC_1 (.inr (by assumption))

set_option maxHeartbeats 400000 in
set_option maxRecDepth 4000 in
theorem c_impl_Scheme_all {s : Int} {p : Int} {a : Nat → Nat} {b : Nat → Nat} {w : World} (hs0 : 0 ≤ s) (ha : ∀ k, a k < 256) (hb : ∀ k, b k < 256) :
    CE Tryz.prog 63 [.agg (schV (s) (p) (a) (b)).toArray] w (RetV w (.int .u8 (((((((1 <<< (s).toNat) % 256) + 255) % 256) : Nat) : Int)))) := by
  refine CE.enter 7 [(0, .agg (schV (s) (p) (a) (b)).toArray)] en_63 Tryz.func63 rfl rfl (Nat.le_of_ble_eq_true rfl) rfl ?_
  have st := St.start w
  refine Wc.seq ?_
  obtain ⟨n, rfl⟩ : ∃ n : Nat, s = ((n : Nat) : Int) := ⟨s.toNat, by omega⟩
  refine Wc.region rfl ?_
  refine Wl.boxA st rfl ?_
  clear st
  intro b1 w1 st
  refine Wl.pure (PR.assI rfl) ?_
  refine Wl.nil ?_
  refine tn ?_
  refine Wc.seq ?_
  refine Wc.region rfl ?_
  refine Wl.pure (PR.fieldAddr tF_27_0 rfl) ?_
  refine Wl.load (i := 0) st tA_24 rfl rfl (rfl) ?_
  refine Wl.pure (PR.shl (a := 1) (n := n) rfl rfl (by decide)) ?_
  refine Wl.pure (PR.subU (a := ((1 <<< n) % 256)) (b := 1) rfl rfl (by decide) (by decide)) ?_
  refine Wl.pure (PR.assI rfl) ?_
  refine Wl.nil ?_
  refine tn ?_
  refine Wc.ret ?_
  refine postL.tmp rfl rfl ?_
  refine RetV.of ?_ st.below
  refine congrArg (Value.int .u8) ?_
  first | rfl | omega | simp_all

end Go.Proofs.YtabekcodjcbolaaGreat
