/-
  Contracts of functions, printed by a program of ours.
-/
import Derived.Test.YtdlmbdclbnlmlaaCF1
import Derived.Test.YtdlmbdclbnlmlaaLoss2
namespace Go.Proofs.Ytdlmbdclbnlmlaa
open Go.RowKit
set_option linter.unusedVariables false
set_option linter.unusedSimpArgs false

set_option maxHeartbeats 400000 in
set_option maxRecDepth 4000 in
theorem c_impl_SurvivesLoss {s : Int} {p : Int} {a : Nat → Nat} {b : Nat → Nat} {m : Int} {f : Nat} {l : Int} {w : World} (hs : -128 ≤ s ∧ s ≤ 127) (hp : -128 ≤ p ∧ p ≤ 127) (ha : ∀ k, a k < 256) (hb : ∀ k, b k < 256) (hm : -128 ≤ m ∧ m ≤ 127) (hf : f < 18446744073709551616) :
    CE Try.prog 23 [.agg (schV (s) (p) (a) (b)).toArray, .agg ([.int .i8 (m), .int .u64 (((f : Nat) : Int))]).toArray, .int .i64 (l)] w (RetV w (.tuple #[.bool (slV s p a b m f l), .int .i64 (((slC s p a b m f l : Nat) : Int))])) := by
  refine CE.enter 61 [(0, .agg (schV (s) (p) (a) (b)).toArray), (1, .agg ([.int .i8 (m), .int .u64 (((f : Nat) : Int))]).toArray), (2, .int .i64 (l))] en_23 Try.func23 rfl rfl (Nat.le_of_ble_eq_true rfl) rfl ?_
  have st := St.start w
  refine Wc.seq ?_
  refine Wc.region rfl ?_
  refine Wl.boxA st rfl ?_
  clear st
  intro b3 w1 st
  refine Wl.boxA st rfl ?_
  clear st
  intro b4 w2 st
  refine Wl.pure (PR.assB rfl) ?_
  refine Wl.pure (PR.assI rfl) ?_
  refine Wl.nil ?_
  refine tn ?_
  refine Wc.seq ?_
  refine Wc.seq ?_
  refine Wc.quietTail 17 hmix (by kernel_rfl) rfl ?_
  refine Wq.loadA (i := 1) st tA_31 rfl rfl (all_sub schV_len) schV_len ?_
  refine Wq.callV (fun _ hbel => c_impl_ValidScheme (s := s) (p := p) (a := a) (b := b) (by first | assumption | omega) (by first | assumption | omega) ha hb) rfl ?_
  refine Wq.pure (PR.not_ rfl) ?_
  refine Wq.pure (PR.moveB rfl) ?_
  refine Wq.splitB (b := (!(schOk s p a b))) rfl rfl (fun h3 => ?_) (fun h3 => ?_)
  · simp only [Bool.not_eq_true', Bool.not_eq_false', Bool.not_true, Bool.not_false] at h3
    refine Wq.loadA (i := 0) st tA_33 rfl rfl rfl rfl ?_
    refine Wq.on rfl rfl ?_
    refine Wq.callV (fun _ hbel => c_impl_ValidFamily (m := m) (f := f) (by first | assumption | omega) hf) rfl ?_
    refine Wq.on rfl rfl ?_
    refine Wq.pure (PR.not_ rfl) ?_
    refine Wq.pure (PR.pickFB rfl rfl) ?_
    refine Wq.pure (PR.build (ps := [(0, .bool (!(famOk m f))), (1, .int .i64 (1))]) (cs := [.bool (!(famOk m f)), .int .i64 (1)]) tB_68 rfl rfl) ?_
    refine Wq.pure (PR.moveI rfl) ?_
    refine Wq.pure (PR.fieldAddr tF_31_1 rfl) ?_
    refine Wq.load (i := 1) st tA_22 rfl rfl (rfl) ?_
    refine Wq.pure (PR.conv (n := p) tI_2 rfl (by simp only [fitI]; omega) Try.underlying22) ?_
    refine Wq.pure (PR.sub (a := p) (b := 1) rfl rfl (by simp only [fitI]; omega)) ?_
    refine Wq.callV (fun _ hbel => c_impl_within (n := l) (lo := 0) (hi := (p - 1))) rfl ?_
    refine Wq.pure (PR.not_ rfl) ?_
    refine Wq.pure (PR.build (ps := [(0, .bool (!decide (0 ≤ l ∧ l ≤ (p - 1)))), (1, .int .i64 (2))]) (cs := [.bool (!decide (0 ≤ l ∧ l ≤ (p - 1))), .int .i64 (2)]) tB_68 rfl rfl) ?_
    refine Wq.nil (fun w4 hbel => ?_)
    replace st := st.call hbel
    clear hbel
    refine Wl.buildSlice (ps := [(0, .agg ([.bool (!(famOk m f)), .int .i64 (1)]).toArray), (1, .agg ([.bool (!decide (0 ≤ l ∧ l ≤ (p - 1))), .int .i64 (2)]).toArray)]) (cs := [.bool (!(famOk m f)), .int .i64 (1), .bool (!decide (0 ≤ l ∧ l ≤ (p - 1))), .int .i64 (2)]) st tS_81 tZ_68 rfl rfl rfl ?_
    clear st
    intro b27 w5 st
    refine Wl.callV (c_impl_firstOf (bk := b27) (o := 0) (n := 2) (cp := 2) (c := (fun i => [(!(famOk m f)), (!decide (0 ≤ l ∧ l ≤ (p - 1)))].getD i false)) (e := (fun i => [1, 2].getD i 0)) (st.rdA (i := 0) (n := 4) rfl rfl) (by first | assumption | omega)) rfl ?_
    intro w6 hbel
    replace st := st.call hbel
    clear hbel
    refine Wl.pure (PR.assI rfl) ?_
    refine Wl.nil ?_
    refine tn ?_
    refine Wc.seq ?_
    have hq9 : firstZ 2 (fun i => [(!(famOk m f)), (!decide (0 ≤ l ∧ l ≤ (p - 1)))].getD i false) (fun i => [1, 2].getD i 0) = ((slK s p a b m f l : Nat) : Int) := by unfold slK; exact first_sl (by first | rfl | (rw [show schOk s p a b = true by assumption]; rfl) | (rw [show schOk s p a b = false by assumption]; rfl)) rfl
    refine Wc.region rfl ?_
    refine Wl.pure (PR.moveI rfl) ?_
    refine Wl.pure (PR.neq (a := firstZ 2 (fun i => [(!(famOk m f)), (!decide (0 ≤ l ∧ l ≤ (p - 1)))].getD i false) (fun i => [1, 2].getD i 0)) (b := 0) rfl rfl) ?_
    refine Wl.nil ?_
    refine tn ?_
    refine Wc.condN (p := firstZ 2 (fun i => [(!(famOk m f)), (!decide (0 ≤ l ∧ l ≤ (p - 1)))].getD i false) (fun i => [1, 2].getD i 0) = 0) rfl (fun h7 => ?_) (fun h7 => ?_)
    · refine Wc.seq ?_
      refine Wc.region rfl ?_
      refine Wl.pure (PR.moveI rfl) ?_
      refine Wl.pure (PR.assB rfl) ?_
      refine Wl.pure (PR.assI rfl) ?_
      refine Wl.nil ?_
      refine tn ?_
      refine Wc.ret ?_
      refine tr ?_
      refine postL.tmp2 rfl rfl rfl ?_
      refine RetV.of ?_ st.below
      exact sl_e (slK_C (by omega)) (by omega) hq9
    · refine Wc.skip ?_
      refine tn ?_
      refine Wc.seq ?_
      refine Wc.seq ?_
      have hsk : slK s p a b m f l = 0 := by omega
      obtain ⟨hok1, hok2, hlr⟩ := slK_spec hsk
      have hcs := slC_s hok1 hok2 hlr
      obtain ⟨hs1, hp1, _⟩ := schOk_spec hok1
      have hm6 := fam_spec hok2
      have hpos := fam_pos hok2
      obtain ⟨hrw1, hrw2⟩ := row_pow hok1
      obtain ⟨n, rfl⟩ : ∃ n : Nat, s = ((n : Nat) : Int) := ⟨s.toNat, by omega⟩
      obtain ⟨e_, rfl⟩ : ∃ e_ : Nat, p = ((e_ : Nat) : Int) := ⟨p.toNat, by omega⟩
      have h256 := shl_256 (k := e_) (by omega)
      refine Wc.region rfl ?_
      refine Wl.loadA (i := 2) st tA_31 rfl rfl (all_sub schV_len) schV_len ?_
      refine Wl.loadA (i := 1) st tA_33 rfl rfl rfl rfl ?_
      refine Wl.callV (c_impl_serves (s := n) (p := e_) (a := a) (b := b) (m := m) (f := f) (by first | assumption | omega) ha hb (by first | assumption | omega) hf (by first | assumption | omega)) rfl ?_
      intro w8 hbel
      replace st := st.call hbel
      clear hbel
      refine Wl.pure (PR.not_ rfl) ?_
      refine Wl.nil ?_
      refine tn ?_
      refine Wc.condN (p := ((n : Nat) : Int) = m ∧ failZ e_ a b (1 <<< (m).toNat) f < 0) rfl (fun h9 => ?_) (fun h9 => ?_)
      · refine Wc.seq ?_
        refine Wc.region rfl ?_
        refine Wl.pure (PR.assB rfl) ?_
        refine Wl.pure (PR.assI rfl) ?_
        refine Wl.nil ?_
        refine tn ?_
        refine Wc.ret ?_
        refine tr ?_
        refine postL.tmp2 rfl rfl rfl ?_
        refine RetV.of ?_ st.below
        exact sl_e (hcs.trans (svC_4 hok1 hok2 (show ¬ (((n : Nat) : Int) = m ∧ failZ e_ a b (1 <<< m.toNat) f < 0) by assumption)).symm) (by decide) rfl
      · refine Wc.skip ?_
        refine tn ?_
        refine Wc.seq ?_
        refine Wc.seq ?_
        have hz0 := hcs.trans (svC_0 hok1 hok2 (show (((n : Nat) : Int) = m ∧ failZ e_ a b (1 <<< m.toNat) f < 0) by assumption)).symm
        refine Wc.region rfl ?_
        refine Wl.pure (PR.fieldAddr tF_31_1 rfl) ?_
        refine Wl.load (i := 2) st tA_22 rfl rfl (rfl) ?_
        refine Wl.pure (PR.shlI (a := 1) (n := e_) rfl rfl (by omega) (sh8 (by omega))) ?_
        refine Wl.pure (PR.moveI rfl) ?_
        refine Wl.nil ?_
        refine tn ?_
        refine Wc.block ?_
        refine Wc.loopF (γ := Nat) (fun g => [(2, .int .i64 (l)), (3, .pointer (some ⟨b3, 0, none⟩)), (4, .pointer (some ⟨b4, 0, none⟩)), (38, .int .i64 ((((1 <<< e_) : Nat) : Int))), (39, .int .i64 (((g : Nat) : Int)))]) (fun g w_ => St [] w w_ [(b27, [.bool (!(famOk m f)), .int .i64 (1), .bool (!decide (0 ≤ l ∧ l ≤ (((e_ : Nat) : Int) - 1))), .int .i64 (2)], 68), (b4, [.int .i8 (m), .int .u64 (((f : Nat) : Int))], 33), (b3, schV ((n : Nat) : Int) ((e_ : Nat) : Int) (a) (b), 31)] ∧ (g ≤ 1 <<< e_) ∧ (∀ j, j < g → slE e_ a b l (1 <<< m.toNat) f j = false)) (fun g => 1 <<< e_ - g) ?_ ?_
        · exact ⟨0, (.cons rfl (.cons rfl (.cons rfl (.cons rfl (.cons rfl (.nil _)))))), st, (Nat.zero_le _), (fun j hj => by omega)⟩
        clear st
        rintro x w10 ⟨st, hx, hg⟩
        try dsimp only at st hx hg ⊢
        refine Wc.seq ?_
        refine Wc.region rfl ?_
        refine Wl.pure (PR.lss (a := ((x : Nat) : Int)) (b := (((1 <<< e_) : Nat) : Int)) rfl rfl) ?_
        refine Wl.nil ?_
        refine tn ?_
        refine Wc.seq ?_
        refine Wc.condD (p := ((x : Nat) : Int) < (((1 <<< e_) : Nat) : Int)) rfl (fun h11 => ?_) (fun h11 => ?_)
        · refine Wc.skip ?_
          refine tn ?_
          refine Wc.seq ?_
          refine Wc.block ?_
          refine Wc.seq ?_
          refine Wc.region rfl ?_
          refine Wl.pure (PR.moveI rfl) ?_
          refine Wl.pure (PR.assI rfl) ?_
          refine Wl.nil ?_
          refine tn ?_
          refine Wc.seq ?_
          refine Wc.quiet hmix (by kernel_rfl) rfl ?_
          refine Wq.pure (PR.moveI rfl) ?_
          refine Wq.pure (PR.conv (n := ((x : Nat) : Int)) tI_52 rfl (by simp only [fitI]; omega) Try.underlying3) ?_
          refine Wq.callV (fun _ hbel => c_math_bits_OnesCount (x := x) (by first | assumption | omega) (by first | assumption | omega)) rfl ?_
          refine Wq.pure (PR.fieldAddr tF_31_1 rfl) ?_
          refine Wq.load (i := 2) st tA_22 rfl rfl (rfl) ?_
          refine Wq.pure (PR.conv (n := ((e_ : Nat) : Int)) tI_2 rfl (by simp only [fitI]; omega) Try.underlying22) ?_
          refine Wq.pure (PR.moveI rfl) ?_
          refine Wq.pure (PR.sub (a := ((e_ : Nat) : Int)) (b := l) rfl rfl (by simp only [fitI]; omega)) ?_
          refine Wq.pure (PR.eql (a := ((pc x : Nat) : Int)) (b := (((e_ : Nat) : Int) - l)) rfl rfl) ?_
          refine Wq.pure (PR.moveB rfl) ?_
          refine Wq.splitT (q := ((pc x : Nat) : Int) = (((e_ : Nat) : Int) - l)) rfl rfl (fun h12 => ?_) (fun h12 => ?_)
          · refine Wq.loadA (i := 2) st tA_31 rfl rfl (all_sub schV_len) schV_len ?_
            refine Wq.on rfl rfl ?_
            refine Wq.pure (PR.moveI rfl) ?_
            refine Wq.on rfl rfl ?_
            refine Wq.pure (PR.conv (n := ((x : Nat) : Int)) tI_5 rfl (by simp only [fitI]; omega) Try.underlying3) ?_
            refine Wq.on rfl rfl ?_
            refine Wq.callV (fun _ hbel => c_impl_Scheme_keep (s := n) (p := e_) (a := a) (b := b) (x := x) (by first | assumption | omega) ha hb (by first | assumption | omega)) rfl ?_
            refine Wq.on rfl rfl ?_
            refine Wq.loadA (i := 1) st tA_33 rfl rfl rfl rfl ?_
            refine Wq.on rfl rfl ?_
            refine Wq.callV (fun _ hbel => c_impl_leastGap (s := n) (p := kpC x e_) (a := (fun k => kpV x (a k) e_)) (b := (fun k => kpV x (b k) e_)) (m := m) (f := f) (kp_pos (by omega) (by omega) (by omega) hlr) (fun k => kpV_lt _ _ _) (fun k => kpV_lt _ _ _) (by first | assumption | omega) hf (by first | assumption | omega) hpos) rfl ?_
            refine Wq.on rfl rfl ?_
            refine Wq.pure (PR.leq (a := lgF (fun k => kpV x (a k) e_) (fun k => kpV x (b k) e_) f (1 <<< (m).toNat)) (b := 0) rfl rfl) ?_
            refine Wq.pure (PR.pickTB rfl rfl) ?_
            refine Wq.nil (fun w13 hbel => ?_)
            replace st := st.call hbel
            clear hbel
            refine tn ?_
            refine Wc.condD (p := lgF (fun k => kpV x (a k) e_) (fun k => kpV x (b k) e_) f (1 <<< (m).toNat) ≤ 0) rfl (fun h14 => ?_) (fun h14 => ?_)
            · refine Wc.seq ?_
              refine Wc.region rfl ?_
              refine Wl.pure (PR.assB rfl) ?_
              refine Wl.pure (PR.assI rfl) ?_
              refine Wl.nil ?_
              refine tn ?_
              refine Wc.ret ?_
              refine br ?_
              refine tr ?_
              refine tr ?_
              refine br ?_
              refine tr ?_
              refine postL.tmp2 rfl rfl rfl ?_
              refine RetV.of ?_ st.below
              exact sl_f (x := x) hz0 (show x < 1 <<< e_ by omega) (slE_t (by omega) (by rw [← lg_keep (p := e_) (by omega) hrw1 hrw2]; omega))
            · refine Wc.skip ?_
              refine bn ?_
              refine tn ?_
              refine Wc.region rfl ?_
              refine Wl.pure (PR.add (a := ((x : Nat) : Int)) (b := 1) rfl rfl (by simp only [fitI]; omega)) ?_
              refine Wl.pure (PR.moveI rfl) ?_
              refine Wl.nil ?_
              refine tn ?_
              exact ⟨x + 1, (.cons rfl (.cons rfl (.cons rfl (.cons rfl (.cons rfl (.nil _)))))), ⟨st, (by first | omega | (dsimp only; omega)), (all_snoc hg (by first | exact slE_f1 (by omega) | exact slE_f2 (by rw [← lg_keep (p := e_) (by omega) hrw1 hrw2]; omega)))⟩, (by first | omega | (dsimp only; omega))⟩
          · refine Wq.off rfl rfl rfl ?_
            refine Wq.off rfl rfl rfl ?_
            refine Wq.off rfl rfl rfl ?_
            refine Wq.off rfl rfl rfl ?_
            refine Wq.off rfl rfl rfl ?_
            refine Wq.off rfl rfl rfl ?_
            refine Wq.pure (PR.pickFB rfl rfl) ?_
            refine Wq.nil (fun w15 hbel => ?_)
            replace st := st.call hbel
            clear hbel
            refine tn ?_
            refine Wc.condF rfl ?_
            refine Wc.skip ?_
            refine bn ?_
            refine tn ?_
            refine Wc.region rfl ?_
            refine Wl.pure (PR.add (a := ((x : Nat) : Int)) (b := 1) rfl rfl (by simp only [fitI]; omega)) ?_
            refine Wl.pure (PR.moveI rfl) ?_
            refine Wl.nil ?_
            refine tn ?_
            exact ⟨x + 1, (.cons rfl (.cons rfl (.cons rfl (.cons rfl (.cons rfl (.nil _)))))), ⟨st, (by first | omega | (dsimp only; omega)), (all_snoc hg (by first | exact slE_f1 (by omega) | exact slE_f2 (by rw [← lg_keep (p := e_) (by omega) hrw1 hrw2]; omega)))⟩, (by first | omega | (dsimp only; omega))⟩
        · refine Wc.exit ?_
          refine tx ?_
          refine tx ?_
          refine bh ?_
          refine tn ?_
          refine Wc.seq ?_
          refine Wc.region rfl ?_
          refine Wl.pure (PR.assB rfl) ?_
          refine Wl.pure (PR.assI rfl) ?_
          refine Wl.nil ?_
          refine tn ?_
          refine Wc.ret ?_
          refine postL.tmp2 rfl rfl rfl ?_
          refine RetV.of ?_ st.below
          exact sl_t hz0 (fun j hj => hg j (Nat.lt_of_lt_of_le (show j < 1 <<< e_ from hj) (by omega)))
  · simp only [Bool.not_eq_true', Bool.not_eq_false', Bool.not_true, Bool.not_false] at h3
    refine Wq.off rfl rfl rfl ?_
    refine Wq.off rfl rfl rfl ?_
    refine Wq.pure (PR.pickTB rfl rfl) ?_
    refine Wq.pure (PR.build (ps := [(0, .bool true), (1, .int .i64 (1))]) (cs := [.bool true, .int .i64 (1)]) tB_68 rfl rfl) ?_
    refine Wq.pure (PR.moveI rfl) ?_
    refine Wq.pure (PR.fieldAddr tF_31_1 rfl) ?_
    refine Wq.load (i := 1) st tA_22 rfl rfl (rfl) ?_
    refine Wq.pure (PR.conv (n := p) tI_2 rfl (by simp only [fitI]; omega) Try.underlying22) ?_
    refine Wq.pure (PR.sub (a := p) (b := 1) rfl rfl (by simp only [fitI]; omega)) ?_
    refine Wq.callV (fun _ hbel => c_impl_within (n := l) (lo := 0) (hi := (p - 1))) rfl ?_
    refine Wq.pure (PR.not_ rfl) ?_
    refine Wq.pure (PR.build (ps := [(0, .bool (!decide (0 ≤ l ∧ l ≤ (p - 1)))), (1, .int .i64 (2))]) (cs := [.bool (!decide (0 ≤ l ∧ l ≤ (p - 1))), .int .i64 (2)]) tB_68 rfl rfl) ?_
    refine Wq.nil (fun w16 hbel => ?_)
    replace st := st.call hbel
    clear hbel
    refine Wl.buildSlice (ps := [(0, .agg ([.bool true, .int .i64 (1)]).toArray), (1, .agg ([.bool (!decide (0 ≤ l ∧ l ≤ (p - 1))), .int .i64 (2)]).toArray)]) (cs := [.bool true, .int .i64 (1), .bool (!decide (0 ≤ l ∧ l ≤ (p - 1))), .int .i64 (2)]) st tS_81 tZ_68 rfl rfl rfl ?_
    clear st
    intro b27 w17 st
    refine Wl.callV (c_impl_firstOf (bk := b27) (o := 0) (n := 2) (cp := 2) (c := (fun i => [true, (!decide (0 ≤ l ∧ l ≤ (p - 1)))].getD i false)) (e := (fun i => [1, 2].getD i 0)) (st.rdA (i := 0) (n := 4) rfl rfl) (by first | assumption | omega)) rfl ?_
    intro w18 hbel
    replace st := st.call hbel
    clear hbel
    refine Wl.pure (PR.assI rfl) ?_
    refine Wl.nil ?_
    refine tn ?_
    refine Wc.seq ?_
    have hq9 : firstZ 2 (fun i => [true, (!decide (0 ≤ l ∧ l ≤ (p - 1)))].getD i false) (fun i => [1, 2].getD i 0) = ((slK s p a b m f l : Nat) : Int) := by unfold slK; exact first_sl (by first | rfl | (rw [show schOk s p a b = true by assumption]; rfl) | (rw [show schOk s p a b = false by assumption]; rfl)) rfl
    refine Wc.region rfl ?_
    refine Wl.pure (PR.moveI rfl) ?_
    refine Wl.pure (PR.neq (a := firstZ 2 (fun i => [true, (!decide (0 ≤ l ∧ l ≤ (p - 1)))].getD i false) (fun i => [1, 2].getD i 0)) (b := 0) rfl rfl) ?_
    refine Wl.nil ?_
    refine tn ?_
    refine Wc.condN (p := firstZ 2 (fun i => [true, (!decide (0 ≤ l ∧ l ≤ (p - 1)))].getD i false) (fun i => [1, 2].getD i 0) = 0) rfl (fun h19 => ?_) (fun h19 => ?_)
    · refine Wc.seq ?_
      refine Wc.region rfl ?_
      refine Wl.pure (PR.moveI rfl) ?_
      refine Wl.pure (PR.assB rfl) ?_
      refine Wl.pure (PR.assI rfl) ?_
      refine Wl.nil ?_
      refine tn ?_
      refine Wc.ret ?_
      refine tr ?_
      refine postL.tmp2 rfl rfl rfl ?_
      refine RetV.of ?_ st.below
      exact sl_e (slK_C (by omega)) (by omega) hq9
    · refine Wc.skip ?_
      refine tn ?_
      refine Wc.seq ?_
      refine Wc.seq ?_
      have hsk : slK s p a b m f l = 0 := by omega
      obtain ⟨hok1, hok2, hlr⟩ := slK_spec hsk
      have hcs := slC_s hok1 hok2 hlr
      obtain ⟨hs1, hp1, _⟩ := schOk_spec hok1
      have hm6 := fam_spec hok2
      have hpos := fam_pos hok2
      obtain ⟨hrw1, hrw2⟩ := row_pow hok1
      obtain ⟨n, rfl⟩ : ∃ n : Nat, s = ((n : Nat) : Int) := ⟨s.toNat, by omega⟩
      obtain ⟨e_, rfl⟩ : ∃ e_ : Nat, p = ((e_ : Nat) : Int) := ⟨p.toNat, by omega⟩
      have h256 := shl_256 (k := e_) (by omega)
      refine Wc.region rfl ?_
      refine Wl.loadA (i := 2) st tA_31 rfl rfl (all_sub schV_len) schV_len ?_
      refine Wl.loadA (i := 1) st tA_33 rfl rfl rfl rfl ?_
      refine Wl.callV (c_impl_serves (s := n) (p := e_) (a := a) (b := b) (m := m) (f := f) (by first | assumption | omega) ha hb (by first | assumption | omega) hf (by first | assumption | omega)) rfl ?_
      intro w20 hbel
      replace st := st.call hbel
      clear hbel
      refine Wl.pure (PR.not_ rfl) ?_
      refine Wl.nil ?_
      refine tn ?_
      refine Wc.condN (p := ((n : Nat) : Int) = m ∧ failZ e_ a b (1 <<< (m).toNat) f < 0) rfl (fun h21 => ?_) (fun h21 => ?_)
      · refine Wc.seq ?_
        refine Wc.region rfl ?_
        refine Wl.pure (PR.assB rfl) ?_
        refine Wl.pure (PR.assI rfl) ?_
        refine Wl.nil ?_
        refine tn ?_
        refine Wc.ret ?_
        refine tr ?_
        refine postL.tmp2 rfl rfl rfl ?_
        refine RetV.of ?_ st.below
        exact sl_e (hcs.trans (svC_4 hok1 hok2 (show ¬ (((n : Nat) : Int) = m ∧ failZ e_ a b (1 <<< m.toNat) f < 0) by assumption)).symm) (by decide) rfl
      · refine Wc.skip ?_
        refine tn ?_
        refine Wc.seq ?_
        refine Wc.seq ?_
        have hz0 := hcs.trans (svC_0 hok1 hok2 (show (((n : Nat) : Int) = m ∧ failZ e_ a b (1 <<< m.toNat) f < 0) by assumption)).symm
        refine Wc.region rfl ?_
        refine Wl.pure (PR.fieldAddr tF_31_1 rfl) ?_
        refine Wl.load (i := 2) st tA_22 rfl rfl (rfl) ?_
        refine Wl.pure (PR.shlI (a := 1) (n := e_) rfl rfl (by omega) (sh8 (by omega))) ?_
        refine Wl.pure (PR.moveI rfl) ?_
        refine Wl.nil ?_
        refine tn ?_
        refine Wc.block ?_
        refine Wc.loopF (γ := Nat) (fun g => [(2, .int .i64 (l)), (3, .pointer (some ⟨b3, 0, none⟩)), (4, .pointer (some ⟨b4, 0, none⟩)), (38, .int .i64 ((((1 <<< e_) : Nat) : Int))), (39, .int .i64 (((g : Nat) : Int)))]) (fun g w_ => St [] w w_ [(b27, [.bool true, .int .i64 (1), .bool (!decide (0 ≤ l ∧ l ≤ (((e_ : Nat) : Int) - 1))), .int .i64 (2)], 68), (b4, [.int .i8 (m), .int .u64 (((f : Nat) : Int))], 33), (b3, schV ((n : Nat) : Int) ((e_ : Nat) : Int) (a) (b), 31)] ∧ (g ≤ 1 <<< e_) ∧ (∀ j, j < g → slE e_ a b l (1 <<< m.toNat) f j = false)) (fun g => 1 <<< e_ - g) ?_ ?_
        · exact ⟨0, (.cons rfl (.cons rfl (.cons rfl (.cons rfl (.cons rfl (.nil _)))))), st, (Nat.zero_le _), (fun j hj => by omega)⟩
        clear st
        rintro x w22 ⟨st, hx, hg⟩
        try dsimp only at st hx hg ⊢
        refine Wc.seq ?_
        refine Wc.region rfl ?_
        refine Wl.pure (PR.lss (a := ((x : Nat) : Int)) (b := (((1 <<< e_) : Nat) : Int)) rfl rfl) ?_
        refine Wl.nil ?_
        refine tn ?_
        refine Wc.seq ?_
        refine Wc.condD (p := ((x : Nat) : Int) < (((1 <<< e_) : Nat) : Int)) rfl (fun h23 => ?_) (fun h23 => ?_)
        · refine Wc.skip ?_
          refine tn ?_
          refine Wc.seq ?_
          refine Wc.block ?_
          refine Wc.seq ?_
          refine Wc.region rfl ?_
          refine Wl.pure (PR.moveI rfl) ?_
          refine Wl.pure (PR.assI rfl) ?_
          refine Wl.nil ?_
          refine tn ?_
          refine Wc.seq ?_
          refine Wc.quiet hmix (by kernel_rfl) rfl ?_
          refine Wq.pure (PR.moveI rfl) ?_
          refine Wq.pure (PR.conv (n := ((x : Nat) : Int)) tI_52 rfl (by simp only [fitI]; omega) Try.underlying3) ?_
          refine Wq.callV (fun _ hbel => c_math_bits_OnesCount (x := x) (by first | assumption | omega) (by first | assumption | omega)) rfl ?_
          refine Wq.pure (PR.fieldAddr tF_31_1 rfl) ?_
          refine Wq.load (i := 2) st tA_22 rfl rfl (rfl) ?_
          refine Wq.pure (PR.conv (n := ((e_ : Nat) : Int)) tI_2 rfl (by simp only [fitI]; omega) Try.underlying22) ?_
          refine Wq.pure (PR.moveI rfl) ?_
          refine Wq.pure (PR.sub (a := ((e_ : Nat) : Int)) (b := l) rfl rfl (by simp only [fitI]; omega)) ?_
          refine Wq.pure (PR.eql (a := ((pc x : Nat) : Int)) (b := (((e_ : Nat) : Int) - l)) rfl rfl) ?_
          refine Wq.pure (PR.moveB rfl) ?_
          refine Wq.splitT (q := ((pc x : Nat) : Int) = (((e_ : Nat) : Int) - l)) rfl rfl (fun h24 => ?_) (fun h24 => ?_)
          · refine Wq.loadA (i := 2) st tA_31 rfl rfl (all_sub schV_len) schV_len ?_
            refine Wq.on rfl rfl ?_
            refine Wq.pure (PR.moveI rfl) ?_
            refine Wq.on rfl rfl ?_
            refine Wq.pure (PR.conv (n := ((x : Nat) : Int)) tI_5 rfl (by simp only [fitI]; omega) Try.underlying3) ?_
            refine Wq.on rfl rfl ?_
            refine Wq.callV (fun _ hbel => c_impl_Scheme_keep (s := n) (p := e_) (a := a) (b := b) (x := x) (by first | assumption | omega) ha hb (by first | assumption | omega)) rfl ?_
            refine Wq.on rfl rfl ?_
            refine Wq.loadA (i := 1) st tA_33 rfl rfl rfl rfl ?_
            refine Wq.on rfl rfl ?_
            refine Wq.callV (fun _ hbel => c_impl_leastGap (s := n) (p := kpC x e_) (a := (fun k => kpV x (a k) e_)) (b := (fun k => kpV x (b k) e_)) (m := m) (f := f) (kp_pos (by omega) (by omega) (by omega) hlr) (fun k => kpV_lt _ _ _) (fun k => kpV_lt _ _ _) (by first | assumption | omega) hf (by first | assumption | omega) hpos) rfl ?_
            refine Wq.on rfl rfl ?_
            refine Wq.pure (PR.leq (a := lgF (fun k => kpV x (a k) e_) (fun k => kpV x (b k) e_) f (1 <<< (m).toNat)) (b := 0) rfl rfl) ?_
            refine Wq.pure (PR.pickTB rfl rfl) ?_
            refine Wq.nil (fun w25 hbel => ?_)
            replace st := st.call hbel
            clear hbel
            refine tn ?_
            refine Wc.condD (p := lgF (fun k => kpV x (a k) e_) (fun k => kpV x (b k) e_) f (1 <<< (m).toNat) ≤ 0) rfl (fun h26 => ?_) (fun h26 => ?_)
            · refine Wc.seq ?_
              refine Wc.region rfl ?_
              refine Wl.pure (PR.assB rfl) ?_
              refine Wl.pure (PR.assI rfl) ?_
              refine Wl.nil ?_
              refine tn ?_
              refine Wc.ret ?_
              refine br ?_
              refine tr ?_
              refine tr ?_
              refine br ?_
              refine tr ?_
              refine postL.tmp2 rfl rfl rfl ?_
              refine RetV.of ?_ st.below
              exact sl_f (x := x) hz0 (show x < 1 <<< e_ by omega) (slE_t (by omega) (by rw [← lg_keep (p := e_) (by omega) hrw1 hrw2]; omega))
            · refine Wc.skip ?_
              refine bn ?_
              refine tn ?_
              refine Wc.region rfl ?_
              refine Wl.pure (PR.add (a := ((x : Nat) : Int)) (b := 1) rfl rfl (by simp only [fitI]; omega)) ?_
              refine Wl.pure (PR.moveI rfl) ?_
              refine Wl.nil ?_
              refine tn ?_
              exact ⟨x + 1, (.cons rfl (.cons rfl (.cons rfl (.cons rfl (.cons rfl (.nil _)))))), ⟨st, (by first | omega | (dsimp only; omega)), (all_snoc hg (by first | exact slE_f1 (by omega) | exact slE_f2 (by rw [← lg_keep (p := e_) (by omega) hrw1 hrw2]; omega)))⟩, (by first | omega | (dsimp only; omega))⟩
          · refine Wq.off rfl rfl rfl ?_
            refine Wq.off rfl rfl rfl ?_
            refine Wq.off rfl rfl rfl ?_
            refine Wq.off rfl rfl rfl ?_
            refine Wq.off rfl rfl rfl ?_
            refine Wq.off rfl rfl rfl ?_
            refine Wq.pure (PR.pickFB rfl rfl) ?_
            refine Wq.nil (fun w27 hbel => ?_)
            replace st := st.call hbel
            clear hbel
            refine tn ?_
            refine Wc.condF rfl ?_
            refine Wc.skip ?_
            refine bn ?_
            refine tn ?_
            refine Wc.region rfl ?_
            refine Wl.pure (PR.add (a := ((x : Nat) : Int)) (b := 1) rfl rfl (by simp only [fitI]; omega)) ?_
            refine Wl.pure (PR.moveI rfl) ?_
            refine Wl.nil ?_
            refine tn ?_
            exact ⟨x + 1, (.cons rfl (.cons rfl (.cons rfl (.cons rfl (.cons rfl (.nil _)))))), ⟨st, (by first | omega | (dsimp only; omega)), (all_snoc hg (by first | exact slE_f1 (by omega) | exact slE_f2 (by rw [← lg_keep (p := e_) (by omega) hrw1 hrw2]; omega)))⟩, (by first | omega | (dsimp only; omega))⟩
        · refine Wc.exit ?_
          refine tx ?_
          refine tx ?_
          refine bh ?_
          refine tn ?_
          refine Wc.seq ?_
          refine Wc.region rfl ?_
          refine Wl.pure (PR.assB rfl) ?_
          refine Wl.pure (PR.assI rfl) ?_
          refine Wl.nil ?_
          refine tn ?_
          refine Wc.ret ?_
          refine postL.tmp2 rfl rfl rfl ?_
          refine RetV.of ?_ st.below
          exact sl_t hz0 (fun j hj => hg j (Nat.lt_of_lt_of_le (show j < 1 <<< e_ from hj) (by omega)))

end Go.Proofs.Ytdlmbdclbnlmlaa
