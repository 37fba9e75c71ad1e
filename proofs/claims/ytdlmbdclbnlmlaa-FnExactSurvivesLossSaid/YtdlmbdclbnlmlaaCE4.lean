/-
  Contracts of functions, printed by a program of ours.
-/
import Derived.Test.YtdlmbdclbnlmlaaCE3
import Derived.Test.YtdlmbdclbnlmlaaHand
namespace Go.Proofs.Ytdlmbdclbnlmlaa
open Go.RowKit
set_option linter.unusedVariables false
set_option linter.unusedSimpArgs false

set_option maxHeartbeats 400000 in
set_option maxRecDepth 4000 in
theorem c_impl_LeastGap {s : Int} {p : Int} {a : Nat → Nat} {b : Nat → Nat} {m : Int} {f : Nat} {w : World} (hs : -128 ≤ s ∧ s ≤ 127) (hp : -128 ≤ p ∧ p ≤ 127) (ha : ∀ k, a k < 256) (hb : ∀ k, b k < 256) (hm : -128 ≤ m ∧ m ≤ 127) (hf : f < 18446744073709551616) :
    CE Try.prog 12 [.agg (schV (s) (p) (a) (b)).toArray, .agg ([.int .i8 (m), .int .u64 (((f : Nat) : Int))]).toArray] w (RetV w (.tuple #[.int .i64 (selZ (svC s p a b m f) (lgF a b f (1 <<< (m).toNat))), .int .i64 (((svC s p a b m f : Nat) : Int))])) := by
  refine CE.enter 16 [(0, .agg (schV (s) (p) (a) (b)).toArray), (1, .agg ([.int .i8 (m), .int .u64 (((f : Nat) : Int))]).toArray)] en_12 Try.func12 rfl rfl (Nat.le_of_ble_eq_true rfl) rfl ?_
  have st := St.start w
  refine Wc.seq ?_
  refine Wc.region rfl ?_
  refine Wl.boxA st rfl ?_
  clear st
  intro b2 w1 st
  refine Wl.boxA st rfl ?_
  clear st
  intro b3 w2 st
  refine Wl.pure (PR.assI rfl) ?_
  refine Wl.pure (PR.assI rfl) ?_
  refine Wl.nil ?_
  refine tn ?_
  refine Wc.seq ?_
  refine Wc.seq ?_
  refine Wc.region rfl ?_
  refine Wl.loadA (i := 1) st tA_31 rfl rfl (all_sub schV_len) schV_len ?_
  refine Wl.loadA (i := 0) st tA_33 rfl rfl rfl rfl ?_
  refine Wl.callV (c_impl_servesCode (s := s) (p := p) (a := a) (b := b) (m := m) (f := f) (by first | assumption | omega) (by first | assumption | omega) ha hb (by first | assumption | omega) hf) rfl ?_
  intro w3 hbel
  replace st := st.call hbel
  clear hbel
  refine Wl.pure (PR.assI rfl) ?_
  refine Wl.nil ?_
  refine tn ?_
  refine Wc.seq ?_
  refine Wc.region rfl ?_
  refine Wl.pure (PR.moveI rfl) ?_
  refine Wl.pure (PR.neq (a := ((svC s p a b m f : Nat) : Int)) (b := 0) rfl rfl) ?_
  refine Wl.nil ?_
  refine tn ?_
  refine Wc.condN (p := ((svC s p a b m f : Nat) : Int) = 0) rfl (fun h4 => ?_) (fun h4 => ?_)
  · refine Wc.seq ?_
    refine Wc.region rfl ?_
    refine Wl.pure (PR.moveI rfl) ?_
    refine Wl.pure (PR.assI rfl) ?_
    refine Wl.pure (PR.assI rfl) ?_
    refine Wl.nil ?_
    refine tn ?_
    refine Wc.ret ?_
    refine tr ?_
    refine postL.tmp2 rfl rfl rfl ?_
    refine RetV.of ?_ st.below
    exact ho_f (by omega) rfl
  · refine Wc.skip ?_
    refine tn ?_
    refine Wc.seq ?_
    obtain ⟨hok1, hok2, hsm, hfz⟩ := svC_spec (s := s) (p := p) (a := a) (b := b) (m := m) (f := f) (by omega)
    obtain ⟨hs1, hp1, _⟩ := schOk_spec hok1
    have hm6 := fam_spec hok2
    have hpos := fam_pos hok2
    obtain ⟨n, rfl⟩ : ∃ n : Nat, s = ((n : Nat) : Int) := ⟨s.toNat, by omega⟩
    obtain ⟨e_, rfl⟩ : ∃ e_ : Nat, p = ((e_ : Nat) : Int) := ⟨p.toNat, by omega⟩
    refine Wc.region rfl ?_
    refine Wl.loadA (i := 1) st tA_31 rfl rfl (all_sub schV_len) schV_len ?_
    refine Wl.loadA (i := 0) st tA_33 rfl rfl rfl rfl ?_
    refine Wl.callV (c_impl_leastGap (s := n) (p := e_) (a := a) (b := b) (m := m) (f := f) (by first | assumption | omega) ha hb (by first | assumption | omega) hf (by first | assumption | omega) (by first | assumption | omega)) rfl ?_
    intro w5 hbel
    replace st := st.call hbel
    clear hbel
    refine Wl.pure (PR.assI rfl) ?_
    refine Wl.pure (PR.assI rfl) ?_
    refine Wl.nil ?_
    refine tn ?_
    refine Wc.ret ?_
    refine postL.tmp2 rfl rfl rfl ?_
    refine RetV.of ?_ st.below
    exact ho_t (by omega) rfl

set_option maxHeartbeats 400000 in
set_option maxRecDepth 4000 in
theorem c_spec_LeastGap {s : Int} {p : Int} {a : Nat → Nat} {b : Nat → Nat} {m : Int} {f : Nat} {w : World} (hs : -128 ≤ s ∧ s ≤ 127) (hp : -128 ≤ p ∧ p ≤ 127) (ha : ∀ k, a k < 256) (hb : ∀ k, b k < 256) (hm : -128 ≤ m ∧ m ≤ 127) (hf : f < 18446744073709551616) :
    CE Try.prog 9 [.agg (schV (s) (p) (a) (b)).toArray, .agg ([.int .i8 (m), .int .u64 (((f : Nat) : Int))]).toArray] w (RetV w (.tuple #[.int .i64 (selZ (svC s p a b m f) (lgF a b f (1 <<< (m).toNat))), .int .i64 (((svC s p a b m f : Nat) : Int))])) := by
  refine CE.enter 12 [(0, .agg (schV (s) (p) (a) (b)).toArray), (1, .agg ([.int .i8 (m), .int .u64 (((f : Nat) : Int))]).toArray)] en_9 Try.func9 rfl rfl (Nat.le_of_ble_eq_true rfl) rfl ?_
  have st := St.start w
  refine Wc.seq ?_
  refine Wc.region rfl ?_
  refine Wl.boxA st rfl ?_
  clear st
  intro b2 w1 st
  refine Wl.boxA st rfl ?_
  clear st
  intro b3 w2 st
  refine Wl.pure (PR.assI rfl) ?_
  refine Wl.pure (PR.assI rfl) ?_
  refine Wl.nil ?_
  refine tn ?_
  refine Wc.seq ?_
  refine Wc.seq ?_
  refine Wc.region rfl ?_
  refine Wl.callV (c_spec_l06Served (bk := b2) (o := 0) (s := s) (p := p) (a := a) (b := b) (bf := b3) (of := 0) (m := m) (f := f) (st.rdA (i := 1) rfl (all_sub schV_len)) (by first | assumption | omega) (by first | assumption | omega) ha hb (st.rdA (i := 0) (n := 2) rfl rfl) (by first | assumption | omega) hf) rfl ?_
  intro w3 hbel
  replace st := st.call hbel
  clear hbel
  refine Wl.pure (PR.assI rfl) ?_
  refine Wl.nil ?_
  refine tn ?_
  refine Wc.seq ?_
  refine Wc.region rfl ?_
  refine Wl.pure (PR.moveI rfl) ?_
  refine Wl.pure (PR.neq (a := ((svC s p a b m f : Nat) : Int)) (b := 0) rfl rfl) ?_
  refine Wl.nil ?_
  refine tn ?_
  refine Wc.condN (p := ((svC s p a b m f : Nat) : Int) = 0) rfl (fun h4 => ?_) (fun h4 => ?_)
  · refine Wc.seq ?_
    refine Wc.region rfl ?_
    refine Wl.pure (PR.moveI rfl) ?_
    refine Wl.pure (PR.assI rfl) ?_
    refine Wl.pure (PR.assI rfl) ?_
    refine Wl.nil ?_
    refine tn ?_
    refine Wc.ret ?_
    refine tr ?_
    refine postL.tmp2 rfl rfl rfl ?_
    refine RetV.of ?_ st.below
    exact ho_f (by omega) rfl
  · refine Wc.skip ?_
    refine tn ?_
    refine Wc.seq ?_
    obtain ⟨hok1, hok2, hsm, hfz⟩ := svC_spec (s := s) (p := p) (a := a) (b := b) (m := m) (f := f) (by omega)
    obtain ⟨hs1, hp1, _⟩ := schOk_spec hok1
    have hm6 := fam_spec hok2
    have hpos := fam_pos hok2
    obtain ⟨n, rfl⟩ : ∃ n : Nat, s = ((n : Nat) : Int) := ⟨s.toNat, by omega⟩
    obtain ⟨e_, rfl⟩ : ∃ e_ : Nat, p = ((e_ : Nat) : Int) := ⟨p.toNat, by omega⟩
    refine Wc.region rfl ?_
    refine Wl.callV (c_spec_l06Least (bk := b2) (o := 0) (s := n) (p := e_) (a := a) (b := b) (bf := b3) (of := 0) (m := m) (f := f) (st.rdA (i := 1) rfl (all_sub schV_len)) (by first | assumption | omega) ha hb (st.rdA (i := 0) (n := 2) rfl rfl) (by first | assumption | omega) hf (by first | assumption | omega)) rfl ?_
    intro w5 hbel
    replace st := st.call hbel
    clear hbel
    refine Wl.pure (PR.assI rfl) ?_
    refine Wl.pure (PR.assI rfl) ?_
    refine Wl.nil ?_
    refine tn ?_
    refine Wc.ret ?_
    refine postL.tmp2 rfl rfl rfl ?_
    refine RetV.of ?_ st.below
    exact ho_t (by omega) rfl

set_option maxHeartbeats 400000 in
set_option maxRecDepth 4000 in
theorem c_laws_FnExactLeastGap {s : Int} {p : Int} {a : Nat → Nat} {b : Nat → Nat} {m : Int} {f : Nat} {w : World} (hs : -128 ≤ s ∧ s ≤ 127) (hp : -128 ≤ p ∧ p ≤ 127) (ha : ∀ k, a k < 256) (hb : ∀ k, b k < 256) (hm : -128 ≤ m ∧ m ≤ 127) (hf : f < 18446744073709551616) :
    CE Try.prog 3 [.agg (schV (s) (p) (a) (b)).toArray, .agg ([.int .i8 (m), .int .u64 (((f : Nat) : Int))]).toArray] w (RetV w (.bool true)) := by
  refine CE.enter 33 [(0, .agg (schV (s) (p) (a) (b)).toArray), (1, .agg ([.int .i8 (m), .int .u64 (((f : Nat) : Int))]).toArray)] en_3 Try.func3 rfl rfl (Nat.le_of_ble_eq_true rfl) rfl ?_
  have st := St.start w
  refine Wc.seq ?_
  refine Wc.region rfl ?_
  refine Wl.boxA st rfl ?_
  clear st
  intro b2 w1 st
  refine Wl.boxA st rfl ?_
  clear st
  intro b3 w2 st
  refine Wl.pure (PR.assB rfl) ?_
  refine Wl.nil ?_
  refine tn ?_
  refine Wc.seq ?_
  refine Wc.quiet hmix (by kernel_rfl) rfl ?_
  refine Wq.loadA (i := 1) st tA_25 rfl rfl (all_sub schV_len) schV_len ?_
  refine Wq.callV (fun _ hbel => c_laws_toScheme (s := s) (p := p) (a := a) (b := b) ha hb) rfl ?_
  refine Wq.loadA (i := 0) st tA_28 rfl rfl rfl rfl ?_
  refine Wq.callV (fun _ hbel => c_laws_toFamily (m := m) (f := f) (by first | assumption | omega) hf) rfl ?_
  refine Wq.callV (fun _ hbel => c_spec_LeastGap (s := s) (p := p) (a := a) (b := b) (m := m) (f := f) (by first | assumption | omega) (by first | assumption | omega) ha hb (by first | assumption | omega) hf) rfl ?_
  refine Wq.pure (PR.moveV (.tuple #[.int .i64 (selZ (svC s p a b m f) (lgF a b f (1 <<< (m).toNat))), .int .i64 (((svC s p a b m f : Nat) : Int))]) rfl) ?_
  refine Wq.pure (PR.extr (i := 0) (vs := [.int .i64 (selZ (svC s p a b m f) (lgF a b f (1 <<< (m).toNat))), .int .i64 (((svC s p a b m f : Nat) : Int))]) rfl rfl) ?_
  refine Wq.pure (PR.extr (i := 1) (vs := [.int .i64 (selZ (svC s p a b m f) (lgF a b f (1 <<< (m).toNat))), .int .i64 (((svC s p a b m f : Nat) : Int))]) rfl rfl) ?_
  refine Wq.pure (PR.assI rfl) ?_
  refine Wq.pure (PR.assI rfl) ?_
  refine Wq.nil (fun w3 hbel => ?_)
  replace st := st.call hbel
  clear hbel
  refine tn ?_
  refine Wc.seq ?_
  refine Wc.quiet hmix (by kernel_rfl) rfl ?_
  refine Wq.loadA (i := 1) st tA_25 rfl rfl (all_sub schV_len) schV_len ?_
  refine Wq.callV (fun _ hbel => c_laws_toScheme (s := s) (p := p) (a := a) (b := b) ha hb) rfl ?_
  refine Wq.loadA (i := 0) st tA_28 rfl rfl rfl rfl ?_
  refine Wq.callV (fun _ hbel => c_laws_toFamily (m := m) (f := f) (by first | assumption | omega) hf) rfl ?_
  refine Wq.callV (fun _ hbel => c_impl_LeastGap (s := s) (p := p) (a := a) (b := b) (m := m) (f := f) (by first | assumption | omega) (by first | assumption | omega) ha hb (by first | assumption | omega) hf) rfl ?_
  refine Wq.pure (PR.moveV (.tuple #[.int .i64 (selZ (svC s p a b m f) (lgF a b f (1 <<< (m).toNat))), .int .i64 (((svC s p a b m f : Nat) : Int))]) rfl) ?_
  refine Wq.pure (PR.extr (i := 0) (vs := [.int .i64 (selZ (svC s p a b m f) (lgF a b f (1 <<< (m).toNat))), .int .i64 (((svC s p a b m f : Nat) : Int))]) rfl rfl) ?_
  refine Wq.pure (PR.extr (i := 1) (vs := [.int .i64 (selZ (svC s p a b m f) (lgF a b f (1 <<< (m).toNat))), .int .i64 (((svC s p a b m f : Nat) : Int))]) rfl rfl) ?_
  refine Wq.pure (PR.assI rfl) ?_
  refine Wq.pure (PR.assI rfl) ?_
  refine Wq.nil (fun w4 hbel => ?_)
  replace st := st.call hbel
  clear hbel
  refine tn ?_
  refine Wc.seq ?_
  refine Wc.seq ?_
  refine Wc.region rfl ?_
  refine Wl.pure (PR.moveI rfl) ?_
  refine Wl.pure (PR.moveI rfl) ?_
  refine Wl.pure (PR.neqS (a := selZ (svC s p a b m f) (lgF a b f (1 <<< (m).toNat))) rfl rfl) ?_
  refine Wl.pure (PR.moveB rfl) ?_
  refine Wl.on rfl rfl ?_
  refine Wl.pure (PR.moveI rfl) ?_
  refine Wl.on rfl rfl ?_
  refine Wl.pure (PR.moveI rfl) ?_
  refine Wl.on rfl rfl ?_
  refine Wl.pure (PR.neqS (a := ((svC s p a b m f : Nat) : Int)) rfl rfl) ?_
  refine Wl.pure (PR.pickFB rfl rfl) ?_
  refine Wl.nil ?_
  refine tn ?_
  refine Wc.condF rfl ?_
  refine Wc.skip ?_
  refine tn ?_
  refine Wc.seq ?_
  refine Wc.region rfl ?_
  refine Wl.pure (PR.assB rfl) ?_
  refine Wl.nil ?_
  refine tn ?_
  refine Wc.ret ?_
  refine postL.tmp rfl rfl ?_
  exact RetV.of rfl st.below

end Go.Proofs.Ytdlmbdclbnlmlaa
