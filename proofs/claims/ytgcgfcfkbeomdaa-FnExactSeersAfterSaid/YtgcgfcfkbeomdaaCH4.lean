/-
  Contracts of functions, printed by a program of ours.
-/
import Derived.Test.YtgcgfcfkbeomdaaCH3
namespace Go.Proofs.Ytgcgfcfkbeomdaa
open Go.RowKit
set_option linter.unusedVariables false
set_option linter.unusedSimpArgs false

set_option maxHeartbeats 400000 in
set_option maxRecDepth 4000 in
theorem c_impl_SeersAfter_t {s : Int} {p : Int} {a : Nat → Nat} {b : Nat → Nat} {A : Option Addr} {n : Nat} {cp : Nat} {x : Nat → Int} {y : Nat → Int} {t : Int} {w : World} (hs : -128 ≤ s ∧ s ≤ 127) (hp : -128 ≤ p ∧ p ≤ 127) (ha : ∀ k, a k < 256) (hb : ∀ k, b k < 256) (hR : RdS w A n (hanV n x y)) (hx : ∀ i, i < n → -128 ≤ x i ∧ x i ≤ 127) (hy : ∀ i, i < n → -128 ≤ y i ∧ y i ≤ 127) (hn : n ≤ 1048576) (hcp : n ≤ cp) (hcode : givC s p a b n x y t true = 0) :
    CE Try.prog 22 [.agg (schV (s) (p) (a) (b)).toArray, .slice (A) (n) (cp), .int .i64 (t)] w (RetXG w [] 2 1 ((flN (seQ a b x y ((t).toNat)) 10)) (arrU .i64 (flN (seQ a b x y ((t).toNat)) 10) (fun j => (fun z => z) (flA (seQ a b x y ((t).toNat)) 10 j))) (fun b_ c_ => .tuple #[.slice (some ⟨b_, 0, none⟩) ((flN (seQ a b x y ((t).toNat)) 10)) (c_), .int .i64 (0)]) []) := by
  refine CE.enter 21 [(0, .agg (schV (s) (p) (a) (b)).toArray), (1, .slice (A) (n) (cp)), (2, .int .i64 (t))] en_22 Try.func22 rfl rfl (Nat.le_of_ble_eq_true rfl) rfl ?_
  have st := St.start w
  refine Wc.seq ?_
  refine Wc.region rfl ?_
  refine Wl.boxA st rfl ?_
  clear st
  intro b3 w1 st
  refine Wl.pure (PR.assL rfl) ?_
  refine Wl.pure (PR.assI rfl) ?_
  refine Wl.nil ?_
  refine tn ?_
  refine Wc.seq ?_
  refine Wc.seq ?_
  refine Wc.region rfl ?_
  refine Wl.loadA (i := 0) st tA_33 rfl rfl (all_sub schV_len) schV_len ?_
  refine Wl.pure (PR.moveL rfl) ?_
  refine Wl.pure (PR.moveI rfl) ?_
  refine Wl.callV (c_impl_handingsCode (s := s) (p := p) (a := a) (b := b) (A := A) (n := n) (cp := cp) (x := x) (y := y) (t := t) (ok := true) (by first | assumption | omega) (by first | assumption | omega) ha hb (hR.st st) hx hy (by first | assumption | omega)) rfl ?_
  intro w2 hbel
  replace st := st.call hbel
  clear hbel
  refine Wl.pure (PR.assI rfl) ?_
  refine Wl.nil ?_
  refine tn ?_
  refine Wc.seq ?_
  refine Wc.region rfl ?_
  refine Wl.pure (PR.moveI rfl) ?_
  refine Wl.pure (PR.neq (a := ((givC s p a b n x y t true : Nat) : Int)) (b := 0) rfl rfl) ?_
  refine Wl.nil ?_
  refine tn ?_
  refine Wc.condN (p := ((givC s p a b n x y t true : Nat) : Int) = 0) rfl (fun h3 => ?_) (fun h3 => ?_)
  · refine Wc.seq ?_
    exfalso
    omega
  · refine Wc.skip ?_
    refine tn ?_
    refine Wc.seq ?_
    obtain ⟨hvo, ht, _⟩ := givC_spec (s := s) (p := p) (a := a) (b := b) (n := n) (x := x) (y := y) (t := t) (ok := true) hcode
    have hok := (hvOk_spec hvo).1
    have hx0 : ∀ i, i < n → 0 ≤ x i := fun i hi => ((hanOk_spec (hvOk_spec hvo).2).2 i hi).1.1
    obtain ⟨d, rfl⟩ : ∃ d : Nat, t = ((d : Nat) : Int) := ⟨t.toNat, by omega⟩
    refine Wc.tree1 (w0 := w) (X := []) (Ks := []) (S := fun i => i == 4) (.st 1 0 (.st 2 0 (.st 3 0 (.st 0 1 (.st 4 2 (.st 5 0 (.st 6 0 PT.nil))))))) hmix (by kernel_rfl) (by kernel_rfl) rfl rfl ?_
    intro w4 hbel
    replace st := st.call hbel
    clear hbel
    refine WT.pure rfl (PR.moveL rfl) ?_
    refine WT.pure rfl (PR.moveI rfl) ?_
    refine WT.pure rfl (PR.sliceTo (h := d) tS_25 rfl rfl (by omega)) ?_
    refine WT.loadA1 (j := 0) rfl st tA_33 rfl rfl (all_sub schV_len) schV_len ?_
    have st0 := st
    refine WT.s rfl rfl ?_
    refine Wl.callXG [] st (c_impl_Scheme_seers (s := s) (p := p) (a := a) (b := b) (A := A) (n := n) (t := d) (cp := cp) (x := x) (y := y) (by first | assumption | omega) (by first | assumption | omega) ha hb ((RdS.pre (m := d) hR (by omega)).st st) hx hy (by first | assumption | omega) (by first | assumption | omega) (fun i hi => hx0 i (by omega))) rfl rfl ?_
    clear st
    intro b20 c20 sp20 w5 hc20 hs20 st
    replace st : St [] w w5 [(b20, arrU .i64 (flN (seQ a b x y d) 10) (fun j => (fun z => z) (flA (seQ a b x y d) 10 j)) ++ sp20, 2), (b3, schV (s) (p) (a) (b), 33)] := st
    refine Wl.nil ⟨rfl, RK.of st0 st ksN, ?_⟩
    clear st0
    refine WT.pure rfl (PR.assL rfl) ?_
    refine WT.pure rfl (PR.assI rfl) ?_
    refine WT.nil ?_
    refine tn ?_
    refine Wc.ret ?_
    refine postL.tmp2 rfl rfl rfl ?_
    replace st : St [] w w5 [(b20, arrU .i64 (flN (seQ a b x y d) 10) (fun j => (fun z => z) (flA (seQ a b x y d) 10 j)) ++ sp20, 2)] := st.pick [0] (by decide) rfl
    exact ⟨b20, c20, sp20, hc20, hs20, rfl, st⟩

set_option maxHeartbeats 400000 in
set_option maxRecDepth 4000 in
theorem c_impl_SeersAfter_f {s : Int} {p : Int} {a : Nat → Nat} {b : Nat → Nat} {A : Option Addr} {n : Nat} {cp : Nat} {x : Nat → Int} {y : Nat → Int} {t : Int} {w : World} (hs : -128 ≤ s ∧ s ≤ 127) (hp : -128 ≤ p ∧ p ≤ 127) (ha : ∀ k, a k < 256) (hb : ∀ k, b k < 256) (hR : RdS w A n (hanV n x y)) (hx : ∀ i, i < n → -128 ≤ x i ∧ x i ≤ 127) (hy : ∀ i, i < n → -128 ≤ y i ∧ y i ≤ 127) (hn : n ≤ 1048576) (hcp : n ≤ cp) (hcode : ¬ givC s p a b n x y t true = 0) :
    CE Try.prog 22 [.agg (schV (s) (p) (a) (b)).toArray, .slice (A) (n) (cp), .int .i64 (t)] w (RetV w (.tuple #[.slice (none) (0) (0), .int .i64 (((givC s p a b n x y t true : Nat) : Int))])) := by
  refine CE.enter 21 [(0, .agg (schV (s) (p) (a) (b)).toArray), (1, .slice (A) (n) (cp)), (2, .int .i64 (t))] en_22 Try.func22 rfl rfl (Nat.le_of_ble_eq_true rfl) rfl ?_
  have st := St.start w
  refine Wc.seq ?_
  refine Wc.region rfl ?_
  refine Wl.boxA st rfl ?_
  clear st
  intro b3 w1 st
  refine Wl.pure (PR.assL rfl) ?_
  refine Wl.pure (PR.assI rfl) ?_
  refine Wl.nil ?_
  refine tn ?_
  refine Wc.seq ?_
  refine Wc.seq ?_
  refine Wc.region rfl ?_
  refine Wl.loadA (i := 0) st tA_33 rfl rfl (all_sub schV_len) schV_len ?_
  refine Wl.pure (PR.moveL rfl) ?_
  refine Wl.pure (PR.moveI rfl) ?_
  refine Wl.callV (c_impl_handingsCode (s := s) (p := p) (a := a) (b := b) (A := A) (n := n) (cp := cp) (x := x) (y := y) (t := t) (ok := true) (by first | assumption | omega) (by first | assumption | omega) ha hb (hR.st st) hx hy (by first | assumption | omega)) rfl ?_
  intro w2 hbel
  replace st := st.call hbel
  clear hbel
  refine Wl.pure (PR.assI rfl) ?_
  refine Wl.nil ?_
  refine tn ?_
  refine Wc.seq ?_
  refine Wc.region rfl ?_
  refine Wl.pure (PR.moveI rfl) ?_
  refine Wl.pure (PR.neq (a := ((givC s p a b n x y t true : Nat) : Int)) (b := 0) rfl rfl) ?_
  refine Wl.nil ?_
  refine tn ?_
  refine Wc.condN (p := ((givC s p a b n x y t true : Nat) : Int) = 0) rfl (fun h3 => ?_) (fun h3 => ?_)
  · refine Wc.seq ?_
    refine Wc.region rfl ?_
    refine Wl.pure (PR.moveI rfl) ?_
    refine Wl.pure (PR.assL rfl) ?_
    refine Wl.pure (PR.assI rfl) ?_
    refine Wl.nil ?_
    refine tn ?_
    refine Wc.ret ?_
    refine tr ?_
    refine postL.tmp2 rfl rfl rfl ?_
    exact RetV.of rfl st.below
  · refine Wc.skip ?_
    refine tn ?_
    refine Wc.seq ?_
    exfalso
    omega

set_option maxHeartbeats 400000 in
set_option maxRecDepth 4000 in
theorem c_spec_SeersAfter_t {s : Int} {p : Int} {a : Nat → Nat} {b : Nat → Nat} {A : Option Addr} {n : Nat} {cp : Nat} {x : Nat → Int} {y : Nat → Int} {t : Int} {w : World} (hs : -128 ≤ s ∧ s ≤ 127) (hp : -128 ≤ p ∧ p ≤ 127) (ha : ∀ k, a k < 256) (hb : ∀ k, b k < 256) (hR : RdS w A n (hanV n x y)) (hx : ∀ i, i < n → -128 ≤ x i ∧ x i ≤ 127) (hy : ∀ i, i < n → -128 ≤ y i ∧ y i ≤ 127) (hn : n ≤ 1048576) (hcp : n ≤ cp) (hcode : givC s p a b n x y t true = 0) :
    CE Try.prog 21 [.agg (schV (s) (p) (a) (b)).toArray, .slice (A) (n) (cp), .int .i64 (t)] w (RetXG w [] 2 1 ((flN (seQ a b x y ((t).toNat)) 10)) (arrU .i64 (flN (seQ a b x y ((t).toNat)) 10) (fun j => (fun z => z) (flA (seQ a b x y ((t).toNat)) 10 j))) (fun b_ c_ => .tuple #[.slice (some ⟨b_, 0, none⟩) ((flN (seQ a b x y ((t).toNat)) 10)) (c_), .int .i64 (0)]) []) := by
  refine CE.enter 20 [(0, .agg (schV (s) (p) (a) (b)).toArray), (1, .slice (A) (n) (cp)), (2, .int .i64 (t))] en_21 Try.func21 rfl rfl (Nat.le_of_ble_eq_true rfl) rfl ?_
  have st := St.start w
  refine Wc.seq ?_
  refine Wc.region rfl ?_
  refine Wl.boxA st rfl ?_
  clear st
  intro b3 w1 st
  refine Wl.pure (PR.assL rfl) ?_
  refine Wl.pure (PR.assI rfl) ?_
  refine Wl.nil ?_
  refine tn ?_
  refine Wc.seq ?_
  refine Wc.seq ?_
  refine Wc.region rfl ?_
  refine Wl.loadA (i := 0) st tA_33 rfl rfl (all_sub schV_len) schV_len ?_
  refine Wl.pure (PR.moveL rfl) ?_
  refine Wl.pure (PR.moveI rfl) ?_
  refine Wl.callV (c_spec_l07Given (s := s) (p := p) (a := a) (b := b) (A := A) (n := n) (cp := cp) (x := x) (y := y) (t := t) (ok := true) (by first | assumption | omega) (by first | assumption | omega) ha hb (hR.st st) hx hy (by first | assumption | omega)) rfl ?_
  intro w2 hbel
  replace st := st.call hbel
  clear hbel
  refine Wl.pure (PR.assI rfl) ?_
  refine Wl.nil ?_
  refine tn ?_
  refine Wc.seq ?_
  refine Wc.region rfl ?_
  refine Wl.pure (PR.moveI rfl) ?_
  refine Wl.pure (PR.neq (a := ((givC s p a b n x y t true : Nat) : Int)) (b := 0) rfl rfl) ?_
  refine Wl.nil ?_
  refine tn ?_
  refine Wc.condN (p := ((givC s p a b n x y t true : Nat) : Int) = 0) rfl (fun h3 => ?_) (fun h3 => ?_)
  · refine Wc.seq ?_
    exfalso
    omega
  · refine Wc.skip ?_
    refine tn ?_
    refine Wc.seq ?_
    obtain ⟨hvo, ht, _⟩ := givC_spec (s := s) (p := p) (a := a) (b := b) (n := n) (x := x) (y := y) (t := t) (ok := true) hcode
    have hok := (hvOk_spec hvo).1
    have hx0 : ∀ i, i < n → 0 ≤ x i := fun i hi => ((hanOk_spec (hvOk_spec hvo).2).2 i hi).1.1
    obtain ⟨d, rfl⟩ : ∃ d : Nat, t = ((d : Nat) : Int) := ⟨t.toNat, by omega⟩
    refine Wc.region rfl ?_
    refine Wl.pure (PR.moveL rfl) ?_
    refine Wl.pure (PR.moveI rfl) ?_
    refine Wl.callXG [] st (c_spec_l07Seers (bk := b3) (o := 0) (s := s) (p := p) (a := a) (b := b) (A := A) (n := n) (cp := cp) (x := x) (y := y) (t := d) (st.rdA (i := 0) rfl (all_sub schV_len)) (hR.st st) (by first | assumption | omega) (by first | assumption | omega) ha hb hx hy (by first | assumption | omega) (by first | assumption | omega) (fun i hi => hx0 i (by omega)) (by first | assumption | omega)) rfl rfl ?_
    clear st
    intro b19 c19 sp19 w4 hc19 hs19 st
    replace st : St [] w w4 [(b19, arrU .i64 (flN (seQ a b x y d) 10) (fun j => (fun z => z) (flA (seQ a b x y d) 10 j)) ++ sp19, 2), (b3, schV (s) (p) (a) (b), 33)] := st
    refine Wl.pure (PR.assL rfl) ?_
    refine Wl.pure (PR.assI rfl) ?_
    refine Wl.nil ?_
    refine tn ?_
    refine Wc.ret ?_
    refine postL.tmp2 rfl rfl rfl ?_
    replace st : St [] w w4 [(b19, arrU .i64 (flN (seQ a b x y d) 10) (fun j => (fun z => z) (flA (seQ a b x y d) 10 j)) ++ sp19, 2)] := st.pick [0] (by decide) rfl
    exact ⟨b19, c19, sp19, hc19, hs19, rfl, st⟩

set_option maxHeartbeats 400000 in
set_option maxRecDepth 4000 in
theorem c_spec_SeersAfter_f {s : Int} {p : Int} {a : Nat → Nat} {b : Nat → Nat} {A : Option Addr} {n : Nat} {cp : Nat} {x : Nat → Int} {y : Nat → Int} {t : Int} {w : World} (hs : -128 ≤ s ∧ s ≤ 127) (hp : -128 ≤ p ∧ p ≤ 127) (ha : ∀ k, a k < 256) (hb : ∀ k, b k < 256) (hR : RdS w A n (hanV n x y)) (hx : ∀ i, i < n → -128 ≤ x i ∧ x i ≤ 127) (hy : ∀ i, i < n → -128 ≤ y i ∧ y i ≤ 127) (hn : n ≤ 1048576) (hcp : n ≤ cp) (hcode : ¬ givC s p a b n x y t true = 0) :
    CE Try.prog 21 [.agg (schV (s) (p) (a) (b)).toArray, .slice (A) (n) (cp), .int .i64 (t)] w (RetXG w [] 2 1 (0) (arrU .i64 0 (fun _ => 0)) (fun b_ c_ => .tuple #[.slice (some ⟨b_, 0, none⟩) (0) (c_), .int .i64 (((givC s p a b n x y t true : Nat) : Int))]) []) := by
  refine CE.enter 20 [(0, .agg (schV (s) (p) (a) (b)).toArray), (1, .slice (A) (n) (cp)), (2, .int .i64 (t))] en_21 Try.func21 rfl rfl (Nat.le_of_ble_eq_true rfl) rfl ?_
  have st := St.start w
  refine Wc.seq ?_
  refine Wc.region rfl ?_
  refine Wl.boxA st rfl ?_
  clear st
  intro b3 w1 st
  refine Wl.pure (PR.assL rfl) ?_
  refine Wl.pure (PR.assI rfl) ?_
  refine Wl.nil ?_
  refine tn ?_
  refine Wc.seq ?_
  refine Wc.seq ?_
  refine Wc.region rfl ?_
  refine Wl.loadA (i := 0) st tA_33 rfl rfl (all_sub schV_len) schV_len ?_
  refine Wl.pure (PR.moveL rfl) ?_
  refine Wl.pure (PR.moveI rfl) ?_
  refine Wl.callV (c_spec_l07Given (s := s) (p := p) (a := a) (b := b) (A := A) (n := n) (cp := cp) (x := x) (y := y) (t := t) (ok := true) (by first | assumption | omega) (by first | assumption | omega) ha hb (hR.st st) hx hy (by first | assumption | omega)) rfl ?_
  intro w2 hbel
  replace st := st.call hbel
  clear hbel
  refine Wl.pure (PR.assI rfl) ?_
  refine Wl.nil ?_
  refine tn ?_
  refine Wc.seq ?_
  refine Wc.region rfl ?_
  refine Wl.pure (PR.moveI rfl) ?_
  refine Wl.pure (PR.neq (a := ((givC s p a b n x y t true : Nat) : Int)) (b := 0) rfl rfl) ?_
  refine Wl.nil ?_
  refine tn ?_
  refine Wc.condN (p := ((givC s p a b n x y t true : Nat) : Int) = 0) rfl (fun h3 => ?_) (fun h3 => ?_)
  · refine Wc.seq ?_
    refine Wc.region rfl ?_
    refine Wl.buildSlice (ps := []) (cs := arrU .i64 0 (fun _ => 0) ++ []) st tS_41 tZ_2 rfl rfl rfl ?_
    clear st
    intro b15 w4 st
    refine Wl.pure (PR.moveI rfl) ?_
    refine Wl.pure (PR.assL rfl) ?_
    refine Wl.pure (PR.assI rfl) ?_
    refine Wl.nil ?_
    refine tn ?_
    refine Wc.ret ?_
    refine tr ?_
    refine postL.tmp2 rfl rfl rfl ?_
    replace st : St [] w w4 [(b15, arrU .i64 0 (fun _ => 0) ++ [], 2)] := st.pick [0] (by decide) rfl
    exact ⟨b15, 0, ([]), (Nat.le_refl _), rfl, rfl, st⟩
  · refine Wc.skip ?_
    refine tn ?_
    refine Wc.seq ?_
    exfalso
    omega

set_option maxHeartbeats 400000 in
set_option maxRecDepth 4000 in
theorem c_laws_markHandingS {ba : Nat} {n : Nat} {cp : Nat} {x : Nat → Int} {y : Nat → Int} {sp : List Value} {z : Nat} {w : World} (hn : n ≤ 1048576) (hz : z ≤ 1000000) (hst : St [ba] w w [(ba, hanV n x y ++ sp, 51)]) :
    CE Try.prog 24 [.slice (some ⟨ba, 0, none⟩) (n) (cp), .int .i64 (((z : Nat) : Int))] w (RetXE (γ := (Nat → Int) × (Nat → Int)) w [ba] (fun g => True) (fun g => .int .i64 ((((z + 2 * n) : Nat) : Int))) (fun g => [(ba, hanV n g.1 g.2 ++ sp, 51)])) := by
  refine CE.enter 29 [(0, .slice (some ⟨ba, 0, none⟩) (n) (cp)), (1, .int .i64 (((z : Nat) : Int)))] en_24 Try.func24 rfl rfl (Nat.le_of_ble_eq_true rfl) rfl ?_
  have st := hst
  refine Wc.seq ?_
  refine Wc.region rfl ?_
  refine Wl.pure (PR.assI rfl) ?_
  refine Wl.nil ?_
  refine tn ?_
  refine Wc.seq ?_
  refine Wc.seq ?_
  refine Wc.region rfl ?_
  refine Wl.pure (PR.assI rfl) ?_
  refine Wl.nil ?_
  refine tn ?_
  refine Wc.block ?_
  refine Wc.loopF (γ := Nat × Nat × (Nat → Int) × (Nat → Int)) (fun g => [(0, .slice (some ⟨ba, 0, none⟩) (n) (cp)), (1, .int .i64 (((g.2.1 : Nat) : Int))), (4, .int .i64 (0)), (5, .int .i64 (((g.1 : Nat) : Int)))]) (fun g w_ => St [ba] w w_ [(ba, hanV n g.2.2.1 g.2.2.2 ++ sp, 51)] ∧ (g.1 ≤ n) ∧ (g.2.1 = z + 2 * g.1)) (fun g => n - g.1) ?_ ?_
  · exact ⟨(0, z, x, y), (.cons rfl (.cons rfl (.cons rfl (.cons rfl (.nil _))))), st, (by first | omega | (dsimp only; omega)), rfl⟩
  clear st
  rintro ⟨i, u, x, y⟩ w1 ⟨st, hi, hu⟩
  try dsimp only at st hi hu ⊢
  refine Wc.seq ?_
  refine Wc.seq ?_
  refine Wc.region rfl ?_
  refine Wl.pure (PR.moveI rfl) ?_
  refine Wl.pure (PR.moveL rfl) ?_
  refine Wl.pure (PR.lenL tS_25 rfl) ?_
  refine Wl.pure (PR.lss (a := ((i : Nat) : Int)) (b := ((n : Nat) : Int)) rfl rfl) ?_
  refine Wl.nil ?_
  refine tn ?_
  refine Wc.condD (p := ((i : Nat) : Int) < ((n : Nat) : Int)) rfl (fun h2 => ?_) (fun h2 => ?_)
  · refine Wc.skip ?_
    refine tn ?_
    refine Wc.seq ?_
    refine Wc.block ?_
    refine Wc.seq ?_
    refine Wc.region rfl ?_
    refine Wl.pure (PR.moveL rfl) ?_
    refine Wl.pure (PR.moveI rfl) ?_
    refine Wl.pure (PR.moveI rfl) ?_
    refine Wl.pure (PR.convW (n := ((u : Nat) : Int)) tI_28 rfl Try.underlying3) ?_
    refine Wl.pure (PR.idxAddrS (i := i) tS_25 rfl rfl (by omega)) ?_
    refine Wl.pure (PR.fieldAddr tF_51_0 rfl) ?_
    refine Wl.store (i := 0) (cs' := hanV n (upd x i (IntKind.i8.wrap ((u : Nat) : Int))) y ++ sp) st tA_28 rfl rfl rfl rfl (app_in (hanV_in (i := i) (j := 0) (by omega) (by omega) (by omega))) (app_set (hanV_in (i := i) (j := 0) (by omega) (by omega) (by omega)) (hanV_set_x (by omega))) ?_
    clear st
    intro w3 st
    replace st : St [ba] w w3 [(ba, hanV n (upd x i (IntKind.i8.wrap ((u : Nat) : Int))) y ++ sp, 51)] := st
    refine Wl.nil ?_
    refine tn ?_
    refine Wc.seq ?_
    refine Wc.region rfl ?_
    refine Wl.pure (PR.moveI rfl) ?_
    refine Wl.pure (PR.add (a := ((u : Nat) : Int)) (b := 1) rfl rfl (by simp only [fitI]; omega)) ?_
    refine Wl.pure (PR.assI rfl) ?_
    refine Wl.nil ?_
    refine tn ?_
    refine Wc.seq ?_
    refine Wc.region rfl ?_
    refine Wl.pure (PR.moveL rfl) ?_
    refine Wl.pure (PR.moveI rfl) ?_
    refine Wl.pure (PR.moveI rfl) ?_
    refine Wl.pure (PR.convW (n := (((u + 1) : Nat) : Int)) tI_28 rfl Try.underlying3) ?_
    refine Wl.pure (PR.idxAddrS (i := i) tS_25 rfl rfl (by omega)) ?_
    refine Wl.pure (PR.fieldAddr tF_51_1 rfl) ?_
    refine Wl.store (i := 0) (cs' := hanV n (upd x i (IntKind.i8.wrap ((u : Nat) : Int))) (upd y i (IntKind.i8.wrap (((u + 1) : Nat) : Int))) ++ sp) st tA_28 rfl rfl rfl rfl (app_in (hanV_in (i := i) (j := 1) (by omega) (by omega) (by omega))) (app_set (hanV_in (i := i) (j := 1) (by omega) (by omega) (by omega)) (hanV_set_y (by omega))) ?_
    clear st
    intro w4 st
    replace st : St [ba] w w4 [(ba, hanV n (upd x i (IntKind.i8.wrap ((u : Nat) : Int))) (upd y i (IntKind.i8.wrap (((u + 1) : Nat) : Int))) ++ sp, 51)] := st
    refine Wl.nil ?_
    refine tn ?_
    refine Wc.region rfl ?_
    refine Wl.pure (PR.moveI rfl) ?_
    refine Wl.pure (PR.add (a := (((u + 1) : Nat) : Int)) (b := 1) rfl rfl (by simp only [fitI]; omega)) ?_
    refine Wl.pure (PR.assI rfl) ?_
    refine Wl.nil ?_
    refine bn ?_
    refine tn ?_
    refine Wc.region rfl ?_
    refine Wl.pure (PR.moveI rfl) ?_
    refine Wl.pure (PR.add (a := ((i : Nat) : Int)) (b := 1) rfl rfl (by simp only [fitI]; omega)) ?_
    refine Wl.pure (PR.assI rfl) ?_
    refine Wl.nil ?_
    refine tn ?_
    exact ⟨(i + 1, ((u + 1) + 1), (upd x i (IntKind.i8.wrap ((u : Nat) : Int))), (upd y i (IntKind.i8.wrap (((u + 1) : Nat) : Int)))), (.cons rfl (.cons rfl (.cons rfl (.cons rfl (.nil _))))), ⟨st, (by first | omega | (dsimp only; omega)), (by first | omega | (dsimp only; omega))⟩, (by first | omega | (dsimp only; omega))⟩
  · refine Wc.exit ?_
    refine tx ?_
    refine tx ?_
    refine bh ?_
    refine tn ?_
    refine Wc.seq ?_
    refine Wc.region rfl ?_
    refine Wl.pure (PR.moveI rfl) ?_
    refine Wl.pure (PR.assI rfl) ?_
    refine Wl.nil ?_
    refine tn ?_
    refine Wc.ret ?_
    refine postL.tmp rfl rfl ?_
    obtain rfl : i = n := by omega
    subst hu
    exact ⟨(x, y), trivial, rfl, st⟩

set_option maxHeartbeats 400000 in
set_option maxRecDepth 4000 in
theorem c_laws_eqInt64S {A : Option Addr} {n : Nat} {cp : Nat} {c : Nat → Nat} {B : Option Addr} {cq : Nat} {w : World} (hR : RdS w A n (arrU .i64 n c)) (hQ : RdS w B n (arrU .i64 n c)) (hn : n ≤ 1048576) :
    CE Try.prog 23 [.slice (A) (n) (cp), .slice (B) (n) (cq)] w (RetV w (.bool true)) := by
  refine CE.enter 26 [(0, .slice (A) (n) (cp)), (1, .slice (B) (n) (cq))] en_23 Try.func23 rfl rfl (Nat.le_of_ble_eq_true rfl) rfl ?_
  have st := St.start w
  refine Wc.seq ?_
  refine Wc.region rfl ?_
  refine Wl.pure (PR.assB rfl) ?_
  refine Wl.nil ?_
  refine tn ?_
  refine Wc.seq ?_
  refine Wc.seq ?_
  refine Wc.region rfl ?_
  refine Wl.pure (PR.moveL rfl) ?_
  refine Wl.pure (PR.lenL tS_41 rfl) ?_
  refine Wl.pure (PR.moveL rfl) ?_
  refine Wl.pure (PR.lenL tS_41 rfl) ?_
  refine Wl.pure (PR.neqS (a := ((n : Nat) : Int)) rfl rfl) ?_
  refine Wl.nil ?_
  refine tn ?_
  refine Wc.condF rfl ?_
  refine Wc.skip ?_
  refine tn ?_
  refine Wc.seq ?_
  refine Wc.seq ?_
  refine Wc.region rfl ?_
  refine Wl.pure (PR.assI rfl) ?_
  refine Wl.nil ?_
  refine tn ?_
  refine Wc.block ?_
  refine Wc.loopF (γ := Nat) (fun g => [(0, .slice (A) (n) (cp)), (1, .slice (B) (n) (cq)), (5, .int .i64 (((g : Nat) : Int)))]) (fun g w_ => St [] w w_ [] ∧ (g ≤ n)) (fun g => n - g) ?_ ?_
  · exact ⟨0, (.cons rfl (.cons rfl (.cons rfl (.nil _)))), st, (by first | omega | (dsimp only; omega))⟩
  clear st
  rintro k w1 ⟨st, hk⟩
  try dsimp only at st hk ⊢
  refine Wc.seq ?_
  refine Wc.seq ?_
  refine Wc.region rfl ?_
  refine Wl.pure (PR.moveI rfl) ?_
  refine Wl.pure (PR.moveL rfl) ?_
  refine Wl.pure (PR.lenL tS_41 rfl) ?_
  refine Wl.pure (PR.lss (a := ((k : Nat) : Int)) (b := ((n : Nat) : Int)) rfl rfl) ?_
  refine Wl.nil ?_
  refine tn ?_
  refine Wc.condD (p := ((k : Nat) : Int) < ((n : Nat) : Int)) rfl (fun h2 => ?_) (fun h2 => ?_)
  · refine Wc.skip ?_
    refine tn ?_
    refine Wc.seq ?_
    refine Wc.block ?_
    refine Wc.seq ?_
    refine Wc.quiet hmix (by kernel_rfl) rfl ?_
    refine Wq.pure (PR.moveL rfl) ?_
    refine Wq.pure (PR.moveI rfl) ?_
    obtain ⟨bs3, os4, rfl, hs5⟩ := hR (by omega)
    refine Wq.pure (PR.idxAddrS1 (i := k) tS_41 rfl rfl (by omega)) ?_
    refine Wq.loadC tA_2 rfl ((hs5.st st).at_ (arrU_get0 (by omega)) (Nat.add_assoc _ _ _).symm) ?_
    refine Wq.pure (PR.moveL rfl) ?_
    refine Wq.pure (PR.moveI rfl) ?_
    obtain ⟨bs6, os7, rfl, hs8⟩ := hQ (by omega)
    refine Wq.pure (PR.idxAddrS1 (i := k) tS_41 rfl rfl (by omega)) ?_
    refine Wq.loadC tA_2 rfl ((hs8.st st).at_ (arrU_get0 (by omega)) (Nat.add_assoc _ _ _).symm) ?_
    refine Wq.pure (PR.neqS (a := ((c (k) : Nat) : Int)) rfl rfl) ?_
    refine Wq.nil (fun w9 hbel => ?_)
    replace st := st.call hbel
    clear hbel
    refine tn ?_
    refine Wc.condF rfl ?_
    refine Wc.skip ?_
    refine bn ?_
    refine tn ?_
    refine Wc.region rfl ?_
    refine Wl.pure (PR.moveI rfl) ?_
    refine Wl.pure (PR.add (a := ((k : Nat) : Int)) (b := 1) rfl rfl (by simp only [fitI]; omega)) ?_
    refine Wl.pure (PR.assI rfl) ?_
    refine Wl.nil ?_
    refine tn ?_
    exact ⟨k + 1, (.cons rfl (.cons rfl (.cons rfl (.nil _)))), ⟨st, (by first | omega | (dsimp only; omega))⟩, (by first | omega | (dsimp only; omega))⟩
  · refine Wc.exit ?_
    refine tx ?_
    refine tx ?_
    refine bh ?_
    refine tn ?_
    refine Wc.seq ?_
    refine Wc.region rfl ?_
    refine Wl.pure (PR.assB rfl) ?_
    refine Wl.nil ?_
    refine tn ?_
    refine Wc.ret ?_
    refine postL.tmp rfl rfl ?_
    exact RetV.of rfl st.below

set_option maxHeartbeats 400000 in
set_option maxRecDepth 4000 in
theorem c_markInt64S {ba : Nat} {n : Nat} {cp : Nat} {c : Nat → Nat} {sp : List Value} {z : Nat} {w : World} (hz : z + n ≤ 100000000) (hst : St [ba] w w [(ba, arrU .i64 n c ++ sp, 2)]) :
    CE Try.prog 25 [.slice (some ⟨ba, 0, none⟩) (n) (cp), .int .i64 (((z : Nat) : Int))] w (RetX w [ba] (.int .i64 ((((z + n) : Nat) : Int))) [(ba, arrU .i64 n (fun j => z + j) ++ sp, 2)]) := by
  refine CE.enter 19 [(0, .slice (some ⟨ba, 0, none⟩) (n) (cp)), (1, .int .i64 (((z : Nat) : Int)))] en_25 Try.func25 rfl rfl (Nat.le_of_ble_eq_true rfl) rfl ?_
  have st := hst
  refine Wc.seq ?_
  refine Wc.region rfl ?_
  refine Wl.pure (PR.assI rfl) ?_
  refine Wl.nil ?_
  refine tn ?_
  refine Wc.seq ?_
  refine Wc.seq ?_
  refine Wc.region rfl ?_
  refine Wl.pure (PR.assI rfl) ?_
  refine Wl.nil ?_
  refine tn ?_
  refine Wc.block ?_
  refine Wc.loopF (γ := Nat × Nat × (Nat → Nat)) (fun g => [(0, .slice (some ⟨ba, 0, none⟩) (n) (cp)), (1, .int .i64 (((g.2.1 : Nat) : Int))), (4, .int .i64 (0)), (5, .int .i64 (((g.1 : Nat) : Int)))]) (fun g w_ => St [ba] w w_ [(ba, arrU .i64 n g.2.2 ++ sp, 2)] ∧ (g.1 ≤ n) ∧ (g.2.1 = z + g.1) ∧ (∀ u, u < g.1 → g.2.2 u = (fun j => z + j) u)) (fun g => n - g.1) ?_ ?_
  · exact ⟨(0, z, c), (.cons rfl (.cons rfl (.cons rfl (.cons rfl (.nil _))))), st, (by first | omega | (dsimp only; omega)), (by first | omega | (dsimp only; omega)), (fun u hu => by omega)⟩
  clear st
  rintro ⟨i, y, c⟩ w1 ⟨st, hi, hy, hg⟩
  try dsimp only at st hi hy hg ⊢
  refine Wc.seq ?_
  refine Wc.seq ?_
  refine Wc.region rfl ?_
  refine Wl.pure (PR.moveI rfl) ?_
  refine Wl.pure (PR.moveL rfl) ?_
  refine Wl.pure (PR.lenL tS_41 rfl) ?_
  refine Wl.pure (PR.lss (a := ((i : Nat) : Int)) (b := ((n : Nat) : Int)) rfl rfl) ?_
  refine Wl.nil ?_
  refine tn ?_
  refine Wc.condD (p := ((i : Nat) : Int) < ((n : Nat) : Int)) rfl (fun h2 => ?_) (fun h2 => ?_)
  · refine Wc.skip ?_
    refine tn ?_
    refine Wc.seq ?_
    refine Wc.block ?_
    refine Wc.seq ?_
    refine Wc.region rfl ?_
    refine Wl.pure (PR.moveL rfl) ?_
    refine Wl.pure (PR.moveI rfl) ?_
    refine Wl.pure (PR.moveI rfl) ?_
    refine Wl.pure (PR.idxAddrS1 (i := i) tS_41 rfl rfl (by omega)) ?_
    refine Wl.store (i := 0) (cs' := arrU .i64 n (upd c (i) (y)) ++ sp) st tA_2 rfl rfl rfl rfl (app_in (lt_of_len (arrU_len _) (by omega))) (app_set (lt_of_len (arrU_len _) (by omega)) (arrU_set0)) ?_
    clear st
    intro w3 st
    replace st : St [ba] w w3 [(ba, arrU .i64 n (upd c (i) (y)) ++ sp, 2)] := st
    refine Wl.nil ?_
    refine tn ?_
    refine Wc.region rfl ?_
    refine Wl.pure (PR.moveI rfl) ?_
    refine Wl.pure (PR.add (a := ((y : Nat) : Int)) (b := 1) rfl rfl (by simp only [fitI]; omega)) ?_
    refine Wl.pure (PR.assI rfl) ?_
    refine Wl.nil ?_
    refine bn ?_
    refine tn ?_
    refine Wc.region rfl ?_
    refine Wl.pure (PR.moveI rfl) ?_
    refine Wl.pure (PR.add (a := ((i : Nat) : Int)) (b := 1) rfl rfl (by simp only [fitI]; omega)) ?_
    refine Wl.pure (PR.assI rfl) ?_
    refine Wl.nil ?_
    refine tn ?_
    exact ⟨(i + 1, (y + 1), upd c (i) (y)), (.cons rfl (.cons rfl (.cons rfl (.cons rfl (.nil _))))), ⟨st, (by first | omega | (dsimp only; omega)), (by first | omega | (dsimp only; omega)), (upd_snoc hg (by subst hy; rfl))⟩, (by first | omega | (dsimp only; omega))⟩
  · refine Wc.exit ?_
    refine tx ?_
    refine tx ?_
    refine bh ?_
    refine tn ?_
    refine Wc.seq ?_
    refine Wc.region rfl ?_
    refine Wl.pure (PR.moveI rfl) ?_
    refine Wl.pure (PR.assI rfl) ?_
    refine Wl.nil ?_
    refine tn ?_
    refine Wc.ret ?_
    refine postL.tmp rfl rfl ?_
    obtain rfl : n = i := by omega
    subst hy
    rw [arrU_congr (d := (fun j => z + j)) (fun u hu => hg u hu)] at st
    exact st.retX (by
    refine congrArg (Value.int .i64) ?_
    first | rfl | omega) rfl

set_option maxHeartbeats 400000 in
set_option maxRecDepth 4000 in
theorem c_markInt64S0 {A : Option Addr} {cp : Nat} {z : Nat} {w : World} :
    CE Try.prog 25 [.slice (A) (0) (cp), .int .i64 (((z : Nat) : Int))] w (RetV w (.int .i64 (((z : Nat) : Int)))) := by
  refine CE.enter 19 [(0, .slice (A) (0) (cp)), (1, .int .i64 (((z : Nat) : Int)))] en_25 Try.func25 rfl rfl (Nat.le_of_ble_eq_true rfl) rfl ?_
  have st := St.start w
  refine Wc.seq ?_
  refine Wc.region rfl ?_
  refine Wl.pure (PR.assI rfl) ?_
  refine Wl.nil ?_
  refine tn ?_
  refine Wc.seq ?_
  refine Wc.seq ?_
  refine Wc.region rfl ?_
  refine Wl.pure (PR.assI rfl) ?_
  refine Wl.nil ?_
  refine tn ?_
  refine Wc.block ?_
  refine Wc.loopF (γ := Unit) (fun g => [(0, .slice (A) (0) (cp)), (1, .int .i64 (((z : Nat) : Int))), (4, .int .i64 (0)), (5, .int .i64 (0))]) (fun g w_ => St [] w w_ []) (fun g => 0) ?_ ?_
  · exact ⟨(), (.cons rfl (.cons rfl (.cons rfl (.cons rfl (.nil _))))), st⟩
  clear st
  rintro u_ w1 st
  try dsimp only at st ⊢
  refine Wc.seq ?_
  refine Wc.seq ?_
  refine Wc.region rfl ?_
  refine Wl.pure (PR.moveI rfl) ?_
  refine Wl.pure (PR.moveL rfl) ?_
  refine Wl.pure (PR.lenL tS_41 rfl) ?_
  refine Wl.pure (PR.lss (a := 0) (b := 0) rfl rfl) ?_
  refine Wl.nil ?_
  refine tn ?_
  refine Wc.condD (p := 0 < 0) rfl (fun h2 => ?_) (fun h2 => ?_)
  · refine Wc.skip ?_
    refine tn ?_
    refine Wc.seq ?_
    refine Wc.block ?_
    refine Wc.seq ?_
    exfalso
    omega
  · refine Wc.exit ?_
    refine tx ?_
    refine tx ?_
    refine bh ?_
    refine tn ?_
    refine Wc.seq ?_
    refine Wc.region rfl ?_
    refine Wl.pure (PR.moveI rfl) ?_
    refine Wl.pure (PR.assI rfl) ?_
    refine Wl.nil ?_
    refine tn ?_
    refine Wc.ret ?_
    refine postL.tmp rfl rfl ?_
    exact RetV.of rfl st.below

set_option maxHeartbeats 400000 in
set_option maxRecDepth 4000 in
theorem c_laws_heldInt64S {A : Option Addr} {n : Nat} {cp : Nat} {c : Nat → Nat} {z : Nat} {w : World} (hR : RdS w A n (arrU .i64 n c)) (hz : z + n ≤ 100000000) (hck : ∀ u, u < n → c u = (fun j => z + j) u) :
    CE Try.prog 26 [.slice (A) (n) (cp), .int .i64 (((z : Nat) : Int))] w (RetV w (.int .i64 ((((z + n) : Nat) : Int)))) := by
  refine CE.enter 21 [(0, .slice (A) (n) (cp)), (1, .int .i64 (((z : Nat) : Int)))] en_26 Try.func26 rfl rfl (Nat.le_of_ble_eq_true rfl) rfl ?_
  have st := St.start w
  refine Wc.seq ?_
  refine Wc.region rfl ?_
  refine Wl.pure (PR.assI rfl) ?_
  refine Wl.nil ?_
  refine tn ?_
  refine Wc.seq ?_
  refine Wc.seq ?_
  refine Wc.region rfl ?_
  refine Wl.pure (PR.assI rfl) ?_
  refine Wl.nil ?_
  refine tn ?_
  refine Wc.block ?_
  refine Wc.loopF (γ := Nat × Nat) (fun g => [(0, .slice (A) (n) (cp)), (1, .int .i64 (((g.2 : Nat) : Int))), (5, .int .i64 (((g.1 : Nat) : Int)))]) (fun g w_ => St [] w w_ [] ∧ (g.1 ≤ n) ∧ (g.2 = z + g.1)) (fun g => n - g.1) ?_ ?_
  · exact ⟨(0, z), (.cons rfl (.cons rfl (.cons rfl (.nil _)))), st, (by first | omega | (dsimp only; omega)), (by first | omega | (dsimp only; omega))⟩
  clear st
  rintro ⟨i, y⟩ w1 ⟨st, hi, hy⟩
  try dsimp only at st hi hy ⊢
  refine Wc.seq ?_
  refine Wc.seq ?_
  refine Wc.region rfl ?_
  refine Wl.pure (PR.moveI rfl) ?_
  refine Wl.pure (PR.moveL rfl) ?_
  refine Wl.pure (PR.lenL tS_41 rfl) ?_
  refine Wl.pure (PR.lss (a := ((i : Nat) : Int)) (b := ((n : Nat) : Int)) rfl rfl) ?_
  refine Wl.nil ?_
  refine tn ?_
  refine Wc.condD (p := ((i : Nat) : Int) < ((n : Nat) : Int)) rfl (fun h2 => ?_) (fun h2 => ?_)
  · refine Wc.skip ?_
    refine tn ?_
    refine Wc.seq ?_
    refine Wc.block ?_
    refine Wc.seq ?_
    refine Wc.seq ?_
    have hck9 : c i = (fun j => z + j) i := hck i (by omega)
    simp only at hck9
    refine Wc.region rfl ?_
    refine Wl.pure (PR.moveL rfl) ?_
    refine Wl.pure (PR.moveI rfl) ?_
    obtain ⟨bs3, os4, rfl, hs5⟩ := hR (by omega)
    refine Wl.pure (PR.idxAddrS1 (i := i) tS_41 rfl rfl (by omega)) ?_
    refine Wl.loadC tA_2 rfl ((hs5.st st).at_ (arrU_get0 (by omega)) (Nat.add_assoc _ _ _).symm) ?_
    refine Wl.pure (PR.moveI rfl) ?_
    refine Wl.pure (PR.neq (a := ((c (i) : Nat) : Int)) (b := ((y : Nat) : Int)) rfl rfl) ?_
    refine Wl.nil ?_
    refine tn ?_
    refine Wc.condN (p := ((c (i) : Nat) : Int) = ((y : Nat) : Int)) rfl (fun h6 => ?_) (fun h6 => ?_)
    · refine Wc.seq ?_
      refine Wc.region rfl ?_
      refine Wl.pure (PR.assI rfl) ?_
      refine Wl.nil ?_
      refine tn ?_
      refine Wc.ret ?_
      refine tr ?_
      refine br ?_
      refine tr ?_
      refine tr ?_
      refine br ?_
      refine tr ?_
      refine postL.tmp rfl rfl ?_
      refine RetV.of ?_ st.below
      refine congrArg (Value.int .i64) ?_
      first | rfl | omega
    · refine Wc.skip ?_
      refine tn ?_
      refine Wc.region rfl ?_
      refine Wl.pure (PR.moveI rfl) ?_
      refine Wl.pure (PR.add (a := ((y : Nat) : Int)) (b := 1) rfl rfl (by simp only [fitI]; omega)) ?_
      refine Wl.pure (PR.assI rfl) ?_
      refine Wl.nil ?_
      refine bn ?_
      refine tn ?_
      refine Wc.region rfl ?_
      refine Wl.pure (PR.moveI rfl) ?_
      refine Wl.pure (PR.add (a := ((i : Nat) : Int)) (b := 1) rfl rfl (by simp only [fitI]; omega)) ?_
      refine Wl.pure (PR.assI rfl) ?_
      refine Wl.nil ?_
      refine tn ?_
      exact ⟨(i + 1, (y + 1)), (.cons rfl (.cons rfl (.cons rfl (.nil _)))), ⟨st, (by first | omega | (dsimp only; omega)), (by first | omega | (dsimp only; omega))⟩, (by first | omega | (dsimp only; omega))⟩
  · refine Wc.exit ?_
    refine tx ?_
    refine tx ?_
    refine bh ?_
    refine tn ?_
    refine Wc.seq ?_
    refine Wc.region rfl ?_
    refine Wl.pure (PR.moveI rfl) ?_
    refine Wl.pure (PR.assI rfl) ?_
    refine Wl.nil ?_
    refine tn ?_
    refine Wc.ret ?_
    refine postL.tmp rfl rfl ?_
    refine RetV.of ?_ st.below
    refine congrArg (Value.int .i64) ?_
    first | rfl | omega

set_option maxHeartbeats 400000 in
set_option maxRecDepth 4000 in
theorem c_laws_FnExactSeersAfter {s : Int} {p : Int} {a : Nat → Nat} {b : Nat → Nat} {A : Option Addr} {n : Nat} {cp : Nat} {x : Nat → Int} {y : Nat → Int} {t : Int} {w : World} (hs : -128 ≤ s ∧ s ≤ 127) (hp : -128 ≤ p ∧ p ≤ 127) (ha : ∀ k, a k < 256) (hb : ∀ k, b k < 256) (hR : RdS w A n (hanV n x y)) (hx : ∀ i, i < n → -128 ≤ x i ∧ x i ≤ 127) (hy : ∀ i, i < n → -128 ≤ y i ∧ y i ≤ 127) (hn : n ≤ 9223372036854775807) :
    CE Try.prog 7 [.agg (schV (s) (p) (a) (b)).toArray, .slice (A) (n) (cp), .int .i64 (t)] w (RetV w (.bool true)) := by
  refine CE.enter 109 [(0, .agg (schV (s) (p) (a) (b)).toArray), (1, .slice (A) (n) (cp)), (2, .int .i64 (t))] en_7 Try.func7 rfl rfl (Nat.le_of_ble_eq_true rfl) rfl ?_
  have st := St.start w
  refine Wc.seq ?_
  refine Wc.region rfl ?_
  refine Wl.boxA st rfl ?_
  clear st
  intro b3 w1 st
  refine Wl.pure (PR.assB rfl) ?_
  refine Wl.nil ?_
  refine tn ?_
  refine Wc.seq ?_
  refine Wc.region rfl ?_
  refine Wl.pure (PR.assI rfl) ?_
  refine Wl.nil ?_
  refine tn ?_
  refine Wc.seq ?_
  refine Wc.region rfl ?_
  refine Wl.pure (PR.moveL rfl) ?_
  refine Wl.pure (PR.moveI rfl) ?_
  refine Wl.callV (c_laws_szHandingS (A := A) (n := n) (cp := cp) (x := x) (y := y) (z := 1048576) (by first | assumption | omega) (by first | assumption | omega)) rfl ?_
  intro w2 hbel
  replace st := st.call hbel
  clear hbel
  refine Wl.pure (PR.assI rfl) ?_
  refine Wl.nil ?_
  refine tn ?_
  refine Wc.seq ?_
  refine Wc.seq ?_
  refine Wc.region rfl ?_
  refine Wl.pure (PR.moveI rfl) ?_
  refine Wl.pure (PR.lss (a := (szL n 1048576)) (b := 0) rfl rfl) ?_
  refine Wl.nil ?_
  refine tn ?_
  refine Wc.condD (p := (szL n 1048576) < 0) rfl (fun h3 => ?_) (fun h3 => ?_)
  · refine Wc.seq ?_
    refine Wc.region rfl ?_
    refine Wl.pure (PR.assB rfl) ?_
    refine Wl.nil ?_
    refine tn ?_
    refine Wc.ret ?_
    refine tr ?_
    refine postL.tmp rfl rfl ?_
    exact RetV.of rfl st.below
  · refine Wc.skip ?_
    refine tn ?_
    refine Wc.seq ?_
    by_cases hcode : givC s p a b n x y t true = 0
    · obtain ⟨hn1, hz1⟩ := szL_ok (n := n) (z := 1048576) (by omega)
      have hfl := flN_le (seQ a b x y t.toNat) 10
      refine Wc.region rfl ?_
      refine Wl.loadA (i := 0) st tA_31 rfl rfl (all_sub schV_len) schV_len ?_
      refine Wl.callV (c_laws_toScheme (s := s) (p := p) (a := a) (b := b) ha hb) rfl ?_
      intro w4 hbel
      replace st := st.call hbel
      clear hbel
      refine Wl.pure (PR.moveL rfl) ?_
      refine Wl.callS st (c_laws_toHandingS (A := A) (n := n) (cp := cp) (x := x) (y := y) (hR.st st) (by first | assumption | omega)) rfl ?_
      clear st
      intro b27 w5 st
      refine Wl.pure (PR.moveI rfl) ?_
      refine Wl.callXG [] st (c_spec_SeersAfter_t (s := s) (p := p) (a := a) (b := b) (A := some ⟨b27, 0, none⟩) (n := n) (cp := n) (x := x) (y := y) (t := t) (by first | assumption | omega) (by first | assumption | omega) ha hb ((st.rdA (i := 0) (n := (n * 2)) rfl (all_sub (recV_len (s := 2) (hanV_row _ _) _))).sl) hx hy (by first | assumption | omega) (by first | assumption | omega) (by first | assumption | omega)) rfl rfl ?_
      clear st
      intro b29 c29 sp29 w6 hc29 hs29 st
      replace st : St [] w w6 [(b29, arrU .i64 (flN (seQ a b x y ((t).toNat)) 10) (fun j => (fun z => z) (flA (seQ a b x y ((t).toNat)) 10 j)) ++ sp29, 2), (b27, hanV n x y, 51), (b3, schV (s) (p) (a) (b), 31)] := st
      refine Wl.pure (PR.moveV (.tuple #[.slice (some ⟨b29, 0, none⟩) ((flN (seQ a b x y ((t).toNat)) 10)) (c29), .int .i64 (0)]) rfl) ?_
      refine Wl.pure (PR.extr (i := 0) (vs := [.slice (some ⟨b29, 0, none⟩) ((flN (seQ a b x y ((t).toNat)) 10)) (c29), .int .i64 (0)]) rfl rfl) ?_
      refine Wl.pure (PR.extr (i := 1) (vs := [.slice (some ⟨b29, 0, none⟩) ((flN (seQ a b x y ((t).toNat)) 10)) (c29), .int .i64 (0)]) rfl rfl) ?_
      refine Wl.pure (PR.assL rfl) ?_
      refine Wl.pure (PR.assI rfl) ?_
      refine Wl.nil ?_
      refine tn ?_
      refine Wc.seq ?_
      refine Wc.region rfl ?_
      refine Wl.pure (PR.moveL rfl) ?_
      refine Wl.callS st (c_laws_toHandingS (A := A) (n := n) (cp := cp) (x := x) (y := y) (hR.st st) (by first | assumption | omega)) rfl ?_
      clear st
      intro b33 w7 st
      refine Wl.pure (PR.assL rfl) ?_
      refine Wl.nil ?_
      refine tn ?_
      refine Wc.seq ?_
      refine Wc.region rfl ?_
      refine Wl.loadA (i := 3) st tA_31 rfl rfl (all_sub schV_len) schV_len ?_
      refine Wl.callV (c_laws_toScheme (s := s) (p := p) (a := a) (b := b) ha hb) rfl ?_
      intro w8 hbel
      replace st := st.call hbel
      clear hbel
      refine Wl.pure (PR.moveL rfl) ?_
      refine Wl.pure (PR.moveI rfl) ?_
      refine Wl.callXG [] st (c_impl_SeersAfter_t (s := s) (p := p) (a := a) (b := b) (A := some ⟨b33, 0, none⟩) (n := n) (cp := n) (x := x) (y := y) (t := t) (by first | assumption | omega) (by first | assumption | omega) ha hb ((st.rdA (i := 0) (n := (n * 2)) rfl (all_sub (recV_len (s := 2) (hanV_row _ _) _))).sl) hx hy (by first | assumption | omega) (by first | assumption | omega) (by first | assumption | omega)) rfl rfl ?_
      clear st
      intro b39 c39 sp39 w9 hc39 hs39 st
      replace st : St [] w w9 [(b39, arrU .i64 (flN (seQ a b x y ((t).toNat)) 10) (fun j => (fun z => z) (flA (seQ a b x y ((t).toNat)) 10 j)) ++ sp39, 2), (b33, hanV n x y, 51), (b29, arrU .i64 (flN (seQ a b x y ((t).toNat)) 10) (fun j => (fun z => z) (flA (seQ a b x y ((t).toNat)) 10 j)) ++ sp29, 2), (b27, hanV n x y, 51), (b3, schV (s) (p) (a) (b), 31)] := st
      refine Wl.pure (PR.moveV (.tuple #[.slice (some ⟨b39, 0, none⟩) ((flN (seQ a b x y ((t).toNat)) 10)) (c39), .int .i64 (0)]) rfl) ?_
      refine Wl.pure (PR.extr (i := 0) (vs := [.slice (some ⟨b39, 0, none⟩) ((flN (seQ a b x y ((t).toNat)) 10)) (c39), .int .i64 (0)]) rfl rfl) ?_
      refine Wl.pure (PR.extr (i := 1) (vs := [.slice (some ⟨b39, 0, none⟩) ((flN (seQ a b x y ((t).toNat)) 10)) (c39), .int .i64 (0)]) rfl rfl) ?_
      refine Wl.pure (PR.assL rfl) ?_
      refine Wl.pure (PR.assI rfl) ?_
      refine Wl.nil ?_
      refine tn ?_
      refine Wc.seq ?_
      refine Wc.seq ?_
      refine Wc.region rfl ?_
      refine Wl.pure (PR.moveL rfl) ?_
      refine Wl.pure (PR.moveL rfl) ?_
      refine Wl.callV (c_laws_eqInt64S (A := some ⟨b39, 0, none⟩) (n := (flN (seQ a b x y ((t).toNat)) 10)) (cp := c39) (c := (fun j => (fun z => z) (flA (seQ a b x y ((t).toNat)) 10 j))) (B := some ⟨b29, 0, none⟩) (cq := c29) ((st.rdA (i := 0) (n := (flN (seQ a b x y ((t).toNat)) 10)) rfl (app_all (arrU_len _))).sl) ((st.rdA (i := 2) (n := (flN (seQ a b x y ((t).toNat)) 10)) rfl (app_all (arrU_len _))).sl) (by first | assumption | omega)) rfl ?_
      intro w10 hbel
      replace st := st.call hbel
      clear hbel
      refine Wl.pure (PR.not_ rfl) ?_
      refine Wl.pure (PR.moveB rfl) ?_
      refine Wl.on rfl rfl ?_
      refine Wl.pure (PR.moveI rfl) ?_
      refine Wl.on rfl rfl ?_
      refine Wl.pure (PR.moveI rfl) ?_
      refine Wl.on rfl rfl ?_
      refine Wl.pure (PR.neqS (a := 0) rfl rfl) ?_
      refine Wl.pure (PR.pickFB rfl rfl) ?_
      refine Wl.nil ?_
      refine tn ?_
      refine Wc.condF rfl ?_
      refine Wc.skip ?_
      refine tn ?_
      refine Wc.seq ?_
      refine Wc.seq ?_
      refine Wc.region rfl ?_
      refine Wl.pure (PR.moveL rfl) ?_
      refine Wl.pure (PR.moveL rfl) ?_
      refine Wl.callS st (c_laws_toHandingS (A := A) (n := n) (cp := cp) (x := x) (y := y) (hR.st st) (by first | assumption | omega)) rfl ?_
      clear st
      intro b53 w11 st
      refine Wl.callV (c_laws_eqHandingS (A := some ⟨b33, 0, none⟩) (n := n) (cp := n) (x := x) (y := y) (B := some ⟨b53, 0, none⟩) (cq := n) ((st.rdA (i := 2) (n := (n * 2)) rfl (all_sub (recV_len (s := 2) (hanV_row _ _) _))).sl) ((st.rdA (i := 0) (n := (n * 2)) rfl (all_sub (recV_len (s := 2) (hanV_row _ _) _))).sl) (by first | assumption | omega)) rfl ?_
      intro w12 hbel
      replace st := st.call hbel
      clear hbel
      refine Wl.pure (PR.not_ rfl) ?_
      refine Wl.nil ?_
      refine tn ?_
      refine Wc.condF rfl ?_
      refine Wc.skip ?_
      refine tn ?_
      refine Wc.seq ?_
      refine Wc.region rfl ?_
      refine Wl.pure (PR.assI rfl) ?_
      refine Wl.nil ?_
      refine tn ?_
      refine Wc.seq ?_
      refine Wc.region rfl ?_
      refine Wl.pure (PR.moveL rfl) ?_
      refine Wl.pure (PR.moveI rfl) ?_
      replace st : St [] w w12 [(b53, hanV n x y, 51), (b39, arrU .i64 (flN (seQ a b x y ((t).toNat)) 10) (fun j => (fun z => z) (flA (seQ a b x y ((t).toNat)) 10 j)) ++ sp39, 2), (b33, hanV n x y ++ [], 51), (b29, arrU .i64 (flN (seQ a b x y ((t).toNat)) 10) (fun j => (fun z => z) (flA (seQ a b x y ((t).toNat)) 10 j)) ++ sp29, 2), (b27, hanV n x y, 51), (b3, schV (s) (p) (a) (b), 31)] := st.nilat (i := 2) rfl
      refine Wl.callXE [2] st (c_laws_markHandingS (ba := b33) (n := n) (cp := n) (x := x) (y := y) (sp := []) (z := 1) (by first | assumption | omega) (by first | assumption | omega) (st.lend (L' := [(b33, hanV n x y ++ [], 51)]) [2] (by decide) rfl)) rfl rfl ?_
      clear st
      rintro ⟨x__14, y__15⟩ _ w13 st
      try dsimp only at st 
      replace st : St [] w w13 [(b33, hanV n x__14 y__15 ++ [], 51), (b53, hanV n x y, 51), (b39, arrU .i64 (flN (seQ a b x y ((t).toNat)) 10) (fun j => (fun z => z) (flA (seQ a b x y ((t).toNat)) 10 j)) ++ sp39, 2), (b29, arrU .i64 (flN (seQ a b x y ((t).toNat)) 10) (fun j => (fun z => z) (flA (seQ a b x y ((t).toNat)) 10 j)) ++ sp29, 2), (b27, hanV n x y, 51), (b3, schV (s) (p) (a) (b), 31)] := st
      refine Wl.pure (PR.assI rfl) ?_
      refine Wl.nil ?_
      refine tn ?_
      refine Wc.seq ?_
      refine Wc.seq ?_
      refine Wc.region rfl ?_
      refine Wl.pure (PR.moveI rfl) ?_
      refine Wl.pure (PR.lss (a := (((1 + 2 * n) : Nat) : Int)) (b := 0) rfl rfl) ?_
      refine Wl.pure (PR.moveB rfl) ?_
      refine Wl.splitF (q := (((1 + 2 * n) : Nat) : Int) < 0) rfl rfl (fun h16 => ?_) (fun h16 => ?_)
      · refine Wl.pure (PR.moveL rfl) ?_
        refine Wl.on rfl rfl ?_
        refine Wl.pure (PR.moveL rfl) ?_
        refine Wl.on rfl rfl ?_
        refine Wl.callV (c_laws_eqInt64S (A := some ⟨b39, 0, none⟩) (n := (flN (seQ a b x y ((t).toNat)) 10)) (cp := c39) (c := (fun j => (fun z => z) (flA (seQ a b x y ((t).toNat)) 10 j))) (B := some ⟨b29, 0, none⟩) (cq := c29) ((st.rdA (i := 2) (n := (flN (seQ a b x y ((t).toNat)) 10)) rfl (app_all (arrU_len _))).sl) ((st.rdA (i := 3) (n := (flN (seQ a b x y ((t).toNat)) 10)) rfl (app_all (arrU_len _))).sl) (by first | assumption | omega)) rfl ?_
        intro w17 hbel
        replace st := st.call hbel
        clear hbel
        refine Wl.on rfl rfl ?_
        refine Wl.pure (PR.not_ rfl) ?_
        refine Wl.pure (PR.pickFB rfl rfl) ?_
        refine Wl.pure (PR.moveB rfl) ?_
        refine Wl.on rfl rfl ?_
        refine Wl.pure (PR.moveI rfl) ?_
        refine Wl.on rfl rfl ?_
        refine Wl.pure (PR.moveI rfl) ?_
        refine Wl.on rfl rfl ?_
        refine Wl.pure (PR.neqS (a := 0) rfl rfl) ?_
        refine Wl.pure (PR.pickFB rfl rfl) ?_
        refine Wl.nil ?_
        refine tn ?_
        refine Wc.condF rfl ?_
        refine Wc.skip ?_
        refine tn ?_
        refine Wc.seq ?_
        refine Wc.region rfl ?_
        refine Wl.pure (PR.assI rfl) ?_
        refine Wl.nil ?_
        refine tn ?_
        refine Wc.seq ?_
        refine Wc.region rfl ?_
        refine Wl.pure (PR.moveL rfl) ?_
        refine Wl.pure (PR.moveI rfl) ?_
        refine Wl.callX [2] st (c_markInt64S (ba := b39) (n := (flN (seQ a b x y ((t).toNat)) 10)) (cp := c39) (c := (fun j => (fun z => z) (flA (seQ a b x y ((t).toNat)) 10 j))) (sp := sp39) (z := 1) (by first | assumption | omega) (st.lend (L' := [(b39, arrU .i64 (flN (seQ a b x y ((t).toNat)) 10) (fun j => (fun z => z) (flA (seQ a b x y ((t).toNat)) 10 j)) ++ sp39, 2)]) [2] (by decide) rfl)) rfl rfl ?_
        clear st
        intro w18 st
        replace st : St [] w w18 [(b39, arrU .i64 (flN (seQ a b x y ((t).toNat)) 10) (fun j => 1 + j) ++ sp39, 2), (b33, hanV n x__14 y__15 ++ [], 51), (b53, hanV n x y, 51), (b29, arrU .i64 (flN (seQ a b x y ((t).toNat)) 10) (fun j => (fun z => z) (flA (seQ a b x y ((t).toNat)) 10 j)) ++ sp29, 2), (b27, hanV n x y, 51), (b3, schV (s) (p) (a) (b), 31)] := st
        refine Wl.pure (PR.assI rfl) ?_
        refine Wl.nil ?_
        refine tn ?_
        refine Wc.seq ?_
        refine Wc.region rfl ?_
        refine Wl.pure (PR.assI rfl) ?_
        refine Wl.nil ?_
        refine tn ?_
        refine Wc.seq ?_
        refine Wc.region rfl ?_
        refine Wl.pure (PR.moveL rfl) ?_
        refine Wl.pure (PR.moveI rfl) ?_
        refine Wl.callV (c_laws_heldInt64S (A := some ⟨b39, 0, none⟩) (n := (flN (seQ a b x y ((t).toNat)) 10)) (cp := c39) (c := (fun j => 1 + j)) (z := 1) ((st.rdA (i := 0) (n := (flN (seQ a b x y ((t).toNat)) 10)) rfl (app_all (arrU_len _))).sl) (by first | assumption | omega) (fun u hu => by first | rfl | omega)) rfl ?_
        intro w19 hbel
        replace st := st.call hbel
        clear hbel
        refine Wl.pure (PR.assI rfl) ?_
        refine Wl.nil ?_
        refine tn ?_
        refine Wc.seq ?_
        refine Wc.seq ?_
        refine Wc.region rfl ?_
        refine Wl.pure (PR.moveI rfl) ?_
        refine Wl.pure (PR.lss (a := (((1 + (flN (seQ a b x y ((t).toNat)) 10)) : Nat) : Int)) (b := 0) rfl rfl) ?_
        refine Wl.nil ?_
        refine tn ?_
        refine Wc.condD (p := (((1 + (flN (seQ a b x y ((t).toNat)) 10)) : Nat) : Int) < 0) rfl (fun h20 => ?_) (fun h20 => ?_)
        · refine Wc.seq ?_
          refine Wc.region rfl ?_
          refine Wl.pure (PR.assB rfl) ?_
          refine Wl.nil ?_
          refine tn ?_
          refine Wc.ret ?_
          refine tr ?_
          refine postL.tmp rfl rfl ?_
          refine RetV.of ?_ st.below
          refine congrArg Value.bool ?_
          first | rfl | (exfalso; omega) | (simp only [*, decide_true, decide_false, Bool.not_true, Bool.not_false]; done) | (simp; omega) | (rw [Bool.eq_iff_iff]; simp; omega) | simp_all
        · refine Wc.skip ?_
          refine tn ?_
          refine Wc.seq ?_
          refine Wc.seq ?_
          refine Wc.region rfl ?_
          refine Wl.pure (PR.moveI rfl) ?_
          refine Wl.pure (PR.moveI rfl) ?_
          refine Wl.pure (PR.neqS (a := (((1 + (flN (seQ a b x y ((t).toNat)) 10)) : Nat) : Int)) rfl rfl) ?_
          refine Wl.nil ?_
          refine tn ?_
          refine Wc.condF rfl ?_
          refine Wc.skip ?_
          refine tn ?_
          refine Wc.seq ?_
          refine Wc.region rfl ?_
          refine Wl.loadA (i := 5) st tA_31 rfl rfl (all_sub schV_len) schV_len ?_
          refine Wl.callV (c_laws_toScheme (s := s) (p := p) (a := a) (b := b) ha hb) rfl ?_
          intro w21 hbel
          replace st := st.call hbel
          clear hbel
          refine Wl.pure (PR.moveL rfl) ?_
          refine Wl.callS st (c_laws_toHandingS (A := A) (n := n) (cp := cp) (x := x) (y := y) (hR.st st) (by first | assumption | omega)) rfl ?_
          clear st
          intro b87 w22 st
          refine Wl.pure (PR.moveI rfl) ?_
          refine Wl.callXG [] st (c_impl_SeersAfter_t (s := s) (p := p) (a := a) (b := b) (A := some ⟨b87, 0, none⟩) (n := n) (cp := n) (x := x) (y := y) (t := t) (by first | assumption | omega) (by first | assumption | omega) ha hb ((st.rdA (i := 0) (n := (n * 2)) rfl (all_sub (recV_len (s := 2) (hanV_row _ _) _))).sl) hx hy (by first | assumption | omega) (by first | assumption | omega) (by first | assumption | omega)) rfl rfl ?_
          clear st
          intro b89 c89 sp89 w23 hc89 hs89 st
          replace st : St [] w w23 [(b89, arrU .i64 (flN (seQ a b x y ((t).toNat)) 10) (fun j => (fun z => z) (flA (seQ a b x y ((t).toNat)) 10 j)) ++ sp89, 2), (b87, hanV n x y, 51), (b39, arrU .i64 (flN (seQ a b x y ((t).toNat)) 10) (fun j => 1 + j) ++ sp39, 2), (b33, hanV n x__14 y__15 ++ [], 51), (b53, hanV n x y, 51), (b29, arrU .i64 (flN (seQ a b x y ((t).toNat)) 10) (fun j => (fun z => z) (flA (seQ a b x y ((t).toNat)) 10 j)) ++ sp29, 2), (b27, hanV n x y, 51), (b3, schV (s) (p) (a) (b), 31)] := st
          refine Wl.pure (PR.moveV (.tuple #[.slice (some ⟨b89, 0, none⟩) ((flN (seQ a b x y ((t).toNat)) 10)) (c89), .int .i64 (0)]) rfl) ?_
          refine Wl.pure (PR.extr (i := 0) (vs := [.slice (some ⟨b89, 0, none⟩) ((flN (seQ a b x y ((t).toNat)) 10)) (c89), .int .i64 (0)]) rfl rfl) ?_
          refine Wl.pure (PR.extr (i := 1) (vs := [.slice (some ⟨b89, 0, none⟩) ((flN (seQ a b x y ((t).toNat)) 10)) (c89), .int .i64 (0)]) rfl rfl) ?_
          refine Wl.pure (PR.assL rfl) ?_
          refine Wl.pure (PR.assI rfl) ?_
          refine Wl.nil ?_
          refine tn ?_
          refine Wc.seq ?_
          refine Wc.seq ?_
          refine Wc.region rfl ?_
          refine Wl.pure (PR.moveL rfl) ?_
          refine Wl.pure (PR.moveL rfl) ?_
          refine Wl.callV (c_laws_eqInt64S (A := some ⟨b89, 0, none⟩) (n := (flN (seQ a b x y ((t).toNat)) 10)) (cp := c89) (c := (fun j => (fun z => z) (flA (seQ a b x y ((t).toNat)) 10 j))) (B := some ⟨b29, 0, none⟩) (cq := c29) ((st.rdA (i := 0) (n := (flN (seQ a b x y ((t).toNat)) 10)) rfl (app_all (arrU_len _))).sl) ((st.rdA (i := 5) (n := (flN (seQ a b x y ((t).toNat)) 10)) rfl (app_all (arrU_len _))).sl) (by first | assumption | omega)) rfl ?_
          intro w24 hbel
          replace st := st.call hbel
          clear hbel
          refine Wl.pure (PR.not_ rfl) ?_
          refine Wl.pure (PR.moveB rfl) ?_
          refine Wl.on rfl rfl ?_
          refine Wl.pure (PR.moveI rfl) ?_
          refine Wl.on rfl rfl ?_
          refine Wl.pure (PR.moveI rfl) ?_
          refine Wl.on rfl rfl ?_
          refine Wl.pure (PR.neqS (a := 0) rfl rfl) ?_
          refine Wl.pure (PR.pickFB rfl rfl) ?_
          refine Wl.nil ?_
          refine tn ?_
          refine Wc.condF rfl ?_
          refine Wc.skip ?_
          refine tn ?_
          refine Wc.seq ?_
          refine Wc.region rfl ?_
          refine Wl.pure (PR.assI rfl) ?_
          refine Wl.nil ?_
          refine tn ?_
          refine Wc.seq ?_
          refine Wc.region rfl ?_
          refine Wl.pure (PR.moveL rfl) ?_
          refine Wl.pure (PR.moveI rfl) ?_
          refine Wl.callV (c_laws_heldInt64S (A := some ⟨b39, 0, none⟩) (n := (flN (seQ a b x y ((t).toNat)) 10)) (cp := c39) (c := (fun j => 1 + j)) (z := 1) ((st.rdA (i := 2) (n := (flN (seQ a b x y ((t).toNat)) 10)) rfl (app_all (arrU_len _))).sl) (by first | assumption | omega) (fun u hu => by first | rfl | omega)) rfl ?_
          intro w25 hbel
          replace st := st.call hbel
          clear hbel
          refine Wl.pure (PR.assI rfl) ?_
          refine Wl.nil ?_
          refine tn ?_
          refine Wc.seq ?_
          refine Wc.seq ?_
          refine Wc.region rfl ?_
          refine Wl.pure (PR.moveI rfl) ?_
          refine Wl.pure (PR.lss (a := (((1 + (flN (seQ a b x y ((t).toNat)) 10)) : Nat) : Int)) (b := 0) rfl rfl) ?_
          refine Wl.nil ?_
          refine tn ?_
          refine Wc.condD (p := (((1 + (flN (seQ a b x y ((t).toNat)) 10)) : Nat) : Int) < 0) rfl (fun h26 => ?_) (fun h26 => ?_)
          · refine Wc.seq ?_
            refine Wc.region rfl ?_
            refine Wl.pure (PR.assB rfl) ?_
            refine Wl.nil ?_
            refine tn ?_
            refine Wc.ret ?_
            refine tr ?_
            refine postL.tmp rfl rfl ?_
            refine RetV.of ?_ st.below
            refine congrArg Value.bool ?_
            first | rfl | (exfalso; omega) | (simp only [*, decide_true, decide_false, Bool.not_true, Bool.not_false]; done) | (simp; omega) | (rw [Bool.eq_iff_iff]; simp; omega) | simp_all
          · refine Wc.skip ?_
            refine tn ?_
            refine Wc.seq ?_
            refine Wc.seq ?_
            refine Wc.region rfl ?_
            refine Wl.pure (PR.moveI rfl) ?_
            refine Wl.pure (PR.moveI rfl) ?_
            refine Wl.pure (PR.neqS (a := (((1 + (flN (seQ a b x y ((t).toNat)) 10)) : Nat) : Int)) rfl rfl) ?_
            refine Wl.nil ?_
            refine tn ?_
            refine Wc.condF rfl ?_
            refine Wc.skip ?_
            refine tn ?_
            refine Wc.seq ?_
            refine Wc.region rfl ?_
            refine Wl.pure (PR.assB rfl) ?_
            refine Wl.nil ?_
            refine tn ?_
            refine Wc.ret ?_
            refine postL.tmp rfl rfl ?_
            exact RetV.of rfl st.below
      · refine Wl.off rfl rfl rfl ?_
        refine Wl.off rfl rfl rfl ?_
        refine Wl.off rfl rfl rfl ?_
        refine Wl.pure (PR.pickTB rfl rfl) ?_
        refine Wl.pure (PR.moveB rfl) ?_
        refine Wl.off rfl rfl rfl ?_
        refine Wl.off rfl rfl rfl ?_
        refine Wl.off rfl rfl rfl ?_
        refine Wl.pure (PR.pickTB rfl rfl) ?_
        refine Wl.nil ?_
        refine tn ?_
        refine Wc.condT rfl ?_
        refine Wc.seq ?_
        refine Wc.region rfl ?_
        refine Wl.pure (PR.assB rfl) ?_
        refine Wl.nil ?_
        refine tn ?_
        refine Wc.ret ?_
        refine tr ?_
        refine postL.tmp rfl rfl ?_
        refine RetV.of ?_ st.below
        refine congrArg Value.bool ?_
        first | rfl | (exfalso; omega) | (simp only [*, decide_true, decide_false, Bool.not_true, Bool.not_false]; done) | (simp; omega) | (rw [Bool.eq_iff_iff]; simp; omega) | simp_all
    · obtain ⟨hn1, hz1⟩ := szL_ok (n := n) (z := 1048576) (by omega)
      have hfl := flN_le (seQ a b x y t.toNat) 10
      refine Wc.region rfl ?_
      refine Wl.loadA (i := 0) st tA_31 rfl rfl (all_sub schV_len) schV_len ?_
      refine Wl.callV (c_laws_toScheme (s := s) (p := p) (a := a) (b := b) ha hb) rfl ?_
      intro w27 hbel
      replace st := st.call hbel
      clear hbel
      refine Wl.pure (PR.moveL rfl) ?_
      refine Wl.callS st (c_laws_toHandingS (A := A) (n := n) (cp := cp) (x := x) (y := y) (hR.st st) (by first | assumption | omega)) rfl ?_
      clear st
      intro b27 w28 st
      refine Wl.pure (PR.moveI rfl) ?_
      refine Wl.callXG [] st (c_spec_SeersAfter_f (s := s) (p := p) (a := a) (b := b) (A := some ⟨b27, 0, none⟩) (n := n) (cp := n) (x := x) (y := y) (t := t) (by first | assumption | omega) (by first | assumption | omega) ha hb ((st.rdA (i := 0) (n := (n * 2)) rfl (all_sub (recV_len (s := 2) (hanV_row _ _) _))).sl) hx hy (by first | assumption | omega) (by first | assumption | omega) (by first | assumption | omega)) rfl rfl ?_
      clear st
      intro b29_30 c29_30 sp29_30 w29 hc29_30 hs29_30 st
      replace st : St [] w w29 [(b29_30, arrU .i64 0 (fun _ => 0) ++ sp29_30, 2), (b27, hanV n x y, 51), (b3, schV (s) (p) (a) (b), 31)] := st
      refine Wl.pure (PR.moveV (.tuple #[.slice (some ⟨b29_30, 0, none⟩) (0) (c29_30), .int .i64 (((givC s p a b n x y t true : Nat) : Int))]) rfl) ?_
      refine Wl.pure (PR.extr (i := 0) (vs := [.slice (some ⟨b29_30, 0, none⟩) (0) (c29_30), .int .i64 (((givC s p a b n x y t true : Nat) : Int))]) rfl rfl) ?_
      refine Wl.pure (PR.extr (i := 1) (vs := [.slice (some ⟨b29_30, 0, none⟩) (0) (c29_30), .int .i64 (((givC s p a b n x y t true : Nat) : Int))]) rfl rfl) ?_
      refine Wl.pure (PR.assL rfl) ?_
      refine Wl.pure (PR.assI rfl) ?_
      refine Wl.nil ?_
      refine tn ?_
      refine Wc.seq ?_
      refine Wc.region rfl ?_
      refine Wl.pure (PR.moveL rfl) ?_
      refine Wl.callS st (c_laws_toHandingS (A := A) (n := n) (cp := cp) (x := x) (y := y) (hR.st st) (by first | assumption | omega)) rfl ?_
      clear st
      intro b33 w31 st
      refine Wl.pure (PR.assL rfl) ?_
      refine Wl.nil ?_
      refine tn ?_
      refine Wc.seq ?_
      refine Wc.region rfl ?_
      refine Wl.loadA (i := 3) st tA_31 rfl rfl (all_sub schV_len) schV_len ?_
      refine Wl.callV (c_laws_toScheme (s := s) (p := p) (a := a) (b := b) ha hb) rfl ?_
      intro w32 hbel
      replace st := st.call hbel
      clear hbel
      refine Wl.pure (PR.moveL rfl) ?_
      refine Wl.pure (PR.moveI rfl) ?_
      refine Wl.callV (c_impl_SeersAfter_f (s := s) (p := p) (a := a) (b := b) (A := some ⟨b33, 0, none⟩) (n := n) (cp := n) (x := x) (y := y) (t := t) (by first | assumption | omega) (by first | assumption | omega) ha hb ((st.rdA (i := 0) (n := (n * 2)) rfl (all_sub (recV_len (s := 2) (hanV_row _ _) _))).sl) hx hy (by first | assumption | omega) (by first | assumption | omega) (by first | assumption | omega)) rfl ?_
      intro w33 hbel
      replace st := st.call hbel
      clear hbel
      refine Wl.pure (PR.moveV (.tuple #[.slice (none) (0) (0), .int .i64 (((givC s p a b n x y t true : Nat) : Int))]) rfl) ?_
      refine Wl.pure (PR.extr (i := 0) (vs := [.slice (none) (0) (0), .int .i64 (((givC s p a b n x y t true : Nat) : Int))]) rfl rfl) ?_
      refine Wl.pure (PR.extr (i := 1) (vs := [.slice (none) (0) (0), .int .i64 (((givC s p a b n x y t true : Nat) : Int))]) rfl rfl) ?_
      refine Wl.pure (PR.assL rfl) ?_
      refine Wl.pure (PR.assI rfl) ?_
      refine Wl.nil ?_
      refine tn ?_
      refine Wc.seq ?_
      refine Wc.seq ?_
      refine Wc.region rfl ?_
      refine Wl.pure (PR.moveL rfl) ?_
      refine Wl.pure (PR.moveL rfl) ?_
      refine Wl.callV (c_laws_eqInt64S (A := none) (n := 0) (cp := 0) (c := (fun _ => 0)) (B := some ⟨b29_30, 0, none⟩) (cq := c29_30) (fun h => absurd h (by decide)) ((st.rdA (i := 1) (n := 0) rfl (app_all (arrU_len _))).sl) (by first | assumption | omega)) rfl ?_
      intro w34 hbel
      replace st := st.call hbel
      clear hbel
      refine Wl.pure (PR.not_ rfl) ?_
      refine Wl.pure (PR.moveB rfl) ?_
      refine Wl.on rfl rfl ?_
      refine Wl.pure (PR.moveI rfl) ?_
      refine Wl.on rfl rfl ?_
      refine Wl.pure (PR.moveI rfl) ?_
      refine Wl.on rfl rfl ?_
      refine Wl.pure (PR.neqS (a := ((givC s p a b n x y t true : Nat) : Int)) rfl rfl) ?_
      refine Wl.pure (PR.pickFB rfl rfl) ?_
      refine Wl.nil ?_
      refine tn ?_
      refine Wc.condF rfl ?_
      refine Wc.skip ?_
      refine tn ?_
      refine Wc.seq ?_
      refine Wc.seq ?_
      refine Wc.region rfl ?_
      refine Wl.pure (PR.moveL rfl) ?_
      refine Wl.pure (PR.moveL rfl) ?_
      refine Wl.callS st (c_laws_toHandingS (A := A) (n := n) (cp := cp) (x := x) (y := y) (hR.st st) (by first | assumption | omega)) rfl ?_
      clear st
      intro b53 w35 st
      refine Wl.callV (c_laws_eqHandingS (A := some ⟨b33, 0, none⟩) (n := n) (cp := n) (x := x) (y := y) (B := some ⟨b53, 0, none⟩) (cq := n) ((st.rdA (i := 1) (n := (n * 2)) rfl (all_sub (recV_len (s := 2) (hanV_row _ _) _))).sl) ((st.rdA (i := 0) (n := (n * 2)) rfl (all_sub (recV_len (s := 2) (hanV_row _ _) _))).sl) (by first | assumption | omega)) rfl ?_
      intro w36 hbel
      replace st := st.call hbel
      clear hbel
      refine Wl.pure (PR.not_ rfl) ?_
      refine Wl.nil ?_
      refine tn ?_
      refine Wc.condF rfl ?_
      refine Wc.skip ?_
      refine tn ?_
      refine Wc.seq ?_
      refine Wc.region rfl ?_
      refine Wl.pure (PR.assI rfl) ?_
      refine Wl.nil ?_
      refine tn ?_
      refine Wc.seq ?_
      refine Wc.region rfl ?_
      refine Wl.pure (PR.moveL rfl) ?_
      refine Wl.pure (PR.moveI rfl) ?_
      replace st : St [] w w36 [(b53, hanV n x y, 51), (b33, hanV n x y ++ [], 51), (b29_30, arrU .i64 0 (fun _ => 0) ++ sp29_30, 2), (b27, hanV n x y, 51), (b3, schV (s) (p) (a) (b), 31)] := st.nilat (i := 1) rfl
      refine Wl.callXE [1] st (c_laws_markHandingS (ba := b33) (n := n) (cp := n) (x := x) (y := y) (sp := []) (z := 1) (by first | assumption | omega) (by first | assumption | omega) (st.lend (L' := [(b33, hanV n x y ++ [], 51)]) [1] (by decide) rfl)) rfl rfl ?_
      clear st
      rintro ⟨x__38, y__39⟩ _ w37 st
      try dsimp only at st 
      replace st : St [] w w37 [(b33, hanV n x__38 y__39 ++ [], 51), (b53, hanV n x y, 51), (b29_30, arrU .i64 0 (fun _ => 0) ++ sp29_30, 2), (b27, hanV n x y, 51), (b3, schV (s) (p) (a) (b), 31)] := st
      refine Wl.pure (PR.assI rfl) ?_
      refine Wl.nil ?_
      refine tn ?_
      refine Wc.seq ?_
      refine Wc.seq ?_
      refine Wc.region rfl ?_
      refine Wl.pure (PR.moveI rfl) ?_
      refine Wl.pure (PR.lss (a := (((1 + 2 * n) : Nat) : Int)) (b := 0) rfl rfl) ?_
      refine Wl.pure (PR.moveB rfl) ?_
      refine Wl.splitF (q := (((1 + 2 * n) : Nat) : Int) < 0) rfl rfl (fun h40 => ?_) (fun h40 => ?_)
      · refine Wl.pure (PR.moveL rfl) ?_
        refine Wl.on rfl rfl ?_
        refine Wl.pure (PR.moveL rfl) ?_
        refine Wl.on rfl rfl ?_
        refine Wl.callV (c_laws_eqInt64S (A := none) (n := 0) (cp := 0) (c := (fun _ => 0)) (B := some ⟨b29_30, 0, none⟩) (cq := c29_30) (fun h => absurd h (by decide)) ((st.rdA (i := 2) (n := 0) rfl (app_all (arrU_len _))).sl) (by first | assumption | omega)) rfl ?_
        intro w41 hbel
        replace st := st.call hbel
        clear hbel
        refine Wl.on rfl rfl ?_
        refine Wl.pure (PR.not_ rfl) ?_
        refine Wl.pure (PR.pickFB rfl rfl) ?_
        refine Wl.pure (PR.moveB rfl) ?_
        refine Wl.on rfl rfl ?_
        refine Wl.pure (PR.moveI rfl) ?_
        refine Wl.on rfl rfl ?_
        refine Wl.pure (PR.moveI rfl) ?_
        refine Wl.on rfl rfl ?_
        refine Wl.pure (PR.neqS (a := ((givC s p a b n x y t true : Nat) : Int)) rfl rfl) ?_
        refine Wl.pure (PR.pickFB rfl rfl) ?_
        refine Wl.nil ?_
        refine tn ?_
        refine Wc.condF rfl ?_
        refine Wc.skip ?_
        refine tn ?_
        refine Wc.seq ?_
        refine Wc.region rfl ?_
        refine Wl.pure (PR.assI rfl) ?_
        refine Wl.nil ?_
        refine tn ?_
        refine Wc.seq ?_
        refine Wc.region rfl ?_
        refine Wl.pure (PR.moveL rfl) ?_
        refine Wl.pure (PR.moveI rfl) ?_
        refine Wl.callV (c_markInt64S0 (A := none) (cp := 0) (z := 1)) rfl ?_
        intro w42 hbel
        replace st := st.call hbel
        clear hbel
        refine Wl.pure (PR.assI rfl) ?_
        refine Wl.nil ?_
        refine tn ?_
        refine Wc.seq ?_
        refine Wc.region rfl ?_
        refine Wl.pure (PR.assI rfl) ?_
        refine Wl.nil ?_
        refine tn ?_
        refine Wc.seq ?_
        refine Wc.region rfl ?_
        refine Wl.pure (PR.moveL rfl) ?_
        refine Wl.pure (PR.moveI rfl) ?_
        refine Wl.callV (c_laws_heldInt64S (A := none) (n := 0) (cp := 0) (c := (fun _ => 0)) (z := 1) (fun h => absurd h (by decide)) (by first | assumption | omega) (fun u hu => by first | rfl | omega)) rfl ?_
        intro w43 hbel
        replace st := st.call hbel
        clear hbel
        refine Wl.pure (PR.assI rfl) ?_
        refine Wl.nil ?_
        refine tn ?_
        refine Wc.seq ?_
        refine Wc.seq ?_
        refine Wc.region rfl ?_
        refine Wl.pure (PR.moveI rfl) ?_
        refine Wl.pure (PR.lss (a := (((1 + 0) : Nat) : Int)) (b := 0) rfl rfl) ?_
        refine Wl.nil ?_
        refine tn ?_
        refine Wc.condD (p := (((1 + 0) : Nat) : Int) < 0) rfl (fun h44 => ?_) (fun h44 => ?_)
        · refine Wc.seq ?_
          refine Wc.region rfl ?_
          refine Wl.pure (PR.assB rfl) ?_
          refine Wl.nil ?_
          refine tn ?_
          refine Wc.ret ?_
          refine tr ?_
          refine postL.tmp rfl rfl ?_
          refine RetV.of ?_ st.below
          refine congrArg Value.bool ?_
          first | rfl | (exfalso; omega) | (simp only [*, decide_true, decide_false, Bool.not_true, Bool.not_false]; done) | (simp; omega) | (rw [Bool.eq_iff_iff]; simp; omega) | simp_all
        · refine Wc.skip ?_
          refine tn ?_
          refine Wc.seq ?_
          refine Wc.seq ?_
          refine Wc.region rfl ?_
          refine Wl.pure (PR.moveI rfl) ?_
          refine Wl.pure (PR.moveI rfl) ?_
          refine Wl.pure (PR.neq (a := (((1 + 0) : Nat) : Int)) (b := 1) rfl rfl) ?_
          refine Wl.nil ?_
          refine tn ?_
          refine Wc.condN (p := (((1 + 0) : Nat) : Int) = 1) rfl (fun h45 => ?_) (fun h45 => ?_)
          · refine Wc.seq ?_
            refine Wc.region rfl ?_
            refine Wl.pure (PR.assB rfl) ?_
            refine Wl.nil ?_
            refine tn ?_
            refine Wc.ret ?_
            refine tr ?_
            refine postL.tmp rfl rfl ?_
            refine RetV.of ?_ st.below
            refine congrArg Value.bool ?_
            first | rfl | (exfalso; omega) | (simp only [*, decide_true, decide_false, Bool.not_true, Bool.not_false]; done) | (simp; omega) | (rw [Bool.eq_iff_iff]; simp; omega) | simp_all
          · refine Wc.skip ?_
            refine tn ?_
            refine Wc.seq ?_
            refine Wc.region rfl ?_
            refine Wl.loadA (i := 4) st tA_31 rfl rfl (all_sub schV_len) schV_len ?_
            refine Wl.callV (c_laws_toScheme (s := s) (p := p) (a := a) (b := b) ha hb) rfl ?_
            intro w46 hbel
            replace st := st.call hbel
            clear hbel
            refine Wl.pure (PR.moveL rfl) ?_
            refine Wl.callS st (c_laws_toHandingS (A := A) (n := n) (cp := cp) (x := x) (y := y) (hR.st st) (by first | assumption | omega)) rfl ?_
            clear st
            intro b87 w47 st
            refine Wl.pure (PR.moveI rfl) ?_
            refine Wl.callV (c_impl_SeersAfter_f (s := s) (p := p) (a := a) (b := b) (A := some ⟨b87, 0, none⟩) (n := n) (cp := n) (x := x) (y := y) (t := t) (by first | assumption | omega) (by first | assumption | omega) ha hb ((st.rdA (i := 0) (n := (n * 2)) rfl (all_sub (recV_len (s := 2) (hanV_row _ _) _))).sl) hx hy (by first | assumption | omega) (by first | assumption | omega) (by first | assumption | omega)) rfl ?_
            intro w48 hbel
            replace st := st.call hbel
            clear hbel
            refine Wl.pure (PR.moveV (.tuple #[.slice (none) (0) (0), .int .i64 (((givC s p a b n x y t true : Nat) : Int))]) rfl) ?_
            refine Wl.pure (PR.extr (i := 0) (vs := [.slice (none) (0) (0), .int .i64 (((givC s p a b n x y t true : Nat) : Int))]) rfl rfl) ?_
            refine Wl.pure (PR.extr (i := 1) (vs := [.slice (none) (0) (0), .int .i64 (((givC s p a b n x y t true : Nat) : Int))]) rfl rfl) ?_
            refine Wl.pure (PR.assL rfl) ?_
            refine Wl.pure (PR.assI rfl) ?_
            refine Wl.nil ?_
            refine tn ?_
            refine Wc.seq ?_
            refine Wc.seq ?_
            refine Wc.region rfl ?_
            refine Wl.pure (PR.moveL rfl) ?_
            refine Wl.pure (PR.moveL rfl) ?_
            refine Wl.callV (c_laws_eqInt64S (A := none) (n := 0) (cp := 0) (c := (fun _ => 0)) (B := some ⟨b29_30, 0, none⟩) (cq := c29_30) (fun h => absurd h (by decide)) ((st.rdA (i := 3) (n := 0) rfl (app_all (arrU_len _))).sl) (by first | assumption | omega)) rfl ?_
            intro w49 hbel
            replace st := st.call hbel
            clear hbel
            refine Wl.pure (PR.not_ rfl) ?_
            refine Wl.pure (PR.moveB rfl) ?_
            refine Wl.on rfl rfl ?_
            refine Wl.pure (PR.moveI rfl) ?_
            refine Wl.on rfl rfl ?_
            refine Wl.pure (PR.moveI rfl) ?_
            refine Wl.on rfl rfl ?_
            refine Wl.pure (PR.neqS (a := ((givC s p a b n x y t true : Nat) : Int)) rfl rfl) ?_
            refine Wl.pure (PR.pickFB rfl rfl) ?_
            refine Wl.nil ?_
            refine tn ?_
            refine Wc.condF rfl ?_
            refine Wc.skip ?_
            refine tn ?_
            refine Wc.seq ?_
            refine Wc.region rfl ?_
            refine Wl.pure (PR.assI rfl) ?_
            refine Wl.nil ?_
            refine tn ?_
            refine Wc.seq ?_
            refine Wc.region rfl ?_
            refine Wl.pure (PR.moveL rfl) ?_
            refine Wl.pure (PR.moveI rfl) ?_
            refine Wl.callV (c_laws_heldInt64S (A := none) (n := 0) (cp := 0) (c := (fun _ => 0)) (z := 1) (fun h => absurd h (by decide)) (by first | assumption | omega) (fun u hu => by first | rfl | omega)) rfl ?_
            intro w50 hbel
            replace st := st.call hbel
            clear hbel
            refine Wl.pure (PR.assI rfl) ?_
            refine Wl.nil ?_
            refine tn ?_
            refine Wc.seq ?_
            refine Wc.seq ?_
            refine Wc.region rfl ?_
            refine Wl.pure (PR.moveI rfl) ?_
            refine Wl.pure (PR.lss (a := (((1 + 0) : Nat) : Int)) (b := 0) rfl rfl) ?_
            refine Wl.nil ?_
            refine tn ?_
            refine Wc.condD (p := (((1 + 0) : Nat) : Int) < 0) rfl (fun h51 => ?_) (fun h51 => ?_)
            · refine Wc.seq ?_
              refine Wc.region rfl ?_
              refine Wl.pure (PR.assB rfl) ?_
              refine Wl.nil ?_
              refine tn ?_
              refine Wc.ret ?_
              refine tr ?_
              refine postL.tmp rfl rfl ?_
              refine RetV.of ?_ st.below
              refine congrArg Value.bool ?_
              first | rfl | (exfalso; omega) | (simp only [*, decide_true, decide_false, Bool.not_true, Bool.not_false]; done) | (simp; omega) | (rw [Bool.eq_iff_iff]; simp; omega) | simp_all
            · refine Wc.skip ?_
              refine tn ?_
              refine Wc.seq ?_
              refine Wc.seq ?_
              refine Wc.region rfl ?_
              refine Wl.pure (PR.moveI rfl) ?_
              refine Wl.pure (PR.moveI rfl) ?_
              refine Wl.pure (PR.neq (a := (((1 + 0) : Nat) : Int)) (b := 1) rfl rfl) ?_
              refine Wl.nil ?_
              refine tn ?_
              refine Wc.condN (p := (((1 + 0) : Nat) : Int) = 1) rfl (fun h52 => ?_) (fun h52 => ?_)
              · refine Wc.seq ?_
                refine Wc.region rfl ?_
                refine Wl.pure (PR.assB rfl) ?_
                refine Wl.nil ?_
                refine tn ?_
                refine Wc.ret ?_
                refine tr ?_
                refine postL.tmp rfl rfl ?_
                refine RetV.of ?_ st.below
                refine congrArg Value.bool ?_
                first | rfl | (exfalso; omega) | (simp only [*, decide_true, decide_false, Bool.not_true, Bool.not_false]; done) | (simp; omega) | (rw [Bool.eq_iff_iff]; simp; omega) | simp_all
              · refine Wc.skip ?_
                refine tn ?_
                refine Wc.seq ?_
                refine Wc.region rfl ?_
                refine Wl.pure (PR.assB rfl) ?_
                refine Wl.nil ?_
                refine tn ?_
                refine Wc.ret ?_
                refine postL.tmp rfl rfl ?_
                exact RetV.of rfl st.below
      · refine Wl.off rfl rfl rfl ?_
        refine Wl.off rfl rfl rfl ?_
        refine Wl.off rfl rfl rfl ?_
        refine Wl.pure (PR.pickTB rfl rfl) ?_
        refine Wl.pure (PR.moveB rfl) ?_
        refine Wl.off rfl rfl rfl ?_
        refine Wl.off rfl rfl rfl ?_
        refine Wl.off rfl rfl rfl ?_
        refine Wl.pure (PR.pickTB rfl rfl) ?_
        refine Wl.nil ?_
        refine tn ?_
        refine Wc.condT rfl ?_
        refine Wc.seq ?_
        refine Wc.region rfl ?_
        refine Wl.pure (PR.assB rfl) ?_
        refine Wl.nil ?_
        refine tn ?_
        refine Wc.ret ?_
        refine tr ?_
        refine postL.tmp rfl rfl ?_
        refine RetV.of ?_ st.below
        refine congrArg Value.bool ?_
        first | rfl | (exfalso; omega) | (simp only [*, decide_true, decide_false, Bool.not_true, Bool.not_false]; done) | (simp; omega) | (rw [Bool.eq_iff_iff]; simp; omega) | simp_all

end Go.Proofs.Ytgcgfcfkbeomdaa
