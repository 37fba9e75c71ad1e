/-
  Contracts of functions, printed by a program of ours.
-/
import Derived.Test.YtgcgfcfkbeomdaaCH3
namespace Go.Proofs.Ytgcgfcfkbeomdaa
open Go.RowKit
set_option linter.unusedVariables false
set_option linter.unusedSimpArgs false

set_option maxHeartbeats 400000 in
set_option maxRecDepth 4000 in
theorem c_impl_FirstSight {s : Int} {p : Int} {a : Nat → Nat} {b : Nat → Nat} {A : Option Addr} {n : Nat} {cp : Nat} {x : Nat → Int} {y : Nat → Int} {w : World} (hs : -128 ≤ s ∧ s ≤ 127) (hp : -128 ≤ p ∧ p ≤ 127) (ha : ∀ k, a k < 256) (hb : ∀ k, b k < 256) (hR : RdS w A n (hanV n x y)) (hx : ∀ i, i < n → -128 ≤ x i ∧ x i ≤ 127) (hy : ∀ i, i < n → -128 ≤ y i ∧ y i ≤ 127) (hn : n ≤ 1048576) (hcp : n ≤ cp) :
    CE Try.prog 28 [.agg (schV (s) (p) (a) (b)).toArray, .slice (A) (n) (cp)] w (RetV w (.tuple #[.int .i64 ((((fsT s p a b n x y).1 : Nat) : Int)), .int .i64 ((((fsT s p a b n x y).2.1 : Nat) : Int)), .int .i64 ((((fsT s p a b n x y).2.2 : Nat) : Int))])) := by
  refine CE.enter 32 [(0, .agg (schV (s) (p) (a) (b)).toArray), (1, .slice (A) (n) (cp))] en_28 Try.func28 rfl rfl (Nat.le_of_ble_eq_true rfl) rfl ?_
  have st := St.start w
  refine Wc.seq ?_
  refine Wc.region rfl ?_
  refine Wl.boxA st rfl ?_
  clear st
  intro b2 w1 st
  refine Wl.pure (PR.assI rfl) ?_
  refine Wl.pure (PR.assI rfl) ?_
  refine Wl.pure (PR.assI rfl) ?_
  refine Wl.nil ?_
  refine tn ?_
  refine Wc.seq ?_
  refine Wc.seq ?_
  refine Wc.region rfl ?_
  refine Wl.loadA (i := 0) st tA_33 rfl rfl (all_sub schV_len) schV_len ?_
  refine Wl.pure (PR.moveL rfl) ?_
  refine Wl.callV (c_impl_ValidHandings (s := s) (p := p) (a := a) (b := b) (A := A) (n := n) (cp := cp) (x := x) (y := y) (by first | assumption | omega) (by first | assumption | omega) ha hb (hR.st st) hx hy (by first | assumption | omega)) rfl ?_
  intro w2 hbel
  replace st := st.call hbel
  clear hbel
  refine Wl.pure (PR.not_ rfl) ?_
  refine Wl.nil ?_
  refine tn ?_
  refine Wc.condNB (b := hvOk s p a b n x y) rfl (fun h3 => ?_) (fun h3 => ?_)
  · refine Wc.seq ?_
    refine Wc.region rfl ?_
    refine Wl.pure (PR.assI rfl) ?_
    refine Wl.pure (PR.assI rfl) ?_
    refine Wl.pure (PR.assI rfl) ?_
    refine Wl.nil ?_
    refine tn ?_
    refine Wc.ret ?_
    refine tr ?_
    refine postL.many (rvs := [.tmp 4, .tmp 5, .tmp 6]) rfl (.tmp (v := .int .i64 (0)) rfl (.tmp (v := .int .i64 (0)) rfl (.tmp (v := .int .i64 (1)) rfl .nil))) ?_
    refine RetV.of ?_ st.below
    refine fs_tup (fs_i (by first | assumption | exact giv1_v (t := 0) (by omega) (by omega))) ?_ ?_ ?_ <;> first | rfl | omega
  · refine Wc.skip ?_
    refine tn ?_
    refine Wc.seq ?_
    refine Wc.seq ?_
    have hvo : hvOk s p a b n x y = true := by assumption
    have hok := (hvOk_spec hvo).1
    have hn60 := (hanOk_spec (hvOk_spec hvo).2).1
    have hx0 : ∀ i, i < n → 0 ≤ x i := fun i hi => ((hanOk_spec (hvOk_spec hvo).2).2 i hi).1.1
    refine Wc.region rfl ?_
    refine Wl.pure (PR.moveL rfl) ?_
    refine Wl.pure (PR.lenL tS_25 rfl) ?_
    refine Wl.pure (PR.moveI rfl) ?_
    refine Wl.nil ?_
    refine tn ?_
    refine Wc.block ?_
    refine Wc.loopF (γ := Nat) (fun g => [(1, .slice (A) (n) (cp)), (2, .pointer (some ⟨b2, 0, none⟩)), (14, .int .i64 (((n : Nat) : Int))), (15, .int .i64 (((g : Nat) : Int)))]) (fun g w_ => St [] w w_ [(b2, schV (s) (p) (a) (b), 33)] ∧ (g ≤ n) ∧ (fsT s p a b n x y = fsF a b x y (n - g) g)) (fun g => n - g) ?_ ?_
    · exact ⟨0, (.cons rfl (.cons rfl (.cons rfl (.cons rfl (.nil _))))), st, (by first | omega | (dsimp only; omega)), (fs_o hvo)⟩
    clear st
    rintro k w4 ⟨st, hk, hg⟩
    try dsimp only at st hk hg ⊢
    refine Wc.seq ?_
    refine Wc.region rfl ?_
    refine Wl.pure (PR.lss (a := ((k : Nat) : Int)) (b := ((n : Nat) : Int)) rfl rfl) ?_
    refine Wl.nil ?_
    refine tn ?_
    refine Wc.seq ?_
    refine Wc.condD (p := ((k : Nat) : Int) < ((n : Nat) : Int)) rfl (fun h5 => ?_) (fun h5 => ?_)
    · refine Wc.skip ?_
      refine tn ?_
      refine Wc.seq ?_
      refine Wc.block ?_
      refine Wc.seq ?_
      refine Wc.region rfl ?_
      refine Wl.pure (PR.moveI rfl) ?_
      refine Wl.pure (PR.assI rfl) ?_
      refine Wl.nil ?_
      refine tn ?_
      refine Wc.seq ?_
      refine Wc.tree1 (w0 := w) (X := []) (Ks := []) (S := fun i => i == 5) (.st 1 0 (.st 2 0 (.st 3 0 (.st 4 0 (.st 0 1 (.st 5 2 (.st 6 0 PT.nil))))))) hmix (by kernel_rfl) (by kernel_rfl) rfl rfl ?_
      intro w6 hbel
      replace st := st.call hbel
      clear hbel
      refine WT.pure rfl (PR.moveL rfl) ?_
      refine WT.pure rfl (PR.moveI rfl) ?_
      refine WT.pure rfl (PR.add (a := ((k : Nat) : Int)) (b := 1) rfl rfl (by simp only [fitI]; omega)) ?_
      refine WT.pure rfl (PR.sliceTo (h := (k + 1)) tS_25 rfl rfl (by omega)) ?_
      refine WT.loadA1 (j := 0) rfl st tA_33 rfl rfl (all_sub schV_len) schV_len ?_
      have st0 := st
      refine WT.s rfl rfl ?_
      refine Wl.callXG [] st (c_impl_Scheme_seers (s := s) (p := p) (a := a) (b := b) (A := A) (n := n) (t := (k + 1)) (cp := cp) (x := x) (y := y) (by first | assumption | omega) (by first | assumption | omega) ha hb ((RdS.pre (m := (k + 1)) hR (by omega)).st st) hx hy (by first | assumption | omega) (by first | assumption | omega) (fun i hi => hx0 i (by omega))) rfl rfl ?_
      clear st
      intro b23 c23 sp23 w7 hc23 hs23 st
      replace st : St [] w w7 [(b23, arrU .i64 (flN (seQ a b x y (k + 1)) 10) (fun j => (fun z => z) (flA (seQ a b x y (k + 1)) 10 j)) ++ sp23, 2), (b2, schV (s) (p) (a) (b), 33)] := st
      refine Wl.nil ⟨rfl, RK.of st0 st ksN, ?_⟩
      clear st0
      refine WT.pure rfl (PR.assL rfl) ?_
      refine WT.nil ?_
      refine tn ?_
      refine Wc.seq ?_
      refine Wc.region rfl ?_
      refine Wl.pure (PR.moveL rfl) ?_
      refine Wl.pure (PR.lenL tS_41 rfl) ?_
      refine Wl.pure (PR.gtr (a := (((flN (seQ a b x y (k + 1)) 10) : Nat) : Int)) (b := 0) rfl rfl) ?_
      refine Wl.nil ?_
      refine tn ?_
      refine Wc.condD (p := 0 < (((flN (seQ a b x y (k + 1)) 10) : Nat) : Int)) rfl (fun h8 => ?_) (fun h8 => ?_)
      · refine Wc.seq ?_
        refine Wc.quiet hmix (by kernel_rfl) rfl ?_
        refine Wq.pure (PR.moveI rfl) ?_
        refine Wq.pure (PR.moveL rfl) ?_
        refine Wq.pure (PR.idxAddrS1 (i := 0) tS_41 rfl rfl (by omega)) ?_
        refine Wq.load (i := 0) st tA_2 rfl rfl (app_get (arrU_get0 (by omega))) ?_
        refine Wq.pure (PR.assI rfl) ?_
        refine Wq.pure (PR.assI rfl) ?_
        refine Wq.pure (PR.assI rfl) ?_
        refine Wq.nil (fun w9 hbel => ?_)
        replace st := st.call hbel
        clear hbel
        refine tn ?_
        refine Wc.ret ?_
        refine br ?_
        refine tr ?_
        refine tr ?_
        refine br ?_
        refine tr ?_
        refine postL.many (rvs := [.tmp 4, .tmp 5, .tmp 6]) rfl (.tmp (v := .int .i64 (((k : Nat) : Int))) rfl (.tmp (v := .int .i64 ((((fun j => (fun z => z) (flA (seQ a b x y (k + 1)) 10 j)) (0) : Nat) : Int))) rfl (.tmp (v := .int .i64 (0)) rfl .nil))) ?_
        refine RetV.of ?_ st.below
        refine fs_tup (fs_t (by omega) hg (by omega)) ?_ ?_ ?_ <;> first | rfl | omega
      · refine Wc.skip ?_
        refine bn ?_
        refine tn ?_
        refine Wc.region rfl ?_
        refine Wl.pure (PR.add (a := ((k : Nat) : Int)) (b := 1) rfl rfl (by simp only [fitI]; omega)) ?_
        refine Wl.pure (PR.moveI rfl) ?_
        refine Wl.nil ?_
        refine tn ?_
        replace st := st.tail
        exact ⟨k + 1, (.cons rfl (.cons rfl (.cons rfl (.cons rfl (.nil _))))), ⟨st, (by first | omega | (dsimp only; omega)), (fs_f (by omega) hg (by omega))⟩, (by first | omega | (dsimp only; omega))⟩
    · refine Wc.exit ?_
      refine tx ?_
      refine tx ?_
      refine bh ?_
      refine tn ?_
      refine Wc.seq ?_
      refine Wc.region rfl ?_
      refine Wl.pure (PR.assI rfl) ?_
      refine Wl.pure (PR.assI rfl) ?_
      refine Wl.pure (PR.assI rfl) ?_
      refine Wl.nil ?_
      refine tn ?_
      refine Wc.ret ?_
      refine postL.many (rvs := [.tmp 4, .tmp 5, .tmp 6]) rfl (.tmp (v := .int .i64 (0)) rfl (.tmp (v := .int .i64 (0)) rfl (.tmp (v := .int .i64 (6)) rfl .nil))) ?_
      refine RetV.of ?_ st.below
      refine fs_tup (fs_e (by omega) hg) ?_ ?_ ?_ <;> first | rfl | omega

set_option maxHeartbeats 400000 in
set_option maxRecDepth 4000 in
theorem c_spec_FirstSight {s : Int} {p : Int} {a : Nat → Nat} {b : Nat → Nat} {A : Option Addr} {n : Nat} {cp : Nat} {x : Nat → Int} {y : Nat → Int} {w : World} (hs : -128 ≤ s ∧ s ≤ 127) (hp : -128 ≤ p ∧ p ≤ 127) (ha : ∀ k, a k < 256) (hb : ∀ k, b k < 256) (hR : RdS w A n (hanV n x y)) (hx : ∀ i, i < n → -128 ≤ x i ∧ x i ≤ 127) (hy : ∀ i, i < n → -128 ≤ y i ∧ y i ≤ 127) (hn : n ≤ 1048576) (hcp : n ≤ cp) :
    CE Try.prog 27 [.agg (schV (s) (p) (a) (b)).toArray, .slice (A) (n) (cp)] w (RetV w (.tuple #[.int .i64 ((((fsT s p a b n x y).1 : Nat) : Int)), .int .i64 ((((fsT s p a b n x y).2.1 : Nat) : Int)), .int .i64 ((((fsT s p a b n x y).2.2 : Nat) : Int))])) := by
  refine CE.enter 33 [(0, .agg (schV (s) (p) (a) (b)).toArray), (1, .slice (A) (n) (cp))] en_27 Try.func27 rfl rfl (Nat.le_of_ble_eq_true rfl) rfl ?_
  have st := St.start w
  refine Wc.seq ?_
  refine Wc.region rfl ?_
  refine Wl.boxA st rfl ?_
  clear st
  intro b2 w1 st
  refine Wl.pure (PR.assI rfl) ?_
  refine Wl.pure (PR.assI rfl) ?_
  refine Wl.pure (PR.assI rfl) ?_
  refine Wl.nil ?_
  refine tn ?_
  refine Wc.seq ?_
  refine Wc.seq ?_
  refine Wc.region rfl ?_
  refine Wl.loadA (i := 0) st tA_33 rfl rfl (all_sub schV_len) schV_len ?_
  refine Wl.pure (PR.moveL rfl) ?_
  refine Wl.callV (c_spec_l07Given (s := s) (p := p) (a := a) (b := b) (A := A) (n := n) (cp := cp) (x := x) (y := y) (t := 0) (ok := true) (by first | assumption | omega) (by first | assumption | omega) ha hb (hR.st st) hx hy (by first | assumption | omega)) rfl ?_
  intro w2 hbel
  replace st := st.call hbel
  clear hbel
  refine Wl.pure (PR.assI rfl) ?_
  refine Wl.nil ?_
  refine tn ?_
  refine Wc.seq ?_
  refine Wc.region rfl ?_
  refine Wl.pure (PR.moveI rfl) ?_
  refine Wl.pure (PR.neq (a := ((givC s p a b n x y 0 true : Nat) : Int)) (b := 0) rfl rfl) ?_
  refine Wl.nil ?_
  refine tn ?_
  refine Wc.condN (p := ((givC s p a b n x y 0 true : Nat) : Int) = 0) rfl (fun h3 => ?_) (fun h3 => ?_)
  · refine Wc.seq ?_
    refine Wc.region rfl ?_
    refine Wl.pure (PR.moveI rfl) ?_
    refine Wl.pure (PR.assI rfl) ?_
    refine Wl.pure (PR.assI rfl) ?_
    refine Wl.pure (PR.assI rfl) ?_
    refine Wl.nil ?_
    refine tn ?_
    refine Wc.ret ?_
    refine tr ?_
    refine postL.many (rvs := [.tmp 4, .tmp 5, .tmp 6]) rfl (.tmp (v := .int .i64 (0)) rfl (.tmp (v := .int .i64 (0)) rfl (.tmp (v := .int .i64 (((givC s p a b n x y 0 true : Nat) : Int))) rfl .nil))) ?_
    refine RetV.of ?_ st.below
    have hg1 := giv1_e (s := s) (p := p) (a := a) (b := b) (n := n) (x := x) (y := y) (t := 0) (by omega) (by omega)
    refine fs_tup (fs_i (by first | assumption | exact giv1_v (t := 0) (by omega) (by omega))) ?_ ?_ ?_ <;> first | rfl | omega
  · refine Wc.skip ?_
    refine tn ?_
    refine Wc.seq ?_
    refine Wc.seq ?_
    obtain ⟨hvo, _⟩ := givC_spec (s := s) (p := p) (a := a) (b := b) (n := n) (x := x) (y := y) (t := 0) (ok := true) (by omega)
    have hok := (hvOk_spec hvo).1
    have hn60 := (hanOk_spec (hvOk_spec hvo).2).1
    have hx0 : ∀ i, i < n → 0 ≤ x i := fun i hi => ((hanOk_spec (hvOk_spec hvo).2).2 i hi).1.1
    refine Wc.region rfl ?_
    refine Wl.pure (PR.assI rfl) ?_
    refine Wl.nil ?_
    refine tn ?_
    refine Wc.block ?_
    refine Wc.loopF (γ := Nat) (fun g => [(1, .slice (A) (n) (cp)), (2, .pointer (some ⟨b2, 0, none⟩)), (8, .int .i64 ((((g + 1) : Nat) : Int)))]) (fun g w_ => St [] w w_ [(b2, schV (s) (p) (a) (b), 33)] ∧ (g ≤ n) ∧ (fsT s p a b n x y = fsF a b x y (n - g) g)) (fun g => n - g) ?_ ?_
    · exact ⟨0, (.cons rfl (.cons rfl (.cons rfl (.nil _)))), st, (by first | omega | (dsimp only; omega)), (fs_o hvo)⟩
    clear st
    rintro k w4 ⟨st, hk, hg⟩
    try dsimp only at st hk hg ⊢
    refine Wc.seq ?_
    refine Wc.seq ?_
    refine Wc.region rfl ?_
    refine Wl.pure (PR.moveI rfl) ?_
    refine Wl.pure (PR.moveL rfl) ?_
    refine Wl.pure (PR.lenL tS_25 rfl) ?_
    refine Wl.pure (PR.leq (a := (((k + 1) : Nat) : Int)) (b := ((n : Nat) : Int)) rfl rfl) ?_
    refine Wl.nil ?_
    refine tn ?_
    refine Wc.condD (p := (((k + 1) : Nat) : Int) ≤ ((n : Nat) : Int)) rfl (fun h5 => ?_) (fun h5 => ?_)
    · refine Wc.skip ?_
      refine tn ?_
      refine Wc.seq ?_
      refine Wc.block ?_
      refine Wc.seq ?_
      refine Wc.region rfl ?_
      refine Wl.pure (PR.moveL rfl) ?_
      refine Wl.pure (PR.moveI rfl) ?_
      refine Wl.callXG [] st (c_spec_l07Seers (bk := b2) (o := 0) (s := s) (p := p) (a := a) (b := b) (A := A) (n := n) (cp := cp) (x := x) (y := y) (t := (k + 1)) (st.rdA (i := 0) rfl (all_sub schV_len)) (hR.st st) (by first | assumption | omega) (by first | assumption | omega) ha hb hx hy (by first | assumption | omega) (by first | assumption | omega) (fun i hi => hx0 i (by omega)) (by first | assumption | omega)) rfl rfl ?_
      clear st
      intro b24 c24 sp24 w6 hc24 hs24 st
      replace st : St [] w w6 [(b24, arrU .i64 (flN (seQ a b x y (k + 1)) 10) (fun j => (fun z => z) (flA (seQ a b x y (k + 1)) 10 j)) ++ sp24, 2), (b2, schV (s) (p) (a) (b), 33)] := st
      refine Wl.pure (PR.assL rfl) ?_
      refine Wl.nil ?_
      refine tn ?_
      refine Wc.seq ?_
      refine Wc.region rfl ?_
      refine Wl.pure (PR.moveL rfl) ?_
      refine Wl.pure (PR.lenL tS_41 rfl) ?_
      refine Wl.pure (PR.gtr (a := (((flN (seQ a b x y (k + 1)) 10) : Nat) : Int)) (b := 0) rfl rfl) ?_
      refine Wl.nil ?_
      refine tn ?_
      refine Wc.condD (p := 0 < (((flN (seQ a b x y (k + 1)) 10) : Nat) : Int)) rfl (fun h7 => ?_) (fun h7 => ?_)
      · refine Wc.seq ?_
        refine Wc.quiet hmix (by kernel_rfl) rfl ?_
        refine Wq.pure (PR.moveI rfl) ?_
        refine Wq.pure (PR.sub (a := (((k + 1) : Nat) : Int)) (b := 1) rfl rfl (by simp only [fitI]; omega)) ?_
        refine Wq.pure (PR.moveL rfl) ?_
        refine Wq.pure (PR.idxAddrS1 (i := 0) tS_41 rfl rfl (by omega)) ?_
        refine Wq.load (i := 0) st tA_2 rfl rfl (app_get (arrU_get0 (by omega))) ?_
        refine Wq.pure (PR.assI rfl) ?_
        refine Wq.pure (PR.assI rfl) ?_
        refine Wq.pure (PR.assI rfl) ?_
        refine Wq.nil (fun w8 hbel => ?_)
        replace st := st.call hbel
        clear hbel
        refine tn ?_
        refine Wc.ret ?_
        refine br ?_
        refine tr ?_
        refine tr ?_
        refine br ?_
        refine tr ?_
        refine postL.many (rvs := [.tmp 4, .tmp 5, .tmp 6]) rfl (.tmp (v := .int .i64 (((((k + 1) : Nat) : Int) - 1))) rfl (.tmp (v := .int .i64 ((((fun j => (fun z => z) (flA (seQ a b x y (k + 1)) 10 j)) (0) : Nat) : Int))) rfl (.tmp (v := .int .i64 (0)) rfl .nil))) ?_
        refine RetV.of ?_ st.below
        refine fs_tup (fs_t (by omega) hg (by omega)) ?_ ?_ ?_ <;> first | rfl | omega
      · refine Wc.skip ?_
        refine bn ?_
        refine tn ?_
        refine Wc.region rfl ?_
        refine Wl.pure (PR.moveI rfl) ?_
        refine Wl.pure (PR.add (a := (((k + 1) : Nat) : Int)) (b := 1) rfl rfl (by simp only [fitI]; omega)) ?_
        refine Wl.pure (PR.assI rfl) ?_
        refine Wl.nil ?_
        refine tn ?_
        replace st := st.tail
        exact ⟨k + 1, (.cons rfl (.cons rfl (.cons rfl (.nil _)))), ⟨st, (by first | omega | (dsimp only; omega)), (fs_f (by omega) hg (by omega))⟩, (by first | omega | (dsimp only; omega))⟩
    · refine Wc.exit ?_
      refine tx ?_
      refine tx ?_
      refine bh ?_
      refine tn ?_
      refine Wc.seq ?_
      refine Wc.region rfl ?_
      refine Wl.pure (PR.assI rfl) ?_
      refine Wl.pure (PR.assI rfl) ?_
      refine Wl.pure (PR.assI rfl) ?_
      refine Wl.nil ?_
      refine tn ?_
      refine Wc.ret ?_
      refine postL.many (rvs := [.tmp 4, .tmp 5, .tmp 6]) rfl (.tmp (v := .int .i64 (0)) rfl (.tmp (v := .int .i64 (0)) rfl (.tmp (v := .int .i64 (6)) rfl .nil))) ?_
      refine RetV.of ?_ st.below
      refine fs_tup (fs_e (by omega) hg) ?_ ?_ ?_ <;> first | rfl | omega

set_option maxHeartbeats 400000 in
set_option maxRecDepth 4000 in
theorem c_laws_FnExactFirstSight {s : Int} {p : Int} {a : Nat → Nat} {b : Nat → Nat} {A : Option Addr} {n : Nat} {cp : Nat} {x : Nat → Int} {y : Nat → Int} {w : World} (hs : -128 ≤ s ∧ s ≤ 127) (hp : -128 ≤ p ∧ p ≤ 127) (ha : ∀ k, a k < 256) (hb : ∀ k, b k < 256) (hR : RdS w A n (hanV n x y)) (hx : ∀ i, i < n → -128 ≤ x i ∧ x i ≤ 127) (hy : ∀ i, i < n → -128 ≤ y i ∧ y i ≤ 127) (hn : n ≤ 9223372036854775807) :
    CE Try.prog 8 [.agg (schV (s) (p) (a) (b)).toArray, .slice (A) (n) (cp)] w (RetV w (.bool true)) := by
  refine CE.enter 55 [(0, .agg (schV (s) (p) (a) (b)).toArray), (1, .slice (A) (n) (cp))] en_8 Try.func8 rfl rfl (Nat.le_of_ble_eq_true rfl) rfl ?_
  have st := St.start w
  refine Wc.seq ?_
  refine Wc.region rfl ?_
  refine Wl.boxA st rfl ?_
  clear st
  intro b2 w1 st
  refine Wl.pure (PR.assB rfl) ?_
  refine Wl.nil ?_
  refine tn ?_
  refine Wc.seq ?_
  refine Wc.region rfl ?_
  refine Wl.pure (PR.assI rfl) ?_
  refine Wl.nil ?_
  refine tn ?_
  refine Wc.seq ?_
  refine Wc.region rfl ?_
  refine Wl.pure (PR.moveL rfl) ?_
  refine Wl.pure (PR.moveI rfl) ?_
  refine Wl.callV (c_laws_szHandingS (A := A) (n := n) (cp := cp) (x := x) (y := y) (z := 1048576) (by first | assumption | omega) (by first | assumption | omega)) rfl ?_
  intro w2 hbel
  replace st := st.call hbel
  clear hbel
  refine Wl.pure (PR.assI rfl) ?_
  refine Wl.nil ?_
  refine tn ?_
  refine Wc.seq ?_
  refine Wc.seq ?_
  refine Wc.region rfl ?_
  refine Wl.pure (PR.moveI rfl) ?_
  refine Wl.pure (PR.lss (a := (szL n 1048576)) (b := 0) rfl rfl) ?_
  refine Wl.nil ?_
  refine tn ?_
  refine Wc.condD (p := (szL n 1048576) < 0) rfl (fun h3 => ?_) (fun h3 => ?_)
  · refine Wc.seq ?_
    refine Wc.region rfl ?_
    refine Wl.pure (PR.assB rfl) ?_
    refine Wl.nil ?_
    refine tn ?_
    refine Wc.ret ?_
    refine tr ?_
    refine postL.tmp rfl rfl ?_
    exact RetV.of rfl st.below
  · refine Wc.skip ?_
    refine tn ?_
    refine Wc.seq ?_
    obtain ⟨hn1, hz1⟩ := szL_ok (n := n) (z := 1048576) (by omega)
    refine Wc.region rfl ?_
    refine Wl.loadA (i := 0) st tA_31 rfl rfl (all_sub schV_len) schV_len ?_
    refine Wl.callV (c_laws_toScheme (s := s) (p := p) (a := a) (b := b) ha hb) rfl ?_
    intro w4 hbel
    replace st := st.call hbel
    clear hbel
    refine Wl.pure (PR.moveL rfl) ?_
    refine Wl.callS st (c_laws_toHandingS (A := A) (n := n) (cp := cp) (x := x) (y := y) (hR.st st) (by first | assumption | omega)) rfl ?_
    clear st
    intro b22 w5 st
    refine Wl.callV (c_spec_FirstSight (s := s) (p := p) (a := a) (b := b) (A := some ⟨b22, 0, none⟩) (n := n) (cp := n) (x := x) (y := y) (by first | assumption | omega) (by first | assumption | omega) ha hb ((st.rdA (i := 0) (n := (n * 2)) rfl (all_sub (recV_len (s := 2) (hanV_row _ _) _))).sl) hx hy (by first | assumption | omega) (by first | assumption | omega)) rfl ?_
    intro w6 hbel
    replace st := st.call hbel
    clear hbel
    refine Wl.pure (PR.moveV (.tuple #[.int .i64 ((((fsT s p a b n x y).1 : Nat) : Int)), .int .i64 ((((fsT s p a b n x y).2.1 : Nat) : Int)), .int .i64 ((((fsT s p a b n x y).2.2 : Nat) : Int))]) rfl) ?_
    refine Wl.pure (PR.extr (i := 0) (vs := [.int .i64 ((((fsT s p a b n x y).1 : Nat) : Int)), .int .i64 ((((fsT s p a b n x y).2.1 : Nat) : Int)), .int .i64 ((((fsT s p a b n x y).2.2 : Nat) : Int))]) rfl rfl) ?_
    refine Wl.pure (PR.extr (i := 1) (vs := [.int .i64 ((((fsT s p a b n x y).1 : Nat) : Int)), .int .i64 ((((fsT s p a b n x y).2.1 : Nat) : Int)), .int .i64 ((((fsT s p a b n x y).2.2 : Nat) : Int))]) rfl rfl) ?_
    refine Wl.pure (PR.extr (i := 2) (vs := [.int .i64 ((((fsT s p a b n x y).1 : Nat) : Int)), .int .i64 ((((fsT s p a b n x y).2.1 : Nat) : Int)), .int .i64 ((((fsT s p a b n x y).2.2 : Nat) : Int))]) rfl rfl) ?_
    refine Wl.pure (PR.assI rfl) ?_
    refine Wl.pure (PR.assI rfl) ?_
    refine Wl.pure (PR.assI rfl) ?_
    refine Wl.nil ?_
    refine tn ?_
    refine Wc.seq ?_
    refine Wc.region rfl ?_
    refine Wl.pure (PR.moveL rfl) ?_
    refine Wl.callS st (c_laws_toHandingS (A := A) (n := n) (cp := cp) (x := x) (y := y) (hR.st st) (by first | assumption | omega)) rfl ?_
    clear st
    intro b28 w7 st
    refine Wl.pure (PR.assL rfl) ?_
    refine Wl.nil ?_
    refine tn ?_
    refine Wc.seq ?_
    refine Wc.region rfl ?_
    refine Wl.loadA (i := 2) st tA_31 rfl rfl (all_sub schV_len) schV_len ?_
    refine Wl.callV (c_laws_toScheme (s := s) (p := p) (a := a) (b := b) ha hb) rfl ?_
    intro w8 hbel
    replace st := st.call hbel
    clear hbel
    refine Wl.pure (PR.moveL rfl) ?_
    refine Wl.callV (c_impl_FirstSight (s := s) (p := p) (a := a) (b := b) (A := some ⟨b28, 0, none⟩) (n := n) (cp := n) (x := x) (y := y) (by first | assumption | omega) (by first | assumption | omega) ha hb ((st.rdA (i := 0) (n := (n * 2)) rfl (all_sub (recV_len (s := 2) (hanV_row _ _) _))).sl) hx hy (by first | assumption | omega) (by first | assumption | omega)) rfl ?_
    intro w9 hbel
    replace st := st.call hbel
    clear hbel
    refine Wl.pure (PR.moveV (.tuple #[.int .i64 ((((fsT s p a b n x y).1 : Nat) : Int)), .int .i64 ((((fsT s p a b n x y).2.1 : Nat) : Int)), .int .i64 ((((fsT s p a b n x y).2.2 : Nat) : Int))]) rfl) ?_
    refine Wl.pure (PR.extr (i := 0) (vs := [.int .i64 ((((fsT s p a b n x y).1 : Nat) : Int)), .int .i64 ((((fsT s p a b n x y).2.1 : Nat) : Int)), .int .i64 ((((fsT s p a b n x y).2.2 : Nat) : Int))]) rfl rfl) ?_
    refine Wl.pure (PR.extr (i := 1) (vs := [.int .i64 ((((fsT s p a b n x y).1 : Nat) : Int)), .int .i64 ((((fsT s p a b n x y).2.1 : Nat) : Int)), .int .i64 ((((fsT s p a b n x y).2.2 : Nat) : Int))]) rfl rfl) ?_
    refine Wl.pure (PR.extr (i := 2) (vs := [.int .i64 ((((fsT s p a b n x y).1 : Nat) : Int)), .int .i64 ((((fsT s p a b n x y).2.1 : Nat) : Int)), .int .i64 ((((fsT s p a b n x y).2.2 : Nat) : Int))]) rfl rfl) ?_
    refine Wl.pure (PR.assI rfl) ?_
    refine Wl.pure (PR.assI rfl) ?_
    refine Wl.pure (PR.assI rfl) ?_
    refine Wl.nil ?_
    refine tn ?_
    refine Wc.seq ?_
    refine Wc.seq ?_
    refine Wc.region rfl ?_
    refine Wl.pure (PR.moveI rfl) ?_
    refine Wl.pure (PR.moveI rfl) ?_
    refine Wl.pure (PR.neqS (a := (((fsT s p a b n x y).1 : Nat) : Int)) rfl rfl) ?_
    refine Wl.pure (PR.moveB rfl) ?_
    refine Wl.on rfl rfl ?_
    refine Wl.pure (PR.moveI rfl) ?_
    refine Wl.on rfl rfl ?_
    refine Wl.pure (PR.moveI rfl) ?_
    refine Wl.on rfl rfl ?_
    refine Wl.pure (PR.neqS (a := (((fsT s p a b n x y).2.1 : Nat) : Int)) rfl rfl) ?_
    refine Wl.pure (PR.pickFB rfl rfl) ?_
    refine Wl.pure (PR.moveB rfl) ?_
    refine Wl.on rfl rfl ?_
    refine Wl.pure (PR.moveI rfl) ?_
    refine Wl.on rfl rfl ?_
    refine Wl.pure (PR.moveI rfl) ?_
    refine Wl.on rfl rfl ?_
    refine Wl.pure (PR.neqS (a := (((fsT s p a b n x y).2.2 : Nat) : Int)) rfl rfl) ?_
    refine Wl.pure (PR.pickFB rfl rfl) ?_
    refine Wl.nil ?_
    refine tn ?_
    refine Wc.condF rfl ?_
    refine Wc.skip ?_
    refine tn ?_
    refine Wc.seq ?_
    refine Wc.seq ?_
    refine Wc.region rfl ?_
    refine Wl.pure (PR.moveL rfl) ?_
    refine Wl.pure (PR.moveL rfl) ?_
    refine Wl.callS st (c_laws_toHandingS (A := A) (n := n) (cp := cp) (x := x) (y := y) (hR.st st) (by first | assumption | omega)) rfl ?_
    clear st
    intro b52 w10 st
    refine Wl.callV (c_laws_eqHandingS (A := some ⟨b28, 0, none⟩) (n := n) (cp := n) (x := x) (y := y) (B := some ⟨b52, 0, none⟩) (cq := n) ((st.rdA (i := 1) (n := (n * 2)) rfl (all_sub (recV_len (s := 2) (hanV_row _ _) _))).sl) ((st.rdA (i := 0) (n := (n * 2)) rfl (all_sub (recV_len (s := 2) (hanV_row _ _) _))).sl) (by first | assumption | omega)) rfl ?_
    intro w11 hbel
    replace st := st.call hbel
    clear hbel
    refine Wl.pure (PR.not_ rfl) ?_
    refine Wl.nil ?_
    refine tn ?_
    refine Wc.condF rfl ?_
    refine Wc.skip ?_
    refine tn ?_
    refine Wc.seq ?_
    refine Wc.region rfl ?_
    refine Wl.pure (PR.assB rfl) ?_
    refine Wl.nil ?_
    refine tn ?_
    refine Wc.ret ?_
    refine postL.tmp rfl rfl ?_
    exact RetV.of rfl st.below

end Go.Proofs.Ytgcgfcfkbeomdaa
