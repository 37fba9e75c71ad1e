/-
  Contracts of functions, printed by a program of ours.
-/
import Derived.Test.YtjkicobdokcjfaaCS3
import Derived.Test.YtjkicobdokcjfaaSchA
namespace Go.Proofs.Ytjkicobdokcjfaa
open Go.RowKit
set_option linter.unusedVariables false
set_option linter.unusedSimpArgs false

set_option maxHeartbeats 400000 in
set_option maxRecDepth 4000 in
theorem c_impl_GapTable {s : Int} {p : Int} {a : Nat → Nat} {b : Nat → Nat} {w : World} (hs : -128 ≤ s ∧ s ≤ 127) (hp : -128 ≤ p ∧ p ≤ 127) (ha : ∀ k, a k < 256) (hb : ∀ k, b k < 256) :
    CE Try.prog 18 [.agg (schV (s) (p) (a) (b)).toArray] w (RetV w (.tuple #[.agg (arrZ .i8 64 (gapTab s p a b)).toArray, .int .i64 (((codeIf (schOk s p a b) 1 : Nat) : Int))])) := by
  refine CE.enter 26 [(0, .agg (schV (s) (p) (a) (b)).toArray)] en_18 Try.func18 rfl rfl (Nat.le_of_ble_eq_true rfl) rfl ?_
  have st := St.start w
  refine Wc.seq ?_
  refine Wc.region rfl ?_
  refine Wl.boxA st rfl ?_
  clear st
  intro b1 w1 st
  refine Wl.alloc st tZ_40 rfl ?_
  clear st
  intro b2 w2 st
  refine Wl.pure (PR.assI rfl) ?_
  refine Wl.nil ?_
  refine tn ?_
  refine Wc.seq ?_
  refine Wc.region rfl ?_
  refine Wl.pure (PR.build (ps := []) (cs := arrZ .i8 64 (fun _ => 0)) tB_40 rfl rfl) ?_
  refine Wl.alloc st tZ_40 rfl ?_
  clear st
  intro b4 w3 st
  refine Wl.storeA (i := 0) (cs' := arrZ .i8 64 (fun _ => 0)) st tA_40 rfl rfl (arrZ_len _) (arrZ_one _) rfl (le_of_len (arrZ_len _) (by omega)) (all_put (arrZ_len _)) ?_
  clear st
  intro w4 st
  replace st : St [] w w4 [(b4, arrZ .i8 64 (fun _ => 0), 40), (b2, arrZ .i8 64 (fun _ => 0), 40), (b1, schV (s) (p) (a) (b), 34)] := st
  refine Wl.nil ?_
  refine tn ?_
  refine Wc.seq ?_
  refine Wc.seq ?_
  refine Wc.region rfl ?_
  refine Wl.loadA (i := 2) st tA_34 rfl rfl (all_sub schV_len) schV_len ?_
  refine Wl.callV (c_impl_ValidScheme (s := s) (p := p) (a := a) (b := b) (by first | assumption | omega) (by first | assumption | omega) ha hb) rfl ?_
  intro w5 hbel
  replace st := st.call hbel
  clear hbel
  refine Wl.pure (PR.not_ rfl) ?_
  refine Wl.nil ?_
  refine tn ?_
  refine Wc.condNB (b := schOk s p a b) rfl (fun h6 => ?_) (fun h6 => ?_)
  · refine Wc.seq ?_
    refine Wc.region rfl ?_
    refine Wl.loadA (i := 0) st tA_40 rfl rfl (all_sub (arrZ_len _)) (arrZ_len _) ?_
    refine Wl.storeA (i := 1) (cs' := arrZ .i8 64 (fun _ => 0)) st tA_40 rfl rfl (arrZ_len _) (arrZ_one _) rfl (le_of_len (arrZ_len _) (by omega)) (all_put (arrZ_len _)) ?_
    clear st
    intro w7 st
    replace st : St [] w w7 [(b4, arrZ .i8 64 (fun _ => 0), 40), (b2, arrZ .i8 64 (fun _ => 0), 40), (b1, schV (s) (p) (a) (b), 34)] := st
    refine Wl.pure (PR.assI rfl) ?_
    refine Wl.nil ?_
    refine tn ?_
    refine Wc.ret ?_
    refine tr ?_
    refine postL.many (rvs := [.cell 2 40, .tmp 3]) rfl (.cell tA_40 rfl (arrZ_len _) (st.rdA (i := 1) rfl (all_sub (arrZ_len _))) (.tmp (v := .int .i64 (1)) rfl .nil)) ?_
    refine RetV.of ?_ st.below
    first | exact gapTab_f (by assumption) | exact gapTab_t (by assumption) (by omega)
  · refine Wc.skip ?_
    refine tn ?_
    refine Wc.seq ?_
    refine Wc.seq ?_
    obtain ⟨hs1, hp1, _⟩ := schOk_spec (by assumption)
    obtain ⟨n, rfl⟩ : ∃ n : Nat, s = ((n : Nat) : Int) := ⟨s.toNat, by omega⟩
    have hS := pow_le64 (show n ≤ 6 by omega)
    refine Wc.region rfl ?_
    refine Wl.pure (PR.fieldAddr tF_34_0 rfl) ?_
    refine Wl.load (i := 2) st tA_30 rfl rfl (rfl) ?_
    refine Wl.pure (PR.shlI (a := 1) (n := n) rfl rfl (by omega) (shl_lt (m := 64) (by omega))) ?_
    refine Wl.pure (PR.moveI rfl) ?_
    refine Wl.nil ?_
    refine tn ?_
    refine Wc.block ?_
    rw [tabZ_zero (gapZ a b)] at st
    refine Wc.loopF (γ := Nat) (fun g => [(1, .pointer (some ⟨b1, 0, none⟩)), (2, .pointer (some ⟨b2, 0, none⟩)), (3, .int .i64 (0)), (4, .pointer (some ⟨b4, 0, none⟩)), (13, .int .i64 ((((1 <<< n) : Nat) : Int))), (14, .int .i64 (((g : Nat) : Int)))]) (fun g w_ => St [] w w_ [(b4, arrZ .i8 64 (tabZ (gapZ a b) g), 40), (b2, arrZ .i8 64 (fun _ => 0), 40), (b1, schV ((n : Nat) : Int) (p) (a) (b), 34)] ∧ g ≤ 2 ^ n) (fun g => 64 - g) ?_ ?_
    · exact ⟨0, (.cons rfl (.cons rfl (.cons rfl (.cons rfl (.cons rfl (.cons rfl (.nil _))))))), st, (Nat.zero_le _)⟩
    clear st
    rintro k w8 ⟨st, hk⟩
    try dsimp only at st hk ⊢
    refine Wc.seq ?_
    refine Wc.region rfl ?_
    refine Wl.pure (PR.lss (a := ((k : Nat) : Int)) (b := (((1 <<< n) : Nat) : Int)) rfl rfl) ?_
    refine Wl.nil ?_
    refine tn ?_
    refine Wc.seq ?_
    refine Wc.condD (p := ((k : Nat) : Int) < (((1 <<< n) : Nat) : Int)) rfl (fun h9 => ?_) (fun h9 => ?_)
    · refine Wc.skip ?_
      refine tn ?_
      refine Wc.seq ?_
      refine Wc.block ?_
      refine Wc.seq ?_
      refine Wc.region rfl ?_
      refine Wl.pure (PR.moveI rfl) ?_
      refine Wl.pure (PR.assI rfl) ?_
      refine Wl.nil ?_
      refine tn ?_
      refine Wc.region rfl ?_
      refine Wl.pure (PR.moveI rfl) ?_
      refine Wl.loadA (i := 2) st tA_34 rfl rfl (all_sub schV_len) schV_len ?_
      refine Wl.pure (PR.moveI rfl) ?_
      refine Wl.pure (PR.conv (n := ((k : Nat) : Int)) tI_5 rfl (by simp only [fitI]; omega) Try.underlying3) ?_
      refine Wl.callV (c_impl_Scheme_gap (s := ((n : Nat) : Int)) (p := p) (a := a) (b := b) (x := k) ha hb (by first | assumption | omega)) rfl ?_
      intro w10 hbel
      replace st := st.call hbel
      clear hbel
      refine Wl.pure (PR.conv (n := gapZ a b k) tI_30 rfl (by have := gapZ_bd ha hb k; simp only [fitI]; omega) Try.underlying2) ?_
      refine Wl.pure (PR.idxAddrA1 (i := k) tE_40 rfl rfl (by omega)) ?_
      refine Wl.store (i := 0) (cs' := arrZ .i8 64 (upd (tabZ (gapZ a b) k) (k) (gapZ a b k))) st tA_30 rfl rfl rfl rfl (lt_of_len (arrZ_len _) (by omega)) (arrZ_set0) ?_
      clear st
      intro w11 st
      replace st : St [] w w11 [(b4, arrZ .i8 64 (upd (tabZ (gapZ a b) k) (k) (gapZ a b k)), 40), (b2, arrZ .i8 64 (fun _ => 0), 40), (b1, schV ((n : Nat) : Int) (p) (a) (b), 34)] := st
      refine Wl.nil ?_
      refine bn ?_
      refine tn ?_
      refine Wc.region rfl ?_
      refine Wl.pure (PR.add (a := ((k : Nat) : Int)) (b := 1) rfl rfl (by simp only [fitI]; omega)) ?_
      refine Wl.pure (PR.moveI rfl) ?_
      refine Wl.nil ?_
      refine tn ?_
      rw [tabZ_upd] at st
      exact ⟨k + 1, (.cons rfl (.cons rfl (.cons rfl (.cons rfl (.cons rfl (.cons rfl (.nil _))))))), ⟨st, (by first | omega | (dsimp only; omega))⟩, (by first | omega | (dsimp only; omega))⟩
    · refine Wc.exit ?_
      refine tx ?_
      refine tx ?_
      refine bh ?_
      refine tn ?_
      refine Wc.seq ?_
      refine Wc.region rfl ?_
      refine Wl.loadA (i := 0) st tA_40 rfl rfl (all_sub (arrZ_len _)) (arrZ_len _) ?_
      refine Wl.storeA (i := 1) (cs' := arrZ .i8 64 (tabZ (gapZ a b) k)) st tA_40 rfl rfl (arrZ_len _) (arrZ_one _) rfl (le_of_len (arrZ_len _) (by omega)) (all_put (arrZ_len _)) ?_
      clear st
      intro w12 st
      replace st : St [] w w12 [(b4, arrZ .i8 64 (tabZ (gapZ a b) k), 40), (b2, arrZ .i8 64 (tabZ (gapZ a b) k), 40), (b1, schV ((n : Nat) : Int) (p) (a) (b), 34)] := st
      refine Wl.pure (PR.assI rfl) ?_
      refine Wl.nil ?_
      refine tn ?_
      refine Wc.ret ?_
      refine postL.many (rvs := [.cell 2 40, .tmp 3]) rfl (.cell tA_40 rfl (arrZ_len _) (st.rdA (i := 1) rfl (all_sub (arrZ_len _))) (.tmp (v := .int .i64 (0)) rfl .nil)) ?_
      refine RetV.of ?_ st.below
      first | exact gapTab_f (by assumption) | exact gapTab_t (by assumption) (by omega)

set_option maxHeartbeats 400000 in
set_option maxRecDepth 4000 in
theorem c_spec_GapTable {s : Int} {p : Int} {a : Nat → Nat} {b : Nat → Nat} {w : World} (hs : -128 ≤ s ∧ s ≤ 127) (hp : -128 ≤ p ∧ p ≤ 127) (ha : ∀ k, a k < 256) (hb : ∀ k, b k < 256) :
    CE Try.prog 17 [.agg (schV (s) (p) (a) (b)).toArray] w (RetV w (.tuple #[.agg (arrZ .i8 64 (gapTab s p a b)).toArray, .int .i64 (((codeIf (schOk s p a b) 1 : Nat) : Int))])) := by
  refine CE.enter 25 [(0, .agg (schV (s) (p) (a) (b)).toArray)] en_17 Try.func17 rfl rfl (Nat.le_of_ble_eq_true rfl) rfl ?_
  have st := St.start w
  refine Wc.seq ?_
  refine Wc.region rfl ?_
  refine Wl.boxA st rfl ?_
  clear st
  intro b1 w1 st
  refine Wl.alloc st tZ_40 rfl ?_
  clear st
  intro b2 w2 st
  refine Wl.pure (PR.assI rfl) ?_
  refine Wl.nil ?_
  refine tn ?_
  refine Wc.seq ?_
  refine Wc.region rfl ?_
  refine Wl.pure (PR.build (ps := []) (cs := arrZ .i8 64 (fun _ => 0)) tB_40 rfl rfl) ?_
  refine Wl.alloc st tZ_40 rfl ?_
  clear st
  intro b4 w3 st
  refine Wl.storeA (i := 0) (cs' := arrZ .i8 64 (fun _ => 0)) st tA_40 rfl rfl (arrZ_len _) (arrZ_one _) rfl (le_of_len (arrZ_len _) (by omega)) (all_put (arrZ_len _)) ?_
  clear st
  intro w4 st
  replace st : St [] w w4 [(b4, arrZ .i8 64 (fun _ => 0), 40), (b2, arrZ .i8 64 (fun _ => 0), 40), (b1, schV (s) (p) (a) (b), 34)] := st
  refine Wl.nil ?_
  refine tn ?_
  refine Wc.seq ?_
  refine Wc.seq ?_
  refine Wc.region rfl ?_
  refine Wl.callV (c_spec_l02Ok (bk := b1) (o := 0) (s := s) (p := p) (a := a) (b := b) (st.rdA (i := 2) rfl (all_sub schV_len)) (by first | assumption | omega) (by first | assumption | omega) ha hb) rfl ?_
  intro w5 hbel
  replace st := st.call hbel
  clear hbel
  refine Wl.pure (PR.not_ rfl) ?_
  refine Wl.nil ?_
  refine tn ?_
  refine Wc.condNB (b := schOk s p a b) rfl (fun h6 => ?_) (fun h6 => ?_)
  · refine Wc.seq ?_
    refine Wc.region rfl ?_
    refine Wl.loadA (i := 0) st tA_40 rfl rfl (all_sub (arrZ_len _)) (arrZ_len _) ?_
    refine Wl.storeA (i := 1) (cs' := arrZ .i8 64 (fun _ => 0)) st tA_40 rfl rfl (arrZ_len _) (arrZ_one _) rfl (le_of_len (arrZ_len _) (by omega)) (all_put (arrZ_len _)) ?_
    clear st
    intro w7 st
    replace st : St [] w w7 [(b4, arrZ .i8 64 (fun _ => 0), 40), (b2, arrZ .i8 64 (fun _ => 0), 40), (b1, schV (s) (p) (a) (b), 34)] := st
    refine Wl.pure (PR.assI rfl) ?_
    refine Wl.nil ?_
    refine tn ?_
    refine Wc.ret ?_
    refine tr ?_
    refine postL.many (rvs := [.cell 2 40, .tmp 3]) rfl (.cell tA_40 rfl (arrZ_len _) (st.rdA (i := 1) rfl (all_sub (arrZ_len _))) (.tmp (v := .int .i64 (1)) rfl .nil)) ?_
    refine RetV.of ?_ st.below
    first | exact gapTab_f (by assumption) | exact gapTab_t (by assumption) (by omega)
  · refine Wc.skip ?_
    refine tn ?_
    refine Wc.seq ?_
    refine Wc.seq ?_
    obtain ⟨hs1, hp1, _⟩ := schOk_spec (by assumption)
    obtain ⟨n, rfl⟩ : ∃ n : Nat, s = ((n : Nat) : Int) := ⟨s.toNat, by omega⟩
    have hS := pow_le64 (show n ≤ 6 by omega)
    refine Wc.region rfl ?_
    refine Wl.pure (PR.assI rfl) ?_
    refine Wl.nil ?_
    refine tn ?_
    refine Wc.block ?_
    rw [tabZ_zero (gapZ a b)] at st
    refine Wc.loopF (γ := Nat) (fun g => [(1, .pointer (some ⟨b1, 0, none⟩)), (2, .pointer (some ⟨b2, 0, none⟩)), (3, .int .i64 (0)), (4, .pointer (some ⟨b4, 0, none⟩)), (5, .int .i64 (((g : Nat) : Int)))]) (fun g w_ => St [] w w_ [(b4, arrZ .i8 64 (tabZ (gapZ a b) g), 40), (b2, arrZ .i8 64 (fun _ => 0), 40), (b1, schV ((n : Nat) : Int) (p) (a) (b), 34)] ∧ g ≤ 2 ^ n) (fun g => 64 - g) ?_ ?_
    · exact ⟨0, (.cons rfl (.cons rfl (.cons rfl (.cons rfl (.cons rfl (.nil _)))))), st, (Nat.zero_le _)⟩
    clear st
    rintro k w8 ⟨st, hk⟩
    try dsimp only at st hk ⊢
    refine Wc.seq ?_
    refine Wc.seq ?_
    refine Wc.region rfl ?_
    refine Wl.pure (PR.moveI rfl) ?_
    refine Wl.pure (PR.fieldAddr tF_34_0 rfl) ?_
    refine Wl.load (i := 2) st tA_30 rfl rfl (rfl) ?_
    refine Wl.pure (PR.conv (n := ((n : Nat) : Int)) tI_68 rfl (by simp only [fitI]; omega) Try.underlying30) ?_
    refine Wl.pure (PR.shlI (a := 1) (n := n) rfl rfl (by omega) (shl_lt (m := 64) (by omega))) ?_
    refine Wl.pure (PR.lss (a := ((k : Nat) : Int)) (b := (((1 <<< n) : Nat) : Int)) rfl rfl) ?_
    refine Wl.nil ?_
    refine tn ?_
    refine Wc.condD (p := ((k : Nat) : Int) < (((1 <<< n) : Nat) : Int)) rfl (fun h9 => ?_) (fun h9 => ?_)
    · refine Wc.skip ?_
      refine tn ?_
      refine Wc.seq ?_
      refine Wc.block ?_
      refine Wc.region rfl ?_
      refine Wl.pure (PR.moveI rfl) ?_
      refine Wl.pure (PR.moveI rfl) ?_
      refine Wl.pure (PR.conv (n := ((k : Nat) : Int)) tI_5 rfl (by simp only [fitI]; omega) Try.underlying3) ?_
      refine Wl.callV (c_spec_l02Gap (bk := b1) (o := 0) (s := ((n : Nat) : Int)) (p := p) (a := a) (b := b) (x := k) (st.rdA (i := 2) rfl (all_sub schV_len)) ha hb (by first | assumption | omega)) rfl ?_
      intro w10 hbel
      replace st := st.call hbel
      clear hbel
      refine Wl.pure (PR.conv (n := gapZ a b k) tI_30 rfl (by have := gapZ_bd ha hb k; simp only [fitI]; omega) Try.underlying2) ?_
      refine Wl.pure (PR.idxAddrA1 (i := k) tE_40 rfl rfl (by omega)) ?_
      refine Wl.store (i := 0) (cs' := arrZ .i8 64 (upd (tabZ (gapZ a b) k) (k) (gapZ a b k))) st tA_30 rfl rfl rfl rfl (lt_of_len (arrZ_len _) (by omega)) (arrZ_set0) ?_
      clear st
      intro w11 st
      replace st : St [] w w11 [(b4, arrZ .i8 64 (upd (tabZ (gapZ a b) k) (k) (gapZ a b k)), 40), (b2, arrZ .i8 64 (fun _ => 0), 40), (b1, schV ((n : Nat) : Int) (p) (a) (b), 34)] := st
      refine Wl.nil ?_
      refine bn ?_
      refine tn ?_
      refine Wc.region rfl ?_
      refine Wl.pure (PR.moveI rfl) ?_
      refine Wl.pure (PR.add (a := ((k : Nat) : Int)) (b := 1) rfl rfl (by simp only [fitI]; omega)) ?_
      refine Wl.pure (PR.assI rfl) ?_
      refine Wl.nil ?_
      refine tn ?_
      rw [tabZ_upd] at st
      exact ⟨k + 1, (.cons rfl (.cons rfl (.cons rfl (.cons rfl (.cons rfl (.nil _)))))), ⟨st, (by first | omega | (dsimp only; omega))⟩, (by first | omega | (dsimp only; omega))⟩
    · refine Wc.exit ?_
      refine tx ?_
      refine tx ?_
      refine bh ?_
      refine tn ?_
      refine Wc.seq ?_
      refine Wc.region rfl ?_
      refine Wl.loadA (i := 0) st tA_40 rfl rfl (all_sub (arrZ_len _)) (arrZ_len _) ?_
      refine Wl.storeA (i := 1) (cs' := arrZ .i8 64 (tabZ (gapZ a b) k)) st tA_40 rfl rfl (arrZ_len _) (arrZ_one _) rfl (le_of_len (arrZ_len _) (by omega)) (all_put (arrZ_len _)) ?_
      clear st
      intro w12 st
      replace st : St [] w w12 [(b4, arrZ .i8 64 (tabZ (gapZ a b) k), 40), (b2, arrZ .i8 64 (tabZ (gapZ a b) k), 40), (b1, schV ((n : Nat) : Int) (p) (a) (b), 34)] := st
      refine Wl.pure (PR.assI rfl) ?_
      refine Wl.nil ?_
      refine tn ?_
      refine Wc.ret ?_
      refine postL.many (rvs := [.cell 2 40, .tmp 3]) rfl (.cell tA_40 rfl (arrZ_len _) (st.rdA (i := 1) rfl (all_sub (arrZ_len _))) (.tmp (v := .int .i64 (0)) rfl .nil)) ?_
      refine RetV.of ?_ st.below
      first | exact gapTab_f (by assumption) | exact gapTab_t (by assumption) (by omega)

set_option maxHeartbeats 400000 in
set_option maxRecDepth 4000 in
theorem c_laws_FnExactGapTable {s : Int} {p : Int} {a : Nat → Nat} {b : Nat → Nat} {w : World} (hs : -128 ≤ s ∧ s ≤ 127) (hp : -128 ≤ p ∧ p ≤ 127) (ha : ∀ k, a k < 256) (hb : ∀ k, b k < 256) :
    CE Try.prog 5 [.agg (schV (s) (p) (a) (b)).toArray] w (RetV w (.bool true)) := by
  refine CE.enter 28 [(0, .agg (schV (s) (p) (a) (b)).toArray)] en_5 Try.func5 rfl rfl (Nat.le_of_ble_eq_true rfl) rfl ?_
  have st := St.start w
  refine Wc.seq ?_
  refine Wc.region rfl ?_
  refine Wl.boxA st rfl ?_
  clear st
  intro b1 w1 st
  refine Wl.pure (PR.assB rfl) ?_
  refine Wl.nil ?_
  refine tn ?_
  refine Wc.seq ?_
  refine Wc.region rfl ?_
  refine Wl.loadA (i := 0) st tA_33 rfl rfl (all_sub schV_len) schV_len ?_
  refine Wl.callV (c_laws_toScheme (s := s) (p := p) (a := a) (b := b) ha hb) rfl ?_
  intro w2 hbel
  replace st := st.call hbel
  clear hbel
  refine Wl.callV (c_spec_GapTable (s := s) (p := p) (a := a) (b := b) (by first | assumption | omega) (by first | assumption | omega) ha hb) rfl ?_
  intro w3 hbel
  replace st := st.call hbel
  clear hbel
  refine Wl.pure (PR.moveV (.tuple #[.agg (arrZ .i8 64 (gapTab s p a b)).toArray, .int .i64 (((codeIf (schOk s p a b) 1 : Nat) : Int))]) rfl) ?_
  refine Wl.pure (PR.extr (i := 0) (vs := [.agg (arrZ .i8 64 (gapTab s p a b)).toArray, .int .i64 (((codeIf (schOk s p a b) 1 : Nat) : Int))]) rfl rfl) ?_
  refine Wl.pure (PR.extr (i := 1) (vs := [.agg (arrZ .i8 64 (gapTab s p a b)).toArray, .int .i64 (((codeIf (schOk s p a b) 1 : Nat) : Int))]) rfl rfl) ?_
  refine Wl.alloc st tZ_40 rfl ?_
  clear st
  intro b3 w4 st
  refine Wl.storeA (i := 0) (cs' := arrZ .i8 64 (gapTab s p a b)) st tA_40 rfl rfl (arrZ_len _) (arrZ_one _) rfl (le_of_len (arrZ_len _) (by omega)) (all_put (arrZ_len _)) ?_
  clear st
  intro w5 st
  replace st : St [] w w5 [(b3, arrZ .i8 64 (gapTab s p a b), 40), (b1, schV (s) (p) (a) (b), 33)] := st
  refine Wl.pure (PR.assI rfl) ?_
  refine Wl.nil ?_
  refine tn ?_
  refine Wc.seq ?_
  refine Wc.region rfl ?_
  refine Wl.loadA (i := 1) st tA_33 rfl rfl (all_sub schV_len) schV_len ?_
  refine Wl.callV (c_laws_toScheme (s := s) (p := p) (a := a) (b := b) ha hb) rfl ?_
  intro w6 hbel
  replace st := st.call hbel
  clear hbel
  refine Wl.callV (c_impl_GapTable (s := s) (p := p) (a := a) (b := b) (by first | assumption | omega) (by first | assumption | omega) ha hb) rfl ?_
  intro w7 hbel
  replace st := st.call hbel
  clear hbel
  refine Wl.pure (PR.moveV (.tuple #[.agg (arrZ .i8 64 (gapTab s p a b)).toArray, .int .i64 (((codeIf (schOk s p a b) 1 : Nat) : Int))]) rfl) ?_
  refine Wl.pure (PR.extr (i := 0) (vs := [.agg (arrZ .i8 64 (gapTab s p a b)).toArray, .int .i64 (((codeIf (schOk s p a b) 1 : Nat) : Int))]) rfl rfl) ?_
  refine Wl.pure (PR.extr (i := 1) (vs := [.agg (arrZ .i8 64 (gapTab s p a b)).toArray, .int .i64 (((codeIf (schOk s p a b) 1 : Nat) : Int))]) rfl rfl) ?_
  refine Wl.alloc st tZ_40 rfl ?_
  clear st
  intro b5 w8 st
  refine Wl.storeA (i := 0) (cs' := arrZ .i8 64 (gapTab s p a b)) st tA_40 rfl rfl (arrZ_len _) (arrZ_one _) rfl (le_of_len (arrZ_len _) (by omega)) (all_put (arrZ_len _)) ?_
  clear st
  intro w9 st
  replace st : St [] w w9 [(b5, arrZ .i8 64 (gapTab s p a b), 40), (b3, arrZ .i8 64 (gapTab s p a b), 40), (b1, schV (s) (p) (a) (b), 33)] := st
  refine Wl.pure (PR.assI rfl) ?_
  refine Wl.nil ?_
  refine tn ?_
  refine Wc.seq ?_
  refine Wc.seq ?_
  refine Wc.region rfl ?_
  refine Wl.loadA (i := 0) st tA_40 rfl rfl (all_sub (arrZ_len _)) (arrZ_len _) ?_
  refine Wl.loadA (i := 1) st tA_40 rfl rfl (all_sub (arrZ_len _)) (arrZ_len _) ?_
  refine Wl.callV (c_laws_eqInt8A64 (c := gapTab s p a b)) rfl ?_
  intro w10 hbel
  replace st := st.call hbel
  clear hbel
  refine Wl.pure (PR.not_ rfl) ?_
  refine Wl.pure (PR.moveB rfl) ?_
  refine Wl.on rfl rfl ?_
  refine Wl.pure (PR.moveI rfl) ?_
  refine Wl.on rfl rfl ?_
  refine Wl.pure (PR.moveI rfl) ?_
  refine Wl.on rfl rfl ?_
  refine Wl.pure (PR.neqS (a := ((codeIf (schOk s p a b) 1 : Nat) : Int)) rfl rfl) ?_
  refine Wl.pure (PR.pickFB rfl rfl) ?_
  refine Wl.nil ?_
  refine tn ?_
  refine Wc.condF rfl ?_
  refine Wc.skip ?_
  refine tn ?_
  refine Wc.seq ?_
  refine Wc.region rfl ?_
  refine Wl.pure (PR.assB rfl) ?_
  refine Wl.nil ?_
  refine tn ?_
  refine Wc.ret ?_
  refine postL.tmp rfl rfl ?_
  exact RetV.of rfl st.below

set_option maxHeartbeats 400000 in
set_option maxRecDepth 4000 in
theorem c_impl_SurvivesNoise {s : Int} {p : Int} {a : Nat → Nat} {b : Nat → Nat} {x : Nat} {z : Int} {w : World} (hs : -128 ≤ s ∧ s ≤ 127) (hp : -128 ≤ p ∧ p ≤ 127) (ha : ∀ k, a k < 256) (hb : ∀ k, b k < 256) (hx : x < 256) :
    CE Try.prog 23 [.agg (schV (s) (p) (a) (b)).toArray, .int .u8 (((x : Nat) : Int)), .int .i64 (z)] w (RetV w (.tuple #[.bool (survB s p a b x z), .int .i64 (((survC s p a b x z : Nat) : Int))])) := by
  refine CE.enter 31 [(0, .agg (schV (s) (p) (a) (b)).toArray), (1, .int .u8 (((x : Nat) : Int))), (2, .int .i64 (z))] en_23 Try.func23 rfl rfl (Nat.le_of_ble_eq_true rfl) rfl ?_
  have st := St.start w
  refine Wc.seq ?_
  refine Wc.region rfl ?_
  refine Wl.boxA st rfl ?_
  clear st
  intro b3 w1 st
  refine Wl.pure (PR.assB rfl) ?_
  refine Wl.pure (PR.assI rfl) ?_
  refine Wl.nil ?_
  refine tn ?_
  refine Wc.seq ?_
  refine Wc.region rfl ?_
  refine Wl.loadA (i := 0) st tA_34 rfl rfl (all_sub schV_len) schV_len ?_
  refine Wl.pure (PR.moveI rfl) ?_
  refine Wl.callV (c_impl_setCode (s := s) (p := p) (a := a) (b := b) (x := x) (by first | assumption | omega) (by first | assumption | omega) ha hb hx) rfl ?_
  intro w2 hbel
  replace st := st.call hbel
  clear hbel
  refine Wl.pure (PR.assI rfl) ?_
  refine Wl.nil ?_
  refine tn ?_
  refine Wc.seq ?_
  refine Wc.seq ?_
  refine Wc.region rfl ?_
  refine Wl.pure (PR.moveI rfl) ?_
  refine Wl.pure (PR.neq (a := ((asked s p a b x : Nat) : Int)) (b := 0) rfl rfl) ?_
  refine Wl.pure (PR.moveI rfl) ?_
  refine Wl.pure (PR.build (ps := [(0, .bool (!decide (((asked s p a b x : Nat) : Int) = 0))), (1, .int .i64 (((asked s p a b x : Nat) : Int)))]) (cs := [.bool (!decide (((asked s p a b x : Nat) : Int) = 0)), .int .i64 (((asked s p a b x : Nat) : Int))]) tB_64 rfl rfl) ?_
  refine Wl.pure (PR.moveI rfl) ?_
  refine Wl.callV (c_impl_within (n := z) (lo := 0) (hi := 8)) rfl ?_
  intro w3 hbel
  replace st := st.call hbel
  clear hbel
  refine Wl.pure (PR.not_ rfl) ?_
  refine Wl.pure (PR.build (ps := [(0, .bool (!decide (0 ≤ z ∧ z ≤ 8))), (1, .int .i64 (2))]) (cs := [.bool (!decide (0 ≤ z ∧ z ≤ 8)), .int .i64 (2)]) tB_64 rfl rfl) ?_
  refine Wl.buildSlice (ps := [(0, .agg ([.bool (!decide (((asked s p a b x : Nat) : Int) = 0)), .int .i64 (((asked s p a b x : Nat) : Int))]).toArray), (1, .agg ([.bool (!decide (0 ≤ z ∧ z ≤ 8)), .int .i64 (2)]).toArray)]) (cs := [.bool (!decide (((asked s p a b x : Nat) : Int) = 0)), .int .i64 (((asked s p a b x : Nat) : Int)), .bool (!decide (0 ≤ z ∧ z ≤ 8)), .int .i64 (2)]) st tS_79 tZ_64 rfl rfl rfl ?_
  clear st
  intro b20 w4 st
  refine Wl.callV (c_impl_firstOf (bk := b20) (o := 0) (n := 2) (cp := 2) (c := (fun i => [(!decide (((asked s p a b x : Nat) : Int) = 0)), (!decide (0 ≤ z ∧ z ≤ 8))].getD i false)) (e := (fun i => [((asked s p a b x : Nat) : Int), 2].getD i 0)) (st.rdA (i := 0) (n := 4) rfl rfl) (by first | assumption | omega)) rfl ?_
  intro w5 hbel
  replace st := st.call hbel
  clear hbel
  refine Wl.pure (PR.assI rfl) ?_
  refine Wl.nil ?_
  refine tn ?_
  refine Wc.seq ?_
  have hq := first_surv (s := s) (p := p) (a := a) (b := b) (x := x) (z := z)
  refine Wc.region rfl ?_
  refine Wl.pure (PR.moveI rfl) ?_
  refine Wl.pure (PR.neq (a := firstZ 2 (fun i => [(!decide (((asked s p a b x : Nat) : Int) = 0)), (!decide (0 ≤ z ∧ z ≤ 8))].getD i false) (fun i => [((asked s p a b x : Nat) : Int), 2].getD i 0)) (b := 0) rfl rfl) ?_
  refine Wl.nil ?_
  refine tn ?_
  refine Wc.condN (p := firstZ 2 (fun i => [(!decide (((asked s p a b x : Nat) : Int) = 0)), (!decide (0 ≤ z ∧ z ≤ 8))].getD i false) (fun i => [((asked s p a b x : Nat) : Int), 2].getD i 0) = 0) rfl (fun h6 => ?_) (fun h6 => ?_)
  · refine Wc.seq ?_
    refine Wc.region rfl ?_
    refine Wl.pure (PR.moveI rfl) ?_
    refine Wl.pure (PR.assB rfl) ?_
    refine Wl.pure (PR.assI rfl) ?_
    refine Wl.nil ?_
    refine tn ?_
    refine Wc.ret ?_
    refine tr ?_
    refine postL.tmp2 rfl rfl rfl ?_
    refine RetV.of ?_ st.below
    exact surv_f (by omega) hq
  · refine Wc.skip ?_
    refine tn ?_
    refine Wc.seq ?_
    obtain ⟨_, hz⟩ := survC_spec (s := s) (p := p) (a := a) (b := b) (x := x) (z := z) (by omega)
    refine Wc.region rfl ?_
    refine Wl.loadA (i := 1) st tA_34 rfl rfl (all_sub schV_len) schV_len ?_
    refine Wl.pure (PR.moveI rfl) ?_
    refine Wl.callV (c_impl_Scheme_gap (s := s) (p := p) (a := a) (b := b) (x := x) ha hb hx) rfl ?_
    intro w7 hbel
    replace st := st.call hbel
    clear hbel
    refine Wl.pure (PR.moveI rfl) ?_
    refine Wl.pure (PR.mul (a := 2) (b := z) rfl rfl (by simp only [fitI]; omega)) ?_
    refine Wl.pure (PR.gtr (a := gapZ a b x) (b := (2 * z)) rfl rfl) ?_
    refine Wl.pure (PR.assB rfl) ?_
    refine Wl.pure (PR.assI rfl) ?_
    refine Wl.nil ?_
    refine tn ?_
    refine Wc.ret ?_
    refine postL.tmp2 rfl rfl rfl ?_
    refine RetV.of ?_ st.below
    exact surv_t (by omega)

set_option maxHeartbeats 400000 in
set_option maxRecDepth 4000 in
theorem c_spec_SurvivesNoise {s : Int} {p : Int} {a : Nat → Nat} {b : Nat → Nat} {x : Nat} {z : Int} {w : World} (hs : -128 ≤ s ∧ s ≤ 127) (hp : -128 ≤ p ∧ p ≤ 127) (ha : ∀ k, a k < 256) (hb : ∀ k, b k < 256) (hx : x < 256) :
    CE Try.prog 22 [.agg (schV (s) (p) (a) (b)).toArray, .int .u8 (((x : Nat) : Int)), .int .i64 (z)] w (RetV w (.tuple #[.bool (survB s p a b x z), .int .i64 (((survC s p a b x z : Nat) : Int))])) := by
  refine CE.enter 26 [(0, .agg (schV (s) (p) (a) (b)).toArray), (1, .int .u8 (((x : Nat) : Int))), (2, .int .i64 (z))] en_22 Try.func22 rfl rfl (Nat.le_of_ble_eq_true rfl) rfl ?_
  have st := St.start w
  refine Wc.seq ?_
  refine Wc.region rfl ?_
  refine Wl.boxA st rfl ?_
  clear st
  intro b3 w1 st
  refine Wl.pure (PR.assB rfl) ?_
  refine Wl.pure (PR.assI rfl) ?_
  refine Wl.nil ?_
  refine tn ?_
  refine Wc.seq ?_
  refine Wc.region rfl ?_
  refine Wl.pure (PR.moveI rfl) ?_
  refine Wl.callV (c_spec_l02Asked (bk := b3) (o := 0) (s := s) (p := p) (a := a) (b := b) (x := x) (st.rdA (i := 0) rfl (all_sub schV_len)) (by first | assumption | omega) (by first | assumption | omega) ha hb hx) rfl ?_
  intro w2 hbel
  replace st := st.call hbel
  clear hbel
  refine Wl.pure (PR.assI rfl) ?_
  refine Wl.nil ?_
  refine tn ?_
  refine Wc.seq ?_
  refine Wc.seq ?_
  refine Wc.region rfl ?_
  refine Wl.pure (PR.moveI rfl) ?_
  refine Wl.pure (PR.eql (a := ((asked s p a b x : Nat) : Int)) (b := 0) rfl rfl) ?_
  refine Wl.pure (PR.moveB rfl) ?_
  refine Wl.splitT (q := ((asked s p a b x : Nat) : Int) = 0) rfl rfl (fun h3 => ?_) (fun h3 => ?_)
  · refine Wl.pure (PR.moveI rfl) ?_
    refine Wl.on rfl rfl ?_
    refine Wl.callV (c_spec_l00In (n := z) (lo := 0) (hi := 8)) rfl ?_
    intro w4 hbel
    replace st := st.call hbel
    clear hbel
    refine Wl.on rfl rfl ?_
    refine Wl.pure (PR.not_ rfl) ?_
    refine Wl.pure (PR.pickTB rfl rfl) ?_
    refine Wl.nil ?_
    refine tn ?_
    refine Wc.condN (p := 0 ≤ z ∧ z ≤ 8) rfl (fun h5 => ?_) (fun h5 => ?_)
    · refine Wc.region rfl ?_
      refine Wl.pure (PR.assI rfl) ?_
      refine Wl.nil ?_
      refine tn ?_
      refine Wc.seq ?_
      refine Wc.seq ?_
      refine Wc.region rfl ?_
      refine Wl.pure (PR.moveI rfl) ?_
      refine Wl.pure (PR.neq (a := 2) (b := 0) rfl rfl) ?_
      refine Wl.nil ?_
      refine tn ?_
      refine Wc.condN (p := 2 = 0) rfl (fun h6 => ?_) (fun h6 => ?_)
      · refine Wc.seq ?_
        refine Wc.region rfl ?_
        refine Wl.pure (PR.moveI rfl) ?_
        refine Wl.pure (PR.assB rfl) ?_
        refine Wl.pure (PR.assI rfl) ?_
        refine Wl.nil ?_
        refine tn ?_
        refine Wc.ret ?_
        refine tr ?_
        refine postL.tmp2 rfl rfl rfl ?_
        refine RetV.of ?_ st.below
        exact surv_f (by rw [survC_2 (by omega) (by omega)]; decide) (by rw [survC_2 (by omega) (by omega)]; rfl)
      · refine Wc.skip ?_
        refine tn ?_
        refine Wc.seq ?_
        refine Wc.region rfl ?_
        refine Wl.pure (PR.moveI rfl) ?_
        refine Wl.callV (c_spec_l02Gap (bk := b3) (o := 0) (s := s) (p := p) (a := a) (b := b) (x := x) (st.rdA (i := 0) rfl (all_sub schV_len)) ha hb hx) rfl ?_
        intro w7 hbel
        replace st := st.call hbel
        clear hbel
        refine Wl.pure (PR.moveI rfl) ?_
        refine Wl.pure (PR.mul (a := 2) (b := z) rfl rfl (by simp only [fitI]; omega)) ?_
        refine Wl.pure (PR.gtr (a := gapZ a b x) (b := (2 * z)) rfl rfl) ?_
        refine Wl.pure (PR.assB rfl) ?_
        refine Wl.pure (PR.assI rfl) ?_
        refine Wl.nil ?_
        refine tn ?_
        refine Wc.ret ?_
        refine postL.tmp2 rfl rfl rfl ?_
        refine RetV.of ?_ st.below
        exact surv_t (survC_0 (by omega) (by omega))
    · refine Wc.skip ?_
      refine tn ?_
      refine Wc.seq ?_
      refine Wc.seq ?_
      refine Wc.region rfl ?_
      refine Wl.pure (PR.moveI rfl) ?_
      refine Wl.pure (PR.neq (a := ((asked s p a b x : Nat) : Int)) (b := 0) rfl rfl) ?_
      refine Wl.nil ?_
      refine tn ?_
      refine Wc.condN (p := ((asked s p a b x : Nat) : Int) = 0) rfl (fun h8 => ?_) (fun h8 => ?_)
      · refine Wc.seq ?_
        refine Wc.region rfl ?_
        refine Wl.pure (PR.moveI rfl) ?_
        refine Wl.pure (PR.assB rfl) ?_
        refine Wl.pure (PR.assI rfl) ?_
        refine Wl.nil ?_
        refine tn ?_
        refine Wc.ret ?_
        refine tr ?_
        refine postL.tmp2 rfl rfl rfl ?_
        refine RetV.of ?_ st.below
        exact surv_f (by rw [survC_n (by omega)]; omega) (by rw [survC_n (by omega)])
      · refine Wc.skip ?_
        refine tn ?_
        refine Wc.seq ?_
        refine Wc.region rfl ?_
        refine Wl.pure (PR.moveI rfl) ?_
        refine Wl.callV (c_spec_l02Gap (bk := b3) (o := 0) (s := s) (p := p) (a := a) (b := b) (x := x) (st.rdA (i := 0) rfl (all_sub schV_len)) ha hb hx) rfl ?_
        intro w9 hbel
        replace st := st.call hbel
        clear hbel
        refine Wl.pure (PR.moveI rfl) ?_
        refine Wl.pure (PR.mul (a := 2) (b := z) rfl rfl (by simp only [fitI]; omega)) ?_
        refine Wl.pure (PR.gtr (a := gapZ a b x) (b := (2 * z)) rfl rfl) ?_
        refine Wl.pure (PR.assB rfl) ?_
        refine Wl.pure (PR.assI rfl) ?_
        refine Wl.nil ?_
        refine tn ?_
        refine Wc.ret ?_
        refine postL.tmp2 rfl rfl rfl ?_
        refine RetV.of ?_ st.below
        exact surv_t (survC_0 (by omega) (by omega))
  · refine Wl.off rfl rfl rfl ?_
    refine Wl.off rfl rfl rfl ?_
    refine Wl.pure (PR.pickFB rfl rfl) ?_
    refine Wl.nil ?_
    refine tn ?_
    refine Wc.condF rfl ?_
    refine Wc.skip ?_
    refine tn ?_
    refine Wc.seq ?_
    refine Wc.seq ?_
    refine Wc.region rfl ?_
    refine Wl.pure (PR.moveI rfl) ?_
    refine Wl.pure (PR.neq (a := ((asked s p a b x : Nat) : Int)) (b := 0) rfl rfl) ?_
    refine Wl.nil ?_
    refine tn ?_
    refine Wc.condN (p := ((asked s p a b x : Nat) : Int) = 0) rfl (fun h10 => ?_) (fun h10 => ?_)
    · refine Wc.seq ?_
      refine Wc.region rfl ?_
      refine Wl.pure (PR.moveI rfl) ?_
      refine Wl.pure (PR.assB rfl) ?_
      refine Wl.pure (PR.assI rfl) ?_
      refine Wl.nil ?_
      refine tn ?_
      refine Wc.ret ?_
      refine tr ?_
      refine postL.tmp2 rfl rfl rfl ?_
      refine RetV.of ?_ st.below
      exact surv_f (by rw [survC_n (by omega)]; omega) (by rw [survC_n (by omega)])
    · refine Wc.skip ?_
      refine tn ?_
      refine Wc.seq ?_
      refine Wc.region rfl ?_
      refine Wl.pure (PR.moveI rfl) ?_
      refine Wl.callV (c_spec_l02Gap (bk := b3) (o := 0) (s := s) (p := p) (a := a) (b := b) (x := x) (st.rdA (i := 0) rfl (all_sub schV_len)) ha hb hx) rfl ?_
      intro w11 hbel
      replace st := st.call hbel
      clear hbel
      refine Wl.pure (PR.moveI rfl) ?_
      refine Wl.pure (PR.mul (a := 2) (b := z) rfl rfl (by simp only [fitI]; omega)) ?_
      refine Wl.pure (PR.gtr (a := gapZ a b x) (b := (2 * z)) rfl rfl) ?_
      refine Wl.pure (PR.assB rfl) ?_
      refine Wl.pure (PR.assI rfl) ?_
      refine Wl.nil ?_
      refine tn ?_
      refine Wc.ret ?_
      refine postL.tmp2 rfl rfl rfl ?_
      refine RetV.of ?_ st.below
      exact surv_t (survC_0 (by omega) (by omega))

set_option maxHeartbeats 400000 in
set_option maxRecDepth 4000 in
theorem c_laws_FnExactSurvivesNoise {s : Int} {p : Int} {a : Nat → Nat} {b : Nat → Nat} {x : Nat} {z : Int} {w : World} (hs : -128 ≤ s ∧ s ≤ 127) (hp : -128 ≤ p ∧ p ≤ 127) (ha : ∀ k, a k < 256) (hb : ∀ k, b k < 256) (hx : x < 256) :
    CE Try.prog 7 [.agg (schV (s) (p) (a) (b)).toArray, .int .u8 (((x : Nat) : Int)), .int .i64 (z)] w (RetV w (.bool true)) := by
  refine CE.enter 35 [(0, .agg (schV (s) (p) (a) (b)).toArray), (1, .int .u8 (((x : Nat) : Int))), (2, .int .i64 (z))] en_7 Try.func7 rfl rfl (Nat.le_of_ble_eq_true rfl) rfl ?_
  have st := St.start w
  refine Wc.seq ?_
  refine Wc.region rfl ?_
  refine Wl.boxA st rfl ?_
  clear st
  intro b3 w1 st
  refine Wl.pure (PR.assB rfl) ?_
  refine Wl.nil ?_
  refine tn ?_
  refine Wc.seq ?_
  refine Wc.region rfl ?_
  refine Wl.loadA (i := 0) st tA_33 rfl rfl (all_sub schV_len) schV_len ?_
  refine Wl.callV (c_laws_toScheme (s := s) (p := p) (a := a) (b := b) ha hb) rfl ?_
  intro w2 hbel
  replace st := st.call hbel
  clear hbel
  refine Wl.pure (PR.moveI rfl) ?_
  refine Wl.pure (PR.moveI rfl) ?_
  refine Wl.callV (c_spec_SurvivesNoise (s := s) (p := p) (a := a) (b := b) (x := x) (z := z) (by first | assumption | omega) (by first | assumption | omega) ha hb hx) rfl ?_
  intro w3 hbel
  replace st := st.call hbel
  clear hbel
  refine Wl.pure (PR.moveV (.tuple #[.bool (survB s p a b x z), .int .i64 (((survC s p a b x z : Nat) : Int))]) rfl) ?_
  refine Wl.pure (PR.extr (i := 0) (vs := [.bool (survB s p a b x z), .int .i64 (((survC s p a b x z : Nat) : Int))]) rfl rfl) ?_
  refine Wl.pure (PR.extr (i := 1) (vs := [.bool (survB s p a b x z), .int .i64 (((survC s p a b x z : Nat) : Int))]) rfl rfl) ?_
  refine Wl.pure (PR.assB rfl) ?_
  refine Wl.pure (PR.assI rfl) ?_
  refine Wl.nil ?_
  refine tn ?_
  refine Wc.seq ?_
  refine Wc.region rfl ?_
  refine Wl.loadA (i := 0) st tA_33 rfl rfl (all_sub schV_len) schV_len ?_
  refine Wl.callV (c_laws_toScheme (s := s) (p := p) (a := a) (b := b) ha hb) rfl ?_
  intro w4 hbel
  replace st := st.call hbel
  clear hbel
  refine Wl.pure (PR.moveI rfl) ?_
  refine Wl.pure (PR.moveI rfl) ?_
  refine Wl.callV (c_impl_SurvivesNoise (s := s) (p := p) (a := a) (b := b) (x := x) (z := z) (by first | assumption | omega) (by first | assumption | omega) ha hb hx) rfl ?_
  intro w5 hbel
  replace st := st.call hbel
  clear hbel
  refine Wl.pure (PR.moveV (.tuple #[.bool (survB s p a b x z), .int .i64 (((survC s p a b x z : Nat) : Int))]) rfl) ?_
  refine Wl.pure (PR.extr (i := 0) (vs := [.bool (survB s p a b x z), .int .i64 (((survC s p a b x z : Nat) : Int))]) rfl rfl) ?_
  refine Wl.pure (PR.extr (i := 1) (vs := [.bool (survB s p a b x z), .int .i64 (((survC s p a b x z : Nat) : Int))]) rfl rfl) ?_
  refine Wl.pure (PR.assB rfl) ?_
  refine Wl.pure (PR.assI rfl) ?_
  refine Wl.nil ?_
  refine tn ?_
  refine Wc.seq ?_
  refine Wc.seq ?_
  refine Wc.region rfl ?_
  refine Wl.pure (PR.moveB rfl) ?_
  refine Wl.pure (PR.moveB rfl) ?_
  refine Wl.pure (PR.neqB (a := (survB s p a b x z)) (b := (survB s p a b x z)) Try.underlying4 rfl rfl) ?_
  refine Wl.pure (PR.moveB rfl) ?_
  refine Wl.splitB (b := (!(((survB s p a b x z) == (survB s p a b x z))))) rfl rfl (fun h6 => ?_) (fun h6 => ?_)
  · simp only [Bool.not_eq_true', Bool.not_eq_false', Bool.not_true, Bool.not_false] at h6
    refine Wl.pure (PR.moveI rfl) ?_
    refine Wl.on rfl rfl ?_
    refine Wl.pure (PR.moveI rfl) ?_
    refine Wl.on rfl rfl ?_
    refine Wl.pure (PR.neqS (a := ((survC s p a b x z : Nat) : Int)) rfl rfl) ?_
    refine Wl.pure (PR.pickFB rfl rfl) ?_
    refine Wl.nil ?_
    refine tn ?_
    refine Wc.condF rfl ?_
    refine Wc.skip ?_
    refine tn ?_
    refine Wc.seq ?_
    refine Wc.region rfl ?_
    refine Wl.pure (PR.assB rfl) ?_
    refine Wl.nil ?_
    refine tn ?_
    refine Wc.ret ?_
    refine postL.tmp rfl rfl ?_
    exact RetV.of rfl st.below
  · simp only [Bool.not_eq_true', Bool.not_eq_false', Bool.not_true, Bool.not_false] at h6
    refine Wl.off rfl rfl rfl ?_
    refine Wl.off rfl rfl rfl ?_
    refine Wl.pure (PR.pickTB rfl rfl) ?_
    refine Wl.nil ?_
    refine tn ?_
    refine Wc.condT rfl ?_
    refine Wc.seq ?_
    refine Wc.region rfl ?_
    refine Wl.pure (PR.assB rfl) ?_
    refine Wl.nil ?_
    refine tn ?_
    refine Wc.ret ?_
    refine tr ?_
    refine postL.tmp rfl rfl ?_
    refine RetV.of ?_ st.below
    refine congrArg Value.bool ?_
    first | rfl | (simp only [*, decide_true, decide_false, Bool.not_true, Bool.not_false]; done) | (simp; omega) | (rw [Bool.eq_iff_iff]; simp; omega) | simp_all

set_option maxHeartbeats 400000 in
set_option maxRecDepth 4000 in
theorem c_impl_LevelsOf {s : Int} {p : Int} {a : Nat → Nat} {b : Nat → Nat} {x : Nat} {w : World} (hs : -128 ≤ s ∧ s ≤ 127) (hp : -128 ≤ p ∧ p ≤ 127) (ha : ∀ k, a k < 256) (hb : ∀ k, b k < 256) (hx : x < 256) :
    CE Try.prog 25 [.agg (schV (s) (p) (a) (b)).toArray, .int .u8 (((x : Nat) : Int))] w (RetV w (.tuple #[.int .i64 (((sel0 (lvC s p a b x) (wt a x) : Nat) : Int)), .int .i64 (((sel0 (lvC s p a b x) (wt b x) : Nat) : Int)), .int .i64 (((lvC s p a b x : Nat) : Int))])) := by
  refine CE.enter 24 [(0, .agg (schV (s) (p) (a) (b)).toArray), (1, .int .u8 (((x : Nat) : Int)))] en_25 Try.func25 rfl rfl (Nat.le_of_ble_eq_true rfl) rfl ?_
  have st := St.start w
  refine Wc.seq ?_
  refine Wc.region rfl ?_
  refine Wl.boxA st rfl ?_
  clear st
  intro b2 w1 st
  refine Wl.pure (PR.assI rfl) ?_
  refine Wl.pure (PR.assI rfl) ?_
  refine Wl.pure (PR.assI rfl) ?_
  refine Wl.nil ?_
  refine tn ?_
  refine Wc.seq ?_
  refine Wc.seq ?_
  refine Wc.region rfl ?_
  refine Wl.loadA (i := 0) st tA_34 rfl rfl (all_sub schV_len) schV_len ?_
  refine Wl.pure (PR.moveI rfl) ?_
  refine Wl.callV (c_impl_setCode (s := s) (p := p) (a := a) (b := b) (x := x) (by first | assumption | omega) (by first | assumption | omega) ha hb hx) rfl ?_
  intro w2 hbel
  replace st := st.call hbel
  clear hbel
  refine Wl.pure (PR.assI rfl) ?_
  refine Wl.nil ?_
  refine tn ?_
  refine Wc.seq ?_
  refine Wc.region rfl ?_
  refine Wl.pure (PR.moveI rfl) ?_
  refine Wl.pure (PR.neq (a := ((asked s p a b x : Nat) : Int)) (b := 0) rfl rfl) ?_
  refine Wl.nil ?_
  refine tn ?_
  refine Wc.condN (p := ((asked s p a b x : Nat) : Int) = 0) rfl (fun h3 => ?_) (fun h3 => ?_)
  · refine Wc.seq ?_
    refine Wc.region rfl ?_
    refine Wl.pure (PR.moveI rfl) ?_
    refine Wl.pure (PR.assI rfl) ?_
    refine Wl.pure (PR.assI rfl) ?_
    refine Wl.pure (PR.assI rfl) ?_
    refine Wl.nil ?_
    refine tn ?_
    refine Wc.ret ?_
    refine tr ?_
    refine postL.many (rvs := [.tmp 4, .tmp 5, .tmp 6]) rfl (.tmp (v := .int .i64 (0)) rfl (.tmp (v := .int .i64 (0)) rfl (.tmp (v := .int .i64 (((asked s p a b x : Nat) : Int))) rfl .nil))) ?_
    refine RetV.of ?_ st.below
    exact lv_1 (by omega)
  · refine Wc.skip ?_
    refine tn ?_
    refine Wc.seq ?_
    refine Wc.seq ?_
    refine Wc.region rfl ?_
    refine Wl.loadA (i := 0) st tA_34 rfl rfl (all_sub schV_len) schV_len ?_
    refine Wl.pure (PR.moveI rfl) ?_
    refine Wl.callV (c_impl_Scheme_sees (s := s) (p := p) (a := a) (b := b) (x := x) ha hb hx) rfl ?_
    intro w4 hbel
    replace st := st.call hbel
    clear hbel
    refine Wl.pure (PR.not_ rfl) ?_
    refine Wl.nil ?_
    refine tn ?_
    refine Wc.condN (p := 0 < gapZ a b x) rfl (fun h5 => ?_) (fun h5 => ?_)
    · refine Wc.seq ?_
      refine Wc.region rfl ?_
      refine Wl.pure (PR.assI rfl) ?_
      refine Wl.pure (PR.assI rfl) ?_
      refine Wl.pure (PR.assI rfl) ?_
      refine Wl.nil ?_
      refine tn ?_
      refine Wc.ret ?_
      refine tr ?_
      refine postL.many (rvs := [.tmp 4, .tmp 5, .tmp 6]) rfl (.tmp (v := .int .i64 (0)) rfl (.tmp (v := .int .i64 (0)) rfl (.tmp (v := .int .i64 (6)) rfl .nil))) ?_
      refine RetV.of ?_ st.below
      exact lv_2 (by omega) (by omega)
    · refine Wc.skip ?_
      refine tn ?_
      refine Wc.seq ?_
      refine Wc.quiet hmix (by kernel_rfl) rfl ?_
      refine Wq.loadA (i := 0) st tA_34 rfl rfl (all_sub schV_len) schV_len ?_
      refine Wq.pure (PR.moveI rfl) ?_
      refine Wq.callV (fun _ hbel => c_weightF (s := s) (p := p) (a := a) (b := b) (x := x) ha hb hx) rfl ?_
      refine Wq.loadA (i := 0) st tA_34 rfl rfl (all_sub schV_len) schV_len ?_
      refine Wq.pure (PR.moveI rfl) ?_
      refine Wq.callV (fun _ hbel => c_weightT (s := s) (p := p) (a := a) (b := b) (x := x) ha hb hx) rfl ?_
      refine Wq.pure (PR.assI rfl) ?_
      refine Wq.pure (PR.assI rfl) ?_
      refine Wq.pure (PR.assI rfl) ?_
      refine Wq.nil (fun w6 hbel => ?_)
      replace st := st.call hbel
      clear hbel
      refine tn ?_
      refine Wc.ret ?_
      refine postL.many (rvs := [.tmp 4, .tmp 5, .tmp 6]) rfl (.tmp (v := .int .i64 (((wt a x : Nat) : Int))) rfl (.tmp (v := .int .i64 (((wt b x : Nat) : Int))) rfl (.tmp (v := .int .i64 (0)) rfl .nil))) ?_
      refine RetV.of ?_ st.below
      exact lv_3 (by omega) (by omega)

set_option maxHeartbeats 400000 in
set_option maxRecDepth 4000 in
theorem c_spec_LevelsOf {s : Int} {p : Int} {a : Nat → Nat} {b : Nat → Nat} {x : Nat} {w : World} (hs : -128 ≤ s ∧ s ≤ 127) (hp : -128 ≤ p ∧ p ≤ 127) (ha : ∀ k, a k < 256) (hb : ∀ k, b k < 256) (hx : x < 256) :
    CE Try.prog 24 [.agg (schV (s) (p) (a) (b)).toArray, .int .u8 (((x : Nat) : Int))] w (RetV w (.tuple #[.int .i64 (((sel0 (lvC s p a b x) (wt a x) : Nat) : Int)), .int .i64 (((sel0 (lvC s p a b x) (wt b x) : Nat) : Int)), .int .i64 (((lvC s p a b x : Nat) : Int))])) := by
  refine CE.enter 20 [(0, .agg (schV (s) (p) (a) (b)).toArray), (1, .int .u8 (((x : Nat) : Int)))] en_24 Try.func24 rfl rfl (Nat.le_of_ble_eq_true rfl) rfl ?_
  have st := St.start w
  refine Wc.seq ?_
  refine Wc.region rfl ?_
  refine Wl.boxA st rfl ?_
  clear st
  intro b2 w1 st
  refine Wl.pure (PR.assI rfl) ?_
  refine Wl.pure (PR.assI rfl) ?_
  refine Wl.pure (PR.assI rfl) ?_
  refine Wl.nil ?_
  refine tn ?_
  refine Wc.seq ?_
  refine Wc.seq ?_
  refine Wc.region rfl ?_
  refine Wl.pure (PR.moveI rfl) ?_
  refine Wl.callV (c_spec_l02Asked (bk := b2) (o := 0) (s := s) (p := p) (a := a) (b := b) (x := x) (st.rdA (i := 0) rfl (all_sub schV_len)) (by first | assumption | omega) (by first | assumption | omega) ha hb hx) rfl ?_
  intro w2 hbel
  replace st := st.call hbel
  clear hbel
  refine Wl.pure (PR.assI rfl) ?_
  refine Wl.nil ?_
  refine tn ?_
  refine Wc.seq ?_
  refine Wc.region rfl ?_
  refine Wl.pure (PR.moveI rfl) ?_
  refine Wl.pure (PR.neq (a := ((asked s p a b x : Nat) : Int)) (b := 0) rfl rfl) ?_
  refine Wl.nil ?_
  refine tn ?_
  refine Wc.condN (p := ((asked s p a b x : Nat) : Int) = 0) rfl (fun h3 => ?_) (fun h3 => ?_)
  · refine Wc.seq ?_
    refine Wc.region rfl ?_
    refine Wl.pure (PR.moveI rfl) ?_
    refine Wl.pure (PR.assI rfl) ?_
    refine Wl.pure (PR.assI rfl) ?_
    refine Wl.pure (PR.assI rfl) ?_
    refine Wl.nil ?_
    refine tn ?_
    refine Wc.ret ?_
    refine tr ?_
    refine postL.many (rvs := [.tmp 4, .tmp 5, .tmp 6]) rfl (.tmp (v := .int .i64 (0)) rfl (.tmp (v := .int .i64 (0)) rfl (.tmp (v := .int .i64 (((asked s p a b x : Nat) : Int))) rfl .nil))) ?_
    refine RetV.of ?_ st.below
    exact lv_1 (by omega)
  · refine Wc.skip ?_
    refine tn ?_
    refine Wc.seq ?_
    refine Wc.seq ?_
    refine Wc.region rfl ?_
    refine Wl.pure (PR.moveI rfl) ?_
    refine Wl.callV (c_spec_l02Gap (bk := b2) (o := 0) (s := s) (p := p) (a := a) (b := b) (x := x) (st.rdA (i := 0) rfl (all_sub schV_len)) ha hb hx) rfl ?_
    intro w4 hbel
    replace st := st.call hbel
    clear hbel
    refine Wl.pure (PR.leq (a := gapZ a b x) (b := 0) rfl rfl) ?_
    refine Wl.nil ?_
    refine tn ?_
    refine Wc.condD (p := gapZ a b x ≤ 0) rfl (fun h5 => ?_) (fun h5 => ?_)
    · refine Wc.seq ?_
      refine Wc.region rfl ?_
      refine Wl.pure (PR.assI rfl) ?_
      refine Wl.pure (PR.assI rfl) ?_
      refine Wl.pure (PR.assI rfl) ?_
      refine Wl.nil ?_
      refine tn ?_
      refine Wc.ret ?_
      refine tr ?_
      refine postL.many (rvs := [.tmp 4, .tmp 5, .tmp 6]) rfl (.tmp (v := .int .i64 (0)) rfl (.tmp (v := .int .i64 (0)) rfl (.tmp (v := .int .i64 (6)) rfl .nil))) ?_
      refine RetV.of ?_ st.below
      exact lv_2 (by omega) (by omega)
    · refine Wc.skip ?_
      refine tn ?_
      refine Wc.seq ?_
      refine Wc.region rfl ?_
      refine Wl.pure (PR.moveI rfl) ?_
      refine Wl.callV (c_l02WeightF (bk := b2) (o := 0) (s := s) (p := p) (a := a) (b := b) (x := x) (st.rdA (i := 0) rfl (all_sub schV_len)) ha hb hx) rfl ?_
      intro w6 hbel
      replace st := st.call hbel
      clear hbel
      refine Wl.pure (PR.moveI rfl) ?_
      refine Wl.callV (c_l02WeightT (bk := b2) (o := 0) (s := s) (p := p) (a := a) (b := b) (x := x) (st.rdA (i := 0) rfl (all_sub schV_len)) ha hb hx) rfl ?_
      intro w7 hbel
      replace st := st.call hbel
      clear hbel
      refine Wl.pure (PR.assI rfl) ?_
      refine Wl.pure (PR.assI rfl) ?_
      refine Wl.pure (PR.assI rfl) ?_
      refine Wl.nil ?_
      refine tn ?_
      refine Wc.ret ?_
      refine postL.many (rvs := [.tmp 4, .tmp 5, .tmp 6]) rfl (.tmp (v := .int .i64 (((wt a x : Nat) : Int))) rfl (.tmp (v := .int .i64 (((wt b x : Nat) : Int))) rfl (.tmp (v := .int .i64 (0)) rfl .nil))) ?_
      refine RetV.of ?_ st.below
      exact lv_3 (by omega) (by omega)

set_option maxHeartbeats 400000 in
set_option maxRecDepth 4000 in
theorem c_laws_FnExactLevelsOf {s : Int} {p : Int} {a : Nat → Nat} {b : Nat → Nat} {x : Nat} {w : World} (hs : -128 ≤ s ∧ s ≤ 127) (hp : -128 ≤ p ∧ p ≤ 127) (ha : ∀ k, a k < 256) (hb : ∀ k, b k < 256) (hx : x < 256) :
    CE Try.prog 8 [.agg (schV (s) (p) (a) (b)).toArray, .int .u8 (((x : Nat) : Int))] w (RetV w (.bool true)) := by
  refine CE.enter 40 [(0, .agg (schV (s) (p) (a) (b)).toArray), (1, .int .u8 (((x : Nat) : Int)))] en_8 Try.func8 rfl rfl (Nat.le_of_ble_eq_true rfl) rfl ?_
  have st := St.start w
  refine Wc.seq ?_
  refine Wc.region rfl ?_
  refine Wl.boxA st rfl ?_
  clear st
  intro b2 w1 st
  refine Wl.pure (PR.assB rfl) ?_
  refine Wl.nil ?_
  refine tn ?_
  refine Wc.seq ?_
  refine Wc.region rfl ?_
  refine Wl.loadA (i := 0) st tA_33 rfl rfl (all_sub schV_len) schV_len ?_
  refine Wl.callV (c_laws_toScheme (s := s) (p := p) (a := a) (b := b) ha hb) rfl ?_
  intro w2 hbel
  replace st := st.call hbel
  clear hbel
  refine Wl.pure (PR.moveI rfl) ?_
  refine Wl.callV (c_spec_LevelsOf (s := s) (p := p) (a := a) (b := b) (x := x) (by first | assumption | omega) (by first | assumption | omega) ha hb hx) rfl ?_
  intro w3 hbel
  replace st := st.call hbel
  clear hbel
  refine Wl.pure (PR.moveV (.tuple #[.int .i64 (((sel0 (lvC s p a b x) (wt a x) : Nat) : Int)), .int .i64 (((sel0 (lvC s p a b x) (wt b x) : Nat) : Int)), .int .i64 (((lvC s p a b x : Nat) : Int))]) rfl) ?_
  refine Wl.pure (PR.extr (i := 0) (vs := [.int .i64 (((sel0 (lvC s p a b x) (wt a x) : Nat) : Int)), .int .i64 (((sel0 (lvC s p a b x) (wt b x) : Nat) : Int)), .int .i64 (((lvC s p a b x : Nat) : Int))]) rfl rfl) ?_
  refine Wl.pure (PR.extr (i := 1) (vs := [.int .i64 (((sel0 (lvC s p a b x) (wt a x) : Nat) : Int)), .int .i64 (((sel0 (lvC s p a b x) (wt b x) : Nat) : Int)), .int .i64 (((lvC s p a b x : Nat) : Int))]) rfl rfl) ?_
  refine Wl.pure (PR.extr (i := 2) (vs := [.int .i64 (((sel0 (lvC s p a b x) (wt a x) : Nat) : Int)), .int .i64 (((sel0 (lvC s p a b x) (wt b x) : Nat) : Int)), .int .i64 (((lvC s p a b x : Nat) : Int))]) rfl rfl) ?_
  refine Wl.pure (PR.assI rfl) ?_
  refine Wl.pure (PR.assI rfl) ?_
  refine Wl.pure (PR.assI rfl) ?_
  refine Wl.nil ?_
  refine tn ?_
  refine Wc.seq ?_
  refine Wc.region rfl ?_
  refine Wl.loadA (i := 0) st tA_33 rfl rfl (all_sub schV_len) schV_len ?_
  refine Wl.callV (c_laws_toScheme (s := s) (p := p) (a := a) (b := b) ha hb) rfl ?_
  intro w4 hbel
  replace st := st.call hbel
  clear hbel
  refine Wl.pure (PR.moveI rfl) ?_
  refine Wl.callV (c_impl_LevelsOf (s := s) (p := p) (a := a) (b := b) (x := x) (by first | assumption | omega) (by first | assumption | omega) ha hb hx) rfl ?_
  intro w5 hbel
  replace st := st.call hbel
  clear hbel
  refine Wl.pure (PR.moveV (.tuple #[.int .i64 (((sel0 (lvC s p a b x) (wt a x) : Nat) : Int)), .int .i64 (((sel0 (lvC s p a b x) (wt b x) : Nat) : Int)), .int .i64 (((lvC s p a b x : Nat) : Int))]) rfl) ?_
  refine Wl.pure (PR.extr (i := 0) (vs := [.int .i64 (((sel0 (lvC s p a b x) (wt a x) : Nat) : Int)), .int .i64 (((sel0 (lvC s p a b x) (wt b x) : Nat) : Int)), .int .i64 (((lvC s p a b x : Nat) : Int))]) rfl rfl) ?_
  refine Wl.pure (PR.extr (i := 1) (vs := [.int .i64 (((sel0 (lvC s p a b x) (wt a x) : Nat) : Int)), .int .i64 (((sel0 (lvC s p a b x) (wt b x) : Nat) : Int)), .int .i64 (((lvC s p a b x : Nat) : Int))]) rfl rfl) ?_
  refine Wl.pure (PR.extr (i := 2) (vs := [.int .i64 (((sel0 (lvC s p a b x) (wt a x) : Nat) : Int)), .int .i64 (((sel0 (lvC s p a b x) (wt b x) : Nat) : Int)), .int .i64 (((lvC s p a b x : Nat) : Int))]) rfl rfl) ?_
  refine Wl.pure (PR.assI rfl) ?_
  refine Wl.pure (PR.assI rfl) ?_
  refine Wl.pure (PR.assI rfl) ?_
  refine Wl.nil ?_
  refine tn ?_
  refine Wc.seq ?_
  refine Wc.seq ?_
  refine Wc.region rfl ?_
  refine Wl.pure (PR.moveI rfl) ?_
  refine Wl.pure (PR.moveI rfl) ?_
  refine Wl.pure (PR.neqS (a := ((sel0 (lvC s p a b x) (wt a x) : Nat) : Int)) rfl rfl) ?_
  refine Wl.pure (PR.moveB rfl) ?_
  refine Wl.on rfl rfl ?_
  refine Wl.pure (PR.moveI rfl) ?_
  refine Wl.on rfl rfl ?_
  refine Wl.pure (PR.moveI rfl) ?_
  refine Wl.on rfl rfl ?_
  refine Wl.pure (PR.neqS (a := ((sel0 (lvC s p a b x) (wt b x) : Nat) : Int)) rfl rfl) ?_
  refine Wl.pure (PR.pickFB rfl rfl) ?_
  refine Wl.pure (PR.moveB rfl) ?_
  refine Wl.on rfl rfl ?_
  refine Wl.pure (PR.moveI rfl) ?_
  refine Wl.on rfl rfl ?_
  refine Wl.pure (PR.moveI rfl) ?_
  refine Wl.on rfl rfl ?_
  refine Wl.pure (PR.neqS (a := ((lvC s p a b x : Nat) : Int)) rfl rfl) ?_
  refine Wl.pure (PR.pickFB rfl rfl) ?_
  refine Wl.nil ?_
  refine tn ?_
  refine Wc.condF rfl ?_
  refine Wc.skip ?_
  refine tn ?_
  refine Wc.seq ?_
  refine Wc.region rfl ?_
  refine Wl.pure (PR.assB rfl) ?_
  refine Wl.nil ?_
  refine tn ?_
  refine Wc.ret ?_
  refine postL.tmp rfl rfl ?_
  exact RetV.of rfl st.below

end Go.Proofs.Ytjkicobdokcjfaa
