/-
  Contracts of functions, printed by a program of ours.
-/
import Derived.Test.YtagghfllgafmgaaCR2
namespace Go.Proofs.Ytagghfllgafmgaa
open Go.RowKit
set_option linter.unusedVariables false
set_option linter.unusedSimpArgs false

set_option maxHeartbeats 400000 in
set_option maxRecDepth 4000 in
theorem c_impl_ReadTorn {s : Int} {p : Int} {a : Nat → Nat} {b : Nat → Nat} {A : Option Addr} {n : Nat} {cp : Nat} {y : Nat → Int} {c : Nat → Nat → Nat} {x : Nat} {B : Option Addr} {m : Nat} {cq : Nat} {e : Nat → Nat} {w : World} (hs : -128 ≤ s ∧ s ≤ 127) (hp : -128 ≤ p ∧ p ≤ 127) (ha : ∀ k, a k < 256) (hb : ∀ k, b k < 256) (hRL : RdS w A n (layS n y c)) (hg : ∀ i, i < n → -128 ≤ y i ∧ y i ≤ 127) (hc : ∀ i k, c i k < 256) (hn : n ≤ 1048576) (hx : x < 256) (hB : RdS w B m (arrU .u64 m e)) (he : ∀ k, e k < 18446744073709551616) (hm1 : m ≤ 1048576) :
    CE Try.prog 32 [.agg (schV (s) (p) (a) (b)).toArray, .slice (A) (n) (cp), .int .u8 (((x : Nat) : Int)), .slice (B) (m) (cq)] w (RetV w (.tuple #[.int .u64 (((selN (rtC s p a b n y c x m) (bdiff (picT b n c x) (orS e x m)) : Nat) : Int)), .int .u64 (((selN (rtC s p a b n y c x m) (orS e x m) : Nat) : Int)), .int .i64 (((rtC s p a b n y c x m : Nat) : Int))])) := by
  refine CE.enter 59 [(0, .agg (schV (s) (p) (a) (b)).toArray), (1, .slice (A) (n) (cp)), (2, .int .u8 (((x : Nat) : Int))), (3, .slice (B) (m) (cq))] en_32 Try.func32 rfl rfl (Nat.le_of_ble_eq_true rfl) rfl ?_
  have st := St.start w
  refine Wc.seq ?_
  refine Wc.region rfl ?_
  refine Wl.boxA st rfl ?_
  clear st
  intro b4 w1 st
  refine Wl.pure (PR.assI rfl) ?_
  refine Wl.pure (PR.assI rfl) ?_
  refine Wl.pure (PR.assI rfl) ?_
  refine Wl.nil ?_
  refine tn ?_
  refine Wc.seq ?_
  refine Wc.seq ?_
  refine Wc.region rfl ?_
  refine Wl.loadA (i := 0) st tA_62 rfl rfl (all_sub schV_len) schV_len ?_
  refine Wl.pure (PR.moveL rfl) ?_
  refine Wl.callV (c_impl_sharedCode (s := s) (p := p) (a := a) (b := b) (A := A) (n := n) (cp := cp) (y := y) (c := c) (by first | assumption | omega) (by first | assumption | omega) ha hb (hRL.st st) hg hc (by first | assumption | omega)) rfl ?_
  intro w2 hbel
  replace st := st.call hbel
  clear hbel
  refine Wl.pure (PR.assI rfl) ?_
  refine Wl.nil ?_
  refine tn ?_
  refine Wc.seq ?_
  refine Wc.region rfl ?_
  refine Wl.pure (PR.moveI rfl) ?_
  refine Wl.pure (PR.neq (a := ((bothC s p a b n y c : Nat) : Int)) (b := 0) rfl rfl) ?_
  refine Wl.nil ?_
  refine tn ?_
  refine Wc.condN (p := ((bothC s p a b n y c : Nat) : Int) = 0) rfl (fun h3 => ?_) (fun h3 => ?_)
  · refine Wc.seq ?_
    refine Wc.region rfl ?_
    refine Wl.pure (PR.moveI rfl) ?_
    refine Wl.pure (PR.assI rfl) ?_
    refine Wl.pure (PR.assI rfl) ?_
    refine Wl.pure (PR.assI rfl) ?_
    refine Wl.nil ?_
    refine tn ?_
    refine Wc.ret ?_
    refine tr ?_
    refine postL.many (rvs := [.tmp 8, .tmp 9, .tmp 10]) rfl (.tmp (v := .int .u64 (0)) rfl (.tmp (v := .int .u64 (0)) rfl (.tmp (v := .int .i64 (((bothC s p a b n y c : Nat) : Int))) rfl .nil))) ?_
    refine RetV.of ?_ st.below
    first | exact rt_k (rtC_b (by omega)) (by omega) rfl | exact rt_k (rtC_r hb0 hmn) (by omega) rfl
  · refine Wc.skip ?_
    refine tn ?_
    refine Wc.seq ?_
    refine Wc.seq ?_
    have hb0 : bothC s p a b n y c = 0 := by omega
    refine Wc.region rfl ?_
    refine Wl.pure (PR.moveL rfl) ?_
    refine Wl.pure (PR.lenL tS_64 rfl) ?_
    refine Wl.pure (PR.moveL rfl) ?_
    refine Wl.pure (PR.lenL tS_37 rfl) ?_
    refine Wl.pure (PR.neq (a := ((m : Nat) : Int)) (b := ((n : Nat) : Int)) rfl rfl) ?_
    refine Wl.nil ?_
    refine tn ?_
    refine Wc.condN (p := ((m : Nat) : Int) = ((n : Nat) : Int)) rfl (fun h4 => ?_) (fun h4 => ?_)
    · refine Wc.seq ?_
      refine Wc.region rfl ?_
      refine Wl.pure (PR.assI rfl) ?_
      refine Wl.pure (PR.assI rfl) ?_
      refine Wl.pure (PR.assI rfl) ?_
      refine Wl.nil ?_
      refine tn ?_
      refine Wc.ret ?_
      refine tr ?_
      refine postL.many (rvs := [.tmp 8, .tmp 9, .tmp 10]) rfl (.tmp (v := .int .u64 (0)) rfl (.tmp (v := .int .u64 (0)) rfl (.tmp (v := .int .i64 (2)) rfl .nil))) ?_
      refine RetV.of ?_ st.below
      exact rt_k (rtC_2 hb0 (by omega)) (by decide) rfl
    · refine Wc.skip ?_
      refine tn ?_
      refine Wc.seq ?_
      have hmn : m = n := by omega
      refine Wc.region rfl ?_
      refine Wl.loadA (i := 0) st tA_62 rfl rfl (all_sub schV_len) schV_len ?_
      refine Wl.pure (PR.moveL rfl) ?_
      refine Wl.pure (PR.moveI rfl) ?_
      refine Wl.callV (c_impl_ReadWith (s := s) (p := p) (a := a) (b := b) (A := A) (n := n) (cp := cp) (y := y) (c := c) (x := x) (by first | assumption | omega) (by first | assumption | omega) ha hb (hRL.st st) hg hc (by first | assumption | omega) hx) rfl ?_
      intro w5 hbel
      replace st := st.call hbel
      clear hbel
      refine Wl.pure (PR.moveV (.tuple #[.int .u64 (((selN (rwC s p a b n y c x) (picT b n c x) : Nat) : Int)), .int .i64 (((rwC s p a b n y c x : Nat) : Int))]) rfl) ?_
      refine Wl.pure (PR.extr (i := 0) (vs := [.int .u64 (((selN (rwC s p a b n y c x) (picT b n c x) : Nat) : Int)), .int .i64 (((rwC s p a b n y c x : Nat) : Int))]) rfl rfl) ?_
      refine Wl.pure (PR.extr (i := 1) (vs := [.int .u64 (((selN (rwC s p a b n y c x) (picT b n c x) : Nat) : Int)), .int .i64 (((rwC s p a b n y c x : Nat) : Int))]) rfl rfl) ?_
      refine Wl.pure (PR.assI rfl) ?_
      refine Wl.pure (PR.assI rfl) ?_
      refine Wl.nil ?_
      refine tn ?_
      refine Wc.seq ?_
      refine Wc.seq ?_
      refine Wc.region rfl ?_
      refine Wl.pure (PR.moveI rfl) ?_
      refine Wl.pure (PR.neq (a := ((rwC s p a b n y c x : Nat) : Int)) (b := 0) rfl rfl) ?_
      refine Wl.nil ?_
      refine tn ?_
      refine Wc.condN (p := ((rwC s p a b n y c x : Nat) : Int) = 0) rfl (fun h6 => ?_) (fun h6 => ?_)
      · refine Wc.seq ?_
        refine Wc.region rfl ?_
        refine Wl.pure (PR.moveI rfl) ?_
        refine Wl.pure (PR.assI rfl) ?_
        refine Wl.pure (PR.assI rfl) ?_
        refine Wl.pure (PR.assI rfl) ?_
        refine Wl.nil ?_
        refine tn ?_
        refine Wc.ret ?_
        refine tr ?_
        refine postL.many (rvs := [.tmp 8, .tmp 9, .tmp 10]) rfl (.tmp (v := .int .u64 (0)) rfl (.tmp (v := .int .u64 (0)) rfl (.tmp (v := .int .i64 (((rwC s p a b n y c x : Nat) : Int))) rfl .nil))) ?_
        refine RetV.of ?_ st.below
        first | exact rt_k (rtC_b (by omega)) (by omega) rfl | exact rt_k (rtC_r hb0 hmn) (by omega) rfl
      · refine Wc.skip ?_
        refine tn ?_
        refine Wc.seq ?_
        have hrw : rwC s p a b n y c x = 0 := by omega
        refine Wc.region rfl ?_
        refine Wl.pure (PR.assI rfl) ?_
        refine Wl.nil ?_
        refine tn ?_
        refine Wc.seq ?_
        refine Wc.seq ?_
        refine Wc.region rfl ?_
        refine Wl.pure (PR.moveL rfl) ?_
        refine Wl.pure (PR.lenL tS_64 rfl) ?_
        refine Wl.pure (PR.moveI rfl) ?_
        refine Wl.nil ?_
        refine tn ?_
        refine Wc.block ?_
        refine Wc.loopF (γ := Nat × Nat) (fun g => [(2, .int .u8 (((x : Nat) : Int))), (8, .int .u64 (0)), (9, .int .u64 (0)), (10, .int .i64 (0)), (12, .int .u64 (((selN (rwC s p a b n y c x) (picT b n c x) : Nat) : Int))), (14, .int .u64 (((g.2 : Nat) : Int))), (38, .slice (B) (m) (cq)), (39, .int .i64 (((m : Nat) : Int))), (40, .int .i64 (((g.1 : Nat) : Int)))]) (fun g w_ => St [] w w_ [(b4, schV (s) (p) (a) (b), 62)] ∧ (g.1 ≤ m) ∧ (g.2 = 18446744073709551615 - orS e x g.1) ∧ (g.2 < 18446744073709551616)) (fun g => m - g.1) ?_ ?_
        · exact ⟨(0, 18446744073709551615), (.cons rfl (.cons rfl (.cons rfl (.cons rfl (.cons rfl (.cons rfl (.cons rfl (.cons rfl (.cons rfl (.nil _)))))))))), st, (by first | omega | (dsimp only; omega)), (Nat.sub_zero _).symm, (by decide)⟩
        clear st
        rintro ⟨k, v⟩ w7 ⟨st, hk, hv, hvb⟩
        try dsimp only at st hk hv hvb ⊢
        refine Wc.seq ?_
        refine Wc.region rfl ?_
        refine Wl.pure (PR.lss (a := ((k : Nat) : Int)) (b := ((m : Nat) : Int)) rfl rfl) ?_
        refine Wl.nil ?_
        refine tn ?_
        refine Wc.seq ?_
        refine Wc.condD (p := ((k : Nat) : Int) < ((m : Nat) : Int)) rfl (fun h8 => ?_) (fun h8 => ?_)
        · refine Wc.skip ?_
          refine tn ?_
          refine Wc.seq ?_
          refine Wc.block ?_
          refine Wc.seq ?_
          refine Wc.region rfl ?_
          refine Wl.pure (PR.moveI rfl) ?_
          obtain ⟨bs9, os10, rfl, hs11⟩ := hB (by omega)
          refine Wl.pure (PR.idxAddrS1 (i := k) tS_64 rfl rfl (by omega)) ?_
          refine Wl.loadC tA_54 rfl ((hs11.st st).at_ (arrU_get0 (by omega)) (Nat.add_assoc _ _ _).symm) ?_
          refine Wl.pure (PR.assI rfl) ?_
          refine Wl.pure (PR.assI rfl) ?_
          refine Wl.nil ?_
          refine tn ?_
          refine Wc.seq ?_
          refine Wc.region rfl ?_
          refine Wl.pure (PR.moveI rfl) ?_
          refine Wl.pure (PR.moveI rfl) ?_
          refine Wl.pure (PR.shr (a := x) (n := k) rfl rfl (by decide) hx) ?_
          refine Wl.pure (PR.and (a := (x >>> k)) (b := 1) rfl rfl (by decide) (shr_lt hx) (by decide)) ?_
          refine Wl.pure (PR.eql (a := ((((x >>> k) &&& 1) : Nat) : Int)) (b := 1) rfl rfl) ?_
          refine Wl.nil ?_
          refine tn ?_
          refine Wc.condD (p := ((((x >>> k) &&& 1) : Nat) : Int) = 1) rfl (fun h12 => ?_) (fun h12 => ?_)
          · refine Wc.region rfl ?_
            refine Wl.pure (PR.moveI rfl) ?_
            refine Wl.pure (PR.moveI rfl) ?_
            refine Wl.pure (PR.andNot (a := v) (b := e (k)) rfl rfl (by decide) hvb (he (k))) ?_
            refine Wl.pure (PR.assI rfl) ?_
            refine Wl.nil ?_
            refine bn ?_
            refine tn ?_
            refine Wc.region rfl ?_
            refine Wl.pure (PR.add (a := ((k : Nat) : Int)) (b := 1) rfl rfl (by simp only [fitI]; omega)) ?_
            refine Wl.pure (PR.moveI rfl) ?_
            refine Wl.nil ?_
            refine tn ?_
            exact ⟨(k + 1, (bdiff v (e (k)))), (.cons rfl (.cons rfl (.cons rfl (.cons rfl (.cons rfl (.cons rfl (.cons rfl (.cons rfl (.cons rfl (.nil _)))))))))), ⟨st, (by first | omega | (dsimp only; omega)), (by first | exact torn_t he hv (by omega) | exact torn_f hv (by omega)), (by first | exact hvb | exact bdiff_lt hvb)⟩, (by first | omega | (dsimp only; omega))⟩
          · refine Wc.skip ?_
            refine bn ?_
            refine tn ?_
            refine Wc.region rfl ?_
            refine Wl.pure (PR.add (a := ((k : Nat) : Int)) (b := 1) rfl rfl (by simp only [fitI]; omega)) ?_
            refine Wl.pure (PR.moveI rfl) ?_
            refine Wl.nil ?_
            refine tn ?_
            exact ⟨(k + 1, v), (.cons rfl (.cons rfl (.cons rfl (.cons rfl (.cons rfl (.cons rfl (.cons rfl (.cons rfl (.cons rfl (.nil _)))))))))), ⟨st, (by first | omega | (dsimp only; omega)), (by first | exact torn_t he hv (by omega) | exact torn_f hv (by omega)), (by first | exact hvb | exact bdiff_lt hvb)⟩, (by first | omega | (dsimp only; omega))⟩
        · refine Wc.exit ?_
          refine tx ?_
          refine tx ?_
          refine bh ?_
          refine tn ?_
          refine Wc.seq ?_
          refine Wc.region rfl ?_
          refine Wl.pure (PR.moveI rfl) ?_
          refine Wl.pure (PR.moveI rfl) ?_
          refine Wl.pure (PR.and (a := selN (rwC s p a b n y c x) (picT b n c x)) (b := v) rfl rfl (by decide) (selN_lt (picT_lt _ _ _ _)) hvb) ?_
          refine Wl.pure (PR.moveI rfl) ?_
          refine Wl.pure (PR.compl (n := v) rfl (by decide) hvb) ?_
          refine Wl.pure (PR.assI rfl) ?_
          refine Wl.pure (PR.assI rfl) ?_
          refine Wl.pure (PR.assI rfl) ?_
          refine Wl.nil ?_
          refine tn ?_
          refine Wc.ret ?_
          refine postL.many (rvs := [.tmp 8, .tmp 9, .tmp 10]) rfl (.tmp (v := .int .u64 (((((selN (rwC s p a b n y c x) (picT b n c x)) &&& v) : Nat) : Int))) rfl (.tmp (v := .int .u64 ((((18446744073709551615 - (v)) : Nat) : Int))) rfl (.tmp (v := .int .i64 (0)) rfl .nil))) ?_
          refine RetV.of ?_ st.below
          obtain rfl : k = m := by omega
          exact rt_t ((rtC_r hb0 hmn).trans hrw) (by rw [selN_0 hrw, hv, and_full (picT_lt _ _ _ _) (orS_lt64 he x _)]) (by rw [hv]; have := orS_lt64 he x k; omega)

set_option maxHeartbeats 400000 in
set_option maxRecDepth 4000 in
theorem c_spec_ReadTorn {s : Int} {p : Int} {a : Nat → Nat} {b : Nat → Nat} {A : Option Addr} {n : Nat} {cp : Nat} {y : Nat → Int} {c : Nat → Nat → Nat} {x : Nat} {B : Option Addr} {m : Nat} {cq : Nat} {e : Nat → Nat} {w : World} (hs : -128 ≤ s ∧ s ≤ 127) (hp : -128 ≤ p ∧ p ≤ 127) (ha : ∀ k, a k < 256) (hb : ∀ k, b k < 256) (hRL : RdS w A n (layS n y c)) (hg : ∀ i, i < n → -128 ≤ y i ∧ y i ≤ 127) (hc : ∀ i k, c i k < 256) (hn : n ≤ 1048576) (hx : x < 256) (hB : RdS w B m (arrU .u64 m e)) (he : ∀ k, e k < 18446744073709551616) (hm1 : m ≤ 1048576) :
    CE Try.prog 29 [.agg (schV (s) (p) (a) (b)).toArray, .slice (A) (n) (cp), .int .u8 (((x : Nat) : Int)), .slice (B) (m) (cq)] w (RetV w (.tuple #[.int .u64 (((selN (rtC s p a b n y c x m) (bdiff (picT b n c x) (orS e x m)) : Nat) : Int)), .int .u64 (((selN (rtC s p a b n y c x m) (orS e x m) : Nat) : Int)), .int .i64 (((rtC s p a b n y c x m : Nat) : Int))])) := by
  refine CE.enter 58 [(0, .agg (schV (s) (p) (a) (b)).toArray), (1, .slice (A) (n) (cp)), (2, .int .u8 (((x : Nat) : Int))), (3, .slice (B) (m) (cq))] en_29 Try.func29 rfl rfl (Nat.le_of_ble_eq_true rfl) rfl ?_
  have st := St.start w
  refine Wc.seq ?_
  refine Wc.region rfl ?_
  refine Wl.boxA st rfl ?_
  clear st
  intro b4 w1 st
  refine Wl.pure (PR.assI rfl) ?_
  refine Wl.pure (PR.assI rfl) ?_
  refine Wl.pure (PR.assI rfl) ?_
  refine Wl.nil ?_
  refine tn ?_
  refine Wc.seq ?_
  refine Wc.seq ?_
  refine Wc.region rfl ?_
  refine Wl.pure (PR.moveL rfl) ?_
  refine Wl.callV (c_spec_l03Both (bk := b4) (o := 0) (s := s) (p := p) (a := a) (b := b) (A := A) (n := n) (cp := cp) (y := y) (c := c) (st.rdA (i := 0) rfl (all_sub schV_len)) (by first | assumption | omega) (by first | assumption | omega) ha hb (hRL.st st) hg hc (by first | assumption | omega)) rfl ?_
  intro w2 hbel
  replace st := st.call hbel
  clear hbel
  refine Wl.pure (PR.assI rfl) ?_
  refine Wl.nil ?_
  refine tn ?_
  refine Wc.seq ?_
  refine Wc.region rfl ?_
  refine Wl.pure (PR.moveI rfl) ?_
  refine Wl.pure (PR.neq (a := ((bothC s p a b n y c : Nat) : Int)) (b := 0) rfl rfl) ?_
  refine Wl.nil ?_
  refine tn ?_
  refine Wc.condN (p := ((bothC s p a b n y c : Nat) : Int) = 0) rfl (fun h3 => ?_) (fun h3 => ?_)
  · refine Wc.seq ?_
    refine Wc.region rfl ?_
    refine Wl.pure (PR.moveI rfl) ?_
    refine Wl.pure (PR.assI rfl) ?_
    refine Wl.pure (PR.assI rfl) ?_
    refine Wl.pure (PR.assI rfl) ?_
    refine Wl.nil ?_
    refine tn ?_
    refine Wc.ret ?_
    refine tr ?_
    refine postL.many (rvs := [.tmp 8, .tmp 9, .tmp 10]) rfl (.tmp (v := .int .u64 (0)) rfl (.tmp (v := .int .u64 (0)) rfl (.tmp (v := .int .i64 (((bothC s p a b n y c : Nat) : Int))) rfl .nil))) ?_
    refine RetV.of ?_ st.below
    first | exact rt_k (rtC_b (by omega)) (by omega) rfl | exact rt_k (rtC_r hb0 hmn) (by omega) rfl
  · refine Wc.skip ?_
    refine tn ?_
    refine Wc.seq ?_
    refine Wc.seq ?_
    have hb0 : bothC s p a b n y c = 0 := by omega
    refine Wc.region rfl ?_
    refine Wl.pure (PR.moveL rfl) ?_
    refine Wl.pure (PR.lenL tS_64 rfl) ?_
    refine Wl.pure (PR.moveL rfl) ?_
    refine Wl.pure (PR.lenL tS_37 rfl) ?_
    refine Wl.pure (PR.neq (a := ((m : Nat) : Int)) (b := ((n : Nat) : Int)) rfl rfl) ?_
    refine Wl.nil ?_
    refine tn ?_
    refine Wc.condN (p := ((m : Nat) : Int) = ((n : Nat) : Int)) rfl (fun h4 => ?_) (fun h4 => ?_)
    · refine Wc.seq ?_
      refine Wc.region rfl ?_
      refine Wl.pure (PR.assI rfl) ?_
      refine Wl.pure (PR.assI rfl) ?_
      refine Wl.pure (PR.assI rfl) ?_
      refine Wl.nil ?_
      refine tn ?_
      refine Wc.ret ?_
      refine tr ?_
      refine postL.many (rvs := [.tmp 8, .tmp 9, .tmp 10]) rfl (.tmp (v := .int .u64 (0)) rfl (.tmp (v := .int .u64 (0)) rfl (.tmp (v := .int .i64 (2)) rfl .nil))) ?_
      refine RetV.of ?_ st.below
      exact rt_k (rtC_2 hb0 (by omega)) (by decide) rfl
    · refine Wc.skip ?_
      refine tn ?_
      refine Wc.seq ?_
      have hmn : m = n := by omega
      refine Wc.region rfl ?_
      refine Wl.loadA (i := 0) st tA_62 rfl rfl (all_sub schV_len) schV_len ?_
      refine Wl.pure (PR.moveL rfl) ?_
      refine Wl.pure (PR.moveI rfl) ?_
      refine Wl.callV (c_spec_ReadWith (s := s) (p := p) (a := a) (b := b) (A := A) (n := n) (cp := cp) (y := y) (c := c) (x := x) (by first | assumption | omega) (by first | assumption | omega) ha hb (hRL.st st) hg hc (by first | assumption | omega) hx) rfl ?_
      intro w5 hbel
      replace st := st.call hbel
      clear hbel
      refine Wl.pure (PR.moveV (.tuple #[.int .u64 (((selN (rwC s p a b n y c x) (picT b n c x) : Nat) : Int)), .int .i64 (((rwC s p a b n y c x : Nat) : Int))]) rfl) ?_
      refine Wl.pure (PR.extr (i := 0) (vs := [.int .u64 (((selN (rwC s p a b n y c x) (picT b n c x) : Nat) : Int)), .int .i64 (((rwC s p a b n y c x : Nat) : Int))]) rfl rfl) ?_
      refine Wl.pure (PR.extr (i := 1) (vs := [.int .u64 (((selN (rwC s p a b n y c x) (picT b n c x) : Nat) : Int)), .int .i64 (((rwC s p a b n y c x : Nat) : Int))]) rfl rfl) ?_
      refine Wl.pure (PR.assI rfl) ?_
      refine Wl.pure (PR.assI rfl) ?_
      refine Wl.nil ?_
      refine tn ?_
      refine Wc.seq ?_
      refine Wc.seq ?_
      refine Wc.region rfl ?_
      refine Wl.pure (PR.moveI rfl) ?_
      refine Wl.pure (PR.neq (a := ((rwC s p a b n y c x : Nat) : Int)) (b := 0) rfl rfl) ?_
      refine Wl.nil ?_
      refine tn ?_
      refine Wc.condN (p := ((rwC s p a b n y c x : Nat) : Int) = 0) rfl (fun h6 => ?_) (fun h6 => ?_)
      · refine Wc.seq ?_
        refine Wc.region rfl ?_
        refine Wl.pure (PR.moveI rfl) ?_
        refine Wl.pure (PR.assI rfl) ?_
        refine Wl.pure (PR.assI rfl) ?_
        refine Wl.pure (PR.assI rfl) ?_
        refine Wl.nil ?_
        refine tn ?_
        refine Wc.ret ?_
        refine tr ?_
        refine postL.many (rvs := [.tmp 8, .tmp 9, .tmp 10]) rfl (.tmp (v := .int .u64 (0)) rfl (.tmp (v := .int .u64 (0)) rfl (.tmp (v := .int .i64 (((rwC s p a b n y c x : Nat) : Int))) rfl .nil))) ?_
        refine RetV.of ?_ st.below
        first | exact rt_k (rtC_b (by omega)) (by omega) rfl | exact rt_k (rtC_r hb0 hmn) (by omega) rfl
      · refine Wc.skip ?_
        refine tn ?_
        refine Wc.seq ?_
        have hrw : rwC s p a b n y c x = 0 := by omega
        refine Wc.region rfl ?_
        refine Wl.pure (PR.assI rfl) ?_
        refine Wl.nil ?_
        refine tn ?_
        refine Wc.seq ?_
        refine Wc.seq ?_
        refine Wc.region rfl ?_
        refine Wl.pure (PR.assI rfl) ?_
        refine Wl.nil ?_
        refine tn ?_
        refine Wc.block ?_
        refine Wc.loopF (γ := Nat × Nat) (fun g => [(2, .int .u8 (((x : Nat) : Int))), (3, .slice (B) (m) (cq)), (8, .int .u64 (0)), (9, .int .u64 (0)), (10, .int .i64 (0)), (12, .int .u64 (((selN (rwC s p a b n y c x) (picT b n c x) : Nat) : Int))), (14, .int .u64 (((g.2 : Nat) : Int))), (15, .int .i64 (((g.1 : Nat) : Int)))]) (fun g w_ => St [] w w_ [(b4, schV (s) (p) (a) (b), 62)] ∧ (g.1 ≤ m) ∧ (g.2 = orS e x g.1) ∧ (g.2 < 18446744073709551616)) (fun g => m - g.1) ?_ ?_
        · exact ⟨(0, 0), (.cons rfl (.cons rfl (.cons rfl (.cons rfl (.cons rfl (.cons rfl (.cons rfl (.cons rfl (.nil _))))))))), st, (by first | omega | (dsimp only; omega)), rfl, (by decide)⟩
        clear st
        rintro ⟨k, v⟩ w7 ⟨st, hk, hv, hvb⟩
        try dsimp only at st hk hv hvb ⊢
        refine Wc.seq ?_
        refine Wc.seq ?_
        refine Wc.region rfl ?_
        refine Wl.pure (PR.moveI rfl) ?_
        refine Wl.pure (PR.moveL rfl) ?_
        refine Wl.pure (PR.lenL tS_64 rfl) ?_
        refine Wl.pure (PR.lss (a := ((k : Nat) : Int)) (b := ((m : Nat) : Int)) rfl rfl) ?_
        refine Wl.nil ?_
        refine tn ?_
        refine Wc.condD (p := ((k : Nat) : Int) < ((m : Nat) : Int)) rfl (fun h8 => ?_) (fun h8 => ?_)
        · refine Wc.skip ?_
          refine tn ?_
          refine Wc.seq ?_
          refine Wc.block ?_
          refine Wc.seq ?_
          refine Wc.region rfl ?_
          refine Wl.pure (PR.moveI rfl) ?_
          refine Wl.pure (PR.moveI rfl) ?_
          refine Wl.pure (PR.conv (n := ((k : Nat) : Int)) tI_76 rfl (by simp only [fitI]; omega) Try.underlying3) ?_
          refine Wl.pure (PR.shr (a := x) (n := k) rfl rfl (by decide) hx) ?_
          refine Wl.pure (PR.and (a := (x >>> k)) (b := 1) rfl rfl (by decide) (shr_lt hx) (by decide)) ?_
          refine Wl.pure (PR.eql (a := ((((x >>> k) &&& 1) : Nat) : Int)) (b := 1) rfl rfl) ?_
          refine Wl.nil ?_
          refine tn ?_
          refine Wc.condD (p := ((((x >>> k) &&& 1) : Nat) : Int) = 1) rfl (fun h9 => ?_) (fun h9 => ?_)
          · refine Wc.region rfl ?_
            refine Wl.pure (PR.moveI rfl) ?_
            refine Wl.pure (PR.moveL rfl) ?_
            refine Wl.pure (PR.moveI rfl) ?_
            obtain ⟨bs10, os11, rfl, hs12⟩ := hB (by omega)
            refine Wl.pure (PR.idxAddrS1 (i := k) tS_64 rfl rfl (by omega)) ?_
            refine Wl.loadC tA_54 rfl ((hs12.st st).at_ (arrU_get0 (by omega)) (Nat.add_assoc _ _ _).symm) ?_
            refine Wl.pure (PR.or (a := v) (b := e (k)) rfl rfl (by decide) hvb (he (k))) ?_
            refine Wl.pure (PR.assI rfl) ?_
            refine Wl.nil ?_
            refine bn ?_
            refine tn ?_
            refine Wc.region rfl ?_
            refine Wl.pure (PR.moveI rfl) ?_
            refine Wl.pure (PR.add (a := ((k : Nat) : Int)) (b := 1) rfl rfl (by simp only [fitI]; omega)) ?_
            refine Wl.pure (PR.assI rfl) ?_
            refine Wl.nil ?_
            refine tn ?_
            exact ⟨(k + 1, (v ||| (e (k)))), (.cons rfl (.cons rfl (.cons rfl (.cons rfl (.cons rfl (.cons rfl (.cons rfl (.cons rfl (.nil _))))))))), ⟨st, (by first | omega | (dsimp only; omega)), (by first | exact orS_t hv (by omega) | exact orS_f hv (by omega)), (by first | exact hvb | exact or_lt_u64 hvb (he k))⟩, (by first | omega | (dsimp only; omega))⟩
          · refine Wc.skip ?_
            refine bn ?_
            refine tn ?_
            refine Wc.region rfl ?_
            refine Wl.pure (PR.moveI rfl) ?_
            refine Wl.pure (PR.add (a := ((k : Nat) : Int)) (b := 1) rfl rfl (by simp only [fitI]; omega)) ?_
            refine Wl.pure (PR.assI rfl) ?_
            refine Wl.nil ?_
            refine tn ?_
            exact ⟨(k + 1, v), (.cons rfl (.cons rfl (.cons rfl (.cons rfl (.cons rfl (.cons rfl (.cons rfl (.cons rfl (.nil _))))))))), ⟨st, (by first | omega | (dsimp only; omega)), (by first | exact orS_t hv (by omega) | exact orS_f hv (by omega)), (by first | exact hvb | exact or_lt_u64 hvb (he k))⟩, (by first | omega | (dsimp only; omega))⟩
        · refine Wc.exit ?_
          refine tx ?_
          refine tx ?_
          refine bh ?_
          refine tn ?_
          refine Wc.seq ?_
          refine Wc.region rfl ?_
          refine Wl.pure (PR.moveI rfl) ?_
          refine Wl.pure (PR.moveI rfl) ?_
          refine Wl.pure (PR.andNot (a := selN (rwC s p a b n y c x) (picT b n c x)) (b := v) rfl rfl (by decide) (selN_lt (picT_lt _ _ _ _)) hvb) ?_
          refine Wl.pure (PR.moveI rfl) ?_
          refine Wl.pure (PR.assI rfl) ?_
          refine Wl.pure (PR.assI rfl) ?_
          refine Wl.pure (PR.assI rfl) ?_
          refine Wl.nil ?_
          refine tn ?_
          refine Wc.ret ?_
          refine postL.many (rvs := [.tmp 8, .tmp 9, .tmp 10]) rfl (.tmp (v := .int .u64 ((((bdiff (selN (rwC s p a b n y c x) (picT b n c x)) v) : Nat) : Int))) rfl (.tmp (v := .int .u64 (((v : Nat) : Int))) rfl (.tmp (v := .int .i64 (0)) rfl .nil))) ?_
          refine RetV.of ?_ st.below
          obtain rfl : k = m := by omega
          exact rt_t ((rtC_r hb0 hmn).trans hrw) (by rw [selN_0 hrw, hv]) hv

set_option maxHeartbeats 400000 in
set_option maxRecDepth 4000 in
theorem c_laws_eqPictureS {A : Option Addr} {n : Nat} {cp : Nat} {c : Nat → Nat} {B : Option Addr} {cq : Nat} {w : World} (hR : RdS w A n (arrU .u64 n c)) (hQ : RdS w B n (arrU .u64 n c)) (hn : n ≤ 1048576) :
    CE Try.prog 33 [.slice (A) (n) (cp), .slice (B) (n) (cq)] w (RetV w (.bool true)) := by
  refine CE.enter 26 [(0, .slice (A) (n) (cp)), (1, .slice (B) (n) (cq))] en_33 Try.func33 rfl rfl (Nat.le_of_ble_eq_true rfl) rfl ?_
  have st := St.start w
  refine Wc.seq ?_
  refine Wc.region rfl ?_
  refine Wl.pure (PR.assB rfl) ?_
  refine Wl.nil ?_
  refine tn ?_
  refine Wc.seq ?_
  refine Wc.seq ?_
  refine Wc.region rfl ?_
  refine Wl.pure (PR.moveL rfl) ?_
  refine Wl.pure (PR.lenL tS_64 rfl) ?_
  refine Wl.pure (PR.moveL rfl) ?_
  refine Wl.pure (PR.lenL tS_64 rfl) ?_
  refine Wl.pure (PR.neqS (a := ((n : Nat) : Int)) rfl rfl) ?_
  refine Wl.nil ?_
  refine tn ?_
  refine Wc.condF rfl ?_
  refine Wc.skip ?_
  refine tn ?_
  refine Wc.seq ?_
  refine Wc.seq ?_
  refine Wc.region rfl ?_
  refine Wl.pure (PR.assI rfl) ?_
  refine Wl.nil ?_
  refine tn ?_
  refine Wc.block ?_
  refine Wc.loopF (γ := Nat) (fun g => [(0, .slice (A) (n) (cp)), (1, .slice (B) (n) (cq)), (5, .int .i64 (((g : Nat) : Int)))]) (fun g w_ => St [] w w_ [] ∧ (g ≤ n)) (fun g => n - g) ?_ ?_
  · exact ⟨0, (.cons rfl (.cons rfl (.cons rfl (.nil _)))), st, (by first | omega | (dsimp only; omega))⟩
  clear st
  rintro k w1 ⟨st, hk⟩
  try dsimp only at st hk ⊢
  refine Wc.seq ?_
  refine Wc.seq ?_
  refine Wc.region rfl ?_
  refine Wl.pure (PR.moveI rfl) ?_
  refine Wl.pure (PR.moveL rfl) ?_
  refine Wl.pure (PR.lenL tS_64 rfl) ?_
  refine Wl.pure (PR.lss (a := ((k : Nat) : Int)) (b := ((n : Nat) : Int)) rfl rfl) ?_
  refine Wl.nil ?_
  refine tn ?_
  refine Wc.condD (p := ((k : Nat) : Int) < ((n : Nat) : Int)) rfl (fun h2 => ?_) (fun h2 => ?_)
  · refine Wc.skip ?_
    refine tn ?_
    refine Wc.seq ?_
    refine Wc.block ?_
    refine Wc.seq ?_
    refine Wc.quiet hmix (by kernel_rfl) rfl ?_
    refine Wq.pure (PR.moveL rfl) ?_
    refine Wq.pure (PR.moveI rfl) ?_
    obtain ⟨bs3, os4, rfl, hs5⟩ := hR (by omega)
    refine Wq.pure (PR.idxAddrS1 (i := k) tS_64 rfl rfl (by omega)) ?_
    refine Wq.loadC tA_54 rfl ((hs5.st st).at_ (arrU_get0 (by omega)) (Nat.add_assoc _ _ _).symm) ?_
    refine Wq.pure (PR.moveL rfl) ?_
    refine Wq.pure (PR.moveI rfl) ?_
    obtain ⟨bs6, os7, rfl, hs8⟩ := hQ (by omega)
    refine Wq.pure (PR.idxAddrS1 (i := k) tS_64 rfl rfl (by omega)) ?_
    refine Wq.loadC tA_54 rfl ((hs8.st st).at_ (arrU_get0 (by omega)) (Nat.add_assoc _ _ _).symm) ?_
    refine Wq.pure (PR.neqS (a := ((c (k) : Nat) : Int)) rfl rfl) ?_
    refine Wq.nil (fun w9 hbel => ?_)
    replace st := st.call hbel
    clear hbel
    refine tn ?_
    refine Wc.condF rfl ?_
    refine Wc.skip ?_
    refine bn ?_
    refine tn ?_
    refine Wc.region rfl ?_
    refine Wl.pure (PR.moveI rfl) ?_
    refine Wl.pure (PR.add (a := ((k : Nat) : Int)) (b := 1) rfl rfl (by simp only [fitI]; omega)) ?_
    refine Wl.pure (PR.assI rfl) ?_
    refine Wl.nil ?_
    refine tn ?_
    exact ⟨k + 1, (.cons rfl (.cons rfl (.cons rfl (.nil _)))), ⟨st, (by first | omega | (dsimp only; omega))⟩, (by first | omega | (dsimp only; omega))⟩
  · refine Wc.exit ?_
    refine tx ?_
    refine tx ?_
    refine bh ?_
    refine tn ?_
    refine Wc.seq ?_
    refine Wc.region rfl ?_
    refine Wl.pure (PR.assB rfl) ?_
    refine Wl.nil ?_
    refine tn ?_
    refine Wc.ret ?_
    refine postL.tmp rfl rfl ?_
    exact RetV.of rfl st.below

set_option maxHeartbeats 400000 in
set_option maxRecDepth 4000 in
theorem c_laws_toPictureS {A : Option Addr} {n : Nat} {cp : Nat} {c : Nat → Nat} {w : World} (hR : RdS w A n (arrU .u64 n c)) (hn : n ≤ 1048576) (hc : ∀ k, c k < 18446744073709551616) :
    CE Try.prog 31 [.slice (A) (n) (cp)] w (RetS w 54 (n) (n) (arrU .u64 n c)) := by
  refine CE.enter 22 [(0, .slice (A) (n) (cp))] en_31 Try.func31 rfl rfl (Nat.le_of_ble_eq_true rfl) rfl ?_
  have st := St.start w
  refine Wc.seq ?_
  refine Wc.region rfl ?_
  refine Wl.pure (PR.assL rfl) ?_
  refine Wl.nil ?_
  refine tn ?_
  refine Wc.seq ?_
  refine Wc.region rfl ?_
  refine Wl.pure (PR.moveL rfl) ?_
  refine Wl.pure (PR.lenL tS_59 rfl) ?_
  refine Wl.makeSlice (n := n) st tS_64 tZ_54 rfl rfl rfl (by omega) (by omega) ?_
  clear st
  intro b7 w1 st
  rw [made_arrU] at st
  refine Wl.pure (PR.assL rfl) ?_
  refine Wl.nil ?_
  refine tn ?_
  refine Wc.seq ?_
  refine Wc.seq ?_
  refine Wc.region rfl ?_
  refine Wl.pure (PR.assI rfl) ?_
  refine Wl.nil ?_
  refine tn ?_
  refine Wc.block ?_
  refine Wc.loopF (γ := Nat × (Nat → Nat)) (fun g => [(0, .slice (A) (n) (cp)), (2, .slice (none) (0) (0)), (3, .slice (some ⟨b7, 0, none⟩) (n) (n)), (4, .int .i64 (((g.1 : Nat) : Int)))]) (fun g w_ => St [] w w_ [(b7, arrU .u64 n g.2, 54)] ∧ (g.1 ≤ n) ∧ (∀ j, j < g.1 → g.2 j = c j)) (fun g => n - g.1) ?_ ?_
  · exact ⟨(0, (fun _ => 0)), (.cons rfl (.cons rfl (.cons rfl (.cons rfl (.nil _))))), st, (by first | omega | (dsimp only; omega)), (fun j hj => by omega)⟩
  clear st
  rintro ⟨k, c1⟩ w2 ⟨st, hk, gx⟩
  try dsimp only at st hk gx ⊢
  refine Wc.seq ?_
  refine Wc.seq ?_
  refine Wc.region rfl ?_
  refine Wl.pure (PR.moveI rfl) ?_
  refine Wl.pure (PR.moveL rfl) ?_
  refine Wl.pure (PR.lenL tS_59 rfl) ?_
  refine Wl.pure (PR.lss (a := ((k : Nat) : Int)) (b := ((n : Nat) : Int)) rfl rfl) ?_
  refine Wl.nil ?_
  refine tn ?_
  refine Wc.condD (p := ((k : Nat) : Int) < ((n : Nat) : Int)) rfl (fun h3 => ?_) (fun h3 => ?_)
  · refine Wc.skip ?_
    refine tn ?_
    refine Wc.seq ?_
    refine Wc.block ?_
    refine Wc.region rfl ?_
    refine Wl.pure (PR.moveL rfl) ?_
    refine Wl.pure (PR.moveI rfl) ?_
    refine Wl.pure (PR.moveL rfl) ?_
    refine Wl.pure (PR.moveI rfl) ?_
    obtain ⟨bs4, os5, rfl, hs6⟩ := hR (by omega)
    refine Wl.pure (PR.idxAddrS1 (i := k) tS_59 rfl rfl (by omega)) ?_
    refine Wl.loadC tA_51 rfl ((hs6.st st).at_ (arrU_get0 (by omega)) (Nat.add_assoc _ _ _).symm) ?_
    refine Wl.pure (PR.idxAddrS1 (i := k) tS_64 rfl rfl (by omega)) ?_
    refine Wl.store (i := 0) (cs' := arrU .u64 n (upd c1 (k) (c (k)))) st tA_54 rfl rfl rfl rfl (lt_of_len (arrU_len _) (by omega)) (arrU_set0) ?_
    clear st
    intro w7 st
    replace st : St [] w w7 [(b7, arrU .u64 n (upd c1 (k) (c (k))), 54)] := st
    refine Wl.nil ?_
    refine bn ?_
    refine tn ?_
    refine Wc.region rfl ?_
    refine Wl.pure (PR.moveI rfl) ?_
    refine Wl.pure (PR.add (a := ((k : Nat) : Int)) (b := 1) rfl rfl (by simp only [fitI]; omega)) ?_
    refine Wl.pure (PR.assI rfl) ?_
    refine Wl.nil ?_
    refine tn ?_
    exact ⟨(k + 1, upd c1 (k) (c (k))), (.cons rfl (.cons rfl (.cons rfl (.cons rfl (.nil _))))), ⟨st, (by first | omega | (dsimp only; omega)), (upd_snoc gx rfl)⟩, (by first | omega | (dsimp only; omega))⟩
  · refine Wc.exit ?_
    refine tx ?_
    refine tx ?_
    refine bh ?_
    refine tn ?_
    refine Wc.seq ?_
    refine Wc.region rfl ?_
    refine Wl.pure (PR.moveL rfl) ?_
    refine Wl.pure (PR.assL rfl) ?_
    refine Wl.nil ?_
    refine tn ?_
    refine Wc.ret ?_
    refine postL.tmp rfl rfl ?_
    exact st.retS (i := 0) rfl (arrU_congr (fun j hj => gx j (by omega)))

set_option maxHeartbeats 400000 in
set_option maxRecDepth 4000 in
theorem c_laws_FnExactReadTorn {s : Int} {p : Int} {a : Nat → Nat} {b : Nat → Nat} {A : Option Addr} {n : Nat} {cp : Nat} {y : Nat → Int} {c : Nat → Nat → Nat} {x : Nat} {B : Option Addr} {m : Nat} {cq : Nat} {e : Nat → Nat} {w : World} (hs : -128 ≤ s ∧ s ≤ 127) (hp : -128 ≤ p ∧ p ≤ 127) (ha : ∀ k, a k < 256) (hb : ∀ k, b k < 256) (hRL : RdS w A n (layS n y c)) (hg : ∀ i, i < n → -128 ≤ y i ∧ y i ≤ 127) (hc : ∀ i k, c i k < 256) (hn : n ≤ 9223372036854775807) (hx : x < 256) (hB : RdS w B m (arrU .u64 m e)) (he : ∀ k, e k < 18446744073709551616) (hm1 : m ≤ 9223372036854775807) :
    CE Try.prog 7 [.agg (schV (s) (p) (a) (b)).toArray, .slice (A) (n) (cp), .int .u8 (((x : Nat) : Int)), .slice (B) (m) (cq)] w (RetV w (.bool true)) := by
  refine CE.enter 75 [(0, .agg (schV (s) (p) (a) (b)).toArray), (1, .slice (A) (n) (cp)), (2, .int .u8 (((x : Nat) : Int))), (3, .slice (B) (m) (cq))] en_7 Try.func7 rfl rfl (Nat.le_of_ble_eq_true rfl) rfl ?_
  have st := St.start w
  refine Wc.seq ?_
  refine Wc.region rfl ?_
  refine Wl.boxA st rfl ?_
  clear st
  intro b4 w1 st
  refine Wl.pure (PR.assB rfl) ?_
  refine Wl.nil ?_
  refine tn ?_
  refine Wc.seq ?_
  refine Wc.seq ?_
  refine Wc.region rfl ?_
  refine Wl.pure (PR.moveL rfl) ?_
  refine Wl.pure (PR.lenL tS_59 rfl) ?_
  refine Wl.pure (PR.gtr (a := ((m : Nat) : Int)) (b := 1048576) rfl rfl) ?_
  refine Wl.nil ?_
  refine tn ?_
  refine Wc.condD (p := 1048576 < ((m : Nat) : Int)) rfl (fun h2 => ?_) (fun h2 => ?_)
  · refine Wc.seq ?_
    refine Wc.region rfl ?_
    refine Wl.pure (PR.assB rfl) ?_
    refine Wl.nil ?_
    refine tn ?_
    refine Wc.ret ?_
    refine tr ?_
    refine postL.tmp rfl rfl ?_
    exact RetV.of rfl st.below
  · refine Wc.skip ?_
    refine tn ?_
    refine Wc.seq ?_
    refine Wc.region rfl ?_
    refine Wl.pure (PR.assI rfl) ?_
    refine Wl.nil ?_
    refine tn ?_
    refine Wc.seq ?_
    refine Wc.region rfl ?_
    refine Wl.pure (PR.moveL rfl) ?_
    refine Wl.pure (PR.moveI rfl) ?_
    refine Wl.callV (c_laws_szLayerS (A := A) (n := n) (cp := cp) (p := y) (c := c) (z := 1048576) (by first | assumption | omega) (by first | assumption | omega)) rfl ?_
    intro w3 hbel
    replace st := st.call hbel
    clear hbel
    refine Wl.pure (PR.assI rfl) ?_
    refine Wl.nil ?_
    refine tn ?_
    refine Wc.seq ?_
    refine Wc.seq ?_
    refine Wc.region rfl ?_
    refine Wl.pure (PR.moveI rfl) ?_
    refine Wl.pure (PR.lss (a := (szL n 1048576)) (b := 0) rfl rfl) ?_
    refine Wl.nil ?_
    refine tn ?_
    refine Wc.condD (p := (szL n 1048576) < 0) rfl (fun h4 => ?_) (fun h4 => ?_)
    · refine Wc.seq ?_
      refine Wc.region rfl ?_
      refine Wl.pure (PR.assB rfl) ?_
      refine Wl.nil ?_
      refine tn ?_
      refine Wc.ret ?_
      refine tr ?_
      refine postL.tmp rfl rfl ?_
      exact RetV.of rfl st.below
    · refine Wc.skip ?_
      refine tn ?_
      refine Wc.seq ?_
      obtain ⟨hn1, hz1⟩ := szL_ok (n := n) (z := 1048576) (by omega)
      refine Wc.region rfl ?_
      refine Wl.loadA (i := 0) st tA_58 rfl rfl (all_sub schV_len) schV_len ?_
      refine Wl.callV (c_laws_toScheme (s := s) (p := p) (a := a) (b := b) ha hb) rfl ?_
      intro w5 hbel
      replace st := st.call hbel
      clear hbel
      refine Wl.pure (PR.moveL rfl) ?_
      refine Wl.callS st (c_laws_toLayerS (A := A) (n := n) (cp := cp) (p := y) (c := c) (hRL.st st) hc (by first | assumption | omega)) rfl ?_
      clear st
      intro b30 w6 st
      refine Wl.pure (PR.moveI rfl) ?_
      refine Wl.pure (PR.moveL rfl) ?_
      refine Wl.callS st (c_laws_toPictureS (A := B) (n := m) (cp := cq) (c := e) (hB.st st) (by first | assumption | omega) he) rfl ?_
      clear st
      intro b33 w7 st
      refine Wl.callV (c_spec_ReadTorn (s := s) (p := p) (a := a) (b := b) (A := some ⟨b30, 0, none⟩) (n := n) (cp := n) (y := y) (c := c) (x := x) (B := some ⟨b33, 0, none⟩) (m := m) (cq := m) (e := e) (by first | assumption | omega) (by first | assumption | omega) ha hb ((st.rdA (i := 1) (n := (n * 65)) rfl (all_sub (recV_len (s := 65) (layS_row _ _) _))).sl) hg hc (by first | assumption | omega) hx ((st.rdA (i := 0) (n := m) rfl (all_sub (arrU_len _))).sl) he (by first | assumption | omega)) rfl ?_
      intro w8 hbel
      replace st := st.call hbel
      clear hbel
      refine Wl.pure (PR.moveV (.tuple #[.int .u64 (((selN (rtC s p a b n y c x m) (bdiff (picT b n c x) (orS e x m)) : Nat) : Int)), .int .u64 (((selN (rtC s p a b n y c x m) (orS e x m) : Nat) : Int)), .int .i64 (((rtC s p a b n y c x m : Nat) : Int))]) rfl) ?_
      refine Wl.pure (PR.extr (i := 0) (vs := [.int .u64 (((selN (rtC s p a b n y c x m) (bdiff (picT b n c x) (orS e x m)) : Nat) : Int)), .int .u64 (((selN (rtC s p a b n y c x m) (orS e x m) : Nat) : Int)), .int .i64 (((rtC s p a b n y c x m : Nat) : Int))]) rfl rfl) ?_
      refine Wl.pure (PR.extr (i := 1) (vs := [.int .u64 (((selN (rtC s p a b n y c x m) (bdiff (picT b n c x) (orS e x m)) : Nat) : Int)), .int .u64 (((selN (rtC s p a b n y c x m) (orS e x m) : Nat) : Int)), .int .i64 (((rtC s p a b n y c x m : Nat) : Int))]) rfl rfl) ?_
      refine Wl.pure (PR.extr (i := 2) (vs := [.int .u64 (((selN (rtC s p a b n y c x m) (bdiff (picT b n c x) (orS e x m)) : Nat) : Int)), .int .u64 (((selN (rtC s p a b n y c x m) (orS e x m) : Nat) : Int)), .int .i64 (((rtC s p a b n y c x m : Nat) : Int))]) rfl rfl) ?_
      refine Wl.pure (PR.assI rfl) ?_
      refine Wl.pure (PR.assI rfl) ?_
      refine Wl.pure (PR.assI rfl) ?_
      refine Wl.nil ?_
      refine tn ?_
      refine Wc.seq ?_
      refine Wc.region rfl ?_
      refine Wl.pure (PR.moveL rfl) ?_
      refine Wl.callS st (c_laws_toLayerS (A := A) (n := n) (cp := cp) (p := y) (c := c) (hRL.st st) hc (by first | assumption | omega)) rfl ?_
      clear st
      intro b39 w9 st
      refine Wl.pure (PR.assL rfl) ?_
      refine Wl.nil ?_
      refine tn ?_
      refine Wc.seq ?_
      refine Wc.region rfl ?_
      refine Wl.pure (PR.moveL rfl) ?_
      refine Wl.callS st (c_laws_toPictureS (A := B) (n := m) (cp := cq) (c := e) (hB.st st) (by first | assumption | omega) he) rfl ?_
      clear st
      intro b41 w10 st
      refine Wl.pure (PR.assL rfl) ?_
      refine Wl.nil ?_
      refine tn ?_
      refine Wc.seq ?_
      refine Wc.region rfl ?_
      refine Wl.loadA (i := 4) st tA_58 rfl rfl (all_sub schV_len) schV_len ?_
      refine Wl.callV (c_laws_toScheme (s := s) (p := p) (a := a) (b := b) ha hb) rfl ?_
      intro w11 hbel
      replace st := st.call hbel
      clear hbel
      refine Wl.pure (PR.moveL rfl) ?_
      refine Wl.pure (PR.moveI rfl) ?_
      refine Wl.pure (PR.moveL rfl) ?_
      refine Wl.callV (c_impl_ReadTorn (s := s) (p := p) (a := a) (b := b) (A := some ⟨b39, 0, none⟩) (n := n) (cp := n) (y := y) (c := c) (x := x) (B := some ⟨b41, 0, none⟩) (m := m) (cq := m) (e := e) (by first | assumption | omega) (by first | assumption | omega) ha hb ((st.rdA (i := 1) (n := (n * 65)) rfl (all_sub (recV_len (s := 65) (layS_row _ _) _))).sl) hg hc (by first | assumption | omega) hx ((st.rdA (i := 0) (n := m) rfl (all_sub (arrU_len _))).sl) he (by first | assumption | omega)) rfl ?_
      intro w12 hbel
      replace st := st.call hbel
      clear hbel
      refine Wl.pure (PR.moveV (.tuple #[.int .u64 (((selN (rtC s p a b n y c x m) (bdiff (picT b n c x) (orS e x m)) : Nat) : Int)), .int .u64 (((selN (rtC s p a b n y c x m) (orS e x m) : Nat) : Int)), .int .i64 (((rtC s p a b n y c x m : Nat) : Int))]) rfl) ?_
      refine Wl.pure (PR.extr (i := 0) (vs := [.int .u64 (((selN (rtC s p a b n y c x m) (bdiff (picT b n c x) (orS e x m)) : Nat) : Int)), .int .u64 (((selN (rtC s p a b n y c x m) (orS e x m) : Nat) : Int)), .int .i64 (((rtC s p a b n y c x m : Nat) : Int))]) rfl rfl) ?_
      refine Wl.pure (PR.extr (i := 1) (vs := [.int .u64 (((selN (rtC s p a b n y c x m) (bdiff (picT b n c x) (orS e x m)) : Nat) : Int)), .int .u64 (((selN (rtC s p a b n y c x m) (orS e x m) : Nat) : Int)), .int .i64 (((rtC s p a b n y c x m : Nat) : Int))]) rfl rfl) ?_
      refine Wl.pure (PR.extr (i := 2) (vs := [.int .u64 (((selN (rtC s p a b n y c x m) (bdiff (picT b n c x) (orS e x m)) : Nat) : Int)), .int .u64 (((selN (rtC s p a b n y c x m) (orS e x m) : Nat) : Int)), .int .i64 (((rtC s p a b n y c x m : Nat) : Int))]) rfl rfl) ?_
      refine Wl.pure (PR.assI rfl) ?_
      refine Wl.pure (PR.assI rfl) ?_
      refine Wl.pure (PR.assI rfl) ?_
      refine Wl.nil ?_
      refine tn ?_
      refine Wc.seq ?_
      refine Wc.seq ?_
      refine Wc.region rfl ?_
      refine Wl.pure (PR.moveI rfl) ?_
      refine Wl.pure (PR.moveI rfl) ?_
      refine Wl.pure (PR.neqS (a := ((selN (rtC s p a b n y c x m) (bdiff (picT b n c x) (orS e x m)) : Nat) : Int)) rfl rfl) ?_
      refine Wl.pure (PR.moveB rfl) ?_
      refine Wl.on rfl rfl ?_
      refine Wl.pure (PR.moveI rfl) ?_
      refine Wl.on rfl rfl ?_
      refine Wl.pure (PR.moveI rfl) ?_
      refine Wl.on rfl rfl ?_
      refine Wl.pure (PR.neqS (a := ((selN (rtC s p a b n y c x m) (orS e x m) : Nat) : Int)) rfl rfl) ?_
      refine Wl.pure (PR.pickFB rfl rfl) ?_
      refine Wl.pure (PR.moveB rfl) ?_
      refine Wl.on rfl rfl ?_
      refine Wl.pure (PR.moveI rfl) ?_
      refine Wl.on rfl rfl ?_
      refine Wl.pure (PR.moveI rfl) ?_
      refine Wl.on rfl rfl ?_
      refine Wl.pure (PR.neqS (a := ((rtC s p a b n y c x m : Nat) : Int)) rfl rfl) ?_
      refine Wl.pure (PR.pickFB rfl rfl) ?_
      refine Wl.nil ?_
      refine tn ?_
      refine Wc.condF rfl ?_
      refine Wc.skip ?_
      refine tn ?_
      refine Wc.seq ?_
      refine Wc.seq ?_
      refine Wc.region rfl ?_
      refine Wl.pure (PR.moveL rfl) ?_
      refine Wl.pure (PR.moveL rfl) ?_
      refine Wl.callS st (c_laws_toLayerS (A := A) (n := n) (cp := cp) (p := y) (c := c) (hRL.st st) hc (by first | assumption | omega)) rfl ?_
      clear st
      intro b67 w13 st
      refine Wl.callV (c_laws_eqLayerS (A := some ⟨b39, 0, none⟩) (n := n) (cp := n) (p := y) (c := c) (B := some ⟨b67, 0, none⟩) (cq := n) ((st.rdA (i := 2) (n := (n * 65)) rfl (all_sub (recV_len (s := 65) (layS_row _ _) _))).sl) ((st.rdA (i := 0) (n := (n * 65)) rfl (all_sub (recV_len (s := 65) (layS_row _ _) _))).sl) (by first | assumption | omega)) rfl ?_
      intro w14 hbel
      replace st := st.call hbel
      clear hbel
      refine Wl.pure (PR.not_ rfl) ?_
      refine Wl.nil ?_
      refine tn ?_
      refine Wc.condF rfl ?_
      refine Wc.skip ?_
      refine tn ?_
      refine Wc.seq ?_
      refine Wc.seq ?_
      refine Wc.region rfl ?_
      refine Wl.pure (PR.moveL rfl) ?_
      refine Wl.pure (PR.moveL rfl) ?_
      refine Wl.callS st (c_laws_toPictureS (A := B) (n := m) (cp := cq) (c := e) (hB.st st) (by first | assumption | omega) he) rfl ?_
      clear st
      intro b72 w15 st
      refine Wl.callV (c_laws_eqPictureS (A := some ⟨b41, 0, none⟩) (n := m) (cp := m) (c := e) (B := some ⟨b72, 0, none⟩) (cq := m) ((st.rdA (i := 2) (n := m) rfl (all_sub (arrU_len _))).sl) ((st.rdA (i := 0) (n := m) rfl (all_sub (arrU_len _))).sl) (by first | assumption | omega)) rfl ?_
      intro w16 hbel
      replace st := st.call hbel
      clear hbel
      refine Wl.pure (PR.not_ rfl) ?_
      refine Wl.nil ?_
      refine tn ?_
      refine Wc.condF rfl ?_
      refine Wc.skip ?_
      refine tn ?_
      refine Wc.seq ?_
      refine Wc.region rfl ?_
      refine Wl.pure (PR.assB rfl) ?_
      refine Wl.nil ?_
      refine tn ?_
      refine Wc.ret ?_
      refine postL.tmp rfl rfl ?_
      exact RetV.of rfl st.below

end Go.Proofs.Ytagghfllgafmgaa
