/-
  Contracts of functions, printed by a program of ours.
-/
import Derived.Test.YtabekcodjcbolaaGreatCG5
namespace Go.Proofs.YtabekcodjcbolaaGreat
open Go.RowKit
set_option linter.unusedVariables false
set_option linter.unusedSimpArgs false

set_option maxHeartbeats 400000 in
set_option maxRecDepth 4000 in
theorem c_impl_BlamedShares_t {s : Int} {p : Int} {a : Nat → Nat} {b : Nat → Nat} {x : Nat} {A : Option Addr} {n : Nat} {cp : Nat} {y : Nat → Int} {c : Nat → Nat → Nat} {w : World} (hs : -128 ≤ s ∧ s ≤ 127) (hp : -128 ≤ p ∧ p ≤ 127) (ha : ∀ k, a k < 256) (hb : ∀ k, b k < 256) (hx : x < 18446744073709551616) (hRL : RdS w A n (layS n y c)) (hg : ∀ i, i < n → -128 ≤ y i ∧ y i ≤ 127) (hc : ∀ i k, c i k < 256) (hn : n ≤ 1048576) (hcode : blC (bothC s p a b n y c) (pic (wrQ ((s).toNat) ((p).toNat) a b n c x)) (flN (fun i_ => repOk ((s).toNat) ((p).toNat) a b n c i_ x (pic (wrQ ((s).toNat) ((p).toNat) a b n c x))) (s).toNat) = 0) :
    CE Tryz.prog 10 [.agg (schV (s) (p) (a) (b)).toArray, .int .u64 (((x : Nat) : Int)), .slice (A) (n) (cp)] w (RetXG w [] 2 1 ((flN (fun i_ => repOk ((s).toNat) ((p).toNat) a b n c i_ x (pic (wrQ ((s).toNat) ((p).toNat) a b n c x))) (s).toNat)) (arrU .i64 (flN (fun i_ => repOk ((s).toNat) ((p).toNat) a b n c i_ x (pic (wrQ ((s).toNat) ((p).toNat) a b n c x))) (s).toNat) (fun j => (fun z => z) (flA (fun i_ => repOk ((s).toNat) ((p).toNat) a b n c i_ x (pic (wrQ ((s).toNat) ((p).toNat) a b n c x))) (s).toNat j))) (fun b_ c_ => .tuple #[.slice (some ⟨b_, 0, none⟩) ((flN (fun i_ => repOk ((s).toNat) ((p).toNat) a b n c i_ x (pic (wrQ ((s).toNat) ((p).toNat) a b n c x))) (s).toNat)) (c_), .int .i64 (0)]) []) := by
  refine CE.enter 54 [(0, .agg (schV (s) (p) (a) (b)).toArray), (1, .int .u64 (((x : Nat) : Int))), (2, .slice (A) (n) (cp))] en_10 Tryz.func10 rfl rfl (Nat.le_of_ble_eq_true rfl) rfl ?_
  have st := St.start w
  refine Wc.seq ?_
  refine Wc.region rfl ?_
  refine Wl.boxA st rfl ?_
  clear st
  intro b3 w1 st
  refine Wl.pure (PR.assL rfl) ?_
  refine Wl.pure (PR.assI rfl) ?_
  refine Wl.nil ?_
  refine tn ?_
  refine Wc.seq ?_
  refine Wc.seq ?_
  obtain ⟨hb9, hz9, hm9⟩ := blC_spec hcode
  refine Wc.region rfl ?_
  refine Wl.loadA (i := 0) st tA_27 rfl rfl (all_sub schV_len) schV_len ?_
  refine Wl.pure (PR.moveL rfl) ?_
  refine Wl.callV (c_impl_sharedCode (s := s) (p := p) (a := a) (b := b) (A := A) (n := n) (cp := cp) (y := y) (c := c) (by first | assumption | omega) (by first | assumption | omega) ha hb (hRL.st st) hg hc (by first | assumption | omega)) rfl ?_
  intro w2 hbel
  replace st := st.call hbel
  clear hbel
  refine Wl.pure (PR.assI rfl) ?_
  refine Wl.nil ?_
  refine tn ?_
  refine Wc.seq ?_
  refine Wc.region rfl ?_
  refine Wl.pure (PR.moveI rfl) ?_
  refine Wl.pure (PR.neq (a := ((bothC s p a b n y c : Nat) : Int)) (b := 0) rfl rfl) ?_
  refine Wl.nil ?_
  refine tn ?_
  refine Wc.condN (p := ((bothC s p a b n y c : Nat) : Int) = 0) rfl (fun h3 => ?_) (fun h3 => ?_)
  · refine Wc.seq ?_
    exfalso
    omega
  · refine Wc.skip ?_
    refine tn ?_
    refine Wc.seq ?_
    have hcode0 : bothC s p a b n y c = 0 := hb9
    obtain ⟨hok, hlay, hns⟩ := bothC_spec hcode0
    have hall := bothC_all hcode0
    obtain ⟨hs1, hp1, _⟩ := schOk_spec hok
    obtain ⟨d_, rfl⟩ : ∃ d_ : Nat, s = ((d_ : Nat) : Int) := ⟨s.toNat, by omega⟩
    obtain ⟨e_, rfl⟩ : ∃ e_ : Nat, p = ((e_ : Nat) : Int) := ⟨p.toNat, by omega⟩
    obtain ⟨_, hza, hzb⟩ := sch_zero hok
    have hns9 : n = d_ := by omega
    have hy0 : y 0 = ((e_ : Nat) : Int) := hall 0 (by omega)
    have hn6 : 1 ≤ n ∧ n ≤ 6 := by omega
    refine Wc.region rfl ?_
    refine Wl.loadA (i := 0) st tA_27 rfl rfl (all_sub schV_len) schV_len ?_
    refine Wl.pure (PR.moveI rfl) ?_
    refine Wl.pure (PR.moveL rfl) ?_
    refine Wl.callV (c_impl_Scheme_wrong (s := d_) (p := e_) (a := a) (b := b) (A := A) (n := n) (cp := cp) (y := y) (c := c) (x := x) (by first | assumption | omega) ha hb (by first | assumption | omega) (by first | assumption | omega) (by first | assumption | omega) (hRL.st st) hg hc (by first | assumption | omega) (by first | assumption | omega) hx (by first | assumption | omega)) rfl ?_
    intro w4 hbel
    replace st := st.call hbel
    clear hbel
    refine Wl.buildSlice (ps := []) (cs := arrU .i64 0 (fun _ => 0) ++ []) st tS_39 tZ_2 rfl rfl rfl ?_
    clear st
    intro b25 w5 st
    refine Wl.pure (PR.assI rfl) ?_
    refine Wl.pure (PR.assL rfl) ?_
    refine Wl.nil ?_
    refine tn ?_
    refine Wc.seq ?_
    refine Wc.seq ?_
    refine Wc.region rfl ?_
    refine Wl.pure (PR.moveI rfl) ?_
    refine Wl.pure (PR.eql (a := ((pic (wrQ d_ e_ a b n c x) : Nat) : Int)) (b := 0) rfl rfl) ?_
    refine Wl.nil ?_
    refine tn ?_
    refine Wc.condD (p := ((pic (wrQ d_ e_ a b n c x) : Nat) : Int) = 0) rfl (fun h6 => ?_) (fun h6 => ?_)
    · refine Wc.seq ?_
      exfalso
      exact absurd (show pic (wrQ d_ e_ a b n c x) = 0 by omega) hz9
    · refine Wc.skip ?_
      refine tn ?_
      refine Wc.seq ?_
      refine Wc.seq ?_
      refine Wc.region rfl ?_
      refine Wl.pure (PR.fieldAddr tF_27_0 rfl) ?_
      refine Wl.load (i := 1) st tA_24 rfl rfl (rfl) ?_
      refine Wl.pure (PR.conv (n := ((d_ : Nat) : Int)) tI_2 rfl (by simp only [fitI]; omega) Tryz.underlying24) ?_
      refine Wl.pure (PR.moveI rfl) ?_
      refine Wl.nil ?_
      refine tn ?_
      refine Wc.block ?_
      refine Wc.loopF (γ := Nat × Nat × (Nat → Nat) × Nat × Nat × List Value) (fun g => [(1, .int .u64 (((x : Nat) : Int))), (2, .slice (A) (n) (cp)), (3, .pointer (some ⟨b3, 0, none⟩)), (6, .slice (none) (0) (0)), (7, .int .i64 (0)), (9, .int .u64 (((pic (wrQ d_ e_ a b n c x) : Nat) : Int))), (10, .slice (some ⟨g.2.2.2.1, 0, none⟩) (g.2.1) (g.2.2.2.2.1)), (30, .int .i64 (((d_ : Nat) : Int))), (31, .int .i64 (((g.1 : Nat) : Int)))]) (fun g w_ => St [] w w_ [(g.2.2.2.1, arrU .i64 g.2.1 g.2.2.1 ++ g.2.2.2.2.2, 2), (b3, schV ((d_ : Nat) : Int) ((e_ : Nat) : Int) (a) (b), 27)] ∧ (g.1 ≤ d_) ∧ (g.2.1 = flN (fun i_ => repOk d_ e_ a b n c i_ x (pic (wrQ d_ e_ a b n c x))) g.1) ∧ (∀ j, j < g.2.1 → g.2.2.1 j = (fun z => z) (flA (fun i_ => repOk d_ e_ a b n c i_ x (pic (wrQ d_ e_ a b n c x))) g.1 j)) ∧ (g.2.1 ≤ g.2.2.2.2.1) ∧ (g.2.2.2.2.2.length = (g.2.2.2.2.1 - g.2.1) * 1)) (fun g => d_ - g.1) ?_ ?_
      · exact ⟨(0, 0, (fun _ => 0), b25, 0, []), (.cons rfl (.cons rfl (.cons rfl (.cons rfl (.cons rfl (.cons rfl (.cons rfl (.cons rfl (.cons rfl (.nil _)))))))))), st, (by first | omega | (dsimp only; omega)), rfl, (fun j hj => absurd hj (Nat.not_lt_zero _)), (Nat.le_refl _), rfl⟩
      clear st
      rintro ⟨k, mm, u, b_o, c_o, sp_o⟩ w7 ⟨st, hk, hm, hu, hc_o, hs_o⟩
      try dsimp only at st hk hm hu hc_o hs_o ⊢
      have hfl8 := flN_le (fun i_ => repOk d_ e_ a b n c i_ x (pic (wrQ d_ e_ a b n c x))) k
      refine Wc.seq ?_
      refine Wc.region rfl ?_
      refine Wl.pure (PR.lss (a := ((k : Nat) : Int)) (b := ((d_ : Nat) : Int)) rfl rfl) ?_
      refine Wl.nil ?_
      refine tn ?_
      refine Wc.seq ?_
      refine Wc.condD (p := ((k : Nat) : Int) < ((d_ : Nat) : Int)) rfl (fun h8 => ?_) (fun h8 => ?_)
      · refine Wc.skip ?_
        refine tn ?_
        refine Wc.seq ?_
        refine Wc.block ?_
        refine Wc.seq ?_
        refine Wc.region rfl ?_
        refine Wl.pure (PR.moveI rfl) ?_
        refine Wl.pure (PR.assI rfl) ?_
        refine Wl.nil ?_
        refine tn ?_
        refine Wc.seq ?_
        refine Wc.region rfl ?_
        refine Wl.loadA (i := 1) st tA_27 rfl rfl (all_sub schV_len) schV_len ?_
        refine Wl.pure (PR.moveI rfl) ?_
        refine Wl.pure (PR.moveI rfl) ?_
        refine Wl.pure (PR.moveL rfl) ?_
        refine Wl.pure (PR.moveI rfl) ?_
        refine Wl.callV (c_impl_Scheme_repaired (s := d_) (p := e_) (a := a) (b := b) (A := A) (n := n) (cp := cp) (y := y) (c := c) (i := k) (x := x) (z := pic (wrQ d_ e_ a b n c x)) (by first | assumption | omega) ha hb (by first | assumption | omega) (by first | assumption | omega) (by first | assumption | omega) (hRL.st st) hg hc (by first | assumption | omega) hx (picF_lt _ 64) (by first | assumption | omega) (by first | assumption | omega)) rfl ?_
        intro w9 hbel
        replace st := st.call hbel
        clear hbel
        refine Wl.pure (PR.moveV (.tuple #[.agg (layV (rpZ (repOk d_ e_ a b n c k x (pic (wrQ d_ e_ a b n c x))) (y k)) ((rpF (repOk d_ e_ a b n c k x (pic (wrQ d_ e_ a b n c x))) (rpC d_ e_ a b n c k x (pic (wrQ d_ e_ a b n c x)))))).toArray, .int .i64 (((rpN (repOk d_ e_ a b n c k x (pic (wrQ d_ e_ a b n c x))) (pc (pic (wrQ d_ e_ a b n c x))) : Nat) : Int)), .bool ((repOk d_ e_ a b n c k x (pic (wrQ d_ e_ a b n c x))))]) rfl) ?_
        refine Wl.pure (PR.extr (i := 0) (vs := [.agg (layV (rpZ (repOk d_ e_ a b n c k x (pic (wrQ d_ e_ a b n c x))) (y k)) ((rpF (repOk d_ e_ a b n c k x (pic (wrQ d_ e_ a b n c x))) (rpC d_ e_ a b n c k x (pic (wrQ d_ e_ a b n c x)))))).toArray, .int .i64 (((rpN (repOk d_ e_ a b n c k x (pic (wrQ d_ e_ a b n c x))) (pc (pic (wrQ d_ e_ a b n c x))) : Nat) : Int)), .bool ((repOk d_ e_ a b n c k x (pic (wrQ d_ e_ a b n c x))))]) rfl rfl) ?_
        refine Wl.pure (PR.extr (i := 1) (vs := [.agg (layV (rpZ (repOk d_ e_ a b n c k x (pic (wrQ d_ e_ a b n c x))) (y k)) ((rpF (repOk d_ e_ a b n c k x (pic (wrQ d_ e_ a b n c x))) (rpC d_ e_ a b n c k x (pic (wrQ d_ e_ a b n c x)))))).toArray, .int .i64 (((rpN (repOk d_ e_ a b n c k x (pic (wrQ d_ e_ a b n c x))) (pc (pic (wrQ d_ e_ a b n c x))) : Nat) : Int)), .bool ((repOk d_ e_ a b n c k x (pic (wrQ d_ e_ a b n c x))))]) rfl rfl) ?_
        refine Wl.pure (PR.extr (i := 2) (vs := [.agg (layV (rpZ (repOk d_ e_ a b n c k x (pic (wrQ d_ e_ a b n c x))) (y k)) ((rpF (repOk d_ e_ a b n c k x (pic (wrQ d_ e_ a b n c x))) (rpC d_ e_ a b n c k x (pic (wrQ d_ e_ a b n c x)))))).toArray, .int .i64 (((rpN (repOk d_ e_ a b n c k x (pic (wrQ d_ e_ a b n c x))) (pc (pic (wrQ d_ e_ a b n c x))) : Nat) : Int)), .bool ((repOk d_ e_ a b n c k x (pic (wrQ d_ e_ a b n c x))))]) rfl rfl) ?_
        refine Wl.alloc st tZ_50 rfl ?_
        clear st
        intro b12 w10 st
        refine Wl.storeA (i := 0) (cs' := layV (rpZ (repOk d_ e_ a b n c k x (pic (wrQ d_ e_ a b n c x))) (y k)) ((rpF (repOk d_ e_ a b n c k x (pic (wrQ d_ e_ a b n c x))) (rpC d_ e_ a b n c k x (pic (wrQ d_ e_ a b n c x)))))) st tA_50 rfl rfl layV_len layV_one rfl (le_of_len layV_len (by omega)) (all_put layV_len) ?_
        clear st
        intro w11 st
        replace st : St [] w w11 [(b12, layV (rpZ (repOk d_ e_ a b n c k x (pic (wrQ d_ e_ a b n c x))) (y k)) ((rpF (repOk d_ e_ a b n c k x (pic (wrQ d_ e_ a b n c x))) (rpC d_ e_ a b n c k x (pic (wrQ d_ e_ a b n c x))))), 50), (b_o, arrU .i64 mm u ++ sp_o, 2), (b3, schV ((d_ : Nat) : Int) ((e_ : Nat) : Int) (a) (b), 27)] := st
        refine Wl.pure (PR.assI rfl) ?_
        refine Wl.pure (PR.assB rfl) ?_
        refine Wl.nil ?_
        refine tn ?_
        refine Wc.seq ?_
        refine Wc.region rfl ?_
        refine Wl.pure (PR.moveB rfl) ?_
        refine Wl.nil ?_
        refine tn ?_
        refine Wc.condB (b := (repOk d_ e_ a b n c k x (pic (wrQ d_ e_ a b n c x)))) rfl (fun h12 => ?_) (fun h12 => ?_)
        · refine Wc.region rfl ?_
          refine Wl.pure (PR.moveL rfl) ?_
          refine Wl.pure (PR.moveI rfl) ?_
          refine Wl.buildSlice (ps := [(0, .int .i64 (((k : Nat) : Int)))]) (cs := [.int .i64 (((k : Nat) : Int))]) st tS_39 tZ_2 rfl rfl rfl ?_
          clear st
          intro b47 w13 st
          refine Wl.append (n := mm) (c := c_o) (m := 1) (cs := arrU .i64 mm u) (sp := sp_o) (vs := [.int .i64 (((k : Nat) : Int))]) (i := 2) st tS_39 tZ_2 rfl rfl rfl (by rw [(arrU_len _), Nat.mul_one]) hs_o hc_o rfl (Src.ofRdA (tyS_und tS_39) (st.rdA (i := 0) (n := 1) rfl rfl) rfl (by simp [Value.oneCell'])) (by omega) (by omega) ?_
          clear st
          intro b48 c48 sp48 w14 hc48 hs48 st
          rw [arrU_snoc] at st
          replace st : St [] w w14 [(b48, arrU .i64 (mm + 1) (upd u mm k) ++ sp48, 2), (b47, [.int .i64 (((k : Nat) : Int))], 2), (b12, layV (rpZ (repOk d_ e_ a b n c k x (pic (wrQ d_ e_ a b n c x))) (y k)) ((rpF (repOk d_ e_ a b n c k x (pic (wrQ d_ e_ a b n c x))) (rpC d_ e_ a b n c k x (pic (wrQ d_ e_ a b n c x))))), 50), (b3, schV ((d_ : Nat) : Int) ((e_ : Nat) : Int) (a) (b), 27)] := st
          refine Wl.pure (PR.assL rfl) ?_
          refine Wl.nil ?_
          refine bn ?_
          refine tn ?_
          refine Wc.region rfl ?_
          refine Wl.pure (PR.add (a := ((k : Nat) : Int)) (b := 1) rfl rfl (by simp only [fitI]; omega)) ?_
          refine Wl.pure (PR.moveI rfl) ?_
          refine Wl.nil ?_
          refine tn ?_
          replace st : St [] w w14 [(b48, arrU .i64 (mm + 1) (upd u mm k) ++ sp48, 2), (b3, schV ((d_ : Nat) : Int) ((e_ : Nat) : Int) (a) (b), 27)] := st.pick [0, 3] (by decide) rfl
          have hfl9 := flN_le (fun i_ => repOk d_ e_ a b n c i_ x (pic (wrQ d_ e_ a b n c x))) k
          exact ⟨(k + 1, mm + 1, (upd u mm k), b48, c48, sp48), (.cons rfl (.cons rfl (.cons rfl (.cons rfl (.cons rfl (.cons rfl (.cons rfl (.cons rfl (.cons rfl (.nil _)))))))))), ⟨st, (by first | omega | (dsimp only; omega)), (by first | exact flN_t hm (by assumption) | exact flN_f hm (by assumption)), (by first | exact flA_t (g := (fun z => z)) hm hu (by assumption) | exact flA_f (g := (fun z => z)) hu (by assumption)), hc48, hs48⟩, (by first | omega | (dsimp only; omega))⟩
        · refine Wc.skip ?_
          refine bn ?_
          refine tn ?_
          refine Wc.region rfl ?_
          refine Wl.pure (PR.add (a := ((k : Nat) : Int)) (b := 1) rfl rfl (by simp only [fitI]; omega)) ?_
          refine Wl.pure (PR.moveI rfl) ?_
          refine Wl.nil ?_
          refine tn ?_
          replace st := st.tail
          have hfl9 := flN_le (fun i_ => repOk d_ e_ a b n c i_ x (pic (wrQ d_ e_ a b n c x))) k
          exact ⟨(k + 1, mm, u, b_o, c_o, sp_o), (.cons rfl (.cons rfl (.cons rfl (.cons rfl (.cons rfl (.cons rfl (.cons rfl (.cons rfl (.cons rfl (.nil _)))))))))), ⟨st, (by first | omega | (dsimp only; omega)), (by first | exact flN_t hm (by assumption) | exact flN_f hm (by assumption)), (by first | exact flA_t (g := (fun z => z)) hm hu (by assumption) | exact flA_f (g := (fun z => z)) hu (by assumption)), hc_o, hs_o⟩, (by first | omega | (dsimp only; omega))⟩
      · refine Wc.exit ?_
        refine tx ?_
        refine tx ?_
        refine bh ?_
        refine tn ?_
        refine Wc.seq ?_
        refine Wc.seq ?_
        refine Wc.region rfl ?_
        refine Wl.pure (PR.moveL rfl) ?_
        refine Wl.pure (PR.lenL tS_39 rfl) ?_
        refine Wl.pure (PR.eql (a := ((mm : Nat) : Int)) (b := 0) rfl rfl) ?_
        refine Wl.nil ?_
        refine tn ?_
        refine Wc.condD (p := ((mm : Nat) : Int) = 0) rfl (fun h15 => ?_) (fun h15 => ?_)
        · refine Wc.seq ?_
          exfalso
          obtain rfl : d_ = k := by omega
          exact hm9 (hm.symm.trans (by omega))
        · refine Wc.skip ?_
          refine tn ?_
          refine Wc.seq ?_
          refine Wc.region rfl ?_
          refine Wl.pure (PR.moveL rfl) ?_
          refine Wl.pure (PR.assL rfl) ?_
          refine Wl.pure (PR.assI rfl) ?_
          refine Wl.nil ?_
          refine tn ?_
          refine Wc.ret ?_
          refine postL.tmp2 rfl rfl rfl ?_
          obtain rfl : d_ = k := by omega
          subst hm
          rw [arrU_congr (fun j hj => hu j hj)] at st
          replace st : St [] w w7 [(b_o, arrU .i64 (flN (fun i_ => repOk d_ e_ a b n c i_ x (pic (wrQ d_ e_ a b n c x))) d_) (fun j => (fun z => z) (flA (fun i_ => repOk d_ e_ a b n c i_ x (pic (wrQ d_ e_ a b n c x))) d_ j)) ++ sp_o, 2)] := st.pick [0] (by decide) rfl
          exact ⟨b_o, c_o, sp_o, hc_o, hs_o, rfl, st⟩

set_option maxHeartbeats 400000 in
set_option maxRecDepth 4000 in
theorem c_impl_BlamedShares_f {s : Int} {p : Int} {a : Nat → Nat} {b : Nat → Nat} {x : Nat} {A : Option Addr} {n : Nat} {cp : Nat} {y : Nat → Int} {c : Nat → Nat → Nat} {w : World} (hs : -128 ≤ s ∧ s ≤ 127) (hp : -128 ≤ p ∧ p ≤ 127) (ha : ∀ k, a k < 256) (hb : ∀ k, b k < 256) (hx : x < 18446744073709551616) (hRL : RdS w A n (layS n y c)) (hg : ∀ i, i < n → -128 ≤ y i ∧ y i ≤ 127) (hc : ∀ i k, c i k < 256) (hn : n ≤ 1048576) (hcode : ¬ blC (bothC s p a b n y c) (pic (wrQ ((s).toNat) ((p).toNat) a b n c x)) (flN (fun i_ => repOk ((s).toNat) ((p).toNat) a b n c i_ x (pic (wrQ ((s).toNat) ((p).toNat) a b n c x))) (s).toNat) = 0) :
    CE Tryz.prog 10 [.agg (schV (s) (p) (a) (b)).toArray, .int .u64 (((x : Nat) : Int)), .slice (A) (n) (cp)] w (RetV w (.tuple #[.slice (none) (0) (0), .int .i64 (((blC (bothC s p a b n y c) (pic (wrQ ((s).toNat) ((p).toNat) a b n c x)) (flN (fun i_ => repOk ((s).toNat) ((p).toNat) a b n c i_ x (pic (wrQ ((s).toNat) ((p).toNat) a b n c x))) (s).toNat) : Nat) : Int))])) := by
  refine CE.enter 54 [(0, .agg (schV (s) (p) (a) (b)).toArray), (1, .int .u64 (((x : Nat) : Int))), (2, .slice (A) (n) (cp))] en_10 Tryz.func10 rfl rfl (Nat.le_of_ble_eq_true rfl) rfl ?_
  have st := St.start w
  refine Wc.seq ?_
  refine Wc.region rfl ?_
  refine Wl.boxA st rfl ?_
  clear st
  intro b3 w1 st
  refine Wl.pure (PR.assL rfl) ?_
  refine Wl.pure (PR.assI rfl) ?_
  refine Wl.nil ?_
  refine tn ?_
  refine Wc.seq ?_
  refine Wc.seq ?_
  refine Wc.region rfl ?_
  refine Wl.loadA (i := 0) st tA_27 rfl rfl (all_sub schV_len) schV_len ?_
  refine Wl.pure (PR.moveL rfl) ?_
  refine Wl.callV (c_impl_sharedCode (s := s) (p := p) (a := a) (b := b) (A := A) (n := n) (cp := cp) (y := y) (c := c) (by first | assumption | omega) (by first | assumption | omega) ha hb (hRL.st st) hg hc (by first | assumption | omega)) rfl ?_
  intro w2 hbel
  replace st := st.call hbel
  clear hbel
  refine Wl.pure (PR.assI rfl) ?_
  refine Wl.nil ?_
  refine tn ?_
  refine Wc.seq ?_
  refine Wc.region rfl ?_
  refine Wl.pure (PR.moveI rfl) ?_
  refine Wl.pure (PR.neq (a := ((bothC s p a b n y c : Nat) : Int)) (b := 0) rfl rfl) ?_
  refine Wl.nil ?_
  refine tn ?_
  refine Wc.condN (p := ((bothC s p a b n y c : Nat) : Int) = 0) rfl (fun h3 => ?_) (fun h3 => ?_)
  · refine Wc.seq ?_
    refine Wc.region rfl ?_
    refine Wl.pure (PR.moveI rfl) ?_
    refine Wl.pure (PR.assL rfl) ?_
    refine Wl.pure (PR.assI rfl) ?_
    refine Wl.nil ?_
    refine tn ?_
    refine Wc.ret ?_
    refine tr ?_
    refine postL.tmp2 rfl rfl rfl ?_
    refine RetV.of ?_ st.below
    exact tup_2 rfl (congrArg (Value.int .i64) (bl_zb (by omega)))
  · refine Wc.skip ?_
    refine tn ?_
    refine Wc.seq ?_
    have hcode0 : bothC s p a b n y c = 0 := (by omega)
    obtain ⟨hok, hlay, hns⟩ := bothC_spec hcode0
    have hall := bothC_all hcode0
    obtain ⟨hs1, hp1, _⟩ := schOk_spec hok
    obtain ⟨d_, rfl⟩ : ∃ d_ : Nat, s = ((d_ : Nat) : Int) := ⟨s.toNat, by omega⟩
    obtain ⟨e_, rfl⟩ : ∃ e_ : Nat, p = ((e_ : Nat) : Int) := ⟨p.toNat, by omega⟩
    obtain ⟨_, hza, hzb⟩ := sch_zero hok
    have hns9 : n = d_ := by omega
    have hy0 : y 0 = ((e_ : Nat) : Int) := hall 0 (by omega)
    have hn6 : 1 ≤ n ∧ n ≤ 6 := by omega
    refine Wc.region rfl ?_
    refine Wl.loadA (i := 0) st tA_27 rfl rfl (all_sub schV_len) schV_len ?_
    refine Wl.pure (PR.moveI rfl) ?_
    refine Wl.pure (PR.moveL rfl) ?_
    refine Wl.callV (c_impl_Scheme_wrong (s := d_) (p := e_) (a := a) (b := b) (A := A) (n := n) (cp := cp) (y := y) (c := c) (x := x) (by first | assumption | omega) ha hb (by first | assumption | omega) (by first | assumption | omega) (by first | assumption | omega) (hRL.st st) hg hc (by first | assumption | omega) (by first | assumption | omega) hx (by first | assumption | omega)) rfl ?_
    intro w4 hbel
    replace st := st.call hbel
    clear hbel
    refine Wl.buildSlice (ps := []) (cs := arrU .i64 0 (fun _ => 0) ++ []) st tS_39 tZ_2 rfl rfl rfl ?_
    clear st
    intro b25 w5 st
    refine Wl.pure (PR.assI rfl) ?_
    refine Wl.pure (PR.assL rfl) ?_
    refine Wl.nil ?_
    refine tn ?_
    refine Wc.seq ?_
    refine Wc.seq ?_
    refine Wc.region rfl ?_
    refine Wl.pure (PR.moveI rfl) ?_
    refine Wl.pure (PR.eql (a := ((pic (wrQ d_ e_ a b n c x) : Nat) : Int)) (b := 0) rfl rfl) ?_
    refine Wl.nil ?_
    refine tn ?_
    refine Wc.condD (p := ((pic (wrQ d_ e_ a b n c x) : Nat) : Int) = 0) rfl (fun h6 => ?_) (fun h6 => ?_)
    · refine Wc.seq ?_
      refine Wc.region rfl ?_
      refine Wl.pure (PR.assL rfl) ?_
      refine Wl.pure (PR.assI rfl) ?_
      refine Wl.nil ?_
      refine tn ?_
      refine Wc.ret ?_
      refine tr ?_
      refine postL.tmp2 rfl rfl rfl ?_
      refine RetV.of ?_ st.below
      exact tup_2 rfl (congrArg (Value.int .i64) (bl_z4 hcode0 (show pic (wrQ d_ e_ a b n c x) = 0 by omega)))
    · refine Wc.skip ?_
      refine tn ?_
      refine Wc.seq ?_
      refine Wc.seq ?_
      refine Wc.region rfl ?_
      refine Wl.pure (PR.fieldAddr tF_27_0 rfl) ?_
      refine Wl.load (i := 1) st tA_24 rfl rfl (rfl) ?_
      refine Wl.pure (PR.conv (n := ((d_ : Nat) : Int)) tI_2 rfl (by simp only [fitI]; omega) Tryz.underlying24) ?_
      refine Wl.pure (PR.moveI rfl) ?_
      refine Wl.nil ?_
      refine tn ?_
      refine Wc.block ?_
      refine Wc.loopF (γ := Nat × Nat × (Nat → Nat) × Nat × Nat × List Value) (fun g => [(1, .int .u64 (((x : Nat) : Int))), (2, .slice (A) (n) (cp)), (3, .pointer (some ⟨b3, 0, none⟩)), (6, .slice (none) (0) (0)), (7, .int .i64 (0)), (9, .int .u64 (((pic (wrQ d_ e_ a b n c x) : Nat) : Int))), (10, .slice (some ⟨g.2.2.2.1, 0, none⟩) (g.2.1) (g.2.2.2.2.1)), (30, .int .i64 (((d_ : Nat) : Int))), (31, .int .i64 (((g.1 : Nat) : Int)))]) (fun g w_ => St [] w w_ [(g.2.2.2.1, arrU .i64 g.2.1 g.2.2.1 ++ g.2.2.2.2.2, 2), (b3, schV ((d_ : Nat) : Int) ((e_ : Nat) : Int) (a) (b), 27)] ∧ (g.1 ≤ d_) ∧ (g.2.1 = flN (fun i_ => repOk d_ e_ a b n c i_ x (pic (wrQ d_ e_ a b n c x))) g.1) ∧ (∀ j, j < g.2.1 → g.2.2.1 j = (fun z => z) (flA (fun i_ => repOk d_ e_ a b n c i_ x (pic (wrQ d_ e_ a b n c x))) g.1 j)) ∧ (g.2.1 ≤ g.2.2.2.2.1) ∧ (g.2.2.2.2.2.length = (g.2.2.2.2.1 - g.2.1) * 1)) (fun g => d_ - g.1) ?_ ?_
      · exact ⟨(0, 0, (fun _ => 0), b25, 0, []), (.cons rfl (.cons rfl (.cons rfl (.cons rfl (.cons rfl (.cons rfl (.cons rfl (.cons rfl (.cons rfl (.nil _)))))))))), st, (by first | omega | (dsimp only; omega)), rfl, (fun j hj => absurd hj (Nat.not_lt_zero _)), (Nat.le_refl _), rfl⟩
      clear st
      rintro ⟨k, mm, u, b_o, c_o, sp_o⟩ w7 ⟨st, hk, hm, hu, hc_o, hs_o⟩
      try dsimp only at st hk hm hu hc_o hs_o ⊢
      have hfl8 := flN_le (fun i_ => repOk d_ e_ a b n c i_ x (pic (wrQ d_ e_ a b n c x))) k
      refine Wc.seq ?_
      refine Wc.region rfl ?_
      refine Wl.pure (PR.lss (a := ((k : Nat) : Int)) (b := ((d_ : Nat) : Int)) rfl rfl) ?_
      refine Wl.nil ?_
      refine tn ?_
      refine Wc.seq ?_
      refine Wc.condD (p := ((k : Nat) : Int) < ((d_ : Nat) : Int)) rfl (fun h8 => ?_) (fun h8 => ?_)
      · refine Wc.skip ?_
        refine tn ?_
        refine Wc.seq ?_
        refine Wc.block ?_
        refine Wc.seq ?_
        refine Wc.region rfl ?_
        refine Wl.pure (PR.moveI rfl) ?_
        refine Wl.pure (PR.assI rfl) ?_
        refine Wl.nil ?_
        refine tn ?_
        refine Wc.seq ?_
        refine Wc.region rfl ?_
        refine Wl.loadA (i := 1) st tA_27 rfl rfl (all_sub schV_len) schV_len ?_
        refine Wl.pure (PR.moveI rfl) ?_
        refine Wl.pure (PR.moveI rfl) ?_
        refine Wl.pure (PR.moveL rfl) ?_
        refine Wl.pure (PR.moveI rfl) ?_
        refine Wl.callV (c_impl_Scheme_repaired (s := d_) (p := e_) (a := a) (b := b) (A := A) (n := n) (cp := cp) (y := y) (c := c) (i := k) (x := x) (z := pic (wrQ d_ e_ a b n c x)) (by first | assumption | omega) ha hb (by first | assumption | omega) (by first | assumption | omega) (by first | assumption | omega) (hRL.st st) hg hc (by first | assumption | omega) hx (picF_lt _ 64) (by first | assumption | omega) (by first | assumption | omega)) rfl ?_
        intro w9 hbel
        replace st := st.call hbel
        clear hbel
        refine Wl.pure (PR.moveV (.tuple #[.agg (layV (rpZ (repOk d_ e_ a b n c k x (pic (wrQ d_ e_ a b n c x))) (y k)) ((rpF (repOk d_ e_ a b n c k x (pic (wrQ d_ e_ a b n c x))) (rpC d_ e_ a b n c k x (pic (wrQ d_ e_ a b n c x)))))).toArray, .int .i64 (((rpN (repOk d_ e_ a b n c k x (pic (wrQ d_ e_ a b n c x))) (pc (pic (wrQ d_ e_ a b n c x))) : Nat) : Int)), .bool ((repOk d_ e_ a b n c k x (pic (wrQ d_ e_ a b n c x))))]) rfl) ?_
        refine Wl.pure (PR.extr (i := 0) (vs := [.agg (layV (rpZ (repOk d_ e_ a b n c k x (pic (wrQ d_ e_ a b n c x))) (y k)) ((rpF (repOk d_ e_ a b n c k x (pic (wrQ d_ e_ a b n c x))) (rpC d_ e_ a b n c k x (pic (wrQ d_ e_ a b n c x)))))).toArray, .int .i64 (((rpN (repOk d_ e_ a b n c k x (pic (wrQ d_ e_ a b n c x))) (pc (pic (wrQ d_ e_ a b n c x))) : Nat) : Int)), .bool ((repOk d_ e_ a b n c k x (pic (wrQ d_ e_ a b n c x))))]) rfl rfl) ?_
        refine Wl.pure (PR.extr (i := 1) (vs := [.agg (layV (rpZ (repOk d_ e_ a b n c k x (pic (wrQ d_ e_ a b n c x))) (y k)) ((rpF (repOk d_ e_ a b n c k x (pic (wrQ d_ e_ a b n c x))) (rpC d_ e_ a b n c k x (pic (wrQ d_ e_ a b n c x)))))).toArray, .int .i64 (((rpN (repOk d_ e_ a b n c k x (pic (wrQ d_ e_ a b n c x))) (pc (pic (wrQ d_ e_ a b n c x))) : Nat) : Int)), .bool ((repOk d_ e_ a b n c k x (pic (wrQ d_ e_ a b n c x))))]) rfl rfl) ?_
        refine Wl.pure (PR.extr (i := 2) (vs := [.agg (layV (rpZ (repOk d_ e_ a b n c k x (pic (wrQ d_ e_ a b n c x))) (y k)) ((rpF (repOk d_ e_ a b n c k x (pic (wrQ d_ e_ a b n c x))) (rpC d_ e_ a b n c k x (pic (wrQ d_ e_ a b n c x)))))).toArray, .int .i64 (((rpN (repOk d_ e_ a b n c k x (pic (wrQ d_ e_ a b n c x))) (pc (pic (wrQ d_ e_ a b n c x))) : Nat) : Int)), .bool ((repOk d_ e_ a b n c k x (pic (wrQ d_ e_ a b n c x))))]) rfl rfl) ?_
        refine Wl.alloc st tZ_50 rfl ?_
        clear st
        intro b12 w10 st
        refine Wl.storeA (i := 0) (cs' := layV (rpZ (repOk d_ e_ a b n c k x (pic (wrQ d_ e_ a b n c x))) (y k)) ((rpF (repOk d_ e_ a b n c k x (pic (wrQ d_ e_ a b n c x))) (rpC d_ e_ a b n c k x (pic (wrQ d_ e_ a b n c x)))))) st tA_50 rfl rfl layV_len layV_one rfl (le_of_len layV_len (by omega)) (all_put layV_len) ?_
        clear st
        intro w11 st
        replace st : St [] w w11 [(b12, layV (rpZ (repOk d_ e_ a b n c k x (pic (wrQ d_ e_ a b n c x))) (y k)) ((rpF (repOk d_ e_ a b n c k x (pic (wrQ d_ e_ a b n c x))) (rpC d_ e_ a b n c k x (pic (wrQ d_ e_ a b n c x))))), 50), (b_o, arrU .i64 mm u ++ sp_o, 2), (b3, schV ((d_ : Nat) : Int) ((e_ : Nat) : Int) (a) (b), 27)] := st
        refine Wl.pure (PR.assI rfl) ?_
        refine Wl.pure (PR.assB rfl) ?_
        refine Wl.nil ?_
        refine tn ?_
        refine Wc.seq ?_
        refine Wc.region rfl ?_
        refine Wl.pure (PR.moveB rfl) ?_
        refine Wl.nil ?_
        refine tn ?_
        refine Wc.condB (b := (repOk d_ e_ a b n c k x (pic (wrQ d_ e_ a b n c x)))) rfl (fun h12 => ?_) (fun h12 => ?_)
        · refine Wc.region rfl ?_
          refine Wl.pure (PR.moveL rfl) ?_
          refine Wl.pure (PR.moveI rfl) ?_
          refine Wl.buildSlice (ps := [(0, .int .i64 (((k : Nat) : Int)))]) (cs := [.int .i64 (((k : Nat) : Int))]) st tS_39 tZ_2 rfl rfl rfl ?_
          clear st
          intro b47 w13 st
          refine Wl.append (n := mm) (c := c_o) (m := 1) (cs := arrU .i64 mm u) (sp := sp_o) (vs := [.int .i64 (((k : Nat) : Int))]) (i := 2) st tS_39 tZ_2 rfl rfl rfl (by rw [(arrU_len _), Nat.mul_one]) hs_o hc_o rfl (Src.ofRdA (tyS_und tS_39) (st.rdA (i := 0) (n := 1) rfl rfl) rfl (by simp [Value.oneCell'])) (by omega) (by omega) ?_
          clear st
          intro b48 c48 sp48 w14 hc48 hs48 st
          rw [arrU_snoc] at st
          replace st : St [] w w14 [(b48, arrU .i64 (mm + 1) (upd u mm k) ++ sp48, 2), (b47, [.int .i64 (((k : Nat) : Int))], 2), (b12, layV (rpZ (repOk d_ e_ a b n c k x (pic (wrQ d_ e_ a b n c x))) (y k)) ((rpF (repOk d_ e_ a b n c k x (pic (wrQ d_ e_ a b n c x))) (rpC d_ e_ a b n c k x (pic (wrQ d_ e_ a b n c x))))), 50), (b3, schV ((d_ : Nat) : Int) ((e_ : Nat) : Int) (a) (b), 27)] := st
          refine Wl.pure (PR.assL rfl) ?_
          refine Wl.nil ?_
          refine bn ?_
          refine tn ?_
          refine Wc.region rfl ?_
          refine Wl.pure (PR.add (a := ((k : Nat) : Int)) (b := 1) rfl rfl (by simp only [fitI]; omega)) ?_
          refine Wl.pure (PR.moveI rfl) ?_
          refine Wl.nil ?_
          refine tn ?_
          replace st : St [] w w14 [(b48, arrU .i64 (mm + 1) (upd u mm k) ++ sp48, 2), (b3, schV ((d_ : Nat) : Int) ((e_ : Nat) : Int) (a) (b), 27)] := st.pick [0, 3] (by decide) rfl
          have hfl9 := flN_le (fun i_ => repOk d_ e_ a b n c i_ x (pic (wrQ d_ e_ a b n c x))) k
          exact ⟨(k + 1, mm + 1, (upd u mm k), b48, c48, sp48), (.cons rfl (.cons rfl (.cons rfl (.cons rfl (.cons rfl (.cons rfl (.cons rfl (.cons rfl (.cons rfl (.nil _)))))))))), ⟨st, (by first | omega | (dsimp only; omega)), (by first | exact flN_t hm (by assumption) | exact flN_f hm (by assumption)), (by first | exact flA_t (g := (fun z => z)) hm hu (by assumption) | exact flA_f (g := (fun z => z)) hu (by assumption)), hc48, hs48⟩, (by first | omega | (dsimp only; omega))⟩
        · refine Wc.skip ?_
          refine bn ?_
          refine tn ?_
          refine Wc.region rfl ?_
          refine Wl.pure (PR.add (a := ((k : Nat) : Int)) (b := 1) rfl rfl (by simp only [fitI]; omega)) ?_
          refine Wl.pure (PR.moveI rfl) ?_
          refine Wl.nil ?_
          refine tn ?_
          replace st := st.tail
          have hfl9 := flN_le (fun i_ => repOk d_ e_ a b n c i_ x (pic (wrQ d_ e_ a b n c x))) k
          exact ⟨(k + 1, mm, u, b_o, c_o, sp_o), (.cons rfl (.cons rfl (.cons rfl (.cons rfl (.cons rfl (.cons rfl (.cons rfl (.cons rfl (.cons rfl (.nil _)))))))))), ⟨st, (by first | omega | (dsimp only; omega)), (by first | exact flN_t hm (by assumption) | exact flN_f hm (by assumption)), (by first | exact flA_t (g := (fun z => z)) hm hu (by assumption) | exact flA_f (g := (fun z => z)) hu (by assumption)), hc_o, hs_o⟩, (by first | omega | (dsimp only; omega))⟩
      · refine Wc.exit ?_
        refine tx ?_
        refine tx ?_
        refine bh ?_
        refine tn ?_
        refine Wc.seq ?_
        refine Wc.seq ?_
        refine Wc.region rfl ?_
        refine Wl.pure (PR.moveL rfl) ?_
        refine Wl.pure (PR.lenL tS_39 rfl) ?_
        refine Wl.pure (PR.eql (a := ((mm : Nat) : Int)) (b := 0) rfl rfl) ?_
        refine Wl.nil ?_
        refine tn ?_
        refine Wc.condD (p := ((mm : Nat) : Int) = 0) rfl (fun h15 => ?_) (fun h15 => ?_)
        · refine Wc.seq ?_
          refine Wc.region rfl ?_
          refine Wl.pure (PR.assL rfl) ?_
          refine Wl.pure (PR.assI rfl) ?_
          refine Wl.nil ?_
          refine tn ?_
          refine Wc.ret ?_
          refine tr ?_
          refine postL.tmp2 rfl rfl rfl ?_
          refine RetV.of ?_ st.below
          obtain rfl : d_ = k := by omega
          exact tup_2 rfl (congrArg (Value.int .i64) (bl_z6 hcode0 (show ¬ pic (wrQ d_ e_ a b n c x) = 0 by omega) (hm.symm.trans (by omega))))
        · refine Wc.skip ?_
          refine tn ?_
          refine Wc.seq ?_
          exfalso
          obtain rfl : d_ = k := by omega
          exact hcode (blC_0 hcode0 (show ¬ pic (wrQ d_ e_ a b n c x) = 0 by omega) (fun h9 => absurd (hm.trans h9) (by omega)))

set_option maxHeartbeats 400000 in
set_option maxRecDepth 4000 in
theorem c_spec_BlamedShares_t {s : Int} {p : Int} {a : Nat → Nat} {b : Nat → Nat} {x : Nat} {A : Option Addr} {n : Nat} {cp : Nat} {y : Nat → Int} {c : Nat → Nat → Nat} {w : World} (hs : -128 ≤ s ∧ s ≤ 127) (hp : -128 ≤ p ∧ p ≤ 127) (ha : ∀ k, a k < 256) (hb : ∀ k, b k < 256) (hx : x < 18446744073709551616) (hRL : RdS w A n (layS n y c)) (hg : ∀ i, i < n → -128 ≤ y i ∧ y i ≤ 127) (hc : ∀ i k, c i k < 256) (hn : n ≤ 1048576) (hcode : blC (bothC s p a b n y c) (pic (wrQ ((s).toNat) ((p).toNat) a b n c x)) (flN (fun i_ => repOk ((s).toNat) ((p).toNat) a b n c i_ x (pic (wrQ ((s).toNat) ((p).toNat) a b n c x))) (s).toNat) = 0) :
    CE Tryz.prog 19 [.agg (schV (s) (p) (a) (b)).toArray, .int .u64 (((x : Nat) : Int)), .slice (A) (n) (cp)] w (RetXG w [] 2 1 ((flN (fun i_ => repOk ((s).toNat) ((p).toNat) a b n c i_ x (pic (wrQ ((s).toNat) ((p).toNat) a b n c x))) (s).toNat)) (arrU .i64 (flN (fun i_ => repOk ((s).toNat) ((p).toNat) a b n c i_ x (pic (wrQ ((s).toNat) ((p).toNat) a b n c x))) (s).toNat) (fun j => (fun z => z) (flA (fun i_ => repOk ((s).toNat) ((p).toNat) a b n c i_ x (pic (wrQ ((s).toNat) ((p).toNat) a b n c x))) (s).toNat j))) (fun b_ c_ => .tuple #[.slice (some ⟨b_, 0, none⟩) ((flN (fun i_ => repOk ((s).toNat) ((p).toNat) a b n c i_ x (pic (wrQ ((s).toNat) ((p).toNat) a b n c x))) (s).toNat)) (c_), .int .i64 (0)]) []) := by
  refine CE.enter 51 [(0, .agg (schV (s) (p) (a) (b)).toArray), (1, .int .u64 (((x : Nat) : Int))), (2, .slice (A) (n) (cp))] en_19 Tryz.func19 rfl rfl (Nat.le_of_ble_eq_true rfl) rfl ?_
  have st := St.start w
  refine Wc.seq ?_
  refine Wc.region rfl ?_
  refine Wl.boxA st rfl ?_
  clear st
  intro b3 w1 st
  refine Wl.pure (PR.assL rfl) ?_
  refine Wl.pure (PR.assI rfl) ?_
  refine Wl.nil ?_
  refine tn ?_
  refine Wc.seq ?_
  refine Wc.seq ?_
  obtain ⟨hb9, hz9, hm9⟩ := blC_spec hcode
  refine Wc.region rfl ?_
  refine Wl.pure (PR.moveL rfl) ?_
  refine Wl.callV (c_spec_l03Both (bk := b3) (o := 0) (s := s) (p := p) (a := a) (b := b) (A := A) (n := n) (cp := cp) (y := y) (c := c) (st.rdA (i := 0) rfl (all_sub schV_len)) (by first | assumption | omega) (by first | assumption | omega) ha hb (hRL.st st) hg hc (by first | assumption | omega)) rfl ?_
  intro w2 hbel
  replace st := st.call hbel
  clear hbel
  refine Wl.pure (PR.assI rfl) ?_
  refine Wl.nil ?_
  refine tn ?_
  refine Wc.seq ?_
  refine Wc.region rfl ?_
  refine Wl.pure (PR.moveI rfl) ?_
  refine Wl.pure (PR.neq (a := ((bothC s p a b n y c : Nat) : Int)) (b := 0) rfl rfl) ?_
  refine Wl.nil ?_
  refine tn ?_
  refine Wc.condN (p := ((bothC s p a b n y c : Nat) : Int) = 0) rfl (fun h3 => ?_) (fun h3 => ?_)
  · refine Wc.seq ?_
    exfalso
    omega
  · refine Wc.skip ?_
    refine tn ?_
    refine Wc.seq ?_
    refine Wc.seq ?_
    have hcode0 : bothC s p a b n y c = 0 := hb9
    obtain ⟨hok, hlay, hns⟩ := bothC_spec hcode0
    have hall := bothC_all hcode0
    obtain ⟨hs1, hp1, _⟩ := schOk_spec hok
    obtain ⟨d_, rfl⟩ : ∃ d_ : Nat, s = ((d_ : Nat) : Int) := ⟨s.toNat, by omega⟩
    obtain ⟨e_, rfl⟩ : ∃ e_ : Nat, p = ((e_ : Nat) : Int) := ⟨p.toNat, by omega⟩
    obtain ⟨_, hza, hzb⟩ := sch_zero hok
    have hns9 : n = d_ := by omega
    have hy0 : y 0 = ((e_ : Nat) : Int) := hall 0 (by omega)
    have hn6 : 1 ≤ n ∧ n ≤ 6 := by omega
    refine Wc.region rfl ?_
    refine Wl.pure (PR.moveI rfl) ?_
    refine Wl.pure (PR.moveL rfl) ?_
    refine Wl.callV (c_spec_l07Wrong (bk := b3) (o := 0) (s := d_) (p := e_) (a := a) (b := b) (A := A) (n := n) (cp := cp) (y := y) (c := c) (x := x) (st.rdA (i := 0) rfl (all_sub schV_len)) (by first | assumption | omega) ha hb (by first | assumption | omega) (hRL.st st) hg hc (by first | assumption | omega) hx (by first | assumption | omega)) rfl ?_
    intro w4 hbel
    replace st := st.call hbel
    clear hbel
    refine Wl.pure (PR.eql (a := ((pic (wrQ d_ e_ a b n c x) : Nat) : Int)) (b := 0) rfl rfl) ?_
    refine Wl.nil ?_
    refine tn ?_
    refine Wc.condD (p := ((pic (wrQ d_ e_ a b n c x) : Nat) : Int) = 0) rfl (fun h5 => ?_) (fun h5 => ?_)
    · refine Wc.seq ?_
      exfalso
      exact absurd (show pic (wrQ d_ e_ a b n c x) = 0 by omega) hz9
    · refine Wc.skip ?_
      refine tn ?_
      refine Wc.seq ?_
      refine Wc.region rfl ?_
      refine Wl.buildSlice (ps := []) (cs := arrU .i64 0 (fun _ => 0) ++ []) st tS_39 tZ_2 rfl rfl rfl ?_
      clear st
      intro b25 w6 st
      refine Wl.pure (PR.assL rfl) ?_
      refine Wl.nil ?_
      refine tn ?_
      refine Wc.seq ?_
      refine Wc.seq ?_
      refine Wc.region rfl ?_
      refine Wl.pure (PR.assI rfl) ?_
      refine Wl.nil ?_
      refine tn ?_
      refine Wc.block ?_
      refine Wc.loopF (γ := Nat × Nat × (Nat → Nat) × Nat × Nat × List Value) (fun g => [(1, .int .u64 (((x : Nat) : Int))), (2, .slice (A) (n) (cp)), (3, .pointer (some ⟨b3, 0, none⟩)), (6, .slice (none) (0) (0)), (7, .int .i64 (0)), (9, .slice (some ⟨g.2.2.2.1, 0, none⟩) (g.2.1) (g.2.2.2.2.1)), (10, .int .i64 (((g.1 : Nat) : Int)))]) (fun g w_ => St [] w w_ [(g.2.2.2.1, arrU .i64 g.2.1 g.2.2.1 ++ g.2.2.2.2.2, 2), (b3, schV ((d_ : Nat) : Int) ((e_ : Nat) : Int) (a) (b), 27)] ∧ (g.1 ≤ d_) ∧ (g.2.1 = flN (fun i_ => repOk d_ e_ a b n c i_ x (pic (wrQ d_ e_ a b n c x))) g.1) ∧ (∀ j, j < g.2.1 → g.2.2.1 j = (fun z => z) (flA (fun i_ => repOk d_ e_ a b n c i_ x (pic (wrQ d_ e_ a b n c x))) g.1 j)) ∧ (g.2.1 ≤ g.2.2.2.2.1) ∧ (g.2.2.2.2.2.length = (g.2.2.2.2.1 - g.2.1) * 1)) (fun g => d_ - g.1) ?_ ?_
      · exact ⟨(0, 0, (fun _ => 0), b25, 0, []), (.cons rfl (.cons rfl (.cons rfl (.cons rfl (.cons rfl (.cons rfl (.cons rfl (.nil _)))))))), st, (by first | omega | (dsimp only; omega)), rfl, (fun j hj => absurd hj (Nat.not_lt_zero _)), (Nat.le_refl _), rfl⟩
      clear st
      rintro ⟨k, mm, u, b_o, c_o, sp_o⟩ w7 ⟨st, hk, hm, hu, hc_o, hs_o⟩
      try dsimp only at st hk hm hu hc_o hs_o ⊢
      have hfl8 := flN_le (fun i_ => repOk d_ e_ a b n c i_ x (pic (wrQ d_ e_ a b n c x))) k
      refine Wc.seq ?_
      refine Wc.seq ?_
      refine Wc.region rfl ?_
      refine Wl.pure (PR.moveI rfl) ?_
      refine Wl.pure (PR.fieldAddr tF_27_0 rfl) ?_
      refine Wl.load (i := 1) st tA_24 rfl rfl (rfl) ?_
      refine Wl.pure (PR.conv (n := ((d_ : Nat) : Int)) tI_2 rfl (by simp only [fitI]; omega) Tryz.underlying24) ?_
      refine Wl.pure (PR.lss (a := ((k : Nat) : Int)) (b := ((d_ : Nat) : Int)) rfl rfl) ?_
      refine Wl.nil ?_
      refine tn ?_
      refine Wc.condD (p := ((k : Nat) : Int) < ((d_ : Nat) : Int)) rfl (fun h8 => ?_) (fun h8 => ?_)
      · refine Wc.skip ?_
        refine tn ?_
        refine Wc.seq ?_
        refine Wc.block ?_
        refine Wc.seq ?_
        refine Wc.region rfl ?_
        refine Wl.pure (PR.moveI rfl) ?_
        refine Wl.pure (PR.moveL rfl) ?_
        refine Wl.pure (PR.moveI rfl) ?_
        refine Wl.callV (c_spec_l07Repaired (bk := b3) (o := 0) (s := d_) (p := e_) (a := a) (b := b) (A := A) (n := n) (cp := cp) (y := y) (c := c) (i := k) (x := x) (st.rdA (i := 1) rfl (all_sub schV_len)) (by first | assumption | omega) ha hb (by first | assumption | omega) (hRL.st st) hg hc (by first | assumption | omega) hx (by first | assumption | omega) (by first | assumption | omega)) rfl ?_
        intro w9 hbel
        replace st := st.call hbel
        clear hbel
        refine Wl.pure (PR.moveV (.tuple #[.agg (layV (rpZ (repOk d_ e_ a b n c k x (pic (wrQ d_ e_ a b n c x))) (y k)) ((rpF (repOk d_ e_ a b n c k x (pic (wrQ d_ e_ a b n c x))) (rpC d_ e_ a b n c k x (pic (wrQ d_ e_ a b n c x)))))).toArray, .int .i64 (((rpN (repOk d_ e_ a b n c k x (pic (wrQ d_ e_ a b n c x))) (pc (pic (wrQ d_ e_ a b n c x))) : Nat) : Int)), .bool ((repOk d_ e_ a b n c k x (pic (wrQ d_ e_ a b n c x))))]) rfl) ?_
        refine Wl.pure (PR.extr (i := 0) (vs := [.agg (layV (rpZ (repOk d_ e_ a b n c k x (pic (wrQ d_ e_ a b n c x))) (y k)) ((rpF (repOk d_ e_ a b n c k x (pic (wrQ d_ e_ a b n c x))) (rpC d_ e_ a b n c k x (pic (wrQ d_ e_ a b n c x)))))).toArray, .int .i64 (((rpN (repOk d_ e_ a b n c k x (pic (wrQ d_ e_ a b n c x))) (pc (pic (wrQ d_ e_ a b n c x))) : Nat) : Int)), .bool ((repOk d_ e_ a b n c k x (pic (wrQ d_ e_ a b n c x))))]) rfl rfl) ?_
        refine Wl.pure (PR.extr (i := 1) (vs := [.agg (layV (rpZ (repOk d_ e_ a b n c k x (pic (wrQ d_ e_ a b n c x))) (y k)) ((rpF (repOk d_ e_ a b n c k x (pic (wrQ d_ e_ a b n c x))) (rpC d_ e_ a b n c k x (pic (wrQ d_ e_ a b n c x)))))).toArray, .int .i64 (((rpN (repOk d_ e_ a b n c k x (pic (wrQ d_ e_ a b n c x))) (pc (pic (wrQ d_ e_ a b n c x))) : Nat) : Int)), .bool ((repOk d_ e_ a b n c k x (pic (wrQ d_ e_ a b n c x))))]) rfl rfl) ?_
        refine Wl.pure (PR.extr (i := 2) (vs := [.agg (layV (rpZ (repOk d_ e_ a b n c k x (pic (wrQ d_ e_ a b n c x))) (y k)) ((rpF (repOk d_ e_ a b n c k x (pic (wrQ d_ e_ a b n c x))) (rpC d_ e_ a b n c k x (pic (wrQ d_ e_ a b n c x)))))).toArray, .int .i64 (((rpN (repOk d_ e_ a b n c k x (pic (wrQ d_ e_ a b n c x))) (pc (pic (wrQ d_ e_ a b n c x))) : Nat) : Int)), .bool ((repOk d_ e_ a b n c k x (pic (wrQ d_ e_ a b n c x))))]) rfl rfl) ?_
        refine Wl.alloc st tZ_50 rfl ?_
        clear st
        intro b11 w10 st
        refine Wl.storeA (i := 0) (cs' := layV (rpZ (repOk d_ e_ a b n c k x (pic (wrQ d_ e_ a b n c x))) (y k)) ((rpF (repOk d_ e_ a b n c k x (pic (wrQ d_ e_ a b n c x))) (rpC d_ e_ a b n c k x (pic (wrQ d_ e_ a b n c x)))))) st tA_50 rfl rfl layV_len layV_one rfl (le_of_len layV_len (by omega)) (all_put layV_len) ?_
        clear st
        intro w11 st
        replace st : St [] w w11 [(b11, layV (rpZ (repOk d_ e_ a b n c k x (pic (wrQ d_ e_ a b n c x))) (y k)) ((rpF (repOk d_ e_ a b n c k x (pic (wrQ d_ e_ a b n c x))) (rpC d_ e_ a b n c k x (pic (wrQ d_ e_ a b n c x))))), 50), (b_o, arrU .i64 mm u ++ sp_o, 2), (b3, schV ((d_ : Nat) : Int) ((e_ : Nat) : Int) (a) (b), 27)] := st
        refine Wl.pure (PR.assI rfl) ?_
        refine Wl.pure (PR.assB rfl) ?_
        refine Wl.nil ?_
        refine tn ?_
        refine Wc.seq ?_
        refine Wc.region rfl ?_
        refine Wl.pure (PR.moveB rfl) ?_
        refine Wl.nil ?_
        refine tn ?_
        refine Wc.condB (b := (repOk d_ e_ a b n c k x (pic (wrQ d_ e_ a b n c x)))) rfl (fun h12 => ?_) (fun h12 => ?_)
        · refine Wc.region rfl ?_
          refine Wl.pure (PR.moveL rfl) ?_
          refine Wl.pure (PR.moveI rfl) ?_
          refine Wl.buildSlice (ps := [(0, .int .i64 (((k : Nat) : Int)))]) (cs := [.int .i64 (((k : Nat) : Int))]) st tS_39 tZ_2 rfl rfl rfl ?_
          clear st
          intro b44 w13 st
          refine Wl.append (n := mm) (c := c_o) (m := 1) (cs := arrU .i64 mm u) (sp := sp_o) (vs := [.int .i64 (((k : Nat) : Int))]) (i := 2) st tS_39 tZ_2 rfl rfl rfl (by rw [(arrU_len _), Nat.mul_one]) hs_o hc_o rfl (Src.ofRdA (tyS_und tS_39) (st.rdA (i := 0) (n := 1) rfl rfl) rfl (by simp [Value.oneCell'])) (by omega) (by omega) ?_
          clear st
          intro b45 c45 sp45 w14 hc45 hs45 st
          rw [arrU_snoc] at st
          replace st : St [] w w14 [(b45, arrU .i64 (mm + 1) (upd u mm k) ++ sp45, 2), (b44, [.int .i64 (((k : Nat) : Int))], 2), (b11, layV (rpZ (repOk d_ e_ a b n c k x (pic (wrQ d_ e_ a b n c x))) (y k)) ((rpF (repOk d_ e_ a b n c k x (pic (wrQ d_ e_ a b n c x))) (rpC d_ e_ a b n c k x (pic (wrQ d_ e_ a b n c x))))), 50), (b3, schV ((d_ : Nat) : Int) ((e_ : Nat) : Int) (a) (b), 27)] := st
          refine Wl.pure (PR.assL rfl) ?_
          refine Wl.nil ?_
          refine bn ?_
          refine tn ?_
          refine Wc.region rfl ?_
          refine Wl.pure (PR.moveI rfl) ?_
          refine Wl.pure (PR.add (a := ((k : Nat) : Int)) (b := 1) rfl rfl (by simp only [fitI]; omega)) ?_
          refine Wl.pure (PR.assI rfl) ?_
          refine Wl.nil ?_
          refine tn ?_
          replace st : St [] w w14 [(b45, arrU .i64 (mm + 1) (upd u mm k) ++ sp45, 2), (b3, schV ((d_ : Nat) : Int) ((e_ : Nat) : Int) (a) (b), 27)] := st.pick [0, 3] (by decide) rfl
          have hfl9 := flN_le (fun i_ => repOk d_ e_ a b n c i_ x (pic (wrQ d_ e_ a b n c x))) k
          exact ⟨(k + 1, mm + 1, (upd u mm k), b45, c45, sp45), (.cons rfl (.cons rfl (.cons rfl (.cons rfl (.cons rfl (.cons rfl (.cons rfl (.nil _)))))))), ⟨st, (by first | omega | (dsimp only; omega)), (by first | exact flN_t hm (by assumption) | exact flN_f hm (by assumption)), (by first | exact flA_t (g := (fun z => z)) hm hu (by assumption) | exact flA_f (g := (fun z => z)) hu (by assumption)), hc45, hs45⟩, (by first | omega | (dsimp only; omega))⟩
        · refine Wc.skip ?_
          refine bn ?_
          refine tn ?_
          refine Wc.region rfl ?_
          refine Wl.pure (PR.moveI rfl) ?_
          refine Wl.pure (PR.add (a := ((k : Nat) : Int)) (b := 1) rfl rfl (by simp only [fitI]; omega)) ?_
          refine Wl.pure (PR.assI rfl) ?_
          refine Wl.nil ?_
          refine tn ?_
          replace st := st.tail
          have hfl9 := flN_le (fun i_ => repOk d_ e_ a b n c i_ x (pic (wrQ d_ e_ a b n c x))) k
          exact ⟨(k + 1, mm, u, b_o, c_o, sp_o), (.cons rfl (.cons rfl (.cons rfl (.cons rfl (.cons rfl (.cons rfl (.cons rfl (.nil _)))))))), ⟨st, (by first | omega | (dsimp only; omega)), (by first | exact flN_t hm (by assumption) | exact flN_f hm (by assumption)), (by first | exact flA_t (g := (fun z => z)) hm hu (by assumption) | exact flA_f (g := (fun z => z)) hu (by assumption)), hc_o, hs_o⟩, (by first | omega | (dsimp only; omega))⟩
      · refine Wc.exit ?_
        refine tx ?_
        refine tx ?_
        refine bh ?_
        refine tn ?_
        refine Wc.seq ?_
        refine Wc.seq ?_
        refine Wc.region rfl ?_
        refine Wl.pure (PR.moveL rfl) ?_
        refine Wl.pure (PR.lenL tS_39 rfl) ?_
        refine Wl.pure (PR.eql (a := ((mm : Nat) : Int)) (b := 0) rfl rfl) ?_
        refine Wl.nil ?_
        refine tn ?_
        refine Wc.condD (p := ((mm : Nat) : Int) = 0) rfl (fun h15 => ?_) (fun h15 => ?_)
        · refine Wc.seq ?_
          exfalso
          obtain rfl : d_ = k := by omega
          exact hm9 (hm.symm.trans (by omega))
        · refine Wc.skip ?_
          refine tn ?_
          refine Wc.seq ?_
          refine Wc.region rfl ?_
          refine Wl.pure (PR.moveL rfl) ?_
          refine Wl.pure (PR.assL rfl) ?_
          refine Wl.pure (PR.assI rfl) ?_
          refine Wl.nil ?_
          refine tn ?_
          refine Wc.ret ?_
          refine postL.tmp2 rfl rfl rfl ?_
          obtain rfl : d_ = k := by omega
          subst hm
          rw [arrU_congr (fun j hj => hu j hj)] at st
          replace st : St [] w w7 [(b_o, arrU .i64 (flN (fun i_ => repOk d_ e_ a b n c i_ x (pic (wrQ d_ e_ a b n c x))) d_) (fun j => (fun z => z) (flA (fun i_ => repOk d_ e_ a b n c i_ x (pic (wrQ d_ e_ a b n c x))) d_ j)) ++ sp_o, 2)] := st.pick [0] (by decide) rfl
          exact ⟨b_o, c_o, sp_o, hc_o, hs_o, rfl, st⟩

set_option maxHeartbeats 400000 in
set_option maxRecDepth 4000 in
theorem c_spec_BlamedShares_f {s : Int} {p : Int} {a : Nat → Nat} {b : Nat → Nat} {x : Nat} {A : Option Addr} {n : Nat} {cp : Nat} {y : Nat → Int} {c : Nat → Nat → Nat} {w : World} (hs : -128 ≤ s ∧ s ≤ 127) (hp : -128 ≤ p ∧ p ≤ 127) (ha : ∀ k, a k < 256) (hb : ∀ k, b k < 256) (hx : x < 18446744073709551616) (hRL : RdS w A n (layS n y c)) (hg : ∀ i, i < n → -128 ≤ y i ∧ y i ≤ 127) (hc : ∀ i k, c i k < 256) (hn : n ≤ 1048576) (hcode : ¬ blC (bothC s p a b n y c) (pic (wrQ ((s).toNat) ((p).toNat) a b n c x)) (flN (fun i_ => repOk ((s).toNat) ((p).toNat) a b n c i_ x (pic (wrQ ((s).toNat) ((p).toNat) a b n c x))) (s).toNat) = 0) :
    CE Tryz.prog 19 [.agg (schV (s) (p) (a) (b)).toArray, .int .u64 (((x : Nat) : Int)), .slice (A) (n) (cp)] w (RetXG w [] 2 1 (0) (arrU .i64 0 (fun _ => 0)) (fun b_ c_ => .tuple #[.slice (some ⟨b_, 0, none⟩) (0) (c_), .int .i64 (((blC (bothC s p a b n y c) (pic (wrQ ((s).toNat) ((p).toNat) a b n c x)) (flN (fun i_ => repOk ((s).toNat) ((p).toNat) a b n c i_ x (pic (wrQ ((s).toNat) ((p).toNat) a b n c x))) (s).toNat) : Nat) : Int))]) []) := by
  refine CE.enter 51 [(0, .agg (schV (s) (p) (a) (b)).toArray), (1, .int .u64 (((x : Nat) : Int))), (2, .slice (A) (n) (cp))] en_19 Tryz.func19 rfl rfl (Nat.le_of_ble_eq_true rfl) rfl ?_
  have st := St.start w
  refine Wc.seq ?_
  refine Wc.region rfl ?_
  refine Wl.boxA st rfl ?_
  clear st
  intro b3 w1 st
  refine Wl.pure (PR.assL rfl) ?_
  refine Wl.pure (PR.assI rfl) ?_
  refine Wl.nil ?_
  refine tn ?_
  refine Wc.seq ?_
  refine Wc.seq ?_
  refine Wc.region rfl ?_
  refine Wl.pure (PR.moveL rfl) ?_
  refine Wl.callV (c_spec_l03Both (bk := b3) (o := 0) (s := s) (p := p) (a := a) (b := b) (A := A) (n := n) (cp := cp) (y := y) (c := c) (st.rdA (i := 0) rfl (all_sub schV_len)) (by first | assumption | omega) (by first | assumption | omega) ha hb (hRL.st st) hg hc (by first | assumption | omega)) rfl ?_
  intro w2 hbel
  replace st := st.call hbel
  clear hbel
  refine Wl.pure (PR.assI rfl) ?_
  refine Wl.nil ?_
  refine tn ?_
  refine Wc.seq ?_
  refine Wc.region rfl ?_
  refine Wl.pure (PR.moveI rfl) ?_
  refine Wl.pure (PR.neq (a := ((bothC s p a b n y c : Nat) : Int)) (b := 0) rfl rfl) ?_
  refine Wl.nil ?_
  refine tn ?_
  refine Wc.condN (p := ((bothC s p a b n y c : Nat) : Int) = 0) rfl (fun h3 => ?_) (fun h3 => ?_)
  · refine Wc.seq ?_
    refine Wc.region rfl ?_
    refine Wl.buildSlice (ps := []) (cs := arrU .i64 0 (fun _ => 0) ++ []) st tS_39 tZ_2 rfl rfl rfl ?_
    clear st
    intro b18 w4 st
    refine Wl.pure (PR.moveI rfl) ?_
    refine Wl.pure (PR.assL rfl) ?_
    refine Wl.pure (PR.assI rfl) ?_
    refine Wl.nil ?_
    refine tn ?_
    refine Wc.ret ?_
    refine tr ?_
    refine postL.tmp2 rfl rfl rfl ?_
    replace st : St [] w w4 [(b18, arrU .i64 0 (fun _ => 0) ++ [], 2)] := st.pick [0] (by decide) rfl
    exact ⟨b18, 0, ([]), (Nat.le_refl _), rfl, (by first | exact congrArg Ending.returned (tup_2 rfl (congrArg (Value.int .i64) (bl_zb (by omega)))) | exact congrArg Ending.returned (tup_2 rfl (congrArg (Value.int .i64) (bl_z4 hcode0 (show pic (wrQ d_ e_ a b n c x) = 0 by omega)))) | (have hkd : d_ = k := (by omega); subst hkd; exact congrArg Ending.returned (tup_2 rfl (congrArg (Value.int .i64) (bl_z6 hcode0 (show ¬ pic (wrQ d_ e_ a b n c x) = 0 by omega) (hm.symm.trans (by omega))))))), st⟩
  · refine Wc.skip ?_
    refine tn ?_
    refine Wc.seq ?_
    refine Wc.seq ?_
    have hcode0 : bothC s p a b n y c = 0 := (by omega)
    obtain ⟨hok, hlay, hns⟩ := bothC_spec hcode0
    have hall := bothC_all hcode0
    obtain ⟨hs1, hp1, _⟩ := schOk_spec hok
    obtain ⟨d_, rfl⟩ : ∃ d_ : Nat, s = ((d_ : Nat) : Int) := ⟨s.toNat, by omega⟩
    obtain ⟨e_, rfl⟩ : ∃ e_ : Nat, p = ((e_ : Nat) : Int) := ⟨p.toNat, by omega⟩
    obtain ⟨_, hza, hzb⟩ := sch_zero hok
    have hns9 : n = d_ := by omega
    have hy0 : y 0 = ((e_ : Nat) : Int) := hall 0 (by omega)
    have hn6 : 1 ≤ n ∧ n ≤ 6 := by omega
    refine Wc.region rfl ?_
    refine Wl.pure (PR.moveI rfl) ?_
    refine Wl.pure (PR.moveL rfl) ?_
    refine Wl.callV (c_spec_l07Wrong (bk := b3) (o := 0) (s := d_) (p := e_) (a := a) (b := b) (A := A) (n := n) (cp := cp) (y := y) (c := c) (x := x) (st.rdA (i := 0) rfl (all_sub schV_len)) (by first | assumption | omega) ha hb (by first | assumption | omega) (hRL.st st) hg hc (by first | assumption | omega) hx (by first | assumption | omega)) rfl ?_
    intro w5 hbel
    replace st := st.call hbel
    clear hbel
    refine Wl.pure (PR.eql (a := ((pic (wrQ d_ e_ a b n c x) : Nat) : Int)) (b := 0) rfl rfl) ?_
    refine Wl.nil ?_
    refine tn ?_
    refine Wc.condD (p := ((pic (wrQ d_ e_ a b n c x) : Nat) : Int) = 0) rfl (fun h6 => ?_) (fun h6 => ?_)
    · refine Wc.seq ?_
      refine Wc.region rfl ?_
      refine Wl.buildSlice (ps := []) (cs := arrU .i64 0 (fun _ => 0) ++ []) st tS_39 tZ_2 rfl rfl rfl ?_
      clear st
      intro b24 w7 st
      refine Wl.pure (PR.assL rfl) ?_
      refine Wl.pure (PR.assI rfl) ?_
      refine Wl.nil ?_
      refine tn ?_
      refine Wc.ret ?_
      refine tr ?_
      refine postL.tmp2 rfl rfl rfl ?_
      replace st : St [] w w7 [(b24, arrU .i64 0 (fun _ => 0) ++ [], 2)] := st.pick [0] (by decide) rfl
      exact ⟨b24, 0, ([]), (Nat.le_refl _), rfl, (by first | exact congrArg Ending.returned (tup_2 rfl (congrArg (Value.int .i64) (bl_zb (by omega)))) | exact congrArg Ending.returned (tup_2 rfl (congrArg (Value.int .i64) (bl_z4 hcode0 (show pic (wrQ d_ e_ a b n c x) = 0 by omega)))) | (have hkd : d_ = k := (by omega); subst hkd; exact congrArg Ending.returned (tup_2 rfl (congrArg (Value.int .i64) (bl_z6 hcode0 (show ¬ pic (wrQ d_ e_ a b n c x) = 0 by omega) (hm.symm.trans (by omega))))))), st⟩
    · refine Wc.skip ?_
      refine tn ?_
      refine Wc.seq ?_
      refine Wc.region rfl ?_
      refine Wl.buildSlice (ps := []) (cs := arrU .i64 0 (fun _ => 0) ++ []) st tS_39 tZ_2 rfl rfl rfl ?_
      clear st
      intro b25 w8 st
      refine Wl.pure (PR.assL rfl) ?_
      refine Wl.nil ?_
      refine tn ?_
      refine Wc.seq ?_
      refine Wc.seq ?_
      refine Wc.region rfl ?_
      refine Wl.pure (PR.assI rfl) ?_
      refine Wl.nil ?_
      refine tn ?_
      refine Wc.block ?_
      refine Wc.loopF (γ := Nat × Nat × (Nat → Nat) × Nat × Nat × List Value) (fun g => [(1, .int .u64 (((x : Nat) : Int))), (2, .slice (A) (n) (cp)), (3, .pointer (some ⟨b3, 0, none⟩)), (6, .slice (none) (0) (0)), (7, .int .i64 (0)), (9, .slice (some ⟨g.2.2.2.1, 0, none⟩) (g.2.1) (g.2.2.2.2.1)), (10, .int .i64 (((g.1 : Nat) : Int)))]) (fun g w_ => St [] w w_ [(g.2.2.2.1, arrU .i64 g.2.1 g.2.2.1 ++ g.2.2.2.2.2, 2), (b3, schV ((d_ : Nat) : Int) ((e_ : Nat) : Int) (a) (b), 27)] ∧ (g.1 ≤ d_) ∧ (g.2.1 = flN (fun i_ => repOk d_ e_ a b n c i_ x (pic (wrQ d_ e_ a b n c x))) g.1) ∧ (∀ j, j < g.2.1 → g.2.2.1 j = (fun z => z) (flA (fun i_ => repOk d_ e_ a b n c i_ x (pic (wrQ d_ e_ a b n c x))) g.1 j)) ∧ (g.2.1 ≤ g.2.2.2.2.1) ∧ (g.2.2.2.2.2.length = (g.2.2.2.2.1 - g.2.1) * 1)) (fun g => d_ - g.1) ?_ ?_
      · exact ⟨(0, 0, (fun _ => 0), b25, 0, []), (.cons rfl (.cons rfl (.cons rfl (.cons rfl (.cons rfl (.cons rfl (.cons rfl (.nil _)))))))), st, (by first | omega | (dsimp only; omega)), rfl, (fun j hj => absurd hj (Nat.not_lt_zero _)), (Nat.le_refl _), rfl⟩
      clear st
      rintro ⟨k, mm, u, b_o, c_o, sp_o⟩ w9 ⟨st, hk, hm, hu, hc_o, hs_o⟩
      try dsimp only at st hk hm hu hc_o hs_o ⊢
      have hfl8 := flN_le (fun i_ => repOk d_ e_ a b n c i_ x (pic (wrQ d_ e_ a b n c x))) k
      refine Wc.seq ?_
      refine Wc.seq ?_
      refine Wc.region rfl ?_
      refine Wl.pure (PR.moveI rfl) ?_
      refine Wl.pure (PR.fieldAddr tF_27_0 rfl) ?_
      refine Wl.load (i := 1) st tA_24 rfl rfl (rfl) ?_
      refine Wl.pure (PR.conv (n := ((d_ : Nat) : Int)) tI_2 rfl (by simp only [fitI]; omega) Tryz.underlying24) ?_
      refine Wl.pure (PR.lss (a := ((k : Nat) : Int)) (b := ((d_ : Nat) : Int)) rfl rfl) ?_
      refine Wl.nil ?_
      refine tn ?_
      refine Wc.condD (p := ((k : Nat) : Int) < ((d_ : Nat) : Int)) rfl (fun h10 => ?_) (fun h10 => ?_)
      · refine Wc.skip ?_
        refine tn ?_
        refine Wc.seq ?_
        refine Wc.block ?_
        refine Wc.seq ?_
        refine Wc.region rfl ?_
        refine Wl.pure (PR.moveI rfl) ?_
        refine Wl.pure (PR.moveL rfl) ?_
        refine Wl.pure (PR.moveI rfl) ?_
        refine Wl.callV (c_spec_l07Repaired (bk := b3) (o := 0) (s := d_) (p := e_) (a := a) (b := b) (A := A) (n := n) (cp := cp) (y := y) (c := c) (i := k) (x := x) (st.rdA (i := 1) rfl (all_sub schV_len)) (by first | assumption | omega) ha hb (by first | assumption | omega) (hRL.st st) hg hc (by first | assumption | omega) hx (by first | assumption | omega) (by first | assumption | omega)) rfl ?_
        intro w11 hbel
        replace st := st.call hbel
        clear hbel
        refine Wl.pure (PR.moveV (.tuple #[.agg (layV (rpZ (repOk d_ e_ a b n c k x (pic (wrQ d_ e_ a b n c x))) (y k)) ((rpF (repOk d_ e_ a b n c k x (pic (wrQ d_ e_ a b n c x))) (rpC d_ e_ a b n c k x (pic (wrQ d_ e_ a b n c x)))))).toArray, .int .i64 (((rpN (repOk d_ e_ a b n c k x (pic (wrQ d_ e_ a b n c x))) (pc (pic (wrQ d_ e_ a b n c x))) : Nat) : Int)), .bool ((repOk d_ e_ a b n c k x (pic (wrQ d_ e_ a b n c x))))]) rfl) ?_
        refine Wl.pure (PR.extr (i := 0) (vs := [.agg (layV (rpZ (repOk d_ e_ a b n c k x (pic (wrQ d_ e_ a b n c x))) (y k)) ((rpF (repOk d_ e_ a b n c k x (pic (wrQ d_ e_ a b n c x))) (rpC d_ e_ a b n c k x (pic (wrQ d_ e_ a b n c x)))))).toArray, .int .i64 (((rpN (repOk d_ e_ a b n c k x (pic (wrQ d_ e_ a b n c x))) (pc (pic (wrQ d_ e_ a b n c x))) : Nat) : Int)), .bool ((repOk d_ e_ a b n c k x (pic (wrQ d_ e_ a b n c x))))]) rfl rfl) ?_
        refine Wl.pure (PR.extr (i := 1) (vs := [.agg (layV (rpZ (repOk d_ e_ a b n c k x (pic (wrQ d_ e_ a b n c x))) (y k)) ((rpF (repOk d_ e_ a b n c k x (pic (wrQ d_ e_ a b n c x))) (rpC d_ e_ a b n c k x (pic (wrQ d_ e_ a b n c x)))))).toArray, .int .i64 (((rpN (repOk d_ e_ a b n c k x (pic (wrQ d_ e_ a b n c x))) (pc (pic (wrQ d_ e_ a b n c x))) : Nat) : Int)), .bool ((repOk d_ e_ a b n c k x (pic (wrQ d_ e_ a b n c x))))]) rfl rfl) ?_
        refine Wl.pure (PR.extr (i := 2) (vs := [.agg (layV (rpZ (repOk d_ e_ a b n c k x (pic (wrQ d_ e_ a b n c x))) (y k)) ((rpF (repOk d_ e_ a b n c k x (pic (wrQ d_ e_ a b n c x))) (rpC d_ e_ a b n c k x (pic (wrQ d_ e_ a b n c x)))))).toArray, .int .i64 (((rpN (repOk d_ e_ a b n c k x (pic (wrQ d_ e_ a b n c x))) (pc (pic (wrQ d_ e_ a b n c x))) : Nat) : Int)), .bool ((repOk d_ e_ a b n c k x (pic (wrQ d_ e_ a b n c x))))]) rfl rfl) ?_
        refine Wl.alloc st tZ_50 rfl ?_
        clear st
        intro b11 w12 st
        refine Wl.storeA (i := 0) (cs' := layV (rpZ (repOk d_ e_ a b n c k x (pic (wrQ d_ e_ a b n c x))) (y k)) ((rpF (repOk d_ e_ a b n c k x (pic (wrQ d_ e_ a b n c x))) (rpC d_ e_ a b n c k x (pic (wrQ d_ e_ a b n c x)))))) st tA_50 rfl rfl layV_len layV_one rfl (le_of_len layV_len (by omega)) (all_put layV_len) ?_
        clear st
        intro w13 st
        replace st : St [] w w13 [(b11, layV (rpZ (repOk d_ e_ a b n c k x (pic (wrQ d_ e_ a b n c x))) (y k)) ((rpF (repOk d_ e_ a b n c k x (pic (wrQ d_ e_ a b n c x))) (rpC d_ e_ a b n c k x (pic (wrQ d_ e_ a b n c x))))), 50), (b_o, arrU .i64 mm u ++ sp_o, 2), (b3, schV ((d_ : Nat) : Int) ((e_ : Nat) : Int) (a) (b), 27)] := st
        refine Wl.pure (PR.assI rfl) ?_
        refine Wl.pure (PR.assB rfl) ?_
        refine Wl.nil ?_
        refine tn ?_
        refine Wc.seq ?_
        refine Wc.region rfl ?_
        refine Wl.pure (PR.moveB rfl) ?_
        refine Wl.nil ?_
        refine tn ?_
        refine Wc.condB (b := (repOk d_ e_ a b n c k x (pic (wrQ d_ e_ a b n c x)))) rfl (fun h14 => ?_) (fun h14 => ?_)
        · refine Wc.region rfl ?_
          refine Wl.pure (PR.moveL rfl) ?_
          refine Wl.pure (PR.moveI rfl) ?_
          refine Wl.buildSlice (ps := [(0, .int .i64 (((k : Nat) : Int)))]) (cs := [.int .i64 (((k : Nat) : Int))]) st tS_39 tZ_2 rfl rfl rfl ?_
          clear st
          intro b44 w15 st
          refine Wl.append (n := mm) (c := c_o) (m := 1) (cs := arrU .i64 mm u) (sp := sp_o) (vs := [.int .i64 (((k : Nat) : Int))]) (i := 2) st tS_39 tZ_2 rfl rfl rfl (by rw [(arrU_len _), Nat.mul_one]) hs_o hc_o rfl (Src.ofRdA (tyS_und tS_39) (st.rdA (i := 0) (n := 1) rfl rfl) rfl (by simp [Value.oneCell'])) (by omega) (by omega) ?_
          clear st
          intro b45 c45 sp45 w16 hc45 hs45 st
          rw [arrU_snoc] at st
          replace st : St [] w w16 [(b45, arrU .i64 (mm + 1) (upd u mm k) ++ sp45, 2), (b44, [.int .i64 (((k : Nat) : Int))], 2), (b11, layV (rpZ (repOk d_ e_ a b n c k x (pic (wrQ d_ e_ a b n c x))) (y k)) ((rpF (repOk d_ e_ a b n c k x (pic (wrQ d_ e_ a b n c x))) (rpC d_ e_ a b n c k x (pic (wrQ d_ e_ a b n c x))))), 50), (b3, schV ((d_ : Nat) : Int) ((e_ : Nat) : Int) (a) (b), 27)] := st
          refine Wl.pure (PR.assL rfl) ?_
          refine Wl.nil ?_
          refine bn ?_
          refine tn ?_
          refine Wc.region rfl ?_
          refine Wl.pure (PR.moveI rfl) ?_
          refine Wl.pure (PR.add (a := ((k : Nat) : Int)) (b := 1) rfl rfl (by simp only [fitI]; omega)) ?_
          refine Wl.pure (PR.assI rfl) ?_
          refine Wl.nil ?_
          refine tn ?_
          replace st : St [] w w16 [(b45, arrU .i64 (mm + 1) (upd u mm k) ++ sp45, 2), (b3, schV ((d_ : Nat) : Int) ((e_ : Nat) : Int) (a) (b), 27)] := st.pick [0, 3] (by decide) rfl
          have hfl9 := flN_le (fun i_ => repOk d_ e_ a b n c i_ x (pic (wrQ d_ e_ a b n c x))) k
          exact ⟨(k + 1, mm + 1, (upd u mm k), b45, c45, sp45), (.cons rfl (.cons rfl (.cons rfl (.cons rfl (.cons rfl (.cons rfl (.cons rfl (.nil _)))))))), ⟨st, (by first | omega | (dsimp only; omega)), (by first | exact flN_t hm (by assumption) | exact flN_f hm (by assumption)), (by first | exact flA_t (g := (fun z => z)) hm hu (by assumption) | exact flA_f (g := (fun z => z)) hu (by assumption)), hc45, hs45⟩, (by first | omega | (dsimp only; omega))⟩
        · refine Wc.skip ?_
          refine bn ?_
          refine tn ?_
          refine Wc.region rfl ?_
          refine Wl.pure (PR.moveI rfl) ?_
          refine Wl.pure (PR.add (a := ((k : Nat) : Int)) (b := 1) rfl rfl (by simp only [fitI]; omega)) ?_
          refine Wl.pure (PR.assI rfl) ?_
          refine Wl.nil ?_
          refine tn ?_
          replace st := st.tail
          have hfl9 := flN_le (fun i_ => repOk d_ e_ a b n c i_ x (pic (wrQ d_ e_ a b n c x))) k
          exact ⟨(k + 1, mm, u, b_o, c_o, sp_o), (.cons rfl (.cons rfl (.cons rfl (.cons rfl (.cons rfl (.cons rfl (.cons rfl (.nil _)))))))), ⟨st, (by first | omega | (dsimp only; omega)), (by first | exact flN_t hm (by assumption) | exact flN_f hm (by assumption)), (by first | exact flA_t (g := (fun z => z)) hm hu (by assumption) | exact flA_f (g := (fun z => z)) hu (by assumption)), hc_o, hs_o⟩, (by first | omega | (dsimp only; omega))⟩
      · refine Wc.exit ?_
        refine tx ?_
        refine tx ?_
        refine bh ?_
        refine tn ?_
        refine Wc.seq ?_
        refine Wc.seq ?_
        refine Wc.region rfl ?_
        refine Wl.pure (PR.moveL rfl) ?_
        refine Wl.pure (PR.lenL tS_39 rfl) ?_
        refine Wl.pure (PR.eql (a := ((mm : Nat) : Int)) (b := 0) rfl rfl) ?_
        refine Wl.nil ?_
        refine tn ?_
        refine Wc.condD (p := ((mm : Nat) : Int) = 0) rfl (fun h17 => ?_) (fun h17 => ?_)
        · refine Wc.seq ?_
          refine Wc.region rfl ?_
          refine Wl.buildSlice (ps := []) (cs := arrU .i64 0 (fun _ => 0) ++ []) st tS_39 tZ_2 rfl rfl rfl ?_
          clear st
          intro b49 w18 st
          refine Wl.pure (PR.assL rfl) ?_
          refine Wl.pure (PR.assI rfl) ?_
          refine Wl.nil ?_
          refine tn ?_
          refine Wc.ret ?_
          refine tr ?_
          refine postL.tmp2 rfl rfl rfl ?_
          replace st : St [] w w18 [(b49, arrU .i64 0 (fun _ => 0) ++ [], 2)] := st.pick [0] (by decide) rfl
          exact ⟨b49, 0, ([]), (Nat.le_refl _), rfl, (by first | exact congrArg Ending.returned (tup_2 rfl (congrArg (Value.int .i64) (bl_zb (by omega)))) | exact congrArg Ending.returned (tup_2 rfl (congrArg (Value.int .i64) (bl_z4 hcode0 (show pic (wrQ d_ e_ a b n c x) = 0 by omega)))) | (have hkd : d_ = k := (by omega); subst hkd; exact congrArg Ending.returned (tup_2 rfl (congrArg (Value.int .i64) (bl_z6 hcode0 (show ¬ pic (wrQ d_ e_ a b n c x) = 0 by omega) (hm.symm.trans (by omega))))))), st⟩
        · refine Wc.skip ?_
          refine tn ?_
          refine Wc.seq ?_
          exfalso
          obtain rfl : d_ = k := by omega
          exact hcode (blC_0 hcode0 (show ¬ pic (wrQ d_ e_ a b n c x) = 0 by omega) (fun h9 => absurd (hm.trans h9) (by omega)))

end Go.Proofs.YtabekcodjcbolaaGreat
