/-
  Contracts of functions, printed by a program of ours.
-/
import Derived.Test.YtdlmbdclbnlmlaaCE7
import Derived.Test.YtdlmbdclbnlmlaaFam3
namespace Go.Proofs.Ytdlmbdclbnlmlaa
open Go.RowKit
set_option linter.unusedVariables false
set_option linter.unusedSimpArgs false

set_option maxHeartbeats 400000 in
set_option maxRecDepth 4000 in
theorem c_impl_sign3 {n : Int} {w : World} :
    CE Try.prog 39 [.int .i64 (n)] w (RetV w (.int .i64 ((cmpZ n 0)))) := by
  refine CE.enter 6 [(0, .int .i64 (n))] en_39 Try.func39 rfl rfl (Nat.le_of_ble_eq_true rfl) rfl ?_
  have st := St.start w
  refine Wc.seq ?_
  refine Wc.region rfl ?_
  refine Wl.pure (PR.assI rfl) ?_
  refine Wl.nil ?_
  refine tn ?_
  refine Wc.seq ?_
  refine Wc.region rfl ?_
  refine Wl.pure (PR.moveI rfl) ?_
  refine Wl.pure (PR.max2 (a := (-1)) (b := n) rfl rfl) ?_
  refine Wl.pure (PR.min2 (a := 1) (b := (max (-1) n)) rfl rfl) ?_
  refine Wl.pure (PR.assI rfl) ?_
  refine Wl.nil ?_
  refine tn ?_
  refine Wc.ret ?_
  refine postL.tmp rfl rfl ?_
  refine RetV.of ?_ st.below
  refine congrArg (Value.int .i64) ?_
  unfold cmpZ
  split
  · omega
  · split <;> omega

set_option maxHeartbeats 400000 in
set_option maxRecDepth 4000 in
theorem c_impl_compareRatios {n : Int} {d : Int} {m : Int} {e : Int} {w : World} (hn : -32768 ≤ n ∧ n ≤ 32767) (hd : -32768 ≤ d ∧ d ≤ 32767) (hm : -32768 ≤ m ∧ m ≤ 32767) (he : -32768 ≤ e ∧ e ≤ 32767) :
    CE Try.prog 38 [.agg ([.int .i16 (n), .int .i16 (d)]).toArray, .agg ([.int .i16 (m), .int .i16 (e)]).toArray] w (RetV w (.int .i64 ((cmpZ (n * e) (m * d))))) := by
  refine CE.enter 21 [(0, .agg ([.int .i16 (n), .int .i16 (d)]).toArray), (1, .agg ([.int .i16 (m), .int .i16 (e)]).toArray)] en_38 Try.func38 rfl rfl (Nat.le_of_ble_eq_true rfl) rfl ?_
  have st := St.start w
  refine Wc.seq ?_
  refine Wc.region rfl ?_
  refine Wl.boxA st rfl ?_
  clear st
  intro b2 w1 st
  refine Wl.boxA st rfl ?_
  clear st
  intro b3 w2 st
  refine Wl.pure (PR.assI rfl) ?_
  refine Wl.nil ?_
  refine tn ?_
  refine Wc.seq ?_
  refine Wc.region rfl ?_
  refine Wl.pure (PR.fieldAddr tF_38_0 rfl) ?_
  refine Wl.load (i := 1) st tA_36 rfl rfl (rfl) ?_
  refine Wl.pure (PR.conv (n := n) tI_2 rfl (by simp only [fitI]; omega) Try.underlying36) ?_
  refine Wl.pure (PR.fieldAddr tF_38_1 rfl) ?_
  refine Wl.load (i := 0) st tA_36 rfl rfl (rfl) ?_
  refine Wl.pure (PR.conv (n := e) tI_2 rfl (by simp only [fitI]; omega) Try.underlying36) ?_
  refine Wl.pure (PR.mul (a := n) (b := e) rfl rfl (by have := mul_bd16 hn he; simp only [fitI]; omega)) ?_
  refine Wl.pure (PR.fieldAddr tF_38_0 rfl) ?_
  refine Wl.load (i := 0) st tA_36 rfl rfl (rfl) ?_
  refine Wl.pure (PR.conv (n := m) tI_2 rfl (by simp only [fitI]; omega) Try.underlying36) ?_
  refine Wl.pure (PR.fieldAddr tF_38_1 rfl) ?_
  refine Wl.load (i := 1) st tA_36 rfl rfl (rfl) ?_
  refine Wl.pure (PR.conv (n := d) tI_2 rfl (by simp only [fitI]; omega) Try.underlying36) ?_
  refine Wl.pure (PR.mul (a := m) (b := d) rfl rfl (by have := mul_bd16 hm hd; simp only [fitI]; omega)) ?_
  refine Wl.pure (PR.sub (a := (n * e)) (b := (m * d)) rfl rfl (by have := mul_bd16 hn he; have := mul_bd16 hm hd; simp only [fitI]; omega)) ?_
  refine Wl.callV (c_impl_sign3 (n := ((n * e) - (m * d)))) rfl ?_
  intro w3 hbel
  replace st := st.call hbel
  clear hbel
  refine Wl.pure (PR.assI rfl) ?_
  refine Wl.nil ?_
  refine tn ?_
  refine Wc.ret ?_
  refine postL.tmp rfl rfl ?_
  refine RetV.of ?_ st.below
  exact congrArg (Value.int .i64) (cmpZ_sub _ _)

set_option maxHeartbeats 400000 in
set_option maxRecDepth 4000 in
theorem c_spec_l06Compare {n : Int} {d : Int} {m : Int} {e : Int} {w : World} (hn : -32768 ≤ n ∧ n ≤ 32767) (hd : -32768 ≤ d ∧ d ≤ 32767) (hm : -32768 ≤ m ∧ m ≤ 32767) (he : -32768 ≤ e ∧ e ≤ 32767) :
    CE Try.prog 37 [.agg ([.int .i16 (n), .int .i16 (d)]).toArray, .agg ([.int .i16 (m), .int .i16 (e)]).toArray] w (RetV w (.int .i64 ((cmpZ (n * e) (m * d))))) := by
  refine CE.enter 29 [(0, .agg ([.int .i16 (n), .int .i16 (d)]).toArray), (1, .agg ([.int .i16 (m), .int .i16 (e)]).toArray)] en_37 Try.func37 rfl rfl (Nat.le_of_ble_eq_true rfl) rfl ?_
  have st := St.start w
  refine Wc.seq ?_
  refine Wc.region rfl ?_
  refine Wl.boxA st rfl ?_
  clear st
  intro b2 w1 st
  refine Wl.boxA st rfl ?_
  clear st
  intro b3 w2 st
  refine Wl.pure (PR.assI rfl) ?_
  refine Wl.nil ?_
  refine tn ?_
  refine Wc.seq ?_
  refine Wc.region rfl ?_
  refine Wl.pure (PR.fieldAddr tF_38_0 rfl) ?_
  refine Wl.load (i := 1) st tA_36 rfl rfl (rfl) ?_
  refine Wl.pure (PR.conv (n := n) tI_2 rfl (by simp only [fitI]; omega) Try.underlying36) ?_
  refine Wl.pure (PR.fieldAddr tF_38_1 rfl) ?_
  refine Wl.load (i := 0) st tA_36 rfl rfl (rfl) ?_
  refine Wl.pure (PR.conv (n := e) tI_2 rfl (by simp only [fitI]; omega) Try.underlying36) ?_
  refine Wl.pure (PR.mul (a := n) (b := e) rfl rfl (by have := mul_bd16 hn he; simp only [fitI]; omega)) ?_
  refine Wl.pure (PR.assI rfl) ?_
  refine Wl.nil ?_
  refine tn ?_
  refine Wc.seq ?_
  refine Wc.region rfl ?_
  refine Wl.pure (PR.fieldAddr tF_38_0 rfl) ?_
  refine Wl.load (i := 0) st tA_36 rfl rfl (rfl) ?_
  refine Wl.pure (PR.conv (n := m) tI_2 rfl (by simp only [fitI]; omega) Try.underlying36) ?_
  refine Wl.pure (PR.fieldAddr tF_38_1 rfl) ?_
  refine Wl.load (i := 1) st tA_36 rfl rfl (rfl) ?_
  refine Wl.pure (PR.conv (n := d) tI_2 rfl (by simp only [fitI]; omega) Try.underlying36) ?_
  refine Wl.pure (PR.mul (a := m) (b := d) rfl rfl (by have := mul_bd16 hm hd; simp only [fitI]; omega)) ?_
  refine Wl.pure (PR.assI rfl) ?_
  refine Wl.nil ?_
  refine tn ?_
  refine Wc.seq ?_
  refine Wc.block ?_
  refine Wc.seq ?_
  refine Wc.region rfl ?_
  refine Wl.pure (PR.moveI rfl) ?_
  refine Wl.pure (PR.moveI rfl) ?_
  refine Wl.pure (PR.lss (a := (n * e)) (b := (m * d)) rfl rfl) ?_
  refine Wl.pure (PR.assB rfl) ?_
  refine Wl.nil ?_
  refine tn ?_
  refine Wc.condD (p := (n * e) < (m * d)) rfl (fun h3 => ?_) (fun h3 => ?_)
  · refine Wc.seq ?_
    refine Wc.region rfl ?_
    refine Wl.pure (PR.assI rfl) ?_
    refine Wl.nil ?_
    refine tn ?_
    refine Wc.ret ?_
    refine br ?_
    refine tr ?_
    refine postL.tmp rfl rfl ?_
    refine RetV.of ?_ st.below
    refine congrArg (Value.int .i64) ?_
    first | exact cmpZ_lt (by assumption) | exact cmpZ_gt (by assumption) | exact cmpZ_eq (by assumption) (by assumption)
  · refine Wc.seq ?_
    refine Wc.region rfl ?_
    refine Wl.pure (PR.moveI rfl) ?_
    refine Wl.pure (PR.moveI rfl) ?_
    refine Wl.pure (PR.gtr (a := (n * e)) (b := (m * d)) rfl rfl) ?_
    refine Wl.pure (PR.assB rfl) ?_
    refine Wl.nil ?_
    refine tn ?_
    refine Wc.condD (p := (m * d) < (n * e)) rfl (fun h4 => ?_) (fun h4 => ?_)
    · refine Wc.seq ?_
      refine Wc.region rfl ?_
      refine Wl.pure (PR.assI rfl) ?_
      refine Wl.nil ?_
      refine tn ?_
      refine Wc.ret ?_
      refine br ?_
      refine tr ?_
      refine postL.tmp rfl rfl ?_
      refine RetV.of ?_ st.below
      refine congrArg (Value.int .i64) ?_
      first | exact cmpZ_lt (by assumption) | exact cmpZ_gt (by assumption) | exact cmpZ_eq (by assumption) (by assumption)
    · refine Wc.skip ?_
      refine bn ?_
      refine tn ?_
      refine Wc.seq ?_
      refine Wc.region rfl ?_
      refine Wl.pure (PR.assI rfl) ?_
      refine Wl.nil ?_
      refine tn ?_
      refine Wc.ret ?_
      refine postL.tmp rfl rfl ?_
      refine RetV.of ?_ st.below
      refine congrArg (Value.int .i64) ?_
      first | exact cmpZ_lt (by assumption) | exact cmpZ_gt (by assumption) | exact cmpZ_eq (by assumption) (by assumption)

set_option maxHeartbeats 400000 in
set_option maxRecDepth 4000 in
theorem c_impl_BetterScheme {s : Int} {p : Int} {a : Nat → Nat} {b : Nat → Nat} {t : Int} {q : Int} {c : Nat → Nat} {d : Nat → Nat} {m : Int} {f : Nat} {w : World} (hs : -128 ≤ s ∧ s ≤ 127) (hp : -128 ≤ p ∧ p ≤ 127) (ha : ∀ k, a k < 256) (hb : ∀ k, b k < 256) (ht : -128 ≤ t ∧ t ≤ 127) (hq : -128 ≤ q ∧ q ≤ 127) (hc : ∀ k, c k < 256) (hd : ∀ k, d k < 256) (hm : -128 ≤ m ∧ m ≤ 127) (hf : f < 18446744073709551616) :
    CE Try.prog 21 [.agg (schV (s) (p) (a) (b)).toArray, .agg (schV (t) (q) (c) (d)).toArray, .agg ([.int .i8 (m), .int .u64 (((f : Nat) : Int))]).toArray] w (RetV w (.tuple #[.int .i64 (btV (svC s p a b m f) (svC t q c d m f) (cmpZ ((lgF a b f (1 <<< (m).toNat)).tdiv ((Nat.gcd ((lgF a b f (1 <<< (m).toNat)).natAbs) ((p).toNat) : Nat) : Int) * (((((q).toNat) / (Nat.gcd ((lgF c d f (1 <<< (m).toNat)).natAbs) ((q).toNat))) : Nat) : Int)) ((lgF c d f (1 <<< (m).toNat)).tdiv ((Nat.gcd ((lgF c d f (1 <<< (m).toNat)).natAbs) ((q).toNat) : Nat) : Int) * (((((p).toNat) / (Nat.gcd ((lgF a b f (1 <<< (m).toNat)).natAbs) ((p).toNat))) : Nat) : Int))) p q), .int .i64 (((btC (svC s p a b m f) (svC t q c d m f) : Nat) : Int))])) := by
  refine CE.enter 55 [(0, .agg (schV (s) (p) (a) (b)).toArray), (1, .agg (schV (t) (q) (c) (d)).toArray), (2, .agg ([.int .i8 (m), .int .u64 (((f : Nat) : Int))]).toArray)] en_21 Try.func21 rfl rfl (Nat.le_of_ble_eq_true rfl) rfl ?_
  have st := St.start w
  refine Wc.seq ?_
  refine Wc.region rfl ?_
  refine Wl.boxA st rfl ?_
  clear st
  intro b3 w1 st
  refine Wl.boxA st rfl ?_
  clear st
  intro b4 w2 st
  refine Wl.boxA st rfl ?_
  clear st
  intro b5 w3 st
  refine Wl.pure (PR.assI rfl) ?_
  refine Wl.pure (PR.assI rfl) ?_
  refine Wl.nil ?_
  refine tn ?_
  refine Wc.seq ?_
  refine Wc.quiet hmix (by kernel_rfl) rfl ?_
  refine Wq.loadA (i := 2) st tA_31 rfl rfl (all_sub schV_len) schV_len ?_
  refine Wq.loadA (i := 0) st tA_33 rfl rfl rfl rfl ?_
  refine Wq.callV (fun _ hbel => c_impl_servesCode (s := s) (p := p) (a := a) (b := b) (m := m) (f := f) (by first | assumption | omega) (by first | assumption | omega) ha hb (by first | assumption | omega) hf) rfl ?_
  refine Wq.loadA (i := 1) st tA_31 rfl rfl (all_sub schV_len) schV_len ?_
  refine Wq.loadA (i := 0) st tA_33 rfl rfl rfl rfl ?_
  refine Wq.callV (fun _ hbel => c_impl_servesCode (s := t) (p := q) (a := c) (b := d) (m := m) (f := f) (by first | assumption | omega) (by first | assumption | omega) hc hd (by first | assumption | omega) hf) rfl ?_
  refine Wq.pure (PR.assI rfl) ?_
  refine Wq.pure (PR.assI rfl) ?_
  refine Wq.nil (fun w4 hbel => ?_)
  replace st := st.call hbel
  clear hbel
  refine tn ?_
  refine Wc.seq ?_
  refine Wc.seq ?_
  refine Wc.region rfl ?_
  refine Wl.pure (PR.moveI rfl) ?_
  refine Wl.pure (PR.eql (a := ((svC s p a b m f : Nat) : Int)) (b := 1) rfl rfl) ?_
  refine Wl.pure (PR.moveB rfl) ?_
  refine Wl.splitF (q := ((svC s p a b m f : Nat) : Int) = 1) rfl rfl (fun h5 => ?_) (fun h5 => ?_)
  · refine Wl.pure (PR.moveI rfl) ?_
    refine Wl.on rfl rfl ?_
    refine Wl.pure (PR.eql (a := ((svC t q c d m f : Nat) : Int)) (b := 1) rfl rfl) ?_
    refine Wl.pure (PR.pickFB rfl rfl) ?_
    refine Wl.nil ?_
    refine tn ?_
    refine Wc.condD (p := ((svC t q c d m f : Nat) : Int) = 1) rfl (fun h6 => ?_) (fun h6 => ?_)
    · refine Wc.seq ?_
      refine Wc.region rfl ?_
      refine Wl.pure (PR.assI rfl) ?_
      refine Wl.pure (PR.assI rfl) ?_
      refine Wl.nil ?_
      refine tn ?_
      refine Wc.ret ?_
      refine tr ?_
      refine postL.tmp2 rfl rfl rfl ?_
      refine RetV.of ?_ st.below
      exact bt_1 (by omega)
    · refine Wc.skip ?_
      refine tn ?_
      refine Wc.seq ?_
      refine Wc.seq ?_
      refine Wc.region rfl ?_
      refine Wl.pure (PR.moveI rfl) ?_
      refine Wl.pure (PR.neq (a := ((svC s p a b m f : Nat) : Int)) (b := 0) rfl rfl) ?_
      refine Wl.pure (PR.moveB rfl) ?_
      refine Wl.splitB (b := (!decide (((svC s p a b m f : Nat) : Int) = 0))) rfl rfl (fun h7 => ?_) (fun h7 => ?_)
      · simp only [Bool.not_eq_true', Bool.not_eq_false', Bool.not_true, Bool.not_false, decide_eq_true_eq, decide_eq_false_iff_not] at h7
        refine Wl.pure (PR.moveI rfl) ?_
        refine Wl.on rfl rfl ?_
        refine Wl.pure (PR.neq (a := ((svC t q c d m f : Nat) : Int)) (b := 0) rfl rfl) ?_
        refine Wl.pure (PR.pickFB rfl rfl) ?_
        refine Wl.nil ?_
        refine tn ?_
        refine Wc.condN (p := ((svC t q c d m f : Nat) : Int) = 0) rfl (fun h8 => ?_) (fun h8 => ?_)
        · refine Wc.seq ?_
          refine Wc.region rfl ?_
          refine Wl.pure (PR.assI rfl) ?_
          refine Wl.pure (PR.assI rfl) ?_
          refine Wl.nil ?_
          refine tn ?_
          refine Wc.ret ?_
          refine tr ?_
          refine postL.tmp2 rfl rfl rfl ?_
          refine RetV.of ?_ st.below
          exact bt_4 (by omega) (by omega) (by omega) rfl
        · refine Wc.skip ?_
          refine tn ?_
          refine Wc.seq ?_
          refine Wc.seq ?_
          have hz1 : svC s p a b m f = 0 := by omega
          have hz2 : svC t q c d m f = 0 := by omega
          obtain ⟨hok1, hok2, hsm, hfz⟩ := svC_spec hz1
          obtain ⟨hok3, _, htm, hfz2⟩ := svC_spec hz2
          obtain ⟨hs1, hp1, _⟩ := schOk_spec hok1
          obtain ⟨ht1, hq1, _⟩ := schOk_spec hok3
          have hm6 := fam_spec hok2
          have hpos := fam_pos hok2
          obtain ⟨n, rfl⟩ : ∃ n : Nat, s = ((n : Nat) : Int) := ⟨s.toNat, by omega⟩
          obtain ⟨e_, rfl⟩ : ∃ e_ : Nat, p = ((e_ : Nat) : Int) := ⟨p.toNat, by omega⟩
          obtain ⟨n2, rfl⟩ : ∃ n2 : Nat, t = ((n2 : Nat) : Int) := ⟨t.toNat, by omega⟩
          obtain ⟨e2_, rfl⟩ : ∃ e2_ : Nat, q = ((e2_ : Nat) : Int) := ⟨q.toNat, by omega⟩
          have hlb := lg_bd (f := f) ha hb (1 <<< m.toNat)
          have hlc := lg_bd (f := f) hc hd (1 <<< m.toNat)
          have hr1 := lrat_bd ha hb f (1 <<< m.toNat) e_ (by omega)
          have hr2 := lrat_bd hc hd f (1 <<< m.toNat) e2_ (by omega)
          refine Wc.quiet hmix (by kernel_rfl) rfl ?_
          refine Wq.loadA (i := 2) st tA_31 rfl rfl (all_sub schV_len) schV_len ?_
          refine Wq.loadA (i := 0) st tA_33 rfl rfl rfl rfl ?_
          refine Wq.callV (fun _ hbel => c_impl_leastGap (s := n) (p := e_) (a := a) (b := b) (m := m) (f := f) (by first | assumption | omega) ha hb (by first | assumption | omega) hf (by first | assumption | omega) (by first | assumption | omega)) rfl ?_
          refine Wq.pure (PR.fieldAddr tF_31_1 rfl) ?_
          refine Wq.load (i := 2) st tA_22 rfl rfl (rfl) ?_
          refine Wq.pure (PR.conv (n := ((e_ : Nat) : Int)) tI_2 rfl (by simp only [fitI]; omega) Try.underlying22) ?_
          refine Wq.callV (fun _ hbel => c_impl_ratioOf (n := lgF a b f (1 <<< (m).toNat)) (d := e_) (by first | assumption | omega) (by first | assumption | omega)) rfl ?_
          refine Wq.loadA (i := 1) st tA_31 rfl rfl (all_sub schV_len) schV_len ?_
          refine Wq.loadA (i := 0) st tA_33 rfl rfl rfl rfl ?_
          refine Wq.callV (fun _ hbel => c_impl_leastGap (s := n2) (p := e2_) (a := c) (b := d) (m := m) (f := f) (by first | assumption | omega) hc hd (by first | assumption | omega) hf (by first | assumption | omega) hpos) rfl ?_
          refine Wq.pure (PR.fieldAddr tF_31_1 rfl) ?_
          refine Wq.load (i := 1) st tA_22 rfl rfl (rfl) ?_
          refine Wq.pure (PR.conv (n := ((e2_ : Nat) : Int)) tI_2 rfl (by simp only [fitI]; omega) Try.underlying22) ?_
          refine Wq.callV (fun _ hbel => c_impl_ratioOf (n := lgF c d f (1 <<< (m).toNat)) (d := e2_) (by first | assumption | omega) (by first | assumption | omega)) rfl ?_
          refine Wq.callV (fun _ hbel => c_impl_compareRatios (n := (lgF a b f (1 <<< (m).toNat)).tdiv ((Nat.gcd ((lgF a b f (1 <<< (m).toNat)).natAbs) e_ : Nat) : Int)) (d := (((e_ / (Nat.gcd ((lgF a b f (1 <<< (m).toNat)).natAbs) e_)) : Nat) : Int)) (m := (lgF c d f (1 <<< (m).toNat)).tdiv ((Nat.gcd ((lgF c d f (1 <<< (m).toNat)).natAbs) e2_ : Nat) : Int)) (e := (((e2_ / (Nat.gcd ((lgF c d f (1 <<< (m).toNat)).natAbs) e2_)) : Nat) : Int)) hr1.1 (nat_i16 hr1.2) hr2.1 (nat_i16 hr2.2)) rfl ?_
          refine Wq.pure (PR.assI rfl) ?_
          refine Wq.nil (fun w9 hbel => ?_)
          replace st := st.call hbel
          clear hbel
          refine tn ?_
          refine Wc.seq ?_
          refine Wc.region rfl ?_
          refine Wl.pure (PR.moveI rfl) ?_
          refine Wl.pure (PR.neq (a := (cmpZ (((lgF a b f (1 <<< (m).toNat)).tdiv ((Nat.gcd ((lgF a b f (1 <<< (m).toNat)).natAbs) e_ : Nat) : Int)) * (((e2_ / (Nat.gcd ((lgF c d f (1 <<< (m).toNat)).natAbs) e2_)) : Nat) : Int)) (((lgF c d f (1 <<< (m).toNat)).tdiv ((Nat.gcd ((lgF c d f (1 <<< (m).toNat)).natAbs) e2_ : Nat) : Int)) * (((e_ / (Nat.gcd ((lgF a b f (1 <<< (m).toNat)).natAbs) e_)) : Nat) : Int)))) (b := 0) rfl rfl) ?_
          refine Wl.nil ?_
          refine tn ?_
          refine Wc.condN (p := (cmpZ (((lgF a b f (1 <<< (m).toNat)).tdiv ((Nat.gcd ((lgF a b f (1 <<< (m).toNat)).natAbs) e_ : Nat) : Int)) * (((e2_ / (Nat.gcd ((lgF c d f (1 <<< (m).toNat)).natAbs) e2_)) : Nat) : Int)) (((lgF c d f (1 <<< (m).toNat)).tdiv ((Nat.gcd ((lgF c d f (1 <<< (m).toNat)).natAbs) e2_ : Nat) : Int)) * (((e_ / (Nat.gcd ((lgF a b f (1 <<< (m).toNat)).natAbs) e_)) : Nat) : Int))) = 0) rfl (fun h10 => ?_) (fun h10 => ?_)
          · refine Wc.seq ?_
            refine Wc.region rfl ?_
            refine Wl.pure (PR.moveI rfl) ?_
            refine Wl.pure (PR.assI rfl) ?_
            refine Wl.pure (PR.assI rfl) ?_
            refine Wl.nil ?_
            refine tn ?_
            refine Wc.ret ?_
            refine tr ?_
            refine postL.tmp2 rfl rfl rfl ?_
            refine RetV.of ?_ st.below
            first | exact bt_0 hz1 hz2 ((cmpZ_sub _ _).trans (if_pos (by assumption)).symm) | exact bt_0 hz1 hz2 (if_neg (by assumption)).symm
          · refine Wc.skip ?_
            refine tn ?_
            refine Wc.seq ?_
            refine Wc.region rfl ?_
            refine Wl.pure (PR.fieldAddr tF_31_1 rfl) ?_
            refine Wl.load (i := 1) st tA_22 rfl rfl (rfl) ?_
            refine Wl.pure (PR.conv (n := ((e2_ : Nat) : Int)) tI_2 rfl (by simp only [fitI]; omega) Try.underlying22) ?_
            refine Wl.pure (PR.fieldAddr tF_31_1 rfl) ?_
            refine Wl.load (i := 2) st tA_22 rfl rfl (rfl) ?_
            refine Wl.pure (PR.conv (n := ((e_ : Nat) : Int)) tI_2 rfl (by simp only [fitI]; omega) Try.underlying22) ?_
            refine Wl.pure (PR.sub (a := ((e2_ : Nat) : Int)) (b := ((e_ : Nat) : Int)) rfl rfl (by simp only [fitI]; omega)) ?_
            refine Wl.callV (c_impl_sign3 (n := (((e2_ : Nat) : Int) - ((e_ : Nat) : Int)))) rfl ?_
            intro w11 hbel
            replace st := st.call hbel
            clear hbel
            refine Wl.pure (PR.assI rfl) ?_
            refine Wl.pure (PR.assI rfl) ?_
            refine Wl.nil ?_
            refine tn ?_
            refine Wc.ret ?_
            refine postL.tmp2 rfl rfl rfl ?_
            refine RetV.of ?_ st.below
            first | exact bt_0 hz1 hz2 ((cmpZ_sub _ _).trans (if_pos (by assumption)).symm) | exact bt_0 hz1 hz2 (if_neg (by assumption)).symm
      · simp only [Bool.not_eq_true', Bool.not_eq_false', Bool.not_true, Bool.not_false, decide_eq_true_eq, decide_eq_false_iff_not] at h7
        refine Wl.off rfl rfl rfl ?_
        refine Wl.pure (PR.pickTB rfl rfl) ?_
        refine Wl.nil ?_
        refine tn ?_
        refine Wc.condT rfl ?_
        refine Wc.seq ?_
        refine Wc.region rfl ?_
        refine Wl.pure (PR.assI rfl) ?_
        refine Wl.pure (PR.assI rfl) ?_
        refine Wl.nil ?_
        refine tn ?_
        refine Wc.ret ?_
        refine tr ?_
        refine postL.tmp2 rfl rfl rfl ?_
        refine RetV.of ?_ st.below
        exact bt_4 (by omega) (by omega) (by omega) rfl
  · refine Wl.off rfl rfl rfl ?_
    refine Wl.pure (PR.pickTB rfl rfl) ?_
    refine Wl.nil ?_
    refine tn ?_
    refine Wc.condT rfl ?_
    refine Wc.seq ?_
    refine Wc.region rfl ?_
    refine Wl.pure (PR.assI rfl) ?_
    refine Wl.pure (PR.assI rfl) ?_
    refine Wl.nil ?_
    refine tn ?_
    refine Wc.ret ?_
    refine tr ?_
    refine postL.tmp2 rfl rfl rfl ?_
    refine RetV.of ?_ st.below
    exact bt_1 (by omega)

end Go.Proofs.Ytdlmbdclbnlmlaa
