/-
  Contracts of functions, printed by a program of ours.
-/
import Derived.Test.YtjkicobdokcjfaaCS7
import Derived.Test.YtjkicobdokcjfaaRep
namespace Go.Proofs.Ytjkicobdokcjfaa
open Go.RowKit
set_option linter.unusedVariables false
set_option linter.unusedSimpArgs false

set_option maxHeartbeats 400000 in
set_option maxRecDepth 4000 in
theorem c_spec_RepeatScheme {s : Int} {p : Int} {a : Nat → Nat} {b : Nat → Nat} {c : Int} {w : World} (hs : -128 ≤ s ∧ s ≤ 127) (hp : -128 ≤ p ∧ p ≤ 127) (ha : ∀ k, a k < 256) (hb : ∀ k, b k < 256) :
    CE Try.prog 20 [.agg (schV (s) (p) (a) (b)).toArray, .int .i64 (c)] w (RetV w (.tuple #[.agg (schV (selI (rpC s p a b c) s) (selI (rpC s p a b c) (p * c)) ((selF (rpC s p a b c) (rpF a (p).toNat ((c).toNat - 1)))) ((selF (rpC s p a b c) (rpF b (p).toNat ((c).toNat - 1))))).toArray, .int .i64 ((((rpC s p a b c) : Nat) : Int))])) := by
  refine CE.enter 35 [(0, .agg (schV (s) (p) (a) (b)).toArray), (1, .int .i64 (c))] en_20 Try.func20 rfl rfl (Nat.le_of_ble_eq_true rfl) rfl ?_
  have st := St.start w
  refine Wc.seq ?_
  refine Wc.region rfl ?_
  refine Wl.boxA st rfl ?_
  clear st
  intro b2 w1 st
  refine Wl.alloc st tZ_34 rfl ?_
  clear st
  intro b4 w2 st
  refine Wl.pure (PR.assI rfl) ?_
  refine Wl.nil ?_
  refine tn ?_
  refine Wc.seq ?_
  refine Wc.seq ?_
  refine Wc.region rfl ?_
  refine Wl.callV (c_spec_l02Ok (bk := b2) (o := 0) (s := s) (p := p) (a := a) (b := b) (st.rdA (i := 1) rfl (all_sub schV_len)) (by first | assumption | omega) (by first | assumption | omega) ha hb) rfl ?_
  intro w3 hbel
  replace st := st.call hbel
  clear hbel
  refine Wl.pure (PR.not_ rfl) ?_
  refine Wl.nil ?_
  refine tn ?_
  refine Wc.condNB (b := schOk s p a b) rfl (fun h4 => ?_) (fun h4 => ?_)
  · refine Wc.seq ?_
    refine Wc.region rfl ?_
    refine Wl.pure (PR.build (ps := []) (cs := schV (0) (0) ((fun _ => 0)) ((fun _ => 0))) tB_34 rfl rfl) ?_
    refine Wl.storeA (i := 0) (cs' := schV (0) (0) ((fun _ => 0)) ((fun _ => 0))) st tA_34 rfl rfl schV_len schV_one rfl (le_of_len schV_len (by omega)) (all_put schV_len) ?_
    clear st
    intro w5 st
    replace st : St [] w w5 [(b4, schV (0) (0) ((fun _ => 0)) ((fun _ => 0)), 34), (b2, schV (s) (p) (a) (b), 34)] := st
    refine Wl.pure (PR.assI rfl) ?_
    refine Wl.nil ?_
    refine tn ?_
    refine Wc.ret ?_
    refine tr ?_
    refine postL.many (rvs := [.cell 4 34, .tmp 5]) rfl (.cell (us := schV (0) (0) ((fun _ => 0)) ((fun _ => 0))) tA_34 rfl schV_len (st.rdA (i := 0) (n := 14) rfl (all_sub schV_len)) (.tmp (v := .int .i64 (1)) rfl .nil)) ?_
    refine RetV.of ?_ st.below
    exact rp_f (by rw [rpC_1 (by assumption)]; decide) (by rw [rpC_1 (by assumption)]; rfl)
  · refine Wc.skip ?_
    refine tn ?_
    refine Wc.seq ?_
    refine Wc.seq ?_
    refine Wc.region rfl ?_
    refine Wl.pure (PR.moveI rfl) ?_
    refine Wl.callV (c_spec_l00In (n := c) (lo := 1) (hi := 8)) rfl ?_
    intro w6 hbel
    replace st := st.call hbel
    clear hbel
    refine Wl.pure (PR.not_ rfl) ?_
    refine Wl.nil ?_
    refine tn ?_
    refine Wc.condN (p := 1 ≤ c ∧ c ≤ 8) rfl (fun h7 => ?_) (fun h7 => ?_)
    · refine Wc.seq ?_
      refine Wc.region rfl ?_
      refine Wl.pure (PR.build (ps := []) (cs := schV (0) (0) ((fun _ => 0)) ((fun _ => 0))) tB_34 rfl rfl) ?_
      refine Wl.storeA (i := 0) (cs' := schV (0) (0) ((fun _ => 0)) ((fun _ => 0))) st tA_34 rfl rfl schV_len schV_one rfl (le_of_len schV_len (by omega)) (all_put schV_len) ?_
      clear st
      intro w8 st
      replace st : St [] w w8 [(b4, schV (0) (0) ((fun _ => 0)) ((fun _ => 0)), 34), (b2, schV (s) (p) (a) (b), 34)] := st
      refine Wl.pure (PR.assI rfl) ?_
      refine Wl.nil ?_
      refine tn ?_
      refine Wc.ret ?_
      refine tr ?_
      refine postL.many (rvs := [.cell 4 34, .tmp 5]) rfl (.cell (us := schV (0) (0) ((fun _ => 0)) ((fun _ => 0))) tA_34 rfl schV_len (st.rdA (i := 0) (n := 14) rfl (all_sub schV_len)) (.tmp (v := .int .i64 (2)) rfl .nil)) ?_
      refine RetV.of ?_ st.below
      exact rp_f (by rw [rpC_2 (by assumption) (by assumption)]; decide) (by rw [rpC_2 (by assumption) (by assumption)]; rfl)
    · refine Wc.skip ?_
      refine tn ?_
      refine Wc.seq ?_
      refine Wc.seq ?_
      obtain ⟨_, hp1, _⟩ := schOk_spec (s := s) (p := p) (a := a) (b := b) (by assumption)
      have h88 := mul_88 hp1 (show 1 ≤ c ∧ c ≤ 8 by assumption)
      refine Wc.region rfl ?_
      refine Wl.pure (PR.fieldAddr tF_34_1 rfl) ?_
      refine Wl.load (i := 1) st tA_30 rfl rfl (rfl) ?_
      refine Wl.pure (PR.conv (n := p) tI_2 rfl (by simp only [fitI]; omega) Try.underlying30) ?_
      refine Wl.pure (PR.moveI rfl) ?_
      refine Wl.pure (PR.mul (a := p) (b := c) rfl rfl (by simp only [fitI]; omega)) ?_
      refine Wl.pure (PR.gtr (a := (p * c)) (b := 8) rfl rfl) ?_
      refine Wl.nil ?_
      refine tn ?_
      refine Wc.condD (p := 8 < (p * c)) rfl (fun h9 => ?_) (fun h9 => ?_)
      · refine Wc.seq ?_
        refine Wc.region rfl ?_
        refine Wl.pure (PR.build (ps := []) (cs := schV (0) (0) ((fun _ => 0)) ((fun _ => 0))) tB_34 rfl rfl) ?_
        refine Wl.storeA (i := 0) (cs' := schV (0) (0) ((fun _ => 0)) ((fun _ => 0))) st tA_34 rfl rfl schV_len schV_one rfl (le_of_len schV_len (by omega)) (all_put schV_len) ?_
        clear st
        intro w10 st
        replace st : St [] w w10 [(b4, schV (0) (0) ((fun _ => 0)) ((fun _ => 0)), 34), (b2, schV (s) (p) (a) (b), 34)] := st
        refine Wl.pure (PR.assI rfl) ?_
        refine Wl.nil ?_
        refine tn ?_
        refine Wc.ret ?_
        refine tr ?_
        refine postL.many (rvs := [.cell 4 34, .tmp 5]) rfl (.cell (us := schV (0) (0) ((fun _ => 0)) ((fun _ => 0))) tA_34 rfl schV_len (st.rdA (i := 0) (n := 14) rfl (all_sub schV_len)) (.tmp (v := .int .i64 (3)) rfl .nil)) ?_
        refine RetV.of ?_ st.below
        exact rp_f (by rw [rpC_3 (by assumption) (by assumption) (by omega)]; decide) (by rw [rpC_3 (by assumption) (by assumption) (by omega)]; rfl)
      · refine Wc.skip ?_
        refine tn ?_
        refine Wc.seq ?_
        obtain ⟨m, rfl⟩ : ∃ m : Nat, p = ((m : Nat) : Int) := ⟨p.toNat, by omega⟩
        obtain ⟨e, rfl⟩ : ∃ e : Nat, c = ((e : Nat) : Int) := ⟨c.toNat, by omega⟩
        have hem := rp_em (m := m) (e := e) (by assumption)
        refine Wc.region rfl ?_
        refine Wl.loadA (i := 1) st tA_34 rfl rfl (all_sub schV_len) schV_len ?_
        refine Wl.alloc st tZ_34 rfl ?_
        clear st
        intro b6 w11 st
        refine Wl.storeA (i := 0) (cs' := schV (s) ((m : Nat) : Int) (a) (b)) st tA_34 rfl rfl schV_len schV_one rfl (le_of_len schV_len (by omega)) (all_put schV_len) ?_
        clear st
        intro w12 st
        replace st : St [] w w12 [(b6, schV (s) ((m : Nat) : Int) (a) (b), 34), (b4, schV (0) (0) ((fun _ => 0)) ((fun _ => 0)), 34), (b2, schV (s) ((m : Nat) : Int) (a) (b), 34)] := st
        refine Wl.nil ?_
        refine tn ?_
        refine Wc.seq ?_
        refine Wc.seq ?_
        refine Wc.region rfl ?_
        refine Wl.pure (PR.assI rfl) ?_
        refine Wl.nil ?_
        refine tn ?_
        refine Wc.block ?_
        replace st : St [] w w12 [(b6, schV s (((0 + 1) * m : Nat) : Int) (rpF a m 0) (rpF b m 0), 34), (b4, schV (0) (0) ((fun _ => 0)) ((fun _ => 0)), 34), (b2, schV (s) ((m : Nat) : Int) (a) (b), 34)] := (by have q9 := rp_start s m a b; rw [← q9]; exact st)
        refine Wc.loopF (γ := Nat) (fun g => [(1, .int .i64 (((e : Nat) : Int))), (2, .pointer (some ⟨b2, 0, none⟩)), (4, .pointer (some ⟨b4, 0, none⟩)), (5, .int .i64 (0)), (6, .pointer (some ⟨b6, 0, none⟩)), (7, .int .i64 ((((g + 1) : Nat) : Int)))]) (fun g w_ => St [] w w_ [(b6, schV (s) ((((g + 1) * m) : Nat) : Int) ((rpF a m g)) ((rpF b m g)), 34), (b4, schV (0) (0) ((fun _ => 0)) ((fun _ => 0)), 34), (b2, schV (s) ((m : Nat) : Int) (a) (b), 34)] ∧ (g + 1 ≤ e)) (fun g => e - g) ?_ ?_
        · exact ⟨0, (.cons rfl (.cons rfl (.cons rfl (.cons rfl (.cons rfl (.cons rfl (.nil _))))))), st, (by omega)⟩
        clear st
        rintro j w13 ⟨st, hk⟩
        try dsimp only at st hk ⊢
        refine Wc.seq ?_
        refine Wc.seq ?_
        refine Wc.region rfl ?_
        refine Wl.pure (PR.moveI rfl) ?_
        refine Wl.pure (PR.moveI rfl) ?_
        refine Wl.pure (PR.lss (a := (((j + 1) : Nat) : Int)) (b := ((e : Nat) : Int)) rfl rfl) ?_
        refine Wl.nil ?_
        refine tn ?_
        refine Wc.condD (p := (((j + 1) : Nat) : Int) < ((e : Nat) : Int)) rfl (fun h14 => ?_) (fun h14 => ?_)
        · refine Wc.skip ?_
          refine tn ?_
          refine Wc.seq ?_
          refine Wc.block ?_
          have hjm : (j + 1) * m ≤ 8 := Nat.le_trans (Nat.mul_le_mul_right m (by omega)) hem
          have hjm2 : (j + 1 + 1) * m ≤ 8 := Nat.le_trans (Nat.mul_le_mul_right m (by omega)) hem
          have hsm : (j + 1 + 1) * m = (j + 1) * m + m := Nat.succ_mul (j + 1) m
          have hC := jnC_0 (rp_ok (j := j) (by assumption) hjm) (show schOk s (m : Int) a b = true by assumption) rfl (by omega)
          refine Wc.region rfl ?_
          refine Wl.loadA (i := 0) st tA_34 rfl rfl (all_sub schV_len) schV_len ?_
          refine Wl.loadA (i := 2) st tA_34 rfl rfl (all_sub schV_len) schV_len ?_
          refine Wl.callV (c_spec_JoinSchemes (s := s) (p := ((((j + 1) * m) : Nat) : Int)) (a := (rpF a m j)) (b := (rpF b m j)) (t := s) (q := ((m : Nat) : Int)) (c := a) (d := b) (by first | assumption | omega) (by first | assumption | omega) (rpF_lt ha m j) (rpF_lt hb m j) (by first | assumption | omega) (by first | assumption | omega) ha hb) rfl ?_
          intro w15 hbel
          replace st := st.call hbel
          clear hbel
          refine Wl.pure (PR.moveV (.tuple #[.agg (schV (selI (jnC s ((((j + 1) * m) : Nat) : Int) (rpF a m j) (rpF b m j) s ((m : Nat) : Int) a b) s) (selI (jnC s ((((j + 1) * m) : Nat) : Int) (rpF a m j) (rpF b m j) s ((m : Nat) : Int) a b) (((((j + 1) * m) : Nat) : Int) + ((m : Nat) : Int))) ((selF (jnC s ((((j + 1) * m) : Nat) : Int) (rpF a m j) (rpF b m j) s ((m : Nat) : Int) a b) (jnF (rpF a m j) a (((((j + 1) * m) : Nat) : Int)).toNat))) ((selF (jnC s ((((j + 1) * m) : Nat) : Int) (rpF a m j) (rpF b m j) s ((m : Nat) : Int) a b) (jnF (rpF b m j) b (((((j + 1) * m) : Nat) : Int)).toNat)))).toArray, .int .i64 ((((jnC s ((((j + 1) * m) : Nat) : Int) (rpF a m j) (rpF b m j) s ((m : Nat) : Int) a b) : Nat) : Int))]) rfl) ?_
          refine Wl.pure (PR.extr (i := 0) (vs := [.agg (schV (selI (jnC s ((((j + 1) * m) : Nat) : Int) (rpF a m j) (rpF b m j) s ((m : Nat) : Int) a b) s) (selI (jnC s ((((j + 1) * m) : Nat) : Int) (rpF a m j) (rpF b m j) s ((m : Nat) : Int) a b) (((((j + 1) * m) : Nat) : Int) + ((m : Nat) : Int))) ((selF (jnC s ((((j + 1) * m) : Nat) : Int) (rpF a m j) (rpF b m j) s ((m : Nat) : Int) a b) (jnF (rpF a m j) a (((((j + 1) * m) : Nat) : Int)).toNat))) ((selF (jnC s ((((j + 1) * m) : Nat) : Int) (rpF a m j) (rpF b m j) s ((m : Nat) : Int) a b) (jnF (rpF b m j) b (((((j + 1) * m) : Nat) : Int)).toNat)))).toArray, .int .i64 ((((jnC s ((((j + 1) * m) : Nat) : Int) (rpF a m j) (rpF b m j) s ((m : Nat) : Int) a b) : Nat) : Int))]) rfl rfl) ?_
          refine Wl.pure (PR.extr (i := 1) (vs := [.agg (schV (selI (jnC s ((((j + 1) * m) : Nat) : Int) (rpF a m j) (rpF b m j) s ((m : Nat) : Int) a b) s) (selI (jnC s ((((j + 1) * m) : Nat) : Int) (rpF a m j) (rpF b m j) s ((m : Nat) : Int) a b) (((((j + 1) * m) : Nat) : Int) + ((m : Nat) : Int))) ((selF (jnC s ((((j + 1) * m) : Nat) : Int) (rpF a m j) (rpF b m j) s ((m : Nat) : Int) a b) (jnF (rpF a m j) a (((((j + 1) * m) : Nat) : Int)).toNat))) ((selF (jnC s ((((j + 1) * m) : Nat) : Int) (rpF a m j) (rpF b m j) s ((m : Nat) : Int) a b) (jnF (rpF b m j) b (((((j + 1) * m) : Nat) : Int)).toNat)))).toArray, .int .i64 ((((jnC s ((((j + 1) * m) : Nat) : Int) (rpF a m j) (rpF b m j) s ((m : Nat) : Int) a b) : Nat) : Int))]) rfl rfl) ?_
          refine Wl.storeA (i := 0) (cs' := schV (selI (jnC s ((((j + 1) * m) : Nat) : Int) (rpF a m j) (rpF b m j) s ((m : Nat) : Int) a b) s) (selI (jnC s ((((j + 1) * m) : Nat) : Int) (rpF a m j) (rpF b m j) s ((m : Nat) : Int) a b) (((((j + 1) * m) : Nat) : Int) + ((m : Nat) : Int))) ((selF (jnC s ((((j + 1) * m) : Nat) : Int) (rpF a m j) (rpF b m j) s ((m : Nat) : Int) a b) (jnF (rpF a m j) a (((((j + 1) * m) : Nat) : Int)).toNat))) ((selF (jnC s ((((j + 1) * m) : Nat) : Int) (rpF a m j) (rpF b m j) s ((m : Nat) : Int) a b) (jnF (rpF b m j) b (((((j + 1) * m) : Nat) : Int)).toNat)))) st tA_34 rfl rfl schV_len schV_one rfl (le_of_len schV_len (by omega)) (all_put schV_len) ?_
          clear st
          intro w16 st
          replace st : St [] w w16 [(b6, schV (selI (jnC s ((((j + 1) * m) : Nat) : Int) (rpF a m j) (rpF b m j) s ((m : Nat) : Int) a b) s) (selI (jnC s ((((j + 1) * m) : Nat) : Int) (rpF a m j) (rpF b m j) s ((m : Nat) : Int) a b) (((((j + 1) * m) : Nat) : Int) + ((m : Nat) : Int))) ((selF (jnC s ((((j + 1) * m) : Nat) : Int) (rpF a m j) (rpF b m j) s ((m : Nat) : Int) a b) (jnF (rpF a m j) a (((((j + 1) * m) : Nat) : Int)).toNat))) ((selF (jnC s ((((j + 1) * m) : Nat) : Int) (rpF a m j) (rpF b m j) s ((m : Nat) : Int) a b) (jnF (rpF b m j) b (((((j + 1) * m) : Nat) : Int)).toNat))), 34), (b4, schV (0) (0) ((fun _ => 0)) ((fun _ => 0)), 34), (b2, schV (s) ((m : Nat) : Int) (a) (b), 34)] := st
          refine Wl.nil ?_
          refine bn ?_
          refine tn ?_
          refine Wc.region rfl ?_
          refine Wl.pure (PR.moveI rfl) ?_
          refine Wl.pure (PR.add (a := (((j + 1) : Nat) : Int)) (b := 1) rfl rfl (by simp only [fitI]; omega)) ?_
          refine Wl.pure (PR.assI rfl) ?_
          refine Wl.nil ?_
          refine tn ?_
          rw [hC, rp_step, selI0, selI0, selF0, selF0] at st
          exact ⟨j + 1, (.cons rfl (.cons rfl (.cons rfl (.cons rfl (.cons rfl (.cons rfl (.nil _))))))), ⟨st, (by first | omega | (dsimp only; omega))⟩, (by first | omega | (dsimp only; omega))⟩
        · refine Wc.exit ?_
          refine tx ?_
          refine tx ?_
          refine bh ?_
          refine tn ?_
          refine Wc.seq ?_
          refine Wc.region rfl ?_
          refine Wl.loadA (i := 0) st tA_34 rfl rfl (all_sub schV_len) schV_len ?_
          refine Wl.storeA (i := 1) (cs' := schV (s) ((((j + 1) * m) : Nat) : Int) ((rpF a m j)) ((rpF b m j))) st tA_34 rfl rfl schV_len schV_one rfl (le_of_len schV_len (by omega)) (all_put schV_len) ?_
          clear st
          intro w17 st
          replace st : St [] w w17 [(b6, schV (s) ((((j + 1) * m) : Nat) : Int) ((rpF a m j)) ((rpF b m j)), 34), (b4, schV (s) ((((j + 1) * m) : Nat) : Int) ((rpF a m j)) ((rpF b m j)), 34), (b2, schV (s) ((m : Nat) : Int) (a) (b), 34)] := st
          refine Wl.pure (PR.assI rfl) ?_
          refine Wl.nil ?_
          refine tn ?_
          refine Wc.ret ?_
          refine postL.many (rvs := [.cell 4 34, .tmp 5]) rfl (.cell (us := schV (s) ((((j + 1) * m) : Nat) : Int) ((rpF a m j)) ((rpF b m j))) tA_34 rfl schV_len (st.rdA (i := 1) (n := 14) rfl (all_sub schV_len)) (.tmp (v := .int .i64 (0)) rfl .nil)) ?_
          refine RetV.of ?_ st.below
          obtain rfl : j + 1 = e := by omega
          exact rp_end (q := 0) (by assumption) (by omega) (fun _ => ⟨rfl, hem⟩) (fun h => absurd rfl h)

set_option maxHeartbeats 400000 in
set_option maxRecDepth 4000 in
theorem c_impl_RepeatScheme {s : Int} {p : Int} {a : Nat → Nat} {b : Nat → Nat} {c : Int} {w : World} (hs : -128 ≤ s ∧ s ≤ 127) (hp : -128 ≤ p ∧ p ≤ 127) (ha : ∀ k, a k < 256) (hb : ∀ k, b k < 256) :
    CE Try.prog 21 [.agg (schV (s) (p) (a) (b)).toArray, .int .i64 (c)] w (RetV w (.tuple #[.agg (schV (selI (rpC s p a b c) s) (selI (rpC s p a b c) (p * c)) ((selF (rpC s p a b c) (rpF a (p).toNat ((c).toNat - 1)))) ((selF (rpC s p a b c) (rpF b (p).toNat ((c).toNat - 1))))).toArray, .int .i64 ((((rpC s p a b c) : Nat) : Int))])) := by
  refine CE.enter 42 [(0, .agg (schV (s) (p) (a) (b)).toArray), (1, .int .i64 (c))] en_21 Try.func21 rfl rfl (Nat.le_of_ble_eq_true rfl) rfl ?_
  have st := St.start w
  refine Wc.seq ?_
  refine Wc.region rfl ?_
  refine Wl.boxA st rfl ?_
  clear st
  intro b2 w1 st
  refine Wl.alloc st tZ_34 rfl ?_
  clear st
  intro b4 w2 st
  refine Wl.pure (PR.assI rfl) ?_
  refine Wl.nil ?_
  refine tn ?_
  refine Wc.seq ?_
  refine Wc.seq ?_
  refine Wc.region rfl ?_
  refine Wl.loadA (i := 1) st tA_34 rfl rfl (all_sub schV_len) schV_len ?_
  refine Wl.callV (c_impl_ValidScheme (s := s) (p := p) (a := a) (b := b) (by first | assumption | omega) (by first | assumption | omega) ha hb) rfl ?_
  intro w3 hbel
  replace st := st.call hbel
  clear hbel
  refine Wl.pure (PR.not_ rfl) ?_
  refine Wl.pure (PR.build (ps := [(0, .bool (!(schOk s p a b))), (1, .int .i64 (1))]) (cs := [.bool (!(schOk s p a b)), .int .i64 (1)]) tB_64 rfl rfl) ?_
  refine Wl.pure (PR.moveI rfl) ?_
  refine Wl.callV (c_impl_within (n := c) (lo := 1) (hi := 8)) rfl ?_
  intro w4 hbel
  replace st := st.call hbel
  clear hbel
  refine Wl.pure (PR.not_ rfl) ?_
  refine Wl.pure (PR.build (ps := [(0, .bool (!decide (1 ≤ c ∧ c ≤ 8))), (1, .int .i64 (2))]) (cs := [.bool (!decide (1 ≤ c ∧ c ≤ 8)), .int .i64 (2)]) tB_64 rfl rfl) ?_
  refine Wl.buildSlice (ps := [(0, .agg ([.bool (!(schOk s p a b)), .int .i64 (1)]).toArray), (1, .agg ([.bool (!decide (1 ≤ c ∧ c ≤ 8)), .int .i64 (2)]).toArray)]) (cs := [.bool (!(schOk s p a b)), .int .i64 (1), .bool (!decide (1 ≤ c ∧ c ≤ 8)), .int .i64 (2)]) st tS_79 tZ_64 rfl rfl rfl ?_
  clear st
  intro b18 w5 st
  refine Wl.callV (c_impl_firstOf (bk := b18) (o := 0) (n := 2) (cp := 2) (c := (fun i => [(!(schOk s p a b)), (!decide (1 ≤ c ∧ c ≤ 8))].getD i false)) (e := (fun i => [1, 2].getD i 0)) (st.rdA (i := 0) (n := 4) rfl rfl) (by first | assumption | omega)) rfl ?_
  intro w6 hbel
  replace st := st.call hbel
  clear hbel
  refine Wl.pure (PR.assI rfl) ?_
  refine Wl.nil ?_
  refine tn ?_
  refine Wc.seq ?_
  refine Wc.region rfl ?_
  refine Wl.pure (PR.moveI rfl) ?_
  refine Wl.pure (PR.neq (a := firstZ 2 (fun i => [(!(schOk s p a b)), (!decide (1 ≤ c ∧ c ≤ 8))].getD i false) (fun i => [1, 2].getD i 0)) (b := 0) rfl rfl) ?_
  refine Wl.nil ?_
  refine tn ?_
  refine Wc.condN (p := firstZ 2 (fun i => [(!(schOk s p a b)), (!decide (1 ≤ c ∧ c ≤ 8))].getD i false) (fun i => [1, 2].getD i 0) = 0) rfl (fun h7 => ?_) (fun h7 => ?_)
  · refine Wc.seq ?_
    refine Wc.region rfl ?_
    refine Wl.pure (PR.build (ps := []) (cs := schV (0) (0) ((fun _ => 0)) ((fun _ => 0))) tB_34 rfl rfl) ?_
    refine Wl.pure (PR.moveI rfl) ?_
    refine Wl.storeA (i := 1) (cs' := schV (0) (0) ((fun _ => 0)) ((fun _ => 0))) st tA_34 rfl rfl schV_len schV_one rfl (le_of_len schV_len (by omega)) (all_put schV_len) ?_
    clear st
    intro w8 st
    replace st : St [] w w8 [(b18, [.bool (!(schOk s p a b)), .int .i64 (1), .bool (!decide (1 ≤ c ∧ c ≤ 8)), .int .i64 (2)], 64), (b4, schV (0) (0) ((fun _ => 0)) ((fun _ => 0)), 34), (b2, schV (s) (p) (a) (b), 34)] := st
    refine Wl.pure (PR.assI rfl) ?_
    refine Wl.nil ?_
    refine tn ?_
    refine Wc.ret ?_
    refine tr ?_
    refine postL.many (rvs := [.cell 4 34, .tmp 5]) rfl (.cell (us := schV (0) (0) ((fun _ => 0)) ((fun _ => 0))) tA_34 rfl schV_len (st.rdA (i := 1) (n := 14) rfl (all_sub schV_len)) (.tmp (v := .int .i64 (firstZ 2 (fun i => [(!(schOk s p a b)), (!decide (1 ≤ c ∧ c ≤ 8))].getD i false) (fun i => [1, 2].getD i 0))) rfl .nil)) ?_
    refine RetV.of ?_ st.below
    exact rp_f (rp_err (by omega)).1 (rp_err (by omega)).2
  · refine Wc.skip ?_
    refine tn ?_
    refine Wc.seq ?_
    obtain ⟨hok, hc8⟩ := rp_okc (s := s) (p := p) (a := a) (b := b) (c := c) (by omega)
    obtain ⟨_, hp1, _⟩ := schOk_spec hok
    obtain ⟨m, rfl⟩ : ∃ m : Nat, p = ((m : Nat) : Int) := ⟨p.toNat, by omega⟩
    obtain ⟨e, rfl⟩ : ∃ e : Nat, c = ((e : Nat) : Int) := ⟨c.toNat, by omega⟩
    refine Wc.region rfl ?_
    refine Wl.loadA (i := 2) st tA_34 rfl rfl (all_sub schV_len) schV_len ?_
    refine Wl.alloc st tZ_34 rfl ?_
    clear st
    intro b7 w9 st
    refine Wl.storeA (i := 0) (cs' := schV (s) ((m : Nat) : Int) (a) (b)) st tA_34 rfl rfl schV_len schV_one rfl (le_of_len schV_len (by omega)) (all_put schV_len) ?_
    clear st
    intro w10 st
    replace st : St [] w w10 [(b7, schV (s) ((m : Nat) : Int) (a) (b), 34), (b18, [.bool (!(schOk s ((m : Nat) : Int) a b)), .int .i64 (1), .bool (!decide (1 ≤ ((e : Nat) : Int) ∧ ((e : Nat) : Int) ≤ 8)), .int .i64 (2)], 64), (b4, schV (0) (0) ((fun _ => 0)) ((fun _ => 0)), 34), (b2, schV (s) ((m : Nat) : Int) (a) (b), 34)] := st
    refine Wl.pure (PR.assI rfl) ?_
    refine Wl.nil ?_
    refine tn ?_
    refine Wc.seq ?_
    refine Wc.seq ?_
    refine Wc.region rfl ?_
    refine Wl.pure (PR.assI rfl) ?_
    refine Wl.nil ?_
    refine tn ?_
    refine Wc.block ?_
    replace st : St [] w w10 [(b7, schV (selI 0 s) (selI 0 (((0 + 1) * m : Nat) : Int)) (selF 0 (rpF a m 0)) (selF 0 (rpF b m 0)), 34), (b18, [.bool (!(schOk s ((m : Nat) : Int) a b)), .int .i64 (1), .bool (!decide (1 ≤ ((e : Nat) : Int) ∧ ((e : Nat) : Int) ≤ 8)), .int .i64 (2)], 64), (b4, schV (0) (0) ((fun _ => 0)) ((fun _ => 0)), 34), (b2, schV (s) ((m : Nat) : Int) (a) (b), 34)] := (by have q9 := rp_start s m a b; rw [selI0, selI0, selF0, selF0]; rw [← q9]; exact st)
    refine Wc.loopF (γ := Nat × Nat) (fun g => [(1, .int .i64 (((e : Nat) : Int))), (2, .pointer (some ⟨b2, 0, none⟩)), (4, .pointer (some ⟨b4, 0, none⟩)), (5, .int .i64 (0)), (7, .pointer (some ⟨b7, 0, none⟩)), (8, .int .i64 (((g.2 : Nat) : Int))), (9, .int .i64 ((((g.1 + 1) : Nat) : Int)))]) (fun g w_ => St [] w w_ [(b7, schV ((selI g.2 s)) ((selI g.2 (((g.1 + 1) * m : Nat) : Int))) ((selF g.2 (rpF a m g.1))) ((selF g.2 (rpF b m g.1))), 34), (b18, [.bool (!(schOk s ((m : Nat) : Int) a b)), .int .i64 (1), .bool (!decide (1 ≤ ((e : Nat) : Int) ∧ ((e : Nat) : Int) ≤ 8)), .int .i64 (2)], 64), (b4, schV (0) (0) ((fun _ => 0)) ((fun _ => 0)), 34), (b2, schV (s) ((m : Nat) : Int) (a) (b), 34)] ∧ (g.1 + 1 ≤ e) ∧ (g.2 = 0 → (g.1 + 1) * m ≤ 8) ∧ (¬ g.2 = 0 → g.2 = 3 ∧ 8 < e * m)) (fun g => e - g.1) ?_ ?_
    · exact ⟨(0, 0), (.cons rfl (.cons rfl (.cons rfl (.cons rfl (.cons rfl (.cons rfl (.cons rfl (.nil _)))))))), st, (by omega), (fun _ => by rw [Nat.zero_add, Nat.one_mul]; omega), (fun h => absurd rfl h)⟩
    clear st
    rintro ⟨j, q⟩ w11 ⟨st, hk, h0, h3⟩
    try dsimp only at st hk h0 h3 ⊢
    refine Wc.seq ?_
    refine Wc.seq ?_
    refine Wc.region rfl ?_
    refine Wl.pure (PR.moveI rfl) ?_
    refine Wl.pure (PR.moveI rfl) ?_
    refine Wl.pure (PR.lss (a := (((j + 1) : Nat) : Int)) (b := ((e : Nat) : Int)) rfl rfl) ?_
    refine Wl.pure (PR.moveB rfl) ?_
    refine Wl.splitT (q := (((j + 1) : Nat) : Int) < ((e : Nat) : Int)) rfl rfl (fun h12 => ?_) (fun h12 => ?_)
    · refine Wl.pure (PR.moveI rfl) ?_
      refine Wl.on rfl rfl ?_
      refine Wl.pure (PR.eql (a := ((q : Nat) : Int)) (b := 0) rfl rfl) ?_
      refine Wl.pure (PR.pickTB rfl rfl) ?_
      refine Wl.nil ?_
      refine tn ?_
      refine Wc.condD (p := ((q : Nat) : Int) = 0) rfl (fun h13 => ?_) (fun h13 => ?_)
      · refine Wc.skip ?_
        refine tn ?_
        refine Wc.seq ?_
        refine Wc.block ?_
        obtain rfl : q = 0 := by omega
        rw [selI0, selI0, selF0, selF0] at st
        have hjm := h0 rfl
        refine Wc.region rfl ?_
        refine Wl.loadA (i := 0) st tA_34 rfl rfl (all_sub schV_len) schV_len ?_
        refine Wl.loadA (i := 3) st tA_34 rfl rfl (all_sub schV_len) schV_len ?_
        refine Wl.callV (c_impl_JoinSchemes (s := s) (p := ((((j + 1) * m) : Nat) : Int)) (a := (rpF a m j)) (b := (rpF b m j)) (t := s) (q := ((m : Nat) : Int)) (c := a) (d := b) (by first | assumption | omega) (by first | assumption | omega) (rpF_lt ha m j) (rpF_lt hb m j) (by first | assumption | omega) (by first | assumption | omega) ha hb) rfl ?_
        intro w14 hbel
        replace st := st.call hbel
        clear hbel
        refine Wl.pure (PR.moveV (.tuple #[.agg (schV (selI (jnC s ((((j + 1) * m) : Nat) : Int) (rpF a m j) (rpF b m j) s ((m : Nat) : Int) a b) s) (selI (jnC s ((((j + 1) * m) : Nat) : Int) (rpF a m j) (rpF b m j) s ((m : Nat) : Int) a b) (((((j + 1) * m) : Nat) : Int) + ((m : Nat) : Int))) ((selF (jnC s ((((j + 1) * m) : Nat) : Int) (rpF a m j) (rpF b m j) s ((m : Nat) : Int) a b) (jnF (rpF a m j) a (((((j + 1) * m) : Nat) : Int)).toNat))) ((selF (jnC s ((((j + 1) * m) : Nat) : Int) (rpF a m j) (rpF b m j) s ((m : Nat) : Int) a b) (jnF (rpF b m j) b (((((j + 1) * m) : Nat) : Int)).toNat)))).toArray, .int .i64 ((((jnC s ((((j + 1) * m) : Nat) : Int) (rpF a m j) (rpF b m j) s ((m : Nat) : Int) a b) : Nat) : Int))]) rfl) ?_
        refine Wl.pure (PR.extr (i := 0) (vs := [.agg (schV (selI (jnC s ((((j + 1) * m) : Nat) : Int) (rpF a m j) (rpF b m j) s ((m : Nat) : Int) a b) s) (selI (jnC s ((((j + 1) * m) : Nat) : Int) (rpF a m j) (rpF b m j) s ((m : Nat) : Int) a b) (((((j + 1) * m) : Nat) : Int) + ((m : Nat) : Int))) ((selF (jnC s ((((j + 1) * m) : Nat) : Int) (rpF a m j) (rpF b m j) s ((m : Nat) : Int) a b) (jnF (rpF a m j) a (((((j + 1) * m) : Nat) : Int)).toNat))) ((selF (jnC s ((((j + 1) * m) : Nat) : Int) (rpF a m j) (rpF b m j) s ((m : Nat) : Int) a b) (jnF (rpF b m j) b (((((j + 1) * m) : Nat) : Int)).toNat)))).toArray, .int .i64 ((((jnC s ((((j + 1) * m) : Nat) : Int) (rpF a m j) (rpF b m j) s ((m : Nat) : Int) a b) : Nat) : Int))]) rfl rfl) ?_
        refine Wl.pure (PR.extr (i := 1) (vs := [.agg (schV (selI (jnC s ((((j + 1) * m) : Nat) : Int) (rpF a m j) (rpF b m j) s ((m : Nat) : Int) a b) s) (selI (jnC s ((((j + 1) * m) : Nat) : Int) (rpF a m j) (rpF b m j) s ((m : Nat) : Int) a b) (((((j + 1) * m) : Nat) : Int) + ((m : Nat) : Int))) ((selF (jnC s ((((j + 1) * m) : Nat) : Int) (rpF a m j) (rpF b m j) s ((m : Nat) : Int) a b) (jnF (rpF a m j) a (((((j + 1) * m) : Nat) : Int)).toNat))) ((selF (jnC s ((((j + 1) * m) : Nat) : Int) (rpF a m j) (rpF b m j) s ((m : Nat) : Int) a b) (jnF (rpF b m j) b (((((j + 1) * m) : Nat) : Int)).toNat)))).toArray, .int .i64 ((((jnC s ((((j + 1) * m) : Nat) : Int) (rpF a m j) (rpF b m j) s ((m : Nat) : Int) a b) : Nat) : Int))]) rfl rfl) ?_
        refine Wl.storeA (i := 0) (cs' := schV (selI (jnC s ((((j + 1) * m) : Nat) : Int) (rpF a m j) (rpF b m j) s ((m : Nat) : Int) a b) s) (selI (jnC s ((((j + 1) * m) : Nat) : Int) (rpF a m j) (rpF b m j) s ((m : Nat) : Int) a b) (((((j + 1) * m) : Nat) : Int) + ((m : Nat) : Int))) ((selF (jnC s ((((j + 1) * m) : Nat) : Int) (rpF a m j) (rpF b m j) s ((m : Nat) : Int) a b) (jnF (rpF a m j) a (((((j + 1) * m) : Nat) : Int)).toNat))) ((selF (jnC s ((((j + 1) * m) : Nat) : Int) (rpF a m j) (rpF b m j) s ((m : Nat) : Int) a b) (jnF (rpF b m j) b (((((j + 1) * m) : Nat) : Int)).toNat)))) st tA_34 rfl rfl schV_len schV_one rfl (le_of_len schV_len (by omega)) (all_put schV_len) ?_
        clear st
        intro w15 st
        replace st : St [] w w15 [(b7, schV (selI (jnC s ((((j + 1) * m) : Nat) : Int) (rpF a m j) (rpF b m j) s ((m : Nat) : Int) a b) s) (selI (jnC s ((((j + 1) * m) : Nat) : Int) (rpF a m j) (rpF b m j) s ((m : Nat) : Int) a b) (((((j + 1) * m) : Nat) : Int) + ((m : Nat) : Int))) ((selF (jnC s ((((j + 1) * m) : Nat) : Int) (rpF a m j) (rpF b m j) s ((m : Nat) : Int) a b) (jnF (rpF a m j) a (((((j + 1) * m) : Nat) : Int)).toNat))) ((selF (jnC s ((((j + 1) * m) : Nat) : Int) (rpF a m j) (rpF b m j) s ((m : Nat) : Int) a b) (jnF (rpF b m j) b (((((j + 1) * m) : Nat) : Int)).toNat))), 34), (b18, [.bool (!(schOk s ((m : Nat) : Int) a b)), .int .i64 (1), .bool (!decide (1 ≤ ((e : Nat) : Int) ∧ ((e : Nat) : Int) ≤ 8)), .int .i64 (2)], 64), (b4, schV (0) (0) ((fun _ => 0)) ((fun _ => 0)), 34), (b2, schV (s) ((m : Nat) : Int) (a) (b), 34)] := st
        refine Wl.pure (PR.assI rfl) ?_
        refine Wl.nil ?_
        refine bn ?_
        refine tn ?_
        refine Wc.region rfl ?_
        refine Wl.pure (PR.moveI rfl) ?_
        refine Wl.pure (PR.add (a := (((j + 1) : Nat) : Int)) (b := 1) rfl rfl (by simp only [fitI]; omega)) ?_
        refine Wl.pure (PR.assI rfl) ?_
        refine Wl.nil ?_
        refine tn ?_
        rw [rp_step] at st
        exact ⟨(j + 1, (jnC s ((((j + 1) * m) : Nat) : Int) (rpF a m j) (rpF b m j) s ((m : Nat) : Int) a b)), (.cons rfl (.cons rfl (.cons rfl (.cons rfl (.cons rfl (.cons rfl (.cons rfl (.nil _)))))))), ⟨st, (by first | omega | (dsimp only; omega)), (fun h => rp_h0 h), (fun h => rp_c3 hok hjm (by omega) h)⟩, (by first | omega | (dsimp only; omega))⟩
      · refine Wc.exit ?_
        refine tx ?_
        refine tx ?_
        refine bh ?_
        refine tn ?_
        refine Wc.seq ?_
        refine Wc.region rfl ?_
        refine Wl.loadA (i := 0) st tA_34 rfl rfl (all_sub schV_len) schV_len ?_
        refine Wl.pure (PR.moveI rfl) ?_
        refine Wl.storeA (i := 2) (cs' := schV ((selI q s)) ((selI q (((j + 1) * m : Nat) : Int))) ((selF q (rpF a m j))) ((selF q (rpF b m j)))) st tA_34 rfl rfl schV_len schV_one rfl (le_of_len schV_len (by omega)) (all_put schV_len) ?_
        clear st
        intro w16 st
        replace st : St [] w w16 [(b7, schV ((selI q s)) ((selI q (((j + 1) * m : Nat) : Int))) ((selF q (rpF a m j))) ((selF q (rpF b m j))), 34), (b18, [.bool (!(schOk s ((m : Nat) : Int) a b)), .int .i64 (1), .bool (!decide (1 ≤ ((e : Nat) : Int) ∧ ((e : Nat) : Int) ≤ 8)), .int .i64 (2)], 64), (b4, schV ((selI q s)) ((selI q (((j + 1) * m : Nat) : Int))) ((selF q (rpF a m j))) ((selF q (rpF b m j))), 34), (b2, schV (s) ((m : Nat) : Int) (a) (b), 34)] := st
        refine Wl.pure (PR.assI rfl) ?_
        refine Wl.nil ?_
        refine tn ?_
        refine Wc.ret ?_
        refine postL.many (rvs := [.cell 4 34, .tmp 5]) rfl (.cell (us := schV ((selI q s)) ((selI q (((j + 1) * m : Nat) : Int))) ((selF q (rpF a m j))) ((selF q (rpF b m j)))) tA_34 rfl schV_len (st.rdA (i := 2) (n := 14) rfl (all_sub schV_len)) (.tmp (v := .int .i64 (((q : Nat) : Int))) rfl .nil)) ?_
        refine RetV.of ?_ st.below
        exact rp_end hok (by omega) (fun hq => ⟨by omega, h0 hq⟩) h3
    · refine Wl.off rfl rfl rfl ?_
      refine Wl.pure (PR.pickFB rfl rfl) ?_
      refine Wl.nil ?_
      refine tn ?_
      refine Wc.condF rfl ?_
      refine Wc.exit ?_
      refine tx ?_
      refine tx ?_
      refine bh ?_
      refine tn ?_
      refine Wc.seq ?_
      refine Wc.region rfl ?_
      refine Wl.loadA (i := 0) st tA_34 rfl rfl (all_sub schV_len) schV_len ?_
      refine Wl.pure (PR.moveI rfl) ?_
      refine Wl.storeA (i := 2) (cs' := schV ((selI q s)) ((selI q (((j + 1) * m : Nat) : Int))) ((selF q (rpF a m j))) ((selF q (rpF b m j)))) st tA_34 rfl rfl schV_len schV_one rfl (le_of_len schV_len (by omega)) (all_put schV_len) ?_
      clear st
      intro w17 st
      replace st : St [] w w17 [(b7, schV ((selI q s)) ((selI q (((j + 1) * m : Nat) : Int))) ((selF q (rpF a m j))) ((selF q (rpF b m j))), 34), (b18, [.bool (!(schOk s ((m : Nat) : Int) a b)), .int .i64 (1), .bool (!decide (1 ≤ ((e : Nat) : Int) ∧ ((e : Nat) : Int) ≤ 8)), .int .i64 (2)], 64), (b4, schV ((selI q s)) ((selI q (((j + 1) * m : Nat) : Int))) ((selF q (rpF a m j))) ((selF q (rpF b m j))), 34), (b2, schV (s) ((m : Nat) : Int) (a) (b), 34)] := st
      refine Wl.pure (PR.assI rfl) ?_
      refine Wl.nil ?_
      refine tn ?_
      refine Wc.ret ?_
      refine postL.many (rvs := [.cell 4 34, .tmp 5]) rfl (.cell (us := schV ((selI q s)) ((selI q (((j + 1) * m : Nat) : Int))) ((selF q (rpF a m j))) ((selF q (rpF b m j)))) tA_34 rfl schV_len (st.rdA (i := 2) (n := 14) rfl (all_sub schV_len)) (.tmp (v := .int .i64 (((q : Nat) : Int))) rfl .nil)) ?_
      refine RetV.of ?_ st.below
      exact rp_end hok (by omega) (fun hq => ⟨by omega, h0 hq⟩) h3

set_option maxHeartbeats 400000 in
set_option maxRecDepth 4000 in
theorem c_laws_FnExactRepeatScheme {s : Int} {p : Int} {a : Nat → Nat} {b : Nat → Nat} {c : Int} {w : World} (hs : -128 ≤ s ∧ s ≤ 127) (hp : -128 ≤ p ∧ p ≤ 127) (ha : ∀ k, a k < 256) (hb : ∀ k, b k < 256) :
    CE Try.prog 6 [.agg (schV (s) (p) (a) (b)).toArray, .int .i64 (c)] w (RetV w (.bool true)) := by
  refine CE.enter 32 [(0, .agg (schV (s) (p) (a) (b)).toArray), (1, .int .i64 (c))] en_6 Try.func6 rfl rfl (Nat.le_of_ble_eq_true rfl) rfl ?_
  have st := St.start w
  refine Wc.seq ?_
  refine Wc.region rfl ?_
  refine Wl.boxA st rfl ?_
  clear st
  intro b2 w1 st
  refine Wl.pure (PR.assB rfl) ?_
  refine Wl.nil ?_
  refine tn ?_
  refine Wc.seq ?_
  refine Wc.region rfl ?_
  refine Wl.loadA (i := 0) st tA_33 rfl rfl (all_sub schV_len) schV_len ?_
  refine Wl.callV (c_laws_toScheme (s := s) (p := p) (a := a) (b := b) ha hb) rfl ?_
  intro w2 hbel
  replace st := st.call hbel
  clear hbel
  refine Wl.pure (PR.moveI rfl) ?_
  refine Wl.callV (c_spec_RepeatScheme (s := s) (p := p) (a := a) (b := b) (c := c) (by first | assumption | omega) (by first | assumption | omega) ha hb) rfl ?_
  intro w3 hbel
  replace st := st.call hbel
  clear hbel
  refine Wl.pure (PR.moveV (.tuple #[.agg (schV (selI (rpC s p a b c) s) (selI (rpC s p a b c) (p * c)) ((selF (rpC s p a b c) (rpF a (p).toNat ((c).toNat - 1)))) ((selF (rpC s p a b c) (rpF b (p).toNat ((c).toNat - 1))))).toArray, .int .i64 ((((rpC s p a b c) : Nat) : Int))]) rfl) ?_
  refine Wl.pure (PR.extr (i := 0) (vs := [.agg (schV (selI (rpC s p a b c) s) (selI (rpC s p a b c) (p * c)) ((selF (rpC s p a b c) (rpF a (p).toNat ((c).toNat - 1)))) ((selF (rpC s p a b c) (rpF b (p).toNat ((c).toNat - 1))))).toArray, .int .i64 ((((rpC s p a b c) : Nat) : Int))]) rfl rfl) ?_
  refine Wl.pure (PR.extr (i := 1) (vs := [.agg (schV (selI (rpC s p a b c) s) (selI (rpC s p a b c) (p * c)) ((selF (rpC s p a b c) (rpF a (p).toNat ((c).toNat - 1)))) ((selF (rpC s p a b c) (rpF b (p).toNat ((c).toNat - 1))))).toArray, .int .i64 ((((rpC s p a b c) : Nat) : Int))]) rfl rfl) ?_
  refine Wl.alloc st tZ_34 rfl ?_
  clear st
  intro b5 w4 st
  refine Wl.storeA (i := 0) (cs' := schV (selI (rpC s p a b c) s) (selI (rpC s p a b c) (p * c)) ((selF (rpC s p a b c) (rpF a (p).toNat ((c).toNat - 1)))) ((selF (rpC s p a b c) (rpF b (p).toNat ((c).toNat - 1))))) st tA_34 rfl rfl schV_len schV_one rfl (le_of_len schV_len (by omega)) (all_put schV_len) ?_
  clear st
  intro w5 st
  replace st : St [] w w5 [(b5, schV (selI (rpC s p a b c) s) (selI (rpC s p a b c) (p * c)) ((selF (rpC s p a b c) (rpF a (p).toNat ((c).toNat - 1)))) ((selF (rpC s p a b c) (rpF b (p).toNat ((c).toNat - 1)))), 34), (b2, schV (s) (p) (a) (b), 33)] := st
  refine Wl.pure (PR.assI rfl) ?_
  refine Wl.nil ?_
  refine tn ?_
  refine Wc.seq ?_
  refine Wc.region rfl ?_
  refine Wl.loadA (i := 1) st tA_33 rfl rfl (all_sub schV_len) schV_len ?_
  refine Wl.callV (c_laws_toScheme (s := s) (p := p) (a := a) (b := b) ha hb) rfl ?_
  intro w6 hbel
  replace st := st.call hbel
  clear hbel
  refine Wl.pure (PR.moveI rfl) ?_
  refine Wl.callV (c_impl_RepeatScheme (s := s) (p := p) (a := a) (b := b) (c := c) (by first | assumption | omega) (by first | assumption | omega) ha hb) rfl ?_
  intro w7 hbel
  replace st := st.call hbel
  clear hbel
  refine Wl.pure (PR.moveV (.tuple #[.agg (schV (selI (rpC s p a b c) s) (selI (rpC s p a b c) (p * c)) ((selF (rpC s p a b c) (rpF a (p).toNat ((c).toNat - 1)))) ((selF (rpC s p a b c) (rpF b (p).toNat ((c).toNat - 1))))).toArray, .int .i64 ((((rpC s p a b c) : Nat) : Int))]) rfl) ?_
  refine Wl.pure (PR.extr (i := 0) (vs := [.agg (schV (selI (rpC s p a b c) s) (selI (rpC s p a b c) (p * c)) ((selF (rpC s p a b c) (rpF a (p).toNat ((c).toNat - 1)))) ((selF (rpC s p a b c) (rpF b (p).toNat ((c).toNat - 1))))).toArray, .int .i64 ((((rpC s p a b c) : Nat) : Int))]) rfl rfl) ?_
  refine Wl.pure (PR.extr (i := 1) (vs := [.agg (schV (selI (rpC s p a b c) s) (selI (rpC s p a b c) (p * c)) ((selF (rpC s p a b c) (rpF a (p).toNat ((c).toNat - 1)))) ((selF (rpC s p a b c) (rpF b (p).toNat ((c).toNat - 1))))).toArray, .int .i64 ((((rpC s p a b c) : Nat) : Int))]) rfl rfl) ?_
  refine Wl.alloc st tZ_34 rfl ?_
  clear st
  intro b7 w8 st
  refine Wl.storeA (i := 0) (cs' := schV (selI (rpC s p a b c) s) (selI (rpC s p a b c) (p * c)) ((selF (rpC s p a b c) (rpF a (p).toNat ((c).toNat - 1)))) ((selF (rpC s p a b c) (rpF b (p).toNat ((c).toNat - 1))))) st tA_34 rfl rfl schV_len schV_one rfl (le_of_len schV_len (by omega)) (all_put schV_len) ?_
  clear st
  intro w9 st
  replace st : St [] w w9 [(b7, schV (selI (rpC s p a b c) s) (selI (rpC s p a b c) (p * c)) ((selF (rpC s p a b c) (rpF a (p).toNat ((c).toNat - 1)))) ((selF (rpC s p a b c) (rpF b (p).toNat ((c).toNat - 1)))), 34), (b5, schV (selI (rpC s p a b c) s) (selI (rpC s p a b c) (p * c)) ((selF (rpC s p a b c) (rpF a (p).toNat ((c).toNat - 1)))) ((selF (rpC s p a b c) (rpF b (p).toNat ((c).toNat - 1)))), 34), (b2, schV (s) (p) (a) (b), 33)] := st
  refine Wl.pure (PR.assI rfl) ?_
  refine Wl.nil ?_
  refine tn ?_
  refine Wc.seq ?_
  refine Wc.seq ?_
  refine Wc.region rfl ?_
  refine Wl.loadA (i := 0) st tA_34 rfl rfl (all_sub schV_len) schV_len ?_
  refine Wl.loadA (i := 1) st tA_34 rfl rfl (all_sub schV_len) schV_len ?_
  refine Wl.callV (c_laws_eqScheme (s := selI (rpC s p a b c) s) (p := selI (rpC s p a b c) (p * c)) (a := (selF (rpC s p a b c) (rpF a (p).toNat ((c).toNat - 1)))) (b := (selF (rpC s p a b c) (rpF b (p).toNat ((c).toNat - 1))))) rfl ?_
  intro w10 hbel
  replace st := st.call hbel
  clear hbel
  refine Wl.pure (PR.not_ rfl) ?_
  refine Wl.pure (PR.moveB rfl) ?_
  refine Wl.on rfl rfl ?_
  refine Wl.pure (PR.moveI rfl) ?_
  refine Wl.on rfl rfl ?_
  refine Wl.pure (PR.moveI rfl) ?_
  refine Wl.on rfl rfl ?_
  refine Wl.pure (PR.neqS (a := (((rpC s p a b c) : Nat) : Int)) rfl rfl) ?_
  refine Wl.pure (PR.pickFB rfl rfl) ?_
  refine Wl.nil ?_
  refine tn ?_
  refine Wc.condF rfl ?_
  refine Wc.skip ?_
  refine tn ?_
  refine Wc.seq ?_
  refine Wc.region rfl ?_
  refine Wl.pure (PR.assB rfl) ?_
  refine Wl.nil ?_
  refine tn ?_
  refine Wc.ret ?_
  refine postL.tmp rfl rfl ?_
  exact RetV.of rfl st.below

end Go.Proofs.Ytjkicobdokcjfaa
