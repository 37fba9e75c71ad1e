/-
  Contracts of functions, printed by a program of ours.
-/
import Derived.Test.YtjkicobdokcjfaaCS2
import Derived.Test.YtjkicobdokcjfaaJoin
namespace Go.Proofs.Ytjkicobdokcjfaa
open Go.RowKit
set_option linter.unusedVariables false
set_option linter.unusedSimpArgs false

set_option maxHeartbeats 400000 in
set_option maxRecDepth 4000 in
theorem c_spec_JoinSchemes {s : Int} {p : Int} {a : Nat → Nat} {b : Nat → Nat} {t : Int} {q : Int} {c : Nat → Nat} {d : Nat → Nat} {w : World} (hs : -128 ≤ s ∧ s ≤ 127) (hp : -128 ≤ p ∧ p ≤ 127) (ha : ∀ k, a k < 256) (hb : ∀ k, b k < 256) (ht : -128 ≤ t ∧ t ≤ 127) (hq : -128 ≤ q ∧ q ≤ 127) (hc : ∀ k, c k < 256) (hd : ∀ k, d k < 256) :
    CE Try.prog 45 [.agg (schV (s) (p) (a) (b)).toArray, .agg (schV (t) (q) (c) (d)).toArray] w (RetV w (.tuple #[.agg (schV (selI (jnC s p a b t q c d) s) (selI (jnC s p a b t q c d) (p + q)) ((selF (jnC s p a b t q c d) (jnF a c (p).toNat))) ((selF (jnC s p a b t q c d) (jnF b d (p).toNat)))).toArray, .int .i64 ((((jnC s p a b t q c d) : Nat) : Int))])) := by
  refine CE.enter 73 [(0, .agg (schV (s) (p) (a) (b)).toArray), (1, .agg (schV (t) (q) (c) (d)).toArray)] en_45 Try.func45 rfl rfl (Nat.le_of_ble_eq_true rfl) rfl ?_
  have st := St.start w
  refine Wc.seq ?_
  refine Wc.region rfl ?_
  refine Wl.boxA st rfl ?_
  clear st
  intro b2 w1 st
  refine Wl.boxA st rfl ?_
  clear st
  intro b3 w2 st
  refine Wl.alloc st tZ_34 rfl ?_
  clear st
  intro b4 w3 st
  refine Wl.pure (PR.assI rfl) ?_
  refine Wl.nil ?_
  refine tn ?_
  refine Wc.seq ?_
  refine Wc.seq ?_
  refine Wc.region rfl ?_
  refine Wl.callV (c_spec_l02Ok (bk := b2) (o := 0) (s := s) (p := p) (a := a) (b := b) (st.rdA (i := 2) rfl (all_sub schV_len)) (by first | assumption | omega) (by first | assumption | omega) ha hb) rfl ?_
  intro w4 hbel
  replace st := st.call hbel
  clear hbel
  refine Wl.pure (PR.not_ rfl) ?_
  refine Wl.pure (PR.moveB rfl) ?_
  refine Wl.splitB (b := (!(schOk s p a b))) rfl rfl (fun h5 => ?_) (fun h5 => ?_)
  · simp only [Bool.not_eq_true', Bool.not_eq_false', Bool.not_true, Bool.not_false] at h5
    refine Wl.callV (c_spec_l02Ok (bk := b3) (o := 0) (s := t) (p := q) (a := c) (b := d) (st.rdA (i := 1) rfl (all_sub schV_len)) (by first | assumption | omega) (by first | assumption | omega) hc hd) rfl ?_
    intro w6 hbel
    replace st := st.call hbel
    clear hbel
    refine Wl.on rfl rfl ?_
    refine Wl.pure (PR.not_ rfl) ?_
    refine Wl.pure (PR.pickFB rfl rfl) ?_
    refine Wl.nil ?_
    refine tn ?_
    refine Wc.condNB (b := schOk t q c d) rfl (fun h7 => ?_) (fun h7 => ?_)
    · refine Wc.seq ?_
      refine Wc.region rfl ?_
      refine Wl.pure (PR.build (ps := []) (cs := schV (0) (0) ((fun _ => 0)) ((fun _ => 0))) tB_34 rfl rfl) ?_
      refine Wl.storeA (i := 0) (cs' := schV (0) (0) ((fun _ => 0)) ((fun _ => 0))) st tA_34 rfl rfl schV_len schV_one rfl (le_of_len schV_len (by omega)) (all_put schV_len) ?_
      clear st
      intro w8 st
      replace st : St [] w w8 [(b4, schV (0) (0) ((fun _ => 0)) ((fun _ => 0)), 34), (b3, schV (t) (q) (c) (d), 34), (b2, schV (s) (p) (a) (b), 34)] := st
      refine Wl.pure (PR.assI rfl) ?_
      refine Wl.nil ?_
      refine tn ?_
      refine Wc.ret ?_
      refine tr ?_
      refine postL.many (rvs := [.cell 4 34, .tmp 5]) rfl (.cell (us := schV (0) (0) ((fun _ => 0)) ((fun _ => 0))) tA_34 rfl schV_len (st.rdA (i := 0) (n := 14) rfl (all_sub schV_len)) (.tmp (v := .int .i64 (1)) rfl .nil)) ?_
      refine RetV.of ?_ st.below
      first | exact jn_f (by rw [jnC_1 (by assumption)]; decide) (by rw [jnC_1 (by assumption)]; rfl) | exact jn_f (by rw [jnC_2 (by assumption)]; decide) (by rw [jnC_2 (by assumption)]; rfl)
    · refine Wc.skip ?_
      refine tn ?_
      refine Wc.seq ?_
      refine Wc.seq ?_
      refine Wc.region rfl ?_
      refine Wl.pure (PR.fieldAddr tF_34_0 rfl) ?_
      refine Wl.load (i := 2) st tA_30 rfl rfl (rfl) ?_
      refine Wl.pure (PR.fieldAddr tF_34_0 rfl) ?_
      refine Wl.load (i := 1) st tA_30 rfl rfl (rfl) ?_
      refine Wl.pure (PR.neq (a := s) (b := t) rfl rfl) ?_
      refine Wl.nil ?_
      refine tn ?_
      refine Wc.condN (p := s = t) rfl (fun h9 => ?_) (fun h9 => ?_)
      · refine Wc.seq ?_
        refine Wc.region rfl ?_
        refine Wl.pure (PR.build (ps := []) (cs := schV (0) (0) ((fun _ => 0)) ((fun _ => 0))) tB_34 rfl rfl) ?_
        refine Wl.storeA (i := 0) (cs' := schV (0) (0) ((fun _ => 0)) ((fun _ => 0))) st tA_34 rfl rfl schV_len schV_one rfl (le_of_len schV_len (by omega)) (all_put schV_len) ?_
        clear st
        intro w10 st
        replace st : St [] w w10 [(b4, schV (0) (0) ((fun _ => 0)) ((fun _ => 0)), 34), (b3, schV (t) (q) (c) (d), 34), (b2, schV (s) (p) (a) (b), 34)] := st
        refine Wl.pure (PR.assI rfl) ?_
        refine Wl.nil ?_
        refine tn ?_
        refine Wc.ret ?_
        refine tr ?_
        refine postL.many (rvs := [.cell 4 34, .tmp 5]) rfl (.cell (us := schV (0) (0) ((fun _ => 0)) ((fun _ => 0))) tA_34 rfl schV_len (st.rdA (i := 0) (n := 14) rfl (all_sub schV_len)) (.tmp (v := .int .i64 (4)) rfl .nil)) ?_
        refine RetV.of ?_ st.below
        exact jn_f (by rw [jnC_4 (by assumption) (by assumption) (by omega)]; decide) (by rw [jnC_4 (by assumption) (by assumption) (by omega)]; rfl)
      · refine Wc.skip ?_
        refine tn ?_
        refine Wc.seq ?_
        refine Wc.seq ?_
        obtain ⟨_, hp1, _⟩ := schOk_spec (s := s) (p := p) (a := a) (b := b) (by assumption)
        obtain ⟨_, hq1, _⟩ := schOk_spec (s := t) (p := q) (a := c) (b := d) (by assumption)
        refine Wc.region rfl ?_
        refine Wl.pure (PR.fieldAddr tF_34_1 rfl) ?_
        refine Wl.load (i := 2) st tA_30 rfl rfl (rfl) ?_
        refine Wl.pure (PR.fieldAddr tF_34_1 rfl) ?_
        refine Wl.load (i := 1) st tA_30 rfl rfl (rfl) ?_
        refine Wl.pure (PR.add (a := p) (b := q) rfl rfl (by simp only [fitI]; omega)) ?_
        refine Wl.pure (PR.gtr (a := (p + q)) (b := 8) rfl rfl) ?_
        refine Wl.nil ?_
        refine tn ?_
        refine Wc.condD (p := 8 < (p + q)) rfl (fun h11 => ?_) (fun h11 => ?_)
        · refine Wc.seq ?_
          refine Wc.region rfl ?_
          refine Wl.pure (PR.build (ps := []) (cs := schV (0) (0) ((fun _ => 0)) ((fun _ => 0))) tB_34 rfl rfl) ?_
          refine Wl.storeA (i := 0) (cs' := schV (0) (0) ((fun _ => 0)) ((fun _ => 0))) st tA_34 rfl rfl schV_len schV_one rfl (le_of_len schV_len (by omega)) (all_put schV_len) ?_
          clear st
          intro w12 st
          replace st : St [] w w12 [(b4, schV (0) (0) ((fun _ => 0)) ((fun _ => 0)), 34), (b3, schV (t) (q) (c) (d), 34), (b2, schV (s) (p) (a) (b), 34)] := st
          refine Wl.pure (PR.assI rfl) ?_
          refine Wl.nil ?_
          refine tn ?_
          refine Wc.ret ?_
          refine tr ?_
          refine postL.many (rvs := [.cell 4 34, .tmp 5]) rfl (.cell (us := schV (0) (0) ((fun _ => 0)) ((fun _ => 0))) tA_34 rfl schV_len (st.rdA (i := 0) (n := 14) rfl (all_sub schV_len)) (.tmp (v := .int .i64 (3)) rfl .nil)) ?_
          refine RetV.of ?_ st.below
          exact jn_f (by rw [jnC_3 (by assumption) (by assumption) (by omega) (by omega)]; decide) (by rw [jnC_3 (by assumption) (by assumption) (by omega) (by omega)]; rfl)
        · refine Wc.skip ?_
          refine tn ?_
          refine Wc.seq ?_
          obtain ⟨m, rfl⟩ : ∃ m : Nat, p = ((m : Nat) : Int) := ⟨p.toNat, by omega⟩
          obtain ⟨r, rfl⟩ : ∃ r : Nat, q = ((r : Nat) : Int) := ⟨q.toNat, by omega⟩
          refine Wc.region rfl ?_
          refine Wl.pure (PR.fieldAddr tF_34_0 rfl) ?_
          refine Wl.load (i := 2) st tA_30 rfl rfl (rfl) ?_
          refine Wl.pure (PR.fieldAddr tF_34_1 rfl) ?_
          refine Wl.load (i := 2) st tA_30 rfl rfl (rfl) ?_
          refine Wl.pure (PR.fieldAddr tF_34_1 rfl) ?_
          refine Wl.load (i := 1) st tA_30 rfl rfl (rfl) ?_
          refine Wl.pure (PR.add (a := ((m : Nat) : Int)) (b := ((r : Nat) : Int)) rfl rfl (by simp only [fitI]; omega)) ?_
          refine Wl.pure (PR.build (ps := [(0, .int .i8 (s)), (1, .int .i8 ((((m + r) : Nat) : Int)))]) (cs := schV (s) (((m + r) : Nat) : Int) ((fun _ => 0)) ((fun _ => 0))) tB_34 rfl rfl) ?_
          refine Wl.alloc st tZ_34 rfl ?_
          clear st
          intro b6 w13 st
          refine Wl.storeA (i := 0) (cs' := schV (s) (((m + r) : Nat) : Int) ((fun _ => 0)) ((fun _ => 0))) st tA_34 rfl rfl schV_len schV_one rfl (le_of_len schV_len (by omega)) (all_put schV_len) ?_
          clear st
          intro w14 st
          replace st : St [] w w14 [(b6, schV (s) (((m + r) : Nat) : Int) ((fun _ => 0)) ((fun _ => 0)), 34), (b4, schV (0) (0) ((fun _ => 0)) ((fun _ => 0)), 34), (b3, schV (t) ((r : Nat) : Int) (c) (d), 34), (b2, schV (s) ((m : Nat) : Int) (a) (b), 34)] := st
          refine Wl.nil ?_
          refine tn ?_
          refine Wc.seq ?_
          refine Wc.seq ?_
          refine Wc.region rfl ?_
          refine Wl.pure (PR.assI rfl) ?_
          refine Wl.nil ?_
          refine tn ?_
          refine Wc.block ?_
          rw [show schV s (((m + r : Nat)) : Int) (fun _ => 0) (fun _ => 0) = schV s (((m + r : Nat)) : Int) (mixF (jnF a c m) (fun _ => 0) 0) (mixF (jnF b d m) (fun _ => 0) 0) from by rw [← mix_zero, ← mix_zero]] at st
          refine Wc.loopF (γ := Nat) (fun g => [(2, .pointer (some ⟨b2, 0, none⟩)), (3, .pointer (some ⟨b3, 0, none⟩)), (4, .pointer (some ⟨b4, 0, none⟩)), (5, .int .i64 (0)), (6, .pointer (some ⟨b6, 0, none⟩)), (7, .int .i64 (((g : Nat) : Int)))]) (fun g w_ => St [] w w_ [(b6, schV (s) (((m + r) : Nat) : Int) ((mixF (jnF a c m) (fun _ => 0) g)) ((mixF (jnF b d m) (fun _ => 0) g)), 34), (b4, schV (0) (0) ((fun _ => 0)) ((fun _ => 0)), 34), (b3, schV (t) ((r : Nat) : Int) (c) (d), 34), (b2, schV (s) ((m : Nat) : Int) (a) (b), 34)] ∧ (g ≤ 6)) (fun g => 6 - g) ?_ ?_
          · exact ⟨0, (.cons rfl (.cons rfl (.cons rfl (.cons rfl (.cons rfl (.cons rfl (.nil _))))))), st, (by omega)⟩
          clear st
          rintro k w15 ⟨st, hk⟩
          try dsimp only at st hk ⊢
          refine Wc.seq ?_
          refine Wc.seq ?_
          refine Wc.region rfl ?_
          refine Wl.pure (PR.moveI rfl) ?_
          refine Wl.pure (PR.lss (a := ((k : Nat) : Int)) (b := 6) rfl rfl) ?_
          refine Wl.nil ?_
          refine tn ?_
          refine Wc.condD (p := ((k : Nat) : Int) < 6) rfl (fun h16 => ?_) (fun h16 => ?_)
          · refine Wc.skip ?_
            refine tn ?_
            refine Wc.seq ?_
            refine Wc.block ?_
            refine Wc.seq ?_
            refine Wc.quietTail 16 hmix (by kernel_rfl) rfl ?_
            refine Wq.pure (PR.moveI rfl) ?_
            refine Wq.pure (PR.moveI rfl) ?_
            refine Wq.pure (PR.fieldAddr tF_34_2 rfl) ?_
            refine Wq.pure (PR.idxAddrA1 (i := k) tE_31 rfl rfl (by omega)) ?_
            refine Wq.load (i := 3) st tA_5 rfl rfl (schV_get_a (by omega)) ?_
            refine Wq.pure (PR.moveI rfl) ?_
            refine Wq.pure (PR.fieldAddr tF_34_2 rfl) ?_
            refine Wq.pure (PR.idxAddrA1 (i := k) tE_31 rfl rfl (by omega)) ?_
            refine Wq.load (i := 2) st tA_5 rfl rfl (schV_get_a (by omega)) ?_
            refine Wq.pure (PR.fieldAddr tF_34_1 rfl) ?_
            refine Wq.load (i := 3) st tA_30 rfl rfl (rfl) ?_
            refine Wq.pure (PR.conv (n := ((m : Nat) : Int)) tI_68 rfl (by simp only [fitI]; omega) Try.underlying30) ?_
            refine Wq.pure (PR.shl (a := c (k)) (n := m) rfl rfl (by decide)) ?_
            refine Wq.pure (PR.or (a := a (k)) (b := (((c (k)) <<< m) % 256)) rfl rfl (by decide) (ha (k)) (Nat.mod_lt _ (by decide))) ?_
            refine Wq.pure (PR.fieldAddr tF_34_2 rfl) ?_
            refine Wq.pure (PR.idxAddrA1 (i := k) tE_31 rfl rfl (by omega)) ?_
            refine Wq.nil (fun w17 hbel => ?_)
            replace st := st.call hbel
            clear hbel
            refine Wl.store (i := 0) (cs' := schV (s) (((m + r) : Nat) : Int) (upd (mixF (jnF a c m) (fun _ => 0) k) (k) (((a (k)) ||| (((c (k)) <<< m) % 256)))) ((mixF (jnF b d m) (fun _ => 0) k))) st tA_5 rfl rfl rfl rfl (lt_of_len schV_len (by omega)) (schV_set_a (by omega)) ?_
            clear st
            intro w18 st
            replace st : St [] w w18 [(b6, schV (s) (((m + r) : Nat) : Int) (upd (mixF (jnF a c m) (fun _ => 0) k) (k) (((a (k)) ||| (((c (k)) <<< m) % 256)))) ((mixF (jnF b d m) (fun _ => 0) k)), 34), (b4, schV (0) (0) ((fun _ => 0)) ((fun _ => 0)), 34), (b3, schV (t) ((r : Nat) : Int) (c) (d), 34), (b2, schV (s) ((m : Nat) : Int) (a) (b), 34)] := st
            refine Wl.nil ?_
            refine tn ?_
            refine Wc.quietTail 16 hmix (by kernel_rfl) rfl ?_
            refine Wq.pure (PR.moveI rfl) ?_
            refine Wq.pure (PR.moveI rfl) ?_
            refine Wq.pure (PR.fieldAddr tF_34_3 rfl) ?_
            refine Wq.pure (PR.idxAddrA1 (i := k) tE_31 rfl rfl (by omega)) ?_
            refine Wq.load (i := 3) st tA_5 rfl rfl (schV_get_b (by omega)) ?_
            refine Wq.pure (PR.moveI rfl) ?_
            refine Wq.pure (PR.fieldAddr tF_34_3 rfl) ?_
            refine Wq.pure (PR.idxAddrA1 (i := k) tE_31 rfl rfl (by omega)) ?_
            refine Wq.load (i := 2) st tA_5 rfl rfl (schV_get_b (by omega)) ?_
            refine Wq.pure (PR.fieldAddr tF_34_1 rfl) ?_
            refine Wq.load (i := 3) st tA_30 rfl rfl (rfl) ?_
            refine Wq.pure (PR.conv (n := ((m : Nat) : Int)) tI_68 rfl (by simp only [fitI]; omega) Try.underlying30) ?_
            refine Wq.pure (PR.shl (a := d (k)) (n := m) rfl rfl (by decide)) ?_
            refine Wq.pure (PR.or (a := b (k)) (b := (((d (k)) <<< m) % 256)) rfl rfl (by decide) (hb (k)) (Nat.mod_lt _ (by decide))) ?_
            refine Wq.pure (PR.fieldAddr tF_34_3 rfl) ?_
            refine Wq.pure (PR.idxAddrA1 (i := k) tE_31 rfl rfl (by omega)) ?_
            refine Wq.nil (fun w19 hbel => ?_)
            replace st := st.call hbel
            clear hbel
            refine Wl.store (i := 0) (cs' := schV (s) (((m + r) : Nat) : Int) (upd (mixF (jnF a c m) (fun _ => 0) k) (k) (((a (k)) ||| (((c (k)) <<< m) % 256)))) (upd (mixF (jnF b d m) (fun _ => 0) k) (k) (((b (k)) ||| (((d (k)) <<< m) % 256))))) st tA_5 rfl rfl rfl rfl (lt_of_len schV_len (by omega)) (schV_set_b) ?_
            clear st
            intro w20 st
            replace st : St [] w w20 [(b6, schV (s) (((m + r) : Nat) : Int) (upd (mixF (jnF a c m) (fun _ => 0) k) (k) (((a (k)) ||| (((c (k)) <<< m) % 256)))) (upd (mixF (jnF b d m) (fun _ => 0) k) (k) (((b (k)) ||| (((d (k)) <<< m) % 256)))), 34), (b4, schV (0) (0) ((fun _ => 0)) ((fun _ => 0)), 34), (b3, schV (t) ((r : Nat) : Int) (c) (d), 34), (b2, schV (s) ((m : Nat) : Int) (a) (b), 34)] := st
            refine Wl.nil ?_
            refine bn ?_
            refine tn ?_
            refine Wc.region rfl ?_
            refine Wl.pure (PR.moveI rfl) ?_
            refine Wl.pure (PR.add (a := ((k : Nat) : Int)) (b := 1) rfl rfl (by simp only [fitI]; omega)) ?_
            refine Wl.pure (PR.assI rfl) ?_
            refine Wl.nil ?_
            refine tn ?_
            rw [jn_upd, jn_upd] at st
            exact ⟨k + 1, (.cons rfl (.cons rfl (.cons rfl (.cons rfl (.cons rfl (.cons rfl (.nil _))))))), ⟨st, (by first | omega | (dsimp only; omega))⟩, (by first | omega | (dsimp only; omega))⟩
          · refine Wc.exit ?_
            refine tx ?_
            refine tx ?_
            refine bh ?_
            refine tn ?_
            refine Wc.seq ?_
            refine Wc.region rfl ?_
            refine Wl.loadA (i := 0) st tA_34 rfl rfl (all_sub schV_len) schV_len ?_
            refine Wl.storeA (i := 1) (cs' := schV (s) (((m + r) : Nat) : Int) ((mixF (jnF a c m) (fun _ => 0) k)) ((mixF (jnF b d m) (fun _ => 0) k))) st tA_34 rfl rfl schV_len schV_one rfl (le_of_len schV_len (by omega)) (all_put schV_len) ?_
            clear st
            intro w21 st
            replace st : St [] w w21 [(b6, schV (s) (((m + r) : Nat) : Int) ((mixF (jnF a c m) (fun _ => 0) k)) ((mixF (jnF b d m) (fun _ => 0) k)), 34), (b4, schV (s) (((m + r) : Nat) : Int) ((mixF (jnF a c m) (fun _ => 0) k)) ((mixF (jnF b d m) (fun _ => 0) k)), 34), (b3, schV (t) ((r : Nat) : Int) (c) (d), 34), (b2, schV (s) ((m : Nat) : Int) (a) (b), 34)] := st
            refine Wl.pure (PR.assI rfl) ?_
            refine Wl.nil ?_
            refine tn ?_
            refine Wc.ret ?_
            refine postL.many (rvs := [.cell 4 34, .tmp 5]) rfl (.cell (us := schV (s) (((m + r) : Nat) : Int) ((mixF (jnF a c m) (fun _ => 0) k)) ((mixF (jnF b d m) (fun _ => 0) k))) tA_34 rfl schV_len (st.rdA (i := 1) (n := 14) rfl (all_sub schV_len)) (.tmp (v := .int .i64 (0)) rfl .nil)) ?_
            refine RetV.of ?_ st.below
            exact jn_t (jnC_0 (by assumption) (by assumption) (by omega) (by omega)) (by omega) (fun j hj => by rw [mix_lo (by omega)]; rfl) (fun j hj => by rw [mix_lo (by omega)]; rfl)
  · simp only [Bool.not_eq_true', Bool.not_eq_false', Bool.not_true, Bool.not_false] at h5
    refine Wl.off rfl rfl rfl ?_
    refine Wl.pure (PR.pickTB rfl rfl) ?_
    refine Wl.nil ?_
    refine tn ?_
    refine Wc.condT rfl ?_
    refine Wc.seq ?_
    refine Wc.region rfl ?_
    refine Wl.pure (PR.build (ps := []) (cs := schV (0) (0) ((fun _ => 0)) ((fun _ => 0))) tB_34 rfl rfl) ?_
    refine Wl.storeA (i := 0) (cs' := schV (0) (0) ((fun _ => 0)) ((fun _ => 0))) st tA_34 rfl rfl schV_len schV_one rfl (le_of_len schV_len (by omega)) (all_put schV_len) ?_
    clear st
    intro w22 st
    replace st : St [] w w22 [(b4, schV (0) (0) ((fun _ => 0)) ((fun _ => 0)), 34), (b3, schV (t) (q) (c) (d), 34), (b2, schV (s) (p) (a) (b), 34)] := st
    refine Wl.pure (PR.assI rfl) ?_
    refine Wl.nil ?_
    refine tn ?_
    refine Wc.ret ?_
    refine tr ?_
    refine postL.many (rvs := [.cell 4 34, .tmp 5]) rfl (.cell (us := schV (0) (0) ((fun _ => 0)) ((fun _ => 0))) tA_34 rfl schV_len (st.rdA (i := 0) (n := 14) rfl (all_sub schV_len)) (.tmp (v := .int .i64 (1)) rfl .nil)) ?_
    refine RetV.of ?_ st.below
    first | exact jn_f (by rw [jnC_1 (by assumption)]; decide) (by rw [jnC_1 (by assumption)]; rfl) | exact jn_f (by rw [jnC_2 (by assumption)]; decide) (by rw [jnC_2 (by assumption)]; rfl)

set_option maxHeartbeats 400000 in
set_option maxRecDepth 4000 in
theorem c_impl_JoinSchemes {s : Int} {p : Int} {a : Nat → Nat} {b : Nat → Nat} {t : Int} {q : Int} {c : Nat → Nat} {d : Nat → Nat} {w : World} (hs : -128 ≤ s ∧ s ≤ 127) (hp : -128 ≤ p ∧ p ≤ 127) (ha : ∀ k, a k < 256) (hb : ∀ k, b k < 256) (ht : -128 ≤ t ∧ t ≤ 127) (hq : -128 ≤ q ∧ q ≤ 127) (hc : ∀ k, c k < 256) (hd : ∀ k, d k < 256) :
    CE Try.prog 46 [.agg (schV (s) (p) (a) (b)).toArray, .agg (schV (t) (q) (c) (d)).toArray] w (RetV w (.tuple #[.agg (schV (selI (jnC s p a b t q c d) s) (selI (jnC s p a b t q c d) (p + q)) ((selF (jnC s p a b t q c d) (jnF a c (p).toNat))) ((selF (jnC s p a b t q c d) (jnF b d (p).toNat)))).toArray, .int .i64 ((((jnC s p a b t q c d) : Nat) : Int))])) := by
  refine CE.enter 80 [(0, .agg (schV (s) (p) (a) (b)).toArray), (1, .agg (schV (t) (q) (c) (d)).toArray)] en_46 Try.func46 rfl rfl (Nat.le_of_ble_eq_true rfl) rfl ?_
  have st := St.start w
  refine Wc.seq ?_
  refine Wc.region rfl ?_
  refine Wl.boxA st rfl ?_
  clear st
  intro b2 w1 st
  refine Wl.boxA st rfl ?_
  clear st
  intro b3 w2 st
  refine Wl.alloc st tZ_34 rfl ?_
  clear st
  intro b4 w3 st
  refine Wl.pure (PR.assI rfl) ?_
  refine Wl.nil ?_
  refine tn ?_
  refine Wc.seq ?_
  refine Wc.seq ?_
  refine Wc.quietTail 22 hmix (by kernel_rfl) rfl ?_
  refine Wq.loadA (i := 2) st tA_34 rfl rfl (all_sub schV_len) schV_len ?_
  refine Wq.callV (fun _ hbel => c_impl_ValidScheme (s := s) (p := p) (a := a) (b := b) (by first | assumption | omega) (by first | assumption | omega) ha hb) rfl ?_
  refine Wq.pure (PR.not_ rfl) ?_
  refine Wq.pure (PR.moveB rfl) ?_
  refine Wq.splitB (b := (!(schOk s p a b))) rfl rfl (fun h4 => ?_) (fun h4 => ?_)
  · simp only [Bool.not_eq_true', Bool.not_eq_false', Bool.not_true, Bool.not_false] at h4
    refine Wq.loadA (i := 1) st tA_34 rfl rfl (all_sub schV_len) schV_len ?_
    refine Wq.on rfl rfl ?_
    refine Wq.callV (fun _ hbel => c_impl_ValidScheme (s := t) (p := q) (a := c) (b := d) (by first | assumption | omega) (by first | assumption | omega) hc hd) rfl ?_
    refine Wq.on rfl rfl ?_
    refine Wq.pure (PR.not_ rfl) ?_
    refine Wq.pure (PR.pickFB rfl rfl) ?_
    refine Wq.pure (PR.build (ps := [(0, .bool (!(schOk t q c d))), (1, .int .i64 (1))]) (cs := [.bool (!(schOk t q c d)), .int .i64 (1)]) tB_64 rfl rfl) ?_
    refine Wq.pure (PR.fieldAddr tF_34_0 rfl) ?_
    refine Wq.load (i := 2) st tA_30 rfl rfl (rfl) ?_
    refine Wq.pure (PR.fieldAddr tF_34_0 rfl) ?_
    refine Wq.load (i := 1) st tA_30 rfl rfl (rfl) ?_
    refine Wq.pure (PR.neq (a := s) (b := t) rfl rfl) ?_
    refine Wq.pure (PR.build (ps := [(0, .bool (!decide (s = t))), (1, .int .i64 (4))]) (cs := [.bool (!decide (s = t)), .int .i64 (4)]) tB_64 rfl rfl) ?_
    refine Wq.pure (PR.fieldAddr tF_34_1 rfl) ?_
    refine Wq.load (i := 2) st tA_30 rfl rfl (rfl) ?_
    refine Wq.pure (PR.fieldAddr tF_34_1 rfl) ?_
    refine Wq.load (i := 1) st tA_30 rfl rfl (rfl) ?_
    refine Wq.pure (PR.addW (a := p) (b := q) rfl rfl) ?_
    refine Wq.pure (PR.gtr (a := (IntKind.i8.wrap (p + q))) (b := 8) rfl rfl) ?_
    refine Wq.pure (PR.build (ps := [(0, .bool (decide (8 < (IntKind.i8.wrap (p + q))))), (1, .int .i64 (3))]) (cs := [.bool (decide (8 < (IntKind.i8.wrap (p + q)))), .int .i64 (3)]) tB_64 rfl rfl) ?_
    refine Wq.nil (fun w5 hbel => ?_)
    replace st := st.call hbel
    clear hbel
    refine Wl.buildSlice (ps := [(0, .agg ([.bool (!(schOk t q c d)), .int .i64 (1)]).toArray), (1, .agg ([.bool (!decide (s = t)), .int .i64 (4)]).toArray), (2, .agg ([.bool (decide (8 < (IntKind.i8.wrap (p + q)))), .int .i64 (3)]).toArray)]) (cs := [.bool (!(schOk t q c d)), .int .i64 (1), .bool (!decide (s = t)), .int .i64 (4), .bool (decide (8 < (IntKind.i8.wrap (p + q)))), .int .i64 (3)]) st tS_79 tZ_64 rfl rfl rfl ?_
    clear st
    intro b31 w6 st
    refine Wl.callV (c_impl_firstOf (bk := b31) (o := 0) (n := 3) (cp := 3) (c := (fun i => [(!(schOk t q c d)), (!decide (s = t)), (decide (8 < (IntKind.i8.wrap (p + q))))].getD i false)) (e := (fun i => [1, 4, 3].getD i 0)) (st.rdA (i := 0) (n := 6) rfl rfl) (by first | assumption | omega)) rfl ?_
    intro w7 hbel
    replace st := st.call hbel
    clear hbel
    refine Wl.pure (PR.assI rfl) ?_
    refine Wl.nil ?_
    refine tn ?_
    refine Wc.seq ?_
    first | have hq9 := first_join1 (t := t) (q := q) (c := c) (d := d) (show schOk s p a b = false by assumption) (!decide (s = t)) (decide (8 < IntKind.i8.wrap (p + q))) | have hq9 := first_join2 (t := t) (q := q) (c := c) (d := d) (show schOk s p a b = true by assumption)
    refine Wc.region rfl ?_
    refine Wl.pure (PR.moveI rfl) ?_
    refine Wl.pure (PR.neq (a := firstZ 3 (fun i => [(!(schOk t q c d)), (!decide (s = t)), (decide (8 < (IntKind.i8.wrap (p + q))))].getD i false) (fun i => [1, 4, 3].getD i 0)) (b := 0) rfl rfl) ?_
    refine Wl.nil ?_
    refine tn ?_
    refine Wc.condN (p := firstZ 3 (fun i => [(!(schOk t q c d)), (!decide (s = t)), (decide (8 < (IntKind.i8.wrap (p + q))))].getD i false) (fun i => [1, 4, 3].getD i 0) = 0) rfl (fun h8 => ?_) (fun h8 => ?_)
    · refine Wc.seq ?_
      refine Wc.region rfl ?_
      refine Wl.pure (PR.build (ps := []) (cs := schV (0) (0) ((fun _ => 0)) ((fun _ => 0))) tB_34 rfl rfl) ?_
      refine Wl.pure (PR.moveI rfl) ?_
      refine Wl.storeA (i := 1) (cs' := schV (0) (0) ((fun _ => 0)) ((fun _ => 0))) st tA_34 rfl rfl schV_len schV_one rfl (le_of_len schV_len (by omega)) (all_put schV_len) ?_
      clear st
      intro w9 st
      replace st : St [] w w9 [(b31, [.bool (!(schOk t q c d)), .int .i64 (1), .bool (!decide (s = t)), .int .i64 (4), .bool (decide (8 < (IntKind.i8.wrap (p + q)))), .int .i64 (3)], 64), (b4, schV (0) (0) ((fun _ => 0)) ((fun _ => 0)), 34), (b3, schV (t) (q) (c) (d), 34), (b2, schV (s) (p) (a) (b), 34)] := st
      refine Wl.pure (PR.assI rfl) ?_
      refine Wl.nil ?_
      refine tn ?_
      refine Wc.ret ?_
      refine tr ?_
      refine postL.many (rvs := [.cell 4 34, .tmp 5]) rfl (.cell (us := schV (0) (0) ((fun _ => 0)) ((fun _ => 0))) tA_34 rfl schV_len (st.rdA (i := 1) (n := 14) rfl (all_sub schV_len)) (.tmp (v := .int .i64 (firstZ 3 (fun i => [(!(schOk t q c d)), (!decide (s = t)), (decide (8 < (IntKind.i8.wrap (p + q))))].getD i false) (fun i => [1, 4, 3].getD i 0))) rfl .nil)) ?_
      refine RetV.of ?_ st.below
      exact jn_f (by omega) (by omega)
    · refine Wc.skip ?_
      refine tn ?_
      refine Wc.seq ?_
      obtain ⟨hk1, hk2, hst, hpq⟩ := jnC_spec (s := s) (p := p) (a := a) (b := b) (t := t) (q := q) (c := c) (d := d) (by omega)
      obtain ⟨_, hp1, _⟩ := schOk_spec (s := s) (p := p) (a := a) (b := b) (by assumption)
      obtain ⟨_, hq1, _⟩ := schOk_spec (s := t) (p := q) (a := c) (b := d) (by assumption)
      obtain ⟨m, rfl⟩ : ∃ m : Nat, p = ((m : Nat) : Int) := ⟨p.toNat, by omega⟩
      obtain ⟨r, rfl⟩ : ∃ r : Nat, q = ((r : Nat) : Int) := ⟨q.toNat, by omega⟩
      refine Wc.region rfl ?_
      refine Wl.pure (PR.fieldAddr tF_34_0 rfl) ?_
      refine Wl.load (i := 3) st tA_30 rfl rfl (rfl) ?_
      refine Wl.pure (PR.fieldAddr tF_34_1 rfl) ?_
      refine Wl.load (i := 3) st tA_30 rfl rfl (rfl) ?_
      refine Wl.pure (PR.fieldAddr tF_34_1 rfl) ?_
      refine Wl.load (i := 2) st tA_30 rfl rfl (rfl) ?_
      refine Wl.pure (PR.add (a := ((m : Nat) : Int)) (b := ((r : Nat) : Int)) rfl rfl (by simp only [fitI]; omega)) ?_
      refine Wl.pure (PR.build (ps := [(0, .int .i8 (s)), (1, .int .i8 ((((m + r) : Nat) : Int)))]) (cs := schV (s) (((m + r) : Nat) : Int) ((fun _ => 0)) ((fun _ => 0))) tB_34 rfl rfl) ?_
      refine Wl.alloc st tZ_34 rfl ?_
      clear st
      intro b7 w10 st
      refine Wl.storeA (i := 0) (cs' := schV (s) (((m + r) : Nat) : Int) ((fun _ => 0)) ((fun _ => 0))) st tA_34 rfl rfl schV_len schV_one rfl (le_of_len schV_len (by omega)) (all_put schV_len) ?_
      clear st
      intro w11 st
      replace st : St [] w w11 [(b7, schV (s) (((m + r) : Nat) : Int) ((fun _ => 0)) ((fun _ => 0)), 34), (b31, [.bool (!(schOk t ((r : Nat) : Int) c d)), .int .i64 (1), .bool (!decide (s = t)), .int .i64 (4), .bool (decide (8 < (IntKind.i8.wrap (((m : Nat) : Int) + ((r : Nat) : Int))))), .int .i64 (3)], 64), (b4, schV (0) (0) ((fun _ => 0)) ((fun _ => 0)), 34), (b3, schV (t) ((r : Nat) : Int) (c) (d), 34), (b2, schV (s) ((m : Nat) : Int) (a) (b), 34)] := st
      refine Wl.nil ?_
      refine tn ?_
      refine Wc.seq ?_
      refine Wc.seq ?_
      refine Wc.region rfl ?_
      refine Wl.pure (PR.moveI rfl) ?_
      refine Wl.nil ?_
      refine tn ?_
      refine Wc.block ?_
      rw [show schV s (((m + r : Nat)) : Int) (fun _ => 0) (fun _ => 0) = schV s (((m + r : Nat)) : Int) (mixF (jnF a c m) (fun _ => 0) 0) (mixF (jnF b d m) (fun _ => 0) 0) from by rw [← mix_zero, ← mix_zero]] at st
      refine Wc.loopF (γ := Nat) (fun g => [(2, .pointer (some ⟨b2, 0, none⟩)), (3, .pointer (some ⟨b3, 0, none⟩)), (4, .pointer (some ⟨b4, 0, none⟩)), (5, .int .i64 (0)), (7, .pointer (some ⟨b7, 0, none⟩)), (45, .int .i64 (((g : Nat) : Int)))]) (fun g w_ => St [] w w_ [(b7, schV (s) (((m + r) : Nat) : Int) ((mixF (jnF a c m) (fun _ => 0) g)) ((mixF (jnF b d m) (fun _ => 0) g)), 34), (b31, [.bool (!(schOk t ((r : Nat) : Int) c d)), .int .i64 (1), .bool (!decide (s = t)), .int .i64 (4), .bool (decide (8 < (IntKind.i8.wrap (((m : Nat) : Int) + ((r : Nat) : Int))))), .int .i64 (3)], 64), (b4, schV (0) (0) ((fun _ => 0)) ((fun _ => 0)), 34), (b3, schV (t) ((r : Nat) : Int) (c) (d), 34), (b2, schV (s) ((m : Nat) : Int) (a) (b), 34)] ∧ (g ≤ 6)) (fun g => 6 - g) ?_ ?_
      · exact ⟨0, (.cons rfl (.cons rfl (.cons rfl (.cons rfl (.cons rfl (.cons rfl (.nil _))))))), st, (by omega)⟩
      clear st
      rintro k w12 ⟨st, hk⟩
      try dsimp only at st hk ⊢
      refine Wc.seq ?_
      refine Wc.region rfl ?_
      refine Wl.pure (PR.lss (a := ((k : Nat) : Int)) (b := 6) rfl rfl) ?_
      refine Wl.nil ?_
      refine tn ?_
      refine Wc.seq ?_
      refine Wc.condD (p := ((k : Nat) : Int) < 6) rfl (fun h13 => ?_) (fun h13 => ?_)
      · refine Wc.skip ?_
        refine tn ?_
        refine Wc.seq ?_
        refine Wc.block ?_
        refine Wc.seq ?_
        refine Wc.region rfl ?_
        refine Wl.pure (PR.moveI rfl) ?_
        refine Wl.pure (PR.assI rfl) ?_
        refine Wl.nil ?_
        refine tn ?_
        refine Wc.mixed (S := fun i => i == 28 || i == 31) (R := RB b7) [(0, 0), (1, 0), (2, 0), (3, 0), (4, 0), (6, 0), (7, 0), (8, 0), (10, 0), (14, 0), (15, 0), (16, 0), (18, 0), (19, 0), (20, 0), (22, 0), (26, 0), (29, 0), (5, 1), (9, 1), (11, 1), (12, 0), (13, 0), (27, 0), (17, 3), (21, 3), (23, 3), (24, 0), (25, 0), (28, 2), (30, 0), (31, 2)] (RB.refl b7) (RB.trans b7) hmix (by kernel_rfl) (by kernel_rfl) rfl rfl ?_
        intro w14 hbel
        replace st := st.call hbel
        clear hbel
        refine Wm.pure (by decide) rfl (PR.moveI rfl) ?_
        refine Wm.pure (by decide) rfl (PR.moveI rfl) ?_
        refine Wm.pure (by decide) rfl (PR.moveI rfl) ?_
        refine Wm.pure (by decide) rfl (PR.fieldAddr tF_34_2 rfl) ?_
        refine Wm.pure (by decide) rfl (PR.idxAddrA1 (i := k) tE_31 rfl rfl (by omega)) ?_
        refine Wm.pure (by decide) rfl (PR.moveI rfl) ?_
        refine Wm.pure (by decide) rfl (PR.fieldAddr tF_34_2 rfl) ?_
        refine Wm.pure (by decide) rfl (PR.idxAddrA1 (i := k) tE_31 rfl rfl (by omega)) ?_
        refine Wm.pure (by decide) rfl (PR.fieldAddr tF_34_1 rfl) ?_
        refine Wm.pure (by decide) rfl (PR.moveI rfl) ?_
        refine Wm.pure (by decide) rfl (PR.fieldAddr tF_34_3 rfl) ?_
        refine Wm.pure (by decide) rfl (PR.idxAddrA1 (i := k) tE_31 rfl rfl (by omega)) ?_
        refine Wm.pure (by decide) rfl (PR.moveI rfl) ?_
        refine Wm.pure (by decide) rfl (PR.fieldAddr tF_34_3 rfl) ?_
        refine Wm.pure (by decide) rfl (PR.idxAddrA1 (i := k) tE_31 rfl rfl (by omega)) ?_
        refine Wm.pure (by decide) rfl (PR.fieldAddr tF_34_1 rfl) ?_
        refine Wm.pure (by decide) rfl (PR.fieldAddr tF_34_2 rfl) ?_
        refine Wm.pure (by decide) rfl (PR.fieldAddr tF_34_3 rfl) ?_
        refine Wm.load (j := 4) rfl st tA_5 rfl rfl (schV_get_a (by omega)) ?_
        refine Wm.load (j := 3) rfl st tA_5 rfl rfl (schV_get_a (by omega)) ?_
        refine Wm.load (j := 4) rfl st tA_30 rfl rfl (rfl) ?_
        refine Wm.pure (by decide) rfl (PR.shl (a := c (k)) (n := m) rfl rfl (by decide)) ?_
        refine Wm.pure (by decide) rfl (PR.or (a := a (k)) (b := (((c (k)) <<< m) % 256)) rfl rfl (by decide) (ha (k)) (Nat.mod_lt _ (by decide))) ?_
        refine Wm.pure (by decide) rfl (PR.idxAddrA1 (i := k) tE_31 rfl rfl (by omega)) ?_
        refine Wm.loadR (j := 4) (j' := 0) rfl st tA_5 rfl rfl rfl (by decide) (schV_get_b (by omega)) ?_
        refine Wm.loadR (j := 3) (j' := 0) rfl st tA_5 rfl rfl rfl (by decide) (schV_get_b (by omega)) ?_
        refine Wm.loadR (j := 4) (j' := 0) rfl st tA_30 rfl rfl rfl (by decide) (rfl) ?_
        refine Wm.pure (by decide) rfl (PR.shl (a := d (k)) (n := m) rfl rfl (by decide)) ?_
        refine Wm.pure (by decide) rfl (PR.or (a := b (k)) (b := (((d (k)) <<< m) % 256)) rfl rfl (by decide) (hb (k)) (Nat.mod_lt _ (by decide))) ?_
        refine Wm.store (j := 0) (cs' := schV (s) (((m + r) : Nat) : Int) (upd (mixF (jnF a c m) (fun _ => 0) k) (k) (((a (k)) ||| (((c (k)) <<< m) % 256)))) ((mixF (jnF b d m) (fun _ => 0) k))) rfl st (fun _ h => h) tA_5 rfl rfl rfl rfl (lt_of_len schV_len (by omega)) (schV_set_a (by omega)) rfl ?_
        clear st
        intro w15 st
        replace st : St [] w w15 [(b7, schV (s) (((m + r) : Nat) : Int) (upd (mixF (jnF a c m) (fun _ => 0) k) (k) (((a (k)) ||| (((c (k)) <<< m) % 256)))) ((mixF (jnF b d m) (fun _ => 0) k)), 34), (b31, [.bool (!(schOk t ((r : Nat) : Int) c d)), .int .i64 (1), .bool (!decide (s = t)), .int .i64 (4), .bool (decide (8 < (IntKind.i8.wrap (((m : Nat) : Int) + ((r : Nat) : Int))))), .int .i64 (3)], 64), (b4, schV (0) (0) ((fun _ => 0)) ((fun _ => 0)), 34), (b3, schV (t) ((r : Nat) : Int) (c) (d), 34), (b2, schV (s) ((m : Nat) : Int) (a) (b), 34)] := st
        refine Wm.pure (by decide) rfl (PR.idxAddrA1 (i := k) tE_31 rfl rfl (by omega)) ?_
        refine Wm.store (j := 0) (cs' := schV (s) (((m + r) : Nat) : Int) (upd (mixF (jnF a c m) (fun _ => 0) k) (k) (((a (k)) ||| (((c (k)) <<< m) % 256)))) (upd (mixF (jnF b d m) (fun _ => 0) k) (k) (((b (k)) ||| (((d (k)) <<< m) % 256))))) rfl st (fun _ h => h) tA_5 rfl rfl rfl rfl (lt_of_len schV_len (by omega)) (schV_set_b) rfl ?_
        clear st
        intro w16 st
        replace st : St [] w w16 [(b7, schV (s) (((m + r) : Nat) : Int) (upd (mixF (jnF a c m) (fun _ => 0) k) (k) (((a (k)) ||| (((c (k)) <<< m) % 256)))) (upd (mixF (jnF b d m) (fun _ => 0) k) (k) (((b (k)) ||| (((d (k)) <<< m) % 256)))), 34), (b31, [.bool (!(schOk t ((r : Nat) : Int) c d)), .int .i64 (1), .bool (!decide (s = t)), .int .i64 (4), .bool (decide (8 < (IntKind.i8.wrap (((m : Nat) : Int) + ((r : Nat) : Int))))), .int .i64 (3)], 64), (b4, schV (0) (0) ((fun _ => 0)) ((fun _ => 0)), 34), (b3, schV (t) ((r : Nat) : Int) (c) (d), 34), (b2, schV (s) ((m : Nat) : Int) (a) (b), 34)] := st
        refine Wm.nil ?_
        refine bn ?_
        refine tn ?_
        refine Wc.region rfl ?_
        refine Wl.pure (PR.add (a := ((k : Nat) : Int)) (b := 1) rfl rfl (by simp only [fitI]; omega)) ?_
        refine Wl.pure (PR.moveI rfl) ?_
        refine Wl.nil ?_
        refine tn ?_
        rw [jn_upd, jn_upd] at st
        exact ⟨k + 1, (.cons rfl (.cons rfl (.cons rfl (.cons rfl (.cons rfl (.cons rfl (.nil _))))))), ⟨st, (by first | omega | (dsimp only; omega))⟩, (by first | omega | (dsimp only; omega))⟩
      · refine Wc.exit ?_
        refine tx ?_
        refine tx ?_
        refine bh ?_
        refine tn ?_
        refine Wc.seq ?_
        refine Wc.region rfl ?_
        refine Wl.loadA (i := 0) st tA_34 rfl rfl (all_sub schV_len) schV_len ?_
        refine Wl.storeA (i := 2) (cs' := schV (s) (((m + r) : Nat) : Int) ((mixF (jnF a c m) (fun _ => 0) k)) ((mixF (jnF b d m) (fun _ => 0) k))) st tA_34 rfl rfl schV_len schV_one rfl (le_of_len schV_len (by omega)) (all_put schV_len) ?_
        clear st
        intro w17 st
        replace st : St [] w w17 [(b7, schV (s) (((m + r) : Nat) : Int) ((mixF (jnF a c m) (fun _ => 0) k)) ((mixF (jnF b d m) (fun _ => 0) k)), 34), (b31, [.bool (!(schOk t ((r : Nat) : Int) c d)), .int .i64 (1), .bool (!decide (s = t)), .int .i64 (4), .bool (decide (8 < (IntKind.i8.wrap (((m : Nat) : Int) + ((r : Nat) : Int))))), .int .i64 (3)], 64), (b4, schV (s) (((m + r) : Nat) : Int) ((mixF (jnF a c m) (fun _ => 0) k)) ((mixF (jnF b d m) (fun _ => 0) k)), 34), (b3, schV (t) ((r : Nat) : Int) (c) (d), 34), (b2, schV (s) ((m : Nat) : Int) (a) (b), 34)] := st
        refine Wl.pure (PR.assI rfl) ?_
        refine Wl.nil ?_
        refine tn ?_
        refine Wc.ret ?_
        refine postL.many (rvs := [.cell 4 34, .tmp 5]) rfl (.cell (us := schV (s) (((m + r) : Nat) : Int) ((mixF (jnF a c m) (fun _ => 0) k)) ((mixF (jnF b d m) (fun _ => 0) k))) tA_34 rfl schV_len (st.rdA (i := 2) (n := 14) rfl (all_sub schV_len)) (.tmp (v := .int .i64 (0)) rfl .nil)) ?_
        refine RetV.of ?_ st.below
        exact jn_t (by omega) (by omega) (fun j hj => by rw [mix_lo (by omega)]; rfl) (fun j hj => by rw [mix_lo (by omega)]; rfl)
  · simp only [Bool.not_eq_true', Bool.not_eq_false', Bool.not_true, Bool.not_false] at h4
    refine Wq.off rfl rfl rfl ?_
    refine Wq.off rfl rfl rfl ?_
    refine Wq.pure (PR.pickTB rfl rfl) ?_
    refine Wq.pure (PR.build (ps := [(0, .bool true), (1, .int .i64 (1))]) (cs := [.bool true, .int .i64 (1)]) tB_64 rfl rfl) ?_
    refine Wq.pure (PR.fieldAddr tF_34_0 rfl) ?_
    refine Wq.load (i := 2) st tA_30 rfl rfl (rfl) ?_
    refine Wq.pure (PR.fieldAddr tF_34_0 rfl) ?_
    refine Wq.load (i := 1) st tA_30 rfl rfl (rfl) ?_
    refine Wq.pure (PR.neq (a := s) (b := t) rfl rfl) ?_
    refine Wq.pure (PR.build (ps := [(0, .bool (!decide (s = t))), (1, .int .i64 (4))]) (cs := [.bool (!decide (s = t)), .int .i64 (4)]) tB_64 rfl rfl) ?_
    refine Wq.pure (PR.fieldAddr tF_34_1 rfl) ?_
    refine Wq.load (i := 2) st tA_30 rfl rfl (rfl) ?_
    refine Wq.pure (PR.fieldAddr tF_34_1 rfl) ?_
    refine Wq.load (i := 1) st tA_30 rfl rfl (rfl) ?_
    refine Wq.pure (PR.addW (a := p) (b := q) rfl rfl) ?_
    refine Wq.pure (PR.gtr (a := (IntKind.i8.wrap (p + q))) (b := 8) rfl rfl) ?_
    refine Wq.pure (PR.build (ps := [(0, .bool (decide (8 < (IntKind.i8.wrap (p + q))))), (1, .int .i64 (3))]) (cs := [.bool (decide (8 < (IntKind.i8.wrap (p + q)))), .int .i64 (3)]) tB_64 rfl rfl) ?_
    refine Wq.nil (fun w18 hbel => ?_)
    replace st := st.call hbel
    clear hbel
    refine Wl.buildSlice (ps := [(0, .agg ([.bool true, .int .i64 (1)]).toArray), (1, .agg ([.bool (!decide (s = t)), .int .i64 (4)]).toArray), (2, .agg ([.bool (decide (8 < (IntKind.i8.wrap (p + q)))), .int .i64 (3)]).toArray)]) (cs := [.bool true, .int .i64 (1), .bool (!decide (s = t)), .int .i64 (4), .bool (decide (8 < (IntKind.i8.wrap (p + q)))), .int .i64 (3)]) st tS_79 tZ_64 rfl rfl rfl ?_
    clear st
    intro b31 w19 st
    refine Wl.callV (c_impl_firstOf (bk := b31) (o := 0) (n := 3) (cp := 3) (c := (fun i => [true, (!decide (s = t)), (decide (8 < (IntKind.i8.wrap (p + q))))].getD i false)) (e := (fun i => [1, 4, 3].getD i 0)) (st.rdA (i := 0) (n := 6) rfl rfl) (by first | assumption | omega)) rfl ?_
    intro w20 hbel
    replace st := st.call hbel
    clear hbel
    refine Wl.pure (PR.assI rfl) ?_
    refine Wl.nil ?_
    refine tn ?_
    refine Wc.seq ?_
    first | have hq9 := first_join1 (t := t) (q := q) (c := c) (d := d) (show schOk s p a b = false by assumption) (!decide (s = t)) (decide (8 < IntKind.i8.wrap (p + q))) | have hq9 := first_join2 (t := t) (q := q) (c := c) (d := d) (show schOk s p a b = true by assumption)
    refine Wc.region rfl ?_
    refine Wl.pure (PR.moveI rfl) ?_
    refine Wl.pure (PR.neq (a := firstZ 3 (fun i => [true, (!decide (s = t)), (decide (8 < (IntKind.i8.wrap (p + q))))].getD i false) (fun i => [1, 4, 3].getD i 0)) (b := 0) rfl rfl) ?_
    refine Wl.nil ?_
    refine tn ?_
    refine Wc.condN (p := firstZ 3 (fun i => [true, (!decide (s = t)), (decide (8 < (IntKind.i8.wrap (p + q))))].getD i false) (fun i => [1, 4, 3].getD i 0) = 0) rfl (fun h21 => ?_) (fun h21 => ?_)
    · refine Wc.seq ?_
      refine Wc.region rfl ?_
      refine Wl.pure (PR.build (ps := []) (cs := schV (0) (0) ((fun _ => 0)) ((fun _ => 0))) tB_34 rfl rfl) ?_
      refine Wl.pure (PR.moveI rfl) ?_
      refine Wl.storeA (i := 1) (cs' := schV (0) (0) ((fun _ => 0)) ((fun _ => 0))) st tA_34 rfl rfl schV_len schV_one rfl (le_of_len schV_len (by omega)) (all_put schV_len) ?_
      clear st
      intro w22 st
      replace st : St [] w w22 [(b31, [.bool true, .int .i64 (1), .bool (!decide (s = t)), .int .i64 (4), .bool (decide (8 < (IntKind.i8.wrap (p + q)))), .int .i64 (3)], 64), (b4, schV (0) (0) ((fun _ => 0)) ((fun _ => 0)), 34), (b3, schV (t) (q) (c) (d), 34), (b2, schV (s) (p) (a) (b), 34)] := st
      refine Wl.pure (PR.assI rfl) ?_
      refine Wl.nil ?_
      refine tn ?_
      refine Wc.ret ?_
      refine tr ?_
      refine postL.many (rvs := [.cell 4 34, .tmp 5]) rfl (.cell (us := schV (0) (0) ((fun _ => 0)) ((fun _ => 0))) tA_34 rfl schV_len (st.rdA (i := 1) (n := 14) rfl (all_sub schV_len)) (.tmp (v := .int .i64 (firstZ 3 (fun i => [true, (!decide (s = t)), (decide (8 < (IntKind.i8.wrap (p + q))))].getD i false) (fun i => [1, 4, 3].getD i 0))) rfl .nil)) ?_
      refine RetV.of ?_ st.below
      exact jn_f (by omega) (by omega)
    · refine Wc.skip ?_
      refine tn ?_
      refine Wc.seq ?_
      obtain ⟨hk1, hk2, hst, hpq⟩ := jnC_spec (s := s) (p := p) (a := a) (b := b) (t := t) (q := q) (c := c) (d := d) (by omega)
      obtain ⟨_, hp1, _⟩ := schOk_spec (s := s) (p := p) (a := a) (b := b) (by assumption)
      obtain ⟨_, hq1, _⟩ := schOk_spec (s := t) (p := q) (a := c) (b := d) (by assumption)
      obtain ⟨m, rfl⟩ : ∃ m : Nat, p = ((m : Nat) : Int) := ⟨p.toNat, by omega⟩
      obtain ⟨r, rfl⟩ : ∃ r : Nat, q = ((r : Nat) : Int) := ⟨q.toNat, by omega⟩
      refine Wc.region rfl ?_
      refine Wl.pure (PR.fieldAddr tF_34_0 rfl) ?_
      refine Wl.load (i := 3) st tA_30 rfl rfl (rfl) ?_
      refine Wl.pure (PR.fieldAddr tF_34_1 rfl) ?_
      refine Wl.load (i := 3) st tA_30 rfl rfl (rfl) ?_
      refine Wl.pure (PR.fieldAddr tF_34_1 rfl) ?_
      refine Wl.load (i := 2) st tA_30 rfl rfl (rfl) ?_
      refine Wl.pure (PR.add (a := ((m : Nat) : Int)) (b := ((r : Nat) : Int)) rfl rfl (by simp only [fitI]; omega)) ?_
      refine Wl.pure (PR.build (ps := [(0, .int .i8 (s)), (1, .int .i8 ((((m + r) : Nat) : Int)))]) (cs := schV (s) (((m + r) : Nat) : Int) ((fun _ => 0)) ((fun _ => 0))) tB_34 rfl rfl) ?_
      refine Wl.alloc st tZ_34 rfl ?_
      clear st
      intro b7 w23 st
      refine Wl.storeA (i := 0) (cs' := schV (s) (((m + r) : Nat) : Int) ((fun _ => 0)) ((fun _ => 0))) st tA_34 rfl rfl schV_len schV_one rfl (le_of_len schV_len (by omega)) (all_put schV_len) ?_
      clear st
      intro w24 st
      replace st : St [] w w24 [(b7, schV (s) (((m + r) : Nat) : Int) ((fun _ => 0)) ((fun _ => 0)), 34), (b31, [.bool true, .int .i64 (1), .bool (!decide (s = t)), .int .i64 (4), .bool (decide (8 < (IntKind.i8.wrap (((m : Nat) : Int) + ((r : Nat) : Int))))), .int .i64 (3)], 64), (b4, schV (0) (0) ((fun _ => 0)) ((fun _ => 0)), 34), (b3, schV (t) ((r : Nat) : Int) (c) (d), 34), (b2, schV (s) ((m : Nat) : Int) (a) (b), 34)] := st
      refine Wl.nil ?_
      refine tn ?_
      refine Wc.seq ?_
      refine Wc.seq ?_
      refine Wc.region rfl ?_
      refine Wl.pure (PR.moveI rfl) ?_
      refine Wl.nil ?_
      refine tn ?_
      refine Wc.block ?_
      rw [show schV s (((m + r : Nat)) : Int) (fun _ => 0) (fun _ => 0) = schV s (((m + r : Nat)) : Int) (mixF (jnF a c m) (fun _ => 0) 0) (mixF (jnF b d m) (fun _ => 0) 0) from by rw [← mix_zero, ← mix_zero]] at st
      refine Wc.loopF (γ := Nat) (fun g => [(2, .pointer (some ⟨b2, 0, none⟩)), (3, .pointer (some ⟨b3, 0, none⟩)), (4, .pointer (some ⟨b4, 0, none⟩)), (5, .int .i64 (0)), (7, .pointer (some ⟨b7, 0, none⟩)), (45, .int .i64 (((g : Nat) : Int)))]) (fun g w_ => St [] w w_ [(b7, schV (s) (((m + r) : Nat) : Int) ((mixF (jnF a c m) (fun _ => 0) g)) ((mixF (jnF b d m) (fun _ => 0) g)), 34), (b31, [.bool true, .int .i64 (1), .bool (!decide (s = t)), .int .i64 (4), .bool (decide (8 < (IntKind.i8.wrap (((m : Nat) : Int) + ((r : Nat) : Int))))), .int .i64 (3)], 64), (b4, schV (0) (0) ((fun _ => 0)) ((fun _ => 0)), 34), (b3, schV (t) ((r : Nat) : Int) (c) (d), 34), (b2, schV (s) ((m : Nat) : Int) (a) (b), 34)] ∧ (g ≤ 6)) (fun g => 6 - g) ?_ ?_
      · exact ⟨0, (.cons rfl (.cons rfl (.cons rfl (.cons rfl (.cons rfl (.cons rfl (.nil _))))))), st, (by omega)⟩
      clear st
      rintro k w25 ⟨st, hk⟩
      try dsimp only at st hk ⊢
      refine Wc.seq ?_
      refine Wc.region rfl ?_
      refine Wl.pure (PR.lss (a := ((k : Nat) : Int)) (b := 6) rfl rfl) ?_
      refine Wl.nil ?_
      refine tn ?_
      refine Wc.seq ?_
      refine Wc.condD (p := ((k : Nat) : Int) < 6) rfl (fun h26 => ?_) (fun h26 => ?_)
      · refine Wc.skip ?_
        refine tn ?_
        refine Wc.seq ?_
        refine Wc.block ?_
        refine Wc.seq ?_
        refine Wc.region rfl ?_
        refine Wl.pure (PR.moveI rfl) ?_
        refine Wl.pure (PR.assI rfl) ?_
        refine Wl.nil ?_
        refine tn ?_
        refine Wc.mixed (S := fun i => i == 28 || i == 31) (R := RB b7) [(0, 0), (1, 0), (2, 0), (3, 0), (4, 0), (6, 0), (7, 0), (8, 0), (10, 0), (14, 0), (15, 0), (16, 0), (18, 0), (19, 0), (20, 0), (22, 0), (26, 0), (29, 0), (5, 1), (9, 1), (11, 1), (12, 0), (13, 0), (27, 0), (17, 3), (21, 3), (23, 3), (24, 0), (25, 0), (28, 2), (30, 0), (31, 2)] (RB.refl b7) (RB.trans b7) hmix (by kernel_rfl) (by kernel_rfl) rfl rfl ?_
        intro w27 hbel
        replace st := st.call hbel
        clear hbel
        refine Wm.pure (by decide) rfl (PR.moveI rfl) ?_
        refine Wm.pure (by decide) rfl (PR.moveI rfl) ?_
        refine Wm.pure (by decide) rfl (PR.moveI rfl) ?_
        refine Wm.pure (by decide) rfl (PR.fieldAddr tF_34_2 rfl) ?_
        refine Wm.pure (by decide) rfl (PR.idxAddrA1 (i := k) tE_31 rfl rfl (by omega)) ?_
        refine Wm.pure (by decide) rfl (PR.moveI rfl) ?_
        refine Wm.pure (by decide) rfl (PR.fieldAddr tF_34_2 rfl) ?_
        refine Wm.pure (by decide) rfl (PR.idxAddrA1 (i := k) tE_31 rfl rfl (by omega)) ?_
        refine Wm.pure (by decide) rfl (PR.fieldAddr tF_34_1 rfl) ?_
        refine Wm.pure (by decide) rfl (PR.moveI rfl) ?_
        refine Wm.pure (by decide) rfl (PR.fieldAddr tF_34_3 rfl) ?_
        refine Wm.pure (by decide) rfl (PR.idxAddrA1 (i := k) tE_31 rfl rfl (by omega)) ?_
        refine Wm.pure (by decide) rfl (PR.moveI rfl) ?_
        refine Wm.pure (by decide) rfl (PR.fieldAddr tF_34_3 rfl) ?_
        refine Wm.pure (by decide) rfl (PR.idxAddrA1 (i := k) tE_31 rfl rfl (by omega)) ?_
        refine Wm.pure (by decide) rfl (PR.fieldAddr tF_34_1 rfl) ?_
        refine Wm.pure (by decide) rfl (PR.fieldAddr tF_34_2 rfl) ?_
        refine Wm.pure (by decide) rfl (PR.fieldAddr tF_34_3 rfl) ?_
        refine Wm.load (j := 4) rfl st tA_5 rfl rfl (schV_get_a (by omega)) ?_
        refine Wm.load (j := 3) rfl st tA_5 rfl rfl (schV_get_a (by omega)) ?_
        refine Wm.load (j := 4) rfl st tA_30 rfl rfl (rfl) ?_
        refine Wm.pure (by decide) rfl (PR.shl (a := c (k)) (n := m) rfl rfl (by decide)) ?_
        refine Wm.pure (by decide) rfl (PR.or (a := a (k)) (b := (((c (k)) <<< m) % 256)) rfl rfl (by decide) (ha (k)) (Nat.mod_lt _ (by decide))) ?_
        refine Wm.pure (by decide) rfl (PR.idxAddrA1 (i := k) tE_31 rfl rfl (by omega)) ?_
        refine Wm.loadR (j := 4) (j' := 0) rfl st tA_5 rfl rfl rfl (by decide) (schV_get_b (by omega)) ?_
        refine Wm.loadR (j := 3) (j' := 0) rfl st tA_5 rfl rfl rfl (by decide) (schV_get_b (by omega)) ?_
        refine Wm.loadR (j := 4) (j' := 0) rfl st tA_30 rfl rfl rfl (by decide) (rfl) ?_
        refine Wm.pure (by decide) rfl (PR.shl (a := d (k)) (n := m) rfl rfl (by decide)) ?_
        refine Wm.pure (by decide) rfl (PR.or (a := b (k)) (b := (((d (k)) <<< m) % 256)) rfl rfl (by decide) (hb (k)) (Nat.mod_lt _ (by decide))) ?_
        refine Wm.store (j := 0) (cs' := schV (s) (((m + r) : Nat) : Int) (upd (mixF (jnF a c m) (fun _ => 0) k) (k) (((a (k)) ||| (((c (k)) <<< m) % 256)))) ((mixF (jnF b d m) (fun _ => 0) k))) rfl st (fun _ h => h) tA_5 rfl rfl rfl rfl (lt_of_len schV_len (by omega)) (schV_set_a (by omega)) rfl ?_
        clear st
        intro w28 st
        replace st : St [] w w28 [(b7, schV (s) (((m + r) : Nat) : Int) (upd (mixF (jnF a c m) (fun _ => 0) k) (k) (((a (k)) ||| (((c (k)) <<< m) % 256)))) ((mixF (jnF b d m) (fun _ => 0) k)), 34), (b31, [.bool true, .int .i64 (1), .bool (!decide (s = t)), .int .i64 (4), .bool (decide (8 < (IntKind.i8.wrap (((m : Nat) : Int) + ((r : Nat) : Int))))), .int .i64 (3)], 64), (b4, schV (0) (0) ((fun _ => 0)) ((fun _ => 0)), 34), (b3, schV (t) ((r : Nat) : Int) (c) (d), 34), (b2, schV (s) ((m : Nat) : Int) (a) (b), 34)] := st
        refine Wm.pure (by decide) rfl (PR.idxAddrA1 (i := k) tE_31 rfl rfl (by omega)) ?_
        refine Wm.store (j := 0) (cs' := schV (s) (((m + r) : Nat) : Int) (upd (mixF (jnF a c m) (fun _ => 0) k) (k) (((a (k)) ||| (((c (k)) <<< m) % 256)))) (upd (mixF (jnF b d m) (fun _ => 0) k) (k) (((b (k)) ||| (((d (k)) <<< m) % 256))))) rfl st (fun _ h => h) tA_5 rfl rfl rfl rfl (lt_of_len schV_len (by omega)) (schV_set_b) rfl ?_
        clear st
        intro w29 st
        replace st : St [] w w29 [(b7, schV (s) (((m + r) : Nat) : Int) (upd (mixF (jnF a c m) (fun _ => 0) k) (k) (((a (k)) ||| (((c (k)) <<< m) % 256)))) (upd (mixF (jnF b d m) (fun _ => 0) k) (k) (((b (k)) ||| (((d (k)) <<< m) % 256)))), 34), (b31, [.bool true, .int .i64 (1), .bool (!decide (s = t)), .int .i64 (4), .bool (decide (8 < (IntKind.i8.wrap (((m : Nat) : Int) + ((r : Nat) : Int))))), .int .i64 (3)], 64), (b4, schV (0) (0) ((fun _ => 0)) ((fun _ => 0)), 34), (b3, schV (t) ((r : Nat) : Int) (c) (d), 34), (b2, schV (s) ((m : Nat) : Int) (a) (b), 34)] := st
        refine Wm.nil ?_
        refine bn ?_
        refine tn ?_
        refine Wc.region rfl ?_
        refine Wl.pure (PR.add (a := ((k : Nat) : Int)) (b := 1) rfl rfl (by simp only [fitI]; omega)) ?_
        refine Wl.pure (PR.moveI rfl) ?_
        refine Wl.nil ?_
        refine tn ?_
        rw [jn_upd, jn_upd] at st
        exact ⟨k + 1, (.cons rfl (.cons rfl (.cons rfl (.cons rfl (.cons rfl (.cons rfl (.nil _))))))), ⟨st, (by first | omega | (dsimp only; omega))⟩, (by first | omega | (dsimp only; omega))⟩
      · refine Wc.exit ?_
        refine tx ?_
        refine tx ?_
        refine bh ?_
        refine tn ?_
        refine Wc.seq ?_
        refine Wc.region rfl ?_
        refine Wl.loadA (i := 0) st tA_34 rfl rfl (all_sub schV_len) schV_len ?_
        refine Wl.storeA (i := 2) (cs' := schV (s) (((m + r) : Nat) : Int) ((mixF (jnF a c m) (fun _ => 0) k)) ((mixF (jnF b d m) (fun _ => 0) k))) st tA_34 rfl rfl schV_len schV_one rfl (le_of_len schV_len (by omega)) (all_put schV_len) ?_
        clear st
        intro w30 st
        replace st : St [] w w30 [(b7, schV (s) (((m + r) : Nat) : Int) ((mixF (jnF a c m) (fun _ => 0) k)) ((mixF (jnF b d m) (fun _ => 0) k)), 34), (b31, [.bool true, .int .i64 (1), .bool (!decide (s = t)), .int .i64 (4), .bool (decide (8 < (IntKind.i8.wrap (((m : Nat) : Int) + ((r : Nat) : Int))))), .int .i64 (3)], 64), (b4, schV (s) (((m + r) : Nat) : Int) ((mixF (jnF a c m) (fun _ => 0) k)) ((mixF (jnF b d m) (fun _ => 0) k)), 34), (b3, schV (t) ((r : Nat) : Int) (c) (d), 34), (b2, schV (s) ((m : Nat) : Int) (a) (b), 34)] := st
        refine Wl.pure (PR.assI rfl) ?_
        refine Wl.nil ?_
        refine tn ?_
        refine Wc.ret ?_
        refine postL.many (rvs := [.cell 4 34, .tmp 5]) rfl (.cell (us := schV (s) (((m + r) : Nat) : Int) ((mixF (jnF a c m) (fun _ => 0) k)) ((mixF (jnF b d m) (fun _ => 0) k))) tA_34 rfl schV_len (st.rdA (i := 2) (n := 14) rfl (all_sub schV_len)) (.tmp (v := .int .i64 (0)) rfl .nil)) ?_
        refine RetV.of ?_ st.below
        exact jn_t (by omega) (by omega) (fun j hj => by rw [mix_lo (by omega)]; rfl) (fun j hj => by rw [mix_lo (by omega)]; rfl)

end Go.Proofs.Ytjkicobdokcjfaa
