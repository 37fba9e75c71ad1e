/-
  Contracts of functions, printed by a program of ours.
-/
import Derived.Test.YtdlmbdclbnlmlaaCF2
namespace Go.Proofs.Ytdlmbdclbnlmlaa
open Go.RowKit
set_option linter.unusedVariables false
set_option linter.unusedSimpArgs false

set_option maxHeartbeats 400000 in
set_option maxRecDepth 4000 in
theorem c_spec_SurvivesLoss {s : Int} {p : Int} {a : Nat → Nat} {b : Nat → Nat} {m : Int} {f : Nat} {l : Int} {w : World} (hs : -128 ≤ s ∧ s ≤ 127) (hp : -128 ≤ p ∧ p ≤ 127) (ha : ∀ k, a k < 256) (hb : ∀ k, b k < 256) (hm : -128 ≤ m ∧ m ≤ 127) (hf : f < 18446744073709551616) :
    CE Try.prog 22 [.agg (schV (s) (p) (a) (b)).toArray, .agg ([.int .i8 (m), .int .u64 (((f : Nat) : Int))]).toArray, .int .i64 (l)] w (RetV w (.tuple #[.bool (slV s p a b m f l), .int .i64 (((slC s p a b m f l : Nat) : Int))])) := by
  refine CE.enter 71 [(0, .agg (schV (s) (p) (a) (b)).toArray), (1, .agg ([.int .i8 (m), .int .u64 (((f : Nat) : Int))]).toArray), (2, .int .i64 (l))] en_22 Try.func22 rfl rfl (Nat.le_of_ble_eq_true rfl) rfl ?_
  have st := St.start w
  refine Wc.seq ?_
  refine Wc.region rfl ?_
  refine Wl.boxA st rfl ?_
  clear st
  intro b3 w1 st
  refine Wl.boxA st rfl ?_
  clear st
  intro b4 w2 st
  refine Wl.pure (PR.assB rfl) ?_
  refine Wl.pure (PR.assI rfl) ?_
  refine Wl.nil ?_
  refine tn ?_
  refine Wc.seq ?_
  refine Wc.seq ?_
  refine Wc.region rfl ?_
  refine Wl.callV (c_spec_l02Ok (bk := b3) (o := 0) (s := s) (p := p) (a := a) (b := b) (st.rdA (i := 1) rfl (all_sub schV_len)) (by first | assumption | omega) (by first | assumption | omega) ha hb) rfl ?_
  intro w3 hbel
  replace st := st.call hbel
  clear hbel
  refine Wl.pure (PR.not_ rfl) ?_
  refine Wl.pure (PR.moveB rfl) ?_
  refine Wl.splitB (b := (!(schOk s p a b))) rfl rfl (fun h4 => ?_) (fun h4 => ?_)
  · simp only [Bool.not_eq_true', Bool.not_eq_false', Bool.not_true, Bool.not_false] at h4
    refine Wl.callV (c_spec_l04Ok (bf := b4) (of := 0) (m := m) (f := f) (st.rdA (i := 0) (n := 2) rfl rfl) (by first | assumption | omega) hf) rfl ?_
    intro w5 hbel
    replace st := st.call hbel
    clear hbel
    refine Wl.on rfl rfl ?_
    refine Wl.pure (PR.not_ rfl) ?_
    refine Wl.pure (PR.pickFB rfl rfl) ?_
    refine Wl.nil ?_
    refine tn ?_
    refine Wc.condNB (b := famOk m f) rfl (fun h6 => ?_) (fun h6 => ?_)
    · refine Wc.seq ?_
      refine Wc.region rfl ?_
      refine Wl.pure (PR.assB rfl) ?_
      refine Wl.pure (PR.assI rfl) ?_
      refine Wl.nil ?_
      refine tn ?_
      refine Wc.ret ?_
      refine tr ?_
      refine postL.tmp2 rfl rfl rfl ?_
      refine RetV.of ?_ st.below
      first | exact sl_e (slC_1 (.inl (by assumption))) (by decide) rfl | exact sl_e (slC_1 (.inr (by assumption))) (by decide) rfl
    · refine Wc.skip ?_
      refine tn ?_
      refine Wc.seq ?_
      refine Wc.seq ?_
      have hok1 : schOk s p a b = true := by assumption
      have hok2 : famOk m f = true := by assumption
      obtain ⟨_, hp0, _⟩ := schOk_spec hok1
      refine Wc.region rfl ?_
      refine Wl.pure (PR.moveI rfl) ?_
      refine Wl.pure (PR.fieldAddr tF_31_1 rfl) ?_
      refine Wl.load (i := 1) st tA_22 rfl rfl (rfl) ?_
      refine Wl.pure (PR.conv (n := p) tI_2 rfl (by simp only [fitI]; omega) Try.underlying22) ?_
      refine Wl.pure (PR.sub (a := p) (b := 1) rfl rfl (by simp only [fitI]; omega)) ?_
      refine Wl.callV (c_spec_l00In (n := l) (lo := 0) (hi := (p - 1))) rfl ?_
      intro w7 hbel
      replace st := st.call hbel
      clear hbel
      refine Wl.pure (PR.not_ rfl) ?_
      refine Wl.nil ?_
      refine tn ?_
      refine Wc.condN (p := 0 ≤ l ∧ l ≤ (p - 1)) rfl (fun h8 => ?_) (fun h8 => ?_)
      · refine Wc.seq ?_
        refine Wc.region rfl ?_
        refine Wl.pure (PR.assB rfl) ?_
        refine Wl.pure (PR.assI rfl) ?_
        refine Wl.nil ?_
        refine tn ?_
        refine Wc.ret ?_
        refine tr ?_
        refine postL.tmp2 rfl rfl rfl ?_
        refine RetV.of ?_ st.below
        exact sl_e (slC_2 hok1 hok2 (by omega)) (by decide) rfl
      · refine Wc.skip ?_
        refine tn ?_
        refine Wc.seq ?_
        refine Wc.seq ?_
        have hlr : 0 ≤ l ∧ l ≤ p - 1 := by omega
        have hcs := slC_s hok1 hok2 hlr
        refine Wc.region rfl ?_
        refine Wl.callV (c_spec_l06Served (bk := b3) (o := 0) (s := s) (p := p) (a := a) (b := b) (bf := b4) (of := 0) (m := m) (f := f) (st.rdA (i := 1) rfl (all_sub schV_len)) (by first | assumption | omega) (by first | assumption | omega) ha hb (st.rdA (i := 0) (n := 2) rfl rfl) (by first | assumption | omega) hf) rfl ?_
        intro w9 hbel
        replace st := st.call hbel
        clear hbel
        refine Wl.pure (PR.assI rfl) ?_
        refine Wl.nil ?_
        refine tn ?_
        refine Wc.seq ?_
        refine Wc.region rfl ?_
        refine Wl.pure (PR.moveI rfl) ?_
        refine Wl.pure (PR.neq (a := ((svC s p a b m f : Nat) : Int)) (b := 0) rfl rfl) ?_
        refine Wl.nil ?_
        refine tn ?_
        refine Wc.condN (p := ((svC s p a b m f : Nat) : Int) = 0) rfl (fun h10 => ?_) (fun h10 => ?_)
        · refine Wc.seq ?_
          refine Wc.region rfl ?_
          refine Wl.pure (PR.moveI rfl) ?_
          refine Wl.pure (PR.assB rfl) ?_
          refine Wl.pure (PR.assI rfl) ?_
          refine Wl.nil ?_
          refine tn ?_
          refine Wc.ret ?_
          refine tr ?_
          refine postL.tmp2 rfl rfl rfl ?_
          refine RetV.of ?_ st.below
          exact sl_e hcs (by omega) rfl
        · refine Wc.skip ?_
          refine tn ?_
          refine Wc.seq ?_
          refine Wc.seq ?_
          have hz0 := hcs.trans (show svC s p a b m f = 0 by omega)
          obtain ⟨hs1, hp1, _⟩ := schOk_spec hok1
          have hm6 := fam_spec hok2
          have hpos := fam_pos hok2
          obtain ⟨hrw1, hrw2⟩ := row_pow hok1
          obtain ⟨n, rfl⟩ : ∃ n : Nat, s = ((n : Nat) : Int) := ⟨s.toNat, by omega⟩
          obtain ⟨e_, rfl⟩ : ∃ e_ : Nat, p = ((e_ : Nat) : Int) := ⟨p.toNat, by omega⟩
          have h256 := shl_256 (k := e_) (by omega)
          refine Wc.region rfl ?_
          refine Wl.pure (PR.assI rfl) ?_
          refine Wl.nil ?_
          refine tn ?_
          refine Wc.block ?_
          refine Wc.loopF (γ := Nat) (fun g => [(2, .int .i64 (l)), (3, .pointer (some ⟨b3, 0, none⟩)), (4, .pointer (some ⟨b4, 0, none⟩)), (9, .int .i64 (((g : Nat) : Int)))]) (fun g w_ => St [] w w_ [(b4, [.int .i8 (m), .int .u64 (((f : Nat) : Int))], 33), (b3, schV ((n : Nat) : Int) ((e_ : Nat) : Int) (a) (b), 31)] ∧ (g ≤ 1 <<< e_) ∧ (∀ j, j < g → slE e_ a b l (1 <<< m.toNat) f j = false)) (fun g => 1 <<< e_ - g) ?_ ?_
          · exact ⟨0, (.cons rfl (.cons rfl (.cons rfl (.cons rfl (.nil _))))), st, (Nat.zero_le _), (fun j hj => by omega)⟩
          clear st
          rintro x w11 ⟨st, hx, hg⟩
          try dsimp only at st hx hg ⊢
          refine Wc.seq ?_
          refine Wc.seq ?_
          refine Wc.region rfl ?_
          refine Wl.pure (PR.moveI rfl) ?_
          refine Wl.pure (PR.fieldAddr tF_31_1 rfl) ?_
          refine Wl.load (i := 1) st tA_22 rfl rfl (rfl) ?_
          refine Wl.pure (PR.conv (n := ((e_ : Nat) : Int)) tI_52 rfl (by simp only [fitI]; omega) Try.underlying22) ?_
          refine Wl.pure (PR.shlI (a := 1) (n := e_) rfl rfl (by omega) (sh8 (by omega))) ?_
          refine Wl.pure (PR.lss (a := ((x : Nat) : Int)) (b := (((1 <<< e_) : Nat) : Int)) rfl rfl) ?_
          refine Wl.nil ?_
          refine tn ?_
          refine Wc.condD (p := ((x : Nat) : Int) < (((1 <<< e_) : Nat) : Int)) rfl (fun h12 => ?_) (fun h12 => ?_)
          · refine Wc.skip ?_
            refine tn ?_
            refine Wc.seq ?_
            refine Wc.block ?_
            refine Wc.seq ?_
            refine Wc.seq ?_
            refine Wc.quiet hmix (by kernel_rfl) rfl ?_
            refine Wq.pure (PR.moveI rfl) ?_
            refine Wq.pure (PR.conv (n := ((x : Nat) : Int)) tI_26 rfl (by simp only [fitI]; omega) Try.underlying3) ?_
            refine Wq.callV (fun _ hbel => c_spec_l01Count (x := x) (by first | assumption | omega)) rfl ?_
            refine Wq.pure (PR.fieldAddr tF_31_1 rfl) ?_
            refine Wq.load (i := 1) st tA_22 rfl rfl (rfl) ?_
            refine Wq.pure (PR.conv (n := ((e_ : Nat) : Int)) tI_2 rfl (by simp only [fitI]; omega) Try.underlying22) ?_
            refine Wq.pure (PR.moveI rfl) ?_
            refine Wq.pure (PR.sub (a := ((e_ : Nat) : Int)) (b := l) rfl rfl (by simp only [fitI]; omega)) ?_
            refine Wq.pure (PR.neq (a := ((pc x : Nat) : Int)) (b := (((e_ : Nat) : Int) - l)) rfl rfl) ?_
            refine Wq.nil (fun w13 hbel => ?_)
            replace st := st.call hbel
            clear hbel
            refine tn ?_
            refine Wc.condN (p := ((pc x : Nat) : Int) = (((e_ : Nat) : Int) - l)) rfl (fun h14 => ?_) (fun h14 => ?_)
            · refine Wc.exit ?_
              refine tx ?_
              refine bh ?_
              refine tn ?_
              refine Wc.region rfl ?_
              refine Wl.pure (PR.moveI rfl) ?_
              refine Wl.pure (PR.add (a := ((x : Nat) : Int)) (b := 1) rfl rfl (by simp only [fitI]; omega)) ?_
              refine Wl.pure (PR.assI rfl) ?_
              refine Wl.nil ?_
              refine tn ?_
              exact ⟨x + 1, (.cons rfl (.cons rfl (.cons rfl (.cons rfl (.nil _))))), ⟨st, (by first | omega | (dsimp only; omega)), (all_snoc hg (by first | exact slE_f1 (by omega) | exact slE_f2 (by rw [← hAB]; omega)))⟩, (by first | omega | (dsimp only; omega))⟩
            · refine Wc.skip ?_
              refine tn ?_
              refine Wc.seq ?_
              refine Wc.region rfl ?_
              refine Wl.loadA (i := 1) st tA_31 rfl rfl (all_sub schV_len) schV_len ?_
              refine Wl.alloc st tZ_31 rfl ?_
              clear st
              intro b10 w15 st
              refine Wl.storeA (i := 0) (cs' := schV ((n : Nat) : Int) ((e_ : Nat) : Int) (a) (b)) st tA_31 rfl rfl schV_len schV_one rfl (le_of_len schV_len (by omega)) (all_put schV_len) ?_
              clear st
              intro w16 st
              replace st : St [] w w16 [(b10, schV ((n : Nat) : Int) ((e_ : Nat) : Int) (a) (b), 31), (b4, [.int .i8 (m), .int .u64 (((f : Nat) : Int))], 33), (b3, schV ((n : Nat) : Int) ((e_ : Nat) : Int) (a) (b), 31)] := st
              refine Wl.nil ?_
              refine tn ?_
              refine Wc.seq ?_
              refine Wc.seq ?_
              refine Wc.region rfl ?_
              refine Wl.pure (PR.assI rfl) ?_
              refine Wl.nil ?_
              refine tn ?_
              refine Wc.block ?_
              refine Wc.loopF (γ := Nat × (Nat → Nat) × (Nat → Nat)) (fun g => [(2, .int .i64 (l)), (3, .pointer (some ⟨b3, 0, none⟩)), (4, .pointer (some ⟨b4, 0, none⟩)), (9, .int .i64 (((x : Nat) : Int))), (10, .pointer (some ⟨b10, 0, none⟩)), (11, .int .i64 (((g.1 : Nat) : Int))), (29, .int .i64 (((x : Nat) : Int))), (30, .pointer (some ⟨b3, 1, none⟩)), (31, .int .i8 (((e_ : Nat) : Int))), (32, .int .u64 (((e_ : Nat) : Int))), (33, .int .i64 ((((1 <<< e_) : Nat) : Int))), (34, .bool (decide (((x : Nat) : Int) < (((1 <<< e_) : Nat) : Int)))), (37, .int .i64 (((x : Nat) : Int))), (38, .int .u64 (((x : Nat) : Int))), (39, .int .i64 (((pc x : Nat) : Int))), (40, .pointer (some ⟨b3, 1, none⟩)), (41, .int .i8 (((e_ : Nat) : Int))), (42, .int .i64 (((e_ : Nat) : Int))), (43, .int .i64 (l)), (44, .int .i64 ((((e_ : Nat) : Int) - l))), (45, .bool (!decide (((pc x : Nat) : Int) = (((e_ : Nat) : Int) - l)))), (46, .agg (schV ((n : Nat) : Int) ((e_ : Nat) : Int) (a) (b)).toArray)]) (fun g w_ => St [] w w_ [(b10, schV ((n : Nat) : Int) ((e_ : Nat) : Int) (g.2.1) (g.2.2), 31), (b4, [.int .i8 (m), .int .u64 (((f : Nat) : Int))], 33), (b3, schV ((n : Nat) : Int) ((e_ : Nat) : Int) (a) (b), 31)] ∧ (g.1 ≤ 6) ∧ (∀ r, r < g.1 → g.2.1 r = a r &&& x) ∧ (∀ r, g.1 ≤ r → g.2.1 r = a r) ∧ (∀ r, g.2.1 r < 256) ∧ (∀ r, r < g.1 → g.2.2 r = b r &&& x) ∧ (∀ r, g.1 ≤ r → g.2.2 r = b r) ∧ (∀ r, g.2.2 r < 256)) (fun g => 6 - g.1) ?_ ?_
              · exact ⟨(0, a, b), (.cons rfl (.cons rfl (.cons rfl (.cons rfl (.cons rfl (.cons rfl (.cons rfl (.cons rfl (.cons rfl (.cons rfl (.cons rfl (.cons rfl (.cons rfl (.cons rfl (.cons rfl (.cons rfl (.cons rfl (.cons rfl (.cons rfl (.cons rfl (.cons rfl (.cons rfl (.nil _))))))))))))))))))))))), st, (by first | omega | (dsimp only; omega)), (fun r hr => by omega), (fun _ _ => rfl), ha, (fun r hr => by omega), (fun _ _ => rfl), hb⟩
              clear st
              rintro ⟨k, A, B⟩ w17 ⟨st, hk, hloA, hhiA, hA, hloB, hhiB, hB⟩
              try dsimp only at st hk hloA hhiA hA hloB hhiB hB ⊢
              refine Wc.seq ?_
              refine Wc.seq ?_
              refine Wc.region rfl ?_
              refine Wl.pure (PR.moveI rfl) ?_
              refine Wl.pure (PR.lss (a := ((k : Nat) : Int)) (b := 6) rfl rfl) ?_
              refine Wl.nil ?_
              refine tn ?_
              refine Wc.condD (p := ((k : Nat) : Int) < 6) rfl (fun h18 => ?_) (fun h18 => ?_)
              · refine Wc.skip ?_
                refine tn ?_
                refine Wc.seq ?_
                refine Wc.block ?_
                refine Wc.seq ?_
                have hx8 : x < 256 := by omega
                refine Wc.region rfl ?_
                refine Wl.pure (PR.moveI rfl) ?_
                refine Wl.pure (PR.fieldAddr tF_31_2 rfl) ?_
                refine Wl.pure (PR.idxAddrA1 (i := k) tE_23 rfl rfl (by omega)) ?_
                refine Wl.load (i := 0) st tA_5 rfl rfl (schV_get_a (by omega)) ?_
                refine Wl.pure (PR.moveI rfl) ?_
                refine Wl.pure (PR.conv (n := ((x : Nat) : Int)) tI_5 rfl (by simp only [fitI]; omega) Try.underlying3) ?_
                refine Wl.pure (PR.and (a := A (k)) (b := x) rfl rfl (by decide) (hA (k)) (by first | assumption | omega)) ?_
                refine Wl.pure (PR.fieldAddr tF_31_2 rfl) ?_
                refine Wl.pure (PR.idxAddrA1 (i := k) tE_23 rfl rfl (by omega)) ?_
                refine Wl.store (i := 0) (cs' := schV ((n : Nat) : Int) ((e_ : Nat) : Int) (upd A (k) (((A (k)) &&& x))) (B)) st tA_5 rfl rfl rfl rfl (lt_of_len schV_len (by omega)) (schV_set_a (by omega)) ?_
                clear st
                intro w19 st
                replace st : St [] w w19 [(b10, schV ((n : Nat) : Int) ((e_ : Nat) : Int) (upd A (k) (((A (k)) &&& x))) (B), 31), (b4, [.int .i8 (m), .int .u64 (((f : Nat) : Int))], 33), (b3, schV ((n : Nat) : Int) ((e_ : Nat) : Int) (a) (b), 31)] := st
                refine Wl.nil ?_
                refine tn ?_
                refine Wc.region rfl ?_
                refine Wl.pure (PR.moveI rfl) ?_
                refine Wl.pure (PR.fieldAddr tF_31_3 rfl) ?_
                refine Wl.pure (PR.idxAddrA1 (i := k) tE_23 rfl rfl (by omega)) ?_
                refine Wl.load (i := 0) st tA_5 rfl rfl (schV_get_b (by omega)) ?_
                refine Wl.pure (PR.moveI rfl) ?_
                refine Wl.pure (PR.conv (n := ((x : Nat) : Int)) tI_5 rfl (by simp only [fitI]; omega) Try.underlying3) ?_
                refine Wl.pure (PR.and (a := B (k)) (b := x) rfl rfl (by decide) (hB (k)) (by first | assumption | omega)) ?_
                refine Wl.pure (PR.fieldAddr tF_31_3 rfl) ?_
                refine Wl.pure (PR.idxAddrA1 (i := k) tE_23 rfl rfl (by omega)) ?_
                refine Wl.store (i := 0) (cs' := schV ((n : Nat) : Int) ((e_ : Nat) : Int) (upd A (k) (((A (k)) &&& x))) (upd B (k) (((B (k)) &&& x)))) st tA_5 rfl rfl rfl rfl (lt_of_len schV_len (by omega)) (schV_set_b) ?_
                clear st
                intro w20 st
                replace st : St [] w w20 [(b10, schV ((n : Nat) : Int) ((e_ : Nat) : Int) (upd A (k) (((A (k)) &&& x))) (upd B (k) (((B (k)) &&& x))), 31), (b4, [.int .i8 (m), .int .u64 (((f : Nat) : Int))], 33), (b3, schV ((n : Nat) : Int) ((e_ : Nat) : Int) (a) (b), 31)] := st
                refine Wl.nil ?_
                refine bn ?_
                refine tn ?_
                refine Wc.region rfl ?_
                refine Wl.pure (PR.moveI rfl) ?_
                refine Wl.pure (PR.add (a := ((k : Nat) : Int)) (b := 1) rfl rfl (by simp only [fitI]; omega)) ?_
                refine Wl.pure (PR.assI rfl) ?_
                refine Wl.nil ?_
                refine tn ?_
                exact ⟨(k + 1, upd A (k) (((A (k)) &&& x)), upd B (k) (((B (k)) &&& x))), (.cons rfl (.cons rfl (.cons rfl (.cons rfl (.cons rfl (.cons rfl (.cons rfl (.cons rfl (.cons rfl (.cons rfl (.cons rfl (.cons rfl (.cons rfl (.cons rfl (.cons rfl (.cons rfl (.cons rfl (.cons rfl (.cons rfl (.cons rfl (.cons rfl (.cons rfl (.nil _))))))))))))))))))))))), ⟨st, (by first | omega | (dsimp only; omega)), (upd_snoc hloA (by rw [hhiA k (Nat.le_refl _)])), (upd_hi hhiA), (upd_lt hA (and_lt_l (hA _))), (upd_snoc hloB (by rw [hhiB k (Nat.le_refl _)])), (upd_hi hhiB), (upd_lt hB (and_lt_l (hB _)))⟩, (by first | omega | (dsimp only; omega))⟩
              · refine Wc.exit ?_
                refine tx ?_
                refine tx ?_
                refine bh ?_
                refine tn ?_
                refine Wc.seq ?_
                have hAB := lg_congr (f := f) (fun r hr => hloA r (by omega)) (fun r hr => hloB r (by omega)) (1 <<< m.toNat)
                refine Wc.region rfl ?_
                refine Wl.callV (c_spec_l06Least (bk := b10) (o := 0) (s := n) (p := e_) (a := A) (b := B) (bf := b4) (of := 0) (m := m) (f := f) (st.rdA (i := 0) rfl (all_sub schV_len)) (by first | assumption | omega) hA hB (st.rdA (i := 1) (n := 2) rfl rfl) (by first | assumption | omega) hf (by first | assumption | omega)) rfl ?_
                intro w21 hbel
                replace st := st.call hbel
                clear hbel
                refine Wl.pure (PR.leq (a := lgF A B f (1 <<< (m).toNat)) (b := 0) rfl rfl) ?_
                refine Wl.nil ?_
                refine tn ?_
                refine Wc.condD (p := lgF A B f (1 <<< (m).toNat) ≤ 0) rfl (fun h22 => ?_) (fun h22 => ?_)
                · refine Wc.seq ?_
                  refine Wc.region rfl ?_
                  refine Wl.pure (PR.assB rfl) ?_
                  refine Wl.pure (PR.assI rfl) ?_
                  refine Wl.nil ?_
                  refine tn ?_
                  refine Wc.ret ?_
                  refine br ?_
                  refine tr ?_
                  refine tr ?_
                  refine br ?_
                  refine tr ?_
                  refine postL.tmp2 rfl rfl rfl ?_
                  refine RetV.of ?_ st.below
                  exact sl_f (x := x) hz0 (show x < 1 <<< e_ by omega) (slE_t (by omega) (by rw [← hAB]; omega))
                · refine Wc.skip ?_
                  refine bn ?_
                  refine tn ?_
                  refine Wc.region rfl ?_
                  refine Wl.pure (PR.moveI rfl) ?_
                  refine Wl.pure (PR.add (a := ((x : Nat) : Int)) (b := 1) rfl rfl (by simp only [fitI]; omega)) ?_
                  refine Wl.pure (PR.assI rfl) ?_
                  refine Wl.nil ?_
                  refine tn ?_
                  replace st := st.tail
                  exact ⟨x + 1, (.cons rfl (.cons rfl (.cons rfl (.cons rfl (.nil _))))), ⟨st, (by first | omega | (dsimp only; omega)), (all_snoc hg (by first | exact slE_f1 (by omega) | exact slE_f2 (by rw [← hAB]; omega)))⟩, (by first | omega | (dsimp only; omega))⟩
          · refine Wc.exit ?_
            refine tx ?_
            refine tx ?_
            refine bh ?_
            refine tn ?_
            refine Wc.seq ?_
            refine Wc.region rfl ?_
            refine Wl.pure (PR.assB rfl) ?_
            refine Wl.pure (PR.assI rfl) ?_
            refine Wl.nil ?_
            refine tn ?_
            refine Wc.ret ?_
            refine postL.tmp2 rfl rfl rfl ?_
            refine RetV.of ?_ st.below
            exact sl_t hz0 (fun j hj => hg j (Nat.lt_of_lt_of_le (show j < 1 <<< e_ from hj) (by omega)))
  · simp only [Bool.not_eq_true', Bool.not_eq_false', Bool.not_true, Bool.not_false] at h4
    refine Wl.off rfl rfl rfl ?_
    refine Wl.pure (PR.pickTB rfl rfl) ?_
    refine Wl.nil ?_
    refine tn ?_
    refine Wc.condT rfl ?_
    refine Wc.seq ?_
    refine Wc.region rfl ?_
    refine Wl.pure (PR.assB rfl) ?_
    refine Wl.pure (PR.assI rfl) ?_
    refine Wl.nil ?_
    refine tn ?_
    refine Wc.ret ?_
    refine tr ?_
    refine postL.tmp2 rfl rfl rfl ?_
    refine RetV.of ?_ st.below
    first | exact sl_e (slC_1 (.inl (by assumption))) (by decide) rfl | exact sl_e (slC_1 (.inr (by assumption))) (by decide) rfl

set_option maxHeartbeats 400000 in
set_option maxRecDepth 4000 in
theorem c_laws_FnExactSurvivesLoss {s : Int} {p : Int} {a : Nat → Nat} {b : Nat → Nat} {m : Int} {f : Nat} {l : Int} {w : World} (hs : -128 ≤ s ∧ s ≤ 127) (hp : -128 ≤ p ∧ p ≤ 127) (ha : ∀ k, a k < 256) (hb : ∀ k, b k < 256) (hm : -128 ≤ m ∧ m ≤ 127) (hf : f < 18446744073709551616) :
    CE Try.prog 8 [.agg (schV (s) (p) (a) (b)).toArray, .agg ([.int .i8 (m), .int .u64 (((f : Nat) : Int))]).toArray, .int .i64 (l)] w (RetV w (.bool true)) := by
  refine CE.enter 37 [(0, .agg (schV (s) (p) (a) (b)).toArray), (1, .agg ([.int .i8 (m), .int .u64 (((f : Nat) : Int))]).toArray), (2, .int .i64 (l))] en_8 Try.func8 rfl rfl (Nat.le_of_ble_eq_true rfl) rfl ?_
  have st := St.start w
  refine Wc.seq ?_
  refine Wc.region rfl ?_
  refine Wl.boxA st rfl ?_
  clear st
  intro b3 w1 st
  refine Wl.boxA st rfl ?_
  clear st
  intro b4 w2 st
  refine Wl.pure (PR.assB rfl) ?_
  refine Wl.nil ?_
  refine tn ?_
  refine Wc.seq ?_
  refine Wc.quiet hmix (by kernel_rfl) rfl ?_
  refine Wq.loadA (i := 1) st tA_25 rfl rfl (all_sub schV_len) schV_len ?_
  refine Wq.callV (fun _ hbel => c_laws_toScheme (s := s) (p := p) (a := a) (b := b) ha hb) rfl ?_
  refine Wq.loadA (i := 0) st tA_28 rfl rfl rfl rfl ?_
  refine Wq.callV (fun _ hbel => c_laws_toFamily (m := m) (f := f) (by first | assumption | omega) hf) rfl ?_
  refine Wq.pure (PR.moveI rfl) ?_
  refine Wq.callV (fun _ hbel => c_spec_SurvivesLoss (s := s) (p := p) (a := a) (b := b) (m := m) (f := f) (l := l) (by first | assumption | omega) (by first | assumption | omega) ha hb (by first | assumption | omega) hf) rfl ?_
  refine Wq.pure (PR.moveV (.tuple #[.bool (slV s p a b m f l), .int .i64 (((slC s p a b m f l : Nat) : Int))]) rfl) ?_
  refine Wq.pure (PR.extr (i := 0) (vs := [.bool (slV s p a b m f l), .int .i64 (((slC s p a b m f l : Nat) : Int))]) rfl rfl) ?_
  refine Wq.pure (PR.extr (i := 1) (vs := [.bool (slV s p a b m f l), .int .i64 (((slC s p a b m f l : Nat) : Int))]) rfl rfl) ?_
  refine Wq.pure (PR.assB rfl) ?_
  refine Wq.pure (PR.assI rfl) ?_
  refine Wq.nil (fun w3 hbel => ?_)
  replace st := st.call hbel
  clear hbel
  refine tn ?_
  refine Wc.seq ?_
  refine Wc.quiet hmix (by kernel_rfl) rfl ?_
  refine Wq.loadA (i := 1) st tA_25 rfl rfl (all_sub schV_len) schV_len ?_
  refine Wq.callV (fun _ hbel => c_laws_toScheme (s := s) (p := p) (a := a) (b := b) ha hb) rfl ?_
  refine Wq.loadA (i := 0) st tA_28 rfl rfl rfl rfl ?_
  refine Wq.callV (fun _ hbel => c_laws_toFamily (m := m) (f := f) (by first | assumption | omega) hf) rfl ?_
  refine Wq.pure (PR.moveI rfl) ?_
  refine Wq.callV (fun _ hbel => c_impl_SurvivesLoss (s := s) (p := p) (a := a) (b := b) (m := m) (f := f) (l := l) (by first | assumption | omega) (by first | assumption | omega) ha hb (by first | assumption | omega) hf) rfl ?_
  refine Wq.pure (PR.moveV (.tuple #[.bool (slV s p a b m f l), .int .i64 (((slC s p a b m f l : Nat) : Int))]) rfl) ?_
  refine Wq.pure (PR.extr (i := 0) (vs := [.bool (slV s p a b m f l), .int .i64 (((slC s p a b m f l : Nat) : Int))]) rfl rfl) ?_
  refine Wq.pure (PR.extr (i := 1) (vs := [.bool (slV s p a b m f l), .int .i64 (((slC s p a b m f l : Nat) : Int))]) rfl rfl) ?_
  refine Wq.pure (PR.assB rfl) ?_
  refine Wq.pure (PR.assI rfl) ?_
  refine Wq.nil (fun w4 hbel => ?_)
  replace st := st.call hbel
  clear hbel
  refine tn ?_
  refine Wc.seq ?_
  refine Wc.seq ?_
  refine Wc.region rfl ?_
  refine Wl.pure (PR.moveB rfl) ?_
  refine Wl.pure (PR.moveB rfl) ?_
  refine Wl.pure (PR.neqB (a := (slV s p a b m f l)) (b := (slV s p a b m f l)) Try.underlying4 rfl rfl) ?_
  refine Wl.pure (PR.moveB rfl) ?_
  refine Wl.splitB (b := (!(((slV s p a b m f l) == (slV s p a b m f l))))) rfl rfl (fun h5 => ?_) (fun h5 => ?_)
  · simp only [Bool.not_eq_true', Bool.not_eq_false', Bool.not_true, Bool.not_false] at h5
    refine Wl.pure (PR.moveI rfl) ?_
    refine Wl.on rfl rfl ?_
    refine Wl.pure (PR.moveI rfl) ?_
    refine Wl.on rfl rfl ?_
    refine Wl.pure (PR.neqS (a := ((slC s p a b m f l : Nat) : Int)) rfl rfl) ?_
    refine Wl.pure (PR.pickFB rfl rfl) ?_
    refine Wl.nil ?_
    refine tn ?_
    refine Wc.condF rfl ?_
    refine Wc.skip ?_
    refine tn ?_
    refine Wc.seq ?_
    refine Wc.region rfl ?_
    refine Wl.pure (PR.assB rfl) ?_
    refine Wl.nil ?_
    refine tn ?_
    refine Wc.ret ?_
    refine postL.tmp rfl rfl ?_
    exact RetV.of rfl st.below
  · simp only [Bool.not_eq_true', Bool.not_eq_false', Bool.not_true, Bool.not_false] at h5
    refine Wl.off rfl rfl rfl ?_
    refine Wl.off rfl rfl rfl ?_
    refine Wl.pure (PR.pickTB rfl rfl) ?_
    refine Wl.nil ?_
    refine tn ?_
    refine Wc.condT rfl ?_
    refine Wc.seq ?_
    refine Wc.region rfl ?_
    refine Wl.pure (PR.assB rfl) ?_
    refine Wl.nil ?_
    refine tn ?_
    refine Wc.ret ?_
    refine tr ?_
    refine postL.tmp rfl rfl ?_
    refine RetV.of ?_ st.below
    refine congrArg Value.bool ?_
    first | rfl | (exfalso; omega) | (simp only [*, decide_true, decide_false, Bool.not_true, Bool.not_false]; done) | (simp; omega) | (rw [Bool.eq_iff_iff]; simp; omega) | simp_all

end Go.Proofs.Ytdlmbdclbnlmlaa
