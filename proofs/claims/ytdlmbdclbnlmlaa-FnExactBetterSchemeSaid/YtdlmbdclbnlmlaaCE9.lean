/-
  Contracts of functions, printed by a program of ours.
-/
import Derived.Test.YtdlmbdclbnlmlaaCE8
namespace Go.Proofs.Ytdlmbdclbnlmlaa
open Go.RowKit
set_option linter.unusedVariables false
set_option linter.unusedSimpArgs false

set_option maxHeartbeats 400000 in
set_option maxRecDepth 4000 in
theorem c_spec_BetterScheme {s : Int} {p : Int} {a : Nat → Nat} {b : Nat → Nat} {t : Int} {q : Int} {c : Nat → Nat} {d : Nat → Nat} {m : Int} {f : Nat} {w : World} (hs : -128 ≤ s ∧ s ≤ 127) (hp : -128 ≤ p ∧ p ≤ 127) (ha : ∀ k, a k < 256) (hb : ∀ k, b k < 256) (ht : -128 ≤ t ∧ t ≤ 127) (hq : -128 ≤ q ∧ q ≤ 127) (hc : ∀ k, c k < 256) (hd : ∀ k, d k < 256) (hm : -128 ≤ m ∧ m ≤ 127) (hf : f < 18446744073709551616) :
    CE Try.prog 20 [.agg (schV (s) (p) (a) (b)).toArray, .agg (schV (t) (q) (c) (d)).toArray, .agg ([.int .i8 (m), .int .u64 (((f : Nat) : Int))]).toArray] w (RetV w (.tuple #[.int .i64 (btV (svC s p a b m f) (svC t q c d m f) (cmpZ ((lgF a b f (1 <<< (m).toNat)).tdiv ((Nat.gcd ((lgF a b f (1 <<< (m).toNat)).natAbs) ((p).toNat) : Nat) : Int) * (((((q).toNat) / (Nat.gcd ((lgF c d f (1 <<< (m).toNat)).natAbs) ((q).toNat))) : Nat) : Int)) ((lgF c d f (1 <<< (m).toNat)).tdiv ((Nat.gcd ((lgF c d f (1 <<< (m).toNat)).natAbs) ((q).toNat) : Nat) : Int) * (((((p).toNat) / (Nat.gcd ((lgF a b f (1 <<< (m).toNat)).natAbs) ((p).toNat))) : Nat) : Int))) p q), .int .i64 (((btC (svC s p a b m f) (svC t q c d m f) : Nat) : Int))])) := by
  refine CE.enter 60 [(0, .agg (schV (s) (p) (a) (b)).toArray), (1, .agg (schV (t) (q) (c) (d)).toArray), (2, .agg ([.int .i8 (m), .int .u64 (((f : Nat) : Int))]).toArray)] en_20 Try.func20 rfl rfl (Nat.le_of_ble_eq_true rfl) rfl ?_
  have st := St.start w
  refine Wc.seq ?_
  refine Wc.region rfl ?_
  refine Wl.boxA st rfl ?_
  clear st
  intro b3 w1 st
  refine Wl.boxA st rfl ?_
  clear st
  intro b4 w2 st
  refine Wl.boxA st rfl ?_
  clear st
  intro b5 w3 st
  refine Wl.pure (PR.assI rfl) ?_
  refine Wl.pure (PR.assI rfl) ?_
  refine Wl.nil ?_
  refine tn ?_
  refine Wc.seq ?_
  refine Wc.seq ?_
  refine Wc.region rfl ?_
  refine Wl.callV (c_spec_l02Ok (bk := b3) (o := 0) (s := s) (p := p) (a := a) (b := b) (st.rdA (i := 2) rfl (all_sub schV_len)) (by first | assumption | omega) (by first | assumption | omega) ha hb) rfl ?_
  intro w4 hbel
  replace st := st.call hbel
  clear hbel
  refine Wl.pure (PR.not_ rfl) ?_
  refine Wl.pure (PR.moveB rfl) ?_
  refine Wl.splitB (b := (!(schOk s p a b))) rfl rfl (fun h5 => ?_) (fun h5 => ?_)
  · simp only [Bool.not_eq_true', Bool.not_eq_false', Bool.not_true, Bool.not_false] at h5
    refine Wl.callV (c_spec_l02Ok (bk := b4) (o := 0) (s := t) (p := q) (a := c) (b := d) (st.rdA (i := 1) rfl (all_sub schV_len)) (by first | assumption | omega) (by first | assumption | omega) hc hd) rfl ?_
    intro w6 hbel
    replace st := st.call hbel
    clear hbel
    refine Wl.on rfl rfl ?_
    refine Wl.pure (PR.not_ rfl) ?_
    refine Wl.pure (PR.pickFB rfl rfl) ?_
    refine Wl.pure (PR.moveB rfl) ?_
    refine Wl.splitB (b := (!(schOk t q c d))) rfl rfl (fun h7 => ?_) (fun h7 => ?_)
    · simp only [Bool.not_eq_true', Bool.not_eq_false', Bool.not_true, Bool.not_false] at h7
      refine Wl.callV (c_spec_l04Ok (bf := b5) (of := 0) (m := m) (f := f) (st.rdA (i := 0) (n := 2) rfl rfl) (by first | assumption | omega) hf) rfl ?_
      intro w8 hbel
      replace st := st.call hbel
      clear hbel
      refine Wl.on rfl rfl ?_
      refine Wl.pure (PR.not_ rfl) ?_
      refine Wl.pure (PR.pickFB rfl rfl) ?_
      refine Wl.nil ?_
      refine tn ?_
      refine Wc.condNB (b := famOk m f) rfl (fun h9 => ?_) (fun h9 => ?_)
      · refine Wc.seq ?_
        refine Wc.region rfl ?_
        refine Wl.pure (PR.assI rfl) ?_
        refine Wl.pure (PR.assI rfl) ?_
        refine Wl.nil ?_
        refine tn ?_
        refine Wc.ret ?_
        refine tr ?_
        refine postL.tmp2 rfl rfl rfl ?_
        refine RetV.of ?_ st.below
        first | exact bt_1 (.inl (svC_1 (.inl (by assumption))).symm) | exact bt_1 (.inr (svC_1 (.inl (by assumption))).symm) | exact bt_1 (.inl (svC_1 (.inr (by assumption))).symm)
      · refine Wc.skip ?_
        refine tn ?_
        refine Wc.seq ?_
        have hok1 : schOk s p a b = true := by assumption
        have hok3 : schOk t q c d = true := by assumption
        have hok2 : famOk m f = true := by assumption
        have hc1 := svC_04 hok1 hok2
        have hc2 := svC_04 hok3 hok2
        obtain ⟨_, hp1, _⟩ := schOk_spec hok1
        obtain ⟨_, hq1, _⟩ := schOk_spec hok3
        have hr1 := lrat_bd ha hb f (1 <<< m.toNat) p.toNat (by omega)
        have hr2 := lrat_bd hc hd f (1 <<< m.toNat) q.toNat (by omega)
        refine Wc.region rfl ?_
        refine Wl.loadA (i := 2) st tA_31 rfl rfl (all_sub schV_len) schV_len ?_
        refine Wl.loadA (i := 0) st tA_33 rfl rfl rfl rfl ?_
        refine Wl.callV (c_spec_LeastRatio (s := s) (p := p) (a := a) (b := b) (m := m) (f := f) (by first | assumption | omega) (by first | assumption | omega) ha hb (by first | assumption | omega) hf) rfl ?_
        intro w10 hbel
        replace st := st.call hbel
        clear hbel
        refine Wl.pure (PR.moveV (.tuple #[.agg ([.int .i16 (selZ (svC s p a b m f) ((lgF a b f (1 <<< (m).toNat)).tdiv ((Nat.gcd ((lgF a b f (1 <<< (m).toNat)).natAbs) ((p).toNat) : Nat) : Int))), .int .i16 (((selN (svC s p a b m f) ((((p).toNat) / (Nat.gcd ((lgF a b f (1 <<< (m).toNat)).natAbs) ((p).toNat)))) : Nat) : Int))]).toArray, .int .i64 (((svC s p a b m f : Nat) : Int))]) rfl) ?_
        refine Wl.pure (PR.extr (i := 0) (vs := [.agg ([.int .i16 (selZ (svC s p a b m f) ((lgF a b f (1 <<< (m).toNat)).tdiv ((Nat.gcd ((lgF a b f (1 <<< (m).toNat)).natAbs) ((p).toNat) : Nat) : Int))), .int .i16 (((selN (svC s p a b m f) ((((p).toNat) / (Nat.gcd ((lgF a b f (1 <<< (m).toNat)).natAbs) ((p).toNat)))) : Nat) : Int))]).toArray, .int .i64 (((svC s p a b m f : Nat) : Int))]) rfl rfl) ?_
        refine Wl.pure (PR.extr (i := 1) (vs := [.agg ([.int .i16 (selZ (svC s p a b m f) ((lgF a b f (1 <<< (m).toNat)).tdiv ((Nat.gcd ((lgF a b f (1 <<< (m).toNat)).natAbs) ((p).toNat) : Nat) : Int))), .int .i16 (((selN (svC s p a b m f) ((((p).toNat) / (Nat.gcd ((lgF a b f (1 <<< (m).toNat)).natAbs) ((p).toNat)))) : Nat) : Int))]).toArray, .int .i64 (((svC s p a b m f : Nat) : Int))]) rfl rfl) ?_
        refine Wl.alloc st tZ_38 rfl ?_
        clear st
        intro b8 w11 st
        refine Wl.storeA (i := 0) (cs' := [.int .i16 (selZ (svC s p a b m f) ((lgF a b f (1 <<< (m).toNat)).tdiv ((Nat.gcd ((lgF a b f (1 <<< (m).toNat)).natAbs) ((p).toNat) : Nat) : Int))), .int .i16 (((selN (svC s p a b m f) ((((p).toNat) / (Nat.gcd ((lgF a b f (1 <<< (m).toNat)).natAbs) ((p).toNat)))) : Nat) : Int))]) st tA_38 rfl rfl rfl (by simp [Value.oneCell']) rfl (by simp) (all_put rfl) ?_
        clear st
        intro w12 st
        replace st : St [] w w12 [(b8, [.int .i16 (selZ (svC s p a b m f) ((lgF a b f (1 <<< (m).toNat)).tdiv ((Nat.gcd ((lgF a b f (1 <<< (m).toNat)).natAbs) ((p).toNat) : Nat) : Int))), .int .i16 (((selN (svC s p a b m f) ((((p).toNat) / (Nat.gcd ((lgF a b f (1 <<< (m).toNat)).natAbs) ((p).toNat)))) : Nat) : Int))], 38), (b5, [.int .i8 (m), .int .u64 (((f : Nat) : Int))], 33), (b4, schV (t) (q) (c) (d), 31), (b3, schV (s) (p) (a) (b), 31)] := st
        refine Wl.pure (PR.assI rfl) ?_
        refine Wl.nil ?_
        refine tn ?_
        refine Wc.seq ?_
        refine Wc.seq ?_
        refine Wc.region rfl ?_
        refine Wl.pure (PR.moveI rfl) ?_
        refine Wl.pure (PR.neq (a := ((svC s p a b m f : Nat) : Int)) (b := 0) rfl rfl) ?_
        refine Wl.nil ?_
        refine tn ?_
        refine Wc.condN (p := ((svC s p a b m f : Nat) : Int) = 0) rfl (fun h13 => ?_) (fun h13 => ?_)
        · refine Wc.seq ?_
          refine Wc.region rfl ?_
          refine Wl.pure (PR.moveI rfl) ?_
          refine Wl.pure (PR.assI rfl) ?_
          refine Wl.pure (PR.assI rfl) ?_
          refine Wl.nil ?_
          refine tn ?_
          refine Wc.ret ?_
          refine tr ?_
          refine postL.tmp2 rfl rfl rfl ?_
          refine RetV.of ?_ st.below
          exact bt_4 (by omega) (by omega) (by omega) (by omega)
        · refine Wc.skip ?_
          refine tn ?_
          refine Wc.seq ?_
          refine Wc.region rfl ?_
          refine Wl.loadA (i := 2) st tA_31 rfl rfl (all_sub schV_len) schV_len ?_
          refine Wl.loadA (i := 1) st tA_33 rfl rfl rfl rfl ?_
          refine Wl.callV (c_spec_LeastRatio (s := t) (p := q) (a := c) (b := d) (m := m) (f := f) (by first | assumption | omega) (by first | assumption | omega) hc hd (by first | assumption | omega) hf) rfl ?_
          intro w14 hbel
          replace st := st.call hbel
          clear hbel
          refine Wl.pure (PR.moveV (.tuple #[.agg ([.int .i16 (selZ (svC t q c d m f) ((lgF c d f (1 <<< (m).toNat)).tdiv ((Nat.gcd ((lgF c d f (1 <<< (m).toNat)).natAbs) ((q).toNat) : Nat) : Int))), .int .i16 (((selN (svC t q c d m f) ((((q).toNat) / (Nat.gcd ((lgF c d f (1 <<< (m).toNat)).natAbs) ((q).toNat)))) : Nat) : Int))]).toArray, .int .i64 (((svC t q c d m f : Nat) : Int))]) rfl) ?_
          refine Wl.pure (PR.extr (i := 0) (vs := [.agg ([.int .i16 (selZ (svC t q c d m f) ((lgF c d f (1 <<< (m).toNat)).tdiv ((Nat.gcd ((lgF c d f (1 <<< (m).toNat)).natAbs) ((q).toNat) : Nat) : Int))), .int .i16 (((selN (svC t q c d m f) ((((q).toNat) / (Nat.gcd ((lgF c d f (1 <<< (m).toNat)).natAbs) ((q).toNat)))) : Nat) : Int))]).toArray, .int .i64 (((svC t q c d m f : Nat) : Int))]) rfl rfl) ?_
          refine Wl.pure (PR.extr (i := 1) (vs := [.agg ([.int .i16 (selZ (svC t q c d m f) ((lgF c d f (1 <<< (m).toNat)).tdiv ((Nat.gcd ((lgF c d f (1 <<< (m).toNat)).natAbs) ((q).toNat) : Nat) : Int))), .int .i16 (((selN (svC t q c d m f) ((((q).toNat) / (Nat.gcd ((lgF c d f (1 <<< (m).toNat)).natAbs) ((q).toNat)))) : Nat) : Int))]).toArray, .int .i64 (((svC t q c d m f : Nat) : Int))]) rfl rfl) ?_
          refine Wl.alloc st tZ_38 rfl ?_
          clear st
          intro b10 w15 st
          refine Wl.storeA (i := 0) (cs' := [.int .i16 (selZ (svC t q c d m f) ((lgF c d f (1 <<< (m).toNat)).tdiv ((Nat.gcd ((lgF c d f (1 <<< (m).toNat)).natAbs) ((q).toNat) : Nat) : Int))), .int .i16 (((selN (svC t q c d m f) ((((q).toNat) / (Nat.gcd ((lgF c d f (1 <<< (m).toNat)).natAbs) ((q).toNat)))) : Nat) : Int))]) st tA_38 rfl rfl rfl (by simp [Value.oneCell']) rfl (by simp) (all_put rfl) ?_
          clear st
          intro w16 st
          replace st : St [] w w16 [(b10, [.int .i16 (selZ (svC t q c d m f) ((lgF c d f (1 <<< (m).toNat)).tdiv ((Nat.gcd ((lgF c d f (1 <<< (m).toNat)).natAbs) ((q).toNat) : Nat) : Int))), .int .i16 (((selN (svC t q c d m f) ((((q).toNat) / (Nat.gcd ((lgF c d f (1 <<< (m).toNat)).natAbs) ((q).toNat)))) : Nat) : Int))], 38), (b8, [.int .i16 (selZ (svC s p a b m f) ((lgF a b f (1 <<< (m).toNat)).tdiv ((Nat.gcd ((lgF a b f (1 <<< (m).toNat)).natAbs) ((p).toNat) : Nat) : Int))), .int .i16 (((selN (svC s p a b m f) ((((p).toNat) / (Nat.gcd ((lgF a b f (1 <<< (m).toNat)).natAbs) ((p).toNat)))) : Nat) : Int))], 38), (b5, [.int .i8 (m), .int .u64 (((f : Nat) : Int))], 33), (b4, schV (t) (q) (c) (d), 31), (b3, schV (s) (p) (a) (b), 31)] := st
          refine Wl.pure (PR.assI rfl) ?_
          refine Wl.nil ?_
          refine tn ?_
          refine Wc.seq ?_
          refine Wc.seq ?_
          refine Wc.region rfl ?_
          refine Wl.pure (PR.moveI rfl) ?_
          refine Wl.pure (PR.neq (a := ((svC t q c d m f : Nat) : Int)) (b := 0) rfl rfl) ?_
          refine Wl.nil ?_
          refine tn ?_
          refine Wc.condN (p := ((svC t q c d m f : Nat) : Int) = 0) rfl (fun h17 => ?_) (fun h17 => ?_)
          · refine Wc.seq ?_
            refine Wc.region rfl ?_
            refine Wl.pure (PR.moveI rfl) ?_
            refine Wl.pure (PR.assI rfl) ?_
            refine Wl.pure (PR.assI rfl) ?_
            refine Wl.nil ?_
            refine tn ?_
            refine Wc.ret ?_
            refine tr ?_
            refine postL.tmp2 rfl rfl rfl ?_
            refine RetV.of ?_ st.below
            exact bt_4 (by omega) (by omega) (by omega) (by omega)
          · refine Wc.skip ?_
            refine tn ?_
            refine Wc.seq ?_
            have hz1 : svC s p a b m f = 0 := by omega
            have hz2 : svC t q c d m f = 0 := by omega
            refine Wc.region rfl ?_
            refine Wl.loadA (i := 1) st tA_38 rfl rfl rfl rfl ?_
            refine Wl.loadA (i := 0) st tA_38 rfl rfl rfl rfl ?_
            refine Wl.callV (c_spec_l06Compare (n := selZ (svC s p a b m f) ((lgF a b f (1 <<< (m).toNat)).tdiv ((Nat.gcd ((lgF a b f (1 <<< (m).toNat)).natAbs) ((p).toNat) : Nat) : Int))) (d := ((selN (svC s p a b m f) ((((p).toNat) / (Nat.gcd ((lgF a b f (1 <<< (m).toNat)).natAbs) ((p).toNat)))) : Nat) : Int)) (m := selZ (svC t q c d m f) ((lgF c d f (1 <<< (m).toNat)).tdiv ((Nat.gcd ((lgF c d f (1 <<< (m).toNat)).natAbs) ((q).toNat) : Nat) : Int))) (e := ((selN (svC t q c d m f) ((((q).toNat) / (Nat.gcd ((lgF c d f (1 <<< (m).toNat)).natAbs) ((q).toNat)))) : Nat) : Int)) (by rw [selZ_0 hz1]; exact hr1.1) (by rw [selN_0' hz1]; exact nat_i16 hr1.2) (by rw [selZ_0 hz2]; exact hr2.1) (by rw [selN_0' hz2]; exact nat_i16 hr2.2)) rfl ?_
            intro w18 hbel
            replace st := st.call hbel
            clear hbel
            refine Wl.pure (PR.assI rfl) ?_
            refine Wl.nil ?_
            refine tn ?_
            refine Wc.seq ?_
            refine Wc.block ?_
            refine Wc.seq ?_
            have hzz : (cmpZ ((selZ (svC s p a b m f) ((lgF a b f (1 <<< (m).toNat)).tdiv ((Nat.gcd ((lgF a b f (1 <<< (m).toNat)).natAbs) ((p).toNat) : Nat) : Int))) * ((selN (svC t q c d m f) ((((q).toNat) / (Nat.gcd ((lgF c d f (1 <<< (m).toNat)).natAbs) ((q).toNat)))) : Nat) : Int)) ((selZ (svC t q c d m f) ((lgF c d f (1 <<< (m).toNat)).tdiv ((Nat.gcd ((lgF c d f (1 <<< (m).toNat)).natAbs) ((q).toNat) : Nat) : Int))) * ((selN (svC s p a b m f) ((((p).toNat) / (Nat.gcd ((lgF a b f (1 <<< (m).toNat)).natAbs) ((p).toNat)))) : Nat) : Int))) = cmpZ ((lgF a b f (1 <<< (m).toNat)).tdiv ((Nat.gcd ((lgF a b f (1 <<< (m).toNat)).natAbs) ((p).toNat) : Nat) : Int) * (((((q).toNat) / (Nat.gcd ((lgF c d f (1 <<< (m).toNat)).natAbs) ((q).toNat))) : Nat) : Int)) ((lgF c d f (1 <<< (m).toNat)).tdiv ((Nat.gcd ((lgF c d f (1 <<< (m).toNat)).natAbs) ((q).toNat) : Nat) : Int) * (((((p).toNat) / (Nat.gcd ((lgF a b f (1 <<< (m).toNat)).natAbs) ((p).toNat))) : Nat) : Int)) := by rw [selZ_0 hz1, selZ_0 hz2, selN_0' hz1, selN_0' hz2]
            refine Wc.region rfl ?_
            refine Wl.pure (PR.moveI rfl) ?_
            refine Wl.pure (PR.neq (a := (cmpZ ((selZ (svC s p a b m f) ((lgF a b f (1 <<< (m).toNat)).tdiv ((Nat.gcd ((lgF a b f (1 <<< (m).toNat)).natAbs) ((p).toNat) : Nat) : Int))) * ((selN (svC t q c d m f) ((((q).toNat) / (Nat.gcd ((lgF c d f (1 <<< (m).toNat)).natAbs) ((q).toNat)))) : Nat) : Int)) ((selZ (svC t q c d m f) ((lgF c d f (1 <<< (m).toNat)).tdiv ((Nat.gcd ((lgF c d f (1 <<< (m).toNat)).natAbs) ((q).toNat) : Nat) : Int))) * ((selN (svC s p a b m f) ((((p).toNat) / (Nat.gcd ((lgF a b f (1 <<< (m).toNat)).natAbs) ((p).toNat)))) : Nat) : Int)))) (b := 0) rfl rfl) ?_
            refine Wl.pure (PR.assB rfl) ?_
            refine Wl.nil ?_
            refine tn ?_
            refine Wc.condN (p := (cmpZ ((selZ (svC s p a b m f) ((lgF a b f (1 <<< (m).toNat)).tdiv ((Nat.gcd ((lgF a b f (1 <<< (m).toNat)).natAbs) ((p).toNat) : Nat) : Int))) * ((selN (svC t q c d m f) ((((q).toNat) / (Nat.gcd ((lgF c d f (1 <<< (m).toNat)).natAbs) ((q).toNat)))) : Nat) : Int)) ((selZ (svC t q c d m f) ((lgF c d f (1 <<< (m).toNat)).tdiv ((Nat.gcd ((lgF c d f (1 <<< (m).toNat)).natAbs) ((q).toNat) : Nat) : Int))) * ((selN (svC s p a b m f) ((((p).toNat) / (Nat.gcd ((lgF a b f (1 <<< (m).toNat)).natAbs) ((p).toNat)))) : Nat) : Int))) = 0) rfl (fun h19 => ?_) (fun h19 => ?_)
            · refine Wc.seq ?_
              refine Wc.region rfl ?_
              refine Wl.pure (PR.moveI rfl) ?_
              refine Wl.pure (PR.assI rfl) ?_
              refine Wl.pure (PR.assI rfl) ?_
              refine Wl.nil ?_
              refine tn ?_
              refine Wc.ret ?_
              refine br ?_
              refine tr ?_
              refine postL.tmp2 rfl rfl rfl ?_
              refine RetV.of ?_ st.below
              exact bt_0 hz1 hz2 (bt_s1 hzz (by assumption))
            · refine Wc.seq ?_
              refine Wc.region rfl ?_
              refine Wl.pure (PR.fieldAddr tF_31_1 rfl) ?_
              refine Wl.load (i := 4) st tA_22 rfl rfl (rfl) ?_
              refine Wl.pure (PR.fieldAddr tF_31_1 rfl) ?_
              refine Wl.load (i := 3) st tA_22 rfl rfl (rfl) ?_
              refine Wl.pure (PR.lss (a := p) (b := q) rfl rfl) ?_
              refine Wl.pure (PR.assB rfl) ?_
              refine Wl.nil ?_
              refine tn ?_
              refine Wc.condD (p := p < q) rfl (fun h20 => ?_) (fun h20 => ?_)
              · refine Wc.seq ?_
                refine Wc.region rfl ?_
                refine Wl.pure (PR.assI rfl) ?_
                refine Wl.pure (PR.assI rfl) ?_
                refine Wl.nil ?_
                refine tn ?_
                refine Wc.ret ?_
                refine br ?_
                refine tr ?_
                refine postL.tmp2 rfl rfl rfl ?_
                refine RetV.of ?_ st.below
                exact bt_0 hz1 hz2 (bt_s2 hzz (by omega) (cmpZ_gt (by omega)))
              · refine Wc.seq ?_
                refine Wc.region rfl ?_
                refine Wl.pure (PR.fieldAddr tF_31_1 rfl) ?_
                refine Wl.load (i := 4) st tA_22 rfl rfl (rfl) ?_
                refine Wl.pure (PR.fieldAddr tF_31_1 rfl) ?_
                refine Wl.load (i := 3) st tA_22 rfl rfl (rfl) ?_
                refine Wl.pure (PR.gtr (a := p) (b := q) rfl rfl) ?_
                refine Wl.pure (PR.assB rfl) ?_
                refine Wl.nil ?_
                refine tn ?_
                refine Wc.condD (p := q < p) rfl (fun h21 => ?_) (fun h21 => ?_)
                · refine Wc.seq ?_
                  refine Wc.region rfl ?_
                  refine Wl.pure (PR.assI rfl) ?_
                  refine Wl.pure (PR.assI rfl) ?_
                  refine Wl.nil ?_
                  refine tn ?_
                  refine Wc.ret ?_
                  refine br ?_
                  refine tr ?_
                  refine postL.tmp2 rfl rfl rfl ?_
                  refine RetV.of ?_ st.below
                  exact bt_0 hz1 hz2 (bt_s2 hzz (by omega) (cmpZ_lt (by omega)))
                · refine Wc.skip ?_
                  refine bn ?_
                  refine tn ?_
                  refine Wc.seq ?_
                  refine Wc.region rfl ?_
                  refine Wl.pure (PR.assI rfl) ?_
                  refine Wl.pure (PR.assI rfl) ?_
                  refine Wl.nil ?_
                  refine tn ?_
                  refine Wc.ret ?_
                  refine postL.tmp2 rfl rfl rfl ?_
                  refine RetV.of ?_ st.below
                  exact bt_0 hz1 hz2 (bt_s2 hzz (by omega) (cmpZ_eq (by omega) (by omega)))
    · simp only [Bool.not_eq_true', Bool.not_eq_false', Bool.not_true, Bool.not_false] at h7
      refine Wl.off rfl rfl rfl ?_
      refine Wl.pure (PR.pickTB rfl rfl) ?_
      refine Wl.nil ?_
      refine tn ?_
      refine Wc.condT rfl ?_
      refine Wc.seq ?_
      refine Wc.region rfl ?_
      refine Wl.pure (PR.assI rfl) ?_
      refine Wl.pure (PR.assI rfl) ?_
      refine Wl.nil ?_
      refine tn ?_
      refine Wc.ret ?_
      refine tr ?_
      refine postL.tmp2 rfl rfl rfl ?_
      refine RetV.of ?_ st.below
      first | exact bt_1 (.inl (svC_1 (.inl (by assumption))).symm) | exact bt_1 (.inr (svC_1 (.inl (by assumption))).symm) | exact bt_1 (.inl (svC_1 (.inr (by assumption))).symm)
  · simp only [Bool.not_eq_true', Bool.not_eq_false', Bool.not_true, Bool.not_false] at h5
    refine Wl.off rfl rfl rfl ?_
    refine Wl.pure (PR.pickTB rfl rfl) ?_
    refine Wl.pure (PR.moveB rfl) ?_
    refine Wl.off rfl rfl rfl ?_
    refine Wl.off rfl rfl rfl ?_
    refine Wl.pure (PR.pickTB rfl rfl) ?_
    refine Wl.nil ?_
    refine tn ?_
    refine Wc.condT rfl ?_
    refine Wc.seq ?_
    refine Wc.region rfl ?_
    refine Wl.pure (PR.assI rfl) ?_
    refine Wl.pure (PR.assI rfl) ?_
    refine Wl.nil ?_
    refine tn ?_
    refine Wc.ret ?_
    refine tr ?_
    refine postL.tmp2 rfl rfl rfl ?_
    refine RetV.of ?_ st.below
    first | exact bt_1 (.inl (svC_1 (.inl (by assumption))).symm) | exact bt_1 (.inr (svC_1 (.inl (by assumption))).symm) | exact bt_1 (.inl (svC_1 (.inr (by assumption))).symm)

set_option maxHeartbeats 400000 in
set_option maxRecDepth 4000 in
theorem c_laws_FnExactBetterScheme {s : Int} {p : Int} {a : Nat → Nat} {b : Nat → Nat} {t : Int} {q : Int} {c : Nat → Nat} {d : Nat → Nat} {m : Int} {f : Nat} {w : World} (hs : -128 ≤ s ∧ s ≤ 127) (hp : -128 ≤ p ∧ p ≤ 127) (ha : ∀ k, a k < 256) (hb : ∀ k, b k < 256) (ht : -128 ≤ t ∧ t ≤ 127) (hq : -128 ≤ q ∧ q ≤ 127) (hc : ∀ k, c k < 256) (hd : ∀ k, d k < 256) (hm : -128 ≤ m ∧ m ≤ 127) (hf : f < 18446744073709551616) :
    CE Try.prog 7 [.agg (schV (s) (p) (a) (b)).toArray, .agg (schV (t) (q) (c) (d)).toArray, .agg ([.int .i8 (m), .int .u64 (((f : Nat) : Int))]).toArray] w (RetV w (.bool true)) := by
  refine CE.enter 39 [(0, .agg (schV (s) (p) (a) (b)).toArray), (1, .agg (schV (t) (q) (c) (d)).toArray), (2, .agg ([.int .i8 (m), .int .u64 (((f : Nat) : Int))]).toArray)] en_7 Try.func7 rfl rfl (Nat.le_of_ble_eq_true rfl) rfl ?_
  have st := St.start w
  refine Wc.seq ?_
  refine Wc.region rfl ?_
  refine Wl.boxA st rfl ?_
  clear st
  intro b3 w1 st
  refine Wl.boxA st rfl ?_
  clear st
  intro b4 w2 st
  refine Wl.boxA st rfl ?_
  clear st
  intro b5 w3 st
  refine Wl.pure (PR.assB rfl) ?_
  refine Wl.nil ?_
  refine tn ?_
  refine Wc.seq ?_
  refine Wc.quiet hmix (by kernel_rfl) rfl ?_
  refine Wq.loadA (i := 2) st tA_25 rfl rfl (all_sub schV_len) schV_len ?_
  refine Wq.callV (fun _ hbel => c_laws_toScheme (s := s) (p := p) (a := a) (b := b) ha hb) rfl ?_
  refine Wq.loadA (i := 1) st tA_25 rfl rfl (all_sub schV_len) schV_len ?_
  refine Wq.callV (fun _ hbel => c_laws_toScheme (s := t) (p := q) (a := c) (b := d) hc hd) rfl ?_
  refine Wq.loadA (i := 0) st tA_28 rfl rfl rfl rfl ?_
  refine Wq.callV (fun _ hbel => c_laws_toFamily (m := m) (f := f) (by first | assumption | omega) hf) rfl ?_
  refine Wq.callV (fun _ hbel => c_spec_BetterScheme (s := s) (p := p) (a := a) (b := b) (t := t) (q := q) (c := c) (d := d) (m := m) (f := f) (by first | assumption | omega) (by first | assumption | omega) ha hb (by first | assumption | omega) (by first | assumption | omega) hc hd (by first | assumption | omega) hf) rfl ?_
  refine Wq.pure (PR.moveV (.tuple #[.int .i64 (btV (svC s p a b m f) (svC t q c d m f) (cmpZ ((lgF a b f (1 <<< (m).toNat)).tdiv ((Nat.gcd ((lgF a b f (1 <<< (m).toNat)).natAbs) ((p).toNat) : Nat) : Int) * (((((q).toNat) / (Nat.gcd ((lgF c d f (1 <<< (m).toNat)).natAbs) ((q).toNat))) : Nat) : Int)) ((lgF c d f (1 <<< (m).toNat)).tdiv ((Nat.gcd ((lgF c d f (1 <<< (m).toNat)).natAbs) ((q).toNat) : Nat) : Int) * (((((p).toNat) / (Nat.gcd ((lgF a b f (1 <<< (m).toNat)).natAbs) ((p).toNat))) : Nat) : Int))) p q), .int .i64 (((btC (svC s p a b m f) (svC t q c d m f) : Nat) : Int))]) rfl) ?_
  refine Wq.pure (PR.extr (i := 0) (vs := [.int .i64 (btV (svC s p a b m f) (svC t q c d m f) (cmpZ ((lgF a b f (1 <<< (m).toNat)).tdiv ((Nat.gcd ((lgF a b f (1 <<< (m).toNat)).natAbs) ((p).toNat) : Nat) : Int) * (((((q).toNat) / (Nat.gcd ((lgF c d f (1 <<< (m).toNat)).natAbs) ((q).toNat))) : Nat) : Int)) ((lgF c d f (1 <<< (m).toNat)).tdiv ((Nat.gcd ((lgF c d f (1 <<< (m).toNat)).natAbs) ((q).toNat) : Nat) : Int) * (((((p).toNat) / (Nat.gcd ((lgF a b f (1 <<< (m).toNat)).natAbs) ((p).toNat))) : Nat) : Int))) p q), .int .i64 (((btC (svC s p a b m f) (svC t q c d m f) : Nat) : Int))]) rfl rfl) ?_
  refine Wq.pure (PR.extr (i := 1) (vs := [.int .i64 (btV (svC s p a b m f) (svC t q c d m f) (cmpZ ((lgF a b f (1 <<< (m).toNat)).tdiv ((Nat.gcd ((lgF a b f (1 <<< (m).toNat)).natAbs) ((p).toNat) : Nat) : Int) * (((((q).toNat) / (Nat.gcd ((lgF c d f (1 <<< (m).toNat)).natAbs) ((q).toNat))) : Nat) : Int)) ((lgF c d f (1 <<< (m).toNat)).tdiv ((Nat.gcd ((lgF c d f (1 <<< (m).toNat)).natAbs) ((q).toNat) : Nat) : Int) * (((((p).toNat) / (Nat.gcd ((lgF a b f (1 <<< (m).toNat)).natAbs) ((p).toNat))) : Nat) : Int))) p q), .int .i64 (((btC (svC s p a b m f) (svC t q c d m f) : Nat) : Int))]) rfl rfl) ?_
  refine Wq.pure (PR.assI rfl) ?_
  refine Wq.pure (PR.assI rfl) ?_
  refine Wq.nil (fun w4 hbel => ?_)
  replace st := st.call hbel
  clear hbel
  refine tn ?_
  refine Wc.seq ?_
  refine Wc.quiet hmix (by kernel_rfl) rfl ?_
  refine Wq.loadA (i := 2) st tA_25 rfl rfl (all_sub schV_len) schV_len ?_
  refine Wq.callV (fun _ hbel => c_laws_toScheme (s := s) (p := p) (a := a) (b := b) ha hb) rfl ?_
  refine Wq.loadA (i := 1) st tA_25 rfl rfl (all_sub schV_len) schV_len ?_
  refine Wq.callV (fun _ hbel => c_laws_toScheme (s := t) (p := q) (a := c) (b := d) hc hd) rfl ?_
  refine Wq.loadA (i := 0) st tA_28 rfl rfl rfl rfl ?_
  refine Wq.callV (fun _ hbel => c_laws_toFamily (m := m) (f := f) (by first | assumption | omega) hf) rfl ?_
  refine Wq.callV (fun _ hbel => c_impl_BetterScheme (s := s) (p := p) (a := a) (b := b) (t := t) (q := q) (c := c) (d := d) (m := m) (f := f) (by first | assumption | omega) (by first | assumption | omega) ha hb (by first | assumption | omega) (by first | assumption | omega) hc hd (by first | assumption | omega) hf) rfl ?_
  refine Wq.pure (PR.moveV (.tuple #[.int .i64 (btV (svC s p a b m f) (svC t q c d m f) (cmpZ ((lgF a b f (1 <<< (m).toNat)).tdiv ((Nat.gcd ((lgF a b f (1 <<< (m).toNat)).natAbs) ((p).toNat) : Nat) : Int) * (((((q).toNat) / (Nat.gcd ((lgF c d f (1 <<< (m).toNat)).natAbs) ((q).toNat))) : Nat) : Int)) ((lgF c d f (1 <<< (m).toNat)).tdiv ((Nat.gcd ((lgF c d f (1 <<< (m).toNat)).natAbs) ((q).toNat) : Nat) : Int) * (((((p).toNat) / (Nat.gcd ((lgF a b f (1 <<< (m).toNat)).natAbs) ((p).toNat))) : Nat) : Int))) p q), .int .i64 (((btC (svC s p a b m f) (svC t q c d m f) : Nat) : Int))]) rfl) ?_
  refine Wq.pure (PR.extr (i := 0) (vs := [.int .i64 (btV (svC s p a b m f) (svC t q c d m f) (cmpZ ((lgF a b f (1 <<< (m).toNat)).tdiv ((Nat.gcd ((lgF a b f (1 <<< (m).toNat)).natAbs) ((p).toNat) : Nat) : Int) * (((((q).toNat) / (Nat.gcd ((lgF c d f (1 <<< (m).toNat)).natAbs) ((q).toNat))) : Nat) : Int)) ((lgF c d f (1 <<< (m).toNat)).tdiv ((Nat.gcd ((lgF c d f (1 <<< (m).toNat)).natAbs) ((q).toNat) : Nat) : Int) * (((((p).toNat) / (Nat.gcd ((lgF a b f (1 <<< (m).toNat)).natAbs) ((p).toNat))) : Nat) : Int))) p q), .int .i64 (((btC (svC s p a b m f) (svC t q c d m f) : Nat) : Int))]) rfl rfl) ?_
  refine Wq.pure (PR.extr (i := 1) (vs := [.int .i64 (btV (svC s p a b m f) (svC t q c d m f) (cmpZ ((lgF a b f (1 <<< (m).toNat)).tdiv ((Nat.gcd ((lgF a b f (1 <<< (m).toNat)).natAbs) ((p).toNat) : Nat) : Int) * (((((q).toNat) / (Nat.gcd ((lgF c d f (1 <<< (m).toNat)).natAbs) ((q).toNat))) : Nat) : Int)) ((lgF c d f (1 <<< (m).toNat)).tdiv ((Nat.gcd ((lgF c d f (1 <<< (m).toNat)).natAbs) ((q).toNat) : Nat) : Int) * (((((p).toNat) / (Nat.gcd ((lgF a b f (1 <<< (m).toNat)).natAbs) ((p).toNat))) : Nat) : Int))) p q), .int .i64 (((btC (svC s p a b m f) (svC t q c d m f) : Nat) : Int))]) rfl rfl) ?_
  refine Wq.pure (PR.assI rfl) ?_
  refine Wq.pure (PR.assI rfl) ?_
  refine Wq.nil (fun w5 hbel => ?_)
  replace st := st.call hbel
  clear hbel
  refine tn ?_
  refine Wc.seq ?_
  refine Wc.seq ?_
  refine Wc.region rfl ?_
  refine Wl.pure (PR.moveI rfl) ?_
  refine Wl.pure (PR.moveI rfl) ?_
  refine Wl.pure (PR.neqS (a := btV (svC s p a b m f) (svC t q c d m f) (cmpZ ((lgF a b f (1 <<< (m).toNat)).tdiv ((Nat.gcd ((lgF a b f (1 <<< (m).toNat)).natAbs) ((p).toNat) : Nat) : Int) * (((((q).toNat) / (Nat.gcd ((lgF c d f (1 <<< (m).toNat)).natAbs) ((q).toNat))) : Nat) : Int)) ((lgF c d f (1 <<< (m).toNat)).tdiv ((Nat.gcd ((lgF c d f (1 <<< (m).toNat)).natAbs) ((q).toNat) : Nat) : Int) * (((((p).toNat) / (Nat.gcd ((lgF a b f (1 <<< (m).toNat)).natAbs) ((p).toNat))) : Nat) : Int))) p q) rfl rfl) ?_
  refine Wl.pure (PR.moveB rfl) ?_
  refine Wl.on rfl rfl ?_
  refine Wl.pure (PR.moveI rfl) ?_
  refine Wl.on rfl rfl ?_
  refine Wl.pure (PR.moveI rfl) ?_
  refine Wl.on rfl rfl ?_
  refine Wl.pure (PR.neqS (a := ((btC (svC s p a b m f) (svC t q c d m f) : Nat) : Int)) rfl rfl) ?_
  refine Wl.pure (PR.pickFB rfl rfl) ?_
  refine Wl.nil ?_
  refine tn ?_
  refine Wc.condF rfl ?_
  refine Wc.skip ?_
  refine tn ?_
  refine Wc.seq ?_
  refine Wc.region rfl ?_
  refine Wl.pure (PR.assB rfl) ?_
  refine Wl.nil ?_
  refine tn ?_
  refine Wc.ret ?_
  refine postL.tmp rfl rfl ?_
  exact RetV.of rfl st.below

end Go.Proofs.Ytdlmbdclbnlmlaa
