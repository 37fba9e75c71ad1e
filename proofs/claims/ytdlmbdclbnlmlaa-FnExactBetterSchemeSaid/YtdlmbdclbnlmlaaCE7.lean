/-
  Contracts of functions, printed by a program of ours.
-/
import Derived.Test.YtdlmbdclbnlmlaaCE6
namespace Go.Proofs.Ytdlmbdclbnlmlaa
open Go.RowKit
set_option linter.unusedVariables false
set_option linter.unusedSimpArgs false

set_option maxHeartbeats 400000 in
set_option maxRecDepth 4000 in
theorem c_impl_MeanGap {s : Int} {p : Int} {a : Nat → Nat} {b : Nat → Nat} {m : Int} {f : Nat} {w : World} (hs : -128 ≤ s ∧ s ≤ 127) (hp : -128 ≤ p ∧ p ≤ 127) (ha : ∀ k, a k < 256) (hb : ∀ k, b k < 256) (hm : -128 ≤ m ∧ m ≤ 127) (hf : f < 18446744073709551616) :
    CE Try.prog 16 [.agg (schV (s) (p) (a) (b)).toArray, .agg ([.int .i8 (m), .int .u64 (((f : Nat) : Int))]).toArray] w (RetV w (.tuple #[.agg ([.int .i16 (selZ (svC s p a b m f) ((smF a b f (1 <<< (m).toNat)).tdiv ((Nat.gcd ((smF a b f (1 <<< (m).toNat)).natAbs) (flN (bitB f) (1 <<< (m).toNat)) : Nat) : Int))), .int .i16 (((selN (svC s p a b m f) (((flN (bitB f) (1 <<< (m).toNat)) / (Nat.gcd ((smF a b f (1 <<< (m).toNat)).natAbs) (flN (bitB f) (1 <<< (m).toNat))))) : Nat) : Int))]).toArray, .int .i64 (((svC s p a b m f : Nat) : Int))])) := by
  refine CE.enter 35 [(0, .agg (schV (s) (p) (a) (b)).toArray), (1, .agg ([.int .i8 (m), .int .u64 (((f : Nat) : Int))]).toArray)] en_16 Try.func16 rfl rfl (Nat.le_of_ble_eq_true rfl) rfl ?_
  have st := St.start w
  refine Wc.seq ?_
  refine Wc.region rfl ?_
  refine Wl.boxA st rfl ?_
  clear st
  intro b2 w1 st
  refine Wl.boxA st rfl ?_
  clear st
  intro b3 w2 st
  refine Wl.alloc st tZ_38 rfl ?_
  clear st
  intro b4 w3 st
  refine Wl.pure (PR.assI rfl) ?_
  refine Wl.nil ?_
  refine tn ?_
  refine Wc.seq ?_
  refine Wc.seq ?_
  refine Wc.region rfl ?_
  refine Wl.loadA (i := 2) st tA_31 rfl rfl (all_sub schV_len) schV_len ?_
  refine Wl.loadA (i := 1) st tA_33 rfl rfl rfl rfl ?_
  refine Wl.callV (c_impl_servesCode (s := s) (p := p) (a := a) (b := b) (m := m) (f := f) (by first | assumption | omega) (by first | assumption | omega) ha hb (by first | assumption | omega) hf) rfl ?_
  intro w4 hbel
  replace st := st.call hbel
  clear hbel
  refine Wl.pure (PR.assI rfl) ?_
  refine Wl.nil ?_
  refine tn ?_
  refine Wc.seq ?_
  refine Wc.region rfl ?_
  refine Wl.pure (PR.moveI rfl) ?_
  refine Wl.pure (PR.neq (a := ((svC s p a b m f : Nat) : Int)) (b := 0) rfl rfl) ?_
  refine Wl.nil ?_
  refine tn ?_
  refine Wc.condN (p := ((svC s p a b m f : Nat) : Int) = 0) rfl (fun h5 => ?_) (fun h5 => ?_)
  · refine Wc.seq ?_
    refine Wc.region rfl ?_
    refine Wl.pure (PR.build (ps := []) (cs := [.int .i16 (0), .int .i16 (0)]) tB_38 rfl rfl) ?_
    refine Wl.pure (PR.moveI rfl) ?_
    refine Wl.storeA (i := 0) (cs' := [.int .i16 (0), .int .i16 (0)]) st tA_38 rfl rfl rfl (by simp [Value.oneCell']) rfl (by simp) (all_put rfl) ?_
    clear st
    intro w6 st
    replace st : St [] w w6 [(b4, [.int .i16 (0), .int .i16 (0)], 38), (b3, [.int .i8 (m), .int .u64 (((f : Nat) : Int))], 33), (b2, schV (s) (p) (a) (b), 31)] := st
    refine Wl.pure (PR.assI rfl) ?_
    refine Wl.nil ?_
    refine tn ?_
    refine Wc.ret ?_
    refine tr ?_
    refine postL.many (rvs := [.cell 4 38, .tmp 5]) rfl (.cell (us := [.int .i16 (0), .int .i16 (0)]) tA_38 rfl rfl (st.rdA (i := 0) (n := 2) rfl rfl) (.tmp (v := .int .i64 (((svC s p a b m f : Nat) : Int))) rfl .nil)) ?_
    refine RetV.of ?_ st.below
    exact rat_f (by omega) rfl
  · refine Wc.skip ?_
    refine tn ?_
    refine Wc.seq ?_
    obtain ⟨hok1, hok2, hsm, hfz⟩ := svC_spec (s := s) (p := p) (a := a) (b := b) (m := m) (f := f) (by omega)
    obtain ⟨hs1, hp1, _⟩ := schOk_spec hok1
    have hm6 := fam_spec hok2
    have hpos := fam_pos hok2
    obtain ⟨n, rfl⟩ : ∃ n : Nat, s = ((n : Nat) : Int) := ⟨s.toNat, by omega⟩
    obtain ⟨e_, rfl⟩ : ∃ e_ : Nat, p = ((e_ : Nat) : Int) := ⟨p.toNat, by omega⟩
    have hsb := sm_bd (f := f) ha hb (1 <<< m.toNat)
    have hsz := shl_bd (m := m.toNat) (by omega)
    have hfl := flN_le (bitB f) (1 <<< m.toNat)
    refine Wc.region rfl ?_
    refine Wl.loadA (i := 2) st tA_31 rfl rfl (all_sub schV_len) schV_len ?_
    refine Wl.loadA (i := 1) st tA_33 rfl rfl rfl rfl ?_
    refine Wl.callXG [] st (c_impl_gaps (s := n) (p := e_) (a := a) (b := b) (m := m) (f := f) (by first | assumption | omega) ha hb (by first | assumption | omega) hf (by first | assumption | omega)) rfl rfl ?_
    clear st
    intro b20 c20 sp20 w7 hc20 hs20 st
    replace st : St [] w w7 [(b20, arrZ .i64 (flN (bitB f) (1 <<< (m).toNat)) (fun j => gapZ a b (flA (bitB f) (1 <<< (m).toNat) j)) ++ sp20, 2), (b4, [.int .i16 (0), .int .i16 (0)], 38), (b3, [.int .i8 (m), .int .u64 (((f : Nat) : Int))], 33), (b2, schV ((n : Nat) : Int) ((e_ : Nat) : Int) (a) (b), 31)] := st
    refine Wl.pure (PR.assI rfl) ?_
    refine Wl.pure (PR.assL rfl) ?_
    refine Wl.nil ?_
    refine tn ?_
    refine Wc.seq ?_
    refine Wc.seq ?_
    refine Wc.region rfl ?_
    refine Wl.pure (PR.moveL rfl) ?_
    refine Wl.pure (PR.lenL tS_57 rfl) ?_
    refine Wl.pure (PR.moveI rfl) ?_
    refine Wl.nil ?_
    refine tn ?_
    refine Wc.block ?_
    refine Wc.loopF (γ := Nat × Int) (fun g => [(4, .pointer (some ⟨b4, 0, none⟩)), (5, .int .i64 (0)), (7, .int .i64 (g.2)), (8, .slice (some ⟨b20, 0, none⟩) ((flN (bitB f) (1 <<< (m).toNat))) (c20)), (21, .slice (some ⟨b20, 0, none⟩) ((flN (bitB f) (1 <<< (m).toNat))) (c20)), (22, .int .i64 ((((flN (bitB f) (1 <<< (m).toNat)) : Nat) : Int))), (23, .int .i64 (((g.1 : Nat) : Int)))]) (fun g w_ => St [] w w_ [(b20, arrZ .i64 (flN (bitB f) (1 <<< (m).toNat)) (fun j => gapZ a b (flA (bitB f) (1 <<< (m).toNat) j)) ++ sp20, 2), (b4, [.int .i16 (0), .int .i16 (0)], 38), (b3, [.int .i8 (m), .int .u64 (((f : Nat) : Int))], 33), (b2, schV ((n : Nat) : Int) ((e_ : Nat) : Int) (a) (b), 31)] ∧ (g.1 ≤ flN (bitB f) (1 <<< m.toNat)) ∧ (g.2 = smZ (fun j => gapZ a b (flA (bitB f) (1 <<< m.toNat) j)) g.1)) (fun g => flN (bitB f) (1 <<< m.toNat) - g.1) ?_ ?_
    · exact ⟨(0, 0), (.cons rfl (.cons rfl (.cons rfl (.cons rfl (.cons rfl (.cons rfl (.cons rfl (.nil _)))))))), st, (by first | omega | (dsimp only; omega)), rfl⟩
    clear st
    rintro ⟨k, v⟩ w8 ⟨st, hk, hv⟩
    try dsimp only at st hk hv ⊢
    refine Wc.seq ?_
    refine Wc.region rfl ?_
    refine Wl.pure (PR.lss (a := ((k : Nat) : Int)) (b := (((flN (bitB f) (1 <<< (m).toNat)) : Nat) : Int)) rfl rfl) ?_
    refine Wl.nil ?_
    refine tn ?_
    refine Wc.seq ?_
    refine Wc.condD (p := ((k : Nat) : Int) < (((flN (bitB f) (1 <<< (m).toNat)) : Nat) : Int)) rfl (fun h9 => ?_) (fun h9 => ?_)
    · refine Wc.skip ?_
      refine tn ?_
      refine Wc.seq ?_
      refine Wc.block ?_
      refine Wc.seq ?_
      refine Wc.region rfl ?_
      refine Wl.pure (PR.idxAddrS1 (i := k) tS_57 rfl rfl (by omega)) ?_
      refine Wl.load (i := 0) st tA_2 rfl rfl (app_get (arrZ_get0 (by omega))) ?_
      refine Wl.pure (PR.assI rfl) ?_
      refine Wl.nil ?_
      refine tn ?_
      have hgk := gapZ_bd ha hb (flA (bitB f) (1 <<< m.toNat) k)
      have hsk := smZ_bd (c := (fun j => gapZ a b (flA (bitB f) (1 <<< m.toNat) j))) (fun j => gapZ_bd ha hb _) k
      refine Wc.region rfl ?_
      refine Wl.pure (PR.moveI rfl) ?_
      refine Wl.pure (PR.moveI rfl) ?_
      refine Wl.pure (PR.add (a := v) (b := (gapZ a b (flA (bitB f) (1 <<< (m).toNat) k))) rfl rfl (by simp only [fitI]; omega)) ?_
      refine Wl.pure (PR.assI rfl) ?_
      refine Wl.nil ?_
      refine bn ?_
      refine tn ?_
      refine Wc.region rfl ?_
      refine Wl.pure (PR.add (a := ((k : Nat) : Int)) (b := 1) rfl rfl (by simp only [fitI]; omega)) ?_
      refine Wl.pure (PR.moveI rfl) ?_
      refine Wl.nil ?_
      refine tn ?_
      exact ⟨(k + 1, (v + (gapZ a b (flA (bitB f) (1 <<< (m).toNat) k)))), (.cons rfl (.cons rfl (.cons rfl (.cons rfl (.cons rfl (.cons rfl (.cons rfl (.nil _)))))))), ⟨st, (by first | omega | (dsimp only; omega)), (by rw [hv]; rfl)⟩, (by first | omega | (dsimp only; omega))⟩
    · refine Wc.exit ?_
      refine tx ?_
      refine tx ?_
      refine bh ?_
      refine tn ?_
      refine Wc.seq ?_
      obtain rfl : k = flN (bitB f) (1 <<< m.toNat) := by omega
      rw [sm_eq] at hv
      subst hv
      refine Wc.region rfl ?_
      refine Wl.pure (PR.moveI rfl) ?_
      refine Wl.pure (PR.moveL rfl) ?_
      refine Wl.pure (PR.lenL tS_57 rfl) ?_
      refine Wl.callV (c_impl_ratioOf (n := smF a b f (1 <<< m.toNat)) (d := (flN (bitB f) (1 <<< (m).toNat))) (by first | assumption | omega) (by first | assumption | omega)) rfl ?_
      intro w10 hbel
      replace st := st.call hbel
      clear hbel
      refine Wl.storeA (i := 1) (cs' := [.int .i16 ((smF a b f (1 <<< m.toNat)).tdiv ((Nat.gcd ((smF a b f (1 <<< m.toNat)).natAbs) (flN (bitB f) (1 <<< (m).toNat)) : Nat) : Int)), .int .i16 (((((flN (bitB f) (1 <<< (m).toNat)) / (Nat.gcd ((smF a b f (1 <<< m.toNat)).natAbs) (flN (bitB f) (1 <<< (m).toNat)))) : Nat) : Int))]) st tA_38 rfl rfl rfl (by simp [Value.oneCell']) rfl (by simp) (all_put rfl) ?_
      clear st
      intro w11 st
      replace st : St [] w w11 [(b20, arrZ .i64 (flN (bitB f) (1 <<< (m).toNat)) (fun j => gapZ a b (flA (bitB f) (1 <<< (m).toNat) j)) ++ sp20, 2), (b4, [.int .i16 ((smF a b f (1 <<< m.toNat)).tdiv ((Nat.gcd ((smF a b f (1 <<< m.toNat)).natAbs) (flN (bitB f) (1 <<< (m).toNat)) : Nat) : Int)), .int .i16 (((((flN (bitB f) (1 <<< (m).toNat)) / (Nat.gcd ((smF a b f (1 <<< m.toNat)).natAbs) (flN (bitB f) (1 <<< (m).toNat)))) : Nat) : Int))], 38), (b3, [.int .i8 (m), .int .u64 (((f : Nat) : Int))], 33), (b2, schV ((n : Nat) : Int) ((e_ : Nat) : Int) (a) (b), 31)] := st
      refine Wl.pure (PR.assI rfl) ?_
      refine Wl.nil ?_
      refine tn ?_
      refine Wc.ret ?_
      refine postL.many (rvs := [.cell 4 38, .tmp 5]) rfl (.cell (us := [.int .i16 ((smF a b f (1 <<< m.toNat)).tdiv ((Nat.gcd ((smF a b f (1 <<< m.toNat)).natAbs) (flN (bitB f) (1 <<< (m).toNat)) : Nat) : Int)), .int .i16 (((((flN (bitB f) (1 <<< (m).toNat)) / (Nat.gcd ((smF a b f (1 <<< m.toNat)).natAbs) (flN (bitB f) (1 <<< (m).toNat)))) : Nat) : Int))]) tA_38 rfl rfl (st.rdA (i := 1) (n := 2) rfl rfl) (.tmp (v := .int .i64 (0)) rfl .nil)) ?_
      refine RetV.of ?_ st.below
      exact rat_t (by omega)

set_option maxHeartbeats 400000 in
set_option maxRecDepth 4000 in
theorem c_spec_MeanGap {s : Int} {p : Int} {a : Nat → Nat} {b : Nat → Nat} {m : Int} {f : Nat} {w : World} (hs : -128 ≤ s ∧ s ≤ 127) (hp : -128 ≤ p ∧ p ≤ 127) (ha : ∀ k, a k < 256) (hb : ∀ k, b k < 256) (hm : -128 ≤ m ∧ m ≤ 127) (hf : f < 18446744073709551616) :
    CE Try.prog 15 [.agg (schV (s) (p) (a) (b)).toArray, .agg ([.int .i8 (m), .int .u64 (((f : Nat) : Int))]).toArray] w (RetV w (.tuple #[.agg ([.int .i16 (selZ (svC s p a b m f) ((smF a b f (1 <<< (m).toNat)).tdiv ((Nat.gcd ((smF a b f (1 <<< (m).toNat)).natAbs) (flN (bitB f) (1 <<< (m).toNat)) : Nat) : Int))), .int .i16 (((selN (svC s p a b m f) (((flN (bitB f) (1 <<< (m).toNat)) / (Nat.gcd ((smF a b f (1 <<< (m).toNat)).natAbs) (flN (bitB f) (1 <<< (m).toNat))))) : Nat) : Int))]).toArray, .int .i64 (((svC s p a b m f : Nat) : Int))])) := by
  refine CE.enter 34 [(0, .agg (schV (s) (p) (a) (b)).toArray), (1, .agg ([.int .i8 (m), .int .u64 (((f : Nat) : Int))]).toArray)] en_15 Try.func15 rfl rfl (Nat.le_of_ble_eq_true rfl) rfl ?_
  have st := St.start w
  refine Wc.seq ?_
  refine Wc.region rfl ?_
  refine Wl.boxA st rfl ?_
  clear st
  intro b2 w1 st
  refine Wl.boxA st rfl ?_
  clear st
  intro b3 w2 st
  refine Wl.alloc st tZ_38 rfl ?_
  clear st
  intro b4 w3 st
  refine Wl.pure (PR.assI rfl) ?_
  refine Wl.nil ?_
  refine tn ?_
  refine Wc.seq ?_
  refine Wc.seq ?_
  refine Wc.region rfl ?_
  refine Wl.callV (c_spec_l06Served (bk := b2) (o := 0) (s := s) (p := p) (a := a) (b := b) (bf := b3) (of := 0) (m := m) (f := f) (st.rdA (i := 2) rfl (all_sub schV_len)) (by first | assumption | omega) (by first | assumption | omega) ha hb (st.rdA (i := 1) (n := 2) rfl rfl) (by first | assumption | omega) hf) rfl ?_
  intro w4 hbel
  replace st := st.call hbel
  clear hbel
  refine Wl.pure (PR.assI rfl) ?_
  refine Wl.nil ?_
  refine tn ?_
  refine Wc.seq ?_
  refine Wc.region rfl ?_
  refine Wl.pure (PR.moveI rfl) ?_
  refine Wl.pure (PR.neq (a := ((svC s p a b m f : Nat) : Int)) (b := 0) rfl rfl) ?_
  refine Wl.nil ?_
  refine tn ?_
  refine Wc.condN (p := ((svC s p a b m f : Nat) : Int) = 0) rfl (fun h5 => ?_) (fun h5 => ?_)
  · refine Wc.seq ?_
    refine Wc.region rfl ?_
    refine Wl.pure (PR.build (ps := []) (cs := [.int .i16 (0), .int .i16 (0)]) tB_38 rfl rfl) ?_
    refine Wl.pure (PR.moveI rfl) ?_
    refine Wl.storeA (i := 0) (cs' := [.int .i16 (0), .int .i16 (0)]) st tA_38 rfl rfl rfl (by simp [Value.oneCell']) rfl (by simp) (all_put rfl) ?_
    clear st
    intro w6 st
    replace st : St [] w w6 [(b4, [.int .i16 (0), .int .i16 (0)], 38), (b3, [.int .i8 (m), .int .u64 (((f : Nat) : Int))], 33), (b2, schV (s) (p) (a) (b), 31)] := st
    refine Wl.pure (PR.assI rfl) ?_
    refine Wl.nil ?_
    refine tn ?_
    refine Wc.ret ?_
    refine tr ?_
    refine postL.many (rvs := [.cell 4 38, .tmp 5]) rfl (.cell (us := [.int .i16 (0), .int .i16 (0)]) tA_38 rfl rfl (st.rdA (i := 0) (n := 2) rfl rfl) (.tmp (v := .int .i64 (((svC s p a b m f : Nat) : Int))) rfl .nil)) ?_
    refine RetV.of ?_ st.below
    exact rat_f (by omega) rfl
  · refine Wc.skip ?_
    refine tn ?_
    refine Wc.seq ?_
    obtain ⟨hok1, hok2, hsm, hfz⟩ := svC_spec (s := s) (p := p) (a := a) (b := b) (m := m) (f := f) (by omega)
    obtain ⟨hs1, hp1, _⟩ := schOk_spec hok1
    have hm6 := fam_spec hok2
    have hpos := fam_pos hok2
    obtain ⟨n, rfl⟩ : ∃ n : Nat, s = ((n : Nat) : Int) := ⟨s.toNat, by omega⟩
    obtain ⟨e_, rfl⟩ : ∃ e_ : Nat, p = ((e_ : Nat) : Int) := ⟨p.toNat, by omega⟩
    obtain ⟨h_, rfl⟩ : ∃ h_ : Nat, m = ((h_ : Nat) : Int) := ⟨m.toNat, by omega⟩
    have hsb := sm_bd (f := f) ha hb (1 <<< h_)
    have hsz := shl_bd (m := h_) (by omega)
    have hfl := flN_le (bitB f) (1 <<< h_)
    have hpc : pc f = flN (bitB f) (1 <<< h_) := fam_pc hok2 hf
    have hpos : 0 < flN (bitB f) (1 <<< h_) := hpos
    refine Wc.region rfl ?_
    refine Wl.pure (PR.assI rfl) ?_
    refine Wl.nil ?_
    refine tn ?_
    refine Wc.seq ?_
    refine Wc.seq ?_
    refine Wc.region rfl ?_
    refine Wl.pure (PR.assI rfl) ?_
    refine Wl.nil ?_
    refine tn ?_
    refine Wc.block ?_
    refine Wc.loopF (γ := Nat × Int) (fun g => [(2, .pointer (some ⟨b2, 0, none⟩)), (3, .pointer (some ⟨b3, 0, none⟩)), (4, .pointer (some ⟨b4, 0, none⟩)), (5, .int .i64 (0)), (7, .int .i64 (g.2)), (8, .int .i64 (((g.1 : Nat) : Int)))]) (fun g w_ => St [] w w_ [(b4, [.int .i16 (0), .int .i16 (0)], 38), (b3, [.int .i8 (((h_ : Nat) : Int)), .int .u64 (((f : Nat) : Int))], 33), (b2, schV ((n : Nat) : Int) ((e_ : Nat) : Int) (a) (b), 31)] ∧ (g.1 ≤ 1 <<< h_) ∧ (g.2 = smF a b f g.1)) (fun g => 1 <<< h_ - g.1) ?_ ?_
    · exact ⟨(0, 0), (.cons rfl (.cons rfl (.cons rfl (.cons rfl (.cons rfl (.cons rfl (.nil _))))))), st, (by first | omega | (dsimp only; omega)), rfl⟩
    clear st
    rintro ⟨x, v⟩ w7 ⟨st, hx, hv⟩
    try dsimp only at st hx hv ⊢
    refine Wc.seq ?_
    refine Wc.seq ?_
    refine Wc.region rfl ?_
    refine Wl.pure (PR.moveI rfl) ?_
    refine Wl.pure (PR.fieldAddr tF_33_0 rfl) ?_
    refine Wl.load (i := 1) st tA_22 rfl rfl (rfl) ?_
    refine Wl.pure (PR.conv (n := ((h_ : Nat) : Int)) tI_52 rfl (by simp only [fitI]; omega) Try.underlying22) ?_
    refine Wl.pure (PR.shlI (a := 1) (n := h_) rfl rfl (by omega) (sh62 (by omega))) ?_
    refine Wl.pure (PR.lss (a := ((x : Nat) : Int)) (b := (((1 <<< h_) : Nat) : Int)) rfl rfl) ?_
    refine Wl.nil ?_
    refine tn ?_
    refine Wc.condD (p := ((x : Nat) : Int) < (((1 <<< h_) : Nat) : Int)) rfl (fun h8 => ?_) (fun h8 => ?_)
    · refine Wc.skip ?_
      refine tn ?_
      refine Wc.seq ?_
      refine Wc.block ?_
      refine Wc.seq ?_
      refine Wc.region rfl ?_
      refine Wl.pure (PR.moveI rfl) ?_
      refine Wl.callV (c_spec_l04Has (bf := b3) (of := 0) (m := ((h_ : Nat) : Int)) (f := f) (x := x) (st.rdA (i := 1) (n := 2) rfl rfl) (by first | assumption | omega) hf (by first | assumption | omega)) rfl ?_
      intro w9 hbel
      replace st := st.call hbel
      clear hbel
      refine Wl.nil ?_
      refine tn ?_
      refine Wc.condB (b := bitB f x) rfl (fun h10 => ?_) (fun h10 => ?_)
      · have hgk := gapZ_bd ha hb x
        have hsk := sm_bd (f := f) ha hb x
        refine Wc.region rfl ?_
        refine Wl.pure (PR.moveI rfl) ?_
        refine Wl.pure (PR.moveI rfl) ?_
        refine Wl.pure (PR.conv (n := ((x : Nat) : Int)) tI_5 rfl (by simp only [fitI]; omega) Try.underlying3) ?_
        refine Wl.callV (c_spec_l02Gap (bk := b2) (o := 0) (s := ((n : Nat) : Int)) (p := ((e_ : Nat) : Int)) (a := a) (b := b) (x := x) (st.rdA (i := 2) rfl (all_sub schV_len)) ha hb (by first | assumption | omega)) rfl ?_
        intro w11 hbel
        replace st := st.call hbel
        clear hbel
        refine Wl.pure (PR.add (a := v) (b := gapZ a b x) rfl rfl (by simp only [fitI]; omega)) ?_
        refine Wl.pure (PR.assI rfl) ?_
        refine Wl.nil ?_
        refine bn ?_
        refine tn ?_
        refine Wc.region rfl ?_
        refine Wl.pure (PR.moveI rfl) ?_
        refine Wl.pure (PR.add (a := ((x : Nat) : Int)) (b := 1) rfl rfl (by simp only [fitI]; omega)) ?_
        refine Wl.pure (PR.assI rfl) ?_
        refine Wl.nil ?_
        refine tn ?_
        exact ⟨(x + 1, (v + (gapZ a b x))), (.cons rfl (.cons rfl (.cons rfl (.cons rfl (.cons rfl (.cons rfl (.nil _))))))), ⟨st, (by first | omega | (dsimp only; omega)), (by first | exact sm_t hv (by assumption) | exact sm_f hv (by assumption))⟩, (by first | omega | (dsimp only; omega))⟩
      · refine Wc.skip ?_
        refine bn ?_
        refine tn ?_
        refine Wc.region rfl ?_
        refine Wl.pure (PR.moveI rfl) ?_
        refine Wl.pure (PR.add (a := ((x : Nat) : Int)) (b := 1) rfl rfl (by simp only [fitI]; omega)) ?_
        refine Wl.pure (PR.assI rfl) ?_
        refine Wl.nil ?_
        refine tn ?_
        exact ⟨(x + 1, v), (.cons rfl (.cons rfl (.cons rfl (.cons rfl (.cons rfl (.cons rfl (.nil _))))))), ⟨st, (by first | omega | (dsimp only; omega)), (by first | exact sm_t hv (by assumption) | exact sm_f hv (by assumption))⟩, (by first | omega | (dsimp only; omega))⟩
    · refine Wc.exit ?_
      refine tx ?_
      refine tx ?_
      refine bh ?_
      refine tn ?_
      refine Wc.seq ?_
      obtain rfl : x = 1 <<< h_ := by omega
      subst hv
      refine Wc.region rfl ?_
      refine Wl.pure (PR.moveI rfl) ?_
      refine Wl.pure (PR.fieldAddr tF_33_1 rfl) ?_
      refine Wl.load (i := 1) st tA_26 rfl rfl (rfl) ?_
      refine Wl.callV (c_spec_l01Count (x := f) hf) rfl ?_
      intro w12 hbel
      replace st := st.call hbel
      clear hbel
      rw [hpc]
      refine Wl.callV (c_spec_l06Ratio (n := smF a b f (1 <<< h_)) (d := flN (bitB f) (1 <<< h_)) (by first | assumption | omega) (by first | assumption | omega)) rfl ?_
      intro w13 hbel
      replace st := st.call hbel
      clear hbel
      refine Wl.storeA (i := 0) (cs' := [.int .i16 ((smF a b f (1 <<< h_)).tdiv ((Nat.gcd ((smF a b f (1 <<< h_)).natAbs) (flN (bitB f) (1 <<< h_)) : Nat) : Int)), .int .i16 (((((flN (bitB f) (1 <<< h_)) / (Nat.gcd ((smF a b f (1 <<< h_)).natAbs) (flN (bitB f) (1 <<< h_)))) : Nat) : Int))]) st tA_38 rfl rfl rfl (by simp [Value.oneCell']) rfl (by simp) (all_put rfl) ?_
      clear st
      intro w14 st
      replace st : St [] w w14 [(b4, [.int .i16 ((smF a b f (1 <<< h_)).tdiv ((Nat.gcd ((smF a b f (1 <<< h_)).natAbs) (flN (bitB f) (1 <<< h_)) : Nat) : Int)), .int .i16 (((((flN (bitB f) (1 <<< h_)) / (Nat.gcd ((smF a b f (1 <<< h_)).natAbs) (flN (bitB f) (1 <<< h_)))) : Nat) : Int))], 38), (b3, [.int .i8 (((h_ : Nat) : Int)), .int .u64 (((f : Nat) : Int))], 33), (b2, schV ((n : Nat) : Int) ((e_ : Nat) : Int) (a) (b), 31)] := st
      refine Wl.pure (PR.assI rfl) ?_
      refine Wl.nil ?_
      refine tn ?_
      refine Wc.ret ?_
      refine postL.many (rvs := [.cell 4 38, .tmp 5]) rfl (.cell (us := [.int .i16 ((smF a b f (1 <<< h_)).tdiv ((Nat.gcd ((smF a b f (1 <<< h_)).natAbs) (flN (bitB f) (1 <<< h_)) : Nat) : Int)), .int .i16 (((((flN (bitB f) (1 <<< h_)) / (Nat.gcd ((smF a b f (1 <<< h_)).natAbs) (flN (bitB f) (1 <<< h_)))) : Nat) : Int))]) tA_38 rfl rfl (st.rdA (i := 0) (n := 2) rfl rfl) (.tmp (v := .int .i64 (0)) rfl .nil)) ?_
      refine RetV.of ?_ st.below
      exact rat_t (by omega)

set_option maxHeartbeats 400000 in
set_option maxRecDepth 4000 in
theorem c_laws_FnExactMeanGap {s : Int} {p : Int} {a : Nat → Nat} {b : Nat → Nat} {m : Int} {f : Nat} {w : World} (hs : -128 ≤ s ∧ s ≤ 127) (hp : -128 ≤ p ∧ p ≤ 127) (ha : ∀ k, a k < 256) (hb : ∀ k, b k < 256) (hm : -128 ≤ m ∧ m ≤ 127) (hf : f < 18446744073709551616) :
    CE Try.prog 5 [.agg (schV (s) (p) (a) (b)).toArray, .agg ([.int .i8 (m), .int .u64 (((f : Nat) : Int))]).toArray] w (RetV w (.bool true)) := by
  refine CE.enter 34 [(0, .agg (schV (s) (p) (a) (b)).toArray), (1, .agg ([.int .i8 (m), .int .u64 (((f : Nat) : Int))]).toArray)] en_5 Try.func5 rfl rfl (Nat.le_of_ble_eq_true rfl) rfl ?_
  have st := St.start w
  refine Wc.seq ?_
  refine Wc.region rfl ?_
  refine Wl.boxA st rfl ?_
  clear st
  intro b2 w1 st
  refine Wl.boxA st rfl ?_
  clear st
  intro b3 w2 st
  refine Wl.pure (PR.assB rfl) ?_
  refine Wl.nil ?_
  refine tn ?_
  refine Wc.seq ?_
  refine Wc.tree (γ := Nat) (w0 := w) (X := []) (Ks := [b2, b3]) (S := fun i => i == 1 || i == 3 || i == 4 || i == 8 || i == 9) (fun g => [(2, .pointer (some ⟨b2, 0, none⟩)), (3, .pointer (some ⟨b3, 0, none⟩)), (4, .bool false), (5, .pointer (some ⟨g, 0, none⟩)), (6, .int .i64 (((svC s p a b m f : Nat) : Int)))]) (fun g w_ => St [] w w_ [(g, [.int .i16 (selZ (svC s p a b m f) ((smF a b f (1 <<< (m).toNat)).tdiv ((Nat.gcd ((smF a b f (1 <<< (m).toNat)).natAbs) (flN (bitB f) (1 <<< (m).toNat)) : Nat) : Int))), .int .i16 (((selN (svC s p a b m f) (((flN (bitB f) (1 <<< (m).toNat)) / (Nat.gcd ((smF a b f (1 <<< (m).toNat)).natAbs) (flN (bitB f) (1 <<< (m).toNat))))) : Nat) : Int))], 38), (b3, [.int .i8 (m), .int .u64 (((f : Nat) : Int))], 28), (b2, schV (s) (p) (a) (b), 25)]) (.st 0 3 (.st 2 3 (.alt 8 (.st 1 2 (.st 3 2 (.st 4 2 (.st 5 0 (.st 6 0 (.st 7 0 (.st 9 2 (.st 10 0 PT.nil)))))))) (.st 1 2 (.alt 8 (.st 3 2 (.st 4 2 (.st 5 0 (.st 6 0 (.st 7 0 (.st 9 2 (.st 10 0 PT.nil))))))) (.st 3 2 (.alt 8 (.st 4 2 (.st 5 0 (.st 6 0 (.st 7 0 (.st 9 2 (.st 10 0 PT.nil)))))) (.st 4 2 (.st 5 0 (.st 6 0 (.st 7 0 (.st 8 2 (.st 9 2 (.st 10 0 PT.nil)))))))))))))) hmix (by kernel_rfl) (by kernel_rfl) rfl rfl ?_ ?_
  · intro w3 hbel
    replace st := st.call hbel
    clear hbel
    refine WT.loadA (j := 1) rfl (by simp) st tA_25 rfl rfl (all_sub schV_len) schV_len ?_
    refine WT.loadA (j := 0) rfl (by simp) st tA_28 rfl rfl rfl rfl ?_
    refine WT.alt ?_ ?_
    · have st0 := st
      refine WT.s rfl rfl ?_
      refine Wl.alloc st tZ_38 rfl ?_
      clear st
      intro b5 w4 st
      refine Wl.nil ⟨rfl, RK.of st0 st (ksC (i := 1) (j := 2) rfl rfl rfl (ksC (i := 0) (j := 1) rfl rfl rfl ksN)), ?_⟩
      clear st0
      have st0 := st
      refine WT.s rfl rfl ?_
      refine Wl.callV (c_laws_toScheme (s := s) (p := p) (a := a) (b := b) ha hb) rfl ?_
      intro w5 hbel
      replace st := st.call hbel
      clear hbel
      refine Wl.nil ⟨rfl, RK.of st0 st (ksC (i := 2) (j := 2) rfl rfl rfl (ksC (i := 1) (j := 1) rfl rfl rfl ksN)), ?_⟩
      clear st0
      have st0 := st
      refine WT.s rfl rfl ?_
      refine Wl.callV (c_laws_toFamily (m := m) (f := f) (by first | assumption | omega) hf) rfl ?_
      intro w6 hbel
      replace st := st.call hbel
      clear hbel
      refine Wl.nil ⟨rfl, RK.of st0 st (ksC (i := 2) (j := 2) rfl rfl rfl (ksC (i := 1) (j := 1) rfl rfl rfl ksN)), ?_⟩
      clear st0
      have st0 := st
      refine WT.s rfl rfl ?_
      refine Wl.callV (c_spec_MeanGap (s := s) (p := p) (a := a) (b := b) (m := m) (f := f) (by first | assumption | omega) (by first | assumption | omega) ha hb (by first | assumption | omega) hf) rfl ?_
      intro w7 hbel
      replace st := st.call hbel
      clear hbel
      refine Wl.nil ⟨rfl, RK.of st0 st (ksC (i := 2) (j := 2) rfl rfl rfl (ksC (i := 1) (j := 1) rfl rfl rfl ksN)), ?_⟩
      clear st0
      refine WT.pure rfl (PR.moveV (.tuple #[.agg ([.int .i16 (selZ (svC s p a b m f) ((smF a b f (1 <<< (m).toNat)).tdiv ((Nat.gcd ((smF a b f (1 <<< (m).toNat)).natAbs) (flN (bitB f) (1 <<< (m).toNat)) : Nat) : Int))), .int .i16 (((selN (svC s p a b m f) (((flN (bitB f) (1 <<< (m).toNat)) / (Nat.gcd ((smF a b f (1 <<< (m).toNat)).natAbs) (flN (bitB f) (1 <<< (m).toNat))))) : Nat) : Int))]).toArray, .int .i64 (((svC s p a b m f : Nat) : Int))]) rfl) ?_
      refine WT.pure rfl (PR.extr (i := 0) (vs := [.agg ([.int .i16 (selZ (svC s p a b m f) ((smF a b f (1 <<< (m).toNat)).tdiv ((Nat.gcd ((smF a b f (1 <<< (m).toNat)).natAbs) (flN (bitB f) (1 <<< (m).toNat)) : Nat) : Int))), .int .i16 (((selN (svC s p a b m f) (((flN (bitB f) (1 <<< (m).toNat)) / (Nat.gcd ((smF a b f (1 <<< (m).toNat)).natAbs) (flN (bitB f) (1 <<< (m).toNat))))) : Nat) : Int))]).toArray, .int .i64 (((svC s p a b m f : Nat) : Int))]) rfl rfl) ?_
      refine WT.pure rfl (PR.extr (i := 1) (vs := [.agg ([.int .i16 (selZ (svC s p a b m f) ((smF a b f (1 <<< (m).toNat)).tdiv ((Nat.gcd ((smF a b f (1 <<< (m).toNat)).natAbs) (flN (bitB f) (1 <<< (m).toNat)) : Nat) : Int))), .int .i16 (((selN (svC s p a b m f) (((flN (bitB f) (1 <<< (m).toNat)) / (Nat.gcd ((smF a b f (1 <<< (m).toNat)).natAbs) (flN (bitB f) (1 <<< (m).toNat))))) : Nat) : Int))]).toArray, .int .i64 (((svC s p a b m f : Nat) : Int))]) rfl rfl) ?_
      have st0 := st
      refine WT.s rfl rfl ?_
      refine Wl.storeA (i := 0) (cs' := [.int .i16 (selZ (svC s p a b m f) ((smF a b f (1 <<< (m).toNat)).tdiv ((Nat.gcd ((smF a b f (1 <<< (m).toNat)).natAbs) (flN (bitB f) (1 <<< (m).toNat)) : Nat) : Int))), .int .i16 (((selN (svC s p a b m f) (((flN (bitB f) (1 <<< (m).toNat)) / (Nat.gcd ((smF a b f (1 <<< (m).toNat)).natAbs) (flN (bitB f) (1 <<< (m).toNat))))) : Nat) : Int))]) st tA_38 rfl rfl rfl (by simp [Value.oneCell']) rfl (by simp) (all_put rfl) ?_
      clear st
      intro w8 st
      replace st : St [] w w8 [(b5, [.int .i16 (selZ (svC s p a b m f) ((smF a b f (1 <<< (m).toNat)).tdiv ((Nat.gcd ((smF a b f (1 <<< (m).toNat)).natAbs) (flN (bitB f) (1 <<< (m).toNat)) : Nat) : Int))), .int .i16 (((selN (svC s p a b m f) (((flN (bitB f) (1 <<< (m).toNat)) / (Nat.gcd ((smF a b f (1 <<< (m).toNat)).natAbs) (flN (bitB f) (1 <<< (m).toNat))))) : Nat) : Int))], 38), (b3, [.int .i8 (m), .int .u64 (((f : Nat) : Int))], 28), (b2, schV (s) (p) (a) (b), 25)] := st
      refine Wl.nil ⟨rfl, RK.of st0 st (ksC (i := 2) (j := 2) rfl rfl rfl (ksC (i := 1) (j := 1) rfl rfl rfl ksN)), ?_⟩
      clear st0
      refine WT.pure rfl (PR.assI rfl) ?_
      exact WT.nil ⟨b5, (.cons rfl (.cons rfl (.cons rfl (.cons rfl (.cons rfl (.nil _)))))), st⟩
    · have st0 := st
      refine WT.s rfl rfl ?_
      refine Wl.callV (c_laws_toScheme (s := s) (p := p) (a := a) (b := b) ha hb) rfl ?_
      intro w9 hbel
      replace st := st.call hbel
      clear hbel
      refine Wl.nil ⟨rfl, RK.of st0 st (ksC (i := 1) (j := 1) rfl rfl rfl (ksC (i := 0) (j := 0) rfl rfl rfl ksN)), ?_⟩
      clear st0
      refine WT.alt ?_ ?_
      · have st0 := st
        refine WT.s rfl rfl ?_
        refine Wl.alloc st tZ_38 rfl ?_
        clear st
        intro b5 w10 st
        refine Wl.nil ⟨rfl, RK.of st0 st (ksC (i := 1) (j := 2) rfl rfl rfl (ksC (i := 0) (j := 1) rfl rfl rfl ksN)), ?_⟩
        clear st0
        have st0 := st
        refine WT.s rfl rfl ?_
        refine Wl.callV (c_laws_toFamily (m := m) (f := f) (by first | assumption | omega) hf) rfl ?_
        intro w11 hbel
        replace st := st.call hbel
        clear hbel
        refine Wl.nil ⟨rfl, RK.of st0 st (ksC (i := 2) (j := 2) rfl rfl rfl (ksC (i := 1) (j := 1) rfl rfl rfl ksN)), ?_⟩
        clear st0
        have st0 := st
        refine WT.s rfl rfl ?_
        refine Wl.callV (c_spec_MeanGap (s := s) (p := p) (a := a) (b := b) (m := m) (f := f) (by first | assumption | omega) (by first | assumption | omega) ha hb (by first | assumption | omega) hf) rfl ?_
        intro w12 hbel
        replace st := st.call hbel
        clear hbel
        refine Wl.nil ⟨rfl, RK.of st0 st (ksC (i := 2) (j := 2) rfl rfl rfl (ksC (i := 1) (j := 1) rfl rfl rfl ksN)), ?_⟩
        clear st0
        refine WT.pure rfl (PR.moveV (.tuple #[.agg ([.int .i16 (selZ (svC s p a b m f) ((smF a b f (1 <<< (m).toNat)).tdiv ((Nat.gcd ((smF a b f (1 <<< (m).toNat)).natAbs) (flN (bitB f) (1 <<< (m).toNat)) : Nat) : Int))), .int .i16 (((selN (svC s p a b m f) (((flN (bitB f) (1 <<< (m).toNat)) / (Nat.gcd ((smF a b f (1 <<< (m).toNat)).natAbs) (flN (bitB f) (1 <<< (m).toNat))))) : Nat) : Int))]).toArray, .int .i64 (((svC s p a b m f : Nat) : Int))]) rfl) ?_
        refine WT.pure rfl (PR.extr (i := 0) (vs := [.agg ([.int .i16 (selZ (svC s p a b m f) ((smF a b f (1 <<< (m).toNat)).tdiv ((Nat.gcd ((smF a b f (1 <<< (m).toNat)).natAbs) (flN (bitB f) (1 <<< (m).toNat)) : Nat) : Int))), .int .i16 (((selN (svC s p a b m f) (((flN (bitB f) (1 <<< (m).toNat)) / (Nat.gcd ((smF a b f (1 <<< (m).toNat)).natAbs) (flN (bitB f) (1 <<< (m).toNat))))) : Nat) : Int))]).toArray, .int .i64 (((svC s p a b m f : Nat) : Int))]) rfl rfl) ?_
        refine WT.pure rfl (PR.extr (i := 1) (vs := [.agg ([.int .i16 (selZ (svC s p a b m f) ((smF a b f (1 <<< (m).toNat)).tdiv ((Nat.gcd ((smF a b f (1 <<< (m).toNat)).natAbs) (flN (bitB f) (1 <<< (m).toNat)) : Nat) : Int))), .int .i16 (((selN (svC s p a b m f) (((flN (bitB f) (1 <<< (m).toNat)) / (Nat.gcd ((smF a b f (1 <<< (m).toNat)).natAbs) (flN (bitB f) (1 <<< (m).toNat))))) : Nat) : Int))]).toArray, .int .i64 (((svC s p a b m f : Nat) : Int))]) rfl rfl) ?_
        have st0 := st
        refine WT.s rfl rfl ?_
        refine Wl.storeA (i := 0) (cs' := [.int .i16 (selZ (svC s p a b m f) ((smF a b f (1 <<< (m).toNat)).tdiv ((Nat.gcd ((smF a b f (1 <<< (m).toNat)).natAbs) (flN (bitB f) (1 <<< (m).toNat)) : Nat) : Int))), .int .i16 (((selN (svC s p a b m f) (((flN (bitB f) (1 <<< (m).toNat)) / (Nat.gcd ((smF a b f (1 <<< (m).toNat)).natAbs) (flN (bitB f) (1 <<< (m).toNat))))) : Nat) : Int))]) st tA_38 rfl rfl rfl (by simp [Value.oneCell']) rfl (by simp) (all_put rfl) ?_
        clear st
        intro w13 st
        replace st : St [] w w13 [(b5, [.int .i16 (selZ (svC s p a b m f) ((smF a b f (1 <<< (m).toNat)).tdiv ((Nat.gcd ((smF a b f (1 <<< (m).toNat)).natAbs) (flN (bitB f) (1 <<< (m).toNat)) : Nat) : Int))), .int .i16 (((selN (svC s p a b m f) (((flN (bitB f) (1 <<< (m).toNat)) / (Nat.gcd ((smF a b f (1 <<< (m).toNat)).natAbs) (flN (bitB f) (1 <<< (m).toNat))))) : Nat) : Int))], 38), (b3, [.int .i8 (m), .int .u64 (((f : Nat) : Int))], 28), (b2, schV (s) (p) (a) (b), 25)] := st
        refine Wl.nil ⟨rfl, RK.of st0 st (ksC (i := 2) (j := 2) rfl rfl rfl (ksC (i := 1) (j := 1) rfl rfl rfl ksN)), ?_⟩
        clear st0
        refine WT.pure rfl (PR.assI rfl) ?_
        exact WT.nil ⟨b5, (.cons rfl (.cons rfl (.cons rfl (.cons rfl (.cons rfl (.nil _)))))), st⟩
      · have st0 := st
        refine WT.s rfl rfl ?_
        refine Wl.callV (c_laws_toFamily (m := m) (f := f) (by first | assumption | omega) hf) rfl ?_
        intro w14 hbel
        replace st := st.call hbel
        clear hbel
        refine Wl.nil ⟨rfl, RK.of st0 st (ksC (i := 1) (j := 1) rfl rfl rfl (ksC (i := 0) (j := 0) rfl rfl rfl ksN)), ?_⟩
        clear st0
        refine WT.alt ?_ ?_
        · have st0 := st
          refine WT.s rfl rfl ?_
          refine Wl.alloc st tZ_38 rfl ?_
          clear st
          intro b5 w15 st
          refine Wl.nil ⟨rfl, RK.of st0 st (ksC (i := 1) (j := 2) rfl rfl rfl (ksC (i := 0) (j := 1) rfl rfl rfl ksN)), ?_⟩
          clear st0
          have st0 := st
          refine WT.s rfl rfl ?_
          refine Wl.callV (c_spec_MeanGap (s := s) (p := p) (a := a) (b := b) (m := m) (f := f) (by first | assumption | omega) (by first | assumption | omega) ha hb (by first | assumption | omega) hf) rfl ?_
          intro w16 hbel
          replace st := st.call hbel
          clear hbel
          refine Wl.nil ⟨rfl, RK.of st0 st (ksC (i := 2) (j := 2) rfl rfl rfl (ksC (i := 1) (j := 1) rfl rfl rfl ksN)), ?_⟩
          clear st0
          refine WT.pure rfl (PR.moveV (.tuple #[.agg ([.int .i16 (selZ (svC s p a b m f) ((smF a b f (1 <<< (m).toNat)).tdiv ((Nat.gcd ((smF a b f (1 <<< (m).toNat)).natAbs) (flN (bitB f) (1 <<< (m).toNat)) : Nat) : Int))), .int .i16 (((selN (svC s p a b m f) (((flN (bitB f) (1 <<< (m).toNat)) / (Nat.gcd ((smF a b f (1 <<< (m).toNat)).natAbs) (flN (bitB f) (1 <<< (m).toNat))))) : Nat) : Int))]).toArray, .int .i64 (((svC s p a b m f : Nat) : Int))]) rfl) ?_
          refine WT.pure rfl (PR.extr (i := 0) (vs := [.agg ([.int .i16 (selZ (svC s p a b m f) ((smF a b f (1 <<< (m).toNat)).tdiv ((Nat.gcd ((smF a b f (1 <<< (m).toNat)).natAbs) (flN (bitB f) (1 <<< (m).toNat)) : Nat) : Int))), .int .i16 (((selN (svC s p a b m f) (((flN (bitB f) (1 <<< (m).toNat)) / (Nat.gcd ((smF a b f (1 <<< (m).toNat)).natAbs) (flN (bitB f) (1 <<< (m).toNat))))) : Nat) : Int))]).toArray, .int .i64 (((svC s p a b m f : Nat) : Int))]) rfl rfl) ?_
          refine WT.pure rfl (PR.extr (i := 1) (vs := [.agg ([.int .i16 (selZ (svC s p a b m f) ((smF a b f (1 <<< (m).toNat)).tdiv ((Nat.gcd ((smF a b f (1 <<< (m).toNat)).natAbs) (flN (bitB f) (1 <<< (m).toNat)) : Nat) : Int))), .int .i16 (((selN (svC s p a b m f) (((flN (bitB f) (1 <<< (m).toNat)) / (Nat.gcd ((smF a b f (1 <<< (m).toNat)).natAbs) (flN (bitB f) (1 <<< (m).toNat))))) : Nat) : Int))]).toArray, .int .i64 (((svC s p a b m f : Nat) : Int))]) rfl rfl) ?_
          have st0 := st
          refine WT.s rfl rfl ?_
          refine Wl.storeA (i := 0) (cs' := [.int .i16 (selZ (svC s p a b m f) ((smF a b f (1 <<< (m).toNat)).tdiv ((Nat.gcd ((smF a b f (1 <<< (m).toNat)).natAbs) (flN (bitB f) (1 <<< (m).toNat)) : Nat) : Int))), .int .i16 (((selN (svC s p a b m f) (((flN (bitB f) (1 <<< (m).toNat)) / (Nat.gcd ((smF a b f (1 <<< (m).toNat)).natAbs) (flN (bitB f) (1 <<< (m).toNat))))) : Nat) : Int))]) st tA_38 rfl rfl rfl (by simp [Value.oneCell']) rfl (by simp) (all_put rfl) ?_
          clear st
          intro w17 st
          replace st : St [] w w17 [(b5, [.int .i16 (selZ (svC s p a b m f) ((smF a b f (1 <<< (m).toNat)).tdiv ((Nat.gcd ((smF a b f (1 <<< (m).toNat)).natAbs) (flN (bitB f) (1 <<< (m).toNat)) : Nat) : Int))), .int .i16 (((selN (svC s p a b m f) (((flN (bitB f) (1 <<< (m).toNat)) / (Nat.gcd ((smF a b f (1 <<< (m).toNat)).natAbs) (flN (bitB f) (1 <<< (m).toNat))))) : Nat) : Int))], 38), (b3, [.int .i8 (m), .int .u64 (((f : Nat) : Int))], 28), (b2, schV (s) (p) (a) (b), 25)] := st
          refine Wl.nil ⟨rfl, RK.of st0 st (ksC (i := 2) (j := 2) rfl rfl rfl (ksC (i := 1) (j := 1) rfl rfl rfl ksN)), ?_⟩
          clear st0
          refine WT.pure rfl (PR.assI rfl) ?_
          exact WT.nil ⟨b5, (.cons rfl (.cons rfl (.cons rfl (.cons rfl (.cons rfl (.nil _)))))), st⟩
        · have st0 := st
          refine WT.s rfl rfl ?_
          refine Wl.callV (c_spec_MeanGap (s := s) (p := p) (a := a) (b := b) (m := m) (f := f) (by first | assumption | omega) (by first | assumption | omega) ha hb (by first | assumption | omega) hf) rfl ?_
          intro w18 hbel
          replace st := st.call hbel
          clear hbel
          refine Wl.nil ⟨rfl, RK.of st0 st (ksC (i := 1) (j := 1) rfl rfl rfl (ksC (i := 0) (j := 0) rfl rfl rfl ksN)), ?_⟩
          clear st0
          refine WT.pure rfl (PR.moveV (.tuple #[.agg ([.int .i16 (selZ (svC s p a b m f) ((smF a b f (1 <<< (m).toNat)).tdiv ((Nat.gcd ((smF a b f (1 <<< (m).toNat)).natAbs) (flN (bitB f) (1 <<< (m).toNat)) : Nat) : Int))), .int .i16 (((selN (svC s p a b m f) (((flN (bitB f) (1 <<< (m).toNat)) / (Nat.gcd ((smF a b f (1 <<< (m).toNat)).natAbs) (flN (bitB f) (1 <<< (m).toNat))))) : Nat) : Int))]).toArray, .int .i64 (((svC s p a b m f : Nat) : Int))]) rfl) ?_
          refine WT.pure rfl (PR.extr (i := 0) (vs := [.agg ([.int .i16 (selZ (svC s p a b m f) ((smF a b f (1 <<< (m).toNat)).tdiv ((Nat.gcd ((smF a b f (1 <<< (m).toNat)).natAbs) (flN (bitB f) (1 <<< (m).toNat)) : Nat) : Int))), .int .i16 (((selN (svC s p a b m f) (((flN (bitB f) (1 <<< (m).toNat)) / (Nat.gcd ((smF a b f (1 <<< (m).toNat)).natAbs) (flN (bitB f) (1 <<< (m).toNat))))) : Nat) : Int))]).toArray, .int .i64 (((svC s p a b m f : Nat) : Int))]) rfl rfl) ?_
          refine WT.pure rfl (PR.extr (i := 1) (vs := [.agg ([.int .i16 (selZ (svC s p a b m f) ((smF a b f (1 <<< (m).toNat)).tdiv ((Nat.gcd ((smF a b f (1 <<< (m).toNat)).natAbs) (flN (bitB f) (1 <<< (m).toNat)) : Nat) : Int))), .int .i16 (((selN (svC s p a b m f) (((flN (bitB f) (1 <<< (m).toNat)) / (Nat.gcd ((smF a b f (1 <<< (m).toNat)).natAbs) (flN (bitB f) (1 <<< (m).toNat))))) : Nat) : Int))]).toArray, .int .i64 (((svC s p a b m f : Nat) : Int))]) rfl rfl) ?_
          have st0 := st
          refine WT.s rfl rfl ?_
          refine Wl.alloc st tZ_38 rfl ?_
          clear st
          intro b5 w19 st
          refine Wl.nil ⟨rfl, RK.of st0 st (ksC (i := 1) (j := 2) rfl rfl rfl (ksC (i := 0) (j := 1) rfl rfl rfl ksN)), ?_⟩
          clear st0
          have st0 := st
          refine WT.s rfl rfl ?_
          refine Wl.storeA (i := 0) (cs' := [.int .i16 (selZ (svC s p a b m f) ((smF a b f (1 <<< (m).toNat)).tdiv ((Nat.gcd ((smF a b f (1 <<< (m).toNat)).natAbs) (flN (bitB f) (1 <<< (m).toNat)) : Nat) : Int))), .int .i16 (((selN (svC s p a b m f) (((flN (bitB f) (1 <<< (m).toNat)) / (Nat.gcd ((smF a b f (1 <<< (m).toNat)).natAbs) (flN (bitB f) (1 <<< (m).toNat))))) : Nat) : Int))]) st tA_38 rfl rfl rfl (by simp [Value.oneCell']) rfl (by simp) (all_put rfl) ?_
          clear st
          intro w20 st
          replace st : St [] w w20 [(b5, [.int .i16 (selZ (svC s p a b m f) ((smF a b f (1 <<< (m).toNat)).tdiv ((Nat.gcd ((smF a b f (1 <<< (m).toNat)).natAbs) (flN (bitB f) (1 <<< (m).toNat)) : Nat) : Int))), .int .i16 (((selN (svC s p a b m f) (((flN (bitB f) (1 <<< (m).toNat)) / (Nat.gcd ((smF a b f (1 <<< (m).toNat)).natAbs) (flN (bitB f) (1 <<< (m).toNat))))) : Nat) : Int))], 38), (b3, [.int .i8 (m), .int .u64 (((f : Nat) : Int))], 28), (b2, schV (s) (p) (a) (b), 25)] := st
          refine Wl.nil ⟨rfl, RK.of st0 st (ksC (i := 2) (j := 2) rfl rfl rfl (ksC (i := 1) (j := 1) rfl rfl rfl ksN)), ?_⟩
          clear st0
          refine WT.pure rfl (PR.assI rfl) ?_
          exact WT.nil ⟨b5, (.cons rfl (.cons rfl (.cons rfl (.cons rfl (.cons rfl (.nil _)))))), st⟩
  clear st
  rintro b5 w21 st
  try dsimp only at st ⊢
  refine tn ?_
  refine Wc.seq ?_
  refine Wc.tree (γ := Nat) (w0 := w) (X := []) (Ks := [b2, b3]) (S := fun i => i == 1 || i == 3 || i == 4 || i == 8 || i == 9) (fun g => [(4, .bool false), (5, .pointer (some ⟨b5, 0, none⟩)), (6, .int .i64 (((svC s p a b m f : Nat) : Int))), (7, .pointer (some ⟨g, 0, none⟩)), (8, .int .i64 (((svC s p a b m f : Nat) : Int)))]) (fun g w_ => St [] w w_ [(g, [.int .i16 (selZ (svC s p a b m f) ((smF a b f (1 <<< (m).toNat)).tdiv ((Nat.gcd ((smF a b f (1 <<< (m).toNat)).natAbs) (flN (bitB f) (1 <<< (m).toNat)) : Nat) : Int))), .int .i16 (((selN (svC s p a b m f) (((flN (bitB f) (1 <<< (m).toNat)) / (Nat.gcd ((smF a b f (1 <<< (m).toNat)).natAbs) (flN (bitB f) (1 <<< (m).toNat))))) : Nat) : Int))], 38), (b5, [.int .i16 (selZ (svC s p a b m f) ((smF a b f (1 <<< (m).toNat)).tdiv ((Nat.gcd ((smF a b f (1 <<< (m).toNat)).natAbs) (flN (bitB f) (1 <<< (m).toNat)) : Nat) : Int))), .int .i16 (((selN (svC s p a b m f) (((flN (bitB f) (1 <<< (m).toNat)) / (Nat.gcd ((smF a b f (1 <<< (m).toNat)).natAbs) (flN (bitB f) (1 <<< (m).toNat))))) : Nat) : Int))], 38), (b3, [.int .i8 (m), .int .u64 (((f : Nat) : Int))], 28), (b2, schV (s) (p) (a) (b), 25)]) (.st 0 3 (.st 2 3 (.alt 8 (.st 1 2 (.st 3 2 (.st 4 2 (.st 5 0 (.st 6 0 (.st 7 0 (.st 9 2 (.st 10 0 PT.nil)))))))) (.st 1 2 (.alt 8 (.st 3 2 (.st 4 2 (.st 5 0 (.st 6 0 (.st 7 0 (.st 9 2 (.st 10 0 PT.nil))))))) (.st 3 2 (.alt 8 (.st 4 2 (.st 5 0 (.st 6 0 (.st 7 0 (.st 9 2 (.st 10 0 PT.nil)))))) (.st 4 2 (.st 5 0 (.st 6 0 (.st 7 0 (.st 8 2 (.st 9 2 (.st 10 0 PT.nil)))))))))))))) hmix (by kernel_rfl) (by kernel_rfl) rfl rfl ?_ ?_
  · intro w22 hbel
    replace st := st.call hbel
    clear hbel
    refine WT.loadA (j := 2) rfl (by simp) st tA_25 rfl rfl (all_sub schV_len) schV_len ?_
    refine WT.loadA (j := 1) rfl (by simp) st tA_28 rfl rfl rfl rfl ?_
    refine WT.alt ?_ ?_
    · have st0 := st
      refine WT.s rfl rfl ?_
      refine Wl.alloc st tZ_38 rfl ?_
      clear st
      intro b7 w23 st
      refine Wl.nil ⟨rfl, RK.of st0 st (ksC (i := 2) (j := 3) rfl rfl rfl (ksC (i := 1) (j := 2) rfl rfl rfl ksN)), ?_⟩
      clear st0
      have st0 := st
      refine WT.s rfl rfl ?_
      refine Wl.callV (c_laws_toScheme (s := s) (p := p) (a := a) (b := b) ha hb) rfl ?_
      intro w24 hbel
      replace st := st.call hbel
      clear hbel
      refine Wl.nil ⟨rfl, RK.of st0 st (ksC (i := 3) (j := 3) rfl rfl rfl (ksC (i := 2) (j := 2) rfl rfl rfl ksN)), ?_⟩
      clear st0
      have st0 := st
      refine WT.s rfl rfl ?_
      refine Wl.callV (c_laws_toFamily (m := m) (f := f) (by first | assumption | omega) hf) rfl ?_
      intro w25 hbel
      replace st := st.call hbel
      clear hbel
      refine Wl.nil ⟨rfl, RK.of st0 st (ksC (i := 3) (j := 3) rfl rfl rfl (ksC (i := 2) (j := 2) rfl rfl rfl ksN)), ?_⟩
      clear st0
      have st0 := st
      refine WT.s rfl rfl ?_
      refine Wl.callV (c_impl_MeanGap (s := s) (p := p) (a := a) (b := b) (m := m) (f := f) (by first | assumption | omega) (by first | assumption | omega) ha hb (by first | assumption | omega) hf) rfl ?_
      intro w26 hbel
      replace st := st.call hbel
      clear hbel
      refine Wl.nil ⟨rfl, RK.of st0 st (ksC (i := 3) (j := 3) rfl rfl rfl (ksC (i := 2) (j := 2) rfl rfl rfl ksN)), ?_⟩
      clear st0
      refine WT.pure rfl (PR.moveV (.tuple #[.agg ([.int .i16 (selZ (svC s p a b m f) ((smF a b f (1 <<< (m).toNat)).tdiv ((Nat.gcd ((smF a b f (1 <<< (m).toNat)).natAbs) (flN (bitB f) (1 <<< (m).toNat)) : Nat) : Int))), .int .i16 (((selN (svC s p a b m f) (((flN (bitB f) (1 <<< (m).toNat)) / (Nat.gcd ((smF a b f (1 <<< (m).toNat)).natAbs) (flN (bitB f) (1 <<< (m).toNat))))) : Nat) : Int))]).toArray, .int .i64 (((svC s p a b m f : Nat) : Int))]) rfl) ?_
      refine WT.pure rfl (PR.extr (i := 0) (vs := [.agg ([.int .i16 (selZ (svC s p a b m f) ((smF a b f (1 <<< (m).toNat)).tdiv ((Nat.gcd ((smF a b f (1 <<< (m).toNat)).natAbs) (flN (bitB f) (1 <<< (m).toNat)) : Nat) : Int))), .int .i16 (((selN (svC s p a b m f) (((flN (bitB f) (1 <<< (m).toNat)) / (Nat.gcd ((smF a b f (1 <<< (m).toNat)).natAbs) (flN (bitB f) (1 <<< (m).toNat))))) : Nat) : Int))]).toArray, .int .i64 (((svC s p a b m f : Nat) : Int))]) rfl rfl) ?_
      refine WT.pure rfl (PR.extr (i := 1) (vs := [.agg ([.int .i16 (selZ (svC s p a b m f) ((smF a b f (1 <<< (m).toNat)).tdiv ((Nat.gcd ((smF a b f (1 <<< (m).toNat)).natAbs) (flN (bitB f) (1 <<< (m).toNat)) : Nat) : Int))), .int .i16 (((selN (svC s p a b m f) (((flN (bitB f) (1 <<< (m).toNat)) / (Nat.gcd ((smF a b f (1 <<< (m).toNat)).natAbs) (flN (bitB f) (1 <<< (m).toNat))))) : Nat) : Int))]).toArray, .int .i64 (((svC s p a b m f : Nat) : Int))]) rfl rfl) ?_
      have st0 := st
      refine WT.s rfl rfl ?_
      refine Wl.storeA (i := 0) (cs' := [.int .i16 (selZ (svC s p a b m f) ((smF a b f (1 <<< (m).toNat)).tdiv ((Nat.gcd ((smF a b f (1 <<< (m).toNat)).natAbs) (flN (bitB f) (1 <<< (m).toNat)) : Nat) : Int))), .int .i16 (((selN (svC s p a b m f) (((flN (bitB f) (1 <<< (m).toNat)) / (Nat.gcd ((smF a b f (1 <<< (m).toNat)).natAbs) (flN (bitB f) (1 <<< (m).toNat))))) : Nat) : Int))]) st tA_38 rfl rfl rfl (by simp [Value.oneCell']) rfl (by simp) (all_put rfl) ?_
      clear st
      intro w27 st
      replace st : St [] w w27 [(b7, [.int .i16 (selZ (svC s p a b m f) ((smF a b f (1 <<< (m).toNat)).tdiv ((Nat.gcd ((smF a b f (1 <<< (m).toNat)).natAbs) (flN (bitB f) (1 <<< (m).toNat)) : Nat) : Int))), .int .i16 (((selN (svC s p a b m f) (((flN (bitB f) (1 <<< (m).toNat)) / (Nat.gcd ((smF a b f (1 <<< (m).toNat)).natAbs) (flN (bitB f) (1 <<< (m).toNat))))) : Nat) : Int))], 38), (b5, [.int .i16 (selZ (svC s p a b m f) ((smF a b f (1 <<< (m).toNat)).tdiv ((Nat.gcd ((smF a b f (1 <<< (m).toNat)).natAbs) (flN (bitB f) (1 <<< (m).toNat)) : Nat) : Int))), .int .i16 (((selN (svC s p a b m f) (((flN (bitB f) (1 <<< (m).toNat)) / (Nat.gcd ((smF a b f (1 <<< (m).toNat)).natAbs) (flN (bitB f) (1 <<< (m).toNat))))) : Nat) : Int))], 38), (b3, [.int .i8 (m), .int .u64 (((f : Nat) : Int))], 28), (b2, schV (s) (p) (a) (b), 25)] := st
      refine Wl.nil ⟨rfl, RK.of st0 st (ksC (i := 3) (j := 3) rfl rfl rfl (ksC (i := 2) (j := 2) rfl rfl rfl ksN)), ?_⟩
      clear st0
      refine WT.pure rfl (PR.assI rfl) ?_
      exact WT.nil ⟨b7, (.cons rfl (.cons rfl (.cons rfl (.cons rfl (.cons rfl (.nil _)))))), st⟩
    · have st0 := st
      refine WT.s rfl rfl ?_
      refine Wl.callV (c_laws_toScheme (s := s) (p := p) (a := a) (b := b) ha hb) rfl ?_
      intro w28 hbel
      replace st := st.call hbel
      clear hbel
      refine Wl.nil ⟨rfl, RK.of st0 st (ksC (i := 2) (j := 2) rfl rfl rfl (ksC (i := 1) (j := 1) rfl rfl rfl ksN)), ?_⟩
      clear st0
      refine WT.alt ?_ ?_
      · have st0 := st
        refine WT.s rfl rfl ?_
        refine Wl.alloc st tZ_38 rfl ?_
        clear st
        intro b7 w29 st
        refine Wl.nil ⟨rfl, RK.of st0 st (ksC (i := 2) (j := 3) rfl rfl rfl (ksC (i := 1) (j := 2) rfl rfl rfl ksN)), ?_⟩
        clear st0
        have st0 := st
        refine WT.s rfl rfl ?_
        refine Wl.callV (c_laws_toFamily (m := m) (f := f) (by first | assumption | omega) hf) rfl ?_
        intro w30 hbel
        replace st := st.call hbel
        clear hbel
        refine Wl.nil ⟨rfl, RK.of st0 st (ksC (i := 3) (j := 3) rfl rfl rfl (ksC (i := 2) (j := 2) rfl rfl rfl ksN)), ?_⟩
        clear st0
        have st0 := st
        refine WT.s rfl rfl ?_
        refine Wl.callV (c_impl_MeanGap (s := s) (p := p) (a := a) (b := b) (m := m) (f := f) (by first | assumption | omega) (by first | assumption | omega) ha hb (by first | assumption | omega) hf) rfl ?_
        intro w31 hbel
        replace st := st.call hbel
        clear hbel
        refine Wl.nil ⟨rfl, RK.of st0 st (ksC (i := 3) (j := 3) rfl rfl rfl (ksC (i := 2) (j := 2) rfl rfl rfl ksN)), ?_⟩
        clear st0
        refine WT.pure rfl (PR.moveV (.tuple #[.agg ([.int .i16 (selZ (svC s p a b m f) ((smF a b f (1 <<< (m).toNat)).tdiv ((Nat.gcd ((smF a b f (1 <<< (m).toNat)).natAbs) (flN (bitB f) (1 <<< (m).toNat)) : Nat) : Int))), .int .i16 (((selN (svC s p a b m f) (((flN (bitB f) (1 <<< (m).toNat)) / (Nat.gcd ((smF a b f (1 <<< (m).toNat)).natAbs) (flN (bitB f) (1 <<< (m).toNat))))) : Nat) : Int))]).toArray, .int .i64 (((svC s p a b m f : Nat) : Int))]) rfl) ?_
        refine WT.pure rfl (PR.extr (i := 0) (vs := [.agg ([.int .i16 (selZ (svC s p a b m f) ((smF a b f (1 <<< (m).toNat)).tdiv ((Nat.gcd ((smF a b f (1 <<< (m).toNat)).natAbs) (flN (bitB f) (1 <<< (m).toNat)) : Nat) : Int))), .int .i16 (((selN (svC s p a b m f) (((flN (bitB f) (1 <<< (m).toNat)) / (Nat.gcd ((smF a b f (1 <<< (m).toNat)).natAbs) (flN (bitB f) (1 <<< (m).toNat))))) : Nat) : Int))]).toArray, .int .i64 (((svC s p a b m f : Nat) : Int))]) rfl rfl) ?_
        refine WT.pure rfl (PR.extr (i := 1) (vs := [.agg ([.int .i16 (selZ (svC s p a b m f) ((smF a b f (1 <<< (m).toNat)).tdiv ((Nat.gcd ((smF a b f (1 <<< (m).toNat)).natAbs) (flN (bitB f) (1 <<< (m).toNat)) : Nat) : Int))), .int .i16 (((selN (svC s p a b m f) (((flN (bitB f) (1 <<< (m).toNat)) / (Nat.gcd ((smF a b f (1 <<< (m).toNat)).natAbs) (flN (bitB f) (1 <<< (m).toNat))))) : Nat) : Int))]).toArray, .int .i64 (((svC s p a b m f : Nat) : Int))]) rfl rfl) ?_
        have st0 := st
        refine WT.s rfl rfl ?_
        refine Wl.storeA (i := 0) (cs' := [.int .i16 (selZ (svC s p a b m f) ((smF a b f (1 <<< (m).toNat)).tdiv ((Nat.gcd ((smF a b f (1 <<< (m).toNat)).natAbs) (flN (bitB f) (1 <<< (m).toNat)) : Nat) : Int))), .int .i16 (((selN (svC s p a b m f) (((flN (bitB f) (1 <<< (m).toNat)) / (Nat.gcd ((smF a b f (1 <<< (m).toNat)).natAbs) (flN (bitB f) (1 <<< (m).toNat))))) : Nat) : Int))]) st tA_38 rfl rfl rfl (by simp [Value.oneCell']) rfl (by simp) (all_put rfl) ?_
        clear st
        intro w32 st
        replace st : St [] w w32 [(b7, [.int .i16 (selZ (svC s p a b m f) ((smF a b f (1 <<< (m).toNat)).tdiv ((Nat.gcd ((smF a b f (1 <<< (m).toNat)).natAbs) (flN (bitB f) (1 <<< (m).toNat)) : Nat) : Int))), .int .i16 (((selN (svC s p a b m f) (((flN (bitB f) (1 <<< (m).toNat)) / (Nat.gcd ((smF a b f (1 <<< (m).toNat)).natAbs) (flN (bitB f) (1 <<< (m).toNat))))) : Nat) : Int))], 38), (b5, [.int .i16 (selZ (svC s p a b m f) ((smF a b f (1 <<< (m).toNat)).tdiv ((Nat.gcd ((smF a b f (1 <<< (m).toNat)).natAbs) (flN (bitB f) (1 <<< (m).toNat)) : Nat) : Int))), .int .i16 (((selN (svC s p a b m f) (((flN (bitB f) (1 <<< (m).toNat)) / (Nat.gcd ((smF a b f (1 <<< (m).toNat)).natAbs) (flN (bitB f) (1 <<< (m).toNat))))) : Nat) : Int))], 38), (b3, [.int .i8 (m), .int .u64 (((f : Nat) : Int))], 28), (b2, schV (s) (p) (a) (b), 25)] := st
        refine Wl.nil ⟨rfl, RK.of st0 st (ksC (i := 3) (j := 3) rfl rfl rfl (ksC (i := 2) (j := 2) rfl rfl rfl ksN)), ?_⟩
        clear st0
        refine WT.pure rfl (PR.assI rfl) ?_
        exact WT.nil ⟨b7, (.cons rfl (.cons rfl (.cons rfl (.cons rfl (.cons rfl (.nil _)))))), st⟩
      · have st0 := st
        refine WT.s rfl rfl ?_
        refine Wl.callV (c_laws_toFamily (m := m) (f := f) (by first | assumption | omega) hf) rfl ?_
        intro w33 hbel
        replace st := st.call hbel
        clear hbel
        refine Wl.nil ⟨rfl, RK.of st0 st (ksC (i := 2) (j := 2) rfl rfl rfl (ksC (i := 1) (j := 1) rfl rfl rfl ksN)), ?_⟩
        clear st0
        refine WT.alt ?_ ?_
        · have st0 := st
          refine WT.s rfl rfl ?_
          refine Wl.alloc st tZ_38 rfl ?_
          clear st
          intro b7 w34 st
          refine Wl.nil ⟨rfl, RK.of st0 st (ksC (i := 2) (j := 3) rfl rfl rfl (ksC (i := 1) (j := 2) rfl rfl rfl ksN)), ?_⟩
          clear st0
          have st0 := st
          refine WT.s rfl rfl ?_
          refine Wl.callV (c_impl_MeanGap (s := s) (p := p) (a := a) (b := b) (m := m) (f := f) (by first | assumption | omega) (by first | assumption | omega) ha hb (by first | assumption | omega) hf) rfl ?_
          intro w35 hbel
          replace st := st.call hbel
          clear hbel
          refine Wl.nil ⟨rfl, RK.of st0 st (ksC (i := 3) (j := 3) rfl rfl rfl (ksC (i := 2) (j := 2) rfl rfl rfl ksN)), ?_⟩
          clear st0
          refine WT.pure rfl (PR.moveV (.tuple #[.agg ([.int .i16 (selZ (svC s p a b m f) ((smF a b f (1 <<< (m).toNat)).tdiv ((Nat.gcd ((smF a b f (1 <<< (m).toNat)).natAbs) (flN (bitB f) (1 <<< (m).toNat)) : Nat) : Int))), .int .i16 (((selN (svC s p a b m f) (((flN (bitB f) (1 <<< (m).toNat)) / (Nat.gcd ((smF a b f (1 <<< (m).toNat)).natAbs) (flN (bitB f) (1 <<< (m).toNat))))) : Nat) : Int))]).toArray, .int .i64 (((svC s p a b m f : Nat) : Int))]) rfl) ?_
          refine WT.pure rfl (PR.extr (i := 0) (vs := [.agg ([.int .i16 (selZ (svC s p a b m f) ((smF a b f (1 <<< (m).toNat)).tdiv ((Nat.gcd ((smF a b f (1 <<< (m).toNat)).natAbs) (flN (bitB f) (1 <<< (m).toNat)) : Nat) : Int))), .int .i16 (((selN (svC s p a b m f) (((flN (bitB f) (1 <<< (m).toNat)) / (Nat.gcd ((smF a b f (1 <<< (m).toNat)).natAbs) (flN (bitB f) (1 <<< (m).toNat))))) : Nat) : Int))]).toArray, .int .i64 (((svC s p a b m f : Nat) : Int))]) rfl rfl) ?_
          refine WT.pure rfl (PR.extr (i := 1) (vs := [.agg ([.int .i16 (selZ (svC s p a b m f) ((smF a b f (1 <<< (m).toNat)).tdiv ((Nat.gcd ((smF a b f (1 <<< (m).toNat)).natAbs) (flN (bitB f) (1 <<< (m).toNat)) : Nat) : Int))), .int .i16 (((selN (svC s p a b m f) (((flN (bitB f) (1 <<< (m).toNat)) / (Nat.gcd ((smF a b f (1 <<< (m).toNat)).natAbs) (flN (bitB f) (1 <<< (m).toNat))))) : Nat) : Int))]).toArray, .int .i64 (((svC s p a b m f : Nat) : Int))]) rfl rfl) ?_
          have st0 := st
          refine WT.s rfl rfl ?_
          refine Wl.storeA (i := 0) (cs' := [.int .i16 (selZ (svC s p a b m f) ((smF a b f (1 <<< (m).toNat)).tdiv ((Nat.gcd ((smF a b f (1 <<< (m).toNat)).natAbs) (flN (bitB f) (1 <<< (m).toNat)) : Nat) : Int))), .int .i16 (((selN (svC s p a b m f) (((flN (bitB f) (1 <<< (m).toNat)) / (Nat.gcd ((smF a b f (1 <<< (m).toNat)).natAbs) (flN (bitB f) (1 <<< (m).toNat))))) : Nat) : Int))]) st tA_38 rfl rfl rfl (by simp [Value.oneCell']) rfl (by simp) (all_put rfl) ?_
          clear st
          intro w36 st
          replace st : St [] w w36 [(b7, [.int .i16 (selZ (svC s p a b m f) ((smF a b f (1 <<< (m).toNat)).tdiv ((Nat.gcd ((smF a b f (1 <<< (m).toNat)).natAbs) (flN (bitB f) (1 <<< (m).toNat)) : Nat) : Int))), .int .i16 (((selN (svC s p a b m f) (((flN (bitB f) (1 <<< (m).toNat)) / (Nat.gcd ((smF a b f (1 <<< (m).toNat)).natAbs) (flN (bitB f) (1 <<< (m).toNat))))) : Nat) : Int))], 38), (b5, [.int .i16 (selZ (svC s p a b m f) ((smF a b f (1 <<< (m).toNat)).tdiv ((Nat.gcd ((smF a b f (1 <<< (m).toNat)).natAbs) (flN (bitB f) (1 <<< (m).toNat)) : Nat) : Int))), .int .i16 (((selN (svC s p a b m f) (((flN (bitB f) (1 <<< (m).toNat)) / (Nat.gcd ((smF a b f (1 <<< (m).toNat)).natAbs) (flN (bitB f) (1 <<< (m).toNat))))) : Nat) : Int))], 38), (b3, [.int .i8 (m), .int .u64 (((f : Nat) : Int))], 28), (b2, schV (s) (p) (a) (b), 25)] := st
          refine Wl.nil ⟨rfl, RK.of st0 st (ksC (i := 3) (j := 3) rfl rfl rfl (ksC (i := 2) (j := 2) rfl rfl rfl ksN)), ?_⟩
          clear st0
          refine WT.pure rfl (PR.assI rfl) ?_
          exact WT.nil ⟨b7, (.cons rfl (.cons rfl (.cons rfl (.cons rfl (.cons rfl (.nil _)))))), st⟩
        · have st0 := st
          refine WT.s rfl rfl ?_
          refine Wl.callV (c_impl_MeanGap (s := s) (p := p) (a := a) (b := b) (m := m) (f := f) (by first | assumption | omega) (by first | assumption | omega) ha hb (by first | assumption | omega) hf) rfl ?_
          intro w37 hbel
          replace st := st.call hbel
          clear hbel
          refine Wl.nil ⟨rfl, RK.of st0 st (ksC (i := 2) (j := 2) rfl rfl rfl (ksC (i := 1) (j := 1) rfl rfl rfl ksN)), ?_⟩
          clear st0
          refine WT.pure rfl (PR.moveV (.tuple #[.agg ([.int .i16 (selZ (svC s p a b m f) ((smF a b f (1 <<< (m).toNat)).tdiv ((Nat.gcd ((smF a b f (1 <<< (m).toNat)).natAbs) (flN (bitB f) (1 <<< (m).toNat)) : Nat) : Int))), .int .i16 (((selN (svC s p a b m f) (((flN (bitB f) (1 <<< (m).toNat)) / (Nat.gcd ((smF a b f (1 <<< (m).toNat)).natAbs) (flN (bitB f) (1 <<< (m).toNat))))) : Nat) : Int))]).toArray, .int .i64 (((svC s p a b m f : Nat) : Int))]) rfl) ?_
          refine WT.pure rfl (PR.extr (i := 0) (vs := [.agg ([.int .i16 (selZ (svC s p a b m f) ((smF a b f (1 <<< (m).toNat)).tdiv ((Nat.gcd ((smF a b f (1 <<< (m).toNat)).natAbs) (flN (bitB f) (1 <<< (m).toNat)) : Nat) : Int))), .int .i16 (((selN (svC s p a b m f) (((flN (bitB f) (1 <<< (m).toNat)) / (Nat.gcd ((smF a b f (1 <<< (m).toNat)).natAbs) (flN (bitB f) (1 <<< (m).toNat))))) : Nat) : Int))]).toArray, .int .i64 (((svC s p a b m f : Nat) : Int))]) rfl rfl) ?_
          refine WT.pure rfl (PR.extr (i := 1) (vs := [.agg ([.int .i16 (selZ (svC s p a b m f) ((smF a b f (1 <<< (m).toNat)).tdiv ((Nat.gcd ((smF a b f (1 <<< (m).toNat)).natAbs) (flN (bitB f) (1 <<< (m).toNat)) : Nat) : Int))), .int .i16 (((selN (svC s p a b m f) (((flN (bitB f) (1 <<< (m).toNat)) / (Nat.gcd ((smF a b f (1 <<< (m).toNat)).natAbs) (flN (bitB f) (1 <<< (m).toNat))))) : Nat) : Int))]).toArray, .int .i64 (((svC s p a b m f : Nat) : Int))]) rfl rfl) ?_
          have st0 := st
          refine WT.s rfl rfl ?_
          refine Wl.alloc st tZ_38 rfl ?_
          clear st
          intro b7 w38 st
          refine Wl.nil ⟨rfl, RK.of st0 st (ksC (i := 2) (j := 3) rfl rfl rfl (ksC (i := 1) (j := 2) rfl rfl rfl ksN)), ?_⟩
          clear st0
          have st0 := st
          refine WT.s rfl rfl ?_
          refine Wl.storeA (i := 0) (cs' := [.int .i16 (selZ (svC s p a b m f) ((smF a b f (1 <<< (m).toNat)).tdiv ((Nat.gcd ((smF a b f (1 <<< (m).toNat)).natAbs) (flN (bitB f) (1 <<< (m).toNat)) : Nat) : Int))), .int .i16 (((selN (svC s p a b m f) (((flN (bitB f) (1 <<< (m).toNat)) / (Nat.gcd ((smF a b f (1 <<< (m).toNat)).natAbs) (flN (bitB f) (1 <<< (m).toNat))))) : Nat) : Int))]) st tA_38 rfl rfl rfl (by simp [Value.oneCell']) rfl (by simp) (all_put rfl) ?_
          clear st
          intro w39 st
          replace st : St [] w w39 [(b7, [.int .i16 (selZ (svC s p a b m f) ((smF a b f (1 <<< (m).toNat)).tdiv ((Nat.gcd ((smF a b f (1 <<< (m).toNat)).natAbs) (flN (bitB f) (1 <<< (m).toNat)) : Nat) : Int))), .int .i16 (((selN (svC s p a b m f) (((flN (bitB f) (1 <<< (m).toNat)) / (Nat.gcd ((smF a b f (1 <<< (m).toNat)).natAbs) (flN (bitB f) (1 <<< (m).toNat))))) : Nat) : Int))], 38), (b5, [.int .i16 (selZ (svC s p a b m f) ((smF a b f (1 <<< (m).toNat)).tdiv ((Nat.gcd ((smF a b f (1 <<< (m).toNat)).natAbs) (flN (bitB f) (1 <<< (m).toNat)) : Nat) : Int))), .int .i16 (((selN (svC s p a b m f) (((flN (bitB f) (1 <<< (m).toNat)) / (Nat.gcd ((smF a b f (1 <<< (m).toNat)).natAbs) (flN (bitB f) (1 <<< (m).toNat))))) : Nat) : Int))], 38), (b3, [.int .i8 (m), .int .u64 (((f : Nat) : Int))], 28), (b2, schV (s) (p) (a) (b), 25)] := st
          refine Wl.nil ⟨rfl, RK.of st0 st (ksC (i := 3) (j := 3) rfl rfl rfl (ksC (i := 2) (j := 2) rfl rfl rfl ksN)), ?_⟩
          clear st0
          refine WT.pure rfl (PR.assI rfl) ?_
          exact WT.nil ⟨b7, (.cons rfl (.cons rfl (.cons rfl (.cons rfl (.cons rfl (.nil _)))))), st⟩
  clear st
  rintro b7 w40 st
  try dsimp only at st ⊢
  refine tn ?_
  refine Wc.seq ?_
  refine Wc.seq ?_
  refine Wc.region rfl ?_
  refine Wl.loadA (i := 0) st tA_38 rfl rfl rfl rfl ?_
  refine Wl.loadA (i := 1) st tA_38 rfl rfl rfl rfl ?_
  refine Wl.callV (c_laws_eqRatio (n := selZ (svC s p a b m f) ((smF a b f (1 <<< (m).toNat)).tdiv ((Nat.gcd ((smF a b f (1 <<< (m).toNat)).natAbs) (flN (bitB f) (1 <<< (m).toNat)) : Nat) : Int))) (d := ((selN (svC s p a b m f) (((flN (bitB f) (1 <<< (m).toNat)) / (Nat.gcd ((smF a b f (1 <<< (m).toNat)).natAbs) (flN (bitB f) (1 <<< (m).toNat))))) : Nat) : Int))) rfl ?_
  intro w41 hbel
  replace st := st.call hbel
  clear hbel
  refine Wl.pure (PR.not_ rfl) ?_
  refine Wl.pure (PR.moveB rfl) ?_
  refine Wl.on rfl rfl ?_
  refine Wl.pure (PR.moveI rfl) ?_
  refine Wl.on rfl rfl ?_
  refine Wl.pure (PR.moveI rfl) ?_
  refine Wl.on rfl rfl ?_
  refine Wl.pure (PR.neqS (a := ((svC s p a b m f : Nat) : Int)) rfl rfl) ?_
  refine Wl.pure (PR.pickFB rfl rfl) ?_
  refine Wl.nil ?_
  refine tn ?_
  refine Wc.condF rfl ?_
  refine Wc.skip ?_
  refine tn ?_
  refine Wc.seq ?_
  refine Wc.region rfl ?_
  refine Wl.pure (PR.assB rfl) ?_
  refine Wl.nil ?_
  refine tn ?_
  refine Wc.ret ?_
  refine postL.tmp rfl rfl ?_
  exact RetV.of rfl st.below

end Go.Proofs.Ytdlmbdclbnlmlaa
