/-
  Contracts of functions, printed by a program of ours.
-/
import Derived.Test.YtgcgfcfkbeomdaaCH2
import Derived.Test.YtgcgfcfkbeomdaaCS2
import Derived.Test.YtgcgfcfkbeomdaaApp
import Derived.Test.YtgcgfcfkbeomdaaDraw
import Derived.Test.YtgcgfcfkbeomdaaSee
namespace Go.Proofs.Ytgcgfcfkbeomdaa
open Go.RowKit
set_option linter.unusedVariables false
set_option linter.unusedSimpArgs false

set_option maxHeartbeats 400000 in
set_option maxRecDepth 4000 in
theorem c_spec_l03Sees {bk : Nat} {o : Nat} {s : Int} {p : Int} {a : Nat → Nat} {b : Nat → Nat} {x : Nat} {w : World} (hR : RdA w bk o (schV s p a b)) (hs : -128 ≤ s ∧ s ≤ 127) (hp : -128 ≤ p ∧ p ≤ 127) (ha : ∀ k, a k < 256) (hb : ∀ k, b k < 256) (hx : x < 256) (hok : schOk s p a b = true) :
    CE Try.prog 54 [.pointer (some ⟨bk, o, none⟩), .int .u8 (((x : Nat) : Int))] w (RetV w (.tuple #[.int .i64 (((wt a x : Nat) : Int)), .int .i64 (((wt b x : Nat) : Int))])) := by
  refine CE.enter 46 [(0, .pointer (some ⟨bk, o, none⟩)), (1, .int .u8 (((x : Nat) : Int)))] en_54 Try.func54 rfl rfl (Nat.le_of_ble_eq_true rfl) rfl ?_
  have st := St.start w
  refine Wc.seq ?_
  refine Wc.region rfl ?_
  refine Wl.pure (PR.assI rfl) ?_
  refine Wl.pure (PR.assI rfl) ?_
  refine Wl.nil ?_
  refine tn ?_
  refine Wc.seq ?_
  obtain ⟨hs1, _⟩ := schOk_spec hok
  obtain ⟨n, rfl⟩ : ∃ n : Nat, s = ((n : Nat) : Int) := ⟨s.toNat, by omega⟩
  obtain ⟨hn6, hwa, hwb⟩ := sees_rows hok x
  refine Wc.region rfl ?_
  refine Wl.pure (PR.assI rfl) ?_
  refine Wl.nil ?_
  refine tn ?_
  refine Wc.seq ?_
  refine Wc.region rfl ?_
  refine Wl.pure (PR.assI rfl) ?_
  refine Wl.nil ?_
  refine tn ?_
  refine Wc.seq ?_
  refine Wc.seq ?_
  refine Wc.region rfl ?_
  refine Wl.pure (PR.assI rfl) ?_
  refine Wl.nil ?_
  refine tn ?_
  refine Wc.block ?_
  refine Wc.loopF (γ := Nat × Nat × Nat) (fun g => [(0, .pointer (some ⟨bk, o, none⟩)), (1, .int .u8 (((x : Nat) : Int))), (4, .int .i64 (0)), (5, .int .i64 (0)), (6, .int .u8 (((g.2.1 : Nat) : Int))), (7, .int .u8 (((g.2.2 : Nat) : Int))), (8, .int .i64 (((g.1 : Nat) : Int)))]) (fun g w_ => St [] w w_ [] ∧ (g.1 ≤ n) ∧ (g.2.1 = orS a x g.1) ∧ (g.2.1 < 256) ∧ (g.2.2 = orS b x g.1) ∧ (g.2.2 < 256)) (fun g => n - g.1) ?_ ?_
  · exact ⟨(0, 0, 0), (.cons rfl (.cons rfl (.cons rfl (.cons rfl (.cons rfl (.cons rfl (.cons rfl (.nil _)))))))), st, (by first | omega | (dsimp only; omega)), rfl, (by decide), rfl, (by decide)⟩
  clear st
  rintro ⟨k, u, v⟩ w1 ⟨st, hk, hu, hub, hv, hvb⟩
  try dsimp only at st hk hu hub hv hvb ⊢
  refine Wc.seq ?_
  refine Wc.seq ?_
  refine Wc.region rfl ?_
  refine Wl.pure (PR.moveI rfl) ?_
  refine Wl.pure (PR.moveP rfl) ?_
  refine Wl.pure (PR.nil_ rfl) ?_
  refine Wl.pure (PR.fieldAddr tF_33_0 rfl) ?_
  refine Wl.loadC tA_28 rfl ((hR.st st).at_ (j := 0) (rfl) rfl) ?_
  refine Wl.pure (PR.conv (n := ((n : Nat) : Int)) tI_3 rfl (by simp only [fitI]; omega) Try.underlying28) ?_
  refine Wl.pure (PR.lss (a := ((k : Nat) : Int)) (b := ((n : Nat) : Int)) rfl rfl) ?_
  refine Wl.nil ?_
  refine tn ?_
  refine Wc.condD (p := ((k : Nat) : Int) < ((n : Nat) : Int)) rfl (fun h2 => ?_) (fun h2 => ?_)
  · refine Wc.skip ?_
    refine tn ?_
    refine Wc.seq ?_
    refine Wc.block ?_
    refine Wc.seq ?_
    refine Wc.region rfl ?_
    refine Wl.pure (PR.moveI rfl) ?_
    refine Wl.pure (PR.moveI rfl) ?_
    refine Wl.pure (PR.conv (n := ((k : Nat) : Int)) tI_74 rfl (by simp only [fitI]; omega) Try.underlying3) ?_
    refine Wl.pure (PR.shr (a := x) (n := k) rfl rfl (by decide) hx) ?_
    refine Wl.pure (PR.and (a := (x >>> k)) (b := 1) rfl rfl (by decide) (shr_lt hx) (by decide)) ?_
    refine Wl.pure (PR.eql (a := ((((x >>> k) &&& 1) : Nat) : Int)) (b := 1) rfl rfl) ?_
    refine Wl.nil ?_
    refine tn ?_
    refine Wc.condD (p := ((((x >>> k) &&& 1) : Nat) : Int) = 1) rfl (fun h3 => ?_) (fun h3 => ?_)
    · refine Wc.seq ?_
      refine Wc.region rfl ?_
      refine Wl.pure (PR.moveI rfl) ?_
      refine Wl.pure (PR.moveP rfl) ?_
      refine Wl.pure (PR.moveI rfl) ?_
      refine Wl.pure (PR.nil_ rfl) ?_
      refine Wl.pure (PR.fieldAddr tF_33_2 rfl) ?_
      refine Wl.pure (PR.idxAddrA1 (i := k) tE_29 rfl rfl (by omega)) ?_
      refine Wl.loadC tA_5 rfl ((hR.st st).at_ (schV_get_a (by omega)) (Nat.add_assoc _ _ _).symm) ?_
      refine Wl.pure (PR.or (a := u) (b := a (k)) rfl rfl (by decide) hub (ha (k))) ?_
      refine Wl.pure (PR.assI rfl) ?_
      refine Wl.nil ?_
      refine tn ?_
      refine Wc.region rfl ?_
      refine Wl.pure (PR.moveI rfl) ?_
      refine Wl.pure (PR.moveP rfl) ?_
      refine Wl.pure (PR.moveI rfl) ?_
      refine Wl.pure (PR.nil_ rfl) ?_
      refine Wl.pure (PR.fieldAddr tF_33_3 rfl) ?_
      refine Wl.pure (PR.idxAddrA1 (i := k) tE_29 rfl rfl (by omega)) ?_
      refine Wl.loadC tA_5 rfl ((hR.st st).at_ (schV_get_b (by omega)) (Nat.add_assoc _ _ _).symm) ?_
      refine Wl.pure (PR.or (a := v) (b := b (k)) rfl rfl (by decide) hvb (hb (k))) ?_
      refine Wl.pure (PR.assI rfl) ?_
      refine Wl.nil ?_
      refine bn ?_
      refine tn ?_
      refine Wc.region rfl ?_
      refine Wl.pure (PR.moveI rfl) ?_
      refine Wl.pure (PR.add (a := ((k : Nat) : Int)) (b := 1) rfl rfl (by simp only [fitI]; omega)) ?_
      refine Wl.pure (PR.assI rfl) ?_
      refine Wl.nil ?_
      refine tn ?_
      exact ⟨(k + 1, (u ||| (a (k))), (v ||| (b (k)))), (.cons rfl (.cons rfl (.cons rfl (.cons rfl (.cons rfl (.cons rfl (.cons rfl (.nil _)))))))), ⟨st, (by first | omega | (dsimp only; omega)), (by first | exact orS_t hu (by omega) | exact orS_f hu (by omega)), (by first | exact hub | exact or_lt_u8 hub (ha k)), (by first | exact orS_t hv (by omega) | exact orS_f hv (by omega)), (by first | exact hvb | exact or_lt_u8 hvb (hb k))⟩, (by first | omega | (dsimp only; omega))⟩
    · refine Wc.skip ?_
      refine bn ?_
      refine tn ?_
      refine Wc.region rfl ?_
      refine Wl.pure (PR.moveI rfl) ?_
      refine Wl.pure (PR.add (a := ((k : Nat) : Int)) (b := 1) rfl rfl (by simp only [fitI]; omega)) ?_
      refine Wl.pure (PR.assI rfl) ?_
      refine Wl.nil ?_
      refine tn ?_
      exact ⟨(k + 1, u, v), (.cons rfl (.cons rfl (.cons rfl (.cons rfl (.cons rfl (.cons rfl (.cons rfl (.nil _)))))))), ⟨st, (by first | omega | (dsimp only; omega)), (by first | exact orS_t hu (by omega) | exact orS_f hu (by omega)), (by first | exact hub | exact or_lt_u8 hub (ha k)), (by first | exact orS_t hv (by omega) | exact orS_f hv (by omega)), (by first | exact hvb | exact or_lt_u8 hvb (hb k))⟩, (by first | omega | (dsimp only; omega))⟩
  · refine Wc.exit ?_
    refine tx ?_
    refine tx ?_
    refine bh ?_
    refine tn ?_
    refine Wc.seq ?_
    refine Wc.region rfl ?_
    refine Wl.pure (PR.moveI rfl) ?_
    refine Wl.pure (PR.conv (n := ((u : Nat) : Int)) tI_80 rfl (fitN hub rfl) Try.underlying5) ?_
    refine Wl.callV (c_spec_l01Count (x := u) (Nat.lt_of_lt_of_le hub (by decide))) rfl ?_
    intro w4 hbel
    replace st := st.call hbel
    clear hbel
    refine Wl.pure (PR.moveI rfl) ?_
    refine Wl.pure (PR.conv (n := ((v : Nat) : Int)) tI_80 rfl (fitN hvb rfl) Try.underlying5) ?_
    refine Wl.callV (c_spec_l01Count (x := v) (Nat.lt_of_lt_of_le hvb (by decide))) rfl ?_
    intro w5 hbel
    replace st := st.call hbel
    clear hbel
    refine Wl.pure (PR.assI rfl) ?_
    refine Wl.pure (PR.assI rfl) ?_
    refine Wl.nil ?_
    refine tn ?_
    refine Wc.ret ?_
    refine postL.tmp2 rfl rfl rfl ?_
    refine RetV.of ?_ st.below
    obtain rfl : k = n := by omega
    refine tup_2 ?_ ?_
    · refine congrArg (fun x : Nat => Value.int .i64 (x : Int)) ?_
      rw [hu, hwa]
    · refine congrArg (fun x : Nat => Value.int .i64 (x : Int)) ?_
      rw [hv, hwb]

set_option maxHeartbeats 400000 in
set_option maxRecDepth 4000 in
theorem c_impl_Scheme_seers {s : Int} {p : Int} {a : Nat → Nat} {b : Nat → Nat} {A : Option Addr} {n : Nat} {t : Nat} {cp : Nat} {x : Nat → Int} {y : Nat → Int} {w : World} (hs : -128 ≤ s ∧ s ≤ 127) (hp : -128 ≤ p ∧ p ≤ 127) (ha : ∀ k, a k < 256) (hb : ∀ k, b k < 256) (hR : RdS w A t (hanV n x y)) (hx : ∀ i, i < n → -128 ≤ x i ∧ x i ≤ 127) (hy : ∀ i, i < n → -128 ≤ y i ∧ y i ≤ 127) (hn : n ≤ 1048576) (ht : t ≤ n) (hx0 : ∀ i, i < t → 0 ≤ x i) :
    CE Try.prog 46 [.agg (schV (s) (p) (a) (b)).toArray, .slice (A) (t) (cp)] w (RetXG w [] 2 1 ((flN (seQ a b x y t) 10)) (arrU .i64 (flN (seQ a b x y t) 10) (fun j => (fun z => z) (flA (seQ a b x y t) 10 j))) (fun b_ c_ => .slice (some ⟨b_, 0, none⟩) ((flN (seQ a b x y t) 10)) (c_)) []) := by
  refine CE.enter 22 [(0, .agg (schV (s) (p) (a) (b)).toArray), (1, .slice (A) (t) (cp))] en_46 Try.func46 rfl rfl (Nat.le_of_ble_eq_true rfl) rfl ?_
  have st := St.start w
  refine Wc.seq ?_
  refine Wc.region rfl ?_
  refine Wl.boxA st rfl ?_
  clear st
  intro b2 w1 st
  refine Wl.pure (PR.assL rfl) ?_
  refine Wl.nil ?_
  refine tn ?_
  refine Wc.seq ?_
  refine Wc.region rfl ?_
  refine Wl.buildSlice (ps := []) (cs := arrU .i64 0 (fun _ => 0) ++ []) st tS_41 tZ_2 rfl rfl rfl ?_
  clear st
  intro b7 w2 st
  refine Wl.pure (PR.assL rfl) ?_
  refine Wl.nil ?_
  refine tn ?_
  refine Wc.seq ?_
  refine Wc.seq ?_
  refine Wc.region rfl ?_
  refine Wl.pure (PR.moveI rfl) ?_
  refine Wl.nil ?_
  refine tn ?_
  refine Wc.block ?_
  refine Wc.loopF (γ := Nat × Nat × (Nat → Nat) × Nat × Nat × List Value) (fun g => [(1, .slice (A) (t) (cp)), (2, .pointer (some ⟨b2, 0, none⟩)), (4, .slice (none) (0) (0)), (5, .slice (some ⟨g.2.2.2.1, 0, none⟩) (g.2.1) (g.2.2.2.2.1)), (8, .int .i64 (((g.1 : Nat) : Int)))]) (fun g w_ => St [] w w_ [(g.2.2.2.1, arrU .i64 g.2.1 g.2.2.1 ++ g.2.2.2.2.2, 2), (b2, schV (s) (p) (a) (b), 33)] ∧ (g.1 ≤ 10) ∧ (g.2.1 = flN (seQ a b x y t) g.1) ∧ (∀ j, j < g.2.1 → g.2.2.1 j = (fun z => z) (flA (seQ a b x y t) g.1 j)) ∧ (g.2.1 ≤ g.2.2.2.2.1) ∧ (g.2.2.2.2.2.length = (g.2.2.2.2.1 - g.2.1) * 1)) (fun g => 10 - g.1) ?_ ?_
  · exact ⟨(0, 0, (fun _ => 0), b7, 0, []), (.cons rfl (.cons rfl (.cons rfl (.cons rfl (.cons rfl (.nil _)))))), st, (by first | omega | (dsimp only; omega)), rfl, (fun j hj => absurd hj (Nat.not_lt_zero _)), (Nat.le_refl _), rfl⟩
  clear st
  rintro ⟨k, mm, u, b_o, c_o, sp_o⟩ w3 ⟨st, hk, hm, hu, hc_o, hs_o⟩
  try dsimp only at st hk hm hu hc_o hs_o ⊢
  have hfl8 := flN_le (seQ a b x y t) k
  refine Wc.seq ?_
  refine Wc.region rfl ?_
  refine Wl.pure (PR.lss (a := ((k : Nat) : Int)) (b := 10) rfl rfl) ?_
  refine Wl.nil ?_
  refine tn ?_
  refine Wc.seq ?_
  refine Wc.condD (p := ((k : Nat) : Int) < 10) rfl (fun h4 => ?_) (fun h4 => ?_)
  · refine Wc.skip ?_
    refine tn ?_
    refine Wc.seq ?_
    refine Wc.block ?_
    refine Wc.seq ?_
    refine Wc.region rfl ?_
    refine Wl.pure (PR.moveI rfl) ?_
    refine Wl.pure (PR.assI rfl) ?_
    refine Wl.nil ?_
    refine tn ?_
    refine Wc.seq ?_
    refine Wc.quiet hmix (by kernel_rfl) rfl ?_
    refine Wq.loadA (i := 1) st tA_33 rfl rfl (all_sub schV_len) schV_len ?_
    refine Wq.pure (PR.moveL rfl) ?_
    refine Wq.pure (PR.moveI rfl) ?_
    refine Wq.callV (fun _ hbel => c_impl_knownTo (A := A) (n := n) (t := t) (cp := cp) (x := x) (y := y) (z := ((k : Nat) : Int)) ((hR.st st).below hbel) hx hy (by first | assumption | omega) (by first | assumption | omega) (by first | assumption | omega)) rfl ?_
    refine Wq.callV (fun _ hbel => c_impl_Scheme_sees (s := s) (p := p) (a := a) (b := b) (x := knF x y ((k : Nat) : Int) t) ha hb (knF_lt _ _ _ _)) rfl ?_
    refine Wq.nil (fun w5 hbel => ?_)
    replace st := st.call hbel
    clear hbel
    refine tn ?_
    refine Wc.condD (p := 0 < gapZ a b (knF x y ((k : Nat) : Int) t)) rfl (fun h6 => ?_) (fun h6 => ?_)
    · refine Wc.region rfl ?_
      refine Wl.pure (PR.moveL rfl) ?_
      refine Wl.pure (PR.moveI rfl) ?_
      refine Wl.buildSlice (ps := [(0, .int .i64 (((k : Nat) : Int)))]) (cs := [.int .i64 (((k : Nat) : Int))]) st tS_41 tZ_2 rfl rfl rfl ?_
      clear st
      intro b18 w7 st
      refine Wl.append (n := mm) (c := c_o) (m := 1) (cs := arrU .i64 mm u) (sp := sp_o) (vs := [.int .i64 (((k : Nat) : Int))]) (i := 1) st tS_41 tZ_2 rfl rfl rfl (by rw [(arrU_len _), Nat.mul_one]) hs_o hc_o rfl (Src.ofRdA (tyS_und tS_41) (st.rdA (i := 0) (n := 1) rfl rfl) rfl (by simp [Value.oneCell'])) (by omega) (by omega) ?_
      clear st
      intro b19 c19 sp19 w8 hc19 hs19 st
      rw [arrU_snoc] at st
      replace st : St [] w w8 [(b19, arrU .i64 (mm + 1) (upd u mm k) ++ sp19, 2), (b18, [.int .i64 (((k : Nat) : Int))], 2), (b2, schV (s) (p) (a) (b), 33)] := st
      refine Wl.pure (PR.assL rfl) ?_
      refine Wl.nil ?_
      refine bn ?_
      refine tn ?_
      refine Wc.region rfl ?_
      refine Wl.pure (PR.add (a := ((k : Nat) : Int)) (b := 1) rfl rfl (by simp only [fitI]; omega)) ?_
      refine Wl.pure (PR.moveI rfl) ?_
      refine Wl.nil ?_
      refine tn ?_
      replace st : St [] w w8 [(b19, arrU .i64 (mm + 1) (upd u mm k) ++ sp19, 2), (b2, schV (s) (p) (a) (b), 33)] := st.pick [0, 2] (by decide) rfl
      have hfl9 := flN_le (seQ a b x y t) k
      exact ⟨(k + 1, mm + 1, (upd u mm k), b19, c19, sp19), (.cons rfl (.cons rfl (.cons rfl (.cons rfl (.cons rfl (.nil _)))))), ⟨st, (by first | omega | (dsimp only; omega)), (by first | exact flN_t hm (seQ_t (by assumption)) | exact flN_f hm (seQ_f (by assumption))), (by first | exact flA_t (g := (fun z => z)) hm hu (seQ_t (by assumption)) | exact flA_f (g := (fun z => z)) hu (seQ_f (by assumption))), hc19, hs19⟩, (by first | omega | (dsimp only; omega))⟩
    · refine Wc.skip ?_
      refine bn ?_
      refine tn ?_
      refine Wc.region rfl ?_
      refine Wl.pure (PR.add (a := ((k : Nat) : Int)) (b := 1) rfl rfl (by simp only [fitI]; omega)) ?_
      refine Wl.pure (PR.moveI rfl) ?_
      refine Wl.nil ?_
      refine tn ?_
      have hfl9 := flN_le (seQ a b x y t) k
      exact ⟨(k + 1, mm, u, b_o, c_o, sp_o), (.cons rfl (.cons rfl (.cons rfl (.cons rfl (.cons rfl (.nil _)))))), ⟨st, (by first | omega | (dsimp only; omega)), (by first | exact flN_t hm (seQ_t (by assumption)) | exact flN_f hm (seQ_f (by assumption))), (by first | exact flA_t (g := (fun z => z)) hm hu (seQ_t (by assumption)) | exact flA_f (g := (fun z => z)) hu (seQ_f (by assumption))), hc_o, hs_o⟩, (by first | omega | (dsimp only; omega))⟩
  · refine Wc.exit ?_
    refine tx ?_
    refine tx ?_
    refine bh ?_
    refine tn ?_
    refine Wc.seq ?_
    refine Wc.region rfl ?_
    refine Wl.pure (PR.moveL rfl) ?_
    refine Wl.pure (PR.assL rfl) ?_
    refine Wl.nil ?_
    refine tn ?_
    refine Wc.ret ?_
    refine postL.tmp rfl rfl ?_
    obtain rfl : 10 = k := by omega
    subst hm
    rw [arrU_congr (fun j hj => hu j hj)] at st
    replace st : St [] w w3 [(b_o, arrU .i64 (flN (seQ a b x y t) 10) (fun j => (fun z => z) (flA (seQ a b x y t) 10 j)) ++ sp_o, 2)] := st.pick [0] (by decide) rfl
    exact ⟨b_o, c_o, sp_o, hc_o, hs_o, rfl, st⟩

set_option maxHeartbeats 400000 in
set_option maxRecDepth 4000 in
theorem c_spec_l07Seers {bk : Nat} {o : Nat} {s : Int} {p : Int} {a : Nat → Nat} {b : Nat → Nat} {A : Option Addr} {n : Nat} {cp : Nat} {x : Nat → Int} {y : Nat → Int} {t : Nat} {w : World} (hB : RdA w bk o (schV s p a b)) (hR : RdS w A n (hanV n x y)) (hs : -128 ≤ s ∧ s ≤ 127) (hp : -128 ≤ p ∧ p ≤ 127) (ha : ∀ k, a k < 256) (hb : ∀ k, b k < 256) (hx : ∀ i, i < n → -128 ≤ x i ∧ x i ≤ 127) (hy : ∀ i, i < n → -128 ≤ y i ∧ y i ≤ 127) (hn : n ≤ 1048576) (ht : t ≤ n) (hx0 : ∀ i, i < t → 0 ≤ x i) (hok : schOk s p a b = true) :
    CE Try.prog 45 [.pointer (some ⟨bk, o, none⟩), .slice (A) (n) (cp), .int .i64 (((t : Nat) : Int))] w (RetXG w [] 2 1 ((flN (seQ a b x y t) 10)) (arrU .i64 (flN (seQ a b x y t) 10) (fun j => (fun z => z) (flA (seQ a b x y t) 10 j))) (fun b_ c_ => .slice (some ⟨b_, 0, none⟩) ((flN (seQ a b x y t) 10)) (c_)) []) := by
  refine CE.enter 33 [(0, .pointer (some ⟨bk, o, none⟩)), (1, .slice (A) (n) (cp)), (2, .int .i64 (((t : Nat) : Int)))] en_45 Try.func45 rfl rfl (Nat.le_of_ble_eq_true rfl) rfl ?_
  have st := St.start w
  refine Wc.seq ?_
  refine Wc.region rfl ?_
  refine Wl.pure (PR.assL rfl) ?_
  refine Wl.nil ?_
  refine tn ?_
  refine Wc.seq ?_
  refine Wc.region rfl ?_
  refine Wl.buildSlice (ps := []) (cs := arrU .i64 0 (fun _ => 0) ++ []) st tS_41 tZ_2 rfl rfl rfl ?_
  clear st
  intro b11 w1 st
  refine Wl.pure (PR.assL rfl) ?_
  refine Wl.nil ?_
  refine tn ?_
  refine Wc.seq ?_
  refine Wc.seq ?_
  refine Wc.region rfl ?_
  refine Wl.pure (PR.assI rfl) ?_
  refine Wl.nil ?_
  refine tn ?_
  refine Wc.block ?_
  refine Wc.loopF (γ := Nat × Nat × (Nat → Nat) × Nat × Nat × List Value) (fun g => [(0, .pointer (some ⟨bk, o, none⟩)), (1, .slice (A) (n) (cp)), (2, .int .i64 (((t : Nat) : Int))), (6, .slice (none) (0) (0)), (7, .slice (some ⟨g.2.2.2.1, 0, none⟩) (g.2.1) (g.2.2.2.2.1)), (8, .int .i64 (((g.1 : Nat) : Int)))]) (fun g w_ => St [] w w_ [(g.2.2.2.1, arrU .i64 g.2.1 g.2.2.1 ++ g.2.2.2.2.2, 2)] ∧ (g.1 ≤ 10) ∧ (g.2.1 = flN (seQ a b x y t) g.1) ∧ (∀ j, j < g.2.1 → g.2.2.1 j = (fun z => z) (flA (seQ a b x y t) g.1 j)) ∧ (g.2.1 ≤ g.2.2.2.2.1) ∧ (g.2.2.2.2.2.length = (g.2.2.2.2.1 - g.2.1) * 1)) (fun g => 10 - g.1) ?_ ?_
  · exact ⟨(0, 0, (fun _ => 0), b11, 0, []), (.cons rfl (.cons rfl (.cons rfl (.cons rfl (.cons rfl (.cons rfl (.nil _))))))), st, (by first | omega | (dsimp only; omega)), rfl, (fun j hj => absurd hj (Nat.not_lt_zero _)), (Nat.le_refl _), rfl⟩
  clear st
  rintro ⟨k, mm, u, b_o, c_o, sp_o⟩ w2 ⟨st, hk, hm, hu, hc_o, hs_o⟩
  try dsimp only at st hk hm hu hc_o hs_o ⊢
  have hfl8 := flN_le (seQ a b x y t) k
  refine Wc.seq ?_
  refine Wc.seq ?_
  refine Wc.region rfl ?_
  refine Wl.pure (PR.moveI rfl) ?_
  refine Wl.pure (PR.lss (a := ((k : Nat) : Int)) (b := 10) rfl rfl) ?_
  refine Wl.nil ?_
  refine tn ?_
  refine Wc.condD (p := ((k : Nat) : Int) < 10) rfl (fun h3 => ?_) (fun h3 => ?_)
  · refine Wc.skip ?_
    refine tn ?_
    refine Wc.seq ?_
    refine Wc.block ?_
    refine Wc.seq ?_
    refine Wc.region rfl ?_
    refine Wl.pure (PR.moveP rfl) ?_
    refine Wl.pure (PR.moveL rfl) ?_
    refine Wl.pure (PR.moveI rfl) ?_
    refine Wl.pure (PR.moveI rfl) ?_
    refine Wl.callV (c_spec_l07Known (A := A) (n := n) (t := t) (cp := cp) (x := x) (y := y) (z := ((k : Nat) : Int)) (hR.st st) hx hy (by first | assumption | omega) (by first | assumption | omega) (by first | assumption | omega)) rfl ?_
    intro w4 hbel
    replace st := st.call hbel
    clear hbel
    refine Wl.callV (c_spec_l03Sees (bk := bk) (o := o) (s := s) (p := p) (a := a) (b := b) (x := knF x y ((k : Nat) : Int) t) (hB.st st) (by first | assumption | omega) (by first | assumption | omega) ha hb (knF_lt _ _ _ _) (by first | assumption | omega)) rfl ?_
    intro w5 hbel
    replace st := st.call hbel
    clear hbel
    refine Wl.pure (PR.moveV (.tuple #[.int .i64 (((wt a (knF x y ((k : Nat) : Int) t) : Nat) : Int)), .int .i64 (((wt b (knF x y ((k : Nat) : Int) t) : Nat) : Int))]) rfl) ?_
    refine Wl.pure (PR.extr (i := 0) (vs := [.int .i64 (((wt a (knF x y ((k : Nat) : Int) t) : Nat) : Int)), .int .i64 (((wt b (knF x y ((k : Nat) : Int) t) : Nat) : Int))]) rfl rfl) ?_
    refine Wl.pure (PR.extr (i := 1) (vs := [.int .i64 (((wt a (knF x y ((k : Nat) : Int) t) : Nat) : Int)), .int .i64 (((wt b (knF x y ((k : Nat) : Int) t) : Nat) : Int))]) rfl rfl) ?_
    refine Wl.pure (PR.assI rfl) ?_
    refine Wl.pure (PR.assI rfl) ?_
    refine Wl.nil ?_
    refine tn ?_
    refine Wc.seq ?_
    refine Wc.region rfl ?_
    refine Wl.pure (PR.moveI rfl) ?_
    refine Wl.pure (PR.moveI rfl) ?_
    refine Wl.pure (PR.gtr (a := ((wt b (knF x y ((k : Nat) : Int) t) : Nat) : Int)) (b := ((wt a (knF x y ((k : Nat) : Int) t) : Nat) : Int)) rfl rfl) ?_
    refine Wl.nil ?_
    refine tn ?_
    refine Wc.condD (p := ((wt a (knF x y ((k : Nat) : Int) t) : Nat) : Int) < ((wt b (knF x y ((k : Nat) : Int) t) : Nat) : Int)) rfl (fun h6 => ?_) (fun h6 => ?_)
    · refine Wc.region rfl ?_
      refine Wl.pure (PR.moveL rfl) ?_
      refine Wl.pure (PR.moveI rfl) ?_
      refine Wl.buildSlice (ps := [(0, .int .i64 (((k : Nat) : Int)))]) (cs := [.int .i64 (((k : Nat) : Int))]) st tS_41 tZ_2 rfl rfl rfl ?_
      clear st
      intro b30 w7 st
      refine Wl.append (n := mm) (c := c_o) (m := 1) (cs := arrU .i64 mm u) (sp := sp_o) (vs := [.int .i64 (((k : Nat) : Int))]) (i := 1) st tS_41 tZ_2 rfl rfl rfl (by rw [(arrU_len _), Nat.mul_one]) hs_o hc_o rfl (Src.ofRdA (tyS_und tS_41) (st.rdA (i := 0) (n := 1) rfl rfl) rfl (by simp [Value.oneCell'])) (by omega) (by omega) ?_
      clear st
      intro b31 c31 sp31 w8 hc31 hs31 st
      rw [arrU_snoc] at st
      replace st : St [] w w8 [(b31, arrU .i64 (mm + 1) (upd u mm k) ++ sp31, 2), (b30, [.int .i64 (((k : Nat) : Int))], 2)] := st
      refine Wl.pure (PR.assL rfl) ?_
      refine Wl.nil ?_
      refine bn ?_
      refine tn ?_
      refine Wc.region rfl ?_
      refine Wl.pure (PR.moveI rfl) ?_
      refine Wl.pure (PR.add (a := ((k : Nat) : Int)) (b := 1) rfl rfl (by simp only [fitI]; omega)) ?_
      refine Wl.pure (PR.assI rfl) ?_
      refine Wl.nil ?_
      refine tn ?_
      replace st : St [] w w8 [(b31, arrU .i64 (mm + 1) (upd u mm k) ++ sp31, 2)] := st.pick [0] (by decide) rfl
      have hfl9 := flN_le (seQ a b x y t) k
      exact ⟨(k + 1, mm + 1, (upd u mm k), b31, c31, sp31), (.cons rfl (.cons rfl (.cons rfl (.cons rfl (.cons rfl (.cons rfl (.nil _))))))), ⟨st, (by first | omega | (dsimp only; omega)), (by first | exact flN_t hm (seQ_t (by unfold gapZ; omega)) | exact flN_f hm (seQ_f (by unfold gapZ; omega))), (by first | exact flA_t (g := (fun z => z)) hm hu (seQ_t (by unfold gapZ; omega)) | exact flA_f (g := (fun z => z)) hu (seQ_f (by unfold gapZ; omega))), hc31, hs31⟩, (by first | omega | (dsimp only; omega))⟩
    · refine Wc.skip ?_
      refine bn ?_
      refine tn ?_
      refine Wc.region rfl ?_
      refine Wl.pure (PR.moveI rfl) ?_
      refine Wl.pure (PR.add (a := ((k : Nat) : Int)) (b := 1) rfl rfl (by simp only [fitI]; omega)) ?_
      refine Wl.pure (PR.assI rfl) ?_
      refine Wl.nil ?_
      refine tn ?_
      have hfl9 := flN_le (seQ a b x y t) k
      exact ⟨(k + 1, mm, u, b_o, c_o, sp_o), (.cons rfl (.cons rfl (.cons rfl (.cons rfl (.cons rfl (.cons rfl (.nil _))))))), ⟨st, (by first | omega | (dsimp only; omega)), (by first | exact flN_t hm (seQ_t (by unfold gapZ; omega)) | exact flN_f hm (seQ_f (by unfold gapZ; omega))), (by first | exact flA_t (g := (fun z => z)) hm hu (seQ_t (by unfold gapZ; omega)) | exact flA_f (g := (fun z => z)) hu (seQ_f (by unfold gapZ; omega))), hc_o, hs_o⟩, (by first | omega | (dsimp only; omega))⟩
  · refine Wc.exit ?_
    refine tx ?_
    refine tx ?_
    refine bh ?_
    refine tn ?_
    refine Wc.seq ?_
    refine Wc.region rfl ?_
    refine Wl.pure (PR.moveL rfl) ?_
    refine Wl.pure (PR.assL rfl) ?_
    refine Wl.nil ?_
    refine tn ?_
    refine Wc.ret ?_
    refine postL.tmp rfl rfl ?_
    obtain rfl : 10 = k := by omega
    subst hm
    rw [arrU_congr (fun j hj => hu j hj)] at st
    exact ⟨b_o, c_o, sp_o, hc_o, hs_o, rfl, st⟩

end Go.Proofs.Ytgcgfcfkbeomdaa
