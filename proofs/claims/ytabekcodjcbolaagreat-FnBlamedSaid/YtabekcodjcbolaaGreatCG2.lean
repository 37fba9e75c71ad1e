/-
  Contracts of functions, printed by a program of ours.
-/
import Derived.Test.YtabekcodjcbolaaGreatCG1
namespace Go.Proofs.YtabekcodjcbolaaGreat
open Go.RowKit
set_option linter.unusedVariables false
set_option linter.unusedSimpArgs false

set_option maxHeartbeats 400000 in
set_option maxRecDepth 4000 in
theorem c_impl_Scheme_wrong_1 {b1 : Nat} {o1 : Nat} {b2 : Nat} {o2 : Nat} {b3 : Nat} {o3 : Nat} {s : Nat} {p : Nat} {a : Nat → Nat} {b : Nat → Nat} {A : Option Addr} {n : Nat} {cp : Nat} {y : Nat → Int} {c : Nat → Nat → Nat} {x : Nat} {k : Nat} {w : World} (h1 : RdA w b1 o1 [.slice A n cp]) (h2 : RdA w b2 o2 (schV ((s : Nat) : Int) ((p : Nat) : Int) a b)) (h3 : RdA w b3 o3 [.int .u64 ((x : Nat) : Int)]) (hp8 : 1 ≤ p ∧ p ≤ 8) (ha : ∀ k, a k < 256) (hb : ∀ k, b k < 256) (hs6 : 1 ≤ s ∧ s ≤ 6) (hza : ∀ k, s ≤ k → k < 6 → a k = 0) (hzb : ∀ k, s ≤ k → k < 6 → b k = 0) (hRL : RdS w A n (layS n y c)) (hg : ∀ i, i < n → -128 ≤ y i ∧ y i ≤ 127) (hc : ∀ i k, c i k < 256) (hn6 : 1 ≤ n ∧ n ≤ 6) (hy0 : y 0 = ((p : Nat) : Int)) (hx : x < 18446744073709551616) (hk : k < 64) (hns : n = s) :
    CE Tryz.prog 59 [.int .i64 (((k : Nat) : Int)), .pointer (some ⟨b1, o1, none⟩), .pointer (some ⟨b2, o2, none⟩), .pointer (some ⟨b3, o3, none⟩)] w (RetV w (.bool ((wrQ s p a b n c x) k))) := by
  refine CE.enter 18 [(0, .int .i64 (((k : Nat) : Int))), (1, .pointer (some ⟨b1, o1, none⟩)), (2, .pointer (some ⟨b2, o2, none⟩)), (3, .pointer (some ⟨b3, o3, none⟩))] en_59 Tryz.func59 rfl rfl (Nat.le_of_ble_eq_true rfl) rfl ?_
  have st := St.start w
  refine Wc.seq ?_
  refine Wc.region rfl ?_
  refine Wl.pure (PR.assB rfl) ?_
  refine Wl.nil ?_
  refine tn ?_
  refine Wc.seq ?_
  refine Wc.tree1 (w0 := w) (X := []) (Ks := []) (S := fun i => i == 2 || i == 5 || i == 8 || i == 9 || i == 10) (.st 1 0 (.st 7 0 (.st 0 3 (.st 3 3 (.st 4 3 (.st 6 3 (.st 2 2 (.st 5 2 (.st 8 2 (.st 9 2 (.st 10 2 (.st 11 0 (.st 12 0 PT.nil))))))))))))) hmix (by kernel_rfl) (by kernel_rfl) rfl rfl ?_
  intro w1 hbel
  replace st := st.call hbel
  clear hbel
  refine WT.pure rfl (PR.moveI rfl) ?_
  refine WT.pure rfl (PR.moveI rfl) ?_
  refine WT.loadC rfl h1.1 (by simp) tA_32 rfl ((h1.st st).at_ (j := 0) (rfl) rfl) ?_
  refine WT.loadAC rfl h2.1 (by simp) tA_27 rfl schV_len ((h2.st st).sub (all_sub schV_len) rfl) ?_
  refine WT.loadAC rfl h2.1 (by simp) tA_27 rfl schV_len ((h2.st st).sub (all_sub schV_len) rfl) ?_
  refine WT.loadC rfl h3.1 (by simp) tA_30 rfl ((h3.st st).at_ (j := 0) (rfl) rfl) ?_
  have st0 := st
  refine WT.s rfl rfl ?_
  refine Wl.callXG [] st (c_impl_columnsAt (A := A) (n := n) (cp := cp) (y := y) (c := c) (k := k) (hRL.st st) hg hc (by first | assumption | omega) (by first | assumption | omega) (by first | assumption | omega) (by first | assumption | omega)) rfl rfl ?_
  clear st
  intro b8 c8 sp8 w2 hc8 hs8 st
  replace st : St [] w w2 [(b8, arrU .u8 p (srtF p (colR (fun r => c r k) 255 n)) ++ sp8, 5)] := st
  refine Wl.nil ⟨rfl, RK.of st0 st ksN, ?_⟩
  clear st0
  have st0 := st
  refine WT.s rfl rfl ?_
  refine Wl.callV (c_impl_Scheme_all (s := ((s : Nat) : Int)) (p := ((p : Nat) : Int)) (a := a) (b := b) (by first | assumption | omega) ha hb) rfl ?_
  intro w3 hbel
  replace st := st.call hbel
  clear hbel
  refine Wl.nil ⟨rfl, RK.of st0 st ksN, ?_⟩
  clear st0
  have st0 := st
  refine WT.s rfl rfl ?_
  refine Wl.callV (c_bit_impl (x := x) (k := k) hx (by first | assumption | omega)) rfl ?_
  intro w4 hbel
  replace st := st.call hbel
  clear hbel
  refine Wl.nil ⟨rfl, RK.of st0 st ksN, ?_⟩
  clear st0
  have st0 := st
  refine WT.s rfl rfl ?_
  refine Wl.callXG [] st (c_sortedColumnsQ (s := s) (p := p) (a := a) (b := b) (x := ((((1 <<< (((s : Nat) : Int)).toNat) % 256) + 255) % 256)) (q := (bitB x k)) (by first | assumption | omega) ha hb (Nat.mod_lt _ (by decide))) rfl rfl ?_
  clear st
  intro b15 c15 sp15 w5 hc15 hs15 st
  replace st : St [] w w5 [(b15, arrU .u8 p (srtF p (colR (bif (bitB x k) then b else a) ((((1 <<< (((s : Nat) : Int)).toNat) % 256) + 255) % 256) 6)) ++ sp15, 5), (b8, arrU .u8 p (srtF p (colR (fun r => c r k) 255 n)) ++ sp8, 5)] := st
  refine Wl.nil ⟨rfl, RK.of st0 st ksN, ?_⟩
  clear st0
  have st0 := st
  refine WT.s rfl rfl ?_
  refine Wl.callV (c_slices_Equal_uint8_uint8 (A := some ⟨b8, 0, none⟩) (n := p) (cp := c8) (c := (srtF p (colR (fun r => c r k) 255 n))) (B := some ⟨b15, 0, none⟩) (cq := c15) (d := (srtF p (colR (bif (bitB x k) then b else a) ((((1 <<< (((s : Nat) : Int)).toNat) % 256) + 255) % 256) 6))) ((st.rdA (i := 1) (n := p) rfl (app_all (arrU_len _))).sl) ((st.rdA (i := 0) (n := p) rfl (app_all (arrU_len _))).sl) (srtF_lt (colR_lt _ _ _)) (srtF_lt (colR_lt2 ha hb)) (by first | assumption | omega)) rfl ?_
  intro w6 hbel
  replace st := st.call hbel
  clear hbel
  refine Wl.nil ⟨rfl, RK.of st0 st ksN, ?_⟩
  clear st0
  refine WT.pure rfl (PR.not_ rfl) ?_
  refine WT.pure rfl (PR.assB rfl) ?_
  refine WT.nil ?_
  refine tn ?_
  refine Wc.ret ?_
  refine postL.tmp rfl rfl ?_
  refine RetV.of ?_ st.below
  refine congrArg Value.bool ?_
  exact wr_impl (by omega) (by omega) hza hzb

set_option maxHeartbeats 400000 in
set_option maxRecDepth 4000 in
theorem c_impl_pictureOf {fk : Nat} {cap : List Value} {q : Nat → Bool} {w : World} (hF : ∀ i, i < 64 → ∀ w', Below w.heap.size w w' → CE Tryz.prog fk (.int .i64 ((i : Nat) : Int) :: cap) w' (RetV w' (.bool (q i)))) :
    CE Tryz.prog 36 [.func (.func fk) #[] cap.toArray] w (RetV w (.int .u64 (((pic q : Nat) : Int)))) := by
  refine CE.enter 17 [(0, .func (.func fk) #[] cap.toArray)] en_36 Tryz.func36 rfl rfl (Nat.le_of_ble_eq_true rfl) rfl ?_
  have st := St.start w
  refine Wc.seq ?_
  refine Wc.region rfl ?_
  refine Wl.pure (PR.assI rfl) ?_
  refine Wl.nil ?_
  refine tn ?_
  refine Wc.seq ?_
  refine Wc.region rfl ?_
  refine Wl.pure (PR.assI rfl) ?_
  refine Wl.nil ?_
  refine tn ?_
  refine Wc.seq ?_
  refine Wc.seq ?_
  refine Wc.region rfl ?_
  refine Wl.pure (PR.moveI rfl) ?_
  refine Wl.nil ?_
  refine tn ?_
  refine Wc.block ?_
  refine Wc.loopF (γ := Nat × Nat) (fun g => [(0, .func (.func fk) #[] cap.toArray), (2, .int .u64 (0)), (3, .int .u64 (((g.2 : Nat) : Int))), (5, .int .i64 (((g.1 : Nat) : Int)))]) (fun g w_ => St [] w w_ [] ∧ (g.1 ≤ 64) ∧ (g.2 = picF q g.1) ∧ (g.2 < 18446744073709551616)) (fun g => 64 - g.1) ?_ ?_
  · exact ⟨(0, 0), (.cons rfl (.cons rfl (.cons rfl (.cons rfl (.nil _))))), st, (by first | omega | (dsimp only; omega)), rfl, (by decide)⟩
  clear st
  rintro ⟨k, v⟩ w1 ⟨st, hk, hv, hvb⟩
  try dsimp only at st hk hv hvb ⊢
  refine Wc.seq ?_
  refine Wc.region rfl ?_
  refine Wl.pure (PR.lss (a := ((k : Nat) : Int)) (b := 64) rfl rfl) ?_
  refine Wl.nil ?_
  refine tn ?_
  refine Wc.seq ?_
  refine Wc.condD (p := ((k : Nat) : Int) < 64) rfl (fun h2 => ?_) (fun h2 => ?_)
  · refine Wc.skip ?_
    refine tn ?_
    refine Wc.seq ?_
    refine Wc.block ?_
    refine Wc.seq ?_
    refine Wc.region rfl ?_
    refine Wl.pure (PR.moveI rfl) ?_
    refine Wl.pure (PR.assI rfl) ?_
    refine Wl.nil ?_
    refine tn ?_
    refine Wc.seq ?_
    refine Wc.region rfl ?_
    refine Wl.pure (PR.moveF rfl) ?_
    refine Wl.pure (PR.moveI rfl) ?_
    refine Wl.callFW rfl rfl (hF k (by omega) _ st.below) ?_
    intro w3 hbel
    replace st := st.call hbel
    clear hbel
    refine Wl.nil ?_
    refine tn ?_
    refine Wc.condB (b := q k) rfl (fun h4 => ?_) (fun h4 => ?_)
    · refine Wc.region rfl ?_
      refine Wl.pure (PR.moveI rfl) ?_
      refine Wl.pure (PR.moveI rfl) ?_
      refine Wl.pure (PR.shl (a := 1) (n := k) rfl rfl (by decide)) ?_
      refine Wl.pure (PR.or (a := v) (b := ((1 <<< k) % 18446744073709551616)) rfl rfl (by decide) hvb (Nat.mod_lt _ (by decide))) ?_
      refine Wl.pure (PR.assI rfl) ?_
      refine Wl.nil ?_
      refine bn ?_
      refine tn ?_
      refine Wc.region rfl ?_
      refine Wl.pure (PR.add (a := ((k : Nat) : Int)) (b := 1) rfl rfl (by simp only [fitI]; omega)) ?_
      refine Wl.pure (PR.moveI rfl) ?_
      refine Wl.nil ?_
      refine tn ?_
      exact ⟨(k + 1, (v ||| ((1 <<< k) % 18446744073709551616))), (.cons rfl (.cons rfl (.cons rfl (.cons rfl (.nil _))))), ⟨st, (by first | omega | (dsimp only; omega)), (by first | exact picF_t hv (by assumption) | exact picF_f hv (by assumption)), (by first | exact hvb | exact or_lt_u64 hvb (Nat.mod_lt _ (by decide)))⟩, (by first | omega | (dsimp only; omega))⟩
    · refine Wc.skip ?_
      refine bn ?_
      refine tn ?_
      refine Wc.region rfl ?_
      refine Wl.pure (PR.add (a := ((k : Nat) : Int)) (b := 1) rfl rfl (by simp only [fitI]; omega)) ?_
      refine Wl.pure (PR.moveI rfl) ?_
      refine Wl.nil ?_
      refine tn ?_
      exact ⟨(k + 1, v), (.cons rfl (.cons rfl (.cons rfl (.cons rfl (.nil _))))), ⟨st, (by first | omega | (dsimp only; omega)), (by first | exact picF_t hv (by assumption) | exact picF_f hv (by assumption)), (by first | exact hvb | exact or_lt_u64 hvb (Nat.mod_lt _ (by decide)))⟩, (by first | omega | (dsimp only; omega))⟩
  · refine Wc.exit ?_
    refine tx ?_
    refine tx ?_
    refine bh ?_
    refine tn ?_
    refine Wc.seq ?_
    refine Wc.region rfl ?_
    refine Wl.pure (PR.moveI rfl) ?_
    refine Wl.pure (PR.assI rfl) ?_
    refine Wl.nil ?_
    refine tn ?_
    refine Wc.ret ?_
    refine postL.tmp rfl rfl ?_
    refine RetV.of ?_ st.below
    refine congrArg (fun x : Nat => Value.int .u64 (x : Int)) ?_
    obtain rfl : k = 64 := by omega
    exact hv

set_option maxHeartbeats 400000 in
set_option maxRecDepth 4000 in
theorem c_impl_Scheme_wrong {s : Nat} {p : Nat} {a : Nat → Nat} {b : Nat → Nat} {A : Option Addr} {n : Nat} {cp : Nat} {y : Nat → Int} {c : Nat → Nat → Nat} {x : Nat} {w : World} (hp8 : 1 ≤ p ∧ p ≤ 8) (ha : ∀ k, a k < 256) (hb : ∀ k, b k < 256) (hs6 : 1 ≤ s ∧ s ≤ 6) (hza : ∀ k, s ≤ k → k < 6 → a k = 0) (hzb : ∀ k, s ≤ k → k < 6 → b k = 0) (hRL : RdS w A n (layS n y c)) (hg : ∀ i, i < n → -128 ≤ y i ∧ y i ≤ 127) (hc : ∀ i k, c i k < 256) (hn6 : 1 ≤ n ∧ n ≤ 6) (hy0 : y 0 = ((p : Nat) : Int)) (hx : x < 18446744073709551616) (hns : n = s) :
    CE Tryz.prog 32 [.agg (schV ((s : Nat) : Int) ((p : Nat) : Int) (a) (b)).toArray, .int .u64 (((x : Nat) : Int)), .slice (A) (n) (cp)] w (RetV w (.int .u64 (((pic (wrQ s p a b n c x) : Nat) : Int)))) := by
  refine CE.enter 9 [(0, .agg (schV ((s : Nat) : Int) ((p : Nat) : Int) (a) (b)).toArray), (1, .int .u64 (((x : Nat) : Int))), (2, .slice (A) (n) (cp))] en_32 Tryz.func32 rfl rfl (Nat.le_of_ble_eq_true rfl) rfl ?_
  have st := St.start w
  refine Wc.seq ?_
  refine Wc.region rfl ?_
  refine Wl.boxA st rfl ?_
  clear st
  intro b3 w1 st
  refine Wl.boxI st rfl ?_
  clear st
  intro b4 w2 st
  refine Wl.boxL st rfl ?_
  clear st
  intro b5 w3 st
  refine Wl.pure (PR.assI rfl) ?_
  refine Wl.nil ?_
  refine tn ?_
  refine Wc.seq ?_
  refine Wc.region rfl ?_
  refine Wl.pure (PR.mkFunc (vs := [.pointer (some ⟨b5, 0, none⟩), .pointer (some ⟨b3, 0, none⟩), .pointer (some ⟨b4, 0, none⟩)]) rfl) ?_
  refine Wl.callV (c_impl_pictureOf (fk := 59) (cap := [.pointer (some ⟨b5, 0, none⟩), .pointer (some ⟨b3, 0, none⟩), .pointer (some ⟨b4, 0, none⟩)]) (q := (wrQ s p a b n c x)) (fun i hi w' hb' => c_impl_Scheme_wrong_1 ((st.rdA (i := 0) (n := 1) rfl rfl).below hb') ((st.rdA (i := 2) rfl (all_sub schV_len)).below hb') ((st.rdA (i := 1) (n := 1) rfl rfl).below hb') hp8 ha hb hs6 hza hzb ((hRL.st st).below hb') hg hc hn6 hy0 hx hi hns)) rfl ?_
  intro w4 hbel
  replace st := st.call hbel
  clear hbel
  refine Wl.pure (PR.assI rfl) ?_
  refine Wl.nil ?_
  refine tn ?_
  refine Wc.ret ?_
  refine postL.tmp rfl rfl ?_
  exact RetV.of rfl st.below

set_option maxHeartbeats 400000 in
set_option maxRecDepth 4000 in
theorem c_spec_l07Wrong {bk : Nat} {o : Nat} {s : Nat} {p : Nat} {a : Nat → Nat} {b : Nat → Nat} {A : Option Addr} {n : Nat} {cp : Nat} {y : Nat → Int} {c : Nat → Nat → Nat} {x : Nat} {w : World} (hR : RdA w bk o (schV ((s : Nat) : Int) ((p : Nat) : Int) a b)) (hp8 : 1 ≤ p ∧ p ≤ 8) (ha : ∀ k, a k < 256) (hb : ∀ k, b k < 256) (hs6 : 1 ≤ s ∧ s ≤ 6) (hRL : RdS w A n (layS n y c)) (hg : ∀ i, i < n → -128 ≤ y i ∧ y i ≤ 127) (hc : ∀ i k, c i k < 256) (hn6 : 1 ≤ n ∧ n ≤ 6) (hx : x < 18446744073709551616) (hns : n = s) :
    CE Tryz.prog 48 [.pointer (some ⟨bk, o, none⟩), .int .u64 (((x : Nat) : Int)), .slice (A) (n) (cp)] w (RetV w (.int .u64 (((pic (wrQ s p a b n c x) : Nat) : Int)))) := by
  refine CE.enter 43 [(0, .pointer (some ⟨bk, o, none⟩)), (1, .int .u64 (((x : Nat) : Int))), (2, .slice (A) (n) (cp))] en_48 Tryz.func48 rfl rfl (Nat.le_of_ble_eq_true rfl) rfl ?_
  have st := St.start w
  refine Wc.seq ?_
  refine Wc.region rfl ?_
  refine Wl.pure (PR.assI rfl) ?_
  refine Wl.nil ?_
  refine tn ?_
  refine Wc.seq ?_
  refine Wc.region rfl ?_
  refine Wl.pure (PR.moveP rfl) ?_
  refine Wl.callXG [] st (c_l07DueF (bk := bk) (o := o) (s := s) (p := p) (a := a) (b := b) (hR.st st) (by first | assumption | omega) ha hb (by first | assumption | omega)) rfl rfl ?_
  clear st
  intro b13 c13 sp13 w1 hc13 hs13 st
  replace st : St [] w w1 [(b13, arrU .u8 p (dueF s p a b false) ++ sp13, 5)] := st
  refine Wl.pure (PR.assL rfl) ?_
  refine Wl.nil ?_
  refine tn ?_
  refine Wc.seq ?_
  refine Wc.region rfl ?_
  refine Wl.pure (PR.moveP rfl) ?_
  refine Wl.callXG [] st (c_l07DueT (bk := bk) (o := o) (s := s) (p := p) (a := a) (b := b) (hR.st st) (by first | assumption | omega) ha hb (by first | assumption | omega)) rfl rfl ?_
  clear st
  intro b15 c15 sp15 w2 hc15 hs15 st
  replace st : St [] w w2 [(b15, arrU .u8 p (dueF s p a b true) ++ sp15, 5), (b13, arrU .u8 p (dueF s p a b false) ++ sp13, 5)] := st
  refine Wl.pure (PR.assL rfl) ?_
  refine Wl.nil ?_
  refine tn ?_
  refine Wc.seq ?_
  refine Wc.region rfl ?_
  refine Wl.pure (PR.assI rfl) ?_
  refine Wl.nil ?_
  refine tn ?_
  refine Wc.seq ?_
  refine Wc.seq ?_
  refine Wc.region rfl ?_
  refine Wl.pure (PR.assI rfl) ?_
  refine Wl.nil ?_
  refine tn ?_
  refine Wc.block ?_
  refine Wc.loopF (γ := Nat × Nat) (fun g => [(0, .pointer (some ⟨bk, o, none⟩)), (1, .int .u64 (((x : Nat) : Int))), (2, .slice (A) (n) (cp)), (6, .int .u64 (0)), (7, .slice (some ⟨b13, 0, none⟩) (p) (c13)), (8, .slice (some ⟨b15, 0, none⟩) (p) (c15)), (9, .int .u64 (((g.2 : Nat) : Int))), (10, .int .i64 (((g.1 : Nat) : Int)))]) (fun g w_ => St [] w w_ [(b15, arrU .u8 p (dueF s p a b true) ++ sp15, 5), (b13, arrU .u8 p (dueF s p a b false) ++ sp13, 5)] ∧ (g.1 ≤ 64) ∧ (g.2 = picF (wrQ s p a b n c x) g.1) ∧ (g.2 < 18446744073709551616)) (fun g => 64 - g.1) ?_ ?_
  · exact ⟨(0, 0), (.cons rfl (.cons rfl (.cons rfl (.cons rfl (.cons rfl (.cons rfl (.cons rfl (.cons rfl (.nil _))))))))), st, (by first | omega | (dsimp only; omega)), rfl, (by decide)⟩
  clear st
  rintro ⟨k, v⟩ w3 ⟨st, hk, hv, hvb⟩
  try dsimp only at st hk hv hvb ⊢
  refine Wc.seq ?_
  refine Wc.seq ?_
  refine Wc.region rfl ?_
  refine Wl.pure (PR.moveI rfl) ?_
  refine Wl.pure (PR.lss (a := ((k : Nat) : Int)) (b := 64) rfl rfl) ?_
  refine Wl.nil ?_
  refine tn ?_
  refine Wc.condD (p := ((k : Nat) : Int) < 64) rfl (fun h4 => ?_) (fun h4 => ?_)
  · refine Wc.skip ?_
    refine tn ?_
    refine Wc.seq ?_
    refine Wc.block ?_
    refine Wc.seq ?_
    refine Wc.region rfl ?_
    refine Wl.pure (PR.moveL rfl) ?_
    refine Wl.pure (PR.assL rfl) ?_
    refine Wl.nil ?_
    refine tn ?_
    refine Wc.seq ?_
    refine Wc.seq ?_
    refine Wc.region rfl ?_
    refine Wl.pure (PR.moveI rfl) ?_
    refine Wl.pure (PR.moveI rfl) ?_
    refine Wl.callV (c_bit_pec (x := x) (k := k) hx (by first | assumption | omega)) rfl ?_
    intro w5 hbel
    replace st := st.call hbel
    clear hbel
    refine Wl.nil ?_
    refine tn ?_
    refine Wc.condB (b := bitB x k) rfl (fun h6 => ?_) (fun h6 => ?_)
    · refine Wc.region rfl ?_
      refine Wl.pure (PR.moveL rfl) ?_
      refine Wl.pure (PR.assL rfl) ?_
      refine Wl.nil ?_
      refine tn ?_
      refine Wc.seq ?_
      refine Wc.tree1 (w0 := w) (X := []) (Ks := []) (S := fun i => i == 2 || i == 8 || i == 10) (.st 0 0 (.st 1 0 (.st 3 0 (.st 4 0 (.st 5 0 (.st 9 0 (.st 6 3 (.st 7 0 (.st 2 2 (.st 8 2 (.st 10 2 (.st 11 0 PT.nil)))))))))))) hmix (by kernel_rfl) (by kernel_rfl) rfl rfl ?_
      intro w7 hbel
      replace st := st.call hbel
      clear hbel
      refine WT.pure rfl (PR.moveL rfl) ?_
      refine WT.pure rfl (PR.moveI rfl) ?_
      refine WT.pure rfl (PR.moveP rfl) ?_
      refine WT.pure rfl (PR.nil_ rfl) ?_
      refine WT.pure rfl (PR.fieldAddr tF_27_1 rfl) ?_
      refine WT.pure rfl (PR.moveL rfl) ?_
      refine WT.loadC rfl hR.1 (by simp) tA_24 rfl ((hR.st st).at_ (j := 1) (rfl) rfl) ?_
      refine WT.pure rfl (PR.conv (n := ((p : Nat) : Int)) tI_2 rfl (by simp only [fitI]; omega) Tryz.underlying24) ?_
      have st0 := st
      refine WT.s rfl rfl ?_
      refine Wl.callXG [] st (c_spec_l03Rows (A := A) (n := n) (cp := cp) (y := y) (c := c) (k := k) (hRL.st st) hg hc (by first | assumption | omega) (by first | assumption | omega)) rfl rfl ?_
      clear st
      intro b27 c27 sp27 w8 hc27 hs27 st
      replace st : St [] w w8 [(b27, arrU .u8 n (fun r => c r k) ++ sp27, 5), (b15, arrU .u8 p (dueF s p a b true) ++ sp15, 5), (b13, arrU .u8 p (dueF s p a b false) ++ sp13, 5)] := st
      refine Wl.nil ⟨rfl, RK.of st0 st ksN, ?_⟩
      clear st0
      have st0 := st
      refine WT.s rfl rfl ?_
      refine Wl.callXG [] st (c_spec_l03Columns (A := some ⟨b27, 0, none⟩) (n := n) (cp := c27) (c := (fun r => c r k)) (m := p) ((st.rdA (i := 0) (n := n) rfl (app_all (arrU_len _))).sl) (fun r => hc r _) (by first | assumption | omega) (by first | assumption | omega)) rfl rfl ?_
      clear st
      intro b33 c33 sp33 w9 hc33 hs33 st
      replace st : St [] w w9 [(b33, arrU .u8 p (srtF p (colsA n (fun r => c r k))) ++ sp33, 5), (b27, arrU .u8 n (fun r => c r k) ++ sp27, 5), (b15, arrU .u8 p (dueF s p a b true) ++ sp15, 5), (b13, arrU .u8 p (dueF s p a b false) ++ sp13, 5)] := st
      refine Wl.nil ⟨rfl, RK.of st0 st ksN, ?_⟩
      clear st0
      have st0 := st
      refine WT.s rfl rfl ?_
      refine Wl.callV (c_spec_l03Same (A := some ⟨b33, 0, none⟩) (n := p) (cp := c33) (c := (srtF p (colsA n (fun r => c r k)))) (B := some ⟨b15, 0, none⟩) (cq := c15) (d := (dueF s p a b true)) ((st.rdA (i := 0) (n := p) rfl (app_all (arrU_len _))).sl) ((st.rdA (i := 2) (n := p) rfl (app_all (arrU_len _))).sl) (srtF_lt (fun j => colA_lt _ _ _)) (dueF_lt _ _ _ _ _) (by first | assumption | omega)) rfl ?_
      intro w10 hbel
      replace st := st.call hbel
      clear hbel
      refine Wl.nil ⟨rfl, RK.of st0 st ksN, ?_⟩
      clear st0
      refine WT.pure rfl (PR.not_ rfl) ?_
      refine WT.nil ?_
      refine tn ?_
      refine Wc.condNB (b := eqR p (srtF p (colsA n (fun r => c r k))) (dueF s p a b true)) rfl (fun h11 => ?_) (fun h11 => ?_)
      · refine Wc.region rfl ?_
        refine Wl.pure (PR.moveI rfl) ?_
        refine Wl.pure (PR.moveI rfl) ?_
        refine Wl.pure (PR.conv (n := ((k : Nat) : Int)) tI_51 rfl (by simp only [fitI]; omega) Tryz.underlying2) ?_
        refine Wl.pure (PR.shl (a := 1) (n := k) rfl rfl (by decide)) ?_
        refine Wl.pure (PR.or (a := v) (b := ((1 <<< k) % 18446744073709551616)) rfl rfl (by decide) hvb (Nat.mod_lt _ (by decide))) ?_
        refine Wl.pure (PR.assI rfl) ?_
        refine Wl.nil ?_
        refine bn ?_
        refine tn ?_
        refine Wc.region rfl ?_
        refine Wl.pure (PR.moveI rfl) ?_
        refine Wl.pure (PR.add (a := ((k : Nat) : Int)) (b := 1) rfl rfl (by simp only [fitI]; omega)) ?_
        refine Wl.pure (PR.assI rfl) ?_
        refine Wl.nil ?_
        refine tn ?_
        replace st := st.tail
        replace st := st.tail
        exact ⟨(k + 1, (v ||| ((1 <<< k) % 18446744073709551616))), (.cons rfl (.cons rfl (.cons rfl (.cons rfl (.cons rfl (.cons rfl (.cons rfl (.cons rfl (.nil _))))))))), ⟨st, (by first | omega | (dsimp only; omega)), (by first | exact picF_t hv (wr_t (by assumption) (by assumption)) | exact picF_f hv (wr_f (by assumption) (by assumption))), (by first | exact hvb | exact or_lt_u64 hvb (Nat.mod_lt _ (by decide)))⟩, (by first | omega | (dsimp only; omega))⟩
      · refine Wc.skip ?_
        refine bn ?_
        refine tn ?_
        refine Wc.region rfl ?_
        refine Wl.pure (PR.moveI rfl) ?_
        refine Wl.pure (PR.add (a := ((k : Nat) : Int)) (b := 1) rfl rfl (by simp only [fitI]; omega)) ?_
        refine Wl.pure (PR.assI rfl) ?_
        refine Wl.nil ?_
        refine tn ?_
        replace st := st.tail
        replace st := st.tail
        exact ⟨(k + 1, v), (.cons rfl (.cons rfl (.cons rfl (.cons rfl (.cons rfl (.cons rfl (.cons rfl (.cons rfl (.nil _))))))))), ⟨st, (by first | omega | (dsimp only; omega)), (by first | exact picF_t hv (wr_t (by assumption) (by assumption)) | exact picF_f hv (wr_f (by assumption) (by assumption))), (by first | exact hvb | exact or_lt_u64 hvb (Nat.mod_lt _ (by decide)))⟩, (by first | omega | (dsimp only; omega))⟩
    · refine Wc.skip ?_
      refine tn ?_
      refine Wc.seq ?_
      refine Wc.tree1 (w0 := w) (X := []) (Ks := []) (S := fun i => i == 2 || i == 8 || i == 10) (.st 0 0 (.st 1 0 (.st 3 0 (.st 4 0 (.st 5 0 (.st 9 0 (.st 6 3 (.st 7 0 (.st 2 2 (.st 8 2 (.st 10 2 (.st 11 0 PT.nil)))))))))))) hmix (by kernel_rfl) (by kernel_rfl) rfl rfl ?_
      intro w12 hbel
      replace st := st.call hbel
      clear hbel
      refine WT.pure rfl (PR.moveL rfl) ?_
      refine WT.pure rfl (PR.moveI rfl) ?_
      refine WT.pure rfl (PR.moveP rfl) ?_
      refine WT.pure rfl (PR.nil_ rfl) ?_
      refine WT.pure rfl (PR.fieldAddr tF_27_1 rfl) ?_
      refine WT.pure rfl (PR.moveL rfl) ?_
      refine WT.loadC rfl hR.1 (by simp) tA_24 rfl ((hR.st st).at_ (j := 1) (rfl) rfl) ?_
      refine WT.pure rfl (PR.conv (n := ((p : Nat) : Int)) tI_2 rfl (by simp only [fitI]; omega) Tryz.underlying24) ?_
      have st0 := st
      refine WT.s rfl rfl ?_
      refine Wl.callXG [] st (c_spec_l03Rows (A := A) (n := n) (cp := cp) (y := y) (c := c) (k := k) (hRL.st st) hg hc (by first | assumption | omega) (by first | assumption | omega)) rfl rfl ?_
      clear st
      intro b27_14 c27_14 sp27_14 w13 hc27_14 hs27_14 st
      replace st : St [] w w13 [(b27_14, arrU .u8 n (fun r => c r k) ++ sp27_14, 5), (b15, arrU .u8 p (dueF s p a b true) ++ sp15, 5), (b13, arrU .u8 p (dueF s p a b false) ++ sp13, 5)] := st
      refine Wl.nil ⟨rfl, RK.of st0 st ksN, ?_⟩
      clear st0
      have st0 := st
      refine WT.s rfl rfl ?_
      refine Wl.callXG [] st (c_spec_l03Columns (A := some ⟨b27_14, 0, none⟩) (n := n) (cp := c27_14) (c := (fun r => c r k)) (m := p) ((st.rdA (i := 0) (n := n) rfl (app_all (arrU_len _))).sl) (fun r => hc r _) (by first | assumption | omega) (by first | assumption | omega)) rfl rfl ?_
      clear st
      intro b33_16 c33_16 sp33_16 w15 hc33_16 hs33_16 st
      replace st : St [] w w15 [(b33_16, arrU .u8 p (srtF p (colsA n (fun r => c r k))) ++ sp33_16, 5), (b27_14, arrU .u8 n (fun r => c r k) ++ sp27_14, 5), (b15, arrU .u8 p (dueF s p a b true) ++ sp15, 5), (b13, arrU .u8 p (dueF s p a b false) ++ sp13, 5)] := st
      refine Wl.nil ⟨rfl, RK.of st0 st ksN, ?_⟩
      clear st0
      have st0 := st
      refine WT.s rfl rfl ?_
      refine Wl.callV (c_spec_l03Same (A := some ⟨b33_16, 0, none⟩) (n := p) (cp := c33_16) (c := (srtF p (colsA n (fun r => c r k)))) (B := some ⟨b13, 0, none⟩) (cq := c13) (d := (dueF s p a b false)) ((st.rdA (i := 0) (n := p) rfl (app_all (arrU_len _))).sl) ((st.rdA (i := 3) (n := p) rfl (app_all (arrU_len _))).sl) (srtF_lt (fun j => colA_lt _ _ _)) (dueF_lt _ _ _ _ _) (by first | assumption | omega)) rfl ?_
      intro w17 hbel
      replace st := st.call hbel
      clear hbel
      refine Wl.nil ⟨rfl, RK.of st0 st ksN, ?_⟩
      clear st0
      refine WT.pure rfl (PR.not_ rfl) ?_
      refine WT.nil ?_
      refine tn ?_
      refine Wc.condNB (b := eqR p (srtF p (colsA n (fun r => c r k))) (dueF s p a b false)) rfl (fun h18 => ?_) (fun h18 => ?_)
      · refine Wc.region rfl ?_
        refine Wl.pure (PR.moveI rfl) ?_
        refine Wl.pure (PR.moveI rfl) ?_
        refine Wl.pure (PR.conv (n := ((k : Nat) : Int)) tI_51 rfl (by simp only [fitI]; omega) Tryz.underlying2) ?_
        refine Wl.pure (PR.shl (a := 1) (n := k) rfl rfl (by decide)) ?_
        refine Wl.pure (PR.or (a := v) (b := ((1 <<< k) % 18446744073709551616)) rfl rfl (by decide) hvb (Nat.mod_lt _ (by decide))) ?_
        refine Wl.pure (PR.assI rfl) ?_
        refine Wl.nil ?_
        refine bn ?_
        refine tn ?_
        refine Wc.region rfl ?_
        refine Wl.pure (PR.moveI rfl) ?_
        refine Wl.pure (PR.add (a := ((k : Nat) : Int)) (b := 1) rfl rfl (by simp only [fitI]; omega)) ?_
        refine Wl.pure (PR.assI rfl) ?_
        refine Wl.nil ?_
        refine tn ?_
        replace st := st.tail
        replace st := st.tail
        exact ⟨(k + 1, (v ||| ((1 <<< k) % 18446744073709551616))), (.cons rfl (.cons rfl (.cons rfl (.cons rfl (.cons rfl (.cons rfl (.cons rfl (.cons rfl (.nil _))))))))), ⟨st, (by first | omega | (dsimp only; omega)), (by first | exact picF_t hv (wr_t (by assumption) (by assumption)) | exact picF_f hv (wr_f (by assumption) (by assumption))), (by first | exact hvb | exact or_lt_u64 hvb (Nat.mod_lt _ (by decide)))⟩, (by first | omega | (dsimp only; omega))⟩
      · refine Wc.skip ?_
        refine bn ?_
        refine tn ?_
        refine Wc.region rfl ?_
        refine Wl.pure (PR.moveI rfl) ?_
        refine Wl.pure (PR.add (a := ((k : Nat) : Int)) (b := 1) rfl rfl (by simp only [fitI]; omega)) ?_
        refine Wl.pure (PR.assI rfl) ?_
        refine Wl.nil ?_
        refine tn ?_
        replace st := st.tail
        replace st := st.tail
        exact ⟨(k + 1, v), (.cons rfl (.cons rfl (.cons rfl (.cons rfl (.cons rfl (.cons rfl (.cons rfl (.cons rfl (.nil _))))))))), ⟨st, (by first | omega | (dsimp only; omega)), (by first | exact picF_t hv (wr_t (by assumption) (by assumption)) | exact picF_f hv (wr_f (by assumption) (by assumption))), (by first | exact hvb | exact or_lt_u64 hvb (Nat.mod_lt _ (by decide)))⟩, (by first | omega | (dsimp only; omega))⟩
  · refine Wc.exit ?_
    refine tx ?_
    refine tx ?_
    refine bh ?_
    refine tn ?_
    refine Wc.seq ?_
    refine Wc.region rfl ?_
    refine Wl.pure (PR.moveI rfl) ?_
    refine Wl.pure (PR.assI rfl) ?_
    refine Wl.nil ?_
    refine tn ?_
    refine Wc.ret ?_
    refine postL.tmp rfl rfl ?_
    refine RetV.of ?_ st.below
    refine congrArg (fun x : Nat => Value.int .u64 (x : Int)) ?_
    obtain rfl : k = 64 := by omega
    exact hv

set_option maxHeartbeats 400000 in
set_option maxRecDepth 4000 in
theorem c_impl_WrongCells {s : Int} {p : Int} {a : Nat → Nat} {b : Nat → Nat} {x : Nat} {A : Option Addr} {n : Nat} {cp : Nat} {y : Nat → Int} {c : Nat → Nat → Nat} {w : World} (hs : -128 ≤ s ∧ s ≤ 127) (hp : -128 ≤ p ∧ p ≤ 127) (ha : ∀ k, a k < 256) (hb : ∀ k, b k < 256) (hx : x < 18446744073709551616) (hRL : RdS w A n (layS n y c)) (hg : ∀ i, i < n → -128 ≤ y i ∧ y i ≤ 127) (hc : ∀ i k, c i k < 256) (hn : n ≤ 1048576) :
    CE Tryz.prog 9 [.agg (schV (s) (p) (a) (b)).toArray, .int .u64 (((x : Nat) : Int)), .slice (A) (n) (cp)] w (RetV w (.tuple #[.int .u64 (((selN (bothC s p a b n y c) (pic (wrQ ((s).toNat) ((p).toNat) a b n c x)) : Nat) : Int)), .int .i64 (((bothC s p a b n y c : Nat) : Int))])) := by
  refine CE.enter 19 [(0, .agg (schV (s) (p) (a) (b)).toArray), (1, .int .u64 (((x : Nat) : Int))), (2, .slice (A) (n) (cp))] en_9 Tryz.func9 rfl rfl (Nat.le_of_ble_eq_true rfl) rfl ?_
  have st := St.start w
  refine Wc.seq ?_
  refine Wc.region rfl ?_
  refine Wl.boxA st rfl ?_
  clear st
  intro b3 w1 st
  refine Wl.pure (PR.assI rfl) ?_
  refine Wl.pure (PR.assI rfl) ?_
  refine Wl.nil ?_
  refine tn ?_
  refine Wc.seq ?_
  refine Wc.seq ?_
  refine Wc.region rfl ?_
  refine Wl.loadA (i := 0) st tA_27 rfl rfl (all_sub schV_len) schV_len ?_
  refine Wl.pure (PR.moveL rfl) ?_
  refine Wl.callV (c_impl_sharedCode (s := s) (p := p) (a := a) (b := b) (A := A) (n := n) (cp := cp) (y := y) (c := c) (by first | assumption | omega) (by first | assumption | omega) ha hb (hRL.st st) hg hc (by first | assumption | omega)) rfl ?_
  intro w2 hbel
  replace st := st.call hbel
  clear hbel
  refine Wl.pure (PR.assI rfl) ?_
  refine Wl.nil ?_
  refine tn ?_
  refine Wc.seq ?_
  refine Wc.region rfl ?_
  refine Wl.pure (PR.moveI rfl) ?_
  refine Wl.pure (PR.neq (a := ((bothC s p a b n y c : Nat) : Int)) (b := 0) rfl rfl) ?_
  refine Wl.nil ?_
  refine tn ?_
  refine Wc.condN (p := ((bothC s p a b n y c : Nat) : Int) = 0) rfl (fun h3 => ?_) (fun h3 => ?_)
  · refine Wc.seq ?_
    refine Wc.region rfl ?_
    refine Wl.pure (PR.moveI rfl) ?_
    refine Wl.pure (PR.assI rfl) ?_
    refine Wl.pure (PR.assI rfl) ?_
    refine Wl.nil ?_
    refine tn ?_
    refine Wc.ret ?_
    refine tr ?_
    refine postL.tmp2 rfl rfl rfl ?_
    refine RetV.of ?_ st.below
    exact rw_f (by omega) (by omega)
  · refine Wc.skip ?_
    refine tn ?_
    refine Wc.seq ?_
    have hcode0 : bothC s p a b n y c = 0 := (by omega)
    obtain ⟨hok, hlay, hns⟩ := bothC_spec hcode0
    have hall := bothC_all hcode0
    obtain ⟨hs1, hp1, _⟩ := schOk_spec hok
    obtain ⟨d_, rfl⟩ : ∃ d_ : Nat, s = ((d_ : Nat) : Int) := ⟨s.toNat, by omega⟩
    obtain ⟨e_, rfl⟩ : ∃ e_ : Nat, p = ((e_ : Nat) : Int) := ⟨p.toNat, by omega⟩
    obtain ⟨_, hza, hzb⟩ := sch_zero hok
    have hns9 : n = d_ := by omega
    have hy0 : y 0 = ((e_ : Nat) : Int) := hall 0 (by omega)
    have hn6 : 1 ≤ n ∧ n ≤ 6 := by omega
    refine Wc.region rfl ?_
    refine Wl.loadA (i := 0) st tA_27 rfl rfl (all_sub schV_len) schV_len ?_
    refine Wl.pure (PR.moveI rfl) ?_
    refine Wl.pure (PR.moveL rfl) ?_
    refine Wl.callV (c_impl_Scheme_wrong (s := d_) (p := e_) (a := a) (b := b) (A := A) (n := n) (cp := cp) (y := y) (c := c) (x := x) (by first | assumption | omega) ha hb (by first | assumption | omega) (by first | assumption | omega) (by first | assumption | omega) (hRL.st st) hg hc (by first | assumption | omega) (by first | assumption | omega) hx (by first | assumption | omega)) rfl ?_
    intro w4 hbel
    replace st := st.call hbel
    clear hbel
    refine Wl.pure (PR.assI rfl) ?_
    refine Wl.pure (PR.assI rfl) ?_
    refine Wl.nil ?_
    refine tn ?_
    refine Wc.ret ?_
    refine postL.tmp2 rfl rfl rfl ?_
    refine RetV.of ?_ st.below
    exact rw_t' (by first | assumption | omega) rfl

set_option maxHeartbeats 400000 in
set_option maxRecDepth 4000 in
theorem c_spec_WrongCells {s : Int} {p : Int} {a : Nat → Nat} {b : Nat → Nat} {x : Nat} {A : Option Addr} {n : Nat} {cp : Nat} {y : Nat → Int} {c : Nat → Nat → Nat} {w : World} (hs : -128 ≤ s ∧ s ≤ 127) (hp : -128 ≤ p ∧ p ≤ 127) (ha : ∀ k, a k < 256) (hb : ∀ k, b k < 256) (hx : x < 18446744073709551616) (hRL : RdS w A n (layS n y c)) (hg : ∀ i, i < n → -128 ≤ y i ∧ y i ≤ 127) (hc : ∀ i k, c i k < 256) (hn : n ≤ 1048576) :
    CE Tryz.prog 18 [.agg (schV (s) (p) (a) (b)).toArray, .int .u64 (((x : Nat) : Int)), .slice (A) (n) (cp)] w (RetV w (.tuple #[.int .u64 (((selN (bothC s p a b n y c) (pic (wrQ ((s).toNat) ((p).toNat) a b n c x)) : Nat) : Int)), .int .i64 (((bothC s p a b n y c : Nat) : Int))])) := by
  refine CE.enter 17 [(0, .agg (schV (s) (p) (a) (b)).toArray), (1, .int .u64 (((x : Nat) : Int))), (2, .slice (A) (n) (cp))] en_18 Tryz.func18 rfl rfl (Nat.le_of_ble_eq_true rfl) rfl ?_
  have st := St.start w
  refine Wc.seq ?_
  refine Wc.region rfl ?_
  refine Wl.boxA st rfl ?_
  clear st
  intro b3 w1 st
  refine Wl.pure (PR.assI rfl) ?_
  refine Wl.pure (PR.assI rfl) ?_
  refine Wl.nil ?_
  refine tn ?_
  refine Wc.seq ?_
  refine Wc.seq ?_
  refine Wc.region rfl ?_
  refine Wl.pure (PR.moveL rfl) ?_
  refine Wl.callV (c_spec_l03Both (bk := b3) (o := 0) (s := s) (p := p) (a := a) (b := b) (A := A) (n := n) (cp := cp) (y := y) (c := c) (st.rdA (i := 0) rfl (all_sub schV_len)) (by first | assumption | omega) (by first | assumption | omega) ha hb (hRL.st st) hg hc (by first | assumption | omega)) rfl ?_
  intro w2 hbel
  replace st := st.call hbel
  clear hbel
  refine Wl.pure (PR.assI rfl) ?_
  refine Wl.nil ?_
  refine tn ?_
  refine Wc.seq ?_
  refine Wc.region rfl ?_
  refine Wl.pure (PR.moveI rfl) ?_
  refine Wl.pure (PR.neq (a := ((bothC s p a b n y c : Nat) : Int)) (b := 0) rfl rfl) ?_
  refine Wl.nil ?_
  refine tn ?_
  refine Wc.condN (p := ((bothC s p a b n y c : Nat) : Int) = 0) rfl (fun h3 => ?_) (fun h3 => ?_)
  · refine Wc.seq ?_
    refine Wc.region rfl ?_
    refine Wl.pure (PR.moveI rfl) ?_
    refine Wl.pure (PR.assI rfl) ?_
    refine Wl.pure (PR.assI rfl) ?_
    refine Wl.nil ?_
    refine tn ?_
    refine Wc.ret ?_
    refine tr ?_
    refine postL.tmp2 rfl rfl rfl ?_
    refine RetV.of ?_ st.below
    exact rw_f (by omega) (by omega)
  · refine Wc.skip ?_
    refine tn ?_
    refine Wc.seq ?_
    have hcode0 : bothC s p a b n y c = 0 := (by omega)
    obtain ⟨hok, hlay, hns⟩ := bothC_spec hcode0
    have hall := bothC_all hcode0
    obtain ⟨hs1, hp1, _⟩ := schOk_spec hok
    obtain ⟨d_, rfl⟩ : ∃ d_ : Nat, s = ((d_ : Nat) : Int) := ⟨s.toNat, by omega⟩
    obtain ⟨e_, rfl⟩ : ∃ e_ : Nat, p = ((e_ : Nat) : Int) := ⟨p.toNat, by omega⟩
    obtain ⟨_, hza, hzb⟩ := sch_zero hok
    have hns9 : n = d_ := by omega
    have hy0 : y 0 = ((e_ : Nat) : Int) := hall 0 (by omega)
    have hn6 : 1 ≤ n ∧ n ≤ 6 := by omega
    refine Wc.region rfl ?_
    refine Wl.pure (PR.moveI rfl) ?_
    refine Wl.pure (PR.moveL rfl) ?_
    refine Wl.callV (c_spec_l07Wrong (bk := b3) (o := 0) (s := d_) (p := e_) (a := a) (b := b) (A := A) (n := n) (cp := cp) (y := y) (c := c) (x := x) (st.rdA (i := 0) rfl (all_sub schV_len)) (by first | assumption | omega) ha hb (by first | assumption | omega) (hRL.st st) hg hc (by first | assumption | omega) hx (by first | assumption | omega)) rfl ?_
    intro w4 hbel
    replace st := st.call hbel
    clear hbel
    refine Wl.pure (PR.assI rfl) ?_
    refine Wl.pure (PR.assI rfl) ?_
    refine Wl.nil ?_
    refine tn ?_
    refine Wc.ret ?_
    refine postL.tmp2 rfl rfl rfl ?_
    refine RetV.of ?_ st.below
    exact rw_t' (by first | assumption | omega) rfl

end Go.Proofs.YtabekcodjcbolaaGreat
