/-
  Contracts of functions, printed by a program of ours.
-/
import Derived.Test.YtagghfllgafmgaaCR1
namespace Go.Proofs.Ytagghfllgafmgaa
open Go.RowKit
set_option linter.unusedVariables false
set_option linter.unusedSimpArgs false

set_option maxHeartbeats 400000 in
set_option maxRecDepth 4000 in
theorem c_impl_Layer_each {p : Int} {c : Nat → Nat} {fk : Nat} {cap : List Value} {q : Nat → Nat} {w : World} (hc : ∀ k, c k < 256) (hF : ∀ i, i < 64 → ∀ w', Below w.heap.size w w' → CE Try.prog fk (.int .i64 ((i : Nat) : Int) :: cap) w' (RetV w' (.int .u8 ((q i : Nat) : Int)))) (hqb : ∀ k, q k < 256) :
    CE Try.prog 73 [.agg (layV (p) (c)).toArray, .func (.func fk) #[] cap.toArray] w (RetV w (.agg (layV (p) (q)).toArray)) := by
  refine CE.enter 21 [(0, .agg (layV (p) (c)).toArray), (1, .func (.func fk) #[] cap.toArray)] en_73 Try.func73 rfl rfl (Nat.le_of_ble_eq_true rfl) rfl ?_
  have st := St.start w
  refine Wc.seq ?_
  refine Wc.region rfl ?_
  refine Wl.boxA st rfl ?_
  clear st
  intro b2 w1 st
  refine Wl.alloc st tZ_29 rfl ?_
  clear st
  intro b4 w2 st
  refine Wl.nil ?_
  refine tn ?_
  refine Wc.seq ?_
  refine Wc.region rfl ?_
  refine Wl.pure (PR.fieldAddr tF_29_0 rfl) ?_
  refine Wl.load (i := 1) st tA_22 rfl rfl (rfl) ?_
  refine Wl.pure (PR.build (ps := [(0, .int .i8 (p))]) (cs := layV (p) ((fun _ => 0))) tB_29 rfl rfl) ?_
  refine Wl.alloc st tZ_29 rfl ?_
  clear st
  intro b5 w3 st
  refine Wl.storeA (i := 0) (cs' := layV (p) ((fun _ => 0))) st tA_29 rfl rfl layV_len layV_one rfl (le_of_len layV_len (by omega)) (all_put layV_len) ?_
  clear st
  intro w4 st
  replace st : St [] w w4 [(b5, layV (p) ((fun _ => 0)), 29), (b4, layV (0) ((fun _ => 0)), 29), (b2, layV (p) (c), 29)] := st
  refine Wl.nil ?_
  refine tn ?_
  refine Wc.seq ?_
  refine Wc.seq ?_
  refine Wc.region rfl ?_
  refine Wl.pure (PR.moveI rfl) ?_
  refine Wl.nil ?_
  refine tn ?_
  refine Wc.block ?_
  refine Wc.loopF (γ := Nat × (Nat → Nat)) (fun g => [(1, .func (.func fk) #[] cap.toArray), (4, .pointer (some ⟨b4, 0, none⟩)), (5, .pointer (some ⟨b5, 0, none⟩)), (10, .int .i64 (((g.1 : Nat) : Int)))]) (fun g w_ => St [] w w_ [(b5, layV (p) (g.2), 29), (b4, layV (0) ((fun _ => 0)), 29), (b2, layV (p) (c), 29)] ∧ (g.1 ≤ 64) ∧ (∀ j, j < g.1 → g.2 j = q j)) (fun g => 64 - g.1) ?_ ?_
  · exact ⟨(0, (fun _ => 0)), (.cons rfl (.cons rfl (.cons rfl (.cons rfl (.nil _))))), st, (by first | omega | (dsimp only; omega)), (fun j hj => by omega)⟩
  clear st
  rintro ⟨k, d⟩ w5 ⟨st, hk, hg⟩
  try dsimp only at st hk hg ⊢
  refine Wc.seq ?_
  refine Wc.region rfl ?_
  refine Wl.pure (PR.lss (a := ((k : Nat) : Int)) (b := 64) rfl rfl) ?_
  refine Wl.nil ?_
  refine tn ?_
  refine Wc.seq ?_
  refine Wc.condD (p := ((k : Nat) : Int) < 64) rfl (fun h6 => ?_) (fun h6 => ?_)
  · refine Wc.skip ?_
    refine tn ?_
    refine Wc.seq ?_
    refine Wc.block ?_
    refine Wc.seq ?_
    refine Wc.region rfl ?_
    refine Wl.pure (PR.moveI rfl) ?_
    refine Wl.pure (PR.assI rfl) ?_
    refine Wl.nil ?_
    refine tn ?_
    refine Wc.region rfl ?_
    refine Wl.pure (PR.moveI rfl) ?_
    refine Wl.pure (PR.moveF rfl) ?_
    refine Wl.pure (PR.moveI rfl) ?_
    refine Wl.callFW rfl rfl (hF k (by omega) _ st.below) ?_
    intro w7 hbel
    replace st := st.call hbel
    clear hbel
    refine Wl.pure (PR.fieldAddr tF_29_1 rfl) ?_
    refine Wl.pure (PR.idxAddrA1 (i := k) tE_23 rfl rfl (by omega)) ?_
    refine Wl.store (i := 0) (cs' := layV (p) (upd d (k) (q k))) st tA_5 rfl rfl rfl rfl (lt_of_len layV_len (by omega)) (layV_set_c) ?_
    clear st
    intro w8 st
    replace st : St [] w w8 [(b5, layV (p) (upd d (k) (q k)), 29), (b4, layV (0) ((fun _ => 0)), 29), (b2, layV (p) (c), 29)] := st
    refine Wl.nil ?_
    refine bn ?_
    refine tn ?_
    refine Wc.region rfl ?_
    refine Wl.pure (PR.add (a := ((k : Nat) : Int)) (b := 1) rfl rfl (by simp only [fitI]; omega)) ?_
    refine Wl.pure (PR.moveI rfl) ?_
    refine Wl.nil ?_
    refine tn ?_
    exact ⟨(k + 1, upd d (k) (q k)), (.cons rfl (.cons rfl (.cons rfl (.cons rfl (.nil _))))), ⟨st, (by first | omega | (dsimp only; omega)), (upd_snoc hg rfl)⟩, (by first | omega | (dsimp only; omega))⟩
  · refine Wc.exit ?_
    refine tx ?_
    refine tx ?_
    refine bh ?_
    refine tn ?_
    refine Wc.seq ?_
    refine Wc.region rfl ?_
    refine Wl.loadA (i := 0) st tA_29 rfl rfl (all_sub layV_len) layV_len ?_
    refine Wl.storeA (i := 1) (cs' := layV (p) (d)) st tA_29 rfl rfl layV_len layV_one rfl (le_of_len layV_len (by omega)) (all_put layV_len) ?_
    clear st
    intro w9 st
    replace st : St [] w w9 [(b5, layV (p) (d), 29), (b4, layV (p) (d), 29), (b2, layV (p) (c), 29)] := st
    refine Wl.nil ?_
    refine tn ?_
    refine Wc.ret ?_
    refine postL.cell (i := 1) st rfl tA_29 rfl rfl layV_len ?_
    refine RetV.of ?_ st.below
    exact congrArg (fun l : List Value => Value.agg l.toArray) (layV_congr rfl fun j hj => hg j (by omega))

set_option maxHeartbeats 400000 in
set_option maxRecDepth 4000 in
theorem c_impl_stack_1 {b1 : Nat} {o1 : Nat} {A : Option Addr} {n : Nat} {cp : Nat} {p : Nat → Int} {c : Nat → Nat → Nat} {k : Nat} {w : World} (h1 : RdA w b1 o1 [.slice A n cp]) (hR : RdS w A n (layS n p c)) (hp : ∀ i, i < n → -128 ≤ p i ∧ p i ≤ 127) (hc : ∀ i k, c i k < 256) (hn : n ≤ 1048576) (hk : k < 64) :
    CE Try.prog 88 [.int .i64 (((k : Nat) : Int)), .pointer (some ⟨b1, o1, none⟩)] w (RetV w (.int .u8 (((orC c n k : Nat) : Int)))) := by
  refine CE.enter 21 [(0, .int .i64 (((k : Nat) : Int))), (1, .pointer (some ⟨b1, o1, none⟩))] en_88 Try.func88 rfl rfl (Nat.le_of_ble_eq_true rfl) rfl ?_
  have st := St.start w
  refine Wc.seq ?_
  refine Wc.region rfl ?_
  refine Wl.pure (PR.assI rfl) ?_
  refine Wl.nil ?_
  refine tn ?_
  refine Wc.seq ?_
  refine Wc.region rfl ?_
  refine Wl.pure (PR.assI rfl) ?_
  refine Wl.nil ?_
  refine tn ?_
  refine Wc.seq ?_
  refine Wc.seq ?_
  refine Wc.region rfl ?_
  refine Wl.loadC tA_37 rfl ((h1.st st).at_ (j := 0) (rfl) rfl) ?_
  refine Wl.pure (PR.lenL tS_37 rfl) ?_
  refine Wl.pure (PR.moveI rfl) ?_
  refine Wl.nil ?_
  refine tn ?_
  refine Wc.block ?_
  refine Wc.loopF (γ := Nat × Nat) (fun g => [(0, .int .i64 (((k : Nat) : Int))), (3, .int .u8 (0)), (4, .int .u8 (((g.2 : Nat) : Int))), (7, .slice (A) (n) (cp)), (8, .int .i64 (((n : Nat) : Int))), (9, .int .i64 (((g.1 : Nat) : Int)))]) (fun g w_ => St [] w w_ [] ∧ (g.1 ≤ n) ∧ (g.2 = orC c g.1 k) ∧ (g.2 < 256)) (fun g => n - g.1) ?_ ?_
  · exact ⟨(0, 0), (.cons rfl (.cons rfl (.cons rfl (.cons rfl (.cons rfl (.cons rfl (.nil _))))))), st, (by first | omega | (dsimp only; omega)), rfl, (by decide)⟩
  clear st
  rintro ⟨i, v⟩ w1 ⟨st, hi, hv, hvb⟩
  try dsimp only at st hi hv hvb ⊢
  refine Wc.seq ?_
  refine Wc.region rfl ?_
  refine Wl.pure (PR.lss (a := ((i : Nat) : Int)) (b := ((n : Nat) : Int)) rfl rfl) ?_
  refine Wl.nil ?_
  refine tn ?_
  refine Wc.seq ?_
  refine Wc.condD (p := ((i : Nat) : Int) < ((n : Nat) : Int)) rfl (fun h2 => ?_) (fun h2 => ?_)
  · refine Wc.skip ?_
    refine tn ?_
    refine Wc.seq ?_
    refine Wc.block ?_
    refine Wc.seq ?_
    refine Wc.region rfl ?_
    obtain ⟨bs3, os4, rfl, hs5⟩ := hR (by omega)
    have := hp (i) (by omega)
    refine Wl.pure (PR.idxAddrS (i := i) tS_37 rfl rfl (by omega)) ?_
    refine Wl.loadAC (vs := layV (p i) ((c i))) tA_29 rfl layV_len ((hs5.st st).sub (recV_sub (n := n) (i := i) (layS_row _ _) (by omega)) rfl) ?_
    refine Wl.alloc st tZ_29 rfl ?_
    clear st
    intro b6 w6 st
    refine Wl.storeA (i := 0) (cs' := layV (p i) ((c i))) st tA_29 rfl rfl layV_len layV_one rfl (le_of_len layV_len (by omega)) (all_put layV_len) ?_
    clear st
    intro w7 st
    replace st : St [] w w7 [(b6, layV (p i) ((c i)), 29)] := st
    refine Wl.nil ?_
    refine tn ?_
    refine Wc.region rfl ?_
    refine Wl.pure (PR.moveI rfl) ?_
    refine Wl.pure (PR.moveI rfl) ?_
    refine Wl.pure (PR.fieldAddr tF_29_1 rfl) ?_
    refine Wl.pure (PR.idxAddrA1 (i := k) tE_23 rfl rfl (by omega)) ?_
    refine Wl.load (i := 0) st tA_5 rfl rfl (layV_get_c (by omega)) ?_
    refine Wl.pure (PR.or (a := v) (b := (c i) (k)) rfl rfl (by decide) hvb ((hc i) (k))) ?_
    refine Wl.pure (PR.assI rfl) ?_
    refine Wl.nil ?_
    refine bn ?_
    refine tn ?_
    refine Wc.region rfl ?_
    refine Wl.pure (PR.add (a := ((i : Nat) : Int)) (b := 1) rfl rfl (by simp only [fitI]; omega)) ?_
    refine Wl.pure (PR.moveI rfl) ?_
    refine Wl.nil ?_
    refine tn ?_
    replace st := st.tail
    exact ⟨(i + 1, (v ||| ((c i) (k)))), (.cons rfl (.cons rfl (.cons rfl (.cons rfl (.cons rfl (.cons rfl (.nil _))))))), ⟨st, (by first | omega | (dsimp only; omega)), (orC_next hv), (or_lt_u8 hvb (hc i k))⟩, (by first | omega | (dsimp only; omega))⟩
  · refine Wc.exit ?_
    refine tx ?_
    refine tx ?_
    refine bh ?_
    refine tn ?_
    refine Wc.seq ?_
    refine Wc.region rfl ?_
    refine Wl.pure (PR.moveI rfl) ?_
    refine Wl.pure (PR.assI rfl) ?_
    refine Wl.nil ?_
    refine tn ?_
    refine Wc.ret ?_
    refine postL.tmp rfl rfl ?_
    refine RetV.of ?_ st.below
    refine congrArg (fun x : Nat => Value.int .u8 (x : Int)) ?_
    obtain rfl : i = n := by omega
    exact hv

set_option maxHeartbeats 400000 in
set_option maxRecDepth 4000 in
theorem c_impl_stack {A : Option Addr} {n : Nat} {cp : Nat} {p : Nat → Int} {c : Nat → Nat → Nat} {w : World} (hR : RdS w A n (layS n p c)) (hp : ∀ i, i < n → -128 ≤ p i ∧ p i ≤ 127) (hc : ∀ i k, c i k < 256) (hn : n ≤ 1048576) (hn0 : 0 < n) :
    CE Try.prog 57 [.slice (A) (n) (cp)] w (RetV w (.agg (layV (p 0) ((orC c n))).toArray)) := by
  refine CE.enter 8 [(0, .slice (A) (n) (cp))] en_57 Try.func57 rfl rfl (Nat.le_of_ble_eq_true rfl) rfl ?_
  have st := St.start w
  refine Wc.seq ?_
  refine Wc.region rfl ?_
  refine Wl.boxL st rfl ?_
  clear st
  intro b1 w1 st
  refine Wl.alloc st tZ_29 rfl ?_
  clear st
  intro b2 w2 st
  refine Wl.nil ?_
  refine tn ?_
  refine Wc.seq ?_
  refine Wc.region rfl ?_
  refine Wl.load (i := 1) st tA_37 rfl rfl (rfl) ?_
  obtain ⟨bs3, os4, rfl, hs5⟩ := hR (by omega)
  have := hp (0) (by omega)
  refine Wl.pure (PR.idxAddrS (i := 0) tS_37 rfl rfl (by omega)) ?_
  refine Wl.loadAC (vs := layV (p 0) ((c 0))) tA_29 rfl layV_len ((hs5.st st).sub (recV_sub (n := n) (i := 0) (layS_row _ _) (by omega)) rfl) ?_
  refine Wl.pure (PR.mkFunc (vs := [.pointer (some ⟨b1, 0, none⟩)]) rfl) ?_
  refine Wl.callV (c_impl_Layer_each (p := p 0) (c := (c 0)) (fk := 88) (cap := [.pointer (some ⟨b1, 0, none⟩)]) (q := (orC c n)) (hc 0) (fun i hi w' hb => c_impl_stack_1 ((st.rdA (i := 1) (n := 1) rfl rfl).below hb) ((hR.st st).below hb) hp hc hn hi) (orC_lt hc n)) rfl ?_
  intro w6 hbel
  replace st := st.call hbel
  clear hbel
  refine Wl.storeA (i := 0) (cs' := layV (p 0) ((orC c n))) st tA_29 rfl rfl layV_len layV_one rfl (le_of_len layV_len (by omega)) (all_put layV_len) ?_
  clear st
  intro w7 st
  replace st : St [] w w7 [(b2, layV (p 0) ((orC c n)), 29), (b1, [.slice (some ⟨bs3, os4, none⟩) (n) (cp)], 37)] := st
  refine Wl.nil ?_
  refine tn ?_
  refine Wc.ret ?_
  refine postL.cell (i := 0) st rfl tA_29 rfl rfl layV_len ?_
  exact RetV.of rfl st.below

set_option maxHeartbeats 400000 in
set_option maxRecDepth 4000 in
theorem c_spec_l01Stack {A : Option Addr} {n : Nat} {cp : Nat} {p : Nat → Int} {c : Nat → Nat → Nat} {w : World} (hR : RdS w A n (layS n p c)) (hp : ∀ i, i < n → -128 ≤ p i ∧ p i ≤ 127) (hc : ∀ i k, c i k < 256) (hn : n ≤ 1048576) (hn0 : 0 < n) :
    CE Try.prog 54 [.slice (A) (n) (cp)] w (RetV w (.agg (layV (p 0) ((orC c n))).toArray)) := by
  refine CE.enter 34 [(0, .slice (A) (n) (cp))] en_54 Try.func54 rfl rfl (Nat.le_of_ble_eq_true rfl) rfl ?_
  have st := St.start w
  refine Wc.seq ?_
  refine Wc.region rfl ?_
  refine Wl.alloc st tZ_29 rfl ?_
  clear st
  intro b2 w1 st
  refine Wl.nil ?_
  refine tn ?_
  refine Wc.seq ?_
  refine Wc.region rfl ?_
  refine Wl.pure (PR.moveL rfl) ?_
  obtain ⟨bs2, os3, rfl, hs4⟩ := hR (by omega)
  have := hp (0) (by omega)
  refine Wl.pure (PR.idxAddrS (i := 0) tS_37 rfl rfl (by omega)) ?_
  refine Wl.loadAC (vs := layV (p 0) ((c 0))) tA_29 rfl layV_len ((hs4.st st).sub (recV_sub (n := n) (i := 0) (layS_row _ _) (by omega)) rfl) ?_
  refine Wl.alloc st tZ_29 rfl ?_
  clear st
  intro b3 w5 st
  refine Wl.storeA (i := 0) (cs' := layV (p 0) ((c 0))) st tA_29 rfl rfl layV_len layV_one rfl (le_of_len layV_len (by omega)) (all_put layV_len) ?_
  clear st
  intro w6 st
  replace st : St [] w w6 [(b3, layV (p 0) ((c 0)), 29), (b2, layV (0) ((fun _ => 0)), 29)] := st
  refine Wl.nil ?_
  refine tn ?_
  refine Wc.seq ?_
  refine Wc.seq ?_
  refine Wc.region rfl ?_
  refine Wl.pure (PR.assI rfl) ?_
  refine Wl.nil ?_
  refine tn ?_
  refine Wc.block ?_
  rw [← orC_1 c] at st
  refine Wc.loopF (γ := Nat) (fun g => [(0, .slice (some ⟨bs2, os3, none⟩) (n) (cp)), (2, .pointer (some ⟨b2, 0, none⟩)), (3, .pointer (some ⟨b3, 0, none⟩)), (4, .int .i64 (((g : Nat) : Int)))]) (fun g w_ => St [] w w_ [(b3, layV (p 0) ((orC c g)), 29), (b2, layV (0) ((fun _ => 0)), 29)] ∧ (1 ≤ g ∧ g ≤ n)) (fun g => n - g) ?_ ?_
  · exact ⟨1, (.cons rfl (.cons rfl (.cons rfl (.cons rfl (.nil _))))), st, (by first | omega | (dsimp only; omega))⟩
  clear st
  rintro i w7 ⟨st, hi⟩
  try dsimp only at st hi ⊢
  refine Wc.seq ?_
  refine Wc.seq ?_
  refine Wc.region rfl ?_
  refine Wl.pure (PR.moveI rfl) ?_
  refine Wl.pure (PR.moveL rfl) ?_
  refine Wl.pure (PR.lenL tS_37 rfl) ?_
  refine Wl.pure (PR.lss (a := ((i : Nat) : Int)) (b := ((n : Nat) : Int)) rfl rfl) ?_
  refine Wl.nil ?_
  refine tn ?_
  refine Wc.condD (p := ((i : Nat) : Int) < ((n : Nat) : Int)) rfl (fun h8 => ?_) (fun h8 => ?_)
  · refine Wc.skip ?_
    refine tn ?_
    refine Wc.seq ?_
    refine Wc.block ?_
    refine Wc.seq ?_
    refine Wc.region rfl ?_
    refine Wl.pure (PR.assI rfl) ?_
    refine Wl.nil ?_
    refine tn ?_
    refine Wc.block ?_
    rw [mix_zero (orC c (i + 1)) (orC c i)] at st
    refine Wc.loopF (γ := Nat) (fun g => [(0, .slice (some ⟨bs2, os3, none⟩) (n) (cp)), (2, .pointer (some ⟨b2, 0, none⟩)), (3, .pointer (some ⟨b3, 0, none⟩)), (4, .int .i64 (((i : Nat) : Int))), (5, .int .i64 (((g : Nat) : Int))), (9, .int .i64 (((i : Nat) : Int))), (10, .slice (some ⟨bs2, os3, none⟩) (n) (cp)), (11, .int .i64 (((n : Nat) : Int))), (12, .bool (decide (((i : Nat) : Int) < ((n : Nat) : Int))))]) (fun g w_ => St [] w w_ [(b3, layV (p 0) ((mixF (orC c (i + 1)) (orC c i) g)), 29), (b2, layV (0) ((fun _ => 0)), 29)] ∧ (g ≤ 64)) (fun g => 64 - g) ?_ ?_
    · exact ⟨0, (.cons rfl (.cons rfl (.cons rfl (.cons rfl (.cons rfl (.cons rfl (.cons rfl (.cons rfl (.cons rfl (.nil _)))))))))), st, (by first | omega | (dsimp only; omega))⟩
    clear st
    rintro k w9 ⟨st, hk⟩
    try dsimp only at st hk ⊢
    refine Wc.seq ?_
    refine Wc.seq ?_
    refine Wc.region rfl ?_
    refine Wl.pure (PR.moveI rfl) ?_
    refine Wl.pure (PR.lss (a := ((k : Nat) : Int)) (b := 64) rfl rfl) ?_
    refine Wl.nil ?_
    refine tn ?_
    refine Wc.condD (p := ((k : Nat) : Int) < 64) rfl (fun h10 => ?_) (fun h10 => ?_)
    · refine Wc.skip ?_
      refine tn ?_
      refine Wc.seq ?_
      refine Wc.block ?_
      refine Wc.quietTail 14 hmix (by kernel_rfl) rfl ?_
      refine Wq.pure (PR.moveI rfl) ?_
      refine Wq.pure (PR.fieldAddr tF_29_1 rfl) ?_
      refine Wq.pure (PR.idxAddrA1 (i := k) tE_23 rfl rfl (by omega)) ?_
      refine Wq.load (i := 0) st tA_5 rfl rfl (layV_get_c (by omega)) ?_
      refine Wq.pure (PR.moveL rfl) ?_
      refine Wq.pure (PR.moveI rfl) ?_
      refine Wq.pure (PR.moveI rfl) ?_
      have := hp (i) (by omega)
      refine Wq.pure (PR.idxAddrS (i := i) tS_37 rfl rfl (by omega)) ?_
      refine Wq.pure (PR.fieldAddr tF_29_1 rfl) ?_
      refine Wq.pure (PR.idxAddrA1 (i := k) tE_23 rfl rfl (by omega)) ?_
      refine Wq.loadC tA_5 rfl ((hs4.st st).at_ (recV_get (i := i) (j := 1 + k) (layS_row _ _) (by omega) (layV_get_c (by omega))) (by omega)) ?_
      refine Wq.pure (PR.or (a := (mixF (orC c (i + 1)) (orC c i) k) (k)) (b := (c i) (k)) rfl rfl (by decide) ((mix_lt (orC_lt hc (i + 1)) (orC_lt hc i) k) (k)) ((hc i) (k))) ?_
      refine Wq.pure (PR.fieldAddr tF_29_1 rfl) ?_
      refine Wq.pure (PR.idxAddrA1 (i := k) tE_23 rfl rfl (by omega)) ?_
      refine Wq.nil (fun w11 hbel => ?_)
      replace st := st.call hbel
      clear hbel
      refine Wl.store (i := 0) (cs' := layV (p 0) (upd (mixF (orC c (i + 1)) (orC c i) k) (k) ((((mixF (orC c (i + 1)) (orC c i) k) (k)) ||| ((c i) (k)))))) st tA_5 rfl rfl rfl rfl (lt_of_len layV_len (by omega)) (layV_set_c) ?_
      clear st
      intro w12 st
      replace st : St [] w w12 [(b3, layV (p 0) (upd (mixF (orC c (i + 1)) (orC c i) k) (k) ((((mixF (orC c (i + 1)) (orC c i) k) (k)) ||| ((c i) (k))))), 29), (b2, layV (0) ((fun _ => 0)), 29)] := st
      refine Wl.nil ?_
      refine bn ?_
      refine tn ?_
      refine Wc.region rfl ?_
      refine Wl.pure (PR.moveI rfl) ?_
      refine Wl.pure (PR.add (a := ((k : Nat) : Int)) (b := 1) rfl rfl (by simp only [fitI]; omega)) ?_
      refine Wl.pure (PR.assI rfl) ?_
      refine Wl.nil ?_
      refine tn ?_
      rw [st_or, mix_upd] at st
      exact ⟨k + 1, (.cons rfl (.cons rfl (.cons rfl (.cons rfl (.cons rfl (.cons rfl (.cons rfl (.cons rfl (.cons rfl (.nil _)))))))))), ⟨st, (by first | omega | (dsimp only; omega))⟩, (by first | omega | (dsimp only; omega))⟩
    · refine Wc.exit ?_
      refine tx ?_
      refine tx ?_
      refine bh ?_
      refine bn ?_
      refine tn ?_
      refine Wc.region rfl ?_
      refine Wl.pure (PR.moveI rfl) ?_
      refine Wl.pure (PR.add (a := ((i : Nat) : Int)) (b := 1) rfl rfl (by simp only [fitI]; omega)) ?_
      refine Wl.pure (PR.assI rfl) ?_
      refine Wl.nil ?_
      refine tn ?_
      obtain rfl : k = 64 := by omega
      rw [layV_mix] at st
      exact ⟨i + 1, (.cons rfl (.cons rfl (.cons rfl (.cons rfl (.nil _))))), ⟨st, (by first | omega | (dsimp only; omega))⟩, (by first | omega | (dsimp only; omega))⟩
  · refine Wc.exit ?_
    refine tx ?_
    refine tx ?_
    refine bh ?_
    refine tn ?_
    refine Wc.seq ?_
    refine Wc.region rfl ?_
    refine Wl.loadA (i := 0) st tA_29 rfl rfl (all_sub layV_len) layV_len ?_
    refine Wl.storeA (i := 1) (cs' := layV (p 0) ((orC c i))) st tA_29 rfl rfl layV_len layV_one rfl (le_of_len layV_len (by omega)) (all_put layV_len) ?_
    clear st
    intro w13 st
    replace st : St [] w w13 [(b3, layV (p 0) ((orC c i)), 29), (b2, layV (p 0) ((orC c i)), 29)] := st
    refine Wl.nil ?_
    refine tn ?_
    refine Wc.ret ?_
    refine postL.cell (i := 1) st rfl tA_29 rfl rfl layV_len ?_
    refine RetV.of ?_ st.below
    exact congrArg (fun l : List Value => Value.agg l.toArray) (layV_congr rfl fun j hj => by first | rfl | (obtain rfl : i = n := (by omega); rfl))

set_option maxHeartbeats 400000 in
set_option maxRecDepth 4000 in
theorem c_impl_stackOf {A : Option Addr} {n : Nat} {cp : Nat} {y : Nat → Int} {c : Nat → Nat → Nat} {x : Nat} {w : World} (hRL : RdS w A n (layS n y c)) (hg : ∀ i, i < n → -128 ≤ y i ∧ y i ≤ 127) (hc : ∀ i k, c i k < 256) (hn : n ≤ 1048576) (hx : x < 256) (hm0 : 0 < flN (bitB x) n) :
    CE Try.prog 94 [.slice (A) (n) (cp), .int .u8 (((x : Nat) : Int))] w (RetV w (.agg (layV ((pkG x n y) 0) ((orC (pkC x n c) (flN (bitB x) n)))).toArray)) := by
  refine CE.enter 28 [(0, .slice (A) (n) (cp)), (1, .int .u8 (((x : Nat) : Int)))] en_94 Try.func94 rfl rfl (Nat.le_of_ble_eq_true rfl) rfl ?_
  have st := St.start w
  refine Wc.seq ?_
  refine Wc.region rfl ?_
  refine Wl.alloc st tZ_29 rfl ?_
  clear st
  intro b4 w1 st
  refine Wl.nil ?_
  refine tn ?_
  refine Wc.seq ?_
  refine Wc.region rfl ?_
  refine Wl.buildSlice (ps := []) (cs := layS 0 (fun _ => 0) (fun _ _ => 0) ++ []) st tS_37 tZ_29 rfl rfl rfl ?_
  clear st
  intro b8 w2 st
  refine Wl.pure (PR.assL rfl) ?_
  refine Wl.nil ?_
  refine tn ?_
  refine Wc.seq ?_
  refine Wc.seq ?_
  refine Wc.region rfl ?_
  refine Wl.pure (PR.moveL rfl) ?_
  refine Wl.pure (PR.lenL tS_37 rfl) ?_
  refine Wl.pure (PR.moveI rfl) ?_
  refine Wl.nil ?_
  refine tn ?_
  refine Wc.block ?_
  refine Wc.loopF (γ := Nat × Nat × (Nat → Int) × (Nat → Nat → Nat) × Nat × Nat × List Value) (fun g => [(1, .int .u8 (((x : Nat) : Int))), (4, .pointer (some ⟨b4, 0, none⟩)), (5, .slice (some ⟨g.2.2.2.2.1, 0, none⟩) (g.2.1) (g.2.2.2.2.2.1)), (9, .slice (A) (n) (cp)), (10, .int .i64 (((n : Nat) : Int))), (11, .int .i64 (((g.1 : Nat) : Int)))]) (fun g w_ => St [] w w_ [(g.2.2.2.2.1, layS g.2.1 g.2.2.1 g.2.2.2.1 ++ g.2.2.2.2.2.2, 29), (b4, layV (0) ((fun _ => 0)), 29)] ∧ (g.1 ≤ n) ∧ (g.2.1 = flN (bitB x) g.1) ∧ (∀ j, j < g.2.1 → g.2.2.1 j = y (flA (bitB x) g.1 j)) ∧ (∀ j, j < g.2.1 → g.2.2.2.1 j = c (flA (bitB x) g.1 j)) ∧ (g.2.1 ≤ g.2.2.2.2.2.1) ∧ (g.2.2.2.2.2.2.length = (g.2.2.2.2.2.1 - g.2.1) * 65)) (fun g => n - g.1) ?_ ?_
  · exact ⟨(0, 0, (fun _ => 0), (fun _ _ => 0), b8, 0, []), (.cons rfl (.cons rfl (.cons rfl (.cons rfl (.cons rfl (.cons rfl (.nil _))))))), st, (by first | omega | (dsimp only; omega)), rfl, (fun j hj => absurd hj (Nat.not_lt_zero _)), (fun j hj => absurd hj (Nat.not_lt_zero _)), (Nat.le_refl _), rfl⟩
  clear st
  rintro ⟨k, mm, g1, c1, b_o, c_o, sp_o⟩ w3 ⟨st, hk, hm, hug1, huc1, hc_o, hs_o⟩
  try dsimp only at st hk hm hug1 huc1 hc_o hs_o ⊢
  have hfl8 := flN_le (bitB x) k
  refine Wc.seq ?_
  refine Wc.region rfl ?_
  refine Wl.pure (PR.lss (a := ((k : Nat) : Int)) (b := ((n : Nat) : Int)) rfl rfl) ?_
  refine Wl.nil ?_
  refine tn ?_
  refine Wc.seq ?_
  refine Wc.condD (p := ((k : Nat) : Int) < ((n : Nat) : Int)) rfl (fun h4 => ?_) (fun h4 => ?_)
  · refine Wc.skip ?_
    refine tn ?_
    refine Wc.seq ?_
    refine Wc.block ?_
    refine Wc.seq ?_
    refine Wc.region rfl ?_
    refine Wl.pure (PR.moveI rfl) ?_
    obtain ⟨bs5, os6, rfl, hs7⟩ := hRL (by omega)
    have := hg (k) (by omega)
    refine Wl.pure (PR.idxAddrS (i := k) tS_37 rfl rfl (by omega)) ?_
    refine Wl.loadAC (vs := layV (y k) ((c k))) tA_29 rfl layV_len ((hs7.st st).sub (recV_sub (n := n) (i := k) (layS_row _ _) (by omega)) rfl) ?_
    refine Wl.alloc st tZ_29 rfl ?_
    clear st
    intro b7 w8 st
    refine Wl.pure (PR.assI rfl) ?_
    refine Wl.storeA (i := 0) (cs' := layV (y k) ((c k))) st tA_29 rfl rfl layV_len layV_one rfl (le_of_len layV_len (by omega)) (all_put layV_len) ?_
    clear st
    intro w9 st
    replace st : St [] w w9 [(b7, layV (y k) ((c k)), 29), (b_o, layS mm g1 c1 ++ sp_o, 29), (b4, layV (0) ((fun _ => 0)), 29)] := st
    refine Wl.nil ?_
    refine tn ?_
    refine Wc.seq ?_
    refine Wc.region rfl ?_
    refine Wl.pure (PR.moveI rfl) ?_
    refine Wl.pure (PR.moveI rfl) ?_
    refine Wl.pure (PR.shr (a := x) (n := k) rfl rfl (by decide) hx) ?_
    refine Wl.pure (PR.and (a := (x >>> k)) (b := 1) rfl rfl (by decide) (shr_lt hx) (by decide)) ?_
    refine Wl.pure (PR.eql (a := ((((x >>> k) &&& 1) : Nat) : Int)) (b := 1) rfl rfl) ?_
    refine Wl.nil ?_
    refine tn ?_
    refine Wc.condD (p := ((((x >>> k) &&& 1) : Nat) : Int) = 1) rfl (fun h10 => ?_) (fun h10 => ?_)
    · refine Wc.region rfl ?_
      refine Wl.pure (PR.moveL rfl) ?_
      refine Wl.loadA (i := 0) st tA_29 rfl rfl (all_sub layV_len) layV_len ?_
      refine Wl.buildSlice (ps := [(0, .agg (layV (y k) ((c k))).toArray)]) (cs := layS 1 (fun z_ => [(y k)].getD z_ 0) (fun z_ => [(c k)].getD z_ (fun _ => 0))) st tS_37 tZ_29 rfl rfl (lit_lays1 _ _ _) ?_
      clear st
      intro b23 w11 st
      refine Wl.append (n := mm) (c := c_o) (m := 1) (cs := layS mm g1 c1) (sp := sp_o) (vs := layS 1 (fun z_ => [(y k)].getD z_ 0) (fun z_ => [(c k)].getD z_ (fun _ => 0))) (i := 2) st tS_37 tZ_29 rfl rfl rfl (recV_len (s := 65) (layS_row _ _) _) hs_o hc_o rfl (Src.ofRdA (tyS_und tS_37) (st.rdA (i := 0) (n := (1 * 65)) rfl (all_sub (recV_len (s := 65) (layS_row _ _) _))) (recV_len (s := 65) (layS_row _ _) _) (layS_one _ _)) (by omega) (by omega) ?_
      clear st
      intro b24 c24 sp24 w12 hc24 hs24 st
      rw [layS_app1] at st
      replace st : St [] w w12 [(b24, layS (mm + 1) (upd g1 mm (y k)) (upd c1 mm (c k)) ++ sp24, 29), (b23, layS 1 (fun z_ => [(y k)].getD z_ 0) (fun z_ => [(c k)].getD z_ (fun _ => 0)), 29), (b7, layV (y k) ((c k)), 29), (b4, layV (0) ((fun _ => 0)), 29)] := st
      refine Wl.pure (PR.assL rfl) ?_
      refine Wl.nil ?_
      refine bn ?_
      refine tn ?_
      refine Wc.region rfl ?_
      refine Wl.pure (PR.add (a := ((k : Nat) : Int)) (b := 1) rfl rfl (by simp only [fitI]; omega)) ?_
      refine Wl.pure (PR.moveI rfl) ?_
      refine Wl.nil ?_
      refine tn ?_
      replace st : St [] w w12 [(b24, layS (mm + 1) (upd g1 mm (y k)) (upd c1 mm (c k)) ++ sp24, 29), (b4, layV (0) ((fun _ => 0)), 29)] := st.pick [0, 3] (by decide) rfl
      have hfl9 := flN_le (bitB x) k
      exact ⟨(k + 1, mm + 1, (upd g1 mm (y k)), (upd c1 mm (c k)), b24, c24, sp24), (.cons rfl (.cons rfl (.cons rfl (.cons rfl (.cons rfl (.cons rfl (.nil _))))))), ⟨st, (by first | omega | (dsimp only; omega)), (by first | exact flN_t hm (by unfold bitB; exact decide_eq_true (by omega)) | exact flN_f hm (by unfold bitB; exact decide_eq_false (by omega))), (by first | exact flA_t (g := y) hm hug1 (by unfold bitB; exact decide_eq_true (by omega)) | exact flA_f hug1 (by unfold bitB; exact decide_eq_false (by omega))), (by first | exact flA_t (g := c) hm huc1 (by unfold bitB; exact decide_eq_true (by omega)) | exact flA_f huc1 (by unfold bitB; exact decide_eq_false (by omega))), hc24, hs24⟩, (by first | omega | (dsimp only; omega))⟩
    · refine Wc.skip ?_
      refine bn ?_
      refine tn ?_
      refine Wc.region rfl ?_
      refine Wl.pure (PR.add (a := ((k : Nat) : Int)) (b := 1) rfl rfl (by simp only [fitI]; omega)) ?_
      refine Wl.pure (PR.moveI rfl) ?_
      refine Wl.nil ?_
      refine tn ?_
      replace st := st.tail
      have hfl9 := flN_le (bitB x) k
      exact ⟨(k + 1, mm, g1, c1, b_o, c_o, sp_o), (.cons rfl (.cons rfl (.cons rfl (.cons rfl (.cons rfl (.cons rfl (.nil _))))))), ⟨st, (by first | omega | (dsimp only; omega)), (by first | exact flN_t hm (by unfold bitB; exact decide_eq_true (by omega)) | exact flN_f hm (by unfold bitB; exact decide_eq_false (by omega))), (by first | exact flA_t (g := y) hm hug1 (by unfold bitB; exact decide_eq_true (by omega)) | exact flA_f hug1 (by unfold bitB; exact decide_eq_false (by omega))), (by first | exact flA_t (g := c) hm huc1 (by unfold bitB; exact decide_eq_true (by omega)) | exact flA_f huc1 (by unfold bitB; exact decide_eq_false (by omega))), hc_o, hs_o⟩, (by first | omega | (dsimp only; omega))⟩
  · refine Wc.exit ?_
    refine tx ?_
    refine tx ?_
    refine bh ?_
    refine tn ?_
    refine Wc.seq ?_
    obtain rfl : n = k := by omega
    subst hm
    have hfl := flN_le (bitB x) n
    have hn0 : 0 < n := by omega
    rw [show layS (flN (bitB x) n) g1 c1 = layS (flN (bitB x) n) (pkG x n y) (pkC x n c) from layS_congr (fun j hj => hug1 j hj) (fun j hj r _ => by rw [huc1 j hj]; rfl)] at st
    refine Wc.region rfl ?_
    refine Wl.pure (PR.moveL rfl) ?_
    refine Wl.callV (c_impl_stack (A := some ⟨b_o, 0, none⟩) (n := (flN (bitB x) n)) (cp := c_o) (p := (pkG x n y)) (c := (pkC x n c)) ((st.rdA (i := 0) (n := ((flN (bitB x) n) * 65)) rfl (app_all (recV_len (s := 65) (layS_row _ _) _))).sl) (fun i _ => hg _ (flA_lt _ _ _ hn0)) (fun i k => hc _ k) (by first | assumption | omega) (by first | assumption | omega)) rfl ?_
    intro w13 hbel
    replace st := st.call hbel
    clear hbel
    refine Wl.storeA (i := 1) (cs' := layV ((pkG x n y) 0) ((orC (pkC x n c) (flN (bitB x) n)))) st tA_29 rfl rfl layV_len layV_one rfl (le_of_len layV_len (by omega)) (all_put layV_len) ?_
    clear st
    intro w14 st
    replace st : St [] w w14 [(b_o, layS (flN (bitB x) n) (pkG x n y) (pkC x n c) ++ sp_o, 29), (b4, layV ((pkG x n y) 0) ((orC (pkC x n c) (flN (bitB x) n))), 29)] := st
    refine Wl.nil ?_
    refine tn ?_
    refine Wc.ret ?_
    refine postL.cell (i := 1) st rfl tA_29 rfl rfl layV_len ?_
    exact RetV.of rfl st.below

set_option maxHeartbeats 400000 in
set_option maxRecDepth 4000 in
theorem c_spec_l03Stack {A : Option Addr} {n : Nat} {cp : Nat} {y : Nat → Int} {c : Nat → Nat → Nat} {x : Nat} {w : World} (hRL : RdS w A n (layS n y c)) (hg : ∀ i, i < n → -128 ≤ y i ∧ y i ≤ 127) (hc : ∀ i k, c i k < 256) (hn : n ≤ 1048576) (hx : x < 256) (hm0 : 0 < flN (bitB x) n) :
    CE Try.prog 89 [.slice (A) (n) (cp), .int .u8 (((x : Nat) : Int))] w (RetV w (.agg (layV ((pkG x n y) 0) ((orC (pkC x n c) (flN (bitB x) n)))).toArray)) := by
  refine CE.enter 29 [(0, .slice (A) (n) (cp)), (1, .int .u8 (((x : Nat) : Int)))] en_89 Try.func89 rfl rfl (Nat.le_of_ble_eq_true rfl) rfl ?_
  have st := St.start w
  refine Wc.seq ?_
  refine Wc.region rfl ?_
  refine Wl.alloc st tZ_29 rfl ?_
  clear st
  intro b4 w1 st
  refine Wl.nil ?_
  refine tn ?_
  refine Wc.seq ?_
  refine Wc.region rfl ?_
  refine Wl.buildSlice (ps := []) (cs := layS 0 (fun _ => 0) (fun _ _ => 0) ++ []) st tS_37 tZ_29 rfl rfl rfl ?_
  clear st
  intro b7 w2 st
  refine Wl.pure (PR.assL rfl) ?_
  refine Wl.nil ?_
  refine tn ?_
  refine Wc.seq ?_
  refine Wc.seq ?_
  refine Wc.region rfl ?_
  refine Wl.pure (PR.assI rfl) ?_
  refine Wl.nil ?_
  refine tn ?_
  refine Wc.block ?_
  refine Wc.loopF (γ := Nat × Nat × (Nat → Int) × (Nat → Nat → Nat) × Nat × Nat × List Value) (fun g => [(0, .slice (A) (n) (cp)), (1, .int .u8 (((x : Nat) : Int))), (4, .pointer (some ⟨b4, 0, none⟩)), (5, .slice (some ⟨g.2.2.2.2.1, 0, none⟩) (g.2.1) (g.2.2.2.2.2.1)), (6, .int .i64 (((g.1 : Nat) : Int)))]) (fun g w_ => St [] w w_ [(g.2.2.2.2.1, layS g.2.1 g.2.2.1 g.2.2.2.1 ++ g.2.2.2.2.2.2, 29), (b4, layV (0) ((fun _ => 0)), 29)] ∧ (g.1 ≤ n) ∧ (g.2.1 = flN (bitB x) g.1) ∧ (∀ j, j < g.2.1 → g.2.2.1 j = y (flA (bitB x) g.1 j)) ∧ (∀ j, j < g.2.1 → g.2.2.2.1 j = c (flA (bitB x) g.1 j)) ∧ (g.2.1 ≤ g.2.2.2.2.2.1) ∧ (g.2.2.2.2.2.2.length = (g.2.2.2.2.2.1 - g.2.1) * 65)) (fun g => n - g.1) ?_ ?_
  · exact ⟨(0, 0, (fun _ => 0), (fun _ _ => 0), b7, 0, []), (.cons rfl (.cons rfl (.cons rfl (.cons rfl (.cons rfl (.nil _)))))), st, (by first | omega | (dsimp only; omega)), rfl, (fun j hj => absurd hj (Nat.not_lt_zero _)), (fun j hj => absurd hj (Nat.not_lt_zero _)), (Nat.le_refl _), rfl⟩
  clear st
  rintro ⟨k, mm, g1, c1, b_o, c_o, sp_o⟩ w3 ⟨st, hk, hm, hug1, huc1, hc_o, hs_o⟩
  try dsimp only at st hk hm hug1 huc1 hc_o hs_o ⊢
  have hfl8 := flN_le (bitB x) k
  refine Wc.seq ?_
  refine Wc.seq ?_
  refine Wc.region rfl ?_
  refine Wl.pure (PR.moveI rfl) ?_
  refine Wl.pure (PR.moveL rfl) ?_
  refine Wl.pure (PR.lenL tS_37 rfl) ?_
  refine Wl.pure (PR.lss (a := ((k : Nat) : Int)) (b := ((n : Nat) : Int)) rfl rfl) ?_
  refine Wl.nil ?_
  refine tn ?_
  refine Wc.condD (p := ((k : Nat) : Int) < ((n : Nat) : Int)) rfl (fun h4 => ?_) (fun h4 => ?_)
  · refine Wc.skip ?_
    refine tn ?_
    refine Wc.seq ?_
    refine Wc.block ?_
    refine Wc.seq ?_
    refine Wc.region rfl ?_
    refine Wl.pure (PR.moveI rfl) ?_
    refine Wl.pure (PR.moveI rfl) ?_
    refine Wl.pure (PR.conv (n := ((k : Nat) : Int)) tI_76 rfl (by simp only [fitI]; omega) Try.underlying3) ?_
    refine Wl.pure (PR.shr (a := x) (n := k) rfl rfl (by decide) hx) ?_
    refine Wl.pure (PR.and (a := (x >>> k)) (b := 1) rfl rfl (by decide) (shr_lt hx) (by decide)) ?_
    refine Wl.pure (PR.eql (a := ((((x >>> k) &&& 1) : Nat) : Int)) (b := 1) rfl rfl) ?_
    refine Wl.nil ?_
    refine tn ?_
    refine Wc.condD (p := ((((x >>> k) &&& 1) : Nat) : Int) = 1) rfl (fun h5 => ?_) (fun h5 => ?_)
    · refine Wc.region rfl ?_
      refine Wl.pure (PR.moveL rfl) ?_
      refine Wl.pure (PR.moveL rfl) ?_
      refine Wl.pure (PR.moveI rfl) ?_
      obtain ⟨bs6, os7, rfl, hs8⟩ := hRL (by omega)
      have := hg (k) (by omega)
      refine Wl.pure (PR.idxAddrS (i := k) tS_37 rfl rfl (by omega)) ?_
      refine Wl.loadAC (vs := layV (y k) ((c k))) tA_29 rfl layV_len ((hs8.st st).sub (recV_sub (n := n) (i := k) (layS_row _ _) (by omega)) rfl) ?_
      refine Wl.buildSlice (ps := [(0, .agg (layV (y k) ((c k))).toArray)]) (cs := layS 1 (fun z_ => [(y k)].getD z_ 0) (fun z_ => [(c k)].getD z_ (fun _ => 0))) st tS_37 tZ_29 rfl rfl (lit_lays1 _ _ _) ?_
      clear st
      intro b25 w9 st
      refine Wl.append (n := mm) (c := c_o) (m := 1) (cs := layS mm g1 c1) (sp := sp_o) (vs := layS 1 (fun z_ => [(y k)].getD z_ 0) (fun z_ => [(c k)].getD z_ (fun _ => 0))) (i := 1) st tS_37 tZ_29 rfl rfl rfl (recV_len (s := 65) (layS_row _ _) _) hs_o hc_o rfl (Src.ofRdA (tyS_und tS_37) (st.rdA (i := 0) (n := (1 * 65)) rfl (all_sub (recV_len (s := 65) (layS_row _ _) _))) (recV_len (s := 65) (layS_row _ _) _) (layS_one _ _)) (by omega) (by omega) ?_
      clear st
      intro b26 c26 sp26 w10 hc26 hs26 st
      rw [layS_app1] at st
      replace st : St [] w w10 [(b26, layS (mm + 1) (upd g1 mm (y k)) (upd c1 mm (c k)) ++ sp26, 29), (b25, layS 1 (fun z_ => [(y k)].getD z_ 0) (fun z_ => [(c k)].getD z_ (fun _ => 0)), 29), (b4, layV (0) ((fun _ => 0)), 29)] := st
      refine Wl.pure (PR.assL rfl) ?_
      refine Wl.nil ?_
      refine bn ?_
      refine tn ?_
      refine Wc.region rfl ?_
      refine Wl.pure (PR.moveI rfl) ?_
      refine Wl.pure (PR.add (a := ((k : Nat) : Int)) (b := 1) rfl rfl (by simp only [fitI]; omega)) ?_
      refine Wl.pure (PR.assI rfl) ?_
      refine Wl.nil ?_
      refine tn ?_
      replace st : St [] w w10 [(b26, layS (mm + 1) (upd g1 mm (y k)) (upd c1 mm (c k)) ++ sp26, 29), (b4, layV (0) ((fun _ => 0)), 29)] := st.pick [0, 2] (by decide) rfl
      have hfl9 := flN_le (bitB x) k
      exact ⟨(k + 1, mm + 1, (upd g1 mm (y k)), (upd c1 mm (c k)), b26, c26, sp26), (.cons rfl (.cons rfl (.cons rfl (.cons rfl (.cons rfl (.nil _)))))), ⟨st, (by first | omega | (dsimp only; omega)), (by first | exact flN_t hm (by unfold bitB; exact decide_eq_true (by omega)) | exact flN_f hm (by unfold bitB; exact decide_eq_false (by omega))), (by first | exact flA_t (g := y) hm hug1 (by unfold bitB; exact decide_eq_true (by omega)) | exact flA_f hug1 (by unfold bitB; exact decide_eq_false (by omega))), (by first | exact flA_t (g := c) hm huc1 (by unfold bitB; exact decide_eq_true (by omega)) | exact flA_f huc1 (by unfold bitB; exact decide_eq_false (by omega))), hc26, hs26⟩, (by first | omega | (dsimp only; omega))⟩
    · refine Wc.skip ?_
      refine bn ?_
      refine tn ?_
      refine Wc.region rfl ?_
      refine Wl.pure (PR.moveI rfl) ?_
      refine Wl.pure (PR.add (a := ((k : Nat) : Int)) (b := 1) rfl rfl (by simp only [fitI]; omega)) ?_
      refine Wl.pure (PR.assI rfl) ?_
      refine Wl.nil ?_
      refine tn ?_
      have hfl9 := flN_le (bitB x) k
      exact ⟨(k + 1, mm, g1, c1, b_o, c_o, sp_o), (.cons rfl (.cons rfl (.cons rfl (.cons rfl (.cons rfl (.nil _)))))), ⟨st, (by first | omega | (dsimp only; omega)), (by first | exact flN_t hm (by unfold bitB; exact decide_eq_true (by omega)) | exact flN_f hm (by unfold bitB; exact decide_eq_false (by omega))), (by first | exact flA_t (g := y) hm hug1 (by unfold bitB; exact decide_eq_true (by omega)) | exact flA_f hug1 (by unfold bitB; exact decide_eq_false (by omega))), (by first | exact flA_t (g := c) hm huc1 (by unfold bitB; exact decide_eq_true (by omega)) | exact flA_f huc1 (by unfold bitB; exact decide_eq_false (by omega))), hc_o, hs_o⟩, (by first | omega | (dsimp only; omega))⟩
  · refine Wc.exit ?_
    refine tx ?_
    refine tx ?_
    refine bh ?_
    refine tn ?_
    refine Wc.seq ?_
    obtain rfl : n = k := by omega
    subst hm
    have hfl := flN_le (bitB x) n
    have hn0 : 0 < n := by omega
    rw [show layS (flN (bitB x) n) g1 c1 = layS (flN (bitB x) n) (pkG x n y) (pkC x n c) from layS_congr (fun j hj => hug1 j hj) (fun j hj r _ => by rw [huc1 j hj]; rfl)] at st
    refine Wc.region rfl ?_
    refine Wl.pure (PR.moveL rfl) ?_
    refine Wl.callV (c_spec_l01Stack (A := some ⟨b_o, 0, none⟩) (n := (flN (bitB x) n)) (cp := c_o) (p := (pkG x n y)) (c := (pkC x n c)) ((st.rdA (i := 0) (n := ((flN (bitB x) n) * 65)) rfl (app_all (recV_len (s := 65) (layS_row _ _) _))).sl) (fun i _ => hg _ (flA_lt _ _ _ hn0)) (fun i k => hc _ k) (by first | assumption | omega) (by first | assumption | omega)) rfl ?_
    intro w11 hbel
    replace st := st.call hbel
    clear hbel
    refine Wl.storeA (i := 1) (cs' := layV ((pkG x n y) 0) ((orC (pkC x n c) (flN (bitB x) n)))) st tA_29 rfl rfl layV_len layV_one rfl (le_of_len layV_len (by omega)) (all_put layV_len) ?_
    clear st
    intro w12 st
    replace st : St [] w w12 [(b_o, layS (flN (bitB x) n) (pkG x n y) (pkC x n c) ++ sp_o, 29), (b4, layV ((pkG x n y) 0) ((orC (pkC x n c) (flN (bitB x) n))), 29)] := st
    refine Wl.nil ?_
    refine tn ?_
    refine Wc.ret ?_
    refine postL.cell (i := 1) st rfl tA_29 rfl rfl layV_len ?_
    exact RetV.of rfl st.below

set_option maxHeartbeats 400000 in
set_option maxRecDepth 4000 in
theorem c_impl_Layer_count {p : Int} {c : Nat → Nat} {k : Nat} {w : World} (hc : ∀ k, c k < 256) (hk : k < 64) :
    CE Try.prog 78 [.agg (layV (p) (c)).toArray, .int .i64 (((k : Nat) : Int))] w (RetV w (.int .i64 (((pc (c k) : Nat) : Int)))) := by
  refine CE.enter 10 [(0, .agg (layV (p) (c)).toArray), (1, .int .i64 (((k : Nat) : Int)))] en_78 Try.func78 rfl rfl (Nat.le_of_ble_eq_true rfl) rfl ?_
  have st := St.start w
  refine Wc.seq ?_
  refine Wc.region rfl ?_
  refine Wl.boxA st rfl ?_
  clear st
  intro b2 w1 st
  refine Wl.pure (PR.assI rfl) ?_
  refine Wl.nil ?_
  refine tn ?_
  refine Wc.seq ?_
  refine Wc.region rfl ?_
  refine Wl.pure (PR.moveI rfl) ?_
  refine Wl.pure (PR.fieldAddr tF_29_1 rfl) ?_
  refine Wl.pure (PR.idxAddrA1 (i := k) tE_23 rfl rfl (by omega)) ?_
  refine Wl.load (i := 0) st tA_5 rfl rfl (layV_get_c (by omega)) ?_
  refine Wl.callV (c_math_bits_OnesCount8 (x := c (k)) (hc (k))) rfl ?_
  intro w2 hbel
  replace st := st.call hbel
  clear hbel
  refine Wl.pure (PR.assI rfl) ?_
  refine Wl.nil ?_
  refine tn ?_
  refine Wc.ret ?_
  refine postL.tmp rfl rfl ?_
  refine RetV.of ?_ st.below
  refine congrArg (Value.int .i64) ?_
  first | rfl | omega | simp_all

set_option maxHeartbeats 400000 in
set_option maxRecDepth 4000 in
theorem c_impl_pictureOf {fk : Nat} {cap : List Value} {q : Nat → Bool} {w : World} (hF : ∀ i, i < 64 → ∀ w', Below w.heap.size w w' → CE Try.prog fk (.int .i64 ((i : Nat) : Int) :: cap) w' (RetV w' (.bool (q i)))) :
    CE Try.prog 108 [.func (.func fk) #[] cap.toArray] w (RetV w (.int .u64 (((pic q : Nat) : Int)))) := by
  refine CE.enter 17 [(0, .func (.func fk) #[] cap.toArray)] en_108 Try.func108 rfl rfl (Nat.le_of_ble_eq_true rfl) rfl ?_
  have st := St.start w
  refine Wc.seq ?_
  refine Wc.region rfl ?_
  refine Wl.pure (PR.assI rfl) ?_
  refine Wl.nil ?_
  refine tn ?_
  refine Wc.seq ?_
  refine Wc.region rfl ?_
  refine Wl.pure (PR.assI rfl) ?_
  refine Wl.nil ?_
  refine tn ?_
  refine Wc.seq ?_
  refine Wc.seq ?_
  refine Wc.region rfl ?_
  refine Wl.pure (PR.moveI rfl) ?_
  refine Wl.nil ?_
  refine tn ?_
  refine Wc.block ?_
  refine Wc.loopF (γ := Nat × Nat) (fun g => [(0, .func (.func fk) #[] cap.toArray), (2, .int .u64 (0)), (3, .int .u64 (((g.2 : Nat) : Int))), (5, .int .i64 (((g.1 : Nat) : Int)))]) (fun g w_ => St [] w w_ [] ∧ (g.1 ≤ 64) ∧ (g.2 = picF q g.1) ∧ (g.2 < 18446744073709551616)) (fun g => 64 - g.1) ?_ ?_
  · exact ⟨(0, 0), (.cons rfl (.cons rfl (.cons rfl (.cons rfl (.nil _))))), st, (by first | omega | (dsimp only; omega)), rfl, (by decide)⟩
  clear st
  rintro ⟨k, v⟩ w1 ⟨st, hk, hv, hvb⟩
  try dsimp only at st hk hv hvb ⊢
  refine Wc.seq ?_
  refine Wc.region rfl ?_
  refine Wl.pure (PR.lss (a := ((k : Nat) : Int)) (b := 64) rfl rfl) ?_
  refine Wl.nil ?_
  refine tn ?_
  refine Wc.seq ?_
  refine Wc.condD (p := ((k : Nat) : Int) < 64) rfl (fun h2 => ?_) (fun h2 => ?_)
  · refine Wc.skip ?_
    refine tn ?_
    refine Wc.seq ?_
    refine Wc.block ?_
    refine Wc.seq ?_
    refine Wc.region rfl ?_
    refine Wl.pure (PR.moveI rfl) ?_
    refine Wl.pure (PR.assI rfl) ?_
    refine Wl.nil ?_
    refine tn ?_
    refine Wc.seq ?_
    refine Wc.region rfl ?_
    refine Wl.pure (PR.moveF rfl) ?_
    refine Wl.pure (PR.moveI rfl) ?_
    refine Wl.callFW rfl rfl (hF k (by omega) _ st.below) ?_
    intro w3 hbel
    replace st := st.call hbel
    clear hbel
    refine Wl.nil ?_
    refine tn ?_
    refine Wc.condB (b := q k) rfl (fun h4 => ?_) (fun h4 => ?_)
    · refine Wc.region rfl ?_
      refine Wl.pure (PR.moveI rfl) ?_
      refine Wl.pure (PR.moveI rfl) ?_
      refine Wl.pure (PR.shl (a := 1) (n := k) rfl rfl (by decide)) ?_
      refine Wl.pure (PR.or (a := v) (b := ((1 <<< k) % 18446744073709551616)) rfl rfl (by decide) hvb (Nat.mod_lt _ (by decide))) ?_
      refine Wl.pure (PR.assI rfl) ?_
      refine Wl.nil ?_
      refine bn ?_
      refine tn ?_
      refine Wc.region rfl ?_
      refine Wl.pure (PR.add (a := ((k : Nat) : Int)) (b := 1) rfl rfl (by simp only [fitI]; omega)) ?_
      refine Wl.pure (PR.moveI rfl) ?_
      refine Wl.nil ?_
      refine tn ?_
      exact ⟨(k + 1, (v ||| ((1 <<< k) % 18446744073709551616))), (.cons rfl (.cons rfl (.cons rfl (.cons rfl (.nil _))))), ⟨st, (by first | omega | (dsimp only; omega)), (by first | exact picF_t hv (by assumption) | exact picF_f hv (by assumption)), (by first | exact hvb | exact or_lt_u64 hvb (Nat.mod_lt _ (by decide)))⟩, (by first | omega | (dsimp only; omega))⟩
    · refine Wc.skip ?_
      refine bn ?_
      refine tn ?_
      refine Wc.region rfl ?_
      refine Wl.pure (PR.add (a := ((k : Nat) : Int)) (b := 1) rfl rfl (by simp only [fitI]; omega)) ?_
      refine Wl.pure (PR.moveI rfl) ?_
      refine Wl.nil ?_
      refine tn ?_
      exact ⟨(k + 1, v), (.cons rfl (.cons rfl (.cons rfl (.cons rfl (.nil _))))), ⟨st, (by first | omega | (dsimp only; omega)), (by first | exact picF_t hv (by assumption) | exact picF_f hv (by assumption)), (by first | exact hvb | exact or_lt_u64 hvb (Nat.mod_lt _ (by decide)))⟩, (by first | omega | (dsimp only; omega))⟩
  · refine Wc.exit ?_
    refine tx ?_
    refine tx ?_
    refine bh ?_
    refine tn ?_
    refine Wc.seq ?_
    refine Wc.region rfl ?_
    refine Wl.pure (PR.moveI rfl) ?_
    refine Wl.pure (PR.assI rfl) ?_
    refine Wl.nil ?_
    refine tn ?_
    refine Wc.ret ?_
    refine postL.tmp rfl rfl ?_
    refine RetV.of ?_ st.below
    refine congrArg (fun x : Nat => Value.int .u64 (x : Int)) ?_
    obtain rfl : k = 64 := by omega
    exact hv

set_option maxHeartbeats 400000 in
set_option maxRecDepth 4000 in
theorem c_impl_Layer_shown_1 {b1 : Nat} {o1 : Nat} {b2 : Nat} {o2 : Nat} {p : Int} {c : Nat → Nat} {t : Int} {k : Nat} {w : World} (h1 : RdA w b1 o1 (layV p c)) (h2 : RdA w b2 o2 [.int .i64 t]) (hc : ∀ k, c k < 256) (hk : k < 64) :
    CE Try.prog 109 [.int .i64 (((k : Nat) : Int)), .pointer (some ⟨b1, o1, none⟩), .pointer (some ⟨b2, o2, none⟩)] w (RetV w (.bool (decide (t ≤ ((pc (c k) : Nat) : Int))))) := by
  refine CE.enter 10 [(0, .int .i64 (((k : Nat) : Int))), (1, .pointer (some ⟨b1, o1, none⟩)), (2, .pointer (some ⟨b2, o2, none⟩))] en_109 Try.func109 rfl rfl (Nat.le_of_ble_eq_true rfl) rfl ?_
  have st := St.start w
  refine Wc.seq ?_
  refine Wc.region rfl ?_
  refine Wl.pure (PR.assB rfl) ?_
  refine Wl.nil ?_
  refine tn ?_
  refine Wc.seq ?_
  refine Wc.quiet hmix (by kernel_rfl) rfl ?_
  refine Wq.loadAC tA_29 rfl layV_len ((h1.st st).sub (all_sub layV_len) rfl) ?_
  refine Wq.pure (PR.moveI rfl) ?_
  refine Wq.callV (fun _ hbel => c_impl_Layer_count (p := p) (c := c) (k := k) hc (by first | assumption | omega)) rfl ?_
  refine Wq.loadC tA_2 rfl ((h2.st st).at_ (j := 0) (rfl) rfl) ?_
  refine Wq.pure (PR.geq (a := ((pc (c k) : Nat) : Int)) (b := t) rfl rfl) ?_
  refine Wq.pure (PR.assB rfl) ?_
  refine Wq.nil (fun w1 hbel => ?_)
  replace st := st.call hbel
  clear hbel
  refine tn ?_
  refine Wc.ret ?_
  refine postL.tmp rfl rfl ?_
  exact RetV.of rfl st.below

set_option maxHeartbeats 400000 in
set_option maxRecDepth 4000 in
theorem c_impl_Layer_shown {p : Int} {c : Nat → Nat} {t : Int} {w : World} (hc : ∀ k, c k < 256) :
    CE Try.prog 95 [.agg (layV (p) (c)).toArray, .int .i64 (t)] w (RetV w (.int .u64 (((pic (fun r => decide (t ≤ ((pc (c r) : Nat) : Int))) : Nat) : Int)))) := by
  refine CE.enter 7 [(0, .agg (layV (p) (c)).toArray), (1, .int .i64 (t))] en_95 Try.func95 rfl rfl (Nat.le_of_ble_eq_true rfl) rfl ?_
  have st := St.start w
  refine Wc.seq ?_
  refine Wc.region rfl ?_
  refine Wl.boxA st rfl ?_
  clear st
  intro b2 w1 st
  refine Wl.boxI st rfl ?_
  clear st
  intro b3 w2 st
  refine Wl.pure (PR.assI rfl) ?_
  refine Wl.nil ?_
  refine tn ?_
  refine Wc.seq ?_
  refine Wc.region rfl ?_
  refine Wl.pure (PR.mkFunc (vs := [.pointer (some ⟨b2, 0, none⟩), .pointer (some ⟨b3, 0, none⟩)]) rfl) ?_
  refine Wl.callV (c_impl_pictureOf (fk := 109) (cap := [.pointer (some ⟨b2, 0, none⟩), .pointer (some ⟨b3, 0, none⟩)]) (q := (fun r => decide (t ≤ ((pc (c r) : Nat) : Int)))) (fun i hi w' hb => c_impl_Layer_shown_1 ((st.rdA (i := 1) rfl (all_sub layV_len)).below hb) ((st.rdA (i := 0) (n := 1) rfl rfl).below hb) hc hi)) rfl ?_
  intro w3 hbel
  replace st := st.call hbel
  clear hbel
  refine Wl.pure (PR.assI rfl) ?_
  refine Wl.nil ?_
  refine tn ?_
  refine Wc.ret ?_
  refine postL.tmp rfl rfl ?_
  exact RetV.of rfl st.below

set_option maxHeartbeats 400000 in
set_option maxRecDepth 4000 in
theorem c_spec_l01Shown {b : Nat} {o : Nat} {p : Int} {c : Nat → Nat} {t : Int} {w : World} (hR : RdA w b o (layV p c)) (hc : ∀ k, c k < 256) :
    CE Try.prog 90 [.pointer (some ⟨b, o, none⟩), .int .i64 (t)] w (RetV w (.int .u64 (((pic (fun r => decide (t ≤ ((pc (c r) : Nat) : Int))) : Nat) : Int)))) := by
  refine CE.enter 27 [(0, .pointer (some ⟨b, o, none⟩)), (1, .int .i64 (t))] en_90 Try.func90 rfl rfl (Nat.le_of_ble_eq_true rfl) rfl ?_
  have st := St.start w
  refine Wc.seq ?_
  refine Wc.region rfl ?_
  refine Wl.pure (PR.assI rfl) ?_
  refine Wl.nil ?_
  refine tn ?_
  refine Wc.seq ?_
  refine Wc.region rfl ?_
  refine Wl.pure (PR.assI rfl) ?_
  refine Wl.nil ?_
  refine tn ?_
  refine Wc.seq ?_
  refine Wc.seq ?_
  refine Wc.region rfl ?_
  refine Wl.pure (PR.assI rfl) ?_
  refine Wl.nil ?_
  refine tn ?_
  refine Wc.block ?_
  refine Wc.loopF (γ := Nat × Nat) (fun g => [(0, .pointer (some ⟨b, o, none⟩)), (1, .int .i64 (t)), (4, .int .u64 (0)), (5, .int .u64 (((g.2 : Nat) : Int))), (6, .int .i64 (((g.1 : Nat) : Int)))]) (fun g w_ => St [] w w_ [] ∧ (g.1 ≤ 64) ∧ (g.2 = picF (fun r => decide (t ≤ ((pc (c r) : Nat) : Int))) g.1) ∧ (g.2 < 18446744073709551616)) (fun g => 64 - g.1) ?_ ?_
  · exact ⟨(0, 0), (.cons rfl (.cons rfl (.cons rfl (.cons rfl (.cons rfl (.nil _)))))), st, (by first | omega | (dsimp only; omega)), rfl, (by decide)⟩
  clear st
  rintro ⟨k, v⟩ w1 ⟨st, hk, hv, hvb⟩
  try dsimp only at st hk hv hvb ⊢
  refine Wc.seq ?_
  refine Wc.seq ?_
  refine Wc.region rfl ?_
  refine Wl.pure (PR.moveI rfl) ?_
  refine Wl.pure (PR.lss (a := ((k : Nat) : Int)) (b := 64) rfl rfl) ?_
  refine Wl.nil ?_
  refine tn ?_
  refine Wc.condD (p := ((k : Nat) : Int) < 64) rfl (fun h2 => ?_) (fun h2 => ?_)
  · refine Wc.skip ?_
    refine tn ?_
    refine Wc.seq ?_
    refine Wc.block ?_
    refine Wc.seq ?_
    refine Wc.region rfl ?_
    refine Wl.pure (PR.moveP rfl) ?_
    refine Wl.pure (PR.moveI rfl) ?_
    refine Wl.pure (PR.nil_ rfl) ?_
    refine Wl.pure (PR.fieldAddr tF_29_1 rfl) ?_
    refine Wl.pure (PR.idxAddrA1 (i := k) tE_23 rfl rfl (by omega)) ?_
    refine Wl.loadC tA_5 rfl ((hR.st st).at_ (layV_get_c (by omega)) (Nat.add_assoc _ _ _).symm) ?_
    refine Wl.pure (PR.conv (n := ((c (k) : Nat) : Int)) tI_51 rfl (fitN (hc (k)) rfl) Try.underlying5) ?_
    refine Wl.callV (c_spec_l01Count (x := c (k)) (Nat.lt_of_lt_of_le (hc (k)) (by decide))) rfl ?_
    intro w3 hbel
    replace st := st.call hbel
    clear hbel
    refine Wl.pure (PR.moveI rfl) ?_
    refine Wl.pure (PR.geq (a := ((pc (c (k)) : Nat) : Int)) (b := t) rfl rfl) ?_
    refine Wl.nil ?_
    refine tn ?_
    refine Wc.condD (p := t ≤ ((pc (c (k)) : Nat) : Int)) rfl (fun h4 => ?_) (fun h4 => ?_)
    · refine Wc.region rfl ?_
      refine Wl.pure (PR.moveI rfl) ?_
      refine Wl.pure (PR.moveI rfl) ?_
      refine Wl.pure (PR.conv (n := ((k : Nat) : Int)) tI_76 rfl (by simp only [fitI]; omega) Try.underlying3) ?_
      refine Wl.pure (PR.shl (a := 1) (n := k) rfl rfl (by decide)) ?_
      refine Wl.pure (PR.or (a := v) (b := ((1 <<< k) % 18446744073709551616)) rfl rfl (by decide) hvb (Nat.mod_lt _ (by decide))) ?_
      refine Wl.pure (PR.assI rfl) ?_
      refine Wl.nil ?_
      refine bn ?_
      refine tn ?_
      refine Wc.region rfl ?_
      refine Wl.pure (PR.moveI rfl) ?_
      refine Wl.pure (PR.add (a := ((k : Nat) : Int)) (b := 1) rfl rfl (by simp only [fitI]; omega)) ?_
      refine Wl.pure (PR.assI rfl) ?_
      refine Wl.nil ?_
      refine tn ?_
      exact ⟨(k + 1, (v ||| ((1 <<< k) % 18446744073709551616))), (.cons rfl (.cons rfl (.cons rfl (.cons rfl (.cons rfl (.nil _)))))), ⟨st, (by first | omega | (dsimp only; omega)), (by first | exact picF_t hv (decide_eq_true (by assumption)) | exact picF_f hv (decide_eq_false (by assumption))), (by first | exact hvb | exact or_lt_u64 hvb (Nat.mod_lt _ (by decide)))⟩, (by first | omega | (dsimp only; omega))⟩
    · refine Wc.skip ?_
      refine bn ?_
      refine tn ?_
      refine Wc.region rfl ?_
      refine Wl.pure (PR.moveI rfl) ?_
      refine Wl.pure (PR.add (a := ((k : Nat) : Int)) (b := 1) rfl rfl (by simp only [fitI]; omega)) ?_
      refine Wl.pure (PR.assI rfl) ?_
      refine Wl.nil ?_
      refine tn ?_
      exact ⟨(k + 1, v), (.cons rfl (.cons rfl (.cons rfl (.cons rfl (.cons rfl (.nil _)))))), ⟨st, (by first | omega | (dsimp only; omega)), (by first | exact picF_t hv (decide_eq_true (by assumption)) | exact picF_f hv (decide_eq_false (by assumption))), (by first | exact hvb | exact or_lt_u64 hvb (Nat.mod_lt _ (by decide)))⟩, (by first | omega | (dsimp only; omega))⟩
  · refine Wc.exit ?_
    refine tx ?_
    refine tx ?_
    refine bh ?_
    refine tn ?_
    refine Wc.seq ?_
    refine Wc.region rfl ?_
    refine Wl.pure (PR.moveI rfl) ?_
    refine Wl.pure (PR.assI rfl) ?_
    refine Wl.nil ?_
    refine tn ?_
    refine Wc.ret ?_
    refine postL.tmp rfl rfl ?_
    refine RetV.of ?_ st.below
    refine congrArg (fun x : Nat => Value.int .u64 (x : Int)) ?_
    obtain rfl : k = 64 := by omega
    exact hv

set_option maxHeartbeats 400000 in
set_option maxRecDepth 4000 in
theorem c_impl_ReadWith {s : Int} {p : Int} {a : Nat → Nat} {b : Nat → Nat} {A : Option Addr} {n : Nat} {cp : Nat} {y : Nat → Int} {c : Nat → Nat → Nat} {x : Nat} {w : World} (hs : -128 ≤ s ∧ s ≤ 127) (hp : -128 ≤ p ∧ p ≤ 127) (ha : ∀ k, a k < 256) (hb : ∀ k, b k < 256) (hRL : RdS w A n (layS n y c)) (hg : ∀ i, i < n → -128 ≤ y i ∧ y i ≤ 127) (hc : ∀ i k, c i k < 256) (hn : n ≤ 1048576) (hx : x < 256) :
    CE Try.prog 62 [.agg (schV (s) (p) (a) (b)).toArray, .slice (A) (n) (cp), .int .u8 (((x : Nat) : Int))] w (RetV w (.tuple #[.int .u64 (((selN (rwC s p a b n y c x) (picT b n c x) : Nat) : Int)), .int .i64 (((rwC s p a b n y c x : Nat) : Int))])) := by
  refine CE.enter 42 [(0, .agg (schV (s) (p) (a) (b)).toArray), (1, .slice (A) (n) (cp)), (2, .int .u8 (((x : Nat) : Int)))] en_62 Try.func62 rfl rfl (Nat.le_of_ble_eq_true rfl) rfl ?_
  have st := St.start w
  refine Wc.seq ?_
  refine Wc.region rfl ?_
  refine Wl.boxA st rfl ?_
  clear st
  intro b3 w1 st
  refine Wl.pure (PR.assI rfl) ?_
  refine Wl.pure (PR.assI rfl) ?_
  refine Wl.nil ?_
  refine tn ?_
  refine Wc.seq ?_
  refine Wc.seq ?_
  refine Wc.region rfl ?_
  refine Wl.loadA (i := 0) st tA_62 rfl rfl (all_sub schV_len) schV_len ?_
  refine Wl.pure (PR.moveL rfl) ?_
  refine Wl.callV (c_impl_sharedCode (s := s) (p := p) (a := a) (b := b) (A := A) (n := n) (cp := cp) (y := y) (c := c) (by first | assumption | omega) (by first | assumption | omega) ha hb (hRL.st st) hg hc (by first | assumption | omega)) rfl ?_
  intro w2 hbel
  replace st := st.call hbel
  clear hbel
  refine Wl.pure (PR.assI rfl) ?_
  refine Wl.nil ?_
  refine tn ?_
  refine Wc.seq ?_
  refine Wc.region rfl ?_
  refine Wl.pure (PR.moveI rfl) ?_
  refine Wl.pure (PR.neq (a := ((bothC s p a b n y c : Nat) : Int)) (b := 0) rfl rfl) ?_
  refine Wl.nil ?_
  refine tn ?_
  refine Wc.condN (p := ((bothC s p a b n y c : Nat) : Int) = 0) rfl (fun h3 => ?_) (fun h3 => ?_)
  · refine Wc.seq ?_
    refine Wc.region rfl ?_
    refine Wl.pure (PR.moveI rfl) ?_
    refine Wl.pure (PR.assI rfl) ?_
    refine Wl.pure (PR.assI rfl) ?_
    refine Wl.nil ?_
    refine tn ?_
    refine Wc.ret ?_
    refine tr ?_
    refine postL.tmp2 rfl rfl rfl ?_
    refine RetV.of ?_ st.below
    first | exact rw_k (rwC_b (by omega)) (by omega) rfl | exact rw_k ((rwC_r hb0).trans rfl) (by omega) hq9
  · refine Wc.skip ?_
    refine tn ?_
    refine Wc.seq ?_
    have hb0 : bothC s p a b n y c = 0 := by omega
    obtain ⟨hok, hlay, hns⟩ := bothC_spec hb0
    refine Wc.region rfl ?_
    refine Wl.loadA (i := 0) st tA_62 rfl rfl (all_sub schV_len) schV_len ?_
    refine Wl.pure (PR.moveI rfl) ?_
    refine Wl.callV (c_impl_SeesWith (s := s) (p := p) (a := a) (b := b) (x := x) (by first | assumption | omega) (by first | assumption | omega) ha hb hx (by first | assumption | omega)) rfl ?_
    intro w4 hbel
    replace st := st.call hbel
    clear hbel
    refine Wl.pure (PR.moveV (.tuple #[.bool (decide (rsC s a b x = 0)), .int .i64 (((selN (rsC s a b x) (wt b x) : Nat) : Int)), .int .i64 (((swC s x : Nat) : Int))]) rfl) ?_
    refine Wl.pure (PR.extr (i := 0) (vs := [.bool (decide (rsC s a b x = 0)), .int .i64 (((selN (rsC s a b x) (wt b x) : Nat) : Int)), .int .i64 (((swC s x : Nat) : Int))]) rfl rfl) ?_
    refine Wl.pure (PR.extr (i := 1) (vs := [.bool (decide (rsC s a b x = 0)), .int .i64 (((selN (rsC s a b x) (wt b x) : Nat) : Int)), .int .i64 (((swC s x : Nat) : Int))]) rfl rfl) ?_
    refine Wl.pure (PR.extr (i := 2) (vs := [.bool (decide (rsC s a b x = 0)), .int .i64 (((selN (rsC s a b x) (wt b x) : Nat) : Int)), .int .i64 (((swC s x : Nat) : Int))]) rfl rfl) ?_
    refine Wl.pure (PR.assB rfl) ?_
    refine Wl.pure (PR.assI rfl) ?_
    refine Wl.pure (PR.assI rfl) ?_
    refine Wl.nil ?_
    refine tn ?_
    refine Wc.seq ?_
    refine Wc.seq ?_
    refine Wc.region rfl ?_
    refine Wl.pure (PR.moveI rfl) ?_
    refine Wl.pure (PR.neq (a := ((swC s x : Nat) : Int)) (b := 0) rfl rfl) ?_
    refine Wl.pure (PR.moveI rfl) ?_
    refine Wl.pure (PR.build (ps := [(0, .bool (!decide (((swC s x : Nat) : Int) = 0))), (1, .int .i64 (((swC s x : Nat) : Int)))]) (cs := [.bool (!decide (((swC s x : Nat) : Int) = 0)), .int .i64 (((swC s x : Nat) : Int))]) tB_95 rfl rfl) ?_
    refine Wl.pure (PR.moveB rfl) ?_
    refine Wl.pure (PR.not_ rfl) ?_
    refine Wl.pure (PR.build (ps := [(0, .bool (!decide (rsC s a b x = 0))), (1, .int .i64 (8))]) (cs := [.bool (!decide (rsC s a b x = 0)), .int .i64 (8)]) tB_95 rfl rfl) ?_
    refine Wl.buildSlice (ps := [(0, .agg ([.bool (!decide (((swC s x : Nat) : Int) = 0)), .int .i64 (((swC s x : Nat) : Int))]).toArray), (1, .agg ([.bool (!decide (rsC s a b x = 0)), .int .i64 (8)]).toArray)]) (cs := [.bool (!decide (((swC s x : Nat) : Int) = 0)), .int .i64 (((swC s x : Nat) : Int)), .bool (!decide (rsC s a b x = 0)), .int .i64 (8)]) st tS_127 tZ_95 rfl rfl rfl ?_
    clear st
    intro b32 w5 st
    refine Wl.callV (c_impl_firstOf (bk := b32) (o := 0) (n := 2) (cp := 2) (c := (fun i => [(!decide (((swC s x : Nat) : Int) = 0)), (!decide (rsC s a b x = 0))].getD i false)) (e := (fun i => [((swC s x : Nat) : Int), 8].getD i 0)) (st.rdA (i := 0) (n := 4) rfl rfl) (by first | assumption | omega)) rfl ?_
    intro w6 hbel
    replace st := st.call hbel
    clear hbel
    refine Wl.pure (PR.assI rfl) ?_
    refine Wl.nil ?_
    refine tn ?_
    refine Wc.seq ?_
    have hq9 : firstZ 2 (fun i => [(!decide (((swC s x : Nat) : Int) = 0)), (!decide (rsC s a b x = 0))].getD i false) (fun i => [((swC s x : Nat) : Int), 8].getD i 0) = ((rsC s a b x : Nat) : Int) := first_rs rfl
    refine Wc.region rfl ?_
    refine Wl.pure (PR.moveI rfl) ?_
    refine Wl.pure (PR.neq (a := firstZ 2 (fun i => [(!decide (((swC s x : Nat) : Int) = 0)), (!decide (rsC s a b x = 0))].getD i false) (fun i => [((swC s x : Nat) : Int), 8].getD i 0)) (b := 0) rfl rfl) ?_
    refine Wl.nil ?_
    refine tn ?_
    refine Wc.condN (p := firstZ 2 (fun i => [(!decide (((swC s x : Nat) : Int) = 0)), (!decide (rsC s a b x = 0))].getD i false) (fun i => [((swC s x : Nat) : Int), 8].getD i 0) = 0) rfl (fun h7 => ?_) (fun h7 => ?_)
    · refine Wc.seq ?_
      refine Wc.region rfl ?_
      refine Wl.pure (PR.moveI rfl) ?_
      refine Wl.pure (PR.assI rfl) ?_
      refine Wl.pure (PR.assI rfl) ?_
      refine Wl.nil ?_
      refine tn ?_
      refine Wc.ret ?_
      refine tr ?_
      refine postL.tmp2 rfl rfl rfl ?_
      refine RetV.of ?_ st.below
      first | exact rw_k (rwC_b (by omega)) (by omega) rfl | exact rw_k ((rwC_r hb0).trans rfl) (by omega) hq9
    · refine Wc.skip ?_
      refine tn ?_
      refine Wc.seq ?_
      have hrs : rsC s a b x = 0 := by omega
      obtain ⟨hset, hgap⟩ := rsC_spec hrs
      have hm0 := set_pick (n := n) (x := x) (by rw [hns]; exact hset)
      refine Wc.region rfl ?_
      refine Wl.pure (PR.moveL rfl) ?_
      refine Wl.pure (PR.moveI rfl) ?_
      refine Wl.callV (c_impl_stackOf (A := A) (n := n) (cp := cp) (y := y) (c := c) (x := x) (hRL.st st) hg hc (by first | assumption | omega) hx (by first | assumption | omega)) rfl ?_
      intro w8 hbel
      replace st := st.call hbel
      clear hbel
      refine Wl.pure (PR.moveI rfl) ?_
      refine Wl.callV (c_impl_Layer_shown (p := (pkG x n y) 0) (c := (orC (pkC x n c) (flN (bitB x) n))) (t := ((selN (rsC s a b x) (wt b x) : Nat) : Int)) (orC_lt (fun i k => hc _ k) (flN (bitB x) n))) rfl ?_
      intro w9 hbel
      replace st := st.call hbel
      clear hbel
      refine Wl.pure (PR.assI rfl) ?_
      refine Wl.pure (PR.assI rfl) ?_
      refine Wl.nil ?_
      refine tn ?_
      refine Wc.ret ?_
      refine postL.tmp2 rfl rfl rfl ?_
      refine RetV.of ?_ st.below
      exact rw_t' (by rw [rwC_r hb0]; exact hrs) (by unfold picT; rw [selN_0 hrs])

set_option maxHeartbeats 400000 in
set_option maxRecDepth 4000 in
theorem c_spec_ReadWith {s : Int} {p : Int} {a : Nat → Nat} {b : Nat → Nat} {A : Option Addr} {n : Nat} {cp : Nat} {y : Nat → Int} {c : Nat → Nat → Nat} {x : Nat} {w : World} (hs : -128 ≤ s ∧ s ≤ 127) (hp : -128 ≤ p ∧ p ≤ 127) (ha : ∀ k, a k < 256) (hb : ∀ k, b k < 256) (hRL : RdS w A n (layS n y c)) (hg : ∀ i, i < n → -128 ≤ y i ∧ y i ≤ 127) (hc : ∀ i k, c i k < 256) (hn : n ≤ 1048576) (hx : x < 256) :
    CE Try.prog 59 [.agg (schV (s) (p) (a) (b)).toArray, .slice (A) (n) (cp), .int .u8 (((x : Nat) : Int))] w (RetV w (.tuple #[.int .u64 (((selN (rwC s p a b n y c x) (picT b n c x) : Nat) : Int)), .int .i64 (((rwC s p a b n y c x : Nat) : Int))])) := by
  refine CE.enter 37 [(0, .agg (schV (s) (p) (a) (b)).toArray), (1, .slice (A) (n) (cp)), (2, .int .u8 (((x : Nat) : Int)))] en_59 Try.func59 rfl rfl (Nat.le_of_ble_eq_true rfl) rfl ?_
  have st := St.start w
  refine Wc.seq ?_
  refine Wc.region rfl ?_
  refine Wl.boxA st rfl ?_
  clear st
  intro b3 w1 st
  refine Wl.pure (PR.assI rfl) ?_
  refine Wl.pure (PR.assI rfl) ?_
  refine Wl.nil ?_
  refine tn ?_
  refine Wc.seq ?_
  refine Wc.region rfl ?_
  refine Wl.pure (PR.moveL rfl) ?_
  refine Wl.callV (c_spec_l03Both (bk := b3) (o := 0) (s := s) (p := p) (a := a) (b := b) (A := A) (n := n) (cp := cp) (y := y) (c := c) (st.rdA (i := 0) rfl (all_sub schV_len)) (by first | assumption | omega) (by first | assumption | omega) ha hb (hRL.st st) hg hc (by first | assumption | omega)) rfl ?_
  intro w2 hbel
  replace st := st.call hbel
  clear hbel
  refine Wl.pure (PR.assI rfl) ?_
  refine Wl.nil ?_
  refine tn ?_
  refine Wc.seq ?_
  refine Wc.seq ?_
  refine Wc.region rfl ?_
  refine Wl.pure (PR.moveI rfl) ?_
  refine Wl.pure (PR.eql (a := ((bothC s p a b n y c : Nat) : Int)) (b := 0) rfl rfl) ?_
  refine Wl.pure (PR.moveB rfl) ?_
  refine Wl.splitT (q := ((bothC s p a b n y c : Nat) : Int) = 0) rfl rfl (fun h3 => ?_) (fun h3 => ?_)
  · refine Wl.pure (PR.moveI rfl) ?_
    refine Wl.on rfl rfl ?_
    refine Wl.callV (c_spec_l03Set (bk := b3) (o := 0) (s := s) (p := p) (a := a) (b := b) (x := x) (st.rdA (i := 0) rfl (all_sub schV_len)) (by first | assumption | omega) (by first | assumption | omega) ha hb hx (bothC_spec (n := n) (g := y) (c := c) (by omega)).1) rfl ?_
    intro w4 hbel
    replace st := st.call hbel
    clear hbel
    refine Wl.on rfl rfl ?_
    refine Wl.pure (PR.not_ rfl) ?_
    refine Wl.pure (PR.pickTB rfl rfl) ?_
    refine Wl.nil ?_
    refine tn ?_
    refine Wc.condN (p := setOk s x) rfl (fun h5 => ?_) (fun h5 => ?_)
    · refine Wc.region rfl ?_
      refine Wl.pure (PR.assI rfl) ?_
      refine Wl.nil ?_
      refine tn ?_
      refine Wc.seq ?_
      refine Wc.seq ?_
      refine Wc.region rfl ?_
      refine Wl.pure (PR.moveI rfl) ?_
      refine Wl.pure (PR.neq (a := 2) (b := 0) rfl rfl) ?_
      refine Wl.nil ?_
      refine tn ?_
      refine Wc.condN (p := 2 = 0) rfl (fun h6 => ?_) (fun h6 => ?_)
      · refine Wc.seq ?_
        refine Wc.region rfl ?_
        refine Wl.pure (PR.moveI rfl) ?_
        refine Wl.pure (PR.assI rfl) ?_
        refine Wl.pure (PR.assI rfl) ?_
        refine Wl.nil ?_
        refine tn ?_
        refine Wc.ret ?_
        refine tr ?_
        refine postL.tmp2 rfl rfl rfl ?_
        refine RetV.of ?_ st.below
        exact rw_k ((rwC_r (by omega)).trans (rsC_2 (by assumption))) (by decide) rfl
      · refine Wc.skip ?_
        refine tn ?_
        refine Wc.seq ?_
        have hb0 : bothC s p a b n y c = 0 := by omega
        obtain ⟨hok, hlay, hns⟩ := bothC_spec hb0
        have hset : setOk s x := by first | assumption | (exfalso; omega)
        have hm0 := set_pick (n := n) (x := x) (by rw [hns]; exact hset)
        refine Wc.region rfl ?_
        refine Wl.pure (PR.moveI rfl) ?_
        refine Wl.callV (c_spec_l03Sees (bk := b3) (o := 0) (s := s) (p := p) (a := a) (b := b) (x := x) (st.rdA (i := 0) rfl (all_sub schV_len)) (by first | assumption | omega) (by first | assumption | omega) ha hb hx (by first | assumption | omega)) rfl ?_
        intro w7 hbel
        replace st := st.call hbel
        clear hbel
        refine Wl.pure (PR.moveV (.tuple #[.int .i64 (((wt a x : Nat) : Int)), .int .i64 (((wt b x : Nat) : Int))]) rfl) ?_
        refine Wl.pure (PR.extr (i := 0) (vs := [.int .i64 (((wt a x : Nat) : Int)), .int .i64 (((wt b x : Nat) : Int))]) rfl rfl) ?_
        refine Wl.pure (PR.extr (i := 1) (vs := [.int .i64 (((wt a x : Nat) : Int)), .int .i64 (((wt b x : Nat) : Int))]) rfl rfl) ?_
        refine Wl.pure (PR.assI rfl) ?_
        refine Wl.pure (PR.assI rfl) ?_
        refine Wl.nil ?_
        refine tn ?_
        refine Wc.seq ?_
        refine Wc.seq ?_
        refine Wc.region rfl ?_
        refine Wl.pure (PR.moveI rfl) ?_
        refine Wl.pure (PR.moveI rfl) ?_
        refine Wl.pure (PR.leq (a := ((wt b x : Nat) : Int)) (b := ((wt a x : Nat) : Int)) rfl rfl) ?_
        refine Wl.nil ?_
        refine tn ?_
        refine Wc.condD (p := ((wt b x : Nat) : Int) ≤ ((wt a x : Nat) : Int)) rfl (fun h8 => ?_) (fun h8 => ?_)
        · refine Wc.seq ?_
          refine Wc.region rfl ?_
          refine Wl.pure (PR.assI rfl) ?_
          refine Wl.pure (PR.assI rfl) ?_
          refine Wl.nil ?_
          refine tn ?_
          refine Wc.ret ?_
          refine tr ?_
          refine postL.tmp2 rfl rfl rfl ?_
          refine RetV.of ?_ st.below
          exact rw_k ((rwC_r hb0).trans (rsC_8 hset (by unfold gapZ; omega))) (by decide) rfl
        · refine Wc.skip ?_
          refine tn ?_
          refine Wc.seq ?_
          refine Wc.region rfl ?_
          refine Wl.pure (PR.moveL rfl) ?_
          refine Wl.pure (PR.moveI rfl) ?_
          refine Wl.callV (c_spec_l03Stack (A := A) (n := n) (cp := cp) (y := y) (c := c) (x := x) (hRL.st st) hg hc (by first | assumption | omega) hx (by first | assumption | omega)) rfl ?_
          intro w9 hbel
          replace st := st.call hbel
          clear hbel
          refine Wl.alloc st tZ_29 rfl ?_
          clear st
          intro b11 w10 st
          refine Wl.storeA (i := 0) (cs' := layV ((pkG x n y) 0) ((orC (pkC x n c) (flN (bitB x) n)))) st tA_29 rfl rfl layV_len layV_one rfl (le_of_len layV_len (by omega)) (all_put layV_len) ?_
          clear st
          intro w11 st
          replace st : St [] w w11 [(b11, layV ((pkG x n y) 0) ((orC (pkC x n c) (flN (bitB x) n))), 29), (b3, schV (s) (p) (a) (b), 62)] := st
          refine Wl.nil ?_
          refine tn ?_
          refine Wc.seq ?_
          refine Wc.region rfl ?_
          refine Wl.pure (PR.moveI rfl) ?_
          refine Wl.callV (c_spec_l01Shown (b := b11) (o := 0) (p := (pkG x n y) 0) (c := (orC (pkC x n c) (flN (bitB x) n))) (t := ((wt b x : Nat) : Int)) (st.rdA (i := 0) rfl (all_sub layV_len)) (orC_lt (fun i k => hc _ k) (flN (bitB x) n))) rfl ?_
          intro w12 hbel
          replace st := st.call hbel
          clear hbel
          refine Wl.pure (PR.assI rfl) ?_
          refine Wl.pure (PR.assI rfl) ?_
          refine Wl.nil ?_
          refine tn ?_
          refine Wc.ret ?_
          refine postL.tmp2 rfl rfl rfl ?_
          refine RetV.of ?_ st.below
          exact rw_t' ((rwC_r hb0).trans (rsC_0 hset (by unfold gapZ; omega))) rfl
    · refine Wc.skip ?_
      refine tn ?_
      refine Wc.seq ?_
      refine Wc.seq ?_
      refine Wc.region rfl ?_
      refine Wl.pure (PR.moveI rfl) ?_
      refine Wl.pure (PR.neq (a := ((bothC s p a b n y c : Nat) : Int)) (b := 0) rfl rfl) ?_
      refine Wl.nil ?_
      refine tn ?_
      refine Wc.condN (p := ((bothC s p a b n y c : Nat) : Int) = 0) rfl (fun h13 => ?_) (fun h13 => ?_)
      · refine Wc.seq ?_
        refine Wc.region rfl ?_
        refine Wl.pure (PR.moveI rfl) ?_
        refine Wl.pure (PR.assI rfl) ?_
        refine Wl.pure (PR.assI rfl) ?_
        refine Wl.nil ?_
        refine tn ?_
        refine Wc.ret ?_
        refine tr ?_
        refine postL.tmp2 rfl rfl rfl ?_
        refine RetV.of ?_ st.below
        exact rw_k (rwC_b (by omega)) (by omega) rfl
      · refine Wc.skip ?_
        refine tn ?_
        refine Wc.seq ?_
        have hb0 : bothC s p a b n y c = 0 := by omega
        obtain ⟨hok, hlay, hns⟩ := bothC_spec hb0
        have hset : setOk s x := by first | assumption | (exfalso; omega)
        have hm0 := set_pick (n := n) (x := x) (by rw [hns]; exact hset)
        refine Wc.region rfl ?_
        refine Wl.pure (PR.moveI rfl) ?_
        refine Wl.callV (c_spec_l03Sees (bk := b3) (o := 0) (s := s) (p := p) (a := a) (b := b) (x := x) (st.rdA (i := 0) rfl (all_sub schV_len)) (by first | assumption | omega) (by first | assumption | omega) ha hb hx (by first | assumption | omega)) rfl ?_
        intro w14 hbel
        replace st := st.call hbel
        clear hbel
        refine Wl.pure (PR.moveV (.tuple #[.int .i64 (((wt a x : Nat) : Int)), .int .i64 (((wt b x : Nat) : Int))]) rfl) ?_
        refine Wl.pure (PR.extr (i := 0) (vs := [.int .i64 (((wt a x : Nat) : Int)), .int .i64 (((wt b x : Nat) : Int))]) rfl rfl) ?_
        refine Wl.pure (PR.extr (i := 1) (vs := [.int .i64 (((wt a x : Nat) : Int)), .int .i64 (((wt b x : Nat) : Int))]) rfl rfl) ?_
        refine Wl.pure (PR.assI rfl) ?_
        refine Wl.pure (PR.assI rfl) ?_
        refine Wl.nil ?_
        refine tn ?_
        refine Wc.seq ?_
        refine Wc.seq ?_
        refine Wc.region rfl ?_
        refine Wl.pure (PR.moveI rfl) ?_
        refine Wl.pure (PR.moveI rfl) ?_
        refine Wl.pure (PR.leq (a := ((wt b x : Nat) : Int)) (b := ((wt a x : Nat) : Int)) rfl rfl) ?_
        refine Wl.nil ?_
        refine tn ?_
        refine Wc.condD (p := ((wt b x : Nat) : Int) ≤ ((wt a x : Nat) : Int)) rfl (fun h15 => ?_) (fun h15 => ?_)
        · refine Wc.seq ?_
          refine Wc.region rfl ?_
          refine Wl.pure (PR.assI rfl) ?_
          refine Wl.pure (PR.assI rfl) ?_
          refine Wl.nil ?_
          refine tn ?_
          refine Wc.ret ?_
          refine tr ?_
          refine postL.tmp2 rfl rfl rfl ?_
          refine RetV.of ?_ st.below
          exact rw_k ((rwC_r hb0).trans (rsC_8 hset (by unfold gapZ; omega))) (by decide) rfl
        · refine Wc.skip ?_
          refine tn ?_
          refine Wc.seq ?_
          refine Wc.region rfl ?_
          refine Wl.pure (PR.moveL rfl) ?_
          refine Wl.pure (PR.moveI rfl) ?_
          refine Wl.callV (c_spec_l03Stack (A := A) (n := n) (cp := cp) (y := y) (c := c) (x := x) (hRL.st st) hg hc (by first | assumption | omega) hx (by first | assumption | omega)) rfl ?_
          intro w16 hbel
          replace st := st.call hbel
          clear hbel
          refine Wl.alloc st tZ_29 rfl ?_
          clear st
          intro b11 w17 st
          refine Wl.storeA (i := 0) (cs' := layV ((pkG x n y) 0) ((orC (pkC x n c) (flN (bitB x) n)))) st tA_29 rfl rfl layV_len layV_one rfl (le_of_len layV_len (by omega)) (all_put layV_len) ?_
          clear st
          intro w18 st
          replace st : St [] w w18 [(b11, layV ((pkG x n y) 0) ((orC (pkC x n c) (flN (bitB x) n))), 29), (b3, schV (s) (p) (a) (b), 62)] := st
          refine Wl.nil ?_
          refine tn ?_
          refine Wc.seq ?_
          refine Wc.region rfl ?_
          refine Wl.pure (PR.moveI rfl) ?_
          refine Wl.callV (c_spec_l01Shown (b := b11) (o := 0) (p := (pkG x n y) 0) (c := (orC (pkC x n c) (flN (bitB x) n))) (t := ((wt b x : Nat) : Int)) (st.rdA (i := 0) rfl (all_sub layV_len)) (orC_lt (fun i k => hc _ k) (flN (bitB x) n))) rfl ?_
          intro w19 hbel
          replace st := st.call hbel
          clear hbel
          refine Wl.pure (PR.assI rfl) ?_
          refine Wl.pure (PR.assI rfl) ?_
          refine Wl.nil ?_
          refine tn ?_
          refine Wc.ret ?_
          refine postL.tmp2 rfl rfl rfl ?_
          refine RetV.of ?_ st.below
          exact rw_t' ((rwC_r hb0).trans (rsC_0 hset (by unfold gapZ; omega))) rfl
  · refine Wl.off rfl rfl rfl ?_
    refine Wl.off rfl rfl rfl ?_
    refine Wl.pure (PR.pickFB rfl rfl) ?_
    refine Wl.nil ?_
    refine tn ?_
    refine Wc.condF rfl ?_
    refine Wc.skip ?_
    refine tn ?_
    refine Wc.seq ?_
    refine Wc.seq ?_
    refine Wc.region rfl ?_
    refine Wl.pure (PR.moveI rfl) ?_
    refine Wl.pure (PR.neq (a := ((bothC s p a b n y c : Nat) : Int)) (b := 0) rfl rfl) ?_
    refine Wl.nil ?_
    refine tn ?_
    refine Wc.condN (p := ((bothC s p a b n y c : Nat) : Int) = 0) rfl (fun h20 => ?_) (fun h20 => ?_)
    · refine Wc.seq ?_
      refine Wc.region rfl ?_
      refine Wl.pure (PR.moveI rfl) ?_
      refine Wl.pure (PR.assI rfl) ?_
      refine Wl.pure (PR.assI rfl) ?_
      refine Wl.nil ?_
      refine tn ?_
      refine Wc.ret ?_
      refine tr ?_
      refine postL.tmp2 rfl rfl rfl ?_
      refine RetV.of ?_ st.below
      exact rw_k (rwC_b (by omega)) (by omega) rfl
    · refine Wc.skip ?_
      refine tn ?_
      refine Wc.seq ?_
      have hb0 : bothC s p a b n y c = 0 := by omega
      obtain ⟨hok, hlay, hns⟩ := bothC_spec hb0
      have hset : setOk s x := by first | assumption | (exfalso; omega)
      have hm0 := set_pick (n := n) (x := x) (by rw [hns]; exact hset)
      refine Wc.region rfl ?_
      refine Wl.pure (PR.moveI rfl) ?_
      refine Wl.callV (c_spec_l03Sees (bk := b3) (o := 0) (s := s) (p := p) (a := a) (b := b) (x := x) (st.rdA (i := 0) rfl (all_sub schV_len)) (by first | assumption | omega) (by first | assumption | omega) ha hb hx (by first | assumption | omega)) rfl ?_
      intro w21 hbel
      replace st := st.call hbel
      clear hbel
      refine Wl.pure (PR.moveV (.tuple #[.int .i64 (((wt a x : Nat) : Int)), .int .i64 (((wt b x : Nat) : Int))]) rfl) ?_
      refine Wl.pure (PR.extr (i := 0) (vs := [.int .i64 (((wt a x : Nat) : Int)), .int .i64 (((wt b x : Nat) : Int))]) rfl rfl) ?_
      refine Wl.pure (PR.extr (i := 1) (vs := [.int .i64 (((wt a x : Nat) : Int)), .int .i64 (((wt b x : Nat) : Int))]) rfl rfl) ?_
      refine Wl.pure (PR.assI rfl) ?_
      refine Wl.pure (PR.assI rfl) ?_
      refine Wl.nil ?_
      refine tn ?_
      refine Wc.seq ?_
      refine Wc.seq ?_
      refine Wc.region rfl ?_
      refine Wl.pure (PR.moveI rfl) ?_
      refine Wl.pure (PR.moveI rfl) ?_
      refine Wl.pure (PR.leq (a := ((wt b x : Nat) : Int)) (b := ((wt a x : Nat) : Int)) rfl rfl) ?_
      refine Wl.nil ?_
      refine tn ?_
      refine Wc.condD (p := ((wt b x : Nat) : Int) ≤ ((wt a x : Nat) : Int)) rfl (fun h22 => ?_) (fun h22 => ?_)
      · refine Wc.seq ?_
        refine Wc.region rfl ?_
        refine Wl.pure (PR.assI rfl) ?_
        refine Wl.pure (PR.assI rfl) ?_
        refine Wl.nil ?_
        refine tn ?_
        refine Wc.ret ?_
        refine tr ?_
        refine postL.tmp2 rfl rfl rfl ?_
        refine RetV.of ?_ st.below
        exact rw_k ((rwC_r hb0).trans (rsC_8 hset (by unfold gapZ; omega))) (by decide) rfl
      · refine Wc.skip ?_
        refine tn ?_
        refine Wc.seq ?_
        refine Wc.region rfl ?_
        refine Wl.pure (PR.moveL rfl) ?_
        refine Wl.pure (PR.moveI rfl) ?_
        refine Wl.callV (c_spec_l03Stack (A := A) (n := n) (cp := cp) (y := y) (c := c) (x := x) (hRL.st st) hg hc (by first | assumption | omega) hx (by first | assumption | omega)) rfl ?_
        intro w23 hbel
        replace st := st.call hbel
        clear hbel
        refine Wl.alloc st tZ_29 rfl ?_
        clear st
        intro b11 w24 st
        refine Wl.storeA (i := 0) (cs' := layV ((pkG x n y) 0) ((orC (pkC x n c) (flN (bitB x) n)))) st tA_29 rfl rfl layV_len layV_one rfl (le_of_len layV_len (by omega)) (all_put layV_len) ?_
        clear st
        intro w25 st
        replace st : St [] w w25 [(b11, layV ((pkG x n y) 0) ((orC (pkC x n c) (flN (bitB x) n))), 29), (b3, schV (s) (p) (a) (b), 62)] := st
        refine Wl.nil ?_
        refine tn ?_
        refine Wc.seq ?_
        refine Wc.region rfl ?_
        refine Wl.pure (PR.moveI rfl) ?_
        refine Wl.callV (c_spec_l01Shown (b := b11) (o := 0) (p := (pkG x n y) 0) (c := (orC (pkC x n c) (flN (bitB x) n))) (t := ((wt b x : Nat) : Int)) (st.rdA (i := 0) rfl (all_sub layV_len)) (orC_lt (fun i k => hc _ k) (flN (bitB x) n))) rfl ?_
        intro w26 hbel
        replace st := st.call hbel
        clear hbel
        refine Wl.pure (PR.assI rfl) ?_
        refine Wl.pure (PR.assI rfl) ?_
        refine Wl.nil ?_
        refine tn ?_
        refine Wc.ret ?_
        refine postL.tmp2 rfl rfl rfl ?_
        refine RetV.of ?_ st.below
        exact rw_t' ((rwC_r hb0).trans (rsC_0 hset (by unfold gapZ; omega))) rfl

end Go.Proofs.Ytagghfllgafmgaa
