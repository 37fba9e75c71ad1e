/-
  Contracts of functions, printed by a program of ours.
-/
import Derived.Test.YtajkjhjnbfcpfaaCV3
import Derived.Test.YtajkjhjnbfcpfaaKeep
namespace Go.Proofs.Ytajkjhjnbfcpfaa
open Go.RowKit
set_option linter.unusedVariables false
set_option linter.unusedSimpArgs false

set_option maxHeartbeats 400000 in
set_option maxRecDepth 4000 in
theorem c_impl_Layer_each {p : Int} {c : Nat → Nat} {fk : Nat} {cap : List Value} {q : Nat → Nat} {w : World} (hc : ∀ k, c k < 256) (hF : ∀ i, i < 64 → ∀ w', Below w.heap.size w w' → CE Try.prog fk (.int .i64 ((i : Nat) : Int) :: cap) w' (RetV w' (.int .u8 ((q i : Nat) : Int)))) (hqb : ∀ k, q k < 256) :
    CE Try.prog 118 [.agg (layV (p) (c)).toArray, .func (.func fk) #[] cap.toArray] w (RetV w (.agg (layV (p) (q)).toArray)) := by
  refine CE.enter 21 [(0, .agg (layV (p) (c)).toArray), (1, .func (.func fk) #[] cap.toArray)] en_118 Try.func118 rfl rfl (Nat.le_of_ble_eq_true rfl) rfl ?_
  have st := St.start w
  refine Wc.seq ?_
  refine Wc.region rfl ?_
  refine Wl.boxA st rfl ?_
  clear st
  intro b2 w1 st
  refine Wl.alloc st tZ_30 rfl ?_
  clear st
  intro b4 w2 st
  refine Wl.nil ?_
  refine tn ?_
  refine Wc.seq ?_
  refine Wc.region rfl ?_
  refine Wl.pure (PR.fieldAddr tF_30_0 rfl) ?_
  refine Wl.load (i := 1) st tA_22 rfl rfl (rfl) ?_
  refine Wl.pure (PR.build (ps := [(0, .int .i8 (p))]) (cs := layV (p) ((fun _ => 0))) tB_30 rfl rfl) ?_
  refine Wl.alloc st tZ_30 rfl ?_
  clear st
  intro b5 w3 st
  refine Wl.storeA (i := 0) (cs' := layV (p) ((fun _ => 0))) st tA_30 rfl rfl layV_len layV_one rfl (le_of_len layV_len (by omega)) (all_put layV_len) ?_
  clear st
  intro w4 st
  replace st : St [] w w4 [(b5, layV (p) ((fun _ => 0)), 30), (b4, layV (0) ((fun _ => 0)), 30), (b2, layV (p) (c), 30)] := st
  refine Wl.nil ?_
  refine tn ?_
  refine Wc.seq ?_
  refine Wc.seq ?_
  refine Wc.region rfl ?_
  refine Wl.pure (PR.moveI rfl) ?_
  refine Wl.nil ?_
  refine tn ?_
  refine Wc.block ?_
  refine Wc.loopF (γ := Nat × (Nat → Nat)) (fun g => [(1, .func (.func fk) #[] cap.toArray), (4, .pointer (some ⟨b4, 0, none⟩)), (5, .pointer (some ⟨b5, 0, none⟩)), (10, .int .i64 (((g.1 : Nat) : Int)))]) (fun g w_ => St [] w w_ [(b5, layV (p) (g.2), 30), (b4, layV (0) ((fun _ => 0)), 30), (b2, layV (p) (c), 30)] ∧ (g.1 ≤ 64) ∧ (∀ j, j < g.1 → g.2 j = q j)) (fun g => 64 - g.1) ?_ ?_
  · exact ⟨(0, (fun _ => 0)), (.cons rfl (.cons rfl (.cons rfl (.cons rfl (.nil _))))), st, (by first | omega | (dsimp only; omega)), (fun j hj => by omega)⟩
  clear st
  rintro ⟨k, d⟩ w5 ⟨st, hk, hg⟩
  try dsimp only at st hk hg ⊢
  refine Wc.seq ?_
  refine Wc.region rfl ?_
  refine Wl.pure (PR.lss (a := ((k : Nat) : Int)) (b := 64) rfl rfl) ?_
  refine Wl.nil ?_
  refine tn ?_
  refine Wc.seq ?_
  refine Wc.condD (p := ((k : Nat) : Int) < 64) rfl (fun h6 => ?_) (fun h6 => ?_)
  · refine Wc.skip ?_
    refine tn ?_
    refine Wc.seq ?_
    refine Wc.block ?_
    refine Wc.seq ?_
    refine Wc.region rfl ?_
    refine Wl.pure (PR.moveI rfl) ?_
    refine Wl.pure (PR.assI rfl) ?_
    refine Wl.nil ?_
    refine tn ?_
    refine Wc.region rfl ?_
    refine Wl.pure (PR.moveI rfl) ?_
    refine Wl.pure (PR.moveF rfl) ?_
    refine Wl.pure (PR.moveI rfl) ?_
    refine Wl.callFW rfl rfl (hF k (by omega) _ st.below) ?_
    intro w7 hbel
    replace st := st.call hbel
    clear hbel
    refine Wl.pure (PR.fieldAddr tF_30_1 rfl) ?_
    refine Wl.pure (PR.idxAddrA1 (i := k) tE_23 rfl rfl (by omega)) ?_
    refine Wl.store (i := 0) (cs' := layV (p) (upd d (k) (q k))) st tA_5 rfl rfl rfl rfl (lt_of_len layV_len (by omega)) (layV_set_c) ?_
    clear st
    intro w8 st
    replace st : St [] w w8 [(b5, layV (p) (upd d (k) (q k)), 30), (b4, layV (0) ((fun _ => 0)), 30), (b2, layV (p) (c), 30)] := st
    refine Wl.nil ?_
    refine bn ?_
    refine tn ?_
    refine Wc.region rfl ?_
    refine Wl.pure (PR.add (a := ((k : Nat) : Int)) (b := 1) rfl rfl (by simp only [fitI]; omega)) ?_
    refine Wl.pure (PR.moveI rfl) ?_
    refine Wl.nil ?_
    refine tn ?_
    exact ⟨(k + 1, upd d (k) (q k)), (.cons rfl (.cons rfl (.cons rfl (.cons rfl (.nil _))))), ⟨st, (by first | omega | (dsimp only; omega)), (upd_snoc hg rfl)⟩, (by first | omega | (dsimp only; omega))⟩
  · refine Wc.exit ?_
    refine tx ?_
    refine tx ?_
    refine bh ?_
    refine tn ?_
    refine Wc.seq ?_
    refine Wc.region rfl ?_
    refine Wl.loadA (i := 0) st tA_30 rfl rfl (all_sub layV_len) layV_len ?_
    refine Wl.storeA (i := 1) (cs' := layV (p) (d)) st tA_30 rfl rfl layV_len layV_one rfl (le_of_len layV_len (by omega)) (all_put layV_len) ?_
    clear st
    intro w9 st
    replace st : St [] w w9 [(b5, layV (p) (d), 30), (b4, layV (p) (d), 30), (b2, layV (p) (c), 30)] := st
    refine Wl.nil ?_
    refine tn ?_
    refine Wc.ret ?_
    refine postL.cell (i := 1) st rfl tA_30 rfl rfl layV_len ?_
    refine RetV.of ?_ st.below
    exact congrArg (fun l : List Value => Value.agg l.toArray) (layV_congr rfl fun j hj => hg j (by omega))

set_option maxHeartbeats 400000 in
set_option maxRecDepth 4000 in
theorem c_impl_stack_1 {b1 : Nat} {o1 : Nat} {A : Option Addr} {n : Nat} {cp : Nat} {p : Nat → Int} {c : Nat → Nat → Nat} {k : Nat} {w : World} (h1 : RdA w b1 o1 [.slice A n cp]) (hR : RdS w A n (layS n p c)) (hp : ∀ i, i < n → -128 ≤ p i ∧ p i ≤ 127) (hc : ∀ i k, c i k < 256) (hn : n ≤ 1048576) (hk : k < 64) :
    CE Try.prog 119 [.int .i64 (((k : Nat) : Int)), .pointer (some ⟨b1, o1, none⟩)] w (RetV w (.int .u8 (((orC c n k : Nat) : Int)))) := by
  refine CE.enter 21 [(0, .int .i64 (((k : Nat) : Int))), (1, .pointer (some ⟨b1, o1, none⟩))] en_119 Try.func119 rfl rfl (Nat.le_of_ble_eq_true rfl) rfl ?_
  have st := St.start w
  refine Wc.seq ?_
  refine Wc.region rfl ?_
  refine Wl.pure (PR.assI rfl) ?_
  refine Wl.nil ?_
  refine tn ?_
  refine Wc.seq ?_
  refine Wc.region rfl ?_
  refine Wl.pure (PR.assI rfl) ?_
  refine Wl.nil ?_
  refine tn ?_
  refine Wc.seq ?_
  refine Wc.seq ?_
  refine Wc.region rfl ?_
  refine Wl.loadC tA_99 rfl ((h1.st st).at_ (j := 0) (rfl) rfl) ?_
  refine Wl.pure (PR.lenL tS_99 rfl) ?_
  refine Wl.pure (PR.moveI rfl) ?_
  refine Wl.nil ?_
  refine tn ?_
  refine Wc.block ?_
  refine Wc.loopF (γ := Nat × Nat) (fun g => [(0, .int .i64 (((k : Nat) : Int))), (3, .int .u8 (0)), (4, .int .u8 (((g.2 : Nat) : Int))), (7, .slice (A) (n) (cp)), (8, .int .i64 (((n : Nat) : Int))), (9, .int .i64 (((g.1 : Nat) : Int)))]) (fun g w_ => St [] w w_ [] ∧ (g.1 ≤ n) ∧ (g.2 = orC c g.1 k) ∧ (g.2 < 256)) (fun g => n - g.1) ?_ ?_
  · exact ⟨(0, 0), (.cons rfl (.cons rfl (.cons rfl (.cons rfl (.cons rfl (.cons rfl (.nil _))))))), st, (by first | omega | (dsimp only; omega)), rfl, (by decide)⟩
  clear st
  rintro ⟨i, v⟩ w1 ⟨st, hi, hv, hvb⟩
  try dsimp only at st hi hv hvb ⊢
  refine Wc.seq ?_
  refine Wc.region rfl ?_
  refine Wl.pure (PR.lss (a := ((i : Nat) : Int)) (b := ((n : Nat) : Int)) rfl rfl) ?_
  refine Wl.nil ?_
  refine tn ?_
  refine Wc.seq ?_
  refine Wc.condD (p := ((i : Nat) : Int) < ((n : Nat) : Int)) rfl (fun h2 => ?_) (fun h2 => ?_)
  · refine Wc.skip ?_
    refine tn ?_
    refine Wc.seq ?_
    refine Wc.block ?_
    refine Wc.seq ?_
    refine Wc.region rfl ?_
    obtain ⟨bs3, os4, rfl, hs5⟩ := hR (by omega)
    have := hp (i) (by omega)
    refine Wl.pure (PR.idxAddrS (i := i) tS_99 rfl rfl (by omega)) ?_
    refine Wl.loadAC (vs := layV (p i) ((c i))) tA_30 rfl layV_len ((hs5.st st).sub (recV_sub (n := n) (i := i) (layS_row _ _) (by omega)) rfl) ?_
    refine Wl.alloc st tZ_30 rfl ?_
    clear st
    intro b6 w6 st
    refine Wl.storeA (i := 0) (cs' := layV (p i) ((c i))) st tA_30 rfl rfl layV_len layV_one rfl (le_of_len layV_len (by omega)) (all_put layV_len) ?_
    clear st
    intro w7 st
    replace st : St [] w w7 [(b6, layV (p i) ((c i)), 30)] := st
    refine Wl.nil ?_
    refine tn ?_
    refine Wc.region rfl ?_
    refine Wl.pure (PR.moveI rfl) ?_
    refine Wl.pure (PR.moveI rfl) ?_
    refine Wl.pure (PR.fieldAddr tF_30_1 rfl) ?_
    refine Wl.pure (PR.idxAddrA1 (i := k) tE_23 rfl rfl (by omega)) ?_
    refine Wl.load (i := 0) st tA_5 rfl rfl (layV_get_c (by omega)) ?_
    refine Wl.pure (PR.or (a := v) (b := (c i) (k)) rfl rfl (by decide) hvb ((hc i) (k))) ?_
    refine Wl.pure (PR.assI rfl) ?_
    refine Wl.nil ?_
    refine bn ?_
    refine tn ?_
    refine Wc.region rfl ?_
    refine Wl.pure (PR.add (a := ((i : Nat) : Int)) (b := 1) rfl rfl (by simp only [fitI]; omega)) ?_
    refine Wl.pure (PR.moveI rfl) ?_
    refine Wl.nil ?_
    refine tn ?_
    replace st := st.tail
    exact ⟨(i + 1, (v ||| ((c i) (k)))), (.cons rfl (.cons rfl (.cons rfl (.cons rfl (.cons rfl (.cons rfl (.nil _))))))), ⟨st, (by first | omega | (dsimp only; omega)), (orC_next hv), (or_lt_u8 hvb (hc i k))⟩, (by first | omega | (dsimp only; omega))⟩
  · refine Wc.exit ?_
    refine tx ?_
    refine tx ?_
    refine bh ?_
    refine tn ?_
    refine Wc.seq ?_
    refine Wc.region rfl ?_
    refine Wl.pure (PR.moveI rfl) ?_
    refine Wl.pure (PR.assI rfl) ?_
    refine Wl.nil ?_
    refine tn ?_
    refine Wc.ret ?_
    refine postL.tmp rfl rfl ?_
    refine RetV.of ?_ st.below
    refine congrArg (fun x : Nat => Value.int .u8 (x : Int)) ?_
    obtain rfl : i = n := by omega
    exact hv

set_option maxHeartbeats 400000 in
set_option maxRecDepth 4000 in
theorem c_impl_stack {A : Option Addr} {n : Nat} {cp : Nat} {p : Nat → Int} {c : Nat → Nat → Nat} {w : World} (hR : RdS w A n (layS n p c)) (hp : ∀ i, i < n → -128 ≤ p i ∧ p i ≤ 127) (hc : ∀ i k, c i k < 256) (hn : n ≤ 1048576) (hn0 : 0 < n) :
    CE Try.prog 81 [.slice (A) (n) (cp)] w (RetV w (.agg (layV (p 0) ((orC c n))).toArray)) := by
  refine CE.enter 8 [(0, .slice (A) (n) (cp))] en_81 Try.func81 rfl rfl (Nat.le_of_ble_eq_true rfl) rfl ?_
  have st := St.start w
  refine Wc.seq ?_
  refine Wc.region rfl ?_
  refine Wl.boxL st rfl ?_
  clear st
  intro b1 w1 st
  refine Wl.alloc st tZ_30 rfl ?_
  clear st
  intro b2 w2 st
  refine Wl.nil ?_
  refine tn ?_
  refine Wc.seq ?_
  refine Wc.region rfl ?_
  refine Wl.load (i := 1) st tA_99 rfl rfl (rfl) ?_
  obtain ⟨bs3, os4, rfl, hs5⟩ := hR (by omega)
  have := hp (0) (by omega)
  refine Wl.pure (PR.idxAddrS (i := 0) tS_99 rfl rfl (by omega)) ?_
  refine Wl.loadAC (vs := layV (p 0) ((c 0))) tA_30 rfl layV_len ((hs5.st st).sub (recV_sub (n := n) (i := 0) (layS_row _ _) (by omega)) rfl) ?_
  refine Wl.pure (PR.mkFunc (vs := [.pointer (some ⟨b1, 0, none⟩)]) rfl) ?_
  refine Wl.callV (c_impl_Layer_each (p := p 0) (c := (c 0)) (fk := 119) (cap := [.pointer (some ⟨b1, 0, none⟩)]) (q := (orC c n)) (hc 0) (fun i hi w' hb => c_impl_stack_1 ((st.rdA (i := 1) (n := 1) rfl rfl).below hb) ((hR.st st).below hb) hp hc hn hi) (orC_lt hc n)) rfl ?_
  intro w6 hbel
  replace st := st.call hbel
  clear hbel
  refine Wl.storeA (i := 0) (cs' := layV (p 0) ((orC c n))) st tA_30 rfl rfl layV_len layV_one rfl (le_of_len layV_len (by omega)) (all_put layV_len) ?_
  clear st
  intro w7 st
  replace st : St [] w w7 [(b2, layV (p 0) ((orC c n)), 30), (b1, [.slice (some ⟨bs3, os4, none⟩) (n) (cp)], 99)] := st
  refine Wl.nil ?_
  refine tn ?_
  refine Wc.ret ?_
  refine postL.cell (i := 0) st rfl tA_30 rfl rfl layV_len ?_
  exact RetV.of rfl st.below

set_option maxHeartbeats 400000 in
set_option maxRecDepth 4000 in
theorem c_spec_l01Stack {A : Option Addr} {n : Nat} {cp : Nat} {p : Nat → Int} {c : Nat → Nat → Nat} {w : World} (hR : RdS w A n (layS n p c)) (hp : ∀ i, i < n → -128 ≤ p i ∧ p i ≤ 127) (hc : ∀ i k, c i k < 256) (hn : n ≤ 1048576) (hn0 : 0 < n) :
    CE Try.prog 117 [.slice (A) (n) (cp)] w (RetV w (.agg (layV (p 0) ((orC c n))).toArray)) := by
  refine CE.enter 34 [(0, .slice (A) (n) (cp))] en_117 Try.func117 rfl rfl (Nat.le_of_ble_eq_true rfl) rfl ?_
  have st := St.start w
  refine Wc.seq ?_
  refine Wc.region rfl ?_
  refine Wl.alloc st tZ_30 rfl ?_
  clear st
  intro b2 w1 st
  refine Wl.nil ?_
  refine tn ?_
  refine Wc.seq ?_
  refine Wc.region rfl ?_
  refine Wl.pure (PR.moveL rfl) ?_
  obtain ⟨bs2, os3, rfl, hs4⟩ := hR (by omega)
  have := hp (0) (by omega)
  refine Wl.pure (PR.idxAddrS (i := 0) tS_99 rfl rfl (by omega)) ?_
  refine Wl.loadAC (vs := layV (p 0) ((c 0))) tA_30 rfl layV_len ((hs4.st st).sub (recV_sub (n := n) (i := 0) (layS_row _ _) (by omega)) rfl) ?_
  refine Wl.alloc st tZ_30 rfl ?_
  clear st
  intro b3 w5 st
  refine Wl.storeA (i := 0) (cs' := layV (p 0) ((c 0))) st tA_30 rfl rfl layV_len layV_one rfl (le_of_len layV_len (by omega)) (all_put layV_len) ?_
  clear st
  intro w6 st
  replace st : St [] w w6 [(b3, layV (p 0) ((c 0)), 30), (b2, layV (0) ((fun _ => 0)), 30)] := st
  refine Wl.nil ?_
  refine tn ?_
  refine Wc.seq ?_
  refine Wc.seq ?_
  refine Wc.region rfl ?_
  refine Wl.pure (PR.assI rfl) ?_
  refine Wl.nil ?_
  refine tn ?_
  refine Wc.block ?_
  rw [← orC_1 c] at st
  refine Wc.loopF (γ := Nat) (fun g => [(0, .slice (some ⟨bs2, os3, none⟩) (n) (cp)), (2, .pointer (some ⟨b2, 0, none⟩)), (3, .pointer (some ⟨b3, 0, none⟩)), (4, .int .i64 (((g : Nat) : Int)))]) (fun g w_ => St [] w w_ [(b3, layV (p 0) ((orC c g)), 30), (b2, layV (0) ((fun _ => 0)), 30)] ∧ (1 ≤ g ∧ g ≤ n)) (fun g => n - g) ?_ ?_
  · exact ⟨1, (.cons rfl (.cons rfl (.cons rfl (.cons rfl (.nil _))))), st, (by first | omega | (dsimp only; omega))⟩
  clear st
  rintro i w7 ⟨st, hi⟩
  try dsimp only at st hi ⊢
  refine Wc.seq ?_
  refine Wc.seq ?_
  refine Wc.region rfl ?_
  refine Wl.pure (PR.moveI rfl) ?_
  refine Wl.pure (PR.moveL rfl) ?_
  refine Wl.pure (PR.lenL tS_99 rfl) ?_
  refine Wl.pure (PR.lss (a := ((i : Nat) : Int)) (b := ((n : Nat) : Int)) rfl rfl) ?_
  refine Wl.nil ?_
  refine tn ?_
  refine Wc.condD (p := ((i : Nat) : Int) < ((n : Nat) : Int)) rfl (fun h8 => ?_) (fun h8 => ?_)
  · refine Wc.skip ?_
    refine tn ?_
    refine Wc.seq ?_
    refine Wc.block ?_
    refine Wc.seq ?_
    refine Wc.region rfl ?_
    refine Wl.pure (PR.assI rfl) ?_
    refine Wl.nil ?_
    refine tn ?_
    refine Wc.block ?_
    rw [mix_zero (orC c (i + 1)) (orC c i)] at st
    refine Wc.loopF (γ := Nat) (fun g => [(0, .slice (some ⟨bs2, os3, none⟩) (n) (cp)), (2, .pointer (some ⟨b2, 0, none⟩)), (3, .pointer (some ⟨b3, 0, none⟩)), (4, .int .i64 (((i : Nat) : Int))), (5, .int .i64 (((g : Nat) : Int))), (9, .int .i64 (((i : Nat) : Int))), (10, .slice (some ⟨bs2, os3, none⟩) (n) (cp)), (11, .int .i64 (((n : Nat) : Int))), (12, .bool (decide (((i : Nat) : Int) < ((n : Nat) : Int))))]) (fun g w_ => St [] w w_ [(b3, layV (p 0) ((mixF (orC c (i + 1)) (orC c i) g)), 30), (b2, layV (0) ((fun _ => 0)), 30)] ∧ (g ≤ 64)) (fun g => 64 - g) ?_ ?_
    · exact ⟨0, (.cons rfl (.cons rfl (.cons rfl (.cons rfl (.cons rfl (.cons rfl (.cons rfl (.cons rfl (.cons rfl (.nil _)))))))))), st, (by first | omega | (dsimp only; omega))⟩
    clear st
    rintro k w9 ⟨st, hk⟩
    try dsimp only at st hk ⊢
    refine Wc.seq ?_
    refine Wc.seq ?_
    refine Wc.region rfl ?_
    refine Wl.pure (PR.moveI rfl) ?_
    refine Wl.pure (PR.lss (a := ((k : Nat) : Int)) (b := 64) rfl rfl) ?_
    refine Wl.nil ?_
    refine tn ?_
    refine Wc.condD (p := ((k : Nat) : Int) < 64) rfl (fun h10 => ?_) (fun h10 => ?_)
    · refine Wc.skip ?_
      refine tn ?_
      refine Wc.seq ?_
      refine Wc.block ?_
      refine Wc.quietTail 14 hmix (by kernel_rfl) rfl ?_
      refine Wq.pure (PR.moveI rfl) ?_
      refine Wq.pure (PR.fieldAddr tF_30_1 rfl) ?_
      refine Wq.pure (PR.idxAddrA1 (i := k) tE_23 rfl rfl (by omega)) ?_
      refine Wq.load (i := 0) st tA_5 rfl rfl (layV_get_c (by omega)) ?_
      refine Wq.pure (PR.moveL rfl) ?_
      refine Wq.pure (PR.moveI rfl) ?_
      refine Wq.pure (PR.moveI rfl) ?_
      have := hp (i) (by omega)
      refine Wq.pure (PR.idxAddrS (i := i) tS_99 rfl rfl (by omega)) ?_
      refine Wq.pure (PR.fieldAddr tF_30_1 rfl) ?_
      refine Wq.pure (PR.idxAddrA1 (i := k) tE_23 rfl rfl (by omega)) ?_
      refine Wq.loadC tA_5 rfl ((hs4.st st).at_ (recV_get (i := i) (j := 1 + k) (layS_row _ _) (by omega) (layV_get_c (by omega))) (by omega)) ?_
      refine Wq.pure (PR.or (a := (mixF (orC c (i + 1)) (orC c i) k) (k)) (b := (c i) (k)) rfl rfl (by decide) ((mix_lt (orC_lt hc (i + 1)) (orC_lt hc i) k) (k)) ((hc i) (k))) ?_
      refine Wq.pure (PR.fieldAddr tF_30_1 rfl) ?_
      refine Wq.pure (PR.idxAddrA1 (i := k) tE_23 rfl rfl (by omega)) ?_
      refine Wq.nil (fun w11 hbel => ?_)
      replace st := st.call hbel
      clear hbel
      refine Wl.store (i := 0) (cs' := layV (p 0) (upd (mixF (orC c (i + 1)) (orC c i) k) (k) ((((mixF (orC c (i + 1)) (orC c i) k) (k)) ||| ((c i) (k)))))) st tA_5 rfl rfl rfl rfl (lt_of_len layV_len (by omega)) (layV_set_c) ?_
      clear st
      intro w12 st
      replace st : St [] w w12 [(b3, layV (p 0) (upd (mixF (orC c (i + 1)) (orC c i) k) (k) ((((mixF (orC c (i + 1)) (orC c i) k) (k)) ||| ((c i) (k))))), 30), (b2, layV (0) ((fun _ => 0)), 30)] := st
      refine Wl.nil ?_
      refine bn ?_
      refine tn ?_
      refine Wc.region rfl ?_
      refine Wl.pure (PR.moveI rfl) ?_
      refine Wl.pure (PR.add (a := ((k : Nat) : Int)) (b := 1) rfl rfl (by simp only [fitI]; omega)) ?_
      refine Wl.pure (PR.assI rfl) ?_
      refine Wl.nil ?_
      refine tn ?_
      rw [st_or, mix_upd] at st
      exact ⟨k + 1, (.cons rfl (.cons rfl (.cons rfl (.cons rfl (.cons rfl (.cons rfl (.cons rfl (.cons rfl (.cons rfl (.nil _)))))))))), ⟨st, (by first | omega | (dsimp only; omega))⟩, (by first | omega | (dsimp only; omega))⟩
    · refine Wc.exit ?_
      refine tx ?_
      refine tx ?_
      refine bh ?_
      refine bn ?_
      refine tn ?_
      refine Wc.region rfl ?_
      refine Wl.pure (PR.moveI rfl) ?_
      refine Wl.pure (PR.add (a := ((i : Nat) : Int)) (b := 1) rfl rfl (by simp only [fitI]; omega)) ?_
      refine Wl.pure (PR.assI rfl) ?_
      refine Wl.nil ?_
      refine tn ?_
      obtain rfl : k = 64 := by omega
      rw [layV_mix] at st
      exact ⟨i + 1, (.cons rfl (.cons rfl (.cons rfl (.cons rfl (.nil _))))), ⟨st, (by first | omega | (dsimp only; omega))⟩, (by first | omega | (dsimp only; omega))⟩
  · refine Wc.exit ?_
    refine tx ?_
    refine tx ?_
    refine bh ?_
    refine tn ?_
    refine Wc.seq ?_
    refine Wc.region rfl ?_
    refine Wl.loadA (i := 0) st tA_30 rfl rfl (all_sub layV_len) layV_len ?_
    refine Wl.storeA (i := 1) (cs' := layV (p 0) ((orC c i))) st tA_30 rfl rfl layV_len layV_one rfl (le_of_len layV_len (by omega)) (all_put layV_len) ?_
    clear st
    intro w13 st
    replace st : St [] w w13 [(b3, layV (p 0) ((orC c i)), 30), (b2, layV (p 0) ((orC c i)), 30)] := st
    refine Wl.nil ?_
    refine tn ?_
    refine Wc.ret ?_
    refine postL.cell (i := 1) st rfl tA_30 rfl rfl layV_len ?_
    refine RetV.of ?_ st.below
    exact congrArg (fun l : List Value => Value.agg l.toArray) (layV_congr rfl fun j hj => by first | rfl | (obtain rfl : i = n := (by omega); rfl))

set_option maxHeartbeats 400000 in
set_option maxRecDepth 4000 in
theorem c_spec_l05Stacked {p : Int} {c : Nat → Nat} {r : Int} {d : Nat → Nat} {t : Int} {w : World} (hp : -128 ≤ p ∧ p ≤ 127) (hc : ∀ k, c k < 256) (hr : -128 ≤ r ∧ r ≤ 127) (hd : ∀ k, d k < 256) :
    CE Try.prog 80 [.agg (layV (p) (c)).toArray, .agg (layV (r) (d)).toArray, .int .i64 (t)] w (RetV w (.int .u64 (((pic (fun r => decide (t ≤ ((pc ((orC (fun i => [c, d].getD i (fun _ => 0)) 2) r) : Nat) : Int))) : Nat) : Int)))) := by
  refine CE.enter 14 [(0, .agg (layV (p) (c)).toArray), (1, .agg (layV (r) (d)).toArray), (2, .int .i64 (t))] en_80 Try.func80 rfl rfl (Nat.le_of_ble_eq_true rfl) rfl ?_
  have st := St.start w
  refine Wc.seq ?_
  refine Wc.region rfl ?_
  refine Wl.boxA st rfl ?_
  clear st
  intro b3 w1 st
  refine Wl.boxA st rfl ?_
  clear st
  intro b4 w2 st
  refine Wl.pure (PR.assI rfl) ?_
  refine Wl.nil ?_
  refine tn ?_
  refine Wc.seq ?_
  refine Wc.region rfl ?_
  refine Wl.loadA (i := 1) st tA_30 rfl rfl (all_sub layV_len) layV_len ?_
  refine Wl.loadA (i := 0) st tA_30 rfl rfl (all_sub layV_len) layV_len ?_
  refine Wl.buildSlice (ps := [(0, .agg (layV (p) (c)).toArray), (1, .agg (layV (r) (d)).toArray)]) (cs := layS 2 (fun z_ => [(p), (r)].getD z_ 0) (fun z_ => [c, d].getD z_ (fun _ => 0))) st tS_99 tZ_30 rfl rfl (lit_lays2 _ _ _ _ _) ?_
  clear st
  intro b10 w3 st
  refine Wl.callV (c_spec_l01Stack (A := some ⟨b10, 0, none⟩) (n := 2) (cp := 2) (p := (fun z_ => [(p), (r)].getD z_ 0)) (c := (fun z_ => [c, d].getD z_ (fun _ => 0))) ((st.rdA (i := 0) (n := (2 * 65)) rfl (all_sub (recV_len (s := 65) (layS_row _ _) _))).sl) (lit_p2 hp hr) (lit_lt2 hc hd) (by first | assumption | omega) (by first | assumption | omega)) rfl ?_
  intro w4 hbel
  replace st := st.call hbel
  clear hbel
  refine Wl.alloc st tZ_30 rfl ?_
  clear st
  intro b7 w5 st
  refine Wl.storeA (i := 0) (cs' := layV ((fun z_ => [(p), (r)].getD z_ 0) 0) ((orC (fun z_ => [c, d].getD z_ (fun _ => 0)) 2))) st tA_30 rfl rfl layV_len layV_one rfl (le_of_len layV_len (by omega)) (all_put layV_len) ?_
  clear st
  intro w6 st
  replace st : St [] w w6 [(b7, layV ((fun z_ => [(p), (r)].getD z_ 0) 0) ((orC (fun z_ => [c, d].getD z_ (fun _ => 0)) 2)), 30), (b10, layS 2 (fun z_ => [(p), (r)].getD z_ 0) (fun z_ => [c, d].getD z_ (fun _ => 0)), 30), (b4, layV (r) (d), 30), (b3, layV (p) (c), 30)] := st
  refine Wl.nil ?_
  refine tn ?_
  refine Wc.seq ?_
  refine Wc.region rfl ?_
  refine Wl.pure (PR.moveI rfl) ?_
  refine Wl.callV (c_spec_l01Shown (b := b7) (o := 0) (p := (fun z_ => [(p), (r)].getD z_ 0) 0) (c := (orC (fun z_ => [c, d].getD z_ (fun _ => 0)) 2)) (t := t) (st.rdA (i := 0) rfl (all_sub layV_len)) (orC_lt (lit_lt2 hc hd) 2)) rfl ?_
  intro w7 hbel
  replace st := st.call hbel
  clear hbel
  refine Wl.pure (PR.assI rfl) ?_
  refine Wl.nil ?_
  refine tn ?_
  refine Wc.ret ?_
  refine postL.tmp rfl rfl ?_
  refine RetV.of ?_ st.below
  refine congrArg (Value.int .u64) ?_
  first | rfl | omega | simp_all

set_option maxHeartbeats 400000 in
set_option maxRecDepth 4000 in
theorem c_impl_SecretShown {p : Int} {c : Nat → Nat} {r : Int} {d : Nat → Nat} {w : World} (hp : -128 ≤ p ∧ p ≤ 127) (hc : ∀ k, c k < 256) (hr : -128 ≤ r ∧ r ≤ 127) (hd : ∀ k, d k < 256) :
    CE Try.prog 28 [.agg (layV (p) (c)).toArray, .agg (layV (r) (d)).toArray] w (RetV w (.tuple #[.int .u64 (((selN (codeP 2 (fun i => [p, r].getD i 0) (fun i => [c, d].getD i (fun _ => 0)) 4) (pic (fun r => decide (4 ≤ ((pc ((orC (fun i => [c, d].getD i (fun _ => 0)) 2) r) : Nat) : Int)))) : Nat) : Int)), .int .i64 (((codeP 2 (fun i => [p, r].getD i 0) (fun i => [c, d].getD i (fun _ => 0)) 4 : Nat) : Int))])) := by
  refine CE.enter 19 [(0, .agg (layV (p) (c)).toArray), (1, .agg (layV (r) (d)).toArray)] en_28 Try.func28 rfl rfl (Nat.le_of_ble_eq_true rfl) rfl ?_
  have st := St.start w
  refine Wc.seq ?_
  refine Wc.region rfl ?_
  refine Wl.boxA st rfl ?_
  clear st
  intro b2 w1 st
  refine Wl.boxA st rfl ?_
  clear st
  intro b3 w2 st
  refine Wl.pure (PR.assI rfl) ?_
  refine Wl.pure (PR.assI rfl) ?_
  refine Wl.nil ?_
  refine tn ?_
  refine Wc.seq ?_
  refine Wc.seq ?_
  refine Wc.region rfl ?_
  refine Wl.loadA (i := 1) st tA_30 rfl rfl (all_sub layV_len) layV_len ?_
  refine Wl.loadA (i := 0) st tA_30 rfl rfl (all_sub layV_len) layV_len ?_
  refine Wl.buildSlice (ps := [(0, .agg (layV (p) (c)).toArray), (1, .agg (layV (r) (d)).toArray)]) (cs := layS 2 (fun z_ => [(p), (r)].getD z_ 0) (fun z_ => [c, d].getD z_ (fun _ => 0))) st tS_99 tZ_30 rfl rfl (lit_lays2 _ _ _ _ _) ?_
  clear st
  intro b9 w3 st
  refine Wl.callV (c_impl_partsCode (A := some ⟨b9, 0, none⟩) (n := 2) (cp := 2) (p := (fun z_ => [(p), (r)].getD z_ 0)) (c := (fun z_ => [c, d].getD z_ (fun _ => 0))) (q := 4) ((st.rdA (i := 0) (n := (2 * 65)) rfl (all_sub (recV_len (s := 65) (layS_row _ _) _))).sl) (lit_p2 hp hr) (lit_lt2 hc hd) (by first | assumption | omega)) rfl ?_
  intro w4 hbel
  replace st := st.call hbel
  clear hbel
  refine Wl.pure (PR.assI rfl) ?_
  refine Wl.nil ?_
  refine tn ?_
  refine Wc.seq ?_
  refine Wc.region rfl ?_
  refine Wl.pure (PR.moveI rfl) ?_
  refine Wl.pure (PR.neq (a := ((codeP 2 (fun z_ => [(p), (r)].getD z_ 0) (fun z_ => [c, d].getD z_ (fun _ => 0)) 4 : Nat) : Int)) (b := 0) rfl rfl) ?_
  refine Wl.nil ?_
  refine tn ?_
  refine Wc.condN (p := ((codeP 2 (fun z_ => [(p), (r)].getD z_ 0) (fun z_ => [c, d].getD z_ (fun _ => 0)) 4 : Nat) : Int) = 0) rfl (fun h5 => ?_) (fun h5 => ?_)
  · refine Wc.seq ?_
    refine Wc.region rfl ?_
    refine Wl.pure (PR.moveI rfl) ?_
    refine Wl.pure (PR.assI rfl) ?_
    refine Wl.pure (PR.assI rfl) ?_
    refine Wl.nil ?_
    refine tn ?_
    refine Wc.ret ?_
    refine tr ?_
    refine postL.tmp2 rfl rfl rfl ?_
    refine RetV.of ?_ st.below
    exact sh_f (by omega)
  · refine Wc.skip ?_
    refine tn ?_
    refine Wc.seq ?_
    refine Wc.region rfl ?_
    refine Wl.loadA (i := 2) st tA_30 rfl rfl (all_sub layV_len) layV_len ?_
    refine Wl.loadA (i := 1) st tA_30 rfl rfl (all_sub layV_len) layV_len ?_
    refine Wl.buildSlice (ps := [(0, .agg (layV (p) (c)).toArray), (1, .agg (layV (r) (d)).toArray)]) (cs := layS 2 (fun z_ => [(p), (r)].getD z_ 0) (fun z_ => [c, d].getD z_ (fun _ => 0))) st tS_99 tZ_30 rfl rfl (lit_lays2 _ _ _ _ _) ?_
    clear st
    intro b16 w6 st
    refine Wl.callV (c_impl_stack (A := some ⟨b16, 0, none⟩) (n := 2) (cp := 2) (p := (fun z_ => [(p), (r)].getD z_ 0)) (c := (fun z_ => [c, d].getD z_ (fun _ => 0))) ((st.rdA (i := 0) (n := (2 * 65)) rfl (all_sub (recV_len (s := 65) (layS_row _ _) _))).sl) (lit_p2 hp hr) (lit_lt2 hc hd) (by first | assumption | omega) (by first | assumption | omega)) rfl ?_
    intro w7 hbel
    replace st := st.call hbel
    clear hbel
    refine Wl.callV (c_impl_Layer_shown (p := (fun z_ => [(p), (r)].getD z_ 0) 0) (c := (orC (fun z_ => [c, d].getD z_ (fun _ => 0)) 2)) (t := 4) (orC_lt (lit_lt2 hc hd) 2)) rfl ?_
    intro w8 hbel
    replace st := st.call hbel
    clear hbel
    refine Wl.pure (PR.assI rfl) ?_
    refine Wl.pure (PR.assI rfl) ?_
    refine Wl.nil ?_
    refine tn ?_
    refine Wc.ret ?_
    refine postL.tmp2 rfl rfl rfl ?_
    refine RetV.of ?_ st.below
    exact sh_t (by omega)

set_option maxHeartbeats 400000 in
set_option maxRecDepth 4000 in
theorem c_spec_SecretShown {p : Int} {c : Nat → Nat} {r : Int} {d : Nat → Nat} {w : World} (hp : -128 ≤ p ∧ p ≤ 127) (hc : ∀ k, c k < 256) (hr : -128 ≤ r ∧ r ≤ 127) (hd : ∀ k, d k < 256) :
    CE Try.prog 27 [.agg (layV (p) (c)).toArray, .agg (layV (r) (d)).toArray] w (RetV w (.tuple #[.int .u64 (((selN (codeP 2 (fun i => [p, r].getD i 0) (fun i => [c, d].getD i (fun _ => 0)) 4) (pic (fun r => decide (4 ≤ ((pc ((orC (fun i => [c, d].getD i (fun _ => 0)) 2) r) : Nat) : Int)))) : Nat) : Int)), .int .i64 (((codeP 2 (fun i => [p, r].getD i 0) (fun i => [c, d].getD i (fun _ => 0)) 4 : Nat) : Int))])) := by
  refine CE.enter 17 [(0, .agg (layV (p) (c)).toArray), (1, .agg (layV (r) (d)).toArray)] en_27 Try.func27 rfl rfl (Nat.le_of_ble_eq_true rfl) rfl ?_
  have st := St.start w
  refine Wc.seq ?_
  refine Wc.region rfl ?_
  refine Wl.boxA st rfl ?_
  clear st
  intro b2 w1 st
  refine Wl.boxA st rfl ?_
  clear st
  intro b3 w2 st
  refine Wl.pure (PR.assI rfl) ?_
  refine Wl.pure (PR.assI rfl) ?_
  refine Wl.nil ?_
  refine tn ?_
  refine Wc.seq ?_
  refine Wc.seq ?_
  refine Wc.region rfl ?_
  refine Wl.loadA (i := 1) st tA_30 rfl rfl (all_sub layV_len) layV_len ?_
  refine Wl.loadA (i := 0) st tA_30 rfl rfl (all_sub layV_len) layV_len ?_
  refine Wl.buildSlice (ps := [(0, .agg (layV (p) (c)).toArray), (1, .agg (layV (r) (d)).toArray)]) (cs := layS 2 (fun z_ => [(p), (r)].getD z_ 0) (fun z_ => [c, d].getD z_ (fun _ => 0))) st tS_99 tZ_30 rfl rfl (lit_lays2 _ _ _ _ _) ?_
  clear st
  intro b9 w3 st
  refine Wl.callV (c_spec_l05With (A := some ⟨b9, 0, none⟩) (n := 2) (cp := 2) (p := (fun z_ => [(p), (r)].getD z_ 0)) (c := (fun z_ => [c, d].getD z_ (fun _ => 0))) (q := 4) ((st.rdA (i := 0) (n := (2 * 65)) rfl (all_sub (recV_len (s := 65) (layS_row _ _) _))).sl) (lit_p2 hp hr) (lit_lt2 hc hd) (by first | assumption | omega)) rfl ?_
  intro w4 hbel
  replace st := st.call hbel
  clear hbel
  refine Wl.pure (PR.assI rfl) ?_
  refine Wl.nil ?_
  refine tn ?_
  refine Wc.seq ?_
  refine Wc.region rfl ?_
  refine Wl.pure (PR.moveI rfl) ?_
  refine Wl.pure (PR.neq (a := ((codeP 2 (fun z_ => [(p), (r)].getD z_ 0) (fun z_ => [c, d].getD z_ (fun _ => 0)) 4 : Nat) : Int)) (b := 0) rfl rfl) ?_
  refine Wl.nil ?_
  refine tn ?_
  refine Wc.condN (p := ((codeP 2 (fun z_ => [(p), (r)].getD z_ 0) (fun z_ => [c, d].getD z_ (fun _ => 0)) 4 : Nat) : Int) = 0) rfl (fun h5 => ?_) (fun h5 => ?_)
  · refine Wc.seq ?_
    refine Wc.region rfl ?_
    refine Wl.pure (PR.moveI rfl) ?_
    refine Wl.pure (PR.assI rfl) ?_
    refine Wl.pure (PR.assI rfl) ?_
    refine Wl.nil ?_
    refine tn ?_
    refine Wc.ret ?_
    refine tr ?_
    refine postL.tmp2 rfl rfl rfl ?_
    refine RetV.of ?_ st.below
    exact sh_f (by omega)
  · refine Wc.skip ?_
    refine tn ?_
    refine Wc.seq ?_
    refine Wc.region rfl ?_
    refine Wl.loadA (i := 2) st tA_30 rfl rfl (all_sub layV_len) layV_len ?_
    refine Wl.loadA (i := 1) st tA_30 rfl rfl (all_sub layV_len) layV_len ?_
    refine Wl.callV (c_spec_l05Stacked (p := p) (c := c) (r := r) (d := d) (t := 4) (by first | assumption | omega) hc (by first | assumption | omega) hd) rfl ?_
    intro w6 hbel
    replace st := st.call hbel
    clear hbel
    refine Wl.pure (PR.assI rfl) ?_
    refine Wl.pure (PR.assI rfl) ?_
    refine Wl.nil ?_
    refine tn ?_
    refine Wc.ret ?_
    refine postL.tmp2 rfl rfl rfl ?_
    refine RetV.of ?_ st.below
    exact sh_t (by omega)

set_option maxHeartbeats 400000 in
set_option maxRecDepth 4000 in
theorem c_laws_FnExactSecretShown {p : Int} {c : Nat → Nat} {r : Int} {d : Nat → Nat} {w : World} (hp : -128 ≤ p ∧ p ≤ 127) (hc : ∀ k, c k < 256) (hr : -128 ≤ r ∧ r ≤ 127) (hd : ∀ k, d k < 256) :
    CE Try.prog 7 [.agg (layV (p) (c)).toArray, .agg (layV (r) (d)).toArray] w (RetV w (.bool true)) := by
  refine CE.enter 33 [(0, .agg (layV (p) (c)).toArray), (1, .agg (layV (r) (d)).toArray)] en_7 Try.func7 rfl rfl (Nat.le_of_ble_eq_true rfl) rfl ?_
  have st := St.start w
  refine Wc.seq ?_
  refine Wc.region rfl ?_
  refine Wl.boxA st rfl ?_
  clear st
  intro b2 w1 st
  refine Wl.boxA st rfl ?_
  clear st
  intro b3 w2 st
  refine Wl.pure (PR.assB rfl) ?_
  refine Wl.nil ?_
  refine tn ?_
  refine Wc.seq ?_
  refine Wc.quiet hmix (by kernel_rfl) rfl ?_
  refine Wq.loadA (i := 1) st tA_25 rfl rfl (all_sub layV_len) layV_len ?_
  refine Wq.callV (fun _ hbel => c_laws_toLayer (p := p) (c := c) hc) rfl ?_
  refine Wq.loadA (i := 0) st tA_25 rfl rfl (all_sub layV_len) layV_len ?_
  refine Wq.callV (fun _ hbel => c_laws_toLayer (p := r) (c := d) hd) rfl ?_
  refine Wq.callV (fun _ hbel => c_spec_SecretShown (p := p) (c := c) (r := r) (d := d) (by first | assumption | omega) (by assumption) (by first | assumption | omega) (by assumption)) rfl ?_
  refine Wq.pure (PR.moveV (.tuple #[.int .u64 (((selN (codeP 2 (fun i => [p, r].getD i 0) (fun i => [c, d].getD i (fun _ => 0)) 4) (pic (fun r => decide (4 ≤ ((pc ((orC (fun i => [c, d].getD i (fun _ => 0)) 2) r) : Nat) : Int)))) : Nat) : Int)), .int .i64 (((codeP 2 (fun i => [p, r].getD i 0) (fun i => [c, d].getD i (fun _ => 0)) 4 : Nat) : Int))]) rfl) ?_
  refine Wq.pure (PR.extr (i := 0) (vs := [.int .u64 (((selN (codeP 2 (fun i => [p, r].getD i 0) (fun i => [c, d].getD i (fun _ => 0)) 4) (pic (fun r => decide (4 ≤ ((pc ((orC (fun i => [c, d].getD i (fun _ => 0)) 2) r) : Nat) : Int)))) : Nat) : Int)), .int .i64 (((codeP 2 (fun i => [p, r].getD i 0) (fun i => [c, d].getD i (fun _ => 0)) 4 : Nat) : Int))]) rfl rfl) ?_
  refine Wq.pure (PR.extr (i := 1) (vs := [.int .u64 (((selN (codeP 2 (fun i => [p, r].getD i 0) (fun i => [c, d].getD i (fun _ => 0)) 4) (pic (fun r => decide (4 ≤ ((pc ((orC (fun i => [c, d].getD i (fun _ => 0)) 2) r) : Nat) : Int)))) : Nat) : Int)), .int .i64 (((codeP 2 (fun i => [p, r].getD i 0) (fun i => [c, d].getD i (fun _ => 0)) 4 : Nat) : Int))]) rfl rfl) ?_
  refine Wq.pure (PR.assI rfl) ?_
  refine Wq.pure (PR.assI rfl) ?_
  refine Wq.nil (fun w3 hbel => ?_)
  replace st := st.call hbel
  clear hbel
  refine tn ?_
  refine Wc.seq ?_
  refine Wc.quiet hmix (by kernel_rfl) rfl ?_
  refine Wq.loadA (i := 1) st tA_25 rfl rfl (all_sub layV_len) layV_len ?_
  refine Wq.callV (fun _ hbel => c_laws_toLayer (p := p) (c := c) hc) rfl ?_
  refine Wq.loadA (i := 0) st tA_25 rfl rfl (all_sub layV_len) layV_len ?_
  refine Wq.callV (fun _ hbel => c_laws_toLayer (p := r) (c := d) hd) rfl ?_
  refine Wq.callV (fun _ hbel => c_impl_SecretShown (p := p) (c := c) (r := r) (d := d) (by first | assumption | omega) (by assumption) (by first | assumption | omega) (by assumption)) rfl ?_
  refine Wq.pure (PR.moveV (.tuple #[.int .u64 (((selN (codeP 2 (fun i => [p, r].getD i 0) (fun i => [c, d].getD i (fun _ => 0)) 4) (pic (fun r => decide (4 ≤ ((pc ((orC (fun i => [c, d].getD i (fun _ => 0)) 2) r) : Nat) : Int)))) : Nat) : Int)), .int .i64 (((codeP 2 (fun i => [p, r].getD i 0) (fun i => [c, d].getD i (fun _ => 0)) 4 : Nat) : Int))]) rfl) ?_
  refine Wq.pure (PR.extr (i := 0) (vs := [.int .u64 (((selN (codeP 2 (fun i => [p, r].getD i 0) (fun i => [c, d].getD i (fun _ => 0)) 4) (pic (fun r => decide (4 ≤ ((pc ((orC (fun i => [c, d].getD i (fun _ => 0)) 2) r) : Nat) : Int)))) : Nat) : Int)), .int .i64 (((codeP 2 (fun i => [p, r].getD i 0) (fun i => [c, d].getD i (fun _ => 0)) 4 : Nat) : Int))]) rfl rfl) ?_
  refine Wq.pure (PR.extr (i := 1) (vs := [.int .u64 (((selN (codeP 2 (fun i => [p, r].getD i 0) (fun i => [c, d].getD i (fun _ => 0)) 4) (pic (fun r => decide (4 ≤ ((pc ((orC (fun i => [c, d].getD i (fun _ => 0)) 2) r) : Nat) : Int)))) : Nat) : Int)), .int .i64 (((codeP 2 (fun i => [p, r].getD i 0) (fun i => [c, d].getD i (fun _ => 0)) 4 : Nat) : Int))]) rfl rfl) ?_
  refine Wq.pure (PR.assI rfl) ?_
  refine Wq.pure (PR.assI rfl) ?_
  refine Wq.nil (fun w4 hbel => ?_)
  replace st := st.call hbel
  clear hbel
  refine tn ?_
  refine Wc.seq ?_
  refine Wc.seq ?_
  refine Wc.region rfl ?_
  refine Wl.pure (PR.moveI rfl) ?_
  refine Wl.pure (PR.moveI rfl) ?_
  refine Wl.pure (PR.neqS (a := ((selN (codeP 2 (fun i => [p, r].getD i 0) (fun i => [c, d].getD i (fun _ => 0)) 4) (pic (fun r => decide (4 ≤ ((pc ((orC (fun i => [c, d].getD i (fun _ => 0)) 2) r) : Nat) : Int)))) : Nat) : Int)) rfl rfl) ?_
  refine Wl.pure (PR.moveB rfl) ?_
  refine Wl.on rfl rfl ?_
  refine Wl.pure (PR.moveI rfl) ?_
  refine Wl.on rfl rfl ?_
  refine Wl.pure (PR.moveI rfl) ?_
  refine Wl.on rfl rfl ?_
  refine Wl.pure (PR.neqS (a := ((codeP 2 (fun i => [p, r].getD i 0) (fun i => [c, d].getD i (fun _ => 0)) 4 : Nat) : Int)) rfl rfl) ?_
  refine Wl.pure (PR.pickFB rfl rfl) ?_
  refine Wl.nil ?_
  refine tn ?_
  refine Wc.condF rfl ?_
  refine Wc.skip ?_
  refine tn ?_
  refine Wc.seq ?_
  refine Wc.region rfl ?_
  refine Wl.pure (PR.assB rfl) ?_
  refine Wl.nil ?_
  refine tn ?_
  refine Wc.ret ?_
  refine postL.tmp rfl rfl ?_
  exact RetV.of rfl st.below

set_option maxHeartbeats 400000 in
set_option maxRecDepth 4000 in
theorem c_impl_PairShown {p : Int} {c : Nat → Nat} {r : Int} {d : Nat → Nat} {w : World} (hp : -128 ≤ p ∧ p ≤ 127) (hc : ∀ k, c k < 256) (hr : -128 ≤ r ∧ r ≤ 127) (hd : ∀ k, d k < 256) :
    CE Try.prog 26 [.agg (layV (p) (c)).toArray, .agg (layV (r) (d)).toArray] w (RetV w (.tuple #[.int .u64 (((selN (codeP 2 (fun i => [p, r].getD i 0) (fun i => [c, d].getD i (fun _ => 0)) 2) (pic (fun r => decide (2 ≤ ((pc ((orC (fun i => [c, d].getD i (fun _ => 0)) 2) r) : Nat) : Int)))) : Nat) : Int)), .int .i64 (((codeP 2 (fun i => [p, r].getD i 0) (fun i => [c, d].getD i (fun _ => 0)) 2 : Nat) : Int))])) := by
  refine CE.enter 19 [(0, .agg (layV (p) (c)).toArray), (1, .agg (layV (r) (d)).toArray)] en_26 Try.func26 rfl rfl (Nat.le_of_ble_eq_true rfl) rfl ?_
  have st := St.start w
  refine Wc.seq ?_
  refine Wc.region rfl ?_
  refine Wl.boxA st rfl ?_
  clear st
  intro b2 w1 st
  refine Wl.boxA st rfl ?_
  clear st
  intro b3 w2 st
  refine Wl.pure (PR.assI rfl) ?_
  refine Wl.pure (PR.assI rfl) ?_
  refine Wl.nil ?_
  refine tn ?_
  refine Wc.seq ?_
  refine Wc.seq ?_
  refine Wc.region rfl ?_
  refine Wl.loadA (i := 1) st tA_30 rfl rfl (all_sub layV_len) layV_len ?_
  refine Wl.loadA (i := 0) st tA_30 rfl rfl (all_sub layV_len) layV_len ?_
  refine Wl.buildSlice (ps := [(0, .agg (layV (p) (c)).toArray), (1, .agg (layV (r) (d)).toArray)]) (cs := layS 2 (fun z_ => [(p), (r)].getD z_ 0) (fun z_ => [c, d].getD z_ (fun _ => 0))) st tS_99 tZ_30 rfl rfl (lit_lays2 _ _ _ _ _) ?_
  clear st
  intro b9 w3 st
  refine Wl.callV (c_impl_partsCode (A := some ⟨b9, 0, none⟩) (n := 2) (cp := 2) (p := (fun z_ => [(p), (r)].getD z_ 0)) (c := (fun z_ => [c, d].getD z_ (fun _ => 0))) (q := 2) ((st.rdA (i := 0) (n := (2 * 65)) rfl (all_sub (recV_len (s := 65) (layS_row _ _) _))).sl) (lit_p2 hp hr) (lit_lt2 hc hd) (by first | assumption | omega)) rfl ?_
  intro w4 hbel
  replace st := st.call hbel
  clear hbel
  refine Wl.pure (PR.assI rfl) ?_
  refine Wl.nil ?_
  refine tn ?_
  refine Wc.seq ?_
  refine Wc.region rfl ?_
  refine Wl.pure (PR.moveI rfl) ?_
  refine Wl.pure (PR.neq (a := ((codeP 2 (fun z_ => [(p), (r)].getD z_ 0) (fun z_ => [c, d].getD z_ (fun _ => 0)) 2 : Nat) : Int)) (b := 0) rfl rfl) ?_
  refine Wl.nil ?_
  refine tn ?_
  refine Wc.condN (p := ((codeP 2 (fun z_ => [(p), (r)].getD z_ 0) (fun z_ => [c, d].getD z_ (fun _ => 0)) 2 : Nat) : Int) = 0) rfl (fun h5 => ?_) (fun h5 => ?_)
  · refine Wc.seq ?_
    refine Wc.region rfl ?_
    refine Wl.pure (PR.moveI rfl) ?_
    refine Wl.pure (PR.assI rfl) ?_
    refine Wl.pure (PR.assI rfl) ?_
    refine Wl.nil ?_
    refine tn ?_
    refine Wc.ret ?_
    refine tr ?_
    refine postL.tmp2 rfl rfl rfl ?_
    refine RetV.of ?_ st.below
    exact sh_f (by omega)
  · refine Wc.skip ?_
    refine tn ?_
    refine Wc.seq ?_
    refine Wc.region rfl ?_
    refine Wl.loadA (i := 2) st tA_30 rfl rfl (all_sub layV_len) layV_len ?_
    refine Wl.loadA (i := 1) st tA_30 rfl rfl (all_sub layV_len) layV_len ?_
    refine Wl.buildSlice (ps := [(0, .agg (layV (p) (c)).toArray), (1, .agg (layV (r) (d)).toArray)]) (cs := layS 2 (fun z_ => [(p), (r)].getD z_ 0) (fun z_ => [c, d].getD z_ (fun _ => 0))) st tS_99 tZ_30 rfl rfl (lit_lays2 _ _ _ _ _) ?_
    clear st
    intro b16 w6 st
    refine Wl.callV (c_impl_stack (A := some ⟨b16, 0, none⟩) (n := 2) (cp := 2) (p := (fun z_ => [(p), (r)].getD z_ 0)) (c := (fun z_ => [c, d].getD z_ (fun _ => 0))) ((st.rdA (i := 0) (n := (2 * 65)) rfl (all_sub (recV_len (s := 65) (layS_row _ _) _))).sl) (lit_p2 hp hr) (lit_lt2 hc hd) (by first | assumption | omega) (by first | assumption | omega)) rfl ?_
    intro w7 hbel
    replace st := st.call hbel
    clear hbel
    refine Wl.callV (c_impl_Layer_shown (p := (fun z_ => [(p), (r)].getD z_ 0) 0) (c := (orC (fun z_ => [c, d].getD z_ (fun _ => 0)) 2)) (t := 2) (orC_lt (lit_lt2 hc hd) 2)) rfl ?_
    intro w8 hbel
    replace st := st.call hbel
    clear hbel
    refine Wl.pure (PR.assI rfl) ?_
    refine Wl.pure (PR.assI rfl) ?_
    refine Wl.nil ?_
    refine tn ?_
    refine Wc.ret ?_
    refine postL.tmp2 rfl rfl rfl ?_
    refine RetV.of ?_ st.below
    exact sh_t (by omega)

set_option maxHeartbeats 400000 in
set_option maxRecDepth 4000 in
theorem c_spec_PairShown {p : Int} {c : Nat → Nat} {r : Int} {d : Nat → Nat} {w : World} (hp : -128 ≤ p ∧ p ≤ 127) (hc : ∀ k, c k < 256) (hr : -128 ≤ r ∧ r ≤ 127) (hd : ∀ k, d k < 256) :
    CE Try.prog 25 [.agg (layV (p) (c)).toArray, .agg (layV (r) (d)).toArray] w (RetV w (.tuple #[.int .u64 (((selN (codeP 2 (fun i => [p, r].getD i 0) (fun i => [c, d].getD i (fun _ => 0)) 2) (pic (fun r => decide (2 ≤ ((pc ((orC (fun i => [c, d].getD i (fun _ => 0)) 2) r) : Nat) : Int)))) : Nat) : Int)), .int .i64 (((codeP 2 (fun i => [p, r].getD i 0) (fun i => [c, d].getD i (fun _ => 0)) 2 : Nat) : Int))])) := by
  refine CE.enter 17 [(0, .agg (layV (p) (c)).toArray), (1, .agg (layV (r) (d)).toArray)] en_25 Try.func25 rfl rfl (Nat.le_of_ble_eq_true rfl) rfl ?_
  have st := St.start w
  refine Wc.seq ?_
  refine Wc.region rfl ?_
  refine Wl.boxA st rfl ?_
  clear st
  intro b2 w1 st
  refine Wl.boxA st rfl ?_
  clear st
  intro b3 w2 st
  refine Wl.pure (PR.assI rfl) ?_
  refine Wl.pure (PR.assI rfl) ?_
  refine Wl.nil ?_
  refine tn ?_
  refine Wc.seq ?_
  refine Wc.seq ?_
  refine Wc.region rfl ?_
  refine Wl.loadA (i := 1) st tA_30 rfl rfl (all_sub layV_len) layV_len ?_
  refine Wl.loadA (i := 0) st tA_30 rfl rfl (all_sub layV_len) layV_len ?_
  refine Wl.buildSlice (ps := [(0, .agg (layV (p) (c)).toArray), (1, .agg (layV (r) (d)).toArray)]) (cs := layS 2 (fun z_ => [(p), (r)].getD z_ 0) (fun z_ => [c, d].getD z_ (fun _ => 0))) st tS_99 tZ_30 rfl rfl (lit_lays2 _ _ _ _ _) ?_
  clear st
  intro b9 w3 st
  refine Wl.callV (c_spec_l05With (A := some ⟨b9, 0, none⟩) (n := 2) (cp := 2) (p := (fun z_ => [(p), (r)].getD z_ 0)) (c := (fun z_ => [c, d].getD z_ (fun _ => 0))) (q := 2) ((st.rdA (i := 0) (n := (2 * 65)) rfl (all_sub (recV_len (s := 65) (layS_row _ _) _))).sl) (lit_p2 hp hr) (lit_lt2 hc hd) (by first | assumption | omega)) rfl ?_
  intro w4 hbel
  replace st := st.call hbel
  clear hbel
  refine Wl.pure (PR.assI rfl) ?_
  refine Wl.nil ?_
  refine tn ?_
  refine Wc.seq ?_
  refine Wc.region rfl ?_
  refine Wl.pure (PR.moveI rfl) ?_
  refine Wl.pure (PR.neq (a := ((codeP 2 (fun z_ => [(p), (r)].getD z_ 0) (fun z_ => [c, d].getD z_ (fun _ => 0)) 2 : Nat) : Int)) (b := 0) rfl rfl) ?_
  refine Wl.nil ?_
  refine tn ?_
  refine Wc.condN (p := ((codeP 2 (fun z_ => [(p), (r)].getD z_ 0) (fun z_ => [c, d].getD z_ (fun _ => 0)) 2 : Nat) : Int) = 0) rfl (fun h5 => ?_) (fun h5 => ?_)
  · refine Wc.seq ?_
    refine Wc.region rfl ?_
    refine Wl.pure (PR.moveI rfl) ?_
    refine Wl.pure (PR.assI rfl) ?_
    refine Wl.pure (PR.assI rfl) ?_
    refine Wl.nil ?_
    refine tn ?_
    refine Wc.ret ?_
    refine tr ?_
    refine postL.tmp2 rfl rfl rfl ?_
    refine RetV.of ?_ st.below
    exact sh_f (by omega)
  · refine Wc.skip ?_
    refine tn ?_
    refine Wc.seq ?_
    refine Wc.region rfl ?_
    refine Wl.loadA (i := 2) st tA_30 rfl rfl (all_sub layV_len) layV_len ?_
    refine Wl.loadA (i := 1) st tA_30 rfl rfl (all_sub layV_len) layV_len ?_
    refine Wl.callV (c_spec_l05Stacked (p := p) (c := c) (r := r) (d := d) (t := 2) (by first | assumption | omega) hc (by first | assumption | omega) hd) rfl ?_
    intro w6 hbel
    replace st := st.call hbel
    clear hbel
    refine Wl.pure (PR.assI rfl) ?_
    refine Wl.pure (PR.assI rfl) ?_
    refine Wl.nil ?_
    refine tn ?_
    refine Wc.ret ?_
    refine postL.tmp2 rfl rfl rfl ?_
    refine RetV.of ?_ st.below
    exact sh_t (by omega)

set_option maxHeartbeats 400000 in
set_option maxRecDepth 4000 in
theorem c_laws_FnExactPairShown {p : Int} {c : Nat → Nat} {r : Int} {d : Nat → Nat} {w : World} (hp : -128 ≤ p ∧ p ≤ 127) (hc : ∀ k, c k < 256) (hr : -128 ≤ r ∧ r ≤ 127) (hd : ∀ k, d k < 256) :
    CE Try.prog 6 [.agg (layV (p) (c)).toArray, .agg (layV (r) (d)).toArray] w (RetV w (.bool true)) := by
  refine CE.enter 33 [(0, .agg (layV (p) (c)).toArray), (1, .agg (layV (r) (d)).toArray)] en_6 Try.func6 rfl rfl (Nat.le_of_ble_eq_true rfl) rfl ?_
  have st := St.start w
  refine Wc.seq ?_
  refine Wc.region rfl ?_
  refine Wl.boxA st rfl ?_
  clear st
  intro b2 w1 st
  refine Wl.boxA st rfl ?_
  clear st
  intro b3 w2 st
  refine Wl.pure (PR.assB rfl) ?_
  refine Wl.nil ?_
  refine tn ?_
  refine Wc.seq ?_
  refine Wc.quiet hmix (by kernel_rfl) rfl ?_
  refine Wq.loadA (i := 1) st tA_25 rfl rfl (all_sub layV_len) layV_len ?_
  refine Wq.callV (fun _ hbel => c_laws_toLayer (p := p) (c := c) hc) rfl ?_
  refine Wq.loadA (i := 0) st tA_25 rfl rfl (all_sub layV_len) layV_len ?_
  refine Wq.callV (fun _ hbel => c_laws_toLayer (p := r) (c := d) hd) rfl ?_
  refine Wq.callV (fun _ hbel => c_spec_PairShown (p := p) (c := c) (r := r) (d := d) (by first | assumption | omega) (by assumption) (by first | assumption | omega) (by assumption)) rfl ?_
  refine Wq.pure (PR.moveV (.tuple #[.int .u64 (((selN (codeP 2 (fun i => [p, r].getD i 0) (fun i => [c, d].getD i (fun _ => 0)) 2) (pic (fun r => decide (2 ≤ ((pc ((orC (fun i => [c, d].getD i (fun _ => 0)) 2) r) : Nat) : Int)))) : Nat) : Int)), .int .i64 (((codeP 2 (fun i => [p, r].getD i 0) (fun i => [c, d].getD i (fun _ => 0)) 2 : Nat) : Int))]) rfl) ?_
  refine Wq.pure (PR.extr (i := 0) (vs := [.int .u64 (((selN (codeP 2 (fun i => [p, r].getD i 0) (fun i => [c, d].getD i (fun _ => 0)) 2) (pic (fun r => decide (2 ≤ ((pc ((orC (fun i => [c, d].getD i (fun _ => 0)) 2) r) : Nat) : Int)))) : Nat) : Int)), .int .i64 (((codeP 2 (fun i => [p, r].getD i 0) (fun i => [c, d].getD i (fun _ => 0)) 2 : Nat) : Int))]) rfl rfl) ?_
  refine Wq.pure (PR.extr (i := 1) (vs := [.int .u64 (((selN (codeP 2 (fun i => [p, r].getD i 0) (fun i => [c, d].getD i (fun _ => 0)) 2) (pic (fun r => decide (2 ≤ ((pc ((orC (fun i => [c, d].getD i (fun _ => 0)) 2) r) : Nat) : Int)))) : Nat) : Int)), .int .i64 (((codeP 2 (fun i => [p, r].getD i 0) (fun i => [c, d].getD i (fun _ => 0)) 2 : Nat) : Int))]) rfl rfl) ?_
  refine Wq.pure (PR.assI rfl) ?_
  refine Wq.pure (PR.assI rfl) ?_
  refine Wq.nil (fun w3 hbel => ?_)
  replace st := st.call hbel
  clear hbel
  refine tn ?_
  refine Wc.seq ?_
  refine Wc.quiet hmix (by kernel_rfl) rfl ?_
  refine Wq.loadA (i := 1) st tA_25 rfl rfl (all_sub layV_len) layV_len ?_
  refine Wq.callV (fun _ hbel => c_laws_toLayer (p := p) (c := c) hc) rfl ?_
  refine Wq.loadA (i := 0) st tA_25 rfl rfl (all_sub layV_len) layV_len ?_
  refine Wq.callV (fun _ hbel => c_laws_toLayer (p := r) (c := d) hd) rfl ?_
  refine Wq.callV (fun _ hbel => c_impl_PairShown (p := p) (c := c) (r := r) (d := d) (by first | assumption | omega) (by assumption) (by first | assumption | omega) (by assumption)) rfl ?_
  refine Wq.pure (PR.moveV (.tuple #[.int .u64 (((selN (codeP 2 (fun i => [p, r].getD i 0) (fun i => [c, d].getD i (fun _ => 0)) 2) (pic (fun r => decide (2 ≤ ((pc ((orC (fun i => [c, d].getD i (fun _ => 0)) 2) r) : Nat) : Int)))) : Nat) : Int)), .int .i64 (((codeP 2 (fun i => [p, r].getD i 0) (fun i => [c, d].getD i (fun _ => 0)) 2 : Nat) : Int))]) rfl) ?_
  refine Wq.pure (PR.extr (i := 0) (vs := [.int .u64 (((selN (codeP 2 (fun i => [p, r].getD i 0) (fun i => [c, d].getD i (fun _ => 0)) 2) (pic (fun r => decide (2 ≤ ((pc ((orC (fun i => [c, d].getD i (fun _ => 0)) 2) r) : Nat) : Int)))) : Nat) : Int)), .int .i64 (((codeP 2 (fun i => [p, r].getD i 0) (fun i => [c, d].getD i (fun _ => 0)) 2 : Nat) : Int))]) rfl rfl) ?_
  refine Wq.pure (PR.extr (i := 1) (vs := [.int .u64 (((selN (codeP 2 (fun i => [p, r].getD i 0) (fun i => [c, d].getD i (fun _ => 0)) 2) (pic (fun r => decide (2 ≤ ((pc ((orC (fun i => [c, d].getD i (fun _ => 0)) 2) r) : Nat) : Int)))) : Nat) : Int)), .int .i64 (((codeP 2 (fun i => [p, r].getD i 0) (fun i => [c, d].getD i (fun _ => 0)) 2 : Nat) : Int))]) rfl rfl) ?_
  refine Wq.pure (PR.assI rfl) ?_
  refine Wq.pure (PR.assI rfl) ?_
  refine Wq.nil (fun w4 hbel => ?_)
  replace st := st.call hbel
  clear hbel
  refine tn ?_
  refine Wc.seq ?_
  refine Wc.seq ?_
  refine Wc.region rfl ?_
  refine Wl.pure (PR.moveI rfl) ?_
  refine Wl.pure (PR.moveI rfl) ?_
  refine Wl.pure (PR.neqS (a := ((selN (codeP 2 (fun i => [p, r].getD i 0) (fun i => [c, d].getD i (fun _ => 0)) 2) (pic (fun r => decide (2 ≤ ((pc ((orC (fun i => [c, d].getD i (fun _ => 0)) 2) r) : Nat) : Int)))) : Nat) : Int)) rfl rfl) ?_
  refine Wl.pure (PR.moveB rfl) ?_
  refine Wl.on rfl rfl ?_
  refine Wl.pure (PR.moveI rfl) ?_
  refine Wl.on rfl rfl ?_
  refine Wl.pure (PR.moveI rfl) ?_
  refine Wl.on rfl rfl ?_
  refine Wl.pure (PR.neqS (a := ((codeP 2 (fun i => [p, r].getD i 0) (fun i => [c, d].getD i (fun _ => 0)) 2 : Nat) : Int)) rfl rfl) ?_
  refine Wl.pure (PR.pickFB rfl rfl) ?_
  refine Wl.nil ?_
  refine tn ?_
  refine Wc.condF rfl ?_
  refine Wc.skip ?_
  refine tn ?_
  refine Wc.seq ?_
  refine Wc.region rfl ?_
  refine Wl.pure (PR.assB rfl) ?_
  refine Wl.nil ?_
  refine tn ?_
  refine Wc.ret ?_
  refine postL.tmp rfl rfl ?_
  exact RetV.of rfl st.below

set_option maxHeartbeats 400000 in
set_option maxRecDepth 4000 in
theorem c_laws_eqShades {c : Nat → Nat} {w : World} :
    CE Try.prog 21 [.agg (arrU .u8 64 c).toArray, .agg (arrU .u8 64 c).toArray] w (RetV w (.bool true)) := by
  refine CE.enter 17 [(0, .agg (arrU .u8 64 c).toArray), (1, .agg (arrU .u8 64 c).toArray)] en_21 Try.func21 rfl rfl (Nat.le_of_ble_eq_true rfl) rfl ?_
  have st := St.start w
  refine Wc.seq ?_
  refine Wc.region rfl ?_
  refine Wl.boxA st rfl ?_
  clear st
  intro b2 w1 st
  refine Wl.boxA st rfl ?_
  clear st
  intro b3 w2 st
  refine Wl.pure (PR.assB rfl) ?_
  refine Wl.nil ?_
  refine tn ?_
  refine Wc.seq ?_
  refine Wc.seq ?_
  refine Wc.region rfl ?_
  refine Wl.pure (PR.assI rfl) ?_
  refine Wl.nil ?_
  refine tn ?_
  refine Wc.block ?_
  refine Wc.loopF (γ := Nat) (fun g => [(2, .pointer (some ⟨b2, 0, none⟩)), (3, .pointer (some ⟨b3, 0, none⟩)), (5, .int .i64 (((g : Nat) : Int)))]) (fun g w_ => St [] w w_ [(b3, arrU .u8 64 c, 33), (b2, arrU .u8 64 c, 33)] ∧ (g ≤ 64)) (fun g => 64 - g) ?_ ?_
  · exact ⟨0, (.cons rfl (.cons rfl (.cons rfl (.nil _)))), st, (by first | omega | (dsimp only; omega))⟩
  clear st
  rintro k w3 ⟨st, hk⟩
  try dsimp only at st hk ⊢
  refine Wc.seq ?_
  refine Wc.seq ?_
  refine Wc.region rfl ?_
  refine Wl.pure (PR.moveI rfl) ?_
  refine Wl.pure (PR.lss (a := ((k : Nat) : Int)) (b := 64) rfl rfl) ?_
  refine Wl.nil ?_
  refine tn ?_
  refine Wc.condD (p := ((k : Nat) : Int) < 64) rfl (fun h4 => ?_) (fun h4 => ?_)
  · refine Wc.skip ?_
    refine tn ?_
    refine Wc.seq ?_
    refine Wc.block ?_
    refine Wc.seq ?_
    refine Wc.quiet hmix (by kernel_rfl) rfl ?_
    refine Wq.pure (PR.moveI rfl) ?_
    refine Wq.pure (PR.idxAddrA1 (i := k) tE_33 rfl rfl (by omega)) ?_
    refine Wq.load (i := 1) st tA_5 rfl rfl (arrU_get0 (by omega)) ?_
    refine Wq.pure (PR.moveI rfl) ?_
    refine Wq.pure (PR.idxAddrA1 (i := k) tE_33 rfl rfl (by omega)) ?_
    refine Wq.load (i := 0) st tA_5 rfl rfl (arrU_get0 (by omega)) ?_
    refine Wq.pure (PR.neqS (a := ((c (k) : Nat) : Int)) rfl rfl) ?_
    refine Wq.nil (fun w5 hbel => ?_)
    replace st := st.call hbel
    clear hbel
    refine tn ?_
    refine Wc.condF rfl ?_
    refine Wc.skip ?_
    refine bn ?_
    refine tn ?_
    refine Wc.region rfl ?_
    refine Wl.pure (PR.moveI rfl) ?_
    refine Wl.pure (PR.add (a := ((k : Nat) : Int)) (b := 1) rfl rfl (by simp only [fitI]; omega)) ?_
    refine Wl.pure (PR.assI rfl) ?_
    refine Wl.nil ?_
    refine tn ?_
    exact ⟨k + 1, (.cons rfl (.cons rfl (.cons rfl (.nil _)))), ⟨st, (by first | omega | (dsimp only; omega))⟩, (by first | omega | (dsimp only; omega))⟩
  · refine Wc.exit ?_
    refine tx ?_
    refine tx ?_
    refine bh ?_
    refine tn ?_
    refine Wc.seq ?_
    refine Wc.region rfl ?_
    refine Wl.pure (PR.assB rfl) ?_
    refine Wl.nil ?_
    refine tn ?_
    refine Wc.ret ?_
    refine postL.tmp rfl rfl ?_
    exact RetV.of rfl st.below

set_option maxHeartbeats 400000 in
set_option maxRecDepth 4000 in
theorem c_impl_ShadesShown {p : Int} {c : Nat → Nat} {r : Int} {d : Nat → Nat} {w : World} (hp : -128 ≤ p ∧ p ≤ 127) (hc : ∀ k, c k < 256) (hr : -128 ≤ r ∧ r ≤ 127) (hd : ∀ k, d k < 256) :
    CE Try.prog 20 [.agg (layV (p) (c)).toArray, .agg (layV (r) (d)).toArray] w (RetV w (.tuple #[.agg (arrU .u8 64 (selF (shdC (codeP 2 (fun i => [p, r].getD i 0) (fun i => [c, d].getD i (fun _ => 0)) 8) c d) (fun k => pc (c k ||| d k) - 4))).toArray, .int .i64 ((((shdC (codeP 2 (fun i => [p, r].getD i 0) (fun i => [c, d].getD i (fun _ => 0)) 8) c d) : Nat) : Int))])) := by
  refine CE.enter 42 [(0, .agg (layV (p) (c)).toArray), (1, .agg (layV (r) (d)).toArray)] en_20 Try.func20 rfl rfl (Nat.le_of_ble_eq_true rfl) rfl ?_
  have st := St.start w
  refine Wc.seq ?_
  refine Wc.region rfl ?_
  refine Wl.boxA st rfl ?_
  clear st
  intro b2 w1 st
  refine Wl.boxA st rfl ?_
  clear st
  intro b3 w2 st
  refine Wl.alloc st tZ_33 rfl ?_
  clear st
  intro b4 w3 st
  refine Wl.pure (PR.assI rfl) ?_
  refine Wl.nil ?_
  refine tn ?_
  refine Wc.seq ?_
  refine Wc.seq ?_
  refine Wc.region rfl ?_
  refine Wl.loadA (i := 2) st tA_30 rfl rfl (all_sub layV_len) layV_len ?_
  refine Wl.loadA (i := 1) st tA_30 rfl rfl (all_sub layV_len) layV_len ?_
  refine Wl.buildSlice (ps := [(0, .agg (layV (p) (c)).toArray), (1, .agg (layV (r) (d)).toArray)]) (cs := layS 2 (fun z_ => [(p), (r)].getD z_ 0) (fun z_ => [c, d].getD z_ (fun _ => 0))) st tS_99 tZ_30 rfl rfl (lit_lays2 _ _ _ _ _) ?_
  clear st
  intro b12 w4 st
  refine Wl.callV (c_impl_partsCode (A := some ⟨b12, 0, none⟩) (n := 2) (cp := 2) (p := (fun z_ => [(p), (r)].getD z_ 0)) (c := (fun z_ => [c, d].getD z_ (fun _ => 0))) (q := 8) ((st.rdA (i := 0) (n := (2 * 65)) rfl (all_sub (recV_len (s := 65) (layS_row _ _) _))).sl) (lit_p2 hp hr) (lit_lt2 hc hd) (by first | assumption | omega)) rfl ?_
  intro w5 hbel
  replace st := st.call hbel
  clear hbel
  refine Wl.pure (PR.assI rfl) ?_
  refine Wl.nil ?_
  refine tn ?_
  refine Wc.seq ?_
  refine Wc.region rfl ?_
  refine Wl.pure (PR.moveI rfl) ?_
  refine Wl.pure (PR.neq (a := ((codeP 2 (fun z_ => [(p), (r)].getD z_ 0) (fun z_ => [c, d].getD z_ (fun _ => 0)) 8 : Nat) : Int)) (b := 0) rfl rfl) ?_
  refine Wl.nil ?_
  refine tn ?_
  refine Wc.condN (p := ((codeP 2 (fun z_ => [(p), (r)].getD z_ 0) (fun z_ => [c, d].getD z_ (fun _ => 0)) 8 : Nat) : Int) = 0) rfl (fun h6 => ?_) (fun h6 => ?_)
  · refine Wc.seq ?_
    refine Wc.region rfl ?_
    refine Wl.pure (PR.build (ps := []) (cs := arrU .u8 64 (fun _ => 0)) tB_33 rfl rfl) ?_
    refine Wl.pure (PR.moveI rfl) ?_
    refine Wl.storeA (i := 1) (cs' := arrU .u8 64 (fun _ => 0)) st tA_33 rfl rfl (arrU_len _) (arrU_one _) rfl (le_of_len (arrU_len _) (by omega)) (all_put (arrU_len _)) ?_
    clear st
    intro w7 st
    replace st : St [] w w7 [(b12, layS 2 (fun z_ => [(p), (r)].getD z_ 0) (fun z_ => [c, d].getD z_ (fun _ => 0)), 30), (b4, arrU .u8 64 (fun _ => 0), 33), (b3, layV (r) (d), 30), (b2, layV (p) (c), 30)] := st
    refine Wl.pure (PR.assI rfl) ?_
    refine Wl.nil ?_
    refine tn ?_
    refine Wc.ret ?_
    refine tr ?_
    refine postL.many (rvs := [.cell 4 33, .tmp 5]) rfl (.cell (us := arrU .u8 64 (fun _ => 0)) tA_33 rfl (arrU_len _) (st.rdA (i := 1) (n := 64) rfl (all_sub (arrU_len _))) (.tmp (v := .int .i64 (((codeP 2 (fun z_ => [(p), (r)].getD z_ 0) (fun z_ => [c, d].getD z_ (fun _ => 0)) 8 : Nat) : Int))) rfl .nil)) ?_
    refine RetV.of ?_ st.below
    exact shd_f (by omega)
  · refine Wc.skip ?_
    refine tn ?_
    refine Wc.seq ?_
    refine Wc.region rfl ?_
    refine Wl.pure (PR.build (ps := []) (cs := arrU .u8 64 (fun _ => 0)) tB_33 rfl rfl) ?_
    refine Wl.alloc st tZ_33 rfl ?_
    clear st
    intro b7 w8 st
    refine Wl.storeA (i := 0) (cs' := arrU .u8 64 (fun _ => 0)) st tA_33 rfl rfl (arrU_len _) (arrU_one _) rfl (le_of_len (arrU_len _) (by omega)) (all_put (arrU_len _)) ?_
    clear st
    intro w9 st
    replace st : St [] w w9 [(b7, arrU .u8 64 (fun _ => 0), 33), (b12, layS 2 (fun z_ => [(p), (r)].getD z_ 0) (fun z_ => [c, d].getD z_ (fun _ => 0)), 30), (b4, arrU .u8 64 (fun _ => 0), 33), (b3, layV (r) (d), 30), (b2, layV (p) (c), 30)] := st
    refine Wl.nil ?_
    refine tn ?_
    refine Wc.seq ?_
    refine Wc.seq ?_
    refine Wc.region rfl ?_
    refine Wl.pure (PR.moveI rfl) ?_
    refine Wl.nil ?_
    refine tn ?_
    refine Wc.block ?_
    refine Wc.loopF (γ := Nat × (Nat → Nat)) (fun g => [(2, .pointer (some ⟨b2, 0, none⟩)), (3, .pointer (some ⟨b3, 0, none⟩)), (4, .pointer (some ⟨b4, 0, none⟩)), (7, .pointer (some ⟨b7, 0, none⟩)), (19, .int .i64 (((g.1 : Nat) : Int)))]) (fun g w_ => St [] w w_ [(b7, arrU .u8 64 g.2, 33), (b12, layS 2 (fun z_ => [(p), (r)].getD z_ 0) (fun z_ => [c, d].getD z_ (fun _ => 0)), 30), (b4, arrU .u8 64 (fun _ => 0), 33), (b3, layV (r) (d), 30), (b2, layV (p) (c), 30)] ∧ (g.1 ≤ 64) ∧ (∀ j, j < g.1 → g.2 j = pc (c j ||| d j) - 4) ∧ (∀ j, j < g.1 → 4 ≤ pc (c j ||| d j))) (fun g => 64 - g.1) ?_ ?_
    · exact ⟨(0, (fun _ => 0)), (.cons rfl (.cons rfl (.cons rfl (.cons rfl (.cons rfl (.nil _)))))), st, (by first | omega | (dsimp only; omega)), (fun j hj => by omega), (fun j hj => by omega)⟩
    clear st
    rintro ⟨k, e⟩ w10 ⟨st, hk, hg, hq⟩
    try dsimp only at st hk hg hq ⊢
    refine Wc.seq ?_
    refine Wc.region rfl ?_
    refine Wl.pure (PR.lss (a := ((k : Nat) : Int)) (b := 64) rfl rfl) ?_
    refine Wl.nil ?_
    refine tn ?_
    refine Wc.seq ?_
    refine Wc.condD (p := ((k : Nat) : Int) < 64) rfl (fun h11 => ?_) (fun h11 => ?_)
    · refine Wc.skip ?_
      refine tn ?_
      refine Wc.seq ?_
      refine Wc.block ?_
      refine Wc.seq ?_
      refine Wc.region rfl ?_
      refine Wl.pure (PR.moveI rfl) ?_
      refine Wl.pure (PR.assI rfl) ?_
      refine Wl.nil ?_
      refine tn ?_
      refine Wc.seq ?_
      have h8 := pc_le8 (or_lt_u8 (hc k) (hd k))
      refine Wc.quiet hmix (by kernel_rfl) rfl ?_
      refine Wq.pure (PR.moveI rfl) ?_
      refine Wq.pure (PR.fieldAddr tF_30_1 rfl) ?_
      refine Wq.pure (PR.idxAddrA1 (i := k) tE_23 rfl rfl (by omega)) ?_
      refine Wq.load (i := 4) st tA_5 rfl rfl (layV_get_c (by omega)) ?_
      refine Wq.pure (PR.moveI rfl) ?_
      refine Wq.pure (PR.fieldAddr tF_30_1 rfl) ?_
      refine Wq.pure (PR.idxAddrA1 (i := k) tE_23 rfl rfl (by omega)) ?_
      refine Wq.load (i := 3) st tA_5 rfl rfl (layV_get_c (by omega)) ?_
      refine Wq.pure (PR.or (a := c (k)) (b := d (k)) rfl rfl (by decide) (hc (k)) (hd (k))) ?_
      refine Wq.callV (fun _ hbel => c_math_bits_OnesCount8 (x := ((c (k)) ||| (d (k)))) (or_lt_u8 (hc (k)) (hd (k)))) rfl ?_
      refine Wq.pure (PR.sub (a := ((pc ((c (k)) ||| (d (k))) : Nat) : Int)) (b := 4) rfl rfl (by simp only [fitI]; omega)) ?_
      refine Wq.pure (PR.assI rfl) ?_
      refine Wq.nil (fun w12 hbel => ?_)
      replace st := st.call hbel
      clear hbel
      refine tn ?_
      refine Wc.seq ?_
      refine Wc.seq ?_
      refine Wc.region rfl ?_
      refine Wl.pure (PR.moveI rfl) ?_
      refine Wl.pure (PR.lss (a := (((pc ((c (k)) ||| (d (k))) : Nat) : Int) - 4)) (b := 0) rfl rfl) ?_
      refine Wl.nil ?_
      refine tn ?_
      refine Wc.condD (p := (((pc ((c (k)) ||| (d (k))) : Nat) : Int) - 4) < 0) rfl (fun h13 => ?_) (fun h13 => ?_)
      · refine Wc.seq ?_
        refine Wc.region rfl ?_
        refine Wl.pure (PR.build (ps := []) (cs := arrU .u8 64 (fun _ => 0)) tB_33 rfl rfl) ?_
        refine Wl.storeA (i := 2) (cs' := arrU .u8 64 (fun _ => 0)) st tA_33 rfl rfl (arrU_len _) (arrU_one _) rfl (le_of_len (arrU_len _) (by omega)) (all_put (arrU_len _)) ?_
        clear st
        intro w14 st
        replace st : St [] w w14 [(b7, arrU .u8 64 e, 33), (b12, layS 2 (fun z_ => [(p), (r)].getD z_ 0) (fun z_ => [c, d].getD z_ (fun _ => 0)), 30), (b4, arrU .u8 64 (fun _ => 0), 33), (b3, layV (r) (d), 30), (b2, layV (p) (c), 30)] := st
        refine Wl.pure (PR.assI rfl) ?_
        refine Wl.nil ?_
        refine tn ?_
        refine Wc.ret ?_
        refine tr ?_
        refine br ?_
        refine tr ?_
        refine tr ?_
        refine br ?_
        refine tr ?_
        refine postL.many (rvs := [.cell 4 33, .tmp 5]) rfl (.cell (us := arrU .u8 64 (fun _ => 0)) tA_33 rfl (arrU_len _) (st.rdA (i := 2) (n := 64) rfl (all_sub (arrU_len _))) (.tmp (v := .int .i64 (8)) rfl .nil)) ?_
        refine RetV.of ?_ st.below
        exact shd_8 (k := k) (by omega) (by omega) (by omega)
      · refine Wc.skip ?_
        refine tn ?_
        rw [show ((((pc ((c (k)) ||| (d (k))) : Nat) : Int) - 4)) = ((pc (c k ||| d k) - 4 : Nat) : Int) by omega]
        refine Wc.region rfl ?_
        refine Wl.pure (PR.moveI rfl) ?_
        refine Wl.pure (PR.moveI rfl) ?_
        refine Wl.pure (PR.conv (n := (((pc (c k ||| d k) - 4) : Nat) : Int)) tI_5 rfl (by simp only [fitI]; omega) Try.underlying3) ?_
        refine Wl.pure (PR.idxAddrA1 (i := k) tE_33 rfl rfl (by omega)) ?_
        refine Wl.store (i := 0) (cs' := arrU .u8 64 (upd e (k) ((pc (c k ||| d k) - 4)))) st tA_5 rfl rfl rfl rfl (lt_of_len (arrU_len _) (by omega)) (arrU_set0) ?_
        clear st
        intro w15 st
        replace st : St [] w w15 [(b7, arrU .u8 64 (upd e (k) ((pc (c k ||| d k) - 4))), 33), (b12, layS 2 (fun z_ => [(p), (r)].getD z_ 0) (fun z_ => [c, d].getD z_ (fun _ => 0)), 30), (b4, arrU .u8 64 (fun _ => 0), 33), (b3, layV (r) (d), 30), (b2, layV (p) (c), 30)] := st
        refine Wl.nil ?_
        refine bn ?_
        refine tn ?_
        refine Wc.region rfl ?_
        refine Wl.pure (PR.add (a := ((k : Nat) : Int)) (b := 1) rfl rfl (by simp only [fitI]; omega)) ?_
        refine Wl.pure (PR.moveI rfl) ?_
        refine Wl.nil ?_
        refine tn ?_
        exact ⟨(k + 1, upd e (k) ((pc (c k ||| d k) - 4))), (.cons rfl (.cons rfl (.cons rfl (.cons rfl (.cons rfl (.nil _)))))), ⟨st, (by first | omega | (dsimp only; omega)), (upd_snoc hg rfl), (all_snoc hq (by omega))⟩, (by first | omega | (dsimp only; omega))⟩
    · refine Wc.exit ?_
      refine tx ?_
      refine tx ?_
      refine bh ?_
      refine tn ?_
      refine Wc.seq ?_
      refine Wc.region rfl ?_
      refine Wl.loadA (i := 0) st tA_33 rfl rfl (all_sub (arrU_len _)) (arrU_len _) ?_
      refine Wl.storeA (i := 2) (cs' := arrU .u8 64 e) st tA_33 rfl rfl (arrU_len _) (arrU_one _) rfl (le_of_len (arrU_len _) (by omega)) (all_put (arrU_len _)) ?_
      clear st
      intro w16 st
      replace st : St [] w w16 [(b7, arrU .u8 64 e, 33), (b12, layS 2 (fun z_ => [(p), (r)].getD z_ 0) (fun z_ => [c, d].getD z_ (fun _ => 0)), 30), (b4, arrU .u8 64 e, 33), (b3, layV (r) (d), 30), (b2, layV (p) (c), 30)] := st
      refine Wl.pure (PR.assI rfl) ?_
      refine Wl.nil ?_
      refine tn ?_
      refine Wc.ret ?_
      refine postL.many (rvs := [.cell 4 33, .tmp 5]) rfl (.cell (us := arrU .u8 64 e) tA_33 rfl (arrU_len _) (st.rdA (i := 2) (n := 64) rfl (all_sub (arrU_len _))) (.tmp (v := .int .i64 (0)) rfl .nil)) ?_
      refine RetV.of ?_ st.below
      exact shd_0 (by omega) (fun j hj => hq j (by omega)) (fun j hj => hg j (by omega))

set_option maxHeartbeats 400000 in
set_option maxRecDepth 4000 in
theorem c_spec_ShadesShown {p : Int} {c : Nat → Nat} {r : Int} {d : Nat → Nat} {w : World} (hp : -128 ≤ p ∧ p ≤ 127) (hc : ∀ k, c k < 256) (hr : -128 ≤ r ∧ r ≤ 127) (hd : ∀ k, d k < 256) :
    CE Try.prog 19 [.agg (layV (p) (c)).toArray, .agg (layV (r) (d)).toArray] w (RetV w (.tuple #[.agg (arrU .u8 64 (selF (shdC (codeP 2 (fun i => [p, r].getD i 0) (fun i => [c, d].getD i (fun _ => 0)) 8) c d) (fun k => pc (c k ||| d k) - 4))).toArray, .int .i64 ((((shdC (codeP 2 (fun i => [p, r].getD i 0) (fun i => [c, d].getD i (fun _ => 0)) 8) c d) : Nat) : Int))])) := by
  refine CE.enter 43 [(0, .agg (layV (p) (c)).toArray), (1, .agg (layV (r) (d)).toArray)] en_19 Try.func19 rfl rfl (Nat.le_of_ble_eq_true rfl) rfl ?_
  have st := St.start w
  refine Wc.seq ?_
  refine Wc.region rfl ?_
  refine Wl.boxA st rfl ?_
  clear st
  intro b2 w1 st
  refine Wl.boxA st rfl ?_
  clear st
  intro b3 w2 st
  refine Wl.alloc st tZ_33 rfl ?_
  clear st
  intro b4 w3 st
  refine Wl.pure (PR.assI rfl) ?_
  refine Wl.nil ?_
  refine tn ?_
  refine Wc.seq ?_
  refine Wc.seq ?_
  refine Wc.region rfl ?_
  refine Wl.loadA (i := 2) st tA_30 rfl rfl (all_sub layV_len) layV_len ?_
  refine Wl.loadA (i := 1) st tA_30 rfl rfl (all_sub layV_len) layV_len ?_
  refine Wl.buildSlice (ps := [(0, .agg (layV (p) (c)).toArray), (1, .agg (layV (r) (d)).toArray)]) (cs := layS 2 (fun z_ => [(p), (r)].getD z_ 0) (fun z_ => [c, d].getD z_ (fun _ => 0))) st tS_99 tZ_30 rfl rfl (lit_lays2 _ _ _ _ _) ?_
  clear st
  intro b12 w4 st
  refine Wl.callV (c_spec_l05With (A := some ⟨b12, 0, none⟩) (n := 2) (cp := 2) (p := (fun z_ => [(p), (r)].getD z_ 0)) (c := (fun z_ => [c, d].getD z_ (fun _ => 0))) (q := 8) ((st.rdA (i := 0) (n := (2 * 65)) rfl (all_sub (recV_len (s := 65) (layS_row _ _) _))).sl) (lit_p2 hp hr) (lit_lt2 hc hd) (by first | assumption | omega)) rfl ?_
  intro w5 hbel
  replace st := st.call hbel
  clear hbel
  refine Wl.pure (PR.assI rfl) ?_
  refine Wl.nil ?_
  refine tn ?_
  refine Wc.seq ?_
  refine Wc.region rfl ?_
  refine Wl.pure (PR.moveI rfl) ?_
  refine Wl.pure (PR.neq (a := ((codeP 2 (fun z_ => [(p), (r)].getD z_ 0) (fun z_ => [c, d].getD z_ (fun _ => 0)) 8 : Nat) : Int)) (b := 0) rfl rfl) ?_
  refine Wl.nil ?_
  refine tn ?_
  refine Wc.condN (p := ((codeP 2 (fun z_ => [(p), (r)].getD z_ 0) (fun z_ => [c, d].getD z_ (fun _ => 0)) 8 : Nat) : Int) = 0) rfl (fun h6 => ?_) (fun h6 => ?_)
  · refine Wc.seq ?_
    refine Wc.region rfl ?_
    refine Wl.pure (PR.build (ps := []) (cs := arrU .u8 64 (fun _ => 0)) tB_33 rfl rfl) ?_
    refine Wl.pure (PR.moveI rfl) ?_
    refine Wl.storeA (i := 1) (cs' := arrU .u8 64 (fun _ => 0)) st tA_33 rfl rfl (arrU_len _) (arrU_one _) rfl (le_of_len (arrU_len _) (by omega)) (all_put (arrU_len _)) ?_
    clear st
    intro w7 st
    replace st : St [] w w7 [(b12, layS 2 (fun z_ => [(p), (r)].getD z_ 0) (fun z_ => [c, d].getD z_ (fun _ => 0)), 30), (b4, arrU .u8 64 (fun _ => 0), 33), (b3, layV (r) (d), 30), (b2, layV (p) (c), 30)] := st
    refine Wl.pure (PR.assI rfl) ?_
    refine Wl.nil ?_
    refine tn ?_
    refine Wc.ret ?_
    refine tr ?_
    refine postL.many (rvs := [.cell 4 33, .tmp 5]) rfl (.cell (us := arrU .u8 64 (fun _ => 0)) tA_33 rfl (arrU_len _) (st.rdA (i := 1) (n := 64) rfl (all_sub (arrU_len _))) (.tmp (v := .int .i64 (((codeP 2 (fun z_ => [(p), (r)].getD z_ 0) (fun z_ => [c, d].getD z_ (fun _ => 0)) 8 : Nat) : Int))) rfl .nil)) ?_
    refine RetV.of ?_ st.below
    exact shd_f (by omega)
  · refine Wc.skip ?_
    refine tn ?_
    refine Wc.seq ?_
    refine Wc.region rfl ?_
    refine Wl.pure (PR.build (ps := []) (cs := arrU .u8 64 (fun _ => 0)) tB_33 rfl rfl) ?_
    refine Wl.alloc st tZ_33 rfl ?_
    clear st
    intro b7 w8 st
    refine Wl.storeA (i := 0) (cs' := arrU .u8 64 (fun _ => 0)) st tA_33 rfl rfl (arrU_len _) (arrU_one _) rfl (le_of_len (arrU_len _) (by omega)) (all_put (arrU_len _)) ?_
    clear st
    intro w9 st
    replace st : St [] w w9 [(b7, arrU .u8 64 (fun _ => 0), 33), (b12, layS 2 (fun z_ => [(p), (r)].getD z_ 0) (fun z_ => [c, d].getD z_ (fun _ => 0)), 30), (b4, arrU .u8 64 (fun _ => 0), 33), (b3, layV (r) (d), 30), (b2, layV (p) (c), 30)] := st
    refine Wl.nil ?_
    refine tn ?_
    refine Wc.seq ?_
    refine Wc.seq ?_
    refine Wc.region rfl ?_
    refine Wl.pure (PR.assI rfl) ?_
    refine Wl.nil ?_
    refine tn ?_
    refine Wc.block ?_
    refine Wc.loopF (γ := Nat × (Nat → Nat)) (fun g => [(2, .pointer (some ⟨b2, 0, none⟩)), (3, .pointer (some ⟨b3, 0, none⟩)), (4, .pointer (some ⟨b4, 0, none⟩)), (7, .pointer (some ⟨b7, 0, none⟩)), (8, .int .i64 (((g.1 : Nat) : Int)))]) (fun g w_ => St [] w w_ [(b7, arrU .u8 64 g.2, 33), (b12, layS 2 (fun z_ => [(p), (r)].getD z_ 0) (fun z_ => [c, d].getD z_ (fun _ => 0)), 30), (b4, arrU .u8 64 (fun _ => 0), 33), (b3, layV (r) (d), 30), (b2, layV (p) (c), 30)] ∧ (g.1 ≤ 64) ∧ (∀ j, j < g.1 → g.2 j = pc (c j ||| d j) - 4) ∧ (∀ j, j < g.1 → 4 ≤ pc (c j ||| d j))) (fun g => 64 - g.1) ?_ ?_
    · exact ⟨(0, (fun _ => 0)), (.cons rfl (.cons rfl (.cons rfl (.cons rfl (.cons rfl (.nil _)))))), st, (by first | omega | (dsimp only; omega)), (fun j hj => by omega), (fun j hj => by omega)⟩
    clear st
    rintro ⟨k, e⟩ w10 ⟨st, hk, hg, hq⟩
    try dsimp only at st hk hg hq ⊢
    refine Wc.seq ?_
    refine Wc.seq ?_
    refine Wc.region rfl ?_
    refine Wl.pure (PR.moveI rfl) ?_
    refine Wl.pure (PR.lss (a := ((k : Nat) : Int)) (b := 64) rfl rfl) ?_
    refine Wl.nil ?_
    refine tn ?_
    refine Wc.condD (p := ((k : Nat) : Int) < 64) rfl (fun h11 => ?_) (fun h11 => ?_)
    · refine Wc.skip ?_
      refine tn ?_
      refine Wc.seq ?_
      refine Wc.block ?_
      refine Wc.seq ?_
      have h8 := pc_le8 (or_lt_u8 (hc k) (hd k))
      refine Wc.quiet hmix (by kernel_rfl) rfl ?_
      refine Wq.pure (PR.moveI rfl) ?_
      refine Wq.pure (PR.fieldAddr tF_30_1 rfl) ?_
      refine Wq.pure (PR.idxAddrA1 (i := k) tE_23 rfl rfl (by omega)) ?_
      refine Wq.load (i := 4) st tA_5 rfl rfl (layV_get_c (by omega)) ?_
      refine Wq.pure (PR.moveI rfl) ?_
      refine Wq.pure (PR.fieldAddr tF_30_1 rfl) ?_
      refine Wq.pure (PR.idxAddrA1 (i := k) tE_23 rfl rfl (by omega)) ?_
      refine Wq.load (i := 3) st tA_5 rfl rfl (layV_get_c (by omega)) ?_
      refine Wq.pure (PR.or (a := c (k)) (b := d (k)) rfl rfl (by decide) (hc (k)) (hd (k))) ?_
      refine Wq.pure (PR.conv (n := ((((c (k)) ||| (d (k))) : Nat) : Int)) tI_26 rfl (fitN (or_lt_u8 (hc (k)) (hd (k))) rfl) Try.underlying5) ?_
      refine Wq.callV (fun _ hbel => c_spec_l01Count (x := ((c (k)) ||| (d (k)))) (Nat.lt_of_lt_of_le (or_lt_u8 (hc (k)) (hd (k))) (by decide))) rfl ?_
      refine Wq.pure (PR.sub (a := ((pc ((c (k)) ||| (d (k))) : Nat) : Int)) (b := 4) rfl rfl (by simp only [fitI]; omega)) ?_
      refine Wq.pure (PR.assI rfl) ?_
      refine Wq.nil (fun w12 hbel => ?_)
      replace st := st.call hbel
      clear hbel
      refine tn ?_
      refine Wc.seq ?_
      refine Wc.seq ?_
      refine Wc.region rfl ?_
      refine Wl.pure (PR.moveI rfl) ?_
      refine Wl.pure (PR.lss (a := (((pc ((c (k)) ||| (d (k))) : Nat) : Int) - 4)) (b := 0) rfl rfl) ?_
      refine Wl.nil ?_
      refine tn ?_
      refine Wc.condD (p := (((pc ((c (k)) ||| (d (k))) : Nat) : Int) - 4) < 0) rfl (fun h13 => ?_) (fun h13 => ?_)
      · refine Wc.seq ?_
        refine Wc.region rfl ?_
        refine Wl.pure (PR.build (ps := []) (cs := arrU .u8 64 (fun _ => 0)) tB_33 rfl rfl) ?_
        refine Wl.storeA (i := 2) (cs' := arrU .u8 64 (fun _ => 0)) st tA_33 rfl rfl (arrU_len _) (arrU_one _) rfl (le_of_len (arrU_len _) (by omega)) (all_put (arrU_len _)) ?_
        clear st
        intro w14 st
        replace st : St [] w w14 [(b7, arrU .u8 64 e, 33), (b12, layS 2 (fun z_ => [(p), (r)].getD z_ 0) (fun z_ => [c, d].getD z_ (fun _ => 0)), 30), (b4, arrU .u8 64 (fun _ => 0), 33), (b3, layV (r) (d), 30), (b2, layV (p) (c), 30)] := st
        refine Wl.pure (PR.assI rfl) ?_
        refine Wl.nil ?_
        refine tn ?_
        refine Wc.ret ?_
        refine tr ?_
        refine br ?_
        refine tr ?_
        refine tr ?_
        refine br ?_
        refine tr ?_
        refine postL.many (rvs := [.cell 4 33, .tmp 5]) rfl (.cell (us := arrU .u8 64 (fun _ => 0)) tA_33 rfl (arrU_len _) (st.rdA (i := 2) (n := 64) rfl (all_sub (arrU_len _))) (.tmp (v := .int .i64 (8)) rfl .nil)) ?_
        refine RetV.of ?_ st.below
        exact shd_8 (k := k) (by omega) (by omega) (by omega)
      · refine Wc.skip ?_
        refine tn ?_
        rw [show ((((pc ((c (k)) ||| (d (k))) : Nat) : Int) - 4)) = ((pc (c k ||| d k) - 4 : Nat) : Int) by omega]
        refine Wc.region rfl ?_
        refine Wl.pure (PR.moveI rfl) ?_
        refine Wl.pure (PR.moveI rfl) ?_
        refine Wl.pure (PR.conv (n := (((pc (c k ||| d k) - 4) : Nat) : Int)) tI_5 rfl (by simp only [fitI]; omega) Try.underlying2) ?_
        refine Wl.pure (PR.idxAddrA1 (i := k) tE_33 rfl rfl (by omega)) ?_
        refine Wl.store (i := 0) (cs' := arrU .u8 64 (upd e (k) ((pc (c k ||| d k) - 4)))) st tA_5 rfl rfl rfl rfl (lt_of_len (arrU_len _) (by omega)) (arrU_set0) ?_
        clear st
        intro w15 st
        replace st : St [] w w15 [(b7, arrU .u8 64 (upd e (k) ((pc (c k ||| d k) - 4))), 33), (b12, layS 2 (fun z_ => [(p), (r)].getD z_ 0) (fun z_ => [c, d].getD z_ (fun _ => 0)), 30), (b4, arrU .u8 64 (fun _ => 0), 33), (b3, layV (r) (d), 30), (b2, layV (p) (c), 30)] := st
        refine Wl.nil ?_
        refine bn ?_
        refine tn ?_
        refine Wc.region rfl ?_
        refine Wl.pure (PR.moveI rfl) ?_
        refine Wl.pure (PR.add (a := ((k : Nat) : Int)) (b := 1) rfl rfl (by simp only [fitI]; omega)) ?_
        refine Wl.pure (PR.assI rfl) ?_
        refine Wl.nil ?_
        refine tn ?_
        exact ⟨(k + 1, upd e (k) ((pc (c k ||| d k) - 4))), (.cons rfl (.cons rfl (.cons rfl (.cons rfl (.cons rfl (.nil _)))))), ⟨st, (by first | omega | (dsimp only; omega)), (upd_snoc hg rfl), (all_snoc hq (by omega))⟩, (by first | omega | (dsimp only; omega))⟩
    · refine Wc.exit ?_
      refine tx ?_
      refine tx ?_
      refine bh ?_
      refine tn ?_
      refine Wc.seq ?_
      refine Wc.region rfl ?_
      refine Wl.loadA (i := 0) st tA_33 rfl rfl (all_sub (arrU_len _)) (arrU_len _) ?_
      refine Wl.storeA (i := 2) (cs' := arrU .u8 64 e) st tA_33 rfl rfl (arrU_len _) (arrU_one _) rfl (le_of_len (arrU_len _) (by omega)) (all_put (arrU_len _)) ?_
      clear st
      intro w16 st
      replace st : St [] w w16 [(b7, arrU .u8 64 e, 33), (b12, layS 2 (fun z_ => [(p), (r)].getD z_ 0) (fun z_ => [c, d].getD z_ (fun _ => 0)), 30), (b4, arrU .u8 64 e, 33), (b3, layV (r) (d), 30), (b2, layV (p) (c), 30)] := st
      refine Wl.pure (PR.assI rfl) ?_
      refine Wl.nil ?_
      refine tn ?_
      refine Wc.ret ?_
      refine postL.many (rvs := [.cell 4 33, .tmp 5]) rfl (.cell (us := arrU .u8 64 e) tA_33 rfl (arrU_len _) (st.rdA (i := 2) (n := 64) rfl (all_sub (arrU_len _))) (.tmp (v := .int .i64 (0)) rfl .nil)) ?_
      refine RetV.of ?_ st.below
      exact shd_0 (by omega) (fun j hj => hq j (by omega)) (fun j hj => hg j (by omega))

end Go.Proofs.Ytajkjhjnbfcpfaa
