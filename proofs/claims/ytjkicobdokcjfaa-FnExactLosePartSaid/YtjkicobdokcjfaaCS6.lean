/-
  Contracts of functions, printed by a program of ours.
-/
import Derived.Test.YtjkicobdokcjfaaCS4
import Derived.Test.YtjkicobdokcjfaaKeep
namespace Go.Proofs.Ytjkicobdokcjfaa
open Go.RowKit
set_option linter.unusedVariables false
set_option linter.unusedSimpArgs false

set_option maxHeartbeats 400000 in
set_option maxRecDepth 4000 in
theorem c_impl_Scheme_keep {s : Int} {p : Int} {a : Nat → Nat} {b : Nat → Nat} {x : Nat} {w : World} (hp : 0 ≤ p ∧ p ≤ 8) (ha : ∀ k, a k < 256) (hb : ∀ k, b k < 256) (hx : x < 256) :
    CE Try.prog 40 [.agg (schV (s) (p) (a) (b)).toArray, .int .u8 (((x : Nat) : Int))] w (RetV w (.agg (schV (s) ((kpC x (p).toNat : Nat) : Int) ((fun k => kpV x (a k) (p).toNat)) ((fun k => kpV x (b k) (p).toNat))).toArray)) := by
  refine CE.enter 65 [(0, .agg (schV (s) (p) (a) (b)).toArray), (1, .int .u8 (((x : Nat) : Int)))] en_40 Try.func40 rfl rfl (Nat.le_of_ble_eq_true rfl) rfl ?_
  have st := St.start w
  refine Wc.seq ?_
  obtain ⟨m, rfl⟩ : ∃ m : Nat, p = ((m : Nat) : Int) := ⟨p.toNat, by omega⟩
  refine Wc.region rfl ?_
  refine Wl.boxA st rfl ?_
  clear st
  intro b2 w1 st
  refine Wl.alloc st tZ_34 rfl ?_
  clear st
  intro b4 w2 st
  refine Wl.nil ?_
  refine tn ?_
  refine Wc.seq ?_
  refine Wc.region rfl ?_
  refine Wl.pure (PR.fieldAddr tF_34_0 rfl) ?_
  refine Wl.load (i := 1) st tA_30 rfl rfl (rfl) ?_
  refine Wl.pure (PR.build (ps := [(0, .int .i8 (s))]) (cs := schV (s) (0) ((fun _ => 0)) ((fun _ => 0))) tB_34 rfl rfl) ?_
  refine Wl.alloc st tZ_34 rfl ?_
  clear st
  intro b5 w3 st
  refine Wl.storeA (i := 0) (cs' := schV (s) (0) ((fun _ => 0)) ((fun _ => 0))) st tA_34 rfl rfl schV_len schV_one rfl (le_of_len schV_len (by omega)) (all_put schV_len) ?_
  clear st
  intro w4 st
  replace st : St [] w w4 [(b5, schV (s) (0) ((fun _ => 0)) ((fun _ => 0)), 34), (b4, schV (0) (0) ((fun _ => 0)) ((fun _ => 0)), 34), (b2, schV (s) ((m : Nat) : Int) (a) (b), 34)] := st
  refine Wl.nil ?_
  refine tn ?_
  refine Wc.seq ?_
  refine Wc.seq ?_
  refine Wc.region rfl ?_
  refine Wl.pure (PR.fieldAddr tF_34_1 rfl) ?_
  refine Wl.load (i := 2) st tA_30 rfl rfl (rfl) ?_
  refine Wl.pure (PR.moveI rfl) ?_
  refine Wl.nil ?_
  refine tn ?_
  refine Wc.block ?_
  refine Wc.loopF (γ := Nat × Nat × (Nat → Nat) × (Nat → Nat)) (fun g => [(1, .int .u8 (((x : Nat) : Int))), (2, .pointer (some ⟨b2, 0, none⟩)), (4, .pointer (some ⟨b4, 0, none⟩)), (5, .pointer (some ⟨b5, 0, none⟩)), (12, .int .i8 (((m : Nat) : Int))), (13, .int .i8 (((g.1 : Nat) : Int)))]) (fun g w_ => St [] w w_ [(b5, schV (s) ((g.2.1 : Nat) : Int) (g.2.2.1) (g.2.2.2), 34), (b4, schV (0) (0) ((fun _ => 0)) ((fun _ => 0)), 34), (b2, schV (s) ((m : Nat) : Int) (a) (b), 34)] ∧ (g.1 ≤ m) ∧ (g.2.1 = kpC x g.1) ∧ (∀ k, g.2.2.1 k < 256) ∧ (∀ k, g.2.2.2 k < 256) ∧ (∀ r, r < 6 → g.2.2.1 r = kpV x (a r) g.1) ∧ (∀ r, r < 6 → g.2.2.2 r = kpV x (b r) g.1)) (fun g => m - g.1) ?_ ?_
  · exact ⟨(0, 0, (fun _ => 0), (fun _ => 0)), (.cons rfl (.cons rfl (.cons rfl (.cons rfl (.cons rfl (.cons rfl (.nil _))))))), st, (Nat.zero_le _), rfl, (fun _ => by show 0 < 256; decide), (fun _ => by show 0 < 256; decide), (fun _ _ => rfl), (fun _ _ => rfl)⟩
  clear st
  rintro ⟨i, j, A, B⟩ w5 ⟨st, hi, hj, hA, hB, qA, qB⟩
  try dsimp only at st hi hj hA hB qA qB ⊢
  have hji := kpC_le x i
  refine Wc.seq ?_
  refine Wc.region rfl ?_
  refine Wl.pure (PR.lss (a := ((i : Nat) : Int)) (b := ((m : Nat) : Int)) rfl rfl) ?_
  refine Wl.nil ?_
  refine tn ?_
  refine Wc.seq ?_
  refine Wc.condD (p := ((i : Nat) : Int) < ((m : Nat) : Int)) rfl (fun h6 => ?_) (fun h6 => ?_)
  · refine Wc.skip ?_
    refine tn ?_
    refine Wc.seq ?_
    refine Wc.block ?_
    refine Wc.seq ?_
    refine Wc.region rfl ?_
    refine Wl.pure (PR.moveI rfl) ?_
    refine Wl.pure (PR.assI rfl) ?_
    refine Wl.nil ?_
    refine tn ?_
    refine Wc.seq ?_
    refine Wc.seq ?_
    refine Wc.region rfl ?_
    refine Wl.pure (PR.moveI rfl) ?_
    refine Wl.pure (PR.moveI rfl) ?_
    refine Wl.pure (PR.shr (a := x) (n := i) rfl rfl (by decide) hx) ?_
    refine Wl.pure (PR.and (a := (x >>> i)) (b := 1) rfl rfl (by decide) (shr_lt hx) (by decide)) ?_
    refine Wl.pure (PR.eql (a := ((((x >>> i) &&& 1) : Nat) : Int)) (b := 0) rfl rfl) ?_
    refine Wl.nil ?_
    refine tn ?_
    refine Wc.condD (p := ((((x >>> i) &&& 1) : Nat) : Int) = 0) rfl (fun h7 => ?_) (fun h7 => ?_)
    · refine Wc.exit ?_
      refine tx ?_
      refine bh ?_
      refine tn ?_
      refine Wc.region rfl ?_
      refine Wl.pure (PR.add (a := ((i : Nat) : Int)) (b := 1) rfl rfl (by simp only [fitI]; omega)) ?_
      refine Wl.pure (PR.moveI rfl) ?_
      refine Wl.nil ?_
      refine tn ?_
      exact ⟨(i + 1, j, A, B), (.cons rfl (.cons rfl (.cons rfl (.cons rfl (.cons rfl (.cons rfl (.nil _))))))), ⟨st, (by first | omega | (dsimp only; omega)), (by first | exact kpC_t hj (by omega) | exact kpC_f hj (by omega)), (by first | exact mix_lt (nxR_lt hA i j) hA _ | exact hA), (by first | exact mix_lt (nxR_lt hB i j) hB _ | exact hB), (by first | exact keep_t qA hj (by omega) (by omega) | exact keep_f qA (by omega)), (by first | exact keep_t qB hj (by omega) (by omega) | exact keep_f qB (by omega))⟩, (by first | omega | (dsimp only; omega))⟩
    · refine Wc.skip ?_
      refine tn ?_
      refine Wc.seq ?_
      refine Wc.seq ?_
      refine Wc.region rfl ?_
      refine Wl.pure (PR.moveI rfl) ?_
      refine Wl.nil ?_
      refine tn ?_
      refine Wc.block ?_
      rw [mix_zero (nxR a A i j) A, mix_zero (nxR b B i j) B] at st
      refine Wc.loopF (γ := Nat) (fun g => [(1, .int .u8 (((x : Nat) : Int))), (2, .pointer (some ⟨b2, 0, none⟩)), (4, .pointer (some ⟨b4, 0, none⟩)), (5, .pointer (some ⟨b5, 0, none⟩)), (6, .int .i8 (((i : Nat) : Int))), (12, .int .i8 (((m : Nat) : Int))), (13, .int .i8 (((i : Nat) : Int))), (14, .bool (decide (((i : Nat) : Int) < ((m : Nat) : Int)))), (15, .int .i8 (((i : Nat) : Int))), (16, .int .u8 (((x : Nat) : Int))), (17, .int .i8 (((i : Nat) : Int))), (18, .int .u8 ((((x >>> i) : Nat) : Int))), (19, .int .u8 (((((x >>> i) &&& 1) : Nat) : Int))), (20, .bool (decide (((((x >>> i) &&& 1) : Nat) : Int) = 0))), (21, .int .i64 (((g : Nat) : Int)))]) (fun g w_ => St [] w w_ [(b5, schV (s) ((j : Nat) : Int) ((mixF (nxR a A i j) A g)) ((mixF (nxR b B i j) B g)), 34), (b4, schV (0) (0) ((fun _ => 0)) ((fun _ => 0)), 34), (b2, schV (s) ((m : Nat) : Int) (a) (b), 34)] ∧ (g ≤ 6)) (fun g => 6 - g) ?_ ?_
      · exact ⟨0, (.cons rfl (.cons rfl (.cons rfl (.cons rfl (.cons rfl (.cons rfl (.cons rfl (.cons rfl (.cons rfl (.cons rfl (.cons rfl (.cons rfl (.cons rfl (.cons rfl (.cons rfl (.nil _)))))))))))))))), st, (by omega)⟩
      clear st
      rintro k w8 ⟨st, hk⟩
      try dsimp only at st hk ⊢
      refine Wc.seq ?_
      refine Wc.region rfl ?_
      refine Wl.pure (PR.lss (a := ((k : Nat) : Int)) (b := 6) rfl rfl) ?_
      refine Wl.nil ?_
      refine tn ?_
      refine Wc.seq ?_
      refine Wc.condD (p := ((k : Nat) : Int) < 6) rfl (fun h9 => ?_) (fun h9 => ?_)
      · refine Wc.skip ?_
        refine tn ?_
        refine Wc.seq ?_
        refine Wc.block ?_
        refine Wc.seq ?_
        refine Wc.region rfl ?_
        refine Wl.pure (PR.moveI rfl) ?_
        refine Wl.pure (PR.assI rfl) ?_
        refine Wl.nil ?_
        refine tn ?_
        refine Wc.seq ?_
        refine Wc.quietTail 17 hmix (by kernel_rfl) rfl ?_
        refine Wq.pure (PR.moveI rfl) ?_
        refine Wq.pure (PR.fieldAddr tF_34_2 rfl) ?_
        refine Wq.pure (PR.idxAddrA1 (i := k) tE_31 rfl rfl (by omega)) ?_
        refine Wq.load (i := 0) st tA_5 rfl rfl (schV_get_a (by omega)) ?_
        refine Wq.pure (PR.moveI rfl) ?_
        refine Wq.pure (PR.fieldAddr tF_34_2 rfl) ?_
        refine Wq.pure (PR.idxAddrA1 (i := k) tE_31 rfl rfl (by omega)) ?_
        refine Wq.load (i := 2) st tA_5 rfl rfl (schV_get_a (by omega)) ?_
        refine Wq.pure (PR.moveI rfl) ?_
        refine Wq.pure (PR.shr (a := a (k)) (n := i) rfl rfl (by decide) (ha (k))) ?_
        refine Wq.pure (PR.and (a := ((a (k)) >>> i)) (b := 1) rfl rfl (by decide) (shr_lt (ha (k))) (by decide)) ?_
        refine Wq.pure (PR.fieldAddr tF_34_1 rfl) ?_
        refine Wq.load (i := 0) st tA_30 rfl rfl (rfl) ?_
        refine Wq.pure (PR.shl (a := (((a (k)) >>> i) &&& 1)) (n := j) rfl rfl (by decide)) ?_
        refine Wq.pure (PR.or (a := (mixF (nxR a A i j) A k) (k)) (b := (((((a (k)) >>> i) &&& 1) <<< j) % 256)) rfl rfl (by decide) ((mix_lt (nxR_lt hA i j) hA k) (k)) (Nat.mod_lt _ (by decide))) ?_
        refine Wq.pure (PR.fieldAddr tF_34_2 rfl) ?_
        refine Wq.pure (PR.idxAddrA1 (i := k) tE_31 rfl rfl (by omega)) ?_
        refine Wq.nil (fun w10 hbel => ?_)
        replace st := st.call hbel
        clear hbel
        refine Wl.store (i := 0) (cs' := schV (s) ((j : Nat) : Int) (upd (mixF (nxR a A i j) A k) (k) ((((mixF (nxR a A i j) A k) (k)) ||| (((((a (k)) >>> i) &&& 1) <<< j) % 256)))) ((mixF (nxR b B i j) B k))) st tA_5 rfl rfl rfl rfl (lt_of_len schV_len (by omega)) (schV_set_a (by omega)) ?_
        clear st
        intro w11 st
        replace st : St [] w w11 [(b5, schV (s) ((j : Nat) : Int) (upd (mixF (nxR a A i j) A k) (k) ((((mixF (nxR a A i j) A k) (k)) ||| (((((a (k)) >>> i) &&& 1) <<< j) % 256)))) ((mixF (nxR b B i j) B k)), 34), (b4, schV (0) (0) ((fun _ => 0)) ((fun _ => 0)), 34), (b2, schV (s) ((m : Nat) : Int) (a) (b), 34)] := st
        refine Wl.nil ?_
        refine tn ?_
        refine Wc.quietTail 17 hmix (by kernel_rfl) rfl ?_
        refine Wq.pure (PR.moveI rfl) ?_
        refine Wq.pure (PR.fieldAddr tF_34_3 rfl) ?_
        refine Wq.pure (PR.idxAddrA1 (i := k) tE_31 rfl rfl (by omega)) ?_
        refine Wq.load (i := 0) st tA_5 rfl rfl (schV_get_b (by omega)) ?_
        refine Wq.pure (PR.moveI rfl) ?_
        refine Wq.pure (PR.fieldAddr tF_34_3 rfl) ?_
        refine Wq.pure (PR.idxAddrA1 (i := k) tE_31 rfl rfl (by omega)) ?_
        refine Wq.load (i := 2) st tA_5 rfl rfl (schV_get_b (by omega)) ?_
        refine Wq.pure (PR.moveI rfl) ?_
        refine Wq.pure (PR.shr (a := b (k)) (n := i) rfl rfl (by decide) (hb (k))) ?_
        refine Wq.pure (PR.and (a := ((b (k)) >>> i)) (b := 1) rfl rfl (by decide) (shr_lt (hb (k))) (by decide)) ?_
        refine Wq.pure (PR.fieldAddr tF_34_1 rfl) ?_
        refine Wq.load (i := 0) st tA_30 rfl rfl (rfl) ?_
        refine Wq.pure (PR.shl (a := (((b (k)) >>> i) &&& 1)) (n := j) rfl rfl (by decide)) ?_
        refine Wq.pure (PR.or (a := (mixF (nxR b B i j) B k) (k)) (b := (((((b (k)) >>> i) &&& 1) <<< j) % 256)) rfl rfl (by decide) ((mix_lt (nxR_lt hB i j) hB k) (k)) (Nat.mod_lt _ (by decide))) ?_
        refine Wq.pure (PR.fieldAddr tF_34_3 rfl) ?_
        refine Wq.pure (PR.idxAddrA1 (i := k) tE_31 rfl rfl (by omega)) ?_
        refine Wq.nil (fun w12 hbel => ?_)
        replace st := st.call hbel
        clear hbel
        refine Wl.store (i := 0) (cs' := schV (s) ((j : Nat) : Int) (upd (mixF (nxR a A i j) A k) (k) ((((mixF (nxR a A i j) A k) (k)) ||| (((((a (k)) >>> i) &&& 1) <<< j) % 256)))) (upd (mixF (nxR b B i j) B k) (k) ((((mixF (nxR b B i j) B k) (k)) ||| (((((b (k)) >>> i) &&& 1) <<< j) % 256))))) st tA_5 rfl rfl rfl rfl (lt_of_len schV_len (by omega)) (schV_set_b) ?_
        clear st
        intro w13 st
        replace st : St [] w w13 [(b5, schV (s) ((j : Nat) : Int) (upd (mixF (nxR a A i j) A k) (k) ((((mixF (nxR a A i j) A k) (k)) ||| (((((a (k)) >>> i) &&& 1) <<< j) % 256)))) (upd (mixF (nxR b B i j) B k) (k) ((((mixF (nxR b B i j) B k) (k)) ||| (((((b (k)) >>> i) &&& 1) <<< j) % 256)))), 34), (b4, schV (0) (0) ((fun _ => 0)) ((fun _ => 0)), 34), (b2, schV (s) ((m : Nat) : Int) (a) (b), 34)] := st
        refine Wl.nil ?_
        refine bn ?_
        refine tn ?_
        refine Wc.region rfl ?_
        refine Wl.pure (PR.add (a := ((k : Nat) : Int)) (b := 1) rfl rfl (by simp only [fitI]; omega)) ?_
        refine Wl.pure (PR.moveI rfl) ?_
        refine Wl.nil ?_
        refine tn ?_
        rw [keep_upd, keep_upd] at st
        exact ⟨k + 1, (.cons rfl (.cons rfl (.cons rfl (.cons rfl (.cons rfl (.cons rfl (.cons rfl (.cons rfl (.cons rfl (.cons rfl (.cons rfl (.cons rfl (.cons rfl (.cons rfl (.cons rfl (.nil _)))))))))))))))), ⟨st, (by first | omega | (dsimp only; omega))⟩, (by first | omega | (dsimp only; omega))⟩
      · refine Wc.exit ?_
        refine tx ?_
        refine tx ?_
        refine bh ?_
        refine tn ?_
        have hji := kpC_le x i
        refine Wc.region rfl ?_
        refine Wl.pure (PR.fieldAddr tF_34_1 rfl) ?_
        refine Wl.load (i := 0) st tA_30 rfl rfl (rfl) ?_
        refine Wl.pure (PR.add (a := ((j : Nat) : Int)) (b := 1) rfl rfl (by simp only [fitI]; omega)) ?_
        refine Wl.pure (PR.fieldAddr tF_34_1 rfl) ?_
        refine Wl.store (i := 0) (cs' := schV (s) (((j + 1) : Nat) : Int) ((mixF (nxR a A i j) A k)) ((mixF (nxR b B i j) B k))) st tA_30 rfl rfl rfl rfl (lt_of_len schV_len (by omega)) (rfl) ?_
        clear st
        intro w14 st
        replace st : St [] w w14 [(b5, schV (s) (((j + 1) : Nat) : Int) ((mixF (nxR a A i j) A k)) ((mixF (nxR b B i j) B k)), 34), (b4, schV (0) (0) ((fun _ => 0)) ((fun _ => 0)), 34), (b2, schV (s) ((m : Nat) : Int) (a) (b), 34)] := st
        refine Wl.nil ?_
        refine bn ?_
        refine tn ?_
        refine Wc.region rfl ?_
        refine Wl.pure (PR.add (a := ((i : Nat) : Int)) (b := 1) rfl rfl (by simp only [fitI]; omega)) ?_
        refine Wl.pure (PR.moveI rfl) ?_
        refine Wl.nil ?_
        refine tn ?_
        exact ⟨(i + 1, (j + 1), (mixF (nxR a A i j) A k), (mixF (nxR b B i j) B k)), (.cons rfl (.cons rfl (.cons rfl (.cons rfl (.cons rfl (.cons rfl (.nil _))))))), ⟨st, (by first | omega | (dsimp only; omega)), (by first | exact kpC_t hj (by omega) | exact kpC_f hj (by omega)), (by first | exact mix_lt (nxR_lt hA i j) hA _ | exact hA), (by first | exact mix_lt (nxR_lt hB i j) hB _ | exact hB), (by first | exact keep_t qA hj (by omega) (by omega) | exact keep_f qA (by omega)), (by first | exact keep_t qB hj (by omega) (by omega) | exact keep_f qB (by omega))⟩, (by first | omega | (dsimp only; omega))⟩
  · refine Wc.exit ?_
    refine tx ?_
    refine tx ?_
    refine bh ?_
    refine tn ?_
    refine Wc.seq ?_
    refine Wc.region rfl ?_
    refine Wl.loadA (i := 0) st tA_34 rfl rfl (all_sub schV_len) schV_len ?_
    refine Wl.storeA (i := 1) (cs' := schV (s) ((j : Nat) : Int) (A) (B)) st tA_34 rfl rfl schV_len schV_one rfl (le_of_len schV_len (by omega)) (all_put schV_len) ?_
    clear st
    intro w15 st
    replace st : St [] w w15 [(b5, schV (s) ((j : Nat) : Int) (A) (B), 34), (b4, schV (s) ((j : Nat) : Int) (A) (B), 34), (b2, schV (s) ((m : Nat) : Int) (a) (b), 34)] := st
    refine Wl.nil ?_
    refine tn ?_
    refine Wc.ret ?_
    refine postL.cell (i := 1) st rfl tA_34 rfl rfl schV_len ?_
    refine RetV.of ?_ st.below
    obtain rfl : i = m := by omega
    subst hj
    exact congrArg (fun l : List Value => Value.agg l.toArray) (schV_congr rfl rfl qA qB)

set_option maxHeartbeats 400000 in
set_option maxRecDepth 4000 in
theorem c_spec_l06Lose {v : Nat} {q : Nat} {w : World} (hv : v < 256) (hq : q ≤ 8) :
    CE Try.prog 35 [.int .u8 (((v : Nat) : Int)), .int .i64 (((q : Nat) : Int))] w (RetV w (.int .u8 ((((lsB q v) : Nat) : Int)))) := by
  refine CE.enter 22 [(0, .int .u8 (((v : Nat) : Int))), (1, .int .i64 (((q : Nat) : Int)))] en_35 Try.func35 rfl rfl (Nat.le_of_ble_eq_true rfl) rfl ?_
  have st := St.start w
  refine Wc.seq ?_
  refine Wc.region rfl ?_
  refine Wl.pure (PR.assI rfl) ?_
  refine Wl.nil ?_
  refine tn ?_
  refine Wc.seq ?_
  refine Wc.region rfl ?_
  refine Wl.pure (PR.moveI rfl) ?_
  refine Wl.pure (PR.moveI rfl) ?_
  refine Wl.pure (PR.conv (n := ((q : Nat) : Int)) tI_68 rfl (by simp only [fitI]; omega) Try.underlying2) ?_
  refine Wl.pure (PR.shl (a := 1) (n := q) rfl rfl (by decide)) ?_
  refine Wl.pure (PR.subU (a := ((1 <<< q) % 256)) (b := 1) rfl rfl (by decide) (by decide)) ?_
  refine Wl.pure (PR.and (a := v) (b := ((((1 <<< q) % 256) + (256 - 1)) % 256)) rfl rfl (by decide) hv (Nat.mod_lt _ (by decide))) ?_
  refine Wl.pure (PR.assI rfl) ?_
  refine Wl.nil ?_
  refine tn ?_
  refine Wc.seq ?_
  refine Wc.region rfl ?_
  refine Wl.pure (PR.moveI rfl) ?_
  refine Wl.pure (PR.moveI rfl) ?_
  refine Wl.pure (PR.moveI rfl) ?_
  refine Wl.pure (PR.add (a := ((q : Nat) : Int)) (b := 1) rfl rfl (by simp only [fitI]; omega)) ?_
  refine Wl.pure (PR.conv (n := (((q + 1) : Nat) : Int)) tI_68 rfl (by simp only [fitI]; omega) Try.underlying2) ?_
  refine Wl.pure (PR.shr (a := v) (n := (q + 1)) rfl rfl (by decide) hv) ?_
  refine Wl.pure (PR.moveI rfl) ?_
  refine Wl.pure (PR.conv (n := ((q : Nat) : Int)) tI_68 rfl (by simp only [fitI]; omega) Try.underlying2) ?_
  refine Wl.pure (PR.shl (a := (v >>> (q + 1))) (n := q) rfl rfl (by decide)) ?_
  refine Wl.pure (PR.or (a := (v &&& ((((1 <<< q) % 256) + (256 - 1)) % 256))) (b := (((v >>> (q + 1)) <<< q) % 256)) rfl rfl (by decide) (and_lt_l hv) (Nat.mod_lt _ (by decide))) ?_
  refine Wl.pure (PR.assI rfl) ?_
  refine Wl.nil ?_
  refine tn ?_
  refine Wc.ret ?_
  refine postL.tmp rfl rfl ?_
  refine RetV.of ?_ st.below
  refine congrArg (Value.int .u8) ?_
  first | rfl | omega | simp_all

set_option maxHeartbeats 400000 in
set_option maxRecDepth 4000 in
theorem c_impl_LosePart {s : Int} {p : Int} {a : Nat → Nat} {b : Nat → Nat} {q : Int} {w : World} (hs : -128 ≤ s ∧ s ≤ 127) (hp : -128 ≤ p ∧ p ≤ 127) (ha : ∀ k, a k < 256) (hb : ∀ k, b k < 256) :
    CE Try.prog 15 [.agg (schV (s) (p) (a) (b)).toArray, .int .i64 (q)] w (RetV w (.tuple #[.agg (schV (selI (lsC s p a b q) s) (selI (lsC s p a b q) (p - 1)) ((selF (lsC s p a b q) fun k => lsB (q).toNat (a k))) ((selF (lsC s p a b q) fun k => lsB (q).toNat (b k)))).toArray, .int .i64 ((((lsC s p a b q) : Nat) : Int))])) := by
  refine CE.enter 37 [(0, .agg (schV (s) (p) (a) (b)).toArray), (1, .int .i64 (q))] en_15 Try.func15 rfl rfl (Nat.le_of_ble_eq_true rfl) rfl ?_
  have st := St.start w
  refine Wc.seq ?_
  refine Wc.region rfl ?_
  refine Wl.boxA st rfl ?_
  clear st
  intro b2 w1 st
  refine Wl.alloc st tZ_34 rfl ?_
  clear st
  intro b4 w2 st
  refine Wl.pure (PR.assI rfl) ?_
  refine Wl.nil ?_
  refine tn ?_
  refine Wc.seq ?_
  refine Wc.seq ?_
  refine Wc.quietTail 16 hmix (by kernel_rfl) rfl ?_
  refine Wq.loadA (i := 1) st tA_34 rfl rfl (all_sub schV_len) schV_len ?_
  refine Wq.callV (fun _ hbel => c_impl_ValidScheme (s := s) (p := p) (a := a) (b := b) (by first | assumption | omega) (by first | assumption | omega) ha hb) rfl ?_
  refine Wq.pure (PR.not_ rfl) ?_
  refine Wq.pure (PR.build (ps := [(0, .bool (!(schOk s p a b))), (1, .int .i64 (1))]) (cs := [.bool (!(schOk s p a b)), .int .i64 (1)]) tB_64 rfl rfl) ?_
  refine Wq.pure (PR.moveI rfl) ?_
  refine Wq.pure (PR.fieldAddr tF_34_1 rfl) ?_
  refine Wq.load (i := 1) st tA_30 rfl rfl (rfl) ?_
  refine Wq.pure (PR.conv (n := p) tI_2 rfl (by simp only [fitI]; omega) Try.underlying30) ?_
  refine Wq.pure (PR.sub (a := p) (b := 1) rfl rfl (by simp only [fitI]; omega)) ?_
  refine Wq.callV (fun _ hbel => c_impl_within (n := q) (lo := 0) (hi := (p - 1))) rfl ?_
  refine Wq.pure (PR.not_ rfl) ?_
  refine Wq.pure (PR.build (ps := [(0, .bool (!decide (0 ≤ q ∧ q ≤ (p - 1)))), (1, .int .i64 (2))]) (cs := [.bool (!decide (0 ≤ q ∧ q ≤ (p - 1))), .int .i64 (2)]) tB_64 rfl rfl) ?_
  refine Wq.pure (PR.fieldAddr tF_34_1 rfl) ?_
  refine Wq.load (i := 1) st tA_30 rfl rfl (rfl) ?_
  refine Wq.pure (PR.eql (a := p) (b := 1) rfl rfl) ?_
  refine Wq.pure (PR.build (ps := [(0, .bool (decide (p = 1))), (1, .int .i64 (4))]) (cs := [.bool (decide (p = 1)), .int .i64 (4)]) tB_64 rfl rfl) ?_
  refine Wq.nil (fun w3 hbel => ?_)
  replace st := st.call hbel
  clear hbel
  refine Wl.buildSlice (ps := [(0, .agg ([.bool (!(schOk s p a b)), .int .i64 (1)]).toArray), (1, .agg ([.bool (!decide (0 ≤ q ∧ q ≤ (p - 1))), .int .i64 (2)]).toArray), (2, .agg ([.bool (decide (p = 1)), .int .i64 (4)]).toArray)]) (cs := [.bool (!(schOk s p a b)), .int .i64 (1), .bool (!decide (0 ≤ q ∧ q ≤ (p - 1))), .int .i64 (2), .bool (decide (p = 1)), .int .i64 (4)]) st tS_79 tZ_64 rfl rfl rfl ?_
  clear st
  intro b23 w4 st
  refine Wl.callV (c_impl_firstOf (bk := b23) (o := 0) (n := 3) (cp := 3) (c := (fun i => [(!(schOk s p a b)), (!decide (0 ≤ q ∧ q ≤ (p - 1))), (decide (p = 1))].getD i false)) (e := (fun i => [1, 2, 4].getD i 0)) (st.rdA (i := 0) (n := 6) rfl rfl) (by first | assumption | omega)) rfl ?_
  intro w5 hbel
  replace st := st.call hbel
  clear hbel
  refine Wl.pure (PR.assI rfl) ?_
  refine Wl.nil ?_
  refine tn ?_
  refine Wc.seq ?_
  have hq := first_lose (s := s) (p := p) (q := q) (a := a) (b := b)
  refine Wc.region rfl ?_
  refine Wl.pure (PR.moveI rfl) ?_
  refine Wl.pure (PR.neq (a := firstZ 3 (fun i => [(!(schOk s p a b)), (!decide (0 ≤ q ∧ q ≤ (p - 1))), (decide (p = 1))].getD i false) (fun i => [1, 2, 4].getD i 0)) (b := 0) rfl rfl) ?_
  refine Wl.nil ?_
  refine tn ?_
  refine Wc.condN (p := firstZ 3 (fun i => [(!(schOk s p a b)), (!decide (0 ≤ q ∧ q ≤ (p - 1))), (decide (p = 1))].getD i false) (fun i => [1, 2, 4].getD i 0) = 0) rfl (fun h6 => ?_) (fun h6 => ?_)
  · refine Wc.seq ?_
    refine Wc.region rfl ?_
    refine Wl.pure (PR.build (ps := []) (cs := schV (0) (0) ((fun _ => 0)) ((fun _ => 0))) tB_34 rfl rfl) ?_
    refine Wl.pure (PR.moveI rfl) ?_
    refine Wl.storeA (i := 1) (cs' := schV (0) (0) ((fun _ => 0)) ((fun _ => 0))) st tA_34 rfl rfl schV_len schV_one rfl (le_of_len schV_len (by omega)) (all_put schV_len) ?_
    clear st
    intro w7 st
    replace st : St [] w w7 [(b23, [.bool (!(schOk s p a b)), .int .i64 (1), .bool (!decide (0 ≤ q ∧ q ≤ (p - 1))), .int .i64 (2), .bool (decide (p = 1)), .int .i64 (4)], 64), (b4, schV (0) (0) ((fun _ => 0)) ((fun _ => 0)), 34), (b2, schV (s) (p) (a) (b), 34)] := st
    refine Wl.pure (PR.assI rfl) ?_
    refine Wl.nil ?_
    refine tn ?_
    refine Wc.ret ?_
    refine tr ?_
    refine postL.many (rvs := [.cell 4 34, .tmp 5]) rfl (.cell (us := schV (0) (0) ((fun _ => 0)) ((fun _ => 0))) tA_34 rfl schV_len (st.rdA (i := 1) (n := 14) rfl (all_sub schV_len)) (.tmp (v := .int .i64 (firstZ 3 (fun i => [(!(schOk s p a b)), (!decide (0 ≤ q ∧ q ≤ (p - 1))), (decide (p = 1))].getD i false) (fun i => [1, 2, 4].getD i 0))) rfl .nil)) ?_
    refine RetV.of ?_ st.below
    exact ls_f (by omega) hq
  · refine Wc.skip ?_
    refine tn ?_
    refine Wc.seq ?_
    obtain ⟨hok, hq2, hq3⟩ := lsC_spec (s := s) (p := p) (q := q) (a := a) (b := b) (by omega)
    obtain ⟨_, hp1, _⟩ := schOk_spec hok
    obtain ⟨m, rfl⟩ : ∃ m : Nat, p = ((m : Nat) : Int) := ⟨p.toNat, by omega⟩
    obtain ⟨r, rfl⟩ : ∃ r : Nat, q = ((r : Nat) : Int) := ⟨q.toNat, by omega⟩
    refine Wc.quietTail 8 hmix (by kernel_rfl) rfl ?_
    refine Wq.loadA (i := 2) st tA_34 rfl rfl (all_sub schV_len) schV_len ?_
    refine Wq.pure (PR.fieldAddr tF_34_1 rfl) ?_
    refine Wq.load (i := 2) st tA_30 rfl rfl (rfl) ?_
    refine Wq.callV (fun _ hbel => c_impl_mask (p := m) (by first | assumption | omega)) rfl ?_
    refine Wq.pure (PR.moveI rfl) ?_
    refine Wq.pure (PR.shl (a := 1) (n := r) rfl rfl (by decide)) ?_
    refine Wq.pure (PR.andNot (a := (2 ^ m - 1)) (b := ((1 <<< r) % 256)) rfl rfl (by decide) (mask_lt (p := m) (by omega)) (Nat.mod_lt _ (by decide))) ?_
    refine Wq.callV (fun _ hbel => c_impl_Scheme_keep (s := s) (p := ((m : Nat) : Int)) (a := a) (b := b) (x := (bdiff (2 ^ m - 1) ((1 <<< r) % 256))) (by first | assumption | omega) ha hb (bdiff_lt (mask_lt (p := m) (by omega)))) rfl ?_
    refine Wq.nil (fun w8 hbel => ?_)
    replace st := st.call hbel
    clear hbel
    refine Wl.storeA (i := 1) (cs' := schV (s) ((kpC (bdiff (2 ^ m - 1) ((1 <<< r) % 256)) (((m : Nat) : Int)).toNat : Nat) : Int) ((fun k => kpV (bdiff (2 ^ m - 1) ((1 <<< r) % 256)) (a k) (((m : Nat) : Int)).toNat)) ((fun k => kpV (bdiff (2 ^ m - 1) ((1 <<< r) % 256)) (b k) (((m : Nat) : Int)).toNat))) st tA_34 rfl rfl schV_len schV_one rfl (le_of_len schV_len (by omega)) (all_put schV_len) ?_
    clear st
    intro w9 st
    replace st : St [] w w9 [(b23, [.bool (!(schOk s ((m : Nat) : Int) a b)), .int .i64 (1), .bool (!decide (0 ≤ ((r : Nat) : Int) ∧ ((r : Nat) : Int) ≤ (((m : Nat) : Int) - 1))), .int .i64 (2), .bool (decide (((m : Nat) : Int) = 1)), .int .i64 (4)], 64), (b4, schV (s) ((kpC (bdiff (2 ^ m - 1) ((1 <<< r) % 256)) (((m : Nat) : Int)).toNat : Nat) : Int) ((fun k => kpV (bdiff (2 ^ m - 1) ((1 <<< r) % 256)) (a k) (((m : Nat) : Int)).toNat)) ((fun k => kpV (bdiff (2 ^ m - 1) ((1 <<< r) % 256)) (b k) (((m : Nat) : Int)).toNat)), 34), (b2, schV (s) ((m : Nat) : Int) (a) (b), 34)] := st
    refine Wl.pure (PR.assI rfl) ?_
    refine Wl.nil ?_
    refine tn ?_
    refine Wc.ret ?_
    refine postL.many (rvs := [.cell 4 34, .tmp 5]) rfl (.cell (us := schV (s) ((kpC (bdiff (2 ^ m - 1) ((1 <<< r) % 256)) (((m : Nat) : Int)).toNat : Nat) : Int) ((fun k => kpV (bdiff (2 ^ m - 1) ((1 <<< r) % 256)) (a k) (((m : Nat) : Int)).toNat)) ((fun k => kpV (bdiff (2 ^ m - 1) ((1 <<< r) % 256)) (b k) (((m : Nat) : Int)).toNat))) tA_34 rfl schV_len (st.rdA (i := 1) (n := 14) rfl (all_sub schV_len)) (.tmp (v := .int .i64 (0)) rfl .nil)) ?_
    refine RetV.of ?_ st.below
    exact ls_impl (by omega)

set_option maxHeartbeats 400000 in
set_option maxRecDepth 4000 in
theorem c_spec_LosePart {s : Int} {p : Int} {a : Nat → Nat} {b : Nat → Nat} {q : Int} {w : World} (hs : -128 ≤ s ∧ s ≤ 127) (hp : -128 ≤ p ∧ p ≤ 127) (ha : ∀ k, a k < 256) (hb : ∀ k, b k < 256) :
    CE Try.prog 13 [.agg (schV (s) (p) (a) (b)).toArray, .int .i64 (q)] w (RetV w (.tuple #[.agg (schV (selI (lsC s p a b q) s) (selI (lsC s p a b q) (p - 1)) ((selF (lsC s p a b q) fun k => lsB (q).toNat (a k))) ((selF (lsC s p a b q) fun k => lsB (q).toNat (b k)))).toArray, .int .i64 ((((lsC s p a b q) : Nat) : Int))])) := by
  refine CE.enter 49 [(0, .agg (schV (s) (p) (a) (b)).toArray), (1, .int .i64 (q))] en_13 Try.func13 rfl rfl (Nat.le_of_ble_eq_true rfl) rfl ?_
  have st := St.start w
  refine Wc.seq ?_
  refine Wc.region rfl ?_
  refine Wl.boxA st rfl ?_
  clear st
  intro b2 w1 st
  refine Wl.alloc st tZ_34 rfl ?_
  clear st
  intro b4 w2 st
  refine Wl.pure (PR.assI rfl) ?_
  refine Wl.nil ?_
  refine tn ?_
  refine Wc.seq ?_
  refine Wc.seq ?_
  refine Wc.region rfl ?_
  refine Wl.callV (c_spec_l02Ok (bk := b2) (o := 0) (s := s) (p := p) (a := a) (b := b) (st.rdA (i := 1) rfl (all_sub schV_len)) (by first | assumption | omega) (by first | assumption | omega) ha hb) rfl ?_
  intro w3 hbel
  replace st := st.call hbel
  clear hbel
  refine Wl.pure (PR.not_ rfl) ?_
  refine Wl.nil ?_
  refine tn ?_
  refine Wc.condNB (b := schOk s p a b) rfl (fun h4 => ?_) (fun h4 => ?_)
  · refine Wc.seq ?_
    refine Wc.region rfl ?_
    refine Wl.pure (PR.build (ps := []) (cs := schV (0) (0) ((fun _ => 0)) ((fun _ => 0))) tB_34 rfl rfl) ?_
    refine Wl.storeA (i := 0) (cs' := schV (0) (0) ((fun _ => 0)) ((fun _ => 0))) st tA_34 rfl rfl schV_len schV_one rfl (le_of_len schV_len (by omega)) (all_put schV_len) ?_
    clear st
    intro w5 st
    replace st : St [] w w5 [(b4, schV (0) (0) ((fun _ => 0)) ((fun _ => 0)), 34), (b2, schV (s) (p) (a) (b), 34)] := st
    refine Wl.pure (PR.assI rfl) ?_
    refine Wl.nil ?_
    refine tn ?_
    refine Wc.ret ?_
    refine tr ?_
    refine postL.many (rvs := [.cell 4 34, .tmp 5]) rfl (.cell (us := schV (0) (0) ((fun _ => 0)) ((fun _ => 0))) tA_34 rfl schV_len (st.rdA (i := 0) (n := 14) rfl (all_sub schV_len)) (.tmp (v := .int .i64 (1)) rfl .nil)) ?_
    refine RetV.of ?_ st.below
    exact ls_f (by rw [lsC_1 (by assumption)]; decide) (by rw [lsC_1 (by assumption)]; rfl)
  · refine Wc.skip ?_
    refine tn ?_
    refine Wc.seq ?_
    refine Wc.seq ?_
    obtain ⟨_, hp1, _⟩ := schOk_spec (s := s) (p := p) (a := a) (b := b) (by assumption)
    refine Wc.region rfl ?_
    refine Wl.pure (PR.moveI rfl) ?_
    refine Wl.pure (PR.fieldAddr tF_34_1 rfl) ?_
    refine Wl.load (i := 1) st tA_30 rfl rfl (rfl) ?_
    refine Wl.pure (PR.conv (n := p) tI_2 rfl (by simp only [fitI]; omega) Try.underlying30) ?_
    refine Wl.pure (PR.sub (a := p) (b := 1) rfl rfl (by simp only [fitI]; omega)) ?_
    refine Wl.callV (c_spec_l00In (n := q) (lo := 0) (hi := (p - 1))) rfl ?_
    intro w6 hbel
    replace st := st.call hbel
    clear hbel
    refine Wl.pure (PR.not_ rfl) ?_
    refine Wl.nil ?_
    refine tn ?_
    refine Wc.condN (p := 0 ≤ q ∧ q ≤ (p - 1)) rfl (fun h7 => ?_) (fun h7 => ?_)
    · refine Wc.seq ?_
      refine Wc.region rfl ?_
      refine Wl.pure (PR.build (ps := []) (cs := schV (0) (0) ((fun _ => 0)) ((fun _ => 0))) tB_34 rfl rfl) ?_
      refine Wl.storeA (i := 0) (cs' := schV (0) (0) ((fun _ => 0)) ((fun _ => 0))) st tA_34 rfl rfl schV_len schV_one rfl (le_of_len schV_len (by omega)) (all_put schV_len) ?_
      clear st
      intro w8 st
      replace st : St [] w w8 [(b4, schV (0) (0) ((fun _ => 0)) ((fun _ => 0)), 34), (b2, schV (s) (p) (a) (b), 34)] := st
      refine Wl.pure (PR.assI rfl) ?_
      refine Wl.nil ?_
      refine tn ?_
      refine Wc.ret ?_
      refine tr ?_
      refine postL.many (rvs := [.cell 4 34, .tmp 5]) rfl (.cell (us := schV (0) (0) ((fun _ => 0)) ((fun _ => 0))) tA_34 rfl schV_len (st.rdA (i := 0) (n := 14) rfl (all_sub schV_len)) (.tmp (v := .int .i64 (2)) rfl .nil)) ?_
      refine RetV.of ?_ st.below
      exact ls_f (by rw [lsC_2 (by assumption) (by omega)]; decide) (by rw [lsC_2 (by assumption) (by omega)]; rfl)
    · refine Wc.skip ?_
      refine tn ?_
      refine Wc.seq ?_
      refine Wc.seq ?_
      refine Wc.region rfl ?_
      refine Wl.pure (PR.fieldAddr tF_34_1 rfl) ?_
      refine Wl.load (i := 1) st tA_30 rfl rfl (rfl) ?_
      refine Wl.pure (PR.eql (a := p) (b := 1) rfl rfl) ?_
      refine Wl.nil ?_
      refine tn ?_
      refine Wc.condD (p := p = 1) rfl (fun h9 => ?_) (fun h9 => ?_)
      · refine Wc.seq ?_
        refine Wc.region rfl ?_
        refine Wl.pure (PR.build (ps := []) (cs := schV (0) (0) ((fun _ => 0)) ((fun _ => 0))) tB_34 rfl rfl) ?_
        refine Wl.storeA (i := 0) (cs' := schV (0) (0) ((fun _ => 0)) ((fun _ => 0))) st tA_34 rfl rfl schV_len schV_one rfl (le_of_len schV_len (by omega)) (all_put schV_len) ?_
        clear st
        intro w10 st
        replace st : St [] w w10 [(b4, schV (0) (0) ((fun _ => 0)) ((fun _ => 0)), 34), (b2, schV (s) (p) (a) (b), 34)] := st
        refine Wl.pure (PR.assI rfl) ?_
        refine Wl.nil ?_
        refine tn ?_
        refine Wc.ret ?_
        refine tr ?_
        refine postL.many (rvs := [.cell 4 34, .tmp 5]) rfl (.cell (us := schV (0) (0) ((fun _ => 0)) ((fun _ => 0))) tA_34 rfl schV_len (st.rdA (i := 0) (n := 14) rfl (all_sub schV_len)) (.tmp (v := .int .i64 (4)) rfl .nil)) ?_
        refine RetV.of ?_ st.below
        exact ls_f (by rw [lsC_4 (by assumption) (by omega) (by omega)]; decide) (by rw [lsC_4 (by assumption) (by omega) (by omega)]; rfl)
      · refine Wc.skip ?_
        refine tn ?_
        refine Wc.seq ?_
        obtain ⟨m, rfl⟩ : ∃ m : Nat, p = ((m : Nat) : Int) := ⟨p.toNat, by omega⟩
        obtain ⟨r, rfl⟩ : ∃ r : Nat, q = ((r : Nat) : Int) := ⟨q.toNat, by omega⟩
        refine Wc.region rfl ?_
        refine Wl.pure (PR.fieldAddr tF_34_1 rfl) ?_
        refine Wl.load (i := 1) st tA_30 rfl rfl (rfl) ?_
        refine Wl.pure (PR.subN (a := m) (b := 1) rfl rfl (by omega) (by simp only [fitI]; omega)) ?_
        refine Wl.pure (PR.fieldAddr tF_34_1 rfl) ?_
        refine Wl.store (i := 1) (cs' := schV (s) (((m - 1) : Nat) : Int) (a) (b)) st tA_30 rfl rfl rfl rfl (lt_of_len schV_len (by omega)) (rfl) ?_
        clear st
        intro w11 st
        replace st : St [] w w11 [(b4, schV (0) (0) ((fun _ => 0)) ((fun _ => 0)), 34), (b2, schV (s) (((m - 1) : Nat) : Int) (a) (b), 34)] := st
        refine Wl.nil ?_
        refine tn ?_
        refine Wc.seq ?_
        refine Wc.seq ?_
        refine Wc.region rfl ?_
        refine Wl.pure (PR.assI rfl) ?_
        refine Wl.nil ?_
        refine tn ?_
        refine Wc.block ?_
        rw [mix_zero (lsF r a) a, mix_zero (lsF r b) b] at st
        refine Wc.loopF (γ := Nat) (fun g => [(1, .int .i64 (((r : Nat) : Int))), (2, .pointer (some ⟨b2, 0, none⟩)), (4, .pointer (some ⟨b4, 0, none⟩)), (5, .int .i64 (0)), (6, .int .i64 (((g : Nat) : Int)))]) (fun g w_ => St [] w w_ [(b4, schV (0) (0) ((fun _ => 0)) ((fun _ => 0)), 34), (b2, schV (s) (((m - 1) : Nat) : Int) ((mixF (lsF r a) a g)) ((mixF (lsF r b) b g)), 34)] ∧ (g ≤ 6)) (fun g => 6 - g) ?_ ?_
        · exact ⟨0, (.cons rfl (.cons rfl (.cons rfl (.cons rfl (.cons rfl (.nil _)))))), st, (by omega)⟩
        clear st
        rintro k w12 ⟨st, hk⟩
        try dsimp only at st hk ⊢
        refine Wc.seq ?_
        refine Wc.seq ?_
        refine Wc.region rfl ?_
        refine Wl.pure (PR.moveI rfl) ?_
        refine Wl.pure (PR.lss (a := ((k : Nat) : Int)) (b := 6) rfl rfl) ?_
        refine Wl.nil ?_
        refine tn ?_
        refine Wc.condD (p := ((k : Nat) : Int) < 6) rfl (fun h13 => ?_) (fun h13 => ?_)
        · refine Wc.skip ?_
          refine tn ?_
          refine Wc.seq ?_
          refine Wc.block ?_
          refine Wc.seq ?_
          refine Wc.region rfl ?_
          refine Wl.pure (PR.moveI rfl) ?_
          refine Wl.pure (PR.moveI rfl) ?_
          refine Wl.pure (PR.fieldAddr tF_34_2 rfl) ?_
          refine Wl.pure (PR.idxAddrA1 (i := k) tE_31 rfl rfl (by omega)) ?_
          refine Wl.load (i := 1) st tA_5 rfl rfl (schV_get_a (by omega)) ?_
          refine Wl.pure (PR.moveI rfl) ?_
          refine Wl.callV (c_spec_l06Lose (v := (mixF (lsF r a) a k) (k)) (q := r) ((mix_lt (fun k => lsB_lt (ha k)) ha k) (k)) (by first | assumption | omega)) rfl ?_
          intro w14 hbel
          replace st := st.call hbel
          clear hbel
          refine Wl.pure (PR.fieldAddr tF_34_2 rfl) ?_
          refine Wl.pure (PR.idxAddrA1 (i := k) tE_31 rfl rfl (by omega)) ?_
          refine Wl.store (i := 1) (cs' := schV (s) (((m - 1) : Nat) : Int) (upd (mixF (lsF r a) a k) (k) ((lsB r ((mixF (lsF r a) a k) (k))))) ((mixF (lsF r b) b k))) st tA_5 rfl rfl rfl rfl (lt_of_len schV_len (by omega)) (schV_set_a (by omega)) ?_
          clear st
          intro w15 st
          replace st : St [] w w15 [(b4, schV (0) (0) ((fun _ => 0)) ((fun _ => 0)), 34), (b2, schV (s) (((m - 1) : Nat) : Int) (upd (mixF (lsF r a) a k) (k) ((lsB r ((mixF (lsF r a) a k) (k))))) ((mixF (lsF r b) b k)), 34)] := st
          refine Wl.nil ?_
          refine tn ?_
          refine Wc.region rfl ?_
          refine Wl.pure (PR.moveI rfl) ?_
          refine Wl.pure (PR.moveI rfl) ?_
          refine Wl.pure (PR.fieldAddr tF_34_3 rfl) ?_
          refine Wl.pure (PR.idxAddrA1 (i := k) tE_31 rfl rfl (by omega)) ?_
          refine Wl.load (i := 1) st tA_5 rfl rfl (schV_get_b (by omega)) ?_
          refine Wl.pure (PR.moveI rfl) ?_
          refine Wl.callV (c_spec_l06Lose (v := (mixF (lsF r b) b k) (k)) (q := r) ((mix_lt (fun k => lsB_lt (hb k)) hb k) (k)) (by first | assumption | omega)) rfl ?_
          intro w16 hbel
          replace st := st.call hbel
          clear hbel
          refine Wl.pure (PR.fieldAddr tF_34_3 rfl) ?_
          refine Wl.pure (PR.idxAddrA1 (i := k) tE_31 rfl rfl (by omega)) ?_
          refine Wl.store (i := 1) (cs' := schV (s) (((m - 1) : Nat) : Int) (upd (mixF (lsF r a) a k) (k) ((lsB r ((mixF (lsF r a) a k) (k))))) (upd (mixF (lsF r b) b k) (k) ((lsB r ((mixF (lsF r b) b k) (k)))))) st tA_5 rfl rfl rfl rfl (lt_of_len schV_len (by omega)) (schV_set_b) ?_
          clear st
          intro w17 st
          replace st : St [] w w17 [(b4, schV (0) (0) ((fun _ => 0)) ((fun _ => 0)), 34), (b2, schV (s) (((m - 1) : Nat) : Int) (upd (mixF (lsF r a) a k) (k) ((lsB r ((mixF (lsF r a) a k) (k))))) (upd (mixF (lsF r b) b k) (k) ((lsB r ((mixF (lsF r b) b k) (k))))), 34)] := st
          refine Wl.nil ?_
          refine bn ?_
          refine tn ?_
          refine Wc.region rfl ?_
          refine Wl.pure (PR.moveI rfl) ?_
          refine Wl.pure (PR.add (a := ((k : Nat) : Int)) (b := 1) rfl rfl (by simp only [fitI]; omega)) ?_
          refine Wl.pure (PR.assI rfl) ?_
          refine Wl.nil ?_
          refine tn ?_
          rw [lose_upd, lose_upd] at st
          exact ⟨k + 1, (.cons rfl (.cons rfl (.cons rfl (.cons rfl (.cons rfl (.nil _)))))), ⟨st, (by first | omega | (dsimp only; omega))⟩, (by first | omega | (dsimp only; omega))⟩
        · refine Wc.exit ?_
          refine tx ?_
          refine tx ?_
          refine bh ?_
          refine tn ?_
          refine Wc.seq ?_
          refine Wc.region rfl ?_
          refine Wl.loadA (i := 1) st tA_34 rfl rfl (all_sub schV_len) schV_len ?_
          refine Wl.storeA (i := 0) (cs' := schV (s) (((m - 1) : Nat) : Int) ((mixF (lsF r a) a k)) ((mixF (lsF r b) b k))) st tA_34 rfl rfl schV_len schV_one rfl (le_of_len schV_len (by omega)) (all_put schV_len) ?_
          clear st
          intro w18 st
          replace st : St [] w w18 [(b4, schV (s) (((m - 1) : Nat) : Int) ((mixF (lsF r a) a k)) ((mixF (lsF r b) b k)), 34), (b2, schV (s) (((m - 1) : Nat) : Int) ((mixF (lsF r a) a k)) ((mixF (lsF r b) b k)), 34)] := st
          refine Wl.pure (PR.assI rfl) ?_
          refine Wl.nil ?_
          refine tn ?_
          refine Wc.ret ?_
          refine postL.many (rvs := [.cell 4 34, .tmp 5]) rfl (.cell (us := schV (s) (((m - 1) : Nat) : Int) ((mixF (lsF r a) a k)) ((mixF (lsF r b) b k))) tA_34 rfl schV_len (st.rdA (i := 0) (n := 14) rfl (all_sub schV_len)) (.tmp (v := .int .i64 (0)) rfl .nil)) ?_
          refine RetV.of ?_ st.below
          exact ls_t (lsC_0 (by assumption) (by omega) (by omega)) (by omega) (fun j hj => by rw [mix_lo (by omega)]; rfl) (fun j hj => by rw [mix_lo (by omega)]; rfl)

set_option maxHeartbeats 400000 in
set_option maxRecDepth 4000 in
theorem c_laws_FnExactLosePart {s : Int} {p : Int} {a : Nat → Nat} {b : Nat → Nat} {q : Int} {w : World} (hs : -128 ≤ s ∧ s ≤ 127) (hp : -128 ≤ p ∧ p ≤ 127) (ha : ∀ k, a k < 256) (hb : ∀ k, b k < 256) :
    CE Try.prog 4 [.agg (schV (s) (p) (a) (b)).toArray, .int .i64 (q)] w (RetV w (.bool true)) := by
  refine CE.enter 32 [(0, .agg (schV (s) (p) (a) (b)).toArray), (1, .int .i64 (q))] en_4 Try.func4 rfl rfl (Nat.le_of_ble_eq_true rfl) rfl ?_
  have st := St.start w
  refine Wc.seq ?_
  refine Wc.region rfl ?_
  refine Wl.boxA st rfl ?_
  clear st
  intro b2 w1 st
  refine Wl.pure (PR.assB rfl) ?_
  refine Wl.nil ?_
  refine tn ?_
  refine Wc.seq ?_
  refine Wc.region rfl ?_
  refine Wl.loadA (i := 0) st tA_33 rfl rfl (all_sub schV_len) schV_len ?_
  refine Wl.callV (c_laws_toScheme (s := s) (p := p) (a := a) (b := b) ha hb) rfl ?_
  intro w2 hbel
  replace st := st.call hbel
  clear hbel
  refine Wl.pure (PR.moveI rfl) ?_
  refine Wl.callV (c_spec_LosePart (s := s) (p := p) (a := a) (b := b) (q := q) (by first | assumption | omega) (by first | assumption | omega) ha hb) rfl ?_
  intro w3 hbel
  replace st := st.call hbel
  clear hbel
  refine Wl.pure (PR.moveV (.tuple #[.agg (schV (selI (lsC s p a b q) s) (selI (lsC s p a b q) (p - 1)) ((selF (lsC s p a b q) fun k => lsB (q).toNat (a k))) ((selF (lsC s p a b q) fun k => lsB (q).toNat (b k)))).toArray, .int .i64 ((((lsC s p a b q) : Nat) : Int))]) rfl) ?_
  refine Wl.pure (PR.extr (i := 0) (vs := [.agg (schV (selI (lsC s p a b q) s) (selI (lsC s p a b q) (p - 1)) ((selF (lsC s p a b q) fun k => lsB (q).toNat (a k))) ((selF (lsC s p a b q) fun k => lsB (q).toNat (b k)))).toArray, .int .i64 ((((lsC s p a b q) : Nat) : Int))]) rfl rfl) ?_
  refine Wl.pure (PR.extr (i := 1) (vs := [.agg (schV (selI (lsC s p a b q) s) (selI (lsC s p a b q) (p - 1)) ((selF (lsC s p a b q) fun k => lsB (q).toNat (a k))) ((selF (lsC s p a b q) fun k => lsB (q).toNat (b k)))).toArray, .int .i64 ((((lsC s p a b q) : Nat) : Int))]) rfl rfl) ?_
  refine Wl.alloc st tZ_34 rfl ?_
  clear st
  intro b5 w4 st
  refine Wl.storeA (i := 0) (cs' := schV (selI (lsC s p a b q) s) (selI (lsC s p a b q) (p - 1)) ((selF (lsC s p a b q) fun k => lsB (q).toNat (a k))) ((selF (lsC s p a b q) fun k => lsB (q).toNat (b k)))) st tA_34 rfl rfl schV_len schV_one rfl (le_of_len schV_len (by omega)) (all_put schV_len) ?_
  clear st
  intro w5 st
  replace st : St [] w w5 [(b5, schV (selI (lsC s p a b q) s) (selI (lsC s p a b q) (p - 1)) ((selF (lsC s p a b q) fun k => lsB (q).toNat (a k))) ((selF (lsC s p a b q) fun k => lsB (q).toNat (b k))), 34), (b2, schV (s) (p) (a) (b), 33)] := st
  refine Wl.pure (PR.assI rfl) ?_
  refine Wl.nil ?_
  refine tn ?_
  refine Wc.seq ?_
  refine Wc.region rfl ?_
  refine Wl.loadA (i := 1) st tA_33 rfl rfl (all_sub schV_len) schV_len ?_
  refine Wl.callV (c_laws_toScheme (s := s) (p := p) (a := a) (b := b) ha hb) rfl ?_
  intro w6 hbel
  replace st := st.call hbel
  clear hbel
  refine Wl.pure (PR.moveI rfl) ?_
  refine Wl.callV (c_impl_LosePart (s := s) (p := p) (a := a) (b := b) (q := q) (by first | assumption | omega) (by first | assumption | omega) ha hb) rfl ?_
  intro w7 hbel
  replace st := st.call hbel
  clear hbel
  refine Wl.pure (PR.moveV (.tuple #[.agg (schV (selI (lsC s p a b q) s) (selI (lsC s p a b q) (p - 1)) ((selF (lsC s p a b q) fun k => lsB (q).toNat (a k))) ((selF (lsC s p a b q) fun k => lsB (q).toNat (b k)))).toArray, .int .i64 ((((lsC s p a b q) : Nat) : Int))]) rfl) ?_
  refine Wl.pure (PR.extr (i := 0) (vs := [.agg (schV (selI (lsC s p a b q) s) (selI (lsC s p a b q) (p - 1)) ((selF (lsC s p a b q) fun k => lsB (q).toNat (a k))) ((selF (lsC s p a b q) fun k => lsB (q).toNat (b k)))).toArray, .int .i64 ((((lsC s p a b q) : Nat) : Int))]) rfl rfl) ?_
  refine Wl.pure (PR.extr (i := 1) (vs := [.agg (schV (selI (lsC s p a b q) s) (selI (lsC s p a b q) (p - 1)) ((selF (lsC s p a b q) fun k => lsB (q).toNat (a k))) ((selF (lsC s p a b q) fun k => lsB (q).toNat (b k)))).toArray, .int .i64 ((((lsC s p a b q) : Nat) : Int))]) rfl rfl) ?_
  refine Wl.alloc st tZ_34 rfl ?_
  clear st
  intro b7 w8 st
  refine Wl.storeA (i := 0) (cs' := schV (selI (lsC s p a b q) s) (selI (lsC s p a b q) (p - 1)) ((selF (lsC s p a b q) fun k => lsB (q).toNat (a k))) ((selF (lsC s p a b q) fun k => lsB (q).toNat (b k)))) st tA_34 rfl rfl schV_len schV_one rfl (le_of_len schV_len (by omega)) (all_put schV_len) ?_
  clear st
  intro w9 st
  replace st : St [] w w9 [(b7, schV (selI (lsC s p a b q) s) (selI (lsC s p a b q) (p - 1)) ((selF (lsC s p a b q) fun k => lsB (q).toNat (a k))) ((selF (lsC s p a b q) fun k => lsB (q).toNat (b k))), 34), (b5, schV (selI (lsC s p a b q) s) (selI (lsC s p a b q) (p - 1)) ((selF (lsC s p a b q) fun k => lsB (q).toNat (a k))) ((selF (lsC s p a b q) fun k => lsB (q).toNat (b k))), 34), (b2, schV (s) (p) (a) (b), 33)] := st
  refine Wl.pure (PR.assI rfl) ?_
  refine Wl.nil ?_
  refine tn ?_
  refine Wc.seq ?_
  refine Wc.seq ?_
  refine Wc.region rfl ?_
  refine Wl.loadA (i := 0) st tA_34 rfl rfl (all_sub schV_len) schV_len ?_
  refine Wl.loadA (i := 1) st tA_34 rfl rfl (all_sub schV_len) schV_len ?_
  refine Wl.callV (c_laws_eqScheme (s := selI (lsC s p a b q) s) (p := selI (lsC s p a b q) (p - 1)) (a := (selF (lsC s p a b q) fun k => lsB (q).toNat (a k))) (b := (selF (lsC s p a b q) fun k => lsB (q).toNat (b k)))) rfl ?_
  intro w10 hbel
  replace st := st.call hbel
  clear hbel
  refine Wl.pure (PR.not_ rfl) ?_
  refine Wl.pure (PR.moveB rfl) ?_
  refine Wl.on rfl rfl ?_
  refine Wl.pure (PR.moveI rfl) ?_
  refine Wl.on rfl rfl ?_
  refine Wl.pure (PR.moveI rfl) ?_
  refine Wl.on rfl rfl ?_
  refine Wl.pure (PR.neqS (a := (((lsC s p a b q) : Nat) : Int)) rfl rfl) ?_
  refine Wl.pure (PR.pickFB rfl rfl) ?_
  refine Wl.nil ?_
  refine tn ?_
  refine Wc.condF rfl ?_
  refine Wc.skip ?_
  refine tn ?_
  refine Wc.seq ?_
  refine Wc.region rfl ?_
  refine Wl.pure (PR.assB rfl) ?_
  refine Wl.nil ?_
  refine tn ?_
  refine Wc.ret ?_
  refine postL.tmp rfl rfl ?_
  exact RetV.of rfl st.below

end Go.Proofs.Ytjkicobdokcjfaa
