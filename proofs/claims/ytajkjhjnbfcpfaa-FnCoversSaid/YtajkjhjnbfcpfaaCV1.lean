/-
  Contracts of functions, printed by a program of ours.
-/
import Derived.Test.YtajkjhjnbfcpfaaCL0
import Derived.Test.YtajkjhjnbfcpfaaCov
namespace Go.Proofs.Ytajkjhjnbfcpfaa
open Go.RowKit
set_option linter.unusedVariables false
set_option linter.unusedSimpArgs false

set_option maxHeartbeats 400000 in
set_option maxRecDepth 4000 in
theorem c_impl_haveParts {A : Option Addr} {n : Nat} {cp : Nat} {p : Nat → Int} {c : Nat → Nat → Nat} {q : Int} {w : World} (hR : RdS w A n (layS n p c)) (hp : ∀ i, i < n → -128 ≤ p i ∧ p i ≤ 127) (hc : ∀ i k, c i k < 256) (hn : n ≤ 1048576) :
    CE Try.prog 110 [.slice (A) (n) (cp), .int .i8 (q)] w (RetV w (.bool (allP n p q))) := by
  refine CE.enter 18 [(0, .slice (A) (n) (cp)), (1, .int .i8 (q))] en_110 Try.func110 rfl rfl (Nat.le_of_ble_eq_true rfl) rfl ?_
  have st := St.start w
  refine Wc.seq ?_
  refine Wc.region rfl ?_
  refine Wl.pure (PR.assB rfl) ?_
  refine Wl.nil ?_
  refine tn ?_
  refine Wc.seq ?_
  refine Wc.seq ?_
  refine Wc.region rfl ?_
  refine Wl.pure (PR.moveL rfl) ?_
  refine Wl.pure (PR.lenL tS_99 rfl) ?_
  refine Wl.pure (PR.moveI rfl) ?_
  refine Wl.nil ?_
  refine tn ?_
  refine Wc.block ?_
  refine Wc.loopF (γ := Nat) (fun g => [(1, .int .i8 (q)), (7, .slice (A) (n) (cp)), (8, .int .i64 (((n : Nat) : Int))), (9, .int .i64 (((g : Nat) : Int)))]) (fun g w_ => St [] w w_ [] ∧ (g ≤ n) ∧ (∀ j, j < g → p j = q)) (fun g => n - g) ?_ ?_
  · exact ⟨0, (.cons rfl (.cons rfl (.cons rfl (.cons rfl (.nil _))))), st, (by first | omega | (dsimp only; omega)), (fun j hj => by omega)⟩
  clear st
  rintro k w1 ⟨st, hk, hg⟩
  try dsimp only at st hk hg ⊢
  refine Wc.seq ?_
  refine Wc.region rfl ?_
  refine Wl.pure (PR.lss (a := ((k : Nat) : Int)) (b := ((n : Nat) : Int)) rfl rfl) ?_
  refine Wl.nil ?_
  refine tn ?_
  refine Wc.seq ?_
  refine Wc.condD (p := ((k : Nat) : Int) < ((n : Nat) : Int)) rfl (fun h2 => ?_) (fun h2 => ?_)
  · refine Wc.skip ?_
    refine tn ?_
    refine Wc.seq ?_
    refine Wc.block ?_
    refine Wc.seq ?_
    refine Wc.region rfl ?_
    obtain ⟨bs3, os4, rfl, hs5⟩ := hR (by omega)
    have := hp (k) (by omega)
    refine Wl.pure (PR.idxAddrS (i := k) tS_99 rfl rfl (by omega)) ?_
    refine Wl.loadAC (vs := layV (p k) ((c k))) tA_30 rfl layV_len ((hs5.st st).sub (recV_sub (n := n) (i := k) (layS_row _ _) (by omega)) rfl) ?_
    refine Wl.alloc st tZ_30 rfl ?_
    clear st
    intro b6 w6 st
    refine Wl.storeA (i := 0) (cs' := layV (p k) ((c k))) st tA_30 rfl rfl layV_len layV_one rfl (le_of_len layV_len (by omega)) (all_put layV_len) ?_
    clear st
    intro w7 st
    replace st : St [] w w7 [(b6, layV (p k) ((c k)), 30)] := st
    refine Wl.nil ?_
    refine tn ?_
    refine Wc.seq ?_
    refine Wc.region rfl ?_
    refine Wl.pure (PR.fieldAddr tF_30_0 rfl) ?_
    refine Wl.load (i := 0) st tA_22 rfl rfl (rfl) ?_
    refine Wl.pure (PR.moveI rfl) ?_
    refine Wl.pure (PR.neq (a := p k) (b := q) rfl rfl) ?_
    refine Wl.nil ?_
    refine tn ?_
    refine Wc.condN (p := p k = q) rfl (fun h8 => ?_) (fun h8 => ?_)
    · refine Wc.seq ?_
      refine Wc.region rfl ?_
      refine Wl.pure (PR.assB rfl) ?_
      refine Wl.nil ?_
      refine tn ?_
      refine Wc.ret ?_
      refine br ?_
      refine tr ?_
      refine tr ?_
      refine br ?_
      refine tr ?_
      refine postL.tmp rfl rfl ?_
      refine RetV.of ?_ st.below
      refine congrArg Value.bool ?_
      exact allP_f (k := k) (by omega) (by omega)
    · refine Wc.skip ?_
      refine bn ?_
      refine tn ?_
      refine Wc.region rfl ?_
      refine Wl.pure (PR.add (a := ((k : Nat) : Int)) (b := 1) rfl rfl (by simp only [fitI]; omega)) ?_
      refine Wl.pure (PR.moveI rfl) ?_
      refine Wl.nil ?_
      refine tn ?_
      replace st := st.tail
      exact ⟨k + 1, (.cons rfl (.cons rfl (.cons rfl (.cons rfl (.nil _))))), ⟨st, (by first | omega | (dsimp only; omega)), (all_snoc hg (by omega))⟩, (by first | omega | (dsimp only; omega))⟩
  · refine Wc.exit ?_
    refine tx ?_
    refine tx ?_
    refine bh ?_
    refine tn ?_
    refine Wc.seq ?_
    refine Wc.region rfl ?_
    refine Wl.pure (PR.assB rfl) ?_
    refine Wl.nil ?_
    refine tn ?_
    refine Wc.ret ?_
    refine postL.tmp rfl rfl ?_
    refine RetV.of ?_ st.below
    refine congrArg Value.bool ?_
    exact allP_t (fun j hj => hg j (by omega))

set_option maxHeartbeats 400000 in
set_option maxRecDepth 4000 in
theorem c_spec_l05With {A : Option Addr} {n : Nat} {cp : Nat} {p : Nat → Int} {c : Nat → Nat → Nat} {q : Int} {w : World} (hR : RdS w A n (layS n p c)) (hp : ∀ i, i < n → -128 ≤ p i ∧ p i ≤ 127) (hc : ∀ i k, c i k < 256) (hn : n ≤ 1048576) :
    CE Try.prog 66 [.slice (A) (n) (cp), .int .i8 (q)] w (RetV w (.int .i64 (((codeP n p c q : Nat) : Int)))) := by
  refine CE.enter 22 [(0, .slice (A) (n) (cp)), (1, .int .i8 (q))] en_66 Try.func66 rfl rfl (Nat.le_of_ble_eq_true rfl) rfl ?_
  have st := St.start w
  refine Wc.seq ?_
  refine Wc.region rfl ?_
  refine Wl.pure (PR.assI rfl) ?_
  refine Wl.nil ?_
  refine tn ?_
  refine Wc.seq ?_
  refine Wc.seq ?_
  refine Wc.region rfl ?_
  refine Wl.pure (PR.moveL rfl) ?_
  refine Wl.callV (c_spec_l01All (A := A) (n := n) (cp := cp) (p := p) (c := c) (hR.st st) hp hc (by first | assumption | omega)) rfl ?_
  intro w1 hbel
  replace st := st.call hbel
  clear hbel
  refine Wl.pure (PR.not_ rfl) ?_
  refine Wl.nil ?_
  refine tn ?_
  refine Wc.condNB (b := layAll n p c) rfl (fun h2 => ?_) (fun h2 => ?_)
  · refine Wc.seq ?_
    refine Wc.region rfl ?_
    refine Wl.pure (PR.assI rfl) ?_
    refine Wl.nil ?_
    refine tn ?_
    refine Wc.ret ?_
    refine tr ?_
    refine postL.tmp rfl rfl ?_
    refine RetV.of ?_ st.below
    refine congrArg (fun x : Nat => Value.int .i64 (x : Int)) ?_
    exact codeP_1 (by assumption)
  · refine Wc.skip ?_
    refine tn ?_
    refine Wc.seq ?_
    refine Wc.seq ?_
    refine Wc.region rfl ?_
    refine Wl.pure (PR.assI rfl) ?_
    refine Wl.nil ?_
    refine tn ?_
    refine Wc.block ?_
    refine Wc.loopF (γ := Nat) (fun g => [(0, .slice (A) (n) (cp)), (1, .int .i8 (q)), (5, .int .i64 (((g : Nat) : Int)))]) (fun g w_ => St [] w w_ [] ∧ (g ≤ n) ∧ (∀ j, j < g → p j = q)) (fun g => n - g) ?_ ?_
    · exact ⟨0, (.cons rfl (.cons rfl (.cons rfl (.nil _)))), st, (by first | omega | (dsimp only; omega)), (fun j hj => by omega)⟩
    clear st
    rintro k w3 ⟨st, hk, hg⟩
    try dsimp only at st hk hg ⊢
    refine Wc.seq ?_
    refine Wc.seq ?_
    refine Wc.region rfl ?_
    refine Wl.pure (PR.moveI rfl) ?_
    refine Wl.pure (PR.moveL rfl) ?_
    refine Wl.pure (PR.lenL tS_99 rfl) ?_
    refine Wl.pure (PR.lss (a := ((k : Nat) : Int)) (b := ((n : Nat) : Int)) rfl rfl) ?_
    refine Wl.nil ?_
    refine tn ?_
    refine Wc.condD (p := ((k : Nat) : Int) < ((n : Nat) : Int)) rfl (fun h4 => ?_) (fun h4 => ?_)
    · refine Wc.skip ?_
      refine tn ?_
      refine Wc.seq ?_
      refine Wc.block ?_
      refine Wc.seq ?_
      refine Wc.region rfl ?_
      refine Wl.pure (PR.moveL rfl) ?_
      refine Wl.pure (PR.moveI rfl) ?_
      obtain ⟨bs5, os6, rfl, hs7⟩ := hR (by omega)
      have := hp (k) (by omega)
      refine Wl.pure (PR.idxAddrS (i := k) tS_99 rfl rfl (by omega)) ?_
      refine Wl.pure (PR.fieldAddr tF_30_0 rfl) ?_
      refine Wl.loadC tA_22 rfl ((hs7.st st).at_ (recV_get (n := n) (i := k) (layS_row _ _) (by omega) (rfl)) (Nat.add_assoc _ _ _).symm) ?_
      refine Wl.pure (PR.moveI rfl) ?_
      refine Wl.pure (PR.neq (a := p k) (b := q) rfl rfl) ?_
      refine Wl.nil ?_
      refine tn ?_
      refine Wc.condN (p := p k = q) rfl (fun h8 => ?_) (fun h8 => ?_)
      · refine Wc.seq ?_
        refine Wc.region rfl ?_
        refine Wl.pure (PR.assI rfl) ?_
        refine Wl.nil ?_
        refine tn ?_
        refine Wc.ret ?_
        refine br ?_
        refine tr ?_
        refine tr ?_
        refine br ?_
        refine tr ?_
        refine postL.tmp rfl rfl ?_
        refine RetV.of ?_ st.below
        refine congrArg (fun x : Nat => Value.int .i64 (x : Int)) ?_
        exact codeP_4 (k := k) (by assumption) (by omega) (by omega)
      · refine Wc.skip ?_
        refine bn ?_
        refine tn ?_
        refine Wc.region rfl ?_
        refine Wl.pure (PR.moveI rfl) ?_
        refine Wl.pure (PR.add (a := ((k : Nat) : Int)) (b := 1) rfl rfl (by simp only [fitI]; omega)) ?_
        refine Wl.pure (PR.assI rfl) ?_
        refine Wl.nil ?_
        refine tn ?_
        exact ⟨k + 1, (.cons rfl (.cons rfl (.cons rfl (.nil _)))), ⟨st, (by first | omega | (dsimp only; omega)), (all_snoc hg (by omega))⟩, (by first | omega | (dsimp only; omega))⟩
    · refine Wc.exit ?_
      refine tx ?_
      refine tx ?_
      refine bh ?_
      refine tn ?_
      refine Wc.seq ?_
      refine Wc.region rfl ?_
      refine Wl.pure (PR.assI rfl) ?_
      refine Wl.nil ?_
      refine tn ?_
      refine Wc.ret ?_
      refine postL.tmp rfl rfl ?_
      refine RetV.of ?_ st.below
      refine congrArg (fun x : Nat => Value.int .i64 (x : Int)) ?_
      exact codeP_0 (by assumption) (fun j hj => hg j (by omega))

set_option maxHeartbeats 400000 in
set_option maxRecDepth 4000 in
theorem c_impl_firstOf {bk : Nat} {o : Nat} {n : Nat} {cp : Nat} {c : Nat → Bool} {e : Nat → Int} {w : World} (hR : RdA w bk o (prV n c e)) (hn : n ≤ 1000) :
    CE Try.prog 108 [.slice (some ⟨bk, o, none⟩) (n) (cp)] w (RetV w (.int .i64 (firstZ n c e))) := by
  refine CE.enter 16 [(0, .slice (some ⟨bk, o, none⟩) (n) (cp))] en_108 Try.func108 rfl rfl (Nat.le_of_ble_eq_true rfl) rfl ?_
  have st := St.start w
  refine Wc.seq ?_
  refine Wc.region rfl ?_
  refine Wl.pure (PR.assI rfl) ?_
  refine Wl.nil ?_
  refine tn ?_
  refine Wc.seq ?_
  refine Wc.seq ?_
  refine Wc.region rfl ?_
  refine Wl.pure (PR.moveL rfl) ?_
  refine Wl.pure (PR.lenL tS_167 rfl) ?_
  refine Wl.pure (PR.moveI rfl) ?_
  refine Wl.nil ?_
  refine tn ?_
  refine Wc.block ?_
  refine Wc.loopF (γ := Nat) (fun g => [(5, .slice (some ⟨bk, o, none⟩) (n) (cp)), (6, .int .i64 (((n : Nat) : Int))), (7, .int .i64 (((g : Nat) : Int)))]) (fun g w_ => St [] w w_ [] ∧ (g ≤ n) ∧ (firstZ n c e = firstF c e (n - g) g)) (fun g => n - g) ?_ ?_
  · exact ⟨0, (.cons rfl (.cons rfl (.cons rfl (.nil _)))), st, (by first | omega | (dsimp only; omega)), rfl⟩
  clear st
  rintro k w1 ⟨st, hk, hf⟩
  try dsimp only at st hk hf ⊢
  refine Wc.seq ?_
  refine Wc.region rfl ?_
  refine Wl.pure (PR.lss (a := ((k : Nat) : Int)) (b := ((n : Nat) : Int)) rfl rfl) ?_
  refine Wl.nil ?_
  refine tn ?_
  refine Wc.seq ?_
  refine Wc.condD (p := ((k : Nat) : Int) < ((n : Nat) : Int)) rfl (fun h2 => ?_) (fun h2 => ?_)
  · refine Wc.skip ?_
    refine tn ?_
    refine Wc.seq ?_
    refine Wc.block ?_
    refine Wc.seq ?_
    refine Wc.region rfl ?_
    refine Wl.pure (PR.idxAddrS (i := k) tS_167 rfl rfl (by omega)) ?_
    refine Wl.loadAC (vs := [.bool (c k), .int .i64 (e k)]) tA_141 rfl rfl ((hR.st st).sub (recV_sub (n := n) (i := k) (prV_row _ _) (by omega)) rfl) ?_
    refine Wl.alloc st tZ_141 rfl ?_
    clear st
    intro b4 w3 st
    refine Wl.storeA (i := 0) (cs' := [.bool (c k), .int .i64 (e k)]) st tA_141 rfl rfl rfl (by simp [Value.oneCell']) rfl (by simp) (all_put rfl) ?_
    clear st
    intro w4 st
    replace st : St [] w w4 [(b4, [.bool (c k), .int .i64 (e k)], 141)] := st
    refine Wl.nil ?_
    refine tn ?_
    refine Wc.seq ?_
    refine Wc.region rfl ?_
    refine Wl.pure (PR.fieldAddr tF_141_0 rfl) ?_
    refine Wl.load (i := 0) st tA_4 rfl rfl (rfl) ?_
    refine Wl.nil ?_
    refine tn ?_
    refine Wc.condB (b := c k) rfl (fun h5 => ?_) (fun h5 => ?_)
    · refine Wc.seq ?_
      refine Wc.region rfl ?_
      refine Wl.pure (PR.fieldAddr tF_141_1 rfl) ?_
      refine Wl.load (i := 0) st tA_2 rfl rfl (rfl) ?_
      refine Wl.pure (PR.assI rfl) ?_
      refine Wl.nil ?_
      refine tn ?_
      refine Wc.ret ?_
      refine br ?_
      refine tr ?_
      refine tr ?_
      refine br ?_
      refine tr ?_
      refine postL.tmp rfl rfl ?_
      refine RetV.of ?_ st.below
      refine congrArg (Value.int .i64) ?_
      first | exact firstF_t (by omega) hf (by assumption) | exact firstF_e (by omega) hf
    · refine Wc.skip ?_
      refine bn ?_
      refine tn ?_
      refine Wc.region rfl ?_
      refine Wl.pure (PR.add (a := ((k : Nat) : Int)) (b := 1) rfl rfl (by simp only [fitI]; omega)) ?_
      refine Wl.pure (PR.moveI rfl) ?_
      refine Wl.nil ?_
      refine tn ?_
      replace st := st.tail
      exact ⟨k + 1, (.cons rfl (.cons rfl (.cons rfl (.nil _)))), ⟨st, (by first | omega | (dsimp only; omega)), (firstF_f (by omega) hf (by assumption))⟩, (by first | omega | (dsimp only; omega))⟩
  · refine Wc.exit ?_
    refine tx ?_
    refine tx ?_
    refine bh ?_
    refine tn ?_
    refine Wc.seq ?_
    refine Wc.region rfl ?_
    refine Wl.pure (PR.assI rfl) ?_
    refine Wl.nil ?_
    refine tn ?_
    refine Wc.ret ?_
    refine postL.tmp rfl rfl ?_
    refine RetV.of ?_ st.below
    refine congrArg (Value.int .i64) ?_
    first | exact firstF_t (by omega) hf (by assumption) | exact firstF_e (by omega) hf

set_option maxHeartbeats 400000 in
set_option maxRecDepth 4000 in
theorem c_impl_partsCode {A : Option Addr} {n : Nat} {cp : Nat} {p : Nat → Int} {c : Nat → Nat → Nat} {q : Int} {w : World} (hR : RdS w A n (layS n p c)) (hp : ∀ i, i < n → -128 ≤ p i ∧ p i ≤ 127) (hc : ∀ i k, c i k < 256) (hn : n ≤ 1048576) :
    CE Try.prog 69 [.int .i8 (q), .slice (A) (n) (cp)] w (RetV w (.int .i64 (((codeP n p c q : Nat) : Int)))) := by
  refine CE.enter 16 [(0, .int .i8 (q)), (1, .slice (A) (n) (cp))] en_69 Try.func69 rfl rfl (Nat.le_of_ble_eq_true rfl) rfl ?_
  have st := St.start w
  refine Wc.seq ?_
  refine Wc.region rfl ?_
  refine Wl.pure (PR.assI rfl) ?_
  refine Wl.nil ?_
  refine tn ?_
  refine Wc.seq ?_
  refine Wc.region rfl ?_
  refine Wl.pure (PR.moveL rfl) ?_
  refine Wl.callV (c_impl_areLayers (A := A) (n := n) (cp := cp) (p := p) (c := c) (hR.st st) hp hc (by first | assumption | omega)) rfl ?_
  intro w1 hbel
  replace st := st.call hbel
  clear hbel
  refine Wl.pure (PR.not_ rfl) ?_
  refine Wl.pure (PR.build (ps := [(0, .bool (!(layAll n p c))), (1, .int .i64 (1))]) (cs := [.bool (!(layAll n p c)), .int .i64 (1)]) tB_141 rfl rfl) ?_
  refine Wl.pure (PR.moveL rfl) ?_
  refine Wl.pure (PR.moveI rfl) ?_
  refine Wl.callV (c_impl_haveParts (A := A) (n := n) (cp := cp) (p := p) (c := c) (q := q) (hR.st st) hp hc (by first | assumption | omega)) rfl ?_
  intro w2 hbel
  replace st := st.call hbel
  clear hbel
  refine Wl.pure (PR.not_ rfl) ?_
  refine Wl.pure (PR.build (ps := [(0, .bool (!(allP n p q))), (1, .int .i64 (4))]) (cs := [.bool (!(allP n p q)), .int .i64 (4)]) tB_141 rfl rfl) ?_
  refine Wl.buildSlice (ps := [(0, .agg ([.bool (!(layAll n p c)), .int .i64 (1)]).toArray), (1, .agg ([.bool (!(allP n p q)), .int .i64 (4)]).toArray)]) (cs := [.bool (!(layAll n p c)), .int .i64 (1), .bool (!(allP n p q)), .int .i64 (4)]) st tS_167 tZ_141 rfl rfl rfl ?_
  clear st
  intro b14 w3 st
  refine Wl.callV (c_impl_firstOf (bk := b14) (o := 0) (n := 2) (cp := 2) (c := (fun i => [(!(layAll n p c)), (!(allP n p q))].getD i false)) (e := (fun i => [1, 4].getD i 0)) (st.rdA (i := 0) (n := 4) rfl rfl) (by first | assumption | omega)) rfl ?_
  intro w4 hbel
  replace st := st.call hbel
  clear hbel
  refine Wl.pure (PR.assI rfl) ?_
  refine Wl.nil ?_
  refine tn ?_
  refine Wc.ret ?_
  refine postL.tmp rfl rfl ?_
  refine RetV.of ?_ st.below
  exact congrArg (Value.int .i64) first_codeP

end Go.Proofs.Ytajkjhjnbfcpfaa
