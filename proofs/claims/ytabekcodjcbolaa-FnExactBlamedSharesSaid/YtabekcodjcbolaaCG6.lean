/-
  Contracts of functions, printed by a program of ours.
-/
import Derived.Test.YtabekcodjcbolaaCG5
namespace Go.Proofs.Ytabekcodjcbolaa
open Go.RowKit
set_option linter.unusedVariables false
set_option linter.unusedSimpArgs false

set_option maxHeartbeats 400000 in
set_option maxRecDepth 4000 in
theorem c_laws_eqInt64S {A : Option Addr} {n : Nat} {cp : Nat} {c : Nat → Nat} {B : Option Addr} {cq : Nat} {w : World} (hR : RdS w A n (arrU .i64 n c)) (hQ : RdS w B n (arrU .i64 n c)) (hn : n ≤ 1048576) :
    CE Try.prog 27 [.slice (A) (n) (cp), .slice (B) (n) (cq)] w (RetV w (.bool true)) := by
  refine CE.enter 26 [(0, .slice (A) (n) (cp)), (1, .slice (B) (n) (cq))] en_27 Try.func27 rfl rfl (Nat.le_of_ble_eq_true rfl) rfl ?_
  have st := St.start w
  refine Wc.seq ?_
  refine Wc.region rfl ?_
  refine Wl.pure (PR.assB rfl) ?_
  refine Wl.nil ?_
  refine tn ?_
  refine Wc.seq ?_
  refine Wc.seq ?_
  refine Wc.region rfl ?_
  refine Wl.pure (PR.moveL rfl) ?_
  refine Wl.pure (PR.lenL tS_54 rfl) ?_
  refine Wl.pure (PR.moveL rfl) ?_
  refine Wl.pure (PR.lenL tS_54 rfl) ?_
  refine Wl.pure (PR.neqS (a := ((n : Nat) : Int)) rfl rfl) ?_
  refine Wl.nil ?_
  refine tn ?_
  refine Wc.condF rfl ?_
  refine Wc.skip ?_
  refine tn ?_
  refine Wc.seq ?_
  refine Wc.seq ?_
  refine Wc.region rfl ?_
  refine Wl.pure (PR.assI rfl) ?_
  refine Wl.nil ?_
  refine tn ?_
  refine Wc.block ?_
  refine Wc.loopF (γ := Nat) (fun g => [(0, .slice (A) (n) (cp)), (1, .slice (B) (n) (cq)), (5, .int .i64 (((g : Nat) : Int)))]) (fun g w_ => St [] w w_ [] ∧ (g ≤ n)) (fun g => n - g) ?_ ?_
  · exact ⟨0, (.cons rfl (.cons rfl (.cons rfl (.nil _)))), st, (by first | omega | (dsimp only; omega))⟩
  clear st
  rintro k w1 ⟨st, hk⟩
  try dsimp only at st hk ⊢
  refine Wc.seq ?_
  refine Wc.seq ?_
  refine Wc.region rfl ?_
  refine Wl.pure (PR.moveI rfl) ?_
  refine Wl.pure (PR.moveL rfl) ?_
  refine Wl.pure (PR.lenL tS_54 rfl) ?_
  refine Wl.pure (PR.lss (a := ((k : Nat) : Int)) (b := ((n : Nat) : Int)) rfl rfl) ?_
  refine Wl.nil ?_
  refine tn ?_
  refine Wc.condD (p := ((k : Nat) : Int) < ((n : Nat) : Int)) rfl (fun h2 => ?_) (fun h2 => ?_)
  · refine Wc.skip ?_
    refine tn ?_
    refine Wc.seq ?_
    refine Wc.block ?_
    refine Wc.seq ?_
    refine Wc.quiet hmix (by kernel_rfl) rfl ?_
    refine Wq.pure (PR.moveL rfl) ?_
    refine Wq.pure (PR.moveI rfl) ?_
    obtain ⟨bs3, os4, rfl, hs5⟩ := hR (by omega)
    refine Wq.pure (PR.idxAddrS1 (i := k) tS_54 rfl rfl (by omega)) ?_
    refine Wq.loadC tA_2 rfl ((hs5.st st).at_ (arrU_get0 (by omega)) (Nat.add_assoc _ _ _).symm) ?_
    refine Wq.pure (PR.moveL rfl) ?_
    refine Wq.pure (PR.moveI rfl) ?_
    obtain ⟨bs6, os7, rfl, hs8⟩ := hQ (by omega)
    refine Wq.pure (PR.idxAddrS1 (i := k) tS_54 rfl rfl (by omega)) ?_
    refine Wq.loadC tA_2 rfl ((hs8.st st).at_ (arrU_get0 (by omega)) (Nat.add_assoc _ _ _).symm) ?_
    refine Wq.pure (PR.neqS (a := ((c (k) : Nat) : Int)) rfl rfl) ?_
    refine Wq.nil (fun w9 hbel => ?_)
    replace st := st.call hbel
    clear hbel
    refine tn ?_
    refine Wc.condF rfl ?_
    refine Wc.skip ?_
    refine bn ?_
    refine tn ?_
    refine Wc.region rfl ?_
    refine Wl.pure (PR.moveI rfl) ?_
    refine Wl.pure (PR.add (a := ((k : Nat) : Int)) (b := 1) rfl rfl (by simp only [fitI]; omega)) ?_
    refine Wl.pure (PR.assI rfl) ?_
    refine Wl.nil ?_
    refine tn ?_
    exact ⟨k + 1, (.cons rfl (.cons rfl (.cons rfl (.nil _)))), ⟨st, (by first | omega | (dsimp only; omega))⟩, (by first | omega | (dsimp only; omega))⟩
  · refine Wc.exit ?_
    refine tx ?_
    refine tx ?_
    refine bh ?_
    refine tn ?_
    refine Wc.seq ?_
    refine Wc.region rfl ?_
    refine Wl.pure (PR.assB rfl) ?_
    refine Wl.nil ?_
    refine tn ?_
    refine Wc.ret ?_
    refine postL.tmp rfl rfl ?_
    exact RetV.of rfl st.below

set_option maxHeartbeats 400000 in
set_option maxRecDepth 4000 in
theorem c_markInt64S {ba : Nat} {n : Nat} {cp : Nat} {c : Nat → Nat} {sp : List Value} {z : Nat} {w : World} (hz : z + n ≤ 100000000) (hst : St [ba] w w [(ba, arrU .i64 n c ++ sp, 2)]) :
    CE Try.prog 28 [.slice (some ⟨ba, 0, none⟩) (n) (cp), .int .i64 (((z : Nat) : Int))] w (RetX w [ba] (.int .i64 ((((z + n) : Nat) : Int))) [(ba, arrU .i64 n (fun j => z + j) ++ sp, 2)]) := by
  refine CE.enter 19 [(0, .slice (some ⟨ba, 0, none⟩) (n) (cp)), (1, .int .i64 (((z : Nat) : Int)))] en_28 Try.func28 rfl rfl (Nat.le_of_ble_eq_true rfl) rfl ?_
  have st := hst
  refine Wc.seq ?_
  refine Wc.region rfl ?_
  refine Wl.pure (PR.assI rfl) ?_
  refine Wl.nil ?_
  refine tn ?_
  refine Wc.seq ?_
  refine Wc.seq ?_
  refine Wc.region rfl ?_
  refine Wl.pure (PR.assI rfl) ?_
  refine Wl.nil ?_
  refine tn ?_
  refine Wc.block ?_
  refine Wc.loopF (γ := Nat × Nat × (Nat → Nat)) (fun g => [(0, .slice (some ⟨ba, 0, none⟩) (n) (cp)), (1, .int .i64 (((g.2.1 : Nat) : Int))), (4, .int .i64 (0)), (5, .int .i64 (((g.1 : Nat) : Int)))]) (fun g w_ => St [ba] w w_ [(ba, arrU .i64 n g.2.2 ++ sp, 2)] ∧ (g.1 ≤ n) ∧ (g.2.1 = z + g.1) ∧ (∀ u, u < g.1 → g.2.2 u = (fun j => z + j) u)) (fun g => n - g.1) ?_ ?_
  · exact ⟨(0, z, c), (.cons rfl (.cons rfl (.cons rfl (.cons rfl (.nil _))))), st, (by first | omega | (dsimp only; omega)), (by first | omega | (dsimp only; omega)), (fun u hu => by omega)⟩
  clear st
  rintro ⟨i, y, c⟩ w1 ⟨st, hi, hy, hg⟩
  try dsimp only at st hi hy hg ⊢
  refine Wc.seq ?_
  refine Wc.seq ?_
  refine Wc.region rfl ?_
  refine Wl.pure (PR.moveI rfl) ?_
  refine Wl.pure (PR.moveL rfl) ?_
  refine Wl.pure (PR.lenL tS_54 rfl) ?_
  refine Wl.pure (PR.lss (a := ((i : Nat) : Int)) (b := ((n : Nat) : Int)) rfl rfl) ?_
  refine Wl.nil ?_
  refine tn ?_
  refine Wc.condD (p := ((i : Nat) : Int) < ((n : Nat) : Int)) rfl (fun h2 => ?_) (fun h2 => ?_)
  · refine Wc.skip ?_
    refine tn ?_
    refine Wc.seq ?_
    refine Wc.block ?_
    refine Wc.seq ?_
    refine Wc.region rfl ?_
    refine Wl.pure (PR.moveL rfl) ?_
    refine Wl.pure (PR.moveI rfl) ?_
    refine Wl.pure (PR.moveI rfl) ?_
    refine Wl.pure (PR.idxAddrS1 (i := i) tS_54 rfl rfl (by omega)) ?_
    refine Wl.store (i := 0) (cs' := arrU .i64 n (upd c (i) (y)) ++ sp) st tA_2 rfl rfl rfl rfl (app_in (lt_of_len (arrU_len _) (by omega))) (app_set (lt_of_len (arrU_len _) (by omega)) (arrU_set0)) ?_
    clear st
    intro w3 st
    replace st : St [ba] w w3 [(ba, arrU .i64 n (upd c (i) (y)) ++ sp, 2)] := st
    refine Wl.nil ?_
    refine tn ?_
    refine Wc.region rfl ?_
    refine Wl.pure (PR.moveI rfl) ?_
    refine Wl.pure (PR.add (a := ((y : Nat) : Int)) (b := 1) rfl rfl (by simp only [fitI]; omega)) ?_
    refine Wl.pure (PR.assI rfl) ?_
    refine Wl.nil ?_
    refine bn ?_
    refine tn ?_
    refine Wc.region rfl ?_
    refine Wl.pure (PR.moveI rfl) ?_
    refine Wl.pure (PR.add (a := ((i : Nat) : Int)) (b := 1) rfl rfl (by simp only [fitI]; omega)) ?_
    refine Wl.pure (PR.assI rfl) ?_
    refine Wl.nil ?_
    refine tn ?_
    exact ⟨(i + 1, (y + 1), upd c (i) (y)), (.cons rfl (.cons rfl (.cons rfl (.cons rfl (.nil _))))), ⟨st, (by first | omega | (dsimp only; omega)), (by first | omega | (dsimp only; omega)), (upd_snoc hg (by subst hy; rfl))⟩, (by first | omega | (dsimp only; omega))⟩
  · refine Wc.exit ?_
    refine tx ?_
    refine tx ?_
    refine bh ?_
    refine tn ?_
    refine Wc.seq ?_
    refine Wc.region rfl ?_
    refine Wl.pure (PR.moveI rfl) ?_
    refine Wl.pure (PR.assI rfl) ?_
    refine Wl.nil ?_
    refine tn ?_
    refine Wc.ret ?_
    refine postL.tmp rfl rfl ?_
    obtain rfl : n = i := by omega
    subst hy
    rw [arrU_congr (d := (fun j => z + j)) (fun u hu => hg u hu)] at st
    exact st.retX (by
    refine congrArg (Value.int .i64) ?_
    first | rfl | omega) rfl

set_option maxHeartbeats 400000 in
set_option maxRecDepth 4000 in
theorem c_markInt64S0 {A : Option Addr} {cp : Nat} {z : Nat} {w : World} :
    CE Try.prog 28 [.slice (A) (0) (cp), .int .i64 (((z : Nat) : Int))] w (RetV w (.int .i64 (((z : Nat) : Int)))) := by
  refine CE.enter 19 [(0, .slice (A) (0) (cp)), (1, .int .i64 (((z : Nat) : Int)))] en_28 Try.func28 rfl rfl (Nat.le_of_ble_eq_true rfl) rfl ?_
  have st := St.start w
  refine Wc.seq ?_
  refine Wc.region rfl ?_
  refine Wl.pure (PR.assI rfl) ?_
  refine Wl.nil ?_
  refine tn ?_
  refine Wc.seq ?_
  refine Wc.seq ?_
  refine Wc.region rfl ?_
  refine Wl.pure (PR.assI rfl) ?_
  refine Wl.nil ?_
  refine tn ?_
  refine Wc.block ?_
  refine Wc.loopF (γ := Unit) (fun g => [(0, .slice (A) (0) (cp)), (1, .int .i64 (((z : Nat) : Int))), (4, .int .i64 (0)), (5, .int .i64 (0))]) (fun g w_ => St [] w w_ []) (fun g => 0) ?_ ?_
  · exact ⟨(), (.cons rfl (.cons rfl (.cons rfl (.cons rfl (.nil _))))), st⟩
  clear st
  rintro u_ w1 st
  try dsimp only at st ⊢
  refine Wc.seq ?_
  refine Wc.seq ?_
  refine Wc.region rfl ?_
  refine Wl.pure (PR.moveI rfl) ?_
  refine Wl.pure (PR.moveL rfl) ?_
  refine Wl.pure (PR.lenL tS_54 rfl) ?_
  refine Wl.pure (PR.lss (a := 0) (b := 0) rfl rfl) ?_
  refine Wl.nil ?_
  refine tn ?_
  refine Wc.condD (p := 0 < 0) rfl (fun h2 => ?_) (fun h2 => ?_)
  · refine Wc.skip ?_
    refine tn ?_
    refine Wc.seq ?_
    refine Wc.block ?_
    refine Wc.seq ?_
    exfalso
    omega
  · refine Wc.exit ?_
    refine tx ?_
    refine tx ?_
    refine bh ?_
    refine tn ?_
    refine Wc.seq ?_
    refine Wc.region rfl ?_
    refine Wl.pure (PR.moveI rfl) ?_
    refine Wl.pure (PR.assI rfl) ?_
    refine Wl.nil ?_
    refine tn ?_
    refine Wc.ret ?_
    refine postL.tmp rfl rfl ?_
    exact RetV.of rfl st.below

set_option maxHeartbeats 400000 in
set_option maxRecDepth 4000 in
theorem c_laws_heldInt64S {A : Option Addr} {n : Nat} {cp : Nat} {c : Nat → Nat} {z : Nat} {w : World} (hR : RdS w A n (arrU .i64 n c)) (hz : z + n ≤ 100000000) (hck : ∀ u, u < n → c u = (fun j => z + j) u) :
    CE Try.prog 29 [.slice (A) (n) (cp), .int .i64 (((z : Nat) : Int))] w (RetV w (.int .i64 ((((z + n) : Nat) : Int)))) := by
  refine CE.enter 21 [(0, .slice (A) (n) (cp)), (1, .int .i64 (((z : Nat) : Int)))] en_29 Try.func29 rfl rfl (Nat.le_of_ble_eq_true rfl) rfl ?_
  have st := St.start w
  refine Wc.seq ?_
  refine Wc.region rfl ?_
  refine Wl.pure (PR.assI rfl) ?_
  refine Wl.nil ?_
  refine tn ?_
  refine Wc.seq ?_
  refine Wc.seq ?_
  refine Wc.region rfl ?_
  refine Wl.pure (PR.assI rfl) ?_
  refine Wl.nil ?_
  refine tn ?_
  refine Wc.block ?_
  refine Wc.loopF (γ := Nat × Nat) (fun g => [(0, .slice (A) (n) (cp)), (1, .int .i64 (((g.2 : Nat) : Int))), (5, .int .i64 (((g.1 : Nat) : Int)))]) (fun g w_ => St [] w w_ [] ∧ (g.1 ≤ n) ∧ (g.2 = z + g.1)) (fun g => n - g.1) ?_ ?_
  · exact ⟨(0, z), (.cons rfl (.cons rfl (.cons rfl (.nil _)))), st, (by first | omega | (dsimp only; omega)), (by first | omega | (dsimp only; omega))⟩
  clear st
  rintro ⟨i, y⟩ w1 ⟨st, hi, hy⟩
  try dsimp only at st hi hy ⊢
  refine Wc.seq ?_
  refine Wc.seq ?_
  refine Wc.region rfl ?_
  refine Wl.pure (PR.moveI rfl) ?_
  refine Wl.pure (PR.moveL rfl) ?_
  refine Wl.pure (PR.lenL tS_54 rfl) ?_
  refine Wl.pure (PR.lss (a := ((i : Nat) : Int)) (b := ((n : Nat) : Int)) rfl rfl) ?_
  refine Wl.nil ?_
  refine tn ?_
  refine Wc.condD (p := ((i : Nat) : Int) < ((n : Nat) : Int)) rfl (fun h2 => ?_) (fun h2 => ?_)
  · refine Wc.skip ?_
    refine tn ?_
    refine Wc.seq ?_
    refine Wc.block ?_
    refine Wc.seq ?_
    refine Wc.seq ?_
    have hck9 : c i = (fun j => z + j) i := hck i (by omega)
    simp only at hck9
    refine Wc.region rfl ?_
    refine Wl.pure (PR.moveL rfl) ?_
    refine Wl.pure (PR.moveI rfl) ?_
    obtain ⟨bs3, os4, rfl, hs5⟩ := hR (by omega)
    refine Wl.pure (PR.idxAddrS1 (i := i) tS_54 rfl rfl (by omega)) ?_
    refine Wl.loadC tA_2 rfl ((hs5.st st).at_ (arrU_get0 (by omega)) (Nat.add_assoc _ _ _).symm) ?_
    refine Wl.pure (PR.moveI rfl) ?_
    refine Wl.pure (PR.neq (a := ((c (i) : Nat) : Int)) (b := ((y : Nat) : Int)) rfl rfl) ?_
    refine Wl.nil ?_
    refine tn ?_
    refine Wc.condN (p := ((c (i) : Nat) : Int) = ((y : Nat) : Int)) rfl (fun h6 => ?_) (fun h6 => ?_)
    · refine Wc.seq ?_
      refine Wc.region rfl ?_
      refine Wl.pure (PR.assI rfl) ?_
      refine Wl.nil ?_
      refine tn ?_
      refine Wc.ret ?_
      refine tr ?_
      refine br ?_
      refine tr ?_
      refine tr ?_
      refine br ?_
      refine tr ?_
      refine postL.tmp rfl rfl ?_
      refine RetV.of ?_ st.below
      refine congrArg (Value.int .i64) ?_
      first | rfl | omega
    · refine Wc.skip ?_
      refine tn ?_
      refine Wc.region rfl ?_
      refine Wl.pure (PR.moveI rfl) ?_
      refine Wl.pure (PR.add (a := ((y : Nat) : Int)) (b := 1) rfl rfl (by simp only [fitI]; omega)) ?_
      refine Wl.pure (PR.assI rfl) ?_
      refine Wl.nil ?_
      refine bn ?_
      refine tn ?_
      refine Wc.region rfl ?_
      refine Wl.pure (PR.moveI rfl) ?_
      refine Wl.pure (PR.add (a := ((i : Nat) : Int)) (b := 1) rfl rfl (by simp only [fitI]; omega)) ?_
      refine Wl.pure (PR.assI rfl) ?_
      refine Wl.nil ?_
      refine tn ?_
      exact ⟨(i + 1, (y + 1)), (.cons rfl (.cons rfl (.cons rfl (.nil _)))), ⟨st, (by first | omega | (dsimp only; omega)), (by first | omega | (dsimp only; omega))⟩, (by first | omega | (dsimp only; omega))⟩
  · refine Wc.exit ?_
    refine tx ?_
    refine tx ?_
    refine bh ?_
    refine tn ?_
    refine Wc.seq ?_
    refine Wc.region rfl ?_
    refine Wl.pure (PR.moveI rfl) ?_
    refine Wl.pure (PR.assI rfl) ?_
    refine Wl.nil ?_
    refine tn ?_
    refine Wc.ret ?_
    refine postL.tmp rfl rfl ?_
    refine RetV.of ?_ st.below
    refine congrArg (Value.int .i64) ?_
    first | rfl | omega

set_option maxHeartbeats 400000 in
set_option maxRecDepth 4000 in
theorem c_impl_BlamedShares_t {s : Int} {p : Int} {a : Nat → Nat} {b : Nat → Nat} {x : Nat} {A : Option Addr} {n : Nat} {cp : Nat} {y : Nat → Int} {c : Nat → Nat → Nat} {w : World} (hs : -128 ≤ s ∧ s ≤ 127) (hp : -128 ≤ p ∧ p ≤ 127) (ha : ∀ k, a k < 256) (hb : ∀ k, b k < 256) (hx : x < 18446744073709551616) (hRL : RdS w A n (layS n y c)) (hg : ∀ i, i < n → -128 ≤ y i ∧ y i ≤ 127) (hc : ∀ i k, c i k < 256) (hn : n ≤ 1048576) (hcode : blC (bothC s p a b n y c) (pic (wrQ ((s).toNat) ((p).toNat) a b n c x)) (flN (fun i_ => repOk ((s).toNat) ((p).toNat) a b n c i_ x (pic (wrQ ((s).toNat) ((p).toNat) a b n c x))) (s).toNat) = 0) :
    CE Try.prog 26 [.agg (schV (s) (p) (a) (b)).toArray, .int .u64 (((x : Nat) : Int)), .slice (A) (n) (cp)] w (RetXG w [] 2 1 ((flN (fun i_ => repOk ((s).toNat) ((p).toNat) a b n c i_ x (pic (wrQ ((s).toNat) ((p).toNat) a b n c x))) (s).toNat)) (arrU .i64 (flN (fun i_ => repOk ((s).toNat) ((p).toNat) a b n c i_ x (pic (wrQ ((s).toNat) ((p).toNat) a b n c x))) (s).toNat) (fun j => (fun z => z) (flA (fun i_ => repOk ((s).toNat) ((p).toNat) a b n c i_ x (pic (wrQ ((s).toNat) ((p).toNat) a b n c x))) (s).toNat j))) (fun b_ c_ => .tuple #[.slice (some ⟨b_, 0, none⟩) ((flN (fun i_ => repOk ((s).toNat) ((p).toNat) a b n c i_ x (pic (wrQ ((s).toNat) ((p).toNat) a b n c x))) (s).toNat)) (c_), .int .i64 (0)]) []) := by
  refine CE.enter 54 [(0, .agg (schV (s) (p) (a) (b)).toArray), (1, .int .u64 (((x : Nat) : Int))), (2, .slice (A) (n) (cp))] en_26 Try.func26 rfl rfl (Nat.le_of_ble_eq_true rfl) rfl ?_
  have st := St.start w
  refine Wc.seq ?_
  refine Wc.region rfl ?_
  refine Wl.boxA st rfl ?_
  clear st
  intro b3 w1 st
  refine Wl.pure (PR.assL rfl) ?_
  refine Wl.pure (PR.assI rfl) ?_
  refine Wl.nil ?_
  refine tn ?_
  refine Wc.seq ?_
  refine Wc.seq ?_
  obtain ⟨hb9, hz9, hm9⟩ := blC_spec hcode
  refine Wc.region rfl ?_
  refine Wl.loadA (i := 0) st tA_32 rfl rfl (all_sub schV_len) schV_len ?_
  refine Wl.pure (PR.moveL rfl) ?_
  refine Wl.callV (c_impl_sharedCode (s := s) (p := p) (a := a) (b := b) (A := A) (n := n) (cp := cp) (y := y) (c := c) (by first | assumption | omega) (by first | assumption | omega) ha hb (hRL.st st) hg hc (by first | assumption | omega)) rfl ?_
  intro w2 hbel
  replace st := st.call hbel
  clear hbel
  refine Wl.pure (PR.assI rfl) ?_
  refine Wl.nil ?_
  refine tn ?_
  refine Wc.seq ?_
  refine Wc.region rfl ?_
  refine Wl.pure (PR.moveI rfl) ?_
  refine Wl.pure (PR.neq (a := ((bothC s p a b n y c : Nat) : Int)) (b := 0) rfl rfl) ?_
  refine Wl.nil ?_
  refine tn ?_
  refine Wc.condN (p := ((bothC s p a b n y c : Nat) : Int) = 0) rfl (fun h3 => ?_) (fun h3 => ?_)
  · refine Wc.seq ?_
    exfalso
    omega
  · refine Wc.skip ?_
    refine tn ?_
    refine Wc.seq ?_
    have hcode0 : bothC s p a b n y c = 0 := hb9
    obtain ⟨hok, hlay, hns⟩ := bothC_spec hcode0
    have hall := bothC_all hcode0
    obtain ⟨hs1, hp1, _⟩ := schOk_spec hok
    obtain ⟨d_, rfl⟩ : ∃ d_ : Nat, s = ((d_ : Nat) : Int) := ⟨s.toNat, by omega⟩
    obtain ⟨e_, rfl⟩ : ∃ e_ : Nat, p = ((e_ : Nat) : Int) := ⟨p.toNat, by omega⟩
    obtain ⟨_, hza, hzb⟩ := sch_zero hok
    have hns9 : n = d_ := by omega
    have hy0 : y 0 = ((e_ : Nat) : Int) := hall 0 (by omega)
    have hn6 : 1 ≤ n ∧ n ≤ 6 := by omega
    refine Wc.region rfl ?_
    refine Wl.loadA (i := 0) st tA_32 rfl rfl (all_sub schV_len) schV_len ?_
    refine Wl.pure (PR.moveI rfl) ?_
    refine Wl.pure (PR.moveL rfl) ?_
    refine Wl.callV (c_impl_Scheme_wrong (s := d_) (p := e_) (a := a) (b := b) (A := A) (n := n) (cp := cp) (y := y) (c := c) (x := x) (by first | assumption | omega) ha hb (by first | assumption | omega) (by first | assumption | omega) (by first | assumption | omega) (hRL.st st) hg hc (by first | assumption | omega) (by first | assumption | omega) hx (by first | assumption | omega)) rfl ?_
    intro w4 hbel
    replace st := st.call hbel
    clear hbel
    refine Wl.buildSlice (ps := []) (cs := arrU .i64 0 (fun _ => 0) ++ []) st tS_54 tZ_2 rfl rfl rfl ?_
    clear st
    intro b25 w5 st
    refine Wl.pure (PR.assI rfl) ?_
    refine Wl.pure (PR.assL rfl) ?_
    refine Wl.nil ?_
    refine tn ?_
    refine Wc.seq ?_
    refine Wc.seq ?_
    refine Wc.region rfl ?_
    refine Wl.pure (PR.moveI rfl) ?_
    refine Wl.pure (PR.eql (a := ((pic (wrQ d_ e_ a b n c x) : Nat) : Int)) (b := 0) rfl rfl) ?_
    refine Wl.nil ?_
    refine tn ?_
    refine Wc.condD (p := ((pic (wrQ d_ e_ a b n c x) : Nat) : Int) = 0) rfl (fun h6 => ?_) (fun h6 => ?_)
    · refine Wc.seq ?_
      exfalso
      exact absurd (show pic (wrQ d_ e_ a b n c x) = 0 by omega) hz9
    · refine Wc.skip ?_
      refine tn ?_
      refine Wc.seq ?_
      refine Wc.seq ?_
      refine Wc.region rfl ?_
      refine Wl.pure (PR.fieldAddr tF_32_0 rfl) ?_
      refine Wl.load (i := 1) st tA_22 rfl rfl (rfl) ?_
      refine Wl.pure (PR.conv (n := ((d_ : Nat) : Int)) tI_2 rfl (by simp only [fitI]; omega) Try.underlying22) ?_
      refine Wl.pure (PR.moveI rfl) ?_
      refine Wl.nil ?_
      refine tn ?_
      refine Wc.block ?_
      refine Wc.loopF (γ := Nat × Nat × (Nat → Nat) × Nat × Nat × List Value) (fun g => [(1, .int .u64 (((x : Nat) : Int))), (2, .slice (A) (n) (cp)), (3, .pointer (some ⟨b3, 0, none⟩)), (6, .slice (none) (0) (0)), (7, .int .i64 (0)), (9, .int .u64 (((pic (wrQ d_ e_ a b n c x) : Nat) : Int))), (10, .slice (some ⟨g.2.2.2.1, 0, none⟩) (g.2.1) (g.2.2.2.2.1)), (30, .int .i64 (((d_ : Nat) : Int))), (31, .int .i64 (((g.1 : Nat) : Int)))]) (fun g w_ => St [] w w_ [(g.2.2.2.1, arrU .i64 g.2.1 g.2.2.1 ++ g.2.2.2.2.2, 2), (b3, schV ((d_ : Nat) : Int) ((e_ : Nat) : Int) (a) (b), 32)] ∧ (g.1 ≤ d_) ∧ (g.2.1 = flN (fun i_ => repOk d_ e_ a b n c i_ x (pic (wrQ d_ e_ a b n c x))) g.1) ∧ (∀ j, j < g.2.1 → g.2.2.1 j = (fun z => z) (flA (fun i_ => repOk d_ e_ a b n c i_ x (pic (wrQ d_ e_ a b n c x))) g.1 j)) ∧ (g.2.1 ≤ g.2.2.2.2.1) ∧ (g.2.2.2.2.2.length = (g.2.2.2.2.1 - g.2.1) * 1)) (fun g => d_ - g.1) ?_ ?_
      · exact ⟨(0, 0, (fun _ => 0), b25, 0, []), (.cons rfl (.cons rfl (.cons rfl (.cons rfl (.cons rfl (.cons rfl (.cons rfl (.cons rfl (.cons rfl (.nil _)))))))))), st, (by first | omega | (dsimp only; omega)), rfl, (fun j hj => absurd hj (Nat.not_lt_zero _)), (Nat.le_refl _), rfl⟩
      clear st
      rintro ⟨k, mm, u, b_o, c_o, sp_o⟩ w7 ⟨st, hk, hm, hu, hc_o, hs_o⟩
      try dsimp only at st hk hm hu hc_o hs_o ⊢
      have hfl8 := flN_le (fun i_ => repOk d_ e_ a b n c i_ x (pic (wrQ d_ e_ a b n c x))) k
      refine Wc.seq ?_
      refine Wc.region rfl ?_
      refine Wl.pure (PR.lss (a := ((k : Nat) : Int)) (b := ((d_ : Nat) : Int)) rfl rfl) ?_
      refine Wl.nil ?_
      refine tn ?_
      refine Wc.seq ?_
      refine Wc.condD (p := ((k : Nat) : Int) < ((d_ : Nat) : Int)) rfl (fun h8 => ?_) (fun h8 => ?_)
      · refine Wc.skip ?_
        refine tn ?_
        refine Wc.seq ?_
        refine Wc.block ?_
        refine Wc.seq ?_
        refine Wc.region rfl ?_
        refine Wl.pure (PR.moveI rfl) ?_
        refine Wl.pure (PR.assI rfl) ?_
        refine Wl.nil ?_
        refine tn ?_
        refine Wc.seq ?_
        refine Wc.region rfl ?_
        refine Wl.loadA (i := 1) st tA_32 rfl rfl (all_sub schV_len) schV_len ?_
        refine Wl.pure (PR.moveI rfl) ?_
        refine Wl.pure (PR.moveI rfl) ?_
        refine Wl.pure (PR.moveL rfl) ?_
        refine Wl.pure (PR.moveI rfl) ?_
        refine Wl.callV (c_impl_Scheme_repaired (s := d_) (p := e_) (a := a) (b := b) (A := A) (n := n) (cp := cp) (y := y) (c := c) (i := k) (x := x) (z := pic (wrQ d_ e_ a b n c x)) (by first | assumption | omega) ha hb (by first | assumption | omega) (by first | assumption | omega) (by first | assumption | omega) (hRL.st st) hg hc (by first | assumption | omega) hx (picF_lt _ 64) (by first | assumption | omega) (by first | assumption | omega)) rfl ?_
        intro w9 hbel
        replace st := st.call hbel
        clear hbel
        refine Wl.pure (PR.moveV (.tuple #[.agg (layV (rpZ (repOk d_ e_ a b n c k x (pic (wrQ d_ e_ a b n c x))) (y k)) ((rpF (repOk d_ e_ a b n c k x (pic (wrQ d_ e_ a b n c x))) (rpC d_ e_ a b n c k x (pic (wrQ d_ e_ a b n c x)))))).toArray, .int .i64 (((rpN (repOk d_ e_ a b n c k x (pic (wrQ d_ e_ a b n c x))) (pc (pic (wrQ d_ e_ a b n c x))) : Nat) : Int)), .bool ((repOk d_ e_ a b n c k x (pic (wrQ d_ e_ a b n c x))))]) rfl) ?_
        refine Wl.pure (PR.extr (i := 0) (vs := [.agg (layV (rpZ (repOk d_ e_ a b n c k x (pic (wrQ d_ e_ a b n c x))) (y k)) ((rpF (repOk d_ e_ a b n c k x (pic (wrQ d_ e_ a b n c x))) (rpC d_ e_ a b n c k x (pic (wrQ d_ e_ a b n c x)))))).toArray, .int .i64 (((rpN (repOk d_ e_ a b n c k x (pic (wrQ d_ e_ a b n c x))) (pc (pic (wrQ d_ e_ a b n c x))) : Nat) : Int)), .bool ((repOk d_ e_ a b n c k x (pic (wrQ d_ e_ a b n c x))))]) rfl rfl) ?_
        refine Wl.pure (PR.extr (i := 1) (vs := [.agg (layV (rpZ (repOk d_ e_ a b n c k x (pic (wrQ d_ e_ a b n c x))) (y k)) ((rpF (repOk d_ e_ a b n c k x (pic (wrQ d_ e_ a b n c x))) (rpC d_ e_ a b n c k x (pic (wrQ d_ e_ a b n c x)))))).toArray, .int .i64 (((rpN (repOk d_ e_ a b n c k x (pic (wrQ d_ e_ a b n c x))) (pc (pic (wrQ d_ e_ a b n c x))) : Nat) : Int)), .bool ((repOk d_ e_ a b n c k x (pic (wrQ d_ e_ a b n c x))))]) rfl rfl) ?_
        refine Wl.pure (PR.extr (i := 2) (vs := [.agg (layV (rpZ (repOk d_ e_ a b n c k x (pic (wrQ d_ e_ a b n c x))) (y k)) ((rpF (repOk d_ e_ a b n c k x (pic (wrQ d_ e_ a b n c x))) (rpC d_ e_ a b n c k x (pic (wrQ d_ e_ a b n c x)))))).toArray, .int .i64 (((rpN (repOk d_ e_ a b n c k x (pic (wrQ d_ e_ a b n c x))) (pc (pic (wrQ d_ e_ a b n c x))) : Nat) : Int)), .bool ((repOk d_ e_ a b n c k x (pic (wrQ d_ e_ a b n c x))))]) rfl rfl) ?_
        refine Wl.alloc st tZ_49 rfl ?_
        clear st
        intro b12 w10 st
        refine Wl.storeA (i := 0) (cs' := layV (rpZ (repOk d_ e_ a b n c k x (pic (wrQ d_ e_ a b n c x))) (y k)) ((rpF (repOk d_ e_ a b n c k x (pic (wrQ d_ e_ a b n c x))) (rpC d_ e_ a b n c k x (pic (wrQ d_ e_ a b n c x)))))) st tA_49 rfl rfl layV_len layV_one rfl (le_of_len layV_len (by omega)) (all_put layV_len) ?_
        clear st
        intro w11 st
        replace st : St [] w w11 [(b12, layV (rpZ (repOk d_ e_ a b n c k x (pic (wrQ d_ e_ a b n c x))) (y k)) ((rpF (repOk d_ e_ a b n c k x (pic (wrQ d_ e_ a b n c x))) (rpC d_ e_ a b n c k x (pic (wrQ d_ e_ a b n c x))))), 49), (b_o, arrU .i64 mm u ++ sp_o, 2), (b3, schV ((d_ : Nat) : Int) ((e_ : Nat) : Int) (a) (b), 32)] := st
        refine Wl.pure (PR.assI rfl) ?_
        refine Wl.pure (PR.assB rfl) ?_
        refine Wl.nil ?_
        refine tn ?_
        refine Wc.seq ?_
        refine Wc.region rfl ?_
        refine Wl.pure (PR.moveB rfl) ?_
        refine Wl.nil ?_
        refine tn ?_
        refine Wc.condB (b := (repOk d_ e_ a b n c k x (pic (wrQ d_ e_ a b n c x)))) rfl (fun h12 => ?_) (fun h12 => ?_)
        · refine Wc.region rfl ?_
          refine Wl.pure (PR.moveL rfl) ?_
          refine Wl.pure (PR.moveI rfl) ?_
          refine Wl.buildSlice (ps := [(0, .int .i64 (((k : Nat) : Int)))]) (cs := [.int .i64 (((k : Nat) : Int))]) st tS_54 tZ_2 rfl rfl rfl ?_
          clear st
          intro b47 w13 st
          refine Wl.append (n := mm) (c := c_o) (m := 1) (cs := arrU .i64 mm u) (sp := sp_o) (vs := [.int .i64 (((k : Nat) : Int))]) (i := 2) st tS_54 tZ_2 rfl rfl rfl (by rw [(arrU_len _), Nat.mul_one]) hs_o hc_o rfl (Src.ofRdA (tyS_und tS_54) (st.rdA (i := 0) (n := 1) rfl rfl) rfl (by simp [Value.oneCell'])) (by omega) (by omega) ?_
          clear st
          intro b48 c48 sp48 w14 hc48 hs48 st
          rw [arrU_snoc] at st
          replace st : St [] w w14 [(b48, arrU .i64 (mm + 1) (upd u mm k) ++ sp48, 2), (b47, [.int .i64 (((k : Nat) : Int))], 2), (b12, layV (rpZ (repOk d_ e_ a b n c k x (pic (wrQ d_ e_ a b n c x))) (y k)) ((rpF (repOk d_ e_ a b n c k x (pic (wrQ d_ e_ a b n c x))) (rpC d_ e_ a b n c k x (pic (wrQ d_ e_ a b n c x))))), 49), (b3, schV ((d_ : Nat) : Int) ((e_ : Nat) : Int) (a) (b), 32)] := st
          refine Wl.pure (PR.assL rfl) ?_
          refine Wl.nil ?_
          refine bn ?_
          refine tn ?_
          refine Wc.region rfl ?_
          refine Wl.pure (PR.add (a := ((k : Nat) : Int)) (b := 1) rfl rfl (by simp only [fitI]; omega)) ?_
          refine Wl.pure (PR.moveI rfl) ?_
          refine Wl.nil ?_
          refine tn ?_
          replace st : St [] w w14 [(b48, arrU .i64 (mm + 1) (upd u mm k) ++ sp48, 2), (b3, schV ((d_ : Nat) : Int) ((e_ : Nat) : Int) (a) (b), 32)] := st.pick [0, 3] (by decide) rfl
          have hfl9 := flN_le (fun i_ => repOk d_ e_ a b n c i_ x (pic (wrQ d_ e_ a b n c x))) k
          exact ⟨(k + 1, mm + 1, (upd u mm k), b48, c48, sp48), (.cons rfl (.cons rfl (.cons rfl (.cons rfl (.cons rfl (.cons rfl (.cons rfl (.cons rfl (.cons rfl (.nil _)))))))))), ⟨st, (by first | omega | (dsimp only; omega)), (by first | exact flN_t hm (by assumption) | exact flN_f hm (by assumption)), (by first | exact flA_t (g := (fun z => z)) hm hu (by assumption) | exact flA_f (g := (fun z => z)) hu (by assumption)), hc48, hs48⟩, (by first | omega | (dsimp only; omega))⟩
        · refine Wc.skip ?_
          refine bn ?_
          refine tn ?_
          refine Wc.region rfl ?_
          refine Wl.pure (PR.add (a := ((k : Nat) : Int)) (b := 1) rfl rfl (by simp only [fitI]; omega)) ?_
          refine Wl.pure (PR.moveI rfl) ?_
          refine Wl.nil ?_
          refine tn ?_
          replace st := st.tail
          have hfl9 := flN_le (fun i_ => repOk d_ e_ a b n c i_ x (pic (wrQ d_ e_ a b n c x))) k
          exact ⟨(k + 1, mm, u, b_o, c_o, sp_o), (.cons rfl (.cons rfl (.cons rfl (.cons rfl (.cons rfl (.cons rfl (.cons rfl (.cons rfl (.cons rfl (.nil _)))))))))), ⟨st, (by first | omega | (dsimp only; omega)), (by first | exact flN_t hm (by assumption) | exact flN_f hm (by assumption)), (by first | exact flA_t (g := (fun z => z)) hm hu (by assumption) | exact flA_f (g := (fun z => z)) hu (by assumption)), hc_o, hs_o⟩, (by first | omega | (dsimp only; omega))⟩
      · refine Wc.exit ?_
        refine tx ?_
        refine tx ?_
        refine bh ?_
        refine tn ?_
        refine Wc.seq ?_
        refine Wc.seq ?_
        refine Wc.region rfl ?_
        refine Wl.pure (PR.moveL rfl) ?_
        refine Wl.pure (PR.lenL tS_54 rfl) ?_
        refine Wl.pure (PR.eql (a := ((mm : Nat) : Int)) (b := 0) rfl rfl) ?_
        refine Wl.nil ?_
        refine tn ?_
        refine Wc.condD (p := ((mm : Nat) : Int) = 0) rfl (fun h15 => ?_) (fun h15 => ?_)
        · refine Wc.seq ?_
          exfalso
          obtain rfl : d_ = k := by omega
          exact hm9 (hm.symm.trans (by omega))
        · refine Wc.skip ?_
          refine tn ?_
          refine Wc.seq ?_
          refine Wc.region rfl ?_
          refine Wl.pure (PR.moveL rfl) ?_
          refine Wl.pure (PR.assL rfl) ?_
          refine Wl.pure (PR.assI rfl) ?_
          refine Wl.nil ?_
          refine tn ?_
          refine Wc.ret ?_
          refine postL.tmp2 rfl rfl rfl ?_
          obtain rfl : d_ = k := by omega
          subst hm
          rw [arrU_congr (fun j hj => hu j hj)] at st
          replace st : St [] w w7 [(b_o, arrU .i64 (flN (fun i_ => repOk d_ e_ a b n c i_ x (pic (wrQ d_ e_ a b n c x))) d_) (fun j => (fun z => z) (flA (fun i_ => repOk d_ e_ a b n c i_ x (pic (wrQ d_ e_ a b n c x))) d_ j)) ++ sp_o, 2)] := st.pick [0] (by decide) rfl
          exact ⟨b_o, c_o, sp_o, hc_o, hs_o, rfl, st⟩

set_option maxHeartbeats 400000 in
set_option maxRecDepth 4000 in
theorem c_impl_BlamedShares_f {s : Int} {p : Int} {a : Nat → Nat} {b : Nat → Nat} {x : Nat} {A : Option Addr} {n : Nat} {cp : Nat} {y : Nat → Int} {c : Nat → Nat → Nat} {w : World} (hs : -128 ≤ s ∧ s ≤ 127) (hp : -128 ≤ p ∧ p ≤ 127) (ha : ∀ k, a k < 256) (hb : ∀ k, b k < 256) (hx : x < 18446744073709551616) (hRL : RdS w A n (layS n y c)) (hg : ∀ i, i < n → -128 ≤ y i ∧ y i ≤ 127) (hc : ∀ i k, c i k < 256) (hn : n ≤ 1048576) (hcode : ¬ blC (bothC s p a b n y c) (pic (wrQ ((s).toNat) ((p).toNat) a b n c x)) (flN (fun i_ => repOk ((s).toNat) ((p).toNat) a b n c i_ x (pic (wrQ ((s).toNat) ((p).toNat) a b n c x))) (s).toNat) = 0) :
    CE Try.prog 26 [.agg (schV (s) (p) (a) (b)).toArray, .int .u64 (((x : Nat) : Int)), .slice (A) (n) (cp)] w (RetV w (.tuple #[.slice (none) (0) (0), .int .i64 (((blC (bothC s p a b n y c) (pic (wrQ ((s).toNat) ((p).toNat) a b n c x)) (flN (fun i_ => repOk ((s).toNat) ((p).toNat) a b n c i_ x (pic (wrQ ((s).toNat) ((p).toNat) a b n c x))) (s).toNat) : Nat) : Int))])) := by
  refine CE.enter 54 [(0, .agg (schV (s) (p) (a) (b)).toArray), (1, .int .u64 (((x : Nat) : Int))), (2, .slice (A) (n) (cp))] en_26 Try.func26 rfl rfl (Nat.le_of_ble_eq_true rfl) rfl ?_
  have st := St.start w
  refine Wc.seq ?_
  refine Wc.region rfl ?_
  refine Wl.boxA st rfl ?_
  clear st
  intro b3 w1 st
  refine Wl.pure (PR.assL rfl) ?_
  refine Wl.pure (PR.assI rfl) ?_
  refine Wl.nil ?_
  refine tn ?_
  refine Wc.seq ?_
  refine Wc.seq ?_
  refine Wc.region rfl ?_
  refine Wl.loadA (i := 0) st tA_32 rfl rfl (all_sub schV_len) schV_len ?_
  refine Wl.pure (PR.moveL rfl) ?_
  refine Wl.callV (c_impl_sharedCode (s := s) (p := p) (a := a) (b := b) (A := A) (n := n) (cp := cp) (y := y) (c := c) (by first | assumption | omega) (by first | assumption | omega) ha hb (hRL.st st) hg hc (by first | assumption | omega)) rfl ?_
  intro w2 hbel
  replace st := st.call hbel
  clear hbel
  refine Wl.pure (PR.assI rfl) ?_
  refine Wl.nil ?_
  refine tn ?_
  refine Wc.seq ?_
  refine Wc.region rfl ?_
  refine Wl.pure (PR.moveI rfl) ?_
  refine Wl.pure (PR.neq (a := ((bothC s p a b n y c : Nat) : Int)) (b := 0) rfl rfl) ?_
  refine Wl.nil ?_
  refine tn ?_
  refine Wc.condN (p := ((bothC s p a b n y c : Nat) : Int) = 0) rfl (fun h3 => ?_) (fun h3 => ?_)
  · refine Wc.seq ?_
    refine Wc.region rfl ?_
    refine Wl.pure (PR.moveI rfl) ?_
    refine Wl.pure (PR.assL rfl) ?_
    refine Wl.pure (PR.assI rfl) ?_
    refine Wl.nil ?_
    refine tn ?_
    refine Wc.ret ?_
    refine tr ?_
    refine postL.tmp2 rfl rfl rfl ?_
    refine RetV.of ?_ st.below
    exact tup_2 rfl (congrArg (Value.int .i64) (bl_zb (by omega)))
  · refine Wc.skip ?_
    refine tn ?_
    refine Wc.seq ?_
    have hcode0 : bothC s p a b n y c = 0 := (by omega)
    obtain ⟨hok, hlay, hns⟩ := bothC_spec hcode0
    have hall := bothC_all hcode0
    obtain ⟨hs1, hp1, _⟩ := schOk_spec hok
    obtain ⟨d_, rfl⟩ : ∃ d_ : Nat, s = ((d_ : Nat) : Int) := ⟨s.toNat, by omega⟩
    obtain ⟨e_, rfl⟩ : ∃ e_ : Nat, p = ((e_ : Nat) : Int) := ⟨p.toNat, by omega⟩
    obtain ⟨_, hza, hzb⟩ := sch_zero hok
    have hns9 : n = d_ := by omega
    have hy0 : y 0 = ((e_ : Nat) : Int) := hall 0 (by omega)
    have hn6 : 1 ≤ n ∧ n ≤ 6 := by omega
    refine Wc.region rfl ?_
    refine Wl.loadA (i := 0) st tA_32 rfl rfl (all_sub schV_len) schV_len ?_
    refine Wl.pure (PR.moveI rfl) ?_
    refine Wl.pure (PR.moveL rfl) ?_
    refine Wl.callV (c_impl_Scheme_wrong (s := d_) (p := e_) (a := a) (b := b) (A := A) (n := n) (cp := cp) (y := y) (c := c) (x := x) (by first | assumption | omega) ha hb (by first | assumption | omega) (by first | assumption | omega) (by first | assumption | omega) (hRL.st st) hg hc (by first | assumption | omega) (by first | assumption | omega) hx (by first | assumption | omega)) rfl ?_
    intro w4 hbel
    replace st := st.call hbel
    clear hbel
    refine Wl.buildSlice (ps := []) (cs := arrU .i64 0 (fun _ => 0) ++ []) st tS_54 tZ_2 rfl rfl rfl ?_
    clear st
    intro b25 w5 st
    refine Wl.pure (PR.assI rfl) ?_
    refine Wl.pure (PR.assL rfl) ?_
    refine Wl.nil ?_
    refine tn ?_
    refine Wc.seq ?_
    refine Wc.seq ?_
    refine Wc.region rfl ?_
    refine Wl.pure (PR.moveI rfl) ?_
    refine Wl.pure (PR.eql (a := ((pic (wrQ d_ e_ a b n c x) : Nat) : Int)) (b := 0) rfl rfl) ?_
    refine Wl.nil ?_
    refine tn ?_
    refine Wc.condD (p := ((pic (wrQ d_ e_ a b n c x) : Nat) : Int) = 0) rfl (fun h6 => ?_) (fun h6 => ?_)
    · refine Wc.seq ?_
      refine Wc.region rfl ?_
      refine Wl.pure (PR.assL rfl) ?_
      refine Wl.pure (PR.assI rfl) ?_
      refine Wl.nil ?_
      refine tn ?_
      refine Wc.ret ?_
      refine tr ?_
      refine postL.tmp2 rfl rfl rfl ?_
      refine RetV.of ?_ st.below
      exact tup_2 rfl (congrArg (Value.int .i64) (bl_z4 hcode0 (show pic (wrQ d_ e_ a b n c x) = 0 by omega)))
    · refine Wc.skip ?_
      refine tn ?_
      refine Wc.seq ?_
      refine Wc.seq ?_
      refine Wc.region rfl ?_
      refine Wl.pure (PR.fieldAddr tF_32_0 rfl) ?_
      refine Wl.load (i := 1) st tA_22 rfl rfl (rfl) ?_
      refine Wl.pure (PR.conv (n := ((d_ : Nat) : Int)) tI_2 rfl (by simp only [fitI]; omega) Try.underlying22) ?_
      refine Wl.pure (PR.moveI rfl) ?_
      refine Wl.nil ?_
      refine tn ?_
      refine Wc.block ?_
      refine Wc.loopF (γ := Nat × Nat × (Nat → Nat) × Nat × Nat × List Value) (fun g => [(1, .int .u64 (((x : Nat) : Int))), (2, .slice (A) (n) (cp)), (3, .pointer (some ⟨b3, 0, none⟩)), (6, .slice (none) (0) (0)), (7, .int .i64 (0)), (9, .int .u64 (((pic (wrQ d_ e_ a b n c x) : Nat) : Int))), (10, .slice (some ⟨g.2.2.2.1, 0, none⟩) (g.2.1) (g.2.2.2.2.1)), (30, .int .i64 (((d_ : Nat) : Int))), (31, .int .i64 (((g.1 : Nat) : Int)))]) (fun g w_ => St [] w w_ [(g.2.2.2.1, arrU .i64 g.2.1 g.2.2.1 ++ g.2.2.2.2.2, 2), (b3, schV ((d_ : Nat) : Int) ((e_ : Nat) : Int) (a) (b), 32)] ∧ (g.1 ≤ d_) ∧ (g.2.1 = flN (fun i_ => repOk d_ e_ a b n c i_ x (pic (wrQ d_ e_ a b n c x))) g.1) ∧ (∀ j, j < g.2.1 → g.2.2.1 j = (fun z => z) (flA (fun i_ => repOk d_ e_ a b n c i_ x (pic (wrQ d_ e_ a b n c x))) g.1 j)) ∧ (g.2.1 ≤ g.2.2.2.2.1) ∧ (g.2.2.2.2.2.length = (g.2.2.2.2.1 - g.2.1) * 1)) (fun g => d_ - g.1) ?_ ?_
      · exact ⟨(0, 0, (fun _ => 0), b25, 0, []), (.cons rfl (.cons rfl (.cons rfl (.cons rfl (.cons rfl (.cons rfl (.cons rfl (.cons rfl (.cons rfl (.nil _)))))))))), st, (by first | omega | (dsimp only; omega)), rfl, (fun j hj => absurd hj (Nat.not_lt_zero _)), (Nat.le_refl _), rfl⟩
      clear st
      rintro ⟨k, mm, u, b_o, c_o, sp_o⟩ w7 ⟨st, hk, hm, hu, hc_o, hs_o⟩
      try dsimp only at st hk hm hu hc_o hs_o ⊢
      have hfl8 := flN_le (fun i_ => repOk d_ e_ a b n c i_ x (pic (wrQ d_ e_ a b n c x))) k
      refine Wc.seq ?_
      refine Wc.region rfl ?_
      refine Wl.pure (PR.lss (a := ((k : Nat) : Int)) (b := ((d_ : Nat) : Int)) rfl rfl) ?_
      refine Wl.nil ?_
      refine tn ?_
      refine Wc.seq ?_
      refine Wc.condD (p := ((k : Nat) : Int) < ((d_ : Nat) : Int)) rfl (fun h8 => ?_) (fun h8 => ?_)
      · refine Wc.skip ?_
        refine tn ?_
        refine Wc.seq ?_
        refine Wc.block ?_
        refine Wc.seq ?_
        refine Wc.region rfl ?_
        refine Wl.pure (PR.moveI rfl) ?_
        refine Wl.pure (PR.assI rfl) ?_
        refine Wl.nil ?_
        refine tn ?_
        refine Wc.seq ?_
        refine Wc.region rfl ?_
        refine Wl.loadA (i := 1) st tA_32 rfl rfl (all_sub schV_len) schV_len ?_
        refine Wl.pure (PR.moveI rfl) ?_
        refine Wl.pure (PR.moveI rfl) ?_
        refine Wl.pure (PR.moveL rfl) ?_
        refine Wl.pure (PR.moveI rfl) ?_
        refine Wl.callV (c_impl_Scheme_repaired (s := d_) (p := e_) (a := a) (b := b) (A := A) (n := n) (cp := cp) (y := y) (c := c) (i := k) (x := x) (z := pic (wrQ d_ e_ a b n c x)) (by first | assumption | omega) ha hb (by first | assumption | omega) (by first | assumption | omega) (by first | assumption | omega) (hRL.st st) hg hc (by first | assumption | omega) hx (picF_lt _ 64) (by first | assumption | omega) (by first | assumption | omega)) rfl ?_
        intro w9 hbel
        replace st := st.call hbel
        clear hbel
        refine Wl.pure (PR.moveV (.tuple #[.agg (layV (rpZ (repOk d_ e_ a b n c k x (pic (wrQ d_ e_ a b n c x))) (y k)) ((rpF (repOk d_ e_ a b n c k x (pic (wrQ d_ e_ a b n c x))) (rpC d_ e_ a b n c k x (pic (wrQ d_ e_ a b n c x)))))).toArray, .int .i64 (((rpN (repOk d_ e_ a b n c k x (pic (wrQ d_ e_ a b n c x))) (pc (pic (wrQ d_ e_ a b n c x))) : Nat) : Int)), .bool ((repOk d_ e_ a b n c k x (pic (wrQ d_ e_ a b n c x))))]) rfl) ?_
        refine Wl.pure (PR.extr (i := 0) (vs := [.agg (layV (rpZ (repOk d_ e_ a b n c k x (pic (wrQ d_ e_ a b n c x))) (y k)) ((rpF (repOk d_ e_ a b n c k x (pic (wrQ d_ e_ a b n c x))) (rpC d_ e_ a b n c k x (pic (wrQ d_ e_ a b n c x)))))).toArray, .int .i64 (((rpN (repOk d_ e_ a b n c k x (pic (wrQ d_ e_ a b n c x))) (pc (pic (wrQ d_ e_ a b n c x))) : Nat) : Int)), .bool ((repOk d_ e_ a b n c k x (pic (wrQ d_ e_ a b n c x))))]) rfl rfl) ?_
        refine Wl.pure (PR.extr (i := 1) (vs := [.agg (layV (rpZ (repOk d_ e_ a b n c k x (pic (wrQ d_ e_ a b n c x))) (y k)) ((rpF (repOk d_ e_ a b n c k x (pic (wrQ d_ e_ a b n c x))) (rpC d_ e_ a b n c k x (pic (wrQ d_ e_ a b n c x)))))).toArray, .int .i64 (((rpN (repOk d_ e_ a b n c k x (pic (wrQ d_ e_ a b n c x))) (pc (pic (wrQ d_ e_ a b n c x))) : Nat) : Int)), .bool ((repOk d_ e_ a b n c k x (pic (wrQ d_ e_ a b n c x))))]) rfl rfl) ?_
        refine Wl.pure (PR.extr (i := 2) (vs := [.agg (layV (rpZ (repOk d_ e_ a b n c k x (pic (wrQ d_ e_ a b n c x))) (y k)) ((rpF (repOk d_ e_ a b n c k x (pic (wrQ d_ e_ a b n c x))) (rpC d_ e_ a b n c k x (pic (wrQ d_ e_ a b n c x)))))).toArray, .int .i64 (((rpN (repOk d_ e_ a b n c k x (pic (wrQ d_ e_ a b n c x))) (pc (pic (wrQ d_ e_ a b n c x))) : Nat) : Int)), .bool ((repOk d_ e_ a b n c k x (pic (wrQ d_ e_ a b n c x))))]) rfl rfl) ?_
        refine Wl.alloc st tZ_49 rfl ?_
        clear st
        intro b12 w10 st
        refine Wl.storeA (i := 0) (cs' := layV (rpZ (repOk d_ e_ a b n c k x (pic (wrQ d_ e_ a b n c x))) (y k)) ((rpF (repOk d_ e_ a b n c k x (pic (wrQ d_ e_ a b n c x))) (rpC d_ e_ a b n c k x (pic (wrQ d_ e_ a b n c x)))))) st tA_49 rfl rfl layV_len layV_one rfl (le_of_len layV_len (by omega)) (all_put layV_len) ?_
        clear st
        intro w11 st
        replace st : St [] w w11 [(b12, layV (rpZ (repOk d_ e_ a b n c k x (pic (wrQ d_ e_ a b n c x))) (y k)) ((rpF (repOk d_ e_ a b n c k x (pic (wrQ d_ e_ a b n c x))) (rpC d_ e_ a b n c k x (pic (wrQ d_ e_ a b n c x))))), 49), (b_o, arrU .i64 mm u ++ sp_o, 2), (b3, schV ((d_ : Nat) : Int) ((e_ : Nat) : Int) (a) (b), 32)] := st
        refine Wl.pure (PR.assI rfl) ?_
        refine Wl.pure (PR.assB rfl) ?_
        refine Wl.nil ?_
        refine tn ?_
        refine Wc.seq ?_
        refine Wc.region rfl ?_
        refine Wl.pure (PR.moveB rfl) ?_
        refine Wl.nil ?_
        refine tn ?_
        refine Wc.condB (b := (repOk d_ e_ a b n c k x (pic (wrQ d_ e_ a b n c x)))) rfl (fun h12 => ?_) (fun h12 => ?_)
        · refine Wc.region rfl ?_
          refine Wl.pure (PR.moveL rfl) ?_
          refine Wl.pure (PR.moveI rfl) ?_
          refine Wl.buildSlice (ps := [(0, .int .i64 (((k : Nat) : Int)))]) (cs := [.int .i64 (((k : Nat) : Int))]) st tS_54 tZ_2 rfl rfl rfl ?_
          clear st
          intro b47 w13 st
          refine Wl.append (n := mm) (c := c_o) (m := 1) (cs := arrU .i64 mm u) (sp := sp_o) (vs := [.int .i64 (((k : Nat) : Int))]) (i := 2) st tS_54 tZ_2 rfl rfl rfl (by rw [(arrU_len _), Nat.mul_one]) hs_o hc_o rfl (Src.ofRdA (tyS_und tS_54) (st.rdA (i := 0) (n := 1) rfl rfl) rfl (by simp [Value.oneCell'])) (by omega) (by omega) ?_
          clear st
          intro b48 c48 sp48 w14 hc48 hs48 st
          rw [arrU_snoc] at st
          replace st : St [] w w14 [(b48, arrU .i64 (mm + 1) (upd u mm k) ++ sp48, 2), (b47, [.int .i64 (((k : Nat) : Int))], 2), (b12, layV (rpZ (repOk d_ e_ a b n c k x (pic (wrQ d_ e_ a b n c x))) (y k)) ((rpF (repOk d_ e_ a b n c k x (pic (wrQ d_ e_ a b n c x))) (rpC d_ e_ a b n c k x (pic (wrQ d_ e_ a b n c x))))), 49), (b3, schV ((d_ : Nat) : Int) ((e_ : Nat) : Int) (a) (b), 32)] := st
          refine Wl.pure (PR.assL rfl) ?_
          refine Wl.nil ?_
          refine bn ?_
          refine tn ?_
          refine Wc.region rfl ?_
          refine Wl.pure (PR.add (a := ((k : Nat) : Int)) (b := 1) rfl rfl (by simp only [fitI]; omega)) ?_
          refine Wl.pure (PR.moveI rfl) ?_
          refine Wl.nil ?_
          refine tn ?_
          replace st : St [] w w14 [(b48, arrU .i64 (mm + 1) (upd u mm k) ++ sp48, 2), (b3, schV ((d_ : Nat) : Int) ((e_ : Nat) : Int) (a) (b), 32)] := st.pick [0, 3] (by decide) rfl
          have hfl9 := flN_le (fun i_ => repOk d_ e_ a b n c i_ x (pic (wrQ d_ e_ a b n c x))) k
          exact ⟨(k + 1, mm + 1, (upd u mm k), b48, c48, sp48), (.cons rfl (.cons rfl (.cons rfl (.cons rfl (.cons rfl (.cons rfl (.cons rfl (.cons rfl (.cons rfl (.nil _)))))))))), ⟨st, (by first | omega | (dsimp only; omega)), (by first | exact flN_t hm (by assumption) | exact flN_f hm (by assumption)), (by first | exact flA_t (g := (fun z => z)) hm hu (by assumption) | exact flA_f (g := (fun z => z)) hu (by assumption)), hc48, hs48⟩, (by first | omega | (dsimp only; omega))⟩
        · refine Wc.skip ?_
          refine bn ?_
          refine tn ?_
          refine Wc.region rfl ?_
          refine Wl.pure (PR.add (a := ((k : Nat) : Int)) (b := 1) rfl rfl (by simp only [fitI]; omega)) ?_
          refine Wl.pure (PR.moveI rfl) ?_
          refine Wl.nil ?_
          refine tn ?_
          replace st := st.tail
          have hfl9 := flN_le (fun i_ => repOk d_ e_ a b n c i_ x (pic (wrQ d_ e_ a b n c x))) k
          exact ⟨(k + 1, mm, u, b_o, c_o, sp_o), (.cons rfl (.cons rfl (.cons rfl (.cons rfl (.cons rfl (.cons rfl (.cons rfl (.cons rfl (.cons rfl (.nil _)))))))))), ⟨st, (by first | omega | (dsimp only; omega)), (by first | exact flN_t hm (by assumption) | exact flN_f hm (by assumption)), (by first | exact flA_t (g := (fun z => z)) hm hu (by assumption) | exact flA_f (g := (fun z => z)) hu (by assumption)), hc_o, hs_o⟩, (by first | omega | (dsimp only; omega))⟩
      · refine Wc.exit ?_
        refine tx ?_
        refine tx ?_
        refine bh ?_
        refine tn ?_
        refine Wc.seq ?_
        refine Wc.seq ?_
        refine Wc.region rfl ?_
        refine Wl.pure (PR.moveL rfl) ?_
        refine Wl.pure (PR.lenL tS_54 rfl) ?_
        refine Wl.pure (PR.eql (a := ((mm : Nat) : Int)) (b := 0) rfl rfl) ?_
        refine Wl.nil ?_
        refine tn ?_
        refine Wc.condD (p := ((mm : Nat) : Int) = 0) rfl (fun h15 => ?_) (fun h15 => ?_)
        · refine Wc.seq ?_
          refine Wc.region rfl ?_
          refine Wl.pure (PR.assL rfl) ?_
          refine Wl.pure (PR.assI rfl) ?_
          refine Wl.nil ?_
          refine tn ?_
          refine Wc.ret ?_
          refine tr ?_
          refine postL.tmp2 rfl rfl rfl ?_
          refine RetV.of ?_ st.below
          obtain rfl : d_ = k := by omega
          exact tup_2 rfl (congrArg (Value.int .i64) (bl_z6 hcode0 (show ¬ pic (wrQ d_ e_ a b n c x) = 0 by omega) (hm.symm.trans (by omega))))
        · refine Wc.skip ?_
          refine tn ?_
          refine Wc.seq ?_
          exfalso
          obtain rfl : d_ = k := by omega
          exact hcode (blC_0 hcode0 (show ¬ pic (wrQ d_ e_ a b n c x) = 0 by omega) (fun h9 => absurd (hm.trans h9) (by omega)))

set_option maxHeartbeats 400000 in
set_option maxRecDepth 4000 in
theorem c_spec_BlamedShares_t {s : Int} {p : Int} {a : Nat → Nat} {b : Nat → Nat} {x : Nat} {A : Option Addr} {n : Nat} {cp : Nat} {y : Nat → Int} {c : Nat → Nat → Nat} {w : World} (hs : -128 ≤ s ∧ s ≤ 127) (hp : -128 ≤ p ∧ p ≤ 127) (ha : ∀ k, a k < 256) (hb : ∀ k, b k < 256) (hx : x < 18446744073709551616) (hRL : RdS w A n (layS n y c)) (hg : ∀ i, i < n → -128 ≤ y i ∧ y i ≤ 127) (hc : ∀ i k, c i k < 256) (hn : n ≤ 1048576) (hcode : blC (bothC s p a b n y c) (pic (wrQ ((s).toNat) ((p).toNat) a b n c x)) (flN (fun i_ => repOk ((s).toNat) ((p).toNat) a b n c i_ x (pic (wrQ ((s).toNat) ((p).toNat) a b n c x))) (s).toNat) = 0) :
    CE Try.prog 25 [.agg (schV (s) (p) (a) (b)).toArray, .int .u64 (((x : Nat) : Int)), .slice (A) (n) (cp)] w (RetXG w [] 2 1 ((flN (fun i_ => repOk ((s).toNat) ((p).toNat) a b n c i_ x (pic (wrQ ((s).toNat) ((p).toNat) a b n c x))) (s).toNat)) (arrU .i64 (flN (fun i_ => repOk ((s).toNat) ((p).toNat) a b n c i_ x (pic (wrQ ((s).toNat) ((p).toNat) a b n c x))) (s).toNat) (fun j => (fun z => z) (flA (fun i_ => repOk ((s).toNat) ((p).toNat) a b n c i_ x (pic (wrQ ((s).toNat) ((p).toNat) a b n c x))) (s).toNat j))) (fun b_ c_ => .tuple #[.slice (some ⟨b_, 0, none⟩) ((flN (fun i_ => repOk ((s).toNat) ((p).toNat) a b n c i_ x (pic (wrQ ((s).toNat) ((p).toNat) a b n c x))) (s).toNat)) (c_), .int .i64 (0)]) []) := by
  refine CE.enter 51 [(0, .agg (schV (s) (p) (a) (b)).toArray), (1, .int .u64 (((x : Nat) : Int))), (2, .slice (A) (n) (cp))] en_25 Try.func25 rfl rfl (Nat.le_of_ble_eq_true rfl) rfl ?_
  have st := St.start w
  refine Wc.seq ?_
  refine Wc.region rfl ?_
  refine Wl.boxA st rfl ?_
  clear st
  intro b3 w1 st
  refine Wl.pure (PR.assL rfl) ?_
  refine Wl.pure (PR.assI rfl) ?_
  refine Wl.nil ?_
  refine tn ?_
  refine Wc.seq ?_
  refine Wc.seq ?_
  obtain ⟨hb9, hz9, hm9⟩ := blC_spec hcode
  refine Wc.region rfl ?_
  refine Wl.pure (PR.moveL rfl) ?_
  refine Wl.callV (c_spec_l03Both (bk := b3) (o := 0) (s := s) (p := p) (a := a) (b := b) (A := A) (n := n) (cp := cp) (y := y) (c := c) (st.rdA (i := 0) rfl (all_sub schV_len)) (by first | assumption | omega) (by first | assumption | omega) ha hb (hRL.st st) hg hc (by first | assumption | omega)) rfl ?_
  intro w2 hbel
  replace st := st.call hbel
  clear hbel
  refine Wl.pure (PR.assI rfl) ?_
  refine Wl.nil ?_
  refine tn ?_
  refine Wc.seq ?_
  refine Wc.region rfl ?_
  refine Wl.pure (PR.moveI rfl) ?_
  refine Wl.pure (PR.neq (a := ((bothC s p a b n y c : Nat) : Int)) (b := 0) rfl rfl) ?_
  refine Wl.nil ?_
  refine tn ?_
  refine Wc.condN (p := ((bothC s p a b n y c : Nat) : Int) = 0) rfl (fun h3 => ?_) (fun h3 => ?_)
  · refine Wc.seq ?_
    exfalso
    omega
  · refine Wc.skip ?_
    refine tn ?_
    refine Wc.seq ?_
    refine Wc.seq ?_
    have hcode0 : bothC s p a b n y c = 0 := hb9
    obtain ⟨hok, hlay, hns⟩ := bothC_spec hcode0
    have hall := bothC_all hcode0
    obtain ⟨hs1, hp1, _⟩ := schOk_spec hok
    obtain ⟨d_, rfl⟩ : ∃ d_ : Nat, s = ((d_ : Nat) : Int) := ⟨s.toNat, by omega⟩
    obtain ⟨e_, rfl⟩ : ∃ e_ : Nat, p = ((e_ : Nat) : Int) := ⟨p.toNat, by omega⟩
    obtain ⟨_, hza, hzb⟩ := sch_zero hok
    have hns9 : n = d_ := by omega
    have hy0 : y 0 = ((e_ : Nat) : Int) := hall 0 (by omega)
    have hn6 : 1 ≤ n ∧ n ≤ 6 := by omega
    refine Wc.region rfl ?_
    refine Wl.pure (PR.moveI rfl) ?_
    refine Wl.pure (PR.moveL rfl) ?_
    refine Wl.callV (c_spec_l07Wrong (bk := b3) (o := 0) (s := d_) (p := e_) (a := a) (b := b) (A := A) (n := n) (cp := cp) (y := y) (c := c) (x := x) (st.rdA (i := 0) rfl (all_sub schV_len)) (by first | assumption | omega) ha hb (by first | assumption | omega) (hRL.st st) hg hc (by first | assumption | omega) hx (by first | assumption | omega)) rfl ?_
    intro w4 hbel
    replace st := st.call hbel
    clear hbel
    refine Wl.pure (PR.eql (a := ((pic (wrQ d_ e_ a b n c x) : Nat) : Int)) (b := 0) rfl rfl) ?_
    refine Wl.nil ?_
    refine tn ?_
    refine Wc.condD (p := ((pic (wrQ d_ e_ a b n c x) : Nat) : Int) = 0) rfl (fun h5 => ?_) (fun h5 => ?_)
    · refine Wc.seq ?_
      exfalso
      exact absurd (show pic (wrQ d_ e_ a b n c x) = 0 by omega) hz9
    · refine Wc.skip ?_
      refine tn ?_
      refine Wc.seq ?_
      refine Wc.region rfl ?_
      refine Wl.buildSlice (ps := []) (cs := arrU .i64 0 (fun _ => 0) ++ []) st tS_54 tZ_2 rfl rfl rfl ?_
      clear st
      intro b25 w6 st
      refine Wl.pure (PR.assL rfl) ?_
      refine Wl.nil ?_
      refine tn ?_
      refine Wc.seq ?_
      refine Wc.seq ?_
      refine Wc.region rfl ?_
      refine Wl.pure (PR.assI rfl) ?_
      refine Wl.nil ?_
      refine tn ?_
      refine Wc.block ?_
      refine Wc.loopF (γ := Nat × Nat × (Nat → Nat) × Nat × Nat × List Value) (fun g => [(1, .int .u64 (((x : Nat) : Int))), (2, .slice (A) (n) (cp)), (3, .pointer (some ⟨b3, 0, none⟩)), (6, .slice (none) (0) (0)), (7, .int .i64 (0)), (9, .slice (some ⟨g.2.2.2.1, 0, none⟩) (g.2.1) (g.2.2.2.2.1)), (10, .int .i64 (((g.1 : Nat) : Int)))]) (fun g w_ => St [] w w_ [(g.2.2.2.1, arrU .i64 g.2.1 g.2.2.1 ++ g.2.2.2.2.2, 2), (b3, schV ((d_ : Nat) : Int) ((e_ : Nat) : Int) (a) (b), 32)] ∧ (g.1 ≤ d_) ∧ (g.2.1 = flN (fun i_ => repOk d_ e_ a b n c i_ x (pic (wrQ d_ e_ a b n c x))) g.1) ∧ (∀ j, j < g.2.1 → g.2.2.1 j = (fun z => z) (flA (fun i_ => repOk d_ e_ a b n c i_ x (pic (wrQ d_ e_ a b n c x))) g.1 j)) ∧ (g.2.1 ≤ g.2.2.2.2.1) ∧ (g.2.2.2.2.2.length = (g.2.2.2.2.1 - g.2.1) * 1)) (fun g => d_ - g.1) ?_ ?_
      · exact ⟨(0, 0, (fun _ => 0), b25, 0, []), (.cons rfl (.cons rfl (.cons rfl (.cons rfl (.cons rfl (.cons rfl (.cons rfl (.nil _)))))))), st, (by first | omega | (dsimp only; omega)), rfl, (fun j hj => absurd hj (Nat.not_lt_zero _)), (Nat.le_refl _), rfl⟩
      clear st
      rintro ⟨k, mm, u, b_o, c_o, sp_o⟩ w7 ⟨st, hk, hm, hu, hc_o, hs_o⟩
      try dsimp only at st hk hm hu hc_o hs_o ⊢
      have hfl8 := flN_le (fun i_ => repOk d_ e_ a b n c i_ x (pic (wrQ d_ e_ a b n c x))) k
      refine Wc.seq ?_
      refine Wc.seq ?_
      refine Wc.region rfl ?_
      refine Wl.pure (PR.moveI rfl) ?_
      refine Wl.pure (PR.fieldAddr tF_32_0 rfl) ?_
      refine Wl.load (i := 1) st tA_22 rfl rfl (rfl) ?_
      refine Wl.pure (PR.conv (n := ((d_ : Nat) : Int)) tI_2 rfl (by simp only [fitI]; omega) Try.underlying22) ?_
      refine Wl.pure (PR.lss (a := ((k : Nat) : Int)) (b := ((d_ : Nat) : Int)) rfl rfl) ?_
      refine Wl.nil ?_
      refine tn ?_
      refine Wc.condD (p := ((k : Nat) : Int) < ((d_ : Nat) : Int)) rfl (fun h8 => ?_) (fun h8 => ?_)
      · refine Wc.skip ?_
        refine tn ?_
        refine Wc.seq ?_
        refine Wc.block ?_
        refine Wc.seq ?_
        refine Wc.region rfl ?_
        refine Wl.pure (PR.moveI rfl) ?_
        refine Wl.pure (PR.moveL rfl) ?_
        refine Wl.pure (PR.moveI rfl) ?_
        refine Wl.callV (c_spec_l07Repaired (bk := b3) (o := 0) (s := d_) (p := e_) (a := a) (b := b) (A := A) (n := n) (cp := cp) (y := y) (c := c) (i := k) (x := x) (st.rdA (i := 1) rfl (all_sub schV_len)) (by first | assumption | omega) ha hb (by first | assumption | omega) (hRL.st st) hg hc (by first | assumption | omega) hx (by first | assumption | omega) (by first | assumption | omega)) rfl ?_
        intro w9 hbel
        replace st := st.call hbel
        clear hbel
        refine Wl.pure (PR.moveV (.tuple #[.agg (layV (rpZ (repOk d_ e_ a b n c k x (pic (wrQ d_ e_ a b n c x))) (y k)) ((rpF (repOk d_ e_ a b n c k x (pic (wrQ d_ e_ a b n c x))) (rpC d_ e_ a b n c k x (pic (wrQ d_ e_ a b n c x)))))).toArray, .int .i64 (((rpN (repOk d_ e_ a b n c k x (pic (wrQ d_ e_ a b n c x))) (pc (pic (wrQ d_ e_ a b n c x))) : Nat) : Int)), .bool ((repOk d_ e_ a b n c k x (pic (wrQ d_ e_ a b n c x))))]) rfl) ?_
        refine Wl.pure (PR.extr (i := 0) (vs := [.agg (layV (rpZ (repOk d_ e_ a b n c k x (pic (wrQ d_ e_ a b n c x))) (y k)) ((rpF (repOk d_ e_ a b n c k x (pic (wrQ d_ e_ a b n c x))) (rpC d_ e_ a b n c k x (pic (wrQ d_ e_ a b n c x)))))).toArray, .int .i64 (((rpN (repOk d_ e_ a b n c k x (pic (wrQ d_ e_ a b n c x))) (pc (pic (wrQ d_ e_ a b n c x))) : Nat) : Int)), .bool ((repOk d_ e_ a b n c k x (pic (wrQ d_ e_ a b n c x))))]) rfl rfl) ?_
        refine Wl.pure (PR.extr (i := 1) (vs := [.agg (layV (rpZ (repOk d_ e_ a b n c k x (pic (wrQ d_ e_ a b n c x))) (y k)) ((rpF (repOk d_ e_ a b n c k x (pic (wrQ d_ e_ a b n c x))) (rpC d_ e_ a b n c k x (pic (wrQ d_ e_ a b n c x)))))).toArray, .int .i64 (((rpN (repOk d_ e_ a b n c k x (pic (wrQ d_ e_ a b n c x))) (pc (pic (wrQ d_ e_ a b n c x))) : Nat) : Int)), .bool ((repOk d_ e_ a b n c k x (pic (wrQ d_ e_ a b n c x))))]) rfl rfl) ?_
        refine Wl.pure (PR.extr (i := 2) (vs := [.agg (layV (rpZ (repOk d_ e_ a b n c k x (pic (wrQ d_ e_ a b n c x))) (y k)) ((rpF (repOk d_ e_ a b n c k x (pic (wrQ d_ e_ a b n c x))) (rpC d_ e_ a b n c k x (pic (wrQ d_ e_ a b n c x)))))).toArray, .int .i64 (((rpN (repOk d_ e_ a b n c k x (pic (wrQ d_ e_ a b n c x))) (pc (pic (wrQ d_ e_ a b n c x))) : Nat) : Int)), .bool ((repOk d_ e_ a b n c k x (pic (wrQ d_ e_ a b n c x))))]) rfl rfl) ?_
        refine Wl.alloc st tZ_49 rfl ?_
        clear st
        intro b11 w10 st
        refine Wl.storeA (i := 0) (cs' := layV (rpZ (repOk d_ e_ a b n c k x (pic (wrQ d_ e_ a b n c x))) (y k)) ((rpF (repOk d_ e_ a b n c k x (pic (wrQ d_ e_ a b n c x))) (rpC d_ e_ a b n c k x (pic (wrQ d_ e_ a b n c x)))))) st tA_49 rfl rfl layV_len layV_one rfl (le_of_len layV_len (by omega)) (all_put layV_len) ?_
        clear st
        intro w11 st
        replace st : St [] w w11 [(b11, layV (rpZ (repOk d_ e_ a b n c k x (pic (wrQ d_ e_ a b n c x))) (y k)) ((rpF (repOk d_ e_ a b n c k x (pic (wrQ d_ e_ a b n c x))) (rpC d_ e_ a b n c k x (pic (wrQ d_ e_ a b n c x))))), 49), (b_o, arrU .i64 mm u ++ sp_o, 2), (b3, schV ((d_ : Nat) : Int) ((e_ : Nat) : Int) (a) (b), 32)] := st
        refine Wl.pure (PR.assI rfl) ?_
        refine Wl.pure (PR.assB rfl) ?_
        refine Wl.nil ?_
        refine tn ?_
        refine Wc.seq ?_
        refine Wc.region rfl ?_
        refine Wl.pure (PR.moveB rfl) ?_
        refine Wl.nil ?_
        refine tn ?_
        refine Wc.condB (b := (repOk d_ e_ a b n c k x (pic (wrQ d_ e_ a b n c x)))) rfl (fun h12 => ?_) (fun h12 => ?_)
        · refine Wc.region rfl ?_
          refine Wl.pure (PR.moveL rfl) ?_
          refine Wl.pure (PR.moveI rfl) ?_
          refine Wl.buildSlice (ps := [(0, .int .i64 (((k : Nat) : Int)))]) (cs := [.int .i64 (((k : Nat) : Int))]) st tS_54 tZ_2 rfl rfl rfl ?_
          clear st
          intro b44 w13 st
          refine Wl.append (n := mm) (c := c_o) (m := 1) (cs := arrU .i64 mm u) (sp := sp_o) (vs := [.int .i64 (((k : Nat) : Int))]) (i := 2) st tS_54 tZ_2 rfl rfl rfl (by rw [(arrU_len _), Nat.mul_one]) hs_o hc_o rfl (Src.ofRdA (tyS_und tS_54) (st.rdA (i := 0) (n := 1) rfl rfl) rfl (by simp [Value.oneCell'])) (by omega) (by omega) ?_
          clear st
          intro b45 c45 sp45 w14 hc45 hs45 st
          rw [arrU_snoc] at st
          replace st : St [] w w14 [(b45, arrU .i64 (mm + 1) (upd u mm k) ++ sp45, 2), (b44, [.int .i64 (((k : Nat) : Int))], 2), (b11, layV (rpZ (repOk d_ e_ a b n c k x (pic (wrQ d_ e_ a b n c x))) (y k)) ((rpF (repOk d_ e_ a b n c k x (pic (wrQ d_ e_ a b n c x))) (rpC d_ e_ a b n c k x (pic (wrQ d_ e_ a b n c x))))), 49), (b3, schV ((d_ : Nat) : Int) ((e_ : Nat) : Int) (a) (b), 32)] := st
          refine Wl.pure (PR.assL rfl) ?_
          refine Wl.nil ?_
          refine bn ?_
          refine tn ?_
          refine Wc.region rfl ?_
          refine Wl.pure (PR.moveI rfl) ?_
          refine Wl.pure (PR.add (a := ((k : Nat) : Int)) (b := 1) rfl rfl (by simp only [fitI]; omega)) ?_
          refine Wl.pure (PR.assI rfl) ?_
          refine Wl.nil ?_
          refine tn ?_
          replace st : St [] w w14 [(b45, arrU .i64 (mm + 1) (upd u mm k) ++ sp45, 2), (b3, schV ((d_ : Nat) : Int) ((e_ : Nat) : Int) (a) (b), 32)] := st.pick [0, 3] (by decide) rfl
          have hfl9 := flN_le (fun i_ => repOk d_ e_ a b n c i_ x (pic (wrQ d_ e_ a b n c x))) k
          exact ⟨(k + 1, mm + 1, (upd u mm k), b45, c45, sp45), (.cons rfl (.cons rfl (.cons rfl (.cons rfl (.cons rfl (.cons rfl (.cons rfl (.nil _)))))))), ⟨st, (by first | omega | (dsimp only; omega)), (by first | exact flN_t hm (by assumption) | exact flN_f hm (by assumption)), (by first | exact flA_t (g := (fun z => z)) hm hu (by assumption) | exact flA_f (g := (fun z => z)) hu (by assumption)), hc45, hs45⟩, (by first | omega | (dsimp only; omega))⟩
        · refine Wc.skip ?_
          refine bn ?_
          refine tn ?_
          refine Wc.region rfl ?_
          refine Wl.pure (PR.moveI rfl) ?_
          refine Wl.pure (PR.add (a := ((k : Nat) : Int)) (b := 1) rfl rfl (by simp only [fitI]; omega)) ?_
          refine Wl.pure (PR.assI rfl) ?_
          refine Wl.nil ?_
          refine tn ?_
          replace st := st.tail
          have hfl9 := flN_le (fun i_ => repOk d_ e_ a b n c i_ x (pic (wrQ d_ e_ a b n c x))) k
          exact ⟨(k + 1, mm, u, b_o, c_o, sp_o), (.cons rfl (.cons rfl (.cons rfl (.cons rfl (.cons rfl (.cons rfl (.cons rfl (.nil _)))))))), ⟨st, (by first | omega | (dsimp only; omega)), (by first | exact flN_t hm (by assumption) | exact flN_f hm (by assumption)), (by first | exact flA_t (g := (fun z => z)) hm hu (by assumption) | exact flA_f (g := (fun z => z)) hu (by assumption)), hc_o, hs_o⟩, (by first | omega | (dsimp only; omega))⟩
      · refine Wc.exit ?_
        refine tx ?_
        refine tx ?_
        refine bh ?_
        refine tn ?_
        refine Wc.seq ?_
        refine Wc.seq ?_
        refine Wc.region rfl ?_
        refine Wl.pure (PR.moveL rfl) ?_
        refine Wl.pure (PR.lenL tS_54 rfl) ?_
        refine Wl.pure (PR.eql (a := ((mm : Nat) : Int)) (b := 0) rfl rfl) ?_
        refine Wl.nil ?_
        refine tn ?_
        refine Wc.condD (p := ((mm : Nat) : Int) = 0) rfl (fun h15 => ?_) (fun h15 => ?_)
        · refine Wc.seq ?_
          exfalso
          obtain rfl : d_ = k := by omega
          exact hm9 (hm.symm.trans (by omega))
        · refine Wc.skip ?_
          refine tn ?_
          refine Wc.seq ?_
          refine Wc.region rfl ?_
          refine Wl.pure (PR.moveL rfl) ?_
          refine Wl.pure (PR.assL rfl) ?_
          refine Wl.pure (PR.assI rfl) ?_
          refine Wl.nil ?_
          refine tn ?_
          refine Wc.ret ?_
          refine postL.tmp2 rfl rfl rfl ?_
          obtain rfl : d_ = k := by omega
          subst hm
          rw [arrU_congr (fun j hj => hu j hj)] at st
          replace st : St [] w w7 [(b_o, arrU .i64 (flN (fun i_ => repOk d_ e_ a b n c i_ x (pic (wrQ d_ e_ a b n c x))) d_) (fun j => (fun z => z) (flA (fun i_ => repOk d_ e_ a b n c i_ x (pic (wrQ d_ e_ a b n c x))) d_ j)) ++ sp_o, 2)] := st.pick [0] (by decide) rfl
          exact ⟨b_o, c_o, sp_o, hc_o, hs_o, rfl, st⟩

set_option maxHeartbeats 400000 in
set_option maxRecDepth 4000 in
theorem c_spec_BlamedShares_f {s : Int} {p : Int} {a : Nat → Nat} {b : Nat → Nat} {x : Nat} {A : Option Addr} {n : Nat} {cp : Nat} {y : Nat → Int} {c : Nat → Nat → Nat} {w : World} (hs : -128 ≤ s ∧ s ≤ 127) (hp : -128 ≤ p ∧ p ≤ 127) (ha : ∀ k, a k < 256) (hb : ∀ k, b k < 256) (hx : x < 18446744073709551616) (hRL : RdS w A n (layS n y c)) (hg : ∀ i, i < n → -128 ≤ y i ∧ y i ≤ 127) (hc : ∀ i k, c i k < 256) (hn : n ≤ 1048576) (hcode : ¬ blC (bothC s p a b n y c) (pic (wrQ ((s).toNat) ((p).toNat) a b n c x)) (flN (fun i_ => repOk ((s).toNat) ((p).toNat) a b n c i_ x (pic (wrQ ((s).toNat) ((p).toNat) a b n c x))) (s).toNat) = 0) :
    CE Try.prog 25 [.agg (schV (s) (p) (a) (b)).toArray, .int .u64 (((x : Nat) : Int)), .slice (A) (n) (cp)] w (RetXG w [] 2 1 (0) (arrU .i64 0 (fun _ => 0)) (fun b_ c_ => .tuple #[.slice (some ⟨b_, 0, none⟩) (0) (c_), .int .i64 (((blC (bothC s p a b n y c) (pic (wrQ ((s).toNat) ((p).toNat) a b n c x)) (flN (fun i_ => repOk ((s).toNat) ((p).toNat) a b n c i_ x (pic (wrQ ((s).toNat) ((p).toNat) a b n c x))) (s).toNat) : Nat) : Int))]) []) := by
  refine CE.enter 51 [(0, .agg (schV (s) (p) (a) (b)).toArray), (1, .int .u64 (((x : Nat) : Int))), (2, .slice (A) (n) (cp))] en_25 Try.func25 rfl rfl (Nat.le_of_ble_eq_true rfl) rfl ?_
  have st := St.start w
  refine Wc.seq ?_
  refine Wc.region rfl ?_
  refine Wl.boxA st rfl ?_
  clear st
  intro b3 w1 st
  refine Wl.pure (PR.assL rfl) ?_
  refine Wl.pure (PR.assI rfl) ?_
  refine Wl.nil ?_
  refine tn ?_
  refine Wc.seq ?_
  refine Wc.seq ?_
  refine Wc.region rfl ?_
  refine Wl.pure (PR.moveL rfl) ?_
  refine Wl.callV (c_spec_l03Both (bk := b3) (o := 0) (s := s) (p := p) (a := a) (b := b) (A := A) (n := n) (cp := cp) (y := y) (c := c) (st.rdA (i := 0) rfl (all_sub schV_len)) (by first | assumption | omega) (by first | assumption | omega) ha hb (hRL.st st) hg hc (by first | assumption | omega)) rfl ?_
  intro w2 hbel
  replace st := st.call hbel
  clear hbel
  refine Wl.pure (PR.assI rfl) ?_
  refine Wl.nil ?_
  refine tn ?_
  refine Wc.seq ?_
  refine Wc.region rfl ?_
  refine Wl.pure (PR.moveI rfl) ?_
  refine Wl.pure (PR.neq (a := ((bothC s p a b n y c : Nat) : Int)) (b := 0) rfl rfl) ?_
  refine Wl.nil ?_
  refine tn ?_
  refine Wc.condN (p := ((bothC s p a b n y c : Nat) : Int) = 0) rfl (fun h3 => ?_) (fun h3 => ?_)
  · refine Wc.seq ?_
    refine Wc.region rfl ?_
    refine Wl.buildSlice (ps := []) (cs := arrU .i64 0 (fun _ => 0) ++ []) st tS_54 tZ_2 rfl rfl rfl ?_
    clear st
    intro b18 w4 st
    refine Wl.pure (PR.moveI rfl) ?_
    refine Wl.pure (PR.assL rfl) ?_
    refine Wl.pure (PR.assI rfl) ?_
    refine Wl.nil ?_
    refine tn ?_
    refine Wc.ret ?_
    refine tr ?_
    refine postL.tmp2 rfl rfl rfl ?_
    replace st : St [] w w4 [(b18, arrU .i64 0 (fun _ => 0) ++ [], 2)] := st.pick [0] (by decide) rfl
    exact ⟨b18, 0, ([]), (Nat.le_refl _), rfl, (by first | exact congrArg Ending.returned (tup_2 rfl (congrArg (Value.int .i64) (bl_zb (by omega)))) | exact congrArg Ending.returned (tup_2 rfl (congrArg (Value.int .i64) (bl_z4 hcode0 (show pic (wrQ d_ e_ a b n c x) = 0 by omega)))) | (have hkd : d_ = k := (by omega); subst hkd; exact congrArg Ending.returned (tup_2 rfl (congrArg (Value.int .i64) (bl_z6 hcode0 (show ¬ pic (wrQ d_ e_ a b n c x) = 0 by omega) (hm.symm.trans (by omega))))))), st⟩
  · refine Wc.skip ?_
    refine tn ?_
    refine Wc.seq ?_
    refine Wc.seq ?_
    have hcode0 : bothC s p a b n y c = 0 := (by omega)
    obtain ⟨hok, hlay, hns⟩ := bothC_spec hcode0
    have hall := bothC_all hcode0
    obtain ⟨hs1, hp1, _⟩ := schOk_spec hok
    obtain ⟨d_, rfl⟩ : ∃ d_ : Nat, s = ((d_ : Nat) : Int) := ⟨s.toNat, by omega⟩
    obtain ⟨e_, rfl⟩ : ∃ e_ : Nat, p = ((e_ : Nat) : Int) := ⟨p.toNat, by omega⟩
    obtain ⟨_, hza, hzb⟩ := sch_zero hok
    have hns9 : n = d_ := by omega
    have hy0 : y 0 = ((e_ : Nat) : Int) := hall 0 (by omega)
    have hn6 : 1 ≤ n ∧ n ≤ 6 := by omega
    refine Wc.region rfl ?_
    refine Wl.pure (PR.moveI rfl) ?_
    refine Wl.pure (PR.moveL rfl) ?_
    refine Wl.callV (c_spec_l07Wrong (bk := b3) (o := 0) (s := d_) (p := e_) (a := a) (b := b) (A := A) (n := n) (cp := cp) (y := y) (c := c) (x := x) (st.rdA (i := 0) rfl (all_sub schV_len)) (by first | assumption | omega) ha hb (by first | assumption | omega) (hRL.st st) hg hc (by first | assumption | omega) hx (by first | assumption | omega)) rfl ?_
    intro w5 hbel
    replace st := st.call hbel
    clear hbel
    refine Wl.pure (PR.eql (a := ((pic (wrQ d_ e_ a b n c x) : Nat) : Int)) (b := 0) rfl rfl) ?_
    refine Wl.nil ?_
    refine tn ?_
    refine Wc.condD (p := ((pic (wrQ d_ e_ a b n c x) : Nat) : Int) = 0) rfl (fun h6 => ?_) (fun h6 => ?_)
    · refine Wc.seq ?_
      refine Wc.region rfl ?_
      refine Wl.buildSlice (ps := []) (cs := arrU .i64 0 (fun _ => 0) ++ []) st tS_54 tZ_2 rfl rfl rfl ?_
      clear st
      intro b24 w7 st
      refine Wl.pure (PR.assL rfl) ?_
      refine Wl.pure (PR.assI rfl) ?_
      refine Wl.nil ?_
      refine tn ?_
      refine Wc.ret ?_
      refine tr ?_
      refine postL.tmp2 rfl rfl rfl ?_
      replace st : St [] w w7 [(b24, arrU .i64 0 (fun _ => 0) ++ [], 2)] := st.pick [0] (by decide) rfl
      exact ⟨b24, 0, ([]), (Nat.le_refl _), rfl, (by first | exact congrArg Ending.returned (tup_2 rfl (congrArg (Value.int .i64) (bl_zb (by omega)))) | exact congrArg Ending.returned (tup_2 rfl (congrArg (Value.int .i64) (bl_z4 hcode0 (show pic (wrQ d_ e_ a b n c x) = 0 by omega)))) | (have hkd : d_ = k := (by omega); subst hkd; exact congrArg Ending.returned (tup_2 rfl (congrArg (Value.int .i64) (bl_z6 hcode0 (show ¬ pic (wrQ d_ e_ a b n c x) = 0 by omega) (hm.symm.trans (by omega))))))), st⟩
    · refine Wc.skip ?_
      refine tn ?_
      refine Wc.seq ?_
      refine Wc.region rfl ?_
      refine Wl.buildSlice (ps := []) (cs := arrU .i64 0 (fun _ => 0) ++ []) st tS_54 tZ_2 rfl rfl rfl ?_
      clear st
      intro b25 w8 st
      refine Wl.pure (PR.assL rfl) ?_
      refine Wl.nil ?_
      refine tn ?_
      refine Wc.seq ?_
      refine Wc.seq ?_
      refine Wc.region rfl ?_
      refine Wl.pure (PR.assI rfl) ?_
      refine Wl.nil ?_
      refine tn ?_
      refine Wc.block ?_
      refine Wc.loopF (γ := Nat × Nat × (Nat → Nat) × Nat × Nat × List Value) (fun g => [(1, .int .u64 (((x : Nat) : Int))), (2, .slice (A) (n) (cp)), (3, .pointer (some ⟨b3, 0, none⟩)), (6, .slice (none) (0) (0)), (7, .int .i64 (0)), (9, .slice (some ⟨g.2.2.2.1, 0, none⟩) (g.2.1) (g.2.2.2.2.1)), (10, .int .i64 (((g.1 : Nat) : Int)))]) (fun g w_ => St [] w w_ [(g.2.2.2.1, arrU .i64 g.2.1 g.2.2.1 ++ g.2.2.2.2.2, 2), (b3, schV ((d_ : Nat) : Int) ((e_ : Nat) : Int) (a) (b), 32)] ∧ (g.1 ≤ d_) ∧ (g.2.1 = flN (fun i_ => repOk d_ e_ a b n c i_ x (pic (wrQ d_ e_ a b n c x))) g.1) ∧ (∀ j, j < g.2.1 → g.2.2.1 j = (fun z => z) (flA (fun i_ => repOk d_ e_ a b n c i_ x (pic (wrQ d_ e_ a b n c x))) g.1 j)) ∧ (g.2.1 ≤ g.2.2.2.2.1) ∧ (g.2.2.2.2.2.length = (g.2.2.2.2.1 - g.2.1) * 1)) (fun g => d_ - g.1) ?_ ?_
      · exact ⟨(0, 0, (fun _ => 0), b25, 0, []), (.cons rfl (.cons rfl (.cons rfl (.cons rfl (.cons rfl (.cons rfl (.cons rfl (.nil _)))))))), st, (by first | omega | (dsimp only; omega)), rfl, (fun j hj => absurd hj (Nat.not_lt_zero _)), (Nat.le_refl _), rfl⟩
      clear st
      rintro ⟨k, mm, u, b_o, c_o, sp_o⟩ w9 ⟨st, hk, hm, hu, hc_o, hs_o⟩
      try dsimp only at st hk hm hu hc_o hs_o ⊢
      have hfl8 := flN_le (fun i_ => repOk d_ e_ a b n c i_ x (pic (wrQ d_ e_ a b n c x))) k
      refine Wc.seq ?_
      refine Wc.seq ?_
      refine Wc.region rfl ?_
      refine Wl.pure (PR.moveI rfl) ?_
      refine Wl.pure (PR.fieldAddr tF_32_0 rfl) ?_
      refine Wl.load (i := 1) st tA_22 rfl rfl (rfl) ?_
      refine Wl.pure (PR.conv (n := ((d_ : Nat) : Int)) tI_2 rfl (by simp only [fitI]; omega) Try.underlying22) ?_
      refine Wl.pure (PR.lss (a := ((k : Nat) : Int)) (b := ((d_ : Nat) : Int)) rfl rfl) ?_
      refine Wl.nil ?_
      refine tn ?_
      refine Wc.condD (p := ((k : Nat) : Int) < ((d_ : Nat) : Int)) rfl (fun h10 => ?_) (fun h10 => ?_)
      · refine Wc.skip ?_
        refine tn ?_
        refine Wc.seq ?_
        refine Wc.block ?_
        refine Wc.seq ?_
        refine Wc.region rfl ?_
        refine Wl.pure (PR.moveI rfl) ?_
        refine Wl.pure (PR.moveL rfl) ?_
        refine Wl.pure (PR.moveI rfl) ?_
        refine Wl.callV (c_spec_l07Repaired (bk := b3) (o := 0) (s := d_) (p := e_) (a := a) (b := b) (A := A) (n := n) (cp := cp) (y := y) (c := c) (i := k) (x := x) (st.rdA (i := 1) rfl (all_sub schV_len)) (by first | assumption | omega) ha hb (by first | assumption | omega) (hRL.st st) hg hc (by first | assumption | omega) hx (by first | assumption | omega) (by first | assumption | omega)) rfl ?_
        intro w11 hbel
        replace st := st.call hbel
        clear hbel
        refine Wl.pure (PR.moveV (.tuple #[.agg (layV (rpZ (repOk d_ e_ a b n c k x (pic (wrQ d_ e_ a b n c x))) (y k)) ((rpF (repOk d_ e_ a b n c k x (pic (wrQ d_ e_ a b n c x))) (rpC d_ e_ a b n c k x (pic (wrQ d_ e_ a b n c x)))))).toArray, .int .i64 (((rpN (repOk d_ e_ a b n c k x (pic (wrQ d_ e_ a b n c x))) (pc (pic (wrQ d_ e_ a b n c x))) : Nat) : Int)), .bool ((repOk d_ e_ a b n c k x (pic (wrQ d_ e_ a b n c x))))]) rfl) ?_
        refine Wl.pure (PR.extr (i := 0) (vs := [.agg (layV (rpZ (repOk d_ e_ a b n c k x (pic (wrQ d_ e_ a b n c x))) (y k)) ((rpF (repOk d_ e_ a b n c k x (pic (wrQ d_ e_ a b n c x))) (rpC d_ e_ a b n c k x (pic (wrQ d_ e_ a b n c x)))))).toArray, .int .i64 (((rpN (repOk d_ e_ a b n c k x (pic (wrQ d_ e_ a b n c x))) (pc (pic (wrQ d_ e_ a b n c x))) : Nat) : Int)), .bool ((repOk d_ e_ a b n c k x (pic (wrQ d_ e_ a b n c x))))]) rfl rfl) ?_
        refine Wl.pure (PR.extr (i := 1) (vs := [.agg (layV (rpZ (repOk d_ e_ a b n c k x (pic (wrQ d_ e_ a b n c x))) (y k)) ((rpF (repOk d_ e_ a b n c k x (pic (wrQ d_ e_ a b n c x))) (rpC d_ e_ a b n c k x (pic (wrQ d_ e_ a b n c x)))))).toArray, .int .i64 (((rpN (repOk d_ e_ a b n c k x (pic (wrQ d_ e_ a b n c x))) (pc (pic (wrQ d_ e_ a b n c x))) : Nat) : Int)), .bool ((repOk d_ e_ a b n c k x (pic (wrQ d_ e_ a b n c x))))]) rfl rfl) ?_
        refine Wl.pure (PR.extr (i := 2) (vs := [.agg (layV (rpZ (repOk d_ e_ a b n c k x (pic (wrQ d_ e_ a b n c x))) (y k)) ((rpF (repOk d_ e_ a b n c k x (pic (wrQ d_ e_ a b n c x))) (rpC d_ e_ a b n c k x (pic (wrQ d_ e_ a b n c x)))))).toArray, .int .i64 (((rpN (repOk d_ e_ a b n c k x (pic (wrQ d_ e_ a b n c x))) (pc (pic (wrQ d_ e_ a b n c x))) : Nat) : Int)), .bool ((repOk d_ e_ a b n c k x (pic (wrQ d_ e_ a b n c x))))]) rfl rfl) ?_
        refine Wl.alloc st tZ_49 rfl ?_
        clear st
        intro b11 w12 st
        refine Wl.storeA (i := 0) (cs' := layV (rpZ (repOk d_ e_ a b n c k x (pic (wrQ d_ e_ a b n c x))) (y k)) ((rpF (repOk d_ e_ a b n c k x (pic (wrQ d_ e_ a b n c x))) (rpC d_ e_ a b n c k x (pic (wrQ d_ e_ a b n c x)))))) st tA_49 rfl rfl layV_len layV_one rfl (le_of_len layV_len (by omega)) (all_put layV_len) ?_
        clear st
        intro w13 st
        replace st : St [] w w13 [(b11, layV (rpZ (repOk d_ e_ a b n c k x (pic (wrQ d_ e_ a b n c x))) (y k)) ((rpF (repOk d_ e_ a b n c k x (pic (wrQ d_ e_ a b n c x))) (rpC d_ e_ a b n c k x (pic (wrQ d_ e_ a b n c x))))), 49), (b_o, arrU .i64 mm u ++ sp_o, 2), (b3, schV ((d_ : Nat) : Int) ((e_ : Nat) : Int) (a) (b), 32)] := st
        refine Wl.pure (PR.assI rfl) ?_
        refine Wl.pure (PR.assB rfl) ?_
        refine Wl.nil ?_
        refine tn ?_
        refine Wc.seq ?_
        refine Wc.region rfl ?_
        refine Wl.pure (PR.moveB rfl) ?_
        refine Wl.nil ?_
        refine tn ?_
        refine Wc.condB (b := (repOk d_ e_ a b n c k x (pic (wrQ d_ e_ a b n c x)))) rfl (fun h14 => ?_) (fun h14 => ?_)
        · refine Wc.region rfl ?_
          refine Wl.pure (PR.moveL rfl) ?_
          refine Wl.pure (PR.moveI rfl) ?_
          refine Wl.buildSlice (ps := [(0, .int .i64 (((k : Nat) : Int)))]) (cs := [.int .i64 (((k : Nat) : Int))]) st tS_54 tZ_2 rfl rfl rfl ?_
          clear st
          intro b44 w15 st
          refine Wl.append (n := mm) (c := c_o) (m := 1) (cs := arrU .i64 mm u) (sp := sp_o) (vs := [.int .i64 (((k : Nat) : Int))]) (i := 2) st tS_54 tZ_2 rfl rfl rfl (by rw [(arrU_len _), Nat.mul_one]) hs_o hc_o rfl (Src.ofRdA (tyS_und tS_54) (st.rdA (i := 0) (n := 1) rfl rfl) rfl (by simp [Value.oneCell'])) (by omega) (by omega) ?_
          clear st
          intro b45 c45 sp45 w16 hc45 hs45 st
          rw [arrU_snoc] at st
          replace st : St [] w w16 [(b45, arrU .i64 (mm + 1) (upd u mm k) ++ sp45, 2), (b44, [.int .i64 (((k : Nat) : Int))], 2), (b11, layV (rpZ (repOk d_ e_ a b n c k x (pic (wrQ d_ e_ a b n c x))) (y k)) ((rpF (repOk d_ e_ a b n c k x (pic (wrQ d_ e_ a b n c x))) (rpC d_ e_ a b n c k x (pic (wrQ d_ e_ a b n c x))))), 49), (b3, schV ((d_ : Nat) : Int) ((e_ : Nat) : Int) (a) (b), 32)] := st
          refine Wl.pure (PR.assL rfl) ?_
          refine Wl.nil ?_
          refine bn ?_
          refine tn ?_
          refine Wc.region rfl ?_
          refine Wl.pure (PR.moveI rfl) ?_
          refine Wl.pure (PR.add (a := ((k : Nat) : Int)) (b := 1) rfl rfl (by simp only [fitI]; omega)) ?_
          refine Wl.pure (PR.assI rfl) ?_
          refine Wl.nil ?_
          refine tn ?_
          replace st : St [] w w16 [(b45, arrU .i64 (mm + 1) (upd u mm k) ++ sp45, 2), (b3, schV ((d_ : Nat) : Int) ((e_ : Nat) : Int) (a) (b), 32)] := st.pick [0, 3] (by decide) rfl
          have hfl9 := flN_le (fun i_ => repOk d_ e_ a b n c i_ x (pic (wrQ d_ e_ a b n c x))) k
          exact ⟨(k + 1, mm + 1, (upd u mm k), b45, c45, sp45), (.cons rfl (.cons rfl (.cons rfl (.cons rfl (.cons rfl (.cons rfl (.cons rfl (.nil _)))))))), ⟨st, (by first | omega | (dsimp only; omega)), (by first | exact flN_t hm (by assumption) | exact flN_f hm (by assumption)), (by first | exact flA_t (g := (fun z => z)) hm hu (by assumption) | exact flA_f (g := (fun z => z)) hu (by assumption)), hc45, hs45⟩, (by first | omega | (dsimp only; omega))⟩
        · refine Wc.skip ?_
          refine bn ?_
          refine tn ?_
          refine Wc.region rfl ?_
          refine Wl.pure (PR.moveI rfl) ?_
          refine Wl.pure (PR.add (a := ((k : Nat) : Int)) (b := 1) rfl rfl (by simp only [fitI]; omega)) ?_
          refine Wl.pure (PR.assI rfl) ?_
          refine Wl.nil ?_
          refine tn ?_
          replace st := st.tail
          have hfl9 := flN_le (fun i_ => repOk d_ e_ a b n c i_ x (pic (wrQ d_ e_ a b n c x))) k
          exact ⟨(k + 1, mm, u, b_o, c_o, sp_o), (.cons rfl (.cons rfl (.cons rfl (.cons rfl (.cons rfl (.cons rfl (.cons rfl (.nil _)))))))), ⟨st, (by first | omega | (dsimp only; omega)), (by first | exact flN_t hm (by assumption) | exact flN_f hm (by assumption)), (by first | exact flA_t (g := (fun z => z)) hm hu (by assumption) | exact flA_f (g := (fun z => z)) hu (by assumption)), hc_o, hs_o⟩, (by first | omega | (dsimp only; omega))⟩
      · refine Wc.exit ?_
        refine tx ?_
        refine tx ?_
        refine bh ?_
        refine tn ?_
        refine Wc.seq ?_
        refine Wc.seq ?_
        refine Wc.region rfl ?_
        refine Wl.pure (PR.moveL rfl) ?_
        refine Wl.pure (PR.lenL tS_54 rfl) ?_
        refine Wl.pure (PR.eql (a := ((mm : Nat) : Int)) (b := 0) rfl rfl) ?_
        refine Wl.nil ?_
        refine tn ?_
        refine Wc.condD (p := ((mm : Nat) : Int) = 0) rfl (fun h17 => ?_) (fun h17 => ?_)
        · refine Wc.seq ?_
          refine Wc.region rfl ?_
          refine Wl.buildSlice (ps := []) (cs := arrU .i64 0 (fun _ => 0) ++ []) st tS_54 tZ_2 rfl rfl rfl ?_
          clear st
          intro b49 w18 st
          refine Wl.pure (PR.assL rfl) ?_
          refine Wl.pure (PR.assI rfl) ?_
          refine Wl.nil ?_
          refine tn ?_
          refine Wc.ret ?_
          refine tr ?_
          refine postL.tmp2 rfl rfl rfl ?_
          replace st : St [] w w18 [(b49, arrU .i64 0 (fun _ => 0) ++ [], 2)] := st.pick [0] (by decide) rfl
          exact ⟨b49, 0, ([]), (Nat.le_refl _), rfl, (by first | exact congrArg Ending.returned (tup_2 rfl (congrArg (Value.int .i64) (bl_zb (by omega)))) | exact congrArg Ending.returned (tup_2 rfl (congrArg (Value.int .i64) (bl_z4 hcode0 (show pic (wrQ d_ e_ a b n c x) = 0 by omega)))) | (have hkd : d_ = k := (by omega); subst hkd; exact congrArg Ending.returned (tup_2 rfl (congrArg (Value.int .i64) (bl_z6 hcode0 (show ¬ pic (wrQ d_ e_ a b n c x) = 0 by omega) (hm.symm.trans (by omega))))))), st⟩
        · refine Wc.skip ?_
          refine tn ?_
          refine Wc.seq ?_
          exfalso
          obtain rfl : d_ = k := by omega
          exact hcode (blC_0 hcode0 (show ¬ pic (wrQ d_ e_ a b n c x) = 0 by omega) (fun h9 => absurd (hm.trans h9) (by omega)))

set_option maxHeartbeats 400000 in
set_option maxRecDepth 4000 in
theorem c_laws_FnExactBlamedShares {s : Int} {p : Int} {a : Nat → Nat} {b : Nat → Nat} {x : Nat} {A : Option Addr} {n : Nat} {cp : Nat} {y : Nat → Int} {c : Nat → Nat → Nat} {w : World} (hs : -128 ≤ s ∧ s ≤ 127) (hp : -128 ≤ p ∧ p ≤ 127) (ha : ∀ k, a k < 256) (hb : ∀ k, b k < 256) (hx : x < 18446744073709551616) (hRL : RdS w A n (layS n y c)) (hg : ∀ i, i < n → -128 ≤ y i ∧ y i ≤ 127) (hc : ∀ i k, c i k < 256) (hn : n ≤ 9223372036854775807) :
    CE Try.prog 7 [.agg (schV (s) (p) (a) (b)).toArray, .int .u64 (((x : Nat) : Int)), .slice (A) (n) (cp)] w (RetV w (.bool true)) := by
  refine CE.enter 109 [(0, .agg (schV (s) (p) (a) (b)).toArray), (1, .int .u64 (((x : Nat) : Int))), (2, .slice (A) (n) (cp))] en_7 Try.func7 rfl rfl (Nat.le_of_ble_eq_true rfl) rfl ?_
  have st := St.start w
  refine Wc.seq ?_
  refine Wc.region rfl ?_
  refine Wl.boxA st rfl ?_
  clear st
  intro b3 w1 st
  refine Wl.pure (PR.assB rfl) ?_
  refine Wl.nil ?_
  refine tn ?_
  refine Wc.seq ?_
  refine Wc.region rfl ?_
  refine Wl.pure (PR.assI rfl) ?_
  refine Wl.nil ?_
  refine tn ?_
  refine Wc.seq ?_
  refine Wc.region rfl ?_
  refine Wl.pure (PR.moveL rfl) ?_
  refine Wl.pure (PR.moveI rfl) ?_
  refine Wl.callV (c_laws_szLayerS (A := A) (n := n) (cp := cp) (p := y) (c := c) (z := 1048576) (by first | assumption | omega) (by first | assumption | omega)) rfl ?_
  intro w2 hbel
  replace st := st.call hbel
  clear hbel
  refine Wl.pure (PR.assI rfl) ?_
  refine Wl.nil ?_
  refine tn ?_
  refine Wc.seq ?_
  refine Wc.seq ?_
  refine Wc.region rfl ?_
  refine Wl.pure (PR.moveI rfl) ?_
  refine Wl.pure (PR.lss (a := (szL n 1048576)) (b := 0) rfl rfl) ?_
  refine Wl.nil ?_
  refine tn ?_
  refine Wc.condD (p := (szL n 1048576) < 0) rfl (fun h3 => ?_) (fun h3 => ?_)
  · refine Wc.seq ?_
    refine Wc.region rfl ?_
    refine Wl.pure (PR.assB rfl) ?_
    refine Wl.nil ?_
    refine tn ?_
    refine Wc.ret ?_
    refine tr ?_
    refine postL.tmp rfl rfl ?_
    exact RetV.of rfl st.below
  · refine Wc.skip ?_
    refine tn ?_
    refine Wc.seq ?_
    by_cases hcode : blC (bothC s p a b n y c) (pic (wrQ ((s).toNat) ((p).toNat) a b n c x)) (flN (fun i_ => repOk ((s).toNat) ((p).toNat) a b n c i_ x (pic (wrQ ((s).toNat) ((p).toNat) a b n c x))) (s).toNat) = 0
    · obtain ⟨hn1, hz1⟩ := szL_ok (n := n) (z := 1048576) (by omega)
      have hfl := flN_le (fun i_ => repOk s.toNat p.toNat a b n c i_ x (pic (wrQ s.toNat p.toNat a b n c x))) s.toNat
      have hs127 : s.toNat ≤ 127 := by omega
      refine Wc.region rfl ?_
      refine Wl.loadA (i := 0) st tA_25 rfl rfl (all_sub schV_len) schV_len ?_
      refine Wl.callV (c_laws_toScheme (s := s) (p := p) (a := a) (b := b) ha hb) rfl ?_
      intro w4 hbel
      replace st := st.call hbel
      clear hbel
      refine Wl.pure (PR.moveI rfl) ?_
      refine Wl.pure (PR.moveL rfl) ?_
      refine Wl.callS st (c_laws_toLayerS (A := A) (n := n) (cp := cp) (p := y) (c := c) (hRL.st st) hc (by first | assumption | omega)) rfl ?_
      clear st
      intro b28 w5 st
      refine Wl.callXG [] st (c_spec_BlamedShares_t (s := s) (p := p) (a := a) (b := b) (x := x) (A := some ⟨b28, 0, none⟩) (n := n) (cp := n) (y := y) (c := c) (by first | assumption | omega) (by first | assumption | omega) ha hb hx ((st.rdA (i := 0) (n := (n * 65)) rfl (all_sub (recV_len (s := 65) (layS_row _ _) _))).sl) hg hc (by first | assumption | omega) (by first | assumption | omega)) rfl rfl ?_
      clear st
      intro b29 c29 sp29 w6 hc29 hs29 st
      replace st : St [] w w6 [(b29, arrU .i64 (flN (fun i_ => repOk ((s).toNat) ((p).toNat) a b n c i_ x (pic (wrQ ((s).toNat) ((p).toNat) a b n c x))) (s).toNat) (fun j => (fun z => z) (flA (fun i_ => repOk ((s).toNat) ((p).toNat) a b n c i_ x (pic (wrQ ((s).toNat) ((p).toNat) a b n c x))) (s).toNat j)) ++ sp29, 2), (b28, layS n y c, 49), (b3, schV (s) (p) (a) (b), 25)] := st
      refine Wl.pure (PR.moveV (.tuple #[.slice (some ⟨b29, 0, none⟩) ((flN (fun i_ => repOk ((s).toNat) ((p).toNat) a b n c i_ x (pic (wrQ ((s).toNat) ((p).toNat) a b n c x))) (s).toNat)) (c29), .int .i64 (0)]) rfl) ?_
      refine Wl.pure (PR.extr (i := 0) (vs := [.slice (some ⟨b29, 0, none⟩) ((flN (fun i_ => repOk ((s).toNat) ((p).toNat) a b n c i_ x (pic (wrQ ((s).toNat) ((p).toNat) a b n c x))) (s).toNat)) (c29), .int .i64 (0)]) rfl rfl) ?_
      refine Wl.pure (PR.extr (i := 1) (vs := [.slice (some ⟨b29, 0, none⟩) ((flN (fun i_ => repOk ((s).toNat) ((p).toNat) a b n c i_ x (pic (wrQ ((s).toNat) ((p).toNat) a b n c x))) (s).toNat)) (c29), .int .i64 (0)]) rfl rfl) ?_
      refine Wl.pure (PR.assL rfl) ?_
      refine Wl.pure (PR.assI rfl) ?_
      refine Wl.nil ?_
      refine tn ?_
      refine Wc.seq ?_
      refine Wc.region rfl ?_
      refine Wl.pure (PR.moveL rfl) ?_
      refine Wl.callS st (c_laws_toLayerS (A := A) (n := n) (cp := cp) (p := y) (c := c) (hRL.st st) hc (by first | assumption | omega)) rfl ?_
      clear st
      intro b33 w7 st
      refine Wl.pure (PR.assL rfl) ?_
      refine Wl.nil ?_
      refine tn ?_
      refine Wc.seq ?_
      refine Wc.region rfl ?_
      refine Wl.loadA (i := 3) st tA_25 rfl rfl (all_sub schV_len) schV_len ?_
      refine Wl.callV (c_laws_toScheme (s := s) (p := p) (a := a) (b := b) ha hb) rfl ?_
      intro w8 hbel
      replace st := st.call hbel
      clear hbel
      refine Wl.pure (PR.moveI rfl) ?_
      refine Wl.pure (PR.moveL rfl) ?_
      refine Wl.callXG [] st (c_impl_BlamedShares_t (s := s) (p := p) (a := a) (b := b) (x := x) (A := some ⟨b33, 0, none⟩) (n := n) (cp := n) (y := y) (c := c) (by first | assumption | omega) (by first | assumption | omega) ha hb hx ((st.rdA (i := 0) (n := (n * 65)) rfl (all_sub (recV_len (s := 65) (layS_row _ _) _))).sl) hg hc (by first | assumption | omega) (by first | assumption | omega)) rfl rfl ?_
      clear st
      intro b39 c39 sp39 w9 hc39 hs39 st
      replace st : St [] w w9 [(b39, arrU .i64 (flN (fun i_ => repOk ((s).toNat) ((p).toNat) a b n c i_ x (pic (wrQ ((s).toNat) ((p).toNat) a b n c x))) (s).toNat) (fun j => (fun z => z) (flA (fun i_ => repOk ((s).toNat) ((p).toNat) a b n c i_ x (pic (wrQ ((s).toNat) ((p).toNat) a b n c x))) (s).toNat j)) ++ sp39, 2), (b33, layS n y c, 49), (b29, arrU .i64 (flN (fun i_ => repOk ((s).toNat) ((p).toNat) a b n c i_ x (pic (wrQ ((s).toNat) ((p).toNat) a b n c x))) (s).toNat) (fun j => (fun z => z) (flA (fun i_ => repOk ((s).toNat) ((p).toNat) a b n c i_ x (pic (wrQ ((s).toNat) ((p).toNat) a b n c x))) (s).toNat j)) ++ sp29, 2), (b28, layS n y c, 49), (b3, schV (s) (p) (a) (b), 25)] := st
      refine Wl.pure (PR.moveV (.tuple #[.slice (some ⟨b39, 0, none⟩) ((flN (fun i_ => repOk ((s).toNat) ((p).toNat) a b n c i_ x (pic (wrQ ((s).toNat) ((p).toNat) a b n c x))) (s).toNat)) (c39), .int .i64 (0)]) rfl) ?_
      refine Wl.pure (PR.extr (i := 0) (vs := [.slice (some ⟨b39, 0, none⟩) ((flN (fun i_ => repOk ((s).toNat) ((p).toNat) a b n c i_ x (pic (wrQ ((s).toNat) ((p).toNat) a b n c x))) (s).toNat)) (c39), .int .i64 (0)]) rfl rfl) ?_
      refine Wl.pure (PR.extr (i := 1) (vs := [.slice (some ⟨b39, 0, none⟩) ((flN (fun i_ => repOk ((s).toNat) ((p).toNat) a b n c i_ x (pic (wrQ ((s).toNat) ((p).toNat) a b n c x))) (s).toNat)) (c39), .int .i64 (0)]) rfl rfl) ?_
      refine Wl.pure (PR.assL rfl) ?_
      refine Wl.pure (PR.assI rfl) ?_
      refine Wl.nil ?_
      refine tn ?_
      refine Wc.seq ?_
      refine Wc.seq ?_
      refine Wc.region rfl ?_
      refine Wl.pure (PR.moveL rfl) ?_
      refine Wl.pure (PR.moveL rfl) ?_
      refine Wl.callV (c_laws_eqInt64S (A := some ⟨b39, 0, none⟩) (n := (flN (fun i_ => repOk ((s).toNat) ((p).toNat) a b n c i_ x (pic (wrQ ((s).toNat) ((p).toNat) a b n c x))) (s).toNat)) (cp := c39) (c := (fun j => (fun z => z) (flA (fun i_ => repOk ((s).toNat) ((p).toNat) a b n c i_ x (pic (wrQ ((s).toNat) ((p).toNat) a b n c x))) (s).toNat j))) (B := some ⟨b29, 0, none⟩) (cq := c29) ((st.rdA (i := 0) (n := (flN (fun i_ => repOk ((s).toNat) ((p).toNat) a b n c i_ x (pic (wrQ ((s).toNat) ((p).toNat) a b n c x))) (s).toNat)) rfl (app_all (arrU_len _))).sl) ((st.rdA (i := 2) (n := (flN (fun i_ => repOk ((s).toNat) ((p).toNat) a b n c i_ x (pic (wrQ ((s).toNat) ((p).toNat) a b n c x))) (s).toNat)) rfl (app_all (arrU_len _))).sl) (by first | assumption | omega)) rfl ?_
      intro w10 hbel
      replace st := st.call hbel
      clear hbel
      refine Wl.pure (PR.not_ rfl) ?_
      refine Wl.pure (PR.moveB rfl) ?_
      refine Wl.on rfl rfl ?_
      refine Wl.pure (PR.moveI rfl) ?_
      refine Wl.on rfl rfl ?_
      refine Wl.pure (PR.moveI rfl) ?_
      refine Wl.on rfl rfl ?_
      refine Wl.pure (PR.neqS (a := 0) rfl rfl) ?_
      refine Wl.pure (PR.pickFB rfl rfl) ?_
      refine Wl.nil ?_
      refine tn ?_
      refine Wc.condF rfl ?_
      refine Wc.skip ?_
      refine tn ?_
      refine Wc.seq ?_
      refine Wc.seq ?_
      refine Wc.region rfl ?_
      refine Wl.pure (PR.moveL rfl) ?_
      refine Wl.pure (PR.moveL rfl) ?_
      refine Wl.callS st (c_laws_toLayerS (A := A) (n := n) (cp := cp) (p := y) (c := c) (hRL.st st) hc (by first | assumption | omega)) rfl ?_
      clear st
      intro b53 w11 st
      refine Wl.callV (c_laws_eqLayerS (A := some ⟨b33, 0, none⟩) (n := n) (cp := n) (p := y) (c := c) (B := some ⟨b53, 0, none⟩) (cq := n) ((st.rdA (i := 2) (n := (n * 65)) rfl (all_sub (recV_len (s := 65) (layS_row _ _) _))).sl) ((st.rdA (i := 0) (n := (n * 65)) rfl (all_sub (recV_len (s := 65) (layS_row _ _) _))).sl) (by first | assumption | omega)) rfl ?_
      intro w12 hbel
      replace st := st.call hbel
      clear hbel
      refine Wl.pure (PR.not_ rfl) ?_
      refine Wl.nil ?_
      refine tn ?_
      refine Wc.condF rfl ?_
      refine Wc.skip ?_
      refine tn ?_
      refine Wc.seq ?_
      refine Wc.region rfl ?_
      refine Wl.pure (PR.assI rfl) ?_
      refine Wl.nil ?_
      refine tn ?_
      refine Wc.seq ?_
      refine Wc.region rfl ?_
      refine Wl.pure (PR.moveL rfl) ?_
      refine Wl.pure (PR.moveI rfl) ?_
      replace st : St [] w w12 [(b53, layS n y c, 49), (b39, arrU .i64 (flN (fun i_ => repOk ((s).toNat) ((p).toNat) a b n c i_ x (pic (wrQ ((s).toNat) ((p).toNat) a b n c x))) (s).toNat) (fun j => (fun z => z) (flA (fun i_ => repOk ((s).toNat) ((p).toNat) a b n c i_ x (pic (wrQ ((s).toNat) ((p).toNat) a b n c x))) (s).toNat j)) ++ sp39, 2), (b33, layS n y c ++ [], 49), (b29, arrU .i64 (flN (fun i_ => repOk ((s).toNat) ((p).toNat) a b n c i_ x (pic (wrQ ((s).toNat) ((p).toNat) a b n c x))) (s).toNat) (fun j => (fun z => z) (flA (fun i_ => repOk ((s).toNat) ((p).toNat) a b n c i_ x (pic (wrQ ((s).toNat) ((p).toNat) a b n c x))) (s).toNat j)) ++ sp29, 2), (b28, layS n y c, 49), (b3, schV (s) (p) (a) (b), 25)] := st.nilat (i := 2) rfl
      refine Wl.callXE [2] st (c_laws_markLayerS (ba := b33) (n := n) (cp := n) (p := y) (c := c) (sp := []) (z := 1) (by first | assumption | omega) (by first | assumption | omega) (st.lend (L' := [(b33, layS n y c ++ [], 49)]) [2] (by decide) rfl)) rfl rfl ?_
      clear st
      rintro ⟨p__14, c__15⟩ _ w13 st
      try dsimp only at st 
      replace st : St [] w w13 [(b33, layS n p__14 c__15 ++ [], 49), (b53, layS n y c, 49), (b39, arrU .i64 (flN (fun i_ => repOk ((s).toNat) ((p).toNat) a b n c i_ x (pic (wrQ ((s).toNat) ((p).toNat) a b n c x))) (s).toNat) (fun j => (fun z => z) (flA (fun i_ => repOk ((s).toNat) ((p).toNat) a b n c i_ x (pic (wrQ ((s).toNat) ((p).toNat) a b n c x))) (s).toNat j)) ++ sp39, 2), (b29, arrU .i64 (flN (fun i_ => repOk ((s).toNat) ((p).toNat) a b n c i_ x (pic (wrQ ((s).toNat) ((p).toNat) a b n c x))) (s).toNat) (fun j => (fun z => z) (flA (fun i_ => repOk ((s).toNat) ((p).toNat) a b n c i_ x (pic (wrQ ((s).toNat) ((p).toNat) a b n c x))) (s).toNat j)) ++ sp29, 2), (b28, layS n y c, 49), (b3, schV (s) (p) (a) (b), 25)] := st
      refine Wl.pure (PR.assI rfl) ?_
      refine Wl.nil ?_
      refine tn ?_
      refine Wc.seq ?_
      refine Wc.seq ?_
      refine Wc.region rfl ?_
      refine Wl.pure (PR.moveI rfl) ?_
      refine Wl.pure (PR.lss (a := (((1 + 65 * n) : Nat) : Int)) (b := 0) rfl rfl) ?_
      refine Wl.pure (PR.moveB rfl) ?_
      refine Wl.splitF (q := (((1 + 65 * n) : Nat) : Int) < 0) rfl rfl (fun h16 => ?_) (fun h16 => ?_)
      · refine Wl.pure (PR.moveL rfl) ?_
        refine Wl.on rfl rfl ?_
        refine Wl.pure (PR.moveL rfl) ?_
        refine Wl.on rfl rfl ?_
        refine Wl.callV (c_laws_eqInt64S (A := some ⟨b39, 0, none⟩) (n := (flN (fun i_ => repOk ((s).toNat) ((p).toNat) a b n c i_ x (pic (wrQ ((s).toNat) ((p).toNat) a b n c x))) (s).toNat)) (cp := c39) (c := (fun j => (fun z => z) (flA (fun i_ => repOk ((s).toNat) ((p).toNat) a b n c i_ x (pic (wrQ ((s).toNat) ((p).toNat) a b n c x))) (s).toNat j))) (B := some ⟨b29, 0, none⟩) (cq := c29) ((st.rdA (i := 2) (n := (flN (fun i_ => repOk ((s).toNat) ((p).toNat) a b n c i_ x (pic (wrQ ((s).toNat) ((p).toNat) a b n c x))) (s).toNat)) rfl (app_all (arrU_len _))).sl) ((st.rdA (i := 3) (n := (flN (fun i_ => repOk ((s).toNat) ((p).toNat) a b n c i_ x (pic (wrQ ((s).toNat) ((p).toNat) a b n c x))) (s).toNat)) rfl (app_all (arrU_len _))).sl) (by first | assumption | omega)) rfl ?_
        intro w17 hbel
        replace st := st.call hbel
        clear hbel
        refine Wl.on rfl rfl ?_
        refine Wl.pure (PR.not_ rfl) ?_
        refine Wl.pure (PR.pickFB rfl rfl) ?_
        refine Wl.pure (PR.moveB rfl) ?_
        refine Wl.on rfl rfl ?_
        refine Wl.pure (PR.moveI rfl) ?_
        refine Wl.on rfl rfl ?_
        refine Wl.pure (PR.moveI rfl) ?_
        refine Wl.on rfl rfl ?_
        refine Wl.pure (PR.neqS (a := 0) rfl rfl) ?_
        refine Wl.pure (PR.pickFB rfl rfl) ?_
        refine Wl.nil ?_
        refine tn ?_
        refine Wc.condF rfl ?_
        refine Wc.skip ?_
        refine tn ?_
        refine Wc.seq ?_
        refine Wc.region rfl ?_
        refine Wl.pure (PR.assI rfl) ?_
        refine Wl.nil ?_
        refine tn ?_
        refine Wc.seq ?_
        refine Wc.region rfl ?_
        refine Wl.pure (PR.moveL rfl) ?_
        refine Wl.pure (PR.moveI rfl) ?_
        refine Wl.callX [2] st (c_markInt64S (ba := b39) (n := (flN (fun i_ => repOk ((s).toNat) ((p).toNat) a b n c i_ x (pic (wrQ ((s).toNat) ((p).toNat) a b n c x))) (s).toNat)) (cp := c39) (c := (fun j => (fun z => z) (flA (fun i_ => repOk ((s).toNat) ((p).toNat) a b n c i_ x (pic (wrQ ((s).toNat) ((p).toNat) a b n c x))) (s).toNat j))) (sp := sp39) (z := 1) (by first | assumption | omega) (st.lend (L' := [(b39, arrU .i64 (flN (fun i_ => repOk ((s).toNat) ((p).toNat) a b n c i_ x (pic (wrQ ((s).toNat) ((p).toNat) a b n c x))) (s).toNat) (fun j => (fun z => z) (flA (fun i_ => repOk ((s).toNat) ((p).toNat) a b n c i_ x (pic (wrQ ((s).toNat) ((p).toNat) a b n c x))) (s).toNat j)) ++ sp39, 2)]) [2] (by decide) rfl)) rfl rfl ?_
        clear st
        intro w18 st
        replace st : St [] w w18 [(b39, arrU .i64 (flN (fun i_ => repOk ((s).toNat) ((p).toNat) a b n c i_ x (pic (wrQ ((s).toNat) ((p).toNat) a b n c x))) (s).toNat) (fun j => 1 + j) ++ sp39, 2), (b33, layS n p__14 c__15 ++ [], 49), (b53, layS n y c, 49), (b29, arrU .i64 (flN (fun i_ => repOk ((s).toNat) ((p).toNat) a b n c i_ x (pic (wrQ ((s).toNat) ((p).toNat) a b n c x))) (s).toNat) (fun j => (fun z => z) (flA (fun i_ => repOk ((s).toNat) ((p).toNat) a b n c i_ x (pic (wrQ ((s).toNat) ((p).toNat) a b n c x))) (s).toNat j)) ++ sp29, 2), (b28, layS n y c, 49), (b3, schV (s) (p) (a) (b), 25)] := st
        refine Wl.pure (PR.assI rfl) ?_
        refine Wl.nil ?_
        refine tn ?_
        refine Wc.seq ?_
        refine Wc.region rfl ?_
        refine Wl.pure (PR.assI rfl) ?_
        refine Wl.nil ?_
        refine tn ?_
        refine Wc.seq ?_
        refine Wc.region rfl ?_
        refine Wl.pure (PR.moveL rfl) ?_
        refine Wl.pure (PR.moveI rfl) ?_
        refine Wl.callV (c_laws_heldInt64S (A := some ⟨b39, 0, none⟩) (n := (flN (fun i_ => repOk ((s).toNat) ((p).toNat) a b n c i_ x (pic (wrQ ((s).toNat) ((p).toNat) a b n c x))) (s).toNat)) (cp := c39) (c := (fun j => 1 + j)) (z := 1) ((st.rdA (i := 0) (n := (flN (fun i_ => repOk ((s).toNat) ((p).toNat) a b n c i_ x (pic (wrQ ((s).toNat) ((p).toNat) a b n c x))) (s).toNat)) rfl (app_all (arrU_len _))).sl) (by first | assumption | omega) (fun u hu => by first | rfl | omega)) rfl ?_
        intro w19 hbel
        replace st := st.call hbel
        clear hbel
        refine Wl.pure (PR.assI rfl) ?_
        refine Wl.nil ?_
        refine tn ?_
        refine Wc.seq ?_
        refine Wc.seq ?_
        refine Wc.region rfl ?_
        refine Wl.pure (PR.moveI rfl) ?_
        refine Wl.pure (PR.lss (a := (((1 + (flN (fun i_ => repOk ((s).toNat) ((p).toNat) a b n c i_ x (pic (wrQ ((s).toNat) ((p).toNat) a b n c x))) (s).toNat)) : Nat) : Int)) (b := 0) rfl rfl) ?_
        refine Wl.nil ?_
        refine tn ?_
        refine Wc.condD (p := (((1 + (flN (fun i_ => repOk ((s).toNat) ((p).toNat) a b n c i_ x (pic (wrQ ((s).toNat) ((p).toNat) a b n c x))) (s).toNat)) : Nat) : Int) < 0) rfl (fun h20 => ?_) (fun h20 => ?_)
        · refine Wc.seq ?_
          refine Wc.region rfl ?_
          refine Wl.pure (PR.assB rfl) ?_
          refine Wl.nil ?_
          refine tn ?_
          refine Wc.ret ?_
          refine tr ?_
          refine postL.tmp rfl rfl ?_
          refine RetV.of ?_ st.below
          refine congrArg Value.bool ?_
          first | rfl | (exfalso; omega) | (simp only [*, decide_true, decide_false, Bool.not_true, Bool.not_false]; done) | (simp; omega) | (rw [Bool.eq_iff_iff]; simp; omega) | simp_all
        · refine Wc.skip ?_
          refine tn ?_
          refine Wc.seq ?_
          refine Wc.seq ?_
          refine Wc.region rfl ?_
          refine Wl.pure (PR.moveI rfl) ?_
          refine Wl.pure (PR.moveI rfl) ?_
          refine Wl.pure (PR.neqS (a := (((1 + (flN (fun i_ => repOk ((s).toNat) ((p).toNat) a b n c i_ x (pic (wrQ ((s).toNat) ((p).toNat) a b n c x))) (s).toNat)) : Nat) : Int)) rfl rfl) ?_
          refine Wl.nil ?_
          refine tn ?_
          refine Wc.condF rfl ?_
          refine Wc.skip ?_
          refine tn ?_
          refine Wc.seq ?_
          refine Wc.region rfl ?_
          refine Wl.loadA (i := 5) st tA_25 rfl rfl (all_sub schV_len) schV_len ?_
          refine Wl.callV (c_laws_toScheme (s := s) (p := p) (a := a) (b := b) ha hb) rfl ?_
          intro w21 hbel
          replace st := st.call hbel
          clear hbel
          refine Wl.pure (PR.moveI rfl) ?_
          refine Wl.pure (PR.moveL rfl) ?_
          refine Wl.callS st (c_laws_toLayerS (A := A) (n := n) (cp := cp) (p := y) (c := c) (hRL.st st) hc (by first | assumption | omega)) rfl ?_
          clear st
          intro b88 w22 st
          refine Wl.callXG [] st (c_impl_BlamedShares_t (s := s) (p := p) (a := a) (b := b) (x := x) (A := some ⟨b88, 0, none⟩) (n := n) (cp := n) (y := y) (c := c) (by first | assumption | omega) (by first | assumption | omega) ha hb hx ((st.rdA (i := 0) (n := (n * 65)) rfl (all_sub (recV_len (s := 65) (layS_row _ _) _))).sl) hg hc (by first | assumption | omega) (by first | assumption | omega)) rfl rfl ?_
          clear st
          intro b89 c89 sp89 w23 hc89 hs89 st
          replace st : St [] w w23 [(b89, arrU .i64 (flN (fun i_ => repOk ((s).toNat) ((p).toNat) a b n c i_ x (pic (wrQ ((s).toNat) ((p).toNat) a b n c x))) (s).toNat) (fun j => (fun z => z) (flA (fun i_ => repOk ((s).toNat) ((p).toNat) a b n c i_ x (pic (wrQ ((s).toNat) ((p).toNat) a b n c x))) (s).toNat j)) ++ sp89, 2), (b88, layS n y c, 49), (b39, arrU .i64 (flN (fun i_ => repOk ((s).toNat) ((p).toNat) a b n c i_ x (pic (wrQ ((s).toNat) ((p).toNat) a b n c x))) (s).toNat) (fun j => 1 + j) ++ sp39, 2), (b33, layS n p__14 c__15 ++ [], 49), (b53, layS n y c, 49), (b29, arrU .i64 (flN (fun i_ => repOk ((s).toNat) ((p).toNat) a b n c i_ x (pic (wrQ ((s).toNat) ((p).toNat) a b n c x))) (s).toNat) (fun j => (fun z => z) (flA (fun i_ => repOk ((s).toNat) ((p).toNat) a b n c i_ x (pic (wrQ ((s).toNat) ((p).toNat) a b n c x))) (s).toNat j)) ++ sp29, 2), (b28, layS n y c, 49), (b3, schV (s) (p) (a) (b), 25)] := st
          refine Wl.pure (PR.moveV (.tuple #[.slice (some ⟨b89, 0, none⟩) ((flN (fun i_ => repOk ((s).toNat) ((p).toNat) a b n c i_ x (pic (wrQ ((s).toNat) ((p).toNat) a b n c x))) (s).toNat)) (c89), .int .i64 (0)]) rfl) ?_
          refine Wl.pure (PR.extr (i := 0) (vs := [.slice (some ⟨b89, 0, none⟩) ((flN (fun i_ => repOk ((s).toNat) ((p).toNat) a b n c i_ x (pic (wrQ ((s).toNat) ((p).toNat) a b n c x))) (s).toNat)) (c89), .int .i64 (0)]) rfl rfl) ?_
          refine Wl.pure (PR.extr (i := 1) (vs := [.slice (some ⟨b89, 0, none⟩) ((flN (fun i_ => repOk ((s).toNat) ((p).toNat) a b n c i_ x (pic (wrQ ((s).toNat) ((p).toNat) a b n c x))) (s).toNat)) (c89), .int .i64 (0)]) rfl rfl) ?_
          refine Wl.pure (PR.assL rfl) ?_
          refine Wl.pure (PR.assI rfl) ?_
          refine Wl.nil ?_
          refine tn ?_
          refine Wc.seq ?_
          refine Wc.seq ?_
          refine Wc.region rfl ?_
          refine Wl.pure (PR.moveL rfl) ?_
          refine Wl.pure (PR.moveL rfl) ?_
          refine Wl.callV (c_laws_eqInt64S (A := some ⟨b89, 0, none⟩) (n := (flN (fun i_ => repOk ((s).toNat) ((p).toNat) a b n c i_ x (pic (wrQ ((s).toNat) ((p).toNat) a b n c x))) (s).toNat)) (cp := c89) (c := (fun j => (fun z => z) (flA (fun i_ => repOk ((s).toNat) ((p).toNat) a b n c i_ x (pic (wrQ ((s).toNat) ((p).toNat) a b n c x))) (s).toNat j))) (B := some ⟨b29, 0, none⟩) (cq := c29) ((st.rdA (i := 0) (n := (flN (fun i_ => repOk ((s).toNat) ((p).toNat) a b n c i_ x (pic (wrQ ((s).toNat) ((p).toNat) a b n c x))) (s).toNat)) rfl (app_all (arrU_len _))).sl) ((st.rdA (i := 5) (n := (flN (fun i_ => repOk ((s).toNat) ((p).toNat) a b n c i_ x (pic (wrQ ((s).toNat) ((p).toNat) a b n c x))) (s).toNat)) rfl (app_all (arrU_len _))).sl) (by first | assumption | omega)) rfl ?_
          intro w24 hbel
          replace st := st.call hbel
          clear hbel
          refine Wl.pure (PR.not_ rfl) ?_
          refine Wl.pure (PR.moveB rfl) ?_
          refine Wl.on rfl rfl ?_
          refine Wl.pure (PR.moveI rfl) ?_
          refine Wl.on rfl rfl ?_
          refine Wl.pure (PR.moveI rfl) ?_
          refine Wl.on rfl rfl ?_
          refine Wl.pure (PR.neqS (a := 0) rfl rfl) ?_
          refine Wl.pure (PR.pickFB rfl rfl) ?_
          refine Wl.nil ?_
          refine tn ?_
          refine Wc.condF rfl ?_
          refine Wc.skip ?_
          refine tn ?_
          refine Wc.seq ?_
          refine Wc.region rfl ?_
          refine Wl.pure (PR.assI rfl) ?_
          refine Wl.nil ?_
          refine tn ?_
          refine Wc.seq ?_
          refine Wc.region rfl ?_
          refine Wl.pure (PR.moveL rfl) ?_
          refine Wl.pure (PR.moveI rfl) ?_
          refine Wl.callV (c_laws_heldInt64S (A := some ⟨b39, 0, none⟩) (n := (flN (fun i_ => repOk ((s).toNat) ((p).toNat) a b n c i_ x (pic (wrQ ((s).toNat) ((p).toNat) a b n c x))) (s).toNat)) (cp := c39) (c := (fun j => 1 + j)) (z := 1) ((st.rdA (i := 2) (n := (flN (fun i_ => repOk ((s).toNat) ((p).toNat) a b n c i_ x (pic (wrQ ((s).toNat) ((p).toNat) a b n c x))) (s).toNat)) rfl (app_all (arrU_len _))).sl) (by first | assumption | omega) (fun u hu => by first | rfl | omega)) rfl ?_
          intro w25 hbel
          replace st := st.call hbel
          clear hbel
          refine Wl.pure (PR.assI rfl) ?_
          refine Wl.nil ?_
          refine tn ?_
          refine Wc.seq ?_
          refine Wc.seq ?_
          refine Wc.region rfl ?_
          refine Wl.pure (PR.moveI rfl) ?_
          refine Wl.pure (PR.lss (a := (((1 + (flN (fun i_ => repOk ((s).toNat) ((p).toNat) a b n c i_ x (pic (wrQ ((s).toNat) ((p).toNat) a b n c x))) (s).toNat)) : Nat) : Int)) (b := 0) rfl rfl) ?_
          refine Wl.nil ?_
          refine tn ?_
          refine Wc.condD (p := (((1 + (flN (fun i_ => repOk ((s).toNat) ((p).toNat) a b n c i_ x (pic (wrQ ((s).toNat) ((p).toNat) a b n c x))) (s).toNat)) : Nat) : Int) < 0) rfl (fun h26 => ?_) (fun h26 => ?_)
          · refine Wc.seq ?_
            refine Wc.region rfl ?_
            refine Wl.pure (PR.assB rfl) ?_
            refine Wl.nil ?_
            refine tn ?_
            refine Wc.ret ?_
            refine tr ?_
            refine postL.tmp rfl rfl ?_
            refine RetV.of ?_ st.below
            refine congrArg Value.bool ?_
            first | rfl | (exfalso; omega) | (simp only [*, decide_true, decide_false, Bool.not_true, Bool.not_false]; done) | (simp; omega) | (rw [Bool.eq_iff_iff]; simp; omega) | simp_all
          · refine Wc.skip ?_
            refine tn ?_
            refine Wc.seq ?_
            refine Wc.seq ?_
            refine Wc.region rfl ?_
            refine Wl.pure (PR.moveI rfl) ?_
            refine Wl.pure (PR.moveI rfl) ?_
            refine Wl.pure (PR.neqS (a := (((1 + (flN (fun i_ => repOk ((s).toNat) ((p).toNat) a b n c i_ x (pic (wrQ ((s).toNat) ((p).toNat) a b n c x))) (s).toNat)) : Nat) : Int)) rfl rfl) ?_
            refine Wl.nil ?_
            refine tn ?_
            refine Wc.condF rfl ?_
            refine Wc.skip ?_
            refine tn ?_
            refine Wc.seq ?_
            refine Wc.region rfl ?_
            refine Wl.pure (PR.assB rfl) ?_
            refine Wl.nil ?_
            refine tn ?_
            refine Wc.ret ?_
            refine postL.tmp rfl rfl ?_
            exact RetV.of rfl st.below
      · refine Wl.off rfl rfl rfl ?_
        refine Wl.off rfl rfl rfl ?_
        refine Wl.off rfl rfl rfl ?_
        refine Wl.pure (PR.pickTB rfl rfl) ?_
        refine Wl.pure (PR.moveB rfl) ?_
        refine Wl.off rfl rfl rfl ?_
        refine Wl.off rfl rfl rfl ?_
        refine Wl.off rfl rfl rfl ?_
        refine Wl.pure (PR.pickTB rfl rfl) ?_
        refine Wl.nil ?_
        refine tn ?_
        refine Wc.condT rfl ?_
        refine Wc.seq ?_
        refine Wc.region rfl ?_
        refine Wl.pure (PR.assB rfl) ?_
        refine Wl.nil ?_
        refine tn ?_
        refine Wc.ret ?_
        refine tr ?_
        refine postL.tmp rfl rfl ?_
        refine RetV.of ?_ st.below
        refine congrArg Value.bool ?_
        first | rfl | (exfalso; omega) | (simp only [*, decide_true, decide_false, Bool.not_true, Bool.not_false]; done) | (simp; omega) | (rw [Bool.eq_iff_iff]; simp; omega) | simp_all
    · obtain ⟨hn1, hz1⟩ := szL_ok (n := n) (z := 1048576) (by omega)
      have hfl := flN_le (fun i_ => repOk s.toNat p.toNat a b n c i_ x (pic (wrQ s.toNat p.toNat a b n c x))) s.toNat
      have hs127 : s.toNat ≤ 127 := by omega
      refine Wc.region rfl ?_
      refine Wl.loadA (i := 0) st tA_25 rfl rfl (all_sub schV_len) schV_len ?_
      refine Wl.callV (c_laws_toScheme (s := s) (p := p) (a := a) (b := b) ha hb) rfl ?_
      intro w27 hbel
      replace st := st.call hbel
      clear hbel
      refine Wl.pure (PR.moveI rfl) ?_
      refine Wl.pure (PR.moveL rfl) ?_
      refine Wl.callS st (c_laws_toLayerS (A := A) (n := n) (cp := cp) (p := y) (c := c) (hRL.st st) hc (by first | assumption | omega)) rfl ?_
      clear st
      intro b28 w28 st
      refine Wl.callXG [] st (c_spec_BlamedShares_f (s := s) (p := p) (a := a) (b := b) (x := x) (A := some ⟨b28, 0, none⟩) (n := n) (cp := n) (y := y) (c := c) (by first | assumption | omega) (by first | assumption | omega) ha hb hx ((st.rdA (i := 0) (n := (n * 65)) rfl (all_sub (recV_len (s := 65) (layS_row _ _) _))).sl) hg hc (by first | assumption | omega) (by first | assumption | omega)) rfl rfl ?_
      clear st
      intro b29_30 c29_30 sp29_30 w29 hc29_30 hs29_30 st
      replace st : St [] w w29 [(b29_30, arrU .i64 0 (fun _ => 0) ++ sp29_30, 2), (b28, layS n y c, 49), (b3, schV (s) (p) (a) (b), 25)] := st
      refine Wl.pure (PR.moveV (.tuple #[.slice (some ⟨b29_30, 0, none⟩) (0) (c29_30), .int .i64 (((blC (bothC s p a b n y c) (pic (wrQ ((s).toNat) ((p).toNat) a b n c x)) (flN (fun i_ => repOk ((s).toNat) ((p).toNat) a b n c i_ x (pic (wrQ ((s).toNat) ((p).toNat) a b n c x))) (s).toNat) : Nat) : Int))]) rfl) ?_
      refine Wl.pure (PR.extr (i := 0) (vs := [.slice (some ⟨b29_30, 0, none⟩) (0) (c29_30), .int .i64 (((blC (bothC s p a b n y c) (pic (wrQ ((s).toNat) ((p).toNat) a b n c x)) (flN (fun i_ => repOk ((s).toNat) ((p).toNat) a b n c i_ x (pic (wrQ ((s).toNat) ((p).toNat) a b n c x))) (s).toNat) : Nat) : Int))]) rfl rfl) ?_
      refine Wl.pure (PR.extr (i := 1) (vs := [.slice (some ⟨b29_30, 0, none⟩) (0) (c29_30), .int .i64 (((blC (bothC s p a b n y c) (pic (wrQ ((s).toNat) ((p).toNat) a b n c x)) (flN (fun i_ => repOk ((s).toNat) ((p).toNat) a b n c i_ x (pic (wrQ ((s).toNat) ((p).toNat) a b n c x))) (s).toNat) : Nat) : Int))]) rfl rfl) ?_
      refine Wl.pure (PR.assL rfl) ?_
      refine Wl.pure (PR.assI rfl) ?_
      refine Wl.nil ?_
      refine tn ?_
      refine Wc.seq ?_
      refine Wc.region rfl ?_
      refine Wl.pure (PR.moveL rfl) ?_
      refine Wl.callS st (c_laws_toLayerS (A := A) (n := n) (cp := cp) (p := y) (c := c) (hRL.st st) hc (by first | assumption | omega)) rfl ?_
      clear st
      intro b33 w31 st
      refine Wl.pure (PR.assL rfl) ?_
      refine Wl.nil ?_
      refine tn ?_
      refine Wc.seq ?_
      refine Wc.region rfl ?_
      refine Wl.loadA (i := 3) st tA_25 rfl rfl (all_sub schV_len) schV_len ?_
      refine Wl.callV (c_laws_toScheme (s := s) (p := p) (a := a) (b := b) ha hb) rfl ?_
      intro w32 hbel
      replace st := st.call hbel
      clear hbel
      refine Wl.pure (PR.moveI rfl) ?_
      refine Wl.pure (PR.moveL rfl) ?_
      refine Wl.callV (c_impl_BlamedShares_f (s := s) (p := p) (a := a) (b := b) (x := x) (A := some ⟨b33, 0, none⟩) (n := n) (cp := n) (y := y) (c := c) (by first | assumption | omega) (by first | assumption | omega) ha hb hx ((st.rdA (i := 0) (n := (n * 65)) rfl (all_sub (recV_len (s := 65) (layS_row _ _) _))).sl) hg hc (by first | assumption | omega) (by first | assumption | omega)) rfl ?_
      intro w33 hbel
      replace st := st.call hbel
      clear hbel
      refine Wl.pure (PR.moveV (.tuple #[.slice (none) (0) (0), .int .i64 (((blC (bothC s p a b n y c) (pic (wrQ ((s).toNat) ((p).toNat) a b n c x)) (flN (fun i_ => repOk ((s).toNat) ((p).toNat) a b n c i_ x (pic (wrQ ((s).toNat) ((p).toNat) a b n c x))) (s).toNat) : Nat) : Int))]) rfl) ?_
      refine Wl.pure (PR.extr (i := 0) (vs := [.slice (none) (0) (0), .int .i64 (((blC (bothC s p a b n y c) (pic (wrQ ((s).toNat) ((p).toNat) a b n c x)) (flN (fun i_ => repOk ((s).toNat) ((p).toNat) a b n c i_ x (pic (wrQ ((s).toNat) ((p).toNat) a b n c x))) (s).toNat) : Nat) : Int))]) rfl rfl) ?_
      refine Wl.pure (PR.extr (i := 1) (vs := [.slice (none) (0) (0), .int .i64 (((blC (bothC s p a b n y c) (pic (wrQ ((s).toNat) ((p).toNat) a b n c x)) (flN (fun i_ => repOk ((s).toNat) ((p).toNat) a b n c i_ x (pic (wrQ ((s).toNat) ((p).toNat) a b n c x))) (s).toNat) : Nat) : Int))]) rfl rfl) ?_
      refine Wl.pure (PR.assL rfl) ?_
      refine Wl.pure (PR.assI rfl) ?_
      refine Wl.nil ?_
      refine tn ?_
      refine Wc.seq ?_
      refine Wc.seq ?_
      refine Wc.region rfl ?_
      refine Wl.pure (PR.moveL rfl) ?_
      refine Wl.pure (PR.moveL rfl) ?_
      refine Wl.callV (c_laws_eqInt64S (A := none) (n := 0) (cp := 0) (c := (fun _ => 0)) (B := some ⟨b29_30, 0, none⟩) (cq := c29_30) (fun h => absurd h (by decide)) ((st.rdA (i := 1) (n := 0) rfl (app_all (arrU_len _))).sl) (by first | assumption | omega)) rfl ?_
      intro w34 hbel
      replace st := st.call hbel
      clear hbel
      refine Wl.pure (PR.not_ rfl) ?_
      refine Wl.pure (PR.moveB rfl) ?_
      refine Wl.on rfl rfl ?_
      refine Wl.pure (PR.moveI rfl) ?_
      refine Wl.on rfl rfl ?_
      refine Wl.pure (PR.moveI rfl) ?_
      refine Wl.on rfl rfl ?_
      refine Wl.pure (PR.neqS (a := ((blC (bothC s p a b n y c) (pic (wrQ ((s).toNat) ((p).toNat) a b n c x)) (flN (fun i_ => repOk ((s).toNat) ((p).toNat) a b n c i_ x (pic (wrQ ((s).toNat) ((p).toNat) a b n c x))) (s).toNat) : Nat) : Int)) rfl rfl) ?_
      refine Wl.pure (PR.pickFB rfl rfl) ?_
      refine Wl.nil ?_
      refine tn ?_
      refine Wc.condF rfl ?_
      refine Wc.skip ?_
      refine tn ?_
      refine Wc.seq ?_
      refine Wc.seq ?_
      refine Wc.region rfl ?_
      refine Wl.pure (PR.moveL rfl) ?_
      refine Wl.pure (PR.moveL rfl) ?_
      refine Wl.callS st (c_laws_toLayerS (A := A) (n := n) (cp := cp) (p := y) (c := c) (hRL.st st) hc (by first | assumption | omega)) rfl ?_
      clear st
      intro b53 w35 st
      refine Wl.callV (c_laws_eqLayerS (A := some ⟨b33, 0, none⟩) (n := n) (cp := n) (p := y) (c := c) (B := some ⟨b53, 0, none⟩) (cq := n) ((st.rdA (i := 1) (n := (n * 65)) rfl (all_sub (recV_len (s := 65) (layS_row _ _) _))).sl) ((st.rdA (i := 0) (n := (n * 65)) rfl (all_sub (recV_len (s := 65) (layS_row _ _) _))).sl) (by first | assumption | omega)) rfl ?_
      intro w36 hbel
      replace st := st.call hbel
      clear hbel
      refine Wl.pure (PR.not_ rfl) ?_
      refine Wl.nil ?_
      refine tn ?_
      refine Wc.condF rfl ?_
      refine Wc.skip ?_
      refine tn ?_
      refine Wc.seq ?_
      refine Wc.region rfl ?_
      refine Wl.pure (PR.assI rfl) ?_
      refine Wl.nil ?_
      refine tn ?_
      refine Wc.seq ?_
      refine Wc.region rfl ?_
      refine Wl.pure (PR.moveL rfl) ?_
      refine Wl.pure (PR.moveI rfl) ?_
      replace st : St [] w w36 [(b53, layS n y c, 49), (b33, layS n y c ++ [], 49), (b29_30, arrU .i64 0 (fun _ => 0) ++ sp29_30, 2), (b28, layS n y c, 49), (b3, schV (s) (p) (a) (b), 25)] := st.nilat (i := 1) rfl
      refine Wl.callXE [1] st (c_laws_markLayerS (ba := b33) (n := n) (cp := n) (p := y) (c := c) (sp := []) (z := 1) (by first | assumption | omega) (by first | assumption | omega) (st.lend (L' := [(b33, layS n y c ++ [], 49)]) [1] (by decide) rfl)) rfl rfl ?_
      clear st
      rintro ⟨p__38, c__39⟩ _ w37 st
      try dsimp only at st 
      replace st : St [] w w37 [(b33, layS n p__38 c__39 ++ [], 49), (b53, layS n y c, 49), (b29_30, arrU .i64 0 (fun _ => 0) ++ sp29_30, 2), (b28, layS n y c, 49), (b3, schV (s) (p) (a) (b), 25)] := st
      refine Wl.pure (PR.assI rfl) ?_
      refine Wl.nil ?_
      refine tn ?_
      refine Wc.seq ?_
      refine Wc.seq ?_
      refine Wc.region rfl ?_
      refine Wl.pure (PR.moveI rfl) ?_
      refine Wl.pure (PR.lss (a := (((1 + 65 * n) : Nat) : Int)) (b := 0) rfl rfl) ?_
      refine Wl.pure (PR.moveB rfl) ?_
      refine Wl.splitF (q := (((1 + 65 * n) : Nat) : Int) < 0) rfl rfl (fun h40 => ?_) (fun h40 => ?_)
      · refine Wl.pure (PR.moveL rfl) ?_
        refine Wl.on rfl rfl ?_
        refine Wl.pure (PR.moveL rfl) ?_
        refine Wl.on rfl rfl ?_
        refine Wl.callV (c_laws_eqInt64S (A := none) (n := 0) (cp := 0) (c := (fun _ => 0)) (B := some ⟨b29_30, 0, none⟩) (cq := c29_30) (fun h => absurd h (by decide)) ((st.rdA (i := 2) (n := 0) rfl (app_all (arrU_len _))).sl) (by first | assumption | omega)) rfl ?_
        intro w41 hbel
        replace st := st.call hbel
        clear hbel
        refine Wl.on rfl rfl ?_
        refine Wl.pure (PR.not_ rfl) ?_
        refine Wl.pure (PR.pickFB rfl rfl) ?_
        refine Wl.pure (PR.moveB rfl) ?_
        refine Wl.on rfl rfl ?_
        refine Wl.pure (PR.moveI rfl) ?_
        refine Wl.on rfl rfl ?_
        refine Wl.pure (PR.moveI rfl) ?_
        refine Wl.on rfl rfl ?_
        refine Wl.pure (PR.neqS (a := ((blC (bothC s p a b n y c) (pic (wrQ ((s).toNat) ((p).toNat) a b n c x)) (flN (fun i_ => repOk ((s).toNat) ((p).toNat) a b n c i_ x (pic (wrQ ((s).toNat) ((p).toNat) a b n c x))) (s).toNat) : Nat) : Int)) rfl rfl) ?_
        refine Wl.pure (PR.pickFB rfl rfl) ?_
        refine Wl.nil ?_
        refine tn ?_
        refine Wc.condF rfl ?_
        refine Wc.skip ?_
        refine tn ?_
        refine Wc.seq ?_
        refine Wc.region rfl ?_
        refine Wl.pure (PR.assI rfl) ?_
        refine Wl.nil ?_
        refine tn ?_
        refine Wc.seq ?_
        refine Wc.region rfl ?_
        refine Wl.pure (PR.moveL rfl) ?_
        refine Wl.pure (PR.moveI rfl) ?_
        refine Wl.callV (c_markInt64S0 (A := none) (cp := 0) (z := 1)) rfl ?_
        intro w42 hbel
        replace st := st.call hbel
        clear hbel
        refine Wl.pure (PR.assI rfl) ?_
        refine Wl.nil ?_
        refine tn ?_
        refine Wc.seq ?_
        refine Wc.region rfl ?_
        refine Wl.pure (PR.assI rfl) ?_
        refine Wl.nil ?_
        refine tn ?_
        refine Wc.seq ?_
        refine Wc.region rfl ?_
        refine Wl.pure (PR.moveL rfl) ?_
        refine Wl.pure (PR.moveI rfl) ?_
        refine Wl.callV (c_laws_heldInt64S (A := none) (n := 0) (cp := 0) (c := (fun _ => 0)) (z := 1) (fun h => absurd h (by decide)) (by first | assumption | omega) (fun u hu => by first | rfl | omega)) rfl ?_
        intro w43 hbel
        replace st := st.call hbel
        clear hbel
        refine Wl.pure (PR.assI rfl) ?_
        refine Wl.nil ?_
        refine tn ?_
        refine Wc.seq ?_
        refine Wc.seq ?_
        refine Wc.region rfl ?_
        refine Wl.pure (PR.moveI rfl) ?_
        refine Wl.pure (PR.lss (a := (((1 + 0) : Nat) : Int)) (b := 0) rfl rfl) ?_
        refine Wl.nil ?_
        refine tn ?_
        refine Wc.condD (p := (((1 + 0) : Nat) : Int) < 0) rfl (fun h44 => ?_) (fun h44 => ?_)
        · refine Wc.seq ?_
          refine Wc.region rfl ?_
          refine Wl.pure (PR.assB rfl) ?_
          refine Wl.nil ?_
          refine tn ?_
          refine Wc.ret ?_
          refine tr ?_
          refine postL.tmp rfl rfl ?_
          refine RetV.of ?_ st.below
          refine congrArg Value.bool ?_
          first | rfl | (exfalso; omega) | (simp only [*, decide_true, decide_false, Bool.not_true, Bool.not_false]; done) | (simp; omega) | (rw [Bool.eq_iff_iff]; simp; omega) | simp_all
        · refine Wc.skip ?_
          refine tn ?_
          refine Wc.seq ?_
          refine Wc.seq ?_
          refine Wc.region rfl ?_
          refine Wl.pure (PR.moveI rfl) ?_
          refine Wl.pure (PR.moveI rfl) ?_
          refine Wl.pure (PR.neq (a := (((1 + 0) : Nat) : Int)) (b := 1) rfl rfl) ?_
          refine Wl.nil ?_
          refine tn ?_
          refine Wc.condN (p := (((1 + 0) : Nat) : Int) = 1) rfl (fun h45 => ?_) (fun h45 => ?_)
          · refine Wc.seq ?_
            refine Wc.region rfl ?_
            refine Wl.pure (PR.assB rfl) ?_
            refine Wl.nil ?_
            refine tn ?_
            refine Wc.ret ?_
            refine tr ?_
            refine postL.tmp rfl rfl ?_
            refine RetV.of ?_ st.below
            refine congrArg Value.bool ?_
            first | rfl | (exfalso; omega) | (simp only [*, decide_true, decide_false, Bool.not_true, Bool.not_false]; done) | (simp; omega) | (rw [Bool.eq_iff_iff]; simp; omega) | simp_all
          · refine Wc.skip ?_
            refine tn ?_
            refine Wc.seq ?_
            refine Wc.region rfl ?_
            refine Wl.loadA (i := 4) st tA_25 rfl rfl (all_sub schV_len) schV_len ?_
            refine Wl.callV (c_laws_toScheme (s := s) (p := p) (a := a) (b := b) ha hb) rfl ?_
            intro w46 hbel
            replace st := st.call hbel
            clear hbel
            refine Wl.pure (PR.moveI rfl) ?_
            refine Wl.pure (PR.moveL rfl) ?_
            refine Wl.callS st (c_laws_toLayerS (A := A) (n := n) (cp := cp) (p := y) (c := c) (hRL.st st) hc (by first | assumption | omega)) rfl ?_
            clear st
            intro b88 w47 st
            refine Wl.callV (c_impl_BlamedShares_f (s := s) (p := p) (a := a) (b := b) (x := x) (A := some ⟨b88, 0, none⟩) (n := n) (cp := n) (y := y) (c := c) (by first | assumption | omega) (by first | assumption | omega) ha hb hx ((st.rdA (i := 0) (n := (n * 65)) rfl (all_sub (recV_len (s := 65) (layS_row _ _) _))).sl) hg hc (by first | assumption | omega) (by first | assumption | omega)) rfl ?_
            intro w48 hbel
            replace st := st.call hbel
            clear hbel
            refine Wl.pure (PR.moveV (.tuple #[.slice (none) (0) (0), .int .i64 (((blC (bothC s p a b n y c) (pic (wrQ ((s).toNat) ((p).toNat) a b n c x)) (flN (fun i_ => repOk ((s).toNat) ((p).toNat) a b n c i_ x (pic (wrQ ((s).toNat) ((p).toNat) a b n c x))) (s).toNat) : Nat) : Int))]) rfl) ?_
            refine Wl.pure (PR.extr (i := 0) (vs := [.slice (none) (0) (0), .int .i64 (((blC (bothC s p a b n y c) (pic (wrQ ((s).toNat) ((p).toNat) a b n c x)) (flN (fun i_ => repOk ((s).toNat) ((p).toNat) a b n c i_ x (pic (wrQ ((s).toNat) ((p).toNat) a b n c x))) (s).toNat) : Nat) : Int))]) rfl rfl) ?_
            refine Wl.pure (PR.extr (i := 1) (vs := [.slice (none) (0) (0), .int .i64 (((blC (bothC s p a b n y c) (pic (wrQ ((s).toNat) ((p).toNat) a b n c x)) (flN (fun i_ => repOk ((s).toNat) ((p).toNat) a b n c i_ x (pic (wrQ ((s).toNat) ((p).toNat) a b n c x))) (s).toNat) : Nat) : Int))]) rfl rfl) ?_
            refine Wl.pure (PR.assL rfl) ?_
            refine Wl.pure (PR.assI rfl) ?_
            refine Wl.nil ?_
            refine tn ?_
            refine Wc.seq ?_
            refine Wc.seq ?_
            refine Wc.region rfl ?_
            refine Wl.pure (PR.moveL rfl) ?_
            refine Wl.pure (PR.moveL rfl) ?_
            refine Wl.callV (c_laws_eqInt64S (A := none) (n := 0) (cp := 0) (c := (fun _ => 0)) (B := some ⟨b29_30, 0, none⟩) (cq := c29_30) (fun h => absurd h (by decide)) ((st.rdA (i := 3) (n := 0) rfl (app_all (arrU_len _))).sl) (by first | assumption | omega)) rfl ?_
            intro w49 hbel
            replace st := st.call hbel
            clear hbel
            refine Wl.pure (PR.not_ rfl) ?_
            refine Wl.pure (PR.moveB rfl) ?_
            refine Wl.on rfl rfl ?_
            refine Wl.pure (PR.moveI rfl) ?_
            refine Wl.on rfl rfl ?_
            refine Wl.pure (PR.moveI rfl) ?_
            refine Wl.on rfl rfl ?_
            refine Wl.pure (PR.neqS (a := ((blC (bothC s p a b n y c) (pic (wrQ ((s).toNat) ((p).toNat) a b n c x)) (flN (fun i_ => repOk ((s).toNat) ((p).toNat) a b n c i_ x (pic (wrQ ((s).toNat) ((p).toNat) a b n c x))) (s).toNat) : Nat) : Int)) rfl rfl) ?_
            refine Wl.pure (PR.pickFB rfl rfl) ?_
            refine Wl.nil ?_
            refine tn ?_
            refine Wc.condF rfl ?_
            refine Wc.skip ?_
            refine tn ?_
            refine Wc.seq ?_
            refine Wc.region rfl ?_
            refine Wl.pure (PR.assI rfl) ?_
            refine Wl.nil ?_
            refine tn ?_
            refine Wc.seq ?_
            refine Wc.region rfl ?_
            refine Wl.pure (PR.moveL rfl) ?_
            refine Wl.pure (PR.moveI rfl) ?_
            refine Wl.callV (c_laws_heldInt64S (A := none) (n := 0) (cp := 0) (c := (fun _ => 0)) (z := 1) (fun h => absurd h (by decide)) (by first | assumption | omega) (fun u hu => by first | rfl | omega)) rfl ?_
            intro w50 hbel
            replace st := st.call hbel
            clear hbel
            refine Wl.pure (PR.assI rfl) ?_
            refine Wl.nil ?_
            refine tn ?_
            refine Wc.seq ?_
            refine Wc.seq ?_
            refine Wc.region rfl ?_
            refine Wl.pure (PR.moveI rfl) ?_
            refine Wl.pure (PR.lss (a := (((1 + 0) : Nat) : Int)) (b := 0) rfl rfl) ?_
            refine Wl.nil ?_
            refine tn ?_
            refine Wc.condD (p := (((1 + 0) : Nat) : Int) < 0) rfl (fun h51 => ?_) (fun h51 => ?_)
            · refine Wc.seq ?_
              refine Wc.region rfl ?_
              refine Wl.pure (PR.assB rfl) ?_
              refine Wl.nil ?_
              refine tn ?_
              refine Wc.ret ?_
              refine tr ?_
              refine postL.tmp rfl rfl ?_
              refine RetV.of ?_ st.below
              refine congrArg Value.bool ?_
              first | rfl | (exfalso; omega) | (simp only [*, decide_true, decide_false, Bool.not_true, Bool.not_false]; done) | (simp; omega) | (rw [Bool.eq_iff_iff]; simp; omega) | simp_all
            · refine Wc.skip ?_
              refine tn ?_
              refine Wc.seq ?_
              refine Wc.seq ?_
              refine Wc.region rfl ?_
              refine Wl.pure (PR.moveI rfl) ?_
              refine Wl.pure (PR.moveI rfl) ?_
              refine Wl.pure (PR.neq (a := (((1 + 0) : Nat) : Int)) (b := 1) rfl rfl) ?_
              refine Wl.nil ?_
              refine tn ?_
              refine Wc.condN (p := (((1 + 0) : Nat) : Int) = 1) rfl (fun h52 => ?_) (fun h52 => ?_)
              · refine Wc.seq ?_
                refine Wc.region rfl ?_
                refine Wl.pure (PR.assB rfl) ?_
                refine Wl.nil ?_
                refine tn ?_
                refine Wc.ret ?_
                refine tr ?_
                refine postL.tmp rfl rfl ?_
                refine RetV.of ?_ st.below
                refine congrArg Value.bool ?_
                first | rfl | (exfalso; omega) | (simp only [*, decide_true, decide_false, Bool.not_true, Bool.not_false]; done) | (simp; omega) | (rw [Bool.eq_iff_iff]; simp; omega) | simp_all
              · refine Wc.skip ?_
                refine tn ?_
                refine Wc.seq ?_
                refine Wc.region rfl ?_
                refine Wl.pure (PR.assB rfl) ?_
                refine Wl.nil ?_
                refine tn ?_
                refine Wc.ret ?_
                refine postL.tmp rfl rfl ?_
                exact RetV.of rfl st.below
      · refine Wl.off rfl rfl rfl ?_
        refine Wl.off rfl rfl rfl ?_
        refine Wl.off rfl rfl rfl ?_
        refine Wl.pure (PR.pickTB rfl rfl) ?_
        refine Wl.pure (PR.moveB rfl) ?_
        refine Wl.off rfl rfl rfl ?_
        refine Wl.off rfl rfl rfl ?_
        refine Wl.off rfl rfl rfl ?_
        refine Wl.pure (PR.pickTB rfl rfl) ?_
        refine Wl.nil ?_
        refine tn ?_
        refine Wc.condT rfl ?_
        refine Wc.seq ?_
        refine Wc.region rfl ?_
        refine Wl.pure (PR.assB rfl) ?_
        refine Wl.nil ?_
        refine tn ?_
        refine Wc.ret ?_
        refine tr ?_
        refine postL.tmp rfl rfl ?_
        refine RetV.of ?_ st.below
        refine congrArg Value.bool ?_
        first | rfl | (exfalso; omega) | (simp only [*, decide_true, decide_false, Bool.not_true, Bool.not_false]; done) | (simp; omega) | (rw [Bool.eq_iff_iff]; simp; omega) | simp_all

end Go.Proofs.Ytabekcodjcbolaa
