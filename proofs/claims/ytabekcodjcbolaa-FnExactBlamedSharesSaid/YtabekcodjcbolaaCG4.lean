/-
  Contracts of functions, printed by a program of ours.
-/
import Derived.Test.YtabekcodjcbolaaCG3
namespace Go.Proofs.Ytabekcodjcbolaa
open Go.RowKit
set_option linter.unusedVariables false
set_option linter.unusedSimpArgs false

set_option maxHeartbeats 400000 in
set_option maxRecDepth 4000 in
theorem c_impl_PossibleCells_t {s : Int} {p : Int} {a : Nat → Nat} {b : Nat → Nat} {A : Option Addr} {n : Nat} {cp : Nat} {y : Nat → Int} {c : Nat → Nat → Nat} {z : Int} {q : Bool} {t : Int} {w : World} (hs : -128 ≤ s ∧ s ≤ 127) (hp : -128 ≤ p ∧ p ≤ 127) (ha : ∀ k, a k < 256) (hb : ∀ k, b k < 256) (hRL : RdS w A n (layS n y c)) (hg : ∀ i, i < n → -128 ≤ y i ∧ y i ≤ 127) (hc : ∀ i k, c i k < 256) (hn : n ≤ 1048576) (hcode : pcC s p a b n y c z t = 0) :
    CE Try.prog 17 [.agg (schV (s) (p) (a) (b)).toArray, .slice (A) (n) (cp), .int .i64 (z), .bool (q), .int .i64 (t)] w (RetXG w [] 5 1 ((flN (possQ ((s).toNat) ((p).toNat) a b n c ((z).toNat) q ((t).toNat)) (1 <<< ((p).toNat)))) (arrU .u8 (flN (possQ ((s).toNat) ((p).toNat) a b n c ((z).toNat) q ((t).toNat)) (1 <<< ((p).toNat))) (flA (possQ ((s).toNat) ((p).toNat) a b n c ((z).toNat) q ((t).toNat)) (1 <<< ((p).toNat)))) (fun b_ c_ => .tuple #[.slice (some ⟨b_, 0, none⟩) ((flN (possQ ((s).toNat) ((p).toNat) a b n c ((z).toNat) q ((t).toNat)) (1 <<< ((p).toNat)))) (c_), .int .i64 (0)]) []) := by
  refine CE.enter 36 [(0, .agg (schV (s) (p) (a) (b)).toArray), (1, .slice (A) (n) (cp)), (2, .int .i64 (z)), (3, .bool (q)), (4, .int .i64 (t))] en_17 Try.func17 rfl rfl (Nat.le_of_ble_eq_true rfl) rfl ?_
  have st := St.start w
  refine Wc.seq ?_
  refine Wc.region rfl ?_
  refine Wl.boxA st rfl ?_
  clear st
  intro b5 w1 st
  refine Wl.pure (PR.assL rfl) ?_
  refine Wl.pure (PR.assI rfl) ?_
  refine Wl.nil ?_
  refine tn ?_
  refine Wc.seq ?_
  refine Wc.region rfl ?_
  refine Wl.loadA (i := 0) st tA_32 rfl rfl (all_sub schV_len) schV_len ?_
  refine Wl.pure (PR.moveL rfl) ?_
  refine Wl.pure (PR.moveI rfl) ?_
  refine Wl.callV (c_impl_cheatCode (s := s) (p := p) (a := a) (b := b) (A := A) (n := n) (cp := cp) (y := y) (c := c) (z := z) (by first | assumption | omega) (by first | assumption | omega) ha hb (hRL.st st) hg hc (by first | assumption | omega)) rfl ?_
  intro w2 hbel
  replace st := st.call hbel
  clear hbel
  refine Wl.pure (PR.assI rfl) ?_
  refine Wl.nil ?_
  refine tn ?_
  refine Wc.seq ?_
  refine Wc.seq ?_
  refine Wc.region rfl ?_
  refine Wl.pure (PR.moveI rfl) ?_
  refine Wl.pure (PR.neq (a := ((shC s p a b n y c z : Nat) : Int)) (b := 0) rfl rfl) ?_
  refine Wl.pure (PR.moveI rfl) ?_
  refine Wl.pure (PR.build (ps := [(0, .bool (!decide (((shC s p a b n y c z : Nat) : Int) = 0))), (1, .int .i64 (((shC s p a b n y c z : Nat) : Int)))]) (cs := [.bool (!decide (((shC s p a b n y c z : Nat) : Int) = 0)), .int .i64 (((shC s p a b n y c z : Nat) : Int))]) tB_78 rfl rfl) ?_
  refine Wl.pure (PR.moveI rfl) ?_
  refine Wl.callV (c_impl_within (n := t) (lo := 0) (hi := 63)) rfl ?_
  intro w3 hbel
  replace st := st.call hbel
  clear hbel
  refine Wl.pure (PR.not_ rfl) ?_
  refine Wl.pure (PR.build (ps := [(0, .bool (!decide (0 ≤ t ∧ t ≤ 63))), (1, .int .i64 (2))]) (cs := [.bool (!decide (0 ≤ t ∧ t ≤ 63)), .int .i64 (2)]) tB_78 rfl rfl) ?_
  refine Wl.buildSlice (ps := [(0, .agg ([.bool (!decide (((shC s p a b n y c z : Nat) : Int) = 0)), .int .i64 (((shC s p a b n y c z : Nat) : Int))]).toArray), (1, .agg ([.bool (!decide (0 ≤ t ∧ t ≤ 63)), .int .i64 (2)]).toArray)]) (cs := [.bool (!decide (((shC s p a b n y c z : Nat) : Int) = 0)), .int .i64 (((shC s p a b n y c z : Nat) : Int)), .bool (!decide (0 ≤ t ∧ t ≤ 63)), .int .i64 (2)]) st tS_100 tZ_78 rfl rfl rfl ?_
  clear st
  intro b25 w4 st
  refine Wl.callV (c_impl_firstOf (bk := b25) (o := 0) (n := 2) (cp := 2) (c := (fun i => [(!decide (((shC s p a b n y c z : Nat) : Int) = 0)), (!decide (0 ≤ t ∧ t ≤ 63))].getD i false)) (e := (fun i => [((shC s p a b n y c z : Nat) : Int), 2].getD i 0)) (st.rdA (i := 0) (n := 4) rfl rfl) (by first | assumption | omega)) rfl ?_
  intro w5 hbel
  replace st := st.call hbel
  clear hbel
  refine Wl.pure (PR.assI rfl) ?_
  refine Wl.nil ?_
  refine tn ?_
  refine Wc.seq ?_
  have hq9 : firstZ 2 (fun i => [(!decide (((shC s p a b n y c z : Nat) : Int) = 0)), (!decide (0 ≤ t ∧ t ≤ 63))].getD i false) (fun i => [((shC s p a b n y c z : Nat) : Int), 2].getD i 0) = ((pcC s p a b n y c z t : Nat) : Int) := first_pc rfl rfl
  refine Wc.region rfl ?_
  refine Wl.pure (PR.moveI rfl) ?_
  refine Wl.pure (PR.neq (a := firstZ 2 (fun i => [(!decide (((shC s p a b n y c z : Nat) : Int) = 0)), (!decide (0 ≤ t ∧ t ≤ 63))].getD i false) (fun i => [((shC s p a b n y c z : Nat) : Int), 2].getD i 0)) (b := 0) rfl rfl) ?_
  refine Wl.nil ?_
  refine tn ?_
  refine Wc.condN (p := firstZ 2 (fun i => [(!decide (((shC s p a b n y c z : Nat) : Int) = 0)), (!decide (0 ≤ t ∧ t ≤ 63))].getD i false) (fun i => [((shC s p a b n y c z : Nat) : Int), 2].getD i 0) = 0) rfl (fun h6 => ?_) (fun h6 => ?_)
  · refine Wc.seq ?_
    exfalso
    omega
  · refine Wc.skip ?_
    refine tn ?_
    refine Wc.seq ?_
    obtain ⟨hs9, hti⟩ := pcC_spec (s := s) (p := p) (a := a) (b := b) (n := n) (g := y) (c := c) (i := z) (k := t) hcode
    obtain ⟨hb9, hzi⟩ := shC_spec (s := s) (p := p) (a := a) (b := b) (n := n) (g := y) (c := c) (i := z) (by omega)
    have hcode0 : bothC s p a b n y c = 0 := hb9
    obtain ⟨hok, hlay, hns⟩ := bothC_spec hcode0
    have hall := bothC_all hcode0
    obtain ⟨hs1, hp1, _⟩ := schOk_spec hok
    obtain ⟨d_, rfl⟩ : ∃ d_ : Nat, s = ((d_ : Nat) : Int) := ⟨s.toNat, by omega⟩
    obtain ⟨e_, rfl⟩ : ∃ e_ : Nat, p = ((e_ : Nat) : Int) := ⟨p.toNat, by omega⟩
    obtain ⟨_, hza, hzb⟩ := sch_zero hok
    have hns9 : n = d_ := by omega
    have hy0 : y 0 = ((e_ : Nat) : Int) := hall 0 (by omega)
    have hn6 : 1 ≤ n ∧ n ≤ 6 := by omega
    obtain ⟨i_, rfl⟩ : ∃ i_ : Nat, z = ((i_ : Nat) : Int) := ⟨z.toNat, by omega⟩
    have hi0 : i_ < n := by omega
    obtain ⟨k_, rfl⟩ : ∃ k_ : Nat, t = ((k_ : Nat) : Int) := ⟨t.toNat, by omega⟩
    refine Wc.region rfl ?_
    refine Wl.loadA (i := 1) st tA_32 rfl rfl (all_sub schV_len) schV_len ?_
    refine Wl.pure (PR.moveL rfl) ?_
    refine Wl.pure (PR.moveI rfl) ?_
    refine Wl.pure (PR.moveB rfl) ?_
    refine Wl.pure (PR.moveI rfl) ?_
    refine Wl.callXG [] st (c_impl_Scheme_possible (s := d_) (p := e_) (a := a) (b := b) (A := A) (n := n) (cp := cp) (y := y) (c := c) (i := i_) (q := (q)) (k := k_) (by first | assumption | omega) ha hb (by first | assumption | omega) (by first | assumption | omega) (by first | assumption | omega) (hRL.st st) hg hc (by first | assumption | omega) (by first | assumption | omega) (by first | assumption | omega) (by first | assumption | omega)) rfl rfl ?_
    clear st
    intro b35 c35 sp35 w7 hc35 hs35 st
    replace st : St [] w w7 [(b35, arrU .u8 (flN (possQ d_ e_ a b n c i_ (q) k_) (1 <<< e_)) (flA (possQ d_ e_ a b n c i_ (q) k_) (1 <<< e_)) ++ sp35, 5), (b25, [.bool (!decide (((shC ((d_ : Nat) : Int) ((e_ : Nat) : Int) a b n y c ((i_ : Nat) : Int) : Nat) : Int) = 0)), .int .i64 (((shC ((d_ : Nat) : Int) ((e_ : Nat) : Int) a b n y c ((i_ : Nat) : Int) : Nat) : Int)), .bool (!decide (0 ≤ ((k_ : Nat) : Int) ∧ ((k_ : Nat) : Int) ≤ 63)), .int .i64 (2)], 78), (b5, schV ((d_ : Nat) : Int) ((e_ : Nat) : Int) (a) (b), 32)] := st
    refine Wl.pure (PR.assL rfl) ?_
    refine Wl.pure (PR.assI rfl) ?_
    refine Wl.nil ?_
    refine tn ?_
    refine Wc.ret ?_
    refine postL.tmp2 rfl rfl rfl ?_
    replace st : St [] w w7 [(b35, arrU .u8 (flN (possQ d_ e_ a b n c i_ (q) k_) (1 <<< e_)) (flA (possQ d_ e_ a b n c i_ (q) k_) (1 <<< e_)) ++ sp35, 5)] := st.pick [0] (by decide) rfl
    exact ⟨b35, c35, sp35, hc35, hs35, rfl, st⟩

set_option maxHeartbeats 400000 in
set_option maxRecDepth 4000 in
theorem c_impl_PossibleCells_f {s : Int} {p : Int} {a : Nat → Nat} {b : Nat → Nat} {A : Option Addr} {n : Nat} {cp : Nat} {y : Nat → Int} {c : Nat → Nat → Nat} {z : Int} {q : Bool} {t : Int} {w : World} (hs : -128 ≤ s ∧ s ≤ 127) (hp : -128 ≤ p ∧ p ≤ 127) (ha : ∀ k, a k < 256) (hb : ∀ k, b k < 256) (hRL : RdS w A n (layS n y c)) (hg : ∀ i, i < n → -128 ≤ y i ∧ y i ≤ 127) (hc : ∀ i k, c i k < 256) (hn : n ≤ 1048576) (hcode : ¬ pcC s p a b n y c z t = 0) :
    CE Try.prog 17 [.agg (schV (s) (p) (a) (b)).toArray, .slice (A) (n) (cp), .int .i64 (z), .bool (q), .int .i64 (t)] w (RetV w (.tuple #[.slice (none) (0) (0), .int .i64 (((pcC s p a b n y c z t : Nat) : Int))])) := by
  refine CE.enter 36 [(0, .agg (schV (s) (p) (a) (b)).toArray), (1, .slice (A) (n) (cp)), (2, .int .i64 (z)), (3, .bool (q)), (4, .int .i64 (t))] en_17 Try.func17 rfl rfl (Nat.le_of_ble_eq_true rfl) rfl ?_
  have st := St.start w
  refine Wc.seq ?_
  refine Wc.region rfl ?_
  refine Wl.boxA st rfl ?_
  clear st
  intro b5 w1 st
  refine Wl.pure (PR.assL rfl) ?_
  refine Wl.pure (PR.assI rfl) ?_
  refine Wl.nil ?_
  refine tn ?_
  refine Wc.seq ?_
  refine Wc.region rfl ?_
  refine Wl.loadA (i := 0) st tA_32 rfl rfl (all_sub schV_len) schV_len ?_
  refine Wl.pure (PR.moveL rfl) ?_
  refine Wl.pure (PR.moveI rfl) ?_
  refine Wl.callV (c_impl_cheatCode (s := s) (p := p) (a := a) (b := b) (A := A) (n := n) (cp := cp) (y := y) (c := c) (z := z) (by first | assumption | omega) (by first | assumption | omega) ha hb (hRL.st st) hg hc (by first | assumption | omega)) rfl ?_
  intro w2 hbel
  replace st := st.call hbel
  clear hbel
  refine Wl.pure (PR.assI rfl) ?_
  refine Wl.nil ?_
  refine tn ?_
  refine Wc.seq ?_
  refine Wc.seq ?_
  refine Wc.region rfl ?_
  refine Wl.pure (PR.moveI rfl) ?_
  refine Wl.pure (PR.neq (a := ((shC s p a b n y c z : Nat) : Int)) (b := 0) rfl rfl) ?_
  refine Wl.pure (PR.moveI rfl) ?_
  refine Wl.pure (PR.build (ps := [(0, .bool (!decide (((shC s p a b n y c z : Nat) : Int) = 0))), (1, .int .i64 (((shC s p a b n y c z : Nat) : Int)))]) (cs := [.bool (!decide (((shC s p a b n y c z : Nat) : Int) = 0)), .int .i64 (((shC s p a b n y c z : Nat) : Int))]) tB_78 rfl rfl) ?_
  refine Wl.pure (PR.moveI rfl) ?_
  refine Wl.callV (c_impl_within (n := t) (lo := 0) (hi := 63)) rfl ?_
  intro w3 hbel
  replace st := st.call hbel
  clear hbel
  refine Wl.pure (PR.not_ rfl) ?_
  refine Wl.pure (PR.build (ps := [(0, .bool (!decide (0 ≤ t ∧ t ≤ 63))), (1, .int .i64 (2))]) (cs := [.bool (!decide (0 ≤ t ∧ t ≤ 63)), .int .i64 (2)]) tB_78 rfl rfl) ?_
  refine Wl.buildSlice (ps := [(0, .agg ([.bool (!decide (((shC s p a b n y c z : Nat) : Int) = 0)), .int .i64 (((shC s p a b n y c z : Nat) : Int))]).toArray), (1, .agg ([.bool (!decide (0 ≤ t ∧ t ≤ 63)), .int .i64 (2)]).toArray)]) (cs := [.bool (!decide (((shC s p a b n y c z : Nat) : Int) = 0)), .int .i64 (((shC s p a b n y c z : Nat) : Int)), .bool (!decide (0 ≤ t ∧ t ≤ 63)), .int .i64 (2)]) st tS_100 tZ_78 rfl rfl rfl ?_
  clear st
  intro b25 w4 st
  refine Wl.callV (c_impl_firstOf (bk := b25) (o := 0) (n := 2) (cp := 2) (c := (fun i => [(!decide (((shC s p a b n y c z : Nat) : Int) = 0)), (!decide (0 ≤ t ∧ t ≤ 63))].getD i false)) (e := (fun i => [((shC s p a b n y c z : Nat) : Int), 2].getD i 0)) (st.rdA (i := 0) (n := 4) rfl rfl) (by first | assumption | omega)) rfl ?_
  intro w5 hbel
  replace st := st.call hbel
  clear hbel
  refine Wl.pure (PR.assI rfl) ?_
  refine Wl.nil ?_
  refine tn ?_
  refine Wc.seq ?_
  have hq9 : firstZ 2 (fun i => [(!decide (((shC s p a b n y c z : Nat) : Int) = 0)), (!decide (0 ≤ t ∧ t ≤ 63))].getD i false) (fun i => [((shC s p a b n y c z : Nat) : Int), 2].getD i 0) = ((pcC s p a b n y c z t : Nat) : Int) := first_pc rfl rfl
  refine Wc.region rfl ?_
  refine Wl.pure (PR.moveI rfl) ?_
  refine Wl.pure (PR.neq (a := firstZ 2 (fun i => [(!decide (((shC s p a b n y c z : Nat) : Int) = 0)), (!decide (0 ≤ t ∧ t ≤ 63))].getD i false) (fun i => [((shC s p a b n y c z : Nat) : Int), 2].getD i 0)) (b := 0) rfl rfl) ?_
  refine Wl.nil ?_
  refine tn ?_
  refine Wc.condN (p := firstZ 2 (fun i => [(!decide (((shC s p a b n y c z : Nat) : Int) = 0)), (!decide (0 ≤ t ∧ t ≤ 63))].getD i false) (fun i => [((shC s p a b n y c z : Nat) : Int), 2].getD i 0) = 0) rfl (fun h6 => ?_) (fun h6 => ?_)
  · refine Wc.seq ?_
    refine Wc.region rfl ?_
    refine Wl.pure (PR.moveI rfl) ?_
    refine Wl.pure (PR.assL rfl) ?_
    refine Wl.pure (PR.assI rfl) ?_
    refine Wl.nil ?_
    refine tn ?_
    refine Wc.ret ?_
    refine tr ?_
    refine postL.tmp2 rfl rfl rfl ?_
    refine RetV.of ?_ st.below
    exact tup_2 rfl (congrArg (Value.int .i64) hq9)
  · refine Wc.skip ?_
    refine tn ?_
    refine Wc.seq ?_
    exfalso
    omega

set_option maxHeartbeats 400000 in
set_option maxRecDepth 4000 in
theorem c_spec_PossibleCells_t {s : Int} {p : Int} {a : Nat → Nat} {b : Nat → Nat} {A : Option Addr} {n : Nat} {cp : Nat} {y : Nat → Int} {c : Nat → Nat → Nat} {z : Int} {q : Bool} {t : Int} {w : World} (hs : -128 ≤ s ∧ s ≤ 127) (hp : -128 ≤ p ∧ p ≤ 127) (ha : ∀ k, a k < 256) (hb : ∀ k, b k < 256) (hRL : RdS w A n (layS n y c)) (hg : ∀ i, i < n → -128 ≤ y i ∧ y i ≤ 127) (hc : ∀ i k, c i k < 256) (hn : n ≤ 1048576) (hcode : pcC s p a b n y c z t = 0) :
    CE Try.prog 16 [.agg (schV (s) (p) (a) (b)).toArray, .slice (A) (n) (cp), .int .i64 (z), .bool (q), .int .i64 (t)] w (RetXG w [] 5 1 ((flN (possQ ((s).toNat) ((p).toNat) a b n c ((z).toNat) q ((t).toNat)) (1 <<< ((p).toNat)))) (arrU .u8 (flN (possQ ((s).toNat) ((p).toNat) a b n c ((z).toNat) q ((t).toNat)) (1 <<< ((p).toNat))) (flA (possQ ((s).toNat) ((p).toNat) a b n c ((z).toNat) q ((t).toNat)) (1 <<< ((p).toNat)))) (fun b_ c_ => .tuple #[.slice (some ⟨b_, 0, none⟩) ((flN (possQ ((s).toNat) ((p).toNat) a b n c ((z).toNat) q ((t).toNat)) (1 <<< ((p).toNat)))) (c_), .int .i64 (0)]) []) := by
  refine CE.enter 32 [(0, .agg (schV (s) (p) (a) (b)).toArray), (1, .slice (A) (n) (cp)), (2, .int .i64 (z)), (3, .bool (q)), (4, .int .i64 (t))] en_16 Try.func16 rfl rfl (Nat.le_of_ble_eq_true rfl) rfl ?_
  have st := St.start w
  refine Wc.seq ?_
  refine Wc.region rfl ?_
  refine Wl.boxA st rfl ?_
  clear st
  intro b5 w1 st
  refine Wl.pure (PR.assL rfl) ?_
  refine Wl.pure (PR.assI rfl) ?_
  refine Wl.nil ?_
  refine tn ?_
  refine Wc.seq ?_
  refine Wc.region rfl ?_
  refine Wl.pure (PR.moveL rfl) ?_
  refine Wl.pure (PR.moveI rfl) ?_
  refine Wl.callV (c_spec_l07Share (bk := b5) (o := 0) (s := s) (p := p) (a := a) (b := b) (A := A) (n := n) (cp := cp) (y := y) (c := c) (z := z) (st.rdA (i := 0) rfl (all_sub schV_len)) (by first | assumption | omega) (by first | assumption | omega) ha hb (hRL.st st) hg hc (by first | assumption | omega)) rfl ?_
  intro w2 hbel
  replace st := st.call hbel
  clear hbel
  refine Wl.pure (PR.assI rfl) ?_
  refine Wl.nil ?_
  refine tn ?_
  refine Wc.seq ?_
  refine Wc.seq ?_
  refine Wc.region rfl ?_
  refine Wl.pure (PR.moveI rfl) ?_
  refine Wl.pure (PR.eql (a := ((shC s p a b n y c z : Nat) : Int)) (b := 0) rfl rfl) ?_
  refine Wl.pure (PR.moveB rfl) ?_
  refine Wl.splitT (q := ((shC s p a b n y c z : Nat) : Int) = 0) rfl rfl (fun h3 => ?_) (fun h3 => ?_)
  · refine Wl.pure (PR.moveI rfl) ?_
    refine Wl.on rfl rfl ?_
    refine Wl.callV (c_spec_l00In (n := t) (lo := 0) (hi := 63)) rfl ?_
    intro w4 hbel
    replace st := st.call hbel
    clear hbel
    refine Wl.on rfl rfl ?_
    refine Wl.pure (PR.not_ rfl) ?_
    refine Wl.pure (PR.pickTB rfl rfl) ?_
    refine Wl.nil ?_
    refine tn ?_
    refine Wc.condN (p := 0 ≤ t ∧ t ≤ 63) rfl (fun h5 => ?_) (fun h5 => ?_)
    · exfalso
      exact absurd (pcC_spec hcode).2 (by assumption)
    · refine Wc.skip ?_
      refine tn ?_
      refine Wc.seq ?_
      refine Wc.seq ?_
      refine Wc.region rfl ?_
      refine Wl.pure (PR.moveI rfl) ?_
      refine Wl.pure (PR.neq (a := ((shC s p a b n y c z : Nat) : Int)) (b := 0) rfl rfl) ?_
      refine Wl.nil ?_
      refine tn ?_
      refine Wc.condN (p := ((shC s p a b n y c z : Nat) : Int) = 0) rfl (fun h6 => ?_) (fun h6 => ?_)
      · refine Wc.seq ?_
        exfalso
        exact absurd (pcC_spec hcode).1 (by omega)
      · refine Wc.skip ?_
        refine tn ?_
        refine Wc.seq ?_
        obtain ⟨hs9, hti⟩ := pcC_spec (s := s) (p := p) (a := a) (b := b) (n := n) (g := y) (c := c) (i := z) (k := t) hcode
        obtain ⟨hb9, hzi⟩ := shC_spec (s := s) (p := p) (a := a) (b := b) (n := n) (g := y) (c := c) (i := z) (by omega)
        have hcode0 : bothC s p a b n y c = 0 := hb9
        obtain ⟨hok, hlay, hns⟩ := bothC_spec hcode0
        have hall := bothC_all hcode0
        obtain ⟨hs1, hp1, _⟩ := schOk_spec hok
        obtain ⟨d_, rfl⟩ : ∃ d_ : Nat, s = ((d_ : Nat) : Int) := ⟨s.toNat, by omega⟩
        obtain ⟨e_, rfl⟩ : ∃ e_ : Nat, p = ((e_ : Nat) : Int) := ⟨p.toNat, by omega⟩
        obtain ⟨_, hza, hzb⟩ := sch_zero hok
        have hns9 : n = d_ := by omega
        have hy0 : y 0 = ((e_ : Nat) : Int) := hall 0 (by omega)
        have hn6 : 1 ≤ n ∧ n ≤ 6 := by omega
        obtain ⟨i_, rfl⟩ : ∃ i_ : Nat, z = ((i_ : Nat) : Int) := ⟨z.toNat, by omega⟩
        have hi0 : i_ < n := by omega
        obtain ⟨k_, rfl⟩ : ∃ k_ : Nat, t = ((k_ : Nat) : Int) := ⟨t.toNat, by omega⟩
        refine Wc.region rfl ?_
        refine Wl.pure (PR.moveL rfl) ?_
        refine Wl.pure (PR.moveI rfl) ?_
        refine Wl.pure (PR.moveB rfl) ?_
        refine Wl.pure (PR.moveI rfl) ?_
        refine Wl.callXG [] st (c_spec_l07Possible (bk := b5) (o := 0) (s := d_) (p := e_) (a := a) (b := b) (A := A) (n := n) (cp := cp) (y := y) (c := c) (i := i_) (q := (q)) (k := k_) (st.rdA (i := 0) rfl (all_sub schV_len)) (by first | assumption | omega) ha hb (by first | assumption | omega) (hRL.st st) hg hc (by first | assumption | omega) (by first | assumption | omega) (by first | assumption | omega) (by first | assumption | omega)) rfl rfl ?_
        clear st
        intro b31 c31 sp31 w7 hc31 hs31 st
        replace st : St [] w w7 [(b31, arrU .u8 (flN (possQ d_ e_ a b n c i_ (q) k_) (1 <<< e_)) (flA (possQ d_ e_ a b n c i_ (q) k_) (1 <<< e_)) ++ sp31, 5), (b5, schV ((d_ : Nat) : Int) ((e_ : Nat) : Int) (a) (b), 32)] := st
        refine Wl.pure (PR.assL rfl) ?_
        refine Wl.pure (PR.assI rfl) ?_
        refine Wl.nil ?_
        refine tn ?_
        refine Wc.ret ?_
        refine postL.tmp2 rfl rfl rfl ?_
        replace st : St [] w w7 [(b31, arrU .u8 (flN (possQ d_ e_ a b n c i_ (q) k_) (1 <<< e_)) (flA (possQ d_ e_ a b n c i_ (q) k_) (1 <<< e_)) ++ sp31, 5)] := st.pick [0] (by decide) rfl
        exact ⟨b31, c31, sp31, hc31, hs31, rfl, st⟩
  · refine Wl.off rfl rfl rfl ?_
    refine Wl.off rfl rfl rfl ?_
    refine Wl.pure (PR.pickFB rfl rfl) ?_
    refine Wl.nil ?_
    refine tn ?_
    refine Wc.condF rfl ?_
    refine Wc.skip ?_
    refine tn ?_
    refine Wc.seq ?_
    refine Wc.seq ?_
    refine Wc.region rfl ?_
    refine Wl.pure (PR.moveI rfl) ?_
    refine Wl.pure (PR.neq (a := ((shC s p a b n y c z : Nat) : Int)) (b := 0) rfl rfl) ?_
    refine Wl.nil ?_
    refine tn ?_
    refine Wc.condN (p := ((shC s p a b n y c z : Nat) : Int) = 0) rfl (fun h8 => ?_) (fun h8 => ?_)
    · refine Wc.seq ?_
      exfalso
      exact absurd (pcC_spec hcode).1 (by omega)
    · refine Wc.skip ?_
      refine tn ?_
      refine Wc.seq ?_
      obtain ⟨hs9, hti⟩ := pcC_spec (s := s) (p := p) (a := a) (b := b) (n := n) (g := y) (c := c) (i := z) (k := t) hcode
      obtain ⟨hb9, hzi⟩ := shC_spec (s := s) (p := p) (a := a) (b := b) (n := n) (g := y) (c := c) (i := z) (by omega)
      have hcode0 : bothC s p a b n y c = 0 := hb9
      obtain ⟨hok, hlay, hns⟩ := bothC_spec hcode0
      have hall := bothC_all hcode0
      obtain ⟨hs1, hp1, _⟩ := schOk_spec hok
      obtain ⟨d_, rfl⟩ : ∃ d_ : Nat, s = ((d_ : Nat) : Int) := ⟨s.toNat, by omega⟩
      obtain ⟨e_, rfl⟩ : ∃ e_ : Nat, p = ((e_ : Nat) : Int) := ⟨p.toNat, by omega⟩
      obtain ⟨_, hza, hzb⟩ := sch_zero hok
      have hns9 : n = d_ := by omega
      have hy0 : y 0 = ((e_ : Nat) : Int) := hall 0 (by omega)
      have hn6 : 1 ≤ n ∧ n ≤ 6 := by omega
      obtain ⟨i_, rfl⟩ : ∃ i_ : Nat, z = ((i_ : Nat) : Int) := ⟨z.toNat, by omega⟩
      have hi0 : i_ < n := by omega
      obtain ⟨k_, rfl⟩ : ∃ k_ : Nat, t = ((k_ : Nat) : Int) := ⟨t.toNat, by omega⟩
      refine Wc.region rfl ?_
      refine Wl.pure (PR.moveL rfl) ?_
      refine Wl.pure (PR.moveI rfl) ?_
      refine Wl.pure (PR.moveB rfl) ?_
      refine Wl.pure (PR.moveI rfl) ?_
      refine Wl.callXG [] st (c_spec_l07Possible (bk := b5) (o := 0) (s := d_) (p := e_) (a := a) (b := b) (A := A) (n := n) (cp := cp) (y := y) (c := c) (i := i_) (q := (q)) (k := k_) (st.rdA (i := 0) rfl (all_sub schV_len)) (by first | assumption | omega) ha hb (by first | assumption | omega) (hRL.st st) hg hc (by first | assumption | omega) (by first | assumption | omega) (by first | assumption | omega) (by first | assumption | omega)) rfl rfl ?_
      clear st
      intro b31_10 c31_10 sp31_10 w9 hc31_10 hs31_10 st
      replace st : St [] w w9 [(b31_10, arrU .u8 (flN (possQ d_ e_ a b n c i_ (q) k_) (1 <<< e_)) (flA (possQ d_ e_ a b n c i_ (q) k_) (1 <<< e_)) ++ sp31_10, 5), (b5, schV ((d_ : Nat) : Int) ((e_ : Nat) : Int) (a) (b), 32)] := st
      refine Wl.pure (PR.assL rfl) ?_
      refine Wl.pure (PR.assI rfl) ?_
      refine Wl.nil ?_
      refine tn ?_
      refine Wc.ret ?_
      refine postL.tmp2 rfl rfl rfl ?_
      replace st : St [] w w9 [(b31_10, arrU .u8 (flN (possQ d_ e_ a b n c i_ (q) k_) (1 <<< e_)) (flA (possQ d_ e_ a b n c i_ (q) k_) (1 <<< e_)) ++ sp31_10, 5)] := st.pick [0] (by decide) rfl
      exact ⟨b31_10, c31_10, sp31_10, hc31_10, hs31_10, rfl, st⟩

set_option maxHeartbeats 400000 in
set_option maxRecDepth 4000 in
theorem c_spec_PossibleCells_f {s : Int} {p : Int} {a : Nat → Nat} {b : Nat → Nat} {A : Option Addr} {n : Nat} {cp : Nat} {y : Nat → Int} {c : Nat → Nat → Nat} {z : Int} {q : Bool} {t : Int} {w : World} (hs : -128 ≤ s ∧ s ≤ 127) (hp : -128 ≤ p ∧ p ≤ 127) (ha : ∀ k, a k < 256) (hb : ∀ k, b k < 256) (hRL : RdS w A n (layS n y c)) (hg : ∀ i, i < n → -128 ≤ y i ∧ y i ≤ 127) (hc : ∀ i k, c i k < 256) (hn : n ≤ 1048576) (hcode : ¬ pcC s p a b n y c z t = 0) :
    CE Try.prog 16 [.agg (schV (s) (p) (a) (b)).toArray, .slice (A) (n) (cp), .int .i64 (z), .bool (q), .int .i64 (t)] w (RetXG w [] 5 1 (0) (arrU .u8 0 (fun _ => 0)) (fun b_ c_ => .tuple #[.slice (some ⟨b_, 0, none⟩) (0) (c_), .int .i64 (((pcC s p a b n y c z t : Nat) : Int))]) []) := by
  refine CE.enter 32 [(0, .agg (schV (s) (p) (a) (b)).toArray), (1, .slice (A) (n) (cp)), (2, .int .i64 (z)), (3, .bool (q)), (4, .int .i64 (t))] en_16 Try.func16 rfl rfl (Nat.le_of_ble_eq_true rfl) rfl ?_
  have st := St.start w
  refine Wc.seq ?_
  refine Wc.region rfl ?_
  refine Wl.boxA st rfl ?_
  clear st
  intro b5 w1 st
  refine Wl.pure (PR.assL rfl) ?_
  refine Wl.pure (PR.assI rfl) ?_
  refine Wl.nil ?_
  refine tn ?_
  refine Wc.seq ?_
  refine Wc.region rfl ?_
  refine Wl.pure (PR.moveL rfl) ?_
  refine Wl.pure (PR.moveI rfl) ?_
  refine Wl.callV (c_spec_l07Share (bk := b5) (o := 0) (s := s) (p := p) (a := a) (b := b) (A := A) (n := n) (cp := cp) (y := y) (c := c) (z := z) (st.rdA (i := 0) rfl (all_sub schV_len)) (by first | assumption | omega) (by first | assumption | omega) ha hb (hRL.st st) hg hc (by first | assumption | omega)) rfl ?_
  intro w2 hbel
  replace st := st.call hbel
  clear hbel
  refine Wl.pure (PR.assI rfl) ?_
  refine Wl.nil ?_
  refine tn ?_
  refine Wc.seq ?_
  refine Wc.seq ?_
  refine Wc.region rfl ?_
  refine Wl.pure (PR.moveI rfl) ?_
  refine Wl.pure (PR.eql (a := ((shC s p a b n y c z : Nat) : Int)) (b := 0) rfl rfl) ?_
  refine Wl.pure (PR.moveB rfl) ?_
  refine Wl.splitT (q := ((shC s p a b n y c z : Nat) : Int) = 0) rfl rfl (fun h3 => ?_) (fun h3 => ?_)
  · refine Wl.pure (PR.moveI rfl) ?_
    refine Wl.on rfl rfl ?_
    refine Wl.callV (c_spec_l00In (n := t) (lo := 0) (hi := 63)) rfl ?_
    intro w4 hbel
    replace st := st.call hbel
    clear hbel
    refine Wl.on rfl rfl ?_
    refine Wl.pure (PR.not_ rfl) ?_
    refine Wl.pure (PR.pickTB rfl rfl) ?_
    refine Wl.nil ?_
    refine tn ?_
    refine Wc.condN (p := 0 ≤ t ∧ t ≤ 63) rfl (fun h5 => ?_) (fun h5 => ?_)
    · refine Wc.region rfl ?_
      refine Wl.pure (PR.assI rfl) ?_
      refine Wl.nil ?_
      refine tn ?_
      refine Wc.seq ?_
      refine Wc.seq ?_
      refine Wc.region rfl ?_
      refine Wl.pure (PR.moveI rfl) ?_
      refine Wl.pure (PR.neq (a := 2) (b := 0) rfl rfl) ?_
      refine Wl.nil ?_
      refine tn ?_
      refine Wc.condN (p := 2 = 0) rfl (fun h6 => ?_) (fun h6 => ?_)
      · refine Wc.seq ?_
        refine Wc.region rfl ?_
        refine Wl.buildSlice (ps := []) (cs := arrU .u8 0 (fun _ => 0) ++ []) st tS_40 tZ_5 rfl rfl rfl ?_
        clear st
        intro b25 w7 st
        refine Wl.pure (PR.moveI rfl) ?_
        refine Wl.pure (PR.assL rfl) ?_
        refine Wl.pure (PR.assI rfl) ?_
        refine Wl.nil ?_
        refine tn ?_
        refine Wc.ret ?_
        refine tr ?_
        refine postL.tmp2 rfl rfl rfl ?_
        replace st : St [] w w7 [(b25, arrU .u8 0 (fun _ => 0) ++ [], 5)] := st.pick [0] (by decide) rfl
        exact ⟨b25, 0, ([]), (Nat.le_refl _), rfl, (by first | rw [pcC_2 (by omega) (by assumption)]; rfl | rw [pcC_b (by omega)]), st⟩
      · refine Wc.skip ?_
        refine tn ?_
        refine Wc.seq ?_
        exfalso
        exact absurd (pcC_0 (by omega) (by first | assumption | omega)) hcode
    · refine Wc.skip ?_
      refine tn ?_
      refine Wc.seq ?_
      refine Wc.seq ?_
      refine Wc.region rfl ?_
      refine Wl.pure (PR.moveI rfl) ?_
      refine Wl.pure (PR.neq (a := ((shC s p a b n y c z : Nat) : Int)) (b := 0) rfl rfl) ?_
      refine Wl.nil ?_
      refine tn ?_
      refine Wc.condN (p := ((shC s p a b n y c z : Nat) : Int) = 0) rfl (fun h8 => ?_) (fun h8 => ?_)
      · refine Wc.seq ?_
        refine Wc.region rfl ?_
        refine Wl.buildSlice (ps := []) (cs := arrU .u8 0 (fun _ => 0) ++ []) st tS_40 tZ_5 rfl rfl rfl ?_
        clear st
        intro b25 w9 st
        refine Wl.pure (PR.moveI rfl) ?_
        refine Wl.pure (PR.assL rfl) ?_
        refine Wl.pure (PR.assI rfl) ?_
        refine Wl.nil ?_
        refine tn ?_
        refine Wc.ret ?_
        refine tr ?_
        refine postL.tmp2 rfl rfl rfl ?_
        replace st : St [] w w9 [(b25, arrU .u8 0 (fun _ => 0) ++ [], 5)] := st.pick [0] (by decide) rfl
        exact ⟨b25, 0, ([]), (Nat.le_refl _), rfl, (by first | rw [pcC_2 (by omega) (by assumption)]; rfl | rw [pcC_b (by omega)]), st⟩
      · refine Wc.skip ?_
        refine tn ?_
        refine Wc.seq ?_
        exfalso
        exact absurd (pcC_0 (by omega) (by first | assumption | omega)) hcode
  · refine Wl.off rfl rfl rfl ?_
    refine Wl.off rfl rfl rfl ?_
    refine Wl.pure (PR.pickFB rfl rfl) ?_
    refine Wl.nil ?_
    refine tn ?_
    refine Wc.condF rfl ?_
    refine Wc.skip ?_
    refine tn ?_
    refine Wc.seq ?_
    refine Wc.seq ?_
    refine Wc.region rfl ?_
    refine Wl.pure (PR.moveI rfl) ?_
    refine Wl.pure (PR.neq (a := ((shC s p a b n y c z : Nat) : Int)) (b := 0) rfl rfl) ?_
    refine Wl.nil ?_
    refine tn ?_
    refine Wc.condN (p := ((shC s p a b n y c z : Nat) : Int) = 0) rfl (fun h10 => ?_) (fun h10 => ?_)
    · refine Wc.seq ?_
      refine Wc.region rfl ?_
      refine Wl.buildSlice (ps := []) (cs := arrU .u8 0 (fun _ => 0) ++ []) st tS_40 tZ_5 rfl rfl rfl ?_
      clear st
      intro b25 w11 st
      refine Wl.pure (PR.moveI rfl) ?_
      refine Wl.pure (PR.assL rfl) ?_
      refine Wl.pure (PR.assI rfl) ?_
      refine Wl.nil ?_
      refine tn ?_
      refine Wc.ret ?_
      refine tr ?_
      refine postL.tmp2 rfl rfl rfl ?_
      replace st : St [] w w11 [(b25, arrU .u8 0 (fun _ => 0) ++ [], 5)] := st.pick [0] (by decide) rfl
      exact ⟨b25, 0, ([]), (Nat.le_refl _), rfl, (by first | rw [pcC_2 (by omega) (by assumption)]; rfl | rw [pcC_b (by omega)]), st⟩
    · refine Wc.skip ?_
      refine tn ?_
      refine Wc.seq ?_
      exfalso
      exact absurd (pcC_0 (by omega) (by first | assumption | omega)) hcode

set_option maxHeartbeats 400000 in
set_option maxRecDepth 4000 in
theorem c_laws_eqByteS {A : Option Addr} {n : Nat} {cp : Nat} {c : Nat → Nat} {B : Option Addr} {cq : Nat} {w : World} (hR : RdS w A n (arrU .u8 n c)) (hQ : RdS w B n (arrU .u8 n c)) (hn : n ≤ 1048576) :
    CE Try.prog 18 [.slice (A) (n) (cp), .slice (B) (n) (cq)] w (RetV w (.bool true)) := by
  refine CE.enter 26 [(0, .slice (A) (n) (cp)), (1, .slice (B) (n) (cq))] en_18 Try.func18 rfl rfl (Nat.le_of_ble_eq_true rfl) rfl ?_
  have st := St.start w
  refine Wc.seq ?_
  refine Wc.region rfl ?_
  refine Wl.pure (PR.assB rfl) ?_
  refine Wl.nil ?_
  refine tn ?_
  refine Wc.seq ?_
  refine Wc.seq ?_
  refine Wc.region rfl ?_
  refine Wl.pure (PR.moveL rfl) ?_
  refine Wl.pure (PR.lenL tS_40 rfl) ?_
  refine Wl.pure (PR.moveL rfl) ?_
  refine Wl.pure (PR.lenL tS_40 rfl) ?_
  refine Wl.pure (PR.neqS (a := ((n : Nat) : Int)) rfl rfl) ?_
  refine Wl.nil ?_
  refine tn ?_
  refine Wc.condF rfl ?_
  refine Wc.skip ?_
  refine tn ?_
  refine Wc.seq ?_
  refine Wc.seq ?_
  refine Wc.region rfl ?_
  refine Wl.pure (PR.assI rfl) ?_
  refine Wl.nil ?_
  refine tn ?_
  refine Wc.block ?_
  refine Wc.loopF (γ := Nat) (fun g => [(0, .slice (A) (n) (cp)), (1, .slice (B) (n) (cq)), (5, .int .i64 (((g : Nat) : Int)))]) (fun g w_ => St [] w w_ [] ∧ (g ≤ n)) (fun g => n - g) ?_ ?_
  · exact ⟨0, (.cons rfl (.cons rfl (.cons rfl (.nil _)))), st, (by first | omega | (dsimp only; omega))⟩
  clear st
  rintro k w1 ⟨st, hk⟩
  try dsimp only at st hk ⊢
  refine Wc.seq ?_
  refine Wc.seq ?_
  refine Wc.region rfl ?_
  refine Wl.pure (PR.moveI rfl) ?_
  refine Wl.pure (PR.moveL rfl) ?_
  refine Wl.pure (PR.lenL tS_40 rfl) ?_
  refine Wl.pure (PR.lss (a := ((k : Nat) : Int)) (b := ((n : Nat) : Int)) rfl rfl) ?_
  refine Wl.nil ?_
  refine tn ?_
  refine Wc.condD (p := ((k : Nat) : Int) < ((n : Nat) : Int)) rfl (fun h2 => ?_) (fun h2 => ?_)
  · refine Wc.skip ?_
    refine tn ?_
    refine Wc.seq ?_
    refine Wc.block ?_
    refine Wc.seq ?_
    refine Wc.quiet hmix (by kernel_rfl) rfl ?_
    refine Wq.pure (PR.moveL rfl) ?_
    refine Wq.pure (PR.moveI rfl) ?_
    obtain ⟨bs3, os4, rfl, hs5⟩ := hR (by omega)
    refine Wq.pure (PR.idxAddrS1 (i := k) tS_40 rfl rfl (by omega)) ?_
    refine Wq.loadC tA_5 rfl ((hs5.st st).at_ (arrU_get0 (by omega)) (Nat.add_assoc _ _ _).symm) ?_
    refine Wq.pure (PR.moveL rfl) ?_
    refine Wq.pure (PR.moveI rfl) ?_
    obtain ⟨bs6, os7, rfl, hs8⟩ := hQ (by omega)
    refine Wq.pure (PR.idxAddrS1 (i := k) tS_40 rfl rfl (by omega)) ?_
    refine Wq.loadC tA_5 rfl ((hs8.st st).at_ (arrU_get0 (by omega)) (Nat.add_assoc _ _ _).symm) ?_
    refine Wq.pure (PR.neqS (a := ((c (k) : Nat) : Int)) rfl rfl) ?_
    refine Wq.nil (fun w9 hbel => ?_)
    replace st := st.call hbel
    clear hbel
    refine tn ?_
    refine Wc.condF rfl ?_
    refine Wc.skip ?_
    refine bn ?_
    refine tn ?_
    refine Wc.region rfl ?_
    refine Wl.pure (PR.moveI rfl) ?_
    refine Wl.pure (PR.add (a := ((k : Nat) : Int)) (b := 1) rfl rfl (by simp only [fitI]; omega)) ?_
    refine Wl.pure (PR.assI rfl) ?_
    refine Wl.nil ?_
    refine tn ?_
    exact ⟨k + 1, (.cons rfl (.cons rfl (.cons rfl (.nil _)))), ⟨st, (by first | omega | (dsimp only; omega))⟩, (by first | omega | (dsimp only; omega))⟩
  · refine Wc.exit ?_
    refine tx ?_
    refine tx ?_
    refine bh ?_
    refine tn ?_
    refine Wc.seq ?_
    refine Wc.region rfl ?_
    refine Wl.pure (PR.assB rfl) ?_
    refine Wl.nil ?_
    refine tn ?_
    refine Wc.ret ?_
    refine postL.tmp rfl rfl ?_
    exact RetV.of rfl st.below

set_option maxHeartbeats 400000 in
set_option maxRecDepth 4000 in
theorem c_markByteS {ba : Nat} {n : Nat} {cp : Nat} {c : Nat → Nat} {sp : List Value} {z : Nat} {w : World} (hz : z + n ≤ 100000000) (hst : St [ba] w w [(ba, arrU .u8 n c ++ sp, 5)]) :
    CE Try.prog 20 [.slice (some ⟨ba, 0, none⟩) (n) (cp), .int .i64 (((z : Nat) : Int))] w (RetX w [ba] (.int .i64 ((((z + n) : Nat) : Int))) [(ba, arrU .u8 n (fun j => (z + j) % 256) ++ sp, 5)]) := by
  refine CE.enter 20 [(0, .slice (some ⟨ba, 0, none⟩) (n) (cp)), (1, .int .i64 (((z : Nat) : Int)))] en_20 Try.func20 rfl rfl (Nat.le_of_ble_eq_true rfl) rfl ?_
  have st := hst
  refine Wc.seq ?_
  refine Wc.region rfl ?_
  refine Wl.pure (PR.assI rfl) ?_
  refine Wl.nil ?_
  refine tn ?_
  refine Wc.seq ?_
  refine Wc.seq ?_
  refine Wc.region rfl ?_
  refine Wl.pure (PR.assI rfl) ?_
  refine Wl.nil ?_
  refine tn ?_
  refine Wc.block ?_
  refine Wc.loopF (γ := Nat × Nat × (Nat → Nat)) (fun g => [(0, .slice (some ⟨ba, 0, none⟩) (n) (cp)), (1, .int .i64 (((g.2.1 : Nat) : Int))), (4, .int .i64 (0)), (5, .int .i64 (((g.1 : Nat) : Int)))]) (fun g w_ => St [ba] w w_ [(ba, arrU .u8 n g.2.2 ++ sp, 5)] ∧ (g.1 ≤ n) ∧ (g.2.1 = z + g.1) ∧ (∀ u, u < g.1 → g.2.2 u = (fun j => (z + j) % 256) u)) (fun g => n - g.1) ?_ ?_
  · exact ⟨(0, z, c), (.cons rfl (.cons rfl (.cons rfl (.cons rfl (.nil _))))), st, (by first | omega | (dsimp only; omega)), (by first | omega | (dsimp only; omega)), (fun u hu => by omega)⟩
  clear st
  rintro ⟨i, y, c⟩ w1 ⟨st, hi, hy, hg⟩
  try dsimp only at st hi hy hg ⊢
  refine Wc.seq ?_
  refine Wc.seq ?_
  refine Wc.region rfl ?_
  refine Wl.pure (PR.moveI rfl) ?_
  refine Wl.pure (PR.moveL rfl) ?_
  refine Wl.pure (PR.lenL tS_40 rfl) ?_
  refine Wl.pure (PR.lss (a := ((i : Nat) : Int)) (b := ((n : Nat) : Int)) rfl rfl) ?_
  refine Wl.nil ?_
  refine tn ?_
  refine Wc.condD (p := ((i : Nat) : Int) < ((n : Nat) : Int)) rfl (fun h2 => ?_) (fun h2 => ?_)
  · refine Wc.skip ?_
    refine tn ?_
    refine Wc.seq ?_
    refine Wc.block ?_
    refine Wc.seq ?_
    refine Wc.region rfl ?_
    refine Wl.pure (PR.moveL rfl) ?_
    refine Wl.pure (PR.moveI rfl) ?_
    refine Wl.pure (PR.moveI rfl) ?_
    refine Wl.pure (PR.convU (n := y) tI_5 rfl (by decide) Try.underlying3) ?_
    refine Wl.pure (PR.idxAddrS1 (i := i) tS_40 rfl rfl (by omega)) ?_
    refine Wl.store (i := 0) (cs' := arrU .u8 n (upd c (i) ((y % 256))) ++ sp) st tA_5 rfl rfl rfl rfl (app_in (lt_of_len (arrU_len _) (by omega))) (app_set (lt_of_len (arrU_len _) (by omega)) (arrU_set0)) ?_
    clear st
    intro w3 st
    replace st : St [ba] w w3 [(ba, arrU .u8 n (upd c (i) ((y % 256))) ++ sp, 5)] := st
    refine Wl.nil ?_
    refine tn ?_
    refine Wc.region rfl ?_
    refine Wl.pure (PR.moveI rfl) ?_
    refine Wl.pure (PR.add (a := ((y : Nat) : Int)) (b := 1) rfl rfl (by simp only [fitI]; omega)) ?_
    refine Wl.pure (PR.assI rfl) ?_
    refine Wl.nil ?_
    refine bn ?_
    refine tn ?_
    refine Wc.region rfl ?_
    refine Wl.pure (PR.moveI rfl) ?_
    refine Wl.pure (PR.add (a := ((i : Nat) : Int)) (b := 1) rfl rfl (by simp only [fitI]; omega)) ?_
    refine Wl.pure (PR.assI rfl) ?_
    refine Wl.nil ?_
    refine tn ?_
    exact ⟨(i + 1, (y + 1), upd c (i) ((y % 256))), (.cons rfl (.cons rfl (.cons rfl (.cons rfl (.nil _))))), ⟨st, (by first | omega | (dsimp only; omega)), (by first | omega | (dsimp only; omega)), (upd_snoc hg (by subst hy; rfl))⟩, (by first | omega | (dsimp only; omega))⟩
  · refine Wc.exit ?_
    refine tx ?_
    refine tx ?_
    refine bh ?_
    refine tn ?_
    refine Wc.seq ?_
    refine Wc.region rfl ?_
    refine Wl.pure (PR.moveI rfl) ?_
    refine Wl.pure (PR.assI rfl) ?_
    refine Wl.nil ?_
    refine tn ?_
    refine Wc.ret ?_
    refine postL.tmp rfl rfl ?_
    obtain rfl : n = i := by omega
    subst hy
    rw [arrU_congr (d := (fun j => (z + j) % 256)) (fun u hu => hg u hu)] at st
    exact st.retX (by
    refine congrArg (Value.int .i64) ?_
    first | rfl | omega) rfl

set_option maxHeartbeats 400000 in
set_option maxRecDepth 4000 in
theorem c_markByteS0 {A : Option Addr} {cp : Nat} {z : Nat} {w : World} :
    CE Try.prog 20 [.slice (A) (0) (cp), .int .i64 (((z : Nat) : Int))] w (RetV w (.int .i64 (((z : Nat) : Int)))) := by
  refine CE.enter 20 [(0, .slice (A) (0) (cp)), (1, .int .i64 (((z : Nat) : Int)))] en_20 Try.func20 rfl rfl (Nat.le_of_ble_eq_true rfl) rfl ?_
  have st := St.start w
  refine Wc.seq ?_
  refine Wc.region rfl ?_
  refine Wl.pure (PR.assI rfl) ?_
  refine Wl.nil ?_
  refine tn ?_
  refine Wc.seq ?_
  refine Wc.seq ?_
  refine Wc.region rfl ?_
  refine Wl.pure (PR.assI rfl) ?_
  refine Wl.nil ?_
  refine tn ?_
  refine Wc.block ?_
  refine Wc.loopF (γ := Unit) (fun g => [(0, .slice (A) (0) (cp)), (1, .int .i64 (((z : Nat) : Int))), (4, .int .i64 (0)), (5, .int .i64 (0))]) (fun g w_ => St [] w w_ []) (fun g => 0) ?_ ?_
  · exact ⟨(), (.cons rfl (.cons rfl (.cons rfl (.cons rfl (.nil _))))), st⟩
  clear st
  rintro u_ w1 st
  try dsimp only at st ⊢
  refine Wc.seq ?_
  refine Wc.seq ?_
  refine Wc.region rfl ?_
  refine Wl.pure (PR.moveI rfl) ?_
  refine Wl.pure (PR.moveL rfl) ?_
  refine Wl.pure (PR.lenL tS_40 rfl) ?_
  refine Wl.pure (PR.lss (a := 0) (b := 0) rfl rfl) ?_
  refine Wl.nil ?_
  refine tn ?_
  refine Wc.condD (p := 0 < 0) rfl (fun h2 => ?_) (fun h2 => ?_)
  · refine Wc.skip ?_
    refine tn ?_
    refine Wc.seq ?_
    refine Wc.block ?_
    refine Wc.seq ?_
    exfalso
    omega
  · refine Wc.exit ?_
    refine tx ?_
    refine tx ?_
    refine bh ?_
    refine tn ?_
    refine Wc.seq ?_
    refine Wc.region rfl ?_
    refine Wl.pure (PR.moveI rfl) ?_
    refine Wl.pure (PR.assI rfl) ?_
    refine Wl.nil ?_
    refine tn ?_
    refine Wc.ret ?_
    refine postL.tmp rfl rfl ?_
    exact RetV.of rfl st.below

set_option maxHeartbeats 400000 in
set_option maxRecDepth 4000 in
theorem c_laws_heldByteS {A : Option Addr} {n : Nat} {cp : Nat} {c : Nat → Nat} {z : Nat} {w : World} (hR : RdS w A n (arrU .u8 n c)) (hz : z + n ≤ 100000000) (hck : ∀ u, u < n → c u = (fun j => (z + j) % 256) u) :
    CE Try.prog 21 [.slice (A) (n) (cp), .int .i64 (((z : Nat) : Int))] w (RetV w (.int .i64 ((((z + n) : Nat) : Int)))) := by
  refine CE.enter 22 [(0, .slice (A) (n) (cp)), (1, .int .i64 (((z : Nat) : Int)))] en_21 Try.func21 rfl rfl (Nat.le_of_ble_eq_true rfl) rfl ?_
  have st := St.start w
  refine Wc.seq ?_
  refine Wc.region rfl ?_
  refine Wl.pure (PR.assI rfl) ?_
  refine Wl.nil ?_
  refine tn ?_
  refine Wc.seq ?_
  refine Wc.seq ?_
  refine Wc.region rfl ?_
  refine Wl.pure (PR.assI rfl) ?_
  refine Wl.nil ?_
  refine tn ?_
  refine Wc.block ?_
  refine Wc.loopF (γ := Nat × Nat) (fun g => [(0, .slice (A) (n) (cp)), (1, .int .i64 (((g.2 : Nat) : Int))), (5, .int .i64 (((g.1 : Nat) : Int)))]) (fun g w_ => St [] w w_ [] ∧ (g.1 ≤ n) ∧ (g.2 = z + g.1)) (fun g => n - g.1) ?_ ?_
  · exact ⟨(0, z), (.cons rfl (.cons rfl (.cons rfl (.nil _)))), st, (by first | omega | (dsimp only; omega)), (by first | omega | (dsimp only; omega))⟩
  clear st
  rintro ⟨i, y⟩ w1 ⟨st, hi, hy⟩
  try dsimp only at st hi hy ⊢
  refine Wc.seq ?_
  refine Wc.seq ?_
  refine Wc.region rfl ?_
  refine Wl.pure (PR.moveI rfl) ?_
  refine Wl.pure (PR.moveL rfl) ?_
  refine Wl.pure (PR.lenL tS_40 rfl) ?_
  refine Wl.pure (PR.lss (a := ((i : Nat) : Int)) (b := ((n : Nat) : Int)) rfl rfl) ?_
  refine Wl.nil ?_
  refine tn ?_
  refine Wc.condD (p := ((i : Nat) : Int) < ((n : Nat) : Int)) rfl (fun h2 => ?_) (fun h2 => ?_)
  · refine Wc.skip ?_
    refine tn ?_
    refine Wc.seq ?_
    refine Wc.block ?_
    refine Wc.seq ?_
    refine Wc.seq ?_
    have hck9 : c i = (fun j => (z + j) % 256) i := hck i (by omega)
    simp only at hck9
    refine Wc.region rfl ?_
    refine Wl.pure (PR.moveL rfl) ?_
    refine Wl.pure (PR.moveI rfl) ?_
    obtain ⟨bs3, os4, rfl, hs5⟩ := hR (by omega)
    refine Wl.pure (PR.idxAddrS1 (i := i) tS_40 rfl rfl (by omega)) ?_
    refine Wl.loadC tA_5 rfl ((hs5.st st).at_ (arrU_get0 (by omega)) (Nat.add_assoc _ _ _).symm) ?_
    refine Wl.pure (PR.moveI rfl) ?_
    refine Wl.pure (PR.convU (n := y) tI_5 rfl (by decide) Try.underlying3) ?_
    refine Wl.pure (PR.neq (a := ((c (i) : Nat) : Int)) (b := (((y % 256) : Nat) : Int)) rfl rfl) ?_
    refine Wl.nil ?_
    refine tn ?_
    refine Wc.condN (p := ((c (i) : Nat) : Int) = (((y % 256) : Nat) : Int)) rfl (fun h6 => ?_) (fun h6 => ?_)
    · refine Wc.seq ?_
      refine Wc.region rfl ?_
      refine Wl.pure (PR.assI rfl) ?_
      refine Wl.nil ?_
      refine tn ?_
      refine Wc.ret ?_
      refine tr ?_
      refine br ?_
      refine tr ?_
      refine tr ?_
      refine br ?_
      refine tr ?_
      refine postL.tmp rfl rfl ?_
      refine RetV.of ?_ st.below
      refine congrArg (Value.int .i64) ?_
      first | rfl | omega
    · refine Wc.skip ?_
      refine tn ?_
      refine Wc.region rfl ?_
      refine Wl.pure (PR.moveI rfl) ?_
      refine Wl.pure (PR.add (a := ((y : Nat) : Int)) (b := 1) rfl rfl (by simp only [fitI]; omega)) ?_
      refine Wl.pure (PR.assI rfl) ?_
      refine Wl.nil ?_
      refine bn ?_
      refine tn ?_
      refine Wc.region rfl ?_
      refine Wl.pure (PR.moveI rfl) ?_
      refine Wl.pure (PR.add (a := ((i : Nat) : Int)) (b := 1) rfl rfl (by simp only [fitI]; omega)) ?_
      refine Wl.pure (PR.assI rfl) ?_
      refine Wl.nil ?_
      refine tn ?_
      exact ⟨(i + 1, (y + 1)), (.cons rfl (.cons rfl (.cons rfl (.nil _)))), ⟨st, (by first | omega | (dsimp only; omega)), (by first | omega | (dsimp only; omega))⟩, (by first | omega | (dsimp only; omega))⟩
  · refine Wc.exit ?_
    refine tx ?_
    refine tx ?_
    refine bh ?_
    refine tn ?_
    refine Wc.seq ?_
    refine Wc.region rfl ?_
    refine Wl.pure (PR.moveI rfl) ?_
    refine Wl.pure (PR.assI rfl) ?_
    refine Wl.nil ?_
    refine tn ?_
    refine Wc.ret ?_
    refine postL.tmp rfl rfl ?_
    refine RetV.of ?_ st.below
    refine congrArg (Value.int .i64) ?_
    first | rfl | omega

set_option maxHeartbeats 400000 in
set_option maxRecDepth 4000 in
theorem c_laws_markLayerS {ba : Nat} {n : Nat} {cp : Nat} {p : Nat → Int} {c : Nat → Nat → Nat} {sp : List Value} {z : Nat} {w : World} (hn : n ≤ 1048576) (hz : z ≤ 1000000) (hst : St [ba] w w [(ba, layS n p c ++ sp, 49)]) :
    CE Try.prog 19 [.slice (some ⟨ba, 0, none⟩) (n) (cp), .int .i64 (((z : Nat) : Int))] w (RetXE (γ := (Nat → Int) × (Nat → Nat → Nat)) w [ba] (fun g => True) (fun g => .int .i64 ((((z + 65 * n) : Nat) : Int))) (fun g => [(ba, layS n g.1 g.2 ++ sp, 49)])) := by
  refine CE.enter 36 [(0, .slice (some ⟨ba, 0, none⟩) (n) (cp)), (1, .int .i64 (((z : Nat) : Int)))] en_19 Try.func19 rfl rfl (Nat.le_of_ble_eq_true rfl) rfl ?_
  have st := hst
  refine Wc.seq ?_
  refine Wc.region rfl ?_
  refine Wl.pure (PR.assI rfl) ?_
  refine Wl.nil ?_
  refine tn ?_
  refine Wc.seq ?_
  refine Wc.seq ?_
  refine Wc.region rfl ?_
  refine Wl.pure (PR.assI rfl) ?_
  refine Wl.nil ?_
  refine tn ?_
  refine Wc.block ?_
  refine Wc.loopF (γ := Nat × Nat × (Nat → Int) × (Nat → Nat → Nat)) (fun g => [(0, .slice (some ⟨ba, 0, none⟩) (n) (cp)), (1, .int .i64 (((g.2.1 : Nat) : Int))), (4, .int .i64 (0)), (5, .int .i64 (((g.1 : Nat) : Int)))]) (fun g w_ => St [ba] w w_ [(ba, layS n g.2.2.1 g.2.2.2 ++ sp, 49)] ∧ (g.1 ≤ n) ∧ (g.2.1 = z + 65 * g.1)) (fun g => n - g.1) ?_ ?_
  · exact ⟨(0, z, p, c), (.cons rfl (.cons rfl (.cons rfl (.cons rfl (.nil _))))), st, (by first | omega | (dsimp only; omega)), rfl⟩
  clear st
  rintro ⟨i, y, p, c⟩ w1 ⟨st, hi, hy⟩
  try dsimp only at st hi hy ⊢
  refine Wc.seq ?_
  refine Wc.seq ?_
  refine Wc.region rfl ?_
  refine Wl.pure (PR.moveI rfl) ?_
  refine Wl.pure (PR.moveL rfl) ?_
  refine Wl.pure (PR.lenL tS_34 rfl) ?_
  refine Wl.pure (PR.lss (a := ((i : Nat) : Int)) (b := ((n : Nat) : Int)) rfl rfl) ?_
  refine Wl.nil ?_
  refine tn ?_
  refine Wc.condD (p := ((i : Nat) : Int) < ((n : Nat) : Int)) rfl (fun h2 => ?_) (fun h2 => ?_)
  · refine Wc.skip ?_
    refine tn ?_
    refine Wc.seq ?_
    refine Wc.block ?_
    refine Wc.seq ?_
    refine Wc.region rfl ?_
    refine Wl.pure (PR.moveL rfl) ?_
    refine Wl.pure (PR.moveI rfl) ?_
    refine Wl.pure (PR.moveI rfl) ?_
    refine Wl.pure (PR.convW (n := ((y : Nat) : Int)) tI_22 rfl Try.underlying3) ?_
    refine Wl.pure (PR.idxAddrS (i := i) tS_34 rfl rfl (by omega)) ?_
    refine Wl.pure (PR.fieldAddr tF_49_0 rfl) ?_
    refine Wl.store (i := 0) (cs' := layS n (upd p i (IntKind.i8.wrap ((y : Nat) : Int))) c ++ sp) st tA_22 rfl rfl rfl rfl (app_in (layS_in (i := i) (j := 0) (by omega) (by omega) (by omega))) (app_set (layS_in (i := i) (j := 0) (by omega) (by omega) (by omega)) (layS_set_p (by omega))) ?_
    clear st
    intro w3 st
    replace st : St [ba] w w3 [(ba, layS n (upd p i (IntKind.i8.wrap ((y : Nat) : Int))) c ++ sp, 49)] := st
    refine Wl.nil ?_
    refine tn ?_
    refine Wc.seq ?_
    refine Wc.region rfl ?_
    refine Wl.pure (PR.moveI rfl) ?_
    refine Wl.pure (PR.add (a := ((y : Nat) : Int)) (b := 1) rfl rfl (by simp only [fitI]; omega)) ?_
    refine Wl.pure (PR.assI rfl) ?_
    refine Wl.nil ?_
    refine tn ?_
    refine Wc.seq ?_
    refine Wc.region rfl ?_
    refine Wl.pure (PR.assI rfl) ?_
    refine Wl.nil ?_
    refine tn ?_
    refine Wc.block ?_
    refine Wc.loopF (γ := Nat × Nat × (Nat → Nat → Nat)) (fun g => [(0, .slice (some ⟨ba, 0, none⟩) (n) (cp)), (1, .int .i64 (((g.2.1 : Nat) : Int))), (4, .int .i64 (0)), (5, .int .i64 (((i : Nat) : Int))), (6, .int .i64 (((g.1 : Nat) : Int))), (7, .int .i64 (((i : Nat) : Int))), (8, .slice (some ⟨ba, 0, none⟩) (n) (cp)), (9, .int .i64 (((n : Nat) : Int))), (10, .bool (decide (((i : Nat) : Int) < ((n : Nat) : Int)))), (13, .slice (some ⟨ba, 0, none⟩) (n) (cp)), (14, .int .i64 (((i : Nat) : Int))), (15, .int .i64 (((y : Nat) : Int))), (16, .int .i8 ((IntKind.i8.wrap ((y : Nat) : Int)))), (17, .pointer (some ⟨ba, 0 + i * 65, none⟩)), (18, .pointer (some ⟨ba, 0 + i * 65, none⟩)), (19, .int .i64 (((y : Nat) : Int))), (20, .int .i64 ((((y + 1) : Nat) : Int)))]) (fun g w_ => St [ba] w w_ [(ba, layS n (upd p i (IntKind.i8.wrap ((y : Nat) : Int))) g.2.2 ++ sp, 49)] ∧ (g.1 ≤ 64) ∧ (g.2.1 = z + 65 * i + 1 + g.1)) (fun g => 64 - g.1) ?_ ?_
    · exact ⟨(0, (y + 1), c), (.cons rfl (.cons rfl (.cons rfl (.cons rfl (.cons rfl (.cons rfl (.cons rfl (.cons rfl (.cons rfl (.cons rfl (.cons rfl (.cons rfl (.cons rfl (.cons rfl (.cons rfl (.cons rfl (.cons rfl (.nil _)))))))))))))))))), st, (by first | omega | (dsimp only; omega)), (by first | omega | (dsimp only; omega))⟩
    clear st
    rintro ⟨j, yy, c⟩ w4 ⟨st, hj, hyy⟩
    try dsimp only at st hj hyy ⊢
    refine Wc.seq ?_
    refine Wc.seq ?_
    refine Wc.region rfl ?_
    refine Wl.pure (PR.moveI rfl) ?_
    refine Wl.pure (PR.lss (a := ((j : Nat) : Int)) (b := 64) rfl rfl) ?_
    refine Wl.nil ?_
    refine tn ?_
    refine Wc.condD (p := ((j : Nat) : Int) < 64) rfl (fun h5 => ?_) (fun h5 => ?_)
    · refine Wc.skip ?_
      refine tn ?_
      refine Wc.seq ?_
      refine Wc.block ?_
      refine Wc.seq ?_
      refine Wc.region rfl ?_
      refine Wl.pure (PR.moveL rfl) ?_
      refine Wl.pure (PR.moveI rfl) ?_
      refine Wl.pure (PR.moveI rfl) ?_
      refine Wl.pure (PR.moveI rfl) ?_
      refine Wl.pure (PR.convU (n := yy) tI_5 rfl (by decide) Try.underlying3) ?_
      refine Wl.pure (PR.idxAddrS (i := i) tS_34 rfl rfl (by omega)) ?_
      refine Wl.pure (PR.fieldAddr tF_49_1 rfl) ?_
      refine Wl.pure (PR.idxAddrA1 (i := j) tE_47 rfl rfl (by omega)) ?_
      refine Wl.store (i := 0) (cs' := layS n (upd p i (IntKind.i8.wrap ((y : Nat) : Int))) (upd c i (upd (c i) j (yy % 256))) ++ sp) st tA_5 rfl rfl rfl rfl (app_in (layS_in (i := i) (j := 1 + j) (by omega) (by omega) (by omega))) (app_set (layS_in (i := i) (j := 1 + j) (by omega) (by omega) (by omega)) (layS_set_c (by omega) (by omega))) ?_
      clear st
      intro w6 st
      replace st : St [ba] w w6 [(ba, layS n (upd p i (IntKind.i8.wrap ((y : Nat) : Int))) (upd c i (upd (c i) j (yy % 256))) ++ sp, 49)] := st
      refine Wl.nil ?_
      refine tn ?_
      refine Wc.region rfl ?_
      refine Wl.pure (PR.moveI rfl) ?_
      refine Wl.pure (PR.add (a := ((yy : Nat) : Int)) (b := 1) rfl rfl (by simp only [fitI]; omega)) ?_
      refine Wl.pure (PR.assI rfl) ?_
      refine Wl.nil ?_
      refine bn ?_
      refine tn ?_
      refine Wc.region rfl ?_
      refine Wl.pure (PR.moveI rfl) ?_
      refine Wl.pure (PR.add (a := ((j : Nat) : Int)) (b := 1) rfl rfl (by simp only [fitI]; omega)) ?_
      refine Wl.pure (PR.assI rfl) ?_
      refine Wl.nil ?_
      refine tn ?_
      exact ⟨(j + 1, (yy + 1), (upd c i (upd (c i) j (yy % 256)))), (.cons rfl (.cons rfl (.cons rfl (.cons rfl (.cons rfl (.cons rfl (.cons rfl (.cons rfl (.cons rfl (.cons rfl (.cons rfl (.cons rfl (.cons rfl (.cons rfl (.cons rfl (.cons rfl (.cons rfl (.nil _)))))))))))))))))), ⟨st, (by first | omega | (dsimp only; omega)), (by first | omega | (dsimp only; omega))⟩, (by first | omega | (dsimp only; omega))⟩
    · refine Wc.exit ?_
      refine tx ?_
      refine tx ?_
      refine bh ?_
      refine bn ?_
      refine tn ?_
      refine Wc.region rfl ?_
      refine Wl.pure (PR.moveI rfl) ?_
      refine Wl.pure (PR.add (a := ((i : Nat) : Int)) (b := 1) rfl rfl (by simp only [fitI]; omega)) ?_
      refine Wl.pure (PR.assI rfl) ?_
      refine Wl.nil ?_
      refine tn ?_
      exact ⟨(i + 1, yy, (upd p i (IntKind.i8.wrap ((y : Nat) : Int))), c), (.cons rfl (.cons rfl (.cons rfl (.cons rfl (.nil _))))), ⟨st, (by first | omega | (dsimp only; omega)), (by first | omega | (dsimp only; omega))⟩, (by first | omega | (dsimp only; omega))⟩
  · refine Wc.exit ?_
    refine tx ?_
    refine tx ?_
    refine bh ?_
    refine tn ?_
    refine Wc.seq ?_
    refine Wc.region rfl ?_
    refine Wl.pure (PR.moveI rfl) ?_
    refine Wl.pure (PR.assI rfl) ?_
    refine Wl.nil ?_
    refine tn ?_
    refine Wc.ret ?_
    refine postL.tmp rfl rfl ?_
    obtain rfl : i = n := by omega
    subst hy
    exact ⟨(p, c), trivial, rfl, st⟩

set_option maxHeartbeats 400000 in
set_option maxRecDepth 4000 in
theorem c_laws_FnExactPossibleCells {s : Int} {p : Int} {a : Nat → Nat} {b : Nat → Nat} {A : Option Addr} {n : Nat} {cp : Nat} {y : Nat → Int} {c : Nat → Nat → Nat} {z : Int} {q : Bool} {t : Int} {w : World} (hs : -128 ≤ s ∧ s ≤ 127) (hp : -128 ≤ p ∧ p ≤ 127) (ha : ∀ k, a k < 256) (hb : ∀ k, b k < 256) (hRL : RdS w A n (layS n y c)) (hg : ∀ i, i < n → -128 ≤ y i ∧ y i ≤ 127) (hc : ∀ i k, c i k < 256) (hn : n ≤ 9223372036854775807) :
    CE Try.prog 5 [.agg (schV (s) (p) (a) (b)).toArray, .slice (A) (n) (cp), .int .i64 (z), .bool (q), .int .i64 (t)] w (RetV w (.bool true)) := by
  refine CE.enter 119 [(0, .agg (schV (s) (p) (a) (b)).toArray), (1, .slice (A) (n) (cp)), (2, .int .i64 (z)), (3, .bool (q)), (4, .int .i64 (t))] en_5 Try.func5 rfl rfl (Nat.le_of_ble_eq_true rfl) rfl ?_
  have st := St.start w
  refine Wc.seq ?_
  refine Wc.region rfl ?_
  refine Wl.boxA st rfl ?_
  clear st
  intro b5 w1 st
  refine Wl.pure (PR.assB rfl) ?_
  refine Wl.nil ?_
  refine tn ?_
  refine Wc.seq ?_
  refine Wc.region rfl ?_
  refine Wl.pure (PR.assI rfl) ?_
  refine Wl.nil ?_
  refine tn ?_
  refine Wc.seq ?_
  refine Wc.region rfl ?_
  refine Wl.pure (PR.moveL rfl) ?_
  refine Wl.pure (PR.moveI rfl) ?_
  refine Wl.callV (c_laws_szLayerS (A := A) (n := n) (cp := cp) (p := y) (c := c) (z := 1048576) (by first | assumption | omega) (by first | assumption | omega)) rfl ?_
  intro w2 hbel
  replace st := st.call hbel
  clear hbel
  refine Wl.pure (PR.assI rfl) ?_
  refine Wl.nil ?_
  refine tn ?_
  refine Wc.seq ?_
  refine Wc.seq ?_
  refine Wc.region rfl ?_
  refine Wl.pure (PR.moveI rfl) ?_
  refine Wl.pure (PR.lss (a := (szL n 1048576)) (b := 0) rfl rfl) ?_
  refine Wl.nil ?_
  refine tn ?_
  refine Wc.condD (p := (szL n 1048576) < 0) rfl (fun h3 => ?_) (fun h3 => ?_)
  · refine Wc.seq ?_
    refine Wc.region rfl ?_
    refine Wl.pure (PR.assB rfl) ?_
    refine Wl.nil ?_
    refine tn ?_
    refine Wc.ret ?_
    refine tr ?_
    refine postL.tmp rfl rfl ?_
    exact RetV.of rfl st.below
  · refine Wc.skip ?_
    refine tn ?_
    refine Wc.seq ?_
    by_cases hcode : pcC s p a b n y c z t = 0
    · obtain ⟨hn1, hz1⟩ := szL_ok (n := n) (z := 1048576) (by omega)
      have hfl := flN_le (possQ ((s).toNat) ((p).toNat) a b n c ((z).toNat) q ((t).toNat)) (1 <<< p.toNat)
      have hp9 := pc_p8 hcode
      have h256 := shl_256 hp9
      refine Wc.region rfl ?_
      refine Wl.loadA (i := 0) st tA_25 rfl rfl (all_sub schV_len) schV_len ?_
      refine Wl.callV (c_laws_toScheme (s := s) (p := p) (a := a) (b := b) ha hb) rfl ?_
      intro w4 hbel
      replace st := st.call hbel
      clear hbel
      refine Wl.pure (PR.moveL rfl) ?_
      refine Wl.callS st (c_laws_toLayerS (A := A) (n := n) (cp := cp) (p := y) (c := c) (hRL.st st) hc (by first | assumption | omega)) rfl ?_
      clear st
      intro b31 w5 st
      refine Wl.pure (PR.moveI rfl) ?_
      refine Wl.pure (PR.moveB rfl) ?_
      refine Wl.pure (PR.moveI rfl) ?_
      refine Wl.callXG [] st (c_spec_PossibleCells_t (s := s) (p := p) (a := a) (b := b) (A := some ⟨b31, 0, none⟩) (n := n) (cp := n) (y := y) (c := c) (z := z) (q := (q)) (t := t) (by first | assumption | omega) (by first | assumption | omega) ha hb ((st.rdA (i := 0) (n := (n * 65)) rfl (all_sub (recV_len (s := 65) (layS_row _ _) _))).sl) hg hc (by first | assumption | omega) (by first | assumption | omega)) rfl rfl ?_
      clear st
      intro b35 c35 sp35 w6 hc35 hs35 st
      replace st : St [] w w6 [(b35, arrU .u8 (flN (possQ ((s).toNat) ((p).toNat) a b n c ((z).toNat) (q) ((t).toNat)) (1 <<< ((p).toNat))) (flA (possQ ((s).toNat) ((p).toNat) a b n c ((z).toNat) (q) ((t).toNat)) (1 <<< ((p).toNat))) ++ sp35, 5), (b31, layS n y c, 49), (b5, schV (s) (p) (a) (b), 25)] := st
      refine Wl.pure (PR.moveV (.tuple #[.slice (some ⟨b35, 0, none⟩) ((flN (possQ ((s).toNat) ((p).toNat) a b n c ((z).toNat) (q) ((t).toNat)) (1 <<< ((p).toNat)))) (c35), .int .i64 (0)]) rfl) ?_
      refine Wl.pure (PR.extr (i := 0) (vs := [.slice (some ⟨b35, 0, none⟩) ((flN (possQ ((s).toNat) ((p).toNat) a b n c ((z).toNat) (q) ((t).toNat)) (1 <<< ((p).toNat)))) (c35), .int .i64 (0)]) rfl rfl) ?_
      refine Wl.pure (PR.extr (i := 1) (vs := [.slice (some ⟨b35, 0, none⟩) ((flN (possQ ((s).toNat) ((p).toNat) a b n c ((z).toNat) (q) ((t).toNat)) (1 <<< ((p).toNat)))) (c35), .int .i64 (0)]) rfl rfl) ?_
      refine Wl.pure (PR.assL rfl) ?_
      refine Wl.pure (PR.assI rfl) ?_
      refine Wl.nil ?_
      refine tn ?_
      refine Wc.seq ?_
      refine Wc.region rfl ?_
      refine Wl.pure (PR.moveL rfl) ?_
      refine Wl.callS st (c_laws_toLayerS (A := A) (n := n) (cp := cp) (p := y) (c := c) (hRL.st st) hc (by first | assumption | omega)) rfl ?_
      clear st
      intro b39 w7 st
      refine Wl.pure (PR.assL rfl) ?_
      refine Wl.nil ?_
      refine tn ?_
      refine Wc.seq ?_
      refine Wc.region rfl ?_
      refine Wl.loadA (i := 3) st tA_25 rfl rfl (all_sub schV_len) schV_len ?_
      refine Wl.callV (c_laws_toScheme (s := s) (p := p) (a := a) (b := b) ha hb) rfl ?_
      intro w8 hbel
      replace st := st.call hbel
      clear hbel
      refine Wl.pure (PR.moveL rfl) ?_
      refine Wl.pure (PR.moveI rfl) ?_
      refine Wl.pure (PR.moveB rfl) ?_
      refine Wl.pure (PR.moveI rfl) ?_
      refine Wl.callXG [] st (c_impl_PossibleCells_t (s := s) (p := p) (a := a) (b := b) (A := some ⟨b39, 0, none⟩) (n := n) (cp := n) (y := y) (c := c) (z := z) (q := (q)) (t := t) (by first | assumption | omega) (by first | assumption | omega) ha hb ((st.rdA (i := 0) (n := (n * 65)) rfl (all_sub (recV_len (s := 65) (layS_row _ _) _))).sl) hg hc (by first | assumption | omega) (by first | assumption | omega)) rfl rfl ?_
      clear st
      intro b47 c47 sp47 w9 hc47 hs47 st
      replace st : St [] w w9 [(b47, arrU .u8 (flN (possQ ((s).toNat) ((p).toNat) a b n c ((z).toNat) (q) ((t).toNat)) (1 <<< ((p).toNat))) (flA (possQ ((s).toNat) ((p).toNat) a b n c ((z).toNat) (q) ((t).toNat)) (1 <<< ((p).toNat))) ++ sp47, 5), (b39, layS n y c, 49), (b35, arrU .u8 (flN (possQ ((s).toNat) ((p).toNat) a b n c ((z).toNat) (q) ((t).toNat)) (1 <<< ((p).toNat))) (flA (possQ ((s).toNat) ((p).toNat) a b n c ((z).toNat) (q) ((t).toNat)) (1 <<< ((p).toNat))) ++ sp35, 5), (b31, layS n y c, 49), (b5, schV (s) (p) (a) (b), 25)] := st
      refine Wl.pure (PR.moveV (.tuple #[.slice (some ⟨b47, 0, none⟩) ((flN (possQ ((s).toNat) ((p).toNat) a b n c ((z).toNat) (q) ((t).toNat)) (1 <<< ((p).toNat)))) (c47), .int .i64 (0)]) rfl) ?_
      refine Wl.pure (PR.extr (i := 0) (vs := [.slice (some ⟨b47, 0, none⟩) ((flN (possQ ((s).toNat) ((p).toNat) a b n c ((z).toNat) (q) ((t).toNat)) (1 <<< ((p).toNat)))) (c47), .int .i64 (0)]) rfl rfl) ?_
      refine Wl.pure (PR.extr (i := 1) (vs := [.slice (some ⟨b47, 0, none⟩) ((flN (possQ ((s).toNat) ((p).toNat) a b n c ((z).toNat) (q) ((t).toNat)) (1 <<< ((p).toNat)))) (c47), .int .i64 (0)]) rfl rfl) ?_
      refine Wl.pure (PR.assL rfl) ?_
      refine Wl.pure (PR.assI rfl) ?_
      refine Wl.nil ?_
      refine tn ?_
      refine Wc.seq ?_
      refine Wc.seq ?_
      refine Wc.region rfl ?_
      refine Wl.pure (PR.moveL rfl) ?_
      refine Wl.pure (PR.moveL rfl) ?_
      refine Wl.callV (c_laws_eqByteS (A := some ⟨b47, 0, none⟩) (n := (flN (possQ ((s).toNat) ((p).toNat) a b n c ((z).toNat) (q) ((t).toNat)) (1 <<< ((p).toNat)))) (cp := c47) (c := (flA (possQ ((s).toNat) ((p).toNat) a b n c ((z).toNat) (q) ((t).toNat)) (1 <<< ((p).toNat)))) (B := some ⟨b35, 0, none⟩) (cq := c35) ((st.rdA (i := 0) (n := (flN (possQ ((s).toNat) ((p).toNat) a b n c ((z).toNat) (q) ((t).toNat)) (1 <<< ((p).toNat)))) rfl (app_all (arrU_len _))).sl) ((st.rdA (i := 2) (n := (flN (possQ ((s).toNat) ((p).toNat) a b n c ((z).toNat) (q) ((t).toNat)) (1 <<< ((p).toNat)))) rfl (app_all (arrU_len _))).sl) (by first | assumption | omega)) rfl ?_
      intro w10 hbel
      replace st := st.call hbel
      clear hbel
      refine Wl.pure (PR.not_ rfl) ?_
      refine Wl.pure (PR.moveB rfl) ?_
      refine Wl.on rfl rfl ?_
      refine Wl.pure (PR.moveI rfl) ?_
      refine Wl.on rfl rfl ?_
      refine Wl.pure (PR.moveI rfl) ?_
      refine Wl.on rfl rfl ?_
      refine Wl.pure (PR.neqS (a := 0) rfl rfl) ?_
      refine Wl.pure (PR.pickFB rfl rfl) ?_
      refine Wl.nil ?_
      refine tn ?_
      refine Wc.condF rfl ?_
      refine Wc.skip ?_
      refine tn ?_
      refine Wc.seq ?_
      refine Wc.seq ?_
      refine Wc.region rfl ?_
      refine Wl.pure (PR.moveL rfl) ?_
      refine Wl.pure (PR.moveL rfl) ?_
      refine Wl.callS st (c_laws_toLayerS (A := A) (n := n) (cp := cp) (p := y) (c := c) (hRL.st st) hc (by first | assumption | omega)) rfl ?_
      clear st
      intro b61 w11 st
      refine Wl.callV (c_laws_eqLayerS (A := some ⟨b39, 0, none⟩) (n := n) (cp := n) (p := y) (c := c) (B := some ⟨b61, 0, none⟩) (cq := n) ((st.rdA (i := 2) (n := (n * 65)) rfl (all_sub (recV_len (s := 65) (layS_row _ _) _))).sl) ((st.rdA (i := 0) (n := (n * 65)) rfl (all_sub (recV_len (s := 65) (layS_row _ _) _))).sl) (by first | assumption | omega)) rfl ?_
      intro w12 hbel
      replace st := st.call hbel
      clear hbel
      refine Wl.pure (PR.not_ rfl) ?_
      refine Wl.nil ?_
      refine tn ?_
      refine Wc.condF rfl ?_
      refine Wc.skip ?_
      refine tn ?_
      refine Wc.seq ?_
      refine Wc.region rfl ?_
      refine Wl.pure (PR.assI rfl) ?_
      refine Wl.nil ?_
      refine tn ?_
      refine Wc.seq ?_
      refine Wc.region rfl ?_
      refine Wl.pure (PR.moveL rfl) ?_
      refine Wl.pure (PR.moveI rfl) ?_
      replace st : St [] w w12 [(b61, layS n y c, 49), (b47, arrU .u8 (flN (possQ ((s).toNat) ((p).toNat) a b n c ((z).toNat) (q) ((t).toNat)) (1 <<< ((p).toNat))) (flA (possQ ((s).toNat) ((p).toNat) a b n c ((z).toNat) (q) ((t).toNat)) (1 <<< ((p).toNat))) ++ sp47, 5), (b39, layS n y c ++ [], 49), (b35, arrU .u8 (flN (possQ ((s).toNat) ((p).toNat) a b n c ((z).toNat) (q) ((t).toNat)) (1 <<< ((p).toNat))) (flA (possQ ((s).toNat) ((p).toNat) a b n c ((z).toNat) (q) ((t).toNat)) (1 <<< ((p).toNat))) ++ sp35, 5), (b31, layS n y c, 49), (b5, schV (s) (p) (a) (b), 25)] := st.nilat (i := 2) rfl
      refine Wl.callXE [2] st (c_laws_markLayerS (ba := b39) (n := n) (cp := n) (p := y) (c := c) (sp := []) (z := 1) (by first | assumption | omega) (by first | assumption | omega) (st.lend (L' := [(b39, layS n y c ++ [], 49)]) [2] (by decide) rfl)) rfl rfl ?_
      clear st
      rintro ⟨p__14, c__15⟩ _ w13 st
      try dsimp only at st 
      replace st : St [] w w13 [(b39, layS n p__14 c__15 ++ [], 49), (b61, layS n y c, 49), (b47, arrU .u8 (flN (possQ ((s).toNat) ((p).toNat) a b n c ((z).toNat) (q) ((t).toNat)) (1 <<< ((p).toNat))) (flA (possQ ((s).toNat) ((p).toNat) a b n c ((z).toNat) (q) ((t).toNat)) (1 <<< ((p).toNat))) ++ sp47, 5), (b35, arrU .u8 (flN (possQ ((s).toNat) ((p).toNat) a b n c ((z).toNat) (q) ((t).toNat)) (1 <<< ((p).toNat))) (flA (possQ ((s).toNat) ((p).toNat) a b n c ((z).toNat) (q) ((t).toNat)) (1 <<< ((p).toNat))) ++ sp35, 5), (b31, layS n y c, 49), (b5, schV (s) (p) (a) (b), 25)] := st
      refine Wl.pure (PR.assI rfl) ?_
      refine Wl.nil ?_
      refine tn ?_
      refine Wc.seq ?_
      refine Wc.seq ?_
      refine Wc.region rfl ?_
      refine Wl.pure (PR.moveI rfl) ?_
      refine Wl.pure (PR.lss (a := (((1 + 65 * n) : Nat) : Int)) (b := 0) rfl rfl) ?_
      refine Wl.pure (PR.moveB rfl) ?_
      refine Wl.splitF (q := (((1 + 65 * n) : Nat) : Int) < 0) rfl rfl (fun h16 => ?_) (fun h16 => ?_)
      · refine Wl.pure (PR.moveL rfl) ?_
        refine Wl.on rfl rfl ?_
        refine Wl.pure (PR.moveL rfl) ?_
        refine Wl.on rfl rfl ?_
        refine Wl.callV (c_laws_eqByteS (A := some ⟨b47, 0, none⟩) (n := (flN (possQ ((s).toNat) ((p).toNat) a b n c ((z).toNat) (q) ((t).toNat)) (1 <<< ((p).toNat)))) (cp := c47) (c := (flA (possQ ((s).toNat) ((p).toNat) a b n c ((z).toNat) (q) ((t).toNat)) (1 <<< ((p).toNat)))) (B := some ⟨b35, 0, none⟩) (cq := c35) ((st.rdA (i := 2) (n := (flN (possQ ((s).toNat) ((p).toNat) a b n c ((z).toNat) (q) ((t).toNat)) (1 <<< ((p).toNat)))) rfl (app_all (arrU_len _))).sl) ((st.rdA (i := 3) (n := (flN (possQ ((s).toNat) ((p).toNat) a b n c ((z).toNat) (q) ((t).toNat)) (1 <<< ((p).toNat)))) rfl (app_all (arrU_len _))).sl) (by first | assumption | omega)) rfl ?_
        intro w17 hbel
        replace st := st.call hbel
        clear hbel
        refine Wl.on rfl rfl ?_
        refine Wl.pure (PR.not_ rfl) ?_
        refine Wl.pure (PR.pickFB rfl rfl) ?_
        refine Wl.pure (PR.moveB rfl) ?_
        refine Wl.on rfl rfl ?_
        refine Wl.pure (PR.moveI rfl) ?_
        refine Wl.on rfl rfl ?_
        refine Wl.pure (PR.moveI rfl) ?_
        refine Wl.on rfl rfl ?_
        refine Wl.pure (PR.neqS (a := 0) rfl rfl) ?_
        refine Wl.pure (PR.pickFB rfl rfl) ?_
        refine Wl.nil ?_
        refine tn ?_
        refine Wc.condF rfl ?_
        refine Wc.skip ?_
        refine tn ?_
        refine Wc.seq ?_
        refine Wc.region rfl ?_
        refine Wl.pure (PR.assI rfl) ?_
        refine Wl.nil ?_
        refine tn ?_
        refine Wc.seq ?_
        refine Wc.region rfl ?_
        refine Wl.pure (PR.moveL rfl) ?_
        refine Wl.pure (PR.moveI rfl) ?_
        refine Wl.callX [2] st (c_markByteS (ba := b47) (n := (flN (possQ ((s).toNat) ((p).toNat) a b n c ((z).toNat) (q) ((t).toNat)) (1 <<< ((p).toNat)))) (cp := c47) (c := (flA (possQ ((s).toNat) ((p).toNat) a b n c ((z).toNat) (q) ((t).toNat)) (1 <<< ((p).toNat)))) (sp := sp47) (z := 1) (by first | assumption | omega) (st.lend (L' := [(b47, arrU .u8 (flN (possQ ((s).toNat) ((p).toNat) a b n c ((z).toNat) (q) ((t).toNat)) (1 <<< ((p).toNat))) (flA (possQ ((s).toNat) ((p).toNat) a b n c ((z).toNat) (q) ((t).toNat)) (1 <<< ((p).toNat))) ++ sp47, 5)]) [2] (by decide) rfl)) rfl rfl ?_
        clear st
        intro w18 st
        replace st : St [] w w18 [(b47, arrU .u8 (flN (possQ ((s).toNat) ((p).toNat) a b n c ((z).toNat) (q) ((t).toNat)) (1 <<< ((p).toNat))) (fun j => (1 + j) % 256) ++ sp47, 5), (b39, layS n p__14 c__15 ++ [], 49), (b61, layS n y c, 49), (b35, arrU .u8 (flN (possQ ((s).toNat) ((p).toNat) a b n c ((z).toNat) (q) ((t).toNat)) (1 <<< ((p).toNat))) (flA (possQ ((s).toNat) ((p).toNat) a b n c ((z).toNat) (q) ((t).toNat)) (1 <<< ((p).toNat))) ++ sp35, 5), (b31, layS n y c, 49), (b5, schV (s) (p) (a) (b), 25)] := st
        refine Wl.pure (PR.assI rfl) ?_
        refine Wl.nil ?_
        refine tn ?_
        refine Wc.seq ?_
        refine Wc.region rfl ?_
        refine Wl.pure (PR.assI rfl) ?_
        refine Wl.nil ?_
        refine tn ?_
        refine Wc.seq ?_
        refine Wc.region rfl ?_
        refine Wl.pure (PR.moveL rfl) ?_
        refine Wl.pure (PR.moveI rfl) ?_
        refine Wl.callV (c_laws_heldByteS (A := some ⟨b47, 0, none⟩) (n := (flN (possQ ((s).toNat) ((p).toNat) a b n c ((z).toNat) (q) ((t).toNat)) (1 <<< ((p).toNat)))) (cp := c47) (c := (fun j => (1 + j) % 256)) (z := 1) ((st.rdA (i := 0) (n := (flN (possQ ((s).toNat) ((p).toNat) a b n c ((z).toNat) (q) ((t).toNat)) (1 <<< ((p).toNat)))) rfl (app_all (arrU_len _))).sl) (by first | assumption | omega) (fun u hu => by first | rfl | omega)) rfl ?_
        intro w19 hbel
        replace st := st.call hbel
        clear hbel
        refine Wl.pure (PR.assI rfl) ?_
        refine Wl.nil ?_
        refine tn ?_
        refine Wc.seq ?_
        refine Wc.seq ?_
        refine Wc.region rfl ?_
        refine Wl.pure (PR.moveI rfl) ?_
        refine Wl.pure (PR.lss (a := (((1 + (flN (possQ ((s).toNat) ((p).toNat) a b n c ((z).toNat) (q) ((t).toNat)) (1 <<< ((p).toNat)))) : Nat) : Int)) (b := 0) rfl rfl) ?_
        refine Wl.nil ?_
        refine tn ?_
        refine Wc.condD (p := (((1 + (flN (possQ ((s).toNat) ((p).toNat) a b n c ((z).toNat) (q) ((t).toNat)) (1 <<< ((p).toNat)))) : Nat) : Int) < 0) rfl (fun h20 => ?_) (fun h20 => ?_)
        · refine Wc.seq ?_
          refine Wc.region rfl ?_
          refine Wl.pure (PR.assB rfl) ?_
          refine Wl.nil ?_
          refine tn ?_
          refine Wc.ret ?_
          refine tr ?_
          refine postL.tmp rfl rfl ?_
          refine RetV.of ?_ st.below
          refine congrArg Value.bool ?_
          first | rfl | (exfalso; omega) | (simp only [*, decide_true, decide_false, Bool.not_true, Bool.not_false]; done) | (simp; omega) | (rw [Bool.eq_iff_iff]; simp; omega) | simp_all
        · refine Wc.skip ?_
          refine tn ?_
          refine Wc.seq ?_
          refine Wc.seq ?_
          refine Wc.region rfl ?_
          refine Wl.pure (PR.moveI rfl) ?_
          refine Wl.pure (PR.moveI rfl) ?_
          refine Wl.pure (PR.neqS (a := (((1 + (flN (possQ ((s).toNat) ((p).toNat) a b n c ((z).toNat) (q) ((t).toNat)) (1 <<< ((p).toNat)))) : Nat) : Int)) rfl rfl) ?_
          refine Wl.nil ?_
          refine tn ?_
          refine Wc.condF rfl ?_
          refine Wc.skip ?_
          refine tn ?_
          refine Wc.seq ?_
          refine Wc.region rfl ?_
          refine Wl.loadA (i := 5) st tA_25 rfl rfl (all_sub schV_len) schV_len ?_
          refine Wl.callV (c_laws_toScheme (s := s) (p := p) (a := a) (b := b) ha hb) rfl ?_
          intro w21 hbel
          replace st := st.call hbel
          clear hbel
          refine Wl.pure (PR.moveL rfl) ?_
          refine Wl.callS st (c_laws_toLayerS (A := A) (n := n) (cp := cp) (p := y) (c := c) (hRL.st st) hc (by first | assumption | omega)) rfl ?_
          clear st
          intro b95 w22 st
          refine Wl.pure (PR.moveI rfl) ?_
          refine Wl.pure (PR.moveB rfl) ?_
          refine Wl.pure (PR.moveI rfl) ?_
          refine Wl.callXG [] st (c_impl_PossibleCells_t (s := s) (p := p) (a := a) (b := b) (A := some ⟨b95, 0, none⟩) (n := n) (cp := n) (y := y) (c := c) (z := z) (q := (q)) (t := t) (by first | assumption | omega) (by first | assumption | omega) ha hb ((st.rdA (i := 0) (n := (n * 65)) rfl (all_sub (recV_len (s := 65) (layS_row _ _) _))).sl) hg hc (by first | assumption | omega) (by first | assumption | omega)) rfl rfl ?_
          clear st
          intro b99 c99 sp99 w23 hc99 hs99 st
          replace st : St [] w w23 [(b99, arrU .u8 (flN (possQ ((s).toNat) ((p).toNat) a b n c ((z).toNat) (q) ((t).toNat)) (1 <<< ((p).toNat))) (flA (possQ ((s).toNat) ((p).toNat) a b n c ((z).toNat) (q) ((t).toNat)) (1 <<< ((p).toNat))) ++ sp99, 5), (b95, layS n y c, 49), (b47, arrU .u8 (flN (possQ ((s).toNat) ((p).toNat) a b n c ((z).toNat) (q) ((t).toNat)) (1 <<< ((p).toNat))) (fun j => (1 + j) % 256) ++ sp47, 5), (b39, layS n p__14 c__15 ++ [], 49), (b61, layS n y c, 49), (b35, arrU .u8 (flN (possQ ((s).toNat) ((p).toNat) a b n c ((z).toNat) (q) ((t).toNat)) (1 <<< ((p).toNat))) (flA (possQ ((s).toNat) ((p).toNat) a b n c ((z).toNat) (q) ((t).toNat)) (1 <<< ((p).toNat))) ++ sp35, 5), (b31, layS n y c, 49), (b5, schV (s) (p) (a) (b), 25)] := st
          refine Wl.pure (PR.moveV (.tuple #[.slice (some ⟨b99, 0, none⟩) ((flN (possQ ((s).toNat) ((p).toNat) a b n c ((z).toNat) (q) ((t).toNat)) (1 <<< ((p).toNat)))) (c99), .int .i64 (0)]) rfl) ?_
          refine Wl.pure (PR.extr (i := 0) (vs := [.slice (some ⟨b99, 0, none⟩) ((flN (possQ ((s).toNat) ((p).toNat) a b n c ((z).toNat) (q) ((t).toNat)) (1 <<< ((p).toNat)))) (c99), .int .i64 (0)]) rfl rfl) ?_
          refine Wl.pure (PR.extr (i := 1) (vs := [.slice (some ⟨b99, 0, none⟩) ((flN (possQ ((s).toNat) ((p).toNat) a b n c ((z).toNat) (q) ((t).toNat)) (1 <<< ((p).toNat)))) (c99), .int .i64 (0)]) rfl rfl) ?_
          refine Wl.pure (PR.assL rfl) ?_
          refine Wl.pure (PR.assI rfl) ?_
          refine Wl.nil ?_
          refine tn ?_
          refine Wc.seq ?_
          refine Wc.seq ?_
          refine Wc.region rfl ?_
          refine Wl.pure (PR.moveL rfl) ?_
          refine Wl.pure (PR.moveL rfl) ?_
          refine Wl.callV (c_laws_eqByteS (A := some ⟨b99, 0, none⟩) (n := (flN (possQ ((s).toNat) ((p).toNat) a b n c ((z).toNat) (q) ((t).toNat)) (1 <<< ((p).toNat)))) (cp := c99) (c := (flA (possQ ((s).toNat) ((p).toNat) a b n c ((z).toNat) (q) ((t).toNat)) (1 <<< ((p).toNat)))) (B := some ⟨b35, 0, none⟩) (cq := c35) ((st.rdA (i := 0) (n := (flN (possQ ((s).toNat) ((p).toNat) a b n c ((z).toNat) (q) ((t).toNat)) (1 <<< ((p).toNat)))) rfl (app_all (arrU_len _))).sl) ((st.rdA (i := 5) (n := (flN (possQ ((s).toNat) ((p).toNat) a b n c ((z).toNat) (q) ((t).toNat)) (1 <<< ((p).toNat)))) rfl (app_all (arrU_len _))).sl) (by first | assumption | omega)) rfl ?_
          intro w24 hbel
          replace st := st.call hbel
          clear hbel
          refine Wl.pure (PR.not_ rfl) ?_
          refine Wl.pure (PR.moveB rfl) ?_
          refine Wl.on rfl rfl ?_
          refine Wl.pure (PR.moveI rfl) ?_
          refine Wl.on rfl rfl ?_
          refine Wl.pure (PR.moveI rfl) ?_
          refine Wl.on rfl rfl ?_
          refine Wl.pure (PR.neqS (a := 0) rfl rfl) ?_
          refine Wl.pure (PR.pickFB rfl rfl) ?_
          refine Wl.nil ?_
          refine tn ?_
          refine Wc.condF rfl ?_
          refine Wc.skip ?_
          refine tn ?_
          refine Wc.seq ?_
          refine Wc.region rfl ?_
          refine Wl.pure (PR.assI rfl) ?_
          refine Wl.nil ?_
          refine tn ?_
          refine Wc.seq ?_
          refine Wc.region rfl ?_
          refine Wl.pure (PR.moveL rfl) ?_
          refine Wl.pure (PR.moveI rfl) ?_
          refine Wl.callV (c_laws_heldByteS (A := some ⟨b47, 0, none⟩) (n := (flN (possQ ((s).toNat) ((p).toNat) a b n c ((z).toNat) (q) ((t).toNat)) (1 <<< ((p).toNat)))) (cp := c47) (c := (fun j => (1 + j) % 256)) (z := 1) ((st.rdA (i := 2) (n := (flN (possQ ((s).toNat) ((p).toNat) a b n c ((z).toNat) (q) ((t).toNat)) (1 <<< ((p).toNat)))) rfl (app_all (arrU_len _))).sl) (by first | assumption | omega) (fun u hu => by first | rfl | omega)) rfl ?_
          intro w25 hbel
          replace st := st.call hbel
          clear hbel
          refine Wl.pure (PR.assI rfl) ?_
          refine Wl.nil ?_
          refine tn ?_
          refine Wc.seq ?_
          refine Wc.seq ?_
          refine Wc.region rfl ?_
          refine Wl.pure (PR.moveI rfl) ?_
          refine Wl.pure (PR.lss (a := (((1 + (flN (possQ ((s).toNat) ((p).toNat) a b n c ((z).toNat) (q) ((t).toNat)) (1 <<< ((p).toNat)))) : Nat) : Int)) (b := 0) rfl rfl) ?_
          refine Wl.nil ?_
          refine tn ?_
          refine Wc.condD (p := (((1 + (flN (possQ ((s).toNat) ((p).toNat) a b n c ((z).toNat) (q) ((t).toNat)) (1 <<< ((p).toNat)))) : Nat) : Int) < 0) rfl (fun h26 => ?_) (fun h26 => ?_)
          · refine Wc.seq ?_
            refine Wc.region rfl ?_
            refine Wl.pure (PR.assB rfl) ?_
            refine Wl.nil ?_
            refine tn ?_
            refine Wc.ret ?_
            refine tr ?_
            refine postL.tmp rfl rfl ?_
            refine RetV.of ?_ st.below
            refine congrArg Value.bool ?_
            first | rfl | (exfalso; omega) | (simp only [*, decide_true, decide_false, Bool.not_true, Bool.not_false]; done) | (simp; omega) | (rw [Bool.eq_iff_iff]; simp; omega) | simp_all
          · refine Wc.skip ?_
            refine tn ?_
            refine Wc.seq ?_
            refine Wc.seq ?_
            refine Wc.region rfl ?_
            refine Wl.pure (PR.moveI rfl) ?_
            refine Wl.pure (PR.moveI rfl) ?_
            refine Wl.pure (PR.neqS (a := (((1 + (flN (possQ ((s).toNat) ((p).toNat) a b n c ((z).toNat) (q) ((t).toNat)) (1 <<< ((p).toNat)))) : Nat) : Int)) rfl rfl) ?_
            refine Wl.nil ?_
            refine tn ?_
            refine Wc.condF rfl ?_
            refine Wc.skip ?_
            refine tn ?_
            refine Wc.seq ?_
            refine Wc.region rfl ?_
            refine Wl.pure (PR.assB rfl) ?_
            refine Wl.nil ?_
            refine tn ?_
            refine Wc.ret ?_
            refine postL.tmp rfl rfl ?_
            exact RetV.of rfl st.below
      · refine Wl.off rfl rfl rfl ?_
        refine Wl.off rfl rfl rfl ?_
        refine Wl.off rfl rfl rfl ?_
        refine Wl.pure (PR.pickTB rfl rfl) ?_
        refine Wl.pure (PR.moveB rfl) ?_
        refine Wl.off rfl rfl rfl ?_
        refine Wl.off rfl rfl rfl ?_
        refine Wl.off rfl rfl rfl ?_
        refine Wl.pure (PR.pickTB rfl rfl) ?_
        refine Wl.nil ?_
        refine tn ?_
        refine Wc.condT rfl ?_
        refine Wc.seq ?_
        refine Wc.region rfl ?_
        refine Wl.pure (PR.assB rfl) ?_
        refine Wl.nil ?_
        refine tn ?_
        refine Wc.ret ?_
        refine tr ?_
        refine postL.tmp rfl rfl ?_
        refine RetV.of ?_ st.below
        refine congrArg Value.bool ?_
        first | rfl | (exfalso; omega) | (simp only [*, decide_true, decide_false, Bool.not_true, Bool.not_false]; done) | (simp; omega) | (rw [Bool.eq_iff_iff]; simp; omega) | simp_all
    · obtain ⟨hn1, hz1⟩ := szL_ok (n := n) (z := 1048576) (by omega)
      have hfl := flN_le (possQ ((s).toNat) ((p).toNat) a b n c ((z).toNat) q ((t).toNat)) (1 <<< p.toNat)
      refine Wc.region rfl ?_
      refine Wl.loadA (i := 0) st tA_25 rfl rfl (all_sub schV_len) schV_len ?_
      refine Wl.callV (c_laws_toScheme (s := s) (p := p) (a := a) (b := b) ha hb) rfl ?_
      intro w27 hbel
      replace st := st.call hbel
      clear hbel
      refine Wl.pure (PR.moveL rfl) ?_
      refine Wl.callS st (c_laws_toLayerS (A := A) (n := n) (cp := cp) (p := y) (c := c) (hRL.st st) hc (by first | assumption | omega)) rfl ?_
      clear st
      intro b31 w28 st
      refine Wl.pure (PR.moveI rfl) ?_
      refine Wl.pure (PR.moveB rfl) ?_
      refine Wl.pure (PR.moveI rfl) ?_
      refine Wl.callXG [] st (c_spec_PossibleCells_f (s := s) (p := p) (a := a) (b := b) (A := some ⟨b31, 0, none⟩) (n := n) (cp := n) (y := y) (c := c) (z := z) (q := (q)) (t := t) (by first | assumption | omega) (by first | assumption | omega) ha hb ((st.rdA (i := 0) (n := (n * 65)) rfl (all_sub (recV_len (s := 65) (layS_row _ _) _))).sl) hg hc (by first | assumption | omega) (by first | assumption | omega)) rfl rfl ?_
      clear st
      intro b35_30 c35_30 sp35_30 w29 hc35_30 hs35_30 st
      replace st : St [] w w29 [(b35_30, arrU .u8 0 (fun _ => 0) ++ sp35_30, 5), (b31, layS n y c, 49), (b5, schV (s) (p) (a) (b), 25)] := st
      refine Wl.pure (PR.moveV (.tuple #[.slice (some ⟨b35_30, 0, none⟩) (0) (c35_30), .int .i64 (((pcC s p a b n y c z t : Nat) : Int))]) rfl) ?_
      refine Wl.pure (PR.extr (i := 0) (vs := [.slice (some ⟨b35_30, 0, none⟩) (0) (c35_30), .int .i64 (((pcC s p a b n y c z t : Nat) : Int))]) rfl rfl) ?_
      refine Wl.pure (PR.extr (i := 1) (vs := [.slice (some ⟨b35_30, 0, none⟩) (0) (c35_30), .int .i64 (((pcC s p a b n y c z t : Nat) : Int))]) rfl rfl) ?_
      refine Wl.pure (PR.assL rfl) ?_
      refine Wl.pure (PR.assI rfl) ?_
      refine Wl.nil ?_
      refine tn ?_
      refine Wc.seq ?_
      refine Wc.region rfl ?_
      refine Wl.pure (PR.moveL rfl) ?_
      refine Wl.callS st (c_laws_toLayerS (A := A) (n := n) (cp := cp) (p := y) (c := c) (hRL.st st) hc (by first | assumption | omega)) rfl ?_
      clear st
      intro b39 w31 st
      refine Wl.pure (PR.assL rfl) ?_
      refine Wl.nil ?_
      refine tn ?_
      refine Wc.seq ?_
      refine Wc.region rfl ?_
      refine Wl.loadA (i := 3) st tA_25 rfl rfl (all_sub schV_len) schV_len ?_
      refine Wl.callV (c_laws_toScheme (s := s) (p := p) (a := a) (b := b) ha hb) rfl ?_
      intro w32 hbel
      replace st := st.call hbel
      clear hbel
      refine Wl.pure (PR.moveL rfl) ?_
      refine Wl.pure (PR.moveI rfl) ?_
      refine Wl.pure (PR.moveB rfl) ?_
      refine Wl.pure (PR.moveI rfl) ?_
      refine Wl.callV (c_impl_PossibleCells_f (s := s) (p := p) (a := a) (b := b) (A := some ⟨b39, 0, none⟩) (n := n) (cp := n) (y := y) (c := c) (z := z) (q := (q)) (t := t) (by first | assumption | omega) (by first | assumption | omega) ha hb ((st.rdA (i := 0) (n := (n * 65)) rfl (all_sub (recV_len (s := 65) (layS_row _ _) _))).sl) hg hc (by first | assumption | omega) (by first | assumption | omega)) rfl ?_
      intro w33 hbel
      replace st := st.call hbel
      clear hbel
      refine Wl.pure (PR.moveV (.tuple #[.slice (none) (0) (0), .int .i64 (((pcC s p a b n y c z t : Nat) : Int))]) rfl) ?_
      refine Wl.pure (PR.extr (i := 0) (vs := [.slice (none) (0) (0), .int .i64 (((pcC s p a b n y c z t : Nat) : Int))]) rfl rfl) ?_
      refine Wl.pure (PR.extr (i := 1) (vs := [.slice (none) (0) (0), .int .i64 (((pcC s p a b n y c z t : Nat) : Int))]) rfl rfl) ?_
      refine Wl.pure (PR.assL rfl) ?_
      refine Wl.pure (PR.assI rfl) ?_
      refine Wl.nil ?_
      refine tn ?_
      refine Wc.seq ?_
      refine Wc.seq ?_
      refine Wc.region rfl ?_
      refine Wl.pure (PR.moveL rfl) ?_
      refine Wl.pure (PR.moveL rfl) ?_
      refine Wl.callV (c_laws_eqByteS (A := none) (n := 0) (cp := 0) (c := (fun _ => 0)) (B := some ⟨b35_30, 0, none⟩) (cq := c35_30) (fun h => absurd h (by decide)) ((st.rdA (i := 1) (n := 0) rfl (app_all (arrU_len _))).sl) (by first | assumption | omega)) rfl ?_
      intro w34 hbel
      replace st := st.call hbel
      clear hbel
      refine Wl.pure (PR.not_ rfl) ?_
      refine Wl.pure (PR.moveB rfl) ?_
      refine Wl.on rfl rfl ?_
      refine Wl.pure (PR.moveI rfl) ?_
      refine Wl.on rfl rfl ?_
      refine Wl.pure (PR.moveI rfl) ?_
      refine Wl.on rfl rfl ?_
      refine Wl.pure (PR.neqS (a := ((pcC s p a b n y c z t : Nat) : Int)) rfl rfl) ?_
      refine Wl.pure (PR.pickFB rfl rfl) ?_
      refine Wl.nil ?_
      refine tn ?_
      refine Wc.condF rfl ?_
      refine Wc.skip ?_
      refine tn ?_
      refine Wc.seq ?_
      refine Wc.seq ?_
      refine Wc.region rfl ?_
      refine Wl.pure (PR.moveL rfl) ?_
      refine Wl.pure (PR.moveL rfl) ?_
      refine Wl.callS st (c_laws_toLayerS (A := A) (n := n) (cp := cp) (p := y) (c := c) (hRL.st st) hc (by first | assumption | omega)) rfl ?_
      clear st
      intro b61 w35 st
      refine Wl.callV (c_laws_eqLayerS (A := some ⟨b39, 0, none⟩) (n := n) (cp := n) (p := y) (c := c) (B := some ⟨b61, 0, none⟩) (cq := n) ((st.rdA (i := 1) (n := (n * 65)) rfl (all_sub (recV_len (s := 65) (layS_row _ _) _))).sl) ((st.rdA (i := 0) (n := (n * 65)) rfl (all_sub (recV_len (s := 65) (layS_row _ _) _))).sl) (by first | assumption | omega)) rfl ?_
      intro w36 hbel
      replace st := st.call hbel
      clear hbel
      refine Wl.pure (PR.not_ rfl) ?_
      refine Wl.nil ?_
      refine tn ?_
      refine Wc.condF rfl ?_
      refine Wc.skip ?_
      refine tn ?_
      refine Wc.seq ?_
      refine Wc.region rfl ?_
      refine Wl.pure (PR.assI rfl) ?_
      refine Wl.nil ?_
      refine tn ?_
      refine Wc.seq ?_
      refine Wc.region rfl ?_
      refine Wl.pure (PR.moveL rfl) ?_
      refine Wl.pure (PR.moveI rfl) ?_
      replace st : St [] w w36 [(b61, layS n y c, 49), (b39, layS n y c ++ [], 49), (b35_30, arrU .u8 0 (fun _ => 0) ++ sp35_30, 5), (b31, layS n y c, 49), (b5, schV (s) (p) (a) (b), 25)] := st.nilat (i := 1) rfl
      refine Wl.callXE [1] st (c_laws_markLayerS (ba := b39) (n := n) (cp := n) (p := y) (c := c) (sp := []) (z := 1) (by first | assumption | omega) (by first | assumption | omega) (st.lend (L' := [(b39, layS n y c ++ [], 49)]) [1] (by decide) rfl)) rfl rfl ?_
      clear st
      rintro ⟨p__38, c__39⟩ _ w37 st
      try dsimp only at st 
      replace st : St [] w w37 [(b39, layS n p__38 c__39 ++ [], 49), (b61, layS n y c, 49), (b35_30, arrU .u8 0 (fun _ => 0) ++ sp35_30, 5), (b31, layS n y c, 49), (b5, schV (s) (p) (a) (b), 25)] := st
      refine Wl.pure (PR.assI rfl) ?_
      refine Wl.nil ?_
      refine tn ?_
      refine Wc.seq ?_
      refine Wc.seq ?_
      refine Wc.region rfl ?_
      refine Wl.pure (PR.moveI rfl) ?_
      refine Wl.pure (PR.lss (a := (((1 + 65 * n) : Nat) : Int)) (b := 0) rfl rfl) ?_
      refine Wl.pure (PR.moveB rfl) ?_
      refine Wl.splitF (q := (((1 + 65 * n) : Nat) : Int) < 0) rfl rfl (fun h40 => ?_) (fun h40 => ?_)
      · refine Wl.pure (PR.moveL rfl) ?_
        refine Wl.on rfl rfl ?_
        refine Wl.pure (PR.moveL rfl) ?_
        refine Wl.on rfl rfl ?_
        refine Wl.callV (c_laws_eqByteS (A := none) (n := 0) (cp := 0) (c := (fun _ => 0)) (B := some ⟨b35_30, 0, none⟩) (cq := c35_30) (fun h => absurd h (by decide)) ((st.rdA (i := 2) (n := 0) rfl (app_all (arrU_len _))).sl) (by first | assumption | omega)) rfl ?_
        intro w41 hbel
        replace st := st.call hbel
        clear hbel
        refine Wl.on rfl rfl ?_
        refine Wl.pure (PR.not_ rfl) ?_
        refine Wl.pure (PR.pickFB rfl rfl) ?_
        refine Wl.pure (PR.moveB rfl) ?_
        refine Wl.on rfl rfl ?_
        refine Wl.pure (PR.moveI rfl) ?_
        refine Wl.on rfl rfl ?_
        refine Wl.pure (PR.moveI rfl) ?_
        refine Wl.on rfl rfl ?_
        refine Wl.pure (PR.neqS (a := ((pcC s p a b n y c z t : Nat) : Int)) rfl rfl) ?_
        refine Wl.pure (PR.pickFB rfl rfl) ?_
        refine Wl.nil ?_
        refine tn ?_
        refine Wc.condF rfl ?_
        refine Wc.skip ?_
        refine tn ?_
        refine Wc.seq ?_
        refine Wc.region rfl ?_
        refine Wl.pure (PR.assI rfl) ?_
        refine Wl.nil ?_
        refine tn ?_
        refine Wc.seq ?_
        refine Wc.region rfl ?_
        refine Wl.pure (PR.moveL rfl) ?_
        refine Wl.pure (PR.moveI rfl) ?_
        refine Wl.callV (c_markByteS0 (A := none) (cp := 0) (z := 1)) rfl ?_
        intro w42 hbel
        replace st := st.call hbel
        clear hbel
        refine Wl.pure (PR.assI rfl) ?_
        refine Wl.nil ?_
        refine tn ?_
        refine Wc.seq ?_
        refine Wc.region rfl ?_
        refine Wl.pure (PR.assI rfl) ?_
        refine Wl.nil ?_
        refine tn ?_
        refine Wc.seq ?_
        refine Wc.region rfl ?_
        refine Wl.pure (PR.moveL rfl) ?_
        refine Wl.pure (PR.moveI rfl) ?_
        refine Wl.callV (c_laws_heldByteS (A := none) (n := 0) (cp := 0) (c := (fun _ => 0)) (z := 1) (fun h => absurd h (by decide)) (by first | assumption | omega) (fun u hu => by first | rfl | omega)) rfl ?_
        intro w43 hbel
        replace st := st.call hbel
        clear hbel
        refine Wl.pure (PR.assI rfl) ?_
        refine Wl.nil ?_
        refine tn ?_
        refine Wc.seq ?_
        refine Wc.seq ?_
        refine Wc.region rfl ?_
        refine Wl.pure (PR.moveI rfl) ?_
        refine Wl.pure (PR.lss (a := (((1 + 0) : Nat) : Int)) (b := 0) rfl rfl) ?_
        refine Wl.nil ?_
        refine tn ?_
        refine Wc.condD (p := (((1 + 0) : Nat) : Int) < 0) rfl (fun h44 => ?_) (fun h44 => ?_)
        · refine Wc.seq ?_
          refine Wc.region rfl ?_
          refine Wl.pure (PR.assB rfl) ?_
          refine Wl.nil ?_
          refine tn ?_
          refine Wc.ret ?_
          refine tr ?_
          refine postL.tmp rfl rfl ?_
          refine RetV.of ?_ st.below
          refine congrArg Value.bool ?_
          first | rfl | (exfalso; omega) | (simp only [*, decide_true, decide_false, Bool.not_true, Bool.not_false]; done) | (simp; omega) | (rw [Bool.eq_iff_iff]; simp; omega) | simp_all
        · refine Wc.skip ?_
          refine tn ?_
          refine Wc.seq ?_
          refine Wc.seq ?_
          refine Wc.region rfl ?_
          refine Wl.pure (PR.moveI rfl) ?_
          refine Wl.pure (PR.moveI rfl) ?_
          refine Wl.pure (PR.neq (a := (((1 + 0) : Nat) : Int)) (b := 1) rfl rfl) ?_
          refine Wl.nil ?_
          refine tn ?_
          refine Wc.condN (p := (((1 + 0) : Nat) : Int) = 1) rfl (fun h45 => ?_) (fun h45 => ?_)
          · refine Wc.seq ?_
            refine Wc.region rfl ?_
            refine Wl.pure (PR.assB rfl) ?_
            refine Wl.nil ?_
            refine tn ?_
            refine Wc.ret ?_
            refine tr ?_
            refine postL.tmp rfl rfl ?_
            refine RetV.of ?_ st.below
            refine congrArg Value.bool ?_
            first | rfl | (exfalso; omega) | (simp only [*, decide_true, decide_false, Bool.not_true, Bool.not_false]; done) | (simp; omega) | (rw [Bool.eq_iff_iff]; simp; omega) | simp_all
          · refine Wc.skip ?_
            refine tn ?_
            refine Wc.seq ?_
            refine Wc.region rfl ?_
            refine Wl.loadA (i := 4) st tA_25 rfl rfl (all_sub schV_len) schV_len ?_
            refine Wl.callV (c_laws_toScheme (s := s) (p := p) (a := a) (b := b) ha hb) rfl ?_
            intro w46 hbel
            replace st := st.call hbel
            clear hbel
            refine Wl.pure (PR.moveL rfl) ?_
            refine Wl.callS st (c_laws_toLayerS (A := A) (n := n) (cp := cp) (p := y) (c := c) (hRL.st st) hc (by first | assumption | omega)) rfl ?_
            clear st
            intro b95 w47 st
            refine Wl.pure (PR.moveI rfl) ?_
            refine Wl.pure (PR.moveB rfl) ?_
            refine Wl.pure (PR.moveI rfl) ?_
            refine Wl.callV (c_impl_PossibleCells_f (s := s) (p := p) (a := a) (b := b) (A := some ⟨b95, 0, none⟩) (n := n) (cp := n) (y := y) (c := c) (z := z) (q := (q)) (t := t) (by first | assumption | omega) (by first | assumption | omega) ha hb ((st.rdA (i := 0) (n := (n * 65)) rfl (all_sub (recV_len (s := 65) (layS_row _ _) _))).sl) hg hc (by first | assumption | omega) (by first | assumption | omega)) rfl ?_
            intro w48 hbel
            replace st := st.call hbel
            clear hbel
            refine Wl.pure (PR.moveV (.tuple #[.slice (none) (0) (0), .int .i64 (((pcC s p a b n y c z t : Nat) : Int))]) rfl) ?_
            refine Wl.pure (PR.extr (i := 0) (vs := [.slice (none) (0) (0), .int .i64 (((pcC s p a b n y c z t : Nat) : Int))]) rfl rfl) ?_
            refine Wl.pure (PR.extr (i := 1) (vs := [.slice (none) (0) (0), .int .i64 (((pcC s p a b n y c z t : Nat) : Int))]) rfl rfl) ?_
            refine Wl.pure (PR.assL rfl) ?_
            refine Wl.pure (PR.assI rfl) ?_
            refine Wl.nil ?_
            refine tn ?_
            refine Wc.seq ?_
            refine Wc.seq ?_
            refine Wc.region rfl ?_
            refine Wl.pure (PR.moveL rfl) ?_
            refine Wl.pure (PR.moveL rfl) ?_
            refine Wl.callV (c_laws_eqByteS (A := none) (n := 0) (cp := 0) (c := (fun _ => 0)) (B := some ⟨b35_30, 0, none⟩) (cq := c35_30) (fun h => absurd h (by decide)) ((st.rdA (i := 3) (n := 0) rfl (app_all (arrU_len _))).sl) (by first | assumption | omega)) rfl ?_
            intro w49 hbel
            replace st := st.call hbel
            clear hbel
            refine Wl.pure (PR.not_ rfl) ?_
            refine Wl.pure (PR.moveB rfl) ?_
            refine Wl.on rfl rfl ?_
            refine Wl.pure (PR.moveI rfl) ?_
            refine Wl.on rfl rfl ?_
            refine Wl.pure (PR.moveI rfl) ?_
            refine Wl.on rfl rfl ?_
            refine Wl.pure (PR.neqS (a := ((pcC s p a b n y c z t : Nat) : Int)) rfl rfl) ?_
            refine Wl.pure (PR.pickFB rfl rfl) ?_
            refine Wl.nil ?_
            refine tn ?_
            refine Wc.condF rfl ?_
            refine Wc.skip ?_
            refine tn ?_
            refine Wc.seq ?_
            refine Wc.region rfl ?_
            refine Wl.pure (PR.assI rfl) ?_
            refine Wl.nil ?_
            refine tn ?_
            refine Wc.seq ?_
            refine Wc.region rfl ?_
            refine Wl.pure (PR.moveL rfl) ?_
            refine Wl.pure (PR.moveI rfl) ?_
            refine Wl.callV (c_laws_heldByteS (A := none) (n := 0) (cp := 0) (c := (fun _ => 0)) (z := 1) (fun h => absurd h (by decide)) (by first | assumption | omega) (fun u hu => by first | rfl | omega)) rfl ?_
            intro w50 hbel
            replace st := st.call hbel
            clear hbel
            refine Wl.pure (PR.assI rfl) ?_
            refine Wl.nil ?_
            refine tn ?_
            refine Wc.seq ?_
            refine Wc.seq ?_
            refine Wc.region rfl ?_
            refine Wl.pure (PR.moveI rfl) ?_
            refine Wl.pure (PR.lss (a := (((1 + 0) : Nat) : Int)) (b := 0) rfl rfl) ?_
            refine Wl.nil ?_
            refine tn ?_
            refine Wc.condD (p := (((1 + 0) : Nat) : Int) < 0) rfl (fun h51 => ?_) (fun h51 => ?_)
            · refine Wc.seq ?_
              refine Wc.region rfl ?_
              refine Wl.pure (PR.assB rfl) ?_
              refine Wl.nil ?_
              refine tn ?_
              refine Wc.ret ?_
              refine tr ?_
              refine postL.tmp rfl rfl ?_
              refine RetV.of ?_ st.below
              refine congrArg Value.bool ?_
              first | rfl | (exfalso; omega) | (simp only [*, decide_true, decide_false, Bool.not_true, Bool.not_false]; done) | (simp; omega) | (rw [Bool.eq_iff_iff]; simp; omega) | simp_all
            · refine Wc.skip ?_
              refine tn ?_
              refine Wc.seq ?_
              refine Wc.seq ?_
              refine Wc.region rfl ?_
              refine Wl.pure (PR.moveI rfl) ?_
              refine Wl.pure (PR.moveI rfl) ?_
              refine Wl.pure (PR.neq (a := (((1 + 0) : Nat) : Int)) (b := 1) rfl rfl) ?_
              refine Wl.nil ?_
              refine tn ?_
              refine Wc.condN (p := (((1 + 0) : Nat) : Int) = 1) rfl (fun h52 => ?_) (fun h52 => ?_)
              · refine Wc.seq ?_
                refine Wc.region rfl ?_
                refine Wl.pure (PR.assB rfl) ?_
                refine Wl.nil ?_
                refine tn ?_
                refine Wc.ret ?_
                refine tr ?_
                refine postL.tmp rfl rfl ?_
                refine RetV.of ?_ st.below
                refine congrArg Value.bool ?_
                first | rfl | (exfalso; omega) | (simp only [*, decide_true, decide_false, Bool.not_true, Bool.not_false]; done) | (simp; omega) | (rw [Bool.eq_iff_iff]; simp; omega) | simp_all
              · refine Wc.skip ?_
                refine tn ?_
                refine Wc.seq ?_
                refine Wc.region rfl ?_
                refine Wl.pure (PR.assB rfl) ?_
                refine Wl.nil ?_
                refine tn ?_
                refine Wc.ret ?_
                refine postL.tmp rfl rfl ?_
                exact RetV.of rfl st.below
      · refine Wl.off rfl rfl rfl ?_
        refine Wl.off rfl rfl rfl ?_
        refine Wl.off rfl rfl rfl ?_
        refine Wl.pure (PR.pickTB rfl rfl) ?_
        refine Wl.pure (PR.moveB rfl) ?_
        refine Wl.off rfl rfl rfl ?_
        refine Wl.off rfl rfl rfl ?_
        refine Wl.off rfl rfl rfl ?_
        refine Wl.pure (PR.pickTB rfl rfl) ?_
        refine Wl.nil ?_
        refine tn ?_
        refine Wc.condT rfl ?_
        refine Wc.seq ?_
        refine Wc.region rfl ?_
        refine Wl.pure (PR.assB rfl) ?_
        refine Wl.nil ?_
        refine tn ?_
        refine Wc.ret ?_
        refine tr ?_
        refine postL.tmp rfl rfl ?_
        refine RetV.of ?_ st.below
        refine congrArg Value.bool ?_
        first | rfl | (exfalso; omega) | (simp only [*, decide_true, decide_false, Bool.not_true, Bool.not_false]; done) | (simp; omega) | (rw [Bool.eq_iff_iff]; simp; omega) | simp_all

end Go.Proofs.Ytabekcodjcbolaa
