/-
  Contracts of functions, printed by a program of ours.
-/
import Derived.Test.YtabekcodjcbolaaGreatCG3
namespace Go.Proofs.YtabekcodjcbolaaGreat
open Go.RowKit
set_option linter.unusedVariables false
set_option linter.unusedSimpArgs false

set_option maxHeartbeats 400000 in
set_option maxRecDepth 4000 in
theorem c_impl_PossibleCells_t {s : Int} {p : Int} {a : Nat → Nat} {b : Nat → Nat} {A : Option Addr} {n : Nat} {cp : Nat} {y : Nat → Int} {c : Nat → Nat → Nat} {z : Int} {q : Bool} {t : Int} {w : World} (hs : -128 ≤ s ∧ s ≤ 127) (hp : -128 ≤ p ∧ p ≤ 127) (ha : ∀ k, a k < 256) (hb : ∀ k, b k < 256) (hRL : RdS w A n (layS n y c)) (hg : ∀ i, i < n → -128 ≤ y i ∧ y i ≤ 127) (hc : ∀ i k, c i k < 256) (hn : n ≤ 1048576) (hcode : pcC s p a b n y c z t = 0) :
    CE Tryz.prog 14 [.agg (schV (s) (p) (a) (b)).toArray, .slice (A) (n) (cp), .int .i64 (z), .bool (q), .int .i64 (t)] w (RetXG w [] 5 1 ((flN (possQ ((s).toNat) ((p).toNat) a b n c ((z).toNat) q ((t).toNat)) (1 <<< ((p).toNat)))) (arrU .u8 (flN (possQ ((s).toNat) ((p).toNat) a b n c ((z).toNat) q ((t).toNat)) (1 <<< ((p).toNat))) (flA (possQ ((s).toNat) ((p).toNat) a b n c ((z).toNat) q ((t).toNat)) (1 <<< ((p).toNat)))) (fun b_ c_ => .tuple #[.slice (some ⟨b_, 0, none⟩) ((flN (possQ ((s).toNat) ((p).toNat) a b n c ((z).toNat) q ((t).toNat)) (1 <<< ((p).toNat)))) (c_), .int .i64 (0)]) []) := by
  refine CE.enter 36 [(0, .agg (schV (s) (p) (a) (b)).toArray), (1, .slice (A) (n) (cp)), (2, .int .i64 (z)), (3, .bool (q)), (4, .int .i64 (t))] en_14 Tryz.func14 rfl rfl (Nat.le_of_ble_eq_true rfl) rfl ?_
  have st := St.start w
  refine Wc.seq ?_
  refine Wc.region rfl ?_
  refine Wl.boxA st rfl ?_
  clear st
  intro b5 w1 st
  refine Wl.pure (PR.assL rfl) ?_
  refine Wl.pure (PR.assI rfl) ?_
  refine Wl.nil ?_
  refine tn ?_
  refine Wc.seq ?_
  refine Wc.region rfl ?_
  refine Wl.loadA (i := 0) st tA_27 rfl rfl (all_sub schV_len) schV_len ?_
  refine Wl.pure (PR.moveL rfl) ?_
  refine Wl.pure (PR.moveI rfl) ?_
  refine Wl.callV (c_impl_cheatCode (s := s) (p := p) (a := a) (b := b) (A := A) (n := n) (cp := cp) (y := y) (c := c) (z := z) (by first | assumption | omega) (by first | assumption | omega) ha hb (hRL.st st) hg hc (by first | assumption | omega)) rfl ?_
  intro w2 hbel
  replace st := st.call hbel
  clear hbel
  refine Wl.pure (PR.assI rfl) ?_
  refine Wl.nil ?_
  refine tn ?_
  refine Wc.seq ?_
  refine Wc.seq ?_
  refine Wc.region rfl ?_
  refine Wl.pure (PR.moveI rfl) ?_
  refine Wl.pure (PR.neq (a := ((shC s p a b n y c z : Nat) : Int)) (b := 0) rfl rfl) ?_
  refine Wl.pure (PR.moveI rfl) ?_
  refine Wl.pure (PR.build (ps := [(0, .bool (!decide (((shC s p a b n y c z : Nat) : Int) = 0))), (1, .int .i64 (((shC s p a b n y c z : Nat) : Int)))]) (cs := [.bool (!decide (((shC s p a b n y c z : Nat) : Int) = 0)), .int .i64 (((shC s p a b n y c z : Nat) : Int))]) tB_79 rfl rfl) ?_
  refine Wl.pure (PR.moveI rfl) ?_
  refine Wl.callV (c_impl_within (n := t) (lo := 0) (hi := 63)) rfl ?_
  intro w3 hbel
  replace st := st.call hbel
  clear hbel
  refine Wl.pure (PR.not_ rfl) ?_
  refine Wl.pure (PR.build (ps := [(0, .bool (!decide (0 ≤ t ∧ t ≤ 63))), (1, .int .i64 (2))]) (cs := [.bool (!decide (0 ≤ t ∧ t ≤ 63)), .int .i64 (2)]) tB_79 rfl rfl) ?_
  refine Wl.buildSlice (ps := [(0, .agg ([.bool (!decide (((shC s p a b n y c z : Nat) : Int) = 0)), .int .i64 (((shC s p a b n y c z : Nat) : Int))]).toArray), (1, .agg ([.bool (!decide (0 ≤ t ∧ t ≤ 63)), .int .i64 (2)]).toArray)]) (cs := [.bool (!decide (((shC s p a b n y c z : Nat) : Int) = 0)), .int .i64 (((shC s p a b n y c z : Nat) : Int)), .bool (!decide (0 ≤ t ∧ t ≤ 63)), .int .i64 (2)]) st tS_107 tZ_79 rfl rfl rfl ?_
  clear st
  intro b25 w4 st
  refine Wl.callV (c_impl_firstOf (bk := b25) (o := 0) (n := 2) (cp := 2) (c := (fun i => [(!decide (((shC s p a b n y c z : Nat) : Int) = 0)), (!decide (0 ≤ t ∧ t ≤ 63))].getD i false)) (e := (fun i => [((shC s p a b n y c z : Nat) : Int), 2].getD i 0)) (st.rdA (i := 0) (n := 4) rfl rfl) (by first | assumption | omega)) rfl ?_
  intro w5 hbel
  replace st := st.call hbel
  clear hbel
  refine Wl.pure (PR.assI rfl) ?_
  refine Wl.nil ?_
  refine tn ?_
  refine Wc.seq ?_
  have hq9 : firstZ 2 (fun i => [(!decide (((shC s p a b n y c z : Nat) : Int) = 0)), (!decide (0 ≤ t ∧ t ≤ 63))].getD i false) (fun i => [((shC s p a b n y c z : Nat) : Int), 2].getD i 0) = ((pcC s p a b n y c z t : Nat) : Int) := first_pc rfl rfl
  refine Wc.region rfl ?_
  refine Wl.pure (PR.moveI rfl) ?_
  refine Wl.pure (PR.neq (a := firstZ 2 (fun i => [(!decide (((shC s p a b n y c z : Nat) : Int) = 0)), (!decide (0 ≤ t ∧ t ≤ 63))].getD i false) (fun i => [((shC s p a b n y c z : Nat) : Int), 2].getD i 0)) (b := 0) rfl rfl) ?_
  refine Wl.nil ?_
  refine tn ?_
  refine Wc.condN (p := firstZ 2 (fun i => [(!decide (((shC s p a b n y c z : Nat) : Int) = 0)), (!decide (0 ≤ t ∧ t ≤ 63))].getD i false) (fun i => [((shC s p a b n y c z : Nat) : Int), 2].getD i 0) = 0) rfl (fun h6 => ?_) (fun h6 => ?_)
  · refine Wc.seq ?_
    exfalso
    omega
  · refine Wc.skip ?_
    refine tn ?_
    refine Wc.seq ?_
    obtain ⟨hs9, hti⟩ := pcC_spec (s := s) (p := p) (a := a) (b := b) (n := n) (g := y) (c := c) (i := z) (k := t) hcode
    obtain ⟨hb9, hzi⟩ := shC_spec (s := s) (p := p) (a := a) (b := b) (n := n) (g := y) (c := c) (i := z) (by omega)
    have hcode0 : bothC s p a b n y c = 0 := hb9
    obtain ⟨hok, hlay, hns⟩ := bothC_spec hcode0
    have hall := bothC_all hcode0
    obtain ⟨hs1, hp1, _⟩ := schOk_spec hok
    obtain ⟨d_, rfl⟩ : ∃ d_ : Nat, s = ((d_ : Nat) : Int) := ⟨s.toNat, by omega⟩
    obtain ⟨e_, rfl⟩ : ∃ e_ : Nat, p = ((e_ : Nat) : Int) := ⟨p.toNat, by omega⟩
    obtain ⟨_, hza, hzb⟩ := sch_zero hok
    have hns9 : n = d_ := by omega
    have hy0 : y 0 = ((e_ : Nat) : Int) := hall 0 (by omega)
    have hn6 : 1 ≤ n ∧ n ≤ 6 := by omega
    obtain ⟨i_, rfl⟩ : ∃ i_ : Nat, z = ((i_ : Nat) : Int) := ⟨z.toNat, by omega⟩
    have hi0 : i_ < n := by omega
    obtain ⟨k_, rfl⟩ : ∃ k_ : Nat, t = ((k_ : Nat) : Int) := ⟨t.toNat, by omega⟩
    refine Wc.region rfl ?_
    refine Wl.loadA (i := 1) st tA_27 rfl rfl (all_sub schV_len) schV_len ?_
    refine Wl.pure (PR.moveL rfl) ?_
    refine Wl.pure (PR.moveI rfl) ?_
    refine Wl.pure (PR.moveB rfl) ?_
    refine Wl.pure (PR.moveI rfl) ?_
    refine Wl.callXG [] st (c_impl_Scheme_possible (s := d_) (p := e_) (a := a) (b := b) (A := A) (n := n) (cp := cp) (y := y) (c := c) (i := i_) (q := (q)) (k := k_) (by first | assumption | omega) ha hb (by first | assumption | omega) (by first | assumption | omega) (by first | assumption | omega) (hRL.st st) hg hc (by first | assumption | omega) (by first | assumption | omega) (by first | assumption | omega) (by first | assumption | omega)) rfl rfl ?_
    clear st
    intro b35 c35 sp35 w7 hc35 hs35 st
    replace st : St [] w w7 [(b35, arrU .u8 (flN (possQ d_ e_ a b n c i_ (q) k_) (1 <<< e_)) (flA (possQ d_ e_ a b n c i_ (q) k_) (1 <<< e_)) ++ sp35, 5), (b25, [.bool (!decide (((shC ((d_ : Nat) : Int) ((e_ : Nat) : Int) a b n y c ((i_ : Nat) : Int) : Nat) : Int) = 0)), .int .i64 (((shC ((d_ : Nat) : Int) ((e_ : Nat) : Int) a b n y c ((i_ : Nat) : Int) : Nat) : Int)), .bool (!decide (0 ≤ ((k_ : Nat) : Int) ∧ ((k_ : Nat) : Int) ≤ 63)), .int .i64 (2)], 79), (b5, schV ((d_ : Nat) : Int) ((e_ : Nat) : Int) (a) (b), 27)] := st
    refine Wl.pure (PR.assL rfl) ?_
    refine Wl.pure (PR.assI rfl) ?_
    refine Wl.nil ?_
    refine tn ?_
    refine Wc.ret ?_
    refine postL.tmp2 rfl rfl rfl ?_
    replace st : St [] w w7 [(b35, arrU .u8 (flN (possQ d_ e_ a b n c i_ (q) k_) (1 <<< e_)) (flA (possQ d_ e_ a b n c i_ (q) k_) (1 <<< e_)) ++ sp35, 5)] := st.pick [0] (by decide) rfl
    exact ⟨b35, c35, sp35, hc35, hs35, rfl, st⟩

set_option maxHeartbeats 400000 in
set_option maxRecDepth 4000 in
theorem c_impl_PossibleCells_f {s : Int} {p : Int} {a : Nat → Nat} {b : Nat → Nat} {A : Option Addr} {n : Nat} {cp : Nat} {y : Nat → Int} {c : Nat → Nat → Nat} {z : Int} {q : Bool} {t : Int} {w : World} (hs : -128 ≤ s ∧ s ≤ 127) (hp : -128 ≤ p ∧ p ≤ 127) (ha : ∀ k, a k < 256) (hb : ∀ k, b k < 256) (hRL : RdS w A n (layS n y c)) (hg : ∀ i, i < n → -128 ≤ y i ∧ y i ≤ 127) (hc : ∀ i k, c i k < 256) (hn : n ≤ 1048576) (hcode : ¬ pcC s p a b n y c z t = 0) :
    CE Tryz.prog 14 [.agg (schV (s) (p) (a) (b)).toArray, .slice (A) (n) (cp), .int .i64 (z), .bool (q), .int .i64 (t)] w (RetV w (.tuple #[.slice (none) (0) (0), .int .i64 (((pcC s p a b n y c z t : Nat) : Int))])) := by
  refine CE.enter 36 [(0, .agg (schV (s) (p) (a) (b)).toArray), (1, .slice (A) (n) (cp)), (2, .int .i64 (z)), (3, .bool (q)), (4, .int .i64 (t))] en_14 Tryz.func14 rfl rfl (Nat.le_of_ble_eq_true rfl) rfl ?_
  have st := St.start w
  refine Wc.seq ?_
  refine Wc.region rfl ?_
  refine Wl.boxA st rfl ?_
  clear st
  intro b5 w1 st
  refine Wl.pure (PR.assL rfl) ?_
  refine Wl.pure (PR.assI rfl) ?_
  refine Wl.nil ?_
  refine tn ?_
  refine Wc.seq ?_
  refine Wc.region rfl ?_
  refine Wl.loadA (i := 0) st tA_27 rfl rfl (all_sub schV_len) schV_len ?_
  refine Wl.pure (PR.moveL rfl) ?_
  refine Wl.pure (PR.moveI rfl) ?_
  refine Wl.callV (c_impl_cheatCode (s := s) (p := p) (a := a) (b := b) (A := A) (n := n) (cp := cp) (y := y) (c := c) (z := z) (by first | assumption | omega) (by first | assumption | omega) ha hb (hRL.st st) hg hc (by first | assumption | omega)) rfl ?_
  intro w2 hbel
  replace st := st.call hbel
  clear hbel
  refine Wl.pure (PR.assI rfl) ?_
  refine Wl.nil ?_
  refine tn ?_
  refine Wc.seq ?_
  refine Wc.seq ?_
  refine Wc.region rfl ?_
  refine Wl.pure (PR.moveI rfl) ?_
  refine Wl.pure (PR.neq (a := ((shC s p a b n y c z : Nat) : Int)) (b := 0) rfl rfl) ?_
  refine Wl.pure (PR.moveI rfl) ?_
  refine Wl.pure (PR.build (ps := [(0, .bool (!decide (((shC s p a b n y c z : Nat) : Int) = 0))), (1, .int .i64 (((shC s p a b n y c z : Nat) : Int)))]) (cs := [.bool (!decide (((shC s p a b n y c z : Nat) : Int) = 0)), .int .i64 (((shC s p a b n y c z : Nat) : Int))]) tB_79 rfl rfl) ?_
  refine Wl.pure (PR.moveI rfl) ?_
  refine Wl.callV (c_impl_within (n := t) (lo := 0) (hi := 63)) rfl ?_
  intro w3 hbel
  replace st := st.call hbel
  clear hbel
  refine Wl.pure (PR.not_ rfl) ?_
  refine Wl.pure (PR.build (ps := [(0, .bool (!decide (0 ≤ t ∧ t ≤ 63))), (1, .int .i64 (2))]) (cs := [.bool (!decide (0 ≤ t ∧ t ≤ 63)), .int .i64 (2)]) tB_79 rfl rfl) ?_
  refine Wl.buildSlice (ps := [(0, .agg ([.bool (!decide (((shC s p a b n y c z : Nat) : Int) = 0)), .int .i64 (((shC s p a b n y c z : Nat) : Int))]).toArray), (1, .agg ([.bool (!decide (0 ≤ t ∧ t ≤ 63)), .int .i64 (2)]).toArray)]) (cs := [.bool (!decide (((shC s p a b n y c z : Nat) : Int) = 0)), .int .i64 (((shC s p a b n y c z : Nat) : Int)), .bool (!decide (0 ≤ t ∧ t ≤ 63)), .int .i64 (2)]) st tS_107 tZ_79 rfl rfl rfl ?_
  clear st
  intro b25 w4 st
  refine Wl.callV (c_impl_firstOf (bk := b25) (o := 0) (n := 2) (cp := 2) (c := (fun i => [(!decide (((shC s p a b n y c z : Nat) : Int) = 0)), (!decide (0 ≤ t ∧ t ≤ 63))].getD i false)) (e := (fun i => [((shC s p a b n y c z : Nat) : Int), 2].getD i 0)) (st.rdA (i := 0) (n := 4) rfl rfl) (by first | assumption | omega)) rfl ?_
  intro w5 hbel
  replace st := st.call hbel
  clear hbel
  refine Wl.pure (PR.assI rfl) ?_
  refine Wl.nil ?_
  refine tn ?_
  refine Wc.seq ?_
  have hq9 : firstZ 2 (fun i => [(!decide (((shC s p a b n y c z : Nat) : Int) = 0)), (!decide (0 ≤ t ∧ t ≤ 63))].getD i false) (fun i => [((shC s p a b n y c z : Nat) : Int), 2].getD i 0) = ((pcC s p a b n y c z t : Nat) : Int) := first_pc rfl rfl
  refine Wc.region rfl ?_
  refine Wl.pure (PR.moveI rfl) ?_
  refine Wl.pure (PR.neq (a := firstZ 2 (fun i => [(!decide (((shC s p a b n y c z : Nat) : Int) = 0)), (!decide (0 ≤ t ∧ t ≤ 63))].getD i false) (fun i => [((shC s p a b n y c z : Nat) : Int), 2].getD i 0)) (b := 0) rfl rfl) ?_
  refine Wl.nil ?_
  refine tn ?_
  refine Wc.condN (p := firstZ 2 (fun i => [(!decide (((shC s p a b n y c z : Nat) : Int) = 0)), (!decide (0 ≤ t ∧ t ≤ 63))].getD i false) (fun i => [((shC s p a b n y c z : Nat) : Int), 2].getD i 0) = 0) rfl (fun h6 => ?_) (fun h6 => ?_)
  · refine Wc.seq ?_
    refine Wc.region rfl ?_
    refine Wl.pure (PR.moveI rfl) ?_
    refine Wl.pure (PR.assL rfl) ?_
    refine Wl.pure (PR.assI rfl) ?_
    refine Wl.nil ?_
    refine tn ?_
    refine Wc.ret ?_
    refine tr ?_
    refine postL.tmp2 rfl rfl rfl ?_
    refine RetV.of ?_ st.below
    exact tup_2 rfl (congrArg (Value.int .i64) hq9)
  · refine Wc.skip ?_
    refine tn ?_
    refine Wc.seq ?_
    exfalso
    omega

set_option maxHeartbeats 400000 in
set_option maxRecDepth 4000 in
theorem c_spec_PossibleCells_t {s : Int} {p : Int} {a : Nat → Nat} {b : Nat → Nat} {A : Option Addr} {n : Nat} {cp : Nat} {y : Nat → Int} {c : Nat → Nat → Nat} {z : Int} {q : Bool} {t : Int} {w : World} (hs : -128 ≤ s ∧ s ≤ 127) (hp : -128 ≤ p ∧ p ≤ 127) (ha : ∀ k, a k < 256) (hb : ∀ k, b k < 256) (hRL : RdS w A n (layS n y c)) (hg : ∀ i, i < n → -128 ≤ y i ∧ y i ≤ 127) (hc : ∀ i k, c i k < 256) (hn : n ≤ 1048576) (hcode : pcC s p a b n y c z t = 0) :
    CE Tryz.prog 16 [.agg (schV (s) (p) (a) (b)).toArray, .slice (A) (n) (cp), .int .i64 (z), .bool (q), .int .i64 (t)] w (RetXG w [] 5 1 ((flN (possQ ((s).toNat) ((p).toNat) a b n c ((z).toNat) q ((t).toNat)) (1 <<< ((p).toNat)))) (arrU .u8 (flN (possQ ((s).toNat) ((p).toNat) a b n c ((z).toNat) q ((t).toNat)) (1 <<< ((p).toNat))) (flA (possQ ((s).toNat) ((p).toNat) a b n c ((z).toNat) q ((t).toNat)) (1 <<< ((p).toNat)))) (fun b_ c_ => .tuple #[.slice (some ⟨b_, 0, none⟩) ((flN (possQ ((s).toNat) ((p).toNat) a b n c ((z).toNat) q ((t).toNat)) (1 <<< ((p).toNat)))) (c_), .int .i64 (0)]) []) := by
  refine CE.enter 32 [(0, .agg (schV (s) (p) (a) (b)).toArray), (1, .slice (A) (n) (cp)), (2, .int .i64 (z)), (3, .bool (q)), (4, .int .i64 (t))] en_16 Tryz.func16 rfl rfl (Nat.le_of_ble_eq_true rfl) rfl ?_
  have st := St.start w
  refine Wc.seq ?_
  refine Wc.region rfl ?_
  refine Wl.boxA st rfl ?_
  clear st
  intro b5 w1 st
  refine Wl.pure (PR.assL rfl) ?_
  refine Wl.pure (PR.assI rfl) ?_
  refine Wl.nil ?_
  refine tn ?_
  refine Wc.seq ?_
  refine Wc.region rfl ?_
  refine Wl.pure (PR.moveL rfl) ?_
  refine Wl.pure (PR.moveI rfl) ?_
  refine Wl.callV (c_spec_l07Share (bk := b5) (o := 0) (s := s) (p := p) (a := a) (b := b) (A := A) (n := n) (cp := cp) (y := y) (c := c) (z := z) (st.rdA (i := 0) rfl (all_sub schV_len)) (by first | assumption | omega) (by first | assumption | omega) ha hb (hRL.st st) hg hc (by first | assumption | omega)) rfl ?_
  intro w2 hbel
  replace st := st.call hbel
  clear hbel
  refine Wl.pure (PR.assI rfl) ?_
  refine Wl.nil ?_
  refine tn ?_
  refine Wc.seq ?_
  refine Wc.seq ?_
  refine Wc.region rfl ?_
  refine Wl.pure (PR.moveI rfl) ?_
  refine Wl.pure (PR.eql (a := ((shC s p a b n y c z : Nat) : Int)) (b := 0) rfl rfl) ?_
  refine Wl.pure (PR.moveB rfl) ?_
  refine Wl.splitT (q := ((shC s p a b n y c z : Nat) : Int) = 0) rfl rfl (fun h3 => ?_) (fun h3 => ?_)
  · refine Wl.pure (PR.moveI rfl) ?_
    refine Wl.on rfl rfl ?_
    refine Wl.callV (c_spec_l00In (n := t) (lo := 0) (hi := 63)) rfl ?_
    intro w4 hbel
    replace st := st.call hbel
    clear hbel
    refine Wl.on rfl rfl ?_
    refine Wl.pure (PR.not_ rfl) ?_
    refine Wl.pure (PR.pickTB rfl rfl) ?_
    refine Wl.nil ?_
    refine tn ?_
    refine Wc.condN (p := 0 ≤ t ∧ t ≤ 63) rfl (fun h5 => ?_) (fun h5 => ?_)
    · exfalso
      exact absurd (pcC_spec hcode).2 (by assumption)
    · refine Wc.skip ?_
      refine tn ?_
      refine Wc.seq ?_
      refine Wc.seq ?_
      refine Wc.region rfl ?_
      refine Wl.pure (PR.moveI rfl) ?_
      refine Wl.pure (PR.neq (a := ((shC s p a b n y c z : Nat) : Int)) (b := 0) rfl rfl) ?_
      refine Wl.nil ?_
      refine tn ?_
      refine Wc.condN (p := ((shC s p a b n y c z : Nat) : Int) = 0) rfl (fun h6 => ?_) (fun h6 => ?_)
      · refine Wc.seq ?_
        exfalso
        exact absurd (pcC_spec hcode).1 (by omega)
      · refine Wc.skip ?_
        refine tn ?_
        refine Wc.seq ?_
        obtain ⟨hs9, hti⟩ := pcC_spec (s := s) (p := p) (a := a) (b := b) (n := n) (g := y) (c := c) (i := z) (k := t) hcode
        obtain ⟨hb9, hzi⟩ := shC_spec (s := s) (p := p) (a := a) (b := b) (n := n) (g := y) (c := c) (i := z) (by omega)
        have hcode0 : bothC s p a b n y c = 0 := hb9
        obtain ⟨hok, hlay, hns⟩ := bothC_spec hcode0
        have hall := bothC_all hcode0
        obtain ⟨hs1, hp1, _⟩ := schOk_spec hok
        obtain ⟨d_, rfl⟩ : ∃ d_ : Nat, s = ((d_ : Nat) : Int) := ⟨s.toNat, by omega⟩
        obtain ⟨e_, rfl⟩ : ∃ e_ : Nat, p = ((e_ : Nat) : Int) := ⟨p.toNat, by omega⟩
        obtain ⟨_, hza, hzb⟩ := sch_zero hok
        have hns9 : n = d_ := by omega
        have hy0 : y 0 = ((e_ : Nat) : Int) := hall 0 (by omega)
        have hn6 : 1 ≤ n ∧ n ≤ 6 := by omega
        obtain ⟨i_, rfl⟩ : ∃ i_ : Nat, z = ((i_ : Nat) : Int) := ⟨z.toNat, by omega⟩
        have hi0 : i_ < n := by omega
        obtain ⟨k_, rfl⟩ : ∃ k_ : Nat, t = ((k_ : Nat) : Int) := ⟨t.toNat, by omega⟩
        refine Wc.region rfl ?_
        refine Wl.pure (PR.moveL rfl) ?_
        refine Wl.pure (PR.moveI rfl) ?_
        refine Wl.pure (PR.moveB rfl) ?_
        refine Wl.pure (PR.moveI rfl) ?_
        refine Wl.callXG [] st (c_spec_l07Possible (bk := b5) (o := 0) (s := d_) (p := e_) (a := a) (b := b) (A := A) (n := n) (cp := cp) (y := y) (c := c) (i := i_) (q := (q)) (k := k_) (st.rdA (i := 0) rfl (all_sub schV_len)) (by first | assumption | omega) ha hb (by first | assumption | omega) (hRL.st st) hg hc (by first | assumption | omega) (by first | assumption | omega) (by first | assumption | omega) (by first | assumption | omega)) rfl rfl ?_
        clear st
        intro b31 c31 sp31 w7 hc31 hs31 st
        replace st : St [] w w7 [(b31, arrU .u8 (flN (possQ d_ e_ a b n c i_ (q) k_) (1 <<< e_)) (flA (possQ d_ e_ a b n c i_ (q) k_) (1 <<< e_)) ++ sp31, 5), (b5, schV ((d_ : Nat) : Int) ((e_ : Nat) : Int) (a) (b), 27)] := st
        refine Wl.pure (PR.assL rfl) ?_
        refine Wl.pure (PR.assI rfl) ?_
        refine Wl.nil ?_
        refine tn ?_
        refine Wc.ret ?_
        refine postL.tmp2 rfl rfl rfl ?_
        replace st : St [] w w7 [(b31, arrU .u8 (flN (possQ d_ e_ a b n c i_ (q) k_) (1 <<< e_)) (flA (possQ d_ e_ a b n c i_ (q) k_) (1 <<< e_)) ++ sp31, 5)] := st.pick [0] (by decide) rfl
        exact ⟨b31, c31, sp31, hc31, hs31, rfl, st⟩
  · refine Wl.off rfl rfl rfl ?_
    refine Wl.off rfl rfl rfl ?_
    refine Wl.pure (PR.pickFB rfl rfl) ?_
    refine Wl.nil ?_
    refine tn ?_
    refine Wc.condF rfl ?_
    refine Wc.skip ?_
    refine tn ?_
    refine Wc.seq ?_
    refine Wc.seq ?_
    refine Wc.region rfl ?_
    refine Wl.pure (PR.moveI rfl) ?_
    refine Wl.pure (PR.neq (a := ((shC s p a b n y c z : Nat) : Int)) (b := 0) rfl rfl) ?_
    refine Wl.nil ?_
    refine tn ?_
    refine Wc.condN (p := ((shC s p a b n y c z : Nat) : Int) = 0) rfl (fun h8 => ?_) (fun h8 => ?_)
    · refine Wc.seq ?_
      exfalso
      exact absurd (pcC_spec hcode).1 (by omega)
    · refine Wc.skip ?_
      refine tn ?_
      refine Wc.seq ?_
      obtain ⟨hs9, hti⟩ := pcC_spec (s := s) (p := p) (a := a) (b := b) (n := n) (g := y) (c := c) (i := z) (k := t) hcode
      obtain ⟨hb9, hzi⟩ := shC_spec (s := s) (p := p) (a := a) (b := b) (n := n) (g := y) (c := c) (i := z) (by omega)
      have hcode0 : bothC s p a b n y c = 0 := hb9
      obtain ⟨hok, hlay, hns⟩ := bothC_spec hcode0
      have hall := bothC_all hcode0
      obtain ⟨hs1, hp1, _⟩ := schOk_spec hok
      obtain ⟨d_, rfl⟩ : ∃ d_ : Nat, s = ((d_ : Nat) : Int) := ⟨s.toNat, by omega⟩
      obtain ⟨e_, rfl⟩ : ∃ e_ : Nat, p = ((e_ : Nat) : Int) := ⟨p.toNat, by omega⟩
      obtain ⟨_, hza, hzb⟩ := sch_zero hok
      have hns9 : n = d_ := by omega
      have hy0 : y 0 = ((e_ : Nat) : Int) := hall 0 (by omega)
      have hn6 : 1 ≤ n ∧ n ≤ 6 := by omega
      obtain ⟨i_, rfl⟩ : ∃ i_ : Nat, z = ((i_ : Nat) : Int) := ⟨z.toNat, by omega⟩
      have hi0 : i_ < n := by omega
      obtain ⟨k_, rfl⟩ : ∃ k_ : Nat, t = ((k_ : Nat) : Int) := ⟨t.toNat, by omega⟩
      refine Wc.region rfl ?_
      refine Wl.pure (PR.moveL rfl) ?_
      refine Wl.pure (PR.moveI rfl) ?_
      refine Wl.pure (PR.moveB rfl) ?_
      refine Wl.pure (PR.moveI rfl) ?_
      refine Wl.callXG [] st (c_spec_l07Possible (bk := b5) (o := 0) (s := d_) (p := e_) (a := a) (b := b) (A := A) (n := n) (cp := cp) (y := y) (c := c) (i := i_) (q := (q)) (k := k_) (st.rdA (i := 0) rfl (all_sub schV_len)) (by first | assumption | omega) ha hb (by first | assumption | omega) (hRL.st st) hg hc (by first | assumption | omega) (by first | assumption | omega) (by first | assumption | omega) (by first | assumption | omega)) rfl rfl ?_
      clear st
      intro b31_10 c31_10 sp31_10 w9 hc31_10 hs31_10 st
      replace st : St [] w w9 [(b31_10, arrU .u8 (flN (possQ d_ e_ a b n c i_ (q) k_) (1 <<< e_)) (flA (possQ d_ e_ a b n c i_ (q) k_) (1 <<< e_)) ++ sp31_10, 5), (b5, schV ((d_ : Nat) : Int) ((e_ : Nat) : Int) (a) (b), 27)] := st
      refine Wl.pure (PR.assL rfl) ?_
      refine Wl.pure (PR.assI rfl) ?_
      refine Wl.nil ?_
      refine tn ?_
      refine Wc.ret ?_
      refine postL.tmp2 rfl rfl rfl ?_
      replace st : St [] w w9 [(b31_10, arrU .u8 (flN (possQ d_ e_ a b n c i_ (q) k_) (1 <<< e_)) (flA (possQ d_ e_ a b n c i_ (q) k_) (1 <<< e_)) ++ sp31_10, 5)] := st.pick [0] (by decide) rfl
      exact ⟨b31_10, c31_10, sp31_10, hc31_10, hs31_10, rfl, st⟩

set_option maxHeartbeats 400000 in
set_option maxRecDepth 4000 in
theorem c_spec_PossibleCells_f {s : Int} {p : Int} {a : Nat → Nat} {b : Nat → Nat} {A : Option Addr} {n : Nat} {cp : Nat} {y : Nat → Int} {c : Nat → Nat → Nat} {z : Int} {q : Bool} {t : Int} {w : World} (hs : -128 ≤ s ∧ s ≤ 127) (hp : -128 ≤ p ∧ p ≤ 127) (ha : ∀ k, a k < 256) (hb : ∀ k, b k < 256) (hRL : RdS w A n (layS n y c)) (hg : ∀ i, i < n → -128 ≤ y i ∧ y i ≤ 127) (hc : ∀ i k, c i k < 256) (hn : n ≤ 1048576) (hcode : ¬ pcC s p a b n y c z t = 0) :
    CE Tryz.prog 16 [.agg (schV (s) (p) (a) (b)).toArray, .slice (A) (n) (cp), .int .i64 (z), .bool (q), .int .i64 (t)] w (RetXG w [] 5 1 (0) (arrU .u8 0 (fun _ => 0)) (fun b_ c_ => .tuple #[.slice (some ⟨b_, 0, none⟩) (0) (c_), .int .i64 (((pcC s p a b n y c z t : Nat) : Int))]) []) := by
  refine CE.enter 32 [(0, .agg (schV (s) (p) (a) (b)).toArray), (1, .slice (A) (n) (cp)), (2, .int .i64 (z)), (3, .bool (q)), (4, .int .i64 (t))] en_16 Tryz.func16 rfl rfl (Nat.le_of_ble_eq_true rfl) rfl ?_
  have st := St.start w
  refine Wc.seq ?_
  refine Wc.region rfl ?_
  refine Wl.boxA st rfl ?_
  clear st
  intro b5 w1 st
  refine Wl.pure (PR.assL rfl) ?_
  refine Wl.pure (PR.assI rfl) ?_
  refine Wl.nil ?_
  refine tn ?_
  refine Wc.seq ?_
  refine Wc.region rfl ?_
  refine Wl.pure (PR.moveL rfl) ?_
  refine Wl.pure (PR.moveI rfl) ?_
  refine Wl.callV (c_spec_l07Share (bk := b5) (o := 0) (s := s) (p := p) (a := a) (b := b) (A := A) (n := n) (cp := cp) (y := y) (c := c) (z := z) (st.rdA (i := 0) rfl (all_sub schV_len)) (by first | assumption | omega) (by first | assumption | omega) ha hb (hRL.st st) hg hc (by first | assumption | omega)) rfl ?_
  intro w2 hbel
  replace st := st.call hbel
  clear hbel
  refine Wl.pure (PR.assI rfl) ?_
  refine Wl.nil ?_
  refine tn ?_
  refine Wc.seq ?_
  refine Wc.seq ?_
  refine Wc.region rfl ?_
  refine Wl.pure (PR.moveI rfl) ?_
  refine Wl.pure (PR.eql (a := ((shC s p a b n y c z : Nat) : Int)) (b := 0) rfl rfl) ?_
  refine Wl.pure (PR.moveB rfl) ?_
  refine Wl.splitT (q := ((shC s p a b n y c z : Nat) : Int) = 0) rfl rfl (fun h3 => ?_) (fun h3 => ?_)
  · refine Wl.pure (PR.moveI rfl) ?_
    refine Wl.on rfl rfl ?_
    refine Wl.callV (c_spec_l00In (n := t) (lo := 0) (hi := 63)) rfl ?_
    intro w4 hbel
    replace st := st.call hbel
    clear hbel
    refine Wl.on rfl rfl ?_
    refine Wl.pure (PR.not_ rfl) ?_
    refine Wl.pure (PR.pickTB rfl rfl) ?_
    refine Wl.nil ?_
    refine tn ?_
    refine Wc.condN (p := 0 ≤ t ∧ t ≤ 63) rfl (fun h5 => ?_) (fun h5 => ?_)
    · refine Wc.region rfl ?_
      refine Wl.pure (PR.assI rfl) ?_
      refine Wl.nil ?_
      refine tn ?_
      refine Wc.seq ?_
      refine Wc.seq ?_
      refine Wc.region rfl ?_
      refine Wl.pure (PR.moveI rfl) ?_
      refine Wl.pure (PR.neq (a := 2) (b := 0) rfl rfl) ?_
      refine Wl.nil ?_
      refine tn ?_
      refine Wc.condN (p := 2 = 0) rfl (fun h6 => ?_) (fun h6 => ?_)
      · refine Wc.seq ?_
        refine Wc.region rfl ?_
        refine Wl.buildSlice (ps := []) (cs := arrU .u8 0 (fun _ => 0) ++ []) st tS_22 tZ_5 rfl rfl rfl ?_
        clear st
        intro b25 w7 st
        refine Wl.pure (PR.moveI rfl) ?_
        refine Wl.pure (PR.assL rfl) ?_
        refine Wl.pure (PR.assI rfl) ?_
        refine Wl.nil ?_
        refine tn ?_
        refine Wc.ret ?_
        refine tr ?_
        refine postL.tmp2 rfl rfl rfl ?_
        replace st : St [] w w7 [(b25, arrU .u8 0 (fun _ => 0) ++ [], 5)] := st.pick [0] (by decide) rfl
        exact ⟨b25, 0, ([]), (Nat.le_refl _), rfl, (by first | rw [pcC_2 (by omega) (by assumption)]; rfl | rw [pcC_b (by omega)]), st⟩
      · refine Wc.skip ?_
        refine tn ?_
        refine Wc.seq ?_
        exfalso
        exact absurd (pcC_0 (by omega) (by first | assumption | omega)) hcode
    · refine Wc.skip ?_
      refine tn ?_
      refine Wc.seq ?_
      refine Wc.seq ?_
      refine Wc.region rfl ?_
      refine Wl.pure (PR.moveI rfl) ?_
      refine Wl.pure (PR.neq (a := ((shC s p a b n y c z : Nat) : Int)) (b := 0) rfl rfl) ?_
      refine Wl.nil ?_
      refine tn ?_
      refine Wc.condN (p := ((shC s p a b n y c z : Nat) : Int) = 0) rfl (fun h8 => ?_) (fun h8 => ?_)
      · refine Wc.seq ?_
        refine Wc.region rfl ?_
        refine Wl.buildSlice (ps := []) (cs := arrU .u8 0 (fun _ => 0) ++ []) st tS_22 tZ_5 rfl rfl rfl ?_
        clear st
        intro b25 w9 st
        refine Wl.pure (PR.moveI rfl) ?_
        refine Wl.pure (PR.assL rfl) ?_
        refine Wl.pure (PR.assI rfl) ?_
        refine Wl.nil ?_
        refine tn ?_
        refine Wc.ret ?_
        refine tr ?_
        refine postL.tmp2 rfl rfl rfl ?_
        replace st : St [] w w9 [(b25, arrU .u8 0 (fun _ => 0) ++ [], 5)] := st.pick [0] (by decide) rfl
        exact ⟨b25, 0, ([]), (Nat.le_refl _), rfl, (by first | rw [pcC_2 (by omega) (by assumption)]; rfl | rw [pcC_b (by omega)]), st⟩
      · refine Wc.skip ?_
        refine tn ?_
        refine Wc.seq ?_
        exfalso
        exact absurd (pcC_0 (by omega) (by first | assumption | omega)) hcode
  · refine Wl.off rfl rfl rfl ?_
    refine Wl.off rfl rfl rfl ?_
    refine Wl.pure (PR.pickFB rfl rfl) ?_
    refine Wl.nil ?_
    refine tn ?_
    refine Wc.condF rfl ?_
    refine Wc.skip ?_
    refine tn ?_
    refine Wc.seq ?_
    refine Wc.seq ?_
    refine Wc.region rfl ?_
    refine Wl.pure (PR.moveI rfl) ?_
    refine Wl.pure (PR.neq (a := ((shC s p a b n y c z : Nat) : Int)) (b := 0) rfl rfl) ?_
    refine Wl.nil ?_
    refine tn ?_
    refine Wc.condN (p := ((shC s p a b n y c z : Nat) : Int) = 0) rfl (fun h10 => ?_) (fun h10 => ?_)
    · refine Wc.seq ?_
      refine Wc.region rfl ?_
      refine Wl.buildSlice (ps := []) (cs := arrU .u8 0 (fun _ => 0) ++ []) st tS_22 tZ_5 rfl rfl rfl ?_
      clear st
      intro b25 w11 st
      refine Wl.pure (PR.moveI rfl) ?_
      refine Wl.pure (PR.assL rfl) ?_
      refine Wl.pure (PR.assI rfl) ?_
      refine Wl.nil ?_
      refine tn ?_
      refine Wc.ret ?_
      refine tr ?_
      refine postL.tmp2 rfl rfl rfl ?_
      replace st : St [] w w11 [(b25, arrU .u8 0 (fun _ => 0) ++ [], 5)] := st.pick [0] (by decide) rfl
      exact ⟨b25, 0, ([]), (Nat.le_refl _), rfl, (by first | rw [pcC_2 (by omega) (by assumption)]; rfl | rw [pcC_b (by omega)]), st⟩
    · refine Wc.skip ?_
      refine tn ?_
      refine Wc.seq ?_
      exfalso
      exact absurd (pcC_0 (by omega) (by first | assumption | omega)) hcode

end Go.Proofs.YtabekcodjcbolaaGreat
