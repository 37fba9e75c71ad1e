/-
  Contracts of functions, printed by a program of ours.
-/
import Derived.Test.YtagghfllgafmgaaCL2
namespace Go.Proofs.Ytagghfllgafmgaa
open Go.RowKit
set_option linter.unusedVariables false
set_option linter.unusedSimpArgs false

set_option maxHeartbeats 400000 in
set_option maxRecDepth 4000 in
theorem c_impl_ForgedShares_t {A : Option Addr} {n : Nat} {cp : Nat} {p : Nat → Int} {c : Nat → Nat → Nat} {seed : Nat} {B : Option Addr} {m : Nat} {cq : Nat} {d : Nat → Nat} {w : World} (hR : RdS w A n (layS n p c)) (hp : ∀ i, i < n → -128 ≤ p i ∧ p i ≤ 127) (hc : ∀ i k, c i k < 256) (hn : n ≤ 1048576) (hs : seed < 4294967296) (hB : RdS w B m (arrU .u32 m d)) (hd : ∀ k, d k < 4294967296) (hm1 : m ≤ 1048576) (hcode : mksC n p c = 0) (hmn : m = n) :
    CE Try.prog 23 [.slice (A) (n) (cp), .int .u32 (((seed : Nat) : Int)), .slice (B) (m) (cq)] w (RetXG w [] 2 1 ((flN (fgQ seed p c d) n)) (arrU .i64 (flN (fgQ seed p c d) n) (fun j => (fun z => z) (flA (fgQ seed p c d) n j))) (fun b_ c_ => .tuple #[.slice (some ⟨b_, 0, none⟩) ((flN (fgQ seed p c d) n)) (c_), .int .i64 (0)]) []) := by
  refine CE.enter 54 [(0, .slice (A) (n) (cp)), (1, .int .u32 (((seed : Nat) : Int))), (2, .slice (B) (m) (cq))] en_23 Try.func23 rfl rfl (Nat.le_of_ble_eq_true rfl) rfl ?_
  have st := St.start w
  refine Wc.seq ?_
  refine Wc.region rfl ?_
  refine Wl.pure (PR.assL rfl) ?_
  refine Wl.pure (PR.assI rfl) ?_
  refine Wl.nil ?_
  refine tn ?_
  refine Wc.seq ?_
  refine Wc.region rfl ?_
  refine Wl.pure (PR.moveL rfl) ?_
  refine Wl.pure (PR.moveI rfl) ?_
  refine Wl.callXG [] st (c_impl_MarksOf_t (A := A) (n := n) (cp := cp) (p := p) (c := c) (seed := seed) (hR.st st) hp hc (by first | assumption | omega) hs (by first | assumption | omega)) rfl rfl ?_
  clear st
  intro b16 c16 sp16 w1 hc16 hs16 st
  replace st : St [] w w1 [(b16, arrU .u32 n (fun j => markK seed (p j) (c j) 64) ++ sp16, 26)] := st
  refine Wl.pure (PR.moveV (.tuple #[.slice (some ⟨b16, 0, none⟩) (n) (c16), .int .i64 (0)]) rfl) ?_
  refine Wl.pure (PR.extr (i := 0) (vs := [.slice (some ⟨b16, 0, none⟩) (n) (c16), .int .i64 (0)]) rfl rfl) ?_
  refine Wl.pure (PR.extr (i := 1) (vs := [.slice (some ⟨b16, 0, none⟩) (n) (c16), .int .i64 (0)]) rfl rfl) ?_
  refine Wl.pure (PR.assL rfl) ?_
  refine Wl.pure (PR.assI rfl) ?_
  refine Wl.nil ?_
  refine tn ?_
  refine Wc.seq ?_
  refine Wc.seq ?_
  refine Wc.region rfl ?_
  refine Wl.pure (PR.moveI rfl) ?_
  refine Wl.pure (PR.neqS (a := 0) rfl rfl) ?_
  refine Wl.pure (PR.moveI rfl) ?_
  refine Wl.pure (PR.build (ps := [(0, .bool false), (1, .int .i64 (0))]) (cs := [.bool false, .int .i64 (0)]) tB_95 rfl rfl) ?_
  refine Wl.pure (PR.moveL rfl) ?_
  refine Wl.pure (PR.lenL tS_34 rfl) ?_
  refine Wl.pure (PR.moveL rfl) ?_
  refine Wl.pure (PR.lenL tS_37 rfl) ?_
  refine Wl.pure (PR.neq (a := ((m : Nat) : Int)) (b := ((n : Nat) : Int)) rfl rfl) ?_
  refine Wl.pure (PR.build (ps := [(0, .bool (!decide (((m : Nat) : Int) = ((n : Nat) : Int)))), (1, .int .i64 (2))]) (cs := [.bool (!decide (((m : Nat) : Int) = ((n : Nat) : Int))), .int .i64 (2)]) tB_95 rfl rfl) ?_
  refine Wl.buildSlice (ps := [(0, .agg ([.bool false, .int .i64 (0)]).toArray), (1, .agg ([.bool (!decide (((m : Nat) : Int) = ((n : Nat) : Int))), .int .i64 (2)]).toArray)]) (cs := [.bool false, .int .i64 (0), .bool (!decide (((m : Nat) : Int) = ((n : Nat) : Int))), .int .i64 (2)]) st tS_127 tZ_95 rfl rfl rfl ?_
  clear st
  intro b29 w2 st
  refine Wl.callV (c_impl_firstOf (bk := b29) (o := 0) (n := 2) (cp := 2) (c := (fun i => [false, (!decide (((m : Nat) : Int) = ((n : Nat) : Int)))].getD i false)) (e := (fun i => [0, 2].getD i 0)) (st.rdA (i := 0) (n := 4) rfl rfl) (by first | assumption | omega)) rfl ?_
  intro w3 hbel
  replace st := st.call hbel
  clear hbel
  refine Wl.pure (PR.assI rfl) ?_
  refine Wl.nil ?_
  refine tn ?_
  refine Wc.seq ?_
  have hq9 : firstZ 2 (fun i => [false, (!decide (((m : Nat) : Int) = ((n : Nat) : Int)))].getD i false) (fun i => [0, 2].getD i 0) = 0 := by rw [firstZ2]; rw [decide_eq_true (show ((m : Nat) : Int) = ((n : Nat) : Int) by omega)]; rfl
  refine Wc.region rfl ?_
  refine Wl.pure (PR.moveI rfl) ?_
  refine Wl.pure (PR.neq (a := firstZ 2 (fun i => [false, (!decide (((m : Nat) : Int) = ((n : Nat) : Int)))].getD i false) (fun i => [0, 2].getD i 0)) (b := 0) rfl rfl) ?_
  refine Wl.nil ?_
  refine tn ?_
  refine Wc.condN (p := firstZ 2 (fun i => [false, (!decide (((m : Nat) : Int) = ((n : Nat) : Int)))].getD i false) (fun i => [0, 2].getD i 0) = 0) rfl (fun h4 => ?_) (fun h4 => ?_)
  · refine Wc.seq ?_
    exfalso
    omega
  · refine Wc.skip ?_
    refine tn ?_
    refine Wc.seq ?_
    refine Wc.region rfl ?_
    refine Wl.buildSlice (ps := []) (cs := arrU .i64 0 (fun _ => 0) ++ []) st tS_44 tZ_2 rfl rfl rfl ?_
    clear st
    intro b34 w5 st
    refine Wl.pure (PR.assL rfl) ?_
    refine Wl.nil ?_
    refine tn ?_
    refine Wc.seq ?_
    refine Wc.seq ?_
    refine Wc.region rfl ?_
    refine Wl.pure (PR.moveL rfl) ?_
    refine Wl.pure (PR.lenL tS_34 rfl) ?_
    refine Wl.pure (PR.moveI rfl) ?_
    refine Wl.nil ?_
    refine tn ?_
    refine Wc.block ?_
    refine Wc.loopF (γ := Nat × Nat × (Nat → Nat) × Nat × Nat × List Value) (fun g => [(2, .slice (B) (m) (cq)), (6, .slice (none) (0) (0)), (7, .int .i64 (0)), (10, .slice (some ⟨g.2.2.2.1, 0, none⟩) (g.2.1) (g.2.2.2.2.1)), (35, .slice (some ⟨b16, 0, none⟩) (n) (c16)), (36, .int .i64 (((n : Nat) : Int))), (37, .int .i64 (((g.1 : Nat) : Int)))]) (fun g w_ => St [] w w_ [(g.2.2.2.1, arrU .i64 g.2.1 g.2.2.1 ++ g.2.2.2.2.2, 2), (b29, [.bool false, .int .i64 (0), .bool (!decide (((m : Nat) : Int) = ((n : Nat) : Int))), .int .i64 (2)], 95), (b16, arrU .u32 n (fun j => markK seed (p j) (c j) 64) ++ sp16, 26)] ∧ (g.1 ≤ n) ∧ (g.2.1 = flN (fgQ seed p c d) g.1) ∧ (∀ j, j < g.2.1 → g.2.2.1 j = (fun z => z) (flA (fgQ seed p c d) g.1 j)) ∧ (g.2.1 ≤ g.2.2.2.2.1) ∧ (g.2.2.2.2.2.length = (g.2.2.2.2.1 - g.2.1) * 1)) (fun g => n - g.1) ?_ ?_
    · exact ⟨(0, 0, (fun _ => 0), b34, 0, []), (.cons rfl (.cons rfl (.cons rfl (.cons rfl (.cons rfl (.cons rfl (.cons rfl (.nil _)))))))), st, (by first | omega | (dsimp only; omega)), rfl, (fun j hj => absurd hj (Nat.not_lt_zero _)), (Nat.le_refl _), rfl⟩
    clear st
    rintro ⟨k, mm, u, b_o, c_o, sp_o⟩ w6 ⟨st, hk, hm, hu, hc_o, hs_o⟩
    try dsimp only at st hk hm hu hc_o hs_o ⊢
    have hfl8 := flN_le (fgQ seed p c d) k
    refine Wc.seq ?_
    refine Wc.region rfl ?_
    refine Wl.pure (PR.lss (a := ((k : Nat) : Int)) (b := ((n : Nat) : Int)) rfl rfl) ?_
    refine Wl.nil ?_
    refine tn ?_
    refine Wc.seq ?_
    refine Wc.condD (p := ((k : Nat) : Int) < ((n : Nat) : Int)) rfl (fun h7 => ?_) (fun h7 => ?_)
    · refine Wc.skip ?_
      refine tn ?_
      refine Wc.seq ?_
      refine Wc.block ?_
      refine Wc.seq ?_
      refine Wc.region rfl ?_
      refine Wl.pure (PR.moveI rfl) ?_
      refine Wl.pure (PR.idxAddrS1 (i := k) tS_34 rfl rfl (by omega)) ?_
      refine Wl.load (i := 2) st tA_26 rfl rfl (app_get (arrU_get0 (by omega))) ?_
      refine Wl.pure (PR.assI rfl) ?_
      refine Wl.pure (PR.assI rfl) ?_
      refine Wl.nil ?_
      refine tn ?_
      refine Wc.seq ?_
      refine Wc.region rfl ?_
      refine Wl.pure (PR.moveI rfl) ?_
      refine Wl.pure (PR.moveL rfl) ?_
      refine Wl.pure (PR.moveI rfl) ?_
      obtain ⟨bs8, os9, rfl, hs10⟩ := hB (by omega)
      refine Wl.pure (PR.idxAddrS1 (i := k) tS_34 rfl rfl (by omega)) ?_
      refine Wl.loadC tA_26 rfl ((hs10.st st).at_ (arrU_get0 (by omega)) (Nat.add_assoc _ _ _).symm) ?_
      refine Wl.pure (PR.neq (a := (((markK seed (p k) (c k) 64) : Nat) : Int)) (b := ((d (k) : Nat) : Int)) rfl rfl) ?_
      refine Wl.nil ?_
      refine tn ?_
      refine Wc.condN (p := (((markK seed (p k) (c k) 64) : Nat) : Int) = ((d (k) : Nat) : Int)) rfl (fun h11 => ?_) (fun h11 => ?_)
      · refine Wc.region rfl ?_
        refine Wl.pure (PR.moveL rfl) ?_
        refine Wl.pure (PR.moveI rfl) ?_
        refine Wl.buildSlice (ps := [(0, .int .i64 (((k : Nat) : Int)))]) (cs := [.int .i64 (((k : Nat) : Int))]) st tS_44 tZ_2 rfl rfl rfl ?_
        clear st
        intro b50 w12 st
        refine Wl.append (n := mm) (c := c_o) (m := 1) (cs := arrU .i64 mm u) (sp := sp_o) (vs := [.int .i64 (((k : Nat) : Int))]) (i := 1) st tS_44 tZ_2 rfl rfl rfl (by rw [(arrU_len _), Nat.mul_one]) hs_o hc_o rfl (Src.ofRdA (tyS_und tS_44) (st.rdA (i := 0) (n := 1) rfl rfl) rfl (by simp [Value.oneCell'])) (by omega) (by omega) ?_
        clear st
        intro b51 c51 sp51 w13 hc51 hs51 st
        rw [arrU_snoc] at st
        replace st : St [] w w13 [(b51, arrU .i64 (mm + 1) (upd u mm k) ++ sp51, 2), (b50, [.int .i64 (((k : Nat) : Int))], 2), (b29, [.bool false, .int .i64 (0), .bool (!decide (((m : Nat) : Int) = ((n : Nat) : Int))), .int .i64 (2)], 95), (b16, arrU .u32 n (fun j => markK seed (p j) (c j) 64) ++ sp16, 26)] := st
        refine Wl.pure (PR.assL rfl) ?_
        refine Wl.nil ?_
        refine bn ?_
        refine tn ?_
        refine Wc.region rfl ?_
        refine Wl.pure (PR.add (a := ((k : Nat) : Int)) (b := 1) rfl rfl (by simp only [fitI]; omega)) ?_
        refine Wl.pure (PR.moveI rfl) ?_
        refine Wl.nil ?_
        refine tn ?_
        replace st : St [] w w13 [(b51, arrU .i64 (mm + 1) (upd u mm k) ++ sp51, 2), (b29, [.bool false, .int .i64 (0), .bool (!decide (((m : Nat) : Int) = ((n : Nat) : Int))), .int .i64 (2)], 95), (b16, arrU .u32 n (fun j => markK seed (p j) (c j) 64) ++ sp16, 26)] := st.pick [0, 2, 3] (by decide) rfl
        have hfl9 := flN_le (fgQ seed p c d) k
        exact ⟨(k + 1, mm + 1, (upd u mm k), b51, c51, sp51), (.cons rfl (.cons rfl (.cons rfl (.cons rfl (.cons rfl (.cons rfl (.cons rfl (.nil _)))))))), ⟨st, (by first | omega | (dsimp only; omega)), (by first | exact flN_t hm (fg_t (by omega)) | exact flN_f hm (fg_f (by omega))), (by first | exact flA_t (g := (fun z => z)) hm hu (fg_t (by omega)) | exact flA_f (g := (fun z => z)) hu (fg_f (by omega))), hc51, hs51⟩, (by first | omega | (dsimp only; omega))⟩
      · refine Wc.skip ?_
        refine bn ?_
        refine tn ?_
        refine Wc.region rfl ?_
        refine Wl.pure (PR.add (a := ((k : Nat) : Int)) (b := 1) rfl rfl (by simp only [fitI]; omega)) ?_
        refine Wl.pure (PR.moveI rfl) ?_
        refine Wl.nil ?_
        refine tn ?_
        have hfl9 := flN_le (fgQ seed p c d) k
        exact ⟨(k + 1, mm, u, b_o, c_o, sp_o), (.cons rfl (.cons rfl (.cons rfl (.cons rfl (.cons rfl (.cons rfl (.cons rfl (.nil _)))))))), ⟨st, (by first | omega | (dsimp only; omega)), (by first | exact flN_t hm (fg_t (by omega)) | exact flN_f hm (fg_f (by omega))), (by first | exact flA_t (g := (fun z => z)) hm hu (fg_t (by omega)) | exact flA_f (g := (fun z => z)) hu (fg_f (by omega))), hc_o, hs_o⟩, (by first | omega | (dsimp only; omega))⟩
    · refine Wc.exit ?_
      refine tx ?_
      refine tx ?_
      refine bh ?_
      refine tn ?_
      refine Wc.seq ?_
      refine Wc.region rfl ?_
      refine Wl.pure (PR.moveL rfl) ?_
      refine Wl.pure (PR.assL rfl) ?_
      refine Wl.pure (PR.assI rfl) ?_
      refine Wl.nil ?_
      refine tn ?_
      refine Wc.ret ?_
      refine postL.tmp2 rfl rfl rfl ?_
      obtain rfl : n = k := by omega
      subst hm
      rw [arrU_congr (fun j hj => hu j hj)] at st
      replace st : St [] w w6 [(b_o, arrU .i64 (flN (fgQ seed p c d) n) (fun j => (fun z => z) (flA (fgQ seed p c d) n j)) ++ sp_o, 2)] := st.pick [0] (by decide) rfl
      exact ⟨b_o, c_o, sp_o, hc_o, hs_o, rfl, st⟩

set_option maxHeartbeats 400000 in
set_option maxRecDepth 4000 in
theorem c_impl_ForgedShares_f1 {A : Option Addr} {n : Nat} {cp : Nat} {p : Nat → Int} {c : Nat → Nat → Nat} {seed : Nat} {B : Option Addr} {m : Nat} {cq : Nat} {d : Nat → Nat} {w : World} (hR : RdS w A n (layS n p c)) (hp : ∀ i, i < n → -128 ≤ p i ∧ p i ≤ 127) (hc : ∀ i k, c i k < 256) (hn : n ≤ 1048576) (hs : seed < 4294967296) (hB : RdS w B m (arrU .u32 m d)) (hd : ∀ k, d k < 4294967296) (hm1 : m ≤ 1048576) (hcode : ¬ mksC n p c = 0) :
    CE Try.prog 23 [.slice (A) (n) (cp), .int .u32 (((seed : Nat) : Int)), .slice (B) (m) (cq)] w (RetV w (.tuple #[.slice (none) (0) (0), .int .i64 (((mksC n p c : Nat) : Int))])) := by
  refine CE.enter 54 [(0, .slice (A) (n) (cp)), (1, .int .u32 (((seed : Nat) : Int))), (2, .slice (B) (m) (cq))] en_23 Try.func23 rfl rfl (Nat.le_of_ble_eq_true rfl) rfl ?_
  have st := St.start w
  refine Wc.seq ?_
  refine Wc.region rfl ?_
  refine Wl.pure (PR.assL rfl) ?_
  refine Wl.pure (PR.assI rfl) ?_
  refine Wl.nil ?_
  refine tn ?_
  refine Wc.seq ?_
  refine Wc.region rfl ?_
  refine Wl.pure (PR.moveL rfl) ?_
  refine Wl.pure (PR.moveI rfl) ?_
  refine Wl.callV (c_impl_MarksOf_f (A := A) (n := n) (cp := cp) (p := p) (c := c) (seed := seed) (hR.st st) hp hc (by first | assumption | omega) hs (by first | assumption | omega)) rfl ?_
  intro w1 hbel
  replace st := st.call hbel
  clear hbel
  refine Wl.pure (PR.moveV (.tuple #[.slice (none) (0) (0), .int .i64 (((mksC n p c : Nat) : Int))]) rfl) ?_
  refine Wl.pure (PR.extr (i := 0) (vs := [.slice (none) (0) (0), .int .i64 (((mksC n p c : Nat) : Int))]) rfl rfl) ?_
  refine Wl.pure (PR.extr (i := 1) (vs := [.slice (none) (0) (0), .int .i64 (((mksC n p c : Nat) : Int))]) rfl rfl) ?_
  refine Wl.pure (PR.assL rfl) ?_
  refine Wl.pure (PR.assI rfl) ?_
  refine Wl.nil ?_
  refine tn ?_
  refine Wc.seq ?_
  refine Wc.seq ?_
  refine Wc.region rfl ?_
  refine Wl.pure (PR.moveI rfl) ?_
  refine Wl.pure (PR.neq (a := ((mksC n p c : Nat) : Int)) (b := 0) rfl rfl) ?_
  refine Wl.pure (PR.moveI rfl) ?_
  refine Wl.pure (PR.build (ps := [(0, .bool (!decide (((mksC n p c : Nat) : Int) = 0))), (1, .int .i64 (((mksC n p c : Nat) : Int)))]) (cs := [.bool (!decide (((mksC n p c : Nat) : Int) = 0)), .int .i64 (((mksC n p c : Nat) : Int))]) tB_95 rfl rfl) ?_
  refine Wl.pure (PR.moveL rfl) ?_
  refine Wl.pure (PR.lenL tS_34 rfl) ?_
  refine Wl.pure (PR.moveL rfl) ?_
  refine Wl.pure (PR.lenL tS_37 rfl) ?_
  refine Wl.pure (PR.neq (a := ((m : Nat) : Int)) (b := ((n : Nat) : Int)) rfl rfl) ?_
  refine Wl.pure (PR.build (ps := [(0, .bool (!decide (((m : Nat) : Int) = ((n : Nat) : Int)))), (1, .int .i64 (2))]) (cs := [.bool (!decide (((m : Nat) : Int) = ((n : Nat) : Int))), .int .i64 (2)]) tB_95 rfl rfl) ?_
  refine Wl.buildSlice (ps := [(0, .agg ([.bool (!decide (((mksC n p c : Nat) : Int) = 0)), .int .i64 (((mksC n p c : Nat) : Int))]).toArray), (1, .agg ([.bool (!decide (((m : Nat) : Int) = ((n : Nat) : Int))), .int .i64 (2)]).toArray)]) (cs := [.bool (!decide (((mksC n p c : Nat) : Int) = 0)), .int .i64 (((mksC n p c : Nat) : Int)), .bool (!decide (((m : Nat) : Int) = ((n : Nat) : Int))), .int .i64 (2)]) st tS_127 tZ_95 rfl rfl rfl ?_
  clear st
  intro b29 w2 st
  refine Wl.callV (c_impl_firstOf (bk := b29) (o := 0) (n := 2) (cp := 2) (c := (fun i => [(!decide (((mksC n p c : Nat) : Int) = 0)), (!decide (((m : Nat) : Int) = ((n : Nat) : Int)))].getD i false)) (e := (fun i => [((mksC n p c : Nat) : Int), 2].getD i 0)) (st.rdA (i := 0) (n := 4) rfl rfl) (by first | assumption | omega)) rfl ?_
  intro w3 hbel
  replace st := st.call hbel
  clear hbel
  refine Wl.pure (PR.assI rfl) ?_
  refine Wl.nil ?_
  refine tn ?_
  refine Wc.seq ?_
  have hq9 : firstZ 2 (fun i => [(!decide (((mksC n p c : Nat) : Int) = 0)), (!decide (((m : Nat) : Int) = ((n : Nat) : Int)))].getD i false) (fun i => [((mksC n p c : Nat) : Int), 2].getD i 0) = ((mksC n p c : Nat) : Int) := by rw [firstZ2]; rw [decide_eq_false (show ¬ ((mksC n p c : Nat) : Int) = 0 by omega)]; rfl
  refine Wc.region rfl ?_
  refine Wl.pure (PR.moveI rfl) ?_
  refine Wl.pure (PR.neq (a := firstZ 2 (fun i => [(!decide (((mksC n p c : Nat) : Int) = 0)), (!decide (((m : Nat) : Int) = ((n : Nat) : Int)))].getD i false) (fun i => [((mksC n p c : Nat) : Int), 2].getD i 0)) (b := 0) rfl rfl) ?_
  refine Wl.nil ?_
  refine tn ?_
  refine Wc.condN (p := firstZ 2 (fun i => [(!decide (((mksC n p c : Nat) : Int) = 0)), (!decide (((m : Nat) : Int) = ((n : Nat) : Int)))].getD i false) (fun i => [((mksC n p c : Nat) : Int), 2].getD i 0) = 0) rfl (fun h4 => ?_) (fun h4 => ?_)
  · refine Wc.seq ?_
    refine Wc.region rfl ?_
    refine Wl.pure (PR.moveI rfl) ?_
    refine Wl.pure (PR.assL rfl) ?_
    refine Wl.pure (PR.assI rfl) ?_
    refine Wl.nil ?_
    refine tn ?_
    refine Wc.ret ?_
    refine tr ?_
    refine postL.tmp2 rfl rfl rfl ?_
    refine RetV.of ?_ st.below
    exact tup_2 rfl (congrArg (Value.int .i64) hq9)
  · refine Wc.skip ?_
    refine tn ?_
    refine Wc.seq ?_
    exfalso
    omega

set_option maxHeartbeats 400000 in
set_option maxRecDepth 4000 in
theorem c_impl_ForgedShares_f2 {A : Option Addr} {n : Nat} {cp : Nat} {p : Nat → Int} {c : Nat → Nat → Nat} {seed : Nat} {B : Option Addr} {m : Nat} {cq : Nat} {d : Nat → Nat} {w : World} (hR : RdS w A n (layS n p c)) (hp : ∀ i, i < n → -128 ≤ p i ∧ p i ≤ 127) (hc : ∀ i k, c i k < 256) (hn : n ≤ 1048576) (hs : seed < 4294967296) (hB : RdS w B m (arrU .u32 m d)) (hd : ∀ k, d k < 4294967296) (hm1 : m ≤ 1048576) (hcode : mksC n p c = 0) (hmn : ¬ m = n) :
    CE Try.prog 23 [.slice (A) (n) (cp), .int .u32 (((seed : Nat) : Int)), .slice (B) (m) (cq)] w (RetV w (.tuple #[.slice (none) (0) (0), .int .i64 (2)])) := by
  refine CE.enter 54 [(0, .slice (A) (n) (cp)), (1, .int .u32 (((seed : Nat) : Int))), (2, .slice (B) (m) (cq))] en_23 Try.func23 rfl rfl (Nat.le_of_ble_eq_true rfl) rfl ?_
  have st := St.start w
  refine Wc.seq ?_
  refine Wc.region rfl ?_
  refine Wl.pure (PR.assL rfl) ?_
  refine Wl.pure (PR.assI rfl) ?_
  refine Wl.nil ?_
  refine tn ?_
  refine Wc.seq ?_
  refine Wc.region rfl ?_
  refine Wl.pure (PR.moveL rfl) ?_
  refine Wl.pure (PR.moveI rfl) ?_
  refine Wl.callXG [] st (c_impl_MarksOf_t (A := A) (n := n) (cp := cp) (p := p) (c := c) (seed := seed) (hR.st st) hp hc (by first | assumption | omega) hs (by first | assumption | omega)) rfl rfl ?_
  clear st
  intro b16 c16 sp16 w1 hc16 hs16 st
  replace st : St [] w w1 [(b16, arrU .u32 n (fun j => markK seed (p j) (c j) 64) ++ sp16, 26)] := st
  refine Wl.pure (PR.moveV (.tuple #[.slice (some ⟨b16, 0, none⟩) (n) (c16), .int .i64 (0)]) rfl) ?_
  refine Wl.pure (PR.extr (i := 0) (vs := [.slice (some ⟨b16, 0, none⟩) (n) (c16), .int .i64 (0)]) rfl rfl) ?_
  refine Wl.pure (PR.extr (i := 1) (vs := [.slice (some ⟨b16, 0, none⟩) (n) (c16), .int .i64 (0)]) rfl rfl) ?_
  refine Wl.pure (PR.assL rfl) ?_
  refine Wl.pure (PR.assI rfl) ?_
  refine Wl.nil ?_
  refine tn ?_
  refine Wc.seq ?_
  refine Wc.seq ?_
  refine Wc.region rfl ?_
  refine Wl.pure (PR.moveI rfl) ?_
  refine Wl.pure (PR.neqS (a := 0) rfl rfl) ?_
  refine Wl.pure (PR.moveI rfl) ?_
  refine Wl.pure (PR.build (ps := [(0, .bool false), (1, .int .i64 (0))]) (cs := [.bool false, .int .i64 (0)]) tB_95 rfl rfl) ?_
  refine Wl.pure (PR.moveL rfl) ?_
  refine Wl.pure (PR.lenL tS_34 rfl) ?_
  refine Wl.pure (PR.moveL rfl) ?_
  refine Wl.pure (PR.lenL tS_37 rfl) ?_
  refine Wl.pure (PR.neq (a := ((m : Nat) : Int)) (b := ((n : Nat) : Int)) rfl rfl) ?_
  refine Wl.pure (PR.build (ps := [(0, .bool (!decide (((m : Nat) : Int) = ((n : Nat) : Int)))), (1, .int .i64 (2))]) (cs := [.bool (!decide (((m : Nat) : Int) = ((n : Nat) : Int))), .int .i64 (2)]) tB_95 rfl rfl) ?_
  refine Wl.buildSlice (ps := [(0, .agg ([.bool false, .int .i64 (0)]).toArray), (1, .agg ([.bool (!decide (((m : Nat) : Int) = ((n : Nat) : Int))), .int .i64 (2)]).toArray)]) (cs := [.bool false, .int .i64 (0), .bool (!decide (((m : Nat) : Int) = ((n : Nat) : Int))), .int .i64 (2)]) st tS_127 tZ_95 rfl rfl rfl ?_
  clear st
  intro b29 w2 st
  refine Wl.callV (c_impl_firstOf (bk := b29) (o := 0) (n := 2) (cp := 2) (c := (fun i => [false, (!decide (((m : Nat) : Int) = ((n : Nat) : Int)))].getD i false)) (e := (fun i => [0, 2].getD i 0)) (st.rdA (i := 0) (n := 4) rfl rfl) (by first | assumption | omega)) rfl ?_
  intro w3 hbel
  replace st := st.call hbel
  clear hbel
  refine Wl.pure (PR.assI rfl) ?_
  refine Wl.nil ?_
  refine tn ?_
  refine Wc.seq ?_
  have hq9 : firstZ 2 (fun i => [false, (!decide (((m : Nat) : Int) = ((n : Nat) : Int)))].getD i false) (fun i => [0, 2].getD i 0) = 2 := by rw [firstZ2]; rw [decide_eq_false (show ¬ ((m : Nat) : Int) = ((n : Nat) : Int) by omega)]; rfl
  refine Wc.region rfl ?_
  refine Wl.pure (PR.moveI rfl) ?_
  refine Wl.pure (PR.neq (a := firstZ 2 (fun i => [false, (!decide (((m : Nat) : Int) = ((n : Nat) : Int)))].getD i false) (fun i => [0, 2].getD i 0)) (b := 0) rfl rfl) ?_
  refine Wl.nil ?_
  refine tn ?_
  refine Wc.condN (p := firstZ 2 (fun i => [false, (!decide (((m : Nat) : Int) = ((n : Nat) : Int)))].getD i false) (fun i => [0, 2].getD i 0) = 0) rfl (fun h4 => ?_) (fun h4 => ?_)
  · refine Wc.seq ?_
    refine Wc.region rfl ?_
    refine Wl.pure (PR.moveI rfl) ?_
    refine Wl.pure (PR.assL rfl) ?_
    refine Wl.pure (PR.assI rfl) ?_
    refine Wl.nil ?_
    refine tn ?_
    refine Wc.ret ?_
    refine tr ?_
    refine postL.tmp2 rfl rfl rfl ?_
    refine RetV.of ?_ st.below
    exact tup_2 rfl (congrArg (Value.int .i64) hq9)
  · refine Wc.skip ?_
    refine tn ?_
    refine Wc.seq ?_
    exfalso
    omega

set_option maxHeartbeats 400000 in
set_option maxRecDepth 4000 in
theorem c_spec_ForgedShares_t {A : Option Addr} {n : Nat} {cp : Nat} {p : Nat → Int} {c : Nat → Nat → Nat} {seed : Nat} {B : Option Addr} {m : Nat} {cq : Nat} {d : Nat → Nat} {w : World} (hR : RdS w A n (layS n p c)) (hp : ∀ i, i < n → -128 ≤ p i ∧ p i ≤ 127) (hc : ∀ i k, c i k < 256) (hn : n ≤ 1048576) (hs : seed < 4294967296) (hB : RdS w B m (arrU .u32 m d)) (hd : ∀ k, d k < 4294967296) (hm1 : m ≤ 1048576) (hcode : mksC n p c = 0) (hmn : m = n) :
    CE Try.prog 21 [.slice (A) (n) (cp), .int .u32 (((seed : Nat) : Int)), .slice (B) (m) (cq)] w (RetXG w [] 2 1 ((flN (fgQ seed p c d) n)) (arrU .i64 (flN (fgQ seed p c d) n) (fun j => (fun z => z) (flA (fgQ seed p c d) n j))) (fun b_ c_ => .tuple #[.slice (some ⟨b_, 0, none⟩) ((flN (fgQ seed p c d) n)) (c_), .int .i64 (0)]) []) := by
  refine CE.enter 52 [(0, .slice (A) (n) (cp)), (1, .int .u32 (((seed : Nat) : Int))), (2, .slice (B) (m) (cq))] en_21 Try.func21 rfl rfl (Nat.le_of_ble_eq_true rfl) rfl ?_
  have st := St.start w
  refine Wc.seq ?_
  refine Wc.region rfl ?_
  refine Wl.pure (PR.assL rfl) ?_
  refine Wl.pure (PR.assI rfl) ?_
  refine Wl.nil ?_
  refine tn ?_
  refine Wc.seq ?_
  refine Wc.region rfl ?_
  refine Wl.pure (PR.moveL rfl) ?_
  refine Wl.pure (PR.moveI rfl) ?_
  refine Wl.callXG [] st (c_spec_MarksOf_t (A := A) (n := n) (cp := cp) (p := p) (c := c) (seed := seed) (hR.st st) hp hc (by first | assumption | omega) hs (by first | assumption | omega)) rfl rfl ?_
  clear st
  intro b15 c15 sp15 w1 hc15 hs15 st
  replace st : St [] w w1 [(b15, arrU .u32 n (fun j => markK seed (p j) (c j) 64) ++ sp15, 26)] := st
  refine Wl.pure (PR.moveV (.tuple #[.slice (some ⟨b15, 0, none⟩) (n) (c15), .int .i64 (0)]) rfl) ?_
  refine Wl.pure (PR.extr (i := 0) (vs := [.slice (some ⟨b15, 0, none⟩) (n) (c15), .int .i64 (0)]) rfl rfl) ?_
  refine Wl.pure (PR.extr (i := 1) (vs := [.slice (some ⟨b15, 0, none⟩) (n) (c15), .int .i64 (0)]) rfl rfl) ?_
  refine Wl.pure (PR.assL rfl) ?_
  refine Wl.pure (PR.assI rfl) ?_
  refine Wl.nil ?_
  refine tn ?_
  refine Wc.seq ?_
  refine Wc.seq ?_
  refine Wc.region rfl ?_
  refine Wl.pure (PR.moveI rfl) ?_
  refine Wl.pure (PR.eqlS (a := 0) rfl rfl) ?_
  refine Wl.pure (PR.moveB rfl) ?_
  refine Wl.on rfl rfl ?_
  refine Wl.pure (PR.moveL rfl) ?_
  refine Wl.on rfl rfl ?_
  refine Wl.pure (PR.lenL tS_34 rfl) ?_
  refine Wl.on rfl rfl ?_
  refine Wl.pure (PR.moveL rfl) ?_
  refine Wl.on rfl rfl ?_
  refine Wl.pure (PR.lenL tS_37 rfl) ?_
  refine Wl.on rfl rfl ?_
  refine Wl.pure (PR.neq (a := ((m : Nat) : Int)) (b := ((n : Nat) : Int)) rfl rfl) ?_
  refine Wl.pure (PR.pickTB rfl rfl) ?_
  refine Wl.nil ?_
  refine tn ?_
  refine Wc.condN (p := ((m : Nat) : Int) = ((n : Nat) : Int)) rfl (fun h2 => ?_) (fun h2 => ?_)
  · exfalso
    omega
  · refine Wc.skip ?_
    refine tn ?_
    refine Wc.seq ?_
    refine Wc.seq ?_
    refine Wc.region rfl ?_
    refine Wl.pure (PR.moveI rfl) ?_
    refine Wl.pure (PR.neqS (a := 0) rfl rfl) ?_
    refine Wl.nil ?_
    refine tn ?_
    refine Wc.condF rfl ?_
    refine Wc.skip ?_
    refine tn ?_
    refine Wc.seq ?_
    refine Wc.region rfl ?_
    refine Wl.buildSlice (ps := []) (cs := arrU .i64 0 (fun _ => 0) ++ []) st tS_44 tZ_2 rfl rfl rfl ?_
    clear st
    intro b31 w3 st
    refine Wl.pure (PR.assL rfl) ?_
    refine Wl.nil ?_
    refine tn ?_
    refine Wc.seq ?_
    refine Wc.seq ?_
    refine Wc.region rfl ?_
    refine Wl.pure (PR.assI rfl) ?_
    refine Wl.nil ?_
    refine tn ?_
    refine Wc.block ?_
    refine Wc.loopF (γ := Nat × Nat × (Nat → Nat) × Nat × Nat × List Value) (fun g => [(2, .slice (B) (m) (cq)), (6, .slice (none) (0) (0)), (7, .int .i64 (0)), (8, .slice (some ⟨b15, 0, none⟩) (n) (c15)), (10, .slice (some ⟨g.2.2.2.1, 0, none⟩) (g.2.1) (g.2.2.2.2.1)), (11, .int .i64 (((g.1 : Nat) : Int)))]) (fun g w_ => St [] w w_ [(g.2.2.2.1, arrU .i64 g.2.1 g.2.2.1 ++ g.2.2.2.2.2, 2), (b15, arrU .u32 n (fun j => markK seed (p j) (c j) 64) ++ sp15, 26)] ∧ (g.1 ≤ n) ∧ (g.2.1 = flN (fgQ seed p c d) g.1) ∧ (∀ j, j < g.2.1 → g.2.2.1 j = (fun z => z) (flA (fgQ seed p c d) g.1 j)) ∧ (g.2.1 ≤ g.2.2.2.2.1) ∧ (g.2.2.2.2.2.length = (g.2.2.2.2.1 - g.2.1) * 1)) (fun g => n - g.1) ?_ ?_
    · exact ⟨(0, 0, (fun _ => 0), b31, 0, []), (.cons rfl (.cons rfl (.cons rfl (.cons rfl (.cons rfl (.cons rfl (.nil _))))))), st, (by first | omega | (dsimp only; omega)), rfl, (fun j hj => absurd hj (Nat.not_lt_zero _)), (Nat.le_refl _), rfl⟩
    clear st
    rintro ⟨k, mm, u, b_o, c_o, sp_o⟩ w4 ⟨st, hk, hm, hu, hc_o, hs_o⟩
    try dsimp only at st hk hm hu hc_o hs_o ⊢
    have hfl8 := flN_le (fgQ seed p c d) k
    refine Wc.seq ?_
    refine Wc.seq ?_
    refine Wc.region rfl ?_
    refine Wl.pure (PR.moveI rfl) ?_
    refine Wl.pure (PR.moveL rfl) ?_
    refine Wl.pure (PR.lenL tS_34 rfl) ?_
    refine Wl.pure (PR.lss (a := ((k : Nat) : Int)) (b := ((n : Nat) : Int)) rfl rfl) ?_
    refine Wl.nil ?_
    refine tn ?_
    refine Wc.condD (p := ((k : Nat) : Int) < ((n : Nat) : Int)) rfl (fun h5 => ?_) (fun h5 => ?_)
    · refine Wc.skip ?_
      refine tn ?_
      refine Wc.seq ?_
      refine Wc.block ?_
      refine Wc.seq ?_
      refine Wc.quiet hmix (by kernel_rfl) rfl ?_
      refine Wq.pure (PR.moveL rfl) ?_
      refine Wq.pure (PR.moveI rfl) ?_
      refine Wq.pure (PR.idxAddrS1 (i := k) tS_34 rfl rfl (by omega)) ?_
      refine Wq.load (i := 1) st tA_26 rfl rfl (app_get (arrU_get0 (by omega))) ?_
      refine Wq.pure (PR.moveL rfl) ?_
      refine Wq.pure (PR.moveI rfl) ?_
      obtain ⟨bs6, os7, rfl, hs8⟩ := hB (by omega)
      refine Wq.pure (PR.idxAddrS1 (i := k) tS_34 rfl rfl (by omega)) ?_
      refine Wq.loadC tA_26 rfl ((hs8.st st).at_ (arrU_get0 (by omega)) (Nat.add_assoc _ _ _).symm) ?_
      refine Wq.pure (PR.neq (a := (((markK seed (p k) (c k) 64) : Nat) : Int)) (b := ((d (k) : Nat) : Int)) rfl rfl) ?_
      refine Wq.nil (fun w9 hbel => ?_)
      replace st := st.call hbel
      clear hbel
      refine tn ?_
      refine Wc.condN (p := (((markK seed (p k) (c k) 64) : Nat) : Int) = ((d (k) : Nat) : Int)) rfl (fun h10 => ?_) (fun h10 => ?_)
      · refine Wc.region rfl ?_
        refine Wl.pure (PR.moveL rfl) ?_
        refine Wl.pure (PR.moveI rfl) ?_
        refine Wl.buildSlice (ps := [(0, .int .i64 (((k : Nat) : Int)))]) (cs := [.int .i64 (((k : Nat) : Int))]) st tS_44 tZ_2 rfl rfl rfl ?_
        clear st
        intro b49 w11 st
        refine Wl.append (n := mm) (c := c_o) (m := 1) (cs := arrU .i64 mm u) (sp := sp_o) (vs := [.int .i64 (((k : Nat) : Int))]) (i := 1) st tS_44 tZ_2 rfl rfl rfl (by rw [(arrU_len _), Nat.mul_one]) hs_o hc_o rfl (Src.ofRdA (tyS_und tS_44) (st.rdA (i := 0) (n := 1) rfl rfl) rfl (by simp [Value.oneCell'])) (by omega) (by omega) ?_
        clear st
        intro b50 c50 sp50 w12 hc50 hs50 st
        rw [arrU_snoc] at st
        replace st : St [] w w12 [(b50, arrU .i64 (mm + 1) (upd u mm k) ++ sp50, 2), (b49, [.int .i64 (((k : Nat) : Int))], 2), (b15, arrU .u32 n (fun j => markK seed (p j) (c j) 64) ++ sp15, 26)] := st
        refine Wl.pure (PR.assL rfl) ?_
        refine Wl.nil ?_
        refine bn ?_
        refine tn ?_
        refine Wc.region rfl ?_
        refine Wl.pure (PR.moveI rfl) ?_
        refine Wl.pure (PR.add (a := ((k : Nat) : Int)) (b := 1) rfl rfl (by simp only [fitI]; omega)) ?_
        refine Wl.pure (PR.assI rfl) ?_
        refine Wl.nil ?_
        refine tn ?_
        replace st : St [] w w12 [(b50, arrU .i64 (mm + 1) (upd u mm k) ++ sp50, 2), (b15, arrU .u32 n (fun j => markK seed (p j) (c j) 64) ++ sp15, 26)] := st.pick [0, 2] (by decide) rfl
        have hfl9 := flN_le (fgQ seed p c d) k
        exact ⟨(k + 1, mm + 1, (upd u mm k), b50, c50, sp50), (.cons rfl (.cons rfl (.cons rfl (.cons rfl (.cons rfl (.cons rfl (.nil _))))))), ⟨st, (by first | omega | (dsimp only; omega)), (by first | exact flN_t hm (fg_t (by omega)) | exact flN_f hm (fg_f (by omega))), (by first | exact flA_t (g := (fun z => z)) hm hu (fg_t (by omega)) | exact flA_f (g := (fun z => z)) hu (fg_f (by omega))), hc50, hs50⟩, (by first | omega | (dsimp only; omega))⟩
      · refine Wc.skip ?_
        refine bn ?_
        refine tn ?_
        refine Wc.region rfl ?_
        refine Wl.pure (PR.moveI rfl) ?_
        refine Wl.pure (PR.add (a := ((k : Nat) : Int)) (b := 1) rfl rfl (by simp only [fitI]; omega)) ?_
        refine Wl.pure (PR.assI rfl) ?_
        refine Wl.nil ?_
        refine tn ?_
        have hfl9 := flN_le (fgQ seed p c d) k
        exact ⟨(k + 1, mm, u, b_o, c_o, sp_o), (.cons rfl (.cons rfl (.cons rfl (.cons rfl (.cons rfl (.cons rfl (.nil _))))))), ⟨st, (by first | omega | (dsimp only; omega)), (by first | exact flN_t hm (fg_t (by omega)) | exact flN_f hm (fg_f (by omega))), (by first | exact flA_t (g := (fun z => z)) hm hu (fg_t (by omega)) | exact flA_f (g := (fun z => z)) hu (fg_f (by omega))), hc_o, hs_o⟩, (by first | omega | (dsimp only; omega))⟩
    · refine Wc.exit ?_
      refine tx ?_
      refine tx ?_
      refine bh ?_
      refine tn ?_
      refine Wc.seq ?_
      refine Wc.region rfl ?_
      refine Wl.pure (PR.moveL rfl) ?_
      refine Wl.pure (PR.assL rfl) ?_
      refine Wl.pure (PR.assI rfl) ?_
      refine Wl.nil ?_
      refine tn ?_
      refine Wc.ret ?_
      refine postL.tmp2 rfl rfl rfl ?_
      obtain rfl : n = k := by omega
      subst hm
      rw [arrU_congr (fun j hj => hu j hj)] at st
      replace st : St [] w w4 [(b_o, arrU .i64 (flN (fgQ seed p c d) n) (fun j => (fun z => z) (flA (fgQ seed p c d) n j)) ++ sp_o, 2)] := st.pick [0] (by decide) rfl
      exact ⟨b_o, c_o, sp_o, hc_o, hs_o, rfl, st⟩

set_option maxHeartbeats 400000 in
set_option maxRecDepth 4000 in
theorem c_spec_ForgedShares_f1 {A : Option Addr} {n : Nat} {cp : Nat} {p : Nat → Int} {c : Nat → Nat → Nat} {seed : Nat} {B : Option Addr} {m : Nat} {cq : Nat} {d : Nat → Nat} {w : World} (hR : RdS w A n (layS n p c)) (hp : ∀ i, i < n → -128 ≤ p i ∧ p i ≤ 127) (hc : ∀ i k, c i k < 256) (hn : n ≤ 1048576) (hs : seed < 4294967296) (hB : RdS w B m (arrU .u32 m d)) (hd : ∀ k, d k < 4294967296) (hm1 : m ≤ 1048576) (hcode : ¬ mksC n p c = 0) :
    CE Try.prog 21 [.slice (A) (n) (cp), .int .u32 (((seed : Nat) : Int)), .slice (B) (m) (cq)] w (RetXG w [] 2 1 (0) (arrU .i64 0 (fun _ => 0)) (fun b_ c_ => .tuple #[.slice (some ⟨b_, 0, none⟩) (0) (c_), .int .i64 (((mksC n p c : Nat) : Int))]) []) := by
  refine CE.enter 52 [(0, .slice (A) (n) (cp)), (1, .int .u32 (((seed : Nat) : Int))), (2, .slice (B) (m) (cq))] en_21 Try.func21 rfl rfl (Nat.le_of_ble_eq_true rfl) rfl ?_
  have st := St.start w
  refine Wc.seq ?_
  refine Wc.region rfl ?_
  refine Wl.pure (PR.assL rfl) ?_
  refine Wl.pure (PR.assI rfl) ?_
  refine Wl.nil ?_
  refine tn ?_
  refine Wc.seq ?_
  refine Wc.region rfl ?_
  refine Wl.pure (PR.moveL rfl) ?_
  refine Wl.pure (PR.moveI rfl) ?_
  refine Wl.callXG [] st (c_spec_MarksOf_f (A := A) (n := n) (cp := cp) (p := p) (c := c) (seed := seed) (hR.st st) hp hc (by first | assumption | omega) hs (by first | assumption | omega)) rfl rfl ?_
  clear st
  intro b15 c15 sp15 w1 hc15 hs15 st
  replace st : St [] w w1 [(b15, arrU .u32 0 (fun _ => 0) ++ sp15, 26)] := st
  refine Wl.pure (PR.moveV (.tuple #[.slice (some ⟨b15, 0, none⟩) (0) (c15), .int .i64 (((mksC n p c : Nat) : Int))]) rfl) ?_
  refine Wl.pure (PR.extr (i := 0) (vs := [.slice (some ⟨b15, 0, none⟩) (0) (c15), .int .i64 (((mksC n p c : Nat) : Int))]) rfl rfl) ?_
  refine Wl.pure (PR.extr (i := 1) (vs := [.slice (some ⟨b15, 0, none⟩) (0) (c15), .int .i64 (((mksC n p c : Nat) : Int))]) rfl rfl) ?_
  refine Wl.pure (PR.assL rfl) ?_
  refine Wl.pure (PR.assI rfl) ?_
  refine Wl.nil ?_
  refine tn ?_
  refine Wc.seq ?_
  refine Wc.seq ?_
  refine Wc.region rfl ?_
  refine Wl.pure (PR.moveI rfl) ?_
  refine Wl.pure (PR.eql (a := ((mksC n p c : Nat) : Int)) (b := 0) rfl rfl) ?_
  refine Wl.pure (PR.moveB rfl) ?_
  refine Wl.splitT (q := ((mksC n p c : Nat) : Int) = 0) rfl rfl (fun h2 => ?_) (fun h2 => ?_)
  · refine Wl.pure (PR.moveL rfl) ?_
    refine Wl.on rfl rfl ?_
    refine Wl.pure (PR.lenL tS_34 rfl) ?_
    refine Wl.on rfl rfl ?_
    refine Wl.pure (PR.moveL rfl) ?_
    refine Wl.on rfl rfl ?_
    refine Wl.pure (PR.lenL tS_37 rfl) ?_
    refine Wl.on rfl rfl ?_
    refine Wl.pure (PR.neq (a := ((m : Nat) : Int)) (b := ((n : Nat) : Int)) rfl rfl) ?_
    refine Wl.pure (PR.pickTB rfl rfl) ?_
    refine Wl.nil ?_
    refine tn ?_
    refine Wc.condN (p := ((m : Nat) : Int) = ((n : Nat) : Int)) rfl (fun h3 => ?_) (fun h3 => ?_)
    · exfalso
      omega
    · refine Wc.skip ?_
      refine tn ?_
      refine Wc.seq ?_
      refine Wc.seq ?_
      refine Wc.region rfl ?_
      refine Wl.pure (PR.moveI rfl) ?_
      refine Wl.pure (PR.neq (a := ((mksC n p c : Nat) : Int)) (b := 0) rfl rfl) ?_
      refine Wl.nil ?_
      refine tn ?_
      refine Wc.condN (p := ((mksC n p c : Nat) : Int) = 0) rfl (fun h4 => ?_) (fun h4 => ?_)
      · refine Wc.seq ?_
        refine Wc.region rfl ?_
        refine Wl.buildSlice (ps := []) (cs := arrU .i64 0 (fun _ => 0) ++ []) st tS_44 tZ_2 rfl rfl rfl ?_
        clear st
        intro b29 w5 st
        refine Wl.pure (PR.moveI rfl) ?_
        refine Wl.pure (PR.assL rfl) ?_
        refine Wl.pure (PR.assI rfl) ?_
        refine Wl.nil ?_
        refine tn ?_
        refine Wc.ret ?_
        refine tr ?_
        refine postL.tmp2 rfl rfl rfl ?_
        replace st : St [] w w5 [(b29, arrU .i64 0 (fun _ => 0) ++ [], 2)] := st.pick [0] (by decide) rfl
        exact ⟨b29, 0, ([]), (Nat.le_refl _), rfl, rfl, st⟩
      · refine Wc.skip ?_
        refine tn ?_
        refine Wc.seq ?_
        exfalso
        omega
  · refine Wl.off rfl rfl rfl ?_
    refine Wl.off rfl rfl rfl ?_
    refine Wl.off rfl rfl rfl ?_
    refine Wl.off rfl rfl rfl ?_
    refine Wl.pure (PR.pickFB rfl rfl) ?_
    refine Wl.nil ?_
    refine tn ?_
    refine Wc.condF rfl ?_
    refine Wc.skip ?_
    refine tn ?_
    refine Wc.seq ?_
    refine Wc.seq ?_
    refine Wc.region rfl ?_
    refine Wl.pure (PR.moveI rfl) ?_
    refine Wl.pure (PR.neq (a := ((mksC n p c : Nat) : Int)) (b := 0) rfl rfl) ?_
    refine Wl.nil ?_
    refine tn ?_
    refine Wc.condN (p := ((mksC n p c : Nat) : Int) = 0) rfl (fun h6 => ?_) (fun h6 => ?_)
    · refine Wc.seq ?_
      refine Wc.region rfl ?_
      refine Wl.buildSlice (ps := []) (cs := arrU .i64 0 (fun _ => 0) ++ []) st tS_44 tZ_2 rfl rfl rfl ?_
      clear st
      intro b29 w7 st
      refine Wl.pure (PR.moveI rfl) ?_
      refine Wl.pure (PR.assL rfl) ?_
      refine Wl.pure (PR.assI rfl) ?_
      refine Wl.nil ?_
      refine tn ?_
      refine Wc.ret ?_
      refine tr ?_
      refine postL.tmp2 rfl rfl rfl ?_
      replace st : St [] w w7 [(b29, arrU .i64 0 (fun _ => 0) ++ [], 2)] := st.pick [0] (by decide) rfl
      exact ⟨b29, 0, ([]), (Nat.le_refl _), rfl, rfl, st⟩
    · refine Wc.skip ?_
      refine tn ?_
      refine Wc.seq ?_
      exfalso
      omega

set_option maxHeartbeats 400000 in
set_option maxRecDepth 4000 in
theorem c_spec_ForgedShares_f2 {A : Option Addr} {n : Nat} {cp : Nat} {p : Nat → Int} {c : Nat → Nat → Nat} {seed : Nat} {B : Option Addr} {m : Nat} {cq : Nat} {d : Nat → Nat} {w : World} (hR : RdS w A n (layS n p c)) (hp : ∀ i, i < n → -128 ≤ p i ∧ p i ≤ 127) (hc : ∀ i k, c i k < 256) (hn : n ≤ 1048576) (hs : seed < 4294967296) (hB : RdS w B m (arrU .u32 m d)) (hd : ∀ k, d k < 4294967296) (hm1 : m ≤ 1048576) (hcode : mksC n p c = 0) (hmn : ¬ m = n) :
    CE Try.prog 21 [.slice (A) (n) (cp), .int .u32 (((seed : Nat) : Int)), .slice (B) (m) (cq)] w (RetXG w [] 2 1 (0) (arrU .i64 0 (fun _ => 0)) (fun b_ c_ => .tuple #[.slice (some ⟨b_, 0, none⟩) (0) (c_), .int .i64 (2)]) []) := by
  refine CE.enter 52 [(0, .slice (A) (n) (cp)), (1, .int .u32 (((seed : Nat) : Int))), (2, .slice (B) (m) (cq))] en_21 Try.func21 rfl rfl (Nat.le_of_ble_eq_true rfl) rfl ?_
  have st := St.start w
  refine Wc.seq ?_
  refine Wc.region rfl ?_
  refine Wl.pure (PR.assL rfl) ?_
  refine Wl.pure (PR.assI rfl) ?_
  refine Wl.nil ?_
  refine tn ?_
  refine Wc.seq ?_
  refine Wc.region rfl ?_
  refine Wl.pure (PR.moveL rfl) ?_
  refine Wl.pure (PR.moveI rfl) ?_
  refine Wl.callXG [] st (c_spec_MarksOf_t (A := A) (n := n) (cp := cp) (p := p) (c := c) (seed := seed) (hR.st st) hp hc (by first | assumption | omega) hs (by first | assumption | omega)) rfl rfl ?_
  clear st
  intro b15 c15 sp15 w1 hc15 hs15 st
  replace st : St [] w w1 [(b15, arrU .u32 n (fun j => markK seed (p j) (c j) 64) ++ sp15, 26)] := st
  refine Wl.pure (PR.moveV (.tuple #[.slice (some ⟨b15, 0, none⟩) (n) (c15), .int .i64 (0)]) rfl) ?_
  refine Wl.pure (PR.extr (i := 0) (vs := [.slice (some ⟨b15, 0, none⟩) (n) (c15), .int .i64 (0)]) rfl rfl) ?_
  refine Wl.pure (PR.extr (i := 1) (vs := [.slice (some ⟨b15, 0, none⟩) (n) (c15), .int .i64 (0)]) rfl rfl) ?_
  refine Wl.pure (PR.assL rfl) ?_
  refine Wl.pure (PR.assI rfl) ?_
  refine Wl.nil ?_
  refine tn ?_
  refine Wc.seq ?_
  refine Wc.seq ?_
  refine Wc.region rfl ?_
  refine Wl.pure (PR.moveI rfl) ?_
  refine Wl.pure (PR.eqlS (a := 0) rfl rfl) ?_
  refine Wl.pure (PR.moveB rfl) ?_
  refine Wl.on rfl rfl ?_
  refine Wl.pure (PR.moveL rfl) ?_
  refine Wl.on rfl rfl ?_
  refine Wl.pure (PR.lenL tS_34 rfl) ?_
  refine Wl.on rfl rfl ?_
  refine Wl.pure (PR.moveL rfl) ?_
  refine Wl.on rfl rfl ?_
  refine Wl.pure (PR.lenL tS_37 rfl) ?_
  refine Wl.on rfl rfl ?_
  refine Wl.pure (PR.neq (a := ((m : Nat) : Int)) (b := ((n : Nat) : Int)) rfl rfl) ?_
  refine Wl.pure (PR.pickTB rfl rfl) ?_
  refine Wl.nil ?_
  refine tn ?_
  refine Wc.condN (p := ((m : Nat) : Int) = ((n : Nat) : Int)) rfl (fun h2 => ?_) (fun h2 => ?_)
  · refine Wc.region rfl ?_
    refine Wl.pure (PR.assI rfl) ?_
    refine Wl.nil ?_
    refine tn ?_
    refine Wc.seq ?_
    refine Wc.seq ?_
    refine Wc.region rfl ?_
    refine Wl.pure (PR.moveI rfl) ?_
    refine Wl.pure (PR.neq (a := 2) (b := 0) rfl rfl) ?_
    refine Wl.nil ?_
    refine tn ?_
    refine Wc.condN (p := 2 = 0) rfl (fun h3 => ?_) (fun h3 => ?_)
    · refine Wc.seq ?_
      refine Wc.region rfl ?_
      refine Wl.buildSlice (ps := []) (cs := arrU .i64 0 (fun _ => 0) ++ []) st tS_44 tZ_2 rfl rfl rfl ?_
      clear st
      intro b29 w4 st
      refine Wl.pure (PR.moveI rfl) ?_
      refine Wl.pure (PR.assL rfl) ?_
      refine Wl.pure (PR.assI rfl) ?_
      refine Wl.nil ?_
      refine tn ?_
      refine Wc.ret ?_
      refine tr ?_
      refine postL.tmp2 rfl rfl rfl ?_
      replace st : St [] w w4 [(b29, arrU .i64 0 (fun _ => 0) ++ [], 2)] := st.pick [0] (by decide) rfl
      exact ⟨b29, 0, ([]), (Nat.le_refl _), rfl, rfl, st⟩
    · refine Wc.skip ?_
      refine tn ?_
      refine Wc.seq ?_
      exfalso
      omega
  · refine Wc.skip ?_
    refine tn ?_
    refine Wc.seq ?_
    refine Wc.seq ?_
    refine Wc.region rfl ?_
    refine Wl.pure (PR.moveI rfl) ?_
    refine Wl.pure (PR.neqS (a := 0) rfl rfl) ?_
    refine Wl.nil ?_
    refine tn ?_
    refine Wc.condF rfl ?_
    refine Wc.skip ?_
    refine tn ?_
    refine Wc.seq ?_
    exfalso
    omega

set_option maxHeartbeats 400000 in
set_option maxRecDepth 4000 in
theorem c_laws_FnExactForgedShares {A : Option Addr} {n : Nat} {cp : Nat} {p : Nat → Int} {c : Nat → Nat → Nat} {seed : Nat} {B : Option Addr} {m : Nat} {cq : Nat} {d : Nat → Nat} {w : World} (hR : RdS w A n (layS n p c)) (hp : ∀ i, i < n → -128 ≤ p i ∧ p i ≤ 127) (hc : ∀ i k, c i k < 256) (hn : n ≤ 9223372036854775807) (hs : seed < 4294967296) (hB : RdS w B m (arrU .u32 m d)) (hd : ∀ k, d k < 4294967296) (hm1 : m ≤ 9223372036854775807) :
    CE Try.prog 5 [.slice (A) (n) (cp), .int .u32 (((seed : Nat) : Int)), .slice (B) (m) (cq)] w (RetV w (.bool true)) := by
  refine CE.enter 122 [(0, .slice (A) (n) (cp)), (1, .int .u32 (((seed : Nat) : Int))), (2, .slice (B) (m) (cq))] en_5 Try.func5 rfl rfl (Nat.le_of_ble_eq_true rfl) rfl ?_
  have st := St.start w
  refine Wc.seq ?_
  refine Wc.region rfl ?_
  refine Wl.pure (PR.assB rfl) ?_
  refine Wl.nil ?_
  refine tn ?_
  refine Wc.seq ?_
  refine Wc.seq ?_
  refine Wc.region rfl ?_
  refine Wl.pure (PR.moveL rfl) ?_
  refine Wl.pure (PR.lenL tS_34 rfl) ?_
  refine Wl.pure (PR.gtr (a := ((m : Nat) : Int)) (b := 1048576) rfl rfl) ?_
  refine Wl.nil ?_
  refine tn ?_
  refine Wc.condD (p := 1048576 < ((m : Nat) : Int)) rfl (fun h1 => ?_) (fun h1 => ?_)
  · refine Wc.seq ?_
    refine Wc.region rfl ?_
    refine Wl.pure (PR.assB rfl) ?_
    refine Wl.nil ?_
    refine tn ?_
    refine Wc.ret ?_
    refine tr ?_
    refine postL.tmp rfl rfl ?_
    exact RetV.of rfl st.below
  · refine Wc.skip ?_
    refine tn ?_
    refine Wc.seq ?_
    refine Wc.region rfl ?_
    refine Wl.pure (PR.assI rfl) ?_
    refine Wl.nil ?_
    refine tn ?_
    refine Wc.seq ?_
    refine Wc.region rfl ?_
    refine Wl.pure (PR.moveL rfl) ?_
    refine Wl.pure (PR.moveI rfl) ?_
    refine Wl.callV (c_laws_szLayerS (A := A) (n := n) (cp := cp) (p := p) (c := c) (z := 1048576) (by first | assumption | omega) (by first | assumption | omega)) rfl ?_
    intro w2 hbel
    replace st := st.call hbel
    clear hbel
    refine Wl.pure (PR.assI rfl) ?_
    refine Wl.nil ?_
    refine tn ?_
    refine Wc.seq ?_
    refine Wc.seq ?_
    refine Wc.region rfl ?_
    refine Wl.pure (PR.moveI rfl) ?_
    refine Wl.pure (PR.lss (a := (szL n 1048576)) (b := 0) rfl rfl) ?_
    refine Wl.nil ?_
    refine tn ?_
    refine Wc.condD (p := (szL n 1048576) < 0) rfl (fun h3 => ?_) (fun h3 => ?_)
    · refine Wc.seq ?_
      refine Wc.region rfl ?_
      refine Wl.pure (PR.assB rfl) ?_
      refine Wl.nil ?_
      refine tn ?_
      refine Wc.ret ?_
      refine tr ?_
      refine postL.tmp rfl rfl ?_
      exact RetV.of rfl st.below
    · refine Wc.skip ?_
      refine tn ?_
      refine Wc.seq ?_
      by_cases hcode : mksC n p c = 0
      · by_cases hmn : m = n
        · obtain ⟨hn1, hz1⟩ := szL_ok (n := n) (z := 1048576) (by omega)
          have hn8 := (mksC_spec hcode).2
          have hfl := flN_le (fgQ seed p c d) n
          refine Wc.region rfl ?_
          refine Wl.pure (PR.moveL rfl) ?_
          refine Wl.callS st (c_laws_toLayerS (A := A) (n := n) (cp := cp) (p := p) (c := c) (hR.st st) hc (by first | assumption | omega)) rfl ?_
          clear st
          intro b29 w4 st
          refine Wl.pure (PR.moveI rfl) ?_
          refine Wl.pure (PR.moveL rfl) ?_
          refine Wl.callS st (c_laws_toUint32S (A := B) (n := m) (cp := cq) (c := d) (hB.st st) (by first | assumption | omega) hd) rfl ?_
          clear st
          intro b32 w5 st
          refine Wl.callXG [] st (c_spec_ForgedShares_t (A := some ⟨b29, 0, none⟩) (n := n) (cp := n) (p := p) (c := c) (seed := seed) (B := some ⟨b32, 0, none⟩) (m := m) (cq := m) (d := d) ((st.rdA (i := 1) (n := (n * 65)) rfl (all_sub (recV_len (s := 65) (layS_row _ _) _))).sl) hp hc (by first | assumption | omega) hs ((st.rdA (i := 0) (n := m) rfl (all_sub (arrU_len _))).sl) hd (by first | assumption | omega) (by first | assumption | omega) (by first | assumption | omega)) rfl rfl ?_
          clear st
          intro b33 c33 sp33 w6 hc33 hs33 st
          replace st : St [] w w6 [(b33, arrU .i64 (flN (fgQ seed p c d) n) (fun j => (fun z => z) (flA (fgQ seed p c d) n j)) ++ sp33, 2), (b32, arrU .u32 m d, 26), (b29, layS n p c, 29)] := st
          refine Wl.pure (PR.moveV (.tuple #[.slice (some ⟨b33, 0, none⟩) ((flN (fgQ seed p c d) n)) (c33), .int .i64 (0)]) rfl) ?_
          refine Wl.pure (PR.extr (i := 0) (vs := [.slice (some ⟨b33, 0, none⟩) ((flN (fgQ seed p c d) n)) (c33), .int .i64 (0)]) rfl rfl) ?_
          refine Wl.pure (PR.extr (i := 1) (vs := [.slice (some ⟨b33, 0, none⟩) ((flN (fgQ seed p c d) n)) (c33), .int .i64 (0)]) rfl rfl) ?_
          refine Wl.pure (PR.assL rfl) ?_
          refine Wl.pure (PR.assI rfl) ?_
          refine Wl.nil ?_
          refine tn ?_
          refine Wc.seq ?_
          refine Wc.region rfl ?_
          refine Wl.pure (PR.moveL rfl) ?_
          refine Wl.callS st (c_laws_toLayerS (A := A) (n := n) (cp := cp) (p := p) (c := c) (hR.st st) hc (by first | assumption | omega)) rfl ?_
          clear st
          intro b37 w7 st
          refine Wl.pure (PR.assL rfl) ?_
          refine Wl.nil ?_
          refine tn ?_
          refine Wc.seq ?_
          refine Wc.region rfl ?_
          refine Wl.pure (PR.moveL rfl) ?_
          refine Wl.callS st (c_laws_toUint32S (A := B) (n := m) (cp := cq) (c := d) (hB.st st) (by first | assumption | omega) hd) rfl ?_
          clear st
          intro b39 w8 st
          refine Wl.pure (PR.assL rfl) ?_
          refine Wl.nil ?_
          refine tn ?_
          refine Wc.seq ?_
          refine Wc.region rfl ?_
          refine Wl.pure (PR.moveL rfl) ?_
          refine Wl.pure (PR.moveI rfl) ?_
          refine Wl.pure (PR.moveL rfl) ?_
          refine Wl.callXG [] st (c_impl_ForgedShares_t (A := some ⟨b37, 0, none⟩) (n := n) (cp := n) (p := p) (c := c) (seed := seed) (B := some ⟨b39, 0, none⟩) (m := m) (cq := m) (d := d) ((st.rdA (i := 1) (n := (n * 65)) rfl (all_sub (recV_len (s := 65) (layS_row _ _) _))).sl) hp hc (by first | assumption | omega) hs ((st.rdA (i := 0) (n := m) rfl (all_sub (arrU_len _))).sl) hd (by first | assumption | omega) (by first | assumption | omega) (by first | assumption | omega)) rfl rfl ?_
          clear st
          intro b44 c44 sp44 w9 hc44 hs44 st
          replace st : St [] w w9 [(b44, arrU .i64 (flN (fgQ seed p c d) n) (fun j => (fun z => z) (flA (fgQ seed p c d) n j)) ++ sp44, 2), (b39, arrU .u32 m d, 26), (b37, layS n p c, 29), (b33, arrU .i64 (flN (fgQ seed p c d) n) (fun j => (fun z => z) (flA (fgQ seed p c d) n j)) ++ sp33, 2), (b32, arrU .u32 m d, 26), (b29, layS n p c, 29)] := st
          refine Wl.pure (PR.moveV (.tuple #[.slice (some ⟨b44, 0, none⟩) ((flN (fgQ seed p c d) n)) (c44), .int .i64 (0)]) rfl) ?_
          refine Wl.pure (PR.extr (i := 0) (vs := [.slice (some ⟨b44, 0, none⟩) ((flN (fgQ seed p c d) n)) (c44), .int .i64 (0)]) rfl rfl) ?_
          refine Wl.pure (PR.extr (i := 1) (vs := [.slice (some ⟨b44, 0, none⟩) ((flN (fgQ seed p c d) n)) (c44), .int .i64 (0)]) rfl rfl) ?_
          refine Wl.pure (PR.assL rfl) ?_
          refine Wl.pure (PR.assI rfl) ?_
          refine Wl.nil ?_
          refine tn ?_
          refine Wc.seq ?_
          refine Wc.seq ?_
          refine Wc.region rfl ?_
          refine Wl.pure (PR.moveL rfl) ?_
          refine Wl.pure (PR.moveL rfl) ?_
          refine Wl.callV (c_laws_eqInt64S (A := some ⟨b44, 0, none⟩) (n := (flN (fgQ seed p c d) n)) (cp := c44) (c := (fun j => (fun z => z) (flA (fgQ seed p c d) n j))) (B := some ⟨b33, 0, none⟩) (cq := c33) ((st.rdA (i := 0) (n := (flN (fgQ seed p c d) n)) rfl (app_all (arrU_len _))).sl) ((st.rdA (i := 3) (n := (flN (fgQ seed p c d) n)) rfl (app_all (arrU_len _))).sl) (by first | assumption | omega)) rfl ?_
          intro w10 hbel
          replace st := st.call hbel
          clear hbel
          refine Wl.pure (PR.not_ rfl) ?_
          refine Wl.pure (PR.moveB rfl) ?_
          refine Wl.on rfl rfl ?_
          refine Wl.pure (PR.moveI rfl) ?_
          refine Wl.on rfl rfl ?_
          refine Wl.pure (PR.moveI rfl) ?_
          refine Wl.on rfl rfl ?_
          refine Wl.pure (PR.neqS (a := 0) rfl rfl) ?_
          refine Wl.pure (PR.pickFB rfl rfl) ?_
          refine Wl.nil ?_
          refine tn ?_
          refine Wc.condF rfl ?_
          refine Wc.skip ?_
          refine tn ?_
          refine Wc.seq ?_
          refine Wc.seq ?_
          refine Wc.region rfl ?_
          refine Wl.pure (PR.moveL rfl) ?_
          refine Wl.pure (PR.moveL rfl) ?_
          refine Wl.callS st (c_laws_toLayerS (A := A) (n := n) (cp := cp) (p := p) (c := c) (hR.st st) hc (by first | assumption | omega)) rfl ?_
          clear st
          intro b58 w11 st
          refine Wl.callV (c_laws_eqLayerS (A := some ⟨b37, 0, none⟩) (n := n) (cp := n) (p := p) (c := c) (B := some ⟨b58, 0, none⟩) (cq := n) ((st.rdA (i := 3) (n := (n * 65)) rfl (all_sub (recV_len (s := 65) (layS_row _ _) _))).sl) ((st.rdA (i := 0) (n := (n * 65)) rfl (all_sub (recV_len (s := 65) (layS_row _ _) _))).sl) (by first | assumption | omega)) rfl ?_
          intro w12 hbel
          replace st := st.call hbel
          clear hbel
          refine Wl.pure (PR.not_ rfl) ?_
          refine Wl.nil ?_
          refine tn ?_
          refine Wc.condF rfl ?_
          refine Wc.skip ?_
          refine tn ?_
          refine Wc.seq ?_
          refine Wc.seq ?_
          refine Wc.region rfl ?_
          refine Wl.pure (PR.moveL rfl) ?_
          refine Wl.pure (PR.moveL rfl) ?_
          refine Wl.callS st (c_laws_toUint32S (A := B) (n := m) (cp := cq) (c := d) (hB.st st) (by first | assumption | omega) hd) rfl ?_
          clear st
          intro b63 w13 st
          refine Wl.callV (c_laws_eqUint32S (A := some ⟨b39, 0, none⟩) (n := m) (cp := m) (c := d) (B := some ⟨b63, 0, none⟩) (cq := m) ((st.rdA (i := 3) (n := m) rfl (all_sub (arrU_len _))).sl) ((st.rdA (i := 0) (n := m) rfl (all_sub (arrU_len _))).sl) (by first | assumption | omega)) rfl ?_
          intro w14 hbel
          replace st := st.call hbel
          clear hbel
          refine Wl.pure (PR.not_ rfl) ?_
          refine Wl.nil ?_
          refine tn ?_
          refine Wc.condF rfl ?_
          refine Wc.skip ?_
          refine tn ?_
          refine Wc.seq ?_
          refine Wc.region rfl ?_
          refine Wl.pure (PR.assI rfl) ?_
          refine Wl.nil ?_
          refine tn ?_
          refine Wc.seq ?_
          refine Wc.region rfl ?_
          refine Wl.pure (PR.moveL rfl) ?_
          refine Wl.pure (PR.moveI rfl) ?_
          replace st : St [] w w14 [(b63, arrU .u32 m d, 26), (b58, layS n p c, 29), (b44, arrU .i64 (flN (fgQ seed p c d) n) (fun j => (fun z => z) (flA (fgQ seed p c d) n j)) ++ sp44, 2), (b39, arrU .u32 m d, 26), (b37, layS n p c ++ [], 29), (b33, arrU .i64 (flN (fgQ seed p c d) n) (fun j => (fun z => z) (flA (fgQ seed p c d) n j)) ++ sp33, 2), (b32, arrU .u32 m d, 26), (b29, layS n p c, 29)] := st.nilat (i := 4) rfl
          refine Wl.callXE [4] st (c_laws_markLayerS (ba := b37) (n := n) (cp := n) (p := p) (c := c) (sp := []) (z := 1) (by first | assumption | omega) (by first | assumption | omega) (st.lend (L' := [(b37, layS n p c ++ [], 29)]) [4] (by decide) rfl)) rfl rfl ?_
          clear st
          rintro ⟨p__16, c__17⟩ _ w15 st
          try dsimp only at st 
          replace st : St [] w w15 [(b37, layS n p__16 c__17 ++ [], 29), (b63, arrU .u32 m d, 26), (b58, layS n p c, 29), (b44, arrU .i64 (flN (fgQ seed p c d) n) (fun j => (fun z => z) (flA (fgQ seed p c d) n j)) ++ sp44, 2), (b39, arrU .u32 m d, 26), (b33, arrU .i64 (flN (fgQ seed p c d) n) (fun j => (fun z => z) (flA (fgQ seed p c d) n j)) ++ sp33, 2), (b32, arrU .u32 m d, 26), (b29, layS n p c, 29)] := st
          refine Wl.pure (PR.assI rfl) ?_
          refine Wl.nil ?_
          refine tn ?_
          refine Wc.seq ?_
          refine Wc.region rfl ?_
          refine Wl.pure (PR.moveL rfl) ?_
          refine Wl.pure (PR.moveI rfl) ?_
          replace st : St [] w w15 [(b37, layS n p__16 c__17 ++ [], 29), (b63, arrU .u32 m d, 26), (b58, layS n p c, 29), (b44, arrU .i64 (flN (fgQ seed p c d) n) (fun j => (fun z => z) (flA (fgQ seed p c d) n j)) ++ sp44, 2), (b39, arrU .u32 m d ++ [], 26), (b33, arrU .i64 (flN (fgQ seed p c d) n) (fun j => (fun z => z) (flA (fgQ seed p c d) n j)) ++ sp33, 2), (b32, arrU .u32 m d, 26), (b29, layS n p c, 29)] := st.nilat (i := 4) rfl
          refine Wl.callX [4] st (c_markUint32S (ba := b39) (n := m) (cp := m) (c := d) (sp := []) (z := (1 + 65 * n)) (by first | assumption | omega) (st.lend (L' := [(b39, arrU .u32 m d ++ [], 26)]) [4] (by decide) rfl)) rfl rfl ?_
          clear st
          intro w18 st
          replace st : St [] w w18 [(b39, arrU .u32 m (fun j => (1 + 65 * n) + j) ++ [], 26), (b37, layS n p__16 c__17 ++ [], 29), (b63, arrU .u32 m d, 26), (b58, layS n p c, 29), (b44, arrU .i64 (flN (fgQ seed p c d) n) (fun j => (fun z => z) (flA (fgQ seed p c d) n j)) ++ sp44, 2), (b33, arrU .i64 (flN (fgQ seed p c d) n) (fun j => (fun z => z) (flA (fgQ seed p c d) n j)) ++ sp33, 2), (b32, arrU .u32 m d, 26), (b29, layS n p c, 29)] := st
          refine Wl.pure (PR.assI rfl) ?_
          refine Wl.nil ?_
          refine tn ?_
          refine Wc.seq ?_
          refine Wc.seq ?_
          refine Wc.region rfl ?_
          refine Wl.pure (PR.moveI rfl) ?_
          refine Wl.pure (PR.lss (a := ((((1 + 65 * n) + m) : Nat) : Int)) (b := 0) rfl rfl) ?_
          refine Wl.pure (PR.moveB rfl) ?_
          refine Wl.splitF (q := ((((1 + 65 * n) + m) : Nat) : Int) < 0) rfl rfl (fun h19 => ?_) (fun h19 => ?_)
          · refine Wl.pure (PR.moveL rfl) ?_
            refine Wl.on rfl rfl ?_
            refine Wl.pure (PR.moveL rfl) ?_
            refine Wl.on rfl rfl ?_
            refine Wl.callV (c_laws_eqInt64S (A := some ⟨b44, 0, none⟩) (n := (flN (fgQ seed p c d) n)) (cp := c44) (c := (fun j => (fun z => z) (flA (fgQ seed p c d) n j))) (B := some ⟨b33, 0, none⟩) (cq := c33) ((st.rdA (i := 4) (n := (flN (fgQ seed p c d) n)) rfl (app_all (arrU_len _))).sl) ((st.rdA (i := 5) (n := (flN (fgQ seed p c d) n)) rfl (app_all (arrU_len _))).sl) (by first | assumption | omega)) rfl ?_
            intro w20 hbel
            replace st := st.call hbel
            clear hbel
            refine Wl.on rfl rfl ?_
            refine Wl.pure (PR.not_ rfl) ?_
            refine Wl.pure (PR.pickFB rfl rfl) ?_
            refine Wl.pure (PR.moveB rfl) ?_
            refine Wl.on rfl rfl ?_
            refine Wl.pure (PR.moveI rfl) ?_
            refine Wl.on rfl rfl ?_
            refine Wl.pure (PR.moveI rfl) ?_
            refine Wl.on rfl rfl ?_
            refine Wl.pure (PR.neqS (a := 0) rfl rfl) ?_
            refine Wl.pure (PR.pickFB rfl rfl) ?_
            refine Wl.nil ?_
            refine tn ?_
            refine Wc.condF rfl ?_
            refine Wc.skip ?_
            refine tn ?_
            refine Wc.seq ?_
            refine Wc.region rfl ?_
            refine Wl.pure (PR.assI rfl) ?_
            refine Wl.nil ?_
            refine tn ?_
            refine Wc.seq ?_
            refine Wc.region rfl ?_
            refine Wl.pure (PR.moveL rfl) ?_
            refine Wl.pure (PR.moveI rfl) ?_
            refine Wl.callX [4] st (c_markInt64S (ba := b44) (n := (flN (fgQ seed p c d) n)) (cp := c44) (c := (fun j => (fun z => z) (flA (fgQ seed p c d) n j))) (sp := sp44) (z := 1) (by first | assumption | omega) (st.lend (L' := [(b44, arrU .i64 (flN (fgQ seed p c d) n) (fun j => (fun z => z) (flA (fgQ seed p c d) n j)) ++ sp44, 2)]) [4] (by decide) rfl)) rfl rfl ?_
            clear st
            intro w21 st
            replace st : St [] w w21 [(b44, arrU .i64 (flN (fgQ seed p c d) n) (fun j => 1 + j) ++ sp44, 2), (b39, arrU .u32 m (fun j => (1 + 65 * n) + j) ++ [], 26), (b37, layS n p__16 c__17 ++ [], 29), (b63, arrU .u32 m d, 26), (b58, layS n p c, 29), (b33, arrU .i64 (flN (fgQ seed p c d) n) (fun j => (fun z => z) (flA (fgQ seed p c d) n j)) ++ sp33, 2), (b32, arrU .u32 m d, 26), (b29, layS n p c, 29)] := st
            refine Wl.pure (PR.assI rfl) ?_
            refine Wl.nil ?_
            refine tn ?_
            refine Wc.seq ?_
            refine Wc.region rfl ?_
            refine Wl.pure (PR.assI rfl) ?_
            refine Wl.nil ?_
            refine tn ?_
            refine Wc.seq ?_
            refine Wc.region rfl ?_
            refine Wl.pure (PR.moveL rfl) ?_
            refine Wl.pure (PR.moveI rfl) ?_
            refine Wl.callV (c_laws_heldInt64S (A := some ⟨b44, 0, none⟩) (n := (flN (fgQ seed p c d) n)) (cp := c44) (c := (fun j => 1 + j)) (z := 1) ((st.rdA (i := 0) (n := (flN (fgQ seed p c d) n)) rfl (app_all (arrU_len _))).sl) (by first | assumption | omega) (fun u hu => by first | rfl | omega)) rfl ?_
            intro w22 hbel
            replace st := st.call hbel
            clear hbel
            refine Wl.pure (PR.assI rfl) ?_
            refine Wl.nil ?_
            refine tn ?_
            refine Wc.seq ?_
            refine Wc.seq ?_
            refine Wc.region rfl ?_
            refine Wl.pure (PR.moveI rfl) ?_
            refine Wl.pure (PR.lss (a := (((1 + (flN (fgQ seed p c d) n)) : Nat) : Int)) (b := 0) rfl rfl) ?_
            refine Wl.nil ?_
            refine tn ?_
            refine Wc.condD (p := (((1 + (flN (fgQ seed p c d) n)) : Nat) : Int) < 0) rfl (fun h23 => ?_) (fun h23 => ?_)
            · refine Wc.seq ?_
              refine Wc.region rfl ?_
              refine Wl.pure (PR.assB rfl) ?_
              refine Wl.nil ?_
              refine tn ?_
              refine Wc.ret ?_
              refine tr ?_
              refine postL.tmp rfl rfl ?_
              refine RetV.of ?_ st.below
              refine congrArg Value.bool ?_
              first | rfl | (exfalso; omega) | (simp only [*, decide_true, decide_false, Bool.not_true, Bool.not_false]; done) | (simp; omega) | (rw [Bool.eq_iff_iff]; simp; omega) | simp_all
            · refine Wc.skip ?_
              refine tn ?_
              refine Wc.seq ?_
              refine Wc.seq ?_
              refine Wc.region rfl ?_
              refine Wl.pure (PR.moveI rfl) ?_
              refine Wl.pure (PR.moveI rfl) ?_
              refine Wl.pure (PR.neqS (a := (((1 + (flN (fgQ seed p c d) n)) : Nat) : Int)) rfl rfl) ?_
              refine Wl.nil ?_
              refine tn ?_
              refine Wc.condF rfl ?_
              refine Wc.skip ?_
              refine tn ?_
              refine Wc.seq ?_
              refine Wc.region rfl ?_
              refine Wl.pure (PR.moveL rfl) ?_
              refine Wl.callS st (c_laws_toLayerS (A := A) (n := n) (cp := cp) (p := p) (c := c) (hR.st st) hc (by first | assumption | omega)) rfl ?_
              clear st
              intro b98 w24 st
              refine Wl.pure (PR.moveI rfl) ?_
              refine Wl.pure (PR.moveL rfl) ?_
              refine Wl.callS st (c_laws_toUint32S (A := B) (n := m) (cp := cq) (c := d) (hB.st st) (by first | assumption | omega) hd) rfl ?_
              clear st
              intro b101 w25 st
              refine Wl.callXG [] st (c_impl_ForgedShares_t (A := some ⟨b98, 0, none⟩) (n := n) (cp := n) (p := p) (c := c) (seed := seed) (B := some ⟨b101, 0, none⟩) (m := m) (cq := m) (d := d) ((st.rdA (i := 1) (n := (n * 65)) rfl (all_sub (recV_len (s := 65) (layS_row _ _) _))).sl) hp hc (by first | assumption | omega) hs ((st.rdA (i := 0) (n := m) rfl (all_sub (arrU_len _))).sl) hd (by first | assumption | omega) (by first | assumption | omega) (by first | assumption | omega)) rfl rfl ?_
              clear st
              intro b102 c102 sp102 w26 hc102 hs102 st
              replace st : St [] w w26 [(b102, arrU .i64 (flN (fgQ seed p c d) n) (fun j => (fun z => z) (flA (fgQ seed p c d) n j)) ++ sp102, 2), (b101, arrU .u32 m d, 26), (b98, layS n p c, 29), (b44, arrU .i64 (flN (fgQ seed p c d) n) (fun j => 1 + j) ++ sp44, 2), (b39, arrU .u32 m (fun j => (1 + 65 * n) + j) ++ [], 26), (b37, layS n p__16 c__17 ++ [], 29), (b63, arrU .u32 m d, 26), (b58, layS n p c, 29), (b33, arrU .i64 (flN (fgQ seed p c d) n) (fun j => (fun z => z) (flA (fgQ seed p c d) n j)) ++ sp33, 2), (b32, arrU .u32 m d, 26), (b29, layS n p c, 29)] := st
              refine Wl.pure (PR.moveV (.tuple #[.slice (some ⟨b102, 0, none⟩) ((flN (fgQ seed p c d) n)) (c102), .int .i64 (0)]) rfl) ?_
              refine Wl.pure (PR.extr (i := 0) (vs := [.slice (some ⟨b102, 0, none⟩) ((flN (fgQ seed p c d) n)) (c102), .int .i64 (0)]) rfl rfl) ?_
              refine Wl.pure (PR.extr (i := 1) (vs := [.slice (some ⟨b102, 0, none⟩) ((flN (fgQ seed p c d) n)) (c102), .int .i64 (0)]) rfl rfl) ?_
              refine Wl.pure (PR.assL rfl) ?_
              refine Wl.pure (PR.assI rfl) ?_
              refine Wl.nil ?_
              refine tn ?_
              refine Wc.seq ?_
              refine Wc.seq ?_
              refine Wc.region rfl ?_
              refine Wl.pure (PR.moveL rfl) ?_
              refine Wl.pure (PR.moveL rfl) ?_
              refine Wl.callV (c_laws_eqInt64S (A := some ⟨b102, 0, none⟩) (n := (flN (fgQ seed p c d) n)) (cp := c102) (c := (fun j => (fun z => z) (flA (fgQ seed p c d) n j))) (B := some ⟨b33, 0, none⟩) (cq := c33) ((st.rdA (i := 0) (n := (flN (fgQ seed p c d) n)) rfl (app_all (arrU_len _))).sl) ((st.rdA (i := 8) (n := (flN (fgQ seed p c d) n)) rfl (app_all (arrU_len _))).sl) (by first | assumption | omega)) rfl ?_
              intro w27 hbel
              replace st := st.call hbel
              clear hbel
              refine Wl.pure (PR.not_ rfl) ?_
              refine Wl.pure (PR.moveB rfl) ?_
              refine Wl.on rfl rfl ?_
              refine Wl.pure (PR.moveI rfl) ?_
              refine Wl.on rfl rfl ?_
              refine Wl.pure (PR.moveI rfl) ?_
              refine Wl.on rfl rfl ?_
              refine Wl.pure (PR.neqS (a := 0) rfl rfl) ?_
              refine Wl.pure (PR.pickFB rfl rfl) ?_
              refine Wl.nil ?_
              refine tn ?_
              refine Wc.condF rfl ?_
              refine Wc.skip ?_
              refine tn ?_
              refine Wc.seq ?_
              refine Wc.region rfl ?_
              refine Wl.pure (PR.assI rfl) ?_
              refine Wl.nil ?_
              refine tn ?_
              refine Wc.seq ?_
              refine Wc.region rfl ?_
              refine Wl.pure (PR.moveL rfl) ?_
              refine Wl.pure (PR.moveI rfl) ?_
              refine Wl.callV (c_laws_heldInt64S (A := some ⟨b44, 0, none⟩) (n := (flN (fgQ seed p c d) n)) (cp := c44) (c := (fun j => 1 + j)) (z := 1) ((st.rdA (i := 3) (n := (flN (fgQ seed p c d) n)) rfl (app_all (arrU_len _))).sl) (by first | assumption | omega) (fun u hu => by first | rfl | omega)) rfl ?_
              intro w28 hbel
              replace st := st.call hbel
              clear hbel
              refine Wl.pure (PR.assI rfl) ?_
              refine Wl.nil ?_
              refine tn ?_
              refine Wc.seq ?_
              refine Wc.seq ?_
              refine Wc.region rfl ?_
              refine Wl.pure (PR.moveI rfl) ?_
              refine Wl.pure (PR.lss (a := (((1 + (flN (fgQ seed p c d) n)) : Nat) : Int)) (b := 0) rfl rfl) ?_
              refine Wl.nil ?_
              refine tn ?_
              refine Wc.condD (p := (((1 + (flN (fgQ seed p c d) n)) : Nat) : Int) < 0) rfl (fun h29 => ?_) (fun h29 => ?_)
              · refine Wc.seq ?_
                refine Wc.region rfl ?_
                refine Wl.pure (PR.assB rfl) ?_
                refine Wl.nil ?_
                refine tn ?_
                refine Wc.ret ?_
                refine tr ?_
                refine postL.tmp rfl rfl ?_
                refine RetV.of ?_ st.below
                refine congrArg Value.bool ?_
                first | rfl | (exfalso; omega) | (simp only [*, decide_true, decide_false, Bool.not_true, Bool.not_false]; done) | (simp; omega) | (rw [Bool.eq_iff_iff]; simp; omega) | simp_all
              · refine Wc.skip ?_
                refine tn ?_
                refine Wc.seq ?_
                refine Wc.seq ?_
                refine Wc.region rfl ?_
                refine Wl.pure (PR.moveI rfl) ?_
                refine Wl.pure (PR.moveI rfl) ?_
                refine Wl.pure (PR.neqS (a := (((1 + (flN (fgQ seed p c d) n)) : Nat) : Int)) rfl rfl) ?_
                refine Wl.nil ?_
                refine tn ?_
                refine Wc.condF rfl ?_
                refine Wc.skip ?_
                refine tn ?_
                refine Wc.seq ?_
                refine Wc.region rfl ?_
                refine Wl.pure (PR.assB rfl) ?_
                refine Wl.nil ?_
                refine tn ?_
                refine Wc.ret ?_
                refine postL.tmp rfl rfl ?_
                exact RetV.of rfl st.below
          · refine Wl.off rfl rfl rfl ?_
            refine Wl.off rfl rfl rfl ?_
            refine Wl.off rfl rfl rfl ?_
            refine Wl.pure (PR.pickTB rfl rfl) ?_
            refine Wl.pure (PR.moveB rfl) ?_
            refine Wl.off rfl rfl rfl ?_
            refine Wl.off rfl rfl rfl ?_
            refine Wl.off rfl rfl rfl ?_
            refine Wl.pure (PR.pickTB rfl rfl) ?_
            refine Wl.nil ?_
            refine tn ?_
            refine Wc.condT rfl ?_
            refine Wc.seq ?_
            refine Wc.region rfl ?_
            refine Wl.pure (PR.assB rfl) ?_
            refine Wl.nil ?_
            refine tn ?_
            refine Wc.ret ?_
            refine tr ?_
            refine postL.tmp rfl rfl ?_
            refine RetV.of ?_ st.below
            refine congrArg Value.bool ?_
            first | rfl | (exfalso; omega) | (simp only [*, decide_true, decide_false, Bool.not_true, Bool.not_false]; done) | (simp; omega) | (rw [Bool.eq_iff_iff]; simp; omega) | simp_all
        · obtain ⟨hn1, hz1⟩ := szL_ok (n := n) (z := 1048576) (by omega)
          have hn8 := (mksC_spec hcode).2
          have hfl := flN_le (fgQ seed p c d) n
          refine Wc.region rfl ?_
          refine Wl.pure (PR.moveL rfl) ?_
          refine Wl.callS st (c_laws_toLayerS (A := A) (n := n) (cp := cp) (p := p) (c := c) (hR.st st) hc (by first | assumption | omega)) rfl ?_
          clear st
          intro b29 w30 st
          refine Wl.pure (PR.moveI rfl) ?_
          refine Wl.pure (PR.moveL rfl) ?_
          refine Wl.callS st (c_laws_toUint32S (A := B) (n := m) (cp := cq) (c := d) (hB.st st) (by first | assumption | omega) hd) rfl ?_
          clear st
          intro b32 w31 st
          refine Wl.callXG [] st (c_spec_ForgedShares_f2 (A := some ⟨b29, 0, none⟩) (n := n) (cp := n) (p := p) (c := c) (seed := seed) (B := some ⟨b32, 0, none⟩) (m := m) (cq := m) (d := d) ((st.rdA (i := 1) (n := (n * 65)) rfl (all_sub (recV_len (s := 65) (layS_row _ _) _))).sl) hp hc (by first | assumption | omega) hs ((st.rdA (i := 0) (n := m) rfl (all_sub (arrU_len _))).sl) hd (by first | assumption | omega) (by first | assumption | omega) (by first | assumption | omega)) rfl rfl ?_
          clear st
          intro b33_33 c33_33 sp33_33 w32 hc33_33 hs33_33 st
          replace st : St [] w w32 [(b33_33, arrU .i64 0 (fun _ => 0) ++ sp33_33, 2), (b32, arrU .u32 m d, 26), (b29, layS n p c, 29)] := st
          refine Wl.pure (PR.moveV (.tuple #[.slice (some ⟨b33_33, 0, none⟩) (0) (c33_33), .int .i64 (2)]) rfl) ?_
          refine Wl.pure (PR.extr (i := 0) (vs := [.slice (some ⟨b33_33, 0, none⟩) (0) (c33_33), .int .i64 (2)]) rfl rfl) ?_
          refine Wl.pure (PR.extr (i := 1) (vs := [.slice (some ⟨b33_33, 0, none⟩) (0) (c33_33), .int .i64 (2)]) rfl rfl) ?_
          refine Wl.pure (PR.assL rfl) ?_
          refine Wl.pure (PR.assI rfl) ?_
          refine Wl.nil ?_
          refine tn ?_
          refine Wc.seq ?_
          refine Wc.region rfl ?_
          refine Wl.pure (PR.moveL rfl) ?_
          refine Wl.callS st (c_laws_toLayerS (A := A) (n := n) (cp := cp) (p := p) (c := c) (hR.st st) hc (by first | assumption | omega)) rfl ?_
          clear st
          intro b37 w34 st
          refine Wl.pure (PR.assL rfl) ?_
          refine Wl.nil ?_
          refine tn ?_
          refine Wc.seq ?_
          refine Wc.region rfl ?_
          refine Wl.pure (PR.moveL rfl) ?_
          refine Wl.callS st (c_laws_toUint32S (A := B) (n := m) (cp := cq) (c := d) (hB.st st) (by first | assumption | omega) hd) rfl ?_
          clear st
          intro b39 w35 st
          refine Wl.pure (PR.assL rfl) ?_
          refine Wl.nil ?_
          refine tn ?_
          refine Wc.seq ?_
          refine Wc.region rfl ?_
          refine Wl.pure (PR.moveL rfl) ?_
          refine Wl.pure (PR.moveI rfl) ?_
          refine Wl.pure (PR.moveL rfl) ?_
          refine Wl.callV (c_impl_ForgedShares_f2 (A := some ⟨b37, 0, none⟩) (n := n) (cp := n) (p := p) (c := c) (seed := seed) (B := some ⟨b39, 0, none⟩) (m := m) (cq := m) (d := d) ((st.rdA (i := 1) (n := (n * 65)) rfl (all_sub (recV_len (s := 65) (layS_row _ _) _))).sl) hp hc (by first | assumption | omega) hs ((st.rdA (i := 0) (n := m) rfl (all_sub (arrU_len _))).sl) hd (by first | assumption | omega) (by first | assumption | omega) (by first | assumption | omega)) rfl ?_
          intro w36 hbel
          replace st := st.call hbel
          clear hbel
          refine Wl.pure (PR.moveV (.tuple #[.slice (none) (0) (0), .int .i64 (2)]) rfl) ?_
          refine Wl.pure (PR.extr (i := 0) (vs := [.slice (none) (0) (0), .int .i64 (2)]) rfl rfl) ?_
          refine Wl.pure (PR.extr (i := 1) (vs := [.slice (none) (0) (0), .int .i64 (2)]) rfl rfl) ?_
          refine Wl.pure (PR.assL rfl) ?_
          refine Wl.pure (PR.assI rfl) ?_
          refine Wl.nil ?_
          refine tn ?_
          refine Wc.seq ?_
          refine Wc.seq ?_
          refine Wc.region rfl ?_
          refine Wl.pure (PR.moveL rfl) ?_
          refine Wl.pure (PR.moveL rfl) ?_
          refine Wl.callV (c_laws_eqInt64S (A := none) (n := 0) (cp := 0) (c := (fun _ => 0)) (B := some ⟨b33_33, 0, none⟩) (cq := c33_33) (fun h => absurd h (by decide)) ((st.rdA (i := 2) (n := 0) rfl (app_all (arrU_len _))).sl) (by first | assumption | omega)) rfl ?_
          intro w37 hbel
          replace st := st.call hbel
          clear hbel
          refine Wl.pure (PR.not_ rfl) ?_
          refine Wl.pure (PR.moveB rfl) ?_
          refine Wl.on rfl rfl ?_
          refine Wl.pure (PR.moveI rfl) ?_
          refine Wl.on rfl rfl ?_
          refine Wl.pure (PR.moveI rfl) ?_
          refine Wl.on rfl rfl ?_
          refine Wl.pure (PR.neqS (a := 2) rfl rfl) ?_
          refine Wl.pure (PR.pickFB rfl rfl) ?_
          refine Wl.nil ?_
          refine tn ?_
          refine Wc.condF rfl ?_
          refine Wc.skip ?_
          refine tn ?_
          refine Wc.seq ?_
          refine Wc.seq ?_
          refine Wc.region rfl ?_
          refine Wl.pure (PR.moveL rfl) ?_
          refine Wl.pure (PR.moveL rfl) ?_
          refine Wl.callS st (c_laws_toLayerS (A := A) (n := n) (cp := cp) (p := p) (c := c) (hR.st st) hc (by first | assumption | omega)) rfl ?_
          clear st
          intro b58 w38 st
          refine Wl.callV (c_laws_eqLayerS (A := some ⟨b37, 0, none⟩) (n := n) (cp := n) (p := p) (c := c) (B := some ⟨b58, 0, none⟩) (cq := n) ((st.rdA (i := 2) (n := (n * 65)) rfl (all_sub (recV_len (s := 65) (layS_row _ _) _))).sl) ((st.rdA (i := 0) (n := (n * 65)) rfl (all_sub (recV_len (s := 65) (layS_row _ _) _))).sl) (by first | assumption | omega)) rfl ?_
          intro w39 hbel
          replace st := st.call hbel
          clear hbel
          refine Wl.pure (PR.not_ rfl) ?_
          refine Wl.nil ?_
          refine tn ?_
          refine Wc.condF rfl ?_
          refine Wc.skip ?_
          refine tn ?_
          refine Wc.seq ?_
          refine Wc.seq ?_
          refine Wc.region rfl ?_
          refine Wl.pure (PR.moveL rfl) ?_
          refine Wl.pure (PR.moveL rfl) ?_
          refine Wl.callS st (c_laws_toUint32S (A := B) (n := m) (cp := cq) (c := d) (hB.st st) (by first | assumption | omega) hd) rfl ?_
          clear st
          intro b63 w40 st
          refine Wl.callV (c_laws_eqUint32S (A := some ⟨b39, 0, none⟩) (n := m) (cp := m) (c := d) (B := some ⟨b63, 0, none⟩) (cq := m) ((st.rdA (i := 2) (n := m) rfl (all_sub (arrU_len _))).sl) ((st.rdA (i := 0) (n := m) rfl (all_sub (arrU_len _))).sl) (by first | assumption | omega)) rfl ?_
          intro w41 hbel
          replace st := st.call hbel
          clear hbel
          refine Wl.pure (PR.not_ rfl) ?_
          refine Wl.nil ?_
          refine tn ?_
          refine Wc.condF rfl ?_
          refine Wc.skip ?_
          refine tn ?_
          refine Wc.seq ?_
          refine Wc.region rfl ?_
          refine Wl.pure (PR.assI rfl) ?_
          refine Wl.nil ?_
          refine tn ?_
          refine Wc.seq ?_
          refine Wc.region rfl ?_
          refine Wl.pure (PR.moveL rfl) ?_
          refine Wl.pure (PR.moveI rfl) ?_
          replace st : St [] w w41 [(b63, arrU .u32 m d, 26), (b58, layS n p c, 29), (b39, arrU .u32 m d, 26), (b37, layS n p c ++ [], 29), (b33_33, arrU .i64 0 (fun _ => 0) ++ sp33_33, 2), (b32, arrU .u32 m d, 26), (b29, layS n p c, 29)] := st.nilat (i := 3) rfl
          refine Wl.callXE [3] st (c_laws_markLayerS (ba := b37) (n := n) (cp := n) (p := p) (c := c) (sp := []) (z := 1) (by first | assumption | omega) (by first | assumption | omega) (st.lend (L' := [(b37, layS n p c ++ [], 29)]) [3] (by decide) rfl)) rfl rfl ?_
          clear st
          rintro ⟨p__43, c__44⟩ _ w42 st
          try dsimp only at st 
          replace st : St [] w w42 [(b37, layS n p__43 c__44 ++ [], 29), (b63, arrU .u32 m d, 26), (b58, layS n p c, 29), (b39, arrU .u32 m d, 26), (b33_33, arrU .i64 0 (fun _ => 0) ++ sp33_33, 2), (b32, arrU .u32 m d, 26), (b29, layS n p c, 29)] := st
          refine Wl.pure (PR.assI rfl) ?_
          refine Wl.nil ?_
          refine tn ?_
          refine Wc.seq ?_
          refine Wc.region rfl ?_
          refine Wl.pure (PR.moveL rfl) ?_
          refine Wl.pure (PR.moveI rfl) ?_
          replace st : St [] w w42 [(b37, layS n p__43 c__44 ++ [], 29), (b63, arrU .u32 m d, 26), (b58, layS n p c, 29), (b39, arrU .u32 m d ++ [], 26), (b33_33, arrU .i64 0 (fun _ => 0) ++ sp33_33, 2), (b32, arrU .u32 m d, 26), (b29, layS n p c, 29)] := st.nilat (i := 3) rfl
          refine Wl.callX [3] st (c_markUint32S (ba := b39) (n := m) (cp := m) (c := d) (sp := []) (z := (1 + 65 * n)) (by first | assumption | omega) (st.lend (L' := [(b39, arrU .u32 m d ++ [], 26)]) [3] (by decide) rfl)) rfl rfl ?_
          clear st
          intro w45 st
          replace st : St [] w w45 [(b39, arrU .u32 m (fun j => (1 + 65 * n) + j) ++ [], 26), (b37, layS n p__43 c__44 ++ [], 29), (b63, arrU .u32 m d, 26), (b58, layS n p c, 29), (b33_33, arrU .i64 0 (fun _ => 0) ++ sp33_33, 2), (b32, arrU .u32 m d, 26), (b29, layS n p c, 29)] := st
          refine Wl.pure (PR.assI rfl) ?_
          refine Wl.nil ?_
          refine tn ?_
          refine Wc.seq ?_
          refine Wc.seq ?_
          refine Wc.region rfl ?_
          refine Wl.pure (PR.moveI rfl) ?_
          refine Wl.pure (PR.lss (a := ((((1 + 65 * n) + m) : Nat) : Int)) (b := 0) rfl rfl) ?_
          refine Wl.pure (PR.moveB rfl) ?_
          refine Wl.splitF (q := ((((1 + 65 * n) + m) : Nat) : Int) < 0) rfl rfl (fun h46 => ?_) (fun h46 => ?_)
          · refine Wl.pure (PR.moveL rfl) ?_
            refine Wl.on rfl rfl ?_
            refine Wl.pure (PR.moveL rfl) ?_
            refine Wl.on rfl rfl ?_
            refine Wl.callV (c_laws_eqInt64S (A := none) (n := 0) (cp := 0) (c := (fun _ => 0)) (B := some ⟨b33_33, 0, none⟩) (cq := c33_33) (fun h => absurd h (by decide)) ((st.rdA (i := 4) (n := 0) rfl (app_all (arrU_len _))).sl) (by first | assumption | omega)) rfl ?_
            intro w47 hbel
            replace st := st.call hbel
            clear hbel
            refine Wl.on rfl rfl ?_
            refine Wl.pure (PR.not_ rfl) ?_
            refine Wl.pure (PR.pickFB rfl rfl) ?_
            refine Wl.pure (PR.moveB rfl) ?_
            refine Wl.on rfl rfl ?_
            refine Wl.pure (PR.moveI rfl) ?_
            refine Wl.on rfl rfl ?_
            refine Wl.pure (PR.moveI rfl) ?_
            refine Wl.on rfl rfl ?_
            refine Wl.pure (PR.neqS (a := 2) rfl rfl) ?_
            refine Wl.pure (PR.pickFB rfl rfl) ?_
            refine Wl.nil ?_
            refine tn ?_
            refine Wc.condF rfl ?_
            refine Wc.skip ?_
            refine tn ?_
            refine Wc.seq ?_
            refine Wc.region rfl ?_
            refine Wl.pure (PR.assI rfl) ?_
            refine Wl.nil ?_
            refine tn ?_
            refine Wc.seq ?_
            refine Wc.region rfl ?_
            refine Wl.pure (PR.moveL rfl) ?_
            refine Wl.pure (PR.moveI rfl) ?_
            refine Wl.callV (c_markInt64S0 (A := none) (cp := 0) (z := 1)) rfl ?_
            intro w48 hbel
            replace st := st.call hbel
            clear hbel
            refine Wl.pure (PR.assI rfl) ?_
            refine Wl.nil ?_
            refine tn ?_
            refine Wc.seq ?_
            refine Wc.region rfl ?_
            refine Wl.pure (PR.assI rfl) ?_
            refine Wl.nil ?_
            refine tn ?_
            refine Wc.seq ?_
            refine Wc.region rfl ?_
            refine Wl.pure (PR.moveL rfl) ?_
            refine Wl.pure (PR.moveI rfl) ?_
            refine Wl.callV (c_laws_heldInt64S (A := none) (n := 0) (cp := 0) (c := (fun _ => 0)) (z := 1) (fun h => absurd h (by decide)) (by first | assumption | omega) (fun u hu => by first | rfl | omega)) rfl ?_
            intro w49 hbel
            replace st := st.call hbel
            clear hbel
            refine Wl.pure (PR.assI rfl) ?_
            refine Wl.nil ?_
            refine tn ?_
            refine Wc.seq ?_
            refine Wc.seq ?_
            refine Wc.region rfl ?_
            refine Wl.pure (PR.moveI rfl) ?_
            refine Wl.pure (PR.lss (a := (((1 + 0) : Nat) : Int)) (b := 0) rfl rfl) ?_
            refine Wl.nil ?_
            refine tn ?_
            refine Wc.condD (p := (((1 + 0) : Nat) : Int) < 0) rfl (fun h50 => ?_) (fun h50 => ?_)
            · refine Wc.seq ?_
              refine Wc.region rfl ?_
              refine Wl.pure (PR.assB rfl) ?_
              refine Wl.nil ?_
              refine tn ?_
              refine Wc.ret ?_
              refine tr ?_
              refine postL.tmp rfl rfl ?_
              refine RetV.of ?_ st.below
              refine congrArg Value.bool ?_
              first | rfl | (exfalso; omega) | (simp only [*, decide_true, decide_false, Bool.not_true, Bool.not_false]; done) | (simp; omega) | (rw [Bool.eq_iff_iff]; simp; omega) | simp_all
            · refine Wc.skip ?_
              refine tn ?_
              refine Wc.seq ?_
              refine Wc.seq ?_
              refine Wc.region rfl ?_
              refine Wl.pure (PR.moveI rfl) ?_
              refine Wl.pure (PR.moveI rfl) ?_
              refine Wl.pure (PR.neq (a := (((1 + 0) : Nat) : Int)) (b := 1) rfl rfl) ?_
              refine Wl.nil ?_
              refine tn ?_
              refine Wc.condN (p := (((1 + 0) : Nat) : Int) = 1) rfl (fun h51 => ?_) (fun h51 => ?_)
              · refine Wc.seq ?_
                refine Wc.region rfl ?_
                refine Wl.pure (PR.assB rfl) ?_
                refine Wl.nil ?_
                refine tn ?_
                refine Wc.ret ?_
                refine tr ?_
                refine postL.tmp rfl rfl ?_
                refine RetV.of ?_ st.below
                refine congrArg Value.bool ?_
                first | rfl | (exfalso; omega) | (simp only [*, decide_true, decide_false, Bool.not_true, Bool.not_false]; done) | (simp; omega) | (rw [Bool.eq_iff_iff]; simp; omega) | simp_all
              · refine Wc.skip ?_
                refine tn ?_
                refine Wc.seq ?_
                refine Wc.region rfl ?_
                refine Wl.pure (PR.moveL rfl) ?_
                refine Wl.callS st (c_laws_toLayerS (A := A) (n := n) (cp := cp) (p := p) (c := c) (hR.st st) hc (by first | assumption | omega)) rfl ?_
                clear st
                intro b98 w52 st
                refine Wl.pure (PR.moveI rfl) ?_
                refine Wl.pure (PR.moveL rfl) ?_
                refine Wl.callS st (c_laws_toUint32S (A := B) (n := m) (cp := cq) (c := d) (hB.st st) (by first | assumption | omega) hd) rfl ?_
                clear st
                intro b101 w53 st
                refine Wl.callV (c_impl_ForgedShares_f2 (A := some ⟨b98, 0, none⟩) (n := n) (cp := n) (p := p) (c := c) (seed := seed) (B := some ⟨b101, 0, none⟩) (m := m) (cq := m) (d := d) ((st.rdA (i := 1) (n := (n * 65)) rfl (all_sub (recV_len (s := 65) (layS_row _ _) _))).sl) hp hc (by first | assumption | omega) hs ((st.rdA (i := 0) (n := m) rfl (all_sub (arrU_len _))).sl) hd (by first | assumption | omega) (by first | assumption | omega) (by first | assumption | omega)) rfl ?_
                intro w54 hbel
                replace st := st.call hbel
                clear hbel
                refine Wl.pure (PR.moveV (.tuple #[.slice (none) (0) (0), .int .i64 (2)]) rfl) ?_
                refine Wl.pure (PR.extr (i := 0) (vs := [.slice (none) (0) (0), .int .i64 (2)]) rfl rfl) ?_
                refine Wl.pure (PR.extr (i := 1) (vs := [.slice (none) (0) (0), .int .i64 (2)]) rfl rfl) ?_
                refine Wl.pure (PR.assL rfl) ?_
                refine Wl.pure (PR.assI rfl) ?_
                refine Wl.nil ?_
                refine tn ?_
                refine Wc.seq ?_
                refine Wc.seq ?_
                refine Wc.region rfl ?_
                refine Wl.pure (PR.moveL rfl) ?_
                refine Wl.pure (PR.moveL rfl) ?_
                refine Wl.callV (c_laws_eqInt64S (A := none) (n := 0) (cp := 0) (c := (fun _ => 0)) (B := some ⟨b33_33, 0, none⟩) (cq := c33_33) (fun h => absurd h (by decide)) ((st.rdA (i := 6) (n := 0) rfl (app_all (arrU_len _))).sl) (by first | assumption | omega)) rfl ?_
                intro w55 hbel
                replace st := st.call hbel
                clear hbel
                refine Wl.pure (PR.not_ rfl) ?_
                refine Wl.pure (PR.moveB rfl) ?_
                refine Wl.on rfl rfl ?_
                refine Wl.pure (PR.moveI rfl) ?_
                refine Wl.on rfl rfl ?_
                refine Wl.pure (PR.moveI rfl) ?_
                refine Wl.on rfl rfl ?_
                refine Wl.pure (PR.neqS (a := 2) rfl rfl) ?_
                refine Wl.pure (PR.pickFB rfl rfl) ?_
                refine Wl.nil ?_
                refine tn ?_
                refine Wc.condF rfl ?_
                refine Wc.skip ?_
                refine tn ?_
                refine Wc.seq ?_
                refine Wc.region rfl ?_
                refine Wl.pure (PR.assI rfl) ?_
                refine Wl.nil ?_
                refine tn ?_
                refine Wc.seq ?_
                refine Wc.region rfl ?_
                refine Wl.pure (PR.moveL rfl) ?_
                refine Wl.pure (PR.moveI rfl) ?_
                refine Wl.callV (c_laws_heldInt64S (A := none) (n := 0) (cp := 0) (c := (fun _ => 0)) (z := 1) (fun h => absurd h (by decide)) (by first | assumption | omega) (fun u hu => by first | rfl | omega)) rfl ?_
                intro w56 hbel
                replace st := st.call hbel
                clear hbel
                refine Wl.pure (PR.assI rfl) ?_
                refine Wl.nil ?_
                refine tn ?_
                refine Wc.seq ?_
                refine Wc.seq ?_
                refine Wc.region rfl ?_
                refine Wl.pure (PR.moveI rfl) ?_
                refine Wl.pure (PR.lss (a := (((1 + 0) : Nat) : Int)) (b := 0) rfl rfl) ?_
                refine Wl.nil ?_
                refine tn ?_
                refine Wc.condD (p := (((1 + 0) : Nat) : Int) < 0) rfl (fun h57 => ?_) (fun h57 => ?_)
                · refine Wc.seq ?_
                  refine Wc.region rfl ?_
                  refine Wl.pure (PR.assB rfl) ?_
                  refine Wl.nil ?_
                  refine tn ?_
                  refine Wc.ret ?_
                  refine tr ?_
                  refine postL.tmp rfl rfl ?_
                  refine RetV.of ?_ st.below
                  refine congrArg Value.bool ?_
                  first | rfl | (exfalso; omega) | (simp only [*, decide_true, decide_false, Bool.not_true, Bool.not_false]; done) | (simp; omega) | (rw [Bool.eq_iff_iff]; simp; omega) | simp_all
                · refine Wc.skip ?_
                  refine tn ?_
                  refine Wc.seq ?_
                  refine Wc.seq ?_
                  refine Wc.region rfl ?_
                  refine Wl.pure (PR.moveI rfl) ?_
                  refine Wl.pure (PR.moveI rfl) ?_
                  refine Wl.pure (PR.neq (a := (((1 + 0) : Nat) : Int)) (b := 1) rfl rfl) ?_
                  refine Wl.nil ?_
                  refine tn ?_
                  refine Wc.condN (p := (((1 + 0) : Nat) : Int) = 1) rfl (fun h58 => ?_) (fun h58 => ?_)
                  · refine Wc.seq ?_
                    refine Wc.region rfl ?_
                    refine Wl.pure (PR.assB rfl) ?_
                    refine Wl.nil ?_
                    refine tn ?_
                    refine Wc.ret ?_
                    refine tr ?_
                    refine postL.tmp rfl rfl ?_
                    refine RetV.of ?_ st.below
                    refine congrArg Value.bool ?_
                    first | rfl | (exfalso; omega) | (simp only [*, decide_true, decide_false, Bool.not_true, Bool.not_false]; done) | (simp; omega) | (rw [Bool.eq_iff_iff]; simp; omega) | simp_all
                  · refine Wc.skip ?_
                    refine tn ?_
                    refine Wc.seq ?_
                    refine Wc.region rfl ?_
                    refine Wl.pure (PR.assB rfl) ?_
                    refine Wl.nil ?_
                    refine tn ?_
                    refine Wc.ret ?_
                    refine postL.tmp rfl rfl ?_
                    exact RetV.of rfl st.below
          · refine Wl.off rfl rfl rfl ?_
            refine Wl.off rfl rfl rfl ?_
            refine Wl.off rfl rfl rfl ?_
            refine Wl.pure (PR.pickTB rfl rfl) ?_
            refine Wl.pure (PR.moveB rfl) ?_
            refine Wl.off rfl rfl rfl ?_
            refine Wl.off rfl rfl rfl ?_
            refine Wl.off rfl rfl rfl ?_
            refine Wl.pure (PR.pickTB rfl rfl) ?_
            refine Wl.nil ?_
            refine tn ?_
            refine Wc.condT rfl ?_
            refine Wc.seq ?_
            refine Wc.region rfl ?_
            refine Wl.pure (PR.assB rfl) ?_
            refine Wl.nil ?_
            refine tn ?_
            refine Wc.ret ?_
            refine tr ?_
            refine postL.tmp rfl rfl ?_
            refine RetV.of ?_ st.below
            refine congrArg Value.bool ?_
            first | rfl | (exfalso; omega) | (simp only [*, decide_true, decide_false, Bool.not_true, Bool.not_false]; done) | (simp; omega) | (rw [Bool.eq_iff_iff]; simp; omega) | simp_all
      · obtain ⟨hn1, hz1⟩ := szL_ok (n := n) (z := 1048576) (by omega)
        have hfl := flN_le (fgQ seed p c d) n
        refine Wc.region rfl ?_
        refine Wl.pure (PR.moveL rfl) ?_
        refine Wl.callS st (c_laws_toLayerS (A := A) (n := n) (cp := cp) (p := p) (c := c) (hR.st st) hc (by first | assumption | omega)) rfl ?_
        clear st
        intro b29 w59 st
        refine Wl.pure (PR.moveI rfl) ?_
        refine Wl.pure (PR.moveL rfl) ?_
        refine Wl.callS st (c_laws_toUint32S (A := B) (n := m) (cp := cq) (c := d) (hB.st st) (by first | assumption | omega) hd) rfl ?_
        clear st
        intro b32 w60 st
        refine Wl.callXG [] st (c_spec_ForgedShares_f1 (A := some ⟨b29, 0, none⟩) (n := n) (cp := n) (p := p) (c := c) (seed := seed) (B := some ⟨b32, 0, none⟩) (m := m) (cq := m) (d := d) ((st.rdA (i := 1) (n := (n * 65)) rfl (all_sub (recV_len (s := 65) (layS_row _ _) _))).sl) hp hc (by first | assumption | omega) hs ((st.rdA (i := 0) (n := m) rfl (all_sub (arrU_len _))).sl) hd (by first | assumption | omega) (by first | assumption | omega)) rfl rfl ?_
        clear st
        intro b33_62 c33_62 sp33_62 w61 hc33_62 hs33_62 st
        replace st : St [] w w61 [(b33_62, arrU .i64 0 (fun _ => 0) ++ sp33_62, 2), (b32, arrU .u32 m d, 26), (b29, layS n p c, 29)] := st
        refine Wl.pure (PR.moveV (.tuple #[.slice (some ⟨b33_62, 0, none⟩) (0) (c33_62), .int .i64 (((mksC n p c : Nat) : Int))]) rfl) ?_
        refine Wl.pure (PR.extr (i := 0) (vs := [.slice (some ⟨b33_62, 0, none⟩) (0) (c33_62), .int .i64 (((mksC n p c : Nat) : Int))]) rfl rfl) ?_
        refine Wl.pure (PR.extr (i := 1) (vs := [.slice (some ⟨b33_62, 0, none⟩) (0) (c33_62), .int .i64 (((mksC n p c : Nat) : Int))]) rfl rfl) ?_
        refine Wl.pure (PR.assL rfl) ?_
        refine Wl.pure (PR.assI rfl) ?_
        refine Wl.nil ?_
        refine tn ?_
        refine Wc.seq ?_
        refine Wc.region rfl ?_
        refine Wl.pure (PR.moveL rfl) ?_
        refine Wl.callS st (c_laws_toLayerS (A := A) (n := n) (cp := cp) (p := p) (c := c) (hR.st st) hc (by first | assumption | omega)) rfl ?_
        clear st
        intro b37 w63 st
        refine Wl.pure (PR.assL rfl) ?_
        refine Wl.nil ?_
        refine tn ?_
        refine Wc.seq ?_
        refine Wc.region rfl ?_
        refine Wl.pure (PR.moveL rfl) ?_
        refine Wl.callS st (c_laws_toUint32S (A := B) (n := m) (cp := cq) (c := d) (hB.st st) (by first | assumption | omega) hd) rfl ?_
        clear st
        intro b39 w64 st
        refine Wl.pure (PR.assL rfl) ?_
        refine Wl.nil ?_
        refine tn ?_
        refine Wc.seq ?_
        refine Wc.region rfl ?_
        refine Wl.pure (PR.moveL rfl) ?_
        refine Wl.pure (PR.moveI rfl) ?_
        refine Wl.pure (PR.moveL rfl) ?_
        refine Wl.callV (c_impl_ForgedShares_f1 (A := some ⟨b37, 0, none⟩) (n := n) (cp := n) (p := p) (c := c) (seed := seed) (B := some ⟨b39, 0, none⟩) (m := m) (cq := m) (d := d) ((st.rdA (i := 1) (n := (n * 65)) rfl (all_sub (recV_len (s := 65) (layS_row _ _) _))).sl) hp hc (by first | assumption | omega) hs ((st.rdA (i := 0) (n := m) rfl (all_sub (arrU_len _))).sl) hd (by first | assumption | omega) (by first | assumption | omega)) rfl ?_
        intro w65 hbel
        replace st := st.call hbel
        clear hbel
        refine Wl.pure (PR.moveV (.tuple #[.slice (none) (0) (0), .int .i64 (((mksC n p c : Nat) : Int))]) rfl) ?_
        refine Wl.pure (PR.extr (i := 0) (vs := [.slice (none) (0) (0), .int .i64 (((mksC n p c : Nat) : Int))]) rfl rfl) ?_
        refine Wl.pure (PR.extr (i := 1) (vs := [.slice (none) (0) (0), .int .i64 (((mksC n p c : Nat) : Int))]) rfl rfl) ?_
        refine Wl.pure (PR.assL rfl) ?_
        refine Wl.pure (PR.assI rfl) ?_
        refine Wl.nil ?_
        refine tn ?_
        refine Wc.seq ?_
        refine Wc.seq ?_
        refine Wc.region rfl ?_
        refine Wl.pure (PR.moveL rfl) ?_
        refine Wl.pure (PR.moveL rfl) ?_
        refine Wl.callV (c_laws_eqInt64S (A := none) (n := 0) (cp := 0) (c := (fun _ => 0)) (B := some ⟨b33_62, 0, none⟩) (cq := c33_62) (fun h => absurd h (by decide)) ((st.rdA (i := 2) (n := 0) rfl (app_all (arrU_len _))).sl) (by first | assumption | omega)) rfl ?_
        intro w66 hbel
        replace st := st.call hbel
        clear hbel
        refine Wl.pure (PR.not_ rfl) ?_
        refine Wl.pure (PR.moveB rfl) ?_
        refine Wl.on rfl rfl ?_
        refine Wl.pure (PR.moveI rfl) ?_
        refine Wl.on rfl rfl ?_
        refine Wl.pure (PR.moveI rfl) ?_
        refine Wl.on rfl rfl ?_
        refine Wl.pure (PR.neqS (a := ((mksC n p c : Nat) : Int)) rfl rfl) ?_
        refine Wl.pure (PR.pickFB rfl rfl) ?_
        refine Wl.nil ?_
        refine tn ?_
        refine Wc.condF rfl ?_
        refine Wc.skip ?_
        refine tn ?_
        refine Wc.seq ?_
        refine Wc.seq ?_
        refine Wc.region rfl ?_
        refine Wl.pure (PR.moveL rfl) ?_
        refine Wl.pure (PR.moveL rfl) ?_
        refine Wl.callS st (c_laws_toLayerS (A := A) (n := n) (cp := cp) (p := p) (c := c) (hR.st st) hc (by first | assumption | omega)) rfl ?_
        clear st
        intro b58 w67 st
        refine Wl.callV (c_laws_eqLayerS (A := some ⟨b37, 0, none⟩) (n := n) (cp := n) (p := p) (c := c) (B := some ⟨b58, 0, none⟩) (cq := n) ((st.rdA (i := 2) (n := (n * 65)) rfl (all_sub (recV_len (s := 65) (layS_row _ _) _))).sl) ((st.rdA (i := 0) (n := (n * 65)) rfl (all_sub (recV_len (s := 65) (layS_row _ _) _))).sl) (by first | assumption | omega)) rfl ?_
        intro w68 hbel
        replace st := st.call hbel
        clear hbel
        refine Wl.pure (PR.not_ rfl) ?_
        refine Wl.nil ?_
        refine tn ?_
        refine Wc.condF rfl ?_
        refine Wc.skip ?_
        refine tn ?_
        refine Wc.seq ?_
        refine Wc.seq ?_
        refine Wc.region rfl ?_
        refine Wl.pure (PR.moveL rfl) ?_
        refine Wl.pure (PR.moveL rfl) ?_
        refine Wl.callS st (c_laws_toUint32S (A := B) (n := m) (cp := cq) (c := d) (hB.st st) (by first | assumption | omega) hd) rfl ?_
        clear st
        intro b63 w69 st
        refine Wl.callV (c_laws_eqUint32S (A := some ⟨b39, 0, none⟩) (n := m) (cp := m) (c := d) (B := some ⟨b63, 0, none⟩) (cq := m) ((st.rdA (i := 2) (n := m) rfl (all_sub (arrU_len _))).sl) ((st.rdA (i := 0) (n := m) rfl (all_sub (arrU_len _))).sl) (by first | assumption | omega)) rfl ?_
        intro w70 hbel
        replace st := st.call hbel
        clear hbel
        refine Wl.pure (PR.not_ rfl) ?_
        refine Wl.nil ?_
        refine tn ?_
        refine Wc.condF rfl ?_
        refine Wc.skip ?_
        refine tn ?_
        refine Wc.seq ?_
        refine Wc.region rfl ?_
        refine Wl.pure (PR.assI rfl) ?_
        refine Wl.nil ?_
        refine tn ?_
        refine Wc.seq ?_
        refine Wc.region rfl ?_
        refine Wl.pure (PR.moveL rfl) ?_
        refine Wl.pure (PR.moveI rfl) ?_
        replace st : St [] w w70 [(b63, arrU .u32 m d, 26), (b58, layS n p c, 29), (b39, arrU .u32 m d, 26), (b37, layS n p c ++ [], 29), (b33_62, arrU .i64 0 (fun _ => 0) ++ sp33_62, 2), (b32, arrU .u32 m d, 26), (b29, layS n p c, 29)] := st.nilat (i := 3) rfl
        refine Wl.callXE [3] st (c_laws_markLayerS (ba := b37) (n := n) (cp := n) (p := p) (c := c) (sp := []) (z := 1) (by first | assumption | omega) (by first | assumption | omega) (st.lend (L' := [(b37, layS n p c ++ [], 29)]) [3] (by decide) rfl)) rfl rfl ?_
        clear st
        rintro ⟨p__72, c__73⟩ _ w71 st
        try dsimp only at st 
        replace st : St [] w w71 [(b37, layS n p__72 c__73 ++ [], 29), (b63, arrU .u32 m d, 26), (b58, layS n p c, 29), (b39, arrU .u32 m d, 26), (b33_62, arrU .i64 0 (fun _ => 0) ++ sp33_62, 2), (b32, arrU .u32 m d, 26), (b29, layS n p c, 29)] := st
        refine Wl.pure (PR.assI rfl) ?_
        refine Wl.nil ?_
        refine tn ?_
        refine Wc.seq ?_
        refine Wc.region rfl ?_
        refine Wl.pure (PR.moveL rfl) ?_
        refine Wl.pure (PR.moveI rfl) ?_
        replace st : St [] w w71 [(b37, layS n p__72 c__73 ++ [], 29), (b63, arrU .u32 m d, 26), (b58, layS n p c, 29), (b39, arrU .u32 m d ++ [], 26), (b33_62, arrU .i64 0 (fun _ => 0) ++ sp33_62, 2), (b32, arrU .u32 m d, 26), (b29, layS n p c, 29)] := st.nilat (i := 3) rfl
        refine Wl.callX [3] st (c_markUint32S (ba := b39) (n := m) (cp := m) (c := d) (sp := []) (z := (1 + 65 * n)) (by first | assumption | omega) (st.lend (L' := [(b39, arrU .u32 m d ++ [], 26)]) [3] (by decide) rfl)) rfl rfl ?_
        clear st
        intro w74 st
        replace st : St [] w w74 [(b39, arrU .u32 m (fun j => (1 + 65 * n) + j) ++ [], 26), (b37, layS n p__72 c__73 ++ [], 29), (b63, arrU .u32 m d, 26), (b58, layS n p c, 29), (b33_62, arrU .i64 0 (fun _ => 0) ++ sp33_62, 2), (b32, arrU .u32 m d, 26), (b29, layS n p c, 29)] := st
        refine Wl.pure (PR.assI rfl) ?_
        refine Wl.nil ?_
        refine tn ?_
        refine Wc.seq ?_
        refine Wc.seq ?_
        refine Wc.region rfl ?_
        refine Wl.pure (PR.moveI rfl) ?_
        refine Wl.pure (PR.lss (a := ((((1 + 65 * n) + m) : Nat) : Int)) (b := 0) rfl rfl) ?_
        refine Wl.pure (PR.moveB rfl) ?_
        refine Wl.splitF (q := ((((1 + 65 * n) + m) : Nat) : Int) < 0) rfl rfl (fun h75 => ?_) (fun h75 => ?_)
        · refine Wl.pure (PR.moveL rfl) ?_
          refine Wl.on rfl rfl ?_
          refine Wl.pure (PR.moveL rfl) ?_
          refine Wl.on rfl rfl ?_
          refine Wl.callV (c_laws_eqInt64S (A := none) (n := 0) (cp := 0) (c := (fun _ => 0)) (B := some ⟨b33_62, 0, none⟩) (cq := c33_62) (fun h => absurd h (by decide)) ((st.rdA (i := 4) (n := 0) rfl (app_all (arrU_len _))).sl) (by first | assumption | omega)) rfl ?_
          intro w76 hbel
          replace st := st.call hbel
          clear hbel
          refine Wl.on rfl rfl ?_
          refine Wl.pure (PR.not_ rfl) ?_
          refine Wl.pure (PR.pickFB rfl rfl) ?_
          refine Wl.pure (PR.moveB rfl) ?_
          refine Wl.on rfl rfl ?_
          refine Wl.pure (PR.moveI rfl) ?_
          refine Wl.on rfl rfl ?_
          refine Wl.pure (PR.moveI rfl) ?_
          refine Wl.on rfl rfl ?_
          refine Wl.pure (PR.neqS (a := ((mksC n p c : Nat) : Int)) rfl rfl) ?_
          refine Wl.pure (PR.pickFB rfl rfl) ?_
          refine Wl.nil ?_
          refine tn ?_
          refine Wc.condF rfl ?_
          refine Wc.skip ?_
          refine tn ?_
          refine Wc.seq ?_
          refine Wc.region rfl ?_
          refine Wl.pure (PR.assI rfl) ?_
          refine Wl.nil ?_
          refine tn ?_
          refine Wc.seq ?_
          refine Wc.region rfl ?_
          refine Wl.pure (PR.moveL rfl) ?_
          refine Wl.pure (PR.moveI rfl) ?_
          refine Wl.callV (c_markInt64S0 (A := none) (cp := 0) (z := 1)) rfl ?_
          intro w77 hbel
          replace st := st.call hbel
          clear hbel
          refine Wl.pure (PR.assI rfl) ?_
          refine Wl.nil ?_
          refine tn ?_
          refine Wc.seq ?_
          refine Wc.region rfl ?_
          refine Wl.pure (PR.assI rfl) ?_
          refine Wl.nil ?_
          refine tn ?_
          refine Wc.seq ?_
          refine Wc.region rfl ?_
          refine Wl.pure (PR.moveL rfl) ?_
          refine Wl.pure (PR.moveI rfl) ?_
          refine Wl.callV (c_laws_heldInt64S (A := none) (n := 0) (cp := 0) (c := (fun _ => 0)) (z := 1) (fun h => absurd h (by decide)) (by first | assumption | omega) (fun u hu => by first | rfl | omega)) rfl ?_
          intro w78 hbel
          replace st := st.call hbel
          clear hbel
          refine Wl.pure (PR.assI rfl) ?_
          refine Wl.nil ?_
          refine tn ?_
          refine Wc.seq ?_
          refine Wc.seq ?_
          refine Wc.region rfl ?_
          refine Wl.pure (PR.moveI rfl) ?_
          refine Wl.pure (PR.lss (a := (((1 + 0) : Nat) : Int)) (b := 0) rfl rfl) ?_
          refine Wl.nil ?_
          refine tn ?_
          refine Wc.condD (p := (((1 + 0) : Nat) : Int) < 0) rfl (fun h79 => ?_) (fun h79 => ?_)
          · refine Wc.seq ?_
            refine Wc.region rfl ?_
            refine Wl.pure (PR.assB rfl) ?_
            refine Wl.nil ?_
            refine tn ?_
            refine Wc.ret ?_
            refine tr ?_
            refine postL.tmp rfl rfl ?_
            refine RetV.of ?_ st.below
            refine congrArg Value.bool ?_
            first | rfl | (exfalso; omega) | (simp only [*, decide_true, decide_false, Bool.not_true, Bool.not_false]; done) | (simp; omega) | (rw [Bool.eq_iff_iff]; simp; omega) | simp_all
          · refine Wc.skip ?_
            refine tn ?_
            refine Wc.seq ?_
            refine Wc.seq ?_
            refine Wc.region rfl ?_
            refine Wl.pure (PR.moveI rfl) ?_
            refine Wl.pure (PR.moveI rfl) ?_
            refine Wl.pure (PR.neq (a := (((1 + 0) : Nat) : Int)) (b := 1) rfl rfl) ?_
            refine Wl.nil ?_
            refine tn ?_
            refine Wc.condN (p := (((1 + 0) : Nat) : Int) = 1) rfl (fun h80 => ?_) (fun h80 => ?_)
            · refine Wc.seq ?_
              refine Wc.region rfl ?_
              refine Wl.pure (PR.assB rfl) ?_
              refine Wl.nil ?_
              refine tn ?_
              refine Wc.ret ?_
              refine tr ?_
              refine postL.tmp rfl rfl ?_
              refine RetV.of ?_ st.below
              refine congrArg Value.bool ?_
              first | rfl | (exfalso; omega) | (simp only [*, decide_true, decide_false, Bool.not_true, Bool.not_false]; done) | (simp; omega) | (rw [Bool.eq_iff_iff]; simp; omega) | simp_all
            · refine Wc.skip ?_
              refine tn ?_
              refine Wc.seq ?_
              refine Wc.region rfl ?_
              refine Wl.pure (PR.moveL rfl) ?_
              refine Wl.callS st (c_laws_toLayerS (A := A) (n := n) (cp := cp) (p := p) (c := c) (hR.st st) hc (by first | assumption | omega)) rfl ?_
              clear st
              intro b98 w81 st
              refine Wl.pure (PR.moveI rfl) ?_
              refine Wl.pure (PR.moveL rfl) ?_
              refine Wl.callS st (c_laws_toUint32S (A := B) (n := m) (cp := cq) (c := d) (hB.st st) (by first | assumption | omega) hd) rfl ?_
              clear st
              intro b101 w82 st
              refine Wl.callV (c_impl_ForgedShares_f1 (A := some ⟨b98, 0, none⟩) (n := n) (cp := n) (p := p) (c := c) (seed := seed) (B := some ⟨b101, 0, none⟩) (m := m) (cq := m) (d := d) ((st.rdA (i := 1) (n := (n * 65)) rfl (all_sub (recV_len (s := 65) (layS_row _ _) _))).sl) hp hc (by first | assumption | omega) hs ((st.rdA (i := 0) (n := m) rfl (all_sub (arrU_len _))).sl) hd (by first | assumption | omega) (by first | assumption | omega)) rfl ?_
              intro w83 hbel
              replace st := st.call hbel
              clear hbel
              refine Wl.pure (PR.moveV (.tuple #[.slice (none) (0) (0), .int .i64 (((mksC n p c : Nat) : Int))]) rfl) ?_
              refine Wl.pure (PR.extr (i := 0) (vs := [.slice (none) (0) (0), .int .i64 (((mksC n p c : Nat) : Int))]) rfl rfl) ?_
              refine Wl.pure (PR.extr (i := 1) (vs := [.slice (none) (0) (0), .int .i64 (((mksC n p c : Nat) : Int))]) rfl rfl) ?_
              refine Wl.pure (PR.assL rfl) ?_
              refine Wl.pure (PR.assI rfl) ?_
              refine Wl.nil ?_
              refine tn ?_
              refine Wc.seq ?_
              refine Wc.seq ?_
              refine Wc.region rfl ?_
              refine Wl.pure (PR.moveL rfl) ?_
              refine Wl.pure (PR.moveL rfl) ?_
              refine Wl.callV (c_laws_eqInt64S (A := none) (n := 0) (cp := 0) (c := (fun _ => 0)) (B := some ⟨b33_62, 0, none⟩) (cq := c33_62) (fun h => absurd h (by decide)) ((st.rdA (i := 6) (n := 0) rfl (app_all (arrU_len _))).sl) (by first | assumption | omega)) rfl ?_
              intro w84 hbel
              replace st := st.call hbel
              clear hbel
              refine Wl.pure (PR.not_ rfl) ?_
              refine Wl.pure (PR.moveB rfl) ?_
              refine Wl.on rfl rfl ?_
              refine Wl.pure (PR.moveI rfl) ?_
              refine Wl.on rfl rfl ?_
              refine Wl.pure (PR.moveI rfl) ?_
              refine Wl.on rfl rfl ?_
              refine Wl.pure (PR.neqS (a := ((mksC n p c : Nat) : Int)) rfl rfl) ?_
              refine Wl.pure (PR.pickFB rfl rfl) ?_
              refine Wl.nil ?_
              refine tn ?_
              refine Wc.condF rfl ?_
              refine Wc.skip ?_
              refine tn ?_
              refine Wc.seq ?_
              refine Wc.region rfl ?_
              refine Wl.pure (PR.assI rfl) ?_
              refine Wl.nil ?_
              refine tn ?_
              refine Wc.seq ?_
              refine Wc.region rfl ?_
              refine Wl.pure (PR.moveL rfl) ?_
              refine Wl.pure (PR.moveI rfl) ?_
              refine Wl.callV (c_laws_heldInt64S (A := none) (n := 0) (cp := 0) (c := (fun _ => 0)) (z := 1) (fun h => absurd h (by decide)) (by first | assumption | omega) (fun u hu => by first | rfl | omega)) rfl ?_
              intro w85 hbel
              replace st := st.call hbel
              clear hbel
              refine Wl.pure (PR.assI rfl) ?_
              refine Wl.nil ?_
              refine tn ?_
              refine Wc.seq ?_
              refine Wc.seq ?_
              refine Wc.region rfl ?_
              refine Wl.pure (PR.moveI rfl) ?_
              refine Wl.pure (PR.lss (a := (((1 + 0) : Nat) : Int)) (b := 0) rfl rfl) ?_
              refine Wl.nil ?_
              refine tn ?_
              refine Wc.condD (p := (((1 + 0) : Nat) : Int) < 0) rfl (fun h86 => ?_) (fun h86 => ?_)
              · refine Wc.seq ?_
                refine Wc.region rfl ?_
                refine Wl.pure (PR.assB rfl) ?_
                refine Wl.nil ?_
                refine tn ?_
                refine Wc.ret ?_
                refine tr ?_
                refine postL.tmp rfl rfl ?_
                refine RetV.of ?_ st.below
                refine congrArg Value.bool ?_
                first | rfl | (exfalso; omega) | (simp only [*, decide_true, decide_false, Bool.not_true, Bool.not_false]; done) | (simp; omega) | (rw [Bool.eq_iff_iff]; simp; omega) | simp_all
              · refine Wc.skip ?_
                refine tn ?_
                refine Wc.seq ?_
                refine Wc.seq ?_
                refine Wc.region rfl ?_
                refine Wl.pure (PR.moveI rfl) ?_
                refine Wl.pure (PR.moveI rfl) ?_
                refine Wl.pure (PR.neq (a := (((1 + 0) : Nat) : Int)) (b := 1) rfl rfl) ?_
                refine Wl.nil ?_
                refine tn ?_
                refine Wc.condN (p := (((1 + 0) : Nat) : Int) = 1) rfl (fun h87 => ?_) (fun h87 => ?_)
                · refine Wc.seq ?_
                  refine Wc.region rfl ?_
                  refine Wl.pure (PR.assB rfl) ?_
                  refine Wl.nil ?_
                  refine tn ?_
                  refine Wc.ret ?_
                  refine tr ?_
                  refine postL.tmp rfl rfl ?_
                  refine RetV.of ?_ st.below
                  refine congrArg Value.bool ?_
                  first | rfl | (exfalso; omega) | (simp only [*, decide_true, decide_false, Bool.not_true, Bool.not_false]; done) | (simp; omega) | (rw [Bool.eq_iff_iff]; simp; omega) | simp_all
                · refine Wc.skip ?_
                  refine tn ?_
                  refine Wc.seq ?_
                  refine Wc.region rfl ?_
                  refine Wl.pure (PR.assB rfl) ?_
                  refine Wl.nil ?_
                  refine tn ?_
                  refine Wc.ret ?_
                  refine postL.tmp rfl rfl ?_
                  exact RetV.of rfl st.below
        · refine Wl.off rfl rfl rfl ?_
          refine Wl.off rfl rfl rfl ?_
          refine Wl.off rfl rfl rfl ?_
          refine Wl.pure (PR.pickTB rfl rfl) ?_
          refine Wl.pure (PR.moveB rfl) ?_
          refine Wl.off rfl rfl rfl ?_
          refine Wl.off rfl rfl rfl ?_
          refine Wl.off rfl rfl rfl ?_
          refine Wl.pure (PR.pickTB rfl rfl) ?_
          refine Wl.nil ?_
          refine tn ?_
          refine Wc.condT rfl ?_
          refine Wc.seq ?_
          refine Wc.region rfl ?_
          refine Wl.pure (PR.assB rfl) ?_
          refine Wl.nil ?_
          refine tn ?_
          refine Wc.ret ?_
          refine tr ?_
          refine postL.tmp rfl rfl ?_
          refine RetV.of ?_ st.below
          refine congrArg Value.bool ?_
          first | rfl | (exfalso; omega) | (simp only [*, decide_true, decide_false, Bool.not_true, Bool.not_false]; done) | (simp; omega) | (rw [Bool.eq_iff_iff]; simp; omega) | simp_all

end Go.Proofs.Ytagghfllgafmgaa
