/-
  Contracts of functions, printed by a program of ours.
-/
import Derived.Test.YtajkjhjnbfcpfaaCT2
import Derived.Test.YtajkjhjnbfcpfaaCvl
import Derived.Test.YtajkjhjnbfcpfaaCX2
namespace Go.Proofs.Ytajkjhjnbfcpfaa
open Go.RowKit
set_option linter.unusedVariables false
set_option linter.unusedSimpArgs false

set_option maxHeartbeats 400000 in
set_option maxRecDepth 4000 in
theorem c_spec_P6Pick {A : Option Addr} {n : Nat} {cp : Nat} {c : Nat → Nat} {m : Nat} {w : World} (hR : RdS w A n (arrU .u8 n c)) (hc : ∀ k, c k < 256) (hm : m ≤ 4294967296) :
    CE Try.prog 49 [.slice (A) (n) (cp), .int .i64 (((m : Nat) : Int))] w (RetXE (γ := Nat) w [] (fun g => (g < m ∨ (g = 0 ∧ m ≤ 1))) (fun g => .int .i64 (((g : Nat) : Int))) (fun g => [])) := by
  refine CE.enter 9 [(0, .slice (A) (n) (cp)), (1, .int .i64 (((m : Nat) : Int)))] en_49 Try.func49 rfl rfl (Nat.le_of_ble_eq_true rfl) rfl ?_
  have st := St.start w
  refine Wc.seq ?_
  refine Wc.region rfl ?_
  refine Wl.pure (PR.assI rfl) ?_
  refine Wl.nil ?_
  refine tn ?_
  refine Wc.seq ?_
  refine Wc.region rfl ?_
  refine Wl.pure (PR.moveL rfl) ?_
  refine Wl.callPn st (c_spec_l00From (A := A) (n := n) (cp := cp) (c := c) (hR.st st) hc) rfl ?_
  clear st
  intro b6 w1 st
  replace st : St [] w w1 [(b6, [.slice (A) (n) (cp), .int .i64 (0), .int .u64 (0)], 162)] := st
  refine Wl.pure (PR.moveI rfl) ?_
  refine Wl.callXE [0] st (c_spec_l00Src_pick (bs := b6) (A := A) (n := n) (cp := cp) (c := c) (t := 0) (sd := 0) (m := m) (hR.ne st (i := 0) rfl) hc (by first | assumption | omega) (by first | assumption | omega) (by first | assumption | omega) (st.lend (L' := [(b6, [.slice (A) (n) (cp), .int .i64 (0), .int .u64 (0)], 162)]) [0] (by decide) rfl)) rfl rfl ?_
  clear st
  rintro ⟨v__3, t__4, e__5⟩ ⟨hx_6, hx_7, hx_8⟩ w2 st
  try dsimp only at st hx_6 hx_7 hx_8
  replace st : St [] w w2 [(b6, [.slice (A) (n) (cp), .int .i64 (((t__4 : Nat) : Int)), .int .u64 (((e__5 : Nat) : Int))], 162)] := st
  refine Wl.pure (PR.assI rfl) ?_
  refine Wl.nil ?_
  refine tn ?_
  refine Wc.ret ?_
  refine postL.tmp rfl rfl ?_
  replace st : St [] w w2 [] := st.pick [] (by decide) rfl
  exact ⟨v__3, (by dsimp only; assumption), rfl, st⟩

set_option maxHeartbeats 400000 in
set_option maxRecDepth 4000 in
theorem c_spec_BitsIn {x : Nat} {w : World} (hx : x < 256) :
    CE Try.prog 52 [.int .u8 (((x : Nat) : Int))] w (RetV w (.int .i64 (((pc x : Nat) : Int)))) := by
  refine CE.enter 6 [(0, .int .u8 (((x : Nat) : Int)))] en_52 Try.func52 rfl rfl (Nat.le_of_ble_eq_true rfl) rfl ?_
  have st := St.start w
  refine Wc.seq ?_
  refine Wc.region rfl ?_
  refine Wl.pure (PR.assI rfl) ?_
  refine Wl.nil ?_
  refine tn ?_
  refine Wc.seq ?_
  refine Wc.region rfl ?_
  refine Wl.pure (PR.moveI rfl) ?_
  refine Wl.pure (PR.conv (n := ((x : Nat) : Int)) tI_26 rfl (fitN hx rfl) Try.underlying5) ?_
  refine Wl.callV (c_spec_l01Count (x := x) (Nat.lt_of_lt_of_le hx (by decide))) rfl ?_
  intro w1 hbel
  replace st := st.call hbel
  clear hbel
  refine Wl.pure (PR.assI rfl) ?_
  refine Wl.nil ?_
  refine tn ?_
  refine Wc.ret ?_
  refine postL.tmp rfl rfl ?_
  exact RetV.of rfl st.below

set_option maxHeartbeats 400000 in
set_option maxRecDepth 4000 in
theorem c_spec_IsBlack {x : Nat} {k : Nat} {w : World} (hx : x < 18446744073709551616) (hk : k < 64) :
    CE Try.prog 51 [.int .u64 (((x : Nat) : Int)), .int .i64 (((k : Nat) : Int))] w (RetV w (.bool (bitB x k))) := by
  refine CE.enter 8 [(0, .int .u64 (((x : Nat) : Int))), (1, .int .i64 (((k : Nat) : Int)))] en_51 Try.func51 rfl rfl (Nat.le_of_ble_eq_true rfl) rfl ?_
  have st := St.start w
  refine Wc.seq ?_
  refine Wc.region rfl ?_
  refine Wl.pure (PR.assB rfl) ?_
  refine Wl.nil ?_
  refine tn ?_
  refine Wc.seq ?_
  refine Wc.region rfl ?_
  refine Wl.pure (PR.moveI rfl) ?_
  refine Wl.pure (PR.moveI rfl) ?_
  refine Wl.callV (c_bit_pec (x := x) (k := k) hx (by first | assumption | omega)) rfl ?_
  intro w1 hbel
  replace st := st.call hbel
  clear hbel
  refine Wl.pure (PR.assB rfl) ?_
  refine Wl.nil ?_
  refine tn ?_
  refine Wc.ret ?_
  refine postL.tmp rfl rfl ?_
  exact RetV.of rfl st.below

set_option maxHeartbeats 400000 in
set_option maxRecDepth 4000 in
theorem c_impl_CoverCell {a : Bool} {b : Bool} {z : Bool} {w : World} :
    CE Try.prog 50 [.bool (a), .bool (b), .bool (z)] w (RetV w (.tuple #[.int .u8 (((cvA a b z : Nat) : Int)), .int .u8 (((cvB a b z : Nat) : Int))])) := by
  refine CE.enter 14 [(0, .bool (a)), (1, .bool (b)), (2, .bool (z))] en_50 Try.func50 rfl rfl (Nat.le_of_ble_eq_true rfl) rfl ?_
  have st := St.start w
  refine Wc.seq ?_
  refine Wc.region rfl ?_
  refine Wl.pure (PR.assI rfl) ?_
  refine Wl.pure (PR.assI rfl) ?_
  refine Wl.nil ?_
  refine tn ?_
  refine Wc.seq ?_
  refine Wc.region rfl ?_
  refine Wl.pure (PR.moveB rfl) ?_
  refine Wl.pure (PR.moveB rfl) ?_
  refine Wl.pure (PR.moveB rfl) ?_
  refine Wl.callV (c_impl_coverCell (a := (a)) (b := (b)) (z := (z))) rfl ?_
  intro w1 hbel
  replace st := st.call hbel
  clear hbel
  refine Wl.pure (PR.extr (i := 0) (vs := [.int .u8 (((cvA (a) (b) (z) : Nat) : Int)), .int .u8 (((cvB (a) (b) (z) : Nat) : Int))]) rfl rfl) ?_
  refine Wl.pure (PR.extr (i := 1) (vs := [.int .u8 (((cvA (a) (b) (z) : Nat) : Int)), .int .u8 (((cvB (a) (b) (z) : Nat) : Int))]) rfl rfl) ?_
  refine Wl.pure (PR.assI rfl) ?_
  refine Wl.pure (PR.assI rfl) ?_
  refine Wl.nil ?_
  refine tn ?_
  refine Wc.ret ?_
  refine postL.tmp2 rfl rfl rfl ?_
  refine RetV.of ?_ st.below
  first | rfl | simp_all

set_option maxHeartbeats 400000 in
set_option maxRecDepth 4000 in
theorem c_impl_CountsOf {p : Int} {c : Nat → Nat} {w : World} (hp : -128 ≤ p ∧ p ≤ 127) (hc : ∀ k, c k < 256) :
    CE Try.prog 48 [.agg (layV (p) (c)).toArray] w (RetV w (.tuple #[.agg (arrU .i8 64 (ctF p c)).toArray, .int .i64 (((hsC p c : Nat) : Int))])) := by
  refine CE.enter 22 [(0, .agg (layV (p) (c)).toArray)] en_48 Try.func48 rfl rfl (Nat.le_of_ble_eq_true rfl) rfl ?_
  have st := St.start w
  refine Wc.seq ?_
  refine Wc.region rfl ?_
  refine Wl.boxA st rfl ?_
  clear st
  intro b1 w1 st
  refine Wl.alloc st tZ_75 rfl ?_
  clear st
  intro b2 w2 st
  refine Wl.pure (PR.assI rfl) ?_
  refine Wl.nil ?_
  refine tn ?_
  refine Wc.seq ?_
  refine Wc.region rfl ?_
  refine Wl.pure (PR.build (ps := []) (cs := arrZ .i8 64 (fun _ => 0)) tB_75 rfl rfl) ?_
  refine Wl.alloc st tZ_75 rfl ?_
  clear st
  intro b4 w3 st
  refine Wl.storeA (i := 0) (cs' := arrZ .i8 64 (fun _ => 0)) st tA_75 rfl rfl (arrZ_len _) (arrZ_one _) rfl (le_of_len (arrZ_len _) (by omega)) (all_put (arrZ_len _)) ?_
  clear st
  intro w4 st
  replace st : St [] w w4 [(b4, arrZ .i8 64 (fun _ => 0), 75), (b2, arrZ .i8 64 (fun _ => 0), 75), (b1, layV (p) (c), 30)] := st
  refine Wl.nil ?_
  refine tn ?_
  refine Wc.seq ?_
  refine Wc.seq ?_
  refine Wc.region rfl ?_
  refine Wl.loadA (i := 2) st tA_30 rfl rfl (all_sub layV_len) layV_len ?_
  refine Wl.callV (c_impl_ValidLayer (p := p) (c := c) (by first | assumption | omega) hc) rfl ?_
  intro w5 hbel
  replace st := st.call hbel
  clear hbel
  refine Wl.pure (PR.not_ rfl) ?_
  refine Wl.nil ?_
  refine tn ?_
  refine Wc.condNB (b := layOk p c) rfl (fun h6 => ?_) (fun h6 => ?_)
  · refine Wc.seq ?_
    refine Wc.region rfl ?_
    refine Wl.loadA (i := 0) st tA_75 rfl rfl (all_sub (arrZ_len _)) (arrZ_len _) ?_
    refine Wl.storeA (i := 1) (cs' := arrZ .i8 64 (fun _ => 0)) st tA_75 rfl rfl (arrZ_len _) (arrZ_one _) rfl (le_of_len (arrZ_len _) (by omega)) (all_put (arrZ_len _)) ?_
    clear st
    intro w7 st
    replace st : St [] w w7 [(b4, arrZ .i8 64 (fun _ => 0), 75), (b2, arrZ .i8 64 (fun _ => 0), 75), (b1, layV (p) (c), 30)] := st
    refine Wl.pure (PR.assI rfl) ?_
    refine Wl.nil ?_
    refine tn ?_
    refine Wc.ret ?_
    refine tr ?_
    refine postL.many (rvs := [.cell 2 75, .tmp 3]) rfl (.cell (us := arrZ .i8 64 (fun _ => 0)) tA_75 rfl (arrZ_len _) (st.rdA (i := 1) (n := 64) rfl (all_sub (arrZ_len _))) (.tmp (v := .int .i64 (1)) rfl .nil)) ?_
    refine RetV.of ?_ st.below
    exact ct_f (by assumption)
  · refine Wc.skip ?_
    refine tn ?_
    refine Wc.seq ?_
    refine Wc.seq ?_
    refine Wc.region rfl ?_
    refine Wl.pure (PR.moveI rfl) ?_
    refine Wl.nil ?_
    refine tn ?_
    refine Wc.block ?_
    refine Wc.loopF (γ := Nat × (Nat → Nat)) (fun g => [(1, .pointer (some ⟨b1, 0, none⟩)), (2, .pointer (some ⟨b2, 0, none⟩)), (3, .int .i64 (0)), (4, .pointer (some ⟨b4, 0, none⟩)), (11, .int .i64 (((g.1 : Nat) : Int)))]) (fun g w_ => St [] w w_ [(b4, arrU .i8 64 g.2, 75), (b2, arrZ .i8 64 (fun _ => 0), 75), (b1, layV (p) (c), 30)] ∧ (g.1 ≤ 64) ∧ (∀ j, j < g.1 → g.2 j = pc (c j))) (fun g => 64 - g.1) ?_ ?_
    · exact ⟨(0, (fun _ => 0)), (.cons rfl (.cons rfl (.cons rfl (.cons rfl (.cons rfl (.nil _)))))), st, (by first | omega | (dsimp only; omega)), (fun j hj => by omega)⟩
    clear st
    rintro ⟨k, e⟩ w8 ⟨st, hk, he⟩
    try dsimp only at st hk he ⊢
    refine Wc.seq ?_
    refine Wc.region rfl ?_
    refine Wl.pure (PR.lss (a := ((k : Nat) : Int)) (b := 64) rfl rfl) ?_
    refine Wl.nil ?_
    refine tn ?_
    refine Wc.seq ?_
    refine Wc.condD (p := ((k : Nat) : Int) < 64) rfl (fun h9 => ?_) (fun h9 => ?_)
    · refine Wc.skip ?_
      refine tn ?_
      refine Wc.seq ?_
      refine Wc.block ?_
      refine Wc.seq ?_
      refine Wc.region rfl ?_
      refine Wl.pure (PR.moveI rfl) ?_
      refine Wl.pure (PR.assI rfl) ?_
      refine Wl.nil ?_
      refine tn ?_
      have h8 := pc_le8 (hc k)
      refine Wc.region rfl ?_
      refine Wl.pure (PR.moveI rfl) ?_
      refine Wl.loadA (i := 2) st tA_30 rfl rfl (all_sub layV_len) layV_len ?_
      refine Wl.pure (PR.moveI rfl) ?_
      refine Wl.callV (c_impl_Layer_count (p := p) (c := c) (k := k) hc (by first | assumption | omega)) rfl ?_
      intro w10 hbel
      replace st := st.call hbel
      clear hbel
      refine Wl.pure (PR.conv (n := ((pc (c k) : Nat) : Int)) tI_22 rfl (by simp only [fitI]; omega) Try.underlying2) ?_
      refine Wl.pure (PR.idxAddrA1 (i := k) tE_75 rfl rfl (by omega)) ?_
      refine Wl.store (i := 0) (cs' := arrU .i8 64 (upd e (k) (pc (c k)))) st tA_22 rfl rfl rfl rfl (lt_of_len (arrU_len _) (by omega)) (arrU_set0) ?_
      clear st
      intro w11 st
      replace st : St [] w w11 [(b4, arrU .i8 64 (upd e (k) (pc (c k))), 75), (b2, arrZ .i8 64 (fun _ => 0), 75), (b1, layV (p) (c), 30)] := st
      refine Wl.nil ?_
      refine bn ?_
      refine tn ?_
      refine Wc.region rfl ?_
      refine Wl.pure (PR.add (a := ((k : Nat) : Int)) (b := 1) rfl rfl (by simp only [fitI]; omega)) ?_
      refine Wl.pure (PR.moveI rfl) ?_
      refine Wl.nil ?_
      refine tn ?_
      exact ⟨(k + 1, upd e (k) (pc (c k))), (.cons rfl (.cons rfl (.cons rfl (.cons rfl (.cons rfl (.nil _)))))), ⟨st, (by first | omega | (dsimp only; omega)), (upd_snoc he rfl)⟩, (by first | omega | (dsimp only; omega))⟩
    · refine Wc.exit ?_
      refine tx ?_
      refine tx ?_
      refine bh ?_
      refine tn ?_
      refine Wc.seq ?_
      refine Wc.region rfl ?_
      refine Wl.loadA (i := 0) st tA_75 rfl rfl (all_sub (arrU_len _)) (arrU_len _) ?_
      refine Wl.storeA (i := 1) (cs' := arrU .i8 64 e) st tA_75 rfl rfl (arrU_len _) (arrU_one _) rfl (le_of_len (arrZ_len _) (by omega)) (all_put (arrZ_len _)) ?_
      clear st
      intro w12 st
      replace st : St [] w w12 [(b4, arrU .i8 64 e, 75), (b2, arrU .i8 64 e, 75), (b1, layV (p) (c), 30)] := st
      refine Wl.pure (PR.assI rfl) ?_
      refine Wl.nil ?_
      refine tn ?_
      refine Wc.ret ?_
      refine postL.many (rvs := [.cell 2 75, .tmp 3]) rfl (.cell (us := arrU .i8 64 e) tA_75 rfl (arrU_len _) (st.rdA (i := 1) (n := 64) rfl (all_sub (arrU_len _))) (.tmp (v := .int .i64 (0)) rfl .nil)) ?_
      refine RetV.of ?_ st.below
      obtain rfl : k = 64 := by omega
      exact ct_t (by assumption) (fun j hj => he j hj)

end Go.Proofs.Ytajkjhjnbfcpfaa
