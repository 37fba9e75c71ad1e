/-
  Contracts of functions, printed by a program of ours.
-/
import Derived.Test.YtjkicobdokcjfaaCS1
namespace Go.Proofs.Ytjkicobdokcjfaa
open Go.RowKit
set_option linter.unusedVariables false
set_option linter.unusedSimpArgs false

set_option maxHeartbeats 400000 in
set_option maxRecDepth 4000 in
theorem c_rowsT {bk : Nat} {o : Nat} {s : Int} {p : Int} {a : Nat → Nat} {b : Nat → Nat} {w : World} (hR : RdA w bk o (schV s p a b)) :
    CE Try.prog 60 [.pointer (some ⟨bk, o, none⟩), .bool true] w (RetV w (.pointer (some ⟨bk, o + 8, none⟩))) := by
  refine CE.enter 12 [(0, .pointer (some ⟨bk, o, none⟩)), (1, .bool true)] en_60 Try.func60 rfl rfl (Nat.le_of_ble_eq_true rfl) rfl ?_
  have st := St.start w
  refine Wc.seq ?_
  refine Wc.region rfl ?_
  refine Wl.pure (PR.assV ((.pointer none)) rfl) ?_
  refine Wl.nil ?_
  refine tn ?_
  refine Wc.seq ?_
  refine Wc.seq ?_
  refine Wc.region rfl ?_
  refine Wl.pure (PR.moveB rfl) ?_
  refine Wl.nil ?_
  refine tn ?_
  refine Wc.condT rfl ?_
  refine Wc.seq ?_
  refine Wc.region rfl ?_
  refine Wl.pure (PR.moveP rfl) ?_
  refine Wl.pure (PR.nil_ rfl) ?_
  refine Wl.pure (PR.fieldAddr tF_34_3 rfl) ?_
  refine Wl.pure (PR.assP rfl) ?_
  refine Wl.nil ?_
  refine tn ?_
  refine Wc.ret ?_
  refine tr ?_
  refine postL.tmp rfl rfl ?_
  exact RetV.of rfl st.below

set_option maxHeartbeats 400000 in
set_option maxRecDepth 4000 in
theorem c_rowsF {bk : Nat} {o : Nat} {s : Int} {p : Int} {a : Nat → Nat} {b : Nat → Nat} {w : World} (hR : RdA w bk o (schV s p a b)) :
    CE Try.prog 60 [.pointer (some ⟨bk, o, none⟩), .bool false] w (RetV w (.pointer (some ⟨bk, o + 2, none⟩))) := by
  refine CE.enter 12 [(0, .pointer (some ⟨bk, o, none⟩)), (1, .bool false)] en_60 Try.func60 rfl rfl (Nat.le_of_ble_eq_true rfl) rfl ?_
  have st := St.start w
  refine Wc.seq ?_
  refine Wc.region rfl ?_
  refine Wl.pure (PR.assV ((.pointer none)) rfl) ?_
  refine Wl.nil ?_
  refine tn ?_
  refine Wc.seq ?_
  refine Wc.seq ?_
  refine Wc.region rfl ?_
  refine Wl.pure (PR.moveB rfl) ?_
  refine Wl.nil ?_
  refine tn ?_
  refine Wc.condF rfl ?_
  refine Wc.skip ?_
  refine tn ?_
  refine Wc.seq ?_
  refine Wc.region rfl ?_
  refine Wl.pure (PR.moveP rfl) ?_
  refine Wl.pure (PR.nil_ rfl) ?_
  refine Wl.pure (PR.fieldAddr tF_34_2 rfl) ?_
  refine Wl.pure (PR.assP rfl) ?_
  refine Wl.nil ?_
  refine tn ?_
  refine Wc.ret ?_
  refine postL.tmp rfl rfl ?_
  exact RetV.of rfl st.below

set_option maxHeartbeats 400000 in
set_option maxRecDepth 4000 in
theorem c_l02RowsT {bk : Nat} {o : Nat} {s : Int} {p : Int} {a : Nat → Nat} {b : Nat → Nat} {w : World} (hR : RdA w bk o (schV s p a b)) :
    CE Try.prog 58 [.pointer (some ⟨bk, o, none⟩), .bool true] w (RetV w (.agg (arrU .u8 6 b).toArray)) := by
  refine CE.enter 14 [(0, .pointer (some ⟨bk, o, none⟩)), (1, .bool true)] en_58 Try.func58 rfl rfl (Nat.le_of_ble_eq_true rfl) rfl ?_
  have st := St.start w
  refine Wc.seq ?_
  refine Wc.region rfl ?_
  refine Wl.alloc st tZ_31 rfl ?_
  clear st
  intro b4 w1 st
  refine Wl.nil ?_
  refine tn ?_
  refine Wc.seq ?_
  refine Wc.seq ?_
  refine Wc.region rfl ?_
  refine Wl.pure (PR.moveB rfl) ?_
  refine Wl.nil ?_
  refine tn ?_
  refine Wc.condT rfl ?_
  refine Wc.seq ?_
  refine Wc.region rfl ?_
  refine Wl.pure (PR.moveP rfl) ?_
  refine Wl.pure (PR.nil_ rfl) ?_
  refine Wl.pure (PR.fieldAddr tF_34_3 rfl) ?_
  refine Wl.loadAC tA_31 rfl (arrU_len _) ((hR.st st).sub schV_sub_b rfl) ?_
  refine Wl.storeA (i := 0) (cs' := arrU .u8 6 b) st tA_31 rfl rfl (arrU_len _) (arrU_one _) rfl (le_of_len (arrU_len _) (by omega)) (all_put (arrU_len _)) ?_
  clear st
  intro w2 st
  replace st : St [] w w2 [(b4, arrU .u8 6 b, 31)] := st
  refine Wl.nil ?_
  refine tn ?_
  refine Wc.ret ?_
  refine tr ?_
  refine postL.cell (i := 0) st rfl tA_31 rfl rfl (arrU_len _) ?_
  exact RetV.of rfl st.below

set_option maxHeartbeats 400000 in
set_option maxRecDepth 4000 in
theorem c_l02RowsF {bk : Nat} {o : Nat} {s : Int} {p : Int} {a : Nat → Nat} {b : Nat → Nat} {w : World} (hR : RdA w bk o (schV s p a b)) :
    CE Try.prog 58 [.pointer (some ⟨bk, o, none⟩), .bool false] w (RetV w (.agg (arrU .u8 6 a).toArray)) := by
  refine CE.enter 14 [(0, .pointer (some ⟨bk, o, none⟩)), (1, .bool false)] en_58 Try.func58 rfl rfl (Nat.le_of_ble_eq_true rfl) rfl ?_
  have st := St.start w
  refine Wc.seq ?_
  refine Wc.region rfl ?_
  refine Wl.alloc st tZ_31 rfl ?_
  clear st
  intro b4 w1 st
  refine Wl.nil ?_
  refine tn ?_
  refine Wc.seq ?_
  refine Wc.seq ?_
  refine Wc.region rfl ?_
  refine Wl.pure (PR.moveB rfl) ?_
  refine Wl.nil ?_
  refine tn ?_
  refine Wc.condF rfl ?_
  refine Wc.skip ?_
  refine tn ?_
  refine Wc.seq ?_
  refine Wc.region rfl ?_
  refine Wl.pure (PR.moveP rfl) ?_
  refine Wl.pure (PR.nil_ rfl) ?_
  refine Wl.pure (PR.fieldAddr tF_34_2 rfl) ?_
  refine Wl.loadAC tA_31 rfl (arrU_len _) ((hR.st st).sub schV_sub_a rfl) ?_
  refine Wl.storeA (i := 0) (cs' := arrU .u8 6 a) st tA_31 rfl rfl (arrU_len _) (arrU_one _) rfl (le_of_len (arrU_len _) (by omega)) (all_put (arrU_len _)) ?_
  clear st
  intro w2 st
  replace st : St [] w w2 [(b4, arrU .u8 6 a, 31)] := st
  refine Wl.nil ?_
  refine tn ?_
  refine Wc.ret ?_
  refine postL.cell (i := 0) st rfl tA_31 rfl rfl (arrU_len _) ?_
  exact RetV.of rfl st.below

set_option maxHeartbeats 400000 in
set_option maxRecDepth 4000 in
theorem c_math_bits_OnesCount8 {x : Nat} {w : World} (hx : x < 256) :
    CE Try.prog 61 [.int .u8 (((x : Nat) : Int))] w (RetV w (.int .i64 (((pc x : Nat) : Int)))) := by
  refine CE.enter 6 [(0, .int .u8 (((x : Nat) : Int)))] en_61 Try.func61 rfl rfl (Nat.le_of_ble_eq_true rfl) rfl ?_
  have st := St.start w
  refine Wc.seq ?_
  refine Wc.region rfl ?_
  refine Wl.pure (PR.assI rfl) ?_
  refine Wl.nil ?_
  refine tn ?_
  refine Wc.seq ?_
  refine Wc.region rfl ?_
  refine Wl.pure (PR.moveI rfl) ?_
  refine Wl.pure (PR.idxStr (i := x) (c := UInt8.ofNat (pc x)) Try.underlying9 rfl rfl (tab_of _ (by kernel_rfl) hx)) ?_
  refine Wl.pure (PR.conv (n := (((UInt8.ofNat (pc x)).toNat : Nat) : Int)) tI_3 rfl (fitN (show (UInt8.ofNat (pc x)).toNat < 256 from by rw [tab_nat hx]; have := pc_le8 hx; omega) rfl) Try.underlying5) ?_
  refine Wl.pure (PR.assI rfl) ?_
  refine Wl.nil ?_
  refine tn ?_
  refine Wc.ret ?_
  refine postL.tmp rfl rfl ?_
  refine RetV.of ?_ st.below
  refine congrArg (fun x : Nat => Value.int .i64 (x : Int)) ?_
  exact tab_nat hx

set_option maxHeartbeats 400000 in
set_option maxRecDepth 4000 in
theorem c_spec_l01Count {x : Nat} {w : World} (hx : x < 18446744073709551616) :
    CE Try.prog 59 [.int .u64 (((x : Nat) : Int))] w (RetV w (.int .i64 (((pc x : Nat) : Int)))) := by
  refine CE.enter 14 [(0, .int .u64 (((x : Nat) : Int)))] en_59 Try.func59 rfl rfl (Nat.le_of_ble_eq_true rfl) rfl ?_
  have st := St.start w
  refine Wc.seq ?_
  refine Wc.region rfl ?_
  refine Wl.pure (PR.assI rfl) ?_
  refine Wl.nil ?_
  refine tn ?_
  refine Wc.seq ?_
  refine Wc.region rfl ?_
  refine Wl.pure (PR.assI rfl) ?_
  refine Wl.nil ?_
  refine tn ?_
  refine Wc.seq ?_
  refine Wc.block ?_
  refine Wc.loopF (γ := Nat × Nat) (fun g => [(0, .int .u64 (((g.1 : Nat) : Int))), (2, .int .i64 (0)), (3, .int .i64 (((g.2 : Nat) : Int)))]) (fun g w_ => St [] w w_ [] ∧ (g.1 < 18446744073709551616) ∧ (pc x = g.2 + pc g.1)) (fun g => g.1) ?_ ?_
  · exact ⟨(x, 0), (.cons rfl (.cons rfl (.cons rfl (.nil _)))), st, hx, (Nat.zero_add _).symm⟩
  clear st
  rintro ⟨y, c⟩ w1 ⟨st, hy, hc⟩
  try dsimp only at st hy hc ⊢
  refine Wc.seq ?_
  refine Wc.seq ?_
  refine Wc.region rfl ?_
  refine Wl.pure (PR.moveI rfl) ?_
  refine Wl.pure (PR.neq (a := ((y : Nat) : Int)) (b := 0) rfl rfl) ?_
  refine Wl.nil ?_
  refine tn ?_
  refine Wc.condN (p := ((y : Nat) : Int) = 0) rfl (fun h2 => ?_) (fun h2 => ?_)
  · refine Wc.skip ?_
    refine tn ?_
    refine Wc.seq ?_
    refine Wc.block ?_
    refine Wc.region rfl ?_
    refine Wl.pure (PR.moveI rfl) ?_
    refine Wl.pure (PR.moveI rfl) ?_
    refine Wl.pure (PR.and (a := y) (b := 1) rfl rfl (by decide) hy (by decide)) ?_
    refine Wl.pure (PR.conv (n := (((y &&& 1) : Nat) : Int)) tI_2 rfl (by have : y &&& 1 ≤ 1 := Nat.and_le_right; simp only [fitI]; omega) Try.underlying82) ?_
    refine Wl.pure (PR.add (a := ((c : Nat) : Int)) (b := (((y &&& 1) : Nat) : Int)) rfl rfl (by have := pc_le x; have : y &&& 1 ≤ 1 := Nat.and_le_right; simp only [fitI]; omega)) ?_
    refine Wl.pure (PR.assI rfl) ?_
    refine Wl.nil ?_
    refine bn ?_
    refine tn ?_
    refine Wc.region rfl ?_
    refine Wl.pure (PR.moveI rfl) ?_
    refine Wl.pure (PR.shr (a := y) (n := 1) rfl rfl (by decide) hy) ?_
    refine Wl.pure (PR.assI rfl) ?_
    refine Wl.nil ?_
    refine tn ?_
    exact ⟨((y >>> 1), (c + (y &&& 1))), (.cons rfl (.cons rfl (.cons rfl (.nil _)))), ⟨st, (shr_lt hy), (pc_next hy hc)⟩, (by have := shr1 y; dsimp only; omega)⟩
  · refine Wc.exit ?_
    refine tx ?_
    refine tx ?_
    refine bh ?_
    refine tn ?_
    refine Wc.seq ?_
    refine Wc.region rfl ?_
    refine Wl.pure (PR.moveI rfl) ?_
    refine Wl.pure (PR.assI rfl) ?_
    refine Wl.nil ?_
    refine tn ?_
    refine Wc.ret ?_
    refine postL.tmp rfl rfl ?_
    refine RetV.of ?_ st.below
    refine congrArg (fun x : Nat => Value.int .i64 (x : Int)) ?_
    obtain rfl : y = 0 := by omega
    rw [hc]; unfold pc; rfl

set_option maxHeartbeats 400000 in
set_option maxRecDepth 4000 in
theorem c_weightT {s : Int} {p : Int} {a : Nat → Nat} {b : Nat → Nat} {x : Nat} {w : World} (ha : ∀ k, a k < 256) (hb : ∀ k, b k < 256) (hx : x < 256) :
    CE Try.prog 51 [.agg (schV (s) (p) (a) (b)).toArray, .int .u8 (((x : Nat) : Int)), .bool true] w (RetV w (.int .i64 (((wt b x : Nat) : Int)))) := by
  refine CE.enter 29 [(0, .agg (schV (s) (p) (a) (b)).toArray), (1, .int .u8 (((x : Nat) : Int))), (2, .bool true)] en_51 Try.func51 rfl rfl (Nat.le_of_ble_eq_true rfl) rfl ?_
  have st := St.start w
  refine Wc.seq ?_
  refine Wc.region rfl ?_
  refine Wl.boxA st rfl ?_
  clear st
  intro b3 w1 st
  refine Wl.pure (PR.assI rfl) ?_
  refine Wl.nil ?_
  refine tn ?_
  refine Wc.seq ?_
  refine Wc.region rfl ?_
  refine Wl.pure (PR.assI rfl) ?_
  refine Wl.nil ?_
  refine tn ?_
  refine Wc.seq ?_
  refine Wc.seq ?_
  refine Wc.region rfl ?_
  refine Wl.pure (PR.moveB rfl) ?_
  refine Wl.callV (c_rowsT (bk := b3) (o := 0) (s := s) (p := p) (a := a) (b := b) (st.rdA (i := 0) rfl (all_sub schV_len))) rfl ?_
  intro w2 hbel
  replace st := st.call hbel
  clear hbel
  refine Wl.pure (PR.moveI rfl) ?_
  refine Wl.nil ?_
  refine tn ?_
  refine Wc.block ?_
  refine Wc.loopF (γ := Nat × Nat) (fun g => [(1, .int .u8 (((x : Nat) : Int))), (6, .int .i64 (0)), (7, .int .u8 (((g.2 : Nat) : Int))), (11, .pointer (some ⟨b3, 8, none⟩)), (12, .int .i64 (((g.1 : Nat) : Int)))]) (fun g w_ => St [] w w_ [(b3, schV (s) (p) (a) (b), 34)] ∧ (g.1 ≤ 6) ∧ (g.2 = orS b x g.1) ∧ (g.2 < 256)) (fun g => 6 - g.1) ?_ ?_
  · exact ⟨(0, 0), (.cons rfl (.cons rfl (.cons rfl (.cons rfl (.cons rfl (.nil _)))))), st, (by omega), rfl, (by decide)⟩
  clear st
  rintro ⟨k, v⟩ w3 ⟨st, hk, hv, hvb⟩
  try dsimp only at st hk hv hvb ⊢
  refine Wc.seq ?_
  refine Wc.region rfl ?_
  refine Wl.pure (PR.lss (a := ((k : Nat) : Int)) (b := 6) rfl rfl) ?_
  refine Wl.nil ?_
  refine tn ?_
  refine Wc.seq ?_
  refine Wc.condD (p := ((k : Nat) : Int) < 6) rfl (fun h4 => ?_) (fun h4 => ?_)
  · refine Wc.skip ?_
    refine tn ?_
    refine Wc.seq ?_
    refine Wc.block ?_
    refine Wc.seq ?_
    refine Wc.quiet hmix (by kernel_rfl) rfl ?_
    refine Wq.pure (PR.moveI rfl) ?_
    refine Wq.pure (PR.nil_ rfl) ?_
    refine Wq.pure (PR.idxAddrA1 (i := k) tE_31 rfl rfl (by omega)) ?_
    refine Wq.load (i := 0) st tA_5 rfl rfl (schV_get_b (by omega)) ?_
    refine Wq.pure (PR.assI rfl) ?_
    refine Wq.pure (PR.assI rfl) ?_
    refine Wq.nil (fun w5 hbel => ?_)
    replace st := st.call hbel
    clear hbel
    refine tn ?_
    refine Wc.seq ?_
    refine Wc.region rfl ?_
    refine Wl.pure (PR.moveI rfl) ?_
    refine Wl.pure (PR.moveI rfl) ?_
    refine Wl.pure (PR.shr (a := x) (n := k) rfl rfl (by decide) hx) ?_
    refine Wl.pure (PR.and (a := (x >>> k)) (b := 1) rfl rfl (by decide) (shr_lt hx) (by decide)) ?_
    refine Wl.pure (PR.eql (a := ((((x >>> k) &&& 1) : Nat) : Int)) (b := 1) rfl rfl) ?_
    refine Wl.nil ?_
    refine tn ?_
    refine Wc.condD (p := ((((x >>> k) &&& 1) : Nat) : Int) = 1) rfl (fun h6 => ?_) (fun h6 => ?_)
    · refine Wc.region rfl ?_
      refine Wl.pure (PR.moveI rfl) ?_
      refine Wl.pure (PR.moveI rfl) ?_
      refine Wl.pure (PR.or (a := v) (b := b (k)) rfl rfl (by decide) hvb (hb (k))) ?_
      refine Wl.pure (PR.assI rfl) ?_
      refine Wl.nil ?_
      refine bn ?_
      refine tn ?_
      refine Wc.region rfl ?_
      refine Wl.pure (PR.add (a := ((k : Nat) : Int)) (b := 1) rfl rfl (by simp only [fitI]; omega)) ?_
      refine Wl.pure (PR.moveI rfl) ?_
      refine Wl.nil ?_
      refine tn ?_
      exact ⟨(k + 1, (v ||| (b (k)))), (.cons rfl (.cons rfl (.cons rfl (.cons rfl (.cons rfl (.nil _)))))), ⟨st, (by first | omega | (dsimp only; omega)), (by first | exact orS_t hv (by omega) | exact orS_f hv (by omega)), (by first | exact hvb | exact or_lt_u8 hvb (hb k))⟩, (by first | omega | (dsimp only; omega))⟩
    · refine Wc.skip ?_
      refine bn ?_
      refine tn ?_
      refine Wc.region rfl ?_
      refine Wl.pure (PR.add (a := ((k : Nat) : Int)) (b := 1) rfl rfl (by simp only [fitI]; omega)) ?_
      refine Wl.pure (PR.moveI rfl) ?_
      refine Wl.nil ?_
      refine tn ?_
      exact ⟨(k + 1, v), (.cons rfl (.cons rfl (.cons rfl (.cons rfl (.cons rfl (.nil _)))))), ⟨st, (by first | omega | (dsimp only; omega)), (by first | exact orS_t hv (by omega) | exact orS_f hv (by omega)), (by first | exact hvb | exact or_lt_u8 hvb (hb k))⟩, (by first | omega | (dsimp only; omega))⟩
  · refine Wc.exit ?_
    refine tx ?_
    refine tx ?_
    refine bh ?_
    refine tn ?_
    refine Wc.seq ?_
    refine Wc.region rfl ?_
    refine Wl.pure (PR.moveI rfl) ?_
    refine Wl.callV (c_math_bits_OnesCount8 (x := v) hvb) rfl ?_
    intro w7 hbel
    replace st := st.call hbel
    clear hbel
    refine Wl.pure (PR.assI rfl) ?_
    refine Wl.nil ?_
    refine tn ?_
    refine Wc.ret ?_
    refine postL.tmp rfl rfl ?_
    refine RetV.of ?_ st.below
    refine congrArg (fun x : Nat => Value.int .i64 (x : Int)) ?_
    obtain rfl : k = 6 := by omega
    unfold wt; rw [hv]

set_option maxHeartbeats 400000 in
set_option maxRecDepth 4000 in
theorem c_weightF {s : Int} {p : Int} {a : Nat → Nat} {b : Nat → Nat} {x : Nat} {w : World} (ha : ∀ k, a k < 256) (hb : ∀ k, b k < 256) (hx : x < 256) :
    CE Try.prog 51 [.agg (schV (s) (p) (a) (b)).toArray, .int .u8 (((x : Nat) : Int)), .bool false] w (RetV w (.int .i64 (((wt a x : Nat) : Int)))) := by
  refine CE.enter 29 [(0, .agg (schV (s) (p) (a) (b)).toArray), (1, .int .u8 (((x : Nat) : Int))), (2, .bool false)] en_51 Try.func51 rfl rfl (Nat.le_of_ble_eq_true rfl) rfl ?_
  have st := St.start w
  refine Wc.seq ?_
  refine Wc.region rfl ?_
  refine Wl.boxA st rfl ?_
  clear st
  intro b3 w1 st
  refine Wl.pure (PR.assI rfl) ?_
  refine Wl.nil ?_
  refine tn ?_
  refine Wc.seq ?_
  refine Wc.region rfl ?_
  refine Wl.pure (PR.assI rfl) ?_
  refine Wl.nil ?_
  refine tn ?_
  refine Wc.seq ?_
  refine Wc.seq ?_
  refine Wc.region rfl ?_
  refine Wl.pure (PR.moveB rfl) ?_
  refine Wl.callV (c_rowsF (bk := b3) (o := 0) (s := s) (p := p) (a := a) (b := b) (st.rdA (i := 0) rfl (all_sub schV_len))) rfl ?_
  intro w2 hbel
  replace st := st.call hbel
  clear hbel
  refine Wl.pure (PR.moveI rfl) ?_
  refine Wl.nil ?_
  refine tn ?_
  refine Wc.block ?_
  refine Wc.loopF (γ := Nat × Nat) (fun g => [(1, .int .u8 (((x : Nat) : Int))), (6, .int .i64 (0)), (7, .int .u8 (((g.2 : Nat) : Int))), (11, .pointer (some ⟨b3, 2, none⟩)), (12, .int .i64 (((g.1 : Nat) : Int)))]) (fun g w_ => St [] w w_ [(b3, schV (s) (p) (a) (b), 34)] ∧ (g.1 ≤ 6) ∧ (g.2 = orS a x g.1) ∧ (g.2 < 256)) (fun g => 6 - g.1) ?_ ?_
  · exact ⟨(0, 0), (.cons rfl (.cons rfl (.cons rfl (.cons rfl (.cons rfl (.nil _)))))), st, (by omega), rfl, (by decide)⟩
  clear st
  rintro ⟨k, v⟩ w3 ⟨st, hk, hv, hvb⟩
  try dsimp only at st hk hv hvb ⊢
  refine Wc.seq ?_
  refine Wc.region rfl ?_
  refine Wl.pure (PR.lss (a := ((k : Nat) : Int)) (b := 6) rfl rfl) ?_
  refine Wl.nil ?_
  refine tn ?_
  refine Wc.seq ?_
  refine Wc.condD (p := ((k : Nat) : Int) < 6) rfl (fun h4 => ?_) (fun h4 => ?_)
  · refine Wc.skip ?_
    refine tn ?_
    refine Wc.seq ?_
    refine Wc.block ?_
    refine Wc.seq ?_
    refine Wc.quiet hmix (by kernel_rfl) rfl ?_
    refine Wq.pure (PR.moveI rfl) ?_
    refine Wq.pure (PR.nil_ rfl) ?_
    refine Wq.pure (PR.idxAddrA1 (i := k) tE_31 rfl rfl (by omega)) ?_
    refine Wq.load (i := 0) st tA_5 rfl rfl (schV_get_a (by omega)) ?_
    refine Wq.pure (PR.assI rfl) ?_
    refine Wq.pure (PR.assI rfl) ?_
    refine Wq.nil (fun w5 hbel => ?_)
    replace st := st.call hbel
    clear hbel
    refine tn ?_
    refine Wc.seq ?_
    refine Wc.region rfl ?_
    refine Wl.pure (PR.moveI rfl) ?_
    refine Wl.pure (PR.moveI rfl) ?_
    refine Wl.pure (PR.shr (a := x) (n := k) rfl rfl (by decide) hx) ?_
    refine Wl.pure (PR.and (a := (x >>> k)) (b := 1) rfl rfl (by decide) (shr_lt hx) (by decide)) ?_
    refine Wl.pure (PR.eql (a := ((((x >>> k) &&& 1) : Nat) : Int)) (b := 1) rfl rfl) ?_
    refine Wl.nil ?_
    refine tn ?_
    refine Wc.condD (p := ((((x >>> k) &&& 1) : Nat) : Int) = 1) rfl (fun h6 => ?_) (fun h6 => ?_)
    · refine Wc.region rfl ?_
      refine Wl.pure (PR.moveI rfl) ?_
      refine Wl.pure (PR.moveI rfl) ?_
      refine Wl.pure (PR.or (a := v) (b := a (k)) rfl rfl (by decide) hvb (ha (k))) ?_
      refine Wl.pure (PR.assI rfl) ?_
      refine Wl.nil ?_
      refine bn ?_
      refine tn ?_
      refine Wc.region rfl ?_
      refine Wl.pure (PR.add (a := ((k : Nat) : Int)) (b := 1) rfl rfl (by simp only [fitI]; omega)) ?_
      refine Wl.pure (PR.moveI rfl) ?_
      refine Wl.nil ?_
      refine tn ?_
      exact ⟨(k + 1, (v ||| (a (k)))), (.cons rfl (.cons rfl (.cons rfl (.cons rfl (.cons rfl (.nil _)))))), ⟨st, (by first | omega | (dsimp only; omega)), (by first | exact orS_t hv (by omega) | exact orS_f hv (by omega)), (by first | exact hvb | exact or_lt_u8 hvb (ha k))⟩, (by first | omega | (dsimp only; omega))⟩
    · refine Wc.skip ?_
      refine bn ?_
      refine tn ?_
      refine Wc.region rfl ?_
      refine Wl.pure (PR.add (a := ((k : Nat) : Int)) (b := 1) rfl rfl (by simp only [fitI]; omega)) ?_
      refine Wl.pure (PR.moveI rfl) ?_
      refine Wl.nil ?_
      refine tn ?_
      exact ⟨(k + 1, v), (.cons rfl (.cons rfl (.cons rfl (.cons rfl (.cons rfl (.nil _)))))), ⟨st, (by first | omega | (dsimp only; omega)), (by first | exact orS_t hv (by omega) | exact orS_f hv (by omega)), (by first | exact hvb | exact or_lt_u8 hvb (ha k))⟩, (by first | omega | (dsimp only; omega))⟩
  · refine Wc.exit ?_
    refine tx ?_
    refine tx ?_
    refine bh ?_
    refine tn ?_
    refine Wc.seq ?_
    refine Wc.region rfl ?_
    refine Wl.pure (PR.moveI rfl) ?_
    refine Wl.callV (c_math_bits_OnesCount8 (x := v) hvb) rfl ?_
    intro w7 hbel
    replace st := st.call hbel
    clear hbel
    refine Wl.pure (PR.assI rfl) ?_
    refine Wl.nil ?_
    refine tn ?_
    refine Wc.ret ?_
    refine postL.tmp rfl rfl ?_
    refine RetV.of ?_ st.below
    refine congrArg (fun x : Nat => Value.int .i64 (x : Int)) ?_
    obtain rfl : k = 6 := by omega
    unfold wt; rw [hv]

set_option maxHeartbeats 400000 in
set_option maxRecDepth 4000 in
theorem c_l02WeightT {bk : Nat} {o : Nat} {s : Int} {p : Int} {a : Nat → Nat} {b : Nat → Nat} {x : Nat} {w : World} (hR : RdA w bk o (schV s p a b)) (ha : ∀ k, a k < 256) (hb : ∀ k, b k < 256) (hx : x < 256) :
    CE Try.prog 49 [.pointer (some ⟨bk, o, none⟩), .int .u8 (((x : Nat) : Int)), .bool true] w (RetV w (.int .i64 (((wt b x : Nat) : Int)))) := by
  refine CE.enter 31 [(0, .pointer (some ⟨bk, o, none⟩)), (1, .int .u8 (((x : Nat) : Int))), (2, .bool true)] en_49 Try.func49 rfl rfl (Nat.le_of_ble_eq_true rfl) rfl ?_
  have st := St.start w
  refine Wc.seq ?_
  refine Wc.region rfl ?_
  refine Wl.pure (PR.assI rfl) ?_
  refine Wl.nil ?_
  refine tn ?_
  refine Wc.seq ?_
  refine Wc.region rfl ?_
  refine Wl.pure (PR.moveP rfl) ?_
  refine Wl.pure (PR.moveB rfl) ?_
  refine Wl.callV (c_l02RowsT (bk := bk) (o := o) (s := s) (p := p) (a := a) (b := b) (hR.st st)) rfl ?_
  intro w1 hbel
  replace st := st.call hbel
  clear hbel
  refine Wl.alloc st tZ_31 rfl ?_
  clear st
  intro b7 w2 st
  refine Wl.storeA (i := 0) (cs' := arrU .u8 6 b) st tA_31 rfl rfl (arrU_len _) (arrU_one _) rfl (le_of_len (arrU_len _) (by omega)) (all_put (arrU_len _)) ?_
  clear st
  intro w3 st
  replace st : St [] w w3 [(b7, arrU .u8 6 b, 31)] := st
  refine Wl.nil ?_
  refine tn ?_
  refine Wc.seq ?_
  refine Wc.region rfl ?_
  refine Wl.pure (PR.assI rfl) ?_
  refine Wl.nil ?_
  refine tn ?_
  refine Wc.seq ?_
  refine Wc.seq ?_
  refine Wc.region rfl ?_
  refine Wl.pure (PR.assI rfl) ?_
  refine Wl.nil ?_
  refine tn ?_
  refine Wc.block ?_
  refine Wc.loopF (γ := Nat × Nat) (fun g => [(1, .int .u8 (((x : Nat) : Int))), (6, .int .i64 (0)), (7, .pointer (some ⟨b7, 0, none⟩)), (8, .int .u8 (((g.2 : Nat) : Int))), (9, .int .i64 (((g.1 : Nat) : Int)))]) (fun g w_ => St [] w w_ [(b7, arrU .u8 6 b, 31)] ∧ (g.1 ≤ 6) ∧ (g.2 = orS b x g.1) ∧ (g.2 < 256)) (fun g => 6 - g.1) ?_ ?_
  · exact ⟨(0, 0), (.cons rfl (.cons rfl (.cons rfl (.cons rfl (.cons rfl (.nil _)))))), st, (by omega), rfl, (by decide)⟩
  clear st
  rintro ⟨k, v⟩ w4 ⟨st, hk, hv, hvb⟩
  try dsimp only at st hk hv hvb ⊢
  refine Wc.seq ?_
  refine Wc.seq ?_
  refine Wc.region rfl ?_
  refine Wl.pure (PR.moveI rfl) ?_
  refine Wl.pure (PR.lss (a := ((k : Nat) : Int)) (b := 6) rfl rfl) ?_
  refine Wl.nil ?_
  refine tn ?_
  refine Wc.condD (p := ((k : Nat) : Int) < 6) rfl (fun h5 => ?_) (fun h5 => ?_)
  · refine Wc.skip ?_
    refine tn ?_
    refine Wc.seq ?_
    refine Wc.block ?_
    refine Wc.seq ?_
    refine Wc.region rfl ?_
    refine Wl.pure (PR.moveI rfl) ?_
    refine Wl.pure (PR.moveI rfl) ?_
    refine Wl.pure (PR.conv (n := ((k : Nat) : Int)) tI_68 rfl (by simp only [fitI]; omega) Try.underlying3) ?_
    refine Wl.pure (PR.shr (a := x) (n := k) rfl rfl (by decide) hx) ?_
    refine Wl.pure (PR.and (a := (x >>> k)) (b := 1) rfl rfl (by decide) (shr_lt hx) (by decide)) ?_
    refine Wl.pure (PR.eql (a := ((((x >>> k) &&& 1) : Nat) : Int)) (b := 1) rfl rfl) ?_
    refine Wl.nil ?_
    refine tn ?_
    refine Wc.condD (p := ((((x >>> k) &&& 1) : Nat) : Int) = 1) rfl (fun h6 => ?_) (fun h6 => ?_)
    · refine Wc.region rfl ?_
      refine Wl.pure (PR.moveI rfl) ?_
      refine Wl.pure (PR.moveI rfl) ?_
      refine Wl.pure (PR.idxAddrA1 (i := k) tE_31 rfl rfl (by omega)) ?_
      refine Wl.load (i := 0) st tA_5 rfl rfl (arrU_get0 (by omega)) ?_
      refine Wl.pure (PR.or (a := v) (b := b (k)) rfl rfl (by decide) hvb (hb (k))) ?_
      refine Wl.pure (PR.assI rfl) ?_
      refine Wl.nil ?_
      refine bn ?_
      refine tn ?_
      refine Wc.region rfl ?_
      refine Wl.pure (PR.moveI rfl) ?_
      refine Wl.pure (PR.add (a := ((k : Nat) : Int)) (b := 1) rfl rfl (by simp only [fitI]; omega)) ?_
      refine Wl.pure (PR.assI rfl) ?_
      refine Wl.nil ?_
      refine tn ?_
      exact ⟨(k + 1, (v ||| (b (k)))), (.cons rfl (.cons rfl (.cons rfl (.cons rfl (.cons rfl (.nil _)))))), ⟨st, (by first | omega | (dsimp only; omega)), (by first | exact orS_t hv (by omega) | exact orS_f hv (by omega)), (by first | exact hvb | exact or_lt_u8 hvb (hb k))⟩, (by first | omega | (dsimp only; omega))⟩
    · refine Wc.skip ?_
      refine bn ?_
      refine tn ?_
      refine Wc.region rfl ?_
      refine Wl.pure (PR.moveI rfl) ?_
      refine Wl.pure (PR.add (a := ((k : Nat) : Int)) (b := 1) rfl rfl (by simp only [fitI]; omega)) ?_
      refine Wl.pure (PR.assI rfl) ?_
      refine Wl.nil ?_
      refine tn ?_
      exact ⟨(k + 1, v), (.cons rfl (.cons rfl (.cons rfl (.cons rfl (.cons rfl (.nil _)))))), ⟨st, (by first | omega | (dsimp only; omega)), (by first | exact orS_t hv (by omega) | exact orS_f hv (by omega)), (by first | exact hvb | exact or_lt_u8 hvb (hb k))⟩, (by first | omega | (dsimp only; omega))⟩
  · refine Wc.exit ?_
    refine tx ?_
    refine tx ?_
    refine bh ?_
    refine tn ?_
    refine Wc.seq ?_
    refine Wc.region rfl ?_
    refine Wl.pure (PR.moveI rfl) ?_
    refine Wl.pure (PR.conv (n := ((v : Nat) : Int)) tI_82 rfl (fitN hvb rfl) Try.underlying5) ?_
    refine Wl.callV (c_spec_l01Count (x := v) (Nat.lt_of_lt_of_le hvb (by decide))) rfl ?_
    intro w7 hbel
    replace st := st.call hbel
    clear hbel
    refine Wl.pure (PR.assI rfl) ?_
    refine Wl.nil ?_
    refine tn ?_
    refine Wc.ret ?_
    refine postL.tmp rfl rfl ?_
    refine RetV.of ?_ st.below
    refine congrArg (fun x : Nat => Value.int .i64 (x : Int)) ?_
    obtain rfl : k = 6 := by omega
    unfold wt; rw [hv]

set_option maxHeartbeats 400000 in
set_option maxRecDepth 4000 in
theorem c_l02WeightF {bk : Nat} {o : Nat} {s : Int} {p : Int} {a : Nat → Nat} {b : Nat → Nat} {x : Nat} {w : World} (hR : RdA w bk o (schV s p a b)) (ha : ∀ k, a k < 256) (hb : ∀ k, b k < 256) (hx : x < 256) :
    CE Try.prog 49 [.pointer (some ⟨bk, o, none⟩), .int .u8 (((x : Nat) : Int)), .bool false] w (RetV w (.int .i64 (((wt a x : Nat) : Int)))) := by
  refine CE.enter 31 [(0, .pointer (some ⟨bk, o, none⟩)), (1, .int .u8 (((x : Nat) : Int))), (2, .bool false)] en_49 Try.func49 rfl rfl (Nat.le_of_ble_eq_true rfl) rfl ?_
  have st := St.start w
  refine Wc.seq ?_
  refine Wc.region rfl ?_
  refine Wl.pure (PR.assI rfl) ?_
  refine Wl.nil ?_
  refine tn ?_
  refine Wc.seq ?_
  refine Wc.region rfl ?_
  refine Wl.pure (PR.moveP rfl) ?_
  refine Wl.pure (PR.moveB rfl) ?_
  refine Wl.callV (c_l02RowsF (bk := bk) (o := o) (s := s) (p := p) (a := a) (b := b) (hR.st st)) rfl ?_
  intro w1 hbel
  replace st := st.call hbel
  clear hbel
  refine Wl.alloc st tZ_31 rfl ?_
  clear st
  intro b7 w2 st
  refine Wl.storeA (i := 0) (cs' := arrU .u8 6 a) st tA_31 rfl rfl (arrU_len _) (arrU_one _) rfl (le_of_len (arrU_len _) (by omega)) (all_put (arrU_len _)) ?_
  clear st
  intro w3 st
  replace st : St [] w w3 [(b7, arrU .u8 6 a, 31)] := st
  refine Wl.nil ?_
  refine tn ?_
  refine Wc.seq ?_
  refine Wc.region rfl ?_
  refine Wl.pure (PR.assI rfl) ?_
  refine Wl.nil ?_
  refine tn ?_
  refine Wc.seq ?_
  refine Wc.seq ?_
  refine Wc.region rfl ?_
  refine Wl.pure (PR.assI rfl) ?_
  refine Wl.nil ?_
  refine tn ?_
  refine Wc.block ?_
  refine Wc.loopF (γ := Nat × Nat) (fun g => [(1, .int .u8 (((x : Nat) : Int))), (6, .int .i64 (0)), (7, .pointer (some ⟨b7, 0, none⟩)), (8, .int .u8 (((g.2 : Nat) : Int))), (9, .int .i64 (((g.1 : Nat) : Int)))]) (fun g w_ => St [] w w_ [(b7, arrU .u8 6 a, 31)] ∧ (g.1 ≤ 6) ∧ (g.2 = orS a x g.1) ∧ (g.2 < 256)) (fun g => 6 - g.1) ?_ ?_
  · exact ⟨(0, 0), (.cons rfl (.cons rfl (.cons rfl (.cons rfl (.cons rfl (.nil _)))))), st, (by omega), rfl, (by decide)⟩
  clear st
  rintro ⟨k, v⟩ w4 ⟨st, hk, hv, hvb⟩
  try dsimp only at st hk hv hvb ⊢
  refine Wc.seq ?_
  refine Wc.seq ?_
  refine Wc.region rfl ?_
  refine Wl.pure (PR.moveI rfl) ?_
  refine Wl.pure (PR.lss (a := ((k : Nat) : Int)) (b := 6) rfl rfl) ?_
  refine Wl.nil ?_
  refine tn ?_
  refine Wc.condD (p := ((k : Nat) : Int) < 6) rfl (fun h5 => ?_) (fun h5 => ?_)
  · refine Wc.skip ?_
    refine tn ?_
    refine Wc.seq ?_
    refine Wc.block ?_
    refine Wc.seq ?_
    refine Wc.region rfl ?_
    refine Wl.pure (PR.moveI rfl) ?_
    refine Wl.pure (PR.moveI rfl) ?_
    refine Wl.pure (PR.conv (n := ((k : Nat) : Int)) tI_68 rfl (by simp only [fitI]; omega) Try.underlying3) ?_
    refine Wl.pure (PR.shr (a := x) (n := k) rfl rfl (by decide) hx) ?_
    refine Wl.pure (PR.and (a := (x >>> k)) (b := 1) rfl rfl (by decide) (shr_lt hx) (by decide)) ?_
    refine Wl.pure (PR.eql (a := ((((x >>> k) &&& 1) : Nat) : Int)) (b := 1) rfl rfl) ?_
    refine Wl.nil ?_
    refine tn ?_
    refine Wc.condD (p := ((((x >>> k) &&& 1) : Nat) : Int) = 1) rfl (fun h6 => ?_) (fun h6 => ?_)
    · refine Wc.region rfl ?_
      refine Wl.pure (PR.moveI rfl) ?_
      refine Wl.pure (PR.moveI rfl) ?_
      refine Wl.pure (PR.idxAddrA1 (i := k) tE_31 rfl rfl (by omega)) ?_
      refine Wl.load (i := 0) st tA_5 rfl rfl (arrU_get0 (by omega)) ?_
      refine Wl.pure (PR.or (a := v) (b := a (k)) rfl rfl (by decide) hvb (ha (k))) ?_
      refine Wl.pure (PR.assI rfl) ?_
      refine Wl.nil ?_
      refine bn ?_
      refine tn ?_
      refine Wc.region rfl ?_
      refine Wl.pure (PR.moveI rfl) ?_
      refine Wl.pure (PR.add (a := ((k : Nat) : Int)) (b := 1) rfl rfl (by simp only [fitI]; omega)) ?_
      refine Wl.pure (PR.assI rfl) ?_
      refine Wl.nil ?_
      refine tn ?_
      exact ⟨(k + 1, (v ||| (a (k)))), (.cons rfl (.cons rfl (.cons rfl (.cons rfl (.cons rfl (.nil _)))))), ⟨st, (by first | omega | (dsimp only; omega)), (by first | exact orS_t hv (by omega) | exact orS_f hv (by omega)), (by first | exact hvb | exact or_lt_u8 hvb (ha k))⟩, (by first | omega | (dsimp only; omega))⟩
    · refine Wc.skip ?_
      refine bn ?_
      refine tn ?_
      refine Wc.region rfl ?_
      refine Wl.pure (PR.moveI rfl) ?_
      refine Wl.pure (PR.add (a := ((k : Nat) : Int)) (b := 1) rfl rfl (by simp only [fitI]; omega)) ?_
      refine Wl.pure (PR.assI rfl) ?_
      refine Wl.nil ?_
      refine tn ?_
      exact ⟨(k + 1, v), (.cons rfl (.cons rfl (.cons rfl (.cons rfl (.cons rfl (.nil _)))))), ⟨st, (by first | omega | (dsimp only; omega)), (by first | exact orS_t hv (by omega) | exact orS_f hv (by omega)), (by first | exact hvb | exact or_lt_u8 hvb (ha k))⟩, (by first | omega | (dsimp only; omega))⟩
  · refine Wc.exit ?_
    refine tx ?_
    refine tx ?_
    refine bh ?_
    refine tn ?_
    refine Wc.seq ?_
    refine Wc.region rfl ?_
    refine Wl.pure (PR.moveI rfl) ?_
    refine Wl.pure (PR.conv (n := ((v : Nat) : Int)) tI_82 rfl (fitN hvb rfl) Try.underlying5) ?_
    refine Wl.callV (c_spec_l01Count (x := v) (Nat.lt_of_lt_of_le hvb (by decide))) rfl ?_
    intro w7 hbel
    replace st := st.call hbel
    clear hbel
    refine Wl.pure (PR.assI rfl) ?_
    refine Wl.nil ?_
    refine tn ?_
    refine Wc.ret ?_
    refine postL.tmp rfl rfl ?_
    refine RetV.of ?_ st.below
    refine congrArg (fun x : Nat => Value.int .i64 (x : Int)) ?_
    obtain rfl : k = 6 := by omega
    unfold wt; rw [hv]

set_option maxHeartbeats 400000 in
set_option maxRecDepth 4000 in
theorem c_impl_Scheme_gap {s : Int} {p : Int} {a : Nat → Nat} {b : Nat → Nat} {x : Nat} {w : World} (ha : ∀ k, a k < 256) (hb : ∀ k, b k < 256) (hx : x < 256) :
    CE Try.prog 44 [.agg (schV (s) (p) (a) (b)).toArray, .int .u8 (((x : Nat) : Int))] w (RetV w (.int .i64 (gapZ a b x))) := by
  refine CE.enter 12 [(0, .agg (schV (s) (p) (a) (b)).toArray), (1, .int .u8 (((x : Nat) : Int)))] en_44 Try.func44 rfl rfl (Nat.le_of_ble_eq_true rfl) rfl ?_
  have st := St.start w
  refine Wc.seq ?_
  refine Wc.region rfl ?_
  refine Wl.boxA st rfl ?_
  clear st
  intro b2 w1 st
  refine Wl.pure (PR.assI rfl) ?_
  refine Wl.nil ?_
  refine tn ?_
  refine Wc.seq ?_
  refine Wc.quiet hmix (by kernel_rfl) rfl ?_
  refine Wq.loadA (i := 0) st tA_34 rfl rfl (all_sub schV_len) schV_len ?_
  refine Wq.pure (PR.moveI rfl) ?_
  refine Wq.callV (fun _ hbel => c_weightT (s := s) (p := p) (a := a) (b := b) (x := x) ha hb hx) rfl ?_
  refine Wq.loadA (i := 0) st tA_34 rfl rfl (all_sub schV_len) schV_len ?_
  refine Wq.pure (PR.moveI rfl) ?_
  refine Wq.callV (fun _ hbel => c_weightF (s := s) (p := p) (a := a) (b := b) (x := x) ha hb hx) rfl ?_
  refine Wq.pure (PR.sub (a := ((wt b x : Nat) : Int)) (b := ((wt a x : Nat) : Int)) rfl rfl (gap_fit ha hb x)) ?_
  refine Wq.pure (PR.assI rfl) ?_
  refine Wq.nil (fun w2 hbel => ?_)
  replace st := st.call hbel
  clear hbel
  refine tn ?_
  refine Wc.ret ?_
  refine postL.tmp rfl rfl ?_
  refine RetV.of ?_ st.below
  unfold gapZ; rfl

set_option maxHeartbeats 400000 in
set_option maxRecDepth 4000 in
theorem c_spec_l02Gap {bk : Nat} {o : Nat} {s : Int} {p : Int} {a : Nat → Nat} {b : Nat → Nat} {x : Nat} {w : World} (hR : RdA w bk o (schV s p a b)) (ha : ∀ k, a k < 256) (hb : ∀ k, b k < 256) (hx : x < 256) :
    CE Try.prog 43 [.pointer (some ⟨bk, o, none⟩), .int .u8 (((x : Nat) : Int))] w (RetV w (.int .i64 (gapZ a b x))) := by
  refine CE.enter 12 [(0, .pointer (some ⟨bk, o, none⟩)), (1, .int .u8 (((x : Nat) : Int)))] en_43 Try.func43 rfl rfl (Nat.le_of_ble_eq_true rfl) rfl ?_
  have st := St.start w
  refine Wc.seq ?_
  refine Wc.region rfl ?_
  refine Wl.pure (PR.assI rfl) ?_
  refine Wl.nil ?_
  refine tn ?_
  refine Wc.seq ?_
  refine Wc.region rfl ?_
  refine Wl.pure (PR.moveP rfl) ?_
  refine Wl.pure (PR.moveI rfl) ?_
  refine Wl.callV (c_l02WeightT (bk := bk) (o := o) (s := s) (p := p) (a := a) (b := b) (x := x) (hR.st st) ha hb hx) rfl ?_
  intro w1 hbel
  replace st := st.call hbel
  clear hbel
  refine Wl.pure (PR.moveP rfl) ?_
  refine Wl.pure (PR.moveI rfl) ?_
  refine Wl.callV (c_l02WeightF (bk := bk) (o := o) (s := s) (p := p) (a := a) (b := b) (x := x) (hR.st st) ha hb hx) rfl ?_
  intro w2 hbel
  replace st := st.call hbel
  clear hbel
  refine Wl.pure (PR.sub (a := ((wt b x : Nat) : Int)) (b := ((wt a x : Nat) : Int)) rfl rfl (gap_fit ha hb x)) ?_
  refine Wl.pure (PR.assI rfl) ?_
  refine Wl.nil ?_
  refine tn ?_
  refine Wc.ret ?_
  refine postL.tmp rfl rfl ?_
  refine RetV.of ?_ st.below
  unfold gapZ; rfl

set_option maxHeartbeats 400000 in
set_option maxRecDepth 4000 in
theorem c_impl_Scheme_sees {s : Int} {p : Int} {a : Nat → Nat} {b : Nat → Nat} {x : Nat} {w : World} (ha : ∀ k, a k < 256) (hb : ∀ k, b k < 256) (hx : x < 256) :
    CE Try.prog 50 [.agg (schV (s) (p) (a) (b)).toArray, .int .u8 (((x : Nat) : Int))] w (RetV w (.bool (decide (0 < gapZ a b x)))) := by
  refine CE.enter 9 [(0, .agg (schV (s) (p) (a) (b)).toArray), (1, .int .u8 (((x : Nat) : Int)))] en_50 Try.func50 rfl rfl (Nat.le_of_ble_eq_true rfl) rfl ?_
  have st := St.start w
  refine Wc.seq ?_
  refine Wc.region rfl ?_
  refine Wl.boxA st rfl ?_
  clear st
  intro b2 w1 st
  refine Wl.pure (PR.assB rfl) ?_
  refine Wl.nil ?_
  refine tn ?_
  refine Wc.seq ?_
  refine Wc.region rfl ?_
  refine Wl.loadA (i := 0) st tA_34 rfl rfl (all_sub schV_len) schV_len ?_
  refine Wl.pure (PR.moveI rfl) ?_
  refine Wl.callV (c_impl_Scheme_gap (s := s) (p := p) (a := a) (b := b) (x := x) ha hb hx) rfl ?_
  intro w2 hbel
  replace st := st.call hbel
  clear hbel
  refine Wl.pure (PR.gtr (a := gapZ a b x) (b := 0) rfl rfl) ?_
  refine Wl.pure (PR.assB rfl) ?_
  refine Wl.nil ?_
  refine tn ?_
  refine Wc.ret ?_
  refine postL.tmp rfl rfl ?_
  exact RetV.of rfl st.below

set_option maxHeartbeats 400000 in
set_option maxRecDepth 4000 in
theorem c_impl_firstOf {bk : Nat} {o : Nat} {n : Nat} {cp : Nat} {c : Nat → Bool} {e : Nat → Int} {w : World} (hR : RdA w bk o (prV n c e)) (hn : n ≤ 1000) :
    CE Try.prog 37 [.slice (some ⟨bk, o, none⟩) (n) (cp)] w (RetV w (.int .i64 (firstZ n c e))) := by
  refine CE.enter 16 [(0, .slice (some ⟨bk, o, none⟩) (n) (cp))] en_37 Try.func37 rfl rfl (Nat.le_of_ble_eq_true rfl) rfl ?_
  have st := St.start w
  refine Wc.seq ?_
  refine Wc.region rfl ?_
  refine Wl.pure (PR.assI rfl) ?_
  refine Wl.nil ?_
  refine tn ?_
  refine Wc.seq ?_
  refine Wc.seq ?_
  refine Wc.region rfl ?_
  refine Wl.pure (PR.moveL rfl) ?_
  refine Wl.pure (PR.lenL tS_79 rfl) ?_
  refine Wl.pure (PR.moveI rfl) ?_
  refine Wl.nil ?_
  refine tn ?_
  refine Wc.block ?_
  refine Wc.loopF (γ := Nat) (fun g => [(5, .slice (some ⟨bk, o, none⟩) (n) (cp)), (6, .int .i64 (((n : Nat) : Int))), (7, .int .i64 (((g : Nat) : Int)))]) (fun g w_ => St [] w w_ [] ∧ (g ≤ n) ∧ (firstZ n c e = firstF c e (n - g) g)) (fun g => n - g) ?_ ?_
  · exact ⟨0, (.cons rfl (.cons rfl (.cons rfl (.nil _)))), st, (by omega), rfl⟩
  clear st
  rintro k w1 ⟨st, hk, hf⟩
  try dsimp only at st hk hf ⊢
  refine Wc.seq ?_
  refine Wc.region rfl ?_
  refine Wl.pure (PR.lss (a := ((k : Nat) : Int)) (b := ((n : Nat) : Int)) rfl rfl) ?_
  refine Wl.nil ?_
  refine tn ?_
  refine Wc.seq ?_
  refine Wc.condD (p := ((k : Nat) : Int) < ((n : Nat) : Int)) rfl (fun h2 => ?_) (fun h2 => ?_)
  · refine Wc.skip ?_
    refine tn ?_
    refine Wc.seq ?_
    refine Wc.block ?_
    refine Wc.seq ?_
    refine Wc.region rfl ?_
    refine Wl.pure (PR.idxAddrS (i := k) tS_79 rfl rfl (by omega)) ?_
    refine Wl.loadAC (vs := [.bool (c k), .int .i64 (e k)]) tA_64 rfl rfl ((hR.st st).sub (recV_sub (prV_row _ _) (by omega)) rfl) ?_
    refine Wl.alloc st tZ_64 rfl ?_
    clear st
    intro b4 w3 st
    refine Wl.storeA (i := 0) (cs' := [.bool (c k), .int .i64 (e k)]) st tA_64 rfl rfl rfl (by simp [Value.oneCell']) rfl (by simp) rfl ?_
    clear st
    intro w4 st
    replace st : St [] w w4 [(b4, [.bool (c k), .int .i64 (e k)], 64)] := st
    refine Wl.nil ?_
    refine tn ?_
    refine Wc.seq ?_
    refine Wc.region rfl ?_
    refine Wl.pure (PR.fieldAddr tF_64_0 rfl) ?_
    refine Wl.load (i := 0) st tA_4 rfl rfl (rfl) ?_
    refine Wl.nil ?_
    refine tn ?_
    refine Wc.condB (b := c k) rfl (fun h5 => ?_) (fun h5 => ?_)
    · refine Wc.seq ?_
      refine Wc.region rfl ?_
      refine Wl.pure (PR.fieldAddr tF_64_1 rfl) ?_
      refine Wl.load (i := 0) st tA_2 rfl rfl (rfl) ?_
      refine Wl.pure (PR.assI rfl) ?_
      refine Wl.nil ?_
      refine tn ?_
      refine Wc.ret ?_
      refine br ?_
      refine tr ?_
      refine tr ?_
      refine br ?_
      refine tr ?_
      refine postL.tmp rfl rfl ?_
      refine RetV.of ?_ st.below
      refine congrArg (Value.int .i64) ?_
      first | exact firstF_t (by omega) hf (by assumption) | exact firstF_e (by omega) hf
    · refine Wc.skip ?_
      refine bn ?_
      refine tn ?_
      refine Wc.region rfl ?_
      refine Wl.pure (PR.add (a := ((k : Nat) : Int)) (b := 1) rfl rfl (by simp only [fitI]; omega)) ?_
      refine Wl.pure (PR.moveI rfl) ?_
      refine Wl.nil ?_
      refine tn ?_
      replace st := st.tail
      exact ⟨k + 1, (.cons rfl (.cons rfl (.cons rfl (.nil _)))), ⟨st, (by first | omega | (dsimp only; omega)), (firstF_f (by omega) hf (by assumption))⟩, (by first | omega | (dsimp only; omega))⟩
  · refine Wc.exit ?_
    refine tx ?_
    refine tx ?_
    refine bh ?_
    refine tn ?_
    refine Wc.seq ?_
    refine Wc.region rfl ?_
    refine Wl.pure (PR.assI rfl) ?_
    refine Wl.nil ?_
    refine tn ?_
    refine Wc.ret ?_
    refine postL.tmp rfl rfl ?_
    refine RetV.of ?_ st.below
    refine congrArg (Value.int .i64) ?_
    first | exact firstF_t (by omega) hf (by assumption) | exact firstF_e (by omega) hf

end Go.Proofs.Ytjkicobdokcjfaa
