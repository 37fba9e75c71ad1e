/-
  Contracts of functions, printed by a program of ours.
-/
import Derived.Test.YtagghfllgafmgaaC1
namespace Go.Proofs.Ytagghfllgafmgaa
open Go.RowKit
set_option linter.unusedVariables false
set_option linter.unusedSimpArgs false

set_option maxHeartbeats 400000 in
set_option maxRecDepth 4000 in
theorem c_impl_mark {p : Int} {c : Nat → Nat} {seed : Nat} {w : World} (hp : -128 ≤ p ∧ p ≤ 127) (hc : ∀ k, c k < 256) (hs : seed < 4294967296) :
    CE Try.prog 49 [.agg (layV (p) (c)).toArray, .int .u32 (((seed : Nat) : Int))] w (RetV w (.int .u32 (((markK seed p c 64 : Nat) : Int)))) := by
  refine CE.enter 26 [(0, .agg (layV (p) (c)).toArray), (1, .int .u32 (((seed : Nat) : Int)))] en_49 Try.func49 rfl rfl (Nat.le_of_ble_eq_true rfl) rfl ?_
  have st := St.start w
  refine Wc.seq ?_
  refine Wc.region rfl ?_
  refine Wl.boxA st rfl ?_
  clear st
  intro b2 w1 st
  refine Wl.pure (PR.assI rfl) ?_
  refine Wl.nil ?_
  refine tn ?_
  refine Wc.seq ?_
  refine Wc.region rfl ?_
  refine Wl.pure (PR.moveI rfl) ?_
  refine Wl.pure (PR.mulU (a := seed) (b := 16777619) rfl rfl (by decide)) ?_
  refine Wl.pure (PR.fieldAddr tF_29_0 rfl) ?_
  refine Wl.load (i := 0) st tA_22 rfl rfl (rfl) ?_
  refine Wl.pure (PR.convN (n := p) (B := 4294967296) tI_26 rfl (by decide) Try.underlying22) ?_
  refine Wl.pure (PR.xor (a := ((seed * 16777619) % 4294967296)) (b := (p % 4294967296).toNat) rfl rfl (by decide) (Nat.mod_lt _ (by decide)) (toNat_mod_lt (by decide))) ?_
  refine Wl.pure (PR.assI rfl) ?_
  refine Wl.nil ?_
  refine tn ?_
  refine Wc.seq ?_
  refine Wc.seq ?_
  refine Wc.region rfl ?_
  refine Wl.pure (PR.fieldAddr tF_29_1 rfl) ?_
  refine Wl.loadA (i := 0) st tA_23 rfl rfl layV_sub_c (arrU_len _) ?_
  refine Wl.pure (PR.moveI rfl) ?_
  refine Wl.nil ?_
  refine tn ?_
  refine Wc.block ?_
  refine Wc.loopF (γ := Nat) (fun g => [(4, .int .u32 (0)), (5, .int .u32 (((markK seed p c g : Nat) : Int))), (15, .agg (arrU .u8 64 c).toArray), (16, .int .i64 (((g : Nat) : Int)))]) (fun g w_ => St [] w w_ [(b2, layV (p) (c), 29)] ∧ g ≤ 64) (fun g => 64 - g) ?_ ?_
  · exact ⟨0, (.cons rfl (.cons rfl (.cons rfl (.cons rfl (.nil _))))), st, (by omega)⟩
  clear st
  rintro k w2 ⟨st, hk⟩
  try dsimp only at st hk ⊢
  refine Wc.seq ?_
  refine Wc.region rfl ?_
  refine Wl.pure (PR.lss (a := ((k : Nat) : Int)) (b := 64) rfl rfl) ?_
  refine Wl.nil ?_
  refine tn ?_
  refine Wc.seq ?_
  refine Wc.condD (p := ((k : Nat) : Int) < 64) rfl (fun h3 => ?_) (fun h3 => ?_)
  · refine Wc.skip ?_
    refine tn ?_
    refine Wc.seq ?_
    refine Wc.block ?_
    refine Wc.seq ?_
    refine Wc.region rfl ?_
    refine Wl.pure (PR.idxAgg (i := k) tE_23 rfl rfl (by omega) (arrU_get1 (by omega))) ?_
    refine Wl.pure (PR.assI rfl) ?_
    refine Wl.nil ?_
    refine tn ?_
    refine Wc.region rfl ?_
    refine Wl.pure (PR.moveI rfl) ?_
    refine Wl.pure (PR.mulU (a := markK seed p c k) (b := 16777619) rfl rfl (by decide)) ?_
    refine Wl.pure (PR.moveI rfl) ?_
    refine Wl.pure (PR.conv (n := ((c (k) : Nat) : Int)) tI_26 rfl (fitN (hc (k)) rfl) Try.underlying5) ?_
    refine Wl.pure (PR.xor (a := (((markK seed p c k) * 16777619) % 4294967296)) (b := c (k)) rfl rfl (by decide) (Nat.mod_lt _ (by decide)) (Nat.lt_of_lt_of_le (hc (k)) (by decide))) ?_
    refine Wl.pure (PR.assI rfl) ?_
    refine Wl.nil ?_
    refine bn ?_
    refine tn ?_
    refine Wc.region rfl ?_
    refine Wl.pure (PR.add (a := ((k : Nat) : Int)) (b := 1) rfl rfl (by simp only [fitI]; omega)) ?_
    refine Wl.pure (PR.moveI rfl) ?_
    refine Wl.nil ?_
    refine tn ?_
    exact ⟨k + 1, (.cons rfl (.cons rfl (.cons rfl (.cons rfl (.nil _))))), ⟨st, (by first | omega | (dsimp only; omega))⟩, (by first | omega | (dsimp only; omega))⟩
  · refine Wc.exit ?_
    refine tx ?_
    refine tx ?_
    refine bh ?_
    refine tn ?_
    refine Wc.seq ?_
    refine Wc.region rfl ?_
    refine Wl.pure (PR.moveI rfl) ?_
    refine Wl.pure (PR.assI rfl) ?_
    refine Wl.nil ?_
    refine tn ?_
    refine Wc.ret ?_
    refine postL.tmp rfl rfl ?_
    refine RetV.of ?_ st.below
    obtain rfl : k = 64 := by omega
    rfl

set_option maxHeartbeats 400000 in
set_option maxRecDepth 4000 in
theorem c_spec_l07Mark {b : Nat} {o : Nat} {p : Int} {c : Nat → Nat} {seed : Nat} {w : World} (hR : RdA w b o (layV p c)) (hp : -128 ≤ p ∧ p ≤ 127) (hc : ∀ k, c k < 256) (hs : seed < 4294967296) :
    CE Try.prog 46 [.pointer (some ⟨b, o, none⟩), .int .u32 (((seed : Nat) : Int))] w (RetV w (.int .u32 (((markK seed p c 64 : Nat) : Int)))) := by
  refine CE.enter 30 [(0, .pointer (some ⟨b, o, none⟩)), (1, .int .u32 (((seed : Nat) : Int)))] en_46 Try.func46 rfl rfl (Nat.le_of_ble_eq_true rfl) rfl ?_
  have st := St.start w
  refine Wc.seq ?_
  refine Wc.region rfl ?_
  refine Wl.pure (PR.assI rfl) ?_
  refine Wl.nil ?_
  refine tn ?_
  refine Wc.seq ?_
  refine Wc.region rfl ?_
  refine Wl.pure (PR.moveI rfl) ?_
  refine Wl.pure (PR.mulU (a := seed) (b := 16777619) rfl rfl (by decide)) ?_
  refine Wl.pure (PR.moveP rfl) ?_
  refine Wl.pure (PR.nil_ rfl) ?_
  refine Wl.pure (PR.fieldAddr tF_29_0 rfl) ?_
  refine Wl.loadC tA_22 rfl ((hR.st st).at_ (rfl) rfl) ?_
  refine Wl.pure (PR.convN (n := p) (B := 4294967296) tI_26 rfl (by decide) Try.underlying22) ?_
  refine Wl.pure (PR.xor (a := ((seed * 16777619) % 4294967296)) (b := (p % 4294967296).toNat) rfl rfl (by decide) (Nat.mod_lt _ (by decide)) (toNat_mod_lt (by decide))) ?_
  refine Wl.pure (PR.assI rfl) ?_
  refine Wl.nil ?_
  refine tn ?_
  refine Wc.seq ?_
  refine Wc.seq ?_
  refine Wc.region rfl ?_
  refine Wl.pure (PR.assI rfl) ?_
  refine Wl.nil ?_
  refine tn ?_
  refine Wc.block ?_
  refine Wc.loopF (γ := Nat) (fun g => [(0, .pointer (some ⟨b, o, none⟩)), (4, .int .u32 (0)), (5, .int .u32 (((markK seed p c g : Nat) : Int))), (6, .int .i64 (((g : Nat) : Int)))]) (fun g w_ => St [] w w_ [] ∧ g ≤ 64) (fun g => 64 - g) ?_ ?_
  · exact ⟨0, (.cons rfl (.cons rfl (.cons rfl (.cons rfl (.nil _))))), st, (by omega)⟩
  clear st
  rintro k w1 ⟨st, hk⟩
  try dsimp only at st hk ⊢
  refine Wc.seq ?_
  refine Wc.seq ?_
  refine Wc.region rfl ?_
  refine Wl.pure (PR.moveI rfl) ?_
  refine Wl.pure (PR.lss (a := ((k : Nat) : Int)) (b := 64) rfl rfl) ?_
  refine Wl.nil ?_
  refine tn ?_
  refine Wc.condD (p := ((k : Nat) : Int) < 64) rfl (fun h2 => ?_) (fun h2 => ?_)
  · refine Wc.skip ?_
    refine tn ?_
    refine Wc.seq ?_
    refine Wc.block ?_
    refine Wc.region rfl ?_
    refine Wl.pure (PR.moveI rfl) ?_
    refine Wl.pure (PR.mulU (a := markK seed p c k) (b := 16777619) rfl rfl (by decide)) ?_
    refine Wl.pure (PR.moveP rfl) ?_
    refine Wl.pure (PR.moveI rfl) ?_
    refine Wl.pure (PR.nil_ rfl) ?_
    refine Wl.pure (PR.fieldAddr tF_29_1 rfl) ?_
    refine Wl.pure (PR.idxAddrA1 (i := k) tE_23 rfl rfl (by omega)) ?_
    refine Wl.loadC tA_5 rfl ((hR.st st).at_ (layV_get_c (by omega)) (Nat.add_assoc _ _ _).symm) ?_
    refine Wl.pure (PR.conv (n := ((c (k) : Nat) : Int)) tI_26 rfl (fitN (hc (k)) rfl) Try.underlying5) ?_
    refine Wl.pure (PR.xor (a := (((markK seed p c k) * 16777619) % 4294967296)) (b := c (k)) rfl rfl (by decide) (Nat.mod_lt _ (by decide)) (Nat.lt_of_lt_of_le (hc (k)) (by decide))) ?_
    refine Wl.pure (PR.assI rfl) ?_
    refine Wl.nil ?_
    refine bn ?_
    refine tn ?_
    refine Wc.region rfl ?_
    refine Wl.pure (PR.moveI rfl) ?_
    refine Wl.pure (PR.add (a := ((k : Nat) : Int)) (b := 1) rfl rfl (by simp only [fitI]; omega)) ?_
    refine Wl.pure (PR.assI rfl) ?_
    refine Wl.nil ?_
    refine tn ?_
    exact ⟨k + 1, (.cons rfl (.cons rfl (.cons rfl (.cons rfl (.nil _))))), ⟨st, (by first | omega | (dsimp only; omega))⟩, (by first | omega | (dsimp only; omega))⟩
  · refine Wc.exit ?_
    refine tx ?_
    refine tx ?_
    refine bh ?_
    refine tn ?_
    refine Wc.seq ?_
    refine Wc.region rfl ?_
    refine Wl.pure (PR.moveI rfl) ?_
    refine Wl.pure (PR.assI rfl) ?_
    refine Wl.nil ?_
    refine tn ?_
    refine Wc.ret ?_
    refine postL.tmp rfl rfl ?_
    refine RetV.of ?_ st.below
    obtain rfl : k = 64 := by omega
    rfl

set_option maxHeartbeats 400000 in
set_option maxRecDepth 4000 in
theorem c_impl_MarkOf {p : Int} {c : Nat → Nat} {seed : Nat} {w : World} (hp : -128 ≤ p ∧ p ≤ 127) (hc : ∀ k, c k < 256) (hs : seed < 4294967296) :
    CE Try.prog 11 [.agg (layV (p) (c)).toArray, .int .u32 (((seed : Nat) : Int))] w (RetV w (.tuple #[.int .u32 (((markF seed p c : Nat) : Int)), .int .i64 (((codeIf (layOk p c) 1 : Nat) : Int))])) := by
  refine CE.enter 12 [(0, .agg (layV (p) (c)).toArray), (1, .int .u32 (((seed : Nat) : Int)))] en_11 Try.func11 rfl rfl (Nat.le_of_ble_eq_true rfl) rfl ?_
  have st := St.start w
  refine Wc.seq ?_
  refine Wc.region rfl ?_
  refine Wl.boxA st rfl ?_
  clear st
  intro b2 w1 st
  refine Wl.pure (PR.assI rfl) ?_
  refine Wl.pure (PR.assI rfl) ?_
  refine Wl.nil ?_
  refine tn ?_
  refine Wc.seq ?_
  refine Wc.seq ?_
  refine Wc.region rfl ?_
  refine Wl.loadA (i := 0) st tA_29 rfl rfl (all_sub layV_len) layV_len ?_
  refine Wl.callV (c_impl_ValidLayer (p := p) (c := c) (by first | assumption | omega) hc) rfl ?_
  intro w2 hb
  replace st := st.call hb
  clear hb
  refine Wl.pure (PR.not_ rfl) ?_
  refine Wl.nil ?_
  refine tn ?_
  refine Wc.condNB (b := layOk p c) rfl (fun h3 => ?_) (fun h3 => ?_)
  · refine Wc.seq ?_
    refine Wc.region rfl ?_
    refine Wl.pure (PR.assI rfl) ?_
    refine Wl.pure (PR.assI rfl) ?_
    refine Wl.nil ?_
    refine tn ?_
    refine Wc.ret ?_
    refine tr ?_
    refine postL.tmp2 rfl rfl rfl ?_
    refine RetV.of ?_ st.below
    first | exact tup2 (mark_t (by assumption)) (code_t 1 (by assumption)) | exact tup2 (a := 0) (b := 1) (mark_f (by assumption)) (code_f 1 (by assumption))
  · refine Wc.skip ?_
    refine tn ?_
    refine Wc.seq ?_
    refine Wc.region rfl ?_
    refine Wl.loadA (i := 0) st tA_29 rfl rfl (all_sub layV_len) layV_len ?_
    refine Wl.pure (PR.moveI rfl) ?_
    refine Wl.callV (c_impl_mark (p := p) (c := c) (seed := seed) (by first | assumption | omega) hc hs) rfl ?_
    intro w4 hb
    replace st := st.call hb
    clear hb
    refine Wl.pure (PR.assI rfl) ?_
    refine Wl.pure (PR.assI rfl) ?_
    refine Wl.nil ?_
    refine tn ?_
    refine Wc.ret ?_
    refine postL.tmp2 rfl rfl rfl ?_
    refine RetV.of ?_ st.below
    first | exact tup2 (mark_t (by assumption)) (code_t 1 (by assumption)) | exact tup2 (a := 0) (b := 1) (mark_f (by assumption)) (code_f 1 (by assumption))

set_option maxHeartbeats 400000 in
set_option maxRecDepth 4000 in
theorem c_spec_MarkOf {p : Int} {c : Nat → Nat} {seed : Nat} {w : World} (hp : -128 ≤ p ∧ p ≤ 127) (hc : ∀ k, c k < 256) (hs : seed < 4294967296) :
    CE Try.prog 9 [.agg (layV (p) (c)).toArray, .int .u32 (((seed : Nat) : Int))] w (RetV w (.tuple #[.int .u32 (((markF seed p c : Nat) : Int)), .int .i64 (((codeIf (layOk p c) 1 : Nat) : Int))])) := by
  refine CE.enter 10 [(0, .agg (layV (p) (c)).toArray), (1, .int .u32 (((seed : Nat) : Int)))] en_9 Try.func9 rfl rfl (Nat.le_of_ble_eq_true rfl) rfl ?_
  have st := St.start w
  refine Wc.seq ?_
  refine Wc.region rfl ?_
  refine Wl.boxA st rfl ?_
  clear st
  intro b2 w1 st
  refine Wl.pure (PR.assI rfl) ?_
  refine Wl.pure (PR.assI rfl) ?_
  refine Wl.nil ?_
  refine tn ?_
  refine Wc.seq ?_
  refine Wc.seq ?_
  refine Wc.region rfl ?_
  refine Wl.callV (c_spec_l01Ok (b := b2) (o := 0) (p := p) (c := c) (st.rdA (i := 0) rfl (all_sub layV_len)) (by first | assumption | omega) hc) rfl ?_
  intro w2 hb
  replace st := st.call hb
  clear hb
  refine Wl.pure (PR.not_ rfl) ?_
  refine Wl.nil ?_
  refine tn ?_
  refine Wc.condNB (b := layOk p c) rfl (fun h3 => ?_) (fun h3 => ?_)
  · refine Wc.seq ?_
    refine Wc.region rfl ?_
    refine Wl.pure (PR.assI rfl) ?_
    refine Wl.pure (PR.assI rfl) ?_
    refine Wl.nil ?_
    refine tn ?_
    refine Wc.ret ?_
    refine tr ?_
    refine postL.tmp2 rfl rfl rfl ?_
    refine RetV.of ?_ st.below
    first | exact tup2 (mark_t (by assumption)) (code_t 1 (by assumption)) | exact tup2 (a := 0) (b := 1) (mark_f (by assumption)) (code_f 1 (by assumption))
  · refine Wc.skip ?_
    refine tn ?_
    refine Wc.seq ?_
    refine Wc.region rfl ?_
    refine Wl.pure (PR.moveI rfl) ?_
    refine Wl.callV (c_spec_l07Mark (b := b2) (o := 0) (p := p) (c := c) (seed := seed) (st.rdA (i := 0) rfl (all_sub layV_len)) (by first | assumption | omega) hc hs) rfl ?_
    intro w4 hb
    replace st := st.call hb
    clear hb
    refine Wl.pure (PR.assI rfl) ?_
    refine Wl.pure (PR.assI rfl) ?_
    refine Wl.nil ?_
    refine tn ?_
    refine Wc.ret ?_
    refine postL.tmp2 rfl rfl rfl ?_
    refine RetV.of ?_ st.below
    first | exact tup2 (mark_t (by assumption)) (code_t 1 (by assumption)) | exact tup2 (a := 0) (b := 1) (mark_f (by assumption)) (code_f 1 (by assumption))

set_option maxHeartbeats 400000 in
set_option maxRecDepth 4000 in
theorem c_laws_FnExactMarkOf {p : Int} {c : Nat → Nat} {seed : Nat} {w : World} (hp : -128 ≤ p ∧ p ≤ 127) (hc : ∀ k, c k < 256) (hs : seed < 4294967296) :
    CE Try.prog 3 [.agg (layV (p) (c)).toArray, .int .u32 (((seed : Nat) : Int))] w (RetV w (.bool true)) := by
  refine CE.enter 31 [(0, .agg (layV (p) (c)).toArray), (1, .int .u32 (((seed : Nat) : Int)))] en_3 Try.func3 rfl rfl (Nat.le_of_ble_eq_true rfl) rfl ?_
  have st := St.start w
  refine Wc.seq ?_
  refine Wc.region rfl ?_
  refine Wl.boxA st rfl ?_
  clear st
  intro b2 w1 st
  refine Wl.pure (PR.assB rfl) ?_
  refine Wl.nil ?_
  refine tn ?_
  refine Wc.seq ?_
  refine Wc.region rfl ?_
  refine Wl.loadA (i := 0) st tA_25 rfl rfl (all_sub layV_len) layV_len ?_
  refine Wl.callV (c_laws_toLayer (p := p) (c := c) hc) rfl ?_
  intro w2 hb
  replace st := st.call hb
  clear hb
  refine Wl.pure (PR.moveI rfl) ?_
  refine Wl.callV (c_spec_MarkOf (p := p) (c := c) (seed := seed) (by first | assumption | omega) (by assumption) hs) rfl ?_
  intro w3 hb
  replace st := st.call hb
  clear hb
  refine Wl.pure (PR.moveV (.tuple #[.int .u32 (((markF seed p c : Nat) : Int)), .int .i64 (((codeIf (layOk p c) 1 : Nat) : Int))]) rfl) ?_
  refine Wl.pure (PR.extr (i := 0) (vs := [.int .u32 (((markF seed p c : Nat) : Int)), .int .i64 (((codeIf (layOk p c) 1 : Nat) : Int))]) rfl rfl) ?_
  refine Wl.pure (PR.extr (i := 1) (vs := [.int .u32 (((markF seed p c : Nat) : Int)), .int .i64 (((codeIf (layOk p c) 1 : Nat) : Int))]) rfl rfl) ?_
  refine Wl.pure (PR.assI rfl) ?_
  refine Wl.pure (PR.assI rfl) ?_
  refine Wl.nil ?_
  refine tn ?_
  refine Wc.seq ?_
  refine Wc.region rfl ?_
  refine Wl.loadA (i := 0) st tA_25 rfl rfl (all_sub layV_len) layV_len ?_
  refine Wl.callV (c_laws_toLayer (p := p) (c := c) hc) rfl ?_
  intro w4 hb
  replace st := st.call hb
  clear hb
  refine Wl.pure (PR.moveI rfl) ?_
  refine Wl.callV (c_impl_MarkOf (p := p) (c := c) (seed := seed) (by first | assumption | omega) (by assumption) hs) rfl ?_
  intro w5 hb
  replace st := st.call hb
  clear hb
  refine Wl.pure (PR.moveV (.tuple #[.int .u32 (((markF seed p c : Nat) : Int)), .int .i64 (((codeIf (layOk p c) 1 : Nat) : Int))]) rfl) ?_
  refine Wl.pure (PR.extr (i := 0) (vs := [.int .u32 (((markF seed p c : Nat) : Int)), .int .i64 (((codeIf (layOk p c) 1 : Nat) : Int))]) rfl rfl) ?_
  refine Wl.pure (PR.extr (i := 1) (vs := [.int .u32 (((markF seed p c : Nat) : Int)), .int .i64 (((codeIf (layOk p c) 1 : Nat) : Int))]) rfl rfl) ?_
  refine Wl.pure (PR.assI rfl) ?_
  refine Wl.pure (PR.assI rfl) ?_
  refine Wl.nil ?_
  refine tn ?_
  refine Wc.seq ?_
  refine Wc.seq ?_
  refine Wc.region rfl ?_
  refine Wl.pure (PR.moveI rfl) ?_
  refine Wl.pure (PR.moveI rfl) ?_
  refine Wl.pure (PR.neqS (a := ((markF seed p c : Nat) : Int)) rfl rfl) ?_
  refine Wl.pure (PR.moveB rfl) ?_
  refine Wl.on rfl rfl ?_
  refine Wl.pure (PR.moveI rfl) ?_
  refine Wl.on rfl rfl ?_
  refine Wl.pure (PR.moveI rfl) ?_
  refine Wl.on rfl rfl ?_
  refine Wl.pure (PR.neqS (a := ((codeIf (layOk p c) 1 : Nat) : Int)) rfl rfl) ?_
  refine Wl.pure (PR.pickFB rfl rfl) ?_
  refine Wl.nil ?_
  refine tn ?_
  refine Wc.condF rfl ?_
  refine Wc.skip ?_
  refine tn ?_
  refine Wc.seq ?_
  refine Wc.region rfl ?_
  refine Wl.pure (PR.assB rfl) ?_
  refine Wl.nil ?_
  refine tn ?_
  refine Wc.ret ?_
  refine postL.tmp rfl rfl ?_
  exact RetV.of rfl st.below

end Go.Proofs.Ytagghfllgafmgaa
