/-
  Contracts of functions, printed by a program of ours.
-/
import Derived.Test.YtdlmbdclbnlmlaaCE1
namespace Go.Proofs.Ytdlmbdclbnlmlaa
open Go.RowKit
set_option linter.unusedVariables false
set_option linter.unusedSimpArgs false

set_option maxHeartbeats 400000 in
set_option maxRecDepth 4000 in
theorem c_spec_l02Sets {bk : Nat} {o : Nat} {s : Nat} {p : Nat} {a : Nat → Nat} {b : Nat → Nat} {w : World} (hR : RdA w bk o (schV ((s : Nat) : Int) ((p : Nat) : Int) a b)) (hs6 : s ≤ 6) (hp8 : 1 ≤ p ∧ p ≤ 8) (ha : ∀ k, a k < 256) (hb : ∀ k, b k < 256) :
    CE Try.prog 64 [.pointer (some ⟨bk, o, none⟩)] w (RetV w (.tuple #[.int .u64 (((seeS a b (1 <<< s) : Nat) : Int)), .int .u64 (((bliS p a b (1 <<< s) : Nat) : Int))])) := by
  refine CE.enter 38 [(0, .pointer (some ⟨bk, o, none⟩))] en_64 Try.func64 rfl rfl (Nat.le_of_ble_eq_true rfl) rfl ?_
  have st := St.start w
  refine Wc.seq ?_
  refine Wc.region rfl ?_
  refine Wl.pure (PR.assI rfl) ?_
  refine Wl.pure (PR.assI rfl) ?_
  refine Wl.nil ?_
  refine tn ?_
  refine Wc.seq ?_
  refine Wc.region rfl ?_
  refine Wl.pure (PR.assI rfl) ?_
  refine Wl.nil ?_
  refine tn ?_
  refine Wc.seq ?_
  refine Wc.region rfl ?_
  refine Wl.pure (PR.assI rfl) ?_
  refine Wl.nil ?_
  refine tn ?_
  refine Wc.seq ?_
  refine Wc.seq ?_
  have hsz := shl_bd hs6
  refine Wc.region rfl ?_
  refine Wl.pure (PR.assI rfl) ?_
  refine Wl.nil ?_
  refine tn ?_
  refine Wc.block ?_
  refine Wc.loopF (γ := Nat × Nat × Nat) (fun g => [(0, .pointer (some ⟨bk, o, none⟩)), (2, .int .u64 (0)), (3, .int .u64 (0)), (4, .int .u64 (((g.2.1 : Nat) : Int))), (5, .int .u64 (((g.2.2 : Nat) : Int))), (6, .int .i64 (((g.1 : Nat) : Int)))]) (fun g w_ => St [] w w_ [] ∧ (g.1 ≤ 1 <<< s) ∧ (g.2.1 = seeS a b g.1) ∧ (g.2.2 = bliS p a b g.1) ∧ (g.2.1 < 18446744073709551616) ∧ (g.2.2 < 18446744073709551616)) (fun g => 1 <<< s - g.1) ?_ ?_
  · exact ⟨(0, 0, 0), (.cons rfl (.cons rfl (.cons rfl (.cons rfl (.cons rfl (.cons rfl (.nil _))))))), st, (by first | omega | (dsimp only; omega)), (by unfold seeS; rfl), (by unfold bliS; rfl), (by decide), (by decide)⟩
  clear st
  rintro ⟨x, u, v⟩ w1 ⟨st, hx, hu, hv, hub, hvb⟩
  try dsimp only at st hx hu hv hub hvb ⊢
  refine Wc.seq ?_
  refine Wc.seq ?_
  refine Wc.region rfl ?_
  refine Wl.pure (PR.moveI rfl) ?_
  refine Wl.pure (PR.moveP rfl) ?_
  refine Wl.pure (PR.nil_ rfl) ?_
  refine Wl.pure (PR.fieldAddr tF_31_0 rfl) ?_
  refine Wl.loadC tA_22 rfl ((hR.st st).at_ (j := 0) (rfl) rfl) ?_
  refine Wl.pure (PR.conv (n := ((s : Nat) : Int)) tI_52 rfl (by simp only [fitI]; omega) Try.underlying22) ?_
  refine Wl.pure (PR.shlI (a := 1) (n := s) rfl rfl (by omega) (sh62 (by omega))) ?_
  refine Wl.pure (PR.lss (a := ((x : Nat) : Int)) (b := (((1 <<< s) : Nat) : Int)) rfl rfl) ?_
  refine Wl.nil ?_
  refine tn ?_
  refine Wc.condD (p := ((x : Nat) : Int) < (((1 <<< s) : Nat) : Int)) rfl (fun h2 => ?_) (fun h2 => ?_)
  · refine Wc.skip ?_
    refine tn ?_
    refine Wc.seq ?_
    refine Wc.block ?_
    refine Wc.seq ?_
    refine Wc.seq ?_
    refine Wc.region rfl ?_
    refine Wl.pure (PR.moveP rfl) ?_
    refine Wl.pure (PR.moveI rfl) ?_
    refine Wl.pure (PR.conv (n := ((x : Nat) : Int)) tI_5 rfl (by simp only [fitI]; omega) Try.underlying3) ?_
    refine Wl.callV (c_spec_l02Gap (bk := bk) (o := o) (s := ((s : Nat) : Int)) (p := ((p : Nat) : Int)) (a := a) (b := b) (x := x) (hR.st st) ha hb (by first | assumption | omega)) rfl ?_
    intro w3 hbel
    replace st := st.call hbel
    clear hbel
    refine Wl.pure (PR.gtr (a := gapZ a b x) (b := 0) rfl rfl) ?_
    refine Wl.nil ?_
    refine tn ?_
    refine Wc.condD (p := 0 < gapZ a b x) rfl (fun h4 => ?_) (fun h4 => ?_)
    · refine Wc.region rfl ?_
      refine Wl.pure (PR.moveI rfl) ?_
      refine Wl.pure (PR.moveI rfl) ?_
      refine Wl.pure (PR.conv (n := ((x : Nat) : Int)) tI_52 rfl (by simp only [fitI]; omega) Try.underlying3) ?_
      refine Wl.pure (PR.shl (a := 1) (n := x) rfl rfl (by decide)) ?_
      refine Wl.pure (PR.or (a := u) (b := ((1 <<< x) % 18446744073709551616)) rfl rfl (by decide) hub (Nat.mod_lt _ (by decide))) ?_
      refine Wl.pure (PR.assI rfl) ?_
      refine Wl.nil ?_
      refine tn ?_
      refine Wc.seq ?_
      refine Wc.region rfl ?_
      refine Wl.pure (PR.moveP rfl) ?_
      refine Wl.pure (PR.moveI rfl) ?_
      refine Wl.pure (PR.conv (n := ((x : Nat) : Int)) tI_5 rfl (by simp only [fitI]; omega) Try.underlying3) ?_
      refine Wl.callV (c_spec_l02Blind (bk := bk) (o := o) (s := s) (p := p) (a := a) (b := b) (x := x) (hR.st st) (by first | assumption | omega) ha hb (by first | assumption | omega)) rfl ?_
      intro w5 hbel
      replace st := st.call hbel
      clear hbel
      refine Wl.nil ?_
      refine tn ?_
      refine Wc.condB (b := blB p a b x) rfl (fun h6 => ?_) (fun h6 => ?_)
      · refine Wc.region rfl ?_
        refine Wl.pure (PR.moveI rfl) ?_
        refine Wl.pure (PR.moveI rfl) ?_
        refine Wl.pure (PR.conv (n := ((x : Nat) : Int)) tI_52 rfl (by simp only [fitI]; omega) Try.underlying3) ?_
        refine Wl.pure (PR.shl (a := 1) (n := x) rfl rfl (by decide)) ?_
        refine Wl.pure (PR.or (a := v) (b := ((1 <<< x) % 18446744073709551616)) rfl rfl (by decide) hvb (Nat.mod_lt _ (by decide))) ?_
        refine Wl.pure (PR.assI rfl) ?_
        refine Wl.nil ?_
        refine bn ?_
        refine tn ?_
        refine Wc.region rfl ?_
        refine Wl.pure (PR.moveI rfl) ?_
        refine Wl.pure (PR.add (a := ((x : Nat) : Int)) (b := 1) rfl rfl (by simp only [fitI]; omega)) ?_
        refine Wl.pure (PR.assI rfl) ?_
        refine Wl.nil ?_
        refine tn ?_
        exact ⟨(x + 1, (u ||| ((1 <<< x) % 18446744073709551616)), (v ||| ((1 <<< x) % 18446744073709551616))), (.cons rfl (.cons rfl (.cons rfl (.cons rfl (.cons rfl (.cons rfl (.nil _))))))), ⟨st, (by first | omega | (dsimp only; omega)), (by first | exact see_t hu (by assumption) | exact see_f hu (by assumption)), (by first | exact bli_t hv (by assumption) | exact bli_f hv (by assumption)), (by first | exact hub | exact or_lt_u64 hub (Nat.mod_lt _ (by decide))), (by first | exact hvb | exact or_lt_u64 hvb (Nat.mod_lt _ (by decide)))⟩, (by first | omega | (dsimp only; omega))⟩
      · refine Wc.skip ?_
        refine bn ?_
        refine tn ?_
        refine Wc.region rfl ?_
        refine Wl.pure (PR.moveI rfl) ?_
        refine Wl.pure (PR.add (a := ((x : Nat) : Int)) (b := 1) rfl rfl (by simp only [fitI]; omega)) ?_
        refine Wl.pure (PR.assI rfl) ?_
        refine Wl.nil ?_
        refine tn ?_
        exact ⟨(x + 1, (u ||| ((1 <<< x) % 18446744073709551616)), v), (.cons rfl (.cons rfl (.cons rfl (.cons rfl (.cons rfl (.cons rfl (.nil _))))))), ⟨st, (by first | omega | (dsimp only; omega)), (by first | exact see_t hu (by assumption) | exact see_f hu (by assumption)), (by first | exact bli_t hv (by assumption) | exact bli_f hv (by assumption)), (by first | exact hub | exact or_lt_u64 hub (Nat.mod_lt _ (by decide))), (by first | exact hvb | exact or_lt_u64 hvb (Nat.mod_lt _ (by decide)))⟩, (by first | omega | (dsimp only; omega))⟩
    · refine Wc.skip ?_
      refine tn ?_
      refine Wc.seq ?_
      refine Wc.region rfl ?_
      refine Wl.pure (PR.moveP rfl) ?_
      refine Wl.pure (PR.moveI rfl) ?_
      refine Wl.pure (PR.conv (n := ((x : Nat) : Int)) tI_5 rfl (by simp only [fitI]; omega) Try.underlying3) ?_
      refine Wl.callV (c_spec_l02Blind (bk := bk) (o := o) (s := s) (p := p) (a := a) (b := b) (x := x) (hR.st st) (by first | assumption | omega) ha hb (by first | assumption | omega)) rfl ?_
      intro w7 hbel
      replace st := st.call hbel
      clear hbel
      refine Wl.nil ?_
      refine tn ?_
      refine Wc.condB (b := blB p a b x) rfl (fun h8 => ?_) (fun h8 => ?_)
      · refine Wc.region rfl ?_
        refine Wl.pure (PR.moveI rfl) ?_
        refine Wl.pure (PR.moveI rfl) ?_
        refine Wl.pure (PR.conv (n := ((x : Nat) : Int)) tI_52 rfl (by simp only [fitI]; omega) Try.underlying3) ?_
        refine Wl.pure (PR.shl (a := 1) (n := x) rfl rfl (by decide)) ?_
        refine Wl.pure (PR.or (a := v) (b := ((1 <<< x) % 18446744073709551616)) rfl rfl (by decide) hvb (Nat.mod_lt _ (by decide))) ?_
        refine Wl.pure (PR.assI rfl) ?_
        refine Wl.nil ?_
        refine bn ?_
        refine tn ?_
        refine Wc.region rfl ?_
        refine Wl.pure (PR.moveI rfl) ?_
        refine Wl.pure (PR.add (a := ((x : Nat) : Int)) (b := 1) rfl rfl (by simp only [fitI]; omega)) ?_
        refine Wl.pure (PR.assI rfl) ?_
        refine Wl.nil ?_
        refine tn ?_
        exact ⟨(x + 1, u, (v ||| ((1 <<< x) % 18446744073709551616))), (.cons rfl (.cons rfl (.cons rfl (.cons rfl (.cons rfl (.cons rfl (.nil _))))))), ⟨st, (by first | omega | (dsimp only; omega)), (by first | exact see_t hu (by assumption) | exact see_f hu (by assumption)), (by first | exact bli_t hv (by assumption) | exact bli_f hv (by assumption)), (by first | exact hub | exact or_lt_u64 hub (Nat.mod_lt _ (by decide))), (by first | exact hvb | exact or_lt_u64 hvb (Nat.mod_lt _ (by decide)))⟩, (by first | omega | (dsimp only; omega))⟩
      · refine Wc.skip ?_
        refine bn ?_
        refine tn ?_
        refine Wc.region rfl ?_
        refine Wl.pure (PR.moveI rfl) ?_
        refine Wl.pure (PR.add (a := ((x : Nat) : Int)) (b := 1) rfl rfl (by simp only [fitI]; omega)) ?_
        refine Wl.pure (PR.assI rfl) ?_
        refine Wl.nil ?_
        refine tn ?_
        exact ⟨(x + 1, u, v), (.cons rfl (.cons rfl (.cons rfl (.cons rfl (.cons rfl (.cons rfl (.nil _))))))), ⟨st, (by first | omega | (dsimp only; omega)), (by first | exact see_t hu (by assumption) | exact see_f hu (by assumption)), (by first | exact bli_t hv (by assumption) | exact bli_f hv (by assumption)), (by first | exact hub | exact or_lt_u64 hub (Nat.mod_lt _ (by decide))), (by first | exact hvb | exact or_lt_u64 hvb (Nat.mod_lt _ (by decide)))⟩, (by first | omega | (dsimp only; omega))⟩
  · refine Wc.exit ?_
    refine tx ?_
    refine tx ?_
    refine bh ?_
    refine tn ?_
    refine Wc.seq ?_
    refine Wc.region rfl ?_
    refine Wl.pure (PR.moveI rfl) ?_
    refine Wl.pure (PR.moveI rfl) ?_
    refine Wl.pure (PR.assI rfl) ?_
    refine Wl.pure (PR.assI rfl) ?_
    refine Wl.nil ?_
    refine tn ?_
    refine Wc.ret ?_
    refine postL.tmp2 rfl rfl rfl ?_
    refine RetV.of ?_ st.below
    obtain rfl : x = 1 <<< s := by omega
    rw [← hu, ← hv]

set_option maxHeartbeats 400000 in
set_option maxRecDepth 4000 in
theorem c_spec_l04Failing {bk : Nat} {o : Nat} {s : Nat} {p : Nat} {a : Nat → Nat} {b : Nat → Nat} {bf : Nat} {of : Nat} {m : Int} {f : Nat} {w : World} (hR : RdA w bk o (schV ((s : Nat) : Int) ((p : Nat) : Int) a b)) (hs6 : s ≤ 6) (hp8 : 1 ≤ p ∧ p ≤ 8) (ha : ∀ k, a k < 256) (hb : ∀ k, b k < 256) (hF : RdA w bf of [.int .i8 m, .int .u64 ((f : Nat) : Int)]) (hm : -128 ≤ m ∧ m ≤ 127) (hf : f < 18446744073709551616) :
    CE Try.prog 48 [.pointer (some ⟨bk, o, none⟩), .pointer (some ⟨bf, of, none⟩)] w (RetV w (.int .i64 (failZ p a b (1 <<< s) f))) := by
  refine CE.enter 37 [(0, .pointer (some ⟨bk, o, none⟩)), (1, .pointer (some ⟨bf, of, none⟩))] en_48 Try.func48 rfl rfl (Nat.le_of_ble_eq_true rfl) rfl ?_
  have st := St.start w
  refine Wc.seq ?_
  refine Wc.region rfl ?_
  refine Wl.pure (PR.assI rfl) ?_
  refine Wl.nil ?_
  refine tn ?_
  refine Wc.seq ?_
  refine Wc.region rfl ?_
  refine Wl.pure (PR.moveP rfl) ?_
  refine Wl.callV (c_spec_l02Sets (bk := bk) (o := o) (s := s) (p := p) (a := a) (b := b) (hR.st st) (by first | assumption | omega) (by first | assumption | omega) ha hb) rfl ?_
  intro w1 hbel
  replace st := st.call hbel
  clear hbel
  refine Wl.pure (PR.moveV (.tuple #[.int .u64 (((seeS a b (1 <<< s) : Nat) : Int)), .int .u64 (((bliS p a b (1 <<< s) : Nat) : Int))]) rfl) ?_
  refine Wl.pure (PR.extr (i := 0) (vs := [.int .u64 (((seeS a b (1 <<< s) : Nat) : Int)), .int .u64 (((bliS p a b (1 <<< s) : Nat) : Int))]) rfl rfl) ?_
  refine Wl.pure (PR.extr (i := 1) (vs := [.int .u64 (((seeS a b (1 <<< s) : Nat) : Int)), .int .u64 (((bliS p a b (1 <<< s) : Nat) : Int))]) rfl rfl) ?_
  refine Wl.pure (PR.assI rfl) ?_
  refine Wl.pure (PR.assI rfl) ?_
  refine Wl.nil ?_
  refine tn ?_
  refine Wc.seq ?_
  refine Wc.seq ?_
  have hsz := shl_bd hs6
  refine Wc.region rfl ?_
  refine Wl.pure (PR.assI rfl) ?_
  refine Wl.nil ?_
  refine tn ?_
  refine Wc.block ?_
  refine Wc.loopF (γ := Nat) (fun g => [(0, .pointer (some ⟨bk, o, none⟩)), (1, .pointer (some ⟨bf, of, none⟩)), (5, .int .u64 (((seeS a b (1 <<< s) : Nat) : Int))), (6, .int .u64 (((bliS p a b (1 <<< s) : Nat) : Int))), (7, .int .i64 (((g : Nat) : Int)))]) (fun g w_ => St [] w w_ [] ∧ (g ≤ 1 <<< s) ∧ (idxZ (1 <<< s) (badQ p a b f) = idxF (badQ p a b f) (1 <<< s - g) g)) (fun g => 1 <<< s - g) ?_ ?_
  · exact ⟨0, (.cons rfl (.cons rfl (.cons rfl (.cons rfl (.cons rfl (.nil _)))))), st, (by first | omega | (dsimp only; omega)), fz_0⟩
  clear st
  rintro x w2 ⟨st, hx, hg⟩
  try dsimp only at st hx hg ⊢
  refine Wc.seq ?_
  refine Wc.seq ?_
  refine Wc.region rfl ?_
  refine Wl.pure (PR.moveI rfl) ?_
  refine Wl.pure (PR.moveP rfl) ?_
  refine Wl.pure (PR.nil_ rfl) ?_
  refine Wl.pure (PR.fieldAddr tF_31_0 rfl) ?_
  refine Wl.loadC tA_22 rfl ((hR.st st).at_ (j := 0) (rfl) rfl) ?_
  refine Wl.pure (PR.conv (n := ((s : Nat) : Int)) tI_52 rfl (by simp only [fitI]; omega) Try.underlying22) ?_
  refine Wl.pure (PR.shlI (a := 1) (n := s) rfl rfl (by omega) (sh62 (by omega))) ?_
  refine Wl.pure (PR.lss (a := ((x : Nat) : Int)) (b := (((1 <<< s) : Nat) : Int)) rfl rfl) ?_
  refine Wl.nil ?_
  refine tn ?_
  refine Wc.condD (p := ((x : Nat) : Int) < (((1 <<< s) : Nat) : Int)) rfl (fun h3 => ?_) (fun h3 => ?_)
  · refine Wc.skip ?_
    refine tn ?_
    refine Wc.seq ?_
    refine Wc.block ?_
    refine Wc.seq ?_
    refine Wc.region rfl ?_
    refine Wl.pure (PR.moveI rfl) ?_
    refine Wl.pure (PR.assI rfl) ?_
    refine Wl.nil ?_
    refine tn ?_
    refine Wc.seq ?_
    refine Wc.seq ?_
    refine Wc.region rfl ?_
    refine Wl.pure (PR.moveP rfl) ?_
    refine Wl.pure (PR.moveI rfl) ?_
    refine Wl.callV (c_spec_l04Has (bf := bf) (of := of) (m := m) (f := f) (x := x) (hF.st st) (by first | assumption | omega) hf (by first | assumption | omega)) rfl ?_
    intro w4 hbel
    replace st := st.call hbel
    clear hbel
    refine Wl.pure (PR.not_ rfl) ?_
    refine Wl.nil ?_
    refine tn ?_
    refine Wc.condNB (b := bitB f x) rfl (fun h5 => ?_) (fun h5 => ?_)
    · refine Wc.region rfl ?_
      refine Wl.pure (PR.moveI rfl) ?_
      refine Wl.pure (PR.assI rfl) ?_
      refine Wl.nil ?_
      refine tn ?_
      refine Wc.seq ?_
      refine Wc.region rfl ?_
      refine Wl.pure (PR.moveI rfl) ?_
      refine Wl.pure (PR.moveI rfl) ?_
      refine Wl.pure (PR.conv (n := ((x : Nat) : Int)) tI_52 rfl (by simp only [fitI]; omega) Try.underlying3) ?_
      refine Wl.pure (PR.shr (a := bliS p a b (1 <<< s)) (n := x) rfl rfl (by decide) (bli_lt _ _ _ _)) ?_
      refine Wl.pure (PR.and (a := ((bliS p a b (1 <<< s)) >>> x)) (b := 1) rfl rfl (by decide) (shr_lt (bli_lt _ _ _ _)) (by decide)) ?_
      refine Wl.pure (PR.eql (a := (((((bliS p a b (1 <<< s)) >>> x) &&& 1) : Nat) : Int)) (b := 0) rfl rfl) ?_
      refine Wl.nil ?_
      refine tn ?_
      refine Wc.condD (p := (((((bliS p a b (1 <<< s)) >>> x) &&& 1) : Nat) : Int) = 0) rfl (fun h6 => ?_) (fun h6 => ?_)
      · refine Wc.seq ?_
        refine Wc.region rfl ?_
        refine Wl.pure (PR.moveI rfl) ?_
        refine Wl.pure (PR.assI rfl) ?_
        refine Wl.nil ?_
        refine tn ?_
        refine Wc.ret ?_
        refine br ?_
        refine tr ?_
        refine tr ?_
        refine br ?_
        refine tr ?_
        refine postL.tmp rfl rfl ?_
        refine RetV.of ?_ st.below
        refine congrArg (Value.int .i64) ?_
        unfold failZ
        exact idx_t (by omega) hg (by first | exact bad_s1 hsz.1 (by omega) (by assumption) (by omega) | exact bad_s3 hsz.1 (by omega) (by assumption) (by omega))
      · refine Wc.skip ?_
        refine bn ?_
        refine tn ?_
        refine Wc.region rfl ?_
        refine Wl.pure (PR.moveI rfl) ?_
        refine Wl.pure (PR.add (a := ((x : Nat) : Int)) (b := 1) rfl rfl (by simp only [fitI]; omega)) ?_
        refine Wl.pure (PR.assI rfl) ?_
        refine Wl.nil ?_
        refine tn ?_
        exact ⟨x + 1, (.cons rfl (.cons rfl (.cons rfl (.cons rfl (.cons rfl (.nil _)))))), ⟨st, (by first | omega | (dsimp only; omega)), (idx_f (by omega) hg (by first | exact bad_s2 hsz.1 (by omega) (by assumption) (by omega) | exact bad_s4 hsz.1 (by omega) (by assumption) (by omega)))⟩, (by first | omega | (dsimp only; omega))⟩
    · refine Wc.skip ?_
      refine tn ?_
      refine Wc.seq ?_
      refine Wc.region rfl ?_
      refine Wl.pure (PR.moveI rfl) ?_
      refine Wl.pure (PR.moveI rfl) ?_
      refine Wl.pure (PR.conv (n := ((x : Nat) : Int)) tI_52 rfl (by simp only [fitI]; omega) Try.underlying3) ?_
      refine Wl.pure (PR.shr (a := seeS a b (1 <<< s)) (n := x) rfl rfl (by decide) (see_lt _ _ _)) ?_
      refine Wl.pure (PR.and (a := ((seeS a b (1 <<< s)) >>> x)) (b := 1) rfl rfl (by decide) (shr_lt (see_lt _ _ _)) (by decide)) ?_
      refine Wl.pure (PR.eql (a := (((((seeS a b (1 <<< s)) >>> x) &&& 1) : Nat) : Int)) (b := 0) rfl rfl) ?_
      refine Wl.nil ?_
      refine tn ?_
      refine Wc.condD (p := (((((seeS a b (1 <<< s)) >>> x) &&& 1) : Nat) : Int) = 0) rfl (fun h7 => ?_) (fun h7 => ?_)
      · refine Wc.seq ?_
        refine Wc.region rfl ?_
        refine Wl.pure (PR.moveI rfl) ?_
        refine Wl.pure (PR.assI rfl) ?_
        refine Wl.nil ?_
        refine tn ?_
        refine Wc.ret ?_
        refine br ?_
        refine tr ?_
        refine tr ?_
        refine br ?_
        refine tr ?_
        refine postL.tmp rfl rfl ?_
        refine RetV.of ?_ st.below
        refine congrArg (Value.int .i64) ?_
        unfold failZ
        exact idx_t (by omega) hg (by first | exact bad_s1 hsz.1 (by omega) (by assumption) (by omega) | exact bad_s3 hsz.1 (by omega) (by assumption) (by omega))
      · refine Wc.skip ?_
        refine bn ?_
        refine tn ?_
        refine Wc.region rfl ?_
        refine Wl.pure (PR.moveI rfl) ?_
        refine Wl.pure (PR.add (a := ((x : Nat) : Int)) (b := 1) rfl rfl (by simp only [fitI]; omega)) ?_
        refine Wl.pure (PR.assI rfl) ?_
        refine Wl.nil ?_
        refine tn ?_
        exact ⟨x + 1, (.cons rfl (.cons rfl (.cons rfl (.cons rfl (.cons rfl (.nil _)))))), ⟨st, (by first | omega | (dsimp only; omega)), (idx_f (by omega) hg (by first | exact bad_s2 hsz.1 (by omega) (by assumption) (by omega) | exact bad_s4 hsz.1 (by omega) (by assumption) (by omega)))⟩, (by first | omega | (dsimp only; omega))⟩
  · refine Wc.exit ?_
    refine tx ?_
    refine tx ?_
    refine bh ?_
    refine tn ?_
    refine Wc.seq ?_
    refine Wc.region rfl ?_
    refine Wl.pure (PR.assI rfl) ?_
    refine Wl.nil ?_
    refine tn ?_
    refine Wc.ret ?_
    refine postL.tmp rfl rfl ?_
    refine RetV.of ?_ st.below
    refine congrArg (Value.int .i64) ?_
    unfold failZ
    exact idx_e (by omega) hg

set_option maxHeartbeats 400000 in
set_option maxRecDepth 4000 in
theorem c_impl_failing {s : Nat} {p : Nat} {a : Nat → Nat} {b : Nat → Nat} {m : Int} {f : Nat} {w : World} (hp8 : 1 ≤ p ∧ p ≤ 8) (ha : ∀ k, a k < 256) (hb : ∀ k, b k < 256) (hm : -128 ≤ m ∧ m ≤ 127) (hf : f < 18446744073709551616) (hm6 : 1 ≤ m ∧ m ≤ 6) :
    CE Try.prog 61 [.agg (schV ((s : Nat) : Int) ((p : Nat) : Int) (a) (b)).toArray, .agg ([.int .i8 (m), .int .u64 (((f : Nat) : Int))]).toArray] w (RetV w (.int .i64 (failZ p a b (1 <<< (m).toNat) f))) := by
  refine CE.enter 36 [(0, .agg (schV ((s : Nat) : Int) ((p : Nat) : Int) (a) (b)).toArray), (1, .agg ([.int .i8 (m), .int .u64 (((f : Nat) : Int))]).toArray)] en_61 Try.func61 rfl rfl (Nat.le_of_ble_eq_true rfl) rfl ?_
  have st := St.start w
  refine Wc.seq ?_
  refine Wc.region rfl ?_
  refine Wl.boxA st rfl ?_
  clear st
  intro b2 w1 st
  refine Wl.boxA st rfl ?_
  clear st
  intro b3 w2 st
  refine Wl.pure (PR.assI rfl) ?_
  refine Wl.nil ?_
  refine tn ?_
  refine Wc.seq ?_
  refine Wc.seq ?_
  have hsz := shl_bd (m := m.toNat) (by omega)
  refine Wc.region rfl ?_
  refine Wl.loadA (i := 0) st tA_33 rfl rfl rfl rfl ?_
  refine Wl.callV (c_impl_Family_size (m := m) (f := f) (by first | assumption | omega) hf (by first | assumption | omega)) rfl ?_
  intro w3 hbel
  replace st := st.call hbel
  clear hbel
  refine Wl.pure (PR.moveI rfl) ?_
  refine Wl.nil ?_
  refine tn ?_
  refine Wc.block ?_
  refine Wc.loopF (γ := Nat) (fun g => [(2, .pointer (some ⟨b2, 0, none⟩)), (3, .pointer (some ⟨b3, 0, none⟩)), (7, .int .i64 ((((1 <<< (m).toNat) : Nat) : Int))), (8, .int .i64 (((g : Nat) : Int)))]) (fun g w_ => St [] w w_ [(b3, [.int .i8 (m), .int .u64 (((f : Nat) : Int))], 33), (b2, schV ((s : Nat) : Int) ((p : Nat) : Int) (a) (b), 31)] ∧ (g ≤ 1 <<< m.toNat) ∧ (idxZ (1 <<< m.toNat) (badQ p a b f) = idxF (badQ p a b f) (1 <<< m.toNat - g) g)) (fun g => 1 <<< m.toNat - g) ?_ ?_
  · exact ⟨0, (.cons rfl (.cons rfl (.cons rfl (.cons rfl (.nil _))))), st, (by first | omega | (dsimp only; omega)), fz_0⟩
  clear st
  rintro x w4 ⟨st, hx, hg⟩
  try dsimp only at st hx hg ⊢
  refine Wc.seq ?_
  refine Wc.region rfl ?_
  refine Wl.pure (PR.lss (a := ((x : Nat) : Int)) (b := (((1 <<< (m).toNat) : Nat) : Int)) rfl rfl) ?_
  refine Wl.nil ?_
  refine tn ?_
  refine Wc.seq ?_
  refine Wc.condD (p := ((x : Nat) : Int) < (((1 <<< (m).toNat) : Nat) : Int)) rfl (fun h5 => ?_) (fun h5 => ?_)
  · refine Wc.skip ?_
    refine tn ?_
    refine Wc.seq ?_
    refine Wc.block ?_
    refine Wc.seq ?_
    refine Wc.region rfl ?_
    refine Wl.pure (PR.moveI rfl) ?_
    refine Wl.pure (PR.assI rfl) ?_
    refine Wl.nil ?_
    refine tn ?_
    refine Wc.seq ?_
    refine Wc.region rfl ?_
    refine Wl.loadA (i := 0) st tA_33 rfl rfl rfl rfl ?_
    refine Wl.pure (PR.moveI rfl) ?_
    refine Wl.callV (c_impl_Family_has (m := m) (f := f) (x := x) (by first | assumption | omega) hf (by first | assumption | omega)) rfl ?_
    intro w6 hbel
    replace st := st.call hbel
    clear hbel
    refine Wl.pure (PR.moveB rfl) ?_
    refine Wl.splitB (b := (bitB f x)) rfl rfl (fun h7 => ?_) (fun h7 => ?_)
    · try simp only [Bool.not_true, Bool.not_false] at h7
      refine Wl.loadA (i := 1) st tA_31 rfl rfl (all_sub schV_len) schV_len ?_
      refine Wl.on rfl rfl ?_
      refine Wl.pure (PR.moveI rfl) ?_
      refine Wl.on rfl rfl ?_
      refine Wl.pure (PR.conv (n := ((x : Nat) : Int)) tI_5 rfl (by simp only [fitI]; omega) Try.underlying3) ?_
      refine Wl.on rfl rfl ?_
      refine Wl.callV (c_impl_Scheme_sees (s := ((s : Nat) : Int)) (p := ((p : Nat) : Int)) (a := a) (b := b) (x := x) ha hb (by first | assumption | omega)) rfl ?_
      intro w8 hbel
      replace st := st.call hbel
      clear hbel
      refine Wl.on rfl rfl ?_
      refine Wl.pure (PR.not_ rfl) ?_
      refine Wl.pure (PR.pickTB rfl rfl) ?_
      refine Wl.pure (PR.moveB rfl) ?_
      refine Wl.splitB (b := (!decide (0 < gapZ a b x))) rfl rfl (fun h9 => ?_) (fun h9 => ?_)
      · simp only [Bool.not_eq_true', Bool.not_eq_false', Bool.not_true, Bool.not_false, decide_eq_true_eq, decide_eq_false_iff_not] at h9
        refine Wl.loadA (i := 0) st tA_33 rfl rfl rfl rfl ?_
        refine Wl.on rfl rfl ?_
        refine Wl.pure (PR.moveI rfl) ?_
        refine Wl.on rfl rfl ?_
        refine Wl.callV (c_impl_Family_has (m := m) (f := f) (x := x) (by first | assumption | omega) hf (by first | assumption | omega)) rfl ?_
        intro w10 hbel
        replace st := st.call hbel
        clear hbel
        refine Wl.on rfl rfl ?_
        refine Wl.pure (PR.not_ rfl) ?_
        refine Wl.on rfl rfl ?_
        refine Wl.pure (PR.moveB rfl) ?_
        refine Wl.splitB (b := (!(bitB f x))) rfl rfl (fun h11 => ?_) (fun h11 => ?_)
        · simp only [Bool.not_eq_true', Bool.not_eq_false', Bool.not_true, Bool.not_false] at h11
          refine Wl.loadA (i := 1) st tA_31 rfl rfl (all_sub schV_len) schV_len ?_
          refine Wl.on rfl rfl ?_
          refine Wl.pure (PR.moveI rfl) ?_
          refine Wl.on rfl rfl ?_
          refine Wl.pure (PR.conv (n := ((x : Nat) : Int)) tI_5 rfl (by simp only [fitI]; omega) Try.underlying3) ?_
          refine Wl.on rfl rfl ?_
          refine Wl.callV (c_impl_Scheme_learnsNothing (s := s) (p := p) (a := a) (b := b) (x := x) (by first | assumption | omega) ha hb (by first | assumption | omega)) rfl ?_
          intro w12 hbel
          replace st := st.call hbel
          clear hbel
          refine Wl.on rfl rfl ?_
          refine Wl.pure (PR.not_ rfl) ?_
          refine Wl.on rfl rfl ?_
          refine Wl.pure (PR.pickTB rfl rfl) ?_
          refine Wl.pure (PR.pickFB rfl rfl) ?_
          refine Wl.nil ?_
          refine tn ?_
          refine Wc.condNB (b := blB p a b x) rfl (fun h13 => ?_) (fun h13 => ?_)
          · refine Wc.seq ?_
            refine Wc.region rfl ?_
            refine Wl.pure (PR.moveI rfl) ?_
            refine Wl.pure (PR.assI rfl) ?_
            refine Wl.nil ?_
            refine tn ?_
            refine Wc.ret ?_
            refine br ?_
            refine tr ?_
            refine tr ?_
            refine br ?_
            refine tr ?_
            refine postL.tmp rfl rfl ?_
            refine RetV.of ?_ st.below
            refine congrArg (Value.int .i64) ?_
            unfold failZ
            exact idx_t (by omega) hg (by first | exact bad_1 (by assumption) (by assumption) | exact bad_3 (by assumption) (by assumption) | exact (both_b (x := bitB f x) (by assumption) (by assumption)).elim)
          · refine Wc.skip ?_
            refine bn ?_
            refine tn ?_
            refine Wc.region rfl ?_
            refine Wl.pure (PR.add (a := ((x : Nat) : Int)) (b := 1) rfl rfl (by simp only [fitI]; omega)) ?_
            refine Wl.pure (PR.moveI rfl) ?_
            refine Wl.nil ?_
            refine tn ?_
            exact ⟨x + 1, (.cons rfl (.cons rfl (.cons rfl (.cons rfl (.nil _))))), ⟨st, (by first | omega | (dsimp only; omega)), (idx_f (by omega) hg (by first | exact bad_2 (by assumption) (by assumption) | exact bad_4 (by assumption) (by assumption) | exact (both_b (x := bitB f x) (by assumption) (by assumption)).elim))⟩, (by first | omega | (dsimp only; omega))⟩
        · simp only [Bool.not_eq_true', Bool.not_eq_false', Bool.not_true, Bool.not_false] at h11
          refine Wl.off rfl rfl rfl ?_
          refine Wl.off rfl rfl rfl ?_
          refine Wl.off rfl rfl rfl ?_
          refine Wl.off rfl rfl rfl ?_
          refine Wl.on rfl rfl ?_
          refine Wl.pure (PR.pickFB rfl rfl) ?_
          refine Wl.pure (PR.pickFB rfl rfl) ?_
          refine Wl.nil ?_
          refine tn ?_
          refine Wc.condF rfl ?_
          refine Wc.skip ?_
          refine bn ?_
          refine tn ?_
          refine Wc.region rfl ?_
          refine Wl.pure (PR.add (a := ((x : Nat) : Int)) (b := 1) rfl rfl (by simp only [fitI]; omega)) ?_
          refine Wl.pure (PR.moveI rfl) ?_
          refine Wl.nil ?_
          refine tn ?_
          exact ⟨x + 1, (.cons rfl (.cons rfl (.cons rfl (.cons rfl (.nil _))))), ⟨st, (by first | omega | (dsimp only; omega)), (idx_f (by omega) hg (by first | exact bad_2 (by assumption) (by assumption) | exact bad_4 (by assumption) (by assumption) | exact (both_b (x := bitB f x) (by assumption) (by assumption)).elim))⟩, (by first | omega | (dsimp only; omega))⟩
      · simp only [Bool.not_eq_true', Bool.not_eq_false', Bool.not_true, Bool.not_false, decide_eq_true_eq, decide_eq_false_iff_not] at h9
        refine Wl.off rfl rfl rfl ?_
        refine Wl.off rfl rfl rfl ?_
        refine Wl.off rfl rfl rfl ?_
        refine Wl.off rfl rfl rfl ?_
        refine Wl.offU rfl rfl ?_
        refine Wl.offU rfl rfl ?_
        refine Wl.offU rfl rfl ?_
        refine Wl.offU rfl rfl ?_
        refine Wl.offU rfl rfl ?_
        refine Wl.off rfl rfl rfl ?_
        refine Wl.pure (PR.pickTB rfl rfl) ?_
        refine Wl.nil ?_
        refine tn ?_
        refine Wc.condT rfl ?_
        refine Wc.seq ?_
        refine Wc.region rfl ?_
        refine Wl.pure (PR.moveI rfl) ?_
        refine Wl.pure (PR.assI rfl) ?_
        refine Wl.nil ?_
        refine tn ?_
        refine Wc.ret ?_
        refine br ?_
        refine tr ?_
        refine tr ?_
        refine br ?_
        refine tr ?_
        refine postL.tmp rfl rfl ?_
        refine RetV.of ?_ st.below
        refine congrArg (Value.int .i64) ?_
        unfold failZ
        exact idx_t (by omega) hg (by first | exact bad_1 (by assumption) (by assumption) | exact bad_3 (by assumption) (by assumption) | exact (both_b (x := bitB f x) (by assumption) (by assumption)).elim)
    · try simp only [Bool.not_true, Bool.not_false] at h7
      refine Wl.off rfl rfl rfl ?_
      refine Wl.off rfl rfl rfl ?_
      refine Wl.off rfl rfl rfl ?_
      refine Wl.off rfl rfl rfl ?_
      refine Wl.pure (PR.pickFB rfl rfl) ?_
      refine Wl.pure (PR.moveB rfl) ?_
      refine Wl.on rfl rfl ?_
      refine Wl.loadA (i := 0) st tA_33 rfl rfl rfl rfl ?_
      refine Wl.on rfl rfl ?_
      refine Wl.pure (PR.moveI rfl) ?_
      refine Wl.on rfl rfl ?_
      refine Wl.callV (c_impl_Family_has (m := m) (f := f) (x := x) (by first | assumption | omega) hf (by first | assumption | omega)) rfl ?_
      intro w14 hbel
      replace st := st.call hbel
      clear hbel
      refine Wl.on rfl rfl ?_
      refine Wl.pure (PR.not_ rfl) ?_
      refine Wl.on rfl rfl ?_
      refine Wl.pure (PR.moveB rfl) ?_
      refine Wl.splitB (b := (!(bitB f x))) rfl rfl (fun h15 => ?_) (fun h15 => ?_)
      · simp only [Bool.not_eq_true', Bool.not_eq_false', Bool.not_true, Bool.not_false] at h15
        refine Wl.loadA (i := 1) st tA_31 rfl rfl (all_sub schV_len) schV_len ?_
        refine Wl.on rfl rfl ?_
        refine Wl.pure (PR.moveI rfl) ?_
        refine Wl.on rfl rfl ?_
        refine Wl.pure (PR.conv (n := ((x : Nat) : Int)) tI_5 rfl (by simp only [fitI]; omega) Try.underlying3) ?_
        refine Wl.on rfl rfl ?_
        refine Wl.callV (c_impl_Scheme_learnsNothing (s := s) (p := p) (a := a) (b := b) (x := x) (by first | assumption | omega) ha hb (by first | assumption | omega)) rfl ?_
        intro w16 hbel
        replace st := st.call hbel
        clear hbel
        refine Wl.on rfl rfl ?_
        refine Wl.pure (PR.not_ rfl) ?_
        refine Wl.on rfl rfl ?_
        refine Wl.pure (PR.pickTB rfl rfl) ?_
        refine Wl.pure (PR.pickFB rfl rfl) ?_
        refine Wl.nil ?_
        refine tn ?_
        refine Wc.condNB (b := blB p a b x) rfl (fun h17 => ?_) (fun h17 => ?_)
        · refine Wc.seq ?_
          refine Wc.region rfl ?_
          refine Wl.pure (PR.moveI rfl) ?_
          refine Wl.pure (PR.assI rfl) ?_
          refine Wl.nil ?_
          refine tn ?_
          refine Wc.ret ?_
          refine br ?_
          refine tr ?_
          refine tr ?_
          refine br ?_
          refine tr ?_
          refine postL.tmp rfl rfl ?_
          refine RetV.of ?_ st.below
          refine congrArg (Value.int .i64) ?_
          unfold failZ
          exact idx_t (by omega) hg (by first | exact bad_1 (by assumption) (by assumption) | exact bad_3 (by assumption) (by assumption) | exact (both_b (x := bitB f x) (by assumption) (by assumption)).elim)
        · refine Wc.skip ?_
          refine bn ?_
          refine tn ?_
          refine Wc.region rfl ?_
          refine Wl.pure (PR.add (a := ((x : Nat) : Int)) (b := 1) rfl rfl (by simp only [fitI]; omega)) ?_
          refine Wl.pure (PR.moveI rfl) ?_
          refine Wl.nil ?_
          refine tn ?_
          exact ⟨x + 1, (.cons rfl (.cons rfl (.cons rfl (.cons rfl (.nil _))))), ⟨st, (by first | omega | (dsimp only; omega)), (idx_f (by omega) hg (by first | exact bad_2 (by assumption) (by assumption) | exact bad_4 (by assumption) (by assumption) | exact (both_b (x := bitB f x) (by assumption) (by assumption)).elim))⟩, (by first | omega | (dsimp only; omega))⟩
      · simp only [Bool.not_eq_true', Bool.not_eq_false', Bool.not_true, Bool.not_false] at h15
        refine Wl.off rfl rfl rfl ?_
        refine Wl.off rfl rfl rfl ?_
        refine Wl.off rfl rfl rfl ?_
        refine Wl.off rfl rfl rfl ?_
        refine Wl.on rfl rfl ?_
        refine Wl.pure (PR.pickFB rfl rfl) ?_
        refine Wl.pure (PR.pickFB rfl rfl) ?_
        refine Wl.nil ?_
        refine tn ?_
        refine Wc.condF rfl ?_
        refine Wc.skip ?_
        refine bn ?_
        refine tn ?_
        refine Wc.region rfl ?_
        refine Wl.pure (PR.add (a := ((x : Nat) : Int)) (b := 1) rfl rfl (by simp only [fitI]; omega)) ?_
        refine Wl.pure (PR.moveI rfl) ?_
        refine Wl.nil ?_
        refine tn ?_
        exact ⟨x + 1, (.cons rfl (.cons rfl (.cons rfl (.cons rfl (.nil _))))), ⟨st, (by first | omega | (dsimp only; omega)), (idx_f (by omega) hg (by first | exact bad_2 (by assumption) (by assumption) | exact bad_4 (by assumption) (by assumption) | exact (both_b (x := bitB f x) (by assumption) (by assumption)).elim))⟩, (by first | omega | (dsimp only; omega))⟩
  · refine Wc.exit ?_
    refine tx ?_
    refine tx ?_
    refine bh ?_
    refine tn ?_
    refine Wc.seq ?_
    refine Wc.region rfl ?_
    refine Wl.pure (PR.assI rfl) ?_
    refine Wl.nil ?_
    refine tn ?_
    refine Wc.ret ?_
    refine postL.tmp rfl rfl ?_
    refine RetV.of ?_ st.below
    refine congrArg (Value.int .i64) ?_
    unfold failZ
    exact idx_e (by omega) hg

set_option maxHeartbeats 400000 in
set_option maxRecDepth 4000 in
theorem c_impl_serves {s : Nat} {p : Nat} {a : Nat → Nat} {b : Nat → Nat} {m : Int} {f : Nat} {w : World} (hp8 : 1 ≤ p ∧ p ≤ 8) (ha : ∀ k, a k < 256) (hb : ∀ k, b k < 256) (hm : -128 ≤ m ∧ m ≤ 127) (hf : f < 18446744073709551616) (hm6 : 1 ≤ m ∧ m ≤ 6) :
    CE Try.prog 45 [.agg (schV ((s : Nat) : Int) ((p : Nat) : Int) (a) (b)).toArray, .agg ([.int .i8 (m), .int .u64 (((f : Nat) : Int))]).toArray] w (RetV w (.bool (decide (((s : Nat) : Int) = m ∧ failZ p a b (1 <<< (m).toNat) f < 0)))) := by
  refine CE.enter 16 [(0, .agg (schV ((s : Nat) : Int) ((p : Nat) : Int) (a) (b)).toArray), (1, .agg ([.int .i8 (m), .int .u64 (((f : Nat) : Int))]).toArray)] en_45 Try.func45 rfl rfl (Nat.le_of_ble_eq_true rfl) rfl ?_
  have st := St.start w
  refine Wc.seq ?_
  refine Wc.region rfl ?_
  refine Wl.boxA st rfl ?_
  clear st
  intro b2 w1 st
  refine Wl.boxA st rfl ?_
  clear st
  intro b3 w2 st
  refine Wl.pure (PR.assB rfl) ?_
  refine Wl.nil ?_
  refine tn ?_
  refine Wc.seq ?_
  refine Wc.region rfl ?_
  refine Wl.pure (PR.fieldAddr tF_31_0 rfl) ?_
  refine Wl.load (i := 1) st tA_22 rfl rfl (rfl) ?_
  refine Wl.pure (PR.fieldAddr tF_33_0 rfl) ?_
  refine Wl.load (i := 0) st tA_22 rfl rfl (rfl) ?_
  refine Wl.pure (PR.eql (a := ((s : Nat) : Int)) (b := m) rfl rfl) ?_
  refine Wl.pure (PR.moveB rfl) ?_
  refine Wl.splitT (q := ((s : Nat) : Int) = m) rfl rfl (fun h3 => ?_) (fun h3 => ?_)
  · refine Wl.loadA (i := 1) st tA_31 rfl rfl (all_sub schV_len) schV_len ?_
    refine Wl.on rfl rfl ?_
    refine Wl.loadA (i := 0) st tA_33 rfl rfl rfl rfl ?_
    refine Wl.on rfl rfl ?_
    refine Wl.callV (c_impl_failing (s := s) (p := p) (a := a) (b := b) (m := m) (f := f) (by first | assumption | omega) ha hb (by first | assumption | omega) hf (by first | assumption | omega)) rfl ?_
    intro w4 hbel
    replace st := st.call hbel
    clear hbel
    refine Wl.on rfl rfl ?_
    refine Wl.pure (PR.lss (a := failZ p a b (1 <<< (m).toNat) f) (b := 0) rfl rfl) ?_
    refine Wl.pure (PR.pickTB rfl rfl) ?_
    refine Wl.pure (PR.assB rfl) ?_
    refine Wl.nil ?_
    refine tn ?_
    refine Wc.ret ?_
    refine postL.tmp rfl rfl ?_
    refine RetV.of ?_ st.below
    refine congrArg Value.bool ?_
    first | exact (decide_eq_false (fun q => absurd q.1 (by assumption))).symm | exact decide_eq_decide.2 (by omega)
  · refine Wl.off rfl rfl rfl ?_
    refine Wl.off rfl rfl rfl ?_
    refine Wl.off rfl rfl rfl ?_
    refine Wl.pure (PR.pickFB rfl rfl) ?_
    refine Wl.pure (PR.assB rfl) ?_
    refine Wl.nil ?_
    refine tn ?_
    refine Wc.ret ?_
    refine postL.tmp rfl rfl ?_
    refine RetV.of ?_ st.below
    refine congrArg Value.bool ?_
    first | exact (decide_eq_false (fun q => absurd q.1 (by assumption))).symm | exact decide_eq_decide.2 (by omega)

set_option maxHeartbeats 400000 in
set_option maxRecDepth 4000 in
theorem c_impl_firstOf {bk : Nat} {o : Nat} {n : Nat} {cp : Nat} {c : Nat → Bool} {e : Nat → Int} {w : World} (hR : RdA w bk o (prV n c e)) (hn : n ≤ 1000) :
    CE Try.prog 41 [.slice (some ⟨bk, o, none⟩) (n) (cp)] w (RetV w (.int .i64 (firstZ n c e))) := by
  refine CE.enter 16 [(0, .slice (some ⟨bk, o, none⟩) (n) (cp))] en_41 Try.func41 rfl rfl (Nat.le_of_ble_eq_true rfl) rfl ?_
  have st := St.start w
  refine Wc.seq ?_
  refine Wc.region rfl ?_
  refine Wl.pure (PR.assI rfl) ?_
  refine Wl.nil ?_
  refine tn ?_
  refine Wc.seq ?_
  refine Wc.seq ?_
  refine Wc.region rfl ?_
  refine Wl.pure (PR.moveL rfl) ?_
  refine Wl.pure (PR.lenL tS_81 rfl) ?_
  refine Wl.pure (PR.moveI rfl) ?_
  refine Wl.nil ?_
  refine tn ?_
  refine Wc.block ?_
  refine Wc.loopF (γ := Nat) (fun g => [(5, .slice (some ⟨bk, o, none⟩) (n) (cp)), (6, .int .i64 (((n : Nat) : Int))), (7, .int .i64 (((g : Nat) : Int)))]) (fun g w_ => St [] w w_ [] ∧ (g ≤ n) ∧ (firstZ n c e = firstF c e (n - g) g)) (fun g => n - g) ?_ ?_
  · exact ⟨0, (.cons rfl (.cons rfl (.cons rfl (.nil _)))), st, (by first | omega | (dsimp only; omega)), rfl⟩
  clear st
  rintro k w1 ⟨st, hk, hf⟩
  try dsimp only at st hk hf ⊢
  refine Wc.seq ?_
  refine Wc.region rfl ?_
  refine Wl.pure (PR.lss (a := ((k : Nat) : Int)) (b := ((n : Nat) : Int)) rfl rfl) ?_
  refine Wl.nil ?_
  refine tn ?_
  refine Wc.seq ?_
  refine Wc.condD (p := ((k : Nat) : Int) < ((n : Nat) : Int)) rfl (fun h2 => ?_) (fun h2 => ?_)
  · refine Wc.skip ?_
    refine tn ?_
    refine Wc.seq ?_
    refine Wc.block ?_
    refine Wc.seq ?_
    refine Wc.region rfl ?_
    refine Wl.pure (PR.idxAddrS (i := k) tS_81 rfl rfl (by omega)) ?_
    refine Wl.loadAC (vs := [.bool (c k), .int .i64 (e k)]) tA_68 rfl rfl ((hR.st st).sub (recV_sub (n := n) (i := k) (prV_row _ _) (by omega)) rfl) ?_
    refine Wl.alloc st tZ_68 rfl ?_
    clear st
    intro b4 w3 st
    refine Wl.storeA (i := 0) (cs' := [.bool (c k), .int .i64 (e k)]) st tA_68 rfl rfl rfl (by simp [Value.oneCell']) rfl (by simp) (all_put rfl) ?_
    clear st
    intro w4 st
    replace st : St [] w w4 [(b4, [.bool (c k), .int .i64 (e k)], 68)] := st
    refine Wl.nil ?_
    refine tn ?_
    refine Wc.seq ?_
    refine Wc.region rfl ?_
    refine Wl.pure (PR.fieldAddr tF_68_0 rfl) ?_
    refine Wl.load (i := 0) st tA_4 rfl rfl (rfl) ?_
    refine Wl.nil ?_
    refine tn ?_
    refine Wc.condB (b := c k) rfl (fun h5 => ?_) (fun h5 => ?_)
    · refine Wc.seq ?_
      refine Wc.region rfl ?_
      refine Wl.pure (PR.fieldAddr tF_68_1 rfl) ?_
      refine Wl.load (i := 0) st tA_2 rfl rfl (rfl) ?_
      refine Wl.pure (PR.assI rfl) ?_
      refine Wl.nil ?_
      refine tn ?_
      refine Wc.ret ?_
      refine br ?_
      refine tr ?_
      refine tr ?_
      refine br ?_
      refine tr ?_
      refine postL.tmp rfl rfl ?_
      refine RetV.of ?_ st.below
      refine congrArg (Value.int .i64) ?_
      first | exact firstF_t (by omega) hf (by assumption) | exact firstF_e (by omega) hf
    · refine Wc.skip ?_
      refine bn ?_
      refine tn ?_
      refine Wc.region rfl ?_
      refine Wl.pure (PR.add (a := ((k : Nat) : Int)) (b := 1) rfl rfl (by simp only [fitI]; omega)) ?_
      refine Wl.pure (PR.moveI rfl) ?_
      refine Wl.nil ?_
      refine tn ?_
      replace st := st.tail
      exact ⟨k + 1, (.cons rfl (.cons rfl (.cons rfl (.nil _)))), ⟨st, (by first | omega | (dsimp only; omega)), (firstF_f (by omega) hf (by assumption))⟩, (by first | omega | (dsimp only; omega))⟩
  · refine Wc.exit ?_
    refine tx ?_
    refine tx ?_
    refine bh ?_
    refine tn ?_
    refine Wc.seq ?_
    refine Wc.region rfl ?_
    refine Wl.pure (PR.assI rfl) ?_
    refine Wl.nil ?_
    refine tn ?_
    refine Wc.ret ?_
    refine postL.tmp rfl rfl ?_
    refine RetV.of ?_ st.below
    refine congrArg (Value.int .i64) ?_
    first | exact firstF_t (by omega) hf (by assumption) | exact firstF_e (by omega) hf

set_option maxHeartbeats 400000 in
set_option maxRecDepth 4000 in
theorem c_impl_servesCode {s : Int} {p : Int} {a : Nat → Nat} {b : Nat → Nat} {m : Int} {f : Nat} {w : World} (hs : -128 ≤ s ∧ s ≤ 127) (hp : -128 ≤ p ∧ p ≤ 127) (ha : ∀ k, a k < 256) (hb : ∀ k, b k < 256) (hm : -128 ≤ m ∧ m ≤ 127) (hf : f < 18446744073709551616) :
    CE Try.prog 27 [.agg (schV (s) (p) (a) (b)).toArray, .agg ([.int .i8 (m), .int .u64 (((f : Nat) : Int))]).toArray] w (RetV w (.int .i64 (((svC s p a b m f : Nat) : Int)))) := by
  refine CE.enter 20 [(0, .agg (schV (s) (p) (a) (b)).toArray), (1, .agg ([.int .i8 (m), .int .u64 (((f : Nat) : Int))]).toArray)] en_27 Try.func27 rfl rfl (Nat.le_of_ble_eq_true rfl) rfl ?_
  have st := St.start w
  refine Wc.seq ?_
  refine Wc.region rfl ?_
  refine Wl.boxA st rfl ?_
  clear st
  intro b2 w1 st
  refine Wl.boxA st rfl ?_
  clear st
  intro b3 w2 st
  refine Wl.pure (PR.assI rfl) ?_
  refine Wl.nil ?_
  refine tn ?_
  refine Wc.seq ?_
  refine Wc.seq ?_
  refine Wc.region rfl ?_
  refine Wl.loadA (i := 1) st tA_31 rfl rfl (all_sub schV_len) schV_len ?_
  refine Wl.callV (c_impl_ValidScheme (s := s) (p := p) (a := a) (b := b) (by first | assumption | omega) (by first | assumption | omega) ha hb) rfl ?_
  intro w3 hbel
  replace st := st.call hbel
  clear hbel
  refine Wl.pure (PR.not_ rfl) ?_
  refine Wl.pure (PR.moveB rfl) ?_
  refine Wl.splitB (b := (!(schOk s p a b))) rfl rfl (fun h4 => ?_) (fun h4 => ?_)
  · simp only [Bool.not_eq_true', Bool.not_eq_false', Bool.not_true, Bool.not_false] at h4
    refine Wl.loadA (i := 0) st tA_33 rfl rfl rfl rfl ?_
    refine Wl.on rfl rfl ?_
    refine Wl.callV (c_impl_ValidFamily (m := m) (f := f) (by first | assumption | omega) hf) rfl ?_
    intro w5 hbel
    replace st := st.call hbel
    clear hbel
    refine Wl.on rfl rfl ?_
    refine Wl.pure (PR.not_ rfl) ?_
    refine Wl.pure (PR.pickFB rfl rfl) ?_
    refine Wl.nil ?_
    refine tn ?_
    refine Wc.condNB (b := famOk m f) rfl (fun h6 => ?_) (fun h6 => ?_)
    · refine Wc.seq ?_
      refine Wc.region rfl ?_
      refine Wl.pure (PR.assI rfl) ?_
      refine Wl.nil ?_
      refine tn ?_
      refine Wc.ret ?_
      refine tr ?_
      refine postL.tmp rfl rfl ?_
      refine RetV.of ?_ st.below
      refine congrArg (fun x : Nat => Value.int .i64 (x : Int)) ?_
      first | exact svC_1 (.inl (by assumption)) | exact svC_1 (.inr (by assumption))
    · refine Wc.skip ?_
      refine tn ?_
      refine Wc.seq ?_
      have hok1 : schOk s p a b = true := by assumption
      have hok2 : famOk m f = true := by assumption
      obtain ⟨hs1, hp1, _⟩ := schOk_spec hok1
      have hm6 := fam_spec hok2
      obtain ⟨n, rfl⟩ : ∃ n : Nat, s = ((n : Nat) : Int) := ⟨s.toNat, by omega⟩
      obtain ⟨e, rfl⟩ : ∃ e : Nat, p = ((e : Nat) : Int) := ⟨p.toNat, by omega⟩
      refine Wc.region rfl ?_
      refine Wl.loadA (i := 1) st tA_31 rfl rfl (all_sub schV_len) schV_len ?_
      refine Wl.loadA (i := 0) st tA_33 rfl rfl rfl rfl ?_
      refine Wl.callV (c_impl_serves (s := n) (p := e) (a := a) (b := b) (m := m) (f := f) (by first | assumption | omega) ha hb (by first | assumption | omega) hf (by first | assumption | omega)) rfl ?_
      intro w7 hbel
      replace st := st.call hbel
      clear hbel
      refine Wl.pure (PR.not_ rfl) ?_
      refine Wl.pure (PR.build (ps := [(0, .bool (!decide (((n : Nat) : Int) = m ∧ failZ e a b (1 <<< (m).toNat) f < 0))), (1, .int .i64 (4))]) (cs := [.bool (!decide (((n : Nat) : Int) = m ∧ failZ e a b (1 <<< (m).toNat) f < 0)), .int .i64 (4)]) tB_68 rfl rfl) ?_
      refine Wl.buildSlice (ps := [(0, .agg ([.bool (!decide (((n : Nat) : Int) = m ∧ failZ e a b (1 <<< (m).toNat) f < 0)), .int .i64 (4)]).toArray)]) (cs := [.bool (!decide (((n : Nat) : Int) = m ∧ failZ e a b (1 <<< (m).toNat) f < 0)), .int .i64 (4)]) st tS_81 tZ_68 rfl rfl rfl ?_
      clear st
      intro b18 w8 st
      refine Wl.callV (c_impl_firstOf (bk := b18) (o := 0) (n := 1) (cp := 1) (c := (fun i => [(!decide (((n : Nat) : Int) = m ∧ failZ e a b (1 <<< (m).toNat) f < 0))].getD i false)) (e := (fun i => [4].getD i 0)) (st.rdA (i := 0) (n := 2) rfl rfl) (by first | assumption | omega)) rfl ?_
      intro w9 hbel
      replace st := st.call hbel
      clear hbel
      refine Wl.pure (PR.assI rfl) ?_
      refine Wl.nil ?_
      refine tn ?_
      refine Wc.ret ?_
      refine postL.tmp rfl rfl ?_
      refine RetV.of ?_ st.below
      refine congrArg (Value.int .i64) ?_
      exact first_sv hok1 hok2
  · simp only [Bool.not_eq_true', Bool.not_eq_false', Bool.not_true, Bool.not_false] at h4
    refine Wl.off rfl rfl rfl ?_
    refine Wl.off rfl rfl rfl ?_
    refine Wl.pure (PR.pickTB rfl rfl) ?_
    refine Wl.nil ?_
    refine tn ?_
    refine Wc.condT rfl ?_
    refine Wc.seq ?_
    refine Wc.region rfl ?_
    refine Wl.pure (PR.assI rfl) ?_
    refine Wl.nil ?_
    refine tn ?_
    refine Wc.ret ?_
    refine tr ?_
    refine postL.tmp rfl rfl ?_
    refine RetV.of ?_ st.below
    refine congrArg (fun x : Nat => Value.int .i64 (x : Int)) ?_
    first | exact svC_1 (.inl (by assumption)) | exact svC_1 (.inr (by assumption))

set_option maxHeartbeats 400000 in
set_option maxRecDepth 4000 in
theorem c_spec_l06Served {bk : Nat} {o : Nat} {s : Int} {p : Int} {a : Nat → Nat} {b : Nat → Nat} {bf : Nat} {of : Nat} {m : Int} {f : Nat} {w : World} (hR : RdA w bk o (schV s p a b)) (hs : -128 ≤ s ∧ s ≤ 127) (hp : -128 ≤ p ∧ p ≤ 127) (ha : ∀ k, a k < 256) (hb : ∀ k, b k < 256) (hF : RdA w bf of [.int .i8 m, .int .u64 ((f : Nat) : Int)]) (hm : -128 ≤ m ∧ m ≤ 127) (hf : f < 18446744073709551616) :
    CE Try.prog 24 [.pointer (some ⟨bk, o, none⟩), .pointer (some ⟨bf, of, none⟩)] w (RetV w (.int .i64 (((svC s p a b m f : Nat) : Int)))) := by
  refine CE.enter 28 [(0, .pointer (some ⟨bk, o, none⟩)), (1, .pointer (some ⟨bf, of, none⟩))] en_24 Try.func24 rfl rfl (Nat.le_of_ble_eq_true rfl) rfl ?_
  have st := St.start w
  refine Wc.seq ?_
  refine Wc.region rfl ?_
  refine Wl.pure (PR.assI rfl) ?_
  refine Wl.nil ?_
  refine tn ?_
  refine Wc.seq ?_
  refine Wc.seq ?_
  refine Wc.region rfl ?_
  refine Wl.pure (PR.moveP rfl) ?_
  refine Wl.callV (c_spec_l02Ok (bk := bk) (o := o) (s := s) (p := p) (a := a) (b := b) (hR.st st) (by first | assumption | omega) (by first | assumption | omega) ha hb) rfl ?_
  intro w1 hbel
  replace st := st.call hbel
  clear hbel
  refine Wl.pure (PR.not_ rfl) ?_
  refine Wl.pure (PR.moveB rfl) ?_
  refine Wl.splitB (b := (!(schOk s p a b))) rfl rfl (fun h2 => ?_) (fun h2 => ?_)
  · simp only [Bool.not_eq_true', Bool.not_eq_false', Bool.not_true, Bool.not_false] at h2
    refine Wl.pure (PR.moveP rfl) ?_
    refine Wl.on rfl rfl ?_
    refine Wl.callV (c_spec_l04Ok (bf := bf) (of := of) (m := m) (f := f) (hF.st st) (by first | assumption | omega) hf) rfl ?_
    intro w3 hbel
    replace st := st.call hbel
    clear hbel
    refine Wl.on rfl rfl ?_
    refine Wl.pure (PR.not_ rfl) ?_
    refine Wl.pure (PR.pickFB rfl rfl) ?_
    refine Wl.nil ?_
    refine tn ?_
    refine Wc.condNB (b := famOk m f) rfl (fun h4 => ?_) (fun h4 => ?_)
    · refine Wc.seq ?_
      refine Wc.region rfl ?_
      refine Wl.pure (PR.assI rfl) ?_
      refine Wl.nil ?_
      refine tn ?_
      refine Wc.ret ?_
      refine tr ?_
      refine postL.tmp rfl rfl ?_
      refine RetV.of ?_ st.below
      refine congrArg (fun x : Nat => Value.int .i64 (x : Int)) ?_
      first | exact svC_1 (.inl (by assumption)) | exact svC_1 (.inr (by assumption))
    · refine Wc.skip ?_
      refine tn ?_
      refine Wc.seq ?_
      refine Wc.seq ?_
      have hok1 : schOk s p a b = true := by assumption
      have hok2 : famOk m f = true := by assumption
      obtain ⟨hs1, hp1, _⟩ := schOk_spec hok1
      have hm6 := fam_spec hok2
      obtain ⟨n, rfl⟩ : ∃ n : Nat, s = ((n : Nat) : Int) := ⟨s.toNat, by omega⟩
      obtain ⟨e, rfl⟩ : ∃ e : Nat, p = ((e : Nat) : Int) := ⟨p.toNat, by omega⟩
      refine Wc.quiet hmix (by kernel_rfl) rfl ?_
      refine Wq.pure (PR.moveP rfl) ?_
      refine Wq.pure (PR.nil_ rfl) ?_
      refine Wq.pure (PR.fieldAddr tF_31_0 rfl) ?_
      refine Wq.loadC tA_22 rfl ((hR.st st).at_ (j := 0) (rfl) rfl) ?_
      refine Wq.pure (PR.moveP rfl) ?_
      refine Wq.pure (PR.nil_ rfl) ?_
      refine Wq.pure (PR.fieldAddr tF_33_0 rfl) ?_
      refine Wq.loadC tA_22 rfl ((hF.st st).at_ (j := 0) (rfl) rfl) ?_
      refine Wq.pure (PR.neq (a := ((n : Nat) : Int)) (b := m) rfl rfl) ?_
      refine Wq.pure (PR.moveB rfl) ?_
      refine Wq.splitB (b := (!decide (((n : Nat) : Int) = m))) rfl rfl (fun h5 => ?_) (fun h5 => ?_)
      · simp only [Bool.not_eq_true', Bool.not_eq_false', Bool.not_true, Bool.not_false, decide_eq_true_eq, decide_eq_false_iff_not] at h5
        refine Wq.pure (PR.moveP rfl) ?_
        refine Wq.on rfl rfl ?_
        refine Wq.pure (PR.moveP rfl) ?_
        refine Wq.on rfl rfl ?_
        refine Wq.callV (fun _ hbel => c_spec_l04Failing (bk := bk) (o := o) (s := n) (p := e) (a := a) (b := b) (bf := bf) (of := of) (m := m) (f := f) ((hR.st st).below hbel) (by first | assumption | omega) (by first | assumption | omega) ha hb ((hF.st st).below hbel) (by first | assumption | omega) hf) rfl ?_
        refine Wq.on rfl rfl ?_
        refine Wq.pure (PR.geq (a := failZ e a b (1 <<< n) f) (b := 0) rfl rfl) ?_
        refine Wq.pure (PR.pickFB rfl rfl) ?_
        refine Wq.nil (fun w6 hbel => ?_)
        replace st := st.call hbel
        clear hbel
        refine tn ?_
        refine Wc.condD (p := 0 ≤ failZ e a b (1 <<< n) f) rfl (fun h7 => ?_) (fun h7 => ?_)
        · refine Wc.seq ?_
          refine Wc.region rfl ?_
          refine Wl.pure (PR.assI rfl) ?_
          refine Wl.nil ?_
          refine tn ?_
          refine Wc.ret ?_
          refine tr ?_
          refine postL.tmp rfl rfl ?_
          refine RetV.of ?_ st.below
          refine congrArg (fun x : Nat => Value.int .i64 (x : Int)) ?_
          first | exact svC_4 hok1 hok2 (fun q => absurd q.1 (by assumption)) | (obtain rfl : m = ((n : Nat) : Int) := (by omega); exact svC_4 hok1 hok2 (fun q => absurd (show failZ e a b (1 <<< n) f < 0 from q.2) (by omega)))
        · refine Wc.skip ?_
          refine tn ?_
          refine Wc.seq ?_
          refine Wc.region rfl ?_
          refine Wl.pure (PR.assI rfl) ?_
          refine Wl.nil ?_
          refine tn ?_
          refine Wc.ret ?_
          refine postL.tmp rfl rfl ?_
          refine RetV.of ?_ st.below
          refine congrArg (fun x : Nat => Value.int .i64 (x : Int)) ?_
          (obtain rfl : m = ((n : Nat) : Int) := (by omega); exact svC_0 hok1 hok2 ⟨rfl, (show failZ e a b (1 <<< n) f < 0 by omega)⟩)
      · simp only [Bool.not_eq_true', Bool.not_eq_false', Bool.not_true, Bool.not_false, decide_eq_true_eq, decide_eq_false_iff_not] at h5
        refine Wq.off rfl rfl rfl ?_
        refine Wq.off rfl rfl rfl ?_
        refine Wq.off rfl rfl rfl ?_
        refine Wq.pure (PR.pickTB rfl rfl) ?_
        refine Wq.nil (fun w8 hbel => ?_)
        replace st := st.call hbel
        clear hbel
        refine tn ?_
        refine Wc.condT rfl ?_
        refine Wc.seq ?_
        refine Wc.region rfl ?_
        refine Wl.pure (PR.assI rfl) ?_
        refine Wl.nil ?_
        refine tn ?_
        refine Wc.ret ?_
        refine tr ?_
        refine postL.tmp rfl rfl ?_
        refine RetV.of ?_ st.below
        refine congrArg (fun x : Nat => Value.int .i64 (x : Int)) ?_
        first | exact svC_4 hok1 hok2 (fun q => absurd q.1 (by assumption)) | (obtain rfl : m = ((n : Nat) : Int) := (by omega); exact svC_4 hok1 hok2 (fun q => absurd (show failZ e a b (1 <<< n) f < 0 from q.2) (by omega)))
  · simp only [Bool.not_eq_true', Bool.not_eq_false', Bool.not_true, Bool.not_false] at h2
    refine Wl.off rfl rfl rfl ?_
    refine Wl.off rfl rfl rfl ?_
    refine Wl.pure (PR.pickTB rfl rfl) ?_
    refine Wl.nil ?_
    refine tn ?_
    refine Wc.condT rfl ?_
    refine Wc.seq ?_
    refine Wc.region rfl ?_
    refine Wl.pure (PR.assI rfl) ?_
    refine Wl.nil ?_
    refine tn ?_
    refine Wc.ret ?_
    refine tr ?_
    refine postL.tmp rfl rfl ?_
    refine RetV.of ?_ st.below
    refine congrArg (fun x : Nat => Value.int .i64 (x : Int)) ?_
    first | exact svC_1 (.inl (by assumption)) | exact svC_1 (.inr (by assumption))

end Go.Proofs.Ytdlmbdclbnlmlaa
