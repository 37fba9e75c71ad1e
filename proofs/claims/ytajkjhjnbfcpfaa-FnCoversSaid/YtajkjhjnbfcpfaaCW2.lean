/-
  Contracts of functions, printed by a program of ours.
-/
import Derived.Test.YtajkjhjnbfcpfaaCW1
namespace Go.Proofs.Ytajkjhjnbfcpfaa
open Go.RowKit
set_option linter.unusedVariables false
set_option linter.unusedSimpArgs false

set_option maxHeartbeats 400000 in
set_option maxRecDepth 4000 in
theorem c_math_bits_Mul64 {m : Nat} {w : World} (hm : m ≤ 8) (hmb : m < 18446744073709551616) :
    CE Try.prog 138 [.int .u64 (1), .int .u64 (((m : Nat) : Int))] w (RetV w (.tuple #[.int .u64 (0), .int .u64 (((m : Nat) : Int))])) := by
  refine CE.enter 51 [(0, .int .u64 (1)), (1, .int .u64 (((m : Nat) : Int)))] en_138 Try.func138 rfl rfl (Nat.le_of_ble_eq_true rfl) rfl ?_
  have st := St.start w
  refine Wc.seq ?_
  refine Wc.region rfl ?_
  refine Wl.pure (PR.assI rfl) ?_
  refine Wl.pure (PR.assI rfl) ?_
  refine Wl.nil ?_
  refine tn ?_
  refine Wc.seq ?_
  refine Wc.region rfl ?_
  refine Wl.pure (PR.moveI rfl) ?_
  refine Wl.pure (PR.and (a := 1) (b := 4294967295) rfl rfl (by decide) (by decide) (by decide)) ?_
  refine Wl.pure (PR.assI rfl) ?_
  refine Wl.nil ?_
  refine tn ?_
  refine Wc.seq ?_
  refine Wc.region rfl ?_
  refine Wl.pure (PR.moveI rfl) ?_
  refine Wl.pure (PR.shr (a := 1) (n := 32) rfl rfl (by decide) (by decide)) ?_
  refine Wl.pure (PR.assI rfl) ?_
  refine Wl.nil ?_
  refine tn ?_
  refine Wc.seq ?_
  refine Wc.region rfl ?_
  refine Wl.pure (PR.moveI rfl) ?_
  refine Wl.pure (PR.and (a := m) (b := 4294967295) rfl rfl (by decide) hmb (by decide)) ?_
  refine Wl.pure (PR.assI rfl) ?_
  refine Wl.nil ?_
  refine tn ?_
  refine Wc.seq ?_
  refine Wc.region rfl ?_
  refine Wl.pure (PR.moveI rfl) ?_
  refine Wl.pure (PR.shr (a := m) (n := 32) rfl rfl (by decide) hmb) ?_
  refine Wl.pure (PR.assI rfl) ?_
  refine Wl.nil ?_
  refine tn ?_
  refine Wc.seq ?_
  refine Wc.region rfl ?_
  refine Wl.pure (PR.moveI rfl) ?_
  refine Wl.pure (PR.moveI rfl) ?_
  refine Wl.pure (PR.mulU (a := (1 &&& 4294967295)) (b := (m &&& 4294967295)) rfl rfl (by decide)) ?_
  refine Wl.pure (PR.assI rfl) ?_
  refine Wl.nil ?_
  refine tn ?_
  refine Wc.seq ?_
  refine Wc.region rfl ?_
  refine Wl.pure (PR.moveI rfl) ?_
  refine Wl.pure (PR.moveI rfl) ?_
  refine Wl.pure (PR.mulU (a := (1 >>> 32)) (b := (m &&& 4294967295)) rfl rfl (by decide)) ?_
  refine Wl.pure (PR.moveI rfl) ?_
  refine Wl.pure (PR.shr (a := (((1 &&& 4294967295) * (m &&& 4294967295)) % 18446744073709551616)) (n := 32) rfl rfl (by decide) (Nat.mod_lt _ (by decide))) ?_
  refine Wl.pure (PR.addU (a := (((1 >>> 32) * (m &&& 4294967295)) % 18446744073709551616)) (b := ((((1 &&& 4294967295) * (m &&& 4294967295)) % 18446744073709551616) >>> 32)) rfl rfl (by decide)) ?_
  refine Wl.pure (PR.assI rfl) ?_
  refine Wl.nil ?_
  refine tn ?_
  refine Wc.seq ?_
  refine Wc.region rfl ?_
  refine Wl.pure (PR.moveI rfl) ?_
  refine Wl.pure (PR.and (a := (((((1 >>> 32) * (m &&& 4294967295)) % 18446744073709551616) + ((((1 &&& 4294967295) * (m &&& 4294967295)) % 18446744073709551616) >>> 32)) % 18446744073709551616)) (b := 4294967295) rfl rfl (by decide) (Nat.mod_lt _ (by decide)) (by decide)) ?_
  refine Wl.pure (PR.assI rfl) ?_
  refine Wl.nil ?_
  refine tn ?_
  refine Wc.seq ?_
  refine Wc.region rfl ?_
  refine Wl.pure (PR.moveI rfl) ?_
  refine Wl.pure (PR.shr (a := (((((1 >>> 32) * (m &&& 4294967295)) % 18446744073709551616) + ((((1 &&& 4294967295) * (m &&& 4294967295)) % 18446744073709551616) >>> 32)) % 18446744073709551616)) (n := 32) rfl rfl (by decide) (Nat.mod_lt _ (by decide))) ?_
  refine Wl.pure (PR.assI rfl) ?_
  refine Wl.nil ?_
  refine tn ?_
  refine Wc.seq ?_
  refine Wc.region rfl ?_
  refine Wl.pure (PR.moveI rfl) ?_
  refine Wl.pure (PR.moveI rfl) ?_
  refine Wl.pure (PR.moveI rfl) ?_
  refine Wl.pure (PR.mulU (a := (1 &&& 4294967295)) (b := (m >>> 32)) rfl rfl (by decide)) ?_
  refine Wl.pure (PR.addU (a := ((((((1 >>> 32) * (m &&& 4294967295)) % 18446744073709551616) + ((((1 &&& 4294967295) * (m &&& 4294967295)) % 18446744073709551616) >>> 32)) % 18446744073709551616) &&& 4294967295)) (b := (((1 &&& 4294967295) * (m >>> 32)) % 18446744073709551616)) rfl rfl (by decide)) ?_
  refine Wl.pure (PR.assI rfl) ?_
  refine Wl.nil ?_
  refine tn ?_
  refine Wc.seq ?_
  refine Wc.region rfl ?_
  refine Wl.pure (PR.moveI rfl) ?_
  refine Wl.pure (PR.moveI rfl) ?_
  refine Wl.pure (PR.mulU (a := (1 >>> 32)) (b := (m >>> 32)) rfl rfl (by decide)) ?_
  refine Wl.pure (PR.moveI rfl) ?_
  refine Wl.pure (PR.addU (a := (((1 >>> 32) * (m >>> 32)) % 18446744073709551616)) (b := ((((((1 >>> 32) * (m &&& 4294967295)) % 18446744073709551616) + ((((1 &&& 4294967295) * (m &&& 4294967295)) % 18446744073709551616) >>> 32)) % 18446744073709551616) >>> 32)) rfl rfl (by decide)) ?_
  refine Wl.pure (PR.moveI rfl) ?_
  refine Wl.pure (PR.shr (a := ((((((((1 >>> 32) * (m &&& 4294967295)) % 18446744073709551616) + ((((1 &&& 4294967295) * (m &&& 4294967295)) % 18446744073709551616) >>> 32)) % 18446744073709551616) &&& 4294967295) + (((1 &&& 4294967295) * (m >>> 32)) % 18446744073709551616)) % 18446744073709551616)) (n := 32) rfl rfl (by decide) (Nat.mod_lt _ (by decide))) ?_
  refine Wl.pure (PR.addU (a := (((((1 >>> 32) * (m >>> 32)) % 18446744073709551616) + ((((((1 >>> 32) * (m &&& 4294967295)) % 18446744073709551616) + ((((1 &&& 4294967295) * (m &&& 4294967295)) % 18446744073709551616) >>> 32)) % 18446744073709551616) >>> 32)) % 18446744073709551616)) (b := (((((((((1 >>> 32) * (m &&& 4294967295)) % 18446744073709551616) + ((((1 &&& 4294967295) * (m &&& 4294967295)) % 18446744073709551616) >>> 32)) % 18446744073709551616) &&& 4294967295) + (((1 &&& 4294967295) * (m >>> 32)) % 18446744073709551616)) % 18446744073709551616) >>> 32)) rfl rfl (by decide)) ?_
  refine Wl.pure (PR.assI rfl) ?_
  refine Wl.nil ?_
  refine tn ?_
  refine Wc.seq ?_
  refine Wc.region rfl ?_
  refine Wl.pure (PR.moveI rfl) ?_
  refine Wl.pure (PR.moveI rfl) ?_
  refine Wl.pure (PR.mulU (a := 1) (b := m) rfl rfl (by decide)) ?_
  refine Wl.pure (PR.assI rfl) ?_
  refine Wl.nil ?_
  refine tn ?_
  refine Wc.ret ?_
  refine postL.tmp2 rfl rfl rfl ?_
  refine RetV.of ?_ st.below
  rcases (show m = 0 ∨ m = 1 ∨ m = 2 ∨ m = 3 ∨ m = 4 ∨ m = 5 ∨ m = 6 ∨ m = 7 ∨ m = 8 by omega) with rfl | rfl | rfl | rfl | rfl | rfl | rfl | rfl | rfl <;> rfl

set_option maxHeartbeats 400000 in
set_option maxRecDepth 4000 in
theorem c_math_bits_Mul {m : Nat} {w : World} (hm : m ≤ 8) (hmb : m < 18446744073709551616) :
    CE Try.prog 131 [.int .u64 (1), .int .u64 (((m : Nat) : Int))] w (RetV w (.tuple #[.int .u64 (0), .int .u64 (((m : Nat) : Int))])) := by
  refine CE.enter 30 [(0, .int .u64 (1)), (1, .int .u64 (((m : Nat) : Int)))] en_131 Try.func131 rfl rfl (Nat.le_of_ble_eq_true rfl) rfl ?_
  have st := St.start w
  refine Wc.seq ?_
  refine Wc.region rfl ?_
  refine Wl.pure (PR.assI rfl) ?_
  refine Wl.pure (PR.assI rfl) ?_
  refine Wl.nil ?_
  refine tn ?_
  refine Wc.seq ?_
  refine Wc.condF rfl ?_
  refine Wc.skip ?_
  refine tn ?_
  refine Wc.seq ?_
  refine Wc.region rfl ?_
  refine Wl.pure (PR.moveI rfl) ?_
  refine Wl.pure (PR.moveI rfl) ?_
  refine Wl.callV (c_math_bits_Mul64 (m := m) (by first | assumption | omega) hmb) rfl ?_
  intro w1 hbel
  replace st := st.call hbel
  clear hbel
  refine Wl.pure (PR.moveV (.tuple #[.int .u64 (0), .int .u64 (((m : Nat) : Int))]) rfl) ?_
  refine Wl.pure (PR.extr (i := 0) (vs := [.int .u64 (0), .int .u64 (((m : Nat) : Int))]) rfl rfl) ?_
  refine Wl.pure (PR.extr (i := 1) (vs := [.int .u64 (0), .int .u64 (((m : Nat) : Int))]) rfl rfl) ?_
  refine Wl.pure (PR.assI rfl) ?_
  refine Wl.pure (PR.assI rfl) ?_
  refine Wl.nil ?_
  refine tn ?_
  refine Wc.seq ?_
  refine Wc.region rfl ?_
  refine Wl.pure (PR.moveI rfl) ?_
  refine Wl.pure (PR.moveI rfl) ?_
  refine Wl.pure (PR.assI rfl) ?_
  refine Wl.pure (PR.assI rfl) ?_
  refine Wl.nil ?_
  refine tn ?_
  refine Wc.ret ?_
  refine postL.tmp2 rfl rfl rfl ?_
  exact RetV.of rfl st.below

set_option maxHeartbeats 400000 in
set_option maxRecDepth 4000 in
theorem c_slices_Repeat_impl_Layer_impl_Layer {A : Option Addr} {cp : Nat} {p0 : Int} {c0 : Nat → Nat} {m : Nat} {w : World} (hR : RdS w A 1 (layS 1 (fun _ => p0) (fun _ => c0))) (hm : 1 ≤ m ∧ m ≤ 8) (hc0 : ∀ k, c0 k < 256) :
    CE Try.prog 114 [.slice (A) (1) (cp), .int .i64 (((m : Nat) : Int))] w (RetXG w [] 30 65 (m) (layS m (fun _ => p0) (fun _ => c0)) (fun b_ c_ => .slice (some ⟨b_, 0, none⟩) (m) (c_)) []) := by
  refine CE.enter 48 [(0, .slice (A) (1) (cp)), (1, .int .i64 (((m : Nat) : Int)))] en_114 Try.func114 rfl rfl (Nat.le_of_ble_eq_true rfl) rfl ?_
  have st := St.start w
  refine Wc.seq ?_
  refine Wc.region rfl ?_
  refine Wl.pure (PR.assL rfl) ?_
  refine Wl.nil ?_
  refine tn ?_
  refine Wc.seq ?_
  refine Wc.seq ?_
  refine Wc.region rfl ?_
  refine Wl.pure (PR.moveI rfl) ?_
  refine Wl.pure (PR.lss (a := ((m : Nat) : Int)) (b := 0) rfl rfl) ?_
  refine Wl.nil ?_
  refine tn ?_
  refine Wc.condD (p := ((m : Nat) : Int) < 0) rfl (fun h1 => ?_) (fun h1 => ?_)
  · exfalso
    omega
  · refine Wc.skip ?_
    refine tn ?_
    refine Wc.seq ?_
    refine Wc.region rfl ?_
    refine Wl.pure (PR.moveL rfl) ?_
    refine Wl.pure (PR.lenL tS_99 rfl) ?_
    refine Wl.pure (PR.conv (n := 1) tI_133 rfl (by simp only [fitI]; omega) Try.underlying3) ?_
    refine Wl.pure (PR.moveI rfl) ?_
    refine Wl.pure (PR.conv (n := ((m : Nat) : Int)) tI_133 rfl (by simp only [fitI]; omega) Try.underlying3) ?_
    refine Wl.callV (c_math_bits_Mul (m := m) (by first | assumption | omega) (by first | assumption | omega)) rfl ?_
    intro w2 hbel
    replace st := st.call hbel
    clear hbel
    refine Wl.pure (PR.moveV (.tuple #[.int .u64 (0), .int .u64 (((m : Nat) : Int))]) rfl) ?_
    refine Wl.pure (PR.extr (i := 0) (vs := [.int .u64 (0), .int .u64 (((m : Nat) : Int))]) rfl rfl) ?_
    refine Wl.pure (PR.extr (i := 1) (vs := [.int .u64 (0), .int .u64 (((m : Nat) : Int))]) rfl rfl) ?_
    refine Wl.pure (PR.assI rfl) ?_
    refine Wl.pure (PR.assI rfl) ?_
    refine Wl.nil ?_
    refine tn ?_
    refine Wc.seq ?_
    refine Wc.seq ?_
    refine Wc.region rfl ?_
    refine Wl.pure (PR.moveI rfl) ?_
    refine Wl.pure (PR.gtr (a := 0) (b := 0) rfl rfl) ?_
    refine Wl.pure (PR.moveB rfl) ?_
    refine Wl.splitF (q := 0 < 0) rfl rfl (fun h3 => ?_) (fun h3 => ?_)
    · refine Wl.pure (PR.moveI rfl) ?_
      refine Wl.on rfl rfl ?_
      refine Wl.pure (PR.gtr (a := ((m : Nat) : Int)) (b := 9223372036854775807) rfl rfl) ?_
      refine Wl.pure (PR.pickFB rfl rfl) ?_
      refine Wl.nil ?_
      refine tn ?_
      refine Wc.condD (p := 9223372036854775807 < ((m : Nat) : Int)) rfl (fun h4 => ?_) (fun h4 => ?_)
      · exfalso
        omega
      · refine Wc.skip ?_
        refine tn ?_
        refine Wc.seq ?_
        refine Wc.region rfl ?_
        refine Wl.pure (PR.moveI rfl) ?_
        refine Wl.pure (PR.conv (n := ((m : Nat) : Int)) tI_3 rfl (by simp only [fitI]; omega) Try.underlying133) ?_
        refine Wl.makeSlice (n := m) st tS_99 tZ_30 rfl rfl rfl (by omega) (by omega) ?_
        clear st
        intro b30 w5 st
        replace st : St [] w w5 [(b30, layS m (fun _ => 0) (fun _ _ => 0), 30)] := st
        refine Wl.pure (PR.assL rfl) ?_
        refine Wl.nil ?_
        refine tn ?_
        refine Wc.seq ?_
        refine Wc.region rfl ?_
        refine Wl.pure (PR.moveL rfl) ?_
        refine Wl.pure (PR.moveL rfl) ?_
        refine Wl.copy (vs := layS 1 (repP m p0) (repC m c0)) (m := 1) (n := m) (off := 0) (i := 0) st tS_99 rfl rfl rfl (fun _ => rfl) (cp_cells (by omega) (hR.st st)) (layS_one _ _) (cp_len (by omega)) (cp_first (by omega)) ?_
        clear st
        intro w6 st
        replace st : St [] w w6 [(b30, layS m (repP 1 p0) (repC 1 c0), 30)] := st
        rw [show Nat.min 1 m = 1 from Nat.min_eq_left (by omega)]
        refine Wl.pure (PR.assI rfl) ?_
        refine Wl.nil ?_
        refine tn ?_
        refine Wc.seq ?_
        refine Wc.block ?_
        refine Wc.loopF (γ := Nat) (fun g => [(4, .slice (none) (0) (0)), (7, .slice (some ⟨b30, 0, none⟩) (m) (m)), (8, .int .i64 (((g : Nat) : Int)))]) (fun g w_ => St [] w w_ [(b30, layS m (repP g p0) (repC g c0), 30)] ∧ (1 ≤ g ∧ g ≤ m)) (fun g => m - g) ?_ ?_
        · exact ⟨1, (.cons rfl (.cons rfl (.cons rfl (.nil _)))), st, (by first | omega | (dsimp only; omega))⟩
        clear st
        rintro q w7 ⟨st, hq⟩
        try dsimp only at st hq ⊢
        refine Wc.seq ?_
        refine Wc.seq ?_
        refine Wc.region rfl ?_
        refine Wl.pure (PR.moveI rfl) ?_
        refine Wl.pure (PR.moveL rfl) ?_
        refine Wl.pure (PR.lenL tS_99 rfl) ?_
        refine Wl.pure (PR.lss (a := ((q : Nat) : Int)) (b := ((m : Nat) : Int)) rfl rfl) ?_
        refine Wl.nil ?_
        refine tn ?_
        refine Wc.condD (p := ((q : Nat) : Int) < ((m : Nat) : Int)) rfl (fun h8 => ?_) (fun h8 => ?_)
        · refine Wc.skip ?_
          refine tn ?_
          refine Wc.block ?_
          refine Wc.tree1 (w0 := w) (X := []) (Ks := []) (S := fun i => i == 7) (.st 0 0 (.st 1 0 (.st 2 0 (.st 3 0 (.st 4 0 (.st 5 0 (.st 6 0 (.st 7 2 (.st 8 0 (.st 9 0 PT.nil)))))))))) hmix (by kernel_rfl) (by kernel_rfl) rfl rfl ?_
          intro w9 hbel
          replace st := st.call hbel
          clear hbel
          refine WT.pure rfl (PR.moveI rfl) ?_
          refine WT.pure rfl (PR.moveL rfl) ?_
          refine WT.pure rfl (PR.moveI rfl) ?_
          refine WT.pure rfl (PR.sliceFrom (lo := q) tS_99 rfl rfl (by omega) (by omega)) ?_
          refine WT.pure rfl (PR.moveL rfl) ?_
          refine WT.pure rfl (PR.moveI rfl) ?_
          refine WT.pure rfl (PR.sliceTo (h := q) tS_99 rfl rfl (by omega)) ?_
          have st0 := st
          refine WT.s rfl rfl ?_
          have hmn : Nat.min q (m - q) ≤ m - q ∧ 1 ≤ Nat.min q (m - q) ∧ Nat.min q (m - q) ≤ q := cp_min (by omega) (by omega)
          refine Wl.copy (vs := layS (Nat.min q (m - q)) (repP q p0) (repC q c0)) (m := q) (n := m - q) (off := 0 + q * 65) (i := 0) st tS_99 rfl rfl rfl (fun _ => rfl) (cp_cells2 (i := 0) (by omega) st rfl) (layS_one _ _) (cp_len2 (by omega)) (cp_more (by omega)) ?_
          clear st
          intro w10 st
          replace st : St [] w w10 [(b30, layS m (repP (q + Nat.min q (m - q)) p0) (repC (q + Nat.min q (m - q)) c0), 30)] := st
          refine Wl.nil ⟨rfl, RK.of st0 st ksN, ?_⟩
          clear st0
          refine WT.pure rfl (PR.add (a := ((q : Nat) : Int)) (b := (((Nat.min q (m - q)) : Nat) : Int)) rfl rfl (by simp only [fitI]; omega)) ?_
          refine WT.pure rfl (PR.assI rfl) ?_
          refine WT.nil ?_
          refine bn ?_
          refine tn ?_
          exact ⟨(q + (Nat.min q (m - q))), (.cons rfl (.cons rfl (.cons rfl (.nil _)))), ⟨st, (by first | omega | (dsimp only; omega))⟩, (by first | omega | (dsimp only; omega))⟩
        · refine Wc.exit ?_
          refine tx ?_
          refine tx ?_
          refine bh ?_
          refine tn ?_
          refine Wc.seq ?_
          refine Wc.region rfl ?_
          refine Wl.pure (PR.moveL rfl) ?_
          refine Wl.pure (PR.assL rfl) ?_
          refine Wl.nil ?_
          refine tn ?_
          refine Wc.ret ?_
          refine postL.tmp rfl rfl ?_
          rw [cp_end (by omega)] at st
          replace st := st.nilapp
          exact ⟨b30, m, ([]), (Nat.le_refl _), (by simp), rfl, st⟩
    · refine Wl.off rfl rfl rfl ?_
      refine Wl.pure (PR.pickTB rfl rfl) ?_
      refine Wl.nil ?_
      refine tn ?_
      refine Wc.condT rfl ?_
      exfalso
      omega

end Go.Proofs.Ytajkjhjnbfcpfaa
