/-
  The forged shares that the program names are those that the reference names.
-/
import Derived.Test.YtagghfllgafmgaaCL3
import Derived.Test.YtagghfllgafmgaaRow
import Derived.Test.YtagghfllgafmgaaLays
import Derived.Test.YtagghfllgafmgaaRows
import Derived.ProofKit
namespace Go.Proofs.Ytagghfllgafmgaa
open Go.ChangeShapes Go.WideShapes Go.ChangeAt Go.RowKit
set_option linter.unusedVariables false

theorem own_FnExactForgedShares : ownKnob Try.prog.godebug = none := by kernel_rfl
theorem laid_FnExactForgedShares : laidOutB Try.prog = true := by kernel_rfl
set_option maxRecDepth 100000 in
theorem lifted_FnExactForgedShares (os : Os) (started : os.Started) (H : Type) (enc : TypeId × Value → H) :
    ReturnsInHanded {} Try.checked os 5 .any (Rows.fnExactForgedSharesSpec.pre6 enc Try.prog Try.f5 Rows.fnExactForgedSharesRow.domain false) (Rows.fnExactForgedSharesSpec.post enc Try.prog Try.f5 false true false false) := by
  refine returnsInHanded_of_change (C := Try.checked) own_FnExactForgedShares started (by kernel_rfl) Try.func5
    (ChangeSpec.witness6 (enc := enc) (C := Try.checked) false ⟨#[], #[.slice none 0 0, .int .u32 0, .slice none 0 0], []⟩ 8 (by kernel_rfl) (by kernel_rfl) (by kernel_rfl) (by kernel_rfl)) ?_
  intro W base args ds gs before hval0 hW hcnd _
  have hval : ∀ (j : Nat) t v, Try.f5.params[j]? = some t → args[j]? = some v → Value.okWide Try.prog W .any base t v := hval0
  have hW' := hW
  obtain ⟨p, q, hA0, hV, rfl, hfz, hnd⟩ := hW
  have hA : DataW.TrodAll enc Try.prog W 0 (fun _ => true) true Try.f5.params.toList args.toList ds p := hA0
  obtain ⟨rfl, rfl⟩ := trodVars_none hV
  obtain ⟨args⟩ := args
  rw [Try.params5] at hA
  simp only at hA
  obtain ⟨v0, vs0, d0, ds0, p0, q0, rfl, rfl, e0, h0, hA1⟩ := trodAll_cons hA
  obtain ⟨v1, vs1, d1, ds1, p1, q1, rfl, rfl, e1, h1, hA2⟩ := trodAll_cons hA1
  obtain ⟨v2, vs2, d2, ds2, p2, q2, rfl, rfl, e2, h2, hA3⟩ := trodAll_cons hA2
  have hnil : vs2 = [] ∧ ds2 = [] := by
    cases vs2 <;> cases ds2 <;> simp [DataW.TrodAll] at hA3 ⊢
  obtain ⟨rfl, rfl⟩ := hnil
  clear hA0 hval0 hV
  obtain ⟨A, n, cp, G0, rfl, hn, hG0, hR⟩ := open_sl (e := 25) (ks := .i8 :: List.replicate 64 .u8) Try.underlying32 (by kernel_rfl) (by kernel_rfl) (by decide) (hval 0 32 v0 rfl rfl) h0
  obtain ⟨p, c, hE0, hp, hc⟩ := layS_of hG0
  rw [hE0] at hR
  obtain ⟨n1, rfl, hn1⟩ := open_num Try.underlying26 (hval 1 26 v1 rfl rfl) h1
  obtain ⟨seed, rfl, hs⟩ := nat_of_fit (by decide) hn1
  obtain ⟨B, m, cq, G2, rfl, hm1, hG2, hB⟩ := open_sl (e := 26) (ks := [.u32]) Try.underlying34 (by kernel_rfl) (by kernel_rfl) (by decide) (hval 2 34 v2 rfl rfl) h2
  obtain ⟨d, hE2, hd⟩ := arrU_of (k := .u32) (by decide) hG2
  rw [hE2] at hB
  refine (c_laws_FnExactForgedShares hR hp hc hn hs hB hd hm1).2.mono fun e W2 ⟨he, hb⟩ => ?_
  subst he
  exact ⟨_, rfl, post_law laid_FnExactForgedShares hW' rfl rfl Try.underlying4 (by kernel_rfl) rfl rfl rfl hb⟩

theorem FnExactForgedShares_holds : Rows.FnExactForgedSharesSaid :=
  OpenClaim.holds_of_wide 5 Try.f5 rfl rfl rfl rfl rfl rfl rfl ⟨rfl, rfl, rfl, rfl, rfl⟩ rfl rfl rfl rfl rfl (by kernel_rfl) Try.func5 (by kernel_rfl)
    (of_decide_eq_true (by kernel_rfl)) (by unfold Func.isWrapper; first | (rw [if_pos (by decide +kernel)]; kernel_rfl) | (rw [if_neg (by decide +kernel)]; exact ⟨rfl, rfl⟩))
    (fun os started H enc _ => lifted_FnExactForgedShares os started H enc)
end Go.Proofs.Ytagghfllgafmgaa
