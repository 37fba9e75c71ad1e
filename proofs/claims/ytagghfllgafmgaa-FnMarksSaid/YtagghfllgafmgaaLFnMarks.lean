/-
  A layer with another mark is none that was made; torn cells are left out; a layer that has been moved is moved back.
-/
import Derived.Test.YtagghfllgafmgaaCM3
import Derived.Test.YtagghfllgafmgaaRow
import Derived.Test.YtagghfllgafmgaaLays
import Derived.Test.YtagghfllgafmgaaRows
import Derived.ProofKit
namespace Go.Proofs.Ytagghfllgafmgaa
open Go.ChangeShapes Go.WideShapes Go.ChangeAt Go.RowKit
set_option linter.unusedVariables false

theorem own_FnMarks : ownKnob Try.prog.godebug = none := by kernel_rfl
theorem laid_FnMarks : laidOutB Try.prog = true := by kernel_rfl
set_option maxRecDepth 100000 in
theorem lifted_FnMarks (os : Os) (started : os.Started) (H : Type) (enc : TypeId × Value → H) :
    ReturnsInHanded {} Try.checked os 8 .any (Rows.fnMarksSpec.pre6 enc Try.prog Try.f8 Rows.fnMarksRow.domain false) (Rows.fnMarksSpec.post enc Try.prog Try.f8 false true false false) := by
  refine returnsInHanded_of_change (C := Try.checked) own_FnMarks started (by kernel_rfl) Try.func8
    (ChangeSpec.witness6 (enc := enc) (C := Try.checked) false ⟨#[], #[.slice none 0 0, .slice none 0 0], []⟩ 8 (by kernel_rfl) (by kernel_rfl) (by kernel_rfl) (by kernel_rfl)) ?_
  intro W base args ds gs before hval0 hW hcnd _
  have hval : ∀ (j : Nat) t v, Try.f8.params[j]? = some t → args[j]? = some v → Value.okWide Try.prog W .any base t v := hval0
  have hW' := hW
  obtain ⟨p, q, hA0, hV, rfl, hfz, hnd⟩ := hW
  have hA : DataW.TrodAll enc Try.prog W 0 (fun _ => true) true Try.f8.params.toList args.toList ds p := hA0
  obtain ⟨rfl, rfl⟩ := trodVars_none hV
  obtain ⟨args⟩ := args
  rw [Try.params8] at hA
  simp only at hA
  obtain ⟨v0, vs0, d0, ds0, p0, q0, rfl, rfl, e0, h0, hA1⟩ := trodAll_cons hA
  obtain ⟨v1, vs1, d1, ds1, p1, q1, rfl, rfl, e1, h1, hA2⟩ := trodAll_cons hA1
  have hnil : vs1 = [] ∧ ds1 = [] := by
    cases vs1 <;> cases ds1 <;> simp [DataW.TrodAll] at hA2 ⊢
  obtain ⟨rfl, rfl⟩ := hnil
  clear hA0 hval0 hV
  obtain ⟨A0, n0, cp0, G0, rfl, hn0, hG0, hR0⟩ := open_sl (e := 5) (ks := [.u8]) Try.underlying68 (by kernel_rfl) (by kernel_rfl) (by decide) (hval 0 68 v0 rfl rfl) h0
  obtain ⟨c0, hE0, hc0⟩ := arrU_of (k := .u8) (by decide) hG0
  rw [hE0] at hR0
  obtain ⟨A1, n1, cp1, G1, rfl, hn1, hG1, hR1⟩ := open_sl (e := 5) (ks := [.u8]) Try.underlying68 (by kernel_rfl) (by kernel_rfl) (by decide) (hval 1 68 v1 rfl rfl) h1
  obtain ⟨c1, hE1, hc1⟩ := arrU_of (k := .u8) (by decide) hG1
  rw [hE1] at hR1
  refine (c_laws_FnMarks hn0 hR0 hc0 hn1 hR1 hc1).2.mono fun e W2 ⟨he, hb⟩ => ?_
  subst he
  exact ⟨_, rfl, post_law laid_FnMarks hW' rfl rfl Try.underlying4 (by kernel_rfl) rfl rfl rfl hb⟩

theorem FnMarks_holds : Rows.FnMarksSaid :=
  OpenClaim.holds_of_wide 8 Try.f8 rfl rfl rfl rfl rfl rfl rfl ⟨rfl, rfl, rfl, rfl, rfl⟩ rfl rfl rfl rfl rfl (by kernel_rfl) Try.func8 (by kernel_rfl)
    (of_decide_eq_true (by kernel_rfl)) (by unfold Func.isWrapper; first | (rw [if_pos (by decide +kernel)]; kernel_rfl) | (rw [if_neg (by decide +kernel)]; exact ⟨rfl, rfl⟩))
    (fun os started H enc _ => lifted_FnMarks os started H enc)
end Go.Proofs.Ytagghfllgafmgaa
