/-
  CompareRatios answers as the spec says.
-/
import Derived.Test.YtjkicobdokcjfaaCRat
import Derived.Test.YtjkicobdokcjfaaRow
import Derived.Test.YtjkicobdokcjfaaRows
import Derived.ProofKit
namespace Go.Proofs.Ytjkicobdokcjfaa
open Go.ChangeShapes Go.WideShapes Go.ChangeAt Go.RowKit
set_option linter.unusedVariables false

theorem own_FnExactCompareRatios : ownKnob Try.prog.godebug = none := by kernel_rfl
theorem laid_FnExactCompareRatios : laidOutB Try.prog = true := by kernel_rfl
set_option maxRecDepth 100000 in
theorem lifted_FnExactCompareRatios (os : Os) (started : os.Started) (H : Type) (enc : TypeId × Value → H) :
    ReturnsInHanded {} Try.checked os 3 .any (Rows.fnExactCompareRatiosSpec.pre6 enc Try.prog Try.f3 Rows.fnExactCompareRatiosRow.domain false) (Rows.fnExactCompareRatiosSpec.post enc Try.prog Try.f3 false true false false) := by
  refine returnsInHanded_of_change (C := Try.checked) own_FnExactCompareRatios started (by kernel_rfl) Try.func3
    (ChangeSpec.witness6 (enc := enc) (C := Try.checked) false ⟨#[], #[.agg #[.int .i16 0, .int .i16 0], .agg #[.int .i16 0, .int .i16 0]], []⟩ 8 (by kernel_rfl) (by kernel_rfl) (by kernel_rfl) (by kernel_rfl)) ?_
  intro W base args ds gs before hval0 hW hcnd _
  have hval : ∀ (j : Nat) t v, Try.f3.params[j]? = some t → args[j]? = some v → Value.okWide Try.prog W .any base t v := hval0
  have hW' := hW
  obtain ⟨p, q, hA0, hV, rfl, hfz, hnd⟩ := hW
  have hA : DataW.TrodAll enc Try.prog W 0 (fun _ => true) true Try.f3.params.toList args.toList ds p := hA0
  obtain ⟨rfl, rfl⟩ := trodVars_none hV
  obtain ⟨args⟩ := args
  rw [Try.params3] at hA
  simp only at hA
  obtain ⟨v0, vs0, d0, ds0, p0, q0, rfl, rfl, e0, h0, hA1⟩ := trodAll_cons hA
  obtain ⟨v1, vs1, d1, ds1, p1, q1, rfl, rfl, e1, h1, hA2⟩ := trodAll_cons hA1
  have hnil : vs1 = [] ∧ ds1 = [] := by
    cases vs1 <;> cases ds1 <;> simp [DataW.TrodAll] at hA2 ⊢
  obtain ⟨rfl, rfl⟩ := hnil
  clear hA0 hval0 hV
  obtain ⟨cs0, rfl, hf0⟩ := open_flat (ks := [.i16, .i16]) (by kernel_rfl) (by kernel_rfl) (by kernel_rfl) (hval 0 24 v0 rfl rfl) h0
  obtain ⟨n, r0_0, rfl, q0_0, hf0⟩ := hf0.cons
  have hn : -32768 ≤ n ∧ n ≤ 32767 := q0_0
  obtain ⟨d, r0_1, rfl, q0_1, hf0⟩ := hf0.cons
  have hd : -32768 ≤ d ∧ d ≤ 32767 := q0_1
  obtain rfl := hf0.nil
  obtain ⟨cs1, rfl, hf1⟩ := open_flat (ks := [.i16, .i16]) (by kernel_rfl) (by kernel_rfl) (by kernel_rfl) (hval 1 24 v1 rfl rfl) h1
  obtain ⟨m, r1_0, rfl, q1_0, hf1⟩ := hf1.cons
  have hm : -32768 ≤ m ∧ m ≤ 32767 := q1_0
  obtain ⟨e, r1_1, rfl, q1_1, hf1⟩ := hf1.cons
  have he : -32768 ≤ e ∧ e ≤ 32767 := q1_1
  obtain rfl := hf1.nil
  refine (c_laws_FnExactCompareRatios hn hd hm he).2.mono fun e W2 ⟨he, hb⟩ => ?_
  subst he
  exact ⟨_, rfl, post_law laid_FnExactCompareRatios hW' rfl rfl Try.underlying4 (by kernel_rfl) rfl rfl rfl hb⟩

theorem FnExactCompareRatios_holds : Rows.FnExactCompareRatiosSaid :=
  OpenClaim.holds_of_wide 3 Try.f3 rfl rfl rfl rfl rfl rfl rfl ⟨rfl, rfl, rfl, rfl, rfl⟩ rfl rfl rfl rfl rfl (by kernel_rfl) Try.func3 (by kernel_rfl)
    (of_decide_eq_true (by kernel_rfl)) (by unfold Func.isWrapper; first | (rw [if_pos (by decide +kernel)]; kernel_rfl) | (rw [if_neg (by decide +kernel)]; exact ⟨rfl, rfl⟩))
    (fun os started H enc _ => lifted_FnExactCompareRatios os started H enc)
end Go.Proofs.Ytjkicobdokcjfaa
