/-
  The mean gap that the program tells is the one that the reference tells.
-/
import Derived.Test.YtdlmbdclbnlmlaaCE7
import Derived.Test.YtdlmbdclbnlmlaaRow
import Derived.Test.YtdlmbdclbnlmlaaRows
import Derived.ProofKit
namespace Go.Proofs.Ytdlmbdclbnlmlaa
open Go.ChangeShapes Go.WideShapes Go.ChangeAt Go.RowKit
set_option linter.unusedVariables false

theorem own_FnExactMeanGap : ownKnob Try.prog.godebug = none := by kernel_rfl
theorem laid_FnExactMeanGap : laidOutB Try.prog = true := by kernel_rfl
set_option maxRecDepth 100000 in
theorem lifted_FnExactMeanGap (os : Os) (started : os.Started) (H : Type) (enc : TypeId × Value → H) :
    ReturnsInHanded {} Try.checked os 5 .any (Rows.fnExactMeanGapSpec.pre6 enc Try.prog Try.f5 Rows.fnExactMeanGapRow.domain false) (Rows.fnExactMeanGapSpec.post enc Try.prog Try.f5 false true false false) := by
  refine returnsInHanded_of_change (C := Try.checked) own_FnExactMeanGap started (by kernel_rfl) Try.func5
    (ChangeSpec.witness6 (enc := enc) (C := Try.checked) false ⟨#[], #[.agg #[.int .i8 0, .int .i8 0, .int .u8 0, .int .u8 0, .int .u8 0, .int .u8 0, .int .u8 0, .int .u8 0, .int .u8 0, .int .u8 0, .int .u8 0, .int .u8 0, .int .u8 0, .int .u8 0], .agg #[.int .i8 0, .int .u64 0]], []⟩ 8 (by kernel_rfl) (by kernel_rfl) (by kernel_rfl) (by kernel_rfl)) ?_
  intro W base args ds gs before hval0 hW hcnd _
  have hval : ∀ (j : Nat) t v, Try.f5.params[j]? = some t → args[j]? = some v → Value.okWide Try.prog W .any base t v := hval0
  have hW' := hW
  obtain ⟨p, q, hA0, hV, rfl, hfz, hnd⟩ := hW
  have hA : DataW.TrodAll enc Try.prog W 0 (fun _ => true) true Try.f5.params.toList args.toList ds p := hA0
  obtain ⟨rfl, rfl⟩ := trodVars_none hV
  obtain ⟨args⟩ := args
  rw [Try.params5] at hA
  simp only at hA
  obtain ⟨v0, vs0, d0, ds0, p0, q0, rfl, rfl, e0, h0, hA1⟩ := trodAll_cons hA
  obtain ⟨v1, vs1, d1, ds1, p1, q1, rfl, rfl, e1, h1, hA2⟩ := trodAll_cons hA1
  have hnil : vs1 = [] ∧ ds1 = [] := by
    cases vs1 <;> cases ds1 <;> simp [DataW.TrodAll] at hA2 ⊢
  obtain ⟨rfl, rfl⟩ := hnil
  clear hA0 hval0 hV
  obtain ⟨cs0, rfl, hf0⟩ := open_flat (ks := .i8 :: .i8 :: (List.replicate 6 .u8 ++ List.replicate 6 .u8)) (by kernel_rfl) (by kernel_rfl) (by kernel_rfl) (hval 0 25 v0 rfl rfl) h0
  obtain ⟨s, p, a, b, rfl, hs, hp, ha, hb⟩ := hf0.sch
  obtain ⟨cs1, rfl, hf1⟩ := open_flat (ks := [.i8, .u64]) (by kernel_rfl) (by kernel_rfl) (by kernel_rfl) (hval 1 28 v1 rfl rfl) h1
  obtain ⟨m, r1_0, rfl, q1_0, hf1⟩ := hf1.cons
  have hm : -128 ≤ m ∧ m ≤ 127 := q1_0
  have hg1 := hf1
  clear hf1
  obtain ⟨z1_1, r1_1, rfl, q1_1, hh1⟩ := hg1.cons
  clear hg1
  obtain ⟨f, rfl, hf⟩ := nat_of_fit (by decide) q1_1
  have hf1 := hh1
  clear hh1
  obtain rfl := hf1.nil
  refine (c_laws_FnExactMeanGap hs hp ha hb hm hf).2.mono fun e W2 ⟨he, hb⟩ => ?_
  subst he
  exact ⟨_, rfl, post_law laid_FnExactMeanGap hW' rfl rfl Try.underlying4 (by kernel_rfl) rfl rfl rfl hb⟩

theorem FnExactMeanGap_holds : Rows.FnExactMeanGapSaid :=
  OpenClaim.holds_of_wide 5 Try.f5 rfl rfl rfl rfl rfl rfl rfl ⟨rfl, rfl, rfl, rfl, rfl⟩ rfl rfl rfl rfl rfl (by kernel_rfl) Try.func5 (by kernel_rfl)
    (of_decide_eq_true (by kernel_rfl)) (by unfold Func.isWrapper; first | (rw [if_pos (by decide +kernel)]; kernel_rfl) | (rw [if_neg (by decide +kernel)]; exact ⟨rfl, rfl⟩))
    (fun os started H enc _ => lifted_FnExactMeanGap os started H enc)
end Go.Proofs.Ytdlmbdclbnlmlaa
