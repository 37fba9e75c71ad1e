/-
  Whether a scheme stands the loss of parts: the program says what the reference says.
-/
import Derived.Test.YtdlmbdclbnlmlaaCF3
import Derived.Test.YtdlmbdclbnlmlaaRow
import Derived.Test.YtdlmbdclbnlmlaaRows
import Derived.ProofKit
namespace Go.Proofs.Ytdlmbdclbnlmlaa
open Go.ChangeShapes Go.WideShapes Go.ChangeAt Go.RowKit
set_option linter.unusedVariables false

theorem own_FnExactSurvivesLoss : ownKnob Try.prog.godebug = none := by kernel_rfl
theorem laid_FnExactSurvivesLoss : laidOutB Try.prog = true := by kernel_rfl
set_option maxRecDepth 100000 in
theorem lifted_FnExactSurvivesLoss (os : Os) (started : os.Started) (H : Type) (enc : TypeId × Value → H) :
    ReturnsInHanded {} Try.checked os 8 .any (Rows.fnExactSurvivesLossSpec.pre6 enc Try.prog Try.f8 Rows.fnExactSurvivesLossRow.domain false) (Rows.fnExactSurvivesLossSpec.post enc Try.prog Try.f8 false true false false) := by
  refine returnsInHanded_of_change (C := Try.checked) own_FnExactSurvivesLoss started (by kernel_rfl) Try.func8
    (ChangeSpec.witness6 (enc := enc) (C := Try.checked) false ⟨#[], #[.agg #[.int .i8 0, .int .i8 0, .int .u8 0, .int .u8 0, .int .u8 0, .int .u8 0, .int .u8 0, .int .u8 0, .int .u8 0, .int .u8 0, .int .u8 0, .int .u8 0, .int .u8 0, .int .u8 0], .agg #[.int .i8 0, .int .u64 0], .int .i64 0], []⟩ 8 (by kernel_rfl) (by kernel_rfl) (by kernel_rfl) (by kernel_rfl)) ?_
  intro W base args ds gs before hval0 hW hcnd _
  have hval : ∀ (j : Nat) t v, Try.f8.params[j]? = some t → args[j]? = some v → Value.okWide Try.prog W .any base t v := hval0
  have hW' := hW
  obtain ⟨p, q, hA0, hV, rfl, hfz, hnd⟩ := hW
  have hA : DataW.TrodAll enc Try.prog W 0 (fun _ => true) true Try.f8.params.toList args.toList ds p := hA0
  obtain ⟨rfl, rfl⟩ := trodVars_none hV
  obtain ⟨args⟩ := args
  rw [Try.params8] at hA
  simp only at hA
  obtain ⟨v0, vs0, d0, ds0, p0, q0, rfl, rfl, e0, h0, hA1⟩ := trodAll_cons hA
  obtain ⟨v1, vs1, d1, ds1, p1, q1, rfl, rfl, e1, h1, hA2⟩ := trodAll_cons hA1
  obtain ⟨v2, vs2, d2, ds2, p2, q2, rfl, rfl, e2, h2, hA3⟩ := trodAll_cons hA2
  have hnil : vs2 = [] ∧ ds2 = [] := by
    cases vs2 <;> cases ds2 <;> simp [DataW.TrodAll] at hA3 ⊢
  obtain ⟨rfl, rfl⟩ := hnil
  clear hA0 hval0 hV
  obtain ⟨cs0, rfl, hf0⟩ := open_flat (ks := .i8 :: .i8 :: (List.replicate 6 .u8 ++ List.replicate 6 .u8)) (by kernel_rfl) (by kernel_rfl) (by kernel_rfl) (hval 0 25 v0 rfl rfl) h0
  obtain ⟨s, p, a, b, rfl, hs, hp, ha, hb⟩ := hf0.sch
  obtain ⟨cs1, rfl, hf1⟩ := open_flat (ks := [.i8, .u64]) (by kernel_rfl) (by kernel_rfl) (by kernel_rfl) (hval 1 28 v1 rfl rfl) h1
  obtain ⟨m, r1_0, rfl, q1_0, hf1⟩ := hf1.cons
  have hm : -128 ≤ m ∧ m ≤ 127 := q1_0
  have hg1 := hf1
  clear hf1
  obtain ⟨z1_1, r1_1, rfl, q1_1, hh1⟩ := hg1.cons
  clear hg1
  obtain ⟨f, rfl, hf⟩ := nat_of_fit (by decide) q1_1
  have hf1 := hh1
  clear hh1
  obtain rfl := hf1.nil
  obtain ⟨l, rfl, hn2⟩ := open_num Try.underlying2 (hval 2 2 v2 rfl rfl) h2
  refine (c_laws_FnExactSurvivesLoss hs hp ha hb hm hf).2.mono fun e W2 ⟨he, hb⟩ => ?_
  subst he
  exact ⟨_, rfl, post_law laid_FnExactSurvivesLoss hW' rfl rfl Try.underlying4 (by kernel_rfl) rfl rfl rfl hb⟩

theorem FnExactSurvivesLoss_holds : Rows.FnExactSurvivesLossSaid :=
  OpenClaim.holds_of_wide 8 Try.f8 rfl rfl rfl rfl rfl rfl rfl ⟨rfl, rfl, rfl, rfl, rfl⟩ rfl rfl rfl rfl rfl (by kernel_rfl) Try.func8 (by kernel_rfl)
    (of_decide_eq_true (by kernel_rfl)) (by unfold Func.isWrapper; first | (rw [if_pos (by decide +kernel)]; kernel_rfl) | (rw [if_neg (by decide +kernel)]; exact ⟨rfl, rfl⟩))
    (fun os started H enc _ => lifted_FnExactSurvivesLoss os started H enc)
end Go.Proofs.Ytdlmbdclbnlmlaa
