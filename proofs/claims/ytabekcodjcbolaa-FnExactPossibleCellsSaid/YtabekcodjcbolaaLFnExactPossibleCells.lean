/-
  What a share may have in a cell: the program says what the reference says.
-/
import Derived.Test.YtabekcodjcbolaaCG4
import Derived.Test.YtabekcodjcbolaaRow
import Derived.Test.YtabekcodjcbolaaLays
import Derived.Test.YtabekcodjcbolaaRows
import Derived.ProofKit
namespace Go.Proofs.Ytabekcodjcbolaa
open Go.ChangeShapes Go.WideShapes Go.ChangeAt Go.RowKit
set_option linter.unusedVariables false

theorem own_FnExactPossibleCells : ownKnob Try.prog.godebug = none := by kernel_rfl
theorem laid_FnExactPossibleCells : laidOutB Try.prog = true := by kernel_rfl
set_option maxRecDepth 100000 in
theorem lifted_FnExactPossibleCells (os : Os) (started : os.Started) (H : Type) (enc : TypeId × Value → H) :
    ReturnsInHanded {} Try.checked os 5 .any (Rows.fnExactPossibleCellsSpec.pre6 enc Try.prog Try.f5 Rows.fnExactPossibleCellsRow.domain false) (Rows.fnExactPossibleCellsSpec.post enc Try.prog Try.f5 false true false false) := by
  refine returnsInHanded_of_change (C := Try.checked) own_FnExactPossibleCells started (by kernel_rfl) Try.func5
    (ChangeSpec.witness6 (enc := enc) (C := Try.checked) false ⟨#[], #[.agg #[.int .i8 0, .int .i8 0, .int .u8 0, .int .u8 0, .int .u8 0, .int .u8 0, .int .u8 0, .int .u8 0, .int .u8 0, .int .u8 0, .int .u8 0, .int .u8 0, .int .u8 0, .int .u8 0], .slice none 0 0, .int .i64 0, .bool false, .int .i64 0], []⟩ 8 (by kernel_rfl) (by kernel_rfl) (by kernel_rfl) (by kernel_rfl)) ?_
  intro W base args ds gs before hval0 hW hcnd _
  have hval : ∀ (j : Nat) t v, Try.f5.params[j]? = some t → args[j]? = some v → Value.okWide Try.prog W .any base t v := hval0
  have hW' := hW
  obtain ⟨p, q, hA0, hV, rfl, hfz, hnd⟩ := hW
  have hA : DataW.TrodAll enc Try.prog W 0 (fun _ => true) true Try.f5.params.toList args.toList ds p := hA0
  obtain ⟨rfl, rfl⟩ := trodVars_none hV
  obtain ⟨args⟩ := args
  rw [Try.params5] at hA
  simp only at hA
  obtain ⟨v0, vs0, d0, ds0, p0, q0, rfl, rfl, e0, h0, hA1⟩ := trodAll_cons hA
  obtain ⟨v1, vs1, d1, ds1, p1, q1, rfl, rfl, e1, h1, hA2⟩ := trodAll_cons hA1
  obtain ⟨v2, vs2, d2, ds2, p2, q2, rfl, rfl, e2, h2, hA3⟩ := trodAll_cons hA2
  obtain ⟨v3, vs3, d3, ds3, p3, q3, rfl, rfl, e3, h3, hA4⟩ := trodAll_cons hA3
  obtain ⟨v4, vs4, d4, ds4, p4, q4, rfl, rfl, e4, h4, hA5⟩ := trodAll_cons hA4
  have hnil : vs4 = [] ∧ ds4 = [] := by
    cases vs4 <;> cases ds4 <;> simp [DataW.TrodAll] at hA5 ⊢
  obtain ⟨rfl, rfl⟩ := hnil
  clear hA0 hval0 hV
  obtain ⟨cs0, rfl, hf0⟩ := open_flat (ks := .i8 :: .i8 :: (List.replicate 6 .u8 ++ List.replicate 6 .u8)) (by kernel_rfl) (by kernel_rfl) (by kernel_rfl) (hval 0 25 v0 rfl rfl) h0
  obtain ⟨s, p, a, b, rfl, hs, hp, ha, hb⟩ := hf0.sch
  obtain ⟨A, n, cp, G1, rfl, hn, hG1, hRL⟩ := open_sl (e := 64) (ks := .i8 :: List.replicate 64 .u8) Try.underlying27 (by kernel_rfl) (by kernel_rfl) (by decide) (hval 1 27 v1 rfl rfl) h1
  obtain ⟨y, c, hE1, hg, hc⟩ := layS_of hG1
  rw [hE1] at hRL
  obtain ⟨z, rfl, hn2⟩ := open_num Try.underlying2 (hval 2 2 v2 rfl rfl) h2
  obtain ⟨q, rfl, _, _⟩ := open_bool Try.underlying4 (hval 3 4 v3 rfl rfl) h3
  obtain ⟨t, rfl, hn4⟩ := open_num Try.underlying2 (hval 4 2 v4 rfl rfl) h4
  refine (c_laws_FnExactPossibleCells hs hp ha hb hRL hg hc hn).2.mono fun e W2 ⟨he, hb⟩ => ?_
  subst he
  exact ⟨_, rfl, post_law laid_FnExactPossibleCells hW' rfl rfl Try.underlying4 (by kernel_rfl) rfl rfl rfl hb⟩

theorem FnExactPossibleCells_holds : Rows.FnExactPossibleCellsSaid :=
  OpenClaim.holds_of_wide 5 Try.f5 rfl rfl rfl rfl rfl rfl rfl ⟨rfl, rfl, rfl, rfl, rfl⟩ rfl rfl rfl rfl rfl (by kernel_rfl) Try.func5 (by kernel_rfl)
    (of_decide_eq_true (by kernel_rfl)) (by unfold Func.isWrapper; first | (rw [if_pos (by decide +kernel)]; kernel_rfl) | (rw [if_neg (by decide +kernel)]; exact ⟨rfl, rfl⟩))
    (fun os started H enc _ => lifted_FnExactPossibleCells os started H enc)
end Go.Proofs.Ytabekcodjcbolaa
