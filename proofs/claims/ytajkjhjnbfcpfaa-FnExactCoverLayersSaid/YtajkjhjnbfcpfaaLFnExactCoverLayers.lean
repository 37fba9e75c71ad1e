/-
  The layers of covers that the program draws are those that the reference draws.
-/
import Derived.Test.YtajkjhjnbfcpfaaCW5
import Derived.Test.YtajkjhjnbfcpfaaRow
import Derived.Test.YtajkjhjnbfcpfaaRows
import Derived.ProofKit
namespace Go.Proofs.Ytajkjhjnbfcpfaa
open Go.ChangeShapes Go.WideShapes Go.ChangeAt Go.RowKit
set_option linter.unusedVariables false

theorem own_FnExactCoverLayers : ownKnob Try.prog.godebug = none := by kernel_rfl
theorem laid_FnExactCoverLayers : laidOutB Try.prog = true := by kernel_rfl
set_option maxRecDepth 100000 in
theorem lifted_FnExactCoverLayers (os : Os) (started : os.Started) (H : Type) (enc : TypeId × Value → H) :
    ReturnsInHanded {} Try.checked os 8 .any (Rows.fnExactCoverLayersSpec.pre6 enc Try.prog Try.f8 Rows.fnExactCoverLayersRow.domain false) (Rows.fnExactCoverLayersSpec.post enc Try.prog Try.f8 false true false false) := by
  refine returnsInHanded_of_change (C := Try.checked) own_FnExactCoverLayers started (by kernel_rfl) Try.func8
    (ChangeSpec.witness6 (enc := enc) (C := Try.checked) false ⟨#[], #[.int .u64 0, .int .u64 0, .int .u64 0, .int .u32 0], []⟩ 8 (by kernel_rfl) (by kernel_rfl) (by kernel_rfl) (by kernel_rfl)) ?_
  intro W base args ds gs before hval0 hW hcnd _
  have hval : ∀ (j : Nat) t v, Try.f8.params[j]? = some t → args[j]? = some v → Value.okWide Try.prog W .any base t v := hval0
  have hW' := hW
  obtain ⟨p, q, hA0, hV, rfl, hfz, hnd⟩ := hW
  have hA : DataW.TrodAll enc Try.prog W 0 (fun _ => true) true Try.f8.params.toList args.toList ds p := hA0
  obtain ⟨rfl, rfl⟩ := trodVars_none hV
  obtain ⟨args⟩ := args
  rw [Try.params8] at hA
  simp only at hA
  obtain ⟨v0, vs0, d0, ds0, p0, q0, rfl, rfl, e0, h0, hA1⟩ := trodAll_cons hA
  obtain ⟨v1, vs1, d1, ds1, p1, q1, rfl, rfl, e1, h1, hA2⟩ := trodAll_cons hA1
  obtain ⟨v2, vs2, d2, ds2, p2, q2, rfl, rfl, e2, h2, hA3⟩ := trodAll_cons hA2
  obtain ⟨v3, vs3, d3, ds3, p3, q3, rfl, rfl, e3, h3, hA4⟩ := trodAll_cons hA3
  have hnil : vs3 = [] ∧ ds3 = [] := by
    cases vs3 <;> cases ds3 <;> simp [DataW.TrodAll] at hA4 ⊢
  obtain ⟨rfl, rfl⟩ := hnil
  clear hA0 hval0 hV
  obtain ⟨n0, rfl, hn0⟩ := open_num Try.underlying26 (hval 0 26 v0 rfl rfl) h0
  obtain ⟨p, rfl, hp⟩ := nat_of_fit (by decide) hn0
  obtain ⟨n1, rfl, hn1⟩ := open_num Try.underlying26 (hval 1 26 v1 rfl rfl) h1
  obtain ⟨q, rfl, hq⟩ := nat_of_fit (by decide) hn1
  obtain ⟨n2, rfl, hn2⟩ := open_num Try.underlying26 (hval 2 26 v2 rfl rfl) h2
  obtain ⟨z, rfl, hz⟩ := nat_of_fit (by decide) hn2
  obtain ⟨n3, rfl, hn3⟩ := open_num Try.underlying38 (hval 3 38 v3 rfl rfl) h3
  obtain ⟨x, rfl, hx⟩ := nat_of_fit (by decide) hn3
  refine (c_laws_FnExactCoverLayers hp hq hz hx).2.mono fun e W2 ⟨he, hb⟩ => ?_
  subst he
  exact ⟨_, rfl, post_law laid_FnExactCoverLayers hW' rfl rfl Try.underlying4 (by kernel_rfl) rfl rfl rfl hb⟩

theorem FnExactCoverLayers_holds : Rows.FnExactCoverLayersSaid :=
  OpenClaim.holds_of_wide 8 Try.f8 rfl rfl rfl rfl rfl rfl rfl ⟨rfl, rfl, rfl, rfl, rfl⟩ rfl rfl rfl rfl rfl (by kernel_rfl) Try.func8 (by kernel_rfl)
    (of_decide_eq_true (by kernel_rfl)) (by unfold Func.isWrapper; first | (rw [if_pos (by decide +kernel)]; kernel_rfl) | (rw [if_neg (by decide +kernel)]; exact ⟨rfl, rfl⟩))
    (fun os started H enc _ => lifted_FnExactCoverLayers os started H enc)
end Go.Proofs.Ytajkjhjnbfcpfaa
