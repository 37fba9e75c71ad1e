/-
  The layers of colours that the program draws are those that the reference draws.
-/
import Derived.Test.YtajkjhjnbfcpfaaCW7
import Derived.Test.YtajkjhjnbfcpfaaRow
import Derived.Test.YtajkjhjnbfcpfaaRows
import Derived.ProofKit
namespace Go.Proofs.Ytajkjhjnbfcpfaa
open Go.ChangeShapes Go.WideShapes Go.ChangeAt Go.RowKit
set_option linter.unusedVariables false

theorem own_FnExactColourLayers : ownKnob Try.prog.godebug = none := by kernel_rfl
theorem laid_FnExactColourLayers : laidOutB Try.prog = true := by kernel_rfl
set_option maxRecDepth 100000 in
theorem lifted_FnExactColourLayers (os : Os) (started : os.Started) (H : Type) (enc : TypeId × Value → H) :
    ReturnsInHanded {} Try.checked os 10 .any (Rows.fnExactColourLayersSpec.pre6 enc Try.prog Try.f10 Rows.fnExactColourLayersRow.domain false) (Rows.fnExactColourLayersSpec.post enc Try.prog Try.f10 false true false false) := by
  refine returnsInHanded_of_change (C := Try.checked) own_FnExactColourLayers started (by kernel_rfl) Try.func10
    (ChangeSpec.witness6 (enc := enc) (C := Try.checked) false ⟨#[], #[.agg #[.int .u64 0, .int .u64 0, .int .u64 0], .int .u32 0], []⟩ 8 (by kernel_rfl) (by kernel_rfl) (by kernel_rfl) (by kernel_rfl)) ?_
  intro W base args ds gs before hval0 hW hcnd _
  have hval : ∀ (j : Nat) t v, Try.f10.params[j]? = some t → args[j]? = some v → Value.okWide Try.prog W .any base t v := hval0
  have hW' := hW
  obtain ⟨p, q, hA0, hV, rfl, hfz, hnd⟩ := hW
  have hA : DataW.TrodAll enc Try.prog W 0 (fun _ => true) true Try.f10.params.toList args.toList ds p := hA0
  obtain ⟨rfl, rfl⟩ := trodVars_none hV
  obtain ⟨args⟩ := args
  rw [Try.params10] at hA
  simp only at hA
  obtain ⟨v0, vs0, d0, ds0, p0, q0, rfl, rfl, e0, h0, hA1⟩ := trodAll_cons hA
  obtain ⟨v1, vs1, d1, ds1, p1, q1, rfl, rfl, e1, h1, hA2⟩ := trodAll_cons hA1
  have hnil : vs1 = [] ∧ ds1 = [] := by
    cases vs1 <;> cases ds1 <;> simp [DataW.TrodAll] at hA2 ⊢
  obtain ⟨rfl, rfl⟩ := hnil
  clear hA0 hval0 hV
  obtain ⟨cs0, rfl, hf0⟩ := open_flat (ks := List.replicate 3 .u64) (by kernel_rfl) (by kernel_rfl) (by kernel_rfl) (hval 0 51 v0 rfl rfl) h0
  obtain ⟨P, rfl, hP⟩ := Flat.arrU (by decide) hf0
  obtain ⟨n1, rfl, hn1⟩ := open_num Try.underlying38 (hval 1 38 v1 rfl rfl) h1
  obtain ⟨x, rfl, hx⟩ := nat_of_fit (by decide) hn1
  refine (c_laws_FnExactColourLayers hP hx).2.mono fun e W2 ⟨he, hb⟩ => ?_
  subst he
  exact ⟨_, rfl, post_law laid_FnExactColourLayers hW' rfl rfl Try.underlying4 (by kernel_rfl) rfl rfl rfl hb⟩

theorem FnExactColourLayers_holds : Rows.FnExactColourLayersSaid :=
  OpenClaim.holds_of_wide 10 Try.f10 rfl rfl rfl rfl rfl rfl rfl ⟨rfl, rfl, rfl, rfl, rfl⟩ rfl rfl rfl rfl rfl (by kernel_rfl) Try.func10 (by kernel_rfl)
    (of_decide_eq_true (by kernel_rfl)) (by unfold Func.isWrapper; first | (rw [if_pos (by decide +kernel)]; kernel_rfl) | (rw [if_neg (by decide +kernel)]; exact ⟨rfl, rfl⟩))
    (fun os started H enc _ => lifted_FnExactColourLayers os started H enc)
end Go.Proofs.Ytajkjhjnbfcpfaa
