/-
  Layers that have been shared fit; a share that is blamed can be repaired, and then all cells fit.
-/
import Derived.Test.YtabekcodjcbolaaGreatCZ4
import Derived.Test.YtabekcodjcbolaaGreatRow
import Derived.Test.YtabekcodjcbolaaGreatLays
import Derived.Test.YtabekcodjcbolaaGreatRows
import Derived.ProofKit
namespace Go.Proofs.YtabekcodjcbolaaGreat
open Go.ChangeShapes Go.WideShapes Go.ChangeAt Go.RowKit
set_option linter.unusedVariables false

theorem own_FnBlamed : ownKnob Tryz.prog.godebug = none := by kernel_rfl
theorem laid_FnBlamed : laidOutB Tryz.prog = true := by kernel_rfl
set_option maxRecDepth 100000 in
theorem lifted_FnBlamed (os : Os) (started : os.Started) (H : Type) (enc : TypeId × Value → H) :
    ReturnsInHanded {} Tryz.checked os 3 .any (Rows.fnBlamedSpec.pre6 enc Tryz.prog Tryz.f3 Rows.fnBlamedRow.domain false) (Rows.fnBlamedSpec.post enc Tryz.prog Tryz.f3 false true false false) := by
  refine returnsInHanded_of_change (C := Tryz.checked) own_FnBlamed started (by kernel_rfl) Tryz.func3
    (ChangeSpec.witness6 (enc := enc) (C := Tryz.checked) false ⟨#[], #[.slice none 0 0, .slice none 0 0], []⟩ 8 (by kernel_rfl) (by kernel_rfl) (by kernel_rfl) (by kernel_rfl)) ?_
  intro W base args ds gs before hval0 hW hcnd _
  have hval : ∀ (j : Nat) t v, Tryz.f3.params[j]? = some t → args[j]? = some v → Value.okWide Tryz.prog W .any base t v := hval0
  have hW' := hW
  obtain ⟨p, q, hA0, hV, rfl, hfz, hnd⟩ := hW
  have hA : DataW.TrodAll enc Tryz.prog W 0 (fun _ => true) true Tryz.f3.params.toList args.toList ds p := hA0
  obtain ⟨rfl, rfl⟩ := trodVars_none hV
  obtain ⟨args⟩ := args
  rw [Tryz.params3] at hA
  simp only at hA
  obtain ⟨v0, vs0, d0, ds0, p0, q0, rfl, rfl, e0, h0, hA1⟩ := trodAll_cons hA
  obtain ⟨v1, vs1, d1, ds1, p1, q1, rfl, rfl, e1, h1, hA2⟩ := trodAll_cons hA1
  have hnil : vs1 = [] ∧ ds1 = [] := by
    cases vs1 <;> cases ds1 <;> simp [DataW.TrodAll] at hA2 ⊢
  obtain ⟨rfl, rfl⟩ := hnil
  clear hA0 hval0 hV
  obtain ⟨A0, n0, cp0, G0, rfl, hn0, hG0, hR0⟩ := open_sl (e := 5) (ks := [.u8]) Tryz.underlying22 (by kernel_rfl) (by kernel_rfl) (by decide) (hval 0 22 v0 rfl rfl) h0
  obtain ⟨c0, hE0, hc0⟩ := arrU_of (k := .u8) (by decide) hG0
  rw [hE0] at hR0
  obtain ⟨A1, n1, cp1, G1, rfl, hn1, hG1, hR1⟩ := open_sl (e := 5) (ks := [.u8]) Tryz.underlying22 (by kernel_rfl) (by kernel_rfl) (by decide) (hval 1 22 v1 rfl rfl) h1
  obtain ⟨c1, hE1, hc1⟩ := arrU_of (k := .u8) (by decide) hG1
  rw [hE1] at hR1
  refine (c_laws_FnBlamed hn0 hR0 hc0 hn1 hR1 hc1).2.mono fun e W2 ⟨he, hb⟩ => ?_
  subst he
  exact ⟨_, rfl, post_law laid_FnBlamed hW' rfl rfl Tryz.underlying4 (by kernel_rfl) rfl rfl rfl hb⟩

theorem FnBlamed_holds : Rows.FnBlamedSaid :=
  OpenClaim.holds_of_wide 3 Tryz.f3 rfl rfl rfl rfl rfl rfl rfl ⟨rfl, rfl, rfl, rfl, rfl⟩ rfl rfl rfl rfl rfl (by kernel_rfl) Tryz.func3 (by kernel_rfl)
    (of_decide_eq_true (by kernel_rfl)) (by unfold Func.isWrapper; first | (rw [if_pos (by decide +kernel)]; kernel_rfl) | (rw [if_neg (by decide +kernel)]; exact ⟨rfl, rfl⟩))
    (fun os started H enc _ => lifted_FnBlamed os started H enc)
end Go.Proofs.YtabekcodjcbolaaGreat
