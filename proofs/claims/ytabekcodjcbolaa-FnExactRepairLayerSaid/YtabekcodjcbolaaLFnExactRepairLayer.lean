/-
  The layer that the program repairs is the one that the reference repairs.
-/
import Derived.Test.YtabekcodjcbolaaCG5
import Derived.Test.YtabekcodjcbolaaRow
import Derived.Test.YtabekcodjcbolaaLays
import Derived.Test.YtabekcodjcbolaaRows
import Derived.ProofKit
namespace Go.Proofs.Ytabekcodjcbolaa
open Go.ChangeShapes Go.WideShapes Go.ChangeAt Go.RowKit
set_option linter.unusedVariables false

theorem own_FnExactRepairLayer : ownKnob Try.prog.godebug = none := by kernel_rfl
theorem laid_FnExactRepairLayer : laidOutB Try.prog = true := by kernel_rfl
set_option maxRecDepth 100000 in
theorem lifted_FnExactRepairLayer (os : Os) (started : os.Started) (H : Type) (enc : TypeId × Value → H) :
    ReturnsInHanded {} Try.checked os 6 .any (Rows.fnExactRepairLayerSpec.pre6 enc Try.prog Try.f6 Rows.fnExactRepairLayerRow.domain false) (Rows.fnExactRepairLayerSpec.post enc Try.prog Try.f6 false true false false) := by
  refine returnsInHanded_of_change (C := Try.checked) own_FnExactRepairLayer started (by kernel_rfl) Try.func6
    (ChangeSpec.witness6 (enc := enc) (C := Try.checked) false ⟨#[], #[.agg #[.int .i8 0, .int .i8 0, .int .u8 0, .int .u8 0, .int .u8 0, .int .u8 0, .int .u8 0, .int .u8 0, .int .u8 0, .int .u8 0, .int .u8 0, .int .u8 0, .int .u8 0, .int .u8 0], .int .u64 0, .slice none 0 0, .int .i64 0], []⟩ 8 (by kernel_rfl) (by kernel_rfl) (by kernel_rfl) (by kernel_rfl)) ?_
  intro W base args ds gs before hval0 hW hcnd _
  have hval : ∀ (j : Nat) t v, Try.f6.params[j]? = some t → args[j]? = some v → Value.okWide Try.prog W .any base t v := hval0
  have hW' := hW
  obtain ⟨p, q, hA0, hV, rfl, hfz, hnd⟩ := hW
  have hA : DataW.TrodAll enc Try.prog W 0 (fun _ => true) true Try.f6.params.toList args.toList ds p := hA0
  obtain ⟨rfl, rfl⟩ := trodVars_none hV
  obtain ⟨args⟩ := args
  rw [Try.params6] at hA
  simp only at hA
  obtain ⟨v0, vs0, d0, ds0, p0, q0, rfl, rfl, e0, h0, hA1⟩ := trodAll_cons hA
  obtain ⟨v1, vs1, d1, ds1, p1, q1, rfl, rfl, e1, h1, hA2⟩ := trodAll_cons hA1
  obtain ⟨v2, vs2, d2, ds2, p2, q2, rfl, rfl, e2, h2, hA3⟩ := trodAll_cons hA2
  obtain ⟨v3, vs3, d3, ds3, p3, q3, rfl, rfl, e3, h3, hA4⟩ := trodAll_cons hA3
  have hnil : vs3 = [] ∧ ds3 = [] := by
    cases vs3 <;> cases ds3 <;> simp [DataW.TrodAll] at hA4 ⊢
  obtain ⟨rfl, rfl⟩ := hnil
  clear hA0 hval0 hV
  obtain ⟨cs0, rfl, hf0⟩ := open_flat (ks := .i8 :: .i8 :: (List.replicate 6 .u8 ++ List.replicate 6 .u8)) (by kernel_rfl) (by kernel_rfl) (by kernel_rfl) (hval 0 25 v0 rfl rfl) h0
  obtain ⟨s, p, a, b, rfl, hs, hp, ha, hb⟩ := hf0.sch
  obtain ⟨n1, rfl, hn1⟩ := open_num Try.underlying26 (hval 1 26 v1 rfl rfl) h1
  obtain ⟨x, rfl, hx⟩ := nat_of_fit (by decide) hn1
  obtain ⟨A, n, cp, G2, rfl, hn, hG2, hRL⟩ := open_sl (e := 64) (ks := .i8 :: List.replicate 64 .u8) Try.underlying27 (by kernel_rfl) (by kernel_rfl) (by decide) (hval 2 27 v2 rfl rfl) h2
  obtain ⟨y, c, hE2, hg, hc⟩ := layS_of hG2
  rw [hE2] at hRL
  obtain ⟨z, rfl, hn3⟩ := open_num Try.underlying2 (hval 3 2 v3 rfl rfl) h3
  refine (c_laws_FnExactRepairLayer hs hp ha hb hx hRL hg hc hn).2.mono fun e W2 ⟨he, hb⟩ => ?_
  subst he
  exact ⟨_, rfl, post_law laid_FnExactRepairLayer hW' rfl rfl Try.underlying4 (by kernel_rfl) rfl rfl rfl hb⟩

theorem FnExactRepairLayer_holds : Rows.FnExactRepairLayerSaid :=
  OpenClaim.holds_of_wide 6 Try.f6 rfl rfl rfl rfl rfl rfl rfl ⟨rfl, rfl, rfl, rfl, rfl⟩ rfl rfl rfl rfl rfl (by kernel_rfl) Try.func6 (by kernel_rfl)
    (of_decide_eq_true (by kernel_rfl)) (by unfold Func.isWrapper; first | (rw [if_pos (by decide +kernel)]; kernel_rfl) | (rw [if_neg (by decide +kernel)]; exact ⟨rfl, rfl⟩))
    (fun os started H enc _ => lifted_FnExactRepairLayer os started H enc)
end Go.Proofs.Ytabekcodjcbolaa
