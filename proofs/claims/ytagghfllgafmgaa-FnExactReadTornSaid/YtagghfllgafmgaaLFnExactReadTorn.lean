/-
  The picture that the program reads from torn layers is the one that the reference reads.
-/
import Derived.Test.YtagghfllgafmgaaCR3
import Derived.Test.YtagghfllgafmgaaRow
import Derived.Test.YtagghfllgafmgaaLays
import Derived.Test.YtagghfllgafmgaaRows
import Derived.ProofKit
namespace Go.Proofs.Ytagghfllgafmgaa
open Go.ChangeShapes Go.WideShapes Go.ChangeAt Go.RowKit
set_option linter.unusedVariables false

theorem own_FnExactReadTorn : ownKnob Try.prog.godebug = none := by kernel_rfl
theorem laid_FnExactReadTorn : laidOutB Try.prog = true := by kernel_rfl
set_option maxRecDepth 100000 in
theorem lifted_FnExactReadTorn (os : Os) (started : os.Started) (H : Type) (enc : TypeId × Value → H) :
    ReturnsInHanded {} Try.checked os 7 .any (Rows.fnExactReadTornSpec.pre6 enc Try.prog Try.f7 Rows.fnExactReadTornRow.domain false) (Rows.fnExactReadTornSpec.post enc Try.prog Try.f7 false true false false) := by
  refine returnsInHanded_of_change (C := Try.checked) own_FnExactReadTorn started (by kernel_rfl) Try.func7
    (ChangeSpec.witness6 (enc := enc) (C := Try.checked) false ⟨#[], #[.agg #[.int .i8 0, .int .i8 0, .int .u8 0, .int .u8 0, .int .u8 0, .int .u8 0, .int .u8 0, .int .u8 0, .int .u8 0, .int .u8 0, .int .u8 0, .int .u8 0, .int .u8 0, .int .u8 0], .slice none 0 0, .int .u8 0, .slice none 0 0], []⟩ 8 (by kernel_rfl) (by kernel_rfl) (by kernel_rfl) (by kernel_rfl)) ?_
  intro W base args ds gs before hval0 hW hcnd _
  have hval : ∀ (j : Nat) t v, Try.f7.params[j]? = some t → args[j]? = some v → Value.okWide Try.prog W .any base t v := hval0
  have hW' := hW
  obtain ⟨p, q, hA0, hV, rfl, hfz, hnd⟩ := hW
  have hA : DataW.TrodAll enc Try.prog W 0 (fun _ => true) true Try.f7.params.toList args.toList ds p := hA0
  obtain ⟨rfl, rfl⟩ := trodVars_none hV
  obtain ⟨args⟩ := args
  rw [Try.params7] at hA
  simp only at hA
  obtain ⟨v0, vs0, d0, ds0, p0, q0, rfl, rfl, e0, h0, hA1⟩ := trodAll_cons hA
  obtain ⟨v1, vs1, d1, ds1, p1, q1, rfl, rfl, e1, h1, hA2⟩ := trodAll_cons hA1
  obtain ⟨v2, vs2, d2, ds2, p2, q2, rfl, rfl, e2, h2, hA3⟩ := trodAll_cons hA2
  obtain ⟨v3, vs3, d3, ds3, p3, q3, rfl, rfl, e3, h3, hA4⟩ := trodAll_cons hA3
  have hnil : vs3 = [] ∧ ds3 = [] := by
    cases vs3 <;> cases ds3 <;> simp [DataW.TrodAll] at hA4 ⊢
  obtain ⟨rfl, rfl⟩ := hnil
  clear hA0 hval0 hV
  obtain ⟨cs0, rfl, hf0⟩ := open_flat (ks := .i8 :: .i8 :: (List.replicate 6 .u8 ++ List.replicate 6 .u8)) (by kernel_rfl) (by kernel_rfl) (by kernel_rfl) (hval 0 58 v0 rfl rfl) h0
  obtain ⟨s, p, a, b, rfl, hs, hp, ha, hb⟩ := hf0.sch
  obtain ⟨A, n, cp, G1, rfl, hn, hG1, hRL⟩ := open_sl (e := 25) (ks := .i8 :: List.replicate 64 .u8) Try.underlying32 (by kernel_rfl) (by kernel_rfl) (by decide) (hval 1 32 v1 rfl rfl) h1
  obtain ⟨y, c, hE1, hg, hc⟩ := layS_of hG1
  rw [hE1] at hRL
  obtain ⟨n2, rfl, hn2⟩ := open_num Try.underlying5 (hval 2 5 v2 rfl rfl) h2
  obtain ⟨x, rfl, hx⟩ := nat_of_fit (by decide) hn2
  obtain ⟨B, m, cq, G3, rfl, hm1, hG3, hB⟩ := open_sl (e := 51) (ks := [.u64]) Try.underlying59 (by kernel_rfl) (by kernel_rfl) (by decide) (hval 3 59 v3 rfl rfl) h3
  obtain ⟨e, hE3, he⟩ := arrU_of (k := .u64) (by decide) hG3
  rw [hE3] at hB
  refine (c_laws_FnExactReadTorn hs hp ha hb hRL hg hc hn hx hB he hm1).2.mono fun e W2 ⟨he, hb⟩ => ?_
  subst he
  exact ⟨_, rfl, post_law laid_FnExactReadTorn hW' rfl rfl Try.underlying4 (by kernel_rfl) rfl rfl rfl hb⟩

theorem FnExactReadTorn_holds : Rows.FnExactReadTornSaid :=
  OpenClaim.holds_of_wide 7 Try.f7 rfl rfl rfl rfl rfl rfl rfl ⟨rfl, rfl, rfl, rfl, rfl⟩ rfl rfl rfl rfl rfl (by kernel_rfl) Try.func7 (by kernel_rfl)
    (of_decide_eq_true (by kernel_rfl)) (by unfold Func.isWrapper; first | (rw [if_pos (by decide +kernel)]; kernel_rfl) | (rw [if_neg (by decide +kernel)]; exact ⟨rfl, rfl⟩))
    (fun os started H enc _ => lifted_FnExactReadTorn os started H enc)
end Go.Proofs.Ytagghfllgafmgaa
