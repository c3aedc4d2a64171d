/- The plain law of FnExactIsGroup: for all arguments that fit the guards its printed function answers true. -/
import Derived.Test.YtkjchkdifknnbaaPFnExactIsGroupx
set_option linter.unusedVariables false
set_option linter.unusedSimpArgs false
namespace Go.Proofs.Ytkjchkdifknnbaa.Pure
open Go.RowKit Go.Proofs.Ytkjchkdifknnbaa.PFnExactIsGroup Go.Proofs.YtkjchkdifknnbaaW.PrintWords Go.Proofs.YtkjchkdifknnbaaW.PrintLast Go.Proofs.YtkjchkdifknnbaaW.PrintMore

theorem s_is (a b c : Int) : spec_l02Is.f a b c = some (decide (b ≤ a ∧ a ≤ c)) := by
  unfold spec_l02Is.f; by_cases h : a ≥ b
  · rw [if_pos h]; by_cases h2 : a ≤ c <;> simp [h, h2]
  · rw [if_neg h]; congr 1; symm; apply decide_eq_false; omega
theorem i_in (a b c : Int) : impl_in.f a b c = some (decide (b ≤ a ∧ a ≤ c)) := by
  unfold impl_in.f; by_cases h : b ≤ a
  · rw [if_pos h]; by_cases h2 : a ≤ c <;> simp [h, h2]
  · rw [if_neg h]; congr 1; symm; apply decide_eq_false; omega

theorem FnExactIsGroup : laws_FnExactIsGroup.Pure := by
  intro a _
  unfold laws_FnExactIsGroup.f spec_IsGroup.f impl_IsGroup.f spec_l02Mac.f impl_isMac.f
  simp only [s_is, i_in, Option.bind_some]
  by_cases h : 0 ≤ a ∧ a ≤ 281474976710655 <;> simp [h]

end Go.Proofs.Ytkjchkdifknnbaa.Pure
