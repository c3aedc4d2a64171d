/- The plain law of FnExactKeyOf: for all arguments that fit the guards its printed function answers true. -/
import Derived.Test.YtkjchkdifknnbaaPFnExactKeyOfx
set_option linter.unusedVariables false
set_option linter.unusedSimpArgs false
namespace Go.Proofs.Ytkjchkdifknnbaa.Pure
open Go.RowKit Go.Proofs.Ytkjchkdifknnbaa.PFnExactKeyOf Go.Proofs.YtkjchkdifknnbaaW.PrintWords Go.Proofs.YtkjchkdifknnbaaW.PrintLast Go.Proofs.YtkjchkdifknnbaaW.PrintMore

theorem FnExactKeyOf : laws_FnExactKeyOf.Pure := by
  intro a0 a1 a2 a3 a4 a5 a6 _ _ _ _ _ _
  unfold laws_FnExactKeyOf.f laws_toRoute.f spec_KeyOf.f impl_KeyOf.f laws_eqRoute.f
  simp

end Go.Proofs.Ytkjchkdifknnbaa.Pure
