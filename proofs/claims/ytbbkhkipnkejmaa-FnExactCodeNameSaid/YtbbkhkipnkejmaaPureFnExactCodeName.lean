/- The program's CodeName returns what the reference's returns, for every number; no condition. -/
import Derived.Test.YtbbkhkipnkejmaaPFnExactCodeNamex1
namespace Go.Proofs.Ytbbkhkipnkejmaa.Pure
open Go.RowKit Go.Proofs.Ytbbkhkipnkejmaa.PFnExactCodeName Go.Proofs.YtbbkhkipnkejmaaW.PrintWords Go.Proofs.YtbbkhkipnkejmaaW.PrintLast
set_option linter.unusedVariables false
set_option linter.unusedSimpArgs false

theorem FnExactCodeName : laws_FnExactCodeName.Pure := by
  intro a0 _
  have w8 : wrap64 8 = 8 := by unfold wrap64; decide
  unfold laws_FnExactCodeName.f spec_CodeName.f impl_CodeName.f spec_l00In.f impl_within.f
  by_cases h0 : 0 ≤ a0
  · by_cases h8 : a0 ≤ 8
    · have h9 : a0 < 9 := by omega
      simp [h0, h8, h9, w8]
    · simp [h0, h8, w8]
  · simp [h0]

end Go.Proofs.Ytbbkhkipnkejmaa.Pure
