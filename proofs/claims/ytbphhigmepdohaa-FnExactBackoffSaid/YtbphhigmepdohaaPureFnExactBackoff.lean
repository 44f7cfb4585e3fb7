/- The program's Backoff and the reference's Backoff give the same number. Conditions: none. -/
import Derived.Test.YtbphhigmepdohaaPFnExactBackoffx1
namespace Go.Proofs.Ytbphhigmepdohaa.Pure
open Go.RowKit Go.Proofs.Ytbphhigmepdohaa.PFnExactBackoff Go.Proofs.YtbphhigmepdohaaW.PrintWords Go.Proofs.YtbphhigmepdohaaW.PrintLast

theorem FnExactBackoff : laws_FnExactBackoff.Pure := by
  intro a _
  unfold laws_FnExactBackoff.f spec_Backoff.f impl_Backoff.f
  split
  · rfl
  · split
    · rfl
    · split <;> rfl

end Go.Proofs.Ytbphhigmepdohaa.Pure
