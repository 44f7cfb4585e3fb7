/- The program's PoolSize and the reference's PoolSize give the same number for every text. Conditions: none. -/
import Derived.Test.YtbphhigmepdohaaPFnExactPoolSizex1
namespace Go.Proofs.Ytbphhigmepdohaa.Pure
open Go.RowKit Go.Proofs.Ytbphhigmepdohaa.PFnExactPoolSize Go.Proofs.YtbphhigmepdohaaW.PrintWords Go.Proofs.YtbphhigmepdohaaW.PrintLast

theorem FnExactPoolSize : laws_FnExactPoolSize.Pure := by
  intro a _
  unfold laws_FnExactPoolSize.f spec_PoolSize.f impl_PoolSize.f
  split
  · rfl
  · split
    · rfl
    · split
      · rfl
      · split <;> rfl

end Go.Proofs.Ytbphhigmepdohaa.Pure
