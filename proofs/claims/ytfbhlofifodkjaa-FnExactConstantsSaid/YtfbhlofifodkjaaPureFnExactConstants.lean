/- Every exported constant is the document's: the plain law behind FnExactConstants. No condition. -/
import Derived.Test.YtfbhlofifodkjaaFLawsFnExactConstants
namespace Go.Proofs.Ytfbhlofifodkjaa.Pure
open Go.RowKit Go.Proofs.Ytfbhlofifodkjaa.B
theorem FnExactConstants : laws_FnExactConstants.Pure := rfl
end Go.Proofs.Ytfbhlofifodkjaa.Pure
