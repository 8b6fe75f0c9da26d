/- The program's constants are what the reference's are: no condition. -/
import Derived.Test.YtkmncnkohkfkoaaPaxlawsFnExactConstants
namespace Go.Proofs.Ytkmncnkohkfkoaa.Pure
open Go.Proofs.Ytkmncnkohkfkoaa.Pa
theorem FnExactConstants : laws_FnExactConstants.Pure := rfl
end Go.Proofs.Ytkmncnkohkfkoaa.Pure
