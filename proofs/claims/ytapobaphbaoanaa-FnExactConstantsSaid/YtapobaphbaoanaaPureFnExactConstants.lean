/- The program's constants are the reference's. No condition. -/
import Derived.Test.YtapobaphbaoanaaPFnExactConstantsx1
namespace Go.Proofs.Ytapobaphbaoanaa.Pure
open Go.RowKit Go.Proofs.Ytapobaphbaoanaa.PFnExactConstants Go.Proofs.YtapobaphbaoanaaW.PrintWords Go.Proofs.YtapobaphbaoanaaW.PrintLast Go.Proofs.YtapobaphbaoanaaW.PrintMore
theorem FnExactConstants : laws_FnExactConstants.Pure := rfl

end Go.Proofs.Ytapobaphbaoanaa.Pure
