import Derived.Test.YtllmifioelbleaaFFnClosed
set_option linter.unusedVariables false
set_option linter.unusedSimpArgs false
namespace Go.Proofs.Ytllmifioelbleaa.OmFnClosed
open Go Go.OM

end Go.Proofs.Ytllmifioelbleaa.OmFnClosed
