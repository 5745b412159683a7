import Derived.Test.YtllmifioelbleaaFFnReady
set_option linter.unusedVariables false
set_option linter.unusedSimpArgs false
namespace Go.Proofs.Ytllmifioelbleaa.OmFnReady
open Go Go.OM

end Go.Proofs.Ytllmifioelbleaa.OmFnReady
