import Derived.Test.YtllmifioelbleaaFFnForgotten
set_option linter.unusedVariables false
set_option linter.unusedSimpArgs false
namespace Go.Proofs.Ytllmifioelbleaa.OmFnForgotten
open Go Go.OM

end Go.Proofs.Ytllmifioelbleaa.OmFnForgotten
