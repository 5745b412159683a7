import Derived.Test.YtllmifioelbleaaFFnMendEntry
set_option linter.unusedVariables false
set_option linter.unusedSimpArgs false
namespace Go.Proofs.Ytllmifioelbleaa.OmFnMendEntry
open Go Go.OM

end Go.Proofs.Ytllmifioelbleaa.OmFnMendEntry
