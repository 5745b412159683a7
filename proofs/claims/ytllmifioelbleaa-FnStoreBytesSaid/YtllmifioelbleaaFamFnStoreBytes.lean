import Derived.Test.YtllmifioelbleaaFFnStoreBytes
set_option linter.unusedVariables false
set_option linter.unusedSimpArgs false
namespace Go.Proofs.Ytllmifioelbleaa.OmFnStoreBytes
open Go Go.OM

end Go.Proofs.Ytllmifioelbleaa.OmFnStoreBytes
