import Derived.Test.YtllmifioelbleabFFnAcked
set_option linter.unusedVariables false
set_option linter.unusedSimpArgs false
namespace Go.Proofs.Ytllmifioelbleab.OmFnAcked
open Go Go.OM

end Go.Proofs.Ytllmifioelbleab.OmFnAcked
