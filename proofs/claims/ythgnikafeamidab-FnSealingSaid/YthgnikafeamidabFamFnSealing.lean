import Derived.Test.YthgnikafeamidabFFnSealing
set_option linter.unusedVariables false
set_option linter.unusedSimpArgs false
namespace Go.Proofs.Ythgnikafeamidab.OmFnSealing
open Go Go.OM

end Go.Proofs.Ythgnikafeamidab.OmFnSealing
