import Derived.Test.YthgnikafeamidabFFnTells
set_option linter.unusedVariables false
set_option linter.unusedSimpArgs false
namespace Go.Proofs.Ythgnikafeamidab.OmFnTells
open Go Go.OM

end Go.Proofs.Ythgnikafeamidab.OmFnTells
