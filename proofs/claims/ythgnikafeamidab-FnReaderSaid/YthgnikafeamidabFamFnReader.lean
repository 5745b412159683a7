import Derived.Test.YthgnikafeamidabFFnReader
set_option linter.unusedVariables false
set_option linter.unusedSimpArgs false
namespace Go.Proofs.Ythgnikafeamidab.OmFnReader
open Go Go.OM

end Go.Proofs.Ythgnikafeamidab.OmFnReader
