import Derived.Test.YthgnikafeamidabFFnMendAck
set_option linter.unusedVariables false
set_option linter.unusedSimpArgs false
namespace Go.Proofs.Ythgnikafeamidab.OmFnMendAck
open Go Go.OM

end Go.Proofs.Ythgnikafeamidab.OmFnMendAck
