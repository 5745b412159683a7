import Derived.Test.YthgnikafeamidaaFFnFilled
set_option linter.unusedVariables false
set_option linter.unusedSimpArgs false
namespace Go.Proofs.Ythgnikafeamidaa.OmFnFilled
open Go Go.OM

end Go.Proofs.Ythgnikafeamidaa.OmFnFilled
