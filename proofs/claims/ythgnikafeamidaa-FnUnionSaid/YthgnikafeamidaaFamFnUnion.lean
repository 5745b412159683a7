import Derived.Test.YthgnikafeamidaaFFnUnion
set_option linter.unusedVariables false
set_option linter.unusedSimpArgs false
namespace Go.Proofs.Ythgnikafeamidaa.OmFnUnion
open Go Go.OM

end Go.Proofs.Ythgnikafeamidaa.OmFnUnion
