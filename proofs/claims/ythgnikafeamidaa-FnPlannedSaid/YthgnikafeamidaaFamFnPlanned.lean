import Derived.Test.YthgnikafeamidaaFFnPlanned
set_option linter.unusedVariables false
set_option linter.unusedSimpArgs false
namespace Go.Proofs.Ythgnikafeamidaa.OmFnPlanned
open Go Go.OM

end Go.Proofs.Ythgnikafeamidaa.OmFnPlanned
