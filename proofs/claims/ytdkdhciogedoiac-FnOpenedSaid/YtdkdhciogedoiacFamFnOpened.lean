import Derived.Test.YtdkdhciogedoiacFFnOpened
set_option linter.unusedVariables false
set_option linter.unusedSimpArgs false
namespace Go.Proofs.Ytdkdhciogedoiac.OmFnOpened
open Go Go.OM

end Go.Proofs.Ytdkdhciogedoiac.OmFnOpened
