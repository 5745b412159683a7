import Derived.Test.YtdkdhciogedoiacFFnTrimmed
set_option linter.unusedVariables false
set_option linter.unusedSimpArgs false
namespace Go.Proofs.Ytdkdhciogedoiac.OmFnTrimmed
open Go Go.OM

end Go.Proofs.Ytdkdhciogedoiac.OmFnTrimmed
