/- A new reader is at epoch 1, offset 1, and has told nothing, for the program as for the reference; marking and asking an empty row answers the number 1 each time. No conditions. -/
import Derived.Test.YtepefeclpdnfmaaPFnExactReaderNewx2
namespace Go.Proofs.Ytepefeclpdnfmaa.Pure
open Go.RowKit Go.Proofs.Ytepefeclpdnfmaa.PFnExactReaderNew Go.Proofs.YtepefeclpdnfmaaW.PrintWords Go.Proofs.YtepefeclpdnfmaaW.PrintLast

theorem FnExactReaderNew : laws_FnExactReaderNew.Pure := by
  refine ⟨1, ?_⟩
  simp [laws_FnExactReaderNew.f, spec_ReaderNew.f, impl_ReaderNew.f, laws_eqReader.f, laws_eqEventS.f, laws_eqEventS.l0, laws_markReader.f, laws_markEventS.f, laws_markEventS.l0, laws_heldReader.f, laws_heldEventS.f, laws_heldEventS.l0]

end Go.Proofs.Ytepefeclpdnfmaa.Pure
