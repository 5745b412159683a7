/- Short words for the printed walks: what holds at a world holds at the same world some draws later, and closing steps that the walks use often. No conditions. -/
import Derived.Test.YtdkdhciogedoiaaWMore
namespace Go.Proofs.YtdkdhciogedoiaaW.Sq
open Go.RowKit Go.Proofs.YtdkdhciogedoiaaW.PrintWords Go.Proofs.YtdkdhciogedoiaaW.PrintLast Go.Proofs.YtdkdhciogedoiaaW.PrintMore

theorem frz_at {w w' : World} {m : Nat} {a : Addr} {b : Bool} (hq : w.drewN m = w') (h : w.frozen? a = b) : w'.frozen? a = b := by subst hq; exact h
theorem cel_at {w w' : World} {m : Nat} {a : Addr} {v : Option Value} (hq : w.drewN m = w') (h : w.cell? a = v) : w'.cell? a = v := by subst hq; exact h

end Go.Proofs.YtdkdhciogedoiaaW.Sq
