/- Short words for the printed walks: what holds at a world holds at the same world some draws later, and closing steps that the walks use often. No conditions. -/
import Derived.Test.YtdkdhciogedoiabWMore
namespace Go.Proofs.YtdkdhciogedoiabW.Sq
open Go.RowKit Go.Proofs.YtdkdhciogedoiabW.PrintWords Go.Proofs.YtdkdhciogedoiabW.PrintLast Go.Proofs.YtdkdhciogedoiabW.PrintMore

theorem frz_at {w w' : World} {m : Nat} {a : Addr} {b : Bool} (hq : w.drewN m = w') (h : w.frozen? a = b) : w'.frozen? a = b := by subst hq; exact h
theorem cel_at {w w' : World} {m : Nat} {a : Addr} {v : Option Value} (hq : w.drewN m = w') (h : w.cell? a = v) : w'.cell? a = v := by subst hq; exact h

end Go.Proofs.YtdkdhciogedoiabW.Sq
