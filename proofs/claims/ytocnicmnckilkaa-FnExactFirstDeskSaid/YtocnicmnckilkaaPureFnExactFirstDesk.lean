/- The law FnExactFirstDesk holds: the program's FirstDesk and the reference's return the same desk. No condition. -/
import Derived.Test.YtocnicmnckilkaaPFnExactFirstDeskx1
namespace Go.Proofs.Ytocnicmnckilkaa.Pure
open Go.RowKit Go.Proofs.Ytocnicmnckilkaa.PFnExactFirstDesk Go.Proofs.YtocnicmnckilkaaW.PrintWords Go.Proofs.YtocnicmnckilkaaW.PrintLast

theorem FnExactFirstDesk : laws_FnExactFirstDesk.Pure := by
  unfold laws_FnExactFirstDesk.Pure laws_FnExactFirstDesk.f spec_FirstDesk.f impl_FirstDesk.f laws_eqDesk.f
  simp

end Go.Proofs.Ytocnicmnckilkaa.Pure
