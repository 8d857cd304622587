/- The law FnExactFirstDesk as a statement over numbers and lists: evaluated. -/
import Derived.Test.YtcibbpfooajbbaaPFnExactFirstDeskx1
namespace Go.Proofs.Ytcibbpfooajbbaa.Pure
open Go.RowKit Go.Proofs.Ytcibbpfooajbbaa.PFnExactFirstDesk Go.Proofs.YtcibbpfooajbbaaW.PrintWords Go.Proofs.YtcibbpfooajbbaaW.PrintLast

theorem FnExactFirstDesk : laws_FnExactFirstDesk.Pure := ⟨20, by decide +kernel⟩

end Go.Proofs.Ytcibbpfooajbbaa.Pure
