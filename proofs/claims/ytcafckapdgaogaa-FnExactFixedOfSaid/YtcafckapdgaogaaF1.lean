/- A closed fact of this seat's translation. What stops a program is heard. -/
import Derived.Test.YtcafckapdgaogaaRows
import Derived.Test.YtcafckapdgaogaaChecked
import Derived.WalkKit
import Derived.JoinedOf
import Derived.KernelRfl
namespace Go.Proofs.Ytcafckapdgaogaa
theorem fact1 : Try.pinned.checked.prog.stopsHeard = true := by kernel_rfl
end Go.Proofs.Ytcafckapdgaogaa
