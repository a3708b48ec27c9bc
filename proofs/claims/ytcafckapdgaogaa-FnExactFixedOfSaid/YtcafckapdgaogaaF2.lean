/- A closed fact of this seat's translation. The translation may be entered. -/
import Derived.Test.YtcafckapdgaogaaRows
import Derived.Test.YtcafckapdgaogaaChecked
import Derived.WalkKit
import Derived.JoinedOf
import Derived.KernelRfl
namespace Go.Proofs.Ytcafckapdgaogaa
theorem fact2 : Try.pinned.checked.prog.mayEnter = true := by kernel_rfl
end Go.Proofs.Ytcafckapdgaogaa
