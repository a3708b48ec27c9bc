/- A closed fact of this seat's translation. How it was made is as the row says. -/
import Derived.Test.YtcafckapdgaogaaRows
import Derived.Test.YtcafckapdgaogaaChecked
import Derived.WalkKit
import Derived.JoinedOf
import Derived.KernelRfl
namespace Go.Proofs.Ytcafckapdgaogaa
theorem fact4 : (Try.pinned.checked.prog.make == some Rows.fnExactFixedOfRow.make) = true := by kernel_rfl
end Go.Proofs.Ytcafckapdgaogaa
