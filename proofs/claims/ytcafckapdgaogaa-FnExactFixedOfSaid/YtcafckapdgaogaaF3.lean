/- A closed fact of this seat's translation. What is lifted is as the row says. -/
import Derived.Test.YtcafckapdgaogaaRows
import Derived.Test.YtcafckapdgaogaaChecked
import Derived.WalkKit
import Derived.JoinedOf
import Derived.KernelRfl
namespace Go.Proofs.Ytcafckapdgaogaa
theorem fact3 : (Rows.fnExactFixedOfRow.lifted == Try.pinned.checked.prog.liftsFinal) = true := by kernel_rfl
end Go.Proofs.Ytcafckapdgaogaa
