/- 'InterCopies': cases, run by the kernel. Conditions: none. -/
import Derived.Test.YtmbpiaaaeglhbaaGreatIk
namespace Go.Proofs.YtmbpiaaaeglhbaaGreat.InterCopies
open Go.Ex
set_option maxRecDepth 1000000
theorem n_true_true : yes 4 [.bool true, .bool true] = true := by kernel_rfl
theorem n_true_false : yes 4 [.bool true, .bool false] = true := by kernel_rfl
theorem n_false_true : yes 4 [.bool false, .bool true] = true := by kernel_rfl
theorem n_false_false : yes 4 [.bool false, .bool false] = true := by kernel_rfl
end Go.Proofs.YtmbpiaaaeglhbaaGreat.InterCopies
