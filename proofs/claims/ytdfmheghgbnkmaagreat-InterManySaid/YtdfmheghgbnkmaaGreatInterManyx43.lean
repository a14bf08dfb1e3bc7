/- What the law leans on: an executor of the model that is sound, deduction over it, and the walks through the code (part 43 of 43). Conditions: those that each theorem states. -/
import Derived.Test.YtdfmheghgbnkmaaGreatInterManyx3
import Derived.Test.YtdfmheghgbnkmaaGreatInterManyx4
import Derived.Test.YtdfmheghgbnkmaaGreatInterManyx5
import Derived.Test.YtdfmheghgbnkmaaGreatInterManyx6
import Derived.Test.YtdfmheghgbnkmaaGreatInterManyx7
import Derived.Test.YtdfmheghgbnkmaaGreatInterManyx8
import Derived.Test.YtdfmheghgbnkmaaGreatInterManyx9
import Derived.Test.YtdfmheghgbnkmaaGreatInterManyx10
import Derived.Test.YtdfmheghgbnkmaaGreatInterManyx11
import Derived.Test.YtdfmheghgbnkmaaGreatInterManyx12
import Derived.Test.YtdfmheghgbnkmaaGreatInterManyx13
import Derived.Test.YtdfmheghgbnkmaaGreatInterManyx14
import Derived.Test.YtdfmheghgbnkmaaGreatInterManyx15
import Derived.Test.YtdfmheghgbnkmaaGreatInterManyx16
import Derived.Test.YtdfmheghgbnkmaaGreatInterManyx17
import Derived.Test.YtdfmheghgbnkmaaGreatInterManyx18
import Derived.Test.YtdfmheghgbnkmaaGreatInterManyx19
import Derived.Test.YtdfmheghgbnkmaaGreatInterManyx20
import Derived.Test.YtdfmheghgbnkmaaGreatInterManyx21
import Derived.Test.YtdfmheghgbnkmaaGreatInterManyx22
import Derived.Test.YtdfmheghgbnkmaaGreatInterManyx23
import Derived.Test.YtdfmheghgbnkmaaGreatInterManyx24
import Derived.Test.YtdfmheghgbnkmaaGreatInterManyx25
import Derived.Test.YtdfmheghgbnkmaaGreatInterManyx26
import Derived.Test.YtdfmheghgbnkmaaGreatInterManyx27
import Derived.Test.YtdfmheghgbnkmaaGreatInterManyx28
import Derived.Test.YtdfmheghgbnkmaaGreatInterManyx29
import Derived.Test.YtdfmheghgbnkmaaGreatInterManyx30
import Derived.Test.YtdfmheghgbnkmaaGreatInterManyx31
import Derived.Test.YtdfmheghgbnkmaaGreatInterManyx32
import Derived.Test.YtdfmheghgbnkmaaGreatInterManyx33
import Derived.Test.YtdfmheghgbnkmaaGreatInterManyx34
import Derived.Test.YtdfmheghgbnkmaaGreatInterManyx35
import Derived.Test.YtdfmheghgbnkmaaGreatInterManyx36
import Derived.Test.YtdfmheghgbnkmaaGreatInterManyx37
import Derived.Test.YtdfmheghgbnkmaaGreatInterManyx38
import Derived.Test.YtdfmheghgbnkmaaGreatInterManyx39
import Derived.Test.YtdfmheghgbnkmaaGreatInterManyx40
import Derived.Test.YtdfmheghgbnkmaaGreatInterManyx41
import Derived.Test.YtdfmheghgbnkmaaGreatInterManyx42

set_option linter.unusedVariables false
set_option linter.unusedSimpArgs false
namespace Go.Proofs.YtdfmheghgbnkmaaGreat
open Go.Ex Go.Ex.Im Go.RowKit
set_option maxRecDepth 1000000
theorem m_lo(m:Nat):yes 1 3 [.int .i64 (.negSucc m)]=true:=by kernel_rfl
theorem m_0:yes 1 3 [.int .i64 (.ofNat 0)]=true:=by kernel_rfl
theorem m_hi(m:Nat):yes 1 3 [.int .i64 (.ofNat (m+41))]=true:=by kernel_rfl
end Go.Proofs.YtdfmheghgbnkmaaGreat
