/- The run of the law: all its outcomes are true. Own text, no conditions. -/
import Derived.Test.YtipgjenjepooaaaDoorEb
import Derived.Test.YtipgjenjepooaaaDoorKH
import Derived.KernelRfl
namespace Go.Eng.Seat37d
set_option maxRecDepth 1000000
theorem known : allTrue ((handD G 40).p 3 []) = true := by kernel_rfl
end Go.Eng.Seat37d
