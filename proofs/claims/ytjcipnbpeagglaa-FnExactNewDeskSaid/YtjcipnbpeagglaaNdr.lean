/- The abstract code answers true. -/
import Derived.Test.YtjcipnbpeagglaaNdp
import Derived.KernelRfl
namespace Rv.Nd
set_option maxRecDepth 1000000
theorem ran : ((Prog.run A 500 109 [] Heap.empty).map (·.1)) = some (.bool true) := by kernel_rfl
end Rv.Nd
