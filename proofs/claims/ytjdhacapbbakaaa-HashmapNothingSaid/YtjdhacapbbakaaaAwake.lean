/- The examples of awake hold in the ghost semantics: a closed reckoning by the kernel; no condition. -/
import Derived.Test.YtjdhacapbbakaaaProg
import Derived.Test.YtjdhacapbbakaaaGd
import Derived.KernelRfl
namespace Go.Proofs.Ytjdhacapbbakaaa
open Gh
set_option maxRecDepth 100000
theorem awakeTells : tells (gcallC Try.prog gl0 (joinPrim 57) 200 20 10 [] []) = true := by kernel_rfl
end Go.Proofs.Ytjdhacapbbakaaa
