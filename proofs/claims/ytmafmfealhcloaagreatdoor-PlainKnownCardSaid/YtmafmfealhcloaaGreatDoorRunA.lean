/-
  Runs of the program's own functions, reckoned by the kernel.
-/
import Derived.Test.YtmafmfealhcloaaGreatDoorOuts
namespace Go.E
open Go Go.W Go.X
set_option maxRecDepth 100000
theorem run13 : RunsTo P 13 [] (.bool true) := runC_W xOk extT_ok noOrc_ok (k := 1000) (isV_eq (by kernel_rfl))
end Go.E
