/-
  Runs of the program's own functions, reckoned by the kernel.
-/
import Derived.Test.YtmafmfealhcloaaGreatDoorOuts
namespace Go.E
open Go Go.W Go.X
set_option maxRecDepth 100000
theorem run14Xu : RunsTo P 14 [.str [111, 110, 101, 32, 116, 119, 111, 10, 116, 104, 114, 101, 101], .str [120, 117]] (.tup [.str [111, 110, 101, 32, 116, 119, 111, 10, 116, 104, 114, 101, 101], .int .i64 0]) := runC_W xOk extT_ok noOrc_ok (k := 1000) (isV_eq (by kernel_rfl))
end Go.E

namespace Go.E
open Go Go.W Go.X
set_option maxRecDepth 100000
theorem run14Dot : RunsTo P 14 [.str [111, 110, 101, 32, 116, 119, 111, 10, 116, 104, 114, 101, 101], .str [65, 33, 27, 46]] (.tup [.str [111, 110, 101, 32, 116, 119, 111, 33, 33, 10, 116, 104, 114, 101, 101], .int .i64 8]) := runC_W xOk extT_ok noOrc_ok (k := 1000) (isV_eq (by kernel_rfl))
end Go.E

namespace Go.E
open Go Go.W Go.X
set_option maxRecDepth 100000
theorem run14Sub : RunsTo P 14 [.str [111, 110, 101, 32, 116, 119, 111, 10, 116, 104, 114, 101, 101], .str [58, 115, 47, 111, 47, 48, 47, 103, 13]] (.tup [.str [48, 110, 101, 32, 116, 119, 48, 10, 116, 104, 114, 101, 101], .int .i64 0]) := runC_W xOk extT_ok noOrc_ok (k := 1000) (isV_eq (by kernel_rfl))
end Go.E
