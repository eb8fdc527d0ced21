/-
  Runs of the program's own functions, reckoned by the kernel.
-/
import Derived.Test.YtmafmfealhcloaaGreatDoorOuts
namespace Go.E
open Go Go.W Go.X
set_option maxRecDepth 100000
theorem run14Wdw : RunsTo P 14 [.str [111, 110, 101, 32, 116, 119, 111, 10, 116, 104, 114, 101, 101], .str [119, 100, 119]] (.tup [.str [111, 110, 101, 32, 10, 116, 104, 114, 101, 101], .int .i64 3]) := runC_W xOk extT_ok noOrc_ok (k := 1000) (isV_eq (by kernel_rfl))
end Go.E

namespace Go.E
open Go Go.W Go.X
set_option maxRecDepth 100000
theorem run14Dd : RunsTo P 14 [.str [111, 110, 101, 32, 116, 119, 111, 10, 116, 104, 114, 101, 101], .str [100, 100]] (.tup [.str [116, 104, 114, 101, 101], .int .i64 0]) := runC_W xOk extT_ok noOrc_ok (k := 1000) (isV_eq (by kernel_rfl))
end Go.E

namespace Go.E
open Go Go.W Go.X
set_option maxRecDepth 100000
theorem run14Yyp : RunsTo P 14 [.str [111, 110, 101, 32, 116, 119, 111, 10, 116, 104, 114, 101, 101], .str [121, 121, 112]] (.tup [.str [111, 110, 101, 32, 116, 119, 111, 10, 111, 110, 101, 32, 116, 119, 111, 10, 116, 104, 114, 101, 101], .int .i64 8]) := runC_W xOk extT_ok noOrc_ok (k := 1000) (isV_eq (by kernel_rfl))
end Go.E
