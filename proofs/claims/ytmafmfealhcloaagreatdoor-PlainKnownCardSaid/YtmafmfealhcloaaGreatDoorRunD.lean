/-
  Runs of the program's own functions, reckoned by the kernel.
-/
import Derived.Test.YtmafmfealhcloaaGreatDoorRunA
import Derived.Test.YtmafmfealhcloaaGreatDoorRunB
import Derived.Test.YtmafmfealhcloaaGreatDoorRunC
namespace Go.E
open Go Go.W Go.X
set_option maxRecDepth 100000
noncomputable def known3 : Known := [(13, [], .bool true), (14, [.str [111, 110, 101, 32, 116, 119, 111, 10, 116, 104, 114, 101, 101], .str [119, 100, 119]], .tup [.str [111, 110, 101, 32, 10, 116, 104, 114, 101, 101], .int .i64 3]), (14, [.str [111, 110, 101, 32, 116, 119, 111, 10, 116, 104, 114, 101, 101], .str [100, 100]], .tup [.str [116, 104, 114, 101, 101], .int .i64 0]), (14, [.str [111, 110, 101, 32, 116, 119, 111, 10, 116, 104, 114, 101, 101], .str [121, 121, 112]], .tup [.str [111, 110, 101, 32, 116, 119, 111, 10, 111, 110, 101, 32, 116, 119, 111, 10, 116, 104, 114, 101, 101], .int .i64 8]), (14, [.str [111, 110, 101, 32, 116, 119, 111, 10, 116, 104, 114, 101, 101], .str [120, 117]], .tup [.str [111, 110, 101, 32, 116, 119, 111, 10, 116, 104, 114, 101, 101], .int .i64 0]), (14, [.str [111, 110, 101, 32, 116, 119, 111, 10, 116, 104, 114, 101, 101], .str [65, 33, 27, 46]], .tup [.str [111, 110, 101, 32, 116, 119, 111, 33, 33, 10, 116, 104, 114, 101, 101], .int .i64 8]), (14, [.str [111, 110, 101, 32, 116, 119, 111, 10, 116, 104, 114, 101, 101], .str [58, 115, 47, 111, 47, 48, 47, 103, 13]], .tup [.str [48, 110, 101, 32, 116, 119, 48, 10, 116, 104, 114, 101, 101], .int .i64 0])]
theorem known3_ok : ∀ p ∈ known3, RunsTo P p.1 p.2.1 p.2.2 := by
  intro p hp
  simp only [known3, List.mem_cons, List.not_mem_nil, or_false] at hp
  rcases hp with rfl | rfl | rfl | rfl | rfl | rfl | rfl
  · exact run13
  · exact run14Wdw
  · exact run14Dd
  · exact run14Yyp
  · exact run14Xu
  · exact run14Dot
  · exact run14Sub
theorem run3 : RunsTo P 3 [] (.bool true) := runC_W xOk extT_ok (orcK_ok known3_ok) (k := 1000) (isV_eq (by kernel_rfl))
end Go.E
