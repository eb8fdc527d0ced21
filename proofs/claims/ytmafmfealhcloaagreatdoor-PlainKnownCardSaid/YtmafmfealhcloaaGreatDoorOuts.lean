/-
  The functions without a body, at this program.
-/
import Derived.Test.YtmafmfealhcloaaGreatDoorTabs
namespace Go.E
open Go Go.W Go.X
set_option maxRecDepth 100000
theorem ie150 : IsExt P 150 Extern.BytealgIndexByte.indexByte := fun args w => run_callFunc_extern Go.Proofs.Tryz.func150 (by kernel_rfl) (by kernel_rfl) (by kernel_rfl) (by kernel_rfl) args w
theorem ie404 : IsExt P 404 Extern.BytealgIndexByte.indexByte := fun args w => run_callFunc_extern Go.Proofs.Tryz.func404 (by kernel_rfl) (by kernel_rfl) (by kernel_rfl) (by kernel_rfl) args w
theorem ie76 : IsExt P 76 Extern.BytealgCount.count := fun args w => run_callFunc_extern Go.Proofs.Tryz.func76 (by kernel_rfl) (by kernel_rfl) (by kernel_rfl) (by kernel_rfl) args w
theorem ie259 : IsExt P 259 Extern.MapsClone.clone := fun args w => run_callFunc_extern Go.Proofs.Tryz.func259 (by kernel_rfl) (by kernel_rfl) (by kernel_rfl) (by kernel_rfl) args w
noncomputable abbrev extT : ExtF := extOf [(150, extIndexByte), (404, extIndexByteString), (76, extCount), (259, extClone)]
theorem extT_ok : ExtOk P extT ∧ ExtV extT := extOf_ok (by
  intro p hp
  simp only [List.mem_cons, List.not_mem_nil, or_false] at hp
  rcases hp with rfl | rfl | rfl | rfl
  · exact extIndexByte_ok ie150
  · exact extIndexByteString_ok ie404
  · exact extCount_ok ie76
  · exact extClone_ok ie259)
end Go.E
