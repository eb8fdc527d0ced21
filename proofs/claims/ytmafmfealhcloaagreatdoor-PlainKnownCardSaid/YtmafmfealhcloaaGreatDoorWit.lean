/-
  THE WITNESS: a world in which the sixteen listed variables lie as the rows list them.
-/
import Derived.Test.YtmafmfealhcloaaGreatDoorRows
import Derived.ProofKit
import Derived.OpenShut
import Derived.LaidMore
import Derived.Lay
import Derived.SevenTiedAt
import Derived.Stop.Joined
namespace Go.Proofs.YtmafmfealhcloaaGreatDoor
open Go Go.ChangeShapes Go.WideShapes Go.ChangeAt Go.RowKit
set_option maxRecDepth 100000
abbrev laidW : List (String × DataW Unit) := Rows.plainKnownRow.laid
theorem ownW : ownKnob Tryz.prog.godebug = none := by kernel_rfl
theorem plainW : (laidW.all fun x => x.2.handleName?.isNone) = true := by kernel_rfl
theorem fitsW (os : Os) : (World.holding Tryz.prog os ⟨#[], #[], []⟩).layFits Tryz.prog laidW [] = true := by kernel_rfl
theorem ifacesW (os : Os) : (World.holding Tryz.prog os ⟨#[], #[], []⟩).layIfaces Tryz.prog laidW (World.laidAll Tryz.prog os laidW) = true := by kernel_rfl
theorem metW (os : Os) (args : Array Value) : laidMetH Tryz.prog laidW ((World.laidAll Tryz.prog os laidW).forCall (fun _ _ => 0) ⟨#[], args, []⟩).memory := by
  rw [MakeChecks.laidMetH_plain _ _ _ plainW]; exact laidMet_laidAll _ (fitsW os) (ifacesW os)
theorem shapedW (os : Os) : ((World.laidAll Tryz.prog os laidW).forCall (fun _ _ => 0) ⟨#[], #[], []⟩).Shaped Tryz.prog := World.shaped_of_ZipB (by kernel_rfl) (by kernel_rfl)
end Go.Proofs.YtmafmfealhcloaaGreatDoor
