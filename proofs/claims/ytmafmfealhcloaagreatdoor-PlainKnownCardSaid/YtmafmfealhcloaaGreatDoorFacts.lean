/-
  THE PROGRAM's CLOSED FACTS that a row asks, each a theorem of its own.
-/
import Derived.Test.YtmafmfealhcloaaGreatDoorCards
import Derived.ProofKit
import Derived.OpenShut
import Derived.Stop.Joined
import Derived.SevenTiedAt
namespace Go.Proofs.YtmafmfealhcloaaGreatDoor
open Go
set_option maxRecDepth 100000
noncomputable abbrev PP : Program := Tryz.pinned.checked.prog
theorem andT {a b : Bool} (h : a = true) (k : b = true) : (a && b) = true := by rw [h, k]; rfl
theorem jf2 : laidOutB PP = true := by kernel_rfl
theorem jf3 : mapsRowed PP = true := by kernel_rfl
theorem jf7 : (PP.stops == []) = true := by kernel_rfl
theorem jf9 : (PP.stopKnobs == []) = true := by kernel_rfl
theorem jf23 : PP.stopsHeard = true := by kernel_rfl
theorem jf24 : PP.mayEnter = true := by kernel_rfl
theorem jf25 : (Rows.plainKnownRow.lifted == PP.liftsFinal) = true := by kernel_rfl
theorem jf26 : (PP.make == some Rows.plainKnownRow.make) = true := by kernel_rfl
theorem jf22 : (Rows.plainKnownRow.plainKeys == PP.plainKeys) = true := by kernel_rfl
theorem jgo : PP.funcs.any Func.goes = false := by kernel_rfl
theorem jmain : PP.mainIs = some (true, "38e4298a496c186ad16fabd06bafa4b0abb37bc19708edff7dacb9d45125b3ff".toList) := by kernel_rfl
theorem jlooks : true = PP.looks [] := by kernel_rfl
end Go.Proofs.YtmafmfealhcloaaGreatDoor
