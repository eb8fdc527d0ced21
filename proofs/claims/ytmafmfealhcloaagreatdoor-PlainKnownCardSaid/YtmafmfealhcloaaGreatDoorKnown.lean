/-
  PlainKnown answers true: chapter 26's examples. Condition: the listed variables of the library lie as the row lists them (the card ties that to the program's text).
-/
import Derived.Test.YtmafmfealhcloaaGreatDoorRunD
import Derived.Test.YtmafmfealhcloaaGreatDoorTieB
import Derived.Test.YtmafmfealhcloaaGreatDoorWit
import Derived.Test.YtmafmfealhcloaaGreatDoorKnownA
import Derived.SevenTiedAt
namespace Go.Proofs.YtmafmfealhcloaaGreatDoor
open Go Go.ChangeShapes Go.WideShapes Go.ChangeAt Go.RowKit
set_option maxRecDepth 100000
theorem keptBut_of_old {w w' : World} {may : MemPlace → Prop} (he : w'.os = w.os ∧ w'.output = w.output) (h : ∀ b, b < w.heap.size → w'.heap[b]? = w.heap[b]?) : w.keptBut w' may := by
  refine ⟨he.1, he.2, fun i hi => ?_⟩
  rw [h i hi]
  cases w.heap[i]? with
  | none => rfl
  | some o => cases o <;> first | exact ⟨rfl, rfl, rfl, fun _ _ => rfl⟩ | exact Or.inr ⟨rfl, rfl⟩ | rfl
theorem known_calls (W : World) : Calls Tryz.prog 3 #[] W fun e W' => e = .returned (.bool true) ∧ (W'.os = W.os ∧ W'.output = W.output) ∧ ∀ b, b < W.heap.size → W'.heap[b]? = W.heap[b]? := by
  have h := Go.E.run3.2 Go.X.G.zero Go.X.A0 W [] (Go.X.sat_zero W) rfl
  refine Go.W.calls_mono h ?_
  rintro e W' ⟨F, v, rfl, hv⟩
  exact ⟨by rw [show v = .bool true from hv], F.env, fun b hb => (F.old b hb (fun i h => by simp [Go.X.G.zero] at h) rfl).2.2⟩
theorem known_lifted (os : Os) (started : os.Started) (H : Type) (enc : TypeId × Value → H) :
    ReturnsInHanded {} Tryz.checked os 3 .any (fun w args => (Rows.plainKnownSpec.pre enc Tryz.prog Tryz.f3 [] false w args ∧ laidMetH Tryz.prog laidW w) ∧ sizedMet enc Tryz.prog Tryz.f3 (OpenSpec.ofChange Rows.plainKnownSpec) false w args)
      (Rows.plainKnownSpec.post enc Tryz.prog Tryz.f3 false true false false) := by
  refine returnsInHanded_of_change_and (C := Tryz.checked) (X := fun w _ => laidMetH Tryz.prog laidW w) (fun _ _ _ hh h => h.of_heap hh) ownW started (by kernel_rfl) Tryz.func3
    (ChangeSpec.witness_shaped (enc := enc) (C := Tryz.checked) (os := os) (X := fun w _ => laidMetH Tryz.prog laidW w) false (World.laidAll Tryz.prog os laidW) #[] 8 (World.laidAll_os _ _ _)
      (shapedW os) (by kernel_rfl) (by kernel_rfl) (by kernel_rfl) (metW os _)) ?_
  intro W base args ds gs before _ hW _ _ _ _
  have hW' := hW
  obtain ⟨p, q, hA0, hV, rfl, _, _⟩ := hW
  have hA : DataW.TrodAll enc Tryz.prog W 0 (fun _ => true) true Tryz.f3.params.toList args.toList ds p := hA0
  rw [Tryz.params3] at hA
  obtain ⟨rfl, rfl, rfl⟩ : args = #[] ∧ ds = [] ∧ p = [] := by
    revert hA
    cases ha : args.toList with
    | nil => cases ds with
      | nil => intro hA; exact ⟨by apply Array.ext'; exact ha, rfl, hA⟩
      | cons d ds => intro hA; exact hA.elim
    | cons v vs => intro hA; exact hA.elim
  obtain ⟨rfl, rfl⟩ := trodVars_none hV
  refine (known_calls W).mono fun e W' ⟨he, henv, hold⟩ => ?_
  subst he
  exact ⟨_, rfl, [], [], _, [], [], [], hW', trodAll_mk1 (shut_bool Tryz.underlying4 _), rfl, rfl, keptBut_of_old henv hold, fun h => by cases h⟩
theorem known_holds : Rows.PlainKnownSaid :=
  OpenClaim.holds_of_wide 3 Tryz.f3 rfl rfl rfl rfl rfl rfl rfl ⟨rfl, rfl, rfl, rfl, rfl⟩ rfl rfl rfl rfl rfl kfunc Tryz.func3 kjoined
    (of_decide_eq_true (by kernel_rfl)) (by unfold Func.isWrapper; first | (rw [if_pos (by decide +kernel)]; kernel_rfl) | (rw [if_neg (by decide +kernel)]; exact ⟨rfl, rfl⟩))
    (fun os started H enc _ => known_lifted os started H enc)
theorem known_looks : ∀ f fn, PP.funcNamed Rows.plainKnownRow.func = some f → PP.funcs[f]? = some fn → true = PP.looks [] ∧ ∀ (j : Nat) t, fn.params[j]? = some t → PP.wantsStandIn t = false := by
  intro f fn hf hfn
  obtain rfl : f = 3 := Option.some.inj (kfunc.symm.trans hf) |>.symm
  obtain rfl : fn = Tryz.f3 := (Option.some.inj (Tryz.func3.symm.trans hfn)).symm
  refine ⟨jlooks, fun j t ht => ?_⟩
  rw [Tryz.params3] at ht
  simp at ht
theorem known_card : Rows.PlainKnownCardSaid :=
  Claim7.holds_tied_plain_at .later [] [.data, .data, .widerDeep, .widerDeep, .data, .data, .data, .data, .data, .data, .sentinel, .sentinel, .pinned, .pinned, .pinned, .pinned] true (true, "38e4298a496c186ad16fabd06bafa4b0abb37bc19708edff7dacb9d45125b3ff") true known_holds (fun _ h => by cases h) kwfT (fun _ h => by cases h) plainKnown_row_tie rfl ⟨rfl, rfl⟩ jmain rfl
    known_looks kgoes
#print axioms known_card
end Go.Proofs.YtmafmfealhcloaaGreatDoor
