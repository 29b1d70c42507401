/- The law TrialSteps (P30) returns true for every input and leaves its arguments as they were; the card of its row, tied to the program's text. Conditions: those of the given row (the listed variables start as the program's text lays them). -/
import Derived.Test.YtilnpcolgcmofaaGreatDoorS33
import Derived.Test.YtilnpcolgcmofaaGreatDoorTie
import Derived.Test.YtilnpcolgcmofaaGreatDoorCards
namespace Go.Proofs.YtilnpcolgcmofaaGreatDoor
open Go Go.ChangeShapes Go.WideShapes Go.ChangeAt Go.RowKit
namespace lawSteps
theorem pure_ : ∀ xs, ArgsD Tryz.f6.params.toList xs → APure Tryz.prog 6 xs (bD true) := by
  rw [Tryz.params6]
  intro xs h
  obtain ⟨l, _, h_l, rfl, h1⟩ := h.ints_inv
  obtain ⟨m, _, h_m, rfl, h2⟩ := h1.ints_inv
  obtain ⟨q, _, h_q, rfl, h3⟩ := h2.ints_inv
  obtain ⟨more, _, h_more, rfl, h4⟩ := h3.int_inv
  obtain rfl := h4.nil_inv
  exact l30_steps l m q more h_l h_m h_q h_more
theorem types : ∀ t ∈ Tryz.f6.params.toList, t = 3 ∨ t = 22 := by
  rw [Tryz.params6]; decide
set_option maxRecDepth 100000 in
theorem lifted (os : Os) (started : os.Started) (H : Type) (enc : TypeId × Value → H) :
    ReturnsInHanded {} Tryz.checked os 6 .any (fun w args => (Rows.trialStepsSpec.pre enc Tryz.prog Tryz.f6 [] false w args ∧ laidMetH Tryz.prog laidL w) ∧ sizedMet enc Tryz.prog Tryz.f6 (OpenSpec.ofChange Rows.trialStepsSpec) false w args)
      (Rows.trialStepsSpec.post enc Tryz.prog Tryz.f6 false true false false) := by
  refine returnsInHanded_of_change_and (C := Tryz.checked) (X := fun w _ => laidMetH Tryz.prog laidL w) (fun _ _ _ hh h => h.of_heap hh) own started (by kernel_rfl) Tryz.func6
    (ChangeSpec.witness_shaped (enc := enc) (C := Tryz.checked) (os := os) (X := fun w _ => laidMetH Tryz.prog laidL w) false (World.doorLaid Tryz.prog 76 os) #[.slice none 0 0, .slice none 0 0, .slice none 0 0, .int .i64 0] 8 rfl (World.shaped_of_RefB (by kernel_rfl) (by kernel_rfl)) (by kernel_rfl) (by kernel_rfl) (by kernel_rfl) (door_met os _)) ?_
  intro W base args ds gs before hval hW _ hsz hL _
  exact bg0 types rfl rfl (fun ds hd => by
    match ds, hd with
    | [_, _, _, _], _ => rfl) pure_ base args ds gs before hval hW hsz hL
theorem j1 : (Rows.trialStepsRow.inPlace == Tryz.prog.inPlace 6) = true := by kernel_rfl
theorem j2 : (Rows.trialStepsRow.unfollowed == Tryz.prog.unfollowed 6) = true := by kernel_rfl
theorem j3 : (Rows.trialStepsRow.recurses == Tryz.prog.recurses 6) = true := by kernel_rfl
theorem j4 : (Rows.trialStepsRow.named == Tryz.prog.varsNamed 6) = true := by kernel_rfl
theorem closed_ : joinedFacts Tryz.prog 6 Tryz.f6 Rows.trialStepsSpec Rows.trialStepsRow = true := by
  unfold joinedFacts
  rw [j1, j2, j3, j4]
  kernel_rfl
theorem said : Rows.TrialStepsSaid :=
  OpenClaim.holds_of_wide 6 Tryz.f6 rfl rfl rfl rfl rfl rfl rfl ⟨rfl, rfl, rfl, rfl, rfl⟩ rfl rfl rfl rfl rfl (by kernel_rfl) Tryz.func6 closed_
    (of_decide_eq_true (by kernel_rfl)) (by unfold Func.isWrapper; first | (rw [if_pos (by decide +kernel)]; kernel_rfl) | (rw [if_neg (by decide +kernel)]; exact ⟨rfl, rfl⟩))
    (fun os started H enc _ => lifted os started H enc)
theorem card : Rows.TrialStepsCardSaid :=
  Claim7.holds_tied_plain_at .later [] _ _ _ _ said (fun _ h => by cases h) (by kernel_rfl) (fun _ h => by cases h) trialSteps_row_tie rfl ⟨rfl, rfl⟩ (by kernel_rfl) rfl
    (fun f fn hf hfn => by
      obtain rfl : f = 6 := Option.some.inj ((show Tryz.prog.funcNamed "diorama/dioramalaw30.TrialSteps" = some 6 by kernel_rfl).symm.trans hf) |>.symm
      obtain rfl : fn = Tryz.f6 := (Option.some.inj (Tryz.func6.symm.trans hfn)).symm
      exact ⟨by kernel_rfl, fun j t ht => by
        have hm := types t (by have := Array.mem_of_getElem? ht; simpa using this)
        rcases hm with rfl | rfl
        · exact (show Tryz.prog.wantsStandIn 3 = false by kernel_rfl)
        · exact (show Tryz.prog.wantsStandIn 22 = false by kernel_rfl)⟩)
    (by kernel_rfl)
#print axioms card
end lawSteps
end Go.Proofs.YtilnpcolgcmofaaGreatDoor
