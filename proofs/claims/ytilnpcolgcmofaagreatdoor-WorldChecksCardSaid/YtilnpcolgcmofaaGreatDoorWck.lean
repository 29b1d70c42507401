/- The law WorldChecks (P20.2) returns true for every input and leaves its arguments as they were; the card of its row, tied to the program's text. Conditions: those of the given row (the listed variables start as the program's text lays them). -/
import Derived.Test.YtilnpcolgcmofaaGreatDoorC35
import Derived.Test.YtilnpcolgcmofaaGreatDoorTie
import Derived.Test.YtilnpcolgcmofaaGreatDoorCards
namespace Go.Proofs.YtilnpcolgcmofaaGreatDoor
open Go Go.ChangeShapes Go.WideShapes Go.ChangeAt Go.RowKit
namespace lawChecks
theorem pure_ : ∀ xs, ArgsD Tryz.f3.params.toList xs → APure Tryz.prog 3 xs (bD true) := by
  rw [Tryz.params3]
  intro xs h
  obtain ⟨l, _, h_l, rfl, h1⟩ := h.ints_inv
  obtain ⟨m, _, h_m, rfl, h2⟩ := h1.ints_inv
  obtain ⟨at_, _, h_at, rfl, h3⟩ := h2.int_inv
  obtain ⟨how, _, h_how, rfl, h4⟩ := h3.int_inv
  obtain ⟨by_, _, h_by, rfl, h5⟩ := h4.int_inv
  obtain ⟨raw, _, h_raw, rfl, h6⟩ := h5.ints_inv
  obtain rfl := h6.nil_inv
  exact l20_checks l m at_ how by_ raw h_l h_m h_at h_how h_by h_raw
theorem types : ∀ t ∈ Tryz.f3.params.toList, t = 3 ∨ t = 22 := by
  rw [Tryz.params3]; decide
set_option maxRecDepth 100000 in
theorem lifted (os : Os) (started : os.Started) (H : Type) (enc : TypeId × Value → H) :
    ReturnsInHanded {} Tryz.checked os 3 .any (fun w args => (Rows.worldChecksSpec.pre enc Tryz.prog Tryz.f3 [] false w args ∧ laidMetH Tryz.prog laidL w) ∧ sizedMet enc Tryz.prog Tryz.f3 (OpenSpec.ofChange Rows.worldChecksSpec) false w args)
      (Rows.worldChecksSpec.post enc Tryz.prog Tryz.f3 false true false false) := by
  refine returnsInHanded_of_change_and (C := Tryz.checked) (X := fun w _ => laidMetH Tryz.prog laidL w) (fun _ _ _ hh h => h.of_heap hh) own started (by kernel_rfl) Tryz.func3
    (ChangeSpec.witness_shaped (enc := enc) (C := Tryz.checked) (os := os) (X := fun w _ => laidMetH Tryz.prog laidL w) false (World.doorLaid Tryz.prog 76 os) #[.slice none 0 0, .slice none 0 0, .int .i64 0, .int .i64 0, .int .i64 0, .slice none 0 0] 8 rfl (World.shaped_of_RefB (by kernel_rfl) (by kernel_rfl)) (by kernel_rfl) (by kernel_rfl) (by kernel_rfl) (door_met os _)) ?_
  intro W base args ds gs before hval hW _ hsz hL _
  exact law_contract types rfl rfl (fun ds hd => by
    match ds, hd with
    | [_, _, _, _, _, _], _ => rfl) pure_ base args ds gs before hval hW hsz hL
theorem j1 : (Rows.worldChecksRow.inPlace == Tryz.prog.inPlace 3) = true := by kernel_rfl
theorem j2 : (Rows.worldChecksRow.unfollowed == Tryz.prog.unfollowed 3) = true := by kernel_rfl
theorem j3 : (Rows.worldChecksRow.recurses == Tryz.prog.recurses 3) = true := by kernel_rfl
theorem j4 : (Rows.worldChecksRow.named == Tryz.prog.varsNamed 3) = true := by kernel_rfl
theorem closed_ : joinedFacts Tryz.prog 3 Tryz.f3 Rows.worldChecksSpec Rows.worldChecksRow = true := by
  unfold joinedFacts
  rw [j1, j2, j3, j4]
  kernel_rfl
theorem said : Rows.WorldChecksSaid :=
  OpenClaim.holds_of_wide 3 Tryz.f3 rfl rfl rfl rfl rfl rfl rfl ⟨rfl, rfl, rfl, rfl, rfl⟩ rfl rfl rfl rfl rfl (by kernel_rfl) Tryz.func3 closed_
    (of_decide_eq_true (by kernel_rfl)) (by unfold Func.isWrapper; first | (rw [if_pos (by decide +kernel)]; kernel_rfl) | (rw [if_neg (by decide +kernel)]; exact ⟨rfl, rfl⟩))
    (fun os started H enc _ => lifted os started H enc)
theorem card : Rows.WorldChecksCardSaid :=
  Claim7.holds_tied_plain_at .later [] _ _ _ _ said (fun _ h => by cases h) (by kernel_rfl) (fun _ h => by cases h) worldChecks_row_tie rfl ⟨rfl, rfl⟩ (by kernel_rfl) rfl
    (fun f fn hf hfn => by
      obtain rfl : f = 3 := Option.some.inj ((show Tryz.prog.funcNamed "diorama/dioramalaw20.WorldChecks" = some 3 by kernel_rfl).symm.trans hf) |>.symm
      obtain rfl : fn = Tryz.f3 := (Option.some.inj (Tryz.func3.symm.trans hfn)).symm
      exact ⟨by kernel_rfl, fun j t ht => by
        have hm := types t (by have := Array.mem_of_getElem? ht; simpa using this)
        rcases hm with rfl | rfl
        · exact (show Tryz.prog.wantsStandIn 3 = false by kernel_rfl)
        · exact (show Tryz.prog.wantsStandIn 22 = false by kernel_rfl)⟩)
    (by kernel_rfl)
#print axioms card
end lawChecks
end Go.Proofs.YtilnpcolgcmofaaGreatDoor
