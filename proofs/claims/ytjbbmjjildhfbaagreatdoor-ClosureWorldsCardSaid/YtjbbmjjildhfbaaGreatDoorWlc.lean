/- The law ClosureWorlds (P31.5) returns true for every input and leaves its arguments as they were; the card of its row, tied to the program's text. Conditions: those of the given row (the listed variables start as the program's text lays them). -/
import Derived.Test.YtjbbmjjildhfbaaGreatDoorW28
import Derived.Test.YtjbbmjjildhfbaaGreatDoorTie
import Derived.Test.YtjbbmjjildhfbaaGreatDoorCards
namespace Go.Proofs.YtjbbmjjildhfbaaGreatDoor
open Go Go.ChangeShapes Go.WideShapes Go.ChangeAt Go.RowKit
namespace lawWorlds
theorem pure_ : ∀ xs, ArgsD Tryz.f7.params.toList xs → APure Tryz.prog 7 xs (bD true) := by
  rw [Tryz.params7]
  intro xs h
  obtain ⟨l, _, h_l, rfl, h1⟩ := h.ints_inv
  obtain ⟨m, _, h_m, rfl, h2⟩ := h1.ints_inv
  obtain ⟨p, _, h_p, rfl, h3⟩ := h2.ints_inv
  obtain ⟨at_, _, h_at_, rfl, h4⟩ := h3.int_inv
  obtain ⟨how, _, h_how, rfl, h5⟩ := h4.int_inv
  obtain ⟨by_, _, h_by_, rfl, h6⟩ := h5.int_inv
  obtain rfl := h6.nil_inv
  exact l31_worlds l m p h_l h_m h_p at_ how by_ h_at_ h_how h_by_
theorem types : ∀ t ∈ Tryz.f7.params.toList, t = 3 ∨ t = 22 := by
  rw [Tryz.params7]; decide
set_option maxRecDepth 100000 in
theorem lifted (os : Os) (started : os.Started) (H : Type) (enc : TypeId × Value → H) :
    ReturnsInHanded {} Tryz.checked os 7 .any (fun w args => (Rows.closureWorldsSpec.pre enc Tryz.prog Tryz.f7 [] false w args ∧ laidMetH Tryz.prog laidL w) ∧ sizedMet enc Tryz.prog Tryz.f7 (OpenSpec.ofChange Rows.closureWorldsSpec) false w args)
      (Rows.closureWorldsSpec.post enc Tryz.prog Tryz.f7 false true false false) := by
  refine returnsInHanded_of_change_and (C := Tryz.checked) (X := fun w _ => laidMetH Tryz.prog laidL w) (fun _ _ _ hh h => h.of_heap hh) own started (by kernel_rfl) Tryz.func7
    (ChangeSpec.witness_shaped (enc := enc) (C := Tryz.checked) (os := os) (X := fun w _ => laidMetH Tryz.prog laidL w) false (World.doorLaid Tryz.prog 76 os) #[.slice none 0 0, .slice none 0 0, .slice none 0 0, .int .i64 0, .int .i64 0, .int .i64 0] 8 rfl (World.shaped_of_RefB (by kernel_rfl) (by kernel_rfl)) (by kernel_rfl) (by kernel_rfl) (by kernel_rfl) (door_met os _)) ?_
  intro W base args ds gs before hval hW _ hsz hL _
  exact bh2 types rfl rfl (fun ds hd => by
    match ds, hd with
    | [_, _, _, _, _, _], _ => rfl) pure_ base args ds gs before hval hW hsz hL
theorem said : Rows.ClosureWorldsSaid :=
  OpenClaim.holds_of_wide 7 Tryz.f7 rfl rfl rfl rfl rfl rfl rfl ⟨rfl, rfl, rfl, rfl, rfl⟩ rfl rfl rfl rfl rfl (by kernel_rfl) Tryz.func7 (by kernel_rfl)
    (of_decide_eq_true (by kernel_rfl)) (by unfold Func.isWrapper; first | (rw [if_pos (by decide +kernel)]; kernel_rfl) | (rw [if_neg (by decide +kernel)]; exact ⟨rfl, rfl⟩))
    (fun os started H enc _ => lifted os started H enc)
theorem card : Rows.ClosureWorldsCardSaid :=
  Claim7.holds_tied_plain_at .later [] _ _ _ _ said (fun _ h => by cases h) (by kernel_rfl) (fun _ h => by cases h) closureWorlds_row_tie rfl ⟨rfl, rfl⟩ (by kernel_rfl) rfl
    (fun f fn hf hfn => by
      obtain rfl : f = 7 := Option.some.inj ((show Tryz.prog.funcNamed "diorama/dioramalaw31.ClosureWorlds" = some 7 by kernel_rfl).symm.trans hf) |>.symm
      obtain rfl : fn = Tryz.f7 := (Option.some.inj (Tryz.func7.symm.trans hfn)).symm
      exact ⟨by kernel_rfl, fun j t ht => by
        have hm := types t (by have := Array.mem_of_getElem? ht; simpa using this)
        rcases hm with rfl | rfl
        · exact (show Tryz.prog.wantsStandIn 3 = false by kernel_rfl)
        · exact (show Tryz.prog.wantsStandIn 22 = false by kernel_rfl)⟩)
    (by kernel_rfl)
#print axioms card
end lawWorlds
end Go.Proofs.YtjbbmjjildhfbaaGreatDoor
