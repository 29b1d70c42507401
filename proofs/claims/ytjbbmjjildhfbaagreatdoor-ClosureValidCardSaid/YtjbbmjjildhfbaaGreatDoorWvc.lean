/- The law ClosureValid (P31.1, P31.2, P31.6) returns true for every input and leaves its arguments as they were; the card of its row, tied to the program's text. Conditions: those of the given row (the listed variables start as the program's text lays them). -/
import Derived.Test.YtjbbmjjildhfbaaGreatDoorA28
import Derived.Test.YtjbbmjjildhfbaaGreatDoorTie
import Derived.Test.YtjbbmjjildhfbaaGreatDoorCards
namespace Go.Proofs.YtjbbmjjildhfbaaGreatDoor
open Go Go.ChangeShapes Go.WideShapes Go.ChangeAt Go.RowKit
namespace lawValid
theorem pure_ : ∀ xs, ArgsD Tryz.f6.params.toList xs → APure Tryz.prog 6 xs (bD true) := by
  rw [Tryz.params6]
  intro xs h
  obtain ⟨l, _, hl, rfl, h1⟩ := h.ints_inv
  obtain ⟨m, _, hm, rfl, h2⟩ := h1.ints_inv
  obtain ⟨p, _, hp, rfl, h3⟩ := h2.ints_inv
  obtain ⟨q, _, hq, rfl, h4⟩ := h3.ints_inv
  obtain ⟨at_, _, hat, rfl, h5⟩ := h4.int_inv
  obtain ⟨how, _, hhow, rfl, h6⟩ := h5.int_inv
  obtain ⟨by_, _, hby, rfl, h7⟩ := h6.int_inv
  obtain rfl := h7.nil_inv
  exact l31_valid l m p q hl hm hp hq at_ how by_ hat hhow hby
theorem types : ∀ t ∈ Tryz.f6.params.toList, t = 3 ∨ t = 22 := by
  rw [Tryz.params6]; decide
set_option maxRecDepth 100000 in
theorem lifted (os : Os) (started : os.Started) (H : Type) (enc : TypeId × Value → H) :
    ReturnsInHanded {} Tryz.checked os 6 .any (fun w args => (Rows.closureValidSpec.pre enc Tryz.prog Tryz.f6 [] false w args ∧ laidMetH Tryz.prog laidL w) ∧ sizedMet enc Tryz.prog Tryz.f6 (OpenSpec.ofChange Rows.closureValidSpec) false w args)
      (Rows.closureValidSpec.post enc Tryz.prog Tryz.f6 false true false false) := by
  refine returnsInHanded_of_change_and (C := Tryz.checked) (X := fun w _ => laidMetH Tryz.prog laidL w) (fun _ _ _ hh h => h.of_heap hh) own started (by kernel_rfl) Tryz.func6
    (ChangeSpec.witness_shaped (enc := enc) (C := Tryz.checked) (os := os) (X := fun w _ => laidMetH Tryz.prog laidL w) false (World.doorLaid Tryz.prog 76 os) #[.slice none 0 0, .slice none 0 0, .slice none 0 0, .slice none 0 0, .int .i64 0, .int .i64 0, .int .i64 0] 8 rfl (World.shaped_of_RefB (by kernel_rfl) (by kernel_rfl)) (by kernel_rfl) (by kernel_rfl) (by kernel_rfl) (door_met os _)) ?_
  intro W base args ds gs before hval hW _ hsz hL _
  exact law_contract types rfl rfl (fun ds hd => by
    match ds, hd with
    | [_, _, _, _, _, _, _], _ => rfl) pure_ base args ds gs before hval hW hsz hL
theorem said : Rows.ClosureValidSaid :=
  OpenClaim.holds_of_wide 6 Tryz.f6 rfl rfl rfl rfl rfl rfl rfl ⟨rfl, rfl, rfl, rfl, rfl⟩ rfl rfl rfl rfl rfl (by kernel_rfl) Tryz.func6 (by kernel_rfl)
    (of_decide_eq_true (by kernel_rfl)) (by unfold Func.isWrapper; first | (rw [if_pos (by decide +kernel)]; kernel_rfl) | (rw [if_neg (by decide +kernel)]; exact ⟨rfl, rfl⟩))
    (fun os started H enc _ => lifted os started H enc)
theorem card : Rows.ClosureValidCardSaid :=
  Claim7.holds_tied_plain_at .later [] _ _ _ _ said (fun _ h => by cases h) (by kernel_rfl) (fun _ h => by cases h) closureValid_row_tie rfl ⟨rfl, rfl⟩ (by kernel_rfl) rfl
    (fun f fn hf hfn => by
      obtain rfl : f = 6 := Option.some.inj ((show Tryz.prog.funcNamed "diorama/dioramalaw31.ClosureValid" = some 6 by kernel_rfl).symm.trans hf) |>.symm
      obtain rfl : fn = Tryz.f6 := (Option.some.inj (Tryz.func6.symm.trans hfn)).symm
      exact ⟨by kernel_rfl, fun j t ht => by
        have hm := types t (by have := Array.mem_of_getElem? ht; simpa using this)
        rcases hm with rfl | rfl
        · exact (show Tryz.prog.wantsStandIn 3 = false by kernel_rfl)
        · exact (show Tryz.prog.wantsStandIn 22 = false by kernel_rfl)⟩)
    (by kernel_rfl)
#print axioms card
end lawValid
end Go.Proofs.YtjbbmjjildhfbaaGreatDoor
