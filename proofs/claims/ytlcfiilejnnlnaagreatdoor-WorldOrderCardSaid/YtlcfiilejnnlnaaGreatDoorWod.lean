/- The law WorldOrder (P20.9) returns true for every input and leaves its arguments as they were; the card of its row, tied to the program's text. Conditions: those of the given row (the listed variables start as the program's text lays them). -/
import Derived.Test.YtlcfiilejnnlnaaGreatDoorO18
import Derived.Test.YtlcfiilejnnlnaaGreatDoorTie
import Derived.Test.YtlcfiilejnnlnaaGreatDoorCards
namespace Go.Proofs.YtlcfiilejnnlnaaGreatDoor
open Go Go.ChangeShapes Go.WideShapes Go.ChangeAt Go.RowKit
namespace lawOrder
theorem pure_ : ∀ xs, ArgsD Tryz.f4.params.toList xs → APure Tryz.prog 4 xs (bD true) := by
  rw [Tryz.params4]
  intro xs h
  obtain ⟨l, _, h_l, rfl, h1⟩ := h.ints_inv
  obtain ⟨m, _, h_m, rfl, h2⟩ := h1.ints_inv
  obtain ⟨k, _, h_k, rfl, h3⟩ := h2.ints_inv
  obtain ⟨turn, _, h_turn, rfl, h4⟩ := h3.int_inv
  obtain rfl := h4.nil_inv
  exact bC5 l m k turn h_l h_m h_k h_turn
theorem types : ∀ t ∈ Tryz.f4.params.toList, t = 3 ∨ t = 22 := by
  rw [Tryz.params4]; decide
set_option maxRecDepth 100000 in
theorem lifted (os : Os) (started : os.Started) (H : Type) (enc : TypeId × Value → H) :
    ReturnsInHanded {} Tryz.checked os 4 .any (fun w args => (Rows.worldOrderSpec.pre enc Tryz.prog Tryz.f4 [] false w args ∧ laidMetH Tryz.prog laidL w) ∧ sizedMet enc Tryz.prog Tryz.f4 (OpenSpec.ofChange Rows.worldOrderSpec) false w args)
      (Rows.worldOrderSpec.post enc Tryz.prog Tryz.f4 false true false false) := by
  refine returnsInHanded_of_change_and (C := Tryz.checked) (X := fun w _ => laidMetH Tryz.prog laidL w) (fun _ _ _ hh h => h.of_heap hh) own started (by kernel_rfl) Tryz.func4
    (ChangeSpec.witness_shaped (enc := enc) (C := Tryz.checked) (os := os) (X := fun w _ => laidMetH Tryz.prog laidL w) false (World.doorLaid Tryz.prog 76 os) #[.slice none 0 0, .slice none 0 0, .slice none 0 0, .int .i64 0] 8 rfl (World.shaped_of_RefB (by kernel_rfl) (by kernel_rfl)) (by kernel_rfl) (by kernel_rfl) (by kernel_rfl) (bQ4 os _)) ?_
  intro W base args ds gs before hval hW _ hsz hL _
  exact bb7 types rfl rfl (fun ds hd => by
    match ds, hd with
    | [_, _, _, _], _ => rfl) pure_ base args ds gs before hval hW hsz hL
theorem said : Rows.WorldOrderSaid :=
  OpenClaim.holds_of_wide 4 Tryz.f4 rfl rfl rfl rfl rfl rfl rfl ⟨rfl, rfl, rfl, rfl, rfl⟩ rfl rfl rfl rfl rfl (by kernel_rfl) Tryz.func4 (by kernel_rfl)
    (of_decide_eq_true (by kernel_rfl)) (by unfold Func.isWrapper; first | (rw [if_pos (by decide +kernel)]; kernel_rfl) | (rw [if_neg (by decide +kernel)]; exact ⟨rfl, rfl⟩))
    (fun os started H enc _ => lifted os started H enc)
theorem card : Rows.WorldOrderCardSaid :=
  Claim7.holds_tied_plain_at .later [] _ _ _ _ said (fun _ h => by cases h) (by kernel_rfl) (fun _ h => by cases h) worldOrder_row_tie rfl ⟨rfl, rfl⟩ (by kernel_rfl) rfl
    (fun f fn hf hfn => by
      obtain rfl : f = 4 := Option.some.inj ((show Tryz.prog.funcNamed "diorama/dioramalaw20.WorldOrder" = some 4 by kernel_rfl).symm.trans hf) |>.symm
      obtain rfl : fn = Tryz.f4 := (Option.some.inj (Tryz.func4.symm.trans hfn)).symm
      exact ⟨by kernel_rfl, fun j t ht => by
        have hm := types t (by have := Array.mem_of_getElem? ht; simpa using this)
        rcases hm with rfl | rfl
        · exact (show Tryz.prog.wantsStandIn 3 = false by kernel_rfl)
        · exact (show Tryz.prog.wantsStandIn 22 = false by kernel_rfl)⟩)
    (by kernel_rfl)
#print axioms card
end lawOrder
end Go.Proofs.YtlcfiilejnnlnaaGreatDoor
