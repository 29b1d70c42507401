/- The law WorldBytes (P20.1) returns true for every input and leaves its arguments as they were; the card of its row, tied to the program's text. Conditions: those of the given row (the listed variables start as the program's text lays them). -/
import Derived.Test.YtlcfiilejnnlnaaGreatDoorB18
import Derived.Test.YtlcfiilejnnlnaaGreatDoorTie
import Derived.Test.YtlcfiilejnnlnaaGreatDoorCards
namespace Go.Proofs.YtlcfiilejnnlnaaGreatDoor
open Go Go.ChangeShapes Go.WideShapes Go.ChangeAt Go.RowKit
namespace lawBytes
theorem pure_ : ∀ xs, ArgsD Tryz.f3.params.toList xs → APure Tryz.prog 3 xs (bD true) := by
  rw [Tryz.params3]
  intro xs h
  obtain ⟨l, _, h_l, rfl, h1⟩ := h.ints_inv
  obtain ⟨m, _, h_m, rfl, h2⟩ := h1.ints_inv
  obtain ⟨at_, _, h_at_, rfl, h3⟩ := h2.int_inv
  obtain ⟨how, _, h_how, rfl, h4⟩ := h3.int_inv
  obtain ⟨by_, _, h_by_, rfl, h5⟩ := h4.int_inv
  obtain ⟨raw, _, h_raw, rfl, h6⟩ := h5.bytes_inv
  obtain rfl := h6.nil_inv
  exact aY5 (fun w hw a b c ha hb hc => ASome.of_call ((bF1 w hw a b c ha hb hc).imp fun d σ h => h)) l m at_ how by_ raw h_l h_m h_at_ h_how h_by_ h_raw.lt h_raw.len
theorem types : ∀ t ∈ Tryz.f3.params.toList, t = 3 ∨ t = 22 ∨ t = 23 := by
  rw [Tryz.params3]; decide
set_option maxRecDepth 100000 in
theorem lifted (os : Os) (started : os.Started) (H : Type) (enc : TypeId × Value → H) :
    ReturnsInHanded {} Tryz.checked os 3 .any (fun w args => (Rows.worldBytesSpec.pre enc Tryz.prog Tryz.f3 [] false w args ∧ laidMetH Tryz.prog laidL w) ∧ sizedMet enc Tryz.prog Tryz.f3 (OpenSpec.ofChange Rows.worldBytesSpec) false w args)
      (Rows.worldBytesSpec.post enc Tryz.prog Tryz.f3 false true false false) := by
  refine returnsInHanded_of_change_and (C := Tryz.checked) (X := fun w _ => laidMetH Tryz.prog laidL w) (fun _ _ _ hh h => h.of_heap hh) own started (by kernel_rfl) Tryz.func3
    (ChangeSpec.witness_shaped (enc := enc) (C := Tryz.checked) (os := os) (X := fun w _ => laidMetH Tryz.prog laidL w) false (World.doorLaid Tryz.prog 76 os) #[.slice none 0 0, .slice none 0 0, .int .i64 0, .int .i64 0, .int .i64 0, .slice none 0 0] 8 rfl (World.shaped_of_RefB (by kernel_rfl) (by kernel_rfl)) (by kernel_rfl) (by kernel_rfl) (by kernel_rfl) (bI9 os _)) ?_
  intro W base args ds gs before hval hW _ hsz hL _
  exact aY4 types rfl rfl (fun ds hd => by
    match ds, hd with
    | [_, _, _, _, _, _], _ => rfl) pure_ base args ds gs before hval hW hsz hL
theorem said : Rows.WorldBytesSaid :=
  OpenClaim.holds_of_wide 3 Tryz.f3 rfl rfl rfl rfl rfl rfl rfl ⟨rfl, rfl, rfl, rfl, rfl⟩ rfl rfl rfl rfl rfl (by kernel_rfl) Tryz.func3 (by kernel_rfl)
    (of_decide_eq_true (by kernel_rfl)) (by unfold Func.isWrapper; first | (rw [if_pos (by decide +kernel)]; kernel_rfl) | (rw [if_neg (by decide +kernel)]; exact ⟨rfl, rfl⟩))
    (fun os started H enc _ => lifted os started H enc)
theorem card : Rows.WorldBytesCardSaid :=
  Claim7.holds_tied_plain_at .later [] _ _ _ _ said (fun _ h => by cases h) (by kernel_rfl) (fun _ h => by cases h) worldBytes_row_tie rfl ⟨rfl, rfl⟩ (by kernel_rfl) rfl
    (fun f fn hf hfn => by
      obtain rfl : f = 3 := Option.some.inj ((show Tryz.prog.funcNamed "diorama/dioramalaw20.WorldBytes" = some 3 by kernel_rfl).symm.trans hf) |>.symm
      obtain rfl : fn = Tryz.f3 := (Option.some.inj (Tryz.func3.symm.trans hfn)).symm
      exact ⟨by kernel_rfl, fun j t ht => by
        have hm := types t (by have := Array.mem_of_getElem? ht; simpa using this)
        rcases hm with rfl | rfl | rfl
        · exact (show Tryz.prog.wantsStandIn 3 = false by kernel_rfl)
        · exact (show Tryz.prog.wantsStandIn 22 = false by kernel_rfl)
        · exact (show Tryz.prog.wantsStandIn 23 = false by kernel_rfl)⟩)
    (by kernel_rfl)
#print axioms card
end lawBytes
end Go.Proofs.YtlcfiilejnnlnaaGreatDoor
