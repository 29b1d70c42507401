/-
  DERIVED. GIVEN WITH THE SEED: THE PROGRAM's TIES (one call each: nine closed facts by the kernel) AND EACH ROW's TIE, after the 31st guide's Derived/Test/Toyas{Tie, Card}.lean. No idea stands in it: it is a product of the set-up. Laid BY PROGRAM, IN A SANDBOX (cutbox-door.mjs). By AI agents, Wed Nov 11 2026. No macro, syntax, notation, axiom, sorry.
-/
import Derived.Test.YtlcfiilejnnlnaaGreatDoorRows
import Derived.LaidByTextLater
import Derived.SevenTiedAt
import Derived.LaidSub
import Derived.LaidOnce
namespace Go.Proofs.YtlcfiilejnnlnaaGreatDoor
open Go
set_option maxRecDepth 100000
theorem seatTie1 : Tryz.prog.laidByTextLater [("diorama/dioramaref02.constants", Rows.laid_diorama_dioramaref02_constants), ("math/bits.deBruijn32tab", Rows.laid_math_bits_deBruijn32tab), ("math/bits.deBruijn64tab", Rows.laid_math_bits_deBruijn64tab), ("diorama/hash.constants", Rows.laid_diorama_hash_constants), ("internal/strconv.uint64pow10", Rows.laid_internal_strconv_uint64pow10), ("diorama/schema.words", Rows.laid_diorama_schema_words), ("diorama/typing.checks", Rows.laid_diorama_typing_checks)] [.data, .data, .data, .data, .data, .widerDeep, .funcs] true :=
  Program.laidByTextLater_by_one 86 8 65 (by kernel_rfl) (by kernel_rfl) (by kernel_rfl) (by kernel_rfl) (by kernel_rfl) (by kernel_rfl) (fun _ _ => by kernel_rfl)
theorem seatTie2 : Tryz.prog.laidByTextLater [("math/bits.deBruijn32tab", Rows.laid_math_bits_deBruijn32tab), ("math/bits.deBruijn64tab", Rows.laid_math_bits_deBruijn64tab), ("internal/strconv.uint64pow10", Rows.laid_internal_strconv_uint64pow10), ("diorama/schema.words", Rows.laid_diorama_schema_words), ("diorama/typing.checks", Rows.laid_diorama_typing_checks)] [.data, .data, .data, .widerDeep, .funcs] true :=
  Program.laidByTextLater_by_one 86 8 65 (by kernel_rfl) (by kernel_rfl) (by kernel_rfl) (by kernel_rfl) (by kernel_rfl) (by kernel_rfl) (fun _ _ => by kernel_rfl)
theorem noOwnUnsafe : Tryz.pinned.checked.prog.headLifts.contains "ownunsafe" = false := by kernel_rfl
theorem tie : Tryz.prog.laidByTextLater [("diorama/dioramaref02.constants", Rows.laid_diorama_dioramaref02_constants), ("math/bits.deBruijn32tab", Rows.laid_math_bits_deBruijn32tab), ("math/bits.deBruijn64tab", Rows.laid_math_bits_deBruijn64tab), ("diorama/hash.constants", Rows.laid_diorama_hash_constants), ("internal/strconv.uint64pow10", Rows.laid_internal_strconv_uint64pow10), ("diorama/schema.words", Rows.laid_diorama_schema_words), ("diorama/typing.checks", Rows.laid_diorama_typing_checks)] [.data, .data, .data, .data, .data, .widerDeep, .funcs] true :=
  Program.laidByTextLater.sub seatTie1 ["diorama/dioramaref02.constants", "math/bits.deBruijn32tab", "math/bits.deBruijn64tab", "diorama/hash.constants", "internal/strconv.uint64pow10", "diorama/schema.words", "diorama/typing.checks"] (by kernel_rfl) (by kernel_rfl)
theorem worldBytes_row_tie : Rows.worldBytesRow.laidByTextAt .later Tryz.pinned [.data, .data, .data, .data, .data, .widerDeep, .funcs] true :=
  OpenClaim.laidByTextAt_later rfl rfl tie noOwnUnsafe
theorem tie2 : Tryz.prog.laidByTextLater [("math/bits.deBruijn32tab", Rows.laid_math_bits_deBruijn32tab), ("math/bits.deBruijn64tab", Rows.laid_math_bits_deBruijn64tab), ("internal/strconv.uint64pow10", Rows.laid_internal_strconv_uint64pow10), ("diorama/schema.words", Rows.laid_diorama_schema_words), ("diorama/typing.checks", Rows.laid_diorama_typing_checks)] [.data, .data, .data, .widerDeep, .funcs] true :=
  Program.laidByTextLater.sub seatTie2 ["math/bits.deBruijn32tab", "math/bits.deBruijn64tab", "internal/strconv.uint64pow10", "diorama/schema.words", "diorama/typing.checks"] (by kernel_rfl) (by kernel_rfl)
theorem worldOrder_row_tie : Rows.worldOrderRow.laidByTextAt .later Tryz.pinned [.data, .data, .data, .widerDeep, .funcs] true :=
  OpenClaim.laidByTextAt_later rfl rfl tie2 noOwnUnsafe
theorem worldAnswers_row_tie : Rows.worldAnswersRow.laidByTextAt .later Tryz.pinned [.data, .data, .data, .widerDeep, .funcs] true :=
  OpenClaim.laidByTextAt_later rfl rfl tie2 noOwnUnsafe
theorem worldBytesUpto_row_tie : Rows.worldBytesUptoRow.laidByTextAt .later Tryz.pinned [.data, .data, .data, .data, .data, .widerDeep, .funcs] true :=
  OpenClaim.laidByTextAt_later rfl rfl tie noOwnUnsafe
theorem worldOrderUpto_row_tie : Rows.worldOrderUptoRow.laidByTextAt .later Tryz.pinned [.data, .data, .data, .widerDeep, .funcs] true :=
  OpenClaim.laidByTextAt_later rfl rfl tie2 noOwnUnsafe
theorem worldAnswersUpto_row_tie : Rows.worldAnswersUptoRow.laidByTextAt .later Tryz.pinned [.data, .data, .data, .widerDeep, .funcs] true :=
  OpenClaim.laidByTextAt_later rfl rfl tie2 noOwnUnsafe
end Go.Proofs.YtlcfiilejnnlnaaGreatDoor
