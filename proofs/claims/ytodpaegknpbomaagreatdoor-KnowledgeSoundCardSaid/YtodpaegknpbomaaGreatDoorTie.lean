/-
  DERIVED. GIVEN WITH THE SEED: THE PROGRAM's TIES (one call each: nine closed facts by the kernel) AND EACH ROW's TIE, after the 31st guide's Derived/Test/Toyas{Tie, Card}.lean. No idea stands in it: it is a product of the set-up. Laid BY PROGRAM, IN A SANDBOX (cutbox-door.mjs). By AI agents, Wed Nov 11 2026. No macro, syntax, notation, axiom, sorry.
-/
import Derived.Test.YtodpaegknpbomaaGreatDoorRows
import Derived.LaidByTextLater
import Derived.SevenTiedAt
import Derived.LaidSub
import Derived.LaidOnce
namespace Go.Proofs.YtodpaegknpbomaaGreatDoor
open Go
set_option maxRecDepth 100000
theorem seatTie1 : Tryz.prog.laidByTextLater [("chartroom/digest.start", Rows.laid_chartroom_digest_start), ("chartroom/digest.numbers", Rows.laid_chartroom_digest_numbers), ("bytes.ErrTooLarge", Rows.laid_bytes_ErrTooLarge), ("chartroom/cipher.constants", Rows.laid_chartroom_cipher_constants), ("chartroom/schedule.labels", Rows.laid_chartroom_schedule_labels), ("chartroom/grants.errGroup", Rows.laid_chartroom_grants_errGroup), ("chartroom/grants.errMember", Rows.laid_chartroom_grants_errMember)] [.data, .data, .sentinel, .widerDeep, .data, .sentinel, .sentinel] true :=
  Program.laidByTextLater_by_one 86 8 65 (by kernel_rfl) (by kernel_rfl) (by kernel_rfl) (by kernel_rfl) (by kernel_rfl) (by kernel_rfl) (fun _ _ => by kernel_rfl)
theorem noOwnUnsafe : Tryz.pinned.checked.prog.headLifts.contains "ownunsafe" = false := by kernel_rfl
theorem tie : Tryz.prog.laidByTextLater [("chartroom/digest.start", Rows.laid_chartroom_digest_start), ("chartroom/digest.numbers", Rows.laid_chartroom_digest_numbers), ("bytes.ErrTooLarge", Rows.laid_bytes_ErrTooLarge), ("chartroom/cipher.constants", Rows.laid_chartroom_cipher_constants), ("chartroom/schedule.labels", Rows.laid_chartroom_schedule_labels), ("chartroom/grants.errGroup", Rows.laid_chartroom_grants_errGroup), ("chartroom/grants.errMember", Rows.laid_chartroom_grants_errMember)] [.data, .data, .sentinel, .widerDeep, .data, .sentinel, .sentinel] true :=
  Program.laidByTextLater.sub seatTie1 ["chartroom/digest.start", "chartroom/digest.numbers", "bytes.ErrTooLarge", "chartroom/cipher.constants", "chartroom/schedule.labels", "chartroom/grants.errGroup", "chartroom/grants.errMember"] (by kernel_rfl) (by kernel_rfl)
theorem knowledgeSound_row_tie : Rows.knowledgeSoundRow.laidByTextAt .later Tryz.pinned [.data, .data, .sentinel, .widerDeep, .data, .sentinel, .sentinel] true :=
  OpenClaim.laidByTextAt_later rfl rfl tie noOwnUnsafe
theorem knowledgeClosed_row_tie : Rows.knowledgeClosedRow.laidByTextAt .later Tryz.pinned [.data, .data, .sentinel, .widerDeep, .data, .sentinel, .sentinel] true :=
  OpenClaim.laidByTextAt_later rfl rfl tie noOwnUnsafe
theorem knowledgeMore_row_tie : Rows.knowledgeMoreRow.laidByTextAt .later Tryz.pinned [.data, .data, .sentinel, .widerDeep, .data, .sentinel, .sentinel] true :=
  OpenClaim.laidByTextAt_later rfl rfl tie noOwnUnsafe
theorem knowledgeTogether_row_tie : Rows.knowledgeTogetherRow.laidByTextAt .later Tryz.pinned [.data, .data, .sentinel, .widerDeep, .data, .sentinel, .sentinel] true :=
  OpenClaim.laidByTextAt_later rfl rfl tie noOwnUnsafe
theorem knowledgeSoundUpto_row_tie : Rows.knowledgeSoundUptoRow.laidByTextAt .later Tryz.pinned [.data, .data, .sentinel, .widerDeep, .data, .sentinel, .sentinel] true :=
  OpenClaim.laidByTextAt_later rfl rfl tie noOwnUnsafe
theorem knowledgeClosedUpto_row_tie : Rows.knowledgeClosedUptoRow.laidByTextAt .later Tryz.pinned [.data, .data, .sentinel, .widerDeep, .data, .sentinel, .sentinel] true :=
  OpenClaim.laidByTextAt_later rfl rfl tie noOwnUnsafe
theorem knowledgeMoreUpto_row_tie : Rows.knowledgeMoreUptoRow.laidByTextAt .later Tryz.pinned [.data, .data, .sentinel, .widerDeep, .data, .sentinel, .sentinel] true :=
  OpenClaim.laidByTextAt_later rfl rfl tie noOwnUnsafe
theorem knowledgeTogetherUpto_row_tie : Rows.knowledgeTogetherUptoRow.laidByTextAt .later Tryz.pinned [.data, .data, .sentinel, .widerDeep, .data, .sentinel, .sentinel] true :=
  OpenClaim.laidByTextAt_later rfl rfl tie noOwnUnsafe
end Go.Proofs.YtodpaegknpbomaaGreatDoor
