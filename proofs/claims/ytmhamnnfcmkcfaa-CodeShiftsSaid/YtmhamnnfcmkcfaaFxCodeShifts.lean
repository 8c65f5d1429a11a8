/- The closed facts of the law CodeShifts. -/
import Derived.Test.YtmhamnnfcmkcfaaRows
import Derived.KernelRfl
import Derived.JoinedOf
namespace Go.Proofs.Ytmhamnnfcmkcfaa
theorem codeShifts_named : Try.pinned.checked.prog.funcNamed Rows.codeShiftsRow.func = some 7 := by kernel_rfl
theorem codeShifts_facts : joinedFacts Try.pinned.checked.prog 7 Try.f7 Rows.codeShiftsSpec Rows.codeShiftsRow = true := by kernel_rfl
end Go.Proofs.Ytmhamnnfcmkcfaa
