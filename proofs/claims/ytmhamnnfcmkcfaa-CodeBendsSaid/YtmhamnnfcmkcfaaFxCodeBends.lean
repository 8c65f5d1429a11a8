/- The closed facts of the law CodeBends. -/
import Derived.Test.YtmhamnnfcmkcfaaRows
import Derived.KernelRfl
import Derived.JoinedOf
namespace Go.Proofs.Ytmhamnnfcmkcfaa
theorem codeBends_named : Try.pinned.checked.prog.funcNamed Rows.codeBendsRow.func = some 6 := by kernel_rfl
theorem codeBends_facts : joinedFacts Try.pinned.checked.prog 6 Try.f6 Rows.codeBendsSpec Rows.codeBendsRow = true := by kernel_rfl
end Go.Proofs.Ytmhamnnfcmkcfaa
