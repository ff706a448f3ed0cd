/- What is refused changes nothing: the given statement FnTableCodes, with no condition. -/
import Derived.Test.YtlojldccjmkikaaL1
import Derived.Test.YtlojldccjmkikaaR1
set_option linter.unusedVariables false
set_option linter.unusedSimpArgs false
/-! What is refused changes nothing: the given statement, with no condition. -/
namespace Go.Proofs.Ytlojldccjmkikaa
open Go.Ae
theorem FnTableCodes_holds : Rows.FnTableCodesSaid := CodesRow.over fun code more h1 h2 => by
  have h := lw_FnTableCodes_c code more h1 h2
  rw [law_all] at h
  exact h
end Go.Proofs.Ytlojldccjmkikaa
