import Derived.Test.YticelcjhokgcbaaEv40n7
import Derived.Test.YticelcjhokgcbaaAb24n21
set_option linter.unusedVariables false
set_option linter.unusedSectionVars false
namespace Go.Ab
noncomputable section
open Enc (enc)
variable {P:Program} {F:Fr} {σ:St} {o:Oper}
end
end Go.Ab
