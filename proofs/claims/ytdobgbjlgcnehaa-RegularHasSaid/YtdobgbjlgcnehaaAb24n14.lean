/- Laws of what the library's functions answer. -/
import Derived.Test.YtdobgbjlgcnehaaAb24n13
set_option linter.unusedVariables false
set_option linter.unusedSimpArgs false
set_option linter.unusedSectionVars false
namespace Go.Ab
end Go.Ab
