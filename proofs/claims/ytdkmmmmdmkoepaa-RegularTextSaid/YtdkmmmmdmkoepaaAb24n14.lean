import Derived.Test.YtdkmmmmdmkoepaaAb24n13
set_option linter.unusedVariables false
set_option linter.unusedSimpArgs false
set_option linter.unusedSectionVars false
namespace Go.Ab
end Go.Ab
