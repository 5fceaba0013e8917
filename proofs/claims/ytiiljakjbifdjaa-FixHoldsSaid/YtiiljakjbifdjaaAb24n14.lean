import Derived.Test.YtiiljakjbifdjaaAb24n13
set_option linter.unusedVariables false
namespace Go.Ab
end Go.Ab
