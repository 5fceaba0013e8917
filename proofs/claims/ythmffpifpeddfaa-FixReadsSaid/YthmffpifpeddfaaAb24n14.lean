import Derived.Test.YthmffpifpeddfaaAb24n13
set_option linter.unusedVariables false
namespace Go.Ab
end Go.Ab
