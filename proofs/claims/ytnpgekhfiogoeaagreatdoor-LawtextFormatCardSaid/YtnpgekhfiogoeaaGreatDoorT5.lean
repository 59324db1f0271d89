import Derived.Test.YtnpgekhfiogoeaaGreatDoorT3
set_option linter.all false
open Go Go.GP
namespace Gt
set_option maxRecDepth 100000
noncomputable section
abbrev lW:Type:=Ty.den (.prod (.int .i64) (.prod (.int .i64) (.prod (.int .i64) (.int .i64))))
end
end Gt
