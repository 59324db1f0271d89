import Derived.Test.YtajdhhiemabdmaaGreatDoorV3
set_option linter.all false
open Go Go.GP
namespace Gt
set_option maxRecDepth 100000
noncomputable section
end
end Gt
