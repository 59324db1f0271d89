import Derived.Test.YtnkflamioafojaaGreatDoorV3
set_option linter.all false
open Go Go.GP
namespace Gt
set_option maxRecDepth 100000
noncomputable section
def GZ(a0:Int)(a1:rf)(a2:List aP):Option d2g:=
 l9 (dU (a1.1,a1.2,a0) a2) λ(x:d2g×Int)=>some x.1
def Rk(a0:Int)(a1:rf)(a2:V4):Option d2g:=
 l9 (qN (a1.1,a1.2,a0) a2.1) λ(x:d2g×Int)=>some x.1
abbrev ZJ:Type:=Ty.den (.int .i64)
end
end Gt
