import Derived.Test.YtmppebmaeckklaaGreatDoorV3
import Derived.Test.YtmppebmaeckklaaGreatDoorV5
set_option linter.all false
namespace Go.GP
open Gt
theorem IQ:∀x,a2H Gt.ps3 x->(Gt.s3.fn x:c5C)=some true:=λx h=>a0K (l:=x.1) (k:=x.2.1) (d:=x.2.2.1) (t:=x.2.2.2) (c4v h.1)
end Go.GP
