import Derived.Test.YtgdkddjdhijfnaaGreatDoorXLl
import Derived.Test.YtgdkddjdhijfnaaGreatDoorXYg
set_option linter.all false
set_option maxRecDepth 20000
set_option maxHeartbeats 4000000
namespace Go.Proofs.YtgdkddjdhijfnaaGreatDoor.Abs
open Go Go.RowKit Go.Proofs.YtgdkddjdhijfnaaGreatDoor
section
variable{t x u:Tm}{o:Bool}{l:List Int}{f:Nat}(he:Con 8 [.dsl 5 [tv t]] (.bool o))
include he
end
end Go.Proofs.YtgdkddjdhijfnaaGreatDoor.Abs
