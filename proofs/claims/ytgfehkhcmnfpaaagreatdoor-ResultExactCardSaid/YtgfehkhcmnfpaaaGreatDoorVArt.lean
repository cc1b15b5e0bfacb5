import Derived.Test.YtgfehkhcmnfpaaaGreatDoorVTm
import Derived.Test.YtgfehkhcmnfpaaaGreatDoorProg
import Derived.KernelRfl
set_option linter.all false
set_option maxRecDepth 20000
set_option maxHeartbeats 4000000
namespace Go.Proofs.YtgfehkhcmnfpaaaGreatDoor.Abs
open Go Go.RowKit Go.Proofs.YtgfehkhcmnfpaaaGreatDoor
def A4m{P:Program}{t:TypeId}{ts:List TypeId}{args:List SV}(h:Si P (t::ts) args):∃x xs,args=x::xs/\Sh P t x/\Si P ts xs:=by
 cases args with
 |nil=>exact h.elim
 |cons x xs=>exact⟨x,xs,rfl,h.1,h.2⟩
def A4n{P:Program}{args:List SV}(h:Si P [] args):args=[]:=by
 cases args with
 |nil=>rfl
 |cons x xs=>exact h.elim
def own:ownKnob Tryz.prog.godebug=none:=by kernel_rfl
def laid:laidOutB Tryz.prog=true:=by kernel_rfl
def tmT:TmT Tryz.prog 25 23 3:=⟨by kernel_rfl,by kernel_rfl,by kernel_rfl,by kernel_rfl,by kernel_rfl⟩
end Go.Proofs.YtgfehkhcmnfpaaaGreatDoor.Abs
