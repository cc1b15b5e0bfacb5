import Derived.Test.YtgfehkhcmnfpaaaGreatDoorProg
import Derived.Test.YtgfehkhcmnfpaaaGreatDoorChecked
import Derived.WalkKit
import Derived.WalkLawsBesides
import Derived.Defers
import Derived.Recover
import Derived.Handy
set_option linter.all false
set_option maxRecDepth 20000
set_option maxHeartbeats 4000000
namespace Go.Proofs.YtgfehkhcmnfpaaaGreatDoor.Nrm
open Go Go.RowKit
def Abh(cap:Array Value)(h:cap.size=1):∃x,cap=#[x]:=by
 obtain⟨l⟩:=cap
 match l,h with
 |[x],_=>exact⟨x,rfl⟩
def Ahy(cap:Array Value)(h:cap.size=2):∃x y,cap=#[x,y]:=by
 obtain⟨l⟩:=cap
 match l,h with
 |[x,y],_=>exact⟨x,y,rfl⟩
def Avr(cap:Array Value)(h:cap.size=3):∃x y z,cap=#[x,y,z]:=by
 obtain⟨l⟩:=cap
 match l,h with
 |[x,y,z],_=>exact⟨x,y,z,rfl⟩
def idle_conv(cap:Array Value)(w:World)(h:cap.size=2):CallsD Tryz.prog 142 cap .returning w fun e u' w'=>u'=.returning/\e=.returned (.tuple #[])/\w'=w:=by
 obtain⟨x,y,rfl⟩:=Ahy cap h;refine callsD_of_wpS Tryz.func142 rfl fun c₀ cs hu=>?_
 apply wpS_seq;apply wpS_region;simp[wpOpsS,go_sem,recoverD,hu,Tryz.ntmps142,Exit.thenS];apply wpS_seq;apply wpS_region;simp[wpOpsS,go_sem,recoverD,hu,Exit.thenS];refine wpS_cond (t:=false) (by simp[Act.eval,Array.replicate]) ?_;simp only[Bool.false_eq_true,if_false];refine wpS_of_wp (wp_skip ?_);cases c₀;simp_all[bodyPostS,results,Tryz.results142]
def idle_quick(cap:Array Value)(w:World)(h:cap.size=2):CallsD Tryz.prog 204 cap .returning w fun e u' w'=>u'=.returning/\e=.returned (.tuple #[])/\w'=w:=by
 obtain⟨x,y,rfl⟩:=Ahy cap h;refine callsD_of_wpS Tryz.func204 rfl fun c₀ cs hu=>?_
 apply wpS_seq;apply wpS_region;simp[wpOpsS,go_sem,recoverD,hu,Tryz.ntmps204,Exit.thenS];apply wpS_seq;apply wpS_region;simp[wpOpsS,go_sem,recoverD,hu,Exit.thenS];refine wpS_cond (t:=false) (by simp[Act.eval,Array.replicate]) ?_;simp only[Bool.false_eq_true,if_false];refine wpS_of_wp (wp_skip ?_);cases c₀;simp_all[bodyPostS,results,Tryz.results204]
def idle_mctx(cap:Array Value)(w:World)(h:cap.size=1):CallsD Tryz.prog 103 cap .returning w fun e u' w'=>u'=.returning/\e=.returned (.tuple #[])/\w'=w:=by
 obtain⟨x,rfl⟩:=Abh cap h;refine callsD_of_wpS Tryz.func103 rfl fun c₀ cs hu=>?_
 apply wpS_seq;apply wpS_region;simp[wpOpsS,go_sem,recoverD,hu,Tryz.ntmps103,Exit.thenS];apply wpS_seq;apply wpS_region;simp[wpOpsS,go_sem,recoverD,hu,Exit.thenS];refine wpS_cond (t:=false) (by simp[Act.eval,Array.replicate]) ?_;simp only[Bool.false_eq_true,if_false];refine wpS_of_wp (wp_skip ?_);cases c₀;simp_all[bodyPostS,results,Tryz.results103]
def idle_mtype(cap:Array Value)(w:World)(h:cap.size=3):CallsD Tryz.prog 140 cap .returning w fun e u' w'=>u'=.returning/\e=.returned (.tuple #[])/\w'=w:=by
 obtain⟨x,y,z,rfl⟩:=Avr cap h;refine callsD_of_wpS Tryz.func140 rfl fun c₀ cs hu=>?_
 apply wpS_seq;apply wpS_region;simp[wpOpsS,go_sem,recoverD,hu,Tryz.ntmps140,Exit.thenS];apply wpS_seq;apply wpS_region;simp[wpOpsS,go_sem,recoverD,hu,Exit.thenS];refine wpS_cond (t:=false) (by simp[Act.eval,Array.replicate]) ?_;simp only[Bool.false_eq_true,if_false];refine wpS_of_wp (wp_skip ?_);cases c₀;simp_all[bodyPostS,results,Tryz.results140]
def idle_kctx(cap:Array Value)(w:World)(h:cap.size=1):CallsD Tryz.prog 109 cap .returning w fun e u' w'=>u'=.returning/\e=.returned (.tuple #[])/\w'=w:=by
 obtain⟨x,rfl⟩:=Abh cap h;refine callsD_of_wpS Tryz.func109 rfl fun c₀ cs hu=>?_
 apply wpS_seq;apply wpS_region;simp[wpOpsS,go_sem,recoverD,hu,Tryz.ntmps109,Exit.thenS];apply wpS_seq;apply wpS_region;simp[wpOpsS,go_sem,recoverD,hu,Exit.thenS];refine wpS_cond (t:=false) (by simp[Act.eval,Array.replicate]) ?_;simp only[Bool.false_eq_true,if_false];refine wpS_of_wp (wp_skip ?_);cases c₀;simp_all[bodyPostS,results,Tryz.results109]
def idle_kcheck(cap:Array Value)(w:World)(h:cap.size=1):CallsD Tryz.prog 116 cap .returning w fun e u' w'=>u'=.returning/\e=.returned (.tuple #[])/\w'=w:=by
 obtain⟨x,rfl⟩:=Abh cap h;refine callsD_of_wpS Tryz.func116 rfl fun c₀ cs hu=>?_
 apply wpS_seq;apply wpS_region;simp[wpOpsS,go_sem,recoverD,hu,Tryz.ntmps116,Exit.thenS];apply wpS_seq;apply wpS_region;simp[wpOpsS,go_sem,recoverD,hu,Exit.thenS];refine wpS_cond (t:=false) (by simp[Act.eval,Array.replicate]) ?_;simp only[Bool.false_eq_true,if_false];refine wpS_of_wp (wp_skip ?_);cases c₀;simp_all[bodyPostS,results,Tryz.results116]
def b9:Nat:=4621256167635550208
def All(w:World):(convert 66 3 (.float .f64 4621256167635550208)).run Tryz.prog w=.ok (.int .i64 9) w:=by kernel_rfl
def limit_9(w:World):Calls Tryz.prog 143 #[.float .f64 4621256167635550208] w fun e w'=>e=.returned (.int .i64 9)/\w'=w:=by
 have hc:=All w;have o1:FloatKind.f64.format.order 4621256167635550208 4621256167635550208=some .eq:=by decide +kernel
 have o2:FloatKind.f64.format.order 4621256167635550208 0=some .gt:=by decide +kernel
 have o3:FloatKind.f64.format.order 4621256167635550208 4741671816366391296=some .lt:=by decide +kernel
 go_enter Tryz.func143,Tryz.ntmps143
 go_wp2
 all_goals
  go_ret
  exact⟨rfl,rfl⟩
def so_true(w:World):Calls Tryz.prog 137 #[.bool true] w fun e w'=>e=.returned (.tuple #[])/\w'=w:=by
 go_enter Tryz.func137,Tryz.ntmps137
 go_wp2
 all_goals
  go_returns
  exact⟨rfl,rfl⟩
end Go.Proofs.YtgfehkhcmnfpaaaGreatDoor.Nrm
