import Derived.Test.YtgdkddjdhijfnaaGreatDoorXLl
set_option linter.all false
set_option maxRecDepth 20000
set_option maxHeartbeats 4000000
namespace Go.Proofs.YtgdkddjdhijfnaaGreatDoor.Abs
open Go Go.RowKit Go.Proofs.YtgdkddjdhijfnaaGreatDoor
def Ajz(a b c:Tm)(f:Nat):∀x∈[SV.agg true (tv a),.agg true (tv b),.agg true (tv c),.float .f64 f],NoG x:=by
 intro x hx;simp only[q_kb,q_kc,or_false] at hx;rcases hx with rfl|rfl|rfl|rfl
 ·exact Qd _ true
 ·exact Qd _ true
 ·exact Qd _ true
 ·exact .float _ _
def Amz{a xa c xc d xd:Tm}{b b' b2:Bool}(ha:Con 16 [.agg true (tv a)] (.tup [.agg true (tv xa),.bool b]))(hc:Con 16 [.agg true (tv c)] (.tup [.agg true (tv xc),.bool b']))(hd:Con 16 [.agg true (tv d)] (.tup [.agg true (tv xd),.bool b2])):Con 8 [.dsl 5 [tv a,tv c,tv d]] (.bool (b && b' && b2)):=by
 refine Au mixed Tryz.func8 tr8 ?_;cases b<;>cases b'<;>cases b2 <;>
 repeat' first
  |simp (config:={ maxSteps:=2000000 }) only[go_sem,seval]
  |refine Af (ha) ?_
  |refine Af (hc) ?_
  |refine Af (hd) ?_
  |refine Bd ?_
  |refine Cv 6 ?_
  |rfl
end Go.Proofs.YtgdkddjdhijfnaaGreatDoor.Abs
