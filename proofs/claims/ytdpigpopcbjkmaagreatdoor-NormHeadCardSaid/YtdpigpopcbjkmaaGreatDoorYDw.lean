import Derived.Test.YtdpigpopcbjkmaaGreatDoorProg
import Derived.Test.YtdpigpopcbjkmaaGreatDoorChecked
import Derived.WalkKit
import Derived.WalkLawsBesides
import Derived.Defers
import Derived.Recover
import Derived.Test.YtdpigpopcbjkmaaGreatDoorYTs
import Derived.Test.YtdpigpopcbjkmaaGreatDoorYPf
import Derived.Test.YtdpigpopcbjkmaaGreatDoorYRf
import Derived.Test.YtdpigpopcbjkmaaGreatDoorYPc
import Derived.OneCell
import Derived.Test.YtdpigpopcbjkmaaGreatDoorYDo
import Derived.Test.YtdpigpopcbjkmaaGreatDoorYEv
set_option linter.unusedSimpArgs false
set_option linter.unusedVariables false
set_option maxRecDepth 20000
set_option maxHeartbeats 4000000
namespace Go.Proofs.YtdpigpopcbjkmaaGreatDoor.Nrm
open Go Go.RowKit
theorem Aow(cap:Array Value)(h:cap.size=2):∃x y,cap=#[x,y]:=by
 obtain⟨l⟩:=cap
 match l,h with
 |[x,y],_=>exact⟨x,y,rfl⟩
theorem idle_norm(cap:Array Value)(w:World)(h:cap.size=2):CallsD Tryz.prog 31 cap .returning w fun e u' w'=>u'=.returning/\e=.returned (.tuple #[])/\w'=w:=by
 obtain⟨x,y,rfl⟩:=Aow cap h;refine callsD_of_wpS Tryz.func31 rfl fun c₀ cs hu=>?_
 apply wpS_seq;apply wpS_region;simp[wpOpsS,go_sem,recoverD,hu,Tryz.ntmps31,Exit.thenS];apply wpS_seq;apply wpS_region;simp[wpOpsS,go_sem,recoverD,hu,Exit.thenS];refine wpS_cond (t:=false) (by simp[Act.eval,Array.replicate]) ?_;simp only[Bool.false_eq_true,if_false];refine wpS_of_wp (wp_skip ?_);cases c₀;simp_all[bodyPostS,results,Tryz.results31]
theorem idle_head(cap:Array Value)(w:World)(h:cap.size=2):CallsD Tryz.prog 44 cap .returning w fun e u' w'=>u'=.returning/\e=.returned (.tuple #[])/\w'=w:=by
 obtain⟨x,y,rfl⟩:=Aow cap h;refine callsD_of_wpS Tryz.func44 rfl fun c₀ cs hu=>?_
 apply wpS_seq;apply wpS_region;simp[wpOpsS,go_sem,recoverD,hu,Tryz.ntmps44,Exit.thenS];apply wpS_seq;apply wpS_region;simp[wpOpsS,go_sem,recoverD,hu,Exit.thenS];refine wpS_cond (t:=false) (by simp[Act.eval,Array.replicate]) ?_;simp only[Bool.false_eq_true,if_false];refine wpS_of_wp (wp_skip ?_);cases c₀;simp_all[bodyPostS,results,Tryz.results44]
theorem Av8(w:World):(convert 25 3 (.float .f64 4607182418800017408)).run Tryz.prog w=.ok (.int .i64 1) w:=by
 kernel_rfl
theorem limit_one(w:World):Calls Tryz.prog 34 #[.float .f64 4607182418800017408] w fun e w'=>e=.returned (.int .i64 1)/\w'=w:=by
 have hc:=Av8
 go_enter Tryz.func34,Tryz.ntmps34
 go_wp2
 all_goals
  go_ret
  exact⟨rfl,rfl⟩
end Go.Proofs.YtdpigpopcbjkmaaGreatDoor.Nrm
namespace Go.Proofs.YtdpigpopcbjkmaaGreatDoor.Abs
open Go Go.RowKit Go.Proofs.YtdpigpopcbjkmaaGreatDoor
def zt:Tm:=.mk 0 0 0 0 []
theorem Aat(n:Int):Le (.tup [.agg true [.int .i64 0,.int .i64 0,.int .i64 0,.int .i64 0,.nils],.int .i64 n]) (.tup [.agg true (tv zt),.int .i64 n]):=by
 refine .tup _ _ (.cons _ _ _ _ ?_ (.cons _ _ _ _ (.cell _ _ (.refl _)) .nil));rw[zt,Ak];exact .agg _ _ (.cons _ _ _ _ (.refl _) (.cons _ _ _ _ (.refl _) (.cons _ _ _ _ (.refl _) (.cons _ _ _ _ (.refl _) (.cons _ _ _ _ (.nils 5) .nil)))))
theorem Aap(cap:Array Value)(w:World):(invoke (.fn (.func 31) cap) #[]).run Tryz.prog w=.ok (.enter 31 cap) w:=by
 simp[go_sem]
theorem Ae4(cap:Array Value)(w:World):(invoke (.fn (.func 44) cap) #[]).run Tryz.prog w=.ok (.enter 44 cap) w:=by
 simp[go_sem]
theorem Sd(t:Tm)(b:Nat):∀x∈[SV.agg true (tv t),.float .f64 b],NoG x:=by
 intro x hx;simp only[List.mem_cons,List.not_mem_nil,or_false] at hx;rcases hx with rfl|rfl
 ·exact Zk t true
 ·exact .float _ _
theorem A8k(k i j n e:Int):NoG (.tup [.agg true [.int .i64 k,.int .i64 i,.int .i64 j,.int .i64 n,.nils],.int .i64 e]):=by
 refine .tup _ (fun x hx=>?_);simp only[List.mem_cons,List.not_mem_nil,or_false] at hx;rcases hx with rfl|rfl
 ·refine .agg _ _ (fun y hy=>?_);simp only[List.mem_cons,List.not_mem_nil,or_false] at hy;rcases hy with rfl|rfl|rfl|rfl|rfl<;>first|exact .int _ _|exact .nils
 ·exact .int _ _
theorem Aa4(t:Tm)(e:Int):NoG (.tup [.agg true (tv t),.int .i64 e]):=by
 refine .tup _ (fun x hx=>?_);simp only[List.mem_cons,List.not_mem_nil,or_false] at hx;rcases hx with rfl|rfl
 ·exact Zk t true
 ·exact .int _ _
theorem A9a(t:Tm)(ht:TOk t)(hp:Cb t=false)(b:Nat):Con 14 [.agg true (tv t),.float .f64 b] (.tup [.agg true (tv zt),.int .i64 1]):=by
 refine (Ac1 (r:=.tup [.agg true [.int .i64 0,.int .i64 0,.int .i64 0,.int .i64 0,.nils],.int .i64 1]) mixed Tryz.func14 tr14 Aap Nrm.idle_norm (Sd t b) (A8k _ _ _ _ _) ?_).weaken (Aat 1);have hc:=Rd t ht;rw[show Ef t 2=false from hp] at hc;have h5:=Ae t;generalize tv t=r at *
 simp only[go_sem,seval,h5];refine Aa hc ?_;simp only[go_sem,seval]
theorem Aht:Con 34 [.float .f64 4607182418800017408] (.int .i64 1):=by
 intro m w vs h1 h2 h3;obtain⟨v,rfl⟩:∃v,vs=[v]:=by
  match vs,h2 with
  |[v],_=>exact⟨v,rfl⟩
 have hv:=h3 0 v _ rfl rfl;cases hv;refine Calls.mono (Nrm.limit_one w) (fun e w' he=>?_);obtain⟨rfl,rfl⟩:=he;exact⟨_,m,rfl,.int _ _,⟨.refl m,rfl⟩,fun _ _ _=>rfl,h1,rfl,rfl,rfl,Nat.le_refl _,fun _ _=>rfl⟩
end Go.Proofs.YtdpigpopcbjkmaaGreatDoor.Abs
namespace Go.Proofs.YtdpigpopcbjkmaaGreatDoor.Nrm
open Go Go.RowKit
structure Bg(w w':World):Prop where
 os:w'.os=w.os
 tape:w'.tape=w.tape
 output:w'.output=w.output
 size:w.heap.size<=w'.heap.size
 old:∀k,k<w.heap.size->w'.heap[k]?=w.heap[k]?
theorem Aqf(w:World)(o:Obj):Bg w (w.alloc o):=⟨rfl,rfl,rfl,(by show w.heap.size<=(w.heap.push o).size;simp),fun k hk=>(by show (w.heap.push o)[k]?=w.heap[k]?;simp[Array.getElem?_push,Nat.ne_of_lt hk])⟩
theorem Ap6(w:World):(Instr.typeAssert (.iface 75 (.agg #[])) 20 75 true).run Tryz.prog w=.ok (.tuple #[.agg #[],.bool true]) w:=by
 kernel_rfl
theorem Ai0(w:World):Calls Tryz.prog 32 #[.iface 75 (.agg #[])] w fun e w'=>e=.returned (.int .i64 6)/\Bg w w':=by
 have ha:=Ap6
 go_enter Tryz.func32,Tryz.ntmps32
 go_wp2
 go_ret
 exact⟨rfl,Aqf _ _⟩
def outV:Value:=.iface 75 (.agg #[])
theorem m9{w:World}{b:Nat}{c:Array Value}{e:TypeId}(h:w.heap[b]?=some (.cells c e (0,0)))(j:Nat):w.cell? ⟨b,j,none⟩=c[j]?:=by simp[World.cell?,h]
theorem Md{w:World}{b:Nat}{c:Array Value}{e:TypeId}(h:w.heap[b]?=some (.cells c e (0,0)))(j:Nat):w.frozen? ⟨b,j,none⟩=false:=by simp[World.frozen?,h]
structure Rc(w w':World)(b4 b5:Nat):Prop where
 os:w'.os=w.os
 tape:w'.tape=w.tape
 output:w'.output=w.output
 size:w.heap.size<=w'.heap.size
 old:∀k,k<w.heap.size->k≠b4->k≠b5->w'.heap[k]?=w.heap[k]?
 c0:w'.cell? ⟨b4,0,none⟩=some (.int .i64 0)
 c1:w'.cell? ⟨b4,1,none⟩=some (.int .i64 0)
 c2:w'.cell? ⟨b4,2,none⟩=some (.int .i64 0)
 c3:w'.cell? ⟨b4,3,none⟩=some (.int .i64 0)
 c4:w'.cell? ⟨b4,4,none⟩=some (.slice none 0 0)
 c5:w'.cell? ⟨b5,0,none⟩=some (.int .i64 6)
theorem Er{w:World}{b j b' j':Nat}{v:Value}(h:b≠b'\/j≠j'):(w.setCell ⟨b',j',none⟩ v).cell? ⟨b,j,none⟩=w.cell? ⟨b,j,none⟩:=by
 by_cases hb:b'=b
 ·subst hb;have hj:j'≠j:=fun e=>by rcases h with h|h;exact h rfl;exact h e.symm
  simp only[World.setCell,World.cell?,Array.getElem?_modify,if_true];cases w.heap[b']? with
  |none=>rfl
  |some o=>cases o<;>simp[Array.getElem?_setIfInBounds,hj]
 ·simp only[World.setCell,World.cell?,Array.getElem?_modify,hb,if_false]
theorem Vg{w:World}{b j:Nat}{v u:Value}(h:w.cell? ⟨b,j,none⟩=some u):(w.setCell ⟨b,j,none⟩ v).cell? ⟨b,j,none⟩=some v:=by
 simp only[World.setCell,World.cell?,Array.getElem?_modify,if_true] at h |-;cases hq:w.heap[b]? with
 |none=>rw[hq] at h;cases h
 |some o=>
  rw[hq] at h;cases o<;>simp_all[Array.getElem?_setIfInBounds]
  all_goals (try (have:=(Array.getElem?_eq_some_iff.1 h).1;simp_all))
theorem heap_set{w:World}{b j k:Nat}{v:Value}(h:k≠b):(w.setCell ⟨b,j,none⟩ v).heap[k]?=w.heap[k]?:=RowKit.Below.heap_setCell _ _ _ _ h
theorem Bex(w:World)(a:Addr)(v:Value):(w.setCell a v).os=w.os:=rfl
theorem Be2(w:World)(a:Addr)(v:Value):(w.setCell a v).tape=w.tape:=rfl
theorem Bey(w:World)(a:Addr)(v:Value):(w.setCell a v).output=w.output:=rfl
theorem Be0(w:World)(a:Addr)(v:Value):(w.setCell a v).heap.size=w.heap.size:=by simp[World.setCell]
structure F6(w:World)(b4 b5:Nat)(v0 v1 v2 v3 v4 v5:Value):Prop where
 ne:b4≠b5
 c0:w.cell? ⟨b4,0,none⟩=some v0
 c1:w.cell? ⟨b4,1,none⟩=some v1
 c2:w.cell? ⟨b4,2,none⟩=some v2
 c3:w.cell? ⟨b4,3,none⟩=some v3
 c4:w.cell? ⟨b4,4,none⟩=some v4
 c5:w.cell? ⟨b5,0,none⟩=some v5
theorem F6.s0{w:World}{b4 b5:Nat}{v0 v1 v2 v3 v4 v5:Value}(h:F6 w b4 b5 v0 v1 v2 v3 v4 v5)(x:Value):F6 (w.setCell ⟨b4,0,none⟩ x) b4 b5 x v1 v2 v3 v4 v5:=
 ⟨h.ne,Vg h.c0,(Er (.inr (show (1:Nat)≠0 by decide))).trans h.c1,(Er (.inr (show (2:Nat)≠0 by decide))).trans h.c2,(Er (.inr (show (3:Nat)≠0 by decide))).trans h.c3,(Er (.inr (show (4:Nat)≠0 by decide))).trans h.c4,(Er (.inl (Ne.symm h.ne))).trans h.c5⟩
theorem F6.s1{w:World}{b4 b5:Nat}{v0 v1 v2 v3 v4 v5:Value}(h:F6 w b4 b5 v0 v1 v2 v3 v4 v5)(x:Value):F6 (w.setCell ⟨b4,1,none⟩ x) b4 b5 v0 x v2 v3 v4 v5:=
 ⟨h.ne,(Er (.inr (show (0:Nat)≠1 by decide))).trans h.c0,Vg h.c1,(Er (.inr (show (2:Nat)≠1 by decide))).trans h.c2,(Er (.inr (show (3:Nat)≠1 by decide))).trans h.c3,(Er (.inr (show (4:Nat)≠1 by decide))).trans h.c4,(Er (.inl (Ne.symm h.ne))).trans h.c5⟩
theorem F6.s2{w:World}{b4 b5:Nat}{v0 v1 v2 v3 v4 v5:Value}(h:F6 w b4 b5 v0 v1 v2 v3 v4 v5)(x:Value):F6 (w.setCell ⟨b4,2,none⟩ x) b4 b5 v0 v1 x v3 v4 v5:=
 ⟨h.ne,(Er (.inr (show (0:Nat)≠2 by decide))).trans h.c0,(Er (.inr (show (1:Nat)≠2 by decide))).trans h.c1,Vg h.c2,(Er (.inr (show (3:Nat)≠2 by decide))).trans h.c3,(Er (.inr (show (4:Nat)≠2 by decide))).trans h.c4,(Er (.inl (Ne.symm h.ne))).trans h.c5⟩
theorem F6.s3{w:World}{b4 b5:Nat}{v0 v1 v2 v3 v4 v5:Value}(h:F6 w b4 b5 v0 v1 v2 v3 v4 v5)(x:Value):F6 (w.setCell ⟨b4,3,none⟩ x) b4 b5 v0 v1 v2 x v4 v5:=
 ⟨h.ne,(Er (.inr (show (0:Nat)≠3 by decide))).trans h.c0,(Er (.inr (show (1:Nat)≠3 by decide))).trans h.c1,(Er (.inr (show (2:Nat)≠3 by decide))).trans h.c2,Vg h.c3,(Er (.inr (show (4:Nat)≠3 by decide))).trans h.c4,(Er (.inl (Ne.symm h.ne))).trans h.c5⟩
theorem F6.s4{w:World}{b4 b5:Nat}{v0 v1 v2 v3 v4 v5:Value}(h:F6 w b4 b5 v0 v1 v2 v3 v4 v5)(x:Value):F6 (w.setCell ⟨b4,4,none⟩ x) b4 b5 v0 v1 v2 v3 x v5:=
 ⟨h.ne,(Er (.inr (show (0:Nat)≠4 by decide))).trans h.c0,(Er (.inr (show (1:Nat)≠4 by decide))).trans h.c1,(Er (.inr (show (2:Nat)≠4 by decide))).trans h.c2,(Er (.inr (show (3:Nat)≠4 by decide))).trans h.c3,Vg h.c4,(Er (.inl (Ne.symm h.ne))).trans h.c5⟩
theorem F6.s5{w:World}{b4 b5:Nat}{v0 v1 v2 v3 v4 v5:Value}(h:F6 w b4 b5 v0 v1 v2 v3 v4 v5)(x:Value):F6 (w.setCell ⟨b5,0,none⟩ x) b4 b5 v0 v1 v2 v3 v4 x:=
 ⟨h.ne,(Er (.inl h.ne)).trans h.c0,(Er (.inl h.ne)).trans h.c1,(Er (.inl h.ne)).trans h.c2,(Er (.inl h.ne)).trans h.c3,(Er (.inl h.ne)).trans h.c4,Vg h.c5⟩
theorem Ann{w w':World}{b4 b5:Nat}(hb:Bg w w')(h:F6 w' b4 b5 (.int .i64 0) (.int .i64 0) (.int .i64 0) (.int .i64 0) (.slice none 0 0) (.int .i64 0)) :
  Rc w ((((((w'.setCell ⟨b4,0,none⟩ (.int .i64 0)).setCell ⟨b4,1,none⟩ (.int .i64 0)).setCell ⟨b4,2,none⟩ (.int .i64 0)).setCell ⟨b4,3,none⟩ (.int .i64 0)).setCell ⟨b4,4,none⟩ (.slice none 0 0)).setCell ⟨b5,0,none⟩ (.int .i64 6)) b4 b5:=by
 have f:=(((((h.s0 (.int .i64 0)).s1 (.int .i64 0)).s2 (.int .i64 0)).s3 (.int .i64 0)).s4 (.slice none 0 0)).s5 (.int .i64 6);refine⟨?_,?_,?_,?_,fun k hk h4 h5=>?_,f.c0,f.c1,f.c2,f.c3,f.c4,f.c5⟩
 ·simp only[Bex];exact hb.os
 ·simp only[Be2];exact hb.tape
 ·simp only[Bey];exact hb.output
 ·simp only[Be0];exact hb.size
 ·rw[heap_set h5,heap_set h4,heap_set h4,heap_set h4,heap_set h4,heap_set h4];exact hb.old k hk
theorem A8s(tmps:Array Value)(w:World):(results Tryz.f31 tmps).run Tryz.prog w=.ok (.tuple #[]) w:=by simp[results,Tryz.results31]
theorem rec_norm(w:World)(b4 b5:Nat)(c4 c5:Array Value)(e4 e5:TypeId)(h4:w.heap[b4]?=some (.cells c4 e4 (0,0)))(h5:w.heap[b5]?=some (.cells c5 e5 (0,0)))(k0:c4[0]?=some (.int .i64 0))(k1:c4[1]?=some (.int .i64 0))(k2:c4[2]?=some (.int .i64 0))(k3:c4[3]?=some (.int .i64 0))(k4:c4[4]?=some (.slice none 0 0))(k5:c5[0]?=some (.int .i64 0))(Ar:b4≠b5) :
  CallsD Tryz.prog 31 #[.pointer (some ⟨b4,0,none⟩),.pointer (some ⟨b5,0,none⟩)] (.panicking [{ v:=outV,recovered:=false }]) w fun e u' w'=>u'=.panicking [{ v:=outV,recovered:=true }]/\e=.returned (.tuple #[])/\Rc w w' b4 b5:=by
 refine callsD_of_wpS Tryz.func31 rfl fun c₀ cs hu=>?_
 apply wpS_seq;apply wpS_region;simp[wpOpsS,go_sem,recoverD,hu,Tryz.ntmps31,Exit.thenS];apply wpS_seq;apply wpS_region;simp[wpOpsS,go_sem,recoverD,hu,Exit.thenS,outV];refine wpS_cond (t:=true) (by simp[Act.eval,Array.replicate]) ?_;simp only[if_true];refine wpS_of_wp ?_;have ht:#[Value.pointer (some ⟨b4,0,none⟩),Value.pointer (some ⟨b5,0,none⟩)]++((((Array.replicate 7 undef).setIfInBounds 1 (Value.iface 75 (.agg #[]))).setIfInBounds 0 (Value.iface 75 (.agg #[]))).setIfInBounds 2 (Value.iface 75 (.agg #[]))).setIfInBounds 3 (Value.bool true)=#[Value.pointer (some ⟨b4,0,none⟩),Value.pointer (some ⟨b5,0,none⟩),Value.iface 75 (.agg #[]),Value.iface 75 (.agg #[]),Value.iface 75 (.agg #[]),Value.bool true,undef,undef,undef]:=rfl;rw[ht]
 go_wp2_with fail
 refine (Ai0 _).mono ?_;rintro e w' ⟨rfl,hb⟩;rw[<-hb.old b4 (lt_of_block h4)] at h4;rw[<-hb.old b5 (lt_of_block h5)] at h5;rw[<-m9 h4] at k0 k1 k2 k3 k4;rw[<-m9 h5] at k5;have f0:=Md h4 0;have f1:=Md h4 1;have f2:=Md h4 2;have f3:=Md h4 3;have f4:=Md h4 4;have f5:=Md h5 0
 go_wp2_with fail
 exact⟨rfl,_,rfl,_,A8s _ _,rfl,rfl,Ann hb ⟨Ar,k0,k1,k2,k3,k4,k5⟩⟩
theorem load_norm(tmps:Array Value)(w:World)(b4 b5:Nat)(p4:tmps.getD 4 undef=.pointer (some ⟨b4,0,none⟩))(p5:tmps.getD 5 undef=.pointer (some ⟨b5,0,none⟩))(k0:w.cell? ⟨b4,0,none⟩=some (.int .i64 0))(k1:w.cell? ⟨b4,1,none⟩=some (.int .i64 0))(k2:w.cell? ⟨b4,2,none⟩=some (.int .i64 0))(k3:w.cell? ⟨b4,3,none⟩=some (.int .i64 0))(k4:w.cell? ⟨b4,4,none⟩=some (.slice none 0 0))(k5:w.cell? ⟨b5,0,none⟩=some (.int .i64 6)) :
  (results Tryz.f14 tmps).run Tryz.prog w=.ok (.tuple #[.agg #[.int .i64 0,.int .i64 0,.int .i64 0,.int .i64 0,.slice none 0 0],.int .i64 6]) w:=by
 rw[Array.getD_eq_getD_getElem?] at p4 p5;simp[results,Tryz.results14,p4,p5,go_sem,k0,k1,k2,k3,k4,k5]
end Go.Proofs.YtdpigpopcbjkmaaGreatDoor.Nrm
namespace Go.Proofs.YtdpigpopcbjkmaaGreatDoor.Abs
open Go Go.RowKit
def m8(caps:Array Operand):Option (List Nat):=caps.toList.mapM fun|.tmp t=>some t|_=>none
inductive Va(P:Program)(t gf:Nat)(ts:List Nat):Nat->Code->AC->Prop
 |seq (n:Nat) (x y:Code) (ax ay:AC):trC P x=some ax->Va P t gf ts n y ay->Va P t gf ts (n+1) (.seq x y) (.seq ax ay)
 |door (id ty1 ty2:Nat) (p1 p2:String) (af1 af2:Array Edge) (caps:Array Operand) (y:Code) (ay:AC):m8 caps=some ts->trC P y=some ay ->
   Va P t gf ts 0 (.seq (.region id #[{ dst:=some t,op:=.makeFunc (.func gf) #[] caps,type:=ty1,pos:=p1,after:=af1,guard:=none },{ dst:=none,op:=.defer { callee:=.value (.tmp t),args:=#[],argTypes:=#[] },type:=ty2,pos:=p2,after:=af2,guard:=none }] false) y) (.seq (Pt t) ay)
def Aib:Code->Option (Nat×Nat×List Nat)
 |.region _ ops false=>match ops.toList with
  |[o1,o2]=>match Aa2 o1,p6 o2 with
   |some (t,gf,caps),some t'=>if t=t' then (m8 caps).map fun ts=>(t,gf,ts) else none
   |_,_=>none
  |_=>none
 |_=>none
def d9(P:Program):Code->Option (AC×Nat×Nat×List Nat×Nat)
 |.seq x y=>
  match Aib x with
  |some (t,gf,ts)=>(trC P y).map fun ay=>(.seq (Pt t) ay,t,gf,ts,0)
  |none=>match trC P x with
   |some ax=>(d9 P y).map fun r=>(.seq ax r.1,r.2.1,r.2.2.1,r.2.2.2.1,r.2.2.2.2+1)
   |none=>none
 |_=>none
theorem Aor{P:Program}:∀{c:Code} {ac:AC} {t gf n:Nat} {ts:List Nat},d9 P c=some (ac,t,gf,ts,n)->Va P t gf ts n c ac:=by
 intro c
 induction c with
 |seq x y _ ih=>
  intro ac t gf n ts h;simp only[d9] at h;split at h
  ·rename_i t' gf' ts' hd;simp only[q_e,Prod.mk.injEq] at h;obtain⟨ay,hy,rfl,rfl,rfl,rfl,rfl⟩:=h;unfold Aib at hd;split at hd;rotate_left
   ·cases hd
   rename_i _ ops _;split at hd;rotate_left
   ·cases hd
   rename_i o1 o2 Jy;split at hd;rotate_left
   ·cases hd
   rename_i t1 gf1 caps t2 h1 h2;split at hd;rotate_left
   ·cases hd
   rename_i htt;subst htt;simp only[q_e,Prod.mk.injEq] at hd;obtain⟨ts1,Lo,rfl,rfl,rfl⟩:=hd;have he:ops=#[o1,o2]:=by rw[<-Array.toArray_toList (xs:=ops),Jy]
   rw[he,Amh h1,Ah8 h2];exact .door _ _ _ _ _ _ _ _ _ _ Lo hy
  ·split at h;rotate_left
   ·cases h
   rename_i ax hx;simp only[q_e,Prod.mk.injEq] at h;obtain⟨⟨ay,t1,gf1,ts1,n1⟩,hy,rfl,rfl,rfl,rfl,rfl⟩:=h;exact .seq _ _ _ _ _ hx (ih hy)
 |_=>intro ac t gf n ts h;simp[d9] at h
def Wr(P:Program)(fn:Func):Option (AF×Nat×Nat×List Nat×Nat):=
 match fn.body with
 |some c=>match trR P fn.results.toList with
  |some ars=>(d9 P c).map fun r=>({ ntmps:=fn.ntmps,res:=ars,body:=r.1 },r.2)
  |none=>none
 |none=>none
def vcN(C:CT)(N:AC->St->Prop):Nat->AC->St->Prop
 |0,ac,s=>N ac s
 |n+1,.seq a b,s=>vc C a (fun e s'=>match e with|.normal=>vcN C N n b s'|_=>False) s
 |_+1,_,_=>False
def nx(C:CT)(N:AC->St->Prop)(n:Nat)(b:AC):AE->St->Prop:=fun e s'=>match e with|.normal=>vcN C N n b s'|_=>False
section
variable{C:CT}{N:AC->St->Prop}{n j:Nat}{a b ac:AC}{s:St}
theorem nx_n:nx C N n b .normal s=vcN C N n b s:=q_z
theorem nx_e:nx C N n b (.exit j) s=False:=q_z
theorem nx_r:nx C N n b .ret s=False:=q_z
theorem Ab8:vcN C N (n+1) (.seq a b) s=vc C a (nx C N n b) s:=by rw[vcN];rfl
theorem f9:vcN C N 0 ac s=N ac s:=by rw[vcN]
attribute [go_sem] nx_n nx_e nx_r Ab8 f9
end
def Afc(P:Program)(X:SV->GV->Prop)(T:List (Nat×SV))(ac:AC)(s:St):Prop:=
 ∃ops dr b,ac=.seq (.reg ops dr) b/\(∀p∈T,s.sl.getD p.1 .undef=p.2)/\(∀p∈T,∀o∈ops,o.d≠some p.1)/\if dr then Gi (Av P X) ops s [] True (fun _=>False) else Ez (Av P X) ops s (fun _=>False)
def Aic(C:CT)(N:AC->St->Prop)(T:List (Nat×SV))(t n:Nat)(ac:AC)(s:St):Prop:=∃ay,ac=.seq (Pt t) ay/\t<s.sl.length/\∃s',Wk (s.put (some t) .J) s'/\(∀p∈T,s'.sl.getD p.1 .undef=p.2/\p.1≠t)/\vcN C N n ay s'
section
variable{P:Program}{w0:World}{own:Nat->Prop}{M0:Mem}{B:Env->Prop}{Df:List Deferred}{g:Option (GV)}{X:SV->GV->Prop}{E:Env}{s:St}{a:Act}{w:World}
theorem SR.reb[hB:Nonempty (StB B)](h:SR w0 own M0 B Df E g s a w):SR w0 own E.m B Df { E with m0:=E.m } g s a w:=by
 have hW:=h.wo;refine⟨⟨hW.os,hW.tape,hW.output,hW.size,hW.block,hW.mem,fun o ob ho=>?_,hW.inj,fun _ _ _ _=>rfl,hW.pl⟩,?_,h.hp,h.len,fun i=>(h.sl i).re,h.dfr,rfl,.refl _,fun _=>rfl,fun hs=>hB.elim fun k=>k.wk E { E with m0:=E.m } (fun _ _ h _=>h) rfl (h.hb hs)⟩
 ·have hk:=hW.obs o ob ho;refine⟨hk.rows,hk.frz,hk.fit,hk.box,hk.bnd,fun ht=>?_⟩;obtain⟨c,e,k⟩:=hk.live ht;exact⟨c,e,⟨k.blk,k.size,k.new,fun j v x hv hx=>(k.rel j v x hv hx).re,k.one,k.old,k.free,k.clo,k.pl⟩⟩
 ·have:=h.gx;cases g with
  |none=>trivial
  |some G=>exact⟨this.z,this.sat,this.new,this.obs⟩
theorem Bfx[hB:Nonempty (StB B)](hm:P.follows .mixedOrders=true){T:List (Nat×SV)}{Q:Exit->Act->World->Prop}(hX:PXK w0 own M0 Df (KT T) X Q):∀(n:Nat) (c:Code) (ac:AC),trC P c=some ac->∀(E:Env) (g:Option (GV)) (s:St) (a:Act) (w:World),SR w0 own M0 B Df E g s a w->vcN (Av P fun _ _=>False) (Afc P X T) n ac s->c.wp P Q a w:=by
 intro n
 induction n with
 |zero=>
  intro c ac tr E g s a w hS h;rw[f9] at h;obtain⟨ops,dr,b,rfl,h1,h2,h3⟩:=h;cases c with
  |seq x y=>
   simp only[trC,q_c,q_a,q_d,q_b,AC.seq.injEq] at tr;obtain⟨ax,Af,ay,Cr,rfl,rfl⟩:=tr;refine wp_seq ?_;cases x with
   |region id opsC draw=>
    simp only[trC,q_c,q_a] at Af;obtain⟨l,hl,Af⟩:=Af;cases draw with
    |true=>
     simp only[if_true] at Af;split at Af;rotate_left
     ·cases Af
     rename_i hok;cases Af;simp only[if_true] at h3;refine Aig (Q:=Exit.then (y.wp P Q) Q) (K:=fun _=>False) (B:=B) (T:=T) ?_ h1 h2 hm hl rfl hok (fun _ _ _ _ _ _ h=>h.elim) hS h3;intro E u x G' a w k1 k2 k3 k4 k5 k6 k7 k8;exact hX E u x G' a w k1 k2 k3 k4 k5 k6 k7 k8
    |false=>
     simp only[Bool.false_eq_true,if_false] at Af;cases Af;simp only[Bool.false_eq_true,if_false] at h3;refine wp_region ?_;rw[List.range_eq_range',<-Array.length_toList];refine Amx (Q:=Exit.then (y.wp P Q) Q) (K:=fun _=>False) (B:=B) (TT:=T) ?_ (fun _ _ _ _ _ _ h=>h.elim) opsC.toList _ 0 E g s a w hl (fun j o hj=>by simpa using hj) hS (fun p hp=>by have:=hS.sl p.1;rw[h1 p hp] at this;exact this) h2 h3;intro E u x G' a w k1 k2 k3 k4 k5 k6 k7 k8;exact hX E u x G' a w k1 k2 k3 k4 k5 k6 k7 k8
   |_=>simp[trC,q_a] at Af
  |_=>
   simp[trC,q_a] at tr
   try (obtain⟨l,_,tr⟩:=tr;repeat' split at tr)<;>cases tr
 |succ n ih=>
  intro c ac tr E g s a w hS h;cases ac with
  |seq aa bb=>
   rw[Ab8] at h;cases c with
   |seq x y=>
    simp only[trC,q_c,q_a,q_d,q_b,AC.seq.injEq] at tr;obtain⟨ax,Af,ay,Cr,rfl,rfl⟩:=tr;refine wp_seq (Od (X:=fun _ _=>False) hm x ax Af (Q:=Exit.then (y.wp P Q) Q) (fun E u x G' a w h=>h.elim) (fun e E g s a w hS he=>?_) E g s a w hS h);cases e with
    |normal=>exact ih y ay Cr E g s a w hS he
    |exit id=>exact he.elim
    |ret=>exact he.elim
   |_=>
    simp[trC,q_a] at tr
    try (obtain⟨l,_,tr⟩:=tr;repeat' split at tr)<;>cases tr
  |_=>simp[vcN] at h
theorem Ahf{caps:Array Operand}{ts:List Nat}(h:m8 caps=some ts)(a:Act):caps.map a.eval=(ts.map fun t=>a.tmps.getD t undef).toArray:=by
 obtain⟨l⟩:=caps;unfold m8 at h;simp only at h
 induction l generalizing ts with
 |nil=>simp at h;subst h;simp
 |cons o l ih=>
  rw[List.mapM_cons] at h;cases o with
  |tmp t=>
   simp only[q_d,q_c,Option.bind_some,q_a,q_b] at h;obtain⟨ts',h1,rfl⟩:=h;have:=ih h1;simp only[List.map_toArray,q_h] at this |-;rw[Array.mk.injEq] at this;rw[this];rfl
  |_=>simp at h
def j6(P:Program)(fn:Func)(gf t0 s1 s2:Nat)(row1 row2:List SV)(r:SV):Prop:=
 ∀(w:World) (b1 b2:Nat) (c1 c2:Array Value) (e1 e2:TypeId) (tmps:Array Value) (m:Mem) (R:Ending->World->Prop),w.heap[b1]?=some (.cells c1 e1 (0,0))->w.heap[b2]?=some (.cells c2 e2 (0,0))->b1≠b2 ->
  (∀(k:Nat) x,row1[k]?=some x->∃v,c1[k]?=some v/\Rep m v x)->(∀(k:Nat) x,row2[k]?=some x->∃v,c2[k]?=some v/\Rep m v x)->tmps.getD s1 undef=.pointer (some ⟨b1,0,none⟩)->tmps.getD s2 undef=.pointer (some ⟨b2,0,none⟩) ->
  (∀v w',(∀m,Rep m v r)->w'.os=w.os->w'.tape=w.tape->w'.output=w.output->w.heap.size<=w'.heap.size->(∀k,k<w.heap.size->k≠b1->k≠b2->w'.heap[k]?=w.heap[k]?)->R (.returned v) w') ->
  Leaves P fn tmps R [Ji gf #[.pointer (some ⟨b1,0,none⟩),.pointer (some ⟨b2,0,none⟩)]] (.panicking [{ v:=.iface t0 (.agg #[]),recovered:=false }]) w
theorem Ai5{m:Mem}{w:World}{b:Nat}{row:List SV}(h:GRow m w b row)(hm:Ec row=false):∃c e,w.heap[b]?=some (.cells c e (0,0))/\∀(k:Nat) x,row[k]?=some x->∃v,c[k]?=some v/\Rep m v x:=by
 cases h with
 |cells _ c e h1 h2 h3=>
  refine⟨c,e,h1,fun k x hx=>?_⟩;have hk:k<c.size:=by
   have:=(List.getElem?_eq_some_iff.1 hx).1;omega
  exact⟨c[k],Array.getElem?_eq_getElem hk,(h3 k c[k] x (Array.getElem?_eq_getElem hk) hx).1⟩
 |map es k l=>cases hm
theorem s8{m:Mem}{v:Value}{i:Nat}(h:Rep m v (.gp i 0)):∃b,v=.pointer (some ⟨b,0,none⟩)/\m.d i=some b:=by
 cases h with
 |gp _ _ b hb _=>exact⟨b,rfl,hb⟩
theorem Bcy[hB:Nonempty (StB B)](hm:P.follows .mixedOrders=true){fn:Func}{t gf n n' s1 s2 i1 i2 t0:Nat}{row1 row2:List SV}{r:SV}{R:Ending->World->Prop}{c:Code}{ac:AC}(hD:Va P t gf [s1,s2] n c ac)(hi:i1≠i2)(Bt:Ec row1=false)(Gk:Ec row2=false)
  (Ft:∀b,¬own b) (hl:j6 P fn gf t0 s1 s2 row1 row2 r)
  (hR:∀v w',(∀m,Rep m v r)->w'.os=w0.os->w'.tape=w0.tape->w'.output=w0.output->w0.heap.size<=w'.heap.size->(∀k,k<w0.heap.size->w'.heap[k]?=w0.heap[k]?)->R (.returned v) w') :
  ∀(E:Env) (g:Option (GV)) (s:St) (a:Act) (w:World),SR w0 own M0 B [] E g s a w ->
  vcN (Av P fun _ _=>False) (Aic (Av P fun _ _=>False) (Afc P (fun x G'=>x=.ife t0/\G'[i1]?=some row1/\G'[i2]?=some row2) [(s1,.gp i1 0),(s2,.gp i2 0)]) [(s1,.gp i1 0),(s2,.gp i2 0)] t n') n ac s->c.wp P (bodyPostD P fn R) a w:=by
 induction hD with
 |seq n x y ax ay hx _ ih=>
  intro E g s a w hS h;rw[Ab8] at h;refine wp_seq (Od (X:=fun _ _=>False) hm x ax hx (Q:=Exit.then (y.wp P _) _) (fun E u x G' a w h=>h.elim) (fun e E g s a w hS he=>?_) E g s a w hS h);cases e with
  |normal=>exact ih E g s a w hS he
  |exit id=>exact he.elim
  |ret=>exact he.elim
 |door id ty1 ty2 p1 p2 af1 af2 caps y ay Lk hy=>
  intro E g s a w hS h;rw[f9] at h;obtain⟨ay',Cr,ht,s',Yy,Ka,hv⟩:=h;cases Cr;have Gr:t<a.tmps.size:=by rw[<-hS.len];exact ht
  refine wp_seq (wp_region ?_);have hd:=hS.dfr;have hz:∀(u:Value),(a.put (some t) u).tmps.getD t undef=u:=fun u=>by simp[Act.put,Gr]
  simp only[List.size_toArray,List.length_cons,List.length_nil,Nat.zero_add,Nat.reduceAdd,List.range_succ,List.range_zero,List.nil_append,List.cons_append];have Yl:∀(fn:Fn) (first cap:Array Value) (w:World),(Instr.makeFunc fn first cap).run P w=.ok (.func fn first cap) w:=fun _ _ _ _=>rfl
  have Ue:(resolve (a.put (some t) (Value.func (Fn.func gf) #[] (Array.map a.eval caps))).eval { callee:=Callee.value (Operand.tmp t),args:=#[],argTypes:=#[] } ty2).run P w=.ok (Ji gf (Array.map a.eval caps)) w:=by
   have:=hz (Value.func (Fn.func gf) #[] (Array.map a.eval caps));simp[resolve,Act.eval,this,Ji,Deferred.ofValue]
  simp[wpOps,Oper.wp,execOp,Region.wanted,Yl,Exit.then,Oper.upon,Ue];refine .inl (.inl ?_);have hS1:SR w0 own M0 B [Ji gf (Array.map a.eval caps)] E g (s.put (some t) .J) { tmps:=(a.put (some t) (Value.func (Fn.func gf) #[] (Array.map a.eval caps))).tmps,defers:=Ji gf (Array.map a.eval caps)::(a.put (some t) (Value.func (Fn.func gf) #[] (Array.map a.eval caps))).defers } w:=by
   refine⟨hS.wo,hS.gx,fun o=>by rw[Uo];exact hS.hp o,?_,?_,?_,hS.z,hS.le,hS.d,hS.hb⟩
   ·simpa [Act.put,St.put] using hS.len
   ·exact Abf (hp:=s.hp) hS.len hS.sl (.J _)
   ·simp[Act.put,hd]
  obtain⟨E',g',hS2⟩:=Acb Yy hS1;have hS3:=hS2.reb;have Vr:=Ahf Lk a;rw[Vr] at hS3 |-;simp only[q_h,q_i] at hS3 |-;have q1:=Ka (s1,.gp i1 0) (by simp);have q2:=Ka (s2,.gp i2 0) (by simp);have r1:=hS2.sl s1;have r2:=hS2.sl s2;simp only at q1 q2;rw[q1.1] at r1;rw[q2.1] at r2;have hg1:∀u,(a.put (some t) u).tmps.getD s1 undef=a.tmps.getD s1 undef:=fun u=>by simp[Act.put,Array.getElem?_setIfInBounds,Ne.symm q1.2]
  have Mj:∀u,(a.put (some t) u).tmps.getD s2 undef=a.tmps.getD s2 undef:=fun u=>by simp[Act.put,Array.getElem?_setIfInBounds,Ne.symm q2.2]
  simp only[hg1,Mj] at r1 r2;obtain⟨b1,p1,d1⟩:=s8 (r1.closed_rep rfl);obtain⟨b2,p2,d2⟩:=s8 (r2.closed_rep rfl);refine Bfx hm (M0:=E'.m) (T:=[(s1,.gp i1 0),(s2,.gp i2 0)]) (X:=fun x G'=>x=.ife t0/\G'[i1]?=some row1/\G'[i2]?=some row2) ?_ n' y ay hy _ g' s' _ w hS3 hv;intro E u x G' ac w1 hx Bq hW hg hle hz En hk;obtain⟨rfl,g1,g2⟩:=hx;have k1:=hk (s1,.gp i1 0) (by simp);have k2:=hk (s2,.gp i2 0) (by simp);simp only at k1 k2;obtain⟨b1',p1',d1'⟩:=s8 (k1.closed_rep rfl);obtain⟨b2',p2',d2'⟩:=s8 (k2.closed_rep rfl);have e1:b1'=b1:=by have:=hle.d _ _ d1;rw[d1',q_b] at this;exact this
  have e2:b2'=b2:=by have:=hle.d _ _ d2;rw[d2',q_b] at this;exact this
  subst e1 e2;have hu:u=.iface t0 (.agg #[]):=by cases Bq;rfl
  subst hu;obtain⟨c1,y1,h1,j1⟩:=Ai5 (hg.sat.row i1 row1 _ g1 d1') Bt;obtain⟨c2,y2,h2,j2⟩:=Ai5 (hg.sat.row i2 row2 _ g2 d2') Gk;have Ar:b1'≠b2':=fun e=>by subst e;exact hi (hg.sat.inj _ _ _ d1' d2')
  have o1:w0.heap.size<=b1':=(hg.new _ _ d1').elim (fun h=>h) (fun h=>absurd h (Ft _));have o2:w0.heap.size<=b2':=(hg.new _ _ d2').elim (fun h=>h) (fun h=>absurd h (Ft _));simp only[bodyPostD,En];rw[p1,p2];refine hl w1 b1' b2' c1 c2 y1 y2 ac.tmps E.m R h1 h2 Ar j1 j2 p1' p2' (fun v w' hv a1 a2 a3 a4 a5=>hR v w' hv (a1.trans hW.os) (a2.trans hW.tape) (a3.trans hW.output) (Nat.le_trans hW.size a4) (fun k hk=>?_));rw[a5 k (Nat.lt_of_lt_of_le hk hW.size) (by omega) (by omega)];exact hW.block k hk (Ft k)
def Ab7(P:Program)(f:AF)(args:List SV)(t0 i1 i2 s1 s2 t n n':Nat)(row1 row2:List SV):Prop:=
 vcN (Av P fun _ _=>False) (Aic (Av P fun _ _=>False) (Afc P (fun x G'=>x=.ife t0/\G'[i1]?=some row1/\G'[i2]?=some row2) [(s1,.gp i1 0),(s2,.gp i2 0)]) [(s1,.gp i1 0),(s2,.gp i2 0)] t n') n f.body ⟨args++List.replicate (f.ntmps-args.length) .undef,[gOb []]⟩
theorem Ac2{f:Nat}{fn:Func}{af:AF}{t gf t0 i1 i2 s1 s2 n n':Nat}{row1 row2:List SV}{args:List SV}{r:SV}(hm:P.follows .mixedOrders=true)(hf:P.funcs[f]?=some fn)(htr:Wr P fn=some (af,t,gf,[s1,s2],n))(hi:i1≠i2)(Bt:Ec row1=false)(Gk:Ec row2=false)
  (hl:j6 P fn gf t0 s1 s2 row1 row2 r) (Ed:∀x∈args,NoG x) (h:Ab7 P af args t0 i1 i2 s1 s2 t n n' row1 row2):Contract P f args r:=by
 unfold Wr at htr;split at htr;rotate_left
 ·cases htr
 rename_i c hb;split at htr;rotate_left
 ·cases htr
 rename_i ars Gp;simp only[q_e] at htr;obtain⟨⟨ac,q⟩,hq,Fu⟩:=htr;cases Fu;intro m w vs hmem Ag Bq
 let m1:Mem:=⟨m.c,fun _=>none,m.p,fun _ _ _ h=>by cases h⟩
 let own:Nat->Prop:=fun _=>False
 let E0:Env:={ m:=m1,m0:=m1,H:=fun _=>none,β:=fun _=>0,t:=fun _=>0 }
 have hW:W w own E0 w:=⟨rfl,rfl,rfl,Nat.le_refl _,fun _ _ _=>rfl,hmem.1,fun o ob ho=>(by cases ho),fun o o' ob ob' ho=>(by cases ho),fun _ _ _ _=>rfl,hmem.2⟩
 have hS:SR w own m1 (fun _=>True) [] E0 (some []) { sl:=args++List.replicate (fn.ntmps-args.length) .undef,hp:=[gOb []] } { tmps:=vs.toArray++Array.replicate (fn.ntmps-vs.toArray.size) undef,defers:=[] } w:=by
  refine⟨hW,⟨rfl,⟨fun i=>?_,fun i j b hi=>?_,fun i r b hi=>?_,fun i b j hi=>?_⟩,fun i b hi=>?_,fun i b o ob _ ho=>by cases ho⟩,fun o=>?_,by simp[Ag],?_,rfl,rfl,.refl _,(fun h=>by cases h),fun _=>trivial⟩
  ·simp[E0,m1]
  ·cases hi
  ·simp at hi
  ·cases hi
  ·cases hi
  ·cases o with
   |zero=>rfl
   |succ o=>rfl
  ·exact Ug Ag (fun j v x hv hx=>Rep.swap (m:=m) (m':=m1) rfl (fun _ h=>h) (Bq j v x hv hx) (Ed x (List.mem_of_getElem? hx)))
 refine calls_of_wp_defers hf hb ?_;refine Bcy (own:=own) (w0:=w) hm (Aor hq) hi Bt Gk (fun _ h=>h) hl (fun v w' hv a1 a2 a3 a4 a5=>?_) E0 (some []) _ _ w hS h;refine⟨v,m,rfl,hv m,⟨.refl m,rfl⟩,fun _ _ _=>rfl,⟨fun b j v hbj=>?_,fun b hb=>?_⟩,a1,a2,a3,a4,a5⟩
 ·have h1:=hmem.1 b j v hbj;have Ab:b<w.heap.size:=by
   rcases Nat.lt_or_ge b w.heap.size with Ab|Fj
   ·exact Ab
   ·simp[World.cell?,Array.getElem?_eq_none Fj] at h1
  rw[<-h1];simp only[World.cell?,a5 b Ab]
 ·obtain⟨c,e,h1⟩:=hmem.2 b hb;have Ab:b<w.heap.size:=by
   rcases Nat.lt_or_ge b w.heap.size with Ab|Fj
   ·exact Ab
   ·rw[Array.getElem?_eq_none Fj] at h1;cases h1
  exact⟨c,e,by rw[a5 b Ab];exact h1⟩
def Aid(C:CT)(QA:AE->St->Prop)(t:Nat)(ac:AC)(s:St):Prop:=∃ay,ac=.seq (Pt t) ay/\t<s.sl.length/\∃s',Wk (s.put (some t) .J) s'/\vc C ay QA s'
theorem Bcz[hB:Nonempty (StB B)](hm:P.follows .mixedOrders=true){t gf n:Nat}{ts:List Nat}{c:Code}{ac:AC}(hD:Va P t gf ts n c ac){QA:AE->St->Prop}{Q:Exit->Act->World->Prop}
  (Xp:∀cap,cap.size=ts.length->∀e E g s a w,SR w0 own M0 B [Ji gf cap] E g s a w->QA e s->Q e.ex a w) :
  ∀(E:Env) (g:Option (GV)) (s:St) (a:Act) (w:World),SR w0 own M0 B [] E g s a w->vcN (Av P fun _ _=>False) (Aid (Av P fun _ _=>False) QA t) n ac s->c.wp P Q a w:=by
 induction hD with
 |seq n x y ax ay hx _ ih=>
  intro E g s a w hS h;rw[Ab8] at h;refine wp_seq (Od (X:=fun _ _=>False) hm x ax hx (Q:=Exit.then (y.wp P _) _) (fun E u x G' a w h=>h.elim) (fun e E g s a w hS he=>?_) E g s a w hS h);cases e with
  |normal=>exact ih E g s a w hS he
  |exit id=>exact he.elim
  |ret=>exact he.elim
 |door id ty1 ty2 p1 p2 af1 af2 caps y ay Lk hy=>
  intro E g s a w hS h;rw[f9] at h;obtain⟨ay',Cr,ht,s',Yy,hv⟩:=h;cases Cr;have Gr:t<a.tmps.size:=by rw[<-hS.len];exact ht
  refine wp_seq (wp_region ?_);have hd:=hS.dfr;have hz:∀(u:Value),(a.put (some t) u).tmps.getD t undef=u:=fun u=>by simp[Act.put,Gr]
  simp only[List.size_toArray,List.length_cons,List.length_nil,Nat.zero_add,Nat.reduceAdd,List.range_succ,List.range_zero,List.nil_append,List.cons_append];have Yl:∀(fn:Fn) (first cap:Array Value) (w:World),(Instr.makeFunc fn first cap).run P w=.ok (.func fn first cap) w:=fun _ _ _ _=>rfl
  have Ue:(resolve (a.put (some t) (Value.func (Fn.func gf) #[] (Array.map a.eval caps))).eval { callee:=Callee.value (Operand.tmp t),args:=#[],argTypes:=#[] } ty2).run P w=.ok (Ji gf (Array.map a.eval caps)) w:=by
   have:=hz (Value.func (Fn.func gf) #[] (Array.map a.eval caps));simp[resolve,Act.eval,this,Ji,Deferred.ofValue]
  simp[wpOps,Oper.wp,execOp,Region.wanted,Yl,Exit.then,Oper.upon,Ue];refine .inl (.inl ?_);have hS1:SR w0 own M0 B [Ji gf (Array.map a.eval caps)] E g (s.put (some t) .J) { tmps:=(a.put (some t) (Value.func (Fn.func gf) #[] (Array.map a.eval caps))).tmps,defers:=Ji gf (Array.map a.eval caps)::(a.put (some t) (Value.func (Fn.func gf) #[] (Array.map a.eval caps))).defers } w:=by
   refine⟨hS.wo,hS.gx,fun o=>by rw[Uo];exact hS.hp o,?_,?_,?_,hS.z,hS.le,hS.d,hS.hb⟩
   ·simpa [Act.put,St.put] using hS.len
   ·exact Abf (hp:=s.hp) hS.len hS.sl (.J _)
   ·simp[Act.put,hd]
  obtain⟨E',g',hS2⟩:=Acb Yy hS1;have hcl:(Array.map a.eval caps).size=ts.length:=by rw[Ahf Lk a];simp
  exact Od (X:=fun _ _=>False) hm y ay hy (fun E u x G' a w h=>h.elim) (Xp _ hcl) E' g' s' _ w hS2 hv
def Agd(P:Program)(f:AF)(args:List SV)(t n:Nat)(r:SV):Prop:=
 vcN (Av P fun _ _=>False) (Aid (Av P fun _ _=>False) (rt f.res r) t) n f.body ⟨args++List.replicate (f.ntmps-args.length) .undef,[gOb []]⟩
theorem Ah6{f:Nat}{fn:Func}{af:AF}{t gf n:Nat}{ts:List Nat}{args:List SV}{r:SV}(hm:P.follows .mixedOrders=true)(hf:P.funcs[f]?=some fn)(htr:Wr P fn=some (af,t,gf,ts,n))
  (Ye:∀(cap:Array Value) (w:World),(invoke (.fn (.func gf) cap) #[]).run P w=.ok (.enter gf cap) w) (Yd:∀(cap:Array Value) (w:World),cap.size=ts.length->CallsD P gf cap .returning w fun e u' w'=>u'=.returning/\e=.returned (.tuple #[])/\w'=w) (Ed:∀x∈args,NoG x) (hr:NoG r)
  (h:Agd P af args t n r):Contract P f args r:=by
 unfold Wr at htr;split at htr;rotate_left
 ·cases htr
 rename_i c hb;split at htr;rotate_left
 ·cases htr
 rename_i ars Gp;simp only[q_e] at htr;obtain⟨⟨ac,q⟩,hq,Fu⟩:=htr;cases Fu;intro m w vs hmem Ag Bq
 let m1:Mem:=⟨m.c,fun _=>none,m.p,fun _ _ _ h=>by cases h⟩
 let own:Nat->Prop:=fun _=>False
 let E0:Env:={ m:=m1,m0:=m1,H:=fun _=>none,β:=fun _=>0,t:=fun _=>0 }
 have hW:W w own E0 w:=⟨rfl,rfl,rfl,Nat.le_refl _,fun _ _ _=>rfl,hmem.1,fun o ob ho=>(by cases ho),fun o o' ob ob' ho=>(by cases ho),fun _ _ _ _=>rfl,hmem.2⟩
 have hS:SR w own m1 (fun _=>True) [] E0 (some []) { sl:=args++List.replicate (fn.ntmps-args.length) .undef,hp:=[gOb []] } { tmps:=vs.toArray++Array.replicate (fn.ntmps-vs.toArray.size) undef,defers:=[] } w:=by
  refine⟨hW,⟨rfl,⟨fun i=>?_,fun i j b hi=>?_,fun i r b hi=>?_,fun i b j hi=>?_⟩,fun i b hi=>?_,fun i b o ob _ ho=>by cases ho⟩,fun o=>?_,by simp[Ag],?_,rfl,rfl,.refl _,(fun h=>by cases h),fun _=>trivial⟩
  ·simp[E0,m1]
  ·cases hi
  ·simp at hi
  ·cases hi
  ·cases hi
  ·cases o with
   |zero=>rfl
   |succ o=>rfl
  ·exact Ug Ag (fun j v x hv hx=>Rep.swap (m:=m) (m':=m1) rfl (fun _ h=>h) (Bq j v x hv hx) (Ed x (List.mem_of_getElem? hx)))
 refine calls_of_wp_defers hf hb ?_;have fin:∀(Df:List Deferred) (E:Env) (g:Option (GV)) (s:St) (a:Act) (w':World),SR w own m1 (fun _=>True) Df E g s a w'->Jp ars r s->∃v,(results fn a.tmps).run P w'=.ok v w'/\∃v' m',Ending.returned v=.returned v'/\Rep m' v' r/\(m.le m'/\m'.d=m.d)/\(∀b j,b<w.heap.size->m' b j=m b j)/\Hr m' w' /\
   w'.os=w.os/\w'.tape=w.tape/\w'.output=w.output/\w.heap.size<=w'.heap.size/\∀k,k<w.heap.size->w'.heap[k]?=w.heap[k]?:=by
  intro Df E g s a w' hS hrt;unfold Jp at hrt;split at hrt;rotate_left
  ·exact hrt.elim
  rename_i p svs hp' Iw;obtain⟨hp,Nt⟩:=hrt;obtain⟨us,E',k1,k2,k3,k4,k5⟩:=Us fn.results.toList ars p svs hp' E s Gp Iw hp hS;refine⟨_,Ur k1,_,⟨E'.m.c,m.d,E'.m.p,m.inj⟩,rfl,Rep.swap (m:=E'.m) (m':=⟨E'.m.c,m.d,E'.m.p,m.inj⟩) rfl (fun _ h=>h) (Uk Nt k2 k3) hr,⟨⟨fun b j v hv=>k4.le.c b j v hv,fun i b hb=>hb,fun b hb=>k4.le.p b hb⟩,rfl⟩,fun b j hb=>?_,⟨k4.wo.mem,k4.wo.pl⟩,k4.wo.os,k4.wo.tape,k4.wo.output,k4.wo.size,fun k hk=>k4.wo.block k hk (fun h=>h)⟩;have:=k4.wo.keep b j hb (fun h=>h);rw[k4.z] at this;exact this
 refine Bcz (own:=own) (M0:=m1) (w0:=w) (B:=fun _=>True) (QA:=rt ars r) hm (Aor hq) (fun cap Lk e E g s a w' hS he=>?_) E0 (some []) _ _ w hS h;have hd:=hS.dfr;have key:Jp ars r s->Leaves P fn a.tmps (fun e w'=>∃v m',e=.returned v/\Rep m' v r/\(m.le m'/\m'.d=m.d)/\(∀b j,b<w.heap.size->m' b j=m b j)/\Hr m' w' /\
   w'.os=w.os/\w'.tape=w.tape/\w'.output=w.output/\w.heap.size<=w'.heap.size/\∀k,k<w.heap.size->w'.heap[k]?=w.heap[k]?) [Ji gf cap] .returning w':=by
  intro he;refine leaves_cons (f:=gf) (args:=cap) (by simp) (Ye cap w') ?_;refine (Yd cap w' Lk).mono ?_;rintro e u' w'' ⟨rfl,rfl,rfl⟩;exact fin _ E g s a w'' hS he
 cases e with
 |normal=>simp only[AE.ex,bodyPostD,hd];exact key he
 |exit id=>exact he.elim
 |ret=>simp only[AE.ex,bodyPostD,hd];exact key he
end
open Go Go.RowKit Go.Proofs.YtdpigpopcbjkmaaGreatDoor
theorem A3h{G:GV}{id:Nat}{th:Th}(Fc:G[id]?=some (thR th))(hb:th.bare=false)(deep:Int)(hd:fit deep)(hl:fit ((th.env.length:Int)+1)) :
  Ad 61 G [.gp id 0,.int .i64 deep,.int .i64 1] (.ret (.gp (G.length+1) 0)) (G++[Ld (some ⟨2,0,0,0,deep,[]⟩) none,thR ⟨th.t,G.length::th.env,false,none,none⟩]):=by
 obtain⟨out,ho⟩:∃out,out=HOut.ret (.gp (G.length+1) 0):=⟨_,rfl⟩
 obtain⟨G',Ni⟩:∃G',G'=G++[Ld (some ⟨2,0,0,0,deep,[]⟩) none,thR ⟨th.t,G.length::th.env,false,none,none⟩]:=⟨_,rfl⟩
 rw[<-ho,<-Ni];refine Ap mixed Tryz.func61 tr61 ?_;obtain⟨t,te,b,w,v⟩:=th;simp only at hb hl Ni;subst hb;have Ab:=Dn Fc;simp only[go_sem,seval,Fc];refine Ca 2 (Aj ?_);simp only[go_sem,seval,Int.add_zero,w64 hd];refine Ac (Ads G deep) ?_;simp only[go_sem,seval];refine Aa (Vh te _ hl) ?_;simp only[go_sem,seval];refine Aj ?_;simp only[go_sem,seval,Fc,Ab];refine Ac (No _ t _) ?_;subst ho Ni;simp only[go_sem,seval,List.append_assoc,List.length_append]
section
variable{P:Program}{w0:World}{own:Nat->Prop}{M0:Mem}{B:Env->Prop}{Df:List Deferred}{X:SV->GV->Prop}
def vcW(C:CT):AC->(AE->St->Prop)->St->Prop
 |.seq a b,Q,s=>vcW C a (fun e s'=>match e with|.normal=>∃s0,Wk s' s0/\vcW C b Q s0|e=>Q e s') s
 |.cond c a b,Q,s=>match s.get c with
  |.bool t=>(t=true->vcW C a Q s)/\(t=false->vcW C b Q s)
  |_=>False
 |c,Q,s=>vc C c Q s
theorem Age{C:CT}:∀{c:AC} {Q:AE->St->Prop} {s:St},vc C c Q s->vcW C c Q s:=by
 have mono:∀(c:AC) {Q Q':AE->St->Prop} {s:St},(∀e s,Q e s->Q' e s)->vcW C c Q s->vcW C c Q' s:=by
  intro c
  induction c with
  |seq a b iha ihb=>
   intro Q Q' s h hv;simp only[vcW] at hv |-;refine iha (fun e s he=>?_) hv;cases e with
   |normal=>obtain⟨s0,h1,h2⟩:=he;exact⟨s0,h1,ihb h h2⟩
   |exit id=>exact h _ _ he
   |ret=>exact h _ _ he
  |cond c a b iha ihb=>
   intro Q Q' s h hv;simp only[vcW] at hv |-;split at hv
   ·exact⟨fun ht=>iha h (hv.1 ht),fun ht=>ihb h (hv.2 ht)⟩
   ·exact hv.elim
  |_=>intro Q Q' s h hv;simp only[vcW] at hv |-;exact Wv h hv
 intro c
 induction c with
 |seq a b iha ihb=>
  intro Q s h;simp only[vc] at h;simp only[vcW];refine mono a (fun e s he=>?_) (iha h);cases e with
  |normal=>exact⟨s,.refl s,ihb he⟩
  |exit id=>exact he
  |ret=>exact he
 |cond c a b iha ihb=>
  intro Q s h;simp only[vc] at h;simp only[vcW];split at h
  ·rename_i t ht;simp only[ht];exact⟨fun ht=>iha (h.1 ht),fun ht=>ihb (h.2 ht)⟩
  ·exact h.elim
 |_=>intro Q s h;simp only[vcW];exact h
def sqW(C:CT)(b:AC)(Q:AE->St->Prop):AE->St->Prop:=fun e s'=>match e with|.normal=>∃s0,Wk s' s0/\vcW C b Q s0|e=>Q e s'
theorem Bfc{C:CT}{b:AC}{Q:AE->St->Prop}{s:St}:sqW C b Q .normal s=∃s0,Wk s s0/\vcW C b Q s0:=q_z
theorem Bfd{C:CT}{b:AC}{Q:AE->St->Prop}{s:St}:sqW C b Q .ret s=Q .ret s:=q_z
theorem Bfb{C:CT}{b:AC}{Q:AE->St->Prop}{s:St}{j:Nat}:sqW C b Q (.exit j) s=Q (.exit j) s:=q_z
attribute [go_sem] Bfc Bfd Bfb
theorem Wu{C:CT}{a b:AC}{Q:AE->St->Prop}{s:St}(h:vc C a (sqW C b Q) s):vcW C (.seq a b) Q s:=by
 have:=Age h;simp only[vcW];exact this
theorem Bhk{C:CT}{a b:AC}{Q:AE->St->Prop}{s:St}(h:vcW C a (sqW C b Q) s):vcW C (.seq a b) Q s:=by
 simp only[vcW];exact h
theorem Bhm{C:CT}{c:AX}{a b:AC}{Q:AE->St->Prop}{s:St}(hc:s.get c=.bool true)(h:vcW C a Q s):vcW C (.cond c a b) Q s:=by
 simp only[vcW,hc];exact⟨fun _=>h,fun e=>by cases e⟩
theorem Bhl[hB:Nonempty (StB B)](hm:P.follows .mixedOrders=true):∀(c:Code) (ac:AC),trC P c=some ac->∀{QA:AE->St->Prop} {Q:Exit->Act->World->Prop},PX w0 own M0 Df X Q->(∀e E g s a w,SR w0 own M0 B Df E g s a w->QA e s->Q e.ex a w) ->
  ∀(E:Env) (g:Option (GV)) (s:St) (a:Act) (w:World),SR w0 own M0 B Df E g s a w->vcW (Av P X) ac QA s->c.wp P Q a w:=by
 intro c
 induction c with
 |seq x y ihx ihy=>
  intro ac tr QA Q hX hQ E g s a w hS h;simp only[trC,q_c,q_a,q_d,q_b] at tr;obtain⟨ax,Af,ay,Cr,rfl⟩:=tr;simp only[vcW] at h;refine wp_seq (ihx ax Af (Q:=Exit.then (y.wp P Q) Q) (fun E u x G' a w=>hX E u x G' a w) (fun e E g s a w hS he=>?_) E g s a w hS h);cases e with
  |normal=>
   obtain⟨s0,h1,h2⟩:=he;obtain⟨E',g',t9⟩:=Acb h1 hS;exact ihy ay Cr hX hQ E' g' s0 a w t9 h2
  |exit id=>exact hQ (.exit id) E g s a w hS he
  |ret=>exact hQ .ret E g s a w hS he
 |cond c x y ihx ihy=>
  intro ac tr QA Q hX hQ E g s a w hS h;simp only[trC,q_c,q_a,q_d,q_b] at tr;obtain⟨cx,hcx,ax,Af,ay,Cr,rfl⟩:=tr;simp only[vcW] at h;split at h;rotate_left
  ·exact h.elim
  rename_i t ht;have hv:=hS.x hcx;rw[ht] at hv;exact wp_cond_split (Ta hv) (fun h1=>ihx ax Af hX hQ E g s a w hS (h.1 h1)) (fun h1=>ihy ay Cr hX hQ E g s a w hS (h.2 h1))
 |_=>
  intro ac tr QA Q hX hQ E g s a w hS h;refine Od hm _ ac tr hX hQ E g s a w hS ?_;have key:(∀a b,ac≠.seq a b)/\(∀c a b,ac≠.cond c a b):=by
   constructor
   ·rintro a b rfl;simp[trC,q_a] at tr
    try (obtain⟨l,_,tr⟩:=tr;repeat' split at tr)<;>cases tr
   ·rintro c a b rfl;simp[trC,q_a] at tr
    try (obtain⟨l,_,tr⟩:=tr;repeat' split at tr)<;>cases tr
  cases ac with
  |seq a b=>exact absurd rfl (key.1 a b)
  |cond c a b=>exact absurd rfl (key.2 c a b)
  |_=>simpa only[vcW] using h
def Ao3(C:CT)(f:AF)(G:GV)(args:List SV)(out:HOut)(G':GV):Prop:=
 vcW C f.body (fun e s=>match e with|.exit _=>False|_=>match out with|.ret r=>Pf f.res r G' s|.pan _=>False) { sl:=args++List.replicate (f.ntmps-args.length) .undef,hp:=[gOb G] }
theorem Axw{C:CT}{b:AC}{n:Nat}{res:List AR}{G G':GV}{args:List SV}{out:HOut}:Ao3 C { ntmps:=n,res:=res,body:=b } G args out G'=vcW C b (rtG res out G') ⟨args++List.replicate (n-args.length) .undef,[gOb G]⟩:=q_z
attribute [go_sem] Axw
theorem A3l{f:Nat}{fn:Func}{af:AF}{G G':GV}{args:List SV}{out:HOut}(hm:P.follows .mixedOrders=true)(hf:P.funcs[f]?=some fn)(htr:trF P fn=some af)
  (h:Ao3 (Av P fun x G1=>out=.pan x/\G1=G') af G args out G'):HContract P f G args out G':=by
 intro m w vs hmem hsat Ag Bq;unfold trF at htr;split at htr;rotate_left
 ·cases htr
 rename_i c hb;simp only[q_c,q_a,q_d,q_b] at htr;obtain⟨ars,Gp,ac,Li,rfl⟩:=htr
 let own:Nat->Prop:=fun b=>∃i,m.d i=some b
 let E0:Env:={ m:=m,m0:=m,H:=fun _=>none,β:=fun _=>0,t:=fun _=>0 }
 have hW:W w own E0 w:=⟨rfl,rfl,rfl,Nat.le_refl _,fun _ _ _=>rfl,hmem.1,fun o ob ho=>(by cases ho),fun o o' ob ob' ho=>(by cases ho),fun _ _ _ _=>rfl,hmem.2⟩
 have hS:SR w own m (fun _=>True) [] E0 (some G) { sl:=args++List.replicate (fn.ntmps-args.length) .undef,hp:=[gOb G] } { tmps:=vs.toArray++Array.replicate (fn.ntmps-vs.toArray.size) undef,defers:=[] } w:=by
  refine⟨hW,⟨rfl,hsat,fun i b hi=>.inr ⟨i,hi⟩,fun i b o ob _ ho=>by cases ho⟩,fun o=>?_,by simp[Ag],Ug Ag Bq,rfl,rfl,.refl _,(fun h=>by cases h),fun _=>trivial⟩;cases o with
  |zero=>rfl
  |succ o=>rfl
 refine calls_of_wp hf hb ?_
 -- what is there at an end
 have tail:∀(E:Env) (w':World),W w own E w'->GI w.heap.size own E w' G'->m.le E.m->E.m0=m->m.le E.m/\(∀b j,b<w.heap.size->E.m b j=m b j)/\Hr E.m w'/\GSat E.m w' G' /\
   (∀i b,E.m.d i=some b->m.d i=some b\/w.heap.size<=b)/\w'.os=w.os/\w'.tape=w.tape/\w'.output=w.output/\w.heap.size<=w'.heap.size/\∀k,k<w.heap.size->(∀i,m.d i≠some k)->w'.heap[k]?=w.heap[k]?:=by
  intro E w' hW hg hle hz;refine⟨hle,fun b j hb=>?_,⟨hW.mem,hW.pl⟩,hg.sat,fun i b hi=>?_,hW.os,hW.tape,hW.output,hW.size,fun k hk hn=>hW.block k hk (fun ⟨i,hi⟩=>hn i hi)⟩
  ·by_cases ho:own b
   ·obtain⟨i,hi⟩:=ho;rw[hsat.free i b j hi,hg.sat.free i b j (hle.d _ _ hi)]
   ·rw[hW.keep b j hb ho,hz]
  ·rcases hg.new i b hi with h|⟨i',Bw⟩
   ·exact .inr h
   ·have:=hg.sat.inj i i' b hi (hle.d _ _ Bw);subst this;exact .inl Bw
 have fin:∀(E:Env) (g:Option (GV)) (s:St) (a:Act) (w':World) (r:SV),SR w own m (fun _=>True) [] E g s a w'->out=.ret r->Pf ars r G' s->a.defers=[]/\∃v,(results fn a.tmps).run P w'=.ok v w'/\∃m',Sr m' (.returned v) out/\m.le m'/\(∀b j,b<w.heap.size->m' b j=m b j)/\Hr m' w'/\GSat m' w' G' /\
   (∀i b,m'.d i=some b->m.d i=some b\/w.heap.size<=b)/\w'.os=w.os/\w'.tape=w.tape/\w'.output=w.output/\w.heap.size<=w'.heap.size/\∀k,k<w.heap.size->(∀i,m.d i≠some k)->w'.heap[k]?=w.heap[k]?:=by
  intro E g s a w' r hS ho hr;subst ho;refine⟨hS.dfr,?_⟩;unfold Pf at hr;split at hr;rotate_left
  ·exact hr.elim
  rename_i p svs hp' Iw;obtain⟨hp,Nt,hG⟩:=hr;obtain⟨us,E',k1,k2,k3,k4,k5⟩:=Us fn.results.toList ars p svs hp' E s Gp Iw hp hS;have:=Mz (U:=fun _=>True) (s:={ s with hp:=hp' }) (fun o _=>k4.hp o) trivial k4.wo hG;subst this;exact⟨_,Ur k1,E'.m,⟨_,rfl,Uk Nt k2 k3⟩,tail E' w' k4.wo k4.gx k4.le k4.z⟩
 refine Bhl (X:=fun x G1=>out=.pan x/\G1=G') hm c ac Li (fun E u x G1 a w' hx Bq hW hg hle hz En=>?_) (fun e E g s a w' hS he=>?_) E0 (some G) _ _ w hS h
 ·obtain⟨rfl,rfl⟩:=hx;exact⟨En,E.m,⟨u,rfl,Bq⟩,tail E w' hW hg hle hz⟩
 ·cases out with
  |pan x=>cases e<;>exact he.elim
  |ret r=>
   cases e with
   |normal=>exact fin E g s a w' r hS rfl he
   |exit id=>exact he.elim
   |ret=>exact fin E g s a w' r hS rfl he
end
end Go.Proofs.YtdpigpopcbjkmaaGreatDoor.Abs
