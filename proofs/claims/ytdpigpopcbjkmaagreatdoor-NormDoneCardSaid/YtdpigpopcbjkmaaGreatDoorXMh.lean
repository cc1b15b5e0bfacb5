import Derived.Test.YtdpigpopcbjkmaaGreatDoorProg
import Derived.Test.YtdpigpopcbjkmaaGreatDoorChecked
import Derived.WalkKit
import Derived.WalkLawsBesides
import Derived.Defers
import Derived.Recover
import Derived.Test.YtdpigpopcbjkmaaGreatDoorXRo
import Derived.OneCell
import Derived.Test.YtdpigpopcbjkmaaGreatDoorXDo
import Derived.Test.YtdpigpopcbjkmaaGreatDoorXRw
set_option linter.unusedSimpArgs false
set_option linter.unusedVariables false
set_option maxRecDepth 20000
set_option maxHeartbeats 4000000
namespace Go.Proofs.YtdpigpopcbjkmaaGreatDoor.Nrm
open Go Go.RowKit
structure Bg(w w':World):Prop where
 os:w'.os=w.os
 tape:w'.tape=w.tape
 output:w'.output=w.output
 size:w.heap.size<=w'.heap.size
 old:∀k,k<w.heap.size->w'.heap[k]?=w.heap[k]?
theorem Aqt(w:World)(o:Obj):Bg w (w.alloc o):=⟨rfl,rfl,rfl,(by show w.heap.size<=(w.heap.push o).size;simp),fun k hk=>(by show (w.heap.push o)[k]?=w.heap[k]?;simp[Array.getElem?_push,Nat.ne_of_lt hk])⟩
theorem Aqk(w:World):(Instr.typeAssert (.iface 75 (.agg #[])) 20 75 true).run Tryz.prog w=.ok (.tuple #[.agg #[],.bool true]) w:=by
 kernel_rfl
theorem A1v(w:World):Calls Tryz.prog 32 #[.iface 75 (.agg #[])] w fun e w'=>e=.returned (.int .i64 6)/\Bg w w':=by
 have ha:=Aqk
 go_enter Tryz.func32,Tryz.ntmps32
 go_wp2
 go_ret
 exact⟨rfl,Aqt _ _⟩
def outV:Value:=.iface 75 (.agg #[])
theorem Ahg{w:World}{b:Nat}{c:Array Value}{e:TypeId}(h:w.heap[b]?=some (.cells c e (0,0)))(j:Nat):w.cell? ⟨b,j,none⟩=c[j]?:=by simp[World.cell?,h]
theorem Vo{w:World}{b:Nat}{c:Array Value}{e:TypeId}(h:w.heap[b]?=some (.cells c e (0,0)))(j:Nat):w.frozen? ⟨b,j,none⟩=false:=by simp[World.frozen?,h]
structure Rc(w w':World)(b4 b5:Nat):Prop where
 os:w'.os=w.os
 tape:w'.tape=w.tape
 output:w'.output=w.output
 size:w.heap.size<=w'.heap.size
 old:∀k,k<w.heap.size->k≠b4->k≠b5->w'.heap[k]?=w.heap[k]?
 c0:w'.cell? ⟨b4,0,none⟩=some (.int .i64 0)
 c1:w'.cell? ⟨b4,1,none⟩=some (.int .i64 0)
 c2:w'.cell? ⟨b4,2,none⟩=some (.int .i64 0)
 c3:w'.cell? ⟨b4,3,none⟩=some (.int .i64 0)
 c4:w'.cell? ⟨b4,4,none⟩=some (.slice none 0 0)
 c5:w'.cell? ⟨b5,0,none⟩=some (.int .i64 6)
theorem Er{w:World}{b j b' j':Nat}{v:Value}(h:b≠b'\/j≠j'):(w.setCell ⟨b',j',none⟩ v).cell? ⟨b,j,none⟩=w.cell? ⟨b,j,none⟩:=by
 by_cases hb:b'=b
 ·subst hb;have hj:j'≠j:=fun e=>by rcases h with h|h;exact h rfl;exact h e.symm
  simp only[World.setCell,World.cell?,Array.getElem?_modify,if_true];cases w.heap[b']? with
  |none=>rfl
  |some o=>cases o<;>simp[Array.getElem?_setIfInBounds,hj]
 ·simp only[World.setCell,World.cell?,Array.getElem?_modify,hb,if_false]
theorem Vn{w:World}{b j:Nat}{v u:Value}(h:w.cell? ⟨b,j,none⟩=some u):(w.setCell ⟨b,j,none⟩ v).cell? ⟨b,j,none⟩=some v:=by
 simp only[World.setCell,World.cell?,Array.getElem?_modify,if_true] at h |-;cases hq:w.heap[b]? with
 |none=>rw[hq] at h;cases h
 |some o=>
  rw[hq] at h;cases o<;>simp_all[Array.getElem?_setIfInBounds]
  all_goals (try (have:=(Array.getElem?_eq_some_iff.1 h).1;simp_all))
theorem heap_set{w:World}{b j k:Nat}{v:Value}(h:k≠b):(w.setCell ⟨b,j,none⟩ v).heap[k]?=w.heap[k]?:=RowKit.Below.heap_setCell _ _ _ _ h
theorem Bfd(w:World)(a:Addr)(v:Value):(w.setCell a v).os=w.os:=rfl
theorem Bfi(w:World)(a:Addr)(v:Value):(w.setCell a v).tape=w.tape:=rfl
theorem Bfe(w:World)(a:Addr)(v:Value):(w.setCell a v).output=w.output:=rfl
theorem Bfg(w:World)(a:Addr)(v:Value):(w.setCell a v).heap.size=w.heap.size:=by simp[World.setCell]
structure F6(w:World)(b4 b5:Nat)(v0 v1 v2 v3 v4 v5:Value):Prop where
 ne:b4≠b5
 c0:w.cell? ⟨b4,0,none⟩=some v0
 c1:w.cell? ⟨b4,1,none⟩=some v1
 c2:w.cell? ⟨b4,2,none⟩=some v2
 c3:w.cell? ⟨b4,3,none⟩=some v3
 c4:w.cell? ⟨b4,4,none⟩=some v4
 c5:w.cell? ⟨b5,0,none⟩=some v5
theorem F6.s0{w:World}{b4 b5:Nat}{v0 v1 v2 v3 v4 v5:Value}(h:F6 w b4 b5 v0 v1 v2 v3 v4 v5)(x:Value):F6 (w.setCell ⟨b4,0,none⟩ x) b4 b5 x v1 v2 v3 v4 v5:=
 ⟨h.ne,Vn h.c0,(Er (.inr (show (1:Nat)≠0 by decide))).trans h.c1,(Er (.inr (show (2:Nat)≠0 by decide))).trans h.c2,(Er (.inr (show (3:Nat)≠0 by decide))).trans h.c3,(Er (.inr (show (4:Nat)≠0 by decide))).trans h.c4,(Er (.inl (Ne.symm h.ne))).trans h.c5⟩
theorem F6.s1{w:World}{b4 b5:Nat}{v0 v1 v2 v3 v4 v5:Value}(h:F6 w b4 b5 v0 v1 v2 v3 v4 v5)(x:Value):F6 (w.setCell ⟨b4,1,none⟩ x) b4 b5 v0 x v2 v3 v4 v5:=
 ⟨h.ne,(Er (.inr (show (0:Nat)≠1 by decide))).trans h.c0,Vn h.c1,(Er (.inr (show (2:Nat)≠1 by decide))).trans h.c2,(Er (.inr (show (3:Nat)≠1 by decide))).trans h.c3,(Er (.inr (show (4:Nat)≠1 by decide))).trans h.c4,(Er (.inl (Ne.symm h.ne))).trans h.c5⟩
theorem F6.s2{w:World}{b4 b5:Nat}{v0 v1 v2 v3 v4 v5:Value}(h:F6 w b4 b5 v0 v1 v2 v3 v4 v5)(x:Value):F6 (w.setCell ⟨b4,2,none⟩ x) b4 b5 v0 v1 x v3 v4 v5:=
 ⟨h.ne,(Er (.inr (show (0:Nat)≠2 by decide))).trans h.c0,(Er (.inr (show (1:Nat)≠2 by decide))).trans h.c1,Vn h.c2,(Er (.inr (show (3:Nat)≠2 by decide))).trans h.c3,(Er (.inr (show (4:Nat)≠2 by decide))).trans h.c4,(Er (.inl (Ne.symm h.ne))).trans h.c5⟩
theorem F6.s3{w:World}{b4 b5:Nat}{v0 v1 v2 v3 v4 v5:Value}(h:F6 w b4 b5 v0 v1 v2 v3 v4 v5)(x:Value):F6 (w.setCell ⟨b4,3,none⟩ x) b4 b5 v0 v1 v2 x v4 v5:=
 ⟨h.ne,(Er (.inr (show (0:Nat)≠3 by decide))).trans h.c0,(Er (.inr (show (1:Nat)≠3 by decide))).trans h.c1,(Er (.inr (show (2:Nat)≠3 by decide))).trans h.c2,Vn h.c3,(Er (.inr (show (4:Nat)≠3 by decide))).trans h.c4,(Er (.inl (Ne.symm h.ne))).trans h.c5⟩
theorem F6.s4{w:World}{b4 b5:Nat}{v0 v1 v2 v3 v4 v5:Value}(h:F6 w b4 b5 v0 v1 v2 v3 v4 v5)(x:Value):F6 (w.setCell ⟨b4,4,none⟩ x) b4 b5 v0 v1 v2 v3 x v5:=
 ⟨h.ne,(Er (.inr (show (0:Nat)≠4 by decide))).trans h.c0,(Er (.inr (show (1:Nat)≠4 by decide))).trans h.c1,(Er (.inr (show (2:Nat)≠4 by decide))).trans h.c2,(Er (.inr (show (3:Nat)≠4 by decide))).trans h.c3,Vn h.c4,(Er (.inl (Ne.symm h.ne))).trans h.c5⟩
theorem F6.s5{w:World}{b4 b5:Nat}{v0 v1 v2 v3 v4 v5:Value}(h:F6 w b4 b5 v0 v1 v2 v3 v4 v5)(x:Value):F6 (w.setCell ⟨b5,0,none⟩ x) b4 b5 v0 v1 v2 v3 v4 x:=
 ⟨h.ne,(Er (.inl h.ne)).trans h.c0,(Er (.inl h.ne)).trans h.c1,(Er (.inl h.ne)).trans h.c2,(Er (.inl h.ne)).trans h.c3,(Er (.inl h.ne)).trans h.c4,Vn h.c5⟩
theorem Bd7{w w':World}{b4 b5:Nat}(hb:Bg w w')(h:F6 w' b4 b5 (.int .i64 0) (.int .i64 0) (.int .i64 0) (.int .i64 0) (.slice none 0 0) (.int .i64 0)) :
  Rc w ((((((w'.setCell ⟨b4,0,none⟩ (.int .i64 0)).setCell ⟨b4,1,none⟩ (.int .i64 0)).setCell ⟨b4,2,none⟩ (.int .i64 0)).setCell ⟨b4,3,none⟩ (.int .i64 0)).setCell ⟨b4,4,none⟩ (.slice none 0 0)).setCell ⟨b5,0,none⟩ (.int .i64 6)) b4 b5:=by
 have f:=(((((h.s0 (.int .i64 0)).s1 (.int .i64 0)).s2 (.int .i64 0)).s3 (.int .i64 0)).s4 (.slice none 0 0)).s5 (.int .i64 6);refine⟨?_,?_,?_,?_,fun k hk h4 h5=>?_,f.c0,f.c1,f.c2,f.c3,f.c4,f.c5⟩
 ·simp only[Bfd];exact hb.os
 ·simp only[Bfi];exact hb.tape
 ·simp only[Bfe];exact hb.output
 ·simp only[Bfg];exact hb.size
 ·rw[heap_set h5,heap_set h4,heap_set h4,heap_set h4,heap_set h4,heap_set h4];exact hb.old k hk
theorem A9c(tmps:Array Value)(w:World):(results Tryz.f31 tmps).run Tryz.prog w=.ok (.tuple #[]) w:=by simp[results,Tryz.results31]
theorem rec_norm(w:World)(b4 b5:Nat)(c4 c5:Array Value)(e4 e5:TypeId)(h4:w.heap[b4]?=some (.cells c4 e4 (0,0)))(h5:w.heap[b5]?=some (.cells c5 e5 (0,0)))(k0:c4[0]?=some (.int .i64 0))(k1:c4[1]?=some (.int .i64 0))(k2:c4[2]?=some (.int .i64 0))(k3:c4[3]?=some (.int .i64 0))(k4:c4[4]?=some (.slice none 0 0))(k5:c5[0]?=some (.int .i64 0))(As:b4≠b5) :
  CallsD Tryz.prog 31 #[.pointer (some ⟨b4,0,none⟩),.pointer (some ⟨b5,0,none⟩)] (.panicking [{ v:=outV,recovered:=false }]) w fun e u' w'=>u'=.panicking [{ v:=outV,recovered:=true }]/\e=.returned (.tuple #[])/\Rc w w' b4 b5:=by
 refine callsD_of_wpS Tryz.func31 rfl fun c₀ cs hu=>?_
 apply wpS_seq;apply wpS_region;simp[wpOpsS,go_sem,recoverD,hu,Tryz.ntmps31,Exit.thenS];apply wpS_seq;apply wpS_region;simp[wpOpsS,go_sem,recoverD,hu,Exit.thenS,outV];refine wpS_cond (t:=true) (by simp[Act.eval,Array.replicate]) ?_;simp only[if_true];refine wpS_of_wp ?_;have ht:#[Value.pointer (some ⟨b4,0,none⟩),Value.pointer (some ⟨b5,0,none⟩)]++((((Array.replicate 7 undef).setIfInBounds 1 (Value.iface 75 (.agg #[]))).setIfInBounds 0 (Value.iface 75 (.agg #[]))).setIfInBounds 2 (Value.iface 75 (.agg #[]))).setIfInBounds 3 (Value.bool true)=#[Value.pointer (some ⟨b4,0,none⟩),Value.pointer (some ⟨b5,0,none⟩),Value.iface 75 (.agg #[]),Value.iface 75 (.agg #[]),Value.iface 75 (.agg #[]),Value.bool true,undef,undef,undef]:=rfl;rw[ht]
 go_wp2_with fail
 refine (A1v _).mono ?_;rintro e w' ⟨rfl,hb⟩;rw[<-hb.old b4 (lt_of_block h4)] at h4;rw[<-hb.old b5 (lt_of_block h5)] at h5;rw[<-Ahg h4] at k0 k1 k2 k3 k4;rw[<-Ahg h5] at k5;have f0:=Vo h4 0;have f1:=Vo h4 1;have f2:=Vo h4 2;have f3:=Vo h4 3;have f4:=Vo h4 4;have f5:=Vo h5 0
 go_wp2_with fail
 exact⟨rfl,_,rfl,_,A9c _ _,rfl,rfl,Bd7 hb ⟨As,k0,k1,k2,k3,k4,k5⟩⟩
theorem load_norm(tmps:Array Value)(w:World)(b4 b5:Nat)(p4:tmps.getD 4 undef=.pointer (some ⟨b4,0,none⟩))(p5:tmps.getD 5 undef=.pointer (some ⟨b5,0,none⟩))(k0:w.cell? ⟨b4,0,none⟩=some (.int .i64 0))(k1:w.cell? ⟨b4,1,none⟩=some (.int .i64 0))(k2:w.cell? ⟨b4,2,none⟩=some (.int .i64 0))(k3:w.cell? ⟨b4,3,none⟩=some (.int .i64 0))(k4:w.cell? ⟨b4,4,none⟩=some (.slice none 0 0))(k5:w.cell? ⟨b5,0,none⟩=some (.int .i64 6)) :
  (results Tryz.f14 tmps).run Tryz.prog w=.ok (.tuple #[.agg #[.int .i64 0,.int .i64 0,.int .i64 0,.int .i64 0,.slice none 0 0],.int .i64 6]) w:=by
 rw[Array.getD_eq_getD_getElem?] at p4 p5;simp[results,Tryz.results14,p4,p5,go_sem,k0,k1,k2,k3,k4,k5]
end Go.Proofs.YtdpigpopcbjkmaaGreatDoor.Nrm
namespace Go.Proofs.YtdpigpopcbjkmaaGreatDoor.Abs
open Go Go.RowKit
def p6(caps:Array Operand):Option (List Nat):=caps.toList.mapM fun|.tmp t=>some t|_=>none
inductive Vg(P:Program)(t gf:Nat)(ts:List Nat):Nat->Code->AC->Prop
 |seq (n:Nat) (x y:Code) (ax ay:AC):trC P x=some ax->Vg P t gf ts n y ay->Vg P t gf ts (n+1) (.seq x y) (.seq ax ay)
 |door (id ty1 ty2:Nat) (p1 p2:String) (af1 af2:Array Edge) (caps:Array Operand) (y:Code) (ay:AC):p6 caps=some ts->trC P y=some ay ->
   Vg P t gf ts 0 (.seq (.region id #[{ dst:=some t,op:=.makeFunc (.func gf) #[] caps,type:=ty1,pos:=p1,after:=af1,guard:=none },{ dst:=none,op:=.defer { callee:=.value (.tmp t),args:=#[],argTypes:=#[] },type:=ty2,pos:=p2,after:=af2,guard:=none }] false) y) (.seq (Pt t) ay)
def Aib:Code->Option (Nat×Nat×List Nat)
 |.region _ ops false=>match ops.toList with
  |[o1,o2]=>match Aa9 o1,s7 o2 with
   |some (t,gf,caps),some t'=>if t=t' then (p6 caps).map fun ts=>(t,gf,ts) else none
   |_,_=>none
  |_=>none
 |_=>none
def l4(P:Program):Code->Option (AC×Nat×Nat×List Nat×Nat)
 |.seq x y=>
  match Aib x with
  |some (t,gf,ts)=>(trC P y).map fun ay=>(.seq (Pt t) ay,t,gf,ts,0)
  |none=>match trC P x with
   |some ax=>(l4 P y).map fun r=>(.seq ax r.1,r.2.1,r.2.2.1,r.2.2.2.1,r.2.2.2.2+1)
   |none=>none
 |_=>none
theorem Ao3{P:Program}:∀{c:Code} {ac:AC} {t gf n:Nat} {ts:List Nat},l4 P c=some (ac,t,gf,ts,n)->Vg P t gf ts n c ac:=by
 intro c
 induction c with
 |seq x y _ ih=>
  intro ac t gf n ts h;simp only[l4] at h;split at h
  ·rename_i t' gf' ts' hd;simp only[q_e,Prod.mk.injEq] at h;obtain⟨ay,hy,rfl,rfl,rfl,rfl,rfl⟩:=h;unfold Aib at hd;split at hd;rotate_left
   ·cases hd
   rename_i _ ops _;split at hd;rotate_left
   ·cases hd
   rename_i o1 o2 Ke;split at hd;rotate_left
   ·cases hd
   rename_i t1 gf1 caps t2 h1 h2;split at hd;rotate_left
   ·cases hd
   rename_i htt;subst htt;simp only[q_e,Prod.mk.injEq] at hd;obtain⟨ts1,Lo,rfl,rfl,rfl⟩:=hd;have he:ops=#[o1,o2]:=by rw[<-Array.toArray_toList (xs:=ops),Ke]
   rw[he,Ams h1,Ah8 h2];exact .door _ _ _ _ _ _ _ _ _ _ Lo hy
  ·split at h;rotate_left
   ·cases h
   rename_i ax hx;simp only[q_e,Prod.mk.injEq] at h;obtain⟨⟨ay,t1,gf1,ts1,n1⟩,hy,rfl,rfl,rfl,rfl,rfl⟩:=h;exact .seq _ _ _ _ _ hx (ih hy)
 |_=>intro ac t gf n ts h;simp[l4] at h
def Xe(P:Program)(fn:Func):Option (AF×Nat×Nat×List Nat×Nat):=
 match fn.body with
 |some c=>match trR P fn.results.toList with
  |some ars=>(l4 P c).map fun r=>({ ntmps:=fn.ntmps,res:=ars,body:=r.1 },r.2)
  |none=>none
 |none=>none
def vcN(C:CT)(N:AC->St->Prop):Nat->AC->St->Prop
 |0,ac,s=>N ac s
 |n+1,.seq a b,s=>vc C a (fun e s'=>match e with|.normal=>vcN C N n b s'|_=>False) s
 |_+1,_,_=>False
def nx(C:CT)(N:AC->St->Prop)(n:Nat)(b:AC):AE->St->Prop:=fun e s'=>match e with|.normal=>vcN C N n b s'|_=>False
section
variable{C:CT}{N:AC->St->Prop}{n j:Nat}{a b ac:AC}{s:St}
theorem nx_n:nx C N n b .normal s=vcN C N n b s:=q_z
theorem nx_e:nx C N n b (.exit j) s=False:=q_z
theorem nx_r:nx C N n b .ret s=False:=q_z
theorem Aca:vcN C N (n+1) (.seq a b) s=vc C a (nx C N n b) s:=by rw[vcN];rfl
theorem l6:vcN C N 0 ac s=N ac s:=by rw[vcN]
attribute [go_sem] nx_n nx_e nx_r Aca l6
end
def Aff(P:Program)(X:SV->GV->Prop)(T:List (Nat×SV))(ac:AC)(s:St):Prop:=
 ∃ops dr b,ac=.seq (.reg ops dr) b/\(∀p∈T,s.sl.getD p.1 .undef=p.2)/\(∀p∈T,∀o∈ops,o.d≠some p.1)/\if dr then Gl (Av P X) ops s [] True (fun _=>False) else Ff (Av P X) ops s (fun _=>False)
def Aic(C:CT)(N:AC->St->Prop)(T:List (Nat×SV))(t n:Nat)(ac:AC)(s:St):Prop:=∃ay,ac=.seq (Pt t) ay/\t<s.sl.length/\∃s',Wk (s.put (some t) .J) s'/\(∀p∈T,s'.sl.getD p.1 .undef=p.2/\p.1≠t)/\vcN C N n ay s'
section
variable{P:Program}{w0:World}{own:Nat->Prop}{M0:Mem}{B:Env->Prop}{Df:List Deferred}{g:Option (GV)}{X:SV->GV->Prop}{E:Env}{s:St}{a:Act}{w:World}
theorem SR.reb[hB:Nonempty (StB B)](h:SR w0 own M0 B Df E g s a w):SR w0 own E.m B Df { E with m0:=E.m } g s a w:=by
 have hW:=h.wo;refine⟨⟨hW.os,hW.tape,hW.output,hW.size,hW.block,hW.mem,fun o ob ho=>?_,hW.inj,fun _ _ _ _=>rfl,hW.pl⟩,?_,h.hp,h.len,fun i=>(h.sl i).re,h.dfr,rfl,.refl _,fun _=>rfl,fun hs=>hB.elim fun k=>k.wk E { E with m0:=E.m } (fun _ _ h _=>h) rfl (h.hb hs)⟩
 ·have hk:=hW.obs o ob ho;refine⟨hk.rows,hk.frz,hk.fit,hk.box,hk.bnd,fun ht=>?_⟩;obtain⟨c,e,k⟩:=hk.live ht;exact⟨c,e,⟨k.blk,k.size,k.new,fun j v x hv hx=>(k.rel j v x hv hx).re,k.one,k.old,k.free,k.clo,k.pl⟩⟩
 ·have:=h.gx;cases g with
  |none=>trivial
  |some G=>exact⟨this.z,this.sat,this.new,this.obs⟩
theorem Bgc[hB:Nonempty (StB B)](hm:P.follows .mixedOrders=true){T:List (Nat×SV)}{Q:Exit->Act->World->Prop}(hX:PXK w0 own M0 Df (KT T) X Q):∀(n:Nat) (c:Code) (ac:AC),trC P c=some ac->∀(E:Env) (g:Option (GV)) (s:St) (a:Act) (w:World),SR w0 own M0 B Df E g s a w->vcN (Av P fun _ _=>False) (Aff P X T) n ac s->c.wp P Q a w:=by
 intro n
 induction n with
 |zero=>
  intro c ac tr E g s a w hS h;rw[l6] at h;obtain⟨ops,dr,b,rfl,h1,h2,h3⟩:=h;cases c with
  |seq x y=>
   simp only[trC,q_c,q_a,q_d,q_b,AC.seq.injEq] at tr;obtain⟨ax,Ae,ay,Co,rfl,rfl⟩:=tr;refine wp_seq ?_;cases x with
   |region id opsC draw=>
    simp only[trC,q_c,q_a] at Ae;obtain⟨l,hl,Ae⟩:=Ae;cases draw with
    |true=>
     simp only[if_true] at Ae;split at Ae;rotate_left
     ·cases Ae
     rename_i hok;cases Ae;simp only[if_true] at h3;refine Aig (Q:=Exit.then (y.wp P Q) Q) (K:=fun _=>False) (B:=B) (T:=T) ?_ h1 h2 hm hl rfl hok (fun _ _ _ _ _ _ h=>h.elim) hS h3;intro E u x G' a w k1 k2 k3 k4 k5 k6 k7 k8;exact hX E u x G' a w k1 k2 k3 k4 k5 k6 k7 k8
    |false=>
     simp only[Bool.false_eq_true,if_false] at Ae;cases Ae;simp only[Bool.false_eq_true,if_false] at h3;refine wp_region ?_;rw[List.range_eq_range',<-Array.length_toList];refine Ane (Q:=Exit.then (y.wp P Q) Q) (K:=fun _=>False) (B:=B) (TT:=T) ?_ (fun _ _ _ _ _ _ h=>h.elim) opsC.toList _ 0 E g s a w hl (fun j o hj=>by simpa using hj) hS (fun p hp=>by have:=hS.sl p.1;rw[h1 p hp] at this;exact this) h2 h3;intro E u x G' a w k1 k2 k3 k4 k5 k6 k7 k8;exact hX E u x G' a w k1 k2 k3 k4 k5 k6 k7 k8
   |_=>simp[trC,q_a] at Ae
  |_=>
   simp[trC,q_a] at tr
   try (obtain⟨l,_,tr⟩:=tr;repeat' split at tr)<;>cases tr
 |succ n ih=>
  intro c ac tr E g s a w hS h;cases ac with
  |seq aa bb=>
   rw[Aca] at h;cases c with
   |seq x y=>
    simp only[trC,q_c,q_a,q_d,q_b,AC.seq.injEq] at tr;obtain⟨ax,Ae,ay,Co,rfl,rfl⟩:=tr;refine wp_seq (Of (X:=fun _ _=>False) hm x ax Ae (Q:=Exit.then (y.wp P Q) Q) (fun E u x G' a w h=>h.elim) (fun e E g s a w hS he=>?_) E g s a w hS h);cases e with
    |normal=>exact ih y ay Co E g s a w hS he
    |exit id=>exact he.elim
    |ret=>exact he.elim
   |_=>
    simp[trC,q_a] at tr
    try (obtain⟨l,_,tr⟩:=tr;repeat' split at tr)<;>cases tr
  |_=>simp[vcN] at h
theorem Ahe{caps:Array Operand}{ts:List Nat}(h:p6 caps=some ts)(a:Act):caps.map a.eval=(ts.map fun t=>a.tmps.getD t undef).toArray:=by
 obtain⟨l⟩:=caps;unfold p6 at h;simp only at h
 induction l generalizing ts with
 |nil=>simp at h;subst h;simp
 |cons o l ih=>
  rw[List.mapM_cons] at h;cases o with
  |tmp t=>
   simp only[q_d,q_c,Option.bind_some,q_a,q_b] at h;obtain⟨ts',h1,rfl⟩:=h;have:=ih h1;simp only[List.map_toArray,q_h] at this |-;rw[Array.mk.injEq] at this;rw[this];rfl
  |_=>simp at h
def Acg(P:Program)(fn:Func)(gf t0 s1 s2:Nat)(row1 row2:List SV)(r:SV):Prop:=
 ∀(w:World) (b1 b2:Nat) (c1 c2:Array Value) (e1 e2:TypeId) (tmps:Array Value) (m:Mem) (R:Ending->World->Prop),w.heap[b1]?=some (.cells c1 e1 (0,0))->w.heap[b2]?=some (.cells c2 e2 (0,0))->b1≠b2 ->
  (∀(k:Nat) x,row1[k]?=some x->∃v,c1[k]?=some v/\Rep m v x)->(∀(k:Nat) x,row2[k]?=some x->∃v,c2[k]?=some v/\Rep m v x)->tmps.getD s1 undef=.pointer (some ⟨b1,0,none⟩)->tmps.getD s2 undef=.pointer (some ⟨b2,0,none⟩) ->
  (∀v w',(∀m,Rep m v r)->w'.os=w.os->w'.tape=w.tape->w'.output=w.output->w.heap.size<=w'.heap.size->(∀k,k<w.heap.size->k≠b1->k≠b2->w'.heap[k]?=w.heap[k]?)->R (.returned v) w') ->
  Leaves P fn tmps R [Jm gf #[.pointer (some ⟨b1,0,none⟩),.pointer (some ⟨b2,0,none⟩)]] (.panicking [{ v:=.iface t0 (.agg #[]),recovered:=false }]) w
theorem Ajb{m:Mem}{w:World}{b:Nat}{row:List SV}(h:GRow m w b row)(hm:Ec row=false):∃c e,w.heap[b]?=some (.cells c e (0,0))/\∀(k:Nat) x,row[k]?=some x->∃v,c[k]?=some v/\Rep m v x:=by
 cases h with
 |cells _ c e h1 h2 h3=>
  refine⟨c,e,h1,fun k x hx=>?_⟩;have hk:k<c.size:=by
   have:=(List.getElem?_eq_some_iff.1 hx).1;omega
  exact⟨c[k],Array.getElem?_eq_getElem hk,(h3 k c[k] x (Array.getElem?_eq_getElem hk) hx).1⟩
 |map es k l=>cases hm
theorem v6{m:Mem}{v:Value}{i:Nat}(h:Rep m v (.gp i 0)):∃b,v=.pointer (some ⟨b,0,none⟩)/\m.d i=some b:=by
 cases h with
 |gp _ _ b hb _=>exact⟨b,rfl,hb⟩
theorem Bda[hB:Nonempty (StB B)](hm:P.follows .mixedOrders=true){fn:Func}{t gf n n' s1 s2 i1 i2 t0:Nat}{row1 row2:List SV}{r:SV}{R:Ending->World->Prop}{c:Code}{ac:AC}(hD:Vg P t gf [s1,s2] n c ac)(hi:i1≠i2)(Bs:Ec row1=false)(Gn:Ec row2=false)
  (Hb:∀b,¬own b) (hl:Acg P fn gf t0 s1 s2 row1 row2 r)
  (hR:∀v w',(∀m,Rep m v r)->w'.os=w0.os->w'.tape=w0.tape->w'.output=w0.output->w0.heap.size<=w'.heap.size->(∀k,k<w0.heap.size->w'.heap[k]?=w0.heap[k]?)->R (.returned v) w') :
  ∀(E:Env) (g:Option (GV)) (s:St) (a:Act) (w:World),SR w0 own M0 B [] E g s a w ->
  vcN (Av P fun _ _=>False) (Aic (Av P fun _ _=>False) (Aff P (fun x G'=>x=.ife t0/\G'[i1]?=some row1/\G'[i2]?=some row2) [(s1,.gp i1 0),(s2,.gp i2 0)]) [(s1,.gp i1 0),(s2,.gp i2 0)] t n') n ac s->c.wp P (bodyPostD P fn R) a w:=by
 induction hD with
 |seq n x y ax ay hx _ ih=>
  intro E g s a w hS h;rw[Aca] at h;refine wp_seq (Of (X:=fun _ _=>False) hm x ax hx (Q:=Exit.then (y.wp P _) _) (fun E u x G' a w h=>h.elim) (fun e E g s a w hS he=>?_) E g s a w hS h);cases e with
  |normal=>exact ih E g s a w hS he
  |exit id=>exact he.elim
  |ret=>exact he.elim
 |door id ty1 ty2 p1 p2 af1 af2 caps y ay Lk hy=>
  intro E g s a w hS h;rw[l6] at h;obtain⟨ay',Co,ht,s',Uk,Kg,hv⟩:=h;cases Co;have Gv:t<a.tmps.size:=by rw[<-hS.len];exact ht
  refine wp_seq (wp_region ?_);have hd:=hS.dfr;have hz:∀(u:Value),(a.put (some t) u).tmps.getD t undef=u:=fun u=>by simp[Act.put,Gv]
  simp only[List.size_toArray,List.length_cons,List.length_nil,Nat.zero_add,Nat.reduceAdd,List.range_succ,List.range_zero,List.nil_append,List.cons_append];have Yw:∀(fn:Fn) (first cap:Array Value) (w:World),(Instr.makeFunc fn first cap).run P w=.ok (.func fn first cap) w:=fun _ _ _ _=>rfl
  have Ui:(resolve (a.put (some t) (Value.func (Fn.func gf) #[] (Array.map a.eval caps))).eval { callee:=Callee.value (Operand.tmp t),args:=#[],argTypes:=#[] } ty2).run P w=.ok (Jm gf (Array.map a.eval caps)) w:=by
   have:=hz (Value.func (Fn.func gf) #[] (Array.map a.eval caps));simp[resolve,Act.eval,this,Jm,Deferred.ofValue]
  simp[wpOps,Oper.wp,execOp,Region.wanted,Yw,Exit.then,Oper.upon,Ui];refine .inl (.inl ?_);have hS1:SR w0 own M0 B [Jm gf (Array.map a.eval caps)] E g (s.put (some t) .J) { tmps:=(a.put (some t) (Value.func (Fn.func gf) #[] (Array.map a.eval caps))).tmps,defers:=Jm gf (Array.map a.eval caps)::(a.put (some t) (Value.func (Fn.func gf) #[] (Array.map a.eval caps))).defers } w:=by
   refine⟨hS.wo,hS.gx,fun o=>by rw[Uu];exact hS.hp o,?_,?_,?_,hS.z,hS.le,hS.d,hS.hb⟩
   ·simpa [Act.put,St.put] using hS.len
   ·exact Abk (hp:=s.hp) hS.len hS.sl (.J _)
   ·simp[Act.put,hd]
  obtain⟨E',g',hS2⟩:=Acf Uk hS1;have hS3:=hS2.reb;have Wa:=Ahe Lk a;rw[Wa] at hS3 |-;simp only[q_h,q_i] at hS3 |-;have q1:=Kg (s1,.gp i1 0) (by simp);have q2:=Kg (s2,.gp i2 0) (by simp);have r1:=hS2.sl s1;have r2:=hS2.sl s2;simp only at q1 q2;rw[q1.1] at r1;rw[q2.1] at r2;have hg1:∀u,(a.put (some t) u).tmps.getD s1 undef=a.tmps.getD s1 undef:=fun u=>by simp[Act.put,Array.getElem?_setIfInBounds,Ne.symm q1.2]
  have Mj:∀u,(a.put (some t) u).tmps.getD s2 undef=a.tmps.getD s2 undef:=fun u=>by simp[Act.put,Array.getElem?_setIfInBounds,Ne.symm q2.2]
  simp only[hg1,Mj] at r1 r2;obtain⟨b1,p1,d1⟩:=v6 (r1.closed_rep rfl);obtain⟨b2,p2,d2⟩:=v6 (r2.closed_rep rfl);refine Bgc hm (M0:=E'.m) (T:=[(s1,.gp i1 0),(s2,.gp i2 0)]) (X:=fun x G'=>x=.ife t0/\G'[i1]?=some row1/\G'[i2]?=some row2) ?_ n' y ay hy _ g' s' _ w hS3 hv;intro E u x G' ac w1 hx Bq hW hg hle hz En hk;obtain⟨rfl,g1,g2⟩:=hx;have k1:=hk (s1,.gp i1 0) (by simp);have k2:=hk (s2,.gp i2 0) (by simp);simp only at k1 k2;obtain⟨b1',p1',d1'⟩:=v6 (k1.closed_rep rfl);obtain⟨b2',p2',d2'⟩:=v6 (k2.closed_rep rfl);have e1:b1'=b1:=by have:=hle.d _ _ d1;rw[d1',q_b] at this;exact this
  have e2:b2'=b2:=by have:=hle.d _ _ d2;rw[d2',q_b] at this;exact this
  subst e1 e2;have hu:u=.iface t0 (.agg #[]):=by cases Bq;rfl
  subst hu;obtain⟨c1,y1,h1,j1⟩:=Ajb (hg.sat.row i1 row1 _ g1 d1') Bs;obtain⟨c2,y2,h2,j2⟩:=Ajb (hg.sat.row i2 row2 _ g2 d2') Gn;have As:b1'≠b2':=fun e=>by subst e;exact hi (hg.sat.inj _ _ _ d1' d2')
  have o1:w0.heap.size<=b1':=(hg.new _ _ d1').elim (fun h=>h) (fun h=>absurd h (Hb _));have o2:w0.heap.size<=b2':=(hg.new _ _ d2').elim (fun h=>h) (fun h=>absurd h (Hb _));simp only[bodyPostD,En];rw[p1,p2];refine hl w1 b1' b2' c1 c2 y1 y2 ac.tmps E.m R h1 h2 As j1 j2 p1' p2' (fun v w' hv a1 a2 a3 a4 a5=>hR v w' hv (a1.trans hW.os) (a2.trans hW.tape) (a3.trans hW.output) (Nat.le_trans hW.size a4) (fun k hk=>?_));rw[a5 k (Nat.lt_of_lt_of_le hk hW.size) (by omega) (by omega)];exact hW.block k hk (Hb k)
def Ape(P:Program)(f:AF)(args:List SV)(t0 i1 i2 s1 s2 t n n':Nat)(row1 row2:List SV):Prop:=
 vcN (Av P fun _ _=>False) (Aic (Av P fun _ _=>False) (Aff P (fun x G'=>x=.ife t0/\G'[i1]?=some row1/\G'[i2]?=some row2) [(s1,.gp i1 0),(s2,.gp i2 0)]) [(s1,.gp i1 0),(s2,.gp i2 0)] t n') n f.body ⟨args++List.replicate (f.ntmps-args.length) .undef,[gOb []]⟩
theorem Awk{f:Nat}{fn:Func}{af:AF}{t gf t0 i1 i2 s1 s2 n n':Nat}{row1 row2:List SV}{args:List SV}{r:SV}(hm:P.follows .mixedOrders=true)(hf:P.funcs[f]?=some fn)(htr:Xe P fn=some (af,t,gf,[s1,s2],n))(hi:i1≠i2)(Bs:Ec row1=false)(Gn:Ec row2=false)
  (hl:Acg P fn gf t0 s1 s2 row1 row2 r) (Ee:∀x∈args,NoG x) (h:Ape P af args t0 i1 i2 s1 s2 t n n' row1 row2):Contract P f args r:=by
 unfold Xe at htr;split at htr;rotate_left
 ·cases htr
 rename_i c hb;split at htr;rotate_left
 ·cases htr
 rename_i ars Gt;simp only[q_e] at htr;obtain⟨⟨ac,q⟩,hq,Fz⟩:=htr;cases Fz;intro m w vs hmem Ah Bq
 let m1:Mem:=⟨m.c,fun _=>none,m.p,fun _ _ _ h=>by cases h⟩
 let own:Nat->Prop:=fun _=>False
 let E0:Env:={ m:=m1,m0:=m1,H:=fun _=>none,β:=fun _=>0,t:=fun _=>0 }
 have hW:W w own E0 w:=⟨rfl,rfl,rfl,Nat.le_refl _,fun _ _ _=>rfl,hmem.1,fun o ob ho=>(by cases ho),fun o o' ob ob' ho=>(by cases ho),fun _ _ _ _=>rfl,hmem.2⟩
 have hS:SR w own m1 (fun _=>True) [] E0 (some []) { sl:=args++List.replicate (fn.ntmps-args.length) .undef,hp:=[gOb []] } { tmps:=vs.toArray++Array.replicate (fn.ntmps-vs.toArray.size) undef,defers:=[] } w:=by
  refine⟨hW,⟨rfl,⟨fun i=>?_,fun i j b hi=>?_,fun i r b hi=>?_,fun i b j hi=>?_⟩,fun i b hi=>?_,fun i b o ob _ ho=>by cases ho⟩,fun o=>?_,by simp[Ah],?_,rfl,rfl,.refl _,(fun h=>by cases h),fun _=>trivial⟩
  ·simp[E0,m1]
  ·cases hi
  ·simp at hi
  ·cases hi
  ·cases hi
  ·cases o with
   |zero=>rfl
   |succ o=>rfl
  ·exact Ul Ah (fun j v x hv hx=>Rep.swap (m:=m) (m':=m1) rfl (fun _ h=>h) (Bq j v x hv hx) (Ee x (List.mem_of_getElem? hx)))
 refine calls_of_wp_defers hf hb ?_;refine Bda (own:=own) (w0:=w) hm (Ao3 hq) hi Bs Gn (fun _ h=>h) hl (fun v w' hv a1 a2 a3 a4 a5=>?_) E0 (some []) _ _ w hS h;refine⟨v,m,rfl,hv m,⟨.refl m,rfl⟩,fun _ _ _=>rfl,⟨fun b j v hbj=>?_,fun b hb=>?_⟩,a1,a2,a3,a4,a5⟩
 ·have h1:=hmem.1 b j v hbj;have Ab:b<w.heap.size:=by
   rcases Nat.lt_or_ge b w.heap.size with Ab|Fu
   ·exact Ab
   ·simp[World.cell?,Array.getElem?_eq_none Fu] at h1
  rw[<-h1];simp only[World.cell?,a5 b Ab]
 ·obtain⟨c,e,h1⟩:=hmem.2 b hb;have Ab:b<w.heap.size:=by
   rcases Nat.lt_or_ge b w.heap.size with Ab|Fu
   ·exact Ab
   ·rw[Array.getElem?_eq_none Fu] at h1;cases h1
  exact⟨c,e,by rw[a5 b Ab];exact h1⟩
def Aid(C:CT)(QA:AE->St->Prop)(t:Nat)(ac:AC)(s:St):Prop:=∃ay,ac=.seq (Pt t) ay/\t<s.sl.length/\∃s',Wk (s.put (some t) .J) s'/\vc C ay QA s'
theorem Bdb[hB:Nonempty (StB B)](hm:P.follows .mixedOrders=true){t gf n:Nat}{ts:List Nat}{c:Code}{ac:AC}(hD:Vg P t gf ts n c ac){QA:AE->St->Prop}{Q:Exit->Act->World->Prop}
  (Ya:∀cap,cap.size=ts.length->∀e E g s a w,SR w0 own M0 B [Jm gf cap] E g s a w->QA e s->Q e.ex a w) :
  ∀(E:Env) (g:Option (GV)) (s:St) (a:Act) (w:World),SR w0 own M0 B [] E g s a w->vcN (Av P fun _ _=>False) (Aid (Av P fun _ _=>False) QA t) n ac s->c.wp P Q a w:=by
 induction hD with
 |seq n x y ax ay hx _ ih=>
  intro E g s a w hS h;rw[Aca] at h;refine wp_seq (Of (X:=fun _ _=>False) hm x ax hx (Q:=Exit.then (y.wp P _) _) (fun E u x G' a w h=>h.elim) (fun e E g s a w hS he=>?_) E g s a w hS h);cases e with
  |normal=>exact ih E g s a w hS he
  |exit id=>exact he.elim
  |ret=>exact he.elim
 |door id ty1 ty2 p1 p2 af1 af2 caps y ay Lk hy=>
  intro E g s a w hS h;rw[l6] at h;obtain⟨ay',Co,ht,s',Uk,hv⟩:=h;cases Co;have Gv:t<a.tmps.size:=by rw[<-hS.len];exact ht
  refine wp_seq (wp_region ?_);have hd:=hS.dfr;have hz:∀(u:Value),(a.put (some t) u).tmps.getD t undef=u:=fun u=>by simp[Act.put,Gv]
  simp only[List.size_toArray,List.length_cons,List.length_nil,Nat.zero_add,Nat.reduceAdd,List.range_succ,List.range_zero,List.nil_append,List.cons_append];have Yw:∀(fn:Fn) (first cap:Array Value) (w:World),(Instr.makeFunc fn first cap).run P w=.ok (.func fn first cap) w:=fun _ _ _ _=>rfl
  have Ui:(resolve (a.put (some t) (Value.func (Fn.func gf) #[] (Array.map a.eval caps))).eval { callee:=Callee.value (Operand.tmp t),args:=#[],argTypes:=#[] } ty2).run P w=.ok (Jm gf (Array.map a.eval caps)) w:=by
   have:=hz (Value.func (Fn.func gf) #[] (Array.map a.eval caps));simp[resolve,Act.eval,this,Jm,Deferred.ofValue]
  simp[wpOps,Oper.wp,execOp,Region.wanted,Yw,Exit.then,Oper.upon,Ui];refine .inl (.inl ?_);have hS1:SR w0 own M0 B [Jm gf (Array.map a.eval caps)] E g (s.put (some t) .J) { tmps:=(a.put (some t) (Value.func (Fn.func gf) #[] (Array.map a.eval caps))).tmps,defers:=Jm gf (Array.map a.eval caps)::(a.put (some t) (Value.func (Fn.func gf) #[] (Array.map a.eval caps))).defers } w:=by
   refine⟨hS.wo,hS.gx,fun o=>by rw[Uu];exact hS.hp o,?_,?_,?_,hS.z,hS.le,hS.d,hS.hb⟩
   ·simpa [Act.put,St.put] using hS.len
   ·exact Abk (hp:=s.hp) hS.len hS.sl (.J _)
   ·simp[Act.put,hd]
  obtain⟨E',g',hS2⟩:=Acf Uk hS1;have hcl:(Array.map a.eval caps).size=ts.length:=by rw[Ahe Lk a];simp
  exact Of (X:=fun _ _=>False) hm y ay hy (fun E u x G' a w h=>h.elim) (Ya _ hcl) E' g' s' _ w hS2 hv
def Agd(P:Program)(f:AF)(args:List SV)(t n:Nat)(r:SV):Prop:=
 vcN (Av P fun _ _=>False) (Aid (Av P fun _ _=>False) (rt f.res r) t) n f.body ⟨args++List.replicate (f.ntmps-args.length) .undef,[gOb []]⟩
theorem Ah6{f:Nat}{fn:Func}{af:AF}{t gf n:Nat}{ts:List Nat}{args:List SV}{r:SV}(hm:P.follows .mixedOrders=true)(hf:P.funcs[f]?=some fn)(htr:Xe P fn=some (af,t,gf,ts,n))
  (Yq:∀(cap:Array Value) (w:World),(invoke (.fn (.func gf) cap) #[]).run P w=.ok (.enter gf cap) w) (Yp:∀(cap:Array Value) (w:World),cap.size=ts.length->CallsD P gf cap .returning w fun e u' w'=>u'=.returning/\e=.returned (.tuple #[])/\w'=w) (Ee:∀x∈args,NoG x) (hr:NoG r)
  (h:Agd P af args t n r):Contract P f args r:=by
 unfold Xe at htr;split at htr;rotate_left
 ·cases htr
 rename_i c hb;split at htr;rotate_left
 ·cases htr
 rename_i ars Gt;simp only[q_e] at htr;obtain⟨⟨ac,q⟩,hq,Fz⟩:=htr;cases Fz;intro m w vs hmem Ah Bq
 let m1:Mem:=⟨m.c,fun _=>none,m.p,fun _ _ _ h=>by cases h⟩
 let own:Nat->Prop:=fun _=>False
 let E0:Env:={ m:=m1,m0:=m1,H:=fun _=>none,β:=fun _=>0,t:=fun _=>0 }
 have hW:W w own E0 w:=⟨rfl,rfl,rfl,Nat.le_refl _,fun _ _ _=>rfl,hmem.1,fun o ob ho=>(by cases ho),fun o o' ob ob' ho=>(by cases ho),fun _ _ _ _=>rfl,hmem.2⟩
 have hS:SR w own m1 (fun _=>True) [] E0 (some []) { sl:=args++List.replicate (fn.ntmps-args.length) .undef,hp:=[gOb []] } { tmps:=vs.toArray++Array.replicate (fn.ntmps-vs.toArray.size) undef,defers:=[] } w:=by
  refine⟨hW,⟨rfl,⟨fun i=>?_,fun i j b hi=>?_,fun i r b hi=>?_,fun i b j hi=>?_⟩,fun i b hi=>?_,fun i b o ob _ ho=>by cases ho⟩,fun o=>?_,by simp[Ah],?_,rfl,rfl,.refl _,(fun h=>by cases h),fun _=>trivial⟩
  ·simp[E0,m1]
  ·cases hi
  ·simp at hi
  ·cases hi
  ·cases hi
  ·cases o with
   |zero=>rfl
   |succ o=>rfl
  ·exact Ul Ah (fun j v x hv hx=>Rep.swap (m:=m) (m':=m1) rfl (fun _ h=>h) (Bq j v x hv hx) (Ee x (List.mem_of_getElem? hx)))
 refine calls_of_wp_defers hf hb ?_;have fin:∀(Df:List Deferred) (E:Env) (g:Option (GV)) (s:St) (a:Act) (w':World),SR w own m1 (fun _=>True) Df E g s a w'->Jt ars r s->∃v,(results fn a.tmps).run P w'=.ok v w'/\∃v' m',Ending.returned v=.returned v'/\Rep m' v' r/\(m.le m'/\m'.d=m.d)/\(∀b j,b<w.heap.size->m' b j=m b j)/\Hv m' w' /\
   w'.os=w.os/\w'.tape=w.tape/\w'.output=w.output/\w.heap.size<=w'.heap.size/\∀k,k<w.heap.size->w'.heap[k]?=w.heap[k]?:=by
  intro Df E g s a w' hS hrt;unfold Jt at hrt;split at hrt;rotate_left
  ·exact hrt.elim
  rename_i p svs hp' Iz;obtain⟨hp,Nt⟩:=hrt;obtain⟨us,E',k1,k2,k3,k4,k5⟩:=Ux fn.results.toList ars p svs hp' E s Gt Iz hp hS;refine⟨_,Uw k1,_,⟨E'.m.c,m.d,E'.m.p,m.inj⟩,rfl,Rep.swap (m:=E'.m) (m':=⟨E'.m.c,m.d,E'.m.p,m.inj⟩) rfl (fun _ h=>h) (Uq Nt k2 k3) hr,⟨⟨fun b j v hv=>k4.le.c b j v hv,fun i b hb=>hb,fun b hb=>k4.le.p b hb⟩,rfl⟩,fun b j hb=>?_,⟨k4.wo.mem,k4.wo.pl⟩,k4.wo.os,k4.wo.tape,k4.wo.output,k4.wo.size,fun k hk=>k4.wo.block k hk (fun h=>h)⟩;have:=k4.wo.keep b j hb (fun h=>h);rw[k4.z] at this;exact this
 refine Bdb (own:=own) (M0:=m1) (w0:=w) (B:=fun _=>True) (QA:=rt ars r) hm (Ao3 hq) (fun cap Lk e E g s a w' hS he=>?_) E0 (some []) _ _ w hS h;have hd:=hS.dfr;have key:Jt ars r s->Leaves P fn a.tmps (fun e w'=>∃v m',e=.returned v/\Rep m' v r/\(m.le m'/\m'.d=m.d)/\(∀b j,b<w.heap.size->m' b j=m b j)/\Hv m' w' /\
   w'.os=w.os/\w'.tape=w.tape/\w'.output=w.output/\w.heap.size<=w'.heap.size/\∀k,k<w.heap.size->w'.heap[k]?=w.heap[k]?) [Jm gf cap] .returning w':=by
  intro he;refine leaves_cons (f:=gf) (args:=cap) (by simp) (Yq cap w') ?_;refine (Yp cap w' Lk).mono ?_;rintro e u' w'' ⟨rfl,rfl,rfl⟩;exact fin _ E g s a w'' hS he
 cases e with
 |normal=>simp only[AE.ex,bodyPostD,hd];exact key he
 |exit id=>exact he.elim
 |ret=>simp only[AE.ex,bodyPostD,hd];exact key he
end
open Go Go.RowKit Go.Proofs.YtdpigpopcbjkmaaGreatDoor
def Gs(d:Nat):Nat->List Tm
 |0=>[]
 |n+1=>fT ((d+n:Nat):Int)::Gs d n
theorem Ai6(d n:Nat):∀u∈Gs d n,Wf 0 u:=by
 induction n with
 |zero=>intro u hu;cases hu
 |succ n ih=>
  intro u hu;rcases List.mem_cons.1 hu with rfl|hu
  ·exact .fv _ _
  ·exact ih u hu
mutual
def tsz:Tm->Nat
 |.mk _ _ _ _ l=>1+Ab7 l
def Ab7:List Tm->Nat
 |[]=>0
 |t::l=>tsz t+Ab7 l
end
theorem Bhe:∀l:List Tm,Ab7 l=(l.map tsz).sum:=by
 intro l
 induction l with
 |nil=>rfl
 |cons t l ih=>rw[Ab7,ih];simp
theorem Gk(k i j n:Int)(l:List Tm):tsz (.mk k i j n l)=1+(l.map tsz).sum:=by rw[tsz,Bhe]
theorem Vd(t:Tm):1<=tsz t:=by cases t;rw[Gk];omega
theorem A5s{t:Tm}(h:Wf 0 t):Ao [] 0 t=t:=
 Ao5 h (Nat.le_refl _) (fun c' i hi _=>by unfold ivI;rw[if_pos (by omega)]) (fun _ _=>rfl)
abbrev BT:=Int->Int->Int->Option Tm
inductive NR(B:BT):Nat->Tm->Nat->Tm->Prop
 |fv {d n:Nat} {T:Tm} {l:Int} (h:HR (plD B) n T (fT l)):NR B d T n (.mk 2 ((d:Int)-1-l) 0 0 [])
 |nd {d n:Nat} {T:Tm} {k i j n':Int} {l rs:List Tm} {Ns:List Nat} (h:HR (plD B) n T (.mk k i j n' l)) (hn:HN (plD B) (.mk k i j n' l)) (h0:k≠0) (hN:Ns.length=l.length) (hr:rs.length=l.length)
   (hk:∀(p:Nat) t N r,l[p]?=some t->Ns[p]?=some N->rs[p]?=some r->NR B (d+bnd k p) (Ao (Gs d (bnd k p)) 0 t) N r):NR B d T (n+Ns.sum) (.mk k i j n' rs)
theorem Sa{B:BT}(l:Int):HN (plD B) (fT l):=by
 refine .mk ?_ (fun p hp=>by cases hp);unfold plD plW fT;rw[if_neg (k_ne (by decide)),if_neg (fun c=>absurd c.1 (k_ne (by decide))),if_neg (fun c=>absurd c.1 (k_ne (by decide))),if_neg (fun c=>absurd c.1 (k_ne (by decide))),if_neg (fun c=>absurd c.1 (k_ne (by decide)))]
theorem NR.det{B:BT}{d N:Nat}{T r:Tm}(h:NR B d T N r):∀{N' r'},NR B d T N' r'->N=N'/\r=r':=by
 induction h with
 |@fv d n T l h=>
  intro N' r' h';cases h' with
  |fv h2=>
   obtain⟨a,b⟩:=Wl h (Sa _) h2 (Sa _);unfold fT at b;cases b;exact⟨a,rfl⟩
  |nd h2 hn h0=>
   obtain⟨a,b⟩:=Wl h (Sa _) h2 hn;unfold fT at b;cases b;exact absurd rfl h0
 |@nd d n T k i j n' l rs Ns h hn h0 hN hr hk ih=>
  intro N' r' h';cases h' with
  |fv h2=>
   obtain⟨a,b⟩:=Wl h hn h2 (Sa _);unfold fT at b;cases b;exact absurd rfl h0
  |@nd _ n2 _ k2 i2 j2 n2' l2 rs2 Ns2 h2 Qg h02 hN2 Gn Dr=>
   obtain⟨a,b⟩:=Wl h hn h2 Qg;cases b;have key:∀(p:Nat) t,l[p]?=some t->Ns[p]?=Ns2[p]?/\rs[p]?=rs2[p]?:=fun p t ht=>by
    have Ab:=Dh ht;have e1:Ns[p]?=some Ns[p]:=q_f (by omega);have e2:rs[p]?=some rs[p]:=q_f (by omega);have e3:Ns2[p]?=some Ns2[p]:=q_f (by omega);have e4:rs2[p]?=some rs2[p]:=q_f (by omega);obtain⟨c,d⟩:=ih p t _ _ ht e1 e2 (Dr p t _ _ ht e3 e4);rw[e1,e2,e3,e4,c,d];exact⟨rfl,rfl⟩
   have hNs:Ns=Ns2:=by
    apply List.ext_getElem?;intro p;cases ht:l[p]? with
    |some t=>exact (key p t ht).1
    |none=>
     have:=List.getElem?_eq_none_iff.1 ht;rw[List.getElem?_eq_none (by omega),List.getElem?_eq_none (by omega)]
   have Ox:rs=rs2:=by
    apply List.ext_getElem?;intro p;cases ht:l[p]? with
    |some t=>exact (key p t ht).2
    |none=>
     have:=List.getElem?_eq_none_iff.1 ht;rw[List.getElem?_eq_none (by omega),List.getElem?_eq_none (by omega)]
   subst hNs Ox;exact⟨by omega,rfl⟩
theorem NR.pre{B:BT}{d N n:Nat}{T U r:Tm}(hr:HR (plD B) n T U)(h:NR B d U N r):NR B d T (n+N) r:=by
 cases h with
 |fv h=>exact .fv (Sc hr h)
 |nd h hn h0 hN hrl hk=>rw[<-Nat.add_assoc];exact .nd (Sc hr h) hn h0 hN hrl hk
theorem NR.head{B:BT}{d N:Nat}{T r:Tm}(h:NR B d T N r):∃n Y,n<=N/\HR (plD B) n T Y/\HN (plD B) Y:=by
 cases h with
 |fv h=>exact⟨_,_,Nat.le_refl _,h,Sa _⟩
 |nd h hn=>exact⟨_,_,Nat.le_add_right _ _,h,hn⟩
structure Mlq(M M':Mc):Prop where
 most:M'.most=M.most
 steps:M.steps<=M'.steps
 guess:M.guess=0->M'.guess=0
theorem Mlq.refl(M:Mc):Mlq M M:=⟨rfl,Nat.le_refl _,id⟩
theorem Mlq.trans{a b c:Mc}(h:Mlq a b)(k:Mlq b c):Mlq a c:=⟨k.most.trans h.most,Nat.le_trans h.steps k.steps,fun g=>k.guess (h.guess g)⟩
theorem Mle.q{M M':Mc}(h:Mle M M'):Mlq M M':=⟨h.most,h.steps,h.guess⟩
theorem Mlq.pos{M M1:Mc}(h:Mlq M M1)(g:0<M1.guess):0<M.guess:=by
 have:=h.guess;omega
section
variable{S:SyT}{m j:Nat}{Γ:Gh}{M:Mc}{G:GV}
inductive n8(S:SyT)(m j:Nat)(Γ:Gh)(M:Mc):HOut->GV->Prop
 |ret {G':GV} {M':Mc} (hi:RInv S m j G' Γ M') (mm:Mlq M M') (h1:M'.seen=M.seen+1) (h2:M'.steps=M.steps) (hs:M.seen<8000000):n8 S m j Γ M (.ret (.tup [])) G'
 |out {G':GV} {M':Mc} (hi:RInv S m j G' Γ M') (mm:Mlq M M') (hs:8000000<=M.seen):n8 S m j Γ M (.pan Sj) G'
 |far {G':GV} {M':Mc} (hi:RInv S m j G' Γ M') (mm:Mlq M M') (hg:0<M.guess):n8 S m j Γ M (.pan Ti) G'
theorem Aft(h:RInv S m j G Γ M)(h8:M.seen<=8000000):∃out G',Ad 58 G [.gp m 0] out G'/\n8 S m j Γ M out G':=by
 have hm:=h.mc;obtain⟨steps,most,seen,guess⟩:=M;have Fc:=h.st;have Ou:=h.mo;have Ia:=h.se;have Bi:=h.gu;simp only at Fc Ou Ia Bi h8;unfold Mc.row at hm;simp only at hm;have hf:fit (guess:Int):=by unfold fit;omega
 by_cases h1:guess=1
 ·subst h1;exact⟨_,_,A3m hm,.far (h.mach ⟨steps,most,seen,0⟩ Fc Ou Ia (by simp)) ⟨rfl,Nat.le_refl _,fun _=>rfl⟩ (by simp)⟩
 have hg:(guess:Int)≠1:=by omega
 by_cases h2:seen<8000000
 ·refine⟨_,_,Aju hm hf hg (by omega) (by omega),?_⟩;rw[v8];exact .ret (h.mach ⟨steps,most,seen+1,guess-1⟩ Fc Ou (by simp only;omega) (by simp only;omega)) ⟨rfl,Nat.le_refl _,fun g=>by simp only at g |-;omega⟩ rfl rfl h2
 ·refine⟨_,_,A3n hm hf hg (by omega) (by unfold fit;omega),?_⟩;rw[v8];exact .out (h.mach ⟨steps,most,seen+1,guess-1⟩ Fc Ou (by simp only;omega) (by simp only;omega)) ⟨rfl,Nat.le_refl _,fun g=>by simp only at g |-;omega⟩ (by simp only;omega)
theorem Ai7{d:Nat}(hd:d<=cap):WOK Γ ⟨2,0,0,0,(d:Int),[]⟩:=⟨.fv _ (by omega),.base stk2,Yx stk0⟩
theorem n9{l:Int}:TV Γ ⟨2,0,0,0,l,[]⟩=fT l:=rfl
theorem Bhm(h:RInv S m j G Γ M){id n d:Nat}{g:Ge}(hg:Γ[id]?=some (some g))(ho:g.Ok n)(hn:n<=2)(hd:d+2<=cap) :
  ∃id' G' Γ' g',UnR d n G id id' G'/\Gx Γ Γ'/\RInv S m j G' Γ' M/\Γ'[id']?=some (some g')/\g'.Ok 0/\g'.den 0=Ao (Gs d n) 0 (g.den n):=by
 have hc:cap=1099511627776:=rfl;rcases Nat.eq_zero_or_pos n with rfl|Ch
 ·exact⟨id,G,Γ,g,.no rfl,.refl Γ,h,hg,ho,by rw[show Gs d 0=[] from rfl,A5s ho.wf]⟩
 cases g with
 |kp row=>exact ho.elim
 |dn v T=>exact absurd ho.1 (by omega)
 |cl t es=>
  obtain⟨th,t1,_⟩:=h.rows id _ hg;obtain⟨q1,q2,q3,q4,_⟩:=t1;subst q3;obtain⟨o1,o2,o3⟩:=ho;have Ah:=q4.len;have i1:=h.pushDn (Ai7 (d:=d) (by omega));rw[n9] at i1;rcases (show n=1\/n=2 by omega) with rfl|rfl
  ·have hu:=A3t q1 q2 (d:Int) (by unfold fit;omega) (by unfold fit;omega);have hen:EOK (Γ++[some (.dn ⟨2,0,0,0,(d:Int),[]⟩ (fT d))]) (Γ.length+1) (G.length::th.env) (fT (d:Int)::es):=by
    rw[h.len];exact (q4.top.mono (.app _ _) (Nat.le_succ _)).push (g:=.dn ⟨2,0,0,0,(d:Int),[]⟩ (fT d)) (Nat.lt_succ_self _) (by simp) ⟨rfl,.fv _ _⟩
   have i2:=i1.pushCl (t:=th.t) hen (by simp[h.len]);rw[List.append_assoc] at i2;refine⟨_,_,_,.cl th.t (fT (d:Int)::es),.yes Ch hu,(Gx.app _ _).trans (.app _ _),i2,by rw[h.len];simp,⟨hen.wf,o2,by simp only[List.length_cons];omega⟩,?_⟩;show Ao (fT (d:Int)::es) 0 th.t=Ao (Gs d 1) 0 (Ao es 1 th.t);exact (Aaw o1 (Ai6 d 1) th.t).symm
  ·have hu:=A3u q1 q2 (d:Int) (by unfold fit;omega) (by unfold fit;omega) (by unfold fit;omega);have hen:EOK (Γ++[some (.dn ⟨2,0,0,0,(d:Int),[]⟩ (fT d))]) (Γ.length+1) (G.length::th.env) (fT (d:Int)::es):=by
    rw[h.len];exact (q4.top.mono (.app _ _) (Nat.le_succ _)).push (g:=.dn ⟨2,0,0,0,(d:Int),[]⟩ (fT d)) (Nat.lt_succ_self _) (by simp) ⟨rfl,.fv _ _⟩
   have i2:=i1.pushDn (Ai7 (d:=d+1) (by omega));rw[n9] at i2;have hen2:EOK (Γ++[some (.dn ⟨2,0,0,0,(d:Int),[]⟩ (fT d))]++[some (.dn ⟨2,0,0,0,((d+1:Nat):Int),[]⟩ (fT (d+1:Nat)))]) (Γ.length+2) ((G.length+1)::G.length::th.env) (fT ((d+1:Nat):Int)::fT (d:Int)::es):=
    (hen.mono (.app _ _) (Nat.le_succ _)).push (g:=.dn ⟨2,0,0,0,((d+1:Nat):Int),[]⟩ (fT (d+1:Nat))) (by rw[h.len];omega) (by rw[h.len];simp) ⟨rfl,.fv _ _⟩
   have i3:=i2.pushCl (t:=th.t) hen2 (by simp[h.len]);rw[List.append_assoc,List.append_assoc] at i3;refine⟨_,_,_,.cl th.t (fT ((d+1:Nat):Int)::fT (d:Int)::es),.yes Ch hu,((Gx.app _ _).trans (.app _ _)).trans (.app _ _),i3,by rw[h.len];simp,⟨hen2.wf,o2,by simp only[List.length_cons];omega⟩,?_⟩;show Ao (fT ((d+1:Nat):Int)::fT (d:Int)::es) 0 th.t=Ao (Gs d 2) 0 (Ao es 2 th.t);exact (Aaw o1 (Ai6 d 2) th.t).symm
inductive n7(S:SyT)(m j:Nat)(Γ:Gh)(M:Mc)(d:Nat)(T:Tm):HOut->GV->Prop
 |ret {G':GV} {Γ':Gh} {M':Mc} {N:Nat} {r:Tm} (x:Gx Γ Γ') (hi:RInv S m j G' Γ' M') (mm:Mlq M M') (hn:NR S.B d T N r) (hs:M'.steps<=M.steps+N) (Ia:M'.seen=M.seen+tsz r) (h8:M'.seen<=8000000):n7 S m j Γ M d T (.ret (.agg true (tv r))) G'
 |out {G':GV} {Γ':Gh} {M':Mc} (x:Gx Γ Γ') (hi:RInv S m j G' Γ' M') (mm:Mlq M M') (h:∀N r,NR S.B d T N r->M.most<M.steps+N\/8000000<M.seen+tsz r):n7 S m j Γ M d T (.pan Sj) G'
 |far {G':GV} {Γ':Gh} {M':Mc} (x:Gx Γ Γ') (hi:RInv S m j G' Γ' M') (mm:Mlq M M') (hg:0<M.guess):n7 S m j Γ M d T (.pan Ti) G'
inductive l9(S:SyT)(m j:Nat)(Γ:Gh)(M:Mc)(d:Nat)(k:Int)(p:Nat)(Ts:List Tm):(List Tm ⊕ SV)->GV->Prop
 |ret {G':GV} {Γ':Gh} {M':Mc} {Ns:List Nat} {rs:List Tm} (x:Gx Γ Γ') (hi:RInv S m j G' Γ' M') (mm:Mlq M M') (hN:Ns.length=Ts.length) (hr:rs.length=Ts.length)
   (hk:∀(q:Nat) t N r,Ts[q]?=some t->Ns[q]?=some N->rs[q]?=some r->NR S.B (d+bnd k (p+q)) (Ao (Gs d (bnd k (p+q))) 0 t) N r) (hs:M'.steps<=M.steps+Ns.sum) (Ia:M'.seen=M.seen+(rs.map tsz).sum) (h8:M'.seen<=8000000):l9 S m j Γ M d k p Ts (.inl rs) G'
 |out {G':GV} {Γ':Gh} {M':Mc} (x:Gx Γ Γ') (hi:RInv S m j G' Γ' M') (mm:Mlq M M') (h:∀(Ns:List Nat) (rs:List Tm),Ns.length=Ts.length->rs.length=Ts.length ->
   (∀(q:Nat) t N r,Ts[q]?=some t->Ns[q]?=some N->rs[q]?=some r->NR S.B (d+bnd k (p+q)) (Ao (Gs d (bnd k (p+q))) 0 t) N r)->M.most<M.steps+Ns.sum\/8000000<M.seen+(rs.map tsz).sum):l9 S m j Γ M d k p Ts (.inr Sj) G'
 |far {G':GV} {Γ':Gh} {M':Mc} (x:Gx Γ Γ') (hi:RInv S m j G' Γ' M') (mm:Mlq M M') (hg:0<M.guess):l9 S m j Γ M d k p Ts (.inr Ti) G'
def QuT(S:SyT)(m j F:Nat):Prop:=∀{G:GV} {Γ:Gh} {M:Mc} {id d:Nat} {g:Ge},RInv S m j G Γ M->M.seen<=8000000->8000000<=M.seen+F->d<=2*M.seen->Γ[id]?=some (some g)->g.Ok 0 ->
 ∃out G',Ad 35 G [.gp m 0,.gp id 0,.int .i64 d] out G'/\n7 S m j Γ M d (g.den 0) out G'
theorem A6t{F:Nat}(hQ:QuT S m j F){d:Nat}{k:Int}:∀(l:List Nat) {p:Nat} {Γ:Gh} {G:GV} {M:Mc},RInv S m j G Γ M->M.seen<=8000000->8000000<=M.seen+F->d+2<=2*M.seen ->
  (∀(q:Nat) id,l[q]?=some id->∃g,Γ[id]?=some (some g)/\g.Ok (bnd k (p+q)))->∃out G',QkR m d k p G l out G'/\l9 S m j Γ M d k p (Fk Γ k p l) out G':=by
 intro l
 induction l with
 |nil=>
  intro p Γ G M hI h8 hF hd hk;exact⟨_,_,.nil,.ret (Ns:=[]) (.refl Γ) hI (.refl M) rfl rfl (fun q t N r ht=>by cases ht) (by simp) (by simp) h8⟩
 |cons i l ih=>
  intro p Γ G M hI h8 hF hd hk;have hc:cap=1099511627776:=rfl;obtain⟨g,hg,ho⟩:=hk 0 i rfl;rw[Nat.add_zero] at ho;have hb:=Tb k p;obtain⟨i',G1,Γ1,g1,u1,x1,i1,hg1,Ix,e1⟩:=Bhm hI hg ho hb (show d+2<=cap by omega);obtain⟨out,G2,q2,p2⟩:=hQ (d:=d+bnd k p) i1 h8 hF (by omega) hg1 Ix;have Qe:Fk Γ k p (i::l)=g.den (bnd k p)::Fk Γ k (p+1) l:=by rw[Fk,Mb hg]
  rw[e1] at p2;rw[Int.natCast_add] at q2;cases p2 with
  |far x hi mm h=>exact⟨_,_,.pan u1 q2,.far (x1.trans x) hi mm h⟩
  |out x hi mm h=>
   refine⟨_,_,.pan u1 q2,.out (x1.trans x) hi mm (fun Ns rs hN hr hk'=>?_)⟩;rw[Qe] at hN hr hk';simp only[List.length_cons] at hN hr
   match Ns,rs,hN,hr with
   |N::Ns,r::rs,_,_=>
    have:=h N r (by have:=hk' 0 _ N r rfl rfl rfl;rwa [Nat.add_zero] at this);simp only[List.sum_cons,q_h];omega
  |@ret _ Γ2 M2 N r x hi mm hn hs Ia h82=>
   have Ch:=Vd r;obtain⟨out,G3,q3,p3⟩:=ih (p:=p+1) hi h82 (by omega) (by omega) (fun q id Be=>by
    obtain⟨g,hg,ho⟩:=hk (q+1) id (by simpa using Be);exact⟨g,(x1.trans x).get hg,by rw[show p+1+q=p+(q+1) by omega];exact ho⟩)
   have hkT2:Fk Γ2 k (p+1) l=Fk Γ k (p+1) l:=by
    apply List.ext_getElem?;intro q;rw[Ny,Ny];cases hq:l[q]? with
    |none=>rfl
    |some id=>
     obtain⟨g,hg,ho⟩:=hk (q+1) id (by simpa using hq);simp only[Option.map_some,(x1.trans x).den hg]
   rw[hkT2] at p3;have hm:=mm.most;cases p3 with
   |far x' Bw mm' h'=>exact⟨_,_,.cpan u1 q2 q3,.far ((x1.trans x).trans x') Bw (mm.trans mm') (mm.pos h')⟩
   |out x' Bw mm' h'=>
    refine⟨_,_,.cpan u1 q2 q3,.out ((x1.trans x).trans x') Bw (mm.trans mm') (fun Ns rs hN hr hk'=>?_)⟩;rw[Qe] at hN hr hk';simp only[List.length_cons] at hN hr
    match Ns,rs,hN,hr with
    |N'::Ns,r'::rs,hN,hr=>
     have Ud:=hk' 0 _ N' r' rfl rfl rfl;rw[Nat.add_zero] at Ud;obtain⟨rfl,rfl⟩:=hn.det Ud;have:=h' Ns rs (by simpa using hN) (by simpa using hr) (fun q t N r ht h1 h2=>by
      have:=hk' (q+1) t N r (by simpa using ht) (by simpa using h1) (by simpa using h2)
      rwa [show p+(q+1)=p+1+q by omega] at this)
     simp only[List.sum_cons,q_h];omega
   |@ret _ Γ3 M3 Ns rs x' Bw mm' hN hr hk' Dn hse' h83=>
    refine⟨_,_,.cons u1 q2 q3,.ret (Ns:=N::Ns) ((x1.trans x).trans x') Bw (mm.trans mm') (by rw[Qe];simp[hN]) (by rw[Qe];simp[hr]) (fun q t N' r' ht h1 h2=>?_) (by simp only[List.sum_cons];omega) (by simp only[q_h,List.sum_cons];omega) h83⟩;rw[Qe] at ht;cases q with
    |zero=>
     simp only[List.getElem?_cons_zero,q_b] at ht h1 h2;subst ht h1 h2;rw[Nat.add_zero];exact hn
    |succ q=>
     have:=hk' q t N' r' (by simpa using ht) (by simpa using h1) (by simpa using h2)
     rwa [show p+1+q=p+(q+1) by omega] at this
theorem Bdu(L:Lib S):∀F,QuT S m j F:=by
 intro F
 induction F with
 |zero=>
  intro G Γ M id d g hI h8 hF hd hg ho;obtain⟨out,G1,s1,p1⟩:=Aft hI h8;cases p1 with
  |far hi mm h=>exact⟨_,_,Abl s1,.far (.refl Γ) hi mm h⟩
  |out hi mm h=>exact⟨_,_,Abl s1,.out (.refl Γ) hi mm (fun N r _=>by have:=Vd r;omega)⟩
  |ret hi mm h1 h2 hs=>omega
 |succ F ih=>
  intro G Γ M id d g hI h8 hF hd hg ho;obtain⟨out,G1,s1,p1⟩:=Aft hI h8;have hc:cap=1099511627776:=rfl;cases p1 with
  |far hi mm h=>exact⟨_,_,Abl s1,.far (.refl Γ) hi mm h⟩
  |out hi mm h=>exact⟨_,_,Abl s1,.out (.refl Γ) hi mm (fun N r _=>by have:=Vd r;omega)⟩
  |@ret _ M1 hi mm h1 h2 hs=>
   obtain⟨out,G2,e2,p2⟩:=A4e L hi hg ho;have Ou:=mm.most;cases p2 with
   |far x Bw mm' h=>exact⟨_,_,An1 s1 e2,.far x Bw (mm.trans mm'.q) (mm.pos h)⟩
   |out x Bw mm' h=>
    refine⟨_,_,An1 s1 e2,.out x Bw (mm.trans mm'.q) (fun N r hn=>?_)⟩;obtain⟨n,Y,Hl,Qg,hn3⟩:=hn.head;have:=h n Y Qg hn3;omega
   |@ret _ Γ2 M2 v n x Bw mm' hv hn hr hsn=>
    have hseen:=mm'.seen;have hok:=hv.ok;have hTV:TV Γ2 v=TV Γ2 v:=rfl;cases hok with
    |fv l hl=>
     rw[n9] at hr;exact⟨_,_,Bdy s1 e2 rfl (by unfold fit;omega) (by simp only;unfold fit;omega),.ret x Bw (mm.trans mm'.q) (.fv hr) (by omega) (by rw[Gk];simp;omega) (by omega)⟩
    |@nd k i j' n' kids k2 k0 hf hl hk=>
     rw[Jw (show (Vl.mk k i j' n' 0 kids).k≠2 from k2)] at hr hn;simp only at hr hn
     by_cases As:kids=[]
     ·subst As;exact⟨_,_,Bdw s1 e2 k2 rfl,.ret x Bw (mm.trans mm'.q) (.nd (Ns:=[]) (rs:=[]) hr hn k0 rfl rfl (fun p t N r ht=>by cases ht)) (by simp;omega) (by rw[Gk];simp;omega) (by omega)⟩
     ·obtain⟨out,G3,q3,p3⟩:=A6t ih (d:=d) (k:=k) kids (p:=0) Bw (by omega) (by omega) (by omega) (fun q id Be=>by rw[Nat.zero_add];exact hk q id Be);have Ah:kids.length<=100:=by have:=Nx k n';omega
      have y8:fit (d:Int)/\fit ((d:Int)+2):=by unfold fit;omega
      cases p3 with
      |far x' hi3 mm3 h=>exact⟨_,_,An2 s1 e2 k2 As Ah y8 q3,.far (x.trans x') hi3 ((mm.trans mm'.q).trans mm3) ((mm.trans mm'.q).pos h)⟩
      |out x' hi3 mm3 h=>
       refine⟨_,_,An2 s1 e2 k2 As Ah y8 q3,.out (x.trans x') hi3 ((mm.trans mm'.q).trans mm3) (fun N r Hm=>?_)⟩;have hmo2:=mm'.most;cases Hm with
       |fv h'=>
        obtain⟨a,b⟩:=Wl hr hn h' (Sa _);unfold fT at b;exact absurd (Tm.mk.inj b).1 k0
       |@nd _ n2 _ k2' i2 j2 n2' l2 rs2 Ns2 h' Qg h02 hN2 Gn Dr=>
        obtain⟨a,b⟩:=Wl hr hn h' Qg;cases b;have:=h Ns2 rs2 hN2 Gn (fun q t N r ht h1 h2=>by rw[Nat.zero_add];exact Dr q t N r ht h1 h2);rw[Gk];omega
      |@ret _ Γ3 M3 Ns rs x' hi3 mm3 hN Ug hk3 Cq hse3 h83=>
       rw[Nz] at hN Ug;refine⟨_,_,Bdx s1 e2 k2 As Ah y8 q3 (by intro e;subst e;simp at Ug;exact As (by cases kids with|nil=>rfl|cons a b=>simp at Ug)),.ret (N:=n+Ns.sum) (x.trans x') hi3 ((mm.trans mm'.q).trans mm3) (.nd (Ns:=Ns) (rs:=rs) hr hn k0 (by rw[Nz];exact hN) (by rw[Nz];exact Ug) (fun p t N r ht h1 h2=>by have:=hk3 p t N r ht h1 h2;rwa [Nat.zero_add] at this)) (by omega) (by rw[Gk];omega) h83⟩
end
end Go.Proofs.YtdpigpopcbjkmaaGreatDoor.Abs
