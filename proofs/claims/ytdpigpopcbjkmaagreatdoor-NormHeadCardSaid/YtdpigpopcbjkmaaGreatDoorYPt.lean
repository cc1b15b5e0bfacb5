import Derived.Test.YtdpigpopcbjkmaaGreatDoorYPn
import Derived.Test.YtdpigpopcbjkmaaGreatDoorYTd
import Derived.Test.YtdpigpopcbjkmaaGreatDoorYEv
import Derived.Test.YtdpigpopcbjkmaaGreatDoorYDw
import Derived.Test.YtdpigpopcbjkmaaGreatDoorYTs
import Derived.Test.YtdpigpopcbjkmaaGreatDoorYDo
set_option linter.unusedSimpArgs false
set_option linter.unusedVariables false
set_option maxRecDepth 20000
set_option maxHeartbeats 4000000
namespace Go.Proofs.YtdpigpopcbjkmaaGreatDoor.Abs
open Go Go.RowKit Go.Proofs.YtdpigpopcbjkmaaGreatDoor
def HsC(B:BT)(t:Tm):Prop:=(∃u,HS (Bi B) t u/\Con 42 [.agg true (tv t)] (.tup [.agg true (tv u),.bool true]))\/(HN (Bi B) t/\Con 42 [.agg true (tv t)] (.tup [.agg true (tv t),.bool false]))
section
variable{B:BT}{C:Nat}
theorem A4g{t u:Tm}(h:Con 48 [.agg true (tv t)] (Ls (Bi B t) t))(hp:Bi B t=some u):HsC B t:=by
 refine .inl ⟨u,.here hp,?_⟩;rw[hp] at h;have h':Con 48 [.agg true (tv t)] (.tup [.agg true (tv u),.bool true]):=h;have hz:=Ae t;have Cs:=Ae u;refine Al mixed Tryz.func42 tr42 ?_;simp only[go_sem,seval,hz];refine Aa h' ?_;simp only[go_sem,seval,Cs]
theorem A4i{k i j n:Int}{l:List Tm}(h:Con 48 [.agg true (tv (.mk k i j n l))] (Ls (Bi B (.mk k i j n l)) (.mk k i j n l)))(hp:Bi B (.mk k i j n l)=none)(hk:k≠15/\k≠18/\k≠19/\k≠22):HsC B (.mk k i j n l):=by
 refine .inr ⟨.mk hp (fun p h=>?_),?_⟩
 ·have:=Kf h;simp only[Tm.k] at this;omega
 rw[hp] at h;have h':Con 48 [.agg true (tv (.mk k i j n l))] (.tup [.agg true (tv (.mk k i j n l)),.bool false]):=h;rw[Ak] at h' |-;obtain⟨h1,h2,h3,h4⟩:=hk;have q1:(k==15)=false:=Ah h1;have q2:(k==18)=false:=Ah h2;have q3:(k==19)=false:=Ah h3;have q4:(k==22)=false:=Ah h4;refine Al mixed Tryz.func42 tr42 ?_;simp only[go_sem,seval];refine Aa h' ?_;simp only[go_sem,seval,q1,q2,q3,q4]
theorem A4c{i j n:Int}{l:List Tm}(ht:PT C 4000 (.mk 15 i j n l))(h:Con 48 [.agg true (tv (.mk 15 i j n l))] (Ls (Bi B (.mk 15 i j n l)) (.mk 15 i j n l)))(hp:Bi B (.mk 15 i j n l)=none)(ih:∀t∈l,PT C 4000 t->HsC B t):HsC B (.mk 15 i j n l):=by
 have hl:=kl ht.sf (by decide);rw[kids15] at hl;obtain⟨a,b,rfl⟩:=len2 (l:=l) (by omega);rw[hp] at h;have h':Con 48 [.agg true (tv (.mk 15 i j n [a,b]))] (.tup [.agg true (tv (.mk 15 i j n [a,b])),.bool false]):=h;have k0:PT C 4000 a:=(ht.kid (p:=0) (show 0<2 by decide) (show bnd 15 0=0 by decide)).1;have hz:=Ae a;rcases ih a (by simp) k0 with⟨u,hs,hc⟩|⟨hn,hc⟩
 ·have hd:HS (Bi B) (.mk 15 i j n [a,b]) (.mk 15 i j n [u,b]):=.down (p:=0) hp rfl hs;refine .inl ⟨_,hd,?_⟩;have hw:=o8 (.mk 15 i j n [a,b]) u (by simp[Tm.kids]) 0 (by decide);have Hb:Con 49 [.agg true (tv (.mk 15 i j n [a,b])),.int .i64 0,.agg true (tv u)] (.agg true (tv (.mk 15 i j n [u,b]))):=hw;have Cs:=Ae u;rw[Ak] at h' Hb |-;rw[Ak] at Hb |-;simp only[q_h,q_i] at h' Hb |-;refine Al mixed Tryz.func42 tr42 ?_;simp only[go_sem,seval];refine Aa h' ?_;simp only[go_sem,seval,hz];refine Aa hc ?_;simp only[go_sem,seval,Cs];refine Aa Hb ?_;simp only[go_sem,seval]
 ·refine .inr ⟨.mk hp (fun p h=>?_),?_⟩
  ·have e:p=0:=by
    have:stk 15=some p:=h;have e2:stk 15=some 0:=by decide
    rw[e2,q_b] at this;exact this.symm
   subst e;exact hn
  rw[Ak] at h' |-;simp only[q_h,q_i] at h' |-;refine Al mixed Tryz.func42 tr42 ?_;simp only[go_sem,seval];refine Aa h' ?_;simp only[go_sem,seval,hz];refine Aa hc ?_;simp only[go_sem,seval,hz]
theorem A4d{i j n:Int}{l:List Tm}(ht:PT C 4000 (.mk 18 i j n l))(h:Con 48 [.agg true (tv (.mk 18 i j n l))] (Ls (Bi B (.mk 18 i j n l)) (.mk 18 i j n l)))(hp:Bi B (.mk 18 i j n l)=none)(ih:∀t∈l,PT C 4000 t->HsC B t):HsC B (.mk 18 i j n l):=by
 have hl:=kl ht.sf (by decide);rw[kids18] at hl;obtain⟨a,rfl⟩:=len1 (l:=l) (by omega);rw[hp] at h;have h':Con 48 [.agg true (tv (.mk 18 i j n [a]))] (.tup [.agg true (tv (.mk 18 i j n [a])),.bool false]):=h;have k0:PT C 4000 a:=(ht.kid (p:=0) (show 0<1 by decide) (show bnd 18 0=0 by decide)).1;have hz:=Ae a;rcases ih a (by simp) k0 with⟨u,hs,hc⟩|⟨hn,hc⟩
 ·have hd:HS (Bi B) (.mk 18 i j n [a]) (.mk 18 i j n [u]):=.down (p:=0) hp rfl hs;refine .inl ⟨_,hd,?_⟩;have hw:=o8 (.mk 18 i j n [a]) u (by simp[Tm.kids]) 0 (by decide);have Hb:Con 49 [.agg true (tv (.mk 18 i j n [a])),.int .i64 0,.agg true (tv u)] (.agg true (tv (.mk 18 i j n [u]))):=hw;have Cs:=Ae u;rw[Ak] at h' Hb |-;rw[Ak] at Hb |-;simp only[q_h,q_i] at h' Hb |-;refine Al mixed Tryz.func42 tr42 ?_;simp only[go_sem,seval];refine Aa h' ?_;simp only[go_sem,seval,hz];refine Aa hc ?_;simp only[go_sem,seval,Cs];refine Aa Hb ?_;simp only[go_sem,seval]
 ·refine .inr ⟨.mk hp (fun p h=>?_),?_⟩
  ·have e:p=0:=by
    have:stk 18=some p:=h;have e2:stk 18=some 0:=by decide
    rw[e2,q_b] at this;exact this.symm
   subst e;exact hn
  rw[Ak] at h' |-;simp only[q_h,q_i] at h' |-;refine Al mixed Tryz.func42 tr42 ?_;simp only[go_sem,seval];refine Aa h' ?_;simp only[go_sem,seval,hz];refine Aa hc ?_;simp only[go_sem,seval,hz]
theorem A4e{i j n:Int}{l:List Tm}(ht:PT C 4000 (.mk 19 i j n l))(h:Con 48 [.agg true (tv (.mk 19 i j n l))] (Ls (Bi B (.mk 19 i j n l)) (.mk 19 i j n l)))(hp:Bi B (.mk 19 i j n l)=none)(ih:∀t∈l,PT C 4000 t->HsC B t):HsC B (.mk 19 i j n l):=by
 have hl:=kl ht.sf (by decide);rw[kids19] at hl;obtain⟨a,rfl⟩:=len1 (l:=l) (by omega);rw[hp] at h;have h':Con 48 [.agg true (tv (.mk 19 i j n [a]))] (.tup [.agg true (tv (.mk 19 i j n [a])),.bool false]):=h;have k0:PT C 4000 a:=(ht.kid (p:=0) (show 0<1 by decide) (show bnd 19 0=0 by decide)).1;have hz:=Ae a;rcases ih a (by simp) k0 with⟨u,hs,hc⟩|⟨hn,hc⟩
 ·have hd:HS (Bi B) (.mk 19 i j n [a]) (.mk 19 i j n [u]):=.down (p:=0) hp rfl hs;refine .inl ⟨_,hd,?_⟩;have hw:=o8 (.mk 19 i j n [a]) u (by simp[Tm.kids]) 0 (by decide);have Hb:Con 49 [.agg true (tv (.mk 19 i j n [a])),.int .i64 0,.agg true (tv u)] (.agg true (tv (.mk 19 i j n [u]))):=hw;have Cs:=Ae u;rw[Ak] at h' Hb |-;rw[Ak] at Hb |-;simp only[q_h,q_i] at h' Hb |-;refine Al mixed Tryz.func42 tr42 ?_;simp only[go_sem,seval];refine Aa h' ?_;simp only[go_sem,seval,hz];refine Aa hc ?_;simp only[go_sem,seval,Cs];refine Aa Hb ?_;simp only[go_sem,seval]
 ·refine .inr ⟨.mk hp (fun p h=>?_),?_⟩
  ·have e:p=0:=by
    have:stk 19=some p:=h;have e2:stk 19=some 0:=by decide
    rw[e2,q_b] at this;exact this.symm
   subst e;exact hn
  rw[Ak] at h' |-;simp only[q_h,q_i] at h' |-;refine Al mixed Tryz.func42 tr42 ?_;simp only[go_sem,seval];refine Aa h' ?_;simp only[go_sem,seval,hz];refine Aa hc ?_;simp only[go_sem,seval,hz]
theorem A4f{i j n:Int}{l:List Tm}(ht:PT C 4000 (.mk 22 i j n l))(h:Con 48 [.agg true (tv (.mk 22 i j n l))] (Ls (Bi B (.mk 22 i j n l)) (.mk 22 i j n l)))(hp:Bi B (.mk 22 i j n l)=none)(ih:∀t∈l,PT C 4000 t->HsC B t):HsC B (.mk 22 i j n l):=by
 have hl:=kl ht.sf (by decide);rw[kids22] at hl;obtain⟨x1,x2,x3,x4,x5,a,rfl⟩:=len6 (l:=l) (by omega);rw[hp] at h;have h':Con 48 [.agg true (tv (.mk 22 i j n [x1,x2,x3,x4,x5,a]))] (.tup [.agg true (tv (.mk 22 i j n [x1,x2,x3,x4,x5,a])),.bool false]):=h;have k0:PT C 4000 a:=(ht.kid (p:=5) (show 5<6 by decide) (show bnd 22 5=0 by decide)).1;have hz:=Ae a;rcases ih a (by simp) k0 with⟨u,hs,hc⟩|⟨hn,hc⟩
 ·have hd:HS (Bi B) (.mk 22 i j n [x1,x2,x3,x4,x5,a]) (.mk 22 i j n [x1,x2,x3,x4,x5,u]):=.down (p:=5) hp rfl hs;refine .inl ⟨_,hd,?_⟩;have hw:=o8 (.mk 22 i j n [x1,x2,x3,x4,x5,a]) u (by simp[Tm.kids]) 5 (by decide);have Hb:Con 49 [.agg true (tv (.mk 22 i j n [x1,x2,x3,x4,x5,a])),.int .i64 5,.agg true (tv u)] (.agg true (tv (.mk 22 i j n [x1,x2,x3,x4,x5,u]))):=hw;have Cs:=Ae u;rw[Ak] at h' Hb |-;rw[Ak] at Hb |-;simp only[q_h,q_i] at h' Hb |-;refine Al mixed Tryz.func42 tr42 ?_;simp only[go_sem,seval];refine Aa h' ?_;simp only[go_sem,seval,hz];refine Aa hc ?_;simp only[go_sem,seval,Cs];refine Aa Hb ?_;simp only[go_sem,seval]
 ·refine .inr ⟨.mk hp (fun p h=>?_),?_⟩
  ·have e:p=5:=by
    have:stk 22=some p:=h;have e2:stk 22=some 5:=by decide
    rw[e2,q_b] at this;exact this.symm
   subst e;exact hn
  rw[Ak] at h' |-;simp only[q_h,q_i] at h' |-;refine Al mixed Tryz.func42 tr42 ?_;simp only[go_sem,seval];refine Aa h' ?_;simp only[go_sem,seval,hz];refine Aa hc ?_;simp only[go_sem,seval,hz]
theorem Ahq(L:Ss B)(hC:C<=60000000)(t:Tm):PT C 4000 t->HsC B t:=by
 induction t using Tm.ind with
 |h k i j n l ih=>
  intro ht;have h:=Auj (B:=B) L ht hC;cases hp:Bi B (.mk k i j n l) with
  |some u=>exact A4g h hp
  |none=>
   by_cases h1:k=15
   ·subst h1;exact A4c ht h hp ih
   by_cases h2:k=18
   ·subst h2;exact A4d ht h hp ih
   by_cases h3:k=19
   ·subst h3;exact A4e ht h hp ih
   by_cases h4:k=22
   ·subst h4;exact A4f ht h hp ih
   exact A4i h hp ⟨h1,h2,h3,h4⟩
end
def Do(N:Nat)(o:Bool):List SV:=[.int .i64 N,.bool o]
inductive CHd:Nat->Tm->Nat->Bool->Tm->Prop
 |stop {N:Nat} {t:Tm} (hc:Con 42 [.agg true (tv t)] (.tup [.agg true (tv t),.bool false])):CHd N t N false t
 |far {N:Nat} {t u:Tm} (hc:Con 42 [.agg true (tv t)] (.tup [.agg true (tv u),.bool true])) (hN:N=4000):CHd N t (N+1) true u
 |big {N:Nat} {t u:Tm} (hc:Con 42 [.agg true (tv t)] (.tup [.agg true (tv u),.bool true])) (hN:N+1<=4000) (hu:TOk u) (hs:4000<tsz u):CHd N t (N+1) true u
 |step {N N':Nat} {t u t':Tm} {o:Bool} (hc:Con 42 [.agg true (tv t)] (.tup [.agg true (tv u),.bool true])) (hN:N+1<=4000) (hu:TOk u) (hs:tsz u<=4000) (hr:CHd (N+1) u N' o t'):CHd N t N' o t'
def HdL(G:GV)(sid:Nat)(t:Tm)(out:HOut)(G':GV)(n:Nat):Prop:=
 vcI (Av Tryz.prog fun _ _=>False) a20_21 (bk 0 (sq (Av Tryz.prog fun _ _=>False) a20_25 (rtG [.cell 4 true 5] out G'))) n ⟨(.gp sid 0::.J::.J::.ref 1 0 0 0::.ref 2 0 0 0::.J::.J::.J::.J::.J::.J::.J::.J::.J::.J::.J::.J::.J::.J::.J::.J::.J::.J::.J::.J::.J::.J::.J::.J::.J::.J::.J::.J::.J::.J::.J::.J::.J::.J::.J::.J::.J::[]),[gOb G,⟨true,5,[tv t],0,0,true⟩,⟨true,5,[[.int .i64 0,.int .i64 0,.int .i64 0,.int .i64 0,.nils]],0,0,true⟩]⟩
theorem Ajt{G:GV}{sid N:Nat}{t:Tm}(hG:G[sid]?=some (Do N true)):HdL G sid t (.ret (.agg true (tv t))) G 1:=by
 have hz:=Ae t;refine Aj ?_;simp only[go_sem,seval,hG,Do,hz]
theorem A3m{G:GV}{sid N N':Nat}{t t':Tm}{o:Bool}(h:CHd N t N' o t')(hG:G[sid]?=some (Do N false))(hN:N<=4000):∃n,HdL G sid t (.ret (.agg true (tv t'))) (G.set sid (Do N' o)) n:=by
 induction h generalizing G with
 |@stop N t hc=>
  have hz:=Ae t;refine⟨1,Aj ?_⟩;rw[show G.set sid (Do N false)=G from s9 hG];simp only[go_sem,seval,hG,Do,hz];refine Aa hc ?_;simp only[go_sem,seval,hz]
 |@far N t u hc hN4=>
  have hz:=Ae t;have Cs:=Ae u;have eN:((N+1:Nat):Int)=(N:Int)+1:=rfl;have h2:=Ajt (G:=G.set sid (Do (N+1) true)) (t:=u) (sid:=sid) (N:=N+1) (Fl hG);refine⟨2,Aj ?_⟩;unfold HdL at h2;simp only[Do,eN] at h2 |-;simp only[go_sem,seval,hG,Do,hz];refine Aa hc ?_;simp only[go_sem,seval,Cs,hG,Do,Fl hG,Mx,Ke,w64 (show fit ((N:Int)+1) by unfold fit;omega),decide_eq_true (show (N:Int)+1 > 4000 by omega)];exact Cp (Dq 3 (by simp[An]) (by simp) (by simp[Ba]) (by simp[gOb])) h2
 |@big N t u hc hN1 hu hs=>
  have hz:=Ae t;have Cs:=Ae u;have eN:((N+1:Nat):Int)=(N:Int)+1:=rfl;have h2:=Ajt (G:=G.set sid (Do (N+1) true)) (t:=u) (sid:=sid) (N:=N+1) (Fl hG);have Qi:=Ah4 hu (m:=4000) (by decide) (by decide);refine⟨2,Aj ?_⟩;unfold HdL at h2;simp only[Do,eN] at h2 |-;simp only[go_sem,seval,hG,Do,hz];refine Aa hc ?_;simp only[go_sem,seval,Cs,hG,Do,Fl hG,Mx,Ke,w64 (show fit ((N:Int)+1) by unfold fit;omega),decide_eq_false (show ¬(N:Int)+1 > 4000 by omega)];refine Aa Qi ?_;simp only[go_sem,seval,Cs,hG,Do,Fl hG,Mx,Ke,decide_eq_true (show 4000<min (tsz u:Int) 4001 by omega)];exact Cp (Dq 3 (by simp[An]) (by simp) (by simp[Ba]) (by simp[gOb])) h2
 |@step N N' t u t' o hc hN1 hu hs hr ih=>
  have hz:=Ae t;have Cs:=Ae u;have eN:((N+1:Nat):Int)=(N:Int)+1:=rfl;obtain⟨n,h2⟩:=ih (G:=G.set sid (Do (N+1) false)) (Fl hG) hN1;have Qi:=Ah4 hu (m:=4000) (by decide) (by decide);refine⟨n+1,Aj ?_⟩;rw[Ke] at h2;unfold HdL at h2;simp only[Do,eN] at h2 |-;simp only[go_sem,seval,hG,Do,hz];refine Aa hc ?_;simp only[go_sem,seval,Cs,hG,Do,Fl hG,Mx,Ke,w64 (show fit ((N:Int)+1) by unfold fit;omega),decide_eq_false (show ¬(N:Int)+1 > 4000 by omega)];refine Aa Qi ?_;simp only[go_sem,seval,Cs,hG,Do,Fl hG,Mx,Ke,decide_eq_false (show ¬4000<min (tsz u:Int) 4001 by omega)];exact Cp (Dq 3 (by simp[An]) (by simp) (by simp[Ba]) (by simp[gOb])) h2
theorem A2z{G:GV}{sid N N':Nat}{t t':Tm}{o:Bool}(h:CHd N t N' o t')(hG:G[sid]?=some (Do N false))(hN:N<=4000):Ad 20 G [.gp sid 0,.agg true (tv t)] (.ret (.agg true (tv t'))) (G.set sid (Do N' o)):=by
 obtain⟨n,h2⟩:=A3m h hG hN;refine Ap mixed Tryz.func20 tr20 ?_;simp only[go_sem,seval,Ae];exact Ca n (Cp (Au (by simp[An])) h2)
def CN(t:Tm)(N:Nat)(N':Nat)(o':Bool)(r:Tm):Prop:=∀(sid:Nat) (G:GV),G[sid]?=some (Do N false)->Ad 24 G [.gp sid 0,.agg true (tv t)] (.ret (.agg true (tv r))) (G.set sid (Do N' o'))
inductive CNl:List Tm->Nat->Bool->Nat->Bool->List Tm->Prop
 |nil {N:Nat} {o:Bool}:CNl [] N o N o []
 |out {a:Tm} {l:List Tm} {N:Nat}:CNl (a::l) N true N true []
 |cons {a r:Tm} {l rs:List Tm} {N N1 N2:Nat} {o1 o2:Bool} (h:CN a N N1 o1 r) (hl:CNl l N1 o1 N2 o2 rs):CNl (a::l) N false N2 o2 (r::rs)
def nS(G:GV)(sid:Nat)(k i j n:Int)(l done:List Tm):St:=
 ⟨(.gp sid 0::.J::.J::.ref 1 0 0 0::.ref 2 0 0 0::.ref 3 0 0 0::.osl 4 done.length 0 done.length::.int .i64 done.length::.J::.J::.J::.J::.J::.J::.J::.J::.J::.J::.J::.J::.J::.J::.J::.J::.J::.J::.J::.J::.J::.J::.J::.J::.J::.J::.J::.J::.J::.J::.J::.J::.J::.J::.J::.J::.J::.J::.J::[]),[gOb G,⟨true,5,[[.int .i64 k,.int .i64 i,.int .i64 j,.int .i64 n,.dsl 5 (l.map tv)]],0,0,true⟩,⟨true,5,[[.int .i64 0,.int .i64 0,.int .i64 0,.int .i64 0,.nils]],0,0,true⟩,⟨true,5,[[.int .i64 k,.int .i64 i,.int .i64 j,.int .i64 n,.nils]],0,0,true⟩,⟨false,5,done.map tv,done.length-1,done.length,true⟩]⟩
def NoL(G:GV)(sid:Nat)(k i j n:Int)(l done:List Tm)(out:HOut)(G':GV)(m:Nat):Prop:=
 vcI (Av Tryz.prog fun _ _=>False) a24_12 (bk 0 (sq (Av Tryz.prog fun _ _=>False) a24_19 (rtG [.cell 4 true 5] out G'))) m (nS G sid k i j n l done)
theorem Amo{G:GV}{sid N:Nat}{o:Bool}{k i j n:Int}{l done:List Tm}(Di:l.length<=100)(hd:done.length<=100)(hG:G[sid]?=some (Do N o))(h:o=true\/l.length<=done.length):NoL G sid k i j n l done (.ret (.agg true (tv (.mk k i j n done)))) G 1:=by
 refine Aj ?_;unfold nS;rw[Ak];have ht:(done.map tv).take done.length=done.map tv:=List.take_of_length_le (by simp)
 by_cases c:l.length<=done.length
 ·simp only[go_sem,seval,hG,Do,q_g,decide_eq_false (show ¬(done.length:Int)<l.length by omega),ht]
 ·have ho:o=true:=by rcases h with h|h;exact h;exact absurd h c
  subst ho;simp only[go_sem,seval,hG,Do,q_g,decide_eq_true (show (done.length:Int)<l.length by omega),ht]
theorem A8z{sid N N':Nat}{o o':Bool}{ls rs:List Tm}(h:CNl ls N o N' o' rs):∀{G:GV} {k i j n:Int} {l done:List Tm},l.length<=100->done.length<=100->G[sid]?=some (Do N o)->l.drop done.length=ls->∃m,NoL G sid k i j n l done (.ret (.agg true (tv (.mk k i j n (done++rs))))) (G.set sid (Do N' o')) m:=by
 induction h with
 |@nil N o=>
  intro G k i j n l done Di hd hG hl;rw[s9 hG,List.append_nil];exact⟨1,Amo Di hd hG (.inr (List.drop_eq_nil_iff.1 hl))⟩
 |@out a l' N=>
  intro G k i j n l done Di hd hG hl;rw[s9 hG,List.append_nil];exact⟨1,Amo Di hd hG (.inl rfl)⟩
 |@cons a r l' rs N N1 N2 o1 o2 h Kq ih=>
  intro G k i j n l done Di hd hG hl;have hx:l[done.length]?=some a:=by have:=congrArg (fun l=>l[0]?) hl;simpa using this
  have Ab:=Dn hx;have hl2:l.drop (done++[r]).length=l':=by
   rw[List.length_append,List.length_singleton];have:=congrArg (List.drop 1) hl
   rwa [List.drop_drop] at this
  obtain⟨m,h2⟩:=ih (G:=G.set sid (Do N1 o1)) (k:=k) (i:=i) (j:=j) (n:=n) (l:=l) (done:=done++[r]) Di (by simp;omega) (Fl hG) hl2;rw[Ke,List.append_assoc,List.singleton_append] at h2;refine⟨m+1,Aj ?_⟩;unfold NoL at h2;unfold nS at h2 |-;have hza:=Ae a;have Qo:=Ae r;have e0:(0:Int)<=(done.length:Int):=by omega
  have e1:(done.length:Int)<(l.length:Int):=by omega
  have hg:(l.map tv)[done.length]?.getD []=tv a:=by rw[List.getElem?_map,hx];rfl
  have e3:(done.length+1)*56<=140737488355328:=by omega
  have e4:done.length+1<=140737488355328:=by omega
  simp only[go_sem,seval,hG,Do,q_g,e0,e1,Ab,hg,hza,decide_eq_true e1];refine fun _=>Ac (h sid G hG) ?_
  simp only[go_sem,seval,Qo,e3,e4,q_g,w64 (show fit ((done.length:Int)+1) by unfold fit;omega)];have eL:(done++[r]).length=done.length+1:=by simp
  have eN:((done.length+1:Nat):Int)=(done.length:Int)+1:=rfl;have eM:(done++[r]).map tv=done.map tv++[tv r]:=by simp
  have e5:(done.map tv).take done.length=done.map tv:=List.take_of_length_le (by simp);simp only[eL,eN,eM,Nat.add_sub_cancel,Do] at h2;exact Cp (Dq 5 (by simp[An]) (by simp[Do]) (by simp[Ba]) (by simp[gOb])) h2
theorem Ato{N N1 N2:Nat}{t:Tm}{k i j n:Int}{l rs:List Tm}{o1 o2:Bool}(h:CHd N t N1 o1 (.mk k i j n l))(hl:CNl l N1 o1 N2 o2 rs)(hN:N<=4000)(Di:l.length<=100):CN t N N2 o2 (.mk k i j n rs):=by
 intro sid G hG;have h1:=A2z h hG hN;obtain⟨m,h2⟩:=A8z hl (G:=G.set sid (Do N1 o1)) (k:=k) (i:=i) (j:=j) (n:=n) (l:=l) (done:=[]) Di (by simp) (Fl hG) rfl;rw[Ke,List.nil_append] at h2;refine Ap mixed Tryz.func24 tr24 ?_;simp only[go_sem,seval,Ae];refine Ac h1 ?_;rw[Ak] at h2 |-;rw[Ak];simp only[go_sem,seval];unfold NoL nS at h2;exact Ca m (Cp (.trans (.ghost _ 6 5 rfl) (Au (by simp[An]))) h2)
section
variable{B:BT}
theorem PT.mono{C M M':Nat}{t:Tm}(h:PT C M t)(hm:tsz t<=M'):PT C M' t:=⟨h.pl,h.sf,hm⟩
theorem Bay(L:Ss B){C:Nat}(hC:C<=60000000):∀(m N:Nat) (t:Tm),4000-N<=m->N<=4000->PT C 4000 t->∃N' o t',PHd B N t N' o t'/\CHd N t N' o t'/\PT C 16000000 t'/\(o=false->tsz t'<=4000/\N'<=4000/\(N'=N->t'=t)):=by
 intro m
 induction m with
 |zero=>
  intro N t hm hN ht;rcases Ahq L hC t ht with⟨u,hs,hc⟩|⟨hn,hc⟩
  ·exact⟨N+1,true,u,.out hs (.inl (by omega)),.far hc (by omega),An4 L.bd hs hC ht,fun h=>by cases h⟩
  ·exact⟨N,false,t,.stop hn,.stop hc,ht.mono (by have:=ht.sz;omega),fun _=>⟨ht.sz,hN,fun _=>rfl⟩⟩
 |succ m ih=>
  intro N t hm hN ht;rcases Ahq L hC t ht with⟨u,hs,hc⟩|⟨hn,hc⟩
  ·have hu:=An4 L.bd hs hC ht
   by_cases hN4:N=4000
   ·exact⟨N+1,true,u,.out hs (.inl (by omega)),.far hc hN4,hu,fun h=>by cases h⟩
   by_cases Bm:tsz u<=4000
   ·obtain⟨N',o,t',h1,h2,h3,h4⟩:=ih (N+1) u (by omega) (by omega) (hu.mono Bm);have hle:=Abb h1;exact⟨N',o,t',.step hs (by omega) Bm h1,.step hc (by omega) (hu.tok (by omega)) Bm h2,h3,fun ho=>⟨(h4 ho).1,(h4 ho).2.1,fun e=>by omega⟩⟩
   ·exact⟨N+1,true,u,.out hs (.inr (by omega)),.big hc (by omega) (hu.tok (by omega)) (by omega),hu,fun h=>by cases h⟩
  ·exact⟨N,false,t,.stop hn,.stop hc,ht.mono (by have:=ht.sz;omega),fun _=>⟨ht.sz,hN,fun _=>rfl⟩⟩
def ms(N:Nat):Nat:=(4000-N)*4001
theorem A8e{N N':Nat}(h:N<=N'):ms N'<=ms N:=Nat.mul_le_mul_right _ (by omega)
theorem A8f{N N':Nat}(h:N<N')(h2:N'<=4000):ms N'+4001<=ms N:=by
 unfold ms;have:(4000-N')+1<=4000-N:=by omega
 have:=Nat.mul_le_mul_right 4001 this;omega
def Agl(B:BT)(t:Tm)(N:Nat):Prop:=∃N2 o2 r,PNx B (.inl t) N false N2 o2 (.inl r)/\CN t N N2 o2 r/\TOk r/\N<=N2/\(o2=false->N2<=4000)
theorem Bap{M:Nat}(IH:∀(N:Nat) (t:Tm) (C:Nat),ms N+tsz t<M->N<=4000->PT C 4000 t->C+2*(ms N+tsz t)<=60000000->Agl B t N) :
  ∀(l:List Tm) (N:Nat) (o:Bool),(o=false->N<=4000/\∀u∈l,ms N+tsz u<M/\∃C',PT C' 4000 u/\C'+2*(ms N+tsz u)<=60000000) ->
  ∃N2 o2 rs,PNx B (.inr l) N o N2 o2 (.inr rs)/\CNl l N o N2 o2 rs/\(∀r∈rs,TOk r)/\rs.length<=l.length/\N<=N2/\(o2=false->N2<=4000):=by
 intro l
 induction l with
 |nil=>intro N o h;exact⟨N,o,[],.nil,.nil,fun r hr=>(by cases hr),by simp,Nat.le_refl _,fun ho=>(h ho).1⟩
 |cons a l ih=>
  intro N o h;cases o with
  |true=>exact⟨N,true,[],.out,.out,fun r hr=>(by cases hr),by simp,Nat.le_refl _,fun h=>(by cases h)⟩
  |false=>
   obtain⟨hN,hu⟩:=h rfl;obtain⟨h1,C',h2,h3⟩:=hu a (by simp);obtain⟨N1,o1,r,p1,p2,p3,p4,p5⟩:=IH N a C' h1 hN h2 h3;obtain⟨N2,o2,rs,q1,q2,q3,q4,q5,q6⟩:=ih N1 o1 (fun ho=>⟨p5 ho,fun u Dx=>by
    obtain⟨k1,C2,k2,k3⟩:=hu u (by simp[Dx]);have:=A8e p4;exact⟨by omega,C2,k2,by omega⟩⟩)
   refine⟨N2,o2,r::rs,.cons p1 q1,.cons p2 q2,fun x hx=>?_,by simp;omega,by omega,q6⟩;rcases List.mem_cons.1 hx with rfl|hx
   ·exact p3
   ·exact q3 x hx
theorem Baq(L:Ss B):∀(M N:Nat) (t:Tm) (C:Nat),ms N+tsz t<M->N<=4000->PT C 4000 t->C+2*(ms N+tsz t)<=60000000->Agl B t N:=by
 intro M
 induction M with
 |zero=>intro N t C h;omega
 |succ M IH=>
  intro N t C hM hN ht hC;obtain⟨N1,o1,t1,h1,h2,h3,h4⟩:=Bay L (C:=C) (by omega) 4000 N t (by omega) hN ht;have hle:=Abb h1;have Bm:=ht.sz;cases t1 with
  |mk k i j n l=>
   have Ag:l.length<=12:=by
    by_cases h2:k=2
    ·subst h2;obtain⟨q,_,_,_,rfl,_⟩:=h3.sf.vr;simp
    ·have:=kl h3.sf h2;have:=Pa k n;omega
   obtain⟨N2,o2,rs,q1,q2,q3,q4,q5,q6⟩:=Bap (M:=M) IH l N1 o1 (fun ho=>by
    obtain⟨g1,g2,g3⟩:=h4 ho;refine⟨g2,fun u hu=>?_⟩;obtain⟨p,hp⟩:=List.getElem?_of_mem hu;have hb:=Sz k p;have hk:=f8 (k:=k) (i:=i) (j:=j) (n:=n) hu;have hpt:PT (C+bnd k p) 4000 u:=(h3.mono g1).kidm hp
    by_cases e:N1=N
    ·have:=g3 e;rw[<-this] at hM hC Bm;subst e;exact⟨by omega,_,hpt,by omega⟩
    ·have:=A8f (show N<N1 by omega) g2;exact⟨by omega,_,hpt,by omega⟩)
   have hok:=h3.tok (by omega);obtain⟨f1,f2,f3,f4,hb,Fr⟩:=Wq hok;exact⟨N2,o2,.mk k i j n rs,.tm h1 q1,Ato h2 q2 hN (by omega),.mk _ _ _ _ _ f1 f2 f3 f4 (by omega) q3,by omega,q6⟩
end
open Go Go.RowKit
inductive LeD:SV->SV->Prop
 |refl (v:SV):LeD v v
 |nils (sz:Nat):LeD .nils (.dsl sz [])
 |dsl (sz:Nat) (l r:GV):l.length=r.length->(∀x∈r,x.length=sz)->(∀(j:Nat) a b,l.flatten[j]?=some a->r.flatten[j]?=some b->LeD a b)->LeD (.dsl sz l) (.dsl sz r)
 |agg (l r:List SV):l.length=r.length->(∀(j:Nat) a b,l[j]?=some a->r[j]?=some b->LeD a b)->LeD (.agg true l) (.agg true r)
theorem LeD.rep{m:Mem}{a b:SV}(h:LeD a b):∀{v:Value},Rep m v a->Rep m v b:=by
 induction h with
 |refl v=>exact fun h=>h
 |nils sz=>intro v hr;cases hr;exact .dsl0 _ _ _
 |dsl sz l r hl hw _ ih=>
  intro v hr;cases hr with
  |dsl0 _ A cap=>
   have:r=[]:=List.length_eq_zero_iff.1 (by simpa using hl.symm);subst this;exact .dsl0 _ _ _
  |dsl _ _ cap b off vs h0 h1 h2 h3 h4 h5 h6=>
   have f1:l.flatten.length=l.length*sz:=Ib h3;have f2:r.flatten.length=r.length*sz:=Ib hw;rw[hl];refine .dsl sz r cap b off vs h0 (by omega) (by omega) hw (by rw[h4,f1,f2,hl]) h5 (fun j v y hv hy=>?_);have hj:j<l.flatten.length:=by
    have:=(List.getElem?_eq_some_iff.1 hv).1;omega
   exact ih j _ y (q_f hj) hy (h6 j v _ hv (q_f hj))
 |agg l r hl _ ih=>
  intro v hr;cases hr with
  |agg vs _ h0 h1 h2=>
   refine .agg vs r h0 (by omega) (fun j v y hv hy=>?_);have hj:j<l.length:=by
    have:=(List.getElem?_eq_some_iff.1 hv).1;omega
   exact ih j _ y (q_f hj) hy (h2 j v _ hv (q_f hj))
def LeDs(l r:List SV):Prop:=l.length=r.length/\∀(j:Nat) a b,l[j]?=some a->r[j]?=some b->LeD a b
theorem LeDs.nil:LeDs [] []:=⟨rfl,fun j a b h=>by simp at h⟩
theorem LeDs.cons{a b:SV}{l r:List SV}(h:LeD a b)(k:LeDs l r):LeDs (a::l) (b::r):=by
 refine⟨by simp[k.1],fun j x y hx hy=>?_⟩;cases j with
 |zero=>simp at hx hy;subst hx hy;exact h
 |succ j=>exact k.2 j x y (by simpa using hx) (by simpa using hy)
theorem LeDs.refl(l:List SV):LeDs l l:=⟨rfl,fun j a b h k=>by rw[h] at k;cases k;exact .refl _⟩
theorem LeDs.app{l r l' r':List SV}(h:LeDs l r)(k:LeDs l' r'):LeDs (l++l') (r++r'):=by
 refine⟨by simp[h.1,k.1],fun j x y hx hy=>?_⟩
 by_cases hj:j<l.length
 ·rw[List.getElem?_append_left hj] at hx;rw[List.getElem?_append_left (by rw[<-h.1];exact hj)] at hy;exact h.2 j x y hx hy
 ·rw[List.getElem?_append_right (by omega)] at hx;rw[List.getElem?_append_right (by rw[<-h.1];omega)] at hy;rw[<-h.1] at hy;exact k.2 _ x y hx hy
theorem LeD.agg'{l r:List SV}(h:LeDs l r):LeD (.agg true l) (.agg true r):=.agg _ _ h.1 h.2
inductive j5(sz:Nat):GV->GV->Prop
 |nil:j5 sz [] []
 |cons {a b:List SV} {l r:GV}:b.length=sz->LeDs a b->j5 sz l r->j5 sz (a::l) (b::r)
theorem LeD.rows{sz:Nat}{l r:GV}(h:j5 sz l r):LeD (.dsl sz l) (.dsl sz r):=by
 have key:l.length=r.length/\(∀x∈r,x.length=sz)/\LeDs l.flatten r.flatten:=by
  induction h with
  |nil=>exact⟨rfl,by simp,.nil⟩
  |cons hb h _ ih=>
   obtain⟨i1,i2,i3⟩:=ih;refine⟨by simp[i1],fun x hx=>?_,?_⟩
   ·rcases List.mem_cons.1 hx with rfl|hx
    ·exact hb
    ·exact i2 x hx
   ·rw[List.flatten_cons,List.flatten_cons];exact h.app i3
 exact .dsl _ _ _ key.1 key.2.1 key.2.2.2
theorem Contract.argsD{P:Program}{f:Nat}{args args':List SV}{r:SV}(h:Contract P f args r)(hl:LeDs args' args):Contract P f args' r:=by
 intro m w vs h1 h2 h3;refine h m w vs h1 (by rw[h2,hl.1]) (fun j v y hv hy=>?_);have hj:j<args'.length:=by
  have:=(List.getElem?_eq_some_iff.1 hv).1;omega
 exact (hl.2 j _ y (q_f hj) hy).rep (h3 j v _ hv (q_f hj))
def s0:Tm:=.mk 1 0 0 0 []
def wkT:Tm:=.mk 15 0 0 0 [.mk 14 0 0 0 [.mk 1 1 0 0 [],.mk 2 0 0 0 []],.mk 1 0 0 0 []]
def wkG(s:Int):GV:=[[.undef],Bn 0 1 s 0 0,thR ⟨wkT,[],false,none,none⟩]
def vS0:Vl:=⟨1,0,0,0,0,[]⟩
theorem Bh7(s:Int):∃G' th,Ad 68 (wkG s) [.gp 1 0,.gp 2 0] (.ret (vlV vS0)) G'/\G'[2]?=some (thR th):=by
 have hl:∀G:GV,EvL G 1 (.mk 14 0 0 0 [.mk 1 1 0 0 [],.mk 2 0 0 0 []]) [] (.ret (vlV (Ik 14 0 0 0 [.mk 1 1 0 0 [],.mk 2 0 0 0 []] G.length))) (G++Fy (-1) none [] 0 [.mk 1 1 0 0 [],.mk 2 0 0 0 []]):=fun G=>Ac7 (by simp) (by omega) (by omega)
 have hs:∀G:GV,EvL G 1 (.mk 1 0 0 0 []) [] (.ret (vlV vS0)) (G++[]):=fun G=>Ac7 (by simp) (by omega) (by omega)
 have h5:fit 0:=by unfold fit;omega
 have h6:fit 1:=by unfold fit;omega
 refine⟨_,_,Agg (th:=⟨wkT,[],false,none,none⟩) (th1:=⟨wkT,[],false,none,none⟩) rfl rfl rfl (El (Aik (m:=1) (id:=4) (th:=⟨.mk 2 0 0 0 [],[],false,none,none⟩) (El (hl (wkG s))) rfl rfl (Ajp (m:=1) (j:=0) (steps:=0) (most:=1) (seen:=s) (guess:=0) rfl h5 (by omega) (by omega) h6) rfl rfl h6
  (Ait (i:=0) (id:=5) h5 rfl (Agg (th:=⟨s0,[],false,none,none⟩) (th1:=⟨s0,[],false,none,none⟩) rfl rfl rfl (El (hs _)) rfl) ⟨_,rfl⟩))) rfl,rfl⟩
theorem Ao9(s:Int):∃G',Ad 46 (wkG s) [.gp 1 0,.gp 2 0] (.ret (vlV vS0)) G':=by
 obtain⟨G',th,h,h2⟩:=Bh7 s;exact⟨_,A3q (th:=⟨wkT,[],false,none,none⟩) rfl rfl h h2 (.base (by decide) (by decide))⟩
theorem Bh6:∃G',Ad 35 (wkG 0) [.gp 1 0,.gp 2 0,.int .i64 0] (.ret (.agg true (tv s0))) G':=by
 obtain⟨G',h⟩:=Ao9 1;exact⟨_,Bdh (m:=1) (j:=0) (steps:=0) (most:=1) (seen:=0) (guess:=0) (v:=vS0) rfl (by unfold fit;omega) (by omega) (by omega) (by omega) h (by decide) rfl⟩
theorem Aom:TOk wkT:=by
 have f:∀n:Int,0<=n->n<=100->fit n:=fun n h1 h2=>by unfold fit;omega
 refine .mk _ _ _ _ _ (f _ (by omega) (by omega)) (f _ (by omega) (by omega)) (f _ (by omega) (by omega)) (f _ (by omega) (by omega)) (by simp) (fun t ht=>?_);simp only[List.mem_cons,List.not_mem_nil,or_false] at ht;rcases ht with rfl|rfl
 ·refine .mk _ _ _ _ _ (f _ (by omega) (by omega)) (f _ (by omega) (by omega)) (f _ (by omega) (by omega)) (f _ (by omega) (by omega)) (by simp) (fun t ht=>?_);simp only[List.mem_cons,List.not_mem_nil,or_false] at ht;rcases ht with rfl|rfl<;>exact .mk _ _ _ _ _ (f _ (by omega) (by omega)) (f _ (by omega) (by omega)) (f _ (by omega) (by omega)) (f _ (by omega) (by omega)) (by simp) (fun t ht=>by cases ht)
 ·exact .mk _ _ _ _ _ (f _ (by omega) (by omega)) (f _ (by omega) (by omega)) (f _ (by omega) (by omega)) (f _ (by omega) (by omega)) (by simp) (fun t ht=>by cases ht)
theorem norm_wk:Con 14 [.agg true (tv wkT),.float .f64 4607182418800017408] (.tup [.agg true (tv s0),.int .i64 0]):=by
 refine Ac1 mixed Tryz.func14 tr14 Aap Nrm.idle_norm (Sd _ _) (Aa4 _ _) ?_;have hc:=Rd wkT Aom;rw[show Ef wkT 2=true by kernel_rfl] at hc;have hn:=Tr [] 1;have hl:=No [[.undef],Bn 0 1 0 0 0] wkT [];obtain⟨G',hq⟩:=Bh6;have h5:=Ae wkT;have h6:=Ae s0;generalize tv wkT=r at *
 generalize tv s0=r0 at *
 simp only[go_sem,seval,h5];refine Aa hc ?_;simp only[go_sem,seval,h5];refine Aa Aht ?_;simp only[go_sem,seval,h5];refine Ac hn ?_;simp only[go_sem,seval,h5];refine Ac hl ?_;simp only[go_sem,seval,h5];refine Ac hq ?_;simp only[go_sem,seval,h5,h6]
theorem head_wk:Con 21 [.agg true (tv wkT),.float .f64 4607182418800017408] (.tup [.agg true (tv s0),.int .i64 0]):=by
 refine Ac1 mixed Tryz.func21 tr21 Ae4 Nrm.idle_head (Sd _ _) (Aa4 _ _) ?_;have hc:=Rd wkT Aom;rw[show Ef wkT 2=true by kernel_rfl] at hc;have hn:=Tr [] 1;have hl:=No [[.undef],Bn 0 1 0 0 0] wkT [];obtain⟨G',hq⟩:=Ao9 0;have ht:=Aoo (G:=G') (m:=1) (v:=vS0) (deep:=0) (by decide) rfl;have Ln:Ad 45 G' [.gp 1 0,vlV vS0,.int .i64 0] (.ret (.agg true (tv s0))) G':=ht;clear ht;have h5:=Ae wkT;have h6:=Ae s0;generalize tv wkT=r at *
 generalize tv s0=r0 at *
 generalize vS0=v0 at *
 simp only[go_sem,seval,h5];refine Aa hc ?_;simp only[go_sem,seval,h5];refine Aa Aht ?_;simp only[go_sem,seval,h5];refine Ac hn ?_;simp only[go_sem,seval,h5];refine Ac hl ?_;simp only[go_sem,seval,h5];refine Ac hq ?_;simp only[go_sem,seval,h5,h6];refine Ac Ln ?_;simp only[go_sem,seval,h5,h6]
theorem Ah2(i:Int):Con 37 [.int .i64 i] (.agg true (tv (.mk 1 i 0 0 []))):=by
 refine (Al (r:=.agg true [.int .i64 1,.int .i64 i,.int .i64 0,.int .i64 0,.nils]) mixed Tryz.func37 tr37 ?_).weaken (Ms _ _ _ _);simp only[go_sem,seval]
def wkL:SV:=.agg true [.int .i64 15,.int .i64 0,.int .i64 0,.int .i64 0,.dsl 5 [[.int .i64 14,.int .i64 0,.int .i64 0,.int .i64 0,.dsl 5 [[.int .i64 1,.int .i64 1,.int .i64 0,.int .i64 0,.dsl 5 []],[.int .i64 2,.int .i64 0,.int .i64 0,.int .i64 0,.nils]]],[.int .i64 1,.int .i64 0,.int .i64 0,.int .i64 0,.dsl 5 []]]]
theorem Apa:LeD wkL (.agg true (tv wkT)):=by
 unfold wkL wkT;simp only[Ak,q_h,q_i];refine .agg' (.cons (.refl _) (.cons (.refl _) (.cons (.refl _) (.cons (.refl _) (.cons (.rows (.cons rfl ?_ (.cons rfl (.refl _) .nil))) .nil)))));exact .cons (.refl _) (.cons (.refl _) (.cons (.refl _) (.cons (.refl _) (.cons (.rows (.cons rfl (.refl _) (.cons rfl (.cons (.refl _) (.cons (.refl _) (.cons (.refl _) (.cons (.refl _) (.cons (.nils 5) .nil))))) .nil))) .nil))))
theorem Bib:LeD (.agg true [.int .i64 0,.int .i64 0,.int .i64 0,.int .i64 0,.nils]) (.agg true (tv zt)):=by
 unfold zt;simp only[Ak,q_i];exact .agg' (.cons (.refl _) (.cons (.refl _) (.cons (.refl _) (.cons (.refl _) (.cons (.nils 5) .nil)))))
theorem Aon:TOk zt:=.mk _ _ _ _ _ (by unfold fit;omega) (by unfold fit;omega) (by unfold fit;omega) (by unfold fit;omega) (by simp) (fun t ht=>by cases ht)
theorem Xf:Con 16 [] (.bool true):=by
 refine Al mixed Tryz.func16 tr16 ?_;have h7:=norm_wk.argsD (args':=[wkL,.float .f64 4607182418800017408]) (.cons Apa (.cons (.refl _) .nil));have h8:=head_wk.argsD (args':=[wkL,.float .f64 4607182418800017408]) (.cons Apa (.cons (.refl _) .nil));have hz:=(A9a zt Aon (by kernel_rfl) 4607182418800017408).argsD (args':=[.agg true [.int .i64 0,.int .i64 0,.int .i64 0,.int .i64 0,.nils],.float .f64 4607182418800017408]) (.cons Bib (.cons (.refl _) .nil));simp only[wkL,s0,zt,Ak,q_i] at h7 h8 hz;simp only[go_sem,seval];refine Aa (Ah2 1) ?_;simp only[go_sem,seval,Ak,q_i];refine Aa (Ah2 0) ?_;simp only[go_sem,seval,Ak,q_i];refine Aa h7 ?_;simp only[go_sem,seval];refine Aa h8 ?_;simp only[go_sem,seval];refine Aa hz ?_;simp only[go_sem,seval]
def Wz(t:Tm)(m d z:Int):Prop:=Con 38 [.agg true (tv t),.int .i64 m,.int .i64 d] (.int .i64 z) /\
 (0<=m->m<=1000000->-1<=d->d<=1000->1<=z/\z<=m+1/\(z<=m->z=(tsz t:Int)))
theorem Av5(t:Tm):TOk t->∀m d,∃z,Wz t m d z:=by
 induction t using Tm.ind with
 |h k i j n l ih=>
  intro hok m d;obtain⟨f1,f2,f3,f4,hb,hl⟩:=Wq hok;unfold Wz;rw[Ak]
  by_cases hd:d<0
  ·refine⟨_,Bh2 k i j n m d _ hd,fun h1 h2 h3 h4=>?_⟩;rw[w64 (by unfold fit;omega)];exact⟨by omega,by omega,fun h=>by omega⟩
  ·have H:∀(t:Tm) (m d:Int),∃z,t∈l->Wz t m d z:=fun t m d=>by
    by_cases ht:t∈l
    ·obtain⟨z,hz⟩:=ih t ht (hl t ht) m d;exact⟨z,fun _=>hz⟩
    ·exact⟨0,fun h=>absurd h ht⟩
   obtain⟨Z,hZ⟩:∃Z:Tm->Int->Int->Int,∀t∈l,∀m d,Wz t m d (Z t m d):=⟨fun t m d=>Classical.choose (H t m d),fun t ht m d=>Classical.choose_spec (H t m d) ht⟩
   have hW:∀r∈l.map tv,∀m d,Con 38 [.agg true r,.int .i64 m,.int .i64 d] (.int .i64 (onT Z (fun _ _=>0) r m d)):=fun r hr m d=>by
    obtain⟨t,ht,rfl⟩:=List.mem_map.1 hr;rw[Jc];exact (hZ t ht m d).1
   obtain⟨x,Oy,Ks,Yz⟩:=least (fun x=>m<Lu (onT Z (fun _ _=>0)) (l.map tv) m (IntKind.i64.wrap (d-1)) x) (l.map tv).length;refine⟨_,Bh3 k i j n m d (l.map tv) _ (by simpa using hb) (rows5 l) hW hd x Oy Ks Yz,fun h1 h2 h3 h4=>?_⟩;rw[Af0];have e1:IntKind.i64.wrap (d-1)=d-1:=w64 (by unfold fit;omega);rw[e1];have Aez:∀y,y<x->Dk 1 (fun y m=>onT Z (fun _ _=>0) ((l.map tv)[y]?.getD []) m (d-1)) m y<=m:=fun y hy=>by
    have:=Yz y hy;rw[Af0,e1] at this;omega
   have Ag:(l.map tv).length=l.length:=by simp
   have Bu:∀y,y<l.length->(l.map tv)[y]?.getD []=tv (l[y]?.getD default):=fun y hy=>by
    rw[List.getElem?_map,q_f hy];rfl
   obtain⟨_,k0,k2,k3⟩:=Bfk (a:=1) (V:=fun y m=>onT Z (fun _ _=>0) ((l.map tv)[y]?.getD []) m (d-1)) (T:=fun y=>tsz (l[y]?.getD default)) (most:=m) (n:=l.length) (by omega) (by omega) h1 h2 (fun y hy m' Mm hm2=>by
    simp only[Bu y hy,Jc];obtain⟨_,g⟩:=hZ _ (Ic (d:=default) hy) m' (d-1);exact g Mm hm2 (by omega) (by omega)) x (by omega) Aez
   refine⟨k0,k2,fun hz=>?_⟩;rw[k3 hz,Hq,<-Am9];have:x=l.length:=by
    rcases Ks with h|h
    ·omega
    ·rw[Af0,e1] at h;omega
   subst this;omega
theorem Ahp{t:Tm}(ht:TOk t){m:Int}(h0:0<=m)(h1:m<=1000000):∃z,Con 17 [.agg true (tv t),.int .i64 m] (.bool z)/\(z=false->(tsz t:Int)<=m):=by
 obtain⟨z,hz,h⟩:=Av5 t ht m 200;refine⟨decide (m<z),Al mixed Tryz.func17 tr17 ?_,fun he=>?_⟩
 ·have h5:=Ae t;generalize tv t=r at *
  repeat' first
   |simp (config:={ maxSteps:=2000000 }) only[go_sem,seval,h5]
   |refine Aa (hz) ?_
   |rfl
 ·have h2:¬m<z:=of_decide_eq_false he;obtain⟨_,_,h3⟩:=h h0 h1 (by decide) (by decide);have:=h3 (by omega);omega
theorem A8l(t:Tm):∀x∈[SV.agg true (tv t)],NoG x:=by
 intro x hx;simp only[List.mem_cons,List.not_mem_nil,or_false] at hx;subst hx;exact Zk t true
theorem A8o(t:Tm)(e:Int)(b:Bool):NoG (.tup [.agg true (tv t),.int .i64 e,.bool b]):=by
 refine .tup _ (fun x hx=>?_);simp only[List.mem_cons,List.not_mem_nil,or_false] at hx;rcases hx with rfl|rfl|rfl
 ·exact Zk t true
 ·exact .int _ _
 ·exact .bool _
theorem A6p(n:Int)(b:Bool):Le (.tup [.agg true [.int .i64 0,.int .i64 0,.int .i64 0,.int .i64 0,.nils],.int .i64 n,.bool b]) (.tup [.agg true (tv zt),.int .i64 n,.bool b]):=by
 refine .tup _ _ (.cons _ _ _ _ ?_ (.cons _ _ _ _ (.cell _ _ (.refl _)) (.cons _ _ _ _ (.cell _ _ (.refl _)) .nil)));rw[zt,Ak];exact .agg _ _ (.cons _ _ _ _ (.refl _) (.cons _ _ _ _ (.refl _) (.cons _ _ _ _ (.refl _) (.cons _ _ _ _ (.refl _) (.cons _ _ _ _ (.nils 5) .nil)))))
section
variable{B:BT}
theorem Ac6{t:Tm}{z p:Bool}(hz:Con 17 [.agg true (tv t),.int .i64 60] (.bool z))(hp:z=false->Con 18 [.agg true (tv t)] (.bool p))(h:z=true\/p=false\/∃f:Int,Con 19 [.agg true (tv t)] (.int .i64 f)/\1048576<=f) :
  Con 13 [.agg true (tv t)] (.tup [.agg true (tv zt),.int .i64 ((0:Nat):Int),.bool false]):=by
 have h5:=Ae t;refine (Al (r:=.tup [.agg true [.int .i64 0,.int .i64 0,.int .i64 0,.int .i64 0,.nils],.int .i64 0,.bool false]) mixed Tryz.func13 tr13 ?_).weaken (A6p 0 false);cases z with
 |true=>
  simp only[go_sem,seval,h5];refine Aa hz ?_;simp only[go_sem,seval,h5]
 |false=>
  simp only[go_sem,seval,h5];refine Aa hz ?_;simp only[go_sem,seval,h5];refine Aa (hp rfl) ?_;cases p with
  |false=>simp only[go_sem,seval,h5]
  |true=>
   obtain⟨f,h1,h2⟩:∃f:Int,Con 19 [.agg true (tv t)] (.int .i64 f)/\1048576<=f:=by
    rcases h with h|h|h
    ·cases h
    ·cases h
    ·exact h
   simp only[go_sem,seval,h5];refine Aa h1 ?_;simp only[go_sem,seval,h5,decide_eq_true (show f >= 1048576 from h2)]
theorem Axj{t x:Tm}{n:Nat}{o z2:Bool}{f:Int}(hz:Con 17 [.agg true (tv t),.int .i64 60] (.bool false))(hp:Con 18 [.agg true (tv t)] (.bool true))(hf:Con 19 [.agg true (tv t)] (.int .i64 f))(Pz:f<1048576)
  (hn:CN t 0 n o x) (Dy:Con 17 [.agg true (tv x),.int .i64 4000] (.bool z2)):Con 13 [.agg true (tv t)] (.tup [.agg true (tv x),.int .i64 ((n:Nat):Int),.bool (!o && !z2)]):=by
 have h5:=Ae t;have h6:=Ae x;have h:=hn 0 [[.int .i64 0,.bool false]] rfl;refine o9 mixed Tryz.func13 tr13 (A8l t) (A8o x _ _) ?_;simp only[go_sem,seval,h5];refine Aa hz ?_;simp only[go_sem,seval,h5];refine Aa hp ?_;simp only[go_sem,seval,h5];refine Aa hf ?_;simp only[go_sem,seval,h5,decide_eq_false (show ¬f >= 1048576 by omega)];refine Ac h ?_;cases o with
 |true=>simp only[go_sem,seval,h6,Do]
 |false=>
  simp only[go_sem,seval,h6,Do];refine Aa Dy ?_;simp only[go_sem,seval,h6]
theorem Atv(L:Ss B){t:Tm}(ht:TOk t):∃x n b,Con 13 [.agg true (tv t)] (.tup [.agg true (tv x),.int .i64 ((n:Nat):Int),.bool b])/\TOk x /\
  (b=true->PT 1048576 60 t/\PNx B (.inl t) 0 false n false (.inl x)/\tsz x<=4000/\n<=4000):=by
 obtain⟨z,hz,hzi⟩:=Ahp ht (m:=60) (by decide) (by decide);have hp:=Xe t ht;have no:Con 13 [.agg true (tv t)] (.tup [.agg true (tv zt),.int .i64 ((0:Nat):Int),.bool false])->∃x n b,Con 13 [.agg true (tv t)] (.tup [.agg true (tv x),.int .i64 ((n:Nat):Int),.bool b])/\TOk x /\
  (b=true->PT 1048576 60 t/\PNx B (.inl t) 0 false n false (.inl x)/\tsz x<=4000/\n<=4000):=fun h=>⟨zt,0,false,h,Aon,fun h=>by cases h⟩
 cases Qn:z with
 |true=>subst Qn;exact no (Ac6 (p:=Cb t) hz (fun h=>by cases h) (.inl rfl))
 |false=>
  subst Qn;cases Hi:Cb t with
  |false=>rw[Hi] at hp;exact no (Ac6 hz (fun _=>hp) (.inr (.inl rfl)))
  |true=>
   rw[Hi] at hp;have hf:=Au9 t ht Hi
   by_cases Pz:Gy t<1048576
   ·have hs:=hzi rfl;have hpt:PT 1048576 60 t:=⟨Hi,Be5 ht Hi (by omega),by omega⟩
    have hms:ms 0=16004000:=by decide
    obtain⟨n,o,x,h1,h2,h3,h4,h5⟩:=Baq L (ms 0+61) 0 t 1048576 (by omega) (by omega) (hpt.mono (by omega)) (by omega);obtain⟨z2,Dy,hzi2⟩:=Ahp h3 (m:=4000) (by decide) (by decide);refine⟨x,n,_,Axj hz hp hf Pz h2 Dy,h3,fun hb=>?_⟩;cases o with
    |true=>cases hb
    |false=>
     cases z2 with
     |true=>cases hb
     |false=>exact⟨hpt,h1,by have:=hzi2 rfl;omega,h5 rfl⟩
   ·exact no (Ac6 hz (fun _=>hp) (.inr (.inr ⟨_,hf,by omega⟩)))
end
end Go.Proofs.YtdpigpopcbjkmaaGreatDoor.Abs
