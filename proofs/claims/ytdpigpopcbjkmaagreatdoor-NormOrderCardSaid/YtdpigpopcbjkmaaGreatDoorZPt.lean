import Derived.Test.YtdpigpopcbjkmaaGreatDoorZPn
import Derived.Test.YtdpigpopcbjkmaaGreatDoorZTe
import Derived.Test.YtdpigpopcbjkmaaGreatDoorZEv
import Derived.Test.YtdpigpopcbjkmaaGreatDoorZRx
import Derived.Test.YtdpigpopcbjkmaaGreatDoorZTs
import Derived.Test.YtdpigpopcbjkmaaGreatDoorZDo
set_option linter.unusedSimpArgs false
set_option linter.unusedVariables false
set_option maxRecDepth 20000
set_option maxHeartbeats 4000000
namespace Go.Proofs.YtdpigpopcbjkmaaGreatDoor.Abs
open Go Go.RowKit Go.Proofs.YtdpigpopcbjkmaaGreatDoor
def HsC (B:BT) (t:Tm):Prop:=(∃u,HS (Bw B) t u/\Con 42 [.agg true (tv t)] (.tup [.agg true (tv u),.bool true]))\/(HN (Bw B) t/\Con 42 [.agg true (tv t)] (.tup [.agg true (tv t),.bool false]))
section
variable {B:BT} {C:Nat}
theorem Ap4 {t u:Tm} (h:Con 48 [.agg true (tv t)] (Ld (Bw B t) t)) (hp:Bw B t=some u):HsC B t:=by
 refine .inl ⟨u,.here hp,?_⟩;rw [hp] at h;have h':Con 48 [.agg true (tv t)] (.tup [.agg true (tv u),.bool true]):=h;have hz:=Ag t;have Co:=Ag u;refine Al mixed Tryz.func42 tr42 ?_;simp only [go_sem,seval,hz];refine Aa h' ?_;simp only [go_sem,seval,Co]
theorem An0 {k i j n:Int} {l:List Tm} (h:Con 48 [.agg true (tv (.mk k i j n l))] (Ld (Bw B (.mk k i j n l)) (.mk k i j n l))) (hp:Bw B (.mk k i j n l)=none) (hk:k≠15/\k≠18/\k≠19/\k≠22):HsC B (.mk k i j n l):=by
 refine .inr ⟨.mk hp (fun p h=>?_),?_⟩
 ·have:=Jl h;simp only [Tm.k] at this;omega
 rw [hp] at h;have h':Con 48 [.agg true (tv (.mk k i j n l))] (.tup [.agg true (tv (.mk k i j n l)),.bool false]):=h;rw [Am] at h' |-;obtain⟨h1,h2,h3,h4⟩:=hk;have q1:(k==15)=false:=Ah h1;have q2:(k==18)=false:=Ah h2;have q3:(k==19)=false:=Ah h3;have q4:(k==22)=false:=Ah h4;refine Al mixed Tryz.func42 tr42 ?_;simp only [go_sem,seval];refine Aa h' ?_;simp only [go_sem,seval,q1,q2,q3,q4]
theorem Av4 {i j n:Int} {l:List Tm} (ht:PT C 4000 (.mk 15 i j n l)) (h:Con 48 [.agg true (tv (.mk 15 i j n l))] (Ld (Bw B (.mk 15 i j n l)) (.mk 15 i j n l))) (hp:Bw B (.mk 15 i j n l)=none) (ih:∀t∈l,PT C 4000 t->HsC B t):HsC B (.mk 15 i j n l):=by
 have hl:=kl ht.sf (by decide);rw [kids15] at hl;obtain⟨a,b,rfl⟩:=len2 (l:=l) (by omega);rw [hp] at h;have h':Con 48 [.agg true (tv (.mk 15 i j n [a,b]))] (.tup [.agg true (tv (.mk 15 i j n [a,b])),.bool false]):=h;have k0:PT C 4000 a:=(ht.kid (p:=0) (show 0<2 by decide) (show bnd 15 0=0 by decide)).1;have hz:=Ag a;rcases ih a (by simp) k0 with⟨u,hs,hc⟩|⟨hn,hc⟩
 ·have hd:HS (Bw B) (.mk 15 i j n [a,b]) (.mk 15 i j n [u,b]):=.down (p:=0) hp rfl hs;refine .inl ⟨_,hd,?_⟩;have hw:=o8 (.mk 15 i j n [a,b]) u (by simp [Tm.kids]) 0 (by decide);have Gu:Con 49 [.agg true (tv (.mk 15 i j n [a,b])),.int .i64 0,.agg true (tv u)] (.agg true (tv (.mk 15 i j n [u,b]))):=hw;have Co:=Ag u;rw [Am] at h' Gu |-;rw [Am] at Gu |-;simp only [q_h,q_i] at h' Gu |-;refine Al mixed Tryz.func42 tr42 ?_;simp only [go_sem,seval];refine Aa h' ?_;simp only [go_sem,seval,hz];refine Aa hc ?_;simp only [go_sem,seval,Co];refine Aa Gu ?_;simp only [go_sem,seval]
 ·refine .inr ⟨.mk hp (fun p h=>?_),?_⟩
  ·have e:p=0:=by
    have:stk 15=some p:=h;have e2:stk 15=some 0:=by decide
    rw [e2,q_b] at this;exact this.symm
   subst e;exact hn
  rw [Am] at h' |-;simp only [q_h,q_i] at h' |-;refine Al mixed Tryz.func42 tr42 ?_;simp only [go_sem,seval];refine Aa h' ?_;simp only [go_sem,seval,hz];refine Aa hc ?_;simp only [go_sem,seval,hz]
theorem A7j {i j n:Int} {l:List Tm} (ht:PT C 4000 (.mk 18 i j n l)) (h:Con 48 [.agg true (tv (.mk 18 i j n l))] (Ld (Bw B (.mk 18 i j n l)) (.mk 18 i j n l))) (hp:Bw B (.mk 18 i j n l)=none) (ih:∀t∈l,PT C 4000 t->HsC B t):HsC B (.mk 18 i j n l):=by
 have hl:=kl ht.sf (by decide);rw [kids18] at hl;obtain⟨a,rfl⟩:=len1 (l:=l) (by omega);rw [hp] at h;have h':Con 48 [.agg true (tv (.mk 18 i j n [a]))] (.tup [.agg true (tv (.mk 18 i j n [a])),.bool false]):=h;have k0:PT C 4000 a:=(ht.kid (p:=0) (show 0<1 by decide) (show bnd 18 0=0 by decide)).1;have hz:=Ag a;rcases ih a (by simp) k0 with⟨u,hs,hc⟩|⟨hn,hc⟩
 ·have hd:HS (Bw B) (.mk 18 i j n [a]) (.mk 18 i j n [u]):=.down (p:=0) hp rfl hs;refine .inl ⟨_,hd,?_⟩;have hw:=o8 (.mk 18 i j n [a]) u (by simp [Tm.kids]) 0 (by decide);have Gu:Con 49 [.agg true (tv (.mk 18 i j n [a])),.int .i64 0,.agg true (tv u)] (.agg true (tv (.mk 18 i j n [u]))):=hw;have Co:=Ag u;rw [Am] at h' Gu |-;rw [Am] at Gu |-;simp only [q_h,q_i] at h' Gu |-;refine Al mixed Tryz.func42 tr42 ?_;simp only [go_sem,seval];refine Aa h' ?_;simp only [go_sem,seval,hz];refine Aa hc ?_;simp only [go_sem,seval,Co];refine Aa Gu ?_;simp only [go_sem,seval]
 ·refine .inr ⟨.mk hp (fun p h=>?_),?_⟩
  ·have e:p=0:=by
    have:stk 18=some p:=h;have e2:stk 18=some 0:=by decide
    rw [e2,q_b] at this;exact this.symm
   subst e;exact hn
  rw [Am] at h' |-;simp only [q_h,q_i] at h' |-;refine Al mixed Tryz.func42 tr42 ?_;simp only [go_sem,seval];refine Aa h' ?_;simp only [go_sem,seval,hz];refine Aa hc ?_;simp only [go_sem,seval,hz]
theorem Bab {i j n:Int} {l:List Tm} (ht:PT C 4000 (.mk 19 i j n l)) (h:Con 48 [.agg true (tv (.mk 19 i j n l))] (Ld (Bw B (.mk 19 i j n l)) (.mk 19 i j n l))) (hp:Bw B (.mk 19 i j n l)=none) (ih:∀t∈l,PT C 4000 t->HsC B t):HsC B (.mk 19 i j n l):=by
 have hl:=kl ht.sf (by decide);rw [kids19] at hl;obtain⟨a,rfl⟩:=len1 (l:=l) (by omega);rw [hp] at h;have h':Con 48 [.agg true (tv (.mk 19 i j n [a]))] (.tup [.agg true (tv (.mk 19 i j n [a])),.bool false]):=h;have k0:PT C 4000 a:=(ht.kid (p:=0) (show 0<1 by decide) (show bnd 19 0=0 by decide)).1;have hz:=Ag a;rcases ih a (by simp) k0 with⟨u,hs,hc⟩|⟨hn,hc⟩
 ·have hd:HS (Bw B) (.mk 19 i j n [a]) (.mk 19 i j n [u]):=.down (p:=0) hp rfl hs;refine .inl ⟨_,hd,?_⟩;have hw:=o8 (.mk 19 i j n [a]) u (by simp [Tm.kids]) 0 (by decide);have Gu:Con 49 [.agg true (tv (.mk 19 i j n [a])),.int .i64 0,.agg true (tv u)] (.agg true (tv (.mk 19 i j n [u]))):=hw;have Co:=Ag u;rw [Am] at h' Gu |-;rw [Am] at Gu |-;simp only [q_h,q_i] at h' Gu |-;refine Al mixed Tryz.func42 tr42 ?_;simp only [go_sem,seval];refine Aa h' ?_;simp only [go_sem,seval,hz];refine Aa hc ?_;simp only [go_sem,seval,Co];refine Aa Gu ?_;simp only [go_sem,seval]
 ·refine .inr ⟨.mk hp (fun p h=>?_),?_⟩
  ·have e:p=0:=by
    have:stk 19=some p:=h;have e2:stk 19=some 0:=by decide
    rw [e2,q_b] at this;exact this.symm
   subst e;exact hn
  rw [Am] at h' |-;simp only [q_h,q_i] at h' |-;refine Al mixed Tryz.func42 tr42 ?_;simp only [go_sem,seval];refine Aa h' ?_;simp only [go_sem,seval,hz];refine Aa hc ?_;simp only [go_sem,seval,hz]
theorem Bc0 {i j n:Int} {l:List Tm} (ht:PT C 4000 (.mk 22 i j n l)) (h:Con 48 [.agg true (tv (.mk 22 i j n l))] (Ld (Bw B (.mk 22 i j n l)) (.mk 22 i j n l))) (hp:Bw B (.mk 22 i j n l)=none) (ih:∀t∈l,PT C 4000 t->HsC B t):HsC B (.mk 22 i j n l):=by
 have hl:=kl ht.sf (by decide);rw [kids22] at hl;obtain⟨x1,x2,x3,x4,x5,a,rfl⟩:=len6 (l:=l) (by omega);rw [hp] at h;have h':Con 48 [.agg true (tv (.mk 22 i j n [x1,x2,x3,x4,x5,a]))] (.tup [.agg true (tv (.mk 22 i j n [x1,x2,x3,x4,x5,a])),.bool false]):=h;have k0:PT C 4000 a:=(ht.kid (p:=5) (show 5<6 by decide) (show bnd 22 5=0 by decide)).1;have hz:=Ag a;rcases ih a (by simp) k0 with⟨u,hs,hc⟩|⟨hn,hc⟩
 ·have hd:HS (Bw B) (.mk 22 i j n [x1,x2,x3,x4,x5,a]) (.mk 22 i j n [x1,x2,x3,x4,x5,u]):=.down (p:=5) hp rfl hs;refine .inl ⟨_,hd,?_⟩;have hw:=o8 (.mk 22 i j n [x1,x2,x3,x4,x5,a]) u (by simp [Tm.kids]) 5 (by decide);have Gu:Con 49 [.agg true (tv (.mk 22 i j n [x1,x2,x3,x4,x5,a])),.int .i64 5,.agg true (tv u)] (.agg true (tv (.mk 22 i j n [x1,x2,x3,x4,x5,u]))):=hw;have Co:=Ag u;rw [Am] at h' Gu |-;rw [Am] at Gu |-;simp only [q_h,q_i] at h' Gu |-;refine Al mixed Tryz.func42 tr42 ?_;simp only [go_sem,seval];refine Aa h' ?_;simp only [go_sem,seval,hz];refine Aa hc ?_;simp only [go_sem,seval,Co];refine Aa Gu ?_;simp only [go_sem,seval]
 ·refine .inr ⟨.mk hp (fun p h=>?_),?_⟩
  ·have e:p=5:=by
    have:stk 22=some p:=h;have e2:stk 22=some 5:=by decide
    rw [e2,q_b] at this;exact this.symm
   subst e;exact hn
  rw [Am] at h' |-;simp only [q_h,q_i] at h' |-;refine Al mixed Tryz.func42 tr42 ?_;simp only [go_sem,seval];refine Aa h' ?_;simp only [go_sem,seval,hz];refine Aa hc ?_;simp only [go_sem,seval,hz]
theorem Aiu (L:Sz B) (hC:C<=60000000) (t:Tm):PT C 4000 t->HsC B t:=by
 induction t using Tm.ind with
 |h k i j n l ih=>
  intro ht;have h:=Ban (B:=B) L ht hC;cases hp:Bw B (.mk k i j n l) with
  |some u=>exact Ap4 h hp
  |none=>
   by_cases h1:k=15
   ·subst h1;exact Av4 ht h hp ih
   by_cases h2:k=18
   ·subst h2;exact A7j ht h hp ih
   by_cases h3:k=19
   ·subst h3;exact Bab ht h hp ih
   by_cases h4:k=22
   ·subst h4;exact Bc0 ht h hp ih
   exact An0 h hp ⟨h1,h2,h3,h4⟩
end
def De (N:Nat) (o:Bool):List SV:=[.int .i64 N,.bool o]
inductive CHd:Nat->Tm->Nat->Bool->Tm->Prop
 |stop {N:Nat} {t:Tm} (hc:Con 42 [.agg true (tv t)] (.tup [.agg true (tv t),.bool false])):CHd N t N false t
 |far {N:Nat} {t u:Tm} (hc:Con 42 [.agg true (tv t)] (.tup [.agg true (tv u),.bool true])) (hN:N=4000):CHd N t (N+1) true u
 |big {N:Nat} {t u:Tm} (hc:Con 42 [.agg true (tv t)] (.tup [.agg true (tv u),.bool true])) (hN:N+1<=4000) (hu:TOk u) (hs:4000<tsz u):CHd N t (N+1) true u
 |step {N N':Nat} {t u t':Tm} {o:Bool} (hc:Con 42 [.agg true (tv t)] (.tup [.agg true (tv u),.bool true])) (hN:N+1<=4000) (hu:TOk u) (hs:tsz u<=4000) (hr:CHd (N+1) u N' o t'):CHd N t N' o t'
def HdL (G:List (List SV)) (sid:Nat) (t:Tm) (out:HOut) (G':List (List SV)) (n:Nat):Prop:=
 vcI (Bd Tryz.prog fun _ _=>False) a20_21 (bk 0 (sq (Bd Tryz.prog fun _ _=>False) a20_25 (rtG [.cell 4 true 5] out G'))) n ⟨(.gp sid 0::.jk::.jk::.ref 1 0 0 0::.ref 2 0 0 0::.jk::.jk::.jk::.jk::.jk::.jk::.jk::.jk::.jk::.jk::.jk::.jk::.jk::.jk::.jk::.jk::.jk::.jk::.jk::.jk::.jk::.jk::.jk::.jk::.jk::.jk::.jk::.jk::.jk::.jk::.jk::.jk::.jk::.jk::.jk::.jk::.jk::[]),[gOb G,⟨true,5,[tv t],0,0,true⟩,⟨true,5,[[.int .i64 0,.int .i64 0,.int .i64 0,.int .i64 0,.nils]],0,0,true⟩]⟩
theorem Aja {G:List (List SV)} {sid N:Nat} {t:Tm} (hG:G[sid]?=some (De N true)):HdL G sid t (.ret (.agg true (tv t))) G 1:=by
 have hz:=Ag t;refine Ak ?_;simp only [go_sem,seval,hG,De,hz]
theorem Avo {G:List (List SV)} {sid N N':Nat} {t t':Tm} {o:Bool} (h:CHd N t N' o t') (hG:G[sid]?=some (De N false)) (hN:N<=4000):∃n,HdL G sid t (.ret (.agg true (tv t'))) (G.set sid (De N' o)) n:=by
 induction h generalizing G with
 |@stop N t hc=>
  have hz:=Ag t;refine⟨1,Ak ?_⟩;rw [show G.set sid (De N false)=G from j9 hG];simp only [go_sem,seval,hG,De,hz];refine Aa hc ?_;simp only [go_sem,seval,hz]
 |@far N t u hc hN4=>
  have hz:=Ag t;have Co:=Ag u;have eN:((N+1:Nat):Int)=(N:Int)+1:=rfl;have h2:=Aja (G:=G.set sid (De (N+1) true)) (t:=u) (sid:=sid) (N:=N+1) (Fa hG);refine⟨2,Ak ?_⟩;unfold HdL at h2;simp only [De,eN] at h2 |-;simp only [go_sem,seval,hG,De,hz];refine Aa hc ?_;simp only [go_sem,seval,Co,hG,De,Fa hG,Lp,Jk,w64 (show fit ((N:Int)+1) by unfold fit;omega),decide_eq_true (show (N:Int)+1 > 4000 by omega)];exact Dc (Do 3 (by simp [Ao]) (by simp) (by simp [Be]) (by simp [gOb])) h2
 |@big N t u hc hN1 hu hs=>
  have hz:=Ag t;have Co:=Ag u;have eN:((N+1:Nat):Int)=(N:Int)+1:=rfl;have h2:=Aja (G:=G.set sid (De (N+1) true)) (t:=u) (sid:=sid) (N:=N+1) (Fa hG);have Px:=Ahs hu (m:=4000) (by decide) (by decide);refine⟨2,Ak ?_⟩;unfold HdL at h2;simp only [De,eN] at h2 |-;simp only [go_sem,seval,hG,De,hz];refine Aa hc ?_;simp only [go_sem,seval,Co,hG,De,Fa hG,Lp,Jk,w64 (show fit ((N:Int)+1) by unfold fit;omega),decide_eq_false (show ¬(N:Int)+1 > 4000 by omega)];refine Aa Px ?_;simp only [go_sem,seval,Co,hG,De,Fa hG,Lp,Jk,decide_eq_true (show 4000<min (tsz u:Int) 4001 by omega)];exact Dc (Do 3 (by simp [Ao]) (by simp) (by simp [Be]) (by simp [gOb])) h2
 |@step N N' t u t' o hc hN1 hu hs hr ih=>
  have hz:=Ag t;have Co:=Ag u;have eN:((N+1:Nat):Int)=(N:Int)+1:=rfl;obtain⟨n,h2⟩:=ih (G:=G.set sid (De (N+1) false)) (Fa hG) hN1;have Px:=Ahs hu (m:=4000) (by decide) (by decide);refine⟨n+1,Ak ?_⟩;rw [Jk] at h2;unfold HdL at h2;simp only [De,eN] at h2 |-;simp only [go_sem,seval,hG,De,hz];refine Aa hc ?_;simp only [go_sem,seval,Co,hG,De,Fa hG,Lp,Jk,w64 (show fit ((N:Int)+1) by unfold fit;omega),decide_eq_false (show ¬(N:Int)+1 > 4000 by omega)];refine Aa Px ?_;simp only [go_sem,seval,Co,hG,De,Fa hG,Lp,Jk,decide_eq_false (show ¬4000<min (tsz u:Int) 4001 by omega)];exact Dc (Do 3 (by simp [Ao]) (by simp) (by simp [Be]) (by simp [gOb])) h2
theorem Aq9 {G:List (List SV)} {sid N N':Nat} {t t':Tm} {o:Bool} (h:CHd N t N' o t') (hG:G[sid]?=some (De N false)) (hN:N<=4000):Ad 20 G [.gp sid 0,.agg true (tv t)] (.ret (.agg true (tv t'))) (G.set sid (De N' o)):=by
 obtain⟨n,h2⟩:=Avo h hG hN;refine Aq mixed Tryz.func20 tr20 ?_;simp only [go_sem,seval,Ag];exact Cf n (Dc (As (by simp [Ao])) h2)
def CN (t:Tm) (N:Nat) (N':Nat) (o':Bool) (r:Tm):Prop:=∀(sid:Nat) (G:List (List SV)),G[sid]?=some (De N false)->Ad 24 G [.gp sid 0,.agg true (tv t)] (.ret (.agg true (tv r))) (G.set sid (De N' o'))
inductive CNl:List Tm->Nat->Bool->Nat->Bool->List Tm->Prop
 |nil {N:Nat} {o:Bool}:CNl [] N o N o []
 |out {a:Tm} {l:List Tm} {N:Nat}:CNl (a::l) N true N true []
 |cons {a r:Tm} {l rs:List Tm} {N N1 N2:Nat} {o1 o2:Bool} (h:CN a N N1 o1 r) (hl:CNl l N1 o1 N2 o2 rs):CNl (a::l) N false N2 o2 (r::rs)
def nS (G:List (List SV)) (sid:Nat) (k i j n:Int) (l done:List Tm):St:=
 ⟨(.gp sid 0::.jk::.jk::.ref 1 0 0 0::.ref 2 0 0 0::.ref 3 0 0 0::.osl 4 done.length 0 done.length::.int .i64 done.length::.jk::.jk::.jk::.jk::.jk::.jk::.jk::.jk::.jk::.jk::.jk::.jk::.jk::.jk::.jk::.jk::.jk::.jk::.jk::.jk::.jk::.jk::.jk::.jk::.jk::.jk::.jk::.jk::.jk::.jk::.jk::.jk::.jk::.jk::.jk::.jk::.jk::.jk::.jk::[]),[gOb G,⟨true,5,[[.int .i64 k,.int .i64 i,.int .i64 j,.int .i64 n,.dsl 5 (l.map tv)]],0,0,true⟩,⟨true,5,[[.int .i64 0,.int .i64 0,.int .i64 0,.int .i64 0,.nils]],0,0,true⟩,⟨true,5,[[.int .i64 k,.int .i64 i,.int .i64 j,.int .i64 n,.nils]],0,0,true⟩,⟨false,5,done.map tv,done.length-1,done.length,true⟩]⟩
def NoL (G:List (List SV)) (sid:Nat) (k i j n:Int) (l done:List Tm) (out:HOut) (G':List (List SV)) (m:Nat):Prop:=
 vcI (Bd Tryz.prog fun _ _=>False) a24_12 (bk 0 (sq (Bd Tryz.prog fun _ _=>False) a24_19 (rtG [.cell 4 true 5] out G'))) m (nS G sid k i j n l done)
theorem Agx {G:List (List SV)} {sid N:Nat} {o:Bool} {k i j n:Int} {l done:List Tm} (Db:l.length<=100) (hd:done.length<=100) (hG:G[sid]?=some (De N o)) (h:o=true\/l.length<=done.length):NoL G sid k i j n l done (.ret (.agg true (tv (.mk k i j n done)))) G 1:=by
 refine Ak ?_;unfold nS;rw [Am];have ht:(done.map tv).take done.length=done.map tv:=List.take_of_length_le (by simp)
 by_cases c:l.length<=done.length
 ·simp only [go_sem,seval,hG,De,q_g,decide_eq_false (show ¬(done.length:Int)<l.length by omega),ht]
 ·have ho:o=true:=by rcases h with h|h;exact h;exact absurd h c
  subst ho;simp only [go_sem,seval,hG,De,q_g,decide_eq_true (show (done.length:Int)<l.length by omega),ht]
theorem Ar5 {sid N N':Nat} {o o':Bool} {ls rs:List Tm} (h:CNl ls N o N' o' rs):∀{G:List (List SV)} {k i j n:Int} {l done:List Tm},l.length<=100->done.length<=100->G[sid]?=some (De N o)->l.drop done.length=ls->∃m,NoL G sid k i j n l done (.ret (.agg true (tv (.mk k i j n (done++rs))))) (G.set sid (De N' o')) m:=by
 induction h with
 |@nil N o=>
  intro G k i j n l done Db hd hG hl;rw [j9 hG,List.append_nil];exact⟨1,Agx Db hd hG (.inr (List.drop_eq_nil_iff.1 hl))⟩
 |@out a l' N=>
  intro G k i j n l done Db hd hG hl;rw [j9 hG,List.append_nil];exact⟨1,Agx Db hd hG (.inl rfl)⟩
 |@cons a r l' rs N N1 N2 o1 o2 h Rj ih=>
  intro G k i j n l done Db hd hG hl;have hx:l[done.length]?=some a:=by have:=congrArg (fun l=>l[0]?) hl;simpa using this
  have Ab:=Dt hx;have hl2:l.drop (done++[r]).length=l':=by
   rw [List.length_append,List.length_singleton];have:=congrArg (List.drop 1) hl
   rwa [List.drop_drop] at this
  obtain⟨m,h2⟩:=ih (G:=G.set sid (De N1 o1)) (k:=k) (i:=i) (j:=j) (n:=n) (l:=l) (done:=done++[r]) Db (by simp;omega) (Fa hG) hl2;rw [Jk,List.append_assoc,List.singleton_append] at h2;refine⟨m+1,Ak ?_⟩;unfold NoL at h2;unfold nS at h2 |-;have hza:=Ag a;have Ty:=Ag r;have e0:(0:Int)<=(done.length:Int):=by omega
  have e1:(done.length:Int)<(l.length:Int):=by omega
  have hg:(l.map tv)[done.length]?.getD []=tv a:=by rw [List.getElem?_map,hx];rfl
  have e3:(done.length+1)*56<=140737488355328:=by omega
  have e4:done.length+1<=140737488355328:=by omega
  simp only [go_sem,seval,hG,De,q_g,e0,e1,Ab,hg,hza,decide_eq_true e1];refine fun _=>Ac (h sid G hG) ?_
  simp only [go_sem,seval,Ty,e3,e4,q_g,w64 (show fit ((done.length:Int)+1) by unfold fit;omega)];have eL:(done++[r]).length=done.length+1:=by simp
  have eN:((done.length+1:Nat):Int)=(done.length:Int)+1:=rfl;have eM:(done++[r]).map tv=done.map tv++[tv r]:=by simp
  have e5:(done.map tv).take done.length=done.map tv:=List.take_of_length_le (by simp);simp only [eL,eN,eM,Nat.add_sub_cancel,De] at h2;exact Dc (Do 5 (by simp [Ao]) (by simp [De]) (by simp [Be]) (by simp [gOb])) h2
theorem Aw1 {N N1 N2:Nat} {t:Tm} {k i j n:Int} {l rs:List Tm} {o1 o2:Bool} (h:CHd N t N1 o1 (.mk k i j n l)) (hl:CNl l N1 o1 N2 o2 rs) (hN:N<=4000) (Db:l.length<=100):CN t N N2 o2 (.mk k i j n rs):=by
 intro sid G hG;have h1:=Aq9 h hG hN;obtain⟨m,h2⟩:=Ar5 hl (G:=G.set sid (De N1 o1)) (k:=k) (i:=i) (j:=j) (n:=n) (l:=l) (done:=[]) Db (by simp) (Fa hG) rfl;rw [Jk,List.nil_append] at h2;refine Aq mixed Tryz.func24 tr24 ?_;simp only [go_sem,seval,Ag];refine Ac h1 ?_;rw [Am] at h2 |-;rw [Am];simp only [go_sem,seval];unfold NoL nS at h2;exact Cf m (Dc (.trans (.ghost _ 6 5 rfl) (As (by simp [Ao]))) h2)
section
variable {B:BT}
theorem PT.mono {C M M':Nat} {t:Tm} (h:PT C M t) (hm:tsz t<=M'):PT C M' t:=⟨h.pl,h.sf,hm⟩
theorem Aps (L:Sz B) {C:Nat} (hC:C<=60000000):∀(m N:Nat) (t:Tm),4000-N<=m->N<=4000->PT C 4000 t->∃N' o t',PHd B N t N' o t'/\CHd N t N' o t'/\PT C 16000000 t'/\(o=false->tsz t'<=4000/\N'<=4000/\(N'=N->t'=t)):=by
 intro m
 induction m with
 |zero=>
  intro N t hm hN ht;rcases Aiu L hC t ht with⟨u,hs,hc⟩|⟨hn,hc⟩
  ·exact⟨N+1,true,u,.out hs (.inl (by omega)),.far hc (by omega),Akv L.bd hs hC ht,fun h=>by cases h⟩
  ·exact⟨N,false,t,.stop hn,.stop hc,ht.mono (by have:=ht.sz;omega),fun _=>⟨ht.sz,hN,fun _=>rfl⟩⟩
 |succ m ih=>
  intro N t hm hN ht;rcases Aiu L hC t ht with⟨u,hs,hc⟩|⟨hn,hc⟩
  ·have hu:=Akv L.bd hs hC ht
   by_cases hN4:N=4000
   ·exact⟨N+1,true,u,.out hs (.inl (by omega)),.far hc hN4,hu,fun h=>by cases h⟩
   by_cases Ba:tsz u<=4000
   ·obtain⟨N',o,t',h1,h2,h3,h4⟩:=ih (N+1) u (by omega) (by omega) (hu.mono Ba);have hle:=Aj2 h1;exact⟨N',o,t',.step hs (by omega) Ba h1,.step hc (by omega) (hu.tok (by omega)) Ba h2,h3,fun ho=>⟨(h4 ho).1,(h4 ho).2.1,fun e=>by omega⟩⟩
   ·exact⟨N+1,true,u,.out hs (.inr (by omega)),.big hc (by omega) (hu.tok (by omega)) (by omega),hu,fun h=>by cases h⟩
  ·exact⟨N,false,t,.stop hn,.stop hc,ht.mono (by have:=ht.sz;omega),fun _=>⟨ht.sz,hN,fun _=>rfl⟩⟩
def ms (N:Nat):Nat:=(4000-N)*4001
theorem Atf {N N':Nat} (h:N<=N'):ms N'<=ms N:=Nat.mul_le_mul_right _ (by omega)
theorem Bav {N N':Nat} (h:N<N') (h2:N'<=4000):ms N'+4001<=ms N:=by
 unfold ms;have:(4000-N')+1<=4000-N:=by omega
 have:=Nat.mul_le_mul_right 4001 this;omega
def Alm (B:BT) (t:Tm) (N:Nat):Prop:=∃N2 o2 r,PNx B (.inl t) N false N2 o2 (.inl r)/\CN t N N2 o2 r/\TOk r/\N<=N2/\(o2=false->N2<=4000)
theorem Axn {M:Nat} (IH:∀(N:Nat) (t:Tm) (C:Nat),ms N+tsz t<M->N<=4000->PT C 4000 t->C+2*(ms N+tsz t)<=60000000->Alm B t N) :
  ∀(l:List Tm) (N:Nat) (o:Bool),(o=false->N<=4000/\∀u∈l,ms N+tsz u<M/\∃C',PT C' 4000 u/\C'+2*(ms N+tsz u)<=60000000) ->
  ∃N2 o2 rs,PNx B (.inr l) N o N2 o2 (.inr rs)/\CNl l N o N2 o2 rs/\(∀r∈rs,TOk r)/\rs.length<=l.length/\N<=N2/\(o2=false->N2<=4000):=by
 intro l
 induction l with
 |nil=>intro N o h;exact⟨N,o,[],.nil,.nil,fun r hr=>(by cases hr),by simp,Nat.le_refl _,fun ho=>(h ho).1⟩
 |cons a l ih=>
  intro N o h;cases o with
  |true=>exact⟨N,true,[],.out,.out,fun r hr=>(by cases hr),by simp,Nat.le_refl _,fun h=>(by cases h)⟩
  |false=>
   obtain⟨hN,hu⟩:=h rfl;obtain⟨h1,C',h2,h3⟩:=hu a (by simp);obtain⟨N1,o1,r,p1,p2,p3,p4,p5⟩:=IH N a C' h1 hN h2 h3;obtain⟨N2,o2,rs,q1,q2,q3,q4,q5,q6⟩:=ih N1 o1 (fun ho=>⟨p5 ho,fun u Ll=>by
    obtain⟨k1,C2,k2,k3⟩:=hu u (by simp [Ll]);have:=Atf p4;exact⟨by omega,C2,k2,by omega⟩⟩)
   refine⟨N2,o2,r::rs,.cons p1 q1,.cons p2 q2,fun x hx=>?_,by simp;omega,by omega,q6⟩;rcases List.mem_cons.1 hx with rfl|hx
   ·exact p3
   ·exact q3 x hx
theorem A4d (L:Sz B):∀(M N:Nat) (t:Tm) (C:Nat),ms N+tsz t<M->N<=4000->PT C 4000 t->C+2*(ms N+tsz t)<=60000000->Alm B t N:=by
 intro M
 induction M with
 |zero=>intro N t C h;omega
 |succ M IH=>
  intro N t C hM hN ht hC;obtain⟨N1,o1,t1,h1,h2,h3,h4⟩:=Aps L (C:=C) (by omega) 4000 N t (by omega) hN ht;have hle:=Aj2 h1;have Ba:=ht.sz;cases t1 with
  |mk k i j n l=>
   have Aj:l.length<=12:=by
    by_cases h2:k=2
    ·subst h2;obtain⟨q,_,_,_,rfl,_⟩:=h3.sf.vr;simp
    ·have:=kl h3.sf h2;have:=Qr k n;omega
   obtain⟨N2,o2,rs,q1,q2,q3,q4,q5,q6⟩:=Axn (M:=M) IH l N1 o1 (fun ho=>by
    obtain⟨g1,g2,g3⟩:=h4 ho;refine⟨g2,fun u hu=>?_⟩;obtain⟨p,hp⟩:=List.getElem?_of_mem hu;have hb:=q9 k p;have hk:=Xg (k:=k) (i:=i) (j:=j) (n:=n) hu;have hpt:PT (C+bnd k p) 4000 u:=(h3.mono g1).kidm hp
    by_cases e:N1=N
    ·have:=g3 e;rw [<-this] at hM hC Ba;subst e;exact⟨by omega,_,hpt,by omega⟩
    ·have:=Bav (show N<N1 by omega) g2;exact⟨by omega,_,hpt,by omega⟩)
   have hok:=h3.tok (by omega);obtain⟨f1,f2,f3,f4,hb,Fj⟩:=Un hok;exact⟨N2,o2,.mk k i j n rs,.tm h1 q1,Aw1 h2 q2 hN (by omega),.mk _ _ _ _ _ f1 f2 f3 f4 (by omega) q3,by omega,q6⟩
end
open Go Go.RowKit
inductive LeD:SV->SV->Prop
 |refl (v:SV):LeD v v
 |nils (sz:Nat):LeD .nils (.dsl sz [])
 |dsl (sz:Nat) (l r:List (List SV)):l.length=r.length->(∀x∈r,x.length=sz)->(∀(j:Nat) a b,l.flatten[j]?=some a->r.flatten[j]?=some b->LeD a b)->LeD (.dsl sz l) (.dsl sz r)
 |agg (l r:List SV):l.length=r.length->(∀(j:Nat) a b,l[j]?=some a->r[j]?=some b->LeD a b)->LeD (.agg true l) (.agg true r)
theorem LeD.rep {m:Mem} {a b:SV} (h:LeD a b):∀{v:Value},Rep m v a->Rep m v b:=by
 induction h with
 |refl v=>exact fun h=>h
 |nils sz=>intro v hr;cases hr;exact .dsl0 _ _ _
 |dsl sz l r hl hw _ ih=>
  intro v hr;cases hr with
  |dsl0 _ A cap=>
   have:r=[]:=List.length_eq_zero_iff.1 (by simpa using hl.symm);subst this;exact .dsl0 _ _ _
  |dsl _ _ cap b off vs h0 h1 h2 h3 h4 h5 h6=>
   have f1:l.flatten.length=l.length*sz:=Hr h3;have f2:r.flatten.length=r.length*sz:=Hr hw;rw [hl];refine .dsl sz r cap b off vs h0 (by omega) (by omega) hw (by rw [h4,f1,f2,hl]) h5 (fun j v y hv hy=>?_);have hj:j<l.flatten.length:=by
    have:=(List.getElem?_eq_some_iff.1 hv).1;omega
   exact ih j _ y (q_f hj) hy (h6 j v _ hv (q_f hj))
 |agg l r hl _ ih=>
  intro v hr;cases hr with
  |agg vs _ h0 h1 h2=>
   refine .agg vs r h0 (by omega) (fun j v y hv hy=>?_);have hj:j<l.length:=by
    have:=(List.getElem?_eq_some_iff.1 hv).1;omega
   exact ih j _ y (q_f hj) hy (h2 j v _ hv (q_f hj))
def LeDs (l r:List SV):Prop:=l.length=r.length/\∀(j:Nat) a b,l[j]?=some a->r[j]?=some b->LeD a b
theorem LeDs.nil:LeDs [] []:=⟨rfl,fun j a b h=>by simp at h⟩
theorem LeDs.cons {a b:SV} {l r:List SV} (h:LeD a b) (k:LeDs l r):LeDs (a::l) (b::r):=by
 refine⟨by simp [k.1],fun j x y hx hy=>?_⟩;cases j with
 |zero=>simp at hx hy;subst hx hy;exact h
 |succ j=>exact k.2 j x y (by simpa using hx) (by simpa using hy)
theorem LeDs.refl (l:List SV):LeDs l l:=⟨rfl,fun j a b h k=>by rw [h] at k;cases k;exact .refl _⟩
theorem LeDs.app {l r l' r':List SV} (h:LeDs l r) (k:LeDs l' r'):LeDs (l++l') (r++r'):=by
 refine⟨by simp [h.1,k.1],fun j x y hx hy=>?_⟩
 by_cases hj:j<l.length
 ·rw [List.getElem?_append_left hj] at hx;rw [List.getElem?_append_left (by rw [<-h.1];exact hj)] at hy;exact h.2 j x y hx hy
 ·rw [List.getElem?_append_right (by omega)] at hx;rw [List.getElem?_append_right (by rw [<-h.1];omega)] at hy;rw [<-h.1] at hy;exact k.2 _ x y hx hy
theorem LeD.agg' {l r:List SV} (h:LeDs l r):LeD (.agg true l) (.agg true r):=.agg _ _ h.1 h.2
inductive Aas (sz:Nat):List (List SV)->List (List SV)->Prop
 |nil:Aas sz [] []
 |cons {a b:List SV} {l r:List (List SV)}:b.length=sz->LeDs a b->Aas sz l r->Aas sz (a::l) (b::r)
theorem LeD.rows {sz:Nat} {l r:List (List SV)} (h:Aas sz l r):LeD (.dsl sz l) (.dsl sz r):=by
 have key:l.length=r.length/\(∀x∈r,x.length=sz)/\LeDs l.flatten r.flatten:=by
  induction h with
  |nil=>exact⟨rfl,by simp,.nil⟩
  |cons hb h _ ih=>
   obtain⟨i1,i2,i3⟩:=ih;refine⟨by simp [i1],fun x hx=>?_,?_⟩
   ·rcases List.mem_cons.1 hx with rfl|hx
    ·exact hb
    ·exact i2 x hx
   ·rw [List.flatten_cons,List.flatten_cons];exact h.app i3
 exact .dsl _ _ _ key.1 key.2.1 key.2.2.2
theorem Contract.argsD {P:Program} {f:Nat} {args args':List SV} {r:SV} (h:Contract P f args r) (hl:LeDs args' args):Contract P f args' r:=by
 intro m w vs h1 h2 h3;refine h m w vs h1 (by rw [h2,hl.1]) (fun j v y hv hy=>?_);have hj:j<args'.length:=by
  have:=(List.getElem?_eq_some_iff.1 hv).1;omega
 exact (hl.2 j _ y (q_f hj) hy).rep (h3 j v _ hv (q_f hj))
def s0:Tm:=.mk 1 0 0 0 []
def wkT:Tm:=.mk 15 0 0 0 [.mk 14 0 0 0 [.mk 1 1 0 0 [],.mk 2 0 0 0 []],.mk 1 0 0 0 []]
def wkG (s:Int):List (List SV):=[[.undef],Bv 0 1 s 0 0,thR ⟨wkT,[],false,none,none⟩]
def vS0:Vl:=⟨1,0,0,0,0,[]⟩
theorem A1g (s:Int):∃G' th,Ad 68 (wkG s) [.gp 1 0,.gp 2 0] (.ret (vlV vS0)) G'/\G'[2]?=some (thR th):=by
 have hl:∀G:List (List SV),EvL G 1 (.mk 14 0 0 0 [.mk 1 1 0 0 [],.mk 2 0 0 0 []]) [] (.ret (vlV (Hx 14 0 0 0 [.mk 1 1 0 0 [],.mk 2 0 0 0 []] G.length))) (G++Fd (-1) none [] 0 [.mk 1 1 0 0 [],.mk 2 0 0 0 []]):=fun G=>Ada (by simp) (by omega) (by omega)
 have hs:∀G:List (List SV),EvL G 1 (.mk 1 0 0 0 []) [] (.ret (vlV vS0)) (G++[]):=fun G=>Ada (by simp) (by omega) (by omega)
 have h5:fit 0:=by unfold fit;omega
 have h6:fit 1:=by unfold fit;omega
 refine⟨_,_,Ack (th:=⟨wkT,[],false,none,none⟩) (th1:=⟨wkT,[],false,none,none⟩) rfl rfl rfl (Ea (Aig (m:=1) (id:=4) (th:=⟨.mk 2 0 0 0 [],[],false,none,none⟩) (Ea (hl (wkG s))) rfl rfl (Ajg (m:=1) (j:=0) (steps:=0) (most:=1) (seen:=s) (guess:=0) rfl h5 (by omega) (by omega) h6) rfl rfl h6
  (Aj1 (i:=0) (id:=5) h5 rfl (Ack (th:=⟨s0,[],false,none,none⟩) (th1:=⟨s0,[],false,none,none⟩) rfl rfl rfl (Ea (hs _)) rfl) ⟨_,rfl⟩))) rfl,rfl⟩
theorem Ain (s:Int):∃G',Ad 46 (wkG s) [.gp 1 0,.gp 2 0] (.ret (vlV vS0)) G':=by
 obtain⟨G',th,h,h2⟩:=A1g s;exact⟨_,Aqz (th:=⟨wkT,[],false,none,none⟩) rfl rfl h h2 (.base (by decide) (by decide))⟩
theorem Bcp:∃G',Ad 35 (wkG 0) [.gp 1 0,.gp 2 0,.int .i64 0] (.ret (.agg true (tv s0))) G':=by
 obtain⟨G',h⟩:=Ain 1;exact⟨_,A5g (m:=1) (j:=0) (steps:=0) (most:=1) (seen:=0) (guess:=0) (v:=vS0) rfl (by unfold fit;omega) (by omega) (by omega) (by omega) h (by decide) rfl⟩
theorem Agz:TOk wkT:=by
 have f:∀n:Int,0<=n->n<=100->fit n:=fun n h1 h2=>by unfold fit;omega
 refine .mk _ _ _ _ _ (f _ (by omega) (by omega)) (f _ (by omega) (by omega)) (f _ (by omega) (by omega)) (f _ (by omega) (by omega)) (by simp) (fun t ht=>?_);simp only [List.mem_cons,List.not_mem_nil,or_false] at ht;rcases ht with rfl|rfl
 ·refine .mk _ _ _ _ _ (f _ (by omega) (by omega)) (f _ (by omega) (by omega)) (f _ (by omega) (by omega)) (f _ (by omega) (by omega)) (by simp) (fun t ht=>?_);simp only [List.mem_cons,List.not_mem_nil,or_false] at ht;rcases ht with rfl|rfl<;>exact .mk _ _ _ _ _ (f _ (by omega) (by omega)) (f _ (by omega) (by omega)) (f _ (by omega) (by omega)) (f _ (by omega) (by omega)) (by simp) (fun t ht=>by cases ht)
 ·exact .mk _ _ _ _ _ (f _ (by omega) (by omega)) (f _ (by omega) (by omega)) (f _ (by omega) (by omega)) (f _ (by omega) (by omega)) (by simp) (fun t ht=>by cases ht)
theorem norm_wk:Con 14 [.agg true (tv wkT),.float .f64 4607182418800017408] (.tup [.agg true (tv s0),.int .i64 0]):=by
 refine Adi mixed Tryz.func14 tr14 l7 Nrm.idle_norm (Xt _ _) (Ab4 _ _) ?_;have hc:=Wy wkT Agz;rw [show Ej wkT 2=true by kernel_rfl] at hc;have hn:=j5 [] 1;have hl:=Qt [[.undef],Bv 0 1 0 0 0] wkT [];obtain⟨G',hq⟩:=Bcp;have h5:=Ag wkT;have h6:=Ag s0;generalize tv wkT=r at *
 generalize tv s0=r0 at *
 simp only [go_sem,seval,h5];refine Aa hc ?_;simp only [go_sem,seval,h5];refine Aa Ajv ?_;simp only [go_sem,seval,h5];refine Ac hn ?_;simp only [go_sem,seval,h5];refine Ac hl ?_;simp only [go_sem,seval,h5];refine Ac hq ?_;simp only [go_sem,seval,h5,h6]
theorem head_wk:Con 21 [.agg true (tv wkT),.float .f64 4607182418800017408] (.tup [.agg true (tv s0),.int .i64 0]):=by
 refine Adi mixed Tryz.func21 tr21 Apb Nrm.idle_head (Xt _ _) (Ab4 _ _) ?_;have hc:=Wy wkT Agz;rw [show Ej wkT 2=true by kernel_rfl] at hc;have hn:=j5 [] 1;have hl:=Qt [[.undef],Bv 0 1 0 0 0] wkT [];obtain⟨G',hq⟩:=Ain 0;have ht:=A1m (G:=G') (m:=1) (v:=vS0) (deep:=0) (by decide) rfl;have Rl:Ad 45 G' [.gp 1 0,vlV vS0,.int .i64 0] (.ret (.agg true (tv s0))) G':=ht;clear ht;have h5:=Ag wkT;have h6:=Ag s0;generalize tv wkT=r at *
 generalize tv s0=r0 at *
 generalize vS0=v0 at *
 simp only [go_sem,seval,h5];refine Aa hc ?_;simp only [go_sem,seval,h5];refine Aa Ajv ?_;simp only [go_sem,seval,h5];refine Ac hn ?_;simp only [go_sem,seval,h5];refine Ac hl ?_;simp only [go_sem,seval,h5];refine Ac hq ?_;simp only [go_sem,seval,h5,h6];refine Ac Rl ?_;simp only [go_sem,seval,h5,h6]
theorem Ai3 (i:Int):Con 37 [.int .i64 i] (.agg true (tv (.mk 1 i 0 0 []))):=by
 refine (Al (r:=.agg true [.int .i64 1,.int .i64 i,.int .i64 0,.int .i64 0,.nils]) mixed Tryz.func37 tr37 ?_).weaken (Mh _ _ _ _);simp only [go_sem,seval]
def wkL:SV:=.agg true [.int .i64 15,.int .i64 0,.int .i64 0,.int .i64 0,.dsl 5 [[.int .i64 14,.int .i64 0,.int .i64 0,.int .i64 0,.dsl 5 [[.int .i64 1,.int .i64 1,.int .i64 0,.int .i64 0,.dsl 5 []],[.int .i64 2,.int .i64 0,.int .i64 0,.int .i64 0,.nils]]],[.int .i64 1,.int .i64 0,.int .i64 0,.int .i64 0,.dsl 5 []]]]
theorem Agr:LeD wkL (.agg true (tv wkT)):=by
 unfold wkL wkT;simp only [Am,q_h,q_i];refine .agg' (.cons (.refl _) (.cons (.refl _) (.cons (.refl _) (.cons (.refl _) (.cons (.rows (.cons rfl ?_ (.cons rfl (.refl _) .nil))) .nil)))));exact .cons (.refl _) (.cons (.refl _) (.cons (.refl _) (.cons (.refl _) (.cons (.rows (.cons rfl (.refl _) (.cons rfl (.cons (.refl _) (.cons (.refl _) (.cons (.refl _) (.cons (.refl _) (.cons (.nils 5) .nil))))) .nil))) .nil))))
theorem Ati:LeD (.agg true [.int .i64 0,.int .i64 0,.int .i64 0,.int .i64 0,.nils]) (.agg true (tv zt)):=by
 unfold zt;simp only [Am,q_i];exact .agg' (.cons (.refl _) (.cons (.refl _) (.cons (.refl _) (.cons (.refl _) (.cons (.nils 5) .nil)))))
theorem Af5:TOk zt:=.mk _ _ _ _ _ (by unfold fit;omega) (by unfold fit;omega) (by unfold fit;omega) (by unfold fit;omega) (by simp) (fun t ht=>by cases ht)
theorem w7:Con 16 [] (.bool true):=by
 refine Al mixed Tryz.func16 tr16 ?_;have h7:=norm_wk.argsD (args':=[wkL,.float .f64 4607182418800017408]) (.cons Agr (.cons (.refl _) .nil));have h8:=head_wk.argsD (args':=[wkL,.float .f64 4607182418800017408]) (.cons Agr (.cons (.refl _) .nil));have hz:=(Bez zt Af5 (by kernel_rfl) 4607182418800017408).argsD (args':=[.agg true [.int .i64 0,.int .i64 0,.int .i64 0,.int .i64 0,.nils],.float .f64 4607182418800017408]) (.cons Ati (.cons (.refl _) .nil));simp only [wkL,s0,zt,Am,q_i] at h7 h8 hz;simp only [go_sem,seval];refine Aa (Ai3 1) ?_;simp only [go_sem,seval,Am,q_i];refine Aa (Ai3 0) ?_;simp only [go_sem,seval,Am,q_i];refine Aa h7 ?_;simp only [go_sem,seval];refine Aa h8 ?_;simp only [go_sem,seval];refine Aa hz ?_;simp only [go_sem,seval]
def Wz (t:Tm) (m d z:Int):Prop:=Con 38 [.agg true (tv t),.int .i64 m,.int .i64 d] (.int .i64 z) /\
 (0<=m->m<=1000000->-1<=d->d<=1000->1<=z/\z<=m+1/\(z<=m->z=(tsz t:Int)))
theorem A9h (t:Tm):TOk t->∀m d,∃z,Wz t m d z:=by
 induction t using Tm.ind with
 |h k i j n l ih=>
  intro hok m d;obtain⟨f1,f2,f3,f4,hb,hl⟩:=Un hok;unfold Wz;rw [Am]
  by_cases hd:d<0
  ·refine⟨_,A5w k i j n m d _ hd,fun h1 h2 h3 h4=>?_⟩;rw [w64 (by unfold fit;omega)];exact⟨by omega,by omega,fun h=>by omega⟩
  ·have H:∀(t:Tm) (m d:Int),∃z,t∈l->Wz t m d z:=fun t m d=>by
    by_cases ht:t∈l
    ·obtain⟨z,hz⟩:=ih t ht (hl t ht) m d;exact⟨z,fun _=>hz⟩
    ·exact⟨0,fun h=>absurd h ht⟩
   obtain⟨Z,hZ⟩:∃Z:Tm->Int->Int->Int,∀t∈l,∀m d,Wz t m d (Z t m d):=⟨fun t m d=>Classical.choose (H t m d),fun t ht m d=>Classical.choose_spec (H t m d) ht⟩
   have hW:∀r∈l.map tv,∀m d,Con 38 [.agg true r,.int .i64 m,.int .i64 d] (.int .i64 (onT Z (fun _ _=>0) r m d)):=fun r hr m d=>by
    obtain⟨t,ht,rfl⟩:=List.mem_map.1 hr;rw [If];exact (hZ t ht m d).1
   obtain⟨x,Ov,Ji,Zz⟩:=least (fun x=>m<Kw (onT Z (fun _ _=>0)) (l.map tv) m (IntKind.i64.wrap (d-1)) x) (l.map tv).length;refine⟨_,A5p k i j n m d (l.map tv) _ (by simpa using hb) (rows5 l) hW hd x Ov Ji Zz,fun h1 h2 h3 h4=>?_⟩;rw [Ad2];have e1:IntKind.i64.wrap (d-1)=d-1:=w64 (by unfold fit;omega);rw [e1];have Afp:∀y,y<x->Da 1 (fun y m=>onT Z (fun _ _=>0) ((l.map tv)[y]?.getD []) m (d-1)) m y<=m:=fun y hy=>by
    have:=Zz y hy;rw [Ad2,e1] at this;omega
   have Aj:(l.map tv).length=l.length:=by simp
   have Br:∀y,y<l.length->(l.map tv)[y]?.getD []=tv (l[y]?.getD default):=fun y hy=>by
    rw [List.getElem?_map,q_f hy];rfl
   obtain⟨_,k0,k2,k3⟩:=Azy (a:=1) (V:=fun y m=>onT Z (fun _ _=>0) ((l.map tv)[y]?.getD []) m (d-1)) (T:=fun y=>tsz (l[y]?.getD default)) (most:=m) (n:=l.length) (by omega) (by omega) h1 h2 (fun y hy m' Md hm2=>by
    simp only [Br y hy,If];obtain⟨_,g⟩:=hZ _ (Hq (d:=default) hy) m' (d-1);exact g Md hm2 (by omega) (by omega)) x (by omega) Afp
   refine⟨k0,k2,fun hz=>?_⟩;rw [k3 hz,Gv,<-Aji];have:x=l.length:=by
    rcases Ji with h|h
    ·omega
    ·rw [Ad2,e1] at h;omega
   subst this;omega
theorem Aho {t:Tm} (ht:TOk t) {m:Int} (h0:0<=m) (h1:m<=1000000):∃z,Con 17 [.agg true (tv t),.int .i64 m] (.bool z)/\(z=false->(tsz t:Int)<=m):=by
 obtain⟨z,hz,h⟩:=A9h t ht m 200;refine⟨decide (m<z),Al mixed Tryz.func17 tr17 ?_,fun he=>?_⟩
 ·have h5:=Ag t;generalize tv t=r at *
  repeat' first
   |simp (config:={ maxSteps:=2000000 }) only [go_sem,seval,h5]
   |refine Aa (hz) ?_
   |rfl
 ·have h2:¬m<z:=of_decide_eq_false he;obtain⟨_,_,h3⟩:=h h0 h1 (by decide) (by decide);have:=h3 (by omega);omega
theorem Apw (t:Tm):∀x∈[SV.agg true (tv t)],NoG x:=by
 intro x hx;simp only [List.mem_cons,List.not_mem_nil,or_false] at hx;subst hx;exact Ws t true
theorem Ay6 (t:Tm) (e:Int) (b:Bool):NoG (.tup [.agg true (tv t),.int .i64 e,.bool b]):=by
 refine .tup _ (fun x hx=>?_);simp only [List.mem_cons,List.not_mem_nil,or_false] at hx;rcases hx with rfl|rfl|rfl
 ·exact Ws t true
 ·exact .int _ _
 ·exact .bool _
theorem Bc9 (n:Int) (b:Bool):Le (.tup [.agg true [.int .i64 0,.int .i64 0,.int .i64 0,.int .i64 0,.nils],.int .i64 n,.bool b]) (.tup [.agg true (tv zt),.int .i64 n,.bool b]):=by
 refine .tup _ _ (.cons _ _ _ _ ?_ (.cons _ _ _ _ (.cell _ _ (.refl _)) (.cons _ _ _ _ (.cell _ _ (.refl _)) .nil)));rw [zt,Am];exact .agg _ _ (.cons _ _ _ _ (.refl _) (.cons _ _ _ _ (.refl _) (.cons _ _ _ _ (.refl _) (.cons _ _ _ _ (.refl _) (.cons _ _ _ _ (.nils 5) .nil)))))
section
variable {B:BT}
theorem Acx {t:Tm} {z p:Bool} (hz:Con 17 [.agg true (tv t),.int .i64 60] (.bool z)) (hp:z=false->Con 18 [.agg true (tv t)] (.bool p)) (h:z=true\/p=false\/∃f:Int,Con 19 [.agg true (tv t)] (.int .i64 f)/\1048576<=f) :
  Con 13 [.agg true (tv t)] (.tup [.agg true (tv zt),.int .i64 ((0:Nat):Int),.bool false]):=by
 have h5:=Ag t;refine (Al (r:=.tup [.agg true [.int .i64 0,.int .i64 0,.int .i64 0,.int .i64 0,.nils],.int .i64 0,.bool false]) mixed Tryz.func13 tr13 ?_).weaken (Bc9 0 false);cases z with
 |true=>
  simp only [go_sem,seval,h5];refine Aa hz ?_;simp only [go_sem,seval,h5]
 |false=>
  simp only [go_sem,seval,h5];refine Aa hz ?_;simp only [go_sem,seval,h5];refine Aa (hp rfl) ?_;cases p with
  |false=>simp only [go_sem,seval,h5]
  |true=>
   obtain⟨f,h1,h2⟩:∃f:Int,Con 19 [.agg true (tv t)] (.int .i64 f)/\1048576<=f:=by
    rcases h with h|h|h
    ·cases h
    ·cases h
    ·exact h
   simp only [go_sem,seval,h5];refine Aa h1 ?_;simp only [go_sem,seval,h5,decide_eq_true (show f >= 1048576 from h2)]
theorem Aq3 {t x:Tm} {n:Nat} {o z2:Bool} {f:Int} (hz:Con 17 [.agg true (tv t),.int .i64 60] (.bool false)) (hp:Con 18 [.agg true (tv t)] (.bool true)) (hf:Con 19 [.agg true (tv t)] (.int .i64 f)) (Qe:f<1048576)
  (hn:CN t 0 n o x) (Dn:Con 17 [.agg true (tv x),.int .i64 4000] (.bool z2)):Con 13 [.agg true (tv t)] (.tup [.agg true (tv x),.int .i64 ((n:Nat):Int),.bool (!o && !z2)]):=by
 have h5:=Ag t;have h6:=Ag x;have h:=hn 0 [[.int .i64 0,.bool false]] rfl;refine f8 mixed Tryz.func13 tr13 (Apw t) (Ay6 x _ _) ?_;simp only [go_sem,seval,h5];refine Aa hz ?_;simp only [go_sem,seval,h5];refine Aa hp ?_;simp only [go_sem,seval,h5];refine Aa hf ?_;simp only [go_sem,seval,h5,decide_eq_false (show ¬f >= 1048576 by omega)];refine Ac h ?_;cases o with
 |true=>simp only [go_sem,seval,h6,De]
 |false=>
  simp only [go_sem,seval,h6,De];refine Aa Dn ?_;simp only [go_sem,seval,h6]
theorem A1s (L:Sz B) {t:Tm} (ht:TOk t):∃x n b,Con 13 [.agg true (tv t)] (.tup [.agg true (tv x),.int .i64 ((n:Nat):Int),.bool b])/\TOk x /\
  (b=true->PT 1048576 60 t/\PNx B (.inl t) 0 false n false (.inl x)/\tsz x<=4000/\n<=4000):=by
 obtain⟨z,hz,hzi⟩:=Aho ht (m:=60) (by decide) (by decide);have hp:=Xd t ht;have no:Con 13 [.agg true (tv t)] (.tup [.agg true (tv zt),.int .i64 ((0:Nat):Int),.bool false])->∃x n b,Con 13 [.agg true (tv t)] (.tup [.agg true (tv x),.int .i64 ((n:Nat):Int),.bool b])/\TOk x /\
  (b=true->PT 1048576 60 t/\PNx B (.inl t) 0 false n false (.inl x)/\tsz x<=4000/\n<=4000):=fun h=>⟨zt,0,false,h,Af5,fun h=>by cases h⟩
 cases Nc:z with
 |true=>subst Nc;exact no (Acx (p:=Ch t) hz (fun h=>by cases h) (.inl rfl))
 |false=>
  subst Nc;cases Fx:Ch t with
  |false=>rw [Fx] at hp;exact no (Acx hz (fun _=>hp) (.inr (.inl rfl)))
  |true=>
   rw [Fx] at hp;have hf:=Bca t ht Fx
   by_cases Qe:Gp t<1048576
   ·have hs:=hzi rfl;have hpt:PT 1048576 60 t:=⟨Fx,A8n ht Fx (by omega),by omega⟩
    have hms:ms 0=16004000:=by decide
    obtain⟨n,o,x,h1,h2,h3,h4,h5⟩:=A4d L (ms 0+61) 0 t 1048576 (by omega) (by omega) (hpt.mono (by omega)) (by omega);obtain⟨z2,Dn,hzi2⟩:=Aho h3 (m:=4000) (by decide) (by decide);refine⟨x,n,_,Aq3 hz hp hf Qe h2 Dn,h3,fun hb=>?_⟩;cases o with
    |true=>cases hb
    |false=>
     cases z2 with
     |true=>cases hb
     |false=>exact⟨hpt,h1,by have:=hzi2 rfl;omega,h5 rfl⟩
   ·exact no (Acx hz (fun _=>hp) (.inr (.inr ⟨_,hf,by omega⟩)))
end
end Go.Proofs.YtdpigpopcbjkmaaGreatDoor.Abs
