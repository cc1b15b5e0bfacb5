import Derived.Test.YtgfehkhcmnfpaaaGreatDoorVOw
import Derived.Test.YtgfehkhcmnfpaaaGreatDoorVEv
import Derived.Test.YtgfehkhcmnfpaaaGreatDoorProg
import Derived.KernelRfl
import Derived.Test.YtgfehkhcmnfpaaaGreatDoorVOh
import Derived.Test.YtgfehkhcmnfpaaaGreatDoorVAfR
import Derived.Test.YtgfehkhcmnfpaaaGreatDoorVQf
set_option linter.all false
set_option maxRecDepth 20000
set_option maxHeartbeats 4000000
namespace Go.Proofs.YtgfehkhcmnfpaaaGreatDoor.Abs
open Go Go.RowKit Go.Proofs.YtgfehkhcmnfpaaaGreatDoor
def Dg(e:Tm×Nat):List SV:=tv e.1++[.int .i64 e.2]
def Sn(e:Tm×Nat):(Dg e).length=6:=by unfold Dg;rw[q_jr,Bz];rfl
def Vb(t:Tm)(i:Nat):fill [SV.int .i64 0,.int .i64 0,.int .i64 0,.int .i64 0,.nils,.int .i64 0] [(0,5,.agg true (tv t)),(5,1,.int .i64 i)]=Dg (t,i):=by
 obtain⟨k,a,b,n,l⟩:=t;unfold Dg;rw[Bp];rfl
structure GoodP(c:QC):Prop extends Ab8 c where
 r:∀n k p t,Hu ((c.tx.drop (c.tk k).p).take (Ep c k-(c.tk k).p)) (Gn n) 0 0=(t,some p)->p<=c.tx.length
 m:c.tx.length<1000000
section
variable{c:QC}{s:QS}
def GoodP.hn(hg:GoodP c):c.L.length<100000000000:=by have:=hg.n;have:=hg.l;omega
def z5:List SV:=[.int .i64 0,.int .i64 0,.int .i64 0,.int .i64 0,.nils]
def Ir:List (Tm×Nat)->SV
 |[]=>.nils
 |e::es=>.dsl 6 ((e::es).map Dg)
def xqV(x:XQ):List SV:=Ir x.ctx::.bool x.eq::.int .i64 x.i::(tv x.a++(tv x.u++(if x.eq then tv x.b++(tv x.v++tv x.h) else z5++(z5++z5))))
def zx:List SV:=.nils::.bool false::.int .i64 0::(z5++(z5++(z5++(z5++z5))))
def xb(ctx:SV)(eq:Bool):List SV:=ctx::.bool eq::.int .i64 0::(z5++(z5++(z5++(z5++z5))))
def Xh(c:QC)(eq:Bool):List (Tm×Nat)×QS->St
 |([],s)=>⟨(.gp 0 0::.J::.ref 1 0 0 0::.ref 2 0 0 0::Fb (Fb (Fa (jk2 (.J::[]))))),[gOb [Ch c s],⟨true,28,[zx],0,0,true⟩,⟨true,28,[xb .nils eq],0,0,true⟩]⟩
 |(e::es,s)=>⟨(.gp 0 0::.J::.ref 1 0 0 0::.ref 2 0 0 0::Fb (Fb (Fa (jk2 (.J::[]))))),[gOb [Ch c s],⟨true,28,[zx],0,0,true⟩,⟨true,28,[xb (.osl 4 es.length 0 (es.length+1)) eq],0,0,false⟩,⟨false,6,[Dg e],0,0,true⟩,⟨false,6,(e::es).map Dg,es.length,es.length,true⟩]⟩
def Mm(eq:Bool):Xh c eq ([],s)=⟨(.gp 0 0::.J::.ref 1 0 0 0::.ref 2 0 0 0::Fb (Fb (Fa (jk2 (.J::[]))))),[gOb [Ch c s],⟨true,28,[zx],0,0,true⟩,⟨true,28,[xb .nils eq],0,0,true⟩]⟩:=rfl
def Ki(eq:Bool)(e:Tm×Nat)(es:List (Tm×Nat)):Xh c eq (e::es,s)=⟨(.gp 0 0::.J::.ref 1 0 0 0::.ref 2 0 0 0::Fb (Fb (Fa (jk2 (.J::[]))))),[gOb [Ch c s],⟨true,28,[zx],0,0,true⟩,⟨true,28,[xb (.osl 4 es.length 0 (es.length+1)) eq],0,0,false⟩,⟨false,6,[Dg e],0,0,true⟩,⟨false,6,(e::es).map Dg,es.length,es.length,true⟩]⟩:=rfl
def muQ(c:QC)(s:QS):Nat:=if s.bad then 0 else c.L.length+1-s.k
def Ax8(hb:s.bad=true):Ed c s=(0,s):=by unfold Ed;rw[Abq hb,v8];rfl
def Ae1(hk:s.k<=c.L.length):(Ed c s).2.k<=c.L.length/\s.k<=(Ed c s).2.k/\((Ed c s).2.bad=false->s.k<(Ed c s).2.k):=by
 have fk:∀(q:QS) k,(Ey c q k).k=q.k:=fun q k=>by unfold Ey Hj;split<;>rfl
 have fb:∀(q:QS) k,(Ey c q k).bad=true:=fun q k=>by unfold Ey Hj;split;assumption;rfl
 cases hb:s.bad with
 |true=>
  rw[Ax8 hb];exact⟨hk,q_ja _,fun h=>absurd (show s.bad=false from h) (by rw[hb];decide)⟩
 |false=>
  unfold Ed;rcases Abt (c:=c) hb 4 with⟨h,h1,_⟩|⟨a,h⟩
  ·rw[h];dsimp only;split
   ·exact⟨by rw[fk];exact h1,by rw[fk];exact Nat.le_succ _,fun h=>by rw[fb] at h;cases h⟩
   ·exact⟨h1,Nat.le_succ _,fun _=>Nat.lt_succ_self _⟩
  ·rw[h,v8];exact⟨hk,q_ja _,fun h=>(by cases h)⟩
def Af5(hg:Ab8 c)(n:Nat)(pl:Bool)(hk:s.k<=c.L.length):(Cm c n pl s).2.k<=c.L.length/\s.k<=(Cm c n pl s).2.k/\((Cm c n pl s).2.bad=false->s.k<(Cm c n pl s).2.k):=by
 unfold Cm;have fk:∀(q:QS) k,(Ey c q k).k=q.k:=fun q k=>by unfold Ey Hj;split<;>rfl
 have fb:∀(q:QS) k,(Ey c q k).bad=true:=fun q k=>by unfold Ey Hj;split;assumption;rfl
 have pk:∀(q:QS) k,(Hj q k).k=q.k:=fun q k=>by unfold Hj;split<;>rfl
 have pb:∀(q:QS) k,(Hj q k).bad=true:=fun q k=>by unfold Hj;split;assumption;rfl
 split;rotate_left
 ·exact⟨by rw[fk];exact hk,by rw[fk];exact q_ja _,fun h=>by rw[fb] at h;cases h⟩
 rename_i h;split
 ·exact⟨by rw[fk];exact hk,by rw[fk];exact q_ja _,fun h=>by rw[fb] at h;cases h⟩
 cases hz:Hu ((c.tx.drop (c.tk s.k).p).take (Ep c s.k-(c.tk s.k).p)) (Gn n) 0 0 with
 |mk t o=>
  cases o with
  |some p=>exact⟨by rw[pk];exact hk,by rw[pk];exact q_ja _,fun h=>by rw[pb] at h;cases h⟩
  |none=>
   cases hq:Ig c s.k with
   |none=>
    obtain⟨t2,p,Zi⟩:=hg.z s.k (Gn n) h.2 hq;have hE:Ep c s.k=c.tx.length:=by unfold Ep;rw[hq]
    rw[hE,Zi] at hz;cases hz
   |some q=>
    obtain⟨q1,q2,_⟩:=hg.cl s.k q h.2 hq;dsimp only[q_jz];exact⟨q2,Nat.le_of_lt q1,fun _=>q1⟩
def Jr{kd:Nat}(hk:s.k<=c.L.length):(Co c s kd).2.k<=c.L.length:=by
 cases hb:s.bad with
 |true=>rw[Abq hb];exact hk
 |false=>
  rcases Abt (c:=c) hb kd with⟨h,h1,_⟩|⟨a,h⟩
  ·rw[h];exact h1
  ·rw[h];exact hk
def Awh(hg:GoodP c)(hk:s.k<=c.L.length):Dc 41 [Ch c s] [.gp 0 0] (.ret (.agg true (xqV (Nj c s).1))) [Ch c (Nj c s).2]:=by
 have hn:=hg.hn;have c1:=Il (c:=c) (s:=s) hn 3;have Fh:=Jr (c:=c) (kd:=3) hk;refine Cl mixed Tryz.func41 tr41 ?_;generalize Kq:Co c s 3=q1 at *
 obtain⟨w,s1⟩:=q1;simp only at *
 by_cases hw:w=[116,101,114,109]
 ·subst hw;have eh:Rm c s=(false,s1):=by unfold Rm;rw[Kq];rfl
  unfold Nj;rw[eh];dsimp only;have c2:=Il (c:=c) (s:=s1) hn 1;have Ek:=Jr (c:=c) (kd:=1) Fh;generalize Co c s1 1=q2 at *
  obtain⟨w2,s2⟩:=q2;simp only at *
  generalize hR:Gp c (c.L.length+1) [] s2=R at *
  unfold Ch at c1 c2 |-
  repeat' first
  |simp only[go_sem,seval]
  |refine Ai c1 ?_
  |refine Ai c2 ?_
  refine Qr (Xh c false) (fun a=>muQ c a.2) (fun a=>a.2.k<=c.L.length/\a.1.length<=a.2.k+1/\(a.2.bad=false->a.1.length<=a.2.k)/\∃f,muQ c a.2<=f/\Gp c f a.1 a.2=R) (fun a ha=>?_) ([],s2) ⟨Ek,Nat.zero_le _,fun _=>Nat.zero_le _,c.L.length+1,by unfold muQ;split<;>omega,hR⟩ (by rw[Mm];unfold Ch;exact Cr (by simp[Cb]));obtain⟨es,sx⟩:=a;obtain⟨Ia,Ei,Nt,f,hf,hq⟩:=ha;simp only at Ia Ei Nt hf hq;have ci:=Yb (c:=c) (s:=sx) hn 2
  by_cases hgo:sx.bad=false/\isQ c sx 2=false
  ·obtain⟨f,rfl⟩:∃g,f=g+1:=⟨f-1,by unfold muQ at hf;rw[hgo.1,if_neg (by simp)] at hf;omega⟩
   have Yg:=Nt hgo.1;rw[Gp,if_pos hgo] at hq;have cl:=Kl (c:=c) (s:=sx) hn;have kl:=Ae1 (c:=c) Ia;generalize Ed c sx=q3 at *
   obtain⟨i,s3⟩:=q3;simp only at cl kl hq;have ct:=Eb hg.toAb8 (s:=s3) es.length (by have:=hg.m;have:=hg.l;omega) false (hg.r es.length);have kt:=Af5 hg.toAb8 es.length false (s:=s3) kl.1;generalize Cm c es.length false s3=q4 at *
   obtain⟨t,s4⟩:=q4;simp only at ct kt hq;have hmu:muQ c s4<muQ c sx/\muQ c s4<=f:=by
    unfold muQ at hf |-;simp only[hgo.1,q_kx,if_false] at hf |-;cases Np:s4.bad with
    |true=>simp only[if_true];omega
    |false=>
     have a1:=kt.2.2 Np;simp only[q_kx,if_false];have:=kl.2.1;have:=kt.1;omega
   have hk4:es.length+1<=s4.k+1/\(s4.bad=false->es.length+1<=s4.k):=by
    have a1:=kl.2.1;have a2:=kt.2.1;exact⟨by omega,fun Np=>by have:=kt.2.2 Np;omega⟩
   have hb:=hgo.1;have hi:=hgo.2;rw[hi] at ci;cases es with
   |nil=>
    rw[Mm];unfold Ch at ci cl ct |-;simp only[hb] at ci cl
    repeat' first
    |simp only[go_sem,seval,hb,Vb,Sn,zx,xb,z5,q_kn,q_km]
    |refine Ai ci ?_
    |refine Ai cl ?_
    |refine Ai ct ?_
    refine⟨([(t,i)],s4),⟨hmu.1,kt.1,hk4.1,hk4.2,f,hmu.2,hq⟩,?_⟩;rw[Ki];unfold Ch zx xb z5;exact Js 5 (by simp[Cb]) (by simp) (by simp[below]) (by simp[gOb,below])
   |cons e es=>
    have hset:∀u v:List SV,((e::es).map Dg++[u]).set (es.length+1) v=(e::es).map Dg++[v]:=fun u v=>by
     rw[List.set_append_right _ _ (by simp),q_g,q_jk,Nat.sub_self,List.set_cons_zero]
    have Ajh:es.length+1<=1000000:=by have:=hg.m;have:=hg.l;simp only[q_jk] at Yg;omega
    rw[Ki];unfold Ch at ci cl ct |-;simp only[hb] at ci cl
    repeat' first
    |simp only[go_sem,seval,hb,Vb,Sn,zx,xb,z5,q_kn,q_km]
    |refine Ai ci ?_
    |refine Ai cl ?_
    |refine Ai ct ?_
    refine⟨⟨by simp,by omega,by omega⟩,?_⟩;refine⟨(e::(es++[(t,i)]),s4),⟨hmu.1,kt.1,by simpa using hk4.1,fun h=>by simpa using hk4.2 h,f,hmu.2,hq⟩,?_⟩;rw[Ki];unfold Ch zx xb z5;simp only[q_h,q_kt,q_i,q_jr,q_jk,List.length_nil,q_g,q_jg,q_kn,q_km];exact Js 5 (by simp[Cb]) (by simp) (by simp[below]) (by simp[gOb,below])
  ·have Ib:Gp c f es sx=(es,sx):=by cases f with
    |zero=>rfl
    |succ f=>rw[Gp,if_neg hgo]
   rw[Ib] at hq;subst hq;dsimp only;have hle:es.length<=1000000:=by have:=hg.m;have:=hg.l;omega
   have Kk:sx.bad=true\/(sx.bad=false/\isQ c sx 2=true):=by
    cases hb:sx.bad with
    |true=>exact .inl rfl
    |false=>
     cases hi:isQ c sx 2 with
     |true=>exact .inr ⟨rfl,rfl⟩
     |false=>exact absurd ⟨hb,hi⟩ hgo
   obtain⟨N,hN⟩:∃N,es.length=N:=⟨_,rfl⟩
   rw[hN] at hle |-;clear Ei Nt hf Ib hR hgo;cases es with
   |nil=>
    obtain rfl:N=0:=by simpa using hN.symm
    rcases Kk with hb|⟨hb,hi⟩
    ·have c5:=Il (c:=c) (s:=sx) hn 2;have k5:(Co c sx 2).2.k<=c.L.length:=Jr Ia;generalize Co c sx 2=q5 at *
     obtain⟨w5,s5⟩:=q5;dsimp only at c5 k5 |-;have c6:=Kl (c:=c) (s:=s5) hn;generalize Ed c s5=q6 at *
     obtain⟨li,s6⟩:=q6;dsimp only at c6 |-;have t1:=Eb hg.toAb8 (s:=s6) 0 hle false (hg.r 0);generalize Cm c 0 false s6=q at *
     obtain⟨⟨xq1,yq1,zq1,vq1,lq1⟩,sT1⟩:=q;dsimp only at t1 |-;rw[Bp] at t1;have t2:=Eb hg.toAb8 (s:=sT1) 0 hle false (hg.r 0);generalize Cm c 0 false sT1=q at *
     obtain⟨⟨xq2,yq2,zq2,vq2,lq2⟩,sT2⟩:=q;dsimp only at t2 |-;rw[Bp] at t2
     first|rw[if_pos (rfl:false=false)]|skip
     rw[Mm];unfold Ch at ci c5 c6 t1 t2 |-;simp only[hb] at ci c5
     repeat' first
     |simp (config:={ maxSteps:=4000000 }) only[go_sem,seval,hb,zx,xb,z5,xqV,Ir,Bp,q_h,q_jk,q_g,if_true,if_false,q_kx,Dm,List.take_succ_cons,List.take_zero,List.drop_succ_cons,List.drop_zero,q_kn,q_km]
     |refine Ai ci ?_
     |refine Ai c5 ?_
     |refine Ai c6 ?_
     |refine Ai t1 ?_
     |refine Ai t2 ?_
     all_goals first|exact⟨rfl,rfl⟩|rfl
    ·have c5:=Il (c:=c) (s:=sx) hn 2;have k5:(Co c sx 2).2.k<=c.L.length:=Jr Ia;generalize Co c sx 2=q5 at *
     obtain⟨w5,s5⟩:=q5;dsimp only at c5 k5 |-;have c6:=Kl (c:=c) (s:=s5) hn;generalize Ed c s5=q6 at *
     obtain⟨li,s6⟩:=q6;dsimp only at c6 |-;have t1:=Eb hg.toAb8 (s:=s6) 0 hle false (hg.r 0);generalize Cm c 0 false s6=q at *
     obtain⟨⟨xq1,yq1,zq1,vq1,lq1⟩,sT1⟩:=q;dsimp only at t1 |-;rw[Bp] at t1;have t2:=Eb hg.toAb8 (s:=sT1) 0 hle false (hg.r 0);generalize Cm c 0 false sT1=q at *
     obtain⟨⟨xq2,yq2,zq2,vq2,lq2⟩,sT2⟩:=q;dsimp only at t2 |-;rw[Bp] at t2
     first|rw[if_pos (rfl:false=false)]|skip
     rw[Mm];unfold Ch at ci c5 c6 t1 t2 |-;simp only[hb,hi] at ci c5
     repeat' first
     |simp (config:={ maxSteps:=4000000 }) only[go_sem,seval,hb,zx,xb,z5,xqV,Ir,Bp,q_h,q_jk,q_g,if_true,if_false,q_kx,Dm,List.take_succ_cons,List.take_zero,List.drop_succ_cons,List.drop_zero,q_kn,q_km]
     |refine Ai ci ?_
     |refine Ai c5 ?_
     |refine Ai c6 ?_
     |refine Ai t1 ?_
     |refine Ai t2 ?_
     all_goals first|exact⟨rfl,rfl⟩|rfl
   |cons e es=>
    obtain rfl:N=es.length+1:=by simpa using hN.symm
    rcases Kk with hb|⟨hb,hi⟩
    ·have c5:=Il (c:=c) (s:=sx) hn 2;have k5:(Co c sx 2).2.k<=c.L.length:=Jr Ia;generalize Co c sx 2=q5 at *
     obtain⟨w5,s5⟩:=q5;dsimp only at c5 k5 |-;have c6:=Kl (c:=c) (s:=s5) hn;generalize Ed c s5=q6 at *
     obtain⟨li,s6⟩:=q6;dsimp only at c6 |-;have t1:=Eb hg.toAb8 (s:=s6) (es.length+1) hle false (hg.r (es.length+1));generalize Cm c (es.length+1) false s6=q at *
     obtain⟨⟨xq1,yq1,zq1,vq1,lq1⟩,sT1⟩:=q;dsimp only at t1 |-;rw[Bp] at t1;have t2:=Eb hg.toAb8 (s:=sT1) (es.length+1) hle false (hg.r (es.length+1));generalize Cm c (es.length+1) false sT1=q at *
     obtain⟨⟨xq2,yq2,zq2,vq2,lq2⟩,sT2⟩:=q;dsimp only at t2 |-;rw[Bp] at t2
     first|rw[if_pos (rfl:false=false)]|skip
     have Aw:List.take (es.length+1) (Dg e::es.map Dg)=Dg e::es.map Dg:=q_js (by simp);rw[Ki];unfold Ch at ci c5 c6 t1 t2 |-;simp only[hb] at ci c5
     repeat' first
     |simp (config:={ maxSteps:=4000000 }) only[go_sem,seval,hb,zx,xb,z5,xqV,Ir,Bp,q_h,q_jk,q_g,if_true,if_false,q_kx,Aw,Dm,List.take_succ_cons,List.take_zero,List.drop_succ_cons,List.drop_zero,q_kn,q_km]
     |refine Ai ci ?_
     |refine Ai c5 ?_
     |refine Ai c6 ?_
     |refine Ai t1 ?_
     |refine Ai t2 ?_
     all_goals first|exact⟨rfl,rfl⟩|rfl
    ·have c5:=Il (c:=c) (s:=sx) hn 2;have k5:(Co c sx 2).2.k<=c.L.length:=Jr Ia;generalize Co c sx 2=q5 at *
     obtain⟨w5,s5⟩:=q5;dsimp only at c5 k5 |-;have c6:=Kl (c:=c) (s:=s5) hn;generalize Ed c s5=q6 at *
     obtain⟨li,s6⟩:=q6;dsimp only at c6 |-;have t1:=Eb hg.toAb8 (s:=s6) (es.length+1) hle false (hg.r (es.length+1));generalize Cm c (es.length+1) false s6=q at *
     obtain⟨⟨xq1,yq1,zq1,vq1,lq1⟩,sT1⟩:=q;dsimp only at t1 |-;rw[Bp] at t1;have t2:=Eb hg.toAb8 (s:=sT1) (es.length+1) hle false (hg.r (es.length+1));generalize Cm c (es.length+1) false sT1=q at *
     obtain⟨⟨xq2,yq2,zq2,vq2,lq2⟩,sT2⟩:=q;dsimp only at t2 |-;rw[Bp] at t2
     first|rw[if_pos (rfl:false=false)]|skip
     have Aw:List.take (es.length+1) (Dg e::es.map Dg)=Dg e::es.map Dg:=q_js (by simp);rw[Ki];unfold Ch at ci c5 c6 t1 t2 |-;simp only[hb,hi] at ci c5
     repeat' first
     |simp (config:={ maxSteps:=4000000 }) only[go_sem,seval,hb,zx,xb,z5,xqV,Ir,Bp,q_h,q_jk,q_g,if_true,if_false,q_kx,Aw,Dm,List.take_succ_cons,List.take_zero,List.drop_succ_cons,List.drop_zero,q_kn,q_km]
     |refine Ai ci ?_
     |refine Ai c5 ?_
     |refine Ai c6 ?_
     |refine Ai t1 ?_
     |refine Ai t2 ?_
     all_goals first|exact⟨rfl,rfl⟩|rfl
 by_cases hw2:w=[101,113,117,97,108]
 ·subst hw2;have eh:Rm c s=(true,s1):=by unfold Rm;rw[Kq];rfl
  unfold Nj;rw[eh];dsimp only;have c2:=Il (c:=c) (s:=s1) hn 1;have Ek:=Jr (c:=c) (kd:=1) Fh;generalize Co c s1 1=q2 at *
  obtain⟨w2,s2⟩:=q2;simp only at *
  generalize hR:Gp c (c.L.length+1) [] s2=R at *
  unfold Ch at c1 c2 |-
  repeat' first
  |simp only[go_sem,seval,(show (([101,113,117,97,108]:By)==[116,101,114,109])=false by decide)]
  |refine Ai c1 ?_
  |refine Ai c2 ?_
  refine Qr (Xh c true) (fun a=>muQ c a.2) (fun a=>a.2.k<=c.L.length/\a.1.length<=a.2.k+1/\(a.2.bad=false->a.1.length<=a.2.k)/\∃f,muQ c a.2<=f/\Gp c f a.1 a.2=R) (fun a ha=>?_) ([],s2) ⟨Ek,Nat.zero_le _,fun _=>Nat.zero_le _,c.L.length+1,by unfold muQ;split<;>omega,hR⟩ (by rw[Mm];unfold Ch;exact Cr (by simp[Cb]));obtain⟨es,sx⟩:=a;obtain⟨Ia,Ei,Nt,f,hf,hq⟩:=ha;simp only at Ia Ei Nt hf hq;have ci:=Yb (c:=c) (s:=sx) hn 2
  by_cases hgo:sx.bad=false/\isQ c sx 2=false
  ·obtain⟨f,rfl⟩:∃g,f=g+1:=⟨f-1,by unfold muQ at hf;rw[hgo.1,if_neg (by simp)] at hf;omega⟩
   have Yg:=Nt hgo.1;rw[Gp,if_pos hgo] at hq;have cl:=Kl (c:=c) (s:=sx) hn;have kl:=Ae1 (c:=c) Ia;generalize Ed c sx=q3 at *
   obtain⟨i,s3⟩:=q3;simp only at cl kl hq;have ct:=Eb hg.toAb8 (s:=s3) es.length (by have:=hg.m;have:=hg.l;omega) false (hg.r es.length);have kt:=Af5 hg.toAb8 es.length false (s:=s3) kl.1;generalize Cm c es.length false s3=q4 at *
   obtain⟨t,s4⟩:=q4;simp only at ct kt hq;have hmu:muQ c s4<muQ c sx/\muQ c s4<=f:=by
    unfold muQ at hf |-;simp only[hgo.1,q_kx,if_false] at hf |-;cases Np:s4.bad with
    |true=>simp only[if_true];omega
    |false=>
     have a1:=kt.2.2 Np;simp only[q_kx,if_false];have:=kl.2.1;have:=kt.1;omega
   have hk4:es.length+1<=s4.k+1/\(s4.bad=false->es.length+1<=s4.k):=by
    have a1:=kl.2.1;have a2:=kt.2.1;exact⟨by omega,fun Np=>by have:=kt.2.2 Np;omega⟩
   have hb:=hgo.1;have hi:=hgo.2;rw[hi] at ci;cases es with
   |nil=>
    rw[Mm];unfold Ch at ci cl ct |-;simp only[hb] at ci cl
    repeat' first
    |simp only[go_sem,seval,hb,Vb,Sn,zx,xb,z5,q_kn,q_km]
    |refine Ai ci ?_
    |refine Ai cl ?_
    |refine Ai ct ?_
    refine⟨([(t,i)],s4),⟨hmu.1,kt.1,hk4.1,hk4.2,f,hmu.2,hq⟩,?_⟩;rw[Ki];unfold Ch zx xb z5;exact Js 5 (by simp[Cb]) (by simp) (by simp[below]) (by simp[gOb,below])
   |cons e es=>
    have hset:∀u v:List SV,((e::es).map Dg++[u]).set (es.length+1) v=(e::es).map Dg++[v]:=fun u v=>by
     rw[List.set_append_right _ _ (by simp),q_g,q_jk,Nat.sub_self,List.set_cons_zero]
    have Ajh:es.length+1<=1000000:=by have:=hg.m;have:=hg.l;simp only[q_jk] at Yg;omega
    rw[Ki];unfold Ch at ci cl ct |-;simp only[hb] at ci cl
    repeat' first
    |simp only[go_sem,seval,hb,Vb,Sn,zx,xb,z5,q_kn,q_km]
    |refine Ai ci ?_
    |refine Ai cl ?_
    |refine Ai ct ?_
    refine⟨⟨by simp,by omega,by omega⟩,?_⟩;refine⟨(e::(es++[(t,i)]),s4),⟨hmu.1,kt.1,by simpa using hk4.1,fun h=>by simpa using hk4.2 h,f,hmu.2,hq⟩,?_⟩;rw[Ki];unfold Ch zx xb z5;simp only[q_h,q_kt,q_i,q_jr,q_jk,List.length_nil,q_g,q_jg,q_kn,q_km];exact Js 5 (by simp[Cb]) (by simp) (by simp[below]) (by simp[gOb,below])
  ·have Ib:Gp c f es sx=(es,sx):=by cases f with
    |zero=>rfl
    |succ f=>rw[Gp,if_neg hgo]
   rw[Ib] at hq;subst hq;dsimp only;have hle:es.length<=1000000:=by have:=hg.m;have:=hg.l;omega
   have Kk:sx.bad=true\/(sx.bad=false/\isQ c sx 2=true):=by
    cases hb:sx.bad with
    |true=>exact .inl rfl
    |false=>
     cases hi:isQ c sx 2 with
     |true=>exact .inr ⟨rfl,rfl⟩
     |false=>exact absurd ⟨hb,hi⟩ hgo
   obtain⟨N,hN⟩:∃N,es.length=N:=⟨_,rfl⟩
   rw[hN] at hle |-;clear Ei Nt hf Ib hR hgo;cases es with
   |nil=>
    obtain rfl:N=0:=by simpa using hN.symm
    rcases Kk with hb|⟨hb,hi⟩
    ·have c5:=Il (c:=c) (s:=sx) hn 2;have k5:(Co c sx 2).2.k<=c.L.length:=Jr Ia;generalize Co c sx 2=q5 at *
     obtain⟨w5,s5⟩:=q5;dsimp only at c5 k5 |-;have c6:=Kl (c:=c) (s:=s5) hn;generalize Ed c s5=q6 at *
     obtain⟨li,s6⟩:=q6;dsimp only at c6 |-;have t1:=Eb hg.toAb8 (s:=s6) 0 hle false (hg.r 0);generalize Cm c 0 false s6=q at *
     obtain⟨⟨xq1,yq1,zq1,vq1,lq1⟩,sT1⟩:=q;dsimp only at t1 |-;rw[Bp] at t1;have t2:=Eb hg.toAb8 (s:=sT1) 0 hle false (hg.r 0);generalize Cm c 0 false sT1=q at *
     obtain⟨⟨xq2,yq2,zq2,vq2,lq2⟩,sT2⟩:=q;dsimp only at t2 |-;rw[Bp] at t2;have t3:=Eb hg.toAb8 (s:=sT2) 0 hle false (hg.r 0);generalize Cm c 0 false sT2=q at *
     obtain⟨⟨xq3,yq3,zq3,vq3,lq3⟩,sT3⟩:=q;dsimp only at t3 |-;rw[Bp] at t3;have t4:=Eb hg.toAb8 (s:=sT3) 0 hle false (hg.r 0);generalize Cm c 0 false sT3=q at *
     obtain⟨⟨xq4,yq4,zq4,vq4,lq4⟩,sT4⟩:=q;dsimp only at t4 |-;rw[Bp] at t4;have t5:=Eb hg.toAb8 (s:=sT4) 0 hle true (hg.r 0);generalize Cm c 0 true sT4=q at *
     obtain⟨⟨xq5,yq5,zq5,vq5,lq5⟩,sT5⟩:=q;dsimp only at t5 |-;rw[Bp] at t5
     first|rw[if_neg (show ¬(true=false) by decide)]|skip
     rw[Mm];unfold Ch at ci c5 c6 t1 t2 t3 t4 t5 |-;simp only[hb] at ci c5
     repeat' first
     |simp (config:={ maxSteps:=4000000 }) only[go_sem,seval,hb,zx,xb,z5,xqV,Ir,Bp,q_h,q_jk,q_g,if_true,if_false,q_kx,Dm,List.take_succ_cons,List.take_zero,List.drop_succ_cons,List.drop_zero,q_kn,q_km]
     |refine Ai ci ?_
     |refine Ai c5 ?_
     |refine Ai c6 ?_
     |refine Ai t1 ?_
     |refine Ai t2 ?_
     |refine Ai t3 ?_
     |refine Ai t4 ?_
     |refine Ai t5 ?_
     all_goals first|exact⟨rfl,rfl⟩|rfl
    ·have c5:=Il (c:=c) (s:=sx) hn 2;have k5:(Co c sx 2).2.k<=c.L.length:=Jr Ia;generalize Co c sx 2=q5 at *
     obtain⟨w5,s5⟩:=q5;dsimp only at c5 k5 |-;have c6:=Kl (c:=c) (s:=s5) hn;generalize Ed c s5=q6 at *
     obtain⟨li,s6⟩:=q6;dsimp only at c6 |-;have t1:=Eb hg.toAb8 (s:=s6) 0 hle false (hg.r 0);generalize Cm c 0 false s6=q at *
     obtain⟨⟨xq1,yq1,zq1,vq1,lq1⟩,sT1⟩:=q;dsimp only at t1 |-;rw[Bp] at t1;have t2:=Eb hg.toAb8 (s:=sT1) 0 hle false (hg.r 0);generalize Cm c 0 false sT1=q at *
     obtain⟨⟨xq2,yq2,zq2,vq2,lq2⟩,sT2⟩:=q;dsimp only at t2 |-;rw[Bp] at t2;have t3:=Eb hg.toAb8 (s:=sT2) 0 hle false (hg.r 0);generalize Cm c 0 false sT2=q at *
     obtain⟨⟨xq3,yq3,zq3,vq3,lq3⟩,sT3⟩:=q;dsimp only at t3 |-;rw[Bp] at t3;have t4:=Eb hg.toAb8 (s:=sT3) 0 hle false (hg.r 0);generalize Cm c 0 false sT3=q at *
     obtain⟨⟨xq4,yq4,zq4,vq4,lq4⟩,sT4⟩:=q;dsimp only at t4 |-;rw[Bp] at t4;have t5:=Eb hg.toAb8 (s:=sT4) 0 hle true (hg.r 0);generalize Cm c 0 true sT4=q at *
     obtain⟨⟨xq5,yq5,zq5,vq5,lq5⟩,sT5⟩:=q;dsimp only at t5 |-;rw[Bp] at t5
     first|rw[if_neg (show ¬(true=false) by decide)]|skip
     rw[Mm];unfold Ch at ci c5 c6 t1 t2 t3 t4 t5 |-;simp only[hb,hi] at ci c5
     repeat' first
     |simp (config:={ maxSteps:=4000000 }) only[go_sem,seval,hb,zx,xb,z5,xqV,Ir,Bp,q_h,q_jk,q_g,if_true,if_false,q_kx,Dm,List.take_succ_cons,List.take_zero,List.drop_succ_cons,List.drop_zero,q_kn,q_km]
     |refine Ai ci ?_
     |refine Ai c5 ?_
     |refine Ai c6 ?_
     |refine Ai t1 ?_
     |refine Ai t2 ?_
     |refine Ai t3 ?_
     |refine Ai t4 ?_
     |refine Ai t5 ?_
     all_goals first|exact⟨rfl,rfl⟩|rfl
   |cons e es=>
    obtain rfl:N=es.length+1:=by simpa using hN.symm
    rcases Kk with hb|⟨hb,hi⟩
    ·have c5:=Il (c:=c) (s:=sx) hn 2;have k5:(Co c sx 2).2.k<=c.L.length:=Jr Ia;generalize Co c sx 2=q5 at *
     obtain⟨w5,s5⟩:=q5;dsimp only at c5 k5 |-;have c6:=Kl (c:=c) (s:=s5) hn;generalize Ed c s5=q6 at *
     obtain⟨li,s6⟩:=q6;dsimp only at c6 |-;have t1:=Eb hg.toAb8 (s:=s6) (es.length+1) hle false (hg.r (es.length+1));generalize Cm c (es.length+1) false s6=q at *
     obtain⟨⟨xq1,yq1,zq1,vq1,lq1⟩,sT1⟩:=q;dsimp only at t1 |-;rw[Bp] at t1;have t2:=Eb hg.toAb8 (s:=sT1) (es.length+1) hle false (hg.r (es.length+1));generalize Cm c (es.length+1) false sT1=q at *
     obtain⟨⟨xq2,yq2,zq2,vq2,lq2⟩,sT2⟩:=q;dsimp only at t2 |-;rw[Bp] at t2;have t3:=Eb hg.toAb8 (s:=sT2) (es.length+1) hle false (hg.r (es.length+1));generalize Cm c (es.length+1) false sT2=q at *
     obtain⟨⟨xq3,yq3,zq3,vq3,lq3⟩,sT3⟩:=q;dsimp only at t3 |-;rw[Bp] at t3;have t4:=Eb hg.toAb8 (s:=sT3) (es.length+1) hle false (hg.r (es.length+1));generalize Cm c (es.length+1) false sT3=q at *
     obtain⟨⟨xq4,yq4,zq4,vq4,lq4⟩,sT4⟩:=q;dsimp only at t4 |-;rw[Bp] at t4;have t5:=Eb hg.toAb8 (s:=sT4) (es.length+1) hle true (hg.r (es.length+1));generalize Cm c (es.length+1) true sT4=q at *
     obtain⟨⟨xq5,yq5,zq5,vq5,lq5⟩,sT5⟩:=q;dsimp only at t5 |-;rw[Bp] at t5
     first|rw[if_neg (show ¬(true=false) by decide)]|skip
     have Aw:List.take (es.length+1) (Dg e::es.map Dg)=Dg e::es.map Dg:=q_js (by simp);rw[Ki];unfold Ch at ci c5 c6 t1 t2 t3 t4 t5 |-;simp only[hb] at ci c5
     repeat' first
     |simp (config:={ maxSteps:=4000000 }) only[go_sem,seval,hb,zx,xb,z5,xqV,Ir,Bp,q_h,q_jk,q_g,if_true,if_false,q_kx,Aw,Dm,List.take_succ_cons,List.take_zero,List.drop_succ_cons,List.drop_zero,q_kn,q_km]
     |refine Ai ci ?_
     |refine Ai c5 ?_
     |refine Ai c6 ?_
     |refine Ai t1 ?_
     |refine Ai t2 ?_
     |refine Ai t3 ?_
     |refine Ai t4 ?_
     |refine Ai t5 ?_
     all_goals first|exact⟨rfl,rfl⟩|rfl
    ·have c5:=Il (c:=c) (s:=sx) hn 2;have k5:(Co c sx 2).2.k<=c.L.length:=Jr Ia;generalize Co c sx 2=q5 at *
     obtain⟨w5,s5⟩:=q5;dsimp only at c5 k5 |-;have c6:=Kl (c:=c) (s:=s5) hn;generalize Ed c s5=q6 at *
     obtain⟨li,s6⟩:=q6;dsimp only at c6 |-;have t1:=Eb hg.toAb8 (s:=s6) (es.length+1) hle false (hg.r (es.length+1));generalize Cm c (es.length+1) false s6=q at *
     obtain⟨⟨xq1,yq1,zq1,vq1,lq1⟩,sT1⟩:=q;dsimp only at t1 |-;rw[Bp] at t1;have t2:=Eb hg.toAb8 (s:=sT1) (es.length+1) hle false (hg.r (es.length+1));generalize Cm c (es.length+1) false sT1=q at *
     obtain⟨⟨xq2,yq2,zq2,vq2,lq2⟩,sT2⟩:=q;dsimp only at t2 |-;rw[Bp] at t2;have t3:=Eb hg.toAb8 (s:=sT2) (es.length+1) hle false (hg.r (es.length+1));generalize Cm c (es.length+1) false sT2=q at *
     obtain⟨⟨xq3,yq3,zq3,vq3,lq3⟩,sT3⟩:=q;dsimp only at t3 |-;rw[Bp] at t3;have t4:=Eb hg.toAb8 (s:=sT3) (es.length+1) hle false (hg.r (es.length+1));generalize Cm c (es.length+1) false sT3=q at *
     obtain⟨⟨xq4,yq4,zq4,vq4,lq4⟩,sT4⟩:=q;dsimp only at t4 |-;rw[Bp] at t4;have t5:=Eb hg.toAb8 (s:=sT4) (es.length+1) hle true (hg.r (es.length+1));generalize Cm c (es.length+1) true sT4=q at *
     obtain⟨⟨xq5,yq5,zq5,vq5,lq5⟩,sT5⟩:=q;dsimp only at t5 |-;rw[Bp] at t5
     first|rw[if_neg (show ¬(true=false) by decide)]|skip
     have Aw:List.take (es.length+1) (Dg e::es.map Dg)=Dg e::es.map Dg:=q_js (by simp);rw[Ki];unfold Ch at ci c5 c6 t1 t2 t3 t4 t5 |-;simp only[hb,hi] at ci c5
     repeat' first
     |simp (config:={ maxSteps:=4000000 }) only[go_sem,seval,hb,zx,xb,z5,xqV,Ir,Bp,q_h,q_jk,q_g,if_true,if_false,q_kx,Aw,Dm,List.take_succ_cons,List.take_zero,List.drop_succ_cons,List.drop_zero,q_kn,q_km]
     |refine Ai ci ?_
     |refine Ai c5 ?_
     |refine Ai c6 ?_
     |refine Ai t1 ?_
     |refine Ai t2 ?_
     |refine Ai t3 ?_
     |refine Ai t4 ?_
     |refine Ai t5 ?_
     all_goals first|exact⟨rfl,rfl⟩|rfl
 have hwb:(w==[116,101,114,109])=false:=by simp[hw]
 have hwb2:(w==[101,113,117,97,108])=false:=by simp[hw2]
 have eh:Rm c s=(false,Ey c s1 (s1.k-1)):=by unfold Rm;rw[Kq];simp only[hw,hw2,or_self,if_false,decide_false]
 have cfl:Dc 42 [Ch c s1] [.gp 0 0,.int .i64 (IntKind.i64.wrap ((s1.k:Int)-1))] (.ret (.tup [])) [Ch c (Ey c s1 (s1.k-1))]:=by
  cases hb1:s1.bad with
  |true=>
   have e:Ey c s1 (s1.k-1)=s1:=by unfold Ey Hj;rw[if_pos hb1]
   rw[e];exact Awm hb1 _
  |false=>
   have Rq:∃k:Nat,s1.k=k+1/\k<c.L.length:=by
    cases hb:s.bad with
    |true=>rw[Abq hb] at Kq;cases Kq;rw[hb] at hb1;cases hb1
    |false=>
     rcases Abt (c:=c) hb 3 with⟨h,h1,_⟩|⟨a,h⟩
     ·rw[Kq] at h;cases h;exact⟨s.k,rfl,h1⟩
     ·rw[Kq] at h;cases h;cases hb1
   obtain⟨k,Hf,hk4⟩:=Rq;have Zc:IntKind.i64.wrap ((s1.k:Int)-1)=((s1.k-1:Nat):Int):=by rw[Hf,w64 (by unfold fit;omega)];omega
   rw[Zc];exact Vj hn _
 have hk9:(Ey c s1 (s1.k-1)).k<=c.L.length:=by unfold Ey Hj;split<;>exact Fh
 generalize Ey c s1 (s1.k-1)=s9 at *
 unfold Nj;rw[eh];dsimp only;have c2:=Il (c:=c) (s:=s9) hn 1;have Ek:=Jr (c:=c) (kd:=1) hk9;generalize Co c s9 1=q2 at *
 obtain⟨w2,s2⟩:=q2;simp only at *
 generalize hR:Gp c (c.L.length+1) [] s2=R at *
 unfold Ch at c1 c2 cfl |-
 repeat' first
 |simp only[go_sem,seval,hwb,hwb2]
 |refine Ai c1 ?_
 |refine Ai c2 ?_
 |refine Ai cfl ?_
 refine Qr (Xh c false) (fun a=>muQ c a.2) (fun a=>a.2.k<=c.L.length/\a.1.length<=a.2.k+1/\(a.2.bad=false->a.1.length<=a.2.k)/\∃f,muQ c a.2<=f/\Gp c f a.1 a.2=R) (fun a ha=>?_) ([],s2) ⟨Ek,Nat.zero_le _,fun _=>Nat.zero_le _,c.L.length+1,by unfold muQ;split<;>omega,hR⟩ (by rw[Mm];unfold Ch;exact Cr (by simp[Cb]));obtain⟨es,sx⟩:=a;obtain⟨Ia,Ei,Nt,f,hf,hq⟩:=ha;simp only at Ia Ei Nt hf hq;have ci:=Yb (c:=c) (s:=sx) hn 2
 by_cases hgo:sx.bad=false/\isQ c sx 2=false
 ·obtain⟨f,rfl⟩:∃g,f=g+1:=⟨f-1,by unfold muQ at hf;rw[hgo.1,if_neg (by simp)] at hf;omega⟩
  have Yg:=Nt hgo.1;rw[Gp,if_pos hgo] at hq;have cl:=Kl (c:=c) (s:=sx) hn;have kl:=Ae1 (c:=c) Ia;generalize Ed c sx=q3 at *
  obtain⟨i,s3⟩:=q3;simp only at cl kl hq;have ct:=Eb hg.toAb8 (s:=s3) es.length (by have:=hg.m;have:=hg.l;omega) false (hg.r es.length);have kt:=Af5 hg.toAb8 es.length false (s:=s3) kl.1;generalize Cm c es.length false s3=q4 at *
  obtain⟨t,s4⟩:=q4;simp only at ct kt hq;have hmu:muQ c s4<muQ c sx/\muQ c s4<=f:=by
   unfold muQ at hf |-;simp only[hgo.1,q_kx,if_false] at hf |-;cases Np:s4.bad with
   |true=>simp only[if_true];omega
   |false=>
    have a1:=kt.2.2 Np;simp only[q_kx,if_false];have:=kl.2.1;have:=kt.1;omega
  have hk4:es.length+1<=s4.k+1/\(s4.bad=false->es.length+1<=s4.k):=by
   have a1:=kl.2.1;have a2:=kt.2.1;exact⟨by omega,fun Np=>by have:=kt.2.2 Np;omega⟩
  have hb:=hgo.1;have hi:=hgo.2;rw[hi] at ci;cases es with
  |nil=>
   rw[Mm];unfold Ch at ci cl ct |-;simp only[hb] at ci cl
   repeat' first
   |simp only[go_sem,seval,hb,Vb,Sn,zx,xb,z5,q_kn,q_km]
   |refine Ai ci ?_
   |refine Ai cl ?_
   |refine Ai ct ?_
   refine⟨([(t,i)],s4),⟨hmu.1,kt.1,hk4.1,hk4.2,f,hmu.2,hq⟩,?_⟩;rw[Ki];unfold Ch zx xb z5;exact Js 5 (by simp[Cb]) (by simp) (by simp[below]) (by simp[gOb,below])
  |cons e es=>
   have hset:∀u v:List SV,((e::es).map Dg++[u]).set (es.length+1) v=(e::es).map Dg++[v]:=fun u v=>by
    rw[List.set_append_right _ _ (by simp),q_g,q_jk,Nat.sub_self,List.set_cons_zero]
   have Ajh:es.length+1<=1000000:=by have:=hg.m;have:=hg.l;simp only[q_jk] at Yg;omega
   rw[Ki];unfold Ch at ci cl ct |-;simp only[hb] at ci cl
   repeat' first
   |simp only[go_sem,seval,hb,Vb,Sn,zx,xb,z5,q_kn,q_km]
   |refine Ai ci ?_
   |refine Ai cl ?_
   |refine Ai ct ?_
   refine⟨⟨by simp,by omega,by omega⟩,?_⟩;refine⟨(e::(es++[(t,i)]),s4),⟨hmu.1,kt.1,by simpa using hk4.1,fun h=>by simpa using hk4.2 h,f,hmu.2,hq⟩,?_⟩;rw[Ki];unfold Ch zx xb z5;simp only[q_h,q_kt,q_i,q_jr,q_jk,List.length_nil,q_g,q_jg,q_kn,q_km];exact Js 5 (by simp[Cb]) (by simp) (by simp[below]) (by simp[gOb,below])
 ·have Ib:Gp c f es sx=(es,sx):=by cases f with
   |zero=>rfl
   |succ f=>rw[Gp,if_neg hgo]
  rw[Ib] at hq;subst hq;dsimp only;have hle:es.length<=1000000:=by have:=hg.m;have:=hg.l;omega
  have Kk:sx.bad=true\/(sx.bad=false/\isQ c sx 2=true):=by
   cases hb:sx.bad with
   |true=>exact .inl rfl
   |false=>
    cases hi:isQ c sx 2 with
    |true=>exact .inr ⟨rfl,rfl⟩
    |false=>exact absurd ⟨hb,hi⟩ hgo
  obtain⟨N,hN⟩:∃N,es.length=N:=⟨_,rfl⟩
  rw[hN] at hle |-;clear Ei Nt hf Ib hR hgo;cases es with
  |nil=>
   obtain rfl:N=0:=by simpa using hN.symm
   rcases Kk with hb|⟨hb,hi⟩
   ·have c5:=Il (c:=c) (s:=sx) hn 2;have k5:(Co c sx 2).2.k<=c.L.length:=Jr Ia;generalize Co c sx 2=q5 at *
    obtain⟨w5,s5⟩:=q5;dsimp only at c5 k5 |-;have c6:=Kl (c:=c) (s:=s5) hn;generalize Ed c s5=q6 at *
    obtain⟨li,s6⟩:=q6;dsimp only at c6 |-;have t1:=Eb hg.toAb8 (s:=s6) 0 hle false (hg.r 0);generalize Cm c 0 false s6=q at *
    obtain⟨⟨xq1,yq1,zq1,vq1,lq1⟩,sT1⟩:=q;dsimp only at t1 |-;rw[Bp] at t1;have t2:=Eb hg.toAb8 (s:=sT1) 0 hle false (hg.r 0);generalize Cm c 0 false sT1=q at *
    obtain⟨⟨xq2,yq2,zq2,vq2,lq2⟩,sT2⟩:=q;dsimp only at t2 |-;rw[Bp] at t2
    first|rw[if_pos (rfl:false=false)]|skip
    rw[Mm];unfold Ch at ci c5 c6 t1 t2 |-;simp only[hb] at ci c5
    repeat' first
    |simp (config:={ maxSteps:=4000000 }) only[go_sem,seval,hb,zx,xb,z5,xqV,Ir,Bp,q_h,q_jk,q_g,if_true,if_false,q_kx,Dm,List.take_succ_cons,List.take_zero,List.drop_succ_cons,List.drop_zero,q_kn,q_km]
    |refine Ai ci ?_
    |refine Ai c5 ?_
    |refine Ai c6 ?_
    |refine Ai t1 ?_
    |refine Ai t2 ?_
    all_goals first|exact⟨rfl,rfl⟩|rfl
   ·have c5:=Il (c:=c) (s:=sx) hn 2;have k5:(Co c sx 2).2.k<=c.L.length:=Jr Ia;generalize Co c sx 2=q5 at *
    obtain⟨w5,s5⟩:=q5;dsimp only at c5 k5 |-;have c6:=Kl (c:=c) (s:=s5) hn;generalize Ed c s5=q6 at *
    obtain⟨li,s6⟩:=q6;dsimp only at c6 |-;have t1:=Eb hg.toAb8 (s:=s6) 0 hle false (hg.r 0);generalize Cm c 0 false s6=q at *
    obtain⟨⟨xq1,yq1,zq1,vq1,lq1⟩,sT1⟩:=q;dsimp only at t1 |-;rw[Bp] at t1;have t2:=Eb hg.toAb8 (s:=sT1) 0 hle false (hg.r 0);generalize Cm c 0 false sT1=q at *
    obtain⟨⟨xq2,yq2,zq2,vq2,lq2⟩,sT2⟩:=q;dsimp only at t2 |-;rw[Bp] at t2
    first|rw[if_pos (rfl:false=false)]|skip
    rw[Mm];unfold Ch at ci c5 c6 t1 t2 |-;simp only[hb,hi] at ci c5
    repeat' first
    |simp (config:={ maxSteps:=4000000 }) only[go_sem,seval,hb,zx,xb,z5,xqV,Ir,Bp,q_h,q_jk,q_g,if_true,if_false,q_kx,Dm,List.take_succ_cons,List.take_zero,List.drop_succ_cons,List.drop_zero,q_kn,q_km]
    |refine Ai ci ?_
    |refine Ai c5 ?_
    |refine Ai c6 ?_
    |refine Ai t1 ?_
    |refine Ai t2 ?_
    all_goals first|exact⟨rfl,rfl⟩|rfl
  |cons e es=>
   obtain rfl:N=es.length+1:=by simpa using hN.symm
   rcases Kk with hb|⟨hb,hi⟩
   ·have c5:=Il (c:=c) (s:=sx) hn 2;have k5:(Co c sx 2).2.k<=c.L.length:=Jr Ia;generalize Co c sx 2=q5 at *
    obtain⟨w5,s5⟩:=q5;dsimp only at c5 k5 |-;have c6:=Kl (c:=c) (s:=s5) hn;generalize Ed c s5=q6 at *
    obtain⟨li,s6⟩:=q6;dsimp only at c6 |-;have t1:=Eb hg.toAb8 (s:=s6) (es.length+1) hle false (hg.r (es.length+1));generalize Cm c (es.length+1) false s6=q at *
    obtain⟨⟨xq1,yq1,zq1,vq1,lq1⟩,sT1⟩:=q;dsimp only at t1 |-;rw[Bp] at t1;have t2:=Eb hg.toAb8 (s:=sT1) (es.length+1) hle false (hg.r (es.length+1));generalize Cm c (es.length+1) false sT1=q at *
    obtain⟨⟨xq2,yq2,zq2,vq2,lq2⟩,sT2⟩:=q;dsimp only at t2 |-;rw[Bp] at t2
    first|rw[if_pos (rfl:false=false)]|skip
    have Aw:List.take (es.length+1) (Dg e::es.map Dg)=Dg e::es.map Dg:=q_js (by simp);rw[Ki];unfold Ch at ci c5 c6 t1 t2 |-;simp only[hb] at ci c5
    repeat' first
    |simp (config:={ maxSteps:=4000000 }) only[go_sem,seval,hb,zx,xb,z5,xqV,Ir,Bp,q_h,q_jk,q_g,if_true,if_false,q_kx,Aw,Dm,List.take_succ_cons,List.take_zero,List.drop_succ_cons,List.drop_zero,q_kn,q_km]
    |refine Ai ci ?_
    |refine Ai c5 ?_
    |refine Ai c6 ?_
    |refine Ai t1 ?_
    |refine Ai t2 ?_
    all_goals first|exact⟨rfl,rfl⟩|rfl
   ·have c5:=Il (c:=c) (s:=sx) hn 2;have k5:(Co c sx 2).2.k<=c.L.length:=Jr Ia;generalize Co c sx 2=q5 at *
    obtain⟨w5,s5⟩:=q5;dsimp only at c5 k5 |-;have c6:=Kl (c:=c) (s:=s5) hn;generalize Ed c s5=q6 at *
    obtain⟨li,s6⟩:=q6;dsimp only at c6 |-;have t1:=Eb hg.toAb8 (s:=s6) (es.length+1) hle false (hg.r (es.length+1));generalize Cm c (es.length+1) false s6=q at *
    obtain⟨⟨xq1,yq1,zq1,vq1,lq1⟩,sT1⟩:=q;dsimp only at t1 |-;rw[Bp] at t1;have t2:=Eb hg.toAb8 (s:=sT1) (es.length+1) hle false (hg.r (es.length+1));generalize Cm c (es.length+1) false sT1=q at *
    obtain⟨⟨xq2,yq2,zq2,vq2,lq2⟩,sT2⟩:=q;dsimp only at t2 |-;rw[Bp] at t2
    first|rw[if_pos (rfl:false=false)]|skip
    have Aw:List.take (es.length+1) (Dg e::es.map Dg)=Dg e::es.map Dg:=q_js (by simp);rw[Ki];unfold Ch at ci c5 c6 t1 t2 |-;simp only[hb,hi] at ci c5
    repeat' first
    |simp (config:={ maxSteps:=4000000 }) only[go_sem,seval,hb,zx,xb,z5,xqV,Ir,Bp,q_h,q_jk,q_g,if_true,if_false,q_kx,Aw,Dm,List.take_succ_cons,List.take_zero,List.drop_succ_cons,List.drop_zero,q_kn,q_km]
    |refine Ai ci ?_
    |refine Ai c5 ?_
    |refine Ai c6 ?_
    |refine Ai t1 ?_
    |refine Ai t2 ?_
    all_goals first|exact⟨rfl,rfl⟩|rfl
end
open Go Go.RowKit
section
variable{c:RC}{T:TR}{B:Nat}
structure AtB(c:RC)(B:Nat):Prop where
 e:c.e<=B
 p:∀k,k<c.L.length->(c.tk k).p<=B
def On(h:AtB c B){s:RS}(hs:s.at_<=B)(k:Nat):(De c s k).at_<=B:=by
 unfold De;split
 ·exact hs
 ·dsimp only;split
  ·rename_i hk;exact h.p k hk
  ·exact h.e
def Ua(h:AtB c B){s:RS}(hs:s.at_<=B)(k:Nat):(An c s k).2.at_<=B:=by
 unfold An;split
 ·exact hs
 ·exact On h hs _
def Ayw(h:AtB c B){lev:RS->Nat×RS}(hl:∀s,s.at_<=B->(lev s).2.at_<=B){s:RS}(hs:s.at_<=B):(Jp c lev s).2.at_<=B:=by
 unfold Jp;refine Ua h ?_ 2;split
 ·exact hl s.nx hs
 split
 ·exact hl _ (hl s.nx hs)
 ·exact On h hs _
def Ae3(h:AtB c B):∀(f:Nat) {s:RS},s.at_<=B->(Cy c f s).2.at_<=B:=by
 intro f
 induction f with
 |zero=>intro s hs;exact hs
 |succ f ih=>
  intro s hs;unfold Cy;have key:∀(q:Nat×RS),q.2.at_<=B->(if q.2.bad=false/\1000<q.1 then De c q.2 s.k else q.2).at_<=B:=fun q hq=>by
   split
   ·exact On h hq _
   ·exact hq
  split
  ·refine key _ ?_
   repeat' split
   ·exact hs
   ·exact hs
   ·exact hs
   ·exact Ayw h (fun s hs=>ih hs) hs
   ·exact On h hs _
  ·exact On h hs _
def Azg(h:AtB c B){s:RS}(hs:s.at_<=B)(ns:List By):(Kx c ns s).2.at_<=B:=by
 unfold Kx;split
 ·exact hs
 ·exact On h hs _
def Ay0(hT:∀ns w s,s.at_<=B->(T ns w s).2.at_<=B)(ns:List By):∀(m:Nat) {s:RS},s.at_<=B->(Gm T ns m s).2.at_<=B:=by
 intro m
 induction m with
 |zero=>intro s hs;exact hs
 |succ m ih=>intro s hs;exact ih (hT _ _ _ hs)
def Axu(h:AtB c B)(hT:∀ns w s,s.at_<=B->(T ns w s).2.at_<=B)(ns:List By)(k:Nat)(ch:UInt8)(x:AccR){s:RS}(hs:s.at_<=B):(Ef c T ns k ch x s).2.at_<=B:=by
 unfold Ef;split
 ·exact Ae3 h _ hs
 split
 ·split
  ·exact Ay0 hT ns (arN x.n) (s:={ (Cy c (c.L.length+1) s).2 with D:=[] }) (Ae3 h _ hs)
  ·exact Ae3 h _ hs
 split
 ·dsimp only;split
  ·exact Ua h hs 3
  ·exact On h (Ua h hs 3) _
 repeat' split
 ·exact Ua h hs 3
 ·exact hT _ _ _ hs
 ·exact hT _ _ _ hs
 ·exact hT _ _ _ hs
def Ayp(h:AtB c B)(hT:∀ns w s,s.at_<=B->(T ns w s).2.at_<=B)(ns:List By)(k:Nat):∀(sh:By) (x:AccR) {s:RS},s.at_<=B->(Es c T ns k sh x s).2.at_<=B:=by
 intro sh
 induction sh with
 |nil=>intro x s hs;exact hs
 |cons ch r ih=>
  intro x s hs;rw[Es];split
  ·exact hs
  ·exact ih _ (Axu h hT ns k ch x hs)
def A3k(h:AtB c B):∀(f:Nat) (ns:List By) (w:Nat) (s:RS),s.at_<=B->(Fj c f ns w s).2.at_<=B:=by
 intro f
 induction f with
 |zero=>intro ns w s hs;exact hs
 |succ f ih=>
  intro ns w s hs;rw[Fj];split
  ·exact hs
  split
  ·exact On h hs _
  split
  ·exact Azg h hs ns
  dsimp only;have h1:=Ua h hs 1;have h2:=Ua h h1 3;split
  ·exact h2
  split
  ·exact On h h2 _
  ·exact Ua h (Ayp h ih ns _ _ _ h2) 2
end
def rc_L(tx:By)(i j:Nat):(rcR tx i j).L=(Ce tx).1/\(rcR tx i j).e=((Ce tx).2).getD tx.length:=by
 unfold rcR Do;cases h:Ce tx with
 |mk ts e=>
  cases e with
  |none=>simp
  |some p=>simp[Ak3 h]
def Ae9(tx:By):((Ce tx).2).getD tx.length<=tx.length:=by
 have h:=(Mz tx).le.2.2;cases he:(Ce tx).2 with
 |none=>exact q_ja _
 |some p=>exact Nat.le_of_lt (h p he).1
def Ak5(tx:By){k:Nat}(hk:k<(Ce tx).1.length):((Ce tx).1.getD k tk0).p+((Ce tx).1.getD k tk0).w.length<=tx.length:=by
 have h:=(Mz tx).ends.2 k hk;have:=Ae9 tx;omega
def A1g{tx:By}{ns:List By}{i j p:Nat}{t:Tm}(h:Hu tx ns i j=(t,some p)):p<=tx.length:=by
 obtain⟨h1,h2⟩:=rc_L tx i j;have hB:AtB (rcR tx i j) tx.length:=⟨by rw[h2];exact Ae9 tx,fun k hk=>by
  rw[h1] at hk;have:=Ak5 tx hk;show ((rcR tx i j).L.getD k tk0).p<=_;rw[h1];omega⟩
 unfold Hu at h;dsimp only at h;have hq:=A3k hB ((rcR tx i j).L.length+1) ns 0 ⟨0,false,0,[]⟩ (Nat.zero_le _);generalize Fj (rcR tx i j) ((rcR tx i j).L.length+1) ns 0 ⟨0,false,0,[]⟩=q at h hq;have hs:(if q.2.bad=false/\(q.2.k<(rcR tx i j).L.length\/(Ce tx).2.isSome=true) then De (rcR tx i j) q.2 q.2.k else q.2).at_<=tx.length:=by
  split
  ·exact On hB hq _
  ·exact hq
 generalize (if q.2.bad=false/\(q.2.k<(rcR tx i j).L.length\/(Ce tx).2.isSome=true) then De (rcR tx i j) q.2 q.2.k else q.2)=s at h hs
 by_cases hb:s.bad=true
 ·rw[if_pos hb] at h;cases h;exact hs
 ·rw[if_neg hb] at h;cases h
def Asf{d:Nat}:∀(l:List Tok) (n:Nat),dep n (l.map (Tok.back d))=dep n l:=by
 intro l
 induction l with
 |nil=>intro n;rfl
 |cons t l ih=>
  intro n;show dep (Pp n (t.back d)) _=dep (Pp n t) l;rw[ih];rfl
def goodP(tx:By)(hm:tx.length<=3000):GoodP (qcR tx):=by
 obtain⟨hL,ht,he⟩:=qc_L tx;have hlx:=Mz tx;have hle:=hlx.le.2.1;have tk:∀k,(qcR tx).tk k=(Ce tx).1.getD k tk0:=fun k=>by unfold QC.tk;rw[hL];rfl
 refine⟨⟨by rw[ht];omega,by rw[hL,ht];omega,by rw[he,ht];exact Ae9 tx,?_,?_,?_⟩,?_,by rw[ht];omega⟩
 ·intro k hk;rw[tk,ht];rw[hL] at hk;exact Ak5 tx hk
 ·intro k q hk hq;unfold Ig at hq;rw[hL] at hk hq |-;obtain⟨q1,q2⟩:=A2p _ _ _ _ hq;rw[q_kh] at q2;refine⟨q1,by omega,?_⟩;rw[tk,tk];have:=hlx.order (k:=k) (k':=q-1) (by omega) (by omega);omega
 ·intro k ns hk hq;unfold Ig at hq;rw[hL] at hk hq;rw[ht,tk];rw[q_js (by rw[q_kh];exact q_ja _)];cases hr:Hu (tx.drop ((Ce tx).1.getD k tk0).p) ns 0 0 with
  |mk t o=>
   cases o with
   |some p=>exact⟨t,p,rfl⟩
   |none=>
    exfalso;obtain⟨g1,g2,_⟩:=Al6 hr;have hx:=Ayd hk;unfold Do at g2;rw[hx] at g1 g2;dsimp only at g1;rw[g1] at g2;dsimp only at g2;rw[Asf] at g2;rcases A2q _ _ _ hq with h0|h0
    ·have:=congrArg List.length h0;rw[q_kh,List.length_nil] at this;omega
    ·exact h0 g2
 ·intro n k p t h;have:=A1g h;rw[q_kg,q_kh] at this;rw[ht] at this |-;omega
section
variable{c:QC}{s:QS}
end
section
variable{c:QC}{s:QS}
def Alv{p:Nat}:(Hj s p).bad=true:=by unfold Hj;split;assumption;rfl
def Vc{k:Nat}:(Ey c s k).bad=true:=Alv
def Abr{kd:Nat}(h:(Co c s kd).2.bad=false):s.bad=false:=by
 unfold Co at h;split at h
 ·rename_i hc;exact hc.1
 ·rw[Vc] at h;cases h
def Ae2(h:(Ed c s).2.bad=false):s.bad=false/\(Ed c s).1<=1000:=by
 unfold Ed at h |-;dsimp only at h |-
 by_cases hc:1000<(Ez (Co c s 4).1).getD 0
 ·rw[if_pos hc,Vc] at h;cases h
 ·rw[if_neg hc] at h;exact⟨Abr h,by omega⟩
def other_forms:(∀x∈formsG,Sa x.1 false=false->Ge (x.2.1:Nat)=0\/Ge (x.2.1:Nat)=1)/\(∀x∈formsG,Sa x.1 true=false->Ge (x.2.1:Nat)=0\/Ge (x.2.1:Nat)=2):=by decide
def plQ(pl:Bool):Nat:=if pl then 2 else 1
def Ws{tx:By}(hm:tx.length<=3000){n:Nat}(hn:n<=1000000){pl:Bool}{s:QS}(h:(Cm (qcR tx) n pl s).2.bad=false):s.bad=false/\GT n (plQ pl) 3001 (Cm (qcR tx) n pl s).1:=by
 have hg:=goodP tx hm;obtain⟨hL,ht,he⟩:=qc_L tx;have tk:∀k,(qcR tx).tk k=(Ce tx).1.getD k tk0:=fun k=>by unfold QC.tk;rw[hL];rfl
 unfold Cm at h |-;split at h;rotate_left
 ·rw[Vc] at h;cases h
 rename_i h0;rw[if_pos h0];split at h
 ·rw[Vc] at h;cases h
 rename_i h1;rw[if_neg h1];refine⟨h0.1,?_⟩;cases hz:Hu (((qcR tx).tx.drop ((qcR tx).tk s.k).p).take (Ep (qcR tx) s.k-((qcR tx).tk s.k).p)) (Gn n) 0 0 with
 |mk t o=>
  rw[hz] at h;cases o with
  |some p=>dsimp only at h;rw[Alv] at h;cases h
  |none=>
   dsimp only;cases hq:Ig (qcR tx) s.k with
   |none=>
    obtain⟨t2,p,Zi⟩:=hg.z s.k (Gn n) h0.2 hq;have hE:Ep (qcR tx) s.k=(qcR tx).tx.length:=by unfold Ep;rw[hq]
    rw[hE,Zi] at hz;cases hz
   |some q=>
    obtain⟨q1,q2,q3⟩:=hg.cl s.k q h0.2 hq;have hE:Ep (qcR tx) s.k=((qcR tx).tk (q-1)).p+((qcR tx).tk (q-1)).w.length:=by unfold Ep;rw[hq]
    have hk:=h0.2;rw[hE,ht,tk,tk] at hz;rw[hL] at q2 hk h1;have hp:=Ayc q1 q2;obtain⟨g1,_,g3,s',g4,g5⟩:=Al6 hz;have Bl:((tx.drop ((Ce tx).1.getD s.k tk0).p).take (((Ce tx).1.getD (q-1) tk0).p+((Ce tx).1.getD (q-1) tk0).w.length-((Ce tx).1.getD s.k tk0).p)).length<=3000:=by
     rw[q_kg,q_kh];omega
    obtain⟨r1,r2,r3,r4⟩:=g3 (by rw[Afh];omega);rw[Afh] at r2;refine⟨?_,r2,r3,by omega⟩;have hrc:=(rc_L ((tx.drop ((Ce tx).1.getD s.k tk0).p).take (((Ce tx).1.getD (q-1) tk0).p+((Ce tx).1.getD (q-1) tk0).w.length-((Ce tx).1.getD s.k tk0).p)) 0 0).1;rw[hp] at hrc;dsimp only at hrc;have tok:∀x,s.k+x<q->((rcR ((tx.drop ((Ce tx).1.getD s.k tk0).p).take (((Ce tx).1.getD (q-1) tk0).p+((Ce tx).1.getD (q-1) tk0).w.length-((Ce tx).1.getD s.k tk0).p)) 0 0).tk x)=((Ce tx).1.getD (s.k+x) tk0).back ((Ce tx).1.getD s.k tk0).p:=fun x hx=>by
     show (rcR _ 0 0).L.getD x tk0=_;rw[hrc];simp only[q_j,q_ji];rw[List.getElem?_take_of_lt (by omega),q_kk,q_f (show s.k+x<(Ce tx).1.length by omega)];rfl
    have hcl:(rcR ((tx.drop ((Ce tx).1.getD s.k tk0).p).take (((Ce tx).1.getD (q-1) tk0).p+((Ce tx).1.getD (q-1) tk0).w.length-((Ce tx).1.getD s.k tk0).p)) 0 0).L.length=q-s.k:=by
     rw[hrc,q_g,q_kg,q_kh];omega
    rcases A2a g4 g5 with⟨m,rfl⟩|⟨a1,a2,a3,gk,sh,a,b,m,l,a4,rfl⟩
    ·exact Afs r1 (.inl rfl)
    ·rw[hcl] at a2;rw[tok 0 (by omega)] at a1;rw[tok 1 (by omega)] at a3 a4;have ho:Sa ((Ce tx).1.getD (s.k+1) tk0).w pl=false:=by
      rw[tk,tk] at h1;cases ho:Sa ((Ce tx).1.getD (s.k+1) tk0).w pl with
      |false=>rfl
      |true=>exact absurd ⟨a1,by omega,a3,ho⟩ h1
     refine Afs r1 ?_;cases pl with
     |false=>exact other_forms.1 _ a4 ho
     |true=>exact other_forms.2 _ a4 ho
def EnOK(es:List (Tm×Nat)):Prop:=∀k,k<es.length->(es.getD k (zR,0)).2<=1000/\GT k 1 3001 (es.getD k (zR,0)).1
def EnOK.put{es:List (Tm×Nat)}(h:EnOK es){t:Tm}{i:Nat}(ht:GT es.length 1 3001 t)(hi:i<=1000):EnOK (es++[(t,i)]):=by
 intro k hk;rw[q_jr,List.length_singleton] at hk
 by_cases h2:k<es.length
 ·have:=h k h2;simp only[q_j,q_jf h2] at this |-;exact this
 ·obtain rfl:k=es.length:=by omega
  simp only[q_j,List.getElem?_concat_length,q_jz];exact⟨hi,ht⟩
def Aru{tx:By}(hm:tx.length<=3000):∀(f:Nat) (es:List (Tm×Nat)) (s:QS),es.length+f<=4000->EnOK es->(Gp (qcR tx) f es s).2.bad=false->s.bad=false/\EnOK (Gp (qcR tx) f es s).1/\(Gp (qcR tx) f es s).1.length<=4000:=by
 intro f
 induction f with
 |zero=>intro es s hl hE h;exact⟨h,hE,hl⟩
 |succ f ih=>
  intro es s hl hE h;rw[Gp] at h |-
  by_cases hc:s.bad=false/\isQ (qcR tx) s 2=false
  ·rw[if_pos hc] at h |-;have hb:(Cm (qcR tx) es.length false (Ed (qcR tx) s).2).2.bad=false:=by
    cases hb:(Cm (qcR tx) es.length false (Ed (qcR tx) s).2).2.bad with
    |false=>rfl
    |true=>
     exfalso;cases f with
     |zero=>rw[Gp] at h;rw[hb] at h;cases h
     |succ f=>rw[Gp,if_neg (fun k=>by rw[hb] at k;cases k.1)] at h;rw[hb] at h;cases h
   obtain⟨t1,t2⟩:=Ws hm (by omega) hb;obtain⟨l1,l2⟩:=Ae2 t1;have:=ih _ _ (by rw[q_jr,List.length_singleton];omega) (hE.put t2 l2) h;exact⟨l1,this.2⟩
  ·rw[if_neg hc] at h |-;exact⟨h,hE,by dsimp only;omega⟩
end
structure XOK(x:XQ):Prop where
 c:EnOK x.ctx
 n:x.ctx.length<=4000
 i:x.i<=1000
 a:GT x.ctx.length 1 3001 x.a
 u:GT x.ctx.length 1 3001 x.u
 q:x.eq=true->GT x.ctx.length 1 3001 x.b/\GT x.ctx.length 1 3001 x.v/\GT x.ctx.length 2 3001 x.h
def Aom{tx:By}(hm:tx.length<=3000){s:QS}(h:(Nj (qcR tx) s).2.bad=false):XOK (Nj (qcR tx) s).1:=by
 have Bl:(qcR tx).L.length<=3000:=by have:=(goodP tx hm).l;rw[(qc_L tx).2.1] at this;omega
 have Vk:=fun s=>Aru hm ((qcR tx).L.length+1) [] s (by rw[List.length_nil];omega) (fun k hk=>absurd hk (q_kq _))
 unfold Nj at h |-;dsimp only at h |-;generalize (Co (qcR tx) (Rm (qcR tx) s).2 1).2=s1 at h |-;have Vk:=Vk s1;generalize Gp (qcR tx) ((qcR tx).L.length+1) [] s1=e at h Vk |-;obtain⟨es,s2⟩:=e;dsimp only at h Vk |-;have back:(Cm (qcR tx) es.length false (Cm (qcR tx) es.length false (Ed (qcR tx) (Co (qcR tx) s2 2).2).2).2).2.bad=false->EnOK es/\es.length<=4000/\(Ed (qcR tx) (Co (qcR tx) s2 2).2).1<=1000 /\
   GT es.length 1 3001 (Cm (qcR tx) es.length false (Ed (qcR tx) (Co (qcR tx) s2 2).2).2).1/\GT es.length 1 3001 (Cm (qcR tx) es.length false (Cm (qcR tx) es.length false (Ed (qcR tx) (Co (qcR tx) s2 2).2).2).2).1:=fun hb=>by
  have Lv:es.length<=1000000:=by
   by_cases h0:s2.bad=false
   ·have:=(Vk h0).2.2;omega
   ·exfalso;have q:∀n,(Cm (qcR tx) n false (Cm (qcR tx) n false (Ed (qcR tx) (Co (qcR tx) s2 2).2).2).2).2.bad=false->s2.bad=false:=fun n hb=>by
     have tb:∀(s:QS),(Cm (qcR tx) n false s).2.bad=false->s.bad=false:=fun s hs=>by
      unfold Cm at hs;split at hs
      ·rename_i k;exact k.1
      ·rw[Vc] at hs;cases hs
     exact Abr (Ae2 (tb _ (tb _ hb))).1
    exact h0 (q _ hb)
  obtain⟨t1,t2⟩:=Ws hm Lv hb;obtain⟨t3,t4⟩:=Ws hm Lv t1;obtain⟨l1,l2⟩:=Ae2 t3;obtain⟨c1,c2,c3⟩:=Vk (Abr l1);exact⟨c2,c3,l2,t4,t2⟩
 split at h
 ·rename_i hd;rw[if_pos hd];obtain⟨g1,g2,g3,g4,g5⟩:=back h;exact⟨g1,g2,g3,g5,g4,fun hq=>by cases hq⟩
 ·rename_i hd;rw[if_neg hd];have tb:∀(s:QS) (n:Nat) (pl:Bool),(Cm (qcR tx) n pl s).2.bad=false->s.bad=false:=fun s n pl hs=>by
   unfold Cm at hs;split at hs
   ·rename_i k;exact k.1
   ·rw[Vc] at hs;cases hs
  have h4:=tb _ _ _ h;have h3:=tb _ _ _ h4;have h2:=tb _ _ _ h3;obtain⟨g1,g2,g3,g4,g5⟩:=back h2;have Lv:es.length<=1000000:=by omega
  exact⟨g1,g2,g3,g4,g5,fun _=>⟨(Ws hm Lv h3).2,(Ws hm Lv h4).2,(Ws hm Lv h).2⟩⟩
def A1s{tx:By}(hm:tx.length<=3000){x:XQ}(h:Zu tx=(x,none)):XOK x:=by
 unfold Zu at h;dsimp only at h;have h5:=congrArg Prod.snd h;have h6:=congrArg Prod.fst h;dsimp only at h5 h6;subst h6;refine Aom hm ?_;generalize Nj (qcR tx) (Co (qcR tx) ⟨0,false,0⟩ 1).2=b at h5 |-;refine Abr (c:=qcR tx) (kd:=2) ?_;generalize (Co (qcR tx) b.2 2).2=s at h5 |-;cases hb:s.bad with
 |false=>rfl
 |true=>
  have e:(if s.bad=false/\(s.k<(qcR tx).L.length\/(Ce tx).2.isSome=true) then Ey (qcR tx) s s.k else s)=s:=if_neg (fun k=>by rw[hb] at k;cases k.1);rw[e,if_pos hb] at h5;cases h5
open Go Go.Proofs Go.Proofs.YtgfehkhcmnfpaaaGreatDoor
def af13:AF:=⟨50,[(.t 0)],(Ad [oP 0 (.mv (cB false))] (Ad [oP 5 (.call 37 [(cI 0)]),oP 6 (.call 37 [(cI 1)]),oP 7 (.build [.nils,(.bool false),(iS 0),(iS 0),(iS 0),(iS 0),(iS 0),.nils,(iS 0),(iS 0),(iS 0),(iS 0),.nils,(iS 0),(iS 0),(iS 0),(iS 0),.nils,(iS 0),(iS 0),(iS 0),(iS 0),.nils,(iS 0),(iS 0),(iS 0),(iS 0),.nils] [(2,(1,(cI 2))),(8,(5,(.t 5))),(3,(5,(.t 6)))]),oP 1 (.new [.nils,(.bool false),(iS 0),(iS 0),(iS 0),(iS 0),(iS 0),.nils,(iS 0),(iS 0),(iS 0),(iS 0),.nils,(iS 0),(iS 0),(iS 0),(iS 0),.nils,(iS 0),(iS 0),(iS 0),(iS 0),.nils,(iS 0),(iS 0),(iS 0),(iS 0),.nils]),oN (Bn 28 1 7)] (Ad [oP 9 (.call 14 [(Ap [40,116,101,114,109,32,40,41,32,50,32,40,115,111,114,116,32,48,41,32,40,115,111,114,116,32,49,41,41,32,59,32,110,111,116,101])]),Ac 8 9,oP 10 (.ext (.t 8) 0),oP 11 (.ext (.t 8) 1),oP 12 (.ext (.t 8) 2),oP 2 (.new [.nils,(.bool false),(iS 0),(iS 0),(iS 0),(iS 0),(iS 0),.nils,(iS 0),(iS 0),(iS 0),(iS 0),.nils,(iS 0),(iS 0),(iS 0),(iS 0),.nils,(iS 0),(iS 0),(iS 0),(iS 0),.nils,(iS 0),(iS 0),(iS 0),(iS 0),.nils]),oN (Bn 28 2 10),Ac 3 11,Ac 4 12] (Ad [oP 13 (Ao 28 1),oP 14 (.call 8 [(.t 13)]),Ac 15 14,oG 16 15 true 0 (Ao 28 1),oG 17 15 true 0 (.call 11 [(.t 16)]),oG 18 15 true 0 (.bin 4 .eql (.t 17) (Ap [40,116,101,114,109,32,40,41,32,50,32,40,115,111,114,116,32,48,41,32,40,115,111,114,116,32,49,41,41,10])),oP 19 (Bv 15 18),Ac 20 19,oG 21 20 true 0 (mT 3),oG 22 20 true 0 (Al 21 0),oP 23 (Bv 20 22),Ac 24 23,oG 25 24 true 0 (mT 4),oG 26 24 true 0 (Al 25 0),oP 27 (Bv 24 26),Ac 28 27,oG 29 28 true 0 (Af 2 2),oG 30 28 true 0 (Ag 29),oG 31 28 true 0 (Al 30 2),oP 32 (Bv 28 31),Ac 33 32,oG 34 33 true 0 (Af 8 2),oG 35 33 true 0 (Af 0 34),oG 36 33 true 0 (Ag 35),oG 37 33 true 0 (Al 36 1),oP 38 (Bv 33 37),Ac 39 38,oG 40 39 true 0 (Af 3 2),oG 41 39 true 0 (Af 1 40),oG 42 39 true 0 (Ag 41),oG 43 39 true 0 (Al 42 1),oP 44 (Bv 39 43),Ac 45 44,oG 46 45 true 0 (Ao 28 1),oG 47 45 true 0 (.call 38 [(.t 46),(.c (.float .f64 4621256167635550208))]),oG 48 45 true 0 (Al 47 0),oP 49 (Bv 45 48),Ac 0 49] .ret))))⟩
def tr13:trF Tryz.prog Tryz.f13=some af13:=by kernel_rfl
attribute [go_sem] af13
def af37:AF:=⟨5,[(.cell 2 true 5)],(Ad [oP 2 Fe] (Ad [Ac 3 0,oP 4 (Iq [(0,(1,(cI 1))),(1,(1,(.t 3)))]),oN (Bn 5 2 4)] .ret))⟩
def tr37:trF Tryz.prog Tryz.f37=some af37:=by kernel_rfl
attribute [go_sem] af37
def af8:AF:=⟨99,[(.t 2)],(Ad [oP 1 (.box (.t 0)),oP 2 (.mv (cB false))] (Ad [oP 5 (Af 0 1),oP 6 (Ag 5),oP 7 (.len false (.t 6)),Ac 3 7] (.seq (Ad [oP 8 (Af 0 1),oP 9 (Ag 8),oP 10 (.call 19 [(.t 9)]),oP 11 (.un .not (.t 10)),Ac 12 11,oG 13 12 false 0 (Af 2 1),oG 14 12 false 0 (Ag 13),oG 15 12 false 0 (Bi .lss 14 0),oP 16 (Cx 12 15),Ac 17 16,oG 18 17 false 0 (Af 2 1),oG 19 17 false 0 (Ag 18),oG 20 17 false 0 (Bi .gtr 19 1000),oP 21 (Cx 17 20),Ac 22 21,oG 23 22 false 0 (Af 3 1),oG 24 22 false 0 (Ao 5 23),oG 25 22 false 0 (.call 20 [(.t 24)]),oG 26 22 false 0 (.un .not (.t 25)),oP 27 (Cx 22 26),Ac 28 27,oG 29 28 false 0 (Af 8 1),oG 30 28 false 0 (Ao 5 29),oG 31 28 false 0 (.call 20 [(.t 30)]),oG 32 28 false 0 (.un .not (.t 31)),oP 33 (Cx 28 32),Ac 34 33,oG 35 34 false 0 (Af 3 1),oG 36 34 false 0 (Ao 5 35),oG 37 34 false 0 (mT 3),oG 38 34 false 0 (.call 21 [(.t 36),(.t 37)]),oG 39 34 false 0 (.un .not (.t 38)),oP 40 (Cx 34 39),Ac 41 40,oG 42 41 false 0 (Af 8 1),oG 43 41 false 0 (Ao 5 42),oG 44 41 false 0 (mT 3),oG 45 41 false 0 (.call 21 [(.t 43),(.t 44)]),oG 46 41 false 0 (.un .not (.t 45)),oP 47 (Cx 41 46)] (Ak 47 (Ad [oP 2 (.mv (cB false))] .ret) .skip)) (.seq (Ad [oP 48 (Af 1 1),oP 49 (Ag 48),oP 50 (.un .not (.t 49))] (Ak 50 (Ad [oP 51 (Iq []),oP 4 Fe,oN (Bn 5 4 51)] (Ad [oP 52 (Af 13 1),oP 53 (Ao 5 52),oP 54 (Ao 5 4),oP 55 (.call 22 [(.t 53),(.t 54)]),Ac 56 55,oG 57 56 true 0 (Af 18 1),oG 58 56 true 0 (Ao 5 57),oG 59 56 true 0 (Ao 5 4),oG 60 56 true 0 (.call 22 [(.t 58),(.t 59)]),oP 61 (Bv 56 60),Ac 62 61,oG 63 62 true 0 (Af 23 1),oG 64 62 true 0 (Ao 5 63),oG 65 62 true 0 (Ao 5 4),oG 66 62 true 0 (.call 22 [(.t 64),(.t 65)]),oP 67 (Bv 62 66),Ac 2 67] .ret)) .skip)) (Ad [oP 68 (Af 13 1),oP 69 (Ao 5 68),oP 70 (.call 20 [(.t 69)]),Ac 71 70,oG 72 71 true 0 (Af 18 1),oG 73 71 true 0 (Ao 5 72),oG 74 71 true 0 (.call 20 [(.t 73)]),oP 75 (Bv 71 74),Ac 76 75,oG 77 76 true 0 (Af 23 1),oG 78 76 true 0 (Ao 5 77),oG 79 76 true 0 (.call 23 [(.t 78)]),oP 80 (Bv 76 79),Ac 81 80,oG 82 81 true 0 (Af 13 1),oG 83 81 true 0 (Ao 5 82),oG 84 81 true 0 (mT 3),oG 85 81 true 0 (.call 21 [(.t 83),(.t 84)]),oP 86 (Bv 81 85),Ac 87 86,oG 88 87 true 0 (Af 18 1),oG 89 87 true 0 (Ao 5 88),oG 90 87 true 0 (mT 3),oG 91 87 true 0 (.call 21 [(.t 89),(.t 90)]),oP 92 (Bv 87 91),Ac 93 92,oG 94 93 true 0 (Af 23 1),oG 95 93 true 0 (Ao 5 94),oG 96 93 true 0 (mT 3),oG 97 93 true 0 (.call 21 [(.t 95),(.t 96)]),oP 98 (Bv 93 97),Ac 2 98] .ret)))))⟩
def tr8:trF Tryz.prog Tryz.f8=some af8:=by kernel_rfl
attribute [go_sem] af8
def af21:AF:=⟨9,[(.t 4)],(Ad [oP 2 (.box (.t 0)),oP 4 (.mv (cB false))] (Ad [oP 5 (Ao 5 2),oP 6 (.call 55 [(.t 5)]),Ac 7 1,oP 8 (Bu .leq 6 7),Ac 4 8] .ret))⟩
def tr21:trF Tryz.prog Tryz.f21=some af21:=by kernel_rfl
attribute [go_sem] af21
def af19:AF:=⟨34,[(.t 2)],(Ad [oP 2 (.mv (cB false))] (.seq (Ad [Ac 5 0,oP 6 (.len false (.t 5)),oP 7 (.mv (cI 0))] (.blk 0 (.loop (Ad [oP 8 (Bu .lss 7 6)] (.seq (Em 8 0) (.seq (.blk 1 (Ad [Ac 9 7,oP 10 (.iad 6 (.t 5) (.t 7)),oP 11 (Ao 6 10),oP 4 (.new [(iS 0),(iS 0),(iS 0),(iS 0),.nils,(iS 0)]),Ac 3 9,oN (Bn 6 4 11)] (Ad [oP 12 (Af 5 4),oP 13 (Ag 12),oP 14 (Bi .lss 13 0),Ac 15 14,oG 16 15 false 0 (Af 5 4),oG 17 15 false 0 (Ag 16),oG 18 15 false 0 (Bi .gtr 17 1000),oP 19 (Cx 15 18),Ac 20 19,oG 21 20 false 0 (Af 0 4),oG 22 20 false 0 (Ao 5 21),oG 23 20 false 0 (.call 20 [(.t 22)]),oG 24 20 false 0 (.un .not (.t 23)),oP 25 (Cx 20 24),Ac 26 25,oG 27 26 false 0 (Af 0 4),oG 28 26 false 0 (Ao 5 27),oG 29 26 false 0 (.call 55 [(.t 28)]),oG 30 26 false 0 (mT 3),oG 31 26 false 0 (Bu .gtr 29 30),oP 32 (Cx 26 31)] (Ak 32 (Ad [oP 2 (.mv (cB false))] .ret) .skip)))) (Bo [oP 33 (Bi .add 7 1),Ac 7 33]))))))) (Ad [oP 2 (.mv (cB true))] .ret)))⟩
def tr19:trF Tryz.prog Tryz.f19=some af19:=by kernel_rfl
attribute [go_sem] af19
def af38:AF:=⟨95,[(.t 4)],(Ad [oP 2 (.box (.t 0)),oP 4 (.mv (cI 0))] (.seq (Ad [oP 11 (Ao 28 2),oP 12 (.call 8 [(.t 11)]),oP 13 (.un .not (.t 12))] (Ak 13 (Ad [oP 4 (.mv (cI 1))] .ret) .skip)) (.seq (Ad [oP 14 (Af 0 2),oP 15 (Ag 14),Ac 16 1,oP 17 (.call 67 [(.t 15),(.t 16)]),Ac 5 17] (Ad [Ac 18 5,oP 19 (Bi .neq 18 0)] (Ak 19 (Ad [Ac 20 5,Ac 4 20] .ret) .skip))) (.seq (Ad [oP 21 (Af 0 2),oP 22 (Ag 21),oP 23 (Af 8 2),oP 24 (Ao 5 23),oP 25 (Af 3 2),oP 26 (Ao 5 25),oP 27 (Af 2 2),oP 28 (Ag 27),Ac 29 1,oP 30 (.call 68 [(.t 22),(.t 24),(.t 26),(.t 28),(.t 29)]),Ac 6 30] (Ad [Ac 31 6,oP 32 (Bi .neq 31 0)] (Ak 32 (Ad [Ac 33 6,Ac 4 33] .ret) .skip))) (.seq (Ad [oP 34 (Af 1 2),oP 35 (Ag 34)] (Ak 35 (Ad [oP 36 (Af 0 2),oP 37 (Ag 36),oP 38 (Af 18 2),oP 39 (Ao 5 38),oP 40 (Af 13 2),oP 41 (Ao 5 40),oP 42 (Af 2 2),oP 43 (Ag 42),Ac 44 1,oP 45 (.call 68 [(.t 37),(.t 39),(.t 41),(.t 43),(.t 44)]),Ac 7 45] (Ad [Ac 46 7,oP 47 (Bi .neq 46 0)] (Ak 47 (Ad [Ac 48 7,Ac 4 48] .ret) .skip))) .skip)) (Ad [oP 49 (Af 0 2),oP 50 (Ag 49),oP 51 (.call 69 [(.t 50)]),Ac 8 51] (.seq (Ad [Ac 52 8,Ac 53 1,oP 54 (.call 70 [(.t 52),(.t 53)]),Ac 9 54] (Ad [Ac 55 9,oP 56 (Bi .neq 55 0)] (Ak 56 (Ad [Ac 57 9,oP 58 (.call 71 [(.t 57)]),Ac 4 58] .ret) .skip))) (.seq (Ad [oP 59 (Af 1 2),oP 60 (Ag 59),oP 61 (.un .not (.t 60))] (Ak 61 (Cs [Ac 62 8,oI 63 1 (Af 8 2),oI 64 2 (Ao 5 63),⟨(some 65),(.call 73 [(.t 64)]),none,3,true,[]⟩,oI 66 4 (Af 3 2),⟨(some 67),(Ao 5 66),none,5,false,[3]⟩,oI 68 6 (.call 73 [(.t 67)]),oI 69 7 (mT 1),oI 70 8 (.call 72 [(.t 62),(.t 65),(.t 68),(.t 69)]),oI 71 9 (.call 71 [(.t 70)]),oI 4 10 (mT 71)] .ret) .skip)) (Cs [oP 72 (Af 2 2),⟨(some 73),(Ag 72),none,1,true,[]⟩,oI 74 2 (Af 3 2),⟨(some 75),(Ao 5 74),none,3,true,[]⟩,⟨(some 76),(.call 73 [(.t 75)]),none,4,true,[1]⟩,oI 77 5 (Af 13 2),⟨(some 78),(Ao 5 77),none,6,true,[4]⟩,⟨(some 79),(.call 73 [(.t 78)]),none,7,true,[1]⟩,oI 80 8 (Af 8 2),⟨(some 81),(Ao 5 80),none,9,true,[4,7]⟩,⟨(some 82),(.call 73 [(.t 81)]),none,10,true,[1]⟩,oI 83 11 (Af 18 2),⟨(some 84),(Ao 5 83),none,12,true,[4,7,10]⟩,⟨(some 85),(.call 73 [(.t 84)]),none,13,true,[1]⟩,⟨(some 86),(.bslice 5 [(.t 76),(.t 79),(.t 82),(.t 85)]),none,14,true,[1]⟩,⟨(some 87),(.call 74 [(cI 23),(.t 73),(cI 0),(cI 6),(.t 86)]),none,15,true,[]⟩,⟨(some 10),Fe,none,16,false,[1,3,4,6,7,9,10,12,13,14,15]⟩,oJ 17 (Bn 5 10 87)] (Ad [Ac 88 8,oP 89 (Af 23 2),oP 90 (Ao 5 89),oP 91 (Ao 5 10),Ac 92 1,oP 93 (.call 72 [(.t 88),(.t 90),(.t 91),(.t 92)]),oP 94 (.call 71 [(.t 93)]),Ac 4 94] .ret))))))))))⟩
def tr38:trF Tryz.prog Tryz.f38=some af38:=by kernel_rfl
attribute [go_sem] af38
def af68:AF:=⟨45,[(.t 10)],(Ad [oP 6 (.box (.t 1)),oP 7 (.box (.t 2)),oP 10 (.mv (cI 0))] (Ad [Ac 16 0,oP 17 (Ao 5 6),Ac 18 4,oP 19 (.call 106 [(.t 16),(.t 17),(.t 18)]),Ac 15 19,oP 20 (.ext (.t 15) 0),oP 21 (.ext (.t 15) 1),oP 22 (.ext (.t 15) 2),oP 11 Fe,oN (Bn 5 11 20),Ac 12 21,Ac 13 22] (.seq (Ad [Ac 23 13,oP 24 (Bi .neq 23 0)] (Ak 24 (Ad [Ac 25 13,Ac 10 25] .ret) .skip)) (.seq (Ad [Ac 26 12,Ac 27 3,oP 28 (Bu .neq 26 27)] (Ak 28 (Ad [oP 10 (.mv (cI 5))] .ret) .skip)) (.seq (.cut (.reg [oP 30 (Ao 5 11),⟨(some 31),(.call 73 [(.t 30)]),none,1,true,[]⟩,⟨(some 32),(Ao 5 7),none,2,false,[1]⟩,oI 33 3 (.call 73 [(.t 32)]),oI 34 4 (mT 4)] true) (.cut (Bo [⟨(some 35),(.hcall 107 [(.t 31),(.t 33),(.t 34)]),none,5,false,[5]⟩]) (.reg [oI 29 6 (mT 35),oI 36 7 (.ext (.t 29) 0),oI 37 8 (.ext (.t 29) 1),oI 14 9 (mT 36),oI 13 10 (mT 37)] true))) (.seq (Ad [Ac 38 13,oP 39 (Al 38 0),Ac 40 39,oG 41 40 true 0 (mT 14),oG 42 40 true 0 (.un .not (.t 41)),oP 43 (Bv 40 42)] (Ak 43 (Ad [oP 10 (.mv (cI 5))] .ret) .skip)) (Ad [Ac 44 13,Ac 10 44] .ret)))))))⟩
def tr68:trF Tryz.prog Tryz.f68=some af68:=by kernel_rfl
attribute [go_sem] af68
def af71:AF:=⟨6,[(.t 2)],(Ad [oP 2 (.mv (cI 0))] (.seq (Ad [Ac 3 0,oP 4 (Al 3 1)] (Ak 4 (Ad [oP 2 (.mv (cI 5))] .ret) .skip)) (Ad [Ac 5 0,Ac 2 5] .ret)))⟩
def tr71:trF Tryz.prog Tryz.f71=some af71:=by kernel_rfl
attribute [go_sem] af71
def af69:AF:=⟨26,[(.t 2)],(Ad [oP 2 (.mv (.c .nils))] (.seq (Ad [Ac 6 0,oP 7 (.call 19 [(.t 6)]),oP 8 (.un .not (.t 7))] (Ak 8 (Ad [oP 2 (.mv (.c .nils))] .ret) .skip)) (Ad [Ac 9 0,oP 10 (.len false (.t 9)),oP 11 (.mk 5 56 [(iS 0),(iS 0),(iS 0),(iS 0),.nils] (cI 0) (.t 10)),Ac 3 11] (.seq (Ad [Ac 12 0,oP 13 (.len false (.t 12)),oP 14 (.mv (cI 0))] (.blk 0 (.loop (Ad [oP 15 (Bu .lss 14 13)] (.seq (Em 15 0) (.seq (.blk 1 (Ad [oP 16 (.iad 6 (.t 12) (.t 14)),oP 17 (Ao 6 16),oP 5 (.new [(iS 0),(iS 0),(iS 0),(iS 0),.nils,(iS 0)]),oN (Bn 6 5 17)] (Bo [Ac 18 3,oP 19 (Af 0 5),oP 20 (Ao 5 19),oP 21 (.call 73 [(.t 20)]),oP 22 (.bslice 5 [(.t 21)]),oP 23 (.app 5 56 (.t 18) (.t 22)),Ac 3 23]))) (Bo [oP 24 (Bi .add 14 1),Ac 14 24]))))))) (Ad [Ac 25 3,Ac 2 25] .ret)))))⟩
def tr69:trF Tryz.prog Tryz.f69=some af69:=by kernel_rfl
attribute [go_sem] af69
def af73:AF:=⟨9,[(.cell 2 true 5)],(Ad [oP 1 (.box (.t 0)),oP 2 Fe] (.seq (Ad [oP 3 (Ao 5 1),oP 4 (.call 64 [(.t 3)]),oP 5 (.un .not (.t 4))] (Ak 5 (Ad [oP 6 (Iq []),oN (Bn 5 2 6)] .ret) .skip)) (Ad [oP 7 (Ao 5 1),oP 8 (.call 119 [(.t 7)]),oN (Bn 5 2 8)] .ret)))⟩
def tr73:trF Tryz.prog Tryz.f73=some af73:=by kernel_rfl
attribute [go_sem] af73
def af119:AF:=⟨94,[(.cell 2 true 5)],(Ad [oP 1 (.box (.t 0)),oP 2 Fe] (Ad [oP 3 (.mv (cI 0)),oP 4 (.mv (cI 0))] (.seq (Ad [oP 8 (Af 0 1),oP 9 (Ag 8)] (.blk 0 (Ad [oP 13 (Al 9 3),Ac 12 13] (Ak 12 (Bo [oP 3 (.mv (cI 13))]) (Ad [oP 15 (Al 9 4),Ac 14 15] (Ak 14 (Cs [oP 16 (Af 4 1),oI 17 1 (Ag 16),oI 18 2 (.iad 5 (.t 17) (cI 0)),oI 19 3 (Ao 5 18),⟨(some 20),(.call 119 [(.t 19)]),none,4,true,[]⟩,oI 21 5 (Af 4 1),⟨(some 22),(Ag 21),none,6,false,[4]⟩,⟨(some 23),(.iad 5 (.t 22) (cI 2)),none,7,false,[4]⟩,⟨(some 24),(Ao 5 23),none,8,false,[4]⟩,oI 25 9 (.call 119 [(.t 24)]),oI 26 10 (.bslice 5 [(.t 20),(.t 25)]),oI 27 11 (.call 74 [(cI 14),(cI 0),(cI 0),(cI 0),(.t 26)]),oJ 12 (Bn 5 2 27)] .ret) (Ad [oP 29 (Al 9 5),Ac 28 29] (Ak 28 (Bo [oP 3 (.mv (cI 15)),oP 4 (.mv (cI 2))]) (Ad [oP 31 (Al 9 6),Ac 30 31] (Ak 30 (Bo [oP 3 (.mv (cI 16))]) (Ad [oP 33 (Al 9 7),Ac 32 33] (Ak 32 (Bo [oP 3 (.mv (cI 17))]) (Ad [oP 35 (Al 9 8),Ac 34 35] (Ak 34 (Bo [oP 3 (.mv (cI 18)),oP 4 (.mv (cI 2))]) (Ad [oP 37 (Al 9 9),Ac 36 37] (Ak 36 (Bo [oP 3 (.mv (cI 19)),oP 4 (.mv (cI 2))]) (Ad [oP 39 (Al 9 10),Ac 38 39] (Ak 38 (Bo [oP 3 (.mv (cI 20))]) (Ad [oP 41 (Al 9 11),Ac 40 41] (Ak 40 (Bo [oP 3 (.mv (cI 21))]) (Ad [oP 43 (Al 9 12),Ac 42 43] (Ak 42 (Cs [oP 44 (Af 1 1),⟨(some 45),(Ag 44),none,1,true,[]⟩,oI 46 2 (Af 4 1),oI 47 3 (Ag 46),oI 48 4 (.iad 5 (.t 47) (cI 0)),oI 49 5 (Ao 5 48),⟨(some 50),(.call 119 [(.t 49)]),none,6,true,[1]⟩,oI 51 7 (Af 4 1),⟨(some 52),(Ag 51),none,8,false,[6]⟩,⟨(some 53),(.iad 5 (.t 52) (cI 1)),none,9,false,[6]⟩,⟨(some 54),(Ao 5 53),none,10,false,[6]⟩,⟨(some 55),(.call 119 [(.t 54)]),none,11,true,[1]⟩,oI 56 12 (Af 4 1),⟨(some 57),(Ag 56),none,13,false,[6,11]⟩,⟨(some 58),(.iad 5 (.t 57) (cI 2)),none,14,false,[6,11]⟩,⟨(some 59),(Ao 5 58),none,15,false,[6,11]⟩,⟨(some 60),(.call 141 [(.t 59)]),none,16,true,[1]⟩,oI 61 17 (Af 4 1),⟨(some 62),(Ag 61),none,18,false,[6,11,16]⟩,⟨(some 63),(.iad 5 (.t 62) (cI 3)),none,19,false,[6,11,16]⟩,⟨(some 64),(Ao 5 63),none,20,false,[6,11,16]⟩,⟨(some 65),(.call 119 [(.t 64)]),none,21,false,[1]⟩,⟨(some 66),(.bslice 5 [(.t 50),(.t 55),(.t 60),(.t 65)]),none,22,false,[1]⟩,oI 67 23 (.call 74 [(cI 23),(.t 45),(cI 0),(cI 5),(.t 66)]),oJ 24 (Bn 5 2 67)] .ret) (Ad [oP 10 (Ao 5 1),oP 11 (.call 141 [(.t 10)]),oN (Bn 5 2 11)] .ret))))))))))))))))))))))) (Ad [Ac 68 3,oP 69 (Af 4 1),oP 70 (Ag 69),oP 71 (.len false (.t 70)),Ac 72 4,oP 73 (Bu .sub 71 72),oP 74 (.mk 5 56 [(iS 0),(iS 0),(iS 0),(iS 0),.nils] (cI 0) (.t 73)),oP 75 (Iq [(0,(1,(.t 68))),(4,(1,(.t 74)))]),oP 5 Fe,oN (Bn 5 5 75)] (.seq (Ad [oP 76 (Af 4 1),oP 77 (Ag 76),Ac 78 4,oP 79 (.slc 5 (.t 77) (some (.t 78)) none),oP 80 (.len false (.t 79)),oP 81 (.mv (cI 0))] (.blk 1 (.loop (Ad [oP 82 (Bu .lss 81 80)] (.seq (Em 82 1) (.seq (.blk 2 (Ad [oP 83 (.iad 5 (.t 79) (.t 81)),oP 84 (Ao 5 83),oP 7 Fe,oN (Bn 5 7 84)] (.reg [oP 85 (Af 4 5),⟨(some 86),(Ag 85),none,1,true,[]⟩,oI 87 2 (Ao 5 7),⟨(some 88),(.call 119 [(.t 87)]),none,3,false,[1]⟩,⟨(some 89),(.bslice 5 [(.t 88)]),none,4,false,[1]⟩,oI 90 5 (.app 5 56 (.t 86) (.t 89)),oI 91 6 (Af 4 5),oJ 7 (Bn 1 91 90)] true))) (Bo [oP 92 (Bi .add 81 1),Ac 81 92]))))))) (Ad [oP 93 (Ao 5 5),oN (Bn 5 2 93)] .ret))))))⟩
def tr119:trF Tryz.prog Tryz.f119=some af119:=by kernel_rfl
attribute [go_sem] af119
def af136:AF:=⟨229,[(.cell 6 true 5),(.t 7)],(Ad [oP 5 (.box (.t 2)),oP 6 Fe,oP 7 (.mv (cI 0))] (Ad [oP 12 (Af 1 5),oP 13 (Ag 12),oP 14 (Af 2 5),oP 15 (Ag 14),oP 16 (.mnx true (.t 13) (.t 15)),Ac 8 16] (.seq (Ad [oP 17 (Af 0 5),oP 18 (Ag 17)] (.blk 0 (Ad [oP 20 (Al 18 1),Ac 19 20] (Ak 19 (Ad [oP 21 (Af 1 5),oP 22 (Ag 21),oP 23 (Bi .add 22 2),oP 24 (Bi .leq 23 1000),oP 25 (.call 137 [(.t 24)])] (Cs [oP 26 (Af 1 5),oI 27 1 (Ag 26),oI 28 2 (Bi .add 27 1),⟨(some 29),(.call 162 [(.t 28)]),none,3,true,[]⟩,oI 30 4 (Af 1 5),⟨(some 31),(Ag 30),none,5,true,[3]⟩,oI 32 6 (Bi .add 31 2),⟨none,(Bn 5 6 29),none,7,false,[5]⟩,oI 7 8 (mT 32)] .ret)) (Ad [oP 34 (Al 18 2),Ac 33 34] (Ak 33 (Ad [Ac 35 1,Ac 36 1,oP 37 (.len false (.t 36)),oP 38 (Bi .sub 37 1),oP 39 (Af 1 5),oP 40 (Ag 39),oP 41 (Bu .sub 38 40),oP 42 (.iad 6 (.t 35) (.t 41)),oP 43 (Ao 6 42),oP 9 (.new [(iS 0),(iS 0),(iS 0),(iS 0),.nils,(iS 0)]),oN (Bn 6 9 43)] (Ad [oP 45 (Af 0 9),oP 46 (Ao 5 45),oP 47 (Af 1 5),oP 48 (Ag 47),oP 49 (Bi .add 48 1),oP 50 (.call 163 [(.t 46),(.t 49),(cI 0)]),Ac 44 50,oP 51 (.ext (.t 44) 0),oP 52 (.ext (.t 44) 1),oP 10 Fe,oN (Bn 5 10 51),Ac 11 52] (Cs [oP 53 (Ao 5 10),oI 54 1 (Af 5 9),⟨(some 55),(Ag 54),none,2,true,[]⟩,⟨none,(Bn 5 6 53),none,3,false,[2]⟩,oI 7 4 (mT 55)] .ret))) (.seq (Ad [oP 57 (Al 18 3),Ac 56 57] (Ak 56 .skip (Bo [oP 58 (Al 18 6),Ac 56 58]))) (Ak 56 (Ad [Ac 59 0,Ac 60 1,oP 61 (Ao 5 5),oP 62 (.hcall 164 [(.t 59),(.t 60),(.t 61)])] (Ad [Ac 63 8,oP 64 (Bi .lss 63 1000),oP 65 (.call 137 [(.t 64)])] (Ad [Ac 66 8,oP 67 (.call 162 [(.t 66)]),Ac 68 8,oP 69 (Bi .add 68 1),oN (Bn 5 6 67),Ac 7 69] .ret))) (Ad [oP 71 (Al 18 4),Ac 70 71] (Ak 70 (Cs [Ac 72 0,oI 73 1 (mT 0),oI 74 2 (mT 1),oI 75 3 (Ao 5 5),⟨(some 76),(.hcall 164 [(.t 73),(.t 74),(.t 75)]),none,4,true,[]⟩,oI 77 5 (Af 4 5),⟨(some 78),(Ag 77),none,6,false,[4]⟩,⟨(some 79),(.iad 5 (.t 78) (cI 2)),none,7,false,[4]⟩,⟨(some 80),(Ao 5 79),none,8,false,[4]⟩,oI 81 9 (Af 4 5),⟨(some 82),(Ag 81),none,10,false,[4]⟩,⟨(some 83),(.iad 5 (.t 82) (cI 1)),none,11,false,[4]⟩,⟨(some 84),(Ao 5 83),none,12,false,[4]⟩,oI 85 13 (Af 2 5),⟨(some 86),(Ag 85),none,14,false,[4]⟩,⟨(some 87),(.hcall 165 [(.t 72),(.t 76),(.t 80),(.t 84),(.t 86)]),none,15,false,[15]⟩] (Ad [oP 88 (Ao 5 5),oP 89 (.call 166 [(cI 3),(.t 88),(.c .nils)]),Ac 90 8,oN (Bn 5 6 89),Ac 7 90] .ret)) (Ad [oP 92 (Al 18 5),Ac 91 92] (Ak 91 (Ad [Ac 93 0,Ac 94 1,oP 95 (Ao 5 5),oP 96 (.hcall 164 [(.t 93),(.t 94),(.t 95)])] (Cs [Ac 97 0,oI 98 1 (mT 1),oI 99 2 (Af 4 5),⟨(some 100),(Ag 99),none,3,true,[]⟩,⟨(some 101),(.iad 5 (.t 100) (cI 2)),none,4,true,[]⟩,⟨(some 102),(Ao 5 101),none,5,true,[]⟩,oI 103 6 (Ao 5 5),⟨(some 104),(.call 166 [(cI 3),(.t 103),(.c .nils)]),none,7,false,[3,4,5]⟩,oI 105 8 (mT 8),⟨(some 106),(.hcall 165 [(.t 97),(.t 98),(.t 102),(.t 104),(.t 105)]),none,9,false,[9]⟩] (Cs [Ac 107 0,oI 108 1 (mT 1),oI 109 2 (Af 4 5),oI 110 3 (Ag 109),oI 111 4 (.iad 5 (.t 110) (cI 3)),oI 112 5 (Ao 5 111),oI 113 6 (Af 4 5),oI 114 7 (Ag 113),oI 115 8 (.iad 5 (.t 114) (cI 0)),oI 116 9 (Ao 5 115),oI 117 10 (Af 1 5),oI 118 11 (Ag 117),⟨(some 119),(.hcall 165 [(.t 107),(.t 108),(.t 112),(.t 116),(.t 118)]),none,12,false,[12]⟩] (Cs [oP 120 (Af 4 5),oI 121 1 (Ag 120),oI 122 2 (.iad 5 (.t 121) (cI 1)),oI 123 3 (Ao 5 122),oI 124 4 (Af 4 5),oI 125 5 (Ag 124),oI 126 6 (.iad 5 (.t 125) (cI 3)),oI 127 7 (Ao 5 126),⟨(some 128),(.call 167 [(.t 123),(.t 127)]),none,8,true,[]⟩,oI 129 9 (Af 2 5),⟨(some 130),(Ag 129),none,10,true,[8]⟩,⟨none,(Bn 5 6 128),none,11,false,[10]⟩,oI 7 12 (mT 130)] .ret)))) (Ad [oP 132 (Al 18 7),Ac 131 132] (Ak 131 (Ad [Ac 133 0,Ac 134 1,oP 135 (Ao 5 5),oP 136 (.hcall 164 [(.t 133),(.t 134),(.t 135)])] (Cs [Ac 137 0,oI 138 1 (mT 1),oI 139 2 (Af 4 5),oI 140 3 (Ag 139),oI 141 4 (.iad 5 (.t 140) (cI 2)),oI 142 5 (Ao 5 141),oI 143 6 (Af 4 5),oI 144 7 (Ag 143),oI 145 8 (.iad 5 (.t 144) (cI 0)),oI 146 9 (Ao 5 145),oI 147 10 (Af 1 5),oI 148 11 (Ag 147),⟨(some 149),(.hcall 165 [(.t 137),(.t 138),(.t 142),(.t 146),(.t 148)]),none,12,false,[12]⟩] (Cs [Ac 150 0,oI 151 1 (mT 1),oI 152 2 (Af 4 5),⟨(some 153),(Ag 152),none,3,true,[]⟩,⟨(some 154),(.iad 5 (.t 153) (cI 3)),none,4,true,[]⟩,⟨(some 155),(Ao 5 154),none,5,true,[]⟩,oI 156 6 (Af 4 5),oI 157 7 (Ag 156),oI 158 8 (.iad 5 (.t 157) (cI 1)),oI 159 9 (Ao 5 158),oI 160 10 (Af 4 5),oI 161 11 (Ag 160),oI 162 12 (.iad 5 (.t 161) (cI 2)),oI 163 13 (Ao 5 162),⟨(some 164),(.call 167 [(.t 159),(.t 163)]),none,14,true,[3,4,5]⟩,oI 165 15 (Af 2 5),⟨(some 166),(Ag 165),none,16,false,[14]⟩,⟨(some 167),(.hcall 165 [(.t 150),(.t 151),(.t 155),(.t 164),(.t 166)]),none,17,false,[17]⟩] (Ad [oP 168 (Ao 5 5),oP 169 (.call 166 [(cI 6),(.t 168),(.c .nils)]),Ac 170 8,oN (Bn 5 6 169),Ac 7 170] .ret)))) (Ad [oP 172 (Al 18 8),Ac 171 172] (Ak 171 (Ad [Ac 173 0,Ac 174 1,oP 175 (Ao 5 5),oP 176 (.hcall 164 [(.t 173),(.t 174),(.t 175)])] (Cs [Ac 177 0,oI 178 1 (mT 1),oI 179 2 (Af 4 5),⟨(some 180),(Ag 179),none,3,true,[]⟩,⟨(some 181),(.iad 5 (.t 180) (cI 2)),none,4,true,[]⟩,⟨(some 182),(Ao 5 181),none,5,true,[]⟩,oI 183 6 (Ao 5 5),⟨(some 184),(.call 166 [(cI 6),(.t 183),(.c .nils)]),none,7,false,[3,4,5]⟩,oI 185 8 (mT 8),⟨(some 186),(.hcall 165 [(.t 177),(.t 178),(.t 182),(.t 184),(.t 185)]),none,9,false,[9]⟩] (Cs [oP 187 (Af 4 5),oI 188 1 (Ag 187),oI 189 2 (.iad 5 (.t 188) (cI 0)),oI 190 3 (Ao 5 189),oI 191 4 (Af 1 5),⟨(some 192),(Ag 191),none,5,true,[]⟩,⟨none,(Bn 5 6 190),none,6,false,[5]⟩,oI 7 7 (mT 192)] .ret))) (Ad [oP 194 (Al 18 9),Ac 193 194] (Ak 193 (Ad [Ac 195 0,Ac 196 1,oP 197 (Ao 5 5),oP 198 (.hcall 164 [(.t 195),(.t 196),(.t 197)])] (Cs [Ac 199 0,oI 200 1 (mT 1),oI 201 2 (Af 4 5),⟨(some 202),(Ag 201),none,3,true,[]⟩,⟨(some 203),(.iad 5 (.t 202) (cI 2)),none,4,true,[]⟩,⟨(some 204),(Ao 5 203),none,5,true,[]⟩,oI 205 6 (Ao 5 5),⟨(some 206),(.call 166 [(cI 6),(.t 205),(.c .nils)]),none,7,false,[3,4,5]⟩,oI 207 8 (mT 8),⟨(some 208),(.hcall 165 [(.t 199),(.t 200),(.t 204),(.t 206),(.t 207)]),none,9,false,[9]⟩] (Cs [oP 209 (Af 4 5),⟨(some 210),(Ag 209),none,1,true,[]⟩,⟨(some 211),(.iad 5 (.t 210) (cI 1)),none,2,true,[]⟩,⟨(some 212),(Ao 5 211),none,3,true,[]⟩,⟨(some 213),(Ao 5 5),none,4,true,[]⟩,oI 214 5 (Af 4 5),oI 215 6 (Ag 214),oI 216 7 (.iad 5 (.t 215) (cI 2)),oI 217 8 (Ao 5 216),⟨(some 218),(.bslice 5 [(.t 217)]),none,9,true,[1,2,3,4]⟩,⟨(some 219),(.call 166 [(cI 8),(.t 213),(.t 218)]),none,10,true,[1,2,3]⟩,⟨(some 220),(.call 167 [(.t 212),(.t 219)]),none,11,true,[]⟩,oI 221 12 (Af 2 5),⟨(some 222),(Ag 221),none,13,true,[9,10,11]⟩,⟨none,(Bn 5 6 220),none,14,false,[13]⟩,oI 7 15 (mT 222)] .ret))) .skip)))))))))))))))))) (Ad [Ac 223 0,Ac 224 1,oP 225 (Ao 5 5),oP 226 (.hcall 168 [(.t 223),(.t 224),(.t 225)]),oP 227 (.ext (.t 226) 0),oP 228 (.ext (.t 226) 1),oN (Bn 5 6 227),Ac 7 228] .ret))))⟩
def tr136:trF Tryz.prog Tryz.f136=some af136:=by kernel_rfl
attribute [go_sem] af136
def Qk{t:Tm}{w:Int}(h:Cz t w=true):Cz t 0=true:=by
 obtain⟨k,i,j,n,l⟩:=t;rw[Kb] at h |-;rw[q_jl] at h |-;refine⟨?_,h.2⟩;have h1:=h.1;unfold Fw at h1 |-;rw[q_jl] at h1 |-;exact⟨rfl,h1.2⟩
def Asu(e:Tm×Nat):(Dg e)[5]?=some (.int .i64 e.2):=by obtain⟨⟨k,i,j,n,l⟩,m⟩:=e;rw[Dg,Bp];rfl
def Asw(e:Tm×Nat):pok 6 (Dg e)=True:=by
 obtain⟨⟨k,i,j,n,l⟩,m⟩:=e;rw[Dg,Bp];simp[pok,psz]
def Asv(e:Tm×Nat):(Dg e).take 5=tv e.1:=by obtain⟨⟨k,i,j,n,l⟩,m⟩:=e;rw[Dg,Bp];rfl
def Ary{cl:Bool}{c:Nat}{cells:List SV}:cut cl 6 true 5 c cells=.agg cl ((cells.drop c).take 5):=by simp[cut]
attribute [go_sem] Asw Sn Asu Asv Ary
def Ast(C:List (Tm×Nat))(x:Nat)(hx:x<C.length):(C.map Dg)[x]?.getD []=Dg (C.getD x (zR,0)):=by
 rw[q_ji,q_f hx,q_j,q_f hx];rfl
def Ahe(C:List (Tm×Nat))(hE:EnOK C)(hn:C.length<=4000):Con 19 [Ir C] (.bool true):=by
 cases C with
 |nil=>
  refine Bt mixed Tryz.func19 tr19 ?_;unfold Ir;simp only[go_sem,seval];refine Ff 1 (Bk ?_);simp only[go_sem,seval]
 |cons e0 es=>
 refine Bt mixed Tryz.func19 tr19 ?_;unfold Ir;dsimp only;have Cv:=Ast (e0::es);have Bl:((e0::es).map Dg).length=(e0::es).length:=by simp
 generalize (e0::es).map Dg=rows at *
 generalize e0::es=C at *
 simp only[go_sem,seval];intros;refine Kf (fun x=>⟨(.J::.J::.bool false::.J::.J::.dsl 6 rows::.int .i64 rows.length::.int .i64 x::Fa (jk8 (jk2 ([])))),[]⟩) rows.length (fun x hx=>?_) ?_
 ·simp only[go_sem,seval];refine⟨fun h=>?_,fun h=>?_⟩
  ·have Aq:=q_ku h;have El:x<rows.length:=by omega
   have hlx:x<C.length:=by omega
   have e0:(0:Int)<=(x:Int):=by omega
   have hr:=Cv x hlx;obtain⟨g1,g2,g3,g4,g5⟩:=hE x hlx;generalize C.getD x (zR,0)=e at *
   have c1:=Nl e.1 g4;rw[show Fd e.1=true from g2] at c1;have c2:=Qx e.1 g4 (by omega);rw[show Gy e.1=Da e.1 by unfold Gy;rw[if_pos (Qk g2)]] at c2;have Od:=Bz e.1;have a1:¬((e.2:Int)<0):=by omega
   have a2:¬(1000<(e.2:Int)):=by omega
   have a3:¬((x:Int)<Da e.1):=by omega
   repeat' first
   |simp only[go_sem,seval,Aq,e0,hr,Od,a1,a2,a3]
   |refine Ae c1 ?_
   |refine Ae c2 ?_
   refine⟨El,?_⟩;rw[w64 (n:=(x:Int)+1) (by unfold fit;omega)];exact Js 0 (by simp[Cb]) rfl (by simp[below]) (by simp)
  ·have Hz:=q_kv h;simp only[go_sem,seval,h]
 ·exact Js 0 (by simp[Cb]) rfl (by simp[below]) (by simp)
def Apx:Con 22 [.agg true z5,.agg true z5] (.bool true):=by
 refine Bt mixed Tryz.func22 tr22 ?_;unfold z5;simp only[go_sem,seval];refine Ff 1 (Bk ?_);simp only[go_sem,seval]
def Xc{t:Tm}{n w f:Nat}(h:GT n w f t)(hf:f<=100000):Con 21 [.agg true (tv t),.int .i64 n] (.bool true):=by
 obtain⟨h1,h2,h3,h4⟩:=h;have c2:=Qx t h3 (by omega);rw[show Gy t=Da t by unfold Gy;rw[if_pos (Qk h1)]] at c2;have hz:=Bz t;have a3:¬((n:Int)<Da t):=by omega
 refine Bt mixed Tryz.func21 tr21 ?_
 repeat' first
 |simp only[go_sem,seval,hz,a3]
 |refine Ae c2 ?_
 rw[q_jn h2]
def Ahq{x:XQ}(h:XOK x):Con 8 [.agg true (xqV x)] (.bool true):=by
 obtain⟨ctx,eq,i,a,u,b,v,hh⟩:=x;obtain⟨hc,hn,hi,ha,hu,hq⟩:=h;dsimp only at hc hn hi ha hu hq;have c0:=Ahe ctx hc hn;have a1:=Nl a ha.2.2.1;rw[show Fd a=true from ha.1] at a1;have a2:=Xc ha (by omega);have u1:=Nl u hu.2.2.1;rw[show Fd u=true from hu.1] at u1;have u2:=Xc hu (by omega);have w0:=Apx;have i1:¬((i:Int)<0):=by omega
 have i2:¬(1000<(i:Int)):=by omega
 have hb:(ctx.length<=140737488355328)=True:=by simp;omega
 have ht:∀{P:Prop},(True->P)=P:=fun {P}=>by simp
 obtain⟨C,hC,hm⟩:∃C:SV,Ir ctx=C/\((C=.nils/\ctx.length=0)\/C=.dsl 6 (ctx.map Dg)):=by
  cases ctx with
   |nil=>exact⟨_,rfl,.inl ⟨rfl,rfl⟩⟩
   |cons e es=>exact⟨_,rfl,.inr rfl⟩
 unfold xqV;dsimp only;rw[hC] at c0 |-;cases eq
 ·clear hq hc ha hu hC;obtain⟨ka,ia,ja,na,la⟩:=a;obtain⟨ku,iu,ju,nu,lu⟩:=u;unfold z5 at w0 |-;simp only[q_kx,if_false];rw[Bp] at a1 a2 u1 u2 |-;rw[Bp];refine Bt mixed Tryz.func8 tr8 ?_;rcases hm with⟨rfl,hz⟩|rfl
  ·rw[hz] at a2 u2
   repeat' first
   |simp only[go_sem,seval,i1,i2,hb,ht,q_g]
   |refine Ae c0 ?_
   |refine Ae a1 ?_
   |refine Ae u1 ?_
   |refine Ae a2 ?_
   |refine Ae u2 ?_
   |refine Ae w0 ?_
  ·repeat' first
   |simp only[go_sem,seval,i1,i2,hb,ht,q_g]
   |refine Ae c0 ?_
   |refine Ae a1 ?_
   |refine Ae u1 ?_
   |refine Ae a2 ?_
   |refine Ae u2 ?_
   |refine Ae w0 ?_
 ·obtain⟨hqb,hqv,hqh⟩:=hq rfl;have b1:=Nl b hqb.2.2.1;rw[show Fd b=true from hqb.1] at b1;have b2:=Xc hqb (by omega);have v1:=Nl v hqv.2.2.1;rw[show Fd v=true from hqv.1] at v1;have v2:=Xc hqv (by omega);have h1:=p8 hh hqh.2.2.1;rw[show Cz hh 2=true from hqh.1] at h1;have h2:=Xc hqh (by omega);clear hq hc ha hu hC hqb hqv hqh;obtain⟨ka,ia,ja,na,la⟩:=a;obtain⟨ku,iu,ju,nu,lu⟩:=u;obtain⟨kb,ib,jb,nb,lb⟩:=b;obtain⟨kv,iv,jv,nv,lv⟩:=v;obtain⟨kh,ih,jh,nh,lh⟩:=hh;simp only[if_true];rw[Bp] at a1 a2 u1 u2 b1 b2 v1 v2 h1 h2 |-;rw[Bp,Bp,Bp,Bp];refine Bt mixed Tryz.func8 tr8 ?_;rcases hm with⟨rfl,hz⟩|rfl
  ·rw[hz] at a2 u2 b2 v2 h2
   repeat' first
   |simp only[go_sem,seval,i1,i2,hb,ht,q_g]
   |refine Ae c0 ?_
   |refine Ae a1 ?_
   |refine Ae u1 ?_
   |refine Ae a2 ?_
   |refine Ae u2 ?_
   |refine Ae b1 ?_
   |refine Ae v1 ?_
   |refine Ae h1 ?_
   |refine Ae b2 ?_
   |refine Ae v2 ?_
   |refine Ae h2 ?_
  ·repeat' first
   |simp only[go_sem,seval,i1,i2,hb,ht,q_g]
   |refine Ae c0 ?_
   |refine Ae a1 ?_
   |refine Ae u1 ?_
   |refine Ae a2 ?_
   |refine Ae u2 ?_
   |refine Ae b1 ?_
   |refine Ae v1 ?_
   |refine Ae h1 ?_
   |refine Ae b2 ?_
   |refine Ae v2 ?_
   |refine Ae h2 ?_
def wdB(k n:Int):By:=if k=23 then [117,115,101,32]++symsL.getD (n-1).toNat [] else if k<=12 then markG.getD (k-1).toNat [] else plainG.getD (k-13).toNat []
def lvN(k:Int):Nat:=if k=1\/k=10\/k=11\/k=12 then 1 else if (3<=k/\k<=9)\/k=23 then 2 else 0
def vB(d:Int):By:=118::Lib.itoa d
def Wh(l:Nat)(i j:Int):By:=if l=0 then [] else if l=1 then 32::Lib.itoa i else (32::Lib.itoa i)++(32::Lib.itoa j)
def bdB(k:Int)(d:Nat):By:=if Cn k 1=1 then 32::vB d else []
def Pz(k i j n:Int)(d:Nat):By:=([40]++wdB k n)++Wh (lvN k) i j++bdB k d
def Ps(k:Int)(p d:Nat):By:=if k=22/\p=2 then [32]++vB d++[32]++vB ((d:Int)+1) else []
mutual
def txT:Tm->Nat->By
 |.mk k i j n l,d=>if k=2 then vB ((d:Int)-1-i) else Pz k i j n d++txL k d 0 l++[41]
def txL(k:Int)(d:Nat):Nat->List Tm->By
 |_,[]=>[]
 |p,t::l=>(Ps k p d++[32]++txT t (d+(Cn k p).toNat))++txL k d (p+1) l
end
def txK(k:Int)(d p:Nat)(t:Tm):By:=Ps k p d++[32]++txT t (d+(Cn k p).toNat)
def txP(k:Int)(d:Nat)(l:List Tm):Nat->By
 |0=>[]
 |x+1=>txP k d l x++txK k d x (l[x]?.getD default)
def A4j(k:Int)(d:Nat)(l:List Tm):∀(p:Nat),txL k d p l=((List.range l.length).map fun x=>txK k d (p+x) (l[x]?.getD default)).flatten:=by
 induction l with
 |nil=>intro p;rw[txL];rfl
 |cons t l ih=>
  intro p;rw[txL,ih,q_jk,List.range_succ_eq_map,q_h,List.map_map,List.flatten_cons];congr 1;refine congrArg List.flatten (List.map_congr_left (fun x _=>?_));simp only[Function.comp,q_kf];rw[show p+1+x=p+(x+1) by omega]
def A4l(k:Int)(d:Nat)(l:List Tm):∀x,txP k d l x=((List.range x).map fun x=>txK k d x (l[x]?.getD default)).flatten:=by
 intro x
 induction x with
 |zero=>rfl
 |succ x ih=>rw[txP,ih,List.range_succ,q_kt,List.flatten_append];simp
def Af9{k i j n:Int}{l:List Tm}{d:Nat}(h:k≠2):txT (.mk k i j n l) d=Pz k i j n d++txP k d l l.length++[41]:=by
 rw[txT,if_neg h,A4j,A4l];simp only[q_jg]
def Aga{i j n:Int}{l:List Tm}{d:Nat}:txT (.mk 2 i j n l) d=vB ((d:Int)-1-i):=by rw[txT,if_pos rfl]
def Af7(k:Int)(d:Nat)(l:List Tm){x y:Nat}(h:x<=y):(txP k d l x).length<=(txP k d l y).length:=by
 induction y with
 |zero=>
  obtain rfl:x=0:=by omega
  exact q_ja _
 |succ y ih=>
  by_cases hx:x=y+1
  ·subst hx;exact q_ja _
  ·rw[txP,q_jr];have:=ih (by omega);omega
def A4k(k:Int)(d:Nat)(l:List Tm){x y:Nat}(h:x<y):(txP k d l x).length+(txK k d x (l[x]?.getD default)).length<=(txP k d l y).length:=by
 have:=Af7 k d l (show x+1<=y from h)
 rwa [txP,q_jr] at this
def Mc(n:Int)(h1:-9000000000000000000<n)(h2:n<9000000000000000000):(Lib.itoa n).length<=21:=Lib.itoa_length_le n (by omega) (by omega)
def j6:∀k n:Int,(wdB k n).length<=20:=by
 intro k n;unfold wdB;have hs:∀x,(symsL.getD x []).length<=10:=fun x=>by
  by_cases h:x<21
  ·have:∀y,y<21->(symsL.getD y []).length<=10:=by decide
   exact this x h
  ·rw[q_j,q_jd (by show 21<=x;omega)];exact Nat.zero_le _
 have hm:∀x,(markG.getD x []).length<=10:=fun x=>by
  by_cases h:x<12
  ·have:∀y,y<12->(markG.getD y []).length<=10:=by decide
   exact this x h
  ·rw[q_j,q_jd (by show 12<=x;omega)];exact Nat.zero_le _
 have hp:∀x,(plainG.getD x []).length<=10:=fun x=>by
  by_cases h:x<11
  ·have:∀y,y<11->(plainG.getD y []).length<=10:=by decide
   exact this x h
  ·rw[q_j,q_jd (by show 11<=x;omega)];exact Nat.zero_le _
 split
 ·have:=hs (n-1).toNat;rw[q_jr];show 4+_<=20;omega
 ·split
  ·have:=hm (k-1).toNat;omega
  ·have:=hp (k-13).toNat;omega
open Go Go.RowKit Go.Proofs.YtgfehkhcmnfpaaaGreatDoor
def Aco(k p:Int):Con 94 [.int .i64 k,.int .i64 p] (.int .i64 (Cn k p)):=by
 refine Bt mixed Tryz.func94 tr94 ?_
 by_cases h:k=3\/k=5\/k=6\/k=7\/k=8\/k=9\/k=13\/k=14\/k=16\/k=17
 ·have e:Cn k p=if p=1 then 1 else 0:=by unfold Cn;rw[if_pos h]
  rw[e];rcases h with rfl|rfl|rfl|rfl|rfl|rfl|rfl|rfl|rfl|rfl <;>
   (cases hp:(p==1)<;>simp only[beq_iff_eq,beq_eq_false_iff_ne,ne_eq] at hp<;>simp only[go_sem,seval,hp,Bh])
 ·by_cases h4:k=4
  ·subst h4;have e:Cn 4 p=if p=1\/p=2 then 1 else 0:=by unfold Cn;rw[if_neg (by decide),if_pos rfl]
   rw[e]
   by_cases h1:p=1
   ·subst h1;simp only[go_sem,seval]
   ·by_cases h2:p=2
    ·subst h2;simp only[go_sem,seval]
    ·rw[if_neg (by omega)];simp only[go_sem,seval,Bh h1,Bh h2]
  ·by_cases Ii:k=22
   ·subst Ii;have e:Cn 22 p=if p=2 then 2 else 0:=by unfold Cn;rw[if_neg (by decide),if_neg (by decide),if_pos rfl]
    rw[e]
    by_cases h2:p=2
    ·subst h2;simp only[go_sem,seval]
    ·rw[if_neg h2];simp only[go_sem,seval,Bh h2]
   ·have e:Cn k p=0:=by unfold Cn;rw[if_neg h,if_neg h4,if_neg Ii]
    rw[e];simp only[go_sem,seval,Bh (show k≠3 by omega),Bh h4,Bh (show k≠5 by omega),Bh (show k≠6 by omega),Bh (show k≠7 by omega),Bh (show k≠8 by omega),Bh (show k≠9 by omega),Bh (show k≠13 by omega),Bh (show k≠14 by omega),Bh (show k≠16 by omega),Bh (show k≠17 by omega),Bh Ii]
section
variable{c:RC}{T:TR}{f:Nat}{ns:List By}{s:RS}{nm:SV}
end
end Go.Proofs.YtgfehkhcmnfpaaaGreatDoor.Abs
