import Derived.Test.YtgfehkhcmnfpaaaGreatDoorXOl
import Derived.Test.YtgfehkhcmnfpaaaGreatDoorXOi
import Derived.Test.YtgfehkhcmnfpaaaGreatDoorXTs
import Derived.Test.YtgfehkhcmnfpaaaGreatDoorXAfN
import Derived.Test.YtgfehkhcmnfpaaaGreatDoorXEv
import Derived.Test.YtgfehkhcmnfpaaaGreatDoorProg
import Derived.KernelRfl
import Derived.Lib.ItoaLen
set_option linter.all false
set_option maxRecDepth 20000
set_option maxHeartbeats 4000000
namespace Go.Proofs.YtgfehkhcmnfpaaaGreatDoor.Abs
open Go Go.RowKit Go.Proofs.YtgfehkhcmnfpaaaGreatDoor
section
variable{c:RC}{T:TR}{f:Nat}{ns:List By}{s:RS}{nm:SV}{G:GV}
def Ap2(hb:s.bad=true)(z:Int):Cp 156 (rdS c nm s::G) [.gp 0 0,.int .i64 z] (.ret (.tup [])) (rdS c nm s::G):=by
 refine Ca mixed Tryz.func156 tr156 ?_;obtain⟨sk,sb,sa,D⟩:=s;simp only at hb;subst hb;unfold rdS;simp only[go_sem,seval]
def Abe(hb:s.bad=false)(kd:Nat):Ai c s kd=((c.tk s.k).w,s.nx)/\s.k<c.L.length/\(c.tk s.k).k=kd\/∃a,Ai c s kd=([],{ s with bad:=true,at_:=a }):=by
 unfold Ai;split
 ·rename_i h;exact .inl ⟨rfl,h.2⟩
 ·right;unfold Cu;rw[hb,if_neg (by decide)];exact⟨_,rfl⟩
def Wa{k:Nat}{x:AccR}:Ds c T ns k 83 x s=(match Fy (Ai c s 3).1 symsL with|some n=>({ x with n:=n+1 },(Ai c s 3).2)|none=>(x,Cu c (Ai c s 3).2 ((Ai c s 3).2.k-1))):=rfl
def Afu{x:AccR}:Ds c T ns 23 77 x s=({ x with b:=(Cn c (c.L.length+1) s).1,l:=(Fo T ns (arN x.n) { (Cn c (c.L.length+1) s).2 with D:=[] }).1 },{ (Fo T ns (arN x.n) { (Cn c (c.L.length+1) s).2 with D:=[] }).2 with D:=s.D++[.int .i64 23,.int .i64 x.a,.int .i64 (Cn c (c.L.length+1) s).1,.int .i64 x.n,.dsl 5 ((Fo T ns (arN x.n) { (Cn c (c.L.length+1) s).2 with D:=[] }).1.map tv)]::(Fo T ns (arN x.n) { (Cn c (c.L.length+1) s).2 with D:=[] }).2.D }):=rfl
def Adm:Fy [] symsL=none:=rfl
def Aho{w:By}(h:Fy w symsL=none):Tn w=0:=by unfold Tn;rw[h]
def Ave{w:By}{n:Nat}(h:Fy w symsL=some n):Tn w=n+1:=by unfold Tn;rw[h]
def Arx(hc:Fa c)(hT:TCG c T f)(Bq:ns.length+3*f+2<100000000000)(hb:s.bad=false)(hN:NGr s.D)(hG:NGr G)(hs:c.L.length<s.k+f):LCG c T ns 23 [83,76,77] s G:=by
 obtain⟨k0,b0,a0,D0⟩:=s;simp only at hs hN hb;subst hb;have c0:=Bx (nm:=nmG ns) (s:=⟨k0,false,a0,D0⟩) (G:=G++D0) hc 3;have hn:=hc.n;rcases Abe (c:=c) (s:=⟨k0,false,a0,D0⟩) rfl 3 with⟨h1,Az,_⟩|⟨a,h1⟩
 rotate_left
 ·-- no word there
  have cs:=Ada [];rw[Aho Adm] at cs;have cf:=Ap2 (c:=c) (nm:=nmG ns) (s:=⟨k0,true,a,D0⟩) (G:=G++D0) rfl (IntKind.i64.wrap ((k0:Int)-1));have ce:=Bx (nm:=nmG ns) (s:=⟨k0,true,a,D0⟩) (G:=G++D0) hc 2;have e1:Cu c ⟨k0,true,a,D0⟩ (k0-1)=⟨k0,true,a,D0⟩:=rfl;have eR:Ae c T ns 23 [83,76,77] ⟨k0,false,a0,D0⟩=(.mk 23 0 0 0 [],(Ai c ⟨k0,true,a,D0⟩ 2).2):=by simp only[Ae,An,Ao,Wa,h1,Adm,e1];rfl
  unfold LCG;rw[eR,Bc];refine⟨?_,Cc (c:=c) (s:=⟨k0,true,a,D0⟩) 2,hN⟩;refine Gj (r:=.agg true (tvn (.mk 23 0 0 0 []))) ?_ (Hk _);rw[Gv];rw[h1] at c0;refine Ca mixed Tryz.func190 tr190 ?_;unfold rdS at c0 cf ce |-;simp only at c0 cf ce |-;simp only[go_sem,seval];refine Eo 4 (Bb ?_)
  repeat' first
  |simp only[go_sem,seval,v83,v76,v77]
  |refine Ad c0 ?_
  |refine Aj cs ?_
  |refine Ad cf ?_
  |refine Bb ?_
  |refine Ad ce ?_
 ·rw[h1] at c0;unfold RS.nx at c0 h1;simp only at c0 h1 Az;have cs:=Ada (c.tk k0).w;cases hf:Fy (c.tk k0).w symsL with
  |none=>
   rw[Aho hf] at cs;have cf:=Lv (nm:=nmG ns) (s:=⟨k0+1,false,a0,D0⟩) (G:=G++D0) hc k0;have hw:=(atG hc Az).w2;obtain⟨a,e1⟩:∃a,Cu c ⟨k0+1,false,a0,D0⟩ k0=⟨k0+1,true,a,D0⟩:=⟨_,rfl⟩
   rw[e1] at cf;have ce:=Bx (nm:=nmG ns) (s:=⟨k0+1,true,a,D0⟩) (G:=G++D0) hc 2;have eR:Ae c T ns 23 [83,76,77] ⟨k0,false,a0,D0⟩=(.mk 23 0 0 0 [],(Ai c ⟨k0+1,true,a,D0⟩ 2).2):=by simp only[Ae,An,Ao,Wa,h1,hf,Nat.add_sub_cancel,e1];rfl
   unfold LCG;rw[eR,Bc];refine⟨?_,q_kn (Nat.le_succ k0) (Cc (c:=c) (s:=⟨k0+1,true,a,D0⟩) 2),hN⟩;refine Gj (r:=.agg true (tvn (.mk 23 0 0 0 []))) ?_ (Hk _);rw[Gv];refine Ca mixed Tryz.func190 tr190 ?_;unfold rdS at c0 cf ce |-;simp only at c0 cf ce |-;simp only[go_sem,seval];refine Eo 4 (Bb ?_)
   repeat' first
   |simp only[go_sem,seval,v83,v76,v77,hw]
   |refine Ad c0 ?_
   |refine Aj cs ?_
   |refine Ad cf ?_
   |refine Bb ?_
   |refine Ad ce ?_
  |some n=>
   have Ae2:n<21:=(q_jm.1 (findG hf).1).1;rw[Ave hf] at cs;have n0:(((n+1:Nat):Int)==0)=false:=by rw[beq_eq_false_iff_ne];omega
   have c1:=Jy (nm:=nmG ns) (G:=G++D0) hc (c.L.length+1) ⟨k0+1,false,a0,D0⟩ (q_ja _) (by simp only;omega) (by omega);have d1:=(Ka (c:=c) (c.L.length+1) ⟨k0+1,false,a0,D0⟩).symm;have m1:=Jm (c:=c) (c.L.length+1) ⟨k0+1,false,a0,D0⟩;generalize e1:Cn c (c.L.length+1) ⟨k0+1,false,a0,D0⟩=q at c1 d1 m1;obtain⟨u,k2,b2,a2,E2⟩:=q;simp only at c1 d1 m1;subst d1;cases b2;rotate_left
   ·have ce:=Bx (nm:=nmG ns) (s:=⟨k2,true,a2,D0⟩) (G:=G++D0) hc 2;have eR:Ae c T ns 23 [83,76,77] ⟨k0,false,a0,D0⟩=(.mk 23 (u:Nat) (0:Nat) ((n+1:Nat):Int) [],(Ai c ⟨k2,true,a2,D0⟩ 2).2):=by simp only[Ae,An,Ao,Wa,Bh,h1,hf,e1];rfl
    unfold LCG;rw[eR,Bc];refine⟨?_,q_kn (by simp only;omega) (Cc (c:=c) (s:=⟨k2,true,a2,D0⟩) 2),hN⟩;refine Gj (r:=.agg true (tvn (.mk 23 (u:Nat) (0:Nat) ((n+1:Nat):Int) []))) ?_ (Hk _);rw[Gv];refine Ca mixed Tryz.func190 tr190 ?_;unfold rdS at c0 c1 ce |-;simp only at c0 c1 ce |-;simp only[go_sem,seval];refine Eo 4 (Bb ?_)
    repeat' first
    |simp only[go_sem,seval,v83,v76,v77,n0]
    |refine Ad c0 ?_
    |refine Aj cs ?_
    |refine Ad c1 ?_
    |refine Bb ?_
    |refine Ad ce ?_
   ·have c2:=Jy (nm:=nmG ns) (G:=(G++D0)++[Ml (u:Nat) 0 ((n+1:Nat):Int) .nils]) hc (c.L.length+1) ⟨k2,false,a2,D0⟩ (q_ja _) (by simp only;omega) (by omega);have d2:=(Ka (c:=c) (c.L.length+1) ⟨k2,false,a2,D0⟩).symm;have m2:=Jm (c:=c) (c.L.length+1) ⟨k2,false,a2,D0⟩;generalize e2:Cn c (c.L.length+1) ⟨k2,false,a2,D0⟩=q at c2 d2 m2;obtain⟨v,k3,b3,a3,E3⟩:=q;simp only at c2 d2 m2;subst d2;have cg:=Ap4 (c:=c) (ns:=ns) (G:=G++D0) hT (by omega) (hG.app hN) (s:=⟨k3,b3,a3,[]⟩) (by simp only;omega) rfl Ae2 (u:Nat) (v:Nat);obtain⟨g1,g2,g3⟩:=Agf T ns (arN (n+1)) ⟨k3,b3,a3,[]⟩;have gq:=Ahd hT (ns:=ns) (G:=G) (by omega) hG (arN (n+1)) ⟨k3,b3,a3,[]⟩ (by simp only;omega) .nil;rw[<-g1] at gq;obtain⟨gk,gN,_⟩:=gq;have h0:=(arG n Ae2).2.1;generalize e3:Fo T ns (arN (n+1)) ⟨k3,b3,a3,[]⟩=q at cg g1 g2 g3 gk gN;obtain⟨l,k4,b4,a4,D4⟩:=q;simp only at cg gk gN g2;obtain⟨t0,l0,rfl⟩:∃t0 l0,l=t0::l0:=by
     cases l with
     |nil=>rw[List.length_nil] at g2;omega
     |cons t0 l0=>exact⟨t0,l0,rfl⟩
    have ce:=Bx (nm:=nmG ns) (s:=⟨k4,b4,a4,D0++Ml (u:Nat) (v:Nat) ((n+1:Nat):Int) (.dsl 5 ((t0::l0).map tv))::D4⟩) (G:=(G++D0)++Ml (u:Nat) (v:Nat) ((n+1:Nat):Int) (.dsl 5 ((t0::l0).map tv))::D4) hc 2;have eR:Ae c T ns 23 [83,76,77] ⟨k0,false,a0,D0⟩=(.mk 23 (u:Nat) (v:Nat) ((n+1:Nat):Int) (t0::l0),(Ai c ⟨k4,b4,a4,D0++Ml (u:Nat) (v:Nat) ((n+1:Nat):Int) (.dsl 5 ((t0::l0).map tv))::D4⟩ 2).2):=by
     simp only[Ae,An,Aq,Wa,Bh,Afu,h1,hf,e1,e2,e3];rfl
    unfold LCG;rw[eR,Bc];refine⟨?_,q_kn (by simp only;omega) (Cc (c:=c) 2),hN.app (.cons (Abf (Agl _)) gN)⟩;refine Gj (r:=.agg true (tvn (.mk 23 (u:Nat) (v:Nat) ((n+1:Nat):Int) (t0::l0)))) ?_ (Hk _);rw[Dh,<-q_ju];generalize hGG:G++D0=GG at *
    have i0:∀(x y:List SV) (D:GV),(x::(GG++y::D))[GG.length+1]?=some y:=fun x y D=>by simp
    have i1:∀(x y y':List SV) (D:GV),(x::(GG++y::D)).set (GG.length+1) y'=x::(GG++y'::D):=fun x y y' D=>by simp
    refine Ca mixed Tryz.func190 tr190 ?_;unfold Ml at c2 cg ce |-;unfold rdS nmG at c0 c1 c2 cg ce |-;simp only at c0 c1 c2 cg ce |-;simp only[go_sem,seval];refine Eo 4 (Bb ?_);simp only[go_sem,seval,v83,v76,v77];refine Ad c0 ?_;simp only[go_sem,seval,v83,v76,v77];refine Aj cs ?_;simp only[go_sem,seval,n0,v83,v76,v77];refine Bb ?_;simp only[go_sem,seval,v83,v76,v77];refine Ad c1 ?_;simp only[go_sem,seval,v83,v76,v77];refine Awf (.promo _ 2 _ _ _ rfl rfl rfl rfl rfl rfl (by simp) (by simp) (by simp[Ys,Mh]) (fun q ob' h1 h2 h3 h4=>?_)) ?_
    ·match q,h1 with
     |0,h1=>cases h1;cases h3
     |1,h1=>cases h1;cases h4
     |2,_=>exact absurd rfl h2
     |q+3,h1=>simp at h1
    simp only[q_h,q_i,Rf,reduceIte,Nat.reduceEqDiff,List.set_cons_zero,List.set_cons_succ];refine Bb ?_
    repeat' first
    |simp only[go_sem,seval,Nm,v83,v76,v77,i0,i1,q_jk,List.length_nil]
    |refine Ad c2 ?_
    |refine Ad cg ?_
    |refine Bb ?_
    |refine Ad ce ?_
    all_goals rfl
end
def Apb{w:By}:∀{l:List (By×Nat×By)} {p:Nat×By},Jw w l=some p->(w,p)∈l:=by
 intro l
 induction l with
 |nil=>intro p h;cases h
 |cons a l ih=>
  obtain⟨v,k,s⟩:=a;intro p h;rw[l8] at h;split at h
  ·rename_i hv;cases h;rw[hv];exact List.mem_cons_self
  ·exact List.mem_cons_of_mem _ (ih h)
def l9(w:By):Kv w=(0,[])\/(w,Kv w)∈formsG:=by
 unfold Kv;cases h:Jw w formsG with
 |none=>exact .inl rfl
 |some p=>exact .inr (Apb h)
section
variable{c:RC}{T:TR}{f:Nat}{ns:List By}{s:RS}{nm:SV}{G:GV}
def Ary(hc:Fa c)(hT:TCG c T f)(Bq:ns.length+3*f+2<100000000000)(hb:s.bad=false)(hN:NGr s.D)(hG:NGr G)(hs:c.L.length<s.k+f){w:By}{k:Nat}{sh:By}(h:(w,k,sh)∈formsG):LCG c T ns k sh s G:=by
 simp only[formsG,q_kb,q_kc,or_false,Prod.mk.injEq] at h;rcases h with⟨_,rfl,rfl⟩|⟨_,rfl,rfl⟩|⟨_,rfl,rfl⟩|⟨_,rfl,rfl⟩|⟨_,rfl,rfl⟩|⟨_,rfl,rfl⟩|⟨_,rfl,rfl⟩|⟨_,rfl,rfl⟩|⟨_,rfl,rfl⟩|⟨_,rfl,rfl⟩|⟨_,rfl,rfl⟩|⟨_,rfl,rfl⟩|⟨_,rfl,rfl⟩|⟨_,rfl,rfl⟩|⟨_,rfl,rfl⟩|⟨_,rfl,rfl⟩|⟨_,rfl,rfl⟩|⟨_,rfl,rfl⟩|⟨_,rfl,rfl⟩|⟨_,rfl,rfl⟩|⟨_,rfl,rfl⟩|⟨_,rfl,rfl⟩
 ·exact lg_L hc hT Bq (by decide) hb hN hG hs
 ·exact Af5 hc hT Bq (by decide) hb hN hG hs
 ·exact Art hc hT Bq (by decide) hb hN hG hs
 ·exact Af7 hc hT Bq (by decide) hb hN hG hs
 ·exact Af5 hc hT Bq (by decide) hb hN hG hs
 ·exact Af7 hc hT Bq (by decide) hb hN hG hs
 ·exact Af6 hc hT Bq (by decide) hb hN hG hs
 ·exact Af6 hc hT Bq (by decide) hb hN hG hs
 ·exact Arw hc hT Bq (by decide) hb hN hG hs
 ·exact Aru hc hT Bq (by decide) hb hN hG hs
 ·exact Arv hc hT Bq (by decide) hb hN hG hs
 ·exact Aa4 hc hT Bq (by decide) hb hN hG hs
 ·exact Aa4 hc hT Bq (by decide) hb hN hG hs
 ·exact Af8 hc hT Bq (by decide) hb hN hG hs
 ·exact Aa4 hc hT Bq (by decide) hb hN hG hs
 ·exact Ar1 hc hT Bq (by decide) hb hN hG hs
 ·exact lg_t hc hT Bq (by decide) hb hN hG hs
 ·exact lg_t hc hT Bq (by decide) hb hN hG hs
 ·exact Arz hc hT Bq (by decide) hb hN hG hs
 ·exact Af8 hc hT Bq (by decide) hb hN hG hs
 ·exact Ar0 hc hT Bq (by decide) hb hN hG hs
 ·exact Arx hc hT Bq hb hN hG hs
def Ast:s.k<=(Jn c ns s).2.k/\(Jn c ns s).2.D=s.D:=by
 unfold Jn;split
 ·exact⟨Nat.le_succ _,rfl⟩
 ·exact⟨by rw[Ot];exact q_ja _,Oq _⟩
def Ahp(hc:Fa c):∀(f:Nat),0<f->TCG c (En c f) f:=by
 intro f
 induction f with
 |zero=>intro h;omega
 |succ f ih=>
  intro _ ns want s G hs Bq hw hN hG;have Hj:∀{G G'} (a:Cp 155 G [.gp 0 0,.int .i64 want] (.ret (.agg true [.int .i64 0,.int .i64 0,.int .i64 0,.int .i64 0,.nils])) G'),Cp 155 G [.gp 0 0,.int .i64 want] (.ret (.agg true (tv zR))) G':=fun a=>Gj a (Qz _ _ _ _)
  obtain⟨k,b,a,D⟩:=s;simp only at hs hN;cases b;rotate_left
  ·rw[show En c (f+1) ns want ⟨k,true,a,D⟩=(zR,⟨k,true,a,D⟩) from rfl];refine⟨Hj ?_,q_ja _,hN⟩;refine Ca mixed Tryz.func155 tr155 ?_;unfold rdS;simp only[go_sem,seval]
  have hn:=hc.n;have a10:(c.L.length<=140737488355328)=True:=by simp;omega
  by_cases h:k<c.L.length
  rotate_left
  ·have e:En c (f+1) ns want ⟨k,false,a,D⟩=(zR,Cu c ⟨k,false,a,D⟩ k):=by unfold En;rw[if_neg (by simp),if_pos h]
   rw[e,Oq];have cf:=Lv (nm:=nmG ns) (s:=⟨k,false,a,D⟩) (G:=G++D) hc k;refine⟨Hj ?_,by rw[Ot];exact q_ja _,hN⟩;refine Ca mixed Tryz.func155 tr155 ?_;unfold rdS at cf |-;simp only[go_sem,seval,a10,q_jn (show (k:Int) >= (c.L.length:Int) by omega),q_g,forall_const];refine Ad cf ?_;simp only[go_sem,seval]
  obtain⟨a1,a2,a3,a4,a6,a7,a8,a9,a10⟩:=atG hc h
  by_cases Gi:(c.tk k).k=3
  ·have k3:(((c.tk k).k:Int)==3)=true:=by simp[Gi]
   have e:En c (f+1) ns want ⟨k,false,a,D⟩=Jn c ns ⟨k,false,a,D⟩:=by unfold En;rw[if_neg (by simp),if_neg (by simpa using h),if_pos Gi]
   have cn:=Ap9 (ns:=ns) (G:=G++D) hc (by omega) (s:=⟨k,false,a,D⟩) rfl h;obtain⟨n1,n2⟩:=Ast (c:=c) (ns:=ns) (s:=⟨k,false,a,D⟩);rw[e,n2];refine⟨?_,n1,hN⟩;refine Ca mixed Tryz.func155 tr155 ?_;unfold rdS at cn |-;simp only[go_sem,seval,a1,a2,a3,a4,a10,q_je a8,q_g,k3,forall_const];refine Ad cn ?_;simp only[go_sem,seval]
  have k3:(((c.tk k).k:Int)==3)=false:=by simp;omega
  have e:En c (f+1) ns want ⟨k,false,a,D⟩=(let s1:=(Ai c ⟨k,false,a,D⟩ 1).2;let q:=Ai c s1 3;let g:=Kv q.1;if q.2.bad then (zR,q.2) else if g.1=0\/(want=1/\12<g.1)\/(want=2/\2<g.1/\g.1<=12) then (zR,Cu c q.2 s1.k) else Ae c (En c f) ns g.1 g.2 q.2):=by
   conv=>lhs;unfold En
   rw[if_neg (by simp),if_neg (by simpa using h),if_neg Gi]
  have c1:=Bx (nm:=nmG ns) (s:=⟨k,false,a,D⟩) (G:=G++D) hc 1;have d1:=(Bc (c:=c) (s:=⟨k,false,a,D⟩) 1).symm;have m1:=Cc (c:=c) (s:=⟨k,false,a,D⟩) 1;generalize Ai c ⟨k,false,a,D⟩ 1=q at c1 d1 m1 e;obtain⟨w1,k1,b1,x1,E1⟩:=q;simp only at c1 d1 m1 e;subst d1;have c2:=Bx (nm:=nmG ns) (s:=⟨k1,b1,x1,D⟩) (G:=G++D) hc 3;have d2:=(Bc (c:=c) (s:=⟨k1,b1,x1,D⟩) 3).symm;have m2:=Cc (c:=c) (s:=⟨k1,b1,x1,D⟩) 3;have t8:b1=false->(Ai c ⟨k1,b1,x1,D⟩ 3).2.bad=false->k1<(Ai c ⟨k1,b1,x1,D⟩ 3).2.k:=fun Eh Dr=>by
   subst Eh;rcases Abe (c:=c) (s:=⟨k1,false,x1,D⟩) rfl 3 with⟨h1,_⟩|⟨a,h1⟩
   ·rw[h1];exact Nat.lt_succ_self _
   ·rw[h1] at Dr;cases Dr
  have r9:b1=true->(Ai c ⟨k1,b1,x1,D⟩ 3).2.bad=true:=fun Eh=>by rw[Agj Eh];exact Eh
  generalize Ai c ⟨k1,b1,x1,D⟩ 3=q at c2 d2 m2 e t8 r9;obtain⟨w2,k2,b2,x2,E2⟩:=q;simp only at c2 d2 m2 e t8 r9;subst d2;have cfm:=Akm w2;rw[e];cases b2;rotate_left
  ·rw[if_pos rfl];refine⟨Hj ?_,by simp only;omega,hN⟩;refine Ca mixed Tryz.func155 tr155 ?_;unfold rdS at c1 c2 |-;simp only at c1 c2 |-
   repeat' first
   |simp only[go_sem,seval,a1,a2,a3,a4,a10,q_je a8,q_g,k3,forall_const]
   |refine Ad c1 ?_
   |refine Ad c2 ?_
   |refine Aj cfm ?_
  rw[if_neg (by simp)];have Eh:b1=false:=by
   cases b1
   ·rfl
   ·exact absurd (r9 rfl) (by simp)
  have Es:=t8 Eh rfl;have cf:=Lv (nm:=nmG ns) (s:=⟨k2,false,x2,D⟩) (G:=G++D) hc k1;have La:=l9 w2;generalize Kv w2=g at cfm La;obtain⟨gk,gs'⟩:=g;simp only at cfm
  by_cases hg:gk=0\/(want=1/\12<gk)\/(want=2/\2<gk/\gk<=12)
  ·rw[if_pos hg];rw[Oq];refine⟨Hj ?_,by rw[Ot];simp only;omega,hN⟩;refine Ca mixed Tryz.func155 tr155 ?_;unfold rdS at c1 c2 cf |-;simp only at c1 c2 cf |-;rcases hg with rfl|⟨rfl,hg⟩|⟨rfl,hg1,Hf⟩
   ·repeat' first
    |simp only[go_sem,seval,a1,a2,a3,a4,a10,q_je a8,q_g,k3,forall_const]
    |refine Ad c1 ?_
    |refine Ad c2 ?_
    |refine Aj cfm ?_
    |refine Ad cf ?_
   ·have g0:((gk:Int)==0)=false:=by rw[beq_eq_false_iff_ne];omega
    repeat' first
    |simp only[go_sem,seval,a1,a2,a3,a4,a10,q_je a8,q_g,k3,g0,q_jn (show (gk:Int) > 12 by omega),forall_const]
    |refine Ad c1 ?_
    |refine Ad c2 ?_
    |refine Aj cfm ?_
    |refine Ad cf ?_
   ·have g0:((gk:Int)==0)=false:=by rw[beq_eq_false_iff_ne];omega
    repeat' first
    |simp only[go_sem,seval,a1,a2,a3,a4,a10,q_je a8,q_g,k3,g0,q_jn (show (gk:Int) > 2 by omega),q_jn (show (gk:Int)<=12 by omega),forall_const]
    |refine Ad c1 ?_
    |refine Ad c2 ?_
    |refine Aj cfm ?_
    |refine Ad cf ?_
  ·rw[if_neg hg];have hmem:(w2,gk,gs')∈formsG:=by
    rcases La with La|La
    ·cases La;exact absurd (.inl rfl) hg
    ·exact La
   obtain⟨cl,l2,l3⟩:=Ary (ns:=ns) (s:=⟨k2,false,x2,D⟩) (G:=G) hc (ih (by omega)) (by omega) rfl hN hG (by simp only;omega) hmem;refine⟨?_,q_kn (by simp only;omega) l2,l3⟩;refine Ca mixed Tryz.func155 tr155 ?_;unfold rdS at c1 c2 cl |-;simp only at c1 c2 cl |-;have g0:((gk:Int)==0)=false:=by rw[beq_eq_false_iff_ne];omega
   have h3:want=0\/want=1\/want=2:=by omega
   rcases h3 with rfl|rfl|rfl
   ·repeat' first
    |simp only[go_sem,seval,a1,a2,a3,a4,a10,q_je a8,q_g,k3,g0,forall_const]
    |refine Ad c1 ?_
    |refine Ad c2 ?_
    |refine Aj cfm ?_
    |refine Ad cl ?_
   ·repeat' first
    |simp only[go_sem,seval,a1,a2,a3,a4,a10,q_je a8,q_g,k3,g0,q_je (show ¬(gk:Int) > 12 by omega),forall_const]
    |refine Ad c1 ?_
    |refine Ad c2 ?_
    |refine Aj cfm ?_
    |refine Ad cl ?_
   ·by_cases Hf:2<gk
    ·repeat' first
     |simp only[go_sem,seval,a1,a2,a3,a4,a10,q_je a8,q_g,k3,g0,q_jn (show (gk:Int) > 2 by omega),q_je (show ¬(gk:Int)<=12 by omega),forall_const]
     |refine Ad c1 ?_
     |refine Ad c2 ?_
     |refine Aj cfm ?_
     |refine Ad cl ?_
    ·repeat' first
     |simp only[go_sem,seval,a1,a2,a3,a4,a10,q_je a8,q_g,k3,g0,q_je (show ¬(gk:Int) > 2 by omega),forall_const]
     |refine Ad c1 ?_
     |refine Ad c2 ?_
     |refine Aj cfm ?_
     |refine Ad cl ?_
end
def Arq(l:By):Le (.tup (Af3 (Bs l))) (.tup [.dsl 3 ((De l).map Gp),.int .i64 (match (Bs l).2 with|none=>0|some _=>2),.int .i64 (match (Bs l).2 with|none=>0|some p=>(p:Int))]):=by
 unfold De;obtain⟨ts,e⟩:=Bs l;have key:∀(ts:List Tok) (a b:SV),Le (.tup [Adf 3 (ts.map Gp),a,b]) (.tup [.dsl 3 (ts.map Gp),a,b]):=fun ts a b=>by
  refine .tup _ _ (.cons _ _ _ _ (.cell _ _ ?_) (.cons _ _ _ _ (.cell _ _ (.refl _)) (.cons _ _ _ _ (.cell _ _ (.refl _)) .nil)));cases ts with
  |nil=>exact .nils 3
  |cons t ts=>exact .refl _
 cases e with
 |none=>exact key ts _ _
 |some p=>exact key [] _ _
def Xb{l:By}(hl:l.length<100000000000):Con 39 [.str (bs l)] (.tup [.dsl 3 ((De l).map Gp),.int .i64 (match (Bs l).2 with|none=>0|some _=>2),.int .i64 (match (Bs l).2 with|none=>0|some p=>(p:Int))]):=
 (Akr (by omega)).weaken (Arq l)
def Wo(l:By):(De l).length<=l.length:=by
 have h:=(Li l).le;unfold De;generalize Bs l=R at *
 obtain⟨ts,e⟩:=R;cases e with
 |none=>simp only at h |-;omega
 |some p=>simp
def Jo:Tm×Option Nat->List SV
 |(t,none)=>[.agg true (tv t),.int .i64 0,.int .i64 0]
 |(_,some p)=>[.agg true (tv zR),.int .i64 2,.int .i64 p]
def Rg:Tm×Option Nat->List SV
 |(t,none)=>[.agg true (tv t),.int .i64 0,.int .i64 0]
 |(_,some p)=>[.agg true (tvn zR),.int .i64 2,.int .i64 p]
def Aub(r:Tm×Option Nat):Le (.tup (Rg r)) (.tup (Jo r)):=by
 obtain⟨t,e⟩:=r;have lr:∀x:SV,Lev x x:=fun x=>.cell _ _ (.refl _)
 cases e with
 |none=>exact .tup _ _ (.cons _ _ _ _ (lr _) (.cons _ _ _ _ (lr _) (.cons _ _ _ _ (lr _) .nil)))
 |some p=>
  refine .tup _ _ (.cons _ _ _ _ ?_ (.cons _ _ _ _ (lr _) (.cons _ _ _ _ (lr _) .nil)));have:=Hk zR;cases this with
  |val _ _ h=>exact h
def Asx(r:Tm×Option Nat):NoG (.tup (Rg r)):=by
 obtain⟨t,e⟩:=r;cases e with
 |none=>exact .tup _ (fun x hx=>by
   simp only[Rg,q_kb,q_kc,or_false] at hx;rcases hx with rfl|rfl|rfl
   ·exact Od t true
   ·exact .int _ _
   ·exact .int _ _)
 |some p=>exact .tup _ (fun x hx=>by
   simp only[Rg,q_kb,q_kc,or_false] at hx;rcases hx with rfl|rfl|rfl
   ·exact .agg _ _ (fun x hx=>by
     simp only[tvn,zR,q_kb,q_kc,or_false] at hx;rcases hx with rfl|rfl|rfl|rfl|rfl
     ·exact .int _ _
     ·exact .int _ _
     ·exact .int _ _
     ·exact .int _ _
     ·exact .nils)
   ·exact .int _ _
   ·exact .int _ _)
def Aua{t:Tm}:Rg (t,none)=[.agg true (tv t),.int .i64 0,.int .i64 0]:=rfl
def Yu{t:Tm}{p:Nat}:Rg (t,some p)=[.agg true [.int .i64 0,.int .i64 0,.int .i64 0,.int .i64 0,.nils],.int .i64 2,.int .i64 p]:=rfl
def Ak6{tx:By}{ns:List By}(Bq:ns.length<=1000000000)(Vs:tx.length<1000000000){i j:Nat}(hi:i<=1000)(hj:j<=1000) :
  Con 125 [.str (bs tx),nmG ns,.int .i64 i,.int .i64 j] (.tup (Jo (Gn tx ns i j))):=by
 have hL:=Wo tx;have c0:=Xb (l:=tx) (by omega);have hle:=(Li tx).le.2.2;have Ew:∀x∈[SV.str (bs tx),nmG ns,.int .i64 i,.int .i64 j],NoG x:=fun x hx=>by
  simp only[q_kb,q_kc,or_false] at hx;rcases hx with rfl|rfl|rfl|rfl
  ·exact .str _
  ·exact Agm _
  ·exact .int _ _
  ·exact .int _ _
 have i3:¬(i:Int)<0:=by omega
 have i4:¬(j:Int)<0:=by omega
 have i5:¬(i:Int) > 1000:=by omega
 have i6:¬(j:Int) > 1000:=by omega
 refine Contract.weaken (r:=.tup (Rg _)) ?_ (Aub _);refine j5 mixed Tryz.func125 tr125 Ew (Asx _) ?_;clear Ew;unfold Gn rcR;cases hx:(Bs tx).2 with
 |none=>
  rw[hx] at c0;simp only at c0 |-;have hc:Fa ⟨De tx,tx.length,i,j⟩:=⟨by simp only;omega,hi,hj⟩
  obtain⟨c1,m1,n1⟩:=Ahp hc ((De tx).length+1) (Nat.succ_pos _) ns 0 ⟨0,false,0,[]⟩ [] (by simp only;omega) (by omega) (by omega) .nil .nil;generalize En ⟨De tx,tx.length,i,j⟩ ((De tx).length+1) ns 0 ⟨0,false,0,[]⟩=q at *
  obtain⟨t,k,b,a,D⟩:=q;simp only[q_kl] at c1 m1 n1 |-;have cf:=Lv (nm:=nmG ns) (s:=⟨k,b,a,D⟩) (G:=D) hc k;have hb:((De tx).length<=140737488355328)=True:=by simp;omega
  unfold rdS nmG at *
  simp only at *
  cases b
  ·by_cases hk:k<(De tx).length
   ·have Gr:(Cu ⟨De tx,tx.length,i,j⟩ ⟨k,false,a,D⟩ k).bad=true:=rfl;simp only[hk,eq_self,true_or,true_and,and_self,if_true,Gr,Yu];generalize Cu ⟨De tx,tx.length,i,j⟩ ⟨k,false,a,D⟩ k=sf at *
    have El:(k:Int)<((De tx).length:Int):=by omega
    repeat' first
    |simp only[go_sem,seval,i3,i4,q_je i5,q_je i6,q_g,hb,El,Gr,forall_const]
    |refine Aj c0 ?_
    |refine Ad c1 ?_
    |refine Ad cf ?_
   ·have El:¬(k:Int)<((De tx).length:Int):=by omega
    simp only[hk,Option.isSome_none,q_kv,or_self,and_false,if_false,Aua]
    repeat' first
    |simp only[go_sem,seval,i3,i4,q_je i5,q_je i6,q_g,hb,El,forall_const]
    |refine Aj c0 ?_
    |refine Ad c1 ?_
  ·simp only[Bool.true_eq_false,false_and,if_false,if_true,Yu]
   repeat' first
   |simp only[go_sem,seval,i3,i4,q_je i5,q_je i6,q_g,hb,forall_const]
   |refine Aj c0 ?_
   |refine Ad c1 ?_
 |some p=>
  obtain⟨hp,_⟩:=hle p hx;rw[hx] at c0;have o0:=Wo (tx.take p);rw[q_kf] at o0;have c02:=Xb (l:=tx.take p) (by rw[q_kf];omega);generalize (match (Bs (tx.take p)).2 with|none=>(0:Int)|some _=>2)=z1 at c02;generalize (match (Bs (tx.take p)).2 with|none=>(0:Int)|some p=>(p:Int))=z2 at c02;simp only at c0 |-;generalize De (tx.take p)=L2 at *
  have hc:Fa ⟨L2,p,i,j⟩:=⟨by simp only;omega,hi,hj⟩
  obtain⟨c1,m1,n1⟩:=Ahp hc (L2.length+1) (Nat.succ_pos _) ns 0 ⟨0,false,0,[]⟩ [] (by simp only;omega) (by omega) (by omega) .nil .nil;generalize En ⟨L2,p,i,j⟩ (L2.length+1) ns 0 ⟨0,false,0,[]⟩=q at *
  obtain⟨t,k,b,a,D⟩:=q;simp only[q_kl] at c1 m1 n1 |-;have cf:=Lv (nm:=nmG ns) (s:=⟨k,b,a,D⟩) (G:=D) hc k;have hb:((De tx).length<=140737488355328)=True:=by simp;omega
  have Dr:(L2.length<=140737488355328)=True:=by simp;omega
  have g0:(0:Int)<=(p:Int):=by omega
  have g1:(p:Int)<=(tx.length:Int):=by omega
  have g2:p<=tx.length:=by omega
  unfold rdS nmG at *
  simp only at *
  cases b
  ·have Gr:(Cu ⟨L2,p,i,j⟩ ⟨k,false,a,D⟩ k).bad=true:=rfl;simp only[eq_self,Option.isSome_some,or_true,true_and,and_self,if_true,Gr,Yu];generalize Cu ⟨L2,p,i,j⟩ ⟨k,false,a,D⟩ k=sf at *
   by_cases El:(k:Int)<(L2.length:Int)
   ·repeat' first
    |simp only[go_sem,seval,i3,i4,q_je i5,q_je i6,q_g,hb,Dr,g0,g1,g2,El,Gr,forall_const,List.drop_zero,q_kp]
    |refine Aj c0 ?_
    |refine Aj c02 ?_
    |refine Ad c1 ?_
    |refine Ad cf ?_
   ·repeat' first
    |simp only[go_sem,seval,i3,i4,q_je i5,q_je i6,q_g,hb,Dr,g0,g1,g2,El,Gr,forall_const,List.drop_zero,q_kp]
    |refine Aj c0 ?_
    |refine Aj c02 ?_
    |refine Ad c1 ?_
    |refine Ad cf ?_
  ·simp only[Bool.true_eq_false,false_and,if_false,if_true,Yu]
   repeat' first
   |simp only[go_sem,seval,i3,i4,q_je i5,q_je i6,q_g,hb,Dr,g0,g1,g2,forall_const,List.drop_zero,q_kp]
   |refine Aj c0 ?_
   |refine Aj c02 ?_
   |refine Ad c1 ?_
def Fh(k p:Int):Int:=
 if k=3\/k=5\/k=6\/k=7\/k=8\/k=9\/k=13\/k=14\/k=16\/k=17 then (if p=1 then 1 else 0)
 else if k=4 then (if p=1\/p=2 then 1 else 0)
 else if k=22 then (if p=2 then 2 else 0) else 0
def Zu(k p:Int):0<=Fh k p/\Fh k p<=2:=by
 unfold Fh
 repeat' split
 all_goals omega
def Acv(k p:Int):Con 99 [.int .i64 k,.int .i64 p] (.int .i64 (Fh k p)):=by
 refine Cq mixed Tryz.func99 tr99 ?_
 by_cases h:k=3\/k=5\/k=6\/k=7\/k=8\/k=9\/k=13\/k=14\/k=16\/k=17
 ·have e:Fh k p=if p=1 then 1 else 0:=by unfold Fh;rw[if_pos h]
  rw[e];rcases h with rfl|rfl|rfl|rfl|rfl|rfl|rfl|rfl|rfl|rfl <;>
   (cases hp:(p==1)<;>simp only[beq_iff_eq,beq_eq_false_iff_ne,ne_eq] at hp<;>simp only[go_sem,seval,hp,Bp])
 ·by_cases h4:k=4
  ·subst h4;have e:Fh 4 p=if p=1\/p=2 then 1 else 0:=by unfold Fh;rw[if_neg (by decide),if_pos rfl]
   rw[e]
   by_cases h1:p=1
   ·subst h1;simp only[go_sem,seval]
   ·by_cases h2:p=2
    ·subst h2;simp only[go_sem,seval]
    ·rw[if_neg (by omega)];simp only[go_sem,seval,Bp h1,Bp h2]
  ·by_cases m9:k=22
   ·subst m9;have e:Fh 22 p=if p=2 then 2 else 0:=by unfold Fh;rw[if_neg (by decide),if_neg (by decide),if_pos rfl]
    rw[e]
    by_cases h2:p=2
    ·subst h2;simp only[go_sem,seval]
    ·rw[if_neg h2];simp only[go_sem,seval,Bp h2]
   ·have e:Fh k p=0:=by unfold Fh;rw[if_neg h,if_neg h4,if_neg m9]
    rw[e];simp only[go_sem,seval,Bp (show k≠3 by omega),Bp h4,Bp (show k≠5 by omega),Bp (show k≠6 by omega),Bp (show k≠7 by omega),Bp (show k≠8 by omega),Bp (show k≠9 by omega),Bp (show k≠13 by omega),Bp (show k≠14 by omega),Bp (show k≠16 by omega),Bp (show k≠17 by omega),Bp m9]
mutual
def Lx:Tm->Nat
 |.mk _ _ _ _ l=>Mt l+1
def Mt:List Tm->Nat
 |[]=>0
 |t::l=>max (Lx t) (Mt l)
end
def Aqr(k i j n:Int)(l:List Tm):Lx (.mk k i j n l)=Mt l+1:=by rw[Lx]
def Aqs{t:Tm}:∀{l:List Tm},t∈l->Lx t<=Mt l:=by
 intro l
 induction l with
 |nil=>intro h;cases h
 |cons u l ih=>
  intro h;rw[Mt];rcases q_kb.1 h with rfl|h
  ·omega
  ·have:=ih h;omega
def Aig{α:Type}{f:Nat->α->Bool}{x:α}:∀{l:List α} {p:Nat},Gw f p l=true->x∈l->∃q,f q x=true:=by
 intro l
 induction l with
 |nil=>intro p _ h;cases h
 |cons y l ih=>
  intro p h hx;rw[Gw,q_jl] at h;rcases q_kb.1 hx with rfl|hx
  ·exact⟨p,h.1⟩
  ·exact ih h.2 hx
def Ag6{k i j n w:Int}{l:List Tm}{t:Tm}(h:Ek (.mk k i j n l) w=true)(ht:t∈l):∃w',Ek t w'=true:=by
 rw[Na,q_jl] at h;obtain⟨q,hq⟩:=Aig h.2 ht;exact⟨_,hq⟩
def Ag7{k i j n w:Int}{l:List Tm}(h:Ek (.mk k i j n l) w=true)(hk:k=2):0<=i/\i<=2147483647:=by
 rw[Na,q_jl] at h;have h1:=h.1;unfold Jp at h1;rw[q_jl,q_jl] at h1;have h2:=h1.2.2;unfold Lk at h2;rw[if_neg (by omega),if_pos hk] at h2;simp only[q_jl,q_jt] at h2;exact⟨h2.1,h2.2.1⟩
def Zgq{k i j n:Int}{l:List Tm}(h:TOk (.mk k i j n l)):fit k/\fit i/\fit j/\fit n/\l.length*56<=140737488355328/\∀t∈l,TOk t:=by
 cases h with
 |mk _ _ _ _ _ f1 f2 f3 f4 hb hl=>exact⟨f1,f2,f3,f4,hb,hl⟩
def pm(F:Nat->Int):Nat->Int
 |0=>0
 |x+1=>max (pm F x) (F x)
def Atx(F:Nat->Int):∀x,0<=pm F x:=by
 intro x
 induction x with
 |zero=>exact Int.le_refl _
 |succ x ih=>rw[pm];omega
def Atu(F:Nat->Int)(d:Int)(hd:0<=d):∀x,pm (fun y=>max (F y-d) 0) x=max (pm F x-d) 0:=by
 intro x
 induction x with
 |zero=>simp only[pm];omega
 |succ x ih=>rw[pm,pm,ih];omega
def Abk{F G:Nat->Int}:∀{x:Nat},(∀y,y<x->F y=G y)->pm F x=pm G x:=by
 intro x
 induction x with
 |zero=>intro _;rfl
 |succ x ih=>intro h;rw[pm,pm,ih (fun y hy=>h y (by omega)),h x (by omega)]
def Atv{F:Nat->Int}{b:Int}(hb:0<=b):∀{x:Nat},(∀y,y<x->F y<=b)->pm F x<=b:=by
 intro x
 induction x with
 |zero=>intro _;exact hb
 |succ x ih=>intro h;rw[pm];have:=ih (fun y hy=>h y (by omega));have:=h x (by omega);omega
def Aty(F:Nat->Int):∀x,pm F (x+1)=max (F 0) (pm (fun y=>F (y+1)) x):=by
 intro x
 induction x with
 |zero=>simp only[pm];omega
 |succ x ih=>rw[pm,ih,pm];omega
mutual
def Eu:Tm->Int
 |.mk k i _ _ l=>if k=2 then i+1 else Mn k 0 l
def Mn(k:Int):Nat->List Tm->Int
 |_,[]=>0
 |p,t::l=>max (Eu t-Fh k p) (Mn k (p+1) l)
end
def Apf(k:Int):∀(l:List Tm) (p:Nat),Mn k p l=pm (fun y=>Eu (l[y]?.getD default)-Fh k ((p+y:Nat):Int)) l.length:=by
 intro l
 induction l with
 |nil=>intro p;rw[Mn];rfl
 |cons t l ih=>
  intro p;rw[Mn,ih,q_jk,Aty];simp only[q_jv,List.getElem?_cons_succ,q_jz,q_jp];congr 1;refine Abk (fun y _=>?_);rw[show p+1+y=p+(y+1) by omega]
def Adq{k i j n:Int}{l:List Tm}(h:k≠2):Eu (.mk k i j n l)=pm (fun y=>Eu (l[y]?.getD default)-Fh k ((y:Nat):Int)) l.length:=by
 rw[Eu,if_neg h,Apf];exact Abk (fun y _=>by rw[q_jg])
def Apg(t:Tm):∀w,Ek t w=true->0<=Eu t/\Eu t<=2147483648:=by
 induction t using Tm.ind with
 |h k i j n l ih=>
  intro w hr
  by_cases h:k=2
  ·have:=Ag7 hr h;rw[Eu,if_pos h];omega
  ·rw[Adq h];refine⟨Atx _ _,Atv (by omega) (fun y hy=>?_)⟩;obtain⟨w',hw⟩:=Ag6 hr (Sd (d:=default) hy);have:=ih _ (Sd (d:=default) hy) w' hw;have:=Zu k y;omega
def Atw{V:Nat->Int}{x:Nat}:(if pm V x<V x then V x else pm V x)=pm V (x+1):=by
 rw[pm];split<;>omega
def Ako(k i j n d:Int)(rows:GV)(V:Nat->Int)(h2:rows.length*56<=140737488355328)(h5:∀r∈rows,r.length=5)(hk:k≠2)(hd:0<=d)(Uy:d<=1000000000000)
  (H:∀x,x<rows.length->Con 88 [.agg true (rows[x]?.getD []),.int .i64 (d+Fh k (x:Nat))] (.int .i64 (V x))) :
  Con 88 [.agg true [.int .i64 k,.int .i64 i,.int .i64 j,.int .i64 n,.dsl 5 rows],.int .i64 d] (.int .i64 (pm V rows.length)):=by
 refine Cq mixed Tryz.func88 tr88 ?_;have q:(k==2)=false:=Bp hk;simp only[go_sem,seval,q];intros;refine Ni (fun x=>⟨(.J::.int .i64 d::.ref 0 0 0 0::.J::.int .i64 0::.int .i64 (pm V x)::jk8 (jk4 (.dsl 5 rows::.int .i64 rows.length::.int .i64 x::Fe ([])))),[⟨true,5,[[.int .i64 k,.int .i64 i,.int .i64 j,.int .i64 n,.dsl 5 rows]],0,0,true⟩]⟩) rows.length (fun x hx=>?_) ?_
 ·simp only[go_sem,seval];refine⟨fun h=>?_,fun h=>?_⟩
  ·have Az:=q_ks h;have Hh:x<rows.length:=by omega
   have e0:(0:Int)<=(x:Int):=by omega
   have hm:=Sd (d:=[]) Hh;have Ov:=h5 _ hm;have hb:=Zu k x;have ew:IntKind.i64.wrap (d+Fh k x)=d+Fh k x:=w64 (by unfold fit;omega)
   repeat' first
   |simp only[go_sem,seval,Az,e0,Ov,ew,Atw]
   |refine Aj (Acv k x) ?_
   |refine Aj (H x Hh) ?_
   refine⟨Hh,?_⟩;rw[w64 (n:=(x:Int)+1) (by unfold fit;omega)];exact Jr 1 (by simp[Ci]) (by simp) (by simp[Dt]) (by simp)
  ·have Jc:=q_kt h;have Vv:x=rows.length:=by omega
   subst Vv;simp only[go_sem,seval,h]
 ·exact Cw (by simp[Ci,pm])
def Akn(t:Tm):TOk t->∀(w d:Int),Ek t w=true->0<=d->d+2*Lx t<=1000000000000->Con 88 [.agg true (tv t),.int .i64 d] (.int .i64 (max (Eu t-d) 0)):=by
 induction t using Tm.ind with
 |h k i j n l ih=>
  intro hok w d hr hd Dr;obtain⟨f1,f2,f3,f4,hb,hl⟩:=Zgq hok;rw[Aqr] at Dr
  by_cases hk:k=2
  ·obtain⟨i1,i2⟩:=Ag7 hr hk;have q:(k==2)=true:=by simp[hk]
   have e1:IntKind.i64.wrap (i+1)=i+1:=w64 (by unfold fit;omega);have e2:IntKind.i64.wrap (i+1-d)=i+1-d:=w64 (by unfold fit;omega);have e3:max (i+1-d) 0=if i+1-d<0 then 0 else i+1-d:=by split<;>omega
   rw[Eu,if_pos hk,e3];refine Cq mixed Tryz.func88 tr88 ?_;rw[Bo];simp only[go_sem,seval,q,e1,e2]
  ·have Bf:(l.map tv).length=l.length:=by simp
   have h:=Ako k i j n d (l.map tv) (fun x=>max (Eu (l[x]?.getD default)-(d+Fh k (x:Nat))) 0) (by omega) (rows5 l) hk hd (by omega) (fun x hx=>by
    rw[Bf] at hx;rw[q_ji,q_f hx];have hm:=q_kd hx;obtain⟨w',hw⟩:=Ag6 hr hm;have hh:=Aqs hm;have hbl:=Zu k x;exact ih _ hm (hl _ hm) w' _ hw (by omega) (by omega))
   rw[Bf,<-Bo] at h;have e:pm (fun x=>max (Eu (l[x]?.getD default)-(d+Fh k (x:Nat))) 0) l.length=max (Eu (.mk k i j n l)-d) 0:=by
    rw[Adq hk,<-Atu _ d hd];refine Abk (fun y _=>?_);show max (Eu (l[y]?.getD default)-(d+Fh k (y:Nat))) 0=max (Eu (l[y]?.getD default)-Fh k (y:Nat)-d) 0;congr 1;omega
   rw[e] at h;exact h
def Ou(t:Tm):Int:=if Ek t 0 then Eu t else 0
def Tx(t:Tm)(ht:TOk t)(hh:Lx t<=100000):Con 55 [.agg true (tv t)] (.int .i64 (Ou t)):=by
 have h1:=j1 t ht;have hz:=Cg t;unfold Ou;refine Cq mixed Tryz.func55 tr55 ?_;cases hr:Ek t 0
 ·rw[hr] at h1;simp only[go_sem,seval,hz];refine Aj h1 ?_;simp only[go_sem,seval]
 ·rw[hr] at h1;have h2:=Akn t ht 0 0 hr (by omega) (by omega);have hp:=Apg t 0 hr;rw[show max (Eu t-0) 0=Eu t by omega] at h2;simp only[go_sem,seval,hz];refine Aj h1 ?_;simp only[go_sem,seval,hz];refine Aj h2 ?_;simp only[go_sem,seval]
abbrev Ra(t:Tm):Bool:=Ek t 1
def Rv(t:Tm)(ht:TOk t):Con 20 [.agg true (tv t)] (.bool (Ra t)):=by
 refine Cq mixed Tryz.func20 tr20 ?_;have hc:=i8 t ht 1;cases t with
 |mk k i j n l=>
 rw[Bo] at hc |-;simp only[go_sem,seval];refine Aj hc ?_;simp only[go_sem,seval]
open Go Go.RowKit
def Nn(d:Nat)(t:Tok):Nat:=if t.k=1 then d+1 else if t.k=2 then d-1 else d
def dep(d:Nat)(ts:List Tok):Nat:=ts.foldl Nn d
def seg(c:RC)(a b:Nat):List Tok:=(c.L.drop a).take (b-a)
structure Bal(c:RC)(a b:Nat):Prop where
 le:a<=b
 len:b<=c.L.length
 d:∀d,dep d (seg c a b)=d
section
variable{c:RC}{a b e:Nat}
def Bal.refl(h:a<=c.L.length):Bal c a a:=⟨q_ja _,h,fun d=>by simp[seg,dep]⟩
def Abr(h1:a<=b)(h2:b<=e):seg c a b++seg c b e=seg c a e:=by
 unfold seg;rw[show e-a=(b-a)+(e-b) by omega,List.take_add,List.drop_drop,show a+(b-a)=b by omega]
def Bal.trans(h:Bal c a b)(k:Bal c b e):Bal c a e:=⟨q_kn h.le k.le,k.len,fun d=>by
 rw[<-Abr h.le k.le,dep,List.foldl_append];have h1:=h.d d;have k1:=k.d d;unfold dep at h1 k1;rw[h1,k1]⟩
def Abt(h:a<c.L.length):seg c a (a+1)=[c.tk a]:=by
 unfold seg RC.tk;rw[show a+1-a=1 by omega,List.drop_eq_getElem_cons h,q_j,q_f h];rfl
def Bal.word(h:a<c.L.length)(h1:(c.tk a).k≠1)(h2:(c.tk a).k≠2):Bal c a (a+1):=⟨Nat.le_succ _,h,fun d=>by
 rw[Abt h];simp[dep,Nn,h1,h2]⟩
def Bal.list(h:a<c.L.length)(h1:(c.tk a).k=1)(k:Bal c (a+1) b)(hb:b<c.L.length)(h2:(c.tk b).k=2):Bal c a (b+1):=⟨by have:=k.le;omega,hb,fun d=>by
 rw[<-Abr (b:=a+1) (by omega) (by have:=k.le;omega),<-Abr (a:=a+1) (b:=b) k.le (by omega),Abt h,Abt hb];have k1:=k.d (d+1);unfold dep at k1 |-;rw[List.foldl_append,List.foldl_append];have e1:List.foldl Nn d [c.tk a]=d+1:=by simp[Nn,h1]
 rw[e1,k1];simp[Nn,h2]⟩
end
def Au3:∀(l:List Tok) (i d:Nat),Oe l i d=none->l=[]\/dep d l≠0:=by
 intro l
 induction l with
 |nil=>intro i d _;exact .inl rfl
 |cons t r ih=>
  intro i d h;right;rw[Oe] at h
  by_cases hc:(if t.k=1 then d+1 else if t.k=2 then d-1 else d)=0
  ·rw[if_pos hc] at h;cases h
  ·rw[if_neg hc] at h;show List.foldl Nn (Nn d t) r≠0;rcases ih _ _ h with rfl|h2
   ·exact hc
   ·exact h2
section
variable{c:RC}{s:RS}
def Pk{kd:Nat}(h:(Ai c s kd).2.bad=false):s.bad=false/\s.k<c.L.length/\(c.tk s.k).k=kd/\Ai c s kd=((c.tk s.k).w,s.nx):=by
 cases hb:s.bad with
 |true=>rw[Agj hb] at h;rw[hb] at h;cases h
 |false=>
  rcases Abe (c:=c) hb kd with⟨h1,h2,h3⟩|⟨a,h1⟩
  ·exact⟨rfl,h2,h3,h1⟩
  ·rw[h1] at h;cases h
def Kh(k:Nat):(Cu c s k).bad=true:=by unfold Cu;split;assumption;rfl
def Asd{lev:RS->Nat×RS}(hl:∀s,(lev s).2.bad=false->s.bad=false/\(s.k<=c.L.length->Bal c s.k (lev s).2.k))(h:(Ie c lev s).2.bad=false) :
  s.bad=false/\(s.k<=c.L.length->∃b,Bal c s.k b/\b<c.L.length/\(c.tk b).k=2/\(Ie c lev s).2.k=b+1):=by
 unfold Ie at h |-;dsimp only at h |-;obtain⟨h1,h2,h3,h4⟩:=Pk h;rw[h4];split at h1
 ·rename_i hc;rw[if_pos hc] at h2 h3 |-;obtain⟨g1,g2⟩:=hl s.nx h1;exact⟨g1,fun _=>⟨_,(Bal.word hc.1 (by rw[hc.2.1];decide) (by rw[hc.2.1];decide)).trans (g2 hc.1),h2,h3,rfl⟩⟩
 ·rename_i hc;rw[if_neg hc] at h2 h3 |-;split at h1
  ·rename_i hc;rw[if_pos hc] at h2 h3 |-;obtain⟨g1,g2⟩:=hl (lev s.nx).2 h1;obtain⟨g3,g4⟩:=hl s.nx g1;have g5:=g4 hc.1;exact⟨g3,fun _=>⟨_,(Bal.word hc.1 (by rw[hc.2.1];decide) (by rw[hc.2.1];decide)).trans (g5.trans (g2 g5.len)),h2,h3,rfl⟩⟩
  ·rw[Kh] at h1;cases h1
def Ta:∀(f:Nat) (s:RS),(Cn c f s).2.bad=false->s.bad=false/\(Cn c f s).1<=1000/\(s.k<=c.L.length->Bal c s.k (Cn c f s).2.k):=by
 intro f
 induction f with
 |zero=>intro s h;exact⟨h,Nat.zero_le _,fun hk=>Bal.refl hk⟩
 |succ f ih=>
  intro s h;rw[Cn] at h |-
  by_cases h0:s.bad=false/\s.k<c.L.length
  ·rw[if_pos h0] at h |-;have key:∀(q:Nat×RS),((if q.2.bad=false/\1000<q.1 then Cu c q.2 s.k else q.2)).bad=false->q.2.bad=false/\q.1<=1000/\(if q.2.bad=false/\1000<q.1 then Cu c q.2 s.k else q.2)=q.2:=fun q h=>by
    by_cases hc:q.2.bad=false/\1000<q.1
    ·rw[if_pos hc,Kh] at h;cases h
    ·rw[if_neg hc] at h |-;exact⟨h,Nat.le_of_not_lt (fun k=>hc ⟨h,k⟩),rfl⟩
   dsimp only at h |-;obtain⟨k1,k2,k3⟩:=key _ h;rw[k3];refine⟨h0.1,k2,fun hk=>?_⟩;clear k2 k3 h key
   by_cases h4:(c.tk s.k).k=4
   ·rw[if_pos h4] at k1 |-;exact Bal.word h0.2 (by rw[h4];decide) (by rw[h4];decide)
   rw[if_neg h4] at k1 |-
   by_cases h5:(c.tk s.k).k=3/\(c.tk s.k).w=[105]
   ·rw[if_pos h5] at k1 |-;exact Bal.word h0.2 (by rw[h5.1];decide) (by rw[h5.1];decide)
   rw[if_neg h5] at k1 |-
   by_cases h6:(c.tk s.k).k=3/\(c.tk s.k).w=[106]
   ·rw[if_pos h6] at k1 |-;exact Bal.word h0.2 (by rw[h6.1];decide) (by rw[h6.1];decide)
   rw[if_neg h6] at k1 |-
   by_cases h7:(c.tk s.k).k=1
   ·rw[if_pos h7] at k1 |-;obtain⟨_,g2⟩:=Asd (fun s h=>⟨(ih s h).1,(ih s h).2.2⟩) k1;obtain⟨b,g3,g4,g5,g6⟩:=g2 h0.2;rw[g6];exact Bal.list h0.2 h7 g3 g4 g5
   ·rw[if_neg h7,Kh] at k1;cases k1
  ·rw[if_neg h0,Kh] at h;cases h
end
def GT(n want f:Nat)(t:Tm):Prop:=Ek t want=true/\Eu t<=n/\TOk t/\Lx t<=f
def Ks(n f:Nat):List (Nat×Nat)->List Tm->Prop
 |[],[]=>True
 |(b,w)::r,t::l=>GT (n+b) w f t/\Ks n f r l
 |_,_=>False
def Ks.len{n f:Nat}:∀{r:List (Nat×Nat)} {l:List Tm},Ks n f r l->l.length=r.length:=by
 intro r
 induction r with
 |nil=>intro l h;cases l with
  |nil=>rfl
  |cons=>cases h
 |cons a r ih=>
  intro l h;cases l with
  |nil=>cases h
  |cons t l=>rw[q_jk,q_jk,ih h.2]
def shK(k:Nat):Nat->By->List (Nat×Nat)
 |_,[]=>[]
 |bd,ch::r=>
  if ch.toNat=76 then shK k bd r else if ch.toNat=77 then shK k bd r
  else if ch.toNat=120\/ch.toNat=121\/ch.toNat=101 then shK k (bd+1) r
  else if ch.toNat=116 then (0,ofR k)::shK k bd r
  else if ch.toNat=112 then (0,2)::shK k bd r
  else (bd,ofR k)::shK k bd r
def nbS:By->Nat
 |[]=>0
 |ch::r=>(if ch.toNat=120\/ch.toNat=121\/ch.toNat=101 then 1 else 0)+nbS r
def Hp(m:Nat)(sh:By):Bool:=sh.any fun c=>decide (c.toNat=m)
def TGd(c:RC)(T:TR)(f:Nat):Prop:=∀(ns:List By) (want:Nat) (s:RS),c.L.length<s.k+f->want<=2->s.k<=c.L.length->(T ns want s).2.bad=false->s.bad=false/\Bal c s.k (T ns want s).2.k/\(ns.length+3*f<2000000000->GT ns.length want f (T ns want s).1)
section
variable{c:RC}{T:TR}{f:Nat}{ns:List By}
def Age(hB:∀s,s.bad=true->(T ns 2 s).2.bad=true):∀(m:Nat) (s:RS),s.bad=true->(Fo T ns m s).2.bad=true:=by
 intro m
 induction m with
 |zero=>intro s h;exact h
 |succ m ih=>intro s h;exact ih _ (hB s h)
def Asf(hT:TGd c T f)(hB:∀s,s.bad=true->(T ns 2 s).2.bad=true):∀(m:Nat) (s:RS),c.L.length<s.k+f->s.k<=c.L.length->(Fo T ns m s).2.bad=false->s.bad=false/\Bal c s.k (Fo T ns m s).2.k/\(ns.length+3*f<2000000000->Ks ns.length f (List.replicate m (0,2)) (Fo T ns m s).1):=by
 intro m
 induction m with
 |zero=>intro s _ hk h;exact⟨h,Bal.refl hk,fun _=>trivial⟩
 |succ m ih=>
  intro s hf hk h;have h1:(Fo T ns m (T ns 2 s).2).2.bad=false:=h;have hb:(T ns 2 s).2.bad=false:=by
   cases hb:(T ns 2 s).2.bad with
   |false=>rfl
   |true=>rw[Age hB m _ hb] at h1;cases h1
  obtain⟨g1,g2,g3⟩:=hT ns 2 s hf (by omega) hk hb;obtain⟨g4,g5,g6⟩:=ih _ (by have:=g2.le;omega) g2.len h1;exact⟨g1,g2.trans g5,fun hn=>⟨g3 hn,g6 hn⟩⟩
structure It(c:RC)(n f k:Nat)(sh:By)(x x':AccR)(s s':RS):Prop where
 b:s.bad=false
 bal:Bal c s.k s'.k
 nn:x'.n=x.n
 l:∃new,(n+3*f+3<2000000000->Ks n f (shK k x.bd.length sh) new)/\x'.l=x.l++new
 a:if Hp 76 sh=true then x'.a<=1000 else x'.a=x.a
 b':if Hp 77 sh=true then x'.b<=1000 else x'.b=x.b
def Ar5{k:Nat}(Ah:k≠23)(hT:TGd c T f)  :∀(sh:By) (x:AccR) (s:RS),Hp 83 sh=false->x.bd.length+nbS sh<=3->c.L.length<s.k+f->s.k<=c.L.length->(Ea c T ns k sh x s).2.bad=false->It c ns.length f k sh x (Ea c T ns k sh x s).1 s (Ea c T ns k sh x s).2:=by
 have Ak:ofR k<=2:=by unfold ofR;split<;>omega
 intro sh
 induction sh with
 |nil=>intro x s _ _ _ hk h;exact⟨h,Bal.refl hk,rfl,⟨[],fun _=>trivial,by simp[Ea]⟩,rfl,rfl⟩
 |cons ch r ih=>
  intro x s h83 s7 hf hk h;have hb0:s.bad=false:=by
   cases hb:s.bad with
   |false=>rfl
   |true=>rw[Ea,if_pos hb] at h;rw[hb] at h;cases h
  have e:Ea c T ns k (ch::r) x s=Ea c T ns k r (Ds c T ns k ch x s).1 (Ds c T ns k ch x s).2:=by rw[Ea,if_neg (by rw[hb0];decide)]
  rw[e] at h |-;have hcc:Hp 83 r=false/\ch.toNat≠83:=by
   unfold Hp at h83 |-;rw[List.any_cons,Bool.or_eq_false_iff] at h83;exact⟨h83.2,by simpa using h83.1⟩
  have n5:Hp 76 (ch::r)=(decide (ch.toNat=76) || Hp 76 r):=rfl;have n6:Hp 77 (ch::r)=(decide (ch.toNat=77) || Hp 77 r):=rfl;have hnb:nbS (ch::r)=(if ch.toNat=120\/ch.toNat=121\/ch.toNat=101 then 1 else 0)+nbS r:=rfl;rw[hnb] at s7
  -- the rest,once it is known what the part does
  have key:∀(x1:AccR) (s1:RS),Ds c T ns k ch x s=(x1,s1)->x1.bd.length+nbS r<=3->(s1.bad=false->Bal c s.k s1.k)->s1.bad=false/\It c ns.length f k r x1 (Ea c T ns k r x1 s1).1 s1 (Ea c T ns k r x1 s1).2/\Bal c s.k (Ea c T ns k r x1 s1).2.k:=by
   intro x1 s1 he hl hB;rw[he] at h;have Eh:s1.bad=false:=by
    cases hb:s1.bad with
    |false=>rfl
    |true=>
     cases r with
     |nil=>rw[Ea] at h;rw[hb] at h;cases h
     |cons=>rw[Ea,if_pos hb] at h;rw[hb] at h;cases h
   have hB:=hB Eh;have:=ih x1 s1 hcc.1 hl (by have:=hB.le;omega) hB.len h;exact⟨Eh,this,hB.trans this.bal⟩
  by_cases c76:ch.toNat=76
  ·have he:Ds c T ns k ch x s=({ x with a:=(Cn c (c.L.length+1) s).1 },(Cn c (c.L.length+1) s).2):=by unfold Ds;rw[if_pos c76]
   obtain⟨g1,g2,g3⟩:=key _ _ he (by dsimp only;omega) (fun hb=>(Ta _ s hb).2.2 hk);rw[he];have y8:=(Ta _ s g1).2.1;have Qt:shK k x.bd.length (ch::r)=shK k x.bd.length r:=by rw[shK,if_pos c76]
   refine⟨hb0,g3,g2.nn,by rw[Qt];exact g2.l,?_,?_⟩
   ·rw[n5,if_pos (by simp[c76])];have:=g2.a;split at this
    ·exact this
    ·rw[this];exact y8
   ·have:=g2.b';rw[n6,show decide (ch.toNat=77)=false by simp;omega,Bool.false_or];exact this
  by_cases c77:ch.toNat=77
  ·have he:Ds c T ns k ch x s=({ x with b:=(Cn c (c.L.length+1) s).1 },(Cn c (c.L.length+1) s).2):=by unfold Ds;rw[if_neg c76,if_pos c77,if_neg Ah]
   obtain⟨g1,g2,g3⟩:=key _ _ he (by dsimp only;omega) (fun hb=>(Ta _ s hb).2.2 hk);rw[he];have y8:=(Ta _ s g1).2.1;have Qt:shK k x.bd.length (ch::r)=shK k x.bd.length r:=by rw[shK,if_neg c76,if_pos c77]
   refine⟨hb0,g3,g2.nn,by rw[Qt];exact g2.l,?_,?_⟩
   ·have:=g2.a;rw[n5,show decide (ch.toNat=76)=false by simp;omega,Bool.false_or];exact this
   ·rw[n6,if_pos (by simp[c77])];have:=g2.b';split at this
    ·exact this
    ·rw[this];exact y8
  have n76:Hp 76 (ch::r)=Hp 76 r:=by rw[n5,show decide (ch.toNat=76)=false by simp;omega,Bool.false_or]
  have n77:Hp 77 (ch::r)=Hp 77 r:=by rw[n6,show decide (ch.toNat=77)=false by simp;omega,Bool.false_or]
  by_cases cx:ch.toNat=120\/ch.toNat=121\/ch.toNat=101
  ·have he:Ds c T ns k ch x s=({ x with bd:=(Ai c s 3).1::x.bd },(Ai c s 3).2):=by unfold Ds;rw[if_neg c76,if_neg c77,if_neg hcc.2,if_pos cx]
   rw[if_pos cx] at s7;obtain⟨g1,g2,g3⟩:=key _ _ he (by simp only[q_jk];omega) (fun hb=>by
    obtain⟨q1,q2,q3,q4⟩:=Pk hb;rw[q4];exact Bal.word q2 (by rw[q3];decide) (by rw[q3];decide))
   rw[he];have Qt:shK k x.bd.length (ch::r)=shK k (x.bd.length+1) r:=by rw[shK,if_neg c76,if_neg c77,if_pos cx]
   exact⟨hb0,g3,g2.nn,by rw[Qt];exact g2.l,by rw[n76];exact g2.a,by rw[n77];exact g2.b'⟩
  rw[if_neg cx] at s7
  -- a term
  have tm:∀(ns':List By) (w b:Nat),Ds c T ns k ch x s=({ x with l:=x.l++[(T ns' w s).1] },(T ns' w s).2)->w<=2->ns'.length=ns.length+b->b<=x.bd.length->shK k x.bd.length (ch::r)=(b,w)::shK k x.bd.length r->It c ns.length f k (ch::r) x (Ea c T ns k r (Ds c T ns k ch x s).1 (Ds c T ns k ch x s).2).1 s (Ea c T ns k r (Ds c T ns k ch x s).1 (Ds c T ns k ch x s).2).2:=by
   intro ns' w b he hw hl hb Qt;have hT':=fun hb=>hT ns' w s hf hw hk hb
   obtain⟨g1,g2,g3⟩:=key _ _ he (by dsimp only;omega) (fun hb=>(hT' hb).2.1);rw[he];obtain⟨_,_,t3⟩:=hT' g1;obtain⟨new,l1,l2⟩:=g2.l;rw[hl] at t3;exact⟨hb0,g3,g2.nn,⟨_::new,by rw[Qt];exact fun hn=>⟨t3 (by omega),l1 hn⟩,by rw[l2];simp⟩,by rw[n76];exact g2.a,by rw[n77];exact g2.b'⟩
  by_cases ct:ch.toNat=116
  ·exact tm ns (ofR k) 0 (by unfold Ds;rw[if_neg c76,if_neg c77,if_neg hcc.2,if_neg cx,if_pos ct]) Ak rfl (Nat.zero_le _) (by rw[shK,if_neg c76,if_neg c77,if_neg cx,if_pos ct])
  by_cases cp:ch.toNat=112
  ·exact tm ns 2 0 (by unfold Ds;rw[if_neg c76,if_neg c77,if_neg hcc.2,if_neg cx,if_neg ct,if_pos cp]) (q_ja _) rfl (Nat.zero_le _) (by rw[shK,if_neg c76,if_neg c77,if_neg cx,if_neg ct,if_pos cp])
  ·exact tm (x.bd++ns) (ofR k) x.bd.length (by unfold Ds;rw[if_neg c76,if_neg c77,if_neg hcc.2,if_neg cx,if_neg ct,if_neg cp]) Ak (by rw[q_jr];omega) (q_ja _) (by rw[shK,if_neg c76,if_neg c77,if_neg cx,if_neg ct,if_neg cp])
end
def Adn{w:By}:∀{l:List By} {n:Nat},Fy w l=some n->n<l.length:=by
 intro l
 induction l with
 |nil=>intro n h;cases h
 |cons a l ih=>
  intro n h;rw[Fy] at h;split at h
  ·cases h;simp
  ·cases hq:Fy w l with
   |none=>rw[hq] at h;cases h
   |some m=>
    rw[hq] at h;cases h;exact Nat.succ_lt_succ (ih hq)
def okS(k:Nat):Nat->List (Nat×Nat)->Bool
 |_,[]=>true
 |p,(b,w)::r=>decide (ofN k p=(w:Int)) && (decide (Fh k (p:Nat)=(b:Int)) && okS k (p+1) r)
def Ks.right{n f k:Nat}:∀{r:List (Nat×Nat)} {l:List Tm} {p:Nat},Ks n f r l->okS k p r=true->Gw (fun p t=>Ek t (ofN k p)) p l=true/\Mn k p l<=n/\(∀t∈l,TOk t)/\Mt l<=f:=by
 intro r
 induction r with
 |nil=>
  intro l p h _;cases l with
  |nil=>exact⟨rfl,by rw[Mn];omega,fun t ht=>(by cases ht),by rw[Mt];omega⟩
  |cons=>cases h
 |cons a r ih=>
  obtain⟨b,w⟩:=a;intro l p h ho;cases l with
  |nil=>cases h
  |cons t l=>
   simp only[okS,q_jl,q_jt] at ho;obtain⟨o1,o2,o3⟩:=ho;obtain⟨⟨h1,h2,h3,h4⟩,h5⟩:=h;obtain⟨i1,i2,i3,i4⟩:=ih h5 o3;refine⟨?_,?_,?_,?_⟩
   ·rw[Gw,i1,q_ky,o1];exact h1
   ·rw[Mn,o2];omega
   ·intro u hu;rcases q_kb.1 hu with rfl|hu
    ·exact h3
    ·exact i3 u hu
   ·rw[Mt];omega
def Ago{n f want:Nat}{k a b m:Nat}{r:List (Nat×Nat)}{l:List Tm}(h:Ks n f r l)(ho:okS k 0 r=true)(hk:k≠2)(hr:Jp k a b m want r.length=true)(hb:k<24/\a<=1000/\b<=1000/\m<=21)(hl:r.length<=12):GT n want (f+1) (.mk k a b m l):=by
 obtain⟨h1,h2,h3,h4⟩:=h.right ho;refine⟨?_,?_,?_,?_⟩
 ·rw[Na,h1,h.len,hr];rfl
 ·rw[Eu,if_neg (by omega)];exact h2
 ·exact .mk _ _ _ _ _ (by unfold fit;omega) (by unfold fit;omega) (by unfold fit;omega) (by unfold fit;omega) (by rw[h.len];omega) h3
 ·rw[Lx];omega
def Pj{a:Nat}(h:a<=1000):lev a=true:=by unfold lev;simp;omega
def As7:∀(m p:Nat),okS 23 p (List.replicate m (0,2))=true:=by
 intro m
 induction m with
 |zero=>intro p;rfl
 |succ m ih=>
  intro p;rw[List.replicate_succ,okS,ih];have h1:ofN (23:Nat) p=(2:Nat):=by unfold ofN;rw[if_neg (by omega)];rfl
  have h2:Fh (23:Nat) (p:Nat)=(0:Nat):=by unfold Fh;rw[if_neg (by decide),if_neg (by decide),if_neg (by decide)];rfl
  rw[h1,h2];rfl
def Air:∀m,m<22->0<m->(arN m:Int)=Tp m/\arN m<=12:=by decide
section
variable{c:RC}{T:TR}{f:Nat}{ns:List By}{s:RS}
def Aga{k:Nat}{sh:By}{x:AccR}(hb:s.bad=true):(Ea c T ns k sh x s).2.bad=true:=by
 cases sh with
 |nil=>exact hb
 |cons=>rw[Ea,if_pos hb];exact hb
def Aa5{k:Nat}{ch:UInt8}{r:By}{x:AccR}(h:(Ea c T ns k (ch::r) x s).2.bad=false):s.bad=false/\Ea c T ns k (ch::r) x s=Ea c T ns k r (Ds c T ns k ch x s).1 (Ds c T ns k ch x s).2:=by
 cases hb:s.bad with
 |false=>exact⟨rfl,by rw[Ea,if_neg (by rw[hb];decide)]⟩
 |true=>rw[Aga hb] at h;cases h
def Av8(hT:TGd c T f)(hB:∀s,s.bad=true->(T ns 2 s).2.bad=true){want:Nat}(hw:want=0\/want=2)(hf:c.L.length<s.k+f)(hk:s.k<=c.L.length)(h:(Ea c T ns 23 [83,76,77] {} s).2.bad=false) :
  s.bad=false/\Bal c s.k (Ea c T ns 23 [83,76,77] {} s).2.k/\(ns.length+3*f<2000000000->GT ns.length want (f+1) ((Ea c T ns 23 [83,76,77] {} s).1.tm 23)):=by
 obtain⟨b0,e0⟩:=Aa5 h;rw[e0] at h |-;clear e0;rw[Wa] at h |-;cases Xn:Fy (Ai c s 3).1 symsL with
 |none=>
  rw[Xn] at h;rw[Aga (Kh _)] at h;cases h
 |some m=>
  rw[Xn] at h;dsimp only at h |-;obtain⟨b1,e1⟩:=Aa5 h;rw[e1] at h |-;clear e1;obtain⟨_,n2,n3,n4⟩:=Pk b1;have hm:m<21:=Adn Xn;rw[n4] at h |-;dsimp only at h |-;have w1:=Bal.word n2 (by rw[n3];decide) (by rw[n3];decide);rw[show ∀(x:AccR) (s:RS),Ds c T ns 23 76 x s=({ x with a:=(Cn c (c.L.length+1) s).1 },(Cn c (c.L.length+1) s).2) from fun _ _=>rfl] at h |-;dsimp only at h |-;obtain⟨b2,e2⟩:=Aa5 h;rw[e2] at h |-;clear e2;obtain⟨_,l2,l3⟩:=Ta _ _ b2;have l3:=l3 n2;generalize Cn c (c.L.length+1) s.nx=q1 at *
  obtain⟨a,s2⟩:=q1;dsimp only at h b2 l2 l3 |-;rw[Afu] at h |-;dsimp only at h |-;have h:(Fo T ns (arN (m+1)) { (Cn c (c.L.length+1) s2).2 with D:=[] }).2.bad=false:=h;have Qc:(Cn c (c.L.length+1) s2).2.bad=false:=by
   cases hb:(Cn c (c.L.length+1) s2).2.bad with
   |false=>rfl
   |true=>
    rw[Age hB (arN (m+1)) _ (by exact hb)] at h;cases h
  obtain⟨_,p2,p3⟩:=Ta _ _ Qc;have p3:=p3 l3.len;generalize Cn c (c.L.length+1) s2=q2 at *
  obtain⟨b,s3⟩:=q2;dsimp only at h p2 p3 Qc |-;have e5:s.nx.k=s.k+1:=rfl;obtain⟨_,m2,m3⟩:=Asf hT hB (arN (m+1)) { s3 with D:=[] } (by have:=l3.le;have:=p3.le;dsimp only;omega) p3.len h;obtain⟨t1,t2⟩:=Air (m+1) (by omega) (by omega);generalize Fo T ns (arN (m+1)) { s3 with D:=[] }=q3 at *
  obtain⟨l,s4⟩:=q3;dsimp only at m2 m3 |-;refine⟨b0,w1.trans (l3.trans (p3.trans m2)),fun Bq=>?_⟩;show GT ns.length want (f+1) (.mk (23:Nat) a b ((m+1:Nat)) l);refine Ago (m3 Bq) (As7 _ _) (by decide) ?_ ⟨by decide,l2,p2,by omega⟩ (by rw[q_ki];exact t2);rw[q_ki];unfold Jp Lk;rw[t1,show Pi (23:Nat) ((m+1:Nat))=Tp ((m+1:Nat)) from rfl,Pj l2,Pj p2];rcases hw with rfl|rfl<;>simp[Hv]
def Avi:∀(f:Nat) (ns:List By) (w:Nat) (s:RS),s.bad=true->(En c f ns w s).2.bad=true:=by
 intro f ns w s h;cases f with
 |zero=>exact h
 |succ f=>rw[En,if_pos h];exact h
def Asu{want:Nat}(h:(Jn c ns s).2.bad=false):s.bad=false/\(Jn c ns s).2.k=s.k+1/\(ns.length<2000000000->∀f,GT ns.length want (f+1) (Jn c ns s).1):=by
 unfold Jn at h |-;cases hf:Fy (c.tk s.k).w ns with
 |none=>rw[hf] at h;rw[Kh] at h;cases h
 |some n=>
  rw[hf] at h;have hn:=Adn hf;refine⟨h,rfl,fun Bq f=>⟨?_,?_,?_,?_⟩⟩
  ·rw[Na];unfold Jp Lk;have h1:(0:Int)<=n:=by omega
   have h2:(n:Int)<=2147483647:=by omega
   simp[Hv,Pi,tab,Gw,h1,h2]
  ·rw[Eu,if_pos rfl];omega
  ·exact .mk _ _ _ _ _ (by unfold fit;omega) (by unfold fit;omega) (by unfold fit;omega) (by unfold fit;omega) (by simp) (fun t ht=>by cases ht)
  ·rw[Lx,Mt];omega
def Apc{w:By}{k want n f:Nat}{sh:By}{x:AccR}(hm:(w,k,sh)∈formsG)(hk:k≠23)(hw:want<=2)(hw1:¬((want=1/\12<k)\/(want=2/\2<k/\k<=12)))
  (hn:x.n=0) (hl:Ks n f (shK k 0 sh) x.l) (ha:if Hp 76 sh=true then x.a<=1000 else x.a=0) (hb:if Hp 77 sh=true then x.b<=1000 else x.b=0):GT n want (f+1) (x.tm k):=by
 obtain⟨a,b,m,bd,l⟩:=x;dsimp only at hn hl ha hb;subst hn;show GT n want (f+1) (.mk k a b (0:Nat) l);simp only[formsG,q_kb,q_kc,or_false,Prod.mk.injEq] at hm;rcases hm with⟨_,rfl,rfl⟩|⟨_,rfl,rfl⟩|⟨_,rfl,rfl⟩|⟨_,rfl,rfl⟩|⟨_,rfl,rfl⟩|⟨_,rfl,rfl⟩|⟨_,rfl,rfl⟩|⟨_,rfl,rfl⟩|⟨_,rfl,rfl⟩|⟨_,rfl,rfl⟩|⟨_,rfl,rfl⟩|⟨_,rfl,rfl⟩|⟨_,rfl,rfl⟩|⟨_,rfl,rfl⟩|⟨_,rfl,rfl⟩|⟨_,rfl,rfl⟩|⟨_,rfl,rfl⟩|⟨_,rfl,rfl⟩|⟨_,rfl,rfl⟩|⟨_,rfl,rfl⟩|⟨_,rfl,rfl⟩|⟨_,rfl,rfl⟩
 all_goals first|exact absurd rfl hk|skip
 all_goals
  simp only[Hp,List.any_cons,List.any_nil] at ha hb;simp only[UInt8.toNat_ofNat,Nat.reducePow,Nat.reduceMod,Nat.reduceEqDiff,decide_true,decide_false,Bool.or_false,Bool.false_or,Bool.true_or,Bool.or_true,Bool.or_self,q_kv,if_true,if_false] at ha hb
 all_goals
  refine Ago hl (by decide) (by decide) ?_ ⟨by decide,by omega,by omega,by omega⟩ (by decide)
 all_goals
  obtain rfl|rfl|rfl:want=0\/want=1\/want=2:=by omega
 all_goals first|(exfalso;revert hw1;decide)|skip
 all_goals
  first
  |(subst ha;subst hb;decide)
  |(subst hb;have h1:=Pj ha;unfold Jp Lk;rw[h1];rfl)
  |(have h1:=Pj ha;have h2:=Pj hb;unfold Jp Lk;rw[h1,h2];rfl)
def Ape{w:By}{k:Nat}{sh:By}(h:(w,k,sh)∈formsG)(hk:k≠23):Hp 83 sh=false/\nbS sh<=3/\0<k:=by
 have:∀x∈formsG,x.2.1≠23->Hp 83 x.2.2=false/\nbS x.2.2<=3/\0<x.2.1:=by decide
 exact this _ h hk
def Apd{w:By}{sh:By}(h:(w,23,sh)∈formsG):sh=[83,76,77]:=by
 have:∀x∈formsG,x.2.1=23->x.2.2=[83,76,77]:=by decide
 exact this _ h rfl
def Avj:∀(f:Nat),TGd c (En c f) f:=by
 intro f
 induction f with
 |zero=>intro ns want s h1 h2 h3;omega
 |succ f ih=>
  intro ns want s hf hw hk h;rw[En] at h |-;cases hb:s.bad with
  |true=>rw[if_pos hb] at h;rw[hb] at h;cases h
  |false=>
  rw[if_neg (by rw[hb];decide)] at h;rw[if_neg (by decide)]
  by_cases Az:s.k<c.L.length
  rotate_left
  ·rw[if_pos Az,Kh] at h;cases h
  rw[if_neg (by simpa using Az)] at h |-
  by_cases h3:(c.tk s.k).k=3
  ·rw[if_pos h3] at h |-;obtain⟨n1,n2,n3⟩:=Asu (want:=want) h;rw[n2];exact⟨rfl,Bal.word Az (by rw[h3];decide) (by rw[h3];decide),fun Bq=>n3 (by omega) f⟩
  rw[if_neg h3] at h |-;dsimp only at h |-;cases Dr:(Ai c (Ai c s 1).2 3).2.bad with
  |true=>rw[if_pos Dr] at h;rw[Dr] at h;cases h
  |false=>
  rw[if_neg (by rw[Dr];decide)] at h;rw[if_neg (by decide)];obtain⟨b1,k1,k2,e2⟩:=Pk Dr;obtain⟨_,k3,k4,e1⟩:=Pk b1;rw[e1] at k1 k2 e2 h |-;rw[e2] at h |-;dsimp only at k1 k2 h |-;have La:=l9 (c.tk s.nx.k).w;generalize Kv (c.tk s.nx.k).w=g at La h |-;obtain⟨gk,sh⟩:=g;dsimp only at h |-
  by_cases hg:gk=0\/(want=1/\12<gk)\/(want=2/\2<gk/\gk<=12)
  ·rw[if_pos hg,Kh] at h;cases h
  rw[if_neg hg] at h |-;have hmem:((c.tk s.nx.k).w,gk,sh)∈formsG:=by
   rcases La with h0|h0
   ·cases h0;exact absurd (Or.inl rfl) hg
   ·exact h0
  have e5:s.nx.k=s.k+1:=rfl;have e6:s.nx.nx.k=s.k+2:=rfl;unfold Ae at h |-;dsimp only at h |-;obtain⟨c1,c2,c3,c4⟩:=Pk h;rw[c4];have fin:Bal c s.nx.nx.k (Ea c (En c f) ns gk sh {} s.nx.nx).2.k->Bal c s.k ((Ea c (En c f) ns gk sh {} s.nx.nx).2.k+1):=fun hB=>
   Bal.list Az k4 ((Bal.word k1 (by rw[k2];decide) (by rw[k2];decide)).trans hB) c2 c3
  by_cases Bk:gk=23
  ·subst Bk;have:=Apd hmem;subst this;obtain⟨_,u2,u3⟩:=Av8 (want:=want) ih (fun s hb=>Avi f ns 2 s hb) (by omega) (by omega) (by omega) c1;exact⟨rfl,fin u2,fun Bq=>u3 (by omega)⟩
  ·obtain⟨f1,f2,f3⟩:=Ape hmem Bk;have it:=Ar5 Bk ih sh {} s.nx.nx f1 (by simpa using f2) (by omega) (by omega) c1;obtain⟨new,l1,l2⟩:=it.l;refine⟨rfl,fin it.bal,fun Bq=>Apc hmem Bk hw (by omega) it.nn ?_ it.a it.b'⟩;rw[l2];exact l1 (by omega)
end
def Aup{c:RC}{f want:Nat}{ns:List By}{s s':RS}{t:Tm}(h:En c (f+1) ns want s=(t,s'))(hb:s'.bad=false) :
  (∃n:Nat,t=.mk 2 n 0 0 [])\/((c.tk s.k).k=1/\s.k+1<c.L.length/\(c.tk (s.k+1)).k=3/\∃gk sh a b m l,((c.tk (s.k+1)).w,gk,sh)∈formsG/\t=.mk (gk:Nat) a b m l):=by
 have Cv:(En c (f+1) ns want s).2.bad=false:=by rw[h];exact hb
 have ht:(En c (f+1) ns want s).1=t:=by rw[h]
 clear h hb;rw[En] at Cv ht;cases h0:s.bad with
 |true=>rw[if_pos h0,h0] at Cv;cases Cv
 |false=>
 rw[if_neg (by rw[h0];decide)] at Cv ht
 by_cases Az:s.k<c.L.length
 rotate_left
 ·rw[if_pos Az,Kh] at Cv;cases Cv
 rw[if_neg (fun k=>k Az)] at Cv ht
 by_cases h3:(c.tk s.k).k=3
 ·rw[if_pos h3] at Cv ht;unfold Jn at Cv ht;cases hf:Fy (c.tk s.k).w ns with
  |none=>rw[hf] at Cv;rw[Kh] at Cv;cases Cv
  |some n=>rw[hf] at ht;exact .inl ⟨n,ht.symm⟩
 rw[if_neg h3] at Cv ht;dsimp only at Cv ht;cases Dr:(Ai c (Ai c s 1).2 3).2.bad with
 |true=>rw[if_pos Dr] at Cv;rw[Dr] at Cv;cases Cv
 |false=>
 rw[if_neg (by rw[Dr];decide)] at Cv ht;obtain⟨b1,k1,k2,e2⟩:=Pk Dr;obtain⟨_,k3,k4,e1⟩:=Pk b1;rw[e1] at k1 k2 e2 Cv ht;rw[e2] at Cv ht;dsimp only at k1 k2 Cv ht;right;refine⟨k4,k1,k2,?_⟩;have La:=l9 (c.tk s.nx.k).w;generalize Kv (c.tk s.nx.k).w=g at La Cv ht;obtain⟨gk,sh⟩:=g;dsimp only at Cv ht
 by_cases hg:gk=0\/(want=1/\12<gk)\/(want=2/\2<gk/\gk<=12)
 ·rw[if_pos hg,Kh] at Cv;cases Cv
 rw[if_neg hg] at ht;rcases La with h0|h0
 ·cases h0;exact absurd (Or.inl rfl) hg
 ·exact⟨gk,sh,_,_,_,_,h0,ht.symm⟩
def Abm{k i j n:Int}{l:List Tm}{w:Int}(h:Ek (.mk k i j n l) 0=true)(hk:Hv k=0\/Hv k=w):Ek (.mk k i j n l) w=true:=by
 rw[Na] at h |-;rw[q_jl] at h |-;refine⟨?_,h.2⟩;have h1:=h.1;unfold Jp at h1 |-;rw[q_jl] at h1 |-;refine⟨?_,h1.2⟩;rcases hk with hk|hk<;>rw[hk]<;>simp
def Aft{P:Prop}[Decidable P]{a:Nat}{x t:Tm}(h:(if P then (zR,some a) else (x,none))=(t,none)):¬P/\x=t:=by
 by_cases hp:P
 ·rw[if_pos hp] at h;cases h
 ·rw[if_neg hp] at h;cases h;exact⟨hp,rfl⟩
def Ag3{tx:By}{ns:List By}{i j:Nat}{t:Tm}(h:Gn tx ns i j=(t,none)) :
  (Bs tx).2=none/\dep 0 (De tx)=0/\(ns.length+3*(tx.length+1)<2000000000->GT ns.length 0 (tx.length+1) t)/\∃s',En (rcR tx i j) ((De tx).length+1) ns 0 ⟨0,false,0,[]⟩=(t,s')/\s'.bad=false:=by
 unfold Gn at h;dsimp only at h;have hL:=Wo tx;cases hx:(Bs tx).2 with
 |some p=>
  exfalso;rw[hx] at h;obtain⟨h2,_⟩:=Aft h
  by_cases h3:(En (rcR tx i j) ((rcR tx i j).L.length+1) ns 0 ⟨0,false,0,[]⟩).2.bad=false
  ·rw[if_pos ⟨h3,.inr rfl⟩,Kh] at h2;exact h2 rfl
  ·rw[if_neg (fun k=>h3 k.1)] at h2;exact h3 (by simpa using h2)
 |none=>
  have hc:rcR tx i j=⟨De tx,tx.length,i,j⟩:=by unfold rcR;rw[hx]
  rw[hx] at h;rw[hc] at h |-;simp only[Option.isSome_none,q_kv,or_false] at h;generalize hq:En ⟨De tx,tx.length,i,j⟩ ((De tx).length+1) ns 0 ⟨0,false,0,[]⟩=q at h |-;obtain⟨h2,rfl⟩:=Aft h;have hq2:q.2.bad=false/\¬q.2.k<(De tx).length:=by
   by_cases h3:q.2.bad=false/\q.2.k<(De tx).length
   ·rw[if_pos h3,Kh] at h2;exact absurd rfl h2
   ·rw[if_neg h3] at h2;have hb:q.2.bad=false:=by simpa using h2
    exact⟨hb,fun k=>h3 ⟨hb,k⟩⟩
  have ht:=Avj (c:=⟨De tx,tx.length,i,j⟩) ((De tx).length+1) ns 0 ⟨0,false,0,[]⟩ (by dsimp only;omega) (by omega) (Nat.zero_le _) (by rw[hq];exact hq2.1);rw[hq] at ht;obtain⟨_,g1,g2⟩:=ht;have hle:=g1.len;dsimp only at hle;have hd:=g1.d 0;have hk:q.2.k=(De tx).length:=by omega
  rw[hk] at hd;unfold seg at hd;dsimp only at hd;rw[List.drop_zero,q_kp,q_kk] at hd;refine⟨rfl,hd,fun hn=>?_,q.2,rfl,hq2.1⟩;obtain⟨r1,r2,r3,r4⟩:=g2 (by omega);exact⟨r1,r2,r3,by omega⟩
open Go Go.Proofs Go.Proofs.YtgfehkhcmnfpaaaGreatDoor
def af14:AF:=⟨81,[(.cell 2 true 28),(.t 3),(.t 4)],(Ab [oP 2 (.new [.nils,(.bool false),(iS 0),(iS 0),(iS 0),(iS 0),(iS 0),.nils,(iS 0),(iS 0),(iS 0),(iS 0),.nils,(iS 0),(iS 0),(iS 0),(iS 0),.nils,(iS 0),(iS 0),(iS 0),(iS 0),.nils,(iS 0),(iS 0),(iS 0),(iS 0),.nils]),oP 3 (.mv (cI 0)),oP 4 (.mv (cI 0))] (Ab [Aa 9 0,Aa 10 0,oP 11 (.len true (.t 10)),oP 12 (.build [(.str (bs [])),.nils,(iS 0),(iS 0),(.bool false),(iS 0)] [(0,(1,(.t 9))),(3,(1,(.t 11)))]),oP 13 (.boxg (.t 12)),Aa 5 13] (Ab [Aa 15 0,oP 16 (.call 39 [(.t 15)]),Aa 14 16,oP 17 (.ext (.t 14) 0),oP 18 (.ext (.t 14) 1),oP 19 (.ext (.t 14) 2),Aa 6 17,Aa 7 18,Aa 8 19] (.seq (Ab [Aa 20 7,oP 21 (Bg .neq 20 0)] (Ag 21 (Ab [Aa 22 5,Aa 23 8,oP 24 (Al 22),oP 25 (Ac 3 24),oN (Bd 1 25 23)] (Bj [Aa 27 0,Aa 28 8,oP 29 (.slc 0 (.t 27) none (some (.t 28))),oP 30 (.call 39 [(.t 29)]),Aa 26 30,oP 31 (.ext (.t 26) 0),oP 32 (.ext (.t 26) 1),oP 33 (.ext (.t 26) 2),Aa 6 31])) .skip)) (Ab [Aa 34 5,Aa 35 6,oP 36 (Al 34),oP 37 (Ac 1 36),oN (Bd 1 37 35)] (Ab [Aa 38 5,oP 39 (.hcall 40 [(.t 38),(cI 1)])] (Ab [Aa 40 5,oP 41 (.hcall 41 [(.t 40)]),oN (Bd 28 2 41)] (Ab [Aa 42 5,oP 43 (.hcall 40 [(.t 42),(cI 2)])] (.seq (Cl [Aa 44 5,oI 45 1 (Al 44),oI 46 2 (Ac 4 45),oI 47 3 (Af 46),oI 48 4 (.un .not (.t 47)),oI 49 5 (mT 48),oG 50 49 true 6 (mT 5),oG 51 49 true 7 (Al 50),oG 52 49 true 8 (Ac 2 51),oG 53 49 true 9 (Af 52),oG 54 49 true 10 (mT 5),oG 55 49 true 11 (Al 54),oG 56 49 true 12 (Ac 1 55),oG 57 49 true 13 (Af 56),oG 58 49 true 14 (.len false (.t 57)),oG 59 49 true 15 (Ch .lss 53 58),oG 60 49 true 16 (mT 59),oG 61 60 false 17 (mT 7),oG 62 60 false 18 (Bg .neq 61 0),oG 63 49 true 19 (Db 60 62),oI 64 20 (Cf 49 63)] (Ag 64 (Bj [Aa 65 5,Aa 66 5,oP 67 (Al 66),oP 68 (Ac 2 67),oP 69 (Af 68),oP 70 (.hcall 42 [(.t 65),(.t 69)])]) .skip)) (.seq (Ab [Aa 71 5,oP 72 (Al 71),oP 73 (Ac 4 72),oP 74 (Af 73)] (Ag 74 (Cl [oP 75 (.build [.nils,(.bool false),(iS 0),(iS 0),(iS 0),(iS 0),(iS 0),.nils,(iS 0),(iS 0),(iS 0),(iS 0),.nils,(iS 0),(iS 0),(iS 0),(iS 0),.nils,(iS 0),(iS 0),(iS 0),(iS 0),.nils,(iS 0),(iS 0),(iS 0),(iS 0),.nils] []),oI 76 1 (mT 5),oI 77 2 (Al 76),oI 78 3 (Ac 5 77),⟨(some 79),(Af 78),none,4,true,[]⟩,⟨none,(Bd 28 2 75),none,5,false,[4]⟩,oI 3 6 (.mv (cI 2)),oI 4 7 (mT 79)] .ret) .skip)) (Ab [oP 80 (Am 28 2),oN (Bd 28 2 80),oP 3 (.mv (cI 0)),oP 4 (.mv (cI 0))] .ret)))))))))))⟩
def tr14:trF Tryz.prog Tryz.f14=some af14:=by kernel_rfl
attribute [go_sem] af14
def af40:AF:=⟨40,[(.t 4)],(Ab [oP 4 (.mv (Be []))] (.seq (Ab [Aa 5 0,oP 6 (Al 5),oP 7 (Ac 4 6),oP 8 (Af 7),Aa 9 8,oG 10 9 false 0 (mT 0),oG 11 9 false 0 (mT 1),oG 12 9 false 0 (.hcall 77 [(.t 10),(.t 11)]),oG 13 9 false 0 (.un .not (.t 12)),oP 14 (Db 9 13)] (Ag 14 (Ab [Aa 15 0,Aa 16 0,oP 17 (Al 16),oP 18 (Ac 2 17),oP 19 (Af 18),oP 20 (.hcall 42 [(.t 15),(.t 19)])] (Ab [oP 4 (.mv (Be []))] .ret)) .skip)) (Ab [Aa 21 0,oP 22 (Al 21),oP 23 (Ac 2 22),oP 24 (Af 23),oP 25 (Bg .add 24 1),oP 26 (Al 21),oP 27 (Ac 2 26),oN (Bd 1 27 25)] (Cl [Aa 28 0,oI 29 1 (Al 28),oI 30 2 (Ac 1 29),oI 31 3 (Af 30),oI 32 4 (mT 0),oI 33 5 (Al 32),oI 34 6 (Ac 2 33),oI 35 7 (Af 34),oI 36 8 (Bg .sub 35 1),oI 37 9 (.iad 3 (.t 31) (.t 36)),oI 38 10 (Ac 1 37),oI 39 11 (Af 38),oI 4 12 (mT 39)] .ret))))⟩
def tr40:trF Tryz.prog Tryz.f40=some af40:=by kernel_rfl
attribute [go_sem] af40
def af42:AF:=⟨31,[],(.seq (Ab [Aa 5 0,oP 6 (Al 5),oP 7 (Ac 4 6),oP 8 (Af 7)] (Ag 8 .ret .skip)) (Ab [Aa 9 0,oP 10 (Al 9),oP 11 (Ac 3 10),oP 12 (Af 11),Aa 4 12] (.seq (Ab [Aa 13 1,Aa 14 0,oP 15 (Al 14),oP 16 (Ac 1 15),oP 17 (Af 16),oP 18 (.len false (.t 17)),oP 19 (Ch .lss 13 18)] (Ag 19 (Bj [Aa 20 0,oP 21 (Al 20),oP 22 (Ac 1 21),oP 23 (Af 22),Aa 24 1,oP 25 (.iad 3 (.t 23) (.t 24)),oP 26 (Ac 2 25),oP 27 (Af 26),Aa 4 27]) .skip)) (Bj [Aa 28 0,Aa 29 4,oP 30 (.hcall 80 [(.t 28),(.t 29)])]))))⟩
def tr42:trF Tryz.prog Tryz.f42=some af42:=by kernel_rfl
attribute [go_sem] af42
def af80:AF:=⟨16,[],(Ab [Aa 4 0,oP 5 (Al 4),oP 6 (Ac 4 5),oP 7 (Af 6),oP 8 (.un .not (.t 7))] (Ag 8 (Bj [Aa 9 0,Aa 10 0,Aa 11 1,oP 12 (Al 9),oP 13 (Ac 4 12),oN (.store 1 (.t 13) (cB true)),oP 14 (Al 10),oP 15 (Ac 5 14),oN (Bd 1 15 11)]) .skip))⟩
def tr80:trF Tryz.prog Tryz.f80=some af80:=by kernel_rfl
attribute [go_sem] af80
def af77:AF:=⟨30,[(.t 4)],(Ab [oP 4 (.mv (cB false))] (Cl [Aa 5 0,oI 6 1 (Al 5),oI 7 2 (Ac 2 6),oI 8 3 (Af 7),oI 9 4 (mT 0),oI 10 5 (Al 9),oI 11 6 (Ac 1 10),oI 12 7 (Af 11),oI 13 8 (.len false (.t 12)),oI 14 9 (Ch .lss 8 13),oI 15 10 (mT 14),oG 16 15 true 11 (mT 0),oG 17 15 true 12 (Al 16),oG 18 15 true 13 (Ac 1 17),oG 19 15 true 14 (Af 18),oG 20 15 true 15 (mT 0),oG 21 15 true 16 (Al 20),oG 22 15 true 17 (Ac 2 21),oG 23 15 true 18 (Af 22),oG 24 15 true 19 (.iad 3 (.t 19) (.t 23)),oG 25 15 true 20 (Ac 0 24),oG 26 15 true 21 (Af 25),oG 27 15 true 22 (mT 1),oG 28 15 true 23 (Ch .eql 26 27),oI 29 24 (Cf 15 28),oI 4 25 (mT 29)] .ret))⟩
def tr77:trF Tryz.prog Tryz.f77=some af77:=by kernel_rfl
attribute [go_sem] af77
def af78:AF:=⟨21,[(.t 2)],(Ab [oP 2 (.mv (cI 0))] (Ab [Aa 6 0,oP 7 (.hcall 40 [(.t 6),(cI 4)]),oP 8 (.call 122 [(.t 7)]),Aa 5 8,oP 9 (.ext (.t 5) 0),oP 10 (.ext (.t 5) 1),Aa 3 9,Aa 4 10] (.seq (Ab [Aa 11 3,oP 12 (Bg .gtr 11 1000)] (Ag 12 (Bj [Aa 13 0,Aa 14 0,oP 15 (Al 14),oP 16 (Ac 2 15),oP 17 (Af 16),oP 18 (Bg .sub 17 1),oP 19 (.hcall 42 [(.t 13),(.t 18)])]) .skip)) (Ab [Aa 20 3,Aa 2 20] .ret))))⟩
def tr78:trF Tryz.prog Tryz.f78=some af78:=by kernel_rfl
attribute [go_sem] af78
def af124:AF:=⟨38,[(.t 2)],(Ab [oP 2 (.mv (cI 0))] (Ab [oP 3 (.mv (cI 0))] (.seq (Ab [Aa 5 0,oP 6 (Al 5),oP 7 (Ac 2 6),oP 8 (Af 7),Aa 4 8] (.blk 0 (.loop (.seq (Ab [Aa 9 4,Aa 10 0,oP 11 (Al 10),oP 12 (Ac 1 11),oP 13 (Af 12),oP 14 (.len false (.t 13)),oP 15 (Ch .lss 9 14)] (Ez 15 0)) (.seq (.blk 1 (.seq (Ab [Aa 18 0,oP 19 (Al 18),oP 20 (Ac 1 19),oP 21 (Af 20),Aa 22 4,oP 23 (.iad 3 (.t 21) (.t 22)),oP 24 (Ac 0 23),oP 25 (Af 24)] (.blk 2 (Ab [oP 27 (As 25 1),Aa 26 27] (Ag 26 (Bj [Aa 28 3,oP 29 (Bg .add 28 1),Aa 3 29]) (Ab [oP 31 (As 25 2),Aa 30 31] (Ag 30 (Bj [Aa 32 3,oP 33 (Bg .sub 32 1),Aa 3 33]) .skip)))))) (Ab [Aa 34 3,oP 35 (Bg .leq 34 0)] (Ag 35 (Ab [Aa 36 4,oP 37 (Bg .add 36 1),Aa 2 37] .ret) .skip)))) (Bj [Aa 16 4,oP 17 (Bg .add 16 1),Aa 4 17])))))) (Ab [oP 2 (.mv (cI (-1)))] .ret))))⟩
def tr124:trF Tryz.prog Tryz.f124=some af124:=by kernel_rfl
attribute [go_sem] af124
def af79:AF:=⟨157,[(.cell 6 true 5)],(Ab [oP 6 Ej] (.seq (Cl [Aa 13 0,oI 14 1 (Al 13),oI 15 2 (Ac 4 14),oI 16 3 (Af 15),oI 17 4 (mT 16),oG 18 17 false 5 (mT 0),oG 19 17 false 6 (Al 18),oG 20 17 false 7 (Ac 2 19),oG 21 17 false 8 (Af 20),oG 22 17 false 9 (mT 0),oG 23 17 false 10 (Al 22),oG 24 17 false 11 (Ac 1 23),oG 25 17 false 12 (Af 24),oG 26 17 false 13 (.len false (.t 25)),oG 27 17 false 14 (Ch .geq 21 26),oI 28 15 (Db 17 27)] (Ag 28 (Ab [Aa 29 0,Aa 30 0,oP 31 (Al 30),oP 32 (Ac 2 31),oP 33 (Af 32),oP 34 (.hcall 42 [(.t 29),(.t 33)])] (Ab [oP 35 (Hl []),oN (Bd 5 6 35)] .ret)) .skip)) (Cl [Aa 36 0,oI 37 1 (Al 36),oI 38 2 (Ac 1 37),oI 39 3 (Af 38),oI 40 4 (mT 0),oI 41 5 (Al 40),oI 42 6 (Ac 2 41),oI 43 7 (Af 42),oI 44 8 (.iad 3 (.t 39) (.t 43)),oI 45 9 (Ac 2 44),oI 46 10 (Af 45),oI 7 11 (mT 46)] (.seq (Cl [Aa 47 0,⟨(some 48),(.hcall 77 [(.t 47),(cI 1)]),none,1,false,[1]⟩,oI 49 2 (mT 48),oG 50 49 true 3 (mT 0),oG 51 49 true 4 (Al 50),oG 52 49 true 5 (Ac 2 51),oG 53 49 true 6 (Af 52),oG 54 49 true 7 (Bg .add 53 1),oG 55 49 true 8 (mT 0),oG 56 49 true 9 (Al 55),oG 57 49 true 10 (Ac 1 56),oG 58 49 true 11 (Af 57),oG 59 49 true 12 (.len false (.t 58)),oG 60 49 true 13 (Ch .lss 54 59),oI 61 14 (Cf 49 60),oI 62 15 (mT 61),oG 63 62 true 16 (mT 0),oG 64 62 true 17 (Al 63),oG 65 62 true 18 (Ac 1 64),oG 66 62 true 19 (Af 65),oG 67 62 true 20 (mT 0),oG 68 62 true 21 (Al 67),oG 69 62 true 22 (Ac 2 68),oG 70 62 true 23 (Af 69),oG 71 62 true 24 (Bg .add 70 1),oG 72 62 true 25 (.iad 3 (.t 66) (.t 71)),oG 73 62 true 26 (Ac 0 72),oG 74 62 true 27 (Af 73),oG 75 62 true 28 (As 74 3),oI 76 29 (Cf 62 75),oI 77 30 (mT 76),oG 78 77 true 31 (mT 0),oG 79 77 true 32 (Al 78),oG 80 77 true 33 (Ac 1 79),oG 81 77 true 34 (Af 80),oG 82 77 true 35 (mT 0),oG 83 77 true 36 (Al 82),oG 84 77 true 37 (Ac 2 83),oG 85 77 true 38 (Af 84),oG 86 77 true 39 (Bg .add 85 1),oG 87 77 true 40 (.iad 3 (.t 81) (.t 86)),oG 88 77 true 41 (Ac 1 87),oG 89 77 true 42 (Af 88),oG 90 77 true 43 (mT 2),oG 91 77 true 44 (.call 123 [(.t 89),(.t 90)]),oI 92 45 (Cf 77 91)] (Ag 92 (Ab [Aa 93 0,Aa 94 0,oP 95 (Al 94),oP 96 (Ac 2 95),oP 97 (Af 96),oP 98 (Bg .add 97 1),oP 99 (.hcall 42 [(.t 93),(.t 98)])] (Ab [oP 100 (Hl []),oN (Bd 5 6 100)] .ret)) .skip)) (Cl [Aa 101 0,oI 102 1 (Al 101),oI 103 2 (Ac 0 102),⟨(some 104),(Af 103),none,3,true,[]⟩,oI 105 4 (.len true (.t 104)),oI 106 5 (mT 0),⟨(some 107),(.hcall 124 [(.t 106)]),none,6,false,[3,6]⟩,oI 8 7 (mT 105),oI 9 8 (mT 107)] (.seq (Ab [Aa 108 9,oP 109 (Bg .gtr 108 0)] (Ag 109 (.reg [Aa 110 0,oI 111 1 (Al 110),oI 112 2 (Ac 1 111),oI 113 3 (Af 112),oI 114 4 (mT 9),oI 115 5 (Bg .sub 114 1),oI 116 6 (.iad 3 (.t 113) (.t 115)),oI 117 7 (Ac 2 116),oI 118 8 (Af 117),oI 119 9 (mT 0),oI 120 10 (Al 119),oI 121 11 (Ac 1 120),oI 122 12 (Af 121),oI 123 13 (mT 9),oI 124 14 (Bg .sub 123 1),oI 125 15 (.iad 3 (.t 122) (.t 124)),oI 126 16 (Ac 1 125),oI 127 17 (Af 126),oI 128 18 (.len true (.t 127)),oI 129 19 (Ch .add 118 128),oI 8 20 (mT 129)] true) .skip)) (Cl [Aa 131 0,oI 132 1 (Al 131),oI 133 2 (Ac 0 132),⟨(some 134),(Af 133),none,3,true,[]⟩,oI 135 4 (mT 7),oI 136 5 (mT 8),⟨(some 137),(.slc 0 (.t 134) (some (.t 135)) (some (.t 136))),none,6,true,[]⟩,oI 138 7 (mT 1),⟨(some 139),(.call 126 [(.t 138)]),none,8,true,[3,6]⟩,⟨(some 140),(.call 125 [(.t 137),(.t 139),(cI 0),(cI 0)]),none,9,true,[]⟩,oI 130 10 (mT 140),oI 141 11 (.ext (.t 130) 0),oI 142 12 (.ext (.t 130) 1),oI 143 13 (.ext (.t 130) 2),⟨(some 10),Ej,none,14,false,[3,6,8,9]⟩,oJ 15 (Bd 5 10 141),oI 11 16 (mT 142),oI 12 17 (mT 143)] (.seq (Ab [Aa 144 11,oP 145 (Bg .neq 144 0)] (Ag 145 (Ab [Aa 146 0,Aa 147 7,Aa 148 12,oP 149 (Ch .add 147 148),oP 150 (.hcall 80 [(.t 146),(.t 149)])] (Ab [oP 151 (Hl []),oN (Bd 5 6 151)] .ret)) .skip)) (Ab [Aa 152 0,Aa 153 9,oP 154 (Al 152),oP 155 (Ac 2 154),oN (Bd 1 155 153)] (Ab [oP 156 (Am 5 10),oN (Bd 5 6 156)] .ret))))))))))⟩
def tr79:trF Tryz.prog Tryz.f79=some af79:=by kernel_rfl
attribute [go_sem] af79
def af41:AF:=⟨87,[(.cell 2 true 28)],(Ab [oP 2 (.new [.nils,(.bool false),(iS 0),(iS 0),(iS 0),(iS 0),(iS 0),.nils,(iS 0),(iS 0),(iS 0),(iS 0),.nils,(iS 0),(iS 0),(iS 0),(iS 0),.nils,(iS 0),(iS 0),(iS 0),(iS 0),.nils,(iS 0),(iS 0),(iS 0),(iS 0),.nils])] (Ab [oP 3 (.new [.nils,(.bool false),(iS 0),(iS 0),(iS 0),(iS 0),(iS 0),.nils,(iS 0),(iS 0),(iS 0),(iS 0),.nils,(iS 0),(iS 0),(iS 0),(iS 0),.nils,(iS 0),(iS 0),(iS 0),(iS 0),.nils,(iS 0),(iS 0),(iS 0),(iS 0),.nils])] (.seq (Ab [Aa 6 0,oP 7 (.hcall 40 [(.t 6),(cI 3)])] (.blk 0 (Ab [oP 16 (.bin 4 .eql (.t 7) (Be [116,101,114,109])),Aa 15 16] (Ag 15 .skip (Ab [oP 18 (.bin 4 .eql (.t 7) (Be [101,113,117,97,108])),Aa 17 18] (Ag 17 (Bj [oP 19 (Ac 1 3),oN (.store 1 (.t 19) (cB true))]) (Bj [Aa 8 0,Aa 9 0,oP 10 (Al 9),oP 11 (Ac 2 10),oP 12 (Af 11),oP 13 (Bg .sub 12 1),oP 14 (.hcall 42 [(.t 8),(.t 13)])]))))))) (Ab [Aa 20 0,oP 21 (.hcall 40 [(.t 20),(cI 1)])] (.seq (.blk 1 (.loop (.seq (Ab [Aa 22 0,oP 23 (Al 22),oP 24 (Ac 4 23),oP 25 (Af 24),oP 26 (.un .not (.t 25)),Aa 27 26,oG 28 27 true 0 (mT 0),oG 29 27 true 0 (.hcall 77 [(.t 28),(cI 2)]),oG 30 27 true 0 (.un .not (.t 29)),oP 31 (Cf 27 30)] (Ez 31 1)) (.blk 2 (Ab [Aa 32 0,oP 33 (.hcall 78 [(.t 32)]),Aa 4 33] (.reg [oP 34 (Ac 0 3),⟨(some 35),(Af 34),none,1,true,[]⟩,oI 36 2 (mT 0),oI 37 3 (Ac 0 3),oI 38 4 (Af 37),oI 39 5 (.len false (.t 38)),⟨(some 40),(.hcall 79 [(.t 36),(.t 39),(cB false)]),none,6,false,[1]⟩,oI 41 7 (mT 4),oI 42 8 (.build [(iS 0),(iS 0),(iS 0),(iS 0),.nils,(iS 0)] [(0,(5,(.t 40))),(5,(1,(.t 41)))]),⟨(some 43),(.bslice 6 [(.t 42)]),none,9,false,[1]⟩,oI 44 10 (.app 6 64 (.t 35) (.t 43)),oI 45 11 (Ac 0 3),oJ 12 (Bd 1 45 44)] true)))))) (Ab [Aa 46 0,oP 47 (.hcall 40 [(.t 46),(cI 2)])] (Ab [Aa 48 0,oP 49 (.hcall 78 [(.t 48)]),oP 50 (Ac 2 3),oN (Bd 1 50 49)] (Ab [oP 51 (Ac 0 3),oP 52 (Af 51),oP 53 (.len false (.t 52)),Aa 5 53] (.seq (Ab [oP 54 (Ac 1 3),oP 55 (Af 54),oP 56 (.un .not (.t 55))] (Ag 56 (Ab [Aa 57 0,Aa 58 5,oP 59 (.hcall 79 [(.t 57),(.t 58),(cB false)]),oP 60 (Ac 8 3),oN (Bd 5 60 59)] (Ab [Aa 61 0,Aa 62 5,oP 63 (.hcall 79 [(.t 61),(.t 62),(cB false)]),oP 64 (Ac 3 3),oN (Bd 5 64 63)] (Ab [oP 65 (Am 28 3),oN (Bd 28 2 65)] .ret))) .skip)) (Ab [Aa 66 0,Aa 67 5,oP 68 (.hcall 79 [(.t 66),(.t 67),(cB false)]),oP 69 (Ac 3 3),oN (Bd 5 69 68)] (Ab [Aa 70 0,Aa 71 5,oP 72 (.hcall 79 [(.t 70),(.t 71),(cB false)]),oP 73 (Ac 8 3),oN (Bd 5 73 72)] (Ab [Aa 74 0,Aa 75 5,oP 76 (.hcall 79 [(.t 74),(.t 75),(cB false)]),oP 77 (Ac 13 3),oN (Bd 5 77 76)] (Ab [Aa 78 0,Aa 79 5,oP 80 (.hcall 79 [(.t 78),(.t 79),(cB false)]),oP 81 (Ac 18 3),oN (Bd 5 81 80)] (Ab [Aa 82 0,Aa 83 5,oP 84 (.hcall 79 [(.t 82),(.t 83),(cB true)]),oP 85 (Ac 23 3),oN (Bd 5 85 84)] (Ab [oP 86 (Am 28 3),oN (Bd 28 2 86)] .ret)))))))))))))))⟩
def tr41:trF Tryz.prog Tryz.f41=some af41:=by kernel_rfl
attribute [go_sem] af41
def af123:AF:=⟨32,[(.t 4)],(Ab [oP 4 (.mv (cB false))] (.seq (Ab [Aa 5 0] (.blk 0 (.seq (Ab [oP 7 (.bin 4 .eql (.t 5) (Be [112,105])),Aa 6 7] (Ag 6 .skip (Ab [oP 8 (.bin 4 .eql (.t 5) (Be [108,97,109])),Aa 6 8] (Ag 6 .skip (Ab [oP 9 (.bin 4 .eql (.t 5) (Be [97,112,112])),Aa 6 9] (Ag 6 .skip (Ab [oP 10 (.bin 4 .eql (.t 5) (Be [115,105,103])),Aa 6 10] (Ag 6 .skip (Ab [oP 11 (.bin 4 .eql (.t 5) (Be [112,97,105,114])),Aa 6 11] (Ag 6 .skip (Ab [oP 12 (.bin 4 .eql (.t 5) (Be [102,115,116])),Aa 6 12] (Ag 6 .skip (Ab [oP 13 (.bin 4 .eql (.t 5) (Be [115,110,100])),Aa 6 13] (Ag 6 .skip (Ab [oP 14 (.bin 4 .eql (.t 5) (Be [101,113])),Aa 6 14] (Ag 6 .skip (Ab [oP 15 (.bin 4 .eql (.t 5) (Be [114,101,102,108])),Aa 6 15] (Ag 6 .skip (Bj [oP 16 (.bin 4 .eql (.t 5) (Be [116,114])),Aa 6 16]))))))))))))))))))) (Ag 6 (Ab [Aa 17 1,Aa 4 17] .ret) (.seq (Ab [oP 19 (.bin 4 .eql (.t 5) (Be [80,105])),Aa 18 19] (Ag 18 .skip (Ab [oP 20 (.bin 4 .eql (.t 5) (Be [76,97,109])),Aa 18 20] (Ag 18 .skip (Ab [oP 21 (.bin 4 .eql (.t 5) (Be [65,112,112])),Aa 18 21] (Ag 18 .skip (Ab [oP 22 (.bin 4 .eql (.t 5) (Be [83,105,103])),Aa 18 22] (Ag 18 .skip (Ab [oP 23 (.bin 4 .eql (.t 5) (Be [80,97,105,114])),Aa 18 23] (Ag 18 .skip (Ab [oP 24 (.bin 4 .eql (.t 5) (Be [70,115,116])),Aa 18 24] (Ag 18 .skip (Ab [oP 25 (.bin 4 .eql (.t 5) (Be [83,110,100])),Aa 18 25] (Ag 18 .skip (Ab [oP 26 (.bin 4 .eql (.t 5) (Be [69,113])),Aa 18 26] (Ag 18 .skip (Ab [oP 27 (.bin 4 .eql (.t 5) (Be [82,101,102,108])),Aa 18 27] (Ag 18 .skip (Ab [oP 28 (.bin 4 .eql (.t 5) (Be [74])),Aa 18 28] (Ag 18 .skip (Bj [oP 29 (.bin 4 .eql (.t 5) (Be [117,115,101])),Aa 18 29]))))))))))))))))))))) (Ag 18 (Ab [Aa 30 1,oP 31 (.un .not (.t 30)),Aa 4 31] .ret) .skip)))))) (Ab [oP 4 (.mv (cB false))] .ret)))⟩
def tr123:trF Tryz.prog Tryz.f123=some af123:=by kernel_rfl
attribute [go_sem] af123
def af126:AF:=⟨25,[(.t 2)],(Ab [oP 2 (.mv (.c .nils))] (.seq (Ab [Aa 5 0,oP 6 (Bg .lss 5 0),Aa 7 6,oG 8 7 false 0 (mT 0),oG 9 7 false 0 (Bg .gtr 8 1000000),oP 10 (Db 7 9)] (Ag 10 (Ab [oP 2 (.mv (.c .nils))] .ret) .skip)) (Ab [Aa 11 0,oP 12 (.mk 1 16 [(.str (bs []))] (.t 11) (.t 11)),Aa 3 12] (.seq (Ab [Aa 13 3,oP 14 (.len false (.t 13)),oP 15 (.mv (cI 0))] (.blk 0 (.loop (Ab [oP 16 (Ch .lss 15 14)] (.seq (Ez 16 0) (.seq (.blk 1 (Ab [Aa 17 15,Aa 4 17] (Bj [Aa 18 3,Aa 19 4,Aa 20 4,oP 21 (.call 97 [(.t 20)]),oP 22 (.iad 1 (.t 18) (.t 19)),oN (Bd 1 22 21)]))) (Bj [oP 23 (Bg .add 15 1),Aa 15 23]))))))) (Ab [Aa 24 3,Aa 2 24] .ret)))))⟩
def tr126:trF Tryz.prog Tryz.f126=some af126:=by kernel_rfl
attribute [go_sem] af126
def af97:AF:=⟨6,[(.t 2)],(Ab [oP 2 (.mv (Be []))] (Ab [Aa 3 0,oP 4 (.call 32 [(.t 3)]),oP 5 (.bin 4 .add (Be [118]) (.t 4)),Aa 2 5] .ret))⟩
def tr97:trF Tryz.prog Tryz.f97=some af97:=by kernel_rfl
attribute [go_sem] af97
open Go Go.RowKit Go.Proofs.YtgfehkhcmnfpaaaGreatDoor
def Bv(c:QC)(s:QS):List SV:=[.str (bs c.tx),.dsl 3 (c.L.map Gp),.int .i64 s.k,.int .i64 c.e,.bool s.bad,.int .i64 s.at_]
structure QAt(c:QC)(k:Nat):Prop where
 lt:k<c.L.length
 ltz:(k:Int)<(c.L.length:Int)
 ge:(0:Int)<=(k:Int)
 row:(c.L.map Gp)[k]?.getD []=[.int .i64 (c.tk k).k,.str (bs (c.tk k).w),.int .i64 (c.tk k).p]
 w1:IntKind.i64.wrap ((k:Int)+1)=((k+1:Nat):Int)
 w2:IntKind.i64.wrap (((k+1:Nat):Int)-1)=(k:Int)
 nge:¬(k:Int) >= (c.L.length:Int)
 big:(c.L.length<=140737488355328)=True
def qAt{c:QC}(hn:c.L.length<100000000000){k:Nat}(h:k<c.L.length):QAt c k:=by
 refine⟨h,by omega,by omega,?_,by rw[w64 (by unfold fit;omega)];omega,by rw[w64 (by unfold fit;omega)];omega,by omega,by simp;omega⟩;rw[q_ji,q_f h];unfold QC.tk;rw[q_j,q_f h];rfl
section
variable{c:QC}{s:QS}
def Ns(p:Nat):Cp 80 [Bv c s] [.gp 0 0,.int .i64 p] (.ret (.tup [])) [Bv c (Fu s p)]:=by
 refine Ca mixed Tryz.func80 tr80 ?_;obtain⟨k,b,a⟩:=s;unfold Bv Fu;cases b
 ·simp only[go_sem,seval,q_kv,if_false]
 ·simp only[go_sem,seval,if_true]
def Sh(hn:c.L.length<100000000000)(k:Nat):Cp 42 [Bv c s] [.gp 0 0,.int .i64 k] (.ret (.tup [])) [Bv c (Dv c s k)]:=by
 have cp:=Ns (c:=c) (s:=s) (if k<c.L.length then (c.tk k).p else c.e);refine Ca mixed Tryz.func42 tr42 ?_;have a10:(c.L.length<=140737488355328)=True:=by simp;omega
 unfold Dv;obtain⟨sk,b,a⟩:=s;unfold Bv at cp |-;cases b
 ·by_cases h:k<c.L.length
  ·obtain⟨a1,a2,a3,a4,a6,a7,a8,a9⟩:=qAt hn h;rw[if_pos h] at cp |-;simp only[go_sem,seval,a1,a2,a3,a4,a9,q_g,forall_const];refine Ad cp ?_;simp only[go_sem,seval]
  ·rw[if_neg h] at cp |-;simp only[go_sem,seval,a10,(show ¬(k:Int)<(c.L.length:Int) by omega),q_g,forall_const];refine Ad cp ?_;simp only[go_sem,seval]
 ·simp only[go_sem,seval];rfl
def Ap3(hb:s.bad=true)(z:Int):Cp 42 [Bv c s] [.gp 0 0,.int .i64 z] (.ret (.tup [])) [Bv c s]:=by
 refine Ca mixed Tryz.func42 tr42 ?_;obtain⟨sk,b,a⟩:=s;simp only at hb;subst hb;unfold Bv;simp only[go_sem,seval]
def Uu(hn:c.L.length<100000000000)(kd:Nat):Cp 77 [Bv c s] [.gp 0 0,.int .i64 kd] (.ret (.bool (isQ c s kd))) [Bv c s]:=by
 refine Ca mixed Tryz.func77 tr77 ?_;have a10:(c.L.length<=140737488355328)=True:=by simp;omega
 unfold isQ;obtain⟨k,b,a⟩:=s;unfold Bv;simp only
 by_cases h:k<c.L.length
 ·obtain⟨a1,a2,a3,a4,a6,a7,a8,a9⟩:=qAt hn h;have hk:(((c.tk k).k:Int)==(kd:Int))=decide ((c.tk k).k=kd):=by
   by_cases e:(c.tk k).k=kd
   ·simp[e]
   ·simp[e];omega
  simp only[go_sem,seval,a1,a2,a3,a4,a9,q_g,hk,decide_true,Bool.true_and,forall_const]
 ·simp only[go_sem,seval,a10,(show ¬(k:Int)<(c.L.length:Int) by omega),h,decide_false,q_l,q_g,forall_const]
def He(hn:c.L.length<100000000000)(kd:Nat):Cp 40 [Bv c s] [.gp 0 0,.int .i64 kd] (.ret (.str (bs (Bu c s kd).1))) [Bv c (Bu c s kd).2]:=by
 have ci:=Uu (s:=s) hn kd;have cf:=Sh (s:=s) hn s.k;refine Ca mixed Tryz.func40 tr40 ?_;have a10:(c.L.length<=140737488355328)=True:=by simp;omega
 unfold Bu;obtain⟨k,b,a⟩:=s;cases b;rotate_left
 ·rw[if_neg (by simp)];unfold Bv at cf |-;simp only[go_sem,seval];refine Ad cf ?_;simp only[go_sem,seval]
 cases hi:isQ c ⟨k,false,a⟩ kd
 ·rw[hi] at ci;rw[if_neg (by simp)];unfold Bv at ci cf |-;simp only[go_sem,seval];refine Ad ci ?_;simp only[go_sem,seval];refine Ad cf ?_;simp only[go_sem,seval]
 ·rw[hi] at ci;rw[if_pos ⟨rfl,rfl⟩];have h:k<c.L.length:=by unfold isQ at hi;simp at hi;exact hi.1
  obtain⟨a1,a2,a3,a4,a6,a7,a8,a9⟩:=qAt hn h;unfold Bv at ci |-;simp only[go_sem,seval];refine Ad ci ?_;simp only[go_sem,seval,a1,a2,a3,a4,a6,a7,a9,q_g,forall_const]
def Zf(hb:s.bad=false)(kd:Nat):Bu c s kd=((c.tk s.k).w,{ s with k:=s.k+1 })/\s.k<c.L.length/\(c.tk s.k).k=kd\/∃a,Bu c s kd=([],{ s with bad:=true,at_:=a }):=by
 unfold Bu;split
 ·rename_i h;refine .inl ⟨rfl,?_⟩;have:=h.2;unfold isQ at this;simpa using this
 ·right;unfold Dv Fu;rw[hb,if_neg (by decide)];exact⟨_,rfl⟩
def Zd(hb:s.bad=true)(kd:Nat):Bu c s kd=([],s):=by
 unfold Bu;rw[if_neg (fun h=>by rw[hb] at h;cases h.1)];unfold Dv Fu;rw[if_pos hb]
def Xg:Eg []=none:=rfl
def Ja(hn:c.L.length<100000000000):Cp 78 [Bv c s] [.gp 0 0] (.ret (.int .i64 (Dk c s).1)) [Bv c (Dk c s).2]:=by
 have ct:=He (s:=s) hn 4;have cg:=e9 (Bu c s 4).1;refine Ca mixed Tryz.func78 tr78 ?_;unfold Dk
 by_cases Hq:1000<(Eg (Bu c s 4).1).getD 0
 ·obtain⟨h1,h2⟩:∃k:Nat,(Bu c s 4).2.k=k+1/\k<c.L.length:=by
   cases hb:s.bad with
   |true=>rw[Zd hb,Xg] at Hq;simp at Hq
   |false=>
    rcases Zf (c:=c) hb 4 with⟨h,h1,_⟩|⟨a,h⟩
    ·rw[h];exact⟨s.k,rfl,h1⟩
    ·rw[h,Xg] at Hq;simp at Hq
  have hw:IntKind.i64.wrap (((Bu c s 4).2.k:Int)-1)=(((Bu c s 4).2.k-1:Nat):Int):=by rw[h2.1,w64 (by unfold fit;omega)];omega
  have cf:=Sh (s:=(Bu c s 4).2) hn ((Bu c s 4).2.k-1);rw[if_pos Hq];generalize Bu c s 4=q at *
  obtain⟨w,sq⟩:=q;unfold Bv at *
  simp only at *
  repeat' first
  |simp only[go_sem,seval,q_jn (show (((Eg w).getD 0:Nat):Int) > 1000 by omega),hw]
  |refine Ad ct ?_
  |refine Aj cg ?_
  |refine Ad cf ?_
 ·rw[if_neg Hq];generalize Bu c s 4=q at *
  obtain⟨w,sq⟩:=q;unfold Bv at *
  simp only at *
  repeat' first
  |simp only[go_sem,seval,q_je (show ¬(((Eg w).getD 0:Nat):Int) > 1000 by omega)]
  |refine Ad ct ?_
  |refine Aj cg ?_
end
def Ak3(w:By)(pl:Bool):Con 123 [.str (bs w),.bool pl] (.bool (Pm w pl)):=by
 refine Cq mixed Tryz.func123 tr123 ?_;simp only[go_sem,seval]
 iterate 21
  refine⟨fun h=>?_,fun h=>?_⟩
  ·have h2:=eq_of_beq h;subst h2;simp only[go_sem,seval];cases pl<;>rfl
  replace h:=Abd h;simp only[go_sem,seval]
 have h1:w ∉ Aa8:=by simp only[Aa8,q_kb,q_kc,or_false,not_or];exact⟨by assumption,by assumption,by assumption,by assumption,by assumption,by assumption,by assumption,by assumption,by assumption,by assumption⟩
 have h2:w ∉ Abj:=by simp only[Abj,q_kb,q_kc,or_false,not_or];exact⟨by assumption,by assumption,by assumption,by assumption,by assumption,by assumption,by assumption,by assumption,by assumption,by assumption,by assumption⟩
 unfold Pm;rw[if_neg h1,if_neg h2]
section
variable{c:QC}{s:QS}
def Kf(o:Option Nat):Int:=match o with|some q=>q|none=>-1
def Apz(hn:c.L.length<100000000000)(hk:s.k<=c.L.length):Cp 124 [Bv c s] [.gp 0 0] (.ret (.int .i64 (Kf (Hc c s.k)))) [Bv c s]:=by
 refine Ca mixed Tryz.func124 tr124 ?_;have a10:(c.L.length<=140737488355328)=True:=by simp;omega
 unfold Bv Hc;simp only[go_sem,seval];refine Oh (fun a:Nat×Nat=>⟨(.gp 0 0::.J::.J::.int .i64 a.2::.int .i64 a.1::Gd (.J::[])),[gOb [[.str (bs c.tx),.dsl 3 (c.L.map Gp),.int .i64 s.k,.int .i64 c.e,.bool s.bad,.int .i64 s.at_]]]⟩) (fun a=>c.L.length-a.1) (fun a=>s.k<=a.1/\a.1<=c.L.length/\a.2<=a.1/\Oe (c.L.drop a.1) a.1 a.2=Oe (c.L.drop s.k) s.k 0) (fun a ha=>?_) (s.k,0) ⟨q_ja _,hk,Nat.zero_le _,rfl⟩ (Cw (by simp[Ci]));obtain⟨x,d⟩:=a;obtain⟨h1,h2,h3,h4⟩:=ha;simp only at h1 h2 h3 h4;rw[<-h4]
 by_cases h:x<c.L.length
 ·obtain⟨a1,a2,a3,a4,a6,a7,a8,a9⟩:=qAt hn h;have hd:c.L.drop x=c.tk x::c.L.drop (x+1):=by
   rw[List.drop_eq_getElem_cons h];unfold QC.tk;rw[q_j,q_f h];rfl
  rw[hd,Oe];have wd1:IntKind.i64.wrap ((d:Int)+1)=((d+1:Nat):Int):=by rw[w64 (by unfold fit;omega)];omega
  have wd2:IntKind.i64.wrap ((d:Int)-1)=(d:Int)-1:=by rw[w64 (by unfold fit;omega)]
  by_cases k1:(c.tk x).k=1
  ·have e1:(((c.tk x).k:Int)==1)=true:=by simp[k1]
   rw[if_pos k1,if_neg (Nat.succ_ne_zero d)];simp only[go_sem,seval,a1,a2,a3,a4,a6,a9,q_g,e1,wd1,q_je (show ¬((d+1:Nat):Int)<=0 by omega),forall_const];refine⟨(x+1,d+1),⟨by simp only;omega,by simp only;omega,by simp only;omega,by simp only;omega,?_⟩,Cw (by simp[Ci])⟩;rfl
  ·have e1:(((c.tk x).k:Int)==1)=false:=by simp;omega
   rw[if_neg k1]
   by_cases k2:(c.tk x).k=2
   ·have e2:(((c.tk x).k:Int)==2)=true:=by simp[k2]
    rw[if_pos k2]
    by_cases Ux:d-1=0
    ·rw[if_pos Ux];simp only[go_sem,seval,a1,a2,a3,a4,a6,a9,q_g,e1,e2,wd2,q_jn (show (d:Int)-1<=0 by omega),forall_const];rfl
    ·rw[if_neg Ux];simp only[go_sem,seval,a1,a2,a3,a4,a6,a9,q_g,e1,e2,wd2,q_je (show ¬(d:Int)-1<=0 by omega),forall_const];refine⟨(x+1,d-1),⟨by simp only;omega,by simp only;omega,by simp only;omega,by simp only;omega,?_⟩,?_⟩
     ·rfl
     ·rw[show (d:Int)-1=((d-1:Nat):Int) by omega];exact Cw (by simp[Ci])
   ·have e2:(((c.tk x).k:Int)==2)=false:=by simp;omega
    rw[if_neg k2]
    by_cases Ux:d=0
    ·subst Ux;rw[if_pos rfl];simp only[go_sem,seval,a1,a2,a3,a4,a6,a9,q_g,e1,e2,forall_const];rfl
    ·rw[if_neg Ux];simp only[go_sem,seval,a1,a2,a3,a4,a6,a9,q_g,e1,e2,q_je (show ¬(d:Int)<=0 by omega),forall_const];refine⟨(x+1,d),⟨by simp only;omega,by simp only;omega,by simp only;omega,by simp only;omega,?_⟩,Cw (by simp[Ci])⟩;rfl
 ·have hx:c.L.drop x=[]:=List.drop_eq_nil_of_le (by omega);rw[hx];simp only[go_sem,seval,a10,(show ¬(x:Int)<(c.L.length:Int) by omega),q_g,forall_const];rfl
end
def Aax(n:Nat)(hn:n<1000000000):(Lib.itoa (n:Nat)).length<=21:=Lib.itoa_length_le n (by omega) (by omega)
def Aku(n:Nat)(hn:n<1000000000):Con 97 [.int .i64 n] (.str (bs (118::Lib.itoa (n:Nat)))):=by
 have cp:=i7 (n:=(n:Int)) ⟨by omega,by omega⟩;have hl:=Aax n hn;refine Cq mixed Tryz.func97 tr97 ?_;simp only[go_sem,seval];refine Aj cp ?_;simp only[go_sem,seval,(show 1+(Lib.itoa (n:Nat)).length<=9223372036854775807 by omega)]
def Lm(n x:Nat):GV:=((List.range x).map fun i=>[SV.str (bs (118::Lib.itoa (i:Nat)))])++List.replicate (n-x) [.str (bs [])]
def Ag9{n x:Nat}(h:x<=n):(Lm n x).length=n:=by unfold Lm;simp;omega
def Aus{n x:Nat}(h:x<n):(Lm n x).set x [SV.str (bs (118::Lib.itoa (x:Nat)))]=Lm n (x+1):=by
 unfold Lm;rw[List.set_append_right _ _ (by simp)];rw[q_g,List.length_range,Nat.sub_self,show n-x=n-(x+1)+1 by omega,List.replicate_succ,List.set_cons_zero,List.range_succ,q_kr,q_ju];rfl
def Auq{n x:Nat}(h:x<n):(Lm n x)[x]?.getD []=[.str (bs [])]:=by
 unfold Lm;rw[q_jj (by simp),q_g,List.length_range,Nat.sub_self,show n-x=n-(x+1)+1 by omega,List.replicate_succ];rfl
def Aur(n:Nat):SV.dsl 1 (Lm n n)=nmG (Ff n):=by
 unfold Lm nmG Ff;simp only[Nat.sub_self,List.replicate_zero,q_k,List.reverse_reverse,List.map_map];rfl
def Akw(n:Nat)(hn:n<=1000000):Con 126 [.int .i64 n] (nmG (Ff n)):=by
 refine Cq mixed Tryz.func126 tr126 ?_;simp only[go_sem,seval,(show ¬(n:Int)<0 by omega),q_je (show ¬(n:Int) > 1000000 by omega)];refine⟨⟨by omega,by omega,by omega,by omega⟩,?_⟩;refine Ni (fun x=>⟨(.int .i64 n::.J::.J::.osl 0 0 0 n::jk8 (jk2 (.int .i64 n::.int .i64 x::jk8 (.J::[])))),[{ box:=false,sz:=1,els:=Lm n x,frz:=0,gen:=0,cl:=true }]⟩) n (fun x hx=>?_) ?_
 ·by_cases h:x<n
  ·have cn:=Aku x (by omega);have e1:(x:Int)<(n:Int):=by omega
   have hw:IntKind.i64.wrap ((x:Int)+1)=((x+1:Nat):Int):=by rw[w64 (by unfold fit;omega)];omega
   simp only[go_sem,seval,q_jn e1];refine Aj cn ?_;simp only[go_sem,seval,(show (0:Int)<=(x:Int) by omega),e1,hw,Ag9 hx,Auq h,Aus h];exact⟨h,h,Cw (by simp[Ci])⟩
  ·have:x=n:=by omega
   subst this;simp only[go_sem,seval,q_je (show ¬(x:Int)<(x:Int) by omega)];rw[q_js (by rw[Ag9 (q_ja _)];exact q_ja _),Aur]
 ·rw[show Lm n 0=List.replicate n [SV.str (bs [])] by simp[Lm]];exact Cw (by simp[Ci])
end Go.Proofs.YtgfehkhcmnfpaaaGreatDoor.Abs
