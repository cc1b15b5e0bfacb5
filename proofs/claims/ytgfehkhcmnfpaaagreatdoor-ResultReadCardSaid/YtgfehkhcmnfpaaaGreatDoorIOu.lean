import Derived.Test.YtgfehkhcmnfpaaaGreatDoorIOl
import Derived.Test.YtgfehkhcmnfpaaaGreatDoorIOi
import Derived.Test.YtgfehkhcmnfpaaaGreatDoorIWb
import Derived.Test.YtgfehkhcmnfpaaaGreatDoorIAfC
import Derived.Test.YtgfehkhcmnfpaaaGreatDoorIEv
import Derived.Test.YtgfehkhcmnfpaaaGreatDoorProg
import Derived.KernelRfl
import Derived.Test.YtgfehkhcmnfpaaaGreatDoorIOt
set_option linter.all false
set_option maxRecDepth 20000
set_option maxHeartbeats 4000000
namespace Go.Proofs.YtgfehkhcmnfpaaaGreatDoor.Abs
open Go Go.RowKit Go.Proofs.YtgfehkhcmnfpaaaGreatDoor
section
variable{c:RC}{T:TR}{f:Nat}{ns:List By}{s:RS}{nm:SV}{G:GV}
def Avj(hb:s.bad=true)(z:Int):Cj 156 (rdS c nm s::G) [.gp 0 0,.int .i64 z] (.ret (.tup [])) (rdS c nm s::G):=by
 refine Bq mixed Tryz.func156 tr156 ?_;obtain⟨sk,sb,sa,D⟩:=s;simp only at hb;subst hb;unfold rdS;simp only[go_sem,seval]
def Ae4(hb:s.bad=false)(kd:Nat):Ad c s kd=((c.tk s.k).w,s.nx)/\s.k<c.L.length/\(c.tk s.k).k=kd\/∃a,Ad c s kd=([],{ s with bad:=true,at_:=a }):=by
 unfold Ad;split
 ·rename_i h;exact .inl ⟨rfl,h.2⟩
 ·right;unfold Bl;rw[hb,if_neg (by decide)];exact⟨_,rfl⟩
def Wr{k:Nat}{x:AccR}:Dh c T ns k 83 x s=(match Es (Ad c s 3).1 symsL with|some n=>({ x with n:=n+1 },(Ad c s 3).2)|none=>(x,Bl c (Ad c s 3).2 ((Ad c s 3).2.k-1))):=rfl
def Aeo{x:AccR}:Dh c T ns 23 77 x s=({ x with b:=(Af c (c.L.length+1) s).1,l:=(Ec T ns (arN x.n) { (Af c (c.L.length+1) s).2 with D:=[] }).1 },{ (Ec T ns (arN x.n) { (Af c (c.L.length+1) s).2 with D:=[] }).2 with D:=s.D++[.int .i64 23,.int .i64 x.a,.int .i64 (Af c (c.L.length+1) s).1,.int .i64 x.n,.dsl 5 ((Ec T ns (arN x.n) { (Af c (c.L.length+1) s).2 with D:=[] }).1.map tv)]::(Ec T ns (arN x.n) { (Af c (c.L.length+1) s).2 with D:=[] }).2.D }):=rfl
def Ahs:Es [] symsL=none:=rfl
def Amc{w:By}(h:Es w symsL=none):Xc w=0:=by unfold Xc;rw[h]
def A2d{w:By}{n:Nat}(h:Es w symsL=some n):Xc w=n+1:=by unfold Xc;rw[h]
def Axp(hc:Dc c)(hT:TCG c T f)(Bk:ns.length+3*f+2<100000000000)(hb:s.bad=false)(hN:NGr s.D)(hG:NGr G)(hs:c.L.length<s.k+f):LCG c T ns 23 [83,76,77] s G:=by
 obtain⟨k0,b0,a0,D0⟩:=s;simp only at hs hN hb;subst hb;have c0:=Cs (nm:=nmG ns) (s:=⟨k0,false,a0,D0⟩) (G:=G++D0) hc 3;have hn:=hc.n;rcases Ae4 (c:=c) (s:=⟨k0,false,a0,D0⟩) rfl 3 with⟨h1,Am,_⟩|⟨a,h1⟩
 rotate_left
 ·-- no word there
  have cs:=Ag8 [];rw[Amc Ahs] at cs;have cf:=Avj (c:=c) (nm:=nmG ns) (s:=⟨k0,true,a,D0⟩) (G:=G++D0) rfl (IntKind.i64.wrap ((k0:Int)-1));have ce:=Cs (nm:=nmG ns) (s:=⟨k0,true,a,D0⟩) (G:=G++D0) hc 2;have e1:Bl c ⟨k0,true,a,D0⟩ (k0-1)=⟨k0,true,a,D0⟩:=rfl;have eR:Ai c T ns 23 [83,76,77] ⟨k0,false,a0,D0⟩=(.mk 23 0 0 0 [],(Ad c ⟨k0,true,a,D0⟩ 2).2):=by simp only[Ai,As,Au,Wr,h1,Ahs,e1];rfl
  unfold LCG;rw[eR,Bn];refine⟨?_,Ce (c:=c) (s:=⟨k0,true,a,D0⟩) 2,hN⟩;refine Ib (r:=.agg true (tvn (.mk 23 0 0 0 []))) ?_ (Jd _);rw[Ip];rw[h1] at c0;refine Bq mixed Tryz.func190 tr190 ?_;unfold rdS at c0 cf ce |-;simp only at c0 cf ce |-;simp only[go_sem,seval];refine Dv 4 (Ao ?_)
  repeat' first
  |simp only[go_sem,seval,v83,v76,v77]
  |refine Ac c0 ?_
  |refine Ag cs ?_
  |refine Ac cf ?_
  |refine Ao ?_
  |refine Ac ce ?_
 ·rw[h1] at c0;unfold RS.nx at c0 h1;simp only at c0 h1 Am;have cs:=Ag8 (c.tk k0).w;cases hf:Es (c.tk k0).w symsL with
  |none=>
   rw[Amc hf] at cs;have cf:=Oj (nm:=nmG ns) (s:=⟨k0+1,false,a0,D0⟩) (G:=G++D0) hc k0;have hw:=(atG hc Am).w2;obtain⟨a,e1⟩:∃a,Bl c ⟨k0+1,false,a0,D0⟩ k0=⟨k0+1,true,a,D0⟩:=⟨_,rfl⟩
   rw[e1] at cf;have ce:=Cs (nm:=nmG ns) (s:=⟨k0+1,true,a,D0⟩) (G:=G++D0) hc 2;have eR:Ai c T ns 23 [83,76,77] ⟨k0,false,a0,D0⟩=(.mk 23 0 0 0 [],(Ad c ⟨k0+1,true,a,D0⟩ 2).2):=by simp only[Ai,As,Au,Wr,h1,hf,Nat.add_sub_cancel,e1];rfl
   unfold LCG;rw[eR,Bn];refine⟨?_,q_kn (Nat.le_succ k0) (Ce (c:=c) (s:=⟨k0+1,true,a,D0⟩) 2),hN⟩;refine Ib (r:=.agg true (tvn (.mk 23 0 0 0 []))) ?_ (Jd _);rw[Ip];refine Bq mixed Tryz.func190 tr190 ?_;unfold rdS at c0 cf ce |-;simp only at c0 cf ce |-;simp only[go_sem,seval];refine Dv 4 (Ao ?_)
   repeat' first
   |simp only[go_sem,seval,v83,v76,v77,hw]
   |refine Ac c0 ?_
   |refine Ag cs ?_
   |refine Ac cf ?_
   |refine Ao ?_
   |refine Ac ce ?_
  |some n=>
   have Ajf:n<21:=(q_jm.1 (findG hf).1).1;rw[A2d hf] at cs;have n0:(((n+1:Nat):Int)==0)=false:=by rw[beq_eq_false_iff_ne];omega
   have c1:=Lu (nm:=nmG ns) (G:=G++D0) hc (c.L.length+1) ⟨k0+1,false,a0,D0⟩ (q_ja _) (by simp only;omega) (by omega);have d1:=(Lw (c:=c) (c.L.length+1) ⟨k0+1,false,a0,D0⟩).symm;have m1:=Ei (c:=c) (c.L.length+1) ⟨k0+1,false,a0,D0⟩;generalize e1:Af c (c.L.length+1) ⟨k0+1,false,a0,D0⟩=q at c1 d1 m1;obtain⟨u,k2,b2,a2,E2⟩:=q;simp only at c1 d1 m1;subst d1;cases b2;rotate_left
   ·have ce:=Cs (nm:=nmG ns) (s:=⟨k2,true,a2,D0⟩) (G:=G++D0) hc 2;have eR:Ai c T ns 23 [83,76,77] ⟨k0,false,a0,D0⟩=(.mk 23 (u:Nat) (0:Nat) ((n+1:Nat):Int) [],(Ad c ⟨k2,true,a2,D0⟩ 2).2):=by simp only[Ai,As,Au,Wr,Bt,h1,hf,e1];rfl
    unfold LCG;rw[eR,Bn];refine⟨?_,q_kn (by simp only;omega) (Ce (c:=c) (s:=⟨k2,true,a2,D0⟩) 2),hN⟩;refine Ib (r:=.agg true (tvn (.mk 23 (u:Nat) (0:Nat) ((n+1:Nat):Int) []))) ?_ (Jd _);rw[Ip];refine Bq mixed Tryz.func190 tr190 ?_;unfold rdS at c0 c1 ce |-;simp only at c0 c1 ce |-;simp only[go_sem,seval];refine Dv 4 (Ao ?_)
    repeat' first
    |simp only[go_sem,seval,v83,v76,v77,n0]
    |refine Ac c0 ?_
    |refine Ag cs ?_
    |refine Ac c1 ?_
    |refine Ao ?_
    |refine Ac ce ?_
   ·have c2:=Lu (nm:=nmG ns) (G:=(G++D0)++[Pi (u:Nat) 0 ((n+1:Nat):Int) .nils]) hc (c.L.length+1) ⟨k2,false,a2,D0⟩ (q_ja _) (by simp only;omega) (by omega);have d2:=(Lw (c:=c) (c.L.length+1) ⟨k2,false,a2,D0⟩).symm;have m2:=Ei (c:=c) (c.L.length+1) ⟨k2,false,a2,D0⟩;generalize e2:Af c (c.L.length+1) ⟨k2,false,a2,D0⟩=q at c2 d2 m2;obtain⟨v,k3,b3,a3,E3⟩:=q;simp only at c2 d2 m2;subst d2;have cg:=Avl (c:=c) (ns:=ns) (G:=G++D0) hT (by omega) (hG.app hN) (s:=⟨k3,b3,a3,[]⟩) (by simp only;omega) rfl Ajf (u:Nat) (v:Nat);obtain⟨g1,g2,g3⟩:=Aky T ns (arN (n+1)) ⟨k3,b3,a3,[]⟩;have gq:=Al1 hT (ns:=ns) (G:=G) (by omega) hG (arN (n+1)) ⟨k3,b3,a3,[]⟩ (by simp only;omega) .nil;rw[<-g1] at gq;obtain⟨gk,gN,_⟩:=gq;have h0:=(arG n Ajf).2.1;generalize e3:Ec T ns (arN (n+1)) ⟨k3,b3,a3,[]⟩=q at cg g1 g2 g3 gk gN;obtain⟨l,k4,b4,a4,D4⟩:=q;simp only at cg gk gN g2;obtain⟨t0,l0,rfl⟩:∃t0 l0,l=t0::l0:=by
     cases l with
     |nil=>rw[List.length_nil] at g2;omega
     |cons t0 l0=>exact⟨t0,l0,rfl⟩
    have ce:=Cs (nm:=nmG ns) (s:=⟨k4,b4,a4,D0++Pi (u:Nat) (v:Nat) ((n+1:Nat):Int) (.dsl 5 ((t0::l0).map tv))::D4⟩) (G:=(G++D0)++Pi (u:Nat) (v:Nat) ((n+1:Nat):Int) (.dsl 5 ((t0::l0).map tv))::D4) hc 2;have eR:Ai c T ns 23 [83,76,77] ⟨k0,false,a0,D0⟩=(.mk 23 (u:Nat) (v:Nat) ((n+1:Nat):Int) (t0::l0),(Ad c ⟨k4,b4,a4,D0++Pi (u:Nat) (v:Nat) ((n+1:Nat):Int) (.dsl 5 ((t0::l0).map tv))::D4⟩ 2).2):=by
     simp only[Ai,As,Aw,Wr,Bt,Aeo,h1,hf,e1,e2,e3];rfl
    unfold LCG;rw[eR,Bn];refine⟨?_,q_kn (by simp only;omega) (Ce (c:=c) 2),hN.app (.cons (Ae7 (Ak6 _)) gN)⟩;refine Ib (r:=.agg true (tvn (.mk 23 (u:Nat) (v:Nat) ((n+1:Nat):Int) (t0::l0)))) ?_ (Jd _);rw[Eo,<-q_ju];generalize hGG:G++D0=GG at *
    have i0:∀(x y:List SV) (D:GV),(x::(GG++y::D))[GG.length+1]?=some y:=fun x y D=>by simp
    have i1:∀(x y y':List SV) (D:GV),(x::(GG++y::D)).set (GG.length+1) y'=x::(GG++y'::D):=fun x y y' D=>by simp
    refine Bq mixed Tryz.func190 tr190 ?_;unfold Pi at c2 cg ce |-;unfold rdS nmG at c0 c1 c2 cg ce |-;simp only at c0 c1 c2 cg ce |-;simp only[go_sem,seval];refine Dv 4 (Ao ?_);simp only[go_sem,seval,v83,v76,v77];refine Ac c0 ?_;simp only[go_sem,seval,v83,v76,v77];refine Ag cs ?_;simp only[go_sem,seval,n0,v83,v76,v77];refine Ao ?_;simp only[go_sem,seval,v83,v76,v77];refine Ac c1 ?_;simp only[go_sem,seval,v83,v76,v77];refine Afr (.promo _ 2 _ _ _ rfl rfl rfl rfl rfl rfl (by simp) (by simp) (by simp[Aa5,Pd]) (fun q ob' h1 h2 h3 h4=>?_)) ?_
    ·match q,h1 with
     |0,h1=>cases h1;cases h3
     |1,h1=>cases h1;cases h4
     |2,_=>exact absurd rfl h2
     |q+3,h1=>simp at h1
    simp only[q_h,q_i,Ur,reduceIte,Nat.reduceEqDiff,List.set_cons_zero,List.set_cons_succ];refine Ao ?_
    repeat' first
    |simp only[go_sem,seval,Qi,v83,v76,v77,i0,i1,q_jk,List.length_nil]
    |refine Ac c2 ?_
    |refine Ac cg ?_
    |refine Ao ?_
    |refine Ac ce ?_
    all_goals rfl
end
def Aut{w:By}:∀{l:List (By×Nat×By)} {p:Nat×By},Ir w l=some p->(w,p)∈l:=by
 intro l
 induction l with
 |nil=>intro p h;cases h
 |cons a l ih=>
  obtain⟨v,k,s⟩:=a;intro p h;rw[Acs] at h;split at h
  ·rename_i hv;cases h;rw[hv];exact List.mem_cons_self
  ·exact List.mem_cons_of_mem _ (ih h)
def Acu(w:By):Cr w=(0,[])\/(w,Cr w)∈formsG:=by
 unfold Cr;cases h:Ir w formsG with
 |none=>exact .inl rfl
 |some p=>exact .inr (Aut h)
section
variable{c:RC}{T:TR}{f:Nat}{ns:List By}{s:RS}{nm:SV}{G:GV}
def Axq(hc:Dc c)(hT:TCG c T f)(Bk:ns.length+3*f+2<100000000000)(hb:s.bad=false)(hN:NGr s.D)(hG:NGr G)(hs:c.L.length<s.k+f){w:By}{k:Nat}{sh:By}(h:(w,k,sh)∈formsG):LCG c T ns k sh s G:=by
 simp only[formsG,q_kb,q_kc,or_false,Prod.mk.injEq] at h;rcases h with⟨_,rfl,rfl⟩|⟨_,rfl,rfl⟩|⟨_,rfl,rfl⟩|⟨_,rfl,rfl⟩|⟨_,rfl,rfl⟩|⟨_,rfl,rfl⟩|⟨_,rfl,rfl⟩|⟨_,rfl,rfl⟩|⟨_,rfl,rfl⟩|⟨_,rfl,rfl⟩|⟨_,rfl,rfl⟩|⟨_,rfl,rfl⟩|⟨_,rfl,rfl⟩|⟨_,rfl,rfl⟩|⟨_,rfl,rfl⟩|⟨_,rfl,rfl⟩|⟨_,rfl,rfl⟩|⟨_,rfl,rfl⟩|⟨_,rfl,rfl⟩|⟨_,rfl,rfl⟩|⟨_,rfl,rfl⟩|⟨_,rfl,rfl⟩
 ·exact lg_L hc hT Bk (by decide) hb hN hG hs
 ·exact Akl hc hT Bk (by decide) hb hN hG hs
 ·exact Axl hc hT Bk (by decide) hb hN hG hs
 ·exact Akn hc hT Bk (by decide) hb hN hG hs
 ·exact Akl hc hT Bk (by decide) hb hN hG hs
 ·exact Akn hc hT Bk (by decide) hb hN hG hs
 ·exact Akm hc hT Bk (by decide) hb hN hG hs
 ·exact Akm hc hT Bk (by decide) hb hN hG hs
 ·exact Axo hc hT Bk (by decide) hb hN hG hs
 ·exact Axm hc hT Bk (by decide) hb hN hG hs
 ·exact Axn hc hT Bk (by decide) hb hN hG hs
 ·exact Aev hc hT Bk (by decide) hb hN hG hs
 ·exact Aev hc hT Bk (by decide) hb hN hG hs
 ·exact Ako hc hT Bk (by decide) hb hN hG hs
 ·exact Aev hc hT Bk (by decide) hb hN hG hs
 ·exact Axt hc hT Bk (by decide) hb hN hG hs
 ·exact lg_t hc hT Bk (by decide) hb hN hG hs
 ·exact lg_t hc hT Bk (by decide) hb hN hG hs
 ·exact Axr hc hT Bk (by decide) hb hN hG hs
 ·exact Ako hc hT Bk (by decide) hb hN hG hs
 ·exact Axs hc hT Bk (by decide) hb hN hG hs
 ·exact Axp hc hT Bk hb hN hG hs
def Ayr:s.k<=(Iw c ns s).2.k/\(Iw c ns s).2.D=s.D:=by
 unfold Iw;split
 ·exact⟨Nat.le_succ _,rfl⟩
 ·exact⟨by rw[Nd];exact q_ja _,Ro _⟩
def Amf(hc:Dc c):∀(f:Nat),0<f->TCG c (Bw c f) f:=by
 intro f
 induction f with
 |zero=>intro h;omega
 |succ f ih=>
  intro _ ns want s G hs Bk hw hN hG;have Jc:∀{G G'} (a:Cj 155 G [.gp 0 0,.int .i64 want] (.ret (.agg true [.int .i64 0,.int .i64 0,.int .i64 0,.int .i64 0,.nils])) G'),Cj 155 G [.gp 0 0,.int .i64 want] (.ret (.agg true (tv zR))) G':=fun a=>Ib a (Mp _ _ _ _)
  obtain⟨k,b,a,D⟩:=s;simp only at hs hN;cases b;rotate_left
  ·rw[show Bw c (f+1) ns want ⟨k,true,a,D⟩=(zR,⟨k,true,a,D⟩) from rfl];refine⟨Jc ?_,q_ja _,hN⟩;refine Bq mixed Tryz.func155 tr155 ?_;unfold rdS;simp only[go_sem,seval]
  have hn:=hc.n;have a10:(c.L.length<=140737488355328)=True:=by simp;omega
  by_cases h:k<c.L.length
  rotate_left
  ·have e:Bw c (f+1) ns want ⟨k,false,a,D⟩=(zR,Bl c ⟨k,false,a,D⟩ k):=by unfold Bw;rw[if_neg (by simp),if_pos h]
   rw[e,Ro];have cf:=Oj (nm:=nmG ns) (s:=⟨k,false,a,D⟩) (G:=G++D) hc k;refine⟨Jc ?_,by rw[Nd];exact q_ja _,hN⟩;refine Bq mixed Tryz.func155 tr155 ?_;unfold rdS at cf |-;simp only[go_sem,seval,a10,q_jn (show (k:Int) >= (c.L.length:Int) by omega),q_g,forall_const];refine Ac cf ?_;simp only[go_sem,seval]
  obtain⟨a1,a2,a3,a4,a6,a7,a8,a9,a10⟩:=atG hc h
  by_cases Dt:(c.tk k).k=3
  ·have k3:(((c.tk k).k:Int)==3)=true:=by simp[Dt]
   have e:Bw c (f+1) ns want ⟨k,false,a,D⟩=Iw c ns ⟨k,false,a,D⟩:=by unfold Bw;rw[if_neg (by simp),if_neg (by simpa using h),if_pos Dt]
   have cn:=Avt (ns:=ns) (G:=G++D) hc (by omega) (s:=⟨k,false,a,D⟩) rfl h;obtain⟨n1,n2⟩:=Ayr (c:=c) (ns:=ns) (s:=⟨k,false,a,D⟩);rw[e,n2];refine⟨?_,n1,hN⟩;refine Bq mixed Tryz.func155 tr155 ?_;unfold rdS at cn |-;simp only[go_sem,seval,a1,a2,a3,a4,a10,q_je a8,q_g,k3,forall_const];refine Ac cn ?_;simp only[go_sem,seval]
  have k3:(((c.tk k).k:Int)==3)=false:=by simp;omega
  have e:Bw c (f+1) ns want ⟨k,false,a,D⟩=(let s1:=(Ad c ⟨k,false,a,D⟩ 1).2;let q:=Ad c s1 3;let g:=Cr q.1;if q.2.bad then (zR,q.2) else if g.1=0\/(want=1/\12<g.1)\/(want=2/\2<g.1/\g.1<=12) then (zR,Bl c q.2 s1.k) else Ai c (Bw c f) ns g.1 g.2 q.2):=by
   conv=>lhs;unfold Bw
   rw[if_neg (by simp),if_neg (by simpa using h),if_neg Dt]
  have c1:=Cs (nm:=nmG ns) (s:=⟨k,false,a,D⟩) (G:=G++D) hc 1;have d1:=(Bn (c:=c) (s:=⟨k,false,a,D⟩) 1).symm;have m1:=Ce (c:=c) (s:=⟨k,false,a,D⟩) 1;generalize Ad c ⟨k,false,a,D⟩ 1=q at c1 d1 m1 e;obtain⟨w1,k1,b1,x1,E1⟩:=q;simp only at c1 d1 m1 e;subst d1;have c2:=Cs (nm:=nmG ns) (s:=⟨k1,b1,x1,D⟩) (G:=G++D) hc 3;have d2:=(Bn (c:=c) (s:=⟨k1,b1,x1,D⟩) 3).symm;have m2:=Ce (c:=c) (s:=⟨k1,b1,x1,D⟩) 3;have Adg:b1=false->(Ad c ⟨k1,b1,x1,D⟩ 3).2.bad=false->k1<(Ad c ⟨k1,b1,x1,D⟩ 3).2.k:=fun hb1 Ci=>by
   subst hb1;rcases Ae4 (c:=c) (s:=⟨k1,false,x1,D⟩) rfl 3 with⟨h1,_⟩|⟨a,h1⟩
   ·rw[h1];exact Nat.lt_succ_self _
   ·rw[h1] at Ci;cases Ci
  have hbad:b1=true->(Ad c ⟨k1,b1,x1,D⟩ 3).2.bad=true:=fun hb1=>by rw[Lx hb1];exact hb1
  generalize Ad c ⟨k1,b1,x1,D⟩ 3=q at c2 d2 m2 e Adg hbad;obtain⟨w2,k2,b2,x2,E2⟩:=q;simp only at c2 d2 m2 e Adg hbad;subst d2;have cfm:=Apm w2;rw[e];cases b2;rotate_left
  ·rw[if_pos rfl];refine⟨Jc ?_,by simp only;omega,hN⟩;refine Bq mixed Tryz.func155 tr155 ?_;unfold rdS at c1 c2 |-;simp only at c1 c2 |-
   repeat' first
   |simp only[go_sem,seval,a1,a2,a3,a4,a10,q_je a8,q_g,k3,forall_const]
   |refine Ac c1 ?_
   |refine Ac c2 ?_
   |refine Ag cfm ?_
  rw[if_neg (by simp)];have hb1:b1=false:=by
   cases b1
   ·rfl
   ·exact absurd (hbad rfl) (by simp)
  have Gg:=Adg hb1 rfl;have cf:=Oj (nm:=nmG ns) (s:=⟨k2,false,x2,D⟩) (G:=G++D) hc k1;have Nh:=Acu w2;generalize Cr w2=g at cfm Nh;obtain⟨gk,gs'⟩:=g;simp only at cfm
  by_cases hg:gk=0\/(want=1/\12<gk)\/(want=2/\2<gk/\gk<=12)
  ·rw[if_pos hg];rw[Ro];refine⟨Jc ?_,by rw[Nd];simp only;omega,hN⟩;refine Bq mixed Tryz.func155 tr155 ?_;unfold rdS at c1 c2 cf |-;simp only at c1 c2 cf |-;rcases hg with rfl|⟨rfl,hg⟩|⟨rfl,hg1,Iy⟩
   ·repeat' first
    |simp only[go_sem,seval,a1,a2,a3,a4,a10,q_je a8,q_g,k3,forall_const]
    |refine Ac c1 ?_
    |refine Ac c2 ?_
    |refine Ag cfm ?_
    |refine Ac cf ?_
   ·have g0:((gk:Int)==0)=false:=by rw[beq_eq_false_iff_ne];omega
    repeat' first
    |simp only[go_sem,seval,a1,a2,a3,a4,a10,q_je a8,q_g,k3,g0,q_jn (show (gk:Int) > 12 by omega),forall_const]
    |refine Ac c1 ?_
    |refine Ac c2 ?_
    |refine Ag cfm ?_
    |refine Ac cf ?_
   ·have g0:((gk:Int)==0)=false:=by rw[beq_eq_false_iff_ne];omega
    repeat' first
    |simp only[go_sem,seval,a1,a2,a3,a4,a10,q_je a8,q_g,k3,g0,q_jn (show (gk:Int) > 2 by omega),q_jn (show (gk:Int)<=12 by omega),forall_const]
    |refine Ac c1 ?_
    |refine Ac c2 ?_
    |refine Ag cfm ?_
    |refine Ac cf ?_
  ·rw[if_neg hg];have hmem:(w2,gk,gs')∈formsG:=by
    rcases Nh with Nh|Nh
    ·cases Nh;exact absurd (.inl rfl) hg
    ·exact Nh
   obtain⟨cl,l2,l3⟩:=Axq (ns:=ns) (s:=⟨k2,false,x2,D⟩) (G:=G) hc (ih (by omega)) (by omega) rfl hN hG (by simp only;omega) hmem;refine⟨?_,q_kn (by simp only;omega) l2,l3⟩;refine Bq mixed Tryz.func155 tr155 ?_;unfold rdS at c1 c2 cl |-;simp only at c1 c2 cl |-;have g0:((gk:Int)==0)=false:=by rw[beq_eq_false_iff_ne];omega
   have h3:want=0\/want=1\/want=2:=by omega
   rcases h3 with rfl|rfl|rfl
   ·repeat' first
    |simp only[go_sem,seval,a1,a2,a3,a4,a10,q_je a8,q_g,k3,g0,forall_const]
    |refine Ac c1 ?_
    |refine Ac c2 ?_
    |refine Ag cfm ?_
    |refine Ac cl ?_
   ·repeat' first
    |simp only[go_sem,seval,a1,a2,a3,a4,a10,q_je a8,q_g,k3,g0,q_je (show ¬(gk:Int) > 12 by omega),forall_const]
    |refine Ac c1 ?_
    |refine Ac c2 ?_
    |refine Ag cfm ?_
    |refine Ac cl ?_
   ·by_cases Iy:2<gk
    ·repeat' first
     |simp only[go_sem,seval,a1,a2,a3,a4,a10,q_je a8,q_g,k3,g0,q_jn (show (gk:Int) > 2 by omega),q_je (show ¬(gk:Int)<=12 by omega),forall_const]
     |refine Ac c1 ?_
     |refine Ac c2 ?_
     |refine Ag cfm ?_
     |refine Ac cl ?_
    ·repeat' first
     |simp only[go_sem,seval,a1,a2,a3,a4,a10,q_je a8,q_g,k3,g0,q_je (show ¬(gk:Int) > 2 by omega),forall_const]
     |refine Ac c1 ?_
     |refine Ac c2 ?_
     |refine Ag cfm ?_
     |refine Ac cl ?_
end
def Axk(l:By):Le (.tup (Akh (Bi l))) (.tup [.dsl 3 ((Em l).map De),.int .i64 (match (Bi l).2 with|none=>0|some _=>2),.int .i64 (match (Bi l).2 with|none=>0|some p=>(p:Int))]):=by
 unfold Em;obtain⟨ts,e⟩:=Bi l;have key:∀(ts:List Tok) (a b:SV),Le (.tup [Xq 3 (ts.map De),a,b]) (.tup [.dsl 3 (ts.map De),a,b]):=fun ts a b=>by
  refine .tup _ _ (.cons _ _ _ _ (.cell _ _ ?_) (.cons _ _ _ _ (.cell _ _ (.refl _)) (.cons _ _ _ _ (.cell _ _ (.refl _)) .nil)));cases ts with
  |nil=>exact .nils 3
  |cons t ts=>exact .refl _
 cases e with
 |none=>exact key ts _ _
 |some p=>exact key [] _ _
def o0{l:By}(hl:l.length<100000000000):Con 39 [.str (bs l)] (.tup [.dsl 3 ((Em l).map De),.int .i64 (match (Bi l).2 with|none=>0|some _=>2),.int .i64 (match (Bi l).2 with|none=>0|some p=>(p:Int))]):=
 (Apr (by omega)).weaken (Axk l)
def j4(l:By):(Em l).length<=l.length:=by
 have h:=(Jz l).le;unfold Em;generalize Bi l=R at *
 obtain⟨ts,e⟩:=R;cases e with
 |none=>simp only at h |-;omega
 |some p=>simp
def Ll:Tm×Option Nat->List SV
 |(t,none)=>[.agg true (tv t),.int .i64 0,.int .i64 0]
 |(_,some p)=>[.agg true (tv zR),.int .i64 2,.int .i64 p]
def Us:Tm×Option Nat->List SV
 |(t,none)=>[.agg true (tv t),.int .i64 0,.int .i64 0]
 |(_,some p)=>[.agg true (tvn zR),.int .i64 2,.int .i64 p]
def A0k(r:Tm×Option Nat):Le (.tup (Us r)) (.tup (Ll r)):=by
 obtain⟨t,e⟩:=r;have lr:∀x:SV,Lev x x:=fun x=>.cell _ _ (.refl _)
 cases e with
 |none=>exact .tup _ _ (.cons _ _ _ _ (lr _) (.cons _ _ _ _ (lr _) (.cons _ _ _ _ (lr _) .nil)))
 |some p=>
  refine .tup _ _ (.cons _ _ _ _ ?_ (.cons _ _ _ _ (lr _) (.cons _ _ _ _ (lr _) .nil)));have:=Jd zR;cases this with
  |val _ _ h=>exact h
def Ayz(r:Tm×Option Nat):NoG (.tup (Us r)):=by
 obtain⟨t,e⟩:=r;cases e with
 |none=>exact .tup _ (fun x hx=>by
   simp only[Us,q_kb,q_kc,or_false] at hx;rcases hx with rfl|rfl|rfl
   ·exact Rb t true
   ·exact .int _ _
   ·exact .int _ _)
 |some p=>exact .tup _ (fun x hx=>by
   simp only[Us,q_kb,q_kc,or_false] at hx;rcases hx with rfl|rfl|rfl
   ·exact .agg _ _ (fun x hx=>by
     simp only[tvn,zR,q_kb,q_kc,or_false] at hx;rcases hx with rfl|rfl|rfl|rfl|rfl
     ·exact .int _ _
     ·exact .int _ _
     ·exact .int _ _
     ·exact .int _ _
     ·exact .nils)
   ·exact .int _ _
   ·exact .int _ _)
def A0j{t:Tm}:Us (t,none)=[.agg true (tv t),.int .i64 0,.int .i64 0]:=rfl
def Aa7{t:Tm}{p:Nat}:Us (t,some p)=[.agg true [.int .i64 0,.int .i64 0,.int .i64 0,.int .i64 0,.nils],.int .i64 2,.int .i64 p]:=rfl
def Ap9{tx:By}{ns:List By}(Bk:ns.length<=1000000000)(Zl:tx.length<1000000000){i j:Nat}(hi:i<=1000)(hj:j<=1000) :
  Con 125 [.str (bs tx),nmG ns,.int .i64 i,.int .i64 j] (.tup (Ll (Gr tx ns i j))):=by
 have hL:=j4 tx;have c0:=o0 (l:=tx) (by omega);have hle:=(Jz tx).le.2.2;have Fy:∀x∈[SV.str (bs tx),nmG ns,.int .i64 i,.int .i64 j],NoG x:=fun x hx=>by
  simp only[q_kb,q_kc,or_false] at hx;rcases hx with rfl|rfl|rfl|rfl
  ·exact .str _
  ·exact Ak7 _
  ·exact .int _ _
  ·exact .int _ _
 have i3:¬(i:Int)<0:=by omega
 have i4:¬(j:Int)<0:=by omega
 have i5:¬(i:Int) > 1000:=by omega
 have i6:¬(j:Int) > 1000:=by omega
 refine Contract.weaken (r:=.tup (Us _)) ?_ (A0k _);refine o5 mixed Tryz.func125 tr125 Fy (Ayz _) ?_;clear Fy;unfold Gr rcR;cases hx:(Bi tx).2 with
 |none=>
  rw[hx] at c0;simp only at c0 |-;have hc:Dc ⟨Em tx,tx.length,i,j⟩:=⟨by simp only;omega,hi,hj⟩
  obtain⟨c1,m1,n1⟩:=Amf hc ((Em tx).length+1) (Nat.succ_pos _) ns 0 ⟨0,false,0,[]⟩ [] (by simp only;omega) (by omega) (by omega) .nil .nil;generalize Bw ⟨Em tx,tx.length,i,j⟩ ((Em tx).length+1) ns 0 ⟨0,false,0,[]⟩=q at *
  obtain⟨t,k,b,a,D⟩:=q;simp only[q_kl] at c1 m1 n1 |-;have cf:=Oj (nm:=nmG ns) (s:=⟨k,b,a,D⟩) (G:=D) hc k;have hb:((Em tx).length<=140737488355328)=True:=by simp;omega
  unfold rdS nmG at *
  simp only at *
  cases b
  ·by_cases hk:k<(Em tx).length
   ·have Fo:(Bl ⟨Em tx,tx.length,i,j⟩ ⟨k,false,a,D⟩ k).bad=true:=rfl;simp only[hk,eq_self,true_or,true_and,and_self,if_true,Fo,Aa7];generalize Bl ⟨Em tx,tx.length,i,j⟩ ⟨k,false,a,D⟩ k=sf at *
    have Ff:(k:Int)<((Em tx).length:Int):=by omega
    repeat' first
    |simp only[go_sem,seval,i3,i4,q_je i5,q_je i6,q_g,hb,Ff,Fo,forall_const]
    |refine Ag c0 ?_
    |refine Ac c1 ?_
    |refine Ac cf ?_
   ·have Ff:¬(k:Int)<((Em tx).length:Int):=by omega
    simp only[hk,Option.isSome_none,q_l,or_self,and_false,if_false,A0j]
    repeat' first
    |simp only[go_sem,seval,i3,i4,q_je i5,q_je i6,q_g,hb,Ff,forall_const]
    |refine Ag c0 ?_
    |refine Ac c1 ?_
  ·simp only[Bool.true_eq_false,false_and,if_false,if_true,Aa7]
   repeat' first
   |simp only[go_sem,seval,i3,i4,q_je i5,q_je i6,q_g,hb,forall_const]
   |refine Ag c0 ?_
   |refine Ac c1 ?_
 |some p=>
  obtain⟨hp,_⟩:=hle p hx;rw[hx] at c0;have hL2:=j4 (tx.take p);rw[q_kf] at hL2;have c02:=o0 (l:=tx.take p) (by rw[q_kf];omega);generalize (match (Bi (tx.take p)).2 with|none=>(0:Int)|some _=>2)=z1 at c02;generalize (match (Bi (tx.take p)).2 with|none=>(0:Int)|some p=>(p:Int))=z2 at c02;simp only at c0 |-;generalize Em (tx.take p)=L2 at *
  have hc:Dc ⟨L2,p,i,j⟩:=⟨by simp only;omega,hi,hj⟩
  obtain⟨c1,m1,n1⟩:=Amf hc (L2.length+1) (Nat.succ_pos _) ns 0 ⟨0,false,0,[]⟩ [] (by simp only;omega) (by omega) (by omega) .nil .nil;generalize Bw ⟨L2,p,i,j⟩ (L2.length+1) ns 0 ⟨0,false,0,[]⟩=q at *
  obtain⟨t,k,b,a,D⟩:=q;simp only[q_kl] at c1 m1 n1 |-;have cf:=Oj (nm:=nmG ns) (s:=⟨k,b,a,D⟩) (G:=D) hc k;have hb:((Em tx).length<=140737488355328)=True:=by simp;omega
  have Ci:(L2.length<=140737488355328)=True:=by simp;omega
  have g0:(0:Int)<=(p:Int):=by omega
  have g1:(p:Int)<=(tx.length:Int):=by omega
  have g2:p<=tx.length:=by omega
  unfold rdS nmG at *
  simp only at *
  cases b
  ·have Fo:(Bl ⟨L2,p,i,j⟩ ⟨k,false,a,D⟩ k).bad=true:=rfl;simp only[eq_self,Option.isSome_some,or_true,true_and,and_self,if_true,Fo,Aa7];generalize Bl ⟨L2,p,i,j⟩ ⟨k,false,a,D⟩ k=sf at *
   by_cases Ff:(k:Int)<(L2.length:Int)
   ·repeat' first
    |simp only[go_sem,seval,i3,i4,q_je i5,q_je i6,q_g,hb,Ci,g0,g1,g2,Ff,Fo,forall_const,List.drop_zero,q_kq]
    |refine Ag c0 ?_
    |refine Ag c02 ?_
    |refine Ac c1 ?_
    |refine Ac cf ?_
   ·repeat' first
    |simp only[go_sem,seval,i3,i4,q_je i5,q_je i6,q_g,hb,Ci,g0,g1,g2,Ff,Fo,forall_const,List.drop_zero,q_kq]
    |refine Ag c0 ?_
    |refine Ag c02 ?_
    |refine Ac c1 ?_
    |refine Ac cf ?_
  ·simp only[Bool.true_eq_false,false_and,if_false,if_true,Aa7]
   repeat' first
   |simp only[go_sem,seval,i3,i4,q_je i5,q_je i6,q_g,hb,Ci,g0,g1,g2,forall_const,List.drop_zero,q_kq]
   |refine Ag c0 ?_
   |refine Ag c02 ?_
   |refine Ac c1 ?_
def Lm(k i j n want:Int)(len:Nat):Bool:=(!(want != 0) || (!(Jp k != 0) || !(Jp k != want))) && (!((len:Int) != Kp k n) && Ns k i j n)
def ofN(k:Int)(i:Nat):Int:=if k=12/\i=2 then 2 else Jp k
def Aqd(k i j n want:Int)(rows:GV)(W:Nat->List SV->Bool)(h2:rows.length*56<=140737488355328)(h5:∀r∈rows,r.length=5)
  (H:∀p,∀r∈rows,Con 56 [.agg true r,.int .i64 (ofN k p)] (.bool (W p r))) :
  Con 56 [.agg true [.int .i64 k,.int .i64 i,.int .i64 j,.int .i64 n,.dsl 5 rows],.int .i64 want] (.bool (Lm k i j n want rows.length && Iq W 0 rows)):=by
 refine Cu mixed Tryz.func56 tr56 ?_;simp only[go_sem,seval];refine Ag (Aqs k) ?_;simp only[go_sem,seval];unfold Lm;cases hw:(want != 0)<;>cases hs:(Jp k != 0)<;>cases hd:(Jp k != want)<;>simp only[go_sem,seval,hs,hd]
 all_goals
  refine Ag (Agu k n) ?_;cases hK:((rows.length:Int) != Kp k n)<;>simp only[go_sem,seval,hK];refine Ag (Apy k i j n rows) ?_;cases hN:Ns k i j n<;>simp only[go_sem,seval,hN];intros;refine Afs (fun x=>⟨(.J::.J::.ref 0 0 0 0::.J::.J::.int .i64 (Jp k)::Cm (.dsl 5 rows::.int .i64 rows.length::.int .i64 x::Ef (.J::[]))),[⟨true,5,[[.int .i64 k,.int .i64 i,.int .i64 j,.int .i64 n,.dsl 5 rows]],0,0,true⟩]⟩) rows.length (fun x=>W x (rows[x]?.getD [])=true) (fun x hx hp=>?_) ?_
  ·simp only[go_sem,seval,Akv,Aku,Akw];refine⟨fun h=>?_,fun h=>?_⟩
   ·have Am:=q_kw h;have Ja:x<rows.length:=by omega
    have e0:(0:Int)<=(x:Int):=by omega
    have hm:=Vq (d:=[]) Ja;have Pm:=h5 _ hm;have ho:=H x _ hm;have eo:ofN k x=bif (k==12) && ((x:Int)==2) then 2 else Jp k:=by
     unfold ofN
     by_cases a:k=12
     ·by_cases b:x=2
      ·subst b;rw[if_pos ⟨a,rfl⟩,a];rfl
      ·rw[if_neg (fun h=>b h.2),Bo (show (x:Int)≠2 by omega),q_le];rfl
     ·rw[if_neg (fun h=>a h.1),Bo a,q_lf];rfl
    simp only[go_sem,seval,Am,e0,Pm];cases h12:(k==12)<;>cases Hr:((x:Int)==2)<;>simp only[go_sem,seval,Hr]
    all_goals
     simp only[h12,Hr,q_lc,q_le,q_ld,q_lf,cond_true,cond_false] at eo;rw[eo] at ho;refine Ag ho ?_;cases hW:W x (rows[x]?.getD [])<;>simp only[go_sem,seval]
     ·rw[Ane (d:=[]) (i:=x) Ja (by rw[q_jg];exact hW)]
     ·refine⟨Ja,?_⟩;rw[w64 (n:=(x:Int)+1) (by unfold fit;omega)];exact Fx 1 (by simp[Bm]) (by simp only[List.take_succ_cons,List.take_zero]) (by simp[Dm]) (by simp)
   ·have La:=q_kx h;have Ox:x=rows.length:=by omega
    simp only[go_sem,seval,h];rw[Anf (d:=[]) (f:=W) (fun j hj=>by rw[q_jg];exact hp j (by omega))]
  ·exact Bv (by simp[Bm])
def Ayf{l:List Tm}(ih:∀a∈l,∀b,tv a=tv b->a=b):∀{r:List Tm},l.map tv=r.map tv->l=r:=by
 induction l with
 |nil=>intro r h;cases r with
  |nil=>rfl
  |cons b r=>simp at h
 |cons a l ihl=>
  intro r h;cases r with
  |nil=>simp at h
  |cons b r=>
   simp only[q_h,List.cons.injEq] at h;rw[ih a (by simp) b h.1,ihl (fun x hx=>ih x (by simp[hx])) h.2]
def A3e(a:Tm):∀b,tv a=tv b->a=b:=by
 induction a using Tm.ind with
 |h k i j n l ih=>
  intro b h;cases b with
  |mk k' i' j' n' l'=>
   rw[Bp,Bp] at h;simp only[List.cons.injEq,SV.int.injEq,SV.dsl.injEq,true_and,and_true] at h;obtain⟨rfl,rfl,rfl,rfl,h5⟩:=h;rw[Ayf ih h5]
noncomputable def onT {α:Type}(f:Tm->α)(d:α)(r:List SV):α:=open Classical in if h:∃t,tv t=r then f (Classical.choose h) else d
def Ald{α:Type}(f:Tm->α)(d:α)(t:Tm):onT f d (tv t)=f t:=by
 have h:∃u,tv u=tv t:=⟨t,rfl⟩
 unfold onT;rw[dif_pos h,A3e _ _ (Classical.choose_spec h)]
def rows5(l:List Tm):∀r∈l.map tv,r.length=5:=fun r hr=>by obtain⟨t,_,rfl⟩:=q_lb.1 hr;exact Br t
mutual
def Fz:Tm->Int->Bool
 |.mk k i j n l,want=>Lm k i j n want l.length && g9 k 0 l
def g9(k:Int):Nat->List Tm->Bool
 |_,[]=>true
 |p,t::l=>Fz t (ofN k p) && g9 k (p+1) l
end
def A1a(k:Int):∀(l:List Tm) (p:Nat),g9 k p l=Iq (fun p t=>Fz t (ofN k p)) p l:=by
 intro l
 induction l with
 |nil=>intro p;rw[g9];rfl
 |cons t l ih=>intro p;rw[g9,Iq,ih]
def Pz(k i j n:Int)(l:List Tm)(want:Int):Fz (.mk k i j n l) want=(Lm k i j n want l.length && Iq (fun p t=>Fz t (ofN k p)) 0 l):=by rw[Fz,A1a]
def Acc(t:Tm):TOk t->∀want,Con 56 [.agg true (tv t),.int .i64 want] (.bool (Fz t want)):=by
 induction t using Tm.ind with
 |h k i j n l ih=>
  intro hok want;cases hok with
  |mk _ _ _ _ _ f1 f2 f3 f4 hb hl=>
  have h:=Aqd k i j n want (l.map tv) (fun p r=>onT (fun t=>Fz t (ofN k p)) false r) (by simpa using hb) (rows5 l) (fun p r hr=>by
   obtain⟨t,ht,rfl⟩:=q_lb.1 hr;simp only[Ald];exact ih t ht (hl t ht) _)
  rw[Anb,q_g,Ana (g:=fun p t=>Fz t (ofN k p)) (fun p t _=>by rw[Ald]),<-Pz,<-Bp] at h;exact h
def Aca(t:Tm)(ht:TOk t):Con 23 [.agg true (tv t)] (.bool (Fz t 2)):=by
 refine Cu mixed Tryz.func23 tr23 ?_;have hc:=Acc t ht 2;cases t with
 |mk k i j n l=>
 rw[Bp] at hc |-;simp only[go_sem,seval];refine Ag hc ?_;simp only[go_sem,seval]
def Acd(t:Tm)(ht:TOk t):Con 64 [.agg true (tv t)] (.bool (Fz t 0)):=by
 refine Cu mixed Tryz.func64 tr64 ?_;have hc:=Acc t ht 0;cases t with
 |mk k i j n l=>
 rw[Bp] at hc |-;simp only[go_sem,seval];refine Ag hc ?_;simp only[go_sem,seval]
open Go Go.RowKit Go.Proofs.YtgfehkhcmnfpaaaGreatDoor
def Fl(k p:Int):Int:=
 if k=3\/k=5\/k=6\/k=7\/k=8\/k=9\/k=13\/k=14\/k=16\/k=17 then (if p=1 then 1 else 0)
 else if k=4 then (if p=1\/p=2 then 1 else 0)
 else if k=22 then (if p=2 then 2 else 0) else 0
def Ab1(k p:Int):0<=Fl k p/\Fl k p<=2:=by
 unfold Fl
 repeat' split
 all_goals omega
def Agq(k p:Int):Con 99 [.int .i64 k,.int .i64 p] (.int .i64 (Fl k p)):=by
 refine Cu mixed Tryz.func99 tr99 ?_
 by_cases h:k=3\/k=5\/k=6\/k=7\/k=8\/k=9\/k=13\/k=14\/k=16\/k=17
 ·have e:Fl k p=if p=1 then 1 else 0:=by unfold Fl;rw[if_pos h]
  rw[e];rcases h with rfl|rfl|rfl|rfl|rfl|rfl|rfl|rfl|rfl|rfl <;>
   (cases hp:(p==1)<;>simp only[beq_iff_eq,beq_eq_false_iff_ne,ne_eq] at hp<;>simp only[go_sem,seval,hp,Bo])
 ·by_cases h4:k=4
  ·subst h4;have e:Fl 4 p=if p=1\/p=2 then 1 else 0:=by unfold Fl;rw[if_neg (by decide),if_pos rfl]
   rw[e]
   by_cases h1:p=1
   ·subst h1;simp only[go_sem,seval]
   ·by_cases h2:p=2
    ·subst h2;simp only[go_sem,seval]
    ·rw[if_neg (by omega)];simp only[go_sem,seval,Bo h1,Bo h2]
  ·by_cases Td:k=22
   ·subst Td;have e:Fl 22 p=if p=2 then 2 else 0:=by unfold Fl;rw[if_neg (by decide),if_neg (by decide),if_pos rfl]
    rw[e]
    by_cases h2:p=2
    ·subst h2;simp only[go_sem,seval]
    ·rw[if_neg h2];simp only[go_sem,seval,Bo h2]
   ·have e:Fl k p=0:=by unfold Fl;rw[if_neg h,if_neg h4,if_neg Td]
    rw[e];simp only[go_sem,seval,Bo (show k≠3 by omega),Bo h4,Bo (show k≠5 by omega),Bo (show k≠6 by omega),Bo (show k≠7 by omega),Bo (show k≠8 by omega),Bo (show k≠9 by omega),Bo (show k≠13 by omega),Bo (show k≠14 by omega),Bo (show k≠16 by omega),Bo (show k≠17 by omega),Bo Td]
mutual
def Ol:Tm->Nat
 |.mk _ _ _ _ l=>Pu l+1
def Pu:List Tm->Nat
 |[]=>0
 |t::l=>max (Ol t) (Pu l)
end
def Awd(k i j n:Int)(l:List Tm):Ol (.mk k i j n l)=Pu l+1:=by rw[Ol]
def Awe{t:Tm}:∀{l:List Tm},t∈l->Ol t<=Pu l:=by
 intro l
 induction l with
 |nil=>intro h;cases h
 |cons u l ih=>
  intro h;rw[Pu];rcases q_kb.1 h with rfl|h
  ·omega
  ·have:=ih h;omega
def Anc{α:Type}{f:Nat->α->Bool}{x:α}:∀{l:List α} {p:Nat},Iq f p l=true->x∈l->∃q,f q x=true:=by
 intro l
 induction l with
 |nil=>intro p _ h;cases h
 |cons y l ih=>
  intro p h hx;rw[Iq,q_jl] at h;rcases q_kb.1 hx with rfl|hx
  ·exact⟨p,h.1⟩
  ·exact ih h.2 hx
def Alt{k i j n w:Int}{l:List Tm}{t:Tm}(h:Fz (.mk k i j n l) w=true)(ht:t∈l):∃w',Fz t w'=true:=by
 rw[Pz,q_jl] at h;obtain⟨q,hq⟩:=Anc h.2 ht;exact⟨_,hq⟩
def Alu{k i j n w:Int}{l:List Tm}(h:Fz (.mk k i j n l) w=true)(hk:k=2):0<=i/\i<=2147483647:=by
 rw[Pz,q_jl] at h;have h1:=h.1;unfold Lm at h1;rw[q_jl,q_jl] at h1;have h2:=h1.2.2;unfold Ns at h2;rw[if_neg (by omega),if_pos hk] at h2;simp only[q_jl,q_jt] at h2;exact⟨h2.1,h2.2.1⟩
def A2v{k i j n:Int}{l:List Tm}(h:TOk (.mk k i j n l)):fit k/\fit i/\fit j/\fit n/\l.length*56<=140737488355328/\∀t∈l,TOk t:=by
 cases h with
 |mk _ _ _ _ _ f1 f2 f3 f4 hb hl=>exact⟨f1,f2,f3,f4,hb,hl⟩
def pm(F:Nat->Int):Nat->Int
 |0=>0
 |x+1=>max (pm F x) (F x)
def Az2(F:Nat->Int):∀x,0<=pm F x:=by
 intro x
 induction x with
 |zero=>exact Int.le_refl _
 |succ x ih=>rw[pm];omega
def Azz(F:Nat->Int)(d:Int)(hd:0<=d):∀x,pm (fun y=>max (F y-d) 0) x=max (pm F x-d) 0:=by
 intro x
 induction x with
 |zero=>simp only[pm];omega
 |succ x ih=>rw[pm,pm,ih];omega
def Afc{F G:Nat->Int}:∀{x:Nat},(∀y,y<x->F y=G y)->pm F x=pm G x:=by
 intro x
 induction x with
 |zero=>intro _;rfl
 |succ x ih=>intro h;rw[pm,pm,ih (fun y hy=>h y (by omega)),h x (by omega)]
def Az0{F:Nat->Int}{b:Int}(hb:0<=b):∀{x:Nat},(∀y,y<x->F y<=b)->pm F x<=b:=by
 intro x
 induction x with
 |zero=>intro _;exact hb
 |succ x ih=>intro h;rw[pm];have:=ih (fun y hy=>h y (by omega));have:=h x (by omega);omega
def Az3(F:Nat->Int):∀x,pm F (x+1)=max (F 0) (pm (fun y=>F (y+1)) x):=by
 intro x
 induction x with
 |zero=>simp only[pm];omega
 |succ x ih=>rw[pm,ih,pm];omega
mutual
def Gm:Tm->Int
 |.mk k i _ _ l=>if k=2 then i+1 else Pl k 0 l
def Pl(k:Int):Nat->List Tm->Int
 |_,[]=>0
 |p,t::l=>max (Gm t-Fl k p) (Pl k (p+1) l)
end
def Aux(k:Int):∀(l:List Tm) (p:Nat),Pl k p l=pm (fun y=>Gm (l[y]?.getD default)-Fl k ((p+y:Nat):Int)) l.length:=by
 intro l
 induction l with
 |nil=>intro p;rw[Pl];rfl
 |cons t l ih=>
  intro p;rw[Pl,ih,q_jk,Az3];simp only[q_jv,List.getElem?_cons_succ,q_jz,q_jp];congr 1;refine Afc (fun y _=>?_);rw[show p+1+y=p+(y+1) by omega]
def Ahx{k i j n:Int}{l:List Tm}(h:k≠2):Gm (.mk k i j n l)=pm (fun y=>Gm (l[y]?.getD default)-Fl k ((y:Nat):Int)) l.length:=by
 rw[Gm,if_neg h,Aux];exact Afc (fun y _=>by rw[q_jg])
def Auy(t:Tm):∀w,Fz t w=true->0<=Gm t/\Gm t<=2147483648:=by
 induction t using Tm.ind with
 |h k i j n l ih=>
  intro w hr
  by_cases h:k=2
  ·have:=Alu hr h;rw[Gm,if_pos h];omega
  ·rw[Ahx h];refine⟨Az2 _ _,Az0 (by omega) (fun y hy=>?_)⟩;obtain⟨w',hw⟩:=Alt hr (Vq (d:=default) hy);have:=ih _ (Vq (d:=default) hy) w' hw;have:=Ab1 k y;omega
def Az1{V:Nat->Int}{x:Nat}:(if pm V x<V x then V x else pm V x)=pm V (x+1):=by
 rw[pm];split<;>omega
def Apo(k i j n d:Int)(rows:GV)(V:Nat->Int)(h2:rows.length*56<=140737488355328)(h5:∀r∈rows,r.length=5)(hk:k≠2)(hd:0<=d)(Rz:d<=1000000000000)
  (H:∀x,x<rows.length->Con 88 [.agg true (rows[x]?.getD []),.int .i64 (d+Fl k (x:Nat))] (.int .i64 (V x))) :
  Con 88 [.agg true [.int .i64 k,.int .i64 i,.int .i64 j,.int .i64 n,.dsl 5 rows],.int .i64 d] (.int .i64 (pm V rows.length)):=by
 refine Cu mixed Tryz.func88 tr88 ?_;have q:(k==2)=false:=Bo hk;simp only[go_sem,seval,q];intros;refine Nz (fun x=>⟨(.J::.int .i64 d::.ref 0 0 0 0::.J::.int .i64 0::.int .i64 (pm V x)::jk8 (jk4 (.dsl 5 rows::.int .i64 rows.length::.int .i64 x::Ef ([])))),[⟨true,5,[[.int .i64 k,.int .i64 i,.int .i64 j,.int .i64 n,.dsl 5 rows]],0,0,true⟩]⟩) rows.length (fun x hx=>?_) ?_
 ·simp only[go_sem,seval];refine⟨fun h=>?_,fun h=>?_⟩
  ·have Am:=q_kw h;have Ja:x<rows.length:=by omega
   have e0:(0:Int)<=(x:Int):=by omega
   have hm:=Vq (d:=[]) Ja;have Pm:=h5 _ hm;have hb:=Ab1 k x;have ew:IntKind.i64.wrap (d+Fl k x)=d+Fl k x:=w64 (by unfold fit;omega)
   repeat' first
   |simp only[go_sem,seval,Am,e0,Pm,ew,Az1]
   |refine Ag (Agq k x) ?_
   |refine Ag (H x Ja) ?_
   refine⟨Ja,?_⟩;rw[w64 (n:=(x:Int)+1) (by unfold fit;omega)];exact Fx 1 (by simp[Bm]) (by simp) (by simp[Dm]) (by simp)
  ·have La:=q_kx h;have Ox:x=rows.length:=by omega
   subst Ox;simp only[go_sem,seval,h]
 ·exact Bv (by simp[Bm,pm])
def Apn(t:Tm):TOk t->∀(w d:Int),Fz t w=true->0<=d->d+2*Ol t<=1000000000000->Con 88 [.agg true (tv t),.int .i64 d] (.int .i64 (max (Gm t-d) 0)):=by
 induction t using Tm.ind with
 |h k i j n l ih=>
  intro hok w d hr hd Ci;obtain⟨f1,f2,f3,f4,hb,hl⟩:=A2v hok;rw[Awd] at Ci
  by_cases hk:k=2
  ·obtain⟨i1,i2⟩:=Alu hr hk;have q:(k==2)=true:=by simp[hk]
   have e1:IntKind.i64.wrap (i+1)=i+1:=w64 (by unfold fit;omega);have e2:IntKind.i64.wrap (i+1-d)=i+1-d:=w64 (by unfold fit;omega);have e3:max (i+1-d) 0=if i+1-d<0 then 0 else i+1-d:=by split<;>omega
   rw[Gm,if_pos hk,e3];refine Cu mixed Tryz.func88 tr88 ?_;rw[Bp];simp only[go_sem,seval,q,e1,e2]
  ·have Bh:(l.map tv).length=l.length:=by simp
   have h:=Apo k i j n d (l.map tv) (fun x=>max (Gm (l[x]?.getD default)-(d+Fl k (x:Nat))) 0) (by omega) (rows5 l) hk hd (by omega) (fun x hx=>by
    rw[Bh] at hx;rw[q_ji,q_f hx];have hm:=q_kd hx;obtain⟨w',hw⟩:=Alt hr hm;have hh:=Awe hm;have hbl:=Ab1 k x;exact ih _ hm (hl _ hm) w' _ hw (by omega) (by omega))
   rw[Bh,<-Bp] at h;have e:pm (fun x=>max (Gm (l[x]?.getD default)-(d+Fl k (x:Nat))) 0) l.length=max (Gm (.mk k i j n l)-d) 0:=by
    rw[Ahx hk,<-Azz _ d hd];refine Afc (fun y _=>?_);show max (Gm (l[y]?.getD default)-(d+Fl k (y:Nat))) 0=max (Gm (l[y]?.getD default)-Fl k (y:Nat)-d) 0;congr 1;omega
   rw[e] at h;exact h
def Rq(t:Tm):Int:=if Fz t 0 then Gm t else 0
def Xm(t:Tm)(ht:TOk t)(hh:Ol t<=100000):Con 55 [.agg true (tv t)] (.int .i64 (Rq t)):=by
 have h1:=Acd t ht;have hz:=Br t;unfold Rq;refine Cu mixed Tryz.func55 tr55 ?_;cases hr:Fz t 0
 ·rw[hr] at h1;simp only[go_sem,seval,hz];refine Ag h1 ?_;simp only[go_sem,seval]
 ·rw[hr] at h1;have h2:=Apn t ht 0 0 hr (by omega) (by omega);have hp:=Auy t 0 hr;rw[show max (Gm t-0) 0=Gm t by omega] at h2;simp only[go_sem,seval,hz];refine Ag h1 ?_;simp only[go_sem,seval,hz];refine Ag h2 ?_;simp only[go_sem,seval]
abbrev Ul(t:Tm):Bool:=Fz t 1
def Vj(t:Tm)(ht:TOk t):Con 20 [.agg true (tv t)] (.bool (Ul t)):=by
 refine Cu mixed Tryz.func20 tr20 ?_;have hc:=Acc t ht 1;cases t with
 |mk k i j n l=>
 rw[Bp] at hc |-;simp only[go_sem,seval];refine Ag hc ?_;simp only[go_sem,seval]
open Go Go.RowKit
def Mc(d:Nat)(t:Tok):Nat:=if t.k=1 then d+1 else if t.k=2 then d-1 else d
def dep(d:Nat)(ts:List Tok):Nat:=ts.foldl Mc d
def seg(c:RC)(a b:Nat):List Tok:=(c.L.drop a).take (b-a)
structure Bal(c:RC)(a b:Nat):Prop where
 le:a<=b
 len:b<=c.L.length
 d:∀d,dep d (seg c a b)=d
section
variable{c:RC}{a b e:Nat}
def Bal.refl(h:a<=c.L.length):Bal c a a:=⟨q_ja _,h,fun d=>by simp[seg,dep]⟩
def Afk(h1:a<=b)(h2:b<=e):seg c a b++seg c b e=seg c a e:=by
 unfold seg;rw[show e-a=(b-a)+(e-b) by omega,List.take_add,List.drop_drop,show a+(b-a)=b by omega]
def Bal.trans(h:Bal c a b)(k:Bal c b e):Bal c a e:=⟨q_kn h.le k.le,k.len,fun d=>by
 rw[<-Afk h.le k.le,dep,List.foldl_append];have h1:=h.d d;have k1:=k.d d;unfold dep at h1 k1;rw[h1,k1]⟩
def Abc(h:a<c.L.length):seg c a (a+1)=[c.tk a]:=by
 unfold seg RC.tk;rw[show a+1-a=1 by omega,List.drop_eq_getElem_cons h,q_j,q_f h];rfl
def Bal.word(h:a<c.L.length)(h1:(c.tk a).k≠1)(h2:(c.tk a).k≠2):Bal c a (a+1):=⟨Nat.le_succ _,h,fun d=>by
 rw[Abc h];simp[dep,Mc,h1,h2]⟩
def Bal.list(h:a<c.L.length)(h1:(c.tk a).k=1)(k:Bal c (a+1) b)(hb:b<c.L.length)(h2:(c.tk b).k=2):Bal c a (b+1):=⟨by have:=k.le;omega,hb,fun d=>by
 rw[<-Afk (b:=a+1) (by omega) (by have:=k.le;omega),<-Afk (a:=a+1) (b:=b) k.le (by omega),Abc h,Abc hb];have k1:=k.d (d+1);unfold dep at k1 |-;rw[List.foldl_append,List.foldl_append];have e1:List.foldl Mc d [c.tk a]=d+1:=by simp[Mc,h1]
 rw[e1,k1];simp[Mc,h2]⟩
end
def A1r:∀(l:List Tok) (i d:Nat),Mt l i d=none->l=[]\/dep d l≠0:=by
 intro l
 induction l with
 |nil=>intro i d _;exact .inl rfl
 |cons t r ih=>
  intro i d h;right;rw[Mt] at h
  by_cases hc:(if t.k=1 then d+1 else if t.k=2 then d-1 else d)=0
  ·rw[if_pos hc] at h;cases h
  ·rw[if_neg hc] at h;show List.foldl Mc (Mc d t) r≠0;rcases ih _ _ h with rfl|h2
   ·exact hc
   ·exact h2
section
variable{c:RC}{s:RS}
def Io{kd:Nat}(h:(Ad c s kd).2.bad=false):s.bad=false/\s.k<c.L.length/\(c.tk s.k).k=kd/\Ad c s kd=((c.tk s.k).w,s.nx):=by
 cases hb:s.bad with
 |true=>rw[Lx hb] at h;rw[hb] at h;cases h
 |false=>
  rcases Ae4 (c:=c) hb kd with⟨h1,h2,h3⟩|⟨a,h1⟩
  ·exact⟨rfl,h2,h3,h1⟩
  ·rw[h1] at h;cases h
def Gz(k:Nat):(Bl c s k).bad=true:=by unfold Bl;split;assumption;rfl
def Ax8{lev:RS->Nat×RS}(hl:∀s,(lev s).2.bad=false->s.bad=false/\(s.k<=c.L.length->Bal c s.k (lev s).2.k))(h:(Fw c lev s).2.bad=false) :
  s.bad=false/\(s.k<=c.L.length->∃b,Bal c s.k b/\b<c.L.length/\(c.tk b).k=2/\(Fw c lev s).2.k=b+1):=by
 unfold Fw at h |-;dsimp only at h |-;obtain⟨h1,h2,h3,h4⟩:=Io h;rw[h4];split at h1
 ·rename_i hc;rw[if_pos hc] at h2 h3 |-;obtain⟨g1,g2⟩:=hl s.nx h1;exact⟨g1,fun _=>⟨_,(Bal.word hc.1 (by rw[hc.2.1];decide) (by rw[hc.2.1];decide)).trans (g2 hc.1),h2,h3,rfl⟩⟩
 ·rename_i hc;rw[if_neg hc] at h2 h3 |-;split at h1
  ·rename_i hc;rw[if_pos hc] at h2 h3 |-;obtain⟨g1,g2⟩:=hl (lev s.nx).2 h1;obtain⟨g3,g4⟩:=hl s.nx g1;have g5:=g4 hc.1;exact⟨g3,fun _=>⟨_,(Bal.word hc.1 (by rw[hc.2.1];decide) (by rw[hc.2.1];decide)).trans (g5.trans (g2 g5.len)),h2,h3,rfl⟩⟩
  ·rw[Gz] at h1;cases h1
def Nq:∀(f:Nat) (s:RS),(Af c f s).2.bad=false->s.bad=false/\(Af c f s).1<=1000/\(s.k<=c.L.length->Bal c s.k (Af c f s).2.k):=by
 intro f
 induction f with
 |zero=>intro s h;exact⟨h,Nat.zero_le _,fun hk=>Bal.refl hk⟩
 |succ f ih=>
  intro s h;rw[Af] at h |-
  by_cases h0:s.bad=false/\s.k<c.L.length
  ·rw[if_pos h0] at h |-;have key:∀(q:Nat×RS),((if q.2.bad=false/\1000<q.1 then Bl c q.2 s.k else q.2)).bad=false->q.2.bad=false/\q.1<=1000/\(if q.2.bad=false/\1000<q.1 then Bl c q.2 s.k else q.2)=q.2:=fun q h=>by
    by_cases hc:q.2.bad=false/\1000<q.1
    ·rw[if_pos hc,Gz] at h;cases h
    ·rw[if_neg hc] at h |-;exact⟨h,Nat.le_of_not_lt (fun k=>hc ⟨h,k⟩),rfl⟩
   dsimp only at h |-;obtain⟨k1,k2,k3⟩:=key _ h;rw[k3];refine⟨h0.1,k2,fun hk=>?_⟩;clear k2 k3 h key
   by_cases h4:(c.tk s.k).k=4
   ·rw[if_pos h4] at k1 |-;exact Bal.word h0.2 (by rw[h4];decide) (by rw[h4];decide)
   rw[if_neg h4] at k1 |-
   by_cases h5:(c.tk s.k).k=3/\(c.tk s.k).w=[105]
   ·rw[if_pos h5] at k1 |-;exact Bal.word h0.2 (by rw[h5.1];decide) (by rw[h5.1];decide)
   rw[if_neg h5] at k1 |-
   by_cases h6:(c.tk s.k).k=3/\(c.tk s.k).w=[106]
   ·rw[if_pos h6] at k1 |-;exact Bal.word h0.2 (by rw[h6.1];decide) (by rw[h6.1];decide)
   rw[if_neg h6] at k1 |-
   by_cases h7:(c.tk s.k).k=1
   ·rw[if_pos h7] at k1 |-;obtain⟨_,g2⟩:=Ax8 (fun s h=>⟨(ih s h).1,(ih s h).2.2⟩) k1;obtain⟨b,g3,g4,g5,g6⟩:=g2 h0.2;rw[g6];exact Bal.list h0.2 h7 g3 g4 g5
   ·rw[if_neg h7,Gz] at k1;cases k1
  ·rw[if_neg h0,Gz] at h;cases h
end
def GT(n want f:Nat)(t:Tm):Prop:=Fz t want=true/\Gm t<=n/\TOk t/\Ol t<=f
def Ks(n f:Nat):List (Nat×Nat)->List Tm->Prop
 |[],[]=>True
 |(b,w)::r,t::l=>GT (n+b) w f t/\Ks n f r l
 |_,_=>False
def Ks.len{n f:Nat}:∀{r:List (Nat×Nat)} {l:List Tm},Ks n f r l->l.length=r.length:=by
 intro r
 induction r with
 |nil=>intro l h;cases l with
  |nil=>rfl
  |cons=>cases h
 |cons a r ih=>
  intro l h;cases l with
  |nil=>cases h
  |cons t l=>rw[q_jk,q_jk,ih h.2]
def shK(k:Nat):Nat->By->List (Nat×Nat)
 |_,[]=>[]
 |bd,ch::r=>
  if ch.toNat=76 then shK k bd r else if ch.toNat=77 then shK k bd r
  else if ch.toNat=120\/ch.toNat=121\/ch.toNat=101 then shK k (bd+1) r
  else if ch.toNat=116 then (0,ofR k)::shK k bd r
  else if ch.toNat=112 then (0,2)::shK k bd r
  else (bd,ofR k)::shK k bd r
def nbS:By->Nat
 |[]=>0
 |ch::r=>(if ch.toNat=120\/ch.toNat=121\/ch.toNat=101 then 1 else 0)+nbS r
def Jh(m:Nat)(sh:By):Bool:=sh.any fun c=>decide (c.toNat=m)
def TGd(c:RC)(T:TR)(f:Nat):Prop:=∀(ns:List By) (want:Nat) (s:RS),c.L.length<s.k+f->want<=2->s.k<=c.L.length->(T ns want s).2.bad=false->s.bad=false/\Bal c s.k (T ns want s).2.k/\(ns.length+3*f<2000000000->GT ns.length want f (T ns want s).1)
section
variable{c:RC}{T:TR}{f:Nat}{ns:List By}
def Akx(hB:∀s,s.bad=true->(T ns 2 s).2.bad=true):∀(m:Nat) (s:RS),s.bad=true->(Ec T ns m s).2.bad=true:=by
 intro m
 induction m with
 |zero=>intro s h;exact h
 |succ m ih=>intro s h;exact ih _ (hB s h)
def Ayc(hT:TGd c T f)(hB:∀s,s.bad=true->(T ns 2 s).2.bad=true):∀(m:Nat) (s:RS),c.L.length<s.k+f->s.k<=c.L.length->(Ec T ns m s).2.bad=false->s.bad=false/\Bal c s.k (Ec T ns m s).2.k/\(ns.length+3*f<2000000000->Ks ns.length f (List.replicate m (0,2)) (Ec T ns m s).1):=by
 intro m
 induction m with
 |zero=>intro s _ hk h;exact⟨h,Bal.refl hk,fun _=>trivial⟩
 |succ m ih=>
  intro s hf hk h;have h1:(Ec T ns m (T ns 2 s).2).2.bad=false:=h;have hb:(T ns 2 s).2.bad=false:=by
   cases hb:(T ns 2 s).2.bad with
   |false=>rfl
   |true=>rw[Akx hB m _ hb] at h1;cases h1
  obtain⟨g1,g2,g3⟩:=hT ns 2 s hf (by omega) hk hb;obtain⟨g4,g5,g6⟩:=ih _ (by have:=g2.le;omega) g2.len h1;exact⟨g1,g2.trans g5,fun hn=>⟨g3 hn,g6 hn⟩⟩
structure It(c:RC)(n f k:Nat)(sh:By)(x x':AccR)(s s':RS):Prop where
 b:s.bad=false
 bal:Bal c s.k s'.k
 nn:x'.n=x.n
 l:∃new,(n+3*f+3<2000000000->Ks n f (shK k x.bd.length sh) new)/\x'.l=x.l++new
 a:if Jh 76 sh=true then x'.a<=1000 else x'.a=x.a
 b':if Jh 77 sh=true then x'.b<=1000 else x'.b=x.b
def Axz{k:Nat}(Al:k≠23)(hT:TGd c T f)  :∀(sh:By) (x:AccR) (s:RS),Jh 83 sh=false->x.bd.length+nbS sh<=3->c.L.length<s.k+f->s.k<=c.L.length->(Ds c T ns k sh x s).2.bad=false->It c ns.length f k sh x (Ds c T ns k sh x s).1 s (Ds c T ns k sh x s).2:=by
 have Ar:ofR k<=2:=by unfold ofR;split<;>omega
 intro sh
 induction sh with
 |nil=>intro x s _ _ _ hk h;exact⟨h,Bal.refl hk,rfl,⟨[],fun _=>trivial,by simp[Ds]⟩,rfl,rfl⟩
 |cons ch r ih=>
  intro x s h83 hbd hf hk h;have hb0:s.bad=false:=by
   cases hb:s.bad with
   |false=>rfl
   |true=>rw[Ds,if_pos hb] at h;rw[hb] at h;cases h
  have e:Ds c T ns k (ch::r) x s=Ds c T ns k r (Dh c T ns k ch x s).1 (Dh c T ns k ch x s).2:=by rw[Ds,if_neg (by rw[hb0];decide)]
  rw[e] at h |-;have hcc:Jh 83 r=false/\ch.toNat≠83:=by
   unfold Jh at h83 |-;rw[List.any_cons,q_ky] at h83;exact⟨h83.2,by simpa using h83.1⟩
  have h76:Jh 76 (ch::r)=(decide (ch.toNat=76) || Jh 76 r):=rfl;have h77:Jh 77 (ch::r)=(decide (ch.toNat=77) || Jh 77 r):=rfl;have Yx:nbS (ch::r)=(if ch.toNat=120\/ch.toNat=121\/ch.toNat=101 then 1 else 0)+nbS r:=rfl;rw[Yx] at hbd
  -- the rest,once it is known what the part does
  have key:∀(x1:AccR) (s1:RS),Dh c T ns k ch x s=(x1,s1)->x1.bd.length+nbS r<=3->(s1.bad=false->Bal c s.k s1.k)->s1.bad=false/\It c ns.length f k r x1 (Ds c T ns k r x1 s1).1 s1 (Ds c T ns k r x1 s1).2/\Bal c s.k (Ds c T ns k r x1 s1).2.k:=by
   intro x1 s1 he hl hB;rw[he] at h;have hb1:s1.bad=false:=by
    cases hb:s1.bad with
    |false=>rfl
    |true=>
     cases r with
     |nil=>rw[Ds] at h;rw[hb] at h;cases h
     |cons=>rw[Ds,if_pos hb] at h;rw[hb] at h;cases h
   have hB:=hB hb1;have:=ih x1 s1 hcc.1 hl (by have:=hB.le;omega) hB.len h;exact⟨hb1,this,hB.trans this.bal⟩
  by_cases c76:ch.toNat=76
  ·have he:Dh c T ns k ch x s=({ x with a:=(Af c (c.L.length+1) s).1 },(Af c (c.L.length+1) s).2):=by unfold Dh;rw[if_pos c76]
   obtain⟨g1,g2,g3⟩:=key _ _ he (by dsimp only;omega) (fun hb=>(Nq _ s hb).2.2 hk);rw[he];have hlv:=(Nq _ s g1).2.1;have Ud:shK k x.bd.length (ch::r)=shK k x.bd.length r:=by rw[shK,if_pos c76]
   refine⟨hb0,g3,g2.nn,by rw[Ud];exact g2.l,?_,?_⟩
   ·rw[h76,if_pos (by simp[c76])];have:=g2.a;split at this
    ·exact this
    ·rw[this];exact hlv
   ·have:=g2.b';rw[h77,show decide (ch.toNat=77)=false by simp;omega,Bool.false_or];exact this
  by_cases c77:ch.toNat=77
  ·have he:Dh c T ns k ch x s=({ x with b:=(Af c (c.L.length+1) s).1 },(Af c (c.L.length+1) s).2):=by unfold Dh;rw[if_neg c76,if_pos c77,if_neg Al]
   obtain⟨g1,g2,g3⟩:=key _ _ he (by dsimp only;omega) (fun hb=>(Nq _ s hb).2.2 hk);rw[he];have hlv:=(Nq _ s g1).2.1;have Ud:shK k x.bd.length (ch::r)=shK k x.bd.length r:=by rw[shK,if_neg c76,if_pos c77]
   refine⟨hb0,g3,g2.nn,by rw[Ud];exact g2.l,?_,?_⟩
   ·have:=g2.a;rw[h76,show decide (ch.toNat=76)=false by simp;omega,Bool.false_or];exact this
   ·rw[h77,if_pos (by simp[c77])];have:=g2.b';split at this
    ·exact this
    ·rw[this];exact hlv
  have n76:Jh 76 (ch::r)=Jh 76 r:=by rw[h76,show decide (ch.toNat=76)=false by simp;omega,Bool.false_or]
  have n77:Jh 77 (ch::r)=Jh 77 r:=by rw[h77,show decide (ch.toNat=77)=false by simp;omega,Bool.false_or]
  by_cases cx:ch.toNat=120\/ch.toNat=121\/ch.toNat=101
  ·have he:Dh c T ns k ch x s=({ x with bd:=(Ad c s 3).1::x.bd },(Ad c s 3).2):=by unfold Dh;rw[if_neg c76,if_neg c77,if_neg hcc.2,if_pos cx]
   rw[if_pos cx] at hbd;obtain⟨g1,g2,g3⟩:=key _ _ he (by simp only[q_jk];omega) (fun hb=>by
    obtain⟨q1,q2,q3,q4⟩:=Io hb;rw[q4];exact Bal.word q2 (by rw[q3];decide) (by rw[q3];decide))
   rw[he];have Ud:shK k x.bd.length (ch::r)=shK k (x.bd.length+1) r:=by rw[shK,if_neg c76,if_neg c77,if_pos cx]
   exact⟨hb0,g3,g2.nn,by rw[Ud];exact g2.l,by rw[n76];exact g2.a,by rw[n77];exact g2.b'⟩
  rw[if_neg cx] at hbd
  -- a term
  have tm:∀(ns':List By) (w b:Nat),Dh c T ns k ch x s=({ x with l:=x.l++[(T ns' w s).1] },(T ns' w s).2)->w<=2->ns'.length=ns.length+b->b<=x.bd.length->shK k x.bd.length (ch::r)=(b,w)::shK k x.bd.length r->It c ns.length f k (ch::r) x (Ds c T ns k r (Dh c T ns k ch x s).1 (Dh c T ns k ch x s).2).1 s (Ds c T ns k r (Dh c T ns k ch x s).1 (Dh c T ns k ch x s).2).2:=by
   intro ns' w b he hw hl hb Ud;have hT':=fun hb=>hT ns' w s hf hw hk hb
   obtain⟨g1,g2,g3⟩:=key _ _ he (by dsimp only;omega) (fun hb=>(hT' hb).2.1);rw[he];obtain⟨_,_,t3⟩:=hT' g1;obtain⟨new,l1,l2⟩:=g2.l;rw[hl] at t3;exact⟨hb0,g3,g2.nn,⟨_::new,by rw[Ud];exact fun hn=>⟨t3 (by omega),l1 hn⟩,by rw[l2];simp⟩,by rw[n76];exact g2.a,by rw[n77];exact g2.b'⟩
  by_cases ct:ch.toNat=116
  ·exact tm ns (ofR k) 0 (by unfold Dh;rw[if_neg c76,if_neg c77,if_neg hcc.2,if_neg cx,if_pos ct]) Ar rfl (Nat.zero_le _) (by rw[shK,if_neg c76,if_neg c77,if_neg cx,if_pos ct])
  by_cases cp:ch.toNat=112
  ·exact tm ns 2 0 (by unfold Dh;rw[if_neg c76,if_neg c77,if_neg hcc.2,if_neg cx,if_neg ct,if_pos cp]) (q_ja _) rfl (Nat.zero_le _) (by rw[shK,if_neg c76,if_neg c77,if_neg cx,if_neg ct,if_pos cp])
  ·exact tm (x.bd++ns) (ofR k) x.bd.length (by unfold Dh;rw[if_neg c76,if_neg c77,if_neg hcc.2,if_neg cx,if_neg ct,if_neg cp]) Ar (by rw[q_jr];omega) (q_ja _) (by rw[shK,if_neg c76,if_neg c77,if_neg cx,if_neg ct,if_neg cp])
end
def Aht{w:By}:∀{l:List By} {n:Nat},Es w l=some n->n<l.length:=by
 intro l
 induction l with
 |nil=>intro n h;cases h
 |cons a l ih=>
  intro n h;rw[Es] at h;split at h
  ·cases h;simp
  ·cases hq:Es w l with
   |none=>rw[hq] at h;cases h
   |some m=>
    rw[hq] at h;cases h;exact Nat.succ_lt_succ (ih hq)
def okS(k:Nat):Nat->List (Nat×Nat)->Bool
 |_,[]=>true
 |p,(b,w)::r=>decide (ofN k p=(w:Int)) && (decide (Fl k (p:Nat)=(b:Int)) && okS k (p+1) r)
def Ks.right{n f k:Nat}:∀{r:List (Nat×Nat)} {l:List Tm} {p:Nat},Ks n f r l->okS k p r=true->Iq (fun p t=>Fz t (ofN k p)) p l=true/\Pl k p l<=n/\(∀t∈l,TOk t)/\Pu l<=f:=by
 intro r
 induction r with
 |nil=>
  intro l p h _;cases l with
  |nil=>exact⟨rfl,by rw[Pl];omega,fun t ht=>(by cases ht),by rw[Pu];omega⟩
  |cons=>cases h
 |cons a r ih=>
  obtain⟨b,w⟩:=a;intro l p h ho;cases l with
  |nil=>cases h
  |cons t l=>
   simp only[okS,q_jl,q_jt] at ho;obtain⟨o1,o2,o3⟩:=ho;obtain⟨⟨h1,h2,h3,h4⟩,h5⟩:=h;obtain⟨i1,i2,i3,i4⟩:=ih h5 o3;refine⟨?_,?_,?_,?_⟩
   ·rw[Iq,i1,q_lc,o1];exact h1
   ·rw[Pl,o2];omega
   ·intro u hu;rcases q_kb.1 hu with rfl|hu
    ·exact h3
    ·exact i3 u hu
   ·rw[Pu];omega
def Ala{n f want:Nat}{k a b m:Nat}{r:List (Nat×Nat)}{l:List Tm}(h:Ks n f r l)(ho:okS k 0 r=true)(hk:k≠2)(hr:Lm k a b m want r.length=true)(hb:k<24/\a<=1000/\b<=1000/\m<=21)(hl:r.length<=12):GT n want (f+1) (.mk k a b m l):=by
 obtain⟨h1,h2,h3,h4⟩:=h.right ho;refine⟨?_,?_,?_,?_⟩
 ·rw[Pz,h1,h.len,hr];rfl
 ·rw[Gm,if_neg (by omega)];exact h2
 ·exact .mk _ _ _ _ _ (by unfold fit;omega) (by unfold fit;omega) (by unfold fit;omega) (by unfold fit;omega) (by rw[h.len];omega) h3
 ·rw[Ol];omega
def Sm{a:Nat}(h:a<=1000):lev a=true:=by unfold lev;simp;omega
def Ay8:∀(m p:Nat),okS 23 p (List.replicate m (0,2))=true:=by
 intro m
 induction m with
 |zero=>intro p;rfl
 |succ m ih=>
  intro p;rw[List.replicate_succ,okS,ih];have h1:ofN (23:Nat) p=(2:Nat):=by unfold ofN;rw[if_neg (by omega)];rfl
  have h2:Fl (23:Nat) (p:Nat)=(0:Nat):=by unfold Fl;rw[if_neg (by decide),if_neg (by decide),if_neg (by decide)];rfl
  rw[h1,h2];rfl
def Ano:∀m,m<22->0<m->(arN m:Int)=Ux m/\arN m<=12:=by decide
section
variable{c:RC}{T:TR}{f:Nat}{ns:List By}{s:RS}
def Akt{k:Nat}{sh:By}{x:AccR}(hb:s.bad=true):(Ds c T ns k sh x s).2.bad=true:=by
 cases sh with
 |nil=>exact hb
 |cons=>rw[Ds,if_pos hb];exact hb
def Aew{k:Nat}{ch:UInt8}{r:By}{x:AccR}(h:(Ds c T ns k (ch::r) x s).2.bad=false):s.bad=false/\Ds c T ns k (ch::r) x s=Ds c T ns k r (Dh c T ns k ch x s).1 (Dh c T ns k ch x s).2:=by
 cases hb:s.bad with
 |false=>exact⟨rfl,by rw[Ds,if_neg (by rw[hb];decide)]⟩
 |true=>rw[Akt hb] at h;cases h
def A3m(hT:TGd c T f)(hB:∀s,s.bad=true->(T ns 2 s).2.bad=true){want:Nat}(hw:want=0\/want=2)(hf:c.L.length<s.k+f)(hk:s.k<=c.L.length)(h:(Ds c T ns 23 [83,76,77] {} s).2.bad=false) :
  s.bad=false/\Bal c s.k (Ds c T ns 23 [83,76,77] {} s).2.k/\(ns.length+3*f<2000000000->GT ns.length want (f+1) ((Ds c T ns 23 [83,76,77] {} s).1.tm 23)):=by
 obtain⟨b0,e0⟩:=Aew h;rw[e0] at h |-;clear e0;rw[Wr] at h |-;cases hf1:Es (Ad c s 3).1 symsL with
 |none=>
  rw[hf1] at h;rw[Akt (Gz _)] at h;cases h
 |some m=>
  rw[hf1] at h;dsimp only at h |-;obtain⟨b1,e1⟩:=Aew h;rw[e1] at h |-;clear e1;obtain⟨_,n2,n3,n4⟩:=Io b1;have hm:m<21:=Aht hf1;rw[n4] at h |-;dsimp only at h |-;have w1:=Bal.word n2 (by rw[n3];decide) (by rw[n3];decide);rw[show ∀(x:AccR) (s:RS),Dh c T ns 23 76 x s=({ x with a:=(Af c (c.L.length+1) s).1 },(Af c (c.L.length+1) s).2) from fun _ _=>rfl] at h |-;dsimp only at h |-;obtain⟨b2,e2⟩:=Aew h;rw[e2] at h |-;clear e2;obtain⟨_,l2,l3⟩:=Nq _ _ b2;have l3:=l3 n2;generalize Af c (c.L.length+1) s.nx=q1 at *
  obtain⟨a,s2⟩:=q1;dsimp only at h b2 l2 l3 |-;rw[Aeo] at h |-;dsimp only at h |-;have h:(Ec T ns (arN (m+1)) { (Af c (c.L.length+1) s2).2 with D:=[] }).2.bad=false:=h;have Ji:(Af c (c.L.length+1) s2).2.bad=false:=by
   cases hb:(Af c (c.L.length+1) s2).2.bad with
   |false=>rfl
   |true=>
    rw[Akx hB (arN (m+1)) _ (by exact hb)] at h;cases h
  obtain⟨_,p2,p3⟩:=Nq _ _ Ji;have p3:=p3 l3.len;generalize Af c (c.L.length+1) s2=q2 at *
  obtain⟨b,s3⟩:=q2;dsimp only at h p2 p3 Ji |-;have e5:s.nx.k=s.k+1:=rfl;obtain⟨_,m2,m3⟩:=Ayc hT hB (arN (m+1)) { s3 with D:=[] } (by have:=l3.le;have:=p3.le;dsimp only;omega) p3.len h;obtain⟨t1,t2⟩:=Ano (m+1) (by omega) (by omega);generalize Ec T ns (arN (m+1)) { s3 with D:=[] }=q3 at *
  obtain⟨l,s4⟩:=q3;dsimp only at m2 m3 |-;refine⟨b0,w1.trans (l3.trans (p3.trans m2)),fun Bk=>?_⟩;show GT ns.length want (f+1) (.mk (23:Nat) a b ((m+1:Nat)) l);refine Ala (m3 Bk) (Ay8 _ _) (by decide) ?_ ⟨by decide,l2,p2,by omega⟩ (by rw[q_ki];exact t2);rw[q_ki];unfold Lm Ns;rw[t1,show Kp (23:Nat) ((m+1:Nat))=Ux ((m+1:Nat)) from rfl,Sm l2,Sm p2];rcases hw with rfl|rfl<;>simp[Jp]
def A2i:∀(f:Nat) (ns:List By) (w:Nat) (s:RS),s.bad=true->(Bw c f ns w s).2.bad=true:=by
 intro f ns w s h;cases f with
 |zero=>exact h
 |succ f=>rw[Bw,if_pos h];exact h
def Ays{want:Nat}(h:(Iw c ns s).2.bad=false):s.bad=false/\(Iw c ns s).2.k=s.k+1/\(ns.length<2000000000->∀f,GT ns.length want (f+1) (Iw c ns s).1):=by
 unfold Iw at h |-;cases hf:Es (c.tk s.k).w ns with
 |none=>rw[hf] at h;rw[Gz] at h;cases h
 |some n=>
  rw[hf] at h;have hn:=Aht hf;refine⟨h,rfl,fun Bk f=>⟨?_,?_,?_,?_⟩⟩
  ·rw[Pz];unfold Lm Ns;have h1:(0:Int)<=n:=by omega
   have h2:(n:Int)<=2147483647:=by omega
   simp[Jp,Kp,tab,Iq,h1,h2]
  ·rw[Gm,if_pos rfl];omega
  ·exact .mk _ _ _ _ _ (by unfold fit;omega) (by unfold fit;omega) (by unfold fit;omega) (by unfold fit;omega) (by simp) (fun t ht=>by cases ht)
  ·rw[Ol,Pu];omega
def Auu{w:By}{k want n f:Nat}{sh:By}{x:AccR}(hm:(w,k,sh)∈formsG)(hk:k≠23)(hw:want<=2)(hw1:¬((want=1/\12<k)\/(want=2/\2<k/\k<=12)))
  (hn:x.n=0) (hl:Ks n f (shK k 0 sh) x.l) (ha:if Jh 76 sh=true then x.a<=1000 else x.a=0) (hb:if Jh 77 sh=true then x.b<=1000 else x.b=0):GT n want (f+1) (x.tm k):=by
 obtain⟨a,b,m,bd,l⟩:=x;dsimp only at hn hl ha hb;subst hn;show GT n want (f+1) (.mk k a b (0:Nat) l);simp only[formsG,q_kb,q_kc,or_false,Prod.mk.injEq] at hm;rcases hm with⟨_,rfl,rfl⟩|⟨_,rfl,rfl⟩|⟨_,rfl,rfl⟩|⟨_,rfl,rfl⟩|⟨_,rfl,rfl⟩|⟨_,rfl,rfl⟩|⟨_,rfl,rfl⟩|⟨_,rfl,rfl⟩|⟨_,rfl,rfl⟩|⟨_,rfl,rfl⟩|⟨_,rfl,rfl⟩|⟨_,rfl,rfl⟩|⟨_,rfl,rfl⟩|⟨_,rfl,rfl⟩|⟨_,rfl,rfl⟩|⟨_,rfl,rfl⟩|⟨_,rfl,rfl⟩|⟨_,rfl,rfl⟩|⟨_,rfl,rfl⟩|⟨_,rfl,rfl⟩|⟨_,rfl,rfl⟩|⟨_,rfl,rfl⟩
 all_goals first|exact absurd rfl hk|skip
 all_goals
  simp only[Jh,List.any_cons,List.any_nil] at ha hb;simp only[UInt8.toNat_ofNat,Nat.reducePow,Nat.reduceMod,Nat.reduceEqDiff,decide_true,decide_false,Bool.or_false,Bool.false_or,Bool.true_or,Bool.or_true,Bool.or_self,q_l,if_true,if_false] at ha hb
 all_goals
  refine Ala hl (by decide) (by decide) ?_ ⟨by decide,by omega,by omega,by omega⟩ (by decide)
 all_goals
  obtain rfl|rfl|rfl:want=0\/want=1\/want=2:=by omega
 all_goals first|(exfalso;revert hw1;decide)|skip
 all_goals
  first
  |(subst ha;subst hb;decide)
  |(subst hb;have h1:=Sm ha;unfold Lm Ns;rw[h1];rfl)
  |(have h1:=Sm ha;have h2:=Sm hb;unfold Lm Ns;rw[h1,h2];rfl)
def Auw{w:By}{k:Nat}{sh:By}(h:(w,k,sh)∈formsG)(hk:k≠23):Jh 83 sh=false/\nbS sh<=3/\0<k:=by
 have:∀x∈formsG,x.2.1≠23->Jh 83 x.2.2=false/\nbS x.2.2<=3/\0<x.2.1:=by decide
 exact this _ h hk
def Auv{w:By}{sh:By}(h:(w,23,sh)∈formsG):sh=[83,76,77]:=by
 have:∀x∈formsG,x.2.1=23->x.2.2=[83,76,77]:=by decide
 exact this _ h rfl
def Abm:∀(f:Nat),TGd c (Bw c f) f:=by
 intro f
 induction f with
 |zero=>intro ns want s h1 h2 h3;omega
 |succ f ih=>
  intro ns want s hf hw hk h;rw[Bw] at h |-;cases hb:s.bad with
  |true=>rw[if_pos hb] at h;rw[hb] at h;cases h
  |false=>
  rw[if_neg (by rw[hb];decide)] at h;rw[if_neg (by decide)]
  by_cases Am:s.k<c.L.length
  rotate_left
  ·rw[if_pos Am,Gz] at h;cases h
  rw[if_neg (by simpa using Am)] at h |-
  by_cases h3:(c.tk s.k).k=3
  ·rw[if_pos h3] at h |-;obtain⟨n1,n2,n3⟩:=Ays (want:=want) h;rw[n2];exact⟨rfl,Bal.word Am (by rw[h3];decide) (by rw[h3];decide),fun Bk=>n3 (by omega) f⟩
  rw[if_neg h3] at h |-;dsimp only at h |-;cases Ci:(Ad c (Ad c s 1).2 3).2.bad with
  |true=>rw[if_pos Ci] at h;rw[Ci] at h;cases h
  |false=>
  rw[if_neg (by rw[Ci];decide)] at h;rw[if_neg (by decide)];obtain⟨b1,k1,k2,e2⟩:=Io Ci;obtain⟨_,k3,k4,e1⟩:=Io b1;rw[e1] at k1 k2 e2 h |-;rw[e2] at h |-;dsimp only at k1 k2 h |-;have Nh:=Acu (c.tk s.nx.k).w;generalize Cr (c.tk s.nx.k).w=g at Nh h |-;obtain⟨gk,sh⟩:=g;dsimp only at h |-
  by_cases hg:gk=0\/(want=1/\12<gk)\/(want=2/\2<gk/\gk<=12)
  ·rw[if_pos hg,Gz] at h;cases h
  rw[if_neg hg] at h |-;have hmem:((c.tk s.nx.k).w,gk,sh)∈formsG:=by
   rcases Nh with h0|h0
   ·cases h0;exact absurd (Or.inl rfl) hg
   ·exact h0
  have e5:s.nx.k=s.k+1:=rfl;have e6:s.nx.nx.k=s.k+2:=rfl;unfold Ai at h |-;dsimp only at h |-;obtain⟨c1,c2,c3,c4⟩:=Io h;rw[c4];have fin:Bal c s.nx.nx.k (Ds c (Bw c f) ns gk sh {} s.nx.nx).2.k->Bal c s.k ((Ds c (Bw c f) ns gk sh {} s.nx.nx).2.k+1):=fun hB=>
   Bal.list Am k4 ((Bal.word k1 (by rw[k2];decide) (by rw[k2];decide)).trans hB) c2 c3
  by_cases Bx:gk=23
  ·subst Bx;have:=Auv hmem;subst this;obtain⟨_,u2,u3⟩:=A3m (want:=want) ih (fun s hb=>A2i f ns 2 s hb) (by omega) (by omega) (by omega) c1;exact⟨rfl,fin u2,fun Bk=>u3 (by omega)⟩
  ·obtain⟨f1,f2,f3⟩:=Auw hmem Bx;have it:=Axz Bx ih sh {} s.nx.nx f1 (by simpa using f2) (by omega) (by omega) c1;obtain⟨new,l1,l2⟩:=it.l;refine⟨rfl,fin it.bal,fun Bk=>Auu hmem Bx hw (by omega) it.nn ?_ it.a it.b'⟩;rw[l2];exact l1 (by omega)
end
def A1d{c:RC}{f want:Nat}{ns:List By}{s s':RS}{t:Tm}(h:Bw c (f+1) ns want s=(t,s'))(hb:s'.bad=false) :
  (∃n:Nat,t=.mk 2 n 0 0 [])\/((c.tk s.k).k=1/\s.k+1<c.L.length/\(c.tk (s.k+1)).k=3/\∃gk sh a b m l,((c.tk (s.k+1)).w,gk,sh)∈formsG/\t=.mk (gk:Nat) a b m l):=by
 have Ea:(Bw c (f+1) ns want s).2.bad=false:=by rw[h];exact hb
 have ht:(Bw c (f+1) ns want s).1=t:=by rw[h]
 clear h hb;rw[Bw] at Ea ht;cases h0:s.bad with
 |true=>rw[if_pos h0,h0] at Ea;cases Ea
 |false=>
 rw[if_neg (by rw[h0];decide)] at Ea ht
 by_cases Am:s.k<c.L.length
 rotate_left
 ·rw[if_pos Am,Gz] at Ea;cases Ea
 rw[if_neg (fun k=>k Am)] at Ea ht
 by_cases h3:(c.tk s.k).k=3
 ·rw[if_pos h3] at Ea ht;unfold Iw at Ea ht;cases hf:Es (c.tk s.k).w ns with
  |none=>rw[hf] at Ea;rw[Gz] at Ea;cases Ea
  |some n=>rw[hf] at ht;exact .inl ⟨n,ht.symm⟩
 rw[if_neg h3] at Ea ht;dsimp only at Ea ht;cases Ci:(Ad c (Ad c s 1).2 3).2.bad with
 |true=>rw[if_pos Ci] at Ea;rw[Ci] at Ea;cases Ea
 |false=>
 rw[if_neg (by rw[Ci];decide)] at Ea ht;obtain⟨b1,k1,k2,e2⟩:=Io Ci;obtain⟨_,k3,k4,e1⟩:=Io b1;rw[e1] at k1 k2 e2 Ea ht;rw[e2] at Ea ht;dsimp only at k1 k2 Ea ht;right;refine⟨k4,k1,k2,?_⟩;have Nh:=Acu (c.tk s.nx.k).w;generalize Cr (c.tk s.nx.k).w=g at Nh Ea ht;obtain⟨gk,sh⟩:=g;dsimp only at Ea ht
 by_cases hg:gk=0\/(want=1/\12<gk)\/(want=2/\2<gk/\gk<=12)
 ·rw[if_pos hg,Gz] at Ea;cases Ea
 rw[if_neg hg] at ht;rcases Nh with h0|h0
 ·cases h0;exact absurd (Or.inl rfl) hg
 ·exact⟨gk,sh,_,_,_,_,h0,ht.symm⟩
def Afe{k i j n:Int}{l:List Tm}{w:Int}(h:Fz (.mk k i j n l) 0=true)(hk:Jp k=0\/Jp k=w):Fz (.mk k i j n l) w=true:=by
 rw[Pz] at h |-;rw[q_jl] at h |-;refine⟨?_,h.2⟩;have h1:=h.1;unfold Lm at h1 |-;rw[q_jl] at h1 |-;refine⟨?_,h1.2⟩;rcases hk with hk|hk<;>rw[hk]<;>simp
def Aj6{P:Prop}[Decidable P]{a:Nat}{x t:Tm}(h:(if P then (zR,some a) else (x,none))=(t,none)):¬P/\x=t:=by
 by_cases hp:P
 ·rw[if_pos hp] at h;cases h
 ·rw[if_neg hp] at h;cases h;exact⟨hp,rfl⟩
def Alq{tx:By}{ns:List By}{i j:Nat}{t:Tm}(h:Gr tx ns i j=(t,none)) :
  (Bi tx).2=none/\dep 0 (Em tx)=0/\(ns.length+3*(tx.length+1)<2000000000->GT ns.length 0 (tx.length+1) t)/\∃s',Bw (rcR tx i j) ((Em tx).length+1) ns 0 ⟨0,false,0,[]⟩=(t,s')/\s'.bad=false:=by
 unfold Gr at h;dsimp only at h;have hL:=j4 tx;cases hx:(Bi tx).2 with
 |some p=>
  exfalso;rw[hx] at h;obtain⟨h2,_⟩:=Aj6 h
  by_cases h3:(Bw (rcR tx i j) ((rcR tx i j).L.length+1) ns 0 ⟨0,false,0,[]⟩).2.bad=false
  ·rw[if_pos ⟨h3,.inr rfl⟩,Gz] at h2;exact h2 rfl
  ·rw[if_neg (fun k=>h3 k.1)] at h2;exact h3 (by simpa using h2)
 |none=>
  have hc:rcR tx i j=⟨Em tx,tx.length,i,j⟩:=by unfold rcR;rw[hx]
  rw[hx] at h;rw[hc] at h |-;simp only[Option.isSome_none,q_l,or_false] at h;generalize hq:Bw ⟨Em tx,tx.length,i,j⟩ ((Em tx).length+1) ns 0 ⟨0,false,0,[]⟩=q at h |-;obtain⟨h2,rfl⟩:=Aj6 h;have hq2:q.2.bad=false/\¬q.2.k<(Em tx).length:=by
   by_cases h3:q.2.bad=false/\q.2.k<(Em tx).length
   ·rw[if_pos h3,Gz] at h2;exact absurd rfl h2
   ·rw[if_neg h3] at h2;have hb:q.2.bad=false:=by simpa using h2
    exact⟨hb,fun k=>h3 ⟨hb,k⟩⟩
  have ht:=Abm (c:=⟨Em tx,tx.length,i,j⟩) ((Em tx).length+1) ns 0 ⟨0,false,0,[]⟩ (by dsimp only;omega) (by omega) (Nat.zero_le _) (by rw[hq];exact hq2.1);rw[hq] at ht;obtain⟨_,g1,g2⟩:=ht;have hle:=g1.len;dsimp only at hle;have hd:=g1.d 0;have hk:q.2.k=(Em tx).length:=by omega
  rw[hk] at hd;unfold seg at hd;dsimp only at hd;rw[List.drop_zero,q_kq,q_kk] at hd;refine⟨rfl,hd,fun hn=>?_,q.2,rfl,hq2.1⟩;obtain⟨r1,r2,r3,r4⟩:=g2 (by omega);exact⟨r1,r2,r3,by omega⟩
open Go Go.Proofs Go.Proofs.YtgfehkhcmnfpaaaGreatDoor
def af14:AF:=⟨81,[(.cell 2 true 28),(.t 3),(.t 4)],(Ab [oP 2 (.new [.nils,(.bool false),(iS 0),(iS 0),(iS 0),(iS 0),(iS 0),.nils,(iS 0),(iS 0),(iS 0),(iS 0),.nils,(iS 0),(iS 0),(iS 0),(iS 0),.nils,(iS 0),(iS 0),(iS 0),(iS 0),.nils,(iS 0),(iS 0),(iS 0),(iS 0),.nils]),oP 3 (.mv (cI 0)),oP 4 (.mv (cI 0))] (Ab [Aa 9 0,Aa 10 0,oP 11 (.len true (.t 10)),oP 12 (.build [(.str (bs [])),.nils,(iS 0),(iS 0),(.bool false),(iS 0)] [(0,(1,(.t 9))),(3,(1,(.t 11)))]),oP 13 (.boxg (.t 12)),Aa 5 13] (Ab [Aa 15 0,oP 16 (.call 39 [(.t 15)]),Aa 14 16,oP 17 (.ext (.t 14) 0),oP 18 (.ext (.t 14) 1),oP 19 (.ext (.t 14) 2),Aa 6 17,Aa 7 18,Aa 8 19] (.seq (Ab [Aa 20 7,oP 21 (Ay .neq 20 0)] (Aj 21 (Ab [Aa 22 5,Aa 23 8,oP 24 (Ak 22),oP 25 (Ae 3 24),oN (Ax 1 25 23)] (Bg [Aa 27 0,Aa 28 8,oP 29 (.slc 0 (.t 27) none (some (.t 28))),oP 30 (.call 39 [(.t 29)]),Aa 26 30,oP 31 (.ext (.t 26) 0),oP 32 (.ext (.t 26) 1),oP 33 (.ext (.t 26) 2),Aa 6 31])) .skip)) (Ab [Aa 34 5,Aa 35 6,oP 36 (Ak 34),oP 37 (Ae 1 36),oN (Ax 1 37 35)] (Ab [Aa 38 5,oP 39 (.hcall 40 [(.t 38),(cI 1)])] (Ab [Aa 40 5,oP 41 (.hcall 41 [(.t 40)]),oN (Ax 28 2 41)] (Ab [Aa 42 5,oP 43 (.hcall 40 [(.t 42),(cI 2)])] (.seq (Cx [Aa 44 5,oI 45 1 (Ak 44),oI 46 2 (Ae 4 45),oI 47 3 (Ah 46),oI 48 4 (.un .not (.t 47)),oI 49 5 (mT 48),oG 50 49 true 6 (mT 5),oG 51 49 true 7 (Ak 50),oG 52 49 true 8 (Ae 2 51),oG 53 49 true 9 (Ah 52),oG 54 49 true 10 (mT 5),oG 55 49 true 11 (Ak 54),oG 56 49 true 12 (Ae 1 55),oG 57 49 true 13 (Ah 56),oG 58 49 true 14 (.len false (.t 57)),oG 59 49 true 15 (Ca .lss 53 58),oG 60 49 true 16 (mT 59),oG 61 60 false 17 (mT 7),oG 62 60 false 18 (Ay .neq 61 0),oG 63 49 true 19 (Dk 60 62),oI 64 20 (Cf 49 63)] (Aj 64 (Bg [Aa 65 5,Aa 66 5,oP 67 (Ak 66),oP 68 (Ae 2 67),oP 69 (Ah 68),oP 70 (.hcall 42 [(.t 65),(.t 69)])]) .skip)) (.seq (Ab [Aa 71 5,oP 72 (Ak 71),oP 73 (Ae 4 72),oP 74 (Ah 73)] (Aj 74 (Cx [oP 75 (.build [.nils,(.bool false),(iS 0),(iS 0),(iS 0),(iS 0),(iS 0),.nils,(iS 0),(iS 0),(iS 0),(iS 0),.nils,(iS 0),(iS 0),(iS 0),(iS 0),.nils,(iS 0),(iS 0),(iS 0),(iS 0),.nils,(iS 0),(iS 0),(iS 0),(iS 0),.nils] []),oI 76 1 (mT 5),oI 77 2 (Ak 76),oI 78 3 (Ae 5 77),⟨(some 79),(Ah 78),none,4,true,[]⟩,⟨none,(Ax 28 2 75),none,5,false,[4]⟩,oI 3 6 (.mv (cI 2)),oI 4 7 (mT 79)] .ret) .skip)) (Ab [oP 80 (Aq 28 2),oN (Ax 28 2 80),oP 3 (.mv (cI 0)),oP 4 (.mv (cI 0))] .ret)))))))))))⟩
def tr14:trF Tryz.prog Tryz.f14=some af14:=by kernel_rfl
attribute [go_sem] af14
def af40:AF:=⟨40,[(.t 4)],(Ab [oP 4 (.mv (At []))] (.seq (Ab [Aa 5 0,oP 6 (Ak 5),oP 7 (Ae 4 6),oP 8 (Ah 7),Aa 9 8,oG 10 9 false 0 (mT 0),oG 11 9 false 0 (mT 1),oG 12 9 false 0 (.hcall 77 [(.t 10),(.t 11)]),oG 13 9 false 0 (.un .not (.t 12)),oP 14 (Dk 9 13)] (Aj 14 (Ab [Aa 15 0,Aa 16 0,oP 17 (Ak 16),oP 18 (Ae 2 17),oP 19 (Ah 18),oP 20 (.hcall 42 [(.t 15),(.t 19)])] (Ab [oP 4 (.mv (At []))] .ret)) .skip)) (Ab [Aa 21 0,oP 22 (Ak 21),oP 23 (Ae 2 22),oP 24 (Ah 23),oP 25 (Ay .add 24 1),oP 26 (Ak 21),oP 27 (Ae 2 26),oN (Ax 1 27 25)] (Cx [Aa 28 0,oI 29 1 (Ak 28),oI 30 2 (Ae 1 29),oI 31 3 (Ah 30),oI 32 4 (mT 0),oI 33 5 (Ak 32),oI 34 6 (Ae 2 33),oI 35 7 (Ah 34),oI 36 8 (Ay .sub 35 1),oI 37 9 (.iad 3 (.t 31) (.t 36)),oI 38 10 (Ae 1 37),oI 39 11 (Ah 38),oI 4 12 (mT 39)] .ret))))⟩
def tr40:trF Tryz.prog Tryz.f40=some af40:=by kernel_rfl
attribute [go_sem] af40
def af42:AF:=⟨31,[],(.seq (Ab [Aa 5 0,oP 6 (Ak 5),oP 7 (Ae 4 6),oP 8 (Ah 7)] (Aj 8 .ret .skip)) (Ab [Aa 9 0,oP 10 (Ak 9),oP 11 (Ae 3 10),oP 12 (Ah 11),Aa 4 12] (.seq (Ab [Aa 13 1,Aa 14 0,oP 15 (Ak 14),oP 16 (Ae 1 15),oP 17 (Ah 16),oP 18 (.len false (.t 17)),oP 19 (Ca .lss 13 18)] (Aj 19 (Bg [Aa 20 0,oP 21 (Ak 20),oP 22 (Ae 1 21),oP 23 (Ah 22),Aa 24 1,oP 25 (.iad 3 (.t 23) (.t 24)),oP 26 (Ae 2 25),oP 27 (Ah 26),Aa 4 27]) .skip)) (Bg [Aa 28 0,Aa 29 4,oP 30 (.hcall 80 [(.t 28),(.t 29)])]))))⟩
def tr42:trF Tryz.prog Tryz.f42=some af42:=by kernel_rfl
attribute [go_sem] af42
def af80:AF:=⟨16,[],(Ab [Aa 4 0,oP 5 (Ak 4),oP 6 (Ae 4 5),oP 7 (Ah 6),oP 8 (.un .not (.t 7))] (Aj 8 (Bg [Aa 9 0,Aa 10 0,Aa 11 1,oP 12 (Ak 9),oP 13 (Ae 4 12),oN (.store 1 (.t 13) (cB true)),oP 14 (Ak 10),oP 15 (Ae 5 14),oN (Ax 1 15 11)]) .skip))⟩
def tr80:trF Tryz.prog Tryz.f80=some af80:=by kernel_rfl
attribute [go_sem] af80
def af77:AF:=⟨30,[(.t 4)],(Ab [oP 4 (.mv (cB false))] (Cx [Aa 5 0,oI 6 1 (Ak 5),oI 7 2 (Ae 2 6),oI 8 3 (Ah 7),oI 9 4 (mT 0),oI 10 5 (Ak 9),oI 11 6 (Ae 1 10),oI 12 7 (Ah 11),oI 13 8 (.len false (.t 12)),oI 14 9 (Ca .lss 8 13),oI 15 10 (mT 14),oG 16 15 true 11 (mT 0),oG 17 15 true 12 (Ak 16),oG 18 15 true 13 (Ae 1 17),oG 19 15 true 14 (Ah 18),oG 20 15 true 15 (mT 0),oG 21 15 true 16 (Ak 20),oG 22 15 true 17 (Ae 2 21),oG 23 15 true 18 (Ah 22),oG 24 15 true 19 (.iad 3 (.t 19) (.t 23)),oG 25 15 true 20 (Ae 0 24),oG 26 15 true 21 (Ah 25),oG 27 15 true 22 (mT 1),oG 28 15 true 23 (Ca .eql 26 27),oI 29 24 (Cf 15 28),oI 4 25 (mT 29)] .ret))⟩
def tr77:trF Tryz.prog Tryz.f77=some af77:=by kernel_rfl
attribute [go_sem] af77
def af78:AF:=⟨21,[(.t 2)],(Ab [oP 2 (.mv (cI 0))] (Ab [Aa 6 0,oP 7 (.hcall 40 [(.t 6),(cI 4)]),oP 8 (.call 122 [(.t 7)]),Aa 5 8,oP 9 (.ext (.t 5) 0),oP 10 (.ext (.t 5) 1),Aa 3 9,Aa 4 10] (.seq (Ab [Aa 11 3,oP 12 (Ay .gtr 11 1000)] (Aj 12 (Bg [Aa 13 0,Aa 14 0,oP 15 (Ak 14),oP 16 (Ae 2 15),oP 17 (Ah 16),oP 18 (Ay .sub 17 1),oP 19 (.hcall 42 [(.t 13),(.t 18)])]) .skip)) (Ab [Aa 20 3,Aa 2 20] .ret))))⟩
def tr78:trF Tryz.prog Tryz.f78=some af78:=by kernel_rfl
attribute [go_sem] af78
def af124:AF:=⟨38,[(.t 2)],(Ab [oP 2 (.mv (cI 0))] (Ab [oP 3 (.mv (cI 0))] (.seq (Ab [Aa 5 0,oP 6 (Ak 5),oP 7 (Ae 2 6),oP 8 (Ah 7),Aa 4 8] (.blk 0 (.loop (.seq (Ab [Aa 9 4,Aa 10 0,oP 11 (Ak 10),oP 12 (Ae 1 11),oP 13 (Ah 12),oP 14 (.len false (.t 13)),oP 15 (Ca .lss 9 14)] (Et 15 0)) (.seq (.blk 1 (.seq (Ab [Aa 18 0,oP 19 (Ak 18),oP 20 (Ae 1 19),oP 21 (Ah 20),Aa 22 4,oP 23 (.iad 3 (.t 21) (.t 22)),oP 24 (Ae 0 23),oP 25 (Ah 24)] (.blk 2 (Ab [oP 27 (An 25 1),Aa 26 27] (Aj 26 (Bg [Aa 28 3,oP 29 (Ay .add 28 1),Aa 3 29]) (Ab [oP 31 (An 25 2),Aa 30 31] (Aj 30 (Bg [Aa 32 3,oP 33 (Ay .sub 32 1),Aa 3 33]) .skip)))))) (Ab [Aa 34 3,oP 35 (Ay .leq 34 0)] (Aj 35 (Ab [Aa 36 4,oP 37 (Ay .add 36 1),Aa 2 37] .ret) .skip)))) (Bg [Aa 16 4,oP 17 (Ay .add 16 1),Aa 4 17])))))) (Ab [oP 2 (.mv (cI (-1)))] .ret))))⟩
def tr124:trF Tryz.prog Tryz.f124=some af124:=by kernel_rfl
attribute [go_sem] af124
def af79:AF:=⟨157,[(.cell 6 true 5)],(Ab [oP 6 Fp] (.seq (Cx [Aa 13 0,oI 14 1 (Ak 13),oI 15 2 (Ae 4 14),oI 16 3 (Ah 15),oI 17 4 (mT 16),oG 18 17 false 5 (mT 0),oG 19 17 false 6 (Ak 18),oG 20 17 false 7 (Ae 2 19),oG 21 17 false 8 (Ah 20),oG 22 17 false 9 (mT 0),oG 23 17 false 10 (Ak 22),oG 24 17 false 11 (Ae 1 23),oG 25 17 false 12 (Ah 24),oG 26 17 false 13 (.len false (.t 25)),oG 27 17 false 14 (Ca .geq 21 26),oI 28 15 (Dk 17 27)] (Aj 28 (Ab [Aa 29 0,Aa 30 0,oP 31 (Ak 30),oP 32 (Ae 2 31),oP 33 (Ah 32),oP 34 (.hcall 42 [(.t 29),(.t 33)])] (Ab [oP 35 (Gy []),oN (Ax 5 6 35)] .ret)) .skip)) (Cx [Aa 36 0,oI 37 1 (Ak 36),oI 38 2 (Ae 1 37),oI 39 3 (Ah 38),oI 40 4 (mT 0),oI 41 5 (Ak 40),oI 42 6 (Ae 2 41),oI 43 7 (Ah 42),oI 44 8 (.iad 3 (.t 39) (.t 43)),oI 45 9 (Ae 2 44),oI 46 10 (Ah 45),oI 7 11 (mT 46)] (.seq (Cx [Aa 47 0,⟨(some 48),(.hcall 77 [(.t 47),(cI 1)]),none,1,false,[1]⟩,oI 49 2 (mT 48),oG 50 49 true 3 (mT 0),oG 51 49 true 4 (Ak 50),oG 52 49 true 5 (Ae 2 51),oG 53 49 true 6 (Ah 52),oG 54 49 true 7 (Ay .add 53 1),oG 55 49 true 8 (mT 0),oG 56 49 true 9 (Ak 55),oG 57 49 true 10 (Ae 1 56),oG 58 49 true 11 (Ah 57),oG 59 49 true 12 (.len false (.t 58)),oG 60 49 true 13 (Ca .lss 54 59),oI 61 14 (Cf 49 60),oI 62 15 (mT 61),oG 63 62 true 16 (mT 0),oG 64 62 true 17 (Ak 63),oG 65 62 true 18 (Ae 1 64),oG 66 62 true 19 (Ah 65),oG 67 62 true 20 (mT 0),oG 68 62 true 21 (Ak 67),oG 69 62 true 22 (Ae 2 68),oG 70 62 true 23 (Ah 69),oG 71 62 true 24 (Ay .add 70 1),oG 72 62 true 25 (.iad 3 (.t 66) (.t 71)),oG 73 62 true 26 (Ae 0 72),oG 74 62 true 27 (Ah 73),oG 75 62 true 28 (An 74 3),oI 76 29 (Cf 62 75),oI 77 30 (mT 76),oG 78 77 true 31 (mT 0),oG 79 77 true 32 (Ak 78),oG 80 77 true 33 (Ae 1 79),oG 81 77 true 34 (Ah 80),oG 82 77 true 35 (mT 0),oG 83 77 true 36 (Ak 82),oG 84 77 true 37 (Ae 2 83),oG 85 77 true 38 (Ah 84),oG 86 77 true 39 (Ay .add 85 1),oG 87 77 true 40 (.iad 3 (.t 81) (.t 86)),oG 88 77 true 41 (Ae 1 87),oG 89 77 true 42 (Ah 88),oG 90 77 true 43 (mT 2),oG 91 77 true 44 (.call 123 [(.t 89),(.t 90)]),oI 92 45 (Cf 77 91)] (Aj 92 (Ab [Aa 93 0,Aa 94 0,oP 95 (Ak 94),oP 96 (Ae 2 95),oP 97 (Ah 96),oP 98 (Ay .add 97 1),oP 99 (.hcall 42 [(.t 93),(.t 98)])] (Ab [oP 100 (Gy []),oN (Ax 5 6 100)] .ret)) .skip)) (Cx [Aa 101 0,oI 102 1 (Ak 101),oI 103 2 (Ae 0 102),⟨(some 104),(Ah 103),none,3,true,[]⟩,oI 105 4 (.len true (.t 104)),oI 106 5 (mT 0),⟨(some 107),(.hcall 124 [(.t 106)]),none,6,false,[3,6]⟩,oI 8 7 (mT 105),oI 9 8 (mT 107)] (.seq (Ab [Aa 108 9,oP 109 (Ay .gtr 108 0)] (Aj 109 (.reg [Aa 110 0,oI 111 1 (Ak 110),oI 112 2 (Ae 1 111),oI 113 3 (Ah 112),oI 114 4 (mT 9),oI 115 5 (Ay .sub 114 1),oI 116 6 (.iad 3 (.t 113) (.t 115)),oI 117 7 (Ae 2 116),oI 118 8 (Ah 117),oI 119 9 (mT 0),oI 120 10 (Ak 119),oI 121 11 (Ae 1 120),oI 122 12 (Ah 121),oI 123 13 (mT 9),oI 124 14 (Ay .sub 123 1),oI 125 15 (.iad 3 (.t 122) (.t 124)),oI 126 16 (Ae 1 125),oI 127 17 (Ah 126),oI 128 18 (.len true (.t 127)),oI 129 19 (Ca .add 118 128),oI 8 20 (mT 129)] true) .skip)) (Cx [Aa 131 0,oI 132 1 (Ak 131),oI 133 2 (Ae 0 132),⟨(some 134),(Ah 133),none,3,true,[]⟩,oI 135 4 (mT 7),oI 136 5 (mT 8),⟨(some 137),(.slc 0 (.t 134) (some (.t 135)) (some (.t 136))),none,6,true,[]⟩,oI 138 7 (mT 1),⟨(some 139),(.call 126 [(.t 138)]),none,8,true,[3,6]⟩,⟨(some 140),(.call 125 [(.t 137),(.t 139),(cI 0),(cI 0)]),none,9,true,[]⟩,oI 130 10 (mT 140),oI 141 11 (.ext (.t 130) 0),oI 142 12 (.ext (.t 130) 1),oI 143 13 (.ext (.t 130) 2),⟨(some 10),Fp,none,14,false,[3,6,8,9]⟩,oJ 15 (Ax 5 10 141),oI 11 16 (mT 142),oI 12 17 (mT 143)] (.seq (Ab [Aa 144 11,oP 145 (Ay .neq 144 0)] (Aj 145 (Ab [Aa 146 0,Aa 147 7,Aa 148 12,oP 149 (Ca .add 147 148),oP 150 (.hcall 80 [(.t 146),(.t 149)])] (Ab [oP 151 (Gy []),oN (Ax 5 6 151)] .ret)) .skip)) (Ab [Aa 152 0,Aa 153 9,oP 154 (Ak 152),oP 155 (Ae 2 154),oN (Ax 1 155 153)] (Ab [oP 156 (Aq 5 10),oN (Ax 5 6 156)] .ret))))))))))⟩
def tr79:trF Tryz.prog Tryz.f79=some af79:=by kernel_rfl
attribute [go_sem] af79
def af41:AF:=⟨87,[(.cell 2 true 28)],(Ab [oP 2 (.new [.nils,(.bool false),(iS 0),(iS 0),(iS 0),(iS 0),(iS 0),.nils,(iS 0),(iS 0),(iS 0),(iS 0),.nils,(iS 0),(iS 0),(iS 0),(iS 0),.nils,(iS 0),(iS 0),(iS 0),(iS 0),.nils,(iS 0),(iS 0),(iS 0),(iS 0),.nils])] (Ab [oP 3 (.new [.nils,(.bool false),(iS 0),(iS 0),(iS 0),(iS 0),(iS 0),.nils,(iS 0),(iS 0),(iS 0),(iS 0),.nils,(iS 0),(iS 0),(iS 0),(iS 0),.nils,(iS 0),(iS 0),(iS 0),(iS 0),.nils,(iS 0),(iS 0),(iS 0),(iS 0),.nils])] (.seq (Ab [Aa 6 0,oP 7 (.hcall 40 [(.t 6),(cI 3)])] (.blk 0 (Ab [oP 16 (.bin 4 .eql (.t 7) (At [116,101,114,109])),Aa 15 16] (Aj 15 .skip (Ab [oP 18 (.bin 4 .eql (.t 7) (At [101,113,117,97,108])),Aa 17 18] (Aj 17 (Bg [oP 19 (Ae 1 3),oN (.store 1 (.t 19) (cB true))]) (Bg [Aa 8 0,Aa 9 0,oP 10 (Ak 9),oP 11 (Ae 2 10),oP 12 (Ah 11),oP 13 (Ay .sub 12 1),oP 14 (.hcall 42 [(.t 8),(.t 13)])]))))))) (Ab [Aa 20 0,oP 21 (.hcall 40 [(.t 20),(cI 1)])] (.seq (.blk 1 (.loop (.seq (Ab [Aa 22 0,oP 23 (Ak 22),oP 24 (Ae 4 23),oP 25 (Ah 24),oP 26 (.un .not (.t 25)),Aa 27 26,oG 28 27 true 0 (mT 0),oG 29 27 true 0 (.hcall 77 [(.t 28),(cI 2)]),oG 30 27 true 0 (.un .not (.t 29)),oP 31 (Cf 27 30)] (Et 31 1)) (.blk 2 (Ab [Aa 32 0,oP 33 (.hcall 78 [(.t 32)]),Aa 4 33] (.reg [oP 34 (Ae 0 3),⟨(some 35),(Ah 34),none,1,true,[]⟩,oI 36 2 (mT 0),oI 37 3 (Ae 0 3),oI 38 4 (Ah 37),oI 39 5 (.len false (.t 38)),⟨(some 40),(.hcall 79 [(.t 36),(.t 39),(cB false)]),none,6,false,[1]⟩,oI 41 7 (mT 4),oI 42 8 (.build [(iS 0),(iS 0),(iS 0),(iS 0),.nils,(iS 0)] [(0,(5,(.t 40))),(5,(1,(.t 41)))]),⟨(some 43),(.bslice 6 [(.t 42)]),none,9,false,[1]⟩,oI 44 10 (.app 6 64 (.t 35) (.t 43)),oI 45 11 (Ae 0 3),oJ 12 (Ax 1 45 44)] true)))))) (Ab [Aa 46 0,oP 47 (.hcall 40 [(.t 46),(cI 2)])] (Ab [Aa 48 0,oP 49 (.hcall 78 [(.t 48)]),oP 50 (Ae 2 3),oN (Ax 1 50 49)] (Ab [oP 51 (Ae 0 3),oP 52 (Ah 51),oP 53 (.len false (.t 52)),Aa 5 53] (.seq (Ab [oP 54 (Ae 1 3),oP 55 (Ah 54),oP 56 (.un .not (.t 55))] (Aj 56 (Ab [Aa 57 0,Aa 58 5,oP 59 (.hcall 79 [(.t 57),(.t 58),(cB false)]),oP 60 (Ae 8 3),oN (Ax 5 60 59)] (Ab [Aa 61 0,Aa 62 5,oP 63 (.hcall 79 [(.t 61),(.t 62),(cB false)]),oP 64 (Ae 3 3),oN (Ax 5 64 63)] (Ab [oP 65 (Aq 28 3),oN (Ax 28 2 65)] .ret))) .skip)) (Ab [Aa 66 0,Aa 67 5,oP 68 (.hcall 79 [(.t 66),(.t 67),(cB false)]),oP 69 (Ae 3 3),oN (Ax 5 69 68)] (Ab [Aa 70 0,Aa 71 5,oP 72 (.hcall 79 [(.t 70),(.t 71),(cB false)]),oP 73 (Ae 8 3),oN (Ax 5 73 72)] (Ab [Aa 74 0,Aa 75 5,oP 76 (.hcall 79 [(.t 74),(.t 75),(cB false)]),oP 77 (Ae 13 3),oN (Ax 5 77 76)] (Ab [Aa 78 0,Aa 79 5,oP 80 (.hcall 79 [(.t 78),(.t 79),(cB false)]),oP 81 (Ae 18 3),oN (Ax 5 81 80)] (Ab [Aa 82 0,Aa 83 5,oP 84 (.hcall 79 [(.t 82),(.t 83),(cB true)]),oP 85 (Ae 23 3),oN (Ax 5 85 84)] (Ab [oP 86 (Aq 28 3),oN (Ax 28 2 86)] .ret)))))))))))))))⟩
def tr41:trF Tryz.prog Tryz.f41=some af41:=by kernel_rfl
attribute [go_sem] af41
def af123:AF:=⟨32,[(.t 4)],(Ab [oP 4 (.mv (cB false))] (.seq (Ab [Aa 5 0] (.blk 0 (.seq (Ab [oP 7 (.bin 4 .eql (.t 5) (At [112,105])),Aa 6 7] (Aj 6 .skip (Ab [oP 8 (.bin 4 .eql (.t 5) (At [108,97,109])),Aa 6 8] (Aj 6 .skip (Ab [oP 9 (.bin 4 .eql (.t 5) (At [97,112,112])),Aa 6 9] (Aj 6 .skip (Ab [oP 10 (.bin 4 .eql (.t 5) (At [115,105,103])),Aa 6 10] (Aj 6 .skip (Ab [oP 11 (.bin 4 .eql (.t 5) (At [112,97,105,114])),Aa 6 11] (Aj 6 .skip (Ab [oP 12 (.bin 4 .eql (.t 5) (At [102,115,116])),Aa 6 12] (Aj 6 .skip (Ab [oP 13 (.bin 4 .eql (.t 5) (At [115,110,100])),Aa 6 13] (Aj 6 .skip (Ab [oP 14 (.bin 4 .eql (.t 5) (At [101,113])),Aa 6 14] (Aj 6 .skip (Ab [oP 15 (.bin 4 .eql (.t 5) (At [114,101,102,108])),Aa 6 15] (Aj 6 .skip (Bg [oP 16 (.bin 4 .eql (.t 5) (At [116,114])),Aa 6 16]))))))))))))))))))) (Aj 6 (Ab [Aa 17 1,Aa 4 17] .ret) (.seq (Ab [oP 19 (.bin 4 .eql (.t 5) (At [80,105])),Aa 18 19] (Aj 18 .skip (Ab [oP 20 (.bin 4 .eql (.t 5) (At [76,97,109])),Aa 18 20] (Aj 18 .skip (Ab [oP 21 (.bin 4 .eql (.t 5) (At [65,112,112])),Aa 18 21] (Aj 18 .skip (Ab [oP 22 (.bin 4 .eql (.t 5) (At [83,105,103])),Aa 18 22] (Aj 18 .skip (Ab [oP 23 (.bin 4 .eql (.t 5) (At [80,97,105,114])),Aa 18 23] (Aj 18 .skip (Ab [oP 24 (.bin 4 .eql (.t 5) (At [70,115,116])),Aa 18 24] (Aj 18 .skip (Ab [oP 25 (.bin 4 .eql (.t 5) (At [83,110,100])),Aa 18 25] (Aj 18 .skip (Ab [oP 26 (.bin 4 .eql (.t 5) (At [69,113])),Aa 18 26] (Aj 18 .skip (Ab [oP 27 (.bin 4 .eql (.t 5) (At [82,101,102,108])),Aa 18 27] (Aj 18 .skip (Ab [oP 28 (.bin 4 .eql (.t 5) (At [74])),Aa 18 28] (Aj 18 .skip (Bg [oP 29 (.bin 4 .eql (.t 5) (At [117,115,101])),Aa 18 29]))))))))))))))))))))) (Aj 18 (Ab [Aa 30 1,oP 31 (.un .not (.t 30)),Aa 4 31] .ret) .skip)))))) (Ab [oP 4 (.mv (cB false))] .ret)))⟩
def tr123:trF Tryz.prog Tryz.f123=some af123:=by kernel_rfl
attribute [go_sem] af123
def af126:AF:=⟨25,[(.t 2)],(Ab [oP 2 (.mv (.c .nils))] (.seq (Ab [Aa 5 0,oP 6 (Ay .lss 5 0),Aa 7 6,oG 8 7 false 0 (mT 0),oG 9 7 false 0 (Ay .gtr 8 1000000),oP 10 (Dk 7 9)] (Aj 10 (Ab [oP 2 (.mv (.c .nils))] .ret) .skip)) (Ab [Aa 11 0,oP 12 (.mk 1 16 [(.str (bs []))] (.t 11) (.t 11)),Aa 3 12] (.seq (Ab [Aa 13 3,oP 14 (.len false (.t 13)),oP 15 (.mv (cI 0))] (.blk 0 (.loop (Ab [oP 16 (Ca .lss 15 14)] (.seq (Et 16 0) (.seq (.blk 1 (Ab [Aa 17 15,Aa 4 17] (Bg [Aa 18 3,Aa 19 4,Aa 20 4,oP 21 (.call 97 [(.t 20)]),oP 22 (.iad 1 (.t 18) (.t 19)),oN (Ax 1 22 21)]))) (Bg [oP 23 (Ay .add 15 1),Aa 15 23]))))))) (Ab [Aa 24 3,Aa 2 24] .ret)))))⟩
def tr126:trF Tryz.prog Tryz.f126=some af126:=by kernel_rfl
attribute [go_sem] af126
def af97:AF:=⟨6,[(.t 2)],(Ab [oP 2 (.mv (At []))] (Ab [Aa 3 0,oP 4 (.call 32 [(.t 3)]),oP 5 (.bin 4 .add (At [118]) (.t 4)),Aa 2 5] .ret))⟩
def tr97:trF Tryz.prog Tryz.f97=some af97:=by kernel_rfl
attribute [go_sem] af97
open Go Go.RowKit Go.Proofs.YtgfehkhcmnfpaaaGreatDoor
def Co(c:QC)(s:QS):List SV:=[.str (bs c.tx),.dsl 3 (c.L.map De),.int .i64 s.k,.int .i64 c.e,.bool s.bad,.int .i64 s.at_]
structure QAt(c:QC)(k:Nat):Prop where
 lt:k<c.L.length
 ltz:(k:Int)<(c.L.length:Int)
 ge:(0:Int)<=(k:Int)
 row:(c.L.map De)[k]?.getD []=[.int .i64 (c.tk k).k,.str (bs (c.tk k).w),.int .i64 (c.tk k).p]
 w1:IntKind.i64.wrap ((k:Int)+1)=((k+1:Nat):Int)
 w2:IntKind.i64.wrap (((k+1:Nat):Int)-1)=(k:Int)
 nge:¬(k:Int) >= (c.L.length:Int)
 big:(c.L.length<=140737488355328)=True
def qAt{c:QC}(hn:c.L.length<100000000000){k:Nat}(h:k<c.L.length):QAt c k:=by
 refine⟨h,by omega,by omega,?_,by rw[w64 (by unfold fit;omega)];omega,by rw[w64 (by unfold fit;omega)];omega,by omega,by simp;omega⟩;rw[q_ji,q_f h];unfold QC.tk;rw[q_j,q_f h];rfl
section
variable{c:QC}{s:QS}
def Qt(p:Nat):Cj 80 [Co c s] [.gp 0 0,.int .i64 p] (.ret (.tup [])) [Co c (Gj s p)]:=by
 refine Bq mixed Tryz.func80 tr80 ?_;obtain⟨k,b,a⟩:=s;unfold Co Gj;cases b
 ·simp only[go_sem,seval,q_l,if_false]
 ·simp only[go_sem,seval,if_true]
def Vw(hn:c.L.length<100000000000)(k:Nat):Cj 42 [Co c s] [.gp 0 0,.int .i64 k] (.ret (.tup [])) [Co c (Dn c s k)]:=by
 have cp:=Qt (c:=c) (s:=s) (if k<c.L.length then (c.tk k).p else c.e);refine Bq mixed Tryz.func42 tr42 ?_;have a10:(c.L.length<=140737488355328)=True:=by simp;omega
 unfold Dn;obtain⟨sk,b,a⟩:=s;unfold Co at cp |-;cases b
 ·by_cases h:k<c.L.length
  ·obtain⟨a1,a2,a3,a4,a6,a7,a8,a9⟩:=qAt hn h;rw[if_pos h] at cp |-;simp only[go_sem,seval,a1,a2,a3,a4,a9,q_g,forall_const];refine Ac cp ?_;simp only[go_sem,seval]
  ·rw[if_neg h] at cp |-;simp only[go_sem,seval,a10,(show ¬(k:Int)<(c.L.length:Int) by omega),q_g,forall_const];refine Ac cp ?_;simp only[go_sem,seval]
 ·simp only[go_sem,seval];rfl
def Avk(hb:s.bad=true)(z:Int):Cj 42 [Co c s] [.gp 0 0,.int .i64 z] (.ret (.tup [])) [Co c s]:=by
 refine Bq mixed Tryz.func42 tr42 ?_;obtain⟨sk,b,a⟩:=s;simp only at hb;subst hb;unfold Co;simp only[go_sem,seval]
def Yo(hn:c.L.length<100000000000)(kd:Nat):Cj 77 [Co c s] [.gp 0 0,.int .i64 kd] (.ret (.bool (isQ c s kd))) [Co c s]:=by
 refine Bq mixed Tryz.func77 tr77 ?_;have a10:(c.L.length<=140737488355328)=True:=by simp;omega
 unfold isQ;obtain⟨k,b,a⟩:=s;unfold Co;simp only
 by_cases h:k<c.L.length
 ·obtain⟨a1,a2,a3,a4,a6,a7,a8,a9⟩:=qAt hn h;have hk:(((c.tk k).k:Int)==(kd:Int))=decide ((c.tk k).k=kd):=by
   by_cases e:(c.tk k).k=kd
   ·simp[e]
   ·simp[e];omega
  simp only[go_sem,seval,a1,a2,a3,a4,a9,q_g,hk,decide_true,q_ld,forall_const]
 ·simp only[go_sem,seval,a10,(show ¬(k:Int)<(c.L.length:Int) by omega),h,decide_false,q_lf,q_g,forall_const]
def Ix(hn:c.L.length<100000000000)(kd:Nat):Cj 40 [Co c s] [.gp 0 0,.int .i64 kd] (.ret (.str (bs (Bs c s kd).1))) [Co c (Bs c s kd).2]:=by
 have ci:=Yo (s:=s) hn kd;have cf:=Vw (s:=s) hn s.k;refine Bq mixed Tryz.func40 tr40 ?_;have a10:(c.L.length<=140737488355328)=True:=by simp;omega
 unfold Bs;obtain⟨k,b,a⟩:=s;cases b;rotate_left
 ·rw[if_neg (by simp)];unfold Co at cf |-;simp only[go_sem,seval];refine Ac cf ?_;simp only[go_sem,seval]
 cases hi:isQ c ⟨k,false,a⟩ kd
 ·rw[hi] at ci;rw[if_neg (by simp)];unfold Co at ci cf |-;simp only[go_sem,seval];refine Ac ci ?_;simp only[go_sem,seval];refine Ac cf ?_;simp only[go_sem,seval]
 ·rw[hi] at ci;rw[if_pos ⟨rfl,rfl⟩];have h:k<c.L.length:=by unfold isQ at hi;simp at hi;exact hi.1
  obtain⟨a1,a2,a3,a4,a6,a7,a8,a9⟩:=qAt hn h;unfold Co at ci |-;simp only[go_sem,seval];refine Ac ci ?_;simp only[go_sem,seval,a1,a2,a3,a4,a6,a7,a9,q_g,forall_const]
def Abk(hb:s.bad=false)(kd:Nat):Bs c s kd=((c.tk s.k).w,{ s with k:=s.k+1 })/\s.k<c.L.length/\(c.tk s.k).k=kd\/∃a,Bs c s kd=([],{ s with bad:=true,at_:=a }):=by
 unfold Bs;split
 ·rename_i h;refine .inl ⟨rfl,?_⟩;have:=h.2;unfold isQ at this;simpa using this
 ·right;unfold Dn Gj;rw[hb,if_neg (by decide)];exact⟨_,rfl⟩
def Abi(hb:s.bad=true)(kd:Nat):Bs c s kd=([],s):=by
 unfold Bs;rw[if_neg (fun h=>by rw[hb] at h;cases h.1)];unfold Dn Gj;rw[if_pos hb]
def q9:Do []=none:=rfl
def Ky(hn:c.L.length<100000000000):Cj 78 [Co c s] [.gp 0 0] (.ret (.int .i64 (Dj c s).1)) [Co c (Dj c s).2]:=by
 have ct:=Ix (s:=s) hn 4;have cg:=Ab8 (Bs c s 4).1;refine Bq mixed Tryz.func78 tr78 ?_;unfold Dj
 by_cases Gn:1000<(Do (Bs c s 4).1).getD 0
 ·obtain⟨h1,h2⟩:∃k:Nat,(Bs c s 4).2.k=k+1/\k<c.L.length:=by
   cases hb:s.bad with
   |true=>rw[Abi hb,q9] at Gn;simp at Gn
   |false=>
    rcases Abk (c:=c) hb 4 with⟨h,h1,_⟩|⟨a,h⟩
    ·rw[h];exact⟨s.k,rfl,h1⟩
    ·rw[h,q9] at Gn;simp at Gn
  have hw:IntKind.i64.wrap (((Bs c s 4).2.k:Int)-1)=(((Bs c s 4).2.k-1:Nat):Int):=by rw[h2.1,w64 (by unfold fit;omega)];omega
  have cf:=Vw (s:=(Bs c s 4).2) hn ((Bs c s 4).2.k-1);rw[if_pos Gn];generalize Bs c s 4=q at *
  obtain⟨w,sq⟩:=q;unfold Co at *
  simp only at *
  repeat' first
  |simp only[go_sem,seval,q_jn (show (((Do w).getD 0:Nat):Int) > 1000 by omega),hw]
  |refine Ac ct ?_
  |refine Ag cg ?_
  |refine Ac cf ?_
 ·rw[if_neg Gn];generalize Bs c s 4=q at *
  obtain⟨w,sq⟩:=q;unfold Co at *
  simp only at *
  repeat' first
  |simp only[go_sem,seval,q_je (show ¬(((Do w).getD 0:Nat):Int) > 1000 by omega)]
  |refine Ac ct ?_
  |refine Ag cg ?_
end
end Go.Proofs.YtgfehkhcmnfpaaaGreatDoor.Abs
