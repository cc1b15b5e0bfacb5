import Derived.Test.YtdpigpopcbjkmaaGreatDoorXAfK
set_option linter.unusedSimpArgs false
set_option linter.unusedVariables false
set_option maxRecDepth 20000
set_option maxHeartbeats 4000000
namespace Go.Proofs.YtdpigpopcbjkmaaGreatDoor.Abs
open Go Go.RowKit Go.Proofs.YtdpigpopcbjkmaaGreatDoor
theorem Aua:Con 163 [.int .i64 0,.int .i64 10] (.str (bs [48])):=by
 intro m w vs h1 h2 h3;obtain⟨v,u,rfl⟩:∃v u,vs=[v,u]:=by
  match vs,h2 with
  |[v,u],_=>exact⟨v,u,rfl⟩
 have hv:=h3 0 v _ rfl rfl;have hu:=h3 1 u _ rfl rfl;cases hv;cases hu;refine Calls.mono (Nrm.fmt_zero w) (fun e w' he=>?_);obtain⟨rfl,rfl⟩:=he;exact⟨_,m,rfl,.str _,⟨.refl m,rfl⟩,fun _ _ _=>rfl,h1,rfl,rfl,rfl,Nat.le_refl _,fun _ _=>rfl⟩
theorem Avg:Con 154 [.int .i64 0] (.str (bs [48])):=by
 refine Al mixed Tryz.func154 tr154 ?_;simp only[go_sem,seval];refine Aa (r:=.str (bs [48])) ?_ ?_
 ·refine Al mixed Tryz.func159 tr159 ?_;simp only[go_sem,seval];refine Aa (r:=.str (bs [48])) ?_ ?_
  ·refine Al mixed Tryz.func162 tr162 ?_;simp only[go_sem,seval];refine Aa Aua ?_;simp only[go_sem,seval]
  ·simp only[go_sem,seval]
 ·simp only[go_sem,seval]
theorem w8z:IntKind.u8.wrap 0=0:=rfl
theorem w64z:IntKind.i64.wrap 0=0:=rfl
theorem m10z:(10:Int)*0=0:=rfl
theorem Ac0:Con 148 [.str (bs [48])] (.tup [.int .i64 0,.bool true]):=by
 refine Al mixed Tryz.func148 tr148 ?_;have hx:((UInt8.toNat 48:Nat):Int)=48:=rfl;simp only[go_sem,seval];refine Cd 3 (Ak ?_);simp only[go_sem,seval,hx];refine Ak ?_;simp only[go_sem,seval,hx,w8z,w64z,m10z];refine Aa Avg ?_;simp only[go_sem,seval]
theorem Xp:Con 117 [.str (bs [48])] (.tup [.int .i64 0,.bool true]):=by
 refine Al mixed Tryz.func117 tr117 ?_;have hx:((UInt8.toNat 48:Nat):Int)=48:=rfl;simp only[go_sem,seval,hx];refine Cd 3 (Ak ?_);simp only[go_sem,seval,hx];refine Ak ?_;simp only[go_sem,seval,hx,w8z,w64z,m10z]
def Jk(l:By)(q:Nat):Bool:=Jd (chN l q) || Ps (chN l q)
def Aih(l:By)(p e:Nat):Prop:=p<e/\e<=l.length/\(∀q,p<q->q<e->Jk l q=true)/\(e<l.length->Jk l e=false)
def Xc(l:By)(p k e:Nat):Prop:=
 (k=1/\chN l p=40/\e=p+1/\p<l.length)\/(k=2/\chN l p=41/\e=p+1/\p<l.length) \/
 (k=3/\Jd (chN l p)=true/\Aih l p e/\e-p<=20)\/(k=4/\chN l p=48/\Aih l p e/\e=p+1)
def Gg(l:By)(p e:Nat):By:=(l.drop p).take (e-p)
theorem Ol{l:By}{p:Nat}(h:p<l.length):Gg l p (p+1)=[l.getD p 0]:=by
 unfold Gg;rw[show p+1-p=1 by omega,List.drop_eq_getElem_cons h,List.take_succ_cons,List.take_zero,List.getD_eq_getElem?_getD,q_f h];rfl
theorem Pr{l:By}{p n:Nat}(h:chN l p=n)(hn:n<256):l.getD p 0=UInt8.ofNat n:=by
 unfold chN at h;rw[<-h];simp
theorem Zt{n:Nat}(h:Jd n=true):n≠40/\n≠41:=by
 unfold Jd at h;simp only[Bool.or_eq_true,Bool.and_eq_true,decide_eq_true_eq] at h;omega
theorem Ahv{l:By}(hl:l.length<1000000000000){p k e:Nat}(h:Xc l p k e):Con 138 [.str (bs l),.int .i64 p] (.tup [.agg true [.int .i64 k,.str (bs (Gg l p e)),.int .i64 p],.bool true]):=by
 have hp:p<l.length:=by
  rcases h with⟨_,_,_,h⟩|⟨_,_,_,h⟩|⟨_,_,h,_⟩|⟨_,_,h,_⟩
  ·exact h
  ·exact h
  ·have:=h.1;have:=h.2.1;omega
  ·have:=h.1;have:=h.2.1;omega
 have e0:(0:Int)<=(p:Int):=by omega
 refine Al mixed Tryz.func138 tr138 ?_;rcases h with⟨rfl,hc,rfl,_⟩|⟨rfl,hc,rfl,_⟩|⟨rfl,hc,hw,h20⟩|⟨rfl,hc,hw,he⟩
 ·rw[Ol hp,Pr hc (by decide)];simp only[go_sem,seval,Cf,e0,hp,hc]
 ·rw[Ol hp,Pr hc (by decide)];simp only[go_sem,seval,Cf,e0,hp,hc]
 ·obtain⟨c1,c2⟩:=Zt hc;have d1:=Ib c1;have d2:=Ib c2;simp only[Int.cast_ofNat_Int] at d1 d2;simp only[go_sem,seval,Cf,e0,hp,d1,d2];refine Aa (Xo _) ?_;simp only[go_sem,seval,hc];obtain⟨w1,w2,w3,w4⟩:=hw;have Sb:IntKind.i64.wrap ((p:Int)+1)=((p+1:Nat):Int):=by rw[w64 (by unfold fit;omega)];omega
  rw[Sb];refine Xj (fun a:Nat=>⟨(.str (bs l)::.int .i64 p::.J::.J::.ref 0 0 0 0::.bool false::.J::.int .i64 a::.J::.J::.J::.J::.J::.J::.J::.bool false::.J::.J::.J::.J::.bool false::.J::.J::.J::.J::.bool true::.J::.J::.J::.J::.J::.J::.J::.J::.J::.J::.J::.J::.J::.J::.J::.J::.J::.J::.J::.J::.J::.J::.J::.J::.J::.J::.J::.J::.J::.J::.J::.J::.J::.J::.J::.J::.J::.J::.J::.J::.J::.J::.J::.J::.J::.J::.J::.J::.J::.J::.J::.J::.J::.J::.J::.J::.J::.J::.J::.J::.J::.J::.J::.J::.J::.J::.J::.J::.J::.J::.J::.J::.J::.J::[]),[⟨true,3,[[.int .i64 0,.str (bs []),.int .i64 0]],0,0,true⟩]⟩) (fun a=>e-a) (fun a=>p<a/\a<=e) (fun a ha=>?_) (p+1) ⟨by omega,by omega⟩ ?_
  ·by_cases hq:a<e
   ·have hc:=w3 a ha.1 hq;have f0:(0:Int)<=(a:Int):=by omega
    have f1:(a:Int)<(l.length:Int):=by omega
    have f2:a<l.length:=by omega
    unfold Jk at hc;simp only[go_sem,seval,Cf,f0,f1,f2];refine Aa (Xo _) ?_;cases h1:Jd (chN l a)
    ·rw[h1,Bool.false_or] at hc;simp only[go_sem,seval,Cf,f0,f1,f2];refine Aa (q8 _) ?_;simp only[go_sem,seval,hc];refine⟨a+1,⟨by omega,by omega⟩,?_⟩;rw[show ((a:Int)+1)=((a+1:Nat):Int) by omega,w64 (by unfold fit;omega)];exact Au (by simp[An])
    ·simp only[go_sem,seval];refine⟨a+1,⟨by omega,by omega⟩,?_⟩;rw[show ((a:Int)+1)=((a+1:Nat):Int) by omega,w64 (by unfold fit;omega)];exact Au (by simp[An])
   ·have Yc:a=e:=by omega
    subst Yc;have g0:(0:Int)<=(p:Int):=by omega
    have g1:(p:Int)<=(a:Int):=by omega
    have g2:(a:Int)<=(l.length:Int):=by omega
    have g3:(0:Int)<=(a:Int):=by omega
    have g4:p<=a:=by omega
    have g5:a<=l.length:=by omega
    have g6:IntKind.i64.wrap ((a:Int)-p)<=20:=by rw[w64 (by unfold fit;omega)];omega
    by_cases Ab:a<l.length
    ·have hc:=w4 Ab;unfold Jk at hc;rw[Bool.or_eq_false_iff] at hc;have f1:(a:Int)<(l.length:Int):=by omega
     simp only[go_sem,seval,Cf,g3,f1,Ab];refine Aa (Xo _) ?_;rw[hc.1];simp only[go_sem,seval,Cf,g3,f1,Ab];refine Aa (q8 _) ?_;rw[hc.2];simp only[go_sem,seval,g0,g1,g2,g3,g4,g5,g6];rfl
    ·have f1:¬(a:Int)<(l.length:Int):=by omega
     simp only[go_sem,seval,f1,g0,g1,g2,g3,g4,g5,g6];rfl
  ·exact Au (by simp[An])
 ·obtain⟨w1,w2,w3,w4⟩:=hw;subst he;have Sb:IntKind.i64.wrap ((p:Int)+1)=((p+1:Nat):Int):=by rw[w64 (by unfold fit;omega)];omega
  have l48:Jd 48=false:=by decide
  have d48:Ps 48=true:=by decide
  have g1:(p:Int)<=((p+1:Nat):Int):=by omega
  have g2:((p+1:Nat):Int)<=(l.length:Int):=by omega
  have g3:(0:Int)<=((p+1:Nat):Int):=by omega
  have g4:p<=p+1:=by omega
  have hk:List.take (p+1-p) (List.drop p l)=[48]:=by
   have:=Ol hp;rw[Pr hc (by decide)] at this;exact this
  rw[show Gg l p (p+1)=[48] from hk];simp only[go_sem,seval,Cf,e0,hp,hc,Sb];refine Aa (Xo 48) ?_;rw[l48];simp only[go_sem,seval,Cf,e0,hp,hc,Sb];refine Aa (q8 48) ?_;rw[d48];simp only[go_sem,seval,Cf,e0,hp,hc,Sb]
  by_cases Ab:p+1<l.length
  ·have hc2:=w4 Ab;unfold Jk at hc2;rw[Bool.or_eq_false_iff] at hc2;have f1:((p+1:Nat):Int)<(l.length:Int):=by omega
   have f2:(((p+1:Nat):Int)==(l.length:Int))=false:=Ib (by omega);refine Cd 1 (Ak ?_);simp only[go_sem,seval,Cf,g3,f1,Ab];refine Aa (q8 _) ?_;rw[hc2.2];simp only[go_sem,seval,Cf,e0,g1,g2,g3,w2,hk,g4];refine Aa Ac0 ?_;simp only[go_sem,seval,Cf,e0,g1,g2,g3,w2,hk,g4,f2,Ab];refine Aa (Xo _) ?_;rw[hc2.1];simp only[go_sem,seval]
  ·have f1:¬((p+1:Nat):Int)<(l.length:Int):=by omega
   have f2:(((p+1:Nat):Int)==(l.length:Int))=true:=by rw[Ald];simp;omega
   refine Cd 1 (Ak ?_);simp only[go_sem,seval,f1,e0,g1,g2,g3,w2,hk,g4];refine Aa Ac0 ?_;simp only[go_sem,seval,Cf,e0,g1,g2,g3,w2,hk,g4,f2]
inductive Lx(l:By):Nat->List Tok->Prop
 |nil:Lx l l.length []
 |sp {p:Nat} {ts:List Tok} (hp:p<l.length) (hc:chN l p=32) (h:Lx l (p+1) ts):Lx l p ts
 |tok {p k e:Nat} {ts:List Tok} (ht:Xc l p k e) (h:Lx l e ts):Lx l p (⟨k,Gg l p e,p⟩::ts)
theorem Ab3{l:By}{p k e:Nat}(h:Xc l p k e):p<e/\e<=l.length:=by
 rcases h with⟨_,_,rfl,h⟩|⟨_,_,rfl,h⟩|⟨_,_,h,_⟩|⟨_,_,h,_⟩
 ·omega
 ·omega
 ·exact⟨h.1,h.2.1⟩
 ·exact⟨h.1,h.2.1⟩
theorem Aoz{l:By}{p k e:Nat}(h:Xc l p k e):chN l p≠32/\chN l p≠9/\chN l p≠10/\chN l p≠59:=by
 rcases h with⟨_,h,_⟩|⟨_,h,_⟩|⟨_,h,_⟩|⟨_,h,_⟩
 ·omega
 ·omega
 ·unfold Jd at h;simp only[Bool.or_eq_true,Bool.and_eq_true,decide_eq_true_eq] at h;omega
 ·omega
theorem Amp{l:By}{p:Nat}{ts:List Tok}(h:Lx l p ts):∃q,Ag9 l p q/\Lx l q ts/\(ts=[]->q=l.length)/\(∀t r,ts=t::r->∃e,Xc l q t.k e/\t=⟨t.k,Gg l q e,q⟩/\Lx l e r):=by
 induction h with
 |nil=>exact⟨l.length,⟨Nat.le_refl _,Nat.le_refl _,fun r h1 h2=>by omega,fun h=>by omega⟩,.nil,fun _=>rfl,fun t r h=>by cases h⟩
 |@sp p ts hp hc h ih=>
  obtain⟨q,⟨b1,b2,b3,b4⟩,h1,h2,h3⟩:=ih;refine⟨q,⟨by omega,b2,fun r Bs Gn=>?_,b4⟩,h1,h2,h3⟩
  by_cases hr:r=p
  ·subst hr;exact hc
  ·exact b3 r (by omega) Gn
 |@tok p k e ts ht h ih=>
  refine⟨p,⟨Nat.le_refl _,by have:=Ab3 ht;omega,fun r h1 h2=>by omega,fun _=>Aoz ht⟩,.tok ht h,fun h=>by (cases h),fun t r hr=>?_⟩;cases hr;exact⟨e,ht,rfl,h⟩
theorem Awp{l:By}{p e:Nat}(h:p<=e)(he:e<=l.length):(Gg l p e).length=e-p:=by
 unfold Gg;rw[List.length_take,List.length_drop];omega
theorem Ah7{l:By}{p e:Nat}(h:p<=e)(he:e<=l.length)(hl:l.length<1000000000000):IntKind.i64.wrap ((p:Int)+((Gg l p e).length:Int))=(e:Int):=by
 rw[Awp h he,w64 (by unfold fit;omega)];omega
def Ae8(l:By):List Tok×Nat->St
 |([],q)=>⟨(.str (bs l)::.J::.nils::.int .i64 0::.int .i64 0::.nils::.int .i64 q::.J::.J::.J::.J::.J::.J::.J::.J::.J::.J::.J::.J::.J::.J::.J::.J::.J::.J::.J::.J::.J::.J::.J::.J::.J::.J::.J::.J::.J::[]),[]⟩
 |(t::ts,q)=>⟨(.str (bs l)::.J::.nils::.int .i64 0::.int .i64 0::.osl 2 ts.length 0 (ts.length+1)::.int .i64 q::.J::.J::.J::.J::.J::.J::.J::.J::.J::.J::.J::.J::.J::.J::.J::.J::.J::.J::.J::.J::.J::.J::.J::.J::.J::.J::.J::.J::.J::[]),[⟨true,3,[Fd t],0,0,true⟩,⟨false,3,[Fd t],0,0,true⟩,⟨false,3,(t::ts).map Fd,ts.length,ts.length,true⟩]⟩
theorem Alu(l:By)(q:Nat):Ae8 l ([],q)=⟨(.str (bs l)::.J::.nils::.int .i64 0::.int .i64 0::.nils::.int .i64 q::.J::.J::.J::.J::.J::.J::.J::.J::.J::.J::.J::.J::.J::.J::.J::.J::.J::.J::.J::.J::.J::.J::.J::.J::.J::.J::.J::.J::.J::[]),[]⟩:=rfl
theorem Aa1(l:By)(t:Tok)(ts:List Tok)(q:Nat):Ae8 l (t::ts,q)=⟨(.str (bs l)::.J::.nils::.int .i64 0::.int .i64 0::.osl 2 ts.length 0 (ts.length+1)::.int .i64 q::.J::.J::.J::.J::.J::.J::.J::.J::.J::.J::.J::.J::.J::.J::.J::.J::.J::.J::.J::.J::.J::.J::.J::.J::.J::.J::.J::.J::.J::[]),[⟨true,3,[Fd t],0,0,true⟩,⟨false,3,[Fd t],0,0,true⟩,⟨false,3,(t::ts).map Fd,ts.length,ts.length,true⟩]⟩:=rfl
theorem Ahs{l:By}(hl:l.length<1000000000000){ts:List Tok}(h:Lx l 0 ts)(As:ts≠[])(hn:ts.length<1000000000000):Con 125 [.str (bs l)] (.tup [.dsl 3 (ts.map Fd),.int .i64 0,.int .i64 0]):=by
 obtain⟨q0,hb0,Wo,Qo,hh0⟩:=Amp h;refine Al mixed Tryz.func125 tr125 ?_;simp only[go_sem,seval];refine Aa (Acx l hl hb0) ?_;simp only[go_sem,seval];refine Xj (Ae8 l)
  (fun a=>ts.length-a.1.length) (fun a=>∃rest,ts=a.1++rest/\(rest=[]->a.2=l.length)/\(∀t r,rest=t::r->∃e,Xc l a.2 t.k e/\t=⟨t.k,Gg l a.2 e,a.2⟩/\Lx l e r)) (fun a ha=>?_) ([],q0) ⟨ts,rfl,Qo,hh0⟩ (by rw[Alu];exact Au (by simp[An]))
 obtain⟨dn,q⟩:=a;obtain⟨rest,r1,r3,r4⟩:=ha;simp only at r1 r3 r4;cases rest with
 |nil=>
  rw[List.append_nil] at r1;subst r1;have hq:=r3 rfl;subst hq;have f1:¬(l.length:Int)<(l.length:Int):=by omega
  cases ts with
  |nil=>exact absurd rfl As
  |cons t ts=>
   rw[Aa1];simp only[go_sem,seval,f1];rw[List.take_of_length_le (by simp)]
 |cons t r=>
  obtain⟨e,k1,k2,k3⟩:=r4 t r rfl;have kt:Fd t=[.int .i64 t.k,.str (bs (Gg l q e)),.int .i64 q]:=by rw[k2];rfl
  obtain⟨b1,b2⟩:=Ab3 k1;obtain⟨q2,Ef,Kv,Dy,hh2⟩:=Amp k3;have f1:(q:Int)<(l.length:Int):=by omega
  cases dn with
  |nil=>
   rw[Alu];simp only[go_sem,seval,f1];refine Aa (Ahv hl k1) ?_;simp only[go_sem,seval,Ah7 (Nat.le_of_lt b1) b2 hl];refine Aa (Acx l hl Ef) ?_;simp only[go_sem,seval];refine⟨([t],q2),⟨by simp[r1],r,by simp[r1],Dy,hh2⟩,?_⟩;rw[Aa1];simp only[q_h,q_i,kt];exact Au (by simp[An])
  |cons d dn=>
   rw[Aa1];simp only[go_sem,seval,f1];refine Aa (Ahv hl k1) ?_;simp only[go_sem,seval,Ah7 (Nat.le_of_lt b1) b2 hl];have Ah:ts.length=dn.length+1+(r.length+1):=by rw[r1];simp;omega
   refine⟨⟨by simp,by omega,by omega⟩,?_⟩;refine Aa (Acx l hl Ef) ?_;simp only[go_sem,seval];refine⟨(d::(dn++[t]),q2),⟨by simp only[List.length_cons,List.length_append,List.length_nil];omega,r,by simp[r1],Dy,hh2⟩,?_⟩;rw[Aa1];simp only[q_h,List.map_append,q_i,kt,List.length_append,List.length_cons,List.length_nil,q_g,Nat.zero_add];exact Dq 3 (by simp[An]) (by simp) (by simp[Bb]) (by simp)
def rlS(l:By):List Tok×Nat->St
 |([],q)=>⟨(.str (bs l)::.J::.nils::.int .i64 0::.nils::.int .i64 q::.J::.J::.J::.J::.J::.J::.J::.J::.J::.J::.J::.J::.J::.J::.J::.J::.J::.J::.J::.J::.J::.J::.J::.J::.J::.J::.J::.J::.J::.J::.J::.J::.J::.J::.J::.J::.J::.J::.J::.J::.J::.J::.J::.J::.J::.J::.J::.J::.J::.J::.J::.J::.J::.J::.J::.J::.J::.J::.J::.J::.J::.J::.J::.J::.J::.J::.J::.J::.J::.J::.J::.J::.J::.J::.J::.J::.J::.J::.J::.J::.J::.J::.J::.J::.J::.J::.J::.J::.J::.J::.J::.J::.J::.J::.J::.J::.J::.J::.J::.J::.J::.J::.J::.J::.J::.J::.J::.J::.J::.J::.J::.J::.J::.J::.J::.J::.J::.J::.J::.J::.J::.J::.J::.J::.J::.J::.J::.J::.J::.J::.J::.J::.J::.J::.J::.J::.J::.J::.J::.J::.J::.J::.J::.J::.J::.J::.J::.J::[]),[]⟩
 |(t::ts,q)=>⟨(.str (bs l)::.J::.nils::.int .i64 0::.osl 1 ts.length 0 (ts.length+1)::.int .i64 q::.J::.J::.J::.J::.J::.J::.J::.J::.J::.J::.J::.J::.J::.J::.J::.J::.J::.J::.J::.J::.J::.J::.J::.J::.J::.J::.J::.J::.J::.J::.J::.J::.J::.J::.J::.J::.J::.J::.J::.J::.J::.J::.J::.J::.J::.J::.J::.J::.J::.J::.J::.J::.J::.J::.J::.J::.J::.J::.J::.J::.J::.J::.J::.J::.J::.J::.J::.J::.J::.J::.J::.J::.J::.J::.J::.J::.J::.J::.J::.J::.J::.J::.J::.J::.J::.J::.J::.J::.J::.J::.J::.J::.J::.J::.J::.J::.J::.J::.J::.J::.J::.J::.J::.J::.J::.J::.J::.J::.J::.J::.J::.J::.J::.J::.J::.J::.J::.J::.J::.J::.J::.J::.J::.J::.J::.J::.J::.J::.J::.J::.J::.J::.J::.J::.J::.J::.J::.J::.J::.J::.J::.J::.J::.J::.J::.J::.J::.J::[]),[⟨false,3,[Fd t],0,0,true⟩,⟨false,3,(t::ts).map Fd,ts.length,ts.length,true⟩]⟩
theorem Abq(l:By)(q:Nat):rlS l ([],q)=⟨(.str (bs l)::.J::.nils::.int .i64 0::.nils::.int .i64 q::.J::.J::.J::.J::.J::.J::.J::.J::.J::.J::.J::.J::.J::.J::.J::.J::.J::.J::.J::.J::.J::.J::.J::.J::.J::.J::.J::.J::.J::.J::.J::.J::.J::.J::.J::.J::.J::.J::.J::.J::.J::.J::.J::.J::.J::.J::.J::.J::.J::.J::.J::.J::.J::.J::.J::.J::.J::.J::.J::.J::.J::.J::.J::.J::.J::.J::.J::.J::.J::.J::.J::.J::.J::.J::.J::.J::.J::.J::.J::.J::.J::.J::.J::.J::.J::.J::.J::.J::.J::.J::.J::.J::.J::.J::.J::.J::.J::.J::.J::.J::.J::.J::.J::.J::.J::.J::.J::.J::.J::.J::.J::.J::.J::.J::.J::.J::.J::.J::.J::.J::.J::.J::.J::.J::.J::.J::.J::.J::.J::.J::.J::.J::.J::.J::.J::.J::.J::.J::.J::.J::.J::.J::.J::.J::.J::.J::.J::.J::[]),[]⟩:=rfl
theorem Ju(l:By)(t:Tok)(ts:List Tok)(q:Nat):rlS l (t::ts,q)=⟨(.str (bs l)::.J::.nils::.int .i64 0::.osl 1 ts.length 0 (ts.length+1)::.int .i64 q::.J::.J::.J::.J::.J::.J::.J::.J::.J::.J::.J::.J::.J::.J::.J::.J::.J::.J::.J::.J::.J::.J::.J::.J::.J::.J::.J::.J::.J::.J::.J::.J::.J::.J::.J::.J::.J::.J::.J::.J::.J::.J::.J::.J::.J::.J::.J::.J::.J::.J::.J::.J::.J::.J::.J::.J::.J::.J::.J::.J::.J::.J::.J::.J::.J::.J::.J::.J::.J::.J::.J::.J::.J::.J::.J::.J::.J::.J::.J::.J::.J::.J::.J::.J::.J::.J::.J::.J::.J::.J::.J::.J::.J::.J::.J::.J::.J::.J::.J::.J::.J::.J::.J::.J::.J::.J::.J::.J::.J::.J::.J::.J::.J::.J::.J::.J::.J::.J::.J::.J::.J::.J::.J::.J::.J::.J::.J::.J::.J::.J::.J::.J::.J::.J::.J::.J::.J::.J::.J::.J::.J::.J::.J::.J::.J::.J::.J::.J::[]),[⟨false,3,[Fd t],0,0,true⟩,⟨false,3,(t::ts).map Fd,ts.length,ts.length,true⟩]⟩:=rfl
theorem Avr{l:By}(hl:l.length<1000000000000){ts:List Tok}(h:Lx l 0 ts)(As:ts≠[])(hn:ts.length<1000000000000):Con 97 [.str (bs l)] (.tup [.dsl 3 (ts.map Fd),.int .i64 (-1)]):=by
 refine Al mixed Tryz.func97 tr97 ?_;simp only[go_sem,seval];refine Xj (rlS l) (fun a=>l.length-a.2) (fun a=>∃rest,ts=a.1++rest/\Lx l a.2 rest) (fun a ha=>?_) ([],0) ⟨ts,rfl,h⟩ (by rw[Abq];exact Au (by simp[An]));obtain⟨dn,p⟩:=a;obtain⟨rest,r1,hx⟩:=ha;simp only at r1 hx;clear h;cases hx with
 |nil=>
  rw[List.append_nil] at r1;subst r1;have f1:¬(l.length:Int)<(l.length:Int):=by omega
  cases ts with
  |nil=>exact absurd rfl As
  |cons t ts=>
   rw[Ju];simp only[go_sem,seval,f1];rw[List.take_of_length_le (by simp)]
 |sp hp hc h=>
  have f0:(0:Int)<=(p:Int):=by omega
  have f1:(p:Int)<(l.length:Int):=by omega
  cases dn with
  |nil=>
   rw[Abq];simp only[go_sem,seval,Cf,f0,f1,hp,hc];refine⟨([],p+1),⟨by simp only;omega,rest,r1,h⟩,?_⟩;rw[Abq,show ((p:Int)+1)=((p+1:Nat):Int) by omega,w64 (by unfold fit;omega)];exact Au (by simp[An])
  |cons d dn=>
   rw[Ju];simp only[go_sem,seval,Cf,f0,f1,hp,hc];refine⟨(d::dn,p+1),⟨by simp only;omega,rest,r1,h⟩,?_⟩;rw[Ju,show ((p:Int)+1)=((p+1:Nat):Int) by omega,w64 (by unfold fit;omega)];exact Au (by simp[An])
 |@tok _ k e r ht h=>
  obtain⟨t,et⟩:∃t,t=(⟨k,Gg l p e,p⟩:Tok):=⟨_,rfl⟩
  have kt:Fd t=[.int .i64 k,.str (bs (Gg l p e)),.int .i64 p]:=by rw[et];rfl
  rw[<-et] at r1;clear et;obtain⟨m1,m2,m3,m4⟩:=Aoz ht;obtain⟨b1,b2⟩:=Ab3 ht;have hp:p<l.length:=by omega
  have f0:(0:Int)<=(p:Int):=by omega
  have f1:(p:Int)<(l.length:Int):=by omega
  have Ah:ts.length=dn.length+(r.length+1):=by rw[r1];simp
  cases dn with
  |nil=>
   rw[Abq];rcases ht with⟨hk,hc,he,_⟩|⟨hk,hc,he,_⟩|⟨hk,hc,hw,h20⟩|⟨hk,hc,hw,he⟩
   ·have pw:IntKind.i64.wrap ((p:Int)+1)=((p+1:Nat):Int):=by rw[w64 (by unfold fit;omega)];omega
    subst he;rw[Ol hp,Pr hc (by decide)] at kt;rw[hk] at kt;simp only[go_sem,seval,Cf,f0,f1,hp,hc,pw];refine⟨([t],p+1),⟨by simp only;omega,r,by simp[r1],h⟩,?_⟩;rw[Ju];simp only[q_h,q_i,kt];exact Au (by simp[An])
   ·have pw:IntKind.i64.wrap ((p:Int)+1)=((p+1:Nat):Int):=by rw[w64 (by unfold fit;omega)];omega
    subst he;rw[Ol hp,Pr hc (by decide)] at kt;rw[hk] at kt;simp only[go_sem,seval,Cf,f0,f1,hp,hc,pw];refine⟨([t],p+1),⟨by simp only;omega,r,by simp[r1],h⟩,?_⟩;rw[Ju];simp only[q_h,q_i,kt];exact Au (by simp[An])
   ·obtain⟨w1,w2,w3,w4⟩:=hw;have n1:=Ib m1;have n2:=Ib m2;have n3:=Ib m3;have n4:=Ib m4;have n5:=Ib (Zt hc).1;have n6:=Ib (Zt hc).2;simp only[Int.cast_ofNat_Int] at n1 n2 n3 n4 n5 n6;rw[hk] at kt;simp only[go_sem,seval,Cf,f0,f1,hp,n1,n2,n3,n4,n5,n6];refine Aa (Oj _) ?_;rw[hc];simp only[go_sem,seval];refine Xj (fun a:Nat=>⟨(.str (bs l)::.J::.nils::.int .i64 0::.nils::.int .i64 p::.J::.int .i64 a::.J::.J::.J::.J::.J::.J::.J::.J::.J::.J::.J::.J::.bool false::.J::.J::.J::.J::.J::.J::.J::.J::.J::.J::.J::.J::.bool false::.J::.J::.J::.J::.J::.J::.J::.J::.J::.J::.J::.J::.J::.J::.bool false::.J::.J::.J::.J::.J::.J::.J::.J::.J::.bool false::.J::.J::.J::.J::.J::.J::.J::.J::.J::.bool true::.J::.J::.J::.J::.J::.J::.J::.J::.J::.J::.J::.J::.J::.J::.J::.J::.J::.J::.J::.J::.J::.J::.J::.J::.J::.J::.J::.J::.J::.J::.J::.J::.J::.J::.J::.J::.J::.J::.J::.J::.J::.J::.J::.J::.J::.J::.J::.J::.J::.J::.J::.J::.J::.J::.J::.J::.J::.J::.J::.J::.J::.J::.J::.J::.J::.J::.J::.J::.J::.J::.J::.J::.J::.J::.J::.J::.J::.J::.J::.J::.J::.J::.J::.J::.J::[]),[]⟩) (fun a=>e-a) (fun a=>p<=a/\a<=e) (fun a ha=>?_) p ⟨by omega,by omega⟩ (Au (by simp[An]))
    by_cases hq:a<e
    ·have hc2:Jk l a=true:=by
      by_cases Nk:a=p
      ·subst Nk;unfold Jk;rw[hc];rfl
      ·exact w3 a (by omega) hq
     have g0:(0:Int)<=(a:Int):=by omega
     have g1:(a:Int)<(l.length:Int):=by omega
     have g2:a<l.length:=by omega
     unfold Jk at hc2;simp only[go_sem,seval,Cf,g0,g1,g2];refine Aa (Oj _) ?_;cases h1:Jd (chN l a)
     ·rw[h1,Bool.false_or] at hc2;simp only[go_sem,seval,Cf,g0,g1,g2];refine Aa (Oi _) ?_;simp only[go_sem,seval,hc2];refine⟨a+1,⟨by omega,by omega⟩,?_⟩;rw[show ((a:Int)+1)=((a+1:Nat):Int) by omega,w64 (by unfold fit;omega)];exact Au (by simp[An])
     ·simp only[go_sem,seval];refine⟨a+1,⟨by omega,by omega⟩,?_⟩;rw[show ((a:Int)+1)=((a+1:Nat):Int) by omega,w64 (by unfold fit;omega)];exact Au (by simp[An])
    have Yc:a=e:=by omega
    subst Yc;have g1:(p:Int)<=(a:Int):=by omega
    have g2:(a:Int)<=(l.length:Int):=by omega
    have g3:(0:Int)<=(a:Int):=by omega
    have g4:p<=a:=by omega
    have g5:a<=l.length:=by omega
    have g6:¬IntKind.i64.wrap ((a:Int)-p) > 20:=by rw[w64 (by unfold fit;omega)];omega
    have g7:¬20<IntKind.i64.wrap ((a:Int)-p):=by rw[w64 (by unfold fit;omega)];omega
    by_cases Ab:a<l.length
    ·have hc2:=w4 Ab;unfold Jk at hc2;rw[Bool.or_eq_false_iff] at hc2;have f3:(a:Int)<(l.length:Int):=by omega
     simp only[go_sem,seval,Cf,g3,f3,Ab];refine Aa (Oj _) ?_;rw[hc2.1];simp only[go_sem,seval,Cf,g3,f3,Ab];refine Aa (Oi _) ?_;rw[hc2.2];simp only[go_sem,seval,f0,g1,g2,g3,g4,g5,g6,g7];refine⟨([t],a),⟨by simp only;omega,r,by simp[r1],h⟩,?_⟩;rw[Ju];simp only[q_h,q_i,kt];exact Au (by simp[An])
    ·have f3:¬(a:Int)<(l.length:Int):=by omega
     simp only[go_sem,seval,f3,f0,g1,g2,g3,g4,g5,g6,g7];refine⟨([t],a),⟨by simp only;omega,r,by simp[r1],h⟩,?_⟩;rw[Ju];simp only[q_h,q_i,kt];exact Au (by simp[An])
   ·obtain⟨w1,w2,w3,w4⟩:=hw;subst he;have l48:Jd 48=false:=by decide
    have d48:Ps 48=true:=by decide
    have pw:IntKind.i64.wrap ((p:Int)+1)=((p+1:Nat):Int):=by rw[w64 (by unfold fit;omega)];omega
    have g1:(p:Int)<=((p+1:Nat):Int):=by omega
    have g2:((p+1:Nat):Int)<=(l.length:Int):=by omega
    have g3:(0:Int)<=((p+1:Nat):Int):=by omega
    have g4:p<=p+1:=by omega
    have Dr:List.take (p+1-p) (List.drop p l)=[48]:=by
     have:=Ol hp;rw[Pr hc (by decide)] at this;exact this
    rw[hk,show Gg l p (p+1)=[48] from Dr] at kt;simp only[go_sem,seval,Cf,f0,f1,hp,hc];refine Aa (Oj 48) ?_;rw[l48];simp only[go_sem,seval,Cf,f0,hp,hc];refine Aa (Oi 48) ?_;rw[d48];simp only[go_sem,seval];refine Cd 2 (Ak ?_);simp only[go_sem,seval,Cf,f0,f1,hp,hc];refine Aa (Oi 48) ?_;rw[d48];simp only[go_sem,seval,pw]
    by_cases Ab:p+1<l.length
    ·have hc2:=w4 Ab;unfold Jk at hc2;rw[Bool.or_eq_false_iff] at hc2;have f3:((p+1:Nat):Int)<(l.length:Int):=by omega
     refine Ak ?_;simp only[go_sem,seval,Cf,g3,f3,Ab];refine Aa (Oi _) ?_;rw[hc2.2];simp only[go_sem,seval,Cf,f0,g1,g2,g3,w2,Dr,g4];refine Aa Xp ?_;simp only[go_sem,seval,Cf,f0,g1,g2,g3,w2,Dr,g4,f3,Ab];refine Aa (Oj _) ?_;rw[hc2.1];simp only[go_sem,seval,Cf,f0,g1,g2,g3,w2,Dr,g4];refine⟨([t],p+1),⟨by simp only;omega,r,by simp[r1],h⟩,?_⟩;rw[Ju];simp only[q_h,q_i,kt];exact Au (by simp[An])
    ·have f3:¬((p+1:Nat):Int)<(l.length:Int):=by omega
     refine Ak ?_;simp only[go_sem,seval,f3,f0,g1,g2,g3,w2,Dr,g4];refine Aa Xp ?_;simp only[go_sem,seval,Cf,f0,g1,g2,g3,w2,Dr,g4,f3];refine⟨([t],p+1),⟨by simp only;omega,r,by simp[r1],h⟩,?_⟩;rw[Ju];simp only[q_h,q_i,kt];exact Au (by simp[An])
  |cons d dn=>
   rw[List.length_cons] at Ah;rw[Ju];rcases ht with⟨hk,hc,he,_⟩|⟨hk,hc,he,_⟩|⟨hk,hc,hw,h20⟩|⟨hk,hc,hw,he⟩
   ·have pw:IntKind.i64.wrap ((p:Int)+1)=((p+1:Nat):Int):=by rw[w64 (by unfold fit;omega)];omega
    subst he;rw[Ol hp,Pr hc (by decide)] at kt;rw[hk] at kt;simp only[go_sem,seval,Cf,f0,f1,hp,hc,pw];refine⟨⟨by simp,by omega,by omega⟩,?_⟩
    try simp only[go_sem,seval,pw]
    refine⟨(d::(dn++[t]),p+1),⟨by simp only;omega,r,by simp[r1],h⟩,?_⟩;rw[Ju];simp only[q_h,List.map_append,q_i,kt,List.length_append,List.length_cons,List.length_nil,q_g,Nat.zero_add];exact Dq 2 (by simp[An]) (by simp[Gg]) (by simp[Bb]) (by simp)
   ·have pw:IntKind.i64.wrap ((p:Int)+1)=((p+1:Nat):Int):=by rw[w64 (by unfold fit;omega)];omega
    subst he;rw[Ol hp,Pr hc (by decide)] at kt;rw[hk] at kt;simp only[go_sem,seval,Cf,f0,f1,hp,hc,pw];refine⟨⟨by simp,by omega,by omega⟩,?_⟩
    try simp only[go_sem,seval,pw]
    refine⟨(d::(dn++[t]),p+1),⟨by simp only;omega,r,by simp[r1],h⟩,?_⟩;rw[Ju];simp only[q_h,List.map_append,q_i,kt,List.length_append,List.length_cons,List.length_nil,q_g,Nat.zero_add];exact Dq 2 (by simp[An]) (by simp[Gg]) (by simp[Bb]) (by simp)
   ·obtain⟨w1,w2,w3,w4⟩:=hw;have n1:=Ib m1;have n2:=Ib m2;have n3:=Ib m3;have n4:=Ib m4;have n5:=Ib (Zt hc).1;have n6:=Ib (Zt hc).2;simp only[Int.cast_ofNat_Int] at n1 n2 n3 n4 n5 n6;rw[hk] at kt;simp only[go_sem,seval,Cf,f0,f1,hp,n1,n2,n3,n4,n5,n6];refine Aa (Oj _) ?_;rw[hc];simp only[go_sem,seval];refine Xj (fun a:Nat=>⟨(.str (bs l)::.J::.nils::.int .i64 0::.osl 1 dn.length 0 (dn.length+1)::.int .i64 p::.J::.int .i64 a::.J::.J::.J::.J::.J::.J::.J::.J::.J::.J::.J::.J::.bool false::.J::.J::.J::.J::.J::.J::.J::.J::.J::.J::.J::.J::.bool false::.J::.J::.J::.J::.J::.J::.J::.J::.J::.J::.J::.J::.J::.J::.bool false::.J::.J::.J::.J::.J::.J::.J::.J::.J::.bool false::.J::.J::.J::.J::.J::.J::.J::.J::.J::.bool true::.J::.J::.J::.J::.J::.J::.J::.J::.J::.J::.J::.J::.J::.J::.J::.J::.J::.J::.J::.J::.J::.J::.J::.J::.J::.J::.J::.J::.J::.J::.J::.J::.J::.J::.J::.J::.J::.J::.J::.J::.J::.J::.J::.J::.J::.J::.J::.J::.J::.J::.J::.J::.J::.J::.J::.J::.J::.J::.J::.J::.J::.J::.J::.J::.J::.J::.J::.J::.J::.J::.J::.J::.J::.J::.J::.J::.J::.J::.J::.J::.J::.J::.J::.J::.J::[]),[⟨false,3,[Fd d],0,0,true⟩,⟨false,3,(d::dn).map Fd,dn.length,dn.length,true⟩]⟩) (fun a=>e-a) (fun a=>p<=a/\a<=e) (fun a ha=>?_) p ⟨by omega,by omega⟩ (Au (by simp[An]))
    by_cases hq:a<e
    ·have hc2:Jk l a=true:=by
      by_cases Nk:a=p
      ·subst Nk;unfold Jk;rw[hc];rfl
      ·exact w3 a (by omega) hq
     have g0:(0:Int)<=(a:Int):=by omega
     have g1:(a:Int)<(l.length:Int):=by omega
     have g2:a<l.length:=by omega
     unfold Jk at hc2;simp only[go_sem,seval,Cf,g0,g1,g2];refine Aa (Oj _) ?_;cases h1:Jd (chN l a)
     ·rw[h1,Bool.false_or] at hc2;simp only[go_sem,seval,Cf,g0,g1,g2];refine Aa (Oi _) ?_;simp only[go_sem,seval,hc2];refine⟨a+1,⟨by omega,by omega⟩,?_⟩;rw[show ((a:Int)+1)=((a+1:Nat):Int) by omega,w64 (by unfold fit;omega)];exact Au (by simp[An])
     ·simp only[go_sem,seval];refine⟨a+1,⟨by omega,by omega⟩,?_⟩;rw[show ((a:Int)+1)=((a+1:Nat):Int) by omega,w64 (by unfold fit;omega)];exact Au (by simp[An])
    have Yc:a=e:=by omega
    subst Yc;have g1:(p:Int)<=(a:Int):=by omega
    have g2:(a:Int)<=(l.length:Int):=by omega
    have g3:(0:Int)<=(a:Int):=by omega
    have g4:p<=a:=by omega
    have g5:a<=l.length:=by omega
    have g6:¬IntKind.i64.wrap ((a:Int)-p) > 20:=by rw[w64 (by unfold fit;omega)];omega
    have g7:¬20<IntKind.i64.wrap ((a:Int)-p):=by rw[w64 (by unfold fit;omega)];omega
    by_cases Ab:a<l.length
    ·have hc2:=w4 Ab;unfold Jk at hc2;rw[Bool.or_eq_false_iff] at hc2;have f3:(a:Int)<(l.length:Int):=by omega
     simp only[go_sem,seval,Cf,g3,f3,Ab];refine Aa (Oj _) ?_;rw[hc2.1];simp only[go_sem,seval,Cf,g3,f3,Ab];refine Aa (Oi _) ?_;rw[hc2.2];simp only[go_sem,seval,f0,g1,g2,g3,g4,g5,g6,g7];refine⟨⟨by simp,by omega,by omega⟩,?_⟩
     try simp only[go_sem,seval,pw]
     refine⟨(d::(dn++[t]),a),⟨by simp only;omega,r,by simp[r1],h⟩,?_⟩;rw[Ju];simp only[q_h,List.map_append,q_i,kt,List.length_append,List.length_cons,List.length_nil,q_g,Nat.zero_add];exact Dq 2 (by simp[An]) (by simp[Gg]) (by simp[Bb]) (by simp)
    ·have f3:¬(a:Int)<(l.length:Int):=by omega
     simp only[go_sem,seval,f3,f0,g1,g2,g3,g4,g5,g6,g7];refine⟨⟨by simp,by omega,by omega⟩,?_⟩
     try simp only[go_sem,seval,pw]
     refine⟨(d::(dn++[t]),a),⟨by simp only;omega,r,by simp[r1],h⟩,?_⟩;rw[Ju];simp only[q_h,List.map_append,q_i,kt,List.length_append,List.length_cons,List.length_nil,q_g,Nat.zero_add];exact Dq 2 (by simp[An]) (by simp[Gg]) (by simp[Bb]) (by simp)
   ·obtain⟨w1,w2,w3,w4⟩:=hw;subst he;have l48:Jd 48=false:=by decide
    have d48:Ps 48=true:=by decide
    have pw:IntKind.i64.wrap ((p:Int)+1)=((p+1:Nat):Int):=by rw[w64 (by unfold fit;omega)];omega
    have g1:(p:Int)<=((p+1:Nat):Int):=by omega
    have g2:((p+1:Nat):Int)<=(l.length:Int):=by omega
    have g3:(0:Int)<=((p+1:Nat):Int):=by omega
    have g4:p<=p+1:=by omega
    have Dr:List.take (p+1-p) (List.drop p l)=[48]:=by
     have:=Ol hp;rw[Pr hc (by decide)] at this;exact this
    rw[hk,show Gg l p (p+1)=[48] from Dr] at kt;simp only[go_sem,seval,Cf,f0,f1,hp,hc];refine Aa (Oj 48) ?_;rw[l48];simp only[go_sem,seval,Cf,f0,hp,hc];refine Aa (Oi 48) ?_;rw[d48];simp only[go_sem,seval];refine Cd 2 (Ak ?_);simp only[go_sem,seval,Cf,f0,f1,hp,hc];refine Aa (Oi 48) ?_;rw[d48];simp only[go_sem,seval,pw]
    by_cases Ab:p+1<l.length
    ·have hc2:=w4 Ab;unfold Jk at hc2;rw[Bool.or_eq_false_iff] at hc2;have f3:((p+1:Nat):Int)<(l.length:Int):=by omega
     refine Ak ?_;simp only[go_sem,seval,Cf,g3,f3,Ab];refine Aa (Oi _) ?_;rw[hc2.2];simp only[go_sem,seval,Cf,f0,g1,g2,g3,w2,Dr,g4];refine Aa Xp ?_;simp only[go_sem,seval,Cf,f0,g1,g2,g3,w2,Dr,g4,f3,Ab];refine Aa (Oj _) ?_;rw[hc2.1];simp only[go_sem,seval,Cf,f0,g1,g2,g3,w2,Dr,g4];refine⟨⟨by simp,by omega,by omega⟩,?_⟩
     try simp only[go_sem,seval,pw]
     refine⟨(d::(dn++[t]),p+1),⟨by simp only;omega,r,by simp[r1],h⟩,?_⟩;rw[Ju];simp only[q_h,List.map_append,q_i,kt,List.length_append,List.length_cons,List.length_nil,q_g,Nat.zero_add];exact Dq 2 (by simp[An]) (by simp[Gg]) (by simp[Bb]) (by simp)
    ·have f3:¬((p+1:Nat):Int)<(l.length:Int):=by omega
     refine Ak ?_;simp only[go_sem,seval,f3,f0,g1,g2,g3,w2,Dr,g4];refine Aa Xp ?_;simp only[go_sem,seval,Cf,f0,g1,g2,g3,w2,Dr,g4,f3];refine⟨⟨by simp,by omega,by omega⟩,?_⟩
     try simp only[go_sem,seval,pw]
     refine⟨(d::(dn++[t]),p+1),⟨by simp only;omega,r,by simp[r1],h⟩,?_⟩;rw[Ju];simp only[q_h,List.map_append,q_i,kt,List.length_append,List.length_cons,List.length_nil,q_g,Nat.zero_add];exact Dq 2 (by simp[An]) (by simp[Gg]) (by simp[Bb]) (by simp)
theorem Bhg{P:UInt8->Bool}(d:UInt8):∀(r:By),(∀q,q<(r.takeWhile P).length->P (r.getD q d)=true)/\((r.takeWhile P).length<r.length->P (r.getD (r.takeWhile P).length d)=false)/\r.dropWhile P=r.drop (r.takeWhile P).length/\r.takeWhile P=r.take (r.takeWhile P).length/\(r.takeWhile P).length<=r.length:=by
 intro r
 induction r with
 |nil=>simp
 |cons c r ih=>
  obtain⟨i1,i2,i3,i4,i5⟩:=ih;cases hc:P c with
  |false=>simp[List.takeWhile_cons,List.dropWhile_cons,hc]
  |true=>
   simp only[List.takeWhile_cons,List.dropWhile_cons,hc,if_true,List.length_cons,List.drop_succ_cons,List.take_succ_cons];refine⟨fun q hq=>?_,fun h=>?_,i3,by rw[<-i4],by omega⟩
   ·cases q with
    |zero=>simpa using hc
    |succ q=>simpa using i1 q (by omega)
   ·simpa using i2 (by omega)
theorem s8{l:By}{p q:Nat}{r:By}(h:r=l.drop p):r.getD q 0=l.getD (p+q) 0:=by
 subst h;simp[List.getD_eq_getElem?_getD,List.getElem?_drop]
theorem A7d(l:By):∀(f p:Nat) (r:By) (ts:List Tok),Hq f p r=some ts->r=l.drop p->p<=l.length->Lx l p ts:=by
 intro f
 induction f with
 |zero=>intro p r ts h;simp[Hq] at h
 |succ f ih=>
  intro p r ts h hr hp;cases r with
  |nil=>
   simp only[Hq,q_b] at h;subst h;have:p=l.length:=by
    have:=congrArg List.length hr;simp at this;omega
   subst this;exact .nil
  |cons c r=>
   have Ab:p<l.length:=by
    have:=congrArg List.length hr;simp at this;omega
   have hc:l.getD p 0=c:=by rw[<-Nat.add_zero p,<-s8 hr];rfl
   have Fm:chN l p=c.toNat:=by unfold chN;rw[hc]
   have Bs:r=l.drop (p+1):=by
    have:=congrArg (List.drop 1) hr;rw[List.drop_drop] at this;exact this
   have w9:Gg l p (p+1)=[c]:=by rw[Ol Ab,hc]
   unfold Hq at h;split at h
   ·rename_i c1;exact .sp Ab (by rw[Fm,c1]) (ih _ _ _ h Bs (by omega))
   split at h
   ·rename_i c1;cases hq:Hq f (p+1) r with
    |none=>rw[hq] at h;cases h
    |some ts'=>
     rw[hq] at h;simp only[Option.map_some,q_b] at h;subst h;rw[<-w9];exact .tok (.inl ⟨rfl,by rw[Fm,c1],rfl,Ab⟩) (ih _ _ _ hq Bs (by omega))
   split at h
   ·rename_i c1;cases hq:Hq f (p+1) r with
    |none=>rw[hq] at h;cases h
    |some ts'=>
     rw[hq] at h;simp only[Option.map_some,q_b] at h;subst h;rw[<-w9];exact .tok (.inr (.inl ⟨rfl,by rw[Fm,c1],rfl,Ab⟩)) (ih _ _ _ hq Bs (by omega))
   split at h
   ·rename_i c1;split at h
    ·rename_i c2;obtain⟨i1,i2,i3,i4,i5⟩:=Bhg (P:=Lw) 0 r;have hrl:r.length=l.length-(p+1):=by rw[Bs,List.length_drop]
     cases hq:Hq f (p+1+(r.takeWhile Lw).length) (r.dropWhile Lw) with
     |none=>rw[hq] at h;cases h
     |some ts'=>
      rw[hq] at h;simp only[Option.map_some,q_b] at h;subst h;have hx:=ih _ _ _ hq (by rw[i3,Bs,List.drop_drop,<-Bs]) (by omega);have hcut2:Gg l p (p+1+(r.takeWhile Lw).length)=c::r.takeWhile Lw:=by
       unfold Gg;rw[<-hr,show p+1+(r.takeWhile Lw).length-p=(r.takeWhile Lw).length+1 by omega,List.take_succ_cons,<-i4]
      rw[<-hcut2];refine .tok (.inr (.inr (.inl ⟨rfl,by rw[Fm];exact c1,⟨by omega,by omega,fun q h1 h2=>?_,fun h1=>?_⟩,by omega⟩))) hx
      ·have:=i1 (q-(p+1)) (by omega);rw[s8 Bs,show p+1+(q-(p+1))=q by omega] at this;exact this
      ·have:=i2 (by omega);rw[s8 Bs] at this;exact this
    ·cases h
   split at h
   ·rename_i c1;cases r with
    |nil=>
     simp only[q_b] at h;subst h;have hl:l.length=p+1:=by
      have:=congrArg List.length Bs;simp at this;omega
     rw[<-w9];refine .tok (.inr (.inr (.inr ⟨rfl,by rw[Fm,c1],⟨by omega,by omega,fun q h1 h2=>by omega,fun h1=>by omega⟩,rfl⟩))) ?_;rw[<-hl];exact .nil
    |cons d r=>
     simp only at h;split at h
     ·cases h
     ·rename_i c2;have hd:Jk l (p+1)=false:=by
       have:=s8 (q:=0) Bs;have e:l.getD (p+1) 0=d:=this.symm;unfold Jk chN;rw[e];cases hw:Lw d with
       |true=>exact absurd hw c2
       |false=>exact hw
      cases hq:Hq f (p+1) (d::r) with
      |none=>rw[hq] at h;cases h
      |some ts'=>
       rw[hq] at h;simp only[Option.map_some,q_b] at h;subst h;rw[<-w9];exact .tok (.inr (.inr (.inr ⟨rfl,by rw[Fm,c1],⟨by omega,by omega,fun q h1 h2=>by omega,fun _=>hd⟩,rfl⟩))) (ih _ _ _ hq Bs (by omega))
   ·cases h
theorem Afb{l:By}{ts:List Tok}(h:Hq (l.length+1) 0 l=some ts):Lx l 0 ts:=A7d l _ 0 l ts h rfl (Nat.zero_le _)
theorem Zu{l:By}{p:Nat}{ts:List Tok}(h:Lx l p ts):ts.length+p<=l.length:=by
 induction h with
 |nil=>simp
 |sp hp _ _ ih=>omega
 |tok ht _ ih=>have:=Ab3 ht;simp only[List.length_cons];omega
end Go.Proofs.YtdpigpopcbjkmaaGreatDoor.Abs
