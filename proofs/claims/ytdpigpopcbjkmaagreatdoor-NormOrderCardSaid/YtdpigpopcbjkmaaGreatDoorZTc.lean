import Derived.Test.YtdpigpopcbjkmaaGreatDoorZAfK
set_option linter.unusedSimpArgs false
set_option linter.unusedVariables false
set_option maxRecDepth 20000
set_option maxHeartbeats 4000000
namespace Go.Proofs.YtdpigpopcbjkmaaGreatDoor.Abs
open Go Go.RowKit Go.Proofs.YtdpigpopcbjkmaaGreatDoor
theorem Bfm:Con 163 [.int .i64 0,.int .i64 10] (.str (bs [48])):=by
 intro m w vs h1 h2 h3;obtain⟨v,u,rfl⟩:∃v u,vs=[v,u]:=by
  match vs,h2 with
  |[v,u],_=>exact⟨v,u,rfl⟩
 have hv:=h3 0 v _ rfl rfl;have hu:=h3 1 u _ rfl rfl;cases hv;cases hu;refine Calls.mono (Nrm.fmt_zero w) (fun e w' he=>?_);obtain⟨rfl,rfl⟩:=he;exact⟨_,m,rfl,.str _,⟨.refl m,rfl⟩,fun _ _ _=>rfl,h1,rfl,rfl,rfl,Nat.le_refl _,fun _ _=>rfl⟩
theorem Ben:Con 154 [.int .i64 0] (.str (bs [48])):=by
 refine Al mixed Tryz.func154 tr154 ?_;simp only [go_sem,seval];refine Aa (r:=.str (bs [48])) ?_ ?_
 ·refine Al mixed Tryz.func159 tr159 ?_;simp only [go_sem,seval];refine Aa (r:=.str (bs [48])) ?_ ?_
  ·refine Al mixed Tryz.func162 tr162 ?_;simp only [go_sem,seval];refine Aa Bfm ?_;simp only [go_sem,seval]
  ·simp only [go_sem,seval]
 ·simp only [go_sem,seval]
theorem w8z:IntKind.u8.wrap 0=0:=rfl
theorem w64z:IntKind.i64.wrap 0=0:=rfl
theorem m10z:(10:Int)*0=0:=rfl
theorem Adp:Con 148 [.str (bs [48])] (.tup [.int .i64 0,.bool true]):=by
 refine Al mixed Tryz.func148 tr148 ?_;have hx:((UInt8.toNat 48:Nat):Int)=48:=rfl;simp only [go_sem,seval];refine Cf 3 (Ak ?_);simp only [go_sem,seval,hx];refine Ak ?_;simp only [go_sem,seval,hx,w8z,w64z,m10z];refine Aa Ben ?_;simp only [go_sem,seval]
theorem Xr:Con 117 [.str (bs [48])] (.tup [.int .i64 0,.bool true]):=by
 refine Al mixed Tryz.func117 tr117 ?_;have hx:((UInt8.toNat 48:Nat):Int)=48:=rfl;simp only [go_sem,seval,hx];refine Cf 3 (Ak ?_);simp only [go_sem,seval,hx];refine Ak ?_;simp only [go_sem,seval,hx,w8z,w64z,m10z]
def Ik (l:By) (q:Nat):Bool:=Ij (chN l q) || Pp (chN l q)
def Ak9 (l:By) (p e:Nat):Prop:=p<e/\e<=l.length/\(∀q,p<q->q<e->Ik l q=true)/\(e<l.length->Ik l e=false)
def Vo (l:By) (p k e:Nat):Prop:=
 (k=1/\chN l p=40/\e=p+1/\p<l.length)\/(k=2/\chN l p=41/\e=p+1/\p<l.length) \/
 (k=3/\Ij (chN l p)=true/\Ak9 l p e/\e-p<=20)\/(k=4/\chN l p=48/\Ak9 l p e/\e=p+1)
def Fp (l:By) (p e:Nat):By:=(l.drop p).take (e-p)
theorem Nw {l:By} {p:Nat} (h:p<l.length):Fp l p (p+1)=[l.getD p 0]:=by
 unfold Fp;rw [show p+1-p=1 by omega,List.drop_eq_getElem_cons h,List.take_succ_cons,List.take_zero,List.getD_eq_getElem?_getD,q_f h];rfl
theorem Pe {l:By} {p n:Nat} (h:chN l p=n) (hn:n<256):l.getD p 0=UInt8.ofNat n:=by
 unfold chN at h;rw [<-h];simp
theorem Xa {n:Nat} (h:Ij n=true):n≠40/\n≠41:=by
 unfold Ij at h;simp only [Bool.or_eq_true,Bool.and_eq_true,decide_eq_true_eq] at h;omega
theorem Aft {l:By} (hl:l.length<1000000000000) {p k e:Nat} (h:Vo l p k e):Con 138 [.str (bs l),.int .i64 p] (.tup [.agg true [.int .i64 k,.str (bs (Fp l p e)),.int .i64 p],.bool true]):=by
 have hp:p<l.length:=by
  rcases h with⟨_,_,_,h⟩|⟨_,_,_,h⟩|⟨_,_,h,_⟩|⟨_,_,h,_⟩
  ·exact h
  ·exact h
  ·have:=h.1;have:=h.2.1;omega
  ·have:=h.1;have:=h.2.1;omega
 have e0:(0:Int)<=(p:Int):=by omega
 refine Al mixed Tryz.func138 tr138 ?_;rcases h with⟨rfl,hc,rfl,_⟩|⟨rfl,hc,rfl,_⟩|⟨rfl,hc,hw,h20⟩|⟨rfl,hc,hw,he⟩
 ·rw [Nw hp,Pe hc (by decide)];simp only [go_sem,seval,Ca,e0,hp,hc]
 ·rw [Nw hp,Pe hc (by decide)];simp only [go_sem,seval,Ca,e0,hp,hc]
 ·obtain⟨c1,c2⟩:=Xa hc;have d1:=Hi c1;have d2:=Hi c2;simp only [Int.cast_ofNat_Int] at d1 d2;simp only [go_sem,seval,Ca,e0,hp,d1,d2];refine Aa (Xi _) ?_;simp only [go_sem,seval,hc];obtain⟨w1,w2,w3,w4⟩:=hw;have Rr:IntKind.i64.wrap ((p:Int)+1)=((p+1:Nat):Int):=by rw [w64 (by unfold fit;omega)];omega
  rw [Rr];refine Vb (fun a:Nat=>⟨(.str (bs l)::.int .i64 p::.jk::.jk::.ref 0 0 0 0::.bool false::.jk::.int .i64 a::.jk::.jk::.jk::.jk::.jk::.jk::.jk::.bool false::.jk::.jk::.jk::.jk::.bool false::.jk::.jk::.jk::.jk::.bool true::.jk::.jk::.jk::.jk::.jk::.jk::.jk::.jk::.jk::.jk::.jk::.jk::.jk::.jk::.jk::.jk::.jk::.jk::.jk::.jk::.jk::.jk::.jk::.jk::.jk::.jk::.jk::.jk::.jk::.jk::.jk::.jk::.jk::.jk::.jk::.jk::.jk::.jk::.jk::.jk::.jk::.jk::.jk::.jk::.jk::.jk::.jk::.jk::.jk::.jk::.jk::.jk::.jk::.jk::.jk::.jk::.jk::.jk::.jk::.jk::.jk::.jk::.jk::.jk::.jk::.jk::.jk::.jk::.jk::.jk::.jk::.jk::.jk::.jk::[]),[⟨true,3,[[.int .i64 0,.str (bs []),.int .i64 0]],0,0,true⟩]⟩) (fun a=>e-a) (fun a=>p<a/\a<=e) (fun a ha=>?_) (p+1) ⟨by omega,by omega⟩ ?_
  ·by_cases hq:a<e
   ·have hc:=w3 a ha.1 hq;have f0:(0:Int)<=(a:Int):=by omega
    have f1:(a:Int)<(l.length:Int):=by omega
    have f2:a<l.length:=by omega
    unfold Ik at hc;simp only [go_sem,seval,Ca,f0,f1,f2];refine Aa (Xi _) ?_;cases h1:Ij (chN l a)
    ·rw [h1,Bool.false_or] at hc;simp only [go_sem,seval,Ca,f0,f1,f2];refine Aa (o7 _) ?_;simp only [go_sem,seval,hc];refine⟨a+1,⟨by omega,by omega⟩,?_⟩;rw [show ((a:Int)+1)=((a+1:Nat):Int) by omega,w64 (by unfold fit;omega)];exact As (by simp [Ao])
    ·simp only [go_sem,seval];refine⟨a+1,⟨by omega,by omega⟩,?_⟩;rw [show ((a:Int)+1)=((a+1:Nat):Int) by omega,w64 (by unfold fit;omega)];exact As (by simp [Ao])
   ·have Zq:a=e:=by omega
    subst Zq;have g0:(0:Int)<=(p:Int):=by omega
    have g1:(p:Int)<=(a:Int):=by omega
    have g2:(a:Int)<=(l.length:Int):=by omega
    have g3:(0:Int)<=(a:Int):=by omega
    have g4:p<=a:=by omega
    have g5:a<=l.length:=by omega
    have g6:IntKind.i64.wrap ((a:Int)-p)<=20:=by rw [w64 (by unfold fit;omega)];omega
    by_cases Ab:a<l.length
    ·have hc:=w4 Ab;unfold Ik at hc;rw [Bool.or_eq_false_iff] at hc;have f1:(a:Int)<(l.length:Int):=by omega
     simp only [go_sem,seval,Ca,g3,f1,Ab];refine Aa (Xi _) ?_;rw [hc.1];simp only [go_sem,seval,Ca,g3,f1,Ab];refine Aa (o7 _) ?_;rw [hc.2];simp only [go_sem,seval,g0,g1,g2,g3,g4,g5,g6];rfl
    ·have f1:¬(a:Int)<(l.length:Int):=by omega
     simp only [go_sem,seval,f1,g0,g1,g2,g3,g4,g5,g6];rfl
  ·exact As (by simp [Ao])
 ·obtain⟨w1,w2,w3,w4⟩:=hw;subst he;have Rr:IntKind.i64.wrap ((p:Int)+1)=((p+1:Nat):Int):=by rw [w64 (by unfold fit;omega)];omega
  have l48:Ij 48=false:=by decide
  have d48:Pp 48=true:=by decide
  have g1:(p:Int)<=((p+1:Nat):Int):=by omega
  have g2:((p+1:Nat):Int)<=(l.length:Int):=by omega
  have g3:(0:Int)<=((p+1:Nat):Int):=by omega
  have g4:p<=p+1:=by omega
  have hk:List.take (p+1-p) (List.drop p l)=[48]:=by
   have:=Nw hp;rw [Pe hc (by decide)] at this;exact this
  rw [show Fp l p (p+1)=[48] from hk];simp only [go_sem,seval,Ca,e0,hp,hc,Rr];refine Aa (Xi 48) ?_;rw [l48];simp only [go_sem,seval,Ca,e0,hp,hc,Rr];refine Aa (o7 48) ?_;rw [d48];simp only [go_sem,seval,Ca,e0,hp,hc,Rr]
  by_cases Ab:p+1<l.length
  ·have hc2:=w4 Ab;unfold Ik at hc2;rw [Bool.or_eq_false_iff] at hc2;have f1:((p+1:Nat):Int)<(l.length:Int):=by omega
   have f2:(((p+1:Nat):Int)==(l.length:Int))=false:=Hi (by omega);refine Cf 1 (Ak ?_);simp only [go_sem,seval,Ca,g3,f1,Ab];refine Aa (o7 _) ?_;rw [hc2.2];simp only [go_sem,seval,Ca,e0,g1,g2,g3,w2,hk,g4];refine Aa Adp ?_;simp only [go_sem,seval,Ca,e0,g1,g2,g3,w2,hk,g4,f2,Ab];refine Aa (Xi _) ?_;rw [hc2.1];simp only [go_sem,seval]
  ·have f1:¬((p+1:Nat):Int)<(l.length:Int):=by omega
   have f2:(((p+1:Nat):Int)==(l.length:Int))=true:=by rw [Agv];simp;omega
   refine Cf 1 (Ak ?_);simp only [go_sem,seval,f1,e0,g1,g2,g3,w2,hk,g4];refine Aa Adp ?_;simp only [go_sem,seval,Ca,e0,g1,g2,g3,w2,hk,g4,f2]
inductive Lx (l:By):Nat->List Tok->Prop
 |nil:Lx l l.length []
 |sp {p:Nat} {ts:List Tok} (hp:p<l.length) (hc:chN l p=32) (h:Lx l (p+1) ts):Lx l p ts
 |tok {p k e:Nat} {ts:List Tok} (ht:Vo l p k e) (h:Lx l e ts):Lx l p (⟨k,Fp l p e,p⟩::ts)
theorem q8 {l:By} {p k e:Nat} (h:Vo l p k e):p<e/\e<=l.length:=by
 rcases h with⟨_,_,rfl,h⟩|⟨_,_,rfl,h⟩|⟨_,_,h,_⟩|⟨_,_,h,_⟩
 ·omega
 ·omega
 ·exact⟨h.1,h.2.1⟩
 ·exact⟨h.1,h.2.1⟩
theorem Ag8 {l:By} {p k e:Nat} (h:Vo l p k e):chN l p≠32/\chN l p≠9/\chN l p≠10/\chN l p≠59:=by
 rcases h with⟨_,h,_⟩|⟨_,h,_⟩|⟨_,h,_⟩|⟨_,h,_⟩
 ·omega
 ·omega
 ·unfold Ij at h;simp only [Bool.or_eq_true,Bool.and_eq_true,decide_eq_true_eq] at h;omega
 ·omega
theorem Aje {l:By} {p:Nat} {ts:List Tok} (h:Lx l p ts):∃q,Alg l p q/\Lx l q ts/\(ts=[]->q=l.length)/\(∀t r,ts=t::r->∃e,Vo l q t.k e/\t=⟨t.k,Fp l q e,q⟩/\Lx l e r):=by
 induction h with
 |nil=>exact⟨l.length,⟨Nat.le_refl _,Nat.le_refl _,fun r h1 h2=>by omega,fun h=>by omega⟩,.nil,fun _=>rfl,fun t r h=>by cases h⟩
 |@sp p ts hp hc h ih=>
  obtain⟨q,⟨b1,b2,b3,b4⟩,h1,h2,h3⟩:=ih;refine⟨q,⟨by omega,b2,fun r Bs Fz=>?_,b4⟩,h1,h2,h3⟩
  by_cases hr:r=p
  ·subst hr;exact hc
  ·exact b3 r (by omega) Fz
 |@tok p k e ts ht h ih=>
  refine⟨p,⟨Nat.le_refl _,by have:=q8 ht;omega,fun r h1 h2=>by omega,fun _=>Ag8 ht⟩,.tok ht h,fun h=>by (cases h),fun t r hr=>?_⟩;cases hr;exact⟨e,ht,rfl,h⟩
theorem Atm {l:By} {p e:Nat} (h:p<=e) (he:e<=l.length):(Fp l p e).length=e-p:=by
 unfold Fp;rw [List.length_take,List.length_drop];omega
theorem Aia {l:By} {p e:Nat} (h:p<=e) (he:e<=l.length) (hl:l.length<1000000000000):IntKind.i64.wrap ((p:Int)+((Fp l p e).length:Int))=(e:Int):=by
 rw [Atm h he,w64 (by unfold fit;omega)];omega
def Aea (l:By):List Tok×Nat->St
 |([],q)=>⟨(.str (bs l)::.jk::.nils::.int .i64 0::.int .i64 0::.nils::.int .i64 q::.jk::.jk::.jk::.jk::.jk::.jk::.jk::.jk::.jk::.jk::.jk::.jk::.jk::.jk::.jk::.jk::.jk::.jk::.jk::.jk::.jk::.jk::.jk::.jk::.jk::.jk::.jk::.jk::.jk::[]),[]⟩
 |(t::ts,q)=>⟨(.str (bs l)::.jk::.nils::.int .i64 0::.int .i64 0::.osl 2 ts.length 0 (ts.length+1)::.int .i64 q::.jk::.jk::.jk::.jk::.jk::.jk::.jk::.jk::.jk::.jk::.jk::.jk::.jk::.jk::.jk::.jk::.jk::.jk::.jk::.jk::.jk::.jk::.jk::.jk::.jk::.jk::.jk::.jk::.jk::[]),[⟨true,3,[El t],0,0,true⟩,⟨false,3,[El t],0,0,true⟩,⟨false,3,(t::ts).map El,ts.length,ts.length,true⟩]⟩
theorem Ajy (l:By) (q:Nat):Aea l ([],q)=⟨(.str (bs l)::.jk::.nils::.int .i64 0::.int .i64 0::.nils::.int .i64 q::.jk::.jk::.jk::.jk::.jk::.jk::.jk::.jk::.jk::.jk::.jk::.jk::.jk::.jk::.jk::.jk::.jk::.jk::.jk::.jk::.jk::.jk::.jk::.jk::.jk::.jk::.jk::.jk::.jk::[]),[]⟩:=rfl
theorem s6 (l:By) (t:Tok) (ts:List Tok) (q:Nat):Aea l (t::ts,q)=⟨(.str (bs l)::.jk::.nils::.int .i64 0::.int .i64 0::.osl 2 ts.length 0 (ts.length+1)::.int .i64 q::.jk::.jk::.jk::.jk::.jk::.jk::.jk::.jk::.jk::.jk::.jk::.jk::.jk::.jk::.jk::.jk::.jk::.jk::.jk::.jk::.jk::.jk::.jk::.jk::.jk::.jk::.jk::.jk::.jk::[]),[⟨true,3,[El t],0,0,true⟩,⟨false,3,[El t],0,0,true⟩,⟨false,3,(t::ts).map El,ts.length,ts.length,true⟩]⟩:=rfl
theorem Agk {l:By} (hl:l.length<1000000000000) {ts:List Tok} (h:Lx l 0 ts) (Aw:ts≠[]) (hn:ts.length<1000000000000):Con 125 [.str (bs l)] (.tup [.dsl 3 (ts.map El),.int .i64 0,.int .i64 0]):=by
 obtain⟨q0,hb0,Wa,Nc,hh0⟩:=Aje h;refine Al mixed Tryz.func125 tr125 ?_;simp only [go_sem,seval];refine Aa (Adc l hl hb0) ?_;simp only [go_sem,seval];refine Vb (Aea l)
  (fun a=>ts.length-a.1.length) (fun a=>∃rest,ts=a.1++rest/\(rest=[]->a.2=l.length)/\(∀t r,rest=t::r->∃e,Vo l a.2 t.k e/\t=⟨t.k,Fp l a.2 e,a.2⟩/\Lx l e r)) (fun a ha=>?_) ([],q0) ⟨ts,rfl,Nc,hh0⟩ (by rw [Ajy];exact As (by simp [Ao]))
 obtain⟨dn,q⟩:=a;obtain⟨rest,r1,r3,r4⟩:=ha;simp only at r1 r3 r4;cases rest with
 |nil=>
  rw [List.append_nil] at r1;subst r1;have hq:=r3 rfl;subst hq;have f1:¬(l.length:Int)<(l.length:Int):=by omega
  cases ts with
  |nil=>exact absurd rfl Aw
  |cons t ts=>
   rw [s6];simp only [go_sem,seval,f1];rw [List.take_of_length_le (by simp)]
 |cons t r=>
  obtain⟨e,k1,k2,k3⟩:=r4 t r rfl;have kt:El t=[.int .i64 t.k,.str (bs (Fp l q e)),.int .i64 q]:=by rw [k2];rfl
  obtain⟨b1,b2⟩:=q8 k1;obtain⟨q2,Eh,Ji,Dn,hh2⟩:=Aje k3;have f1:(q:Int)<(l.length:Int):=by omega
  cases dn with
  |nil=>
   rw [Ajy];simp only [go_sem,seval,f1];refine Aa (Aft hl k1) ?_;simp only [go_sem,seval,Aia (Nat.le_of_lt b1) b2 hl];refine Aa (Adc l hl Eh) ?_;simp only [go_sem,seval];refine⟨([t],q2),⟨by simp [r1],r,by simp [r1],Dn,hh2⟩,?_⟩;rw [s6];simp only [q_h,q_i,kt];exact As (by simp [Ao])
  |cons d dn=>
   rw [s6];simp only [go_sem,seval,f1];refine Aa (Aft hl k1) ?_;simp only [go_sem,seval,Aia (Nat.le_of_lt b1) b2 hl];have Aj:ts.length=dn.length+1+(r.length+1):=by rw [r1];simp;omega
   refine⟨⟨by simp,by omega,by omega⟩,?_⟩;refine Aa (Adc l hl Eh) ?_;simp only [go_sem,seval];refine⟨(d::(dn++[t]),q2),⟨by simp only [List.length_cons,List.length_append,List.length_nil];omega,r,by simp [r1],Dn,hh2⟩,?_⟩;rw [s6];simp only [q_h,List.map_append,q_i,kt,List.length_append,List.length_cons,List.length_nil,q_g,Nat.zero_add];exact Do 3 (by simp [Ao]) (by simp) (by simp [Be]) (by simp)
def rlS (l:By):List Tok×Nat->St
 |([],q)=>⟨(.str (bs l)::.jk::.nils::.int .i64 0::.nils::.int .i64 q::.jk::.jk::.jk::.jk::.jk::.jk::.jk::.jk::.jk::.jk::.jk::.jk::.jk::.jk::.jk::.jk::.jk::.jk::.jk::.jk::.jk::.jk::.jk::.jk::.jk::.jk::.jk::.jk::.jk::.jk::.jk::.jk::.jk::.jk::.jk::.jk::.jk::.jk::.jk::.jk::.jk::.jk::.jk::.jk::.jk::.jk::.jk::.jk::.jk::.jk::.jk::.jk::.jk::.jk::.jk::.jk::.jk::.jk::.jk::.jk::.jk::.jk::.jk::.jk::.jk::.jk::.jk::.jk::.jk::.jk::.jk::.jk::.jk::.jk::.jk::.jk::.jk::.jk::.jk::.jk::.jk::.jk::.jk::.jk::.jk::.jk::.jk::.jk::.jk::.jk::.jk::.jk::.jk::.jk::.jk::.jk::.jk::.jk::.jk::.jk::.jk::.jk::.jk::.jk::.jk::.jk::.jk::.jk::.jk::.jk::.jk::.jk::.jk::.jk::.jk::.jk::.jk::.jk::.jk::.jk::.jk::.jk::.jk::.jk::.jk::.jk::.jk::.jk::.jk::.jk::.jk::.jk::.jk::.jk::.jk::.jk::.jk::.jk::.jk::.jk::.jk::.jk::.jk::.jk::.jk::.jk::.jk::.jk::[]),[]⟩
 |(t::ts,q)=>⟨(.str (bs l)::.jk::.nils::.int .i64 0::.osl 1 ts.length 0 (ts.length+1)::.int .i64 q::.jk::.jk::.jk::.jk::.jk::.jk::.jk::.jk::.jk::.jk::.jk::.jk::.jk::.jk::.jk::.jk::.jk::.jk::.jk::.jk::.jk::.jk::.jk::.jk::.jk::.jk::.jk::.jk::.jk::.jk::.jk::.jk::.jk::.jk::.jk::.jk::.jk::.jk::.jk::.jk::.jk::.jk::.jk::.jk::.jk::.jk::.jk::.jk::.jk::.jk::.jk::.jk::.jk::.jk::.jk::.jk::.jk::.jk::.jk::.jk::.jk::.jk::.jk::.jk::.jk::.jk::.jk::.jk::.jk::.jk::.jk::.jk::.jk::.jk::.jk::.jk::.jk::.jk::.jk::.jk::.jk::.jk::.jk::.jk::.jk::.jk::.jk::.jk::.jk::.jk::.jk::.jk::.jk::.jk::.jk::.jk::.jk::.jk::.jk::.jk::.jk::.jk::.jk::.jk::.jk::.jk::.jk::.jk::.jk::.jk::.jk::.jk::.jk::.jk::.jk::.jk::.jk::.jk::.jk::.jk::.jk::.jk::.jk::.jk::.jk::.jk::.jk::.jk::.jk::.jk::.jk::.jk::.jk::.jk::.jk::.jk::.jk::.jk::.jk::.jk::.jk::.jk::.jk::.jk::.jk::.jk::.jk::.jk::[]),[⟨false,3,[El t],0,0,true⟩,⟨false,3,(t::ts).map El,ts.length,ts.length,true⟩]⟩
theorem z9 (l:By) (q:Nat):rlS l ([],q)=⟨(.str (bs l)::.jk::.nils::.int .i64 0::.nils::.int .i64 q::.jk::.jk::.jk::.jk::.jk::.jk::.jk::.jk::.jk::.jk::.jk::.jk::.jk::.jk::.jk::.jk::.jk::.jk::.jk::.jk::.jk::.jk::.jk::.jk::.jk::.jk::.jk::.jk::.jk::.jk::.jk::.jk::.jk::.jk::.jk::.jk::.jk::.jk::.jk::.jk::.jk::.jk::.jk::.jk::.jk::.jk::.jk::.jk::.jk::.jk::.jk::.jk::.jk::.jk::.jk::.jk::.jk::.jk::.jk::.jk::.jk::.jk::.jk::.jk::.jk::.jk::.jk::.jk::.jk::.jk::.jk::.jk::.jk::.jk::.jk::.jk::.jk::.jk::.jk::.jk::.jk::.jk::.jk::.jk::.jk::.jk::.jk::.jk::.jk::.jk::.jk::.jk::.jk::.jk::.jk::.jk::.jk::.jk::.jk::.jk::.jk::.jk::.jk::.jk::.jk::.jk::.jk::.jk::.jk::.jk::.jk::.jk::.jk::.jk::.jk::.jk::.jk::.jk::.jk::.jk::.jk::.jk::.jk::.jk::.jk::.jk::.jk::.jk::.jk::.jk::.jk::.jk::.jk::.jk::.jk::.jk::.jk::.jk::.jk::.jk::.jk::.jk::.jk::.jk::.jk::.jk::.jk::.jk::[]),[]⟩:=rfl
theorem Iz (l:By) (t:Tok) (ts:List Tok) (q:Nat):rlS l (t::ts,q)=⟨(.str (bs l)::.jk::.nils::.int .i64 0::.osl 1 ts.length 0 (ts.length+1)::.int .i64 q::.jk::.jk::.jk::.jk::.jk::.jk::.jk::.jk::.jk::.jk::.jk::.jk::.jk::.jk::.jk::.jk::.jk::.jk::.jk::.jk::.jk::.jk::.jk::.jk::.jk::.jk::.jk::.jk::.jk::.jk::.jk::.jk::.jk::.jk::.jk::.jk::.jk::.jk::.jk::.jk::.jk::.jk::.jk::.jk::.jk::.jk::.jk::.jk::.jk::.jk::.jk::.jk::.jk::.jk::.jk::.jk::.jk::.jk::.jk::.jk::.jk::.jk::.jk::.jk::.jk::.jk::.jk::.jk::.jk::.jk::.jk::.jk::.jk::.jk::.jk::.jk::.jk::.jk::.jk::.jk::.jk::.jk::.jk::.jk::.jk::.jk::.jk::.jk::.jk::.jk::.jk::.jk::.jk::.jk::.jk::.jk::.jk::.jk::.jk::.jk::.jk::.jk::.jk::.jk::.jk::.jk::.jk::.jk::.jk::.jk::.jk::.jk::.jk::.jk::.jk::.jk::.jk::.jk::.jk::.jk::.jk::.jk::.jk::.jk::.jk::.jk::.jk::.jk::.jk::.jk::.jk::.jk::.jk::.jk::.jk::.jk::.jk::.jk::.jk::.jk::.jk::.jk::.jk::.jk::.jk::.jk::.jk::.jk::[]),[⟨false,3,[El t],0,0,true⟩,⟨false,3,(t::ts).map El,ts.length,ts.length,true⟩]⟩:=rfl
theorem Awn {l:By} (hl:l.length<1000000000000) {ts:List Tok} (h:Lx l 0 ts) (Aw:ts≠[]) (hn:ts.length<1000000000000):Con 97 [.str (bs l)] (.tup [.dsl 3 (ts.map El),.int .i64 (-1)]):=by
 refine Al mixed Tryz.func97 tr97 ?_;simp only [go_sem,seval];refine Vb (rlS l) (fun a=>l.length-a.2) (fun a=>∃rest,ts=a.1++rest/\Lx l a.2 rest) (fun a ha=>?_) ([],0) ⟨ts,rfl,h⟩ (by rw [z9];exact As (by simp [Ao]));obtain⟨dn,p⟩:=a;obtain⟨rest,r1,hx⟩:=ha;simp only at r1 hx;clear h;cases hx with
 |nil=>
  rw [List.append_nil] at r1;subst r1;have f1:¬(l.length:Int)<(l.length:Int):=by omega
  cases ts with
  |nil=>exact absurd rfl Aw
  |cons t ts=>
   rw [Iz];simp only [go_sem,seval,f1];rw [List.take_of_length_le (by simp)]
 |sp hp hc h=>
  have f0:(0:Int)<=(p:Int):=by omega
  have f1:(p:Int)<(l.length:Int):=by omega
  cases dn with
  |nil=>
   rw [z9];simp only [go_sem,seval,Ca,f0,f1,hp,hc];refine⟨([],p+1),⟨by simp only;omega,rest,r1,h⟩,?_⟩;rw [z9,show ((p:Int)+1)=((p+1:Nat):Int) by omega,w64 (by unfold fit;omega)];exact As (by simp [Ao])
  |cons d dn=>
   rw [Iz];simp only [go_sem,seval,Ca,f0,f1,hp,hc];refine⟨(d::dn,p+1),⟨by simp only;omega,rest,r1,h⟩,?_⟩;rw [Iz,show ((p:Int)+1)=((p+1:Nat):Int) by omega,w64 (by unfold fit;omega)];exact As (by simp [Ao])
 |@tok _ k e r ht h=>
  obtain⟨t,et⟩:∃t,t=(⟨k,Fp l p e,p⟩:Tok):=⟨_,rfl⟩
  have kt:El t=[.int .i64 k,.str (bs (Fp l p e)),.int .i64 p]:=by rw [et];rfl
  rw [<-et] at r1;clear et;obtain⟨m1,m2,m3,m4⟩:=Ag8 ht;obtain⟨b1,b2⟩:=q8 ht;have hp:p<l.length:=by omega
  have f0:(0:Int)<=(p:Int):=by omega
  have f1:(p:Int)<(l.length:Int):=by omega
  have Aj:ts.length=dn.length+(r.length+1):=by rw [r1];simp
  cases dn with
  |nil=>
   rw [z9];rcases ht with⟨hk,hc,he,_⟩|⟨hk,hc,he,_⟩|⟨hk,hc,hw,h20⟩|⟨hk,hc,hw,he⟩
   ·have pw:IntKind.i64.wrap ((p:Int)+1)=((p+1:Nat):Int):=by rw [w64 (by unfold fit;omega)];omega
    subst he;rw [Nw hp,Pe hc (by decide)] at kt;rw [hk] at kt;simp only [go_sem,seval,Ca,f0,f1,hp,hc,pw];refine⟨([t],p+1),⟨by simp only;omega,r,by simp [r1],h⟩,?_⟩;rw [Iz];simp only [q_h,q_i,kt];exact As (by simp [Ao])
   ·have pw:IntKind.i64.wrap ((p:Int)+1)=((p+1:Nat):Int):=by rw [w64 (by unfold fit;omega)];omega
    subst he;rw [Nw hp,Pe hc (by decide)] at kt;rw [hk] at kt;simp only [go_sem,seval,Ca,f0,f1,hp,hc,pw];refine⟨([t],p+1),⟨by simp only;omega,r,by simp [r1],h⟩,?_⟩;rw [Iz];simp only [q_h,q_i,kt];exact As (by simp [Ao])
   ·obtain⟨w1,w2,w3,w4⟩:=hw;have n1:=Hi m1;have n2:=Hi m2;have n3:=Hi m3;have n4:=Hi m4;have n5:=Hi (Xa hc).1;have n6:=Hi (Xa hc).2;simp only [Int.cast_ofNat_Int] at n1 n2 n3 n4 n5 n6;rw [hk] at kt;simp only [go_sem,seval,Ca,f0,f1,hp,n1,n2,n3,n4,n5,n6];refine Aa (Nt _) ?_;rw [hc];simp only [go_sem,seval];refine Vb (fun a:Nat=>⟨(.str (bs l)::.jk::.nils::.int .i64 0::.nils::.int .i64 p::.jk::.int .i64 a::.jk::.jk::.jk::.jk::.jk::.jk::.jk::.jk::.jk::.jk::.jk::.jk::.bool false::.jk::.jk::.jk::.jk::.jk::.jk::.jk::.jk::.jk::.jk::.jk::.jk::.bool false::.jk::.jk::.jk::.jk::.jk::.jk::.jk::.jk::.jk::.jk::.jk::.jk::.jk::.jk::.bool false::.jk::.jk::.jk::.jk::.jk::.jk::.jk::.jk::.jk::.bool false::.jk::.jk::.jk::.jk::.jk::.jk::.jk::.jk::.jk::.bool true::.jk::.jk::.jk::.jk::.jk::.jk::.jk::.jk::.jk::.jk::.jk::.jk::.jk::.jk::.jk::.jk::.jk::.jk::.jk::.jk::.jk::.jk::.jk::.jk::.jk::.jk::.jk::.jk::.jk::.jk::.jk::.jk::.jk::.jk::.jk::.jk::.jk::.jk::.jk::.jk::.jk::.jk::.jk::.jk::.jk::.jk::.jk::.jk::.jk::.jk::.jk::.jk::.jk::.jk::.jk::.jk::.jk::.jk::.jk::.jk::.jk::.jk::.jk::.jk::.jk::.jk::.jk::.jk::.jk::.jk::.jk::.jk::.jk::.jk::.jk::.jk::.jk::.jk::.jk::.jk::.jk::.jk::.jk::.jk::.jk::[]),[]⟩) (fun a=>e-a) (fun a=>p<=a/\a<=e) (fun a ha=>?_) p ⟨by omega,by omega⟩ (As (by simp [Ao]))
    by_cases hq:a<e
    ·have hc2:Ik l a=true:=by
      by_cases Nh:a=p
      ·subst Nh;unfold Ik;rw [hc];rfl
      ·exact w3 a (by omega) hq
     have g0:(0:Int)<=(a:Int):=by omega
     have g1:(a:Int)<(l.length:Int):=by omega
     have g2:a<l.length:=by omega
     unfold Ik at hc2;simp only [go_sem,seval,Ca,g0,g1,g2];refine Aa (Nt _) ?_;cases h1:Ij (chN l a)
     ·rw [h1,Bool.false_or] at hc2;simp only [go_sem,seval,Ca,g0,g1,g2];refine Aa (Nu _) ?_;simp only [go_sem,seval,hc2];refine⟨a+1,⟨by omega,by omega⟩,?_⟩;rw [show ((a:Int)+1)=((a+1:Nat):Int) by omega,w64 (by unfold fit;omega)];exact As (by simp [Ao])
     ·simp only [go_sem,seval];refine⟨a+1,⟨by omega,by omega⟩,?_⟩;rw [show ((a:Int)+1)=((a+1:Nat):Int) by omega,w64 (by unfold fit;omega)];exact As (by simp [Ao])
    have Zq:a=e:=by omega
    subst Zq;have g1:(p:Int)<=(a:Int):=by omega
    have g2:(a:Int)<=(l.length:Int):=by omega
    have g3:(0:Int)<=(a:Int):=by omega
    have g4:p<=a:=by omega
    have g5:a<=l.length:=by omega
    have g6:¬IntKind.i64.wrap ((a:Int)-p) > 20:=by rw [w64 (by unfold fit;omega)];omega
    have g7:¬20<IntKind.i64.wrap ((a:Int)-p):=by rw [w64 (by unfold fit;omega)];omega
    by_cases Ab:a<l.length
    ·have hc2:=w4 Ab;unfold Ik at hc2;rw [Bool.or_eq_false_iff] at hc2;have f3:(a:Int)<(l.length:Int):=by omega
     simp only [go_sem,seval,Ca,g3,f3,Ab];refine Aa (Nt _) ?_;rw [hc2.1];simp only [go_sem,seval,Ca,g3,f3,Ab];refine Aa (Nu _) ?_;rw [hc2.2];simp only [go_sem,seval,f0,g1,g2,g3,g4,g5,g6,g7];refine⟨([t],a),⟨by simp only;omega,r,by simp [r1],h⟩,?_⟩;rw [Iz];simp only [q_h,q_i,kt];exact As (by simp [Ao])
    ·have f3:¬(a:Int)<(l.length:Int):=by omega
     simp only [go_sem,seval,f3,f0,g1,g2,g3,g4,g5,g6,g7];refine⟨([t],a),⟨by simp only;omega,r,by simp [r1],h⟩,?_⟩;rw [Iz];simp only [q_h,q_i,kt];exact As (by simp [Ao])
   ·obtain⟨w1,w2,w3,w4⟩:=hw;subst he;have l48:Ij 48=false:=by decide
    have d48:Pp 48=true:=by decide
    have pw:IntKind.i64.wrap ((p:Int)+1)=((p+1:Nat):Int):=by rw [w64 (by unfold fit;omega)];omega
    have g1:(p:Int)<=((p+1:Nat):Int):=by omega
    have g2:((p+1:Nat):Int)<=(l.length:Int):=by omega
    have g3:(0:Int)<=((p+1:Nat):Int):=by omega
    have g4:p<=p+1:=by omega
    have Dj:List.take (p+1-p) (List.drop p l)=[48]:=by
     have:=Nw hp;rw [Pe hc (by decide)] at this;exact this
    rw [hk,show Fp l p (p+1)=[48] from Dj] at kt;simp only [go_sem,seval,Ca,f0,f1,hp,hc];refine Aa (Nt 48) ?_;rw [l48];simp only [go_sem,seval,Ca,f0,hp,hc];refine Aa (Nu 48) ?_;rw [d48];simp only [go_sem,seval];refine Cf 2 (Ak ?_);simp only [go_sem,seval,Ca,f0,f1,hp,hc];refine Aa (Nu 48) ?_;rw [d48];simp only [go_sem,seval,pw]
    by_cases Ab:p+1<l.length
    ·have hc2:=w4 Ab;unfold Ik at hc2;rw [Bool.or_eq_false_iff] at hc2;have f3:((p+1:Nat):Int)<(l.length:Int):=by omega
     refine Ak ?_;simp only [go_sem,seval,Ca,g3,f3,Ab];refine Aa (Nu _) ?_;rw [hc2.2];simp only [go_sem,seval,Ca,f0,g1,g2,g3,w2,Dj,g4];refine Aa Xr ?_;simp only [go_sem,seval,Ca,f0,g1,g2,g3,w2,Dj,g4,f3,Ab];refine Aa (Nt _) ?_;rw [hc2.1];simp only [go_sem,seval,Ca,f0,g1,g2,g3,w2,Dj,g4];refine⟨([t],p+1),⟨by simp only;omega,r,by simp [r1],h⟩,?_⟩;rw [Iz];simp only [q_h,q_i,kt];exact As (by simp [Ao])
    ·have f3:¬((p+1:Nat):Int)<(l.length:Int):=by omega
     refine Ak ?_;simp only [go_sem,seval,f3,f0,g1,g2,g3,w2,Dj,g4];refine Aa Xr ?_;simp only [go_sem,seval,Ca,f0,g1,g2,g3,w2,Dj,g4,f3];refine⟨([t],p+1),⟨by simp only;omega,r,by simp [r1],h⟩,?_⟩;rw [Iz];simp only [q_h,q_i,kt];exact As (by simp [Ao])
  |cons d dn=>
   rw [List.length_cons] at Aj;rw [Iz];rcases ht with⟨hk,hc,he,_⟩|⟨hk,hc,he,_⟩|⟨hk,hc,hw,h20⟩|⟨hk,hc,hw,he⟩
   ·have pw:IntKind.i64.wrap ((p:Int)+1)=((p+1:Nat):Int):=by rw [w64 (by unfold fit;omega)];omega
    subst he;rw [Nw hp,Pe hc (by decide)] at kt;rw [hk] at kt;simp only [go_sem,seval,Ca,f0,f1,hp,hc,pw];refine⟨⟨by simp,by omega,by omega⟩,?_⟩
    try simp only [go_sem,seval,pw]
    refine⟨(d::(dn++[t]),p+1),⟨by simp only;omega,r,by simp [r1],h⟩,?_⟩;rw [Iz];simp only [q_h,List.map_append,q_i,kt,List.length_append,List.length_cons,List.length_nil,q_g,Nat.zero_add];exact Do 2 (by simp [Ao]) (by simp [Fp]) (by simp [Be]) (by simp)
   ·have pw:IntKind.i64.wrap ((p:Int)+1)=((p+1:Nat):Int):=by rw [w64 (by unfold fit;omega)];omega
    subst he;rw [Nw hp,Pe hc (by decide)] at kt;rw [hk] at kt;simp only [go_sem,seval,Ca,f0,f1,hp,hc,pw];refine⟨⟨by simp,by omega,by omega⟩,?_⟩
    try simp only [go_sem,seval,pw]
    refine⟨(d::(dn++[t]),p+1),⟨by simp only;omega,r,by simp [r1],h⟩,?_⟩;rw [Iz];simp only [q_h,List.map_append,q_i,kt,List.length_append,List.length_cons,List.length_nil,q_g,Nat.zero_add];exact Do 2 (by simp [Ao]) (by simp [Fp]) (by simp [Be]) (by simp)
   ·obtain⟨w1,w2,w3,w4⟩:=hw;have n1:=Hi m1;have n2:=Hi m2;have n3:=Hi m3;have n4:=Hi m4;have n5:=Hi (Xa hc).1;have n6:=Hi (Xa hc).2;simp only [Int.cast_ofNat_Int] at n1 n2 n3 n4 n5 n6;rw [hk] at kt;simp only [go_sem,seval,Ca,f0,f1,hp,n1,n2,n3,n4,n5,n6];refine Aa (Nt _) ?_;rw [hc];simp only [go_sem,seval];refine Vb (fun a:Nat=>⟨(.str (bs l)::.jk::.nils::.int .i64 0::.osl 1 dn.length 0 (dn.length+1)::.int .i64 p::.jk::.int .i64 a::.jk::.jk::.jk::.jk::.jk::.jk::.jk::.jk::.jk::.jk::.jk::.jk::.bool false::.jk::.jk::.jk::.jk::.jk::.jk::.jk::.jk::.jk::.jk::.jk::.jk::.bool false::.jk::.jk::.jk::.jk::.jk::.jk::.jk::.jk::.jk::.jk::.jk::.jk::.jk::.jk::.bool false::.jk::.jk::.jk::.jk::.jk::.jk::.jk::.jk::.jk::.bool false::.jk::.jk::.jk::.jk::.jk::.jk::.jk::.jk::.jk::.bool true::.jk::.jk::.jk::.jk::.jk::.jk::.jk::.jk::.jk::.jk::.jk::.jk::.jk::.jk::.jk::.jk::.jk::.jk::.jk::.jk::.jk::.jk::.jk::.jk::.jk::.jk::.jk::.jk::.jk::.jk::.jk::.jk::.jk::.jk::.jk::.jk::.jk::.jk::.jk::.jk::.jk::.jk::.jk::.jk::.jk::.jk::.jk::.jk::.jk::.jk::.jk::.jk::.jk::.jk::.jk::.jk::.jk::.jk::.jk::.jk::.jk::.jk::.jk::.jk::.jk::.jk::.jk::.jk::.jk::.jk::.jk::.jk::.jk::.jk::.jk::.jk::.jk::.jk::.jk::.jk::.jk::.jk::.jk::.jk::.jk::[]),[⟨false,3,[El d],0,0,true⟩,⟨false,3,(d::dn).map El,dn.length,dn.length,true⟩]⟩) (fun a=>e-a) (fun a=>p<=a/\a<=e) (fun a ha=>?_) p ⟨by omega,by omega⟩ (As (by simp [Ao]))
    by_cases hq:a<e
    ·have hc2:Ik l a=true:=by
      by_cases Nh:a=p
      ·subst Nh;unfold Ik;rw [hc];rfl
      ·exact w3 a (by omega) hq
     have g0:(0:Int)<=(a:Int):=by omega
     have g1:(a:Int)<(l.length:Int):=by omega
     have g2:a<l.length:=by omega
     unfold Ik at hc2;simp only [go_sem,seval,Ca,g0,g1,g2];refine Aa (Nt _) ?_;cases h1:Ij (chN l a)
     ·rw [h1,Bool.false_or] at hc2;simp only [go_sem,seval,Ca,g0,g1,g2];refine Aa (Nu _) ?_;simp only [go_sem,seval,hc2];refine⟨a+1,⟨by omega,by omega⟩,?_⟩;rw [show ((a:Int)+1)=((a+1:Nat):Int) by omega,w64 (by unfold fit;omega)];exact As (by simp [Ao])
     ·simp only [go_sem,seval];refine⟨a+1,⟨by omega,by omega⟩,?_⟩;rw [show ((a:Int)+1)=((a+1:Nat):Int) by omega,w64 (by unfold fit;omega)];exact As (by simp [Ao])
    have Zq:a=e:=by omega
    subst Zq;have g1:(p:Int)<=(a:Int):=by omega
    have g2:(a:Int)<=(l.length:Int):=by omega
    have g3:(0:Int)<=(a:Int):=by omega
    have g4:p<=a:=by omega
    have g5:a<=l.length:=by omega
    have g6:¬IntKind.i64.wrap ((a:Int)-p) > 20:=by rw [w64 (by unfold fit;omega)];omega
    have g7:¬20<IntKind.i64.wrap ((a:Int)-p):=by rw [w64 (by unfold fit;omega)];omega
    by_cases Ab:a<l.length
    ·have hc2:=w4 Ab;unfold Ik at hc2;rw [Bool.or_eq_false_iff] at hc2;have f3:(a:Int)<(l.length:Int):=by omega
     simp only [go_sem,seval,Ca,g3,f3,Ab];refine Aa (Nt _) ?_;rw [hc2.1];simp only [go_sem,seval,Ca,g3,f3,Ab];refine Aa (Nu _) ?_;rw [hc2.2];simp only [go_sem,seval,f0,g1,g2,g3,g4,g5,g6,g7];refine⟨⟨by simp,by omega,by omega⟩,?_⟩
     try simp only [go_sem,seval,pw]
     refine⟨(d::(dn++[t]),a),⟨by simp only;omega,r,by simp [r1],h⟩,?_⟩;rw [Iz];simp only [q_h,List.map_append,q_i,kt,List.length_append,List.length_cons,List.length_nil,q_g,Nat.zero_add];exact Do 2 (by simp [Ao]) (by simp [Fp]) (by simp [Be]) (by simp)
    ·have f3:¬(a:Int)<(l.length:Int):=by omega
     simp only [go_sem,seval,f3,f0,g1,g2,g3,g4,g5,g6,g7];refine⟨⟨by simp,by omega,by omega⟩,?_⟩
     try simp only [go_sem,seval,pw]
     refine⟨(d::(dn++[t]),a),⟨by simp only;omega,r,by simp [r1],h⟩,?_⟩;rw [Iz];simp only [q_h,List.map_append,q_i,kt,List.length_append,List.length_cons,List.length_nil,q_g,Nat.zero_add];exact Do 2 (by simp [Ao]) (by simp [Fp]) (by simp [Be]) (by simp)
   ·obtain⟨w1,w2,w3,w4⟩:=hw;subst he;have l48:Ij 48=false:=by decide
    have d48:Pp 48=true:=by decide
    have pw:IntKind.i64.wrap ((p:Int)+1)=((p+1:Nat):Int):=by rw [w64 (by unfold fit;omega)];omega
    have g1:(p:Int)<=((p+1:Nat):Int):=by omega
    have g2:((p+1:Nat):Int)<=(l.length:Int):=by omega
    have g3:(0:Int)<=((p+1:Nat):Int):=by omega
    have g4:p<=p+1:=by omega
    have Dj:List.take (p+1-p) (List.drop p l)=[48]:=by
     have:=Nw hp;rw [Pe hc (by decide)] at this;exact this
    rw [hk,show Fp l p (p+1)=[48] from Dj] at kt;simp only [go_sem,seval,Ca,f0,f1,hp,hc];refine Aa (Nt 48) ?_;rw [l48];simp only [go_sem,seval,Ca,f0,hp,hc];refine Aa (Nu 48) ?_;rw [d48];simp only [go_sem,seval];refine Cf 2 (Ak ?_);simp only [go_sem,seval,Ca,f0,f1,hp,hc];refine Aa (Nu 48) ?_;rw [d48];simp only [go_sem,seval,pw]
    by_cases Ab:p+1<l.length
    ·have hc2:=w4 Ab;unfold Ik at hc2;rw [Bool.or_eq_false_iff] at hc2;have f3:((p+1:Nat):Int)<(l.length:Int):=by omega
     refine Ak ?_;simp only [go_sem,seval,Ca,g3,f3,Ab];refine Aa (Nu _) ?_;rw [hc2.2];simp only [go_sem,seval,Ca,f0,g1,g2,g3,w2,Dj,g4];refine Aa Xr ?_;simp only [go_sem,seval,Ca,f0,g1,g2,g3,w2,Dj,g4,f3,Ab];refine Aa (Nt _) ?_;rw [hc2.1];simp only [go_sem,seval,Ca,f0,g1,g2,g3,w2,Dj,g4];refine⟨⟨by simp,by omega,by omega⟩,?_⟩
     try simp only [go_sem,seval,pw]
     refine⟨(d::(dn++[t]),p+1),⟨by simp only;omega,r,by simp [r1],h⟩,?_⟩;rw [Iz];simp only [q_h,List.map_append,q_i,kt,List.length_append,List.length_cons,List.length_nil,q_g,Nat.zero_add];exact Do 2 (by simp [Ao]) (by simp [Fp]) (by simp [Be]) (by simp)
    ·have f3:¬((p+1:Nat):Int)<(l.length:Int):=by omega
     refine Ak ?_;simp only [go_sem,seval,f3,f0,g1,g2,g3,w2,Dj,g4];refine Aa Xr ?_;simp only [go_sem,seval,Ca,f0,g1,g2,g3,w2,Dj,g4,f3];refine⟨⟨by simp,by omega,by omega⟩,?_⟩
     try simp only [go_sem,seval,pw]
     refine⟨(d::(dn++[t]),p+1),⟨by simp only;omega,r,by simp [r1],h⟩,?_⟩;rw [Iz];simp only [q_h,List.map_append,q_i,kt,List.length_append,List.length_cons,List.length_nil,q_g,Nat.zero_add];exact Do 2 (by simp [Ao]) (by simp [Fp]) (by simp [Be]) (by simp)
theorem Atj {P:UInt8->Bool} (d:UInt8):∀(r:By),(∀q,q<(r.takeWhile P).length->P (r.getD q d)=true)/\((r.takeWhile P).length<r.length->P (r.getD (r.takeWhile P).length d)=false)/\r.dropWhile P=r.drop (r.takeWhile P).length/\r.takeWhile P=r.take (r.takeWhile P).length/\(r.takeWhile P).length<=r.length:=by
 intro r
 induction r with
 |nil=>simp
 |cons c r ih=>
  obtain⟨i1,i2,i3,i4,i5⟩:=ih;cases hc:P c with
  |false=>simp [List.takeWhile_cons,List.dropWhile_cons,hc]
  |true=>
   simp only [List.takeWhile_cons,List.dropWhile_cons,hc,if_true,List.length_cons,List.drop_succ_cons,List.take_succ_cons];refine⟨fun q hq=>?_,fun h=>?_,i3,by rw [<-i4],by omega⟩
   ·cases q with
    |zero=>simpa using hc
    |succ q=>simpa using i1 q (by omega)
   ·simpa using i2 (by omega)
theorem u4 {l:By} {p q:Nat} {r:By} (h:r=l.drop p):r.getD q 0=l.getD (p+q) 0:=by
 subst h;simp [List.getD_eq_getElem?_getD,List.getElem?_drop]
theorem Au0 (l:By):∀(f p:Nat) (r:By) (ts:List Tok),Gz f p r=some ts->r=l.drop p->p<=l.length->Lx l p ts:=by
 intro f
 induction f with
 |zero=>intro p r ts h;simp [Gz] at h
 |succ f ih=>
  intro p r ts h hr hp;cases r with
  |nil=>
   simp only [Gz,q_b] at h;subst h;have:p=l.length:=by
    have:=congrArg List.length hr;simp at this;omega
   subst this;exact .nil
  |cons c r=>
   have Ab:p<l.length:=by
    have:=congrArg List.length hr;simp at this;omega
   have hc:l.getD p 0=c:=by rw [<-Nat.add_zero p,<-u4 hr];rfl
   have Ey:chN l p=c.toNat:=by unfold chN;rw [hc]
   have Bs:r=l.drop (p+1):=by
    have:=congrArg (List.drop 1) hr;rw [List.drop_drop] at this;exact this
   have Abm:Fp l p (p+1)=[c]:=by rw [Nw Ab,hc]
   unfold Gz at h;split at h
   ·rename_i c1;exact .sp Ab (by rw [Ey,c1]) (ih _ _ _ h Bs (by omega))
   split at h
   ·rename_i c1;cases hq:Gz f (p+1) r with
    |none=>rw [hq] at h;cases h
    |some ts'=>
     rw [hq] at h;simp only [Option.map_some,q_b] at h;subst h;rw [<-Abm];exact .tok (.inl ⟨rfl,by rw [Ey,c1],rfl,Ab⟩) (ih _ _ _ hq Bs (by omega))
   split at h
   ·rename_i c1;cases hq:Gz f (p+1) r with
    |none=>rw [hq] at h;cases h
    |some ts'=>
     rw [hq] at h;simp only [Option.map_some,q_b] at h;subst h;rw [<-Abm];exact .tok (.inr (.inl ⟨rfl,by rw [Ey,c1],rfl,Ab⟩)) (ih _ _ _ hq Bs (by omega))
   split at h
   ·rename_i c1;split at h
    ·rename_i c2;obtain⟨i1,i2,i3,i4,i5⟩:=Atj (P:=Kv) 0 r;have hrl:r.length=l.length-(p+1):=by rw [Bs,List.length_drop]
     cases hq:Gz f (p+1+(r.takeWhile Kv).length) (r.dropWhile Kv) with
     |none=>rw [hq] at h;cases h
     |some ts'=>
      rw [hq] at h;simp only [Option.map_some,q_b] at h;subst h;have hx:=ih _ _ _ hq (by rw [i3,Bs,List.drop_drop,<-Bs]) (by omega);have hcut2:Fp l p (p+1+(r.takeWhile Kv).length)=c::r.takeWhile Kv:=by
       unfold Fp;rw [<-hr,show p+1+(r.takeWhile Kv).length-p=(r.takeWhile Kv).length+1 by omega,List.take_succ_cons,<-i4]
      rw [<-hcut2];refine .tok (.inr (.inr (.inl ⟨rfl,by rw [Ey];exact c1,⟨by omega,by omega,fun q h1 h2=>?_,fun h1=>?_⟩,by omega⟩))) hx
      ·have:=i1 (q-(p+1)) (by omega);rw [u4 Bs,show p+1+(q-(p+1))=q by omega] at this;exact this
      ·have:=i2 (by omega);rw [u4 Bs] at this;exact this
    ·cases h
   split at h
   ·rename_i c1;cases r with
    |nil=>
     simp only [q_b] at h;subst h;have hl:l.length=p+1:=by
      have:=congrArg List.length Bs;simp at this;omega
     rw [<-Abm];refine .tok (.inr (.inr (.inr ⟨rfl,by rw [Ey,c1],⟨by omega,by omega,fun q h1 h2=>by omega,fun h1=>by omega⟩,rfl⟩))) ?_;rw [<-hl];exact .nil
    |cons d r=>
     simp only at h;split at h
     ·cases h
     ·rename_i c2;have hd:Ik l (p+1)=false:=by
       have:=u4 (q:=0) Bs;have e:l.getD (p+1) 0=d:=this.symm;unfold Ik chN;rw [e];cases hw:Kv d with
       |true=>exact absurd hw c2
       |false=>exact hw
      cases hq:Gz f (p+1) (d::r) with
      |none=>rw [hq] at h;cases h
      |some ts'=>
       rw [hq] at h;simp only [Option.map_some,q_b] at h;subst h;rw [<-Abm];exact .tok (.inr (.inr (.inr ⟨rfl,by rw [Ey,c1],⟨by omega,by omega,fun q h1 h2=>by omega,fun _=>hd⟩,rfl⟩))) (ih _ _ _ hq Bs (by omega))
   ·cases h
theorem Acu {l:By} {ts:List Tok} (h:Gz (l.length+1) 0 l=some ts):Lx l 0 ts:=Au0 l _ 0 l ts h rfl (Nat.zero_le _)
theorem Xj {l:By} {p:Nat} {ts:List Tok} (h:Lx l p ts):ts.length+p<=l.length:=by
 induction h with
 |nil=>simp
 |sp hp _ _ ih=>omega
 |tok ht _ ih=>have:=q8 ht;simp only [List.length_cons];omega
end Go.Proofs.YtdpigpopcbjkmaaGreatDoor.Abs
