import Derived.Test.YtgdkddjdhijfnaaGreatDoorXAfK
import Derived.Test.YtgdkddjdhijfnaaGreatDoorXMb
import Derived.Test.YtgdkddjdhijfnaaGreatDoorXPq
import Derived.Test.YtgdkddjdhijfnaaGreatDoorXDo
set_option linter.all false
set_option maxRecDepth 20000
set_option maxHeartbeats 4000000
namespace Go.Proofs.YtgdkddjdhijfnaaGreatDoor.Abs
open Go Go.RowKit Go.Proofs.YtgdkddjdhijfnaaGreatDoor
def Azf:Con 144 [.int .i64 0,.int .i64 10] (.str (bs [48])):=by
 intro m w vs h1 h2 h3;obtain⟨v,u,rfl⟩:∃v u,vs=[v,u]:=by
  match vs,h2 with
  |[v,u],_=>exact⟨v,u,rfl⟩
 have hv:=h3 0 v _ rfl rfl;have hu:=h3 1 u _ rfl rfl;cases hv;cases hu;refine Calls.mono (Nrm.fmt_zero w) (fun e w' he=>?_);obtain⟨rfl,rfl⟩:=he;exact⟨_,m,rfl,.str _,⟨.refl m,rfl⟩,fun _ _ _=>rfl,h1,rfl,rfl,rfl,q_ja _,fun _ _=>rfl⟩
def A0k:Con 135 [.int .i64 0] (.str (bs [48])):=by
 refine Au mixed Tryz.func135 tr135 ?_;simp only[go_sem,seval];refine Af (r:=.str (bs [48])) ?_ ?_
 ·refine Au mixed Tryz.func140 tr140 ?_;simp only[go_sem,seval];refine Af (r:=.str (bs [48])) ?_ ?_
  ·refine Au mixed Tryz.func143 tr143 ?_;simp only[go_sem,seval];refine Af Azf ?_;simp only[go_sem,seval]
  ·simp only[go_sem,seval]
 ·simp only[go_sem,seval]
def w8z:IntKind.u8.wrap 0=0:=rfl
def w64z:IntKind.i64.wrap 0=0:=rfl
def m10z:(10:Int)*0=0:=rfl
def Ag1:Con 130 [.str (bs [48])] (.tup [.int .i64 0,.bool true]):=by
 refine Au mixed Tryz.func130 tr130 ?_;have hx:((UInt8.toNat 48:Nat):Int)=48:=rfl
 repeat' first
 |simp only[go_sem,seval,hx,w8z,w64z,m10z]
 |refine Cv 3 (Bd ?_)
 |refine Bd ?_
 |refine Af A0k ?_
def Ag4:Con 89 [.str (bs [48])] (.tup [.int .i64 0,.bool true]):=by
 refine Au mixed Tryz.func89 tr89 ?_;have hx:((UInt8.toNat 48:Nat):Int)=48:=rfl
 repeat' first
 |simp only[go_sem,seval,hx,w8z,w64z,m10z]
 |refine Cv 3 (Bd ?_)
 |refine Bd ?_
def Qk(l:By)(q:Nat):Bool:=Mo (chN l q) || Vj (chN l q)
def An5(l:By)(p e:Nat):Prop:=p<e/\e<=l.length/\(∀q,p<q->q<e->Qk l q=true)/\(e<l.length->Qk l e=false)
def o9(l:By)(p k e:Nat):Prop:=
 (k=1/\chN l p=40/\e=p+1/\p<l.length)\/(k=2/\chN l p=41/\e=p+1/\p<l.length) \/
 (k=3/\Mo (chN l p)=true/\An5 l p e/\e-p<=20)\/(k=4/\chN l p=48/\An5 l p e/\e=p+1)
def Hr(l:By)(p e:Nat):By:=(l.drop p).take (e-p)
def Xn{l:By}{p:Nat}(h:p<l.length):Hr l p (p+1)=[l.getD p 0]:=by
 unfold Hr;rw[show p+1-p=1 by omega,List.drop_eq_getElem_cons h,List.take_succ_cons,List.take_zero,q_j,q_f h];rfl
def Zk{l:By}{p n:Nat}(h:chN l p=n)(hn:n<256):l.getD p 0=UInt8.ofNat n:=by
 unfold chN at h;rw[<-h];simp
def Ajl{n:Nat}(h:Mo n=true):n≠40/\n≠41:=by
 unfold Mo at h;simp only[q_l,q_jl,q_jt] at h;omega
def Ang{l:By}(hl:l.length<1000000000000){p k e:Nat}(h:o9 l p k e):Con 125 [.str (bs l),.int .i64 p] (.tup [.agg true [.int .i64 k,.str (bs (Hr l p e)),.int .i64 p],.bool true]):=by
 have hp:p<l.length:=by
  rcases h with⟨_,_,_,h⟩|⟨_,_,_,h⟩|⟨_,_,h,_⟩|⟨_,_,h,_⟩
  ·exact h
  ·exact h
  ·have:=h.1;have:=h.2.1;omega
  ·have:=h.1;have:=h.2.1;omega
 have e0:(0:Int)<=(p:Int):=by omega
 refine Au mixed Tryz.func125 tr125 ?_;rcases h with⟨rfl,hc,rfl,_⟩|⟨rfl,hc,rfl,_⟩|⟨rfl,hc,hw,h20⟩|⟨rfl,hc,hw,he⟩
 ·rw[Xn hp,Zk hc (by decide)];simp only[go_sem,seval,Ew,e0,hp,hc]
 ·rw[Xn hp,Zk hc (by decide)];simp only[go_sem,seval,Ew,e0,hp,hc]
 ·obtain⟨c1,c2⟩:=Ajl hc;have d1:=Oq c1;have d2:=Oq c2;simp only[Int.cast_ofNat_Int] at d1 d2;simp only[go_sem,seval,Ew,e0,hp,d1,d2];refine Af (v8 _) ?_;simp only[go_sem,seval,hc];obtain⟨w1,w2,w3,w4⟩:=hw;have Wd:IntKind.i64.wrap ((p:Int)+1)=((p+1:Nat):Int):=by rw[w64 (by unfold fit;omega)];omega
  rw[Wd];refine p9 (fun a:Nat=>⟨(.str (bs l)::.int .i64 p::.J::.J::.ref 0 0 0 0::.bool false::.J::.int .i64 a::jk4 (jk2 (.J::.bool false::jk4 (.bool false::jk4 (.bool true::Bo (Bo (jk8 (jk2 ([]))))))))),[⟨true,3,[[.int .i64 0,.str (bs []),.int .i64 0]],0,0,true⟩]⟩) (fun a=>e-a) (fun a=>p<a/\a<=e) (fun a ha=>?_) (p+1) ⟨by omega,by omega⟩ ?_
  ·by_cases hq:a<e
   ·have hc:=w3 a ha.1 hq;have f0:(0:Int)<=(a:Int):=by omega
    have f1:(a:Int)<(l.length:Int):=by omega
    have f2:a<l.length:=by omega
    unfold Qk at hc;simp only[go_sem,seval,Ew,f0,f1,f2];refine Af (v8 _) ?_;cases h1:Mo (chN l a)
    ·rw[h1,Bool.false_or] at hc;simp only[go_sem,seval,Ew,f0,f1,f2];refine Af (Ac0 _) ?_;simp only[go_sem,seval,hc];refine⟨a+1,⟨by omega,by omega⟩,?_⟩;rw[show ((a:Int)+1)=((a+1:Nat):Int) by omega,w64 (by unfold fit;omega)];exact Bk (by simp[Ba])
    ·simp only[go_sem,seval];refine⟨a+1,⟨by omega,by omega⟩,?_⟩;rw[show ((a:Int)+1)=((a+1:Nat):Int) by omega,w64 (by unfold fit;omega)];exact Bk (by simp[Ba])
   ·have hae:a=e:=by omega
    subst hae;have g0:(0:Int)<=(p:Int):=by omega
    have g1:(p:Int)<=(a:Int):=by omega
    have g2:(a:Int)<=(l.length:Int):=by omega
    have g3:(0:Int)<=(a:Int):=by omega
    have g4:p<=a:=by omega
    have g5:a<=l.length:=by omega
    have g6:IntKind.i64.wrap ((a:Int)-p)<=20:=by rw[w64 (by unfold fit;omega)];omega
    by_cases Ag:a<l.length
    ·have hc:=w4 Ag;unfold Qk at hc;rw[q_kz] at hc;have f1:(a:Int)<(l.length:Int):=by omega
     simp only[go_sem,seval,Ew,g3,f1,Ag];refine Af (v8 _) ?_;rw[hc.1];simp only[go_sem,seval,Ew,g3,f1,Ag];refine Af (Ac0 _) ?_;rw[hc.2];simp only[go_sem,seval,g0,g1,g2,g3,g4,g5,g6];rfl
    ·have f1:¬(a:Int)<(l.length:Int):=by omega
     simp only[go_sem,seval,f1,g0,g1,g2,g3,g4,g5,g6];rfl
  ·exact Bk (by simp[Ba])
 ·obtain⟨w1,w2,w3,w4⟩:=hw;subst he;have Wd:IntKind.i64.wrap ((p:Int)+1)=((p+1:Nat):Int):=by rw[w64 (by unfold fit;omega)];omega
  have l48:Mo 48=false:=by decide
  have d48:Vj 48=true:=by decide
  have g1:(p:Int)<=((p+1:Nat):Int):=by omega
  have g2:((p+1:Nat):Int)<=(l.length:Int):=by omega
  have g3:(0:Int)<=((p+1:Nat):Int):=by omega
  have g4:p<=p+1:=by omega
  have hk:List.take (p+1-p) (List.drop p l)=[48]:=by
   have:=Xn hp;rw[Zk hc (by decide)] at this;exact this
  rw[show Hr l p (p+1)=[48] from hk];simp only[go_sem,seval,Ew,e0,hp,hc,Wd];refine Af (v8 48) ?_;rw[l48];simp only[go_sem,seval,Ew,e0,hp,hc,Wd];refine Af (Ac0 48) ?_;rw[d48];simp only[go_sem,seval,Ew,e0,hp,hc,Wd]
  by_cases Ag:p+1<l.length
  ·have hc2:=w4 Ag;unfold Qk at hc2;rw[q_kz] at hc2;have f1:((p+1:Nat):Int)<(l.length:Int):=by omega
   have f2:(((p+1:Nat):Int)==(l.length:Int))=false:=Oq (by omega);refine Cv 1 (Bd ?_);simp only[go_sem,seval,Ew,g3,f1,Ag];refine Af (Ac0 _) ?_;rw[hc2.2];simp only[go_sem,seval,Ew,e0,g1,g2,g3,w2,hk,g4];refine Af Ag1 ?_;simp only[go_sem,seval,Ew,e0,g1,g2,g3,w2,hk,g4,f2,Ag];refine Af (v8 _) ?_;rw[hc2.1];simp only[go_sem,seval]
  ·have f1:¬((p+1:Nat):Int)<(l.length:Int):=by omega
   have f2:(((p+1:Nat):Int)==(l.length:Int))=true:=by rw[Aqy];simp;omega
   refine Cv 1 (Bd ?_);simp only[go_sem,seval,f1,e0,g1,g2,g3,w2,hk,g4];refine Af Ag1 ?_;simp only[go_sem,seval,Ew,e0,g1,g2,g3,w2,hk,g4,f2]
inductive Lx(l:By):Nat->List Tok->Prop
 |nil:Lx l l.length []
 |sp {p:Nat} {ts:List Tok} (hp:p<l.length) (hc:chN l p=32) (h:Lx l (p+1) ts):Lx l p ts
 |tok {p k e:Nat} {ts:List Tok} (ht:o9 l p k e) (h:Lx l e ts):Lx l p (⟨k,Hr l p e,p⟩::ts)
def Af7{l:By}{p k e:Nat}(h:o9 l p k e):p<e/\e<=l.length:=by
 rcases h with⟨_,_,rfl,h⟩|⟨_,_,rfl,h⟩|⟨_,_,h,_⟩|⟨_,_,h,_⟩
 ·omega
 ·omega
 ·exact⟨h.1,h.2.1⟩
 ·exact⟨h.1,h.2.1⟩
def Auk{l:By}{p k e:Nat}(h:o9 l p k e):chN l p≠32/\chN l p≠9/\chN l p≠10/\chN l p≠59:=by
 rcases h with⟨_,h,_⟩|⟨_,h,_⟩|⟨_,h,_⟩|⟨_,h,_⟩
 ·omega
 ·omega
 ·unfold Mo at h;simp only[q_l,q_jl,q_jt] at h;omega
 ·omega
def Aro{l:By}{p:Nat}{ts:List Tok}(h:Lx l p ts):∃q,Ami l p q/\Lx l q ts/\(ts=[]->q=l.length)/\(∀t r,ts=t::r->∃e,o9 l q t.k e/\t=⟨t.k,Hr l q e,q⟩/\Lx l e r):=by
 induction h with
 |nil=>exact⟨l.length,⟨q_ja _,q_ja _,fun r h1 h2=>by omega,fun h=>by omega⟩,.nil,fun _=>rfl,fun t r h=>by cases h⟩
 |@sp p ts hp hc h ih=>
  obtain⟨q,⟨b1,b2,b3,b4⟩,h1,h2,h3⟩:=ih;refine⟨q,⟨by omega,b2,fun r Cq Jd=>?_,b4⟩,h1,h2,h3⟩
  by_cases hr:r=p
  ·subst hr;exact hc
  ·exact b3 r (by omega) Jd
 |@tok p k e ts ht h ih=>
  refine⟨p,⟨q_ja _,by have:=Af7 ht;omega,fun r h1 h2=>by omega,fun _=>Auk ht⟩,.tok ht h,fun h=>by (cases h),fun t r hr=>?_⟩;cases hr;exact⟨e,ht,rfl,h⟩
def A2d{l:By}{p e:Nat}(h:p<=e)(he:e<=l.length):(Hr l p e).length=e-p:=by
 unfold Hr;rw[q_kg,q_kh];omega
def Anx{l:By}{p e:Nat}(h:p<=e)(he:e<=l.length)(hl:l.length<1000000000000):IntKind.i64.wrap ((p:Int)+((Hr l p e).length:Int))=(e:Int):=by
 rw[A2d h he,w64 (by unfold fit;omega)];omega
def Ajn(l:By):List Tok×Nat->St
 |([],q)=>⟨(.str (bs l)::.J::.nils::.int .i64 0::.int .i64 0::.nils::.int .i64 q::Do (jk8 (jk4 (.J::[])))),[]⟩
 |(t::ts,q)=>⟨(.str (bs l)::.J::.nils::.int .i64 0::.int .i64 0::.osl 2 ts.length 0 (ts.length+1)::.int .i64 q::Do (jk8 (jk4 (.J::[])))),[⟨true,3,[Fx t],0,0,true⟩,⟨false,3,[Fx t],0,0,true⟩,⟨false,3,(t::ts).map Fx,ts.length,ts.length,true⟩]⟩
def Are(l:By)(q:Nat):Ajn l ([],q)=⟨(.str (bs l)::.J::.nils::.int .i64 0::.int .i64 0::.nils::.int .i64 q::Do (jk8 (jk4 (.J::[])))),[]⟩:=rfl
def Aeu(l:By)(t:Tok)(ts:List Tok)(q:Nat):Ajn l (t::ts,q)=⟨(.str (bs l)::.J::.nils::.int .i64 0::.int .i64 0::.osl 2 ts.length 0 (ts.length+1)::.int .i64 q::Do (jk8 (jk4 (.J::[])))),[⟨true,3,[Fx t],0,0,true⟩,⟨false,3,[Fx t],0,0,true⟩,⟨false,3,(t::ts).map Fx,ts.length,ts.length,true⟩]⟩:=rfl
def Am8{l:By}(hl:l.length<1000000000000){ts:List Tok}(h:Lx l 0 ts)(Bn:ts≠[])(hn:ts.length<1000000000000):Con 120 [.str (bs l)] (.tup [.dsl 3 (ts.map Fx),.int .i64 0,.int .i64 0]):=by
 obtain⟨q0,hb0,No,Ul,hh0⟩:=Aro h;refine Au mixed Tryz.func120 tr120 ?_;simp only[go_sem,seval];refine Af (Ag0 l hl hb0) ?_;simp only[go_sem,seval];refine p9 (Ajn l)
  (fun a=>ts.length-a.1.length) (fun a=>∃rest,ts=a.1++rest/\(rest=[]->a.2=l.length)/\(∀t r,rest=t::r->∃e,o9 l a.2 t.k e/\t=⟨t.k,Hr l a.2 e,a.2⟩/\Lx l e r)) (fun a ha=>?_) ([],q0) ⟨ts,rfl,Ul,hh0⟩ (by rw[Are];exact Bk (by simp[Ba]))
 obtain⟨dn,q⟩:=a;obtain⟨rest,r1,r3,r4⟩:=ha;simp only at r1 r3 r4;cases rest with
 |nil=>
  rw[q_k] at r1;subst r1;have hq:=r3 rfl;subst hq;have f1:¬(l.length:Int)<(l.length:Int):=by omega
  cases ts with
  |nil=>exact absurd rfl Bn
  |cons t ts=>
   rw[Aeu];simp only[go_sem,seval,f1];rw[q_js (by simp)]
 |cons t r=>
  obtain⟨e,k1,k2,k3⟩:=r4 t r rfl;have kt:Fx t=[.int .i64 t.k,.str (bs (Hr l q e)),.int .i64 q]:=by rw[k2];rfl
  obtain⟨b1,b2⟩:=Af7 k1;obtain⟨q2,Dc,hx2,Du,hh2⟩:=Aro k3;have f1:(q:Int)<(l.length:Int):=by omega
  cases dn with
  |nil=>
   rw[Are]
   repeat' first
   |simp only[go_sem,seval,f1,Anx (Nat.le_of_lt b1) b2 hl]
   |refine Af (Ang hl k1) ?_
   |refine Af (Ag0 l hl Dc) ?_
   refine⟨([t],q2),⟨by simp[r1],r,by simp[r1],Du,hh2⟩,?_⟩;rw[Aeu];simp only[q_h,q_i,kt];exact Bk (by simp[Ba])
  |cons d dn=>
   rw[Aeu];simp only[go_sem,seval,f1];refine Af (Ang hl k1) ?_;simp only[go_sem,seval,Anx (Nat.le_of_lt b1) b2 hl];have Av:ts.length=dn.length+1+(r.length+1):=by rw[r1];simp;omega
   refine⟨⟨by simp,by omega,by omega⟩,?_⟩;refine Af (Ag0 l hl Dc) ?_;simp only[go_sem,seval];refine⟨(d::(dn++[t]),q2),⟨by simp only[q_jk,q_jr,List.length_nil];omega,r,by simp[r1],Du,hh2⟩,?_⟩;rw[Aeu];simp only[q_h,q_ku,q_i,kt,q_jr,q_jk,List.length_nil,q_g,q_jg];exact Fp 3 (by simp[Ba]) (by simp) (by simp[Cx]) (by simp)
def rlS(l:By):List Tok×Nat->St
 |([],q)=>⟨(.str (bs l)::.J::.nils::.int .i64 0::.nils::.int .i64 q::Bo (Bo (Bo (Bo (Do (jk4 ([]))))))),[]⟩
 |(t::ts,q)=>⟨(.str (bs l)::.J::.nils::.int .i64 0::.osl 1 ts.length 0 (ts.length+1)::.int .i64 q::Bo (Bo (Bo (Bo (Do (jk4 ([]))))))),[⟨false,3,[Fx t],0,0,true⟩,⟨false,3,(t::ts).map Fx,ts.length,ts.length,true⟩]⟩
def Aft(l:By)(q:Nat):rlS l ([],q)=⟨(.str (bs l)::.J::.nils::.int .i64 0::.nils::.int .i64 q::Bo (Bo (Bo (Bo (Do (jk4 ([]))))))),[]⟩:=rfl
def Uv(l:By)(t:Tok)(ts:List Tok)(q:Nat):rlS l (t::ts,q)=⟨(.str (bs l)::.J::.nils::.int .i64 0::.osl 1 ts.length 0 (ts.length+1)::.int .i64 q::Bo (Bo (Bo (Bo (Do (jk4 ([]))))))),[⟨false,3,[Fx t],0,0,true⟩,⟨false,3,(t::ts).map Fx,ts.length,ts.length,true⟩]⟩:=rfl
def A0x{l:By}(hl:l.length<1000000000000){ts:List Tok}(h:Lx l 0 ts)(Bn:ts≠[])(hn:ts.length<1000000000000):Con 65 [.str (bs l)] (.tup [.dsl 3 (ts.map Fx),.int .i64 (-1)]):=by
 refine Au mixed Tryz.func65 tr65 ?_;simp only[go_sem,seval];refine p9 (rlS l) (fun a=>l.length-a.2) (fun a=>∃rest,ts=a.1++rest/\Lx l a.2 rest) (fun a ha=>?_) ([],0) ⟨ts,rfl,h⟩ (by rw[Aft];exact Bk (by simp[Ba]));obtain⟨dn,p⟩:=a;obtain⟨rest,r1,hx⟩:=ha;simp only at r1 hx;clear h;cases hx with
 |nil=>
  rw[q_k] at r1;subst r1;have f1:¬(l.length:Int)<(l.length:Int):=by omega
  cases ts with
  |nil=>exact absurd rfl Bn
  |cons t ts=>
   rw[Uv];simp only[go_sem,seval,f1];rw[q_js (by simp)]
 |sp hp hc h=>
  have f0:(0:Int)<=(p:Int):=by omega
  have f1:(p:Int)<(l.length:Int):=by omega
  cases dn with
  |nil=>
   rw[Aft];simp only[go_sem,seval,Ew,f0,f1,hp,hc];refine⟨([],p+1),⟨by simp only;omega,rest,r1,h⟩,?_⟩;rw[Aft,show ((p:Int)+1)=((p+1:Nat):Int) by omega,w64 (by unfold fit;omega)];exact Bk (by simp[Ba])
  |cons d dn=>
   rw[Uv];simp only[go_sem,seval,Ew,f0,f1,hp,hc];refine⟨(d::dn,p+1),⟨by simp only;omega,rest,r1,h⟩,?_⟩;rw[Uv,show ((p:Int)+1)=((p+1:Nat):Int) by omega,w64 (by unfold fit;omega)];exact Bk (by simp[Ba])
 |@tok _ k e r ht h=>
  obtain⟨t,et⟩:∃t,t=(⟨k,Hr l p e,p⟩:Tok):=⟨_,rfl⟩
  have kt:Fx t=[.int .i64 k,.str (bs (Hr l p e)),.int .i64 p]:=by rw[et];rfl
  rw[<-et] at r1;clear et;obtain⟨m1,m2,m3,m4⟩:=Auk ht;obtain⟨b1,b2⟩:=Af7 ht;have hp:p<l.length:=by omega
  have f0:(0:Int)<=(p:Int):=by omega
  have f1:(p:Int)<(l.length:Int):=by omega
  have Av:ts.length=dn.length+(r.length+1):=by rw[r1];simp
  obtain _|⟨d,dn⟩:=dn
  rw[Aft];rotate_left;rw[q_jk] at Av;rw[Uv];rotate_left
  all_goals
   rcases ht with⟨hk,hc,he,_⟩|⟨hk,hc,he,_⟩|⟨hk,hc,hw,h20⟩|⟨hk,hc,hw,he⟩
   ·have pw:IntKind.i64.wrap ((p:Int)+1)=((p+1:Nat):Int):=by rw[w64 (by unfold fit;omega)];omega
    subst he;rw[Xn hp,Zk hc (by decide)] at kt;rw[hk] at kt;simp only[go_sem,seval,Ew,f0,f1,hp,hc,pw]
    try refine⟨⟨by simp,by omega,by omega⟩,?_⟩
    try simp only[go_sem,seval,pw]
    first|refine⟨(d::(dn++[t]),p+1),⟨by simp only;omega,r,by simp[r1],h⟩,?_⟩|refine⟨([t],p+1),⟨by simp only;omega,r,by simp[r1],h⟩,?_⟩
    rw[Uv];simp only[q_h,q_ku,q_i,kt,q_jr,q_jk,List.length_nil,q_g,q_jg]
    first|exact Bk (by simp[Ba])|exact Fp 2 (by simp[Ba]) (by simp[Hr]) (by simp[Cx]) (by simp)
   ·have pw:IntKind.i64.wrap ((p:Int)+1)=((p+1:Nat):Int):=by rw[w64 (by unfold fit;omega)];omega
    subst he;rw[Xn hp,Zk hc (by decide)] at kt;rw[hk] at kt;simp only[go_sem,seval,Ew,f0,f1,hp,hc,pw]
    try refine⟨⟨by simp,by omega,by omega⟩,?_⟩
    try simp only[go_sem,seval,pw]
    first|refine⟨(d::(dn++[t]),p+1),⟨by simp only;omega,r,by simp[r1],h⟩,?_⟩|refine⟨([t],p+1),⟨by simp only;omega,r,by simp[r1],h⟩,?_⟩
    rw[Uv];simp only[q_h,q_ku,q_i,kt,q_jr,q_jk,List.length_nil,q_g,q_jg]
    first|exact Bk (by simp[Ba])|exact Fp 2 (by simp[Ba]) (by simp[Hr]) (by simp[Cx]) (by simp)
   ·obtain⟨w1,w2,w3,w4⟩:=hw;have n1:=Oq m1;have n2:=Oq m2;have n3:=Oq m3;have n4:=Oq m4;have n5:=Oq (Ajl hc).1;have n6:=Oq (Ajl hc).2;simp only[Int.cast_ofNat_Int] at n1 n2 n3 n4 n5 n6;rw[hk] at kt;simp only[go_sem,seval,Ew,f0,f1,hp,n1,n2,n3,n4,n5,n6];refine Af (w6 _) ?_;rw[hc];simp only[go_sem,seval]
    first
    |refine p9 (fun a:Nat=>⟨(.str (bs l)::.J::.nils::.int .i64 0::.nils::.int .i64 p::.J::.int .i64 a::jk8 (jk4 (.bool false::jk8 (jk4 (.bool false::jk8 (jk4 (jk2 (.bool false::jk8 (.J::.bool false::jk8 (.J::.bool true::Bo (Bo (Do (jk4 (.J::[])))))))))))))),[]⟩) (fun a=>e-a) (fun a=>p<=a/\a<=e) (fun a ha=>?_) p ⟨by omega,by omega⟩ (Bk (by simp[Ba]))
    |refine p9 (fun a:Nat=>⟨(.str (bs l)::.J::.nils::.int .i64 0::.osl 1 dn.length 0 (dn.length+1)::.int .i64 p::.J::.int .i64 a::jk8 (jk4 (.bool false::jk8 (jk4 (.bool false::jk8 (jk4 (jk2 (.bool false::jk8 (.J::.bool false::jk8 (.J::.bool true::Bo (Bo (Do (jk4 (.J::[])))))))))))))),[⟨false,3,[Fx d],0,0,true⟩,⟨false,3,(d::dn).map Fx,dn.length,dn.length,true⟩]⟩) (fun a=>e-a) (fun a=>p<=a/\a<=e) (fun a ha=>?_) p ⟨by omega,by omega⟩ (Bk (by simp[Ba]))
    by_cases hq:a<e
    ·have hc2:Qk l a=true:=by
      by_cases Tu:a=p
      ·subst Tu;unfold Qk;rw[hc];rfl
      ·exact w3 a (by omega) hq
     have g0:(0:Int)<=(a:Int):=by omega
     have g1:(a:Int)<(l.length:Int):=by omega
     have g2:a<l.length:=by omega
     unfold Qk at hc2;simp only[go_sem,seval,Ew,g0,g1,g2];refine Af (w6 _) ?_;cases h1:Mo (chN l a)
     ·rw[h1,Bool.false_or] at hc2;simp only[go_sem,seval,Ew,g0,g1,g2];refine Af (v9 _) ?_;simp only[go_sem,seval,hc2];refine⟨a+1,⟨by omega,by omega⟩,?_⟩;rw[show ((a:Int)+1)=((a+1:Nat):Int) by omega,w64 (by unfold fit;omega)];exact Bk (by simp[Ba])
     ·simp only[go_sem,seval];refine⟨a+1,⟨by omega,by omega⟩,?_⟩;rw[show ((a:Int)+1)=((a+1:Nat):Int) by omega,w64 (by unfold fit;omega)];exact Bk (by simp[Ba])
    have hae:a=e:=by omega
    subst hae;have g1:(p:Int)<=(a:Int):=by omega
    have g2:(a:Int)<=(l.length:Int):=by omega
    have g3:(0:Int)<=(a:Int):=by omega
    have g4:p<=a:=by omega
    have g5:a<=l.length:=by omega
    have g6:¬IntKind.i64.wrap ((a:Int)-p) > 20:=by rw[w64 (by unfold fit;omega)];omega
    have g7:¬20<IntKind.i64.wrap ((a:Int)-p):=by rw[w64 (by unfold fit;omega)];omega
    by_cases Ag:a<l.length
    have hc2:=w4 Ag;unfold Qk at hc2;rw[q_kz] at hc2;have f3:(a:Int)<(l.length:Int):=by omega
    simp only[go_sem,seval,Ew,g3,f3,Ag];refine Af (w6 _) ?_;rw[hc2.1];simp only[go_sem,seval,Ew,g3,f3,Ag];refine Af (v9 _) ?_;rw[hc2.2];simp only[go_sem,seval,f0,g1,g2,g3,g4,g5,g6,g7];rotate_left;have f3:¬(a:Int)<(l.length:Int):=by omega
    simp only[go_sem,seval,f3,f0,g1,g2,g3,g4,g5,g6,g7];rotate_left
    all_goals
     try refine⟨⟨by simp,by omega,by omega⟩,?_⟩
     try simp only[go_sem,seval,pw]
     first|refine⟨(d::(dn++[t]),a),⟨by simp only;omega,r,by simp[r1],h⟩,?_⟩|refine⟨([t],a),⟨by simp only;omega,r,by simp[r1],h⟩,?_⟩
     rw[Uv];simp only[q_h,q_ku,q_i,kt,q_jr,q_jk,List.length_nil,q_g,q_jg]
     first|exact Bk (by simp[Ba])|exact Fp 2 (by simp[Ba]) (by simp[Hr]) (by simp[Cx]) (by simp)
   ·obtain⟨w1,w2,w3,w4⟩:=hw;subst he;have l48:Mo 48=false:=by decide
    have d48:Vj 48=true:=by decide
    have pw:IntKind.i64.wrap ((p:Int)+1)=((p+1:Nat):Int):=by rw[w64 (by unfold fit;omega)];omega
    have g1:(p:Int)<=((p+1:Nat):Int):=by omega
    have g2:((p+1:Nat):Int)<=(l.length:Int):=by omega
    have g3:(0:Int)<=((p+1:Nat):Int):=by omega
    have g4:p<=p+1:=by omega
    have Dj:List.take (p+1-p) (List.drop p l)=[48]:=by
     have:=Xn hp;rw[Zk hc (by decide)] at this;exact this
    rw[hk,show Hr l p (p+1)=[48] from Dj] at kt;simp only[go_sem,seval,Ew,f0,f1,hp,hc];refine Af (w6 48) ?_;rw[l48];simp only[go_sem,seval,Ew,f0,hp,hc];refine Af (v9 48) ?_;rw[d48];simp only[go_sem,seval];refine Cv 2 (Bd ?_);simp only[go_sem,seval,Ew,f0,f1,hp,hc];refine Af (v9 48) ?_;rw[d48];simp only[go_sem,seval,pw]
    by_cases Ag:p+1<l.length
    ·have hc2:=w4 Ag;unfold Qk at hc2;rw[q_kz] at hc2;have f3:((p+1:Nat):Int)<(l.length:Int):=by omega
     refine Bd ?_;simp only[go_sem,seval,Ew,g3,f3,Ag];refine Af (v9 _) ?_;rw[hc2.2];simp only[go_sem,seval,Ew,f0,g1,g2,g3,w2,Dj,g4];refine Af Ag4 ?_;simp only[go_sem,seval,Ew,f0,g1,g2,g3,w2,Dj,g4,f3,Ag];refine Af (w6 _) ?_;rw[hc2.1];simp only[go_sem,seval,Ew,f0,g1,g2,g3,w2,Dj,g4]
     try refine⟨⟨by simp,by omega,by omega⟩,?_⟩
     try simp only[go_sem,seval,pw]
     first|refine⟨(d::(dn++[t]),p+1),⟨by simp only;omega,r,by simp[r1],h⟩,?_⟩|refine⟨([t],p+1),⟨by simp only;omega,r,by simp[r1],h⟩,?_⟩
     rw[Uv];simp only[q_h,q_ku,q_i,kt,q_jr,q_jk,List.length_nil,q_g,q_jg]
     first|exact Bk (by simp[Ba])|exact Fp 2 (by simp[Ba]) (by simp[Hr]) (by simp[Cx]) (by simp)
    ·have f3:¬((p+1:Nat):Int)<(l.length:Int):=by omega
     refine Bd ?_;simp only[go_sem,seval,f3,f0,g1,g2,g3,w2,Dj,g4];refine Af Ag4 ?_;simp only[go_sem,seval,Ew,f0,g1,g2,g3,w2,Dj,g4,f3]
     try refine⟨⟨by simp,by omega,by omega⟩,?_⟩
     try simp only[go_sem,seval,pw]
     first|refine⟨(d::(dn++[t]),p+1),⟨by simp only;omega,r,by simp[r1],h⟩,?_⟩|refine⟨([t],p+1),⟨by simp only;omega,r,by simp[r1],h⟩,?_⟩
     rw[Uv];simp only[q_h,q_ku,q_i,kt,q_jr,q_jk,List.length_nil,q_g,q_jg]
     first|exact Bk (by simp[Ba])|exact Fp 2 (by simp[Ba]) (by simp[Hr]) (by simp[Cx]) (by simp)
def Bjo{P:UInt8->Bool}(d:UInt8):∀(r:By),(∀q,q<(r.takeWhile P).length->P (r.getD q d)=true)/\((r.takeWhile P).length<r.length->P (r.getD (r.takeWhile P).length d)=false)/\r.dropWhile P=r.drop (r.takeWhile P).length/\r.takeWhile P=r.take (r.takeWhile P).length/\(r.takeWhile P).length<=r.length:=by
 intro r
 induction r with
 |nil=>simp
 |cons c r ih=>
  obtain⟨i1,i2,i3,i4,i5⟩:=ih;cases hc:P c with
  |false=>simp[List.takeWhile_cons,List.dropWhile_cons,hc]
  |true=>
   simp only[List.takeWhile_cons,List.dropWhile_cons,hc,if_true,q_jk,List.drop_succ_cons,List.take_succ_cons];refine⟨fun q hq=>?_,fun h=>?_,i3,by rw[<-i4],by omega⟩
   ·cases q with
    |zero=>simpa using hc
    |succ q=>simpa using i1 q (by omega)
   ·simpa using i2 (by omega)
def Ac4{l:By}{p q:Nat}{r:By}(h:r=l.drop p):r.getD q 0=l.getD (p+q) 0:=by
 subst h;simp[q_j,q_kl]
def Bb6(l:By):∀(f p:Nat) (r:By) (ts:List Tok),Ir f p r=some ts->r=l.drop p->p<=l.length->Lx l p ts:=by
 intro f
 induction f with
 |zero=>intro p r ts h;simp[Ir] at h
 |succ f ih=>
  intro p r ts h hr hp;cases r with
  |nil=>
   simp only[Ir,q_b] at h;subst h;have:p=l.length:=by
    have:=congrArg List.length hr;simp at this;omega
   subst this;exact .nil
  |cons c r=>
   have Ag:p<l.length:=by
    have:=congrArg List.length hr;simp at this;omega
   have hc:l.getD p 0=c:=by rw[<-q_jp p,<-Ac4 hr];rfl
   have Gk:chN l p=c.toNat:=by unfold chN;rw[hc]
   have Cq:r=l.drop (p+1):=by
    have:=congrArg (List.drop 1) hr;rw[List.drop_drop] at this;exact this
   have Sg:Hr l p (p+1)=[c]:=by rw[Xn Ag,hc]
   unfold Ir at h;split at h
   ·rename_i c1;exact .sp Ag (by rw[Gk,c1]) (ih _ _ _ h Cq (by omega))
   split at h
   ·rename_i c1;cases hq:Ir f (p+1) r with
    |none=>rw[hq] at h;cases h
    |some ts'=>
     rw[hq] at h;simp only[q_jh,q_b] at h;subst h;rw[<-Sg];exact .tok (.inl ⟨rfl,by rw[Gk,c1],rfl,Ag⟩) (ih _ _ _ hq Cq (by omega))
   split at h
   ·rename_i c1;cases hq:Ir f (p+1) r with
    |none=>rw[hq] at h;cases h
    |some ts'=>
     rw[hq] at h;simp only[q_jh,q_b] at h;subst h;rw[<-Sg];exact .tok (.inr (.inl ⟨rfl,by rw[Gk,c1],rfl,Ag⟩)) (ih _ _ _ hq Cq (by omega))
   split at h
   ·rename_i c1;split at h
    ·rename_i c2;obtain⟨i1,i2,i3,i4,i5⟩:=Bjo (P:=Oz) 0 r;have hrl:r.length=l.length-(p+1):=by rw[Cq,q_kh]
     cases hq:Ir f (p+1+(r.takeWhile Oz).length) (r.dropWhile Oz) with
     |none=>rw[hq] at h;cases h
     |some ts'=>
      rw[hq] at h;simp only[q_jh,q_b] at h;subst h;have hx:=ih _ _ _ hq (by rw[i3,Cq,List.drop_drop,<-Cq]) (by omega);have hcut2:Hr l p (p+1+(r.takeWhile Oz).length)=c::r.takeWhile Oz:=by
       unfold Hr;rw[<-hr,show p+1+(r.takeWhile Oz).length-p=(r.takeWhile Oz).length+1 by omega,List.take_succ_cons,<-i4]
      rw[<-hcut2];refine .tok (.inr (.inr (.inl ⟨rfl,by rw[Gk];exact c1,⟨by omega,by omega,fun q h1 h2=>?_,fun h1=>?_⟩,by omega⟩))) hx
      ·have:=i1 (q-(p+1)) (by omega);rw[Ac4 Cq,show p+1+(q-(p+1))=q by omega] at this;exact this
      ·have:=i2 (by omega);rw[Ac4 Cq] at this;exact this
    ·cases h
   split at h
   ·rename_i c1;cases r with
    |nil=>
     simp only[q_b] at h;subst h;have hl:l.length=p+1:=by
      have:=congrArg List.length Cq;simp at this;omega
     rw[<-Sg];refine .tok (.inr (.inr (.inr ⟨rfl,by rw[Gk,c1],⟨by omega,by omega,fun q h1 h2=>by omega,fun h1=>by omega⟩,rfl⟩))) ?_;rw[<-hl];exact .nil
    |cons d r=>
     simp only at h;split at h
     ·cases h
     ·rename_i c2;have hd:Qk l (p+1)=false:=by
       have:=Ac4 (q:=0) Cq;have e:l.getD (p+1) 0=d:=this.symm;unfold Qk chN;rw[e];cases hw:Oz d with
       |true=>exact absurd hw c2
       |false=>exact hw
      cases hq:Ir f (p+1) (d::r) with
      |none=>rw[hq] at h;cases h
      |some ts'=>
       rw[hq] at h;simp only[q_jh,q_b] at h;subst h;rw[<-Sg];exact .tok (.inr (.inr (.inr ⟨rfl,by rw[Gk,c1],⟨by omega,by omega,fun q h1 h2=>by omega,fun _=>hd⟩,rfl⟩))) (ih _ _ _ hq Cq (by omega))
   ·cases h
def Ajr{l:By}{ts:List Tok}(h:Ir (l.length+1) 0 l=some ts):Lx l 0 ts:=Bb6 l _ 0 l ts h rfl (Nat.zero_le _)
def Abn{l:By}{p:Nat}{ts:List Tok}(h:Lx l p ts):ts.length+p<=l.length:=by
 induction h with
 |nil=>simp
 |sp hp _ _ ih=>omega
 |tok ht _ ih=>have:=Af7 ht;simp only[q_jk];omega
def rdR(L:List Tok)(k e:Nat)(nm:SV)(i j:Nat):List SV:=[.dsl 3 (L.map Fx),.int .i64 k,.int .i64 e,nm,.int .i64 i,.int .i64 j,.bool false,.int .i64 0]
structure At(L:List Tok)(k:Nat)(t:Tok)(r:List Tok):Prop where
 lt:k<L.length
 ltz:(k:Int)<(L.length:Int)
 ge:(0:Int)<=(k:Int)
 row:(L.map Fx)[k]?.getD []=[.int .i64 t.k,.str (bs t.w),.int .i64 t.p]
 nx:L.drop (k+1)=r
 w1:L.length<1000000000000->IntKind.i64.wrap ((k:Int)+1)=((k+1:Nat):Int)
 w2:L.length<1000000000000->IntKind.i64.wrap (((k+1:Nat):Int)-1)=(k:Int)
 nge:¬(k:Int) >= (L.length:Int)
 nle:¬(L.length:Int)<=(k:Int)
 big:L.length<1000000000000->(L.length<=140737488355328)=True
def Ei{L:List Tok}{k:Nat}{t:Tok}{r:List Tok}(h:L.drop k=t::r):At L k t r:=by
 have Ag:k<L.length:=by
  have:=congrArg List.length h;simp at this;omega
 have hk:L[k]?=some t:=by
  have:=congrArg (fun l=>l[0]?) h;simpa using this
 refine⟨Ag,by omega,by omega,by rw[q_ji,hk];rfl,?_,fun h=>by rw[w64 (by unfold fit;omega)];omega,fun h=>by rw[w64 (by unfold fit;omega)];omega,by omega,by omega,fun h=>by simp;omega⟩;have:=congrArg (List.drop 1) h
 rwa [List.drop_drop] at this
def Aqz(n:Int):(n != n)=false:=by simp
def Ka{L:List Tok}{k e i j:Nat}{nm:SV}{G:GV}{t:Tok}{r:List Tok}(h:L.drop k=t::r)(hL:L.length<1000000000000) :
  Am 132 (rdR L k e nm i j::G) [.gp 0 0,.int .i64 t.k] (.ret (.str (bs t.w))) (rdR L (k+1) e nm i j::G):=by
 obtain⟨a1,a2,a3,a4,a5,a6,a7,a8,a9,a10⟩:=Ei h;have a6:=a6 hL;have a7:=a7 hL;have a10:=a10 hL;refine Bh mixed Tryz.func132 tr132 ?_;unfold rdR;simp only[go_sem,seval,a1,a2,a3,a4,a6,a7,a8,a9,a10,forall_const,q_g,Aqz]
def Ajm{t:Tok}{le:LE}(h:Kk t=some le):(t.k=4/\t.w=[48]/\le=.z)\/(t.k=3/\t.w=[105]/\le=.i)\/(t.k=3/\t.w=[106]/\le=.j):=by
 obtain⟨k,w,p⟩:=t;unfold Kk at h;simp only at h |-;split at h
 ·rename_i hk;split at h
  ·rename_i hw;simp only[q_b] at h;exact .inl ⟨hk,by simpa using hw,h.symm⟩
  ·cases h
 ·split at h
  ·rename_i hk;split at h
   ·rename_i hw;simp only[q_b] at h;exact .inr (.inl ⟨hk,by simpa using hw,h.symm⟩)
   ·split at h
    ·rename_i hw;simp only[q_b] at h;exact .inr (.inr ⟨hk,by simpa using hw,h.symm⟩)
    ·cases h
  ·cases h
def b105:(([105]:By)==[105])=true:=by decide
def b106:(([106]:By)==[105])=false:=by decide
def b1066:(([106]:By)==[106])=true:=by decide
def bsuc:(([115,117,99]:By)==[115,117,99])=true:=by decide
def bmax:(([109,97,120]:By)==[115,117,99])=false:=by decide
def bmax2:(([109,97,120]:By)==[109,97,120])=true:=by decide
def Adn{L:List Tok}{k e i j:Nat}{nm:SV}{G:GV}{t:Tok}{r:List Tok}{le:LE}(h:L.drop k=t::r)(hL:L.length<1000000000000)(hi:i<1000)(hj:j<1000)(hle:Kk t=some le) :
  Am 137 (rdR L k e nm i j::G) [.gp 0 0] (.ret (.int .i64 (le.ev i j))) (rdR L (k+1) e nm i j::G):=by
 obtain⟨a1,a2,a3,a4,a5,a6,a7,a8,a9,a10⟩:=Ei h;have a6:=a6 hL;have a7:=a7 hL;have a10:=a10 hL;have i1:¬(i:Int) > 1000:=by omega
 have i2:¬1000<(i:Int):=by omega
 have j1:¬(j:Int) > 1000:=by omega
 have j2:¬1000<(j:Int):=by omega
 obtain⟨out,ho⟩:∃out,out=HOut.ret (.int .i64 (le.ev i j)):=⟨_,rfl⟩
 rw[<-ho];refine Bh mixed Tryz.func137 tr137 ?_;unfold rdR;rcases Ajm hle with⟨hk,hw,rfl⟩|⟨hk,hw,rfl⟩|⟨hk,hw,rfl⟩
 ·rw[hk,hw] at a4;simp only[go_sem,seval,a1,a2,a3,a4,a6,a7,a8,a9,a10,forall_const,q_g];refine Af Ag1 ?_;subst ho;simp only[go_sem,seval,a1,a2,a3,a4,a6,a7,a8,a9,a10,forall_const,q_g,LE.ev]
 ·rw[hk,hw] at a4;simp only[go_sem,seval,a1,a2,a3,a4,a6,a7,a8,a9,a10,forall_const,q_g,b105,i1,i2];subst ho;simp only[go_sem,seval,LE.ev]
 ·rw[hk,hw] at a4;simp only[go_sem,seval,a1,a2,a3,a4,a6,a7,a8,a9,a10,forall_const,q_g,b106,b1066,j1,j2];subst ho;simp only[go_sem,seval,LE.ev]
def Apc{L:List Tok}{k e i j:Nat}{nm:SV}{G:GV}{t u z:Tok}{r:List Tok}{le:LE}(h:L.drop k=t::u::z::r)(hL:L.length<1000000000000)(hi:i<1000)(hj:j<1000)(hk:t.k=3)(hw:t.w=[115,117,99])(hle:Kk u=some le)(hz:z.k=2)(hb:le.ev i j<1000) :
  Am 141 (rdR L k e nm i j::G) [.gp 0 0] (.ret (.int .i64 ((le.ev i j+1:Nat):Int))) (rdR L (k+1+1+1) e nm i j::G):=by
 obtain⟨a1,a2,a3,a4,a5,a6,a7,a8,a9,a10⟩:=Ei h;have a6:=a6 hL;have a7:=a7 hL;have a10:=a10 hL;have h2:=Ei a5;obtain⟨out,ho⟩:∃out,out=HOut.ret (.int .i64 ((le.ev i j+1:Nat):Int)):=⟨_,rfl⟩
 rw[<-ho];refine Bh mixed Tryz.func141 tr141 ?_;rw[hk,hw] at a4;have hl:=Adn (e:=e) (nm:=nm) (G:=G) a5 hL hi hj hle;have hn:=Ka (e:=e) (nm:=nm) (i:=i) (j:=j) (G:=G) h2.nx hL;rw[hz] at hn;unfold rdR at hl hn |-
 repeat' first
 |simp only[go_sem,seval,a1,a2,a3,a4,a6,a7,a8,a9,a10,forall_const,q_g,bsuc]
 |refine Ai hl ?_
 |refine Ai hn ?_
 subst ho;have hw2:IntKind.i64.wrap ((le.ev i j:Int)+1)=((le.ev i j+1:Nat):Int):=by rw[w64 (by unfold fit;omega)];omega
 simp only[go_sem,seval,hw2]
def A8t{L:List Tok}{k e i j:Nat}{nm:SV}{G:GV}{t u v z:Tok}{r:List Tok}{le lf:LE}(h:L.drop k=t::u::v::z::r)(hL:L.length<1000000000000)(hi:i<1000)(hj:j<1000)(hk:t.k=3)(hw:t.w=[109,97,120])(hle:Kk u=some le)(hlf:Kk v=some lf)(hz:z.k=2) :
  Am 141 (rdR L k e nm i j::G) [.gp 0 0] (.ret (.int .i64 ((max (le.ev i j) (lf.ev i j):Nat):Int))) (rdR L (k+1+1+1+1) e nm i j::G):=by
 obtain⟨a1,a2,a3,a4,a5,a6,a7,a8,a9,a10⟩:=Ei h;have a6:=a6 hL;have a7:=a7 hL;have a10:=a10 hL;have h2:=Ei a5;have h3:=Ei h2.nx;obtain⟨out,ho⟩:∃out,out=HOut.ret (.int .i64 ((max (le.ev i j) (lf.ev i j):Nat):Int)):=⟨_,rfl⟩
 rw[<-ho];refine Bh mixed Tryz.func141 tr141 ?_;rw[hk,hw] at a4;have hl:=Adn (e:=e) (nm:=nm) (G:=G) a5 hL hi hj hle;have hm:=Adn (e:=e) (nm:=nm) (G:=G) h2.nx hL hi hj hlf;have hn:=Ka (e:=e) (nm:=nm) (i:=i) (j:=j) (G:=G) h3.nx hL;rw[hz] at hn;unfold rdR at hl hm hn |-
 repeat' first
 |simp only[go_sem,seval,a1,a2,a3,a4,a6,a7,a8,a9,a10,forall_const,q_g,bmax,bmax2]
 |refine Ai hl ?_
 |refine Ai hm ?_
 |refine Ai hn ?_
 subst ho;simp only[go_sem,seval];congr 1;split<;>omega
def Ry{α:Type}{x y:α}{l r:List Tok}(h:Rx x l=some (y,r)):∃t,l=t::r/\t.k=2/\x=y:=by
 unfold Rx at h;split at h
 ·split at h
  ·rename_i hk;simp only[q_b,Prod.mk.injEq] at h;exact⟨_,by rw[h.2],hk,h.1⟩
  ·cases h
 ·cases h
def Bl{L:List Tok}{k:Nat}{t:Tok}{r:List Tok}(h:L.drop k=t::r):L.drop (k+1)=r:=(Ei h).nx
def Ah1{L:List Tok}{k e i j:Nat}{nm:SV}{G:GV}{ts r:List Tok}{le:LE}(h:L.drop k=ts)(hL:L.length<1000000000000)(hi:i<1000)(hj:j<1000)(hle:Sv ts=some (le,r)) :
  ∃k',L.drop k'=r/\Am 137 (rdR L k e nm i j::G) [.gp 0 0] (.ret (.int .i64 (le.ev i j))) (rdR L k' e nm i j::G):=by
 cases ts with
 |nil=>cases hle
 |cons t ts=>
 unfold Sv at hle;dsimp only at hle;split at hle
 ·rename_i hk;have key:∀(k':Nat),Am 141 (rdR L (k+1) e nm i j::G) [.gp 0 0] (.ret (.int .i64 (le.ev i j))) (rdR L k' e nm i j::G)->(le.ev i j<=1000) ->
    Am 137 (rdR L k e nm i j::G) [.gp 0 0] (.ret (.int .i64 (le.ev i j))) (rdR L k' e nm i j::G):=by
   intro k' hm hb;obtain⟨a1,a2,a3,a4,a5,a6,a7,a8,a9,a10⟩:=Ei h;have a6:=a6 hL;have a7:=a7 hL;have a10:=a10 hL;have i1:¬(le.ev i j:Int) > 1000:=by omega
   have i2:¬1000<(le.ev i j:Int):=by omega
   obtain⟨out,ho⟩:∃out,out=HOut.ret (.int .i64 (le.ev i j)):=⟨_,rfl⟩
   rw[<-ho];refine Bh mixed Tryz.func137 tr137 ?_;rw[hk] at a4;unfold rdR at hm |-;simp only[go_sem,seval,a1,a2,a3,a4,a6,a7,a8,a9,a10,forall_const,q_g];refine Ai hm ?_;simp only[go_sem,seval,i1,i2];subst ho;simp only[go_sem,seval]
  have Qx:=Bl h
  match ts,hle with
  |[],hle=>cases hle
  |[u],hle=>cases hle
  |u::x::r1,hle=>
   dsimp only at hle;split at hle
   ·rename_i hu;split at hle
    ·rename_i hs;have hs:u.w=[115,117,99]:=by simpa using hs
     split at hle
     ·rename_i hx;obtain⟨z,Fl,Du,Mn⟩:=Ry hle;subst Mn Fl;exact⟨_,Bl (Bl (Bl Qx)),key _ (Apc Qx hL hi hj hu hs hx Du hi) (by simp only[LE.ev];omega)⟩
     ·rename_i hx;obtain⟨z,Fl,Du,Mn⟩:=Ry hle;subst Mn Fl;exact⟨_,Bl (Bl (Bl Qx)),key _ (Apc Qx hL hi hj hu hs hx Du hj) (by simp only[LE.ev];omega)⟩
     ·cases hle
    ·split at hle
     ·rename_i hs;have hs:u.w=[109,97,120]:=by simpa using hs
      match r1,hle with
      |[],hle=>cases hle
      |y::r2,hle=>
       dsimp only at hle;split at hle
       ·rename_i hx hy;obtain⟨z,Fl,Du,Mn⟩:=Ry hle;subst Mn Fl;exact⟨_,Bl (Bl (Bl (Bl Qx))),key _ (A8t Qx hL hi hj hu hs hx hy Du) (by simp only[LE.ev];omega)⟩
       ·cases hle
     ·cases hle
   ·cases hle
 ·cases ha:Kk t with
  |none=>rw[ha] at hle;cases hle
  |some le'=>
   rw[ha] at hle;simp only[q_jh,q_b,Prod.mk.injEq] at hle;obtain⟨rfl,rfl⟩:=hle;exact⟨_,Bl h,Adn h hL hi hj ha⟩
def Azr:Con 133 [.str (bs [115,111,114,116])] (.tup [.int .i64 1,.str (bs [76])]):=by
 refine Au mixed Tryz.func133 tr133 ?_;simp only[go_sem,seval,(show (([115,111,114,116]:By)==[115,111,114,116])=true by decide)]
def A0e:Con 136 [.str (bs [80,105])] (.tup [.int .i64 13,.str (bs [120,116,98])]):=by
 refine Au mixed Tryz.func136 tr136 ?_;simp only[go_sem,seval,(show (([80,105]:By)==[80,105])=true by decide)]
def Azn:Con 133 [.str (bs [80,105])] (.tup [.int .i64 13,.str (bs [120,116,98])]):=by
 refine Au mixed Tryz.func133 tr133 ?_;simp only[go_sem,seval,(show (([80,105]:By)==[115,111,114,116])=false by decide),(show (([80,105]:By)==[112,105])=false by decide),(show (([80,105]:By)==[108,97,109])=false by decide),(show (([80,105]:By)==[97,112,112])=false by decide),(show (([80,105]:By)==[115,105,103])=false by decide),(show (([80,105]:By)==[112,97,105,114])=false by decide),(show (([80,105]:By)==[102,115,116])=false by decide),(show (([80,105]:By)==[115,110,100])=false by decide),(show (([80,105]:By)==[101,113])=false by decide),(show (([80,105]:By)==[114,101,102,108])=false by decide),(show (([80,105]:By)==[116,114])=false by decide)];refine Af A0e ?_;simp only[go_sem,seval]
def A0c:Con 136 [.str (bs [76,97,109])] (.tup [.int .i64 14,.str (bs [120,116,98])]):=by
 refine Au mixed Tryz.func136 tr136 ?_;simp only[go_sem,seval,(show (([76,97,109]:By)==[80,105])=false by decide),(show (([76,97,109]:By)==[76,97,109])=true by decide)]
def Azl:Con 133 [.str (bs [76,97,109])] (.tup [.int .i64 14,.str (bs [120,116,98])]):=by
 refine Au mixed Tryz.func133 tr133 ?_;simp only[go_sem,seval,(show (([76,97,109]:By)==[115,111,114,116])=false by decide),(show (([76,97,109]:By)==[112,105])=false by decide),(show (([76,97,109]:By)==[108,97,109])=false by decide),(show (([76,97,109]:By)==[97,112,112])=false by decide),(show (([76,97,109]:By)==[115,105,103])=false by decide),(show (([76,97,109]:By)==[112,97,105,114])=false by decide),(show (([76,97,109]:By)==[102,115,116])=false by decide),(show (([76,97,109]:By)==[115,110,100])=false by decide),(show (([76,97,109]:By)==[101,113])=false by decide),(show (([76,97,109]:By)==[114,101,102,108])=false by decide),(show (([76,97,109]:By)==[116,114])=false by decide)];refine Af A0c ?_;simp only[go_sem,seval]
def Az8:Con 136 [.str (bs [65,112,112])] (.tup [.int .i64 15,.str (bs [116,116])]):=by
 refine Au mixed Tryz.func136 tr136 ?_;simp only[go_sem,seval,(show (([65,112,112]:By)==[80,105])=false by decide),(show (([65,112,112]:By)==[76,97,109])=false by decide),(show (([65,112,112]:By)==[65,112,112])=true by decide)]
def Azh:Con 133 [.str (bs [65,112,112])] (.tup [.int .i64 15,.str (bs [116,116])]):=by
 refine Au mixed Tryz.func133 tr133 ?_;simp only[go_sem,seval,(show (([65,112,112]:By)==[115,111,114,116])=false by decide),(show (([65,112,112]:By)==[112,105])=false by decide),(show (([65,112,112]:By)==[108,97,109])=false by decide),(show (([65,112,112]:By)==[97,112,112])=false by decide),(show (([65,112,112]:By)==[115,105,103])=false by decide),(show (([65,112,112]:By)==[112,97,105,114])=false by decide),(show (([65,112,112]:By)==[102,115,116])=false by decide),(show (([65,112,112]:By)==[115,110,100])=false by decide),(show (([65,112,112]:By)==[101,113])=false by decide),(show (([65,112,112]:By)==[114,101,102,108])=false by decide),(show (([65,112,112]:By)==[116,114])=false by decide)];refine Af Az8 ?_;simp only[go_sem,seval]
def A0g:Con 136 [.str (bs [83,105,103])] (.tup [.int .i64 16,.str (bs [120,116,98])]):=by
 refine Au mixed Tryz.func136 tr136 ?_;simp only[go_sem,seval,(show (([83,105,103]:By)==[80,105])=false by decide),(show (([83,105,103]:By)==[76,97,109])=false by decide),(show (([83,105,103]:By)==[65,112,112])=false by decide),(show (([83,105,103]:By)==[83,105,103])=true by decide)]
def Azp:Con 133 [.str (bs [83,105,103])] (.tup [.int .i64 16,.str (bs [120,116,98])]):=by
 refine Au mixed Tryz.func133 tr133 ?_;simp only[go_sem,seval,(show (([83,105,103]:By)==[115,111,114,116])=false by decide),(show (([83,105,103]:By)==[112,105])=false by decide),(show (([83,105,103]:By)==[108,97,109])=false by decide),(show (([83,105,103]:By)==[97,112,112])=false by decide),(show (([83,105,103]:By)==[115,105,103])=false by decide),(show (([83,105,103]:By)==[112,97,105,114])=false by decide),(show (([83,105,103]:By)==[102,115,116])=false by decide),(show (([83,105,103]:By)==[115,110,100])=false by decide),(show (([83,105,103]:By)==[101,113])=false by decide),(show (([83,105,103]:By)==[114,101,102,108])=false by decide),(show (([83,105,103]:By)==[116,114])=false by decide)];refine Af A0g ?_;simp only[go_sem,seval]
def A0d:Con 136 [.str (bs [80,97,105,114])] (.tup [.int .i64 17,.str (bs [120,116,98,116,116])]):=by
 refine Au mixed Tryz.func136 tr136 ?_;simp only[go_sem,seval,(show (([80,97,105,114]:By)==[80,105])=false by decide),(show (([80,97,105,114]:By)==[76,97,109])=false by decide),(show (([80,97,105,114]:By)==[65,112,112])=false by decide),(show (([80,97,105,114]:By)==[83,105,103])=false by decide),(show (([80,97,105,114]:By)==[80,97,105,114])=true by decide)]
def Azm:Con 133 [.str (bs [80,97,105,114])] (.tup [.int .i64 17,.str (bs [120,116,98,116,116])]):=by
 refine Au mixed Tryz.func133 tr133 ?_;simp only[go_sem,seval,(show (([80,97,105,114]:By)==[115,111,114,116])=false by decide),(show (([80,97,105,114]:By)==[112,105])=false by decide),(show (([80,97,105,114]:By)==[108,97,109])=false by decide),(show (([80,97,105,114]:By)==[97,112,112])=false by decide),(show (([80,97,105,114]:By)==[115,105,103])=false by decide),(show (([80,97,105,114]:By)==[112,97,105,114])=false by decide),(show (([80,97,105,114]:By)==[102,115,116])=false by decide),(show (([80,97,105,114]:By)==[115,110,100])=false by decide),(show (([80,97,105,114]:By)==[101,113])=false by decide),(show (([80,97,105,114]:By)==[114,101,102,108])=false by decide),(show (([80,97,105,114]:By)==[116,114])=false by decide)];refine Af A0d ?_;simp only[go_sem,seval]
def A0a:Con 136 [.str (bs [70,115,116])] (.tup [.int .i64 18,.str (bs [116])]):=by
 refine Au mixed Tryz.func136 tr136 ?_;simp only[go_sem,seval,(show (([70,115,116]:By)==[80,105])=false by decide),(show (([70,115,116]:By)==[76,97,109])=false by decide),(show (([70,115,116]:By)==[65,112,112])=false by decide),(show (([70,115,116]:By)==[83,105,103])=false by decide),(show (([70,115,116]:By)==[80,97,105,114])=false by decide),(show (([70,115,116]:By)==[70,115,116])=true by decide)]
def Azj:Con 133 [.str (bs [70,115,116])] (.tup [.int .i64 18,.str (bs [116])]):=by
 refine Au mixed Tryz.func133 tr133 ?_;simp only[go_sem,seval,(show (([70,115,116]:By)==[115,111,114,116])=false by decide),(show (([70,115,116]:By)==[112,105])=false by decide),(show (([70,115,116]:By)==[108,97,109])=false by decide),(show (([70,115,116]:By)==[97,112,112])=false by decide),(show (([70,115,116]:By)==[115,105,103])=false by decide),(show (([70,115,116]:By)==[112,97,105,114])=false by decide),(show (([70,115,116]:By)==[102,115,116])=false by decide),(show (([70,115,116]:By)==[115,110,100])=false by decide),(show (([70,115,116]:By)==[101,113])=false by decide),(show (([70,115,116]:By)==[114,101,102,108])=false by decide),(show (([70,115,116]:By)==[116,114])=false by decide)];refine Af A0a ?_;simp only[go_sem,seval]
def A0h:Con 136 [.str (bs [83,110,100])] (.tup [.int .i64 19,.str (bs [116])]):=by
 refine Au mixed Tryz.func136 tr136 ?_;simp only[go_sem,seval,(show (([83,110,100]:By)==[80,105])=false by decide),(show (([83,110,100]:By)==[76,97,109])=false by decide),(show (([83,110,100]:By)==[65,112,112])=false by decide),(show (([83,110,100]:By)==[83,105,103])=false by decide),(show (([83,110,100]:By)==[80,97,105,114])=false by decide),(show (([83,110,100]:By)==[70,115,116])=false by decide),(show (([83,110,100]:By)==[83,110,100])=true by decide)]
def Azq:Con 133 [.str (bs [83,110,100])] (.tup [.int .i64 19,.str (bs [116])]):=by
 refine Au mixed Tryz.func133 tr133 ?_;simp only[go_sem,seval,(show (([83,110,100]:By)==[115,111,114,116])=false by decide),(show (([83,110,100]:By)==[112,105])=false by decide),(show (([83,110,100]:By)==[108,97,109])=false by decide),(show (([83,110,100]:By)==[97,112,112])=false by decide),(show (([83,110,100]:By)==[115,105,103])=false by decide),(show (([83,110,100]:By)==[112,97,105,114])=false by decide),(show (([83,110,100]:By)==[102,115,116])=false by decide),(show (([83,110,100]:By)==[115,110,100])=false by decide),(show (([83,110,100]:By)==[101,113])=false by decide),(show (([83,110,100]:By)==[114,101,102,108])=false by decide),(show (([83,110,100]:By)==[116,114])=false by decide)];refine Af A0h ?_;simp only[go_sem,seval]
def Az9:Con 136 [.str (bs [69,113])] (.tup [.int .i64 20,.str (bs [116,116,116])]):=by
 refine Au mixed Tryz.func136 tr136 ?_;simp only[go_sem,seval,(show (([69,113]:By)==[80,105])=false by decide),(show (([69,113]:By)==[76,97,109])=false by decide),(show (([69,113]:By)==[65,112,112])=false by decide),(show (([69,113]:By)==[83,105,103])=false by decide),(show (([69,113]:By)==[80,97,105,114])=false by decide),(show (([69,113]:By)==[70,115,116])=false by decide),(show (([69,113]:By)==[83,110,100])=false by decide),(show (([69,113]:By)==[69,113])=true by decide)]
def Azi:Con 133 [.str (bs [69,113])] (.tup [.int .i64 20,.str (bs [116,116,116])]):=by
 refine Au mixed Tryz.func133 tr133 ?_;simp only[go_sem,seval,(show (([69,113]:By)==[115,111,114,116])=false by decide),(show (([69,113]:By)==[112,105])=false by decide),(show (([69,113]:By)==[108,97,109])=false by decide),(show (([69,113]:By)==[97,112,112])=false by decide),(show (([69,113]:By)==[115,105,103])=false by decide),(show (([69,113]:By)==[112,97,105,114])=false by decide),(show (([69,113]:By)==[102,115,116])=false by decide),(show (([69,113]:By)==[115,110,100])=false by decide),(show (([69,113]:By)==[101,113])=false by decide),(show (([69,113]:By)==[114,101,102,108])=false by decide),(show (([69,113]:By)==[116,114])=false by decide)];refine Af Az9 ?_;simp only[go_sem,seval]
def A0f:Con 136 [.str (bs [82,101,102,108])] (.tup [.int .i64 21,.str (bs [116,116])]):=by
 refine Au mixed Tryz.func136 tr136 ?_;simp only[go_sem,seval,(show (([82,101,102,108]:By)==[80,105])=false by decide),(show (([82,101,102,108]:By)==[76,97,109])=false by decide),(show (([82,101,102,108]:By)==[65,112,112])=false by decide),(show (([82,101,102,108]:By)==[83,105,103])=false by decide),(show (([82,101,102,108]:By)==[80,97,105,114])=false by decide),(show (([82,101,102,108]:By)==[70,115,116])=false by decide),(show (([82,101,102,108]:By)==[83,110,100])=false by decide),(show (([82,101,102,108]:By)==[69,113])=false by decide),(show (([82,101,102,108]:By)==[82,101,102,108])=true by decide)]
def Azo:Con 133 [.str (bs [82,101,102,108])] (.tup [.int .i64 21,.str (bs [116,116])]):=by
 refine Au mixed Tryz.func133 tr133 ?_;simp only[go_sem,seval,(show (([82,101,102,108]:By)==[115,111,114,116])=false by decide),(show (([82,101,102,108]:By)==[112,105])=false by decide),(show (([82,101,102,108]:By)==[108,97,109])=false by decide),(show (([82,101,102,108]:By)==[97,112,112])=false by decide),(show (([82,101,102,108]:By)==[115,105,103])=false by decide),(show (([82,101,102,108]:By)==[112,97,105,114])=false by decide),(show (([82,101,102,108]:By)==[102,115,116])=false by decide),(show (([82,101,102,108]:By)==[115,110,100])=false by decide),(show (([82,101,102,108]:By)==[101,113])=false by decide),(show (([82,101,102,108]:By)==[114,101,102,108])=false by decide),(show (([82,101,102,108]:By)==[116,114])=false by decide)];refine Af A0f ?_;simp only[go_sem,seval]
def A0b:Con 136 [.str (bs [74])] (.tup [.int .i64 22,.str (bs [116,116,121,101,80,116,116,116])]):=by
 refine Au mixed Tryz.func136 tr136 ?_;simp only[go_sem,seval,(show (([74]:By)==[80,105])=false by decide),(show (([74]:By)==[76,97,109])=false by decide),(show (([74]:By)==[65,112,112])=false by decide),(show (([74]:By)==[83,105,103])=false by decide),(show (([74]:By)==[80,97,105,114])=false by decide),(show (([74]:By)==[70,115,116])=false by decide),(show (([74]:By)==[83,110,100])=false by decide),(show (([74]:By)==[69,113])=false by decide),(show (([74]:By)==[82,101,102,108])=false by decide),(show (([74]:By)==[74])=true by decide)]
def Azk:Con 133 [.str (bs [74])] (.tup [.int .i64 22,.str (bs [116,116,121,101,80,116,116,116])]):=by
 refine Au mixed Tryz.func133 tr133 ?_;simp only[go_sem,seval,(show (([74]:By)==[115,111,114,116])=false by decide),(show (([74]:By)==[112,105])=false by decide),(show (([74]:By)==[108,97,109])=false by decide),(show (([74]:By)==[97,112,112])=false by decide),(show (([74]:By)==[115,105,103])=false by decide),(show (([74]:By)==[112,97,105,114])=false by decide),(show (([74]:By)==[102,115,116])=false by decide),(show (([74]:By)==[115,110,100])=false by decide),(show (([74]:By)==[101,113])=false by decide),(show (([74]:By)==[114,101,102,108])=false by decide),(show (([74]:By)==[116,114])=false by decide)];refine Af A0b ?_;simp only[go_sem,seval]
def A0i:Con 136 [.str (bs [117,115,101])] (.tup [.int .i64 23,.str (bs [83,76,77])]):=by
 refine Au mixed Tryz.func136 tr136 ?_;simp only[go_sem,seval,(show (([117,115,101]:By)==[80,105])=false by decide),(show (([117,115,101]:By)==[76,97,109])=false by decide),(show (([117,115,101]:By)==[65,112,112])=false by decide),(show (([117,115,101]:By)==[83,105,103])=false by decide),(show (([117,115,101]:By)==[80,97,105,114])=false by decide),(show (([117,115,101]:By)==[70,115,116])=false by decide),(show (([117,115,101]:By)==[83,110,100])=false by decide),(show (([117,115,101]:By)==[69,113])=false by decide),(show (([117,115,101]:By)==[82,101,102,108])=false by decide),(show (([117,115,101]:By)==[74])=false by decide),(show (([117,115,101]:By)==[117,115,101])=true by decide)]
def Azs:Con 133 [.str (bs [117,115,101])] (.tup [.int .i64 23,.str (bs [83,76,77])]):=by
 refine Au mixed Tryz.func133 tr133 ?_;simp only[go_sem,seval,(show (([117,115,101]:By)==[115,111,114,116])=false by decide),(show (([117,115,101]:By)==[112,105])=false by decide),(show (([117,115,101]:By)==[108,97,109])=false by decide),(show (([117,115,101]:By)==[97,112,112])=false by decide),(show (([117,115,101]:By)==[115,105,103])=false by decide),(show (([117,115,101]:By)==[112,97,105,114])=false by decide),(show (([117,115,101]:By)==[102,115,116])=false by decide),(show (([117,115,101]:By)==[115,110,100])=false by decide),(show (([117,115,101]:By)==[101,113])=false by decide),(show (([117,115,101]:By)==[114,101,102,108])=false by decide),(show (([117,115,101]:By)==[116,114])=false by decide)];refine Af A0i ?_;simp only[go_sem,seval]
def Ahg{w:By}{k:Nat}{s:By}:∀{l:List (By×Nat×By)},Vm w l=some (k,s)->(w,k,s)∈l:=by
 intro l
 induction l with
 |nil=>intro h;cases h
 |cons a l ih=>
  intro h;obtain⟨v,k',s'⟩:=a;rw[Vm] at h;split at h
  ·rename_i hv;cases h;have:v=w:=by simpa using hv
   subst this;exact List.mem_cons_self
  ·exact List.mem_cons_of_mem _ (ih h)
def Azg{w:By}{k:Nat}{s:By}(h:Vm w Vn=some (k,s)):Con 133 [.str (bs w)] (.tup [.int .i64 k,.str (bs s)]):=by
 have:=Ahg h;simp only[Vn,q_kb,q_kc,or_false,Prod.mk.injEq] at this;rcases this with⟨rfl,rfl,rfl⟩|⟨rfl,rfl,rfl⟩|⟨rfl,rfl,rfl⟩|⟨rfl,rfl,rfl⟩|⟨rfl,rfl,rfl⟩|⟨rfl,rfl,rfl⟩|⟨rfl,rfl,rfl⟩|⟨rfl,rfl,rfl⟩|⟨rfl,rfl,rfl⟩|⟨rfl,rfl,rfl⟩|⟨rfl,rfl,rfl⟩|⟨rfl,rfl,rfl⟩
 ·exact Azr
 ·exact Azn
 ·exact Azl
 ·exact Azh
 ·exact Azp
 ·exact Azm
 ·exact Azj
 ·exact Azq
 ·exact Azi
 ·exact Azo
 ·exact Azk
 ·exact Azs
def Xp{w:By}:∀{l:List By} {n:Nat},Lw w l=some n->l[n]?=some w/\∀m,m<n->∃v,l[m]?=some v/\(v==w)=false:=by
 intro l
 induction l with
 |nil=>intro n h;cases h
 |cons a l ih=>
  intro n h;rw[Lw] at h;split at h
  ·rename_i hv;cases h;have:a=w:=by simpa using hv
   subst this;exact⟨rfl,fun m hm=>by omega⟩
  ·rename_i hv;cases hq:Lw w l with
   |none=>rw[hq] at h;cases h
   |some q=>
    rw[hq,q_jh,q_b] at h;subst h;obtain⟨h1,h2⟩:=ih hq;refine⟨by simpa using h1,fun m hm=>?_⟩;cases m with
    |zero=>exact⟨a,rfl,by simpa using hv⟩
    |succ m=>
     obtain⟨v,h3,h4⟩:=h2 m (by omega);exact⟨v,by simpa using h3,h4⟩
def wdR(w:By):List SV:=[.str (bs w)]
def Azu:Con 142 [] (.dsl 1 (symsL.map wdR)):=by
 refine Au mixed Tryz.func142 tr142 ?_;simp only[go_sem,seval,symsL,q_h,q_i,wdR]
def A1u{w:By}{n:Nat}(h:Lw w symsL=some n):Con 139 [.str (bs w)] (.int .i64 ((n+1:Nat):Int)):=by
 obtain⟨h1,h2⟩:=Xp h;have Av:symsL.length=21:=rfl;have hn:=(q_jm.1 h1).1;refine Au mixed Tryz.func139 tr139 ?_;simp only[go_sem,seval];refine Af Azu ?_;have Cc:∀(m:Nat) v,symsL[m]?=some v->(symsL.map wdR)[m]?.getD []=[.str (bs v)]:=fun m v hv=>by rw[q_ji,hv];rfl
 generalize symsL=l at *
 simp only[go_sem,seval,q_g,Av];intros;refine Ln (fun x=>⟨(.str (bs w)::.J::.int .i64 0::.J::.J::.dsl 1 (l.map wdR)::.int .i64 21::.int .i64 x::jk8 (jk2 ([]))),[]⟩) n (fun x hx=>?_) ?_
 ·have e0:(0:Int)<=(x:Int):=by omega
  have e1:(x:Int)<21:=by omega
  have e2:x<21:=by omega
  by_cases Ag:x<n
  ·obtain⟨v,h3,h4⟩:=h2 x Ag;simp only[go_sem,seval,q_jn e1,e0,e1,e2,q_g,Av,Cc x v h3,h4,w64 (show fit ((x:Int)+1) by unfold fit;omega)];refine⟨Ag,?_⟩;exact Bk (by simp[Ba])
  ·have:x=n:=by omega
   subst this;simp only[go_sem,seval,q_jn e1,e0,e1,e2,q_g,Av,Cc x w h1,beq_self_eq_true,w64 (show fit ((x:Int)+1) by unfold fit;omega)];rfl
 ·exact Bk (by simp[Ba])
def nmV(ns:List By):SV:=.dsl 1 (ns.reverse.map wdR)
def A8u{L:List Tok}{k e i j n:Nat}{ns:List By}{G:GV}{t:Tok}{r:List Tok}(h:L.drop k=t::r)(hL:L.length<1000000000000)(hn:Lw t.w ns=some n)(Ez:ns.length<1000000) :
  Am 131 (rdR L k e (nmV ns) i j::G) [.gp 0 0] (.ret (.agg true (tv (vT n)))) (rdR L (k+1) e (nmV ns) i j::G):=by
 obtain⟨a1,a2,a3,a4,a5,a6,a7,a8,a9,a10⟩:=Ei h;have a6:=a6 hL;have a7:=a7 hL;have a10:=a10 hL;obtain⟨h1,h2⟩:=Xp hn;have Ag:=(q_jm.1 h1).1;have Cc:∀(m:Nat) v,ns[m]?=some v->(ns.reverse.map wdR)[ns.length-1-m]?.getD []=[.str (bs v)]:=fun m v hv=>by
  have hm:=(q_jm.1 hv).1;rw[q_ji,List.getElem?_reverse (by omega),show ns.length-1-(ns.length-1-m)=m by omega,hv];rfl
 have Av:(ns.reverse.map wdR).length=ns.length:=by simp
 refine (Bh (out:=.ret (.agg true [.int .i64 2,.int .i64 n,.int .i64 0,.int .i64 0,.nils])) mixed Tryz.func131 tr131 ?_).weaken (Su _ _ _ _);unfold rdR nmV;have Qz:(ns.length<=140737488355328)=True:=by simp;omega
 have ew:IntKind.i64.wrap ((ns.length:Int)-1)=(ns.length:Int)-1-(0:Nat):=by rw[w64 (by unfold fit;omega)];omega
 generalize ns.reverse.map wdR=R at *
 simp only[go_sem,seval,Av,Qz,forall_const];rw[ew];refine Ln (fun x=>⟨(.gp 0 0::.J::.ref 1 0 0 0::.int .i64 ((ns.length:Int)-1-x)::Bo (Do (jk4 ([])))),[gOb ([.dsl 3 (L.map Fx),.int .i64 k,.int .i64 e,.dsl 1 R,.int .i64 i,.int .i64 j,.bool false,.int .i64 0]::G),⟨true,5,[[.int .i64 0,.int .i64 0,.int .i64 0,.int .i64 0,.nils]],0,0,true⟩]⟩) n (fun x hx=>?_) ?_
 ·have hq:ns.length-1-x<ns.length:=by omega
  have eI:(ns.length:Int)-1-x=((ns.length-1-x:Nat):Int):=by omega
  have e0:(0:Int)<=((ns.length-1-x:Nat):Int):=by omega
  have e1:((ns.length-1-x:Nat):Int)<(ns.length:Int):=by omega
  have eg:((ns.length-1-x:Nat):Int) >= 0:=e0;rw[eI]
  by_cases Aay:x<n
  ·obtain⟨v,h3,h4⟩:=h2 x Aay;simp only[go_sem,seval,a1,a2,a3,a4,a8,a9,a10,forall_const,q_g,q_jn eg,e0,e1,hq,Av,Qz,Cc x v h3,h4,w64 (show fit (((ns.length-1-x:Nat):Int)-1) by unfold fit;omega)];refine⟨Aay,?_⟩;rw[show ((ns.length-1-x:Nat):Int)-1=(ns.length:Int)-1-((x+1:Nat):Int) by omega];exact Bk (by simp[Ba])
  ·have:x=n:=by omega
   subst this;simp only[go_sem,seval,a1,a2,a3,a4,a6,a8,a9,a10,forall_const,q_g,q_jn eg,e0,e1,hq,Av,Qz,Cc x t.w h1,beq_self_eq_true,w64 (show fit ((ns.length:Int)-1) by unfold fit;omega),show (ns.length:Int)-1-((ns.length-1-x:Nat):Int)=(x:Int) by omega,w64 (show fit (x:Int) by unfold fit;omega)]
 ·exact Bk (by simp[Ba])
mutual
def LT.tm(i j:Nat):LT->Tm
 |.var n=>vT n
 |.nd k a b n l=>.mk k (a.ev i j:Nat) (b.ev i j:Nat) n (LT.tms i j l)
def LT.tms(i j:Nat):List LT->List Tm
 |[]=>[]
 |t::l=>LT.tm i j t::LT.tms i j l
end
def Aky(i j:Nat):∀l:List LT,LT.tms i j l=l.map (LT.tm i j):=by
 intro l
 induction l with
 |nil=>rfl
 |cons t l ih=>rw[LT.tms,ih];rfl
section
variable{T:TF}{ns:List By}{k:Nat}{c:UInt8}{x y:Acc}{r r':List Tok}{s:By}{p:LT×List Tok}
def Ci(h:Gd T ns k (c::s) x r=some p):∃y r1,Nq T ns k c x r=some (y,r1)/\Gd T ns k s y r1=some p:=by
 rw[Gd] at h;split at h
 ·rename_i y r1 he;exact⟨y,r1,he,h⟩
 ·cases h
def Is(h:Gd T ns k [] x r=some p):∃z r',r=z::r'/\z.k=2/\p=(.nd k x.a x.b x.n x.l,r'):=by
 rw[Gd] at h;obtain⟨q,r'⟩:=p;obtain⟨z,h1,h2,h3⟩:=Ry h;exact⟨z,r',h1,h2,by rw[h3]⟩
def Sr(h:Nq T ns k c x r=some (y,r'))(hc:c=120\/c=121\/c=101):∃u,r=u::r'/\u.k=3/\y={ x with bd:=u.w::x.bd }:=by
 unfold Nq at h;have e:c.toNat≠76/\c.toNat≠77/\c.toNat≠83/\c.toNat≠116/\¬(c.toNat=98\/c.toNat=80):=by rcases hc with rfl|rfl|rfl<;>decide
 rw[if_neg e.1,if_neg e.2.1,if_neg e.2.2.1,if_neg e.2.2.2.1,if_neg e.2.2.2.2] at h
 match r,h with
 |[],h=>cases h
 |⟨k,w,q⟩::r1,h=>
  dsimp only at h;split at h
  ·rename_i hk;cases h;exact⟨_,rfl,hk,rfl⟩
  ·cases h
def Ep(h:Nq T ns k 116 x r=some (y,r')):∃a,T ns r=some (a,r')/\y={ x with l:=x.l++[a] }:=by
 unfold Nq at h;rw[if_neg (by decide),if_neg (by decide),if_neg (by decide),if_pos (by decide)] at h;cases ht:T ns r with
 |none=>rw[ht] at h;cases h
 |some q=>
  rw[ht] at h;cases h;exact⟨_,rfl,rfl⟩
def Wm(h:Nq T ns k c x r=some (y,r'))(hc:c=98\/c=80):ns≠[]/\∃a,T (x.bd++ns) r=some (a,r')/\y={ x with l:=x.l++[a] }:=by
 unfold Nq at h;have e:c.toNat≠76/\c.toNat≠77/\c.toNat≠83/\c.toNat≠116/\(c.toNat=98\/c.toNat=80):=by rcases hc with rfl|rfl<;>decide
 rw[if_neg e.1,if_neg e.2.1,if_neg e.2.2.1,if_neg e.2.2.2.1,if_pos e.2.2.2.2] at h;split at h
 ·cases h
 ·rename_i hn;cases ht:T (x.bd++ns) r with
  |none=>rw[ht] at h;cases h
  |some q=>
   rw[ht] at h;cases h;exact⟨by simpa using hn,_,rfl,rfl⟩
def Aes(h:Nq T ns k 76 x r=some (y,r')):∃a,Sv r=some (a,r')/\y={ x with a:=a }:=by
 unfold Nq at h;rw[if_pos (by decide)] at h;cases ht:Sv r with
 |none=>rw[ht] at h;cases h
 |some q=>
  rw[ht] at h;cases h;exact⟨_,rfl,rfl⟩
def Aq2(h:Nq T ns k 77 x r=some (y,r')):∃b r1 l,Sv r=some (b,r1)/\Qb T ns (arN x.n) r1=some (l,r')/\y={ x with b:=b,l:=l }:=by
 unfold Nq at h;rw[if_neg (by decide),if_pos (by decide)] at h;cases ht:Sv r with
 |none=>rw[ht] at h;cases h
 |some q=>
  rw[ht] at h;dsimp only at h;cases hm:Qb T ns (arN x.n) q.2 with
  |none=>rw[hm] at h;cases h
  |some l=>
   rw[hm] at h;cases h;exact⟨_,_,_,rfl,hm,rfl⟩
def Aq3(h:Nq T ns k 83 x r=some (y,r')):∃u n,r=u::r'/\u.k=3/\Lw u.w symsL=some n/\y={ x with n:=n+1 }:=by
 unfold Nq at h;rw[if_neg (by decide),if_neg (by decide),if_pos (by decide)] at h
 match r,h with
 |[],h=>cases h
 |⟨k,w,q⟩::r1,h=>
  dsimp only at h;split at h
  ·rename_i hk;cases hn:Lw w symsL with
   |none=>rw[hn] at h;cases h
   |some n=>
    rw[hn] at h;cases h;exact⟨_,_,rfl,hk,hn,rfl⟩
  ·cases h
end
def NmP(nm:SV)(ns:List By):Prop:=(nm=.nils/\ns=[])\/nm=nmV ns
def NG(G:GV):Prop:=∀r∈G,∀x∈r,NoG x
def NG.nil:NG []:=fun r hr=>by cases hr
def NG.app{G D:GV}(h:NG G)(k:NG D):NG (G++D):=fun r hr=>(q_ke.1 hr).elim (h r) (k r)
def NG.cons{r:List SV}{D:GV}(h:∀x∈r,NoG x)(k:NG D):NG (r::D):=fun q hq=>by
 rcases q_kb.1 hq with rfl|hq
 ·exact h
 ·exact k q hq
def Bdo(l:List By):NoG (.dsl 1 (l.map wdR)):=.dsl _ _ (fun x hx=>by
 obtain⟨r,hr,hx⟩:=List.mem_flatten.1 hx;obtain⟨w,_,rfl⟩:=q_lc.1 hr;simp only[wdR,q_kj] at hx;subst hx;exact .str _)
def NmP.noG{nm:SV}{ns:List By}(h:NmP nm ns):NoG nm:=by
 rcases h with⟨rfl,_⟩|rfl
 ·exact .nils
 ·exact Bdo _
def Bdk{L:List Tok}{k e i j:Nat}{nm:SV}(h:NoG nm):∀x∈rdR L k e nm i j,NoG x:=by
 intro x hx;simp only[rdR,q_kb,q_kc,or_false] at hx;rcases hx with rfl|rfl|rfl|rfl|rfl|rfl|rfl|rfl
 ·refine .dsl _ _ (fun x hx=>?_);obtain⟨r,hr,hx⟩:=List.mem_flatten.1 hx;obtain⟨t,_,rfl⟩:=q_lc.1 hr;simp only[Fx,q_kb,q_kc,or_false] at hx;rcases hx with rfl|rfl|rfl
  ·exact .int _ _
  ·exact .str _
  ·exact .int _ _
 ·exact .int _ _
 ·exact .int _ _
 ·exact h
 ·exact .int _ _
 ·exact .int _ _
 ·exact .bool _
 ·exact .int _ _
def TC(T:TF)(b:Nat):Prop:=∀(ns:List By) (ts r:List Tok) (lt:LT),T ns ts=some (lt,r)->ns.length+b<1000000->∀(L:List Tok) (k e i j:Nat) (nm:SV) (G:GV) (want:Int),L.length<1000000000000->i<1000->j<1000->(want=0\/want=2)->NmP nm ns->NG G->L.drop k=ts ->
 ∃k' Δ,L.drop k'=r/\NG Δ/\Am 126 (rdR L k e nm i j::G) [.gp 0 0,.int .i64 want] (.ret (.agg true (tv (lt.tm i j)))) (rdR L k' e nm i j::(G++Δ))
def LC(k:Nat)(s:By)(L:List Tok)(k0 e i j:Nat)(nm:SV)(G:GV)(lt:LT)(r:List Tok):Prop:=
 ∃k' Δ,L.drop k'=r/\NG Δ/\Am 134 (rdR L k0 e nm i j::G) [.gp 0 0,.int .i64 k,.str (bs s)] (.ret (.agg true (tv (lt.tm i j)))) (rdR L k' e nm i j::(G++Δ))
open Go Go.RowKit Go.Proofs.YtgdkddjdhijfnaaGreatDoor
def u76:((UInt8.toNat 76:Nat):Int)=76:=rfl
def u77:((UInt8.toNat 77:Nat):Int)=77:=rfl
def u83:((UInt8.toNat 83:Nat):Int)=83:=rfl
def u116:((UInt8.toNat 116:Nat):Int)=116:=rfl
def u98:((UInt8.toNat 98:Nat):Int)=98:=rfl
def u80:((UInt8.toNat 80:Nat):Int)=80:=rfl
def u120:((UInt8.toNat 120:Nat):Int)=120:=rfl
def u121:((UInt8.toNat 121:Nat):Int)=121:=rfl
def u101:((UInt8.toNat 101:Nat):Int)=101:=rfl
def wr7:IntKind.i64.wrap 7=7:=rfl
def wr8:IntKind.i64.wrap 8=8:=rfl
section
variable{T:TF}{b:Nat}{ns:List By}{k k0 e i j:Nat}{L ts r:List Tok}{nm:SV}{G:GV}{lt:LT}
def lc_t(hT:TC T b)(Ez:ns.length+2+b<1000000)(hL:L.length<1000000000000)(hi:i<1000)(hj:j<1000)(hnm:NmP nm ns)(hG:NG G)(hk:12<k)(hd:L.drop k0=ts)(h:Gd T ns k [116] {} ts=some (lt,r)):LC k [116] L k0 e i j nm G lt r:=by
 obtain⟨y0,r0,h0,h⟩:=Ci h;obtain⟨a0,t0,rfl⟩:=Ep h0;obtain⟨z,r',rfl,hz,Ag⟩:=Is h;cases Ag;obtain⟨q0,D0,d0,g0,c0⟩:=hT ns _ _ a0 t0 (by omega) L _ e i j nm (G) 2 hL hi hj (.inr rfl) hnm hG hd;have ce:=Ka (e:=e) (i:=i) (j:=j) (nm:=nm) (G:=(G++D0)) d0 hL;rw[hz] at ce;refine⟨_,D0,Bl d0,g0,?_⟩;have eT:LT.tm i j (.nd k .z .z 0 [a0])=.mk k 0 0 0 [a0.tm i j]:=by simp[LT.tm,LT.tms,LE.ev]
 change Am _ _ _ (.ret (.agg true (tv (LT.tm i j (.nd k .z .z 0 [a0]))))) _;rw[eT,As];simp only[q_h,q_i];have Rg:¬(k:Int)<=12:=by omega
 have Bt:1<=140737488355328:=by decide
 unfold rdR at c0 ce |-;refine Bh mixed Tryz.func134 tr134 ?_
 repeat' first
 |simp only[go_sem,seval,Rg,u116,wr7,wr8]
 |refine Cv 2 (Bd ?_)
 |refine Ai c0 ?_
 |refine Bd ?_
 |refine Ai ce ?_
 all_goals simp only[go_sem,seval,q_ju]
def Aq9(hT:TC T b)(Ez:ns.length+2+b<1000000)(hL:L.length<1000000000000)(hi:i<1000)(hj:j<1000)(hnm:NmP nm ns)(hG:NG G)(hk:12<k)(hd:L.drop k0=ts)(h:Gd T ns k [116,116] {} ts=some (lt,r)):LC k [116,116] L k0 e i j nm G lt r:=by
 obtain⟨y0,r0,h0,h⟩:=Ci h;obtain⟨a0,t0,rfl⟩:=Ep h0;obtain⟨y1,r1,h1,h⟩:=Ci h;obtain⟨a1,t1,rfl⟩:=Ep h1;obtain⟨z,r',rfl,hz,Ag⟩:=Is h;cases Ag;obtain⟨q0,D0,d0,g0,c0⟩:=hT ns _ _ a0 t0 (by omega) L _ e i j nm (G) 2 hL hi hj (.inr rfl) hnm hG hd;obtain⟨q1,D1,d1,g1,c1⟩:=hT ns _ _ a1 t1 (by omega) L _ e i j nm ((G++D0)) 2 hL hi hj (.inr rfl) hnm (hG.app g0) d0;have ce:=Ka (e:=e) (i:=i) (j:=j) (nm:=nm) (G:=((G++D0)++D1)) d1 hL;rw[hz] at ce;refine⟨_,D0++(D1),Bl d1,g0.app (g1),?_⟩;have eT:LT.tm i j (.nd k .z .z 0 [a0,a1])=.mk k 0 0 0 [a0.tm i j,a1.tm i j]:=by simp[LT.tm,LT.tms,LE.ev]
 change Am _ _ _ (.ret (.agg true (tv (LT.tm i j (.nd k .z .z 0 [a0,a1]))))) _;rw[eT,As];simp only[q_h,q_i];have Rg:¬(k:Int)<=12:=by omega
 have Bt:2<=140737488355328:=by decide
 unfold rdR at c0 c1 ce |-;refine Bh mixed Tryz.func134 tr134 ?_
 repeat' first
 |simp only[go_sem,seval,Rg,u116,wr7,wr8]
 |refine Cv 3 (Bd ?_)
 |refine Ai c0 ?_
 |refine Bd ?_
 |refine Ai c1 ?_
 |refine Ai ce ?_
 all_goals simp only[go_sem,seval,q_ju]
def Bbz(hT:TC T b)(Ez:ns.length+2+b<1000000)(hL:L.length<1000000000000)(hi:i<1000)(hj:j<1000)(hnm:NmP nm ns)(hG:NG G)(hk:12<k)(hd:L.drop k0=ts)(h:Gd T ns k [116,116,116] {} ts=some (lt,r)):LC k [116,116,116] L k0 e i j nm G lt r:=by
 obtain⟨y0,r0,h0,h⟩:=Ci h;obtain⟨a0,t0,rfl⟩:=Ep h0;obtain⟨y1,r1,h1,h⟩:=Ci h;obtain⟨a1,t1,rfl⟩:=Ep h1;obtain⟨y2,r2,h2,h⟩:=Ci h;obtain⟨a2,t2,rfl⟩:=Ep h2;obtain⟨z,r',rfl,hz,Ag⟩:=Is h;cases Ag;obtain⟨q0,D0,d0,g0,c0⟩:=hT ns _ _ a0 t0 (by omega) L _ e i j nm (G) 2 hL hi hj (.inr rfl) hnm hG hd;obtain⟨q1,D1,d1,g1,c1⟩:=hT ns _ _ a1 t1 (by omega) L _ e i j nm ((G++D0)) 2 hL hi hj (.inr rfl) hnm (hG.app g0) d0;obtain⟨q2,D2,d2,g2,c2⟩:=hT ns _ _ a2 t2 (by omega) L _ e i j nm (((G++D0)++D1)) 2 hL hi hj (.inr rfl) hnm ((hG.app g0).app g1) d1;have ce:=Ka (e:=e) (i:=i) (j:=j) (nm:=nm) (G:=(((G++D0)++D1)++D2)) d2 hL;rw[hz] at ce;refine⟨_,D0++(D1++(D2)),Bl d2,g0.app (g1.app (g2)),?_⟩;have eT:LT.tm i j (.nd k .z .z 0 [a0,a1,a2])=.mk k 0 0 0 [a0.tm i j,a1.tm i j,a2.tm i j]:=by simp[LT.tm,LT.tms,LE.ev]
 change Am _ _ _ (.ret (.agg true (tv (LT.tm i j (.nd k .z .z 0 [a0,a1,a2]))))) _;rw[eT,As];simp only[q_h,q_i];have Rg:¬(k:Int)<=12:=by omega
 have Bt:3<=140737488355328:=by decide
 unfold rdR at c0 c1 c2 ce |-;refine Bh mixed Tryz.func134 tr134 ?_
 repeat' first
 |simp only[go_sem,seval,Rg,u116,wr7,wr8]
 |refine Cv 4 (Bd ?_)
 |refine Ai c0 ?_
 |refine Bd ?_
 |refine Ai c1 ?_
 |refine Ai c2 ?_
 |refine Ai ce ?_
 all_goals simp only[go_sem,seval,q_ju]
def Ajj(hT:TC T b)(Ez:ns.length+2+b<1000000)(hL:L.length<1000000000000)(hi:i<1000)(hj:j<1000)(hnm:NmP nm ns)(hG:NG G)(hk:12<k)(hd:L.drop k0=ts)(h:Gd T ns k [120,116,98] {} ts=some (lt,r)):LC k [120,116,98] L k0 e i j nm G lt r:=by
 obtain⟨y0,r0,h0,h⟩:=Ci h;obtain⟨w0,rfl,k0,rfl⟩:=Sr h0 (by simp);obtain⟨y1,r1,h1,h⟩:=Ci h;obtain⟨a1,t1,rfl⟩:=Ep h1;obtain⟨y2,r2,h2,h⟩:=Ci h;obtain⟨n2,a2,t2,rfl⟩:=Wm h2 (by simp);obtain⟨z,r',rfl,hz,Ag⟩:=Is h;cases Ag;have c0:=Ka (e:=e) (i:=i) (j:=j) (nm:=nm) (G:=G) hd hL;rw[k0] at c0;obtain⟨q1,D1,d1,g1,c1⟩:=hT ns _ _ a1 t1 (by omega) L _ e i j nm (G) 2 hL hi hj (.inr rfl) hnm hG (Bl hd);obtain⟨q2,D2,d2,g2,c2⟩:=hT ([w0.w]++ns) _ _ a2 t2 (by simp;omega) L _ e i j (nmV ([w0.w]++ns)) ((G++D1)) 2 hL hi hj (.inr rfl) (.inr rfl) (hG.app g1) d1;have ce:=Ka (e:=e) (i:=i) (j:=j) (nm:=nm) (G:=((G++D1)++D2)) d2 hL;rw[hz] at ce;refine⟨_,D1++(D2),Bl d2,g1.app (g2),?_⟩;have eT:LT.tm i j (.nd k .z .z 0 [a1,a2])=.mk k 0 0 0 [a1.tm i j,a2.tm i j]:=by simp[LT.tm,LT.tms,LE.ev]
 change Am _ _ _ (.ret (.agg true (tv (LT.tm i j (.nd k .z .z 0 [a1,a2]))))) _;rw[eT,As];simp only[q_h,q_i];have Rg:¬(k:Int)<=12:=by omega
 have Bt:3<=140737488355328:=by decide
 have Aa2:nm=nmV ns:=hnm.resolve_left (fun h=>n2 h.2);subst Aa2;have Tp:(ns.reverse.map wdR).length=ns.length:=by simp
 have Pu:¬ns.length=0:=fun e=>n2 (q_lb.1 e)
 have Fk:ns.length*16<=140737488355328:=by omega
 have Wg:ns.length<=140737488355328:=by omega
 have Uf:(ns.length+1)*16<=140737488355328:=by omega
 have Wh:ns.length<=140737488355327:=by omega
 have hNa:nmV ([w0.w]++ns)=.dsl 1 (ns.reverse.map wdR++[wdR w0.w]):=by simp[nmV]
 rw[hNa] at c2;unfold nmV at *
 generalize ns.reverse.map wdR=R at *
 have Px:List.take (ns.length+1) (R++[[SV.str (bs w0.w)]])=R++[[SV.str (bs w0.w)]]:=q_js (by simp;omega);unfold rdR at c0 c1 c2 ce |-;refine Bh mixed Tryz.func134 tr134 ?_
 repeat' first
 |simp only[go_sem,seval,Rg,u98,u116,u120,wr7,wr8,Tp,wdR,Pu,Fk,Wg,Uf,Wh,Px]
 |refine Cv 4 (Bd ?_)
 |refine Ai c0 ?_
 |refine Bd ?_
 |refine Ai c1 ?_
 |refine Ai c2 ?_
 |refine Ai ce ?_
 all_goals simp only[go_sem,seval,q_ju]
def Bb1(hT:TC T b)(Ez:ns.length+2+b<1000000)(hL:L.length<1000000000000)(hi:i<1000)(hj:j<1000)(hnm:NmP nm ns)(hG:NG G)(hk:12<k)(hd:L.drop k0=ts)(h:Gd T ns k [120,116,98,116,116] {} ts=some (lt,r)):LC k [120,116,98,116,116] L k0 e i j nm G lt r:=by
 obtain⟨y0,r0,h0,h⟩:=Ci h;obtain⟨w0,rfl,k0,rfl⟩:=Sr h0 (by simp);obtain⟨y1,r1,h1,h⟩:=Ci h;obtain⟨a1,t1,rfl⟩:=Ep h1;obtain⟨y2,r2,h2,h⟩:=Ci h;obtain⟨n2,a2,t2,rfl⟩:=Wm h2 (by simp);obtain⟨y3,r3,h3,h⟩:=Ci h;obtain⟨a3,t3,rfl⟩:=Ep h3;obtain⟨y4,r4,h4,h⟩:=Ci h;obtain⟨a4,t4,rfl⟩:=Ep h4;obtain⟨z,r',rfl,hz,Ag⟩:=Is h;cases Ag;have c0:=Ka (e:=e) (i:=i) (j:=j) (nm:=nm) (G:=G) hd hL;rw[k0] at c0;obtain⟨q1,D1,d1,g1,c1⟩:=hT ns _ _ a1 t1 (by omega) L _ e i j nm (G) 2 hL hi hj (.inr rfl) hnm hG (Bl hd);obtain⟨q2,D2,d2,g2,c2⟩:=hT ([w0.w]++ns) _ _ a2 t2 (by simp;omega) L _ e i j (nmV ([w0.w]++ns)) ((G++D1)) 2 hL hi hj (.inr rfl) (.inr rfl) (hG.app g1) d1;obtain⟨q3,D3,d3,g3,c3⟩:=hT ns _ _ a3 t3 (by omega) L _ e i j nm (((G++D1)++D2)) 2 hL hi hj (.inr rfl) hnm ((hG.app g1).app g2) d2;obtain⟨q4,D4,d4,g4,c4⟩:=hT ns _ _ a4 t4 (by omega) L _ e i j nm ((((G++D1)++D2)++D3)) 2 hL hi hj (.inr rfl) hnm (((hG.app g1).app g2).app g3) d3;have ce:=Ka (e:=e) (i:=i) (j:=j) (nm:=nm) (G:=((((G++D1)++D2)++D3)++D4)) d4 hL;rw[hz] at ce;refine⟨_,D1++(D2++(D3++(D4))),Bl d4,g1.app (g2.app (g3.app (g4))),?_⟩;have eT:LT.tm i j (.nd k .z .z 0 [a1,a2,a3,a4])=.mk k 0 0 0 [a1.tm i j,a2.tm i j,a3.tm i j,a4.tm i j]:=by simp[LT.tm,LT.tms,LE.ev]
 change Am _ _ _ (.ret (.agg true (tv (LT.tm i j (.nd k .z .z 0 [a1,a2,a3,a4]))))) _;rw[eT,As];simp only[q_h,q_i];have Rg:¬(k:Int)<=12:=by omega
 have Bt:5<=140737488355328:=by decide
 have Aa2:nm=nmV ns:=hnm.resolve_left (fun h=>n2 h.2);subst Aa2;have Tp:(ns.reverse.map wdR).length=ns.length:=by simp
 have Pu:¬ns.length=0:=fun e=>n2 (q_lb.1 e)
 have Fk:ns.length*16<=140737488355328:=by omega
 have Wg:ns.length<=140737488355328:=by omega
 have Uf:(ns.length+1)*16<=140737488355328:=by omega
 have Wh:ns.length<=140737488355327:=by omega
 have hNa:nmV ([w0.w]++ns)=.dsl 1 (ns.reverse.map wdR++[wdR w0.w]):=by simp[nmV]
 rw[hNa] at c2;unfold nmV at *
 generalize ns.reverse.map wdR=R at *
 have Px:List.take (ns.length+1) (R++[[SV.str (bs w0.w)]])=R++[[SV.str (bs w0.w)]]:=q_js (by simp;omega);unfold rdR at c0 c1 c2 c3 c4 ce |-;refine Bh mixed Tryz.func134 tr134 ?_
 repeat' first
 |simp only[go_sem,seval,Rg,u98,u116,u120,wr7,wr8,Tp,wdR,Pu,Fk,Wg,Uf,Wh,Px]
 |refine Cv 6 (Bd ?_)
 |refine Ai c0 ?_
 |refine Bd ?_
 |refine Ai c1 ?_
 |refine Ai c2 ?_
 |refine Ai c3 ?_
 |refine Ai c4 ?_
 |refine Ai ce ?_
 all_goals simp only[go_sem,seval,q_ju]
def lc_j(hT:TC T b)(Ez:ns.length+2+b<1000000)(hL:L.length<1000000000000)(hi:i<1000)(hj:j<1000)(hnm:NmP nm ns)(hG:NG G)(hk:12<k)(hd:L.drop k0=ts)(h:Gd T ns k [116,116,121,101,80,116,116,116] {} ts=some (lt,r)):LC k [116,116,121,101,80,116,116,116] L k0 e i j nm G lt r:=by
 obtain⟨y0,r0,h0,h⟩:=Ci h;obtain⟨a0,t0,rfl⟩:=Ep h0;obtain⟨y1,r1,h1,h⟩:=Ci h;obtain⟨a1,t1,rfl⟩:=Ep h1;obtain⟨y2,r2,h2,h⟩:=Ci h;obtain⟨w2,rfl,k2,rfl⟩:=Sr h2 (by simp);obtain⟨y3,r3,h3,h⟩:=Ci h;obtain⟨w3,rfl,k3,rfl⟩:=Sr h3 (by simp);obtain⟨y4,r4,h4,h⟩:=Ci h;obtain⟨n4,a4,t4,rfl⟩:=Wm h4 (by simp);obtain⟨y5,r5,h5,h⟩:=Ci h;obtain⟨a5,t5,rfl⟩:=Ep h5;obtain⟨y6,r6,h6,h⟩:=Ci h;obtain⟨a6,t6,rfl⟩:=Ep h6;obtain⟨y7,r7,h7,h⟩:=Ci h;obtain⟨a7,t7,rfl⟩:=Ep h7;obtain⟨z,r',rfl,hz,Ag⟩:=Is h;cases Ag;obtain⟨q0,D0,d0,g0,c0⟩:=hT ns _ _ a0 t0 (by omega) L _ e i j nm (G) 2 hL hi hj (.inr rfl) hnm hG hd;obtain⟨q1,D1,d1,g1,c1⟩:=hT ns _ _ a1 t1 (by omega) L _ e i j nm ((G++D0)) 2 hL hi hj (.inr rfl) hnm (hG.app g0) d0;have c2:=Ka (e:=e) (i:=i) (j:=j) (nm:=nm) (G:=((G++D0)++D1)) d1 hL;rw[k2] at c2;have c3:=Ka (e:=e) (i:=i) (j:=j) (nm:=nm) (G:=((G++D0)++D1)) (Bl d1) hL;rw[k3] at c3;obtain⟨q4,D4,d4,g4,c4⟩:=hT ([w3.w,w2.w]++ns) _ _ a4 t4 (by simp;omega) L _ e i j (nmV ([w3.w,w2.w]++ns)) (((G++D0)++D1)) 2 hL hi hj (.inr rfl) (.inr rfl) ((hG.app g0).app g1) (Bl (Bl d1));obtain⟨q5,D5,d5,g5,c5⟩:=hT ns _ _ a5 t5 (by omega) L _ e i j nm ((((G++D0)++D1)++D4)) 2 hL hi hj (.inr rfl) hnm (((hG.app g0).app g1).app g4) d4;obtain⟨q6,D6,d6,g6,c6⟩:=hT ns _ _ a6 t6 (by omega) L _ e i j nm (((((G++D0)++D1)++D4)++D5)) 2 hL hi hj (.inr rfl) hnm ((((hG.app g0).app g1).app g4).app g5) d5;obtain⟨q7,D7,d7,g7,c7⟩:=hT ns _ _ a7 t7 (by omega) L _ e i j nm ((((((G++D0)++D1)++D4)++D5)++D6)) 2 hL hi hj (.inr rfl) hnm (((((hG.app g0).app g1).app g4).app g5).app g6) d6;have ce:=Ka (e:=e) (i:=i) (j:=j) (nm:=nm) (G:=((((((G++D0)++D1)++D4)++D5)++D6)++D7)) d7 hL;rw[hz] at ce;refine⟨_,D0++(D1++(D4++(D5++(D6++(D7))))),Bl d7,g0.app (g1.app (g4.app (g5.app (g6.app (g7))))),?_⟩;have eT:LT.tm i j (.nd k .z .z 0 [a0,a1,a4,a5,a6,a7])=.mk k 0 0 0 [a0.tm i j,a1.tm i j,a4.tm i j,a5.tm i j,a6.tm i j,a7.tm i j]:=by simp[LT.tm,LT.tms,LE.ev]
 change Am _ _ _ (.ret (.agg true (tv (LT.tm i j (.nd k .z .z 0 [a0,a1,a4,a5,a6,a7]))))) _;rw[eT,As];simp only[q_h,q_i];have Rg:¬(k:Int)<=12:=by omega
 have Bt:8<=140737488355328:=by decide
 have Aa2:nm=nmV ns:=hnm.resolve_left (fun h=>n4 h.2);subst Aa2;have Tp:(ns.reverse.map wdR).length=ns.length:=by simp
 have Pu:¬ns.length=0:=fun e=>n4 (q_lb.1 e)
 have Fk:ns.length*16<=140737488355328:=by omega
 have Wg:ns.length<=140737488355328:=by omega
 have Uf:(ns.length+2)*16<=140737488355328:=by omega
 have Wh:ns.length<=140737488355326:=by omega
 have hNa:nmV ([w3.w,w2.w]++ns)=.dsl 1 (ns.reverse.map wdR++[wdR w2.w,wdR w3.w]):=by simp[nmV]
 rw[hNa] at c4;unfold nmV at *
 generalize ns.reverse.map wdR=R at *
 have Px:List.take (ns.length+2) (R++[[SV.str (bs w2.w)],[SV.str (bs w3.w)]])=R++[[SV.str (bs w2.w)],[SV.str (bs w3.w)]]:=q_js (by simp;omega);unfold rdR at c0 c1 c2 c3 c4 c5 c6 c7 ce |-;refine Bh mixed Tryz.func134 tr134 ?_
 repeat' first
 |simp only[go_sem,seval,Rg,u80,u101,u116,u121,wr7,wr8,Tp,wdR,Pu,Fk,Wg,Uf,Wh,Px]
 |refine Cv 9 (Bd ?_)
 |refine Ai c0 ?_
 |refine Bd ?_
 |refine Ai c1 ?_
 |refine Ai c2 ?_
 |refine Ai c3 ?_
 |refine Ai c4 ?_
 |refine Ai c5 ?_
 |refine Ai c6 ?_
 |refine Ai c7 ?_
 |refine Ai ce ?_
 all_goals simp only[go_sem,seval,q_ju]
def Bby(hL:L.length<1000000000000)(hi:i<1000)(hj:j<1000)(hd:L.drop k0=ts)(h:Gd T ns 1 [76] {} ts=some (lt,r)):LC 1 [76] L k0 e i j nm G lt r:=by
 obtain⟨y0,r0,h0,h⟩:=Ci h;obtain⟨a0,t0,rfl⟩:=Aes h0;obtain⟨z,r',rfl,hz,Ag⟩:=Is h;cases Ag;obtain⟨q0,d0,c0⟩:=Ah1 (e:=e) (nm:=nm) (G:=G) hd hL hi hj t0;have ce:=Ka (e:=e) (i:=i) (j:=j) (nm:=nm) (G:=G) d0 hL;rw[hz] at ce;refine⟨_,[],Bl d0,NG.nil,?_⟩;have eT:LT.tm i j (.nd 1 a0 .z 0 [])=.mk 1 (a0.ev i j:Nat) 0 0 []:=by simp[LT.tm,LT.tms,LE.ev]
 change Am _ _ _ (.ret (.agg true (tv (LT.tm i j (.nd 1 a0 .z 0 []))))) _;rw[eT];rw[q_k];unfold rdR at c0 ce |-;refine (Bh (out:=.ret (.agg true [.int .i64 1,.int .i64 (a0.ev i j:Nat),.int .i64 0,.int .i64 0,.nils])) mixed Tryz.func134 tr134 ?_).weaken (Su _ _ _ _)
 repeat' first
 |simp only[go_sem,seval,u76]
 |refine Cv 2 (Bd ?_)
 |refine Ai c0 ?_
 |refine Bd ?_
 |refine Ai ce ?_
end
end Go.Proofs.YtgdkddjdhijfnaaGreatDoor.Abs
