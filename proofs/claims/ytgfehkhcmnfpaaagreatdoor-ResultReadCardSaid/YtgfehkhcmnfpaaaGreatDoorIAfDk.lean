import Derived.Test.YtgfehkhcmnfpaaaGreatDoorIAfZ
import Derived.Test.YtgfehkhcmnfpaaaGreatDoorIAfN
import Derived.Test.YtgfehkhcmnfpaaaGreatDoorIWb
import Derived.Test.YtgfehkhcmnfpaaaGreatDoorIEv
import Derived.Test.YtgfehkhcmnfpaaaGreatDoorIWl
import Derived.Test.YtgfehkhcmnfpaaaGreatDoorProg
import Derived.Test.YtgfehkhcmnfpaaaGreatDoorChecked
import Derived.WalkKit
import Derived.WalkLawsBesides
import Derived.Defers
import Derived.Recover
import Derived.Handy
import Derived.Test.YtgfehkhcmnfpaaaGreatDoorIDo
import Derived.KernelRfl
import Derived.Test.YtgfehkhcmnfpaaaGreatDoorIAfC
import Derived.Test.YtgfehkhcmnfpaaaGreatDoorIOu
import Derived.Ground.NamesProg
import Derived.Shelf.Strings.Builder1
import Derived.Shelf.Strings.BuilderK
import Derived.BigCall
set_option linter.all false
set_option maxRecDepth 20000
set_option maxHeartbeats 4000000
namespace Go.Proofs.YtgfehkhcmnfpaaaGreatDoor.Abs
open Go Go.RowKit Go.Proofs.YtgfehkhcmnfpaaaGreatDoor
def Ak0{t:Tm}{w:Int}(h:Fz t w=true):Fz t 0=true:=by
 obtain⟨k,i,j,n,l⟩:=t;rw[Pz] at h |-;rw[q_jl] at h |-;refine⟨?_,h.2⟩;have h1:=h.1;unfold Lm at h1 |-;rw[q_jl] at h1 |-;exact⟨rfl,h1.2⟩
def Arz(e:Tm×Nat):(Dg e)[5]?=some (.int .i64 e.2):=by obtain⟨⟨k,i,j,n,l⟩,m⟩:=e;rw[Dg,Bp];rfl
def Ar1(e:Tm×Nat):pok 6 (Dg e)=True:=by
 obtain⟨⟨k,i,j,n,l⟩,m⟩:=e;rw[Dg,Bp];simp[pok,psz]
def Ar0(e:Tm×Nat):(Dg e).take 5=tv e.1:=by obtain⟨⟨k,i,j,n,l⟩,m⟩:=e;rw[Dg,Bp];rfl
def Aq3{cl:Bool}{c:Nat}{cells:List SV}:cut cl 6 true 5 c cells=.agg cl ((cells.drop c).take 5):=by simp[cut]
attribute [go_sem] Ar1 Qk Arz Ar0 Aq3
def Ahj(C:List (Tm×Nat))(x:Nat)(hx:x<C.length):(C.map Dg)[x]?.getD []=Dg (C.getD x (zR,0)):=by
 rw[q_ji,q_f hx,q_j,q_f hx];rfl
def Ags(C:List (Tm×Nat))(hE:EnOK C)(hn:C.length<=4000):Con 19 [Ft C] (.bool true):=by
 cases C with
 |nil=>
  refine Cu mixed Tryz.func19 tr19 ?_;unfold Ft;simp only[go_sem,seval];refine Dv 1 (Ao ?_);simp only[go_sem,seval]
 |cons e0 es=>
 refine Cu mixed Tryz.func19 tr19 ?_;unfold Ft;dsimp only;have Dx:=Ahj (e0::es);have Bh:((e0::es).map Dg).length=(e0::es).length:=by simp
 generalize (e0::es).map Dg=rows at *
 generalize e0::es=C at *
 simp only[go_sem,seval];intros;refine Nz (fun x=>⟨(.J::.J::.bool false::.J::.J::.dsl 6 rows::.int .i64 rows.length::.int .i64 x::Ef (jk8 (jk2 ([])))),[]⟩) rows.length (fun x hx=>?_) ?_
 ·simp only[go_sem,seval];refine⟨fun h=>?_,fun h=>?_⟩
  ·have Am:=q_kw h;have Ja:x<rows.length:=by omega
   have hlx:x<C.length:=by omega
   have e0:(0:Int)<=(x:Int):=by omega
   have hr:=Dx x hlx;obtain⟨g1,g2,g3,g4,g5⟩:=hE x hlx;generalize C.getD x (zR,0)=e at *
   have c1:=Vj e.1 g4;rw[show Ul e.1=true from g2] at c1;have c2:=Xm e.1 g4 (by omega);rw[show Rq e.1=Gm e.1 by unfold Rq;rw[if_pos (Ak0 g2)]] at c2;have hza:=Br e.1;have a1:¬((e.2:Int)<0):=by omega
   have a2:¬(1000<(e.2:Int)):=by omega
   have a3:¬((x:Int)<Gm e.1):=by omega
   repeat' first
   |simp only[go_sem,seval,Am,e0,hr,hza,a1,a2,a3]
   |refine Ag c1 ?_
   |refine Ag c2 ?_
   refine⟨Ja,?_⟩;rw[w64 (n:=(x:Int)+1) (by unfold fit;omega)];exact Fx 0 (by simp[Bm]) rfl (by simp[Dm]) (by simp)
  ·have La:=q_kx h;simp only[go_sem,seval,h]
 ·exact Fx 0 (by simp[Bm]) rfl (by simp[Dm]) (by simp)
def Aph:Con 22 [.agg true z5,.agg true z5] (.bool true):=by
 refine Cu mixed Tryz.func22 tr22 ?_;unfold z5;simp only[go_sem,seval];refine Dv 1 (Ao ?_);simp only[go_sem,seval]
def Xn{t:Tm}{n w f:Nat}(h:GT n w f t)(hf:f<=100000):Con 21 [.agg true (tv t),.int .i64 n] (.bool true):=by
 obtain⟨h1,h2,h3,h4⟩:=h;have c2:=Xm t h3 (by omega);rw[show Rq t=Gm t by unfold Rq;rw[if_pos (Ak0 h1)]] at c2;have hz:=Br t;have a3:¬((n:Int)<Gm t):=by omega
 refine Cu mixed Tryz.func21 tr21 ?_
 repeat' first
 |simp only[go_sem,seval,hz,a3]
 |refine Ag c2 ?_
 rw[q_jn h2]
def Ag2{x:XQ}(h:XOK x):Con 8 [.agg true (xqV x)] (.bool true):=by
 obtain⟨ctx,eq,i,a,u,b,v,hh⟩:=x;obtain⟨hc,hn,hi,ha,hu,hq⟩:=h;dsimp only at hc hn hi ha hu hq;have c0:=Ags ctx hc hn;have a1:=Vj a ha.2.2.1;rw[show Ul a=true from ha.1] at a1;have a2:=Xn ha (by omega);have u1:=Vj u hu.2.2.1;rw[show Ul u=true from hu.1] at u1;have u2:=Xn hu (by omega);have w0:=Aph;have i1:¬((i:Int)<0):=by omega
 have i2:¬(1000<(i:Int)):=by omega
 have hb:(ctx.length<=140737488355328)=True:=by simp;omega
 have ht:∀{P:Prop},(True->P)=P:=fun {P}=>by simp
 obtain⟨C,hC,hm⟩:∃C:SV,Ft ctx=C/\((C=.nils/\ctx.length=0)\/C=.dsl 6 (ctx.map Dg)):=by
  cases ctx with
   |nil=>exact⟨_,rfl,.inl ⟨rfl,rfl⟩⟩
   |cons e es=>exact⟨_,rfl,.inr rfl⟩
 unfold xqV;dsimp only;rw[hC] at c0 |-;cases eq
 ·clear hq hc ha hu hC;obtain⟨ka,ia,ja,na,la⟩:=a;obtain⟨ku,iu,ju,nu,lu⟩:=u;unfold z5 at w0 |-;simp only[q_l,if_false];rw[Bp] at a1 a2 u1 u2 |-;rw[Bp];refine Cu mixed Tryz.func8 tr8 ?_;rcases hm with⟨rfl,hz⟩|rfl
  ·rw[hz] at a2 u2
   repeat' first
   |simp only[go_sem,seval,i1,i2,hb,ht,q_g]
   |refine Ag c0 ?_
   |refine Ag a1 ?_
   |refine Ag u1 ?_
   |refine Ag a2 ?_
   |refine Ag u2 ?_
   |refine Ag w0 ?_
  ·repeat' first
   |simp only[go_sem,seval,i1,i2,hb,ht,q_g]
   |refine Ag c0 ?_
   |refine Ag a1 ?_
   |refine Ag u1 ?_
   |refine Ag a2 ?_
   |refine Ag u2 ?_
   |refine Ag w0 ?_
 ·obtain⟨hqb,hqv,hqh⟩:=hq rfl;have b1:=Vj b hqb.2.2.1;rw[show Ul b=true from hqb.1] at b1;have b2:=Xn hqb (by omega);have v1:=Vj v hqv.2.2.1;rw[show Ul v=true from hqv.1] at v1;have v2:=Xn hqv (by omega);have h1:=Aca hh hqh.2.2.1;rw[show Fz hh 2=true from hqh.1] at h1;have h2:=Xn hqh (by omega);clear hq hc ha hu hC hqb hqv hqh;obtain⟨ka,ia,ja,na,la⟩:=a;obtain⟨ku,iu,ju,nu,lu⟩:=u;obtain⟨kb,ib,jb,nb,lb⟩:=b;obtain⟨kv,iv,jv,nv,lv⟩:=v;obtain⟨kh,ih,jh,nh,lh⟩:=hh;simp only[if_true];rw[Bp] at a1 a2 u1 u2 b1 b2 v1 v2 h1 h2 |-;rw[Bp,Bp,Bp,Bp];refine Cu mixed Tryz.func8 tr8 ?_;rcases hm with⟨rfl,hz⟩|rfl
  ·rw[hz] at a2 u2 b2 v2 h2
   repeat' first
   |simp only[go_sem,seval,i1,i2,hb,ht,q_g]
   |refine Ag c0 ?_
   |refine Ag a1 ?_
   |refine Ag u1 ?_
   |refine Ag a2 ?_
   |refine Ag u2 ?_
   |refine Ag b1 ?_
   |refine Ag v1 ?_
   |refine Ag h1 ?_
   |refine Ag b2 ?_
   |refine Ag v2 ?_
   |refine Ag h2 ?_
  ·repeat' first
   |simp only[go_sem,seval,i1,i2,hb,ht,q_g]
   |refine Ag c0 ?_
   |refine Ag a1 ?_
   |refine Ag u1 ?_
   |refine Ag a2 ?_
   |refine Ag u2 ?_
   |refine Ag b1 ?_
   |refine Ag v1 ?_
   |refine Ag h1 ?_
   |refine Ag b2 ?_
   |refine Ag v2 ?_
   |refine Ag h2 ?_
def Ha(tx:By):Int:=match (Bi tx).2 with
 |none=>-1
 |some p=>p
def A1c(l:By):Le (.tup (Alv (Bi l))) (.tup [.dsl 3 ((Bi l).1.map De),.int .i64 (Ha l)]):=by
 have lr:∀x:SV,Lev x x:=fun x=>.cell _ _ (.refl _)
 unfold Ha;generalize Bi l=R;obtain⟨ts,e⟩:=R;have hd:Lev (Xq 3 (ts.map De)) (.dsl 3 (ts.map De)):=by
  cases ts with
  |nil=>exact .cell _ _ (.nils _)
  |cons t ts=>exact lr _
 cases e with
 |none=>exact .tup _ _ (.cons _ _ _ _ hd (.cons _ _ _ _ (lr _) .nil))
 |some p=>exact .tup _ _ (.cons _ _ _ _ hd (.cons _ _ _ _ (lr _) .nil))
def Aqg{l:By}(hl:l.length<1000000000000):Con 43 [.str (bs l)] (.tup [.dsl 3 ((Bi l).1.map De),.int .i64 (Ha l)]):=(Aqf hl).weaken (A1c l)
def Ap5{tx:By}(hl:tx.length<100000000000)(n:Nat):Con 51 [.str (bs tx),.dsl 3 ((Bi tx).1.map De),.int .i64 (Ha tx),.int .i64 n] (.int .i64 (Pf (cW tx) n)):=by
 obtain⟨hL,ht,he⟩:=qc_L tx;have Bh:=(Jz tx).le.2.1;have a10:((Bi tx).1.length<=140737488355328)=True:=by simp;omega
 have hLL:(cW tx).L=(Bi tx).1:=hL;have hE:(cW tx).e=((Bi tx).2).getD tx.length:=he;unfold Pf;refine Cu mixed Tryz.func51 tr51 ?_
 by_cases h:n<(Bi tx).1.length
 ·have h':(n:Int)<((Bi tx).1.length:Int):=by omega
  have h0:(0:Int)<=(n:Int):=by omega
  rw[if_pos (by rw[hLL];exact h)];have hr:((Bi tx).1.map De)[n]?.getD []=[.int .i64 ((cW tx).tk n).k,.str (bs ((cW tx).tk n).w),.int .i64 ((cW tx).tk n).p]:=by
   rw[q_ji,q_f h];unfold RC.tk;rw[hLL,q_j,q_f h];rfl
  simp only[go_sem,seval,h',h,h0,hr,a10,q_g,forall_const]
 ·have h':¬(n:Int)<((Bi tx).1.length:Int):=by omega
  rw[if_neg (by rw[hLL];exact h),hE];unfold Ha;cases hf:(Bi tx).2 with
  |none=>simp only[go_sem,seval,h',a10,q_g,forall_const,Option.getD_none]
  |some p=>
   have p0:(0:Int)<=(p:Int):=by omega
   simp only[go_sem,seval,h',p0,a10,q_g,forall_const,q_jz]
def Agt{C:List (Tm×Nat)}(hE:EnOK C)(hn:C.length<=4000):Con 52 [Ft C,Ft C] (.bool true):=by
 cases C with
 |nil=>
  refine Cu mixed Tryz.func52 tr52 ?_;unfold Ft;simp only[go_sem,seval];refine Dv 1 (Ao ?_);simp only[go_sem,seval]
 |cons e0 es=>
 refine Cu mixed Tryz.func52 tr52 ?_;unfold Ft;dsimp only;have Dx:=Ahj (e0::es);have Bh:((e0::es).map Dg).length=(e0::es).length:=by simp
 generalize (e0::es).map Dg=rows at *
 generalize e0::es=C at *
 have Gn:(rows.length<=140737488355328)=True:=by simp;omega
 simp only[go_sem,seval,bne_self_eq_false,Gn,forall_const];refine Hv (fun x:Nat=>⟨(.dsl 6 rows::.dsl 6 rows::.J::.J::.bool false::.int .i64 x::Cm (jk4 ([]))),[]⟩) (fun x=>rows.length-x) (fun x=>x<=rows.length) (fun x hx=>?_) 0 (Nat.zero_le _) (Bv (by simp[Bm]))
 by_cases Am:x<rows.length
 ·have h1:(x:Int)<(rows.length:Int):=by omega
  have h0:(0:Int)<=(x:Int):=by omega
  have hlx:x<C.length:=by omega
  have hr:=Dx x hlx;obtain⟨_,g2⟩:=hE x hlx;obtain⟨_,_,g4,_⟩:=g2;generalize C.getD x (zR,0)=e at *
  have c1:=Ace e.1 g4;have hza:=Br e.1;have hw:IntKind.i64.wrap ((x:Int)+1)=((x+1:Nat):Int):=by rw[w64 (by unfold fit;omega)];omega
  repeat' first
  |simp only[go_sem,seval,h0,h1,Am,hr,hza,hw,Gn,forall_const,bne_self_eq_false]
  |refine Ag c1 ?_
  exact⟨x+1,⟨by omega,by omega⟩,Bv (by simp[Bm])⟩
 ·have h1:¬(x:Int)<(rows.length:Int):=by omega
  simp only[go_sem,seval,h1,Gn,forall_const]
open Go Go.RowKit
inductive LeD:SV->SV->Prop
 |refl (v:SV):LeD v v
 |nils (sz:Nat):LeD .nils (.dsl sz [])
 |dsl (sz:Nat) (l r:GV):l.length=r.length->(∀x∈r,x.length=sz)->(∀(j:Nat) a b,l.flatten[j]?=some a->r.flatten[j]?=some b->LeD a b)->LeD (.dsl sz l) (.dsl sz r)
 |agg (l r:List SV):l.length=r.length->(∀(j:Nat) a b,l[j]?=some a->r[j]?=some b->LeD a b)->LeD (.agg true l) (.agg true r)
def LeD.rep{m:Mem}{a b:SV}(h:LeD a b):∀{v:Value},Rep m v a->Rep m v b:=by
 induction h with
 |refl v=>exact fun h=>h
 |nils sz=>intro v hr;cases hr;exact .dsl0 _ _ _
 |dsl sz l r hl hw _ ih=>
  intro v hr;cases hr with
  |dsl0 _ A cap=>
   have:r=[]:=q_la.1 (by simpa using hl.symm);subst this;exact .dsl0 _ _ _
  |dsl _ _ cap b off vs h0 h1 h2 h3 h4 h5 h6=>
   have f1:l.flatten.length=l.length*sz:=Jg h3;have f2:r.flatten.length=r.length*sz:=Jg hw;rw[hl];refine .dsl sz r cap b off vs h0 (by omega) (by omega) hw (by rw[h4,f1,f2,hl]) h5 (fun j v y hv hy=>?_);have hj:j<l.flatten.length:=by
    have:=(q_jm.1 hv).1;omega
   exact ih j _ y (q_f hj) hy (h6 j v _ hv (q_f hj))
 |agg l r hl _ ih=>
  intro v hr;cases hr with
  |agg vs _ h0 h1 h2=>
   refine .agg vs r h0 (by omega) (fun j v y hv hy=>?_);have hj:j<l.length:=by
    have:=(q_jm.1 hv).1;omega
   exact ih j _ y (q_f hj) hy (h2 j v _ hv (q_f hj))
def LeDs(l r:List SV):Prop:=l.length=r.length/\∀(j:Nat) a b,l[j]?=some a->r[j]?=some b->LeD a b
def LeDs.nil:LeDs [] []:=⟨rfl,fun j a b h=>by simp at h⟩
def LeDs.cons{a b:SV}{l r:List SV}(h:LeD a b)(k:LeDs l r):LeDs (a::l) (b::r):=by
 refine⟨by simp[k.1],fun j x y hx hy=>?_⟩;cases j with
 |zero=>simp at hx hy;subst hx hy;exact h
 |succ j=>exact k.2 j x y (by simpa using hx) (by simpa using hy)
def LeDs.refl(l:List SV):LeDs l l:=⟨rfl,fun j a b h k=>by rw[h] at k;cases k;exact .refl _⟩
def LeDs.app{l r l' r':List SV}(h:LeDs l r)(k:LeDs l' r'):LeDs (l++l') (r++r'):=by
 refine⟨by simp[h.1,k.1],fun j x y hx hy=>?_⟩
 by_cases hj:j<l.length
 ·rw[q_jf hj] at hx;rw[q_jf (by rw[<-h.1];exact hj)] at hy;exact h.2 j x y hx hy
 ·rw[q_jj (by omega)] at hx;rw[q_jj (by rw[<-h.1];omega)] at hy;rw[<-h.1] at hy;exact k.2 _ x y hx hy
def LeD.agg'{l r:List SV}(h:LeDs l r):LeD (.agg true l) (.agg true r):=.agg _ _ h.1 h.2
inductive l5(sz:Nat):GV->GV->Prop
 |nil:l5 sz [] []
 |cons {a b:List SV} {l r:GV}:b.length=sz->LeDs a b->l5 sz l r->l5 sz (a::l) (b::r)
def LeD.rows{sz:Nat}{l r:GV}(h:l5 sz l r):LeD (.dsl sz l) (.dsl sz r):=by
 have key:l.length=r.length/\(∀x∈r,x.length=sz)/\LeDs l.flatten r.flatten:=by
  induction h with
  |nil=>exact⟨rfl,by simp,.nil⟩
  |cons hb h _ ih=>
   obtain⟨i1,i2,i3⟩:=ih;refine⟨by simp[i1],fun x hx=>?_,?_⟩
   ·rcases q_kb.1 hx with rfl|hx
    ·exact hb
    ·exact i2 x hx
   ·rw[List.flatten_cons,List.flatten_cons];exact h.app i3
 exact .dsl _ _ _ key.1 key.2.1 key.2.2.2
def Contract.argsD{P:Program}{f:Nat}{args args':List SV}{r:SV}(h:Contract P f args r)(hl:LeDs args' args):Contract P f args' r:=by
 intro m w vs h1 h2 h3;refine h m w vs h1 (by rw[h2,hl.1]) (fun j v y hv hy=>?_);have hj:j<args'.length:=by
  have:=(q_jm.1 hv).1;omega
 exact (hl.2 j _ y (q_f hj) hy).rep (h3 j v _ hv (q_f hj))
def If:XQ×Option Nat->List SV
 |(x,none)=>[.agg true (xqV x),.int .i64 0,.int .i64 0]
 |(_,some p)=>[.agg true zx,.int .i64 2,.int .i64 p]
def Afd{x:XQ}:If (x,none)=[.agg true (xqV x),.int .i64 0,.int .i64 0]:=rfl
def Wy{x:XQ}{p:Nat}:If (x,some p)=[.agg true zx,.int .i64 2,.int .i64 p]:=rfl
def Aa0:∀x∈z5,NoG x:=fun x hx=>by
 simp only[z5,q_kb,q_kc,or_false] at hx;rcases hx with rfl|rfl|rfl|rfl|rfl
 ·exact .int _ _
 ·exact .int _ _
 ·exact .int _ _
 ·exact .int _ _
 ·exact .nils
def Ayy(l:List (Tm×Nat)):NoG (Ft l):=by
 cases l with
 |nil=>exact .nils
 |cons e es=>
  refine .dsl _ _ (fun x hx=>?_);obtain⟨r,hr,hx⟩:=List.mem_flatten.1 hx;obtain⟨t,_,rfl⟩:=q_lb.1 hr;unfold Dg at hx;rcases q_ke.1 hx with h|h
  ·exact Sn _ x h
  ·simp only[q_kh] at h;subst h;exact .int _ _
def Ay2(x:XQ):∀y∈xqV x,NoG y:=fun y hy=>by
 unfold xqV at hy;rcases q_kb.1 hy with rfl|hy
 ·exact Ayy _
 rcases q_kb.1 hy with rfl|hy
 ·exact .bool _
 rcases q_kb.1 hy with rfl|hy
 ·exact .int _ _
 rcases q_ke.1 hy with h|hy
 ·exact Sn _ y h
 rcases q_ke.1 hy with h|hy
 ·exact Sn _ y h
 split at hy
 ·rcases q_ke.1 hy with h|hy
  ·exact Sn _ y h
  rcases q_ke.1 hy with h|hy
  ·exact Sn _ y h
  ·exact Sn _ y hy
 ·rcases q_ke.1 hy with h|hy
  ·exact Aa0 y h
  rcases q_ke.1 hy with h|hy
  ·exact Aa0 y h
  ·exact Aa0 y hy
def Ay3:∀y∈zx,NoG y:=fun y hy=>by
 unfold zx at hy;rcases q_kb.1 hy with rfl|hy
 ·exact .nils
 rcases q_kb.1 hy with rfl|hy
 ·exact .bool _
 rcases q_kb.1 hy with rfl|hy
 ·exact .int _ _
 simp only[q_ke] at hy;rcases hy with h|h|h|h|h<;>exact Aa0 y h
def Ak9(r:XQ×Option Nat):NoG (.tup (If r)):=by
 obtain⟨x,e⟩:=r;cases e with
 |none=>exact .tup _ (fun y hy=>by
   simp only[If,q_kb,q_kc,or_false] at hy;rcases hy with rfl|rfl|rfl
   ·exact .agg _ _ (Ay2 x)
   ·exact .int _ _
   ·exact .int _ _)
 |some p=>exact .tup _ (fun y hy=>by
   simp only[If,q_kb,q_kc,or_false] at hy;rcases hy with rfl|rfl|rfl
   ·exact .agg _ _ Ay3
   ·exact .int _ _
   ·exact .int _ _)
def Am1(x:XQ):(xqV x).length=28:=by
 have h:=fun t=>Br t
 unfold xqV;split<;>simp[h,z5]
def Ag0{tx:By}(hg:GoodP (qcR tx)):Con 14 [.str (bs tx)] (.tup (If (Nt tx))):=by
 have Zl:(qcR tx).tx=tx:=by unfold qcR;split<;>rfl
 have hn:=hg.hn;have hm:=hg.m;rw[Zl] at hm;have hL:=j4 tx;have c0:=o0 (l:=tx) (by omega);have hle:=(Jz tx).le.2.2;have Fy:∀x∈[SV.str (bs tx)],NoG x:=fun x hx=>by
  simp only[q_kh] at hx;subst hx;exact .str _
 refine o5 mixed Tryz.func14 tr14 Fy (Ak9 _) ?_;clear Fy;unfold Nt;dsimp only;have c1:=Ix (c:=qcR tx) (s:=⟨0,false,0⟩) hn 1;have k1:(Bs (qcR tx) ⟨0,false,0⟩ 1).2.k<=(qcR tx).L.length:=Kd (Nat.zero_le _);generalize Bs (qcR tx) ⟨0,false,0⟩ 1=q1 at *
 obtain⟨w1,s1⟩:=q1;dsimp only at c1 k1 |-;have c2:=Avf hg k1;generalize Je (qcR tx) s1=q2 at *
 obtain⟨x,s2⟩:=q2;dsimp only at c2 |-;have Gh:=Am1 x;have c3:=Ix (c:=qcR tx) (s:=s2) hn 2;generalize Bs (qcR tx) s2 2=q3 at *
 obtain⟨w3,⟨k3,b3,a3⟩⟩:=q3;dsimp only at c3 |-;have cf:=Vw (c:=qcR tx) (s:=⟨k3,b3,a3⟩) hn k3;have Fo:b3=false->(Dn (qcR tx) ⟨k3,b3,a3⟩ k3).bad=true:=fun h=>by subst h;rfl
 have hq:∀p,(Bi tx).2=some p->(qcR tx).L=Em (tx.take p)/\(qcR tx).e=p:=fun p h=>by unfold qcR;rw[h];exact⟨rfl,rfl⟩
 have Wh:(Bi tx).2=none->(qcR tx).L=Em tx/\(qcR tx).e=tx.length:=fun h=>by unfold qcR;rw[h];exact⟨rfl,rfl⟩
 unfold Co at c1 c2 c3 cf;rw[Zl] at c1 c2 c3 cf;generalize Dn (qcR tx) ⟨k3,b3,a3⟩ k3=sf at *
 cases hx:(Bi tx).2 with
 |none=>
  obtain⟨e1,e2⟩:=Wh hx;rw[hx] at c0;rw[e1,e2] at c1 c2 c3 cf;rw[e1];dsimp only at c0 c1 c2 c3 cf |-;have hb:((Em tx).length<=140737488355328)=True:=by simp;omega
  cases b3
  ·have Fo:=Fo rfl
   by_cases hk:k3<(Em tx).length
   ·have Ff:(k3:Int)<((Em tx).length:Int):=by omega
    simp only[hk,eq_self,true_or,true_and,and_self,if_true,Fo,Wy]
    repeat' first
    |simp only[go_sem,seval,q_g,hb,Gh,zx,z5,q_km,q_kl,Ff,Fo,forall_const]
    |refine Ag c0 ?_
    |refine Ac c1 ?_
    |refine Ac c2 ?_
    |refine Ac c3 ?_
    |refine Ac cf ?_
   ·have Ff:¬(k3:Int)<((Em tx).length:Int):=by omega
    simp only[hk,Option.isSome_none,q_l,or_self,and_false,if_false,Afd]
    repeat' first
    |simp only[go_sem,seval,q_g,hb,Gh,zx,z5,q_km,q_kl,Ff,forall_const]
    |refine Ag c0 ?_
    |refine Ac c1 ?_
    |refine Ac c2 ?_
    |refine Ac c3 ?_
  ·simp only[Bool.true_eq_false,false_and,if_false,if_true,Wy]
   repeat' first
   |simp only[go_sem,seval,q_g,hb,Gh,zx,z5,q_km,q_kl,forall_const]
   |refine Ag c0 ?_
   |refine Ac c1 ?_
   |refine Ac c2 ?_
   |refine Ac c3 ?_
 |some p=>
  obtain⟨e1,e2⟩:=hq p hx;obtain⟨hp,_⟩:=hle p hx;rw[hx] at c0;rw[e1,e2] at c1 c2 c3 cf;rw[e1];have hL2:=j4 (tx.take p);rw[q_kf] at hL2;have c02:=o0 (l:=tx.take p) (by rw[q_kf];omega);generalize (match (Bi (tx.take p)).2 with|none=>(0:Int)|some _=>2)=z1 at c02;generalize (match (Bi (tx.take p)).2 with|none=>(0:Int)|some p=>(p:Int))=z2 at c02;dsimp only at c0 c1 c2 c3 cf |-;generalize Em (tx.take p)=L2 at *
  have hb:((Em tx).length<=140737488355328)=True:=by simp;omega
  have Ci:(L2.length<=140737488355328)=True:=by simp;omega
  have g0:(0:Int)<=(p:Int):=by omega
  have g1:(p:Int)<=(tx.length:Int):=by omega
  have g2:p<=tx.length:=by omega
  cases b3
  ·have Fo:=Fo rfl
   by_cases hk:k3<L2.length
   ·have Ff:(k3:Int)<(L2.length:Int):=by omega
    simp only[hk,eq_self,true_or,true_and,and_self,if_true,Fo,Wy]
    repeat' first
    |simp only[go_sem,seval,q_g,hb,Gh,zx,z5,q_km,q_kl,Ci,g0,g1,g2,List.drop_zero,q_kq,Ff,Fo,forall_const]
    |refine Ag c0 ?_
    |refine Ag c02 ?_
    |refine Ac c1 ?_
    |refine Ac c2 ?_
    |refine Ac c3 ?_
    |refine Ac cf ?_
   ·have Ff:¬(k3:Int)<(L2.length:Int):=by omega
    simp only[Option.isSome_some,eq_self,or_true,true_and,and_self,if_true,Fo,Wy]
    repeat' first
    |simp only[go_sem,seval,q_g,hb,Gh,zx,z5,q_km,q_kl,Ci,g0,g1,g2,List.drop_zero,q_kq,Ff,Fo,forall_const]
    |refine Ag c0 ?_
    |refine Ag c02 ?_
    |refine Ac c1 ?_
    |refine Ac c2 ?_
    |refine Ac c3 ?_
    |refine Ac cf ?_
  ·simp only[Bool.true_eq_false,false_and,if_false,if_true,Wy]
   repeat' first
   |simp only[go_sem,seval,q_g,hb,Gh,zx,z5,q_km,q_kl,Ci,g0,g1,g2,List.drop_zero,q_kq,forall_const]
   |refine Ag c0 ?_
   |refine Ag c02 ?_
   |refine Ac c1 ?_
   |refine Ac c2 ?_
   |refine Ac c3 ?_
def SmC(r:List SV):Prop:=r.length=5/\Con 87 [.agg true r,.agg true r] (.bool true)
def Uv{t:Tm}(h:TOk t):SmC (tv t):=⟨Br t,Ace t h⟩
def Sq:SmC z5:=by
 refine⟨rfl,?_⟩;have hz:TOk zR:=.mk _ _ _ _ _ (by unfold fit;omega) (by unfold fit;omega) (by unfold fit;omega) (by unfold fit;omega) (by simp) (fun t ht=>by cases ht);have h:=Ace zR hz;have le:LeD (.agg true z5) (.agg true (tv zR)):=by
  rw[show tv zR=[.int .i64 0,.int .i64 0,.int .i64 0,.int .i64 0,.dsl 5 []] by unfold zR;rw[Bp];rfl];unfold z5;exact .agg' (.cons (.refl _) (.cons (.refl _) (.cons (.refl _) (.cons (.refl _) (.cons (.nils _) .nil)))))
 exact h.argsD (.cons le (.cons le .nil))
def Aq4{cl:Bool}{c:Nat}{cells:List SV}:cut cl 28 true 5 c cells=.agg cl ((cells.drop c).take 5):=by simp[cut]
attribute [go_sem] Aq4
def Acf{C:SV}(hC:Con 52 [C,C] (.bool true))(eq:Bool)(i:Int){a u b v h:List SV}(ha:SmC a)(hu:SmC u)(hb:SmC b)(hv:SmC v)(hh:SmC h)(hC2:C=.nils\/∃n l,C=.dsl n l) :
  Con 16 [.agg true (C::.bool eq::.int .i64 i::(a++(u++(b++(v++h))))),.agg true (C::.bool eq::.int .i64 i::(a++(u++(b++(v++h)))))] (.bool true):=by
 have hT:=Ag9 [a,u,b,v,h] (by simp) (fun r hr=>by
  simp only[q_kb,q_kc,or_false] at hr;rcases hr with rfl|rfl|rfl|rfl|rfl
  ·exact ha.1
  ·exact hu.1
  ·exact hb.1
  ·exact hv.1
  ·exact hh.1) (fun r hr=>by
  simp only[q_kb,q_kc,or_false] at hr;rcases hr with rfl|rfl|rfl|rfl|rfl
  ·exact ha.2
  ·exact hu.2
  ·exact hb.2
  ·exact hv.2
  ·exact hh.2)
 match a,ha.1,u,hu.1,b,hb.1,v,hv.1,h,hh.1 with
 |[a0,a1,a2,a3,a4],_,[u0,u1,u2,u3,u4],_,[b0,b1,b2,b3,b4],_,[v0,v1,v2,v3,v4],_,[h0,h1,h2,h3,h4],_=>
  refine Cu mixed Tryz.func16 tr16 ?_;simp only[q_km,q_kl];rcases hC2 with rfl|⟨n,l,rfl⟩<;>cases eq <;>
  repeat' first
  |simp only[go_sem,seval,beq_self_eq_true]
  |refine Ag hC ?_
  |refine Ag hT ?_
def Ahc(C:List (Tm×Nat)):Ft C=.nils\/∃n l,Ft C=.dsl n l:=by
 cases C with
 |nil=>exact .inl rfl
 |cons e es=>exact .inr ⟨_,_,rfl⟩
def Aql{x:XQ}(h:XOK x):Con 16 [.agg true (xqV x),.agg true (xqV x)] (.bool true):=by
 obtain⟨ctx,eq,i,a,u,b,v,hh⟩:=x;obtain⟨hc,hn,hi,ha,hu,hq⟩:=h;dsimp only at hc hn hi ha hu hq;have hC:=Agt hc hn;unfold xqV;dsimp only;cases eq with
 |false=>exact Acf hC false i (Uv ha.2.2.1) (Uv hu.2.2.1) Sq Sq Sq (Ahc _)
 |true=>
  obtain⟨q1,q2,q3⟩:=hq rfl;exact Acf hC true i (Uv ha.2.2.1) (Uv hu.2.2.1) (Uv q1.2.2.1) (Uv q2.2.2.1) (Uv q3.2.2.1) (Ahc _)
def Aqm:Con 16 [.agg true zx,.agg true zx] (.bool true):=by
 have hC:=Agt (C:=[]) (fun k hk=>absurd hk (by simp)) (by simp);exact Acf hC false 0 Sq Sq Sq Sq Sq (.inl rfl)
end Go.Proofs.YtgfehkhcmnfpaaaGreatDoor.Abs
namespace Go.Proofs.YtgfehkhcmnfpaaaGreatDoor.Nrm
open Go Go.RowKit
def Afa(cap:Array Value)(h:cap.size=1):∃x,cap=#[x]:=by
 obtain⟨l⟩:=cap
 match l,h with
 |[x],_=>exact⟨x,rfl⟩
def Amq(cap:Array Value)(h:cap.size=2):∃x y,cap=#[x,y]:=by
 obtain⟨l⟩:=cap
 match l,h with
 |[x,y],_=>exact⟨x,y,rfl⟩
def A2r(cap:Array Value)(h:cap.size=3):∃x y z,cap=#[x,y,z]:=by
 obtain⟨l⟩:=cap
 match l,h with
 |[x,y,z],_=>exact⟨x,y,z,rfl⟩
def idle_conv(cap:Array Value)(w:World)(h:cap.size=2):CallsD Tryz.prog 142 cap .returning w fun e u' w'=>u'=.returning/\e=.returned (.tuple #[])/\w'=w:=by
 obtain⟨x,y,rfl⟩:=Amq cap h;refine callsD_of_wpS Tryz.func142 rfl fun c₀ cs hu=>?_
 apply wpS_seq;apply wpS_region;simp[wpOpsS,go_sem,recoverD,hu,Tryz.ntmps142,Exit.thenS];apply wpS_seq;apply wpS_region;simp[wpOpsS,go_sem,recoverD,hu,Exit.thenS];refine wpS_cond (t:=false) (by simp[Act.eval,Array.replicate]) ?_;simp only[Bool.false_eq_true,if_false];refine wpS_of_wp (wp_skip ?_);cases c₀;simp_all[bodyPostS,results,Tryz.results142]
def idle_quick(cap:Array Value)(w:World)(h:cap.size=2):CallsD Tryz.prog 204 cap .returning w fun e u' w'=>u'=.returning/\e=.returned (.tuple #[])/\w'=w:=by
 obtain⟨x,y,rfl⟩:=Amq cap h;refine callsD_of_wpS Tryz.func204 rfl fun c₀ cs hu=>?_
 apply wpS_seq;apply wpS_region;simp[wpOpsS,go_sem,recoverD,hu,Tryz.ntmps204,Exit.thenS];apply wpS_seq;apply wpS_region;simp[wpOpsS,go_sem,recoverD,hu,Exit.thenS];refine wpS_cond (t:=false) (by simp[Act.eval,Array.replicate]) ?_;simp only[Bool.false_eq_true,if_false];refine wpS_of_wp (wp_skip ?_);cases c₀;simp_all[bodyPostS,results,Tryz.results204]
def idle_mctx(cap:Array Value)(w:World)(h:cap.size=1):CallsD Tryz.prog 103 cap .returning w fun e u' w'=>u'=.returning/\e=.returned (.tuple #[])/\w'=w:=by
 obtain⟨x,rfl⟩:=Afa cap h;refine callsD_of_wpS Tryz.func103 rfl fun c₀ cs hu=>?_
 apply wpS_seq;apply wpS_region;simp[wpOpsS,go_sem,recoverD,hu,Tryz.ntmps103,Exit.thenS];apply wpS_seq;apply wpS_region;simp[wpOpsS,go_sem,recoverD,hu,Exit.thenS];refine wpS_cond (t:=false) (by simp[Act.eval,Array.replicate]) ?_;simp only[Bool.false_eq_true,if_false];refine wpS_of_wp (wp_skip ?_);cases c₀;simp_all[bodyPostS,results,Tryz.results103]
def idle_mtype(cap:Array Value)(w:World)(h:cap.size=3):CallsD Tryz.prog 140 cap .returning w fun e u' w'=>u'=.returning/\e=.returned (.tuple #[])/\w'=w:=by
 obtain⟨x,y,z,rfl⟩:=A2r cap h;refine callsD_of_wpS Tryz.func140 rfl fun c₀ cs hu=>?_
 apply wpS_seq;apply wpS_region;simp[wpOpsS,go_sem,recoverD,hu,Tryz.ntmps140,Exit.thenS];apply wpS_seq;apply wpS_region;simp[wpOpsS,go_sem,recoverD,hu,Exit.thenS];refine wpS_cond (t:=false) (by simp[Act.eval,Array.replicate]) ?_;simp only[Bool.false_eq_true,if_false];refine wpS_of_wp (wp_skip ?_);cases c₀;simp_all[bodyPostS,results,Tryz.results140]
def idle_kctx(cap:Array Value)(w:World)(h:cap.size=1):CallsD Tryz.prog 109 cap .returning w fun e u' w'=>u'=.returning/\e=.returned (.tuple #[])/\w'=w:=by
 obtain⟨x,rfl⟩:=Afa cap h;refine callsD_of_wpS Tryz.func109 rfl fun c₀ cs hu=>?_
 apply wpS_seq;apply wpS_region;simp[wpOpsS,go_sem,recoverD,hu,Tryz.ntmps109,Exit.thenS];apply wpS_seq;apply wpS_region;simp[wpOpsS,go_sem,recoverD,hu,Exit.thenS];refine wpS_cond (t:=false) (by simp[Act.eval,Array.replicate]) ?_;simp only[Bool.false_eq_true,if_false];refine wpS_of_wp (wp_skip ?_);cases c₀;simp_all[bodyPostS,results,Tryz.results109]
def idle_kcheck(cap:Array Value)(w:World)(h:cap.size=1):CallsD Tryz.prog 116 cap .returning w fun e u' w'=>u'=.returning/\e=.returned (.tuple #[])/\w'=w:=by
 obtain⟨x,rfl⟩:=Afa cap h;refine callsD_of_wpS Tryz.func116 rfl fun c₀ cs hu=>?_
 apply wpS_seq;apply wpS_region;simp[wpOpsS,go_sem,recoverD,hu,Tryz.ntmps116,Exit.thenS];apply wpS_seq;apply wpS_region;simp[wpOpsS,go_sem,recoverD,hu,Exit.thenS];refine wpS_cond (t:=false) (by simp[Act.eval,Array.replicate]) ?_;simp only[Bool.false_eq_true,if_false];refine wpS_of_wp (wp_skip ?_);cases c₀;simp_all[bodyPostS,results,Tryz.results116]
def b9:Nat:=4621256167635550208
def Aqx(w:World):(convert 66 3 (.float .f64 4621256167635550208)).run Tryz.prog w=.ok (.int .i64 9) w:=by kernel_rfl
def limit_9(w:World):Calls Tryz.prog 143 #[.float .f64 4621256167635550208] w fun e w'=>e=.returned (.int .i64 9)/\w'=w:=by
 have hc:=Aqx w;have o1:FloatKind.f64.format.order 4621256167635550208 4621256167635550208=some .eq:=by decide +kernel
 have o2:FloatKind.f64.format.order 4621256167635550208 0=some .gt:=by decide +kernel
 have o3:FloatKind.f64.format.order 4621256167635550208 4741671816366391296=some .lt:=by decide +kernel
 go_enter Tryz.func143,Tryz.ntmps143
 go_wp2
 all_goals
  go_ret
  exact⟨rfl,rfl⟩
def so_true(w:World):Calls Tryz.prog 137 #[.bool true] w fun e w'=>e=.returned (.tuple #[])/\w'=w:=by
 go_enter Tryz.func137,Tryz.ntmps137
 go_wp2
 all_goals
  go_returns
  exact⟨rfl,rfl⟩
end Go.Proofs.YtgfehkhcmnfpaaaGreatDoor.Nrm
namespace Go.Proofs.YtgfehkhcmnfpaaaGreatDoor.Abs
open Go Go.RowKit
section
variable{P:Program}
def Av9{f:Nat}{fn:Func}{c:Code}{ac:AC}{ars:List AR}{t gf k:Nat}{G G':GV}{args:List SV}{r:SV}(hm:P.follows .mixedOrders=true)(hf:P.funcs[f]?=some fn)(hb:fn.body=some c)(hD:TrD P t gf k c ac)(Ig:trR P fn.results.toList=some ars)
  (Tt:∀(cap:Array Value) (w:World),(invoke (.fn (.func gf) cap) #[]).run P w=.ok (.enter gf cap) w) (Ts:∀(cap:Array Value) (w:World),cap.size=k->CallsD P gf cap .returning w fun e u' w'=>u'=.returning/\e=.returned (.tuple #[])/\w'=w)
  (h:vc (Fb P fun _ _=>False) ac (rtG ars (.ret r) G') { sl:=args++List.replicate (fn.ntmps-args.length) .undef,hp:=[gOb G] }):HContract P f G args (.ret r) G':=by
 intro m w vs hmem hsat Bh Dd
 let own:Nat->Prop:=fun b=>∃i,m.d i=some b
 let E0:Env:={ m:=m,m0:=m,H:=fun _=>none,β:=fun _=>0,t:=fun _=>0 }
 have hW:W w own E0 w:=⟨rfl,rfl,rfl,q_ja _,fun _ _ _=>rfl,hmem.1,fun o ob ho=>(by cases ho),fun o o' ob ob' ho=>(by cases ho),fun _ _ _ _=>rfl,hmem.2.1,hmem.2.2.tb (fun b v hv hi=>by obtain⟨i,hi⟩:=hi;rw[hsat.free i b 0 hi] at hv;cases hv)⟩
 have hS:SR w own m (fun _=>True) [] E0 (some G) { sl:=args++List.replicate (fn.ntmps-args.length) .undef,hp:=[gOb G] } { tmps:=vs.toArray++Array.replicate (fn.ntmps-vs.toArray.size) undef,defers:=[] } w:=by
  refine⟨hW,⟨rfl,hsat,fun i b hi=>.inr ⟨i,hi⟩,fun i b o ob _ ho=>by cases ho⟩,fun o=>?_,by simp[Bh],Zq Bh Dd,rfl,rfl,.refl _,(fun h=>by cases h),fun _=>trivial⟩;cases o with
  |zero=>rfl
  |succ o=>rfl
 refine calls_of_wp_defers hf hb ?_
 -- what is there at an end
 have tail:∀(E:Env) (w':World),W w own E w'->GI w.heap.size own E w' G'->m.le E.m->E.m0=m->m.le E.m/\(∀b j,b<w.heap.size->E.m b j=m b j)/\Hw E.m w'/\GSat E.m w' G' /\
   (∀i b,E.m.d i=some b->m.d i=some b\/w.heap.size<=b)/\w'.os=w.os/\w'.tape=w.tape/\w'.output=w.output/\w.heap.size<=w'.heap.size/\∀k,k<w.heap.size->(∀i,m.d i≠some k)->w'.heap[k]?=w.heap[k]?:=by
  intro E w' hW hg hle hz;refine⟨hle,fun b j hb=>?_,⟨hW.mem,hW.pl,hW.tab⟩,hg.sat,fun i b hi=>?_,hW.os,hW.tape,hW.output,hW.size,fun k hk hn=>hW.block k hk (fun ⟨i,hi⟩=>hn i hi)⟩
  ·by_cases ho:own b
   ·obtain⟨i,hi⟩:=ho;rw[hsat.free i b j hi,hg.sat.free i b j (hle.d _ _ hi)]
   ·rw[hW.keep b j hb ho,hz]
  ·rcases hg.new i b hi with h|⟨i',Eh⟩
   ·exact .inr h
   ·have:=hg.sat.inj i i' b hi (hle.d _ _ Eh);subst this;exact .inl Eh
 have fin:∀(Df:List Deferred) (E:Env) (g:Option (GV)) (s:St) (a:Act) (w':World),SR w own m (fun _=>True) Df E g s a w'->Pg ars r G' s->∃v,(results fn a.tmps).run P w'=.ok v w'/\∃m',Rg m' (.returned v) (.ret r)/\m.le m'/\(∀b j,b<w.heap.size->m' b j=m b j)/\Hw m' w'/\GSat m' w' G' /\
   (∀i b,m'.d i=some b->m.d i=some b\/w.heap.size<=b)/\w'.os=w.os/\w'.tape=w.tape/\w'.output=w.output/\w.heap.size<=w'.heap.size/\∀k,k<w.heap.size->(∀i,m.d i≠some k)->w'.heap[k]?=w.heap[k]?:=by
  intro Df E g s a w' hS hr;unfold Pg at hr;split at hr;rotate_left
  ·exact hr.elim
  rename_i p svs hp' Lh;obtain⟨hp,Ua,hG⟩:=hr;obtain⟨us,E',k1,k2,k3,k4,k5⟩:=Xb fn.results.toList ars p svs hp' E s Ig Lh hp hS;have:=Oa (U:=fun _=>True) (s:={ s with hp:=hp' }) (fun o _=>k4.hp o) trivial k4.wo hG;subst this;exact⟨_,Wz k1,E'.m,⟨_,rfl,Wx Ua k2 k3⟩,tail E' w' k4.wo k4.gx k4.le k4.z⟩
 refine Ahi (X:=fun _ _=>False) hm hD (fun _ _ _ _ _ _ h=>h.elim) (fun _ _ _ _ _ _ _ _ h=>h.elim) (fun e E g s a w' hS he=>?_) (fun cap Qr e E g s a w' hS he=>?_) E0 (some G) _ _ w hS h
 ·have hd:=hS.dfr;cases e with
  |normal=>simp only[AE.ex,bodyPostD,hd,Leaves];exact fin _ E g s a w' hS he
  |exit id=>exact he.elim
  |ret=>simp only[AE.ex,bodyPostD,hd,Leaves];exact fin _ E g s a w' hS he
 ·have hd:=hS.dfr;have key:Pg ars r G' s->Leaves P fn a.tmps (fun e w'=>∃m',Rg m' e (.ret r)/\m.le m'/\(∀b j,b<w.heap.size->m' b j=m b j)/\Hw m' w'/\GSat m' w' G' /\
   (∀i b,m'.d i=some b->m.d i=some b\/w.heap.size<=b)/\w'.os=w.os/\w'.tape=w.tape/\w'.output=w.output/\w.heap.size<=w'.heap.size/\∀k,k<w.heap.size->(∀i,m.d i≠some k)->w'.heap[k]?=w.heap[k]?) [Vm gf cap] .returning w':=by
   intro he;refine leaves_cons (f:=gf) (args:=cap) (by simp) (Tt cap w') ?_;refine (Ts cap w' Qr).mono ?_;rintro e u' w'' ⟨rfl,rfl,rfl⟩;exact fin _ E g s a w'' hS he
  cases e with
  |normal=>simp only[AE.ex,bodyPostD,hd];exact key he
  |exit id=>exact he.elim
  |ret=>simp only[AE.ex,bodyPostD,hd];exact key he
def Amt(C:CT)(f:AF)(G:GV)(args:List SV)(r:SV)(G':GV):Prop:=vc C f.body (rtG f.res (.ret r) G') ⟨args++List.replicate (f.ntmps-args.length) .undef,[gOb G]⟩
def Asa{C:CT}{b:AC}{n:Nat}{res:List AR}{G G':GV}{args:List SV}{r:SV}:Amt C { ntmps:=n,res:=res,body:=b } G args r G'=vc C b (rtG res (.ret r) G') ⟨args++List.replicate (n-args.length) .undef,[gOb G]⟩:=q_z
attribute [go_sem] Asa
def Awa{f:Nat}{fn:Func}{af:AF}{t gf k:Nat}{G G':GV}{args:List SV}{r:SV}(hm:P.follows .mixedOrders=true)(hf:P.funcs[f]?=some fn)(htr:Qb P fn=some (af,t,gf,k))
  (Tt:∀(cap:Array Value) (w:World),(invoke (.fn (.func gf) cap) #[]).run P w=.ok (.enter gf cap) w) (Ts:∀(cap:Array Value) (w:World),cap.size=k->CallsD P gf cap .returning w fun e u' w'=>u'=.returning/\e=.returned (.tuple #[])/\w'=w)
  (h:Amt (Fb P fun _ _=>False) af G args r G'):HContract P f G args (.ret r) G':=by
 unfold Qb at htr;split at htr;rotate_left
 ·cases htr
 rename_i c hb;split at htr;rotate_left
 ·cases htr
 rename_i ars Ig;simp only[q_e] at htr;obtain⟨⟨ac,q⟩,hq,Qy⟩:=htr;cases Qy;exact Av9 hm hf hb (Amn hq) Ig Tt Ts h
end
open Go Go.Proofs Go.Proofs.YtgfehkhcmnfpaaaGreatDoor
def af107:AF:=⟨28,[(.cell 6 false 1),(.cell 7 false 1)],(Ab [oP 3 (.box (.t 0)),oP 4 (.box (.t 1)),oP 6 (.new [(.bool false)]),oP 7 (.new [(iS 0)])] (.seq (Ab [oP 9 (Aq 5 3),oP 10 (.call 23 [(.t 9)]),oP 11 (.un .not (.t 10)),Aa 12 11,oG 13 12 false 0 (Aq 5 4),oG 14 12 false 0 (.call 23 [(.t 13)]),oG 15 12 false 0 (.un .not (.t 14)),oP 16 (Dk 12 15)] (Aj 16 (Ab [oN (.store 1 (.t 6) (cB false)),oN (.store 1 (.t 7) (cI 1))] .ret) .skip)) (Ab [oP 17 (.mv (cB true)),oN (.un .not (.t 17)),oP 17 (.mv (.c .J))] (Ab [Aa 18 2,oP 19 (.call 143 [(.t 18)]),Aa 8 19] (.seq (.cut (.reg [Aa 20 8,⟨(some 21),(.hcall 144 [(.t 20)]),none,1,true,[]⟩,⟨(some 22),(Aq 5 3),none,2,false,[1]⟩,⟨(some 23),(.hcall 114 [(.t 22),(.c .nilp)]),none,3,true,[]⟩,⟨(some 24),(Aq 5 4),none,4,false,[1,3]⟩,oI 25 5 (.hcall 114 [(.t 24),(.c .nilp)]),oI 26 6 (mT 8)] true) (.cut (Bg [⟨(some 27),(.hcall 145 [(.t 21),(.t 23),(.t 25),(cI 0),(.t 26)]),none,7,false,[7]⟩]) (.reg [oJ 8 (Ax 1 6 27),oJ 9 (.store 1 (.t 7) (cI 0))] true))) .ret)))))⟩
def tr107:Qb Tryz.prog Tryz.f107=some (af107,17,142,2):=by kernel_rfl
attribute [go_sem] af107
def af174:AF:=⟨21,[(.cell 10 false 1),(.cell 11 false 1)],(Ab [oP 10 (.new [(.bool false)]),oP 11 (.new [(.bool false)])] (Ab [oP 12 (.mv (cB true)),oN (.un .not (.t 12)),oP 12 (.mv (.c .J))] (Ab [Aa 13 0,Aa 14 4,oP 15 (.hcall 175 [(.t 13),(.t 14)])] (Ab [Aa 16 0,Aa 17 1,Aa 18 2,Aa 19 3,oP 20 (.hcall 205 [(.t 16),(.t 17),(.t 18),(.t 19),(cB true)]),oN (Ax 1 10 20),oN (.store 1 (.t 11) (cB true))] .ret))))⟩
def tr174:Qb Tryz.prog Tryz.f174=some (af174,12,204,2):=by kernel_rfl
attribute [go_sem] af174
def af205:AF:=⟨62,[(.t 10)],(Ab [oP 10 (.mv (cB false))] (Ab [Aa 11 0,oP 12 (.hcall 206 [(.t 11)])] (.seq (.seq (.cut (.reg [Aa 13 1,oI 14 1 (mT 2)] true) (.cut (Bg [oI 15 2 (.bin 2 .eql (.t 13) (.t 14))]) (.cut (.reg [oI 16 3 (mT 15),oG 17 16 false 4 (mT 1),oG 18 16 false 5 (Ak 17),oG 19 16 false 6 (Ae 6 18),oG 20 16 false 7 (Ah 19),oG 21 16 false 8 (.un .not (.t 20)),oG 22 16 false 9 (mT 21),oG 23 22 true 10 (mT 2),oG 24 22 true 11 (Ak 23),oG 25 22 true 12 (Ae 6 24),oG 26 22 true 13 (Ah 25),oG 27 22 true 14 (.un .not (.t 26)),oG 28 16 false 15 (Cf 22 27),oG 29 16 false 16 (mT 28),oG 30 29 true 17 (mT 1),oG 31 29 true 18 (Ak 30),oG 32 29 true 19 (Ae 5 31),oG 33 29 true 20 (Ah 32),oG 34 29 true 21 (mT 2),oG 35 29 true 22 (Ak 34),oG 36 29 true 23 (Ae 5 35),oG 37 29 true 24 (Ah 36)] true) (.cut (Bg [oG 38 29 true 25 (.bin 2 .eql (.t 33) (.t 37))]) (.reg [oG 39 16 false 26 (Cf 29 38),oG 40 16 false 27 (mT 39),oG 41 40 true 28 (mT 1),oG 42 40 true 29 (Ak 41),oG 43 40 true 30 (Ae 0 42),oG 44 40 true 31 (Aq 5 43),oG 45 40 true 32 (mT 2),oG 46 40 true 33 (Ak 45),oG 47 40 true 34 (Ae 0 46),oG 48 40 true 35 (Aq 5 47),oG 49 40 true 36 (.call 22 [(.t 44),(.t 48)]),oG 50 16 false 37 (Cf 40 49),oI 51 38 (Dk 16 50)] true))))) (Aj 51 (Ab [oP 10 (.mv (cB true))] .ret) .skip)) (Ab [Aa 52 0,Aa 53 0,Aa 54 1,oP 55 (.hcall 201 [(.t 53),(.t 54)]),Aa 56 0,Aa 57 2,oP 58 (.hcall 201 [(.t 56),(.t 57)]),Aa 59 3,Aa 60 4,oP 61 (.hcall 226 [(.t 52),(.t 55),(.t 58),(.t 59),(.t 60)]),Aa 10 61] .ret))))⟩
def tr205:trF Tryz.prog Tryz.f205=some af205:=by kernel_rfl
attribute [go_sem] af205
def af145:AF:=⟨39,[(.t 10)],(Ab [oP 10 (.mv (cB false))] (Ab [Aa 15 0,Aa 16 1,Aa 17 2,Aa 18 3,Aa 19 4,oP 20 (.mnx false (.t 19) (cI 300000)),oP 21 (.hcall 174 [(.t 15),(.t 16),(.t 17),(.t 18),(.t 20)]),Aa 14 21,oP 22 (.ext (.t 14) 0),oP 23 (.ext (.t 14) 1),Aa 11 22,Aa 12 23] (.seq (Ab [Aa 24 12] (Aj 24 (Ab [Aa 25 11,Aa 10 25] .ret) .skip)) (Ab [Aa 26 0,Aa 27 4,oP 28 (.hcall 175 [(.t 26),(.t 27)])] (Ab [Aa 29 0,Aa 30 1,Aa 31 3,oP 32 (.hcall 176 [(.t 29),(.t 30),(.t 31)]),oP 13 Fp,oN (Ax 5 13 32)] (Cx [⟨(some 33),(Aq 5 13),none,0,true,[]⟩,oI 34 1 (mT 0),oI 35 2 (mT 2),oI 36 3 (mT 3),⟨(some 37),(.hcall 176 [(.t 34),(.t 35),(.t 36)]),none,4,false,[0,4]⟩,oI 38 5 (.call 177 [(.t 33),(.t 37)]),oI 10 6 (mT 38)] .ret))))))⟩
def tr145:trF Tryz.prog Tryz.f145=some af145:=by kernel_rfl
attribute [go_sem] af145
def a202_24:AC:=.blk 1 (.seq (Ab [Aa 7 1,oP 8 (Ak 7),oP 9 (Ae 0 8),oP 10 (Ah 9),oP 11 (An 10 23)] (Aj 11 (.seq (Cx [Aa 12 0,oI 13 1 (mT 1),oI 14 2 (Ak 13),oI 15 3 (Ae 3 14),oI 16 4 (Ah 15),oI 17 5 (mT 1),oI 18 6 (Ak 17),oI 19 7 (Ae 1 18),oI 20 8 (Ah 19),oI 21 9 (mT 1),oI 22 10 (Ak 21),oI 23 11 (Ae 2 22),oI 24 12 (Ah 23),⟨(some 25),(.hcall 222 [(.t 12),(.t 16),(.t 20),(.t 24)]),none,13,false,[13]⟩,oI 5 14 (mT 25)] (Ab [Aa 26 5,oP 27 (.bin 2 .neq (.t 26) (.c .nilp)),Aa 28 27,oG 29 28 true 0 (mT 5),oG 30 28 true 0 (Ak 29),oG 31 28 true 0 (Ae 12 30),oG 32 28 true 0 (Ah 31),oP 33 (Cf 28 32)] (Aj 33 (Ab [Aa 34 1,oP 35 (Ak 34),oP 36 (Ae 3 35),oP 37 (Ah 36),Aa 4 37] .ret) .skip))) (Ab [oP 4 (.mv (cI 0))] .ret)) .skip)) (Ab [Aa 38 1,oP 39 (Ak 38),oP 40 (Ae 0 39),oP 41 (Ah 40),oP 42 (.call 223 [(.t 41)]),Aa 6 42] (.seq (Ab [Aa 43 6,oP 44 (Ay .lss 43 0)] (Aj 44 (Ab [oP 4 (.mv (cI 0))] .ret) .skip)) (Bg [Aa 45 1,oP 46 (Ak 45),oP 47 (Ae 5 46),oP 48 (Ah 47),Aa 49 6,oP 50 (.iad 1 (.t 48) (.t 49)),oP 51 (Ah 50),oP 52 (Ak 51),oP 53 (Ae 7 52),oP 54 (Ah 53),Aa 1 54]))))
def af202:AF:=⟨55,[(.t 4)],(Ab [oP 4 (.mv (cI 0))] (.blk 0 (.loop a202_24)))⟩
def tr202:trF Tryz.prog Tryz.f202=some af202:=by kernel_rfl
attribute [go_sem] af202 a202_24
def a221_54:AC:=.blk 1 (.seq (Ab [oP 10 (Ae 0 4),oP 11 (Ah 10),oP 12 (An 11 2)] (Aj 12 (.seq (Ab [Aa 13 2,oP 14 (Ae 1 4),oP 15 (Ah 14),oP 16 (.call 220 [(.t 13),(.t 15)]),Aa 7 16] (Ab [Aa 17 7,oP 18 (.bin 2 .neq (.t 17) (.c .nilp))] (Aj 18 (Ab [Aa 19 0,Aa 20 7,oP 21 (.hcall 201 [(.t 19),(.t 20)]),Aa 6 21] .ret) .skip))) (Cx [Aa 22 2,⟨(some 23),(.call 185 [(.t 22)]),none,1,true,[]⟩,oI 24 2 (Ae 1 4),⟨(some 25),(Ah 24),none,3,false,[1]⟩,oI 26 4 (Ca .sub 23 25),oI 27 5 (Ay .sub 26 1),oI 28 6 (.build [(iS 0),(iS 0),(iS 0),(iS 0),(iS 0),.nils] [(0,(1,(cI 2))),(4,(1,(.t 27)))]),oI 29 7 (.box (.t 28)),oI 6 8 (mT 29)] .ret)) .skip)) (Ab [oP 30 (Ae 0 4),oP 31 (Ah 30),oP 32 (.call 223 [(.t 31)]),Aa 8 32] (.seq (Ab [Aa 33 8,oP 34 (Ay .lss 33 0)] (Aj 34 (Ab [Aa 35 0,oP 36 (Aq 5 4),Aa 37 2,oP 38 (.hcall 230 [(.t 35),(.t 36),(.t 37),(cI (-1)),(.c .nilp)]),Aa 6 38] .ret) .skip)) (Ab [Aa 39 0,oP 40 (Ae 4 4),oP 41 (Ah 40),Aa 42 8,oP 43 (.iad 5 (.t 41) (.t 42)),oP 44 (Aq 5 43),Aa 45 2,oP 46 (.hcall 221 [(.t 39),(.t 44),(.t 45)]),Aa 9 46] (.blk 2 (Ab [oP 54 (Ae 0 4),oP 55 (Ah 54),oP 56 (An 55 15),Aa 57 56,oG 58 57 true 0 (mT 9),oG 59 57 true 0 (Ak 58),oG 60 57 true 0 (Ae 0 59),oG 61 57 true 0 (Ah 60),oG 62 57 true 0 (An 61 14),oP 63 (Cf 57 62),Aa 53 63] (Aj 53 (Ab [Aa 64 0,oP 65 (.hcall 224 [(.t 64)])] (.reg [Aa 66 9,oI 67 1 (Ak 66),oI 68 2 (Ae 5 67),⟨(some 69),(Ah 68),none,3,true,[]⟩,⟨(some 70),(.iad 1 (.t 69) (cI 1)),none,4,true,[]⟩,⟨(some 71),(Ah 70),none,5,true,[]⟩,oI 72 6 (Ak 71),oI 73 7 (Ae 0 72),⟨(some 74),(Aq 5 73),none,8,true,[]⟩,oI 75 9 (mT 9),oI 76 10 (Ak 75),oI 77 11 (Ae 5 76),⟨(some 78),(Ah 77),none,12,true,[]⟩,⟨(some 79),(.iad 1 (.t 78) (cI 1)),none,13,true,[]⟩,⟨(some 80),(Ah 79),none,14,true,[]⟩,oI 81 15 (Ak 80),oI 82 16 (Ae 5 81),⟨(some 83),(Ah 82),none,17,true,[]⟩,oI 84 18 (Ae 4 4),oI 85 19 (Ah 84),oI 86 20 (.iad 5 (.t 85) (cI 1)),oI 87 21 (Aq 5 86),oI 88 22 (mT 2),⟨(some 89),(.hcall 114 [(.t 87),(.t 88)]),none,23,false,[3,4,5,8,12,13,14,17,23]⟩,⟨(some 90),(.call 149 [(.t 83),(.t 89)]),none,24,false,[3,4,5,8]⟩,oJ 25 (Ax 5 4 74),oI 2 26 (mT 90)] true)) (Ab [oP 92 (Ae 0 4),oP 93 (Ah 92),oP 94 (An 93 18),Aa 95 94,oG 96 95 true 0 (mT 9),oG 97 95 true 0 (Ak 96),oG 98 95 true 0 (Ae 0 97),oG 99 95 true 0 (Ah 98),oG 100 95 true 0 (An 99 17),oP 101 (Cf 95 100),Aa 91 101] (Aj 91 (Ab [Aa 102 0,oP 103 (.hcall 224 [(.t 102)])] (Ab [Aa 104 0,Aa 105 9,oP 106 (Ak 105),oP 107 (Ae 5 106),oP 108 (Ah 107),oP 109 (.iad 1 (.t 108) (cI 2)),oP 110 (Ah 109),oP 111 (.hcall 201 [(.t 104),(.t 110)]),Aa 6 111] .ret)) (Ab [oP 113 (Ae 0 4),oP 114 (Ah 113),oP 115 (An 114 19),Aa 116 115,oG 117 116 true 0 (mT 9),oG 118 116 true 0 (Ak 117),oG 119 116 true 0 (Ae 0 118),oG 120 116 true 0 (Ah 119),oG 121 116 true 0 (An 120 17),oP 122 (Cf 116 121),Aa 112 122] (Aj 112 (Ab [Aa 123 0,oP 124 (.hcall 224 [(.t 123)])] (Ab [Aa 125 0,Aa 126 9,oP 127 (Ak 126),oP 128 (Ae 5 127),oP 129 (Ah 128),oP 130 (.iad 1 (.t 129) (cI 3)),oP 131 (Ah 130),oP 132 (.hcall 201 [(.t 125),(.t 131)]),Aa 6 132] .ret)) (Ab [oP 134 (Ae 0 4),oP 135 (Ah 134),oP 136 (An 135 22),Aa 137 136,oG 138 137 true 0 (mT 9),oG 139 137 true 0 (Ak 138),oG 140 137 true 0 (Ae 0 139),oG 141 137 true 0 (Ah 140),oG 142 137 true 0 (An 141 21),oP 143 (Cf 137 142),Aa 133 143] (Aj 133 (Ab [Aa 144 0,oP 145 (.hcall 224 [(.t 144)])] (Bg [oP 146 (Ae 4 4),oP 147 (Ah 146),oP 148 (.iad 5 (.t 147) (cI 3)),oP 149 (Aq 5 148),oN (Ax 5 4 149)])) (Ab [Aa 47 0,oP 48 (Aq 5 4),Aa 49 2,Aa 50 8,Aa 51 9,oP 52 (.hcall 230 [(.t 47),(.t 48),(.t 49),(.t 50),(.t 51)]),Aa 6 52] .ret))))))))))))))
def af221:AF:=⟨150,[(.t 6)],(Ab [oP 4 (.box (.t 1)),oP 6 (.mv (.c .nilp))] (.blk 0 (.loop a221_54)))⟩
def tr221:trF Tryz.prog Tryz.f221=some af221:=by kernel_rfl
attribute [go_sem] af221 a221_54
def af230:AF:=⟨65,[(.t 10)],(Ab [oP 6 (.box (.t 1)),oP 10 (.mv (.c .nilp))] (Ab [oP 14 (Ae 0 6),oP 15 (Ah 14),oP 16 (Ae 1 6),oP 17 (Ah 16),oP 18 (Ae 2 6),oP 19 (Ah 18),oP 20 (Ae 3 6),oP 21 (Ah 20),oP 22 (.build [(iS 0),(iS 0),(iS 0),(iS 0),(iS 0),.nils] [(0,(1,(.t 15))),(1,(1,(.t 17))),(2,(1,(.t 19))),(3,(1,(.t 21)))]),oP 23 (.box (.t 22)),Aa 11 23] (.seq (Ab [oP 24 (Ae 4 6),oP 25 (Ah 24),oP 26 (.len false (.t 25)),oP 27 (Ay .gtr 26 0)] (Aj 27 (Bg [Aa 28 11,oP 29 (Ae 4 6),oP 30 (Ah 29),oP 31 (.len false (.t 30)),oP 32 (.mk 1 8 [.nilp] (.t 31) (.t 31)),oP 33 (Ak 28),oP 34 (Ae 5 33),oN (Ax 1 34 32)]) .skip)) (.seq (Ab [oP 35 (Ae 4 6),oP 36 (Ah 35),oP 37 (.len false (.t 36)),oP 38 (.mv (cI 0))] (.blk 0 (.loop (Ab [oP 39 (Ca .lss 38 37)] (.seq (Et 39 0) (.seq (.blk 1 (Ab [Aa 40 38,oP 41 (.iad 5 (.t 36) (.t 38)),oP 42 (Aq 5 41),oP 13 Fp,Aa 12 40,oN (Ax 5 13 42)] (.seq (Ab [Aa 43 12,Aa 44 3,oP 45 (Ca .eql 43 44)] (Aj 45 (Cx [Aa 46 11,oI 47 1 (Ak 46),oI 48 2 (Ae 5 47),⟨(some 49),(Ah 48),none,3,true,[]⟩,oI 50 4 (mT 12),oI 51 5 (mT 4),⟨(some 52),(.hcall 181 [(.t 51)]),none,6,false,[3,6]⟩,oI 53 7 (.iad 1 (.t 49) (.t 50)),oJ 8 (Ax 1 53 52)] (.exit 1)) .skip)) (.reg [Aa 54 11,oI 55 1 (Ak 54),oI 56 2 (Ae 5 55),⟨(some 57),(Ah 56),none,3,true,[]⟩,oI 58 4 (mT 12),oI 59 5 (Aq 5 13),oI 60 6 (mT 2),⟨(some 61),(.hcall 114 [(.t 59),(.t 60)]),none,7,false,[3,7]⟩,oI 62 8 (.iad 1 (.t 57) (.t 58)),oJ 9 (Ax 1 62 61)] true)))) (Bg [oP 63 (Ay .add 38 1),Aa 38 63]))))))) (Ab [Aa 64 11,Aa 10 64] .ret)))))⟩
def tr230:trF Tryz.prog Tryz.f230=some af230:=by kernel_rfl
attribute [go_sem] af230
open Go Go.RowKit Go.Proofs.YtgfehkhcmnfpaaaGreatDoor
def Alf(y:Option Vl){hp:List Ob}:Ek hp (Gi y)=some (Gi y,hp)/\El hp (Gi y)=some (Gi y,hp)/\Ez hp (Gi y)=[]/\Dy (Gi y)=[]/\(Gi y).closed=true/\(Gi y).ok=true/\cellsOf (Gi y)=[Gi y]:=by
 cases y<;>exact⟨rfl,rfl,rfl,rfl,rfl,rfl,rfl⟩
def Azr{e:Option Vl}{hp:List Ob}:Ek hp (Gi e)=some (Gi e,hp):=(Alf e).1
def Azs{e:Option Vl}{hp:List Ob}:Ez hp (Gi e)=[]:=(Alf e).2.2.1
attribute [go_sem] Azr Azs
def Anu(n:Nat)(e:List Nat):Dm n (Fm e)=true:=by cases e<;>rfl
def Anv(n:Nat)(e:Option Vl):Dm n (Gi e)=true:=by cases e<;>rfl
attribute [go_sem] Anu Anv
def Aa1(k:Int)(y:Option Vl)(e:List Nat)(i:Nat)(kid:Tm):List SV:=if (i:Int)=k then Acn y none else thR ⟨kid,e,false,none,none⟩
def Jo(k:Int)(y:Option Vl)(e:List Nat):Nat->List Tm->GV
 |_,[]=>[]
 |i,x::l=>Aa1 k y e i x::Jo k y e (i+1) l
def Ay5(k:Int)(y:Option Vl)(e:List Nat):∀(a b:List Tm) (i:Nat),Jo k y e i (a++b)=Jo k y e i a++Jo k y e (i+a.length) b:=by
 intro a
 induction a with
 |nil=>intro b i;simp[Jo]
 |cons x a ih=>intro b i;simp only[q_km,Jo,ih,q_jk];rw[show i+1+a.length=i+(a.length+1) by omega]
def Ay6(k:Int)(y:Option Vl)(e:List Nat):∀(a:List Tm) (i:Nat),(Jo k y e i a).length=a.length:=by
 intro a
 induction a with
 |nil=>intro i;rfl
 |cons x a ih=>intro i;simp[Jo,ih]
def Anw{a b:Int}(h:a=b):(a==b)=true:=by simpa using h
def Avu{G:GV}{m:Nat}(k' i' j' n':Int)(l:List Tm)(hb:l.length*56<=140737488355328)(hz:l≠[])(e:List Nat)(k:Int)(y:Option Vl)(hy:∀q:Nat,q<l.length->(q:Int)=k->∃v,y=some v) :
  Cj 230 G [.gp m 0,.agg true (tv (.mk k' i' j' n' l)),Fm e,.int .i64 k,Gi y] (.ret (vlV ⟨k',i',j',n',0,List.range' G.length l.length⟩)) (G++Jo k y e 0 l):=by
 refine Bq mixed Tryz.func230 tr230 ?_;rw[Bp];have Bh:0<l.length:=List.length_pos_iff.2 hz;have h3:l.length<=140737488355328:=by omega
 have e1:(0:Int)<=(l.length:Int):=by omega
 have e2:((l.length:Int)*8<=140737488355328):=by omega
 have e3:((l.length:Int)<=140737488355328):=by omega
 simp only[go_sem,seval,q_g,h3,q_jn (show (l.length:Int) > 0 by omega),e1,e2,e3,Int.le_refl];have hlx:∀x,x<=l.length->(G++Jo k y e 0 (l.take x)).length=G.length+x:=fun x hx=>by rw[q_jr,Ay6,q_kf,Nat.min_eq_left hx]
 have Jm:∀x,(h:x<l.length)->G++Jo k y e 0 (l.take (x+1))=(G++Jo k y e 0 (l.take x))++[Aa1 k y e x l[x]]:=fun x h=>by
  rw[List.take_succ_eq_append_getElem h,Ay5,q_ju,q_kf,Nat.min_eq_left (by omega),q_jg];rfl
 refine Nz (fun x=>⟨(.gp m 0::.J::Fm e::.int .i64 k::Gi y::.J::.ref 1 0 0 0::jk4 (.ref 2 0 0 0::Ef (jk8 (.dsl 5 (l.map tv)::.int .i64 l.length::.int .i64 x::Ef (jk8 (jk2 ([]))))))),[gOb (G++Jo k y e 0 (l.take x)),⟨true,5,[[.int .i64 k',.int .i64 i',.int .i64 j',.int .i64 n',.dsl 5 (l.map tv)]],0,0,true⟩,⟨true,6,[[.int .i64 k',.int .i64 i',.int .i64 j',.int .i64 n',.int .i64 0,.osl 3 0 0 l.length]],0,0,false⟩,⟨false,1,((List.range' G.length x).map fun i=>[SV.gp i 0])++List.replicate (l.length-x) [.nilp],0,0,true⟩]⟩) l.length (fun x hx=>?_) ?_
 ·by_cases Am:x<l.length
  ·have e0:(0:Int)<=(x:Int):=by omega
   have hg:(l.map tv)[x]?.getD []=tv l[x]:=by rw[q_ji,q_f Am];rfl
   have hset:(((List.range' G.length x).map fun i=>[SV.gp i 0])++List.replicate (l.length-x) [SV.nilp]).set x [SV.gp (G.length+x) 0]=((List.range' G.length (x+1)).map fun i=>[SV.gp i 0])++List.replicate (l.length-(x+1)) [SV.nilp]  :=by
    rw[List.set_append_right _ _ (by simp),q_g,List.length_range',Nat.sub_self,show l.length-x=(l.length-(x+1))+1 by omega,List.replicate_succ,List.set_cons_zero,List.range'_concat,q_kt,q_ju,Nat.one_mul];rfl
   by_cases hk:(x:Int)=k
   ·obtain⟨yv,rfl⟩:=hy x Am hk;simp only[go_sem,seval,q_jn (show (x:Int)<l.length by omega),e0,q_g,Am,hg,Br,Anw hk];refine⟨by omega,Ac (Avh _ yv) ?_⟩;simp only[go_sem,seval,hlx x (Nat.le_of_lt Am),q_jr,q_g,List.length_range',q_ki,e0,hset,show (x:Int)<l.length by omega,show x<x+(l.length-x) by omega,w64 (show fit ((x:Int)+1) by unfold fit;omega)];refine⟨Am,?_⟩;rw[Jm x Am,Aa1,if_pos hk];exact Fx 4 (by simp[Bm,Rn]) (by simp only[List.take_succ_cons,List.take_zero]) (by simp only[go_sem,seval,List.forall_mem_cons]) (by simp[Dm,gOb])
   ·simp only[go_sem,seval,q_jn (show (x:Int)<l.length by omega),e0,q_g,Am,hg,Br,Bo hk];refine⟨by omega,Ac (Yn _ _ e) ?_⟩;simp only[go_sem,seval,hlx x (Nat.le_of_lt Am),q_jr,q_g,List.length_range',q_ki,e0,hset,show (x:Int)<l.length by omega,show x<x+(l.length-x) by omega,w64 (show fit ((x:Int)+1) by unfold fit;omega)];refine⟨Am,?_⟩;rw[Jm x Am,Aa1,if_neg hk];exact Fx 4 (by simp[Bm,Rn]) (by simp only[List.take_succ_cons,List.take_zero]) (by simp only[go_sem,seval,List.forall_mem_cons]) (by simp[Dm,gOb])
  ·have:x=l.length:=by omega
   subst this;simp only[go_sem,seval,q_je (show ¬((l.length:Nat):Int)<l.length by omega),q_kk,Nat.sub_self,List.replicate_zero];rw[vlV,vlC,Amk (by simp[List.range'_eq_nil_iff];omega),q_js (by simp)]
 ·simp only[List.take_zero,Jo,q_k,List.range'_zero,q_i,q_kl,q_kq];exact Bv (by simp[Bm])
def Abq{C:CT}{b:AC}{Q:AE->St->Prop}{n:Nat}{s s':St}(h:Wk s s')(k:vcI C b Q n s'):vcI C b Q n s:=by
 cases n with
 |zero=>exact k
 |succ n=>
  obtain⟨s0,h1,h2⟩:=k;exact⟨s0,.trans h h1,h2⟩
def EvL(G:GV)(m:Nat)(t:Tm)(e:List Nat)(out:HOut)(G':GV):Prop:=
 ∃n,vcI (Fb Tryz.prog fun x G1=>out=.pan x/\G1=G') a221_54 (bk 0 (rtG [.t 6] out G')) n ⟨(.gp m 0::.J::Fm e::.J::.ref 1 0 0 0::Cm (Cm (Cm (Cm (Ef (.J::[])))))),[gOb G,⟨true,5,[tv t],0,0,true⟩]⟩
def Avi{G G':GV}{m:Nat}{t:Tm}{e:List Nat}{out:HOut}(h:EvL G m t e out G'):Cj 221 G [.gp m 0,.agg true (tv t),Fm e] out G':=by
 refine Bq mixed Tryz.func221 tr221 ?_;obtain⟨n,h⟩:=h;simp only[go_sem,seval,Br];exact Dv n (Abq (Bv (by simp[Bm])) h)
def Ag7{k:Int}(h:k≠15/\k≠18/\k≠19/\k≠22):Con 223 [.int .i64 k] (.int .i64 (-1)):=by
 have:=Ach k
 rwa [if_neg (by omega),if_neg h.2.2.2] at this
def Aqo{k:Int}(h:k=15\/k=18\/k=19):Con 223 [.int .i64 k] (.int .i64 0):=by
 have:=Ach k
 rwa [if_pos h] at this
def Aqp:Con 223 [.int .i64 22] (.int .i64 5):=Ach 22
def Avv{G:GV}{m:Nat}(k' i' j' n':Int)(e:List Nat)(k:Int)(y:Option Vl) :
  Cj 230 G [.gp m 0,.agg true (tv (.mk k' i' j' n' [])),Fm e,.int .i64 k,Gi y] (.ret (vlV ⟨k',i',j',n',0,[]⟩)) G:=by
 refine Bq mixed Tryz.func230 tr230 ?_;rw[Bp];simp only[go_sem,seval,q_i];refine Dv 1 (Ao ?_);simp only[go_sem,seval,vlV,vlC,A2s]
def Aa2(k' i' j' n':Int)(l:List Tm)(a:Nat):Vl:=⟨k',i',j',n',0,List.range' a l.length⟩
def Avw{G:GV}{m:Nat}(k' i' j' n':Int)(l:List Tm)(hb:l.length*56<=140737488355328)(e:List Nat)(k:Int)(y:Option Vl)(hy:∀q:Nat,q<l.length->(q:Int)=k->∃v,y=some v) :
  Cj 230 G [.gp m 0,.agg true (tv (.mk k' i' j' n' l)),Fm e,.int .i64 k,Gi y] (.ret (vlV (Aa2 k' i' j' n' l G.length))) (G++Jo k y e 0 l):=by
 by_cases hz:l=[]
 ·subst hz;have:=Avv (G:=G) (m:=m) k' i' j' n' e k y;simpa [Aa2,Jo] using this
 ·exact Avu k' i' j' n' l hb hz e k y hy
def Aug{G:GV}{m:Nat}{k i j n:Int}{l:List Tm}{e:List Nat}(hb:l.length*56<=140737488355328)(hk:k≠2)(hs:k≠15/\k≠18/\k≠19/\k≠22):EvL G m (.mk k i j n l) e (.ret (vlV (Aa2 k i j n l G.length))) (G++Jo (-1) none e 0 l):=by
 refine⟨1,Ao ?_⟩;have hc:=Avw (G:=G) (m:=m) k i j n l hb e (-1) none (fun q _ h=>by omega);rw[Afb,Bp] at hc;rw[Bp]
 repeat' first
 |simp only[go_sem,seval,Bo hk]
 |refine Ag (Ag7 hs) ?_
 |refine Ac hc ?_
def Aex{α:Type}{l:List α}{i:Nat}{x:α}(h:l[i]?=some x):i<l.length:=by
 rcases q_jo i l.length with h1|h1
 ·exact h1
 ·rw[q_jd h1] at h;cases h
def Aml{l:List Nat}{q id:Nat}(h:l[q]?=some id):j3 l=.dsl 1 (l.map fun i=>[.gp i 0])/\(q:Int)<l.length/\q<l.length/\(l.map fun i=>[SV.gp i 0])[q]?.getD []=[.gp id 0]:=by
 have hq:q<l.length:=by
  rcases q_jo q l.length with h1|h1
  ·exact h1
  ·rw[q_jd h1] at h;cases h
 refine⟨Amk (by rintro rfl;simp at hq),by omega,hq,by simp[h]⟩
def A4e{G G1:GV}{m id:Nat}{th th1:Th}{v:Vl}(h:G[id]?=some (thR th))(hw:th.w=none)(hb:th.bare=false)(he:Cj 221 G [.gp m 0,.agg true (tv th.t),Fm th.env] (.ret (vlV v)) G1)(h1:G1[id]?=some (thR th1)) :
  Cj 201 G [.gp m 0,.gp id 0] (.ret (vlV v)) (G1.set id (thR { th1 with w:=some v })):=by
 refine Bq mixed Tryz.func201 tr201 ?_;obtain⟨t,te,b,w,x⟩:=th;simp only at hw hb he;subst hw hb;simp only[go_sem,seval,h,Afb];refine Ac he ?_;have Am:=Aex h1;simp only[go_sem,seval,h1,Amh,Vr h1,i8,Aa6,q_jq Am]
inductive Rh(G:GV):Vl->Prop
 |base {v:Vl} (h:v.k≠23) (hs:v.k≠15/\v.k≠18/\v.k≠19/\v.k≠22):Rh G v
 |step0 {v y:Vl} {id:Nat} {th:Th} (h:v.k=15\/v.k=18\/v.k=19) (Om:v.kids[0]?=some id) (Zi:G[id]?=some (thR th)) (hw:th.w=some y) (hy:Rh G y):Rh G v
 |step5 {v y:Vl} {id:Nat} {th:Th} (h:v.k=22) (Om:v.kids[5]?=some id) (Zi:G[id]?=some (thR th)) (hw:th.w=some y) (hy:Rh G y):Rh G v
def Am4(G:GV)(m:Nat)(v:Vl)(out:HOut):Prop:=
 ∃n,vcI (Fb Tryz.prog fun x G1=>out=.pan x/\G1=G) a202_24 (bk 0 (rtG [.t 4] out G)) n ⟨(.gp m 0::vlV v::.J::.J::.int .i64 0::Cm (Ef (jk2 ([])))),[gOb G]⟩
def A2c{G:GV}{m:Nat}{v:Vl}(h:Rh G v){out:HOut}(ho:out=.ret (.int .i64 0)):Am4 G m v out:=by
 induction h with
 |base h hs=>
  refine⟨1,Ao ?_⟩;simp only[go_sem,seval,vlV,Bo h];refine Ag (Ag7 hs) ?_;subst ho;simp only[go_sem,seval]
 |@step0 v y id th h Om Zi hw hy ih=>
  obtain⟨n,ih⟩:=ih;refine⟨n+1,Ao ?_⟩;obtain⟨k1,k2,k3,k4⟩:=Aml Om;have k2':(0:Int)<v.kids.length:=by omega
  have Bx:v.k≠23:=by omega
  obtain⟨t,te,b,w,x⟩:=th;simp only at hw;subst hw;simp only[go_sem,seval,vlV,Bo Bx];refine Ag (Aqo h) ?_;simp only[go_sem,seval,vlV,k1,k2',k3,k4,Zi,Aa6,q_g];exact Abq (Bv (by simp[Bm,vlV])) ih
 |@step5 v y id th h Om Zi hw hy ih=>
  obtain⟨n,ih⟩:=ih;refine⟨n+1,Ao ?_⟩;obtain⟨k1,k2,k3,k4⟩:=Aml Om;have k2':(5:Int)<v.kids.length:=by omega
  have Bx:v.k≠23:=by omega
  have h5:Con 223 [.int .i64 v.k] (.int .i64 5):=by rw[h];exact Aqp
  obtain⟨t,te,b,w,x⟩:=th;simp only at hw;subst hw;simp only[go_sem,seval,vlV,Bo Bx];refine Ag h5 ?_;simp only[go_sem,seval,vlV,k1,k2',k3,k4,Zi,Aa6,q_g];exact Abq (Bv (by simp[Bm,vlV])) ih
def Av3{G:GV}{m:Nat}{v:Vl}(h:Rh G v):Cj 202 G [.gp m 0,vlV v] (.ret (.int .i64 0)) G:=by
 obtain⟨out,ho⟩:∃out,out=HOut.ret (.int .i64 0):=⟨_,rfl⟩
 rw[<-ho];refine Bq mixed Tryz.func202 tr202 ?_;obtain⟨n,h⟩:=A2c (m:=m) h ho;simp only[go_sem,seval];exact Dv n (Abq (Bv (by simp[Bm])) h)
def Awb{G G1:GV}{m id:Nat}{th th1:Th}{v:Vl}(h:G[id]?=some (thR th))(hv:th.v=none)(he:Cj 201 G [.gp m 0,.gp id 0] (.ret (vlV v)) G1)(h1:G1[id]?=some (thR th1))(hn:Rh G1 v) :
  Cj 172 G [.gp m 0,.gp id 0] (.ret (vlV v)) (G1.set id (thR { th1 with v:=some v })):=by
 refine Bq mixed Tryz.func172 tr172 ?_;obtain⟨t,te,b,w,y⟩:=th;simp only at hv;subst hv;simp only[go_sem,seval,h,Afb];refine Ac he ?_;have Am:=Aex h1
 repeat' first
 |simp only[go_sem,seval,h1,Ami,Vr h1,i8,Aa6,q_jq Am]
 |refine Dv 1 (Ao ?_)
 |refine Ac (Av3 hn) ?_
def Amm{k i j n:Int}{l:List Tm}(h:TOk (.mk k i j n l)):fit k/\fit i/\fit j/\fit n/\l.length*56<=140737488355328/\∀t∈l,TOk t:=by
 cases h with
 |mk _ _ _ _ _ f1 f2 f3 f4 hb hl=>exact⟨f1,f2,f3,f4,hb,hl⟩
open Classical in
noncomputable def eqT (a b:Tm):Bool:=decide (a=b)
def Aco(a:Tm):eqT a a=true:=by unfold eqT;simp
def Ahl{a b:Tm}(h:a≠b):eqT a b=false:=by unfold eqT;simp[h]
def eqT_iff{a b:Tm}:eqT a b=true↔a=b:=by unfold eqT;simp
def Api(k i j n k' i' j' n':Int)(rows rows':GV)(E:Nat->Bool)(h5:∀r∈rows,r.length=5)(Pm:∀r∈rows',r.length=5)(h2:rows.length*56<=140737488355328)
  (H:∀x,x<rows.length->x<rows'.length->Con 22 [.agg true (rows[x]?.getD []),.agg true (rows'[x]?.getD [])] (.bool (E x))) (r0:Bool)
  (hn:¬(k=k'/\i=i'/\j=j'/\n=n'/\rows.length=rows'.length)->r0=false)
  (hf:k=k'->i=i'->j=j'->n=n'->rows.length=rows'.length->∀x,x<rows.length->E x=false->r0=false)
  (ht:k=k'->i=i'->j=j'->n=n'->rows.length=rows'.length->(∀x,x<rows.length->E x=true)->r0=true) :
  Con 22 [.agg true [.int .i64 k,.int .i64 i,.int .i64 j,.int .i64 n,.dsl 5 rows],.agg true [.int .i64 k',.int .i64 i',.int .i64 j',.int .i64 n',.dsl 5 rows']] (.bool r0):=by
 refine Cu mixed Tryz.func22 tr22 ?_
 by_cases a1:k=k'
 rotate_left
 ·have q:(k != k')=true:=by simp[a1]
  rw[hn (fun h=>a1 h.1)];simp only[go_sem,seval,q]
 have q1:(k != k')=false:=by simp[a1]
 by_cases a2:i=i'
 rotate_left
 ·have q:(i != i')=true:=by simp[a2]
  rw[hn (fun h=>a2 h.2.1)];simp only[go_sem,seval,q1,q]
 have q2:(i != i')=false:=by simp[a2]
 by_cases a3:j=j'
 rotate_left
 ·have q:(j != j')=true:=by simp[a3]
  rw[hn (fun h=>a3 h.2.2.1)];simp only[go_sem,seval,q1,q2,q]
 have q3:(j != j')=false:=by simp[a3]
 by_cases a4:n=n'
 rotate_left
 ·have q:(n != n')=true:=by simp[a4]
  rw[hn (fun h=>a4 h.2.2.2.1)];simp only[go_sem,seval,q1,q2,q3,q]
 have q4:(n != n')=false:=by simp[a4]
 by_cases a5:rows.length=rows'.length
 rotate_left
 ·have q:((rows.length:Int) != (rows'.length:Int))=true:=by simp;omega
  rw[hn (fun h=>a5 h.2.2.2.2)];simp only[go_sem,seval,q1,q2,q3,q4,q]
  try intros
 have q5:((rows.length:Int) != (rows'.length:Int))=false:=by simp;omega
 simp only[go_sem,seval,q1,q2,q3,q4,q5];intros;refine Afs (fun x=>⟨(.J::.J::.ref 0 0 0 0::.ref 1 0 0 0::.bool false::Cm (jk4 (jk2 (.int .i64 rows.length::.int .i64 x::jk8 (jk4 (jk2 (.J::[]))))))),[⟨true,5,[[.int .i64 k,.int .i64 i,.int .i64 j,.int .i64 n,.dsl 5 rows]],0,0,true⟩,⟨true,5,[[.int .i64 k',.int .i64 i',.int .i64 j',.int .i64 n',.dsl 5 rows']],0,0,true⟩]⟩) rows.length (fun x=>E x=true) (fun x hx hp=>?_) ?_
 ·simp only[go_sem,seval];refine⟨fun h=>?_,fun h=>?_⟩
  ·have Am:=q_kw h;have Ja:x<rows.length:=by omega
   have Sf:x<rows'.length:=by omega
   have hltz:(x:Int)<(rows'.length:Int):=by omega
   have e0:(0:Int)<=(x:Int):=by omega
   have g1:=h5 _ (Vq (d:=[]) Ja);have g2:=Pm _ (Vq (d:=[]) Sf);simp only[go_sem,seval,Am,hltz,e0,g1,g2];refine Ag (H x Ja Sf) ?_;cases hE:E x<;>simp only[go_sem,seval]
   ·rw[hf a1 a2 a3 a4 a5 x Ja hE]
   ·refine⟨Ja,?_⟩;rw[w64 (n:=(x:Int)+1) (by unfold fit;omega)];exact Bv (by simp[Bm])
  ·have La:=q_kx h;have Ox:x=rows.length:=by omega
   simp only[go_sem,seval,h];rw[ht a1 a2 a3 a4 a5 (fun y hy=>hp y (by omega))]
 ·exact Bv (by simp[Bm])
def Apg(a:Tm):TOk a->∀b,TOk b->Con 22 [.agg true (tv a),.agg true (tv b)] (.bool (eqT a b)):=by
 induction a using Tm.ind with
 |h k i j n l ih=>
  intro hok b hb;cases b with
  |mk k' i' j' n' l'=>
  obtain⟨_,_,_,_,hbl,hl⟩:=Amm hok;obtain⟨_,_,_,_,hbl',hl'⟩:=Amm hb;have e1:(l.map tv).length=l.length:=by simp
  have e2:(l'.map tv).length=l'.length:=by simp
  rw[Bp,Bp];refine Api k i j n k' i' j' n' (l.map tv) (l'.map tv) (fun x=>eqT (l[x]?.getD default) (l'[x]?.getD default)) (rows5 l) (rows5 l') (by omega) (fun x hx Dr=>?_) _ (fun h=>Ahl (fun h'=>h ?_)) (fun a1 a2 a3 a4 a5 x hx hE=>Ahl (fun h'=>?_)) (fun a1 a2 a3 a4 a5 hE=>?_)
  ·rw[e1] at hx;rw[e2] at Dr;rw[q_ji,q_ji,q_f hx,q_f Dr];exact ih _ (q_kd hx) (hl _ (q_kd hx)) _ (hl' _ (q_kd Dr))
  ·cases h';exact⟨rfl,rfl,rfl,rfl,rfl⟩
  ·cases h';rw[Aco] at hE;cases hE
  ·subst a1 a2 a3 a4;rw[e1,e2] at a5;rw[e1] at hE;have:l=l':=List.ext_getElem a5 (fun x hx Dr=>by
    have:=eqT_iff.1 (hE x hx);rw[q_f hx,q_f Dr] at this;exact this)
   rw[this];exact Aco _
def Art(kd:Nat)(op:BinOp)(i c j d:Nat):Gl kd op (.gp i c) (.gp j d)=if kd=2 then eqB op (i==j && c==d) else none:=q_z
attribute [go_sem] Art
def Awt(cap:Array Value)(w:World):(invoke (.fn (.func 204) cap) #[]).run Tryz.prog w=.ok (.enter 204 cap) w:=by
 simp[go_sem]
def Awo(cap:Array Value)(w:World):(invoke (.fn (.func 142) cap) #[]).run Tryz.prog w=.ok (.enter 142 cap) w:=by
 simp[go_sem]
def Alz{G:GV}{m j a b:Nat}{t:Tm}{wx ux wy uy:Option Vl}{steps most seen guess:Int}(hG:G[m]?=some (Fa steps most seen guess j))(hf:fit guess)(hg:guess≠1)(Wl:0<=seen)(hs:seen<8000000)(Yi:a≠b)
  (hx:(G.set m (Fa steps most (seen+1) (Qn guess) j))[a]?=some (thR ⟨t,[],false,wx,ux⟩)) (hy:(G.set m (Fa steps most (seen+1) (Qn guess) j))[b]?=some (thR ⟨t,[],false,wy,uy⟩)) (ht:TOk t) {deep:Int} {eta:Bool} :
  Cj 205 G [.gp m 0,.gp a 0,.gp b 0,.int .i64 deep,.bool eta] (.ret (.bool true)) (G.set m (Fa steps most (seen+1) (Qn guess) j)):=by
 refine Bq mixed Tryz.func205 tr205 ?_;simp only[go_sem,seval];refine Ac (Av1 hG hf hg Wl hs) ?_;have hab':(a==b)=false:=by simpa using Yi
 have hc:=Apg t ht t ht;rw[Aco] at hc;simp only[go_sem,seval,hx,hy,hab',Rn];refine Ag hc ?_;simp only[go_sem,seval]
def Av0{G G':GV}{m j a b:Nat}{steps most seen guess most':Int}{deep:Int}{r:Bool}(hG:G[m]?=some (Fa steps most seen guess j))(h:Cj 205 (G.set m (Fa 0 most' 0 guess j)) [.gp m 0,.gp a 0,.gp b 0,.int .i64 deep,.bool true] (.ret (.bool r)) G') :
  Cj 174 G [.gp m 0,.gp a 0,.gp b 0,.int .i64 deep,.int .i64 most'] (.ret (.tup [.bool r,.bool true])) G':=by
 refine Awa mixed Tryz.func174 tr174 Awt Nrm.idle_quick ?_;simp only[go_sem,seval];refine Ac (Air hG most') ?_;simp only[go_sem,seval];refine Ac h ?_;simp only[go_sem,seval]
def Aip{G G':GV}{m j a b:Nat}{steps most seen guess:Int}{deep:Int}{r:Bool}(hG:G[m]?=some (Fa steps most seen guess j))(h:Cj 205 (G.set m (Fa 0 9 0 guess j)) [.gp m 0,.gp a 0,.gp b 0,.int .i64 deep,.bool true] (.ret (.bool r)) G') :
  Cj 145 G [.gp m 0,.gp a 0,.gp b 0,.int .i64 deep,.int .i64 9] (.ret (.bool r)) G':=by
 refine Bq mixed Tryz.func145 tr145 ?_;simp only[go_sem,seval];refine Ac (Av0 hG h) ?_;simp only[go_sem,seval]
def Ag6{f:Nat}{args:List SV}{v:Value}{r:SV}(hr:∀m,Rep m v r)(h:∀(m:Mem) (w:World) (vs:List Value),vs.length=args.length->(∀(j:Nat) v x,vs[j]?=some v->args[j]?=some x->Rep m v x)->Calls Tryz.prog f vs.toArray w fun e w'=>e=.returned v/\w'=w):Con f args r:=by
 intro m w vs h1 h2 h3;refine Calls.mono (h m w vs h2 h3) (fun e w' he=>?_);obtain⟨rfl,rfl⟩:=he;exact⟨_,m,rfl,hr m,⟨.refl m,rfl⟩,fun _ _ _=>rfl,h1,rfl,rfl,rfl,q_ja _,fun _ _=>rfl⟩
def Agx:Con 143 [.float .f64 4621256167635550208] (.int .i64 9):=by
 refine Ag6 (v:=.int .i64 9) (fun m=>.int _ _) (fun m w vs h2 h3=>?_)
 match vs,h2 with
 |[v],_=>
  have hv:=h3 0 v _ rfl rfl;cases hv;exact Nrm.limit_9 w
def Aqn:Con 137 [.bool true] (.tup []):=by
 refine Ag6 (v:=.tuple #[]) (fun m=>.tup [] [] rfl (fun j v x h=>by simp at h)) (fun m w vs h2 h3=>?_)
 match vs,h2 with
 |[v],_=>
  have hv:=h3 0 v _ rfl rfl;cases hv;exact Nrm.so_true w
def Ay0(a b:Tm)(f:Nat):∀x∈[SV.agg true (tv a),.agg true (tv b),.float .f64 f],NoG x:=by
 intro x hx;simp only[q_kb,q_kc,or_false] at hx;rcases hx with rfl|rfl|rfl
 ·exact Rb a true
 ·exact Rb b true
 ·exact .float _ _
def Ayx(b:Bool)(n:Int):NoG (.tup [.bool b,.int .i64 n]):=by
 refine .tup _ (fun x hx=>?_);simp only[q_kb,q_kc,or_false] at hx;rcases hx with rfl|rfl
 ·exact .bool _
 ·exact .int _ _
def Aqy(t:Tm)(ht:TOk t)(hp:Fz t 2=true):Con 107 [.agg true (tv t),.agg true (tv t),.float .f64 4621256167635550208] (.tup [.bool true,.int .i64 0]):=by
 refine Xo mixed Tryz.func107 tr107 Awo Nrm.idle_conv (Ay0 t t _) (Ayx _ _) ?_;have hc:=Aca t ht;rw[hp] at hc;have hn:=Aiq [] 9;have hl:=Yn [[.undef],Fa 0 9 0 0 0] t [];have hl2:=Yn [[.undef],Fa 0 9 0 0 0,thR ⟨t,[],false,none,none⟩] t [];have hs:=Aip (G:=[[.undef],Fa 0 9 0 0 0,thR ⟨t,[],false,none,none⟩,thR ⟨t,[],false,none,none⟩]) (m:=1) (j:=0) (a:=2) (b:=3) (deep:=0) (steps:=0) (most:=9) (seen:=0) (guess:=0) rfl
  (Alz (m:=1) (j:=0) (steps:=0) (most:=9) (seen:=0) (guess:=0) (wx:=none) (ux:=none) (wy:=none) (uy:=none) (t:=t) rfl (by unfold fit;omega) (by omega) (by omega) (by omega) (by omega) rfl rfl ht)
 have h5:=Br t;generalize thR ⟨t,[],false,none,none⟩=ta at *
 generalize tv t=r1 at *
 simp only[go_sem,seval,h5];refine Ag hc ?_;simp only[go_sem,seval,h5];refine Ag hc ?_;simp only[go_sem,seval,h5];refine Ag Agx ?_;simp only[go_sem,seval,h5];refine Ac hn ?_;simp only[go_sem,seval,h5];refine Ac hl ?_;simp only[go_sem,seval,h5];refine Ac hl2 ?_;simp only[go_sem,seval,h5];refine Ac hs ?_;simp only[go_sem,seval]
end Go.Proofs.YtgfehkhcmnfpaaaGreatDoor.Abs
namespace Go.Proofs
open Go.Shelf
def Tryz.sbRen:Go.Shelf.Ren:=⟨fun|166=>29|167=>31|169=>34|240=>62|276=>95|n=>n,fun|0=>0|3=>3|4=>4|5=>5|9=>9|20=>20|37=>51|70=>50|72=>53|75=>55|80=>63|127=>91|164=>114|n=>n,fun n=>n⟩
def Tryz.sb166:Lays.n166 Tryz.prog Tryz.sbRen:={
 mixed:=by kernel_rfl
 f166:=Tryz.func29.trans (congrArg some (by kernel_rfl))
 f240:=Tryz.func62.trans (congrArg some (by kernel_rfl))
 f276:=Tryz.func95.trans (congrArg some (by kernel_rfl))
 t0:=Tryz.underlying0
 a0:=Tryz.isAgg0
 z0:=Tryz.sizeOf0
 v0:=Tryz.zeroValue0
 t3:=Tryz.underlying3
 a3:=Tryz.isAgg3
 z3:=Tryz.sizeOf3
 v3:=Tryz.zeroValue3
 t4:=Tryz.underlying4
 a4:=Tryz.isAgg4
 z4:=Tryz.sizeOf4
 v4:=Tryz.zeroValue4
 t9:=Tryz.underlying9
 a9:=Tryz.isAgg9
 z9:=Tryz.sizeOf9
 v9:=Tryz.zeroValue9
 t20:=Tryz.underlying20
 a20:=Tryz.isAgg20
 z20:=Tryz.sizeOf20
 v20:=Tryz.zeroValue20
 t37:=Tryz.underlying51
 a37:=Tryz.isAgg51
 z37:=Tryz.sizeOf51
 v37:=Tryz.zeroValue51
 t70:=Tryz.underlying50
 a70:=Tryz.isAgg50
 z70:=Tryz.sizeOf50
 v70:=Tryz.zeroValue50
 t72:=Tryz.underlying53
 a72:=Tryz.isAgg53
 z72:=Tryz.sizeOf53
 v72:=Tryz.zeroValue53
 t75:=Tryz.underlying55
 a75:=Tryz.isAgg55
 z75:=Tryz.sizeOf55
 v75:=Tryz.zeroValue55
 t164:=Tryz.underlying114
 a164:=Tryz.isAgg114
 z164:=Tryz.sizeOf114
 v164:=Tryz.zeroValue114
}
def Tryz.sb167:Lays.n167 Tryz.prog Tryz.sbRen:={
 mixed:=by kernel_rfl
 f167:=Tryz.func31.trans (congrArg some (by kernel_rfl))
 f240:=Tryz.func62.trans (congrArg some (by kernel_rfl))
 f276:=Tryz.func95.trans (congrArg some (by kernel_rfl))
 t0:=Tryz.underlying0
 a0:=Tryz.isAgg0
 z0:=Tryz.sizeOf0
 v0:=Tryz.zeroValue0
 t4:=Tryz.underlying4
 a4:=Tryz.isAgg4
 z4:=Tryz.sizeOf4
 v4:=Tryz.zeroValue4
 t5:=Tryz.underlying5
 a5:=Tryz.isAgg5
 z5:=Tryz.sizeOf5
 v5:=Tryz.zeroValue5
 t9:=Tryz.underlying9
 a9:=Tryz.isAgg9
 z9:=Tryz.sizeOf9
 v9:=Tryz.zeroValue9
 t20:=Tryz.underlying20
 a20:=Tryz.isAgg20
 z20:=Tryz.sizeOf20
 v20:=Tryz.zeroValue20
 t37:=Tryz.underlying51
 a37:=Tryz.isAgg51
 z37:=Tryz.sizeOf51
 v37:=Tryz.zeroValue51
 t70:=Tryz.underlying50
 a70:=Tryz.isAgg50
 z70:=Tryz.sizeOf50
 v70:=Tryz.zeroValue50
 t72:=Tryz.underlying53
 a72:=Tryz.isAgg53
 z72:=Tryz.sizeOf53
 v72:=Tryz.zeroValue53
 t75:=Tryz.underlying55
 a75:=Tryz.isAgg55
 z75:=Tryz.sizeOf55
 v75:=Tryz.zeroValue55
 t164:=Tryz.underlying114
 a164:=Tryz.isAgg114
 z164:=Tryz.sizeOf114
 v164:=Tryz.zeroValue114
}
def Tryz.sb169:Lays.n169 Tryz.prog Tryz.sbRen:={
 mixed:=by kernel_rfl
 f169:=Tryz.func34.trans (congrArg some (by kernel_rfl))
 t0:=Tryz.underlying0
 a0:=Tryz.isAgg0
 z0:=Tryz.sizeOf0
 v0:=Tryz.zeroValue0
 t3:=Tryz.underlying3
 a3:=Tryz.isAgg3
 z3:=Tryz.sizeOf3
 v3:=Tryz.zeroValue3
 t9:=Tryz.underlying9
 a9:=Tryz.isAgg9
 z9:=Tryz.sizeOf9
 v9:=Tryz.zeroValue9
 t37:=Tryz.underlying51
 a37:=Tryz.isAgg51
 z37:=Tryz.sizeOf51
 v37:=Tryz.zeroValue51
 t70:=Tryz.underlying50
 a70:=Tryz.isAgg50
 z70:=Tryz.sizeOf50
 v70:=Tryz.zeroValue50
 t72:=Tryz.underlying53
 a72:=Tryz.isAgg53
 z72:=Tryz.sizeOf53
 v72:=Tryz.zeroValue53
 t127:=Tryz.underlying91
 a127:=Tryz.isAgg91
 z127:=Tryz.sizeOf91
 v127:=Tryz.zeroValue91
}
def Tryz.sbX:Builder.Extra Tryz.prog Tryz.sbRen:={
 sizeBuilder:=by kernel_rfl
 liesBuilder:=by kernel_rfl
 t5:=Tryz.underlying5
 a5:=Tryz.isAgg5
 z5:=Tryz.sizeOf5
 v5:=Tryz.zeroValue5
 infoByte:=by kernel_rfl
 cellsByte:=by kernel_rfl
 sizeByte:=by kernel_rfl
 neB5:=by decide
}
end Go.Proofs
namespace Go.Proofs.YtgfehkhcmnfpaaaGreatDoor.Abs
open Go Go.Proofs Go.Proofs.YtgfehkhcmnfpaaaGreatDoor
def af98:AF:=⟨32,[(.t 2),(.t 3)],(Ab [oP 1 (.box (.t 0)),oP 2 (.mv (At [])),oP 3 (.mv (cI 0))] (.seq (Ab [oP 4 (Ae 0 1),oP 5 (Ah 4)] (.blk 0 (Ab [oP 7 (An 5 1),Aa 6 7] (Aj 6 (Ab [oP 2 (.mv (At [115,111,114,116])),oP 3 (.mv (cI 1))] .ret) (Ab [oP 9 (An 5 3),Aa 8 9] (Aj 8 (Ab [oP 2 (.mv (At [112,105])),oP 3 (.mv (cI 2))] .ret) (Ab [oP 11 (An 5 4),Aa 10 11] (Aj 10 (Ab [oP 2 (.mv (At [108,97,109])),oP 3 (.mv (cI 2))] .ret) (Ab [oP 13 (An 5 5),Aa 12 13] (Aj 12 (Ab [oP 2 (.mv (At [97,112,112])),oP 3 (.mv (cI 2))] .ret) (Ab [oP 15 (An 5 6),Aa 14 15] (Aj 14 (Ab [oP 2 (.mv (At [115,105,103])),oP 3 (.mv (cI 2))] .ret) (Ab [oP 17 (An 5 7),Aa 16 17] (Aj 16 (Ab [oP 2 (.mv (At [112,97,105,114])),oP 3 (.mv (cI 2))] .ret) (Ab [oP 19 (An 5 8),Aa 18 19] (Aj 18 (Ab [oP 2 (.mv (At [102,115,116])),oP 3 (.mv (cI 2))] .ret) (Ab [oP 21 (An 5 9),Aa 20 21] (Aj 20 (Ab [oP 2 (.mv (At [115,110,100])),oP 3 (.mv (cI 2))] .ret) (Ab [oP 23 (An 5 10),Aa 22 23] (Aj 22 (Ab [oP 2 (.mv (At [101,113])),oP 3 (.mv (cI 1))] .ret) (Ab [oP 25 (An 5 11),Aa 24 25] (Aj 24 (Ab [oP 2 (.mv (At [114,101,102,108])),oP 3 (.mv (cI 1))] .ret) (Ab [oP 27 (An 5 12),Aa 26 27] (Aj 26 (Ab [oP 2 (.mv (At [116,114])),oP 3 (.mv (cI 1))] .ret) .skip)))))))))))))))))))))))) (Ab [oP 28 (Aq 5 1),oP 29 (.call 134 [(.t 28)]),oP 30 (.ext (.t 29) 0),oP 31 (.ext (.t 29) 1),Aa 2 30,Aa 3 31] .ret)))⟩
def tr98:trF Tryz.prog Tryz.f98=some af98:=by kernel_rfl
attribute [go_sem] af98
open Go Go.RowKit Go.Proofs.YtgfehkhcmnfpaaaGreatDoor
def Aqv(i:Int):Con 98 [.agg true [.int .i64 1,.int .i64 i,.int .i64 0,.int .i64 0,.nils]] (.tup [.str (bs [115,111,114,116]),.int .i64 1]):=by
 refine Cu mixed Tryz.func98 tr98 ?_;simp only[go_sem,seval]
def MW(B:Nat)(w:World):Prop:=∃(m:Mem) (w0:World),w0.heap.size=B/\Hw m w0/\Below B w0 w
def Ae0{m:Mem}{w w':World}(h1:Hw m w)(hb:Below w.heap.size w w'):Hw m w':=by
 refine⟨fun b j v hv=>?_,fun b Ea=>?_,fun b Ea=>?_⟩
 ·have:=h1.1 b j v hv;rw[hb.cell (p:=⟨b,j,none⟩) (Wu this)];exact this
 ·obtain⟨c,e,h⟩:=h1.2.1 b Ea;exact⟨c,e,(hb.block b (Array.getElem?_eq_some_iff.1 h).1).trans h⟩
 ·obtain⟨⟨e,f,h⟩,q⟩:=h1.2.2 b Ea;exact⟨⟨e,f,(hb.block b (Array.getElem?_eq_some_iff.1 h).1).trans h⟩,q⟩
def MW.ok{B:Nat}{w:World}(h:MW B w):∃m,Hw m w:=by
 obtain⟨m,w0,rfl,h1,h2⟩:=h;exact⟨m,Ae0 h1 h2⟩
def MW.step{B:Nat}{w w':World}(h:MW B w)(k:Below B w w'):MW B w':=by
 obtain⟨m,w0,h0,h1,h2⟩:=h;exact⟨m,w0,h0,h1,h2.trans k⟩
def Vg{f:Nat}{args:List SV}{r:SV}(hc:Con f args r){B:Nat}{w:World}(hw:MW B w)(vs:List Value)(hl:vs.length=args.length)(hr:∀m:Mem,∀(j:Nat) v x,vs[j]?=some v->args[j]?=some x->Rep m v x) :
  Calls Tryz.prog f vs.toArray w fun e w'=>(∃v m',e=.returned v/\Rep m' v r)/\Below w.heap.size w w':=by
 obtain⟨m,hm⟩:=hw.ok;refine Calls.mono (hc m w vs hm hl (hr m)) (fun e w' h=>?_);obtain⟨v,m',h1,h2,_,_,_,h3,h4,h5,h6,h7⟩:=h;exact⟨⟨v,m',h1,h2⟩,⟨h3,h4,h5,h6,h7⟩⟩
def keepB{T e:TypeId}{B b:Nat}{bs:List Value}{w w':World}(h:Lib.IsBuilderF T e B b bs w)(hb:Below w.heap.size w w'):Lib.IsBuilderF T e B b bs w':=by
 have key:∀p,Lib.BuilderAtF T e B b p bs w->Lib.BuilderAtF T e B b p bs w':=fun p hp=>by
  have Am:=hp.lt;obtain⟨hB,v,h1,h2,h3⟩:=hp;exact⟨hB,v,(hb.block b Am).trans h1,h2.kept (row:=none) ⟨hb.os,hb.tape,hb.output,hb.size,fun k hk _=>hb.block k hk⟩ (by cases v.ownBlock<;>simp),h3⟩
 exact h.imp (key _) (key _)
def Va{B b:Nat}{l:By}{s:ByteArray}{w:World}(h:Lib.IsBuilderF 53 5 B b (Lib.byteCells l) w)(hl:l.length+s.size<=140737488355328)(hB:B<=w.heap.size) :
  Calls Tryz.prog 29 #[.pointer (some ⟨b,0,none⟩),.string s] w fun e w'=>e=.returned (.tuple #[.int .i64 s.size,.nilIface])/\Lib.IsBuilderF 53 5 B b (Lib.byteCells (l++s.data.toList)) w'/\Below B w w'/\Lib.OthersKept 5 (some b) w w':=by
 refine Calls.mono (Any.Builder_WriteString_k Tryz.sb166 Tryz.sbX B b _ s w h (by rw[Lib.byteCells_length];exact hl) hB) (fun e w' hh=>?_);obtain⟨h1,h2,h3,h4⟩:=hh;refine⟨h1,?_,h3,h4⟩;rw[Lib.byteCells_append,<-Lib.strCells_eq];exact Or.inr h2
def A4l{B b:Nat}{l:By}{c:UInt8}{w:World}(h:Lib.IsBuilderF 53 5 B b (Lib.byteCells l) w)(hl:l.length+1<=140737488355328)(hB:B<=w.heap.size) :
  Calls Tryz.prog 31 #[.pointer (some ⟨b,0,none⟩),.int .u8 c.toNat] w fun e w'=>e=.returned .nilIface/\Lib.IsBuilderF 53 5 B b (Lib.byteCells (l++[c])) w'/\Below B w w'/\Lib.OthersKept 5 (some b) w w':=by
 refine Calls.mono (Any.Builder_WriteByte_k Tryz.sb167 Tryz.sbX B b _ c.toNat w h (by rw[Lib.byteCells_length];exact hl) hB) (fun e w' hh=>?_);obtain⟨h1,h2,h3,h4⟩:=hh;refine⟨h1,?_,h3,h4⟩;rw[Lib.byteCells_append];exact Or.inr h2
def Am0{B b:Nat}{l:By}{w:World}(h:Lib.IsBuilderF 53 5 B b (Lib.byteCells l) w)(hB:B<=w.heap.size) :
  Calls Tryz.prog 34 #[.pointer (some ⟨b,0,none⟩)] w fun e w'=>e=.returned (.string ⟨l.toArray⟩)/\Below B w w'/\Lib.OthersKept 5 (some b) w w':=by
 refine Calls.mono (Any.Builder_String_any_k Tryz.sb169 Tryz.sbX B b l w h hB) (fun e w' hh=>?_);obtain⟨h1,_,h3,h4⟩:=hh;exact⟨h1,h3,h4⟩
def Ln(i:Nat):By:=[40,115,111,114,116,32]++Lib.itoa (i:Nat)++[41]
def Ny(i:Nat):Value:=.agg #[.int .i64 1,.int .i64 i,.int .i64 0,.int .i64 0,.slice none 0 0]
def A0v{m:Mem}{i:Nat}:Rep m (Ny i) (.agg true [.int .i64 1,.int .i64 i,.int .i64 0,.int .i64 0,.nils]):=by
 refine .agg [.int .i64 1,.int .i64 i,.int .i64 0,.int .i64 0,.slice none 0 0] _ (by intro v hv;simp only[q_kb,q_kc,or_false] at hv;rcases hv with rfl|rfl|rfl|rfl|rfl<;>rfl) rfl (fun j v x h1 h2=>?_)
 match j,h1,h2 with
 |0,h1,h2=>cases h1;cases h2;exact .int _ _
 |1,h1,h2=>cases h1;cases h2;exact .int _ _
 |2,h1,h2=>cases h1;cases h2;exact .int _ _
 |3,h1,h2=>cases h1;cases h2;exact .int _ _
 |4,h1,h2=>cases h1;cases h2;exact .nils
 |j+5,h1,h2=>simp at h1
def A4k{B:Nat}{w:World}(hw:MW B w)(i:Nat):Calls Tryz.prog 98 #[Ny i] w fun e w'=>e=.returned (.tuple #[.string ⟨#[115,111,114,116]⟩,.int .i64 1])/\Below w.heap.size w w':=by
 refine Calls.mono (Vg (Aqv i) hw [Ny i] rfl (fun m j v x h1 h2=>?_)) (fun e w' h=>?_)
 ·match j,h1,h2 with
  |0,h1,h2=>cases h1;cases h2;exact A0v
  |j+1,h1,h2=>simp at h1
 ·obtain⟨⟨v,m',h1,h2⟩,h3⟩:=h;refine⟨?_,h3⟩;rw[h1];generalize hz:SV.tup [.str (bs [115,111,114,116]),.int .i64 1]=z at h2;cases h2 with
  |tup vs l hl hr=>
   cases hz
   match vs,hl with
   |[a,b],_=>
    have ha:=hr 0 a _ rfl rfl;have hb:=hr 1 b _ rfl rfl;cases ha;cases hb;rfl
  |_=>cases hz
def Alm{B:Nat}{w:World}(hw:MW B w)(i:Nat)(hi:i<=1000000):Calls Tryz.prog 32 #[.int .i64 i] w fun e w'=>e=.returned (.string ⟨(Lib.itoa (i:Nat)).toArray⟩)/\Below w.heap.size w w':=by
 refine Calls.mono (Vg (Acb (n:=(i:Int)) ⟨by omega,by omega⟩) hw [.int .i64 i] rfl (fun m j v x h1 h2=>?_)) (fun e w' h=>?_)
 ·match j,h1,h2 with
  |0,h1,h2=>cases h1;cases h2;exact .int _ _
  |j+1,h1,h2=>simp at h1
 ·obtain⟨⟨v,m',h1,h2⟩,h3⟩:=h;refine⟨?_,h3⟩;rw[h1];cases h2;rfl
def Anz{B:Nat}{w:World}(hw:MW B w):Calls Tryz.prog 99 #[.int .i64 1,.int .i64 1] w fun e w'=>e=.returned (.int .i64 0)/\Below w.heap.size w w':=by
 refine Calls.mono (Vg (Agq 1 1) hw [.int .i64 1,.int .i64 1] rfl (fun m j v x h1 h2=>?_)) (fun e w' h=>?_)
 ·match j,h1,h2 with
  |0,h1,h2=>cases h1;cases h2;exact .int _ _
  |1,h1,h2=>cases h1;cases h2;exact .int _ _
  |j+2,h1,h2=>simp at h1
 ·obtain⟨⟨v,m',h1,h2⟩,h3⟩:=h;refine⟨?_,h3⟩;rw[h1];cases h2;rfl
structure SS(B b tb:Nat)(cs:Array Value)(l:By)(w W:World):Prop where
 bd:Lib.IsBuilderF 53 5 B b (Lib.byteCells l) W
 mw:MW B W
 hB:B<=W.heap.size
 t:W.heap[tb]?=some (.cells cs 25 (0,0))
 ne:tb≠b
 be:Below B w W
section
variable{B b tb:Nat}{cs:Array Value}{l:By}{w W W':World}
def Mz{B C:Nat}{w w':World}(h:Below C w w')(hc:B<=C):Below B w w':=⟨h.os,h.tape,h.output,h.size,fun k hk=>h.block k (by omega)⟩
def SS.keep(h:SS B b tb cs l w W)(k:Below W.heap.size W W'):SS B b tb cs l w W':=
 ⟨keepB h.bd k,h.mw.step (Mz k h.hB),q_kn h.hB k.size,(k.block tb (Array.getElem?_eq_some_iff.1 h.t).1).trans h.t,h.ne,h.be.trans (Mz k h.hB)⟩
def SS.put{l':By}(h:SS B b tb cs l w W)(h2:Lib.IsBuilderF 53 5 B b (Lib.byteCells l') W')(k:Below B W W')(o:Lib.OthersKept 5 (some b) W W'):SS B b tb cs l' w W':=
 ⟨h2,h.mw.step k,q_kn h.hB k.size,o tb _ h.t (by intro e;exact h.ne (Option.some.inj e)) (fun c fz e=>by cases e),h.ne,h.be.trans k⟩
def SS.cell(h:SS B b tb cs l w W)(j:Nat):W.cell? ⟨tb,j,none⟩=cs[j]?:=Lib.cell_of_heap h.t j
end
def A4n{B b:Nat}{l:By}{i:Nat}{n:Int}{w:World}(h:Lib.IsBuilderF 53 5 B b (Lib.byteCells l) w)(hw:MW B w)(hB:B<=w.heap.size)(hl:l.length<=1000)(hi:i<=1000000) :
  Calls Tryz.prog 65 #[.pointer (some ⟨b,0,none⟩),Ny i,.int .i64 n] w fun e w'=>e=.returned (.tuple #[])/\Lib.IsBuilderF 53 5 B b (Lib.byteCells (l++Ln i)) w'/\Below B w w':=by
 have s0:SS B b w.heap.size #[.int .i64 1,.int .i64 i,.int .i64 0,.int .i64 0,.slice none 0 0] l w (w.alloc (.cells #[.int .i64 1,.int .i64 i,.int .i64 0,.int .i64 0,.slice none 0 0] 25)):=by
  have Am:b<w.heap.size:=by rcases h with h|h<;>exact h.lt
  have hb:Below B w (w.alloc (.cells #[.int .i64 1,.int .i64 i,.int .i64 0,.int .i64 0,.slice none 0 0] 25)):=(Below.refl _ w).alloc hB _;exact⟨h.alloc _,hw.step hb,q_kn hB hb.size,Array.getElem?_push_size,by omega,hb⟩
 have hil:=Aav i (by omega);have Fh:¬(9223372036854775807<1+(Lib.itoa (i:Nat)).length):=by omega
 unfold Ny
 go_enter Tryz.func65,Tryz.ntmps65
 go_wp2_with (go_at_call 98;refine (A4k s0.mw i).mono ?_)
 generalize w.alloc (.cells #[.int .i64 1,.int .i64 i,.int .i64 0,.int .i64 0,.slice none 0 0] 25)=w0 at *
 generalize w.heap.size=tb at *
 rintro e W1 ⟨rfl,k1⟩;have s1:=s0.keep k1
 go_wp2_with (go_at_call 29;refine (Va s1.bd (by show l.length+5<=_;omega) s1.hB).mono ?_)
 rintro e W2 ⟨rfl,b2,k2,o2⟩;have s2:=s1.put b2 k2 o2;have c2:=s2.cell 1
 go_wp2_with (go_at_call 32;refine (Alm s2.mw i hi).mono ?_)
 rintro e W3 ⟨rfl,k3⟩;have s3:=s2.keep k3;have c30:=s3.cell 0;have q3:(l++(({ data:=#[40] }:ByteArray)++{ data:=#[115,111,114,116] }).data.toList).length+(({ data:=#[32] }:ByteArray)++{ data:=(Lib.itoa (i:Nat)).toArray }).size<=140737488355328:=by
  rw[ByteArray.size_append];show _+(1+(Lib.itoa (i:Nat)).toArray.size)<=_;simp;omega
 go_wp2_with (go_at_call 29;refine (Va s3.bd q3 s3.hB).mono ?_)
 rintro e W4 ⟨rfl,b4,k4,o4⟩;have s4:=s3.put b4 k4 o4;have c40:=s4.cell 0;have c44:=s4.cell 4
 go_wp2_with (go_at_call 99;refine (Anz s4.mw).mono ?_)
 rintro e W5 ⟨rfl,k5⟩;have s5:=s4.keep k5;have c54:=s5.cell 4
 go_wp2_with fail
 go_loopw [58] (fun i wr=>i=.int .i64 0/\wr=W5) (fun _ _=>0)
 case atStart=>exact⟨rfl,rfl⟩
 case round=>
  obtain⟨rfl,rfl⟩:=hrel;have q5:(l++(({ data:=#[40] }:ByteArray)++{ data:=#[115,111,114,116] }).data.toList++(({ data:=#[32] }:ByteArray)++{ data:=(Lib.itoa (i:Nat)).toArray }).data.toList).length+1<=140737488355328:=by
   simp;omega
  go_wp2_with (go_at_call 31;refine (A4l (c:=41) s5.bd q5 s5.hB).mono ?_)
  rintro e W6 ⟨rfl,b6,k6,o6⟩;have s6:=s5.put b6 k6 o6
  go_wp2
  go_end0
  refine⟨rfl,?_,s6.be⟩;have e:l++(({ data:=#[40] }:ByteArray)++{ data:=#[115,111,114,116] }).data.toList++(({ data:=#[32] }:ByteArray)++{ data:=(Lib.itoa (i:Nat)).toArray }).data.toList++[41]=l++Ln i:=by
   unfold Ln;simp
  rw[<-e];exact s6.bd
def Cg(i:Nat):Tm:=.mk 1 i 0 0 []
def Rd{i:Nat}(hi:i<=1000):TOk (Cg i)/\Fz (Cg i) 0=true/\Rq (Cg i)=0/\Ol (Cg i)<=1000:=by
 have h1:=Sm hi;have h2:Fz (Cg i) 0=true:=by
  unfold Cg;rw[Pz];unfold Lm Ns;rw[h1];rfl
 refine⟨.mk _ _ _ _ _ (by unfold fit;omega) (by unfold fit;omega) (by unfold fit;omega) (by unfold fit;omega) (by simp) (fun t ht=>by cases ht),h2,?_,?_⟩
 ·unfold Rq;rw[if_pos h2,Cg,Gm,if_neg (by decide),Pl]
 ·rw[Cg,Ol,Pu];omega
def Alr{m:Mem}{i:Nat}:Rep m (Ny i) (.agg true (tv (Cg i))):=by
 unfold Cg;rw[Bp];refine .agg [.int .i64 1,.int .i64 i,.int .i64 0,.int .i64 0,.slice none 0 0] _ (by intro v hv;simp only[q_kb,q_kc,or_false] at hv;rcases hv with rfl|rfl|rfl|rfl|rfl<;>rfl) rfl (fun j v x h1 h2=>?_)
 match j,h1,h2 with
 |0,h1,h2=>cases h1;cases h2;exact .int _ _
 |1,h1,h2=>cases h1;cases h2;exact .int _ _
 |2,h1,h2=>cases h1;cases h2;exact .int _ _
 |3,h1,h2=>cases h1;cases h2;exact .int _ _
 |4,h1,h2=>cases h1;cases h2;exact .dsl0 _ _ _
 |j+5,h1,h2=>simp at h1
def A1b{B:Nat}{w:World}(hw:MW B w){i:Nat}(hi:i<=1000):Calls Tryz.prog 64 #[Ny i] w fun e w'=>e=.returned (.bool true)/\Below w.heap.size w w':=by
 obtain⟨h1,h2,h3,h4⟩:=Rd hi;have hc:=Acd (Cg i) h1;rw[h2] at hc;refine Calls.mono (Vg hc hw [Ny i] rfl (fun m j v x h1 h2=>?_)) (fun e w' h=>?_)
 ·match j,h1,h2 with
  |0,h1,h2=>cases h1;cases h2;exact Alr
  |j+1,h1,h2=>simp at h1
 ·obtain⟨⟨v,m',h1,h2⟩,h3⟩:=h;refine⟨?_,h3⟩;rw[h1];cases h2;rfl
def Auz{B:Nat}{w:World}(hw:MW B w){i:Nat}(hi:i<=1000):Calls Tryz.prog 55 #[Ny i] w fun e w'=>e=.returned (.int .i64 0)/\Below w.heap.size w w':=by
 obtain⟨h1,h2,h3,h4⟩:=Rd hi;have hc:=Xm (Cg i) h1 (by omega);rw[h3] at hc;refine Calls.mono (Vg hc hw [Ny i] rfl (fun m j v x h1 h2=>?_)) (fun e w' h=>?_)
 ·match j,h1,h2 with
  |0,h1,h2=>cases h1;cases h2;exact Alr
  |j+1,h1,h2=>simp at h1
 ·obtain⟨⟨v,m',h1,h2⟩,h3⟩:=h;refine⟨?_,h3⟩;rw[h1];cases h2;rfl
def MW.here{B:Nat}{w:World}(h:MW B w):MW w.heap.size w:=by
 obtain⟨m,hm⟩:=h.ok;exact⟨m,w,rfl,hm,Below.refl _ _⟩
def Zs{k:Nat}{o:Obj}{w w':World}(h:w.heap[k]?=some o)(hb:Below w.heap.size w w'):w'.heap[k]?=some o:=(hb.block k (Array.getElem?_eq_some_iff.1 h).1).trans h
def Af4{i:Nat}{B:Nat}{w:World}(hw:MW B w)(hi:i<=1000) :
  Calls Tryz.prog 33 #[Ny i,.int .i64 0] w fun e w'=>e=.returned (.string ⟨(Ln i).toArray⟩)/\Below w.heap.size w w':=by
 have hw:=hw.here;have hb0:Below w.heap.size w (w.alloc (.cells #[.int .i64 1,.int .i64 i,.int .i64 0,.int .i64 0,.slice none 0 0] 25)):=(Below.refl _ w).alloc (q_ja _) _;have h0:(w.alloc (.cells #[.int .i64 1,.int .i64 i,.int .i64 0,.int .i64 0,.slice none 0 0] 25)).heap[w.heap.size]?=some (.cells #[.int .i64 1,.int .i64 i,.int .i64 0,.int .i64 0,.slice none 0 0] 25 (0,0)):=Array.getElem?_push_size;have hw0:=hw.step hb0;have Tf:w.heap.size<=(w.alloc (.cells #[.int .i64 1,.int .i64 i,.int .i64 0,.int .i64 0,.slice none 0 0] 25)).heap.size:=hb0.size;unfold Ny
 go_enter Tryz.func33,Tryz.ntmps33
 go_wp2_with (go_at_call 64;refine (A1b hw0 hi).mono ?_)
 generalize w.alloc (.cells #[.int .i64 1,.int .i64 i,.int .i64 0,.int .i64 0,.slice none 0 0] 25)=w0 at *
 generalize Zh:w.heap.size=tb at *
 rintro e W1 ⟨rfl,k1⟩;have h1:=Zs h0 k1;have hw1:=hw0.step (Mz k1 Tf);have b1:=hb0.trans (Mz k1 Tf);have d0:=Lib.cell_of_heap h1 0;have d1:=Lib.cell_of_heap h1 1;have d2:=Lib.cell_of_heap h1 2;have d3:=Lib.cell_of_heap h1 3;have d4:=Lib.cell_of_heap h1 4
 go_wp2_with (go_at_call 55;refine (Auz hw1 hi).mono ?_)
 rintro e W2 ⟨rfl,k2⟩;have Ya:=q_kn Tf k1.size;have h2:=Zs h1 k2;have hw2:=hw1.step (Mz k2 Ya);have b2:=b1.trans (Mz k2 Ya);have hB2:=q_kn Ya k2.size;clear d0 d1 d2 d3 d4;have f3:=Lib.IsBuilderF.of (Lib.fresh_isBuilder 53 5 W2);have k3:Below W2.heap.size W2 (W2.alloc (.cells #[.pointer none,.slice none 0 0] 53)):=(Below.refl _ W2).alloc (q_ja _) _;have h3:=Zs h2 k3;have Zm:=hw2.here.step k3;have hB3:=k3.size;have e0:=Lib.cell_of_heap h3 0;have e1:=Lib.cell_of_heap h3 1;have e2:=Lib.cell_of_heap h3 2;have e3:=Lib.cell_of_heap h3 3;have e4:=Lib.cell_of_heap h3 4
 go_wp2_with (go_at_call 65;refine (A4n (l:=[]) (i:=i) f3 Zm hB3 (by decide) (by omega)).mono ?_)
 rintro e W4 ⟨rfl,f4,k4⟩
 go_wp2_with (go_at_call 34;refine (Am0 f4 (q_kn hB3 k4.size)).mono ?_)
 rintro e W5 ⟨rfl,k5,_⟩
 go_wp2
 go_ret
 rw[Zh];exact⟨rfl,b2.trans (Mz (k3.trans (k4.trans k5)) hB2)⟩
def Aha{f:Nat}{args:List SV}{s:By}(h:∀(m:Mem) (w:World) (vs:List Value),Hw m w->vs.length=args.length->(∀(j:Nat) v x,vs[j]?=some v->args[j]?=some x->Rep m v x)->Calls Tryz.prog f vs.toArray w fun e w'=>e=.returned (.string ⟨s.toArray⟩)/\Below w.heap.size w w'):Con f args (.str (bs s)):=by
 intro m w vs h1 h2 h3;refine Calls.mono (h m w vs h1 h2 h3) (fun e w' he=>?_);obtain⟨rfl,hb⟩:=he;exact⟨_,m,rfl,.str _,⟨.refl m,rfl⟩,fun _ _ _=>rfl,Ae0 h1 hb,hb.os,hb.tape,hb.output,hb.size,fun j hj=>hb.block j hj⟩
def af67:AF:=⟨32,[(.cell 4 false 1)],(Ab [oP 4 (.new [(iS 0)])] (.seq (Ab [Aa 8 0,oP 9 (.call 19 [(.t 8)]),oP 10 (.un .not (.t 9))] (Aj 10 (Ab [oN (.store 1 (.t 4) (cI 1))] .ret) .skip)) (Ab [oP 11 (.mv (cB true)),oN (.un .not (.t 11)),oP 11 (.mv (.c .J))] (Ab [Aa 12 1,oP 13 (.build [(.float .f64 0)] [(0,(1,(.t 12)))]),oP 14 (.boxg (.t 13)),Aa 5 14] (.seq (Ab [Aa 15 0,oP 16 (.len false (.t 15)),oP 17 (.mv (cI 0))] (.blk 0 (.loop (Ab [oP 18 (Ca .lss 17 16)] (.seq (Et 18 0) (.seq (.blk 1 (Ab [Aa 19 17,oP 20 (.iad 6 (.t 15) (.t 17)),oP 21 (Aq 6 20),oP 7 (.new [(iS 0),(iS 0),(iS 0),(iS 0),.nils,(iS 0)]),Aa 6 19,oN (Ax 6 7 21)] (.reg [Aa 22 5,oI 23 1 (mT 0),oI 24 2 (mT 6),oI 25 3 (.slc 6 (.t 23) none (some (.t 24))),oI 26 4 (Ae 0 7),oI 27 5 (Aq 5 26),oI 28 6 (Ae 5 7),oI 29 7 (Ah 28),⟨(some 30),(.hcall 105 [(.t 22),(.t 25),(.t 27),(.t 29)]),none,8,false,[8]⟩] true))) (Bg [oP 31 (Ay .add 17 1),Aa 17 31]))))))) (Ab [oN (.store 1 (.t 4) (cI 0))] .ret))))))⟩
def tr67:Qb Tryz.prog Tryz.f67=some (af67,11,103,1):=by kernel_rfl
attribute [go_sem] af67
def af106:AF:=⟨40,[(.cell 6 true 5),(.cell 7 false 1),(.cell 8 false 1)],(Ab [oP 4 (.box (.t 1)),oP 6 Fp,oP 7 (.new [(iS 0)]),oP 8 (.new [(iS 0)])] (.seq (Ab [Aa 10 0,oP 11 (.call 19 [(.t 10)]),oP 12 (.un .not (.t 11)),Aa 13 12,oG 14 13 false 0 (Aq 5 4),oG 15 13 false 0 (.call 20 [(.t 14)]),oG 16 13 false 0 (.un .not (.t 15)),oP 17 (Dk 13 16),Aa 18 17,oG 19 18 false 0 (Aq 5 4),oG 20 18 false 0 (.call 55 [(.t 19)]),oG 21 18 false 0 (mT 0),oG 22 18 false 0 (.len false (.t 21)),oG 23 18 false 0 (Ca .gtr 20 22),oP 24 (Dk 18 23)] (Aj 24 (Ab [oP 25 (Gy []),oN (Ax 5 6 25),oN (.store 1 (.t 7) (cI 0)),oN (.store 1 (.t 8) (cI 1))] .ret) .skip)) (Ab [oP 26 (.mv (cB true)),oN (.un .not (.t 26)),oP 26 (.mv (.c .J))] (Ab [Aa 27 2,oP 28 (.build [(.float .f64 0)] [(0,(1,(.t 27)))]),oP 29 (.boxg (.t 28)),Aa 9 29] (Ab [Aa 31 9,Aa 32 0,oP 33 (Aq 5 4),oP 34 (.hcall 136 [(.t 31),(.t 32),(.t 33)]),Aa 30 34,oP 35 (.ext (.t 30) 0),oP 36 (.ext (.t 30) 1),oN (Ax 5 6 35),oN (Ax 1 7 36)] (Cx [oP 37 (Aq 5 6),⟨(some 38),(.call 141 [(.t 37)]),none,1,true,[]⟩,⟨(some 39),(Ah 7),none,2,true,[1]⟩,⟨none,(Ax 5 6 38),none,3,false,[2]⟩,oJ 4 (Ax 1 7 39),oJ 5 (.store 1 (.t 8) (cI 0))] .ret))))))⟩
def tr106:Qb Tryz.prog Tryz.f106=some (af106,26,140,3):=by kernel_rfl
attribute [go_sem] af106
def af70:AF:=⟨32,[(.cell 4 false 1)],(Ab [oP 4 (.new [(iS 0)])] (.seq (Ab [Aa 9 0,oP 10 (.call 108 [(.t 9)]),oP 11 (.un .not (.t 10))] (Aj 11 (Ab [oN (.store 1 (.t 4) (cI 1))] .ret) .skip)) (Ab [oP 12 (.mv (cB true)),oN (.un .not (.t 12)),oP 12 (.mv (.c .J))] (Ab [Aa 13 1,oP 14 (.hcall 111 [(.t 13)]),Aa 5 14] (Ab [oP 6 (.mv (.c .nilp))] (.seq (Ab [Aa 15 0,oP 16 (.len false (.t 15)),oP 17 (.mv (cI 0))] (.blk 0 (.loop (Ab [oP 18 (Ca .lss 17 16)] (.seq (Et 18 0) (.seq (.blk 1 (Ab [oP 19 (.iad 5 (.t 15) (.t 17)),oP 20 (Aq 5 19),oP 8 Fp,oN (Ax 5 8 20)] (Ab [Aa 21 5,oP 22 (Aq 5 8),Aa 23 6,oP 24 (.hcall 112 [(.t 21),(.t 22),(.t 23)])] (Bg [Aa 25 5,Aa 26 6,oP 27 (Aq 5 8),Aa 28 6,oP 29 (.hcall 114 [(.t 27),(.t 28)]),oP 30 (.hcall 113 [(.t 25),(.t 26),(.t 29)]),Aa 6 30])))) (Bg [oP 31 (Ay .add 17 1),Aa 17 31]))))))) (Ab [oN (.store 1 (.t 4) (cI 0))] .ret)))))))⟩
def tr70:Qb Tryz.prog Tryz.f70=some (af70,12,109,1):=by kernel_rfl
attribute [go_sem] af70
def af72:AF:=⟨43,[(.cell 8 false 1)],(Ab [oP 5 (.box (.t 1)),oP 6 (.box (.t 2)),oP 8 (.new [(iS 0)])] (.seq (Ab [Aa 11 0,oP 12 (.call 108 [(.t 11)]),oP 13 (.un .not (.t 12)),Aa 14 13,oG 15 14 false 0 (mT 0),oG 16 14 false 0 (Aq 5 5),oG 17 14 false 0 (.call 115 [(.t 15),(.t 16)]),oG 18 14 false 0 (.un .not (.t 17)),oP 19 (Dk 14 18),Aa 20 19,oG 21 20 false 0 (mT 0),oG 22 20 false 0 (Aq 5 6),oG 23 20 false 0 (.call 115 [(.t 21),(.t 22)]),oG 24 20 false 0 (.un .not (.t 23)),oP 25 (Dk 20 24)] (Aj 25 (Ab [oN (.store 1 (.t 8) (cI 1))] .ret) .skip)) (Ab [oP 26 (.mv (cB true)),oN (.un .not (.t 26)),oP 26 (.mv (.c .J))] (Ab [Aa 27 3,oP 28 (.hcall 111 [(.t 27)]),Aa 9 28] (Ab [Aa 29 9,Aa 30 0,oP 31 (.hcall 117 [(.t 29),(.t 30)]),Aa 10 31] (Ab [Aa 32 9,oP 33 (Aq 5 6),Aa 34 10,oP 35 (.hcall 112 [(.t 32),(.t 33),(.t 34)])] (Cx [Aa 36 9,⟨(some 37),(Aq 5 5),none,1,true,[]⟩,oI 38 2 (mT 10),oI 39 3 (Aq 5 6),oI 40 4 (mT 10),⟨(some 41),(.hcall 114 [(.t 39),(.t 40)]),none,5,false,[1,5]⟩,⟨(some 42),(.hcall 118 [(.t 36),(.t 37),(.t 38),(.t 41)]),none,6,false,[6]⟩] (Ab [oN (.store 1 (.t 8) (cI 0))] .ret))))))))⟩
def tr72:Qb Tryz.prog Tryz.f72=some (af72,26,116,1):=by kernel_rfl
attribute [go_sem] af72
end Go.Proofs.YtgfehkhcmnfpaaaGreatDoor.Abs
