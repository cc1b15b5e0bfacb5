import Derived.Test.YtdpigpopcbjkmaaGreatDoorXMa
import Derived.Test.YtdpigpopcbjkmaaGreatDoorXBi
set_option linter.unusedSimpArgs false
set_option linter.unusedVariables false
set_option maxRecDepth 20000
set_option maxHeartbeats 4000000
namespace Go.Proofs.YtdpigpopcbjkmaaGreatDoor.Abs
open Go Go.RowKit
def Aj(t:Tm)(p:Nat):Tm:=t.kids.getD p (vT 0)
def Bm(t:Tm)(p:Nat)(u:Tm):Tm:=.mk t.k t.i t.j t.n (t.kids.set p u)
def stk(k:Int):Option Nat:=if k=15\/k=18\/k=19 then some 0 else if k=22 then some 5 else none
def isV(k:Int):Prop:=k=14\/k=17\/k=21
theorem Aom{k:Int}(h:isV k):stk k=none:=by
 unfold isV at h;unfold stk;rw[if_neg (by omega),if_neg (by omega)]
theorem Ji{k:Int}{p:Nat}(h:stk k=some p):(k=15\/k=18\/k=19\/k=22)/\p<6:=by
 unfold stk at h;split at h
 ·cases h;omega
 ·split at h
  ·cases h;omega
  ·cases h
theorem Afu(t:Tm)(p:Nat)(u:Tm):(Bm t p u).k=t.k:=rfl
theorem An7(t:Tm)(p:Nat)(u:Tm):(Bm t p u).kids.length=t.kids.length:=by unfold Bm;simp[Tm.kids]
theorem Zs{t:Tm}{p:Nat}{u:Tm}(h:p<t.kids.length):Aj (Bm t p u) p=u:=by
 cases t with
 |mk k i j n l=>
  have h':p<l.length:=h;simp[Aj,Bm,Tm.kids,List.getD_eq_getElem?_getD,List.getElem?_set_self h']
theorem A6r{t:Tm}{p q:Nat}{u:Tm}(h:p≠q):Aj (Bm t p u) q=Aj t q:=by
 cases t with
 |mk k i j n l=>simp[Aj,Bm,Tm.kids,List.getD_eq_getElem?_getD,List.getElem?_set_ne h]
theorem An9(t:Tm)(p:Nat)(u w:Tm):Bm (Bm t p u) p w=Bm t p w:=by
 unfold Bm;simp[Tm.kids,Tm.k,Tm.i,Tm.j,Tm.n]
theorem Abu{t:Tm}{p:Nat}:Bm t p (Aj t p)=t:=by
 cases t with
 |mk k i j n l=>
  unfold Bm Aj;simp only[Tm.k,Tm.i,Tm.j,Tm.n,Tm.kids];congr 1
  by_cases h:p<l.length
  ·apply List.ext_getElem?;intro q
   by_cases hq:p=q
   ·subst hq;rw[List.getElem?_set_self h,List.getD_eq_getElem?_getD,q_f h];rfl
   ·rw[List.getElem?_set_ne hq]
  ·rw[List.set_eq_of_length_le (by omega)]
structure Ax(P:Tm->Option Tm):Prop where
 a:∀t u,P t=some u->t.k=23\/∃p,stk t.k=some p/\isV (Aj t p).k
inductive HS(P:Tm->Option Tm):Tm->Tm->Prop
 |here {t u:Tm} (h:P t=some u):HS P t u
 |down {t u:Tm} {p:Nat} (h:P t=none) (hp:stk t.k=some p) (hs:HS P (Aj t p) u):HS P t (Bm t p u)
inductive HN(P:Tm->Option Tm):Tm->Prop
 |mk {t:Tm} (h:P t=none) (hk:∀p,stk t.k=some p->HN P (Aj t p)):HN P t
inductive HR(P:Tm->Option Tm):Nat->Tm->Tm->Prop
 |refl (t:Tm):HR P 0 t t
 |step {n:Nat} {t u w:Tm} (h:HS P t u) (hr:HR P n u w):HR P (n+1) t w
section
variable{P:Tm->Option Tm}
theorem A4u(ax:Ax P){t u:Tm}(h:HS P t u):¬isV t.k:=by
 intro hv;cases h with
 |here h=>
  rcases ax.a _ _ h with h'|⟨p,h',_⟩
  ·unfold isV at hv;omega
  ·rw[Aom hv] at h';cases h'
 |down h hp hs=>rw[Aom hv] at hp;cases hp
theorem Aes{t u:Tm}(h:HS P t u):∀{w},HS P t w->u=w:=by
 induction h with
 |here h=>
  intro w hw;cases hw with
  |here h'=>rw[h] at h';injection h'
  |down h'=>rw[h] at h';cases h'
 |down h hp hs ih=>
  intro w hw;cases hw with
  |here h'=>rw[h] at h';cases h'
  |down h' hp' Dn=>
   rw[hp] at hp';cases hp';rw[ih Dn]
theorem Yy{t:Tm}(h:HN P t):∀{u},¬HS P t u:=by
 induction h with
 |mk h hk ih=>
  intro u hu;cases hu with
  |here h'=>rw[h] at h';cases h'
  |down h' hp hs=>exact ih _ hp hs
theorem A4h(ax:Ax P)(i:Nat):HN P (vT i):=by
 refine .mk ?_ (fun p hp=>?_)
 ·cases h:P (vT i) with
  |none=>rfl
  |some u=>
   rcases ax.a _ _ h with h'|⟨p,h',_⟩
   ·exact absurd h' (show ¬(2:Int)=23 by decide)
   ·exact absurd (Ji h').1 (show ¬((2:Int)=15\/(2:Int)=18\/(2:Int)=19\/(2:Int)=22) by decide)
 ·exact absurd (Ji hp).1 (show ¬((2:Int)=15\/(2:Int)=18\/(2:Int)=19\/(2:Int)=22) by decide)
theorem Aeu(ax:Ax P)(t:Tm):HN P t\/∃u,HS P t u:=by
 induction t using Tm.ind with
 |h k i j n l ih=>
  cases hP:P (.mk k i j n l) with
  |some u=>exact .inr ⟨u,.here hP⟩
  |none=>
   cases hp:stk k with
   |none=>exact .inl (.mk hP (fun p hp'=>by rw[show (Tm.mk k i j n l).k=k from rfl,hp] at hp';cases hp'))
   |some p=>
    have:HN P (Aj (.mk k i j n l) p)\/∃u,HS P (Aj (.mk k i j n l) p) u:=by
     unfold Aj;rw[show (Tm.mk k i j n l).kids=l from rfl,List.getD_eq_getElem?_getD];cases hq:l[p]? with
     |none=>exact .inl (A4h ax 0)
     |some t=>exact ih t (List.mem_of_getElem? hq)
    rcases this with h|⟨u,h⟩
    ·exact .inl (.mk hP (fun p' hp'=>by rw[show (Tm.mk k i j n l).k=k from rfl,hp] at hp';cases hp';exact h))
    ·exact .inr ⟨_,.down hP hp h⟩
theorem Aet(ax:Ax P){t u:Tm}{p:Nat}(hp:stk t.k=some p)(h:HS P (Aj t p) u):HS P t (Bm t p u):=by
 refine .down ?_ hp h;cases hP:P t with
 |none=>rfl
 |some w=>
  rcases ax.a _ _ hP with h'|⟨q,h',hv⟩
  ·have:=(Ji hp).1;omega
  ·rw[hp] at h';cases h';exact absurd hv (A4u ax h)
theorem Sc{n m:Nat}{t u w:Tm}(h:HR P n t u)(k:HR P m u w):HR P (n+m) t w:=by
 induction h with
 |refl t=>rw[Nat.zero_add];exact k
 |step h hr ih=>rw[show ∀a:Nat,a+1+m=a+m+1 by omega];exact .step h (ih k)
theorem Ze(ax:Ax P){n:Nat}{f g:Tm}(h:HR P n f g):∀{t:Tm} {p:Nat},stk t.k=some p->p<t.kids.length->Aj t p=f->HR P n t (Bm t p g):=by
 induction h with
 |refl f=>intro t p _ _ hf;subst hf;rw[Abu];exact .refl _
 |@step n f f1 g h hr ih=>
  intro t p hp hl hf;subst hf;refine .step (Aet ax hp h) ?_;have:=ih (t:=Bm t p f1) (p:=p) hp (by rw[An7];exact hl) (Zs hl)
  rwa [An9] at this
theorem Akt(ax:Ax P){N:Nat}{Y:Tm}:∀{t:Tm} {p:Nat},stk t.k=some p->p<t.kids.length->HR P N t Y->HN P Y ->
  ∃N1 g,N1<=N/\HR P N1 (Aj t p) g/\HN P g/\HR P (N-N1) (Bm t p g) Y:=by
 induction N with
 |zero=>
  intro t p hp hl hr hn;cases hr;cases hn with
  |mk h hk=>exact⟨0,_,Nat.le_refl _,.refl _,hk p hp,by rw[Abu];exact .refl _⟩
 |succ N ih=>
  intro t p hp hl hr hn;rcases Aeu ax (Aj t p) with h|⟨u,h⟩
  ·exact⟨0,_,Nat.zero_le _,.refl _,h,by rw[Abu];exact hr⟩
  ·cases hr with
   |step h1 Bs=>
    have e:=Aes h1 (Aet ax hp h);subst e;obtain⟨N1,g,hN,r1,r2,r3⟩:=ih (t:=Bm t p u) (p:=p) hp (by rw[An7];exact hl) Bs hn;rw[Zs hl] at r1;rw[An9] at r3;exact⟨N1+1,g,by omega,.step h r1,r2,by rw[show N+1-(N1+1)=N-N1 by omega];exact r3⟩
theorem Uh{N M:Nat}{t Y Z:Tm}(h:HR P N t Y)(hn:HN P Y)(k:HR P M t Z):M<=N/\HR P (N-M) Z Y:=by
 induction k generalizing N with
 |refl t=>exact⟨Nat.zero_le _,h⟩
 |step h1 hr ih=>
  cases h with
  |refl=>exact absurd h1 (Yy hn)
  |step h2 Gn=>
   have e:=Aes h1 h2;subst e;obtain⟨a,b⟩:=ih Gn;exact⟨by omega,by rw[show ∀n m:Nat,n+1-(m+1)=n-m by omega];exact b⟩
theorem Wl{N M:Nat}{t Y Z:Tm}(h:HR P N t Y)(hn:HN P Y)(k:HR P M t Z)(kn:HN P Z):N=M/\Y=Z:=by
 obtain⟨a,b⟩:=Uh h hn k;have:N-M=0/\Z=Y:=by
  generalize N-M=D at b;cases b with
  |refl=>exact⟨rfl,rfl⟩
  |step h1=>exact absurd h1 (Yy kn)
 exact⟨by omega,this.2.symm⟩
theorem Uj{Q:Tm->Option Tm}(ax:Ax Q)(Vz:∀t u,P t=some u->Q t=some u){t u:Tm}(h:HS P t u):HS Q t u:=by
 induction h with
 |here h=>exact .here (Vz _ _ h)
 |down h hp hs ih=>exact Aet ax hp ih
theorem A4l{Q:Tm->Option Tm}(ax:Ax Q)(Vz:∀t u,P t=some u->Q t=some u){n:Nat}{t u:Tm}(h:HR P n t u):HR Q n t u:=by
 induction h with
 |refl t=>exact .refl t
 |step h hr ih=>exact .step (Uj ax Vz h) ih
theorem A4k{Q:Tm->Option Tm}(axP:Ax P)(ax:Ax Q)(Vz:∀t u,P t=some u->Q t=some u){N:Nat}{Y:Tm}:∀{t:Tm},HR Q N t Y->HN Q Y ->
  ∃N1 w,N1<=N/\HR P N1 t w/\HN P w/\HR Q (N-N1) w Y:=by
 induction N with
 |zero=>
  intro t hr hn;cases hr;rcases Aeu axP Y with h|⟨u,h⟩
  ·exact⟨0,Y,Nat.le_refl _,.refl _,h,.refl _⟩
  ·exact absurd (Uj ax Vz h) (Yy hn)
 |succ N ih=>
  intro t hr hn;rcases Aeu axP t with h|⟨u,h⟩
  ·exact⟨0,t,Nat.zero_le _,.refl _,h,hr⟩
  ·cases hr with
   |step h1 Bs=>
    have e:=Aes h1 (Uj ax Vz h);subst e;obtain⟨N1,w,hN,r1,r2,r3⟩:=ih Bs hn;exact⟨N1+1,w,by omega,.step h r1,r2,by rw[show N+1-(N1+1)=N-N1 by omega];exact r3⟩
end
def plW(t:Tm):Option Tm:=
 if t.k=15/\(Aj t 0).k=14 then some (Ao [Aj t 1] 0 (Aj (Aj t 0) 1))
 else if t.k=18/\(Aj t 0).k=17 then some (Aj (Aj t 0) 2)
 else if t.k=19/\(Aj t 0).k=17 then some (Aj (Aj t 0) 3)
 else if t.k=22/\(Aj t 5).k=21 then some (Aj t 3) else none
def plD(B:Int->Int->Int->Option Tm)(t:Tm):Option Tm:=
 if t.k=23 then (B t.n t.i t.j).map (fun b=>Ao t.kids.reverse 0 b) else plW t
theorem axW:Ax plW:=by
 refine⟨fun t u h=>?_⟩;unfold plW at h;unfold isV stk;split at h
 ·rename_i c;exact .inr ⟨0,by rw[if_pos (by omega)],by omega⟩
 split at h
 ·rename_i c;exact .inr ⟨0,by rw[if_pos (by omega)],by omega⟩
 split at h
 ·rename_i c;exact .inr ⟨0,by rw[if_pos (by omega)],by omega⟩
 split at h
 ·rename_i c;exact .inr ⟨5,by rw[if_neg (by omega),if_pos (by omega)],by omega⟩
 ·cases h
theorem axD(B:Int->Int->Int->Option Tm):Ax (plD B):=by
 refine⟨fun t u h=>?_⟩;unfold plD at h;split at h
 ·rename_i c;exact .inl c
 ·exact axW.a t u h
theorem plWD{B:Int->Int->Int->Option Tm}:∀t u,plW t=some u->plD B t=some u:=by
 intro t u h;unfold plD;rw[if_neg,h];intro c;unfold plW at h;rw[if_neg (by omega),if_neg (by omega),if_neg (by omega),if_neg (by omega)] at h;cases h
open Go Go.RowKit Go.Proofs.YtdpigpopcbjkmaaGreatDoor
mutual
def dpt:Tm->Nat
 |.mk k _ _ _ l=>Lf k 0 l
def Lf(k:Int)(p:Nat):List Tm->Nat
 |[]=>0
 |t::l=>max (bnd k p+dpt t) (Lf k (p+1) l)
end
theorem Axj{k:Int}{t:Tm}:∀{l:List Tm} {q p:Nat},l[p]?=some t->bnd k (q+p)+dpt t<=Lf k q l:=by
 intro l
 induction l with
 |nil=>intro q p h;cases h
 |cons u l ih=>
  intro q p h;rw[Lf];cases p with
  |zero=>simp only[List.getElem?_cons_zero,q_b] at h;subst h;rw[Nat.add_zero];omega
  |succ p=>
   rw[List.getElem?_cons_succ] at h;have:=ih (q:=q+1) h;rw[show q+1+p=q+(p+1) by omega] at this;omega
theorem Jy{k i j n:Int}{l:List Tm}{p:Nat}{t:Tm}(h:l[p]?=some t):bnd k p+dpt t<=dpt (.mk k i j n l):=by
 have:=Axj (k:=k) (q:=0) h;rw[Nat.zero_add] at this
 rwa [dpt]
inductive Sf:Nat->Tm->Prop
 |var {b i:Nat} (h:i<b):Sf b (vT i)
 |nd {b:Nat} {k:Int} (i j n:Int) {l:List Tm} (h2:k≠2) (h0:k≠0) (hf:fit i/\fit j/\fit n) (hl:(l.length:Int)=Bh k n) (hk:∀(p:Nat) t,l[p]?=some t->Sf (b+bnd k p) t):Sf b (.mk k i j n l)
theorem Sf.wf{b:Nat}{t:Tm}(h:Sf b t):Wf b t:=by
 induction h with
 |var h=>exact .var h
 |nd i j n h2 h0 hf hl _ ih=>exact .nd i j n h2 h0 hf hl ih
theorem Sf.kid{b:Nat}{k i j n:Int}{l:List Tm}(h:Sf b (.mk k i j n l)){p:Nat}{t:Tm}(ht:l[p]?=some t):Sf (b+bnd k p) t:=by
 cases h with
 |var h=>cases ht
 |nd i j n _ _ _ _ hk=>exact hk p t ht
theorem Sf.node{b:Nat}{k i j n:Int}{l:List Tm}(h:Sf b (.mk k i j n l))(h2:k≠2):k≠0/\(fit i/\fit j/\fit n)/\(l.length:Int)=Bh k n:=by
 cases h with
 |var h=>exact absurd rfl h2
 |nd i j n _ h0 hf hl _=>exact⟨h0,hf,hl⟩
theorem Sf.vr{b:Nat}{i j n:Int}{l:List Tm}(h:Sf b (.mk 2 i j n l)):∃q:Nat,i=(q:Int)/\j=0/\n=0/\l=[]/\q<b:=by
 cases h with
 |var h=>exact⟨_,rfl,rfl,rfl,rfl,h⟩
 |nd i j n h2=>exact absurd rfl h2
def cap:Nat:=1099511627776
inductive Ge where
 |cl (t:Tm) (es:List Tm)
 |dn (v:Vl) (T:Tm)
 |kp (row:List SV)
abbrev Gh:=List (Option Ge)
def Ge.den(n:Nat):Ge->Tm
 |.cl t es=>Ao es n t
 |.dn _ T=>T
 |.kp _=>fT 0
def den(Γ:Gh)(id n:Nat):Tm:=match Γ[id]? with
 |some (some g)=>g.den n
 |_=>fT 0
theorem Mb{Γ:Gh}{id n:Nat}{g:Ge}(h:Γ[id]?=some (some g)):den Γ id n=g.den n:=by unfold den;rw[h]
def Gx(Γ Γ':Gh):Prop:=∃Δ,Γ'=Γ++Δ
theorem Gx.refl(Γ:Gh):Gx Γ Γ:=⟨[],by simp⟩
theorem Gx.trans{a b c:Gh}(h:Gx a b)(k:Gx b c):Gx a c:=by
 obtain⟨d,rfl⟩:=h;obtain⟨e,rfl⟩:=k;exact⟨d++e,by simp⟩
theorem Gx.app(Γ Δ:Gh):Gx Γ (Γ++Δ):=⟨Δ,rfl⟩
theorem Gx.len{Γ Γ':Gh}(h:Gx Γ Γ'):Γ.length<=Γ'.length:=by obtain⟨d,rfl⟩:=h;simp
theorem Gx.get{Γ Γ':Gh}(h:Gx Γ Γ'){id:Nat}{x:Option Ge}(hx:Γ[id]?=some x):Γ'[id]?=some x:=by
 obtain⟨d,rfl⟩:=h;rw[List.getElem?_append_left (Dh hx)];exact hx
theorem Gx.den{Γ Γ':Gh}(h:Gx Γ Γ'){id n:Nat}{g:Ge}(hx:Γ[id]?=some (some g)):den Γ' id n=den Γ id n:=by rw[Mb hx,Mb (h.get hx)]
def Fk(Γ:Gh)(k:Int):Nat->List Nat->List Tm
 |_,[]=>[]
 |p,id::l=>den Γ id (bnd k p)::Fk Γ k (p+1) l
theorem Nz{Γ:Gh}{k:Int}:∀{l:List Nat} {p:Nat},(Fk Γ k p l).length=l.length:=by
 intro l
 induction l with
 |nil=>intro p;rfl
 |cons a l ih=>intro p;simp[Fk,ih]
theorem Ny{Γ:Gh}{k:Int}:∀{l:List Nat} {p q:Nat},(Fk Γ k p l)[q]?=(l[q]?).map fun id=>den Γ id (bnd k (p+q)):=by
 intro l
 induction l with
 |nil=>intro p q;simp[Fk]
 |cons a l ih=>
  intro p q;cases q with
  |zero=>simp[Fk]
  |succ q=>rw[Fk,List.getElem?_cons_succ,List.getElem?_cons_succ,ih,show p+1+q=p+(q+1) by omega]
def TV(Γ:Gh)(v:Vl):Tm:=if v.k=2 then fT v.level else .mk v.k v.i v.j v.n (Fk Γ v.k 0 v.kids)
theorem Jw{Γ:Gh}{v:Vl}(h:v.k≠2):TV Γ v=.mk v.k v.i v.j v.n (Fk Γ v.k 0 v.kids):=by unfold TV;rw[if_neg h]
theorem TV_k{Γ:Gh}{v:Vl}(h:v.k≠2):(TV Γ v).k=v.k:=by rw[Jw h];rfl
theorem Aci{Γ:Gh}{v:Vl}(h:v.k≠2){p id:Nat}(Be:v.kids[p]?=some id):Aj (TV Γ v) p=den Γ id (bnd v.k p):=by
 rw[Jw h];unfold Aj;rw[show (Tm.mk v.k v.i v.j v.n (Fk Γ v.k 0 v.kids)).kids=Fk Γ v.k 0 v.kids from rfl,List.getD_eq_getElem?_getD,Ny,Be,Nat.zero_add];rfl
def Ge.Ok(n:Nat):Ge->Prop
 |.cl t es=>(∀u∈es,Wf 0 u)/\(∃B,Sf B t/\B+dpt t<=cap)/\es.length+n+dpt t<=cap
 |.dn _ T=>n=0/\Wf 0 T
 |.kp _=>False
theorem Ge.Ok.wf{n:Nat}{g:Ge}(h:g.Ok n):Wf n (g.den n):=by
 cases g with
 |cl t es=>obtain⟨h1,⟨B,h2,_⟩,_⟩:=h;exact Alc h1 h2.wf n
 |dn v T=>obtain⟨rfl,h⟩:=h;exact h
 |kp row=>exact h.elim
inductive VOK(Γ:Gh):Vl->Prop
 |fv (l:Int) (hl:-(cap:Int)-1<=l/\l<=cap):VOK Γ ⟨2,0,0,0,l,[]⟩
 |nd {k i j n:Int} {kids:List Nat} (h2:k≠2) (h0:k≠0) (hf:fit i/\fit j/\fit n) (hl:(kids.length:Int)=Bh k n) (hk:∀(p:Nat) id,kids[p]?=some id->∃g,Γ[id]?=some (some g)/\g.Ok (bnd k p)):VOK Γ ⟨k,i,j,n,0,kids⟩
theorem VOK.wf{Γ:Gh}{v:Vl}(h:VOK Γ v):Wf 0 (TV Γ v):=by
 cases h with
 |fv l _=>exact .fv _ _
 |nd h2 h0 hf hl hk=>
  rw[Jw h2];refine .nd _ _ _ h2 h0 hf (by rw[Nz];exact hl) (fun p t ht=>?_);rw[Ny] at ht;cases hq:(Vl.mk _ _ _ _ 0 _).kids[p]? with
  |none=>rw[hq] at ht;cases ht
  |some id=>
   rw[hq,Option.map_some,q_b] at ht;subst ht;obtain⟨g,hg,ho⟩:=hk p id hq;rw[Nat.zero_add,Nat.zero_add,Mb hg];exact ho.wf
theorem VOK.mono{Γ Γ':Gh}(x:Gx Γ Γ'){v:Vl}(h:VOK Γ v):VOK Γ' v:=by
 cases h with
 |fv l hl=>exact .fv l hl
 |nd h2 h0 hf hl hk=>exact .nd h2 h0 hf hl (fun p id h=>by obtain⟨g,hg,ho⟩:=hk p id h;exact⟨g,x.get hg,ho⟩)
theorem Gq{Γ Γ':Gh}(x:Gx Γ Γ'){v:Vl}(h:VOK Γ v):TV Γ' v=TV Γ v:=by
 cases h with
 |fv l hl=>rfl
 |@nd k i j n kids h2 h0 hf hl hk=>
  rw[Jw h2,Jw h2];congr 1;apply List.ext_getElem?;intro q;rw[Ny,Ny];cases hq:(Vl.mk k i j n 0 kids).kids[q]? with
  |none=>rfl
  |some id=>
   obtain⟨g,hg,_⟩:=hk q id hq;simp only[Option.map_some,x.den hg]
inductive Vst(Γ:Gh):Vl->Prop
 |base {v:Vl} (h:stk v.k=none):Vst Γ v
 |step {v y:Vl} {p id:Nat} (hp:stk v.k=some p) (Be:v.kids[p]?=some id) (hg:Γ[id]?=some (some (.dn y (TV Γ y)))) (hv:VOK Γ y) (hy:Vst Γ y):Vst Γ v
theorem Vst.mono{Γ Γ':Gh}(x:Gx Γ Γ'){v:Vl}(h:Vst Γ v):Vst Γ' v:=by
 induction h with
 |base h=>exact .base h
 |step hp Be hg hv _ ih=>exact .step hp Be (by rw[Gq x hv];exact x.get hg) (hv.mono x) ih
structure WOK(Γ:Gh)(v:Vl):Prop where
 ok:VOK Γ v
 st:Vst Γ v
 hn:HN plW (TV Γ v)
theorem WOK.mono{Γ Γ':Gh}(x:Gx Γ Γ'){v:Vl}(h:WOK Γ v):WOK Γ' v:=⟨h.ok.mono x,h.st.mono x,by rw[Gq x h.ok];exact h.hn⟩
structure EOK(Γ:Gh)(K:Nat)(e:List Nat)(es:List Tm):Prop where
 len:e.length=es.length
 at_:∀(q i:Nat),e[q]?=some i->i<K/\∃g,Γ[i]?=some (some g)/\g.Ok 0/\es[q]?=some (g.den 0)
theorem EOK.mono{Γ Γ':Gh}(x:Gx Γ Γ'){K K':Nat}(hK:K<=K'){e:List Nat}{es:List Tm}(h:EOK Γ K e es):EOK Γ' K' e es:=
 ⟨h.len,fun q i hq=>by obtain⟨h1,g,h2,h3⟩:=h.at_ q i hq;exact⟨by omega,g,x.get h2,h3⟩⟩
theorem EOK.wf{Γ:Gh}{K:Nat}{e:List Nat}{es:List Tm}(h:EOK Γ K e es):∀u∈es,Wf 0 u:=by
 intro u hu;obtain⟨q,hq,rfl⟩:=List.getElem_of_mem hu;have Ku:q<e.length:=by rw[h.len];exact hq
 obtain⟨_,g,_,ho,h3⟩:=h.at_ q e[q] (q_f Ku);rw[q_f hq,q_b] at h3;rw[h3];exact ho.wf
theorem EOK.push{Γ:Gh}{K:Nat}{e:List Nat}{es:List Tm}(h:EOK Γ K e es){i:Nat}{g:Ge}(hi:i<K)(hg:Γ[i]?=some (some g))(ho:g.Ok 0):EOK Γ K (i::e) (g.den 0::es):=by
 refine⟨by simp[h.len],fun q j hq=>?_⟩;cases q with
 |zero=>simp only[List.getElem?_cons_zero,q_b] at hq;subst hq;exact⟨hi,g,hg,ho,rfl⟩
 |succ q=>exact h.at_ q j hq
def ThOK(G:GV)(Γ:Gh)(id:Nat)(th:Th):Ge->Prop
 |.cl t es=>G[id]?=some (thR th)/\th.bare=false/\th.t=t/\EOK Γ id th.env es/\(∀v,th.w=some v->WOK Γ v/\∃n,HR plW n (Ao es 0 t) (TV Γ v))
 |.dn y T=>G[id]?=some (thR th)/\th.bare=true/\th.w=some y/\WOK Γ y/\T=TV Γ y
 |.kp row=>G[id]?=some row/\th.v=none
structure Mc where
 steps:Nat
 most:Nat
 seen:Nat
 guess:Nat
def Mc.row(M:Mc)(j:Nat):List SV:=Bu M.steps M.most M.seen M.guess j
structure Sy where
 nm:List UInt8
 ps:List Tm
 ty:Tm
 bd:Tm
 df:Bool
def Sy.row(s:Sy):List SV:=.str (bs s.nm)::.dsl 5 (s.ps.map tv)::(tv s.ty++(tv s.bd++[.bool s.df]))
abbrev SyT:=Int->Int->Int->Option Sy
def SyT.B(S:SyT)(n i j:Int):Option Tm:=(S n i j).bind fun s=>if s.df then some s.bd else none
def EntOK(S:SyT)(G:GV)(Γ:Gh)(p:K3×SV):Prop:=
 (S p.1.1 p.1.2.1 p.1.2.2=none/\p.2=.nilp)\/∃s id,S p.1.1 p.1.2.1 p.1.2.2=some s/\p.2=.gp id 0/\Γ[id]?=some none/\G[id]?=some s.row
def VC(S:SyT)(Γ:Gh)(th:Th)(g:Ge):Prop:=∀v,th.v=some v->WOK Γ v/\HN (plD S.B) (TV Γ v)/\∃n,HR (plD S.B) n (g.den 0) (TV Γ v)
structure RInv(S:SyT)(m j:Nat)(G:GV)(Γ:Gh)(M:Mc):Prop where
 len:G.length=Γ.length
 mc:G[m]?=some (M.row j)
 gm:Γ[m]?=some none
 gj:Γ[j]?=some none
 mj:m≠j
 map:∃l,G[j]?=some (Hg l)/\(∀p∈l,EntOK S G Γ p)
 rows:∀id g,Γ[id]?=some (some g)->∃th,ThOK G Γ id th g/\VC S Γ th g
 st:M.steps<=M.most
 mo:M.most<=1000000000
 se:M.seen<=8000001
 gu:M.guess<=3000
open Go Go.RowKit Go.Proofs.YtdpigpopcbjkmaaGreatDoor
theorem Zr{a b c:Int}:Sh (.agg true [.int .i64 a,.int .i64 b,.int .i64 c])=some (a,b,c):=q_z
theorem flat3{a b c:SV}:([[a],[b],[c]]:GV).flatten=[a,b,c]:=rfl
theorem Aoq{G:GV}{m j:Nat}{steps most seen guess n i j':Int}{l:List (K3×SV)}{p:K3×SV}(hm:G[m]?=some (Bu steps most seen guess j))(hj:G[j]?=some (Hg l))(hf:l.find? (fun p=>p.1==(n,i,j'))=some p)(hk:ok3 (n,i,j'))
  (hv:p.2=.nilp\/∃id,p.2=.gp id 0):Ad 91 G [.gp m 0,.int .i64 n,.int .i64 i,.int .i64 j'] (.ret p.2) G:=by
 have Rw:Pe (n,i,j') (l.map ent)=some (some p.2):=by rw[Zv,hf];rfl
 obtain⟨k,v⟩:=p;simp only at hv Rw |-;have Hy:G[j]?=some (SV.undef::l.map ent):=hj;refine Aq mixed Tryz.func91 tr91 ?_;rcases hv with rfl|⟨id,rfl⟩<;>simp only[go_sem,seval,hm,Bu,Hy,Zr,flat3,Rw,hk,Option.isSome_some]
theorem Amr{l:List (K3×SV)}{k:K3}{v:SV}:SV.undef::(l.map ent++[.tup [Si k,v]])=Hg (l++[(k,v)]):=by simp[Hg,ent]
section
variable{o n:Nat}
theorem Bbq{a b:Nat}:Gd o n (.gp a b)=.gp a b:=rfl
theorem Bbr{k:IntKind}{a:Int}:Gd o n (.int k a)=.int k a:=rfl
theorem Bbn{b:Bool}:Gd o n (.bool b)=.bool b:=rfl
theorem Bb1:Gd o n .undef=.undef:=rfl
theorem Bbv:Gd o n .nilp=.nilp:=rfl
theorem Bbt{a:Nat}:Gd o n (.mp a)=.mp a:=rfl
theorem Bbm{b:Bool}{l:List SV}:Gd o n (.agg b l)=.agg b l:=rfl
theorem Bb0{l:List SV}:Gd o n (.tup l)=.tup l:=rfl
theorem Bbx{c:Nat}:Gd 2 n (.ref 1 0 0 c)=.ref 1 0 0 c:=rfl
theorem Bby{c:Nat}:Gd 2 n (.ref 2 0 0 c)=.gp n c:=rfl
attribute [go_sem] Bbq Bbr Bbn Bb1 Bbv Bbt Bbm Bb0 Bbx Bby
end
def noSy:List SV:=[.str (bs []),.nils,.int .i64 0,.int .i64 0,.int .i64 0,.int .i64 0,.nils,.int .i64 0,.int .i64 0,.int .i64 0,.int .i64 0,.nils,.bool false]
theorem A9b:noSy.length=13:=rfl
theorem Bgb{G:GV}{m j:Nat}{steps most seen guess n i j':Int}{l:List (K3×SV)}(hm:G[m]?=some (Bu steps most seen guess j))(hj:G[j]?=some (Hg l))(hf:l.find? (fun p=>p.1==(n,i,j'))=none)(hk:ok3 (n,i,j'))(hmj:m≠j)
  (hA:Con 112 [.int .i64 n,.int .i64 i,.int .i64 j'] (.tup [.agg true noSy,.bool false])) :
  Ad 91 G [.gp m 0,.int .i64 n,.int .i64 i,.int .i64 j'] (.ret .nilp) (G.set j (Hg (l++[((n,i,j'),.nilp)]))):=by
 have Rw:Pe (n,i,j') (l.map ent)=some none:=by rw[Zv,hf];rfl
 have Hy:G[j]?=some (SV.undef::l.map ent):=hj;refine Aq mixed Tryz.func91 tr91 ?_;simp only[go_sem,seval,hm,Bu,Hy,Zr,flat3,Rw,hk,Option.isSome_none];refine Aa hA ?_;simp only[go_sem,seval,A9b,hm,Bu,Hy,Zr,flat3,Rw,hk,Amr]
theorem Bga{G:GV}{m j:Nat}{steps most seen guess n i j':Int}{l:List (K3×SV)}{r:List SV}(hm:G[m]?=some (Bu steps most seen guess j))(hj:G[j]?=some (Hg l))(hf:l.find? (fun p=>p.1==(n,i,j'))=none)(hk:ok3 (n,i,j'))(hmj:m≠j)(hr:r.length=13)
  (hA:Con 112 [.int .i64 n,.int .i64 i,.int .i64 j'] (.tup [.agg true r,.bool true])) :
  Ad 91 G [.gp m 0,.int .i64 n,.int .i64 i,.int .i64 j'] (.ret (.gp G.length 0)) ((G++[r]).set j (Hg (l++[((n,i,j'),.gp G.length 0)]))):=by
 have Rw:Pe (n,i,j') (l.map ent)=some none:=by rw[Zv,hf];rfl
 have Hy:G[j]?=some (SV.undef::l.map ent):=hj;refine A3x mixed Tryz.func91 tr91 ?_;simp only[go_sem,seval];refine Xh ?_;simp only[go_sem,seval];refine⟨_,.refl _,Xh ?_⟩;simp only[go_sem,seval,flat3];refine⟨_,.refl _,Xh ?_⟩;simp only[go_sem,seval,hm,Bu,Hy,Zr,Rw,hk,Option.isSome_none];refine⟨_,.refl _,Bh1 (Xh ?_)⟩;simp only[go_sem,seval];refine⟨_,.refl _,Bh3 rfl (Xh ?_)⟩;simp only[go_sem,seval];refine Aa hA ?_;simp only[go_sem,seval,hr];refine⟨_,.refl _,Xh ?_⟩;simp only[go_sem,seval];refine⟨_,.promo _ 2 _ G r rfl rfl rfl rfl rfl rfl (by intro e;rw[e] at hr;cases hr) (by simp) (by simp[Oc,In]) (fun q ob' h1 h2 h3 h4=>?_),Age ?_⟩
 ·match q,h1 with
  |0,h1=>cases h1;cases h3
  |1,h1=>cases h1;cases h4
  |2,_=>exact absurd rfl h2
  |q+3,h1=>simp at h1
 have Ab:j<G.length:=Dh hj;have hlm:m<G.length:=Dh hm;simp only[go_sem,seval,Eu,hm,Bu,Hy,Ab,hlm,Zr,Rw,hk,Amr];refine⟨_,.refl _,Age ?_⟩;simp only[go_sem,seval]
theorem ThOK.mono{G G':GV}{Γ Γ':Gh}{id:Nat}{th:Th}{g:Ge}(h:ThOK G Γ id th g)(x:Gx Γ Γ')(hG:G'[id]?=G[id]?):ThOK G' Γ' id th g:=by
 cases g with
 |cl t es=>
  obtain⟨h1,h2,h3,h4,h5⟩:=h;exact⟨by rw[hG];exact h1,h2,h3,h4.mono x (Nat.le_refl _),fun v hv=>by obtain⟨w,n,hr⟩:=h5 v hv;exact⟨w.mono x,n,by rw[Gq x w.ok];exact hr⟩⟩
 |dn y T=>
  obtain⟨h1,h2,h3,h4,h5⟩:=h;exact⟨by rw[hG];exact h1,h2,h3,h4.mono x,by rw[h5,Gq x h4.ok]⟩
 |kp row=>exact⟨by rw[hG];exact h.1,h.2⟩
theorem ThOK.row{G:GV}{Γ:Gh}{id n:Nat}{th:Th}{g:Ge}(h:ThOK G Γ id th g)(ho:g.Ok n):G[id]?=some (thR th):=by
 cases g with
 |cl t es=>exact h.1
 |dn y T=>exact h.1
 |kp row=>exact ho.elim
theorem RInv.keep{S:SyT}{m j:Nat}{G:GV}{Γ:Gh}{M:Mc}(h:RInv S m j G Γ M){id:Nat}{row:List SV}(hg:Γ[id]?=some (some (.kp row))):G[id]?=some row:=by
 obtain⟨th,h1,_⟩:=h.rows id _ hg;exact h1.1
theorem VC.mono{S:SyT}{Γ Γ':Gh}{th:Th}{g:Ge}(h:VC S Γ th g)(x:Gx Γ Γ'):VC S Γ' th g:=fun v hv=>by
 obtain⟨w,hn,n,hr⟩:=h v hv;exact⟨w.mono x,by rw[Gq x w.ok];exact hn,n,by rw[Gq x w.ok];exact hr⟩
theorem EntOK.mono{S:SyT}{G G':GV}{Γ Γ':Gh}{p:K3×SV}(h:EntOK S G Γ p)(x:Gx Γ Γ')(hG:∀(s:Sy) (id:Nat),Γ[id]?=some none->G[id]?=some s.row->G'[id]?=some s.row):EntOK S G' Γ' p:=by
 rcases h with h|⟨s,id,h1,h2,h3,h4⟩
 ·exact .inl h
 ·exact .inr ⟨s,id,h1,h2,x.get h3,hG s id h3 h4⟩
theorem Bem{s:Sy}{M:Mc}{j:Nat}:s.row≠M.row j:=by unfold Sy.row Mc.row Bu;simp
theorem Ben{s:Sy}{l:List (K3×SV)}:s.row≠Hg l:=by unfold Sy.row Hg;simp
section
variable{S:SyT}{m j:Nat}{G:GV}{Γ:Gh}{M:Mc}
theorem RInv.mach(h:RInv S m j G Γ M)(M':Mc)(st:M'.steps<=M'.most)(mo:M'.most<=1000000000)(se:M'.seen<=8000001)(gu:M'.guess<=3000):RInv S m j (G.set m (M'.row j)) Γ M':=by
 obtain⟨l,hl,hE⟩:=h.map;refine⟨by rw[List.length_set];exact h.len,Fg h.mc,h.gm,h.gj,h.mj,⟨l,by rw[List.getElem?_set_ne h.mj];exact hl,fun p hp=>EntOK.mono (hE p hp) (.refl Γ) (fun s id h1 h2=>?_)⟩,fun id g hg=>?_,st,mo,se,gu⟩
 ·rw[List.getElem?_set_ne (fun e=>?_)]
  ·exact h2
  ·subst e;rw[h.mc,q_b] at h2;exact Bem h2.symm
 ·obtain⟨th,h1,h2⟩:=h.rows id g hg;refine⟨th,h1.mono (.refl Γ) ?_,h2⟩;rw[List.getElem?_set_ne (fun e=>?_)];subst e;rw[h.gm] at hg;cases hg
theorem RInv.set(h:RInv S m j G Γ M){id:Nat}{g:Ge}(hg:Γ[id]?=some (some g)){th':Th}(ho:ThOK (G.set id (thR th')) Γ id th' g)(hv:VC S Γ th' g):RInv S m j (G.set id (thR th')) Γ M:=by
 have hm:id≠m:=fun e=>by subst e;rw[h.gm] at hg;cases hg
 have hj:id≠j:=fun e=>by subst e;rw[h.gj] at hg;cases hg
 obtain⟨l,hl,hE⟩:=h.map;refine⟨by rw[List.length_set];exact h.len,by rw[List.getElem?_set_ne hm];exact h.mc,h.gm,h.gj,h.mj,⟨l,by rw[List.getElem?_set_ne hj];exact hl,fun p hp=>EntOK.mono (hE p hp) (.refl Γ) (fun s id' h1 h2=>?_)⟩,fun id' g' Ij=>?_,h.st,h.mo,h.se,h.gu⟩
 ·rw[List.getElem?_set_ne (fun e=>?_)]
  ·exact h2
  ·subst e;rw[hg] at h1;cases h1
 ·by_cases e:id=id'
  ·subst e;rw[hg,q_b,q_b] at Ij;subst Ij;exact⟨th',ho,hv⟩
  ·obtain⟨th,h1,h2⟩:=h.rows id' g' Ij;exact⟨th,h1.mono (.refl Γ) (List.getElem?_set_ne e),h2⟩
theorem RInv.push(h:RInv S m j G Γ M){th:Th}{g:Ge}(ho:ThOK (G++[thR th]) (Γ++[some g]) G.length th g)(hv:th.v=none):RInv S m j (G++[thR th]) (Γ++[some g]) M:=by
 have lt:∀{id:Nat} {r:List SV},G[id]?=some r->(G++[thR th])[id]?=some r:=fun h=>by rw[List.getElem?_append_left (Dh h)];exact h
 obtain⟨l,hl,hE⟩:=h.map;refine⟨by simp[h.len],lt h.mc,(Gx.app _ _).get h.gm,(Gx.app _ _).get h.gj,h.mj,⟨l,lt hl,fun p hp=>EntOK.mono (hE p hp) (.app _ _) (fun s id' h1 h2=>lt h2)⟩,fun id' g' Ij=>?_,h.st,h.mo,h.se,h.gu⟩;rcases Nat.lt_or_ge id' Γ.length with Ab|Fu
 ·rw[List.getElem?_append_left Ab] at Ij;obtain⟨th,h1,h2⟩:=h.rows id' g' Ij;exact⟨th,h1.mono (.app _ _) (by rw[List.getElem?_append_left (by rw[h.len];exact Ab)]),h2.mono (.app _ _)⟩
 ·have:id'=G.length:=by
   have:=Dh Ij;simp at this;rw[h.len];omega
  subst this;rw[h.len] at Ij;simp only[List.getElem?_concat_length,q_b] at Ij;subst Ij;exact⟨th,ho,fun v e=>by rw[hv] at e;cases e⟩
theorem EOK.top{Γ:Gh}{K:Nat}{e:List Nat}{es:List Tm}(h:EOK Γ K e es):EOK Γ Γ.length e es:=
 ⟨h.len,fun q i hq=>by obtain⟨_,g,h2,h3⟩:=h.at_ q i hq;exact⟨Dh h2,g,h2,h3⟩⟩
theorem RInv.pushCl(h:RInv S m j G Γ M){t:Tm}{e:List Nat}{es:List Tm}{K:Nat}(he:EOK Γ K e es)(hK:K<=G.length):RInv S m j (G++[thR ⟨t,e,false,none,none⟩]) (Γ++[some (.cl t es)]) M:=
 h.push ⟨by simp,rfl,rfl,he.mono (.app _ _) hK,fun v hv=>by cases hv⟩ rfl
theorem RInv.pushDn(h:RInv S m j G Γ M){y:Vl}(hy:WOK Γ y):RInv S m j (G++[Ld (some y) none]) (Γ++[some (.dn y (TV Γ y))]) M:=by
 unfold Ld;exact h.push ⟨by simp,rfl,rfl,hy.mono (.app _ _),by rw[Gq (.app _ _) hy.ok]⟩ rfl
def Mt(k:Int)(y:Option Vl)(T:Tm)(es:List Tm)(i:Nat)(kid:Tm):Ge:=if (i:Int)=k then (match y with
 |some v=>.dn v T
 |none=>.cl kid es) else .cl kid es
def Jf(k:Int)(y:Option Vl)(T:Tm)(es:List Tm):Nat->List Tm->Gh
 |_,[]=>[]
 |i,x::l=>some (Mt k y T es i x)::Jf k y T es (i+1) l
theorem A9d{k:Int}{y:Option Vl}{T:Tm}{es:List Tm}:∀{l:List Tm} {i q:Nat},(Jf k y T es i l)[q]?=(l[q]?).map fun kid=>some (Mt k y T es (i+q) kid):=by
 intro l
 induction l with
 |nil=>intro i q;simp[Jf]
 |cons a l ih=>
  intro i q;cases q with
  |zero=>simp[Jf]
  |succ q=>rw[Jf,List.getElem?_cons_succ,List.getElem?_cons_succ,ih,show i+1+q=i+(q+1) by omega]
theorem RInv.node{k:Int}{y:Option Vl}{T:Tm}{e:List Nat}{es:List Tm}:∀{l:List Tm} {i:Nat} {G:GV} {Γ:Gh} {K:Nat},RInv S m j G Γ M->EOK Γ K e es->K<=G.length->(∀v,y=some v->WOK Γ v/\T=TV Γ v)->(y=none->k<0) ->
  RInv S m j (G++Fr k y e i l) (Γ++Jf k y T es i l) M:=by
 intro l
 induction l with
 |nil=>intro i G Γ K h _ _ _ _;simpa [Fr,Jf] using h
 |cons a l ih=>
  intro i G Γ K h he hK hy hn;have key:RInv S m j (G++[Wu k y e i a]) (Γ++[some (Mt k y T es i a)]) M:=by
   unfold Wu Mt;split
   ·rename_i hik;cases y with
    |none=>have:=hn rfl;omega
    |some v=>
     obtain⟨h1,h2⟩:=hy v rfl;subst h2;exact h.pushDn h1
   ·exact h.pushCl he hK
  have:=ih (i:=i+1) (K:=K) key (he.mono (.app _ _) (Nat.le_refl _)) (by simp;omega) (fun v hv=>by
   obtain⟨h1,h2⟩:=hy v hv;exact⟨h1.mono (.app _ _),by rw[Gq (.app _ _) h1.ok];exact h2⟩) hn
  rw[Fr,Jf];simpa [List.append_assoc] using this
theorem f8{a n q:Nat}:(List.range' a n)[q]?=if q<n then some (a+q) else none:=by
 split
 ·rename_i h;rw[q_f (by simpa using h),List.getElem_range'];simp
 ·rename_i h;rw[List.getElem?_eq_none (by simp;omega)]
theorem Zx{k:Int}{y:Option Vl}{T:Tm}{es:List Tm}{l:List Tm}{q:Nat}{t:Tm}(ht:l[q]?=some t):(Γ++Jf k y T es 0 l)[Γ.length+q]?=some (some (Mt k y T es q t)):=by
 rw[List.getElem?_append_right (by omega),show Γ.length+q - Γ.length=q by omega,A9d,ht,Option.map_some,Nat.zero_add]
theorem o7{k:Int}{p:Nat}(h:stk k=some p):bnd k p=0:=by
 unfold stk at h;unfold bnd Bn;split at h
 ·cases h;rw[if_neg (by omega),if_neg (by omega),if_neg (by omega)];rfl
 ·split at h
  ·cases h;rw[if_neg (by omega),if_neg (by omega),if_pos (by omega)];rfl
  ·cases h
theorem Mp{k:Int}(h2:k≠2)(h0:k≠0)(es:List Tm)(b:Nat)(i j n:Int)(l:List Tm):Ao es b (.mk k i j n l)=.mk k i j n (trL (ivI es) (fun _ l=>fT l) b k 0 l):=Fe h2 h0 b i j n l
theorem Am1{k' i' j' n':Int}(h2:k'≠2)(h0:k'≠0){es:List Tm}{l:List Tm}{T:Tm}:TV (Γ++Jf (-1) none T es 0 l) (Gz k' i' j' n' l Γ.length)=Ao es 0 (.mk k' i' j' n' l):=by
 rw[Jw (show (Gz k' i' j' n' l Γ.length).k≠2 from h2),Mp h2 h0];unfold Gz;congr 1;apply List.ext_getElem?;intro q;rw[Ny,Ep,f8];cases hq:l[q]? with
 |none=>rw[if_neg (by have:=List.getElem?_eq_none_iff.1 hq;omega)];rfl
 |some t=>
  rw[if_pos (Dh hq),Option.map_some,Option.map_some,Mb (Zx hq)];unfold Mt;rw[if_neg (by omega)];simp only[Ge.den,Nat.zero_add];rfl
theorem Wv{k' i' j' n':Int}(h2:k'≠2)(h0:k'≠0){es:List Tm}{l:List Tm}{T:Tm}{p:Nat}(hp:stk k'=some p){y:Vl} :
  TV (Γ++Jf p (some y) T es 0 l) (Gz k' i' j' n' l Γ.length)=Bm (Ao es 0 (.mk k' i' j' n' l)) p T:=by
 rw[Jw (show (Gz k' i' j' n' l Γ.length).k≠2 from h2),Mp h2 h0];unfold Gz Bm;simp only[Tm.k,Tm.i,Tm.j,Tm.n,Tm.kids];congr 1;apply List.ext_getElem?;intro q;rw[Ny,f8];cases hq:l[q]? with
 |none=>
  have:=List.getElem?_eq_none_iff.1 hq;rw[if_neg (by omega),List.getElem?_eq_none (by rw[List.length_set,Kl];omega)];rfl
 |some t=>
  rw[if_pos (Dh hq),Option.map_some,Mb (Zx hq)];unfold Mt
  by_cases e:p=q
  ·subst e;rw[if_pos rfl,List.getElem?_set_self (by rw[Kl];exact Dh hq)];rfl
  ·rw[if_neg (by omega),List.getElem?_set_ne e,Ep,hq,Option.map_some];simp only[Ge.den,Nat.zero_add];rfl
theorem Am2{k' i' j' n':Int}{es:List Tm}{l:List Tm}{T:Tm}{k:Int}{y:Option Vl}{B:Nat}(h2:k'≠2)(hw:∀u∈es,Wf 0 u)(hs:Sf B (.mk k' i' j' n' l))(hB:B+dpt (.mk k' i' j' n' l)<=cap)(hE:es.length+dpt (.mk k' i' j' n' l)<=cap)(hT:y≠none->Wf 0 T/\stk k'=some k.toNat) :
  VOK (Γ++Jf k y T es 0 l) (Gz k' i' j' n' l Γ.length):=by
 obtain⟨h0,hf,hl⟩:=hs.node h2;refine .nd h2 h0 hf (by rw[List.length_range'];exact hl) (fun p id Be=>?_);rw[f8] at Be;split at Be
 ·rename_i Ab;cases Be;have ht:l[p]?=some l[p]:=q_f Ab;refine⟨_,Zx ht,?_⟩;have hd:=Jy (k:=k') (i:=i') (j:=j') (n:=n') ht;have hcl:(Ge.cl l[p] es).Ok (bnd k' p):=⟨hw,⟨B+bnd k' p,hs.kid ht,by omega⟩,by omega⟩
  unfold Mt;split
  ·rename_i Ov;cases y with
   |none=>exact hcl
   |some v=>
    obtain⟨h3,h4⟩:=hT (by simp);rw[<-Ov,Int.toNat_natCast] at h4;exact⟨o7 h4,h3⟩
  ·exact hcl
 ·cases Be
theorem Yx{T:Tm}(h:stk T.k=none):HN plW T:=by
 refine .mk ?_ (fun p hp=>by rw[h] at hp;cases hp);unfold stk at h;have h1:¬(T.k=15\/T.k=18\/T.k=19):=fun c=>by rw[if_pos c] at h;cases h
 rw[if_neg h1] at h;have h3:¬T.k=22:=fun c=>by rw[if_pos c] at h;cases h
 unfold plW;rw[if_neg (by omega),if_neg (by omega),if_neg (by omega),if_neg (by omega)]
theorem Am3{k' i' j' n':Int}{es:List Tm}{l:List Tm}{T:Tm}{B:Nat}(h2:k'≠2)(hk:stk k'=none)(hw:∀u∈es,Wf 0 u)(hs:Sf B (.mk k' i' j' n' l))(hB:B+dpt (.mk k' i' j' n' l)<=cap)(hE:es.length+dpt (.mk k' i' j' n' l)<=cap) :
  WOK (Γ++Jf (-1) none T es 0 l) (Gz k' i' j' n' l Γ.length):=by
 refine⟨Am2 h2 hw hs hB hE (fun h=>absurd rfl h),.base hk,Yx ?_⟩;rw[TV_k (show (Gz k' i' j' n' l Γ.length).k≠2 from h2)];exact hk
theorem Zy{k' i' j' n':Int}{es:List Tm}{l:List Tm}{y:Vl}{B p:Nat}(hp:stk k'=some p)(hlp:p<l.length)(hy:WOK Γ y)(hw:∀u∈es,Wf 0 u)(hs:Sf B (.mk k' i' j' n' l))(hB:B+dpt (.mk k' i' j' n' l)<=cap)(hE:es.length+dpt (.mk k' i' j' n' l)<=cap)
  (hN:plW (Bm (Ao es 0 (.mk k' i' j' n' l)) p (TV Γ y))=none) :
  WOK (Γ++Jf p (some y) (TV Γ y) es 0 l) (Gz k' i' j' n' l Γ.length):=by
 have h2:k'≠2:=by have:=(Ji hp).1;omega
 have h0:k'≠0:=by have:=(Ji hp).1;omega
 refine⟨Am2 h2 hw hs hB hE (fun _=>⟨hy.ok.wf,by rw[Int.toNat_natCast];exact hp⟩),?_,?_⟩
 ·refine .step (y:=y) (p:=p) (id:=Γ.length+p) hp (by show (List.range' Γ.length l.length)[p]?=_;rw[f8,if_pos hlp]) ?_ (hy.ok.mono (.app _ _)) (hy.st.mono (.app _ _));rw[Zx (q_f hlp),Gq (.app _ _) hy.ok];unfold Mt;rw[if_pos rfl]
 ·rw[Wv h2 h0 hp];refine .mk hN (fun q hq=>?_);rw[Afu,Mp h2 h0,show ∀l:List Tm,(Tm.mk k' i' j' n' l).k=k' from fun _=>rfl,hp] at hq;cases hq;rw[Zs (by rw[Mp h2 h0];show p<(trL _ _ _ _ _ l).length;rw[Kl];exact hlp)];exact hy.hn
end
end Go.Proofs.YtdpigpopcbjkmaaGreatDoor.Abs
