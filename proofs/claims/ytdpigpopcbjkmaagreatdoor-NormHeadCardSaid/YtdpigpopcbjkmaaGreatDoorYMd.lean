import Derived.Test.YtdpigpopcbjkmaaGreatDoorYPc
import Derived.Test.YtdpigpopcbjkmaaGreatDoorYRf
import Derived.Test.YtdpigpopcbjkmaaGreatDoorYAfR
import Derived.Test.YtdpigpopcbjkmaaGreatDoorYDw
set_option linter.unusedSimpArgs false
set_option linter.unusedVariables false
set_option maxRecDepth 20000
set_option maxHeartbeats 4000000
namespace Go.Proofs.YtdpigpopcbjkmaaGreatDoor.Abs
open Go Go.RowKit
def bnd(k:Int)(p:Nat):Nat:=(Bl k p).toNat
def vT(i:Nat):Tm:=.mk 2 i 0 0 []
def fT(l:Int):Tm:=.mk 0 l 0 0 []
mutual
def trT(v:Nat->Nat->Tm)(f:Nat->Int->Tm)(b:Nat):Tm->Tm
 |.mk k i j n l=>if k=2 then v b i.toNat else if k=0 then f b i else .mk k i j n (trL v f b k 0 l)
def trL(v:Nat->Nat->Tm)(f:Nat->Int->Tm)(b:Nat)(k:Int)(p:Nat):List Tm->List Tm
 |[]=>[]
 |t::l=>trT v f (b+bnd k p) t::trL v f b k (p+1) l
end
section
variable{v v1 v2:Nat->Nat->Tm}{f f1 f2:Nat->Int->Tm}
theorem Cu(b:Nat)(i:Nat):trT v f b (vT i)=v b i:=by unfold vT;rw[trT,if_pos rfl];rfl
theorem He(b:Nat)(l:Int):trT v f b (fT l)=f b l:=by unfold fT;rw[trT,if_neg (by decide),if_pos rfl]
theorem Oc(b:Nat)(i j n:Int)(l:List Tm):trT v f b (.mk 2 i j n l)=v b i.toNat:=by rw[trT,if_pos rfl]
theorem Pj(b:Nat)(i j n:Int)(l:List Tm):trT v f b (.mk 0 i j n l)=f b i:=by rw[trT,if_neg (by decide),if_pos rfl]
theorem Ey{k:Int}(h2:k≠2)(h0:k≠0)(b:Nat)(i j n:Int)(l:List Tm):trT v f b (.mk k i j n l)=.mk k i j n (trL v f b k 0 l):=by rw[trT,if_neg h2,if_neg h0]
theorem Kh(b:Nat)(k:Int):∀(l:List Tm) (p:Nat),(trL v f b k p l).length=l.length:=by
 intro l
 induction l with
 |nil=>intro p;rw[trL]
 |cons t l ih=>intro p;rw[trL,List.length_cons,List.length_cons,ih]
theorem Ep(b:Nat)(k:Int):∀(l:List Tm) (p q:Nat),(trL v f b k p l)[q]?=(l[q]?).map (trT v f (b+bnd k (p+q))):=by
 intro l
 induction l with
 |nil=>intro p q;rw[trL];simp
 |cons t l ih=>
  intro p q;rw[trL];cases q with
  |zero=>simp
  |succ q=>
   rw[List.getElem?_cons_succ,List.getElem?_cons_succ,ih,show p+1+q=p+(q+1) by omega]
theorem Aos(hv:∀b i,trT v2 f2 b (v1 b i)=v b i)(hf:∀b l,trT v2 f2 b (f1 b l)=f b l)(t:Tm):∀b,trT v2 f2 b (trT v1 f1 b t)=trT v f b t:=by
 induction t using Tm.ind with
 |h k i j n l ih=>
  intro b
  by_cases h2:k=2
  ·subst h2;rw[Oc,Oc,hv]
  by_cases h0:k=0
  ·subst h0;rw[Pj,Pj,hf]
  rw[Ey h2 h0,Ey h2 h0,Ey h2 h0];congr 1;apply List.ext_getElem?;intro q;rw[Ep,Ep,Ep,Option.map_map];cases hq:l[q]? with
  |none=>rfl
  |some t=>
   simp only[Option.map_some,Function.comp];rw[ih t (List.mem_of_getElem? hq)]
theorem Bgo{b0:Nat}(hv:∀b i,b0<=b->v1 b i=v2 b i)(hf:∀b l,b0<=b->f1 b l=f2 b l)(t:Tm):∀b,b0<=b->trT v1 f1 b t=trT v2 f2 b t:=by
 induction t using Tm.ind with
 |h k i j n l ih=>
  intro b hb
  by_cases h2:k=2
  ·subst h2;rw[Oc,Oc,hv _ _ hb]
  by_cases h0:k=0
  ·subst h0;rw[Pj,Pj,hf _ _ hb]
  rw[Ey h2 h0,Ey h2 h0];congr 1;apply List.ext_getElem?;intro q;rw[Ep,Ep];cases hq:l[q]? with
  |none=>rfl
  |some t=>
   simp only[Option.map_some];rw[ih t (List.mem_of_getElem? hq) _ (by omega)]
end
inductive Wf:Nat->Tm->Prop
 |var {b i:Nat} (h:i<b):Wf b (vT i)
 |fv (b:Nat) (l:Int):Wf b (fT l)
 |nd {b:Nat} {k:Int} (i j n:Int) {l:List Tm} (h2:k≠2) (h0:k≠0) (hf:fit i/\fit j/\fit n) (hl:(l.length:Int)=Bf k n) (hk:∀(p:Nat) t,l[p]?=some t->Wf (b+bnd k p) t):Wf b (.mk k i j n l)
theorem Wf.mono{b:Nat}{t:Tm}(h:Wf b t):∀{c},b<=c->Wf c t:=by
 induction h with
 |var h=>intro c hc;exact .var (by omega)
 |fv b l=>intro c _;exact .fv _ _
 |nd i j n h2 h0 hf hl _ ih=>intro c hc;exact .nd i j n h2 h0 hf hl (fun p t ht=>ih p t ht (by omega))
theorem Aot{v:Nat->Nat->Tm}{f:Nat->Int->Tm}{b:Nat}{t:Tm}(h:Wf b t):∀{c},b<=c->(∀c' i,i<b+(c'-c)->c<=c'->v c' i=vT i)->(∀b l,f b l=fT l)->trT v f c t=t:=by
 induction h with
 |var h=>intro c hc hv _;rw[Cu,hv _ _ (by omega) (Nat.le_refl _)]
 |fv b l=>intro c hc _ hf;rw[He,hf]
 |@nd b k i j n l h2 h0 Dc hl _ ih=>
  intro c hc hv hf;rw[Ey h2 h0];congr 1;apply List.ext_getElem?;intro q;rw[Ep];cases hq:l[q]? with
  |none=>rfl
  |some t=>
   simp only[Option.map_some,Nat.zero_add];rw[ih q t hq (by omega) (fun c' i hi hc'=>hv _ _ (by omega) (by omega)) hf]
theorem Bgt{v:Nat->Nat->Tm}{f:Nat->Int->Tm}{B:Nat}{t:Tm}(h:Wf B t):∀{b c:Nat},(∀b' i,b<=b'->Wf (c+(b'-b)) (v b' i))->(∀b' l,b<=b'->Wf (c+(b'-b)) (f b' l))->Wf c (trT v f b t):=by
 induction h with
 |var h=>intro b c hv _;rw[Cu];simpa using hv b _ (Nat.le_refl _)
 |fv B l=>intro b c _ hf;rw[He];simpa using hf b _ (Nat.le_refl _)
 |@nd B k i j n l h2 h0 Dc hl _ ih=>
  intro b c hv hf;rw[Ey h2 h0];refine .nd i j n h2 h0 Dc (by rw[Kh];exact hl) (fun p t ht=>?_);rw[Ep,Nat.zero_add] at ht;cases hq:l[p]? with
  |none=>rw[hq] at ht;cases ht
  |some u=>
   rw[hq,Option.map_some,q_b] at ht;subst ht;refine ih p u hq (fun b' i hb=>?_) (fun b' l hb=>?_)
   ·have:=hv b' i (by omega)
    rwa [show c+(b'-b)=c+bnd k p+(b'-(b+bnd k p)) by omega] at this
   ·have:=hf b' l (by omega)
    rwa [show c+(b'-b)=c+bnd k p+(b'-(b+bnd k p)) by omega] at this
def ivI(e:List Tm)(b i:Nat):Tm:=if i<b then vT i else match e[i-b]? with
 |some u=>u
 |none=>fT (e.length-(i-b:Nat)-1)
def Aq(e:List Tm):Nat->Tm->Tm:=trT (ivI e) (fun _ l=>fT l)
theorem A5k{e:List Tm}(he:∀u∈e,Wf 0 u)(b i:Nat):Wf b (ivI e b i):=by
 unfold ivI;split
 ·exact .var (by omega)
 ·split
  ·rename_i u hu;exact (he u (List.mem_of_getElem? hu)).mono (Nat.zero_le _)
  ·exact .fv _ _
theorem Ak1{e:List Tm}(he:∀u∈e,Wf 0 u){B:Nat}{t:Tm}(h:Wf B t)(b:Nat):Wf b (Aq e b t):=
 Bgt h (fun b' i hb=>(A5k he b' i).mono (by omega)) (fun b' l hb=>.fv _ _)
theorem Aao{es e:List Tm}(he:∀u∈e,Wf 0 u)(hs:∀u∈es,Wf 0 u)(t:Tm):Aq es 0 (Aq e es.length t)=Aq (es++e) 0 t:=by
 have key:∀b,trT (ivI es) (fun _ l=>fT l) b (trT (fun b i=>ivI e (b+es.length) i) (fun _ l=>fT l) b t)=trT (ivI (es++e)) (fun _ l=>fT l) b t:=by
  refine Aos (fun b i=>?_) (fun b l=>He _ _) t;unfold ivI
  by_cases h1:i<b
  ·rw[if_pos (by omega),if_pos h1,Cu,if_pos h1]
  by_cases h2:i<b+es.length
  ·rw[if_pos h2,if_neg h1,Cu,if_neg h1,List.getElem?_append_left (by omega)];have hx:i-b<es.length:=by omega
   rw[q_f hx]
  ·rw[if_neg h2,if_neg h1,List.getElem?_append_right (by omega),show i-b-es.length=i-(b+es.length) by omega];cases hq:e[i-(b+es.length)]? with
   |none=>
    simp only;rw[He,List.length_append];congr 1;omega
   |some u=>
    simp only;exact Aot (he u (List.mem_of_getElem? hq)) (Nat.zero_le _) (fun c' i hi hc'=>by rw[if_pos (by omega)]) (fun _ _=>rfl)
 have e0:∀(t:Tm) (b:Nat),trT (fun b i=>ivI e (b+es.length) i) (fun _ l=>fT l) b t=trT (ivI e) (fun _ l=>fT l) (b+es.length) t:=by
  intro t
  induction t using Tm.ind with
  |h k i j n l ih=>
   intro b
   by_cases h2:k=2
   ·subst h2;rw[Oc,Oc]
   by_cases h0:k=0
   ·subst h0;rw[Pj,Pj]
   rw[Ey h2 h0,Ey h2 h0];congr 1;apply List.ext_getElem?;intro q;rw[Ep,Ep];cases hq:l[q]? with
   |none=>rfl
   |some t=>
    simp only[Option.map_some];rw[ih t (List.mem_of_getElem? hq),show b+bnd k (0+q)+es.length=b+es.length+bnd k (0+q) by omega]
 have:=key 0;rw[e0,Nat.zero_add] at this;exact this
open Go Go.RowKit
def Am(t:Tm)(p:Nat):Tm:=t.kids.getD p (vT 0)
def Ce(t:Tm)(p:Nat)(u:Tm):Tm:=.mk t.k t.i t.j t.n (t.kids.set p u)
def stk(k:Int):Option Nat:=if k=15\/k=18\/k=19 then some 0 else if k=22 then some 5 else none
def isV(k:Int):Prop:=k=14\/k=17\/k=21
theorem An6{k:Int}(h:isV k):stk k=none:=by
 unfold isV at h;unfold stk;rw[if_neg (by omega),if_neg (by omega)]
theorem Kf{k:Int}{p:Nat}(h:stk k=some p):(k=15\/k=18\/k=19\/k=22)/\p<6:=by
 unfold stk at h;split at h
 ·cases h;omega
 ·split at h
  ·cases h;omega
  ·cases h
theorem Afs(t:Tm)(p:Nat)(u:Tm):(Ce t p u).k=t.k:=rfl
theorem Ant(t:Tm)(p:Nat)(u:Tm):(Ce t p u).kids.length=t.kids.length:=by unfold Ce;simp[Tm.kids]
theorem Zg{t:Tm}{p:Nat}{u:Tm}(h:p<t.kids.length):Am (Ce t p u) p=u:=by
 cases t with
 |mk k i j n l=>
  have h':p<l.length:=h;simp[Am,Ce,Tm.kids,List.getD_eq_getElem?_getD,List.getElem?_set_self h']
theorem A6g{t:Tm}{p q:Nat}{u:Tm}(h:p≠q):Am (Ce t p u) q=Am t q:=by
 cases t with
 |mk k i j n l=>simp[Am,Ce,Tm.kids,List.getD_eq_getElem?_getD,List.getElem?_set_ne h]
theorem Anv(t:Tm)(p:Nat)(u w:Tm):Ce (Ce t p u) p w=Ce t p w:=by
 unfold Ce;simp[Tm.kids,Tm.k,Tm.i,Tm.j,Tm.n]
theorem Aft{t:Tm}{p:Nat}:Ce t p (Am t p)=t:=by
 cases t with
 |mk k i j n l=>
  unfold Ce Am;simp only[Tm.k,Tm.i,Tm.j,Tm.n,Tm.kids];congr 1
  by_cases h:p<l.length
  ·apply List.ext_getElem?;intro q
   by_cases hq:p=q
   ·subst hq;rw[List.getElem?_set_self h,List.getD_eq_getElem?_getD,q_f h];rfl
   ·rw[List.getElem?_set_ne hq]
  ·rw[List.set_eq_of_length_le (by omega)]
structure Ax(P:Tm->Option Tm):Prop where
 a:∀t u,P t=some u->t.k=23\/∃p,stk t.k=some p/\isV (Am t p).k
inductive HS(P:Tm->Option Tm):Tm->Tm->Prop
 |here {t u:Tm} (h:P t=some u):HS P t u
 |down {t u:Tm} {p:Nat} (h:P t=none) (hp:stk t.k=some p) (hs:HS P (Am t p) u):HS P t (Ce t p u)
inductive HN(P:Tm->Option Tm):Tm->Prop
 |mk {t:Tm} (h:P t=none) (hk:∀p,stk t.k=some p->HN P (Am t p)):HN P t
inductive HR(P:Tm->Option Tm):Nat->Tm->Tm->Prop
 |refl (t:Tm):HR P 0 t t
 |step {n:Nat} {t u w:Tm} (h:HS P t u) (hr:HR P n u w):HR P (n+1) t w
section
variable{P:Tm->Option Tm}
theorem A4j(ax:Ax P){t u:Tm}(h:HS P t u):¬isV t.k:=by
 intro hv;cases h with
 |here h=>
  rcases ax.a _ _ h with h'|⟨p,h',_⟩
  ·unfold isV at hv;omega
  ·rw[An6 hv] at h';cases h'
 |down h hp hs=>rw[An6 hv] at hp;cases hp
theorem Aeq{t u:Tm}(h:HS P t u):∀{w},HS P t w->u=w:=by
 induction h with
 |here h=>
  intro w hw;cases hw with
  |here h'=>rw[h] at h';injection h'
  |down h'=>rw[h] at h';cases h'
 |down h hp hs ih=>
  intro w hw;cases hw with
  |here h'=>rw[h] at h';cases h'
  |down h' hp' Ii=>
   rw[hp] at hp';cases hp';rw[ih Ii]
theorem Ym{t:Tm}(h:HN P t):∀{u},¬HS P t u:=by
 induction h with
 |mk h hk ih=>
  intro u hu;cases hu with
  |here h'=>rw[h] at h';cases h'
  |down h' hp hs=>exact ih _ hp hs
theorem A3x(ax:Ax P)(i:Nat):HN P (vT i):=by
 refine .mk ?_ (fun p hp=>?_)
 ·cases h:P (vT i) with
  |none=>rfl
  |some u=>
   rcases ax.a _ _ h with h'|⟨p,h',_⟩
   ·exact absurd h' (show ¬(2:Int)=23 by decide)
   ·exact absurd (Kf h').1 (show ¬((2:Int)=15\/(2:Int)=18\/(2:Int)=19\/(2:Int)=22) by decide)
 ·exact absurd (Kf hp).1 (show ¬((2:Int)=15\/(2:Int)=18\/(2:Int)=19\/(2:Int)=22) by decide)
theorem Aes(ax:Ax P)(t:Tm):HN P t\/∃u,HS P t u:=by
 induction t using Tm.ind with
 |h k i j n l ih=>
  cases hP:P (.mk k i j n l) with
  |some u=>exact .inr ⟨u,.here hP⟩
  |none=>
   cases hp:stk k with
   |none=>exact .inl (.mk hP (fun p hp'=>by rw[show (Tm.mk k i j n l).k=k from rfl,hp] at hp';cases hp'))
   |some p=>
    have:HN P (Am (.mk k i j n l) p)\/∃u,HS P (Am (.mk k i j n l) p) u:=by
     unfold Am;rw[show (Tm.mk k i j n l).kids=l from rfl,List.getD_eq_getElem?_getD];cases hq:l[p]? with
     |none=>exact .inl (A3x ax 0)
     |some t=>exact ih t (List.mem_of_getElem? hq)
    rcases this with h|⟨u,h⟩
    ·exact .inl (.mk hP (fun p' hp'=>by rw[show (Tm.mk k i j n l).k=k from rfl,hp] at hp';cases hp';exact h))
    ·exact .inr ⟨_,.down hP hp h⟩
theorem Aer(ax:Ax P){t u:Tm}{p:Nat}(hp:stk t.k=some p)(h:HS P (Am t p) u):HS P t (Ce t p u):=by
 refine .down ?_ hp h;cases hP:P t with
 |none=>rfl
 |some w=>
  rcases ax.a _ _ hP with h'|⟨q,h',hv⟩
  ·have:=(Kf hp).1;omega
  ·rw[hp] at h';cases h';exact absurd hv (A4j ax h)
theorem Rw{n m:Nat}{t u w:Tm}(h:HR P n t u)(k:HR P m u w):HR P (n+m) t w:=by
 induction h with
 |refl t=>rw[Nat.zero_add];exact k
 |step h hr ih=>rw[show ∀a:Nat,a+1+m=a+m+1 by omega];exact .step h (ih k)
theorem Ys(ax:Ax P){n:Nat}{f g:Tm}(h:HR P n f g):∀{t:Tm} {p:Nat},stk t.k=some p->p<t.kids.length->Am t p=f->HR P n t (Ce t p g):=by
 induction h with
 |refl f=>intro t p _ _ hf;subst hf;rw[Aft];exact .refl _
 |@step n f f1 g h hr ih=>
  intro t p hp hl hf;subst hf;refine .step (Aer ax hp h) ?_;have:=ih (t:=Ce t p f1) (p:=p) hp (by rw[Ant];exact hl) (Zg hl)
  rwa [Anv] at this
theorem Akj(ax:Ax P){N:Nat}{Y:Tm}:∀{t:Tm} {p:Nat},stk t.k=some p->p<t.kids.length->HR P N t Y->HN P Y ->
  ∃N1 g,N1<=N/\HR P N1 (Am t p) g/\HN P g/\HR P (N-N1) (Ce t p g) Y:=by
 induction N with
 |zero=>
  intro t p hp hl hr hn;cases hr;cases hn with
  |mk h hk=>exact⟨0,_,Nat.le_refl _,.refl _,hk p hp,by rw[Aft];exact .refl _⟩
 |succ N ih=>
  intro t p hp hl hr hn;rcases Aes ax (Am t p) with h|⟨u,h⟩
  ·exact⟨0,_,Nat.zero_le _,.refl _,h,by rw[Aft];exact hr⟩
  ·cases hr with
   |step h1 Bt=>
    have e:=Aeq h1 (Aer ax hp h);subst e;obtain⟨N1,g,hN,r1,r2,r3⟩:=ih (t:=Ce t p u) (p:=p) hp (by rw[Ant];exact hl) Bt hn;rw[Zg hl] at r1;rw[Anv] at r3;exact⟨N1+1,g,by omega,.step h r1,r2,by rw[show N+1-(N1+1)=N-N1 by omega];exact r3⟩
theorem Rx{N M:Nat}{t Y Z:Tm}(h:HR P N t Y)(hn:HN P Y)(k:HR P M t Z):M<=N/\HR P (N-M) Z Y:=by
 induction k generalizing N with
 |refl t=>exact⟨Nat.zero_le _,h⟩
 |step h1 hr ih=>
  cases h with
  |refl=>exact absurd h1 (Ym hn)
  |step h2 Gk=>
   have e:=Aeq h1 h2;subst e;obtain⟨a,b⟩:=ih Gk;exact⟨by omega,by rw[show ∀n m:Nat,n+1-(m+1)=n-m by omega];exact b⟩
theorem Wa{N M:Nat}{t Y Z:Tm}(h:HR P N t Y)(hn:HN P Y)(k:HR P M t Z)(kn:HN P Z):N=M/\Y=Z:=by
 obtain⟨a,b⟩:=Rx h hn k;have:N-M=0/\Z=Y:=by
  generalize N-M=D at b;cases b with
  |refl=>exact⟨rfl,rfl⟩
  |step h1=>exact absurd h1 (Ym kn)
 exact⟨by omega,this.2.symm⟩
theorem Uf{Q:Tm->Option Tm}(ax:Ax Q)(Vq:∀t u,P t=some u->Q t=some u){t u:Tm}(h:HS P t u):HS Q t u:=by
 induction h with
 |here h=>exact .here (Vq _ _ h)
 |down h hp hs ih=>exact Aer ax hp ih
theorem A4b{Q:Tm->Option Tm}(ax:Ax Q)(Vq:∀t u,P t=some u->Q t=some u){n:Nat}{t u:Tm}(h:HR P n t u):HR Q n t u:=by
 induction h with
 |refl t=>exact .refl t
 |step h hr ih=>exact .step (Uf ax Vq h) ih
theorem A4a{Q:Tm->Option Tm}(axP:Ax P)(ax:Ax Q)(Vq:∀t u,P t=some u->Q t=some u){N:Nat}{Y:Tm}:∀{t:Tm},HR Q N t Y->HN Q Y ->
  ∃N1 w,N1<=N/\HR P N1 t w/\HN P w/\HR Q (N-N1) w Y:=by
 induction N with
 |zero=>
  intro t hr hn;cases hr;rcases Aes axP Y with h|⟨u,h⟩
  ·exact⟨0,Y,Nat.le_refl _,.refl _,h,.refl _⟩
  ·exact absurd (Uf ax Vq h) (Ym hn)
 |succ N ih=>
  intro t hr hn;rcases Aes axP t with h|⟨u,h⟩
  ·exact⟨0,t,Nat.zero_le _,.refl _,h,hr⟩
  ·cases hr with
   |step h1 Bt=>
    have e:=Aeq h1 (Uf ax Vq h);subst e;obtain⟨N1,w,hN,r1,r2,r3⟩:=ih Bt hn;exact⟨N1+1,w,by omega,.step h r1,r2,by rw[show N+1-(N1+1)=N-N1 by omega];exact r3⟩
end
def plW(t:Tm):Option Tm:=
 if t.k=15/\(Am t 0).k=14 then some (Aq [Am t 1] 0 (Am (Am t 0) 1))
 else if t.k=18/\(Am t 0).k=17 then some (Am (Am t 0) 2)
 else if t.k=19/\(Am t 0).k=17 then some (Am (Am t 0) 3)
 else if t.k=22/\(Am t 5).k=21 then some (Am t 3) else none
def plD(B:Int->Int->Int->Option Tm)(t:Tm):Option Tm:=
 if t.k=23 then (B t.n t.i t.j).map (fun b=>Aq t.kids.reverse 0 b) else plW t
theorem axW:Ax plW:=by
 refine⟨fun t u h=>?_⟩;unfold plW at h;unfold isV stk;split at h
 ·rename_i c;exact .inr ⟨0,by rw[if_pos (by omega)],by omega⟩
 split at h
 ·rename_i c;exact .inr ⟨0,by rw[if_pos (by omega)],by omega⟩
 split at h
 ·rename_i c;exact .inr ⟨0,by rw[if_pos (by omega)],by omega⟩
 split at h
 ·rename_i c;exact .inr ⟨5,by rw[if_neg (by omega),if_pos (by omega)],by omega⟩
 ·cases h
theorem axD(B:Int->Int->Int->Option Tm):Ax (plD B):=by
 refine⟨fun t u h=>?_⟩;unfold plD at h;split at h
 ·rename_i c;exact .inl c
 ·exact axW.a t u h
theorem plWD{B:Int->Int->Int->Option Tm}:∀t u,plW t=some u->plD B t=some u:=by
 intro t u h;unfold plD;rw[if_neg,h];intro c;unfold plW at h;rw[if_neg (by omega),if_neg (by omega),if_neg (by omega),if_neg (by omega)] at h;cases h
open Go Go.RowKit Go.Proofs.YtdpigpopcbjkmaaGreatDoor
mutual
def dpt:Tm->Nat
 |.mk k _ _ _ l=>Lf k 0 l
def Lf(k:Int)(p:Nat):List Tm->Nat
 |[]=>0
 |t::l=>max (bnd k p+dpt t) (Lf k (p+1) l)
end
theorem Aw5{k:Int}{t:Tm}:∀{l:List Tm} {q p:Nat},l[p]?=some t->bnd k (q+p)+dpt t<=Lf k q l:=by
 intro l
 induction l with
 |nil=>intro q p h;cases h
 |cons u l ih=>
  intro q p h;rw[Lf];cases p with
  |zero=>simp only[List.getElem?_cons_zero,q_b] at h;subst h;rw[Nat.add_zero];omega
  |succ p=>
   rw[List.getElem?_cons_succ] at h;have:=ih (q:=q+1) h;rw[show q+1+p=q+(p+1) by omega] at this;omega
theorem Km{k i j n:Int}{l:List Tm}{p:Nat}{t:Tm}(h:l[p]?=some t):bnd k p+dpt t<=dpt (.mk k i j n l):=by
 have:=Aw5 (k:=k) (q:=0) h;rw[Nat.zero_add] at this
 rwa [dpt]
inductive Sf:Nat->Tm->Prop
 |var {b i:Nat} (h:i<b):Sf b (vT i)
 |nd {b:Nat} {k:Int} (i j n:Int) {l:List Tm} (h2:k≠2) (h0:k≠0) (hf:fit i/\fit j/\fit n) (hl:(l.length:Int)=Bf k n) (hk:∀(p:Nat) t,l[p]?=some t->Sf (b+bnd k p) t):Sf b (.mk k i j n l)
theorem Sf.wf{b:Nat}{t:Tm}(h:Sf b t):Wf b t:=by
 induction h with
 |var h=>exact .var h
 |nd i j n h2 h0 hf hl _ ih=>exact .nd i j n h2 h0 hf hl ih
theorem Sf.kid{b:Nat}{k i j n:Int}{l:List Tm}(h:Sf b (.mk k i j n l)){p:Nat}{t:Tm}(ht:l[p]?=some t):Sf (b+bnd k p) t:=by
 cases h with
 |var h=>cases ht
 |nd i j n _ _ _ _ hk=>exact hk p t ht
theorem Sf.node{b:Nat}{k i j n:Int}{l:List Tm}(h:Sf b (.mk k i j n l))(h2:k≠2):k≠0/\(fit i/\fit j/\fit n)/\(l.length:Int)=Bf k n:=by
 cases h with
 |var h=>exact absurd rfl h2
 |nd i j n _ h0 hf hl _=>exact⟨h0,hf,hl⟩
theorem Sf.vr{b:Nat}{i j n:Int}{l:List Tm}(h:Sf b (.mk 2 i j n l)):∃q:Nat,i=(q:Int)/\j=0/\n=0/\l=[]/\q<b:=by
 cases h with
 |var h=>exact⟨_,rfl,rfl,rfl,rfl,h⟩
 |nd i j n h2=>exact absurd rfl h2
def cap:Nat:=1099511627776
inductive Ge where
 |cl (t:Tm) (es:List Tm)
 |dn (v:Vl) (T:Tm)
 |kp (row:List SV)
abbrev Gh:=List (Option Ge)
def Ge.den(n:Nat):Ge->Tm
 |.cl t es=>Aq es n t
 |.dn _ T=>T
 |.kp _=>fT 0
def den(Γ:Gh)(id n:Nat):Tm:=match Γ[id]? with
 |some (some g)=>g.den n
 |_=>fT 0
theorem Lc{Γ:Gh}{id n:Nat}{g:Ge}(h:Γ[id]?=some (some g)):den Γ id n=g.den n:=by unfold den;rw[h]
def Gx(Γ Γ':Gh):Prop:=∃Δ,Γ'=Γ++Δ
theorem Gx.refl(Γ:Gh):Gx Γ Γ:=⟨[],by simp⟩
theorem Gx.trans{a b c:Gh}(h:Gx a b)(k:Gx b c):Gx a c:=by
 obtain⟨d,rfl⟩:=h;obtain⟨e,rfl⟩:=k;exact⟨d++e,by simp⟩
theorem Gx.app(Γ Δ:Gh):Gx Γ (Γ++Δ):=⟨Δ,rfl⟩
theorem Gx.len{Γ Γ':Gh}(h:Gx Γ Γ'):Γ.length<=Γ'.length:=by obtain⟨d,rfl⟩:=h;simp
theorem Gx.get{Γ Γ':Gh}(h:Gx Γ Γ'){id:Nat}{x:Option Ge}(hx:Γ[id]?=some x):Γ'[id]?=some x:=by
 obtain⟨d,rfl⟩:=h;rw[List.getElem?_append_left (Dn hx)];exact hx
theorem Gx.den{Γ Γ':Gh}(h:Gx Γ Γ'){id n:Nat}{g:Ge}(hx:Γ[id]?=some (some g)):den Γ' id n=den Γ id n:=by rw[Lc hx,Lc (h.get hx)]
def Gg(Γ:Gh)(k:Int):Nat->List Nat->List Tm
 |_,[]=>[]
 |p,id::l=>den Γ id (bnd k p)::Gg Γ k (p+1) l
theorem Nx{Γ:Gh}{k:Int}:∀{l:List Nat} {p:Nat},(Gg Γ k p l).length=l.length:=by
 intro l
 induction l with
 |nil=>intro p;rfl
 |cons a l ih=>intro p;simp[Gg,ih]
theorem Mr{Γ:Gh}{k:Int}:∀{l:List Nat} {p q:Nat},(Gg Γ k p l)[q]?=(l[q]?).map fun id=>den Γ id (bnd k (p+q)):=by
 intro l
 induction l with
 |nil=>intro p q;simp[Gg]
 |cons a l ih=>
  intro p q;cases q with
  |zero=>simp[Gg]
  |succ q=>rw[Gg,List.getElem?_cons_succ,List.getElem?_cons_succ,ih,show p+1+q=p+(q+1) by omega]
def TV(Γ:Gh)(v:Vl):Tm:=if v.k=2 then fT v.level else .mk v.k v.i v.j v.n (Gg Γ v.k 0 v.kids)
theorem Jg{Γ:Gh}{v:Vl}(h:v.k≠2):TV Γ v=.mk v.k v.i v.j v.n (Gg Γ v.k 0 v.kids):=by unfold TV;rw[if_neg h]
theorem TV_k{Γ:Gh}{v:Vl}(h:v.k≠2):(TV Γ v).k=v.k:=by rw[Jg h];rfl
theorem Ace{Γ:Gh}{v:Vl}(h:v.k≠2){p id:Nat}(Bc:v.kids[p]?=some id):Am (TV Γ v) p=den Γ id (bnd v.k p):=by
 rw[Jg h];unfold Am;rw[show (Tm.mk v.k v.i v.j v.n (Gg Γ v.k 0 v.kids)).kids=Gg Γ v.k 0 v.kids from rfl,List.getD_eq_getElem?_getD,Mr,Bc,Nat.zero_add];rfl
def Ge.Ok(n:Nat):Ge->Prop
 |.cl t es=>(∀u∈es,Wf 0 u)/\(∃B,Sf B t/\B+dpt t<=cap)/\es.length+n+dpt t<=cap
 |.dn _ T=>n=0/\Wf 0 T
 |.kp _=>False
theorem Ge.Ok.wf{n:Nat}{g:Ge}(h:g.Ok n):Wf n (g.den n):=by
 cases g with
 |cl t es=>obtain⟨h1,⟨B,h2,_⟩,_⟩:=h;exact Ak1 h1 h2.wf n
 |dn v T=>obtain⟨rfl,h⟩:=h;exact h
 |kp row=>exact h.elim
inductive VOK(Γ:Gh):Vl->Prop
 |fv (l:Int) (hl:-(cap:Int)-1<=l/\l<=cap):VOK Γ ⟨2,0,0,0,l,[]⟩
 |nd {k i j n:Int} {kids:List Nat} (h2:k≠2) (h0:k≠0) (hf:fit i/\fit j/\fit n) (hl:(kids.length:Int)=Bf k n) (hk:∀(p:Nat) id,kids[p]?=some id->∃g,Γ[id]?=some (some g)/\g.Ok (bnd k p)):VOK Γ ⟨k,i,j,n,0,kids⟩
theorem VOK.wf{Γ:Gh}{v:Vl}(h:VOK Γ v):Wf 0 (TV Γ v):=by
 cases h with
 |fv l _=>exact .fv _ _
 |nd h2 h0 hf hl hk=>
  rw[Jg h2];refine .nd _ _ _ h2 h0 hf (by rw[Nx];exact hl) (fun p t ht=>?_);rw[Mr] at ht;cases hq:(Vl.mk _ _ _ _ 0 _).kids[p]? with
  |none=>rw[hq] at ht;cases ht
  |some id=>
   rw[hq,Option.map_some,q_b] at ht;subst ht;obtain⟨g,hg,ho⟩:=hk p id hq;rw[Nat.zero_add,Nat.zero_add,Lc hg];exact ho.wf
theorem VOK.mono{Γ Γ':Gh}(x:Gx Γ Γ'){v:Vl}(h:VOK Γ v):VOK Γ' v:=by
 cases h with
 |fv l hl=>exact .fv l hl
 |nd h2 h0 hf hl hk=>exact .nd h2 h0 hf hl (fun p id h=>by obtain⟨g,hg,ho⟩:=hk p id h;exact⟨g,x.get hg,ho⟩)
theorem Ia{Γ Γ':Gh}(x:Gx Γ Γ'){v:Vl}(h:VOK Γ v):TV Γ' v=TV Γ v:=by
 cases h with
 |fv l hl=>rfl
 |@nd k i j n kids h2 h0 hf hl hk=>
  rw[Jg h2,Jg h2];congr 1;apply List.ext_getElem?;intro q;rw[Mr,Mr];cases hq:(Vl.mk k i j n 0 kids).kids[q]? with
  |none=>rfl
  |some id=>
   obtain⟨g,hg,_⟩:=hk q id hq;simp only[Option.map_some,x.den hg]
inductive Vst(Γ:Gh):Vl->Prop
 |base {v:Vl} (h:stk v.k=none):Vst Γ v
 |step {v y:Vl} {p id:Nat} (hp:stk v.k=some p) (Bc:v.kids[p]?=some id) (hg:Γ[id]?=some (some (.dn y (TV Γ y)))) (hv:VOK Γ y) (hy:Vst Γ y):Vst Γ v
theorem Vst.mono{Γ Γ':Gh}(x:Gx Γ Γ'){v:Vl}(h:Vst Γ v):Vst Γ' v:=by
 induction h with
 |base h=>exact .base h
 |step hp Bc hg hv _ ih=>exact .step hp Bc (by rw[Ia x hv];exact x.get hg) (hv.mono x) ih
structure WOK(Γ:Gh)(v:Vl):Prop where
 ok:VOK Γ v
 st:Vst Γ v
 hn:HN plW (TV Γ v)
theorem WOK.mono{Γ Γ':Gh}(x:Gx Γ Γ'){v:Vl}(h:WOK Γ v):WOK Γ' v:=⟨h.ok.mono x,h.st.mono x,by rw[Ia x h.ok];exact h.hn⟩
structure EOK(Γ:Gh)(K:Nat)(e:List Nat)(es:List Tm):Prop where
 len:e.length=es.length
 at_:∀(q i:Nat),e[q]?=some i->i<K/\∃g,Γ[i]?=some (some g)/\g.Ok 0/\es[q]?=some (g.den 0)
theorem EOK.mono{Γ Γ':Gh}(x:Gx Γ Γ'){K K':Nat}(hK:K<=K'){e:List Nat}{es:List Tm}(h:EOK Γ K e es):EOK Γ' K' e es:=
 ⟨h.len,fun q i hq=>by obtain⟨h1,g,h2,h3⟩:=h.at_ q i hq;exact⟨by omega,g,x.get h2,h3⟩⟩
theorem EOK.wf{Γ:Gh}{K:Nat}{e:List Nat}{es:List Tm}(h:EOK Γ K e es):∀u∈es,Wf 0 u:=by
 intro u hu;obtain⟨q,hq,rfl⟩:=List.getElem_of_mem hu;have Kr:q<e.length:=by rw[h.len];exact hq
 obtain⟨_,g,_,ho,h3⟩:=h.at_ q e[q] (q_f Kr);rw[q_f hq,q_b] at h3;rw[h3];exact ho.wf
theorem EOK.push{Γ:Gh}{K:Nat}{e:List Nat}{es:List Tm}(h:EOK Γ K e es){i:Nat}{g:Ge}(hi:i<K)(hg:Γ[i]?=some (some g))(ho:g.Ok 0):EOK Γ K (i::e) (g.den 0::es):=by
 refine⟨by simp[h.len],fun q j hq=>?_⟩;cases q with
 |zero=>simp only[List.getElem?_cons_zero,q_b] at hq;subst hq;exact⟨hi,g,hg,ho,rfl⟩
 |succ q=>exact h.at_ q j hq
def ThOK(G:GV)(Γ:Gh)(id:Nat)(th:Th):Ge->Prop
 |.cl t es=>G[id]?=some (thR th)/\th.bare=false/\th.t=t/\EOK Γ id th.env es/\(∀v,th.w=some v->WOK Γ v/\∃n,HR plW n (Aq es 0 t) (TV Γ v))
 |.dn y T=>G[id]?=some (thR th)/\th.bare=true/\th.w=some y/\WOK Γ y/\T=TV Γ y
 |.kp row=>G[id]?=some row/\th.v=none
structure Mc where
 steps:Nat
 most:Nat
 seen:Nat
 guess:Nat
def Mc.row(M:Mc)(j:Nat):List SV:=Bn M.steps M.most M.seen M.guess j
structure Sy where
 nm:List UInt8
 ps:List Tm
 ty:Tm
 bd:Tm
 df:Bool
def Sy.row(s:Sy):List SV:=.str (bs s.nm)::.dsl 5 (s.ps.map tv)::(tv s.ty++(tv s.bd++[.bool s.df]))
abbrev SyT:=Int->Int->Int->Option Sy
def SyT.B(S:SyT)(n i j:Int):Option Tm:=(S n i j).bind fun s=>if s.df then some s.bd else none
def EntOK(S:SyT)(G:GV)(Γ:Gh)(p:K3×SV):Prop:=
 (S p.1.1 p.1.2.1 p.1.2.2=none/\p.2=.nilp)\/∃s id,S p.1.1 p.1.2.1 p.1.2.2=some s/\p.2=.gp id 0/\Γ[id]?=some none/\G[id]?=some s.row
def VC(S:SyT)(Γ:Gh)(th:Th)(g:Ge):Prop:=∀v,th.v=some v->WOK Γ v/\HN (plD S.B) (TV Γ v)/\∃n,HR (plD S.B) n (g.den 0) (TV Γ v)
structure RInv(S:SyT)(m j:Nat)(G:GV)(Γ:Gh)(M:Mc):Prop where
 len:G.length=Γ.length
 mc:G[m]?=some (M.row j)
 gm:Γ[m]?=some none
 gj:Γ[j]?=some none
 mj:m≠j
 map:∃l,G[j]?=some (Hd l)/\(∀p∈l,EntOK S G Γ p)
 rows:∀id g,Γ[id]?=some (some g)->∃th,ThOK G Γ id th g/\VC S Γ th g
 st:M.steps<=M.most
 mo:M.most<=1000000000
 se:M.seen<=8000001
 gu:M.guess<=3000
open Go Go.RowKit Go.Proofs.YtdpigpopcbjkmaaGreatDoor
theorem Zf{a b c:Int}:Sb (.agg true [.int .i64 a,.int .i64 b,.int .i64 c])=some (a,b,c):=q_z
theorem flat3{a b c:SV}:([[a],[b],[c]]:GV).flatten=[a,b,c]:=rfl
theorem Aoa{G:GV}{m j:Nat}{steps most seen guess n i j':Int}{l:List (K3×SV)}{p:K3×SV}(hm:G[m]?=some (Bn steps most seen guess j))(hj:G[j]?=some (Hd l))(hf:l.find? (fun p=>p.1==(n,i,j'))=some p)(hk:ok3 (n,i,j'))
  (hv:p.2=.nilp\/∃id,p.2=.gp id 0):Ad 91 G [.gp m 0,.int .i64 n,.int .i64 i,.int .i64 j'] (.ret p.2) G:=by
 have Rq:Pd (n,i,j') (l.map ent)=some (some p.2):=by rw[Zj,hf];rfl
 obtain⟨k,v⟩:=p;simp only at hv Rq |-;have Hu:G[j]?=some (SV.undef::l.map ent):=hj;refine Ap mixed Tryz.func91 tr91 ?_;rcases hv with rfl|⟨id,rfl⟩<;>simp only[go_sem,seval,hm,Bn,Hu,Zf,flat3,Rq,hk,Option.isSome_some]
theorem Amg{l:List (K3×SV)}{k:K3}{v:SV}:SV.undef::(l.map ent++[.tup [Sc k,v]])=Hd (l++[(k,v)]):=by simp[Hd,ent]
section
variable{o n:Nat}
theorem Bbg{a b:Nat}:Ff o n (.gp a b)=.gp a b:=rfl
theorem Bbh{k:IntKind}{a:Int}:Ff o n (.int k a)=.int k a:=rfl
theorem Bbd{b:Bool}:Ff o n (.bool b)=.bool b:=rfl
theorem Bbr:Ff o n .undef=.undef:=rfl
theorem Bbl:Ff o n .nilp=.nilp:=rfl
theorem Bbj{a:Nat}:Ff o n (.mp a)=.mp a:=rfl
theorem Bbc{b:Bool}{l:List SV}:Ff o n (.agg b l)=.agg b l:=rfl
theorem Bbq{l:List SV}:Ff o n (.tup l)=.tup l:=rfl
theorem Bbn{c:Nat}:Ff 2 n (.ref 1 0 0 c)=.ref 1 0 0 c:=rfl
theorem Bbo{c:Nat}:Ff 2 n (.ref 2 0 0 c)=.gp n c:=rfl
attribute [go_sem] Bbg Bbh Bbd Bbr Bbl Bbj Bbc Bbq Bbn Bbo
end
def noSy:List SV:=[.str (bs []),.nils,.int .i64 0,.int .i64 0,.int .i64 0,.int .i64 0,.nils,.int .i64 0,.int .i64 0,.int .i64 0,.int .i64 0,.nils,.bool false]
theorem A8r:noSy.length=13:=rfl
theorem Bfw{G:GV}{m j:Nat}{steps most seen guess n i j':Int}{l:List (K3×SV)}(hm:G[m]?=some (Bn steps most seen guess j))(hj:G[j]?=some (Hd l))(hf:l.find? (fun p=>p.1==(n,i,j'))=none)(hk:ok3 (n,i,j'))(hmj:m≠j)
  (hA:Con 112 [.int .i64 n,.int .i64 i,.int .i64 j'] (.tup [.agg true noSy,.bool false])) :
  Ad 91 G [.gp m 0,.int .i64 n,.int .i64 i,.int .i64 j'] (.ret .nilp) (G.set j (Hd (l++[((n,i,j'),.nilp)]))):=by
 have Rq:Pd (n,i,j') (l.map ent)=some none:=by rw[Zj,hf];rfl
 have Hu:G[j]?=some (SV.undef::l.map ent):=hj;refine Ap mixed Tryz.func91 tr91 ?_;simp only[go_sem,seval,hm,Bn,Hu,Zf,flat3,Rq,hk,Option.isSome_none];refine Aa hA ?_;simp only[go_sem,seval,A8r,hm,Bn,Hu,Zf,flat3,Rq,hk,Amg]
theorem Bfv{G:GV}{m j:Nat}{steps most seen guess n i j':Int}{l:List (K3×SV)}{r:List SV}(hm:G[m]?=some (Bn steps most seen guess j))(hj:G[j]?=some (Hd l))(hf:l.find? (fun p=>p.1==(n,i,j'))=none)(hk:ok3 (n,i,j'))(hmj:m≠j)(hr:r.length=13)
  (hA:Con 112 [.int .i64 n,.int .i64 i,.int .i64 j'] (.tup [.agg true r,.bool true])) :
  Ad 91 G [.gp m 0,.int .i64 n,.int .i64 i,.int .i64 j'] (.ret (.gp G.length 0)) ((G++[r]).set j (Hd (l++[((n,i,j'),.gp G.length 0)]))):=by
 have Rq:Pd (n,i,j') (l.map ent)=some none:=by rw[Zj,hf];rfl
 have Hu:G[j]?=some (SV.undef::l.map ent):=hj;refine A3l mixed Tryz.func91 tr91 ?_;simp only[go_sem,seval];refine Wu ?_;simp only[go_sem,seval];refine⟨_,.refl _,Wu ?_⟩;simp only[go_sem,seval,flat3];refine⟨_,.refl _,Wu ?_⟩;simp only[go_sem,seval,hm,Bn,Hu,Zf,Rq,hk,Option.isSome_none];refine⟨_,.refl _,Bhk (Wu ?_)⟩;simp only[go_sem,seval];refine⟨_,.refl _,Bhm rfl (Wu ?_)⟩;simp only[go_sem,seval];refine Aa hA ?_;simp only[go_sem,seval,hr];refine⟨_,.refl _,Wu ?_⟩;simp only[go_sem,seval];refine⟨_,.promo _ 2 _ G r rfl rfl rfl rfl rfl rfl (by intro e;rw[e] at hr;cases hr) (by simp) (by simp[Kd,Gu]) (fun q ob' h1 h2 h3 h4=>?_),Age ?_⟩
 ·match q,h1 with
  |0,h1=>cases h1;cases h3
  |1,h1=>cases h1;cases h4
  |2,_=>exact absurd rfl h2
  |q+3,h1=>simp at h1
 have Ab:j<G.length:=Dn hj;have hlm:m<G.length:=Dn hm;simp only[go_sem,seval,Cy,hm,Bn,Hu,Ab,hlm,Zf,Rq,hk,Amg];refine⟨_,.refl _,Age ?_⟩;simp only[go_sem,seval]
theorem ThOK.mono{G G':GV}{Γ Γ':Gh}{id:Nat}{th:Th}{g:Ge}(h:ThOK G Γ id th g)(x:Gx Γ Γ')(hG:G'[id]?=G[id]?):ThOK G' Γ' id th g:=by
 cases g with
 |cl t es=>
  obtain⟨h1,h2,h3,h4,h5⟩:=h;exact⟨by rw[hG];exact h1,h2,h3,h4.mono x (Nat.le_refl _),fun v hv=>by obtain⟨w,n,hr⟩:=h5 v hv;exact⟨w.mono x,n,by rw[Ia x w.ok];exact hr⟩⟩
 |dn y T=>
  obtain⟨h1,h2,h3,h4,h5⟩:=h;exact⟨by rw[hG];exact h1,h2,h3,h4.mono x,by rw[h5,Ia x h4.ok]⟩
 |kp row=>exact⟨by rw[hG];exact h.1,h.2⟩
theorem ThOK.row{G:GV}{Γ:Gh}{id n:Nat}{th:Th}{g:Ge}(h:ThOK G Γ id th g)(ho:g.Ok n):G[id]?=some (thR th):=by
 cases g with
 |cl t es=>exact h.1
 |dn y T=>exact h.1
 |kp row=>exact ho.elim
theorem RInv.keep{S:SyT}{m j:Nat}{G:GV}{Γ:Gh}{M:Mc}(h:RInv S m j G Γ M){id:Nat}{row:List SV}(hg:Γ[id]?=some (some (.kp row))):G[id]?=some row:=by
 obtain⟨th,h1,_⟩:=h.rows id _ hg;exact h1.1
theorem VC.mono{S:SyT}{Γ Γ':Gh}{th:Th}{g:Ge}(h:VC S Γ th g)(x:Gx Γ Γ'):VC S Γ' th g:=fun v hv=>by
 obtain⟨w,hn,n,hr⟩:=h v hv;exact⟨w.mono x,by rw[Ia x w.ok];exact hn,n,by rw[Ia x w.ok];exact hr⟩
theorem EntOK.mono{S:SyT}{G G':GV}{Γ Γ':Gh}{p:K3×SV}(h:EntOK S G Γ p)(x:Gx Γ Γ')(hG:∀(s:Sy) (id:Nat),Γ[id]?=some none->G[id]?=some s.row->G'[id]?=some s.row):EntOK S G' Γ' p:=by
 rcases h with h|⟨s,id,h1,h2,h3,h4⟩
 ·exact .inl h
 ·exact .inr ⟨s,id,h1,h2,x.get h3,hG s id h3 h4⟩
theorem Bd5{s:Sy}{M:Mc}{j:Nat}:s.row≠M.row j:=by unfold Sy.row Mc.row Bn;simp
theorem Bd6{s:Sy}{l:List (K3×SV)}:s.row≠Hd l:=by unfold Sy.row Hd;simp
section
variable{S:SyT}{m j:Nat}{G:GV}{Γ:Gh}{M:Mc}
theorem RInv.mach(h:RInv S m j G Γ M)(M':Mc)(st:M'.steps<=M'.most)(mo:M'.most<=1000000000)(se:M'.seen<=8000001)(gu:M'.guess<=3000):RInv S m j (G.set m (M'.row j)) Γ M':=by
 obtain⟨l,hl,hE⟩:=h.map;refine⟨by rw[List.length_set];exact h.len,Fl h.mc,h.gm,h.gj,h.mj,⟨l,by rw[List.getElem?_set_ne h.mj];exact hl,fun p hp=>EntOK.mono (hE p hp) (.refl Γ) (fun s id h1 h2=>?_)⟩,fun id g hg=>?_,st,mo,se,gu⟩
 ·rw[List.getElem?_set_ne (fun e=>?_)]
  ·exact h2
  ·subst e;rw[h.mc,q_b] at h2;exact Bd5 h2.symm
 ·obtain⟨th,h1,h2⟩:=h.rows id g hg;refine⟨th,h1.mono (.refl Γ) ?_,h2⟩;rw[List.getElem?_set_ne (fun e=>?_)];subst e;rw[h.gm] at hg;cases hg
theorem RInv.set(h:RInv S m j G Γ M){id:Nat}{g:Ge}(hg:Γ[id]?=some (some g)){th':Th}(ho:ThOK (G.set id (thR th')) Γ id th' g)(hv:VC S Γ th' g):RInv S m j (G.set id (thR th')) Γ M:=by
 have hm:id≠m:=fun e=>by subst e;rw[h.gm] at hg;cases hg
 have hj:id≠j:=fun e=>by subst e;rw[h.gj] at hg;cases hg
 obtain⟨l,hl,hE⟩:=h.map;refine⟨by rw[List.length_set];exact h.len,by rw[List.getElem?_set_ne hm];exact h.mc,h.gm,h.gj,h.mj,⟨l,by rw[List.getElem?_set_ne hj];exact hl,fun p hp=>EntOK.mono (hE p hp) (.refl Γ) (fun s id' h1 h2=>?_)⟩,fun id' g' If=>?_,h.st,h.mo,h.se,h.gu⟩
 ·rw[List.getElem?_set_ne (fun e=>?_)]
  ·exact h2
  ·subst e;rw[hg] at h1;cases h1
 ·by_cases e:id=id'
  ·subst e;rw[hg,q_b,q_b] at If;subst If;exact⟨th',ho,hv⟩
  ·obtain⟨th,h1,h2⟩:=h.rows id' g' If;exact⟨th,h1.mono (.refl Γ) (List.getElem?_set_ne e),h2⟩
theorem RInv.push(h:RInv S m j G Γ M){th:Th}{g:Ge}(ho:ThOK (G++[thR th]) (Γ++[some g]) G.length th g)(hv:th.v=none):RInv S m j (G++[thR th]) (Γ++[some g]) M:=by
 have lt:∀{id:Nat} {r:List SV},G[id]?=some r->(G++[thR th])[id]?=some r:=fun h=>by rw[List.getElem?_append_left (Dn h)];exact h
 obtain⟨l,hl,hE⟩:=h.map;refine⟨by simp[h.len],lt h.mc,(Gx.app _ _).get h.gm,(Gx.app _ _).get h.gj,h.mj,⟨l,lt hl,fun p hp=>EntOK.mono (hE p hp) (.app _ _) (fun s id' h1 h2=>lt h2)⟩,fun id' g' If=>?_,h.st,h.mo,h.se,h.gu⟩;rcases Nat.lt_or_ge id' Γ.length with Ab|Fj
 ·rw[List.getElem?_append_left Ab] at If;obtain⟨th,h1,h2⟩:=h.rows id' g' If;exact⟨th,h1.mono (.app _ _) (by rw[List.getElem?_append_left (by rw[h.len];exact Ab)]),h2.mono (.app _ _)⟩
 ·have:id'=G.length:=by
   have:=Dn If;simp at this;rw[h.len];omega
  subst this;rw[h.len] at If;simp only[List.getElem?_concat_length,q_b] at If;subst If;exact⟨th,ho,fun v e=>by rw[hv] at e;cases e⟩
theorem EOK.top{Γ:Gh}{K:Nat}{e:List Nat}{es:List Tm}(h:EOK Γ K e es):EOK Γ Γ.length e es:=
 ⟨h.len,fun q i hq=>by obtain⟨_,g,h2,h3⟩:=h.at_ q i hq;exact⟨Dn h2,g,h2,h3⟩⟩
theorem RInv.pushCl(h:RInv S m j G Γ M){t:Tm}{e:List Nat}{es:List Tm}{K:Nat}(he:EOK Γ K e es)(hK:K<=G.length):RInv S m j (G++[thR ⟨t,e,false,none,none⟩]) (Γ++[some (.cl t es)]) M:=
 h.push ⟨by simp,rfl,rfl,he.mono (.app _ _) hK,fun v hv=>by cases hv⟩ rfl
theorem RInv.pushDn(h:RInv S m j G Γ M){y:Vl}(hy:WOK Γ y):RInv S m j (G++[Ld (some y) none]) (Γ++[some (.dn y (TV Γ y))]) M:=by
 unfold Ld;exact h.push ⟨by simp,rfl,rfl,hy.mono (.app _ _),by rw[Ia (.app _ _) hy.ok]⟩ rfl
def Qt(k:Int)(y:Option Vl)(T:Tm)(es:List Tm)(i:Nat)(kid:Tm):Ge:=if (i:Int)=k then (match y with
 |some v=>.dn v T
 |none=>.cl kid es) else .cl kid es
def Kw(k:Int)(y:Option Vl)(T:Tm)(es:List Tm):Nat->List Tm->Gh
 |_,[]=>[]
 |i,x::l=>some (Qt k y T es i x)::Kw k y T es (i+1) l
theorem A8u{k:Int}{y:Option Vl}{T:Tm}{es:List Tm}:∀{l:List Tm} {i q:Nat},(Kw k y T es i l)[q]?=(l[q]?).map fun kid=>some (Qt k y T es (i+q) kid):=by
 intro l
 induction l with
 |nil=>intro i q;simp[Kw]
 |cons a l ih=>
  intro i q;cases q with
  |zero=>simp[Kw]
  |succ q=>rw[Kw,List.getElem?_cons_succ,List.getElem?_cons_succ,ih,show i+1+q=i+(q+1) by omega]
theorem RInv.node{k:Int}{y:Option Vl}{T:Tm}{e:List Nat}{es:List Tm}:∀{l:List Tm} {i:Nat} {G:GV} {Γ:Gh} {K:Nat},RInv S m j G Γ M->EOK Γ K e es->K<=G.length->(∀v,y=some v->WOK Γ v/\T=TV Γ v)->(y=none->k<0) ->
  RInv S m j (G++Fy k y e i l) (Γ++Kw k y T es i l) M:=by
 intro l
 induction l with
 |nil=>intro i G Γ K h _ _ _ _;simpa [Fy,Kw] using h
 |cons a l ih=>
  intro i G Γ K h he hK hy hn;have key:RInv S m j (G++[Wj k y e i a]) (Γ++[some (Qt k y T es i a)]) M:=by
   unfold Wj Qt;split
   ·rename_i w6;cases y with
    |none=>have:=hn rfl;omega
    |some v=>
     obtain⟨h1,h2⟩:=hy v rfl;subst h2;exact h.pushDn h1
   ·exact h.pushCl he hK
  have:=ih (i:=i+1) (K:=K) key (he.mono (.app _ _) (Nat.le_refl _)) (by simp;omega) (fun v hv=>by
   obtain⟨h1,h2⟩:=hy v hv;exact⟨h1.mono (.app _ _),by rw[Ia (.app _ _) h1.ok];exact h2⟩) hn
  rw[Fy,Kw];simpa [List.append_assoc] using this
theorem Abh{a n q:Nat}:(List.range' a n)[q]?=if q<n then some (a+q) else none:=by
 split
 ·rename_i h;rw[q_f (by simpa using h),List.getElem_range'];simp
 ·rename_i h;rw[List.getElem?_eq_none (by simp;omega)]
theorem Aa6{k:Int}{y:Option Vl}{T:Tm}{es:List Tm}{l:List Tm}{q:Nat}{t:Tm}(ht:l[q]?=some t):(Γ++Kw k y T es 0 l)[Γ.length+q]?=some (some (Qt k y T es q t)):=by
 rw[List.getElem?_append_right (by omega),show Γ.length+q - Γ.length=q by omega,A8u,ht,Option.map_some,Nat.zero_add]
theorem Aco{k:Int}{p:Nat}(h:stk k=some p):bnd k p=0:=by
 unfold stk at h;unfold bnd Bl;split at h
 ·cases h;rw[if_neg (by omega),if_neg (by omega),if_neg (by omega)];rfl
 ·split at h
  ·cases h;rw[if_neg (by omega),if_neg (by omega),if_pos (by omega)];rfl
  ·cases h
theorem Qp{k:Int}(h2:k≠2)(h0:k≠0)(es:List Tm)(b:Nat)(i j n:Int)(l:List Tm):Aq es b (.mk k i j n l)=.mk k i j n (trL (ivI es) (fun _ l=>fT l) b k 0 l):=Ey h2 h0 b i j n l
theorem A8x{k' i' j' n':Int}(h2:k'≠2)(h0:k'≠0){es:List Tm}{l:List Tm}{T:Tm}:TV (Γ++Kw (-1) none T es 0 l) (Ik k' i' j' n' l Γ.length)=Aq es 0 (.mk k' i' j' n' l):=by
 rw[Jg (show (Ik k' i' j' n' l Γ.length).k≠2 from h2),Qp h2 h0];unfold Ik;congr 1;apply List.ext_getElem?;intro q;rw[Mr,Ep,Abh];cases hq:l[q]? with
 |none=>rw[if_neg (by have:=List.getElem?_eq_none_iff.1 hq;omega)];rfl
 |some t=>
  rw[if_pos (Dn hq),Option.map_some,Option.map_some,Lc (Aa6 hq)];unfold Qt;rw[if_neg (by omega)];simp only[Ge.den,Nat.zero_add];rfl
theorem Zl{k' i' j' n':Int}(h2:k'≠2)(h0:k'≠0){es:List Tm}{l:List Tm}{T:Tm}{p:Nat}(hp:stk k'=some p){y:Vl} :
  TV (Γ++Kw p (some y) T es 0 l) (Ik k' i' j' n' l Γ.length)=Ce (Aq es 0 (.mk k' i' j' n' l)) p T:=by
 rw[Jg (show (Ik k' i' j' n' l Γ.length).k≠2 from h2),Qp h2 h0];unfold Ik Ce;simp only[Tm.k,Tm.i,Tm.j,Tm.n,Tm.kids];congr 1;apply List.ext_getElem?;intro q;rw[Mr,Abh];cases hq:l[q]? with
 |none=>
  have:=List.getElem?_eq_none_iff.1 hq;rw[if_neg (by omega),List.getElem?_eq_none (by rw[List.length_set,Kh];omega)];rfl
 |some t=>
  rw[if_pos (Dn hq),Option.map_some,Lc (Aa6 hq)];unfold Qt
  by_cases e:p=q
  ·subst e;rw[if_pos rfl,List.getElem?_set_self (by rw[Kh];exact Dn hq)];rfl
  ·rw[if_neg (by omega),List.getElem?_set_ne e,Ep,hq,Option.map_some];simp only[Ge.den,Nat.zero_add];rfl
theorem Amn{k' i' j' n':Int}{es:List Tm}{l:List Tm}{T:Tm}{k:Int}{y:Option Vl}{B:Nat}(h2:k'≠2)(hw:∀u∈es,Wf 0 u)(hs:Sf B (.mk k' i' j' n' l))(hB:B+dpt (.mk k' i' j' n' l)<=cap)(hE:es.length+dpt (.mk k' i' j' n' l)<=cap)(hT:y≠none->Wf 0 T/\stk k'=some k.toNat) :
  VOK (Γ++Kw k y T es 0 l) (Ik k' i' j' n' l Γ.length):=by
 obtain⟨h0,hf,hl⟩:=hs.node h2;refine .nd h2 h0 hf (by rw[List.length_range'];exact hl) (fun p id Bc=>?_);rw[Abh] at Bc;split at Bc
 ·rename_i Ab;cases Bc;have ht:l[p]?=some l[p]:=q_f Ab;refine⟨_,Aa6 ht,?_⟩;have hd:=Km (k:=k') (i:=i') (j:=j') (n:=n') ht;have hcl:(Ge.cl l[p] es).Ok (bnd k' p):=⟨hw,⟨B+bnd k' p,hs.kid ht,by omega⟩,by omega⟩
  unfold Qt;split
  ·rename_i Ot;cases y with
   |none=>exact hcl
   |some v=>
    obtain⟨h3,h4⟩:=hT (by simp);rw[<-Ot,Int.toNat_natCast] at h4;exact⟨Aco h4,h3⟩
  ·exact hcl
 ·cases Bc
theorem Aaa{T:Tm}(h:stk T.k=none):HN plW T:=by
 refine .mk ?_ (fun p hp=>by rw[h] at hp;cases hp);unfold stk at h;have h1:¬(T.k=15\/T.k=18\/T.k=19):=fun c=>by rw[if_pos c] at h;cases h
 rw[if_neg h1] at h;have h3:¬T.k=22:=fun c=>by rw[if_pos c] at h;cases h
 unfold plW;rw[if_neg (by omega),if_neg (by omega),if_neg (by omega),if_neg (by omega)]
theorem A8y{k' i' j' n':Int}{es:List Tm}{l:List Tm}{T:Tm}{B:Nat}(h2:k'≠2)(hk:stk k'=none)(hw:∀u∈es,Wf 0 u)(hs:Sf B (.mk k' i' j' n' l))(hB:B+dpt (.mk k' i' j' n' l)<=cap)(hE:es.length+dpt (.mk k' i' j' n' l)<=cap) :
  WOK (Γ++Kw (-1) none T es 0 l) (Ik k' i' j' n' l Γ.length):=by
 refine⟨Amn h2 hw hs hB hE (fun h=>absurd rfl h),.base hk,Aaa ?_⟩;rw[TV_k (show (Ik k' i' j' n' l Γ.length).k≠2 from h2)];exact hk
theorem Aa7{k' i' j' n':Int}{es:List Tm}{l:List Tm}{y:Vl}{B p:Nat}(hp:stk k'=some p)(hlp:p<l.length)(hy:WOK Γ y)(hw:∀u∈es,Wf 0 u)(hs:Sf B (.mk k' i' j' n' l))(hB:B+dpt (.mk k' i' j' n' l)<=cap)(hE:es.length+dpt (.mk k' i' j' n' l)<=cap)
  (hN:plW (Ce (Aq es 0 (.mk k' i' j' n' l)) p (TV Γ y))=none) :
  WOK (Γ++Kw p (some y) (TV Γ y) es 0 l) (Ik k' i' j' n' l Γ.length):=by
 have h2:k'≠2:=by have:=(Kf hp).1;omega
 have h0:k'≠0:=by have:=(Kf hp).1;omega
 refine⟨Amn h2 hw hs hB hE (fun _=>⟨hy.ok.wf,by rw[Int.toNat_natCast];exact hp⟩),?_,?_⟩
 ·refine .step (y:=y) (p:=p) (id:=Γ.length+p) hp (by show (List.range' Γ.length l.length)[p]?=_;rw[Abh,if_pos hlp]) ?_ (hy.ok.mono (.app _ _)) (hy.st.mono (.app _ _));rw[Aa6 (q_f hlp),Ia (.app _ _) hy.ok];unfold Qt;rw[if_pos rfl]
 ·rw[Zl h2 h0 hp];refine .mk hN (fun q hq=>?_);rw[Afs,Qp h2 h0,show ∀l:List Tm,(Tm.mk k' i' j' n' l).k=k' from fun _=>rfl,hp] at hq;cases hq;rw[Zg (by rw[Qp h2 h0];show p<(trL _ _ _ _ _ l).length;rw[Kh];exact hlp)];exact hy.hn
end
end Go.Proofs.YtdpigpopcbjkmaaGreatDoor.Abs
