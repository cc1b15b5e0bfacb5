import Derived.Test.YtgdkddjdhijfnaaGreatDoorXVc
import Derived.Test.YtgdkddjdhijfnaaGreatDoorXEv
import Derived.Test.YtgdkddjdhijfnaaGreatDoorXFg
import Derived.Test.YtgdkddjdhijfnaaGreatDoorProg
import Derived.KernelRfl
import Derived.Test.YtgdkddjdhijfnaaGreatDoorXPc
import Derived.Test.YtgdkddjdhijfnaaGreatDoorXMb
set_option linter.all false
set_option maxRecDepth 20000
set_option maxHeartbeats 4000000
namespace Go.Proofs.YtgdkddjdhijfnaaGreatDoor.Abs
open Go Go.RowKit Go.Proofs.YtgdkddjdhijfnaaGreatDoor
section
variable{B:BT}{C:Nat}
def Aj5{t u:Tm}(h:Sf C t)(h2:t.k≠2){p:Nat}(hp:p<t.kids.length)(hu:Par B (Ap t p) u):Par B t (Cd t p u):=by
 have h0:=sf_k h;cases t with
 |mk k i j n l=>
  refine .nd h2 h0 (by simp[Tm.kids]) (fun q s s' hs Fa=>?_);simp only[Tm.kids] at Fa
  by_cases e:p=q
  ·subst e;have Ag:p<l.length:=hp;rw[q_jq Ag,q_b] at Fa;subst Fa;have:Ap (.mk k i j n l) p=s:=by unfold Ap;simp only[Tm.kids,q_j];rw[hs];rfl
   rw[<-this];exact hu
  ·rw[q_jc e] at Fa;rw[hs,q_b] at Fa;subst Fa;exact Aj4 (h.kid hs)
def Ae9{t u:Tm}(h:Sf C t)(hp:Bm B t=some u):Par B t u:=by
 have h2:t.k≠2:=fun e=>by rw[Gz (by omega)] at hp;cases hp
 have h0:=sf_k h;cases t with
 |mk k i j n l=>exact .st h2 h0 rfl (fun p s s' hs Fa=>by rw[hs,q_b] at Fa;subst Fa;exact Aj4 (h.kid hs)) (by rw[hp];rfl) hp
def Aqd{t u:Tm}(h:HS (Bm B) t u):∀{C:Nat},Sf C t->Par B t u:=by
 induction h with
 |here h=>intro C hs;exact Ae9 hs h
 |@down t u p h hp hs ih=>
  intro C ht;obtain⟨h2,h0,hl,hb⟩:=Rr ht hp;exact Aj5 ht h2 hl (ih (Ho ht hl))
def Bez(hB:Bz B){N N':Nat}{t t':Tm}{o:Bool}(h:PHd B N t N' o t')(ho:o=false):∀{C:Nat},Sf C t->Sf C t'/\Prs B t t'/\HN (Bm B) t':=by
 induction h with
 |stop h=>intro C ht;exact⟨ht,.refl _,h⟩
 |out=>cases ho
 |step h _ _ _ ih=>
  intro C ht;obtain⟨a,r,k⟩:=ih ho (Ab3 hB h ht);exact⟨a,.step (Aqd h ht) r,k⟩
def Bf0(hB:Bz B){s s':Tm}(h:Prs B s s'):∀{t:Tm} {p:Nat},Sf C t->t.k≠2->p<t.kids.length->Ap t p=s->Prs B t (Cd t p s'):=by
 induction h with
 |refl s=>
  intro t p ht h2 hp e;have:Cd t p s=t:=by
   cases t with
   |mk k i j n l=>
    unfold Cd;congr 1;apply List.ext_getElem?;intro q;simp only[Tm.kids]
    by_cases h:p=q
    ·subst h;have Ag:p<l.length:=hp;rw[q_jq Ag,q_f Ag,<-e];unfold Ap;simp only[Tm.kids,q_j,q_f Ag,q_jz]
    ·rw[q_jc h]
  rw[this];exact .refl t
 |@step s u w h hr ih=>
  intro t p ht h2 hp e;subst e;have h1:=Aj5 ht h2 hp h;have e1:(Cd t p u).k=t.k:=rfl;have e2:(Cd t p u).kids=t.kids.set p u:=rfl;have e3:Ap (Cd t p u) p=u:=by
   unfold Ap;rw[e2,q_j,q_jq hp];rfl
  have h3:=ih (t:=Cd t p u) (p:=p) (Ur hB h1 ht) (by rw[e1];exact h2) (by rw[e2,q_ki];exact hp) e3;have e4:Cd (Cd t p u) p w=Cd t p w:=by unfold Cd;simp[Tm.kids,Tm.k,Tm.i,Tm.j,Tm.n]
  rw[e4] at h3;exact .step h1 h3
def Yq(hB:Bz B){k i j n:Int}(h2:k≠2):∀(rs d l:List Tm),Sf C (.mk k i j n (d++l))->rs.length=l.length->(∀(p:Nat) s s',l[p]?=some s->rs[p]?=some s'->Prs B s s')->Prs B (.mk k i j n (d++l)) (.mk k i j n (d++rs)):=by
 intro rs
 induction rs with
 |nil=>intro d l hs hl _;cases l with
  |nil=>exact .refl _
  |cons a l=>simp at hl
 |cons r rs ih=>
  intro d l hs hl hk;cases l with
  |nil=>simp at hl
  |cons a l=>
   have h1:=Bf0 hB (hk 0 a r rfl rfl) (t:=.mk k i j n (d++a::l)) (p:=d.length) hs h2 (by simp[Tm.kids]) (by unfold Ap;simp[Tm.kids]);have e:Cd (.mk k i j n (d++a::l)) d.length r=.mk k i j n ((d++[r])++l):=by unfold Cd;simp[Tm.kids,Tm.k,Tm.i,Tm.j,Tm.n]
   rw[e] at h1;have h3:=ih (d++[r]) l (Afg hB h1 hs) (by simpa using hl) (fun p s s' h h'=>hk (p+1) s s' (by simpa using h) (by simpa using h'));rw[q_ju,q_kv] at h3;rw[q_ju,q_kv] at h1;simp only[q_ju,q_kv] at h1 h3;exact h1.trans h3
def Ap0{P:Tm->Option Tm}{t u:Tm}(h:HS P t u):¬HN P t:=by
 induction h with
 |here h=>intro hn;cases hn with
  |mk h' _=>rw[h] at h';cases h'
 |down h hp _ ih=>intro hn;cases hn with
  |mk _ hk=>exact ih (hk _ hp)
def Bfu(hB:Bz B){x y:Tm ⊕ List Tm}{N N':Nat}{o o':Bool}(h:PNx B x N o N' o' y)(ho':o'=false) :
  (∀t r,x=.inl t->y=.inl r->∀C,Sf C t->Prs B t r/\Nm B r/\Sf C r/\(HN (Bm B) t->r.k=t.k)) /\
  (∀l rs,x=.inr l->y=.inr rs->rs.length=l.length/\∀(p:Nat) s s',l[p]?=some s->rs[p]?=some s'->∀C,Sf C s->Prs B s s'/\Nm B s'/\(HN (Bm B) s->s'.k=s.k)):=by
 induction h with
 |@tm t t1 N N1 N2 o1 o2 rs h hk ih=>
  have Hw:=o6 hk ho';refine⟨fun t' r e1 e2 C hs=>?_,fun l rs' e=>by cases e⟩;cases e1;cases e2;obtain⟨a,w,hn⟩:=Bez hB h Hw hs;obtain⟨hl,hr⟩:=(ih ho').2 t1.kids rs rfl rfl;have Hv:HN (Bm B) t->t1.k=t.k:=fun hn=>by
   cases h with
   |stop=>rfl
   |out h=>exact absurd hn (Ap0 h)
   |step h=>exact absurd hn (Ap0 h)
  by_cases h2:t1.k=2
  ·cases t1 with
   |mk k i j n l=>
    have Dj:k=2:=h2;subst Dj;obtain⟨q,rfl,rfl,rfl,rfl,_⟩:=a.vr;simp only[Tm.kids] at hl hr;have:rs=[]:=q_lb.1 hl;subst this;exact⟨w,.mk (Gz (by simp[Tm.k])) (fun p s hs=>by cases hs),a,Hv⟩
  ·have Jc:Prs B t1 (.mk t1.k t1.i t1.j t1.n rs):=by
    cases t1 with
    |mk k i j n l=>
     have:=Yq (C:=C) hB (i:=i) (j:=j) (n:=n) (show k≠2 from h2) rs [] l a hl (fun p s s' h h'=>(hr p s s' h h' _ (a.kid h)).1);rw[q_kn,q_kn] at this;exact this
   have hsr:=Afg hB Jc a;refine⟨w.trans Jc,.mk ?_ (fun p s' Fa=>?_),hsr,Hv⟩
   ·cases t1 with
    |mk k i j n l=>
     simp only[Tm.k,Tm.i,Tm.j,Tm.n,Tm.kids] at *
     cases hn with
     |mk hp Nk=>
      have hln:=(a.node h2).2.2;have kk:∀p,stk k=some p->(Ap (.mk k i j n rs) p).k=(Ap (.mk k i j n l) p).k:=fun p hp=>by
       obtain⟨_,_,Ag,hb⟩:=Rr a hp;have Ag:p<l.length:=Ag;have g1:l[p]?=some l[p]:=q_f Ag;have g2:rs[p]?=some rs[p]:=q_f (by omega);have e1:Ap (.mk k i j n l) p=l[p]:=by unfold Ap;simp only[Tm.kids,q_j,g1,q_jz]
       have e2:Ap (.mk k i j n rs) p=rs[p]:=by unfold Ap;simp only[Tm.kids,q_j,g2,q_jz]
       have:=Nk p hp;rw[e1] at this;rw[e1,e2];exact (hr p _ _ g1 g2 _ (a.kid g1)).2.2 this
      by_cases Ey:k=15
      ·subst Ey;rw[Nw rfl] at hp |-;rw[kk 0 (by decide)];split at hp
       ·cases hp
       ·rename_i c;rw[if_neg c]
      by_cases Fh:k=18
      ·subst Fh;rw[Qf rfl] at hp |-;rw[kk 0 (by decide)];split at hp
       ·cases hp
       ·rename_i c;rw[if_neg c]
      by_cases Fi:k=19
      ·subst Fi;rw[Qg rfl] at hp |-;rw[kk 0 (by decide)];split at hp
       ·cases hp
       ·rename_i c;rw[if_neg c]
      by_cases Dv:k=22
      ·subst Dv;rw[Rm rfl] at hp |-;rw[kk 5 (by decide)];split at hp
       ·cases hp
       ·rename_i c;rw[if_neg c]
      by_cases Cs:k=23
      ·subst Cs;rw[Ro rfl] at hp |-;simp only[Tm.n,Tm.i,Tm.j] at hp |-;cases hb:B n i j with
       |none=>rfl
       |some q=>rw[hb] at hp;cases hp
      ·exact Gz (by simp only[Tm.k];omega)
   ·obtain⟨s,hs⟩:=Vo hl Fa;cases t1 with
    |mk k i j n l=>exact (hr p s s' hs Fa _ (a.kid hs)).2.1
 |nil=>exact⟨fun t r e=>(by cases e),fun l rs e1 e2=>by cases e1;cases e2;exact⟨rfl,fun p s s' h=>by cases h⟩⟩
 |out=>cases ho'
 |@cons a r l rs N N1 N2 o1 o2 h hl ih1 ih2=>
  have Hw:=o6 hl ho';refine⟨fun t r e=>(by cases e),fun l' rs' e1 e2=>?_⟩;cases e1;cases e2;obtain⟨q1,q2⟩:=(ih2 ho').2 l rs rfl rfl;refine⟨by simp[q1],fun p s s' hs Fa C hsf=>?_⟩;cases p with
  |zero=>
   simp only[q_jv,q_b] at hs Fa;subst hs Fa;obtain⟨w1,w2,w3,w4⟩:=(ih1 Hw).1 a r rfl rfl C hsf;exact⟨w1,w2,w4⟩
  |succ p=>exact q2 p s s' (by simpa using hs) (by simpa using Fa) C hsf
end
section
variable{B:BT}{C:Nat}
def Asp{t u:Tm}(hk:u.k=t.k)(hi:u.i=t.i)(hj:u.j=t.j)(hn:u.n=t.n)(Oi:∀p,stk t.k=some p->(Ap u p).k=(Ap t p).k)(h:Bm B t=none):Bm B u=none:=by
 by_cases Ey:t.k=15
 ·rw[Nw Ey] at h;rw[Nw (hk.trans Ey),Oi 0 (by rw[Ey];rfl)];split at h
  ·cases h
  ·rename_i c;rw[if_neg c]
 by_cases Fh:t.k=18
 ·rw[Qf Fh] at h;rw[Qf (hk.trans Fh),Oi 0 (by rw[Fh];rfl)];split at h
  ·cases h
  ·rename_i c;rw[if_neg c]
 by_cases Fi:t.k=19
 ·rw[Qg Fi] at h;rw[Qg (hk.trans Fi),Oi 0 (by rw[Fi];rfl)];split at h
  ·cases h
  ·rename_i c;rw[if_neg c]
 by_cases Dv:t.k=22
 ·rw[Rm Dv] at h;rw[Rm (hk.trans Dv),Oi 5 (by rw[Dv];rfl)];split at h
  ·cases h
  ·rename_i c;rw[if_neg c]
 by_cases Cs:t.k=23
 ·rw[Ro Cs,Option.map_eq_none_iff] at h;rw[Ro (hk.trans Cs),hi,hj,hn,h];rfl
 exact Gz (by omega)
def Baj{t:Tm}(hn:HN (Bm B) t):∀{C:Nat} {u:Tm},Sf C t->Par B t u->HN (Bm B) u/\u.k=t.k/\u.i=t.i/\u.j=t.j/\u.n=t.n/\ParL B t.kids u.kids:=by
 induction hn with
 |@mk t h hk ih=>
  intro C u hs hp;cases hp with
  |var i=>exact⟨.mk h hk,rfl,rfl,rfl,rfl,rfl,fun p s s' h1=>by cases h1⟩
  |@nd k i j n l l' h2 h0 hl Hv=>
   have key:∀p,stk k=some p->HN (Bm B) (Ap (.mk k i j n l') p)/\(Ap (.mk k i j n l') p).k=(Ap (.mk k i j n l) p).k:=fun p hp=>by
    obtain⟨_,_,Ag,_⟩:=Rr hs hp;obtain⟨a,b,_⟩:=ih p hp (Ho hs Ag) (ParL.kid ⟨hl,Hv⟩ Ag);exact⟨a,b⟩
   exact⟨.mk (Asp (t:=.mk k i j n l) rfl rfl rfl rfl (fun p hp=>(key p hp).2) h) (fun p hp=>(key p hp).1),rfl,rfl,rfl,rfl,hl,Hv⟩
  |st h2 h0 hl Hv hr hu=>rw[h] at hr;cases hr
def Au8(B:BT)(l l':List Tm):Prop:=l'.length=l.length/\∀(p:Nat) s s',l[p]?=some s->l'[p]?=some s'->Prs B s s'
def Ap3(hB:Bz B){t u:Tm}(h:Prs B t u):∀{C:Nat},Sf C t->HN (Bm B) t->HN (Bm B) u/\u.k=t.k/\u.i=t.i/\u.j=t.j/\u.n=t.n/\Au8 B t.kids u.kids:=by
 induction h with
 |refl t=>intro C hs hn;exact⟨hn,rfl,rfl,rfl,rfl,rfl,fun p s s' h1 h2=>by rw[h1,q_b] at h2;subst h2;exact .refl _⟩
 |@step t u w h1 hr ih=>
  intro C hs hn;obtain⟨a1,a2,a3,a4,a5,a6,a7⟩:=Baj hn hs h1;obtain⟨b1,b2,b3,b4,b5,b6,b7⟩:=ih (Ur hB h1 hs) a1;refine⟨b1,b2.trans a2,b3.trans a3,b4.trans a4,b5.trans a5,b6.trans a6,fun p s s' h2 h3=>?_⟩;obtain⟨x,hx⟩:=Vo b6 h3;exact .step (a7 p s x h2 hx) (b7 p x s' hx h3)
def Nf(B:BT)(t r:Tm):Prop:=Prs B t r/\Nm B r
def Nf.one(hB:Bz B){t r s:Tm}(hs:Sf C t)(h1:Nf B t r)(h2:Nf B t s):r=s:=Bdg hB hs h1.1 h2.1 h1.2 h2.2
def Nf.back(hB:Bz B){t u r:Tm}(hs:Sf C t)(h:Nf B t r)(hp:Prs B t u):Nf B u r:=by
 obtain⟨x,h1,h2⟩:=confl hB h.1 hs hp;have:=Ajx h1 h.2;subst this;exact⟨h2,h.2⟩
def Nf.pre{t u r:Tm}(hp:Prs B t u)(h:Nf B u r):Nf B t r:=⟨hp.trans h.1,h.2⟩
def Nf.sf(hB:Bz B){t r:Tm}(hs:Sf C t)(h:Nf B t r):Sf C r:=Afg hB h.1 hs
def Bde{r s:Tm}(h:Nm B r){p:Nat}(hp:r.kids[p]?=some s):Nm B s:=by
 cases h with
 |mk _ hk=>exact hk p s hp
def Uo(hB:Bz B){t r:Tm}(hs:Sf C t)(hn:HN (Bm B) t)(h:Nf B t r):r.k=t.k/\r.i=t.i/\r.j=t.j/\r.n=t.n/\r.kids.length=t.kids.length/\∀(p:Nat) s s',t.kids[p]?=some s->r.kids[p]?=some s'->Nf B s s':=by
 obtain⟨_,a2,a3,a4,a5,a6,a7⟩:=Ap3 hB h.1 hs hn;exact⟨a2,a3,a4,a5,a6,fun p s s' h1 h2=>⟨a7 p s s' h1 h2,Bde h.2 h2⟩⟩
def Aq5{t s:Tm}{p:Nat}(h:t.kids[p]?=some s):Ap t p=s:=by
 unfold Ap;rw[q_j,h];rfl
def Adf{t:Tm}{p:Nat}(h:p<t.kids.length):t.kids[p]?=some (Ap t p):=by
 have:=q_f h;rw[this,Aq5 this]
def Arv(hB:Bz B){t r:Tm}(hs:Sf C t)(hn:HN (Bm B) t)(h:Nf B t r){p:Nat}(hp:p<t.kids.length):Nf B (Ap t p) (Ap r p):=by
 obtain⟨_,_,_,_,hl,hk⟩:=Uo hB hs hn h;exact hk p _ _ (Adf hp) (Adf (by omega))
def Bfz(hB:Bz B){t u:Tm}(h:Prs B t u):∀{C:Nat},Sf C t->Prs B (Ct 1 t) (Ct 1 u):=by
 induction h with
 |refl=>intro C _;exact .refl _
 |step h1 _ ih=>intro C hs;exact .step (Asj hB h1 hs 1) (ih (Ur hB h1 hs))
def Bdf{s:Tm}(h:Nm B s):∀{C:Nat},Sf C s->∀c,Nm B (lf1 c s):=by
 induction h with
 |@mk s h hk ih=>
  intro C hs c;cases hs with
  |var hi=>rw[Aev];exact .mk (Gz (by unfold vT;simp[Tm.k])) (fun p s h=>by cases h)
  |@nd _ k i j n l h2 h0 hf hl Hv=>
   have e:lf1 c (.mk k i j n l)=.mk k i j n (trL (lfv 1) FF c k 0 l):=Ev h2 h0 c i j n l;have hs:Sf C (.mk k i j n l):=.nd i j n h2 h0 hf hl Hv;refine .mk ?_ (fun p s' hp=>?_)
   ·refine Asp (t:=.mk k i j n l) (by rw[e];rfl) (by rw[e];rfl) (by rw[e];rfl) (by rw[e];rfl) (fun p hp=>?_) h;obtain⟨_,_,Ag,hb⟩:=Rr hs hp;have:=Qh hs h2 (lfv 1) c Ag;unfold lf1;rw[this];exact l8 (Ho hs Ag) _
   ·rw[e] at hp;simp only[Tm.kids] at hp;rw[Fm,q_jg] at hp;cases hq:l[p]? with
    |none=>rw[hq] at hp;cases hp
    |some x=>
     rw[hq,q_jh,q_b] at hp;subst hp;exact ih p x hq (Hv p x hq) _
def Al7{u:Tm}(hs:Sf C u):Sf (C+1) (apT u):=by
 refine .nd 0 0 0 (by decide) (by decide) (by unfold fit;decide) (by rw[kids15];rfl) (fun p t hp=>?_);have b0:bnd 15 0=0:=by decide
 have b1:bnd 15 1=0:=by decide
 match p,hp with
 |0,hp=>cases hp;rw[b0];exact Afy hs 1
 |1,hp=>cases hp;rw[b1];exact .var (by omega)
def Bf6{u:Tm}{k:Int}(hk:k=18\/k=19)(hs:Sf C u):Sf C (ptT k u):=by
 have hb:bnd k 0=0:=by rcases hk with rfl|rfl<;>decide
 refine .nd 0 0 0 (by omega) (by omega) (by unfold fit;decide) (by rcases hk with rfl|rfl<;>(first|rw[kids18]|rw[kids19])<;>rfl) (fun q t hp=>?_)
 match q,hp with
 |0,hp=>cases hp;rw[hb];exact hs
def Bc9(hB:Bz B){u s:Tm}(hs:Sf C u)(hn:HN (Bm B) u)(h14:u.k≠14)(h:Nf B u s):Nf B (apT u) (apT s):=by
 obtain⟨hk,_⟩:=Uo hB hs hn h;have hss:=h.sf hB hs;refine⟨Yq hB (k:=15) (by decide) [Ct 1 s,vT 0] [] [Ct 1 u,vT 0] (Al7 hs) rfl (fun p a b ha hb=>?_),.mk ?_ (fun p x hx=>?_)⟩
 ·match p,ha,hb with
  |0,ha,hb=>cases ha;cases hb;exact Bfz hB h.1 hs
  |1,ha,hb=>cases ha;cases hb;exact .refl _
 ·rw[Nw rfl,if_neg];show ¬(Ct 1 s).k=14;rw[show Ct 1 s=lf1 0 s from rfl,l8 hss,hk];exact h14
 ·match p,hx with
  |0,hx=>cases hx;exact Bdf h.2 hss 0
  |1,hx=>cases hx;exact .mk (Gz (by unfold vT;simp[Tm.k])) (fun p s h=>by cases h)
def Bda(hB:Bz B){u s:Tm}{k:Int}(Hv:k=18\/k=19)(hs:Sf C u)(hn:HN (Bm B) u)(h17:u.k≠17)(h:Nf B u s):Nf B (ptT k u) (ptT k s):=by
 obtain⟨hk,_⟩:=Uo hB hs hn h;refine⟨Yq hB (k:=k) (by omega) [s] [] [u] (Bf6 Hv hs) rfl (fun p a b ha hb=>?_),.mk ?_ (fun p x hx=>?_)⟩
 ·match p,ha,hb with
  |0,ha,hb=>cases ha;cases hb;exact h.1
 ·have:¬(Ap (ptT k s) 0).k=17:=by
   show ¬s.k=17;rw[hk];exact h17
  rcases Hv with rfl|rfl
  ·rw[Qf rfl,if_neg this]
  ·rw[Qg rfl,if_neg this]
 ·match p,hx with
  |0,hx=>cases hx;exact h.2
def Acf{r s:Tm}(hr:Sf C r)(hs:Sf C s)(h:r.k=14\/s.k=14):Alk r s=Alk (ap0 r) (ap0 s):=by
 have h1:=Qp hr;have h2:=Qp hs;have p1:=Pc r;rw[<-Ru (f:=wz r+wz s) hr hs (q_ja _),<-Ru (f:=wz r+wz s-1) (My hr) (My hs) (by omega),Acs hr hs (by omega),show wz r+wz s-1+1=wz r+wz s by omega]
def Agh{r s:Tm}(hr:Sf C r)(hs:Sf C s)(h1:¬(r.k=14\/s.k=14))(h:r.k=17\/s.k=17):Alk r s=(Alk (pt0 18 2 r) (pt0 18 2 s) && Alk (pt0 19 3 r) (pt0 19 3 s)):=by
 have a1:=Hf 18 (.inl rfl) 2 r;have a2:=Hf 18 (.inl rfl) 2 s;have a3:=Hf 19 (.inr rfl) 3 r;have a4:=Hf 19 (.inr rfl) 3 s;have p1:=Pc r;rw[<-Ru (f:=wz r+wz s-1+1) hr hs (by omega),Akb h1 h,Ru (Gf hr 18 2 (.inl ⟨rfl,rfl⟩)) (Gf hs 18 2 (.inl ⟨rfl,rfl⟩)) (by omega),Ru (Gf hr 19 3 (.inr ⟨rfl,rfl⟩)) (Gf hs 19 3 (.inr ⟨rfl,rfl⟩)) (by omega)]
def Ji:List Tm->List Tm->Bool
 |[],[]=>true
 |a::l,b::m=>Alk a b && Ji l m
 |_,_=>false
def Avt{f:Nat}:∀{l m:List Tm},(∀(p:Nat) a b,l[p]?=some a->m[p]?=some b->alk f a b=Alk a b)->Hh f l m=Ji l m:=by
 intro l
 induction l with
 |nil=>intro m _;cases m with
  |nil=>rw[Xh];rfl
  |cons b m=>rw[Vg];rfl
 |cons a l ih=>intro m h;cases m with
  |nil=>rw[Ti];rfl
  |cons b m=>rw[Qo,h 0 a b rfl rfl,ih (fun p a b h1 h2=>h (p+1) a b (by simpa using h1) (by simpa using h2))];rfl
def Xb{r s:Tm}(hr:Sf C r)(hs:Sf C s)(h1:¬(r.k=14\/s.k=14))(h2:¬(r.k=17\/s.k=17)):Alk r s=(decide (r.k=s.k/\r.i=s.i/\r.j=s.j/\r.n=s.n) && Ji r.kids s.kids):=by
 have p1:=Pc r;rw[<-Ru (f:=wz r+wz s-1+1) hr hs (by omega),Ko,if_neg h1,if_neg h2]
 by_cases c:r.k=s.k/\r.i=s.i/\r.j=s.j/\r.n=s.n
 ·rw[Avt (fun p a b ha hb=>?_)];have e1:=Pa ha;have e2:=Pa hb;have d1:=Qa (a:=r);have d2:=Qa (a:=s);have sb:=Ss hs p b hb;rw[<-c.1] at sb;exact Ru (Ss hr p a ha) sb (by omega)
 ·simp[c]
def Ap2{t:Tm}:∀{C:Nat},Sf C t->HN (Bm B) t\/∃u,HS (Bm B) t u:=by
 induction t using Tm.ind with
 |h k i j n l ih=>
  intro C hs;cases hp:Bm B (.mk k i j n l) with
  |some u=>exact .inr ⟨u,.here hp⟩
  |none=>
   cases hk:stk k with
   |none=>exact .inl (.mk hp (fun p h=>by rw[show (Tm.mk k i j n l).k=k from rfl,hk] at h;cases h))
   |some p=>
    obtain⟨_,_,Ag,hb⟩:=Rr hs hk;rcases ih _ (q_jb (Adf (t:=.mk k i j n l) Ag)) (Ho hs Ag) with h|⟨u,h⟩
    ·exact .inl (.mk hp (fun q hq=>by rw[show (Tm.mk k i j n l).k=k from rfl,hk,q_b] at hq;subst hq;exact h))
    ·exact .inr ⟨_,.down hp hk h⟩
def Aed(hB:Bz B){d n:Nat}{T Y:Tm}(h:HR (plD B) n T Y):∀{t:Tm},T=lv d t->Sf C t->∃t',Y=lv d t'/\Sf C t'/\Prs B t t':=by
 induction h with
 |refl T=>intro t e hs;exact⟨t,e,hs,.refl t⟩
 |@step n T W Y h1 hr ih=>
  intro t e hs;subst e;rcases Ap2 (B:=B) hs with hn|⟨u,hu⟩
  ·exact absurd h1 (Yg (Ap1 hB hn hs))
  ·have:=Aeh h1 (Aiz (d:=d) hB hu hs);obtain⟨t',e1,e2,e3⟩:=ih this (Ab3 hB hu hs);exact⟨t',e1,e2,.step (Aqd hu hs) e3⟩
def Ye(hB:Bz B){d:Nat}{t:Tm}(hs:Sf C t)(h:HN (plD B) (lv d t)):HN (Bm B) t:=by
 rcases Ap2 (B:=B) hs with hn|⟨u,hu⟩
 ·exact hn
 ·exact absurd (Aiz (d:=d) hB hu hs) (Yg h)
end
section
variable{k i j n:Int}{l:List Tm}(p:Int)(ps:List Int)(hl:0<l.length)(hl2:l.length<=1000)
include hl hl2
end
open Go Go.Proofs Go.Proofs.YtgdkddjdhijfnaaGreatDoor
def af14:AF:=⟨10,[(.cell 4 true 5)],(Ab [oP 4 Cb] (Ab [Aa 5 0,oP 6 (.bslice 5 []),Aa 7 1,oP 8 (.app 5 56 (.t 6) (.t 7)),oP 9 (Da [(0,(1,(.t 5))),(4,(1,(.t 8)))]),oN (Al 5 4 9)] .ret))⟩
def tr14:trF Tryz.prog Tryz.f14=some af14:=by kernel_rfl
attribute [go_sem] af14
def af15:AF:=⟨5,[(.cell 2 true 5)],(Ab [oP 2 Cb] (Ab [Aa 3 0,oP 4 (Da [(0,(1,(cI 2))),(1,(1,(.t 3)))]),oN (Al 5 2 4)] .ret))⟩
def tr15:trF Tryz.prog Tryz.f15=some af15:=by kernel_rfl
attribute [go_sem] af15
def af77:AF:=⟨60,[(.t 4)],(Ab [oP 2 (.box (.t 0)),oP 3 (.box (.t 1)),oP 4 (.mv (cB false))] (.seq (Ab [oP 6 (Ac 0 2),oP 7 (Ad 6),oP 8 (Ac 0 3),oP 9 (Ad 8),oP 10 (Bb .neq 7 9),Aa 11 10,oG 12 11 false 0 (Ac 1 2),oG 13 11 false 0 (Ad 12),oG 14 11 false 0 (Ac 1 3),oG 15 11 false 0 (Ad 14),oG 16 11 false 0 (Bb .neq 13 15),oP 17 (Bf 11 16),Aa 18 17,oG 19 18 false 0 (Ac 2 2),oG 20 18 false 0 (Ad 19),oG 21 18 false 0 (Ac 2 3),oG 22 18 false 0 (Ad 21),oG 23 18 false 0 (Bb .neq 20 22),oP 24 (Bf 18 23),Aa 25 24,oG 26 25 false 0 (Ac 3 2),oG 27 25 false 0 (Ad 26),oG 28 25 false 0 (Ac 3 3),oG 29 25 false 0 (Ad 28),oG 30 25 false 0 (Bb .neq 27 29),oP 31 (Bf 25 30),Aa 32 31,oG 33 32 false 0 (Ac 4 2),oG 34 32 false 0 (Ad 33),oG 35 32 false 0 (.len false (.t 34)),oG 36 32 false 0 (Ac 4 3),oG 37 32 false 0 (Ad 36),oG 38 32 false 0 (.len false (.t 37)),oG 39 32 false 0 (Bb .neq 35 38),oP 40 (Bf 32 39)] (Ae 40 (Ab [oP 4 (.mv (cB false))] .ret) .skip)) (.seq (Ab [oP 41 (Ac 4 2),oP 42 (Ad 41),oP 43 (.len false (.t 42)),oP 44 (.mv (cI 0))] (.blk 0 (.loop (Ab [oP 45 (Bb .lss 44 43)] (.seq (Cu 45 0) (.seq (.blk 1 (Ab [Aa 46 44,Aa 5 46] (Ce [oP 47 (Ac 4 2),oI 48 1 (Ad 47),oI 49 2 (mT 5),oI 50 3 (.iad 5 (.t 48) (.t 49)),oI 51 4 (Ak 5 50),oI 52 5 (Ac 4 3),oI 53 6 (Ad 52),oI 54 7 (mT 5),oI 55 8 (.iad 5 (.t 53) (.t 54)),oI 56 9 (Ak 5 55),oI 57 10 (.call 77 [(.t 51),(.t 56)]),oI 58 11 (.un .not (.t 57))] (Ae 58 (Ab [oP 4 (.mv (cB false))] .ret) .skip)))) (Ar [oP 59 (An .add 44 1),Aa 44 59]))))))) (Ab [oP 4 (.mv (cB true))] .ret))))⟩
def tr77:trF Tryz.prog Tryz.f77=some af77:=by kernel_rfl
attribute [go_sem] af77
def Ww{k i j n:Int}{l:List Tm}(h:TOk (.mk k i j n l)):fit k/\fit i/\fit j/\fit n/\l.length*56<=140737488355328/\∀t∈l,TOk t:=by
 cases h with
 |mk _ _ _ _ _ f1 f2 f3 f4 hb hl=>exact⟨f1,f2,f3,f4,hb,hl⟩
open Classical in
noncomputable def eqT (a b:Tm):Bool:=decide (a=b)
def Ac7(a:Tm):eqT a a=true:=by unfold eqT;simp
def Ac6{a b:Tm}(h:a≠b):eqT a b=false:=by unfold eqT;simp[h]
def eqT_iff{a b:Tm}:eqT a b=true↔a=b:=by unfold eqT;simp
def Ay9(k i j n k' i' j' n':Int)(rows rows':GV)(E:Nat->Bool)(h5:∀r∈rows,r.length=5)(Gj:∀r∈rows',r.length=5)(h2:rows.length*56<=140737488355328)
  (H:∀x,x<rows.length->x<rows'.length->Con 77 [.agg true (rows[x]?.getD []),.agg true (rows'[x]?.getD [])] (.bool (E x))) (r0:Bool)
  (hn:¬(k=k'/\i=i'/\j=j'/\n=n'/\rows.length=rows'.length)->r0=false)
  (hf:k=k'->i=i'->j=j'->n=n'->rows.length=rows'.length->∀x,x<rows.length->E x=false->r0=false)
  (ht:k=k'->i=i'->j=j'->n=n'->rows.length=rows'.length->(∀x,x<rows.length->E x=true)->r0=true) :
  Con 77 [.agg true [.int .i64 k,.int .i64 i,.int .i64 j,.int .i64 n,.dsl 5 rows],.agg true [.int .i64 k',.int .i64 i',.int .i64 j',.int .i64 n',.dsl 5 rows']] (.bool r0):=by
 refine Au mixed Tryz.func77 tr77 ?_
 by_cases a1:k=k'
 rotate_left
 ·have q:(k != k')=true:=by simp[a1]
  rw[hn (fun h=>a1 h.1)];simp only[go_sem,seval,q]
 have q1:(k != k')=false:=by simp[a1]
 by_cases a2:i=i'
 rotate_left
 ·have q:(i != i')=true:=by simp[a2]
  rw[hn (fun h=>a2 h.2.1)];simp only[go_sem,seval,q1,q]
 have q2:(i != i')=false:=by simp[a2]
 by_cases a3:j=j'
 rotate_left
 ·have q:(j != j')=true:=by simp[a3]
  rw[hn (fun h=>a3 h.2.2.1)];simp only[go_sem,seval,q1,q2,q]
 have q3:(j != j')=false:=by simp[a3]
 by_cases a4:n=n'
 rotate_left
 ·have q:(n != n')=true:=by simp[a4]
  rw[hn (fun h=>a4 h.2.2.2.1)];simp only[go_sem,seval,q1,q2,q3,q]
 have q4:(n != n')=false:=by simp[a4]
 by_cases a5:rows.length=rows'.length
 rotate_left
 ·have q:((rows.length:Int) != (rows'.length:Int))=true:=by simp;omega
  rw[hn (fun h=>a5 h.2.2.2.2)];simp only[go_sem,seval,q1,q2,q3,q4,q]
  try intros
 have q5:((rows.length:Int) != (rows'.length:Int))=false:=by simp;omega
 simp only[go_sem,seval,q1,q2,q3,q4,q5];intros;refine Rt (fun x=>⟨(.J::.J::.ref 0 0 0 0::.ref 1 0 0 0::.bool false::Bo (jk4 (jk2 (.int .i64 rows.length::.int .i64 x::jk8 (jk4 (jk2 (.J::[]))))))),[⟨true,5,[[.int .i64 k,.int .i64 i,.int .i64 j,.int .i64 n,.dsl 5 rows]],0,0,true⟩,⟨true,5,[[.int .i64 k',.int .i64 i',.int .i64 j',.int .i64 n',.dsl 5 rows']],0,0,true⟩]⟩) rows.length (fun x=>E x=true) (fun x hx hp=>?_) ?_
 ·simp only[go_sem,seval];refine⟨fun h=>?_,fun h=>?_⟩
  ·have Ag:=q_kx h;have Cr:x<rows.length:=by omega
   have Wb:x<rows'.length:=by omega
   have Aaz:(x:Int)<(rows'.length:Int):=by omega
   have e0:(0:Int)<=(x:Int):=by omega
   have g1:=h5 _ (Hi (d:=[]) Cr);have g2:=Gj _ (Hi (d:=[]) Wb);simp only[go_sem,seval,Ag,Aaz,e0,g1,g2];refine Af (H x Cr Wb) ?_;cases hE:E x<;>simp only[go_sem,seval]
   ·rw[hf a1 a2 a3 a4 a5 x Cr hE]
   ·refine⟨Cr,?_⟩;rw[w64 (n:=(x:Int)+1) (by unfold fit;omega)];exact Bk (by simp[Ba])
  ·have Fy:=q_ky h;have Ml:x=rows.length:=by omega
   simp only[go_sem,seval,h];rw[ht a1 a2 a3 a4 a5 (fun y hy=>hp y (by omega))]
 ·exact Bk (by simp[Ba])
def Ay8(a:Tm):TOk a->∀b,TOk b->Con 77 [.agg true (tv a),.agg true (tv b)] (.bool (eqT a b)):=by
 induction a using Tm.ind with
 |h k i j n l ih=>
  intro hok b hb;cases b with
  |mk k' i' j' n' l'=>
  obtain⟨_,_,_,_,hbl,hl⟩:=Ww hok;obtain⟨_,_,_,_,hbl',Kd⟩:=Ww hb;have e1:(l.map tv).length=l.length:=by simp
  have e2:(l'.map tv).length=l'.length:=by simp
  rw[As,As];refine Ay9 k i j n k' i' j' n' (l.map tv) (l'.map tv) (fun x=>eqT (l[x]?.getD default) (l'[x]?.getD default)) (rows5 l) (rows5 l') (by omega) (fun x hx Bu=>?_) _ (fun h=>Ac6 (fun h'=>h ?_)) (fun a1 a2 a3 a4 a5 x hx hE=>Ac6 (fun h'=>?_)) (fun a1 a2 a3 a4 a5 hE=>?_)
  ·rw[e1] at hx;rw[e2] at Bu;rw[q_ji,q_ji,q_f hx,q_f Bu];exact ih _ (q_kd hx) (hl _ (q_kd hx)) _ (Kd _ (q_kd Bu))
  ·cases h';exact⟨rfl,rfl,rfl,rfl,rfl⟩
  ·cases h';rw[Ac7] at hE;cases hE
  ·subst a1 a2 a3 a4;rw[e1,e2] at a5;rw[e1] at hE;have:l=l':=List.ext_getElem a5 (fun x hx Bu=>by
    have:=eqT_iff.1 (hE x hx);rw[q_f hx,q_f Bu] at this;exact this)
   rw[this];exact Ac7 _
def pm(F:Nat->Int):Nat->Int
 |0=>0
 |x+1=>max (pm F x) (F x)
def Bfm(F:Nat->Int):∀x,0<=pm F x:=by
 intro x
 induction x with
 |zero=>exact Int.le_refl _
 |succ x ih=>rw[pm];omega
def Ass{F G:Nat->Int}:∀{x:Nat},(∀y,y<x->F y=G y)->pm F x=pm G x:=by
 intro x
 induction x with
 |zero=>intro _;rfl
 |succ x ih=>intro h;rw[pm,pm,ih (fun y hy=>h y (by omega)),h x (by omega)]
def Ast{F:Nat->Int}{b:Int}(hb:0<=b):∀{x:Nat},(∀y,y<x->F y<=b)->pm F x<=b:=by
 intro x
 induction x with
 |zero=>intro _;exact hb
 |succ x ih=>intro h;rw[pm];have:=ih (fun y hy=>h y (by omega));have:=h x (by omega);omega
def Bfp(F:Nat->Int):∀x,pm F (x+1)=max (F 0) (pm (fun y=>F (y+1)) x):=by
 intro x
 induction x with
 |zero=>simp only[pm];omega
 |succ x ih=>rw[pm,ih,pm];omega
mutual
def Ie:Tm->Int
 |.mk k i _ _ l=>if k=2 then i+1 else Aaa k 0 l
def Aaa(k:Int):Nat->List Tm->Int
 |_,[]=>0
 |p,t::l=>max (Ie t-Cf k p) (Aaa k (p+1) l)
end
def A8c(k:Int):∀(l:List Tm) (p:Nat),Aaa k p l=pm (fun y=>Ie (l[y]?.getD default)-Cf k ((p+y:Nat):Int)) l.length:=by
 intro l
 induction l with
 |nil=>intro p;rw[Aaa];rfl
 |cons t l ih=>
  intro p;rw[Aaa,ih,q_jk,Bfp];simp only[q_jv,q_kf,q_jz,q_jp];congr 1;refine Ass (fun y _=>?_);rw[show p+1+y=p+(y+1) by omega]
def Add{k i j n:Int}{l:List Tm}(h:k≠2):Ie (.mk k i j n l)=pm (fun y=>Ie (l[y]?.getD default)-Cf k ((y:Nat):Int)) l.length:=by
 rw[Ie,if_neg h,A8c];exact Ass (fun y _=>by rw[q_jg])
def A8d(t:Tm):∀w,Gg t w=true->0<=Ie t/\Ie t<=2147483648:=by
 induction t using Tm.ind with
 |h k i j n l ih=>
  intro w hr
  by_cases h:k=2
  ·have:=Afs hr h;rw[Ie,if_pos h];omega
  ·rw[Add h];refine⟨Bfm _ _,Ast (by omega) (fun y hy=>?_)⟩;obtain⟨w',hw⟩:=o7 hr (Hi (d:=default) hy);have:=ih _ (Hi (d:=default) hy) w' hw;have:=Qq k y;omega
def Bfk{V:Nat->Int}{x:Nat}:(if pm V x<V x then V x else pm V x)=pm V (x+1):=by
 rw[pm];split<;>omega
def A0t(k i j n:Int)(rows:GV)(V:Nat->Int)(h2:rows.length*56<=140737488355328)(h5:∀r∈rows,r.length=5)(hk:k≠2)(hV:∀x,x<rows.length->0<=V x/\V x<=2147483648)
  (H:∀x,x<rows.length->Con 46 [.agg true (rows[x]?.getD [])] (.int .i64 (V x))) :
  Con 46 [.agg true [.int .i64 k,.int .i64 i,.int .i64 j,.int .i64 n,.dsl 5 rows]] (.int .i64 (pm (fun x=>V x-Cf k (x:Nat)) rows.length)):=by
 refine Au mixed Tryz.func46 tr46 ?_;have q:(k==2)=false:=Ao hk;simp only[go_sem,seval,q];obtain⟨W,hW⟩:∃W,(fun x:Nat=>V x-Cf k (x:Nat))=W:=⟨_,rfl⟩
 rw[hW];refine Ln (fun x=>⟨(.J::.ref 0 0 0 0::.int .i64 0::.int .i64 (pm W x)::.int .i64 x::Do (jk8 (jk2 (.J::[])))),[⟨true,5,[[.int .i64 k,.int .i64 i,.int .i64 j,.int .i64 n,.dsl 5 rows]],0,0,true⟩]⟩) rows.length (fun x hx=>?_) ?_
 ·simp only[go_sem,seval];intros;refine⟨fun h=>?_,fun h=>?_⟩
  ·have Ag:=q_kx h;have Cr:x<rows.length:=by omega
   have e0:(0:Int)<=(x:Int):=by omega
   have hm:=Hi (d:=[]) Cr;have Gj:=h5 _ hm;have hb:=Qq k x;have hv:=hV x Cr;have ew:IntKind.i64.wrap (V x-Cf k x)=W x:=by rw[<-hW];exact w64 (by unfold fit;omega)
   repeat' first
   |simp only[go_sem,seval,Ag,e0,Gj,ew,Bfk]
   |refine Af (H x Cr) ?_
   |refine Af (Dm k x) ?_
   refine⟨Cr,?_⟩;rw[w64 (n:=(x:Int)+1) (by unfold fit;omega)];exact Bk (by simp[Ba])
  ·have Fy:=q_ky h;have Ml:x=rows.length:=by omega
   subst Ml;simp only[go_sem,seval,h]
 ·exact Bk (by simp[Ba,pm])
def Anl(t:Tm):TOk t->∀(w:Int),Gg t w=true->Con 46 [.agg true (tv t)] (.int .i64 (Ie t)):=by
 induction t using Tm.ind with
 |h k i j n l ih=>
  intro hok w hr;obtain⟨f1,f2,f3,f4,hb,hl⟩:=Ww hok
  by_cases hk:k=2
  ·obtain⟨i1,i2⟩:=Afs hr hk;have q:(k==2)=true:=by simp[hk]
   have e1:IntKind.i64.wrap (i+1)=i+1:=w64 (by unfold fit;omega);rw[Ie,if_pos hk];refine Au mixed Tryz.func46 tr46 ?_;rw[As];simp only[go_sem,seval,q,e1]
  ·have Av:(l.map tv).length=l.length:=by simp
   have h:=A0t k i j n (l.map tv) (fun x=>Ie (l[x]?.getD default)) (by omega) (rows5 l) hk (fun x hx=>by
    rw[Av] at hx;obtain⟨w',hw⟩:=o7 hr (Hi (d:=default) hx);exact A8d _ w' hw) (fun x hx=>by
    rw[Av] at hx;rw[q_ji,q_f hx];have hm:=q_kd hx;obtain⟨w',hw⟩:=o7 hr hm;exact ih _ hm (hl _ hm) w' hw)
   rw[Av,<-As,<-Add hk] at h;exact h
def A0s(t:Tm)(ht:TOk t)(hp:Cg t=true):Con 29 [.agg true (tv t)] (.int .i64 (Ie t)):=by
 have h1:=w9 t ht hp;have h2:=Anl t ht 2 hp;refine Au mixed Tryz.func29 tr29 ?_
 repeat' first
 |simp only[go_sem,seval]
 |refine Af h1 ?_
 |refine Af h2 ?_
open Go Go.RowKit Go.Proofs.YtgdkddjdhijfnaaGreatDoor
def A0p(kk i j n d:Int)(b:Bool)(Lr:GV)(rows:GV)(X:Nat->List SV->Option (List SV))(h2:rows.length*56<=140737488355328)(h5:∀r∈rows,r.length=5)
  (hv:¬kk=2) (hd:0<=d) (Ft:d<=1000000000000) (hX:∀p:Nat,∀r∈rows,∀u,X p r=some u->u.length=5)
  (H:∀(p:Nat) r,rows[p]?=some r->∀b',Con 94 [.agg true r,.dsl 5 Lr,.int .i64 (d+Cf kk p),.bool b'] (Er (X p r))) :
  Con 94 [.agg true [.int .i64 kk,.int .i64 i,.int .i64 j,.int .i64 n,.dsl 5 rows],.dsl 5 Lr,.int .i64 d,.bool b] (Er ((Co X 0 rows).map fun rs=>[.int .i64 kk,.int .i64 i,.int .i64 j,.int .i64 n,.dsl 5 rs])):=by
 have Mm:((List.range rows.length).map fun p=>(X p (rows[p]?.getD [])).getD []).length=rows.length:=by simp
 have Uk:∀x,x<rows.length->((List.range rows.length).map fun p=>(X p (rows[p]?.getD [])).getD [])[x]?.getD []=(X x (rows[x]?.getD [])).getD []:=fun x hx=>by
  rw[q_ji,q_kk hx];rfl
 have Vw:(∀x,x<rows.length->X x (rows[x]?.getD [])≠none)->Co X 0 rows=some ((List.range rows.length).map fun p=>(X p (rows[p]?.getD [])).getD []):=fun h=>by
  rw[Acp (d:=[]) (e:=[]) (fun x hx=>by rw[q_jg];exact h x hx)];simp only[q_jg]
 generalize ((List.range rows.length).map fun p=>(X p (rows[p]?.getD [])).getD [])=ys at *
 have q1:(kk==2)=false:=by simp[hv]
 have core:∀r0,(Co X 0 rows=none->r0=.tup [.agg true [.int .i64 0,.int .i64 0,.int .i64 0,.int .i64 0,.nils],.bool false]) ->
   (∀us,Co X 0 rows=some us->r0=.tup [.agg true [.int .i64 kk,.int .i64 i,.int .i64 j,.int .i64 n,.dsl 5 us],.bool true]) ->
   Con 94 [.agg true [.int .i64 kk,.int .i64 i,.int .i64 j,.int .i64 n,.dsl 5 rows],.dsl 5 Lr,.int .i64 d,.bool b] r0:=by
  intro r0 hn hs;refine Au mixed Tryz.func94 tr94 ?_;simp only[go_sem,seval,q1];clear q1;intros;refine Rt (fun x=>⟨(.J::.dsl 5 Lr::.int .i64 d::.bool b::.ref 0 0 0 0::.J::.J::.J::.ref 1 0 0 0::.J::.ref 2 0 0 0::.osl 3 x 0 x::.int .i64 x::Bo (Bo (jk4 (jk2 (.J::[]))))),[⟨true,5,[[.int .i64 kk,.int .i64 i,.int .i64 j,.int .i64 n,.dsl 5 rows]],0,0,true⟩,⟨true,5,[[.int .i64 0,.int .i64 0,.int .i64 0,.int .i64 0,.nils]],0,0,true⟩,⟨true,5,[[.int .i64 kk,.int .i64 i,.int .i64 j,.int .i64 n,.nils]],0,0,true⟩,⟨false,5,ys.take x,x-1,x,true⟩]⟩) rows.length (fun x=>X x (rows[x]?.getD [])≠none) (fun x hx hp=>?_) ?_
  ·simp only[go_sem,seval];intros;refine⟨fun h=>?_,fun h=>?_⟩
   ·have Ag:=q_kx h;have Cr:x<rows.length:=by omega
    have e0:(0:Int)<=(x:Int):=by omega
    have hm:=Hi (d:=[]) Cr;have Gj:=h5 _ hm;have hb:=Qq kk x;have ew:IntKind.i64.wrap (d+Cf kk x)=d+Cf kk x:=w64 (by unfold fit;omega);have hc:=H x (rows[x]?.getD []) (by rw[q_f Cr];rfl);obtain⟨z,hz⟩:=Ani kk i j n x rows;have e1:(ys.take x).length=x:=by simp;omega
    have e2:(x+1)*56<=140737488355328:=by omega
    have e3:x+1<=140737488355328:=by omega
    cases b
    all_goals
     repeat' first
     |simp only[go_sem,seval,Ag,e0,Gj,ew]
     |refine Af (Dm kk x) ?_
     |refine Af hz ?_
     first|refine Af (hc z) ?_|refine Af (hc true) ?_
     cases Ma:X x (rows[x]?.getD []) with
     |none=>
      simp only[go_sem,seval,Er];exact hn (Aco (d:=[]) (i:=x) Cr (by rw[q_jg];exact Ma))
     |some u=>
      have hu:=hX x _ hm u Ma;have hy:=Uk x Cr;rw[Ma,q_jz] at hy;have tn:=Akw (l:=ys) (d:=[]) (i:=x) (by omega);rw[hy] at tn;simp only[go_sem,seval,Er,hu,Cr,e1,e2,e3,tn];rw[w64 (n:=(x:Int)+1) (by unfold fit;omega)];exact Fp 4 (by simp[Ba]) (by simp) (by simp[Cx]) (by simp)
   ·have Fy:=q_ky h;have Ml:x=rows.length:=by omega
    have he:=Vw (fun y hy=>hp y (by omega));subst Ml;have ht:ys.take rows.length=ys:=by rw[<-Mm,q_km]
    simp only[go_sem,seval,h,Mm,ht];exact hs _ he
  ·exact .trans (.ghost _ 11 5 rfl) (Bk (by simp[Ba]))
 cases hA:Co X 0 rows with
 |none=>
  refine (core _ (fun _=>rfl) (fun us h=>?_)).weaken l7;rw[hA] at h;cases h
 |some us=>
  refine core _ (fun h=>?_) (fun us' h=>?_)
  ·rw[hA] at h;cases h
  ·rw[hA] at h;cases h;rfl
def Akz{i:Nat}(h:i<=2147483647):TOk (vT i):=.mk _ _ _ _ _ (by unfold fit;omega) (by unfold fit;omega) (by unfold fit;omega) (by unfold fit;omega) (by simp) (fun t ht=>by cases ht)
structure Ack(C m:Nat)(u:Tm):Prop where
 tok:TOk u
 pl:Cg u=true
 hg:(2:Int)*La u<=1000000000000
 sf:Sf C u
 bd:C+dpt u+m<=2147483647
def A0q{C m:Nat}{l:List Tm}(hl:∀u∈l,Ack C m u)(i d:Nat)(b:Bool)(hi:i<d+l.length)(hd:d<=m)(hm:m<=1000000)(Ck:l.length<=1000) :
  Con 94 [.agg true (tv (vT i)),.dsl 5 (l.map tv),.int .i64 d,.bool b] (.tup [.agg true (tv (alv l d i)),.bool true]):=by
 unfold alv
 by_cases h:i<d
 ·rw[if_pos h];have hle:=Ajk 2 i 0 0;have e:tv (vT i)=[.int .i64 2,.int .i64 i,.int .i64 0,.int .i64 0,.dsl 5 []]:=by simp[vT,As]
  rw[e];refine (Au mixed Tryz.func94 tr94 ?_).weaken hle;simp only[go_sem,seval,q_je (show ¬(i:Int) >= d by omega)];intros;refine Cv 1 (Bd ?_);simp only[go_sem,seval]
 ·rw[if_neg h];have Ag:i-d<l.length:=by omega
  have hx:l.getD (i-d) (vT 0)=l[i-d]:=by rw[q_j,q_f Ag];rfl
  rw[hx];have hu:=hl _ (q_kd Ag);have hc:=Ank l[i-d] hu.tok hu.pl d (by omega) b hu.hg;have Sd:=hu.bd;rw[show Gc (d:Int) 0 l[i-d]=some (Ct d l[i-d]) from Aew (fr:=0) hu.sf (by omega),q_jh] at hc;have Du:=Ch l[i-d];have ew:IntKind.i64.wrap ((i:Int)-d)=((i-d:Nat):Int):=by rw[w64 (by unfold fit;omega)];omega
  have hg:(l.map tv)[i-d]?.getD []=tv l[i-d]:=by rw[q_ji,q_f Ag];rfl
  have e0:(0:Int)<=((i-d:Nat):Int):=by omega
  have e1:((i-d:Nat):Int)<(l.length:Int):=by omega
  refine Au mixed Tryz.func94 tr94 ?_;rw[show tv (vT i)=[.int .i64 2,.int .i64 i,.int .i64 0,.int .i64 0,.dsl 5 []] by simp[vT,As]];simp only[go_sem,seval,q_jn (show (i:Int) >= d by omega),ew,hg,e0,e1,Ag,q_g,Du];refine Af hc ?_;simp only[go_sem,seval,Er]
def A0o{C m:Nat}{l:List Tm}(hl:∀u∈l,Ack C m u)(hm:m<=1000000)(Ck:l.length<=1000)(t:Tm):TOk t->∀(w:Int) (d:Nat) (b:Bool),Gg t w=true->Sf (d+l.length) t->d+dpt t<=m ->
  Con 94 [.agg true (tv t),.dsl 5 (l.map tv),.int .i64 d,.bool b] (.tup [.agg true (tv (trT (alv l) (fun _ l=>fT l) d t)),.bool true]):=by
 induction t using Tm.ind with
 |h kk i j n kl ih=>
  intro hok w d b hr hs hd;obtain⟨f1,f2,f3,f4,hb,Gw⟩:=Ww hok
  by_cases hv:kk=2
  ·subst hv;obtain⟨q,rfl,rfl,rfl,rfl,hq⟩:=hs.vr;rw[Uz,q_kt];exact A0q hl q d b hq (by omega) hm Ck
  ·have hn:=hs.node hv;have h:=A0p kk i j n d b (l.map tv) (kl.map tv) (fun p r=>onT (fun t=>some (tv (trT (alv l) (fun _ l=>fT l) (d+bnd kk p) t))) none r) (by simpa using hb) (rows5 kl) hv (by omega) (by omega)
    (fun p r hr u hu=>by
     obtain⟨t,ht,rfl⟩:=q_lc.1 hr;simp only[Jg,q_b] at hu;subst hu;exact Ch _)
    (fun p r Fu b'=>by
     rw[q_ji] at Fu;cases hq:kl[p]? with
     |none=>rw[hq] at Fu;cases Fu
     |some t=>
      rw[hq,q_jh,q_b] at Fu;subst Fu;have ht:=q_jb hq;simp only[Jg];obtain⟨w',hw⟩:=o7 hr ht;have hk:=hs.kid hq;have hdp:=Lu (k:=kk) (i:=i) (j:=j) (n:=n) hq;rw[Zi,<-Int.natCast_add];exact ih t ht (Gw t ht) w' _ b' hw (by rwa [show d+bnd kk p+l.length=d+l.length+bnd kk p by omega]) (by omega))
   have e:Co (fun p r=>onT (fun t=>some (tv (trT (alv l) (fun _ l=>fT l) (d+bnd kk p) t))) none r) 0 (kl.map tv)=some ((trL (alv l) (fun _ l=>fT l) d kk 0 kl).map tv):=by
    rw[Agp,Ago (Y:=fun p t=>(some (trT (alv l) (fun _ l=>fT l) (d+bnd kk p) t)).map tv) (fun p t _=>by rw[Jg];rfl),Agq,Agr (v:=alv l) (f:=fun _ l=>fT l) (b:=d) (k:=kk) (fun q t _=>rfl)];rfl
   rw[e] at h;rw[As,Ev hv hn.1,As];exact h
def A0l{C m:Nat}{l:List Tm}(hl:∀u∈l,Ack C m u)(hm:m<=1000000)(Ck:l.length<=1000){t:Tm}(ht:TOk t)(hp:Cg t=true)(hs:Sf l.length t)(hd:dpt t<=m)(hf:Ie t<=l.length) :
  Con 70 [.agg true (tv t),.dsl 5 (l.map tv)] (.tup [.agg true (tv (Kp l t)),.bool true]):=by
 have h1:=w9 t ht hp;have h2:=Anl t ht 2 hp;have h3:=A0o hl hm Ck t ht 2 0 false hp (by rwa [q_jg]) (by omega);have h3':Con 94 [.agg true (tv t),.dsl 5 (l.map tv),.int .i64 0,.bool false] (.tup [.agg true (tv (Kp l t)),.bool true]):=h3;have Rh:∀x,(h:x<l.length)->(l.map tv)[x]?.getD []=tv l[x]:=fun x h=>by rw[q_ji,q_f h];rfl
 refine Au mixed Tryz.func70 tr70 ?_
 repeat' first
 |simp only[go_sem,seval,q_g,q_je (show ¬Ie t > (l.length:Int) by omega)]
 |refine Af h1 ?_
 |refine Af h2 ?_
 refine fun _=>?_
 refine Ln (fun x=>⟨(.J::.dsl 5 (l.map tv)::.ref 0 0 0 0::.J::.ref 1 0 0 0::.bool false::.int .i64 x::Bo (jk4 (.J::[]))),[⟨true,5,[tv t],0,0,true⟩,⟨true,5,[[.int .i64 0,.int .i64 0,.int .i64 0,.int .i64 0,.nils]],0,0,true⟩]⟩) l.length (fun x hx=>?_) ?_
 ·by_cases Ag:x<l.length
  ·have e0:(0:Int)<=(x:Int):=by omega
   have e1:(x:Int)<(l.length:Int):=by omega
   have hu:=hl _ (q_kd Ag);simp only[go_sem,seval,q_g,q_jn e1,e0,e1,Ag,Rh x Ag];refine fun _=>Af (Ano t l[x] ht hu.tok hp hu.pl) ?_
   simp only[go_sem,seval,w64 (show fit ((x:Int)+1) by unfold fit;omega)];refine⟨Ag,?_⟩;exact Bk (by simp[Ba])
  ·have:x=l.length:=by omega
   subst this;simp only[go_sem,seval,q_g,q_je (show ¬((l.length:Nat):Int)<l.length by omega)];refine fun _=>Af h3' ?_
   simp only[go_sem,seval]
 ·exact Bk (by simp[Ba])
def Ay3{C m:Nat}{l:List Tm}(hl:∀u∈l,Ack C m u)(hm:m<=1000000)(Ck:l.length<=1000){t:Tm}(ht:TOk t)(hp:Cg t=true)(hs:Sf l.length t)(hd:dpt t<=m)(hf:Ie t<=l.length) :
  Con 42 [.agg true (tv t),.dsl 5 (l.map tv)] (.agg true (tv (Kp l.reverse t))):=by
 have h:=A0l (l:=l.reverse) (fun u hu=>hl u (by simpa using hu)) hm (by simpa using Ck) ht hp (by simpa using hs) hd (by simpa using hf);refine Au mixed Tryz.func42 tr42 ?_;simp only[go_sem,seval,q_g];refine fun _=>?_
 have ew:IntKind.i64.wrap ((l.length:Int)-1)=(l.length:Int)-1-(0:Nat):=by rw[w64 (by unfold fit;omega)];omega
 rw[ew];refine Ln (fun x=>⟨(.J::.dsl 5 (l.map tv)::.ref 0 0 0 0::.J::.ref 1 0 0 0::.osl 2 x 0 x::.int .i64 ((l.length:Int)-1-x)::Do (jk4 (jk2 (.J::[])))),[⟨true,5,[tv t],0,0,true⟩,⟨true,5,[[.int .i64 0,.int .i64 0,.int .i64 0,.int .i64 0,.nils]],0,0,true⟩,⟨false,5,(l.reverse.map tv).take x,x-1,x,true⟩]⟩) l.length (fun x hx=>?_) ?_
 ·by_cases Ag:x<l.length
  ·have hq:l.length-1-x<l.length:=by omega
   have eI:(l.length:Int)-1-x=((l.length-1-x:Nat):Int):=by omega
   have e0:(0:Int)<=((l.length-1-x:Nat):Int):=by omega
   have e1:((l.length-1-x:Nat):Int)<(l.length:Int):=by omega
   have hg:(l.map tv)[l.length-1-x]?.getD []=tv l[l.length-1-x]:=by rw[q_ji,q_f hq];rfl
   have hzx:=Ch l[l.length-1-x];have e2:((l.reverse.map tv).take x).length=x:=by simp;omega
   have e3:(x+1)*56<=140737488355328:=by omega
   have e4:x+1<=140737488355328:=by omega
   have tn:(l.reverse.map tv).take (x+1)=(l.reverse.map tv).take x++[tv l[l.length-1-x]]:=by
    rw[List.take_succ_eq_append_getElem (by simpa using Ag)];simp
   rw[eI];simp only[go_sem,seval,q_jn (show ((l.length-1-x:Nat):Int) >= 0 by omega),e0,e1,hq,hg,hzx,q_g,e2,e3,e4,w64 (show fit (((l.length-1-x:Nat):Int)-1) by unfold fit;omega)];refine⟨Ag,?_⟩;rw[show ((l.length-1-x:Nat):Int)-1=(l.length:Int)-1-((x+1:Nat):Int) by omega,tn];exact Fp 3 (by simp[Ba]) (by simp) (by simp[Cx]) (by simp)
  ·have:x=l.length:=by omega
   subst this;have Hx:(l.reverse.map tv).take l.length=l.reverse.map tv:=q_js (by simp);simp only[go_sem,seval,q_je (show ¬(l.length:Int)-1-(l.length:Nat) >= 0 by omega),Hx,q_g,List.length_reverse];refine Af h ?_;simp only[go_sem,seval]
 ·exact .trans (.ghost _ 5 5 rfl) (Bk (by simp[Ba]))
def plain_mk{k i j n:Int}{l:List Tm}:Cg (.mk k i j n l)=true↔Iv k i j n 2 l.length=true/\∀t∈l,Cg t=true:=by
 rw[show Cg (.mk k i j n l)=Gg (.mk k i j n l) 2 from rfl,Aka,q_jl,List.all_eq_true]
def Us{i:Nat}(h:i<=2147483647):Cg (vT i)=true:=by
 have h0:(0:Int)<=i:=by omega
 have h1:(i:Int)<=2147483647:=by omega
 show Gg (.mk 2 i 0 0 []) 2=true;rw[Ys];unfold Iv;simp[Jh,Bv,tab,Or,h0,h1,Id]
def Bg0{k i j n w:Int}{len:Nat}(h:Iv k i j n w len=true):(len:Int)=Bv k n/\Or k i j n=true:=by
 unfold Iv at h;simp only[q_jl,Bool.not_eq_true',bne_eq_false_iff_eq] at h;exact h.2
def Aq7{k n:Int}(h:0<=Bv k n):1<=k/\k<=23:=by
 unfold Bv at h;split at h
 ·omega
 ·unfold tab at h;split at h
  ·rename_i c;simp only[q_jk,List.length_nil] at c;omega
  ·omega
def Bih:∀{l m:List Nat},l.length=m.length->(∀(q x y:Nat),l[q]?=some x->m[q]?=some y->x<=y)->l.sum<=m.sum:=by
 intro l
 induction l with
 |nil=>intro m hm _;simp
 |cons a l ih=>
  intro m hm h;cases m with
  |nil=>simp at hm
  |cons b m=>
   have:=ih (m:=m) (by simpa using hm) (fun q x y hx hy=>h (q+1) x y (by simpa using hx) (by simpa using hy));have h0:=h 0 a b rfl rfl;simp only[List.sum_cons];omega
def Bi9{B:Nat}{t:Tm}(h:Sf B t):Cg t=true->B+dpt t<=2147483647->TOk t:=by
 induction h with
 |@var B i h=>intro _ hb;exact Akz (by omega)
 |@nd B k i j n l h2 h0 hf hl hk ih=>
  intro hp hb;have hp':=plain_mk.1 hp;have Hv:=Bfa hp;have hle:=Py k n;refine .mk _ _ _ _ _ ?_ hf.1 hf.2.1 hf.2.2 (by omega) (fun t ht=>?_)
  ·have:=Aq7 (k:=k) (n:=n) (by omega);unfold fit;omega
  ·obtain⟨q,hq⟩:=q_jw ht;have:=Lu (k:=k) (i:=i) (j:=j) (n:=n) hq;exact ih q t hq (hp'.2 t ht) (by omega)
def Aj8{v:Nat->Nat->Tm}{f:Nat->Int->Tm}{B:Nat}{t:Tm}(h:Sf B t):∀{b D:Nat},Cg t=true->b+dpt t<=D->(∀b' i,b<=b'->b'<=D->i<B+(b'-b)->Cg (v b' i)=true)->Cg (trT v f b t)=true:=by
 induction h with
 |@var B i h=>intro b D _ hb hv;rw[Cz];exact hv b i (q_ja _) (by omega) (by omega)
 |@nd B k i j n l h2 h0 hf hl hk ih=>
  intro b D hp hb hv;have hp':=plain_mk.1 hp;rw[Ev h2 h0];refine plain_mk.2 ⟨by rw[Mu];exact hp'.1,fun t ht=>?_⟩;obtain⟨q,hq⟩:=q_jw ht;rw[Fm,q_jg] at hq;cases Eg:l[q]? with
  |none=>rw[Eg] at hq;cases hq
  |some u=>
   rw[Eg,q_jh,q_b] at hq;subst hq;have hd:=Lu (k:=k) (i:=i) (j:=j) (n:=n) Eg;exact ih q u Eg (D:=D) (hp'.2 u (q_jb Eg)) (by omega) (fun b' i h1 h2 h3=>hv b' i (by omega) h2 (by omega))
def Ak2{v:Nat->Nat->Tm}{f:Nat->Int->Tm}{B s:Nat}(hs:1<=s){t:Tm}(h:Sf B t):∀{b D:Nat},b+dpt t<=D->(∀b' i,b<=b'->b'<=D->i<B+(b'-b)->tsz (v b' i)<=s)->tsz (trT v f b t)<=tsz t*s:=by
 induction h with
 |@var B i h=>intro b D hb hv;rw[Cz];have:=hv b i (q_ja _) (by omega) (by omega);rw[show tsz (vT i)=1 by unfold vT;rw[Ia];rfl];omega
 |@nd B k i j n l h2 h0 hf hl hk ih=>
  intro b D hb hv;rw[Ev h2 h0,Ia,Ia];have:((trL v f b k 0 l).map tsz).sum<=((l.map tsz).map (·*s)).sum:=by
   rw[List.map_map];refine Bih (by simp[Mu]) (fun q x y hx hy=>?_);rw[q_ji,Fm,q_jg] at hx;rw[q_ji] at hy;cases Eg:l[q]? with
   |none=>rw[Eg] at hy;cases hy
   |some u=>
    rw[Eg] at hx hy;simp only[q_jh,q_b] at hx hy;subst hx hy;have hd:=Lu (k:=k) (i:=i) (j:=j) (n:=n) Eg;exact ih q u Eg (D:=D) (by omega) (fun b' i h1 h2 h3=>hv b' i (by omega) h2 (by omega))
  have e:((l.map tsz).map (·*s)).sum=(l.map tsz).sum*s:=by
   generalize l.map tsz=xs
   induction xs with
   |nil=>simp
   |cons x xs ih=>simp[ih,Nat.add_mul]
  rw[Nat.add_mul];omega
def Ak1{t:Tm}:∀{l:List Tm},t∈l->tsz t<=(l.map tsz).sum:=by
 intro l
 induction l with
 |nil=>intro h;cases h
 |cons a l ih=>
  intro h;simp only[q_h,List.sum_cons];rcases q_kb.1 h with rfl|h
  ·omega
  ·have:=ih h;omega
def Yx{k i j n:Int}{l:List Tm}{t:Tm}(h:t∈l):tsz t+1<=tsz (.mk k i j n l):=by
 rw[Ia];have:=Ak1 h;omega
def A3a{k:Int}{M:Nat}:∀{l:List Tm} {p:Nat},(∀t∈l,dpt t<=M)->Oa k p l<=M+2:=by
 intro l
 induction l with
 |nil=>intro p _;rw[Oa];omega
 |cons t l ih=>
  intro p h;rw[Oa];have h1:=h t (by simp);have h2:=ih (p:=p+1) (fun u hu=>h u (by simp[hu]));have h3:=Pg k p;omega
def Ks(t:Tm):dpt t+2<=2*tsz t:=by
 induction t using Tm.ind with
 |h k i j n l ih=>
  rw[dpt,Ia];cases l with
  |nil=>rw[Oa];simp
  |cons a l=>
   have:Oa k 0 (a::l)<=(2*((a::l).map tsz).sum-2)+2:=A3a (fun t ht=>by
    have h1:=ih t ht;have h2:=Ak1 ht;omega)
   have h3:=p6 a;simp only[q_h,List.sum_cons] at this |-;omega
def Aib(t:Tm):La t<=tsz t:=by
 induction t using Tm.ind with
 |h k i j n l ih=>
  rw[Aau,Ia];have:Si l<=(l.map tsz).sum:=Aps (fun t ht=>q_kp (ih t ht) (Ak1 ht));omega
def Bfg(F:Nat->Int):∀{x y:Nat},y<x->F y<=pm F x:=by
 intro x
 induction x with
 |zero=>intro y h;omega
 |succ x ih=>
  intro y h;rw[pm]
  by_cases e:y=x
  ·subst e;omega
  ·have:=ih (show y<x by omega);omega
def Bhy{t:Tm}:TOk t->Cg t=true->∀{C:Nat},Ie t<=C->Sf C t:=by
 induction t using Tm.ind with
 |h k i j n l ih=>
  intro ht hp C hf;obtain⟨f1,f2,f3,f4,hb,Gw⟩:=Ww ht;have hp':=plain_mk.1 hp;obtain⟨e1,e2⟩:=Bg0 hp'.1
  by_cases h2:k=2
  ·subst h2;rw[Ie,if_pos rfl] at hf;have hl:l=[]:=q_lb.1 (by rw[show Bv 2 n=0 by unfold Bv;rw[if_neg (by decide)];rfl] at e1;omega);unfold Or at e2;rw[if_neg (by decide),if_pos rfl] at e2;simp only[q_jl,q_jt,beq_iff_eq] at e2;obtain⟨a,_,b,c⟩:=e2;subst hl b c;have:=Sf.var (b:=C) (i:=i.toNat) (by omega);unfold vT at this
   rwa [Int.toNat_of_nonneg a] at this
  ·rw[Add h2] at hf;refine .nd i j n h2 (by have:=Aq7 (k:=k) (n:=n) (by omega);omega) ⟨f2,f3,f4⟩ e1 (fun p t hq=>?_);have hm:=q_jb hq;have Ag:=Dh hq;have:=Bfg (fun y=>Ie (l[y]?.getD default)-Cf k ((y:Nat):Int)) Ag;simp only[hq,q_jz] at this;have Xs:=Zi k p;exact ih t hm (Gw t hm) (hp'.2 t hm) (by omega)
structure PT(C M:Nat)(t:Tm):Prop where
 pl:Cg t=true
 sf:Sf C t
 sz:tsz t<=M
def PT.tok{C M:Nat}{t:Tm}(h:PT C M t)(hb:C+2*M<=2147483647):TOk t:=by
 have:=Ks t;have:=h.sz;exact Bi9 h.sf h.pl (by omega)
def BodyP(B:BT):Prop:=∀n i j b,B n i j=some b->PT (Bv 23 n).toNat 4000 b
def BodyP.ok{B:BT}(h:BodyP B):Bz B:=fun n i j b hb=>(h n i j b hb).sf
def Aji{t:Tm}{p:Nat}(h:p<t.kids.length):Ap t p∈t.kids:=by
 unfold Ap;rw[q_j,q_f h];exact q_kd h
def PT.kidm{C M:Nat}{k i j n:Int}{l:List Tm}(h:PT C M (.mk k i j n l)){q:Nat}{t:Tm}(hq:l[q]?=some t):PT (C+bnd k q) M t:=by
 have hm:=q_jb hq;have h1:=Yx (k:=k) (i:=i) (j:=j) (n:=n) hm;have:=h.sz;exact⟨(plain_mk.1 h.pl).2 t hm,h.sf.kid hq,by omega⟩
def PT.kid{C M:Nat}{t:Tm}(h:PT C M t){p:Nat}(hp:p<t.kids.length)(hb:bnd t.k p=0):PT C M (Ap t p)/\tsz (Ap t p)+1<=tsz t:=by
 cases t with
 |mk k i j n l=>
  have hp':p<l.length:=hp;have Dg:bnd k p=0:=hb;have hq:l[p]?=some (Ap (.mk k i j n l) p):=by
   unfold Ap;rw[show (Tm.mk k i j n l).kids=l from rfl,q_j,q_f hp'];rfl
  have:=h.kidm hq;rw[Dg,q_jp] at this;exact⟨this,Yx (Aji hp)⟩
def PT.kid1{C M:Nat}{t:Tm}(h:PT C M t){p:Nat}(hp:p<t.kids.length)(hb:bnd t.k p=1):PT (C+1) M (Ap t p)/\tsz (Ap t p)+1<=tsz t:=by
 cases t with
 |mk k i j n l=>
  have hp':p<l.length:=hp;have Dg:bnd k p=1:=hb;have hq:l[p]?=some (Ap (.mk k i j n l) p):=by
   unfold Ap;rw[show (Tm.mk k i j n l).kids=l from rfl,q_j,q_f hp'];rfl
  have:=h.kidm hq;rw[Dg] at this;exact⟨this,Yx (Aji hp)⟩
def Abm{C M k:Nat}{u:Tm}(h:PT C M u)(hb:C+2*M+k<=2147483647):Cg (Ct k u)=true/\tsz (Ct k u)<=tsz u:=by
 have hd:=Ks u;have hs:=h.sz;constructor
 ·refine Aj8 h.sf (D:=dpt u) h.pl (by omega) (fun b' i _ h1 h2=>?_);unfold lfv;split
  ·exact Us (by omega)
  ·exact Us (by omega)
 ·have:=Ak2 (v:=lfv k) (f:=fun _ l=>fT l) (q_ja 1) h.sf (b:=0) (D:=dpt u) (by omega) (fun b' i _ h1 h2=>by
   unfold lfv;split<;>(unfold vT;rw[Ia];simp))
  unfold Ct;omega
def Bgj{C M M':Nat}{t u:Tm}(ht:PT (C+1) M t)(hu:PT C M' u)(hb:C+2*M'+2*M+1<=2147483647):Cg (Lk u t)=true/\tsz (Lk u t)<=tsz t*tsz u:=by
 have hd:=Ks t;have hs:=ht.sz;have hp:=p6 u;constructor
 ·refine Aj8 ht.sf (D:=dpt t) ht.pl (by omega) (fun b' i _ h1 h2=>?_);unfold ptv;split
  ·exact Us (by omega)
  ·split
   ·exact (Abm hu (by omega)).1
   ·exact Us (by omega)
 ·refine Ak2 hp ht.sf (b:=0) (D:=dpt t) (by omega) (fun b' i _ h1 h2=>?_);unfold ptv;split
  ·unfold vT;rw[Ia];simp;omega
  ·split
   ·exact (Abm hu (by omega)).2
   ·unfold vT;rw[Ia];simp;omega
def Awb{C M M' m:Nat}{t:Tm}{l:List Tm}(ht:PT m M t)(hm:m<=l.length)(Ck:l.length<=1000)(hl:∀u∈l,PT C M' u)(Od:1<=M')(hb:C+2*M'+2*M+1000<=2147483647):Cg (Kp l t)=true/\tsz (Kp l t)<=tsz t*M':=by
 have hd:=Ks t;have hs:=ht.sz;have H:∀b' i,i<m+b'->¬i<b'->PT C M' (l.getD (i-b') (vT 0)):=fun b' i h1 h2=>by
  have Ag:i-b'<l.length:=by omega
  rw[q_j,q_f Ag];exact hl _ (q_kd Ag)
 constructor
 ·refine Aj8 ht.sf (D:=dpt t) ht.pl (by omega) (fun b' i _ h1 h2=>?_);unfold alv;split
  ·exact Us (by omega)
  ·rename_i c;exact (Abm (H b' i (by omega) c) (by omega)).1
 ·refine Ak2 Od ht.sf (b:=0) (D:=dpt t) (by omega) (fun b' i _ h1 h2=>?_);unfold alv;split
  ·unfold vT;rw[Ia];simp;omega
  ·rename_i c;have h3:=H b' i (by omega) c;have:=(Abm h3 (k:=b') (by omega)).2;have:=h3.sz;omega
def Art{a b c d:Nat}(h1:a<=c)(h2:b<=d):a*b<=c*d:=Nat.mul_le_mul h1 h2
section
variable{B:BT}{C:Nat}
def Afe(hB:BodyP B){t u:Tm}(h:Bm B t=some u)(ht:PT C 4000 t)(hC:C<=60000000):Cg u=true/\tsz u<=tsz t*4000:=by
 have h2:t.k≠2:=fun e=>by rw[Gz (by omega)] at h;cases h
 have hl:=Hg ht.sf h2;have Bi:=ht.sz
 by_cases Ey:t.k=15
 ·rw[Nw Ey] at h;split at h
  ·rename_i c;cases h;rw[Ey,kids15] at hl;obtain⟨k0,s0⟩:=ht.kid (p:=0) (by omega) (by rw[Ey];decide);obtain⟨k1,s1⟩:=ht.kid (p:=1) (by omega) (by rw[Ey];decide);have Eu:=Hg k0.sf (by omega);rw[c,kids14] at Eu;obtain⟨kb,sb⟩:=k0.kid1 (p:=1) (by omega) (by rw[c];decide);obtain⟨a,b⟩:=Bgj kb k1 (by omega);exact⟨a,q_kp b (Art (by omega) (by omega))⟩
  ·cases h
 by_cases Fh:t.k=18
 ·rw[Qf Fh] at h;split at h
  ·rename_i c;cases h;rw[Fh,kids18] at hl;obtain⟨k0,s0⟩:=ht.kid (p:=0) (by omega) (by rw[Fh];decide);have Eu:=Hg k0.sf (by omega);rw[c,kids17] at Eu;obtain⟨kb,sb⟩:=k0.kid (p:=2) (by omega) (by rw[c];decide);exact⟨kb.pl,by omega⟩
  ·cases h
 by_cases Fi:t.k=19
 ·rw[Qg Fi] at h;split at h
  ·rename_i c;cases h;rw[Fi,kids19] at hl;obtain⟨k0,s0⟩:=ht.kid (p:=0) (by omega) (by rw[Fi];decide);have Eu:=Hg k0.sf (by omega);rw[c,kids17] at Eu;obtain⟨kb,sb⟩:=k0.kid (p:=3) (by omega) (by rw[c];decide);exact⟨kb.pl,by omega⟩
  ·cases h
 by_cases Dv:t.k=22
 ·rw[Rm Dv] at h;split at h
  ·cases h;rw[Dv,kids22] at hl;obtain⟨kb,sb⟩:=ht.kid (p:=3) (by omega) (by rw[Dv];decide);exact⟨kb.pl,by omega⟩
  ·cases h
 by_cases Cs:t.k=23
 ·rw[Ro Cs] at h;cases hb:B t.n t.i t.j with
  |none=>rw[hb] at h;cases h
  |some b=>
   rw[hb,q_jh,q_b] at h;subst h;rw[Cs] at hl;have hle:=Py 23 t.n;have hbb:=hB _ _ _ _ hb;have Gw:∀u∈t.kids.reverse,PT C (tsz t) u:=fun u hu=>by
    rw[List.mem_reverse] at hu;cases t with
    |mk k i j n l=>
     obtain⟨q,hq⟩:=q_jw (l:=l) hu;have h23':k=23:=Cs;have:=ht.kidm hq;rw[h23',bnd23,q_jp] at this;have:=Yx (k:=k) (i:=i) (j:=j) (n:=n) (l:=l) hu;exact⟨‹PT C 4000 u›.pl,‹PT C 4000 u›.sf,by omega⟩
   have hp:=p6 t;obtain⟨a,c⟩:=Awb (C:=C) (M':=tsz t) hbb (by rw[List.length_reverse];omega) (by rw[List.length_reverse];omega) Gw hp (by omega);refine⟨a,q_kp c ?_⟩;rw[Nat.mul_comm];exact Art (q_ja _) hbb.sz
 ·rw[Gz (by omega)] at h;cases h
def Bhu{f:Tm->Nat}:∀{l:List Tm} {p:Nat} {u:Tm},p<l.length->((l.set p u).map f).sum+f (l.getD p (vT 0))=(l.map f).sum+f u:=by
 intro l
 induction l with
 |nil=>intro p u h;simp at h
 |cons a l ih=>
  intro p u h;cases p with
  |zero=>simp;omega
  |succ p=>
   have:=ih (p:=p) (u:=u) (by simpa using h);simp only[List.set_cons_succ,q_h,List.sum_cons,List.getD_cons_succ];omega
def Ato{t u:Tm}{p:Nat}(ht:Cg t=true)(hu:Cg u=true)(hp:p<t.kids.length):Cg (Cd t p u)=true/\tsz (Cd t p u)+tsz (Ap t p)=tsz t+tsz u:=by
 cases t with
 |mk k i j n l=>
  have hp':p<l.length:=hp;obtain⟨h1,h2⟩:=plain_mk.1 ht;constructor
  ·refine plain_mk.2 ⟨by simp only[Tm.kids,q_ki];exact h1,fun x hx=>?_⟩;rcases List.mem_or_eq_of_mem_set hx with h|rfl
   ·exact h2 x h
   ·exact hu
  ·unfold Cd Ap;simp only[Tm.k,Tm.i,Tm.j,Tm.n,Tm.kids,Ia];have:=Bhu (f:=tsz) (u:=u) hp';omega
def At2(hB:BodyP B){t u:Tm}(hs:HS (Bm B) t u)(hC:C<=60000000):PT C 4000 t->Cg u=true/\tsz u<=tsz t*4000:=by
 induction hs with
 |here h=>intro ht;exact Afe hB h ht hC
 |@down t u p h hp hs ih=>
  intro ht;obtain⟨h2,h0,hl,hb⟩:=Rr ht.sf hp;obtain⟨k0,s0⟩:=ht.kid hl hb;obtain⟨a,b⟩:=ih k0;obtain⟨c,d⟩:=Ato ht.pl a hl;refine⟨c,?_⟩;omega
def At1(hB:BodyP B){t u:Tm}(hs:HS (Bm B) t u)(hC:C<=60000000)(ht:PT C 4000 t):PT C 16000000 u:=by
 obtain⟨a,b⟩:=At2 hB hs hC ht;have:=ht.sz;exact⟨a,Ab3 hB.ok hs ht.sf,by omega⟩
end
structure Ve(B:BT):Prop where
 at_:∀n i j,fit n->fit i->fit j->∃(nm ps:SV) (ty:List SV) (bd:Tm) (df ok:Bool),ty.length=5/\Con 41 [.int .i64 n,.int .i64 i,.int .i64 j] (.tup [.agg true (nm::ps::(ty++(tv bd++[.bool df]))),.bool ok])/\B n i j=if ok && df then some bd else none
 bd:BodyP B
def A1s{C M M':Nat}{t u:Tm}(ht:PT (C+1) M t)(hu:PT C M' u)(hb:C+2*M'+2*M+1<=100000000) :
  Con 40 [.agg true (tv t),.agg true (tv u)] (.agg true (tv (Lk u t))):=by
 have d1:=Ks t;have d2:=Ks u;have d3:=Aib t;have d4:=Aib u;have s1:=ht.sz;have s2:=hu.sz;have h:=A0m t u (ht.tok (by omega)) (hu.tok (by omega)) ht.pl hu.pl (by omega) (by omega);have e:Afj u t=Lk u t:=by
  unfold Afj;rw[show Iu u 0 t=some (Lk u t) from Bge (d:=0) ht.sf hu.sf (by omega)];rfl
 rw[e] at h;refine Au mixed Tryz.func40 tr40 ?_;simp only[go_sem,seval];refine Af h ?_;simp only[go_sem,seval]
def y8(t u:Tm)(ht:t.kids.length<=100)(p:Nat)(hp:p<=100) :
  Con 26 [.agg true (tv t),.int .i64 p,.agg true (tv u)] (.agg true (tv (Cd t p u))):=by
 cases t with
 |mk k i j n l=>
  have Lh:l.length<=100:=ht;unfold Cd;simp only[Tm.k,Tm.i,Tm.j,Tm.n,Tm.kids];have Sq:=Ch (.mk k i j n (l.set p u));rw[As,As,List.map_set];refine Au mixed Tryz.func26 tr26 ?_;simp only[go_sem,seval];intros;refine Ln (fun x=>⟨(.J::.int .i64 p::.J::.ref 0 0 0 0::.J::.ref 1 0 0 0::.ref 2 0 0 0::.ref 3 0 0 0::.osl 4 x 0 x::.int .i64 x::Bo (jk2 ([]))),[⟨true,5,[[.int .i64 k,.int .i64 i,.int .i64 j,.int .i64 n,.dsl 5 (l.map tv)]],0,0,true⟩,⟨true,5,[tv u],0,0,true⟩,⟨true,5,[[.int .i64 0,.int .i64 0,.int .i64 0,.int .i64 0,.nils]],0,0,true⟩,⟨true,5,[[.int .i64 k,.int .i64 i,.int .i64 j,.int .i64 n,.nils]],0,0,true⟩,⟨false,5,((l.map tv).set p (tv u)).take x,x-1,x,true⟩]⟩) l.length (fun x hx=>?_) ?_
  ·by_cases Ag:x<l.length
   ·have e0:(0:Int)<=(x:Int):=by omega
    have e1:(x:Int)<(l.length:Int):=by omega
    have e2:(((l.map tv).set p (tv u)).take x).length=x:=by simp;omega
    have e3:(x+1)*56<=140737488355328:=by omega
    have e4:x+1<=140737488355328:=by omega
    have hg:(l.map tv)[x]?.getD []=tv l[x]:=by rw[q_ji,q_f Ag];rfl
    have tn:((l.map tv).set p (tv u)).take (x+1)=((l.map tv).set p (tv u)).take x++[if x=p then tv u else tv l[x]]:=by
     rw[List.take_succ_eq_append_getElem (by simpa using Ag)];congr 2;rw[List.getElem_set]
     by_cases c:x=p
     ·rw[if_pos c.symm,if_pos c]
     ·rw[if_neg (Ne.symm c),if_neg c];simp
    by_cases c:x=p
    ·have ec:((x:Int)==(p:Int))=true:=by rw[c];simp
     rw[if_pos c] at tn;simp only[go_sem,seval,q_jn e1,ec,e0,e1,Ag,q_g,e2,e3,e4,w64 (show fit ((x:Int)+1) by unfold fit;omega)];refine fun _=>?_
     rw[tn];exact Fp 5 (by simp[Ba]) (by simp) (by simp[Cx]) (by simp)
    ·have ec:((x:Int)==(p:Int))=false:=by rw[beq_eq_false_iff_ne];omega
     rw[if_neg c] at tn;simp only[go_sem,seval,q_jn e1,ec,e0,e1,Ag,q_g,e2,e3,e4,hg,w64 (show fit ((x:Int)+1) by unfold fit;omega)];refine fun _=>?_
     rw[tn];exact Fp 5 (by simp[Ba]) (by simp) (by simp[Cx]) (by simp)
   ·have:x=l.length:=by omega
    subst this;have Hx:((l.map tv).set p (tv u)).take l.length=(l.map tv).set p (tv u):=q_js (by simp);simp only[go_sem,seval,q_je (show ¬((l.length:Nat):Int)<l.length by omega),Hx,q_g,q_ki]
  ·exact .trans (.ghost _ 8 5 rfl) (Bk (by simp[Ba]))
def Mq(o:Option Tm)(t:Tm):SV:=.tup [.agg true (tv (o.getD t)),.bool o.isSome]
section
variable{B:BT}{C:Nat}
def len4{α:Type}{l:List α}(h:l.length=4):∃a b c d,l=[a,b,c,d]:=by
 match l,h with
 |[a,b,c,d],_=>exact⟨a,b,c,d,rfl⟩
def A8e{m:Nat}{t:Tm}(h:Sf m t):Ie t<=m:=by
 induction h with
 |@var B i h=>unfold vT;rw[Ie,if_pos rfl];omega
 |@nd B k i j n l h2 h0 hf hl hk ih=>
  rw[Add h2];refine Ast (by omega) (fun y hy=>?_);have:=ih y l[y] (q_f hy);have hb:=Zi k y;rw[q_f hy,q_jz];omega
def kl{k i j n:Int}{l:List Tm}(h:Sf C (.mk k i j n l))(h2:k≠2):(l.length:Int)=Bv k n:=(h.node h2).2.2
def Az2{i j n:Int}{l:List Tm}(ht:PT C 4000 (.mk 15 i j n l))(hC:C<=60000000) :
  Con 25 [.agg true (tv (.mk 15 i j n l))] (Mq (Bm B (.mk 15 i j n l)) (.mk 15 i j n l)):=by
 have hl:=kl ht.sf (by decide);rw[kids15] at hl;obtain⟨a,b,rfl⟩:=len2 (l:=l) (by omega);have k0:PT C 4000 a:=(ht.kid (p:=0) (show 0<2 by decide) (show bnd 15 0=0 by decide)).1;have k1:PT C 4000 b:=(ht.kid (p:=1) (show 1<2 by decide) (show bnd 15 1=0 by decide)).1;rw[Nw rfl];rw[show Ap (.mk 15 i j n [a,b]) 0=a from rfl,show Ap (.mk 15 i j n [a,b]) 1=b from rfl];cases a with
 |mk ka ia ja na la=>
  by_cases c:ka=14
  ·subst c;rw[if_pos (show (Tm.mk 14 ia ja na la).k=14 from rfl)];have Ud:=kl k0.sf (by decide);rw[kids14] at Ud;obtain⟨x,y,rfl⟩:=len2 (l:=la) (by omega);have ky:PT (C+1) 4000 y:=(k0.kid1 (p:=1) (show 1<2 by decide) (show bnd 14 1=1 by decide)).1;have h:=A1s ky k1 (by omega);show Con _ _ (.tup [.agg true (tv (Lk b y)),.bool true]);refine Au mixed Tryz.func25 tr25 ?_;simp only[As,q_h,q_i,go_sem,seval];refine Af h ?_;simp only[go_sem,seval]
  ·rw[if_neg (show ¬(Tm.mk ka ia ja na la).k=14 from c)];show Con _ _ (.tup [.agg true (tv (.mk 15 i j n [.mk ka ia ja na la,b])),.bool false]);have q:(ka==14)=false:=Ao c;refine Au mixed Tryz.func25 tr25 ?_;simp only[As,q_h,q_i,go_sem,seval,q]
def Az3{i j n:Int}{l:List Tm}(ht:PT C 4000 (.mk 18 i j n l))(hC:C<=60000000) :
  Con 25 [.agg true (tv (.mk 18 i j n l))] (Mq (Bm B (.mk 18 i j n l)) (.mk 18 i j n l)):=by
 have hl:=kl ht.sf (by decide);rw[kids18] at hl;obtain⟨a,rfl⟩:=len1 (l:=l) (by omega);have k0:PT C 4000 a:=(ht.kid (p:=0) (show 0<1 by decide) (show bnd 18 0=0 by decide)).1;rw[Qf rfl];rw[show Ap (.mk 18 i j n [a]) 0=a from rfl];cases a with
 |mk ka ia ja na la=>
  by_cases c:ka=17
  ·subst c;rw[if_pos (show (Tm.mk 17 ia ja na la).k=17 from rfl)];have Ud:=kl k0.sf (by decide);rw[kids17] at Ud;obtain⟨x,y,u,v,rfl⟩:=len4 (l:=la) (by omega);show Con _ _ (.tup [.agg true (tv u),.bool true]);refine Au mixed Tryz.func25 tr25 ?_;simp only[As,q_h,q_i,go_sem,seval]
  ·rw[if_neg (show ¬(Tm.mk ka ia ja na la).k=17 from c)];show Con _ _ (.tup [.agg true (tv (.mk 18 i j n [.mk ka ia ja na la])),.bool false]);have q:(ka==17)=false:=Ao c;refine Au mixed Tryz.func25 tr25 ?_;simp only[As,q_h,q_i,go_sem,seval,q]
def Az6{i j n:Int}{l:List Tm}(ht:PT C 4000 (.mk 19 i j n l))(hC:C<=60000000) :
  Con 25 [.agg true (tv (.mk 19 i j n l))] (Mq (Bm B (.mk 19 i j n l)) (.mk 19 i j n l)):=by
 have hl:=kl ht.sf (by decide);rw[kids19] at hl;obtain⟨a,rfl⟩:=len1 (l:=l) (by omega);have k0:PT C 4000 a:=(ht.kid (p:=0) (show 0<1 by decide) (show bnd 19 0=0 by decide)).1;rw[Qg rfl];rw[show Ap (.mk 19 i j n [a]) 0=a from rfl];cases a with
 |mk ka ia ja na la=>
  by_cases c:ka=17
  ·subst c;rw[if_pos (show (Tm.mk 17 ia ja na la).k=17 from rfl)];have Ud:=kl k0.sf (by decide);rw[kids17] at Ud;obtain⟨x,y,u,v,rfl⟩:=len4 (l:=la) (by omega);show Con _ _ (.tup [.agg true (tv v),.bool true]);refine Au mixed Tryz.func25 tr25 ?_;simp only[As,q_h,q_i,go_sem,seval]
  ·rw[if_neg (show ¬(Tm.mk ka ia ja na la).k=17 from c)];show Con _ _ (.tup [.agg true (tv (.mk 19 i j n [.mk ka ia ja na la])),.bool false]);have q:(ka==17)=false:=Ao c;refine Au mixed Tryz.func25 tr25 ?_;simp only[As,q_h,q_i,go_sem,seval,q]
def Az4{i j n:Int}{l:List Tm}(ht:PT C 4000 (.mk 22 i j n l))(hC:C<=60000000) :
  Con 25 [.agg true (tv (.mk 22 i j n l))] (Mq (Bm B (.mk 22 i j n l)) (.mk 22 i j n l)):=by
 have hl:=kl ht.sf (by decide);rw[kids22] at hl;obtain⟨x1,x2,x3,x4,x5,a,rfl⟩:=len6 (l:=l) (by omega);rw[Rm rfl];rw[show Ap (.mk 22 i j n [x1,x2,x3,x4,x5,a]) 5=a from rfl,show Ap (.mk 22 i j n [x1,x2,x3,x4,x5,a]) 3=x4 from rfl];cases a with
 |mk ka ia ja na la=>
  by_cases c:ka=21
  ·subst c;rw[if_pos (show (Tm.mk 21 ia ja na la).k=21 from rfl)];show Con _ _ (.tup [.agg true (tv x4),.bool true]);refine Au mixed Tryz.func25 tr25 ?_;simp only[As,q_h,q_i,go_sem,seval]
  ·rw[if_neg (show ¬(Tm.mk ka ia ja na la).k=21 from c)];show Con _ _ (.tup [.agg true (tv (.mk 22 i j n [x1,x2,x3,x4,x5,.mk ka ia ja na la])),.bool false]);have q:(ka==21)=false:=Ao c;refine Au mixed Tryz.func25 tr25 ?_;simp only[As,q_h,q_i,go_sem,seval,q]
def Az7(L:Ve B){i j n:Int}{l:List Tm}(ht:PT C 4000 (.mk 23 i j n l))(hC:C<=60000000) :
  Con 25 [.agg true (tv (.mk 23 i j n l))] (Mq (Bm B (.mk 23 i j n l)) (.mk 23 i j n l)):=by
 obtain⟨_,⟨f1,f2,f3⟩,hl⟩:=ht.sf.node (by decide);have hle:=Py 23 n;obtain⟨nm,ps,ty,bd,df,ok,Hd,hc,hb⟩:=L.at_ n i j f3 f1 f2;rw[Ro rfl,show B (Tm.mk 23 i j n l).n (Tm.mk 23 i j n l).i (Tm.mk 23 i j n l).j=_ from hb];obtain⟨y1,y2,y3,y4,y5,rfl⟩:∃y1 y2 y3 y4 y5,ty=[y1,y2,y3,y4,y5]:=by
  match ty,Hd with
  |[a,b,c,d,e],_=>exact⟨a,b,c,d,e,rfl⟩
 cases ok with
 |false=>
  show Con _ _ (.tup [.agg true (tv (.mk 23 i j n l)),.bool false]);refine Au mixed Tryz.func25 tr25 ?_;simp only[As,go_sem,seval];refine Af hc ?_;simp only[go_sem,seval]
 |true=>
  cases df with
  |false=>
   show Con _ _ (.tup [.agg true (tv (.mk 23 i j n l)),.bool false]);refine Au mixed Tryz.func25 tr25 ?_;simp only[As,go_sem,seval];refine Af hc ?_;simp only[go_sem,seval]
  |true=>
   have hbb:=L.bd _ _ _ _ hb;show Con _ _ (.tup [.agg true (tv (Kp l.reverse bd)),.bool true]);have d1:=Ks bd;have s1:=hbb.sz;have h:=Ay3 (C:=C) (m:=10000) (l:=l) (t:=bd) (fun u hu=>by
    obtain⟨q,hq⟩:=q_jw hu;have hk:=ht.kidm hq;rw[bnd23,q_jp] at hk;have d2:=Ks u;have d3:=Aib u;have d4:=hk.sz;exact⟨hk.tok (by omega),hk.pl,by omega,hk.sf,by omega⟩) (by omega) (by omega) (hbb.tok (by omega)) hbb.pl (by
     have:=hbb.sf
     rwa [show (Bv 23 n).toNat=l.length by omega] at this) (by omega) (by
     have:=A8e hbb.sf;omega)
   have Px:(List.take 5 (List.drop 7 (nm::ps::y1::y2::y3::y4::y5::(tv bd++[SV.bool true]))))=tv bd:=by
    show List.take 5 (tv bd++[SV.bool true])=tv bd;have:=Ch bd;rw[List.take_append_of_le_length (by omega),q_js (by omega)]
   refine Au mixed Tryz.func25 tr25 ?_;simp only[As,go_sem,seval];refine Af hc ?_;simp only[go_sem,seval];rw[<-Px] at h;refine Af h ?_;simp only[go_sem,seval]
def Az5{k i j n:Int}{l:List Tm}(h:k≠15/\k≠18/\k≠19/\k≠22/\k≠23) :
  Con 25 [.agg true (tv (.mk k i j n l))] (Mq (Bm B (.mk k i j n l)) (.mk k i j n l)):=by
 rw[Gz (t:=.mk k i j n l) h];obtain⟨h1,h2,h3,h4,h5⟩:=h;have q1:(k==15)=false:=Ao h1;have q2:(k==18)=false:=Ao h2;have q3:(k==19)=false:=Ao h3;have q4:(k==22)=false:=Ao h4;have q5:(k==23)=false:=Ao h5;show Con _ _ (.tup [.agg true (tv (.mk k i j n l)),.bool false]);refine Au mixed Tryz.func25 tr25 ?_;simp only[As,go_sem,seval,q1,q2,q3,q4,q5]
def Ag3(L:Ve B){t:Tm}(ht:PT C 4000 t)(hC:C<=60000000):Con 25 [.agg true (tv t)] (Mq (Bm B t) t):=by
 cases t with
 |mk k i j n l=>
  by_cases h1:k=15
  ·subst h1;exact Az2 ht hC
  by_cases h2:k=18
  ·subst h2;exact Az3 ht hC
  by_cases h3:k=19
  ·subst h3;exact Az6 ht hC
  by_cases h4:k=22
  ·subst h4;exact Az4 ht hC
  by_cases h5:k=23
  ·subst h5;exact Az7 L ht hC
  exact Az5 ⟨h1,h2,h3,h4,h5⟩
end
def Nx(T:Nat->Nat):Nat->Nat
 |0=>0
 |x+1=>Nx T x+T x
def Bf1{T:Nat->Nat}{x y:Nat}(h:x<=y):Nx T x<=Nx T y:=by
 induction y with
 |zero=>have:x=0:=by omega
        subst this;exact q_ja _
 |succ y ih=>
  by_cases e:x=y+1
  ·subst e;exact q_ja _
  ·have:=ih (by omega);rw[Nx];omega
def Bf2(T:Nat->Nat):∀x,Nx T (x+1)=T 0+Nx (fun y=>T (y+1)) x:=by
 intro x
 induction x with
 |zero=>simp[Nx]
 |succ x ih=>rw[Nx,ih,Nx];omega
def Asw:∀l:List Tm,Nx (fun y=>tsz (l[y]?.getD default)) l.length=(l.map tsz).sum:=by
 intro l
 induction l with
 |nil=>rfl
 |cons a l ih=>
  rw[q_jk,Bf2];simp only[q_jv,q_kf,q_jz,q_h,List.sum_cons];rw[ih]
def Bii{a:Int}{V:Nat->Int->Int}{T:Nat->Nat}{most:Int}{n:Nat}(h0:0<=a)(h1:a<=1)(hm:0<=most)(hm2:most<=1000000)
  (hV:∀x,x<n->∀m,0<=m->m<=1000000->V x m=min (T x:Int) (m+1)) :
  ∀x,x<=n->(∀y,y<x->Eh a V most y<=most)->Eh a V most x=min (a+Nx T x) (most+1):=by
 intro x
 induction x with
 |zero=>intro _ _;show a=min (a+((0:Nat):Int)) (most+1);omega
 |succ x ih=>
  intro hx hle;have g:=ih (by omega) (fun y hy=>hle y (by omega));have hs:=hle x (by omega);have e1:IntKind.i64.wrap (most-Eh a V most x)=most-Eh a V most x:=w64 (by unfold fit;omega);have v:=hV x (by omega) (most-Eh a V most x) (by omega) (by omega);show IntKind.i64.wrap (Eh a V most x+V x (IntKind.i64.wrap (most-Eh a V most x)))=_;rw[e1,v,Nx,w64 (by unfold fit;omega)];omega
def Bij{a:Int}{V:Nat->Int->Int}{T:Nat->Nat}{most:Int}{n:Nat}(h0:0<=a)(h1:a<=1)(hm:0<=most)(hm2:most<=1000000)
  (hV:∀x,x<n->∀m,0<=m->m<=1000000->1<=V x m/\V x m<=m+1/\(V x m<=m->V x m=(T x:Int))) :
  ∀x,x<=n->(∀y,y<x->Eh a V most y<=most)->0<=Eh a V most x/\a<=Eh a V most x/\Eh a V most x<=most+1/\(Eh a V most x<=most->Eh a V most x=a+Nx T x):=by
 intro x
 induction x with
 |zero=>intro _ _;exact⟨h0,Int.le_refl _,by show a<=most+1;omega,fun _=>by show a=a+((0:Nat):Int);omega⟩
 |succ x ih=>
  intro hx hle;obtain⟨g1,g0,g2,g3⟩:=ih (by omega) (fun y hy=>hle y (by omega));have hs:=hle x (by omega);have e1:IntKind.i64.wrap (most-Eh a V most x)=most-Eh a V most x:=w64 (by unfold fit;omega);obtain⟨v1,v2,v3⟩:=hV x (by omega) (most-Eh a V most x) (by omega) (by omega);have e2:Eh a V most (x+1)=Eh a V most x+V x (most-Eh a V most x):=by
   show IntKind.i64.wrap (Eh a V most x+V x (IntKind.i64.wrap (most-Eh a V most x)))=_;rw[e1,w64 (by unfold fit;omega)]
  rw[e2,Nx];have g3':=g3 hs;refine⟨by omega,by omega,by omega,fun h=>?_⟩;have:=v3 (by omega);omega
def Bh4(k i j n most:Int)(rows:GV)(V:Nat->Int->Int)(h2:rows.length*56<=140737488355328)(h5:∀r∈rows,r.length=5)
  (H:∀x,x<rows.length->∀m,Con 61 [.agg true (rows[x]?.getD []),.int .i64 m] (.int .i64 (V x m))) (m:Nat) (Ps:m<=rows.length)
  (hm2:m=rows.length\/most<Eh 1 V most m) (Wc:∀y,y<m->¬most<Eh 1 V most y) :
  Con 61 [.agg true [.int .i64 k,.int .i64 i,.int .i64 j,.int .i64 n,.dsl 5 rows],.int .i64 most] (.int .i64 (Eh 1 V most m)):=by
 refine Au mixed Tryz.func61 tr61 ?_;simp only[go_sem,seval];refine Ln (fun x=>⟨(.J::.int .i64 most::.ref 0 0 0 0::.J::.int .i64 0::.int .i64 (Eh 1 V most x)::.int .i64 x::Do (jk8 ([]))),[⟨true,5,[[.int .i64 k,.int .i64 i,.int .i64 j,.int .i64 n,.dsl 5 rows]],0,0,true⟩]⟩) m (fun x hx=>?_) ?_
 ·simp only[go_sem,seval];intro _
  by_cases hxm:x=m
  ·subst hxm;rcases hm2 with rfl|hm2
   ·have hl:¬((rows.length:Int)<(rows.length:Int)):=by omega
    simp only[go_sem,seval,hl]
   ·have hl:¬(Eh 1 V most x<=most):=by omega
    refine⟨fun h=>?_,fun h=>?_⟩
    ·simp only[go_sem,seval,h,hl]
    ·simp only[go_sem,seval,h,hl]
  ·have Hm:x<rows.length:=by omega
   have Ai9:(x:Int)<(rows.length:Int):=by omega
   have e0:(0:Int)<=(x:Int):=by omega
   have hle:Eh 1 V most x<=most:=by have:=Wc x (by omega);omega
   have hm:=Hi (d:=[]) Hm;have Gj:=h5 _ hm;simp only[go_sem,seval,Ai9,hle,e0,Gj];refine Af (H x Hm _) ?_;simp only[go_sem,seval];refine⟨by omega,?_⟩;rw[w64 (n:=(x:Int)+1) (by unfold fit;omega)];exact Bk (by simp[Ba,Eh])
 ·exact Bk (by simp[Ba,Eh])
def Sm(t:Tm)(V:Int->Int):Prop:=(∀m,Con 61 [.agg true (tv t),.int .i64 m] (.int .i64 (V m)))/\∀m,0<=m->m<=1000000->V m=min (tsz t:Int) (m+1)
def A1r(t:Tm):TOk t->∃V,Sm t V:=by
 induction t using Tm.ind with
 |h k i j n l ih=>
  intro hok;obtain⟨_,_,_,_,hb,hl⟩:=Ww hok;have H:∀x:Nat,∃V,x<l.length->Sm (l[x]?.getD default) V:=fun x=>by
   by_cases hx:x<l.length
   ·obtain⟨V,hV⟩:=ih _ (Hi (d:=default) hx) (hl _ (Hi (d:=default) hx));exact⟨V,fun _=>hV⟩
   ·exact⟨fun _=>0,fun h=>absurd h hx⟩
  obtain⟨V,hV⟩:=Classical.axiomOfChoice H;have Cc:∀y,y<l.length->(l.map tv)[y]?.getD []=tv (l[y]?.getD default):=fun y hy=>by
   rw[q_ji,q_f hy];rfl
  have P:∀most,∃z,Con 61 [.agg true (tv (.mk k i j n l)),.int .i64 most] (.int .i64 z)/\(0<=most->most<=1000000->z=min (tsz (.mk k i j n l):Int) (most+1)):=fun most=>by
   obtain⟨x,Jp,hx2,Ri⟩:=least (fun x=>most<Eh 1 V most x) (l.map tv).length;refine⟨Eh 1 V most x,?_,fun h1 h2=>?_⟩
   ·rw[As];exact Bh4 k i j n most (l.map tv) V (by simpa using hb) (rows5 l) (fun y hy m=>by
     rw[q_g] at hy;rw[Cc y hy];exact (hV y hy).1 m) x Jp hx2 Ri
   ·have Ai8:∀y,y<x->Eh 1 V most y<=most:=fun y hy=>by have:=Ri y hy;omega
    rw[q_g] at Jp hx2;have:=Bii (a:=1) (T:=fun y=>tsz (l[y]?.getD default)) (n:=l.length) (by omega) (by omega) h1 h2 (fun y hy m q1 q2=>(hV y hy).2 m q1 q2) x Jp Ai8;rw[Ia,<-Asw];rcases hx2 with rfl|hx2
    ·rw[this];omega
    ·have hle:=Bf1 (T:=fun y=>tsz (l[y]?.getD default)) Jp;omega
  obtain⟨Z,hZ⟩:=Classical.axiomOfChoice P;exact⟨Z,fun m=>(hZ m).1,fun m=>(hZ m).2⟩
def Anr{t:Tm}(ht:TOk t){m:Int}(h0:0<=m)(h1:m<=1000000):Con 61 [.agg true (tv t),.int .i64 m] (.int .i64 (min (tsz t:Int) (m+1))):=by
 obtain⟨V,h2,h3⟩:=A1r t ht;have:=h2 m
 rwa [h3 m h0 h1] at this
def HsC(B:BT)(t:Tm):Prop:=(∃u,HS (Bm B) t u/\Con 60 [.agg true (tv t)] (.tup [.agg true (tv u),.bool true]))\/(HN (Bm B) t/\Con 60 [.agg true (tv t)] (.tup [.agg true (tv t),.bool false]))
section
variable{B:BT}{C:Nat}
def Baq{t u:Tm}(h:Con 25 [.agg true (tv t)] (Mq (Bm B t) t))(hp:Bm B t=some u):HsC B t:=by
 refine .inl ⟨u,.here hp,?_⟩;rw[hp] at h;have h':Con 25 [.agg true (tv t)] (.tup [.agg true (tv u),.bool true]):=h;refine Au mixed Tryz.func60 tr60 ?_;simp only[go_sem,seval];refine Af h' ?_;simp only[go_sem,seval]
def Bar{k i j n:Int}{l:List Tm}(h:Con 25 [.agg true (tv (.mk k i j n l))] (Mq (Bm B (.mk k i j n l)) (.mk k i j n l)))(hp:Bm B (.mk k i j n l)=none)(hk:k≠15/\k≠18/\k≠19/\k≠22):HsC B (.mk k i j n l):=by
 refine .inr ⟨.mk hp (fun p h=>?_),?_⟩
 ·have:=Mr h;simp only[Tm.k] at this;omega
 rw[hp] at h;have h':Con 25 [.agg true (tv (.mk k i j n l))] (.tup [.agg true (tv (.mk k i j n l)),.bool false]):=h;rw[As] at h' |-;obtain⟨h1,h2,h3,h4⟩:=hk;have q1:(k==15)=false:=Ao h1;have q2:(k==18)=false:=Ao h2;have q3:(k==19)=false:=Ao h3;have q4:(k==22)=false:=Ao h4;refine Au mixed Tryz.func60 tr60 ?_;simp only[go_sem,seval];refine Af h' ?_;simp only[go_sem,seval,q1,q2,q3,q4]
def Bam{i j n:Int}{l:List Tm}(ht:PT C 4000 (.mk 15 i j n l))(h:Con 25 [.agg true (tv (.mk 15 i j n l))] (Mq (Bm B (.mk 15 i j n l)) (.mk 15 i j n l)))(hp:Bm B (.mk 15 i j n l)=none)(ih:∀t∈l,PT C 4000 t->HsC B t):HsC B (.mk 15 i j n l):=by
 have hl:=kl ht.sf (by decide);rw[kids15] at hl;obtain⟨a,b,rfl⟩:=len2 (l:=l) (by omega);rw[hp] at h;have h':Con 25 [.agg true (tv (.mk 15 i j n [a,b]))] (.tup [.agg true (tv (.mk 15 i j n [a,b])),.bool false]):=h;have k0:PT C 4000 a:=(ht.kid (p:=0) (show 0<2 by decide) (show bnd 15 0=0 by decide)).1;rcases ih a (by simp) k0 with⟨u,hs,hc⟩|⟨hn,hc⟩
 ·have hd:HS (Bm B) (.mk 15 i j n [a,b]) (.mk 15 i j n [u,b]):=.down (p:=0) hp rfl hs;refine .inl ⟨_,hd,?_⟩;have hw:=y8 (.mk 15 i j n [a,b]) u (by simp[Tm.kids]) 0 (by decide);have Ig:Con 26 [.agg true (tv (.mk 15 i j n [a,b])),.int .i64 0,.agg true (tv u)] (.agg true (tv (.mk 15 i j n [u,b]))):=hw;rw[As] at h' Ig |-;rw[As] at Ig |-;simp only[q_h,q_i] at h' Ig |-;refine Au mixed Tryz.func60 tr60 ?_
  repeat' first
  |simp only[go_sem,seval]
  |refine Af h' ?_
  |refine Af hc ?_
  |refine Af Ig ?_
 ·refine .inr ⟨.mk hp (fun p h=>?_),?_⟩
  ·have e:p=0:=by
    have:stk 15=some p:=h;have e2:stk 15=some 0:=by decide
    rw[e2,q_b] at this;exact this.symm
   subst e;exact hn
  rw[As] at h' |-;simp only[q_h,q_i] at h' |-;refine Au mixed Tryz.func60 tr60 ?_
  repeat' first
  |simp only[go_sem,seval]
  |refine Af h' ?_
  |refine Af hc ?_
def Ban{i j n:Int}{l:List Tm}(ht:PT C 4000 (.mk 18 i j n l))(h:Con 25 [.agg true (tv (.mk 18 i j n l))] (Mq (Bm B (.mk 18 i j n l)) (.mk 18 i j n l)))(hp:Bm B (.mk 18 i j n l)=none)(ih:∀t∈l,PT C 4000 t->HsC B t):HsC B (.mk 18 i j n l):=by
 have hl:=kl ht.sf (by decide);rw[kids18] at hl;obtain⟨a,rfl⟩:=len1 (l:=l) (by omega);rw[hp] at h;have h':Con 25 [.agg true (tv (.mk 18 i j n [a]))] (.tup [.agg true (tv (.mk 18 i j n [a])),.bool false]):=h;have k0:PT C 4000 a:=(ht.kid (p:=0) (show 0<1 by decide) (show bnd 18 0=0 by decide)).1;rcases ih a (by simp) k0 with⟨u,hs,hc⟩|⟨hn,hc⟩
 ·have hd:HS (Bm B) (.mk 18 i j n [a]) (.mk 18 i j n [u]):=.down (p:=0) hp rfl hs;refine .inl ⟨_,hd,?_⟩;have hw:=y8 (.mk 18 i j n [a]) u (by simp[Tm.kids]) 0 (by decide);have Ig:Con 26 [.agg true (tv (.mk 18 i j n [a])),.int .i64 0,.agg true (tv u)] (.agg true (tv (.mk 18 i j n [u]))):=hw;rw[As] at h' Ig |-;rw[As] at Ig |-;simp only[q_h,q_i] at h' Ig |-;refine Au mixed Tryz.func60 tr60 ?_
  repeat' first
  |simp only[go_sem,seval]
  |refine Af h' ?_
  |refine Af hc ?_
  |refine Af Ig ?_
 ·refine .inr ⟨.mk hp (fun p h=>?_),?_⟩
  ·have e:p=0:=by
    have:stk 18=some p:=h;have e2:stk 18=some 0:=by decide
    rw[e2,q_b] at this;exact this.symm
   subst e;exact hn
  rw[As] at h' |-;simp only[q_h,q_i] at h' |-;refine Au mixed Tryz.func60 tr60 ?_
  repeat' first
  |simp only[go_sem,seval]
  |refine Af h' ?_
  |refine Af hc ?_
def Bao{i j n:Int}{l:List Tm}(ht:PT C 4000 (.mk 19 i j n l))(h:Con 25 [.agg true (tv (.mk 19 i j n l))] (Mq (Bm B (.mk 19 i j n l)) (.mk 19 i j n l)))(hp:Bm B (.mk 19 i j n l)=none)(ih:∀t∈l,PT C 4000 t->HsC B t):HsC B (.mk 19 i j n l):=by
 have hl:=kl ht.sf (by decide);rw[kids19] at hl;obtain⟨a,rfl⟩:=len1 (l:=l) (by omega);rw[hp] at h;have h':Con 25 [.agg true (tv (.mk 19 i j n [a]))] (.tup [.agg true (tv (.mk 19 i j n [a])),.bool false]):=h;have k0:PT C 4000 a:=(ht.kid (p:=0) (show 0<1 by decide) (show bnd 19 0=0 by decide)).1;rcases ih a (by simp) k0 with⟨u,hs,hc⟩|⟨hn,hc⟩
 ·have hd:HS (Bm B) (.mk 19 i j n [a]) (.mk 19 i j n [u]):=.down (p:=0) hp rfl hs;refine .inl ⟨_,hd,?_⟩;have hw:=y8 (.mk 19 i j n [a]) u (by simp[Tm.kids]) 0 (by decide);have Ig:Con 26 [.agg true (tv (.mk 19 i j n [a])),.int .i64 0,.agg true (tv u)] (.agg true (tv (.mk 19 i j n [u]))):=hw;rw[As] at h' Ig |-;rw[As] at Ig |-;simp only[q_h,q_i] at h' Ig |-;refine Au mixed Tryz.func60 tr60 ?_
  repeat' first
  |simp only[go_sem,seval]
  |refine Af h' ?_
  |refine Af hc ?_
  |refine Af Ig ?_
 ·refine .inr ⟨.mk hp (fun p h=>?_),?_⟩
  ·have e:p=0:=by
    have:stk 19=some p:=h;have e2:stk 19=some 0:=by decide
    rw[e2,q_b] at this;exact this.symm
   subst e;exact hn
  rw[As] at h' |-;simp only[q_h,q_i] at h' |-;refine Au mixed Tryz.func60 tr60 ?_
  repeat' first
  |simp only[go_sem,seval]
  |refine Af h' ?_
  |refine Af hc ?_
def Bap{i j n:Int}{l:List Tm}(ht:PT C 4000 (.mk 22 i j n l))(h:Con 25 [.agg true (tv (.mk 22 i j n l))] (Mq (Bm B (.mk 22 i j n l)) (.mk 22 i j n l)))(hp:Bm B (.mk 22 i j n l)=none)(ih:∀t∈l,PT C 4000 t->HsC B t):HsC B (.mk 22 i j n l):=by
 have hl:=kl ht.sf (by decide);rw[kids22] at hl;obtain⟨x1,x2,x3,x4,x5,a,rfl⟩:=len6 (l:=l) (by omega);rw[hp] at h;have h':Con 25 [.agg true (tv (.mk 22 i j n [x1,x2,x3,x4,x5,a]))] (.tup [.agg true (tv (.mk 22 i j n [x1,x2,x3,x4,x5,a])),.bool false]):=h;have k0:PT C 4000 a:=(ht.kid (p:=5) (show 5<6 by decide) (show bnd 22 5=0 by decide)).1;rcases ih a (by simp) k0 with⟨u,hs,hc⟩|⟨hn,hc⟩
 ·have hd:HS (Bm B) (.mk 22 i j n [x1,x2,x3,x4,x5,a]) (.mk 22 i j n [x1,x2,x3,x4,x5,u]):=.down (p:=5) hp rfl hs;refine .inl ⟨_,hd,?_⟩;have hw:=y8 (.mk 22 i j n [x1,x2,x3,x4,x5,a]) u (by simp[Tm.kids]) 5 (by decide);have Ig:Con 26 [.agg true (tv (.mk 22 i j n [x1,x2,x3,x4,x5,a])),.int .i64 5,.agg true (tv u)] (.agg true (tv (.mk 22 i j n [x1,x2,x3,x4,x5,u]))):=hw;rw[As] at h' Ig |-;rw[As] at Ig |-;simp only[q_h,q_i] at h' Ig |-;refine Au mixed Tryz.func60 tr60 ?_
  repeat' first
  |simp only[go_sem,seval]
  |refine Af h' ?_
  |refine Af hc ?_
  |refine Af Ig ?_
 ·refine .inr ⟨.mk hp (fun p h=>?_),?_⟩
  ·have e:p=5:=by
    have:stk 22=some p:=h;have e2:stk 22=some 5:=by decide
    rw[e2,q_b] at this;exact this.symm
   subst e;exact hn
  rw[As] at h' |-;simp only[q_h,q_i] at h' |-;refine Au mixed Tryz.func60 tr60 ?_
  repeat' first
  |simp only[go_sem,seval]
  |refine Af h' ?_
  |refine Af hc ?_
def Am6(L:Ve B)(hC:C<=60000000)(t:Tm):PT C 4000 t->HsC B t:=by
 induction t using Tm.ind with
 |h k i j n l ih=>
  intro ht;have h:=Ag3 (B:=B) L ht hC;cases hp:Bm B (.mk k i j n l) with
  |some u=>exact Baq h hp
  |none=>
   by_cases h1:k=15
   ·subst h1;exact Bam ht h hp ih
   by_cases h2:k=18
   ·subst h2;exact Ban ht h hp ih
   by_cases h3:k=19
   ·subst h3;exact Bao ht h hp ih
   by_cases h4:k=22
   ·subst h4;exact Bap ht h hp ih
   exact Bar h hp ⟨h1,h2,h3,h4⟩
end
def Ek(N:Nat)(o:Bool):List SV:=[.int .i64 N,.bool o]
inductive CHd:Nat->Tm->Nat->Bool->Tm->Prop
 |stop {N:Nat} {t:Tm} (hc:Con 60 [.agg true (tv t)] (.tup [.agg true (tv t),.bool false])):CHd N t N false t
 |far {N:Nat} {t u:Tm} (hc:Con 60 [.agg true (tv t)] (.tup [.agg true (tv u),.bool true])) (hN:N=4000):CHd N t (N+1) true u
 |big {N:Nat} {t u:Tm} (hc:Con 60 [.agg true (tv t)] (.tup [.agg true (tv u),.bool true])) (hN:N+1<=4000) (hu:TOk u) (hs:4000<tsz u):CHd N t (N+1) true u
 |step {N N':Nat} {t u t':Tm} {o:Bool} (hc:Con 60 [.agg true (tv t)] (.tup [.agg true (tv u),.bool true])) (hN:N+1<=4000) (hu:TOk u) (hs:tsz u<=4000) (hr:CHd (N+1) u N' o t'):CHd N t N' o t'
def HdL(G:GV)(sid:Nat)(t:Tm)(out:HOut)(G':GV)(n:Nat):Prop:=
 vcI (Bp Tryz.prog fun _ _=>False) a36_21 (bk 0 (sq (Bp Tryz.prog fun _ _=>False) a36_25 (rtG [.cell 4 true 5] out G'))) n ⟨(.gp sid 0::.J::.J::.ref 1 0 0 0::.ref 2 0 0 0::Bo (jk4 (.J::[]))),[gOb G,⟨true,5,[tv t],0,0,true⟩,⟨true,5,[[.int .i64 0,.int .i64 0,.int .i64 0,.int .i64 0,.nils]],0,0,true⟩]⟩
def Api{G:GV}{sid N:Nat}{t:Tm}(hG:G[sid]?=some (Ek N true)):HdL G sid t (.ret (.agg true (tv t))) G 1:=by
 refine Bd ?_;simp only[go_sem,seval,hG,Ek]
def Bac{G:GV}{sid N N':Nat}{t t':Tm}{o:Bool}(h:CHd N t N' o t')(hG:G[sid]?=some (Ek N false))(hN:N<=4000):∃n,HdL G sid t (.ret (.agg true (tv t'))) (G.set sid (Ek N' o)) n:=by
 induction h generalizing G with
 |@stop N t hc=>
  have hz:=Ch t;refine⟨1,Bd ?_⟩;rw[show G.set sid (Ek N false)=G from Adg hG];simp only[go_sem,seval,hG,Ek,hz];refine Af hc ?_;simp only[go_sem,seval,hz]
 |@far N t u hc hN4=>
  have hz:=Ch t;have hzu:=Ch u;have eN:((N+1:Nat):Int)=(N:Int)+1:=rfl;have h2:=Api (G:=G.set sid (Ek (N+1) true)) (t:=u) (sid:=sid) (N:=N+1) (Ex hG);refine⟨2,Bd ?_⟩;unfold HdL at h2;simp only[Ek,eN] at h2 |-;simp only[go_sem,seval,hG,Ek,hz];refine Af hc ?_;simp only[go_sem,seval,hzu,hG,Ek,Ex hG,Rp,Ou,w64 (show fit ((N:Int)+1) by unfold fit;omega),q_jn (show (N:Int)+1 > 4000 by omega)];exact Dl (Fp 3 (by simp[Ba]) (by simp) (by simp[Cx]) (by simp[gOb])) h2
 |@big N t u hc hN1 hu hs=>
  have hz:=Ch t;have hzu:=Ch u;have eN:((N+1:Nat):Int)=(N:Int)+1:=rfl;have h2:=Api (G:=G.set sid (Ek (N+1) true)) (t:=u) (sid:=sid) (N:=N+1) (Ex hG);have Uh:=Anr hu (m:=4000) (by decide) (by decide);refine⟨2,Bd ?_⟩;unfold HdL at h2;simp only[Ek,eN] at h2 |-
  repeat' first
  |simp only[go_sem,seval,hG,Ek,hz,hzu,Ex hG,Rp,Ou,w64 (show fit ((N:Int)+1) by unfold fit;omega),q_je (show ¬(N:Int)+1 > 4000 by omega),q_jn (show 4000<min (tsz u:Int) 4001 by omega)]
  |refine Af hc ?_
  |refine Af Uh ?_
  exact Dl (Fp 3 (by simp[Ba]) (by simp) (by simp[Cx]) (by simp[gOb])) h2
 |@step N N' t u t' o hc hN1 hu hs hr ih=>
  have hz:=Ch t;have hzu:=Ch u;have eN:((N+1:Nat):Int)=(N:Int)+1:=rfl;obtain⟨n,h2⟩:=ih (G:=G.set sid (Ek (N+1) false)) (Ex hG) hN1;have Uh:=Anr hu (m:=4000) (by decide) (by decide);refine⟨n+1,Bd ?_⟩;rw[Ou] at h2;unfold HdL at h2;simp only[Ek,eN] at h2 |-
  repeat' first
  |simp only[go_sem,seval,hG,Ek,hz,hzu,Ex hG,Rp,Ou,w64 (show fit ((N:Int)+1) by unfold fit;omega),q_je (show ¬(N:Int)+1 > 4000 by omega),q_je (show ¬4000<min (tsz u:Int) 4001 by omega)]
  |refine Af hc ?_
  |refine Af Uh ?_
  exact Dl (Fp 3 (by simp[Ba]) (by simp) (by simp[Cx]) (by simp[gOb])) h2
def A9g{G:GV}{sid N N':Nat}{t t':Tm}{o:Bool}(h:CHd N t N' o t')(hG:G[sid]?=some (Ek N false))(hN:N<=4000):Am 36 G [.gp sid 0,.agg true (tv t)] (.ret (.agg true (tv t'))) (G.set sid (Ek N' o)):=by
 obtain⟨n,h2⟩:=Bac h hG hN;refine Bh mixed Tryz.func36 tr36 ?_;simp only[go_sem,seval,Ch];exact Cv n (Dl (Bk (by simp[Ba])) h2)
end Go.Proofs.YtgdkddjdhijfnaaGreatDoor.Abs
