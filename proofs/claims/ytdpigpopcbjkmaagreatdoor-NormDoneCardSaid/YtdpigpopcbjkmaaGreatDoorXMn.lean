import Derived.Test.YtdpigpopcbjkmaaGreatDoorXVb
import Derived.Test.YtdpigpopcbjkmaaGreatDoorXEv
import Derived.Test.YtdpigpopcbjkmaaGreatDoorXFg
import Derived.Test.YtdpigpopcbjkmaaGreatDoorXRo
import Derived.Test.YtdpigpopcbjkmaaGreatDoorXAfB
set_option linter.unusedSimpArgs false
set_option linter.unusedVariables false
set_option maxRecDepth 20000
set_option maxHeartbeats 4000000
namespace Go.Proofs.YtdpigpopcbjkmaaGreatDoor.Abs
open Go Go.RowKit Go.Proofs.YtdpigpopcbjkmaaGreatDoor
section
variable{B:BT}{C:Nat}
theorem ParL.rev{l l':List Tm}(h:ParL B l l'):ParL B l.reverse l'.reverse:=by
 refine⟨by simp[h.1],fun p t t' ht Ln=>?_⟩;have hp:=Dh ht;rw[List.length_reverse] at hp;rw[List.getElem?_reverse hp] at ht;rw[List.getElem?_reverse (by rw[h.1];exact hp),h.1] at Ln;exact h.2 _ _ _ ht Ln
theorem Ba2(hB:Fs B){k i j n:Int}{l l':List Tm}{u u':Tm}(h:Sf C (.mk k i j n l))(hp:ParL B l l')(hu:Az B (.mk k i j n l)=some u)(Dx:Az B (.mk k i j n l')=some u'):Par B u u':=by
 have h2:k≠2:=fun e=>by rw[Jh (by simp only[Tm.k];omega)] at hu;cases hu
 have hl:=(h.node h2).2.2
 by_cases Ed:k=15
 ·subst Ed;rw[Qt rfl] at hu Dx;rw[kids15] at hl;split at hu
  ·rename_i c;split at Dx
   ·cases hu;cases Dx;have s0:=Qq (c:=15) (p:=0) (m:=0) h rfl (by show 0<l.length;omega) (by decide);have s1:=Qq (c:=15) (p:=1) (m:=0) h rfl (by show 1<l.length;omega) (by decide);have Dm:=Hu s0 (by omega);rw[c,kids14] at Dm;exact Ba3 hB (hp.kid (by omega)) s1 (Afi (hp.kid (by omega)) (by unfold isV;omega) (by omega)) (Qq (p:=1) (m:=1) s0 c (by omega) (by decide))
   ·cases Dx
  ·cases hu
 by_cases Ew:k=18
 ·subst Ew;rw[Qu rfl] at hu Dx;rw[kids18] at hl;split at hu
  ·rename_i c;split at Dx
   ·cases hu;cases Dx;have s0:=Qq (c:=18) (p:=0) (m:=0) h rfl (by show 0<l.length;omega) (by decide);have Dm:=Hu s0 (by omega);rw[c,kids17] at Dm;exact Afi (hp.kid (by omega)) (by unfold isV;omega) (by omega)
   ·cases Dx
  ·cases hu
 by_cases Ex:k=19
 ·subst Ex;rw[Qv rfl] at hu Dx;rw[kids19] at hl;split at hu
  ·rename_i c;split at Dx
   ·cases hu;cases Dx;have s0:=Qq (c:=19) (p:=0) (m:=0) h rfl (by show 0<l.length;omega) (by decide);have Dm:=Hu s0 (by omega);rw[c,kids17] at Dm;exact Afi (hp.kid (by omega)) (by unfold isV;omega) (by omega)
   ·cases Dx
  ·cases hu
 by_cases Cy:k=22
 ·subst Cy;rw[Qw rfl] at hu Dx;rw[kids22] at hl;split at hu
  ·split at Dx
   ·cases hu;cases Dx;exact hp.kid (by omega)
   ·cases Dx
  ·cases hu
 by_cases Bz:k=23
 ·subst Bz;rw[Qx rfl] at hu Dx;simp only[Tm.n,Tm.i,Tm.j,Tm.kids] at hu Dx;cases hb:B n i j with
  |none=>rw[hb] at hu;cases hu
  |some q=>
   rw[hb,Option.map_some,q_b] at hu Dx;subst hu Dx;refine Baz (C:=C) hB hp.rev (fun t ht=>?_) (hB _ _ _ _ hb);obtain⟨p,hp'⟩:=List.getElem?_of_mem (List.mem_reverse.1 ht);have:=h.kid hp'
   rwa [bnd23,Nat.add_zero] at this
 ·rw[Jh (by simp only[Tm.k];omega)] at hu;cases hu
mutual
def cd(B:BT):Tm->Tm
 |.mk k i j n l=>if k=2\/k=0 then .mk k i j n l else if (Az B (.mk k i j n l)).isSome then (Az B (.mk k i j n (cdL B l))).getD (vT 0) else .mk k i j n (cdL B l)
def cdL(B:BT):List Tm->List Tm
 |[]=>[]
 |t::l=>cd B t::cdL B l
end
theorem Ahf:∀l:List Tm,cdL B l=l.map (cd B):=by
 intro l
 induction l with
 |nil=>rfl
 |cons t l ih=>rw[cdL,ih];rfl
theorem Ang(hB:Fs B){t u:Tm}(h:Par B t u):∀{C:Nat},Sf C t->Par B u (cd B t):=by
 have key:∀{k i j n:Int} {l l':List Tm} {C:Nat},k≠2->k≠0->ParL B l l'->Sf C (.mk k i j n l)->(∀(p:Nat) t t',l[p]?=some t->l'[p]?=some t'->∀{C:Nat},Sf C t->Par B t' (cd B t)) ->
   Sf C (.mk k i j n l')/\ParL B l' (cdL B l)/\((Az B (.mk k i j n l)).isSome=true->(Az B (.mk k i j n l')).isSome=true/\Az B (.mk k i j n (cdL B l))=some (cd B (.mk k i j n l)))/\(¬(Az B (.mk k i j n l)).isSome=true->cd B (.mk k i j n l)=.mk k i j n (cdL B l)):=by
  intro k i j n l l' C h2 h0 hp h ih;have Dn:Sf C (.mk k i j n l'):=Abv h h2 hp.1 (fun p t ht=>by obtain⟨s,hs⟩:=Xv hp.1 ht;exact d8 hB (hp.2 p s t hs ht) (h.kid hs));have hL:ParL B l' (cdL B l):=by
   refine⟨by rw[Ahf,q_g,hp.1],fun p t' c Ln hc=>?_⟩;rw[Ahf,List.getElem?_map] at hc;obtain⟨s,hs,rfl⟩:=Option.map_eq_some_iff.1 hc;exact ih p s t' hs Ln (h.kid hs)
  refine⟨Dn,hL,fun hr=>?_,fun hr=>?_⟩
  ·have r1:=Anm h hp hr;have r2:=Anm Dn hL r1;refine⟨r1,?_⟩;rw[cd,if_neg (by omega),if_pos hr];obtain⟨c,hc⟩:=Option.isSome_iff_exists.1 r2;rw[hc];rfl
  ·rw[cd,if_neg (by omega),if_neg hr]
 induction h with
 |var i=>intro C _;unfold vT;rw[cd,if_pos (.inl rfl)];exact .var i
 |@nd k i j n l l' h2 h0 hl hk ih=>
  intro C h;obtain⟨Dn,hL,q1,q2⟩:=key h2 h0 ⟨hl,hk⟩ h ih
  by_cases hr:(Az B (.mk k i j n l)).isSome=true
  ·obtain⟨r1,r2⟩:=q1 hr;exact .st h2 h0 hL.1 hL.2 r1 r2
  ·rw[q2 hr];exact .nd h2 h0 hL.1 hL.2
 |@st k i j n l l' u h2 h0 hl hk hr hu ih=>
  intro C h;obtain⟨Dn,hL,q1,q2⟩:=key h2 h0 ⟨hl,hk⟩ h ih;obtain⟨_,r2⟩:=q1 hr;exact Ba2 hB Dn hL hu r2
inductive Prs(B:BT):Tm->Tm->Prop
 |refl (t:Tm):Prs B t t
 |step {t u w:Tm} (h:Par B t u) (hr:Prs B u w):Prs B t w
theorem Prs.trans{t u w:Tm}(h:Prs B t u)(k:Prs B u w):Prs B t w:=by
 induction h with
 |refl=>exact k
 |step h _ ih=>exact .step h (ih k)
theorem Ans(hB:Fs B){t u:Tm}(h:Prs B t u):Sf C t->Sf C u:=by
 induction h with
 |refl=>exact id
 |step h _ ih=>exact fun hs=>ih (d8 hB h hs)
theorem strip(hB:Fs B){t w:Tm}(h:Prs B t w):∀{u:Tm},Sf C t->Par B t u->∃x,Prs B u x/\Par B w x:=by
 induction h with
 |refl t=>intro u _ h;exact⟨u,.refl u,h⟩
 |step h1 _ ih=>
  intro u hs h;obtain⟨x,k1,k2⟩:=ih (d8 hB h1 hs) (Ang hB h1 hs);exact⟨x,.step (Ang hB h hs) k1,k2⟩
inductive Nm(B:BT):Tm->Prop
 |mk {t:Tm} (h:Az B t=none) (hk:∀(p:Nat) s,t.kids[p]?=some s->Nm B s):Nm B t
end
open Go Go.RowKit Go.Proofs.YtdpigpopcbjkmaaGreatDoor
section
variable{B:BT}{C:Nat}
theorem Anh{t u:Tm}(h:Sf C t)(h2:t.k≠2){p:Nat}(hp:p<t.kids.length)(hu:Par B (Aj t p) u):Par B t (Bm t p u):=by
 have h0:=sf_k h;cases t with
 |mk k i j n l=>
  refine .nd h2 h0 (by simp[Tm.kids]) (fun q s s' hs Dn=>?_);simp only[Tm.kids] at Dn
  by_cases e:p=q
  ·subst e;have Ab:p<l.length:=hp;rw[List.getElem?_set_self Ab,q_b] at Dn;subst Dn;have:Aj (.mk k i j n l) p=s:=by unfold Aj;simp only[Tm.kids,List.getD_eq_getElem?_getD];rw[hs];rfl
   rw[<-this];exact hu
  ·rw[List.getElem?_set_ne e] at Dn;rw[hs,q_b] at Dn;subst Dn;exact Afg (h.kid hs)
theorem Ba0{t u:Tm}(h:Sf C t)(hp:Az B t=some u):Par B t u:=by
 have h2:t.k≠2:=fun e=>by rw[Jh (by omega)] at hp;cases hp
 have h0:=sf_k h;cases t with
 |mk k i j n l=>exact .st h2 h0 rfl (fun p s s' hs Dn=>by rw[hs,q_b] at Dn;subst Dn;exact Afg (h.kid hs)) (by rw[hp];rfl) hp
theorem A4t{t u:Tm}(h:HS (Az B) t u):∀{C:Nat},Sf C t->Par B t u:=by
 induction h with
 |here h=>intro C hs;exact Ba0 hs h
 |@down t u p h hp hs ih=>
  intro C ht;obtain⟨h2,h0,hl,hb⟩:=Sl ht hp;exact Anh ht h2 hl (ih (Id ht hl))
theorem Ba6(hB:Fs B){N N':Nat}{t t':Tm}{o:Bool}(h:PHd B N t N' o t')(ho:o=false):∀{C:Nat},Sf C t->Sf C t'/\Prs B t t'/\HN (Az B) t':=by
 induction h with
 |stop h=>intro C ht;exact⟨ht,.refl _,h⟩
 |out=>cases ho
 |step h _ _ _ ih=>
  intro C ht;obtain⟨a,r,k⟩:=ih ho (Abw hB h ht);exact⟨a,.step (A4t h ht) r,k⟩
theorem Bdd(hB:Fs B){s s':Tm}(h:Prs B s s'):∀{t:Tm} {p:Nat},Sf C t->t.k≠2->p<t.kids.length->Aj t p=s->Prs B t (Bm t p s'):=by
 induction h with
 |refl s=>
  intro t p ht h2 hp e;have:Bm t p s=t:=by
   cases t with
   |mk k i j n l=>
    unfold Bm;congr 1;apply List.ext_getElem?;intro q;simp only[Tm.kids]
    by_cases h:p=q
    ·subst h;have Ab:p<l.length:=hp;rw[List.getElem?_set_self Ab,q_f Ab,<-e];unfold Aj;simp only[Tm.kids,List.getD_eq_getElem?_getD,q_f Ab,Option.getD_some]
    ·rw[List.getElem?_set_ne h]
  rw[this];exact .refl t
 |@step s u w h hr ih=>
  intro t p ht h2 hp e;subst e;have h1:=Anh ht h2 hp h;have e1:(Bm t p u).k=t.k:=rfl;have e2:(Bm t p u).kids=t.kids.set p u:=rfl;have e3:Aj (Bm t p u) p=u:=by
   unfold Aj;rw[e2,List.getD_eq_getElem?_getD,List.getElem?_set_self hp];rfl
  have h3:=ih (t:=Bm t p u) (p:=p) (d8 hB h1 ht) (by rw[e1];exact h2) (by rw[e2,List.length_set];exact hp) e3;have e4:Bm (Bm t p u) p w=Bm t p w:=by unfold Bm;simp[Tm.kids,Tm.k,Tm.i,Tm.j,Tm.n]
  rw[e4] at h3;exact .step h1 h3
theorem Bdc(hB:Fs B){k i j n:Int}(h2:k≠2):∀(rs d l:List Tm),Sf C (.mk k i j n (d++l))->rs.length=l.length->(∀(p:Nat) s s',l[p]?=some s->rs[p]?=some s'->Prs B s s')->Prs B (.mk k i j n (d++l)) (.mk k i j n (d++rs)):=by
 intro rs
 induction rs with
 |nil=>intro d l hs hl _;cases l with
  |nil=>exact .refl _
  |cons a l=>simp at hl
 |cons r rs ih=>
  intro d l hs hl hk;cases l with
  |nil=>simp at hl
  |cons a l=>
   have h1:=Bdd hB (hk 0 a r rfl rfl) (t:=.mk k i j n (d++a::l)) (p:=d.length) hs h2 (by simp[Tm.kids]) (by unfold Aj;simp[Tm.kids]);have e:Bm (.mk k i j n (d++a::l)) d.length r=.mk k i j n ((d++[r])++l):=by unfold Bm;simp[Tm.kids,Tm.k,Tm.i,Tm.j,Tm.n]
   rw[e] at h1;have h3:=ih (d++[r]) l (Ans hB h1 hs) (by simpa using hl) (fun p s s' h h'=>hk (p+1) s s' (by simpa using h) (by simpa using h'));rw[List.append_assoc,List.singleton_append] at h3;rw[List.append_assoc,List.singleton_append] at h1;simp only[List.append_assoc,List.singleton_append] at h1 h3;exact h1.trans h3
theorem Akm{P:Tm->Option Tm}{t u:Tm}(h:HS P t u):¬HN P t:=by
 induction h with
 |here h=>intro hn;cases hn with
  |mk h' _=>rw[h] at h';cases h'
 |down h hp _ ih=>intro hn;cases hn with
  |mk _ hk=>exact ih (hk _ hp)
theorem Anr(hB:Fs B){x y:Tm ⊕ List Tm}{N N':Nat}{o o':Bool}(h:PNx B x N o N' o' y)(Cv:o'=false) :
  (∀t r,x=.inl t->y=.inl r->∀C,Sf C t->Prs B t r/\Nm B r/\Sf C r/\(HN (Az B) t->r.k=t.k)) /\
  (∀l rs,x=.inr l->y=.inr rs->rs.length=l.length/\∀(p:Nat) s s',l[p]?=some s->rs[p]?=some s'->∀C,Sf C s->Prs B s s'/\Nm B s'/\(HN (Az B) s->s'.k=s.k)):=by
 induction h with
 |@tm t t1 N N1 N2 o1 o2 rs h hk ih=>
  have Ix:=Xa hk Cv;refine⟨fun t' r e1 e2 C hs=>?_,fun l rs' e=>by cases e⟩;cases e1;cases e2;obtain⟨a,w,hn⟩:=Ba6 hB h Ix hs;obtain⟨hl,hr⟩:=(ih Cv).2 t1.kids rs rfl rfl;have Wh:HN (Az B) t->t1.k=t.k:=fun hn=>by
   cases h with
   |stop=>rfl
   |out h=>exact absurd hn (Akm h)
   |step h=>exact absurd hn (Akm h)
  by_cases h2:t1.k=2
  ·cases t1 with
   |mk k i j n l=>
    have Dr:k=2:=h2;subst Dr;obtain⟨q,rfl,rfl,rfl,rfl,_⟩:=a.vr;simp only[Tm.kids] at hl hr;have:rs=[]:=List.length_eq_zero_iff.1 hl;subst this;exact⟨w,.mk (Jh (by simp[Tm.k])) (fun p s hs=>by cases hs),a,Wh⟩
  ·have Kf:Prs B t1 (.mk t1.k t1.i t1.j t1.n rs):=by
    cases t1 with
    |mk k i j n l=>
     have:=Bdc (C:=C) hB (i:=i) (j:=j) (n:=n) (show k≠2 from h2) rs [] l a hl (fun p s s' h h'=>(hr p s s' h h' _ (a.kid h)).1);rw[List.nil_append,List.nil_append] at this;exact this
   have hsr:=Ans hB Kf a;refine⟨w.trans Kf,.mk ?_ (fun p s' Dn=>?_),hsr,Wh⟩
   ·cases t1 with
    |mk k i j n l=>
     simp only[Tm.k,Tm.i,Tm.j,Tm.n,Tm.kids] at *
     cases hn with
     |mk hp Kt=>
      have hln:=(a.node h2).2.2;have kk:∀p,stk k=some p->(Aj (.mk k i j n rs) p).k=(Aj (.mk k i j n l) p).k:=fun p hp=>by
       obtain⟨_,_,Ab,hb⟩:=Sl a hp;have Ab:p<l.length:=Ab;have g1:l[p]?=some l[p]:=q_f Ab;have g2:rs[p]?=some rs[p]:=q_f (by omega);have e1:Aj (.mk k i j n l) p=l[p]:=by unfold Aj;simp only[Tm.kids,List.getD_eq_getElem?_getD,g1,Option.getD_some]
       have e2:Aj (.mk k i j n rs) p=rs[p]:=by unfold Aj;simp only[Tm.kids,List.getD_eq_getElem?_getD,g2,Option.getD_some]
       have:=Kt p hp;rw[e1] at this;rw[e1,e2];exact (hr p _ _ g1 g2 _ (a.kid g1)).2.2 this
      by_cases Ed:k=15
      ·subst Ed;rw[Qt rfl] at hp |-;rw[kk 0 (by decide)];split at hp
       ·cases hp
       ·rename_i c;rw[if_neg c]
      by_cases Ew:k=18
      ·subst Ew;rw[Qu rfl] at hp |-;rw[kk 0 (by decide)];split at hp
       ·cases hp
       ·rename_i c;rw[if_neg c]
      by_cases Ex:k=19
      ·subst Ex;rw[Qv rfl] at hp |-;rw[kk 0 (by decide)];split at hp
       ·cases hp
       ·rename_i c;rw[if_neg c]
      by_cases Cy:k=22
      ·subst Cy;rw[Qw rfl] at hp |-;rw[kk 5 (by decide)];split at hp
       ·cases hp
       ·rename_i c;rw[if_neg c]
      by_cases Bz:k=23
      ·subst Bz;rw[Qx rfl] at hp |-;simp only[Tm.n,Tm.i,Tm.j] at hp |-;cases hb:B n i j with
       |none=>rfl
       |some q=>rw[hb] at hp;cases hp
      ·exact Jh (by simp only[Tm.k];omega)
   ·obtain⟨s,hs⟩:=Xv hl Dn;cases t1 with
    |mk k i j n l=>exact (hr p s s' hs Dn _ (a.kid hs)).2.1
 |nil=>exact⟨fun t r e=>(by cases e),fun l rs e1 e2=>by cases e1;cases e2;exact⟨rfl,fun p s s' h=>by cases h⟩⟩
 |out=>cases Cv
 |@cons a r l rs N N1 N2 o1 o2 h hl ih1 ih2=>
  have Ix:=Xa hl Cv;refine⟨fun t r e=>(by cases e),fun l' rs' e1 e2=>?_⟩;cases e1;cases e2;obtain⟨q1,q2⟩:=(ih2 Cv).2 l rs rfl rfl;refine⟨by simp[q1],fun p s s' hs Dn C Zf=>?_⟩;cases p with
  |zero=>
   simp only[List.getElem?_cons_zero,q_b] at hs Dn;subst hs Dn;obtain⟨w1,w2,w3,w4⟩:=(ih1 Ix).1 a r rfl rfl C Zf;exact⟨w1,w2,w4⟩
  |succ p=>exact q2 p s s' (by simpa using hs) (by simpa using Dn) C Zf
end
section
variable{k i j n:Int}{l:List Tm}(p:Int)(ps:List Int)(hl:0<l.length)(hl2:l.length<=1000)
include hl hl2
end
theorem Xd{k i j n:Int}{l:List Tm}(h:TOk (.mk k i j n l)):fit k/\fit i/\fit j/\fit n/\l.length*56<=140737488355328/\∀t∈l,TOk t:=by
 cases h with
 |mk _ _ _ _ _ f1 f2 f3 f4 hb hl=>exact⟨f1,f2,f3,f4,hb,hl⟩
def pm(F:Nat->Int):Nat->Int
 |0=>0
 |x+1=>max (pm F x) (F x)
theorem Bbw(F:Nat->Int):∀x,0<=pm F x:=by
 intro x
 induction x with
 |zero=>exact Int.le_refl _
 |succ x ih=>rw[pm];omega
theorem Anp{F G:Nat->Int}:∀{x:Nat},(∀y,y<x->F y=G y)->pm F x=pm G x:=by
 intro x
 induction x with
 |zero=>intro _;rfl
 |succ x ih=>intro h;rw[pm,pm,ih (fun y hy=>h y (by omega)),h x (by omega)]
theorem Anq{F:Nat->Int}{b:Int}(hb:0<=b):∀{x:Nat},(∀y,y<x->F y<=b)->pm F x<=b:=by
 intro x
 induction x with
 |zero=>intro _;exact hb
 |succ x ih=>intro h;rw[pm];have:=ih (fun y hy=>h y (by omega));have:=h x (by omega);omega
theorem Bbz(F:Nat->Int):∀x,pm F (x+1)=max (F 0) (pm (fun y=>F (y+1)) x):=by
 intro x
 induction x with
 |zero=>simp only[pm];omega
 |succ x ih=>rw[pm,ih,pm];omega
mutual
def Ev:Tm->Int
 |.mk k i _ _ l=>if k=2 then i+1 else Rl k 0 l
def Rl(k:Int):Nat->List Tm->Int
 |_,[]=>0
 |p,t::l=>max (Ev t-Bn k p) (Rl k (p+1) l)
end
theorem A1q(k:Int):∀(l:List Tm) (p:Nat),Rl k p l=pm (fun y=>Ev (l[y]?.getD default)-Bn k ((p+y:Nat):Int)) l.length:=by
 intro l
 induction l with
 |nil=>intro p;rw[Rl];rfl
 |cons t l ih=>
  intro p;rw[Rl,ih,List.length_cons,Bbz];simp only[List.getElem?_cons_zero,List.getElem?_cons_succ,Option.getD_some,Nat.add_zero];congr 1;refine Anp (fun y _=>?_);rw[show p+1+y=p+(y+1) by omega]
theorem u9{k i j n:Int}{l:List Tm}(h:k≠2):Ev (.mk k i j n l)=pm (fun y=>Ev (l[y]?.getD default)-Bn k ((y:Nat):Int)) l.length:=by
 rw[Ev,if_neg h,A1q];exact Anp (fun y _=>by rw[Nat.zero_add])
theorem A1s(t:Tm):∀w,Es t w=true->0<=Ev t/\Ev t<=2147483648:=by
 induction t using Tm.ind with
 |h k i j n l ih=>
  intro w hr
  by_cases h:k=2
  ·have:=Abp hr h;rw[Ev,if_pos h];omega
  ·rw[u9 h];refine⟨Bbw _ _,Anq (by omega) (fun y hy=>?_)⟩;obtain⟨w',hw⟩:=Xb hr (Ig (d:=default) hy);have:=ih _ (Ig (d:=default) hy) w' hw;have:=Nb k y;omega
theorem Bbu{V:Nat->Int}{x:Nat}:(if pm V x<V x then V x else pm V x)=pm V (x+1):=by
 rw[pm];split<;>omega
theorem Avn(k i j n:Int)(rows:GV)(V:Nat->Int)(h2:rows.length*56<=140737488355328)(h5:∀r∈rows,r.length=5)(hk:k≠2)(hV:∀x,x<rows.length->0<=V x/\V x<=2147483648)
  (H:∀x,x<rows.length->Con 41 [.agg true (rows[x]?.getD [])] (.int .i64 (V x))) :
  Con 41 [.agg true [.int .i64 k,.int .i64 i,.int .i64 j,.int .i64 n,.dsl 5 rows]] (.int .i64 (pm (fun x=>V x-Bn k (x:Nat)) rows.length)):=by
 refine Al mixed Tryz.func41 tr41 ?_;have q:(k==2)=false:=Ag hk;simp only[go_sem,seval,q];obtain⟨W,hW⟩:∃W,(fun x:Nat=>V x-Bn k (x:Nat))=W:=⟨_,rfl⟩
 rw[hW];refine Jj (fun x=>⟨(.J::.ref 0 0 0 0::.int .i64 0::.int .i64 (pm W x)::.int .i64 x::.J::.J::.J::.J::.J::.J::.J::.J::.J::.J::.J::.J::.J::.J::.J::.J::.J::.J::.J::.J::.J::.J::.J::.J::.J::.J::.J::[]),[⟨true,5,[[.int .i64 k,.int .i64 i,.int .i64 j,.int .i64 n,.dsl 5 rows]],0,0,true⟩]⟩) rows.length (fun x hx=>?_) ?_
 ·simp only[go_sem,seval];intros;refine⟨fun h=>?_,fun h=>?_⟩
  ·have Ab:=of_decide_eq_true h;have Cg:x<rows.length:=by omega
   have e0:(0:Int)<=(x:Int):=by omega
   have hm:=Ig (d:=[]) Cg;have Dw:=h5 _ hm;have hb:=Nb k x;have hv:=hV x Cg;have ew:IntKind.i64.wrap (V x-Bn k x)=W x:=by rw[<-hW];exact w64 (by unfold fit;omega)
   simp only[go_sem,seval,Ab,e0,Dw];refine Aa (H x Cg) ?_;simp only[go_sem,seval];refine Aa (Cl k x) ?_;simp only[go_sem,seval,ew,Bbu];refine⟨Cg,?_⟩;rw[w64 (n:=(x:Int)+1) (by unfold fit;omega)];exact Au (by simp[An])
  ·have Fu:=of_decide_eq_false h;have Kw:x=rows.length:=by omega
   subst Kw;simp only[go_sem,seval,h]
 ·exact Au (by simp[An,pm])
theorem Ahy(t:Tm):TOk t->∀(w:Int),Es t w=true->Con 41 [.agg true (tv t)] (.int .i64 (Ev t)):=by
 induction t using Tm.ind with
 |h k i j n l ih=>
  intro hok w hr;obtain⟨f1,f2,f3,f4,hb,hl⟩:=Xd hok
  by_cases hk:k=2
  ·obtain⟨i1,i2⟩:=Abp hr hk;have q:(k==2)=true:=by simp[hk]
   have e1:IntKind.i64.wrap (i+1)=i+1:=w64 (by unfold fit;omega);rw[Ev,if_pos hk];refine Al mixed Tryz.func41 tr41 ?_;rw[Am];simp only[go_sem,seval,q,e1]
  ·have Ah:(l.map tv).length=l.length:=by simp
   have h:=Avn k i j n (l.map tv) (fun x=>Ev (l[x]?.getD default)) (by omega) (rows5 l) hk (fun x hx=>by
    rw[Ah] at hx;obtain⟨w',hw⟩:=Xb hr (Ig (d:=default) hx);exact A1s _ w' hw) (fun x hx=>by
    rw[Ah] at hx;rw[List.getElem?_map,q_f hx];have hm:=List.getElem_mem hx;obtain⟨w',hw⟩:=Xb hr hm;exact ih _ hm (hl _ hm) w' hw)
   rw[Ah,<-Am,<-u9 hk] at h;exact h
theorem Ac4(t:Tm)(ht:TOk t)(hp:Cb t=true):Con 19 [.agg true (tv t)] (.int .i64 (Ev t)):=by
 have h1:=q9 t ht hp;have hz:=Af t;have h2:=Ahy t ht 2 hp;refine Al mixed Tryz.func19 tr19 ?_;simp only[go_sem,seval,hz];refine Aa h1 ?_;simp only[go_sem,seval,hz];refine Aa h2 ?_;simp only[go_sem,seval]
open Go Go.RowKit Go.Proofs.YtdpigpopcbjkmaaGreatDoor
theorem Avk(kk i j n d:Int)(b:Bool)(Lr:GV)(rows:GV)(X:Nat->List SV->Option (List SV))(h2:rows.length*56<=140737488355328)(h5:∀r∈rows,r.length=5)
  (hv:¬kk=2) (hd:0<=d) (Fh:d<=1000000000000) (hX:∀p:Nat,∀r∈rows,∀u,X p r=some u->u.length=5)
  (H:∀(p:Nat) r,rows[p]?=some r->∀b',Con 122 [.agg true r,.dsl 5 Lr,.int .i64 (d+Bn kk p),.bool b'] (Di (X p r))) :
  Con 122 [.agg true [.int .i64 kk,.int .i64 i,.int .i64 j,.int .i64 n,.dsl 5 rows],.dsl 5 Lr,.int .i64 d,.bool b] (Di ((Ce X 0 rows).map fun rs=>[.int .i64 kk,.int .i64 i,.int .i64 j,.int .i64 n,.dsl 5 rs])):=by
 have Mo:((List.range rows.length).map fun p=>(X p (rows[p]?.getD [])).getD []).length=rows.length:=by simp
 have Nu:∀x,x<rows.length->((List.range rows.length).map fun p=>(X p (rows[p]?.getD [])).getD [])[x]?.getD []=(X x (rows[x]?.getD [])).getD []:=fun x hx=>by
  rw[List.getElem?_map,List.getElem?_range hx];rfl
 have Rv:(∀x,x<rows.length->X x (rows[x]?.getD [])≠none)->Ce X 0 rows=some ((List.range rows.length).map fun p=>(X p (rows[p]?.getD [])).getD []):=fun h=>by
  rw[Aco (d:=[]) (e:=[]) (fun x hx=>by rw[Nat.zero_add];exact h x hx)];simp only[Nat.zero_add]
 generalize ((List.range rows.length).map fun p=>(X p (rows[p]?.getD [])).getD [])=ys at *
 have q1:(kk==2)=false:=by simp[hv]
 have core:∀r0,(Ce X 0 rows=none->r0=.tup [.agg true [.int .i64 0,.int .i64 0,.int .i64 0,.int .i64 0,.nils],.bool false]) ->
   (∀us,Ce X 0 rows=some us->r0=.tup [.agg true [.int .i64 kk,.int .i64 i,.int .i64 j,.int .i64 n,.dsl 5 us],.bool true]) ->
   Con 122 [.agg true [.int .i64 kk,.int .i64 i,.int .i64 j,.int .i64 n,.dsl 5 rows],.dsl 5 Lr,.int .i64 d,.bool b] r0:=by
  intro r0 hn hs;refine Al mixed Tryz.func122 tr122 ?_;simp only[go_sem,seval,q1];clear q1;intros;refine Sq (fun x=>⟨(.J::.dsl 5 Lr::.int .i64 d::.bool b::.ref 0 0 0 0::.J::.J::.J::.ref 1 0 0 0::.J::.ref 2 0 0 0::.osl 3 x 0 x::.int .i64 x::.J::.J::.J::.J::.J::.J::.J::.J::.J::.J::.J::.J::.J::.J::.J::.J::.J::.J::.J::.J::.J::.J::.J::.J::.J::.J::.J::.J::.J::.J::.J::.J::.J::.J::.J::.J::.J::.J::.J::.J::.J::.J::.J::.J::.J::.J::.J::.J::.J::.J::.J::.J::.J::.J::.J::.J::.J::.J::.J::.J::.J::.J::.J::.J::.J::.J::.J::.J::.J::.J::.J::[]),[⟨true,5,[[.int .i64 kk,.int .i64 i,.int .i64 j,.int .i64 n,.dsl 5 rows]],0,0,true⟩,⟨true,5,[[.int .i64 0,.int .i64 0,.int .i64 0,.int .i64 0,.nils]],0,0,true⟩,⟨true,5,[[.int .i64 kk,.int .i64 i,.int .i64 j,.int .i64 n,.nils]],0,0,true⟩,⟨false,5,ys.take x,x-1,x,true⟩]⟩) rows.length (fun x=>X x (rows[x]?.getD [])≠none) (fun x hx hp=>?_) ?_
  ·simp only[go_sem,seval];intros;refine⟨fun h=>?_,fun h=>?_⟩
   ·have Ab:=of_decide_eq_true h;have Cg:x<rows.length:=by omega
    have e0:(0:Int)<=(x:Int):=by omega
    have hm:=Ig (d:=[]) Cg;have Dw:=h5 _ hm;have hb:=Nb kk x;have ew:IntKind.i64.wrap (d+Bn kk x)=d+Bn kk x:=w64 (by unfold fit;omega);have hc:=H x (rows[x]?.getD []) (by rw[q_f Cg];rfl);obtain⟨z,hz⟩:=Ahw kk i j n x rows;have e1:(ys.take x).length=x:=by simp;omega
    have e2:(x+1)*56<=140737488355328:=by omega
    have e3:x+1<=140737488355328:=by omega
    cases b
    ·simp only[go_sem,seval,Ab,e0,Dw];refine Aa (Cl kk x) ?_;simp only[go_sem,seval,Ab,e0,Dw,ew];refine Aa hz ?_;simp only[go_sem,seval,Ab,e0,Dw,ew];refine Aa (hc z) ?_;cases Ek:X x (rows[x]?.getD []) with
     |none=>
      have Ci:=Af zT;simp only[go_sem,seval,Di,Ci];exact hn (Ta (d:=[]) (i:=x) Cg (by rw[Nat.zero_add];exact Ek))
     |some u=>
      have hu:=hX x _ hm u Ek;have hy:=Nu x Cg;rw[Ek,Option.getD_some] at hy;have tn:=Uz (l:=ys) (d:=[]) (i:=x) (by omega);rw[hy] at tn;simp only[go_sem,seval,Di,hu,Cg,e1,e2,e3,tn];rw[w64 (n:=(x:Int)+1) (by unfold fit;omega)];exact Dq 4 (by simp[An]) (by simp) (by simp[Bb]) (by simp)
    ·simp only[go_sem,seval,Ab,e0,Dw];refine Aa (Cl kk x) ?_;simp only[go_sem,seval,Ab,e0,Dw,ew];refine Aa (hc true) ?_;cases Ek:X x (rows[x]?.getD []) with
     |none=>
      have Ci:=Af zT;simp only[go_sem,seval,Di,Ci];exact hn (Ta (d:=[]) (i:=x) Cg (by rw[Nat.zero_add];exact Ek))
     |some u=>
      have hu:=hX x _ hm u Ek;have hy:=Nu x Cg;rw[Ek,Option.getD_some] at hy;have tn:=Uz (l:=ys) (d:=[]) (i:=x) (by omega);rw[hy] at tn;simp only[go_sem,seval,Di,hu,Cg,e1,e2,e3,tn];rw[w64 (n:=(x:Int)+1) (by unfold fit;omega)];exact Dq 4 (by simp[An]) (by simp) (by simp[Bb]) (by simp)
   ·have Fu:=of_decide_eq_false h;have Kw:x=rows.length:=by omega
    have he:=Rv (fun y hy=>hp y (by omega));subst Kw;have ht:ys.take rows.length=ys:=by rw[<-Mo,List.take_length]
    simp only[go_sem,seval,h,Mo,ht];exact hs _ he
  ·exact .trans (.ghost _ 11 5 rfl) (Au (by simp[An]))
 cases hA:Ce X 0 rows with
 |none=>
  refine (core _ (fun _=>rfl) (fun us h=>?_)).weaken Aa0;rw[hA] at h;cases h
 |some us=>
  refine core _ (fun h=>?_) (fun us' h=>?_)
  ·rw[hA] at h;cases h
  ·rw[hA] at h;cases h;rfl
theorem Bgy{i:Nat}(h:i<=2147483647):TOk (vT i):=.mk _ _ _ _ _ (by unfold fit;omega) (by unfold fit;omega) (by unfold fit;omega) (by unfold fit;omega) (by simp) (fun t ht=>by cases ht)
structure m9(C m:Nat)(u:Tm):Prop where
 tok:TOk u
 pl:Cb u=true
 hg:(2:Int)*Ks u<=1000000000000
 sf:Sf C u
 bd:C+dpt u+m<=2147483647
theorem Avl{C m:Nat}{l:List Tm}(hl:∀u∈l,m9 C m u)(i d:Nat)(b:Bool)(hi:i<d+l.length)(hd:d<=m)(hm:m<=1000000)(Dc:l.length<=1000) :
  Con 122 [.agg true (tv (vT i)),.dsl 5 (l.map tv),.int .i64 d,.bool b] (.tup [.agg true (tv (alv l d i)),.bool true]):=by
 unfold alv
 by_cases h:i<d
 ·rw[if_pos h];have hle:=Alo 2 i 0 0;have e:tv (vT i)=[.int .i64 2,.int .i64 i,.int .i64 0,.int .i64 0,.dsl 5 []]:=by simp[vT,Am]
  rw[e];refine (Al mixed Tryz.func122 tr122 ?_).weaken hle;simp only[go_sem,seval,decide_eq_false (show ¬(i:Int) >= d by omega)];intros;refine Cd 1 (Ak ?_);simp only[go_sem,seval]
 ·rw[if_neg h];have Ab:i-d<l.length:=by omega
  have hx:l.getD (i-d) (vT 0)=l[i-d]:=by rw[List.getD_eq_getElem?_getD,q_f Ab];rfl
  rw[hx];have hu:=hl _ (List.getElem_mem Ab);have hc:=Ahx l[i-d] hu.tok hu.pl d (by omega) b hu.hg;have Oo:=hu.bd;rw[show Hr (d:Int) 0 l[i-d]=some (Eo d l[i-d]) from Amh (fr:=0) hu.sf (by omega),Option.map_some] at hc;have hz:=Af (Eo d l[i-d]);have Dy:=Af l[i-d];have ew:IntKind.i64.wrap ((i:Int)-d)=((i-d:Nat):Int):=by rw[w64 (by unfold fit;omega)];omega
  have hg:(l.map tv)[i-d]?.getD []=tv l[i-d]:=by rw[List.getElem?_map,q_f Ab];rfl
  have e0:(0:Int)<=((i-d:Nat):Int):=by omega
  have e1:((i-d:Nat):Int)<(l.length:Int):=by omega
  refine Al mixed Tryz.func122 tr122 ?_;rw[show tv (vT i)=[.int .i64 2,.int .i64 i,.int .i64 0,.int .i64 0,.dsl 5 []] by simp[vT,Am]];simp only[go_sem,seval,decide_eq_true (show (i:Int) >= d by omega),ew,hg,e0,e1,Ab,q_g,Dy];refine Aa hc ?_;simp only[go_sem,seval,Di,hz]
theorem Avj{C m:Nat}{l:List Tm}(hl:∀u∈l,m9 C m u)(hm:m<=1000000)(Dc:l.length<=1000)(t:Tm):TOk t->∀(w:Int) (d:Nat) (b:Bool),Es t w=true->Sf (d+l.length) t->d+dpt t<=m ->
  Con 122 [.agg true (tv t),.dsl 5 (l.map tv),.int .i64 d,.bool b] (.tup [.agg true (tv (trT (alv l) (fun _ l=>fT l) d t)),.bool true]):=by
 induction t using Tm.ind with
 |h kk i j n kl ih=>
  intro hok w d b hr hs hd;obtain⟨f1,f2,f3,f4,hb,Fy⟩:=Xd hok
  by_cases hv:kk=2
  ·subst hv;obtain⟨q,rfl,rfl,rfl,rfl,hq⟩:=hs.vr;rw[Rb,Int.toNat_natCast];exact Avl hl q d b hq (by omega) hm Dc
  ·have hn:=hs.node hv;have h:=Avk kk i j n d b (l.map tv) (kl.map tv) (fun p r=>onT (fun t=>some (tv (trT (alv l) (fun _ l=>fT l) (d+bnd kk p) t))) none r) (by simpa using hb) (rows5 kl) hv (by omega) (by omega)
    (fun p r hr u hu=>by
     obtain⟨t,ht,rfl⟩:=List.mem_map.1 hr;simp only[Jg,q_b] at hu;subst hu;exact Af _)
    (fun p r Fz b'=>by
     rw[List.getElem?_map] at Fz;cases hq:kl[p]? with
     |none=>rw[hq] at Fz;cases Fz
     |some t=>
      rw[hq,Option.map_some,q_b] at Fz;subst Fz;have ht:=List.mem_of_getElem? hq;simp only[Jg];obtain⟨w',hw⟩:=Xb hr ht;have hk:=hs.kid hq;have y8:=Jy (k:=kk) (i:=i) (j:=j) (n:=n) hq;rw[Vk,<-Int.natCast_add];exact ih t ht (Fy t ht) w' _ b' hw (by rwa [show d+bnd kk p+l.length=d+l.length+bnd kk p by omega]) (by omega))
   have e:Ce (fun p r=>onT (fun t=>some (tv (trT (alv l) (fun _ l=>fT l) (d+bnd kk p) t))) none r) 0 (kl.map tv)=some ((trL (alv l) (fun _ l=>fT l) d kk 0 kl).map tv):=by
    rw[Acm,Acl (Y:=fun p t=>(some (trT (alv l) (fun _ l=>fT l) (d+bnd kk p) t)).map tv) (fun p t _=>by rw[Jg];rfl),Acn,Acp (v:=alv l) (f:=fun _ l=>fT l) (b:=d) (k:=kk) (fun q t _=>rfl)];rfl
   rw[e] at h;rw[Am,Fe hv hn.1,Am];exact h
theorem Avh{C m:Nat}{l:List Tm}(hl:∀u∈l,m9 C m u)(hm:m<=1000000)(Dc:l.length<=1000){t:Tm}(ht:TOk t)(hp:Cb t=true)(hs:Sf l.length t)(hd:dpt t<=m)(hf:Ev t<=l.length) :
  Con 102 [.agg true (tv t),.dsl 5 (l.map tv)] (.tup [.agg true (tv (Hx l t)),.bool true]):=by
 have h1:=q9 t ht hp;have h2:=Ahy t ht 2 hp;have h3:=Avj hl hm Dc t ht 2 0 false hp (by rwa [Nat.zero_add]) (by omega);have hz:=Af t;have Hp:=Af (Hx l t);have Xw:Con 122 [.agg true (tv t),.dsl 5 (l.map tv),.int .i64 0,.bool false] (.tup [.agg true (tv (Hx l t)),.bool true]):=h3;have Uc:∀x,(h:x<l.length)->(l.map tv)[x]?.getD []=tv l[x]:=fun x h=>by rw[List.getElem?_map,q_f h];rfl
 refine Al mixed Tryz.func102 tr102 ?_;simp only[go_sem,seval,hz];refine Aa h1 ?_;simp only[go_sem,seval,hz];refine Aa h2 ?_;simp only[go_sem,seval,hz,q_g,decide_eq_false (show ¬Ev t > (l.length:Int) by omega)];refine fun _=>?_
 refine Jj (fun x=>⟨(.J::.dsl 5 (l.map tv)::.ref 0 0 0 0::.J::.ref 1 0 0 0::.bool false::.int .i64 x::.J::.J::.J::.J::.J::.J::.J::.J::.J::.J::.J::.J::.J::.J::.J::.J::.J::.J::.J::.J::.J::.J::.J::.J::.J::.J::.J::.J::.J::.J::.J::.J::.J::.J::.J::.J::.J::[]),[⟨true,5,[tv t],0,0,true⟩,⟨true,5,[[.int .i64 0,.int .i64 0,.int .i64 0,.int .i64 0,.nils]],0,0,true⟩]⟩) l.length (fun x hx=>?_) ?_
 ·by_cases Ab:x<l.length
  ·have e0:(0:Int)<=(x:Int):=by omega
   have e1:(x:Int)<(l.length:Int):=by omega
   have Zp:=Af l[x];have hu:=hl _ (List.getElem_mem Ab);simp only[go_sem,seval,q_g,decide_eq_true e1,e0,e1,Ab,Uc x Ab,hz,Zp];refine fun _=>Aa (Ahz t l[x] ht hu.tok hp hu.pl) ?_
   simp only[go_sem,seval,w64 (show fit ((x:Int)+1) by unfold fit;omega)];refine⟨Ab,?_⟩;exact Au (by simp[An])
  ·have:x=l.length:=by omega
   subst this;simp only[go_sem,seval,q_g,decide_eq_false (show ¬((l.length:Nat):Int)<l.length by omega),hz];refine fun _=>Aa Xw ?_
   simp only[go_sem,seval,Hp]
 ·exact Au (by simp[An])
theorem At5{C m:Nat}{l:List Tm}(hl:∀u∈l,m9 C m u)(hm:m<=1000000)(Dc:l.length<=1000){t:Tm}(ht:TOk t)(hp:Cb t=true)(hs:Sf l.length t)(hd:dpt t<=m)(hf:Ev t<=l.length) :
  Con 73 [.agg true (tv t),.dsl 5 (l.map tv)] (.agg true (tv (Hx l.reverse t))):=by
 have h:=Avh (l:=l.reverse) (fun u hu=>hl u (by simpa using hu)) hm (by simpa using Dc) ht hp (by simpa using hs) hd (by simpa using hf);have hz:=Af t;have Hp:=Af (Hx l.reverse t);refine Al mixed Tryz.func73 tr73 ?_;simp only[go_sem,seval,hz,q_g];refine fun _=>?_
 have ew:IntKind.i64.wrap ((l.length:Int)-1)=(l.length:Int)-1-(0:Nat):=by rw[w64 (by unfold fit;omega)];omega
 rw[ew];refine Jj (fun x=>⟨(.J::.dsl 5 (l.map tv)::.ref 0 0 0 0::.J::.ref 1 0 0 0::.osl 2 x 0 x::.int .i64 ((l.length:Int)-1-x)::.J::.J::.J::.J::.J::.J::.J::.J::.J::.J::.J::.J::.J::.J::.J::.J::.J::.J::.J::.J::.J::.J::.J::[]),[⟨true,5,[tv t],0,0,true⟩,⟨true,5,[[.int .i64 0,.int .i64 0,.int .i64 0,.int .i64 0,.nils]],0,0,true⟩,⟨false,5,(l.reverse.map tv).take x,x-1,x,true⟩]⟩) l.length (fun x hx=>?_) ?_
 ·by_cases Ab:x<l.length
  ·have hq:l.length-1-x<l.length:=by omega
   have eI:(l.length:Int)-1-x=((l.length-1-x:Nat):Int):=by omega
   have e0:(0:Int)<=((l.length-1-x:Nat):Int):=by omega
   have e1:((l.length-1-x:Nat):Int)<(l.length:Int):=by omega
   have hg:(l.map tv)[l.length-1-x]?.getD []=tv l[l.length-1-x]:=by rw[List.getElem?_map,q_f hq];rfl
   have Zp:=Af l[l.length-1-x];have e2:((l.reverse.map tv).take x).length=x:=by simp;omega
   have e3:(x+1)*56<=140737488355328:=by omega
   have e4:x+1<=140737488355328:=by omega
   have tn:(l.reverse.map tv).take (x+1)=(l.reverse.map tv).take x++[tv l[l.length-1-x]]:=by
    rw[List.take_succ_eq_append_getElem (by simpa using Ab)];simp
   rw[eI];simp only[go_sem,seval,decide_eq_true (show ((l.length-1-x:Nat):Int) >= 0 by omega),e0,e1,hq,hg,Zp,q_g,e2,e3,e4,w64 (show fit (((l.length-1-x:Nat):Int)-1) by unfold fit;omega)];refine⟨Ab,?_⟩;rw[show ((l.length-1-x:Nat):Int)-1=(l.length:Int)-1-((x+1:Nat):Int) by omega,tn];exact Dq 3 (by simp[An]) (by simp) (by simp[Bb]) (by simp)
  ·have:x=l.length:=by omega
   subst this;have Gv:(l.reverse.map tv).take l.length=l.reverse.map tv:=List.take_of_length_le (by simp);simp only[go_sem,seval,decide_eq_false (show ¬(l.length:Int)-1-(l.length:Nat) >= 0 by omega),Gv,hz,q_g,List.length_reverse];refine Aa h ?_;simp only[go_sem,seval,Hp]
 ·exact .trans (.ghost _ 5 5 rfl) (Au (by simp[An]))
theorem plain_mk{k i j n:Int}{l:List Tm}:Cb (.mk k i j n l)=true↔Ic k i j n 2 l.length=true/\∀t∈l,Cb t=true:=by
 rw[show Cb (.mk k i j n l)=Es (.mk k i j n l) 2 from rfl,Ano,Bool.and_eq_true,List.all_eq_true]
theorem Wy{i:Nat}(h:i<=2147483647):Cb (vT i)=true:=by
 have h0:(0:Int)<=i:=by omega
 have h1:(i:Int)<=2147483647:=by omega
 show Es (.mk 2 i 0 0 []) 2=true;rw[Uy];unfold Ic;simp[Ie,Bh,tab,Lq,h0,h1,Ha]
theorem Bed{k i j n w:Int}{len:Nat}(h:Ic k i j n w len=true):(len:Int)=Bh k n/\Lq k i j n=true:=by
 unfold Ic at h;simp only[Bool.and_eq_true,Bool.not_eq_true',bne_eq_false_iff_eq] at h;exact h.2
theorem Alm{k n:Int}(h:0<=Bh k n):1<=k/\k<=23:=by
 unfold Bh at h;split at h
 ·omega
 ·unfold tab at h;split at h
  ·rename_i c;simp only[List.length_cons,List.length_nil] at c;omega
  ·omega
theorem Bfx:∀{l m:List Nat},l.length=m.length->(∀(q x y:Nat),l[q]?=some x->m[q]?=some y->x<=y)->l.sum<=m.sum:=by
 intro l
 induction l with
 |nil=>intro m hm _;simp
 |cons a l ih=>
  intro m hm h;cases m with
  |nil=>simp at hm
  |cons b m=>
   have:=ih (m:=m) (by simpa using hm) (fun q x y hx hy=>h (q+1) x y (by simpa using hx) (by simpa using hy));have h0:=h 0 a b rfl rfl;simp only[List.sum_cons];omega
theorem Bgx{B:Nat}{t:Tm}(h:Sf B t):Cb t=true->B+dpt t<=2147483647->TOk t:=by
 induction h with
 |@var B i h=>intro _ hb;exact Bgy (by omega)
 |@nd B k i j n l h2 h0 hf hl hk ih=>
  intro hp hb;have hp':=plain_mk.1 hp;have Wh:=Bbi hp;have hle:=Nx k n;refine .mk _ _ _ _ _ ?_ hf.1 hf.2.1 hf.2.2 (by omega) (fun t ht=>?_)
  ·have:=Alm (k:=k) (n:=n) (by omega);unfold fit;omega
  ·obtain⟨q,hq⟩:=List.getElem?_of_mem ht;have:=Jy (k:=k) (i:=i) (j:=j) (n:=n) hq;exact ih q t hq (hp'.2 t ht) (by omega)
theorem Afj{v:Nat->Nat->Tm}{f:Nat->Int->Tm}{B:Nat}{t:Tm}(h:Sf B t):∀{b D:Nat},Cb t=true->b+dpt t<=D->(∀b' i,b<=b'->b'<=D->i<B+(b'-b)->Cb (v b' i)=true)->Cb (trT v f b t)=true:=by
 induction h with
 |@var B i h=>intro b D _ hb hv;rw[Cm];exact hv b i (Nat.le_refl _) (by omega) (by omega)
 |@nd B k i j n l h2 h0 hf hl hk ih=>
  intro b D hp hb hv;have hp':=plain_mk.1 hp;rw[Fe h2 h0];refine plain_mk.2 ⟨by rw[Kl];exact hp'.1,fun t ht=>?_⟩;obtain⟨q,hq⟩:=List.getElem?_of_mem ht;rw[Ep,Nat.zero_add] at hq;cases Fa:l[q]? with
  |none=>rw[Fa] at hq;cases hq
  |some u=>
   rw[Fa,Option.map_some,q_b] at hq;subst hq;have hd:=Jy (k:=k) (i:=i) (j:=j) (n:=n) Fa;exact ih q u Fa (D:=D) (hp'.2 u (List.mem_of_getElem? Fa)) (by omega) (fun b' i h1 h2 h3=>hv b' i (by omega) h2 (by omega))
theorem Agb{v:Nat->Nat->Tm}{f:Nat->Int->Tm}{B s:Nat}(hs:1<=s){t:Tm}(h:Sf B t):∀{b D:Nat},b+dpt t<=D->(∀b' i,b<=b'->b'<=D->i<B+(b'-b)->tsz (v b' i)<=s)->tsz (trT v f b t)<=tsz t*s:=by
 induction h with
 |@var B i h=>intro b D hb hv;rw[Cm];have:=hv b i (Nat.le_refl _) (by omega) (by omega);rw[show tsz (vT i)=1 by unfold vT;rw[Gk];rfl];omega
 |@nd B k i j n l h2 h0 hf hl hk ih=>
  intro b D hb hv;rw[Fe h2 h0,Gk,Gk];have:((trL v f b k 0 l).map tsz).sum<=((l.map tsz).map (·*s)).sum:=by
   rw[List.map_map];refine Bfx (by simp[Kl]) (fun q x y hx hy=>?_);rw[List.getElem?_map,Ep,Nat.zero_add] at hx;rw[List.getElem?_map] at hy;cases Fa:l[q]? with
   |none=>rw[Fa] at hy;cases hy
   |some u=>
    rw[Fa] at hx hy;simp only[Option.map_some,q_b] at hx hy;subst hx hy;have hd:=Jy (k:=k) (i:=i) (j:=j) (n:=n) Fa;exact ih q u Fa (D:=D) (by omega) (fun b' i h1 h2 h3=>hv b' i (by omega) h2 (by omega))
  have e:((l.map tsz).map (·*s)).sum=(l.map tsz).sum*s:=by
   generalize l.map tsz=xs
   induction xs with
   |nil=>simp
   |cons x xs ih=>simp[ih,Nat.add_mul]
  rw[Nat.add_mul];omega
theorem Aga{t:Tm}:∀{l:List Tm},t∈l->tsz t<=(l.map tsz).sum:=by
 intro l
 induction l with
 |nil=>intro h;cases h
 |cons a l ih=>
  intro h;simp only[q_h,List.sum_cons];rcases List.mem_cons.1 h with rfl|h
  ·omega
  ·have:=ih h;omega
theorem Xg{k i j n:Int}{l:List Tm}{t:Tm}(h:t∈l):tsz t+1<=tsz (.mk k i j n l):=by
 rw[Gk];have:=Aga h;omega
theorem Axk{k:Int}{M:Nat}:∀{l:List Tm} {p:Nat},(∀t∈l,dpt t<=M)->Lf k p l<=M+2:=by
 intro l
 induction l with
 |nil=>intro p _;rw[Lf];omega
 |cons t l ih=>
  intro p h;rw[Lf];have h1:=h t (by simp);have h2:=ih (p:=p+1) (fun u hu=>h u (by simp[hu]));have h3:=Tb k p;omega
theorem Nf(t:Tm):dpt t+2<=2*tsz t:=by
 induction t using Tm.ind with
 |h k i j n l ih=>
  rw[dpt,Gk];cases l with
  |nil=>rw[Lf];simp
  |cons a l=>
   have:Lf k 0 (a::l)<=(2*((a::l).map tsz).sum-2)+2:=Axk (fun t ht=>by
    have h1:=ih t ht;have h2:=Aga ht;omega)
   have h3:=Vd a;simp only[q_h,List.sum_cons] at this |-;omega
theorem Ad5(t:Tm):Ks t<=tsz t:=by
 induction t using Tm.ind with
 |h k i j n l ih=>
  rw[Ad4,Gk];have:Qb l<=(l.map tsz).sum:=A4f (fun t ht=>Nat.le_trans (ih t ht) (Aga ht));omega
theorem Bbp(F:Nat->Int):∀{x y:Nat},y<x->F y<=pm F x:=by
 intro x
 induction x with
 |zero=>intro y h;omega
 |succ x ih=>
  intro y h;rw[pm]
  by_cases e:y=x
  ·subst e;omega
  ·have:=ih (show y<x by omega);omega
theorem Aoa{t:Tm}:TOk t->Cb t=true->∀{C:Nat},Ev t<=C->Sf C t:=by
 induction t using Tm.ind with
 |h k i j n l ih=>
  intro ht hp C hf;obtain⟨f1,f2,f3,f4,hb,Fy⟩:=Xd ht;have hp':=plain_mk.1 hp;obtain⟨e1,e2⟩:=Bed hp'.1
  by_cases h2:k=2
  ·subst h2;rw[Ev,if_pos rfl] at hf;have hl:l=[]:=List.length_eq_zero_iff.1 (by rw[show Bh 2 n=0 by unfold Bh;rw[if_neg (by decide)];rfl] at e1;omega);unfold Lq at e2;rw[if_neg (by decide),if_pos rfl] at e2;simp only[Bool.and_eq_true,decide_eq_true_eq,beq_iff_eq] at e2;obtain⟨a,_,b,c⟩:=e2;subst hl b c;have:=Sf.var (b:=C) (i:=i.toNat) (by omega);unfold vT at this
   rwa [Int.toNat_of_nonneg a] at this
  ·rw[u9 h2] at hf;refine .nd i j n h2 (by have:=Alm (k:=k) (n:=n) (by omega);omega) ⟨f2,f3,f4⟩ e1 (fun p t hq=>?_);have hm:=List.mem_of_getElem? hq;have Ab:=Dh hq;have:=Bbp (fun y=>Ev (l[y]?.getD default)-Bn k ((y:Nat):Int)) Ab;simp only[hq,Option.getD_some] at this;have To:=Vk k p;exact ih t hm (Fy t hm) (hp'.2 t hm) (by omega)
structure PT(C M:Nat)(t:Tm):Prop where
 pl:Cb t=true
 sf:Sf C t
 sz:tsz t<=M
theorem PT.tok{C M:Nat}{t:Tm}(h:PT C M t)(hb:C+2*M<=2147483647):TOk t:=by
 have:=Nf t;have:=h.sz;exact Bgx h.sf h.pl (by omega)
def BodyP(B:BT):Prop:=∀n i j b,B n i j=some b->PT (Bh 23 n).toNat 4000 b
theorem BodyP.ok{B:BT}(h:BodyP B):Fs B:=fun n i j b hb=>(h n i j b hb).sf
theorem All{t:Tm}{p:Nat}(h:p<t.kids.length):Aj t p∈t.kids:=by
 unfold Aj;rw[List.getD_eq_getElem?_getD,q_f h];exact List.getElem_mem h
theorem PT.kidm{C M:Nat}{k i j n:Int}{l:List Tm}(h:PT C M (.mk k i j n l)){q:Nat}{t:Tm}(hq:l[q]?=some t):PT (C+bnd k q) M t:=by
 have hm:=List.mem_of_getElem? hq;have h1:=Xg (k:=k) (i:=i) (j:=j) (n:=n) hm;have:=h.sz;exact⟨(plain_mk.1 h.pl).2 t hm,h.sf.kid hq,by omega⟩
theorem PT.kid{C M:Nat}{t:Tm}(h:PT C M t){p:Nat}(hp:p<t.kids.length)(hb:bnd t.k p=0):PT C M (Aj t p)/\tsz (Aj t p)+1<=tsz t:=by
 cases t with
 |mk k i j n l=>
  have hp':p<l.length:=hp;have El:bnd k p=0:=hb;have hq:l[p]?=some (Aj (.mk k i j n l) p):=by
   unfold Aj;rw[show (Tm.mk k i j n l).kids=l from rfl,List.getD_eq_getElem?_getD,q_f hp'];rfl
  have:=h.kidm hq;rw[El,Nat.add_zero] at this;exact⟨this,Xg (All hp)⟩
theorem PT.kid1{C M:Nat}{t:Tm}(h:PT C M t){p:Nat}(hp:p<t.kids.length)(hb:bnd t.k p=1):PT (C+1) M (Aj t p)/\tsz (Aj t p)+1<=tsz t:=by
 cases t with
 |mk k i j n l=>
  have hp':p<l.length:=hp;have El:bnd k p=1:=hb;have hq:l[p]?=some (Aj (.mk k i j n l) p):=by
   unfold Aj;rw[show (Tm.mk k i j n l).kids=l from rfl,List.getD_eq_getElem?_getD,q_f hp'];rfl
  have:=h.kidm hq;rw[El] at this;exact⟨this,Xg (All hp)⟩
theorem Aa3{C M k:Nat}{u:Tm}(h:PT C M u)(hb:C+2*M+k<=2147483647):Cb (Eo k u)=true/\tsz (Eo k u)<=tsz u:=by
 have hd:=Nf u;have hs:=h.sz;constructor
 ·refine Afj h.sf (D:=dpt u) h.pl (by omega) (fun b' i _ h1 h2=>?_);unfold lfv;split
  ·exact Wy (by omega)
  ·exact Wy (by omega)
 ·have:=Agb (v:=lfv k) (f:=fun _ l=>fT l) (Nat.le_refl 1) h.sf (b:=0) (D:=dpt u) (by omega) (fun b' i _ h1 h2=>by
   unfold lfv;split<;>(unfold vT;rw[Gk];simp))
  unfold Eo;omega
theorem Bds{C M M':Nat}{t u:Tm}(ht:PT (C+1) M t)(hu:PT C M' u)(hb:C+2*M'+2*M+1<=2147483647):Cb (Ip u t)=true/\tsz (Ip u t)<=tsz t*tsz u:=by
 have hd:=Nf t;have hs:=ht.sz;have hp:=Vd u;constructor
 ·refine Afj ht.sf (D:=dpt t) ht.pl (by omega) (fun b' i _ h1 h2=>?_);unfold ptv;split
  ·exact Wy (by omega)
  ·split
   ·exact (Aa3 hu (by omega)).1
   ·exact Wy (by omega)
 ·refine Agb hp ht.sf (b:=0) (D:=dpt t) (by omega) (fun b' i _ h1 h2=>?_);unfold ptv;split
  ·unfold vT;rw[Gk];simp;omega
  ·split
   ·exact (Aa3 hu (by omega)).2
   ·unfold vT;rw[Gk];simp;omega
theorem Ap8{C M M' m:Nat}{t:Tm}{l:List Tm}(ht:PT m M t)(hm:m<=l.length)(Dc:l.length<=1000)(hl:∀u∈l,PT C M' u)(Nh:1<=M')(hb:C+2*M'+2*M+1000<=2147483647):Cb (Hx l t)=true/\tsz (Hx l t)<=tsz t*M':=by
 have hd:=Nf t;have hs:=ht.sz;have H:∀b' i,i<m+b'->¬i<b'->PT C M' (l.getD (i-b') (vT 0)):=fun b' i h1 h2=>by
  have Ab:i-b'<l.length:=by omega
  rw[List.getD_eq_getElem?_getD,q_f Ab];exact hl _ (List.getElem_mem Ab)
 constructor
 ·refine Afj ht.sf (D:=dpt t) ht.pl (by omega) (fun b' i _ h1 h2=>?_);unfold alv;split
  ·exact Wy (by omega)
  ·rename_i c;exact (Aa3 (H b' i (by omega) c) (by omega)).1
 ·refine Agb Nh ht.sf (b:=0) (D:=dpt t) (by omega) (fun b' i _ h1 h2=>?_);unfold alv;split
  ·unfold vT;rw[Gk];simp;omega
  ·rename_i c;have h3:=H b' i (by omega) c;have:=(Aa3 h3 (k:=b') (by omega)).2;have:=h3.sz;omega
theorem Amw{a b c d:Nat}(h1:a<=c)(h2:b<=d):a*b<=c*d:=Nat.mul_le_mul h1 h2
section
variable{B:BT}{C:Nat}
theorem Bbg(hB:BodyP B){t u:Tm}(h:Az B t=some u)(ht:PT C 4000 t)(hC:C<=60000000):Cb u=true/\tsz u<=tsz t*4000:=by
 have h2:t.k≠2:=fun e=>by rw[Jh (by omega)] at h;cases h
 have hl:=Hu ht.sf h2;have Bl:=ht.sz
 by_cases Ed:t.k=15
 ·rw[Qt Ed] at h;split at h
  ·rename_i c;cases h;rw[Ed,kids15] at hl;obtain⟨k0,s0⟩:=ht.kid (p:=0) (by omega) (by rw[Ed];decide);obtain⟨k1,s1⟩:=ht.kid (p:=1) (by omega) (by rw[Ed];decide);have Dm:=Hu k0.sf (by omega);rw[c,kids14] at Dm;obtain⟨kb,sb⟩:=k0.kid1 (p:=1) (by omega) (by rw[c];decide);obtain⟨a,b⟩:=Bds kb k1 (by omega);exact⟨a,Nat.le_trans b (Amw (by omega) (by omega))⟩
  ·cases h
 by_cases Ew:t.k=18
 ·rw[Qu Ew] at h;split at h
  ·rename_i c;cases h;rw[Ew,kids18] at hl;obtain⟨k0,s0⟩:=ht.kid (p:=0) (by omega) (by rw[Ew];decide);have Dm:=Hu k0.sf (by omega);rw[c,kids17] at Dm;obtain⟨kb,sb⟩:=k0.kid (p:=2) (by omega) (by rw[c];decide);exact⟨kb.pl,by omega⟩
  ·cases h
 by_cases Ex:t.k=19
 ·rw[Qv Ex] at h;split at h
  ·rename_i c;cases h;rw[Ex,kids19] at hl;obtain⟨k0,s0⟩:=ht.kid (p:=0) (by omega) (by rw[Ex];decide);have Dm:=Hu k0.sf (by omega);rw[c,kids17] at Dm;obtain⟨kb,sb⟩:=k0.kid (p:=3) (by omega) (by rw[c];decide);exact⟨kb.pl,by omega⟩
  ·cases h
 by_cases Cy:t.k=22
 ·rw[Qw Cy] at h;split at h
  ·cases h;rw[Cy,kids22] at hl;obtain⟨kb,sb⟩:=ht.kid (p:=3) (by omega) (by rw[Cy];decide);exact⟨kb.pl,by omega⟩
  ·cases h
 by_cases Bz:t.k=23
 ·rw[Qx Bz] at h;cases hb:B t.n t.i t.j with
  |none=>rw[hb] at h;cases h
  |some b=>
   rw[hb,Option.map_some,q_b] at h;subst h;rw[Bz] at hl;have hle:=Nx 23 t.n;have hbb:=hB _ _ _ _ hb;have Fy:∀u∈t.kids.reverse,PT C (tsz t) u:=fun u hu=>by
    rw[List.mem_reverse] at hu;cases t with
    |mk k i j n l=>
     obtain⟨q,hq⟩:=List.getElem?_of_mem (l:=l) hu;have h23':k=23:=Bz;have:=ht.kidm hq;rw[h23',bnd23,Nat.add_zero] at this;have:=Xg (k:=k) (i:=i) (j:=j) (n:=n) (l:=l) hu;exact⟨‹PT C 4000 u›.pl,‹PT C 4000 u›.sf,by omega⟩
   have hp:=Vd t;obtain⟨a,c⟩:=Ap8 (C:=C) (M':=tsz t) hbb (by rw[List.length_reverse];omega) (by rw[List.length_reverse];omega) Fy hp (by omega);refine⟨a,Nat.le_trans c ?_⟩;rw[Nat.mul_comm];exact Amw (Nat.le_refl _) hbb.sz
 ·rw[Jh (by omega)] at h;cases h
theorem Bfh{f:Tm->Nat}:∀{l:List Tm} {p:Nat} {u:Tm},p<l.length->((l.set p u).map f).sum+f (l.getD p (vT 0))=(l.map f).sum+f u:=by
 intro l
 induction l with
 |nil=>intro p u h;simp at h
 |cons a l ih=>
  intro p u h;cases p with
  |zero=>simp;omega
  |succ p=>
   have:=ih (p:=p) (u:=u) (by simpa using h);simp only[List.set_cons_succ,q_h,List.sum_cons,List.getD_cons_succ];omega
theorem Bff{t u:Tm}{p:Nat}(ht:Cb t=true)(hu:Cb u=true)(hp:p<t.kids.length):Cb (Bm t p u)=true/\tsz (Bm t p u)+tsz (Aj t p)=tsz t+tsz u:=by
 cases t with
 |mk k i j n l=>
  have hp':p<l.length:=hp;obtain⟨h1,h2⟩:=plain_mk.1 ht;constructor
  ·refine plain_mk.2 ⟨by simp only[Tm.kids,List.length_set];exact h1,fun x hx=>?_⟩;rcases List.mem_or_eq_of_mem_set hx with h|rfl
   ·exact h2 x h
   ·exact hu
  ·unfold Bm Aj;simp only[Tm.k,Tm.i,Tm.j,Tm.n,Tm.kids,Gk];have:=Bfh (f:=tsz) (u:=u) hp';omega
theorem Aol(hB:BodyP B){t u:Tm}(hs:HS (Az B) t u)(hC:C<=60000000):PT C 4000 t->Cb u=true/\tsz u<=tsz t*4000:=by
 induction hs with
 |here h=>intro ht;exact Bbg hB h ht hC
 |@down t u p h hp hs ih=>
  intro ht;obtain⟨h2,h0,hl,hb⟩:=Sl ht.sf hp;obtain⟨k0,s0⟩:=ht.kid hl hb;obtain⟨a,b⟩:=ih k0;obtain⟨c,d⟩:=Bff ht.pl a hl;refine⟨c,?_⟩;omega
theorem Aok(hB:BodyP B){t u:Tm}(hs:HS (Az B) t u)(hC:C<=60000000)(ht:PT C 4000 t):PT C 16000000 u:=by
 obtain⟨a,b⟩:=Aol hB hs hC ht;have:=ht.sz;exact⟨a,Abw hB.ok hs ht.sf,by omega⟩
end
end Go.Proofs.YtdpigpopcbjkmaaGreatDoor.Abs
