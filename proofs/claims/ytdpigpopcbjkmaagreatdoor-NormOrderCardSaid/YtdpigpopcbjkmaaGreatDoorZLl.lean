import Derived.Test.YtdpigpopcbjkmaaGreatDoorZVc
import Derived.Test.YtdpigpopcbjkmaaGreatDoorZEv
import Derived.Test.YtdpigpopcbjkmaaGreatDoorZTs
import Derived.Test.YtdpigpopcbjkmaaGreatDoorZPt
import Derived.Test.YtdpigpopcbjkmaaGreatDoorProg
import Derived.KernelRfl
import Derived.Test.YtdpigpopcbjkmaaGreatDoorZPi
import Derived.Test.YtdpigpopcbjkmaaGreatDoorZAby
import Derived.Handed
set_option linter.unusedSimpArgs false
set_option linter.unusedVariables false
set_option maxRecDepth 20000
set_option maxHeartbeats 4000000
namespace Go.Proofs.YtdpigpopcbjkmaaGreatDoor.Abs
open Go Go.RowKit Go.Proofs.YtdpigpopcbjkmaaGreatDoor
section
variable {B:BT} {C:Nat}
theorem Am9 {t u:Tm} (h:Sf C t) (h2:t.k≠2) {p:Nat} (hp:p<t.kids.length) (hu:Par B (An t p) u):Par B t (Bz t p u):=by
 have h0:=sf_k h;cases t with
 |mk k i j n l=>
  refine .nd h2 h0 (by simp [Tm.kids]) (fun q s s' hs f6=>?_);simp only [Tm.kids] at f6
  by_cases e:p=q
  ·subst e;have Ab:p<l.length:=hp;rw [List.getElem?_set_self Ab,q_b] at f6;subst f6;have:An (.mk k i j n l) p=s:=by unfold An;simp only [Tm.kids,List.getD_eq_getElem?_getD];rw [hs];rfl
   rw [<-this];exact hu
  ·rw [List.getElem?_set_ne e] at f6;rw [hs,q_b] at f6;subst f6;exact Am8 (h.kid hs)
theorem Aex {t u:Tm} (h:Sf C t) (hp:Bw B t=some u):Par B t u:=by
 have h2:t.k≠2:=fun e=>by rw [Sq (by omega)] at hp;cases hp
 have h0:=sf_k h;cases t with
 |mk k i j n l=>exact .st h2 h0 rfl (fun p s s' hs f6=>by rw [hs,q_b] at f6;subst f6;exact Am8 (h.kid hs)) (by rw [hp];rfl) hp
theorem Bhr {t u:Tm} (h:HS (Bw B) t u):∀{C:Nat},Sf C t->Par B t u:=by
 induction h with
 |here h=>intro C hs;exact Aex hs h
 |@down t u p h hp hs ih=>
  intro C ht;obtain⟨h2,h0,hl,hb⟩:=Wt ht hp;exact Am9 ht h2 hl (ih (Iw ht hl))
theorem Bh1 (hB:Oa B) {N N':Nat} {t t':Tm} {o:Bool} (h:PHd B N t N' o t') (ho:o=false):∀{C:Nat},Sf C t->Sf C t'/\Prs B t t'/\HN (Bw B) t':=by
 induction h with
 |stop h=>intro C ht;exact⟨ht,.refl _,h⟩
 |out=>cases ho
 |step h _ _ _ ih=>
  intro C ht;obtain⟨a,r,k⟩:=ih ho (Ak5 hB h ht);exact⟨a,.step (Bhr h ht) r,k⟩
theorem Bh3 (hB:Oa B) {s s':Tm} (h:Prs B s s'):∀{t:Tm} {p:Nat},Sf C t->t.k≠2->p<t.kids.length->An t p=s->Prs B t (Bz t p s'):=by
 induction h with
 |refl s=>
  intro t p ht h2 hp e;have:Bz t p s=t:=by
   cases t with
   |mk k i j n l=>
    unfold Bz;congr 1;apply List.ext_getElem?;intro q;simp only [Tm.kids]
    by_cases h:p=q
    ·subst h;have Ab:p<l.length:=hp;rw [List.getElem?_set_self Ab,q_f Ab,<-e];unfold An;simp only [Tm.kids,List.getD_eq_getElem?_getD,q_f Ab,Option.getD_some]
    ·rw [List.getElem?_set_ne h]
  rw [this];exact .refl t
 |@step s u w h hr ih=>
  intro t p ht h2 hp e;subst e;have h1:=Am9 ht h2 hp h;have e1:(Bz t p u).k=t.k:=rfl;have e2:(Bz t p u).kids=t.kids.set p u:=rfl;have e3:An (Bz t p u) p=u:=by
   unfold An;rw [e2,List.getD_eq_getElem?_getD,List.getElem?_set_self hp];rfl
  have h3:=ih (t:=Bz t p u) (p:=p) (Abh hB h1 ht) (by rw [e1];exact h2) (by rw [e2,List.length_set];exact hp) e3;have e4:Bz (Bz t p u) p w=Bz t p w:=by unfold Bz;simp [Tm.kids,Tm.k,Tm.i,Tm.j,Tm.n]
  rw [e4] at h3;exact .step h1 h3
theorem Bh2 (hB:Oa B) {k i j n:Int} (h2:k≠2):∀(rs d l:List Tm),Sf C (.mk k i j n (d++l))->rs.length=l.length->(∀(p:Nat) s s',l[p]?=some s->rs[p]?=some s'->Prs B s s')->Prs B (.mk k i j n (d++l)) (.mk k i j n (d++rs)):=by
 intro rs
 induction rs with
 |nil=>intro d l hs hl _;cases l with
  |nil=>exact .refl _
  |cons a l=>simp at hl
 |cons r rs ih=>
  intro d l hs hl hk;cases l with
  |nil=>simp at hl
  |cons a l=>
   have h1:=Bh3 hB (hk 0 a r rfl rfl) (t:=.mk k i j n (d++a::l)) (p:=d.length) hs h2 (by simp [Tm.kids]) (by unfold An;simp [Tm.kids]);have e:Bz (.mk k i j n (d++a::l)) d.length r=.mk k i j n ((d++[r])++l):=by unfold Bz;simp [Tm.kids,Tm.k,Tm.i,Tm.j,Tm.n]
   rw [e] at h1;have h3:=ih (d++[r]) l (Bhd hB h1 hs) (by simpa using hl) (fun p s s' h h'=>hk (p+1) s s' (by simpa using h) (by simpa using h'));rw [List.append_assoc,List.singleton_append] at h3;rw [List.append_assoc,List.singleton_append] at h1;simp only [List.append_assoc,List.singleton_append] at h1 h3;exact h1.trans h3
theorem Bgk {P:Tm->Option Tm} {t u:Tm} (h:HS P t u):¬HN P t:=by
 induction h with
 |here h=>intro hn;cases hn with
  |mk h' _=>rw [h] at h';cases h'
 |down h hp _ ih=>intro hn;cases hn with
  |mk _ hk=>exact ih (hk _ hp)
theorem Bhc (hB:Oa B) {x y:Tm ⊕ List Tm} {N N':Nat} {o o':Bool} (h:PNx B x N o N' o' y) (Fk:o'=false) :
  (∀t r,x=.inl t->y=.inl r->∀C,Sf C t->Prs B t r/\Nm B r/\Sf C r/\(HN (Bw B) t->r.k=t.k)) /\
  (∀l rs,x=.inr l->y=.inr rs->rs.length=l.length/\∀(p:Nat) s s',l[p]?=some s->rs[p]?=some s'->∀C,Sf C s->Prs B s s'/\Nm B s'/\(HN (Bw B) s->s'.k=s.k)):=by
 induction h with
 |@tm t t1 N N1 N2 o1 o2 rs h hk ih=>
  have Pv:=Aj6 hk Fk;refine⟨fun t' r e1 e2 C hs=>?_,fun l rs' e=>by cases e⟩;cases e1;cases e2;obtain⟨a,w,hn⟩:=Bh1 hB h Pv hs;obtain⟨hl,hr⟩:=(ih Fk).2 t1.kids rs rfl rfl;have hkk:HN (Bw B) t->t1.k=t.k:=fun hn=>by
   cases h with
   |stop=>rfl
   |out h=>exact absurd hn (Bgk h)
   |step h=>exact absurd hn (Bgk h)
  by_cases h2:t1.k=2
  ·cases t1 with
   |mk k i j n l=>
    have Dj:k=2:=h2;subst Dj;obtain⟨q,rfl,rfl,rfl,rfl,_⟩:=a.vr;simp only [Tm.kids] at hl hr;have:rs=[]:=List.length_eq_zero_iff.1 hl;subst this;exact⟨w,.mk (Sq (by simp [Tm.k])) (fun p s hs=>by cases hs),a,hkk⟩
  ·have Me:Prs B t1 (.mk t1.k t1.i t1.j t1.n rs):=by
    cases t1 with
    |mk k i j n l=>
     have:=Bh2 (C:=C) hB (i:=i) (j:=j) (n:=n) (show k≠2 from h2) rs [] l a hl (fun p s s' h h'=>(hr p s s' h h' _ (a.kid h)).1);rw [List.nil_append,List.nil_append] at this;exact this
   have hsr:=Bhd hB Me a;refine⟨w.trans Me,.mk ?_ (fun p s' f6=>?_),hsr,hkk⟩
   ·cases t1 with
    |mk k i j n l=>
     simp only [Tm.k,Tm.i,Tm.j,Tm.n,Tm.kids] at *
     cases hn with
     |mk hp Wl=>
      have hln:=(a.node h2).2.2;have kk:∀p,stk k=some p->(An (.mk k i j n rs) p).k=(An (.mk k i j n l) p).k:=fun p hp=>by
       obtain⟨_,_,Ab,hb⟩:=Wt a hp;have Ab:p<l.length:=Ab;have g1:l[p]?=some l[p]:=q_f Ab;have g2:rs[p]?=some rs[p]:=q_f (by omega);have e1:An (.mk k i j n l) p=l[p]:=by unfold An;simp only [Tm.kids,List.getD_eq_getElem?_getD,g1,Option.getD_some]
       have e2:An (.mk k i j n rs) p=rs[p]:=by unfold An;simp only [Tm.kids,List.getD_eq_getElem?_getD,g2,Option.getD_some]
       have:=Wl p hp;rw [e1] at this;rw [e1,e2];exact (hr p _ _ g1 g2 _ (a.kid g1)).2.2 this
      by_cases Iv:k=15
      ·subst Iv;rw [p7 rfl] at hp |-;rw [kk 0 (by decide)];split at hp
       ·cases hp
       ·rename_i c;rw [if_neg c]
      by_cases Kp:k=18
      ·subst Kp;rw [o6 rfl] at hp |-;rw [kk 0 (by decide)];split at hp
       ·cases hp
       ·rename_i c;rw [if_neg c]
      by_cases Kq:k=19
      ·subst Kq;rw [j7 rfl] at hp |-;rw [kk 0 (by decide)];split at hp
       ·cases hp
       ·rename_i c;rw [if_neg c]
      by_cases Fu:k=22
      ·subst Fu;rw [l4 rfl] at hp |-;rw [kk 5 (by decide)];split at hp
       ·cases hp
       ·rename_i c;rw [if_neg c]
      by_cases Ct:k=23
      ·subst Ct;rw [l6 rfl] at hp |-;simp only [Tm.n,Tm.i,Tm.j] at hp |-;cases hb:B n i j with
       |none=>rfl
       |some q=>rw [hb] at hp;cases hp
      ·exact Sq (by simp only [Tm.k];omega)
   ·obtain⟨s,hs⟩:=Abl hl f6;cases t1 with
    |mk k i j n l=>exact (hr p s s' hs f6 _ (a.kid hs)).2.1
 |nil=>exact⟨fun t r e=>(by cases e),fun l rs e1 e2=>by cases e1;cases e2;exact⟨rfl,fun p s s' h=>by cases h⟩⟩
 |out=>cases Fk
 |@cons a r l rs N N1 N2 o1 o2 h hl ih1 ih2=>
  have Pv:=Aj6 hl Fk;refine⟨fun t r e=>(by cases e),fun l' rs' e1 e2=>?_⟩;cases e1;cases e2;obtain⟨q1,q2⟩:=(ih2 Fk).2 l rs rfl rfl;refine⟨by simp [q1],fun p s s' hs f6 C hsf=>?_⟩;cases p with
  |zero=>
   simp only [List.getElem?_cons_zero,q_b] at hs f6;subst hs f6;obtain⟨w1,w2,w3,w4⟩:=(ih1 Pv).1 a r rfl rfl C hsf;exact⟨w1,w2,w4⟩
  |succ p=>exact q2 p s s' (by simpa using hs) (by simpa using f6) C hsf
theorem Bhw (hB:Oa B) {t u x z:Tm} {N N':Nat} (hs:Sf C t) (h:Par B t u) (h1:PNx B (.inl t) 0 false N false (.inl x)) (h2:PNx B (.inl u) 0 false N' false (.inl z)):z=x:=by
 obtain⟨p1,n1,_,_⟩:=(Bhc hB h1 rfl).1 t x rfl rfl C hs;obtain⟨p2,n2,_,_⟩:=(Bhc hB h2 rfl).1 u z rfl rfl C (Abh hB h hs);exact Bhs hB hs (.step h p2) p1 n2 n1
end
theorem mixedV:Tryz.prog.follows .mixedOrders=true:=by kernel_rfl
def Aa8 (p:Int) (n:Nat):Nat:=(Int.tmod (IntKind.u64.wrap p) ((n:Int)+1)).toNat
theorem Bhk {n:Int} (h0:0<=n) (h:n<18446744073709551616):IntKind.u64.wrap n=n:=by
 unfold IntKind.wrap;simp only [IntKind.signed,IntKind.bits];simp;omega
theorem Bhl (n:Int):0<=IntKind.u64.wrap n:=by
 unfold IntKind.wrap;simp only [IntKind.signed,IntKind.bits];simp;omega
theorem Bgy (p:Int) (n:Nat):Aa8 p n<=n:=by
 unfold Aa8;have:=Int.tmod_lt_of_pos (IntKind.u64.wrap p) (b:=(n:Int)+1) (by omega);have:=Int.tmod_nonneg ((n:Int)+1) (Bhl p);omega
theorem Bgx (p:Int) {n:Nat} (h:n<=1000000):IntKind.i64.wrap (Int.tmod (IntKind.u64.wrap p) ((n:Int)+1))=(Aa8 p n:Int):=by
 have:=Int.tmod_lt_of_pos (IntKind.u64.wrap p) (b:=(n:Int)+1) (by omega);have:=Int.tmod_nonneg ((n:Int)+1) (Bhl p);unfold Aa8;rw [w64 (by unfold fit;omega)];omega
def Aa6 (l:List Int):List (List SV):=l.map fun n=>[.int .i64 n]
theorem Am7 (p:Int) (l:List Int):Aa6 (p::l)=[.int .i64 p]::Aa6 l:=rfl
theorem Bh7 {t u:Tm} {b:Bool} (h:Contract Tryz.prog 48 [.agg true (tv t)] (.tup [.agg true (tv u),.bool b])) :
  Contract Tryz.prog 23 [.agg true (tv t),.dsl 1 []] (.tup [.agg true (tv u),.bool b]):=by
 have hz:=Ag t;have Co:=Ag u;refine Al mixedV Tryz.func23 tr23 ?_;simp only [go_sem,seval,hz];refine Aa h ?_;simp only [go_sem,seval,Co]
theorem Bh8 {k i j n:Int} {u:Tm} {b:Bool} (p:Int) (ps:List Int) (h:Contract Tryz.prog 48 [.agg true (tv (.mk k i j n []))] (.tup [.agg true (tv u),.bool b])) :
  Contract Tryz.prog 23 [.agg true (tv (.mk k i j n [])),.dsl 1 (Aa6 (p::ps))] (.tup [.agg true (tv u),.bool b]):=by
 have Co:=Ag u;rw [Am] at h |-;rw [Am7];have e1:((((Aa6 ps).length+1:Nat):Int)==0)=false:=beq_eq_false_iff_ne.2 (by omega);refine Al mixedV Tryz.func23 tr23 ?_;simp only [go_sem,seval];intro _;simp only [go_sem,seval,e1];refine Aa h ?_;simp only [go_sem,seval,Co]
section
variable {k i j n:Int} {l:List Tm} (p:Int) (ps:List Int) (hl:0<l.length) (hl2:l.length<=1000)
include hl hl2
theorem Bh6 {u:Tm} {b:Bool} (hk:Aa8 p l.length=l.length) (h:Contract Tryz.prog 48 [.agg true (tv (.mk k i j n l))] (.tup [.agg true (tv u),.bool b])) :
  Contract Tryz.prog 23 [.agg true (tv (.mk k i j n l)),.dsl 1 (Aa6 (p::ps))] (.tup [.agg true (tv u),.bool b]):=by
 have Co:=Ag u;rw [Am] at h |-;rw [Am7];have e1:((((Aa6 ps).length+1:Nat):Int)==0)=false:=beq_eq_false_iff_ne.2 (by omega);have e2:(((l.length:Nat):Int)==0)=false:=beq_eq_false_iff_ne.2 (by omega);have e3:IntKind.i64.wrap ((l.length:Int)+1)=(l.length:Int)+1:=w64 (by unfold fit;omega);have e4:IntKind.u64.wrap ((l.length:Int)+1)=(l.length:Int)+1:=Bhk (by omega) (by omega);have e5:((l.length:Int)+1=0)=False:=eq_false (by omega);have e6:=Bgx p (n:=l.length) (by omega);rw [hk] at e6;have e7:(((l.length:Nat):Int)==((l.length:Nat):Int))=true:=beq_self_eq_true _;refine Al mixedV Tryz.func23 tr23 ?_;simp only [go_sem,seval];intro _;simp only [go_sem,seval,e1,e2,q_g];intros;simp only [go_sem,seval,e3,e4,e5,e6,e7,q_g];refine⟨by omega,fun _ _=>?_⟩;refine Aa h ?_;simp only [go_sem,seval,Co]
theorem Bhi {x:Nat} (hx:x<l.length) {u:Tm} {b:Bool} {r:Tm} (hk:Aa8 p l.length=x)
  (h:Contract Tryz.prog 23 [.agg true (tv l[x]),.dsl 1 (Aa6 ps)] (.tup [.agg true (tv u),.bool b]))
  (hw:b=true->Contract Tryz.prog 49 [.agg true (tv (.mk k i j n l)),.int .i64 x,.agg true (tv u)] (.agg true (tv r))) (hr:b=false->r=.mk k i j n l) :
  Contract Tryz.prog 23 [.agg true (tv (.mk k i j n l)),.dsl 1 (Aa6 (p::ps))] (.tup [.agg true (tv r),.bool b]):=by
 have Co:=Ag u;have Ty:=Ag r;have Zt:=Ag l[x];have hrt:b=false->tv r=tv (.mk k i j n l):=fun e=>by rw [hr e]
 rw [Am] at hw hrt |-;rw [Am7];have e1:((((Aa6 ps).length+1:Nat):Int)==0)=false:=beq_eq_false_iff_ne.2 (by omega);have e2:(((l.length:Nat):Int)==0)=false:=beq_eq_false_iff_ne.2 (by omega);have e3:IntKind.i64.wrap ((l.length:Int)+1)=(l.length:Int)+1:=w64 (by unfold fit;omega);have e4:IntKind.u64.wrap ((l.length:Int)+1)=(l.length:Int)+1:=Bhk (by omega) (by omega);have e5:((l.length:Int)+1=0)=False:=eq_false (by omega);have e6:=Bgx p (n:=l.length) (by omega);rw [hk] at e6;have e7:((x:Int)==((l.length:Nat):Int))=false:=beq_eq_false_iff_ne.2 (by omega);have e8:(0:Int)<(((Aa6 ps).length+1:Nat):Int):=by omega
 have e9:(0:Int)<=(x:Int):=by omega
 have e10:(x:Int)<(l.length:Int):=by omega
 have e11:(1:Int)<=(((Aa6 ps).length+1:Nat):Int):=by omega
 have hg:(l.map tv)[x]?.getD []=tv l[x]:=by rw [List.getElem?_map,q_f hx];rfl
 refine Al mixedV Tryz.func23 tr23 ?_;simp only [go_sem,seval];intro _;simp only [go_sem,seval,e1,e2,q_g];intros;simp only [go_sem,seval,e3,e4,e5,e6,e7,q_g];refine⟨e8,fun _ _=>?_⟩;simp only [go_sem,seval,e9,e10,hg,hx,q_g];refine⟨e11,?_⟩;rw [List.take_length];refine Aa h ?_;cases b with
 |false=>
  rw [hrt rfl];simp only [go_sem,seval,Co]
 |true=>
  simp only [go_sem,seval,Co];refine Aa (hw rfl) ?_;simp only [go_sem,seval,Ty]
end
def Aba (B:BT):List Int->Tm->Option Tm
 |[],t=>Bw B t
 |p::ps,t=>if t.kids.length=0 then Bw B t
  else if Aa8 p t.kids.length=t.kids.length then Bw B t
  else (Aba B ps (An t (Aa8 p t.kids.length))).map (Bz t (Aa8 p t.kids.length))
section
variable {B:BT}
theorem Bgz (p:Int) {t:Tm} (h2:Aa8 p t.kids.length≠t.kids.length):Aa8 p t.kids.length<t.kids.length:=by
 have:=Bgy p t.kids.length;omega
theorem Bhh {C:Nat} {t:Tm} (h:Sf C t) (hk:t.kids.length≠0):t.k≠2:=by
 cases t with
 |mk k i j n l=>
  intro e;have e:k=2:=e;subst e;obtain⟨_,_,_,_,rfl,_⟩:=h.vr;exact hk rfl
theorem Bh5 {b:Nat} {t:Tm} (h:Sf b t):∀{c:Nat},b<=c->Sf c t:=by
 induction h with
 |var h=>intro c hc;exact .var (by omega)
 |nd i j n h2 h0 hf hl _ ih=>intro c hc;exact .nd i j n h2 h0 hf hl (fun p t ht=>ih p t ht (by omega))
theorem Bh9:∀(ps:List Int) {t u:Tm} {C:Nat},Sf C t->Aba B ps t=some u->Par B t u:=by
 intro ps
 induction ps with
 |nil=>intro t u C hs h;exact Aex hs h
 |cons p ps ih=>
  intro t u C hs h;unfold Aba at h
  by_cases c:t.kids.length=0
  ·rw [if_pos c] at h;exact Aex hs h
  rw [if_neg c] at h
  by_cases c2:Aa8 p t.kids.length=t.kids.length
  ·rw [if_pos c2] at h;exact Aex hs h
  rw [if_neg c2,q_e] at h;obtain⟨v,hv,rfl⟩:=h;have hl:=Bgz p c2;exact Am9 hs (Bhh hs c) hl (ih (Iw hs hl) hv)
theorem Bhe {C M:Nat} {t:Tm} (h:PT C M t) {p:Nat} (hp:p<t.kids.length):PT (C+2) M (An t p)/\tsz (An t p)+1<=tsz t:=by
 have hb:=q9 t.k p;cases t with
 |mk k i j n l=>
  have hp':p<l.length:=hp;have hq:l[p]?=some (An (.mk k i j n l) p):=by
   unfold An;rw [show (Tm.mk k i j n l).kids=l from rfl,List.getD_eq_getElem?_getD,q_f hp'];rfl
  have:=h.kidm hq;exact⟨⟨this.pl,Bh5 this.sf (by have:bnd k p<=2:=hb;omega),this.sz⟩,Xg (Ag6 hp)⟩
theorem Bia (hB:BodyP B):∀(ps:List Int) {t u:Tm} {C:Nat},PT C 4000 t->C+2*tsz t<=60000000->Aba B ps t=some u->Ch u=true/\tsz u<=tsz t*4000:=by
 intro ps
 induction ps with
 |nil=>intro t u C hs hC h;exact Bdp hB h hs (by omega)
 |cons p ps ih=>
  intro t u C hs hC h;unfold Aba at h
  by_cases c:t.kids.length=0
  ·rw [if_pos c] at h;exact Bdp hB h hs (by omega)
  rw [if_neg c] at h
  by_cases c2:Aa8 p t.kids.length=t.kids.length
  ·rw [if_pos c2] at h;exact Bdp hB h hs (by omega)
  rw [if_neg c2,q_e] at h;obtain⟨v,hv,rfl⟩:=h;have hl:=Bgz p c2;obtain⟨k1,k2⟩:=Bhe hs hl;obtain⟨a,b⟩:=ih k1 (by omega) hv;obtain⟨d,e⟩:=A7w hs.pl a hl;exact⟨d,by omega⟩
theorem Bho (L:Sz B):∀(ps:List Int) {t:Tm} {C:Nat},PT C 4000 t->C+2*tsz t<=60000000->Con 23 [.agg true (tv t),.dsl 1 (Aa6 ps)] (Ld (Aba B ps t) t):=by
 intro ps
 induction ps with
 |nil=>intro t C hs hC;exact Bh7 (Ban L hs (by omega))
 |cons p ps ih=>
  intro t C hs hC;have Dq:=Ban L hs (by omega);cases t with
  |mk k i j n l=>
   unfold Aba
   by_cases c:l.length=0
   ·rw [if_pos (show (Tm.mk k i j n l).kids.length=0 from c)];obtain rfl:=List.length_eq_zero_iff.1 c;exact Bh8 p ps Dq
   rw [if_neg (show ¬(Tm.mk k i j n l).kids.length=0 from c)];have hl2:l.length<=12:=by
    have h2:=Bhh hs.sf c;have:=kl hs.sf h2;have:=Qr k n;omega
   by_cases c2:Aa8 p l.length=l.length
   ·rw [if_pos (show Aa8 p (Tm.mk k i j n l).kids.length=(Tm.mk k i j n l).kids.length from c2)];exact Bh6 p ps (by omega) (by omega) c2 Dq
   rw [if_neg (show ¬Aa8 p (Tm.mk k i j n l).kids.length=(Tm.mk k i j n l).kids.length from c2)];have hl:Aa8 p l.length<l.length:=by have:=Bgy p l.length;omega
   obtain⟨k1,k2⟩:=Bhe (p:=Aa8 p l.length) hs hl;have hx:=ih k1 (by omega);have e:An (.mk k i j n l) (Aa8 p l.length)=l[Aa8 p l.length]:=by
    unfold An;rw [show (Tm.mk k i j n l).kids=l from rfl,List.getD_eq_getElem?_getD,q_f hl];rfl
   show Con _ _ (Ld ((Aba B ps (An (.mk k i j n l) (Aa8 p l.length))).map (Bz (.mk k i j n l) (Aa8 p l.length))) _);rw [e] at hx |-;cases hv:Aba B ps l[Aa8 p l.length] with
   |none=>
    rw [hv] at hx;exact Bhi p ps (by omega) (by omega) hl rfl hx (fun h=>by cases h) (fun _=>rfl)
   |some v=>
    rw [hv] at hx;exact Bhi p ps (by omega) (by omega) hl rfl hx (fun _=>o8 (.mk k i j n l) v (show l.length<=100 by omega) _ (by omega)) (fun h=>by cases h)
end
open Go Go.Proofs Go.Proofs.YtdpigpopcbjkmaaGreatDoor
def af8:AF:=⟨85,[(.t 4)],(sqF [oP 2 (.box (.t 0)),oP 4 (.mv (cB false))] (sqF [oP 16 (.load true 5 (.t 2)),oP 17 (.call 13 [(.t 16)]),oP 15 (mT 17),oP 18 (.ext (.t 15) 0),oP 19 (.ext (.t 15) 1),oP 20 (.ext (.t 15) 2),oP 5 (.new [(iS 0),(iS 0),(iS 0),(iS 0),.nils]),oN (.store 5 (.t 5) (.t 18)),oP 6 (mT 19),oP 7 (mT 20)] (.seq (sqF [oP 21 (mT 7),oP 22 (.un .not (.t 21)),oP 23 (mT 22),oG 24 23 false 0 (mT 1),oG 25 23 false 0 (.len false (.t 24)),oG 26 23 false 0 (.bin 0 .gtr (.t 25) (cI 60)),oP 27 (.pick (.t 23) (cB true) (.t 26))] (.cond (.t 27) (sqF [oP 4 (.mv (cB true))] .ret) .skip)) (sqF [oP 29 (.load true 5 (.t 2)),oP 30 (mT 1),oP 31 (.call 23 [(.t 29),(.t 30)]),oP 28 (mT 31),oP 32 (.ext (.t 28) 0),oP 33 (.ext (.t 28) 1),oP 8 (.new [(iS 0),(iS 0),(iS 0),(iS 0),.nils]),oN (.store 5 (.t 8) (.t 32)),oP 9 (mT 33)] (.seq (sqF [oP 34 (mT 9),oP 35 (.un .not (.t 34)),oP 36 (mT 35),oG 37 36 false 0 (.load true 5 (.t 8)),oG 38 36 false 0 (.call 17 [(.t 37),(cI 2000)]),oP 39 (.pick (.t 36) (cB true) (.t 38))] (.cond (.t 39) (sqF [oP 4 (.mv (cB true))] .ret) .skip)) (sqF [oP 40 (.build [(iS 0),(.bool false)] []),oP 41 (.boxg (.t 40)),oP 10 (mT 41)] (sqF [oP 42 (mT 10),oP 43 (.load true 5 (.t 8)),oP 44 (.hcall 24 [(.t 42),(.t 43)])] (.seq (sqF [oP 45 (mT 10),oP 46 (nkT 45),oP 47 (fdT 1 46),oP 48 (ldT 47)] (.cond (.t 48) (sqF [oP 4 (.mv (cB true))] .ret) .skip)) (sqF [oP 50 (.load true 5 (.t 2)),oP 51 (mT 6),oP 52 (.i2f .f64 (.t 51)),oP 53 (.call 14 [(.t 50),(.t 52)]),oP 49 (mT 53),oP 54 (.ext (.t 49) 0),oP 55 (.ext (.t 49) 1),oP 11 (.new [(iS 0),(iS 0),(iS 0),(iS 0),.nils]),oN (.store 5 (.t 11) (.t 54)),oP 12 (mT 55)] (sqT [⟨(some 57),(.load true 5 (.t 8)),none,0,true,[]⟩,oI 58 1 (mT 10),oI 59 2 (nkT 58),oI 60 3 (fdT 0 59),⟨(some 61),(ldT 60),none,4,true,[]⟩,oI 62 5 (.i2f .f64 (.t 61)),⟨(some 63),(.call 14 [(.t 57),(.t 62)]),none,6,true,[]⟩,oI 56 7 (mT 63),oI 64 8 (.ext (.t 56) 0),oI 65 9 (.ext (.t 56) 1),⟨(some 13),(.new [(iS 0),(iS 0),(iS 0),(iS 0),.nils]),none,10,false,[0,4,6]⟩,oJ 11 (.store 5 (.t 13) (.t 64)),oI 14 12 (mT 65)] (sqF [oP 66 (mT 12),oP 67 (.bin 0 .eql (.t 66) (cI 0)),oP 68 (mT 67),oG 69 68 true 0 (mT 14),oG 70 68 true 0 (.bin 0 .eql (.t 69) (cI 0)),oP 71 (.pick (.t 68) (.t 70) (cB false)),oP 72 (mT 71),oG 73 72 true 0 (.load true 5 (.t 11)),oG 74 72 true 0 (.load true 5 (.t 5)),oG 75 72 true 0 (.call 22 [(.t 73),(.t 74)]),oP 76 (.pick (.t 72) (.t 75) (cB false)),oP 77 (mT 76),oG 78 77 true 0 (.load true 5 (.t 13)),oG 79 77 true 0 (.load true 5 (.t 5)),oG 80 77 true 0 (.call 22 [(.t 78),(.t 79)]),oP 81 (.pick (.t 77) (.t 80) (cB false)),oP 82 (mT 81),oG 83 82 true 0 (.call 16 []),oP 84 (.pick (.t 82) (.t 83) (cB false)),oP 4 (mT 84)] .ret)))))))))))⟩
theorem tr8:trF Tryz.prog Tryz.f8=some af8:=by kernel_rfl
attribute [go_sem] af8
theorem Bih:(List.range 4001).all (fun n=>Nrm.within (n:Int) (FloatKind.f64.nearest (n:Int)))=true:=by kernel_rfl
theorem Big {n:Nat} (h:n<=4000):Nrm.within (n:Int) (FloatKind.f64.nearest (n:Int))=true:=
 List.all_eq_true.1 Bih n (List.mem_range.2 (by omega))
theorem Bg4 {t x:Tm} {n C M:Nat} (hp:PT C M t) (hn:NR symT.B 0 (Ap [] 0 t) n x) (hx:tsz x<=4000) (hn4:n<=4000) (hC:C<=2000000) (hM:M<=4000) :
  Con 14 [.agg true (tv t),.float .f64 (FloatKind.f64.nearest (n:Int))] (.tup [.agg true (tv x),.int .i64 0]):=by
 obtain⟨L,h1,h2,h3⟩:=A9z (FloatKind.f64.nearest (n:Int));have hd:=Pc t;have hz:=hp.sz;have hc:cap=1099511627776:=rfl;rcases A3p Auu (hp.tok (by omega)) hp.pl ⟨C,hp.sf,by omega⟩ h2 h1 with⟨N,r,k1,k2⟩|⟨k1,k2⟩
 ·obtain⟨rfl,rfl⟩:=NR.det k1 hn;exact k2
 ·have:=k2 n x hn;have:=h3 n (by omega) (Big hn4);omega
theorem Aew (t:Tm) (l:List Int):∀x∈[SV.agg true (tv t),.dsl 1 (Aa6 l)],NoG x:=by
 intro x hx;simp only [List.mem_cons,List.not_mem_nil,or_false] at hx;rcases hx with rfl|rfl
 ·exact Ws t true
 ·refine .dsl _ _ (fun y hy=>?_);simp only [Aa6,List.mem_flatten,List.mem_map] at hy;obtain⟨r,⟨n,_,rfl⟩,hy⟩:=hy;simp only [List.mem_cons,List.not_mem_nil,or_false] at hy;subst hy;exact .int _ _
theorem Bg6 {t x:Tm} {n:Int} {o:Bool} {l:List Int} (he:Con 13 [.agg true (tv t)] (.tup [.agg true (tv x),.int .i64 n,.bool o])) (h:o=false\/60<l.length) :
  Con 8 [.agg true (tv t),.dsl 1 (Aa6 l)] (.bool true):=by
 refine f8 mixed Tryz.func8 tr8 (Aew t l) (.bool _) ?_;have h5:=Ag t;have h6:=Ag x;have e:(Aa6 l).length=l.length:=q_g ..;cases o with
 |false=>
  simp only [go_sem,seval,h5];refine Aa he ?_;simp only [go_sem,seval,h6]
 |true=>
  have e1:decide ((l.length:Int) > 60)=true:=decide_eq_true (by rcases h with h|h;cases h;omega);simp only [go_sem,seval,h5];refine Aa he ?_;simp only [go_sem,seval,h6,e,e1]
section
variable {t x u:Tm} {n:Int} {l:List Int} (he:Con 13 [.agg true (tv t)] (.tup [.agg true (tv x),.int .i64 n,.bool true])) (hl:¬60<l.length)
include he hl
theorem Bg5 {b z:Bool} (hs:Con 23 [.agg true (tv t),.dsl 1 (Aa6 l)] (.tup [.agg true (tv u),.bool b])) (hz:Con 17 [.agg true (tv u),.int .i64 2000] (.bool z)) (h:b=false\/z=true) :
  Con 8 [.agg true (tv t),.dsl 1 (Aa6 l)] (.bool true):=by
 refine f8 mixed Tryz.func8 tr8 (Aew t l) (.bool _) ?_;have h5:=Ag t;have h6:=Ag x;have h7:=Ag u;have e:(Aa6 l).length=l.length:=q_g ..;have e1:decide ((l.length:Int) > 60)=false:=decide_eq_false (by omega);simp only [go_sem,seval,h5];refine Aa he ?_;simp only [go_sem,seval,h6,e,e1]
 try intros
 refine Aa hs ?_;cases b with
 |false=>simp only [go_sem,seval,h7]
 |true=>
  obtain rfl:z=true:=by rcases h with h|h;cases h;exact h
  simp only [go_sem,seval,h7];refine Aa hz ?_;simp only [go_sem,seval,h7]
variable (hs:Con 23 [.agg true (tv t),.dsl 1 (Aa6 l)] (.tup [.agg true (tv u),.bool true])) (hz:Con 17 [.agg true (tv u),.int .i64 2000] (.bool false))
include hs hz
theorem Bhv {w:Tm} {m:Nat} (hn:CN u 0 m true w):Con 8 [.agg true (tv t),.dsl 1 (Aa6 l)] (.bool true):=by
 refine f8 mixed Tryz.func8 tr8 (Aew t l) (.bool _) ?_;have h5:=Ag t;have h6:=Ag x;have h7:=Ag u;have h8:=Ag w;have h:=hn 0 [[.int .i64 0,.bool false]] rfl;have e:(Aa6 l).length=l.length:=q_g ..;have e1:decide ((l.length:Int) > 60)=false:=decide_eq_false (by omega);simp only [go_sem,seval,h5];refine Aa he ?_;simp only [go_sem,seval,h6,e,e1]
 try intros
 refine Aa hs ?_;simp only [go_sem,seval,h7];refine Aa hz ?_;simp only [go_sem,seval,h7];refine Ac h ?_;simp only [go_sem,seval,h8,De]
theorem Bhu {w:Tm} {m:Nat} (hn:CN u 0 m false w) (h1:Con 14 [.agg true (tv t),.float .f64 (FloatKind.f64.nearest n)] (.tup [.agg true (tv x),.int .i64 0]))
  (h2:Con 14 [.agg true (tv u),.float .f64 (FloatKind.f64.nearest (m:Int))] (.tup [.agg true (tv x),.int .i64 0])) (hx:TOk x):Con 8 [.agg true (tv t),.dsl 1 (Aa6 l)] (.bool true):=by
 refine f8 mixed Tryz.func8 tr8 (Aew t l) (.bool _) ?_;have h5:=Ag t;have h6:=Ag x;have h7:=Ag u;have h8:=Ag w;have hsa:=Bdw x hx;have h:=hn 0 [[.int .i64 0,.bool false]] rfl;have e:(Aa6 l).length=l.length:=q_g ..;have e1:decide ((l.length:Int) > 60)=false:=decide_eq_false (by omega);simp only [go_sem,seval,h5];refine Aa he ?_;simp only [go_sem,seval,h6,e,e1]
 try intros
 refine Aa hs ?_;simp only [go_sem,seval,h7];refine Aa hz ?_;simp only [go_sem,seval,h7];refine Ac h ?_;simp only [go_sem,seval,h8,De];refine Aa h1 ?_;simp only [go_sem,seval,h6,De];refine Aa h2 ?_;simp only [go_sem,seval,h6];refine Aa hsa ?_;simp only [go_sem,seval,h6];refine Aa hsa ?_;simp only [go_sem,seval,h6];refine Aa w7 ?_;simp only [go_sem,seval]
end
theorem Bhn {t:Tm} (ht:TOk t) {l:List Int} (hl:∀n∈l,fit n):Con 8 [.agg true (tv t),.dsl 1 (l.map fun n=>[.int .i64 n])] (.bool true):=by
 show Con _ [.agg true (tv t),.dsl 1 (Aa6 l)] _;obtain⟨x,n,o,he,hx,hb⟩:=A1s plib ht;cases o with
 |false=>exact Bg6 he (.inl rfl)
 |true=>
  by_cases h60:60<l.length
  ·exact Bg6 he (.inr h60)
  obtain⟨hp,hw,hz,hn⟩:=hb rfl;have Ba:=hp.sz;have Dp:=Bho plib l (hp.mono (M':=4000) (by omega)) (by omega);have Ib:=Ayq Av2 hw hp.sf;cases hu:Aba symT.B l t with
  |none=>
   rw [hu] at Dp;obtain⟨z,hgz,_⟩:=Aho ht (m:=2000) (by decide) (by decide);exact Bg5 (u:=t) (b:=false) he h60 Dp hgz (.inl rfl)
  |some u=>
   rw [hu] at Dp;have Aer:=Bh9 l hp.sf hu;obtain⟨u1,u2⟩:=Bia plib.bd l (hp.mono (M':=4000) (by omega)) (by omega) hu;have hus:=Abh Av2 Aer hp.sf;have hpu:PT 1048576 240000 u:=⟨u1,hus,by omega⟩
   obtain⟨z,hgz,hzi⟩:=Aho (hpu.tok (by omega)) (m:=2000) (by decide) (by decide);cases z with
   |true=>exact Bg5 (u:=u) (b:=true) he h60 Dp hgz (.inr rfl)
   |false=>
    have Dn:=hzi rfl;have hpu2:PT 1048576 2000 u:=⟨u1,hus,by omega⟩
    have hms:ms 0=16004000:=by decide
    obtain⟨m,o2,w,k1,k2,k3,k4,k5⟩:=A4d plib (ms 0+2001) 0 u 1048576 (by omega) (by omega) (hpu2.mono (by omega)) (by omega);cases o2 with
    |true=>exact Bhv he h60 Dp hgz k2
    |false=>
     have hxw:=Bhw Av2 hp.sf Aer hw k1;subst hxw;have hnu:=Ayq Av2 k1 hus;exact Bhu he h60 Dp hgz k2 (Bg4 hp Ib hz hn (by omega) (by omega)) (Bg4 hpu2 hnu hz (k5 rfl) (by omega) (by omega)) hx
open Go Go.RowKit
theorem Asg {H:Type} {enc:TypeId×Value->H} {C:Checked} {os:Os} {f:FuncId} {fn:Func} {s:ChangeSpec} {S:List TypeId} {tb:TypeId} {apart Gf handsOn:Bool} {X:World->Array Value->Prop} (hX:∀(w w':World) (args:Array Value),w.heap=w'.heap->X w args->X w' args) (own:ownKnob C.prog.godebug=none) (started:os.Started) (noInit:C.prog.inits.idxOf? f=none)
  (Jt:C.prog.funcs[f]?=some fn) (Anq:s.vars=[])
  (witness:∃(w:World) (tape:Tape) (i:Input),w.os=os/\(w.forCall tape i).Shaped C.prog/\i.vars=[]/\Input.okWide C.prog (w.forCall tape i) .any w.heap.size f i /\
   ((s.pre enc C.prog fn [] apart (w.forCall tape i).memory i.args/\X (w.forCall tape i).memory i.args)/\sizedMet enc C.prog fn (OpenSpec.ofChange s) apart (w.forCall tape i).memory i.args)/\({}:Assume).holds C.prog (lone (Frame.enter C.prog f i.args .normal) [] (w.forCall tape i)))
  (hs:∀ds:List (DataW H),ds.length=fn.params.size->s.fn H ds={ results:=[.lit (.bool true)],args:=ds }) (Uh:fn.resultTypes=#[tb]) (htb:C.prog.underlying tb=some .bool)
  (hS:Vw C.prog S=true) (Aer:∀t∈fn.params.toList,t∈S) (hlaid:laidOutB C.prog=true) (hread:∀t∈fn.params.toList,C.prog.readableRec t=true/\t<C.prog.types.size)
  (law:∀args:List SV,Td C.prog fn.params.toList args->Contract C.prog f args (.bool true)) :
  ReturnsInHanded {} C os f .any (fun w args=>(s.pre enc C.prog fn [] apart w args/\X w args)/\sizedMet enc C.prog fn (OpenSpec.ofChange s) apart w args) (s.post enc C.prog fn apart Gf handsOn false):=by
 refine returnsInHanded_of_change_and (C:=C) (X:=X) hX own started noInit Jt witness ?_;intro W base args ds gs before Ek hW _ Ba _ _;have hW':=hW;have Ab:∀x∈before,x.block<W.heap.size:=fun x hx=>hW'.lt x hx
 obtain⟨p,q,hA,hV,rfl,To,hnd⟩:=hW;rw [Anq] at hV;have hgs:gs=[]/\q=[]:=by
  cases gs with
  |nil=>exact⟨rfl,hV⟩
  |cons g gs=>exact hV.elim
 obtain⟨rfl,rfl⟩:=hgs;have Jw:∀n∈DataW.weightsEach C.prog fn.params.toList ds,n<=reachBytes:=by
  intro n hn;have:=List.all_eq_true.1 Ba n (Apz hn);simpa using this
 have Um:ds.length=fn.params.size:=by
  have:=(trodAll_length hA).2;simpa using this
 obtain⟨xs,a1,a2,a3⟩:=Asw hS Aer (fun j t v ht hv=>Ek j t v (by simpa using ht) (by simpa using hv)) Jw hA;have hc:=law xs a1 (Lt W) W args.toList ⟨fun b j v h=>h,fun b h=>h.elim⟩ a2.symm a3;refine Calls.mono hc (fun e W' he=>?_);obtain⟨v,m',rfl,k1,k2,k3,k4,k5,k6,k7,k8,k9⟩:=he;cases k1;have hb:Below W.heap.size W W':=⟨k5,k6,k7,k8,k9⟩
 refine⟨_,rfl,ds,[],p++[],[],p,[],hW',?_,?_,?_,hb.frame _,fun h=>by cases h⟩
 ·rw [List.append_nil,hs ds Um,Uh];exact⟨[],[],⟨1,by simp [DataW.trod,htb,Value.cells]⟩,rfl,rfl⟩
 ·rw [List.append_nil,hs ds Um];exact Bay hlaid hb hread (fun x hx=>Ab x (by simpa using hx)) hA
 ·rw [List.append_nil,hs ds Um,Anq];rfl
end Go.Proofs.YtdpigpopcbjkmaaGreatDoor.Abs
