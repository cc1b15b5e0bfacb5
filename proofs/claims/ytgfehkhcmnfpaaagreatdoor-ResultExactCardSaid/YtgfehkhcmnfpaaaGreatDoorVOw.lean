import Derived.Test.YtgfehkhcmnfpaaaGreatDoorVOh
import Derived.Test.YtgfehkhcmnfpaaaGreatDoorVQf
import Derived.Test.YtgfehkhcmnfpaaaGreatDoorVEv
import Derived.Test.YtgfehkhcmnfpaaaGreatDoorProg
import Derived.KernelRfl
import Derived.Lib.ItoaLen
set_option linter.all false
set_option maxRecDepth 20000
set_option maxHeartbeats 4000000
namespace Go.Proofs.YtgfehkhcmnfpaaaGreatDoor.Abs
open Go Go.RowKit
def Pp(d:Nat)(t:Tok):Nat:=if t.k=1 then d+1 else if t.k=2 then d-1 else d
def dep(d:Nat)(ts:List Tok):Nat:=ts.foldl Pp d
def seg(c:RC)(a b:Nat):List Tok:=(c.L.drop a).take (b-a)
structure Bal(c:RC)(a b:Nat):Prop where
 le:a<=b
 len:b<=c.L.length
 d:∀d,dep d (seg c a b)=d
section
variable{c:RC}{a b e:Nat}
def Bal.refl(h:a<=c.L.length):Bal c a a:=⟨q_ja _,h,fun d=>by simp[seg,dep]⟩
def Afx(h1:a<=b)(h2:b<=e):seg c a b++seg c b e=seg c a e:=by
 unfold seg;rw[show e-a=(b-a)+(e-b) by omega,List.take_add,List.drop_drop,show a+(b-a)=b by omega]
def Bal.trans(h:Bal c a b)(k:Bal c b e):Bal c a e:=⟨q_ko h.le k.le,k.len,fun d=>by
 rw[<-Afx h.le k.le,dep,List.foldl_append];have h1:=h.d d;have k1:=k.d d;unfold dep at h1 k1;rw[h1,k1]⟩
def Afy(h:a<c.L.length):seg c a (a+1)=[c.tk a]:=by
 unfold seg RC.tk;rw[show a+1-a=1 by omega,List.drop_eq_getElem_cons h,q_j,q_f h];rfl
def Bal.word(h:a<c.L.length)(h1:(c.tk a).k≠1)(h2:(c.tk a).k≠2):Bal c a (a+1):=⟨Nat.le_succ _,h,fun d=>by
 rw[Afy h];simp[dep,Pp,h1,h2]⟩
def Bal.list(h:a<c.L.length)(h1:(c.tk a).k=1)(k:Bal c (a+1) b)(hb:b<c.L.length)(h2:(c.tk b).k=2):Bal c a (b+1):=⟨by have:=k.le;omega,hb,fun d=>by
 rw[<-Afx (b:=a+1) (by omega) (by have:=k.le;omega),<-Afx (a:=a+1) (b:=b) k.le (by omega),Afy h,Afy hb];have k1:=k.d (d+1);unfold dep at k1 |-;rw[List.foldl_append,List.foldl_append];have e1:List.foldl Pp d [c.tk a]=d+1:=by simp[Pp,h1]
 rw[e1,k1];simp[Pp,h2]⟩
end
def A2q:∀(l:List Tok) (i d:Nat),Qn l i d=none->l=[]\/dep d l≠0:=by
 intro l
 induction l with
 |nil=>intro i d _;exact .inl rfl
 |cons t r ih=>
  intro i d h;right;rw[Qn] at h
  by_cases hc:(if t.k=1 then d+1 else if t.k=2 then d-1 else d)=0
  ·rw[if_pos hc] at h;cases h
  ·rw[if_neg hc] at h;show List.foldl Pp (Pp d t) r≠0;rcases ih _ _ h with rfl|h2
   ·exact hc
   ·exact h2
section
variable{c:RC}{s:RS}
def Rx{kd:Nat}(h:(An c s kd).2.bad=false):s.bad=false/\s.k<c.L.length/\(c.tk s.k).k=kd/\An c s kd=((c.tk s.k).w,s.nx):=by
 cases hb:s.bad with
 |true=>rw[Alk hb] at h;rw[hb] at h;cases h
 |false=>
  rcases Afj (c:=c) hb kd with⟨h1,h2,h3⟩|⟨a,h1⟩
  ·exact⟨rfl,h2,h3,h1⟩
  ·rw[h1] at h;cases h
def Lu(k:Nat):(De c s k).bad=true:=by unfold De;split;assumption;rfl
def Ayz{lev:RS->Nat×RS}(hl:∀s,(lev s).2.bad=false->s.bad=false/\(s.k<=c.L.length->Bal c s.k (lev s).2.k))(h:(Jp c lev s).2.bad=false) :
  s.bad=false/\(s.k<=c.L.length->∃b,Bal c s.k b/\b<c.L.length/\(c.tk b).k=2/\(Jp c lev s).2.k=b+1):=by
 unfold Jp at h |-;dsimp only at h |-;obtain⟨h1,h2,h3,h4⟩:=Rx h;rw[h4];split at h1
 ·rename_i hc;rw[if_pos hc] at h2 h3 |-;obtain⟨g1,g2⟩:=hl s.nx h1;exact⟨g1,fun _=>⟨_,(Bal.word hc.1 (by rw[hc.2.1];decide) (by rw[hc.2.1];decide)).trans (g2 hc.1),h2,h3,rfl⟩⟩
 ·rename_i hc;rw[if_neg hc] at h2 h3 |-;split at h1
  ·rename_i hc;rw[if_pos hc] at h2 h3 |-;obtain⟨g1,g2⟩:=hl (lev s.nx).2 h1;obtain⟨g3,g4⟩:=hl s.nx g1;have g5:=g4 hc.1;exact⟨g3,fun _=>⟨_,(Bal.word hc.1 (by rw[hc.2.1];decide) (by rw[hc.2.1];decide)).trans (g5.trans (g2 g5.len)),h2,h3,rfl⟩⟩
  ·rw[Lu] at h1;cases h1
def Wd:∀(f:Nat) (s:RS),(Cy c f s).2.bad=false->s.bad=false/\(Cy c f s).1<=1000/\(s.k<=c.L.length->Bal c s.k (Cy c f s).2.k):=by
 intro f
 induction f with
 |zero=>intro s h;exact⟨h,Nat.zero_le _,fun hk=>Bal.refl hk⟩
 |succ f ih=>
  intro s h;rw[Cy] at h |-
  by_cases h0:s.bad=false/\s.k<c.L.length
  ·rw[if_pos h0] at h |-;have key:∀(q:Nat×RS),((if q.2.bad=false/\1000<q.1 then De c q.2 s.k else q.2)).bad=false->q.2.bad=false/\q.1<=1000/\(if q.2.bad=false/\1000<q.1 then De c q.2 s.k else q.2)=q.2:=fun q h=>by
    by_cases hc:q.2.bad=false/\1000<q.1
    ·rw[if_pos hc,Lu] at h;cases h
    ·rw[if_neg hc] at h |-;exact⟨h,Nat.le_of_not_lt (fun k=>hc ⟨h,k⟩),rfl⟩
   dsimp only at h |-;obtain⟨k1,k2,k3⟩:=key _ h;rw[k3];refine⟨h0.1,k2,fun hk=>?_⟩;clear k2 k3 h key
   by_cases h4:(c.tk s.k).k=4
   ·rw[if_pos h4] at k1 |-;exact Bal.word h0.2 (by rw[h4];decide) (by rw[h4];decide)
   rw[if_neg h4] at k1 |-
   by_cases h5:(c.tk s.k).k=3/\(c.tk s.k).w=[105]
   ·rw[if_pos h5] at k1 |-;exact Bal.word h0.2 (by rw[h5.1];decide) (by rw[h5.1];decide)
   rw[if_neg h5] at k1 |-
   by_cases h6:(c.tk s.k).k=3/\(c.tk s.k).w=[106]
   ·rw[if_pos h6] at k1 |-;exact Bal.word h0.2 (by rw[h6.1];decide) (by rw[h6.1];decide)
   rw[if_neg h6] at k1 |-
   by_cases h7:(c.tk s.k).k=1
   ·rw[if_pos h7] at k1 |-;obtain⟨_,g2⟩:=Ayz (fun s h=>⟨(ih s h).1,(ih s h).2.2⟩) k1;obtain⟨b,g3,g4,g5,g6⟩:=g2 h0.2;rw[g6];exact Bal.list h0.2 h7 g3 g4 g5
   ·rw[if_neg h7,Lu] at k1;cases k1
  ·rw[if_neg h0,Lu] at h;cases h
end
def GT(n want f:Nat)(t:Tm):Prop:=Cz t want=true/\Da t<=n/\TOk t/\Du t<=f
def Ks(n f:Nat):List (Nat×Nat)->List Tm->Prop
 |[],[]=>True
 |(b,w)::r,t::l=>GT (n+b) w f t/\Ks n f r l
 |_,_=>False
def Ks.len{n f:Nat}:∀{r:List (Nat×Nat)} {l:List Tm},Ks n f r l->l.length=r.length:=by
 intro r
 induction r with
 |nil=>intro l h;cases l with
  |nil=>rfl
  |cons=>cases h
 |cons a r ih=>
  intro l h;cases l with
  |nil=>cases h
  |cons t l=>rw[q_jk,q_jk,ih h.2]
def shK(k:Nat):Nat->By->List (Nat×Nat)
 |_,[]=>[]
 |bd,ch::r=>
  if ch.toNat=76 then shK k bd r else if ch.toNat=77 then shK k bd r
  else if ch.toNat=120\/ch.toNat=121\/ch.toNat=101 then shK k (bd+1) r
  else if ch.toNat=116 then (0,ofR k)::shK k bd r
  else if ch.toNat=112 then (0,2)::shK k bd r
  else (bd,ofR k)::shK k bd r
def nbS:By->Nat
 |[]=>0
 |ch::r=>(if ch.toNat=120\/ch.toNat=121\/ch.toNat=101 then 1 else 0)+nbS r
def Iw(m:Nat)(sh:By):Bool:=sh.any fun c=>decide (c.toNat=m)
def TGd(c:RC)(T:TR)(f:Nat):Prop:=∀(ns:List By) (want:Nat) (s:RS),c.L.length<s.k+f->want<=2->s.k<=c.L.length->(T ns want s).2.bad=false->s.bad=false/\Bal c s.k (T ns want s).2.k/\(ns.length+3*f<2000000000->GT ns.length want f (T ns want s).1)
section
variable{c:RC}{T:TR}{f:Nat}{ns:List By}
def Alf(hB:∀s,s.bad=true->(T ns 2 s).2.bad=true):∀(m:Nat) (s:RS),s.bad=true->(Gm T ns m s).2.bad=true:=by
 intro m
 induction m with
 |zero=>intro s h;exact h
 |succ m ih=>intro s h;exact ih _ (hB s h)
def Ay1(hT:TGd c T f)(hB:∀s,s.bad=true->(T ns 2 s).2.bad=true):∀(m:Nat) (s:RS),c.L.length<s.k+f->s.k<=c.L.length->(Gm T ns m s).2.bad=false->s.bad=false/\Bal c s.k (Gm T ns m s).2.k/\(ns.length+3*f<2000000000->Ks ns.length f (List.replicate m (0,2)) (Gm T ns m s).1):=by
 intro m
 induction m with
 |zero=>intro s _ hk h;exact⟨h,Bal.refl hk,fun _=>trivial⟩
 |succ m ih=>
  intro s hf hk h;have h1:(Gm T ns m (T ns 2 s).2).2.bad=false:=h;have hb:(T ns 2 s).2.bad=false:=by
   cases hb:(T ns 2 s).2.bad with
   |false=>rfl
   |true=>rw[Alf hB m _ hb] at h1;cases h1
  obtain⟨g1,g2,g3⟩:=hT ns 2 s hf (by omega) hk hb;obtain⟨g4,g5,g6⟩:=ih _ (by have:=g2.le;omega) g2.len h1;exact⟨g1,g2.trans g5,fun hn=>⟨g3 hn,g6 hn⟩⟩
structure It(c:RC)(n f k:Nat)(sh:By)(x x':AccR)(s s':RS):Prop where
 b:s.bad=false
 bal:Bal c s.k s'.k
 nn:x'.n=x.n
 l:∃new,(n+3*f+3<2000000000->Ks n f (shK k x.bd.length sh) new)/\x'.l=x.l++new
 a:if Iw 76 sh=true then x'.a<=1000 else x'.a=x.a
 b':if Iw 77 sh=true then x'.b<=1000 else x'.b=x.b
def Ayq{k:Nat}(Am:k≠23)(hT:TGd c T f)  :∀(sh:By) (x:AccR) (s:RS),Iw 83 sh=false->x.bd.length+nbS sh<=3->c.L.length<s.k+f->s.k<=c.L.length->(Es c T ns k sh x s).2.bad=false->It c ns.length f k sh x (Es c T ns k sh x s).1 s (Es c T ns k sh x s).2:=by
 have Ar:ofR k<=2:=by unfold ofR;split<;>omega
 intro sh
 induction sh with
 |nil=>intro x s _ _ _ hk h;exact⟨h,Bal.refl hk,rfl,⟨[],fun _=>trivial,by simp[Es]⟩,rfl,rfl⟩
 |cons ch r ih=>
  intro x s h83 Xx hf hk h;have hb0:s.bad=false:=by
   cases hb:s.bad with
   |false=>rfl
   |true=>rw[Es,if_pos hb] at h;rw[hb] at h;cases h
  have e:Es c T ns k (ch::r) x s=Es c T ns k r (Ef c T ns k ch x s).1 (Ef c T ns k ch x s).2:=by rw[Es,if_neg (by rw[hb0];decide)]
  rw[e] at h |-;have hcc:Iw 83 r=false/\ch.toNat≠83:=by
   unfold Iw at h83 |-;rw[List.any_cons,Bool.or_eq_false_iff] at h83;exact⟨h83.2,by simpa using h83.1⟩
  have h76:Iw 76 (ch::r)=(decide (ch.toNat=76) || Iw 76 r):=rfl;have h77:Iw 77 (ch::r)=(decide (ch.toNat=77) || Iw 77 r):=rfl;have hnb:nbS (ch::r)=(if ch.toNat=120\/ch.toNat=121\/ch.toNat=101 then 1 else 0)+nbS r:=rfl;rw[hnb] at Xx
  -- the rest,once it is known what the part does
  have key:∀(x1:AccR) (s1:RS),Ef c T ns k ch x s=(x1,s1)->x1.bd.length+nbS r<=3->(s1.bad=false->Bal c s.k s1.k)->s1.bad=false/\It c ns.length f k r x1 (Es c T ns k r x1 s1).1 s1 (Es c T ns k r x1 s1).2/\Bal c s.k (Es c T ns k r x1 s1).2.k:=by
   intro x1 s1 he hl hB;rw[he] at h;have hb1:s1.bad=false:=by
    cases hb:s1.bad with
    |false=>rfl
    |true=>
     cases r with
     |nil=>rw[Es] at h;rw[hb] at h;cases h
     |cons=>rw[Es,if_pos hb] at h;rw[hb] at h;cases h
   have hB:=hB hb1;have:=ih x1 s1 hcc.1 hl (by have:=hB.le;omega) hB.len h;exact⟨hb1,this,hB.trans this.bal⟩
  by_cases c76:ch.toNat=76
  ·have he:Ef c T ns k ch x s=({ x with a:=(Cy c (c.L.length+1) s).1 },(Cy c (c.L.length+1) s).2):=by unfold Ef;rw[if_pos c76]
   obtain⟨g1,g2,g3⟩:=key _ _ he (by dsimp only;omega) (fun hb=>(Wd _ s hb).2.2 hk);rw[he];have hlv:=(Wd _ s g1).2.1;have To:shK k x.bd.length (ch::r)=shK k x.bd.length r:=by rw[shK,if_pos c76]
   refine⟨hb0,g3,g2.nn,by rw[To];exact g2.l,?_,?_⟩
   ·rw[h76,if_pos (by simp[c76])];have:=g2.a;split at this
    ·exact this
    ·rw[this];exact hlv
   ·have:=g2.b';rw[h77,show decide (ch.toNat=77)=false by simp;omega,Bool.false_or];exact this
  by_cases c77:ch.toNat=77
  ·have he:Ef c T ns k ch x s=({ x with b:=(Cy c (c.L.length+1) s).1 },(Cy c (c.L.length+1) s).2):=by unfold Ef;rw[if_neg c76,if_pos c77,if_neg Am]
   obtain⟨g1,g2,g3⟩:=key _ _ he (by dsimp only;omega) (fun hb=>(Wd _ s hb).2.2 hk);rw[he];have hlv:=(Wd _ s g1).2.1;have To:shK k x.bd.length (ch::r)=shK k x.bd.length r:=by rw[shK,if_neg c76,if_pos c77]
   refine⟨hb0,g3,g2.nn,by rw[To];exact g2.l,?_,?_⟩
   ·have:=g2.a;rw[h76,show decide (ch.toNat=76)=false by simp;omega,Bool.false_or];exact this
   ·rw[h77,if_pos (by simp[c77])];have:=g2.b';split at this
    ·exact this
    ·rw[this];exact hlv
  have n76:Iw 76 (ch::r)=Iw 76 r:=by rw[h76,show decide (ch.toNat=76)=false by simp;omega,Bool.false_or]
  have n77:Iw 77 (ch::r)=Iw 77 r:=by rw[h77,show decide (ch.toNat=77)=false by simp;omega,Bool.false_or]
  by_cases cx:ch.toNat=120\/ch.toNat=121\/ch.toNat=101
  ·have he:Ef c T ns k ch x s=({ x with bd:=(An c s 3).1::x.bd },(An c s 3).2):=by unfold Ef;rw[if_neg c76,if_neg c77,if_neg hcc.2,if_pos cx]
   rw[if_pos cx] at Xx;obtain⟨g1,g2,g3⟩:=key _ _ he (by simp only[q_jk];omega) (fun hb=>by
    obtain⟨q1,q2,q3,q4⟩:=Rx hb;rw[q4];exact Bal.word q2 (by rw[q3];decide) (by rw[q3];decide))
   rw[he];have To:shK k x.bd.length (ch::r)=shK k (x.bd.length+1) r:=by rw[shK,if_neg c76,if_neg c77,if_pos cx]
   exact⟨hb0,g3,g2.nn,by rw[To];exact g2.l,by rw[n76];exact g2.a,by rw[n77];exact g2.b'⟩
  rw[if_neg cx] at Xx
  -- a term
  have tm:∀(ns':List By) (w b:Nat),Ef c T ns k ch x s=({ x with l:=x.l++[(T ns' w s).1] },(T ns' w s).2)->w<=2->ns'.length=ns.length+b->b<=x.bd.length->shK k x.bd.length (ch::r)=(b,w)::shK k x.bd.length r->It c ns.length f k (ch::r) x (Es c T ns k r (Ef c T ns k ch x s).1 (Ef c T ns k ch x s).2).1 s (Es c T ns k r (Ef c T ns k ch x s).1 (Ef c T ns k ch x s).2).2:=by
   intro ns' w b he hw hl hb To;have hT':=fun hb=>hT ns' w s hf hw hk hb
   obtain⟨g1,g2,g3⟩:=key _ _ he (by dsimp only;omega) (fun hb=>(hT' hb).2.1);rw[he];obtain⟨_,_,t3⟩:=hT' g1;obtain⟨new,l1,l2⟩:=g2.l;rw[hl] at t3;exact⟨hb0,g3,g2.nn,⟨_::new,by rw[To];exact fun hn=>⟨t3 (by omega),l1 hn⟩,by rw[l2];simp⟩,by rw[n76];exact g2.a,by rw[n77];exact g2.b'⟩
  by_cases ct:ch.toNat=116
  ·exact tm ns (ofR k) 0 (by unfold Ef;rw[if_neg c76,if_neg c77,if_neg hcc.2,if_neg cx,if_pos ct]) Ar rfl (Nat.zero_le _) (by rw[shK,if_neg c76,if_neg c77,if_neg cx,if_pos ct])
  by_cases cp:ch.toNat=112
  ·exact tm ns 2 0 (by unfold Ef;rw[if_neg c76,if_neg c77,if_neg hcc.2,if_neg cx,if_neg ct,if_pos cp]) (q_ja _) rfl (Nat.zero_le _) (by rw[shK,if_neg c76,if_neg c77,if_neg cx,if_neg ct,if_pos cp])
  ·exact tm (x.bd++ns) (ofR k) x.bd.length (by unfold Ef;rw[if_neg c76,if_neg c77,if_neg hcc.2,if_neg cx,if_neg ct,if_neg cp]) Ar (by rw[q_jr];omega) (q_ja _) (by rw[shK,if_neg c76,if_neg c77,if_neg cx,if_neg ct,if_neg cp])
end
def Aif{w:By}:∀{l:List By} {n:Nat},Gx w l=some n->n<l.length:=by
 intro l
 induction l with
 |nil=>intro n h;cases h
 |cons a l ih=>
  intro n h;rw[Gx] at h;split at h
  ·cases h;simp
  ·cases hq:Gx w l with
   |none=>rw[hq] at h;cases h
   |some m=>
    rw[hq] at h;cases h;exact Nat.succ_lt_succ (ih hq)
def okS(k:Nat):Nat->List (Nat×Nat)->Bool
 |_,[]=>true
 |p,(b,w)::r=>decide (ofN k p=(w:Int)) && (decide (Cn k (p:Nat)=(b:Int)) && okS k (p+1) r)
def Ks.right{n f k:Nat}:∀{r:List (Nat×Nat)} {l:List Tm} {p:Nat},Ks n f r l->okS k p r=true->Gg (fun p t=>Cz t (ofN k p)) p l=true/\Oo k p l<=n/\(∀t∈l,TOk t)/\Lj l<=f:=by
 intro r
 induction r with
 |nil=>
  intro l p h _;cases l with
  |nil=>exact⟨rfl,by rw[Oo];omega,fun t ht=>(by cases ht),by rw[Lj];omega⟩
  |cons=>cases h
 |cons a r ih=>
  obtain⟨b,w⟩:=a;intro l p h ho;cases l with
  |nil=>cases h
  |cons t l=>
   simp only[okS,q_jl,q_jt] at ho;obtain⟨o1,o2,o3⟩:=ho;obtain⟨⟨h1,h2,h3,h4⟩,h5⟩:=h;obtain⟨i1,i2,i3,i4⟩:=ih h5 o3;refine⟨?_,?_,?_,?_⟩
   ·rw[Gg,i1,q_l,o1];exact h1
   ·rw[Oo,o2];omega
   ·intro u hu;rcases q_kb.1 hu with rfl|hu
    ·exact h3
    ·exact i3 u hu
   ·rw[Lj];omega
def Alp{n f want:Nat}{k a b m:Nat}{r:List (Nat×Nat)}{l:List Tm}(h:Ks n f r l)(ho:okS k 0 r=true)(hk:k≠2)(hr:Fw k a b m want r.length=true)(hb:k<24/\a<=1000/\b<=1000/\m<=21)(hl:r.length<=12):GT n want (f+1) (.mk k a b m l):=by
 obtain⟨h1,h2,h3,h4⟩:=h.right ho;refine⟨?_,?_,?_,?_⟩
 ·rw[Kb,h1,h.len,hr];rfl
 ·rw[Da,if_neg (by omega)];exact h2
 ·exact .mk _ _ _ _ _ (by unfold fit;omega) (by unfold fit;omega) (by unfold fit;omega) (by unfold fit;omega) (by rw[h.len];omega) h3
 ·rw[Du];omega
def Rw{a:Nat}(h:a<=1000):lev a=true:=by unfold lev;simp;omega
def Azx:∀(m p:Nat),okS 23 p (List.replicate m (0,2))=true:=by
 intro m
 induction m with
 |zero=>intro p;rfl
 |succ m ih=>
  intro p;rw[List.replicate_succ,okS,ih];have h1:ofN (23:Nat) p=(2:Nat):=by unfold ofN;rw[if_neg (by omega)];rfl
  have h2:Cn (23:Nat) (p:Nat)=(0:Nat):=by unfold Cn;rw[if_neg (by decide),if_neg (by decide),if_neg (by decide)];rfl
  rw[h1,h2];rfl
def An4:∀m,m<22->0<m->(arN m:Int)=Pd m/\arN m<=12:=by decide
section
variable{c:RC}{T:TR}{f:Nat}{ns:List By}{s:RS}
def Alb{k:Nat}{sh:By}{x:AccR}(hb:s.bad=true):(Es c T ns k sh x s).2.bad=true:=by
 cases sh with
 |nil=>exact hb
 |cons=>rw[Es,if_pos hb];exact hb
def Afb{k:Nat}{ch:UInt8}{r:By}{x:AccR}(h:(Es c T ns k (ch::r) x s).2.bad=false):s.bad=false/\Es c T ns k (ch::r) x s=Es c T ns k r (Ef c T ns k ch x s).1 (Ef c T ns k ch x s).2:=by
 cases hb:s.bad with
 |false=>exact⟨rfl,by rw[Es,if_neg (by rw[hb];decide)]⟩
 |true=>rw[Alb hb] at h;cases h
def A4t(hT:TGd c T f)(hB:∀s,s.bad=true->(T ns 2 s).2.bad=true){want:Nat}(hw:want=0\/want=2)(hf:c.L.length<s.k+f)(hk:s.k<=c.L.length)(h:(Es c T ns 23 [83,76,77] {} s).2.bad=false) :
  s.bad=false/\Bal c s.k (Es c T ns 23 [83,76,77] {} s).2.k/\(ns.length+3*f<2000000000->GT ns.length want (f+1) ((Es c T ns 23 [83,76,77] {} s).1.tm 23)):=by
 obtain⟨b0,e0⟩:=Afb h;rw[e0] at h |-;clear e0;rw[Zn] at h |-;cases y8:Gx (An c s 3).1 symsL with
 |none=>
  rw[y8] at h;rw[Alb (Lu _)] at h;cases h
 |some m=>
  rw[y8] at h;dsimp only at h |-;obtain⟨b1,e1⟩:=Afb h;rw[e1] at h |-;clear e1;obtain⟨_,n2,n3,n4⟩:=Rx b1;have hm:m<21:=Aif y8;rw[n4] at h |-;dsimp only at h |-;have w1:=Bal.word n2 (by rw[n3];decide) (by rw[n3];decide);rw[show ∀(x:AccR) (s:RS),Ef c T ns 23 76 x s=({ x with a:=(Cy c (c.L.length+1) s).1 },(Cy c (c.L.length+1) s).2) from fun _ _=>rfl] at h |-;dsimp only at h |-;obtain⟨b2,e2⟩:=Afb h;rw[e2] at h |-;clear e2;obtain⟨_,l2,l3⟩:=Wd _ _ b2;have l3:=l3 n2;generalize Cy c (c.L.length+1) s.nx=q1 at *
  obtain⟨a,s2⟩:=q1;dsimp only at h b2 l2 l3 |-;rw[Aku] at h |-;dsimp only at h |-;have h:(Gm T ns (arN (m+1)) { (Cy c (c.L.length+1) s2).2 with D:=[] }).2.bad=false:=h;have Rg:(Cy c (c.L.length+1) s2).2.bad=false:=by
   cases hb:(Cy c (c.L.length+1) s2).2.bad with
   |false=>rfl
   |true=>
    rw[Alf hB (arN (m+1)) _ (by exact hb)] at h;cases h
  obtain⟨_,p2,p3⟩:=Wd _ _ Rg;have p3:=p3 l3.len;generalize Cy c (c.L.length+1) s2=q2 at *
  obtain⟨b,s3⟩:=q2;dsimp only at h p2 p3 Rg |-;have e5:s.nx.k=s.k+1:=rfl;obtain⟨_,m2,m3⟩:=Ay1 hT hB (arN (m+1)) { s3 with D:=[] } (by have:=l3.le;have:=p3.le;dsimp only;omega) p3.len h;obtain⟨t1,t2⟩:=An4 (m+1) (by omega) (by omega);generalize Gm T ns (arN (m+1)) { s3 with D:=[] }=q3 at *
  obtain⟨l,s4⟩:=q3;dsimp only at m2 m3 |-;refine⟨b0,w1.trans (l3.trans (p3.trans m2)),fun Cc=>?_⟩;show GT ns.length want (f+1) (.mk (23:Nat) a b ((m+1:Nat)) l);refine Alp (m3 Cc) (Azx _ _) (by decide) ?_ ⟨by decide,l2,p2,by omega⟩ (by rw[q_kj];exact t2);rw[q_kj];unfold Fw Id;rw[t1,show Fc (23:Nat) ((m+1:Nat))=Pd ((m+1:Nat)) from rfl,Rw l2,Rw p2];rcases hw with rfl|rfl<;>simp[Ge]
def A3l:∀(f:Nat) (ns:List By) (w:Nat) (s:RS),s.bad=true->(Fj c f ns w s).2.bad=true:=by
 intro f ns w s h;cases f with
 |zero=>exact h
 |succ f=>rw[Fj,if_pos h];exact h
def Azi{want:Nat}(h:(Kx c ns s).2.bad=false):s.bad=false/\(Kx c ns s).2.k=s.k+1/\(ns.length<2000000000->∀f,GT ns.length want (f+1) (Kx c ns s).1):=by
 unfold Kx at h |-;cases hf:Gx (c.tk s.k).w ns with
 |none=>rw[hf] at h;rw[Lu] at h;cases h
 |some n=>
  rw[hf] at h;have hn:=Aif hf;refine⟨h,rfl,fun Cc f=>⟨?_,?_,?_,?_⟩⟩
  ·rw[Kb];unfold Fw Id;have h1:(0:Int)<=n:=by omega
   have h2:(n:Int)<=2147483647:=by omega
   simp[Ge,Fc,tab,Gg,h1,h2]
  ·rw[Da,if_pos rfl];omega
  ·exact .mk _ _ _ _ _ (by unfold fit;omega) (by unfold fit;omega) (by unfold fit;omega) (by unfold fit;omega) (by simp) (fun t ht=>by cases ht)
  ·rw[Du,Lj];omega
def Avq{w:By}{k want n f:Nat}{sh:By}{x:AccR}(hm:(w,k,sh)∈formsG)(hk:k≠23)(hw:want<=2)(hw1:¬((want=1/\12<k)\/(want=2/\2<k/\k<=12)))
  (hn:x.n=0) (hl:Ks n f (shK k 0 sh) x.l) (ha:if Iw 76 sh=true then x.a<=1000 else x.a=0) (hb:if Iw 77 sh=true then x.b<=1000 else x.b=0):GT n want (f+1) (x.tm k):=by
 obtain⟨a,b,m,bd,l⟩:=x;dsimp only at hn hl ha hb;subst hn;show GT n want (f+1) (.mk k a b (0:Nat) l);simp only[formsG,q_kb,q_kc,or_false,Prod.mk.injEq] at hm;rcases hm with⟨_,rfl,rfl⟩|⟨_,rfl,rfl⟩|⟨_,rfl,rfl⟩|⟨_,rfl,rfl⟩|⟨_,rfl,rfl⟩|⟨_,rfl,rfl⟩|⟨_,rfl,rfl⟩|⟨_,rfl,rfl⟩|⟨_,rfl,rfl⟩|⟨_,rfl,rfl⟩|⟨_,rfl,rfl⟩|⟨_,rfl,rfl⟩|⟨_,rfl,rfl⟩|⟨_,rfl,rfl⟩|⟨_,rfl,rfl⟩|⟨_,rfl,rfl⟩|⟨_,rfl,rfl⟩|⟨_,rfl,rfl⟩|⟨_,rfl,rfl⟩|⟨_,rfl,rfl⟩|⟨_,rfl,rfl⟩|⟨_,rfl,rfl⟩
 all_goals first|exact absurd rfl hk|skip
 all_goals
  simp only[Iw,List.any_cons,List.any_nil] at ha hb;simp only[UInt8.toNat_ofNat,Nat.reducePow,Nat.reduceMod,Nat.reduceEqDiff,decide_true,decide_false,Bool.or_false,Bool.false_or,Bool.true_or,Bool.or_true,Bool.or_self,q_kx,if_true,if_false] at ha hb
 all_goals
  refine Alp hl (by decide) (by decide) ?_ ⟨by decide,by omega,by omega,by omega⟩ (by decide)
 all_goals
  obtain rfl|rfl|rfl:want=0\/want=1\/want=2:=by omega
 all_goals first|(exfalso;revert hw1;decide)|skip
 all_goals
  first
  |(subst ha;subst hb;decide)
  |(subst hb;have h1:=Rw ha;unfold Fw Id;rw[h1];rfl)
  |(have h1:=Rw ha;have h2:=Rw hb;unfold Fw Id;rw[h1,h2];rfl)
def Avs{w:By}{k:Nat}{sh:By}(h:(w,k,sh)∈formsG)(hk:k≠23):Iw 83 sh=false/\nbS sh<=3/\0<k:=by
 have:∀x∈formsG,x.2.1≠23->Iw 83 x.2.2=false/\nbS x.2.2<=3/\0<x.2.1:=by decide
 exact this _ h hk
def Avr{w:By}{sh:By}(h:(w,23,sh)∈formsG):sh=[83,76,77]:=by
 have:∀x∈formsG,x.2.1=23->x.2.2=[83,76,77]:=by decide
 exact this _ h rfl
def A3m:∀(f:Nat),TGd c (Fj c f) f:=by
 intro f
 induction f with
 |zero=>intro ns want s h1 h2 h3;omega
 |succ f ih=>
  intro ns want s hf hw hk h;rw[Fj] at h |-;cases hb:s.bad with
  |true=>rw[if_pos hb] at h;rw[hb] at h;cases h
  |false=>
  rw[if_neg (by rw[hb];decide)] at h;rw[if_neg (by decide)]
  by_cases Aq:s.k<c.L.length
  rotate_left
  ·rw[if_pos Aq,Lu] at h;cases h
  rw[if_neg (by simpa using Aq)] at h |-
  by_cases h3:(c.tk s.k).k=3
  ·rw[if_pos h3] at h |-;obtain⟨n1,n2,n3⟩:=Azi (want:=want) h;rw[n2];exact⟨rfl,Bal.word Aq (by rw[h3];decide) (by rw[h3];decide),fun Cc=>n3 (by omega) f⟩
  rw[if_neg h3] at h |-;dsimp only at h |-;cases Dy:(An c (An c s 1).2 3).2.bad with
  |true=>rw[if_pos Dy] at h;rw[Dy] at h;cases h
  |false=>
  rw[if_neg (by rw[Dy];decide)] at h;rw[if_neg (by decide)];obtain⟨b1,k1,k2,e2⟩:=Rx Dy;obtain⟨_,k3,k4,e1⟩:=Rx b1;rw[e1] at k1 k2 e2 h |-;rw[e2] at h |-;dsimp only at k1 k2 h |-;have Ms:=Ac7 (c.tk s.nx.k).w;generalize Mn (c.tk s.nx.k).w=g at Ms h |-;obtain⟨gk,sh⟩:=g;dsimp only at h |-
  by_cases hg:gk=0\/(want=1/\12<gk)\/(want=2/\2<gk/\gk<=12)
  ·rw[if_pos hg,Lu] at h;cases h
  rw[if_neg hg] at h |-;have hmem:((c.tk s.nx.k).w,gk,sh)∈formsG:=by
   rcases Ms with h0|h0
   ·cases h0;exact absurd (Or.inl rfl) hg
   ·exact h0
  have e5:s.nx.k=s.k+1:=rfl;have e6:s.nx.nx.k=s.k+2:=rfl;unfold Aj at h |-;dsimp only at h |-;obtain⟨c1,c2,c3,c4⟩:=Rx h;rw[c4];have fin:Bal c s.nx.nx.k (Es c (Fj c f) ns gk sh {} s.nx.nx).2.k->Bal c s.k ((Es c (Fj c f) ns gk sh {} s.nx.nx).2.k+1):=fun hB=>
   Bal.list Aq k4 ((Bal.word k1 (by rw[k2];decide) (by rw[k2];decide)).trans hB) c2 c3
  by_cases Bs:gk=23
  ·subst Bs;have:=Avr hmem;subst this;obtain⟨_,u2,u3⟩:=A4t (want:=want) ih (fun s hb=>A3l f ns 2 s hb) (by omega) (by omega) (by omega) c1;exact⟨rfl,fin u2,fun Cc=>u3 (by omega)⟩
  ·obtain⟨f1,f2,f3⟩:=Avs hmem Bs;have it:=Ayq Bs ih sh {} s.nx.nx f1 (by simpa using f2) (by omega) (by omega) c1;obtain⟨new,l1,l2⟩:=it.l;refine⟨rfl,fin it.bal,fun Cc=>Avq hmem Bs hw (by omega) it.nn ?_ it.a it.b'⟩;rw[l2];exact l1 (by omega)
end
def A2a{c:RC}{f want:Nat}{ns:List By}{s s':RS}{t:Tm}(h:Fj c (f+1) ns want s=(t,s'))(hb:s'.bad=false) :
  (∃n:Nat,t=.mk 2 n 0 0 [])\/((c.tk s.k).k=1/\s.k+1<c.L.length/\(c.tk (s.k+1)).k=3/\∃gk sh a b m l,((c.tk (s.k+1)).w,gk,sh)∈formsG/\t=.mk (gk:Nat) a b m l):=by
 have Di:(Fj c (f+1) ns want s).2.bad=false:=by rw[h];exact hb
 have ht:(Fj c (f+1) ns want s).1=t:=by rw[h]
 clear h hb;rw[Fj] at Di ht;cases h0:s.bad with
 |true=>rw[if_pos h0,h0] at Di;cases Di
 |false=>
 rw[if_neg (by rw[h0];decide)] at Di ht
 by_cases Aq:s.k<c.L.length
 rotate_left
 ·rw[if_pos Aq,Lu] at Di;cases Di
 rw[if_neg (fun k=>k Aq)] at Di ht
 by_cases h3:(c.tk s.k).k=3
 ·rw[if_pos h3] at Di ht;unfold Kx at Di ht;cases hf:Gx (c.tk s.k).w ns with
  |none=>rw[hf] at Di;rw[Lu] at Di;cases Di
  |some n=>rw[hf] at ht;exact .inl ⟨n,ht.symm⟩
 rw[if_neg h3] at Di ht;dsimp only at Di ht;cases Dy:(An c (An c s 1).2 3).2.bad with
 |true=>rw[if_pos Dy] at Di;rw[Dy] at Di;cases Di
 |false=>
 rw[if_neg (by rw[Dy];decide)] at Di ht;obtain⟨b1,k1,k2,e2⟩:=Rx Dy;obtain⟨_,k3,k4,e1⟩:=Rx b1;rw[e1] at k1 k2 e2 Di ht;rw[e2] at Di ht;dsimp only at k1 k2 Di ht;right;refine⟨k4,k1,k2,?_⟩;have Ms:=Ac7 (c.tk s.nx.k).w;generalize Mn (c.tk s.nx.k).w=g at Ms Di ht;obtain⟨gk,sh⟩:=g;dsimp only at Di ht
 by_cases hg:gk=0\/(want=1/\12<gk)\/(want=2/\2<gk/\gk<=12)
 ·rw[if_pos hg,Lu] at Di;cases Di
 rw[if_neg hg] at ht;rcases Ms with h0|h0
 ·cases h0;exact absurd (Or.inl rfl) hg
 ·exact⟨gk,sh,_,_,_,_,h0,ht.symm⟩
def Afs{k i j n:Int}{l:List Tm}{w:Int}(h:Cz (.mk k i j n l) 0=true)(hk:Ge k=0\/Ge k=w):Cz (.mk k i j n l) w=true:=by
 rw[Kb] at h |-;rw[q_jl] at h |-;refine⟨?_,h.2⟩;have h1:=h.1;unfold Fw at h1 |-;rw[q_jl] at h1 |-;refine⟨?_,h1.2⟩;rcases hk with hk|hk<;>rw[hk]<;>simp
def Akt{P:Prop}[Decidable P]{a:Nat}{x t:Tm}(h:(if P then (zR,some a) else (x,none))=(t,none)):¬P/\x=t:=by
 by_cases hp:P
 ·rw[if_pos hp] at h;cases h
 ·rw[if_neg hp] at h;cases h;exact⟨hp,rfl⟩
def Al6{tx:By}{ns:List By}{i j:Nat}{t:Tm}(h:Hu tx ns i j=(t,none)) :
  (Ce tx).2=none/\dep 0 (Do tx)=0/\(ns.length+3*(tx.length+1)<2000000000->GT ns.length 0 (tx.length+1) t)/\∃s',Fj (rcR tx i j) ((Do tx).length+1) ns 0 ⟨0,false,0,[]⟩=(t,s')/\s'.bad=false:=by
 unfold Hu at h;dsimp only at h;have hL:=i7 tx;cases hx:(Ce tx).2 with
 |some p=>
  exfalso;rw[hx] at h;obtain⟨h2,_⟩:=Akt h
  by_cases h3:(Fj (rcR tx i j) ((rcR tx i j).L.length+1) ns 0 ⟨0,false,0,[]⟩).2.bad=false
  ·rw[if_pos ⟨h3,.inr rfl⟩,Lu] at h2;exact h2 rfl
  ·rw[if_neg (fun k=>h3 k.1)] at h2;exact h3 (by simpa using h2)
 |none=>
  have hc:rcR tx i j=⟨Do tx,tx.length,i,j⟩:=by unfold rcR;rw[hx]
  rw[hx] at h;rw[hc] at h |-;simp only[Option.isSome_none,q_kx,or_false] at h;generalize hq:Fj ⟨Do tx,tx.length,i,j⟩ ((Do tx).length+1) ns 0 ⟨0,false,0,[]⟩=q at h |-;obtain⟨h2,rfl⟩:=Akt h;have hq2:q.2.bad=false/\¬q.2.k<(Do tx).length:=by
   by_cases h3:q.2.bad=false/\q.2.k<(Do tx).length
   ·rw[if_pos h3,Lu] at h2;exact absurd rfl h2
   ·rw[if_neg h3] at h2;have hb:q.2.bad=false:=by simpa using h2
    exact⟨hb,fun k=>h3 ⟨hb,k⟩⟩
  have ht:=A3m (c:=⟨Do tx,tx.length,i,j⟩) ((Do tx).length+1) ns 0 ⟨0,false,0,[]⟩ (by dsimp only;omega) (by omega) (Nat.zero_le _) (by rw[hq];exact hq2.1);rw[hq] at ht;obtain⟨_,g1,g2⟩:=ht;have hle:=g1.len;dsimp only at hle;have hd:=g1.d 0;have hk:q.2.k=(Do tx).length:=by omega
  rw[hk] at hd;unfold seg at hd;dsimp only at hd;rw[List.drop_zero,q_kr,q_kl] at hd;refine⟨rfl,hd,fun hn=>?_,q.2,rfl,hq2.1⟩;obtain⟨r1,r2,r3,r4⟩:=g2 (by omega);exact⟨r1,r2,r3,by omega⟩
open Go Go.Proofs Go.Proofs.YtgfehkhcmnfpaaaGreatDoor
def af14:AF:=⟨81,[(.cell 2 true 28),(.t 3),(.t 4)],(Ad [oP 2 (.new [.nils,(.bool false),(iS 0),(iS 0),(iS 0),(iS 0),(iS 0),.nils,(iS 0),(iS 0),(iS 0),(iS 0),.nils,(iS 0),(iS 0),(iS 0),(iS 0),.nils,(iS 0),(iS 0),(iS 0),(iS 0),.nils,(iS 0),(iS 0),(iS 0),(iS 0),.nils]),oP 3 (.mv (cI 0)),oP 4 (.mv (cI 0))] (Ad [Ac 9 0,Ac 10 0,oP 11 (.len true (.t 10)),oP 12 (.build [(.str (bs [])),.nils,(iS 0),(iS 0),(.bool false),(iS 0)] [(0,(1,(.t 9))),(3,(1,(.t 11)))]),oP 13 (.boxg (.t 12)),Ac 5 13] (Ad [Ac 15 0,oP 16 (.call 39 [(.t 15)]),Ac 14 16,oP 17 (.ext (.t 14) 0),oP 18 (.ext (.t 14) 1),oP 19 (.ext (.t 14) 2),Ac 6 17,Ac 7 18,Ac 8 19] (.seq (Ad [Ac 20 7,oP 21 (Bi .neq 20 0)] (Ak 21 (Ad [Ac 22 5,Ac 23 8,oP 24 (At 22),oP 25 (Af 3 24),oN (Bn 1 25 23)] (Bo [Ac 27 0,Ac 28 8,oP 29 (.slc 0 (.t 27) none (some (.t 28))),oP 30 (.call 39 [(.t 29)]),Ac 26 30,oP 31 (.ext (.t 26) 0),oP 32 (.ext (.t 26) 1),oP 33 (.ext (.t 26) 2),Ac 6 31])) .skip)) (Ad [Ac 34 5,Ac 35 6,oP 36 (At 34),oP 37 (Af 1 36),oN (Bn 1 37 35)] (Ad [Ac 38 5,oP 39 (.hcall 40 [(.t 38),(cI 1)])] (Ad [Ac 40 5,oP 41 (.hcall 41 [(.t 40)]),oN (Bn 28 2 41)] (Ad [Ac 42 5,oP 43 (.hcall 40 [(.t 42),(cI 2)])] (.seq (Cs [Ac 44 5,oI 45 1 (At 44),oI 46 2 (Af 4 45),oI 47 3 (Ag 46),oI 48 4 (.un .not (.t 47)),oI 49 5 (mT 48),oG 50 49 true 6 (mT 5),oG 51 49 true 7 (At 50),oG 52 49 true 8 (Af 2 51),oG 53 49 true 9 (Ag 52),oG 54 49 true 10 (mT 5),oG 55 49 true 11 (At 54),oG 56 49 true 12 (Af 1 55),oG 57 49 true 13 (Ag 56),oG 58 49 true 14 (.len false (.t 57)),oG 59 49 true 15 (Bu .lss 53 58),oG 60 49 true 16 (mT 59),oG 61 60 false 17 (mT 7),oG 62 60 false 18 (Bi .neq 61 0),oG 63 49 true 19 (Cx 60 62),oI 64 20 (Bv 49 63)] (Ak 64 (Bo [Ac 65 5,Ac 66 5,oP 67 (At 66),oP 68 (Af 2 67),oP 69 (Ag 68),oP 70 (.hcall 42 [(.t 65),(.t 69)])]) .skip)) (.seq (Ad [Ac 71 5,oP 72 (At 71),oP 73 (Af 4 72),oP 74 (Ag 73)] (Ak 74 (Cs [oP 75 (.build [.nils,(.bool false),(iS 0),(iS 0),(iS 0),(iS 0),(iS 0),.nils,(iS 0),(iS 0),(iS 0),(iS 0),.nils,(iS 0),(iS 0),(iS 0),(iS 0),.nils,(iS 0),(iS 0),(iS 0),(iS 0),.nils,(iS 0),(iS 0),(iS 0),(iS 0),.nils] []),oI 76 1 (mT 5),oI 77 2 (At 76),oI 78 3 (Af 5 77),⟨(some 79),(Ag 78),none,4,true,[]⟩,⟨none,(Bn 28 2 75),none,5,false,[4]⟩,oI 3 6 (.mv (cI 2)),oI 4 7 (mT 79)] .ret) .skip)) (Ad [oP 80 (Ao 28 2),oN (Bn 28 2 80),oP 3 (.mv (cI 0)),oP 4 (.mv (cI 0))] .ret)))))))))))⟩
def tr14:trF Tryz.prog Tryz.f14=some af14:=by kernel_rfl
attribute [go_sem] af14
def af40:AF:=⟨40,[(.t 4)],(Ad [oP 4 (.mv (Ap []))] (.seq (Ad [Ac 5 0,oP 6 (At 5),oP 7 (Af 4 6),oP 8 (Ag 7),Ac 9 8,oG 10 9 false 0 (mT 0),oG 11 9 false 0 (mT 1),oG 12 9 false 0 (.hcall 77 [(.t 10),(.t 11)]),oG 13 9 false 0 (.un .not (.t 12)),oP 14 (Cx 9 13)] (Ak 14 (Ad [Ac 15 0,Ac 16 0,oP 17 (At 16),oP 18 (Af 2 17),oP 19 (Ag 18),oP 20 (.hcall 42 [(.t 15),(.t 19)])] (Ad [oP 4 (.mv (Ap []))] .ret)) .skip)) (Ad [Ac 21 0,oP 22 (At 21),oP 23 (Af 2 22),oP 24 (Ag 23),oP 25 (Bi .add 24 1),oP 26 (At 21),oP 27 (Af 2 26),oN (Bn 1 27 25)] (Cs [Ac 28 0,oI 29 1 (At 28),oI 30 2 (Af 1 29),oI 31 3 (Ag 30),oI 32 4 (mT 0),oI 33 5 (At 32),oI 34 6 (Af 2 33),oI 35 7 (Ag 34),oI 36 8 (Bi .sub 35 1),oI 37 9 (.iad 3 (.t 31) (.t 36)),oI 38 10 (Af 1 37),oI 39 11 (Ag 38),oI 4 12 (mT 39)] .ret))))⟩
def tr40:trF Tryz.prog Tryz.f40=some af40:=by kernel_rfl
attribute [go_sem] af40
def af42:AF:=⟨31,[],(.seq (Ad [Ac 5 0,oP 6 (At 5),oP 7 (Af 4 6),oP 8 (Ag 7)] (Ak 8 .ret .skip)) (Ad [Ac 9 0,oP 10 (At 9),oP 11 (Af 3 10),oP 12 (Ag 11),Ac 4 12] (.seq (Ad [Ac 13 1,Ac 14 0,oP 15 (At 14),oP 16 (Af 1 15),oP 17 (Ag 16),oP 18 (.len false (.t 17)),oP 19 (Bu .lss 13 18)] (Ak 19 (Bo [Ac 20 0,oP 21 (At 20),oP 22 (Af 1 21),oP 23 (Ag 22),Ac 24 1,oP 25 (.iad 3 (.t 23) (.t 24)),oP 26 (Af 2 25),oP 27 (Ag 26),Ac 4 27]) .skip)) (Bo [Ac 28 0,Ac 29 4,oP 30 (.hcall 80 [(.t 28),(.t 29)])]))))⟩
def tr42:trF Tryz.prog Tryz.f42=some af42:=by kernel_rfl
attribute [go_sem] af42
def af80:AF:=⟨16,[],(Ad [Ac 4 0,oP 5 (At 4),oP 6 (Af 4 5),oP 7 (Ag 6),oP 8 (.un .not (.t 7))] (Ak 8 (Bo [Ac 9 0,Ac 10 0,Ac 11 1,oP 12 (At 9),oP 13 (Af 4 12),oN (.store 1 (.t 13) (cB true)),oP 14 (At 10),oP 15 (Af 5 14),oN (Bn 1 15 11)]) .skip))⟩
def tr80:trF Tryz.prog Tryz.f80=some af80:=by kernel_rfl
attribute [go_sem] af80
def af77:AF:=⟨30,[(.t 4)],(Ad [oP 4 (.mv (cB false))] (Cs [Ac 5 0,oI 6 1 (At 5),oI 7 2 (Af 2 6),oI 8 3 (Ag 7),oI 9 4 (mT 0),oI 10 5 (At 9),oI 11 6 (Af 1 10),oI 12 7 (Ag 11),oI 13 8 (.len false (.t 12)),oI 14 9 (Bu .lss 8 13),oI 15 10 (mT 14),oG 16 15 true 11 (mT 0),oG 17 15 true 12 (At 16),oG 18 15 true 13 (Af 1 17),oG 19 15 true 14 (Ag 18),oG 20 15 true 15 (mT 0),oG 21 15 true 16 (At 20),oG 22 15 true 17 (Af 2 21),oG 23 15 true 18 (Ag 22),oG 24 15 true 19 (.iad 3 (.t 19) (.t 23)),oG 25 15 true 20 (Af 0 24),oG 26 15 true 21 (Ag 25),oG 27 15 true 22 (mT 1),oG 28 15 true 23 (Bu .eql 26 27),oI 29 24 (Bv 15 28),oI 4 25 (mT 29)] .ret))⟩
def tr77:trF Tryz.prog Tryz.f77=some af77:=by kernel_rfl
attribute [go_sem] af77
def af78:AF:=⟨21,[(.t 2)],(Ad [oP 2 (.mv (cI 0))] (Ad [Ac 6 0,oP 7 (.hcall 40 [(.t 6),(cI 4)]),oP 8 (.call 122 [(.t 7)]),Ac 5 8,oP 9 (.ext (.t 5) 0),oP 10 (.ext (.t 5) 1),Ac 3 9,Ac 4 10] (.seq (Ad [Ac 11 3,oP 12 (Bi .gtr 11 1000)] (Ak 12 (Bo [Ac 13 0,Ac 14 0,oP 15 (At 14),oP 16 (Af 2 15),oP 17 (Ag 16),oP 18 (Bi .sub 17 1),oP 19 (.hcall 42 [(.t 13),(.t 18)])]) .skip)) (Ad [Ac 20 3,Ac 2 20] .ret))))⟩
def tr78:trF Tryz.prog Tryz.f78=some af78:=by kernel_rfl
attribute [go_sem] af78
def af124:AF:=⟨38,[(.t 2)],(Ad [oP 2 (.mv (cI 0))] (Ad [oP 3 (.mv (cI 0))] (.seq (Ad [Ac 5 0,oP 6 (At 5),oP 7 (Af 2 6),oP 8 (Ag 7),Ac 4 8] (.blk 0 (.loop (.seq (Ad [Ac 9 4,Ac 10 0,oP 11 (At 10),oP 12 (Af 1 11),oP 13 (Ag 12),oP 14 (.len false (.t 13)),oP 15 (Bu .lss 9 14)] (Em 15 0)) (.seq (.blk 1 (.seq (Ad [Ac 18 0,oP 19 (At 18),oP 20 (Af 1 19),oP 21 (Ag 20),Ac 22 4,oP 23 (.iad 3 (.t 21) (.t 22)),oP 24 (Af 0 23),oP 25 (Ag 24)] (.blk 2 (Ad [oP 27 (Al 25 1),Ac 26 27] (Ak 26 (Bo [Ac 28 3,oP 29 (Bi .add 28 1),Ac 3 29]) (Ad [oP 31 (Al 25 2),Ac 30 31] (Ak 30 (Bo [Ac 32 3,oP 33 (Bi .sub 32 1),Ac 3 33]) .skip)))))) (Ad [Ac 34 3,oP 35 (Bi .leq 34 0)] (Ak 35 (Ad [Ac 36 4,oP 37 (Bi .add 36 1),Ac 2 37] .ret) .skip)))) (Bo [Ac 16 4,oP 17 (Bi .add 16 1),Ac 4 17])))))) (Ad [oP 2 (.mv (cI (-1)))] .ret))))⟩
def tr124:trF Tryz.prog Tryz.f124=some af124:=by kernel_rfl
attribute [go_sem] af124
def af79:AF:=⟨157,[(.cell 6 true 5)],(Ad [oP 6 Fe] (.seq (Cs [Ac 13 0,oI 14 1 (At 13),oI 15 2 (Af 4 14),oI 16 3 (Ag 15),oI 17 4 (mT 16),oG 18 17 false 5 (mT 0),oG 19 17 false 6 (At 18),oG 20 17 false 7 (Af 2 19),oG 21 17 false 8 (Ag 20),oG 22 17 false 9 (mT 0),oG 23 17 false 10 (At 22),oG 24 17 false 11 (Af 1 23),oG 25 17 false 12 (Ag 24),oG 26 17 false 13 (.len false (.t 25)),oG 27 17 false 14 (Bu .geq 21 26),oI 28 15 (Cx 17 27)] (Ak 28 (Ad [Ac 29 0,Ac 30 0,oP 31 (At 30),oP 32 (Af 2 31),oP 33 (Ag 32),oP 34 (.hcall 42 [(.t 29),(.t 33)])] (Ad [oP 35 (Iq []),oN (Bn 5 6 35)] .ret)) .skip)) (Cs [Ac 36 0,oI 37 1 (At 36),oI 38 2 (Af 1 37),oI 39 3 (Ag 38),oI 40 4 (mT 0),oI 41 5 (At 40),oI 42 6 (Af 2 41),oI 43 7 (Ag 42),oI 44 8 (.iad 3 (.t 39) (.t 43)),oI 45 9 (Af 2 44),oI 46 10 (Ag 45),oI 7 11 (mT 46)] (.seq (Cs [Ac 47 0,⟨(some 48),(.hcall 77 [(.t 47),(cI 1)]),none,1,false,[1]⟩,oI 49 2 (mT 48),oG 50 49 true 3 (mT 0),oG 51 49 true 4 (At 50),oG 52 49 true 5 (Af 2 51),oG 53 49 true 6 (Ag 52),oG 54 49 true 7 (Bi .add 53 1),oG 55 49 true 8 (mT 0),oG 56 49 true 9 (At 55),oG 57 49 true 10 (Af 1 56),oG 58 49 true 11 (Ag 57),oG 59 49 true 12 (.len false (.t 58)),oG 60 49 true 13 (Bu .lss 54 59),oI 61 14 (Bv 49 60),oI 62 15 (mT 61),oG 63 62 true 16 (mT 0),oG 64 62 true 17 (At 63),oG 65 62 true 18 (Af 1 64),oG 66 62 true 19 (Ag 65),oG 67 62 true 20 (mT 0),oG 68 62 true 21 (At 67),oG 69 62 true 22 (Af 2 68),oG 70 62 true 23 (Ag 69),oG 71 62 true 24 (Bi .add 70 1),oG 72 62 true 25 (.iad 3 (.t 66) (.t 71)),oG 73 62 true 26 (Af 0 72),oG 74 62 true 27 (Ag 73),oG 75 62 true 28 (Al 74 3),oI 76 29 (Bv 62 75),oI 77 30 (mT 76),oG 78 77 true 31 (mT 0),oG 79 77 true 32 (At 78),oG 80 77 true 33 (Af 1 79),oG 81 77 true 34 (Ag 80),oG 82 77 true 35 (mT 0),oG 83 77 true 36 (At 82),oG 84 77 true 37 (Af 2 83),oG 85 77 true 38 (Ag 84),oG 86 77 true 39 (Bi .add 85 1),oG 87 77 true 40 (.iad 3 (.t 81) (.t 86)),oG 88 77 true 41 (Af 1 87),oG 89 77 true 42 (Ag 88),oG 90 77 true 43 (mT 2),oG 91 77 true 44 (.call 123 [(.t 89),(.t 90)]),oI 92 45 (Bv 77 91)] (Ak 92 (Ad [Ac 93 0,Ac 94 0,oP 95 (At 94),oP 96 (Af 2 95),oP 97 (Ag 96),oP 98 (Bi .add 97 1),oP 99 (.hcall 42 [(.t 93),(.t 98)])] (Ad [oP 100 (Iq []),oN (Bn 5 6 100)] .ret)) .skip)) (Cs [Ac 101 0,oI 102 1 (At 101),oI 103 2 (Af 0 102),⟨(some 104),(Ag 103),none,3,true,[]⟩,oI 105 4 (.len true (.t 104)),oI 106 5 (mT 0),⟨(some 107),(.hcall 124 [(.t 106)]),none,6,false,[3,6]⟩,oI 8 7 (mT 105),oI 9 8 (mT 107)] (.seq (Ad [Ac 108 9,oP 109 (Bi .gtr 108 0)] (Ak 109 (.reg [Ac 110 0,oI 111 1 (At 110),oI 112 2 (Af 1 111),oI 113 3 (Ag 112),oI 114 4 (mT 9),oI 115 5 (Bi .sub 114 1),oI 116 6 (.iad 3 (.t 113) (.t 115)),oI 117 7 (Af 2 116),oI 118 8 (Ag 117),oI 119 9 (mT 0),oI 120 10 (At 119),oI 121 11 (Af 1 120),oI 122 12 (Ag 121),oI 123 13 (mT 9),oI 124 14 (Bi .sub 123 1),oI 125 15 (.iad 3 (.t 122) (.t 124)),oI 126 16 (Af 1 125),oI 127 17 (Ag 126),oI 128 18 (.len true (.t 127)),oI 129 19 (Bu .add 118 128),oI 8 20 (mT 129)] true) .skip)) (Cs [Ac 131 0,oI 132 1 (At 131),oI 133 2 (Af 0 132),⟨(some 134),(Ag 133),none,3,true,[]⟩,oI 135 4 (mT 7),oI 136 5 (mT 8),⟨(some 137),(.slc 0 (.t 134) (some (.t 135)) (some (.t 136))),none,6,true,[]⟩,oI 138 7 (mT 1),⟨(some 139),(.call 126 [(.t 138)]),none,8,true,[3,6]⟩,⟨(some 140),(.call 125 [(.t 137),(.t 139),(cI 0),(cI 0)]),none,9,true,[]⟩,oI 130 10 (mT 140),oI 141 11 (.ext (.t 130) 0),oI 142 12 (.ext (.t 130) 1),oI 143 13 (.ext (.t 130) 2),⟨(some 10),Fe,none,14,false,[3,6,8,9]⟩,oJ 15 (Bn 5 10 141),oI 11 16 (mT 142),oI 12 17 (mT 143)] (.seq (Ad [Ac 144 11,oP 145 (Bi .neq 144 0)] (Ak 145 (Ad [Ac 146 0,Ac 147 7,Ac 148 12,oP 149 (Bu .add 147 148),oP 150 (.hcall 80 [(.t 146),(.t 149)])] (Ad [oP 151 (Iq []),oN (Bn 5 6 151)] .ret)) .skip)) (Ad [Ac 152 0,Ac 153 9,oP 154 (At 152),oP 155 (Af 2 154),oN (Bn 1 155 153)] (Ad [oP 156 (Ao 5 10),oN (Bn 5 6 156)] .ret))))))))))⟩
def tr79:trF Tryz.prog Tryz.f79=some af79:=by kernel_rfl
attribute [go_sem] af79
def af41:AF:=⟨87,[(.cell 2 true 28)],(Ad [oP 2 (.new [.nils,(.bool false),(iS 0),(iS 0),(iS 0),(iS 0),(iS 0),.nils,(iS 0),(iS 0),(iS 0),(iS 0),.nils,(iS 0),(iS 0),(iS 0),(iS 0),.nils,(iS 0),(iS 0),(iS 0),(iS 0),.nils,(iS 0),(iS 0),(iS 0),(iS 0),.nils])] (Ad [oP 3 (.new [.nils,(.bool false),(iS 0),(iS 0),(iS 0),(iS 0),(iS 0),.nils,(iS 0),(iS 0),(iS 0),(iS 0),.nils,(iS 0),(iS 0),(iS 0),(iS 0),.nils,(iS 0),(iS 0),(iS 0),(iS 0),.nils,(iS 0),(iS 0),(iS 0),(iS 0),.nils])] (.seq (Ad [Ac 6 0,oP 7 (.hcall 40 [(.t 6),(cI 3)])] (.blk 0 (Ad [oP 16 (.bin 4 .eql (.t 7) (Ap [116,101,114,109])),Ac 15 16] (Ak 15 .skip (Ad [oP 18 (.bin 4 .eql (.t 7) (Ap [101,113,117,97,108])),Ac 17 18] (Ak 17 (Bo [oP 19 (Af 1 3),oN (.store 1 (.t 19) (cB true))]) (Bo [Ac 8 0,Ac 9 0,oP 10 (At 9),oP 11 (Af 2 10),oP 12 (Ag 11),oP 13 (Bi .sub 12 1),oP 14 (.hcall 42 [(.t 8),(.t 13)])]))))))) (Ad [Ac 20 0,oP 21 (.hcall 40 [(.t 20),(cI 1)])] (.seq (.blk 1 (.loop (.seq (Ad [Ac 22 0,oP 23 (At 22),oP 24 (Af 4 23),oP 25 (Ag 24),oP 26 (.un .not (.t 25)),Ac 27 26,oG 28 27 true 0 (mT 0),oG 29 27 true 0 (.hcall 77 [(.t 28),(cI 2)]),oG 30 27 true 0 (.un .not (.t 29)),oP 31 (Bv 27 30)] (Em 31 1)) (.blk 2 (Ad [Ac 32 0,oP 33 (.hcall 78 [(.t 32)]),Ac 4 33] (.reg [oP 34 (Af 0 3),⟨(some 35),(Ag 34),none,1,true,[]⟩,oI 36 2 (mT 0),oI 37 3 (Af 0 3),oI 38 4 (Ag 37),oI 39 5 (.len false (.t 38)),⟨(some 40),(.hcall 79 [(.t 36),(.t 39),(cB false)]),none,6,false,[1]⟩,oI 41 7 (mT 4),oI 42 8 (.build [(iS 0),(iS 0),(iS 0),(iS 0),.nils,(iS 0)] [(0,(5,(.t 40))),(5,(1,(.t 41)))]),⟨(some 43),(.bslice 6 [(.t 42)]),none,9,false,[1]⟩,oI 44 10 (.app 6 64 (.t 35) (.t 43)),oI 45 11 (Af 0 3),oJ 12 (Bn 1 45 44)] true)))))) (Ad [Ac 46 0,oP 47 (.hcall 40 [(.t 46),(cI 2)])] (Ad [Ac 48 0,oP 49 (.hcall 78 [(.t 48)]),oP 50 (Af 2 3),oN (Bn 1 50 49)] (Ad [oP 51 (Af 0 3),oP 52 (Ag 51),oP 53 (.len false (.t 52)),Ac 5 53] (.seq (Ad [oP 54 (Af 1 3),oP 55 (Ag 54),oP 56 (.un .not (.t 55))] (Ak 56 (Ad [Ac 57 0,Ac 58 5,oP 59 (.hcall 79 [(.t 57),(.t 58),(cB false)]),oP 60 (Af 8 3),oN (Bn 5 60 59)] (Ad [Ac 61 0,Ac 62 5,oP 63 (.hcall 79 [(.t 61),(.t 62),(cB false)]),oP 64 (Af 3 3),oN (Bn 5 64 63)] (Ad [oP 65 (Ao 28 3),oN (Bn 28 2 65)] .ret))) .skip)) (Ad [Ac 66 0,Ac 67 5,oP 68 (.hcall 79 [(.t 66),(.t 67),(cB false)]),oP 69 (Af 3 3),oN (Bn 5 69 68)] (Ad [Ac 70 0,Ac 71 5,oP 72 (.hcall 79 [(.t 70),(.t 71),(cB false)]),oP 73 (Af 8 3),oN (Bn 5 73 72)] (Ad [Ac 74 0,Ac 75 5,oP 76 (.hcall 79 [(.t 74),(.t 75),(cB false)]),oP 77 (Af 13 3),oN (Bn 5 77 76)] (Ad [Ac 78 0,Ac 79 5,oP 80 (.hcall 79 [(.t 78),(.t 79),(cB false)]),oP 81 (Af 18 3),oN (Bn 5 81 80)] (Ad [Ac 82 0,Ac 83 5,oP 84 (.hcall 79 [(.t 82),(.t 83),(cB true)]),oP 85 (Af 23 3),oN (Bn 5 85 84)] (Ad [oP 86 (Ao 28 3),oN (Bn 28 2 86)] .ret)))))))))))))))⟩
def tr41:trF Tryz.prog Tryz.f41=some af41:=by kernel_rfl
attribute [go_sem] af41
def af123:AF:=⟨32,[(.t 4)],(Ad [oP 4 (.mv (cB false))] (.seq (Ad [Ac 5 0] (.blk 0 (.seq (Ad [oP 7 (.bin 4 .eql (.t 5) (Ap [112,105])),Ac 6 7] (Ak 6 .skip (Ad [oP 8 (.bin 4 .eql (.t 5) (Ap [108,97,109])),Ac 6 8] (Ak 6 .skip (Ad [oP 9 (.bin 4 .eql (.t 5) (Ap [97,112,112])),Ac 6 9] (Ak 6 .skip (Ad [oP 10 (.bin 4 .eql (.t 5) (Ap [115,105,103])),Ac 6 10] (Ak 6 .skip (Ad [oP 11 (.bin 4 .eql (.t 5) (Ap [112,97,105,114])),Ac 6 11] (Ak 6 .skip (Ad [oP 12 (.bin 4 .eql (.t 5) (Ap [102,115,116])),Ac 6 12] (Ak 6 .skip (Ad [oP 13 (.bin 4 .eql (.t 5) (Ap [115,110,100])),Ac 6 13] (Ak 6 .skip (Ad [oP 14 (.bin 4 .eql (.t 5) (Ap [101,113])),Ac 6 14] (Ak 6 .skip (Ad [oP 15 (.bin 4 .eql (.t 5) (Ap [114,101,102,108])),Ac 6 15] (Ak 6 .skip (Bo [oP 16 (.bin 4 .eql (.t 5) (Ap [116,114])),Ac 6 16]))))))))))))))))))) (Ak 6 (Ad [Ac 17 1,Ac 4 17] .ret) (.seq (Ad [oP 19 (.bin 4 .eql (.t 5) (Ap [80,105])),Ac 18 19] (Ak 18 .skip (Ad [oP 20 (.bin 4 .eql (.t 5) (Ap [76,97,109])),Ac 18 20] (Ak 18 .skip (Ad [oP 21 (.bin 4 .eql (.t 5) (Ap [65,112,112])),Ac 18 21] (Ak 18 .skip (Ad [oP 22 (.bin 4 .eql (.t 5) (Ap [83,105,103])),Ac 18 22] (Ak 18 .skip (Ad [oP 23 (.bin 4 .eql (.t 5) (Ap [80,97,105,114])),Ac 18 23] (Ak 18 .skip (Ad [oP 24 (.bin 4 .eql (.t 5) (Ap [70,115,116])),Ac 18 24] (Ak 18 .skip (Ad [oP 25 (.bin 4 .eql (.t 5) (Ap [83,110,100])),Ac 18 25] (Ak 18 .skip (Ad [oP 26 (.bin 4 .eql (.t 5) (Ap [69,113])),Ac 18 26] (Ak 18 .skip (Ad [oP 27 (.bin 4 .eql (.t 5) (Ap [82,101,102,108])),Ac 18 27] (Ak 18 .skip (Ad [oP 28 (.bin 4 .eql (.t 5) (Ap [74])),Ac 18 28] (Ak 18 .skip (Bo [oP 29 (.bin 4 .eql (.t 5) (Ap [117,115,101])),Ac 18 29]))))))))))))))))))))) (Ak 18 (Ad [Ac 30 1,oP 31 (.un .not (.t 30)),Ac 4 31] .ret) .skip)))))) (Ad [oP 4 (.mv (cB false))] .ret)))⟩
def tr123:trF Tryz.prog Tryz.f123=some af123:=by kernel_rfl
attribute [go_sem] af123
def af126:AF:=⟨25,[(.t 2)],(Ad [oP 2 (.mv (.c .nils))] (.seq (Ad [Ac 5 0,oP 6 (Bi .lss 5 0),Ac 7 6,oG 8 7 false 0 (mT 0),oG 9 7 false 0 (Bi .gtr 8 1000000),oP 10 (Cx 7 9)] (Ak 10 (Ad [oP 2 (.mv (.c .nils))] .ret) .skip)) (Ad [Ac 11 0,oP 12 (.mk 1 16 [(.str (bs []))] (.t 11) (.t 11)),Ac 3 12] (.seq (Ad [Ac 13 3,oP 14 (.len false (.t 13)),oP 15 (.mv (cI 0))] (.blk 0 (.loop (Ad [oP 16 (Bu .lss 15 14)] (.seq (Em 16 0) (.seq (.blk 1 (Ad [Ac 17 15,Ac 4 17] (Bo [Ac 18 3,Ac 19 4,Ac 20 4,oP 21 (.call 97 [(.t 20)]),oP 22 (.iad 1 (.t 18) (.t 19)),oN (Bn 1 22 21)]))) (Bo [oP 23 (Bi .add 15 1),Ac 15 23]))))))) (Ad [Ac 24 3,Ac 2 24] .ret)))))⟩
def tr126:trF Tryz.prog Tryz.f126=some af126:=by kernel_rfl
attribute [go_sem] af126
def af97:AF:=⟨6,[(.t 2)],(Ad [oP 2 (.mv (Ap []))] (Ad [Ac 3 0,oP 4 (.call 32 [(.t 3)]),oP 5 (.bin 4 .add (Ap [118]) (.t 4)),Ac 2 5] .ret))⟩
def tr97:trF Tryz.prog Tryz.f97=some af97:=by kernel_rfl
attribute [go_sem] af97
open Go Go.RowKit Go.Proofs.YtgfehkhcmnfpaaaGreatDoor
def Ch(c:QC)(s:QS):List SV:=[.str (bs c.tx),.dsl 3 (c.L.map Hk),.int .i64 s.k,.int .i64 c.e,.bool s.bad,.int .i64 s.at_]
structure QAt(c:QC)(k:Nat):Prop where
 lt:k<c.L.length
 ltz:(k:Int)<(c.L.length:Int)
 ge:(0:Int)<=(k:Int)
 row:(c.L.map Hk)[k]?.getD []=[.int .i64 (c.tk k).k,.str (bs (c.tk k).w),.int .i64 (c.tk k).p]
 w1:IntKind.i64.wrap ((k:Int)+1)=((k+1:Nat):Int)
 w2:IntKind.i64.wrap (((k+1:Nat):Int)-1)=(k:Int)
 nge:¬(k:Int) >= (c.L.length:Int)
 big:(c.L.length<=140737488355328)=True
def qAt{c:QC}(hn:c.L.length<100000000000){k:Nat}(h:k<c.L.length):QAt c k:=by
 refine⟨h,by omega,by omega,?_,by rw[w64 (by unfold fit;omega)];omega,by rw[w64 (by unfold fit;omega)];omega,by omega,by simp;omega⟩;rw[q_ji,q_f h];unfold QC.tk;rw[q_j,q_f h];rfl
section
variable{c:QC}{s:QS}
def Py(p:Nat):Dc 80 [Ch c s] [.gp 0 0,.int .i64 p] (.ret (.tup [])) [Ch c (Hj s p)]:=by
 refine Cl mixed Tryz.func80 tr80 ?_;obtain⟨k,b,a⟩:=s;unfold Ch Hj;cases b
 ·simp only[go_sem,seval,q_kx,if_false]
 ·simp only[go_sem,seval,if_true]
def Vj(hn:c.L.length<100000000000)(k:Nat):Dc 42 [Ch c s] [.gp 0 0,.int .i64 k] (.ret (.tup [])) [Ch c (Ey c s k)]:=by
 have cp:=Py (c:=c) (s:=s) (if k<c.L.length then (c.tk k).p else c.e);refine Cl mixed Tryz.func42 tr42 ?_;have a10:(c.L.length<=140737488355328)=True:=by simp;omega
 unfold Ey;obtain⟨sk,b,a⟩:=s;unfold Ch at cp |-;cases b
 ·by_cases h:k<c.L.length
  ·obtain⟨a1,a2,a3,a4,a6,a7,a8,a9⟩:=qAt hn h;rw[if_pos h] at cp |-;simp only[go_sem,seval,a1,a2,a3,a4,a9,q_g,forall_const];refine Ai cp ?_;simp only[go_sem,seval]
  ·rw[if_neg h] at cp |-;simp only[go_sem,seval,a10,(show ¬(k:Int)<(c.L.length:Int) by omega),q_g,forall_const];refine Ai cp ?_;simp only[go_sem,seval]
 ·simp only[go_sem,seval];rfl
def Awm(hb:s.bad=true)(z:Int):Dc 42 [Ch c s] [.gp 0 0,.int .i64 z] (.ret (.tup [])) [Ch c s]:=by
 refine Cl mixed Tryz.func42 tr42 ?_;obtain⟨sk,b,a⟩:=s;simp only at hb;subst hb;unfold Ch;simp only[go_sem,seval]
def Yb(hn:c.L.length<100000000000)(kd:Nat):Dc 77 [Ch c s] [.gp 0 0,.int .i64 kd] (.ret (.bool (isQ c s kd))) [Ch c s]:=by
 refine Cl mixed Tryz.func77 tr77 ?_;have a10:(c.L.length<=140737488355328)=True:=by simp;omega
 unfold isQ;obtain⟨k,b,a⟩:=s;unfold Ch;simp only
 by_cases h:k<c.L.length
 ·obtain⟨a1,a2,a3,a4,a6,a7,a8,a9⟩:=qAt hn h;have hk:(((c.tk k).k:Int)==(kd:Int))=decide ((c.tk k).k=kd):=by
   by_cases e:(c.tk k).k=kd
   ·simp[e]
   ·simp[e];omega
  simp only[go_sem,seval,a1,a2,a3,a4,a9,q_g,hk,decide_true,q_la,forall_const]
 ·simp only[go_sem,seval,a10,(show ¬(k:Int)<(c.L.length:Int) by omega),h,decide_false,q_lc,q_g,forall_const]
def Il(hn:c.L.length<100000000000)(kd:Nat):Dc 40 [Ch c s] [.gp 0 0,.int .i64 kd] (.ret (.str (bs (Co c s kd).1))) [Ch c (Co c s kd).2]:=by
 have ci:=Yb (s:=s) hn kd;have cf:=Vj (s:=s) hn s.k;refine Cl mixed Tryz.func40 tr40 ?_;have a10:(c.L.length<=140737488355328)=True:=by simp;omega
 unfold Co;obtain⟨k,b,a⟩:=s;cases b;rotate_left
 ·rw[if_neg (by simp)];unfold Ch at cf |-;simp only[go_sem,seval];refine Ai cf ?_;simp only[go_sem,seval]
 cases hi:isQ c ⟨k,false,a⟩ kd
 ·rw[hi] at ci;rw[if_neg (by simp)];unfold Ch at ci cf |-;simp only[go_sem,seval];refine Ai ci ?_;simp only[go_sem,seval];refine Ai cf ?_;simp only[go_sem,seval]
 ·rw[hi] at ci;rw[if_pos ⟨rfl,rfl⟩];have h:k<c.L.length:=by unfold isQ at hi;simp at hi;exact hi.1
  obtain⟨a1,a2,a3,a4,a6,a7,a8,a9⟩:=qAt hn h;unfold Ch at ci |-;simp only[go_sem,seval];refine Ai ci ?_;simp only[go_sem,seval,a1,a2,a3,a4,a6,a7,a9,q_g,forall_const]
def Abt(hb:s.bad=false)(kd:Nat):Co c s kd=((c.tk s.k).w,{ s with k:=s.k+1 })/\s.k<c.L.length/\(c.tk s.k).k=kd\/∃a,Co c s kd=([],{ s with bad:=true,at_:=a }):=by
 unfold Co;split
 ·rename_i h;refine .inl ⟨rfl,?_⟩;have:=h.2;unfold isQ at this;simpa using this
 ·right;unfold Ey Hj;rw[hb,if_neg (by decide)];exact⟨_,rfl⟩
def Abq(hb:s.bad=true)(kd:Nat):Co c s kd=([],s):=by
 unfold Co;rw[if_neg (fun h=>by rw[hb] at h;cases h.1)];unfold Ey Hj;rw[if_pos hb]
def v8:Ez []=none:=rfl
def Kl(hn:c.L.length<100000000000):Dc 78 [Ch c s] [.gp 0 0] (.ret (.int .i64 (Ed c s).1)) [Ch c (Ed c s).2]:=by
 have ct:=Il (s:=s) hn 4;have cg:=Acm (Co c s 4).1;refine Cl mixed Tryz.func78 tr78 ?_;unfold Ed
 by_cases Iy:1000<(Ez (Co c s 4).1).getD 0
 ·obtain⟨h1,h2⟩:∃k:Nat,(Co c s 4).2.k=k+1/\k<c.L.length:=by
   cases hb:s.bad with
   |true=>rw[Abq hb,v8] at Iy;simp at Iy
   |false=>
    rcases Abt (c:=c) hb 4 with⟨h,h1,_⟩|⟨a,h⟩
    ·rw[h];exact⟨s.k,rfl,h1⟩
    ·rw[h,v8] at Iy;simp at Iy
  have hw:IntKind.i64.wrap (((Co c s 4).2.k:Int)-1)=(((Co c s 4).2.k-1:Nat):Int):=by rw[h2.1,w64 (by unfold fit;omega)];omega
  have cf:=Vj (s:=(Co c s 4).2) hn ((Co c s 4).2.k-1);rw[if_pos Iy];generalize Co c s 4=q at *
  obtain⟨w,sq⟩:=q;unfold Ch at *
  simp only at *
  repeat' first
  |simp only[go_sem,seval,q_jn (show (((Ez w).getD 0:Nat):Int) > 1000 by omega),hw]
  |refine Ai ct ?_
  |refine Ae cg ?_
  |refine Ai cf ?_
 ·rw[if_neg Iy];generalize Co c s 4=q at *
  obtain⟨w,sq⟩:=q;unfold Ch at *
  simp only at *
  repeat' first
  |simp only[go_sem,seval,q_je (show ¬(((Ez w).getD 0:Nat):Int) > 1000 by omega)]
  |refine Ai ct ?_
  |refine Ae cg ?_
end
def Aqn(w:By)(pl:Bool):Con 123 [.str (bs w),.bool pl] (.bool (Sa w pl)):=by
 refine Bt mixed Tryz.func123 tr123 ?_;simp only[go_sem,seval]
 iterate 21
  refine⟨fun h=>?_,fun h=>?_⟩
  ·have h2:=eq_of_beq h;subst h2;simp only[go_sem,seval];cases pl<;>rfl
  replace h:=Afi h;simp only[go_sem,seval]
 have h1:w ∉ Afe:=by simp only[Afe,q_kb,q_kc,or_false,not_or];exact⟨by assumption,by assumption,by assumption,by assumption,by assumption,by assumption,by assumption,by assumption,by assumption,by assumption⟩
 have h2:w ∉ Afp:=by simp only[Afp,q_kb,q_kc,or_false,not_or];exact⟨by assumption,by assumption,by assumption,by assumption,by assumption,by assumption,by assumption,by assumption,by assumption,by assumption,by assumption⟩
 unfold Sa;rw[if_neg h1,if_neg h2]
section
variable{c:QC}{s:QS}
def Lp(o:Option Nat):Int:=match o with|some q=>q|none=>-1
def Awi(hn:c.L.length<100000000000)(hk:s.k<=c.L.length):Dc 124 [Ch c s] [.gp 0 0] (.ret (.int .i64 (Lp (Ig c s.k)))) [Ch c s]:=by
 refine Cl mixed Tryz.func124 tr124 ?_;have a10:(c.L.length<=140737488355328)=True:=by simp;omega
 unfold Ch Ig;simp only[go_sem,seval];refine Qr (fun a:Nat×Nat=>⟨(.gp 0 0::.J::.J::.int .i64 a.2::.int .i64 a.1::Fb (.J::[])),[gOb [[.str (bs c.tx),.dsl 3 (c.L.map Hk),.int .i64 s.k,.int .i64 c.e,.bool s.bad,.int .i64 s.at_]]]⟩) (fun a=>c.L.length-a.1) (fun a=>s.k<=a.1/\a.1<=c.L.length/\a.2<=a.1/\Qn (c.L.drop a.1) a.1 a.2=Qn (c.L.drop s.k) s.k 0) (fun a ha=>?_) (s.k,0) ⟨q_ja _,hk,Nat.zero_le _,rfl⟩ (Cr (by simp[Cb]));obtain⟨x,d⟩:=a;obtain⟨h1,h2,h3,h4⟩:=ha;simp only at h1 h2 h3 h4;rw[<-h4]
 by_cases h:x<c.L.length
 ·obtain⟨a1,a2,a3,a4,a6,a7,a8,a9⟩:=qAt hn h;have hd:c.L.drop x=c.tk x::c.L.drop (x+1):=by
   rw[List.drop_eq_getElem_cons h];unfold QC.tk;rw[q_j,q_f h];rfl
  rw[hd,Qn];have wd1:IntKind.i64.wrap ((d:Int)+1)=((d+1:Nat):Int):=by rw[w64 (by unfold fit;omega)];omega
  have wd2:IntKind.i64.wrap ((d:Int)-1)=(d:Int)-1:=by rw[w64 (by unfold fit;omega)]
  by_cases k1:(c.tk x).k=1
  ·have e1:(((c.tk x).k:Int)==1)=true:=by simp[k1]
   rw[if_pos k1,if_neg (Nat.succ_ne_zero d)];simp only[go_sem,seval,a1,a2,a3,a4,a6,a9,q_g,e1,wd1,q_je (show ¬((d+1:Nat):Int)<=0 by omega),forall_const];refine⟨(x+1,d+1),⟨by simp only;omega,by simp only;omega,by simp only;omega,by simp only;omega,?_⟩,Cr (by simp[Cb])⟩;rfl
  ·have e1:(((c.tk x).k:Int)==1)=false:=by simp;omega
   rw[if_neg k1]
   by_cases k2:(c.tk x).k=2
   ·have e2:(((c.tk x).k:Int)==2)=true:=by simp[k2]
    rw[if_pos k2]
    by_cases Ye:d-1=0
    ·rw[if_pos Ye];simp only[go_sem,seval,a1,a2,a3,a4,a6,a9,q_g,e1,e2,wd2,q_jn (show (d:Int)-1<=0 by omega),forall_const];rfl
    ·rw[if_neg Ye];simp only[go_sem,seval,a1,a2,a3,a4,a6,a9,q_g,e1,e2,wd2,q_je (show ¬(d:Int)-1<=0 by omega),forall_const];refine⟨(x+1,d-1),⟨by simp only;omega,by simp only;omega,by simp only;omega,by simp only;omega,?_⟩,?_⟩
     ·rfl
     ·rw[show (d:Int)-1=((d-1:Nat):Int) by omega];exact Cr (by simp[Cb])
   ·have e2:(((c.tk x).k:Int)==2)=false:=by simp;omega
    rw[if_neg k2]
    by_cases Ye:d=0
    ·subst Ye;rw[if_pos rfl];simp only[go_sem,seval,a1,a2,a3,a4,a6,a9,q_g,e1,e2,forall_const];rfl
    ·rw[if_neg Ye];simp only[go_sem,seval,a1,a2,a3,a4,a6,a9,q_g,e1,e2,q_je (show ¬(d:Int)<=0 by omega),forall_const];refine⟨(x+1,d),⟨by simp only;omega,by simp only;omega,by simp only;omega,by simp only;omega,?_⟩,Cr (by simp[Cb])⟩;rfl
 ·have hx:c.L.drop x=[]:=List.drop_eq_nil_of_le (by omega);rw[hx];simp only[go_sem,seval,a10,(show ¬(x:Int)<(c.L.length:Int) by omega),q_g,forall_const];rfl
end
def Aez(n:Nat)(hn:n<1000000000):(Lib.itoa (n:Nat)).length<=21:=Lib.itoa_length_le n (by omega) (by omega)
def Ahj(n:Nat)(hn:n<1000000000):Con 97 [.int .i64 n] (.str (bs (118::Lib.itoa (n:Nat)))):=by
 have cp:=p9 (n:=(n:Int)) ⟨by omega,by omega⟩;have hl:=Aez n hn;refine Bt mixed Tryz.func97 tr97 ?_;simp only[go_sem,seval];refine Ae cp ?_;simp only[go_sem,seval,(show 1+(Lib.itoa (n:Nat)).length<=9223372036854775807 by omega)]
def Nc(n x:Nat):GV:=((List.range x).map fun i=>[SV.str (bs (118::Lib.itoa (i:Nat)))])++List.replicate (n-x) [.str (bs [])]
def Amf{n x:Nat}(h:x<=n):(Nc n x).length=n:=by unfold Nc;simp;omega
def A2d{n x:Nat}(h:x<n):(Nc n x).set x [SV.str (bs (118::Lib.itoa (x:Nat)))]=Nc n (x+1):=by
 unfold Nc;rw[List.set_append_right _ _ (by simp)];rw[q_g,List.length_range,Nat.sub_self,show n-x=n-(x+1)+1 by omega,List.replicate_succ,List.set_cons_zero,List.range_succ,q_kt,q_ju];rfl
def A2b{n x:Nat}(h:x<n):(Nc n x)[x]?.getD []=[.str (bs [])]:=by
 unfold Nc;rw[q_jj (by simp),q_g,List.length_range,Nat.sub_self,show n-x=n-(x+1)+1 by omega,List.replicate_succ];rfl
def A2c(n:Nat):SV.dsl 1 (Nc n n)=nmG (Gn n):=by
 unfold Nc nmG Gn;simp only[Nat.sub_self,List.replicate_zero,q_k,List.reverse_reverse,List.map_map];rfl
def Aqg(n:Nat)(hn:n<=1000000):Con 126 [.int .i64 n] (nmG (Gn n)):=by
 refine Bt mixed Tryz.func126 tr126 ?_;simp only[go_sem,seval,(show ¬(n:Int)<0 by omega),q_je (show ¬(n:Int) > 1000000 by omega)];refine⟨⟨by omega,by omega,by omega,by omega⟩,?_⟩;refine Kf (fun x=>⟨(.int .i64 n::.J::.J::.osl 0 0 0 n::jk8 (jk2 (.int .i64 n::.int .i64 x::jk8 (.J::[])))),[{ box:=false,sz:=1,els:=Nc n x,frz:=0,gen:=0,cl:=true }]⟩) n (fun x hx=>?_) ?_
 ·by_cases h:x<n
  ·have cn:=Ahj x (by omega);have e1:(x:Int)<(n:Int):=by omega
   have hw:IntKind.i64.wrap ((x:Int)+1)=((x+1:Nat):Int):=by rw[w64 (by unfold fit;omega)];omega
   simp only[go_sem,seval,q_jn e1];refine Ae cn ?_;simp only[go_sem,seval,(show (0:Int)<=(x:Int) by omega),e1,hw,Amf hx,A2b h,A2d h];exact⟨h,h,Cr (by simp[Cb])⟩
  ·have:x=n:=by omega
   subst this;simp only[go_sem,seval,q_je (show ¬(x:Int)<(x:Int) by omega)];rw[q_js (by rw[Amf (q_ja _)];exact q_ja _),A2c]
 ·rw[show Nc n 0=List.replicate n [SV.str (bs [])] by simp[Nc]];exact Cr (by simp[Cb])
structure Ab8(c:QC):Prop where
 n:c.tx.length<1000000000
 l:c.L.length<=c.tx.length
 e:c.e<=c.tx.length
 p:∀k,k<c.L.length->(c.tk k).p+(c.tk k).w.length<=c.tx.length
 cl:∀k q,k<c.L.length->Ig c k=some q->k<q/\q<=c.L.length/\(c.tk k).p<=(c.tk (q-1)).p+(c.tk (q-1)).w.length
 z:∀k ns,k<c.L.length->Ig c k=none->∃t p,Hu ((c.tx.drop (c.tk k).p).take (c.tx.length-(c.tk k).p)) ns 0 0=(t,some p)
def Afh(n:Nat):(Gn n).length=n:=by simp[Gn]
def wp{a b:Nat}(h:a+b<1000000000000):IntKind.i64.wrap ((a:Int)+(b:Int))=((a+b:Nat):Int):=by rw[w64 (by unfold fit;omega)];omega
section
variable{c:QC}{s:QS}
def Eb(hg:Ab8 c)(n:Nat)(Yr:n<=1000000)(pl:Bool)(hr:∀k p t,Hu ((c.tx.drop (c.tk k).p).take (Ep c k-(c.tk k).p)) (Gn n) 0 0=(t,some p)->p<=c.tx.length):Dc 79 [Ch c s] [.gp 0 0,.int .i64 n,.bool pl] (.ret (.agg true (tv (Cm c n pl s).1))) [Ch c (Cm c n pl s).2]:=by
 have Hs:∀{G G'} (a:Dc 79 G [.gp 0 0,.int .i64 n,.bool pl] (.ret (.agg true [.int .i64 0,.int .i64 0,.int .i64 0,.int .i64 0,.nils])) G'),Dc 79 G [.gp 0 0,.int .i64 n,.bool pl] (.ret (.agg true (tv zR))) G':=fun a=>Hg a (Tx _ _ _ _)
 have hn:c.L.length<100000000000:=by have:=hg.n;have:=hg.l;omega
 have hTx:=hg.n;have a10:(c.L.length<=140737488355328)=True:=by simp;omega
 have ci:=Yb (c:=c) (s:=s) hn 1;have cf:=Vj (c:=c) (s:=s) hn s.k;have cf1:=Vj (c:=c) (s:=s) hn (s.k+1);have cc:=fun h=>Awi (c:=c) (s:=s) hn h
 obtain⟨k,b,a⟩:=s;simp only at cf cf1 cc;cases b;rotate_left
 ·rw[show Cm c n pl ⟨k,true,a⟩=(zR,Ey c ⟨k,true,a⟩ k) from rfl];refine Hs ?_;refine Cl mixed Tryz.func79 tr79 ?_;unfold Ch at cf |-;simp only[go_sem,seval];refine Ai cf ?_;simp only[go_sem,seval]
 by_cases h:k<c.L.length
 rotate_left
 ·rw[show Cm c n pl ⟨k,false,a⟩=(zR,Ey c ⟨k,false,a⟩ k) from if_neg (fun x=>h x.2)];refine Hs ?_;refine Cl mixed Tryz.func79 tr79 ?_;unfold Ch at cf |-;simp only[go_sem,seval,a10,q_jn (show (k:Int) >= (c.L.length:Int) by omega),q_g,forall_const];refine Ai cf ?_;simp only[go_sem,seval]
 obtain⟨a1,a2,a3,a4,a6,a7,a8,a9⟩:=qAt hn h;have cc:=cc (Nat.le_of_lt h);have hi:isQ c ⟨k,false,a⟩ 1=decide ((c.tk k).k=1):=by simp[isQ,h]
 have cn:=Aqg n Yr;have hp:=hg.p k h
 -- the piece,read
 have hend:(c.tk k).p<=Ep c k/\Ep c k<=c.tx.length:=by
  unfold Ep;cases hq:Ig c k with
  |none=>exact⟨by simp only;omega,q_ja _⟩
  |some q=>
   obtain⟨q1,q2,q3⟩:=hg.cl k q h hq;exact⟨q3,hg.p (q-1) (by omega)⟩
 have cr:=Aqx (tx:=(c.tx.drop (c.tk k).p).take (Ep c k-(c.tk k).p)) (ns:=Gn n) (by rw[Afh];omega) (by rw[q_kg];omega) (i:=0) (j:=0) (by omega) (by omega);have hr:=hr k
 by_cases Fh:(c.tk k).k=1
 rotate_left
 ·rw[q_je Fh] at hi;rw[hi] at ci;rw[show Cm c n pl ⟨k,false,a⟩=(match (Hu ((c.tx.drop (c.tk k).p).take (Ep c k-(c.tk k).p)) (Gn n) 0 0) with|(t,none)=>(t,{ k:=(Ig c k).getD 0,bad:=false,at_:=a })|(_,some p)=>(zR,Hj ⟨k,false,a⟩ ((c.tk k).p+p))) from (if_pos ⟨rfl,h⟩).trans (if_neg (fun x=>Fh x.1))];cases hq:Ig c k with
  |none=>
   obtain⟨t,p,hz⟩:=hg.z k (Gn n) h hq;have hE:Ep c k=c.tx.length:=by unfold Ep;rw[hq]
   have Fo:=hr p t (by rw[hE];exact hz);rw[hE] at cr |-;rw[hq] at cc;rw[hz] at cr |-;have cp:=Py (c:=c) (s:=⟨k,false,a⟩) ((c.tk k).p+p);refine Hs ?_;refine Cl mixed Tryz.func79 tr79 ?_;unfold Ch at ci cc cp |-;unfold nmG at cn cr
   repeat' first
   |simp only[go_sem,seval,a1,a2,a3,a4,a6,a7,a9,q_je a8,q_g,Kz,show Lp none=-1 from rfl,(show (0:Int)<=((c.tk k).p:Int) by omega),(show ((c.tk k).p:Int)<=(c.tx.length:Int) by omega),(show (c.tk k).p<=c.tx.length by omega),(show (0:Int)<=(c.tx.length:Int) by omega),Int.le_refl,q_ja,wp (a:=(c.tk k).p) (b:=p) (by omega),forall_const]
   |refine Ai ci ?_
   |refine Ai cc ?_
   |refine Ae cn ?_
   |refine Ae cr ?_
   |refine Ai cp ?_
  |some q=>
   obtain⟨q1,q2,q3⟩:=hg.cl k q h hq;obtain⟨b1,b2,b3,b4,b6,b7,b8,b9⟩:=qAt hn (show q-1<c.L.length by omega);have hqp:=hg.p (q-1) (by omega);have hE:Ep c k=(c.tk (q-1)).p+(c.tk (q-1)).w.length:=by unfold Ep;rw[hq]
   have Nx:IntKind.i64.wrap ((q:Int)-1)=((q-1:Nat):Int):=by rw[w64 (by unfold fit;omega)];omega
   have Ib:=wp (a:=(c.tk (q-1)).p) (b:=(c.tk (q-1)).w.length) (by omega);rw[hE] at cr |-;rw[hq] at cc;rw[show (some q).getD 0=q from rfl];rw[hE] at hr hend;generalize (c.tk (q-1)).p+(c.tk (q-1)).w.length=E at *
   cases hz:Hu ((c.tx.drop (c.tk k).p).take (E-(c.tk k).p)) (Gn n) 0 0 with
   |mk t o=>
    rw[hz] at cr;cases o with
    |none=>
     refine Cl mixed Tryz.func79 tr79 ?_;unfold Ch at ci cc |-;unfold nmG at cn cr
     repeat' first
     |simp only[go_sem,seval,a1,a2,a3,a4,a6,a7,a9,q_je a8,q_g,Kz,show Lp (some q)=(q:Int) from rfl,q_jn (show (q:Int) > 0 by omega),Nx,Ib,b1,b2,b3,b4,b9,(show (0:Int)<=((c.tk k).p:Int) by omega),(show ((c.tk k).p:Int)<=(E:Int) by omega),(show (E:Int)<=(c.tx.length:Int) by omega),(show (0:Int)<=(E:Int) by omega),hend.1,hend.2,forall_const]
     |refine Ai ci ?_
     |refine Ai cc ?_
     |refine Ae cn ?_
     |refine Ae cr ?_
    |some p=>
     have Fo:=hr p t hz;have cp:=Py (c:=c) (s:=⟨k,false,a⟩) ((c.tk k).p+p);refine Hs ?_;refine Cl mixed Tryz.func79 tr79 ?_;unfold Ch at ci cc cp |-;unfold nmG at cn cr
     repeat' first
     |simp only[go_sem,seval,a1,a2,a3,a4,a6,a7,a9,q_je a8,q_g,Kz,show Lp (some q)=(q:Int) from rfl,q_jn (show (q:Int) > 0 by omega),Nx,Ib,b1,b2,b3,b4,b9,(show (0:Int)<=((c.tk k).p:Int) by omega),(show ((c.tk k).p:Int)<=(E:Int) by omega),(show (E:Int)<=(c.tx.length:Int) by omega),(show (0:Int)<=(E:Int) by omega),hend.1,hend.2,wp (a:=(c.tk k).p) (b:=p) (by omega),forall_const]
     |refine Ai ci ?_
     |refine Ai cc ?_
     |refine Ae cn ?_
     |refine Ae cr ?_
     |refine Ai cp ?_
 rw[q_jn Fh] at hi;rw[hi] at ci
 by_cases h1:k+1<c.L.length
 rotate_left
 ·have n1:¬((k+1:Nat):Int)<(c.L.length:Int):=by omega
  rw[show Cm c n pl ⟨k,false,a⟩=(match (Hu ((c.tx.drop (c.tk k).p).take (Ep c k-(c.tk k).p)) (Gn n) 0 0) with|(t,none)=>(t,{ k:=(Ig c k).getD 0,bad:=false,at_:=a })|(_,some p)=>(zR,Hj ⟨k,false,a⟩ ((c.tk k).p+p))) from (if_pos ⟨rfl,h⟩).trans (if_neg (fun x=>h1 x.2.1))];cases hq:Ig c k with
  |none=>
   obtain⟨t,p,hz⟩:=hg.z k (Gn n) h hq;have hE:Ep c k=c.tx.length:=by unfold Ep;rw[hq]
   have Fo:=hr p t (by rw[hE];exact hz);rw[hE] at cr |-;rw[hq] at cc;rw[hz] at cr |-;have cp:=Py (c:=c) (s:=⟨k,false,a⟩) ((c.tk k).p+p);refine Hs ?_;refine Cl mixed Tryz.func79 tr79 ?_;unfold Ch at ci cc cp |-;unfold nmG at cn cr
   repeat' first
   |simp only[go_sem,seval,a1,a2,a3,a4,a6,a7,a9,q_je a8,q_g,Kz,q_je n1,show Lp none=-1 from rfl,(show (0:Int)<=((c.tk k).p:Int) by omega),(show ((c.tk k).p:Int)<=(c.tx.length:Int) by omega),(show (c.tk k).p<=c.tx.length by omega),(show (0:Int)<=(c.tx.length:Int) by omega),Int.le_refl,q_ja,wp (a:=(c.tk k).p) (b:=p) (by omega),forall_const]
   |refine Ai ci ?_
   |refine Ai cc ?_
   |refine Ae cn ?_
   |refine Ae cr ?_
   |refine Ai cp ?_
  |some q=>
   obtain⟨q1,q2,q3⟩:=hg.cl k q h hq;obtain⟨b1,b2,b3,b4,b6,b7,b8,b9⟩:=qAt hn (show q-1<c.L.length by omega);have hqp:=hg.p (q-1) (by omega);have hE:Ep c k=(c.tk (q-1)).p+(c.tk (q-1)).w.length:=by unfold Ep;rw[hq]
   have Nx:IntKind.i64.wrap ((q:Int)-1)=((q-1:Nat):Int):=by rw[w64 (by unfold fit;omega)];omega
   have Ib:=wp (a:=(c.tk (q-1)).p) (b:=(c.tk (q-1)).w.length) (by omega);rw[hE] at cr |-;rw[hq] at cc;rw[show (some q).getD 0=q from rfl];rw[hE] at hr hend;generalize (c.tk (q-1)).p+(c.tk (q-1)).w.length=E at *
   cases hz:Hu ((c.tx.drop (c.tk k).p).take (E-(c.tk k).p)) (Gn n) 0 0 with
   |mk t o=>
    rw[hz] at cr;cases o with
    |none=>
     refine Cl mixed Tryz.func79 tr79 ?_;unfold Ch at ci cc |-;unfold nmG at cn cr
     repeat' first
     |simp only[go_sem,seval,a1,a2,a3,a4,a6,a7,a9,q_je a8,q_g,Kz,q_je n1,show Lp (some q)=(q:Int) from rfl,q_jn (show (q:Int) > 0 by omega),Nx,Ib,b1,b2,b3,b4,b9,(show (0:Int)<=((c.tk k).p:Int) by omega),(show ((c.tk k).p:Int)<=(E:Int) by omega),(show (E:Int)<=(c.tx.length:Int) by omega),(show (0:Int)<=(E:Int) by omega),hend.1,hend.2,forall_const]
     |refine Ai ci ?_
     |refine Ai cc ?_
     |refine Ae cn ?_
     |refine Ae cr ?_
    |some p=>
     have Fo:=hr p t hz;have cp:=Py (c:=c) (s:=⟨k,false,a⟩) ((c.tk k).p+p);refine Hs ?_;refine Cl mixed Tryz.func79 tr79 ?_;unfold Ch at ci cc cp |-;unfold nmG at cn cr
     repeat' first
     |simp only[go_sem,seval,a1,a2,a3,a4,a6,a7,a9,q_je a8,q_g,Kz,q_je n1,show Lp (some q)=(q:Int) from rfl,q_jn (show (q:Int) > 0 by omega),Nx,Ib,b1,b2,b3,b4,b9,(show (0:Int)<=((c.tk k).p:Int) by omega),(show ((c.tk k).p:Int)<=(E:Int) by omega),(show (E:Int)<=(c.tx.length:Int) by omega),(show (0:Int)<=(E:Int) by omega),hend.1,hend.2,wp (a:=(c.tk k).p) (b:=p) (by omega),forall_const]
     |refine Ai ci ?_
     |refine Ai cc ?_
     |refine Ae cn ?_
     |refine Ae cr ?_
     |refine Ai cp ?_
 obtain⟨d1,d2,d3,d4,d6,d7,d8,d9⟩:=qAt hn h1
 by_cases Hf:(c.tk (k+1)).k=3
 rotate_left
 ·have k3:(((c.tk (k+1)).k:Int)==3)=false:=by simp;omega
  rw[show Cm c n pl ⟨k,false,a⟩=(match (Hu ((c.tx.drop (c.tk k).p).take (Ep c k-(c.tk k).p)) (Gn n) 0 0) with|(t,none)=>(t,{ k:=(Ig c k).getD 0,bad:=false,at_:=a })|(_,some p)=>(zR,Hj ⟨k,false,a⟩ ((c.tk k).p+p))) from (if_pos ⟨rfl,h⟩).trans (if_neg (fun x=>Hf x.2.2.1))];cases hq:Ig c k with
  |none=>
   obtain⟨t,p,hz⟩:=hg.z k (Gn n) h hq;have hE:Ep c k=c.tx.length:=by unfold Ep;rw[hq]
   have Fo:=hr p t (by rw[hE];exact hz);rw[hE] at cr |-;rw[hq] at cc;rw[hz] at cr |-;have cp:=Py (c:=c) (s:=⟨k,false,a⟩) ((c.tk k).p+p);refine Hs ?_;refine Cl mixed Tryz.func79 tr79 ?_;unfold Ch at ci cc cp |-;unfold nmG at cn cr
   repeat' first
   |simp only[go_sem,seval,a1,a2,a3,a4,a6,a7,a9,q_je a8,q_g,Kz,q_jn d2,d1,d2,d3,d4,k3,show Lp none=-1 from rfl,(show (0:Int)<=((c.tk k).p:Int) by omega),(show ((c.tk k).p:Int)<=(c.tx.length:Int) by omega),(show (c.tk k).p<=c.tx.length by omega),(show (0:Int)<=(c.tx.length:Int) by omega),Int.le_refl,q_ja,wp (a:=(c.tk k).p) (b:=p) (by omega),forall_const]
   |refine Ai ci ?_
   |refine Ai cc ?_
   |refine Ae cn ?_
   |refine Ae cr ?_
   |refine Ai cp ?_
  |some q=>
   obtain⟨q1,q2,q3⟩:=hg.cl k q h hq;obtain⟨b1,b2,b3,b4,b6,b7,b8,b9⟩:=qAt hn (show q-1<c.L.length by omega);have hqp:=hg.p (q-1) (by omega);have hE:Ep c k=(c.tk (q-1)).p+(c.tk (q-1)).w.length:=by unfold Ep;rw[hq]
   have Nx:IntKind.i64.wrap ((q:Int)-1)=((q-1:Nat):Int):=by rw[w64 (by unfold fit;omega)];omega
   have Ib:=wp (a:=(c.tk (q-1)).p) (b:=(c.tk (q-1)).w.length) (by omega);rw[hE] at cr |-;rw[hq] at cc;rw[show (some q).getD 0=q from rfl];rw[hE] at hr hend;generalize (c.tk (q-1)).p+(c.tk (q-1)).w.length=E at *
   cases hz:Hu ((c.tx.drop (c.tk k).p).take (E-(c.tk k).p)) (Gn n) 0 0 with
   |mk t o=>
    rw[hz] at cr;cases o with
    |none=>
     refine Cl mixed Tryz.func79 tr79 ?_;unfold Ch at ci cc |-;unfold nmG at cn cr
     repeat' first
     |simp only[go_sem,seval,a1,a2,a3,a4,a6,a7,a9,q_je a8,q_g,Kz,q_jn d2,d1,d2,d3,d4,k3,show Lp (some q)=(q:Int) from rfl,q_jn (show (q:Int) > 0 by omega),Nx,Ib,b1,b2,b3,b4,b9,(show (0:Int)<=((c.tk k).p:Int) by omega),(show ((c.tk k).p:Int)<=(E:Int) by omega),(show (E:Int)<=(c.tx.length:Int) by omega),(show (0:Int)<=(E:Int) by omega),hend.1,hend.2,forall_const]
     |refine Ai ci ?_
     |refine Ai cc ?_
     |refine Ae cn ?_
     |refine Ae cr ?_
    |some p=>
     have Fo:=hr p t hz;have cp:=Py (c:=c) (s:=⟨k,false,a⟩) ((c.tk k).p+p);refine Hs ?_;refine Cl mixed Tryz.func79 tr79 ?_;unfold Ch at ci cc cp |-;unfold nmG at cn cr
     repeat' first
     |simp only[go_sem,seval,a1,a2,a3,a4,a6,a7,a9,q_je a8,q_g,Kz,q_jn d2,d1,d2,d3,d4,k3,show Lp (some q)=(q:Int) from rfl,q_jn (show (q:Int) > 0 by omega),Nx,Ib,b1,b2,b3,b4,b9,(show (0:Int)<=((c.tk k).p:Int) by omega),(show ((c.tk k).p:Int)<=(E:Int) by omega),(show (E:Int)<=(c.tx.length:Int) by omega),(show (0:Int)<=(E:Int) by omega),hend.1,hend.2,wp (a:=(c.tk k).p) (b:=p) (by omega),forall_const]
     |refine Ai ci ?_
     |refine Ai cc ?_
     |refine Ae cn ?_
     |refine Ae cr ?_
     |refine Ai cp ?_
 have k3:(((c.tk (k+1)).k:Int)==3)=true:=by simp[Hf]
 have co:=Aqn (c.tk (k+1)).w pl;cases ho:Sa (c.tk (k+1)).w pl
 ·rw[ho] at co;rw[show Cm c n pl ⟨k,false,a⟩=(match (Hu ((c.tx.drop (c.tk k).p).take (Ep c k-(c.tk k).p)) (Gn n) 0 0) with|(t,none)=>(t,{ k:=(Ig c k).getD 0,bad:=false,at_:=a })|(_,some p)=>(zR,Hj ⟨k,false,a⟩ ((c.tk k).p+p))) from (if_pos ⟨rfl,h⟩).trans (if_neg (fun x=>by rw[ho] at x;cases x.2.2.2))];cases hq:Ig c k with
  |none=>
   obtain⟨t,p,hz⟩:=hg.z k (Gn n) h hq;have hE:Ep c k=c.tx.length:=by unfold Ep;rw[hq]
   have Fo:=hr p t (by rw[hE];exact hz);rw[hE] at cr |-;rw[hq] at cc;rw[hz] at cr |-;have cp:=Py (c:=c) (s:=⟨k,false,a⟩) ((c.tk k).p+p);refine Hs ?_;refine Cl mixed Tryz.func79 tr79 ?_;unfold Ch at ci cc cp |-;unfold nmG at cn cr
   repeat' first
   |simp only[go_sem,seval,a1,a2,a3,a4,a6,a7,a9,q_je a8,q_g,Kz,q_jn d2,d1,d2,d3,d4,k3,show Lp none=-1 from rfl,(show (0:Int)<=((c.tk k).p:Int) by omega),(show ((c.tk k).p:Int)<=(c.tx.length:Int) by omega),(show (c.tk k).p<=c.tx.length by omega),(show (0:Int)<=(c.tx.length:Int) by omega),Int.le_refl,q_ja,wp (a:=(c.tk k).p) (b:=p) (by omega),forall_const]
   |refine Ai ci ?_
   |refine Ae co ?_
   |refine Ai cc ?_
   |refine Ae cn ?_
   |refine Ae cr ?_
   |refine Ai cp ?_
  |some q=>
   obtain⟨q1,q2,q3⟩:=hg.cl k q h hq;obtain⟨b1,b2,b3,b4,b6,b7,b8,b9⟩:=qAt hn (show q-1<c.L.length by omega);have hqp:=hg.p (q-1) (by omega);have hE:Ep c k=(c.tk (q-1)).p+(c.tk (q-1)).w.length:=by unfold Ep;rw[hq]
   have Nx:IntKind.i64.wrap ((q:Int)-1)=((q-1:Nat):Int):=by rw[w64 (by unfold fit;omega)];omega
   have Ib:=wp (a:=(c.tk (q-1)).p) (b:=(c.tk (q-1)).w.length) (by omega);rw[hE] at cr |-;rw[hq] at cc;rw[show (some q).getD 0=q from rfl];rw[hE] at hr hend;generalize (c.tk (q-1)).p+(c.tk (q-1)).w.length=E at *
   cases hz:Hu ((c.tx.drop (c.tk k).p).take (E-(c.tk k).p)) (Gn n) 0 0 with
   |mk t o=>
    rw[hz] at cr;cases o with
    |none=>
     refine Cl mixed Tryz.func79 tr79 ?_;unfold Ch at ci cc |-;unfold nmG at cn cr
     repeat' first
     |simp only[go_sem,seval,a1,a2,a3,a4,a6,a7,a9,q_je a8,q_g,Kz,q_jn d2,d1,d2,d3,d4,k3,show Lp (some q)=(q:Int) from rfl,q_jn (show (q:Int) > 0 by omega),Nx,Ib,b1,b2,b3,b4,b9,(show (0:Int)<=((c.tk k).p:Int) by omega),(show ((c.tk k).p:Int)<=(E:Int) by omega),(show (E:Int)<=(c.tx.length:Int) by omega),(show (0:Int)<=(E:Int) by omega),hend.1,hend.2,forall_const]
     |refine Ai ci ?_
     |refine Ae co ?_
     |refine Ai cc ?_
     |refine Ae cn ?_
     |refine Ae cr ?_
    |some p=>
     have Fo:=hr p t hz;have cp:=Py (c:=c) (s:=⟨k,false,a⟩) ((c.tk k).p+p);refine Hs ?_;refine Cl mixed Tryz.func79 tr79 ?_;unfold Ch at ci cc cp |-;unfold nmG at cn cr
     repeat' first
     |simp only[go_sem,seval,a1,a2,a3,a4,a6,a7,a9,q_je a8,q_g,Kz,q_jn d2,d1,d2,d3,d4,k3,show Lp (some q)=(q:Int) from rfl,q_jn (show (q:Int) > 0 by omega),Nx,Ib,b1,b2,b3,b4,b9,(show (0:Int)<=((c.tk k).p:Int) by omega),(show ((c.tk k).p:Int)<=(E:Int) by omega),(show (E:Int)<=(c.tx.length:Int) by omega),(show (0:Int)<=(E:Int) by omega),hend.1,hend.2,wp (a:=(c.tk k).p) (b:=p) (by omega),forall_const]
     |refine Ai ci ?_
     |refine Ae co ?_
     |refine Ai cc ?_
     |refine Ae cn ?_
     |refine Ae cr ?_
     |refine Ai cp ?_
 ·rw[ho] at co;rw[show Cm c n pl ⟨k,false,a⟩=(zR,Ey c ⟨k,false,a⟩ (k+1)) from (if_pos ⟨rfl,h⟩).trans (if_pos ⟨Fh,h1,Hf,ho⟩)];refine Hs ?_;refine Cl mixed Tryz.func79 tr79 ?_;unfold Ch at ci cf1 |-
  repeat' first
  |simp only[go_sem,seval,a1,a2,a3,a4,a6,a7,a9,q_je a8,q_g,Kz,q_jn d2,d1,d2,d3,d4,k3,forall_const]
  |refine Ai ci ?_
  |refine Ae co ?_
  |refine Ai cf1 ?_
end
end Go.Proofs.YtgfehkhcmnfpaaaGreatDoor.Abs
