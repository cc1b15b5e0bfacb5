import Derived.Test.YtgdkddjdhijfnaaGreatDoorXEv
import Derived.Test.YtgdkddjdhijfnaaGreatDoorXDo
import Derived.Test.YtgdkddjdhijfnaaGreatDoorXPs
import Derived.Test.YtgdkddjdhijfnaaGreatDoorXFg
import Derived.Test.YtgdkddjdhijfnaaGreatDoorXPq
import Derived.Test.YtgdkddjdhijfnaaGreatDoorProg
import Derived.KernelRfl
import Derived.Test.YtgdkddjdhijfnaaGreatDoorXMb
import Derived.Test.YtgdkddjdhijfnaaGreatDoorXPc
set_option linter.all false
set_option maxRecDepth 20000
set_option maxHeartbeats 4000000
namespace Go.Proofs.YtgdkddjdhijfnaaGreatDoor.Abs
open Go Go.RowKit
inductive LeD:SV->SV->Prop
 |refl (v:SV):LeD v v
 |nils (sz:Nat):LeD .nils (.dsl sz [])
 |dsl (sz:Nat) (l r:GV):l.length=r.length->(∀x∈r,x.length=sz)->(∀(j:Nat) a b,l.flatten[j]?=some a->r.flatten[j]?=some b->LeD a b)->LeD (.dsl sz l) (.dsl sz r)
 |agg (l r:List SV):l.length=r.length->(∀(j:Nat) a b,l[j]?=some a->r[j]?=some b->LeD a b)->LeD (.agg true l) (.agg true r)
def LeD.rep{m:Mem}{a b:SV}(h:LeD a b):∀{v:Value},Rep m v a->Rep m v b:=by
 induction h with
 |refl v=>exact fun h=>h
 |nils sz=>intro v hr;cases hr;exact .dsl0 _ _ _
 |dsl sz l r hl hw _ ih=>
  intro v hr;cases hr with
  |dsl0 _ A cap=>
   have:r=[]:=q_lb.1 (by simpa using hl.symm);subst this;exact .dsl0 _ _ _
  |dsl _ _ cap b off vs h0 h1 h2 h3 h4 h5 h6=>
   have f1:l.flatten.length=l.length*sz:=Jk h3;have f2:r.flatten.length=r.length*sz:=Jk hw;rw[hl];refine .dsl sz r cap b off vs h0 (by omega) (by omega) hw (by rw[h4,f1,f2,hl]) h5 (fun j v y hv hy=>?_);have hj:j<l.flatten.length:=by
    have:=(q_jm.1 hv).1;omega
   exact ih j _ y (q_f hj) hy (h6 j v _ hv (q_f hj))
 |agg l r hl _ ih=>
  intro v hr;cases hr with
  |agg vs _ h0 h1 h2=>
   refine .agg vs r h0 (by omega) (fun j v y hv hy=>?_);have hj:j<l.length:=by
    have:=(q_jm.1 hv).1;omega
   exact ih j _ y (q_f hj) hy (h2 j v _ hv (q_f hj))
def LeDs(l r:List SV):Prop:=l.length=r.length/\∀(j:Nat) a b,l[j]?=some a->r[j]?=some b->LeD a b
def LeDs.nil:LeDs [] []:=⟨rfl,fun j a b h=>by simp at h⟩
def LeDs.cons{a b:SV}{l r:List SV}(h:LeD a b)(k:LeDs l r):LeDs (a::l) (b::r):=by
 refine⟨by simp[k.1],fun j x y hx hy=>?_⟩;cases j with
 |zero=>simp at hx hy;subst hx hy;exact h
 |succ j=>exact k.2 j x y (by simpa using hx) (by simpa using hy)
def LeDs.refl(l:List SV):LeDs l l:=⟨rfl,fun j a b h k=>by rw[h] at k;cases k;exact .refl _⟩
def LeDs.app{l r l' r':List SV}(h:LeDs l r)(k:LeDs l' r'):LeDs (l++l') (r++r'):=by
 refine⟨by simp[h.1,k.1],fun j x y hx hy=>?_⟩
 by_cases hj:j<l.length
 ·rw[q_jf hj] at hx;rw[q_jf (by rw[<-h.1];exact hj)] at hy;exact h.2 j x y hx hy
 ·rw[q_jj (by omega)] at hx;rw[q_jj (by rw[<-h.1];omega)] at hy;rw[<-h.1] at hy;exact k.2 _ x y hx hy
def LeD.agg'{l r:List SV}(h:LeDs l r):LeD (.agg true l) (.agg true r):=.agg _ _ h.1 h.2
inductive Acj(sz:Nat):GV->GV->Prop
 |nil:Acj sz [] []
 |cons {a b:List SV} {l r:GV}:b.length=sz->LeDs a b->Acj sz l r->Acj sz (a::l) (b::r)
def LeD.rows{sz:Nat}{l r:GV}(h:Acj sz l r):LeD (.dsl sz l) (.dsl sz r):=by
 have key:l.length=r.length/\(∀x∈r,x.length=sz)/\LeDs l.flatten r.flatten:=by
  induction h with
  |nil=>exact⟨rfl,by simp,.nil⟩
  |cons hb h _ ih=>
   obtain⟨i1,i2,i3⟩:=ih;refine⟨by simp[i1],fun x hx=>?_,?_⟩
   ·rcases q_kb.1 hx with rfl|hx
    ·exact hb
    ·exact i2 x hx
   ·rw[List.flatten_cons,List.flatten_cons];exact h.app i3
 exact .dsl _ _ _ key.1 key.2.1 key.2.2.2
def Contract.argsD{P:Program}{f:Nat}{args args':List SV}{r:SV}(h:Contract P f args r)(hl:LeDs args' args):Contract P f args' r:=by
 intro m w vs h1 h2 h3;refine h m w vs h1 (by rw[h2,hl.1]) (fun j v y hv hy=>?_);have hj:j<args'.length:=by
  have:=(q_jm.1 hv).1;omega
 exact (hl.2 j _ y (q_f hj) hy).rep (h3 j v _ hv (q_f hj))
open Go Go.RowKit Go.Proofs.YtgdkddjdhijfnaaGreatDoor
def zt:Tm:=.mk 0 0 0 0 []
def Bja:TOk zt:=.mk _ _ _ _ _ (by unfold fit;omega) (by unfold fit;omega) (by unfold fit;omega) (by unfold fit;omega) (by simp) (fun t ht=>by cases ht)
def Wz(t:Tm)(m d z:Int):Prop:=Con 43 [.agg true (tv t),.int .i64 m,.int .i64 d] (.int .i64 z) /\
 (0<=m->m<=1000000->-1<=d->d<=1000->1<=z/\z<=m+1/\(z<=m->z=(tsz t:Int)))
def A1y(t:Tm):TOk t->∀m d,∃z,Wz t m d z:=by
 induction t using Tm.ind with
 |h k i j n l ih=>
  intro hok m d;obtain⟨f1,f2,f3,f4,hb,hl⟩:=Ww hok;unfold Wz;rw[As]
  by_cases hd:d<0
  ·refine⟨_,Bkt k i j n m d _ hd,fun h1 h2 h3 h4=>?_⟩;rw[w64 (by unfold fit;omega)];exact⟨by omega,by omega,fun h=>by omega⟩
  ·have H:∀(t:Tm) (m d:Int),∃z,t∈l->Wz t m d z:=fun t m d=>by
    by_cases ht:t∈l
    ·obtain⟨z,hz⟩:=ih t ht (hl t ht) m d;exact⟨z,fun _=>hz⟩
    ·exact⟨0,fun h=>absurd h ht⟩
   obtain⟨Z,hZ⟩:∃Z:Tm->Int->Int->Int,∀t∈l,∀m d,Wz t m d (Z t m d):=⟨fun t m d=>Classical.choose (H t m d),fun t ht m d=>Classical.choose_spec (H t m d) ht⟩
   have hW:∀r∈l.map tv,∀m d,Con 43 [.agg true r,.int .i64 m,.int .i64 d] (.int .i64 (onT Z (fun _ _=>0) r m d)):=fun r hr m d=>by
    obtain⟨t,ht,rfl⟩:=q_lc.1 hr;rw[Jg];exact (hZ t ht m d).1
   obtain⟨x,Jp,hx2,Ri⟩:=least (fun x=>m<Ov (onT Z (fun _ _=>0)) (l.map tv) m (IntKind.i64.wrap (d-1)) x) (l.map tv).length;refine⟨_,Bku k i j n m d (l.map tv) _ (by simpa using hb) (rows5 l) hW hd x Jp hx2 Ri,fun h1 h2 h3 h4=>?_⟩;rw[Aks];have e1:IntKind.i64.wrap (d-1)=d-1:=w64 (by unfold fit;omega);rw[e1];have Ai8:∀y,y<x->Eh 1 (fun y m=>onT Z (fun _ _=>0) ((l.map tv)[y]?.getD []) m (d-1)) m y<=m:=fun y hy=>by
    have:=Ri y hy;rw[Aks,e1] at this;omega
   have Av:(l.map tv).length=l.length:=by simp
   have Cc:∀y,y<l.length->(l.map tv)[y]?.getD []=tv (l[y]?.getD default):=fun y hy=>by
    rw[q_ji,q_f hy];rfl
   obtain⟨_,k0,k2,k3⟩:=Bij (a:=1) (V:=fun y m=>onT Z (fun _ _=>0) ((l.map tv)[y]?.getD []) m (d-1)) (T:=fun y=>tsz (l[y]?.getD default)) (most:=m) (n:=l.length) (by omega) (by omega) h1 h2 (fun y hy m' Ps hm2=>by
    simp only[Cc y hy,Jg];obtain⟨_,g⟩:=hZ _ (Hi (d:=default) hy) m' (d-1);exact g Ps hm2 (by omega) (by omega)) x (by omega) Ai8
   refine⟨k0,k2,fun hz=>?_⟩;rw[k3 hz,Ia,<-Asw];have:x=l.length:=by
    rcases hx2 with h|h
    ·omega
    ·rw[Aks,e1] at h;omega
   subst this;omega
def Am5{t:Tm}(ht:TOk t){m:Int}(h0:0<=m)(h1:m<=1000000):∃z,Con 27 [.agg true (tv t),.int .i64 m] (.bool z)/\(z=false->(tsz t:Int)<=m):=by
 obtain⟨z,hz,h⟩:=A1y t ht m 200;refine⟨decide (m<z),Au mixed Tryz.func27 tr27 ?_,fun he=>?_⟩
 ·have h5:=Ch t
  repeat' first
   |simp (config:={ maxSteps:=2000000 }) only[go_sem,seval,h5]
   |refine Af (hz) ?_
   |rfl
 ·have h2:¬m<z:=q_ky he;obtain⟨_,_,h3⟩:=h h0 h1 (by decide) (by decide);have:=h3 (by omega);omega
def Bdj(t:Tm):∀x∈[SV.agg true (tv t)],NoG x:=by
 intro x hx;simp only[q_kb,q_kc,or_false] at hx;subst hx;exact Qd t true
section
variable{B:BT}
end
section
variable{B:BT}
def Ats{b:Nat}{t:Tm}(h:Sf b t):∀{c:Nat},b<=c->Sf c t:=by
 induction h with
 |var h=>intro c hc;exact .var (by omega)
 |nd i j n h2 h0 hf hl _ ih=>intro c hc;exact .nd i j n h2 h0 hf hl (fun p t ht=>ih p t ht (by omega))
end
section
variable{B:BT}
def Bdd{t:Tm}(h:Nm B t):∀{C:Nat},Sf C t->HN (Bm B) t:=by
 induction h with
 |@mk t h hk ih=>
  intro C hs;refine .mk h (fun p hp=>?_);obtain⟨_,_,hl,_⟩:=Rr hs hp;have hq:t.kids[p]?=some (Ap t p):=by
   unfold Ap;rw[q_j,q_f hl];rfl
  exact ih p _ hq (Ho hs hl)
def Bfv{N:Nat}:∀{l:List Tm},(∀s∈l,PNx B (.inl s) N false N false (.inl s))->PNx B (.inr l) N false N false (.inr l):=by
 intro l
 induction l with
 |nil=>intro _;exact .nil
 |cons a l ih=>intro h;exact .cons (h a (List.mem_cons_self ..)) (ih fun s hs=>h s (List.mem_cons_of_mem _ hs))
def Bdi{t:Tm}(h:Nm B t):∀{C:Nat},Sf C t->∀N,PNx B (.inl t) N false N false (.inl t):=by
 induction h with
 |@mk t h hk ih=>
  intro C hs N;have hn:=Bdd (.mk h hk) hs;cases t with
  |mk k i j n l=>
   refine .tm (.stop hn) (Bfv fun s hm=>?_);obtain⟨p,hp⟩:=q_jw hm;exact ih p s hp (hs.kid hp) N
end
def vZ(i:Int):Tm:=.mk 2 i 0 0 []
def Bjx(i:Nat):vZ (i:Int)=vT i:=rfl
def unf(d b:Nat)(l:Int):Tm:=vZ ((d:Int)+b-1-l)
def unl(d b:Nat)(t:Tm):Tm:=trT (fun _ i=>vT i) (unf d) b t
def Bjg{f:Nat->Int->Tm}{B:Nat}{t:Tm}(h:Sf B t):∀b,trT (fun _ i=>vT i) f b t=t:=by
 induction h with
 |var h=>intro b;rw[Cz]
 |@nd B k i j n l h2 h0 hf hl _ ih=>
  intro b;rw[Ev h2 h0];congr 1;apply List.ext_getElem?;intro q;rw[Fm];cases hq:l[q]? with
  |none=>rfl
  |some t=>simp only[q_jh];rw[ih q t hq]
def Auu{B:Nat}{t:Tm}(h:Sf B t)(d b:Nat):unl d b (lvB d b t)=t:=by
 have:=Aum (v1:=lvv d) (f1:=fun _ l=>fT l) (v2:=fun _ i=>vT i) (f2:=unf d) (v:=fun _ i=>vT i) (f:=unf d) (fun b i=>?_) (fun b l=>Ij _ _) t b
 ·exact this.trans (Bjg h b)
 ·unfold lvv
  by_cases c:i<b
  ·rw[if_pos c,Cz]
  ·rw[if_neg c,Ij];unfold unf;rw[<-Bjx i];congr 1;omega
def Jn(B:BT)(t u:Tm):Prop:=∃w,Prs B t w/\Prs B u w
def Eqv(B:BT)(d:Nat)(eta:Bool)(X Y:Tm)(b:Bool):Prop:=∀(C:Nat) (t u:Tm),X=lv d t->Y=lv d u->Sf C t->Sf C u->if eta then (∀r s,Nf B t r->Nf B u s->b=Alk r s) else (b=true->Jn B t u)
section
variable{B:BT}{d:Nat}{eta:Bool}{X Y:Tm}{b:Bool}
def Jn.nf(hB:Bz B){C:Nat}{t u r s:Tm}(h:Jn B t u)(s1:Sf C t)(s2:Sf C u)(n1:Nf B t r)(n2:Nf B u s):r=s:=by
 obtain⟨w,h1,h2⟩:=h;exact (n1.back hB s1 h1).one hB (Afg hB h1 s1) (n2.back hB s2 h2)
def Bco{C D:Nat}{t u:Tm}(ht:Sf C t)(hu:Sf D u)(h:lv d t=lv d u):t=u:=by
 rw[<-Auu ht d 0,<-Auu hu d 0];exact congrArg _ h
def Eqv.of_join (hB:Bz B)(h:Eqv B d false X Y true):Eqv B d eta X Y true:=by
 cases eta with
 |false=>exact h
 |true=>
  intro C t u h1 h2 s1 s2;rw[if_pos rfl];intro r s n1 n2;have h3:=h C t u h1 h2 s1 s2;rw[if_neg (by decide)] at h3;have:=(h3 rfl).nf hB s1 s2 n1 n2;subst this;exact (Yz r).symm
def Eqv.refl(hB:Bz B):Eqv B d eta X X true:=by
 refine .of_join hB fun C t u h1 h2 s1 s2=>?_
 rw[if_neg (by decide)];intro _;have:=Bco s1 s2 (h1.symm.trans h2);subst this;exact⟨t,.refl t,.refl t⟩
def Eqv.no:Eqv B d false X Y false:=fun _ _ _ _ _ _ _=>by simp
def Eqv.pre(hB:Bz B){n n':Nat}{X' Y':Tm}(h1:HR (plD B) n X X')(h2:HR (plD B) n' Y Y')(h:Eqv B d eta X' Y' b):Eqv B d eta X Y b:=by
 intro C t u e1 e2 s1 s2;obtain⟨t',e3,s3,p3⟩:=Aed hB h1 e1 s1;obtain⟨u',e4,s4,p4⟩:=Aed hB h2 e2 s2;have h:=h C t' u' e3 e4 s3 s4;cases eta with
 |true=>rw[if_pos rfl] at h |-;exact fun r s n1 n2=>h r s (n1.back hB s1 p3) (n2.back hB s2 p4)
 |false=>rw[if_neg (by decide)] at h |-;exact fun hb=>by obtain⟨w,h1,h2⟩:=h hb;exact⟨w,p3.trans h1,p4.trans h2⟩
def Eqv.symm(h:Eqv B d eta X Y b):Eqv B d eta Y X b:=by
 intro C t u e1 e2 s1 s2;have:=h C u t e2 e1 s2 s1;cases eta with
 |true=>rw[if_pos rfl] at this |-;exact fun r s n1 n2=>by rw[Alh];exact this s r n2 n1
 |false=>rw[if_neg (by decide)] at this |-;exact fun hb=>by obtain⟨w,h1,h2⟩:=this hb;exact⟨w,h2,h1⟩
def Bcp(u:Tm):lv (d+1) (Ct 1 u)=lv d u:=by
 have:=Ox (v1:=lfv 1) (f1:=fun _ l=>fT l) (v2:=lvv (d+1)) (f2:=fun _ l=>fT l) (v:=lvv d) (f:=fun _ l=>fT l) 0 0 (fun b' i=>?_) (fun b' l=>Ij _ _) u 0
 ·simpa [lvB,Ct,lv] using this
 ·simp only[q_jp];unfold lfv lvv
  by_cases h:i<b'
  ·rw[if_pos h,Cz,if_pos h,if_pos h]
  ·rw[if_neg h,Cz,if_neg (by omega),if_neg h];congr 1;omega
def Bcn(u:Tm):lv (d+1) (apT u)=.mk 15 0 0 0 [lv d u,fT d]:=by
 unfold apT lv;rw[Wp (by decide) (by decide)];rw[show trL (lvv (d+1)) (fun _ l=>fT l) 0 15 0 [Ct 1 u,vT 0]=[lvB (d+1) 0 (Ct 1 u),lvB (d+1) 0 (vT 0)] from rfl];rw[show lvB (d+1) 0 (Ct 1 u)=lv d u from Bcp u];rw[show lvB (d+1) 0 (vT 0)=fT d from ?_]
 ·rfl
 unfold lvB;rw[Cz,lvv,if_neg (by omega)];congr 1;omega
def Bcq{k:Int}(hk:k=18\/k=19)(u:Tm):lv d (ptT k u)=.mk k 0 0 0 [lv d u]:=by
 unfold ptT lv;rw[Wp (by omega) (by omega)];rcases hk with rfl|rfl<;>rfl
def Arn{C:Nat}{t:Tm}(h:Sf C t):((lv d t).k=0/\t.k=2)\/((lv d t).k=t.k/\t.k≠2/\t.k≠0):=by
 by_cases h2:t.k=2
 ·obtain⟨i,_,e⟩:=Wq (d:=d) h h2;exact .inl ⟨by rw[e];rfl,h2⟩
 ·exact .inr ⟨(lv_k h h2).1,h2,sf_k h⟩
def Rk{C:Nat}{t:Tm}(h:Sf C t){c:Int}(hc:c≠0)(hk:(lv d t).k=c):t.k=c/\c≠2:=by
 rcases Arn (d:=d) h with⟨e,_⟩|⟨e,e2,_⟩
 ·exact absurd (hk.symm.trans e) hc
 ·have:=e.symm.trans hk;exact⟨this,by rw[<-this];exact e2⟩
def Sw{C:Nat}{t:Tm}(h:Sf C t){c:Int}(hc:c≠2)(hk:(lv d t).k≠c):t.k≠c:=by
 intro e;rcases Arn (d:=d) h with⟨_,e2⟩|⟨e1,_⟩
 ·exact hc (e.symm.trans e2)
 ·exact hk (e1.trans e)
def len14{C:Nat}{t:Tm}(h:Sf C t)(hk:t.k=14):t.kids.length=2:=by
 have:=Hg h (by omega);rw[hk,kids14] at this;omega
def len17{C:Nat}{t:Tm}(h:Sf C t)(hk:t.k=17):t.kids.length=4:=by
 have:=Hg h (by omega);rw[hk,kids17] at this;omega
def Acr(hB:Bz B){C:Nat}{t r:Tm}(hs:Sf C t)(hn:HN (plD B) (lv d t))(h:Nf B t r) :
  (t.k=14->lv (d+1) (ap0 t)=Bc (Ea d 1) 0 (Ap (lv d t) 1))/\(t.k≠14->lv (d+1) (ap0 t)=.mk 15 0 0 0 [lv d t,fT d])/\Sf (C+1) (ap0 t)/\Nf B (ap0 t) (ap0 r)/\(r.k=14↔t.k=14):=by
 have Ja:=Ye hB hs hn;obtain⟨hk,_⟩:=Uo hB hs Ja h;refine⟨fun h14=>?_,fun h14=>?_,My hs,?_,by rw[hk]⟩
 ·have hl:=len14 hs h14;unfold ap0;rw[if_pos h14,Nt hs (by omega) (by omega),h14,show bnd 14 1=1 by decide,Aj1]
 ·unfold ap0;rw[if_neg h14,Bcn]
 ·unfold ap0;rw[hk]
  by_cases h14:t.k=14
  ·rw[if_pos h14,if_pos h14];exact Arv hB hs Ja h (by rw[len14 hs h14];decide)
  ·rw[if_neg h14,if_neg h14];exact Bc9 hB hs Ja h14 h
def Asz(hB:Bz B){C:Nat}{t r:Tm}{k:Int}{p:Nat}(Nl:k=18/\p=2\/k=19/\p=3)(hs:Sf C t)(hn:HN (plD B) (lv d t))(h:Nf B t r) :
  (t.k=17->lv d (pt0 k p t)=Ap (lv d t) p)/\(t.k≠17->lv d (pt0 k p t)=.mk k 0 0 0 [lv d t])/\Sf C (pt0 k p t)/\Nf B (pt0 k p t) (pt0 k p r)/\(r.k=17↔t.k=17):=by
 have Ja:=Ye hB hs hn;obtain⟨hk,_⟩:=Uo hB hs Ja h;refine⟨fun h17=>?_,fun h17=>?_,Gf hs k p Nl,?_,by rw[hk]⟩
 ·have hl:=len17 hs h17;unfold pt0;rw[if_pos h17,Nt hs (by omega) (by omega),h17,show bnd 17 p=0 by rcases Nl with⟨_,rfl⟩|⟨_,rfl⟩<;>decide];rfl
 ·unfold pt0;rw[if_neg h17,Bcq (by omega)]
 ·unfold pt0;rw[hk]
  by_cases h17:t.k=17
  ·rw[if_pos h17,if_pos h17];exact Arv hB hs Ja h (by rw[len17 hs h17];omega)
  ·rw[if_neg h17,if_neg h17];exact Bda hB (by omega) hs Ja h17 h
def apL(d:Nat)(X:Tm):Tm:=if X.k=14 then Bc (Ea d 1) 0 (Ap X 1) else .mk 15 0 0 0 [X,fT d]
def ptL(k:Int)(p:Nat)(X:Tm):Tm:=if X.k=17 then Ap X p else .mk k 0 0 0 [X]
def Eqv.ap(hB:Bz B)(hx:HN (plD B) X)(hy:HN (plD B) Y)(h14:X.k=14\/Y.k=14)(h:Eqv B (d+1) true (apL d X) (apL d Y) b):Eqv B d true X Y b:=by
 intro C t u e1 e2 s1 s2;subst e1 e2;rw[if_pos rfl];intro r s n1 n2;obtain⟨a1,a2,a3,a4,a5⟩:=Acr hB s1 hx n1;obtain⟨c1,c2,c3,c4,c5⟩:=Acr hB s2 hy n2;have f1:apL d (lv d t)=lv (d+1) (ap0 t):=by
  unfold apL;split
  ·rename_i hk;exact (a1 (Rk s1 (by decide) hk).1).symm
  ·rename_i hk;exact (a2 (Sw s1 (by decide) hk)).symm
 have f2:apL d (lv d u)=lv (d+1) (ap0 u):=by
  unfold apL;split
  ·rename_i hk;exact (c1 (Rk s2 (by decide) hk).1).symm
  ·rename_i hk;exact (c2 (Sw s2 (by decide) hk)).symm
 have:=h (C+1) _ _ f1 f2 a3 c3;rw[if_pos rfl] at this;rw[this _ _ a4 c4];refine (Acf (n1.sf hB s1) (n2.sf hB s2) ?_).symm;rcases h14 with h|h
 ·exact .inl (a5.2 (Rk s1 (by decide) h).1)
 ·exact .inr (c5.2 (Rk s2 (by decide) h).1)
def Eqv.pt(hB:Bz B)(hx:HN (plD B) X)(hy:HN (plD B) Y)(hx4:X.k≠14)(hy4:Y.k≠14)(h17:X.k=17\/Y.k=17){b1 b2:Bool}(h1:Eqv B d true (ptL 18 2 X) (ptL 18 2 Y) b1)(h2:b1=true->Eqv B d true (ptL 19 3 X) (ptL 19 3 Y) b2):Eqv B d true X Y (b1 && b2):=by
 intro C t u e1 e2 s1 s2;subst e1 e2;rw[if_pos rfl];intro r s n1 n2;have key:∀{k:Int} {p:Nat} {b:Bool},(k=18/\p=2\/k=19/\p=3)->Eqv B d true (ptL k p (lv d t)) (ptL k p (lv d u)) b->b=Alk (pt0 k p r) (pt0 k p s)/\(r.k=17↔t.k=17)/\(s.k=17↔u.k=17):=by
  intro k p b Nl h;obtain⟨a1,a2,a3,a4,a5⟩:=Asz hB Nl s1 hx n1;obtain⟨c1,c2,c3,c4,c5⟩:=Asz hB Nl s2 hy n2;have f1:ptL k p (lv d t)=lv d (pt0 k p t):=by
   unfold ptL;split
   ·rename_i hk;exact (a1 (Rk s1 (by decide) hk).1).symm
   ·rename_i hk;exact (a2 (Sw s1 (by decide) hk)).symm
  have f2:ptL k p (lv d u)=lv d (pt0 k p u):=by
   unfold ptL;split
   ·rename_i hk;exact (c1 (Rk s2 (by decide) hk).1).symm
   ·rename_i hk;exact (c2 (Sw s2 (by decide) hk)).symm
  have:=h C _ _ f1 f2 a3 c3;rw[if_pos rfl] at this;exact⟨this _ _ a4 c4,a5,c5⟩
 obtain⟨k1,k2,k3⟩:=key (.inl ⟨rfl,rfl⟩) h1;have r14:¬(r.k=14\/s.k=14):=by
  have q1:=(Acr hB s1 hx n1).2.2.2.2;have q2:=(Acr hB s2 hy n2).2.2.2.2;rintro (h|h)
  ·exact Sw s1 (by decide) hx4 (q1.1 h)
  ·exact Sw s2 (by decide) hy4 (q2.1 h)
 rw[Agh (n1.sf hB s1) (n2.sf hB s2) r14 ?_,<-k1]
 ·cases b1 with
  |false=>rfl
  |true=>rw[q_lf,q_lf,(key (.inr ⟨rfl,rfl⟩) (h2 rfl)).1]
 ·rcases h17 with h|h
  ·exact .inl (k2.2 (Rk s1 (by decide) h).1)
  ·exact .inr (k3.2 (Rk s2 (by decide) h).1)
def EqvL(B:BT)(d:Nat)(eta:Bool)(k:Int)(p:Nat)(l m:List Tm)(b:Bool):Prop:=l.length=m.length /\
 ((b=true/\∀(q:Nat) x y,l[q]?=some x->m[q]?=some y->Eqv B (d+bnd k (p+q)) eta (Bc (Ea d (bnd k (p+q))) 0 x) (Bc (Ea d (bnd k (p+q))) 0 y) true) \/
  (b=false/\∃(q:Nat) (x y:Tm),l[q]?=some x/\m[q]?=some y/\Eqv B (d+bnd k (p+q)) eta (Bc (Ea d (bnd k (p+q))) 0 x) (Bc (Ea d (bnd k (p+q))) 0 y) false))
def EqvL.nil{k:Int}{p:Nat}:EqvL B d eta k p [] [] true:=⟨rfl,.inl ⟨rfl,fun q x y h=>by cases h⟩⟩
def EqvL.stop{k:Int}{p:Nat}{x y:Tm}{l m:List Tm}(hl:l.length=m.length)(h:Eqv B (d+bnd k p) eta (Bc (Ea d (bnd k p)) 0 x) (Bc (Ea d (bnd k p)) 0 y) false):EqvL B d eta k p (x::l) (y::m) false:=
 ⟨by simp[hl],.inr ⟨rfl,0,x,y,rfl,rfl,h⟩⟩
def EqvL.cons{k:Int}{p:Nat}{x y:Tm}{l m:List Tm}(h:Eqv B (d+bnd k p) eta (Bc (Ea d (bnd k p)) 0 x) (Bc (Ea d (bnd k p)) 0 y) true)(hl:EqvL B d eta k (p+1) l m b):EqvL B d eta k p (x::l) (y::m) b:=by
 obtain⟨h1,h2⟩:=hl;refine⟨by simp[h1],?_⟩;rcases h2 with⟨rfl,h2⟩|⟨rfl,q,x',y',a1,a2,a3⟩
 ·refine .inl ⟨rfl,fun q x' y' hx hy=>?_⟩;cases q with
  |zero=>cases hx;cases hy;exact h
  |succ q=>
   have:=h2 q x' y' (by simpa using hx) (by simpa using hy)
   rwa [show p+1+q=p+(q+1) by omega] at this
 ·refine .inr ⟨rfl,q+1,x',y',by simpa using a1,by simpa using a2,?_⟩
  rwa [show p+1+q=p+(q+1) by omega] at a3
def Ajq{C:Nat}{t:Tm}(h:Sf C t)(h2:t.k≠2){p:Nat}{x:Tm}(hx:(lv d t).kids[p]?=some x):∃s,t.kids[p]?=some s/\Bc (Ea d (bnd t.k p)) 0 x=lv (d+bnd t.k p) s:=by
 have hl:=(lv_k (d:=d) h h2).2.2.2.2;have hp:p<t.kids.length:=by rw[<-hl];exact Dh hx
 refine⟨Ap t p,Adf hp,?_⟩;rw[<-Aj1,<-Nt h h2 hp,Aq5 hx]
def Aru{C:Nat}{t u:Tm}(s1:Sf C t)(s2:Sf C u)(hk:(lv d t).k=(lv d u).k)(hi:(lv d t).i=(lv d u).i)(hj:(lv d t).j=(lv d u).j)(hn:(lv d t).n=(lv d u).n)(h0:(lv d t).k≠0)(hl:(lv d t).kids.length=(lv d u).kids.length) :
  (t.k=u.k/\t.i=u.i/\t.j=u.j/\t.n=u.n/\t.kids.length=u.kids.length/\(lv d t).k=t.k)/\(∀(p:Nat) x,(lv d t).kids[p]?=some x->∃s,t.kids[p]?=some s/\Bc (Ea d (bnd t.k p)) 0 x=lv (d+bnd t.k p) s/\Sf (C+bnd t.k p) s) /\
   (∀(p:Nat) x,(lv d u).kids[p]?=some x->∃s,u.kids[p]?=some s/\Bc (Ea d (bnd t.k p)) 0 x=lv (d+bnd t.k p) s/\Sf (C+bnd t.k p) s)/\(lv d t).kids.length=t.kids.length/\t.k≠2:=by
 obtain⟨kt,k2⟩:=Rk s1 h0 rfl;obtain⟨ku,_⟩:=Rk s2 (c:=(lv d t).k) h0 hk.symm;rw[<-kt] at k2;have hut:u.k=t.k:=ku.trans kt.symm;have ku2:u.k≠2:=by rw[hut];exact k2
 obtain⟨_,t1,t2,t3,t4⟩:=lv_k (d:=d) s1 k2;obtain⟨_,u1,u2,u3,u4⟩:=lv_k (d:=d) s2 ku2;refine⟨⟨hut.symm,by rw[<-t1,<-u1];exact hi,by rw[<-t2,<-u2];exact hj,by rw[<-t3,<-u3];exact hn,by rw[<-t4,<-u4];exact hl,kt.symm⟩,fun p x hx=>?_,fun p x hx=>?_,t4,k2⟩
 ·obtain⟨s,a1,a2⟩:=Ajq s1 k2 hx;exact⟨s,a1,a2,Ss s1 p _ a1⟩
 ·obtain⟨s,a1,a2⟩:=Ajq s2 ku2 hx;have:=Ss s2 p _ a1;rw[hut] at a2 this;exact⟨s,a1,a2,this⟩
def Bbm{l m:List Tm}:l.length=m.length->(∀(q:Nat) x y,l[q]?=some x->m[q]?=some y->Jn B x y)->∃ws:List Tm,ws.length=l.length/\(∀(q:Nat) x w,l[q]?=some x->ws[q]?=some w->Prs B x w)/\(∀(q:Nat) x w,m[q]?=some x->ws[q]?=some w->Prs B x w):=by
 induction l generalizing m with
 |nil=>intro hm _;cases m with
  |nil=>exact⟨[],rfl,fun q x w h=>(by cases h),fun q x w h=>(by cases h)⟩
  |cons=>cases hm
 |cons a l ih=>intro hm h;cases m with
  |nil=>cases hm
  |cons c m=>
   obtain⟨w,h1,h2⟩:=h 0 a c rfl rfl;obtain⟨ws,g1,g2,g3⟩:=ih (m:=m) (by simpa using hm) (fun q x y a b=>h (q+1) x y (by simpa using a) (by simpa using b));refine⟨w::ws,by simp[g1],fun q x w' a b=>?_,fun q x w' a b=>?_⟩
   ·cases q with
    |zero=>cases a;cases b;exact h1
    |succ q=>exact g2 q x w' (by simpa using a) (by simpa using b)
   ·cases q with
    |zero=>cases a;cases b;exact h2
    |succ q=>exact g3 q x w' (by simpa using a) (by simpa using b)
def Eqv.ndF(hB:Bz B)(hk:X.k=Y.k)(hi:X.i=Y.i)(hj:X.j=Y.j)(hn:X.n=Y.n)(h0:X.k≠0)(h:EqvL B d false X.k 0 X.kids Y.kids b):Eqv B d false X Y b:=by
 intro C t u e1 e2 s1 s2;subst e1 e2;obtain⟨hl,h⟩:=h;obtain⟨⟨a1,a2,a3,a4,a5,a6⟩,kx,ky,a7,k2⟩:=Aru s1 s2 hk hi hj hn h0 hl;rw[if_neg (by decide)];intro hb;subst hb;rcases h with⟨_,h⟩|⟨h,_⟩
 rotate_left
 ·cases h
 rw[a6] at h;obtain⟨ws,g1,g2,g3⟩:=Bbm (B:=B) (l:=t.kids) (m:=u.kids) a5 (fun q x y hx hy=>by
  have hq:=Dh hx;have e3:=q_f (show q<(lv d t).kids.length by omega);have e4:=q_f (show q<(lv d u).kids.length by omega);have he:=h q _ _ e3 e4;rw[q_jg] at he;obtain⟨x',b1,b2,b3⟩:=kx q _ e3;obtain⟨y',c1,c2,c3⟩:=ky q _ e4;rw[hx,q_b] at b1;rw[hy,q_b] at c1;subst b1 c1;have:=he _ x y b2 c2 b3 c3;rw[if_neg (by decide)] at this;exact this rfl)
 obtain⟨k,i,j,n,l⟩:=t;obtain⟨k',i',j',n',l'⟩:=u;simp only[Tm.k,Tm.i,Tm.j,Tm.n,Tm.kids] at a1 a2 a3 a4 a5 g1 g2 g3 k2;subst a1 a2 a3 a4;exact⟨.mk k i j n ws,Yq hB k2 ws [] l s1 g1 g2,Yq hB k2 ws [] l' s2 (by omega) g3⟩
def Eqv.nd(hB:Bz B)(hx:HN (plD B) X)(hy:HN (plD B) Y)(hk:X.k=Y.k)(hi:X.i=Y.i)(hj:X.j=Y.j)(hn:X.n=Y.n)(h0:X.k≠0)(e14:X.k≠14)(e17:X.k≠17)(h:EqvL B d true X.k 0 X.kids Y.kids b):Eqv B d true X Y b:=by
 intro C t u e1 e2 s1 s2;subst e1 e2;obtain⟨hl,h⟩:=h;obtain⟨⟨a1,a2,a3,a4,a5,a6⟩,kx,ky,a7,k2⟩:=Aru s1 s2 hk hi hj hn h0 hl;rw[if_pos rfl];intro r s n1 n2;obtain⟨r0,r1,r2,r3,r4,r5⟩:=Uo hB s1 (Ye hB s1 hx) n1;obtain⟨q0,q1,q2,q3,q4,q5⟩:=Uo hB s2 (Ye hB s2 hy) n2;rw[a6] at h e14 e17;rw[<-r0] at e14 e17;have Hv:r.k=s.k:=by rw[r0,q0,a1]
 have Ck:r.kids.length=s.kids.length:=by omega
 have key:∀(q:Nat) x y b,(lv d t).kids[q]?=some x->(lv d u).kids[q]?=some y->Eqv B (d+bnd t.k (0+q)) true (Bc (Ea d (bnd t.k (0+q))) 0 x) (Bc (Ea d (bnd t.k (0+q))) 0 y) b ->
   ∀x' y',r.kids[q]?=some x'->s.kids[q]?=some y'->b=Alk x' y':=by
  intro q x y b h1 h2 h3 x' y' g1 g2;rw[q_jg] at h3;obtain⟨x0,a1,a2,sx⟩:=kx q _ h1;obtain⟨y0,b1,b2,sy⟩:=ky q _ h2;have:=h3 _ x0 y0 a2 b2 sx sy;rw[if_pos rfl] at this;exact this _ _ (r5 q _ _ a1 g1) (q5 q _ _ b1 g2)
 rw[Xb (n1.sf hB s1) (n2.sf hB s2) (fun c=>c.elim e14 (by rw[<-Hv];exact e14)) (fun c=>c.elim e17 (by rw[<-Hv];exact e17)),q_jn ⟨Hv,by omega,by omega,by omega⟩,q_lf];have all:∀{l m:List Tm},l.length=m.length->(∀(q:Nat) x y,l[q]?=some x->m[q]?=some y->Alk x y=true)->Ji l m=true:=by
  intro l
  induction l with
  |nil=>intro m hm _;cases m with
   |nil=>rfl
   |cons=>cases hm
  |cons a l ih=>intro m hm h;cases m with
   |nil=>cases hm
   |cons c m=>unfold Ji;rw[h 0 a c rfl rfl,ih (by simpa using hm) (fun q x y g1 g2=>h (q+1) x y (by simpa using g1) (by simpa using g2))];rfl
 have some_:∀{l m:List Tm} {q:Nat} {x y:Tm},l[q]?=some x->m[q]?=some y->Alk x y=false->Ji l m=false:=by
  intro l
  induction l with
  |nil=>intro m q x y h;cases h
  |cons a l ih=>intro m q x y h1 h2 h3;cases m with
   |nil=>cases h2
   |cons c m=>
    unfold Ji;cases q with
    |zero=>cases h1;cases h2;rw[h3];rfl
    |succ q=>rw[ih (q:=q) (by simpa using h1) (by simpa using h2) h3,q_lg]
 rcases h with⟨rfl,h⟩|⟨rfl,q,x,y,g3,g4,h⟩
 ·refine (all Ck fun q x' y' g1 g2=>?_).symm;have hq:=Dh g1;have g3:=q_f (show q<(lv d t).kids.length by omega);have g4:=q_f (show q<(lv d u).kids.length by omega);exact (key q _ _ _ g3 g4 (h q _ _ g3 g4) _ _ g1 g2).symm
 ·have hq:=Dh g3;have g1:=q_f (show q<r.kids.length by omega);have g2:=q_f (show q<s.kids.length by omega);exact (some_ g1 g2 (key q _ _ _ g3 g4 h _ _ g1 g2).symm).symm
def Eqv.diff(hB:Bz B)(hx:HN (plD B) X)(hy:HN (plD B) Y)(he:eta=true->(X.k≠14/\X.k≠17)/\Y.k≠14/\Y.k≠17)(h:¬(X.k=Y.k/\X.i=Y.i/\X.j=Y.j/\X.n=Y.n)):Eqv B d eta X Y false:=by
 cases eta with
 |false=>exact .no
 |true=>
  intro C t u e1 e2 s1 s2;subst e1 e2;rw[if_pos rfl];intro r s n1 n2;obtain⟨⟨x1,x2⟩,y1,y2⟩:=he rfl;obtain⟨r0,r1,r2,r3,r4,r5⟩:=Uo hB s1 (Ye hB s1 hx) n1;obtain⟨q0,q1,q2,q3,q4,q5⟩:=Uo hB s2 (Ye hB s2 hy) n2;have g1:=Sw s1 (by decide) x1;have g2:=Sw s1 (by decide) x2;have g3:=Sw s2 (by decide) y1;have g4:=Sw s2 (by decide) y2;rw[Xb (n1.sf hB s1) (n2.sf hB s2) (by rw[r0,q0];exact fun c=>c.elim g1 g3) (by rw[r0,q0];exact fun c=>c.elim g2 g4),q_je,q_lh];rintro ⟨c1,c2,c3,c4⟩;rw[r0,q0] at c1;rw[r1,q1] at c2;rw[r2,q2] at c3;rw[r3,q3] at c4;apply h
  by_cases h2:t.k=2
  ·obtain⟨i,e1,e2⟩:=Wq (d:=d) s1 h2;obtain⟨i',e3,e4⟩:=Wq (d:=d) s2 (c1.symm.trans h2);subst e1 e3;have:(i:Int)=i':=c2;have:i=i':=by omega
   subst this;exact⟨rfl,rfl,rfl,rfl⟩
  ·obtain⟨a0,a1,a2,a3,_⟩:=lv_k (d:=d) s1 h2;obtain⟨b0,b1,b2,b3,_⟩:=lv_k (d:=d) s2 (by rw[<-c1];exact h2);rw[a0,b0,a1,b1,a2,b2,a3,b3];exact⟨c1,c2,c3,c4⟩
end
open Go Go.Proofs Go.Proofs.YtgdkddjdhijfnaaGreatDoor
def af35:AF:=⟨197,[(.t 4)],(Ab [oP 2 (.box (.t 0)),oP 3 (.box (.t 1)),oP 4 (.mv (cB false))] (.seq (.blk 0 (Ab [oP 11 (Ac 0 2),oP 12 (Ad 11),oP 13 (Aj 12 14),Aa 14 13,oG 15 14 true 0 (Ac 0 3),oG 16 14 true 0 (Ad 15),oG 17 14 true 0 (Aj 16 14),oP 18 (Az 14 17),Aa 10 18] (Ae 10 (Ce [oP 19 (Ac 4 2),oI 20 1 (Ad 19),oI 21 2 (.iad 5 (.t 20) (cI 1)),oI 22 3 (Ak 5 21),oI 23 4 (Ac 4 3),oI 24 5 (Ad 23),oI 25 6 (.iad 5 (.t 24) (cI 1)),oI 26 7 (Ak 5 25),oI 27 8 (.call 35 [(.t 22),(.t 26)]),oI 4 9 (mT 27)] .ret) (Ab [oP 29 (Ac 0 2),oP 30 (Ad 29),oP 31 (Aj 30 17),Aa 32 31,oG 33 32 true 0 (Ac 0 3),oG 34 32 true 0 (Ad 33),oG 35 32 true 0 (Aj 34 17),oP 36 (Az 32 35),Aa 28 36] (Ae 28 (Ce [oP 37 (Ac 4 2),oI 38 1 (Ad 37),oI 39 2 (.iad 5 (.t 38) (cI 2)),oI 40 3 (Ak 5 39),oI 41 4 (Ac 4 3),oI 42 5 (Ad 41),oI 43 6 (.iad 5 (.t 42) (cI 2)),oI 44 7 (Ak 5 43),oI 45 8 (.call 35 [(.t 40),(.t 44)]),oI 46 9 (mT 45),oG 47 46 true 10 (Ac 4 2),oG 48 46 true 11 (Ad 47),oG 49 46 true 12 (.iad 5 (.t 48) (cI 3)),oG 50 46 true 13 (Ak 5 49),oG 51 46 true 14 (Ac 4 3),oG 52 46 true 15 (Ad 51),oG 53 46 true 16 (.iad 5 (.t 52) (cI 3)),oG 54 46 true 17 (Ak 5 53),oG 55 46 true 18 (.call 35 [(.t 50),(.t 54)]),oI 56 19 (Az 46 55),oI 4 20 (mT 56)] .ret) (Ab [oP 58 (Ac 0 2),oP 59 (Ad 58),oP 60 (Aj 59 14),Aa 57 60] (Ae 57 (Ab [oP 62 (Ak 5 3),oP 63 (.call 57 [(.t 62),(cI 1),(cI 0)]),Aa 61 63,oP 64 (.ext (.t 61) 0),oP 65 (.ext (.t 61) 1),oP 5 Cb,oN (Al 5 5 64),Aa 6 65] (Ce [Aa 66 6,oI 67 1 (mT 66),oG 68 67 true 2 (Ac 4 2),⟨(some 69),(Ad 68),(some (67,true)),3,true,[]⟩,⟨(some 70),(.iad 5 (.t 69) (cI 1)),(some (67,true)),4,true,[]⟩,⟨(some 71),(Ak 5 70),(some (67,true)),5,true,[]⟩,⟨(some 72),(Ak 5 5),(some (67,true)),6,true,[]⟩,⟨(some 73),(.call 59 [(cI 0)]),(some (67,true)),7,false,[3,4,5,6]⟩,⟨(some 74),(.bslice 5 [(.t 72),(.t 73)]),(some (67,true)),8,false,[3,4,5]⟩,⟨(some 75),(.call 58 [(cI 15),(cI 0),(cI 0),(cI 0),(.t 74)]),(some (67,true)),9,false,[3,4,5]⟩,oG 76 67 true 10 (.call 35 [(.t 71),(.t 75)]),oI 77 11 (Az 67 76),oI 4 12 (mT 77)] .ret)) (Ab [oP 79 (Ac 0 3),oP 80 (Ad 79),oP 81 (Aj 80 14),Aa 78 81] (Ae 78 (Ab [oP 83 (Ak 5 2),oP 84 (.call 57 [(.t 83),(cI 1),(cI 0)]),Aa 82 84,oP 85 (.ext (.t 82) 0),oP 86 (.ext (.t 82) 1),oP 7 Cb,oN (Al 5 7 85),Aa 8 86] (Ce [Aa 87 8,oI 88 1 (mT 87),⟨(some 89),(Ak 5 7),(some (88,true)),2,true,[]⟩,⟨(some 90),(.call 59 [(cI 0)]),(some (88,true)),3,true,[2]⟩,⟨(some 91),(.bslice 5 [(.t 89),(.t 90)]),(some (88,true)),4,true,[]⟩,⟨(some 92),(.call 58 [(cI 15),(cI 0),(cI 0),(cI 0),(.t 91)]),(some (88,true)),5,true,[]⟩,oG 93 88 true 6 (Ac 4 3),⟨(some 94),(Ad 93),(some (88,true)),7,false,[3,4,5]⟩,⟨(some 95),(.iad 5 (.t 94) (cI 1)),(some (88,true)),8,false,[3,4,5]⟩,⟨(some 96),(Ak 5 95),(some (88,true)),9,false,[3,4,5]⟩,oG 97 88 true 10 (.call 35 [(.t 92),(.t 96)]),oI 98 11 (Az 88 97),oI 4 12 (mT 98)] .ret)) (Ab [oP 100 (Ac 0 2),oP 101 (Ad 100),oP 102 (Aj 101 17),Aa 99 102] (Ae 99 (Ce [oP 103 (Ac 4 2),⟨(some 104),(Ad 103),none,1,true,[]⟩,⟨(some 105),(.iad 5 (.t 104) (cI 2)),none,2,true,[]⟩,⟨(some 106),(Ak 5 105),none,3,true,[]⟩,oI 107 4 (Ak 5 3),⟨(some 108),(.bslice 5 [(.t 107)]),none,5,false,[1,2,3]⟩,⟨(some 109),(.call 58 [(cI 18),(cI 0),(cI 0),(cI 0),(.t 108)]),none,6,false,[1,2,3]⟩,oI 110 7 (.call 35 [(.t 106),(.t 109)]),oI 111 8 (mT 110),oG 112 111 true 9 (Ac 4 2),⟨(some 113),(Ad 112),(some (111,true)),10,true,[]⟩,⟨(some 114),(.iad 5 (.t 113) (cI 3)),(some (111,true)),11,true,[]⟩,⟨(some 115),(Ak 5 114),(some (111,true)),12,true,[]⟩,oG 116 111 true 13 (Ak 5 3),⟨(some 117),(.bslice 5 [(.t 116)]),(some (111,true)),14,false,[10,11,12]⟩,⟨(some 118),(.call 58 [(cI 19),(cI 0),(cI 0),(cI 0),(.t 117)]),(some (111,true)),15,false,[10,11,12]⟩,oG 119 111 true 16 (.call 35 [(.t 115),(.t 118)]),oI 120 17 (Az 111 119),oI 4 18 (mT 120)] .ret) (Ab [oP 122 (Ac 0 3),oP 123 (Ad 122),oP 124 (Aj 123 17),Aa 121 124] (Ae 121 (Ce [oP 125 (Ak 5 2),⟨(some 126),(.bslice 5 [(.t 125)]),none,1,true,[]⟩,⟨(some 127),(.call 58 [(cI 18),(cI 0),(cI 0),(cI 0),(.t 126)]),none,2,true,[]⟩,oI 128 3 (Ac 4 3),⟨(some 129),(Ad 128),none,4,false,[1,2]⟩,⟨(some 130),(.iad 5 (.t 129) (cI 2)),none,5,false,[1,2]⟩,⟨(some 131),(Ak 5 130),none,6,false,[1,2]⟩,oI 132 7 (.call 35 [(.t 127),(.t 131)]),oI 133 8 (mT 132),oG 134 133 true 9 (Ak 5 2),⟨(some 135),(.bslice 5 [(.t 134)]),(some (133,true)),10,true,[]⟩,⟨(some 136),(.call 58 [(cI 19),(cI 0),(cI 0),(cI 0),(.t 135)]),(some (133,true)),11,true,[]⟩,oG 137 133 true 12 (Ac 4 3),⟨(some 138),(Ad 137),(some (133,true)),13,false,[10,11]⟩,⟨(some 139),(.iad 5 (.t 138) (cI 3)),(some (133,true)),14,false,[10,11]⟩,⟨(some 140),(Ak 5 139),(some (133,true)),15,false,[10,11]⟩,oG 141 133 true 16 (.call 35 [(.t 136),(.t 140)]),oI 142 17 (Az 133 141),oI 4 18 (mT 142)] .ret) .skip))))))))))))) (.seq (Ab [oP 143 (Ac 0 2),oP 144 (Ad 143),oP 145 (Ac 0 3),oP 146 (Ad 145),oP 147 (Bb .neq 144 146),Aa 148 147,oG 149 148 false 0 (Ac 1 2),oG 150 148 false 0 (Ad 149),oG 151 148 false 0 (Ac 1 3),oG 152 148 false 0 (Ad 151),oG 153 148 false 0 (Bb .neq 150 152),oP 154 (Bf 148 153),Aa 155 154,oG 156 155 false 0 (Ac 2 2),oG 157 155 false 0 (Ad 156),oG 158 155 false 0 (Ac 2 3),oG 159 155 false 0 (Ad 158),oG 160 155 false 0 (Bb .neq 157 159),oP 161 (Bf 155 160),Aa 162 161,oG 163 162 false 0 (Ac 3 2),oG 164 162 false 0 (Ad 163),oG 165 162 false 0 (Ac 3 3),oG 166 162 false 0 (Ad 165),oG 167 162 false 0 (Bb .neq 164 166),oP 168 (Bf 162 167),Aa 169 168,oG 170 169 false 0 (Ac 4 2),oG 171 169 false 0 (Ad 170),oG 172 169 false 0 (.len false (.t 171)),oG 173 169 false 0 (Ac 4 3),oG 174 169 false 0 (Ad 173),oG 175 169 false 0 (.len false (.t 174)),oG 176 169 false 0 (Bb .neq 172 175),oP 177 (Bf 169 176)] (Ae 177 (Ab [oP 4 (.mv (cB false))] .ret) .skip)) (.seq (Ab [oP 178 (Ac 4 2),oP 179 (Ad 178),oP 180 (.len false (.t 179)),oP 181 (.mv (cI 0))] (.blk 1 (.loop (Ab [oP 182 (Bb .lss 181 180)] (.seq (Cu 182 1) (.seq (.blk 2 (Ab [Aa 183 181,Aa 9 183] (Ce [oP 184 (Ac 4 2),oI 185 1 (Ad 184),oI 186 2 (mT 9),oI 187 3 (.iad 5 (.t 185) (.t 186)),oI 188 4 (Ak 5 187),oI 189 5 (Ac 4 3),oI 190 6 (Ad 189),oI 191 7 (mT 9),oI 192 8 (.iad 5 (.t 190) (.t 191)),oI 193 9 (Ak 5 192),oI 194 10 (.call 35 [(.t 188),(.t 193)]),oI 195 11 (.un .not (.t 194))] (Ae 195 (Ab [oP 4 (.mv (cB false))] .ret) .skip)))) (Ar [oP 196 (An .add 181 1),Aa 181 196]))))))) (Ab [oP 4 (.mv (cB true))] .ret)))))⟩
def tr35:trF Tryz.prog Tryz.f35=some af35:=by kernel_rfl
attribute [go_sem] af35
def af51:AF:=⟨62,[(.t 10)],(Ab [oP 10 (.mv (cB false))] (Ab [Aa 11 0,oP 12 (.hcall 52 [(.t 11)])] (.seq (.seq (.cut (.reg [Aa 13 1,oI 14 1 (mT 2)] true) (.cut (Ar [oI 15 2 (.bin 2 .eql (.t 13) (.t 14))]) (.cut (.reg [oI 16 3 (mT 15),oG 17 16 false 4 (mT 1),oG 18 16 false 5 (Ah 17),oG 19 16 false 6 (Ac 6 18),oG 20 16 false 7 (Ad 19),oG 21 16 false 8 (.un .not (.t 20)),oG 22 16 false 9 (mT 21),oG 23 22 true 10 (mT 2),oG 24 22 true 11 (Ah 23),oG 25 22 true 12 (Ac 6 24),oG 26 22 true 13 (Ad 25),oG 27 22 true 14 (.un .not (.t 26)),oG 28 16 false 15 (Az 22 27),oG 29 16 false 16 (mT 28),oG 30 29 true 17 (mT 1),oG 31 29 true 18 (Ah 30),oG 32 29 true 19 (Ac 5 31),oG 33 29 true 20 (Ad 32),oG 34 29 true 21 (mT 2),oG 35 29 true 22 (Ah 34),oG 36 29 true 23 (Ac 5 35),oG 37 29 true 24 (Ad 36)] true) (.cut (Ar [oG 38 29 true 25 (.bin 2 .eql (.t 33) (.t 37))]) (.reg [oG 39 16 false 26 (Az 29 38),oG 40 16 false 27 (mT 39),oG 41 40 true 28 (mT 1),oG 42 40 true 29 (Ah 41),oG 43 40 true 30 (Ac 0 42),oG 44 40 true 31 (Ak 5 43),oG 45 40 true 32 (mT 2),oG 46 40 true 33 (Ah 45),oG 47 40 true 34 (Ac 0 46),oG 48 40 true 35 (Ak 5 47),oG 49 40 true 36 (.call 77 [(.t 44),(.t 48)]),oG 50 16 false 37 (Az 40 49),oI 51 38 (Bf 16 50)] true))))) (Ae 51 (Ab [oP 10 (.mv (cB true))] .ret) .skip)) (Ab [Aa 52 0,Aa 53 0,Aa 54 1,oP 55 (.hcall 79 [(.t 53),(.t 54)]),Aa 56 0,Aa 57 2,oP 58 (.hcall 79 [(.t 56),(.t 57)]),Aa 59 3,Aa 60 4,oP 61 (.hcall 78 [(.t 52),(.t 55),(.t 58),(.t 59),(.t 60)]),Aa 10 61] .ret))))⟩
def tr51:trF Tryz.prog Tryz.f51=some af51:=by kernel_rfl
attribute [go_sem] af51
def a78_27:AC:=.seq (Ab [Aa 13 1,Aa 14 2,oP 15 (.bin 2 .neq (.t 13) (.t 14))] (Cu 15 0)) (.blk 1 (Ab [Aa 16 0,Aa 17 1,oP 18 (.hcall 81 [(.t 16),(.t 17)]),Aa 19 0,Aa 20 2,oP 21 (.hcall 81 [(.t 19),(.t 20)]),Aa 11 18,Aa 12 21] (.blk 2 (Ab [Aa 26 11,oP 27 (Aj 26 0),Aa 28 27,oG 29 28 true 0 (mT 12),oG 30 28 true 0 (Aj 29 0),oP 31 (Az 28 30),Aa 25 31] (Ae 25 (Ab [Aa 32 0,Aa 33 1,Aa 34 2,Aa 35 3,Aa 36 4,oP 37 (.hcall 96 [(.t 32),(.t 33),(.t 34),(.t 35),(.t 36)]),Aa 10 37] .ret) (Ab [Aa 39 11,Aa 40 12,oP 41 (Bb .eql 39 40),Aa 42 41,oG 43 42 true 0 (mT 0),oG 44 42 true 0 (mT 1),oG 45 42 true 0 (mT 2),oG 46 42 true 0 (mT 3),oG 47 42 true 0 (.hcall 97 [(.t 43),(.t 44),(.t 45),(.t 46)]),oP 48 (Az 42 47),Aa 38 48] (Ae 38 (Ab [oP 10 (.mv (cB true))] .ret) (Ab [Aa 50 11,Aa 51 12,oP 52 (Bb .eql 50 51),Aa 49 52] (Ae 49 (Ar [Aa 53 0,Aa 54 1,oP 55 (.hcall 82 [(.t 53),(.t 54)]),Aa 56 0,Aa 57 2,oP 58 (.hcall 82 [(.t 56),(.t 57)]),Aa 1 55,Aa 2 58]) (Ab [Aa 60 11,Aa 61 12,oP 62 (Bb .gtr 60 61),Aa 59 62] (Ae 59 (Ar [Aa 63 0,Aa 64 1,oP 65 (.hcall 82 [(.t 63),(.t 64)]),Aa 1 65]) (Ar [Aa 22 0,Aa 23 2,oP 24 (.hcall 82 [(.t 22),(.t 23)]),Aa 2 24]))))))))))))
def a78_31:AC:=Ab [oP 10 (.mv (cB true))] .ret
def af78:AF:=⟨66,[(.t 10)],(Ab [oP 10 (.mv (cB false))] (.seq (.blk 0 (.loop a78_27)) a78_31))⟩
def tr78:trF Tryz.prog Tryz.f78=some af78:=by kernel_rfl
attribute [go_sem] af78 a78_27 a78_31
def af96:AF:=⟨213,[(.t 10)],(Ab [oP 10 (.mv (cB false))] (.seq (Ab [Aa 11 4,oP 12 (.un .not (.t 11))] (Ae 12 (Ab [Aa 13 0,Aa 14 1,Aa 15 2,Aa 16 3,oP 17 (.hcall 112 [(.t 13),(.t 14),(.t 15),(.t 16),(cB false)]),Aa 10 17] .ret) .skip)) (.seq (.blk 0 (Ab [Aa 19 1,oP 20 (Ah 19),oP 21 (Ac 0 20),oP 22 (Ad 21),oP 23 (Aj 22 14),Aa 24 23,oG 25 24 true 0 (mT 2),oG 26 24 true 0 (Ah 25),oG 27 24 true 0 (Ac 0 26),oG 28 24 true 0 (Ad 27),oG 29 24 true 0 (Aj 28 14),oP 30 (Az 24 29),Aa 18 30] (Ae 18 (.seq (.cut (.reg [Aa 31 0,oI 32 1 (mT 1),oI 33 2 (Ah 32),oI 34 3 (Ac 5 33),oI 35 4 (Ad 34),oI 36 5 (.iad 1 (.t 35) (cI 1)),oI 37 6 (Ad 36),oI 38 7 (mT 3),⟨(some 39),(.hcall 56 [(.t 37),(.t 38),(cI 1)]),none,8,true,[]⟩,oI 40 9 (mT 2),oI 41 10 (Ah 40),oI 42 11 (Ac 5 41),⟨(some 43),(Ad 42),none,12,false,[8]⟩,⟨(some 44),(.iad 1 (.t 43) (cI 1)),none,13,false,[8]⟩,⟨(some 45),(Ad 44),none,14,false,[8]⟩,oI 46 15 (mT 3),oI 47 16 (.hcall 56 [(.t 45),(.t 46),(cI 1)]),oI 48 17 (mT 3),oI 49 18 (An .add 48 1)] true) (.cut (Ar [⟨(some 50),(.hcall 51 [(.t 31),(.t 39),(.t 47),(.t 49),(cB true)]),none,19,false,[19]⟩]) (.reg [oI 10 20 (mT 50)] true))) .ret) (Ab [Aa 52 1,oP 53 (Ah 52),oP 54 (Ac 0 53),oP 55 (Ad 54),oP 56 (Aj 55 17),Aa 57 56,oG 58 57 true 0 (mT 2),oG 59 57 true 0 (Ah 58),oG 60 57 true 0 (Ac 0 59),oG 61 57 true 0 (Ad 60),oG 62 57 true 0 (Aj 61 17),oP 63 (Az 57 62),Aa 51 63] (Ae 51 (.seq (.cut (.reg [Aa 64 0,oI 65 1 (mT 1),oI 66 2 (Ah 65),oI 67 3 (Ac 5 66),oI 68 4 (Ad 67),oI 69 5 (.iad 1 (.t 68) (cI 2)),oI 70 6 (Ad 69),oI 71 7 (mT 2),oI 72 8 (Ah 71),oI 73 9 (Ac 5 72),oI 74 10 (Ad 73),oI 75 11 (.iad 1 (.t 74) (cI 2)),oI 76 12 (Ad 75),oI 77 13 (mT 3)] true) (.cut (Ar [⟨(some 78),(.hcall 51 [(.t 64),(.t 70),(.t 76),(.t 77),(cB true)]),none,14,false,[14]⟩]) (.cut (.reg [oI 79 15 (mT 78),oG 80 79 true 16 (mT 0),oG 81 79 true 17 (mT 1),oG 82 79 true 18 (Ah 81),oG 83 79 true 19 (Ac 5 82),oG 84 79 true 20 (Ad 83),oG 85 79 true 21 (.iad 1 (.t 84) (cI 3)),oG 86 79 true 22 (Ad 85),oG 87 79 true 23 (mT 2),oG 88 79 true 24 (Ah 87),oG 89 79 true 25 (Ac 5 88),oG 90 79 true 26 (Ad 89),oG 91 79 true 27 (.iad 1 (.t 90) (cI 3)),oG 92 79 true 28 (Ad 91),oG 93 79 true 29 (mT 3)] true) (.cut (Ar [⟨(some 94),(.hcall 51 [(.t 80),(.t 86),(.t 92),(.t 93),(cB true)]),(some (79,true)),30,false,[30]⟩]) (.reg [oI 95 31 (Az 79 94),oI 10 32 (mT 95)] true))))) .ret) (Ab [Aa 97 1,oP 98 (Ah 97),oP 99 (Ac 0 98),oP 100 (Ad 99),oP 101 (Aj 100 14),Aa 96 101] (Ae 96 (Ab [Aa 102 0,Aa 103 1,oP 104 (Ah 103),oP 105 (Ac 5 104),oP 106 (Ad 105),oP 107 (.iad 1 (.t 106) (cI 1)),oP 108 (Ad 107),Aa 109 3,oP 110 (.hcall 56 [(.t 108),(.t 109),(cI 1)]),Aa 111 2,oP 112 (.hcall 104 [(.t 111)]),Aa 113 3,oP 114 (.hcall 84 [(.t 113)]),oP 115 (.bslice 1 [(.t 112),(.t 114)]),oP 116 (.build [(iS 0),(iS 0),(iS 0),(iS 0),(iS 0),.nils] [(0,(1,(cI 15))),(5,(1,(.t 115)))]),oP 117 (.box (.t 116)),oP 118 (.hcall 104 [(.t 117)]),Aa 119 3,oP 120 (An .add 119 1),oP 121 (.hcall 51 [(.t 102),(.t 110),(.t 118),(.t 120),(cB true)]),Aa 10 121] .ret) (Ab [Aa 123 2,oP 124 (Ah 123),oP 125 (Ac 0 124),oP 126 (Ad 125),oP 127 (Aj 126 14),Aa 122 127] (Ae 122 (.seq (.cut (.reg [Aa 128 0,oI 129 1 (mT 1),⟨(some 130),(.hcall 104 [(.t 129)]),none,2,true,[]⟩,oI 131 3 (mT 3),⟨(some 132),(.hcall 84 [(.t 131)]),none,4,true,[]⟩,⟨(some 133),(.bslice 1 [(.t 130),(.t 132)]),none,5,true,[]⟩,oI 134 6 (.build [(iS 0),(iS 0),(iS 0),(iS 0),(iS 0),.nils] [(0,(1,(cI 15))),(5,(1,(.t 133)))]),⟨(some 135),(.box (.t 134)),none,7,true,[]⟩,⟨(some 136),(.hcall 104 [(.t 135)]),none,8,true,[]⟩,oI 137 9 (mT 2),oI 138 10 (Ah 137),oI 139 11 (Ac 5 138),⟨(some 140),(Ad 139),none,12,false,[2,4,5,7,8]⟩,⟨(some 141),(.iad 1 (.t 140) (cI 1)),none,13,false,[2,4,5,7,8]⟩,⟨(some 142),(Ad 141),none,14,false,[2,4,5,7,8]⟩,oI 143 15 (mT 3),oI 144 16 (.hcall 56 [(.t 142),(.t 143),(cI 1)]),oI 145 17 (mT 3),oI 146 18 (An .add 145 1)] true) (.cut (Ar [⟨(some 147),(.hcall 51 [(.t 128),(.t 136),(.t 144),(.t 146),(cB true)]),none,19,false,[19]⟩]) (.reg [oI 10 20 (mT 147)] true))) .ret) (Ab [Aa 149 1,oP 150 (Ah 149),oP 151 (Ac 0 150),oP 152 (Ad 151),oP 153 (Aj 152 17),Aa 148 153] (Ae 148 (.seq (.cut (.reg [Aa 154 0,oI 155 1 (mT 1),oI 156 2 (Ah 155),oI 157 3 (Ac 5 156),⟨(some 158),(Ad 157),none,4,true,[]⟩,⟨(some 159),(.iad 1 (.t 158) (cI 2)),none,5,true,[]⟩,⟨(some 160),(Ad 159),none,6,true,[]⟩,oI 161 7 (mT 2),⟨(some 162),(.hcall 113 [(cI 18),(.t 161)]),none,8,false,[4,5,6]⟩,oI 163 9 (mT 3)] true) (.cut (Ar [⟨(some 164),(.hcall 51 [(.t 154),(.t 160),(.t 162),(.t 163),(cB true)]),none,10,false,[10]⟩]) (.cut (.reg [oI 165 11 (mT 164),oG 166 165 true 12 (mT 0),oG 167 165 true 13 (mT 1),oG 168 165 true 14 (Ah 167),oG 169 165 true 15 (Ac 5 168),⟨(some 170),(Ad 169),(some (165,true)),16,true,[]⟩,⟨(some 171),(.iad 1 (.t 170) (cI 3)),(some (165,true)),17,true,[]⟩,⟨(some 172),(Ad 171),(some (165,true)),18,true,[]⟩,oG 173 165 true 19 (mT 2),⟨(some 174),(.hcall 113 [(cI 19),(.t 173)]),(some (165,true)),20,false,[16,17,18]⟩,oG 175 165 true 21 (mT 3)] true) (.cut (Ar [⟨(some 176),(.hcall 51 [(.t 166),(.t 172),(.t 174),(.t 175),(cB true)]),(some (165,true)),22,false,[22]⟩]) (.reg [oI 177 23 (Az 165 176),oI 10 24 (mT 177)] true))))) .ret) (Ab [Aa 179 2,oP 180 (Ah 179),oP 181 (Ac 0 180),oP 182 (Ad 181),oP 183 (Aj 182 17),Aa 178 183] (Ae 178 (.seq (.cut (.reg [Aa 184 0,oI 185 1 (mT 1),⟨(some 186),(.hcall 113 [(cI 18),(.t 185)]),none,2,true,[]⟩,oI 187 3 (mT 2),oI 188 4 (Ah 187),oI 189 5 (Ac 5 188),⟨(some 190),(Ad 189),none,6,false,[2]⟩,⟨(some 191),(.iad 1 (.t 190) (cI 2)),none,7,false,[2]⟩,⟨(some 192),(Ad 191),none,8,false,[2]⟩,oI 193 9 (mT 3)] true) (.cut (Ar [⟨(some 194),(.hcall 51 [(.t 184),(.t 186),(.t 192),(.t 193),(cB true)]),none,10,false,[10]⟩]) (.cut (.reg [oI 195 11 (mT 194),oG 196 195 true 12 (mT 0),oG 197 195 true 13 (mT 1),⟨(some 198),(.hcall 113 [(cI 19),(.t 197)]),(some (195,true)),14,true,[]⟩,oG 199 195 true 15 (mT 2),oG 200 195 true 16 (Ah 199),oG 201 195 true 17 (Ac 5 200),⟨(some 202),(Ad 201),(some (195,true)),18,false,[14]⟩,⟨(some 203),(.iad 1 (.t 202) (cI 3)),(some (195,true)),19,false,[14]⟩,⟨(some 204),(Ad 203),(some (195,true)),20,false,[14]⟩,oG 205 195 true 21 (mT 3)] true) (.cut (Ar [⟨(some 206),(.hcall 51 [(.t 196),(.t 198),(.t 204),(.t 205),(cB true)]),(some (195,true)),22,false,[22]⟩]) (.reg [oI 207 23 (Az 195 206),oI 10 24 (mT 207)] true))))) .ret) .skip))))))))))))) (Ab [Aa 208 0,Aa 209 1,Aa 210 2,Aa 211 3,oP 212 (.hcall 112 [(.t 208),(.t 209),(.t 210),(.t 211),(cB true)]),Aa 10 212] .ret))))⟩
def tr96:trF Tryz.prog Tryz.f96=some af96:=by kernel_rfl
attribute [go_sem] af96
def a112_29:AC:=Ab [oP 87 (Bb .lss 86 85)] (.seq (Cu 87 0) (.seq (.blk 1 (Ab [Aa 88 86,Aa 11 88] (Ce [Aa 89 1,oI 90 1 (Ah 89),oI 91 2 (Ac 5 90),oI 92 3 (Ad 91),oI 93 4 (mT 11),oI 94 5 (.iad 1 (.t 92) (.t 93)),oI 95 6 (Ad 94),oI 96 7 (mT 2),oI 97 8 (Ah 96),oI 98 9 (Ac 5 97),oI 99 10 (Ad 98),oI 100 11 (mT 11),oI 101 12 (.iad 1 (.t 99) (.t 100)),oI 102 13 (Ad 101),oI 12 14 (mT 95),oI 13 15 (mT 102)] (Ab [Aa 103 1,oP 104 (Ah 103),oP 105 (Ac 0 104),oP 106 (Ad 105),Aa 107 11,oP 108 (.call 55 [(.t 106),(.t 107)]),Aa 14 108] (.seq (Ab [Aa 109 14,oP 110 (An .gtr 109 0)] (Ae 110 (Ar [Aa 111 12,Aa 112 3,Aa 113 14,oP 114 (.hcall 56 [(.t 111),(.t 112),(.t 113)]),Aa 115 13,Aa 116 3,Aa 117 14,oP 118 (.hcall 56 [(.t 115),(.t 116),(.t 117)]),Aa 12 114,Aa 13 118]) .skip)) (Ab [Aa 119 0,Aa 120 12,Aa 121 13,Aa 122 3,Aa 123 14,oP 124 (Bb .add 122 123),Aa 125 4,oP 126 (.hcall 51 [(.t 119),(.t 120),(.t 121),(.t 124),(.t 125)]),oP 127 (.un .not (.t 126))] (Ae 127 (Ab [oP 10 (.mv (cB false))] .ret) .skip))))))) (Ar [oP 128 (An .add 86 1),Aa 86 128])))
def a112_34:AC:=Ab [oP 10 (.mv (cB true))] .ret
def af112:AF:=⟨129,[(.t 10)],(Ab [oP 10 (.mv (cB false))] (.seq (Ce [Aa 15 1,oI 16 1 (Ah 15),oI 17 2 (Ac 0 16),oI 18 3 (Ad 17),oI 19 4 (mT 2),oI 20 5 (Ah 19),oI 21 6 (Ac 0 20),oI 22 7 (Ad 21),oI 23 8 (Bb .neq 18 22),oI 24 9 (mT 23),oG 25 24 false 10 (mT 1),oG 26 24 false 11 (Ah 25),oG 27 24 false 12 (Ac 1 26),oG 28 24 false 13 (Ad 27),oG 29 24 false 14 (mT 2),oG 30 24 false 15 (Ah 29),oG 31 24 false 16 (Ac 1 30),oG 32 24 false 17 (Ad 31),oG 33 24 false 18 (Bb .neq 28 32),oI 34 19 (Bf 24 33),oI 35 20 (mT 34),oG 36 35 false 21 (mT 1),oG 37 35 false 22 (Ah 36),oG 38 35 false 23 (Ac 2 37),oG 39 35 false 24 (Ad 38),oG 40 35 false 25 (mT 2),oG 41 35 false 26 (Ah 40),oG 42 35 false 27 (Ac 2 41),oG 43 35 false 28 (Ad 42),oG 44 35 false 29 (Bb .neq 39 43),oI 45 30 (Bf 35 44),oI 46 31 (mT 45),oG 47 46 false 32 (mT 1),oG 48 46 false 33 (Ah 47),oG 49 46 false 34 (Ac 3 48),oG 50 46 false 35 (Ad 49),oG 51 46 false 36 (mT 2),oG 52 46 false 37 (Ah 51),oG 53 46 false 38 (Ac 3 52),oG 54 46 false 39 (Ad 53),oG 55 46 false 40 (Bb .neq 50 54),oI 56 41 (Bf 46 55),oI 57 42 (mT 56),oG 58 57 false 43 (mT 1),oG 59 57 false 44 (Ah 58),oG 60 57 false 45 (Ac 4 59),oG 61 57 false 46 (Ad 60),oG 62 57 false 47 (mT 2),oG 63 57 false 48 (Ah 62),oG 64 57 false 49 (Ac 4 63),oG 65 57 false 50 (Ad 64),oG 66 57 false 51 (Bb .neq 61 65),oI 67 52 (Bf 57 66),oI 68 53 (mT 67),oG 69 68 false 54 (mT 1),oG 70 68 false 55 (Ah 69),oG 71 68 false 56 (Ac 5 70),oG 72 68 false 57 (Ad 71),oG 73 68 false 58 (.len false (.t 72)),oG 74 68 false 59 (mT 2),oG 75 68 false 60 (Ah 74),oG 76 68 false 61 (Ac 5 75),oG 77 68 false 62 (Ad 76),oG 78 68 false 63 (.len false (.t 77)),oG 79 68 false 64 (Bb .neq 73 78),oI 80 65 (Bf 68 79)] (Ae 80 (Ab [oP 10 (.mv (cB false))] .ret) .skip)) (.seq (Ab [Aa 81 1,oP 82 (Ah 81),oP 83 (Ac 5 82),oP 84 (Ad 83),oP 85 (.len false (.t 84)),oP 86 (.mv (cI 0))] (.blk 0 (.loop a112_29))) a112_34)))⟩
def tr112:trF Tryz.prog Tryz.f112=some af112:=by kernel_rfl
attribute [go_sem] af112 a112_29 a112_34
def Bf4{v:Vl}:psz (vlC v)=true:=by
 obtain⟨k,i,j,n,level,kids⟩:=v;cases kids<;>rfl
def A3f(kd:Nat)(op:BinOp)(i c j d:Nat):Fe kd op (.gp i c) (.gp j d)=if kd=2 then eqB op (i==j && c==d) else none:=q_z
attribute [go_sem] Bf4 A3f
def u7{k k':IntKind}{a b:Int}(h:Lo (.int k a) (.int k' b)):a=b:=by
 obtain⟨m,v,h1,h2⟩:=h;cases h1;cases h2;rfl
def Vh{z z2 c:Nat}{l l2:List SV}(h:Lo (.dref z l c) (.dref z2 l2 c)){j:Nat}{x y:SV}(hx:l[j]?=some x)(hy:l2[j]?=some y):Lo x y:=by
 obtain⟨m,v,h1,h2⟩:=h;generalize hd:SV.dref z2 l2 c=s2 at h2;cases h1 with
 |dref _ _ _ b off vs a1 a2 a3 a4 a5 a6=>
  generalize hv:Value.pointer (some ⟨b,off+c,none⟩)=v2 at h2;cases h2<;>first|(cases hd;done)|skip
  rename_i z3 l3 c3 b3 off3 vs3 e1 e2 e3 e4 e5 e6;cases hd;simp only[Value.pointer.injEq,q_b,Addr.mk.injEq,and_true] at hv;obtain⟨rfl,ho⟩:=hv;have ho':off3=off:=by omega
  subst ho';have hj:j<vs.length:=by
   have:=q_jm.1 hx;obtain⟨h,_⟩:=this;omega
  have Yb:j<vs3.length:=by
   have:=q_jm.1 hy;obtain⟨h,_⟩:=this;omega
  have g1:=a4 j _ (q_f hj);have g2:=e4 j _ (q_f Yb);rw[g1] at g2;exact⟨m,_,a6 j _ _ (q_f hj) hx,e6 j _ _ (by rw[q_f Yb,<-Option.some.inj g2]) hy⟩
def Amj{i j c d:Nat}(h:Lo (.gp i c) (.gp j d)):i=j:=by
 obtain⟨m,v,h1,h2⟩:=h;cases h1 with
 |gp _ _ b a1 a2=>
  cases h2 with
  |gp _ _ _ b1 b2=>exact m.inj _ _ _ a1 b1
def Aw4{z z2:Nat}{l l2:GV}(h:Lo (.dsl z l) (.dsl z2 l2)){j:Nat}{x y:SV}(hx:l.flatten[j]?=some x)(hy:l2.flatten[j]?=some y):Lo x y:=by
 obtain⟨m,v,h1,h2⟩:=h;generalize hd:SV.dsl z2 l2=s2 at h2;cases h1 with
 |dsl0=>simp at hx
 |dsl _ _ cap b off vs a0 a1 a2 a3 a4 a5 a6=>
  generalize hv:Value.slice (some ⟨b,off,none⟩) l.length cap=v2 at h2;cases h2<;>first|(cases hd;done)|skip
  ·cases hd;simp at hy
  ·rename_i z3 l3 cap3 b3 off3 vs3 e0 e1 e2 e3 e4 e5 e6;cases hd;simp only[Value.slice.injEq,q_b,Addr.mk.injEq,and_true] at hv;obtain⟨⟨rfl,rfl⟩,hl,rfl⟩:=hv;have hj:j<vs.length:=by
    obtain⟨h,_⟩:=q_jm.1 hx;omega
   have Yb:j<vs3.length:=by
    obtain⟨h,_⟩:=q_jm.1 hy;omega
   have g1:=a5 j _ (q_f hj);have g2:=e5 j _ (q_f Yb);rw[g1] at g2;exact⟨m,_,a6 j _ _ (q_f hj) hx,e6 j _ _ (by rw[q_f Yb,<-Option.some.inj g2]) hy⟩
def Aw3:∀{e e':List Nat},Lo (Cj e) (Cj e')->e=e':=by
 intro e
 induction e with
 |nil=>intro e' h;cases e' with
  |nil=>rfl
  |cons a l=>
   rw[Pi,Lv] at h;obtain⟨m,v,h1,h2⟩:=h;cases h1;cases h2
 |cons a l ih=>intro e' h;cases e' with
  |nil=>
   rw[Pi,Lv] at h;obtain⟨m,v,h1,h2⟩:=h;cases h2;cases h1
  |cons b l'=>
   rw[Lv,Lv] at h;have h1:=Amj (Vh (j:=0) h rfl rfl);have h2:=ih (Vh (j:=1) h rfl rfl);rw[h1,h2]
def Aui{m:Mem}{v:Value}{a:List Nat}(h:Rep m v (Ms a)):∃A cap,v=.slice A a.length cap:=by
 cases a with
 |nil=>rw[Ab6] at h;cases h;exact⟨_,_,rfl⟩
 |cons i l=>
  rw[Bi6] at h;cases h with
  |dsl _ _ cap b off vs=>exact⟨some ⟨b,off,none⟩,cap,by simp⟩
def Auh:∀{a:List Nat} {j i:Nat},a[j]?=some i->(a.map fun i=>[SV.gp i 0]).flatten[j]?=some (.gp i 0):=by
 intro a
 induction a with
 |nil=>intro j i h;cases h
 |cons b l ih=>
  intro j i h;cases j with
  |zero=>cases h;rfl
  |succ j=>
   have:=ih (j:=j) (by simpa using h);simpa using this
def Aw5{a b:List Nat}(h:Lo (Ms a) (Ms b)):a=b:=by
 have hl:a.length=b.length:=by
  obtain⟨m,v,h1,h2⟩:=h;obtain⟨A,c,e⟩:=Aui h1;obtain⟨A',c',e'⟩:=Aui h2;rw[e] at e';simp only[Value.slice.injEq] at e';exact e'.2.1
 by_cases ha:a=[]
 ·subst ha;cases b with
  |nil=>rfl
  |cons=>cases hl
 have hb:b≠[]:=fun e=>by subst e;cases a with
  |nil=>exact ha rfl
  |cons=>cases hl
 rw[Mt ha,Mt hb] at h;apply List.ext_getElem?;intro j;rcases q_jo j a.length with hj|hj
 ·have g1:=q_f hj;have g2:=q_f (show j<b.length by omega);rw[g1,g2,Amj (Aw4 h (Auh g1) (Auh g2))]
 ·rw[q_jd hj,q_jd (by omega)]
def Aw6{x y:Vl}(h:Lo (vlV x) (vlV y)):x=y:=by
 unfold vlV at h;have h0:=u7 (Vh (j:=0) h rfl rfl);have h1:=u7 (Vh (j:=1) h rfl rfl);have h2:=u7 (Vh (j:=2) h rfl rfl);have h3:=u7 (Vh (j:=3) h rfl rfl);have h4:=u7 (Vh (j:=4) h rfl rfl);have h5:=Aw5 (Vh (j:=5) h rfl rfl);cases x;cases y;simp only at h0 h1 h2 h3 h4 h5;rw[h0,h1,h2,h3,h4,h5]
def Bbt{k n:Int}(h:0<=Bv k n):fit k:=by
 unfold Bv tab at h;unfold fit;split at h
 ·omega
 ·split at h
  ·simp only[q_jk,List.length_nil] at *;omega
  ·omega
def Akm{B:Nat}{t:Tm}(h:Sf B t):B+dpt t<=cap->TOk t:=by
 induction h with
 |@var b i h=>
  intro hc;have:cap=1099511627776:=rfl;exact .mk _ _ _ _ _ (by unfold fit;omega) (by unfold fit;omega) (by unfold fit;omega) (by unfold fit;omega) (by simp) (fun t h=>by cases h)
 |@nd b k i j n l h2 h0 hf hl hk ih=>
  intro hc;have:=Py k n;refine .mk _ _ _ _ _ (Bbt (n:=n) (by omega)) hf.1 hf.2.1 hf.2.2 (by omega) (fun t ht=>?_);obtain⟨p,hp⟩:=List.mem_iff_getElem?.1 ht;have:=Lu (k:=k) (i:=i) (j:=j) (n:=n) hp;exact ih p t hp (by omega)
abbrev Dd(f:Nat)(G:GV)(args:List SV)(T:HOut->GV->Prop):Prop:=HContractQ Tryz.prog f G args T
inductive SmP(S:SyT)(m j:Nat)(Γ:Gh)(M:Mc)(d:Nat)(eta:Bool)(X Y:Tm):HOut->GV->Prop
 |ret {G':GV} {Γ':Gh} {M':Mc} {b:Bool} (x:Gx Γ Γ') (hi:RInv S m j G' Γ' M') (mm:Mlq M M') (Ga:M.seen<=M'.seen) (h8:M'.seen<=8000000) (he:Eqv S.B d eta X Y b):SmP S m j Γ M d eta X Y (.ret (.bool b)) G'
 |out {G':GV} {Γ':Gh} {M':Mc} (x:Gx Γ Γ') (hi:RInv S m j G' Γ' M') (mm:Mlq M M'):SmP S m j Γ M d eta X Y (.pan Sz) G'
 |far {G':GV} {Γ':Gh} {M':Mc} (x:Gx Γ Γ') (hi:RInv S m j G' Γ' M') (mm:Mlq M M') (Ga:M.seen<=M'.seen) (h8:M'.seen<=8000000) (hg:0<M.guess):SmP S m j Γ M d eta X Y (.pan Tn) G'
def Xc(S:SyT)(m j F:Nat):Prop:=∀{G:GV} {Γ:Gh} {M:Mc} {a b d:Nat} {eta:Bool} {ga gb:Ge},RInv S m j G Γ M->M.seen<=8000000->8000000<=M.seen+F->d<=2*M.seen->Γ[a]?=some (some ga)->ga.Ok 0->Γ[b]?=some (some gb)->gb.Ok 0 ->
 Dd 51 G [.gp m 0,.gp a 0,.gp b 0,.int .i64 d,.bool eta] (SmP S m j Γ M d eta (ga.den 0) (gb.den 0))
def s7(x y:Vl):Prop:=x.k=y.k/\x.i=y.i/\x.j=y.j/\x.n=y.n/\x.level=y.level/\x.kids.length=y.kids.length
instance (x y:Vl):Decidable (s7 x y):=by unfold s7;infer_instance
inductive KdP(S:SyT)(m j:Nat)(Γ:Gh)(M:Mc)(d:Nat)(eta:Bool)(k:Int)(p:Nat)(l l':List Tm):HOut->GV->Prop
 |ret {G':GV} {Γ':Gh} {M':Mc} {b:Bool} (x:Gx Γ Γ') (hi:RInv S m j G' Γ' M') (mm:Mlq M M') (Ga:M.seen<=M'.seen) (h8:M'.seen<=8000000) (he:EqvL S.B d eta k p l l' b):KdP S m j Γ M d eta k p l l' (.ret (.bool b)) G'
 |out {G':GV} {Γ':Gh} {M':Mc} (x:Gx Γ Γ') (hi:RInv S m j G' Γ' M') (mm:Mlq M M'):KdP S m j Γ M d eta k p l l' (.pan Sz) G'
 |far {G':GV} {Γ':Gh} {M':Mc} (x:Gx Γ Γ') (hi:RInv S m j G' Γ' M') (mm:Mlq M M') (Ga:M.seen<=M'.seen) (h8:M'.seen<=8000000) (hg:0<M.guess):KdP S m j Γ M d eta k p l l' (.pan Tn) G'
section
variable{S:SyT}{m j:Nat}{G:GV}{Γ:Gh}{M:Mc}{T:HOut->GV->Prop}
def kS(m:Nat)(x y:Vl)(d:Int)(eta:Bool)(p:Nat)(G:GV):St:=⟨(.gp m 0::vlV x::vlV y::.int .i64 d::.bool eta::Bo (Bo (Do (.int .i64 x.kids.length::.int .i64 p::Bo (jk8 (jk2 ([]))))))),[gOb G]⟩
def kQ(T:HOut->GV->Prop):AE->St->Prop:=bk 0 (sq (Bp Tryz.prog fun x G1=>T (.pan x) G1) a112_34 (rtQ [.t 10] T))
def Bbp{n:Nat}{x y:Vl}{d:Int}{eta:Bool}(Av:x.kids.length<=100)(Rc:fit d/\fit (d+2)){p i i' a b:Nat}{G1 G2:GV}{T1:HOut->GV->Prop}(hi:x.kids[p]?=some i)(Cn:y.kids[p]?=some i')
  (hu:UnR d (bnd x.k p) G i a G1) (Dt:UnR d (bnd x.k p) G1 i' b G2) (hq:Dd 51 G2 [.gp m 0,.gp a 0,.gp b 0,.int .i64 (d+bnd x.k p),.bool eta] T1)
  (hr:∀r G3,T1 (.ret r) G3->∃c,r=.bool c/\(c=true->vcI (Bp Tryz.prog fun x G1=>T (.pan x) G1) a112_29 (kQ T) n (kS m x y d eta (p+1) G3))/\(c=false->T (.ret (.bool false)) G3)) (hx:∀u G3,T1 (.pan u) G3->T (.pan u) G3) :
  vcI (Bp Tryz.prog fun x G1=>T (.pan x) G1) a112_29 (kQ T) (n+1) (kS m x y d eta p G):=by
 obtain⟨k1,k2,k3,k4⟩:=Gq hi;obtain⟨l1,l2,l3,l4⟩:=Gq Cn;have e0:(0:Int)<=(p:Int):=by omega
 have Dc:=Pg x.k p;have hw:IntKind.i64.wrap (d+(bnd x.k p:Nat))=d+(bnd x.k p:Nat):=w64 (by unfold fit at Rc |-;omega);have Ki:IntKind.i64.wrap ((p:Int)+1)=((p+1:Nat):Int):=by rw[w64 (by unfold fit;omega)];omega
 have Ef:(p:Int)<x.kids.length:=k2;have hpm:(p:Int)<y.kids.length:=l2;have hcb:=Am3 x.k p;generalize bnd x.k p=z at *
 unfold kS;refine Bd ?_;simp only[go_sem,seval,vlV,k1,k3,k4,l1,l3,l4,Ef,hpm,e0,q_g];refine Af hcb ?_;cases hu with
 |no hb=>
  subst hb;cases Dt with
  |yes Dg=>exact absurd Dg (Nat.lt_irrefl 0)
  |no _=>
   have hz:d+((0:Nat):Int)=d:=by omega
   have Du:d+(0:Int)=d:=by omega
   rw[hz] at hq hw;simp only[go_sem,seval,Du,hw];refine Ha hq trivial (fun r G3 h3=>?_) (fun u G3 h3=>hx u G3 h3);obtain⟨c,rfl,h1,h2⟩:=hr r G3 h3;cases c with
   |true=>
    have:=h1 rfl;unfold kS at this;simp only[go_sem,seval,Ki,vlV] at this |-;exact Dl (Bk (by simp[Ba])) this
   |false=>
    have:=h2 rfl;simp only[go_sem,seval,kQ];exact this
 |yes hb hu=>
  cases Dt with
  |no Dg=>subst Dg;exact absurd hb (Nat.lt_irrefl 0)
  |yes _ Dt=>
   have Dg:(z:Int) > 0:=by omega
   repeat' first
   |simp only[go_sem,seval,Dg,q_jn Dg,hw]
   |refine Ai hu ?_
   |refine Ai Dt ?_
   refine Ha hq trivial (fun r G3 h3=>?_) (fun u G3 h3=>hx u G3 h3);obtain⟨c,rfl,h1,h2⟩:=hr r G3 h3;cases c with
   |true=>
    have:=h1 rfl;unfold kS at this;simp only[go_sem,seval,Ki,vlV] at this |-;exact Dl (Bk (by simp[Ba])) this
   |false=>
    have:=h2 rfl;simp only[go_sem,seval,kQ];exact this
def Bbn{x y:Vl}{d:Int}{eta:Bool}(h:T (.ret (.bool true)) G):vcI (Bp Tryz.prog fun x G1=>T (.pan x) G1) a112_29 (kQ T) 1 (kS m x y d eta x.kids.length G):=by
 unfold kS;refine Bd ?_;simp only[go_sem,seval,kQ,q_je (show ¬((x.kids.length:Nat):Int)<x.kids.length by omega)];exact h
def Aq8{Γ':Gh}(x:Gx Γ Γ'){k:Int}{p:Nat}{l:List Nat}(h:∀(q:Nat) id,l[q]?=some id->∃g,Γ[id]?=some (some g)):Ec Γ' k p l=Ec Γ k p l:=by
 apply List.ext_getElem?;intro q;rw[Oo,Oo];cases hq:l[q]? with
 |none=>rfl
 |some id=>
  obtain⟨g,hg⟩:=h q id hq;simp only[q_jh,x.den hg]
def Bbo{F:Nat}(hS:Xc S m j F){x y:Vl}{d:Nat}{eta:Bool}(Av:x.kids.length<=100):∀(l l':List Nat) {p:Nat} {G:GV} {Γ:Gh} {M:Mc} {T:HOut->GV->Prop},RInv S m j G Γ M->M.seen<=8000000->8000000<=M.seen+F->d+2<=2*M.seen ->
  x.kids.drop p=l->y.kids.drop p=l'->l.length=l'.length->p<=x.kids.length->(∀(q:Nat) id,l[q]?=some id->∃g,Γ[id]?=some (some g)/\g.Ok (bnd x.k (p+q)))->(∀(q:Nat) id,l'[q]?=some id->∃g,Γ[id]?=some (some g)/\g.Ok (bnd x.k (p+q))) ->
  (∀out G',KdP S m j Γ M d eta x.k p (Ec Γ x.k p l) (Ec Γ x.k p l') out G'->T out G')->vcI (Bp Tryz.prog fun x G1=>T (.pan x) G1) a112_29 (kQ T) (l.length+1) (kS m x y d eta p G):=by
 intro l
 induction l with
 |nil=>
  intro l' p G Γ M T hI h8 hF hd hl Kd Ck hp hk hk' hT;have Mh:x.kids.length<=p:=List.drop_eq_nil_iff.1 hl;have e:p=x.kids.length:=by omega
  subst e;cases l' with
  |cons=>cases Ck
  |nil=>exact Bbn (hT _ _ (.ret (.refl Γ) hI (.refl M) (q_ja _) h8 .nil))
 |cons i l ih=>
  intro l' p G Γ M T hI h8 hF hd hl Kd Ck hp hk hk' hT;cases l' with
  |nil=>cases Ck
  |cons i' l'=>
   have hc:cap=1099511627776:=rfl;have h81:M.seen<=8000000:=h8;obtain⟨a1,a2,a3⟩:=y9 hl;obtain⟨b1,b2,b3⟩:=y9 Kd;obtain⟨g,hg,ho⟩:=hk 0 i rfl;obtain⟨g',Fo,ho'⟩:=hk' 0 i' rfl;rw[q_jp] at ho ho';have hb:=Pg x.k p;obtain⟨ia,G1,Γ1,g1,u1,x1,i1,hg1,Hw,e1⟩:=Agb hI hg ho hb (show d+2<=cap by omega);obtain⟨ib,G2,Γ2,g2,u2,x2,i2,hg2,ho2,e2⟩:=Agb i1 (x1.get Fo) ho' hb (show d+2<=cap by omega);have hq:=hS (d:=d+bnd x.k p) (eta:=eta) i2 h8 hF (by omega) (x2.get hg1) Hw hg2 ho2;rw[Int.natCast_add] at hq;rw[e1,e2] at hq;have Yc:Ec Γ x.k p (i::l)=g.den (bnd x.k p)::Ec Γ x.k (p+1) l:=by rw[Ec,Kr hg]
   have hkT':Ec Γ x.k p (i'::l')=g'.den (bnd x.k p)::Ec Γ x.k (p+1) l':=by rw[Ec,Kr Fo]
   rw[Yc,hkT'] at hT;have hx12:=x1.trans x2;refine Bbp Av (by unfold fit;omega) a1 b1 u1 u2 hq (fun r G3 h3=>?_) (fun u G3 h3=>?_)
   ·generalize ho:HOut.ret r=o at h3;cases h3 with
    |out=>cases ho
    |far=>cases ho
    |@ret _ Γ3 M3 c x3 hi3 mm3 Yl Of he3=>
     cases ho;refine⟨c,rfl,fun e=>?_,fun e=>?_⟩
     ·subst e;have hx13:=hx12.trans x3;refine ih l' hi3 Of (by omega) (by omega) a2 b2 (by simpa using Ck) a3 (fun q id Br=>?_) (fun q id Br=>?_) (fun out G' h'=>hT out G' ?_)
      ·obtain⟨g,hg,ho⟩:=hk (q+1) id (by simpa using Br);exact⟨g,hx13.get hg,by rw[show p+1+q=p+(q+1) by omega];exact ho⟩
      ·obtain⟨g,hg,ho⟩:=hk' (q+1) id (by simpa using Br);exact⟨g,hx13.get hg,by rw[show p+1+q=p+(q+1) by omega];exact ho⟩
      ·rw[Aq8 hx13 (fun q id Br=>by obtain⟨g,hg,_⟩:=hk (q+1) id (by simpa using Br);exact⟨g,hg⟩),Aq8 hx13 (fun q id Br=>by obtain⟨g,hg,_⟩:=hk' (q+1) id (by simpa using Br);exact⟨g,hg⟩)] at h';cases h' with
       |ret x4 hi4 mm4 hse4 Jl he4=>exact .ret (hx13.trans x4) hi4 (mm3.trans mm4) (by omega) Jl (.cons he3 he4)
       |out x4 hi4 mm4=>exact .out (hx13.trans x4) hi4 (mm3.trans mm4)
       |far x4 hi4 mm4 hse4 Jl hg4=>exact .far (hx13.trans x4) hi4 (mm3.trans mm4) (by omega) Jl (mm3.pos hg4)
     ·subst e;exact hT _ _ (.ret (hx12.trans x3) hi3 mm3 Yl Of (.stop (by rw[Pz,Pz];simpa using Ck) he3))
   ·generalize ho:HOut.pan u=o at h3;cases h3 with
    |ret=>cases ho
    |out x3 hi3 mm3=>cases ho;exact hT _ _ (.out (hx12.trans x3) hi3 mm3)
    |far x3 hi3 mm3 Yl Of Ua=>cases ho;exact hT _ _ (.far (hx12.trans x3) hi3 mm3 Yl Of Ua)
def VOK.same{x y:Vl}(hx:VOK Γ x)(hy:VOK Γ y)(hk:x.k=y.k)(hn:x.n=y.n):x.kids.length=y.kids.length/\(x.k≠2->x.level=y.level):=by
 cases hx with
 |fv l hl=>cases hy with
  |fv l' Kd=>exact⟨rfl,fun h=>absurd rfl h⟩
  |nd h2=>exact absurd hk.symm h2
 |nd h2 h0 hf hl hk'=>cases hy with
  |fv l' Kd=>exact absurd hk h2
  |nd Fj Iw Vx Kd hk''=>
   simp only at hk hn hl Kd |-;subst hk hn;exact⟨by omega,fun _=>trivial⟩
def Ik{a b:Int}(h:a=b):(a != b)=false:=by simpa using h
def u6{a b:Int}(h:a≠b):(a != b)=true:=by simpa using h
def Bbu{x y:Vl}(hx:VOK Γ x)(hy:VOK Γ y)(h:¬s7 x y)(d:Int)(eta:Bool):Am 112 G [.gp m 0,vlV x,vlV y,.int .i64 d,.bool eta] (.ret (.bool false)) G:=by
 obtain⟨out,ho⟩:∃out,out=HOut.ret (.bool false):=⟨_,rfl⟩
 rw[<-ho];refine Bh mixed Tryz.func112 tr112 ?_
 by_cases hk:x.k=y.k
 rotate_left
 ·simp only[go_sem,seval,vlV,u6 hk,ho]
 by_cases hi:x.i=y.i
 rotate_left
 ·simp only[go_sem,seval,vlV,Ik hk,u6 hi,ho]
 by_cases hj:x.j=y.j
 rotate_left
 ·simp only[go_sem,seval,vlV,Ik hk,Ik hi,u6 hj,ho]
 by_cases hn:x.n=y.n
 rotate_left
 ·simp only[go_sem,seval,vlV,Ik hk,Ik hi,Ik hj,u6 hn,ho]
 by_cases hl:x.level=y.level
 rotate_left
 ·simp only[go_sem,seval,vlV,Ik hk,Ik hi,Ik hj,Ik hn,u6 hl,ho]
 exact absurd ⟨hk,hi,hj,hn,hl,(hx.same hy hk hn).1⟩ h
def Bbw{F:Nat}(hS:Xc S m j F)(hI:RInv S m j G Γ M)(h8:M.seen<=8000000)(hF:8000000<=M.seen+F){d:Nat}(hd:d+2<=2*M.seen){x y:Vl}(hx:VOK Γ x)(hy:VOK Γ y)(h:s7 x y)(eta:Bool) :
  Dd 112 G [.gp m 0,vlV x,vlV y,.int .i64 d,.bool eta] (KdP S m j Γ M d eta x.k 0 (Ec Γ x.k 0 x.kids) (Ec Γ x.k 0 y.kids)):=by
 obtain⟨T,hT⟩:∃T,T=KdP S m j Γ M d eta x.k 0 (Ec Γ x.k 0 x.kids) (Ec Γ x.k 0 y.kids):=⟨_,rfl⟩
 rw[<-hT];obtain⟨hk,hi,hj,hn,hl,Ck⟩:=h;have Av:x.kids.length<=100:=by
  cases hx with
  |fv=>simp
  |@nd k i j n kids _ _ _ hl _=>have:=Py k n;simp only at *;omega
 have hok:∀{v:Vl},VOK Γ v->v.k=x.k->∀(q:Nat) id,v.kids[q]?=some id->∃g,Γ[id]?=some (some g)/\g.Ok (bnd x.k (0+q)):=by
  intro v hv hvk q id Br;rw[q_jg];cases hv with
  |fv=>cases Br
  |nd _ _ _ _ hk=>rw[<-hvk];exact hk q id Br
 have Sj:=Bbo (x:=x) (y:=y) (eta:=eta) (T:=T) hS Av x.kids y.kids (p:=0) hI h8 hF hd rfl rfl Ck (Nat.zero_le _) (hok hx rfl) (hok hy hk.symm) (fun out G' h=>by rw[hT];exact h);refine Po mixed Tryz.func112 tr112 ?_;have hb:(((x.kids.length:Nat):Int) != ((y.kids.length:Nat):Int))=false:=by simp[Ck]
 unfold kQ kS at Sj;simp only[go_sem,seval,vlV] at Sj
 by_cases he:x.kids=[]
 ·have he':y.kids=[]:=List.eq_nil_of_length_eq_zero (by rw[<-Ck,he];rfl);simp only[he,he'] at Sj |-;simp only[go_sem,seval,vlV,Ik hk,Ik hi,Ik hj,Ik hn,Ik hl,he,he',Ab6] at Sj |-;exact Cv _ (Dl (Bk (by simp[Ba])) Sj)
 ·have he':y.kids≠[]:=fun e=>he (List.eq_nil_of_length_eq_zero (by rw[Ck,e];rfl))
  simp only[go_sem,seval,vlV,Ik hk,Ik hi,Ik hj,Ik hn,Ik hl,Mt he,Mt he',q_g,hb];refine fun _ _=>Cv _ (Dl (Bk ?_) Sj)
  simp[Ba,vlV,vlC,Mt he,Mt he']
end
section
variable{S:SyT}{m j:Nat}{G:GV}{Γ Γ1:Gh}{M M1:Mc}{T:HOut->GV->Prop}{d:Nat}{eta:Bool}{X Y X' Y':Tm}{out:HOut}{G':GV}
def SmP.pre(hB:Bz S.B){n n':Nat}(h1:HR (plD S.B) n X X')(h2:HR (plD S.B) n' Y Y')(x:Gx Γ Γ1)(mm:Mlq M M1)(Ga:M.seen<=M1.seen)(h:SmP S m j Γ1 M1 d eta X' Y' out G'):SmP S m j Γ M d eta X Y out G':=by
 cases h with
 |ret x1 hi m1 hs h8 he=>exact .ret (x.trans x1) hi (mm.trans m1) (by omega) h8 (he.pre hB h1 h2)
 |out x1 hi m1=>exact .out (x.trans x1) hi (mm.trans m1)
 |far x1 hi m1 hs h8 hg=>exact .far (x.trans x1) hi (mm.trans m1) (by omega) h8 (mm.pos hg)
def Rv(f:Nat)(G:GV)(args:List SV)(T:HOut->GV->Prop)(K:Vl->GV->Prop):Prop:=
 (∃u G1,Am f G args (.pan u) G1/\T (.pan u) G1)\/∃v G1,Am f G args (.ret (vlV v)) G1/\K v G1
def vS(m:Nat)(x y:Vl)(d:Int)(eta:Bool)(G:GV):St:=⟨(.gp m 0::vlV x::vlV y::.int .i64 d::.bool eta::Bo (Do (jk8 (jk4 (.J::[]))))),[gOb G]⟩
def vQ(T:HOut->GV->Prop):AE->St->Prop:=bk 0 (sq (Bp Tryz.prog fun x G1=>T (.pan x) G1) a78_31 (rtQ [.t 10] T))
section
variable{n:Nat}{x y:Vl}{D:Int}{a b:Int}{G1 G2:GV}(he:Lo (vlV x) (vlV y)->T (.ret (.bool true)) G)(s1:Am 81 G [.gp m 0,vlV x] (.ret (.int .i64 a)) G1)(s2:Am 81 G1 [.gp m 0,vlV y] (.ret (.int .i64 b)) G2)
include he s1 s2
def Bjz(ha:a=0)(hb:b=0){T1:HOut->GV->Prop}(h:Dd 96 G2 [.gp m 0,vlV x,vlV y,.int .i64 D,.bool eta] T1)(hr:∀r G3,T1 (.ret r) G3->∃c,r=.bool c/\T (.ret (.bool c)) G3)(hx:∀u G3,T1 (.pan u) G3->T (.pan u) G3):vcI (Bp Tryz.prog fun x G1=>T (.pan x) G1) a78_27 (vQ T) (n+1) (vS m x y D eta G):=by
 subst ha hb;unfold vS;refine Bd ?_;simp only[go_sem,seval,vlV];refine⟨fun hb=>?_,?_⟩
 ·have:=he hb;simp only[go_sem,seval,vQ];exact this
 ·refine Ai s1 ?_;simp only[go_sem,seval];refine Ai s2 ?_;simp only[go_sem,seval];refine Ha h trivial (fun r G3 h3=>?_) (fun u G3 h3=>hx u G3 h3);obtain⟨c,rfl,h4⟩:=hr r G3 h3;simp only[go_sem,seval,vQ];exact h4
def Bj2(Jy:a=b)(h0:a≠0){T1:HOut->GV->Prop}(h:Dd 97 G2 [.gp m 0,vlV x,vlV y,.int .i64 D] T1)(hx:∀u G3,T1 (.pan u) G3->T (.pan u) G3)
  (hr:∀r G3,T1 (.ret r) G3->∃c,r=.bool c/\(c=true->T (.ret (.bool true)) G3)/\(c=false->Rv 82 G3 [.gp m 0,vlV x] T fun x' G4=>Rv 82 G4 [.gp m 0,vlV y] T fun y' G5=>vcI (Bp Tryz.prog fun x G1=>T (.pan x) G1) a78_27 (vQ T) n (vS m x' y' D eta G5))) :
  vcI (Bp Tryz.prog fun x G1=>T (.pan x) G1) a78_27 (vQ T) (n+1) (vS m x y D eta G):=by
 subst Jy;have Iw:(a==0)=false:=by simpa using h0
 unfold vS;refine Bd ?_;simp only[go_sem,seval,vlV];refine⟨fun hb=>?_,?_⟩
 ·have:=he hb;simp only[go_sem,seval,vQ];exact this
 ·refine Ai s1 ?_;simp only[go_sem,seval];refine Ai s2 ?_;simp only[go_sem,seval,Iw,beq_self_eq_true];refine Ha h trivial (fun r G3 h3=>?_) (fun u G3 h3=>hx u G3 h3);obtain⟨c,rfl,c1,c2⟩:=hr r G3 h3;cases c with
  |true=>
   have:=c1 rfl;simp only[go_sem,seval,vQ];exact this
  |false=>
   simp only[go_sem,seval,Iw,beq_self_eq_true];rcases c2 rfl with⟨u,G4,o1,o2⟩|⟨x',G4,o1,o2⟩
   ·exact Db o1 trivial o2
   ·refine Ai o1 ?_;simp only[go_sem,seval];rcases o2 with⟨u,G5,p1,p2⟩|⟨y',G5,p1,p2⟩
    ·exact Db p1 trivial p2
    ·refine Ai p1 ?_;unfold vS at p2;simp only[go_sem,seval,vlV] at p2 |-;exact Dl (Bk (by simp[Ba])) p2
def Bjy(Jy:b<a)(h:Rv 82 G2 [.gp m 0,vlV x] T fun x' G4=>vcI (Bp Tryz.prog fun x G1=>T (.pan x) G1) a78_27 (vQ T) n (vS m x' y D eta G4)) :
  vcI (Bp Tryz.prog fun x G1=>T (.pan x) G1) a78_27 (vQ T) (n+1) (vS m x y D eta G):=by
 have h0:(a==b)=false:=by simp;omega
 have h1:((a==0) && (b==0))=false:=by simp;omega
 have h2:decide (a > b)=true:=by simpa using Jy
 unfold vS;refine Bd ?_;simp only[go_sem,seval,vlV];refine⟨fun hb=>?_,?_⟩
 ·have:=he hb;simp only[go_sem,seval,vQ];exact this
 ·refine Ai s1 ?_;simp only[go_sem,seval];refine Ai s2 ?_;have key:Rv 82 G2 [.gp m 0,vlV x] T fun x' G4=>vcI (Bp Tryz.prog fun x G1=>T (.pan x) G1) a78_27 (vQ T) n (vS m x' y D eta G4):=h
  cases ca:(a==0) with
  |true=>
   have cb:(b==0)=false:=by rw[ca] at h1;simpa using h1
   simp only[go_sem,seval,ca,cb,h0,h2];rcases h with⟨u,G4,o1,o2⟩|⟨x',G4,o1,o2⟩
   ·exact Db o1 trivial o2
   ·refine Ai o1 ?_;unfold vS at o2;simp only[go_sem,seval,vlV] at o2 |-;exact Dl (Bk (by simp[Ba])) o2
  |false=>
   simp only[go_sem,seval,ca,h0,h2];rcases h with⟨u,G4,o1,o2⟩|⟨x',G4,o1,o2⟩
   ·exact Db o1 trivial o2
   ·refine Ai o1 ?_;unfold vS at o2;simp only[go_sem,seval,vlV] at o2 |-;exact Dl (Bk (by simp[Ba])) o2
def Bj1(Jy:a<b)(h:Rv 82 G2 [.gp m 0,vlV y] T fun y' G4=>vcI (Bp Tryz.prog fun x G1=>T (.pan x) G1) a78_27 (vQ T) n (vS m x y' D eta G4)) :
  vcI (Bp Tryz.prog fun x G1=>T (.pan x) G1) a78_27 (vQ T) (n+1) (vS m x y D eta G):=by
 have h0:(a==b)=false:=by simp;omega
 have h1:((a==0) && (b==0))=false:=by simp;omega
 have h2:decide (a > b)=false:=by simp;omega
 unfold vS;refine Bd ?_;simp only[go_sem,seval,vlV];refine⟨fun hb=>?_,?_⟩
 ·have:=he hb;simp only[go_sem,seval,vQ];exact this
 ·refine Ai s1 ?_;simp only[go_sem,seval];refine Ai s2 ?_;cases ca:(a==0) with
  |true=>
   have cb:(b==0)=false:=by rw[ca] at h1;simpa using h1
   simp only[go_sem,seval,ca,cb,h0,h2];rcases h with⟨u,G4,o1,o2⟩|⟨y',G4,o1,o2⟩
   ·exact Db o1 trivial o2
   ·refine Ai o1 ?_;unfold vS at o2;simp only[go_sem,seval,vlV] at o2 |-;exact Dl (Bk (by simp[Ba])) o2
  |false=>
   simp only[go_sem,seval,ca,h0,h2];rcases h with⟨u,G4,o1,o2⟩|⟨y',G4,o1,o2⟩
   ·exact Db o1 trivial o2
   ·refine Ai o1 ?_;unfold vS at o2;simp only[go_sem,seval,vlV] at o2 |-;exact Dl (Bk (by simp[Ba])) o2
end
def s5(S:SyT)(m j F:Nat):Prop:=∀{G:GV} {Γ:Gh} {M:Mc} {x y:Vl} {d:Nat} {eta:Bool},RInv S m j G Γ M->M.seen<=8000000->8000000<=M.seen+F->d+2<=2*M.seen->WOK Γ x->WOK Γ y->HN (plD S.B) (TV Γ x)->HN (plD S.B) (TV Γ y) ->
 Dd 96 G [.gp m 0,vlV x,vlV y,.int .i64 d,.bool eta] (SmP S m j Γ M d eta (TV Γ x) (TV Γ y))
def s6(S:SyT)(m j F:Nat):Prop:=∀{G:GV} {Γ:Gh} {M:Mc} {x y:Vl} {d:Nat},RInv S m j G Γ M->M.seen<=8000000->8000000<=M.seen+F->d+2<=2*M.seen->WOK Γ x->WOK Γ y ->
 Dd 97 G [.gp m 0,vlV x,vlV y,.int .i64 d] (SmP S m j Γ M d false (TV Γ x) (TV Γ y))
def Af6(L:Lib S){v:Vl}(hw:Wts S Γ v)(hI:RInv S m j G Γ M)(hv:WOK Γ v){K:Vl->GV->Prop}(ho:∀G' Γ' M',Gx Γ Γ'->RInv S m j G' Γ' M'->Mle M M'->T (.pan Sz) G')(hf:∀G' Γ' M',Gx Γ Γ'->RInv S m j G' Γ' M'->Mle M M'->0<M.guess->T (.pan Tn) G')
  (hk:∀v' G' Γ' M' n,Gx Γ Γ'->RInv S m j G' Γ' M'->Mle M M'->WOK Γ' v'->HR (plD S.B) n (TV Γ v) (TV Γ' v')->M.steps+1<=M'.steps->K v' G'):Rv 82 G [.gp m 0,vlV v] T K:=by
 obtain⟨out,G1,o1,p1⟩:=Aj2 L hw hI hv.ok;cases p1 with
 |out x hi mm h=>exact .inl ⟨_,_,o1,ho _ _ _ x hi mm⟩
 |far x hi mm h=>exact .inl ⟨_,_,o1,hf _ _ _ x hi mm h⟩
 |ret x hi mm Bq hr hs hd=>exact .inr ⟨_,_,o1,hk _ _ _ _ _ x hi mm Bq hr hd⟩
def SmP.bool{r:SV}(h:SmP S m j Γ M d eta X Y (.ret r) G'):∃c,r=.bool c:=by
 generalize ho:HOut.ret r=o at h;cases h with
 |out=>cases ho
 |far=>cases ho
 |ret=>cases ho;exact⟨_,rfl⟩
def SmP.pan{eta':Bool}{u:SV}(h:SmP S m j Γ M d eta X Y (.pan u) G'):SmP S m j Γ M d eta' X' Y' (.pan u) G':=by
 cases h with
 |out x hi mm=>exact .out x hi mm
 |far x hi mm hs h8 hg=>exact .far x hi mm hs h8 hg
def Auv(L:Lib S)(hB:Bz S.B){F:Nat}(hH:s5 S m j F)(hP:s6 S m j F){n:Nat}{x y:Vl}(hI:RInv S m j G Γ M)(h8:M.seen<=8000000)(hF:8000000<=M.seen+F)(hd:d+2<=2*M.seen)(hx:WOK Γ x)(hy:WOK Γ y)
  (hT:∀out G',SmP S m j Γ M d eta (TV Γ x) (TV Γ y) out G'->T out G')
  (tail:∀{G':GV} {Γ':Gh} {M':Mc} {x' y':Vl},RInv S m j G' Γ' M'->M'.seen<=8000000->8000000<=M'.seen+F->d+2<=2*M'.seen->M'.most=M.most->M.steps+1<=M'.steps->WOK Γ' x'->WOK Γ' y' ->
   (∀out G'',SmP S m j Γ' M' d eta (TV Γ' x') (TV Γ' y') out G''->T out G'')->vcI (Bp Tryz.prog fun x G1=>T (.pan x) G1) a78_27 (vQ T) n (vS m x' y' d eta G')) :
  vcI (Bp Tryz.prog fun x G1=>T (.pan x) G1) a78_27 (vQ T) (n+1) (vS m x y d eta G):=by
 have he:Lo (vlV x) (vlV y)->T (.ret (.bool true)) G:=fun hb=>by
  have:=Aw6 hb;subst this;exact hT _ _ (.ret (.refl Γ) hI (.refl M) (q_ja _) h8 (.refl hB))
 obtain⟨a,G1,Γ1,s1,x1,i1,a0,a1,a2⟩:=Af5 L hx.st hI hx.ok;obtain⟨b,G2,Γ2,s2,x2,i2,b0,b1,b2⟩:=Af5 L (hy.st.mono x1) i1 (hy.ok.mono x1);have S1:=Tx (s1 _ rfl);have S2:=Tx (s2 _ rfl);have x12:=x1.trans x2;have hx2:=hx.mono x12;have hy2:=hy.mono x12;have tx:TV Γ2 x=TV Γ x:=El x12 hx.ok;have ty:TV Γ2 y=TV Γ y:=El x12 hy.ok;have ty1:TV Γ1 y=TV Γ y:=El x1 hy.ok
 by_cases h0:a=0/\b=0
 ·obtain⟨ha,hb⟩:=h0;have hnx:HN (plD S.B) (TV Γ2 x):=by rw[tx];exact a0 ha hx.hn
  have hny:HN (plD S.B) (TV Γ2 y):=by rw[ty,<-ty1];exact b0 hb (hy.mono x1).hn
  refine Bjz he S1 S2 ha hb (hH i2 h8 hF hd hx2 hy2 hnx hny) (fun r G3 h=>?_) (fun u G3 h=>hT _ _ ?_)
  ·rw[tx,ty] at h;obtain⟨c,rfl⟩:=h.bool;exact⟨c,rfl,hT _ _ (h.pre hB (.refl _) (.refl _) x12 (.refl M) (q_ja _))⟩
  ·rw[tx,ty] at h;exact h.pre hB (.refl _) (.refl _) x12 (.refl M) (q_ja _)
 by_cases Jy:a=b
 ·have ha:a≠0:=fun e=>h0 ⟨e,by rw[<-Jy];exact e⟩
  have wx:=(a1 ha).mono x12;have wy:=(b1 (by rw[<-Jy];exact ha)).mono x2;refine Bj2 he S1 S2 Jy ha (hP i2 h8 hF hd hx2 hy2) (fun u G3 h=>hT _ _ ?_) (fun r G3 h=>?_)
  ·exact (h.pre hB (.refl _) (.refl _) x12 (.refl M) (q_ja _)).pan
  ·generalize ho:HOut.ret r=o at h;cases h with
   |out=>cases ho
   |far=>cases ho
   |@ret _ Γ3 M3 c x3 i3 m3 s3 Of e3=>
    cases ho;have x13:=x12.trans x3;refine⟨c,rfl,fun e=>?_,fun e=>?_⟩
    ·subst e;rw[tx,ty] at e3;exact hT _ _ (.ret x13 i3 m3 s3 Of (e3.of_join hB))
    ·have Wc:=m3.most;refine Af6 L (wx.mono x3) i3 (hx2.mono x3) (fun G' Γ' M' x hi mm=>hT _ _ (.out (x13.trans x) hi (m3.trans mm.q))) (fun G' Γ' M' x hi mm hg=>hT _ _ (.far (x13.trans x) hi (m3.trans mm.q) (by rw[mm.seen];exact s3) (by rw[mm.seen];exact Of) (m3.pos hg))) (fun x' G4 Γ4 M4 n4 x4 i4 m4 w4 r4 d4=>?_);have x14:=x13.trans x4;have g9:=m4.most;have Wh:=m4.seen;refine Af6 L ((wy.mono x3).mono x4) i4 ((hy2.mono x3).mono x4) (fun G' Γ' M' x hi mm=>hT _ _ (.out (x14.trans x) hi ((m3.trans m4.q).trans mm.q))) (fun G' Γ' M' x hi mm hg=>hT _ _ (.far (x14.trans x) hi ((m3.trans m4.q).trans mm.q) (by rw[mm.seen];omega) (by rw[mm.seen];omega) ((m3.trans m4.q).pos hg))) (fun y' G5 Γ5 M5 n5 x5 i5 m5 w5 r5 d5=>?_);have hm5:=m5.most;have hs5:=m5.seen;have Dn:=m3.steps;rw[El x3 hx2.ok,tx] at r4;rw[El x4 (hy2.mono x3).ok,El x3 hy2.ok,ty] at r5;refine tail i5 (by omega) (by omega) (by omega) (by omega) (by omega) (w4.mono x5) w5 (fun out G'' h=>hT _ _ (h.pre hB (n:=n4) (n':=n5) ?_ r5 (x14.trans x5) ((m3.trans m4.q).trans m5.q) (by omega)));rw[El x5 w4.ok];exact r4
 ·rcases Int.lt_or_gt_of_ne Jy with Ag|hgt
  ·have hb0:b≠0:=by omega
   have wy:=(b1 hb0).mono x2;refine Bj1 he S1 S2 Ag (Af6 L wy i2 hy2 (fun G' Γ' M' x hi mm=>hT _ _ (.out (x12.trans x) hi mm.q)) (fun G' Γ' M' x hi mm hg=>hT _ _ (.far (x12.trans x) hi mm.q (by rw[mm.seen];omega) (by rw[mm.seen];exact h8) hg)) (fun y' G4 Γ4 M4 n4 x4 i4 m4 w4 r4 d4=>?_));have g9:=m4.most;have Wh:=m4.seen;rw[ty] at r4;refine tail i4 (by omega) (by omega) (by omega) (by omega) (by omega) (hx2.mono x4) w4 (fun out G'' h=>hT _ _ (h.pre hB (n:=0) (n':=n4) ?_ r4 (x12.trans x4) m4.q (by omega)));rw[El x4 hx2.ok,tx];exact .refl _
  ·have ha0:a≠0:=by omega
   have wx:=(a1 ha0).mono x12;refine Bjy he S1 S2 hgt (Af6 L wx i2 hx2 (fun G' Γ' M' x hi mm=>hT _ _ (.out (x12.trans x) hi mm.q)) (fun G' Γ' M' x hi mm hg=>hT _ _ (.far (x12.trans x) hi mm.q (by rw[mm.seen];omega) (by rw[mm.seen];exact h8) hg)) (fun x' G4 Γ4 M4 n4 x4 i4 m4 w4 r4 d4=>?_));have g9:=m4.most;have Wh:=m4.seen;rw[tx] at r4;refine tail i4 (by omega) (by omega) (by omega) (by omega) (by omega) w4 (hy2.mono x4) (fun out G'' h=>hT _ _ (h.pre hB (n:=n4) (n':=0) r4 ?_ (x12.trans x4) m4.q (by omega)));rw[El x4 hy2.ok,ty];exact .refl _
def Bj0(L:Lib S)(hB:Bz S.B){F:Nat}(hH:s5 S m j F)(hP:s6 S m j F):∀(Fv:Nat) {G:GV} {Γ:Gh} {M:Mc} {x y:Vl},RInv S m j G Γ M->M.seen<=8000000->8000000<=M.seen+F->d+2<=2*M.seen->M.most<=M.steps+Fv->WOK Γ x->WOK Γ y ->
  (∀out G',SmP S m j Γ M d eta (TV Γ x) (TV Γ y) out G'->T out G')->vcI (Bp Tryz.prog fun x G1=>T (.pan x) G1) a78_27 (vQ T) (Fv+1) (vS m x y d eta G):=by
 intro Fv
 induction Fv with
 |zero=>
  intro G Γ M x y hI h8 hF hd hv hx hy hT;exact Auv L hB hH hP hI h8 hF hd hx hy hT (fun hi _ _ _ hm hs=>absurd hi.st (by omega))
 |succ Fv ih=>
  intro G Γ M x y hI h8 hF hd hv hx hy hT;exact Auv L hB hH hP hI h8 hF hd hx hy hT (fun hi h1 h2 h3 hm hs=>ih hi h1 h2 h3 (by omega))
def Bj3(L:Lib S)(hB:Bz S.B){F:Nat}(hH:s5 S m j F)(hP:s6 S m j F){x y:Vl}(hI:RInv S m j G Γ M)(h8:M.seen<=8000000)(hF:8000000<=M.seen+F)(hd:d+2<=2*M.seen)(hx:WOK Γ x)(hy:WOK Γ y) :
  Dd 78 G [.gp m 0,vlV x,vlV y,.int .i64 d,.bool eta] (SmP S m j Γ M d eta (TV Γ x) (TV Γ y)):=by
 obtain⟨T,hT⟩:∃T,T=SmP S m j Γ M d eta (TV Γ x) (TV Γ y):=⟨_,rfl⟩
 rw[<-hT];have h:=Bj0 (T:=T) (eta:=eta) L hB hH hP M.most hI h8 hF hd (by omega) hx hy (fun out G' h=>by rw[hT];exact h);refine Po mixed Tryz.func78 tr78 ?_;unfold vQ vS at h;simp only[go_sem,seval,vlV] at h |-;exact Cv _ (Dl (Bk (by simp[Ba])) h)
end
section
variable{S:SyT}{m j:Nat}{G:GV}{Γ Γ1:Gh}{M M1:Mc}{T:HOut->GV->Prop}{d:Nat}{eta:Bool}
def Ib(f:Nat)(G:GV)(args:List SV)(T:HOut->GV->Prop)(K:Bool->GV->Prop):Prop:=
 ∃T1,Dd f G args T1/\(∀r G3,T1 (.ret r) G3->∃c,r=.bool c/\K c G3)/\∀u G3,T1 (.pan u) G3->T (.pan u) G3
def Bhk{x y:Th}{a b:Nat}{D:Int}{G1:GV}(hs:Am 52 G [.gp m 0] (.ret (.tup [])) G1)(hx:G1[a]?=some (thR x))(hy:G1[b]?=some (thR y))(tx:x.bare=false->TOk x.t)(ty:y.bare=false->TOk y.t)
  (h1:(a=b\/(x.bare=false/\y.bare=false/\x.env=y.env/\x.t=y.t))->T (.ret (.bool true)) G1)
  (h2:Rv 79 G1 [.gp m 0,.gp a 0] T fun vx G2=>Rv 79 G2 [.gp m 0,.gp b 0] T fun vy G3=>Ib 78 G3 [.gp m 0,vlV vx,vlV vy,.int .i64 D,.bool eta] T fun c G4=>T (.ret (.bool c)) G4) :
  Dd 51 G [.gp m 0,.gp a 0,.gp b 0,.int .i64 D,.bool eta] T:=by
 refine Po mixed Tryz.func51 tr51 ?_;simp only[go_sem,seval];refine Ai hs ?_;obtain⟨xt,ex,bx,wx,ux⟩:=x;obtain⟨yt,ey,by_,wy,uy⟩:=y;simp only at tx ty h1
 by_cases Jy:a=b
 ·have:=h1 (.inl Jy);have Tt:(a==b)=true:=by simpa using Jy
  simp only[go_sem,seval,Tt];exact this
 have Tt:(a==b)=false:=by simpa using Jy
 have go:∀{K:SV->GV->Prop},(∀vx G2,Rv 79 G2 [.gp m 0,.gp b 0] T (fun vy G3=>Ib 78 G3 [.gp m 0,vlV vx,vlV vy,.int .i64 D,.bool eta] T fun c G4=>T (.ret (.bool c)) G4)->K (vlV vx) G2)->Tk (Bp Tryz.prog fun x G1=>T (.pan x) G1) true 79 G1 [.gp m 0,.gp a 0] True K:=by
  intro K hK;rcases h2 with⟨u,G2,o1,o2⟩|⟨vx,G2,o1,o2⟩
  ·exact Db o1 trivial o2
  ·exact Ai o1 (hK _ _ o2)
 have go2:∀{G2 vx} {K:SV->GV->Prop},Rv 79 G2 [.gp m 0,.gp b 0] T (fun vy G3=>Ib 78 G3 [.gp m 0,vlV vx,vlV vy,.int .i64 D,.bool eta] T fun c G4=>T (.ret (.bool c)) G4)->(∀vy G3,Ib 78 G3 [.gp m 0,vlV vx,vlV vy,.int .i64 D,.bool eta] T (fun c G4=>T (.ret (.bool c)) G4)->K (vlV vy) G3)->Tk (Bp Tryz.prog fun x G1=>T (.pan x) G1) true 79 G2 [.gp m 0,.gp b 0] True K:=by
  intro G2 vx K h2 hK;rcases h2 with⟨u,G2,o1,o2⟩|⟨vx,G2,o1,o2⟩
  ·exact Db o1 trivial o2
  ·exact Ai o1 (hK _ _ o2)
 have go3:∀{G3 vx vy} {K:SV->GV->Prop},Ib 78 G3 [.gp m 0,vlV vx,vlV vy,.int .i64 D,.bool eta] T (fun c G4=>T (.ret (.bool c)) G4)->(∀c G4,T (.ret (.bool c)) G4->K (.bool c) G4)->Tk (Bp Tryz.prog fun x G1=>T (.pan x) G1) true 78 G3 [.gp m 0,vlV vx,vlV vy,.int .i64 D,.bool eta] True K:=by
  rintro G3 vx vy K ⟨T1,q1,q2,q3⟩ hK;refine Ha q1 trivial (fun r G4 h=>?_) (fun u G4 h=>q3 u G4 h);obtain⟨c,rfl,hc⟩:=q2 r G4 h;exact hK c G4 hc
 cases bx with
 |true=>
  simp only[go_sem,seval,hx,Tt];refine go fun vx G2 k2=>?_
  simp only[go_sem,seval];refine go2 k2 fun vy G3 k3=>?_
  simp only[go_sem,seval];refine go3 k3 fun c G4 k4=>?_
  simp only[go_sem,seval];exact k4
 |false=>cases by_ with
  |true=>
   simp only[go_sem,seval,hx,hy,Tt];refine go fun vx G2 k2=>?_
   simp only[go_sem,seval];refine go2 k2 fun vy G3 k3=>?_
   simp only[go_sem,seval];refine go3 k3 fun c G4 k4=>?_
   simp only[go_sem,seval];exact k4
  |false=>
   have hc:=Ay8 xt (tx rfl) yt (ty rfl);cases ex with
   |nil=>cases ey with
    |nil=>
     by_cases ht:xt=yt
     ·have:=h1 (.inr ⟨rfl,rfl,rfl,ht⟩);subst ht;rw[Ac7] at hc;simp only[go_sem,seval,hx,hy,Tt,Pi];refine Af hc ?_;simp only[go_sem,seval];exact this
     ·rw[Ac6 ht] at hc;simp only[go_sem,seval,hx,hy,Tt,Pi];refine Af hc ?_;simp only[go_sem,seval];refine go fun vx G2 k2=>?_
      simp only[go_sem,seval];refine go2 k2 fun vy G3 k3=>?_
      simp only[go_sem,seval];refine go3 k3 fun c G4 k4=>?_
      simp only[go_sem,seval];exact k4
    |cons i ey=>
     simp only[go_sem,seval,hx,hy,Tt,Pi,Lv];refine go fun vx G2 k2=>?_
     simp only[go_sem,seval];refine go2 k2 fun vy G3 k3=>?_
     simp only[go_sem,seval];refine go3 k3 fun c G4 k4=>?_
     simp only[go_sem,seval];exact k4
   |cons i ex=>cases ey with
    |nil=>
     simp only[go_sem,seval,hx,hy,Tt,Pi,Lv];refine go fun vx G2 k2=>?_
     simp only[go_sem,seval];refine go2 k2 fun vy G3 k3=>?_
     simp only[go_sem,seval];refine go3 k3 fun c G4 k4=>?_
     simp only[go_sem,seval];exact k4
    |cons i' ey=>
     have hbe:=@Aw3 (i::ex) (i'::ey);rw[Lv,Lv] at hbe;simp only[go_sem,seval,hx,hy,Tt,Lv];refine⟨fun hb=>?_,?_⟩
     ·have he:=hbe hb
      by_cases ht:xt=yt
      ·have:=h1 (.inr ⟨rfl,rfl,he,ht⟩);subst ht;rw[Ac7] at hc;simp only[go_sem,seval,hx,hy,Lv];refine Af hc ?_;simp only[go_sem,seval];exact this
      ·rw[Ac6 ht] at hc;simp only[go_sem,seval,hx,hy,Lv];refine Af hc ?_;simp only[go_sem,seval];refine go fun vx G2 k2=>?_
       simp only[go_sem,seval];refine go2 k2 fun vy G3 k3=>?_
       simp only[go_sem,seval];refine go3 k3 fun c G4 k4=>?_
       simp only[go_sem,seval];exact k4
     ·simp only[go_sem,seval];refine go fun vx G2 k2=>?_
      simp only[go_sem,seval];refine go2 k2 fun vy G3 k3=>?_
      simp only[go_sem,seval];refine go3 k3 fun c G4 k4=>?_
      simp only[go_sem,seval];exact k4
def Atj{a b:Nat}{D:Int}{u:SV}{G1:GV}(hs:Am 52 G [.gp m 0] (.pan u) G1):Am 51 G [.gp m 0,.gp a 0,.gp b 0,.int .i64 D,.bool eta] (.pan u) G1:=by
 refine Bh mixed Tryz.func51 tr51 ?_;simp only[go_sem,seval];exact Db hs trivial ⟨rfl,rfl⟩
def EOK.one{K K':Nat}{e:List Nat}{es es':List Tm}(h:EOK Γ K e es)(h':EOK Γ K' e es'):es=es':=by
 apply List.ext_getElem?;intro q;have l1:=h.len;have l2:=h'.len;rcases q_jo q e.length with hq|hq
 ·obtain⟨_,g,a1,_,a2⟩:=h.at_ q _ (q_f hq);obtain⟨_,g',b1,_,b2⟩:=h'.at_ q _ (q_f hq);rw[a1] at b1;cases b1;rw[a2,b2]
 ·rw[q_jd (by omega),q_jd (by omega)]
def Ge.tok{id:Nat}{th:Th}{g:Ge}(h:ThOK G Γ id th g)(ho:g.Ok 0)(hb:th.bare=false):TOk th.t:=by
 cases g with
 |kp row=>exact ho.elim
 |dn v X=>obtain⟨_,h2,_⟩:=h;rw[hb] at h2;cases h2
 |cl t es=>
  obtain⟨_,_,h3,_⟩:=h;subst h3;obtain⟨_,⟨B,h1,h2⟩,_⟩:=ho;exact Akm h1 h2
def Ge.den_eq{a b:Nat}{th th':Th}{g g':Ge}(h:ThOK G Γ a th g)(h':ThOK G Γ b th' g')(ho:g.Ok 0)(ho':g'.Ok 0)(hb:th.bare=false)(Dg:th'.bare=false)(he:th.env=th'.env)(ht:th.t=th'.t):g.den 0=g'.den 0:=by
 cases g with
 |kp row=>exact ho.elim
 |dn v X=>obtain⟨_,h2,_⟩:=h;rw[hb] at h2;cases h2
 |cl t es=>cases g' with
  |kp row=>exact ho'.elim
  |dn v X=>obtain⟨_,h2,_⟩:=h';rw[Dg] at h2;cases h2
  |cl t' es'=>
   obtain⟨_,_,h3,h4,_⟩:=h;obtain⟨_,_,k3,k4,_⟩:=h';rw[he] at h4;have:=h4.one k4;rw[h3,k3] at ht;subst ht this;rfl
def Ati(L:Lib S)(hB:Bz S.B){F:Nat}(hHP:∀F',F=F'+1->s5 S m j F'/\s6 S m j F'):Xc S m j F:=by
 intro G Γ M a b d eta ga gb hI h8 hF hd Og oa Rd ob;obtain⟨out,G1,s1,p1⟩:=Aki hI h8;cases p1 with
 |far hi mm h e=>exact HContractQ.mono (Atj s1).q (fun out G' ⟨h1,h2⟩=>by subst h1 h2;exact .far (.refl Γ) hi mm (by omega) (by omega) h)
 |out hi mm h=>exact HContractQ.mono (Atj s1).q (fun out G' ⟨h1,h2⟩=>by subst h1 h2;exact .out (.refl Γ) hi mm)
 |@ret _ M1 hi mm e1 e2 hs=>
  match F,hHP,hF with
  |0,_,hF=>exact absurd hF (by omega)
  |F+1,hHP,hF=>
   obtain⟨hH,hP⟩:=hHP F rfl;obtain⟨thx,t1,_⟩:=hi.rows a ga Og;obtain⟨thy,u1,_⟩:=hi.rows b gb Rd;refine Bhk s1 (t1.row oa) (u1.row ob) (Ge.tok t1 oa) (Ge.tok u1 ob) (fun hc=>?_) ?_
   ·have hden:ga.den 0=gb.den 0:=by
     rcases hc with rfl|⟨c1,c2,c3,c4⟩
     ·rw[Og] at Rd;cases Rd;rfl
     ·exact Ge.den_eq t1 u1 oa ob c1 c2 c3 c4
    rw[hden];exact .ret (.refl Γ) hi mm (by omega) (by omega) (.refl hB)
   ·obtain⟨out,G2,w1,q1⟩:=q8 hi Og oa;have q1:=PostD.of q1;cases q1 with
    |out x hi2 mm2 h=>exact .inl ⟨_,_,w1,.out x hi2 (mm.trans mm2.q)⟩
    |far x hi2 mm2 h=>exact .inl ⟨_,_,w1,.far x hi2 (mm.trans mm2.q) (by rw[mm2.seen];omega) (by rw[mm2.seen];omega) (mm.pos h)⟩
    |@ret _ Γ2 M2 vx n x2 hi2 mm2 wx rx Wg Ft=>
     have hse2:=mm2.seen;obtain⟨out,G3,w2,q2⟩:=q8 hi2 (x2.get Rd) ob;have q2:=PostD.of q2;refine .inr ⟨_,_,w1,?_⟩;cases q2 with
     |out x hi3 mm3 h=>exact .inl ⟨_,_,w2,.out (x2.trans x) hi3 ((mm.trans mm2.q).trans mm3.q)⟩
     |far x hi3 mm3 h=>exact .inl ⟨_,_,w2,.far (x2.trans x) hi3 ((mm.trans mm2.q).trans mm3.q) (by rw[mm3.seen];omega) (by rw[mm3.seen];omega) ((mm.trans mm2.q).pos h)⟩
     |@ret _ Γ3 M3 vy n' x3 hi3 mm3 wy ry Uf hd3=>
      have Yl:=mm3.seen;refine .inr ⟨_,_,w2,?_⟩;have hq:=Bj3 (eta:=eta) L hB hH hP (d:=d) hi3 (by omega) (by omega) (by omega) (wx.mono x3) wy;have key:∀out G',SmP S m j Γ3 M3 d eta (TV Γ3 vx) (TV Γ3 vy) out G'->SmP S m j Γ M d eta (ga.den 0) (gb.den 0) out G':=fun out G' h=>
       h.pre hB (n:=n) (n':=n') (by rw[El x3 wx.ok];exact rx) ry (x2.trans x3) ((mm.trans mm2.q).trans mm3.q) (by omega)
      refine⟨_,hq,fun r G4 h=>?_,fun u G4 h=>key _ _ h⟩;obtain⟨c,rfl⟩:=h.bool;exact⟨c,rfl,key _ _ h⟩
end
end Go.Proofs.YtgdkddjdhijfnaaGreatDoor.Abs
