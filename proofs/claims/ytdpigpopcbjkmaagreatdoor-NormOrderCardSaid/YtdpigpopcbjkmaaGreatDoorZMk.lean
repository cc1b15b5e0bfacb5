import Derived.Test.YtdpigpopcbjkmaaGreatDoorZRw
import Derived.Test.YtdpigpopcbjkmaaGreatDoorZRx
import Derived.Test.YtdpigpopcbjkmaaGreatDoorZDw
import Derived.Test.YtdpigpopcbjkmaaGreatDoorZRb
set_option linter.unusedSimpArgs false
set_option linter.unusedVariables false
set_option maxRecDepth 20000
set_option maxHeartbeats 4000000
namespace Go.Proofs.YtdpigpopcbjkmaaGreatDoor.Abs
open Go Go.RowKit Go.Proofs.YtdpigpopcbjkmaaGreatDoor
def Gf (d:Nat):Nat->List Tm
 |0=>[]
 |n+1=>fT ((d+n:Nat):Int)::Gf d n
theorem Af2 (d n:Nat):∀u∈Gf d n,Wf 0 u:=by
 induction n with
 |zero=>intro u hu;cases hu
 |succ n ih=>
  intro u hu;rcases List.mem_cons.1 hu with rfl|hu
  ·exact .fv _ _
  ·exact ih u hu
mutual
def tsz:Tm->Nat
 |.mk _ _ _ _ l=>1+Aar l
def Aar:List Tm->Nat
 |[]=>0
 |t::l=>tsz t+Aar l
end
theorem Az9:∀l:List Tm,Aar l=(l.map tsz).sum:=by
 intro l
 induction l with
 |nil=>rfl
 |cons t l ih=>rw [Aar,ih];simp
theorem Gv (k i j n:Int) (l:List Tm):tsz (.mk k i j n l)=1+(l.map tsz).sum:=by rw [tsz,Az9]
theorem Vd (t:Tm):1<=tsz t:=by cases t;rw [Gv];omega
theorem Apy {t:Tm} (h:Wf 0 t):Ap [] 0 t=t:=
 Ajb h (Nat.le_refl _) (fun c' i hi _=>by unfold ivI;rw [if_pos (by omega)]) (fun _ _=>rfl)
abbrev BT:=Int->Int->Int->Option Tm
inductive NR (B:BT):Nat->Tm->Nat->Tm->Prop
 |fv {d n:Nat} {T:Tm} {l:Int} (h:HR (plD B) n T (fT l)):NR B d T n (.mk 2 ((d:Int)-1-l) 0 0 [])
 |nd {d n:Nat} {T:Tm} {k i j n':Int} {l rs:List Tm} {Ns:List Nat} (h:HR (plD B) n T (.mk k i j n' l)) (hn:HN (plD B) (.mk k i j n' l)) (h0:k≠0) (hN:Ns.length=l.length) (hr:rs.length=l.length)
   (hk:∀(p:Nat) t N r,l[p]?=some t->Ns[p]?=some N->rs[p]?=some r->NR B (d+bnd k p) (Ap (Gf d (bnd k p)) 0 t) N r):NR B d T (n+Ns.sum) (.mk k i j n' rs)
theorem Sg {B:BT} (l:Int):HN (plD B) (fT l):=by
 refine .mk ?_ (fun p hp=>by cases hp);unfold plD plW fT;rw [if_neg (k_ne (by decide)),if_neg (fun c=>absurd c.1 (k_ne (by decide))),if_neg (fun c=>absurd c.1 (k_ne (by decide))),if_neg (fun c=>absurd c.1 (k_ne (by decide))),if_neg (fun c=>absurd c.1 (k_ne (by decide)))]
theorem NR.det {B:BT} {d N:Nat} {T r:Tm} (h:NR B d T N r):∀{N' r'},NR B d T N' r'->N=N'/\r=r':=by
 induction h with
 |@fv d n T l h=>
  intro N' r' h';cases h' with
  |fv h2=>
   obtain⟨a,b⟩:=Uo h (Sg _) h2 (Sg _);unfold fT at b;cases b;exact⟨a,rfl⟩
  |nd h2 hn h0=>
   obtain⟨a,b⟩:=Uo h (Sg _) h2 hn;unfold fT at b;cases b;exact absurd rfl h0
 |@nd d n T k i j n' l rs Ns h hn h0 hN hr hk ih=>
  intro N' r' h';cases h' with
  |fv h2=>
   obtain⟨a,b⟩:=Uo h hn h2 (Sg _);unfold fT at b;cases b;exact absurd rfl h0
  |@nd _ n2 _ k2 i2 j2 n2' l2 rs2 Ns2 h2 Qb h02 hN2 Fz Dj=>
   obtain⟨a,b⟩:=Uo h hn h2 Qb;cases b;have key:∀(p:Nat) t,l[p]?=some t->Ns[p]?=Ns2[p]?/\rs[p]?=rs2[p]?:=fun p t ht=>by
    have Ab:=Dt ht;have e1:Ns[p]?=some Ns[p]:=q_f (by omega);have e2:rs[p]?=some rs[p]:=q_f (by omega);have e3:Ns2[p]?=some Ns2[p]:=q_f (by omega);have e4:rs2[p]?=some rs2[p]:=q_f (by omega);obtain⟨c,d⟩:=ih p t _ _ ht e1 e2 (Dj p t _ _ ht e3 e4);rw [e1,e2,e3,e4,c,d];exact⟨rfl,rfl⟩
   have hNs:Ns=Ns2:=by
    apply List.ext_getElem?;intro p;cases ht:l[p]? with
    |some t=>exact (key p t ht).1
    |none=>
     have:=List.getElem?_eq_none_iff.1 ht;rw [List.getElem?_eq_none (by omega),List.getElem?_eq_none (by omega)]
   have hrs:rs=rs2:=by
    apply List.ext_getElem?;intro p;cases ht:l[p]? with
    |some t=>exact (key p t ht).2
    |none=>
     have:=List.getElem?_eq_none_iff.1 ht;rw [List.getElem?_eq_none (by omega),List.getElem?_eq_none (by omega)]
   subst hNs hrs;exact⟨by omega,rfl⟩
theorem NR.pre {B:BT} {d N n:Nat} {T U r:Tm} (hr:HR (plD B) n T U) (h:NR B d U N r):NR B d T (n+N) r:=by
 cases h with
 |fv h=>exact .fv (Qx hr h)
 |nd h hn h0 hN hrl hk=>rw [<-Nat.add_assoc];exact .nd (Qx hr h) hn h0 hN hrl hk
theorem NR.head {B:BT} {d N:Nat} {T r:Tm} (h:NR B d T N r):∃n Y,n<=N/\HR (plD B) n T Y/\HN (plD B) Y:=by
 cases h with
 |fv h=>exact⟨_,_,Nat.le_refl _,h,Sg _⟩
 |nd h hn=>exact⟨_,_,Nat.le_add_right _ _,h,hn⟩
structure Mlq (M M':Mc):Prop where
 most:M'.most=M.most
 steps:M.steps<=M'.steps
 guess:M.guess=0->M'.guess=0
theorem Mlq.refl (M:Mc):Mlq M M:=⟨rfl,Nat.le_refl _,id⟩
theorem Mlq.trans {a b c:Mc} (h:Mlq a b) (k:Mlq b c):Mlq a c:=⟨k.most.trans h.most,Nat.le_trans h.steps k.steps,fun g=>k.guess (h.guess g)⟩
theorem Mle.q {M M':Mc} (h:Mle M M'):Mlq M M':=⟨h.most,h.steps,h.guess⟩
theorem Mlq.pos {M M1:Mc} (h:Mlq M M1) (g:0<M1.guess):0<M.guess:=by
 have:=h.guess;omega
section
variable {S:SyT} {m j:Nat} {Γ:Gh} {M:Mc} {G:List (List SV)}
inductive Aa3 (S:SyT) (m j:Nat) (Γ:Gh) (M:Mc):HOut->List (List SV)->Prop
 |ret {G':List (List SV)} {M':Mc} (hi:RInv S m j G' Γ M') (mm:Mlq M M') (h1:M'.seen=M.seen+1) (h2:M'.steps=M.steps) (hs:M.seen<8000000):Aa3 S m j Γ M (.ret (.tup [])) G'
 |out {G':List (List SV)} {M':Mc} (hi:RInv S m j G' Γ M') (mm:Mlq M M') (hs:8000000<=M.seen):Aa3 S m j Γ M (.pan Tl) G'
 |far {G':List (List SV)} {M':Mc} (hi:RInv S m j G' Γ M') (mm:Mlq M M') (hg:0<M.guess):Aa3 S m j Γ M (.pan Vs) G'
theorem Aj8 (h:RInv S m j G Γ M) (h8:M.seen<=8000000):∃out G',Ad 58 G [.gp m 0] out G'/\Aa3 S m j Γ M out G':=by
 have hm:=h.mc;obtain⟨steps,most,seen,guess⟩:=M;have Dp:=h.st;have Ox:=h.mo;have Hn:=h.se;have Bh:=h.gu;simp only at Dp Ox Hn Bh h8;unfold Mc.row at hm;simp only at hm;have hf:fit (guess:Int):=by unfold fit;omega
 by_cases h1:guess=1
 ·subst h1;exact⟨_,_,Ayk hm,.far (h.mach ⟨steps,most,seen,0⟩ Dp Ox Hn (by simp)) ⟨rfl,Nat.le_refl _,fun _=>rfl⟩ (by simp)⟩
 have hg:(guess:Int)≠1:=by omega
 by_cases h2:seen<8000000
 ·refine⟨_,_,Aic hm hf hg (by omega) (by omega),?_⟩;rw [Aaf];exact .ret (h.mach ⟨steps,most,seen+1,guess-1⟩ Dp Ox (by simp only;omega) (by simp only;omega)) ⟨rfl,Nat.le_refl _,fun g=>by simp only at g |-;omega⟩ rfl rfl h2
 ·refine⟨_,_,An1 hm hf hg (by omega) (by unfold fit;omega),?_⟩;rw [Aaf];exact .out (h.mach ⟨steps,most,seen+1,guess-1⟩ Dp Ox (by simp only;omega) (by simp only;omega)) ⟨rfl,Nat.le_refl _,fun g=>by simp only at g |-;omega⟩ (by simp only;omega)
theorem Ai2 {d:Nat} (hd:d<=cap):WOK Γ ⟨2,0,0,0,(d:Int),[]⟩:=⟨.fv _ (by omega),.base stk2,j8 stk0⟩
theorem Adt {l:Int}:TV Γ ⟨2,0,0,0,l,[]⟩=fT l:=rfl
theorem Ata (h:RInv S m j G Γ M) {id n d:Nat} {g:Ge} (hg:Γ[id]?=some (some g)) (ho:g.Ok n) (hn:n<=2) (hd:d+2<=cap) :
  ∃id' G' Γ' g',UnR d n G id id' G'/\Gx Γ Γ'/\RInv S m j G' Γ' M/\Γ'[id']?=some (some g')/\g'.Ok 0/\g'.den 0=Ap (Gf d n) 0 (g.den n):=by
 have hc:cap=1099511627776:=rfl;rcases Nat.eq_zero_or_pos n with rfl|Ci
 ·exact⟨id,G,Γ,g,.no rfl,.refl Γ,h,hg,ho,by rw [show Gf d 0=[] from rfl,Apy ho.wf]⟩
 cases g with
 |kp row=>exact ho.elim
 |dn v T=>exact absurd ho.1 (by omega)
 |cl t es=>
  obtain⟨th,t1,_⟩:=h.rows id _ hg;obtain⟨q1,q2,q3,q4,_⟩:=t1;subst q3;obtain⟨o1,o2,o3⟩:=ho;have Aj:=q4.len;have i1:=h.pushDn (Ai2 (d:=d) (by omega));rw [Adt] at i1;rcases (show n=1\/n=2 by omega) with rfl|rfl
  ·have hu:=A3y q1 q2 (d:Int) (by unfold fit;omega) (by unfold fit;omega);have hen:EOK (Γ++[some (.dn ⟨2,0,0,0,(d:Int),[]⟩ (fT d))]) (Γ.length+1) (G.length::th.env) (fT (d:Int)::es):=by
    rw [h.len];exact (q4.top.mono (.app _ _) (Nat.le_succ _)).push (g:=.dn ⟨2,0,0,0,(d:Int),[]⟩ (fT d)) (Nat.lt_succ_self _) (by simp) ⟨rfl,.fv _ _⟩
   have i2:=i1.pushCl (t:=th.t) hen (by simp [h.len]);rw [List.append_assoc] at i2;refine⟨_,_,_,.cl th.t (fT (d:Int)::es),.yes Ci hu,(Gx.app _ _).trans (.app _ _),i2,by rw [h.len];simp,⟨hen.wf,o2,by simp only [List.length_cons];omega⟩,?_⟩;show Ap (fT (d:Int)::es) 0 th.t=Ap (Gf d 1) 0 (Ap es 1 th.t);exact (t8 o1 (Af2 d 1) th.t).symm
  ·have hu:=Axg q1 q2 (d:Int) (by unfold fit;omega) (by unfold fit;omega) (by unfold fit;omega);have hen:EOK (Γ++[some (.dn ⟨2,0,0,0,(d:Int),[]⟩ (fT d))]) (Γ.length+1) (G.length::th.env) (fT (d:Int)::es):=by
    rw [h.len];exact (q4.top.mono (.app _ _) (Nat.le_succ _)).push (g:=.dn ⟨2,0,0,0,(d:Int),[]⟩ (fT d)) (Nat.lt_succ_self _) (by simp) ⟨rfl,.fv _ _⟩
   have i2:=i1.pushDn (Ai2 (d:=d+1) (by omega));rw [Adt] at i2;have hen2:EOK (Γ++[some (.dn ⟨2,0,0,0,(d:Int),[]⟩ (fT d))]++[some (.dn ⟨2,0,0,0,((d+1:Nat):Int),[]⟩ (fT (d+1:Nat)))]) (Γ.length+2) ((G.length+1)::G.length::th.env) (fT ((d+1:Nat):Int)::fT (d:Int)::es):=
    (hen.mono (.app _ _) (Nat.le_succ _)).push (g:=.dn ⟨2,0,0,0,((d+1:Nat):Int),[]⟩ (fT (d+1:Nat))) (by rw [h.len];omega) (by rw [h.len];simp) ⟨rfl,.fv _ _⟩
   have i3:=i2.pushCl (t:=th.t) hen2 (by simp [h.len]);rw [List.append_assoc,List.append_assoc] at i3;refine⟨_,_,_,.cl th.t (fT ((d+1:Nat):Int)::fT (d:Int)::es),.yes Ci hu,((Gx.app _ _).trans (.app _ _)).trans (.app _ _),i3,by rw [h.len];simp,⟨hen2.wf,o2,by simp only [List.length_cons];omega⟩,?_⟩;show Ap (fT ((d+1:Nat):Int)::fT (d:Int)::es) 0 th.t=Ap (Gf d 2) 0 (Ap es 2 th.t);exact (t8 o1 (Af2 d 2) th.t).symm
inductive Aat (S:SyT) (m j:Nat) (Γ:Gh) (M:Mc) (d:Nat) (T:Tm):HOut->List (List SV)->Prop
 |ret {G':List (List SV)} {Γ':Gh} {M':Mc} {N:Nat} {r:Tm} (x:Gx Γ Γ') (hi:RInv S m j G' Γ' M') (mm:Mlq M M') (hn:NR S.B d T N r) (hs:M'.steps<=M.steps+N) (Hn:M'.seen=M.seen+tsz r) (h8:M'.seen<=8000000):Aat S m j Γ M d T (.ret (.agg true (tv r))) G'
 |out {G':List (List SV)} {Γ':Gh} {M':Mc} (x:Gx Γ Γ') (hi:RInv S m j G' Γ' M') (mm:Mlq M M') (h:∀N r,NR S.B d T N r->M.most<M.steps+N\/8000000<M.seen+tsz r):Aat S m j Γ M d T (.pan Tl) G'
 |far {G':List (List SV)} {Γ':Gh} {M':Mc} (x:Gx Γ Γ') (hi:RInv S m j G' Γ' M') (mm:Mlq M M') (hg:0<M.guess):Aat S m j Γ M d T (.pan Vs) G'
inductive Aa2 (S:SyT) (m j:Nat) (Γ:Gh) (M:Mc) (d:Nat) (k:Int) (p:Nat) (Ts:List Tm):(List Tm ⊕ SV)->List (List SV)->Prop
 |ret {G':List (List SV)} {Γ':Gh} {M':Mc} {Ns:List Nat} {rs:List Tm} (x:Gx Γ Γ') (hi:RInv S m j G' Γ' M') (mm:Mlq M M') (hN:Ns.length=Ts.length) (hr:rs.length=Ts.length)
   (hk:∀(q:Nat) t N r,Ts[q]?=some t->Ns[q]?=some N->rs[q]?=some r->NR S.B (d+bnd k (p+q)) (Ap (Gf d (bnd k (p+q))) 0 t) N r) (hs:M'.steps<=M.steps+Ns.sum) (Hn:M'.seen=M.seen+(rs.map tsz).sum) (h8:M'.seen<=8000000):Aa2 S m j Γ M d k p Ts (.inl rs) G'
 |out {G':List (List SV)} {Γ':Gh} {M':Mc} (x:Gx Γ Γ') (hi:RInv S m j G' Γ' M') (mm:Mlq M M') (h:∀(Ns:List Nat) (rs:List Tm),Ns.length=Ts.length->rs.length=Ts.length ->
   (∀(q:Nat) t N r,Ts[q]?=some t->Ns[q]?=some N->rs[q]?=some r->NR S.B (d+bnd k (p+q)) (Ap (Gf d (bnd k (p+q))) 0 t) N r)->M.most<M.steps+Ns.sum\/8000000<M.seen+(rs.map tsz).sum):Aa2 S m j Γ M d k p Ts (.inr Tl) G'
 |far {G':List (List SV)} {Γ':Gh} {M':Mc} (x:Gx Γ Γ') (hi:RInv S m j G' Γ' M') (mm:Mlq M M') (hg:0<M.guess):Aa2 S m j Γ M d k p Ts (.inr Vs) G'
def QuT (S:SyT) (m j F:Nat):Prop:=∀{G:List (List SV)} {Γ:Gh} {M:Mc} {id d:Nat} {g:Ge},RInv S m j G Γ M->M.seen<=8000000->8000000<=M.seen+F->d<=2*M.seen->Γ[id]?=some (some g)->g.Ok 0 ->
 ∃out G',Ad 35 G [.gp m 0,.gp id 0,.int .i64 d] out G'/\Aat S m j Γ M d (g.den 0) out G'
theorem A5x {F:Nat} (hQ:QuT S m j F) {d:Nat} {k:Int}:∀(l:List Nat) {p:Nat} {Γ:Gh} {G:List (List SV)} {M:Mc},RInv S m j G Γ M->M.seen<=8000000->8000000<=M.seen+F->d+2<=2*M.seen ->
  (∀(q:Nat) id,l[q]?=some id->∃g,Γ[id]?=some (some g)/\g.Ok (bnd k (p+q)))->∃out G',QkR m d k p G l out G'/\Aa2 S m j Γ M d k p (Gy Γ k p l) out G':=by
 intro l
 induction l with
 |nil=>
  intro p Γ G M hI h8 hF hd hk;exact⟨_,_,.nil,.ret (Ns:=[]) (.refl Γ) hI (.refl M) rfl rfl (fun q t N r ht=>by cases ht) (by simp) (by simp) h8⟩
 |cons i l ih=>
  intro p Γ G M hI h8 hF hd hk;have hc:cap=1099511627776:=rfl;obtain⟨g,hg,ho⟩:=hk 0 i rfl;rw [Nat.add_zero] at ho;have hb:=q9 k p;obtain⟨i',G1,Γ1,g1,u1,x1,i1,hg1,Pv,e1⟩:=Ata hI hg ho hb (show d+2<=cap by omega);obtain⟨out,G2,q2,p2⟩:=hQ (d:=d+bnd k p) i1 h8 hF (by omega) hg1 Pv;have Zs:Gy Γ k p (i::l)=g.den (bnd k p)::Gy Γ k (p+1) l:=by rw [Gy,Mp hg]
  rw [e1] at p2;rw [Int.natCast_add] at q2;cases p2 with
  |far x hi mm h=>exact⟨_,_,.pan u1 q2,.far (x1.trans x) hi mm h⟩
  |out x hi mm h=>
   refine⟨_,_,.pan u1 q2,.out (x1.trans x) hi mm (fun Ns rs hN hr hk'=>?_)⟩;rw [Zs] at hN hr hk';simp only [List.length_cons] at hN hr
   match Ns,rs,hN,hr with
   |N::Ns,r::rs,_,_=>
    have:=h N r (by have:=hk' 0 _ N r rfl rfl rfl;rwa [Nat.add_zero] at this);simp only [List.sum_cons,q_h];omega
  |@ret _ Γ2 M2 N r x hi mm hn hs Hn h82=>
   have Ci:=Vd r;obtain⟨out,G3,q3,p3⟩:=ih (p:=p+1) hi h82 (by omega) (by omega) (fun q id Bb=>by
    obtain⟨g,hg,ho⟩:=hk (q+1) id (by simpa using Bb);exact⟨g,(x1.trans x).get hg,by rw [show p+1+q=p+(q+1) by omega];exact ho⟩)
   have hkT2:Gy Γ2 k (p+1) l=Gy Γ k (p+1) l:=by
    apply List.ext_getElem?;intro q;rw [Ms,Ms];cases hq:l[q]? with
    |none=>rfl
    |some id=>
     obtain⟨g,hg,ho⟩:=hk (q+1) id (by simpa using hq);simp only [Option.map_some,(x1.trans x).den hg]
   rw [hkT2] at p3;have hm:=mm.most;cases p3 with
   |far x' Bq mm' h'=>exact⟨_,_,.cpan u1 q2 q3,.far ((x1.trans x).trans x') Bq (mm.trans mm') (mm.pos h')⟩
   |out x' Bq mm' h'=>
    refine⟨_,_,.cpan u1 q2 q3,.out ((x1.trans x).trans x') Bq (mm.trans mm') (fun Ns rs hN hr hk'=>?_)⟩;rw [Zs] at hN hr hk';simp only [List.length_cons] at hN hr
    match Ns,rs,hN,hr with
    |N'::Ns,r'::rs,hN,hr=>
     have Tv:=hk' 0 _ N' r' rfl rfl rfl;rw [Nat.add_zero] at Tv;obtain⟨rfl,rfl⟩:=hn.det Tv;have:=h' Ns rs (by simpa using hN) (by simpa using hr) (fun q t N r ht h1 h2=>by
      have:=hk' (q+1) t N r (by simpa using ht) (by simpa using h1) (by simpa using h2)
      rwa [show p+(q+1)=p+1+q by omega] at this)
     simp only [List.sum_cons,q_h];omega
   |@ret _ Γ3 M3 Ns rs x' Bq mm' hN hr hk' f6 hse' h83=>
    refine⟨_,_,.cons u1 q2 q3,.ret (Ns:=N::Ns) ((x1.trans x).trans x') Bq (mm.trans mm') (by rw [Zs];simp [hN]) (by rw [Zs];simp [hr]) (fun q t N' r' ht h1 h2=>?_) (by simp only [List.sum_cons];omega) (by simp only [q_h,List.sum_cons];omega) h83⟩;rw [Zs] at ht;cases q with
    |zero=>
     simp only [List.getElem?_cons_zero,q_b] at ht h1 h2;subst ht h1 h2;rw [Nat.add_zero];exact hn
    |succ q=>
     have:=hk' q t N' r' (by simpa using ht) (by simpa using h1) (by simpa using h2)
     rwa [show p+1+q=p+(q+1) by omega] at this
theorem A5j (L:Lib S):∀F,QuT S m j F:=by
 intro F
 induction F with
 |zero=>
  intro G Γ M id d g hI h8 hF hd hg ho;obtain⟨out,G1,s1,p1⟩:=Aj8 hI h8;cases p1 with
  |far hi mm h=>exact⟨_,_,z8 s1,.far (.refl Γ) hi mm h⟩
  |out hi mm h=>exact⟨_,_,z8 s1,.out (.refl Γ) hi mm (fun N r _=>by have:=Vd r;omega)⟩
  |ret hi mm h1 h2 hs=>omega
 |succ F ih=>
  intro G Γ M id d g hI h8 hF hd hg ho;obtain⟨out,G1,s1,p1⟩:=Aj8 hI h8;have hc:cap=1099511627776:=rfl;cases p1 with
  |far hi mm h=>exact⟨_,_,z8 s1,.far (.refl Γ) hi mm h⟩
  |out hi mm h=>exact⟨_,_,z8 s1,.out (.refl Γ) hi mm (fun N r _=>by have:=Vd r;omega)⟩
  |@ret _ M1 hi mm h1 h2 hs=>
   obtain⟨out,G2,e2,p2⟩:=Ave L hi hg ho;have Ox:=mm.most;cases p2 with
   |far x Bq mm' h=>exact⟨_,_,Ag2 s1 e2,.far x Bq (mm.trans mm'.q) (mm.pos h)⟩
   |out x Bq mm' h=>
    refine⟨_,_,Ag2 s1 e2,.out x Bq (mm.trans mm'.q) (fun N r hn=>?_)⟩;obtain⟨n,Y,Ip,Qb,hn3⟩:=hn.head;have:=h n Y Qb hn3;omega
   |@ret _ Γ2 M2 v n x Bq mm' hv hn hr hsn=>
    have hseen:=mm'.seen;have hok:=hv.ok;have hTV:TV Γ2 v=TV Γ2 v:=rfl;cases hok with
    |fv l hl=>
     rw [Adt] at hr;exact⟨_,_,Bcf s1 e2 rfl (by unfold fit;omega) (by simp only;unfold fit;omega),.ret x Bq (mm.trans mm'.q) (.fv hr) (by omega) (by rw [Gv];simp;omega) (by omega)⟩
    |@nd k i j' n' kids k2 k0 hf hl hk=>
     rw [Kc (show (Vl.mk k i j' n' 0 kids).k≠2 from k2)] at hr hn;simp only at hr hn
     by_cases Aw:kids=[]
     ·subst Aw;exact⟨_,_,Asd s1 e2 k2 rfl,.ret x Bq (mm.trans mm'.q) (.nd (Ns:=[]) (rs:=[]) hr hn k0 rfl rfl (fun p t N r ht=>by cases ht)) (by simp;omega) (by rw [Gv];simp;omega) (by omega)⟩
     ·obtain⟨out,G3,q3,p3⟩:=A5x ih (d:=d) (k:=k) kids (p:=0) Bq (by omega) (by omega) (by omega) (fun q id Bb=>by rw [Nat.zero_add];exact hk q id Bb);have Aj:kids.length<=100:=by have:=Qr k n';omega
      have hdp:fit (d:Int)/\fit ((d:Int)+2):=by unfold fit;omega
      cases p3 with
      |far x' hi3 mm3 h=>exact⟨_,_,Akt s1 e2 k2 Aw Aj hdp q3,.far (x.trans x') hi3 ((mm.trans mm'.q).trans mm3) ((mm.trans mm'.q).pos h)⟩
      |out x' hi3 mm3 h=>
       refine⟨_,_,Akt s1 e2 k2 Aw Aj hdp q3,.out (x.trans x') hi3 ((mm.trans mm'.q).trans mm3) (fun N r Ib=>?_)⟩;have hmo2:=mm'.most;cases Ib with
       |fv h'=>
        obtain⟨a,b⟩:=Uo hr hn h' (Sg _);unfold fT at b;exact absurd (Tm.mk.inj b).1 k0
       |@nd _ n2 _ k2' i2 j2 n2' l2 rs2 Ns2 h' Qb h02 hN2 Fz Dj=>
        obtain⟨a,b⟩:=Uo hr hn h' Qb;cases b;have:=h Ns2 rs2 hN2 Fz (fun q t N r ht h1 h2=>by rw [Nat.zero_add];exact Dj q t N r ht h1 h2);rw [Gv];omega
      |@ret _ Γ3 M3 Ns rs x' hi3 mm3 hN Ul hk3 Cq hse3 h83=>
       rw [Np] at hN Ul;refine⟨_,_,Az0 s1 e2 k2 Aw Aj hdp q3 (by intro e;subst e;simp at Ul;exact Aw (by cases kids with|nil=>rfl|cons a b=>simp at Ul)),.ret (N:=n+Ns.sum) (x.trans x') hi3 ((mm.trans mm'.q).trans mm3) (.nd (Ns:=Ns) (rs:=rs) hr hn k0 (by rw [Np];exact hN) (by rw [Np];exact Ul) (fun p t N r ht h1 h2=>by have:=hk3 p t N r ht h1 h2;rwa [Nat.zero_add] at this)) (by omega) (by rw [Gv];omega) h83⟩
end
open Go Go.RowKit Go.Proofs.YtdpigpopcbjkmaaGreatDoor
def Fq:List SV:=[.int .i64 0,.int .i64 0,.int .i64 0,.int .i64 0,.nils]
def Hb:List SV:=[.int .i64 0]
theorem A8m {o n:Nat} {k:FloatKind} {b:Nat}:Fs o n (.float k b)=.float k b:=rfl
theorem A5q {o n:Nat}:Fs o n .jk=.jk:=rfl
theorem Bd2 {n c:Nat}:Fs 3 n (.ref 1 0 0 c)=.ref 1 0 0 c:=rfl
theorem Any {n c:Nat}:Fs 3 n (.ref 3 0 0 c)=.gp n c:=rfl
theorem Bed {n c:Nat}:Fs 2 n (.ref 3 0 0 c)=.ref 3 0 0 c:=rfl
attribute [go_sem] A8m A5q Bd2 Any Bed
theorem Aku:Yc Tryz.prog Tryz.f14=some (af14,10,31,[4,5],2):=by kernel_rfl
theorem A2j:Aeb Tryz.prog Tryz.f14 31 75 4 5 Fq Hb (.tup [.agg true Fq,.int .i64 6]):=by
 intro w b1 b2 c1 c2 e1 e2 tmps m R h1 h2 Aw j1 j2 p1 p2 hR;obtain⟨v0,q0,r0⟩:=j1 0 _ rfl;obtain⟨v1,q1,r1⟩:=j1 1 _ rfl;obtain⟨v2,q2,r2⟩:=j1 2 _ rfl;obtain⟨v3,q3,r3⟩:=j1 3 _ rfl;obtain⟨v4,q4,r4⟩:=j1 4 _ rfl;obtain⟨v5,q5,r5⟩:=j2 0 _ rfl;cases r0;cases r1;cases r2;cases r3;cases r4;cases r5;refine leaves_cons (by simp) (l7 _ w) ?_;refine (Nrm.rec_norm w b1 b2 c1 c2 e1 e2 h1 h2 q0 q1 q2 q3 q4 q5 Aw).mono ?_;rintro e u' w' ⟨rfl,rfl,hc⟩;refine⟨_,Nrm.load_norm tmps w' b1 b2 p1 p2 hc.c0 hc.c1 hc.c2 hc.c3 hc.c4 hc.c5,hR _ w' (fun m=>?_) hc.os hc.tape hc.output hc.size hc.old⟩;refine .tup _ _ rfl (fun j v x hv hx=>?_)
 match j,hv,hx with
 |0,hv,hx=>
  cases hv;cases hx;refine .agg _ _ (by decide) rfl (fun j v x hv hx=>?_)
  match j,hv,hx with
  |0,hv,hx=>cases hv;cases hx;exact .int _ _
  |1,hv,hx=>cases hv;cases hx;exact .int _ _
  |2,hv,hx=>cases hv;cases hx;exact .int _ _
  |3,hv,hx=>cases hv;cases hx;exact .int _ _
  |4,hv,hx=>cases hv;cases hx;exact .nils
  |_+5,hv,hx=>simp at hv
 |1,hv,hx=>cases hv;cases hx;exact .int _ _
 |_+2,hv,hx=>simp at hv
theorem Axp {t r:Tm} (ht:TOk t) (hp:Ch t=true) {b:Nat} {L:Int} (hL:Con 34 [.float .f64 b] (.int .i64 L)) {G':List (List SV)} (hQ:Ad 35 [Fq,Hb,[.undef],Bv 0 L 0 0 2,thR ⟨t,[],false,none,none⟩] [.gp 3 0,.gp 4 0,.int .i64 0] (.ret (.agg true (tv r))) G') (g0:G'[0]?=some Fq) (g1:G'[1]?=some Hb) :
  Con 14 [.agg true (tv t),.float .f64 b] (.tup [.agg true (tv r),.int .i64 0]):=by
 refine Auh mixed Tryz.func14 Aku l7 Nrm.idle_norm (Xt _ _) (Ab4 _ _) ?_;have hc:=Wy t ht;rw [show Ej t 2=true from hp] at hc;have hn:=j5 [Fq,Hb] L;have hl:=Qt [Fq,Hb,[.undef],Bv 0 L 0 0 2] t [];have Rj:Ad 36 [Fq,Hb,[.undef],Bv 0 L 0 0 2] [.agg true (tv t),.nilp] (.ret (.gp 4 0)) [Fq,Hb,[.undef],Bv 0 L 0 0 2,thR ⟨t,[],false,none,none⟩]:=hl;clear hl;have h5:=Ag t;generalize thR ⟨t,[],false,none,none⟩=th at *
 have h6:=Ag r;have h7:Dw (tv r)=false:=by cases r;rw [Am];rfl
 generalize tv r=r0 at *
 generalize tv t=row at *
 unfold Ak8;simp only [go_sem,seval,h5];refine Aa hc ?_;simp only [go_sem,seval,h5];refine⟨_,rfl,by simp,_,.trans (.promo _ 2 _ [] Fq rfl rfl rfl rfl rfl rfl (by decide) (by simp) (by simp [Ps,Ja,St.put]) (fun q ob' h1 h2 h3 h4=>?_)) (.promo _ 3 _ [Fq] Hb rfl rfl rfl rfl rfl rfl (by decide) (by simp) (by simp [Ps,Ja,St.put,Fs]) (fun q ob' h1 h2 h3 h4=>?_)),?_⟩
 ·match q,h1 with
  |0,h1=>cases h1;cases h3
  |1,h1=>cases h1;cases h4
  |2,_=>exact absurd rfl h2
  |3,h1=>cases h1;cases h4
  |q+4,h1=>simp [St.put] at h1
 ·match q,h1 with
  |0,h1=>cases h1;cases h3
  |1,h1=>cases h1;cases h4
  |2,h1=>cases h1;cases h3
  |3,_=>exact absurd rfl h2
  |q+4,h1=>simp [St.put] at h1
 simp only [go_sem,seval,Fv,h5];refine Aa hL ?_;simp only [go_sem,seval,Fv,h5];refine Ac hn ?_;simp only [go_sem,seval,Fv,h5];refine Ac Rj ?_;simp only [go_sem,seval,Fv,h5];refine Ac hQ ?_;have g0':G'[0]?=some [.int .i64 0,.int .i64 0,.int .i64 0,.int .i64 0,.nils]:=g0;have g1':G'[1]?=some [.int .i64 0]:=g1;have l0:0<G'.length:=Dt g0;have l1:1<G'.length:=Dt g1;have gs1:(G'.set 0 r0)[1]?=some [.int .i64 0]:=by rw [List.getElem?_set_ne (by decide)];exact g1'
 have gt0:∀x:List SV,((G'.set 0 r0).set 1 x)[0]?=some r0:=fun x=>by rw [List.getElem?_set_ne (by decide)];exact List.getElem?_set_self l0
 have gt1:∀x:List SV,((G'.set 0 r0).set 1 x)[1]?=some x:=fun x=>List.getElem?_set_self (by rw [List.length_set];exact l1)
 simp only [go_sem,seval,Fv,h5,h6,h7,g0',g1',gs1,gt0,gt1]
theorem Baq {t:Tm} (ht:TOk t) (hp:Ch t=true) {b:Nat} {L:Int} (hL:Con 34 [.float .f64 b] (.int .i64 L)) {G':List (List SV)} (hQ:Ad 35 [Fq,Hb,[.undef],Bv 0 L 0 0 2,thR ⟨t,[],false,none,none⟩] [.gp 3 0,.gp 4 0,.int .i64 0] (.pan Tl) G') (g0:G'[0]?=some Fq) (g1:G'[1]?=some Hb) :
  Con 14 [.agg true (tv t),.float .f64 b] (.tup [.agg true (tv zt),.int .i64 6]):=by
 refine (Au8 (r:=.tup [.agg true Fq,.int .i64 6]) (i1:=0) (i2:=1) (n':=0) mixed Tryz.func14 Aku (by decide) rfl rfl A2j (Xt _ _) ?_).weaken (Aj5 6);have hc:=Wy t ht;rw [show Ej t 2=true from hp] at hc;have hn:=j5 [Fq,Hb] L;have hl:=Qt [Fq,Hb,[.undef],Bv 0 L 0 0 2] t [];have Rj:Ad 36 [Fq,Hb,[.undef],Bv 0 L 0 0 2] [.agg true (tv t),.nilp] (.ret (.gp 4 0)) [Fq,Hb,[.undef],Bv 0 L 0 0 2,thR ⟨t,[],false,none,none⟩]:=hl;clear hl;have h5:=Ag t;generalize thR ⟨t,[],false,none,none⟩=th at *
 generalize tv t=row at *
 unfold Alz;simp only [go_sem,seval,h5];refine Aa hc ?_;simp only [go_sem,seval,h5];refine⟨_,rfl,by simp,_,.trans (.promo _ 2 _ [] Fq rfl rfl rfl rfl rfl rfl (by decide) (by simp) (by simp [Ps,Ja,St.put]) (fun q ob' h1 h2 h3 h4=>?_)) (.promo _ 3 _ [Fq] Hb rfl rfl rfl rfl rfl rfl (by decide) (by simp) (by simp [Ps,Ja,St.put,Fs]) (fun q ob' h1 h2 h3 h4=>?_)),?_,?_⟩
 ·match q,h1 with
  |0,h1=>cases h1;cases h3
  |1,h1=>cases h1;cases h4
  |2,_=>exact absurd rfl h2
  |3,h1=>cases h1;cases h4
  |q+4,h1=>simp [St.put] at h1
 ·match q,h1 with
  |0,h1=>cases h1;cases h3
  |1,h1=>cases h1;cases h4
  |2,h1=>cases h1;cases h3
  |3,_=>exact absurd rfl h2
  |q+4,h1=>simp [St.put] at h1
 ·intro p hp;simp only [List.mem_cons,List.not_mem_nil,or_false] at hp;rcases hp with rfl|rfl<;>exact⟨rfl,by decide⟩
 rw [Xp];refine⟨_,_,rfl,?_,?_,?_⟩
 ·intro p hp;simp only [List.mem_cons,List.not_mem_nil,or_false] at hp;rcases hp with rfl|rfl<;>rfl
 ·intro p hp;simp only [List.mem_cons,List.not_mem_nil,or_false] at hp;rcases hp with rfl|rfl<;>simp
 simp only [go_sem,seval,Fv,h5];refine Aa hL ?_;simp only [go_sem,seval,Fv,h5];refine Ac hn ?_;simp only [go_sem,seval,Fv,h5];refine Ac Rj ?_;simp only [go_sem,seval,Fv,h5];exact Dh hQ trivial ⟨rfl,g0,g1⟩
theorem A7c {S:SyT} (K:List (List SV)) (t:Tm) (L:Nat) (hL:L<=1000000000) :
  RInv S (K.length+1) K.length (K++[[.undef],Bv 0 L 0 0 K.length,thR ⟨t,[],false,none,none⟩]) (K.map (fun r=>some (.kp r))++[none,none,some (.cl t [])]) ⟨0,L,0,0⟩:=by
 refine⟨by simp,?_,?_,?_,by omega,⟨[],?_,fun p hp=>by cases hp⟩,fun id g hg=>?_,Nat.zero_le _,hL,Nat.zero_le _,Nat.zero_le _⟩
 ·rw [List.getElem?_append_right (by omega)];simp [Mc.row]
 ·rw [List.getElem?_append_right (by simp)];simp
 ·rw [List.getElem?_append_right (by simp)];simp
 ·rw [List.getElem?_append_right (by omega)];simp [Gn]
 ·rcases Nat.lt_or_ge id K.length with h|h
  ·rw [List.getElem?_append_left (by simpa using h),List.getElem?_map,q_f h] at hg;simp only [Option.map_some,q_b] at hg;subst hg;exact⟨⟨t,[],false,none,none⟩,⟨by rw [List.getElem?_append_left h,q_f h],rfl⟩,fun v hv=>by cases hv⟩
  ·rw [List.getElem?_append_right (by simpa using h)] at hg;simp only [q_g] at hg;have h3:id-K.length=2:=by
    match hk:id-K.length,hg with
    |0,hg=>simp at hg
    |1,hg=>simp at hg
    |2,_=>rfl
    |n+3,hg=>simp at hg
   rw [h3] at hg;simp only [List.getElem?_cons_succ,List.getElem?_cons_zero,q_b] at hg;subst hg;refine⟨⟨t,[],false,none,none⟩,⟨?_,rfl,rfl,⟨rfl,fun q i hq=>by cases hq⟩,fun v hv=>by cases hv⟩,fun v hv=>by cases hv⟩;rw [List.getElem?_append_right h,h3];rfl
theorem kept {S:SyT} {m j:Nat} {G':List (List SV)} {Γ':Gh} {M':Mc} {K:List (List SV)} {Δ:Gh} (x:Gx (K.map (fun r=>some (.kp r))++Δ) Γ') (hi:RInv S m j G' Γ' M') {i:Nat} {r:List SV} (h:K[i]?=some r):G'[i]?=some r:=by
 refine hi.keep (x.get ?_);rw [List.getElem?_append_left (by simpa using Dt h),List.getElem?_map,h];rfl
def Bfr (t:Tm):Prop:=∃B,Sf B t/\B+dpt t<=cap
theorem A3p {S:SyT} (Lb:Lib S) {t:Tm} (ht:TOk t) (hp:Ch t=true) (hs:Bfr t) {b L:Nat} (hL:Con 34 [.float .f64 b] (.int .i64 L)) (hLb:L<=1000000000) :
  (∃N r,NR S.B 0 (Ap [] 0 t) N r/\Con 14 [.agg true (tv t),.float .f64 b] (.tup [.agg true (tv r),.int .i64 0])) \/
  (Con 14 [.agg true (tv t),.float .f64 b] (.tup [.agg true (tv zt),.int .i64 6])/\∀N r,NR S.B 0 (Ap [] 0 t) N r->L<N\/8000000<tsz r):=by
 have hI:=A7c (S:=S) [Fq,Hb] t L hLb;have hd:dpt t<=cap:=by obtain⟨B,_,h⟩:=hs;omega
 obtain⟨out,G',q,p⟩:=A5j Lb 8000000 (d:=0) (id:=4) (g:=.cl t []) hI (Nat.zero_le _) (by simp) (Nat.zero_le _) rfl ⟨fun u hu=>(by cases hu),hs,by simpa using hd⟩;cases p with
 |far x hi mm h=>exact absurd h (by simp)
 |@ret _ Γ' M' N r x hi mm hn f6 Hn h8=>
  exact .inl ⟨N,r,hn,Axp ht hp hL q (kept (K:=[Fq,Hb]) x hi rfl) (kept (K:=[Fq,Hb]) x hi rfl)⟩
 |@out _ Γ' M' x hi mm h=>
  refine .inr ⟨Baq ht hp hL q (kept (K:=[Fq,Hb]) x hi rfl) (kept (K:=[Fq,Hb]) x hi rfl),fun N r hn=>?_⟩;have:=h N r hn;simp only at this;omega
section
variable {v v1 v2:Nat->Nat->Tm} {f f1 f2:Nat->Int->Tm}
theorem Wu (c1 c2:Nat) (hv:∀b i,trT v2 f2 (b+c2) (v1 (b+c1) i)=v b i) (hf:∀b l,trT v2 f2 (b+c2) (f1 (b+c1) l)=f b l) (t:Tm):∀b,trT v2 f2 (b+c2) (trT v1 f1 (b+c1) t)=trT v f b t:=by
 induction t using Tm.ind with
 |h k i j n l ih=>
  intro b
  by_cases h2:k=2
  ·subst h2;rw [Pi,Pi,hv]
  by_cases h0:k=0
  ·subst h0;rw [Qn,Qn,hf]
  rw [Gb h2 h0,Gb h2 h0,Gb h2 h0];congr 1;apply List.ext_getElem?;intro q;rw [Fo,Fo,Fo,Option.map_map];cases hq:l[q]? with
  |none=>rfl
  |some t=>
   simp only [Option.map_some,Function.comp];rw [show b+c1+bnd k (0+q)=b+bnd k (0+q)+c1 by omega,show b+c2+bnd k (0+q)=b+bnd k (0+q)+c2 by omega,ih t (List.mem_of_getElem? hq)]
theorem A7p {B:Nat} {t:Tm} (h:Sf B t):∀{c:Nat},(∀b i,i<B+(b-c)->c<=b->v1 b i=v2 b i)->trT v1 f1 c t=trT v2 f2 c t:=by
 induction h with
 |@var B i h=>intro c hv;rw [Ga,Ga];exact hv c i (by omega) (Nat.le_refl _)
 |@nd B k i j n l h2 h0 hf hl _ ih=>
  intro c hv;rw [Gb h2 h0,Gb h2 h0];congr 1;apply List.ext_getElem?;intro q;rw [Fo,Fo];cases hq:l[q]? with
  |none=>rfl
  |some t=>
   simp only [Option.map_some,Nat.zero_add];rw [ih q t hq (fun b i h1 h2=>hv b i (by omega) (by omega))]
theorem Ab7 {B:Nat} {t:Tm} (h:Sf B t):∀{b c:Nat},(∀b' i,b<=b'->i<B+(b'-b)->Sf (c+(b'-b)) (v b' i))->Sf c (trT v f b t):=by
 induction h with
 |@var B i h=>intro b c hv;rw [Ga];simpa using hv b i (Nat.le_refl _) (by omega)
 |@nd B k i j n l h2 h0 hf hl _ ih=>
  intro b c hv;rw [Gb h2 h0];refine .nd i j n h2 h0 hf (by rw [Mj];exact hl) (fun p t ht=>?_);rw [Fo,Nat.zero_add] at ht;cases hq:l[p]? with
  |none=>rw [hq] at ht;cases ht
  |some u=>
   rw [hq,Option.map_some,q_b] at ht;subst ht;refine ih p u hq (fun b' i hb hi=>?_);have:=hv b' i (by omega) (by omega)
   rwa [show c+(b'-b)=c+bnd k p+(b'-(b+bnd k p)) by omega] at this
end
def lfv (k:Nat) (b i:Nat):Tm:=if i<b then vT i else vT (i+k)
def Mt (k:Nat) (t:Tm):Tm:=trT (lfv k) (fun _ l=>fT l) 0 t
def ptv (u:Tm) (b i:Nat):Tm:=if i<b then vT i else if i=b then Mt b u else vT (i-1)
def Kx (u t:Tm):Tm:=trT (ptv u) (fun _ l=>fT l) 0 t
def alv (l:List Tm) (b i:Nat):Tm:=if i<b then vT i else Mt b (l.getD (i-b) (vT 0))
def Ki (l:List Tm) (t:Tm):Tm:=trT (alv l) (fun _ l=>fT l) 0 t
def lvv (d:Nat) (b i:Nat):Tm:=if i<b then vT i else fT ((d:Int)-1-((i-b:Nat):Int))
def lvB (d b:Nat) (t:Tm):Tm:=trT (lvv d) (fun _ l=>fT l) b t
def lv (d:Nat) (t:Tm):Tm:=lvB d 0 t
theorem lv_0 (t:Tm):lv 0 t=Ap [] 0 t:=by
 refine Az3 (b0:=0) (fun b i _=>?_) (fun _ _ _=>rfl) t 0 (Nat.le_refl _);unfold lvv ivI;split
 ·rfl
 ·simp only [List.getElem?_nil,List.length_nil];congr 1;omega
theorem Ur {k:Int} (h2:k≠2) (h0:k≠0) (d b:Nat) (i j n:Int) (l:List Tm):lvB d b (.mk k i j n l)=.mk k i j n (trL (lvv d) (fun _ l=>fT l) b k 0 l):=Gb h2 h0 b i j n l
theorem Ahq (d b:Nat) (u:Tm):lvB d b (Mt b u)=lv d u:=by
 have:=Wu (v1:=lfv b) (f1:=fun _ l=>fT l) (v2:=lvv d) (f2:=fun _ l=>fT l) (v:=lvv d) (f:=fun _ l=>fT l) 0 b (fun b' i=>?_) (fun b' l=>Mm _ _) u 0
 ·simpa [lvB,Mt,lv] using this
 ·rw [Nat.add_zero];unfold lfv lvv
  by_cases h:i<b'
  ·rw [if_pos h,Ga,if_pos (by omega),if_pos h]
  ·rw [if_neg h,Ga,if_neg (by omega),if_neg h];congr 2;omega
theorem Ay7 (d:Nat) (u t:Tm):lv d (Kx u t)=Ap [lv d u] 0 (lvB d 1 t):=by
 have h1:=Wu (v1:=ptv u) (f1:=fun _ l=>fT l) (v2:=lvv d) (f2:=fun _ l=>fT l) (v:=fun b i=>if i<b then vT i else if i=b then lv d u else fT ((d:Int)-1-((i-1-b:Nat):Int))) (f:=fun _ l=>fT l) 0 0 (fun b i=>?_) (fun b l=>Mm _ _) t 0
 ·have h2:=Wu (v1:=lvv d) (f1:=fun _ l=>fT l) (v2:=ivI [lv d u]) (f2:=fun _ l=>fT l) (v:=fun b i=>if i<b then vT i else if i=b then lv d u else fT ((d:Int)-1-((i-1-b:Nat):Int))) (f:=fun _ l=>fT l) 1 0 (fun b i=>?_) (fun b l=>Mm _ _) t 0
  ·simp only [Nat.add_zero,Nat.zero_add] at h1 h2;exact h1.trans h2.symm
  ·rw [Nat.add_zero];unfold lvv ivI
   by_cases h:i<b
   ·rw [if_pos (by omega),Ga,if_pos h,if_pos h]
   ·by_cases h':i=b
    ·subst h';rw [if_pos (by omega),Ga,if_neg h,if_neg h,if_pos rfl,Nat.sub_self];rfl
    ·rw [if_neg (by omega),Mm,if_neg h,if_neg h'];congr 2;omega
 ·simp only [Nat.add_zero];unfold ptv
  by_cases h:i<b
  ·rw [if_pos h,Ga,if_pos h];unfold lvv;rw [if_pos h]
  ·rw [if_neg h,if_neg h]
   by_cases h':i=b
   ·subst h';rw [if_pos rfl,if_pos rfl];exact Ahq d i u
   ·rw [if_neg h',if_neg h',Ga];unfold lvv;rw [if_neg (by omega)]
theorem Av1 (d:Nat) (l:List Tm) {t:Tm} (ht:Sf l.length t):lv d (Ki l t)=Ap (l.map (lv d)) 0 t:=by
 have h1:=Wu (v1:=alv l) (f1:=fun _ l=>fT l) (v2:=lvv d) (f2:=fun _ l=>fT l) (v:=fun b i=>if i<b then vT i else lv d (l.getD (i-b) (vT 0))) (f:=fun _ l=>fT l) 0 0 (fun b i=>?_) (fun b l=>Mm _ _) t 0
 ·simp only [Nat.add_zero] at h1;refine h1.trans (A7p ht (fun b i hi hb=>?_));unfold ivI;split
  ·rfl
  ·have Ab:i-b<l.length:=by omega
   rw [List.getElem?_map,q_f Ab,List.getD_eq_getElem?_getD,q_f Ab];rfl
 ·simp only [Nat.add_zero];unfold alv
  by_cases h:i<b
  ·rw [if_pos h,Ga,if_pos h];unfold lvv;rw [if_pos h]
  ·rw [if_neg h,if_neg h];exact Ahq d b _
theorem Axs (d n q:Nat):(Gf d n)[q]?=if q<n then some (fT ((d+n-1-q:Nat):Int)) else none:=by
 induction n generalizing q with
 |zero=>simp [Gf]
 |succ n ih=>
  cases q with
  |zero=>simp [Gf]
  |succ q=>
   rw [Gf,List.getElem?_cons_succ,ih]
   by_cases h:q<n
   ·rw [if_pos h,if_pos (by omega),show d+n-1-q=d+(n+1)-1-(q+1) by omega]
   ·rw [if_neg h,if_neg (by omega)]
theorem A8g (d b:Nat) (t:Tm):Ap (Gf d b) 0 (lvB d b t)=lv (d+b) t:=by
 have h:=Wu (v1:=lvv d) (f1:=fun _ l=>fT l) (v2:=ivI (Gf d b)) (f2:=fun _ l=>fT l) (v:=lvv (d+b)) (f:=fun _ l=>fT l) b 0 (fun b' i=>?_) (fun b l=>Mm _ _) t 0
 ·simpa [lvB,lv,Ap] using h
 ·rw [Nat.add_zero];unfold lvv ivI
  by_cases h:i<b'
  ·rw [if_pos (by omega),Ga,if_pos h,if_pos h]
  ·by_cases h':i<b'+b
   ·rw [if_pos h',Ga,if_neg h,if_neg h,Axs,if_pos (by omega)];simp only;congr 1;omega
   ·rw [if_neg h',Mm,if_neg h];congr 1;omega
theorem Ab9 {v:Nat->Nat->Tm} {f:Nat->Int->Tm} {b:Nat} {k:Int} {X:Nat->Tm->Option Tm}:∀{l:List Tm} {p:Nat},(∀(q:Nat) t,l[q]?=some t->X (p+q) t=some (trT v f (b+bnd k (p+q)) t))->Cb X p l=some (trL v f b k p l):=by
 intro l
 induction l with
 |nil=>intro p _;rw [trL];rfl
 |cons t l ih=>
  intro p h;have h0:=h 0 t rfl;rw [Nat.add_zero] at h0;rw [Cb,h0,trL,ih (p:=p+1) (fun q t ht=>by have:=h (q+1) t (by simpa using ht);rwa [show p+(q+1)=p+1+q by omega] at this)]
theorem Ag3 {B k:Nat} {t:Tm} (h:Sf B t):∀{fr:Nat},B+dpt t+k<=2147483647->Hc (k:Int) (fr:Int) t=some (trT (lfv k) (fun _ l=>fT l) fr t):=by
 induction h with
 |@var B i h=>
  intro fr hb;rw [Ga,vT,Adr];unfold Om lfv
  by_cases hi:fr<=i
  ·rw [if_pos ⟨rfl,by omega⟩,if_neg (by omega),if_neg (by omega)];simp [Cb,vT]
  ·rw [if_neg (by omega),if_pos (by omega)];simp [Cb,vT]
 |@nd B k' i j n l h2 h0 hf hl hk ih=>
  intro fr hb;rw [Gb h2 h0,Adr];unfold Om;rw [if_neg (fun c=>h2 c.1)];simp only [Option.bind_some];rw [Ab9 (v:=lfv k) (f:=fun _ l=>fT l) (b:=fr) (k:=k') (fun q t ht=>?_)]
  ·rfl
  ·rw [Vg,Nat.zero_add,<-Int.natCast_add];have:=Ks (k:=k') (i:=i) (j:=j) (n:=n) ht;exact ih q t ht (by omega)
theorem Aye {B C:Nat} {t u:Tm} (h:Sf B t) (hu:Sf C u):∀{d:Nat},C+dpt u+(d+dpt t)<=2147483647->Hd u (d:Int) t=some (trT (ptv u) (fun _ l=>fT l) d t):=by
 induction h with
 |@var B i h=>
  intro d hb;rw [Ga];unfold ptv
  by_cases h1:i<d
  ·rw [if_pos h1,vT,p9 (by omega)];simp [Cb]
  ·rw [if_neg h1];unfold vT;rw [Ac6 ⟨rfl,by omega⟩]
   by_cases h2:i=d
   ·subst h2;rw [if_pos rfl,if_pos rfl];exact Ag3 (fr:=0) hu (by omega)
   ·rw [if_neg (by omega),if_neg h2,vr,show ((i-1:Nat):Int)=(i:Int)-1 by omega]
 |@nd B k' i j n l h2 h0 hf hl hk ih=>
  intro d hb;rw [Gb h2 h0,p9 (fun c=>h2 c.1),Ab9 (v:=ptv u) (f:=fun _ l=>fT l) (b:=d) (k:=k') (fun q t ht=>?_)]
  ·rfl
  ·rw [Vg,Nat.zero_add,<-Int.natCast_add];have:=Ks (k:=k') (i:=i) (j:=j) (n:=n) ht;exact ih q t ht (by omega)
def Bw (B:BT) (t:Tm):Option Tm:=
 if t.k=15/\(An t 0).k=14 then some (Kx (An t 1) (An (An t 0) 1))
 else if t.k=18/\(An t 0).k=17 then some (An (An t 0) 2)
 else if t.k=19/\(An t 0).k=17 then some (An (An t 0) 3)
 else if t.k=22/\(An t 5).k=21 then some (An t 3)
 else if t.k=23 then (B t.n t.i t.j).map (fun b=>Ki t.kids.reverse b) else none
theorem axP (B:BT):Ax (Bw B):=by
 refine⟨fun t u h=>?_⟩;unfold Bw at h;unfold isV stk;split at h
 ·rename_i c;exact .inr ⟨0,by rw [if_pos (by omega)],by omega⟩
 split at h
 ·rename_i c;exact .inr ⟨0,by rw [if_pos (by omega)],by omega⟩
 split at h
 ·rename_i c;exact .inr ⟨0,by rw [if_pos (by omega)],by omega⟩
 split at h
 ·rename_i c;exact .inr ⟨5,by rw [if_neg (by omega),if_pos (by omega)],by omega⟩
 split at h
 ·rename_i c;exact .inl c
 ·cases h
def Oa (B:BT):Prop:=∀n i j b,B n i j=some b->Sf (Bf 23 n).toNat b
section
variable {B:BT} {C d:Nat}
theorem Iw {C:Nat} {t:Tm} (h:Sf C t) {p:Nat} (hp:p<t.kids.length):Sf (C+bnd t.k p) (An t p):=by
 cases t with
 |mk k i j n l=>
  have hp':p<l.length:=hp;have hl:l[p]?=some l[p]:=q_f hp';have:An (.mk k i j n l) p=l[p]:=by unfold An;rw [show (Tm.mk k i j n l).kids=l from rfl,List.getD_eq_getElem?_getD,hl];rfl
  rw [this];exact h.kid hl
theorem sf_k {C:Nat} {t:Tm} (h:Sf C t):t.k≠0:=by
 cases h with
 |var h=>exact k_ne (by decide)
 |nd _ _ _ _ h0=>exact h0
theorem Ku {C:Nat} {t:Tm} (h:Sf C t) (h2:t.k≠2):(t.kids.length:Int)=Bf t.k t.n:=by
 cases t with
 |mk k i j n l=>exact (h.node h2).2.2
theorem lv_k {t:Tm} (h:Sf C t) (h2:t.k≠2):(lv d t).k=t.k/\(lv d t).i=t.i/\(lv d t).j=t.j/\(lv d t).n=t.n/\(lv d t).kids.length=t.kids.length:=by
 have h0:=sf_k h;cases t with
 |mk k i j n l=>
  unfold lv;rw [Ur (show k≠2 from h2) (show k≠0 from h0)];exact⟨rfl,rfl,rfl,rfl,Mj _ _ _ _⟩
theorem m9 {t:Tm} (h:Sf C t) (h2:t.k=2):∃i:Nat,t=vT i/\lv d t=fT ((d:Int)-1-i):=by
 cases t with
 |mk k i j n l=>
  have:k=2:=h2;subst this;obtain⟨q,rfl,rfl,rfl,rfl,_⟩:=h.vr;refine⟨q,rfl,?_⟩;show lv d (vT q)=_;unfold lv lvB;rw [Ga,lvv,if_neg (by omega),Nat.sub_zero]
theorem Mr {t:Tm} (h:Sf C t) (h2:t.k≠2) {p:Nat} (hp:p<t.kids.length):An (lv d t) p=lvB d (bnd t.k p) (An t p):=by
 have h0:=sf_k h;cases t with
 |mk k i j n l=>
  have hp':p<l.length:=hp;unfold lv;rw [Ur (show k≠2 from h2) (show k≠0 from h0)];unfold An;simp only [Tm.kids,Tm.k,List.getD_eq_getElem?_getD];rw [Fo,q_f hp'];simp only [Option.map_some,Option.getD_some,Nat.zero_add];rfl
theorem j6 {t:Tm} (h:Sf C t) (h2:t.k≠2) {p:Nat} (hp:p<t.kids.length) (hb:bnd t.k p=0) {c:Int} (hc:c≠0/\c≠2):((An (lv d t) p).k=c↔(An t p).k=c):=by
 rw [Mr h h2 hp,hb];have hs:=Iw h hp;rw [hb,Nat.add_zero] at hs
 by_cases hk:(An t p).k=2
 ·obtain⟨i,e1,e2⟩:=m9 (d:=d) hs hk;rw [show lvB d 0 (An t p)=lv d (An t p) from rfl,e2,hk];constructor
  ·intro e;exact absurd e.symm hc.1
  ·intro e;exact absurd e.symm hc.2
 ·rw [show lvB d 0 (An t p)=lv d (An t p) from rfl,(lv_k (d:=d) hs hk).1]
theorem Ara {t:Tm} (h:t.k=15):plD B t=if (An t 0).k=14 then some (Ap [An t 1] 0 (An (An t 0) 1)) else none:=by simp [plD,plW,h]
theorem Aog {t:Tm} (h:t.k=18):plD B t=if (An t 0).k=17 then some (An (An t 0) 2) else none:=by simp [plD,plW,h]
theorem Bd3 {t:Tm} (h:t.k=19):plD B t=if (An t 0).k=17 then some (An (An t 0) 3) else none:=by simp [plD,plW,h]
theorem A9u {t:Tm} (h:t.k=22):plD B t=if (An t 5).k=21 then some (An t 3) else none:=by simp [plD,plW,h]
theorem Bef {t:Tm} (h:t.k=23):plD B t=(B t.n t.i t.j).map (fun b=>Ap t.kids.reverse 0 b):=by simp [plD,h]
theorem Agd {t:Tm} (h:t.k≠15/\t.k≠18/\t.k≠19/\t.k≠22/\t.k≠23):plD B t=none:=by simp [plD,plW,h]
theorem p7 {t:Tm} (h:t.k=15):Bw B t=if (An t 0).k=14 then some (Kx (An t 1) (An (An t 0) 1)) else none:=by simp [Bw,h]
theorem o6 {t:Tm} (h:t.k=18):Bw B t=if (An t 0).k=17 then some (An (An t 0) 2) else none:=by simp [Bw,h]
theorem j7 {t:Tm} (h:t.k=19):Bw B t=if (An t 0).k=17 then some (An (An t 0) 3) else none:=by simp [Bw,h]
theorem l4 {t:Tm} (h:t.k=22):Bw B t=if (An t 5).k=21 then some (An t 3) else none:=by simp [Bw,h]
theorem l6 {t:Tm} (h:t.k=23):Bw B t=(B t.n t.i t.j).map (fun b=>Ki t.kids.reverse b):=by simp [Bw,h]
theorem Sq {t:Tm} (h:t.k≠15/\t.k≠18/\t.k≠19/\t.k≠22/\t.k≠23):Bw B t=none:=by simp [Bw,h]
theorem Acs (hB:Oa B) {t:Tm} (h:Sf C t):plD B (lv d t)=(Bw B t).map (lv d):=by
 by_cases h2:t.k=2
 ·obtain⟨i,e1,e2⟩:=m9 (d:=d) h h2;rw [e2,Sq (by omega),Agd (by unfold fT;simp [Tm.k])];rfl
 have hl:=Ku h h2;obtain⟨a1,a2,a3,a4,a5⟩:=lv_k (d:=d) h h2
 by_cases Iv:t.k=15
 ·rw [Iv,kids15] at hl;have b0:bnd t.k 0=0:=by rw [Iv];decide
  have b1:bnd t.k 1=0:=by rw [Iv];decide
  have hk:=j6 (d:=d) (p:=0) h h2 (by omega) b0 (c:=14) (by decide);rw [Ara (a1.trans Iv),p7 Iv]
  by_cases c:(An t 0).k=14
  ·rw [if_pos (hk.2 c),if_pos c,Option.map_some];have Fm:=Iw (p:=0) h (by omega);rw [b0,Nat.add_zero] at Fm;have Gm:=Ku Fm (by omega);rw [c,kids14] at Gm;rw [Ay7,Mr h h2 (by omega),Mr h h2 (by omega),b0,b1,show lvB d 0 (An t 0)=lv d (An t 0) from rfl,Mr Fm (by omega) (by omega),c];rfl
  ·rw [if_neg (fun e=>c (hk.1 e)),if_neg c];rfl
 by_cases Kp:t.k=18
 ·rw [Kp,kids18] at hl;have b0:bnd t.k 0=0:=by rw [Kp];decide
  have hk:=j6 (d:=d) (p:=0) h h2 (by omega) b0 (c:=17) (by decide);rw [Aog (a1.trans Kp),o6 Kp]
  by_cases c:(An t 0).k=17
  ·rw [if_pos (hk.2 c),if_pos c,Option.map_some];have Fm:=Iw (p:=0) h (by omega);rw [b0,Nat.add_zero] at Fm;have Gm:=Ku Fm (by omega);rw [c,kids17] at Gm;rw [Mr h h2 (by omega),b0,show lvB d 0 (An t 0)=lv d (An t 0) from rfl,Mr Fm (by omega) (by omega),c];rfl
  ·rw [if_neg (fun e=>c (hk.1 e)),if_neg c];rfl
 by_cases Kq:t.k=19
 ·rw [Kq,kids19] at hl;have b0:bnd t.k 0=0:=by rw [Kq];decide
  have hk:=j6 (d:=d) (p:=0) h h2 (by omega) b0 (c:=17) (by decide);rw [Bd3 (a1.trans Kq),j7 Kq]
  by_cases c:(An t 0).k=17
  ·rw [if_pos (hk.2 c),if_pos c,Option.map_some];have Fm:=Iw (p:=0) h (by omega);rw [b0,Nat.add_zero] at Fm;have Gm:=Ku Fm (by omega);rw [c,kids17] at Gm;rw [Mr h h2 (by omega),b0,show lvB d 0 (An t 0)=lv d (An t 0) from rfl,Mr Fm (by omega) (by omega),c];rfl
  ·rw [if_neg (fun e=>c (hk.1 e)),if_neg c];rfl
 by_cases Fu:t.k=22
 ·rw [Fu,kids22] at hl;have b5:bnd t.k 5=0:=by rw [Fu];decide
  have b3:bnd t.k 3=0:=by rw [Fu];decide
  have hk:=j6 (d:=d) (p:=5) h h2 (by omega) b5 (c:=21) (by decide);rw [A9u (a1.trans Fu),l4 Fu]
  by_cases c:(An t 5).k=21
  ·rw [if_pos (hk.2 c),if_pos c,Option.map_some];rw [Mr h h2 (by omega),b3];rfl
  ·rw [if_neg (fun e=>c (hk.1 e)),if_neg c];rfl
 by_cases Ct:t.k=23
 ·rw [Bef (a1.trans Ct),l6 Ct,a2,a3,a4];cases hb:B t.n t.i t.j with
  |none=>rfl
  |some b=>
   simp only [Option.map_some];congr 1;have hbs:=hB _ _ _ _ hb;rw [Ct] at hl;rw [Av1 d (l:=t.kids.reverse) (t:=b) (by rw [List.length_reverse,show t.kids.length=(Bf 23 t.n).toNat by omega];exact hbs),List.map_reverse];congr 2;cases t with
   |mk k i j n l=>
    have hk:k=23:=Ct;subst hk;unfold lv;rw [Ur (by decide) (by decide)];simp only [Tm.kids];apply List.ext_getElem?;intro q;rw [Fo,List.getElem?_map,bnd23];rfl
 ·rw [Agd (by omega),Sq (by omega)];rfl
end
end Go.Proofs.YtdpigpopcbjkmaaGreatDoor.Abs
