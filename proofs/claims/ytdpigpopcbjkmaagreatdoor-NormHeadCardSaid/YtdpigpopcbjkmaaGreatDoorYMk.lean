import Derived.Test.YtdpigpopcbjkmaaGreatDoorYRw
import Derived.Test.YtdpigpopcbjkmaaGreatDoorYDw
import Derived.Test.YtdpigpopcbjkmaaGreatDoorYPf
set_option linter.unusedSimpArgs false
set_option linter.unusedVariables false
set_option maxRecDepth 20000
set_option maxHeartbeats 4000000
namespace Go.Proofs.YtdpigpopcbjkmaaGreatDoor.Abs
open Go Go.RowKit Go.Proofs.YtdpigpopcbjkmaaGreatDoor
def Gn(d:Nat):Nat->List Tm
 |0=>[]
 |n+1=>fT ((d+n:Nat):Int)::Gn d n
theorem Aiz(d n:Nat):∀u∈Gn d n,Wf 0 u:=by
 induction n with
 |zero=>intro u hu;cases hu
 |succ n ih=>
  intro u hu;rcases List.mem_cons.1 hu with rfl|hu
  ·exact .fv _ _
  ·exact ih u hu
mutual
def tsz:Tm->Nat
 |.mk _ _ _ _ l=>1+Ab3 l
def Ab3:List Tm->Nat
 |[]=>0
 |t::l=>tsz t+Ab3 l
end
theorem Bgx:∀l:List Tm,Ab3 l=(l.map tsz).sum:=by
 intro l
 induction l with
 |nil=>rfl
 |cons t l ih=>rw[Ab3,ih];simp
theorem Hq(k i j n:Int)(l:List Tm):tsz (.mk k i j n l)=1+(l.map tsz).sum:=by rw[tsz,Bgx]
theorem Wt(t:Tm):1<=tsz t:=by cases t;rw[Hq];omega
theorem A5h{t:Tm}(h:Wf 0 t):Aq [] 0 t=t:=
 Aot h (Nat.le_refl _) (fun c' i hi _=>by unfold ivI;rw[if_pos (by omega)]) (fun _ _=>rfl)
abbrev BT:=Int->Int->Int->Option Tm
inductive NR(B:BT):Nat->Tm->Nat->Tm->Prop
 |fv {d n:Nat} {T:Tm} {l:Int} (h:HR (plD B) n T (fT l)):NR B d T n (.mk 2 ((d:Int)-1-l) 0 0 [])
 |nd {d n:Nat} {T:Tm} {k i j n':Int} {l rs:List Tm} {Ns:List Nat} (h:HR (plD B) n T (.mk k i j n' l)) (hn:HN (plD B) (.mk k i j n' l)) (h0:k≠0) (hN:Ns.length=l.length) (hr:rs.length=l.length)
   (hk:∀(p:Nat) t N r,l[p]?=some t->Ns[p]?=some N->rs[p]?=some r->NR B (d+bnd k p) (Aq (Gn d (bnd k p)) 0 t) N r):NR B d T (n+Ns.sum) (.mk k i j n' rs)
theorem Ru{B:BT}(l:Int):HN (plD B) (fT l):=by
 refine .mk ?_ (fun p hp=>by cases hp);unfold plD plW fT;rw[if_neg (k_ne (by decide)),if_neg (fun c=>absurd c.1 (k_ne (by decide))),if_neg (fun c=>absurd c.1 (k_ne (by decide))),if_neg (fun c=>absurd c.1 (k_ne (by decide))),if_neg (fun c=>absurd c.1 (k_ne (by decide)))]
theorem NR.det{B:BT}{d N:Nat}{T r:Tm}(h:NR B d T N r):∀{N' r'},NR B d T N' r'->N=N'/\r=r':=by
 induction h with
 |@fv d n T l h=>
  intro N' r' h';cases h' with
  |fv h2=>
   obtain⟨a,b⟩:=Wa h (Ru _) h2 (Ru _);unfold fT at b;cases b;exact⟨a,rfl⟩
  |nd h2 hn h0=>
   obtain⟨a,b⟩:=Wa h (Ru _) h2 hn;unfold fT at b;cases b;exact absurd rfl h0
 |@nd d n T k i j n' l rs Ns h hn h0 hN hr hk ih=>
  intro N' r' h';cases h' with
  |fv h2=>
   obtain⟨a,b⟩:=Wa h hn h2 (Ru _);unfold fT at b;cases b;exact absurd rfl h0
  |@nd _ n2 _ k2 i2 j2 n2' l2 rs2 Ns2 h2 Qe h02 hN2 Gk Dz=>
   obtain⟨a,b⟩:=Wa h hn h2 Qe;cases b;have key:∀(p:Nat) t,l[p]?=some t->Ns[p]?=Ns2[p]?/\rs[p]?=rs2[p]?:=fun p t ht=>by
    have Ab:=Dn ht;have e1:Ns[p]?=some Ns[p]:=q_f (by omega);have e2:rs[p]?=some rs[p]:=q_f (by omega);have e3:Ns2[p]?=some Ns2[p]:=q_f (by omega);have e4:rs2[p]?=some rs2[p]:=q_f (by omega);obtain⟨c,d⟩:=ih p t _ _ ht e1 e2 (Dz p t _ _ ht e3 e4);rw[e1,e2,e3,e4,c,d];exact⟨rfl,rfl⟩
   have hNs:Ns=Ns2:=by
    apply List.ext_getElem?;intro p;cases ht:l[p]? with
    |some t=>exact (key p t ht).1
    |none=>
     have:=List.getElem?_eq_none_iff.1 ht;rw[List.getElem?_eq_none (by omega),List.getElem?_eq_none (by omega)]
   have Ov:rs=rs2:=by
    apply List.ext_getElem?;intro p;cases ht:l[p]? with
    |some t=>exact (key p t ht).2
    |none=>
     have:=List.getElem?_eq_none_iff.1 ht;rw[List.getElem?_eq_none (by omega),List.getElem?_eq_none (by omega)]
   subst hNs Ov;exact⟨by omega,rfl⟩
theorem NR.pre{B:BT}{d N n:Nat}{T U r:Tm}(hr:HR (plD B) n T U)(h:NR B d U N r):NR B d T (n+N) r:=by
 cases h with
 |fv h=>exact .fv (Rw hr h)
 |nd h hn h0 hN hrl hk=>rw[<-Nat.add_assoc];exact .nd (Rw hr h) hn h0 hN hrl hk
theorem NR.head{B:BT}{d N:Nat}{T r:Tm}(h:NR B d T N r):∃n Y,n<=N/\HR (plD B) n T Y/\HN (plD B) Y:=by
 cases h with
 |fv h=>exact⟨_,_,Nat.le_refl _,h,Ru _⟩
 |nd h hn=>exact⟨_,_,Nat.le_add_right _ _,h,hn⟩
structure Mlq(M M':Mc):Prop where
 most:M'.most=M.most
 steps:M.steps<=M'.steps
 guess:M.guess=0->M'.guess=0
theorem Mlq.refl(M:Mc):Mlq M M:=⟨rfl,Nat.le_refl _,id⟩
theorem Mlq.trans{a b c:Mc}(h:Mlq a b)(k:Mlq b c):Mlq a c:=⟨k.most.trans h.most,Nat.le_trans h.steps k.steps,fun g=>k.guess (h.guess g)⟩
theorem Mle.q{M M':Mc}(h:Mle M M'):Mlq M M':=⟨h.most,h.steps,h.guess⟩
theorem Mlq.pos{M M1:Mc}(h:Mlq M M1)(g:0<M1.guess):0<M.guess:=by
 have:=h.guess;omega
section
variable{S:SyT}{m j:Nat}{Γ:Gh}{M:Mc}{G:GV}
inductive j9(S:SyT)(m j:Nat)(Γ:Gh)(M:Mc):HOut->GV->Prop
 |ret {G':GV} {M':Mc} (hi:RInv S m j G' Γ M') (mm:Mlq M M') (h1:M'.seen=M.seen+1) (h2:M'.steps=M.steps) (hs:M.seen<8000000):j9 S m j Γ M (.ret (.tup [])) G'
 |out {G':GV} {M':Mc} (hi:RInv S m j G' Γ M') (mm:Mlq M M') (hs:8000000<=M.seen):j9 S m j Γ M (.pan Nz) G'
 |far {G':GV} {M':Mc} (hi:RInv S m j G' Γ M') (mm:Mlq M M') (hg:0<M.guess):j9 S m j Γ M (.pan Rf) G'
theorem Abq(h:RInv S m j G Γ M)(h8:M.seen<=8000000):∃out G',Ad 58 G [.gp m 0] out G'/\j9 S m j Γ M out G':=by
 have hm:=h.mc;obtain⟨steps,most,seen,guess⟩:=M;have Ew:=h.st;have Or:=h.mo;have Ha:=h.se;have Be:=h.gu;simp only at Ew Or Ha Be h8;unfold Mc.row at hm;simp only at hm;have hf:fit (guess:Int):=by unfold fit;omega
 by_cases h1:guess=1
 ·subst h1;exact⟨_,_,A3a hm,.far (h.mach ⟨steps,most,seen,0⟩ Ew Or Ha (by simp)) ⟨rfl,Nat.le_refl _,fun _=>rfl⟩ (by simp)⟩
 have hg:(guess:Int)≠1:=by omega
 by_cases h2:seen<8000000
 ·refine⟨_,_,Ajn hm hf hg (by omega) (by omega),?_⟩;rw[t8];exact .ret (h.mach ⟨steps,most,seen+1,guess-1⟩ Ew Or (by simp only;omega) (by simp only;omega)) ⟨rfl,Nat.le_refl _,fun g=>by simp only at g |-;omega⟩ rfl rfl h2
 ·refine⟨_,_,A3b hm hf hg (by omega) (by unfold fit;omega),?_⟩;rw[t8];exact .out (h.mach ⟨steps,most,seen+1,guess-1⟩ Ew Or (by simp only;omega) (by simp only;omega)) ⟨rfl,Nat.le_refl _,fun g=>by simp only at g |-;omega⟩ (by simp only;omega)
theorem Ai1{d:Nat}(hd:d<=cap):WOK Γ ⟨2,0,0,0,(d:Int),[]⟩:=⟨.fv _ (by omega),.base stk2,Aaa stk0⟩
theorem l3{l:Int}:TV Γ ⟨2,0,0,0,l,[]⟩=fT l:=rfl
theorem Bg5(h:RInv S m j G Γ M){id n d:Nat}{g:Ge}(hg:Γ[id]?=some (some g))(ho:g.Ok n)(hn:n<=2)(hd:d+2<=cap) :
  ∃id' G' Γ' g',UnR d n G id id' G'/\Gx Γ Γ'/\RInv S m j G' Γ' M/\Γ'[id']?=some (some g')/\g'.Ok 0/\g'.den 0=Aq (Gn d n) 0 (g.den n):=by
 have hc:cap=1099511627776:=rfl;rcases Nat.eq_zero_or_pos n with rfl|Cl
 ·exact⟨id,G,Γ,g,.no rfl,.refl Γ,h,hg,ho,by rw[show Gn d 0=[] from rfl,A5h ho.wf]⟩
 cases g with
 |kp row=>exact ho.elim
 |dn v T=>exact absurd ho.1 (by omega)
 |cl t es=>
  obtain⟨th,t1,_⟩:=h.rows id _ hg;obtain⟨q1,q2,q3,q4,_⟩:=t1;subst q3;obtain⟨o1,o2,o3⟩:=ho;have Ag:=q4.len;have i1:=h.pushDn (Ai1 (d:=d) (by omega));rw[l3] at i1;rcases (show n=1\/n=2 by omega) with rfl|rfl
  ·have hu:=A3h q1 q2 (d:Int) (by unfold fit;omega) (by unfold fit;omega);have hen:EOK (Γ++[some (.dn ⟨2,0,0,0,(d:Int),[]⟩ (fT d))]) (Γ.length+1) (G.length::th.env) (fT (d:Int)::es):=by
    rw[h.len];exact (q4.top.mono (.app _ _) (Nat.le_succ _)).push (g:=.dn ⟨2,0,0,0,(d:Int),[]⟩ (fT d)) (Nat.lt_succ_self _) (by simp) ⟨rfl,.fv _ _⟩
   have i2:=i1.pushCl (t:=th.t) hen (by simp[h.len]);rw[List.append_assoc] at i2;refine⟨_,_,_,.cl th.t (fT (d:Int)::es),.yes Cl hu,(Gx.app _ _).trans (.app _ _),i2,by rw[h.len];simp,⟨hen.wf,o2,by simp only[List.length_cons];omega⟩,?_⟩;show Aq (fT (d:Int)::es) 0 th.t=Aq (Gn d 1) 0 (Aq es 1 th.t);exact (Aao o1 (Aiz d 1) th.t).symm
  ·have hu:=A3i q1 q2 (d:Int) (by unfold fit;omega) (by unfold fit;omega) (by unfold fit;omega);have hen:EOK (Γ++[some (.dn ⟨2,0,0,0,(d:Int),[]⟩ (fT d))]) (Γ.length+1) (G.length::th.env) (fT (d:Int)::es):=by
    rw[h.len];exact (q4.top.mono (.app _ _) (Nat.le_succ _)).push (g:=.dn ⟨2,0,0,0,(d:Int),[]⟩ (fT d)) (Nat.lt_succ_self _) (by simp) ⟨rfl,.fv _ _⟩
   have i2:=i1.pushDn (Ai1 (d:=d+1) (by omega));rw[l3] at i2;have hen2:EOK (Γ++[some (.dn ⟨2,0,0,0,(d:Int),[]⟩ (fT d))]++[some (.dn ⟨2,0,0,0,((d+1:Nat):Int),[]⟩ (fT (d+1:Nat)))]) (Γ.length+2) ((G.length+1)::G.length::th.env) (fT ((d+1:Nat):Int)::fT (d:Int)::es):=
    (hen.mono (.app _ _) (Nat.le_succ _)).push (g:=.dn ⟨2,0,0,0,((d+1:Nat):Int),[]⟩ (fT (d+1:Nat))) (by rw[h.len];omega) (by rw[h.len];simp) ⟨rfl,.fv _ _⟩
   have i3:=i2.pushCl (t:=th.t) hen2 (by simp[h.len]);rw[List.append_assoc,List.append_assoc] at i3;refine⟨_,_,_,.cl th.t (fT ((d+1:Nat):Int)::fT (d:Int)::es),.yes Cl hu,((Gx.app _ _).trans (.app _ _)).trans (.app _ _),i3,by rw[h.len];simp,⟨hen2.wf,o2,by simp only[List.length_cons];omega⟩,?_⟩;show Aq (fT ((d+1:Nat):Int)::fT (d:Int)::es) 0 th.t=Aq (Gn d 2) 0 (Aq es 2 th.t);exact (Aao o1 (Aiz d 2) th.t).symm
inductive j8(S:SyT)(m j:Nat)(Γ:Gh)(M:Mc)(d:Nat)(T:Tm):HOut->GV->Prop
 |ret {G':GV} {Γ':Gh} {M':Mc} {N:Nat} {r:Tm} (x:Gx Γ Γ') (hi:RInv S m j G' Γ' M') (mm:Mlq M M') (hn:NR S.B d T N r) (hs:M'.steps<=M.steps+N) (Ha:M'.seen=M.seen+tsz r) (h8:M'.seen<=8000000):j8 S m j Γ M d T (.ret (.agg true (tv r))) G'
 |out {G':GV} {Γ':Gh} {M':Mc} (x:Gx Γ Γ') (hi:RInv S m j G' Γ' M') (mm:Mlq M M') (h:∀N r,NR S.B d T N r->M.most<M.steps+N\/8000000<M.seen+tsz r):j8 S m j Γ M d T (.pan Nz) G'
 |far {G':GV} {Γ':Gh} {M':Mc} (x:Gx Γ Γ') (hi:RInv S m j G' Γ' M') (mm:Mlq M M') (hg:0<M.guess):j8 S m j Γ M d T (.pan Rf) G'
inductive j0(S:SyT)(m j:Nat)(Γ:Gh)(M:Mc)(d:Nat)(k:Int)(p:Nat)(Ts:List Tm):(List Tm ⊕ SV)->GV->Prop
 |ret {G':GV} {Γ':Gh} {M':Mc} {Ns:List Nat} {rs:List Tm} (x:Gx Γ Γ') (hi:RInv S m j G' Γ' M') (mm:Mlq M M') (hN:Ns.length=Ts.length) (hr:rs.length=Ts.length)
   (hk:∀(q:Nat) t N r,Ts[q]?=some t->Ns[q]?=some N->rs[q]?=some r->NR S.B (d+bnd k (p+q)) (Aq (Gn d (bnd k (p+q))) 0 t) N r) (hs:M'.steps<=M.steps+Ns.sum) (Ha:M'.seen=M.seen+(rs.map tsz).sum) (h8:M'.seen<=8000000):j0 S m j Γ M d k p Ts (.inl rs) G'
 |out {G':GV} {Γ':Gh} {M':Mc} (x:Gx Γ Γ') (hi:RInv S m j G' Γ' M') (mm:Mlq M M') (h:∀(Ns:List Nat) (rs:List Tm),Ns.length=Ts.length->rs.length=Ts.length ->
   (∀(q:Nat) t N r,Ts[q]?=some t->Ns[q]?=some N->rs[q]?=some r->NR S.B (d+bnd k (p+q)) (Aq (Gn d (bnd k (p+q))) 0 t) N r)->M.most<M.steps+Ns.sum\/8000000<M.seen+(rs.map tsz).sum):j0 S m j Γ M d k p Ts (.inr Nz) G'
 |far {G':GV} {Γ':Gh} {M':Mc} (x:Gx Γ Γ') (hi:RInv S m j G' Γ' M') (mm:Mlq M M') (hg:0<M.guess):j0 S m j Γ M d k p Ts (.inr Rf) G'
def QuT(S:SyT)(m j F:Nat):Prop:=∀{G:GV} {Γ:Gh} {M:Mc} {id d:Nat} {g:Ge},RInv S m j G Γ M->M.seen<=8000000->8000000<=M.seen+F->d<=2*M.seen->Γ[id]?=some (some g)->g.Ok 0 ->
 ∃out G',Ad 35 G [.gp m 0,.gp id 0,.int .i64 d] out G'/\j8 S m j Γ M d (g.den 0) out G'
theorem A6i{F:Nat}(hQ:QuT S m j F){d:Nat}{k:Int}:∀(l:List Nat) {p:Nat} {Γ:Gh} {G:GV} {M:Mc},RInv S m j G Γ M->M.seen<=8000000->8000000<=M.seen+F->d+2<=2*M.seen ->
  (∀(q:Nat) id,l[q]?=some id->∃g,Γ[id]?=some (some g)/\g.Ok (bnd k (p+q)))->∃out G',QkR m d k p G l out G'/\j0 S m j Γ M d k p (Gg Γ k p l) out G':=by
 intro l
 induction l with
 |nil=>
  intro p Γ G M hI h8 hF hd hk;exact⟨_,_,.nil,.ret (Ns:=[]) (.refl Γ) hI (.refl M) rfl rfl (fun q t N r ht=>by cases ht) (by simp) (by simp) h8⟩
 |cons i l ih=>
  intro p Γ G M hI h8 hF hd hk;have hc:cap=1099511627776:=rfl;obtain⟨g,hg,ho⟩:=hk 0 i rfl;rw[Nat.add_zero] at ho;have hb:=Sz k p;obtain⟨i',G1,Γ1,g1,u1,x1,i1,hg1,Qf,e1⟩:=Bg5 hI hg ho hb (show d+2<=cap by omega);obtain⟨out,G2,q2,p2⟩:=hQ (d:=d+bnd k p) i1 h8 hF (by omega) hg1 Qf;have Yg:Gg Γ k p (i::l)=g.den (bnd k p)::Gg Γ k (p+1) l:=by rw[Gg,Lc hg]
  rw[e1] at p2;rw[Int.natCast_add] at q2;cases p2 with
  |far x hi mm h=>exact⟨_,_,.pan u1 q2,.far (x1.trans x) hi mm h⟩
  |out x hi mm h=>
   refine⟨_,_,.pan u1 q2,.out (x1.trans x) hi mm (fun Ns rs hN hr hk'=>?_)⟩;rw[Yg] at hN hr hk';simp only[List.length_cons] at hN hr
   match Ns,rs,hN,hr with
   |N::Ns,r::rs,_,_=>
    have:=h N r (by have:=hk' 0 _ N r rfl rfl rfl;rwa [Nat.add_zero] at this);simp only[List.sum_cons,q_h];omega
  |@ret _ Γ2 M2 N r x hi mm hn hs Ha h82=>
   have Cl:=Wt r;obtain⟨out,G3,q3,p3⟩:=ih (p:=p+1) hi h82 (by omega) (by omega) (fun q id Bc=>by
    obtain⟨g,hg,ho⟩:=hk (q+1) id (by simpa using Bc);exact⟨g,(x1.trans x).get hg,by rw[show p+1+q=p+(q+1) by omega];exact ho⟩)
   have hkT2:Gg Γ2 k (p+1) l=Gg Γ k (p+1) l:=by
    apply List.ext_getElem?;intro q;rw[Mr,Mr];cases hq:l[q]? with
    |none=>rfl
    |some id=>
     obtain⟨g,hg,ho⟩:=hk (q+1) id (by simpa using hq);simp only[Option.map_some,(x1.trans x).den hg]
   rw[hkT2] at p3;have hm:=mm.most;cases p3 with
   |far x' Bw mm' h'=>exact⟨_,_,.cpan u1 q2 q3,.far ((x1.trans x).trans x') Bw (mm.trans mm') (mm.pos h')⟩
   |out x' Bw mm' h'=>
    refine⟨_,_,.cpan u1 q2 q3,.out ((x1.trans x).trans x') Bw (mm.trans mm') (fun Ns rs hN hr hk'=>?_)⟩;rw[Yg] at hN hr hk';simp only[List.length_cons] at hN hr
    match Ns,rs,hN,hr with
    |N'::Ns,r'::rs,hN,hr=>
     have Ua:=hk' 0 _ N' r' rfl rfl rfl;rw[Nat.add_zero] at Ua;obtain⟨rfl,rfl⟩:=hn.det Ua;have:=h' Ns rs (by simpa using hN) (by simpa using hr) (fun q t N r ht h1 h2=>by
      have:=hk' (q+1) t N r (by simpa using ht) (by simpa using h1) (by simpa using h2)
      rwa [show p+(q+1)=p+1+q by omega] at this)
     simp only[List.sum_cons,q_h];omega
   |@ret _ Γ3 M3 Ns rs x' Bw mm' hN hr hk' Ii hse' h83=>
    refine⟨_,_,.cons u1 q2 q3,.ret (Ns:=N::Ns) ((x1.trans x).trans x') Bw (mm.trans mm') (by rw[Yg];simp[hN]) (by rw[Yg];simp[hr]) (fun q t N' r' ht h1 h2=>?_) (by simp only[List.sum_cons];omega) (by simp only[q_h,List.sum_cons];omega) h83⟩;rw[Yg] at ht;cases q with
    |zero=>
     simp only[List.getElem?_cons_zero,q_b] at ht h1 h2;subst ht h1 h2;rw[Nat.add_zero];exact hn
    |succ q=>
     have:=hk' q t N' r' (by simpa using ht) (by simpa using h1) (by simpa using h2)
     rwa [show p+1+q=p+(q+1) by omega] at this
theorem Bdg(L:Lib S):∀F,QuT S m j F:=by
 intro F
 induction F with
 |zero=>
  intro G Γ M id d g hI h8 hF hd hg ho;obtain⟨out,G1,s1,p1⟩:=Abq hI h8;cases p1 with
  |far hi mm h=>exact⟨_,_,Abg s1,.far (.refl Γ) hi mm h⟩
  |out hi mm h=>exact⟨_,_,Abg s1,.out (.refl Γ) hi mm (fun N r _=>by have:=Wt r;omega)⟩
  |ret hi mm h1 h2 hs=>omega
 |succ F ih=>
  intro G Γ M id d g hI h8 hF hd hg ho;obtain⟨out,G1,s1,p1⟩:=Abq hI h8;have hc:cap=1099511627776:=rfl;cases p1 with
  |far hi mm h=>exact⟨_,_,Abg s1,.far (.refl Γ) hi mm h⟩
  |out hi mm h=>exact⟨_,_,Abg s1,.out (.refl Γ) hi mm (fun N r _=>by have:=Wt r;omega)⟩
  |@ret _ M1 hi mm h1 h2 hs=>
   obtain⟨out,G2,e2,p2⟩:=Ajy L hi hg ho;have Or:=mm.most;cases p2 with
   |far x Bw mm' h=>exact⟨_,_,Ani s1 e2,.far x Bw (mm.trans mm'.q) (mm.pos h)⟩
   |out x Bw mm' h=>
    refine⟨_,_,Ani s1 e2,.out x Bw (mm.trans mm'.q) (fun N r hn=>?_)⟩;obtain⟨n,Y,Hw,Qe,z9⟩:=hn.head;have:=h n Y Qe z9;omega
   |@ret _ Γ2 M2 v n x Bw mm' hv hn hr hsn=>
    have hseen:=mm'.seen;have hok:=hv.ok;have hTV:TV Γ2 v=TV Γ2 v:=rfl;cases hok with
    |fv l hl=>
     rw[l3] at hr;exact⟨_,_,Bdk s1 e2 rfl (by unfold fit;omega) (by simp only;unfold fit;omega),.ret x Bw (mm.trans mm'.q) (.fv hr) (by omega) (by rw[Hq];simp;omega) (by omega)⟩
    |@nd k i j' n' kids k2 k0 hf hl hk=>
     rw[Jg (show (Vl.mk k i j' n' 0 kids).k≠2 from k2)] at hr hn;simp only at hr hn
     by_cases Ar:kids=[]
     ·subst Ar;exact⟨_,_,Bdi s1 e2 k2 rfl,.ret x Bw (mm.trans mm'.q) (.nd (Ns:=[]) (rs:=[]) hr hn k0 rfl rfl (fun p t N r ht=>by cases ht)) (by simp;omega) (by rw[Hq];simp;omega) (by omega)⟩
     ·obtain⟨out,G3,q3,p3⟩:=A6i ih (d:=d) (k:=k) kids (p:=0) Bw (by omega) (by omega) (by omega) (fun q id Bc=>by rw[Nat.zero_add];exact hk q id Bc);have Ag:kids.length<=100:=by have:=Pa k n';omega
      have v6:fit (d:Int)/\fit ((d:Int)+2):=by unfold fit;omega
      cases p3 with
      |far x' hi3 mm3 h=>exact⟨_,_,Anj s1 e2 k2 Ar Ag v6 q3,.far (x.trans x') hi3 ((mm.trans mm'.q).trans mm3) ((mm.trans mm'.q).pos h)⟩
      |out x' hi3 mm3 h=>
       refine⟨_,_,Anj s1 e2 k2 Ar Ag v6 q3,.out (x.trans x') hi3 ((mm.trans mm'.q).trans mm3) (fun N r hnr=>?_)⟩;have hmo2:=mm'.most;cases hnr with
       |fv h'=>
        obtain⟨a,b⟩:=Wa hr hn h' (Ru _);unfold fT at b;exact absurd (Tm.mk.inj b).1 k0
       |@nd _ n2 _ k2' i2 j2 n2' l2 rs2 Ns2 h' Qe h02 hN2 Gk Dz=>
        obtain⟨a,b⟩:=Wa hr hn h' Qe;cases b;have:=h Ns2 rs2 hN2 Gk (fun q t N r ht h1 h2=>by rw[Nat.zero_add];exact Dz q t N r ht h1 h2);rw[Hq];omega
      |@ret _ Γ3 M3 Ns rs x' hi3 mm3 hN Ud hk3 Ct hse3 h83=>
       rw[Nx] at hN Ud;refine⟨_,_,Bdj s1 e2 k2 Ar Ag v6 q3 (by intro e;subst e;simp at Ud;exact Ar (by cases kids with|nil=>rfl|cons a b=>simp at Ud)),.ret (N:=n+Ns.sum) (x.trans x') hi3 ((mm.trans mm'.q).trans mm3) (.nd (Ns:=Ns) (rs:=rs) hr hn k0 (by rw[Nx];exact hN) (by rw[Nx];exact Ud) (fun p t N r ht h1 h2=>by have:=hk3 p t N r ht h1 h2;rwa [Nat.zero_add] at this)) (by omega) (by rw[Hq];omega) h83⟩
end
open Go Go.RowKit Go.Proofs.YtdpigpopcbjkmaaGreatDoor
def Br:List SV:=[.int .i64 0,.int .i64 0,.int .i64 0,.int .i64 0,.nils]
def Cd:List SV:=[.int .i64 0]
theorem Bbe{o n:Nat}{k:FloatKind}{b:Nat}:Ff o n (.float k b)=.float k b:=rfl
theorem Bbi{o n:Nat}:Ff o n .J=.J:=rfl
theorem Bba{n c:Nat}:Ff 3 n (.ref 1 0 0 c)=.ref 1 0 0 c:=rfl
theorem Bbb{n c:Nat}:Ff 3 n (.ref 3 0 0 c)=.gp n c:=rfl
theorem Ba9{n c:Nat}:Ff 2 n (.ref 3 0 0 c)=.ref 3 0 0 c:=rfl
attribute [go_sem] Bbe Bbi Bba Bbb Ba9
theorem Aov:Wr Tryz.prog Tryz.f14=some (af14,10,31,[4,5],2):=by kernel_rfl
theorem A7h:j6 Tryz.prog Tryz.f14 31 75 4 5 Br Cd (.tup [.agg true Br,.int .i64 6]):=by
 intro w b1 b2 c1 c2 e1 e2 tmps m R h1 h2 Ar j1 j2 p1 p2 hR;obtain⟨v0,q0,r0⟩:=j1 0 _ rfl;obtain⟨v1,q1,r1⟩:=j1 1 _ rfl;obtain⟨v2,q2,r2⟩:=j1 2 _ rfl;obtain⟨v3,q3,r3⟩:=j1 3 _ rfl;obtain⟨v4,q4,r4⟩:=j1 4 _ rfl;obtain⟨v5,q5,r5⟩:=j2 0 _ rfl;cases r0;cases r1;cases r2;cases r3;cases r4;cases r5;refine leaves_cons (by simp) (Aap _ w) ?_;refine (Nrm.rec_norm w b1 b2 c1 c2 e1 e2 h1 h2 q0 q1 q2 q3 q4 q5 Ar).mono ?_;rintro e u' w' ⟨rfl,rfl,hc⟩;refine⟨_,Nrm.load_norm tmps w' b1 b2 p1 p2 hc.c0 hc.c1 hc.c2 hc.c3 hc.c4 hc.c5,hR _ w' (fun m=>?_) hc.os hc.tape hc.output hc.size hc.old⟩;refine .tup _ _ rfl (fun j v x hv hx=>?_)
 match j,hv,hx with
 |0,hv,hx=>
  cases hv;cases hx;refine .agg _ _ (by decide) rfl (fun j v x hv hx=>?_)
  match j,hv,hx with
  |0,hv,hx=>cases hv;cases hx;exact .int _ _
  |1,hv,hx=>cases hv;cases hx;exact .int _ _
  |2,hv,hx=>cases hv;cases hx;exact .int _ _
  |3,hv,hx=>cases hv;cases hx;exact .int _ _
  |4,hv,hx=>cases hv;cases hx;exact .nils
  |_+5,hv,hx=>simp at hv
 |1,hv,hx=>cases hv;cases hx;exact .int _ _
 |_+2,hv,hx=>simp at hv
theorem A9c{t r:Tm}(ht:TOk t)(hp:Cb t=true){b:Nat}{L:Int}(hL:Con 34 [.float .f64 b] (.int .i64 L)){G':GV}(hQ:Ad 35 [Br,Cd,[.undef],Bn 0 L 0 0 2,thR ⟨t,[],false,none,none⟩] [.gp 3 0,.gp 4 0,.int .i64 0] (.ret (.agg true (tv r))) G')(g0:G'[0]?=some Br)(g1:G'[1]?=some Cd) :
  Con 14 [.agg true (tv t),.float .f64 b] (.tup [.agg true (tv r),.int .i64 0]):=by
 refine Ah6 mixed Tryz.func14 Aov Aap Nrm.idle_norm (Sd _ _) (Aa4 _ _) ?_;have hc:=Rd t ht;rw[show Ef t 2=true from hp] at hc;have hn:=Tr [Br,Cd] L;have hl:=No [Br,Cd,[.undef],Bn 0 L 0 0 2] t [];have Kq:Ad 36 [Br,Cd,[.undef],Bn 0 L 0 0 2] [.agg true (tv t),.nilp] (.ret (.gp 4 0)) [Br,Cd,[.undef],Bn 0 L 0 0 2,thR ⟨t,[],false,none,none⟩]:=hl;clear hl;have h5:=Ae t;generalize thR ⟨t,[],false,none,none⟩=th at *
 have h6:=Ae r;have h7:Ec (tv r)=false:=by cases r;rw[Ak];rfl
 generalize tv r=r0 at *
 generalize tv t=row at *
 unfold Agd;simp only[go_sem,seval,h5];refine Aa hc ?_;simp only[go_sem,seval,h5];refine⟨_,rfl,by simp,_,.trans (.promo _ 2 _ [] Br rfl rfl rfl rfl rfl rfl (by decide) (by simp) (by simp[Kd,Gu,St.put]) (fun q ob' h1 h2 h3 h4=>?_)) (.promo _ 3 _ [Br] Cd rfl rfl rfl rfl rfl rfl (by decide) (by simp) (by simp[Kd,Gu,St.put,Ff]) (fun q ob' h1 h2 h3 h4=>?_)),?_⟩
 ·match q,h1 with
  |0,h1=>cases h1;cases h3
  |1,h1=>cases h1;cases h4
  |2,_=>exact absurd rfl h2
  |3,h1=>cases h1;cases h4
  |q+4,h1=>simp[St.put] at h1
 ·match q,h1 with
  |0,h1=>cases h1;cases h3
  |1,h1=>cases h1;cases h4
  |2,h1=>cases h1;cases h3
  |3,_=>exact absurd rfl h2
  |q+4,h1=>simp[St.put] at h1
 simp only[go_sem,seval,Cy,h5];refine Aa hL ?_;simp only[go_sem,seval,Cy,h5];refine Ac hn ?_;simp only[go_sem,seval,Cy,h5];refine Ac Kq ?_;simp only[go_sem,seval,Cy,h5];refine Ac hQ ?_;have g0':G'[0]?=some [.int .i64 0,.int .i64 0,.int .i64 0,.int .i64 0,.nils]:=g0;have g1':G'[1]?=some [.int .i64 0]:=g1;have l0:0<G'.length:=Dn g0;have l1:1<G'.length:=Dn g1;have gs1:(G'.set 0 r0)[1]?=some [.int .i64 0]:=by rw[List.getElem?_set_ne (by decide)];exact g1'
 have gt0:∀x:List SV,((G'.set 0 r0).set 1 x)[0]?=some r0:=fun x=>by rw[List.getElem?_set_ne (by decide)];exact List.getElem?_set_self l0
 have gt1:∀x:List SV,((G'.set 0 r0).set 1 x)[1]?=some x:=fun x=>List.getElem?_set_self (by rw[List.length_set];exact l1)
 simp only[go_sem,seval,Cy,h5,h6,h7,g0',g1',gs1,gt0,gt1]
theorem A9b{t:Tm}(ht:TOk t)(hp:Cb t=true){b:Nat}{L:Int}(hL:Con 34 [.float .f64 b] (.int .i64 L)){G':GV}(hQ:Ad 35 [Br,Cd,[.undef],Bn 0 L 0 0 2,thR ⟨t,[],false,none,none⟩] [.gp 3 0,.gp 4 0,.int .i64 0] (.pan Nz) G')(g0:G'[0]?=some Br)(g1:G'[1]?=some Cd) :
  Con 14 [.agg true (tv t),.float .f64 b] (.tup [.agg true (tv zt),.int .i64 6]):=by
 refine (Ac2 (r:=.tup [.agg true Br,.int .i64 6]) (i1:=0) (i2:=1) (n':=0) mixed Tryz.func14 Aov (by decide) rfl rfl A7h (Sd _ _) ?_).weaken (Aat 6);have hc:=Rd t ht;rw[show Ef t 2=true from hp] at hc;have hn:=Tr [Br,Cd] L;have hl:=No [Br,Cd,[.undef],Bn 0 L 0 0 2] t [];have Kq:Ad 36 [Br,Cd,[.undef],Bn 0 L 0 0 2] [.agg true (tv t),.nilp] (.ret (.gp 4 0)) [Br,Cd,[.undef],Bn 0 L 0 0 2,thR ⟨t,[],false,none,none⟩]:=hl;clear hl;have h5:=Ae t;generalize thR ⟨t,[],false,none,none⟩=th at *
 generalize tv t=row at *
 unfold Ab7;simp only[go_sem,seval,h5];refine Aa hc ?_;simp only[go_sem,seval,h5];refine⟨_,rfl,by simp,_,.trans (.promo _ 2 _ [] Br rfl rfl rfl rfl rfl rfl (by decide) (by simp) (by simp[Kd,Gu,St.put]) (fun q ob' h1 h2 h3 h4=>?_)) (.promo _ 3 _ [Br] Cd rfl rfl rfl rfl rfl rfl (by decide) (by simp) (by simp[Kd,Gu,St.put,Ff]) (fun q ob' h1 h2 h3 h4=>?_)),?_,?_⟩
 ·match q,h1 with
  |0,h1=>cases h1;cases h3
  |1,h1=>cases h1;cases h4
  |2,_=>exact absurd rfl h2
  |3,h1=>cases h1;cases h4
  |q+4,h1=>simp[St.put] at h1
 ·match q,h1 with
  |0,h1=>cases h1;cases h3
  |1,h1=>cases h1;cases h4
  |2,h1=>cases h1;cases h3
  |3,_=>exact absurd rfl h2
  |q+4,h1=>simp[St.put] at h1
 ·intro p hp;simp only[List.mem_cons,List.not_mem_nil,or_false] at hp;rcases hp with rfl|rfl<;>exact⟨rfl,by decide⟩
 rw[f9];refine⟨_,_,_,rfl,?_,?_,?_⟩
 ·intro p hp;simp only[List.mem_cons,List.not_mem_nil,or_false] at hp;rcases hp with rfl|rfl<;>rfl
 ·intro p hp;simp only[List.mem_cons,List.not_mem_nil,or_false] at hp;rcases hp with rfl|rfl<;>simp
 simp only[go_sem,seval,Cy,h5];refine Aa hL ?_;simp only[go_sem,seval,Cy,h5];refine Ac hn ?_;simp only[go_sem,seval,Cy,h5];refine Ac Kq ?_;simp only[go_sem,seval,Cy,h5];exact Cn hQ trivial ⟨rfl,g0,g1⟩
theorem Ak4{S:SyT}(K:GV)(t:Tm)(L:Nat)(hL:L<=1000000000) :
  RInv S (K.length+1) K.length (K++[[.undef],Bn 0 L 0 0 K.length,thR ⟨t,[],false,none,none⟩]) (K.map (fun r=>some (.kp r))++[none,none,some (.cl t [])]) ⟨0,L,0,0⟩:=by
 refine⟨by simp,?_,?_,?_,by omega,⟨[],?_,fun p hp=>by cases hp⟩,fun id g hg=>?_,Nat.zero_le _,hL,Nat.zero_le _,Nat.zero_le _⟩
 ·rw[List.getElem?_append_right (by omega)];simp[Mc.row]
 ·rw[List.getElem?_append_right (by simp)];simp
 ·rw[List.getElem?_append_right (by simp)];simp
 ·rw[List.getElem?_append_right (by omega)];simp[Hd]
 ·rcases Nat.lt_or_ge id K.length with h|h
  ·rw[List.getElem?_append_left (by simpa using h),List.getElem?_map,q_f h] at hg;simp only[Option.map_some,q_b] at hg;subst hg;exact⟨⟨t,[],false,none,none⟩,⟨by rw[List.getElem?_append_left h,q_f h],rfl⟩,fun v hv=>by cases hv⟩
  ·rw[List.getElem?_append_right (by simpa using h)] at hg;simp only[q_g] at hg;have h3:id-K.length=2:=by
    match hk:id-K.length,hg with
    |0,hg=>simp at hg
    |1,hg=>simp at hg
    |2,_=>rfl
    |n+3,hg=>simp at hg
   rw[h3] at hg;simp only[List.getElem?_cons_succ,List.getElem?_cons_zero,q_b] at hg;subst hg;refine⟨⟨t,[],false,none,none⟩,⟨?_,rfl,rfl,⟨rfl,fun q i hq=>by cases hq⟩,fun v hv=>by cases hv⟩,fun v hv=>by cases hv⟩;rw[List.getElem?_append_right h,h3];rfl
theorem kept{S:SyT}{m j:Nat}{G':GV}{Γ':Gh}{M':Mc}{K:GV}{Δ:Gh}(x:Gx (K.map (fun r=>some (.kp r))++Δ) Γ')(hi:RInv S m j G' Γ' M'){i:Nat}{r:List SV}(h:K[i]?=some r):G'[i]?=some r:=by
 refine hi.keep (x.get ?_);rw[List.getElem?_append_left (by simpa using Dn h),List.getElem?_map,h];rfl
def Apb(t:Tm):Prop:=∃B,Sf B t/\B+dpt t<=cap
theorem A9d{S:SyT}(Lb:Lib S){t:Tm}(ht:TOk t)(hp:Cb t=true)(hs:Apb t){b L:Nat}(hL:Con 34 [.float .f64 b] (.int .i64 L))(hLb:L<=1000000000) :
  (∃N r,NR S.B 0 (Aq [] 0 t) N r/\Con 14 [.agg true (tv t),.float .f64 b] (.tup [.agg true (tv r),.int .i64 0])) \/
  (Con 14 [.agg true (tv t),.float .f64 b] (.tup [.agg true (tv zt),.int .i64 6])/\∀N r,NR S.B 0 (Aq [] 0 t) N r->L<N\/8000000<tsz r):=by
 have hI:=Ak4 (S:=S) [Br,Cd] t L hLb;have hd:dpt t<=cap:=by obtain⟨B,_,h⟩:=hs;omega
 obtain⟨out,G',q,p⟩:=Bdg Lb 8000000 (d:=0) (id:=4) (g:=.cl t []) hI (Nat.zero_le _) (by simp) (Nat.zero_le _) rfl ⟨fun u hu=>(by cases hu),hs,by simpa using hd⟩;cases p with
 |far x hi mm h=>exact absurd h (by simp)
 |@ret _ Γ' M' N r x hi mm hn Ii Ha h8=>
  exact .inl ⟨N,r,hn,A9c ht hp hL q (kept (K:=[Br,Cd]) x hi rfl) (kept (K:=[Br,Cd]) x hi rfl)⟩
 |@out _ Γ' M' x hi mm h=>
  refine .inr ⟨A9b ht hp hL q (kept (K:=[Br,Cd]) x hi rfl) (kept (K:=[Br,Cd]) x hi rfl),fun N r hn=>?_⟩;have:=h N r hn;simp only at this;omega
section
variable{v v1 v2:Nat->Nat->Tm}{f f1 f2:Nat->Int->Tm}
theorem My(c1 c2:Nat)(hv:∀b i,trT v2 f2 (b+c2) (v1 (b+c1) i)=v b i)(hf:∀b l,trT v2 f2 (b+c2) (f1 (b+c1) l)=f b l)(t:Tm):∀b,trT v2 f2 (b+c2) (trT v1 f1 (b+c1) t)=trT v f b t:=by
 induction t using Tm.ind with
 |h k i j n l ih=>
  intro b
  by_cases h2:k=2
  ·subst h2;rw[Oc,Oc,hv]
  by_cases h0:k=0
  ·subst h0;rw[Pj,Pj,hf]
  rw[Ey h2 h0,Ey h2 h0,Ey h2 h0];congr 1;apply List.ext_getElem?;intro q;rw[Ep,Ep,Ep,Option.map_map];cases hq:l[q]? with
  |none=>rfl
  |some t=>
   simp only[Option.map_some,Function.comp];rw[show b+c1+bnd k (0+q)=b+bnd k (0+q)+c1 by omega,show b+c2+bnd k (0+q)=b+bnd k (0+q)+c2 by omega,ih t (List.mem_of_getElem? hq)]
theorem Aou{B:Nat}{t:Tm}(h:Sf B t):∀{c:Nat},(∀b i,i<B+(b-c)->c<=b->v1 b i=v2 b i)->trT v1 f1 c t=trT v2 f2 c t:=by
 induction h with
 |@var B i h=>intro c hv;rw[Cu,Cu];exact hv c i (by omega) (Nat.le_refl _)
 |@nd B k i j n l h2 h0 hf hl _ ih=>
  intro c hv;rw[Ey h2 h0,Ey h2 h0];congr 1;apply List.ext_getElem?;intro q;rw[Ep,Ep];cases hq:l[q]? with
  |none=>rfl
  |some t=>
   simp only[Option.map_some,Nat.zero_add];rw[ih q t hq (fun b i h1 h2=>hv b i (by omega) (by omega))]
theorem Afv{B:Nat}{t:Tm}(h:Sf B t):∀{b c:Nat},(∀b' i,b<=b'->i<B+(b'-b)->Sf (c+(b'-b)) (v b' i))->Sf c (trT v f b t):=by
 induction h with
 |@var B i h=>intro b c hv;rw[Cu];simpa using hv b i (Nat.le_refl _) (by omega)
 |@nd B k i j n l h2 h0 hf hl _ ih=>
  intro b c hv;rw[Ey h2 h0];refine .nd i j n h2 h0 hf (by rw[Kh];exact hl) (fun p t ht=>?_);rw[Ep,Nat.zero_add] at ht;cases hq:l[p]? with
  |none=>rw[hq] at ht;cases ht
  |some u=>
   rw[hq,Option.map_some,q_b] at ht;subst ht;refine ih p u hq (fun b' i hb hi=>?_);have:=hv b' i (by omega) (by omega)
   rwa [show c+(b'-b)=c+bnd k p+(b'-(b+bnd k p)) by omega] at this
end
def lfv(k:Nat)(b i:Nat):Tm:=if i<b then vT i else vT (i+k)
def Eo(k:Nat)(t:Tm):Tm:=trT (lfv k) (fun _ l=>fT l) 0 t
def ptv(u:Tm)(b i:Nat):Tm:=if i<b then vT i else if i=b then Eo b u else vT (i-1)
def Im(u t:Tm):Tm:=trT (ptv u) (fun _ l=>fT l) 0 t
def alv(l:List Tm)(b i:Nat):Tm:=if i<b then vT i else Eo b (l.getD (i-b) (vT 0))
def Ht(l:List Tm)(t:Tm):Tm:=trT (alv l) (fun _ l=>fT l) 0 t
def lvv(d:Nat)(b i:Nat):Tm:=if i<b then vT i else fT ((d:Int)-1-((i-b:Nat):Int))
def lvB(d b:Nat)(t:Tm):Tm:=trT (lvv d) (fun _ l=>fT l) b t
def lv(d:Nat)(t:Tm):Tm:=lvB d 0 t
theorem lv_0(t:Tm):lv 0 t=Aq [] 0 t:=by
 refine Bgo (b0:=0) (fun b i _=>?_) (fun _ _ _=>rfl) t 0 (Nat.le_refl _);unfold lvv ivI;split
 ·rfl
 ·simp only[List.getElem?_nil,List.length_nil];congr 1;omega
theorem Wh{k:Int}(h2:k≠2)(h0:k≠0)(d b:Nat)(i j n:Int)(l:List Tm):lvB d b (.mk k i j n l)=.mk k i j n (trL (lvv d) (fun _ l=>fT l) b k 0 l):=Ey h2 h0 b i j n l
theorem Al7(d b:Nat)(u:Tm):lvB d b (Eo b u)=lv d u:=by
 have:=My (v1:=lfv b) (f1:=fun _ l=>fT l) (v2:=lvv d) (f2:=fun _ l=>fT l) (v:=lvv d) (f:=fun _ l=>fT l) 0 b (fun b' i=>?_) (fun b' l=>He _ _) u 0
 ·simpa [lvB,Eo,lv] using this
 ·rw[Nat.add_zero];unfold lfv lvv
  by_cases h:i<b'
  ·rw[if_pos h,Cu,if_pos (by omega),if_pos h]
  ·rw[if_neg h,Cu,if_neg (by omega),if_neg h];congr 2;omega
theorem Bdd(d:Nat)(u t:Tm):lv d (Im u t)=Aq [lv d u] 0 (lvB d 1 t):=by
 have h1:=My (v1:=ptv u) (f1:=fun _ l=>fT l) (v2:=lvv d) (f2:=fun _ l=>fT l) (v:=fun b i=>if i<b then vT i else if i=b then lv d u else fT ((d:Int)-1-((i-1-b:Nat):Int))) (f:=fun _ l=>fT l) 0 0 (fun b i=>?_) (fun b l=>He _ _) t 0
 ·have h2:=My (v1:=lvv d) (f1:=fun _ l=>fT l) (v2:=ivI [lv d u]) (f2:=fun _ l=>fT l) (v:=fun b i=>if i<b then vT i else if i=b then lv d u else fT ((d:Int)-1-((i-1-b:Nat):Int))) (f:=fun _ l=>fT l) 1 0 (fun b i=>?_) (fun b l=>He _ _) t 0
  ·simp only[Nat.add_zero,Nat.zero_add] at h1 h2;exact h1.trans h2.symm
  ·rw[Nat.add_zero];unfold lvv ivI
   by_cases h:i<b
   ·rw[if_pos (by omega),Cu,if_pos h,if_pos h]
   ·by_cases h':i=b
    ·subst h';rw[if_pos (by omega),Cu,if_neg h,if_neg h,if_pos rfl,Nat.sub_self];rfl
    ·rw[if_neg (by omega),He,if_neg h,if_neg h'];congr 2;omega
 ·simp only[Nat.add_zero];unfold ptv
  by_cases h:i<b
  ·rw[if_pos h,Cu,if_pos h];unfold lvv;rw[if_pos h]
  ·rw[if_neg h,if_neg h]
   by_cases h':i=b
   ·subst h';rw[if_pos rfl,if_pos rfl];exact Al7 d i u
   ·rw[if_neg h',if_neg h',Cu];unfold lvv;rw[if_neg (by omega)]
theorem Apq(d:Nat)(l:List Tm){t:Tm}(ht:Sf l.length t):lv d (Ht l t)=Aq (l.map (lv d)) 0 t:=by
 have h1:=My (v1:=alv l) (f1:=fun _ l=>fT l) (v2:=lvv d) (f2:=fun _ l=>fT l) (v:=fun b i=>if i<b then vT i else lv d (l.getD (i-b) (vT 0))) (f:=fun _ l=>fT l) 0 0 (fun b i=>?_) (fun b l=>He _ _) t 0
 ·simp only[Nat.add_zero] at h1;refine h1.trans (Aou ht (fun b i hi hb=>?_));unfold ivI;split
  ·rfl
  ·have Ab:i-b<l.length:=by omega
   rw[List.getElem?_map,q_f Ab,List.getD_eq_getElem?_getD,q_f Ab];rfl
 ·simp only[Nat.add_zero];unfold alv
  by_cases h:i<b
  ·rw[if_pos h,Cu,if_pos h];unfold lvv;rw[if_pos h]
  ·rw[if_neg h,if_neg h];exact Al7 d b _
theorem A1j(d n q:Nat):(Gn d n)[q]?=if q<n then some (fT ((d+n-1-q:Nat):Int)) else none:=by
 induction n generalizing q with
 |zero=>simp[Gn]
 |succ n ih=>
  cases q with
  |zero=>simp[Gn]
  |succ q=>
   rw[Gn,List.getElem?_cons_succ,ih]
   by_cases h:q<n
   ·rw[if_pos h,if_pos (by omega),show d+n-1-q=d+(n+1)-1-(q+1) by omega]
   ·rw[if_neg h,if_neg (by omega)]
theorem Bae(d b:Nat)(t:Tm):Aq (Gn d b) 0 (lvB d b t)=lv (d+b) t:=by
 have h:=My (v1:=lvv d) (f1:=fun _ l=>fT l) (v2:=ivI (Gn d b)) (f2:=fun _ l=>fT l) (v:=lvv (d+b)) (f:=fun _ l=>fT l) b 0 (fun b' i=>?_) (fun b l=>He _ _) t 0
 ·simpa [lvB,lv,Aq] using h
 ·rw[Nat.add_zero];unfold lvv ivI
  by_cases h:i<b'
  ·rw[if_pos (by omega),Cu,if_pos h,if_pos h]
  ·by_cases h':i<b'+b
   ·rw[if_pos h',Cu,if_neg h,if_neg h,A1j,if_pos (by omega)];simp only;congr 1;omega
   ·rw[if_neg h',He,if_neg h];congr 1;omega
theorem Acl{v:Nat->Nat->Tm}{f:Nat->Int->Tm}{b:Nat}{k:Int}{X:Nat->Tm->Option Tm}:∀{l:List Tm} {p:Nat},(∀(q:Nat) t,l[q]?=some t->X (p+q) t=some (trT v f (b+bnd k (p+q)) t))->Cf X p l=some (trL v f b k p l):=by
 intro l
 induction l with
 |nil=>intro p _;rw[trL];rfl
 |cons t l ih=>
  intro p h;have h0:=h 0 t rfl;rw[Nat.add_zero] at h0;rw[Cf,h0,trL,ih (p:=p+1) (fun q t ht=>by have:=h (q+1) t (by simpa using ht);rwa [show p+(q+1)=p+1+q by omega] at this)]
theorem Al5{B k:Nat}{t:Tm}(h:Sf B t):∀{fr:Nat},B+dpt t+k<=2147483647->Hm (k:Int) (fr:Int) t=some (trT (lfv k) (fun _ l=>fT l) fr t):=by
 induction h with
 |@var B i h=>
  intro fr hb;rw[Cu,vT,Ae8];unfold Pc lfv
  by_cases hi:fr<=i
  ·rw[if_pos ⟨rfl,by omega⟩,if_neg (by omega),if_neg (by omega)];simp[Cf,vT]
  ·rw[if_neg (by omega),if_pos (by omega)];simp[Cf,vT]
 |@nd B k' i j n l h2 h0 hf hl hk ih=>
  intro fr hb;rw[Ey h2 h0,Ae8];unfold Pc;rw[if_neg (fun c=>h2 c.1)];simp only[Option.bind_some];rw[Acl (v:=lfv k) (f:=fun _ l=>fT l) (b:=fr) (k:=k') (fun q t ht=>?_)]
  ·rfl
  ·rw[Ve,Nat.zero_add,<-Int.natCast_add];have:=Km (k:=k') (i:=i) (j:=j) (n:=n) ht;exact ih q t ht (by omega)
theorem Bc9{B C:Nat}{t u:Tm}(h:Sf B t)(hu:Sf C u):∀{d:Nat},C+dpt u+(d+dpt t)<=2147483647->Ho u (d:Int) t=some (trT (ptv u) (fun _ l=>fT l) d t):=by
 induction h with
 |@var B i h=>
  intro d hb;rw[Cu];unfold ptv
  by_cases h1:i<d
  ·rw[if_pos h1,vT,Abe (by omega)];simp[Cf]
  ·rw[if_neg h1];unfold vT;rw[Afm ⟨rfl,by omega⟩]
   by_cases h2:i=d
   ·subst h2;rw[if_pos rfl,if_pos rfl];exact Al5 (fr:=0) hu (by omega)
   ·rw[if_neg (by omega),if_neg h2,vr,show ((i-1:Nat):Int)=(i:Int)-1 by omega]
 |@nd B k' i j n l h2 h0 hf hl hk ih=>
  intro d hb;rw[Ey h2 h0,Abe (fun c=>h2 c.1),Acl (v:=ptv u) (f:=fun _ l=>fT l) (b:=d) (k:=k') (fun q t ht=>?_)]
  ·rfl
  ·rw[Ve,Nat.zero_add,<-Int.natCast_add];have:=Km (k:=k') (i:=i) (j:=j) (n:=n) ht;exact ih q t ht (by omega)
def Bi(B:BT)(t:Tm):Option Tm:=
 if t.k=15/\(Am t 0).k=14 then some (Im (Am t 1) (Am (Am t 0) 1))
 else if t.k=18/\(Am t 0).k=17 then some (Am (Am t 0) 2)
 else if t.k=19/\(Am t 0).k=17 then some (Am (Am t 0) 3)
 else if t.k=22/\(Am t 5).k=21 then some (Am t 3)
 else if t.k=23 then (B t.n t.i t.j).map (fun b=>Ht t.kids.reverse b) else none
theorem axP(B:BT):Ax (Bi B):=by
 refine⟨fun t u h=>?_⟩;unfold Bi at h;unfold isV stk;split at h
 ·rename_i c;exact .inr ⟨0,by rw[if_pos (by omega)],by omega⟩
 split at h
 ·rename_i c;exact .inr ⟨0,by rw[if_pos (by omega)],by omega⟩
 split at h
 ·rename_i c;exact .inr ⟨0,by rw[if_pos (by omega)],by omega⟩
 split at h
 ·rename_i c;exact .inr ⟨5,by rw[if_neg (by omega),if_pos (by omega)],by omega⟩
 split at h
 ·rename_i c;exact .inl c
 ·cases h
def Gv(B:BT):Prop:=∀n i j b,B n i j=some b->Sf (Bf 23 n).toNat b
section
variable{B:BT}{C d:Nat}
theorem Jd{C:Nat}{t:Tm}(h:Sf C t){p:Nat}(hp:p<t.kids.length):Sf (C+bnd t.k p) (Am t p):=by
 cases t with
 |mk k i j n l=>
  have hp':p<l.length:=hp;have hl:l[p]?=some l[p]:=q_f hp';have:Am (.mk k i j n l) p=l[p]:=by unfold Am;rw[show (Tm.mk k i j n l).kids=l from rfl,List.getD_eq_getElem?_getD,hl];rfl
  rw[this];exact h.kid hl
theorem sf_k{C:Nat}{t:Tm}(h:Sf C t):t.k≠0:=by
 cases h with
 |var h=>exact k_ne (by decide)
 |nd _ _ _ _ h0=>exact h0
theorem Hp{C:Nat}{t:Tm}(h:Sf C t)(h2:t.k≠2):(t.kids.length:Int)=Bf t.k t.n:=by
 cases t with
 |mk k i j n l=>exact (h.node h2).2.2
theorem lv_k{t:Tm}(h:Sf C t)(h2:t.k≠2):(lv d t).k=t.k/\(lv d t).i=t.i/\(lv d t).j=t.j/\(lv d t).n=t.n/\(lv d t).kids.length=t.kids.length:=by
 have h0:=sf_k h;cases t with
 |mk k i j n l=>
  unfold lv;rw[Wh (show k≠2 from h2) (show k≠0 from h0)];exact⟨rfl,rfl,rfl,rfl,Kh _ _ _ _⟩
theorem Aaz{t:Tm}(h:Sf C t)(h2:t.k=2):∃i:Nat,t=vT i/\lv d t=fT ((d:Int)-1-i):=by
 cases t with
 |mk k i j n l=>
  have:k=2:=h2;subst this;obtain⟨q,rfl,rfl,rfl,rfl,_⟩:=h.vr;refine⟨q,rfl,?_⟩;show lv d (vT q)=_;unfold lv lvB;rw[Cu,lvv,if_neg (by omega),Nat.sub_zero]
theorem Ny{t:Tm}(h:Sf C t)(h2:t.k≠2){p:Nat}(hp:p<t.kids.length):Am (lv d t) p=lvB d (bnd t.k p) (Am t p):=by
 have h0:=sf_k h;cases t with
 |mk k i j n l=>
  have hp':p<l.length:=hp;unfold lv;rw[Wh (show k≠2 from h2) (show k≠0 from h0)];unfold Am;simp only[Tm.kids,Tm.k,List.getD_eq_getElem?_getD];rw[Ep,q_f hp'];simp only[Option.map_some,Option.getD_some,Nat.zero_add];rfl
theorem Aay{t:Tm}(h:Sf C t)(h2:t.k≠2){p:Nat}(hp:p<t.kids.length)(hb:bnd t.k p=0){c:Int}(hc:c≠0/\c≠2):((Am (lv d t) p).k=c↔(Am t p).k=c):=by
 rw[Ny h h2 hp,hb];have hs:=Jd h hp;rw[hb,Nat.add_zero] at hs
 by_cases hk:(Am t p).k=2
 ·obtain⟨i,e1,e2⟩:=Aaz (d:=d) hs hk;rw[show lvB d 0 (Am t p)=lv d (Am t p) from rfl,e2,hk];constructor
  ·intro e;exact absurd e.symm hc.1
  ·intro e;exact absurd e.symm hc.2
 ·rw[show lvB d 0 (Am t p)=lv d (Am t p) from rfl,(lv_k (d:=d) hs hk).1]
theorem Ba0{t:Tm}(h:t.k=15):plD B t=if (Am t 0).k=14 then some (Aq [Am t 1] 0 (Am (Am t 0) 1)) else none:=by simp[plD,plW,h]
theorem Ba1{t:Tm}(h:t.k=18):plD B t=if (Am t 0).k=17 then some (Am (Am t 0) 2) else none:=by simp[plD,plW,h]
theorem Ba2{t:Tm}(h:t.k=19):plD B t=if (Am t 0).k=17 then some (Am (Am t 0) 3) else none:=by simp[plD,plW,h]
theorem Ba3{t:Tm}(h:t.k=22):plD B t=if (Am t 5).k=21 then some (Am t 3) else none:=by simp[plD,plW,h]
theorem Ba4{t:Tm}(h:t.k=23):plD B t=(B t.n t.i t.j).map (fun b=>Aq t.kids.reverse 0 b):=by simp[plD,h]
theorem Am3{t:Tm}(h:t.k≠15/\t.k≠18/\t.k≠19/\t.k≠22/\t.k≠23):plD B t=none:=by simp[plD,plW,h]
theorem Se{t:Tm}(h:t.k=15):Bi B t=if (Am t 0).k=14 then some (Im (Am t 1) (Am (Am t 0) 1)) else none:=by simp[Bi,h]
theorem Sg{t:Tm}(h:t.k=18):Bi B t=if (Am t 0).k=17 then some (Am (Am t 0) 2) else none:=by simp[Bi,h]
theorem Sh{t:Tm}(h:t.k=19):Bi B t=if (Am t 0).k=17 then some (Am (Am t 0) 3) else none:=by simp[Bi,h]
theorem Si{t:Tm}(h:t.k=22):Bi B t=if (Am t 5).k=21 then some (Am t 3) else none:=by simp[Bi,h]
theorem Sj{t:Tm}(h:t.k=23):Bi B t=(B t.n t.i t.j).map (fun b=>Ht t.kids.reverse b):=by simp[Bi,h]
theorem Ky{t:Tm}(h:t.k≠15/\t.k≠18/\t.k≠19/\t.k≠22/\t.k≠23):Bi B t=none:=by simp[Bi,h]
theorem Afi(hB:Gv B){t:Tm}(h:Sf C t):plD B (lv d t)=(Bi B t).map (lv d):=by
 by_cases h2:t.k=2
 ·obtain⟨i,e1,e2⟩:=Aaz (d:=d) h h2;rw[e2,Ky (by omega),Am3 (by unfold fT;simp[Tm.k])];rfl
 have hl:=Hp h h2;obtain⟨a1,a2,a3,a4,a5⟩:=lv_k (d:=d) h h2
 by_cases Fa:t.k=15
 ·rw[Fa,kids15] at hl;have b0:bnd t.k 0=0:=by rw[Fa];decide
  have b1:bnd t.k 1=0:=by rw[Fa];decide
  have hk:=Aay (d:=d) (p:=0) h h2 (by omega) b0 (c:=14) (by decide);rw[Ba0 (a1.trans Fa),Se Fa]
  by_cases c:(Am t 0).k=14
  ·rw[if_pos (hk.2 c),if_pos c,Option.map_some];have Fw:=Jd (p:=0) h (by omega);rw[b0,Nat.add_zero] at Fw;have De:=Hp Fw (by omega);rw[c,kids14] at De;rw[Bdd,Ny h h2 (by omega),Ny h h2 (by omega),b0,b1,show lvB d 0 (Am t 0)=lv d (Am t 0) from rfl,Ny Fw (by omega) (by omega),c];rfl
  ·rw[if_neg (fun e=>c (hk.1 e)),if_neg c];rfl
 by_cases Gb:t.k=18
 ·rw[Gb,kids18] at hl;have b0:bnd t.k 0=0:=by rw[Gb];decide
  have hk:=Aay (d:=d) (p:=0) h h2 (by omega) b0 (c:=17) (by decide);rw[Ba1 (a1.trans Gb),Sg Gb]
  by_cases c:(Am t 0).k=17
  ·rw[if_pos (hk.2 c),if_pos c,Option.map_some];have Fw:=Jd (p:=0) h (by omega);rw[b0,Nat.add_zero] at Fw;have De:=Hp Fw (by omega);rw[c,kids17] at De;rw[Ny h h2 (by omega),b0,show lvB d 0 (Am t 0)=lv d (Am t 0) from rfl,Ny Fw (by omega) (by omega),c];rfl
  ·rw[if_neg (fun e=>c (hk.1 e)),if_neg c];rfl
 by_cases Gc:t.k=19
 ·rw[Gc,kids19] at hl;have b0:bnd t.k 0=0:=by rw[Gc];decide
  have hk:=Aay (d:=d) (p:=0) h h2 (by omega) b0 (c:=17) (by decide);rw[Ba2 (a1.trans Gc),Sh Gc]
  by_cases c:(Am t 0).k=17
  ·rw[if_pos (hk.2 c),if_pos c,Option.map_some];have Fw:=Jd (p:=0) h (by omega);rw[b0,Nat.add_zero] at Fw;have De:=Hp Fw (by omega);rw[c,kids17] at De;rw[Ny h h2 (by omega),b0,show lvB d 0 (Am t 0)=lv d (Am t 0) from rfl,Ny Fw (by omega) (by omega),c];rfl
  ·rw[if_neg (fun e=>c (hk.1 e)),if_neg c];rfl
 by_cases Du:t.k=22
 ·rw[Du,kids22] at hl;have b5:bnd t.k 5=0:=by rw[Du];decide
  have b3:bnd t.k 3=0:=by rw[Du];decide
  have hk:=Aay (d:=d) (p:=5) h h2 (by omega) b5 (c:=21) (by decide);rw[Ba3 (a1.trans Du),Si Du]
  by_cases c:(Am t 5).k=21
  ·rw[if_pos (hk.2 c),if_pos c,Option.map_some];rw[Ny h h2 (by omega),b3];rfl
  ·rw[if_neg (fun e=>c (hk.1 e)),if_neg c];rfl
 by_cases Cc:t.k=23
 ·rw[Ba4 (a1.trans Cc),Sj Cc,a2,a3,a4];cases hb:B t.n t.i t.j with
  |none=>rfl
  |some b=>
   simp only[Option.map_some];congr 1;have hbs:=hB _ _ _ _ hb;rw[Cc] at hl;rw[Apq d (l:=t.kids.reverse) (t:=b) (by rw[List.length_reverse,show t.kids.length=(Bf 23 t.n).toNat by omega];exact hbs),List.map_reverse];congr 2;cases t with
   |mk k i j n l=>
    have hk:k=23:=Cc;subst hk;unfold lv;rw[Wh (by decide) (by decide)];simp only[Tm.kids];apply List.ext_getElem?;intro q;rw[Ep,List.getElem?_map,bnd23];rfl
 ·rw[Am3 (by omega),Ky (by omega)];rfl
end
end Go.Proofs.YtdpigpopcbjkmaaGreatDoor.Abs
