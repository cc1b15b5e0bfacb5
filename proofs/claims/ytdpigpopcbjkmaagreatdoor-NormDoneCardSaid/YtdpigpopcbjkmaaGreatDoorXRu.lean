import Derived.Test.YtdpigpopcbjkmaaGreatDoorXMd
set_option linter.unusedSimpArgs false
set_option linter.unusedVariables false
set_option maxRecDepth 20000
set_option maxHeartbeats 4000000
namespace Go.Proofs.YtdpigpopcbjkmaaGreatDoor.Abs
open Go Go.RowKit Go.Proofs.YtdpigpopcbjkmaaGreatDoor
def Sj:SV:=.ife 75
def Ti:SV:=.ife 131
structure Mle(M M':Mc):Prop where
 most:M'.most=M.most
 steps:M.steps<=M'.steps
 seen:M'.seen=M.seen
 guess:M.guess=0->M'.guess=0
theorem Mle.refl(M:Mc):Mle M M:=⟨rfl,Nat.le_refl _,rfl,id⟩
theorem Mle.trans{a b c:Mc}(h:Mle a b)(k:Mle b c):Mle a c:=⟨k.most.trans h.most,Nat.le_trans h.steps k.steps,k.seen.trans h.seen,fun g=>k.guess (h.guess g)⟩
inductive Post(S:SyT)(P:Tm->Option Tm)(m j:Nat)(Γ:Gh)(M:Mc)(T:Tm):HOut->GV->Prop
 |ret {G':GV} {Γ':Gh} {M':Mc} {v:Vl} {n:Nat} (x:Gx Γ Γ') (hi:RInv S m j G' Γ' M') (mm:Mle M M') (hv:WOK Γ' v) (hn:HN P (TV Γ' v)) (hr:HR P n T (TV Γ' v)) (hs:M'.steps<=M.steps+n):Post S P m j Γ M T (.ret (vlV v)) G'
 |out {G':GV} {Γ':Gh} {M':Mc} (x:Gx Γ Γ') (hi:RInv S m j G' Γ' M') (mm:Mle M M') (h:∀N Y,HR P N T Y->HN P Y->M.most<M.steps+N):Post S P m j Γ M T (.pan Sj) G'
 |far {G':GV} {Γ':Gh} {M':Mc} (x:Gx Γ Γ') (hi:RInv S m j G' Γ' M') (mm:Mle M M') (hg:0<M.guess):Post S P m j Γ M T (.pan Ti) G'
section
variable{S:SyT}{P:Tm->Option Tm}{m j:Nat}{Γ Γ1:Gh}{M M1:Mc}{T U:Tm}{out:HOut}{G G':GV}
theorem Post.outV(h:Post S P m j Γ M T out G'):Mz out:=by
 cases h with
 |ret=>exact⟨_,rfl⟩
 |out=>trivial
 |far=>trivial
theorem Mle.pos(h:Mle M M1)(g:0<M1.guess):0<M.guess:=by
 have:=h.guess;omega
theorem Post.pre{n:Nat}(hr:HR P n T U)(x:Gx Γ Γ1)(mm:Mle M M1)(hs:M1.steps<=M.steps+n)(h:Post S P m j Γ1 M1 U out G'):Post S P m j Γ M T out G':=by
 cases h with
 |ret x1 hi m1 hv hn Bs Bk=>exact .ret (x.trans x1) hi (mm.trans m1) hv hn (Sc hr Bs) (by omega)
 |out x1 hi m1 h=>exact .out (x.trans x1) hi (mm.trans m1) (fun N Y hN hY=>by
   obtain⟨h1,h2⟩:=Uh hN hY hr;have:=h _ _ h2 hY;have:=mm.most;omega)
 |far x1 hi m1 hg=>exact .far (x.trans x1) hi (mm.trans m1) (mm.pos hg)
theorem Post.kid{p:Nat}{x:SV}(ax:Ax P)(hp:stk T.k=some p)(hl:p<T.kids.length)(h:Post S P m j Γ M (Aj T p) (.pan x) G'):Post S P m j Γ M T (.pan x) G':=by
 cases h with
 |out x1 hi m1 h=>exact .out x1 hi m1 (fun N Y hN hY=>by
   obtain⟨N1,g,h1,h2,h3,_⟩:=Akt ax hp hl hN hY;have:=h _ _ h2 h3;omega)
 |far x1 hi m1 hg=>exact .far x1 hi m1 hg
inductive Vf(S:SyT)(m j:Nat)(Γ:Gh)(M:Mc):HOut->GV->Prop
 |ret {G':GV} {M':Mc} (hi:RInv S m j G' Γ M') (mm:Mle M M') (hs:M.steps<M.most) (h1:M'.steps=M.steps+1):Vf S m j Γ M (.ret (.tup [])) G'
 |out {G':GV} {M':Mc} (hi:RInv S m j G' Γ M') (mm:Mle M M') (hs:M.most<=M.steps):Vf S m j Γ M (.pan Sj) G'
 |far {G':GV} {M':Mc} (hi:RInv S m j G' Γ M') (mm:Mle M M') (hg:0<M.guess):Vf S m j Γ M (.pan Ti) G'
theorem v8(g:Nat):Ng (g:Int)=((g-1:Nat):Int):=by unfold Ng;split<;>omega
theorem Qz(h:RInv S m j G Γ M):∃out G',Ad 93 G [.gp m 0] out G'/\Vf S m j Γ M out G':=by
 have hm:=h.mc;obtain⟨steps,most,seen,guess⟩:=M;have Fc:=h.st;have Ou:=h.mo;have Ia:=h.se;have Bi:=h.gu;simp only at Fc Ou Ia Bi;unfold Mc.row at hm;simp only at hm;have hf:fit (guess:Int):=by unfold fit;omega
 by_cases h1:guess=1
 ·subst h1;exact⟨_,_,A3p hm,.far (h.mach ⟨steps,most,seen,0⟩ Fc Ou Ia (by simp)) ⟨rfl,Nat.le_refl _,rfl,fun _=>rfl⟩ (by simp)⟩
 have hg:(guess:Int)≠1:=by omega
 by_cases h2:steps<most
 ·refine⟨_,_,Ajw hm hf hg (by omega) (by unfold fit;omega),?_⟩;rw[v8];exact .ret (h.mach ⟨steps+1,most,seen,guess-1⟩ (by simp only;omega) Ou Ia (by simp only;omega)) ⟨rfl,by simp only;omega,rfl,fun g=>by simp only at g |-;omega⟩ h2 rfl
 ·refine⟨_,_,A3q hm hf hg (by omega),?_⟩;rw[v8];exact .out (h.mach ⟨steps,most,seen,guess-1⟩ Fc Ou Ia (by simp only;omega)) ⟨rfl,Nat.le_refl _,rfl,fun g=>by simp only at g |-;omega⟩ (by simp only;omega)
theorem Post.take{n:Nat}{W:Tm}{x:SV}(hr:HR P n T U)(x1:Gx Γ Γ1)(mm:Mle M M1)(hs:M1.steps<=M.steps+n)(hu:HS P U W)(h:Vf S m j Γ1 M1 (.pan x) G'):Post S P m j Γ M T (.pan x) G':=by
 cases h with
 |out hi m1 hm=>exact .out x1 hi (mm.trans m1) (fun N Y hN hY=>by
   obtain⟨h1,h2⟩:=Uh hN hY hr;have:N-n≠0:=fun e=>by
    rw[e] at h2;cases h2;exact Yy hY hu
   have:=mm.most;omega)
 |far hi m1 hg=>exact .far x1 hi (mm.trans m1) (mm.pos hg)
end
def EvT(S:SyT)(m j F K:Nat)(t:Tm):Prop:=∀{G:GV} {Γ:Gh} {M:Mc} {e:List Nat} {es:List Tm},RInv S m j G Γ M->M.most<=M.steps+F->EOK Γ K e es->(∃B,Sf B t/\B+dpt t<=cap)->es.length+dpt t<=cap ->
 ∃out G',EvL G m t e out G'/\Post S plW m j Γ M (Ao es 0 t) out G'
theorem Acd{S:SyT}{m j F id:Nat}(he:∀t,EvT S m j F id t){G:GV}{Γ:Gh}{M:Mc}{g:Ge}(h:RInv S m j G Γ M)(hF:M.most<=M.steps+F)(hg:Γ[id]?=some (some g))(ho:g.Ok 0) :
  ∃out G',Ad 68 G [.gp m 0,.gp id 0] out G'/\Post S plW m j Γ M (g.den 0) out G':=by
 obtain⟨th,h1,h2⟩:=h.rows id g hg;cases g with
 |kp row=>exact ho.elim
 |dn y T=>
  obtain⟨k1,k2,k3,k4,rfl⟩:=h1;exact⟨_,_,Apl k1 k3,.ret (.refl Γ) h (.refl M) k4 k4.hn (.refl _) (Nat.le_refl _)⟩
 |cl t es=>
  obtain⟨k1,k2,k3,k4,k5⟩:=h1;cases hw:th.w with
  |some v=>
   obtain⟨w,n,hr⟩:=k5 v hw;exact⟨_,_,Apl k1 hw,.ret (.refl Γ) h (.refl M) w w.hn hr (by omega)⟩
  |none=>
   obtain⟨o1,o2,o3⟩:=ho;subst k3;obtain⟨out,G1,e1,p1⟩:=he th.t h hF k4 o2 (by omega);cases p1 with
   |@ret _ Γ1 M1 v n x hi mm hv hn hr hs=>
    obtain⟨th1,t1,t2⟩:=hi.rows id _ (x.get hg);obtain⟨q1,q2,q3,q4,q5⟩:=t1;refine⟨_,_,Acb k1 hw k2 (Dz e1) q1,.ret x (hi.set (g:=.cl th.t es) (x.get hg) ⟨Fg q1,q2,q3,q4,fun v' Bd=>?_⟩ (fun v' Bd=>t2 v' Bd)) mm hv hn hr hs⟩;simp only[q_b] at Bd;subst Bd;exact⟨hv,n,hr⟩
   |out x hi mm h'=>exact⟨_,_,Apm k1 hw k2 (Dz e1),.out x hi mm h'⟩
   |far x hi mm h'=>exact⟨_,_,Apm k1 hw k2 (Dz e1),.far x hi mm h'⟩
theorem VOK.kid{Γ:Gh}{v:Vl}(h:VOK Γ v)(h2:v.k≠2){p:Nat}(hp:(p:Int)<Bh v.k v.n):∃id g,v.kids[p]?=some id/\Γ[id]?=some (some g)/\g.Ok (bnd v.k p)/\Aj (TV Γ v) p=g.den (bnd v.k p):=by
 cases h with
 |fv l _=>exact absurd rfl h2
 |@nd k i j n kids _ h0 hf hl hk=>
  have Ab:p<kids.length:=by
   have e:Bh k n=kids.length:=hl.symm;simp only[e] at hp;omega
  obtain⟨g,hg,ho⟩:=hk p kids[p] (q_f Ab);refine⟨kids[p],g,q_f Ab,hg,ho,?_⟩;rw[Aci h2 (show (Vl.mk k i j n 0 kids).kids[p]?=some kids[p] from q_f Ab),Mb hg]
theorem Aou{l:List Int}{c:Int}(h:∀x∈l,x<=c)(hc:-1<=c)(k:Int):tab l k<=c:=by
 unfold tab;split
 ·rw[List.getD_eq_getElem?_getD];cases hq:l[(k-1).toNat]? with
  |none=>exact hc
  |some x=>exact h x (List.mem_of_getElem? hq)
 ·exact hc
theorem Nx(k n:Int):Bh k n<=12:=by
 unfold Bh Sn;split
 ·exact Aou (by decide) (by decide) n
 ·exact Aou (by decide) (by decide) k
theorem k_ne{k c i j n:Int}{l:List Tm}(h:k≠c):¬(Tm.mk k i j n l).k=c:=h
theorem stk2:stk 2=none:=by decide
theorem stk0:stk 0=none:=by decide
theorem kids14(n:Int):Bh 14 n=2:=q_z
theorem kids15(n:Int):Bh 15 n=2:=q_z
theorem kids17(n:Int):Bh 17 n=4:=q_z
theorem kids18(n:Int):Bh 18 n=1:=q_z
theorem kids19(n:Int):Bh 19 n=1:=q_z
theorem kids22(n:Int):Bh 22 n=6:=q_z
theorem len1{α:Type}{l:List α}(h:l.length=1):∃a,l=[a]:=by
 match l,h with
 |[a],_=>exact⟨a,rfl⟩
theorem len2{α:Type}{l:List α}(h:l.length=2):∃a b,l=[a,b]:=by
 match l,h with
 |[a,b],_=>exact⟨a,b,rfl⟩
theorem len6{α:Type}{l:List α}(h:l.length=6):∃a b c d e f,l=[a,b,c,d,e,f]:=by
 match l,h with
 |[a,b,c,d,e,f],_=>exact⟨a,b,c,d,e,f,rfl⟩
section
variable{S:SyT}{m j F K:Nat}
theorem Bej(hK:∀K',K'<K->∀t,EvT S m j F K' t)(i j' n:Int)(l:List Tm):EvT S m j F K (.mk 2 i j' n l):=by
 intro G Γ M e es hI hF he hs hE;obtain⟨B,hs,hB⟩:=hs;obtain⟨q,rfl,rfl,rfl,rfl,hq⟩:=hs.vr;have hc:cap=1099511627776:=rfl;have Db:fit (q:Int):=by unfold fit;omega
 have hT:Ao es 0 (.mk 2 q 0 0 [])=ivI es 0 q:=Cm 0 q;have Ah:=he.len;rw[hT];unfold ivI;rw[if_neg (by omega),Nat.sub_zero];cases hi:e[q]? with
 |some id=>
  obtain⟨h1,g,h2,h3,h4⟩:=he.at_ q id hi;obtain⟨out,G',w1,w2⟩:=Acd (hK id h1) hI hF h2 h3;rw[h4];exact⟨out,G',Aiz Db hi w1 w2.outV,w2⟩
 |none=>
  have hle:e.length<=q:=List.getElem?_eq_none_iff.1 hi;rw[List.getElem?_eq_none (by omega)];refine⟨_,_,Aip Db hi (by unfold fit;omega),.ret (n:=0) (.refl Γ) hI (.refl M) ⟨.fv _ (by omega),.base stk2,Yx stk0⟩ (Yx stk0) ?_ (by omega)⟩;rw[Ah];exact .refl _
theorem Beg{k:Int}(h2:k≠2)(hk:stk k=none)(i j' n:Int)(l:List Tm):EvT S m j F K (.mk k i j' n l):=by
 intro G Γ M e es hI hF he hs hE;obtain⟨B,hs,hB⟩:=hs;obtain⟨h0,hf,hl⟩:=hs.node h2;have h4:k≠15/\k≠18/\k≠19/\k≠22:=by
  unfold stk at hk;have h1:¬(k=15\/k=18\/k=19):=fun c=>by rw[if_pos c] at hk;cases hk
  rw[if_neg h1] at hk;have h3:¬k=22:=fun c=>by rw[if_pos c] at hk;cases hk
  omega
 have Dc:l.length*56<=140737488355328:=by
  have:=Nx k n;omega
 have hn:=hI.node (T:=vT 0) (k:=-1) (y:=none) (l:=l) (i:=0) (K:=Γ.length) he.top (by rw[hI.len];exact Nat.le_refl _) (fun v h=>by cases h) (fun _=>by omega);have hw:=Am3 (Γ:=Γ) (T:=vT 0) h2 hk he.wf hs hB hE;have hT:=Am1 (Γ:=Γ) (T:=vT 0) (i':=i) (j':=j') (n':=n) h2 h0 (es:=es) (l:=l);rw[<-hI.len] at hw hT;refine⟨_,_,u3 Dc h2 h4,.ret (n:=0) (.app _ _) hn (.refl M) hw hw.hn ?_ (by omega)⟩;rw[hT];exact .refl _
theorem Bee(Md:∀F',F'<F->∀K t,EvT S m j F' K t){f a:Tm}(hf:EvT S m j F K f)(i j' n:Int):EvT S m j F K (.mk 15 i j' n [f,a]):=by
 intro G Γ M e es hI hF he hs hE;obtain⟨B,hs,hB⟩:=hs;have d0:=Jy (k:=15) (i:=i) (j:=j') (n:=n) (l:=[f,a]) (p:=0) rfl;have d1:=Jy (k:=15) (i:=i) (j:=j') (n:=n) (l:=[f,a]) (p:=1) rfl;have b0:bnd 15 0=0:=by decide
 have b1:bnd 15 1=0:=by decide
 have s0:Sf B f:=by have:=hs.kid (p:=0) rfl;rwa [b0,Nat.add_zero] at this
 have s1:Sf B a:=by have:=hs.kid (p:=1) rfl;rwa [b1,Nat.add_zero] at this
 have hT:Ao es 0 (.mk 15 i j' n [f,a])=.mk 15 i j' n [Ao es 0 f,Ao es 0 a]:=by rw[Mp (by decide) (by decide)];rfl
 have Qn:=he.wf;obtain⟨out,G1,e1,p1⟩:=hf hI hF he ⟨B,s0,by omega⟩ (by omega);cases p1 with
 |out x hi mm h=>rw[hT];exact⟨_,_,Aim (Dz e1),.kid (p:=0) axW rfl (by simp[Tm.kids]) (.out x hi mm h)⟩
 |far x hi mm h=>rw[hT];exact⟨_,_,Aim (Dz e1),.kid (p:=0) axW rfl (by simp[Tm.kids]) (.far x hi mm h)⟩
 |@ret _ Γ1 M1 y n1 x hi mm hv hn hr Bk=>
 have Bs:HR plW n1 (Ao es 0 (.mk 15 i j' n [f,a])) (.mk 15 i j' n [TV Γ1 y,Ao es 0 a]):=by rw[hT];exact Ze axW hr (t:=.mk 15 i j' n [Ao es 0 f,Ao es 0 a]) (p:=0) rfl (by simp[Tm.kids]) rfl
 have Pz:EOK Γ1 Γ1.length e es:=(he.mono x (Nat.le_refl _)).top
 by_cases yk:y.k=14
 ·have y2:y.k≠2:=by omega
  obtain⟨id,g,Be,hg,ho,hk⟩:=hv.ok.kid (p:=1) y2 (by rw[yk,kids14];decide);rw[yk] at ho hk;have hu:HS plW (.mk 15 i j' n [TV Γ1 y,Ao es 0 a]) (Ao [Ao es 0 a] 0 (Aj (TV Γ1 y) 1)):=by
   refine .here ?_;unfold plW;rw[if_pos ⟨rfl,by rw[show Aj (.mk 15 i j' n [TV Γ1 y,Ao es 0 a]) 0=TV Γ1 y from rfl,TV_k y2];exact yk⟩];rfl
  obtain⟨out,G2,t1,t2⟩:=Qz hi;cases t2 with
  |out hi2 mm2 h2=>exact⟨_,_,Aio (Dz e1) yk t1,.take Bs x mm Bk hu (.out hi2 mm2 h2)⟩
  |far hi2 mm2 h2=>exact⟨_,_,Aio (Dz e1) yk t1,.take Bs x mm Bk hu (.far hi2 mm2 h2)⟩
  |@ret _ M2 hi2 mm2 h2 h3=>
   cases g with
   |kp row=>exact ho.elim
   |dn v T=>exact absurd ho.1 (by decide)
   |cl tb eb=>
    obtain⟨th,t1',_⟩:=hi2.rows id _ hg;obtain⟨q1,q2,q3,q4,_⟩:=t1';subst q3;obtain⟨o1,o2,o3⟩:=ho;have hc:cap=1099511627776:=rfl;have hb14:bnd 14 1=1:=by decide
    have Ah:=q4.len;have oka:(Ge.cl a es).Ok 0:=⟨Qn,⟨B,s1,by omega⟩,by omega⟩
    have hp:=hi2.pushCl (t:=a) Pz (by rw[hi2.len];exact Nat.le_refl _);have hen:EOK (Γ1++[some (.cl a es)]) (Γ1.length+1) (Γ1.length::th.env) (Ao es 0 a::eb):=
     (q4.top.mono (.app _ _) (Nat.le_succ _)).push (g:=.cl a es) (Nat.lt_succ_self _) (by simp) oka
    have Ml:=mm.most;have hm2:=mm.steps;have Ub:=mm2.most;have hm4:=mm2.steps;have Tk:F-1<F:=by omega
    obtain⟨out,G3,e3,p3⟩:=Md (F-1) Tk (Γ1.length+1) th.t hp (by omega) hen o2 (by simp only[List.length_cons];omega);rw[<-hi2.len] at e3;refine⟨_,_,Ail (Dz e1) yk Be t1 q1 q2 (by unfold fit;omega) e3,p3.pre (n:=n1+1) ?_ (x.trans (.app _ _)) (mm.trans mm2) (by omega)⟩;refine Sc Bs (.step hu ?_);rw[hk,hb14,show (Ge.cl th.t eb).den 1=Ao eb [Ao es 0 a].length th.t from rfl,Aaw o1 (by intro u hu;rw[List.mem_singleton] at hu;subst hu;exact Alc Qn s1.wf 0)];exact .refl _
 ·have hw:=Zy (Γ:=Γ1) (i':=i) (j':=j') (n':=n) (p:=0) (k':=15) (l:=[f,a]) rfl (by simp) hv Qn hs hB hE (by
   rw[hT,show Bm (.mk 15 i j' n [Ao es 0 f,Ao es 0 a]) 0 (TV Γ1 y)=.mk 15 i j' n [TV Γ1 y,Ao es 0 a] from rfl];unfold plW;have:¬(TV Γ1 y).k=14:=fun c=>by
    by_cases h2:y.k=2
    ·unfold TV at c;rw[if_pos h2] at c;exact absurd c (by unfold fT;simp[Tm.k])
    ·rw[TV_k h2] at c;exact yk c
   rw[if_neg (fun c=>this c.2),if_neg (fun c=>absurd c.1 (k_ne (by decide))),if_neg (fun c=>absurd c.1 (k_ne (by decide))),if_neg (fun c=>absurd c.1 (k_ne (by decide)))])
  have Kq:=Wv (Γ:=Γ1) (T:=TV Γ1 y) (i':=i) (j':=j') (n':=n) (k':=15) (p:=0) (by decide) (by decide) (es:=es) (l:=[f,a]) rfl (y:=y);have hN:=hi.node (T:=TV Γ1 y) (k:=((0:Nat):Int)) (y:=some y) (l:=[f,a]) (i:=0) Pz (by rw[hi.len];exact Nat.le_refl _) (fun v Bd=>by cases Bd;exact⟨hv,rfl⟩) (fun h=>by cases h);rw[<-hi.len] at hw Kq;refine⟨_,_,Ain (Dz e1) yk,.ret (n:=n1) (x.trans (.app _ _)) hN mm hw hw.hn ?_ Bk⟩;rw[Kq,hT];rw[hT] at Bs;exact Bs
theorem Bef(Md:∀F',F'<F->∀K t,EvT S m j F' K t){f:Tm}(hf:EvT S m j F K f)(i j' n:Int):EvT S m j F K (.mk 18 i j' n [f]):=by
 intro G Γ M e es hI hF he hs hE;obtain⟨B,hs,hB⟩:=hs;have d0:=Jy (k:=18) (i:=i) (j:=j') (n:=n) (l:=[f]) (p:=0) rfl;have b0:bnd 18 0=0:=by decide
 have s0:Sf B f:=by have:=hs.kid (p:=0) rfl;rwa [b0,Nat.add_zero] at this
 have hT:Ao es 0 (.mk 18 i j' n [f])=.mk 18 i j' n [Ao es 0 f]:=by rw[Mp (by decide) (by decide)];rfl
 have Qn:=he.wf;obtain⟨out,G1,e1,p1⟩:=hf hI hF he ⟨B,s0,by omega⟩ (by omega);cases p1 with
 |out x hi mm h=>rw[hT];exact⟨_,_,Aiq (Dz e1),.kid (p:=0) axW rfl (by simp[Tm.kids]) (.out x hi mm h)⟩
 |far x hi mm h=>rw[hT];exact⟨_,_,Aiq (Dz e1),.kid (p:=0) axW rfl (by simp[Tm.kids]) (.far x hi mm h)⟩
 |@ret _ Γ1 M1 y n1 x hi mm hv hn hr Bk=>
 have Bs:HR plW n1 (Ao es 0 (.mk 18 i j' n [f])) (.mk 18 i j' n [TV Γ1 y]):=by rw[hT];exact Ze axW hr (t:=.mk 18 i j' n [Ao es 0 f]) (p:=0) rfl (by simp[Tm.kids]) rfl
 have Pz:EOK Γ1 Γ1.length e es:=(he.mono x (Nat.le_refl _)).top
 by_cases yk:y.k=17
 ·have y2:y.k≠2:=by omega
  obtain⟨id,g,Be,hg,ho,hk⟩:=hv.ok.kid (p:=2) y2 (by rw[yk,kids17];decide);rw[yk] at ho hk;have hu:HS plW (.mk 18 i j' n [TV Γ1 y]) (Aj (TV Γ1 y) 2):=by
   refine .here ?_;unfold plW;rw[if_neg (fun c=>absurd c.1 (k_ne (by decide))),if_pos ⟨rfl,by rw[show Aj (.mk 18 i j' n [TV Γ1 y]) 0=TV Γ1 y from rfl,TV_k y2];exact yk⟩];rfl
  obtain⟨out,G2,t1,t2⟩:=Qz hi;cases t2 with
  |out hi2 mm2 h2=>exact⟨_,_,Ais (Dz e1) yk t1,.take Bs x mm Bk hu (.out hi2 mm2 h2)⟩
  |far hi2 mm2 h2=>exact⟨_,_,Ais (Dz e1) yk t1,.take Bs x mm Bk hu (.far hi2 mm2 h2)⟩
  |@ret _ M2 hi2 mm2 h2 h3=>
   have Adr:bnd 17 2=0:=by decide
   rw[Adr] at ho hk;have Ml:=mm.most;have hm2:=mm.steps;have Ub:=mm2.most;have hm4:=mm2.steps;have Tk:F-1<F:=by omega
   obtain⟨out,G3,e3,p3⟩:=Acd (Md (F-1) Tk id) hi2 (by omega) hg ho;refine⟨_,_,A1d (Dz e1) yk Be t1 e3 p3.outV,p3.pre (n:=n1+1) ?_ x (mm.trans mm2) (by omega)⟩;refine Sc Bs (.step hu ?_);rw[hk];exact .refl _
 ·have hw:=Zy (Γ:=Γ1) (i':=i) (j':=j') (n':=n) (p:=0) (k':=18) (l:=[f]) rfl (by simp) hv Qn hs hB hE (by
   rw[hT,show Bm (.mk 18 i j' n [Ao es 0 f]) 0 (TV Γ1 y)=.mk 18 i j' n [TV Γ1 y] from rfl];unfold plW;have:¬(TV Γ1 y).k=17:=fun c=>by
    by_cases h2:y.k=2
    ·unfold TV at c;rw[if_pos h2] at c;exact absurd c (by unfold fT;simp[Tm.k])
    ·rw[TV_k h2] at c;exact yk c
   rw[if_neg (fun c=>absurd c.1 (k_ne (by decide))),if_neg (fun c=>this c.2),if_neg (fun c=>absurd c.1 (k_ne (by decide))),if_neg (fun c=>absurd c.1 (k_ne (by decide)))])
  have Kq:=Wv (Γ:=Γ1) (T:=TV Γ1 y) (i':=i) (j':=j') (n':=n) (k':=18) (p:=0) (by decide) (by decide) (es:=es) (l:=[f]) rfl (y:=y);have hN:=hi.node (T:=TV Γ1 y) (k:=((0:Nat):Int)) (y:=some y) (l:=[f]) (i:=0) Pz (by rw[hi.len];exact Nat.le_refl _) (fun v Bd=>by cases Bd;exact⟨hv,rfl⟩) (fun h=>by cases h);rw[<-hi.len] at hw Kq;refine⟨_,_,Air (Dz e1) yk,.ret (n:=n1) (x.trans (.app _ _)) hN mm hw hw.hn ?_ Bk⟩;rw[Kq,hT];rw[hT] at Bs;exact Bs
theorem Bei(Md:∀F',F'<F->∀K t,EvT S m j F' K t){f:Tm}(hf:EvT S m j F K f)(i j' n:Int):EvT S m j F K (.mk 19 i j' n [f]):=by
 intro G Γ M e es hI hF he hs hE;obtain⟨B,hs,hB⟩:=hs;have d0:=Jy (k:=19) (i:=i) (j:=j') (n:=n) (l:=[f]) (p:=0) rfl;have b0:bnd 19 0=0:=by decide
 have s0:Sf B f:=by have:=hs.kid (p:=0) rfl;rwa [b0,Nat.add_zero] at this
 have hT:Ao es 0 (.mk 19 i j' n [f])=.mk 19 i j' n [Ao es 0 f]:=by rw[Mp (by decide) (by decide)];rfl
 have Qn:=he.wf;obtain⟨out,G1,e1,p1⟩:=hf hI hF he ⟨B,s0,by omega⟩ (by omega);cases p1 with
 |out x hi mm h=>rw[hT];exact⟨_,_,Aiw (Dz e1),.kid (p:=0) axW rfl (by simp[Tm.kids]) (.out x hi mm h)⟩
 |far x hi mm h=>rw[hT];exact⟨_,_,Aiw (Dz e1),.kid (p:=0) axW rfl (by simp[Tm.kids]) (.far x hi mm h)⟩
 |@ret _ Γ1 M1 y n1 x hi mm hv hn hr Bk=>
 have Bs:HR plW n1 (Ao es 0 (.mk 19 i j' n [f])) (.mk 19 i j' n [TV Γ1 y]):=by rw[hT];exact Ze axW hr (t:=.mk 19 i j' n [Ao es 0 f]) (p:=0) rfl (by simp[Tm.kids]) rfl
 have Pz:EOK Γ1 Γ1.length e es:=(he.mono x (Nat.le_refl _)).top
 by_cases yk:y.k=17
 ·have y2:y.k≠2:=by omega
  obtain⟨id,g,Be,hg,ho,hk⟩:=hv.ok.kid (p:=3) y2 (by rw[yk,kids17];decide);rw[yk] at ho hk;have hu:HS plW (.mk 19 i j' n [TV Γ1 y]) (Aj (TV Γ1 y) 3):=by
   refine .here ?_;unfold plW;rw[if_neg (fun c=>absurd c.1 (k_ne (by decide))),if_neg (fun c=>absurd c.1 (k_ne (by decide))),if_pos ⟨rfl,by rw[show Aj (.mk 19 i j' n [TV Γ1 y]) 0=TV Γ1 y from rfl,TV_k y2];exact yk⟩];rfl
  obtain⟨out,G2,t1,t2⟩:=Qz hi;cases t2 with
  |out hi2 mm2 h2=>exact⟨_,_,Aiy (Dz e1) yk t1,.take Bs x mm Bk hu (.out hi2 mm2 h2)⟩
  |far hi2 mm2 h2=>exact⟨_,_,Aiy (Dz e1) yk t1,.take Bs x mm Bk hu (.far hi2 mm2 h2)⟩
  |@ret _ M2 hi2 mm2 h2 h3=>
   have Adr:bnd 17 3=0:=by decide
   rw[Adr] at ho hk;have Ml:=mm.most;have hm2:=mm.steps;have Ub:=mm2.most;have hm4:=mm2.steps;have Tk:F-1<F:=by omega
   obtain⟨out,G3,e3,p3⟩:=Acd (Md (F-1) Tk id) hi2 (by omega) hg ho;refine⟨_,_,A1f (Dz e1) yk Be t1 e3 p3.outV,p3.pre (n:=n1+1) ?_ x (mm.trans mm2) (by omega)⟩;refine Sc Bs (.step hu ?_);rw[hk];exact .refl _
 ·have hw:=Zy (Γ:=Γ1) (i':=i) (j':=j') (n':=n) (p:=0) (k':=19) (l:=[f]) rfl (by simp) hv Qn hs hB hE (by
   rw[hT,show Bm (.mk 19 i j' n [Ao es 0 f]) 0 (TV Γ1 y)=.mk 19 i j' n [TV Γ1 y] from rfl];unfold plW;have:¬(TV Γ1 y).k=17:=fun c=>by
    by_cases h2:y.k=2
    ·unfold TV at c;rw[if_pos h2] at c;exact absurd c (by unfold fT;simp[Tm.k])
    ·rw[TV_k h2] at c;exact yk c
   rw[if_neg (fun c=>absurd c.1 (k_ne (by decide))),if_neg (fun c=>absurd c.1 (k_ne (by decide))),if_neg (fun c=>this c.2),if_neg (fun c=>absurd c.1 (k_ne (by decide)))])
  have Kq:=Wv (Γ:=Γ1) (T:=TV Γ1 y) (i':=i) (j':=j') (n':=n) (k':=19) (p:=0) (by decide) (by decide) (es:=es) (l:=[f]) rfl (y:=y);have hN:=hi.node (T:=TV Γ1 y) (k:=((0:Nat):Int)) (y:=some y) (l:=[f]) (i:=0) Pz (by rw[hi.len];exact Nat.le_refl _) (fun v Bd=>by cases Bd;exact⟨hv,rfl⟩) (fun h=>by cases h);rw[<-hi.len] at hw Kq;refine⟨_,_,Aix (Dz e1) yk,.ret (n:=n1) (x.trans (.app _ _)) hN mm hw hw.hn ?_ Bk⟩;rw[Kq,hT];rw[hT] at Bs;exact Bs
theorem rk_j(Md:∀F',F'<F->∀K t,EvT S m j F' K t){a0 a1 a2 a3 a4 f:Tm}(hf:EvT S m j F K f)(i j' n:Int):EvT S m j F K (.mk 22 i j' n [a0,a1,a2,a3,a4,f]):=by
 intro G Γ M e es hI hF he hs hE;obtain⟨B,hs,hB⟩:=hs;have d0:=Jy (k:=22) (i:=i) (j:=j') (n:=n) (l:=[a0,a1,a2,a3,a4,f]) (p:=5) rfl;have d3:=Jy (k:=22) (i:=i) (j:=j') (n:=n) (l:=[a0,a1,a2,a3,a4,f]) (p:=3) rfl;have b0:bnd 22 5=0:=by decide
 have b3:bnd 22 3=0:=by decide
 have s0:Sf B f:=by have:=hs.kid (p:=5) rfl;rwa [b0,Nat.add_zero] at this
 have s3:Sf B a3:=by have:=hs.kid (p:=3) rfl;rwa [b3,Nat.add_zero] at this
 obtain⟨A2,hT⟩:∃A2,Ao es 0 (.mk 22 i j' n [a0,a1,a2,a3,a4,f])=.mk 22 i j' n [Ao es 0 a0,Ao es 0 a1,A2,Ao es 0 a3,Ao es 0 a4,Ao es 0 f]:=by rw[Mp (by decide) (by decide)];exact⟨_,rfl⟩
 have Qn:=he.wf;obtain⟨out,G1,e1,p1⟩:=hf hI hF he ⟨B,s0,by omega⟩ (by omega);cases p1 with
 |out x hi mm h=>rw[hT];exact⟨_,_,Ait (Dz e1),.kid (p:=5) axW rfl (by simp[Tm.kids]) (.out x hi mm h)⟩
 |far x hi mm h=>rw[hT];exact⟨_,_,Ait (Dz e1),.kid (p:=5) axW rfl (by simp[Tm.kids]) (.far x hi mm h)⟩
 |@ret _ Γ1 M1 y n1 x hi mm hv hn hr Bk=>
 have Bs:HR plW n1 (Ao es 0 (.mk 22 i j' n [a0,a1,a2,a3,a4,f])) (.mk 22 i j' n [Ao es 0 a0,Ao es 0 a1,A2,Ao es 0 a3,Ao es 0 a4,TV Γ1 y]):=by rw[hT];exact Ze axW hr (t:=.mk 22 i j' n [Ao es 0 a0,Ao es 0 a1,A2,Ao es 0 a3,Ao es 0 a4,Ao es 0 f]) (p:=5) rfl (by simp[Tm.kids]) rfl
 have Pz:EOK Γ1 Γ1.length e es:=(he.mono x (Nat.le_refl _)).top
 by_cases yk:y.k=21
 ·have y2:y.k≠2:=by omega
  have hu:HS plW (.mk 22 i j' n [Ao es 0 a0,Ao es 0 a1,A2,Ao es 0 a3,Ao es 0 a4,TV Γ1 y]) (Ao es 0 a3):=by
   refine .here ?_;unfold plW;rw[if_neg (fun c=>absurd c.1 (k_ne (by decide))),if_neg (fun c=>absurd c.1 (k_ne (by decide))),if_neg (fun c=>absurd c.1 (k_ne (by decide))),if_pos ⟨rfl,by rw[show Aj (.mk 22 i j' n [Ao es 0 a0,Ao es 0 a1,A2,Ao es 0 a3,Ao es 0 a4,TV Γ1 y]) 5=TV Γ1 y from rfl,TV_k y2];exact yk⟩];rfl
  obtain⟨out,G2,t1,t2⟩:=Qz hi;cases t2 with
  |out hi2 mm2 h2=>exact⟨_,_,Aiv (Dz e1) yk t1,.take Bs x mm Bk hu (.out hi2 mm2 h2)⟩
  |far hi2 mm2 h2=>exact⟨_,_,Aiv (Dz e1) yk t1,.take Bs x mm Bk hu (.far hi2 mm2 h2)⟩
  |@ret _ M2 hi2 mm2 h2 h3=>
   have Ml:=mm.most;have hm2:=mm.steps;have Ub:=mm2.most;have hm4:=mm2.steps;have Tk:F-1<F:=by omega
   obtain⟨out,G3,e3,p3⟩:=Md (F-1) Tk Γ1.length a3 hi2 (by omega) Pz ⟨B,s3,by omega⟩ (by omega);exact⟨_,_,A1e (Dz e1) yk t1 e3,p3.pre (n:=n1+1) (Sc Bs (.step hu (.refl _))) x (mm.trans mm2) (by omega)⟩
 ·have hw:=Zy (Γ:=Γ1) (i':=i) (j':=j') (n':=n) (p:=5) (k':=22) (l:=[a0,a1,a2,a3,a4,f]) rfl (by simp) hv Qn hs hB hE (by
   rw[hT,show Bm (.mk 22 i j' n [Ao es 0 a0,Ao es 0 a1,A2,Ao es 0 a3,Ao es 0 a4,Ao es 0 f]) 5 (TV Γ1 y)=.mk 22 i j' n [Ao es 0 a0,Ao es 0 a1,A2,Ao es 0 a3,Ao es 0 a4,TV Γ1 y] from rfl];unfold plW;have:¬(TV Γ1 y).k=21:=fun c=>by
    by_cases h2:y.k=2
    ·unfold TV at c;rw[if_pos h2] at c;exact absurd c (by unfold fT;simp[Tm.k])
    ·rw[TV_k h2] at c;exact yk c
   rw[if_neg (fun c=>absurd c.1 (k_ne (by decide))),if_neg (fun c=>absurd c.1 (k_ne (by decide))),if_neg (fun c=>absurd c.1 (k_ne (by decide))),if_neg (fun c=>this c.2)])
  have Kq:=Wv (Γ:=Γ1) (T:=TV Γ1 y) (i':=i) (j':=j') (n':=n) (k':=22) (p:=5) (by decide) (by decide) (es:=es) (l:=[a0,a1,a2,a3,a4,f]) rfl (y:=y);have hN:=hi.node (T:=TV Γ1 y) (k:=((5:Nat):Int)) (y:=some y) (l:=[a0,a1,a2,a3,a4,f]) (i:=0) Pz (by rw[hi.len];exact Nat.le_refl _) (fun v Bd=>by cases Bd;exact⟨hv,rfl⟩) (fun h=>by cases h);rw[<-hi.len] at hw Kq;refine⟨_,_,Aiu (Dz e1) yk,.ret (n:=n1) (x.trans (.app _ _)) hN mm hw hw.hn ?_ Bk⟩;rw[Kq,hT];rw[hT] at Bs;exact Bs
theorem Beh(Md:∀F',F'<F->∀K t,EvT S m j F' K t)(hK:∀K',K'<K->∀t,EvT S m j F K' t)(t:Tm):EvT S m j F K t:=by
 induction t using Tm.ind with
 |h k i j' n l ih=>
 intro G Γ M e es hI hF he hs hE
 by_cases h2:k=2
 ·subst h2;exact Bej hK i j' n l hI hF he hs hE
 have hl:(l.length:Int)=Bh k n:=by obtain⟨B,hs,_⟩:=hs;exact (hs.node h2).2.2
 by_cases Ed:k=15
 ·subst Ed;rw[kids15] at hl;obtain⟨f,a,rfl⟩:=len2 (show l.length=2 by omega);exact Bee Md (ih f (by simp)) i j' n hI hF he hs hE
 by_cases Ew:k=18
 ·subst Ew;rw[kids18] at hl;obtain⟨f,rfl⟩:=len1 (show l.length=1 by omega);exact Bef Md (ih f (by simp)) i j' n hI hF he hs hE
 by_cases Ex:k=19
 ·subst Ex;rw[kids19] at hl;obtain⟨f,rfl⟩:=len1 (show l.length=1 by omega);exact Bei Md (ih f (by simp)) i j' n hI hF he hs hE
 by_cases Cy:k=22
 ·subst Cy;rw[kids22] at hl;obtain⟨a0,a1,a2,a3,a4,f,rfl⟩:=len6 (show l.length=6 by omega);exact rk_j Md (ih f (by simp)) i j' n hI hF he hs hE
 exact Beg h2 (by unfold stk;rw[if_neg (by omega),if_neg Cy]) i j' n l hI hF he hs hE
end
theorem An4(S:SyT)(m j:Nat):∀F K t,EvT S m j F K t:=by
 intro F
 induction F using Nat.strongRecOn with
 |ind F hF=>
  intro K
  induction K using Nat.strongRecOn with
  |ind K hK=>exact Beh hF hK
theorem Ace{S:SyT}{m j id:Nat}{G:GV}{Γ:Gh}{M:Mc}{g:Ge}(h:RInv S m j G Γ M)(hg:Γ[id]?=some (some g))(ho:g.Ok 0) :
  ∃out G',Ad 68 G [.gp m 0,.gp id 0] out G'/\Post S plW m j Γ M (g.den 0) out G':=
 Acd (An4 S m j M.most id) h (by omega) hg ho
theorem Aik{S:SyT}{m j K:Nat}{t:Tm}{G:GV}{Γ:Gh}{M:Mc}{e:List Nat}{es:List Tm}(h:RInv S m j G Γ M)(he:EOK Γ K e es)(hs:∃B,Sf B t/\B+dpt t<=cap)(hE:es.length+dpt t<=cap) :
  ∃out G',Ad 90 G [.gp m 0,.agg true (tv t),Aw e] out G'/\Post S plW m j Γ M (Ao es 0 t) out G':=by
 obtain⟨out,G',e1,p1⟩:=An4 S m j M.most K t h (by omega) he hs hE;exact⟨out,G',Dz e1,p1⟩
def Sw(G:GV)(m:Nat)(v:Vl)(out:HOut)(G':GV):Prop:=
 ∃n,vcI (Av Tryz.prog fun x G1=>out=.pan x/\G1=G') a69_24 (bk 0 (rtG [.t 4] out G')) n ⟨(.gp m 0::vlV v::.J::.J::.int .i64 0::.J::.J::.J::.J::.J::.J::.J::.J::.J::.J::.J::.J::.J::.J::.J::.J::.J::.J::.J::.J::.J::.J::.J::.J::.J::.J::.J::.J::.J::.J::.J::.J::.J::.J::.J::.J::.J::.J::.J::.J::.J::.J::.J::.J::.J::.J::.J::.J::.J::.J::[]),[gOb G]⟩
theorem Rt{G G':GV}{m:Nat}{v:Vl}{out:HOut}(h:Sw G m v out G'):Ad 69 G [.gp m 0,vlV v] out G':=by
 refine Aq mixed Tryz.func69 tr69 ?_;obtain⟨n,h⟩:=h;simp only[go_sem,seval];exact Cd n (Cr (Au (by simp[An])) h)
theorem Bf6{G:GV}{m:Nat}{v:Vl}(h:v.k≠23)(hs:v.k≠15/\v.k≠18/\v.k≠19/\v.k≠22){out:HOut}(ho:out=.ret (.int .i64 0)):Sw G m v out G:=by
 refine⟨1,Ak ?_⟩;simp only[go_sem,seval,vlV,Ag h];refine Aa (Ac6 hs) ?_;subst ho;simp only[go_sem,seval]
theorem Bf7{G G':GV}{m:Nat}{v:Vl}(h:v.k=23)(hs:Ad 91 G [.gp m 0,.int .i64 v.n,.int .i64 v.i,.int .i64 v.j] (.ret .nilp) G'){out:HOut}(ho:out=.ret (.int .i64 0)):Sw G m v out G':=by
 refine⟨1,Ak ?_⟩;simp only[go_sem,seval,vlV,h];refine Ac hs ?_;subst ho;simp only[go_sem,seval]
theorem Aop{s:Sy}:s.row.length=13:=by unfold Sy.row;simp[Af]
theorem Bf4{s:Sy}:Ec s.row=false:=rfl
theorem Af1(s:Sy):∃a b t0 t1 t2 t3 t4,s.row=[a,b,t0,t1,t2,t3,t4,.int .i64 s.bd.k,.int .i64 s.bd.i,.int .i64 s.bd.j,.int .i64 s.bd.n,.dsl 5 (s.bd.kids.map tv),.bool s.df]:=by
 obtain⟨nm,ps,⟨k,i,j,n,l⟩,⟨k',i',j',n',l'⟩,df⟩:=s;unfold Sy.row;simp only[Am,Tm.k,Tm.i,Tm.j,Tm.n,Tm.kids];exact⟨_,_,_,_,_,_,_,rfl⟩
theorem Bf3{s:Sy}{cl:Bool}:cut cl 13 false 1 12 s.row=.bool s.df:=by
 obtain⟨a,b,t0,t1,t2,t3,t4,h⟩:=Af1 s;rw[h];rfl
theorem Bf2{s:Sy}{cl:Bool}:cut cl 13 true 5 7 s.row=.agg cl (tv s.bd):=by
 obtain⟨a,b,t0,t1,t2,t3,t4,h⟩:=Af1 s;rw[h];cases hb:s.bd with
 |mk k i j n l=>rw[Am];rfl
theorem Bf1{s:Sy}:s.row[12]?.getD .undef=.bool s.df:=by
 obtain⟨a,b,t0,t1,t2,t3,t4,h⟩:=Af1 s;rw[h];rfl
attribute [go_sem] Bf1 Aop Bf4 Bf3 Bf2
theorem Bf9{G G':GV}{m id:Nat}{v:Vl}{s:Sy}(h:v.k=23)(hs:Ad 91 G [.gp m 0,.int .i64 v.n,.int .i64 v.i,.int .i64 v.j] (.ret (.gp id 0)) G')(hr:G'[id]?=some s.row){out:HOut}(ho:out=.ret (.int .i64 (if s.df then v.n else 0))):Sw G m v out G':=by
 refine⟨1,Ak ?_⟩;simp only[go_sem,seval,vlV,h];refine Ac hs ?_;subst ho;cases hd:s.df<;>simp only[go_sem,seval,hr,hd]
theorem Bf8{G G':GV}{m id p:Nat}{v y:Vl}{th:Th}(hp:stk v.k=some p)(Be:v.kids[p]?=some id)(Fi:G[id]?=some (thR th))(hw:th.w=some y){out:HOut}(ih:Sw G m y out G'):Sw G m v out G':=by
 obtain⟨n,ih⟩:=ih;refine⟨n+1,Ak ?_⟩;obtain⟨k1,k2,k3,k4⟩:=Kk Be;have hk:=Ji hp;have Bz:v.k≠23:=by omega
 obtain⟨t,te,b,w,x⟩:=th;simp only at hw;subst hw;have k2':(p:Int)<v.kids.length:=by omega
 unfold stk at hp;split at hp
 ·rename_i h;cases hp;simp only[Int.ofNat_zero,Int.cast_ofNat_Int] at k2';simp only[go_sem,seval,vlV,Ag Bz];refine Aa (Jl h) ?_;simp only[go_sem,seval,vlV,k1,k2',k3,k4,Fi,Js,q_g];exact Cr (Au (by simp[An,vlV])) ih
 ·split at hp
  ·rename_i h;cases hp;have h5:Con 92 [.int .i64 v.k] (.int .i64 5):=by rw[h];exact Ri
   simp only[Int.cast_ofNat_Int] at k2';simp only[go_sem,seval,vlV,Ag Bz];refine Aa h5 ?_;simp only[go_sem,seval,vlV,k1,k2',k3,k4,Fi,Js,q_g];exact Cr (Au (by simp[An,vlV])) ih
  ·cases hp
theorem Agr{G G1:GV}{m:Nat}{x y:Vl}{k:Int}{u:SV}(xk:x.k=15)(yk:y.k=14)(ht:Ad 93 G [.gp m 0] (.pan u) G1) :
  Ad 94 G [.gp m 0,vlV x,.int .i64 k,vlV y] (.pan u) G1:=by
 refine Aq mixed Tryz.func94 tr94 ?_;simp only[go_sem,seval,vlV,xk,yk];exact Cs ht trivial ⟨rfl,rfl⟩
theorem Apu{G G1 G':GV}{m id ia:Nat}{x y:Vl}{k:Int}{out:HOut}{th:Th}(xk:x.k=15)(yk:y.k=14)(ht:Ad 93 G [.gp m 0] (.ret (.tup [])) G1)
  (Be:y.kids[1]?=some id) (hia:x.kids[1]?=some ia) (Fi:G1[id]?=some (thR th)) (hb:th.bare=false) (hl:fit ((th.env.length:Int)+1))
  (h:Ad 90 G1 [.gp m 0,.agg true (tv th.t),Aw (ia::th.env)] out G') (ho:Mz out) :
  Ad 94 G [.gp m 0,vlV x,.int .i64 k,vlV y] out G':=by
 refine Aq mixed Tryz.func94 tr94 ?_;obtain⟨t,te,b,w,v⟩:=th;simp only at hb hl h;subst hb;obtain⟨k1,k2,k3,k4⟩:=Kk Be;obtain⟨j1,j2,j3,j4⟩:=Kk hia;have k2':(1:Int)<y.kids.length:=by omega
 have j2':(1:Int)<x.kids.length:=by omega
 have Ab:id<G1.length:=Dh Fi;simp only[go_sem,seval,vlV,xk,yk];refine Ac ht ?_;simp only[go_sem,seval,vlV,xk,yk,k1,k2',k3,k4,j1,j2',j3,j4,Fi,Ab,q_g];refine Aa (Vq te ia hl) ?_;simp only[go_sem,seval];cases out with
 |ret r=>
  obtain⟨v,rfl⟩:=ho;refine Ac h ?_;simp only[go_sem,seval]
 |pan u=>exact Cs h trivial ⟨rfl,rfl⟩
theorem Ags{G G1:GV}{m:Nat}{x y:Vl}{k:Int}{u:SV}(xk:x.k=18)(yk:y.k=17)(ht:Ad 93 G [.gp m 0] (.pan u) G1) :
  Ad 94 G [.gp m 0,vlV x,.int .i64 k,vlV y] (.pan u) G1:=by
 refine Aq mixed Tryz.func94 tr94 ?_;simp only[go_sem,seval,vlV,xk,yk];exact Cs ht trivial ⟨rfl,rfl⟩
theorem Apv{G G1 G':GV}{m id:Nat}{x y:Vl}{k:Int}{out:HOut}(xk:x.k=18)(yk:y.k=17)(ht:Ad 93 G [.gp m 0] (.ret (.tup [])) G1)
  (Be:y.kids[2]?=some id) (h:Ad 68 G1 [.gp m 0,.gp id 0] out G') (ho:Mz out) :
  Ad 94 G [.gp m 0,vlV x,.int .i64 k,vlV y] out G':=by
 refine Aq mixed Tryz.func94 tr94 ?_;obtain⟨k1,k2,k3,k4⟩:=Kk Be;have k2':(2:Int)<y.kids.length:=by omega
 simp only[go_sem,seval,vlV,xk,yk];refine Ac ht ?_;simp only[go_sem,seval,vlV,xk,yk,k1,k2',k3,k4,q_g];cases out with
 |ret r=>
  obtain⟨v,rfl⟩:=ho;refine Ac h ?_;simp only[go_sem,seval]
 |pan u=>exact Cs h trivial ⟨rfl,rfl⟩
theorem Agu{G G1:GV}{m:Nat}{x y:Vl}{k:Int}{u:SV}(xk:x.k=19)(yk:y.k=17)(ht:Ad 93 G [.gp m 0] (.pan u) G1) :
  Ad 94 G [.gp m 0,vlV x,.int .i64 k,vlV y] (.pan u) G1:=by
 refine Aq mixed Tryz.func94 tr94 ?_;simp only[go_sem,seval,vlV,xk,yk];exact Cs ht trivial ⟨rfl,rfl⟩
theorem Apy{G G1 G':GV}{m id:Nat}{x y:Vl}{k:Int}{out:HOut}(xk:x.k=19)(yk:y.k=17)(ht:Ad 93 G [.gp m 0] (.ret (.tup [])) G1)
  (Be:y.kids[3]?=some id) (h:Ad 68 G1 [.gp m 0,.gp id 0] out G') (ho:Mz out) :
  Ad 94 G [.gp m 0,vlV x,.int .i64 k,vlV y] out G':=by
 refine Aq mixed Tryz.func94 tr94 ?_;obtain⟨k1,k2,k3,k4⟩:=Kk Be;have k2':(3:Int)<y.kids.length:=by omega
 simp only[go_sem,seval,vlV,xk,yk];refine Ac ht ?_;simp only[go_sem,seval,vlV,xk,yk,k1,k2',k3,k4,q_g];cases out with
 |ret r=>
  obtain⟨v,rfl⟩:=ho;refine Ac h ?_;simp only[go_sem,seval]
 |pan u=>exact Cs h trivial ⟨rfl,rfl⟩
theorem Agt{G G1:GV}{m:Nat}{x y:Vl}{k:Int}{u:SV}(xk:x.k=22)(yk:y.k=21)(ht:Ad 93 G [.gp m 0] (.pan u) G1) :
  Ad 94 G [.gp m 0,vlV x,.int .i64 k,vlV y] (.pan u) G1:=by
 refine Aq mixed Tryz.func94 tr94 ?_;simp only[go_sem,seval,vlV,xk,yk];exact Cs ht trivial ⟨rfl,rfl⟩
theorem Apw{G G1 G':GV}{m id:Nat}{x y:Vl}{k:Int}{out:HOut}(xk:x.k=22)(yk:y.k=21)(ht:Ad 93 G [.gp m 0] (.ret (.tup [])) G1)
  (Be:x.kids[3]?=some id) (h:Ad 68 G1 [.gp m 0,.gp id 0] out G') (ho:Mz out) :
  Ad 94 G [.gp m 0,vlV x,.int .i64 k,vlV y] out G':=by
 refine Aq mixed Tryz.func94 tr94 ?_;obtain⟨k1,k2,k3,k4⟩:=Kk Be;have k2':(3:Int)<x.kids.length:=by omega
 simp only[go_sem,seval,vlV,xk,yk];refine Ac ht ?_;simp only[go_sem,seval,vlV,xk,yk,k1,k2',k3,k4,q_g];cases out with
 |ret r=>
  obtain⟨v,rfl⟩:=ho;refine Ac h ?_;simp only[go_sem,seval]
 |pan u=>exact Cs h trivial ⟨rfl,rfl⟩
theorem Sr{v:Vl}:cut true 6 true 6 0 (vlC v)=.agg true (vlC v):=q_z
theorem Re{v:Vl}:vlC v=[.int .i64 v.k,.int .i64 v.i,.int .i64 v.j,.int .i64 v.n,.int .i64 v.level,Dp v.kids]:=q_z
def Apq(x y:Vl):Prop:=¬(x.k=15/\y.k=14)/\¬(x.k=18/\y.k=17)/\¬(x.k=19/\y.k=17)/\¬(x.k=22/\y.k=21)
theorem Apx{G:GV}{m k:Nat}{x y:Vl}(hn:Apq x y)(hx:stk x.k=some k)(hk:k<x.kids.length)(hb:x.kids.length*8<=140737488355328) :
  Ad 94 G [.gp m 0,vlV x,.int .i64 k,vlV y] (.ret (vlV { x with kids:=x.kids.set k G.length })) (G++[Ld (some y) none]):=by
 obtain⟨n1,n2,n3,n4⟩:=hn;refine Aq mixed Tryz.func94 tr94 ?_;have As:x.kids≠[]:=by intro e;rw[e] at hk;simp at hk
 have Oz:=Oe As;have hkI:(k:Int)<(x.kids.length:Int):=by omega
 have hz:x.kids.length≠0:=by omega
 have Ef:x.kids.length<=140737488355328:=by omega
 have e0:(0:Int)<=(k:Int):=by omega
 have Tw:Dp (x.kids.set k G.length)=.dsl 1 ((x.kids.map fun i=>[SV.gp i 0]).set k [.gp G.length 0]):=by
  rw[Oe (by intro e;have:=congrArg List.length e;simp at this;exact As this),List.map_set]
 have Ck:List.take x.kids.length ((x.kids.map fun i=>[SV.gp i 0]).set k [.gp G.length 0])=(x.kids.map fun i=>[SV.gp i 0]).set k [.gp G.length 0]:=List.take_of_length_le (by simp);have sets:=Ji hx;have hd:=Adu G y;simp only[vlV,Re] at hd;rcases sets.1 with h|h|h|h
 ·have hy:(y.k==14)=false:=by simpa using fun e=>n1 ⟨h,e⟩
  simp only[go_sem,seval,vlV,h,hy,Sr,Re,Oz,q_g,hz,hb,Ef];refine Ac hd ?_;simp only[go_sem,seval,vlV,h,hy,Sr,Re,Oz,q_g,hk,hkI,e0,Tw,Ck]
 ·have hy:(y.k==17)=false:=by simpa using fun e=>n2 ⟨h,e⟩
  simp only[go_sem,seval,vlV,h,hy,Sr,Re,Oz,q_g,hz,hb,Ef];refine Ac hd ?_;simp only[go_sem,seval,vlV,h,hy,Sr,Re,Oz,q_g,hk,hkI,e0,Tw,Ck]
 ·have hy:(y.k==17)=false:=by simpa using fun e=>n3 ⟨h,e⟩
  simp only[go_sem,seval,vlV,h,hy,Sr,Re,Oz,q_g,hz,hb,Ef];refine Ac hd ?_;simp only[go_sem,seval,vlV,h,hy,Sr,Re,Oz,q_g,hk,hkI,e0,Tw,Ck]
 ·have hy:(y.k==21)=false:=by simpa using fun e=>n4 ⟨h,e⟩
  simp only[go_sem,seval,vlV,h,hy,Sr,Re,Oz,q_g,hz,hb,Ef];refine Ac hd ?_;simp only[go_sem,seval,vlV,h,hy,Sr,Re,Oz,q_g,hk,hkI,e0,Tw,Ck]
theorem Anc{G G1:GV}{m:Nat}{x:Vl}{u:SV}(xk:x.k=23)(ht:Ad 93 G [.gp m 0] (.pan u) G1):Ad 70 G [.gp m 0,vlV x] (.pan u) G1:=by
 refine Aq mixed Tryz.func70 tr70 ?_;simp only[go_sem,seval,vlV,xk];exact Cs ht trivial ⟨rfl,rfl⟩
theorem Bao{G G1 G2 G':GV}{m id:Nat}{x:Vl}{s:Sy}{out:HOut}(xk:x.k=23)(As:x.kids≠[])(hb:x.kids.length<=100)(ht:Ad 93 G [.gp m 0] (.ret (.tup [])) G1)
  (hs:Ad 91 G1 [.gp m 0,.int .i64 x.n,.int .i64 x.i,.int .i64 x.j] (.ret (.gp id 0)) G2) (hr:G2[id]?=some s.row)
  (h:Ad 90 G2 [.gp m 0,.agg true (tv s.bd),Aw x.kids.reverse] out G') (ho:Mz out):Ad 70 G [.gp m 0,vlV x] out G':=by
 refine Aq mixed Tryz.func70 tr70 ?_;have Oz:=Oe As;simp only[go_sem,seval,vlV,xk];refine Ac ht ?_;simp only[go_sem,seval,vlV,xk,Oz,q_g];refine fun _=>?_
 refine Jj (fun i=>⟨(.gp m 0::.dref 6 (vlC x) 0::.J::.J::.nilp::Aw (x.kids.take i).reverse::.J::.J::.J::.J::.J::.J::.J::.J::.J::.J::.J::.J::.J::.dsl 1 (x.kids.map fun i=>[.gp i 0])::.int .i64 x.kids.length::.int .i64 i::.J::.J::.J::.J::.J::.J::.J::.J::.J::.J::.J::.J::.J::.J::.J::.J::.J::.J::.J::.J::.J::.J::.J::.J::.J::.J::.J::.J::.J::.J::.J::.J::.J::.J::.J::.J::.J::.J::.J::.J::.J::.J::.J::.J::.J::.J::.J::.J::[]),[gOb G1]⟩) x.kids.length (fun i hi=>?_) ?_
 ·by_cases Ab:i<x.kids.length
  ·have e0:(0:Int)<=(i:Int):=by omega
   have hg:(x.kids.map fun i=>[SV.gp i 0])[i]?.getD []=[.gp x.kids[i] 0]:=by rw[List.getElem?_map,q_f Ab];rfl
   have hnx:(x.kids.take (i+1)).reverse=x.kids[i]::(x.kids.take i).reverse:=by rw[List.take_succ_eq_append_getElem Ab];simp
   simp only[go_sem,seval,decide_eq_true (show (i:Int)<x.kids.length by omega),e0,q_g,Ab,hg];refine⟨by omega,?_⟩;refine Aa (Vq _ x.kids[i] (by simp;unfold fit;omega)) ?_;simp only[go_sem,seval,w64 (show fit ((i:Int)+1) by unfold fit;omega)];refine⟨Ab,?_⟩;rw[hnx];exact Au (by simp[An])
  ·have:i=x.kids.length:=by omega
   subst this;simp only[go_sem,seval,decide_eq_false (show ¬((x.kids.length:Nat):Int)<x.kids.length by omega),List.take_length,vlV,xk];refine Ac hs ?_;simp only[go_sem,seval,hr,vlV,xk];cases out with
   |ret r=>
    obtain⟨v,rfl⟩:=ho;refine Ac h ?_;simp only[go_sem,seval]
   |pan u=>exact Cs h trivial ⟨rfl,rfl⟩
 ·simp only[List.take_zero,List.reverse_nil,Xr];exact Au (by simp[An])
theorem Ban{G G1 G':GV}{m id p:Nat}{x y y':Vl}{th:Th}{out:HOut}(hp:stk x.k=some p)(Be:x.kids[p]?=some id)(Fi:G[id]?=some (thR th))(hw:th.w=some y)(hy:Ad 70 G [.gp m 0,vlV y] (.ret (vlV y')) G1)
  (h:Ad 94 G1 [.gp m 0,vlV x,.int .i64 p,vlV y'] out G') (ho:Mz out):Ad 70 G [.gp m 0,vlV x] out G':=by
 refine Aq mixed Tryz.func70 tr70 ?_;obtain⟨k1,k2,k3,k4⟩:=Kk Be;have hk:=Ji hp;have Bz:x.k≠23:=by omega
 have k2':(p:Int)<x.kids.length:=by omega
 have e0:(0:Int)<=(p:Int):=by omega
 have Fc:Con 92 [.int .i64 x.k] (.int .i64 p):=by
  unfold stk at hp;split at hp
  ·rename_i c;cases hp;exact Jl c
  ·split at hp
   ·rename_i c;cases hp;rw[c];exact Ri
   ·cases hp
 obtain⟨t,te,b,w,v⟩:=th;simp only at hw;subst hw;simp only[go_sem,seval,vlV,Ag Bz];refine Aa Fc ?_;simp only[go_sem,seval,vlV,k1,k2',k3,k4,e0,Fi,Js,q_g];refine Ac hy ?_;simp only[go_sem,seval,vlV];cases out with
 |ret r=>
  obtain⟨v,rfl⟩:=ho;refine Ac h ?_;simp only[go_sem,seval]
 |pan u=>exact Cs h trivial ⟨rfl,rfl⟩
theorem Anb{G G1:GV}{m id p:Nat}{x y:Vl}{th:Th}{u:SV}(hp:stk x.k=some p)(Be:x.kids[p]?=some id)(Fi:G[id]?=some (thR th))(hw:th.w=some y)(hy:Ad 70 G [.gp m 0,vlV y] (.pan u) G1) :
  Ad 70 G [.gp m 0,vlV x] (.pan u) G1:=by
 refine Aq mixed Tryz.func70 tr70 ?_;obtain⟨k1,k2,k3,k4⟩:=Kk Be;have hk:=Ji hp;have Bz:x.k≠23:=by omega
 have k2':(p:Int)<x.kids.length:=by omega
 have e0:(0:Int)<=(p:Int):=by omega
 have Fc:Con 92 [.int .i64 x.k] (.int .i64 p):=by
  unfold stk at hp;split at hp
  ·rename_i c;cases hp;exact Jl c
  ·split at hp
   ·rename_i c;cases hp;rw[c];exact Ri
   ·cases hp
 obtain⟨t,te,b,w,v⟩:=th;simp only at hw;subst hw;simp only[go_sem,seval,vlV,Ag Bz];refine Aa Fc ?_;simp only[go_sem,seval,vlV,k1,k2',k3,k4,e0,Fi,Js,q_g];exact Cs hy trivial ⟨rfl,rfl⟩
inductive HdR(m:Nat):GV->Vl->HOut->GV->Prop
 |stop {G G':GV} {v:Vl} (hs:Ad 69 G [.gp m 0,vlV v] (.ret (.int .i64 0)) G'):HdR m G v (.ret (vlV v)) G'
 |pan {G G1 G':GV} {v:Vl} {n:Int} {u:SV} (hs:Ad 69 G [.gp m 0,vlV v] (.ret (.int .i64 n)) G1) (hn:n≠0) (ho:Ad 70 G1 [.gp m 0,vlV v] (.pan u) G'):HdR m G v (.pan u) G'
 |step {G G1 G2 G':GV} {v v':Vl} {n:Int} {out:HOut} (hs:Ad 69 G [.gp m 0,vlV v] (.ret (.int .i64 n)) G1) (hn:n≠0) (ho:Ad 70 G1 [.gp m 0,vlV v] (.ret (vlV v')) G2) (h:HdR m G2 v' out G'):HdR m G v out G'
theorem Ajz{m id:Nat}{G G':GV}{v:Vl}{out:HOut}(h:HdR m G v out G'){X:SV->GV->Prop}{Q:AE->St->Prop}
  (hq:∀v',out=.ret (vlV v')->Q (.exit 0) ⟨(.gp m 0::.gp id 0::.J::.J::.nilp::vlV v'::.J::.J::.J::.J::.J::.J::.J::.J::.gp m 0::vlV v'::.int .i64 0::.bool false::.J::.J::.J::.J::.J::.J::.J::.J::.J::.J::.J::[]),[gOb G']⟩) (hx:∀u,out=.pan u->X u G') :
  ∃n,vcI (Av Tryz.prog X) a46_8 Q n ⟨(.gp m 0::.gp id 0::.J::.J::.nilp::vlV v::.J::.J::.J::.J::.J::.J::.J::.J::.J::.J::.J::.J::.J::.J::.J::.J::.J::.J::.J::.J::.J::.J::.J::[]),[gOb G]⟩:=by
 induction h with
 |@stop G G' v hs=>
  refine⟨1,Ak ?_⟩;have:=hq v rfl;simp only[go_sem,seval];refine Ac hs ?_;simp only[go_sem,seval];exact this
 |@pan G G1 G' v n u hs hn ho=>
  refine⟨1,Ak ?_⟩;simp only[go_sem,seval];refine Ac hs ?_;have hb:(n != (0:Int))=true:=by simpa using hn
  simp only[go_sem,seval,hb];exact Cs ho trivial (hx _ rfl)
 |@step G G1 G2 G' v v' n out hs hn ho h ih=>
  obtain⟨k,ih⟩:=ih hq hx;refine⟨k+1,Ak ?_⟩;simp only[go_sem,seval];refine Ac hs ?_;have hb:(n != (0:Int))=true:=by simpa using hn
  simp only[go_sem,seval,hb];refine Ac ho ?_;simp only[go_sem,seval];exact Cr (Au (by simp[An])) ih
theorem Aj5{G G1 G2:GV}{m id:Nat}{th th1:Th}{v v':Vl}(h:G[id]?=some (thR th))(hv:th.v=none)(he:Ad 68 G [.gp m 0,.gp id 0] (.ret (vlV v)) G1)(hd:HdR m G1 v (.ret (vlV v')) G2)(h1:G2[id]?=some (thR th1)) :
  Ad 46 G [.gp m 0,.gp id 0] (.ret (vlV v')) (G2.set id (thR { th1 with v:=some v' })):=by
 obtain⟨out,ho⟩:∃out,out=HOut.ret (vlV v'):=⟨_,rfl⟩
 rw[<-ho];refine Aq mixed Tryz.func46 tr46 ?_;obtain⟨t,te,b,w,x⟩:=th;simp only at hv;subst hv;have Ab:=Dh h1;simp only[go_sem,seval,h,Us];refine Ac he ?_;simp only[go_sem,seval];refine Exists.elim (Ajz (id:=id) hd (X:=fun x G1=>out=.pan x/\G1=G2.set id (thR { th1 with v:=some v' }))
  (Q:=bk 0 (sq (Av Tryz.prog fun x G1=>out=.pan x/\G1=G2.set id (thR { th1 with v:=some v' })) a46_11 (sq (Av Tryz.prog fun x G1=>out=.pan x/\G1=G2.set id (thR { th1 with v:=some v' })) a46_17 (rtG [.t 4] out (G2.set id (thR { th1 with v:=some v' })))))) (fun w hw=>?_) (fun u hu=>by cases hu)) (fun n hn=>?_)
 ·simp only[HOut.ret.injEq] at hw;subst ho;rw[<-hw];simp only[go_sem,seval,h1,Af6,Fg h1,Kj,Js,List.getElem?_set_self Ab]
 ·simp only[go_sem,seval] at hn;exact Cd n (Cr (Au (by simp[An])) hn)
theorem Aj4{G G1 G2:GV}{m id:Nat}{th:Th}{v:Vl}{u:SV}(h:G[id]?=some (thR th))(hv:th.v=none)(he:Ad 68 G [.gp m 0,.gp id 0] (.ret (vlV v)) G1)(hd:HdR m G1 v (.pan u) G2) :
  Ad 46 G [.gp m 0,.gp id 0] (.pan u) G2:=by
 obtain⟨out,ho⟩:∃out,out=HOut.pan u:=⟨_,rfl⟩
 rw[<-ho];refine Aq mixed Tryz.func46 tr46 ?_;obtain⟨t,te,b,w,x⟩:=th;simp only at hv;subst hv;simp only[go_sem,seval,h,Us];refine Ac he ?_;simp only[go_sem,seval];obtain⟨n,hn⟩:=Ajz (id:=id) hd (X:=fun x G1=>out=.pan x/\G1=G2)
  (Q:=bk 0 (sq (Av Tryz.prog fun x G1=>out=.pan x/\G1=G2) a46_11 (sq (Av Tryz.prog fun x G1=>out=.pan x/\G1=G2) a46_17 (rtG [.t 4] out G2)))) (fun w hw=>by cases hw) (fun u' hu=>⟨by rw[ho];exact hu,rfl⟩)
 simp only[go_sem,seval] at hn;exact Cd n (Cr (Au (by simp[An])) hn)
end Go.Proofs.YtdpigpopcbjkmaaGreatDoor.Abs
