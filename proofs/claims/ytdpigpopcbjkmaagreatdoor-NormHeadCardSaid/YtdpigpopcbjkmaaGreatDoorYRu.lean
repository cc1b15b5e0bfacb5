import Derived.Test.YtdpigpopcbjkmaaGreatDoorYMd
set_option linter.unusedSimpArgs false
set_option linter.unusedVariables false
set_option maxRecDepth 20000
set_option maxHeartbeats 4000000
namespace Go.Proofs.YtdpigpopcbjkmaaGreatDoor.Abs
open Go Go.RowKit Go.Proofs.YtdpigpopcbjkmaaGreatDoor
def Nz:SV:=.ife 75
def Rf:SV:=.ife 131
structure Mle(M M':Mc):Prop where
 most:M'.most=M.most
 steps:M.steps<=M'.steps
 seen:M'.seen=M.seen
 guess:M.guess=0->M'.guess=0
theorem Mle.refl(M:Mc):Mle M M:=⟨rfl,Nat.le_refl _,rfl,id⟩
theorem Mle.trans{a b c:Mc}(h:Mle a b)(k:Mle b c):Mle a c:=⟨k.most.trans h.most,Nat.le_trans h.steps k.steps,k.seen.trans h.seen,fun g=>k.guess (h.guess g)⟩
inductive Post(S:SyT)(P:Tm->Option Tm)(m j:Nat)(Γ:Gh)(M:Mc)(T:Tm):HOut->GV->Prop
 |ret {G':GV} {Γ':Gh} {M':Mc} {v:Vl} {n:Nat} (x:Gx Γ Γ') (hi:RInv S m j G' Γ' M') (mm:Mle M M') (hv:WOK Γ' v) (hn:HN P (TV Γ' v)) (hr:HR P n T (TV Γ' v)) (hs:M'.steps<=M.steps+n):Post S P m j Γ M T (.ret (vlV v)) G'
 |out {G':GV} {Γ':Gh} {M':Mc} (x:Gx Γ Γ') (hi:RInv S m j G' Γ' M') (mm:Mle M M') (h:∀N Y,HR P N T Y->HN P Y->M.most<M.steps+N):Post S P m j Γ M T (.pan Nz) G'
 |far {G':GV} {Γ':Gh} {M':Mc} (x:Gx Γ Γ') (hi:RInv S m j G' Γ' M') (mm:Mle M M') (hg:0<M.guess):Post S P m j Γ M T (.pan Rf) G'
section
variable{S:SyT}{P:Tm->Option Tm}{m j:Nat}{Γ Γ1:Gh}{M M1:Mc}{T U:Tm}{out:HOut}{G G':GV}
theorem Post.outV(h:Post S P m j Γ M T out G'):Na out:=by
 cases h with
 |ret=>exact⟨_,rfl⟩
 |out=>trivial
 |far=>trivial
theorem Mle.pos(h:Mle M M1)(g:0<M1.guess):0<M.guess:=by
 have:=h.guess;omega
theorem Post.pre{n:Nat}(hr:HR P n T U)(x:Gx Γ Γ1)(mm:Mle M M1)(hs:M1.steps<=M.steps+n)(h:Post S P m j Γ1 M1 U out G'):Post S P m j Γ M T out G':=by
 cases h with
 |ret x1 hi m1 hv hn Bt Bj=>exact .ret (x.trans x1) hi (mm.trans m1) hv hn (Rw hr Bt) (by omega)
 |out x1 hi m1 h=>exact .out (x.trans x1) hi (mm.trans m1) (fun N Y hN hY=>by
   obtain⟨h1,h2⟩:=Rx hN hY hr;have:=h _ _ h2 hY;have:=mm.most;omega)
 |far x1 hi m1 hg=>exact .far (x.trans x1) hi (mm.trans m1) (mm.pos hg)
theorem Post.kid{p:Nat}{x:SV}(ax:Ax P)(hp:stk T.k=some p)(hl:p<T.kids.length)(h:Post S P m j Γ M (Am T p) (.pan x) G'):Post S P m j Γ M T (.pan x) G':=by
 cases h with
 |out x1 hi m1 h=>exact .out x1 hi m1 (fun N Y hN hY=>by
   obtain⟨N1,g,h1,h2,h3,_⟩:=Akj ax hp hl hN hY;have:=h _ _ h2 h3;omega)
 |far x1 hi m1 hg=>exact .far x1 hi m1 hg
inductive Uz(S:SyT)(m j:Nat)(Γ:Gh)(M:Mc):HOut->GV->Prop
 |ret {G':GV} {M':Mc} (hi:RInv S m j G' Γ M') (mm:Mle M M') (hs:M.steps<M.most) (h1:M'.steps=M.steps+1):Uz S m j Γ M (.ret (.tup [])) G'
 |out {G':GV} {M':Mc} (hi:RInv S m j G' Γ M') (mm:Mle M M') (hs:M.most<=M.steps):Uz S m j Γ M (.pan Nz) G'
 |far {G':GV} {M':Mc} (hi:RInv S m j G' Γ M') (mm:Mle M M') (hg:0<M.guess):Uz S m j Γ M (.pan Rf) G'
theorem t8(g:Nat):Ng (g:Int)=((g-1:Nat):Int):=by unfold Ng;split<;>omega
theorem Qv(h:RInv S m j G Γ M):∃out G',Ad 93 G [.gp m 0] out G'/\Uz S m j Γ M out G':=by
 have hm:=h.mc;obtain⟨steps,most,seen,guess⟩:=M;have Ew:=h.st;have Or:=h.mo;have Ha:=h.se;have Be:=h.gu;simp only at Ew Or Ha Be;unfold Mc.row at hm;simp only at hm;have hf:fit (guess:Int):=by unfold fit;omega
 by_cases h1:guess=1
 ·subst h1;exact⟨_,_,A3d hm,.far (h.mach ⟨steps,most,seen,0⟩ Ew Or Ha (by simp)) ⟨rfl,Nat.le_refl _,rfl,fun _=>rfl⟩ (by simp)⟩
 have hg:(guess:Int)≠1:=by omega
 by_cases h2:steps<most
 ·refine⟨_,_,Ajp hm hf hg (by omega) (by unfold fit;omega),?_⟩;rw[t8];exact .ret (h.mach ⟨steps+1,most,seen,guess-1⟩ (by simp only;omega) Or Ha (by simp only;omega)) ⟨rfl,by simp only;omega,rfl,fun g=>by simp only at g |-;omega⟩ h2 rfl
 ·refine⟨_,_,A3e hm hf hg (by omega),?_⟩;rw[t8];exact .out (h.mach ⟨steps,most,seen,guess-1⟩ Ew Or Ha (by simp only;omega)) ⟨rfl,Nat.le_refl _,rfl,fun g=>by simp only at g |-;omega⟩ (by simp only;omega)
theorem Post.take{n:Nat}{W:Tm}{x:SV}(hr:HR P n T U)(x1:Gx Γ Γ1)(mm:Mle M M1)(hs:M1.steps<=M.steps+n)(hu:HS P U W)(h:Uz S m j Γ1 M1 (.pan x) G'):Post S P m j Γ M T (.pan x) G':=by
 cases h with
 |out hi m1 hm=>exact .out x1 hi (mm.trans m1) (fun N Y hN hY=>by
   obtain⟨h1,h2⟩:=Rx hN hY hr;have:N-n≠0:=fun e=>by
    rw[e] at h2;cases h2;exact Ym hY hu
   have:=mm.most;omega)
 |far hi m1 hg=>exact .far x1 hi (mm.trans m1) (mm.pos hg)
end
def EvT(S:SyT)(m j F K:Nat)(t:Tm):Prop:=∀{G:GV} {Γ:Gh} {M:Mc} {e:List Nat} {es:List Tm},RInv S m j G Γ M->M.most<=M.steps+F->EOK Γ K e es->(∃B,Sf B t/\B+dpt t<=cap)->es.length+dpt t<=cap ->
 ∃out G',EvL G m t e out G'/\Post S plW m j Γ M (Aq es 0 t) out G'
theorem Ab9{S:SyT}{m j F id:Nat}(he:∀t,EvT S m j F id t){G:GV}{Γ:Gh}{M:Mc}{g:Ge}(h:RInv S m j G Γ M)(hF:M.most<=M.steps+F)(hg:Γ[id]?=some (some g))(ho:g.Ok 0) :
  ∃out G',Ad 68 G [.gp m 0,.gp id 0] out G'/\Post S plW m j Γ M (g.den 0) out G':=by
 obtain⟨th,h1,h2⟩:=h.rows id g hg;cases g with
 |kp row=>exact ho.elim
 |dn y T=>
  obtain⟨k1,k2,k3,k4,rfl⟩:=h1;exact⟨_,_,Ao7 k1 k3,.ret (.refl Γ) h (.refl M) k4 k4.hn (.refl _) (Nat.le_refl _)⟩
 |cl t es=>
  obtain⟨k1,k2,k3,k4,k5⟩:=h1;cases hw:th.w with
  |some v=>
   obtain⟨w,n,hr⟩:=k5 v hw;exact⟨_,_,Ao7 k1 hw,.ret (.refl Γ) h (.refl M) w w.hn hr (by omega)⟩
  |none=>
   obtain⟨o1,o2,o3⟩:=ho;subst k3;obtain⟨out,G1,e1,p1⟩:=he th.t h hF k4 o2 (by omega);cases p1 with
   |@ret _ Γ1 M1 v n x hi mm hv hn hr hs=>
    obtain⟨th1,t1,t2⟩:=hi.rows id _ (x.get hg);obtain⟨q1,q2,q3,q4,q5⟩:=t1;refine⟨_,_,Agg k1 hw k2 (El e1) q1,.ret x (hi.set (g:=.cl th.t es) (x.get hg) ⟨Fl q1,q2,q3,q4,fun v' Bk=>?_⟩ (fun v' Bk=>t2 v' Bk)) mm hv hn hr hs⟩;simp only[q_b] at Bk;subst Bk;exact⟨hv,n,hr⟩
   |out x hi mm h'=>exact⟨_,_,Ao8 k1 hw k2 (El e1),.out x hi mm h'⟩
   |far x hi mm h'=>exact⟨_,_,Ao8 k1 hw k2 (El e1),.far x hi mm h'⟩
theorem VOK.kid{Γ:Gh}{v:Vl}(h:VOK Γ v)(h2:v.k≠2){p:Nat}(hp:(p:Int)<Bf v.k v.n):∃id g,v.kids[p]?=some id/\Γ[id]?=some (some g)/\g.Ok (bnd v.k p)/\Am (TV Γ v) p=g.den (bnd v.k p):=by
 cases h with
 |fv l _=>exact absurd rfl h2
 |@nd k i j n kids _ h0 hf hl hk=>
  have Ab:p<kids.length:=by
   have e:Bf k n=kids.length:=hl.symm;simp only[e] at hp;omega
  obtain⟨g,hg,ho⟩:=hk p kids[p] (q_f Ab);refine⟨kids[p],g,q_f Ab,hg,ho,?_⟩;rw[Ace h2 (show (Vl.mk k i j n 0 kids).kids[p]?=some kids[p] from q_f Ab),Lc hg]
theorem Aof{l:List Int}{c:Int}(h:∀x∈l,x<=c)(hc:-1<=c)(k:Int):tab l k<=c:=by
 unfold tab;split
 ·rw[List.getD_eq_getElem?_getD];cases hq:l[(k-1).toNat]? with
  |none=>exact hc
  |some x=>exact h x (List.mem_of_getElem? hq)
 ·exact hc
theorem Pa(k n:Int):Bf k n<=12:=by
 unfold Bf Sl;split
 ·exact Aof (by decide) (by decide) n
 ·exact Aof (by decide) (by decide) k
theorem k_ne{k c i j n:Int}{l:List Tm}(h:k≠c):¬(Tm.mk k i j n l).k=c:=h
theorem stk2:stk 2=none:=by decide
theorem stk0:stk 0=none:=by decide
theorem kids14(n:Int):Bf 14 n=2:=q_z
theorem kids15(n:Int):Bf 15 n=2:=q_z
theorem kids17(n:Int):Bf 17 n=4:=q_z
theorem kids18(n:Int):Bf 18 n=1:=q_z
theorem kids19(n:Int):Bf 19 n=1:=q_z
theorem kids22(n:Int):Bf 22 n=6:=q_z
theorem len1{α:Type}{l:List α}(h:l.length=1):∃a,l=[a]:=by
 match l,h with
 |[a],_=>exact⟨a,rfl⟩
theorem len2{α:Type}{l:List α}(h:l.length=2):∃a b,l=[a,b]:=by
 match l,h with
 |[a,b],_=>exact⟨a,b,rfl⟩
theorem len6{α:Type}{l:List α}(h:l.length=6):∃a b c d e f,l=[a,b,c,d,e,f]:=by
 match l,h with
 |[a,b,c,d,e,f],_=>exact⟨a,b,c,d,e,f,rfl⟩
section
variable{S:SyT}{m j F K:Nat}
theorem Bd4(hK:∀K',K'<K->∀t,EvT S m j F K' t)(i j' n:Int)(l:List Tm):EvT S m j F K (.mk 2 i j' n l):=by
 intro G Γ M e es hI hF he hs hE;obtain⟨B,hs,hB⟩:=hs;obtain⟨q,rfl,rfl,rfl,rfl,hq⟩:=hs.vr;have hc:cap=1099511627776:=rfl;have Dc:fit (q:Int):=by unfold fit;omega
 have hT:Aq es 0 (.mk 2 q 0 0 [])=ivI es 0 q:=Cu 0 q;have Ag:=he.len;rw[hT];unfold ivI;rw[if_neg (by omega),Nat.sub_zero];cases hi:e[q]? with
 |some id=>
  obtain⟨h1,g,h2,h3,h4⟩:=he.at_ q id hi;obtain⟨out,G',w1,w2⟩:=Ab9 (hK id h1) hI hF h2 h3;rw[h4];exact⟨out,G',Ait Dc hi w1 w2.outV,w2⟩
 |none=>
  have hle:e.length<=q:=List.getElem?_eq_none_iff.1 hi;rw[List.getElem?_eq_none (by omega)];refine⟨_,_,A0p Dc hi (by unfold fit;omega),.ret (n:=0) (.refl Γ) hI (.refl M) ⟨.fv _ (by omega),.base stk2,Aaa stk0⟩ (Aaa stk0) ?_ (by omega)⟩;rw[Ag];exact .refl _
theorem Bd1{k:Int}(h2:k≠2)(hk:stk k=none)(i j' n:Int)(l:List Tm):EvT S m j F K (.mk k i j' n l):=by
 intro G Γ M e es hI hF he hs hE;obtain⟨B,hs,hB⟩:=hs;obtain⟨h0,hf,hl⟩:=hs.node h2;have h4:k≠15/\k≠18/\k≠19/\k≠22:=by
  unfold stk at hk;have h1:¬(k=15\/k=18\/k=19):=fun c=>by rw[if_pos c] at hk;cases hk
  rw[if_neg h1] at hk;have h3:¬k=22:=fun c=>by rw[if_pos c] at hk;cases hk
  omega
 have Di:l.length*56<=140737488355328:=by
  have:=Pa k n;omega
 have hn:=hI.node (T:=vT 0) (k:=-1) (y:=none) (l:=l) (i:=0) (K:=Γ.length) he.top (by rw[hI.len];exact Nat.le_refl _) (fun v h=>by cases h) (fun _=>by omega);have hw:=A8y (Γ:=Γ) (T:=vT 0) h2 hk he.wf hs hB hE;have hT:=A8x (Γ:=Γ) (T:=vT 0) (i':=i) (j':=j') (n':=n) h2 h0 (es:=es) (l:=l);rw[<-hI.len] at hw hT;refine⟨_,_,Ac7 Di h2 h4,.ret (n:=0) (.app _ _) hn (.refl M) hw hw.hn ?_ (by omega)⟩;rw[hT];exact .refl _
theorem Bdz(Me:∀F',F'<F->∀K t,EvT S m j F' K t){f a:Tm}(hf:EvT S m j F K f)(i j' n:Int):EvT S m j F K (.mk 15 i j' n [f,a]):=by
 intro G Γ M e es hI hF he hs hE;obtain⟨B,hs,hB⟩:=hs;have d0:=Km (k:=15) (i:=i) (j:=j') (n:=n) (l:=[f,a]) (p:=0) rfl;have d1:=Km (k:=15) (i:=i) (j:=j') (n:=n) (l:=[f,a]) (p:=1) rfl;have b0:bnd 15 0=0:=by decide
 have b1:bnd 15 1=0:=by decide
 have s0:Sf B f:=by have:=hs.kid (p:=0) rfl;rwa [b0,Nat.add_zero] at this
 have s1:Sf B a:=by have:=hs.kid (p:=1) rfl;rwa [b1,Nat.add_zero] at this
 have hT:Aq es 0 (.mk 15 i j' n [f,a])=.mk 15 i j' n [Aq es 0 f,Aq es 0 a]:=by rw[Qp (by decide) (by decide)];rfl
 have Qm:=he.wf;obtain⟨out,G1,e1,p1⟩:=hf hI hF he ⟨B,s0,by omega⟩ (by omega);cases p1 with
 |out x hi mm h=>rw[hT];exact⟨_,_,Ail (El e1),.kid (p:=0) axW rfl (by simp[Tm.kids]) (.out x hi mm h)⟩
 |far x hi mm h=>rw[hT];exact⟨_,_,Ail (El e1),.kid (p:=0) axW rfl (by simp[Tm.kids]) (.far x hi mm h)⟩
 |@ret _ Γ1 M1 y n1 x hi mm hv hn hr Bj=>
 have Bt:HR plW n1 (Aq es 0 (.mk 15 i j' n [f,a])) (.mk 15 i j' n [TV Γ1 y,Aq es 0 a]):=by rw[hT];exact Ys axW hr (t:=.mk 15 i j' n [Aq es 0 f,Aq es 0 a]) (p:=0) rfl (by simp[Tm.kids]) rfl
 have Py:EOK Γ1 Γ1.length e es:=(he.mono x (Nat.le_refl _)).top
 by_cases yk:y.k=14
 ·have y2:y.k≠2:=by omega
  obtain⟨id,g,Bc,hg,ho,hk⟩:=hv.ok.kid (p:=1) y2 (by rw[yk,kids14];decide);rw[yk] at ho hk;have hu:HS plW (.mk 15 i j' n [TV Γ1 y,Aq es 0 a]) (Aq [Aq es 0 a] 0 (Am (TV Γ1 y) 1)):=by
   refine .here ?_;unfold plW;rw[if_pos ⟨rfl,by rw[show Am (.mk 15 i j' n [TV Γ1 y,Aq es 0 a]) 0=TV Γ1 y from rfl,TV_k y2];exact yk⟩];rfl
  obtain⟨out,G2,t1,t2⟩:=Qv hi;cases t2 with
  |out hi2 mm2 h2=>exact⟨_,_,Aim (El e1) yk t1,.take Bt x mm Bj hu (.out hi2 mm2 h2)⟩
  |far hi2 mm2 h2=>exact⟨_,_,Aim (El e1) yk t1,.take Bt x mm Bj hu (.far hi2 mm2 h2)⟩
  |@ret _ M2 hi2 mm2 h2 h3=>
   cases g with
   |kp row=>exact ho.elim
   |dn v T=>exact absurd ho.1 (by decide)
   |cl tb eb=>
    obtain⟨th,t1',_⟩:=hi2.rows id _ hg;obtain⟨q1,q2,q3,q4,_⟩:=t1';subst q3;obtain⟨o1,o2,o3⟩:=ho;have hc:cap=1099511627776:=rfl;have hb14:bnd 14 1=1:=by decide
    have Ag:=q4.len;have oka:(Ge.cl a es).Ok 0:=⟨Qm,⟨B,s1,by omega⟩,by omega⟩
    have hp:=hi2.pushCl (t:=a) Py (by rw[hi2.len];exact Nat.le_refl _);have hen:EOK (Γ1++[some (.cl a es)]) (Γ1.length+1) (Γ1.length::th.env) (Aq es 0 a::eb):=
     (q4.top.mono (.app _ _) (Nat.le_succ _)).push (g:=.cl a es) (Nat.lt_succ_self _) (by simp) oka
    have Mm:=mm.most;have hm2:=mm.steps;have Ty:=mm2.most;have hm4:=mm2.steps;have Tg:F-1<F:=by omega
    obtain⟨out,G3,e3,p3⟩:=Me (F-1) Tg (Γ1.length+1) th.t hp (by omega) hen o2 (by simp only[List.length_cons];omega);rw[<-hi2.len] at e3;refine⟨_,_,Aik (El e1) yk Bc t1 q1 q2 (by unfold fit;omega) e3,p3.pre (n:=n1+1) ?_ (x.trans (.app _ _)) (mm.trans mm2) (by omega)⟩;refine Rw Bt (.step hu ?_);rw[hk,hb14,show (Ge.cl th.t eb).den 1=Aq eb [Aq es 0 a].length th.t from rfl,Aao o1 (by intro u hu;rw[List.mem_singleton] at hu;subst hu;exact Ak1 Qm s1.wf 0)];exact .refl _
 ·have hw:=Aa7 (Γ:=Γ1) (i':=i) (j':=j') (n':=n) (p:=0) (k':=15) (l:=[f,a]) rfl (by simp) hv Qm hs hB hE (by
   rw[hT,show Ce (.mk 15 i j' n [Aq es 0 f,Aq es 0 a]) 0 (TV Γ1 y)=.mk 15 i j' n [TV Γ1 y,Aq es 0 a] from rfl];unfold plW;have:¬(TV Γ1 y).k=14:=fun c=>by
    by_cases h2:y.k=2
    ·unfold TV at c;rw[if_pos h2] at c;exact absurd c (by unfold fT;simp[Tm.k])
    ·rw[TV_k h2] at c;exact yk c
   rw[if_neg (fun c=>this c.2),if_neg (fun c=>absurd c.1 (k_ne (by decide))),if_neg (fun c=>absurd c.1 (k_ne (by decide))),if_neg (fun c=>absurd c.1 (k_ne (by decide)))])
  have Nj:=Zl (Γ:=Γ1) (T:=TV Γ1 y) (i':=i) (j':=j') (n':=n) (k':=15) (p:=0) (by decide) (by decide) (es:=es) (l:=[f,a]) rfl (y:=y);have hN:=hi.node (T:=TV Γ1 y) (k:=((0:Nat):Int)) (y:=some y) (l:=[f,a]) (i:=0) Py (by rw[hi.len];exact Nat.le_refl _) (fun v Bk=>by cases Bk;exact⟨hv,rfl⟩) (fun h=>by cases h);rw[<-hi.len] at hw Nj;refine⟨_,_,A0o (El e1) yk,.ret (n:=n1) (x.trans (.app _ _)) hN mm hw hw.hn ?_ Bj⟩;rw[Nj,hT];rw[hT] at Bt;exact Bt
theorem Bd0(Me:∀F',F'<F->∀K t,EvT S m j F' K t){f:Tm}(hf:EvT S m j F K f)(i j' n:Int):EvT S m j F K (.mk 18 i j' n [f]):=by
 intro G Γ M e es hI hF he hs hE;obtain⟨B,hs,hB⟩:=hs;have d0:=Km (k:=18) (i:=i) (j:=j') (n:=n) (l:=[f]) (p:=0) rfl;have b0:bnd 18 0=0:=by decide
 have s0:Sf B f:=by have:=hs.kid (p:=0) rfl;rwa [b0,Nat.add_zero] at this
 have hT:Aq es 0 (.mk 18 i j' n [f])=.mk 18 i j' n [Aq es 0 f]:=by rw[Qp (by decide) (by decide)];rfl
 have Qm:=he.wf;obtain⟨out,G1,e1,p1⟩:=hf hI hF he ⟨B,s0,by omega⟩ (by omega);cases p1 with
 |out x hi mm h=>rw[hT];exact⟨_,_,Ain (El e1),.kid (p:=0) axW rfl (by simp[Tm.kids]) (.out x hi mm h)⟩
 |far x hi mm h=>rw[hT];exact⟨_,_,Ain (El e1),.kid (p:=0) axW rfl (by simp[Tm.kids]) (.far x hi mm h)⟩
 |@ret _ Γ1 M1 y n1 x hi mm hv hn hr Bj=>
 have Bt:HR plW n1 (Aq es 0 (.mk 18 i j' n [f])) (.mk 18 i j' n [TV Γ1 y]):=by rw[hT];exact Ys axW hr (t:=.mk 18 i j' n [Aq es 0 f]) (p:=0) rfl (by simp[Tm.kids]) rfl
 have Py:EOK Γ1 Γ1.length e es:=(he.mono x (Nat.le_refl _)).top
 by_cases yk:y.k=17
 ·have y2:y.k≠2:=by omega
  obtain⟨id,g,Bc,hg,ho,hk⟩:=hv.ok.kid (p:=2) y2 (by rw[yk,kids17];decide);rw[yk] at ho hk;have hu:HS plW (.mk 18 i j' n [TV Γ1 y]) (Am (TV Γ1 y) 2):=by
   refine .here ?_;unfold plW;rw[if_neg (fun c=>absurd c.1 (k_ne (by decide))),if_pos ⟨rfl,by rw[show Am (.mk 18 i j' n [TV Γ1 y]) 0=TV Γ1 y from rfl,TV_k y2];exact yk⟩];rfl
  obtain⟨out,G2,t1,t2⟩:=Qv hi;cases t2 with
  |out hi2 mm2 h2=>exact⟨_,_,Aio (El e1) yk t1,.take Bt x mm Bj hu (.out hi2 mm2 h2)⟩
  |far hi2 mm2 h2=>exact⟨_,_,Aio (El e1) yk t1,.take Bt x mm Bj hu (.far hi2 mm2 h2)⟩
  |@ret _ M2 hi2 mm2 h2 h3=>
   have Ado:bnd 17 2=0:=by decide
   rw[Ado] at ho hk;have Mm:=mm.most;have hm2:=mm.steps;have Ty:=mm2.most;have hm4:=mm2.steps;have Tg:F-1<F:=by omega
   obtain⟨out,G3,e3,p3⟩:=Ab9 (Me (F-1) Tg id) hi2 (by omega) hg ho;refine⟨_,_,A0q (El e1) yk Bc t1 e3 p3.outV,p3.pre (n:=n1+1) ?_ x (mm.trans mm2) (by omega)⟩;refine Rw Bt (.step hu ?_);rw[hk];exact .refl _
 ·have hw:=Aa7 (Γ:=Γ1) (i':=i) (j':=j') (n':=n) (p:=0) (k':=18) (l:=[f]) rfl (by simp) hv Qm hs hB hE (by
   rw[hT,show Ce (.mk 18 i j' n [Aq es 0 f]) 0 (TV Γ1 y)=.mk 18 i j' n [TV Γ1 y] from rfl];unfold plW;have:¬(TV Γ1 y).k=17:=fun c=>by
    by_cases h2:y.k=2
    ·unfold TV at c;rw[if_pos h2] at c;exact absurd c (by unfold fT;simp[Tm.k])
    ·rw[TV_k h2] at c;exact yk c
   rw[if_neg (fun c=>absurd c.1 (k_ne (by decide))),if_neg (fun c=>this c.2),if_neg (fun c=>absurd c.1 (k_ne (by decide))),if_neg (fun c=>absurd c.1 (k_ne (by decide)))])
  have Nj:=Zl (Γ:=Γ1) (T:=TV Γ1 y) (i':=i) (j':=j') (n':=n) (k':=18) (p:=0) (by decide) (by decide) (es:=es) (l:=[f]) rfl (y:=y);have hN:=hi.node (T:=TV Γ1 y) (k:=((0:Nat):Int)) (y:=some y) (l:=[f]) (i:=0) Py (by rw[hi.len];exact Nat.le_refl _) (fun v Bk=>by cases Bk;exact⟨hv,rfl⟩) (fun h=>by cases h);rw[<-hi.len] at hw Nj;refine⟨_,_,A0r (El e1) yk,.ret (n:=n1) (x.trans (.app _ _)) hN mm hw hw.hn ?_ Bj⟩;rw[Nj,hT];rw[hT] at Bt;exact Bt
theorem Bd3(Me:∀F',F'<F->∀K t,EvT S m j F' K t){f:Tm}(hf:EvT S m j F K f)(i j' n:Int):EvT S m j F K (.mk 19 i j' n [f]):=by
 intro G Γ M e es hI hF he hs hE;obtain⟨B,hs,hB⟩:=hs;have d0:=Km (k:=19) (i:=i) (j:=j') (n:=n) (l:=[f]) (p:=0) rfl;have b0:bnd 19 0=0:=by decide
 have s0:Sf B f:=by have:=hs.kid (p:=0) rfl;rwa [b0,Nat.add_zero] at this
 have hT:Aq es 0 (.mk 19 i j' n [f])=.mk 19 i j' n [Aq es 0 f]:=by rw[Qp (by decide) (by decide)];rfl
 have Qm:=he.wf;obtain⟨out,G1,e1,p1⟩:=hf hI hF he ⟨B,s0,by omega⟩ (by omega);cases p1 with
 |out x hi mm h=>rw[hT];exact⟨_,_,Air (El e1),.kid (p:=0) axW rfl (by simp[Tm.kids]) (.out x hi mm h)⟩
 |far x hi mm h=>rw[hT];exact⟨_,_,Air (El e1),.kid (p:=0) axW rfl (by simp[Tm.kids]) (.far x hi mm h)⟩
 |@ret _ Γ1 M1 y n1 x hi mm hv hn hr Bj=>
 have Bt:HR plW n1 (Aq es 0 (.mk 19 i j' n [f])) (.mk 19 i j' n [TV Γ1 y]):=by rw[hT];exact Ys axW hr (t:=.mk 19 i j' n [Aq es 0 f]) (p:=0) rfl (by simp[Tm.kids]) rfl
 have Py:EOK Γ1 Γ1.length e es:=(he.mono x (Nat.le_refl _)).top
 by_cases yk:y.k=17
 ·have y2:y.k≠2:=by omega
  obtain⟨id,g,Bc,hg,ho,hk⟩:=hv.ok.kid (p:=3) y2 (by rw[yk,kids17];decide);rw[yk] at ho hk;have hu:HS plW (.mk 19 i j' n [TV Γ1 y]) (Am (TV Γ1 y) 3):=by
   refine .here ?_;unfold plW;rw[if_neg (fun c=>absurd c.1 (k_ne (by decide))),if_neg (fun c=>absurd c.1 (k_ne (by decide))),if_pos ⟨rfl,by rw[show Am (.mk 19 i j' n [TV Γ1 y]) 0=TV Γ1 y from rfl,TV_k y2];exact yk⟩];rfl
  obtain⟨out,G2,t1,t2⟩:=Qv hi;cases t2 with
  |out hi2 mm2 h2=>exact⟨_,_,Ais (El e1) yk t1,.take Bt x mm Bj hu (.out hi2 mm2 h2)⟩
  |far hi2 mm2 h2=>exact⟨_,_,Ais (El e1) yk t1,.take Bt x mm Bj hu (.far hi2 mm2 h2)⟩
  |@ret _ M2 hi2 mm2 h2 h3=>
   have Ado:bnd 17 3=0:=by decide
   rw[Ado] at ho hk;have Mm:=mm.most;have hm2:=mm.steps;have Ty:=mm2.most;have hm4:=mm2.steps;have Tg:F-1<F:=by omega
   obtain⟨out,G3,e3,p3⟩:=Ab9 (Me (F-1) Tg id) hi2 (by omega) hg ho;refine⟨_,_,A0u (El e1) yk Bc t1 e3 p3.outV,p3.pre (n:=n1+1) ?_ x (mm.trans mm2) (by omega)⟩;refine Rw Bt (.step hu ?_);rw[hk];exact .refl _
 ·have hw:=Aa7 (Γ:=Γ1) (i':=i) (j':=j') (n':=n) (p:=0) (k':=19) (l:=[f]) rfl (by simp) hv Qm hs hB hE (by
   rw[hT,show Ce (.mk 19 i j' n [Aq es 0 f]) 0 (TV Γ1 y)=.mk 19 i j' n [TV Γ1 y] from rfl];unfold plW;have:¬(TV Γ1 y).k=17:=fun c=>by
    by_cases h2:y.k=2
    ·unfold TV at c;rw[if_pos h2] at c;exact absurd c (by unfold fT;simp[Tm.k])
    ·rw[TV_k h2] at c;exact yk c
   rw[if_neg (fun c=>absurd c.1 (k_ne (by decide))),if_neg (fun c=>absurd c.1 (k_ne (by decide))),if_neg (fun c=>this c.2),if_neg (fun c=>absurd c.1 (k_ne (by decide)))])
  have Nj:=Zl (Γ:=Γ1) (T:=TV Γ1 y) (i':=i) (j':=j') (n':=n) (k':=19) (p:=0) (by decide) (by decide) (es:=es) (l:=[f]) rfl (y:=y);have hN:=hi.node (T:=TV Γ1 y) (k:=((0:Nat):Int)) (y:=some y) (l:=[f]) (i:=0) Py (by rw[hi.len];exact Nat.le_refl _) (fun v Bk=>by cases Bk;exact⟨hv,rfl⟩) (fun h=>by cases h);rw[<-hi.len] at hw Nj;refine⟨_,_,A0v (El e1) yk,.ret (n:=n1) (x.trans (.app _ _)) hN mm hw hw.hn ?_ Bj⟩;rw[Nj,hT];rw[hT] at Bt;exact Bt
theorem rk_j(Me:∀F',F'<F->∀K t,EvT S m j F' K t){a0 a1 a2 a3 a4 f:Tm}(hf:EvT S m j F K f)(i j' n:Int):EvT S m j F K (.mk 22 i j' n [a0,a1,a2,a3,a4,f]):=by
 intro G Γ M e es hI hF he hs hE;obtain⟨B,hs,hB⟩:=hs;have d0:=Km (k:=22) (i:=i) (j:=j') (n:=n) (l:=[a0,a1,a2,a3,a4,f]) (p:=5) rfl;have d3:=Km (k:=22) (i:=i) (j:=j') (n:=n) (l:=[a0,a1,a2,a3,a4,f]) (p:=3) rfl;have b0:bnd 22 5=0:=by decide
 have b3:bnd 22 3=0:=by decide
 have s0:Sf B f:=by have:=hs.kid (p:=5) rfl;rwa [b0,Nat.add_zero] at this
 have s3:Sf B a3:=by have:=hs.kid (p:=3) rfl;rwa [b3,Nat.add_zero] at this
 obtain⟨A2,hT⟩:∃A2,Aq es 0 (.mk 22 i j' n [a0,a1,a2,a3,a4,f])=.mk 22 i j' n [Aq es 0 a0,Aq es 0 a1,A2,Aq es 0 a3,Aq es 0 a4,Aq es 0 f]:=by rw[Qp (by decide) (by decide)];exact⟨_,rfl⟩
 have Qm:=he.wf;obtain⟨out,G1,e1,p1⟩:=hf hI hF he ⟨B,s0,by omega⟩ (by omega);cases p1 with
 |out x hi mm h=>rw[hT];exact⟨_,_,Aip (El e1),.kid (p:=5) axW rfl (by simp[Tm.kids]) (.out x hi mm h)⟩
 |far x hi mm h=>rw[hT];exact⟨_,_,Aip (El e1),.kid (p:=5) axW rfl (by simp[Tm.kids]) (.far x hi mm h)⟩
 |@ret _ Γ1 M1 y n1 x hi mm hv hn hr Bj=>
 have Bt:HR plW n1 (Aq es 0 (.mk 22 i j' n [a0,a1,a2,a3,a4,f])) (.mk 22 i j' n [Aq es 0 a0,Aq es 0 a1,A2,Aq es 0 a3,Aq es 0 a4,TV Γ1 y]):=by rw[hT];exact Ys axW hr (t:=.mk 22 i j' n [Aq es 0 a0,Aq es 0 a1,A2,Aq es 0 a3,Aq es 0 a4,Aq es 0 f]) (p:=5) rfl (by simp[Tm.kids]) rfl
 have Py:EOK Γ1 Γ1.length e es:=(he.mono x (Nat.le_refl _)).top
 by_cases yk:y.k=21
 ·have y2:y.k≠2:=by omega
  have hu:HS plW (.mk 22 i j' n [Aq es 0 a0,Aq es 0 a1,A2,Aq es 0 a3,Aq es 0 a4,TV Γ1 y]) (Aq es 0 a3):=by
   refine .here ?_;unfold plW;rw[if_neg (fun c=>absurd c.1 (k_ne (by decide))),if_neg (fun c=>absurd c.1 (k_ne (by decide))),if_neg (fun c=>absurd c.1 (k_ne (by decide))),if_pos ⟨rfl,by rw[show Am (.mk 22 i j' n [Aq es 0 a0,Aq es 0 a1,A2,Aq es 0 a3,Aq es 0 a4,TV Γ1 y]) 5=TV Γ1 y from rfl,TV_k y2];exact yk⟩];rfl
  obtain⟨out,G2,t1,t2⟩:=Qv hi;cases t2 with
  |out hi2 mm2 h2=>exact⟨_,_,Aiq (El e1) yk t1,.take Bt x mm Bj hu (.out hi2 mm2 h2)⟩
  |far hi2 mm2 h2=>exact⟨_,_,Aiq (El e1) yk t1,.take Bt x mm Bj hu (.far hi2 mm2 h2)⟩
  |@ret _ M2 hi2 mm2 h2 h3=>
   have Mm:=mm.most;have hm2:=mm.steps;have Ty:=mm2.most;have hm4:=mm2.steps;have Tg:F-1<F:=by omega
   obtain⟨out,G3,e3,p3⟩:=Me (F-1) Tg Γ1.length a3 hi2 (by omega) Py ⟨B,s3,by omega⟩ (by omega);exact⟨_,_,A0s (El e1) yk t1 e3,p3.pre (n:=n1+1) (Rw Bt (.step hu (.refl _))) x (mm.trans mm2) (by omega)⟩
 ·have hw:=Aa7 (Γ:=Γ1) (i':=i) (j':=j') (n':=n) (p:=5) (k':=22) (l:=[a0,a1,a2,a3,a4,f]) rfl (by simp) hv Qm hs hB hE (by
   rw[hT,show Ce (.mk 22 i j' n [Aq es 0 a0,Aq es 0 a1,A2,Aq es 0 a3,Aq es 0 a4,Aq es 0 f]) 5 (TV Γ1 y)=.mk 22 i j' n [Aq es 0 a0,Aq es 0 a1,A2,Aq es 0 a3,Aq es 0 a4,TV Γ1 y] from rfl];unfold plW;have:¬(TV Γ1 y).k=21:=fun c=>by
    by_cases h2:y.k=2
    ·unfold TV at c;rw[if_pos h2] at c;exact absurd c (by unfold fT;simp[Tm.k])
    ·rw[TV_k h2] at c;exact yk c
   rw[if_neg (fun c=>absurd c.1 (k_ne (by decide))),if_neg (fun c=>absurd c.1 (k_ne (by decide))),if_neg (fun c=>absurd c.1 (k_ne (by decide))),if_neg (fun c=>this c.2)])
  have Nj:=Zl (Γ:=Γ1) (T:=TV Γ1 y) (i':=i) (j':=j') (n':=n) (k':=22) (p:=5) (by decide) (by decide) (es:=es) (l:=[a0,a1,a2,a3,a4,f]) rfl (y:=y);have hN:=hi.node (T:=TV Γ1 y) (k:=((5:Nat):Int)) (y:=some y) (l:=[a0,a1,a2,a3,a4,f]) (i:=0) Py (by rw[hi.len];exact Nat.le_refl _) (fun v Bk=>by cases Bk;exact⟨hv,rfl⟩) (fun h=>by cases h);rw[<-hi.len] at hw Nj;refine⟨_,_,A0t (El e1) yk,.ret (n:=n1) (x.trans (.app _ _)) hN mm hw hw.hn ?_ Bj⟩;rw[Nj,hT];rw[hT] at Bt;exact Bt
theorem Bd2(Me:∀F',F'<F->∀K t,EvT S m j F' K t)(hK:∀K',K'<K->∀t,EvT S m j F K' t)(t:Tm):EvT S m j F K t:=by
 induction t using Tm.ind with
 |h k i j' n l ih=>
 intro G Γ M e es hI hF he hs hE
 by_cases h2:k=2
 ·subst h2;exact Bd4 hK i j' n l hI hF he hs hE
 have hl:(l.length:Int)=Bf k n:=by obtain⟨B,hs,_⟩:=hs;exact (hs.node h2).2.2
 by_cases Fa:k=15
 ·subst Fa;rw[kids15] at hl;obtain⟨f,a,rfl⟩:=len2 (show l.length=2 by omega);exact Bdz Me (ih f (by simp)) i j' n hI hF he hs hE
 by_cases Gb:k=18
 ·subst Gb;rw[kids18] at hl;obtain⟨f,rfl⟩:=len1 (show l.length=1 by omega);exact Bd0 Me (ih f (by simp)) i j' n hI hF he hs hE
 by_cases Gc:k=19
 ·subst Gc;rw[kids19] at hl;obtain⟨f,rfl⟩:=len1 (show l.length=1 by omega);exact Bd3 Me (ih f (by simp)) i j' n hI hF he hs hE
 by_cases Du:k=22
 ·subst Du;rw[kids22] at hl;obtain⟨a0,a1,a2,a3,a4,f,rfl⟩:=len6 (show l.length=6 by omega);exact rk_j Me (ih f (by simp)) i j' n hI hF he hs hE
 exact Bd1 h2 (by unfold stk;rw[if_neg (by omega),if_neg Du]) i j' n l hI hF he hs hE
end
theorem Anp(S:SyT)(m j:Nat):∀F K t,EvT S m j F K t:=by
 intro F
 induction F using Nat.strongRecOn with
 |ind F hF=>
  intro K
  induction K using Nat.strongRecOn with
  |ind K hK=>exact Bd2 hF hK
theorem Aca{S:SyT}{m j id:Nat}{G:GV}{Γ:Gh}{M:Mc}{g:Ge}(h:RInv S m j G Γ M)(hg:Γ[id]?=some (some g))(ho:g.Ok 0) :
  ∃out G',Ad 68 G [.gp m 0,.gp id 0] out G'/\Post S plW m j Γ M (g.den 0) out G':=
 Ab9 (Anp S m j M.most id) h (by omega) hg ho
theorem Aij{S:SyT}{m j K:Nat}{t:Tm}{G:GV}{Γ:Gh}{M:Mc}{e:List Nat}{es:List Tm}(h:RInv S m j G Γ M)(he:EOK Γ K e es)(hs:∃B,Sf B t/\B+dpt t<=cap)(hE:es.length+dpt t<=cap) :
  ∃out G',Ad 90 G [.gp m 0,.agg true (tv t),Aw e] out G'/\Post S plW m j Γ M (Aq es 0 t) out G':=by
 obtain⟨out,G',e1,p1⟩:=Anp S m j M.most K t h (by omega) he hs hE;exact⟨out,G',El e1,p1⟩
def Su(G:GV)(m:Nat)(v:Vl)(out:HOut)(G':GV):Prop:=
 ∃n,vcI (Av Tryz.prog fun x G1=>out=.pan x/\G1=G') a69_24 (bk 0 (rtG [.t 4] out G')) n ⟨(.gp m 0::vlV v::.J::.J::.int .i64 0::.J::.J::.J::.J::.J::.J::.J::.J::.J::.J::.J::.J::.J::.J::.J::.J::.J::.J::.J::.J::.J::.J::.J::.J::.J::.J::.J::.J::.J::.J::.J::.J::.J::.J::.J::.J::.J::.J::.J::.J::.J::.J::.J::.J::.J::.J::.J::.J::.J::.J::[]),[gOb G]⟩
theorem Tt{G G':GV}{m:Nat}{v:Vl}{out:HOut}(h:Su G m v out G'):Ad 69 G [.gp m 0,vlV v] out G':=by
 refine Ap mixed Tryz.func69 tr69 ?_;obtain⟨n,h⟩:=h;simp only[go_sem,seval];exact Ca n (Cp (Au (by simp[An])) h)
theorem Bfr{G:GV}{m:Nat}{v:Vl}(h:v.k≠23)(hs:v.k≠15/\v.k≠18/\v.k≠19/\v.k≠22){out:HOut}(ho:out=.ret (.int .i64 0)):Su G m v out G:=by
 refine⟨1,Aj ?_⟩;simp only[go_sem,seval,vlV,Ah h];refine Aa (Ac0 hs) ?_;subst ho;simp only[go_sem,seval]
theorem Bfs{G G':GV}{m:Nat}{v:Vl}(h:v.k=23)(hs:Ad 91 G [.gp m 0,.int .i64 v.n,.int .i64 v.i,.int .i64 v.j] (.ret .nilp) G'){out:HOut}(ho:out=.ret (.int .i64 0)):Su G m v out G':=by
 refine⟨1,Aj ?_⟩;simp only[go_sem,seval,vlV,h];refine Ac hs ?_;subst ho;simp only[go_sem,seval]
theorem An9{s:Sy}:s.row.length=13:=by unfold Sy.row;simp[Ae]
theorem Bfp{s:Sy}:Ec s.row=false:=rfl
theorem Af1(s:Sy):∃a b t0 t1 t2 t3 t4,s.row=[a,b,t0,t1,t2,t3,t4,.int .i64 s.bd.k,.int .i64 s.bd.i,.int .i64 s.bd.j,.int .i64 s.bd.n,.dsl 5 (s.bd.kids.map tv),.bool s.df]:=by
 obtain⟨nm,ps,⟨k,i,j,n,l⟩,⟨k',i',j',n',l'⟩,df⟩:=s;unfold Sy.row;simp only[Ak,Tm.k,Tm.i,Tm.j,Tm.n,Tm.kids];exact⟨_,_,_,_,_,_,_,rfl⟩
theorem Bfo{s:Sy}{cl:Bool}:cut cl 13 false 1 12 s.row=.bool s.df:=by
 obtain⟨a,b,t0,t1,t2,t3,t4,h⟩:=Af1 s;rw[h];rfl
theorem Bfn{s:Sy}{cl:Bool}:cut cl 13 true 5 7 s.row=.agg cl (tv s.bd):=by
 obtain⟨a,b,t0,t1,t2,t3,t4,h⟩:=Af1 s;rw[h];cases hb:s.bd with
 |mk k i j n l=>rw[Ak];rfl
theorem Bfm{s:Sy}:s.row[12]?.getD .undef=.bool s.df:=by
 obtain⟨a,b,t0,t1,t2,t3,t4,h⟩:=Af1 s;rw[h];rfl
attribute [go_sem] Bfm An9 Bfp Bfo Bfn
theorem Bfu{G G':GV}{m id:Nat}{v:Vl}{s:Sy}(h:v.k=23)(hs:Ad 91 G [.gp m 0,.int .i64 v.n,.int .i64 v.i,.int .i64 v.j] (.ret (.gp id 0)) G')(hr:G'[id]?=some s.row){out:HOut}(ho:out=.ret (.int .i64 (if s.df then v.n else 0))):Su G m v out G':=by
 refine⟨1,Aj ?_⟩;simp only[go_sem,seval,vlV,h];refine Ac hs ?_;subst ho;cases hd:s.df<;>simp only[go_sem,seval,hr,hd]
theorem Bft{G G':GV}{m id p:Nat}{v y:Vl}{th:Th}(hp:stk v.k=some p)(Bc:v.kids[p]?=some id)(Fc:G[id]?=some (thR th))(hw:th.w=some y){out:HOut}(ih:Su G m y out G'):Su G m v out G':=by
 obtain⟨n,ih⟩:=ih;refine⟨n+1,Aj ?_⟩;obtain⟨k1,k2,k3,k4⟩:=Kg Bc;have hk:=Kf hp;have Cc:v.k≠23:=by omega
 obtain⟨t,te,b,w,x⟩:=th;simp only at hw;subst hw;have k2':(p:Int)<v.kids.length:=by omega
 unfold stk at hp;split at hp
 ·rename_i h;cases hp;simp only[Int.ofNat_zero,Int.cast_ofNat_Int] at k2';simp only[go_sem,seval,vlV,Ah Cc];refine Aa (Jh h) ?_;simp only[go_sem,seval,vlV,k1,k2',k3,k4,Fc,Jo,q_g];exact Cp (Au (by simp[An,vlV])) ih
 ·split at hp
  ·rename_i h;cases hp;have h5:Con 92 [.int .i64 v.k] (.int .i64 5):=by rw[h];exact Re
   simp only[Int.cast_ofNat_Int] at k2';simp only[go_sem,seval,vlV,Ah Cc];refine Aa h5 ?_;simp only[go_sem,seval,vlV,k1,k2',k3,k4,Fc,Jo,q_g];exact Cp (Au (by simp[An,vlV])) ih
  ·cases hp
theorem Ags{G G1:GV}{m:Nat}{x y:Vl}{k:Int}{u:SV}(xk:x.k=15)(yk:y.k=14)(ht:Ad 93 G [.gp m 0] (.pan u) G1) :
  Ad 94 G [.gp m 0,vlV x,.int .i64 k,vlV y] (.pan u) G1:=by
 refine Ap mixed Tryz.func94 tr94 ?_;simp only[go_sem,seval,vlV,xk,yk];exact Cn ht trivial ⟨rfl,rfl⟩
theorem Apg{G G1 G':GV}{m id ia:Nat}{x y:Vl}{k:Int}{out:HOut}{th:Th}(xk:x.k=15)(yk:y.k=14)(ht:Ad 93 G [.gp m 0] (.ret (.tup [])) G1)
  (Bc:y.kids[1]?=some id) (hia:x.kids[1]?=some ia) (Fc:G1[id]?=some (thR th)) (hb:th.bare=false) (hl:fit ((th.env.length:Int)+1))
  (h:Ad 90 G1 [.gp m 0,.agg true (tv th.t),Aw (ia::th.env)] out G') (ho:Na out) :
  Ad 94 G [.gp m 0,vlV x,.int .i64 k,vlV y] out G':=by
 refine Ap mixed Tryz.func94 tr94 ?_;obtain⟨t,te,b,w,v⟩:=th;simp only at hb hl h;subst hb;obtain⟨k1,k2,k3,k4⟩:=Kg Bc;obtain⟨j1,j2,j3,j4⟩:=Kg hia;have k2':(1:Int)<y.kids.length:=by omega
 have j2':(1:Int)<x.kids.length:=by omega
 have Ab:id<G1.length:=Dn Fc;simp only[go_sem,seval,vlV,xk,yk];refine Ac ht ?_;simp only[go_sem,seval,vlV,xk,yk,k1,k2',k3,k4,j1,j2',j3,j4,Fc,Ab,q_g];refine Aa (Vh te ia hl) ?_;simp only[go_sem,seval];cases out with
 |ret r=>
  obtain⟨v,rfl⟩:=ho;refine Ac h ?_;simp only[go_sem,seval]
 |pan u=>exact Cn h trivial ⟨rfl,rfl⟩
theorem Agt{G G1:GV}{m:Nat}{x y:Vl}{k:Int}{u:SV}(xk:x.k=18)(yk:y.k=17)(ht:Ad 93 G [.gp m 0] (.pan u) G1) :
  Ad 94 G [.gp m 0,vlV x,.int .i64 k,vlV y] (.pan u) G1:=by
 refine Ap mixed Tryz.func94 tr94 ?_;simp only[go_sem,seval,vlV,xk,yk];exact Cn ht trivial ⟨rfl,rfl⟩
theorem Aph{G G1 G':GV}{m id:Nat}{x y:Vl}{k:Int}{out:HOut}(xk:x.k=18)(yk:y.k=17)(ht:Ad 93 G [.gp m 0] (.ret (.tup [])) G1)
  (Bc:y.kids[2]?=some id) (h:Ad 68 G1 [.gp m 0,.gp id 0] out G') (ho:Na out) :
  Ad 94 G [.gp m 0,vlV x,.int .i64 k,vlV y] out G':=by
 refine Ap mixed Tryz.func94 tr94 ?_;obtain⟨k1,k2,k3,k4⟩:=Kg Bc;have k2':(2:Int)<y.kids.length:=by omega
 simp only[go_sem,seval,vlV,xk,yk];refine Ac ht ?_;simp only[go_sem,seval,vlV,xk,yk,k1,k2',k3,k4,q_g];cases out with
 |ret r=>
  obtain⟨v,rfl⟩:=ho;refine Ac h ?_;simp only[go_sem,seval]
 |pan u=>exact Cn h trivial ⟨rfl,rfl⟩
theorem Agv{G G1:GV}{m:Nat}{x y:Vl}{k:Int}{u:SV}(xk:x.k=19)(yk:y.k=17)(ht:Ad 93 G [.gp m 0] (.pan u) G1) :
  Ad 94 G [.gp m 0,vlV x,.int .i64 k,vlV y] (.pan u) G1:=by
 refine Ap mixed Tryz.func94 tr94 ?_;simp only[go_sem,seval,vlV,xk,yk];exact Cn ht trivial ⟨rfl,rfl⟩
theorem Apk{G G1 G':GV}{m id:Nat}{x y:Vl}{k:Int}{out:HOut}(xk:x.k=19)(yk:y.k=17)(ht:Ad 93 G [.gp m 0] (.ret (.tup [])) G1)
  (Bc:y.kids[3]?=some id) (h:Ad 68 G1 [.gp m 0,.gp id 0] out G') (ho:Na out) :
  Ad 94 G [.gp m 0,vlV x,.int .i64 k,vlV y] out G':=by
 refine Ap mixed Tryz.func94 tr94 ?_;obtain⟨k1,k2,k3,k4⟩:=Kg Bc;have k2':(3:Int)<y.kids.length:=by omega
 simp only[go_sem,seval,vlV,xk,yk];refine Ac ht ?_;simp only[go_sem,seval,vlV,xk,yk,k1,k2',k3,k4,q_g];cases out with
 |ret r=>
  obtain⟨v,rfl⟩:=ho;refine Ac h ?_;simp only[go_sem,seval]
 |pan u=>exact Cn h trivial ⟨rfl,rfl⟩
theorem Agu{G G1:GV}{m:Nat}{x y:Vl}{k:Int}{u:SV}(xk:x.k=22)(yk:y.k=21)(ht:Ad 93 G [.gp m 0] (.pan u) G1) :
  Ad 94 G [.gp m 0,vlV x,.int .i64 k,vlV y] (.pan u) G1:=by
 refine Ap mixed Tryz.func94 tr94 ?_;simp only[go_sem,seval,vlV,xk,yk];exact Cn ht trivial ⟨rfl,rfl⟩
theorem Api{G G1 G':GV}{m id:Nat}{x y:Vl}{k:Int}{out:HOut}(xk:x.k=22)(yk:y.k=21)(ht:Ad 93 G [.gp m 0] (.ret (.tup [])) G1)
  (Bc:x.kids[3]?=some id) (h:Ad 68 G1 [.gp m 0,.gp id 0] out G') (ho:Na out) :
  Ad 94 G [.gp m 0,vlV x,.int .i64 k,vlV y] out G':=by
 refine Ap mixed Tryz.func94 tr94 ?_;obtain⟨k1,k2,k3,k4⟩:=Kg Bc;have k2':(3:Int)<x.kids.length:=by omega
 simp only[go_sem,seval,vlV,xk,yk];refine Ac ht ?_;simp only[go_sem,seval,vlV,xk,yk,k1,k2',k3,k4,q_g];cases out with
 |ret r=>
  obtain⟨v,rfl⟩:=ho;refine Ac h ?_;simp only[go_sem,seval]
 |pan u=>exact Cn h trivial ⟨rfl,rfl⟩
theorem Sp{v:Vl}:cut true 6 true 6 0 (vlC v)=.agg true (vlC v):=q_z
theorem Qy{v:Vl}:vlC v=[.int .i64 v.k,.int .i64 v.i,.int .i64 v.j,.int .i64 v.n,.int .i64 v.level,Dp v.kids]:=q_z
def Apc(x y:Vl):Prop:=¬(x.k=15/\y.k=14)/\¬(x.k=18/\y.k=17)/\¬(x.k=19/\y.k=17)/\¬(x.k=22/\y.k=21)
theorem Apj{G:GV}{m k:Nat}{x y:Vl}(hn:Apc x y)(hx:stk x.k=some k)(hk:k<x.kids.length)(hb:x.kids.length*8<=140737488355328) :
  Ad 94 G [.gp m 0,vlV x,.int .i64 k,vlV y] (.ret (vlV { x with kids:=x.kids.set k G.length })) (G++[Ld (some y) none]):=by
 obtain⟨n1,n2,n3,n4⟩:=hn;refine Ap mixed Tryz.func94 tr94 ?_;have Ar:x.kids≠[]:=by intro e;rw[e] at hk;simp at hk
 have Ox:=Lv Ar;have w8:(k:Int)<(x.kids.length:Int):=by omega
 have hz:x.kids.length≠0:=by omega
 have Dw:x.kids.length<=140737488355328:=by omega
 have e0:(0:Int)<=(k:Int):=by omega
 have Tv:Dp (x.kids.set k G.length)=.dsl 1 ((x.kids.map fun i=>[SV.gp i 0]).set k [.gp G.length 0]):=by
  rw[Lv (by intro e;have:=congrArg List.length e;simp at this;exact Ar this),List.map_set]
 have Cm:List.take x.kids.length ((x.kids.map fun i=>[SV.gp i 0]).set k [.gp G.length 0])=(x.kids.map fun i=>[SV.gp i 0]).set k [.gp G.length 0]:=List.take_of_length_le (by simp);have sets:=Kf hx;have hd:=Adr G y;simp only[vlV,Qy] at hd;rcases sets.1 with h|h|h|h
 ·have hy:(y.k==14)=false:=by simpa using fun e=>n1 ⟨h,e⟩
  simp only[go_sem,seval,vlV,h,hy,Sp,Qy,Ox,q_g,hz,hb,Dw];refine Ac hd ?_;simp only[go_sem,seval,vlV,h,hy,Sp,Qy,Ox,q_g,hk,w8,e0,Tv,Cm]
 ·have hy:(y.k==17)=false:=by simpa using fun e=>n2 ⟨h,e⟩
  simp only[go_sem,seval,vlV,h,hy,Sp,Qy,Ox,q_g,hz,hb,Dw];refine Ac hd ?_;simp only[go_sem,seval,vlV,h,hy,Sp,Qy,Ox,q_g,hk,w8,e0,Tv,Cm]
 ·have hy:(y.k==17)=false:=by simpa using fun e=>n3 ⟨h,e⟩
  simp only[go_sem,seval,vlV,h,hy,Sp,Qy,Ox,q_g,hz,hb,Dw];refine Ac hd ?_;simp only[go_sem,seval,vlV,h,hy,Sp,Qy,Ox,q_g,hk,w8,e0,Tv,Cm]
 ·have hy:(y.k==21)=false:=by simpa using fun e=>n4 ⟨h,e⟩
  simp only[go_sem,seval,vlV,h,hy,Sp,Qy,Ox,q_g,hz,hb,Dw];refine Ac hd ?_;simp only[go_sem,seval,vlV,h,hy,Sp,Qy,Ox,q_g,hk,w8,e0,Tv,Cm]
theorem Amv{G G1:GV}{m:Nat}{x:Vl}{u:SV}(xk:x.k=23)(ht:Ad 93 G [.gp m 0] (.pan u) G1):Ad 70 G [.gp m 0,vlV x] (.pan u) G1:=by
 refine Ap mixed Tryz.func70 tr70 ?_;simp only[go_sem,seval,vlV,xk];exact Cn ht trivial ⟨rfl,rfl⟩
theorem Bag{G G1 G2 G':GV}{m id:Nat}{x:Vl}{s:Sy}{out:HOut}(xk:x.k=23)(Ar:x.kids≠[])(hb:x.kids.length<=100)(ht:Ad 93 G [.gp m 0] (.ret (.tup [])) G1)
  (hs:Ad 91 G1 [.gp m 0,.int .i64 x.n,.int .i64 x.i,.int .i64 x.j] (.ret (.gp id 0)) G2) (hr:G2[id]?=some s.row)
  (h:Ad 90 G2 [.gp m 0,.agg true (tv s.bd),Aw x.kids.reverse] out G') (ho:Na out):Ad 70 G [.gp m 0,vlV x] out G':=by
 refine Ap mixed Tryz.func70 tr70 ?_;have Ox:=Lv Ar;simp only[go_sem,seval,vlV,xk];refine Ac ht ?_;simp only[go_sem,seval,vlV,xk,Ox,q_g];refine fun _=>?_
 refine Je (fun i=>⟨(.gp m 0::.dref 6 (vlC x) 0::.J::.J::.nilp::Aw (x.kids.take i).reverse::.J::.J::.J::.J::.J::.J::.J::.J::.J::.J::.J::.J::.J::.dsl 1 (x.kids.map fun i=>[.gp i 0])::.int .i64 x.kids.length::.int .i64 i::.J::.J::.J::.J::.J::.J::.J::.J::.J::.J::.J::.J::.J::.J::.J::.J::.J::.J::.J::.J::.J::.J::.J::.J::.J::.J::.J::.J::.J::.J::.J::.J::.J::.J::.J::.J::.J::.J::.J::.J::.J::.J::.J::.J::.J::.J::.J::.J::[]),[gOb G1]⟩) x.kids.length (fun i hi=>?_) ?_
 ·by_cases Ab:i<x.kids.length
  ·have e0:(0:Int)<=(i:Int):=by omega
   have hg:(x.kids.map fun i=>[SV.gp i 0])[i]?.getD []=[.gp x.kids[i] 0]:=by rw[List.getElem?_map,q_f Ab];rfl
   have hnx:(x.kids.take (i+1)).reverse=x.kids[i]::(x.kids.take i).reverse:=by rw[List.take_succ_eq_append_getElem Ab];simp
   simp only[go_sem,seval,decide_eq_true (show (i:Int)<x.kids.length by omega),e0,q_g,Ab,hg];refine⟨by omega,?_⟩;refine Aa (Vh _ x.kids[i] (by simp;unfold fit;omega)) ?_;simp only[go_sem,seval,w64 (show fit ((i:Int)+1) by unfold fit;omega)];refine⟨Ab,?_⟩;rw[hnx];exact Au (by simp[An])
  ·have:i=x.kids.length:=by omega
   subst this;simp only[go_sem,seval,decide_eq_false (show ¬((x.kids.length:Nat):Int)<x.kids.length by omega),List.take_length,vlV,xk];refine Ac hs ?_;simp only[go_sem,seval,hr,vlV,xk];cases out with
   |ret r=>
    obtain⟨v,rfl⟩:=ho;refine Ac h ?_;simp only[go_sem,seval]
   |pan u=>exact Cn h trivial ⟨rfl,rfl⟩
 ·simp only[List.take_zero,List.reverse_nil,Xg];exact Au (by simp[An])
theorem Baf{G G1 G':GV}{m id p:Nat}{x y y':Vl}{th:Th}{out:HOut}(hp:stk x.k=some p)(Bc:x.kids[p]?=some id)(Fc:G[id]?=some (thR th))(hw:th.w=some y)(hy:Ad 70 G [.gp m 0,vlV y] (.ret (vlV y')) G1)
  (h:Ad 94 G1 [.gp m 0,vlV x,.int .i64 p,vlV y'] out G') (ho:Na out):Ad 70 G [.gp m 0,vlV x] out G':=by
 refine Ap mixed Tryz.func70 tr70 ?_;obtain⟨k1,k2,k3,k4⟩:=Kg Bc;have hk:=Kf hp;have Cc:x.k≠23:=by omega
 have k2':(p:Int)<x.kids.length:=by omega
 have e0:(0:Int)<=(p:Int):=by omega
 have Ew:Con 92 [.int .i64 x.k] (.int .i64 p):=by
  unfold stk at hp;split at hp
  ·rename_i c;cases hp;exact Jh c
  ·split at hp
   ·rename_i c;cases hp;rw[c];exact Re
   ·cases hp
 obtain⟨t,te,b,w,v⟩:=th;simp only at hw;subst hw;simp only[go_sem,seval,vlV,Ah Cc];refine Aa Ew ?_;simp only[go_sem,seval,vlV,k1,k2',k3,k4,e0,Fc,Jo,q_g];refine Ac hy ?_;simp only[go_sem,seval,vlV];cases out with
 |ret r=>
  obtain⟨v,rfl⟩:=ho;refine Ac h ?_;simp only[go_sem,seval]
 |pan u=>exact Cn h trivial ⟨rfl,rfl⟩
theorem Amu{G G1:GV}{m id p:Nat}{x y:Vl}{th:Th}{u:SV}(hp:stk x.k=some p)(Bc:x.kids[p]?=some id)(Fc:G[id]?=some (thR th))(hw:th.w=some y)(hy:Ad 70 G [.gp m 0,vlV y] (.pan u) G1) :
  Ad 70 G [.gp m 0,vlV x] (.pan u) G1:=by
 refine Ap mixed Tryz.func70 tr70 ?_;obtain⟨k1,k2,k3,k4⟩:=Kg Bc;have hk:=Kf hp;have Cc:x.k≠23:=by omega
 have k2':(p:Int)<x.kids.length:=by omega
 have e0:(0:Int)<=(p:Int):=by omega
 have Ew:Con 92 [.int .i64 x.k] (.int .i64 p):=by
  unfold stk at hp;split at hp
  ·rename_i c;cases hp;exact Jh c
  ·split at hp
   ·rename_i c;cases hp;rw[c];exact Re
   ·cases hp
 obtain⟨t,te,b,w,v⟩:=th;simp only at hw;subst hw;simp only[go_sem,seval,vlV,Ah Cc];refine Aa Ew ?_;simp only[go_sem,seval,vlV,k1,k2',k3,k4,e0,Fc,Jo,q_g];exact Cn hy trivial ⟨rfl,rfl⟩
inductive HdR(m:Nat):GV->Vl->HOut->GV->Prop
 |stop {G G':GV} {v:Vl} (hs:Ad 69 G [.gp m 0,vlV v] (.ret (.int .i64 0)) G'):HdR m G v (.ret (vlV v)) G'
 |pan {G G1 G':GV} {v:Vl} {n:Int} {u:SV} (hs:Ad 69 G [.gp m 0,vlV v] (.ret (.int .i64 n)) G1) (hn:n≠0) (ho:Ad 70 G1 [.gp m 0,vlV v] (.pan u) G'):HdR m G v (.pan u) G'
 |step {G G1 G2 G':GV} {v v':Vl} {n:Int} {out:HOut} (hs:Ad 69 G [.gp m 0,vlV v] (.ret (.int .i64 n)) G1) (hn:n≠0) (ho:Ad 70 G1 [.gp m 0,vlV v] (.ret (vlV v')) G2) (h:HdR m G2 v' out G'):HdR m G v out G'
theorem Ajs{m id:Nat}{G G':GV}{v:Vl}{out:HOut}(h:HdR m G v out G'){X:SV->GV->Prop}{Q:AE->St->Prop}
  (hq:∀v',out=.ret (vlV v')->Q (.exit 0) ⟨(.gp m 0::.gp id 0::.J::.J::.nilp::vlV v'::.J::.J::.J::.J::.J::.J::.J::.J::.gp m 0::vlV v'::.int .i64 0::.bool false::.J::.J::.J::.J::.J::.J::.J::.J::.J::.J::.J::[]),[gOb G']⟩) (hx:∀u,out=.pan u->X u G') :
  ∃n,vcI (Av Tryz.prog X) a46_8 Q n ⟨(.gp m 0::.gp id 0::.J::.J::.nilp::vlV v::.J::.J::.J::.J::.J::.J::.J::.J::.J::.J::.J::.J::.J::.J::.J::.J::.J::.J::.J::.J::.J::.J::.J::[]),[gOb G]⟩:=by
 induction h with
 |@stop G G' v hs=>
  refine⟨1,Aj ?_⟩;have:=hq v rfl;simp only[go_sem,seval];refine Ac hs ?_;simp only[go_sem,seval];exact this
 |@pan G G1 G' v n u hs hn ho=>
  refine⟨1,Aj ?_⟩;simp only[go_sem,seval];refine Ac hs ?_;have hb:(n != (0:Int))=true:=by simpa using hn
  simp only[go_sem,seval,hb];exact Cn ho trivial (hx _ rfl)
 |@step G G1 G2 G' v v' n out hs hn ho h ih=>
  obtain⟨k,ih⟩:=ih hq hx;refine⟨k+1,Aj ?_⟩;simp only[go_sem,seval];refine Ac hs ?_;have hb:(n != (0:Int))=true:=by simpa using hn
  simp only[go_sem,seval,hb];refine Ac ho ?_;simp only[go_sem,seval];exact Cp (Au (by simp[An])) ih
theorem A3u{G G1 G2:GV}{m id:Nat}{th th1:Th}{v v':Vl}(h:G[id]?=some (thR th))(hv:th.v=none)(he:Ad 68 G [.gp m 0,.gp id 0] (.ret (vlV v)) G1)(hd:HdR m G1 v (.ret (vlV v')) G2)(h1:G2[id]?=some (thR th1)) :
  Ad 46 G [.gp m 0,.gp id 0] (.ret (vlV v')) (G2.set id (thR { th1 with v:=some v' })):=by
 obtain⟨out,ho⟩:∃out,out=HOut.ret (vlV v'):=⟨_,rfl⟩
 rw[<-ho];refine Ap mixed Tryz.func46 tr46 ?_;obtain⟨t,te,b,w,x⟩:=th;simp only at hv;subst hv;have Ab:=Dn h1;simp only[go_sem,seval,h,Um];refine Ac he ?_;simp only[go_sem,seval];refine Exists.elim (Ajs (id:=id) hd (X:=fun x G1=>out=.pan x/\G1=G2.set id (thR { th1 with v:=some v' }))
  (Q:=bk 0 (sq (Av Tryz.prog fun x G1=>out=.pan x/\G1=G2.set id (thR { th1 with v:=some v' })) a46_11 (sq (Av Tryz.prog fun x G1=>out=.pan x/\G1=G2.set id (thR { th1 with v:=some v' })) a46_17 (rtG [.t 4] out (G2.set id (thR { th1 with v:=some v' })))))) (fun w hw=>?_) (fun u hu=>by cases hu)) (fun n hn=>?_)
 ·simp only[HOut.ret.injEq] at hw;subst ho;rw[<-hw];simp only[go_sem,seval,h1,Af5,Fl h1,Ke,Jo,List.getElem?_set_self Ab]
 ·simp only[go_sem,seval] at hn;exact Ca n (Cp (Au (by simp[An])) hn)
theorem Ajx{G G1 G2:GV}{m id:Nat}{th:Th}{v:Vl}{u:SV}(h:G[id]?=some (thR th))(hv:th.v=none)(he:Ad 68 G [.gp m 0,.gp id 0] (.ret (vlV v)) G1)(hd:HdR m G1 v (.pan u) G2) :
  Ad 46 G [.gp m 0,.gp id 0] (.pan u) G2:=by
 obtain⟨out,ho⟩:∃out,out=HOut.pan u:=⟨_,rfl⟩
 rw[<-ho];refine Ap mixed Tryz.func46 tr46 ?_;obtain⟨t,te,b,w,x⟩:=th;simp only at hv;subst hv;simp only[go_sem,seval,h,Um];refine Ac he ?_;simp only[go_sem,seval];obtain⟨n,hn⟩:=Ajs (id:=id) hd (X:=fun x G1=>out=.pan x/\G1=G2)
  (Q:=bk 0 (sq (Av Tryz.prog fun x G1=>out=.pan x/\G1=G2) a46_11 (sq (Av Tryz.prog fun x G1=>out=.pan x/\G1=G2) a46_17 (rtG [.t 4] out G2)))) (fun w hw=>by cases hw) (fun u' hu=>⟨by rw[ho];exact hu,rfl⟩)
 simp only[go_sem,seval] at hn;exact Ca n (Cp (Au (by simp[An])) hn)
end Go.Proofs.YtdpigpopcbjkmaaGreatDoor.Abs
