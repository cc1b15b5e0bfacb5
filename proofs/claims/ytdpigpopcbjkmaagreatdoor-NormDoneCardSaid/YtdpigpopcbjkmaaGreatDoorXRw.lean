import Derived.Test.YtdpigpopcbjkmaaGreatDoorXRu
import Derived.Test.YtdpigpopcbjkmaaGreatDoorXBi
import Derived.Test.YtdpigpopcbjkmaaGreatDoorXAfB
set_option linter.unusedSimpArgs false
set_option linter.unusedVariables false
set_option maxRecDepth 20000
set_option maxHeartbeats 4000000
namespace Go.Proofs.YtdpigpopcbjkmaaGreatDoor.Abs
open Go Go.RowKit Go.Proofs.YtdpigpopcbjkmaaGreatDoor
structure Lib(S:SyT):Prop where
 at_:∀n i j,fit n->fit i->fit j->(∀s,S n i j=some s->Con 112 [.int .i64 n,.int .i64 i,.int .i64 j] (.tup [.agg true s.row,.bool true]))/\(S n i j=none->Con 112 [.int .i64 n,.int .i64 i,.int .i64 j] (.tup [.agg true noSy,.bool false]))
 bd:∀n i j s,S n i j=some s->s.df=true->Sf (Bh 23 n).toNat s.bd/\(Bh 23 n).toNat+dpt s.bd<=1000
section
variable{S:SyT}{m j:Nat}{G:GV}{Γ:Gh}{M:Mc}
theorem RInv.setMap(h:RInv S m j G Γ M){l:List (K3×SV)}(hE:∀p∈l,EntOK S G Γ p):RInv S m j (G.set j (Hg l)) Γ M:=by
 obtain⟨l0,Dm,_⟩:=h.map;refine⟨by rw[List.length_set];exact h.len,by rw[List.getElem?_set_ne (Ne.symm h.mj)];exact h.mc,h.gm,h.gj,h.mj,⟨l,Fg Dm,fun p hp=>EntOK.mono (hE p hp) (.refl Γ) (fun s id h1 h2=>?_)⟩,fun id g hg=>?_,h.st,h.mo,h.se,h.gu⟩
 ·rw[List.getElem?_set_ne (fun e=>?_)]
  ·exact h2
  ·subst e;rw[Dm,q_b] at h2;exact Ben h2.symm
 ·obtain⟨th,h1,h2⟩:=h.rows id g hg;refine⟨th,h1.mono (.refl Γ) ?_,h2⟩;rw[List.getElem?_set_ne (fun e=>?_)];subst e;rw[h.gj] at hg;cases hg
theorem RInv.pushN(h:RInv S m j G Γ M)(r:List SV):RInv S m j (G++[r]) (Γ++[none]) M:=by
 have lt:∀{id:Nat} {r':List SV},G[id]?=some r'->(G++[r])[id]?=some r':=fun h=>by rw[List.getElem?_append_left (Dh h)];exact h
 obtain⟨l,hl,hE⟩:=h.map;refine⟨by simp[h.len],lt h.mc,(Gx.app _ _).get h.gm,(Gx.app _ _).get h.gj,h.mj,⟨l,lt hl,fun p hp=>EntOK.mono (hE p hp) (.app _ _) (fun s id' h1 h2=>lt h2)⟩,fun id' g' Ij=>?_,h.st,h.mo,h.se,h.gu⟩;rcases Nat.lt_or_ge id' Γ.length with Ab|Fu
 ·rw[List.getElem?_append_left Ab] at Ij;obtain⟨th,h1,h2⟩:=h.rows id' g' Ij;exact⟨th,h1.mono (.app _ _) (by rw[List.getElem?_append_left (by rw[h.len];exact Ab)]),h2.mono (.app _ _)⟩
 ·have:id'=Γ.length:=by
   have:=Dh Ij;simp at this;omega
  subst this;simp at Ij
theorem Aor(L:Lib S)(h:RInv S m j G Γ M){n i j':Int}(hn:fit n)(hi:fit i)(hj:fit j') :
  ∃r G' Γ',Ad 91 G [.gp m 0,.int .i64 n,.int .i64 i,.int .i64 j'] (.ret r) G'/\Gx Γ Γ'/\RInv S m j G' Γ' M/\(S n i j'=none->r=.nilp)/\(∀s,S n i j'=some s->∃id,r=.gp id 0/\G'[id]?=some s.row):=by
 obtain⟨l,hl,hE⟩:=h.map;have hmc:=h.mc;have hk:ok3 (n,i,j'):=⟨hn,hi,hj⟩
 obtain⟨hA1,Vw⟩:=L.at_ n i j' hn hi hj;cases hf:l.find? (fun p=>p.1==(n,i,j')) with
 |some p=>
  have hp:=List.mem_of_find?_eq_some hf;have Ov:p.1=(n,i,j'):=by simpa using List.find?_some hf
  rcases hE p hp with⟨h1,h2⟩|⟨s,id,h1,h2,h3,h4⟩
  ·rw[Ov] at h1;refine⟨_,_,Γ,Aoq hmc hl hf hk (.inl h2),.refl Γ,h,fun _=>h2,fun s hs=>?_⟩;simp only at h1;rw[h1] at hs;cases hs
  ·rw[Ov] at h1;simp only at h1;refine⟨_,_,Γ,Aoq hmc hl hf hk (.inr ⟨id,h2⟩),.refl Γ,h,fun hs=>?_,fun s' hs=>?_⟩
   ·rw[h1] at hs;cases hs
   ·rw[h1,q_b] at hs;subst hs;exact⟨id,h2,h4⟩
 |none=>
  cases hS:S n i j' with
  |none=>
   refine⟨_,_,Γ,Bgb hmc hl hf hk h.mj (Vw hS),.refl Γ,h.setMap (fun p hp=>?_),fun _=>rfl,fun s hs=>by cases hs⟩;rcases List.mem_append.1 hp with hp|hp
   ·exact hE p hp
   ·rw[List.mem_singleton] at hp;subst hp;exact .inl ⟨hS,rfl⟩
  |some s=>
   refine⟨_,_,Γ++[none],Bga hmc hl hf hk h.mj Aop (hA1 s hS),.app _ _,(h.pushN s.row).setMap (fun p hp=>?_),fun hs=>(by cases hs),fun s' hs=>?_⟩
   ·rcases List.mem_append.1 hp with hp|hp
    ·exact EntOK.mono (hE p hp) (.app _ _) (fun s id _ h2=>by rw[List.getElem?_append_left (Dh h2)];exact h2)
    ·rw[List.mem_singleton] at hp;subst hp;exact .inr ⟨s,G.length,hS,rfl,by rw[h.len];simp,by simp⟩
   ·cases hs;refine⟨_,rfl,?_⟩;rw[List.getElem?_set_ne (by have:=Dh hl;omega)];simp
inductive Wts(S:SyT)(Γ:Gh):Vl->Prop
 |use {v:Vl} {s:Sy} (h:v.k=23) (hs:S v.n v.i v.j=some s) (hd:s.df=true):Wts S Γ v
 |step {v y:Vl} {p id:Nat} (hp:stk v.k=some p) (Be:v.kids[p]?=some id) (hg:Γ[id]?=some (some (.dn y (TV Γ y)))) (hv:VOK Γ y) (hy:Wts S Γ y):Wts S Γ v
theorem Wts.mono{Γ Γ':Gh}(x:Gx Γ Γ'){v:Vl}(h:Wts S Γ v):Wts S Γ' v:=by
 induction h with
 |use h hs hd=>exact .use h hs hd
 |step hp Be hg hv _ ih=>exact .step hp Be (by rw[Gq x hv];exact x.get hg) (hv.mono x) ih
theorem VOK.num{Γ:Gh}{v:Vl}(h:VOK Γ v):fit v.i/\fit v.j/\fit v.n:=by
 cases h with
 |fv l _=>simp only;unfold fit;omega
 |nd _ _ hf _ _=>exact hf
theorem VOK.len{Γ:Gh}{v:Vl}(h:VOK Γ v)(h2:v.k≠2):(v.kids.length:Int)=Bh v.k v.n:=by
 cases h with
 |fv l _=>exact absurd rfl h2
 |nd _ _ _ hl _=>exact hl
theorem Aov{n:Int}(h:0<=Bh 23 n):1<=n/\n<=21/\4<=Bh 23 n:=by
 have hr:1<=n/\n<=21:=by
  rcases Classical.em (1<=n/\n<=21) with h1|h1
  ·exact h1
  ·unfold Bh Sn tab at h;rw[if_pos rfl,if_neg (by simpa using h1)] at h;omega
 refine⟨hr.1,hr.2,?_⟩;have:n=1\/n=2\/n=3\/n=4\/n=5\/n=6\/n=7\/n=8\/n=9\/n=10\/n=11\/n=12\/n=13\/n=14\/n=15\/n=16\/n=17\/n=18\/n=19\/n=20\/n=21:=by omega
 rcases this with rfl|rfl|rfl|rfl|rfl|rfl|rfl|rfl|rfl|rfl|rfl|rfl|rfl|rfl|rfl|rfl|rfl|rfl|rfl|rfl|rfl<;>decide
theorem RInv.dn(h:RInv S m j G Γ M){id:Nat}{y:Vl}{T:Tm}(hg:Γ[id]?=some (some (.dn y T))):∃th,G[id]?=some (thR th)/\th.bare=true/\th.w=some y/\WOK Γ y/\T=TV Γ y:=by
 obtain⟨th,h1,_⟩:=h.rows id _ hg;exact⟨th,h1⟩
theorem Af3(L:Lib S){v:Vl}(hv:Vst Γ v):∀{G:GV} {M:Mc},RInv S m j G Γ M->VOK Γ v->∃n G' Γ',(∀out,out=.ret (.int .i64 n)->Sw G m v out G')/\Gx Γ Γ'/\RInv S m j G' Γ' M/\(n=0->HN plW (TV Γ v)->HN (plD S.B) (TV Γ v))/\(n≠0->Wts S Γ v):=by
 induction hv with
 |@base v h=>
  intro G M hI hv
  by_cases Bz:v.k=23
  ·obtain⟨f1,f2,f3⟩:=hv.num;obtain⟨r,G',Γ',hs,x,hi,hn,hd⟩:=Aor L hI f3 f1 f2;cases hS:S v.n v.i v.j with
   |none=>
    rw[hn hS] at hs;refine⟨0,G',Γ',fun out ho=>Bf7 Bz hs ho,x,hi,fun _ _=>?_,fun h=>absurd rfl h⟩;refine .mk ?_ (fun p hp=>by rw[TV_k (by omega),h] at hp;cases hp);unfold plD;rw[if_pos (by rw[TV_k (by omega)];exact Bz)];rw[Jw (by omega)];show Option.map _ (S.B v.n v.i v.j)=none;unfold SyT.B;rw[hS];rfl
   |some s=>
    obtain⟨id,rfl,Bt⟩:=hd s hS;refine⟨_,G',Γ',fun out ho=>Bf9 Bz hs Bt ho,x,hi,fun h0 _=>?_,fun h0=>?_⟩
    ·have En:s.df=false:=by
      cases En:s.df with
      |false=>rfl
      |true=>
       rw[En,if_pos rfl] at h0;have:=hv.len (by omega);rw[Bz] at this;have:=Aov (n:=v.n) (by omega);omega
     refine .mk ?_ (fun p hp=>by rw[TV_k (by omega),h] at hp;cases hp);unfold plD;rw[if_pos (by rw[TV_k (by omega)];exact Bz)];rw[Jw (by omega)];show Option.map _ (S.B v.n v.i v.j)=none;unfold SyT.B;rw[hS];simp[En]
    ·cases En:s.df with
     |false=>rw[En] at h0;exact absurd rfl h0
     |true=>exact .use Bz hS En
  ·have h4:v.k≠15/\v.k≠18/\v.k≠19/\v.k≠22:=by
    unfold stk at h;have h1:¬(v.k=15\/v.k=18\/v.k=19):=fun c=>by rw[if_pos c] at h;cases h
    rw[if_neg h1] at h;have h3:¬v.k=22:=fun c=>by rw[if_pos c] at h;cases h
    omega
   refine⟨0,G,Γ,fun out ho=>Bf6 Bz h4 ho,.refl Γ,hI,fun _ hn=>?_,fun h=>absurd rfl h⟩;have hk:(TV Γ v).k≠23:=by
    by_cases h2:v.k=2
    ·unfold TV;rw[if_pos h2];unfold fT;simp[Tm.k]
    ·rw[TV_k h2];exact Bz
   cases hn with
   |mk h1 h2=>
    refine .mk (by unfold plD;rw[if_neg hk];exact h1) (fun p hp=>?_);exfalso
    by_cases h2:v.k=2
    ·unfold TV at hp;rw[if_pos h2] at hp;cases hp
    ·rw[TV_k h2,h] at hp;cases hp
 |@step v y p id hp Be hg hvy hy ih=>
  intro G M hI hv;obtain⟨th,t1,t2,t3,t4,t5⟩:=hI.dn hg;obtain⟨n,G',Γ',hs,x,hi,h0,h1⟩:=ih hI hvy;have hk:=Ji hp;have h2:v.k≠2:=by omega
  refine⟨n,G',Γ',fun out ho=>Bf8 hp Be t1 t3 (hs out ho),x,hi,fun e hn=>?_,fun e=>.step hp Be hg hvy (h1 e)⟩;have Yt:Aj (TV Γ v) p=TV Γ y:=by rw[Aci h2 Be,Mb hg];rfl
  cases hn with
  |mk k1 k2=>
   refine .mk (by unfold plD;rw[if_neg (by rw[TV_k h2];omega)];exact k1) (fun q hq=>?_);rw[TV_k h2,hp] at hq;cases hq;have:=k2 p (by rw[TV_k h2];exact hp);rw[Yt] at this |-;exact h0 e this
end
inductive PostD(S:SyT)(m j d:Nat)(Γ:Gh)(M:Mc)(T:Tm):HOut->GV->Prop
 |ret {G':GV} {Γ':Gh} {M':Mc} {v:Vl} {n:Nat} (x:Gx Γ Γ') (hi:RInv S m j G' Γ' M') (mm:Mle M M') (hv:WOK Γ' v) (hr:HR (plD S.B) n T (TV Γ' v)) (hs:M'.steps<=M.steps+n) (hd:M.steps+d<=M'.steps):PostD S m j d Γ M T (.ret (vlV v)) G'
 |out {G':GV} {Γ':Gh} {M':Mc} (x:Gx Γ Γ') (hi:RInv S m j G' Γ' M') (mm:Mle M M') (h:∀N Y,HR (plD S.B) N T Y->HN (plD S.B) Y->M.most<M.steps+N):PostD S m j d Γ M T (.pan Sj) G'
 |far {G':GV} {Γ':Gh} {M':Mc} (x:Gx Γ Γ') (hi:RInv S m j G' Γ' M') (mm:Mle M M') (hg:0<M.guess):PostD S m j d Γ M T (.pan Ti) G'
section
variable{S:SyT}{m j d:Nat}{Γ Γ1:Gh}{M M1:Mc}{T U:Tm}{out:HOut}{G G':GV}
theorem PostD.outV(h:PostD S m j d Γ M T out G'):Mz out:=by
 cases h with
 |ret=>exact⟨_,rfl⟩
 |out=>trivial
 |far=>trivial
theorem PostD.of(h:Post S plW m j Γ M T out G'):PostD S m j 0 Γ M T out G':=by
 cases h with
 |ret x hi mm hv hn hr hs=>exact .ret x hi mm hv (A4l (axD _) plWD hr) hs mm.steps
 |out x hi mm h=>exact .out x hi mm (fun N Y hN hY=>by
   obtain⟨N1,w,h1,h2,h3,_⟩:=A4k axW (axD _) plWD hN hY;have:=h _ _ h2 h3;omega)
 |far x hi mm hg=>exact .far x hi mm hg
theorem PostD.pre{n:Nat}(hr:HR (plD S.B) n T U)(x:Gx Γ Γ1)(mm:Mle M M1)(hs:M1.steps<=M.steps+n)(hd:M.steps+d<=M1.steps)(h:PostD S m j 0 Γ1 M1 U out G'):PostD S m j d Γ M T out G':=by
 cases h with
 |ret x1 hi m1 hv Bs Bk Ez=>exact .ret (x.trans x1) hi (mm.trans m1) hv (Sc hr Bs) (by omega) (by omega)
 |out x1 hi m1 h=>exact .out (x.trans x1) hi (mm.trans m1) (fun N Y hN hY=>by
   obtain⟨h1,h2⟩:=Uh hN hY hr;have:=h _ _ h2 hY;have:=mm.most;omega)
 |far x1 hi m1 hg=>exact .far (x.trans x1) hi (mm.trans m1) (mm.pos hg)
theorem PostD.kid{d':Nat}{p:Nat}{x:SV}(hp:stk T.k=some p)(hl:p<T.kids.length)(h:PostD S m j d Γ M (Aj T p) (.pan x) G'):PostD S m j d' Γ M T (.pan x) G':=by
 cases h with
 |out x1 hi m1 h=>exact .out x1 hi m1 (fun N Y hN hY=>by
   obtain⟨N1,g,h1,h2,h3,_⟩:=Akt (axD _) hp hl hN hY;have:=h _ _ h2 h3;omega)
 |far x1 hi m1 hg=>exact .far x1 hi m1 hg
theorem PostD.take{W:Tm}{x:SV}(hu:HS (plD S.B) T W)(h:Vf S m j Γ M (.pan x) G'):PostD S m j d Γ M T (.pan x) G':=by
 cases h with
 |out hi m1 hm=>exact .out (.refl Γ) hi m1 (fun N Y hN hY=>by
   have:N≠0:=fun e=>by
    subst e;cases hN;exact Yy hY hu
   omega)
 |far hi m1 hg=>exact .far (.refl Γ) hi m1 hg
theorem Acj{v:Vl}(h:v.k≠2):(TV Γ v).kids.length=v.kids.length:=by rw[Jw h];exact Nz
theorem Bfj{x y:Vl}{p:Nat}(hx:VOK Γ x)(hp:stk x.k=some p)(Ct:p<x.kids.length)(hy:WOK Γ y)(hn:plW (Bm (TV Γ x) p (TV Γ y))=none) :
  WOK (Γ++[some (.dn y (TV Γ y))]) { x with kids:=x.kids.set p Γ.length }/\TV (Γ++[some (.dn y (TV Γ y))]) { x with kids:=x.kids.set p Γ.length }=Bm (TV Γ x) p (TV Γ y):=by
 have hk:=Ji hp;have h2:x.k≠2:=by omega
 have Wo:=hx;have hT:TV (Γ++[some (.dn y (TV Γ y))]) { x with kids:=x.kids.set p Γ.length }=Bm (TV Γ x) p (TV Γ y):=by
  rw[Jw (show ({ x with kids:=x.kids.set p Γ.length }:Vl).k≠2 from h2),Jw h2];unfold Bm;simp only[Tm.k,Tm.i,Tm.j,Tm.n,Tm.kids];congr 1;apply List.ext_getElem?;intro q;rw[Ny]
  by_cases e:p=q
  ·subst e;rw[List.getElem?_set_self Ct,List.getElem?_set_self (by rw[Nz];exact Ct),Option.map_some,Mb (g:=.dn y (TV Γ y)) (by simp)];rfl
  ·rw[List.getElem?_set_ne e,List.getElem?_set_ne e,Ny];cases hq:x.kids[q]? with
   |none=>rfl
   |some id=>
    cases Wo with
    |fv l _=>cases hq
    |nd _ _ _ _ hk'=>
     obtain⟨g,hg,_⟩:=hk' q id hq;simp only[Option.map_some];rw[(Gx.app Γ _).den hg]
 refine⟨⟨?_,?_,?_⟩,hT⟩
 ·cases hx with
  |fv l _=>exact absurd rfl h2
  |nd h2 h0 hf hl hk'=>
   refine .nd h2 h0 hf (by rw[List.length_set];exact hl) (fun q id hq=>?_)
   by_cases e:p=q
   ·subst e;rw[List.getElem?_set_self Ct,q_b] at hq;subst hq;refine⟨.dn y (TV Γ y),by simp,?_⟩;exact⟨o7 hp,hy.ok.wf⟩
   ·rw[List.getElem?_set_ne e] at hq;obtain⟨g,hg,ho⟩:=hk' q id hq;exact⟨g,(Gx.app _ _).get hg,ho⟩
 ·exact .step (y:=y) (p:=p) (id:=Γ.length) hp (by show (x.kids.set p Γ.length)[p]?=_;exact List.getElem?_set_self Ct) (by rw[Gq (.app _ _) hy.ok];simp) (hy.ok.mono (.app _ _)) (hy.st.mono (.app _ _))
 ·rw[hT];refine .mk hn (fun q hq=>?_);rw[Afu,TV_k h2,hp] at hq;cases hq;rw[Zs (by rw[Acj h2];exact Ct)];exact hy.hn
theorem Apz(hI:RInv S m j G Γ M){x y:Vl}{p:Nat}(hx:VOK Γ x)(hp:stk x.k=some p)(hy:WOK Γ y) :
  ∃out G',Ad 94 G [.gp m 0,vlV x,.int .i64 p,vlV y] out G'/\PostD S m j 0 Γ M (Bm (TV Γ x) p (TV Γ y)) out G':=by
 have hk:=Ji hp;have h2:x.k≠2:=by omega
 have Fq:=hx.len h2;have Ct:p<x.kids.length:=by
  unfold stk at hp;split at hp
  ·rename_i c;cases hp;rcases c with c|c|c<;>(rw[c] at Fq;first|(rw[kids15] at Fq;omega)|(rw[kids18] at Fq;omega)|(rw[kids19] at Fq;omega))
  ·split at hp
   ·rename_i c;cases hp;rw[c,kids22] at Fq;omega
   ·cases hp
 have hTk:(Bm (TV Γ x) p (TV Γ y)).k=x.k:=by rw[Afu,TV_k h2]
 have Ro:Aj (Bm (TV Γ x) p (TV Γ y)) p=TV Γ y:=Zs (by rw[Acj h2];exact Ct);have hyk:∀c:Int,c≠0->c≠2->(TV Γ y).k=c->y.k=c:=fun c h0 hc h=>by
  by_cases e:y.k=2
  ·exact absurd (h.symm.trans (show (TV Γ y).k=0 from by unfold TV;rw[if_pos e];rfl)) h0
  ·rw[TV_k e] at h;exact h
 have Ajl:∀q,q≠p->Aj (Bm (TV Γ x) p (TV Γ y)) q=Aj (TV Γ x) q:=fun q hq=>A6r (Ne.symm hq)
 by_cases c1:x.k=15/\y.k=14
 ·obtain⟨xk,yk⟩:=c1;have Hn:p=0:=by rw[xk] at hp;exact (Option.some.inj hp).symm
  subst Hn;obtain⟨id,g,Be,hg,ho,Iw⟩:=hy.ok.kid (p:=1) (by omega) (by rw[yk,kids14];decide);obtain⟨ia,ga,hia,hga,hoa,Ys⟩:=hx.kid (p:=1) h2 (by rw[xk,kids15];decide);rw[yk] at ho Iw;rw[xk] at hoa Ys;have b15:bnd 15 1=0:=by decide
  have b14:bnd 14 1=1:=by decide
  rw[b15] at hoa Ys;rw[b14] at ho Iw;have hu:HS plW (Bm (TV Γ x) 0 (TV Γ y)) (Ao [ga.den 0] 0 (g.den 1)):=by
   refine .here ?_;unfold plW;rw[if_pos ⟨by rw[hTk];exact xk,by rw[Ro,TV_k (by omega)];exact yk⟩,Ro,Iw,Ajl 1 (by decide),Ys]
  have Kh:=Uj (axD S.B) plWD hu;obtain⟨out,G2,t1,t2⟩:=Qz hI;cases t2 with
  |out hi2 mm2 h2=>exact⟨_,_,Agr xk yk t1,.take Kh (.out hi2 mm2 h2)⟩
  |far hi2 mm2 h2=>exact⟨_,_,Agr xk yk t1,.take Kh (.far hi2 mm2 h2)⟩
  |@ret _ M2 hi2 mm2 h2 h3=>
   cases g with
   |kp row=>exact ho.elim
   |dn v T=>exact absurd ho.1 (by decide)
   |cl tb eb=>
    obtain⟨th,t1',_⟩:=hi2.rows id _ hg;obtain⟨q1,q2,q3,q4,_⟩:=t1';subst q3;obtain⟨o1,o2,o3⟩:=ho;have hc:cap=1099511627776:=rfl;have Ah:=q4.len;have hen:EOK Γ Γ.length (ia::th.env) (ga.den 0::eb):=q4.top.push (Dh hga) hga hoa;obtain⟨out,G3,e3,p3⟩:=Aik hi2 hen o2 (by simp only[List.length_cons];omega);refine⟨_,_,Apu xk yk t1 Be hia q1 q2 (by unfold fit;omega) e3 p3.outV,(PostD.of p3).pre (n:=1) (.step Kh ?_) (.refl Γ) mm2 (by omega) (by omega)⟩;rw[show (Ge.cl th.t eb).den 1=Ao eb [ga.den 0].length th.t from rfl,Aaw o1 (by intro u hu;rw[List.mem_singleton] at hu;subst hu;exact hoa.wf)];exact .refl _
 by_cases c2:x.k=18/\y.k=17
 ·obtain⟨xk,yk⟩:=c2;have Hn:p=0:=by rw[xk] at hp;exact (Option.some.inj hp).symm
  subst Hn;obtain⟨id,g,Be,hg,ho,Iw⟩:=hy.ok.kid (p:=2) (by omega) (by rw[yk,kids17];decide);rw[yk] at ho Iw;have b0:bnd 17 2=0:=by decide
  rw[b0] at ho Iw;have hu:HS plW (Bm (TV Γ x) 0 (TV Γ y)) (g.den 0):=by
   refine .here ?_;unfold plW;rw[if_neg (fun c=>absurd (hTk.symm.trans c.1) (by rw[xk];decide)),if_pos ⟨by rw[hTk];exact xk,by rw[Ro,TV_k (by omega)];exact yk⟩,Ro,Iw]
  have Kh:=Uj (axD S.B) plWD hu;obtain⟨out,G2,t1,t2⟩:=Qz hI;cases t2 with
  |out hi2 mm2 h2=>exact⟨_,_,Ags xk yk t1,.take Kh (.out hi2 mm2 h2)⟩
  |far hi2 mm2 h2=>exact⟨_,_,Ags xk yk t1,.take Kh (.far hi2 mm2 h2)⟩
  |@ret _ M2 hi2 mm2 h2 h3=>
   obtain⟨out,G3,e3,p3⟩:=Ace hi2 hg ho;exact⟨_,_,Apv xk yk t1 Be e3 p3.outV,(PostD.of p3).pre (n:=1) (.step Kh (.refl _)) (.refl Γ) mm2 (by omega) (by omega)⟩
 by_cases c3:x.k=19/\y.k=17
 ·obtain⟨xk,yk⟩:=c3;have Hn:p=0:=by rw[xk] at hp;exact (Option.some.inj hp).symm
  subst Hn;obtain⟨id,g,Be,hg,ho,Iw⟩:=hy.ok.kid (p:=3) (by omega) (by rw[yk,kids17];decide);rw[yk] at ho Iw;have b0:bnd 17 3=0:=by decide
  rw[b0] at ho Iw;have hu:HS plW (Bm (TV Γ x) 0 (TV Γ y)) (g.den 0):=by
   refine .here ?_;unfold plW;rw[if_neg (fun c=>absurd (hTk.symm.trans c.1) (by rw[xk];decide)),if_neg (fun c=>absurd (hTk.symm.trans c.1) (by rw[xk];decide)),if_pos ⟨by rw[hTk];exact xk,by rw[Ro,TV_k (by omega)];exact yk⟩,Ro,Iw]
  have Kh:=Uj (axD S.B) plWD hu;obtain⟨out,G2,t1,t2⟩:=Qz hI;cases t2 with
  |out hi2 mm2 h2=>exact⟨_,_,Agu xk yk t1,.take Kh (.out hi2 mm2 h2)⟩
  |far hi2 mm2 h2=>exact⟨_,_,Agu xk yk t1,.take Kh (.far hi2 mm2 h2)⟩
  |@ret _ M2 hi2 mm2 h2 h3=>
   obtain⟨out,G3,e3,p3⟩:=Ace hi2 hg ho;exact⟨_,_,Apy xk yk t1 Be e3 p3.outV,(PostD.of p3).pre (n:=1) (.step Kh (.refl _)) (.refl Γ) mm2 (by omega) (by omega)⟩
 by_cases c4:x.k=22/\y.k=21
 ·obtain⟨xk,yk⟩:=c4;have Hn:p=5:=by rw[xk] at hp;exact (Option.some.inj hp).symm
  subst Hn;obtain⟨id,g,Be,hg,ho,Iw⟩:=hx.kid (p:=3) h2 (by rw[xk,kids22];decide);rw[xk] at ho Iw;have b0:bnd 22 3=0:=by decide
  rw[b0] at ho Iw;have hu:HS plW (Bm (TV Γ x) 5 (TV Γ y)) (g.den 0):=by
   refine .here ?_;unfold plW;rw[if_neg (fun c=>absurd (hTk.symm.trans c.1) (by rw[xk];decide)),if_neg (fun c=>absurd (hTk.symm.trans c.1) (by rw[xk];decide)),if_neg (fun c=>absurd (hTk.symm.trans c.1) (by rw[xk];decide)),if_pos ⟨by rw[hTk];exact xk,by rw[Ro,TV_k (by omega)];exact yk⟩,Ajl 3 (by decide),Iw]
  have Kh:=Uj (axD S.B) plWD hu;obtain⟨out,G2,t1,t2⟩:=Qz hI;cases t2 with
  |out hi2 mm2 h2=>exact⟨_,_,Agt xk yk t1,.take Kh (.out hi2 mm2 h2)⟩
  |far hi2 mm2 h2=>exact⟨_,_,Agt xk yk t1,.take Kh (.far hi2 mm2 h2)⟩
  |@ret _ M2 hi2 mm2 h2 h3=>
   obtain⟨out,G3,e3,p3⟩:=Ace hi2 hg ho;exact⟨_,_,Apw xk yk t1 Be e3 p3.outV,(PostD.of p3).pre (n:=1) (.step Kh (.refl _)) (.refl Γ) mm2 (by omega) (by omega)⟩
 have Ea:plW (Bm (TV Γ x) p (TV Γ y))=none:=by
  unfold plW;have kp:∀q c,stk x.k=some q->(Aj (Bm (TV Γ x) p (TV Γ y)) q).k=c->(TV Γ y).k=c:=fun q c hq h=>by
   rw[hp] at hq;cases hq;rwa [Ro] at h
  rw[if_neg (fun c=>?_),if_neg (fun c=>?_),if_neg (fun c=>?_),if_neg (fun c=>?_)]
  ·obtain⟨a,b⟩:=c;rw[hTk] at a;exact c4 ⟨a,hyk _ (by decide) (by decide) (kp 5 _ (by rw[a];decide) b)⟩
  ·obtain⟨a,b⟩:=c;rw[hTk] at a;exact c3 ⟨a,hyk _ (by decide) (by decide) (kp 0 _ (by rw[a];decide) b)⟩
  ·obtain⟨a,b⟩:=c;rw[hTk] at a;exact c2 ⟨a,hyk _ (by decide) (by decide) (kp 0 _ (by rw[a];decide) b)⟩
  ·obtain⟨a,b⟩:=c;rw[hTk] at a;exact c1 ⟨a,hyk _ (by decide) (by decide) (kp 0 _ (by rw[a];decide) b)⟩
 obtain⟨w1,w2⟩:=Bfj hx hp Ct hy Ea;have hi:=hI.pushDn hy;rw[<-hI.len] at w1 w2;have Dc:=Nx x.k x.n;exact⟨_,_,Apx ⟨c1,c2,c3,c4⟩ hp Ct (by omega),.ret (n:=0) (.app _ _) hi (.refl M) w1 (by rw[w2];exact .refl _) (by omega) (by omega)⟩
theorem bnd23(p:Nat):bnd 23 p=0:=by unfold bnd Bn;rw[if_neg (by decide),if_neg (by decide),if_neg (by decide)];rfl
theorem EOK.kids{x:Vl}(hx:VOK Γ x)(hk:x.k=23):EOK Γ Γ.length x.kids.reverse (Fk Γ 23 0 x.kids).reverse:=by
 refine⟨by simp[Nz],fun q i hq=>?_⟩;have Ab:=Dh hq;rw[List.length_reverse] at Ab;rw[List.getElem?_reverse Ab] at hq;cases hx with
 |fv l _=>cases hq
 |nd h2 h0 hf hl hk'=>
  simp only at hk hq Ab;subst hk;obtain⟨g,hg,ho⟩:=hk' _ i hq;rw[bnd23] at ho;refine⟨Dh hg,g,hg,ho,?_⟩;rw[List.getElem?_reverse (by rw[Nz];exact Ab),Nz,Ny,hq,Option.map_some,bnd23,Mb hg]
theorem Afe(L:Lib S){v:Vl}(hw:Wts S Γ v):∀{G:GV} {M:Mc},RInv S m j G Γ M->VOK Γ v->∃out G',Ad 70 G [.gp m 0,vlV v] out G'/\PostD S m j 1 Γ M (TV Γ v) out G':=by
 induction hw with
 |@use v s hk hs hd=>
  intro G M hI hv;have h2:v.k≠2:=by omega
  obtain⟨f1,f2,f3⟩:=hv.num;have hl:=hv.len h2;rw[hk] at hl;have hr:=Aov (n:=v.n) (by omega);have Lh:=Nx 23 v.n;obtain⟨bS,bD⟩:=L.bd _ _ _ s hs hd;have hu:HS (plD S.B) (TV Γ v) (Ao (Fk Γ 23 0 v.kids).reverse 0 s.bd):=by
   refine .here ?_;unfold plD;rw[if_pos (by rw[TV_k h2];exact hk),Jw h2,hk];show Option.map _ (S.B v.n v.i v.j)=_;unfold SyT.B;rw[hs];simp only[Option.bind_some,hd,if_true,Option.map_some];rfl
  obtain⟨out,G2,t1,t2⟩:=Qz hI;cases t2 with
  |out hi2 mm2 h2=>exact⟨_,_,Anc hk t1,.take hu (.out hi2 mm2 h2)⟩
  |far hi2 mm2 h2=>exact⟨_,_,Anc hk t1,.take hu (.far hi2 mm2 h2)⟩
  |@ret _ M2 hi2 mm2 Cw h3=>
   obtain⟨r,G3,Γ3,s1,x3,i3,_,s3⟩:=Aor L hi2 f3 f1 f2;obtain⟨id,rfl,Bt⟩:=s3 s hs;have hc:cap=1099511627776:=rfl;have hE:EOK Γ3 Γ3.length v.kids.reverse (Fk Γ 23 0 v.kids).reverse:=(EOK.kids hv hk).mono x3 x3.len;obtain⟨out,G4,e4,p4⟩:=Aik i3 hE ⟨_,bS,by omega⟩ (by simp only[List.length_reverse,Nz];omega);refine⟨_,_,Bao hk (by intro e;rw[e] at hl;simp at hl;omega) (by omega) t1 s1 Bt e4 p4.outV,(PostD.of p4).pre (n:=1) (.step hu (.refl _)) x3 mm2 (by omega) (by omega)⟩
 |@step v y p id hp Be hg hvy hy ih=>
  intro G M hI hv;obtain⟨th,t1,t2,t3,t4,t5⟩:=hI.dn hg;have hk:=Ji hp;have h2:v.k≠2:=by omega
  have Yt:Aj (TV Γ v) p=TV Γ y:=by rw[Aci h2 Be,Mb hg];rfl
  have Ct:p<(TV Γ v).kids.length:=by rw[Acj h2];exact Dh Be
  obtain⟨out,G1,o1,p1⟩:=ih hI hvy;cases p1 with
  |out x hi mm h=>exact⟨_,_,Anb hp Be t1 t3 o1,.kid (p:=p) (d:=1) (by rw[TV_k h2];exact hp) Ct (by rw[Yt];exact .out x hi mm h)⟩
  |far x hi mm h=>exact⟨_,_,Anb hp Be t1 t3 o1,.kid (p:=p) (d:=1) (by rw[TV_k h2];exact hp) Ct (by rw[Yt];exact .far x hi mm h)⟩
  |@ret _ Γ1 M1 y' n x hi mm Bd hr hs hd=>
   obtain⟨out,G2,a1,q1⟩:=Apz hi (hv.mono x) hp Bd;rw[Gq x hv] at q1;refine⟨_,_,Ban hp Be t1 t3 o1 a1 q1.outV,q1.pre (n:=n) ?_ x mm hs hd⟩;exact Ze (axD _) hr (by rw[TV_k h2];exact hp) Ct Yt
theorem A4a(L:Lib S):∀(F:Nat) {G:GV} {Γ:Gh} {M:Mc} {v:Vl},M.most<=M.steps+F->RInv S m j G Γ M->WOK Γ v->∃out G',HdR m G v out G'/\Post S (plD S.B) m j Γ M (TV Γ v) out G':=by
 intro F
 induction F with
 |zero=>
  intro G Γ M v hF hI hv;obtain⟨n,G1,Γ1,s1,x1,i1,h0,h1⟩:=Af3 L hv.st hI hv.ok
  by_cases hn:n=0
  ·subst hn;refine⟨_,_,.stop (Rt (s1 _ rfl)),.ret (n:=0) x1 i1 (.refl M) (hv.mono x1) ?_ ?_ (by omega)⟩
   ·rw[Gq x1 hv.ok];exact h0 rfl hv.hn
   ·rw[Gq x1 hv.ok];exact .refl _
  ·obtain⟨out,G2,o1,p1⟩:=Afe L ((h1 hn).mono x1) i1 (hv.ok.mono x1);rw[Gq x1 hv.ok] at p1;cases p1 with
   |out x hi mm h=>exact⟨_,_,.pan (Rt (s1 _ rfl)) hn o1,.out (x1.trans x) hi mm h⟩
   |far x hi mm h=>exact⟨_,_,.pan (Rt (s1 _ rfl)) hn o1,.far (x1.trans x) hi mm h⟩
   |ret x hi mm Bd hr hs hd=>
    have:=hi.st;have:=mm.most;omega
 |succ F ih=>
  intro G Γ M v hF hI hv;obtain⟨n,G1,Γ1,s1,x1,i1,h0,h1⟩:=Af3 L hv.st hI hv.ok
  by_cases hn:n=0
  ·subst hn;refine⟨_,_,.stop (Rt (s1 _ rfl)),.ret (n:=0) x1 i1 (.refl M) (hv.mono x1) ?_ ?_ (by omega)⟩
   ·rw[Gq x1 hv.ok];exact h0 rfl hv.hn
   ·rw[Gq x1 hv.ok];exact .refl _
  ·obtain⟨out,G2,o1,p1⟩:=Afe L ((h1 hn).mono x1) i1 (hv.ok.mono x1);rw[Gq x1 hv.ok] at p1;cases p1 with
   |out x hi mm h=>exact⟨_,_,.pan (Rt (s1 _ rfl)) hn o1,.out (x1.trans x) hi mm h⟩
   |far x hi mm h=>exact⟨_,_,.pan (Rt (s1 _ rfl)) hn o1,.far (x1.trans x) hi mm h⟩
   |@ret _ Γ2 M2 v' k x hi mm Bd hr hs hd=>
    have:=mm.most;obtain⟨out,G3,d3,p3⟩:=ih (by omega) hi Bd;exact⟨_,_,.step (Rt (s1 _ rfl)) hn o1 d3,p3.pre hr (x1.trans x) mm hs⟩
theorem A4e(L:Lib S)(hI:RInv S m j G Γ M){id:Nat}{g:Ge}(hg:Γ[id]?=some (some g))(ho:g.Ok 0) :
  ∃out G',Ad 46 G [.gp m 0,.gp id 0] out G'/\Post S (plD S.B) m j Γ M (g.den 0) out G':=by
 obtain⟨th,t1,t2⟩:=hI.rows id g hg;cases hv:th.v with
 |some v=>
  obtain⟨w,hn,n,hr⟩:=t2 v hv;exact⟨_,_,A3z (t1.row ho) hv,.ret (.refl Γ) hI (.refl M) w hn hr (by omega)⟩
 |none=>
  obtain⟨out,G1,w1,p1⟩:=Ace hI hg ho;have p1:=PostD.of p1;cases p1 with
  |out x hi mm h=>exact⟨_,_,Aj3 (t1.row ho) hv w1,.out x hi mm h⟩
  |far x hi mm h=>exact⟨_,_,Aj3 (t1.row ho) hv w1,.far x hi mm h⟩
  |@ret _ Γ1 M1 v n x hi mm Bd hr hs hd=>
   obtain⟨out,G2,d2,p2⟩:=A4a L M1.most (by omega) hi Bd;have p3:=p2.pre hr x mm hs;cases p3 with
   |out x hi mm h=>exact⟨_,_,Aj4 (t1.row ho) hv w1 d2,.out x hi mm h⟩
   |far x hi mm h=>exact⟨_,_,Aj4 (t1.row ho) hv w1 d2,.far x hi mm h⟩
   |@ret _ Γ3 M3 v3 n3 x3 hi3 mm3 hv3 hn3 Ug Cq=>
    obtain⟨th1,u1,u2⟩:=hi3.rows id g (x3.get hg);refine⟨_,_,Aj5 (t1.row ho) hv w1 d2 (u1.row ho),.ret x3 (hi3.set (x3.get hg) ?_ ?_) mm3 hv3 hn3 Ug Cq⟩
    ·cases g with
     |kp row=>exact ho.elim
     |cl t es=>obtain⟨q1,q2,q3,q4,q5⟩:=u1;exact⟨Fg q1,q2,q3,q4,q5⟩
     |dn y T=>obtain⟨q1,q2,q3,q4,q5⟩:=u1;exact⟨Fg q1,q2,q3,q4,q5⟩
    ·intro w hw;simp only[q_b] at hw;subst hw;exact⟨hv3,hn3,_,Ug⟩
end
theorem A3u{G:GV}{id:Nat}{th:Th}(Fi:G[id]?=some (thR th))(hb:th.bare=false)(deep:Int)(hd:fit deep)(Ez:fit (deep+1))(hl:fit ((th.env.length:Int)+2)) :
  Ad 61 G [.gp id 0,.int .i64 deep,.int .i64 2] (.ret (.gp (G.length+2) 0)) (G++[Ld (some ⟨2,0,0,0,deep,[]⟩) none,Ld (some ⟨2,0,0,0,deep+1,[]⟩) none,thR ⟨th.t,(G.length+1)::G.length::th.env,false,none,none⟩]):=by
 obtain⟨out,ho⟩:∃out,out=HOut.ret (.gp (G.length+2) 0):=⟨_,rfl⟩
 obtain⟨G',Ni⟩:∃G',G'=G++[Ld (some ⟨2,0,0,0,deep,[]⟩) none,Ld (some ⟨2,0,0,0,deep+1,[]⟩) none,thR ⟨th.t,(G.length+1)::G.length::th.env,false,none,none⟩]:=⟨_,rfl⟩
 rw[<-ho,<-Ni];refine Aq mixed Tryz.func61 tr61 ?_;obtain⟨t,te,b,w,v⟩:=th;simp only at hb hl Ni;subst hb;have Ab:=Dh Fi;simp only[go_sem,seval,Fi];refine Cd 3 (Ak ?_);simp only[go_sem,seval,Int.add_zero,w64 hd];refine Ac (Adv G deep) ?_;simp only[go_sem,seval];refine Aa (Vq te _ (by unfold fit at hl |-;omega)) ?_;simp only[go_sem,seval];refine Ak ?_;simp only[go_sem,seval,w64 Ez];refine Ac (Adv _ (deep+1)) ?_;simp only[go_sem,seval];refine Aa (Vq (G.length::te) _ (by unfold fit at hl |-;simp only[List.length_cons];omega)) ?_;simp only[go_sem,seval];refine Ak ?_;have h2:∀x y:List SV,(G++[x]++[y])[id]?=some (thR ⟨t,te,false,w,v⟩):=fun x y=>by rw[List.append_assoc,List.getElem?_append_left Ab];exact Fi
 simp only[go_sem,seval,h2];refine Ac (Px _ t _) ?_;subst ho Ni;simp only[go_sem,seval,List.append_assoc,List.length_append]
theorem Acz(i:Int):Con 84 [.int .i64 i] (.agg true (tv (.mk 2 i 0 0 []))):=by
 refine (Al (r:=.agg true [.int .i64 2,.int .i64 i,.int .i64 0,.int .i64 0,.nils]) mixed Tryz.func84 tr84 ?_).weaken (Mq _ _ _ _);simp only[go_sem,seval]
theorem Ah4(l d:Int)(h1:fit (d-1))(h2:fit (d-1-l)):Con 59 [.int .i64 l,.int .i64 d] (.agg true (tv (.mk 2 (d-1-l) 0 0 []))):=by
 refine Al mixed Tryz.func59 tr59 ?_;simp only[go_sem,seval,w64 h1,w64 h2];refine Aa (Acz _) ?_;rw[Am];simp only[go_sem,seval]
inductive UnR(deep:Int)(b:Nat):GV->Nat->Nat->GV->Prop
 |no {G:GV} {id:Nat} (hb:b=0):UnR deep b G id id G
 |yes {G G1:GV} {id id':Nat} (hb:0<b) (h:Ad 61 G [.gp id 0,.int .i64 deep,.int .i64 b] (.ret (.gp id' 0)) G1):UnR deep b G id id' G1
inductive QkR(m:Nat)(deep:Int)(k:Int):Nat->GV->List Nat->(List Tm ⊕ SV)->GV->Prop
 |nil {p:Nat} {G:GV}:QkR m deep k p G [] (.inl []) G
 |pan {p:Nat} {G G1 G2:GV} {id id':Nat} {l:List Nat} {u:SV} (hu:UnR deep (bnd k p) G id id' G1) (hq:Ad 35 G1 [.gp m 0,.gp id' 0,.int .i64 (deep+bnd k p)] (.pan u) G2):QkR m deep k p G (id::l) (.inr u) G2
 |cons {p:Nat} {G G1 G2 G3:GV} {id id':Nat} {l:List Nat} {r:Tm} {rs:List Tm} (hu:UnR deep (bnd k p) G id id' G1) (hq:Ad 35 G1 [.gp m 0,.gp id' 0,.int .i64 (deep+bnd k p)] (.ret (.agg true (tv r))) G2) (h:QkR m deep k (p+1) G2 l (.inl rs) G3):QkR m deep k p G (id::l) (.inl (r::rs)) G3
 |cpan {p:Nat} {G G1 G2 G3:GV} {id id':Nat} {l:List Nat} {r:Tm} {u:SV} (hu:UnR deep (bnd k p) G id id' G1) (hq:Ad 35 G1 [.gp m 0,.gp id' 0,.int .i64 (deep+bnd k p)] (.ret (.agg true (tv r))) G2) (h:QkR m deep k (p+1) G2 l (.inr u) G3):QkR m deep k p G (id::l) (.inr u) G3
theorem Vk(k:Int)(p:Nat):Bn k p=((bnd k p:Nat):Int):=by unfold bnd;have:=Nb k p;omega
theorem Tb(k:Int)(p:Nat):bnd k p<=2:=by unfold bnd;have:=Nb k p;omega
def qS(m id:Nat)(deep:Int)(v:Vl)(i:Nat)(b:SV)(G:GV):List Tm->St
 |[]=>⟨(.gp m 0::.gp id 0::.int .i64 deep::.J::.J::.J::.ref 1 0 0 0::vlV v::.ref 2 0 0 0::.J::.J::.J::.J::.J::.J::.J::.J::.J::.J::.J::.J::.J::.J::.J::.J::.J::.J::.J::.J::.J::.J::.J::.J::.J::.J::.J::.J::.J::.J::.J::.J::.J::.J::.J::.J::.J::.J::.J::Dp v.kids::.int .i64 v.kids.length::.int .i64 i::b::.J::.J::.J::.J::.J::.J::.J::.J::.J::.J::.J::.J::.J::.J::.J::.J::.J::.J::.J::.J::.J::.J::.J::.J::.J::.J::.J::.J::[]),[gOb G,⟨true,5,[[.int .i64 0,.int .i64 0,.int .i64 0,.int .i64 0,.nils]],0,0,true⟩,⟨true,5,[[.int .i64 v.k,.int .i64 v.i,.int .i64 v.j,.int .i64 v.n,.nils]],0,0,true⟩]⟩
 |t::ts=>⟨(.gp m 0::.gp id 0::.int .i64 deep::.J::.J::.J::.ref 1 0 0 0::vlV v::.ref 2 0 0 0::.J::.J::.J::.J::.J::.J::.J::.J::.J::.J::.J::.J::.J::.J::.J::.J::.J::.J::.J::.J::.J::.J::.J::.J::.J::.J::.J::.J::.J::.J::.J::.J::.J::.J::.J::.J::.J::.J::.J::Dp v.kids::.int .i64 v.kids.length::.int .i64 i::b::.J::.J::.J::.J::.J::.J::.J::.J::.J::.J::.J::.J::.J::.J::.J::.J::.J::.J::.J::.J::.J::.J::.J::.J::.J::.J::.J::.J::[]),[gOb G,⟨true,5,[[.int .i64 0,.int .i64 0,.int .i64 0,.int .i64 0,.nils]],0,0,true⟩,⟨true,5,[[.int .i64 v.k,.int .i64 v.i,.int .i64 v.j,.int .i64 v.n,.osl 4 ts.length 0 (ts.length+1)]],0,0,false⟩,⟨false,5,[tv t],0,0,true⟩,⟨false,5,(t::ts).map tv,ts.length,ts.length,true⟩]⟩
theorem qS_0{m id:Nat}{deep:Int}{v:Vl}{i:Nat}{b:SV}{G:GV}:qS m id deep v i b G []=⟨(.gp m 0::.gp id 0::.int .i64 deep::.J::.J::.J::.ref 1 0 0 0::vlV v::.ref 2 0 0 0::.J::.J::.J::.J::.J::.J::.J::.J::.J::.J::.J::.J::.J::.J::.J::.J::.J::.J::.J::.J::.J::.J::.J::.J::.J::.J::.J::.J::.J::.J::.J::.J::.J::.J::.J::.J::.J::.J::.J::Dp v.kids::.int .i64 v.kids.length::.int .i64 i::b::.J::.J::.J::.J::.J::.J::.J::.J::.J::.J::.J::.J::.J::.J::.J::.J::.J::.J::.J::.J::.J::.J::.J::.J::.J::.J::.J::.J::[]),[gOb G,⟨true,5,[[.int .i64 0,.int .i64 0,.int .i64 0,.int .i64 0,.nils]],0,0,true⟩,⟨true,5,[[.int .i64 v.k,.int .i64 v.i,.int .i64 v.j,.int .i64 v.n,.nils]],0,0,true⟩]⟩:=q_z
theorem qS_1{m id:Nat}{deep:Int}{v:Vl}{i:Nat}{b:SV}{G:GV}{t:Tm}{ts:List Tm}:qS m id deep v i b G (t::ts)=⟨(.gp m 0::.gp id 0::.int .i64 deep::.J::.J::.J::.ref 1 0 0 0::vlV v::.ref 2 0 0 0::.J::.J::.J::.J::.J::.J::.J::.J::.J::.J::.J::.J::.J::.J::.J::.J::.J::.J::.J::.J::.J::.J::.J::.J::.J::.J::.J::.J::.J::.J::.J::.J::.J::.J::.J::.J::.J::.J::.J::Dp v.kids::.int .i64 v.kids.length::.int .i64 i::b::.J::.J::.J::.J::.J::.J::.J::.J::.J::.J::.J::.J::.J::.J::.J::.J::.J::.J::.J::.J::.J::.J::.J::.J::.J::.J::.J::.J::[]),[gOb G,⟨true,5,[[.int .i64 0,.int .i64 0,.int .i64 0,.int .i64 0,.nils]],0,0,true⟩,⟨true,5,[[.int .i64 v.k,.int .i64 v.i,.int .i64 v.j,.int .i64 v.n,.osl 4 ts.length 0 (ts.length+1)]],0,0,false⟩,⟨false,5,[tv t],0,0,true⟩,⟨false,5,(t::ts).map tv,ts.length,ts.length,true⟩]⟩:=q_z
theorem Acy(k:Int)(p:Nat):Con 60 [.int .i64 k,.int .i64 p] (.int .i64 (bnd k p:Nat)):=by rw[<-Vk];exact At8 k p
theorem Afo{m id n:Nat}{deep:Int}{v:Vl}{X:SV->GV->Prop}{Q:AE->St->Prop}(Ah:v.kids.length<=100)(Py:fit deep/\fit (deep+2)){p i i':Nat}{G G1 G2:GV}{out:HOut}{done:List Tm}(hd:done.length<=100)(hi:v.kids[p]?=some i)
  (hu:UnR deep (bnd v.k p) G i i' G1) (hq:Ad 35 G1 [.gp m 0,.gp i' 0,.int .i64 (deep+bnd v.k p)] out G2)
  (ho:(∃r,out=.ret (.agg true (tv r))/\vcI (Av Tryz.prog X) a35_26 Q n (qS m id deep v (p+1) .J G2 (done++[r])))\/∃u,out=.pan u/\X u G2) :
  vcI (Av Tryz.prog X) a35_26 Q (n+1) (qS m id deep v p .J G done):=by
 obtain⟨k1,k2,k3,k4⟩:=Kk hi;have e0:(0:Int)<=(p:Int):=by omega
 have Ef:=Tb v.k p;have hw:IntKind.i64.wrap (deep+(bnd v.k p:Nat))=deep+(bnd v.k p:Nat):=w64 (by unfold fit at Py |-;omega);have Jc:IntKind.i64.wrap ((p:Int)+1)=((p+1:Nat):Int):=by rw[w64 (by unfold fit;omega)];omega
 have Ct:(p:Int)<v.kids.length:=k2;have Tt:=Acy v.k p;generalize bnd v.k p=b at *
 refine Ak ?_;cases done with
 |nil=>
  rw[qS_0];simp only[go_sem,seval,vlV,k1,k3,k4,Ct,e0,q_g];refine Aa Tt ?_;cases hu with
  |no hb=>
   subst hb;have hz:deep+((0:Nat):Int)=deep:=by omega
   have Dy:deep+(0:Int)=deep:=by omega
   rw[hz] at hq hw;simp only[go_sem,seval,Dy,hw];rcases ho with⟨r,rfl,this⟩|⟨u,rfl,hx⟩
   ·refine Ac hq ?_;rw[List.nil_append,qS_1] at this;simp only[go_sem,seval,Jc,Ct,k1,vlV] at this |-;exact Cr (Au (by simp[An])) this
   ·exact Cs hq trivial hx
  |yes hb hu=>
   have El:(b:Int) > 0:=by omega
   simp only[go_sem,seval,El,decide_eq_true El,hw];refine Ac hu ?_;simp only[go_sem,seval,hw];rcases ho with⟨r,rfl,this⟩|⟨u,rfl,hx⟩
   ·refine Ac hq ?_;rw[List.nil_append,qS_1] at this;simp only[go_sem,seval,Jc,Ct,k1,vlV] at this |-;exact Cr (Au (by simp[An])) this
   ·exact Cs hq trivial hx
 |cons d ds=>
  rw[qS_1];simp only[List.length_cons] at hd;have Ym:(ds.length+1+1)*56<=140737488355328:=by omega
  have Yn:ds.length+1+1<=140737488355328:=by omega
  simp only[go_sem,seval,vlV,k1,k3,k4,Ct,e0,q_g];refine Aa Tt ?_;cases hu with
  |no hb=>
   subst hb;have hz:deep+((0:Nat):Int)=deep:=by omega
   have Dy:deep+(0:Int)=deep:=by omega
   rw[hz] at hq hw;simp only[go_sem,seval,Dy,hw];rcases ho with⟨r,rfl,this⟩|⟨u,rfl,hx⟩
   ·refine Ac hq ?_;rw[List.cons_append,qS_1] at this;simp only[go_sem,seval,Jc,Ct,k1,vlV,Ym,Yn,q_g,List.map_append] at this |-;exact Cr (Dq 5 (by simp[An]) (by simp) (by simp[Bb]) (by simp[Bb,gOb])) this
   ·exact Cs hq trivial hx
  |yes hb hu=>
   have El:(b:Int) > 0:=by omega
   simp only[go_sem,seval,El,decide_eq_true El,hw];refine Ac hu ?_;simp only[go_sem,seval,hw];rcases ho with⟨r,rfl,this⟩|⟨u,rfl,hx⟩
   ·refine Ac hq ?_;rw[List.cons_append,qS_1] at this;simp only[go_sem,seval,Jc,Ct,k1,vlV,Ym,Yn,q_g,List.map_append] at this |-;exact Cr (Dq 5 (by simp[An]) (by simp) (by simp[Bb]) (by simp[Bb,gOb])) this
   ·exact Cs hq trivial hx
theorem Bdt{m id:Nat}{deep:Int}{v:Vl}{X:SV->GV->Prop}{Q:AE->St->Prop}{G:GV}{done:List Tm}(hq:Q (.exit 0) (qS m id deep v v.kids.length (.bool false) G done)) :
  vcI (Av Tryz.prog X) a35_26 Q 1 (qS m id deep v v.kids.length .J G done):=by
 refine Ak ?_;cases done with
 |nil=>
  rw[qS_0] at hq |-;simp only[go_sem,seval,decide_eq_false (show ¬((v.kids.length:Nat):Int)<v.kids.length by omega)];exact hq
 |cons d ds=>
  rw[qS_1] at hq |-;simp only[go_sem,seval,decide_eq_false (show ¬((v.kids.length:Nat):Int)<v.kids.length by omega)];simp only[go_sem,seval] at hq;exact hq
theorem Vt{l:List Nat}{p i:Nat}{r:List Nat}(h:l.drop p=i::r):l[p]?=some i/\l.drop (p+1)=r/\p<l.length:=by
 have h1:l[p]?=some i:=by have:=congrArg (fun l=>l[0]?) h;simpa using this
 refine⟨h1,?_,Dh h1⟩;have:=congrArg (List.drop 1) h
 rwa [List.drop_drop] at this
theorem An0{m id:Nat}{deep:Int}{v:Vl}{X:SV->GV->Prop}{Q:AE->St->Prop}(Ah:v.kids.length<=100)(Py:fit deep/\fit (deep+2)) :
  ∀{p:Nat} {G:GV} {l:List Nat} {out:List Tm ⊕ SV} {G':GV},QkR m deep v.k p G l out G'->∀done:List Tm,done.length=p->p<=v.kids.length->v.kids.drop p=l ->
  (∀rs,out=.inl rs->Q (.exit 0) (qS m id deep v v.kids.length (.bool false) G' (done++rs)))->(∀u,out=.inr u->X u G') ->
  ∃n,vcI (Av Tryz.prog X) a35_26 Q n (qS m id deep v p .J G done):=by
 intro p G l out G' h
 induction h with
 |@nil p G=>
  intro done hd hpv hl hq hx;have hp:v.kids.length<=p:=List.drop_eq_nil_iff.1 hl;have:=hq [] rfl;rw[List.append_nil] at this;have e:p=v.kids.length:=by omega
  subst e;exact⟨1,Bdt this⟩
 |@pan p G G1 G2 i i' l u hu Ow=>
  intro done hd hpv hl hq hx;obtain⟨h1,h2,h3⟩:=Vt hl;exact⟨_,Afo (n:=0) Ah Py (by omega) h1 hu Ow (.inr ⟨u,rfl,hx _ rfl⟩)⟩
 |@cons p G G1 G2 G3 i i' l r rs hu Ow h ih=>
  intro done hd hpv hl hq hx;obtain⟨h1,h2,h3⟩:=Vt hl;obtain⟨n,hn⟩:=ih (done++[r]) (by simp[hd]) h3 h2 (fun rs' e=>by cases e;have:=hq _ rfl;rwa [List.append_cons] at this) (fun u e=>by cases e);exact⟨_,Afo (n:=n) Ah Py (by omega) h1 hu Ow (.inl ⟨r,rfl,hn⟩)⟩
 |@cpan p G G1 G2 G3 i i' l r u hu Ow h ih=>
  intro done hd hpv hl hq hx;obtain⟨h1,h2,h3⟩:=Vt hl;obtain⟨n,hn⟩:=ih (done++[r]) (by simp[hd]) h3 h2 (fun rs' e=>by cases e) (fun u' e=>by cases e;exact hx _ rfl);exact⟨_,Afo (n:=n) Ah Py (by omega) h1 hu Ow (.inl ⟨r,rfl,hn⟩)⟩
section
variable{G G1 G2 G3:GV}{m id:Nat}{deep:Int}{v:Vl}{u:SV}
theorem Abl(h:Ad 58 G [.gp m 0] (.pan u) G1):Ad 35 G [.gp m 0,.gp id 0,.int .i64 deep] (.pan u) G1:=by
 refine Aq mixed Tryz.func35 tr35 ?_;simp only[go_sem,seval];exact Cs h trivial ⟨rfl,rfl⟩
theorem An1(h:Ad 58 G [.gp m 0] (.ret (.tup [])) G1)(hh:Ad 46 G1 [.gp m 0,.gp id 0] (.pan u) G2):Ad 35 G [.gp m 0,.gp id 0,.int .i64 deep] (.pan u) G2:=by
 refine Aq mixed Tryz.func35 tr35 ?_;simp only[go_sem,seval];refine Ac h ?_;simp only[go_sem,seval];exact Cs hh trivial ⟨rfl,rfl⟩
theorem Bdy(h:Ad 58 G [.gp m 0] (.ret (.tup [])) G1)(hh:Ad 46 G1 [.gp m 0,.gp id 0] (.ret (vlV v)) G2)(hk:v.k=2)(h1:fit (deep-1))(h2:fit (deep-1-v.level)) :
  Ad 35 G [.gp m 0,.gp id 0,.int .i64 deep] (.ret (.agg true (tv (.mk 2 (deep-1-v.level) 0 0 [])))) G2:=by
 refine Aq mixed Tryz.func35 tr35 ?_;simp only[go_sem,seval];refine Ac h ?_;simp only[go_sem,seval];refine Ac hh ?_;simp only[go_sem,seval,vlV,hk];refine Aa (Ah4 v.level deep h1 h2) ?_;rw[Am];simp only[go_sem,seval]
theorem An2(h:Ad 58 G [.gp m 0] (.ret (.tup [])) G1)(hh:Ad 46 G1 [.gp m 0,.gp id 0] (.ret (vlV v)) G2)(hk:v.k≠2)(As:v.kids≠[])(Ah:v.kids.length<=100)(Py:fit deep/\fit (deep+2))(hq:QkR m deep v.k 0 G2 v.kids (.inr u) G3) :
  Ad 35 G [.gp m 0,.gp id 0,.int .i64 deep] (.pan u) G3:=by
 refine Aq mixed Tryz.func35 tr35 ?_;simp only[go_sem,seval];refine Ac h ?_;simp only[go_sem,seval];refine Ac hh ?_;simp only[go_sem,seval,vlV,Ag hk,Oe As,q_g];refine fun _=>?_
 refine Exists.elim (An0 (id:=id) (X:=fun x G1=>HOut.pan u=.pan x/\G1=G3) (Q:=bk 0 (sq (Av Tryz.prog fun x G1=>HOut.pan u=.pan x/\G1=G3) a35_31 (rtG [.cell 6 true 5] (.pan u) G3))) Ah Py hq [] rfl (Nat.zero_le _) (by simp) (fun rs e=>by cases e) (fun u' e=>by cases e;exact⟨rfl,rfl⟩)) (fun n hn=>?_);rw[qS_0] at hn;simp only[go_sem,seval] at hn;exact Cd n (Cr (Au (by simp[An,vlV,Oe As])) hn)
theorem Bdx{rs:List Tm}(h:Ad 58 G [.gp m 0] (.ret (.tup [])) G1)(hh:Ad 46 G1 [.gp m 0,.gp id 0] (.ret (vlV v)) G2)(hk:v.k≠2)(As:v.kids≠[])(Ah:v.kids.length<=100)(Py:fit deep/\fit (deep+2))(hq:QkR m deep v.k 0 G2 v.kids (.inl rs) G3)(Ox:rs≠[]) :
  Ad 35 G [.gp m 0,.gp id 0,.int .i64 deep] (.ret (.agg true (tv (.mk v.k v.i v.j v.n rs)))) G3:=by
 obtain⟨out,ho⟩:∃out,out=HOut.ret (.agg true (tv (.mk v.k v.i v.j v.n rs))):=⟨_,rfl⟩
 rw[<-ho];refine Aq mixed Tryz.func35 tr35 ?_;simp only[go_sem,seval];refine Ac h ?_;simp only[go_sem,seval];refine Ac hh ?_;simp only[go_sem,seval,vlV,Ag hk,Oe As,q_g];refine fun _=>?_
 refine Exists.elim (An0 (id:=id) (X:=fun x G1=>out=.pan x/\G1=G3) (Q:=bk 0 (sq (Av Tryz.prog fun x G1=>out=.pan x/\G1=G3) a35_31 (rtG [.cell 6 true 5] out G3))) Ah Py hq [] rfl (Nat.zero_le _) (by simp) (fun rs' e=>?_) (fun u' e=>by cases e)) (fun n hn=>?_)
 ·cases e;subst ho;rw[List.nil_append];cases rs with
  |nil=>exact absurd rfl Ox
  |cons r ts=>
   rw[qS_1,Am];simp only[go_sem,seval];rw[List.take_of_length_le (by simp)]
 rw[qS_0] at hn;simp only[go_sem,seval] at hn;exact Cd n (Cr (Au (by simp[An,vlV,Oe As])) hn)
theorem Bdw(h:Ad 58 G [.gp m 0] (.ret (.tup [])) G1)(hh:Ad 46 G1 [.gp m 0,.gp id 0] (.ret (vlV v)) G2)(hk:v.k≠2)(hl:v.kids=[]) :
  Ad 35 G [.gp m 0,.gp id 0,.int .i64 deep] (.ret (.agg true (tv (.mk v.k v.i v.j v.n [])))) G2:=by
 refine (Aq (out:=.ret (.agg true [.int .i64 v.k,.int .i64 v.i,.int .i64 v.j,.int .i64 v.n,.nils])) mixed Tryz.func35 tr35 ?_).weaken (Mq _ _ _ _);simp only[go_sem,seval];refine Ac h ?_;simp only[go_sem,seval];refine Ac hh ?_;simp only[go_sem,seval,vlV,Ag hk,hl,j9];refine Cd 1 (Ak ?_);simp only[go_sem,seval,q_i]
end
end Go.Proofs.YtdpigpopcbjkmaaGreatDoor.Abs
