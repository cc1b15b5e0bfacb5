import Derived.Test.YtgdkddjdhijfnaaGreatDoorXMf
import Derived.Test.YtgdkddjdhijfnaaGreatDoorXMb
import Derived.Test.YtgdkddjdhijfnaaGreatDoorXFg
import Derived.Test.YtgdkddjdhijfnaaGreatDoorXTm
import Derived.Test.YtgdkddjdhijfnaaGreatDoorProg
import Derived.KernelRfl
set_option linter.all false
set_option maxRecDepth 20000
set_option maxHeartbeats 4000000
namespace Go.Proofs.YtgdkddjdhijfnaaGreatDoor.Abs
open Go Go.RowKit Go.Proofs.YtgdkddjdhijfnaaGreatDoor
inductive PostD(S:SyT)(m j d:Nat)(Γ:Gh)(M:Mc)(T:Tm):HOut->GV->Prop
 |ret {G':GV} {Γ':Gh} {M':Mc} {v:Vl} {n:Nat} (x:Gx Γ Γ') (hi:RInv S m j G' Γ' M') (mm:Mle M M') (hv:WOK Γ' v) (hr:HR (plD S.B) n T (TV Γ' v)) (hs:M'.steps<=M.steps+n) (hd:M.steps+d<=M'.steps):PostD S m j d Γ M T (.ret (vlV v)) G'
 |out {G':GV} {Γ':Gh} {M':Mc} (x:Gx Γ Γ') (hi:RInv S m j G' Γ' M') (mm:Mle M M') (h:∀N Y,HR (plD S.B) N T Y->HN (plD S.B) Y->M.most<M.steps+N):PostD S m j d Γ M T (.pan Sz) G'
 |far {G':GV} {Γ':Gh} {M':Mc} (x:Gx Γ Γ') (hi:RInv S m j G' Γ' M') (mm:Mle M M') (hg:0<M.guess):PostD S m j d Γ M T (.pan Tn) G'
section
variable{S:SyT}{m j d:Nat}{Γ Γ1:Gh}{M M1:Mc}{T U:Tm}{out:HOut}{G G':GV}
def PostD.outV(h:PostD S m j d Γ M T out G'):Ql out:=by
 cases h with
 |ret=>exact⟨_,rfl⟩
 |out=>trivial
 |far=>trivial
def PostD.of(h:Post S plW m j Γ M T out G'):PostD S m j 0 Γ M T out G':=by
 cases h with
 |ret x hi mm hv hn hr hs=>exact .ret x hi mm hv (Bal (axD _) plWD hr) hs mm.steps
 |out x hi mm h=>exact .out x hi mm (fun N Y hN hY=>by
   obtain⟨N1,w,h1,h2,h3,_⟩:=Bak axW (axD _) plWD hN hY;have:=h _ _ h2 h3;omega)
 |far x hi mm hg=>exact .far x hi mm hg
def PostD.pre{n:Nat}(hr:HR (plD S.B) n T U)(x:Gx Γ Γ1)(mm:Mle M M1)(hs:M1.steps<=M.steps+n)(hd:M.steps+d<=M1.steps)(h:PostD S m j 0 Γ1 M1 U out G'):PostD S m j d Γ M T out G':=by
 cases h with
 |ret x1 hi m1 hv Cq Fk Es=>exact .ret (x.trans x1) hi (mm.trans m1) hv (We hr Cq) (by omega) (by omega)
 |out x1 hi m1 h=>exact .out (x.trans x1) hi (mm.trans m1) (fun N Y hN hY=>by
   obtain⟨h1,h2⟩:=Aee hN hY hr;have:=h _ _ h2 hY;have:=mm.most;omega)
 |far x1 hi m1 hg=>exact .far (x.trans x1) hi (mm.trans m1) (mm.pos hg)
def PostD.kid{d':Nat}{p:Nat}{x:SV}(hp:stk T.k=some p)(hl:p<T.kids.length)(h:PostD S m j d Γ M (Ap T p) (.pan x) G'):PostD S m j d' Γ M T (.pan x) G':=by
 cases h with
 |out x1 hi m1 h=>exact .out x1 hi m1 (fun N Y hN hY=>by
   obtain⟨N1,g,h1,h2,h3,_⟩:=Aqa (axD _) hp hl hN hY;have:=h _ _ h2 h3;omega)
 |far x1 hi m1 hg=>exact .far x1 hi m1 hg
def PostD.take{W:Tm}{x:SV}(hu:HS (plD S.B) T W)(h:Zb S m j Γ M (.pan x) G'):PostD S m j d Γ M T (.pan x) G':=by
 cases h with
 |out hi m1 hm=>exact .out (.refl Γ) hi m1 (fun N Y hN hY=>by
   have:N≠0:=fun e=>by
    subst e;cases hN;exact Yg hY hu
   omega)
 |far hi m1 hg=>exact .far (.refl Γ) hi m1 hg
def Agk{v:Vl}(h:v.k≠2):(TV Γ v).kids.length=v.kids.length:=by rw[Hp h];exact Pz
def Bhv{x y:Vl}{p:Nat}(hx:VOK Γ x)(hp:stk x.k=some p)(Ef:p<x.kids.length)(hy:WOK Γ y)(hn:plW (Cd (TV Γ x) p (TV Γ y))=none) :
  WOK (Γ++[some (.dn y (TV Γ y))]) { x with kids:=x.kids.set p Γ.length }/\TV (Γ++[some (.dn y (TV Γ y))]) { x with kids:=x.kids.set p Γ.length }=Cd (TV Γ x) p (TV Γ y):=by
 have hk:=Mr hp;have h2:x.k≠2:=by omega
 have No:=hx;have hT:TV (Γ++[some (.dn y (TV Γ y))]) { x with kids:=x.kids.set p Γ.length }=Cd (TV Γ x) p (TV Γ y):=by
  rw[Hp (show ({ x with kids:=x.kids.set p Γ.length }:Vl).k≠2 from h2),Hp h2];unfold Cd;simp only[Tm.k,Tm.i,Tm.j,Tm.n,Tm.kids];congr 1;apply List.ext_getElem?;intro q;rw[Oo]
  by_cases e:p=q
  ·subst e;rw[q_jq Ef,q_jq (by rw[Pz];exact Ef),q_jh,Kr (g:=.dn y (TV Γ y)) (by simp)];rfl
  ·rw[q_jc e,q_jc e,Oo];cases hq:x.kids[q]? with
   |none=>rfl
   |some id=>
    cases No with
    |fv l _=>cases hq
    |nd _ _ _ _ hk'=>
     obtain⟨g,hg,_⟩:=hk' q id hq;simp only[q_jh];rw[(Gx.app Γ _).den hg]
 refine⟨⟨?_,?_,?_⟩,hT⟩
 ·cases hx with
  |fv l _=>exact absurd rfl h2
  |nd h2 h0 hf hl hk'=>
   refine .nd h2 h0 hf (by rw[q_ki];exact hl) (fun q id hq=>?_)
   by_cases e:p=q
   ·subst e;rw[q_jq Ef,q_b] at hq;subst hq;refine⟨.dn y (TV Γ y),by simp,?_⟩;exact⟨Agv hp,hy.ok.wf⟩
   ·rw[q_jc e] at hq;obtain⟨g,hg,ho⟩:=hk' q id hq;exact⟨g,(Gx.app _ _).get hg,ho⟩
 ·exact .step (y:=y) (p:=p) (id:=Γ.length) hp (by show (x.kids.set p Γ.length)[p]?=_;exact q_jq Ef) (by rw[El (.app _ _) hy.ok];simp) (hy.ok.mono (.app _ _)) (hy.st.mono (.app _ _))
 ·rw[hT];refine .mk hn (fun q hq=>?_);rw[Akj,TV_k h2,hp] at hq;cases hq;rw[Abk (by rw[Agk h2];exact Ef)];exact hy.hn
def Avf(hI:RInv S m j G Γ M){x y:Vl}{p:Nat}(hx:VOK Γ x)(hp:stk x.k=some p)(hy:WOK Γ y) :
  ∃out G',Am 102 G [.gp m 0,vlV x,.int .i64 p,vlV y] out G'/\PostD S m j 0 Γ M (Cd (TV Γ x) p (TV Γ y)) out G':=by
 have hk:=Mr hp;have h2:x.k≠2:=by omega
 have Hm:=hx.len h2;have Ef:p<x.kids.length:=by
  unfold stk at hp;split at hp
  ·rename_i c;cases hp;rcases c with c|c|c<;>(rw[c] at Hm;first|(rw[kids15] at Hm;omega)|(rw[kids18] at Hm;omega)|(rw[kids19] at Hm;omega))
  ·split at hp
   ·rename_i c;cases hp;rw[c,kids22] at Hm;omega
   ·cases hp
 have hTk:(Cd (TV Γ x) p (TV Γ y)).k=x.k:=by rw[Akj,TV_k h2]
 have Vq:Ap (Cd (TV Γ x) p (TV Γ y)) p=TV Γ y:=Abk (by rw[Agk h2];exact Ef);have hyk:∀c:Int,c≠0->c≠2->(TV Γ y).k=c->y.k=c:=fun c h0 hc h=>by
  by_cases e:y.k=2
  ·exact absurd (h.symm.trans (show (TV Γ y).k=0 from by unfold TV;rw[if_pos e];rfl)) h0
  ·rw[TV_k e] at h;exact h
 have Ao0:∀q,q≠p->Ap (Cd (TV Γ x) p (TV Γ y)) q=Ap (TV Γ x) q:=fun q hq=>Bbs (Ne.symm hq)
 by_cases c1:x.k=15/\y.k=14
 ·obtain⟨xk,yk⟩:=c1;have In:p=0:=by rw[xk] at hp;exact (Option.some.inj hp).symm
  subst In;obtain⟨id,g,Br,hg,ho,Kb⟩:=hy.ok.kid (p:=1) (by omega) (by rw[yk,kids14];decide);obtain⟨ia,ga,hia,Og,hoa,Pr⟩:=hx.kid (p:=1) h2 (by rw[xk,kids15];decide);rw[yk] at ho Kb;rw[xk] at hoa Pr;have b15:bnd 15 1=0:=by decide
  have b14:bnd 14 1=1:=by decide
  rw[b15] at hoa Pr;rw[b14] at ho Kb;have hu:HS plW (Cd (TV Γ x) 0 (TV Γ y)) (Bc [ga.den 0] 0 (g.den 1)):=by
   refine .here ?_;unfold plW;rw[if_pos ⟨by rw[hTk];exact xk,by rw[Vq,TV_k (by omega)];exact yk⟩,Vq,Kb,Ao0 1 (by decide),Pr]
  have Mi:=Yk (axD S.B) plWD hu;obtain⟨out,G2,t1,t2⟩:=Ux hI;cases t2 with
  |out hi2 mm2 h2=>exact⟨_,_,Als xk yk t1,.take Mi (.out hi2 mm2 h2)⟩
  |far hi2 mm2 h2=>exact⟨_,_,Als xk yk t1,.take Mi (.far hi2 mm2 h2)⟩
  |@ret _ M2 hi2 mm2 h2 h3=>
   cases g with
   |kp row=>exact ho.elim
   |dn v T=>exact absurd ho.1 (by decide)
   |cl tb eb=>
    obtain⟨th,t1',_⟩:=hi2.rows id _ hg;obtain⟨q1,q2,q3,q4,_⟩:=t1';subst q3;obtain⟨o1,o2,o3⟩:=ho;have hc:cap=1099511627776:=rfl;have Av:=q4.len;have hen:EOK Γ Γ.length (ia::th.env) (ga.den 0::eb):=q4.top.push (Dh Og) Og hoa;obtain⟨out,G3,e3,p3⟩:=An9 hi2 hen o2 (by simp only[q_jk];omega);refine⟨_,_,Ava xk yk t1 Br hia q1 q2 (by unfold fit;omega) e3 p3.outV,(PostD.of p3).pre (n:=1) (.step Mi ?_) (.refl Γ) mm2 (by omega) (by omega)⟩;rw[show (Ge.cl th.t eb).den 1=Bc eb [ga.den 0].length th.t from rfl,Aeq o1 (by intro u hu;rw[q_kj] at hu;subst hu;exact hoa.wf)];exact .refl _
 by_cases c2:x.k=18/\y.k=17
 ·obtain⟨xk,yk⟩:=c2;have In:p=0:=by rw[xk] at hp;exact (Option.some.inj hp).symm
  subst In;obtain⟨id,g,Br,hg,ho,Kb⟩:=hy.ok.kid (p:=2) (by omega) (by rw[yk,kids17];decide);rw[yk] at ho Kb;have b0:bnd 17 2=0:=by decide
  rw[b0] at ho Kb;have hu:HS plW (Cd (TV Γ x) 0 (TV Γ y)) (g.den 0):=by
   refine .here ?_;unfold plW;rw[if_neg (fun c=>absurd (hTk.symm.trans c.1) (by rw[xk];decide)),if_pos ⟨by rw[hTk];exact xk,by rw[Vq,TV_k (by omega)];exact yk⟩,Vq,Kb]
  have Mi:=Yk (axD S.B) plWD hu;obtain⟨out,G2,t1,t2⟩:=Ux hI;cases t2 with
  |out hi2 mm2 h2=>exact⟨_,_,Alt xk yk t1,.take Mi (.out hi2 mm2 h2)⟩
  |far hi2 mm2 h2=>exact⟨_,_,Alt xk yk t1,.take Mi (.far hi2 mm2 h2)⟩
  |@ret _ M2 hi2 mm2 h2 h3=>
   obtain⟨out,G3,e3,p3⟩:=q8 hi2 hg ho;exact⟨_,_,Avb xk yk t1 Br e3 p3.outV,(PostD.of p3).pre (n:=1) (.step Mi (.refl _)) (.refl Γ) mm2 (by omega) (by omega)⟩
 by_cases c3:x.k=19/\y.k=17
 ·obtain⟨xk,yk⟩:=c3;have In:p=0:=by rw[xk] at hp;exact (Option.some.inj hp).symm
  subst In;obtain⟨id,g,Br,hg,ho,Kb⟩:=hy.ok.kid (p:=3) (by omega) (by rw[yk,kids17];decide);rw[yk] at ho Kb;have b0:bnd 17 3=0:=by decide
  rw[b0] at ho Kb;have hu:HS plW (Cd (TV Γ x) 0 (TV Γ y)) (g.den 0):=by
   refine .here ?_;unfold plW;rw[if_neg (fun c=>absurd (hTk.symm.trans c.1) (by rw[xk];decide)),if_neg (fun c=>absurd (hTk.symm.trans c.1) (by rw[xk];decide)),if_pos ⟨by rw[hTk];exact xk,by rw[Vq,TV_k (by omega)];exact yk⟩,Vq,Kb]
  have Mi:=Yk (axD S.B) plWD hu;obtain⟨out,G2,t1,t2⟩:=Ux hI;cases t2 with
  |out hi2 mm2 h2=>exact⟨_,_,Alv xk yk t1,.take Mi (.out hi2 mm2 h2)⟩
  |far hi2 mm2 h2=>exact⟨_,_,Alv xk yk t1,.take Mi (.far hi2 mm2 h2)⟩
  |@ret _ M2 hi2 mm2 h2 h3=>
   obtain⟨out,G3,e3,p3⟩:=q8 hi2 hg ho;exact⟨_,_,Ave xk yk t1 Br e3 p3.outV,(PostD.of p3).pre (n:=1) (.step Mi (.refl _)) (.refl Γ) mm2 (by omega) (by omega)⟩
 by_cases c4:x.k=22/\y.k=21
 ·obtain⟨xk,yk⟩:=c4;have In:p=5:=by rw[xk] at hp;exact (Option.some.inj hp).symm
  subst In;obtain⟨id,g,Br,hg,ho,Kb⟩:=hx.kid (p:=3) h2 (by rw[xk,kids22];decide);rw[xk] at ho Kb;have b0:bnd 22 3=0:=by decide
  rw[b0] at ho Kb;have hu:HS plW (Cd (TV Γ x) 5 (TV Γ y)) (g.den 0):=by
   refine .here ?_;unfold plW;rw[if_neg (fun c=>absurd (hTk.symm.trans c.1) (by rw[xk];decide)),if_neg (fun c=>absurd (hTk.symm.trans c.1) (by rw[xk];decide)),if_neg (fun c=>absurd (hTk.symm.trans c.1) (by rw[xk];decide)),if_pos ⟨by rw[hTk];exact xk,by rw[Vq,TV_k (by omega)];exact yk⟩,Ao0 3 (by decide),Kb]
  have Mi:=Yk (axD S.B) plWD hu;obtain⟨out,G2,t1,t2⟩:=Ux hI;cases t2 with
  |out hi2 mm2 h2=>exact⟨_,_,Alu xk yk t1,.take Mi (.out hi2 mm2 h2)⟩
  |far hi2 mm2 h2=>exact⟨_,_,Alu xk yk t1,.take Mi (.far hi2 mm2 h2)⟩
  |@ret _ M2 hi2 mm2 h2 h3=>
   obtain⟨out,G3,e3,p3⟩:=q8 hi2 hg ho;exact⟨_,_,Avc xk yk t1 Br e3 p3.outV,(PostD.of p3).pre (n:=1) (.step Mi (.refl _)) (.refl Γ) mm2 (by omega) (by omega)⟩
 have Dx:plW (Cd (TV Γ x) p (TV Γ y))=none:=by
  unfold plW;have kp:∀q c,stk x.k=some q->(Ap (Cd (TV Γ x) p (TV Γ y)) q).k=c->(TV Γ y).k=c:=fun q c hq h=>by
   rw[hp] at hq;cases hq;rwa [Vq] at h
  rw[if_neg (fun c=>?_),if_neg (fun c=>?_),if_neg (fun c=>?_),if_neg (fun c=>?_)]
  ·obtain⟨a,b⟩:=c;rw[hTk] at a;exact c4 ⟨a,hyk _ (by decide) (by decide) (kp 5 _ (by rw[a];decide) b)⟩
  ·obtain⟨a,b⟩:=c;rw[hTk] at a;exact c3 ⟨a,hyk _ (by decide) (by decide) (kp 0 _ (by rw[a];decide) b)⟩
  ·obtain⟨a,b⟩:=c;rw[hTk] at a;exact c2 ⟨a,hyk _ (by decide) (by decide) (kp 0 _ (by rw[a];decide) b)⟩
  ·obtain⟨a,b⟩:=c;rw[hTk] at a;exact c1 ⟨a,hyk _ (by decide) (by decide) (kp 0 _ (by rw[a];decide) b)⟩
 obtain⟨w1,w2⟩:=Bhv hx hp Ef hy Dx;have hi:=hI.pushDn hy;rw[<-hI.len] at w1 w2;have Ck:=Py x.k x.n;exact⟨_,_,Avd ⟨c1,c2,c3,c4⟩ hp Ef (by omega),.ret (n:=0) (.app _ _) hi (.refl M) w1 (by rw[w2];exact .refl _) (by omega) (by omega)⟩
def bnd23(p:Nat):bnd 23 p=0:=by unfold bnd Cf;rw[if_neg (by decide),if_neg (by decide),if_neg (by decide)];rfl
def EOK.kids{x:Vl}(hx:VOK Γ x)(hk:x.k=23):EOK Γ Γ.length x.kids.reverse (Ec Γ 23 0 x.kids).reverse:=by
 refine⟨by simp[Pz],fun q i hq=>?_⟩;have Ag:=Dh hq;rw[List.length_reverse] at Ag;rw[List.getElem?_reverse Ag] at hq;cases hx with
 |fv l _=>cases hq
 |nd h2 h0 hf hl hk'=>
  simp only at hk hq Ag;subst hk;obtain⟨g,hg,ho⟩:=hk' _ i hq;rw[bnd23] at ho;refine⟨Dh hg,g,hg,ho,?_⟩;rw[List.getElem?_reverse (by rw[Pz];exact Ag),Pz,Oo,hq,q_jh,bnd23,Kr hg]
def Aj2(L:Lib S){v:Vl}(hw:Wts S Γ v):∀{G:GV} {M:Mc},RInv S m j G Γ M->VOK Γ v->∃out G',Am 82 G [.gp m 0,vlV v] out G'/\PostD S m j 1 Γ M (TV Γ v) out G':=by
 induction hw with
 |@use v s hk hs hd=>
  intro G M hI hv;have h2:v.k≠2:=by omega
  obtain⟨f1,f2,f3⟩:=hv.num;have hl:=hv.len h2;rw[hk] at hl;have hr:=Akx (n:=v.n) (by omega);have Oe:=Py 23 v.n;obtain⟨bS,bD⟩:=L.bd _ _ _ s hs hd;have hu:HS (plD S.B) (TV Γ v) (Bc (Ec Γ 23 0 v.kids).reverse 0 s.bd):=by
   refine .here ?_;unfold plD;rw[if_pos (by rw[TV_k h2];exact hk),Hp h2,hk];show Option.map _ (S.B v.n v.i v.j)=_;unfold SyT.B;rw[hs];simp only[Option.bind_some,hd,if_true,q_jh];rfl
  obtain⟨out,G2,t1,t2⟩:=Ux hI;cases t2 with
  |out hi2 mm2 h2=>exact⟨_,_,Asc hk t1,.take hu (.out hi2 mm2 h2)⟩
  |far hi2 mm2 h2=>exact⟨_,_,Asc hk t1,.take hu (.far hi2 mm2 h2)⟩
  |@ret _ M2 hi2 mm2 Wg h3=>
   obtain⟨r,G3,Γ3,s1,x3,i3,_,s3⟩:=Aua L hi2 f3 f1 f2;obtain⟨id,rfl,Cc⟩:=s3 s hs;have hc:cap=1099511627776:=rfl;have hE:EOK Γ3 Γ3.length v.kids.reverse (Ec Γ 23 0 v.kids).reverse:=(EOK.kids hv hk).mono x3 x3.len;obtain⟨out,G4,e4,p4⟩:=An9 i3 hE ⟨_,bS,by omega⟩ (by simp only[List.length_reverse,Pz];omega);refine⟨_,_,Bei hk (by intro e;rw[e] at hl;simp at hl;omega) (by omega) t1 s1 Cc e4 p4.outV,(PostD.of p4).pre (n:=1) (.step hu (.refl _)) x3 mm2 (by omega) (by omega)⟩
 |@step v y p id hp Br hg hvy hy ih=>
  intro G M hI hv;obtain⟨th,t1,t2,t3,t4,t5⟩:=hI.dn hg;have hk:=Mr hp;have h2:v.k≠2:=by omega
  have Oi:Ap (TV Γ v) p=TV Γ y:=by rw[Agj h2 Br,Kr hg];rfl
  have Ef:p<(TV Γ v).kids.length:=by rw[Agk h2];exact Dh Br
  obtain⟨out,G1,o1,p1⟩:=ih hI hvy;cases p1 with
  |out x hi mm h=>exact⟨_,_,Asb hp Br t1 t3 o1,.kid (p:=p) (d:=1) (by rw[TV_k h2];exact hp) Ef (by rw[Oi];exact .out x hi mm h)⟩
  |far x hi mm h=>exact⟨_,_,Asb hp Br t1 t3 o1,.kid (p:=p) (d:=1) (by rw[TV_k h2];exact hp) Ef (by rw[Oi];exact .far x hi mm h)⟩
  |@ret _ Γ1 M1 y' n x hi mm Bq hr hs hd=>
   obtain⟨out,G2,a1,q1⟩:=Avf hi (hv.mono x) hp Bq;rw[El x hv] at q1;refine⟨_,_,Beh hp Br t1 t3 o1 a1 q1.outV,q1.pre (n:=n) ?_ x mm hs hd⟩;exact Aa7 (axD _) hr (by rw[TV_k h2];exact hp) Ef Oi
def Bae(L:Lib S):∀(F:Nat) {G:GV} {Γ:Gh} {M:Mc} {v:Vl},M.most<=M.steps+F->RInv S m j G Γ M->WOK Γ v->∃out G',HdR m G v out G'/\Post S (plD S.B) m j Γ M (TV Γ v) out G':=by
 intro F
 induction F with
 |zero=>
  intro G Γ M v hF hI hv;obtain⟨n,G1,Γ1,s1,x1,i1,h0,h1,_⟩:=Af5 L hv.st hI hv.ok
  by_cases hn:n=0
  ·subst hn;refine⟨_,_,.stop (Tx (s1 _ rfl)),.ret (n:=0) x1 i1 (.refl M) (hv.mono x1) ?_ ?_ (by omega)⟩
   ·rw[El x1 hv.ok];exact h0 rfl hv.hn
   ·rw[El x1 hv.ok];exact .refl _
  ·obtain⟨out,G2,o1,p1⟩:=Aj2 L ((h1 hn).mono x1) i1 (hv.ok.mono x1);rw[El x1 hv.ok] at p1;cases p1 with
   |out x hi mm h=>exact⟨_,_,.pan (Tx (s1 _ rfl)) hn o1,.out (x1.trans x) hi mm h⟩
   |far x hi mm h=>exact⟨_,_,.pan (Tx (s1 _ rfl)) hn o1,.far (x1.trans x) hi mm h⟩
   |ret x hi mm Bq hr hs hd=>
    have:=hi.st;have:=mm.most;omega
 |succ F ih=>
  intro G Γ M v hF hI hv;obtain⟨n,G1,Γ1,s1,x1,i1,h0,h1,_⟩:=Af5 L hv.st hI hv.ok
  by_cases hn:n=0
  ·subst hn;refine⟨_,_,.stop (Tx (s1 _ rfl)),.ret (n:=0) x1 i1 (.refl M) (hv.mono x1) ?_ ?_ (by omega)⟩
   ·rw[El x1 hv.ok];exact h0 rfl hv.hn
   ·rw[El x1 hv.ok];exact .refl _
  ·obtain⟨out,G2,o1,p1⟩:=Aj2 L ((h1 hn).mono x1) i1 (hv.ok.mono x1);rw[El x1 hv.ok] at p1;cases p1 with
   |out x hi mm h=>exact⟨_,_,.pan (Tx (s1 _ rfl)) hn o1,.out (x1.trans x) hi mm h⟩
   |far x hi mm h=>exact⟨_,_,.pan (Tx (s1 _ rfl)) hn o1,.far (x1.trans x) hi mm h⟩
   |@ret _ Γ2 M2 v' k x hi mm Bq hr hs hd=>
    have:=mm.most;obtain⟨out,G3,d3,p3⟩:=ih (by omega) hi Bq;exact⟨_,_,.step (Tx (s1 _ rfl)) hn o1 d3,p3.pre hr (x1.trans x) mm hs⟩
def Bag(L:Lib S)(hI:RInv S m j G Γ M){id:Nat}{g:Ge}(hg:Γ[id]?=some (some g))(ho:g.Ok 0) :
  ∃out G',Am 53 G [.gp m 0,.gp id 0] out G'/\Post S (plD S.B) m j Γ M (g.den 0) out G':=by
 obtain⟨th,t1,t2⟩:=hI.rows id g hg;cases hv:th.v with
 |some v=>
  obtain⟨w,hn,n,hr⟩:=t2 v hv;exact⟨_,_,Bad (t1.row ho) hv,.ret (.refl Γ) hI (.refl M) w hn hr (by omega)⟩
 |none=>
  obtain⟨out,G1,w1,p1⟩:=q8 hI hg ho;have p1:=PostD.of p1;cases p1 with
  |out x hi mm h=>exact⟨_,_,Apm (t1.row ho) hv w1,.out x hi mm h⟩
  |far x hi mm h=>exact⟨_,_,Apm (t1.row ho) hv w1,.far x hi mm h⟩
  |@ret _ Γ1 M1 v n x hi mm Bq hr hs hd=>
   obtain⟨out,G2,d2,p2⟩:=Bae L M1.most (by omega) hi Bq;have p3:=p2.pre hr x mm hs;cases p3 with
   |out x hi mm h=>exact⟨_,_,Apn (t1.row ho) hv w1 d2,.out x hi mm h⟩
   |far x hi mm h=>exact⟨_,_,Apn (t1.row ho) hv w1 d2,.far x hi mm h⟩
   |@ret _ Γ3 M3 v3 n3 x3 hi3 mm3 hv3 j0 Yj Uf=>
    obtain⟨th1,u1,u2⟩:=hi3.rows id g (x3.get hg);refine⟨_,_,Baf (t1.row ho) hv w1 d2 (u1.row ho),.ret x3 (hi3.set (x3.get hg) ?_ ?_) mm3 hv3 j0 Yj Uf⟩
    ·cases g with
     |kp row=>exact ho.elim
     |cl t es=>obtain⟨q1,q2,q3,q4,q5⟩:=u1;exact⟨Ex q1,q2,q3,q4,q5⟩
     |dn y T=>obtain⟨q1,q2,q3,q4,q5⟩:=u1;exact⟨Ex q1,q2,q3,q4,q5⟩
    ·intro w hw;simp only[q_b] at hw;subst hw;exact⟨hv3,j0,_,Yj⟩
end
def A9q{G:GV}{id:Nat}{th:Th}(Jf:G[id]?=some (thR th))(hb:th.bare=false)(deep:Int)(hd:fit deep)(Es:fit (deep+1))(hl:fit ((th.env.length:Int)+2)) :
  Am 56 G [.gp id 0,.int .i64 deep,.int .i64 2] (.ret (.gp (G.length+2) 0)) (G++[Eo (some ⟨2,0,0,0,deep,[]⟩) none,Eo (some ⟨2,0,0,0,deep+1,[]⟩) none,thR ⟨th.t,(G.length+1)::G.length::th.env,false,none,none⟩]):=by
 obtain⟨out,ho⟩:∃out,out=HOut.ret (.gp (G.length+2) 0):=⟨_,rfl⟩
 obtain⟨G',Ng⟩:∃G',G'=G++[Eo (some ⟨2,0,0,0,deep,[]⟩) none,Eo (some ⟨2,0,0,0,deep+1,[]⟩) none,thR ⟨th.t,(G.length+1)::G.length::th.env,false,none,none⟩]:=⟨_,rfl⟩
 rw[<-ho,<-Ng];refine Bh mixed Tryz.func56 tr56 ?_;obtain⟨t,te,b,w,v⟩:=th;simp only at hb hl Ng;subst hb;have Ag:=Dh Jf
 repeat' first
 |simp only[go_sem,seval,Jf,Int.add_zero,w64 hd]
 |refine Cv 3 (Bd ?_)
 |refine Ai (Aal G deep) ?_
 refine Af (Zm te _ (by unfold fit at hl |-;omega)) ?_;simp only[go_sem,seval];refine Bd ?_;simp only[go_sem,seval,w64 Es];refine Ai (Aal _ (deep+1)) ?_;simp only[go_sem,seval];refine Af (Zm (G.length::te) _ (by unfold fit at hl |-;simp only[q_jk];omega)) ?_;simp only[go_sem,seval];refine Bd ?_;have h2:∀x y:List SV,(G++[x]++[y])[id]?=some (thR ⟨t,te,false,w,v⟩):=fun x y=>by rw[q_ju,q_jf Ag];exact Jf
 simp only[go_sem,seval,h2];refine Ai (Zx _ t _) ?_;subst ho Ng;simp only[go_sem,seval,q_ju,q_jr]
def Am4(i:Int):Con 59 [.int .i64 i] (.agg true (tv (.mk 2 i 0 0 []))):=by
 refine (Au (r:=.agg true [.int .i64 2,.int .i64 i,.int .i64 0,.int .i64 0,.nils]) mixed Tryz.func59 tr59 ?_).weaken (Su _ _ _ _);simp only[go_sem,seval]
def A1x(l d:Int)(h1:fit (d-1))(h2:fit (d-1-l)):Con 54 [.int .i64 l,.int .i64 d] (.agg true (tv (.mk 2 (d-1-l) 0 0 []))):=by
 refine Au mixed Tryz.func54 tr54 ?_;simp only[go_sem,seval,w64 h1,w64 h2];refine Af (Am4 _) ?_;rw[As];simp only[go_sem,seval]
inductive UnR(deep:Int)(b:Nat):GV->Nat->Nat->GV->Prop
 |no {G:GV} {id:Nat} (hb:b=0):UnR deep b G id id G
 |yes {G G1:GV} {id id':Nat} (hb:0<b) (h:Am 56 G [.gp id 0,.int .i64 deep,.int .i64 b] (.ret (.gp id' 0)) G1):UnR deep b G id id' G1
inductive QkR(m:Nat)(deep:Int)(k:Int):Nat->GV->List Nat->(List Tm ⊕ SV)->GV->Prop
 |nil {p:Nat} {G:GV}:QkR m deep k p G [] (.inl []) G
 |pan {p:Nat} {G G1 G2:GV} {id id':Nat} {l:List Nat} {u:SV} (hu:UnR deep (bnd k p) G id id' G1) (hq:Am 34 G1 [.gp m 0,.gp id' 0,.int .i64 (deep+bnd k p)] (.pan u) G2):QkR m deep k p G (id::l) (.inr u) G2
 |cons {p:Nat} {G G1 G2 G3:GV} {id id':Nat} {l:List Nat} {r:Tm} {rs:List Tm} (hu:UnR deep (bnd k p) G id id' G1) (hq:Am 34 G1 [.gp m 0,.gp id' 0,.int .i64 (deep+bnd k p)] (.ret (.agg true (tv r))) G2) (h:QkR m deep k (p+1) G2 l (.inl rs) G3):QkR m deep k p G (id::l) (.inl (r::rs)) G3
 |cpan {p:Nat} {G G1 G2 G3:GV} {id id':Nat} {l:List Nat} {r:Tm} {u:SV} (hu:UnR deep (bnd k p) G id id' G1) (hq:Am 34 G1 [.gp m 0,.gp id' 0,.int .i64 (deep+bnd k p)] (.ret (.agg true (tv r))) G2) (h:QkR m deep k (p+1) G2 l (.inr u) G3):QkR m deep k p G (id::l) (.inr u) G3
def Zi(k:Int)(p:Nat):Cf k p=((bnd k p:Nat):Int):=by unfold bnd;have:=Qq k p;omega
def Pg(k:Int)(p:Nat):bnd k p<=2:=by unfold bnd;have:=Qq k p;omega
def qS(m id:Nat)(deep:Int)(v:Vl)(i:Nat)(b:SV)(G:GV):List Tm->St
 |[]=>⟨(.gp m 0::.gp id 0::.int .i64 deep::.J::.J::.J::.ref 1 0 0 0::vlV v::.ref 2 0 0 0::Bo (jk4 (jk2 (.J::Ms v.kids::.int .i64 v.kids.length::.int .i64 i::b::Do (jk8 (jk4 ([]))))))),[gOb G,⟨true,5,[[.int .i64 0,.int .i64 0,.int .i64 0,.int .i64 0,.nils]],0,0,true⟩,⟨true,5,[[.int .i64 v.k,.int .i64 v.i,.int .i64 v.j,.int .i64 v.n,.nils]],0,0,true⟩]⟩
 |t::ts=>⟨(.gp m 0::.gp id 0::.int .i64 deep::.J::.J::.J::.ref 1 0 0 0::vlV v::.ref 2 0 0 0::Bo (jk4 (jk2 (.J::Ms v.kids::.int .i64 v.kids.length::.int .i64 i::b::Do (jk8 (jk4 ([]))))))),[gOb G,⟨true,5,[[.int .i64 0,.int .i64 0,.int .i64 0,.int .i64 0,.nils]],0,0,true⟩,⟨true,5,[[.int .i64 v.k,.int .i64 v.i,.int .i64 v.j,.int .i64 v.n,.osl 4 ts.length 0 (ts.length+1)]],0,0,false⟩,⟨false,5,[tv t],0,0,true⟩,⟨false,5,(t::ts).map tv,ts.length,ts.length,true⟩]⟩
def qS_0{m id:Nat}{deep:Int}{v:Vl}{i:Nat}{b:SV}{G:GV}:qS m id deep v i b G []=⟨(.gp m 0::.gp id 0::.int .i64 deep::.J::.J::.J::.ref 1 0 0 0::vlV v::.ref 2 0 0 0::Bo (jk4 (jk2 (.J::Ms v.kids::.int .i64 v.kids.length::.int .i64 i::b::Do (jk8 (jk4 ([]))))))),[gOb G,⟨true,5,[[.int .i64 0,.int .i64 0,.int .i64 0,.int .i64 0,.nils]],0,0,true⟩,⟨true,5,[[.int .i64 v.k,.int .i64 v.i,.int .i64 v.j,.int .i64 v.n,.nils]],0,0,true⟩]⟩:=q_z
def qS_1{m id:Nat}{deep:Int}{v:Vl}{i:Nat}{b:SV}{G:GV}{t:Tm}{ts:List Tm}:qS m id deep v i b G (t::ts)=⟨(.gp m 0::.gp id 0::.int .i64 deep::.J::.J::.J::.ref 1 0 0 0::vlV v::.ref 2 0 0 0::Bo (jk4 (jk2 (.J::Ms v.kids::.int .i64 v.kids.length::.int .i64 i::b::Do (jk8 (jk4 ([]))))))),[gOb G,⟨true,5,[[.int .i64 0,.int .i64 0,.int .i64 0,.int .i64 0,.nils]],0,0,true⟩,⟨true,5,[[.int .i64 v.k,.int .i64 v.i,.int .i64 v.j,.int .i64 v.n,.osl 4 ts.length 0 (ts.length+1)]],0,0,false⟩,⟨false,5,[tv t],0,0,true⟩,⟨false,5,(t::ts).map tv,ts.length,ts.length,true⟩]⟩:=q_z
def Am3(k:Int)(p:Nat):Con 55 [.int .i64 k,.int .i64 p] (.int .i64 (bnd k p:Nat)):=by rw[<-Zi];exact Am1 k p
def Ake{m id n:Nat}{deep:Int}{v:Vl}{X:SV->GV->Prop}{Q:AE->St->Prop}(Av:v.kids.length<=100)(Rc:fit deep/\fit (deep+2)){p i i':Nat}{G G1 G2:GV}{out:HOut}{done:List Tm}(hd:done.length<=100)(hi:v.kids[p]?=some i)
  (hu:UnR deep (bnd v.k p) G i i' G1) (hq:Am 34 G1 [.gp m 0,.gp i' 0,.int .i64 (deep+bnd v.k p)] out G2)
  (ho:(∃r,out=.ret (.agg true (tv r))/\vcI (Bp Tryz.prog X) a34_26 Q n (qS m id deep v (p+1) .J G2 (done++[r])))\/∃u,out=.pan u/\X u G2) :
  vcI (Bp Tryz.prog X) a34_26 Q (n+1) (qS m id deep v p .J G done):=by
 obtain⟨k1,k2,k3,k4⟩:=Gq hi;have e0:(0:Int)<=(p:Int):=by omega
 have Dc:=Pg v.k p;have hw:IntKind.i64.wrap (deep+(bnd v.k p:Nat))=deep+(bnd v.k p:Nat):=w64 (by unfold fit at Rc |-;omega);have Ki:IntKind.i64.wrap ((p:Int)+1)=((p+1:Nat):Int):=by rw[w64 (by unfold fit;omega)];omega
 have Ef:(p:Int)<v.kids.length:=k2;have hcb:=Am3 v.k p;generalize bnd v.k p=b at *
 refine Bd ?_;cases done with
 |nil=>
  rw[qS_0];simp only[go_sem,seval,vlV,k1,k3,k4,Ef,e0,q_g];refine Af hcb ?_;cases hu with
  |no hb=>
   subst hb;have hz:deep+((0:Nat):Int)=deep:=by omega
   have Du:deep+(0:Int)=deep:=by omega
   rw[hz] at hq hw;simp only[go_sem,seval,Du,hw];rcases ho with⟨r,rfl,this⟩|⟨u,rfl,hx⟩
   ·refine Ai hq ?_;rw[q_kn,qS_1] at this;simp only[go_sem,seval,Ki,Ef,k1,vlV] at this |-;exact Dl (Bk (by simp[Ba])) this
   ·exact Db hq trivial hx
  |yes hb hu=>
   have Dg:(b:Int) > 0:=by omega
   simp only[go_sem,seval,Dg,q_jn Dg,hw];refine Ai hu ?_;simp only[go_sem,seval,hw];rcases ho with⟨r,rfl,this⟩|⟨u,rfl,hx⟩
   ·refine Ai hq ?_;rw[q_kn,qS_1] at this;simp only[go_sem,seval,Ki,Ef,k1,vlV] at this |-;exact Dl (Bk (by simp[Ba])) this
   ·exact Db hq trivial hx
 |cons d ds=>
  rw[qS_1];simp only[q_jk] at hd;have Apg:(ds.length+1+1)*56<=140737488355328:=by omega
  have Aph:ds.length+1+1<=140737488355328:=by omega
  simp only[go_sem,seval,vlV,k1,k3,k4,Ef,e0,q_g];refine Af hcb ?_;cases hu with
  |no hb=>
   subst hb;have hz:deep+((0:Nat):Int)=deep:=by omega
   have Du:deep+(0:Int)=deep:=by omega
   rw[hz] at hq hw;simp only[go_sem,seval,Du,hw];rcases ho with⟨r,rfl,this⟩|⟨u,rfl,hx⟩
   ·refine Ai hq ?_;rw[q_ko,qS_1] at this;simp only[go_sem,seval,Ki,Ef,k1,vlV,Apg,Aph,q_g,q_ku] at this |-;exact Dl (Fp 5 (by simp[Ba]) (by simp) (by simp[Cx]) (by simp[Cx,gOb])) this
   ·exact Db hq trivial hx
  |yes hb hu=>
   have Dg:(b:Int) > 0:=by omega
   simp only[go_sem,seval,Dg,q_jn Dg,hw];refine Ai hu ?_;simp only[go_sem,seval,hw];rcases ho with⟨r,rfl,this⟩|⟨u,rfl,hx⟩
   ·refine Ai hq ?_;rw[q_ko,qS_1] at this;simp only[go_sem,seval,Ki,Ef,k1,vlV,Apg,Aph,q_g,q_ku] at this |-;exact Dl (Fp 5 (by simp[Ba]) (by simp) (by simp[Cx]) (by simp[Cx,gOb])) this
   ·exact Db hq trivial hx
def Bgk{m id:Nat}{deep:Int}{v:Vl}{X:SV->GV->Prop}{Q:AE->St->Prop}{G:GV}{done:List Tm}(hq:Q (.exit 0) (qS m id deep v v.kids.length (.bool false) G done)) :
  vcI (Bp Tryz.prog X) a34_26 Q 1 (qS m id deep v v.kids.length .J G done):=by
 refine Bd ?_;cases done with
 |nil=>
  rw[qS_0] at hq |-;simp only[go_sem,seval,q_je (show ¬((v.kids.length:Nat):Int)<v.kids.length by omega)];exact hq
 |cons d ds=>
  rw[qS_1] at hq |-;simp only[go_sem,seval,q_je (show ¬((v.kids.length:Nat):Int)<v.kids.length by omega)];simp only[go_sem,seval] at hq;exact hq
def y9{l:List Nat}{p i:Nat}{r:List Nat}(h:l.drop p=i::r):l[p]?=some i/\l.drop (p+1)=r/\p<l.length:=by
 have h1:l[p]?=some i:=by have:=congrArg (fun l=>l[0]?) h;simpa using this
 refine⟨h1,?_,Dh h1⟩;have:=congrArg (List.drop 1) h
 rwa [List.drop_drop] at this
def As9{m id:Nat}{deep:Int}{v:Vl}{X:SV->GV->Prop}{Q:AE->St->Prop}(Av:v.kids.length<=100)(Rc:fit deep/\fit (deep+2)) :
  ∀{p:Nat} {G:GV} {l:List Nat} {out:List Tm ⊕ SV} {G':GV},QkR m deep v.k p G l out G'->∀done:List Tm,done.length=p->p<=v.kids.length->v.kids.drop p=l ->
  (∀rs,out=.inl rs->Q (.exit 0) (qS m id deep v v.kids.length (.bool false) G' (done++rs)))->(∀u,out=.inr u->X u G') ->
  ∃n,vcI (Bp Tryz.prog X) a34_26 Q n (qS m id deep v p .J G done):=by
 intro p G l out G' h
 induction h with
 |@nil p G=>
  intro done hd hpv hl hq hx;have hp:v.kids.length<=p:=List.drop_eq_nil_iff.1 hl;have:=hq [] rfl;rw[q_k] at this;have e:p=v.kids.length:=by omega
  subst e;exact⟨1,Bgk this⟩
 |@pan p G G1 G2 i i' l u hu Sn=>
  intro done hd hpv hl hq hx;obtain⟨h1,h2,h3⟩:=y9 hl;exact⟨_,Ake (n:=0) Av Rc (by omega) h1 hu Sn (.inr ⟨u,rfl,hx _ rfl⟩)⟩
 |@cons p G G1 G2 G3 i i' l r rs hu Sn h ih=>
  intro done hd hpv hl hq hx;obtain⟨h1,h2,h3⟩:=y9 hl;obtain⟨n,hn⟩:=ih (done++[r]) (by simp[hd]) h3 h2 (fun rs' e=>by cases e;have:=hq _ rfl;rwa [List.append_cons] at this) (fun u e=>by cases e);exact⟨_,Ake (n:=n) Av Rc (by omega) h1 hu Sn (.inl ⟨r,rfl,hn⟩)⟩
 |@cpan p G G1 G2 G3 i i' l r u hu Sn h ih=>
  intro done hd hpv hl hq hx;obtain⟨h1,h2,h3⟩:=y9 hl;obtain⟨n,hn⟩:=ih (done++[r]) (by simp[hd]) h3 h2 (fun rs' e=>by cases e) (fun u' e=>by cases e;exact hx _ rfl);exact⟨_,Ake (n:=n) Av Rc (by omega) h1 hu Sn (.inl ⟨r,rfl,hn⟩)⟩
section
variable{G G1 G2 G3:GV}{m id:Nat}{deep:Int}{v:Vl}{u:SV}
def Afl(h:Am 52 G [.gp m 0] (.pan u) G1):Am 34 G [.gp m 0,.gp id 0,.int .i64 deep] (.pan u) G1:=by
 refine Bh mixed Tryz.func34 tr34 ?_;simp only[go_sem,seval];exact Db h trivial ⟨rfl,rfl⟩
def Atb(h:Am 52 G [.gp m 0] (.ret (.tup [])) G1)(hh:Am 53 G1 [.gp m 0,.gp id 0] (.pan u) G2):Am 34 G [.gp m 0,.gp id 0,.int .i64 deep] (.pan u) G2:=by
 refine Bh mixed Tryz.func34 tr34 ?_;simp only[go_sem,seval];refine Ai h ?_;simp only[go_sem,seval];exact Db hh trivial ⟨rfl,rfl⟩
def Bgp(h:Am 52 G [.gp m 0] (.ret (.tup [])) G1)(hh:Am 53 G1 [.gp m 0,.gp id 0] (.ret (vlV v)) G2)(hk:v.k=2)(h1:fit (deep-1))(h2:fit (deep-1-v.level)) :
  Am 34 G [.gp m 0,.gp id 0,.int .i64 deep] (.ret (.agg true (tv (.mk 2 (deep-1-v.level) 0 0 [])))) G2:=by
 refine Bh mixed Tryz.func34 tr34 ?_
 repeat' first
 |simp only[go_sem,seval,vlV,hk]
 |refine Ai h ?_
 |refine Ai hh ?_
 refine Af (A1x v.level deep h1 h2) ?_;rw[As];simp only[go_sem,seval]
def Atc(h:Am 52 G [.gp m 0] (.ret (.tup [])) G1)(hh:Am 53 G1 [.gp m 0,.gp id 0] (.ret (vlV v)) G2)(hk:v.k≠2)(Bn:v.kids≠[])(Av:v.kids.length<=100)(Rc:fit deep/\fit (deep+2))(hq:QkR m deep v.k 0 G2 v.kids (.inr u) G3) :
  Am 34 G [.gp m 0,.gp id 0,.int .i64 deep] (.pan u) G3:=by
 refine Bh mixed Tryz.func34 tr34 ?_
 repeat' first
 |simp only[go_sem,seval,vlV,Ao hk,Mt Bn,q_g]
 |refine Ai h ?_
 |refine Ai hh ?_
 refine fun _=>?_
 refine Exists.elim (As9 (id:=id) (X:=fun x G1=>HOut.pan u=.pan x/\G1=G3) (Q:=bk 0 (sq (Bp Tryz.prog fun x G1=>HOut.pan u=.pan x/\G1=G3) a34_31 (rtG [.cell 6 true 5] (.pan u) G3))) Av Rc hq [] rfl (Nat.zero_le _) (by simp) (fun rs e=>by cases e) (fun u' e=>by cases e;exact⟨rfl,rfl⟩)) (fun n hn=>?_);rw[qS_0] at hn;simp only[go_sem,seval] at hn;exact Cv n (Dl (Bk (by simp[Ba,vlV,Mt Bn])) hn)
def Bgo{rs:List Tm}(h:Am 52 G [.gp m 0] (.ret (.tup [])) G1)(hh:Am 53 G1 [.gp m 0,.gp id 0] (.ret (vlV v)) G2)(hk:v.k≠2)(Bn:v.kids≠[])(Av:v.kids.length<=100)(Rc:fit deep/\fit (deep+2))(hq:QkR m deep v.k 0 G2 v.kids (.inl rs) G3)(hrs:rs≠[]) :
  Am 34 G [.gp m 0,.gp id 0,.int .i64 deep] (.ret (.agg true (tv (.mk v.k v.i v.j v.n rs)))) G3:=by
 obtain⟨out,ho⟩:∃out,out=HOut.ret (.agg true (tv (.mk v.k v.i v.j v.n rs))):=⟨_,rfl⟩
 rw[<-ho];refine Bh mixed Tryz.func34 tr34 ?_
 repeat' first
 |simp only[go_sem,seval,vlV,Ao hk,Mt Bn,q_g]
 |refine Ai h ?_
 |refine Ai hh ?_
 refine fun _=>?_
 refine Exists.elim (As9 (id:=id) (X:=fun x G1=>out=.pan x/\G1=G3) (Q:=bk 0 (sq (Bp Tryz.prog fun x G1=>out=.pan x/\G1=G3) a34_31 (rtG [.cell 6 true 5] out G3))) Av Rc hq [] rfl (Nat.zero_le _) (by simp) (fun rs' e=>?_) (fun u' e=>by cases e)) (fun n hn=>?_)
 ·cases e;subst ho;rw[q_kn];cases rs with
  |nil=>exact absurd rfl hrs
  |cons r ts=>
   rw[qS_1,As];simp only[go_sem,seval];rw[q_js (by simp)]
 rw[qS_0] at hn;simp only[go_sem,seval] at hn;exact Cv n (Dl (Bk (by simp[Ba,vlV,Mt Bn])) hn)
def Bgn(h:Am 52 G [.gp m 0] (.ret (.tup [])) G1)(hh:Am 53 G1 [.gp m 0,.gp id 0] (.ret (vlV v)) G2)(hk:v.k≠2)(hl:v.kids=[]) :
  Am 34 G [.gp m 0,.gp id 0,.int .i64 deep] (.ret (.agg true (tv (.mk v.k v.i v.j v.n [])))) G2:=by
 refine (Bh (out:=.ret (.agg true [.int .i64 v.k,.int .i64 v.i,.int .i64 v.j,.int .i64 v.n,.nils])) mixed Tryz.func34 tr34 ?_).weaken (Su _ _ _ _)
 repeat' first
 |simp only[go_sem,seval,vlV,Ao hk,hl,Ab6,q_i]
 |refine Ai h ?_
 |refine Ai hh ?_
 |refine Cv 1 (Bd ?_)
end
def Ea(d:Nat):Nat->List Tm
 |0=>[]
 |n+1=>fT ((d+n:Nat):Int)::Ea d n
def Aom(d n:Nat):∀u∈Ea d n,Wf 0 u:=by
 induction n with
 |zero=>intro u hu;cases hu
 |succ n ih=>
  intro u hu;rcases q_kb.1 hu with rfl|hu
  ·exact .fv _ _
  ·exact ih u hu
mutual
def tsz:Tm->Nat
 |.mk _ _ _ _ l=>1+Aga l
def Aga:List Tm->Nat
 |[]=>0
 |t::l=>tsz t+Aga l
end
def Bjm:∀l:List Tm,Aga l=(l.map tsz).sum:=by
 intro l
 induction l with
 |nil=>rfl
 |cons t l ih=>rw[Aga,ih];simp
def Ia(k i j n:Int)(l:List Tm):tsz (.mk k i j n l)=1+(l.map tsz).sum:=by rw[tsz,Bjm]
def p6(t:Tm):1<=tsz t:=by cases t;rw[Ia];omega
def Ba1{t:Tm}(h:Wf 0 t):Bc [] 0 t=t:=
 Aun h (q_ja _) (fun c' i hi _=>by unfold ivI;rw[if_pos (by omega)]) (fun _ _=>rfl)
abbrev BT:=Int->Int->Int->Option Tm
inductive NR(B:BT):Nat->Tm->Nat->Tm->Prop
 |fv {d n:Nat} {T:Tm} {l:Int} (h:HR (plD B) n T (fT l)):NR B d T n (.mk 2 ((d:Int)-1-l) 0 0 [])
 |nd {d n:Nat} {T:Tm} {k i j n':Int} {l rs:List Tm} {Ns:List Nat} (h:HR (plD B) n T (.mk k i j n' l)) (hn:HN (plD B) (.mk k i j n' l)) (h0:k≠0) (hN:Ns.length=l.length) (hr:rs.length=l.length)
   (hk:∀(p:Nat) t N r,l[p]?=some t->Ns[p]?=some N->rs[p]?=some r->NR B (d+bnd k p) (Bc (Ea d (bnd k p)) 0 t) N r):NR B d T (n+Ns.sum) (.mk k i j n' rs)
def Yf{B:BT}(l:Int):HN (plD B) (fT l):=by
 refine .mk ?_ (fun p hp=>by cases hp);unfold plD plW fT;rw[if_neg (k_ne (by decide)),if_neg (fun c=>absurd c.1 (k_ne (by decide))),if_neg (fun c=>absurd c.1 (k_ne (by decide))),if_neg (fun c=>absurd c.1 (k_ne (by decide))),if_neg (fun c=>absurd c.1 (k_ne (by decide)))]
def NR.det{B:BT}{d N:Nat}{T r:Tm}(h:NR B d T N r):∀{N' r'},NR B d T N' r'->N=N'/\r=r':=by
 induction h with
 |@fv d n T l h=>
  intro N' r' h';cases h' with
  |fv h2=>
   obtain⟨a,b⟩:=j7 h (Yf _) h2 (Yf _);unfold fT at b;cases b;exact⟨a,rfl⟩
  |nd h2 hn h0=>
   obtain⟨a,b⟩:=j7 h (Yf _) h2 hn;unfold fT at b;cases b;exact absurd rfl h0
 |@nd d n T k i j n' l rs Ns h hn h0 hN hr hk ih=>
  intro N' r' h';cases h' with
  |fv h2=>
   obtain⟨a,b⟩:=j7 h hn h2 (Yf _);unfold fT at b;cases b;exact absurd rfl h0
  |@nd _ n2 _ k2 i2 j2 n2' l2 rs2 Ns2 h2 Lg h02 hN2 Jd Dj=>
   obtain⟨a,b⟩:=j7 h hn h2 Lg;cases b;have key:∀(p:Nat) t,l[p]?=some t->Ns[p]?=Ns2[p]?/\rs[p]?=rs2[p]?:=fun p t ht=>by
    have Ag:=Dh ht;have e1:Ns[p]?=some Ns[p]:=q_f (by omega);have e2:rs[p]?=some rs[p]:=q_f (by omega);have e3:Ns2[p]?=some Ns2[p]:=q_f (by omega);have e4:rs2[p]?=some rs2[p]:=q_f (by omega);obtain⟨c,d⟩:=ih p t _ _ ht e1 e2 (Dj p t _ _ ht e3 e4);rw[e1,e2,e3,e4,c,d];exact⟨rfl,rfl⟩
   have hNs:Ns=Ns2:=by
    apply List.ext_getElem?;intro p;cases ht:l[p]? with
    |some t=>exact (key p t ht).1
    |none=>
     have:=q_ld.1 ht;rw[q_jd (by omega),q_jd (by omega)]
   have hrs:rs=rs2:=by
    apply List.ext_getElem?;intro p;cases ht:l[p]? with
    |some t=>exact (key p t ht).2
    |none=>
     have:=q_ld.1 ht;rw[q_jd (by omega),q_jd (by omega)]
   subst hNs hrs;exact⟨by omega,rfl⟩
def NR.pre{B:BT}{d N n:Nat}{T U r:Tm}(hr:HR (plD B) n T U)(h:NR B d U N r):NR B d T (n+N) r:=by
 cases h with
 |fv h=>exact .fv (We hr h)
 |nd h hn h0 hN hrl hk=>rw[<-q_ks];exact .nd (We hr h) hn h0 hN hrl hk
def NR.head{B:BT}{d N:Nat}{T r:Tm}(h:NR B d T N r):∃n Y,n<=N/\HR (plD B) n T Y/\HN (plD B) Y:=by
 cases h with
 |fv h=>exact⟨_,_,q_ja _,h,Yf _⟩
 |nd h hn=>exact⟨_,_,Nat.le_add_right _ _,h,hn⟩
structure Mlq(M M':Mc):Prop where
 most:M'.most=M.most
 steps:M.steps<=M'.steps
 guess:M.guess=0->M'.guess=0
def Mlq.refl(M:Mc):Mlq M M:=⟨rfl,q_ja _,id⟩
def Mlq.trans{a b c:Mc}(h:Mlq a b)(k:Mlq b c):Mlq a c:=⟨k.most.trans h.most,q_kp h.steps k.steps,fun g=>k.guess (h.guess g)⟩
def Mle.q{M M':Mc}(h:Mle M M'):Mlq M M':=⟨h.most,h.steps,h.guess⟩
def Mlq.pos{M M1:Mc}(h:Mlq M M1)(g:0<M1.guess):0<M.guess:=by
 have:=h.guess;omega
section
variable{S:SyT}{m j:Nat}{Γ:Gh}{M:Mc}{G:GV}
inductive Acm(S:SyT)(m j:Nat)(Γ:Gh)(M:Mc):HOut->GV->Prop
 |ret {G':GV} {M':Mc} (hi:RInv S m j G' Γ M') (mm:Mlq M M') (h1:M'.seen=M.seen+1) (h2:M'.steps=M.steps) (hs:M.seen<8000000):Acm S m j Γ M (.ret (.tup [])) G'
 |out {G':GV} {M':Mc} (hi:RInv S m j G' Γ M') (mm:Mlq M M') (hs:8000000<=M.seen):Acm S m j Γ M (.pan Sz) G'
 |far {G':GV} {M':Mc} (hi:RInv S m j G' Γ M') (mm:Mlq M M') (hg:0<M.guess) (h1:M'.seen=M.seen):Acm S m j Γ M (.pan Tn) G'
def Aki(h:RInv S m j G Γ M)(h8:M.seen<=8000000):∃out G',Am 52 G [.gp m 0] out G'/\Acm S m j Γ M out G':=by
 have hm:=h.mc;obtain⟨steps,most,seen,guess⟩:=M;have Dn:=h.st;have Pt:=h.mo;have Ga:=h.se;have Bw:=h.gu;simp only at Dn Pt Ga Bw h8;unfold Mc.row at hm;simp only at hm;have hf:fit (guess:Int):=by unfold fit;omega
 by_cases h1:guess=1
 ·subst h1;exact⟨_,_,A9i hm,.far (h.mach ⟨steps,most,seen,0⟩ Dn Pt Ga (by simp)) ⟨rfl,q_ja _,fun _=>rfl⟩ (by simp) rfl⟩
 have hg:(guess:Int)≠1:=by omega
 by_cases h2:seen<8000000
 ·refine⟨_,_,A9h hm hf hg (by omega) (by omega),?_⟩;rw[Adi];exact .ret (h.mach ⟨steps,most,seen+1,guess-1⟩ Dn Pt (by simp only;omega) (by simp only;omega)) ⟨rfl,q_ja _,fun g=>by simp only at g |-;omega⟩ rfl rfl h2
 ·refine⟨_,_,A9j hm hf hg (by omega) (by unfold fit;omega),?_⟩;rw[Adi];exact .out (h.mach ⟨steps,most,seen+1,guess-1⟩ Dn Pt (by simp only;omega) (by simp only;omega)) ⟨rfl,q_ja _,fun g=>by simp only at g |-;omega⟩ (by simp only;omega)
def Ade{d:Nat}(hd:d<=cap):WOK Γ ⟨2,0,0,0,(d:Int),[]⟩:=⟨.fv _ (by omega),.base stk2,Ad5 stk0⟩
def s8{l:Int}:TV Γ ⟨2,0,0,0,l,[]⟩=fT l:=rfl
def Agb(h:RInv S m j G Γ M){id n d:Nat}{g:Ge}(hg:Γ[id]?=some (some g))(ho:g.Ok n)(hn:n<=2)(hd:d+2<=cap) :
  ∃id' G' Γ' g',UnR d n G id id' G'/\Gx Γ Γ'/\RInv S m j G' Γ' M/\Γ'[id']?=some (some g')/\g'.Ok 0/\g'.den 0=Bc (Ea d n) 0 (g.den n):=by
 have hc:cap=1099511627776:=rfl;rcases Nat.eq_zero_or_pos n with rfl|Cy
 ·exact⟨id,G,Γ,g,.no rfl,.refl Γ,h,hg,ho,by rw[show Ea d 0=[] from rfl,Ba1 ho.wf]⟩
 cases g with
 |kp row=>exact ho.elim
 |dn v T=>exact absurd ho.1 (by omega)
 |cl t es=>
  obtain⟨th,t1,_⟩:=h.rows id _ hg;obtain⟨q1,q2,q3,q4,_⟩:=t1;subst q3;obtain⟨o1,o2,o3⟩:=ho;have Av:=q4.len;have i1:=h.pushDn (Ade (d:=d) (by omega));rw[s8] at i1;rcases (show n=1\/n=2 by omega) with rfl|rfl
  ·have hu:=A9p q1 q2 (d:Int) (by unfold fit;omega) (by unfold fit;omega);have hen:EOK (Γ++[some (.dn ⟨2,0,0,0,(d:Int),[]⟩ (fT d))]) (Γ.length+1) (G.length::th.env) (fT (d:Int)::es):=by
    rw[h.len];exact (q4.top.mono (.app _ _) (Nat.le_succ _)).push (g:=.dn ⟨2,0,0,0,(d:Int),[]⟩ (fT d)) (Nat.lt_succ_self _) (by simp) ⟨rfl,.fv _ _⟩
   have i2:=i1.pushCl (t:=th.t) hen (by simp[h.len]);rw[q_ju] at i2;refine⟨_,_,_,.cl th.t (fT (d:Int)::es),.yes Cy hu,(Gx.app _ _).trans (.app _ _),i2,by rw[h.len];simp,⟨hen.wf,o2,by simp only[q_jk];omega⟩,?_⟩;show Bc (fT (d:Int)::es) 0 th.t=Bc (Ea d 1) 0 (Bc es 1 th.t);exact (Aeq o1 (Aom d 1) th.t).symm
  ·have hu:=A9q q1 q2 (d:Int) (by unfold fit;omega) (by unfold fit;omega) (by unfold fit;omega);have hen:EOK (Γ++[some (.dn ⟨2,0,0,0,(d:Int),[]⟩ (fT d))]) (Γ.length+1) (G.length::th.env) (fT (d:Int)::es):=by
    rw[h.len];exact (q4.top.mono (.app _ _) (Nat.le_succ _)).push (g:=.dn ⟨2,0,0,0,(d:Int),[]⟩ (fT d)) (Nat.lt_succ_self _) (by simp) ⟨rfl,.fv _ _⟩
   have i2:=i1.pushDn (Ade (d:=d+1) (by omega));rw[s8] at i2;have hen2:EOK (Γ++[some (.dn ⟨2,0,0,0,(d:Int),[]⟩ (fT d))]++[some (.dn ⟨2,0,0,0,((d+1:Nat):Int),[]⟩ (fT (d+1:Nat)))]) (Γ.length+2) ((G.length+1)::G.length::th.env) (fT ((d+1:Nat):Int)::fT (d:Int)::es):=
    (hen.mono (.app _ _) (Nat.le_succ _)).push (g:=.dn ⟨2,0,0,0,((d+1:Nat):Int),[]⟩ (fT (d+1:Nat))) (by rw[h.len];omega) (by rw[h.len];simp) ⟨rfl,.fv _ _⟩
   have i3:=i2.pushCl (t:=th.t) hen2 (by simp[h.len]);rw[q_ju,q_ju] at i3;refine⟨_,_,_,.cl th.t (fT ((d+1:Nat):Int)::fT (d:Int)::es),.yes Cy hu,((Gx.app _ _).trans (.app _ _)).trans (.app _ _),i3,by rw[h.len];simp,⟨hen2.wf,o2,by simp only[q_jk];omega⟩,?_⟩;show Bc (fT ((d+1:Nat):Int)::fT (d:Int)::es) 0 th.t=Bc (Ea d 2) 0 (Bc es 2 th.t);exact (Aeq o1 (Aom d 2) th.t).symm
inductive Acl(S:SyT)(m j:Nat)(Γ:Gh)(M:Mc)(d:Nat)(T:Tm):HOut->GV->Prop
 |ret {G':GV} {Γ':Gh} {M':Mc} {N:Nat} {r:Tm} (x:Gx Γ Γ') (hi:RInv S m j G' Γ' M') (mm:Mlq M M') (hn:NR S.B d T N r) (hs:M'.steps<=M.steps+N) (Ga:M'.seen=M.seen+tsz r) (h8:M'.seen<=8000000):Acl S m j Γ M d T (.ret (.agg true (tv r))) G'
 |out {G':GV} {Γ':Gh} {M':Mc} (x:Gx Γ Γ') (hi:RInv S m j G' Γ' M') (mm:Mlq M M') (h:∀N r,NR S.B d T N r->M.most<M.steps+N\/8000000<M.seen+tsz r):Acl S m j Γ M d T (.pan Sz) G'
 |far {G':GV} {Γ':Gh} {M':Mc} (x:Gx Γ Γ') (hi:RInv S m j G' Γ' M') (mm:Mlq M M') (hg:0<M.guess):Acl S m j Γ M d T (.pan Tn) G'
inductive Aci(S:SyT)(m j:Nat)(Γ:Gh)(M:Mc)(d:Nat)(k:Int)(p:Nat)(Ts:List Tm):(List Tm ⊕ SV)->GV->Prop
 |ret {G':GV} {Γ':Gh} {M':Mc} {Ns:List Nat} {rs:List Tm} (x:Gx Γ Γ') (hi:RInv S m j G' Γ' M') (mm:Mlq M M') (hN:Ns.length=Ts.length) (hr:rs.length=Ts.length)
   (hk:∀(q:Nat) t N r,Ts[q]?=some t->Ns[q]?=some N->rs[q]?=some r->NR S.B (d+bnd k (p+q)) (Bc (Ea d (bnd k (p+q))) 0 t) N r) (hs:M'.steps<=M.steps+Ns.sum) (Ga:M'.seen=M.seen+(rs.map tsz).sum) (h8:M'.seen<=8000000):Aci S m j Γ M d k p Ts (.inl rs) G'
 |out {G':GV} {Γ':Gh} {M':Mc} (x:Gx Γ Γ') (hi:RInv S m j G' Γ' M') (mm:Mlq M M') (h:∀(Ns:List Nat) (rs:List Tm),Ns.length=Ts.length->rs.length=Ts.length ->
   (∀(q:Nat) t N r,Ts[q]?=some t->Ns[q]?=some N->rs[q]?=some r->NR S.B (d+bnd k (p+q)) (Bc (Ea d (bnd k (p+q))) 0 t) N r)->M.most<M.steps+Ns.sum\/8000000<M.seen+(rs.map tsz).sum):Aci S m j Γ M d k p Ts (.inr Sz) G'
 |far {G':GV} {Γ':Gh} {M':Mc} (x:Gx Γ Γ') (hi:RInv S m j G' Γ' M') (mm:Mlq M M') (hg:0<M.guess):Aci S m j Γ M d k p Ts (.inr Tn) G'
def QuT(S:SyT)(m j F:Nat):Prop:=∀{G:GV} {Γ:Gh} {M:Mc} {id d:Nat} {g:Ge},RInv S m j G Γ M->M.seen<=8000000->8000000<=M.seen+F->d<=2*M.seen->Γ[id]?=some (some g)->g.Ok 0 ->
 ∃out G',Am 34 G [.gp m 0,.gp id 0,.int .i64 d] out G'/\Acl S m j Γ M d (g.den 0) out G'
def Bbx{F:Nat}(hQ:QuT S m j F){d:Nat}{k:Int}:∀(l:List Nat) {p:Nat} {Γ:Gh} {G:GV} {M:Mc},RInv S m j G Γ M->M.seen<=8000000->8000000<=M.seen+F->d+2<=2*M.seen ->
  (∀(q:Nat) id,l[q]?=some id->∃g,Γ[id]?=some (some g)/\g.Ok (bnd k (p+q)))->∃out G',QkR m d k p G l out G'/\Aci S m j Γ M d k p (Ec Γ k p l) out G':=by
 intro l
 induction l with
 |nil=>
  intro p Γ G M hI h8 hF hd hk;exact⟨_,_,.nil,.ret (Ns:=[]) (.refl Γ) hI (.refl M) rfl rfl (fun q t N r ht=>by cases ht) (by simp) (by simp) h8⟩
 |cons i l ih=>
  intro p Γ G M hI h8 hF hd hk;have hc:cap=1099511627776:=rfl;obtain⟨g,hg,ho⟩:=hk 0 i rfl;rw[q_jp] at ho;have hb:=Pg k p;obtain⟨i',G1,Γ1,g1,u1,x1,i1,hg1,Hw,e1⟩:=Agb hI hg ho hb (show d+2<=cap by omega);obtain⟨out,G2,q2,p2⟩:=hQ (d:=d+bnd k p) i1 h8 hF (by omega) hg1 Hw;have Yc:Ec Γ k p (i::l)=g.den (bnd k p)::Ec Γ k (p+1) l:=by rw[Ec,Kr hg]
  rw[e1] at p2;rw[Int.natCast_add] at q2;cases p2 with
  |far x hi mm h=>exact⟨_,_,.pan u1 q2,.far (x1.trans x) hi mm h⟩
  |out x hi mm h=>
   refine⟨_,_,.pan u1 q2,.out (x1.trans x) hi mm (fun Ns rs hN hr hk'=>?_)⟩;rw[Yc] at hN hr hk';simp only[q_jk] at hN hr
   match Ns,rs,hN,hr with
   |N::Ns,r::rs,_,_=>
    have:=h N r (by have:=hk' 0 _ N r rfl rfl rfl;rwa [q_jp] at this);simp only[List.sum_cons,q_h];omega
  |@ret _ Γ2 M2 N r x hi mm hn hs Ga h82=>
   have Cy:=p6 r;obtain⟨out,G3,q3,p3⟩:=ih (p:=p+1) hi h82 (by omega) (by omega) (fun q id Br=>by
    obtain⟨g,hg,ho⟩:=hk (q+1) id (by simpa using Br);exact⟨g,(x1.trans x).get hg,by rw[show p+1+q=p+(q+1) by omega];exact ho⟩)
   have hkT2:Ec Γ2 k (p+1) l=Ec Γ k (p+1) l:=by
    apply List.ext_getElem?;intro q;rw[Oo,Oo];cases hq:l[q]? with
    |none=>rfl
    |some id=>
     obtain⟨g,hg,ho⟩:=hk (q+1) id (by simpa using hq);simp only[q_jh,(x1.trans x).den hg]
   rw[hkT2] at p3;have hm:=mm.most;cases p3 with
   |far x' Cn mm' h'=>exact⟨_,_,.cpan u1 q2 q3,.far ((x1.trans x).trans x') Cn (mm.trans mm') (mm.pos h')⟩
   |out x' Cn mm' h'=>
    refine⟨_,_,.cpan u1 q2 q3,.out ((x1.trans x).trans x') Cn (mm.trans mm') (fun Ns rs hN hr hk'=>?_)⟩;rw[Yc] at hN hr hk';simp only[q_jk] at hN hr
    match Ns,rs,hN,hr with
    |N'::Ns,r'::rs,hN,hr=>
     have Ja:=hk' 0 _ N' r' rfl rfl rfl;rw[q_jp] at Ja;obtain⟨rfl,rfl⟩:=hn.det Ja;have:=h' Ns rs (by simpa using hN) (by simpa using hr) (fun q t N r ht h1 h2=>by
      have:=hk' (q+1) t N r (by simpa using ht) (by simpa using h1) (by simpa using h2)
      rwa [show p+(q+1)=p+1+q by omega] at this)
     simp only[List.sum_cons,q_h];omega
   |@ret _ Γ3 M3 Ns rs x' Cn mm' hN hr hk' Fa hse' Of=>
    refine⟨_,_,.cons u1 q2 q3,.ret (Ns:=N::Ns) ((x1.trans x).trans x') Cn (mm.trans mm') (by rw[Yc];simp[hN]) (by rw[Yc];simp[hr]) (fun q t N' r' ht h1 h2=>?_) (by simp only[List.sum_cons];omega) (by simp only[q_h,List.sum_cons];omega) Of⟩;rw[Yc] at ht;cases q with
    |zero=>
     simp only[q_jv,q_b] at ht h1 h2;subst ht h1 h2;rw[q_jp];exact hn
    |succ q=>
     have:=hk' q t N' r' (by simpa using ht) (by simpa using h1) (by simpa using h2)
     rwa [show p+1+q=p+(q+1) by omega] at this
def Ata(L:Lib S):∀F,QuT S m j F:=by
 intro F
 induction F with
 |zero=>
  intro G Γ M id d g hI h8 hF hd hg ho;obtain⟨out,G1,s1,p1⟩:=Aki hI h8;cases p1 with
  |far hi mm h=>exact⟨_,_,Afl s1,.far (.refl Γ) hi mm h⟩
  |out hi mm h=>exact⟨_,_,Afl s1,.out (.refl Γ) hi mm (fun N r _=>by have:=p6 r;omega)⟩
  |ret hi mm h1 h2 hs=>omega
 |succ F ih=>
  intro G Γ M id d g hI h8 hF hd hg ho;obtain⟨out,G1,s1,p1⟩:=Aki hI h8;have hc:cap=1099511627776:=rfl;cases p1 with
  |far hi mm h=>exact⟨_,_,Afl s1,.far (.refl Γ) hi mm h⟩
  |out hi mm h=>exact⟨_,_,Afl s1,.out (.refl Γ) hi mm (fun N r _=>by have:=p6 r;omega)⟩
  |@ret _ M1 hi mm h1 h2 hs=>
   obtain⟨out,G2,e2,p2⟩:=Bag L hi hg ho;have Pt:=mm.most;cases p2 with
   |far x Cn mm' h=>exact⟨_,_,Atb s1 e2,.far x Cn (mm.trans mm'.q) (mm.pos h)⟩
   |out x Cn mm' h=>
    refine⟨_,_,Atb s1 e2,.out x Cn (mm.trans mm'.q) (fun N r hn=>?_)⟩;obtain⟨n,Y,Ke,Lg,j0⟩:=hn.head;have:=h n Y Lg j0;omega
   |@ret _ Γ2 M2 v n x Cn mm' hv hn hr hsn=>
    have hseen:=mm'.seen;have hok:=hv.ok;have hTV:TV Γ2 v=TV Γ2 v:=rfl;cases hok with
    |fv l hl=>
     rw[s8] at hr;exact⟨_,_,Bgp s1 e2 rfl (by unfold fit;omega) (by simp only;unfold fit;omega),.ret x Cn (mm.trans mm'.q) (.fv hr) (by omega) (by rw[Ia];simp;omega) (by omega)⟩
    |@nd k i j' n' kids k2 k0 hf hl hk=>
     rw[Hp (show (Vl.mk k i j' n' 0 kids).k≠2 from k2)] at hr hn;simp only at hr hn
     by_cases Bn:kids=[]
     ·subst Bn;exact⟨_,_,Bgn s1 e2 k2 rfl,.ret x Cn (mm.trans mm'.q) (.nd (Ns:=[]) (rs:=[]) hr hn k0 rfl rfl (fun p t N r ht=>by cases ht)) (by simp;omega) (by rw[Ia];simp;omega) (by omega)⟩
     ·obtain⟨out,G3,q3,p3⟩:=Bbx ih (d:=d) (k:=k) kids (p:=0) Cn (by omega) (by omega) (by omega) (fun q id Br=>by rw[q_jg];exact hk q id Br);have Av:kids.length<=100:=by have:=Py k n';omega
      have hdp:fit (d:Int)/\fit ((d:Int)+2):=by unfold fit;omega
      cases p3 with
      |far x' hi3 mm3 h=>exact⟨_,_,Atc s1 e2 k2 Bn Av hdp q3,.far (x.trans x') hi3 ((mm.trans mm'.q).trans mm3) ((mm.trans mm'.q).pos h)⟩
      |out x' hi3 mm3 h=>
       refine⟨_,_,Atc s1 e2 k2 Bn Av hdp q3,.out (x.trans x') hi3 ((mm.trans mm'.q).trans mm3) (fun N r Mf=>?_)⟩;have hmo2:=mm'.most;cases Mf with
       |fv h'=>
        obtain⟨a,b⟩:=j7 hr hn h' (Yf _);unfold fT at b;exact absurd (Tm.mk.inj b).1 k0
       |@nd _ n2 _ k2' i2 j2 n2' l2 rs2 Ns2 h' Lg h02 hN2 Jd Dj=>
        obtain⟨a,b⟩:=j7 hr hn h' Lg;cases b;have:=h Ns2 rs2 hN2 Jd (fun q t N r ht h1 h2=>by rw[q_jg];exact Dj q t N r ht h1 h2);rw[Ia];omega
      |@ret _ Γ3 M3 Ns rs x' hi3 mm3 hN Yj hk3 Uf Yl Of=>
       rw[Pz] at hN Yj;refine⟨_,_,Bgo s1 e2 k2 Bn Av hdp q3 (by intro e;subst e;simp at Yj;exact Bn (by cases kids with|nil=>rfl|cons a b=>simp at Yj)),.ret (N:=n+Ns.sum) (x.trans x') hi3 ((mm.trans mm'.q).trans mm3) (.nd (Ns:=Ns) (rs:=rs) hr hn k0 (by rw[Pz];exact hN) (by rw[Pz];exact Yj) (fun p t N r ht h1 h2=>by have:=hk3 p t N r ht h1 h2;rwa [q_jg] at this)) (by omega) (by rw[Ia];omega) Of⟩
end
open Go Go.RowKit Go.Proofs.YtgdkddjdhijfnaaGreatDoor
def Iv(k i j n want:Int)(len:Nat):Bool:=(!(want != 0) || (!(Jh k != 0) || !(Jh k != want))) && (!((len:Int) != Bv k n) && Or k i j n)
def ofN(k:Int)(i:Nat):Int:=if k=12/\i=2 then 2 else Jh k
def A0v(k i j n want:Int)(rows:GV)(W:Nat->List SV->Bool)(h2:rows.length*56<=140737488355328)(h5:∀r∈rows,r.length=5)
  (H:∀p,∀r∈rows,Con 30 [.agg true r,.int .i64 (ofN k p)] (.bool (W p r))) :
  Con 30 [.agg true [.int .i64 k,.int .i64 i,.int .i64 j,.int .i64 n,.dsl 5 rows],.int .i64 want] (.bool (Iv k i j n want rows.length && Id W 0 rows)):=by
 refine Au mixed Tryz.func30 tr30 ?_;simp only[go_sem,seval];refine Af (A1w k) ?_;simp only[go_sem,seval];unfold Iv;cases hw:(want != 0)<;>cases hs:(Jh k != 0)<;>cases hd:(Jh k != want)<;>simp only[go_sem,seval,hs,hd]
 all_goals
  refine Af (Am7 k n) ?_;cases hK:((rows.length:Int) != Bv k n)<;>simp only[go_sem,seval,hK];refine Af (Azv k i j n rows) ?_;cases hN:Or k i j n<;>simp only[go_sem,seval,hN];intros;refine Rt (fun x=>⟨(.J::.J::.ref 0 0 0 0::.J::.J::.int .i64 (Jh k)::Bo (.dsl 5 rows::.int .i64 rows.length::.int .i64 x::Do (.J::[]))),[⟨true,5,[[.int .i64 k,.int .i64 i,.int .i64 j,.int .i64 n,.dsl 5 rows]],0,0,true⟩]⟩) rows.length (fun x=>W x (rows[x]?.getD [])=true) (fun x hx hp=>?_) ?_
  ·simp only[go_sem,seval,Arl,Ark,Arm];refine⟨fun h=>?_,fun h=>?_⟩
   ·have Ag:=q_kx h;have Cr:x<rows.length:=by omega
    have e0:(0:Int)<=(x:Int):=by omega
    have hm:=Hi (d:=[]) Cr;have Gj:=h5 _ hm;have ho:=H x _ hm;have eo:ofN k x=bif (k==12) && ((x:Int)==2) then 2 else Jh k:=by
     unfold ofN
     by_cases a:k=12
     ·by_cases b:x=2
      ·subst b;rw[if_pos ⟨a,rfl⟩,a];rfl
      ·rw[if_neg (fun h=>b h.2),Ao (show (x:Int)≠2 by omega),q_lg];rfl
     ·rw[if_neg (fun h=>a h.1),Ao a,q_lh];rfl
    simp only[go_sem,seval,Ag,e0,Gj];cases Oe:(k==12)<;>cases hx2:((x:Int)==2)<;>simp only[go_sem,seval,hx2]
    all_goals
     simp only[Oe,hx2,q_le,q_lg,q_lf,q_lh,cond_true,cond_false] at eo;rw[eo] at ho;refine Af ho ?_;cases hW:W x (rows[x]?.getD [])<;>simp only[go_sem,seval]
     ·rw[Alx (d:=[]) (i:=x) Cr (by rw[q_jg];exact hW)]
     ·refine⟨Cr,?_⟩;rw[w64 (n:=(x:Int)+1) (by unfold fit;omega)];exact Fp 1 (by simp[Ba]) (by simp only[List.take_succ_cons,List.take_zero]) (by simp[Cx]) (by simp)
   ·have Fy:=q_ky h;have Ml:x=rows.length:=by omega
    simp only[go_sem,seval,h];rw[Aly (d:=[]) (f:=W) (fun j hj=>by rw[q_jg];exact hp j (by omega))]
  ·exact Bk (by simp[Ba])
def Bcu{l:List Tm}(ih:∀a∈l,∀b,tv a=tv b->a=b):∀{r:List Tm},l.map tv=r.map tv->l=r:=by
 induction l with
 |nil=>intro r h;cases r with
  |nil=>rfl
  |cons b r=>simp at h
 |cons a l ihl=>
  intro r h;cases r with
  |nil=>simp at h
  |cons b r=>
   simp only[q_h,List.cons.injEq] at h;rw[ih a (by simp) b h.1,ihl (fun x hx=>ih x (by simp[hx])) h.2]
def Bjn(a:Tm):∀b,tv a=tv b->a=b:=by
 induction a using Tm.ind with
 |h k i j n l ih=>
  intro b h;cases b with
  |mk k' i' j' n' l'=>
   rw[As,As] at h;simp only[List.cons.injEq,SV.int.injEq,SV.dsl.injEq,true_and,and_true] at h;obtain⟨rfl,rfl,rfl,rfl,h5⟩:=h;rw[Bcu ih h5]
noncomputable def onT {α:Type}(f:Tm->α)(d:α)(r:List SV):α:=open Classical in if h:∃t,tv t=r then f (Classical.choose h) else d
def Jg{α:Type}(f:Tm->α)(d:α)(t:Tm):onT f d (tv t)=f t:=by
 have h:∃u,tv u=tv t:=⟨t,rfl⟩
 unfold onT;rw[dif_pos h,Bjn _ _ (Classical.choose_spec h)]
def rows5(l:List Tm):∀r∈l.map tv,r.length=5:=fun r hr=>by obtain⟨t,_,rfl⟩:=q_lc.1 hr;exact Ch t
mutual
def Gg:Tm->Int->Bool
 |.mk k i j n l,want=>Iv k i j n want l.length && Ab2 k 0 l
def Ab2(k:Int):Nat->List Tm->Bool
 |_,[]=>true
 |p,t::l=>Gg t (ofN k p) && Ab2 k (p+1) l
end
def Bgz(k:Int):∀(l:List Tm) (p:Nat),Ab2 k p l=Id (fun p t=>Gg t (ofN k p)) p l:=by
 intro l
 induction l with
 |nil=>intro p;rw[Ab2];rfl
 |cons t l ih=>intro p;rw[Ab2,Id,ih]
def Ys(k i j n:Int)(l:List Tm)(want:Int):Gg (.mk k i j n l) want=(Iv k i j n want l.length && Id (fun p t=>Gg t (ofN k p)) 0 l):=by rw[Gg,Bgz]
def A0u(t:Tm):TOk t->∀want,Con 30 [.agg true (tv t),.int .i64 want] (.bool (Gg t want)):=by
 induction t using Tm.ind with
 |h k i j n l ih=>
  intro hok want;cases hok with
  |mk _ _ _ _ _ f1 f2 f3 f4 hb hl=>
  have h:=A0v k i j n want (l.map tv) (fun p r=>onT (fun t=>Gg t (ofN k p)) false r) (by simpa using hb) (rows5 l) (fun p r hr=>by
   obtain⟨t,ht,rfl⟩:=q_lc.1 hr;simp only[Jg];exact ih t ht (hl t ht) _)
  rw[Av5,q_g,Alw (g:=fun p t=>Gg t (ofN k p)) (fun p t _=>by rw[Jg]),<-Ys,<-As] at h;exact h
def Anh(t:Tm)(ht:TOk t):Con 17 [.agg true (tv t)] (.bool (Gg t 2)):=by
 refine Au mixed Tryz.func17 tr17 ?_;have hc:=A0u t ht 2;cases t with
 |mk k i j n l=>
 rw[As] at hc |-;simp only[go_sem,seval];refine Af hc ?_;simp only[go_sem,seval]
def A1e(k i j n:Int)(rows:GV)(h:k=1\/k=10\/k=11\/k=12):Con 72 [.agg true [.int .i64 k,.int .i64 i,.int .i64 j,.int .i64 n,.dsl 5 rows]] (.bool (lev i && ((j==0) && (n==0)))):=by
 refine Au mixed Tryz.func72 tr72 ?_;rcases h with rfl|rfl|rfl|rfl<;>simp only[go_sem,seval]<;>refine Af (w7 i) ?_<;>(cases hL:lev i<;>cases hJ:(j==0)<;>cases hN:(n==0)<;>simp only[go_sem,seval,hJ,hN])
def A1f(i j n:Int)(rows:GV):Con 72 [.agg true [.int .i64 2,.int .i64 i,.int .i64 j,.int .i64 n,.dsl 5 rows]] (.bool (decide (0<=i) && (decide (i<=2147483647) && ((j==0) && (n==0))))):=by
 refine Au mixed Tryz.func72 tr72 ?_
 by_cases h1:0<=i<;>by_cases h2:i<=2147483647<;>cases hJ:(j==0)<;>cases hN:(n==0)<;>simp only[go_sem,seval,hJ,hN,h1,h2]
def A1h(k i j n:Int)(rows:GV)(h:k=3\/k=4\/k=5\/k=6\/k=7\/k=8\/k=9):Con 72 [.agg true [.int .i64 k,.int .i64 i,.int .i64 j,.int .i64 n,.dsl 5 rows]] (.bool (lev i && (lev j && (n==0)))):=by
 refine Au mixed Tryz.func72 tr72 ?_;rcases h with rfl|rfl|rfl|rfl|rfl|rfl|rfl<;>simp only[go_sem,seval]<;>refine Af (w7 i) ?_<;>(cases hL:lev i<;>simp only[go_sem,seval];refine Af (w7 j) ?_;cases hJ:lev j<;>cases hN:(n==0)<;>simp only[go_sem,seval,hN])
def A1g(i j n:Int)(rows:GV):Con 72 [.agg true [.int .i64 23,.int .i64 i,.int .i64 j,.int .i64 n,.dsl 5 rows]] (.bool (lev i && lev j)):=by
 refine Au mixed Tryz.func72 tr72 ?_;simp only[go_sem,seval];refine Af (w7 i) ?_;cases hL:lev i
 ·simp only[go_sem,seval]
 ·simp only[go_sem,seval];refine Af (w7 j) ?_;simp only[go_sem,seval]
def A1d(k i j n:Int)(rows:GV)(h:k<1\/(12<k/\k≠23)):Con 72 [.agg true [.int .i64 k,.int .i64 i,.int .i64 j,.int .i64 n,.dsl 5 rows]] (.bool ((i==0) && ((j==0) && (n==0)))):=by
 refine Au mixed Tryz.func72 tr72 ?_;simp only[go_sem,seval,Ao (show k≠1 by omega),Ao (show k≠2 by omega),Ao (show k≠3 by omega),Ao (show k≠4 by omega),Ao (show k≠5 by omega),Ao (show k≠6 by omega),Ao (show k≠7 by omega),Ao (show k≠8 by omega),Ao (show k≠9 by omega),Ao (show k≠10 by omega),Ao (show k≠11 by omega),Ao (show k≠12 by omega),Ao (show k≠23 by omega)];cases hI:(i==0)<;>cases hJ:(j==0)<;>cases hN:(n==0)<;>simp only[go_sem,seval,hJ,hN]
def A1c(k i j n:Int)(rows:GV):Con 72 [.agg true [.int .i64 k,.int .i64 i,.int .i64 j,.int .i64 n,.dsl 5 rows]] (.bool (Or k i j n)):=by
 unfold Or
 by_cases h1:k=1\/k=10\/k=11\/k=12
 ·rw[if_pos h1];exact A1e k i j n rows h1
 ·rw[if_neg h1]
  by_cases h2:k=2
  ·subst h2;rw[if_pos rfl];exact A1f i j n rows
  ·rw[if_neg h2]
   by_cases h3:3<=k/\k<=9
   ·rw[if_pos h3];exact A1h k i j n rows (by omega)
   ·rw[if_neg h3]
    by_cases h4:k=23
    ·subst h4;rw[if_pos rfl];exact A1g i j n rows
    ·rw[if_neg h4];exact A1d k i j n rows (by omega)
def Yo(k i j n:Int)(len:Nat):Bool:=((len:Int)==Bv k n) && Or k i j n
def Anp(k i j n:Int)(rows:GV):Con 44 [.agg true [.int .i64 k,.int .i64 i,.int .i64 j,.int .i64 n,.dsl 5 rows]] (.bool (Yo k i j n rows.length)):=by
 refine Au mixed Tryz.func44 tr44 ?_;simp only[go_sem,seval];refine Af (Nc k n) ?_;unfold Yo;cases hK:((rows.length:Int)==Bv k n)
 ·simp only[go_sem,seval,hK]
 ·simp only[go_sem,seval,hK];refine Af (A1c k i j n rows) ?_;simp only[go_sem,seval]
open Go Go.RowKit Go.Proofs.YtgdkddjdhijfnaaGreatDoor
def Afu(k i j n:Int)(len:Nat):Bool:=!((k != 1) && ((k != 2) && (decide (k<13) || decide (k > 23)))) && Yo k i j n len
def Atg(k i j n:Int)(len:Nat):Bool:=!(decide (k<1) || decide (k > 12)) && Yo k i j n len
def A1i(k i j n:Int)(rows:GV)(W:List SV->Bool)(h2:rows.length*56<=140737488355328)(h5:∀r∈rows,r.length=5)
  (H:∀r∈rows,Con 28 [.agg true r] (.bool (W r))) :
  Con 28 [.agg true [.int .i64 k,.int .i64 i,.int .i64 j,.int .i64 n,.dsl 5 rows]] (.bool (Afu k i j n rows.length && rows.all W)):=by
 refine Au mixed Tryz.func28 tr28 ?_;simp only[go_sem,seval];unfold Afu;have Vw:∀b:Bool,b=((k != 1) && ((k != 2) && (decide (k<13) || decide (k > 23))))->True:=fun _ _=>trivial
 cases h1:(k != 1)<;>cases Fj:(k != 2)<;>by_cases h3:k<13<;>by_cases h4:23<k<;>simp only[go_sem,seval,Fj,h3,h4]
 all_goals
  refine Af (Anp k i j n rows) ?_;cases hN:Yo k i j n rows.length<;>simp only[go_sem,seval];refine Rt (fun x=>⟨(.J::.ref 0 0 0 0::.J::.int .i64 x::Bo (jk4 (.J::[]))),[⟨true,5,[[.int .i64 k,.int .i64 i,.int .i64 j,.int .i64 n,.dsl 5 rows]],0,0,true⟩]⟩) rows.length (fun x=>W (rows[x]?.getD [])=true) (fun x hx hp=>?_) ?_
  ·simp only[go_sem,seval];intro _;refine⟨fun h=>?_,fun h=>?_⟩
   ·have Ag:=q_kx h;have Cr:x<rows.length:=by omega
    have e0:(0:Int)<=(x:Int):=by omega
    have hm:=Hi (d:=[]) Cr;have Gj:=h5 _ hm;simp only[go_sem,seval,Ag,e0,Gj];refine Af (H _ hm) ?_;cases hW:W (rows[x]?.getD [])<;>simp only[go_sem,seval]
    ·rw[Av8 (d:=[]) (i:=x) Cr hW]
    ·refine⟨Cr,?_⟩;rw[w64 (n:=(x:Int)+1) (by unfold fit;omega)];exact Bk (by simp[Ba])
   ·have Fy:=q_ky h;have Ml:x=rows.length:=by omega
    simp only[go_sem,seval,h];rw[Av9 (d:=[]) (f:=W) (fun j hj=>hp j (by omega))]
  ·exact Bk (by simp[Ba])
def A1a(k i j n:Int)(rows:GV)(W:Nat->List SV->Bool)(h2:rows.length*56<=140737488355328)(h5:∀r∈rows,r.length=5)
  (H1:∀p:Nat,∀r∈rows,((k==12) && ((p:Int)==2))=true->Con 28 [.agg true r] (.bool (W p r)))
  (H2:∀p:Nat,∀r∈rows,((k==12) && ((p:Int)==2))=false->Con 73 [.agg true r] (.bool (W p r))) :
  Con 73 [.agg true [.int .i64 k,.int .i64 i,.int .i64 j,.int .i64 n,.dsl 5 rows]] (.bool (Atg k i j n rows.length && Id W 0 rows)):=by
 refine Au mixed Tryz.func73 tr73 ?_;simp only[go_sem,seval];unfold Atg
 by_cases h3:k<1<;>by_cases h4:12<k<;>simp only[go_sem,seval,h3,h4]
 all_goals
  refine Af (Anp k i j n rows) ?_;cases hN:Yo k i j n rows.length<;>simp only[go_sem,seval];refine Rt (fun x=>⟨(.J::.ref 0 0 0 0::.J::.int .i64 x::Bo (jk8 (.J::[]))),[⟨true,5,[[.int .i64 k,.int .i64 i,.int .i64 j,.int .i64 n,.dsl 5 rows]],0,0,true⟩]⟩) rows.length (fun x=>W x (rows[x]?.getD [])=true) (fun x hx hp=>?_) ?_
  ·simp only[go_sem,seval];intro _;refine⟨fun h=>?_,fun h=>?_⟩
   ·have Ag:=q_kx h;have Cr:x<rows.length:=by omega
    have e0:(0:Int)<=(x:Int):=by omega
    have hm:=Hi (d:=[]) Cr;have Gj:=h5 _ hm;have g1:=H1 x _ hm;have g2:=H2 x _ hm;cases Oe:(k==12)<;>cases hx2:((x:Int)==2)<;>simp only[go_sem,seval,Oe,hx2,Ag,e0,Gj]
    all_goals
     simp only[Oe,hx2,q_le,q_lg,q_lf,q_lh,true_implies,reduceCtorEq,false_implies] at g1 g2
     first
      |refine Af g1 ?_
      |refine Af g2 ?_
     cases hW:W x (rows[x]?.getD [])<;>simp only[go_sem,seval]
     ·rw[Alx (d:=[]) (i:=x) Cr (by rw[q_jg];exact hW)]
     ·refine⟨Cr,?_⟩;rw[w64 (n:=(x:Int)+1) (by unfold fit;omega)];exact Bk (by simp[Ba])
   ·have Fy:=q_ky h;have Ml:x=rows.length:=by omega
    simp only[go_sem,seval,h];rw[Aly (d:=[]) (f:=W) (fun j hj=>by rw[q_jg];exact hp j (by omega))]
  ·exact Bk (by simp[Ba])
abbrev Cg(t:Tm):Bool:=Gg t 2
def Bbv(k n:Int)(h:k<=0\/23<k):Bv k n=-1:=by
 unfold Bv tab;rw[if_neg (by omega),if_neg (by simp only[q_jk,List.length_nil];omega)]
def Bb4(k n:Int)(len:Nat)(h:k<=0\/23<k):((len:Int)==Bv k n)=false:=by
 rw[Bbv k n h];exact Ao (by omega)
def Bg9(k i j n:Int)(len:Nat):Afu k i j n len=Iv k i j n 2 len:=by
 unfold Afu Iv Yo;rw[show (!((len:Int) != Bv k n))=((len:Int)==Bv k n) by simp[bne]]
 by_cases h:k<=0\/23<k
 ·rw[Bb4 k n len h];simp
 ·congr 1;have hs:Jh k=if k=1\/k=2 then 0 else if k<=12 then 1 else 2:=rfl
  by_cases h1:k=1
  ·subst h1;rfl
  ·by_cases h2:k=2
   ·subst h2;rfl
   ·rw[hs,if_neg (by omega)];have e1:(k != 1)=true:=by simp[h1]
    have e2:(k != 2)=true:=by simp[h2]
    rw[e1,e2];have e4:decide (k > 23)=false:=by simp;omega
    rw[e4]
    by_cases h3:k<=12
    ·rw[if_pos h3];have e3:decide (k<13)=true:=by simp;omega
     rw[e3];rfl
    ·rw[if_neg h3];have e3:decide (k<13)=false:=by simp;omega
     rw[e3];rfl
def Av4{α:Type}{f:α->Bool}:∀{l:List α} {p:Nat},Id (fun _ x=>f x) p l=l.all f:=by
 intro l
 induction l with
 |nil=>intro p;rfl
 |cons x l ih=>intro p;simp only[Id,List.all_cons,ih]
def Aka(k i j n:Int)(l:List Tm):Gg (.mk k i j n l) 2=(Iv k i j n 2 l.length && l.all Cg):=by
 rw[Ys];cases h:Iv k i j n 2 l.length
 ·rfl
 ·rw[q_lf,q_lf];unfold Iv at h;simp only[q_jl,q_l,Bool.not_eq_true',bne_eq_false_iff_eq] at h;obtain⟨h1,h2,_⟩:=h;have hs:Jh k=if k=1\/k=2 then 0 else if k<=12 then 1 else 2:=rfl
  by_cases Oe:k=1\/k=2
  ·have:l=[]:=by
    rcases Oe with rfl|rfl
    ·exact q_lb.1 (by simpa [Bv,tab] using h2)
    ·exact q_lb.1 (by simpa [Bv,tab] using h2)
   subst this;rfl
  ·rw[if_neg Oe] at hs;have hk:Jh k=2:=by
    rcases h1 with h1|h1|h1
    ·omega
    ·rw[hs] at h1;split at h1<;>omega
    ·exact h1
   have h13:k≠12:=by
    intro e;subst e;simp[Jh] at hk
   rw[Alw (g:=fun _ t=>Cg t) (fun p t _=>by unfold ofN;rw[if_neg (by omega),hk]),Av4]
def w8(t:Tm):TOk t->Con 28 [.agg true (tv t)] (.bool (Cg t)):=by
 induction t using Tm.ind with
 |h k i j n l ih=>
  intro hok;cases hok with
  |mk _ _ _ _ _ f1 f2 f3 f4 hb hl=>
  have h:=A1i k i j n (l.map tv) (onT Cg false) (by simpa using hb) (rows5 l) (fun r hr=>by
   obtain⟨t,ht,rfl⟩:=q_lc.1 hr;rw[Jg];exact ih t ht (hl t ht))
  rw[q_g,Bg9,List.all_map,<-As] at h;have e:l.all (onT Cg false ∘ tv)=l.all Cg:=by
   congr 1;funext t;simp[Jg]
  rw[e,<-Aka] at h;exact h
def Akw{α:Type}{l:List α}{i:Nat}{d:α}(h:i<l.length):l.take i++[l[i]?.getD d]=l.take (i+1):=by
 rw[List.take_add_one,q_f h];rfl
def Bjr:Tryz.prog.underlying 25=some (.float .f64):=by kernel_rfl
def Bjp{svs:List SV}(h:Ic Tryz.prog 25 svs):∃b,svs=[.float .f64 b]:=by
 have hu:=Bjr;cases h with
 |float _ k b h1 _=>rw[hu] at h1;cases h1;exact⟨b,rfl⟩
 |bool _ _ h1=>rw[hu] at h1;cases h1
 |int _ _ _ h1=>rw[hu] at h1;cases h1
 |str _ _ h1=>rw[hu] at h1;cases h1
 |slice _ _ _ h1=>rw[hu] at h1;cases h1
 |struct _ _ _ h1=>rw[hu] at h1;cases h1
def Zf{x:SV}(h:Rw Tryz.prog 25 x):∃b,x=.float .f64 b:=by
 cases h with
 |agg svs h1 _=>have e:Gp Tryz.prog 25=some false:=by kernel_rfl
                rw[e] at h1;cases h1
 |one x _ h2=>
  obtain⟨b,e⟩:=Bjp h2;cases e;exact⟨b,rfl⟩
def Jv{P:Program}{t:TypeId}{ts:List TypeId}{args:List SV}(h:Qm P (t::ts) args):∃x xs,args=x::xs/\Rw P t x/\Qm P ts xs:=by
 cases args with
 |nil=>exact h.elim
 |cons x xs=>exact⟨x,xs,rfl,h.1,h.2⟩
def Acb{P:Program}{args:List SV}(h:Qm P [] args):args=[]:=by
 cases args with
 |nil=>rfl
 |cons x xs=>exact h.elim
def own:ownKnob Tryz.prog.godebug=none:=by kernel_rfl
def laid:laidOutB Tryz.prog=true:=by kernel_rfl
structure HT where
 i:Int
 a:Tm
 b:Tm
 x:Tm
 y:Tm
 h:Tm
def HT.v(g:HT):List SV:=hv g.i g.a g.b g.x g.y g.h
structure HT.ok(g:HT):Prop where
 i:fit g.i
 a:TOk g.a
 b:TOk g.b
 x:TOk g.x
 y:TOk g.y
 h:TOk g.h
def zT:Tm:=.mk 0 0 0 0 []
def Arb:Le (.agg true [.int .i64 0,.int .i64 0,.int .i64 0,.int .i64 0,.nils]) (.agg true (tv zT)):=Su 0 0 0 0
def us(n i j:Int)(l:List Tm):Tm:=.mk 23 i j n l
def Aff{k:Int}{l:List Tm}(h:Iv k 0 0 0 2 l.length=true)(hl:l.all Cg=true):Cg (.mk k 0 0 0 l)=true:=by
 show Gg _ 2=true;rw[Aka,h,hl];rfl
def tv_0{t:Tm}:(tv t)[0]?=some (.int .i64 t.k):=by cases t;rw[As];rfl
def tmT:TmT Tryz.prog 24 22 3:=⟨by kernel_rfl,by kernel_rfl,by kernel_rfl,by kernel_rfl,by kernel_rfl⟩
def Pf{x:SV}(h:Rw Tryz.prog 24 x):∃t,x=.agg true (tv t)/\TOk t:=by
 cases h with
 |agg svs _ h2=>
  obtain⟨t,ht,rfl⟩:=(Aur tmT h2).1 rfl;exact⟨t,rfl,ht⟩
 |one x h1 _=>have e:Gp Tryz.prog 24=some true:=by kernel_rfl
              rw[e] at h1;cases h1
mutual
def La:Tm->Nat
 |.mk _ _ _ _ l=>Si l+1
def Si:List Tm->Nat
 |[]=>0
 |t::l=>max (La t) (Si l)
end
def Aau(k i j n:Int)(l:List Tm):La (.mk k i j n l)=Si l+1:=by rw[La]
def Aia{t:Tm}:∀{l:List Tm},t∈l->La t<=Si l:=by
 intro l
 induction l with
 |nil=>intro h;cases h
 |cons u l ih=>
  intro h;rw[Si];rcases q_kb.1 h with rfl|h
  ·omega
  ·have:=ih h;omega
def Aps{b:Nat}:∀{l:List Tm},(∀t∈l,La t<=b)->Si l<=b:=by
 intro l
 induction l with
 |nil=>intro _;rw[Si];omega
 |cons u l ih=>
  intro h;rw[Si];have h1:=h u (by simp);have h2:=ih (fun t ht=>h t (by simp[ht]));omega
def Eh(a:Int)(V:Nat->Int->Int)(most:Int):Nat->Int
 |0=>a
 |x+1=>IntKind.i64.wrap (Eh a V most x+V x (IntKind.i64.wrap (most-Eh a V most x)))
def Bkt(k i j n most deep:Int)(rows:GV)(hd:deep<0):Con 43 [.agg true [.int .i64 k,.int .i64 i,.int .i64 j,.int .i64 n,.dsl 5 rows],.int .i64 most,.int .i64 deep] (.int .i64 (IntKind.i64.wrap (most+1))):=by
 refine Au mixed Tryz.func43 tr43 ?_;simp only[go_sem,seval,hd]
def Bku(k i j n most deep:Int)(rows:GV)(W:List SV->Int->Int->Int)(h2:rows.length*56<=140737488355328)(h5:∀r∈rows,r.length=5)
  (H:∀r∈rows,∀m d,Con 43 [.agg true r,.int .i64 m,.int .i64 d] (.int .i64 (W r m d))) (hd:¬deep<0) (m:Nat) (Ps:m<=rows.length)
  (hm2:m=rows.length\/most<Ov W rows most (IntKind.i64.wrap (deep-1)) m) (Wc:∀y,y<m->¬most<Ov W rows most (IntKind.i64.wrap (deep-1)) y) :
  Con 43 [.agg true [.int .i64 k,.int .i64 i,.int .i64 j,.int .i64 n,.dsl 5 rows],.int .i64 most,.int .i64 deep] (.int .i64 (Ov W rows most (IntKind.i64.wrap (deep-1)) m)):=by
 refine Au mixed Tryz.func43 tr43 ?_;simp only[go_sem,seval,hd];refine Ln (fun x=>⟨(.J::.int .i64 most::.int .i64 deep::.ref 0 0 0 0::.J::.J::.int .i64 0::.int .i64 (Ov W rows most (IntKind.i64.wrap (deep-1)) x)::.int .i64 x::Do (jk8 (jk4 (jk2 ([]))))),[⟨true,5,[[.int .i64 k,.int .i64 i,.int .i64 j,.int .i64 n,.dsl 5 rows]],0,0,true⟩]⟩) m (fun x hx=>?_) ?_
 ·simp only[go_sem,seval];intro _
  by_cases hxm:x=m
  ·subst hxm;rcases hm2 with rfl|hm2
   ·have hl:¬((rows.length:Int)<(rows.length:Int)):=by omega
    simp only[go_sem,seval,hl]
   ·have hl:¬(Ov W rows most (IntKind.i64.wrap (deep-1)) x<=most):=by omega
    refine⟨fun h=>?_,fun h=>?_⟩
    ·simp only[go_sem,seval,h,hl]
    ·simp only[go_sem,seval,h,hl]
  ·have Hm:x<rows.length:=by omega
   have Ai9:(x:Int)<(rows.length:Int):=by omega
   have e0:(0:Int)<=(x:Int):=by omega
   have hle:Ov W rows most (IntKind.i64.wrap (deep-1)) x<=most:=by have:=Wc x (by omega);omega
   have hm:=Hi (d:=[]) Hm;have Gj:=h5 _ hm;simp only[go_sem,seval,Ai9,hle,e0,Gj];refine Af (H _ hm _ _) ?_;simp only[go_sem,seval];refine⟨by omega,?_⟩;rw[w64 (n:=(x:Int)+1) (by unfold fit;omega)];exact Bk (by simp[Ba,Ov])
 ·exact Bk (by simp[Ba,Ov])
def Aks(W:List SV->Int->Int->Int)(rows:GV)(most d:Int):∀x,Ov W rows most d x=Eh 1 (fun y m=>W (rows[y]?.getD []) m d) most x:=by
 intro x
 induction x with
 |zero=>rfl
 |succ x ih=>rw[Ov,Eh,ih]
open Go Go.RowKit Go.Proofs.YtgdkddjdhijfnaaGreatDoor
def Dm(k p:Int):Con 74 [.int .i64 k,.int .i64 p] (.int .i64 (Cf k p)):=by
 refine Au mixed Tryz.func74 tr74 ?_
 by_cases h:k=3\/k=5\/k=6\/k=7\/k=8\/k=9\/k=13\/k=14\/k=16\/k=17
 ·have e:Cf k p=if p=1 then 1 else 0:=by unfold Cf;rw[if_pos h]
  rw[e];rcases h with rfl|rfl|rfl|rfl|rfl|rfl|rfl|rfl|rfl|rfl <;>
   (cases hp:(p==1)<;>simp only[beq_iff_eq,beq_eq_false_iff_ne,ne_eq] at hp<;>simp only[go_sem,seval,hp,Ao])
 ·by_cases h4:k=4
  ·subst h4;have e:Cf 4 p=if p=1\/p=2 then 1 else 0:=by unfold Cf;rw[if_neg (by decide),if_pos rfl]
   rw[e]
   by_cases h1:p=1
   ·subst h1;simp only[go_sem,seval]
   ·by_cases h2:p=2
    ·subst h2;simp only[go_sem,seval]
    ·rw[if_neg (by omega)];simp only[go_sem,seval,Ao h1,Ao h2]
  ·by_cases Dv:k=22
   ·subst Dv;have e:Cf 22 p=if p=2 then 2 else 0:=by unfold Cf;rw[if_neg (by decide),if_neg (by decide),if_pos rfl]
    rw[e]
    by_cases h2:p=2
    ·subst h2;simp only[go_sem,seval]
    ·rw[if_neg h2];simp only[go_sem,seval,Ao h2]
   ·have e:Cf k p=0:=by unfold Cf;rw[if_neg h,if_neg h4,if_neg Dv]
    rw[e];simp only[go_sem,seval,Ao (show k≠3 by omega),Ao h4,Ao (show k≠5 by omega),Ao (show k≠6 by omega),Ao (show k≠7 by omega),Ao (show k≠8 by omega),Ao (show k≠9 by omega),Ao (show k≠13 by omega),Ao (show k≠14 by omega),Ao (show k≠16 by omega),Ao (show k≠17 by omega),Ao Dv]
mutual
def Gc(k:Int):Int->Tm->Option Tm
 |fr,.mk kk i j n l=>
  if kk=2/\fr<=i then (if 2147483647-i<k then none else (l9 k fr kk 0 l).map (Tm.mk kk (i+k) j n))
  else (l9 k fr kk 0 l).map (Tm.mk kk i j n)
def l9(k:Int):Int->Int->Nat->List Tm->Option (List Tm)
 |_,_,_,[]=>some []
 |fr,kk,p,t::l=>match Gc k (fr+Cf kk p) t with
  |none=>none
  |some u=>match l9 k fr kk (p+1) l with
   |none=>none
   |some r=>some (u::r)
end
def Co{α β:Type}(X:Nat->α->Option β):Nat->List α->Option (List β)
 |_,[]=>some []
 |p,x::l=>match X p x with
  |none=>none
  |some u=>match Co X (p+1) l with
   |none=>none
   |some r=>some (u::r)
def Bb9(k fr kk:Int):∀(l:List Tm) (p:Nat),l9 k fr kk p l=Co (fun p t=>Gc k (fr+Cf kk p) t) p l:=by
 intro l
 induction l with
 |nil=>intro p;rw[l9];rfl
 |cons t l ih=>
  intro p;rw[l9,Co,ih];cases Gc k (fr+Cf kk p) t with
  |none=>rfl
  |some u=>cases Co (fun p t=>Gc k (fr+Cf kk ((p:Nat):Int)) t) (p+1) l<;>rfl
def Aco{α β:Type}{X:Nat->α->Option β}{d:α}:∀{l:List α} {p i:Nat},i<l.length->X (p+i) (l[i]?.getD d)=none->Co X p l=none:=by
 intro l
 induction l with
 |nil=>intro p i h;simp at h
 |cons x l ih=>
  intro p i hi h;rw[Co];cases i with
  |zero=>have h':X p x=none:=by simpa using h
         rw[h']
  |succ i=>
   rw[ih (p:=p+1) (i:=i) (by simpa using hi) (by rw[show p+1+i=p+(i+1) by omega];simpa using h)];split<;>rfl
def Acp{α β:Type}{X:Nat->α->Option β}{d:α}{e:β}:∀{l:List α} {p:Nat},(∀i,i<l.length->X (p+i) (l[i]?.getD d)≠none)->Co X p l=some ((List.range l.length).map fun i=>(X (p+i) (l[i]?.getD d)).getD e):=by
 intro l
 induction l with
 |nil=>intro p _;rfl
 |cons x l ih=>
  intro p h;have h0:=h 0 (by simp);simp only[q_jp,q_jv,q_jz] at h0;have hr:=ih (p:=p+1) (fun i hi=>by
   have:=h (i+1) (by simp;omega);rw[show p+1+i=p+(i+1) by omega];simpa using this)
  rw[Co];cases hx:X p x with
  |none=>exact absurd hx h0
  |some u=>
   simp only[hr];rw[q_jk,List.range_succ_eq_map,q_h,List.map_map];simp only[q_jp,q_jv,q_jz,hx];congr 2;apply List.map_congr_left;intro i _;simp only[Function.comp,q_kf];rw[show p+1+i=p+(i+1) by omega]
def Agp{α β γ:Type}{X:Nat->β->Option γ}{g:α->β}:∀{l:List α} {p:Nat},Co X p (l.map g)=Co (fun i x=>X i (g x)) p l:=by
 intro l
 induction l with
 |nil=>intro p;rfl
 |cons x l ih=>intro p;simp only[q_h,Co,ih]
def Ago{α β:Type}{X Y:Nat->α->Option β}:∀{l:List α} {p:Nat},(∀i,∀x∈l,X i x=Y i x)->Co X p l=Co Y p l:=by
 intro l
 induction l with
 |nil=>intro p _;rfl
 |cons x l ih=>
  intro p h;simp only[Co];rw[h p x (by simp),ih (fun i y hy=>h i y (by simp[hy]))]
def Agq{α β γ:Type}{X:Nat->α->Option β}{g:β->γ}:∀{l:List α} {p:Nat},Co (fun i x=>(X i x).map g) p l=(Co X p l).map (List.map g):=by
 intro l
 induction l with
 |nil=>intro p;rfl
 |cons x l ih=>
  intro p;simp only[Co];cases X p x with
  |none=>rfl
  |some u=>
   simp only[q_jh,ih];cases Co X (p+1) l<;>rfl
def Er:Option (List SV)->SV
 |some r=>.tup [.agg true r,.bool true]
 |none=>.tup [.agg true (tv zT),.bool false]
def l7:Le (.tup [.agg true [.int .i64 0,.int .i64 0,.int .i64 0,.int .i64 0,.nils],.bool false]) (Er none):=by
 refine .tup _ _ (.cons _ _ _ _ ?_ (.cons _ _ _ _ (.cell _ _ (.refl _)) .nil));have h:=Arb;cases h with
 |val _ _ h=>exact h
def Ajk(k i j n:Int):Le (.tup [.agg true [.int .i64 k,.int .i64 i,.int .i64 j,.int .i64 n,.nils],.bool true]) (Er (some [.int .i64 k,.int .i64 i,.int .i64 j,.int .i64 n,.dsl 5 []])):=by
 refine .tup _ _ (.cons _ _ _ _ ?_ (.cons _ _ _ _ (.cell _ _ (.refl _)) .nil));have h:=Su k i j n;rw[As] at h;cases h with
 |val _ _ h=>exact h
def Nr(kk i k fr:Int):Option Int:=if kk=2/\fr<=i then (if 2147483647-i<k then none else some (i+k)) else some i
def m8(kk i j n k fr:Int)(r:Option (GV)):Option (List SV):=
 (Nr kk i k fr).bind fun i'=>r.map fun rs=>[.int .i64 kk,.int .i64 i',.int .i64 j,.int .i64 n,.dsl 5 rs]
def Ay7(kk i j n k fr:Int)(rows:GV)(X:Nat->List SV->Option (List SV))(h2:rows.length*56<=140737488355328)(h5:∀r∈rows,r.length=5)
  (hi:kk=2->0<=i/\i<=2147483647) (hk:0<=k) (hfr:0<=fr) (hfr2:fr<=1000000000000) (hX:∀p:Nat,∀r∈rows,∀u,X p r=some u->u.length=5)
  (H:∀p:Nat,∀r∈rows,Con 57 [.agg true r,.int .i64 k,.int .i64 (fr+Cf kk p)] (Er (X p r))) :
  Con 57 [.agg true [.int .i64 kk,.int .i64 i,.int .i64 j,.int .i64 n,.dsl 5 rows],.int .i64 k,.int .i64 fr] (Er (m8 kk i j n k fr (Co X 0 rows))):=by
 unfold m8;have main:∀i',Nr kk i k fr=some i'->Con 57 [.agg true [.int .i64 kk,.int .i64 i,.int .i64 j,.int .i64 n,.dsl 5 rows],.int .i64 k,.int .i64 fr] (Er ((Co X 0 rows).map fun rs=>[.int .i64 kk,.int .i64 i',.int .i64 j,.int .i64 n,.dsl 5 rs])):=by
  intro i' hI;unfold Nr at hI;have Mm:((List.range rows.length).map fun p=>(X p (rows[p]?.getD [])).getD []).length=rows.length:=by simp
  have Uk:∀x,x<rows.length->((List.range rows.length).map fun p=>(X p (rows[p]?.getD [])).getD [])[x]?.getD []=(X x (rows[x]?.getD [])).getD []:=fun x hx=>by
   rw[q_ji,q_kk hx];rfl
  have Vw:(∀x,x<rows.length->X x (rows[x]?.getD [])≠none)->Co X 0 rows=some ((List.range rows.length).map fun p=>(X p (rows[p]?.getD [])).getD []):=fun h=>by
   rw[Acp (d:=[]) (e:=[]) (fun x hx=>by rw[q_jg];exact h x hx)];simp only[q_jg]
  generalize ((List.range rows.length).map fun p=>(X p (rows[p]?.getD [])).getD [])=ys at *
  have Adl:(kk=2/\fr<=i/\IntKind.i64.wrap (2147483647-i)=2147483647-i/\¬2147483647-i<k/\IntKind.i64.wrap (i+k)=i'/\(kk==2)=true)\/(i'=i/\(kk==2)=false)\/(i'=i/\(kk==2)=true/\¬fr<=i):=by
   by_cases h1:kk=2
   ·by_cases h2:fr<=i
    ·rw[if_pos ⟨h1,h2⟩] at hI;obtain⟨g1,g2⟩:=hi h1;split at hI
     ·cases hI
     ·rename_i Ag;cases hI;exact .inl ⟨h1,h2,w64 (by unfold fit;omega),Ag,w64 (by unfold fit;omega),by simp[h1]⟩
    ·rw[if_neg (fun h=>h2 h.2)] at hI;cases hI;exact .inr (.inr ⟨rfl,by simp[h1],h2⟩)
   ·rw[if_neg (fun h=>h1 h.1)] at hI;cases hI;exact .inr (.inl ⟨rfl,by simp[h1]⟩)
  by_cases hz:rows=[]
  ·subst hz;refine (Au (r:=.tup [.agg true [.int .i64 kk,.int .i64 i',.int .i64 j,.int .i64 n,.nils],.bool true]) mixed Tryz.func57 tr57 ?_).weaken (Ajk _ _ _ _);rcases Adl with⟨_,q1,q2,q3,q4,q5⟩|⟨rfl,q1⟩|⟨rfl,q1,q2⟩
   ·simp only[go_sem,seval,q1,q2,q3,q4,q5]
   ·simp only[go_sem,seval,q1]
   ·simp only[go_sem,seval,q1,q2]
  ·have Fl:((rows.length:Int)==0)=false:=by
    have:rows.length≠0:=fun h=>hz (q_lb.1 h)
    simp;omega
   have Du:(rows.length:Int)*56<=140737488355328:=by omega
   have Mn:(rows.length:Int)<=140737488355328:=by omega
   have hz4:(0:Int)<=(rows.length:Int):=by omega
   have core:∀r0,(Co X 0 rows=none->r0=.tup [.agg true [.int .i64 0,.int .i64 0,.int .i64 0,.int .i64 0,.nils],.bool false]) ->
     (∀us,Co X 0 rows=some us->r0=.tup [.agg true [.int .i64 kk,.int .i64 i',.int .i64 j,.int .i64 n,.dsl 5 us],.bool true]) ->
     Con 57 [.agg true [.int .i64 kk,.int .i64 i,.int .i64 j,.int .i64 n,.dsl 5 rows],.int .i64 k,.int .i64 fr] r0:=by
    intro r0 hn hs;refine Au mixed Tryz.func57 tr57 ?_;rcases Adl with⟨_,q1,q2,q3,q4,q5⟩|⟨rfl,q1⟩|⟨rfl,q1,q2⟩
    simp only[go_sem,seval,q1,q2,q3,q4,q5,Fl,Du,Mn,hz4,Int.le_refl];clear q1 q2 q3 q4 q5;rotate_left;simp only[go_sem,seval,q1,Fl,Du,Mn,hz4,Int.le_refl];clear q1;rotate_left;simp only[go_sem,seval,q1,q2,Fl,Du,Mn,hz4,Int.le_refl];clear q1 q2;rotate_left
    all_goals
     intros;refine Rt (fun x=>⟨(.J::.int .i64 k::.int .i64 fr::.ref 0 0 0 0::.J::.J::.ref 1 0 0 0::.J::.osl 2 0 0 rows.length::Bo (jk2 (.J::.dsl 5 rows::.int .i64 rows.length::.int .i64 x::Do (jk8 (jk2 (.J::[])))))),[⟨true,5,[[.int .i64 kk,.int .i64 i',.int .i64 j,.int .i64 n,.dsl 5 rows]],0,0,true⟩,⟨true,5,[[.int .i64 0,.int .i64 0,.int .i64 0,.int .i64 0,.nils]],0,0,true⟩,⟨false,5,ys.take x++List.replicate (ys.length-x) [.int .i64 0,.int .i64 0,.int .i64 0,.int .i64 0,.nils],0,0,true⟩]⟩) rows.length (fun x=>X x (rows[x]?.getD [])≠none) (fun x hx hp=>?_) ?_
     ·simp only[go_sem,seval];refine⟨fun h=>?_,fun h=>?_⟩
      ·have Ag:=q_kx h;have Cr:x<rows.length:=by omega
       have e0:(0:Int)<=(x:Int):=by omega
       have hm:=Hi (d:=[]) Cr;have Gj:=h5 _ hm;have hb:=Qq kk x;have ew:IntKind.i64.wrap (fr+Cf kk x)=fr+Cf kk x:=w64 (by unfold fit;omega);have hc:=H x _ hm;simp only[go_sem,seval,Ag,e0,Gj];refine Af (Am1 kk x) ?_;simp only[go_sem,seval,ew];refine Af hc ?_;cases Ma:X x (rows[x]?.getD []) with
       |none=>
        have Fl:=Ch zT;simp only[go_sem,seval,Er,Fl];exact hn (Aco (d:=[]) (i:=x) Cr (by rw[q_jg];exact Ma))
       |some u=>
        have hu:=hX x _ hm u Ma;have hy:=Uk x Cr;rw[Ma,q_jz] at hy;simp only[go_sem,seval,Er,hu,Cr,Mm];have ts:=Biu (l:=ys) (z:=[.int .i64 0,.int .i64 0,.int .i64 0,.int .i64 0,.nils]) (d:=[]) (i:=x) (by omega);rw[hy,Mm] at ts;refine⟨⟨e0,Ag⟩,by simp[Mm];omega,?_⟩;rw[w64 (n:=(x:Int)+1) (by unfold fit;omega),show (x:Int)+1=((x+1:Nat):Int) by omega];exact Fp 3 (by simp[Ba]) (by simp only[List.take_succ_cons,List.take_zero,ts]) (by simp[Cx]) (by simp)
      ·have Fy:=q_ky h;have Ml:x=rows.length:=by omega
       have he:=Vw (fun y hy=>hp y (by omega));subst Ml;have ht:ys.take rows.length=ys:=by rw[<-Mm,q_km]
       simp only[go_sem,seval,h,Mm,ht,Nat.sub_self,List.replicate_zero,q_k];exact hs _ he
     ·simp only[List.take_zero,q_kn,q_kr,Mm];exact Bk (by simp[Ba])
   cases hA:Co X 0 rows with
   |none=>
    refine (core _ (fun _=>rfl) (fun us h=>?_)).weaken l7;rw[hA] at h;cases h
   |some us=>
    refine core _ (fun h=>?_) (fun us' h=>?_)
    ·rw[hA] at h;cases h
    ·rw[hA] at h;cases h;rfl
 cases hI:Nr kk i k fr with
 |some i'=>exact main i' hI
 |none=>
  simp only[Option.bind_none];unfold Nr at hI;split at hI;rotate_left
  ·cases hI
  rename_i hc;obtain⟨rfl,hle⟩:=hc;split at hI;rotate_left
  ·cases hI
  rename_i Ag;obtain⟨g1,g2⟩:=hi rfl;refine (Au (r:=.tup [.agg true [.int .i64 0,.int .i64 0,.int .i64 0,.int .i64 0,.nils],.bool false]) mixed Tryz.func57 tr57 ?_).weaken l7;have ew:IntKind.i64.wrap (2147483647-i)=2147483647-i:=w64 (by unfold fit;omega);simp only[go_sem,seval,hle,ew,Ag]
end Go.Proofs.YtgdkddjdhijfnaaGreatDoor.Abs
