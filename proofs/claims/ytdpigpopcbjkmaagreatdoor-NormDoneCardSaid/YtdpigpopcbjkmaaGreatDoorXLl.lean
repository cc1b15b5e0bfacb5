import Derived.Test.YtdpigpopcbjkmaaGreatDoorXPj
import Derived.Test.YtdpigpopcbjkmaaGreatDoorXNe
import Derived.Test.YtdpigpopcbjkmaaGreatDoorXTs
import Derived.Test.YtdpigpopcbjkmaaGreatDoorXAby
import Derived.Handed
set_option linter.unusedSimpArgs false
set_option linter.unusedVariables false
set_option maxRecDepth 20000
set_option maxHeartbeats 4000000
namespace Go.Proofs.YtdpigpopcbjkmaaGreatDoor.Nrm
open Go Go.RowKit
end Go.Proofs.YtdpigpopcbjkmaaGreatDoor.Nrm
namespace Go.Proofs.YtdpigpopcbjkmaaGreatDoor.Abs
open Go Go.RowKit Go.Proofs.YtdpigpopcbjkmaaGreatDoor
theorem Bhb:Xe Tryz.prog Tryz.f21=some (af21,11,44,[4,5],2):=by kernel_rfl
theorem A4c{t r:Tm}(ht:TOk t)(hp:Cb t=true){b:Nat}{L:Int}(hL:Con 34 [.float .f64 b] (.int .i64 L)){G':GV}{v:Vl}{G1:GV}(hH:Ad 46 [Du,Et,[.undef],Bu 0 L 0 0 2,thR ⟨t,[],false,none,none⟩] [.gp 3 0,.gp 4 0] (.ret (vlV v)) G1)(hQ:Ad 45 G1 [.gp 3 0,vlV v,.int .i64 0] (.ret (.agg true (tv r))) G')(g0:G'[0]?=some Du)(g1:G'[1]?=some Et) :
  Con 21 [.agg true (tv t),.float .f64 b] (.tup [.agg true (tv r),.int .i64 0]):=by
 refine Ah6 mixed Tryz.func21 Bhb Alf Nrm.idle_head (Wt _ _) (Abb _ _) ?_;have hc:=Vp t ht;rw[show Es t 2=true from hp] at hc;have hn:=Yg [Du,Et] L;have hl:=Px [Du,Et,[.undef],Bu 0 L 0 0 2] t [];have Ot:Ad 36 [Du,Et,[.undef],Bu 0 L 0 0 2] [.agg true (tv t),.nilp] (.ret (.gp 4 0)) [Du,Et,[.undef],Bu 0 L 0 0 2,thR ⟨t,[],false,none,none⟩]:=hl;clear hl;have h5:=Af t;generalize thR ⟨t,[],false,none,none⟩=th at *
 have h6:=Af r;have h7:Ec (tv r)=false:=by cases r;rw[Am];rfl
 generalize tv r=r0 at *
 generalize tv t=row at *
 unfold Agd;simp only[go_sem,seval,h5];refine Aa hc ?_;simp only[go_sem,seval,h5];refine⟨_,rfl,by simp,_,.trans (.promo _ 2 _ [] Du rfl rfl rfl rfl rfl rfl (by decide) (by simp) (by simp[Oc,In,St.put]) (fun q ob' h1 h2 h3 h4=>?_)) (.promo _ 3 _ [Du] Et rfl rfl rfl rfl rfl rfl (by decide) (by simp) (by simp[Oc,In,St.put,Gd]) (fun q ob' h1 h2 h3 h4=>?_)),?_⟩
 ·match q,h1 with
  |0,h1=>cases h1;cases h3
  |1,h1=>cases h1;cases h4
  |2,_=>exact absurd rfl h2
  |3,h1=>cases h1;cases h4
  |q+4,h1=>simp[St.put] at h1
 ·match q,h1 with
  |0,h1=>cases h1;cases h3
  |1,h1=>cases h1;cases h4
  |2,h1=>cases h1;cases h3
  |3,_=>exact absurd rfl h2
  |q+4,h1=>simp[St.put] at h1
 simp only[go_sem,seval,Eu,h5];refine Aa hL ?_;simp only[go_sem,seval,Eu,h5];refine Ac hn ?_;simp only[go_sem,seval,Eu,h5];refine Ac Ot ?_;simp only[go_sem,seval,Eu,h5];refine Ac hH ?_;simp only[go_sem,seval,Eu,h5];refine Ac hQ ?_;have g0':G'[0]?=some [.int .i64 0,.int .i64 0,.int .i64 0,.int .i64 0,.nils]:=g0;have g1':G'[1]?=some [.int .i64 0]:=g1;have l0:0<G'.length:=Dh g0;have l1:1<G'.length:=Dh g1;have gs1:(G'.set 0 r0)[1]?=some [.int .i64 0]:=by rw[List.getElem?_set_ne (by decide)];exact g1'
 have gt0:∀x:List SV,((G'.set 0 r0).set 1 x)[0]?=some r0:=fun x=>by rw[List.getElem?_set_ne (by decide)];exact List.getElem?_set_self l0
 have gt1:∀x:List SV,((G'.set 0 r0).set 1 x)[1]?=some x:=fun x=>List.getElem?_set_self (by rw[List.length_set];exact l1)
 simp only[go_sem,seval,Eu,h5,h6,h7,g0',g1',gs1,gt0,gt1]
theorem NR.post{B:BT}{d N n:Nat}{T U r:Tm}(h:NR B d T N r)(hr:HR (plD B) n T U):n<=N/\NR B d U (N-n) r:=by
 cases h with
 |fv h=>
  obtain⟨a,b⟩:=Uh h (Sa _) hr;exact⟨a,.fv b⟩
 |@nd _ n1 _ k i j n' l rs Ns h hn h0 hN hrl hk=>
  obtain⟨a,b⟩:=Uh h hn hr;refine⟨by omega,?_⟩;rw[show n1+Ns.sum-n=(n1-n)+Ns.sum by omega];exact .nd b hn h0 hN hrl hk
theorem A9h{t x:Tm}{n C M:Nat}(hp:PT C M t)(hn:NR symT.B 0 (Ao [] 0 t) n x)(hC:C<=2000000)(hM:M<=4000)(b:Nat) :
  Con 14 [.agg true (tv t),.float .f64 b] (.tup [.agg true (tv x),.int .i64 0])\/Con 14 [.agg true (tv t),.float .f64 b] (.tup [.agg true (tv zt),.int .i64 6]):=by
 obtain⟨L,h1,h2,h3⟩:=Ac2 b;have hd:=Nf t;have hz:=hp.sz;have hc:cap=1099511627776:=rfl;rcases Am5 Ae9 (hp.tok (by omega)) hp.pl ⟨C,hp.sf,by omega⟩ h2 h1 with⟨N,r,k1,k2⟩|⟨k1,k2⟩
 ·obtain⟨rfl,rfl⟩:=NR.det k1 hn;exact .inl k2
 ·exact .inr k1
theorem Ao8{B:Nat}{t:Tm}(h:Sf B t):∀b,tsz (Ao [] b t)=tsz t:=by
 induction h with
 |@var B i h=>
  intro b;show tsz (trT (ivI []) (fun _ l=>fT l) b (vT i))=_;rw[Cm];unfold ivI;split<;>rfl
 |@nd B k i j n l h2 h0 hf hl hk ih=>
  intro b;rw[Mp h2 h0,Gk,Gk];congr 2;apply List.ext_getElem?;intro q;rw[List.getElem?_map,Ep,List.getElem?_map];cases hq:l[q]? with
  |none=>rfl
  |some t=>
   simp only[Option.map_some,q_b];exact ih q t hq _
section
variable{S:SyT}{m j:Nat}{Γ:Gh}
def RnT(S:SyT)(m j:Nat)(Γ:Gh)(t:Tm):Prop:=∀{G:GV} {M:Mc} {o d B:Nat},RInv S m j G Γ M->Sf B t->B+dpt t<=cap->o+dpt t<=cap->d<=cap->M.guess=0->M.seen+tsz t<=8000000 ->
 ∃G' M',Ad 66 G [.gp m 0,.agg true (tv t),Aw [],.int .i64 (o:Nat),.int .i64 (d:Nat)] (.ret (.agg true (tv (unl d o (Ao [] o t))))) G'/\RInv S m j G' Γ M'/\M'.guess=0/\M'.seen<=M.seen+tsz t
theorem Bel{k:Int}{o d B:Nat}(ho:o+2<=cap+2)(hd:d<=cap):∀(l:List Tm) (p:Nat) {G:GV} {M:Mc},(∀t∈l,RnT S m j Γ t)->RInv S m j G Γ M->(∀(q:Nat) t,l[q]?=some t->Sf (B+bnd k (p+q)) t/\B+bnd k (p+q)+dpt t<=cap/\o+bnd k (p+q)+dpt t<=cap)->M.guess=0->M.seen+(l.map tsz).sum<=8000000 ->
  ∃G' M',RwR m [] (o:Nat) (d:Nat) k p l G (.inl (rwL d [] o k p l)) G'/\RInv S m j G' Γ M'/\M'.guess=0/\M'.seen<=M.seen+(l.map tsz).sum:=by
 intro l
 induction l with
 |nil=>intro p G M _ hi _ hg _;exact⟨_,_,.nil,hi,hg,Nat.le_add_right _ _⟩
 |cons t l ih=>
  intro p G M IH hi hl hg h8;obtain⟨a1,a2,a3⟩:=hl 0 t rfl;rw[Nat.add_zero] at a1 a2 a3;simp only[q_h,List.sum_cons] at h8 |-;obtain⟨G1,M1,h1,i1,g1,s1⟩:=IH t (List.mem_cons_self ..) (o:=o+bnd k p) (d:=d) hi a1 a2 a3 hd hg (by omega);rw[Int.natCast_add] at h1;obtain⟨G2,M2,h2,i2,g2,s2⟩:=ih (p+1) (fun u hu=>IH u (List.mem_cons_of_mem _ hu)) i1 (fun q t hq=>by
   have:=hl (q+1) t (by simpa using hq)
   rwa [show p+(q+1)=p+1+q by omega] at this) g1 (by omega)
  exact⟨G2,M2,.cons h1 h2,i2,g2,by omega⟩
theorem Bek(t:Tm):RnT S m j Γ t:=by
 induction t using Tm.ind with
 |h k i j' n l ih=>
 intro G M o d B hi hs hB hE hd hg h8;have hc:cap=1099511627776:=rfl;have Ch:=Vd (.mk k i j' n l);obtain⟨out,G1,s1,p1⟩:=Aft hi (by omega);cases p1 with
 |far _ _ h=>omega
 |out _ _ h=>omega
 |@ret _ M1 i1 mm h1 h2 Dn=>
  have g1:=mm.guess hg
  by_cases k2:k=2
  ·subst k2;obtain⟨q,rfl,rfl,rfl,rfl,hq⟩:=hs.vr;have hinst:Ao [] o (.mk 2 (q:Int) 0 0 [])=ivI [] o q:=Cm _ _;rw[hinst]
   by_cases c:q<o
   ·have e1:unl d o (ivI [] o q)=.mk 2 (q:Int) 0 0 []:=by
     unfold ivI;rw[if_pos c,Bhp];rfl
    rw[e1];exact⟨_,_,Bd6 s1 (by omega),i1,g1,by omega⟩
   ·have e1:unl d o (ivI [] o q)=.mk 2 ((q:Int)-(([]:List Nat).length:Nat)+d) 0 0 []:=by
     unfold ivI;rw[if_neg c];simp only[List.getElem?_nil,List.length_nil];rw[Apc];unfold vZ;congr 1<;>omega
    rw[e1];exact⟨_,_,Bd3 s1 (by omega) (by unfold fit;omega) rfl (by simp only[List.length_nil];unfold fit;omega) (by simp only[List.length_nil];unfold fit;omega),i1,g1,by omega⟩
  ·obtain⟨k0,hf,hl⟩:=hs.node k2;rw[Bhn k2 k0]
   by_cases As:l=[]
   ·subst As;exact⟨_,_,Bd4 s1 k2,i1,g1,by omega⟩
   have Ah:l.length<=100:=by have:=Nx k n;omega
   have Hb:∀p,fit (((o:Nat):Int)+(bnd k p:Nat)):=fun p=>by
    have:=Tb k p;unfold fit;omega
   rw[Gk] at h8 |-;obtain⟨G2,M2,r2,i2,g2,q2⟩:=Bel (k:=k) (o:=o) (B:=B) (by omega) hd l 0 ih i1 (fun q t ht=>by
    have a:=hs.kid ht;have b:=Jy (k:=k) (i:=i) (j:=j') (n:=n) ht;rw[Nat.zero_add];exact⟨a,by omega,by omega⟩) g1 (by omega)
   exact⟨_,_,Bd5 s1 k2 As Ah Hb r2,i2,g2,by omega⟩
def TnT(S:SyT)(m j:Nat)(Γ:Gh)(v:Vl):Prop:=∀{G:GV} {M:Mc} {d:Nat},RInv S m j G Γ M->d<=cap->M.guess=0->M.seen+tsz (TV Γ v)<=8000000 ->
 ∃G' M',Ad 45 G [.gp m 0,vlV v,.int .i64 (d:Nat)] (.ret (.agg true (tv (unl d 0 (TV Γ v))))) G'/\RInv S m j G' Γ M'/\M'.guess=0/\M'.seen<=M.seen+tsz (TV Γ v)
theorem Bgu{k:Int}{d:Nat}(hd:d<=cap):∀(l:List Nat) (p:Nat) {G:GV} {M:Mc},RInv S m j G Γ M->M.guess=0->M.seen+((Fk Γ k p l).map tsz).sum<=8000000 ->
  (∀(q:Nat) id,l[q]?=some id->∃g,Γ[id]?=some (some g)/\g.Ok (bnd k (p+q))/\(∀t es,g=.cl t es->es=[])/\∀y T,g=.dn y T->TnT S m j Γ y) ->
  ∃G' M',ToR m (d:Nat) k p l G (.inl (unL d k p (Fk Γ k p l))) G'/\RInv S m j G' Γ M'/\M'.guess=0/\M'.seen<=M.seen+((Fk Γ k p l).map tsz).sum:=by
 intro l
 induction l with
 |nil=>intro p G M hi hg _ _;exact⟨_,_,.nil,hi,hg,Nat.le_add_right _ _⟩
 |cons i l ih=>
  intro p G M hi hg h8 hl;obtain⟨g,Tz,ho,hcl,Ru⟩:=hl 0 i rfl;rw[Nat.add_zero] at ho;have hb:=Tb k p;have hc:cap=1099511627776:=rfl;rw[Fk,Mb Tz,q_h,List.sum_cons] at h8 |-;have key:∃G1 M1,ToK m (d:Nat) (bnd k p) i G (.ret (.agg true (tv (unl d (bnd k p) (g.den (bnd k p)))))) G1/\RInv S m j G1 Γ M1/\M1.guess=0/\M1.seen<=M.seen+tsz (g.den (bnd k p)):=by
   obtain⟨th,t1,_⟩:=hi.rows i g Tz;cases g with
   |kp row=>exact ho.elim
   |dn v T=>
    obtain⟨z,_⟩:=ho;obtain⟨q1,q2,q3,q4,rfl⟩:=t1;obtain⟨G1,M1,h1,i1,g1,s1⟩:=Ru v _ rfl (d:=d) hi hd hg (by simp only[Ge.den] at h8;omega);rw[z];exact⟨G1,M1,.no rfl (Art q1 q2 q3 h1 (.inl ⟨_,rfl⟩)),i1,g1,s1⟩
   |cl t es=>
    obtain rfl:=hcl t es rfl;obtain⟨tt,te,tb,tw,tx⟩:=th;obtain⟨q1,q2,q3,q4,_⟩:=t1;obtain⟨o1,⟨B,o2,o4⟩,o3⟩:=ho;simp only at q2 q3 q4;subst q2 q3;have Hd:te=[]:=List.length_eq_zero_iff.1 q4.len;subst Hd;simp only[Ge.den,List.length_nil] at h8 o3 |-;rw[Ao8 o2] at h8 |-;obtain⟨G1,M1,h1,i1,g1,s1⟩:=Bek tt (o:=bnd k p) (d:=d) hi o2 o4 (by omega) hd hg (by omega);rcases Nat.eq_zero_or_pos (bnd k p) with hz|hz
    ·rw[hz] at h1 |-;exact⟨G1,M1,.no rfl (Aru q1 rfl h1 (.inl ⟨_,rfl⟩)),i1,g1,s1⟩
    ·exact⟨G1,M1,.yes hz q1 h1,i1,g1,s1⟩
  obtain⟨G1,M1,h1,i1,g1,s1⟩:=key;obtain⟨G2,M2,h2,i2,g2,s2⟩:=ih (p+1) i1 g1 (by omega) (fun q t hq=>by
   have:=hl (q+1) t (by simpa using hq)
   rwa [show p+(q+1)=p+1+q by omega] at this)
  exact⟨G2,M2,.cons h1 h2,i2,g2,by omega⟩
theorem Bgz{v:Vl}(h:NV Γ v):VOK Γ v->TnT S m j Γ v:=by
 induction h with
 |@mk v a c dd ih=>
 intro hv G M d hi hd hg h8;have hc:cap=1099511627776:=rfl;cases hv with
 |fv lv hl=>
  have e:unl d 0 (TV Γ ⟨2,0,0,0,lv,[]⟩)=.mk 2 ((d:Int)-1-lv) 0 0 []:=by
   rw[n9,Apc];unfold vZ;congr 1<;>omega
  rw[e];exact⟨_,_,Bg1 rfl (by unfold fit;omega) (by simp only;unfold fit;omega),hi,hg,Nat.le_add_right _ _⟩
 |@nd k i j' n kids h2 h0 hf hl hk=>
  have e0:TV Γ ⟨k,i,j',n,0,kids⟩=.mk k i j' n (Fk Γ k 0 kids):=Jw (show (Vl.mk k i j' n 0 kids).k≠2 from h2);have e:unl d 0 (TV Γ ⟨k,i,j',n,0,kids⟩)=.mk k i j' n (unL d k 0 (Fk Γ k 0 kids)):=by
   rw[e0,Apd h2 h0,Bhk]
  rw[e]
  by_cases As:kids=[]
  ·subst As;exact⟨_,_,Ao2 h2 rfl,hi,hg,Nat.le_add_right _ _⟩
  have Ah:kids.length<=100:=by have:=Nx k n;omega
  rw[e0,Gk] at h8 |-;obtain⟨G',M',hr,i1,g1,s1⟩:=Bgu (k:=k) hd kids 0 hi hg (by omega) (fun q id hq=>by
   obtain⟨g,Tz,ho⟩:=hk q id hq;rw[Nat.zero_add];refine⟨g,Tz,ho,fun t es e=>?_,fun y T e=>?_⟩
   ·subst e;exact c q id t es hq Tz
   ·subst e;obtain⟨th,t1,_⟩:=hi.rows id _ Tz;obtain⟨_,_,_,w,e⟩:=t1;exact ih q id y T hq Tz w.ok)
  have Ox:unL d k 0 (Fk Γ k 0 kids)≠[]:=fun c=>by
   have:=congrArg List.length c;rw[Bhl,Nz] at this;exact As (List.length_eq_zero_iff.1 this)
  exact⟨_,_,Bg0 (v:=⟨k,i,j',n,0,kids⟩) h2 As Ah hr Ox,i1,g1,by omega⟩
end
theorem A4i{P Q:Tm->Option Tm}(h:∀t u,P t=some u->Q t=some u){T:Tm}(hn:HN Q T):HN P T:=by
 induction hn with
 |@mk T h1 hk ih=>
  refine .mk ?_ ih;cases hp:P T with
  |none=>rfl
  |some u=>rw[h T u hp] at h1;cases h1
theorem A4d{x:Tm}(hp:PT 60000000 4000 x)(hn:HN (Az symT.B) x)(b:Nat):Con 21 [.agg true (tv x),.float .f64 b] (.tup [.agg true (tv x),.int .i64 0]):=by
 obtain⟨L,h1,h2,h3⟩:=Ac2 b;have hd:=Nf x;have hz:=hp.sz;have hc:cap=1099511627776:=rfl;have hI:=Alg (S:=symT) [Du,Et] x L h1;have hD:HN (plD symT.B) (Ao [] 0 x):=by have:=Akn (d:=0) Xk hn hp.sf;rwa [lv_0] at this
 obtain⟨v,G1,Γ1,c1,x1,i1,w1,t1,v1⟩:=headN Ae9 (id:=4) hI rfl rfl ⟨60000000,hp.sf,by omega⟩ hD (A4i plWD hD) rfl;obtain⟨G2,M2,c2,i2,g2,s2⟩:=Bgz v1 w1.ok (d:=0) i1 (Nat.zero_le _) rfl (by rw[t1,Ao8 hp.sf];simp only;omega);have e:unl 0 0 (TV Γ1 v)=x:=by rw[t1,<-lv_0];exact Bho hp.sf 0 0
 rw[e] at c2;exact A4c (hp.tok (by omega)) hp.pl h2 c1 c2 (kept (K:=[Du,Et]) x1 i2 rfl) (kept (K:=[Du,Et]) x1 i2 rfl)
theorem A9l{x:Tm}(hp:PT 1048576 4000 x)(hn:Nm symT.B x)(b:Nat):Con 14 [.agg true (tv x),.float .f64 b] (.tup [.agg true (tv x),.int .i64 0]):=by
 obtain⟨L,h1,h2,h3⟩:=Ac2 b;have hd:=Nf x;have hz:=hp.sz;have hc:cap=1099511627776:=rfl;have Hm:=Anf Xk (A8t hn hp.sf 0) hp.sf;rcases Am5 Ae9 (hp.tok (by omega)) hp.pl ⟨1048576,hp.sf,by omega⟩ h2 h1 with⟨N,r,k1,k2⟩|⟨k1,k2⟩
 ·obtain⟨rfl,rfl⟩:=NR.det k1 Hm;exact k2
 ·have:=k2 0 x Hm;omega
theorem A1r(k:Int):∀(l:List Tm) (p:Nat),0<=Rl k p l:=by
 intro l
 induction l with
 |nil=>intro p;rw[Rl];omega
 |cons t l ih=>intro p;rw[Rl];have:=ih (p+1);omega
theorem A1t{C:Nat}{t:Tm}(h:Sf C t):0<=Ev t:=by
 cases h with
 |var h=>unfold vT;rw[Ev,if_pos rfl];omega
 |nd i j n h2=>rw[Ev,if_neg h2];exact A1r _ _ _
theorem Aup{t:Tm}(ht:TOk t)(b:Nat):Con 5 [.agg true (tv t),.float .f64 b] (.bool true):=by
 obtain⟨x,n,o,he,hx,hb⟩:=At9 plib ht;refine Al mixed Tryz.func5 tr5 ?_;have h5:=Af t;have h6:=Af x;have h7:=Af zt;have hs:=Av9 x hx;cases o with
 |false=>
  generalize tv t=r at *
  generalize tv x=r1 at *
  repeat' first
   |simp (config:={ maxSteps:=2000000 }) only[go_sem,seval,h5,h6]
   |refine Aa (he) ?_
   |rfl
 |true=>
  obtain⟨hp,hw,hz,hn⟩:=hb rfl;have Hm:=Anf Xk hw hp.sf;have q1:=A9h hp Hm (by omega) (by omega) b;have hms:ms 0=16004000:=by decide
  have Bl:=hp.sz;obtain⟨_,a2,a3,_⟩:=(Anr Xk hw rfl).1 t x rfl rfl _ hp.sf;obtain⟨a1,_⟩:=(Bb5 plib.bd hw rfl).1 t x rfl rfl 1048576 (by omega) (hp.mono (M':=4000) (by omega)) (by omega);have hpx:PT 1048576 4000 x:=⟨a1,a3,hz⟩
  have k1:=A9l hpx a2 0;have k2:=A4d ⟨a1,Aoc a3 (by omega),hz⟩ (Amy a2 a3) 0;have k3:=Vr x hx;rw[a1] at k3;have k4:=Ac4 x hx a1;have k5:=Ac4 t ht hp.pl;have hle:Ev x<=Ev t:=by
   have h0:=A1t hp.sf;have s1:=Aoa ht hp.pl (C:=(Ev t).toNat) (by omega);obtain⟨_,_,s2,_⟩:=(Anr Xk hw rfl).1 t x rfl rfl _ s1;have:=Ai5 s2;omega
  have hle':=decide_eq_true hle;generalize Ev x=f1 at *
  generalize Ev t=f2 at *
  generalize tv t=r at *
  generalize tv x=r1 at *
  generalize tv zt=r2 at *
  rcases q1 with h|h
  ·repeat' first
    |simp (config:={ maxSteps:=2000000 }) only[go_sem,seval,h5,h6,h7,hle']
    |refine Aa (he) ?_
    |refine Aa (h) ?_
    |refine Aa (k1) ?_
    |refine Aa (k2) ?_
    |refine Aa (k3) ?_
    |refine Aa (k4) ?_
    |refine Aa (k5) ?_
    |refine Aa (hs) ?_
    |refine Aa (Ah5) ?_
    |rfl
  ·repeat' first
    |simp (config:={ maxSteps:=2000000 }) only[go_sem,seval,h5,h6,h7]
    |refine Aa (he) ?_
    |refine Aa (h) ?_
    |refine Aa (Ah5) ?_
    |rfl
open Go Go.RowKit
theorem A6u{H:Type}{enc:TypeId×Value->H}{C:Checked}{os:Os}{f:FuncId}{fn:Func}{s:ChangeSpec}{S:List TypeId}{tb:TypeId}{apart Gs handsOn:Bool}{X:World->Array Value->Prop}(hX:∀(w w':World) (args:Array Value),w.heap=w'.heap->X w args->X w' args)(own:ownKnob C.prog.godebug=none)(started:os.Started)(noInit:C.prog.inits.idxOf? f=none)
  (Kc:C.prog.funcs[f]?=some fn) (Ak5:s.vars=[])
  (witness:∃(w:World) (tape:Tape) (i:Input),w.os=os/\(w.forCall tape i).Shaped C.prog/\i.vars=[]/\Input.okWide C.prog (w.forCall tape i) .any w.heap.size f i /\
   ((s.pre enc C.prog fn [] apart (w.forCall tape i).memory i.args/\X (w.forCall tape i).memory i.args)/\sizedMet enc C.prog fn (OpenSpec.ofChange s) apart (w.forCall tape i).memory i.args)/\({}:Assume).holds C.prog (lone (Frame.enter C.prog f i.args .normal) [] (w.forCall tape i)))
  (hs:∀ds:List (DataW H),ds.length=fn.params.size->s.fn H ds={ results:=[.lit (.bool true)],args:=ds }) (Ui:fn.resultTypes=#[tb]) (htb:C.prog.underlying tb=some .bool)
  (hS:Vu C.prog S=true) (hpar:∀t∈fn.params.toList,t∈S) (hlaid:laidOutB C.prog=true) (hread:∀t∈fn.params.toList,C.prog.readableRec t=true/\t<C.prog.types.size)
  (law:∀args:List SV,Sx C.prog fn.params.toList args->Contract C.prog f args (.bool true)) :
  ReturnsInHanded {} C os f .any (fun w args=>(s.pre enc C.prog fn [] apart w args/\X w args)/\sizedMet enc C.prog fn (OpenSpec.ofChange s) apart w args) (s.post enc C.prog fn apart Gs handsOn false):=by
 refine returnsInHanded_of_change_and (C:=C) (X:=X) hX own started noInit Kc witness ?_;intro W base args ds gs before Fj hW _ Bl _ _;have hW':=hW;have Ab:∀x∈before,x.block<W.heap.size:=fun x hx=>hW'.lt x hx
 obtain⟨p,q,hA,hV,rfl,Ty,hnd⟩:=hW;rw[Ak5] at hV;have hgs:gs=[]/\q=[]:=by
  cases gs with
  |nil=>exact⟨rfl,hV⟩
  |cons g gs=>exact hV.elim
 obtain⟨rfl,rfl⟩:=hgs;have Ki:∀n∈DataW.weightsEach C.prog fn.params.toList ds,n<=reachBytes:=by
  intro n hn;have:=List.all_eq_true.1 Bl n (Bim hn);simpa using this
 have Tv:ds.length=fn.params.size:=by
  have:=(trodAll_length hA).2;simpa using this
 obtain⟨xs,a1,a2,a3⟩:=Aqj hS hpar (fun j t v ht hv=>Fj j t v (by simpa using ht) (by simpa using hv)) Ki hA;have hc:=law xs a1 (Ms W) W args.toList ⟨fun b j v h=>h,fun b h=>h.elim⟩ a2.symm a3;refine Calls.mono hc (fun e W' he=>?_);obtain⟨v,m',rfl,k1,k2,k3,k4,k5,k6,k7,k8,k9⟩:=he;cases k1;have hb:Below W.heap.size W W':=⟨k5,k6,k7,k8,k9⟩
 refine⟨_,rfl,ds,[],p++[],[],p,[],hW',?_,?_,?_,hb.frame _,fun h=>by cases h⟩
 ·rw[List.append_nil,hs ds Tv,Ui];exact⟨[],[],⟨1,by simp[DataW.trod,htb,Value.cells]⟩,rfl,rfl⟩
 ·rw[List.append_nil,hs ds Tv];exact Bhc hlaid hb hread (fun x hx=>Ab x (by simpa using hx)) hA
 ·rw[List.append_nil,hs ds Tv,Ak5];rfl
end Go.Proofs.YtdpigpopcbjkmaaGreatDoor.Abs
