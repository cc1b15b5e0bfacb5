import Derived.Test.YtgfehkhcmnfpaaaGreatDoorXDo
import Derived.Test.YtgfehkhcmnfpaaaGreatDoorXAfN
import Derived.Test.YtgfehkhcmnfpaaaGreatDoorXTs
set_option linter.all false
set_option maxRecDepth 20000
set_option maxHeartbeats 4000000
namespace Go.Proofs.YtgfehkhcmnfpaaaGreatDoor.Abs
open Go Go.RowKit
def GRow.swap{m m':Mem}{w:World}{b:Nat}{row:List SV}(h:GRow m w b row)(hc:m'.c=m.c)(hp:∀b,m.p b->m'.p b)(hn:∀x∈row,NoG x):GRow m' w b row:=by
 cases h with
 |cells _ c e h1 h2 h3 h4=>exact .cells _ c e h1 h2 (fun k v x hv hx=>⟨(h3 k v x hv hx).1.swap hc hp (hn x (q_jb hx)),(h3 k v x hv hx).2⟩) h4
 |map es k l=>have:=hn .undef (by simp[Mg]);cases this
def Aq0{E:Env}{vs:List Value}{args:List SV}{k:Nat}(Bf:vs.length=args.length)(Cm:∀(j:Nat) v x,vs[j]?=some v->args[j]?=some x->RelV E v x)(i:Nat) :
  RelV E ((vs.toArray++Array.replicate (k-vs.toArray.size) undef).getD i undef) ((args++List.replicate (k-args.length) SV.undef).getD i .undef):=by
 rcases q_jo i vs.length with hi|hi
 ·have h1:(vs.toArray++Array.replicate (k-vs.toArray.size) undef).getD i undef=vs[i]:=by
   rw[Array.getD_eq_getD_getElem?,Array.getElem?_append_left (by simpa using hi)];simp[hi]
  have h2:(args++List.replicate (k-args.length) SV.undef).getD i .undef=args[i]'(by omega):=by
   rw[q_j,q_jf (by omega),q_f (by omega)];rfl
  rw[h1,h2];exact Cm i _ _ (q_f hi) (q_f (by omega))
 ·have h1:(vs.toArray++Array.replicate (k-vs.toArray.size) undef).getD i undef=undef:=by
   rw[Array.getD_eq_getD_getElem?,Array.getElem?_append_right (by simpa using hi)];simp only[Array.getElem?_replicate];split<;>rfl
  have h2:(args++List.replicate (k-args.length) SV.undef).getD i .undef=.undef:=by
   rw[q_j,q_jj (by omega),List.getElem?_replicate];split<;>rfl
  rw[h1,h2];exact .undef
def Gu(row:List SV)(cl:Bool):Ob:={ box:=true,sz:=row.length,els:=[row],frz:=0,gen:=777,cl:=cl }
def Pin (bt:Nat)(E:Env):Prop:=∃ob,E.H 1=some ob/\777<=ob.gen/\(ob.gen=777->E.β 1=bt)
instance stb_pin (bt:Nat):Nonempty (StB (Pin bt)):=⟨⟨fun E E' h ⟨ob,h1,h2,h3⟩=>by
  obtain⟨ob',k1,_,k3,k4⟩:=h.H 1 ob h1;exact⟨ob',k1,by omega,fun e=>by rw[(k4 (by omega)).1];exact h3 (by omega)⟩,fun E E' h hb ⟨ob,h1,h2,h3⟩=>⟨ob,h 1 ob h1 h2,h2,fun e=>by rw[hb];exact h3 e⟩⟩⟩
def Yx(rs:List AR)(G':GV)(row':List SV)(s:St):Prop:=
 match Ll s rs with
 |some (p,[],h)=>p/\gOf h=some G'/\∃r1 cl h2,h[1]?=some (Gu r1 cl)/\0<r1.length/\Cz h (.agg false r1)=some (.agg true row',h2)/\h2[1]?=h[1]?
 |_=>False
def rtL(rs:List AR)(G':GV)(row':List SV):AE->St->Prop:=fun e s=>match e with|.exit _=>False|_=>Yx rs G' row' s
def Ah1(C:CT)(f:AF)(R:List SV)(G:GV)(row:List SV)(G':GV)(row':List SV):Prop:=
 vc C f.body (rtL f.res G' row') { sl:=[.gp 0 0,.ref 1 777 0 0]++List.replicate (f.ntmps-2) .undef,hp:=[gOb (R::G),Gu row true] }
def Aqm{P:Program}{f:Nat}{fn:Func}{af:AF}{R R' row row':List SV}{G D:GV}(hm:P.follows .mixedOrders=true)(hf:P.funcs[f]?=some fn)(htr:trF P fn=some af)
  (hn:∀r∈R::(G++[row]),∀x∈r,NoG x) (Sp:∀r∈R'::(G++D),∀x∈r,NoG x) (Ny:∀x∈row',NoG x) (Ia:0<row.length)
  (h:Ah1 (Dy P fun _ _=>False) af R G row (R'::(G++D)) row'):HContract P f (R::(G++[row])) [.gp 0 0,.gp (G.length+1) 0] (.ret (.tup [])) (R'::(G++row'::D)):=by
 intro m w vs hmem hsat Bf Cm;unfold trF at htr;split at htr;rotate_left
 ·cases htr
 rename_i c hb;simp only[q_c,q_a,q_d,q_b] at htr;obtain⟨ars,Gq,ac,Ls,rfl⟩:=htr
 match vs,Bf with
 |[v0,v1],_=>
 have r0:=Cm 0 v0 _ rfl rfl;have r1:=Cm 1 v1 _ rfl rfl;cases r0 with
 |gp _ _ b0 d0 p0=>
 cases r1 with
 |gp _ _ bt dt pt=>
 have Xr:(R::(G++[row]))[G.length+1]?=some row:=by simp
 have hlenG:(R::(G++[row])).length=G.length+2:=by simp
 have Da:=hsat.row _ _ _ Xr dt;have Ae4:∀x∈row,NoG x:=hn row (by simp);cases Da with
 |map es k l=>have:=Ae4 .undef (by simp[Mg]);cases this
 |cells _ cb eb Qd Cb hcells honeAll=>
 let own:Nat->Prop:=fun b=>∃i,m.d i=some b
 let m1:Mem:=⟨m.c,fun i=>if i<G.length+1 then m.d i else none,m.p,fun i j b hi hj=>by
  split at hi
  ·split at hj
   ·exact m.inj i j b hi hj
   ·cases hj
  ·cases hi⟩
 have Nt:∀i b,m1.d i=some b->i<G.length+1/\m.d i=some b:=fun i b hi=>by
  simp only[m1] at hi;split at hi
  ·exact⟨‹_›,hi⟩
  ·cases hi
 have Pb:∀i b,i<G.length+1->m.d i=some b->m1.d i=some b:=fun i b hi hd=>by simp only[m1,if_pos hi];exact hd
 let E0:Env:={ m:=m1,m0:=m1,H:=fun o=>if o=1 then some (Gu row true) else none,β:=fun _=>bt,t:=fun o=>if o=1 then cb.size else 0 }
 have n8:∀o ob,E0.H o=some ob->o=1/\ob=Gu row true:=fun o ob ho=>by
  simp only[E0] at ho;split at ho
  ·cases ho;exact⟨‹_›,rfl⟩
  ·cases ho
 have Ad9:∀(k:Nat) (v:Value) (x:SV),cb[k]?=some v->row[k]?=some x->Rep m1 v x:=fun k v x hv hx=>(hcells k v x hv hx).1.swap (m:=m) (m':=m1) rfl (fun _ h=>h) (Ae4 x (q_jb hx))
 have hW:W w own E0 w:=by
  refine⟨rfl,rfl,rfl,q_ja _,fun _ _ _=>rfl,hmem.1,fun o ob ho=>?_,fun o o' ob ob' h1 h2 Cx=>?_,fun _ _ _ _=>rfl,hmem.2.1,TabM.tb (m:=m1) hmem.2.2 (fun b v hv hi=>by obtain⟨i,hi⟩:=hi;have h1:m b 0=some v:=hv;rw[hsat.free i b 0 hi] at h1;cases h1)⟩
  ·obtain⟨rfl,rfl⟩:=n8 o ob ho;refine⟨by simp[Gu],by simp[Gu],by simpa [Gu,E0] using Cb,fun _=>by simp[Gu],by simp[Gu],fun _=>⟨cb,eb,⟨Qd,by simp[E0],.inr ⟨_,dt⟩,fun k v x hv hx=>.rep _ _ (Ad9 k v x hv (by simpa [Gu] using hx)),honeAll,fun k hk=>by simp[Gu] at hk,fun k _=>hsat.free _ _ k dt,fun _ k v x hv hx=>Ad9 k v x hv (by simpa [Gu] using hx),pt⟩⟩⟩
  ·exact absurd ((n8 _ _ h1).1.trans (n8 _ _ h2).1.symm) Cx
 have hsat1:GSat m1 w (R::G):=by
  refine⟨fun i=>?_,m1.inj,fun i r b hr hb=>?_,fun i b j hi=>hsat.free i b j (Nt i b hi).2⟩
  ·constructor
   ·intro hi;have Cy:i<G.length+1:=by simpa using hi
    obtain⟨b,hb⟩:=(hsat.dom i).1 (by omega);exact⟨b,Pb i b Cy hb⟩
   ·rintro ⟨b,hb⟩;have:=(Nt i b hb).1;simpa using this
  ·have hi:=(Nt i b hb).1;have Lf:(R::(G++[row]))[i]?=some r:=by
    rw[show R::(G++[row])=(R::G)++[row] by simp,q_jf (by simpa using hi)];exact hr
   exact (hsat.row i r b Lf (Nt i b hb).2).swap rfl (fun _ h=>h) (hn r (q_jb Lf))
 have hobs0:∀i b,m1.d i=some b->bt≠b:=fun i b hi e=>by
  subst e;have:=m.inj i (G.length+1) bt (Nt i bt hi).2 dt;have:=(Nt i bt hi).1;omega
 have hS:SR w own m1 (Pin bt) [] E0 (some (R::G)) { sl:=[.gp 0 0,.ref 1 777 0 0]++List.replicate (fn.ntmps-2) .undef,hp:=[gOb (R::G),Gu row true] } { tmps:=[Value.pointer (some ⟨b0,0,none⟩),Value.pointer (some ⟨bt,0,none⟩)].toArray++Array.replicate (fn.ntmps - [Value.pointer (some ⟨b0,0,none⟩),Value.pointer (some ⟨bt,0,none⟩)].toArray.size) undef,defers:=[] } w:=by
  refine⟨hW,⟨rfl,hsat1,fun i b hi=>.inr ⟨i,(Nt i b hi).2⟩,fun i b o ob hi ho _=>hobs0 i b hi⟩,fun o=>?_,by simp;omega,Aq0 (args:=[.gp 0 0,.ref 1 777 0 0]) rfl (fun j v x hv hx=>?_),rfl,rfl,.refl _,(fun h=>by cases h),fun _=>⟨_,rfl,q_ja _,fun _=>rfl⟩⟩
  ·match o with
   |0=>rfl
   |1=>rfl
   |o+2=>rfl
  ·match j,hv,hx with
   |0,hv,hx=>cases hv;cases hx;exact .rep _ _ (.gp _ _ _ (Pb 0 _ (by omega) d0) p0)
   |1,hv,hx=>cases hv;cases hx;exact .ref 1 777 0 0 bt 0 (Gu row true) rfl (q_ja _) (fun _=>⟨rfl,by simp⟩)
   |j+2,hv,hx=>cases hv
 refine calls_of_wp hf hb ?_;have fin:∀(E:Env) (g:Option (GV)) (s:St) (a:Act) (w':World),SR w own m1 (Pin bt) [] E g s a w'->Yx ars (R'::(G++D)) row' s->a.defers=[]/\∃v,(results fn a.tmps).run P w'=.ok v w'/\∃m',Oj m' (.returned v) (.ret (.tup []))/\m.le m'/\(∀b j,b<w.heap.size->m' b j=m b j)/\Gf m' w'/\GSat m' w' (R'::(G++row'::D)) /\
   (∀i b,m'.d i=some b->m.d i=some b\/w.heap.size<=b)/\w'.os=w.os/\w'.tape=w.tape/\w'.output=w.output/\w.heap.size<=w'.heap.size/\∀k,k<w.heap.size->(∀i,m.d i≠some k)->w'.heap[k]?=w.heap[k]?:=by
  intro E g s a w' hS hr;refine⟨hS.dfr,?_⟩;unfold Yx at hr;split at hr;rotate_left
  ·exact hr.elim
  rename_i p hp' Ji;obtain⟨hp,hG,q1,cl,h2,Jh,hqpos,hcl,hq2⟩:=hr;obtain⟨us,E',k1,k2,k3,k4,k5⟩:=Tl fn.results.toList ars p [] hp' E s Gq Ji hp hS;have:=Lp (U:=fun _=>True) (s:={ s with hp:=hp' }) (fun o _=>k4.hp o) trivial k4.wo hG;subst this;have hH1:E'.H 1=some (Gu q1 cl):=by
   have:=k4.hp 1;simp only[Env.view] at this;rw[Jh] at this;simpa using this
  have hko:=k4.wo.obs 1 _ hH1;have Ee:=hko.fit;simp only[Gu,List.length_singleton,Nat.one_mul] at Ee;obtain⟨c1,e1,hl1⟩:=hko.live (by omega);have y7:(c1.toList.take q1.length).length=q1.length:=by
   have:=hl1.size;rw[q_kf];exact Nat.min_eq_left (show q1.length<=c1.size by omega)
  have Ei:RelV E' (.agg (c1.toList.take q1.length).toArray) (.agg false q1):=by
   refine .agg _ _ (fun v hv=>?_) y7 (fun j v x hv hx=>?_)
   ·obtain⟨j,hj⟩:=q_jw (List.mem_of_mem_take hv);exact hl1.one j v (by simpa using hj)
   ·rw[q_jx] at hv;split at hv
    ·exact hl1.rel j v x (by simpa using hv) (by simpa [Gu] using hx)
    ·cases hv
  obtain⟨E1,Afb,st⟩:=Xa (s:={ s with hp:=hp' }) (U:=fun _=>True) k4.wo k4.gx (fun o _=>k4.hp o) hcl Ei (fun _ _=>trivial);have hS1:=k4.closed st;have n9:E1.H 1=some (Gu q1 cl):=by
   have:=hS1.hp 1;simp only[Env.view] at this;rw[hq2,Jh] at this;simpa using this
  have Aah:E1.β 1=bt:=by
   obtain⟨ob,p1,_,p3⟩:=hS1.hb rfl;rw[n9] at p1;cases p1;exact p3 rfl
  have hpin0:E'.β 1=bt:=by
   obtain⟨ob,p1,_,p3⟩:=k4.hb rfl;rw[hH1] at p1;cases p1;exact p3 rfl
  have hko2:=hS1.wo.obs 1 _ n9;have Mr:=hko2.fit;simp only[Gu,List.length_singleton,Nat.one_mul] at Mr;have Jj:0<E1.t 1:=by omega
  obtain⟨c2,e2,hl2⟩:=hko2.live Jj;have hg1:GI w.heap.size own E1 w' (R'::(G++D)):=hS1.gx;have Ad5:=hl1.blk;have hblk2:=hl2.blk;rw[hpin0] at Ad5;have Aer:∀k,E1.m bt k=none:=fun k=>by rw[<-Aah];exact hl2.free k (by simp[Gu])
  have Mb:E1.m.p bt:=by rw[<-Aah];exact hl2.pl
  have Em:∀i b,E1.m.d i=some b->b≠bt:=fun i b hi e=>hg1.obs i b 1 _ hi n9 Jj (by rw[Aah,e])
  have o5:(R'::(G++D)).length=G.length+1+D.length:=by simp;omega
  have w6:=hg1.sat.dom
  let dd:Nat->Option Nat:=fun i=>if i<G.length+1 then E1.m.d i else if i=G.length+1 then some bt else E1.m.d (i-1)
  have Fp:∀i b,dd i=some b->(i<G.length+1/\E1.m.d i=some b)\/(i=G.length+1/\b=bt)\/(G.length+1<i/\E1.m.d (i-1)=some b):=fun i b hi=>by
   simp only[dd] at hi;split at hi
   ·exact .inl ⟨‹_›,hi⟩
   ·split at hi
    ·cases hi;exact .inr (.inl ⟨‹_›,rfl⟩)
    ·exact .inr (.inr ⟨by omega,hi⟩)
  let m':Mem:=⟨E1.m.c,dd,E1.m.p,fun i j b hi hj=>by
   rcases Fp i b hi with⟨a1,a2⟩|⟨a1,a2⟩|⟨a1,a2⟩<;>rcases Fp j b hj with⟨b1,b2⟩|⟨b1,b2⟩|⟨b1,b2⟩
   ·exact E1.m.inj i j b a2 b2
   ·exact absurd b2 (Em _ _ a2)
   ·have:=E1.m.inj _ _ b a2 b2;omega
   ·exact absurd a2 (Em _ _ b2)
   ·omega
   ·exact absurd a2 (Em _ _ b2)
   ·have:=E1.m.inj _ _ b a2 b2;omega
   ·exact absurd b2 (Em _ _ a2)
   ·have:=E1.m.inj _ _ b a2 b2;omega⟩
  have Aek:∀i b,i<G.length+1->E1.m.d i=some b->m'.d i=some b:=fun i b hi hd=>by show dd i=_;simp only[dd,if_pos hi];exact hd
  have Sk:m'.d (G.length+1)=some bt:=by show dd _=_;simp[dd]
  have hdgt:∀i b,G.length+1<=i->E1.m.d i=some b->m'.d (i+1)=some b:=fun i b hi hd=>by
   show dd _=_;simp only[dd,if_neg (show ¬i+1<G.length+1 by omega),if_neg (show ¬i+1=G.length+1 by omega),Nat.add_sub_cancel];exact hd
  have hle1:=hS1.le;refine⟨_,Tj k1,m',⟨_,rfl,((Tf (r:=.tup []) rfl k2 k3).mono st.ext.m).swap (m:=E1.m) (m':=m') rfl (fun _ h=>h) (.tup _ (fun x hx=>by cases hx))⟩,⟨hle1.c,fun i b hi=>?_,hle1.p⟩,fun b j hb=>?_,⟨hS1.wo.mem,hS1.wo.pl,hS1.wo.tab⟩,⟨fun i=>?_,m'.inj,fun i r b hr hb=>?_,fun i b j hi=>?_⟩,fun i b hi=>?_,hS1.wo.os,hS1.wo.tape,hS1.wo.output,hS1.wo.size,fun k hk hnk=>hS1.wo.block k hk (fun ⟨i,hi⟩=>hnk i hi)⟩
  ·rcases Nat.lt_trichotomy i (G.length+1) with h1|h1|h1
   ·exact Aek i b h1 (hle1.d _ _ (Pb i b h1 hi))
   ·subst h1;rw[Sk,<-dt];exact hi
   ·have:=(hsat.dom i).2 ⟨b,hi⟩;omega
  ·by_cases ho:own b
   ·obtain⟨i,hi⟩:=ho;rw[hsat.free i b j hi];rcases Nat.lt_trichotomy i (G.length+1) with h1|h1|h1
    ·exact hg1.sat.free i b j (hle1.d _ _ (Pb i b h1 hi))
    ·subst h1;rw[dt] at hi;cases hi;exact Aer j
    ·have:=(hsat.dom i).2 ⟨b,hi⟩;omega
   ·show E1.m b j=_;rw[hS1.wo.keep b j hb ho,hS1.z]
  ·have hL:(R'::(G++row'::D)).length=G.length+2+D.length:=by simp;omega
   rw[hL];constructor
   ·intro hi;rcases Nat.lt_trichotomy i (G.length+1) with h1|h1|h1
    ·obtain⟨b,hb⟩:=(w6 i).1 (by rw[o5];omega);exact⟨b,Aek i b h1 hb⟩
    ·subst h1;exact⟨bt,Sk⟩
    ·obtain⟨b,hb⟩:=(w6 (i-1)).1 (by rw[o5];omega);have:=hdgt (i-1) b (by omega) hb;rw[show i-1+1=i by omega] at this;exact⟨b,this⟩
   ·rintro ⟨b,hb⟩;rcases Fp i b hb with⟨a1,_⟩|⟨a1,_⟩|⟨a1,a2⟩
    ·omega
    ·omega
    ·have:=(w6 (i-1)).2 ⟨b,a2⟩;rw[o5] at this;omega
  ·rcases Fp i b hb with⟨a1,a2⟩|⟨a1,a2⟩|⟨a1,a2⟩
   ·have Lf:(R'::(G++D))[i]?=some r:=by
     rw[show R'::(G++D)=(R'::G)++D by simp,q_jf (by simpa using a1)];rw[show R'::(G++row'::D)=(R'::G)++row'::D by simp,q_jf (by simpa using a1)] at hr;exact hr
    exact (hg1.sat.row i r b Lf a2).swap rfl (fun _ h=>h) (Sp r (q_jb Lf))
   ·subst a1 a2;have Lf:row'=r:=by simpa using hr
    subst Lf;generalize hv0:Value.agg (c1.toList.take q1.length).toArray=v0 at Afb;cases Afb with
    |agg ws _ z0 z1 z2=>
    have hws:c1.toList.take q1.length=ws:=by simpa using hv0
    subst hws;refine .cells _ c1 e1 Ad5 (by rw[<-z1,y7];have:=hl1.size;omega) (fun k v x hv hx=>⟨(z2 k v x ?_ hx).swap (m:=E1.m) (m':=m') rfl (fun _ h=>h) (Ny x (q_jb hx)),hl1.one k v hv⟩) hl1.one;have hk:=(q_jm.1 hx).1;rw[q_jx,if_pos (by rw[<-z1,y7] at hk;exact hk)];simpa using hv
   ·have Lf:(R'::(G++D))[i-1]?=some r:=by
     rw[show R'::(G++D)=(R'::G)++D by simp,q_jj (by simp;omega)];rw[show R'::(G++row'::D)=(R'::G++[row'])++D by simp,q_jj (by simp;omega)] at hr;rw[<-hr];congr 1;simp;omega
    exact (hg1.sat.row (i-1) r b Lf a2).swap rfl (fun _ h=>h) (Sp r (q_jb Lf))
  ·rcases Fp i b hi with⟨a1,a2⟩|⟨a1,a2⟩|⟨a1,a2⟩
   ·exact hg1.sat.free i b j a2
   ·subst a2;exact Aer j
   ·exact hg1.sat.free _ b j a2
  ·have own_lt:∀i b,own b->E1.m.d i=some b->i<G.length+1/\m.d i=some b:=fun i b ⟨i',Cy⟩ he=>by
    rcases Nat.lt_trichotomy i' (G.length+1) with h1|h1|h1
    ·have:=E1.m.inj i i' b he (hle1.d _ _ (Pb i' b h1 Cy));subst this;exact⟨h1,Cy⟩
    ·subst h1;rw[dt] at Cy;cases Cy;exact absurd rfl (Em _ _ he)
    ·have:=(hsat.dom i').2 ⟨b,Cy⟩;omega
   rcases Fp i b hi with⟨a1,a2⟩|⟨a1,a2⟩|⟨a1,a2⟩
   ·rcases hg1.new i b a2 with h|h
    ·exact .inr h
    ·exact .inl (own_lt i b h a2).2
   ·subst a1 a2;exact .inl dt
   ·rcases hg1.new _ b a2 with h|h
    ·exact .inr h
    ·have:=(own_lt _ b h a2).1;omega
 refine Tt (X:=fun _ _=>False) hm c ac Ls (fun _ _ _ _ _ _ h=>h.elim) (fun e E g s a w' hS he=>?_) E0 (some (R::G)) _ _ w hS h;cases e with
 |normal=>exact fin E g s a w' hS he
 |exit id=>exact he.elim
 |ret=>exact fin E g s a w' hS he
open Go Go.RowKit Go.Proofs.YtgfehkhcmnfpaaaGreatDoor
def rdS(c:RC)(nm:SV)(s:RS):List SV:=[.dsl 3 (c.L.map Gp),.int .i64 s.k,.int .i64 c.e,nm,.int .i64 c.i,.int .i64 c.j,.bool s.bad,.int .i64 s.at_]
structure Fa(c:RC):Prop where
 n:c.L.length<100000000000
 i:c.i<=1000
 j:c.j<=1000
structure AtG(c:RC)(k:Nat):Prop where
 lt:k<c.L.length
 ltz:(k:Int)<(c.L.length:Int)
 ge:(0:Int)<=(k:Int)
 row:(c.L.map Gp)[k]?.getD []=[.int .i64 (c.tk k).k,.str (bs (c.tk k).w),.int .i64 (c.tk k).p]
 w1:IntKind.i64.wrap ((k:Int)+1)=((k+1:Nat):Int)
 w2:IntKind.i64.wrap (((k+1:Nat):Int)-1)=(k:Int)
 nge:¬(k:Int) >= (c.L.length:Int)
 nle:¬(c.L.length:Int)<=(k:Int)
 big:(c.L.length<=140737488355328)=True
def atG{c:RC}(hc:Fa c){k:Nat}(h:k<c.L.length):AtG c k:=by
 have hn:=hc.n;refine⟨h,by omega,by omega,?_,by rw[w64 (by unfold fit;omega)];omega,by rw[w64 (by unfold fit;omega)];omega,by omega,by omega,by simp;omega⟩;rw[q_ji,q_f h];unfold RC.tk;rw[q_j,q_f h];rfl
section
variable{c:RC}{nm:SV}{s:RS}{G:GV}
def Lv(hc:Fa c)(k:Nat):Cp 156 (rdS c nm s::G) [.gp 0 0,.int .i64 k] (.ret (.tup [])) (rdS c nm (Cu c s k)::G):=by
 refine Ca mixed Tryz.func156 tr156 ?_;have hn:=hc.n;have a10:(c.L.length<=140737488355328)=True:=by simp;omega
 obtain⟨sk,sb,sa,D⟩:=s;unfold rdS Cu;cases sb
 ·by_cases h:k<c.L.length
  ·obtain⟨a1,a2,a3,a4,a6,a7,a8,a9,a10⟩:=atG hc h;simp only[go_sem,seval,a1,a2,a3,a4,a10,q_jn a2,q_g,if_true,if_false,q_kv,forall_const]
  ·simp only[go_sem,seval,a10,q_je (show ¬(k:Int)<(c.L.length:Int) by omega),q_g,if_neg h,q_kv,if_false,forall_const]
 ·simp only[go_sem,seval,if_true]
def Bx(hc:Fa c)(kd:Nat):Cp 188 (rdS c nm s::G) [.gp 0 0,.int .i64 kd] (.ret (.str (bs (Ai c s kd).1))) (rdS c nm (Ai c s kd).2::G):=by
 have cf:=Lv (nm:=nm) (s:=s) (G:=G) hc s.k;refine Ca mixed Tryz.func188 tr188 ?_;have hn:=hc.n;have a10:(c.L.length<=140737488355328)=True:=by simp;omega
 unfold Ai RS.nx;unfold rdS at cf |-;obtain⟨sk,sb,sa,D⟩:=s;simp only at cf |-;cases sb
 ·by_cases h:sk<c.L.length
  ·obtain⟨a1,a2,a3,a4,a6,a7,a8,a9,a10⟩:=atG hc h
   by_cases hk:(c.tk sk).k=kd
   ·rw[if_pos ⟨rfl,h,hk⟩];have Fz:(((c.tk sk).k:Int) != (kd:Int))=false:=by simp[hk]
    simp only[go_sem,seval,a1,a2,a3,a4,a6,a7,a10,q_je a8,q_g,Fz,forall_const]
   ·rw[if_neg (fun h=>hk h.2.2)];have Fz:(((c.tk sk).k:Int) != (kd:Int))=true:=by simp;omega
    simp only[go_sem,seval,a1,a2,a3,a4,a10,q_je a8,q_g,Fz,forall_const];refine Ad cf ?_;simp only[go_sem,seval]
  ·rw[if_neg (fun k=>h k.2.1)];simp only[go_sem,seval,a10,q_jn (show (sk:Int) >= (c.L.length:Int) by omega),q_g,forall_const];refine Ad cf ?_;simp only[go_sem,seval]
 ·rw[if_neg (by simp)];simp only[go_sem,seval];refine Ad cf ?_;simp only[go_sem,seval]
def Ot(k:Nat):(Cu c s k).k=s.k:=by unfold Cu;split<;>rfl
def Cc(kd:Nat):s.k<=(Ai c s kd).2.k:=by
 unfold Ai;split
 ·exact Nat.le_succ _
 ·rw[Ot];exact q_ja _
def Asb{lev:RS->Nat×RS}(h:∀s,s.k<=(lev s).2.k):s.k<=(Ie c lev s).2.k:=by
 unfold Ie;refine q_kn ?_ (Cc 2);have h1:=h s.nx;have h2:=h (lev s.nx).2;have h3:s.nx.k=s.k+1:=rfl;split
 ·exact (by omega:s.k<=(lev s.nx).2.k)
 split
 ·exact (by omega:s.k<=(lev (lev s.nx).2).2.k)
 ·rw[Ot];exact q_ja _
def Jm:∀(f:Nat) (s:RS),s.k<=(Cn c f s).2.k:=by
 intro f
 induction f with
 |zero=>intro s;exact q_ja _
 |succ f ih=>
  intro s;unfold Cn;have h3:s.nx.k=s.k+1:=rfl;have key:∀(q:Nat×RS),s.k<=q.2.k->s.k<=(if q.2.bad=false/\1000<q.1 then Cu c q.2 s.k else q.2).k:=fun q h=>by
   split
   ·rw[Ot];exact h
   ·exact h
  split
  ·refine key _ ?_
   repeat' split
   ·exact (by omega:s.k<=s.nx.k)
   ·exact (by omega:s.k<=s.nx.k)
   ·exact (by omega:s.k<=s.nx.k)
   ·have:=Asb (c:=c) (s:=s.nx) ih;omega
   ·rw[Ot];exact q_ja _
  ·rw[Ot];exact q_ja _
def Ads(w:By):(Eg w).getD 0<=1000000:=by
 unfold Eg
 repeat' split
 all_goals simp
 rename_i h;omega
def Asc{lev:RS->Nat×RS}{m:Nat}(h:∀s,(lev s).1<=m):(Ie c lev s).1<=m+1:=by
 unfold Ie;have h1:=h s.nx;have h2:=h (lev s.nx).2;split
 ·exact (by omega:(lev s.nx).1+1<=m+1)
 split
 ·exact (by omega:max (lev s.nx).1 (lev (lev s.nx).2).1<=m+1)
 ·exact Nat.zero_le _
def Aro(hc:Fa c):∀(f:Nat) (s:RS),(Cn c f s).1<=1000000+f:=by
 intro f
 induction f with
 |zero=>intro s;exact Nat.zero_le _
 |succ f ih=>
  intro s;unfold Cn;have h1:=Ads (c.tk s.k).w;have h2:=hc.i;have h3:=hc.j;have h4:=Asc (c:=c) (s:=s.nx) ih;split
  ·show (if _ then _ else _:Nat×RS).1<=_
   repeat' split
   all_goals first|omega|(simp only;omega)
  ·exact Nat.zero_le _
end
section
variable{c:RC}{nm:SV}{s:RS}{G:GV}
def wkR{n:Nat}(h:n<1000000000000):IntKind.i64.wrap ((n:Int)+1)=((n+1:Nat):Int):=by rw[w64 (by unfold fit;omega)];omega
def Ap8(hc:Fa c){lev:RS->Nat×RS}(hl:∀s',s.k<s'.k->Cp 213 (rdS c nm s'::G) [.gp 0 0] (.ret (.int .i64 (lev s').1)) (rdS c nm (lev s').2::G))(hk:∀s',s'.k<=(lev s').2.k)(hv:∀s',(lev s').1<1000000000000) :
  Cp 228 (rdS c nm s::G) [.gp 0 0] (.ret (.int .i64 (Ie c lev s).1)) (rdS c nm (Ie c lev s).2::G):=by
 have cf:=Lv (nm:=nm) (s:=s) (G:=G) hc s.k;have l1:=hl s.nx (Nat.lt_succ_self _);have l2:=hl (lev s.nx).2 (q_ko (Nat.lt_succ_self _) (hk s.nx));have n1:=Bx (nm:=nm) (s:=(lev s.nx).2) (G:=G) hc 2;have n2:=Bx (nm:=nm) (s:=(lev (lev s.nx).2).2) (G:=G) hc 2;have n3:=Bx (nm:=nm) (s:=Cu c s s.k) (G:=G) hc 2;have v1:=wkR (hv s.nx);refine Ca mixed Tryz.func228 tr228 ?_;have hn:=hc.n;have a10:(c.L.length<=140737488355328)=True:=by simp;omega
 unfold Ie;have hmx:∀a b:Nat,((max a b:Nat):Int)=if (a:Int)<(b:Int) then (b:Int) else (a:Int):=fun a b=>by split<;>omega
 generalize lev s.nx=q1 at *
 obtain⟨v,s1⟩:=q1;simp only at *
 generalize lev s1=q2 at *
 obtain⟨v2,s2⟩:=q2;simp only at *
 generalize Cu c s s.k=sf at *
 by_cases h:s.k<c.L.length
 ·obtain⟨a1,a2,a3,a4,a6,a7,a8,a9,a10⟩:=atG hc h;unfold RS.nx at l1;unfold rdS at *
  by_cases Gi:(c.tk s.k).k=3
  ·have k3:(((c.tk s.k).k:Int)==3)=true:=by simp[Gi]
   by_cases hs:(c.tk s.k).w=[115,117,99]
   ·have Qr:((c.tk s.k).w==[115,117,99])=true:=by simp[hs]
    rw[if_pos ⟨h,Gi,hs⟩]
    repeat' first
    |simp only[go_sem,seval,a1,a2,a3,a4,a6,a10,q_jn a2,q_g,k3,Qr,v1,forall_const]
    |refine Ad l1 ?_
    |refine Ad n1 ?_
   ·have Qr:((c.tk s.k).w==[115,117,99])=false:=by simp[hs]
    rw[if_neg (fun k=>hs k.2.2)]
    by_cases hm:(c.tk s.k).w=[109,97,120]
    ·have Xx:((c.tk s.k).w==[109,97,120])=true:=by simp[hm]
     rw[if_pos ⟨h,Gi,hm⟩]
     repeat' first
     |simp only[go_sem,seval,a1,a2,a3,a4,a6,a10,q_jn a2,q_g,k3,Qr,Xx,hmx,forall_const]
     |refine Ad l1 ?_
     |refine Ad l2 ?_
     |refine Ad n2 ?_
    ·have Xx:((c.tk s.k).w==[109,97,120])=false:=by simp[hm]
     rw[if_neg (fun k=>hm k.2.2)]
     repeat' first
     |simp only[go_sem,seval,a1,a2,a3,a4,a6,a10,q_jn a2,q_g,k3,Qr,Xx,forall_const]
     |refine Ad cf ?_
     |refine Ad n3 ?_
  ·have k3:(((c.tk s.k).k:Int)==3)=false:=by simp;omega
   rw[if_neg (fun k=>Gi k.2.1),if_neg (fun k=>Gi k.2.1)]
   repeat' first
   |simp only[go_sem,seval,a1,a2,a3,a4,a6,a10,q_jn a2,q_g,k3,forall_const]
   |refine Ad cf ?_
   |refine Ad n3 ?_
 ·rw[if_neg (fun k=>h k.1),if_neg (fun k=>h k.1)];unfold rdS at *
  repeat' first
  |simp only[go_sem,seval,a10,q_je (show ¬(s.k:Int)<(c.L.length:Int) by omega),q_g,forall_const]
  |refine Ad cf ?_
  |refine Ad n3 ?_
def Jy(hc:Fa c):∀(f:Nat) (s:RS),f<=c.L.length+1->c.L.length<s.k+f->(0<f)->Cp 213 (rdS c nm s::G) [.gp 0 0] (.ret (.int .i64 (Cn c f s).1)) (rdS c nm (Cn c f s).2::G):=by
 intro f
 induction f with
 |zero=>intro s _ _ h0;omega
 |succ f ih=>
  intro s hf hs _;have cf:=Lv (nm:=nm) (s:=s) (G:=G) hc s.k;have hn:=hc.n;have hi:=hc.i;have hj:=hc.j;have a10:(c.L.length<=140737488355328)=True:=by simp;omega
  refine Ca mixed Tryz.func213 tr213 ?_;obtain⟨sk,sb,sa,D⟩:=s;simp only at hs;unfold Cn;cases sb;rotate_left
  ·rw[if_neg (by simp)];unfold rdS at cf |-;simp only[go_sem,seval];refine Ad cf ?_;simp only[go_sem,seval]
  by_cases h:sk<c.L.length
  rotate_left
  ·rw[if_neg (fun k=>h k.2)];unfold rdS at cf |-;simp only[go_sem,seval,a10,q_jn (show (sk:Int) >= (c.L.length:Int) by omega),q_g,forall_const];refine Ad cf ?_;simp only[go_sem,seval]
  rw[if_pos ⟨rfl,h⟩];obtain⟨a1,a2,a3,a4,a6,a7,a8,a9,a10⟩:=atG hc h;have cg:=e9 (c.tk sk).w;have hgl:=Ads (c.tk sk).w
  by_cases hk4:(c.tk sk).k=4
  ·simp only[if_pos hk4,RS.nx];have k4:(((c.tk sk).k:Int)==4)=true:=by simp[hk4]
   have cf2:=Lv (nm:=nm) (s:=⟨sk+1,false,sa,D⟩) (G:=G) hc sk;unfold rdS at cf cf2 |-
   by_cases Hq:1000<(Eg (c.tk sk).w).getD 0
   ·rw[if_pos ⟨by first|rfl|trivial,Hq⟩]
    repeat' first
    |simp only[go_sem,seval,a1,a2,a3,a4,a6,a10,q_je a8,q_g,k4,q_jn (show (((Eg (c.tk sk).w).getD 0:Nat):Int) > 1000 by omega),forall_const]
    |refine Aj cg ?_
    |refine Ad cf2 ?_
   ·rw[if_neg (fun k=>Hq k.2)]
    repeat' first
    |simp only[go_sem,seval,a1,a2,a3,a4,a6,a10,q_je a8,q_g,k4,q_je (show ¬(((Eg (c.tk sk).w).getD 0:Nat):Int) > 1000 by omega),forall_const]
    |refine Aj cg ?_
  have k4:(((c.tk sk).k:Int)==4)=false:=by simp;omega
  simp only[if_neg hk4]
  by_cases Gi:(c.tk sk).k=3
  ·have k3:(((c.tk sk).k:Int)==3)=true:=by simp[Gi]
   have k1:(((c.tk sk).k:Int)==1)=false:=by simp[Gi]
   have h1:¬(c.tk sk).k=1:=by omega
   by_cases Lb:(c.tk sk).w=[105]
   ·have Cy:((c.tk sk).w==[105])=true:=by simp[Lb]
    simp only[if_pos (show (c.tk sk).k=3/\(c.tk sk).w=[105] from ⟨Gi,Lb⟩),RS.nx];rw[if_neg (fun k=>by have:=k.2;omega)];unfold rdS at cf |-
    repeat' first
    |simp only[go_sem,seval,a1,a2,a3,a4,a6,a10,q_je a8,q_g,k4,k3,Cy,q_je (show ¬((c.i:Nat):Int) > 1000 by omega),forall_const]
   have Cy:((c.tk sk).w==[105])=false:=by simp[Lb]
   simp only[if_neg (show ¬((c.tk sk).k=3/\(c.tk sk).w=[105]) from fun k=>Lb k.2)]
   by_cases Xs:(c.tk sk).w=[106]
   ·have Je:((c.tk sk).w==[106])=true:=by simp[Xs]
    simp only[if_pos (show (c.tk sk).k=3/\(c.tk sk).w=[106] from ⟨Gi,Xs⟩),RS.nx];rw[if_neg (fun k=>by have:=k.2;omega)];unfold rdS at cf |-
    repeat' first
    |simp only[go_sem,seval,a1,a2,a3,a4,a6,a10,q_je a8,q_g,k4,k3,Cy,Je,q_je (show ¬((c.j:Nat):Int) > 1000 by omega),forall_const]
   have Je:((c.tk sk).w==[106])=false:=by simp[Xs]
   simp only[if_neg (show ¬((c.tk sk).k=3/\(c.tk sk).w=[106]) from fun k=>Xs k.2),if_neg h1];rw[if_neg (by simp[Cu])];have Gr:(Cu c ⟨sk,false,sa,D⟩ sk).bad=true:=by simp[Cu]
   unfold rdS at cf |-;generalize Cu c ⟨sk,false,sa,D⟩ sk=sf at *
   repeat' first
   |simp only[go_sem,seval,a1,a2,a3,a4,a6,a10,q_je a8,q_g,k4,k3,k1,Cy,Je,Gr,forall_const]
   |refine Ad cf ?_
  have k3:(((c.tk sk).k:Int)==3)=false:=by simp;omega
  simp only[if_neg (show ¬((c.tk sk).k=3/\(c.tk sk).w=[105]) from fun k=>Gi k.1),if_neg (show ¬((c.tk sk).k=3/\(c.tk sk).w=[106]) from fun k=>Gi k.1)]
  by_cases El:(c.tk sk).k=1
  ·have k1:(((c.tk sk).k:Int)==1)=true:=by simp[El]
   simp only[if_pos El];have cm:=Ap8 (nm:=nm) (s:=RS.nx ⟨sk,false,sa,D⟩) (G:=G) hc (lev:=Cn c f) (fun s' Qr=>by
    have Qr:sk+1<s'.k:=Qr;rcases Nat.eq_zero_or_pos f with h0|h0
    ·subst h0;omega
    ·exact ih s' (by omega) (by omega) h0) (Jm f) (fun s'=>by have:=Aro hc f s';omega)
   have cf2:=Lv (nm:=nm) (s:=(Ie c (Cn c f) (RS.nx ⟨sk,false,sa,D⟩)).2) (G:=G) hc sk;generalize Ie c (Cn c f) (RS.nx ⟨sk,false,sa,D⟩)=q at *
   obtain⟨v,sq,bq,aq,Dq⟩:=q;unfold RS.nx at cm;unfold rdS at *
   simp only at *
   cases bq
   ·by_cases Hq:1000<v
    ·rw[if_pos ⟨by first|rfl|trivial,Hq⟩]
     repeat' first
     |simp only[go_sem,seval,a1,a2,a3,a4,a6,a10,q_je a8,q_g,k4,k3,k1,q_jn (show ((v:Nat):Int) > 1000 by omega),forall_const]
     |refine Ad cm ?_
     |refine Ad cf2 ?_
    ·rw[if_neg (fun k=>Hq k.2)]
     repeat' first
     |simp only[go_sem,seval,a1,a2,a3,a4,a6,a10,q_je a8,q_g,k4,k3,k1,q_je (show ¬((v:Nat):Int) > 1000 by omega),forall_const]
     |refine Ad cm ?_
   ·rw[if_neg (by simp)]
    repeat' first
    |simp only[go_sem,seval,a1,a2,a3,a4,a6,a10,q_je a8,q_g,k4,k3,k1,forall_const]
    |refine Ad cm ?_
  ·have k1:(((c.tk sk).k:Int)==1)=false:=by simp;omega
   simp only[if_neg El];rw[if_neg (by simp[Cu])];have Gr:(Cu c ⟨sk,false,sa,D⟩ sk).bad=true:=by simp[Cu]
   unfold rdS at cf |-;generalize Cu c ⟨sk,false,sa,D⟩ sk=sf at *
   repeat' first
   |simp only[go_sem,seval,a1,a2,a3,a4,a6,a10,q_je a8,q_g,k4,k3,k1,Gr,forall_const]
   |refine Ad cf ?_
end
def wdG(w:By):List SV:=[.str (bs w)]
def nmG(ns:List By):SV:=.dsl 1 (ns.reverse.map wdG)
def findG{w:By}:∀{l:List By} {n:Nat},Fy w l=some n->l[n]?=some w/\∀m,m<n->∃v,l[m]?=some v/\(v==w)=false:=by
 intro l
 induction l with
 |nil=>intro n h;cases h
 |cons a l ih=>
  intro n h;rw[Fy] at h;split at h
  ·rename_i hv;cases h;have:a=w:=by simpa using hv
   subst this;exact⟨rfl,fun m hm=>by omega⟩
  ·rename_i hv;cases hq:Fy w l with
   |none=>rw[hq] at h;cases h
   |some q=>
    rw[hq] at h;rw[q_jh,q_b] at h;subst h;obtain⟨h1,h2⟩:=ih hq;refine⟨by simpa using h1,fun m hm=>?_⟩;cases m with
    |zero=>exact⟨a,rfl,by simpa using hv⟩
    |succ m=>
     obtain⟨v,h3,h4⟩:=h2 m (by omega);exact⟨v,by simpa using h3,h4⟩
def Adl{w:By}:∀{l:List By},Fy w l=none->∀m,m<l.length->∃v,l[m]?=some v/\(v==w)=false:=by
 intro l
 induction l with
 |nil=>intro _ m h;cases h
 |cons a l ih=>
  intro h m hm;rw[Fy] at h;split at h
  ·cases h
  ·rename_i hv;cases hq:Fy w l with
   |some q=>rw[hq] at h;cases h
   |none=>
    cases m with
    |zero=>exact⟨a,rfl,by simpa using hv⟩
    |succ m=>exact ih hq m (by simpa using hm)
def Gj{P:Program}{f:Nat}{G G':GV}{args:List SV}{r r':SV}(h:HContract P f G args (.ret r) G')(hl:Le r r'):HContract P f G args (.ret r') G':=by
 intro m w vs h1 h2 h3 h4;refine Calls.mono (h m w vs h1 h2 h3 h4) (fun e w' he=>?_);obtain⟨m',⟨v,a1,a2⟩,a3⟩:=he;exact⟨m',⟨v,a1,hl.rep a2⟩,a3⟩
section
variable{c:RC}{nm:SV}{s:RS}{G:GV}
def Ap9(hc:Fa c){ns:List By}(Bq:ns.length<100000000000)(hb:s.bad=false)(hk:s.k<c.L.length) :
  Cp 187 (rdS c (nmG ns) s::G) [.gp 0 0] (.ret (.agg true (tv (Jn c ns s).1))) (rdS c (nmG ns) (Jn c ns s).2::G):=by
 have cf:=Lv (nm:=nmG ns) (s:=s) (G:=G) hc s.k;obtain⟨a1,a2,a3,a4,a6,a7,a8,a9,a10⟩:=atG hc hk;have Da:∀(m:Nat) v,ns[m]?=some v->(ns.reverse.map wdG)[ns.length-1-m]?.getD []=[.str (bs v)]:=fun m v hv=>by
  have hm:=(q_jm.1 hv).1;rw[q_ji,List.getElem?_reverse (by omega),show ns.length-1-(ns.length-1-m)=m by omega,hv];rfl
 have Bf:(ns.reverse.map wdG).length=ns.length:=by simp
 have Hq:(ns.length<=140737488355328)=True:=by simp;omega
 have ew:IntKind.i64.wrap ((ns.length:Int)-1)=(ns.length:Int)-1-(0:Nat):=by rw[w64 (by unfold fit;omega)];omega
 obtain⟨sk,sb,sa,D⟩:=s;simp only at hb hk a1 a2 a3 a4 a6 a7 a8 a9;subst hb;unfold Jn RS.nx;unfold rdS nmG at cf |-;generalize ns.reverse.map wdG=R at *
 -- the number of names that are looked at in vain
 obtain⟨n,hn,h2⟩:∃n,n<=ns.length/\∀m,m<n->∃v,ns[m]?=some v/\(v==(c.tk sk).w)=false:=⟨0,Nat.zero_le _,fun m h=>by omega⟩
 cases hf:Fy (c.tk sk).w ns with
 |some n=>
  obtain⟨h1,h2⟩:=findG hf;have Az:=(q_jm.1 h1).1;refine Gj (Ca (out:=.ret (.agg true [.int .i64 2,.int .i64 n,.int .i64 0,.int .i64 0,.nils])) mixed Tryz.func187 tr187 ?_) (Qz _ _ _ _);simp only[go_sem,seval,Bf,Hq,forall_const];rw[ew];refine Ni (fun x=>⟨(.gp 0 0::.J::.ref 1 0 0 0::.int .i64 ((ns.length:Int)-1-x)::Gd (Fe (jk4 ([])))),[gOb ([.dsl 3 (c.L.map Gp),.int .i64 sk,.int .i64 c.e,.dsl 1 R,.int .i64 c.i,.int .i64 c.j,.bool false,.int .i64 sa]::G),⟨true,5,[[.int .i64 0,.int .i64 0,.int .i64 0,.int .i64 0,.nils]],0,0,true⟩]⟩) n (fun x hx=>?_) ?_
  ·have hq:ns.length-1-x<ns.length:=by omega
   have eI:(ns.length:Int)-1-x=((ns.length-1-x:Nat):Int):=by omega
   have e0:(0:Int)<=((ns.length-1-x:Nat):Int):=by omega
   have e1:((ns.length-1-x:Nat):Int)<(ns.length:Int):=by omega
   have eg:((ns.length-1-x:Nat):Int) >= 0:=e0;rw[eI]
   by_cases Vd:x<n
   ·obtain⟨v,h3,h4⟩:=h2 x Vd;simp only[go_sem,seval,a1,a2,a3,a4,a8,a9,a10,forall_const,q_g,q_jn eg,e0,e1,hq,Bf,Hq,Da x v h3,h4,w64 (show fit (((ns.length-1-x:Nat):Int)-1) by unfold fit;omega)];refine⟨Vd,?_⟩;rw[show ((ns.length-1-x:Nat):Int)-1=(ns.length:Int)-1-((x+1:Nat):Int) by omega];exact Cw (by simp[Ci])
   ·have:x=n:=by omega
    subst this;simp only[go_sem,seval,a1,a2,a3,a4,a6,a8,a9,a10,forall_const,q_g,q_jn eg,e0,e1,hq,Bf,Hq,Da x _ h1,beq_self_eq_true,w64 (show fit ((ns.length:Int)-1) by unfold fit;omega),show (ns.length:Int)-1-((ns.length-1-x:Nat):Int)=(x:Int) by omega,w64 (show fit (x:Int) by unfold fit;omega)]
  ·exact Cw (by simp[Ci])
 |none=>
  have h2:=Adl hf;refine Gj (Ca (out:=.ret (.agg true [.int .i64 0,.int .i64 0,.int .i64 0,.int .i64 0,.nils])) mixed Tryz.func187 tr187 ?_) (Qz _ _ _ _);simp only[go_sem,seval,Bf,Hq,forall_const];rw[ew];refine Ni (fun x=>⟨(.gp 0 0::.J::.ref 1 0 0 0::.int .i64 ((ns.length:Int)-1-x)::Gd (Fe (jk4 ([])))),[gOb ([.dsl 3 (c.L.map Gp),.int .i64 sk,.int .i64 c.e,.dsl 1 R,.int .i64 c.i,.int .i64 c.j,.bool false,.int .i64 sa]::G),⟨true,5,[[.int .i64 0,.int .i64 0,.int .i64 0,.int .i64 0,.nils]],0,0,true⟩]⟩) ns.length (fun x hx=>?_) ?_
  ·by_cases Vd:x<ns.length
   ·have hq:ns.length-1-x<ns.length:=by omega
    have eI:(ns.length:Int)-1-x=((ns.length-1-x:Nat):Int):=by omega
    have e0:(0:Int)<=((ns.length-1-x:Nat):Int):=by omega
    have e1:((ns.length-1-x:Nat):Int)<(ns.length:Int):=by omega
    have eg:((ns.length-1-x:Nat):Int) >= 0:=e0;rw[eI];obtain⟨v,h3,h4⟩:=h2 x Vd;simp only[go_sem,seval,a1,a2,a3,a4,a8,a9,a10,forall_const,q_g,q_jn eg,e0,e1,hq,Bf,Hq,Da x v h3,h4,w64 (show fit (((ns.length-1-x:Nat):Int)-1) by unfold fit;omega)];refine⟨Vd,?_⟩;rw[show ((ns.length-1-x:Nat):Int)-1=(ns.length:Int)-1-((x+1:Nat):Int) by omega];exact Cw (by simp[Ci])
   ·have:x=ns.length:=by omega
    subst this;have eg:¬((ns.length:Int)-1-(ns.length:Nat) >= 0):=by omega
    simp only[go_sem,seval,q_je eg];refine Ad cf ?_;simp only[go_sem,seval]
  ·exact Cw (by simp[Ci])
end
def Akv:Con 196 [] (.dsl 1 (symsL.map wdG)):=by
 refine Cq mixed Tryz.func196 tr196 ?_;simp only[go_sem,seval,symsL,q_h,q_i,wdG]
def Tn(w:By):Nat:=match Fy w symsL with|some n=>n+1|none=>0
def Ada(w:By):Con 215 [.str (bs w)] (.int .i64 (Tn w)):=by
 have Bf:symsL.length=21:=rfl;refine Cq mixed Tryz.func215 tr215 ?_;simp only[go_sem,seval];refine Aj Akv ?_;have Da:∀(m:Nat) v,symsL[m]?=some v->(symsL.map wdG)[m]?.getD []=[.str (bs v)]:=fun m v hv=>by rw[q_ji,hv];rfl
 unfold Tn;cases h:Fy w symsL with
 |some n=>
  obtain⟨h1,h2⟩:=findG h;have hn:=(q_jm.1 h1).1;generalize symsL=l at *
  simp only[go_sem,seval,q_g,Bf];intros;refine Ni (fun x=>⟨(.str (bs w)::.J::.int .i64 0::.J::.J::.dsl 1 (l.map wdG)::.int .i64 21::.int .i64 x::jk8 (jk2 ([]))),[]⟩) n (fun x hx=>?_) ?_
  ·have e0:(0:Int)<=(x:Int):=by omega
   have e1:(x:Int)<21:=by omega
   have e2:x<21:=by omega
   by_cases Az:x<n
   ·obtain⟨v,h3,h4⟩:=h2 x Az;simp only[go_sem,seval,q_jn e1,e0,e1,e2,q_g,Bf,Da x v h3,h4,w64 (show fit ((x:Int)+1) by unfold fit;omega)];refine⟨Az,?_⟩;exact Cw (by simp[Ci])
   ·have:x=n:=by omega
    subst this;simp only[go_sem,seval,q_jn e1,e0,e1,e2,q_g,Bf,Da x w h1,beq_self_eq_true,w64 (show fit ((x:Int)+1) by unfold fit;omega)];rfl
  ·exact Cw (by simp[Ci])
 |none=>
  have h2:=Adl h;generalize symsL=l at *
  simp only[go_sem,seval,q_g,Bf];intros;refine Ni (fun x=>⟨(.str (bs w)::.J::.int .i64 0::.J::.J::.dsl 1 (l.map wdG)::.int .i64 21::.int .i64 x::jk8 (jk2 ([]))),[]⟩) 21 (fun x hx=>?_) ?_
  ·by_cases e2:x<21
   ·have e0:(0:Int)<=(x:Int):=by omega
    have e1:(x:Int)<21:=by omega
    obtain⟨v,h3,h4⟩:=h2 x (by omega);simp only[go_sem,seval,q_jn e1,e0,e1,e2,q_g,Bf,Da x v h3,h4,w64 (show fit ((x:Int)+1) by unfold fit;omega)];exact Cw (by simp[Ci])
   ·have:x=21:=by omega
    subst this;simp only[go_sem,seval,Bf]
  ·exact Cw (by simp[Ci])
def l8{w v:By}{k:Nat}{s:By}{l:List (By×Nat×By)}:Jw w ((v,k,s)::l)=if w=v then some (k,s) else Jw w l:=by
 rw[Jw]
 by_cases h:w=v
 ·subst h;simp
 ·rw[if_neg h,if_neg (by simp;exact fun e=>h e.symm)]
def Abd{w v:By}(h:(w==v)=false):w≠v:=by simpa using h
def Ak5(w:By):Con 212 [.str (bs w)] (.tup [.int .i64 ((Jw w (formsG.drop 11)).getD (0,[])).1,.str (bs ((Jw w (formsG.drop 11)).getD (0,[])).2)]):=by
 refine Cq mixed Tryz.func212 tr212 ?_;simp only[go_sem,seval]
 iterate 11
  refine⟨fun h=>?_,fun h=>?_⟩
  ·have h2:=eq_of_beq h;subst h2;simp only[go_sem,seval];rfl
  replace h:=Abd h;simp only[go_sem,seval]
 have e:Jw w (formsG.drop 11)=none:=by
  show Jw w [([80,105],13,_),([76,97,109],14,_),([65,112,112],15,_),([83,105,103],16,_),([80,97,105,114],17,_),([70,115,116],18,_),([83,110,100],19,_),([69,113],20,_),([82,101,102,108],21,_),([74],22,_),([117,115,101],23,_)]=none;simp only[l8,if_neg, *];simp[Jw]
 rw[e];rfl
def Akm(w:By):Con 189 [.str (bs w)] (.tup [.int .i64 (Kv w).1,.str (bs (Kv w).2)]):=by
 have cp:=Ak5 w;refine Cq mixed Tryz.func189 tr189 ?_;simp only[go_sem,seval]
 iterate 11
  refine⟨fun h=>?_,fun h=>?_⟩
  ·have h2:=eq_of_beq h;subst h2;simp only[go_sem,seval];rfl
  replace h:=Abd h;simp only[go_sem,seval]
 refine Aj cp ?_;have e:Kv w=(Jw w (formsG.drop 11)).getD (0,[]):=by
  unfold Kv;congr 1;show Jw w (([115,111,114,116],1,_)::([112,105],3,_)::([108,97,109],4,_)::([97,112,112],5,_)::([115,105,103],6,_)::([112,97,105,114],7,_)::([102,115,116],8,_)::([115,110,100],9,_)::([101,113],10,_)::([114,101,102,108],11,_)::([116,114],12,_)::formsG.drop 11)=_;simp only[l8,if_neg, *];simp
 rw[e];simp only[go_sem,seval]
def NGr(G:GV):Prop:=∀r∈G,∀x∈r,NoG x
def NGr.nil:NGr []:=fun r hr=>by cases hr
def NGr.app{G D:GV}(h:NGr G)(k:NGr D):NGr (G++D):=fun r hr=>(q_ke.1 hr).elim (h r) (k r)
def NGr.cons{r:List SV}{D:GV}(h:∀x∈r,NoG x)(k:NGr D):NGr (r::D):=fun q hq=>by
 rcases q_kb.1 hq with rfl|hq
 ·exact h
 ·exact k q hq
def Agm(l:List By):NoG (.dsl 1 (l.map wdG)):=.dsl _ _ (fun x hx=>by
 obtain⟨r,hr,hx⟩:=List.mem_flatten.1 hx;obtain⟨w,_,rfl⟩:=q_kx.1 hr;simp only[wdG,q_kh] at hx;subst hx;exact .str _)
def As0(l:List Tok):NoG (.dsl 3 (l.map Gp)):=.dsl _ _ (fun x hx=>by
 obtain⟨r,hr,hx⟩:=List.mem_flatten.1 hx;obtain⟨t,_,rfl⟩:=q_kx.1 hr;simp only[Gp,q_kb,q_kc,or_false] at hx;rcases hx with rfl|rfl|rfl
 ·exact .int _ _
 ·exact .str _
 ·exact .int _ _)
def Agl(l:List Tm):NoG (.dsl 5 (l.map tv)):=.dsl _ _ (fun x hx=>by
 obtain⟨r,hr,hx⟩:=List.mem_flatten.1 hx;obtain⟨t,_,rfl⟩:=q_kx.1 hr;exact Pl _ x hx)
def Agn{c:RC}{ns:List By}{s:RS}:∀x∈rdS c (nmG ns) s,NoG x:=by
 intro x hx;simp only[rdS,q_kb,q_kc,or_false] at hx;rcases hx with rfl|rfl|rfl|rfl|rfl|rfl|rfl|rfl
 ·exact As0 _
 ·exact .int _ _
 ·exact .int _ _
 ·exact Agm _
 ·exact .int _ _
 ·exact .int _ _
 ·exact .bool _
 ·exact .int _ _
section
variable{c:RC}{s:RS}
def Oq(k:Nat):(Cu c s k).D=s.D:=by unfold Cu;split<;>rfl
def Bc(kd:Nat):(Ai c s kd).2.D=s.D:=by
 unfold Ai;split
 ·rfl
 ·exact Oq _
def Ar9{lev:RS->Nat×RS}(h:∀s,(lev s).2.D=s.D):(Ie c lev s).2.D=s.D:=by
 unfold Ie;refine (Bc 2).trans ?_;split
 ·exact h s.nx
 split
 ·exact (h _).trans (h s.nx)
 ·exact Oq _
def Ka:∀(f:Nat) (s:RS),(Cn c f s).2.D=s.D:=by
 intro f
 induction f with
 |zero=>intro s;rfl
 |succ f ih=>
  intro s;unfold Cn;have key:∀(q:Nat×RS),q.2.D=s.D->(if q.2.bad=false/\1000<q.1 then Cu c q.2 s.k else q.2).D=s.D:=fun q h=>by
   split
   ·exact (Oq _).trans h
   ·exact h
  split
  ·refine key _ ?_
   repeat' split
   ·rfl
   ·rfl
   ·rfl
   ·exact Ar9 ih
   ·exact Oq _
  ·exact Oq _
def Agj{kd:Nat}(h:s.bad=true):Ai c s kd=([],s):=by
 unfold Ai;rw[if_neg (fun k=>by rw[h] at k;cases k.1)];unfold Cu;rw[if_pos h]
end
def TCG(c:RC)(T:TR)(f:Nat):Prop:=∀(ns:List By) (want:Nat) (s:RS) (G:GV),c.L.length<s.k+f->ns.length+3*f<100000000000->want<=2->NGr s.D->NGr G ->
 Cp 155 (rdS c (nmG ns) s::(G++s.D)) [.gp 0 0,.int .i64 want] (.ret (.agg true (tv (T ns want s).1))) (rdS c (nmG ns) (T ns want s).2::(G++(T ns want s).2.D))/\s.k<=(T ns want s).2.k/\NGr (T ns want s).2.D
def LCG(c:RC)(T:TR)(ns:List By)(k:Nat)(sh:By)(s:RS)(G:GV):Prop:=
 Cp 190 (rdS c (nmG ns) s::(G++s.D)) [.gp 0 0,.int .i64 k,.str (bs sh)] (.ret (.agg true (tv (Ae c T ns k sh s).1))) (rdS c (nmG ns) (Ae c T ns k sh s).2::(G++(Ae c T ns k sh s).2.D))/\s.k<=(Ae c T ns k sh s).2.k/\NGr (Ae c T ns k sh s).2.D
def tvn:Tm->List SV
 |.mk k a b n []=>[.int .i64 k,.int .i64 a,.int .i64 b,.int .i64 n,.nils]
 |.mk k a b n (t::l)=>tv (.mk k a b n (t::l))
def Hk(t:Tm):Le (.agg true (tvn t)) (.agg true (tv t)):=by
 obtain⟨k,a,b,n,l⟩:=t;cases l with
 |nil=>exact Qz _ _ _ _
 |cons t l=>exact .val _ _ (.cell _ _ (.refl _))
def Gv{k a b n:Int}:tvn (.mk k a b n [])=[.int .i64 k,.int .i64 a,.int .i64 b,.int .i64 n,.nils]:=rfl
def Dh{k a b n:Int}{t:Tm}{l:List Tm}:tvn (.mk k a b n (t::l))=[.int .i64 k,.int .i64 a,.int .i64 b,.int .i64 n,.dsl 5 (tv t::l.map tv)]:=by
 show tv _=_;rw[Bo];rfl
section
variable{c:RC}{T:TR}{ns:List By}{k:Nat}{x:AccR}{s:RS}
def Bh:Ds c T ns k 76 x s=({ x with a:=(Cn c (c.L.length+1) s).1 },(Cn c (c.L.length+1) s).2):=rfl
def Ce(h:k≠23):Ds c T ns k 77 x s=({ x with b:=(Cn c (c.L.length+1) s).1 },(Cn c (c.L.length+1) s).2):=by
 unfold Ds;rw[if_neg (by decide),if_pos (by decide),if_neg h]
def Bm:Ds c T ns k 120 x s=({ x with bd:=(Ai c s 3).1::x.bd },(Ai c s 3).2):=rfl
def Ft:Ds c T ns k 121 x s=({ x with bd:=(Ai c s 3).1::x.bd },(Ai c s 3).2):=rfl
def Fs:Ds c T ns k 101 x s=({ x with bd:=(Ai c s 3).1::x.bd },(Ai c s 3).2):=rfl
def Ar:Ds c T ns k 116 x s=({ x with l:=x.l++[(T ns (ofR k) s).1] },(T ns (ofR k) s).2):=rfl
def Jl:Ds c T ns k 112 x s=({ x with l:=x.l++[(T ns 2 s).1] },(T ns 2 s).2):=rfl
def Bl:Ds c T ns k 98 x s=({ x with l:=x.l++[(T (x.bd++ns) (ofR k) s).1] },(T (x.bd++ns) (ofR k) s).2):=rfl
def Fr:Ds c T ns k 80 x s=({ x with l:=x.l++[(T (x.bd++ns) (ofR k) s).1] },(T (x.bd++ns) (ofR k) s).2):=rfl
def Aq:Ea c T ns k [] x s=(x,s):=rfl
def Ao{ch:UInt8}{r:By}{q a:Nat}{D:GV}:Ea c T ns k (ch::r) x ⟨q,true,a,D⟩=(x,⟨q,true,a,D⟩):=rfl
def An{ch:UInt8}{r:By}{q a:Nat}{D:GV}:Ea c T ns k (ch::r) x ⟨q,false,a,D⟩=Ea c T ns k r (Ds c T ns k ch x ⟨q,false,a,D⟩).1 (Ds c T ns k ch x ⟨q,false,a,D⟩).2:=rfl
end
def v76:((UInt8.toNat 76:Nat):Int)=76:=rfl
def v77:((UInt8.toNat 77:Nat):Int)=77:=rfl
def v83:((UInt8.toNat 83:Nat):Int)=83:=rfl
def v116:((UInt8.toNat 116:Nat):Int)=116:=rfl
def v98:((UInt8.toNat 98:Nat):Int)=98:=rfl
def v80:((UInt8.toNat 80:Nat):Int)=80:=rfl
def v120:((UInt8.toNat 120:Nat):Int)=120:=rfl
def v121:((UInt8.toNat 121:Nat):Int)=121:=rfl
def v101:((UInt8.toNat 101:Nat):Int)=101:=rfl
def v112:((UInt8.toNat 112:Nat):Int)=112:=rfl
def wq7:IntKind.i64.wrap 7=7:=rfl
def wq8:IntKind.i64.wrap 8=8:=rfl
section
variable{c:RC}{T:TR}{f:Nat}{ns:List By}{k:Nat}{s:RS}{G:GV}
def lg_L(hc:Fa c)(hT:TCG c T f)(Bq:ns.length+3*f+2<100000000000)(hk:k<=12)(hb:s.bad=false)(hN:NGr s.D)(hG:NGr G)(hs:c.L.length<s.k+f):LCG c T ns k [76] s G:=by
 obtain⟨k0,b0,a0,D0⟩:=s;simp only at hs hN hb;subst hb;have Ak:ofR k=1:=by unfold ofR;rw[if_pos hk]
 have Es:(k:Int)<=12:=by omega
 have Bk:k≠23:=by omega
 have Ah:((k:Int)==23)=false:=by rw[beq_eq_false_iff_ne];omega
 have c0:=Jy (nm:=nmG ns) (G:=G++D0) hc (c.L.length+1) ⟨k0,false,a0,D0⟩ (q_ja _) (by simp only;omega) (by omega);have d0:=(Ka (c:=c) (c.L.length+1) ⟨k0,false,a0,D0⟩).symm;have m0:=Jm (c:=c) (c.L.length+1) ⟨k0,false,a0,D0⟩;generalize e0:Cn c (c.L.length+1) ⟨k0,false,a0,D0⟩=q at c0 d0 m0;obtain⟨u0,k1,b1,a1,E1⟩:=q;simp only at c0 d0 m0;subst d0;refine⟨?_,?_,?_⟩;rotate_left
 ·have eR:Ae c T ns k [76] ⟨k0,false,a0,D0⟩=(.mk k (u0:Nat) (0:Nat) 0 [],(Ai c ⟨k1,b1,a1,D0⟩ 2).2):=by simp only[Ae,An,Ao,Aq,Bh,Ak,q_kl,q_km,e0];rfl
  rw[eR];refine q_kn ?_ (Cc 2);first|omega|(simp only;omega)
 ·have eR:Ae c T ns k [76] ⟨k0,false,a0,D0⟩=(.mk k (u0:Nat) (0:Nat) 0 [],(Ai c ⟨k1,b1,a1,D0⟩ 2).2):=by simp only[Ae,An,Ao,Aq,Bh,Ak,q_kl,q_km,e0];rfl
  rw[eR];rw[Bc];exact hN
 refine Gj (r:=.agg true (tvn (Ae c T ns k [76] ⟨k0,false,a0,D0⟩).1)) ?_ (Hk _);have Kj:1<=140737488355328:=by decide
 refine Ca mixed Tryz.func190 tr190 ?_;unfold rdS at c0 |-;simp only[go_sem,seval,Es];refine Eo 2 (Bb ?_);simp only[go_sem,seval,v76,wq7,wq8,Ah];refine Ad c0 ?_;simp only[go_sem,seval,v76,wq7,wq8,Ah];refine Bb ?_;have ce:=Bx (nm:=nmG ns) (s:=⟨k1,b1,a1,D0⟩) (G:=G++D0) hc 2;have eR:Ae c T ns k [76] ⟨k0,false,a0,D0⟩=(.mk k (u0:Nat) (0:Nat) 0 [],(Ai c ⟨k1,b1,a1,D0⟩ 2).2):=by simp only[Ae,An,Ao,Aq,Bh,Ak,q_kl,q_km,e0];rfl
 rw[eR,Bc,Gv];unfold rdS at ce;simp only[go_sem,seval,v76,wq7,wq8,Ah];refine Ad ce ?_;simp only[go_sem,seval,v76,wq7,wq8,Ah,q_h,q_i]
def Af8(hc:Fa c)(hT:TCG c T f)(Bq:ns.length+3*f+2<100000000000)(hk:12<k/\k≠23)(hb:s.bad=false)(hN:NGr s.D)(hG:NGr G)(hs:c.L.length<s.k+f):LCG c T ns k [116,116] s G:=by
 obtain⟨k0,b0,a0,D0⟩:=s;simp only at hs hN hb;subst hb;have Ak:ofR k=2:=by unfold ofR;rw[if_neg (by omega)]
 have Es:¬(k:Int)<=12:=by omega
 have Bk:k≠23:=hk.2;have Ah:((k:Int)==23)=false:=by rw[beq_eq_false_iff_ne];omega
 have t0:=hT ns 2 ⟨k0,false,a0,D0⟩ G (by first|omega|(simp only;omega)) (by first|omega|(simp at Bq |-;omega)) (by decide) hN hG;generalize e0:T ns 2 ⟨k0,false,a0,D0⟩=q at t0;obtain⟨u0,k1,b1,a1,D1⟩:=q;obtain⟨c0,m0,N1⟩:=t0;simp only at c0 m0 N1;have z0:=Cg u0;have t1:=hT ns 2 ⟨k1,false,a1,D1⟩ G (by first|omega|(simp only;omega)) (by first|omega|(simp at Bq |-;omega)) (by decide) N1 hG;generalize e1:T ns 2 ⟨k1,false,a1,D1⟩=q at t1;obtain⟨u1,k2,b2,a2,D2⟩:=q;obtain⟨c1,m1,N2⟩:=t1;simp only at c1 m1 N2;have z1:=Cg u1;refine⟨?_,?_,?_⟩;rotate_left
 ·cases b1;rotate_left
  ·have eR:Ae c T ns k [116,116] ⟨k0,false,a0,D0⟩=(.mk k (0:Nat) (0:Nat) 0 [u0],(Ai c ⟨k1,true,a1,D1⟩ 2).2):=by simp only[Ae,An,Ao,Aq,Ar,Ak,q_kl,q_km,e0];rfl
   rw[eR];refine q_kn ?_ (Cc 2);first|omega|(simp only;omega)
  have eR:Ae c T ns k [116,116] ⟨k0,false,a0,D0⟩=(.mk k (0:Nat) (0:Nat) 0 [u0,u1],(Ai c ⟨k2,b2,a2,D2⟩ 2).2):=by simp only[Ae,An,Ao,Aq,Ar,Ak,q_kl,q_km,e0,e1];rfl
  rw[eR];refine q_kn ?_ (Cc 2);first|omega|(simp only;omega)
 ·cases b1;rotate_left
  ·have eR:Ae c T ns k [116,116] ⟨k0,false,a0,D0⟩=(.mk k (0:Nat) (0:Nat) 0 [u0],(Ai c ⟨k1,true,a1,D1⟩ 2).2):=by simp only[Ae,An,Ao,Aq,Ar,Ak,q_kl,q_km,e0];rfl
   rw[eR];rw[Bc];exact N1
  have eR:Ae c T ns k [116,116] ⟨k0,false,a0,D0⟩=(.mk k (0:Nat) (0:Nat) 0 [u0,u1],(Ai c ⟨k2,b2,a2,D2⟩ 2).2):=by simp only[Ae,An,Ao,Aq,Ar,Ak,q_kl,q_km,e0,e1];rfl
  rw[eR];rw[Bc];exact N2
 refine Gj (r:=.agg true (tvn (Ae c T ns k [116,116] ⟨k0,false,a0,D0⟩).1)) ?_ (Hk _);have Kj:2<=140737488355328:=by decide
 refine Ca mixed Tryz.func190 tr190 ?_;unfold rdS at c0 c1 |-;simp only[go_sem,seval,Es];refine Eo 3 (Bb ?_);simp only[go_sem,seval,v116,wq7,wq8,Ah,z0,z1];refine Ad c0 ?_;simp only[go_sem,seval,v116,wq7,wq8,Ah,z0,z1];cases b1;rotate_left
 ·refine Bb ?_;have ce:=Bx (nm:=nmG ns) (s:=⟨k1,true,a1,D1⟩) (G:=G++D1) hc 2;have eR:Ae c T ns k [116,116] ⟨k0,false,a0,D0⟩=(.mk k (0:Nat) (0:Nat) 0 [u0],(Ai c ⟨k1,true,a1,D1⟩ 2).2):=by simp only[Ae,An,Ao,Aq,Ar,Ak,q_kl,q_km,e0];rfl
  rw[eR,Bc,Dh];unfold rdS at ce;simp only[go_sem,seval,v116,wq7,wq8,Ah,z0,z1];refine Ad ce ?_;simp only[go_sem,seval,v116,wq7,wq8,Ah,z0,z1,q_h,q_i]
 refine Bb ?_;simp only[go_sem,seval,v116,wq7,wq8,Ah,z0,z1];refine Ad c1 ?_;simp only[go_sem,seval,v116,wq7,wq8,Ah,z0,z1];refine Bb ?_;have ce:=Bx (nm:=nmG ns) (s:=⟨k2,b2,a2,D2⟩) (G:=G++D2) hc 2;have eR:Ae c T ns k [116,116] ⟨k0,false,a0,D0⟩=(.mk k (0:Nat) (0:Nat) 0 [u0,u1],(Ai c ⟨k2,b2,a2,D2⟩ 2).2):=by simp only[Ae,An,Ao,Aq,Ar,Ak,q_kl,q_km,e0,e1];rfl
 rw[eR,Bc,Dh];unfold rdS at ce;simp only[go_sem,seval,v116,wq7,wq8,Ah,z0,z1];refine Ad ce ?_;simp only[go_sem,seval,v116,wq7,wq8,Ah,z0,z1,q_h,q_i]
def lg_t(hc:Fa c)(hT:TCG c T f)(Bq:ns.length+3*f+2<100000000000)(hk:12<k/\k≠23)(hb:s.bad=false)(hN:NGr s.D)(hG:NGr G)(hs:c.L.length<s.k+f):LCG c T ns k [116] s G:=by
 obtain⟨k0,b0,a0,D0⟩:=s;simp only at hs hN hb;subst hb;have Ak:ofR k=2:=by unfold ofR;rw[if_neg (by omega)]
 have Es:¬(k:Int)<=12:=by omega
 have Bk:k≠23:=hk.2;have Ah:((k:Int)==23)=false:=by rw[beq_eq_false_iff_ne];omega
 have t0:=hT ns 2 ⟨k0,false,a0,D0⟩ G (by first|omega|(simp only;omega)) (by first|omega|(simp at Bq |-;omega)) (by decide) hN hG;generalize e0:T ns 2 ⟨k0,false,a0,D0⟩=q at t0;obtain⟨u0,k1,b1,a1,D1⟩:=q;obtain⟨c0,m0,N1⟩:=t0;simp only at c0 m0 N1;have z0:=Cg u0;refine⟨?_,?_,?_⟩;rotate_left
 ·have eR:Ae c T ns k [116] ⟨k0,false,a0,D0⟩=(.mk k (0:Nat) (0:Nat) 0 [u0],(Ai c ⟨k1,b1,a1,D1⟩ 2).2):=by simp only[Ae,An,Ao,Aq,Ar,Ak,q_kl,q_km,e0];rfl
  rw[eR];refine q_kn ?_ (Cc 2);first|omega|(simp only;omega)
 ·have eR:Ae c T ns k [116] ⟨k0,false,a0,D0⟩=(.mk k (0:Nat) (0:Nat) 0 [u0],(Ai c ⟨k1,b1,a1,D1⟩ 2).2):=by simp only[Ae,An,Ao,Aq,Ar,Ak,q_kl,q_km,e0];rfl
  rw[eR];rw[Bc];exact N1
 refine Gj (r:=.agg true (tvn (Ae c T ns k [116] ⟨k0,false,a0,D0⟩).1)) ?_ (Hk _);have Kj:1<=140737488355328:=by decide
 refine Ca mixed Tryz.func190 tr190 ?_;unfold rdS at c0 |-;simp only[go_sem,seval,Es];refine Eo 2 (Bb ?_);simp only[go_sem,seval,v116,wq7,wq8,Ah,z0];refine Ad c0 ?_;simp only[go_sem,seval,v116,wq7,wq8,Ah,z0];refine Bb ?_;have ce:=Bx (nm:=nmG ns) (s:=⟨k1,b1,a1,D1⟩) (G:=G++D1) hc 2;have eR:Ae c T ns k [116] ⟨k0,false,a0,D0⟩=(.mk k (0:Nat) (0:Nat) 0 [u0],(Ai c ⟨k1,b1,a1,D1⟩ 2).2):=by simp only[Ae,An,Ao,Aq,Ar,Ak,q_kl,q_km,e0];rfl
 rw[eR,Bc,Dh];unfold rdS at ce;simp only[go_sem,seval,v116,wq7,wq8,Ah,z0];refine Ad ce ?_;simp only[go_sem,seval,v116,wq7,wq8,Ah,z0,q_h,q_i]
def Arz(hc:Fa c)(hT:TCG c T f)(Bq:ns.length+3*f+2<100000000000)(hk:12<k/\k≠23)(hb:s.bad=false)(hN:NGr s.D)(hG:NGr G)(hs:c.L.length<s.k+f):LCG c T ns k [116,116,116] s G:=by
 obtain⟨k0,b0,a0,D0⟩:=s;simp only at hs hN hb;subst hb;have Ak:ofR k=2:=by unfold ofR;rw[if_neg (by omega)]
 have Es:¬(k:Int)<=12:=by omega
 have Bk:k≠23:=hk.2;have Ah:((k:Int)==23)=false:=by rw[beq_eq_false_iff_ne];omega
 have t0:=hT ns 2 ⟨k0,false,a0,D0⟩ G (by first|omega|(simp only;omega)) (by first|omega|(simp at Bq |-;omega)) (by decide) hN hG;generalize e0:T ns 2 ⟨k0,false,a0,D0⟩=q at t0;obtain⟨u0,k1,b1,a1,D1⟩:=q;obtain⟨c0,m0,N1⟩:=t0;simp only at c0 m0 N1;have z0:=Cg u0;have t1:=hT ns 2 ⟨k1,false,a1,D1⟩ G (by first|omega|(simp only;omega)) (by first|omega|(simp at Bq |-;omega)) (by decide) N1 hG;generalize e1:T ns 2 ⟨k1,false,a1,D1⟩=q at t1;obtain⟨u1,k2,b2,a2,D2⟩:=q;obtain⟨c1,m1,N2⟩:=t1;simp only at c1 m1 N2;have z1:=Cg u1;have t2:=hT ns 2 ⟨k2,false,a2,D2⟩ G (by first|omega|(simp only;omega)) (by first|omega|(simp at Bq |-;omega)) (by decide) N2 hG;generalize e2:T ns 2 ⟨k2,false,a2,D2⟩=q at t2;obtain⟨u2,k3,b3,a3,D3⟩:=q;obtain⟨c2,m2,N3⟩:=t2;simp only at c2 m2 N3;have z2:=Cg u2;refine⟨?_,?_,?_⟩;rotate_left
 ·cases b1;rotate_left
  ·have eR:Ae c T ns k [116,116,116] ⟨k0,false,a0,D0⟩=(.mk k (0:Nat) (0:Nat) 0 [u0],(Ai c ⟨k1,true,a1,D1⟩ 2).2):=by simp only[Ae,An,Ao,Aq,Ar,Ak,q_kl,q_km,e0];rfl
   rw[eR];refine q_kn ?_ (Cc 2);first|omega|(simp only;omega)
  cases b2;rotate_left
  ·have eR:Ae c T ns k [116,116,116] ⟨k0,false,a0,D0⟩=(.mk k (0:Nat) (0:Nat) 0 [u0,u1],(Ai c ⟨k2,true,a2,D2⟩ 2).2):=by simp only[Ae,An,Ao,Aq,Ar,Ak,q_kl,q_km,e0,e1];rfl
   rw[eR];refine q_kn ?_ (Cc 2);first|omega|(simp only;omega)
  have eR:Ae c T ns k [116,116,116] ⟨k0,false,a0,D0⟩=(.mk k (0:Nat) (0:Nat) 0 [u0,u1,u2],(Ai c ⟨k3,b3,a3,D3⟩ 2).2):=by simp only[Ae,An,Ao,Aq,Ar,Ak,q_kl,q_km,e0,e1,e2];rfl
  rw[eR];refine q_kn ?_ (Cc 2);first|omega|(simp only;omega)
 ·cases b1;rotate_left
  ·have eR:Ae c T ns k [116,116,116] ⟨k0,false,a0,D0⟩=(.mk k (0:Nat) (0:Nat) 0 [u0],(Ai c ⟨k1,true,a1,D1⟩ 2).2):=by simp only[Ae,An,Ao,Aq,Ar,Ak,q_kl,q_km,e0];rfl
   rw[eR];rw[Bc];exact N1
  cases b2;rotate_left
  ·have eR:Ae c T ns k [116,116,116] ⟨k0,false,a0,D0⟩=(.mk k (0:Nat) (0:Nat) 0 [u0,u1],(Ai c ⟨k2,true,a2,D2⟩ 2).2):=by simp only[Ae,An,Ao,Aq,Ar,Ak,q_kl,q_km,e0,e1];rfl
   rw[eR];rw[Bc];exact N2
  have eR:Ae c T ns k [116,116,116] ⟨k0,false,a0,D0⟩=(.mk k (0:Nat) (0:Nat) 0 [u0,u1,u2],(Ai c ⟨k3,b3,a3,D3⟩ 2).2):=by simp only[Ae,An,Ao,Aq,Ar,Ak,q_kl,q_km,e0,e1,e2];rfl
  rw[eR];rw[Bc];exact N3
 refine Gj (r:=.agg true (tvn (Ae c T ns k [116,116,116] ⟨k0,false,a0,D0⟩).1)) ?_ (Hk _);have Kj:3<=140737488355328:=by decide
 refine Ca mixed Tryz.func190 tr190 ?_;unfold rdS at c0 c1 c2 |-;simp only[go_sem,seval,Es];refine Eo 4 (Bb ?_);simp only[go_sem,seval,v116,wq7,wq8,Ah,z0,z1,z2];refine Ad c0 ?_;simp only[go_sem,seval,v116,wq7,wq8,Ah,z0,z1,z2];cases b1;rotate_left
 ·refine Bb ?_;have ce:=Bx (nm:=nmG ns) (s:=⟨k1,true,a1,D1⟩) (G:=G++D1) hc 2;have eR:Ae c T ns k [116,116,116] ⟨k0,false,a0,D0⟩=(.mk k (0:Nat) (0:Nat) 0 [u0],(Ai c ⟨k1,true,a1,D1⟩ 2).2):=by simp only[Ae,An,Ao,Aq,Ar,Ak,q_kl,q_km,e0];rfl
  rw[eR,Bc,Dh];unfold rdS at ce;simp only[go_sem,seval,v116,wq7,wq8,Ah,z0,z1,z2];refine Ad ce ?_;simp only[go_sem,seval,v116,wq7,wq8,Ah,z0,z1,z2,q_h,q_i]
 refine Bb ?_;simp only[go_sem,seval,v116,wq7,wq8,Ah,z0,z1,z2];refine Ad c1 ?_;simp only[go_sem,seval,v116,wq7,wq8,Ah,z0,z1,z2];cases b2;rotate_left
 ·refine Bb ?_;have ce:=Bx (nm:=nmG ns) (s:=⟨k2,true,a2,D2⟩) (G:=G++D2) hc 2;have eR:Ae c T ns k [116,116,116] ⟨k0,false,a0,D0⟩=(.mk k (0:Nat) (0:Nat) 0 [u0,u1],(Ai c ⟨k2,true,a2,D2⟩ 2).2):=by simp only[Ae,An,Ao,Aq,Ar,Ak,q_kl,q_km,e0,e1];rfl
  rw[eR,Bc,Dh];unfold rdS at ce;simp only[go_sem,seval,v116,wq7,wq8,Ah,z0,z1,z2];refine Ad ce ?_;simp only[go_sem,seval,v116,wq7,wq8,Ah,z0,z1,z2,q_h,q_i]
 refine Bb ?_;simp only[go_sem,seval,v116,wq7,wq8,Ah,z0,z1,z2];refine Ad c2 ?_;simp only[go_sem,seval,v116,wq7,wq8,Ah,z0,z1,z2];refine Bb ?_;have ce:=Bx (nm:=nmG ns) (s:=⟨k3,b3,a3,D3⟩) (G:=G++D3) hc 2;have eR:Ae c T ns k [116,116,116] ⟨k0,false,a0,D0⟩=(.mk k (0:Nat) (0:Nat) 0 [u0,u1,u2],(Ai c ⟨k3,b3,a3,D3⟩ 2).2):=by simp only[Ae,An,Ao,Aq,Ar,Ak,q_kl,q_km,e0,e1,e2];rfl
 rw[eR,Bc,Dh];unfold rdS at ce;simp only[go_sem,seval,v116,wq7,wq8,Ah,z0,z1,z2];refine Ad ce ?_;simp only[go_sem,seval,v116,wq7,wq8,Ah,z0,z1,z2,q_h,q_i]
def Arw(hc:Fa c)(hT:TCG c T f)(Bq:ns.length+3*f+2<100000000000)(hk:k<=12)(hb:s.bad=false)(hN:NGr s.D)(hG:NGr G)(hs:c.L.length<s.k+f):LCG c T ns k [76,116,116,116] s G:=by
 obtain⟨k0,b0,a0,D0⟩:=s;simp only at hs hN hb;subst hb;have Ak:ofR k=1:=by unfold ofR;rw[if_pos hk]
 have Es:(k:Int)<=12:=by omega
 have Bk:k≠23:=by omega
 have Ah:((k:Int)==23)=false:=by rw[beq_eq_false_iff_ne];omega
 have c0:=Jy (nm:=nmG ns) (G:=G++D0) hc (c.L.length+1) ⟨k0,false,a0,D0⟩ (q_ja _) (by simp only;omega) (by omega);have d0:=(Ka (c:=c) (c.L.length+1) ⟨k0,false,a0,D0⟩).symm;have m0:=Jm (c:=c) (c.L.length+1) ⟨k0,false,a0,D0⟩;generalize e0:Cn c (c.L.length+1) ⟨k0,false,a0,D0⟩=q at c0 d0 m0;obtain⟨u0,k1,b1,a1,E1⟩:=q;simp only at c0 d0 m0;subst d0;have t1:=hT ns 1 ⟨k1,false,a1,D0⟩ G (by first|omega|(simp only;omega)) (by first|omega|(simp at Bq |-;omega)) (by decide) hN hG;generalize e1:T ns 1 ⟨k1,false,a1,D0⟩=q at t1;obtain⟨u1,k2,b2,a2,D2⟩:=q;obtain⟨c1,m1,N2⟩:=t1;simp only at c1 m1 N2;have z1:=Cg u1;have t2:=hT ns 1 ⟨k2,false,a2,D2⟩ G (by first|omega|(simp only;omega)) (by first|omega|(simp at Bq |-;omega)) (by decide) N2 hG;generalize e2:T ns 1 ⟨k2,false,a2,D2⟩=q at t2;obtain⟨u2,k3,b3,a3,D3⟩:=q;obtain⟨c2,m2,N3⟩:=t2;simp only at c2 m2 N3;have z2:=Cg u2;have t3:=hT ns 1 ⟨k3,false,a3,D3⟩ G (by first|omega|(simp only;omega)) (by first|omega|(simp at Bq |-;omega)) (by decide) N3 hG;generalize e3:T ns 1 ⟨k3,false,a3,D3⟩=q at t3;obtain⟨u3,k4,b4,a4,D4⟩:=q;obtain⟨c3,m3,N4⟩:=t3;simp only at c3 m3 N4;have z3:=Cg u3;refine⟨?_,?_,?_⟩;rotate_left
 ·cases b1;rotate_left
  ·have eR:Ae c T ns k [76,116,116,116] ⟨k0,false,a0,D0⟩=(.mk k (u0:Nat) (0:Nat) 0 [],(Ai c ⟨k1,true,a1,D0⟩ 2).2):=by simp only[Ae,An,Ao,Aq,Bh,Ar,Ak,q_kl,q_km,e0];rfl
   rw[eR];refine q_kn ?_ (Cc 2);first|omega|(simp only;omega)
  cases b2;rotate_left
  ·have eR:Ae c T ns k [76,116,116,116] ⟨k0,false,a0,D0⟩=(.mk k (u0:Nat) (0:Nat) 0 [u1],(Ai c ⟨k2,true,a2,D2⟩ 2).2):=by simp only[Ae,An,Ao,Aq,Bh,Ar,Ak,q_kl,q_km,e0,e1];rfl
   rw[eR];refine q_kn ?_ (Cc 2);first|omega|(simp only;omega)
  cases b3;rotate_left
  ·have eR:Ae c T ns k [76,116,116,116] ⟨k0,false,a0,D0⟩=(.mk k (u0:Nat) (0:Nat) 0 [u1,u2],(Ai c ⟨k3,true,a3,D3⟩ 2).2):=by simp only[Ae,An,Ao,Aq,Bh,Ar,Ak,q_kl,q_km,e0,e1,e2];rfl
   rw[eR];refine q_kn ?_ (Cc 2);first|omega|(simp only;omega)
  have eR:Ae c T ns k [76,116,116,116] ⟨k0,false,a0,D0⟩=(.mk k (u0:Nat) (0:Nat) 0 [u1,u2,u3],(Ai c ⟨k4,b4,a4,D4⟩ 2).2):=by simp only[Ae,An,Ao,Aq,Bh,Ar,Ak,q_kl,q_km,e0,e1,e2,e3];rfl
  rw[eR];refine q_kn ?_ (Cc 2);first|omega|(simp only;omega)
 ·cases b1;rotate_left
  ·have eR:Ae c T ns k [76,116,116,116] ⟨k0,false,a0,D0⟩=(.mk k (u0:Nat) (0:Nat) 0 [],(Ai c ⟨k1,true,a1,D0⟩ 2).2):=by simp only[Ae,An,Ao,Aq,Bh,Ar,Ak,q_kl,q_km,e0];rfl
   rw[eR];rw[Bc];exact hN
  cases b2;rotate_left
  ·have eR:Ae c T ns k [76,116,116,116] ⟨k0,false,a0,D0⟩=(.mk k (u0:Nat) (0:Nat) 0 [u1],(Ai c ⟨k2,true,a2,D2⟩ 2).2):=by simp only[Ae,An,Ao,Aq,Bh,Ar,Ak,q_kl,q_km,e0,e1];rfl
   rw[eR];rw[Bc];exact N2
  cases b3;rotate_left
  ·have eR:Ae c T ns k [76,116,116,116] ⟨k0,false,a0,D0⟩=(.mk k (u0:Nat) (0:Nat) 0 [u1,u2],(Ai c ⟨k3,true,a3,D3⟩ 2).2):=by simp only[Ae,An,Ao,Aq,Bh,Ar,Ak,q_kl,q_km,e0,e1,e2];rfl
   rw[eR];rw[Bc];exact N3
  have eR:Ae c T ns k [76,116,116,116] ⟨k0,false,a0,D0⟩=(.mk k (u0:Nat) (0:Nat) 0 [u1,u2,u3],(Ai c ⟨k4,b4,a4,D4⟩ 2).2):=by simp only[Ae,An,Ao,Aq,Bh,Ar,Ak,q_kl,q_km,e0,e1,e2,e3];rfl
  rw[eR];rw[Bc];exact N4
 refine Gj (r:=.agg true (tvn (Ae c T ns k [76,116,116,116] ⟨k0,false,a0,D0⟩).1)) ?_ (Hk _);have Kj:4<=140737488355328:=by decide
 refine Ca mixed Tryz.func190 tr190 ?_;unfold rdS at c0 c1 c2 c3 |-;simp only[go_sem,seval,Es];refine Eo 5 (Bb ?_);simp only[go_sem,seval,v76,v116,wq7,wq8,Ah,z1,z2,z3];refine Ad c0 ?_;simp only[go_sem,seval,v76,v116,wq7,wq8,Ah,z1,z2,z3];cases b1;rotate_left
 ·refine Bb ?_;have ce:=Bx (nm:=nmG ns) (s:=⟨k1,true,a1,D0⟩) (G:=G++D0) hc 2;have eR:Ae c T ns k [76,116,116,116] ⟨k0,false,a0,D0⟩=(.mk k (u0:Nat) (0:Nat) 0 [],(Ai c ⟨k1,true,a1,D0⟩ 2).2):=by simp only[Ae,An,Ao,Aq,Bh,Ar,Ak,q_kl,q_km,e0];rfl
  rw[eR,Bc,Gv];unfold rdS at ce;simp only[go_sem,seval,v76,v116,wq7,wq8,Ah,z1,z2,z3];refine Ad ce ?_;simp only[go_sem,seval,v76,v116,wq7,wq8,Ah,z1,z2,z3,q_h,q_i]
 refine Bb ?_;simp only[go_sem,seval,v76,v116,wq7,wq8,Ah,z1,z2,z3];refine Ad c1 ?_;simp only[go_sem,seval,v76,v116,wq7,wq8,Ah,z1,z2,z3];cases b2;rotate_left
 ·refine Bb ?_;have ce:=Bx (nm:=nmG ns) (s:=⟨k2,true,a2,D2⟩) (G:=G++D2) hc 2;have eR:Ae c T ns k [76,116,116,116] ⟨k0,false,a0,D0⟩=(.mk k (u0:Nat) (0:Nat) 0 [u1],(Ai c ⟨k2,true,a2,D2⟩ 2).2):=by simp only[Ae,An,Ao,Aq,Bh,Ar,Ak,q_kl,q_km,e0,e1];rfl
  rw[eR,Bc,Dh];unfold rdS at ce;simp only[go_sem,seval,v76,v116,wq7,wq8,Ah,z1,z2,z3];refine Ad ce ?_;simp only[go_sem,seval,v76,v116,wq7,wq8,Ah,z1,z2,z3,q_h,q_i]
 refine Bb ?_;simp only[go_sem,seval,v76,v116,wq7,wq8,Ah,z1,z2,z3];refine Ad c2 ?_;simp only[go_sem,seval,v76,v116,wq7,wq8,Ah,z1,z2,z3];cases b3;rotate_left
 ·refine Bb ?_;have ce:=Bx (nm:=nmG ns) (s:=⟨k3,true,a3,D3⟩) (G:=G++D3) hc 2;have eR:Ae c T ns k [76,116,116,116] ⟨k0,false,a0,D0⟩=(.mk k (u0:Nat) (0:Nat) 0 [u1,u2],(Ai c ⟨k3,true,a3,D3⟩ 2).2):=by simp only[Ae,An,Ao,Aq,Bh,Ar,Ak,q_kl,q_km,e0,e1,e2];rfl
  rw[eR,Bc,Dh];unfold rdS at ce;simp only[go_sem,seval,v76,v116,wq7,wq8,Ah,z1,z2,z3];refine Ad ce ?_;simp only[go_sem,seval,v76,v116,wq7,wq8,Ah,z1,z2,z3,q_h,q_i]
 refine Bb ?_;simp only[go_sem,seval,v76,v116,wq7,wq8,Ah,z1,z2,z3];refine Ad c3 ?_;simp only[go_sem,seval,v76,v116,wq7,wq8,Ah,z1,z2,z3];refine Bb ?_;have ce:=Bx (nm:=nmG ns) (s:=⟨k4,b4,a4,D4⟩) (G:=G++D4) hc 2;have eR:Ae c T ns k [76,116,116,116] ⟨k0,false,a0,D0⟩=(.mk k (u0:Nat) (0:Nat) 0 [u1,u2,u3],(Ai c ⟨k4,b4,a4,D4⟩ 2).2):=by simp only[Ae,An,Ao,Aq,Bh,Ar,Ak,q_kl,q_km,e0,e1,e2,e3];rfl
 rw[eR,Bc,Dh];unfold rdS at ce;simp only[go_sem,seval,v76,v116,wq7,wq8,Ah,z1,z2,z3];refine Ad ce ?_;simp only[go_sem,seval,v76,v116,wq7,wq8,Ah,z1,z2,z3,q_h,q_i]
def Aru(hc:Fa c)(hT:TCG c T f)(Bq:ns.length+3*f+2<100000000000)(hk:k<=12)(hb:s.bad=false)(hN:NGr s.D)(hG:NGr G)(hs:c.L.length<s.k+f):LCG c T ns k [76,116,116] s G:=by
 obtain⟨k0,b0,a0,D0⟩:=s;simp only at hs hN hb;subst hb;have Ak:ofR k=1:=by unfold ofR;rw[if_pos hk]
 have Es:(k:Int)<=12:=by omega
 have Bk:k≠23:=by omega
 have Ah:((k:Int)==23)=false:=by rw[beq_eq_false_iff_ne];omega
 have c0:=Jy (nm:=nmG ns) (G:=G++D0) hc (c.L.length+1) ⟨k0,false,a0,D0⟩ (q_ja _) (by simp only;omega) (by omega);have d0:=(Ka (c:=c) (c.L.length+1) ⟨k0,false,a0,D0⟩).symm;have m0:=Jm (c:=c) (c.L.length+1) ⟨k0,false,a0,D0⟩;generalize e0:Cn c (c.L.length+1) ⟨k0,false,a0,D0⟩=q at c0 d0 m0;obtain⟨u0,k1,b1,a1,E1⟩:=q;simp only at c0 d0 m0;subst d0;have t1:=hT ns 1 ⟨k1,false,a1,D0⟩ G (by first|omega|(simp only;omega)) (by first|omega|(simp at Bq |-;omega)) (by decide) hN hG;generalize e1:T ns 1 ⟨k1,false,a1,D0⟩=q at t1;obtain⟨u1,k2,b2,a2,D2⟩:=q;obtain⟨c1,m1,N2⟩:=t1;simp only at c1 m1 N2;have z1:=Cg u1;have t2:=hT ns 1 ⟨k2,false,a2,D2⟩ G (by first|omega|(simp only;omega)) (by first|omega|(simp at Bq |-;omega)) (by decide) N2 hG;generalize e2:T ns 1 ⟨k2,false,a2,D2⟩=q at t2;obtain⟨u2,k3,b3,a3,D3⟩:=q;obtain⟨c2,m2,N3⟩:=t2;simp only at c2 m2 N3;have z2:=Cg u2;refine⟨?_,?_,?_⟩;rotate_left
 ·cases b1;rotate_left
  ·have eR:Ae c T ns k [76,116,116] ⟨k0,false,a0,D0⟩=(.mk k (u0:Nat) (0:Nat) 0 [],(Ai c ⟨k1,true,a1,D0⟩ 2).2):=by simp only[Ae,An,Ao,Aq,Bh,Ar,Ak,q_kl,q_km,e0];rfl
   rw[eR];refine q_kn ?_ (Cc 2);first|omega|(simp only;omega)
  cases b2;rotate_left
  ·have eR:Ae c T ns k [76,116,116] ⟨k0,false,a0,D0⟩=(.mk k (u0:Nat) (0:Nat) 0 [u1],(Ai c ⟨k2,true,a2,D2⟩ 2).2):=by simp only[Ae,An,Ao,Aq,Bh,Ar,Ak,q_kl,q_km,e0,e1];rfl
   rw[eR];refine q_kn ?_ (Cc 2);first|omega|(simp only;omega)
  have eR:Ae c T ns k [76,116,116] ⟨k0,false,a0,D0⟩=(.mk k (u0:Nat) (0:Nat) 0 [u1,u2],(Ai c ⟨k3,b3,a3,D3⟩ 2).2):=by simp only[Ae,An,Ao,Aq,Bh,Ar,Ak,q_kl,q_km,e0,e1,e2];rfl
  rw[eR];refine q_kn ?_ (Cc 2);first|omega|(simp only;omega)
 ·cases b1;rotate_left
  ·have eR:Ae c T ns k [76,116,116] ⟨k0,false,a0,D0⟩=(.mk k (u0:Nat) (0:Nat) 0 [],(Ai c ⟨k1,true,a1,D0⟩ 2).2):=by simp only[Ae,An,Ao,Aq,Bh,Ar,Ak,q_kl,q_km,e0];rfl
   rw[eR];rw[Bc];exact hN
  cases b2;rotate_left
  ·have eR:Ae c T ns k [76,116,116] ⟨k0,false,a0,D0⟩=(.mk k (u0:Nat) (0:Nat) 0 [u1],(Ai c ⟨k2,true,a2,D2⟩ 2).2):=by simp only[Ae,An,Ao,Aq,Bh,Ar,Ak,q_kl,q_km,e0,e1];rfl
   rw[eR];rw[Bc];exact N2
  have eR:Ae c T ns k [76,116,116] ⟨k0,false,a0,D0⟩=(.mk k (u0:Nat) (0:Nat) 0 [u1,u2],(Ai c ⟨k3,b3,a3,D3⟩ 2).2):=by simp only[Ae,An,Ao,Aq,Bh,Ar,Ak,q_kl,q_km,e0,e1,e2];rfl
  rw[eR];rw[Bc];exact N3
 refine Gj (r:=.agg true (tvn (Ae c T ns k [76,116,116] ⟨k0,false,a0,D0⟩).1)) ?_ (Hk _);have Kj:3<=140737488355328:=by decide
 refine Ca mixed Tryz.func190 tr190 ?_;unfold rdS at c0 c1 c2 |-;simp only[go_sem,seval,Es];refine Eo 4 (Bb ?_);simp only[go_sem,seval,v76,v116,wq7,wq8,Ah,z1,z2];refine Ad c0 ?_;simp only[go_sem,seval,v76,v116,wq7,wq8,Ah,z1,z2];cases b1;rotate_left
 ·refine Bb ?_;have ce:=Bx (nm:=nmG ns) (s:=⟨k1,true,a1,D0⟩) (G:=G++D0) hc 2;have eR:Ae c T ns k [76,116,116] ⟨k0,false,a0,D0⟩=(.mk k (u0:Nat) (0:Nat) 0 [],(Ai c ⟨k1,true,a1,D0⟩ 2).2):=by simp only[Ae,An,Ao,Aq,Bh,Ar,Ak,q_kl,q_km,e0];rfl
  rw[eR,Bc,Gv];unfold rdS at ce;simp only[go_sem,seval,v76,v116,wq7,wq8,Ah,z1,z2];refine Ad ce ?_;simp only[go_sem,seval,v76,v116,wq7,wq8,Ah,z1,z2,q_h,q_i]
 refine Bb ?_;simp only[go_sem,seval,v76,v116,wq7,wq8,Ah,z1,z2];refine Ad c1 ?_;simp only[go_sem,seval,v76,v116,wq7,wq8,Ah,z1,z2];cases b2;rotate_left
 ·refine Bb ?_;have ce:=Bx (nm:=nmG ns) (s:=⟨k2,true,a2,D2⟩) (G:=G++D2) hc 2;have eR:Ae c T ns k [76,116,116] ⟨k0,false,a0,D0⟩=(.mk k (u0:Nat) (0:Nat) 0 [u1],(Ai c ⟨k2,true,a2,D2⟩ 2).2):=by simp only[Ae,An,Ao,Aq,Bh,Ar,Ak,q_kl,q_km,e0,e1];rfl
  rw[eR,Bc,Dh];unfold rdS at ce;simp only[go_sem,seval,v76,v116,wq7,wq8,Ah,z1,z2];refine Ad ce ?_;simp only[go_sem,seval,v76,v116,wq7,wq8,Ah,z1,z2,q_h,q_i]
 refine Bb ?_;simp only[go_sem,seval,v76,v116,wq7,wq8,Ah,z1,z2];refine Ad c2 ?_;simp only[go_sem,seval,v76,v116,wq7,wq8,Ah,z1,z2];refine Bb ?_;have ce:=Bx (nm:=nmG ns) (s:=⟨k3,b3,a3,D3⟩) (G:=G++D3) hc 2;have eR:Ae c T ns k [76,116,116] ⟨k0,false,a0,D0⟩=(.mk k (u0:Nat) (0:Nat) 0 [u1,u2],(Ai c ⟨k3,b3,a3,D3⟩ 2).2):=by simp only[Ae,An,Ao,Aq,Bh,Ar,Ak,q_kl,q_km,e0,e1,e2];rfl
 rw[eR,Bc,Dh];unfold rdS at ce;simp only[go_sem,seval,v76,v116,wq7,wq8,Ah,z1,z2];refine Ad ce ?_;simp only[go_sem,seval,v76,v116,wq7,wq8,Ah,z1,z2,q_h,q_i]
def Arv(hc:Fa c)(hT:TCG c T f)(Bq:ns.length+3*f+2<100000000000)(hk:k<=12)(hb:s.bad=false)(hN:NGr s.D)(hG:NGr G)(hs:c.L.length<s.k+f):LCG c T ns k [76,116,116,112,116] s G:=by
 obtain⟨k0,b0,a0,D0⟩:=s;simp only at hs hN hb;subst hb;have Ak:ofR k=1:=by unfold ofR;rw[if_pos hk]
 have Es:(k:Int)<=12:=by omega
 have Bk:k≠23:=by omega
 have Ah:((k:Int)==23)=false:=by rw[beq_eq_false_iff_ne];omega
 have c0:=Jy (nm:=nmG ns) (G:=G++D0) hc (c.L.length+1) ⟨k0,false,a0,D0⟩ (q_ja _) (by simp only;omega) (by omega);have d0:=(Ka (c:=c) (c.L.length+1) ⟨k0,false,a0,D0⟩).symm;have m0:=Jm (c:=c) (c.L.length+1) ⟨k0,false,a0,D0⟩;generalize e0:Cn c (c.L.length+1) ⟨k0,false,a0,D0⟩=q at c0 d0 m0;obtain⟨u0,k1,b1,a1,E1⟩:=q;simp only at c0 d0 m0;subst d0;have t1:=hT ns 1 ⟨k1,false,a1,D0⟩ G (by first|omega|(simp only;omega)) (by first|omega|(simp at Bq |-;omega)) (by decide) hN hG;generalize e1:T ns 1 ⟨k1,false,a1,D0⟩=q at t1;obtain⟨u1,k2,b2,a2,D2⟩:=q;obtain⟨c1,m1,N2⟩:=t1;simp only at c1 m1 N2;have z1:=Cg u1;have t2:=hT ns 1 ⟨k2,false,a2,D2⟩ G (by first|omega|(simp only;omega)) (by first|omega|(simp at Bq |-;omega)) (by decide) N2 hG;generalize e2:T ns 1 ⟨k2,false,a2,D2⟩=q at t2;obtain⟨u2,k3,b3,a3,D3⟩:=q;obtain⟨c2,m2,N3⟩:=t2;simp only at c2 m2 N3;have z2:=Cg u2;have t3:=hT ns 2 ⟨k3,false,a3,D3⟩ G (by first|omega|(simp only;omega)) (by first|omega|(simp at Bq |-;omega)) (by decide) N3 hG;generalize e3:T ns 2 ⟨k3,false,a3,D3⟩=q at t3;obtain⟨u3,k4,b4,a4,D4⟩:=q;obtain⟨c3,m3,N4⟩:=t3;simp only at c3 m3 N4;have z3:=Cg u3;have t4:=hT ns 1 ⟨k4,false,a4,D4⟩ G (by first|omega|(simp only;omega)) (by first|omega|(simp at Bq |-;omega)) (by decide) N4 hG;generalize e4:T ns 1 ⟨k4,false,a4,D4⟩=q at t4;obtain⟨u4,k5,b5,a5,D5⟩:=q;obtain⟨c4,m4,N5⟩:=t4;simp only at c4 m4 N5;have z4:=Cg u4;refine⟨?_,?_,?_⟩;rotate_left
 ·cases b1;rotate_left
  ·have eR:Ae c T ns k [76,116,116,112,116] ⟨k0,false,a0,D0⟩=(.mk k (u0:Nat) (0:Nat) 0 [],(Ai c ⟨k1,true,a1,D0⟩ 2).2):=by simp only[Ae,An,Ao,Aq,Bh,Jl,Ar,Ak,q_kl,q_km,e0];rfl
   rw[eR];refine q_kn ?_ (Cc 2);first|omega|(simp only;omega)
  cases b2;rotate_left
  ·have eR:Ae c T ns k [76,116,116,112,116] ⟨k0,false,a0,D0⟩=(.mk k (u0:Nat) (0:Nat) 0 [u1],(Ai c ⟨k2,true,a2,D2⟩ 2).2):=by simp only[Ae,An,Ao,Aq,Bh,Jl,Ar,Ak,q_kl,q_km,e0,e1];rfl
   rw[eR];refine q_kn ?_ (Cc 2);first|omega|(simp only;omega)
  cases b3;rotate_left
  ·have eR:Ae c T ns k [76,116,116,112,116] ⟨k0,false,a0,D0⟩=(.mk k (u0:Nat) (0:Nat) 0 [u1,u2],(Ai c ⟨k3,true,a3,D3⟩ 2).2):=by simp only[Ae,An,Ao,Aq,Bh,Jl,Ar,Ak,q_kl,q_km,e0,e1,e2];rfl
   rw[eR];refine q_kn ?_ (Cc 2);first|omega|(simp only;omega)
  cases b4;rotate_left
  ·have eR:Ae c T ns k [76,116,116,112,116] ⟨k0,false,a0,D0⟩=(.mk k (u0:Nat) (0:Nat) 0 [u1,u2,u3],(Ai c ⟨k4,true,a4,D4⟩ 2).2):=by simp only[Ae,An,Ao,Aq,Bh,Jl,Ar,Ak,q_kl,q_km,e0,e1,e2,e3];rfl
   rw[eR];refine q_kn ?_ (Cc 2);first|omega|(simp only;omega)
  have eR:Ae c T ns k [76,116,116,112,116] ⟨k0,false,a0,D0⟩=(.mk k (u0:Nat) (0:Nat) 0 [u1,u2,u3,u4],(Ai c ⟨k5,b5,a5,D5⟩ 2).2):=by simp only[Ae,An,Ao,Aq,Bh,Jl,Ar,Ak,q_kl,q_km,e0,e1,e2,e3,e4];rfl
  rw[eR];refine q_kn ?_ (Cc 2);first|omega|(simp only;omega)
 ·cases b1;rotate_left
  ·have eR:Ae c T ns k [76,116,116,112,116] ⟨k0,false,a0,D0⟩=(.mk k (u0:Nat) (0:Nat) 0 [],(Ai c ⟨k1,true,a1,D0⟩ 2).2):=by simp only[Ae,An,Ao,Aq,Bh,Jl,Ar,Ak,q_kl,q_km,e0];rfl
   rw[eR];rw[Bc];exact hN
  cases b2;rotate_left
  ·have eR:Ae c T ns k [76,116,116,112,116] ⟨k0,false,a0,D0⟩=(.mk k (u0:Nat) (0:Nat) 0 [u1],(Ai c ⟨k2,true,a2,D2⟩ 2).2):=by simp only[Ae,An,Ao,Aq,Bh,Jl,Ar,Ak,q_kl,q_km,e0,e1];rfl
   rw[eR];rw[Bc];exact N2
  cases b3;rotate_left
  ·have eR:Ae c T ns k [76,116,116,112,116] ⟨k0,false,a0,D0⟩=(.mk k (u0:Nat) (0:Nat) 0 [u1,u2],(Ai c ⟨k3,true,a3,D3⟩ 2).2):=by simp only[Ae,An,Ao,Aq,Bh,Jl,Ar,Ak,q_kl,q_km,e0,e1,e2];rfl
   rw[eR];rw[Bc];exact N3
  cases b4;rotate_left
  ·have eR:Ae c T ns k [76,116,116,112,116] ⟨k0,false,a0,D0⟩=(.mk k (u0:Nat) (0:Nat) 0 [u1,u2,u3],(Ai c ⟨k4,true,a4,D4⟩ 2).2):=by simp only[Ae,An,Ao,Aq,Bh,Jl,Ar,Ak,q_kl,q_km,e0,e1,e2,e3];rfl
   rw[eR];rw[Bc];exact N4
  have eR:Ae c T ns k [76,116,116,112,116] ⟨k0,false,a0,D0⟩=(.mk k (u0:Nat) (0:Nat) 0 [u1,u2,u3,u4],(Ai c ⟨k5,b5,a5,D5⟩ 2).2):=by simp only[Ae,An,Ao,Aq,Bh,Jl,Ar,Ak,q_kl,q_km,e0,e1,e2,e3,e4];rfl
  rw[eR];rw[Bc];exact N5
 refine Gj (r:=.agg true (tvn (Ae c T ns k [76,116,116,112,116] ⟨k0,false,a0,D0⟩).1)) ?_ (Hk _);have Kj:5<=140737488355328:=by decide
 refine Ca mixed Tryz.func190 tr190 ?_;unfold rdS at c0 c1 c2 c3 c4 |-;simp only[go_sem,seval,Es];refine Eo 6 (Bb ?_);simp only[go_sem,seval,v76,v112,v116,wq7,wq8,Ah,z1,z2,z3,z4];refine Ad c0 ?_;simp only[go_sem,seval,v76,v112,v116,wq7,wq8,Ah,z1,z2,z3,z4];cases b1;rotate_left
 ·refine Bb ?_;have ce:=Bx (nm:=nmG ns) (s:=⟨k1,true,a1,D0⟩) (G:=G++D0) hc 2;have eR:Ae c T ns k [76,116,116,112,116] ⟨k0,false,a0,D0⟩=(.mk k (u0:Nat) (0:Nat) 0 [],(Ai c ⟨k1,true,a1,D0⟩ 2).2):=by simp only[Ae,An,Ao,Aq,Bh,Jl,Ar,Ak,q_kl,q_km,e0];rfl
  rw[eR,Bc,Gv];unfold rdS at ce;simp only[go_sem,seval,v76,v112,v116,wq7,wq8,Ah,z1,z2,z3,z4];refine Ad ce ?_;simp only[go_sem,seval,v76,v112,v116,wq7,wq8,Ah,z1,z2,z3,z4,q_h,q_i]
 refine Bb ?_;simp only[go_sem,seval,v76,v112,v116,wq7,wq8,Ah,z1,z2,z3,z4];refine Ad c1 ?_;simp only[go_sem,seval,v76,v112,v116,wq7,wq8,Ah,z1,z2,z3,z4];cases b2;rotate_left
 ·refine Bb ?_;have ce:=Bx (nm:=nmG ns) (s:=⟨k2,true,a2,D2⟩) (G:=G++D2) hc 2;have eR:Ae c T ns k [76,116,116,112,116] ⟨k0,false,a0,D0⟩=(.mk k (u0:Nat) (0:Nat) 0 [u1],(Ai c ⟨k2,true,a2,D2⟩ 2).2):=by simp only[Ae,An,Ao,Aq,Bh,Jl,Ar,Ak,q_kl,q_km,e0,e1];rfl
  rw[eR,Bc,Dh];unfold rdS at ce;simp only[go_sem,seval,v76,v112,v116,wq7,wq8,Ah,z1,z2,z3,z4];refine Ad ce ?_;simp only[go_sem,seval,v76,v112,v116,wq7,wq8,Ah,z1,z2,z3,z4,q_h,q_i]
 refine Bb ?_;simp only[go_sem,seval,v76,v112,v116,wq7,wq8,Ah,z1,z2,z3,z4];refine Ad c2 ?_;simp only[go_sem,seval,v76,v112,v116,wq7,wq8,Ah,z1,z2,z3,z4];cases b3;rotate_left
 ·refine Bb ?_;have ce:=Bx (nm:=nmG ns) (s:=⟨k3,true,a3,D3⟩) (G:=G++D3) hc 2;have eR:Ae c T ns k [76,116,116,112,116] ⟨k0,false,a0,D0⟩=(.mk k (u0:Nat) (0:Nat) 0 [u1,u2],(Ai c ⟨k3,true,a3,D3⟩ 2).2):=by simp only[Ae,An,Ao,Aq,Bh,Jl,Ar,Ak,q_kl,q_km,e0,e1,e2];rfl
  rw[eR,Bc,Dh];unfold rdS at ce;simp only[go_sem,seval,v76,v112,v116,wq7,wq8,Ah,z1,z2,z3,z4];refine Ad ce ?_;simp only[go_sem,seval,v76,v112,v116,wq7,wq8,Ah,z1,z2,z3,z4,q_h,q_i]
 refine Bb ?_;simp only[go_sem,seval,v76,v112,v116,wq7,wq8,Ah,z1,z2,z3,z4];refine Ad c3 ?_;simp only[go_sem,seval,v76,v112,v116,wq7,wq8,Ah,z1,z2,z3,z4];cases b4;rotate_left
 ·refine Bb ?_;have ce:=Bx (nm:=nmG ns) (s:=⟨k4,true,a4,D4⟩) (G:=G++D4) hc 2;have eR:Ae c T ns k [76,116,116,112,116] ⟨k0,false,a0,D0⟩=(.mk k (u0:Nat) (0:Nat) 0 [u1,u2,u3],(Ai c ⟨k4,true,a4,D4⟩ 2).2):=by simp only[Ae,An,Ao,Aq,Bh,Jl,Ar,Ak,q_kl,q_km,e0,e1,e2,e3];rfl
  rw[eR,Bc,Dh];unfold rdS at ce;simp only[go_sem,seval,v76,v112,v116,wq7,wq8,Ah,z1,z2,z3,z4];refine Ad ce ?_;simp only[go_sem,seval,v76,v112,v116,wq7,wq8,Ah,z1,z2,z3,z4,q_h,q_i]
 refine Bb ?_;simp only[go_sem,seval,v76,v112,v116,wq7,wq8,Ah,z1,z2,z3,z4];refine Ad c4 ?_;simp only[go_sem,seval,v76,v112,v116,wq7,wq8,Ah,z1,z2,z3,z4];refine Bb ?_;have ce:=Bx (nm:=nmG ns) (s:=⟨k5,b5,a5,D5⟩) (G:=G++D5) hc 2;have eR:Ae c T ns k [76,116,116,112,116] ⟨k0,false,a0,D0⟩=(.mk k (u0:Nat) (0:Nat) 0 [u1,u2,u3,u4],(Ai c ⟨k5,b5,a5,D5⟩ 2).2):=by simp only[Ae,An,Ao,Aq,Bh,Jl,Ar,Ak,q_kl,q_km,e0,e1,e2,e3,e4];rfl
 rw[eR,Bc,Dh];unfold rdS at ce;simp only[go_sem,seval,v76,v112,v116,wq7,wq8,Ah,z1,z2,z3,z4];refine Ad ce ?_;simp only[go_sem,seval,v76,v112,v116,wq7,wq8,Ah,z1,z2,z3,z4,q_h,q_i]
def Aa4(hc:Fa c)(hT:TCG c T f)(Bq:ns.length+3*f+2<100000000000)(hk:12<k/\k≠23)(hb:s.bad=false)(hN:NGr s.D)(hG:NGr G)(hs:c.L.length<s.k+f):LCG c T ns k [120,116,98] s G:=by
 obtain⟨k0,b0,a0,D0⟩:=s;simp only at hs hN hb;subst hb;have Ak:ofR k=2:=by unfold ofR;rw[if_neg (by omega)]
 have Es:¬(k:Int)<=12:=by omega
 have Bk:k≠23:=hk.2;have Ah:((k:Int)==23)=false:=by rw[beq_eq_false_iff_ne];omega
 have c0:=Bx (nm:=nmG ns) (s:=⟨k0,false,a0,D0⟩) (G:=G++D0) hc 3;have d0:=(Bc (c:=c) (s:=⟨k0,false,a0,D0⟩) 3).symm;have m0:=Cc (c:=c) (s:=⟨k0,false,a0,D0⟩) 3;generalize e0:Ai c ⟨k0,false,a0,D0⟩ 3=q at c0 d0 m0;obtain⟨u0,k1,b1,a1,E1⟩:=q;simp only at c0 d0 m0;subst d0;have t1:=hT ns 2 ⟨k1,false,a1,D0⟩ G (by first|omega|(simp only;omega)) (by first|omega|(simp at Bq |-;omega)) (by decide) hN hG;generalize e1:T ns 2 ⟨k1,false,a1,D0⟩=q at t1;obtain⟨u1,k2,b2,a2,D2⟩:=q;obtain⟨c1,m1,N2⟩:=t1;simp only at c1 m1 N2;have z1:=Cg u1;have t2:=hT (u0::ns) 2 ⟨k2,false,a2,D2⟩ G (by first|omega|(simp only;omega)) (by first|omega|(simp at Bq |-;omega)) (by decide) N2 hG;generalize e2:T (u0::ns) 2 ⟨k2,false,a2,D2⟩=q at t2;obtain⟨u2,k3,b3,a3,D3⟩:=q;obtain⟨c2,m2,N3⟩:=t2;simp only at c2 m2 N3;have z2:=Cg u2;refine⟨?_,?_,?_⟩;rotate_left
 ·cases b1;rotate_left
  ·have eR:Ae c T ns k [120,116,98] ⟨k0,false,a0,D0⟩=(.mk k (0:Nat) (0:Nat) 0 [],(Ai c ⟨k1,true,a1,D0⟩ 2).2):=by simp only[Ae,An,Ao,Aq,Bl,Ar,Bm,Ak,q_kl,q_km,e0];rfl
   rw[eR];refine q_kn ?_ (Cc 2);first|omega|(simp only;omega)
  cases b2;rotate_left
  ·have eR:Ae c T ns k [120,116,98] ⟨k0,false,a0,D0⟩=(.mk k (0:Nat) (0:Nat) 0 [u1],(Ai c ⟨k2,true,a2,D2⟩ 2).2):=by simp only[Ae,An,Ao,Aq,Bl,Ar,Bm,Ak,q_kl,q_km,e0,e1];rfl
   rw[eR];refine q_kn ?_ (Cc 2);first|omega|(simp only;omega)
  have eR:Ae c T ns k [120,116,98] ⟨k0,false,a0,D0⟩=(.mk k (0:Nat) (0:Nat) 0 [u1,u2],(Ai c ⟨k3,b3,a3,D3⟩ 2).2):=by simp only[Ae,An,Ao,Aq,Bl,Ar,Bm,Ak,q_kl,q_km,e0,e1,e2];rfl
  rw[eR];refine q_kn ?_ (Cc 2);first|omega|(simp only;omega)
 ·cases b1;rotate_left
  ·have eR:Ae c T ns k [120,116,98] ⟨k0,false,a0,D0⟩=(.mk k (0:Nat) (0:Nat) 0 [],(Ai c ⟨k1,true,a1,D0⟩ 2).2):=by simp only[Ae,An,Ao,Aq,Bl,Ar,Bm,Ak,q_kl,q_km,e0];rfl
   rw[eR];rw[Bc];exact hN
  cases b2;rotate_left
  ·have eR:Ae c T ns k [120,116,98] ⟨k0,false,a0,D0⟩=(.mk k (0:Nat) (0:Nat) 0 [u1],(Ai c ⟨k2,true,a2,D2⟩ 2).2):=by simp only[Ae,An,Ao,Aq,Bl,Ar,Bm,Ak,q_kl,q_km,e0,e1];rfl
   rw[eR];rw[Bc];exact N2
  have eR:Ae c T ns k [120,116,98] ⟨k0,false,a0,D0⟩=(.mk k (0:Nat) (0:Nat) 0 [u1,u2],(Ai c ⟨k3,b3,a3,D3⟩ 2).2):=by simp only[Ae,An,Ao,Aq,Bl,Ar,Bm,Ak,q_kl,q_km,e0,e1,e2];rfl
  rw[eR];rw[Bc];exact N3
 refine Gj (r:=.agg true (tvn (Ae c T ns k [120,116,98] ⟨k0,false,a0,D0⟩).1)) ?_ (Hk _);have Kj:3<=140737488355328:=by decide
 have Aw:(ns.reverse.map wdG).length=ns.length:=by simp
 have Au:ns.length*16<=140737488355328:=by omega
 have Av:ns.length<=140737488355328:=by omega
 have Ax:(ns.length+1)*16<=140737488355328:=by omega
 have Ay:ns.length<=140737488355327:=by omega
 rw[show nmG (u0::ns)=.dsl 1 (ns.reverse.map wdG++[[SV.str (bs u0)]]) by simp[nmG,wdG]] at c2;rw[show nmG ns=.dsl 1 (ns.reverse.map wdG) from rfl] at *
 generalize ns.reverse.map wdG=R at *
 have Ap:List.take (ns.length+1) (R++[[SV.str (bs u0)]])=R++[[SV.str (bs u0)]]:=q_js (by simp;omega);refine Ca mixed Tryz.func190 tr190 ?_;unfold rdS at c0 c1 c2 |-;simp only[go_sem,seval,Es];refine Eo 4 (Bb ?_);simp only[go_sem,seval,v98,v116,v120,wq7,wq8,Ah,z1,z2,Aw,Au,Av,Ax,Ay,Ap];refine Ad c0 ?_;simp only[go_sem,seval,v98,v116,v120,wq7,wq8,Ah,z1,z2,Aw,Au,Av,Ax,Ay,Ap];cases b1;rotate_left
 ·refine Bb ?_;have ce:=Bx (nm:=.dsl 1 R) (s:=⟨k1,true,a1,D0⟩) (G:=G++D0) hc 2;have eR:Ae c T ns k [120,116,98] ⟨k0,false,a0,D0⟩=(.mk k (0:Nat) (0:Nat) 0 [],(Ai c ⟨k1,true,a1,D0⟩ 2).2):=by simp only[Ae,An,Ao,Aq,Bl,Ar,Bm,Ak,q_kl,q_km,e0];rfl
  rw[eR,Bc,Gv];unfold rdS at ce;simp only[go_sem,seval,v98,v116,v120,wq7,wq8,Ah,z1,z2,Aw,Au,Av,Ax,Ay,Ap];refine Ad ce ?_;simp only[go_sem,seval,v98,v116,v120,wq7,wq8,Ah,z1,z2,Aw,Au,Av,Ax,Ay,Ap,q_h,q_i]
 refine Bb ?_;simp only[go_sem,seval,v98,v116,v120,wq7,wq8,Ah,z1,z2,Aw,Au,Av,Ax,Ay,Ap];refine Ad c1 ?_;simp only[go_sem,seval,v98,v116,v120,wq7,wq8,Ah,z1,z2,Aw,Au,Av,Ax,Ay,Ap];cases b2;rotate_left
 ·refine Bb ?_;have ce:=Bx (nm:=.dsl 1 R) (s:=⟨k2,true,a2,D2⟩) (G:=G++D2) hc 2;have eR:Ae c T ns k [120,116,98] ⟨k0,false,a0,D0⟩=(.mk k (0:Nat) (0:Nat) 0 [u1],(Ai c ⟨k2,true,a2,D2⟩ 2).2):=by simp only[Ae,An,Ao,Aq,Bl,Ar,Bm,Ak,q_kl,q_km,e0,e1];rfl
  rw[eR,Bc,Dh];unfold rdS at ce;simp only[go_sem,seval,v98,v116,v120,wq7,wq8,Ah,z1,z2,Aw,Au,Av,Ax,Ay,Ap];refine Ad ce ?_;simp only[go_sem,seval,v98,v116,v120,wq7,wq8,Ah,z1,z2,Aw,Au,Av,Ax,Ay,Ap,q_h,q_i]
 refine Bb ?_;simp only[go_sem,seval,v98,v116,v120,wq7,wq8,Ah,z1,z2,Aw,Au,Av,Ax,Ay,Ap];refine Ad c2 ?_;simp only[go_sem,seval,v98,v116,v120,wq7,wq8,Ah,z1,z2,Aw,Au,Av,Ax,Ay,Ap];refine Bb ?_;have ce:=Bx (nm:=.dsl 1 R) (s:=⟨k3,b3,a3,D3⟩) (G:=G++D3) hc 2;have eR:Ae c T ns k [120,116,98] ⟨k0,false,a0,D0⟩=(.mk k (0:Nat) (0:Nat) 0 [u1,u2],(Ai c ⟨k3,b3,a3,D3⟩ 2).2):=by simp only[Ae,An,Ao,Aq,Bl,Ar,Bm,Ak,q_kl,q_km,e0,e1,e2];rfl
 rw[eR,Bc,Dh];unfold rdS at ce;simp only[go_sem,seval,v98,v116,v120,wq7,wq8,Ah,z1,z2,Aw,Au,Av,Ax,Ay,Ap];refine Ad ce ?_;simp only[go_sem,seval,v98,v116,v120,wq7,wq8,Ah,z1,z2,Aw,Au,Av,Ax,Ay,Ap,q_h,q_i]
end
end Go.Proofs.YtgfehkhcmnfpaaaGreatDoor.Abs
