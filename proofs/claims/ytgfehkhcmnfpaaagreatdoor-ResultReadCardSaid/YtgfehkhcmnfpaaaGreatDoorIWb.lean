import Derived.Test.YtgfehkhcmnfpaaaGreatDoorIDo
import Derived.Test.YtgfehkhcmnfpaaaGreatDoorIEv
import Derived.Test.YtgfehkhcmnfpaaaGreatDoorProg
import Derived.KernelRfl
import Derived.Test.YtgfehkhcmnfpaaaGreatDoorIAfN
import Derived.Test.YtgfehkhcmnfpaaaGreatDoorIAfC
set_option linter.all false
set_option maxRecDepth 20000
set_option maxHeartbeats 4000000
namespace Go.Proofs.YtgfehkhcmnfpaaaGreatDoor.Abs
open Go Go.RowKit
def GRow.swap{m m':Mem}{w:World}{b:Nat}{row:List SV}(h:GRow m w b row)(hc:m'.c=m.c)(hp:∀b,m.p b->m'.p b)(hn:∀x∈row,NoG x):GRow m' w b row:=by
 cases h with
 |cells _ c e h1 h2 h3 h4=>exact .cells _ c e h1 h2 (fun k v x hv hx=>⟨(h3 k v x hv hx).1.swap hc hp (hn x (q_jb hx)),(h3 k v x hv hx).2⟩) h4
 |map es k l=>have:=hn .undef (by simp[Pb]);cases this
def Awn{E:Env}{vs:List Value}{args:List SV}{k:Nat}(Bh:vs.length=args.length)(Dd:∀(j:Nat) v x,vs[j]?=some v->args[j]?=some x->RelV E v x)(i:Nat) :
  RelV E ((vs.toArray++Array.replicate (k-vs.toArray.size) undef).getD i undef) ((args++List.replicate (k-args.length) SV.undef).getD i .undef):=by
 rcases q_jo i vs.length with hi|hi
 ·have h1:(vs.toArray++Array.replicate (k-vs.toArray.size) undef).getD i undef=vs[i]:=by
   rw[Array.getD_eq_getD_getElem?,Array.getElem?_append_left (by simpa using hi)];simp[hi]
  have h2:(args++List.replicate (k-args.length) SV.undef).getD i .undef=args[i]'(by omega):=by
   rw[q_j,q_jf (by omega),q_f (by omega)];rfl
  rw[h1,h2];exact Dd i _ _ (q_f hi) (q_f (by omega))
 ·have h1:(vs.toArray++Array.replicate (k-vs.toArray.size) undef).getD i undef=undef:=by
   rw[Array.getD_eq_getD_getElem?,Array.getElem?_append_right (by simpa using hi)];simp only[Array.getElem?_replicate];split<;>rfl
  have h2:(args++List.replicate (k-args.length) SV.undef).getD i .undef=.undef:=by
   rw[q_j,q_jj (by omega),List.getElem?_replicate];split<;>rfl
  rw[h1,h2];exact .undef
def Il(row:List SV)(cl:Bool):Ob:={ box:=true,sz:=row.length,els:=[row],frz:=0,gen:=777,cl:=cl }
def Pin (bt:Nat)(E:Env):Prop:=∃ob,E.H 1=some ob/\777<=ob.gen/\(ob.gen=777->E.β 1=bt)
instance stb_pin (bt:Nat):Nonempty (StB (Pin bt)):=⟨⟨fun E E' h ⟨ob,h1,h2,h3⟩=>by
  obtain⟨ob',k1,_,k3,k4⟩:=h.H 1 ob h1;exact⟨ob',k1,by omega,fun e=>by rw[(k4 (by omega)).1];exact h3 (by omega)⟩,fun E E' h hb ⟨ob,h1,h2,h3⟩=>⟨ob,h 1 ob h1 h2,h2,fun e=>by rw[hb];exact h3 e⟩⟩⟩
def Aba(rs:List AR)(G':GV)(row':List SV)(s:St):Prop:=
 match Nu s rs with
 |some (p,[],h)=>p/\gOf h=some G'/\∃r1 cl h2,h[1]?=some (Il r1 cl)/\0<r1.length/\Ek h (.agg false r1)=some (.agg true row',h2)/\h2[1]?=h[1]?
 |_=>False
def rtL(rs:List AR)(G':GV)(row':List SV):AE->St->Prop:=fun e s=>match e with|.exit _=>False|_=>Aba rs G' row' s
def Amv(C:CT)(f:AF)(R:List SV)(G:GV)(row:List SV)(G':GV)(row':List SV):Prop:=
 vc C f.body (rtL f.res G' row') { sl:=[.gp 0 0,.ref 1 777 0 0]++List.replicate (f.ntmps-2) .undef,hp:=[gOb (R::G),Il row true] }
def Av8{P:Program}{f:Nat}{fn:Func}{af:AF}{R R' row row':List SV}{G D:GV}(hm:P.follows .mixedOrders=true)(hf:P.funcs[f]?=some fn)(htr:trF P fn=some af)
  (hn:∀r∈R::(G++[row]),∀x∈r,NoG x) (Wd:∀r∈R'::(G++D),∀x∈r,NoG x) (Qy:∀x∈row',NoG x) (Jt:0<row.length)
  (h:Amv (Fb P fun _ _=>False) af R G row (R'::(G++D)) row'):HContract P f (R::(G++[row])) [.gp 0 0,.gp (G.length+1) 0] (.ret (.tup [])) (R'::(G++row'::D)):=by
 intro m w vs hmem hsat Bh Dd;unfold trF at htr;split at htr;rotate_left
 ·cases htr
 rename_i c hb;simp only[q_c,q_a,q_d,q_b] at htr;obtain⟨ars,Ig,ac,Of,rfl⟩:=htr
 match vs,Bh with
 |[v0,v1],_=>
 have r0:=Dd 0 v0 _ rfl rfl;have r1:=Dd 1 v1 _ rfl rfl;cases r0 with
 |gp _ _ b0 d0 p0=>
 cases r1 with
 |gp _ _ bt dt pt=>
 have y9:(R::(G++[row]))[G.length+1]?=some row:=by simp
 have hlenG:(R::(G++[row])).length=G.length+2:=by simp
 have Dx:=hsat.row _ _ _ y9 dt;have Ajg:∀x∈row,NoG x:=hn row (by simp);cases Dx with
 |map es k l=>have:=Ajg .undef (by simp[Pb]);cases this
 |cells _ cb eb Ti Cv hcells honeAll=>
 let own:Nat->Prop:=fun b=>∃i,m.d i=some b
 let m1:Mem:=⟨m.c,fun i=>if i<G.length+1 then m.d i else none,m.p,fun i j b hi hj=>by
  split at hi
  ·split at hj
   ·exact m.inj i j b hi hj
   ·cases hj
  ·cases hi⟩
 have Qu:∀i b,m1.d i=some b->i<G.length+1/\m.d i=some b:=fun i b hi=>by
  simp only[m1] at hi;split at hi
  ·exact⟨‹_›,hi⟩
  ·cases hi
 have Ry:∀i b,i<G.length+1->m.d i=some b->m1.d i=some b:=fun i b hi hd=>by simp only[m1,if_pos hi];exact hd
 let E0:Env:={ m:=m1,m0:=m1,H:=fun o=>if o=1 then some (Il row true) else none,β:=fun _=>bt,t:=fun o=>if o=1 then cb.size else 0 }
 have hH0:∀o ob,E0.H o=some ob->o=1/\ob=Il row true:=fun o ob ho=>by
  simp only[E0] at ho;split at ho
  ·cases ho;exact⟨‹_›,rfl⟩
  ·cases ho
 have Aik:∀(k:Nat) (v:Value) (x:SV),cb[k]?=some v->row[k]?=some x->Rep m1 v x:=fun k v x hv hx=>(hcells k v x hv hx).1.swap (m:=m) (m':=m1) rfl (fun _ h=>h) (Ajg x (q_jb hx))
 have hW:W w own E0 w:=by
  refine⟨rfl,rfl,rfl,q_ja _,fun _ _ _=>rfl,hmem.1,fun o ob ho=>?_,fun o o' ob ob' h1 h2 Dw=>?_,fun _ _ _ _=>rfl,hmem.2.1,TabM.tb (m:=m1) hmem.2.2 (fun b v hv hi=>by obtain⟨i,hi⟩:=hi;have h1:m b 0=some v:=hv;rw[hsat.free i b 0 hi] at h1;cases h1)⟩
  ·obtain⟨rfl,rfl⟩:=hH0 o ob ho;refine⟨by simp[Il],by simp[Il],by simpa [Il,E0] using Cv,fun _=>by simp[Il],by simp[Il],fun _=>⟨cb,eb,⟨Ti,by simp[E0],.inr ⟨_,dt⟩,fun k v x hv hx=>.rep _ _ (Aik k v x hv (by simpa [Il] using hx)),honeAll,fun k hk=>by simp[Il] at hk,fun k _=>hsat.free _ _ k dt,fun _ k v x hv hx=>Aik k v x hv (by simpa [Il] using hx),pt⟩⟩⟩
  ·exact absurd ((hH0 _ _ h1).1.trans (hH0 _ _ h2).1.symm) Dw
 have hsat1:GSat m1 w (R::G):=by
  refine⟨fun i=>?_,m1.inj,fun i r b hr hb=>?_,fun i b j hi=>hsat.free i b j (Qu i b hi).2⟩
  ·constructor
   ·intro hi;have Eh:i<G.length+1:=by simpa using hi
    obtain⟨b,hb⟩:=(hsat.dom i).1 (by omega);exact⟨b,Ry i b Eh hb⟩
   ·rintro ⟨b,hb⟩;have:=(Qu i b hb).1;simpa using this
  ·have hi:=(Qu i b hb).1;have Nn:(R::(G++[row]))[i]?=some r:=by
    rw[show R::(G++[row])=(R::G)++[row] by simp,q_jf (by simpa using hi)];exact hr
   exact (hsat.row i r b Nn (Qu i b hb).2).swap rfl (fun _ h=>h) (hn r (q_jb Nn))
 have hobs0:∀i b,m1.d i=some b->bt≠b:=fun i b hi e=>by
  subst e;have:=m.inj i (G.length+1) bt (Qu i bt hi).2 dt;have:=(Qu i bt hi).1;omega
 have hS:SR w own m1 (Pin bt) [] E0 (some (R::G)) { sl:=[.gp 0 0,.ref 1 777 0 0]++List.replicate (fn.ntmps-2) .undef,hp:=[gOb (R::G),Il row true] } { tmps:=[Value.pointer (some ⟨b0,0,none⟩),Value.pointer (some ⟨bt,0,none⟩)].toArray++Array.replicate (fn.ntmps - [Value.pointer (some ⟨b0,0,none⟩),Value.pointer (some ⟨bt,0,none⟩)].toArray.size) undef,defers:=[] } w:=by
  refine⟨hW,⟨rfl,hsat1,fun i b hi=>.inr ⟨i,(Qu i b hi).2⟩,fun i b o ob hi ho _=>hobs0 i b hi⟩,fun o=>?_,by simp;omega,Awn (args:=[.gp 0 0,.ref 1 777 0 0]) rfl (fun j v x hv hx=>?_),rfl,rfl,.refl _,(fun h=>by cases h),fun _=>⟨_,rfl,q_ja _,fun _=>rfl⟩⟩
  ·match o with
   |0=>rfl
   |1=>rfl
   |o+2=>rfl
  ·match j,hv,hx with
   |0,hv,hx=>cases hv;cases hx;exact .rep _ _ (.gp _ _ _ (Ry 0 _ (by omega) d0) p0)
   |1,hv,hx=>cases hv;cases hx;exact .ref 1 777 0 0 bt 0 (Il row true) rfl (q_ja _) (fun _=>⟨rfl,by simp⟩)
   |j+2,hv,hx=>cases hv
 refine calls_of_wp hf hb ?_;have fin:∀(E:Env) (g:Option (GV)) (s:St) (a:Act) (w':World),SR w own m1 (Pin bt) [] E g s a w'->Aba ars (R'::(G++D)) row' s->a.defers=[]/\∃v,(results fn a.tmps).run P w'=.ok v w'/\∃m',Rg m' (.returned v) (.ret (.tup []))/\m.le m'/\(∀b j,b<w.heap.size->m' b j=m b j)/\Hw m' w'/\GSat m' w' (R'::(G++row'::D)) /\
   (∀i b,m'.d i=some b->m.d i=some b\/w.heap.size<=b)/\w'.os=w.os/\w'.tape=w.tape/\w'.output=w.output/\w.heap.size<=w'.heap.size/\∀k,k<w.heap.size->(∀i,m.d i≠some k)->w'.heap[k]?=w.heap[k]?:=by
  intro E g s a w' hS hr;refine⟨hS.dfr,?_⟩;unfold Aba at hr;split at hr;rotate_left
  ·exact hr.elim
  rename_i p hp' Lh;obtain⟨hp,hG,q1,cl,h2,Lf,hqpos,hcl,hq2⟩:=hr;obtain⟨us,E',k1,k2,k3,k4,k5⟩:=Xb fn.results.toList ars p [] hp' E s Ig Lh hp hS;have:=Oa (U:=fun _=>True) (s:={ s with hp:=hp' }) (fun o _=>k4.hp o) trivial k4.wo hG;subst this;have hH1:E'.H 1=some (Il q1 cl):=by
   have:=k4.hp 1;simp only[Env.view] at this;rw[Lf] at this;simpa using this
  have hko:=k4.wo.obs 1 _ hH1;have Fr:=hko.fit;simp only[Il,List.length_singleton,Nat.one_mul] at Fr;obtain⟨c1,e1,hl1⟩:=hko.live (by omega);have Adw:(c1.toList.take q1.length).length=q1.length:=by
   have:=hl1.size;rw[q_kf];exact Nat.min_eq_left (show q1.length<=c1.size by omega)
  have Fu:RelV E' (.agg (c1.toList.take q1.length).toArray) (.agg false q1):=by
   refine .agg _ _ (fun v hv=>?_) Adw (fun j v x hv hx=>?_)
   ·obtain⟨j,hj⟩:=q_jw (List.mem_of_mem_take hv);exact hl1.one j v (by simpa using hj)
   ·rw[q_jx] at hv;split at hv
    ·exact hl1.rel j v x (by simpa using hv) (by simpa [Il] using hx)
    ·cases hv
  obtain⟨E1,Ajo,st⟩:=n9 (s:={ s with hp:=hp' }) (U:=fun _=>True) k4.wo k4.gx (fun o _=>k4.hp o) hcl Fu (fun _ _=>trivial);have hS1:=k4.closed st;have Vt:E1.H 1=some (Il q1 cl):=by
   have:=hS1.hp 1;simp only[Env.view] at this;rw[hq2,Lf] at this;simpa using this
  have Ad6:E1.β 1=bt:=by
   obtain⟨ob,p1,_,p3⟩:=hS1.hb rfl;rw[Vt] at p1;cases p1;exact p3 rfl
  have hpin0:E'.β 1=bt:=by
   obtain⟨ob,p1,_,p3⟩:=k4.hb rfl;rw[hH1] at p1;cases p1;exact p3 rfl
  have hko2:=hS1.wo.obs 1 _ Vt;have Ps:=hko2.fit;simp only[Il,List.length_singleton,Nat.one_mul] at Ps;have Li:0<E1.t 1:=by omega
  obtain⟨c2,e2,hl2⟩:=hko2.live Li;have hg1:GI w.heap.size own E1 w' (R'::(G++D)):=hS1.gx;have Aif:=hl1.blk;have hblk2:=hl2.blk;rw[hpin0] at Aif;have Ai1:∀k,E1.m bt k=none:=fun k=>by rw[<-Ad6];exact hl2.free k (by simp[Il])
  have Oq:E1.m.p bt:=by rw[<-Ad6];exact hl2.pl
  have Fh:∀i b,E1.m.d i=some b->b≠bt:=fun i b hi e=>hg1.obs i b 1 _ hi Vt Li (by rw[Ad6,e])
  have Ac3:(R'::(G++D)).length=G.length+1+D.length:=by simp;omega
  have Ado:=hg1.sat.dom
  let dd:Nat->Option Nat:=fun i=>if i<G.length+1 then E1.m.d i else if i=G.length+1 then some bt else E1.m.d (i-1)
  have Hg:∀i b,dd i=some b->(i<G.length+1/\E1.m.d i=some b)\/(i=G.length+1/\b=bt)\/(G.length+1<i/\E1.m.d (i-1)=some b):=fun i b hi=>by
   simp only[dd] at hi;split at hi
   ·exact .inl ⟨‹_›,hi⟩
   ·split at hi
    ·cases hi;exact .inr (.inl ⟨‹_›,rfl⟩)
    ·exact .inr (.inr ⟨by omega,hi⟩)
  let m':Mem:=⟨E1.m.c,dd,E1.m.p,fun i j b hi hj=>by
   rcases Hg i b hi with⟨a1,a2⟩|⟨a1,a2⟩|⟨a1,a2⟩<;>rcases Hg j b hj with⟨b1,b2⟩|⟨b1,b2⟩|⟨b1,b2⟩
   ·exact E1.m.inj i j b a2 b2
   ·exact absurd b2 (Fh _ _ a2)
   ·have:=E1.m.inj _ _ b a2 b2;omega
   ·exact absurd a2 (Fh _ _ b2)
   ·omega
   ·exact absurd a2 (Fh _ _ b2)
   ·have:=E1.m.inj _ _ b a2 b2;omega
   ·exact absurd b2 (Fh _ _ a2)
   ·have:=E1.m.inj _ _ b a2 b2;omega⟩
  have Ait:∀i b,i<G.length+1->E1.m.d i=some b->m'.d i=some b:=fun i b hi hd=>by show dd i=_;simp only[dd,if_pos hi];exact hd
  have hdn:m'.d (G.length+1)=some bt:=by show dd _=_;simp[dd]
  have hdgt:∀i b,G.length+1<=i->E1.m.d i=some b->m'.d (i+1)=some b:=fun i b hi hd=>by
   show dd _=_;simp only[dd,if_neg (show ¬i+1<G.length+1 by omega),if_neg (show ¬i+1=G.length+1 by omega),Nat.add_sub_cancel];exact hd
  have hle1:=hS1.le;refine⟨_,Wz k1,m',⟨_,rfl,((Wx (r:=.tup []) rfl k2 k3).mono st.ext.m).swap (m:=E1.m) (m':=m') rfl (fun _ h=>h) (.tup _ (fun x hx=>by cases hx))⟩,⟨hle1.c,fun i b hi=>?_,hle1.p⟩,fun b j hb=>?_,⟨hS1.wo.mem,hS1.wo.pl,hS1.wo.tab⟩,⟨fun i=>?_,m'.inj,fun i r b hr hb=>?_,fun i b j hi=>?_⟩,fun i b hi=>?_,hS1.wo.os,hS1.wo.tape,hS1.wo.output,hS1.wo.size,fun k hk hnk=>hS1.wo.block k hk (fun ⟨i,hi⟩=>hnk i hi)⟩
  ·rcases Nat.lt_trichotomy i (G.length+1) with h1|h1|h1
   ·exact Ait i b h1 (hle1.d _ _ (Ry i b h1 hi))
   ·subst h1;rw[hdn,<-dt];exact hi
   ·have:=(hsat.dom i).2 ⟨b,hi⟩;omega
  ·by_cases ho:own b
   ·obtain⟨i,hi⟩:=ho;rw[hsat.free i b j hi];rcases Nat.lt_trichotomy i (G.length+1) with h1|h1|h1
    ·exact hg1.sat.free i b j (hle1.d _ _ (Ry i b h1 hi))
    ·subst h1;rw[dt] at hi;cases hi;exact Ai1 j
    ·have:=(hsat.dom i).2 ⟨b,hi⟩;omega
   ·show E1.m b j=_;rw[hS1.wo.keep b j hb ho,hS1.z]
  ·have hL:(R'::(G++row'::D)).length=G.length+2+D.length:=by simp;omega
   rw[hL];constructor
   ·intro hi;rcases Nat.lt_trichotomy i (G.length+1) with h1|h1|h1
    ·obtain⟨b,hb⟩:=(Ado i).1 (by rw[Ac3];omega);exact⟨b,Ait i b h1 hb⟩
    ·subst h1;exact⟨bt,hdn⟩
    ·obtain⟨b,hb⟩:=(Ado (i-1)).1 (by rw[Ac3];omega);have:=hdgt (i-1) b (by omega) hb;rw[show i-1+1=i by omega] at this;exact⟨b,this⟩
   ·rintro ⟨b,hb⟩;rcases Hg i b hb with⟨a1,_⟩|⟨a1,_⟩|⟨a1,a2⟩
    ·omega
    ·omega
    ·have:=(Ado (i-1)).2 ⟨b,a2⟩;rw[Ac3] at this;omega
  ·rcases Hg i b hb with⟨a1,a2⟩|⟨a1,a2⟩|⟨a1,a2⟩
   ·have Nn:(R'::(G++D))[i]?=some r:=by
     rw[show R'::(G++D)=(R'::G)++D by simp,q_jf (by simpa using a1)];rw[show R'::(G++row'::D)=(R'::G)++row'::D by simp,q_jf (by simpa using a1)] at hr;exact hr
    exact (hg1.sat.row i r b Nn a2).swap rfl (fun _ h=>h) (Wd r (q_jb Nn))
   ·subst a1 a2;have Nn:row'=r:=by simpa using hr
    subst Nn;generalize hv0:Value.agg (c1.toList.take q1.length).toArray=v0 at Ajo;cases Ajo with
    |agg ws _ z0 z1 z2=>
    have hws:c1.toList.take q1.length=ws:=by simpa using hv0
    subst hws;refine .cells _ c1 e1 Aif (by rw[<-z1,Adw];have:=hl1.size;omega) (fun k v x hv hx=>⟨(z2 k v x ?_ hx).swap (m:=E1.m) (m':=m') rfl (fun _ h=>h) (Qy x (q_jb hx)),hl1.one k v hv⟩) hl1.one;have hk:=(q_jm.1 hx).1;rw[q_jx,if_pos (by rw[<-z1,Adw] at hk;exact hk)];simpa using hv
   ·have Nn:(R'::(G++D))[i-1]?=some r:=by
     rw[show R'::(G++D)=(R'::G)++D by simp,q_jj (by simp;omega)];rw[show R'::(G++row'::D)=(R'::G++[row'])++D by simp,q_jj (by simp;omega)] at hr;rw[<-hr];congr 1;simp;omega
    exact (hg1.sat.row (i-1) r b Nn a2).swap rfl (fun _ h=>h) (Wd r (q_jb Nn))
  ·rcases Hg i b hi with⟨a1,a2⟩|⟨a1,a2⟩|⟨a1,a2⟩
   ·exact hg1.sat.free i b j a2
   ·subst a2;exact Ai1 j
   ·exact hg1.sat.free _ b j a2
  ·have own_lt:∀i b,own b->E1.m.d i=some b->i<G.length+1/\m.d i=some b:=fun i b ⟨i',Eh⟩ he=>by
    rcases Nat.lt_trichotomy i' (G.length+1) with h1|h1|h1
    ·have:=E1.m.inj i i' b he (hle1.d _ _ (Ry i' b h1 Eh));subst this;exact⟨h1,Eh⟩
    ·subst h1;rw[dt] at Eh;cases Eh;exact absurd rfl (Fh _ _ he)
    ·have:=(hsat.dom i').2 ⟨b,Eh⟩;omega
   rcases Hg i b hi with⟨a1,a2⟩|⟨a1,a2⟩|⟨a1,a2⟩
   ·rcases hg1.new i b a2 with h|h
    ·exact .inr h
    ·exact .inl (own_lt i b h a2).2
   ·subst a1 a2;exact .inl dt
   ·rcases hg1.new _ b a2 with h|h
    ·exact .inr h
    ·have:=(own_lt _ b h a2).1;omega
 refine Xi (X:=fun _ _=>False) hm c ac Of (fun _ _ _ _ _ _ h=>h.elim) (fun e E g s a w' hS he=>?_) E0 (some (R::G)) _ _ w hS h;cases e with
 |normal=>exact fin E g s a w' hS he
 |exit id=>exact he.elim
 |ret=>exact fin E g s a w' hS he
open Go Go.Proofs Go.Proofs.YtgfehkhcmnfpaaaGreatDoor
def af144:AF:=⟨7,[(.t 2)],(Ab [oP 2 (.mv (.c .nilp))] (Ab [Aa 3 0,oP 4 .mkmap,oP 5 (.build [(iS 0),(iS 0),(iS 0),(iS 0),.nilm] [(1,(1,(.t 3))),(4,(1,(.t 4)))]),oP 6 (.boxg (.t 5)),Aa 2 6] .ret))⟩
def tr144:trF Tryz.prog Tryz.f144=some af144:=by kernel_rfl
attribute [go_sem] af144
def af114:AF:=⟨9,[(.t 4)],(Ab [oP 2 (.box (.t 0)),oP 4 (.mv (.c .nilp))] (Ab [oP 5 (Aq 5 2),Aa 6 1,oP 7 (.build [(iS 0),(iS 0),(iS 0),(iS 0),.nils,.nilp,(.bool false),.nilp,.nilp] [(0,(5,(.t 5))),(5,(1,(.t 6)))]),oP 8 (.boxg (.t 7)),Aa 4 8] .ret))⟩
def tr114:trF Tryz.prog Tryz.f114=some af114:=by kernel_rfl
attribute [go_sem] af114
def af206:AF:=⟨18,[],(Ab [Aa 2 0,oP 3 (.hcall 227 [(.t 2)])] (Ab [Aa 4 0,oP 5 (Ak 4),oP 6 (Ae 2 5),oP 7 (Ah 6),oP 8 (Ay .add 7 1),oP 9 (Ak 4),oP 10 (Ae 2 9),oN (Ax 1 10 8)] (Ab [Aa 11 0,oP 12 (Ak 11),oP 13 (Ae 2 12),oP 14 (Ah 13),oP 15 (Ay .gtr 14 8000000)] (Aj 15 (Bg [oP 16 (.build [] []),oP 17 (.ifc 154 (.t 16)),oN (.pan (.t 17))]) .skip))))⟩
def tr206:trF Tryz.prog Tryz.f206=some af206:=by kernel_rfl
attribute [go_sem] af206
def af201:AF:=⟨27,[(.t 4)],(Ab [oP 4 (.mv (.c .nilp))] (.seq (Ab [Aa 5 1,oP 6 (Ak 5),oP 7 (Ae 7 6),oP 8 (Ah 7),oP 9 (.bin 2 .eql (.t 8) (.c .nilp))] (Aj 9 (.reg [Aa 10 1,oI 11 1 (mT 0),oI 12 2 (mT 1),oI 13 3 (Ak 12),oI 14 4 (Ae 0 13),oI 15 5 (Aq 5 14),oI 16 6 (mT 1),oI 17 7 (Ak 16),oI 18 8 (Ae 5 17),oI 19 9 (Ah 18),⟨(some 20),(.hcall 221 [(.t 11),(.t 15),(.t 19)]),none,10,false,[10]⟩,oI 21 11 (Ak 10),oI 22 12 (Ae 7 21),oJ 13 (Ax 1 22 20)] true) .skip)) (Ab [Aa 23 1,oP 24 (Ak 23),oP 25 (Ae 7 24),oP 26 (Ah 25),Aa 4 26] .ret)))⟩
def tr201:trF Tryz.prog Tryz.f201=some af201:=by kernel_rfl
attribute [go_sem] af201
def af175:AF:=⟨14,[],(Bg [Aa 4 0,Aa 5 0,Aa 6 0,Aa 7 1,oP 8 (Ak 4),oP 9 (Ae 0 8),oN (.store 1 (.t 9) (cI 0)),oP 10 (Ak 5),oP 11 (Ae 1 10),oN (Ax 1 11 7),oP 12 (Ak 6),oP 13 (Ae 2 12),oN (.store 1 (.t 13) (cI 0))])⟩
def tr175:trF Tryz.prog Tryz.f175=some af175:=by kernel_rfl
attribute [go_sem] af175
def af227:AF:=⟨21,[],(Ab [Aa 2 0,oP 3 (Ak 2),oP 4 (Ae 3 3),oP 5 (Ah 4),oP 6 (Ay .gtr 5 0)] (Aj 6 (Ab [Aa 7 0,oP 8 (Ak 7),oP 9 (Ae 3 8),oP 10 (Ah 9),oP 11 (Ay .sub 10 1),oP 12 (Ak 7),oP 13 (Ae 3 12),oN (Ax 1 13 11)] (Ab [Aa 14 0,oP 15 (Ak 14),oP 16 (Ae 3 15),oP 17 (Ah 16),oP 18 (An 17 0)] (Aj 18 (Bg [oP 19 (.build [] []),oP 20 (.ifc 246 (.t 19)),oN (.pan (.t 20))]) .skip))) .skip))⟩
def tr227:trF Tryz.prog Tryz.f227=some af227:=by kernel_rfl
attribute [go_sem] af227
def af223:AF:=⟨10,[(.t 2)],(Ab [oP 2 (.mv (cI 0))] (.seq (Ab [Aa 3 0] (.blk 0 (.seq (Ab [oP 5 (An 3 15),Aa 4 5] (Aj 4 .skip (Ab [oP 6 (An 3 18),Aa 4 6] (Aj 4 .skip (Bg [oP 7 (An 3 19),Aa 4 7]))))) (Aj 4 (Ab [oP 2 (.mv (cI 0))] .ret) (Ab [oP 9 (An 3 22),Aa 8 9] (Aj 8 (Ab [oP 2 (.mv (cI 5))] .ret) .skip)))))) (Ab [oP 2 (.mv (cI (-1)))] .ret)))⟩
def tr223:trF Tryz.prog Tryz.f223=some af223:=by kernel_rfl
attribute [go_sem] af223
def af181:AF:=⟨6,[(.t 2)],(Ab [oP 2 (.mv (.c .nilp))] (Ab [Aa 3 0,oP 4 (.build [(iS 0),(iS 0),(iS 0),(iS 0),.nils,.nilp,(.bool false),.nilp,.nilp] [(6,(1,(cB true))),(7,(1,(.t 3)))]),oP 5 (.boxg (.t 4)),Aa 2 5] .ret))⟩
def tr181:trF Tryz.prog Tryz.f181=some af181:=by kernel_rfl
attribute [go_sem] af181
def a172_8:AC:=.seq (Ab [Aa 14 0,Aa 15 5,oP 16 (.hcall 202 [(.t 14),(.t 15)]),oP 17 (Ay .neq 16 0)] (Et 17 0)) (.blk 1 (Bg [Aa 18 0,Aa 19 5,oP 20 (.hcall 203 [(.t 18),(.t 19)]),Aa 5 20]))
def a172_11:AC:=Bg [Aa 21 1,Aa 22 5,oP 23 (Ak 21),oP 24 (Ae 8 23),oN (Ax 1 24 22)]
def a172_17:AC:=Ab [Aa 25 1,oP 26 (Ak 25),oP 27 (Ae 8 26),oP 28 (Ah 27),Aa 4 28] .ret
def af172:AF:=⟨29,[(.t 4)],(Ab [oP 4 (.mv (.c .nilp))] (.seq (Ab [Aa 6 1,oP 7 (Ak 6),oP 8 (Ae 8 7),oP 9 (Ah 8),oP 10 (.bin 2 .eql (.t 9) (.c .nilp))] (Aj 10 (Ab [Aa 11 0,Aa 12 1,oP 13 (.hcall 201 [(.t 11),(.t 12)]),Aa 5 13] (.seq (.blk 0 (.loop a172_8)) a172_11)) .skip)) a172_17))⟩
def tr172:trF Tryz.prog Tryz.f172=some af172:=by kernel_rfl
attribute [go_sem] af172 a172_8 a172_11 a172_17
open Go Go.RowKit Go.Proofs.YtgfehkhcmnfpaaaGreatDoor
def tab(l:List Int)(k:Int):Int:=if 1<=k/\k<=l.length then l.getD (k-1).toNat (-1) else -1
def Ux(n:Int):Int:=tab [5,5,4,6,4,4,5,4,5,4,4,6,6,6,9,12,12,9,9,9,6] n
def Kp(k n:Int):Int:=if k=23 then Ux n else tab [0,0,2,3,4,2,4,3,3,3,2,4,2,2,2,2,4,1,1,3,2,6] k
def Bo{k c:Int}(h:k≠c):(k==c)=false:=by simpa using h
def Aqq(n:Int):Con 130 [.int .i64 n] (.int .i64 (Ux n)):=by
 refine Cu mixed Tryz.func130 tr130 ?_
 by_cases h:1<=n/\n<=21
 ·have:n=1\/n=2\/n=3\/n=4\/n=5\/n=6\/n=7\/n=8\/n=9\/n=10\/n=11\/n=12\/n=13\/n=14\/n=15\/n=16\/n=17\/n=18\/n=19\/n=20\/n=21:=by omega
  clear h;rcases this with rfl|rfl|rfl|rfl|rfl|rfl|rfl|rfl|rfl|rfl|rfl|rfl|rfl|rfl|rfl|rfl|rfl|rfl|rfl|rfl|rfl<;>(as_aux_lemma=>(simp only[go_sem,seval];rfl))
 ·have e:Ux n=-1:=by unfold Ux tab;rw[if_neg (by simpa using h)]
  rw[e];simp only[go_sem,seval,Bo (show n≠1 by omega),Bo (show n≠2 by omega),Bo (show n≠3 by omega),Bo (show n≠4 by omega),Bo (show n≠5 by omega),Bo (show n≠6 by omega),Bo (show n≠7 by omega),Bo (show n≠8 by omega),Bo (show n≠9 by omega),Bo (show n≠10 by omega),Bo (show n≠11 by omega),Bo (show n≠12 by omega),Bo (show n≠13 by omega),Bo (show n≠14 by omega),Bo (show n≠15 by omega),Bo (show n≠16 by omega),Bo (show n≠17 by omega),Bo (show n≠18 by omega),Bo (show n≠19 by omega),Bo (show n≠20 by omega),Bo (show n≠21 by omega)]
def Agu(k n:Int):Con 90 [.int .i64 k,.int .i64 n] (.int .i64 (Kp k n)):=by
 refine Cu mixed Tryz.func90 tr90 ?_
 by_cases h:1<=k/\k<=22
 ·have:k=1\/k=2\/k=3\/k=4\/k=5\/k=6\/k=7\/k=8\/k=9\/k=10\/k=11\/k=12\/k=13\/k=14\/k=15\/k=16\/k=17\/k=18\/k=19\/k=20\/k=21\/k=22:=by omega
  clear h;rcases this with rfl|rfl|rfl|rfl|rfl|rfl|rfl|rfl|rfl|rfl|rfl|rfl|rfl|rfl|rfl|rfl|rfl|rfl|rfl|rfl|rfl|rfl<;>(as_aux_lemma=>(simp only[go_sem,seval];rfl))
 ·by_cases Bx:k=23
  ·subst Bx;simp only[go_sem,seval];refine Ag (Aqq n) ?_;simp only[go_sem,seval];rfl
  ·have e:Kp k n=-1:=by unfold Kp tab;rw[if_neg Bx,if_neg (by simpa using h)]
   rw[e];simp only[go_sem,seval,Bo Bx,Bo (show k≠1 by omega),Bo (show k≠2 by omega),Bo (show k≠3 by omega),Bo (show k≠4 by omega),Bo (show k≠5 by omega),Bo (show k≠6 by omega),Bo (show k≠7 by omega),Bo (show k≠8 by omega),Bo (show k≠9 by omega),Bo (show k≠10 by omega),Bo (show k≠11 by omega),Bo (show k≠12 by omega),Bo (show k≠13 by omega),Bo (show k≠14 by omega),Bo (show k≠15 by omega),Bo (show k≠16 by omega),Bo (show k≠17 by omega),Bo (show k≠18 by omega),Bo (show k≠19 by omega),Bo (show k≠20 by omega),Bo (show k≠21 by omega),Bo (show k≠22 by omega)]
def wl0:IntKind.i64.wrap 0=0:=by decide
def wl1:IntKind.i64.wrap 1=1:=by decide
def wl2:IntKind.i64.wrap 2=2:=by decide
def wl3:IntKind.i64.wrap 3=3:=by decide
def wl4:IntKind.i64.wrap 4=4:=by decide
def wl5:IntKind.i64.wrap 5=5:=by decide
def wl6:IntKind.i64.wrap 6=6:=by decide
def wl7:IntKind.i64.wrap 7=7:=by decide
def wl8:IntKind.i64.wrap 8=8:=by decide
def wl9:IntKind.i64.wrap 9=9:=by decide
def wl10:IntKind.i64.wrap 10=10:=by decide
def wl11:IntKind.i64.wrap 11=11:=by decide
def wl12:IntKind.i64.wrap 12=12:=by decide
def wl13:IntKind.i64.wrap 13=13:=by decide
def wl14:IntKind.i64.wrap 14=14:=by decide
def wl15:IntKind.i64.wrap 15=15:=by decide
def wl16:IntKind.i64.wrap 16=16:=by decide
def wl17:IntKind.i64.wrap 17=17:=by decide
def wl18:IntKind.i64.wrap 18=18:=by decide
def wl19:IntKind.i64.wrap 19=19:=by decide
def wl20:IntKind.i64.wrap 20=20:=by decide
def wl21:IntKind.i64.wrap 21=21:=by decide
def Aqe(n:Int):Con 92 [.int .i64 23,.int .i64 n] (.int .i64 (Kp 23 n)):=by
 refine Cu mixed Tryz.func92 tr92 ?_
 by_cases hs:1<=n/\n<=21
 ·have:n=1\/n=2\/n=3\/n=4\/n=5\/n=6\/n=7\/n=8\/n=9\/n=10\/n=11\/n=12\/n=13\/n=14\/n=15\/n=16\/n=17\/n=18\/n=19\/n=20\/n=21:=by omega
  clear hs;rcases this with rfl|rfl|rfl|rfl|rfl|rfl|rfl|rfl|rfl|rfl|rfl|rfl|rfl|rfl|rfl|rfl|rfl|rfl|rfl|rfl|rfl<;>(as_aux_lemma=>(simp only[go_sem,seval,wl0,wl1,wl2,wl3,wl4,wl5,wl6,wl7,wl8,wl9,wl10,wl11,wl12,wl13,wl14,wl15,wl16,wl17,wl18,wl19,wl20,wl21];rfl))
 ·have e:Kp 23 n=-1:=by unfold Kp Ux tab;rw[if_pos rfl,if_neg (by simpa using hs)]
  rw[e];simp only[go_sem,seval]
  by_cases h1:1<=n
  ·have h2:¬n<=21:=by omega
   simp only[go_sem,seval,h1,h2]
  ·simp only[go_sem,seval,h1]
def Hn(k n:Int):Con 92 [.int .i64 k,.int .i64 n] (.int .i64 (Kp k n)):=by
 by_cases h:1<=k/\k<=22
 ·have:k=1\/k=2\/k=3\/k=4\/k=5\/k=6\/k=7\/k=8\/k=9\/k=10\/k=11\/k=12\/k=13\/k=14\/k=15\/k=16\/k=17\/k=18\/k=19\/k=20\/k=21\/k=22:=by omega
  clear h;refine Cu mixed Tryz.func92 tr92 ?_;rcases this with rfl|rfl|rfl|rfl|rfl|rfl|rfl|rfl|rfl|rfl|rfl|rfl|rfl|rfl|rfl|rfl|rfl|rfl|rfl|rfl|rfl|rfl<;>(as_aux_lemma=>(simp only[go_sem,seval];rfl))
 ·by_cases Bx:k=23
  ·subst Bx;exact Aqe n
  ·have e:Kp k n=-1:=by unfold Kp tab;rw[if_neg Bx,if_neg (by simpa using h)]
   rw[e];refine Cu mixed Tryz.func92 tr92 ?_;simp only[go_sem,seval,Bo Bx,Bo (show k≠1 by omega),Bo (show k≠2 by omega),Bo (show k≠3 by omega),Bo (show k≠4 by omega),Bo (show k≠5 by omega),Bo (show k≠6 by omega),Bo (show k≠7 by omega),Bo (show k≠8 by omega),Bo (show k≠9 by omega),Bo (show k≠10 by omega),Bo (show k≠11 by omega),Bo (show k≠12 by omega),Bo (show k≠13 by omega),Bo (show k≠14 by omega),Bo (show k≠15 by omega),Bo (show k≠16 by omega),Bo (show k≠17 by omega),Bo (show k≠18 by omega),Bo (show k≠19 by omega),Bo (show k≠20 by omega),Bo (show k≠21 by omega),Bo (show k≠22 by omega)]
def lev(i:Int):Bool:=decide (0<=i) && decide (i<=1000)
def Vk(i:Int):Con 131 [.int .i64 i] (.bool (lev i)):=by
 refine Cu mixed Tryz.func131 tr131 ?_;simp only[go_sem,seval,lev];refine⟨fun h=>?_,fun h=>?_⟩<;>simp only[h,go_sem,seval]
def Ns(k i j n:Int):Bool:=
 if k=1\/k=10\/k=11\/k=12 then lev i && ((j==0) && (n==0))
 else if k=2 then decide (0<=i) && (decide (i<=2147483647) && ((j==0) && (n==0)))
 else if 3<=k/\k<=9 then lev i && (lev j && (n==0))
 else if k=23 then lev i && lev j
 else (i==0) && ((j==0) && (n==0))
def Ap0(k i j n:Int)(rows:GV)(h:k=1\/k=10\/k=11\/k=12):Con 91 [.agg true [.int .i64 k,.int .i64 i,.int .i64 j,.int .i64 n,.dsl 5 rows]] (.bool (lev i && ((j==0) && (n==0)))):=by
 refine Cu mixed Tryz.func91 tr91 ?_;cases hL:lev i<;>cases hJ:(j==0)<;>cases hN:(n==0)<;>rcases h with rfl|rfl|rfl|rfl <;>
  (simp only[go_sem,seval];refine Ag (Vk i) ?_;simp only[go_sem,seval,hL,hJ,hN])
def Ap1(i j n:Int)(rows:GV):Con 91 [.agg true [.int .i64 2,.int .i64 i,.int .i64 j,.int .i64 n,.dsl 5 rows]] (.bool (decide (0<=i) && (decide (i<=2147483647) && ((j==0) && (n==0))))):=by
 refine Cu mixed Tryz.func91 tr91 ?_
 by_cases h1:0<=i<;>by_cases h2:i<=2147483647<;>cases hJ:(j==0)<;>cases hN:(n==0)<;>simp only[go_sem,seval,hJ,hN,h1,h2]
def Ap3(k i j n:Int)(rows:GV)(h:k=3\/k=4\/k=5\/k=6\/k=7\/k=8\/k=9):Con 91 [.agg true [.int .i64 k,.int .i64 i,.int .i64 j,.int .i64 n,.dsl 5 rows]] (.bool (lev i && (lev j && (n==0)))):=by
 refine Cu mixed Tryz.func91 tr91 ?_;cases hL:lev i
 ·rcases h with rfl|rfl|rfl|rfl|rfl|rfl|rfl<;>(as_aux_lemma=>(simp only[go_sem,seval];refine Ag (Vk i) ?_;simp only[go_sem,seval,hL]))
 ·cases hJ:lev j<;>cases hN:(n==0)<;>rcases h with rfl|rfl|rfl|rfl|rfl|rfl|rfl <;>
   (as_aux_lemma=>(simp only[go_sem,seval];refine Ag (Vk i) ?_;simp only[go_sem,seval,hL];refine Ag (Vk j) ?_;simp only[go_sem,seval,hL,hJ,hN]))
def Ap2(i j n:Int)(rows:GV):Con 91 [.agg true [.int .i64 23,.int .i64 i,.int .i64 j,.int .i64 n,.dsl 5 rows]] (.bool (lev i && lev j)):=by
 refine Cu mixed Tryz.func91 tr91 ?_;simp only[go_sem,seval];refine Ag (Vk i) ?_;cases hL:lev i
 ·simp only[go_sem,seval]
 ·simp only[go_sem,seval];refine Ag (Vk j) ?_;simp only[go_sem,seval]
def Apz(k i j n:Int)(rows:GV)(h:k<1\/(12<k/\k≠23)):Con 91 [.agg true [.int .i64 k,.int .i64 i,.int .i64 j,.int .i64 n,.dsl 5 rows]] (.bool ((i==0) && ((j==0) && (n==0)))):=by
 refine Cu mixed Tryz.func91 tr91 ?_;cases hI:(i==0)<;>cases hJ:(j==0)<;>cases hN:(n==0)<;>simp only[go_sem,seval,hI,hJ,hN,Bo (show k≠1 by omega),Bo (show k≠2 by omega),Bo (show k≠3 by omega),Bo (show k≠4 by omega),Bo (show k≠5 by omega),Bo (show k≠6 by omega),Bo (show k≠7 by omega),Bo (show k≠8 by omega),Bo (show k≠9 by omega),Bo (show k≠10 by omega),Bo (show k≠11 by omega),Bo (show k≠12 by omega),Bo (show k≠23 by omega)]
def Apy(k i j n:Int)(rows:GV):Con 91 [.agg true [.int .i64 k,.int .i64 i,.int .i64 j,.int .i64 n,.dsl 5 rows]] (.bool (Ns k i j n)):=by
 unfold Ns
 by_cases h1:k=1\/k=10\/k=11\/k=12
 ·rw[if_pos h1];exact Ap0 k i j n rows h1
 ·rw[if_neg h1]
  by_cases h2:k=2
  ·subst h2;rw[if_pos rfl];exact Ap1 i j n rows
  ·rw[if_neg h2]
   by_cases h3:3<=k/\k<=9
   ·rw[if_pos h3];exact Ap3 k i j n rows (by omega)
   ·rw[if_neg h3]
    by_cases h4:k=23
    ·subst h4;rw[if_pos rfl];exact Ap2 i j n rows
    ·rw[if_neg h4];exact Apz k i j n rows (by omega)
def Jp(k:Int):Int:=if k=1\/k=2 then 0 else if k<=12 then 1 else 2
def Aqs(k:Int):Con 89 [.int .i64 k] (.int .i64 (Jp k)):=by
 refine Cu mixed Tryz.func89 tr89 ?_
 by_cases h1:k=1
 ·subst h1;simp only[go_sem,seval];rfl
 ·by_cases h2:k=2
  ·subst h2;simp only[go_sem,seval];rfl
  ·have e:Jp k=if k<=12 then 1 else 2:=by unfold Jp;rw[if_neg (by omega)]
   rw[e]
   by_cases h3:k<=12
   ·simp only[go_sem,seval,Bo h1,Bo h2,h3]
   ·simp only[go_sem,seval,Bo h1,Bo h2,h3]
abbrev Cj(f:Nat)(G:GV)(args:List SV)(out:HOut)(G':GV):Prop:=HContract Tryz.prog f G args out G'
def Fm:List Nat->SV
 |[]=>.nilp
 |h::t=>.dref 3 [.gp h 0,Fm t,.int .i64 ((t.length:Int)+1)] 0
def Rn:Fm []=.nilp:=rfl
def Xr(e:List Nat){hp:List Ob}:Ek hp (Fm e)=some (Fm e,hp)/\El hp (Fm e)=some (Fm e,hp)/\Ez hp (Fm e)=[]/\Dy (Fm e)=[]/\(Fm e).closed=true/\(Fm e).ok=true/\cellsOf (Fm e)=[Fm e]:=by
 cases e<;>exact⟨rfl,rfl,rfl,rfl,rfl,rfl,rfl⟩
def Ar4{e:List Nat}{hp:List Ob}:Ek hp (Fm e)=some (Fm e,hp):=(Xr e).1
def Ar5{e:List Nat}{hp:List Ob}:Ez hp (Fm e)=[]:=(Xr e).2.2.1
def Ar3{e:List Nat}:(Fm e).closed=true:=(Xr (hp:=[]) e).2.2.2.2.1
def Ar6{e:List Nat}:(Fm e).ok=true:=(Xr (hp:=[]) e).2.2.2.2.2.1
def Ar2{e:List Nat}:cellsOf (Fm e)=[Fm e]:=(Xr (hp:=[]) e).2.2.2.2.2.2
attribute [go_sem] Ar4 Ar5 Ar3 Ar6 Ar2
def Fa(steps most seen guess:Int)(j:Nat):List SV:=[.int .i64 steps,.int .i64 most,.int .i64 seen,.int .i64 guess,.mp j]
def Vr{G:GV}{m:Nat}{r x:List SV}(h:G[m]?=some r):(G.set m x)[m]?=some x:=by
 rw[q_jq];rcases q_jo m G.length with h1|h1
 ·exact h1
 ·rw[q_jd h1] at h;cases h
def Avb{G:GV}{m:Nat}{r:List SV}(h:G[m]?=some r):G.set m r=G:=by
 refine List.ext_getElem? fun i=>?_
 by_cases hi:m=i
 ·subst hi;rw[Vr h,h]
 ·rw[q_jc hi]
def i8{α:Type}{l:List α}{i:Nat}{a b:α}:(l.set i a).set i b=l.set i b:=List.set_set ..
def Av7{G:GV}{m j:Nat}{steps most seen guess:Int}(hG:G[m]?=some (Fa steps most seen guess j))(hg:¬guess > 0):Cj 227 G [.gp m 0] (.ret (.tup [])) G:=by
 refine Bq mixed Tryz.func227 tr227 ?_;simp only[go_sem,seval,hG,Fa,q_je hg]
def Qn(g:Int):Int:=if g > 0 then g-1 else g
def Av6{G:GV}{m j:Nat}{steps most seen guess:Int}(hG:G[m]?=some (Fa steps most seen guess j))(hf:fit guess)(hg:guess≠1):Cj 227 G [.gp m 0] (.ret (.tup [])) (G.set m (Fa steps most seen (Qn guess) j)):=by
 by_cases h:guess > 0
 ·refine Bq mixed Tryz.func227 tr227 ?_;simp only[go_sem,seval,hG,Fa,q_jn h,w64 (show fit (guess-1) by unfold fit at hf |-;omega),Abd,Vr hG,Bo (show guess-1≠0 by omega),Qn,if_pos h]
 ·rw[show G.set m (Fa steps most seen (Qn guess) j)=G by rw[Qn,if_neg h];exact Avb hG];exact Av7 hG h
def Av1{G:GV}{m j:Nat}{steps most seen guess:Int}(hG:G[m]?=some (Fa steps most seen guess j))(hf:fit guess)(hg:guess≠1)(h0:0<=seen)(hs:seen<8000000) :
  Cj 206 G [.gp m 0] (.ret (.tup [])) (G.set m (Fa steps most (seen+1) (Qn guess) j)):=by
 refine Bq mixed Tryz.func206 tr206 ?_;simp only[go_sem,seval];refine Ac (Av6 hG hf hg) ?_;simp only[go_sem,seval,Fa,Vr hG,Abd,i8,w64 (show fit (seen+1) by unfold fit;omega),q_je (show ¬seen+1 > 8000000 by omega)]
def Aiq(G:GV)(most:Int):Cj 144 G [.int .i64 most] (.ret (.gp (G.length+1) 0)) (G++[[.undef],Fa 0 most 0 0 G.length]):=by
 refine Bq mixed Tryz.func144 tr144 ?_;simp only[go_sem,seval,Fa,q_ju]
def Air{G:GV}{m j:Nat}{steps most seen guess:Int}(hG:G[m]?=some (Fa steps most seen guess j))(most':Int) :
  Cj 175 G [.gp m 0,.int .i64 most'] (.ret (.tup [])) (G.set m (Fa 0 most' 0 guess j)):=by
 refine Bq mixed Tryz.func175 tr175 ?_;simp only[go_sem,seval,hG,Fa,Vr hG,Abd,i8]
structure Vl where
 k:Int
 i:Int
 j:Int
 n:Int
 level:Int
 kids:List Nat
def j3:List Nat->SV
 |[]=>.nils
 |i::l=>.dsl 1 ([.gp i 0]::l.map fun i=>[.gp i 0])
def A2s:j3 []=.nils:=rfl
def Amk{l:List Nat}(h:l≠[]):j3 l=.dsl 1 (l.map fun i=>[.gp i 0]):=by
 cases l with
 |nil=>exact absurd rfl h
 |cons i l=>rfl
def vlC(v:Vl):List SV:=[.int .i64 v.k,.int .i64 v.i,.int .i64 v.j,.int .i64 v.n,.int .i64 v.level,j3 v.kids]
def vlV(v:Vl):SV:=.dref 6 (vlC v) 0
structure Th where
 t:Tm
 env:List Nat
 bare:Bool
 w:Option Vl
 v:Option Vl
def Gi:Option Vl->SV
 |none=>.nilp
 |some v=>vlV v
def thT(x:Th):List SV:=if x.bare then [.int .i64 0,.int .i64 0,.int .i64 0,.int .i64 0,.nils] else tv x.t
def thR(x:Th):List SV:=thT x++[Fm x.env,.bool x.bare,Gi x.w,Gi x.v]
def Amj(x:Th):(thT x).length=5:=by unfold thT;split<;>simp[Br]
def A2o{x:Th}:(thR x).length=9:=by simp[thR,Amj]
def Xf(x:Th):∃a b c d f,thT x=[a,b,c,d,f]:=by
 have h:=Amj x
 match thT x,h with
 |[a,b,c,d,f],_=>exact⟨a,b,c,d,f,rfl⟩
def A2q{t:Tm}{e:List Nat}{w v:Option Vl}{cl:Bool}:cut cl 9 true 5 0 (thR ⟨t,e,false,w,v⟩)=.agg cl (tv t):=by simp[cut,thR,thT,Amo]
def Amh{x:Th}{v:Vl}:Dz 9 1 7 (thR x) [vlV v]=thR { x with w:=some v }:=by
 obtain⟨a,b,c,d,f,h⟩:=Xf x;have h2:thT { x with w:=some v }=[a,b,c,d,f]:=h;simp[Dz,thR,h,h2,Gi]
def Ami{x:Th}{v:Vl}:Dz 9 1 8 (thR x) [vlV v]=thR { x with v:=some v }:=by
 obtain⟨a,b,c,d,f,h⟩:=Xf x;have h2:thT { x with v:=some v }=[a,b,c,d,f]:=h;simp[Dz,thR,h,h2,Gi]
def A2k{x:Th}:(thR x)[5]?.getD .undef=Fm x.env:=by
 obtain⟨a,b,c,d,f,h⟩:=Xf x;simp[thR,h]
def A2l{x:Th}:(thR x)[6]?.getD .undef=.bool x.bare:=by
 obtain⟨a,b,c,d,f,h⟩:=Xf x;simp[thR,h]
def A2m{x:Th}:(thR x)[7]?.getD .undef=Gi x.w:=by
 obtain⟨a,b,c,d,f,h⟩:=Xf x;simp[thR,h]
def A2n{x:Th}:(thR x)[8]?.getD .undef=Gi x.v:=by
 obtain⟨a,b,c,d,f,h⟩:=Xf x;simp[thR,h]
def A3v{v:Vl}:(vlC v)[0]?.getD .undef=.int .i64 v.k:=q_z
def A3w{v:Vl}:(vlC v)[1]?.getD .undef=.int .i64 v.i:=q_z
def A3x{v:Vl}:(vlC v)[5]?.getD .undef=j3 v.kids:=q_z
def A2p{x:Th}:Mo (thR x)=false:=by
 unfold thR thT;split
 ·rfl
 ·cases x.t;rw[Bp];rfl
def A3z{v:Vl}{hp:List Ob}:Ek hp (vlV v)=some (vlV v,hp):=q_z
def A4a{v:Vl}:(vlV v).ok=true:=q_z
def A3y{v:Vl}:cellsOf (vlV v)=[vlV v]:=q_z
def Aa6{v:Vl}:Gi (some v)=vlV v:=q_z
def Afb:Gi none=.nilp:=q_z
attribute [go_sem] A2k A2l A2m A2n A3v A3w A3x A2o A2q Amh Ami A2p A3z A4a A3y
def Auj{a b c d f c0 c1 c2 c3 c4 c5 c6 c7 c8:SV}{r:List (Nat×Nat×SV)}:fill [c0,c1,c2,c3,c4,c5,c6,c7,c8] ((0,5,.agg true [a,b,c,d,f])::r)=fill [a,b,c,d,f,c5,c6,c7,c8] r:=by
 simp[fill,Dz,cellsOf]
attribute [go_sem] Auj
def Yn(G:GV)(t:Tm)(e:List Nat):Cj 114 G [.agg true (tv t),Fm e] (.ret (.gp G.length 0)) (G++[thR ⟨t,e,false,none,none⟩]):=by
 refine Bq mixed Tryz.func114 tr114 ?_;simp only[go_sem,seval,Amo,thR,thT,Gi]
def Acn(w:Option Vl)(v:Option Vl):List SV:=thR ⟨.mk 0 0 0 0 [],[],true,w,v⟩
def Avh(G:GV)(v:Vl):Cj 181 G [vlV v] (.ret (.gp G.length 0)) (G++[Acn (some v) none]):=by
 refine Bq mixed Tryz.func181 tr181 ?_;simp only[go_sem,seval,Acn,thR,thT,Gi,vlV,Rn]
def Ach(k:Int):Con 223 [.int .i64 k] (.int .i64 (if k=15\/k=18\/k=19 then 0 else if k=22 then 5 else -1)):=by
 refine Cu mixed Tryz.func223 tr223 ?_
 by_cases h1:k=15
 ·subst h1;simp only[go_sem,seval]
 by_cases h2:k=18
 ·subst h2;simp only[go_sem,seval]
 by_cases h3:k=19
 ·subst h3;simp only[go_sem,seval]
 by_cases h4:k=22
 ·subst h4;simp only[go_sem,seval]
 simp only[go_sem,seval,Bo h1,Bo h2,Bo h3,Bo h4,h1,h2,h3,h4,or_self,if_false]
def rdS(c:RC)(nm:SV)(s:RS):List SV:=[.dsl 3 (c.L.map De),.int .i64 s.k,.int .i64 c.e,nm,.int .i64 c.i,.int .i64 c.j,.bool s.bad,.int .i64 s.at_]
structure Dc(c:RC):Prop where
 n:c.L.length<100000000000
 i:c.i<=1000
 j:c.j<=1000
structure AtG(c:RC)(k:Nat):Prop where
 lt:k<c.L.length
 ltz:(k:Int)<(c.L.length:Int)
 ge:(0:Int)<=(k:Int)
 row:(c.L.map De)[k]?.getD []=[.int .i64 (c.tk k).k,.str (bs (c.tk k).w),.int .i64 (c.tk k).p]
 w1:IntKind.i64.wrap ((k:Int)+1)=((k+1:Nat):Int)
 w2:IntKind.i64.wrap (((k+1:Nat):Int)-1)=(k:Int)
 nge:¬(k:Int) >= (c.L.length:Int)
 nle:¬(c.L.length:Int)<=(k:Int)
 big:(c.L.length<=140737488355328)=True
def atG{c:RC}(hc:Dc c){k:Nat}(h:k<c.L.length):AtG c k:=by
 have hn:=hc.n;refine⟨h,by omega,by omega,?_,by rw[w64 (by unfold fit;omega)];omega,by rw[w64 (by unfold fit;omega)];omega,by omega,by omega,by simp;omega⟩;rw[q_ji,q_f h];unfold RC.tk;rw[q_j,q_f h];rfl
section
variable{c:RC}{nm:SV}{s:RS}{G:GV}
def Oj(hc:Dc c)(k:Nat):Cj 156 (rdS c nm s::G) [.gp 0 0,.int .i64 k] (.ret (.tup [])) (rdS c nm (Bl c s k)::G):=by
 refine Bq mixed Tryz.func156 tr156 ?_;have hn:=hc.n;have a10:(c.L.length<=140737488355328)=True:=by simp;omega
 obtain⟨sk,sb,sa,D⟩:=s;unfold rdS Bl;cases sb
 ·by_cases h:k<c.L.length
  ·obtain⟨a1,a2,a3,a4,a6,a7,a8,a9,a10⟩:=atG hc h;simp only[go_sem,seval,a1,a2,a3,a4,a10,q_jn a2,q_g,if_true,if_false,q_l,forall_const]
  ·simp only[go_sem,seval,a10,q_je (show ¬(k:Int)<(c.L.length:Int) by omega),q_g,if_neg h,q_l,if_false,forall_const]
 ·simp only[go_sem,seval,if_true]
def Cs(hc:Dc c)(kd:Nat):Cj 188 (rdS c nm s::G) [.gp 0 0,.int .i64 kd] (.ret (.str (bs (Ad c s kd).1))) (rdS c nm (Ad c s kd).2::G):=by
 have cf:=Oj (nm:=nm) (s:=s) (G:=G) hc s.k;refine Bq mixed Tryz.func188 tr188 ?_;have hn:=hc.n;have a10:(c.L.length<=140737488355328)=True:=by simp;omega
 unfold Ad RS.nx;unfold rdS at cf |-;obtain⟨sk,sb,sa,D⟩:=s;simp only at cf |-;cases sb
 ·by_cases h:sk<c.L.length
  ·obtain⟨a1,a2,a3,a4,a6,a7,a8,a9,a10⟩:=atG hc h
   by_cases hk:(c.tk sk).k=kd
   ·rw[if_pos ⟨rfl,h,hk⟩];have Gp:(((c.tk sk).k:Int) != (kd:Int))=false:=by simp[hk]
    simp only[go_sem,seval,a1,a2,a3,a4,a6,a7,a10,q_je a8,q_g,Gp,forall_const]
   ·rw[if_neg (fun h=>hk h.2.2)];have Gp:(((c.tk sk).k:Int) != (kd:Int))=true:=by simp;omega
    simp only[go_sem,seval,a1,a2,a3,a4,a10,q_je a8,q_g,Gp,forall_const];refine Ac cf ?_;simp only[go_sem,seval]
  ·rw[if_neg (fun k=>h k.2.1)];simp only[go_sem,seval,a10,q_jn (show (sk:Int) >= (c.L.length:Int) by omega),q_g,forall_const];refine Ac cf ?_;simp only[go_sem,seval]
 ·rw[if_neg (by simp)];simp only[go_sem,seval];refine Ac cf ?_;simp only[go_sem,seval]
def Nd(k:Nat):(Bl c s k).k=s.k:=by unfold Bl;split<;>rfl
def Ce(kd:Nat):s.k<=(Ad c s kd).2.k:=by
 unfold Ad;split
 ·exact Nat.le_succ _
 ·rw[Nd];exact q_ja _
def Ax6{lev:RS->Nat×RS}(h:∀s,s.k<=(lev s).2.k):s.k<=(Fw c lev s).2.k:=by
 unfold Fw;refine q_kn ?_ (Ce 2);have h1:=h s.nx;have h2:=h (lev s.nx).2;have h3:s.nx.k=s.k+1:=rfl;split
 ·exact (by omega:s.k<=(lev s.nx).2.k)
 split
 ·exact (by omega:s.k<=(lev (lev s.nx).2).2.k)
 ·rw[Nd];exact q_ja _
def Ei:∀(f:Nat) (s:RS),s.k<=(Af c f s).2.k:=by
 intro f
 induction f with
 |zero=>intro s;exact q_ja _
 |succ f ih=>
  intro s;unfold Af;have h3:s.nx.k=s.k+1:=rfl;have key:∀(q:Nat×RS),s.k<=q.2.k->s.k<=(if q.2.bad=false/\1000<q.1 then Bl c q.2 s.k else q.2).k:=fun q h=>by
   split
   ·rw[Nd];exact h
   ·exact h
  split
  ·refine key _ ?_
   repeat' split
   ·exact (by omega:s.k<=s.nx.k)
   ·exact (by omega:s.k<=s.nx.k)
   ·exact (by omega:s.k<=s.nx.k)
   ·have:=Ax6 (c:=c) (s:=s.nx) ih;omega
   ·rw[Nd];exact q_ja _
  ·rw[Nd];exact q_ja _
def Ah0(w:By):(Do w).getD 0<=1000000:=by
 unfold Do
 repeat' split
 all_goals simp
 rename_i h;omega
def Ax7{lev:RS->Nat×RS}{m:Nat}(h:∀s,(lev s).1<=m):(Fw c lev s).1<=m+1:=by
 unfold Fw;have h1:=h s.nx;have h2:=h (lev s.nx).2;split
 ·exact (by omega:(lev s.nx).1+1<=m+1)
 split
 ·exact (by omega:max (lev s.nx).1 (lev (lev s.nx).2).1<=m+1)
 ·exact Nat.zero_le _
def Axe(hc:Dc c):∀(f:Nat) (s:RS),(Af c f s).1<=1000000+f:=by
 intro f
 induction f with
 |zero=>intro s;exact Nat.zero_le _
 |succ f ih=>
  intro s;unfold Af;have h1:=Ah0 (c.tk s.k).w;have h2:=hc.i;have h3:=hc.j;have h4:=Ax7 (c:=c) (s:=s.nx) ih;split
  ·show (if _ then _ else _:Nat×RS).1<=_
   repeat' split
   all_goals first|omega|(simp only;omega)
  ·exact Nat.zero_le _
end
def A3p(w:By)(c:UInt8):Ed (w++[c])=10*Ed w+(c.toNat-48):=by unfold Ed;rw[List.foldl_append];rfl
def Aro{c:UInt8}(h:Gs c=true):48<=c.toNat/\c.toNat<=57:=by
 unfold Gs Fv at h;simpa using h
def Arj:∀(w:By),w≠[]->(∀c∈w,Gs c=true)->(Lib.decDigits (Ed w)=w↔¬(1<w.length/\w.getD 0 0=48)):=by
 intro w;have key:∀(n:Nat) (w:By),w.length=n->w≠[]->(∀c∈w,Gs c=true)->(Lib.decDigits (Ed w)=w↔¬(1<w.length/\w.getD 0 0=48)):=by
  intro n
  induction n with
  |zero=>intro w h Dw;exact absurd (q_la.1 h) Dw
  |succ n ih=>
   intro w hl Dw hd;obtain⟨w',c,rfl⟩:∃w' c,w=w'++[c]:=⟨w.dropLast,w.getLast Dw,(List.dropLast_concat_getLast Dw).symm⟩
   have hc:=Aro (hd c (by simp));have hc2:UInt8.ofNat (48+(c.toNat-48))=c:=by rw[show 48+(c.toNat-48)=c.toNat by omega];simp
   rw[A3p];rw[q_jr,List.length_singleton] at hl
   by_cases hw:w'=[]
   ·subst hw;have:Ed []=0:=rfl;rw[this,Nat.mul_zero,q_jg,Lib.decDigits_one (by omega),hc2];simp
   ·have h1:=ih w' (by omega) hw (fun d Tn=>hd d (by simp[Tn]));have hl1:0<w'.length:=List.length_pos_iff.2 hw;have hg:(w'++[c]).getD 0 0=w'.getD 0 0:=by
     rw[q_j,q_j,q_jf hl1]
    rw[hg,q_jr,List.length_singleton];have hx:(1<w'.length+1)=True:=by simp;omega
    rw[hx,true_and]
    by_cases Kw:10*Ed w'+(c.toNat-48)<10
    ·have h0:Ed w'=0:=by omega
     rw[Lib.decDigits_one Kw];refine⟨fun he=>absurd (congrArg List.length he) (by simp;omega),fun he=>?_⟩;exfalso;rw[h0,Lib.decDigits_one (by decide)] at h1
     by_cases Qo:w'.getD 0 0=48
     ·exact he Qo
     ·have:=h1.2 (fun k=>Qo k.2);rw[<-this] at Qo;exact Qo (by decide)
    ·rw[Lib.decDigits,dif_neg Kw,show (10*Ed w'+(c.toNat-48)) / 10=Ed w' by omega,show (10*Ed w'+(c.toNat-48)) % 10=c.toNat-48 by omega,hc2];rw[List.append_left_inj,h1]
     by_cases Qo:w'.getD 0 0=48
     ·simp only[Qo,and_true,not_true,iff_false,Decidable.not_not];rcases q_jo 1 w'.length with h|h
      ·exact h
      ·exfalso;have hl0:w'.length=1:=by omega
       match w',hl0 with
       |[d],_=>
        have:d=48:=by simpa using Qo
        subst this;have:Ed [48]=0:=rfl;omega
     ·exact⟨fun _=>Qo,fun _ k=>Qo k.2⟩
 exact key w.length w rfl
def Ahz{w:By}(h0:w.length≠0)(h7:¬7<w.length)(ha:w.all Gs=true):Do w=if 1000000<Ed w\/(1<w.length/\w.getD 0 0=48) then none else some (Ed w):=by
 unfold Do;rw[if_neg (by omega),if_pos ha];have Dw:w≠[]:=fun h=>h0 (by rw[h];rfl)
 have hd:=Arj w Dw (fun c hc=>List.all_eq_true.1 ha c hc);rw[Lib.itoa_nonneg]
 by_cases hb:1<w.length/\w.getD 0 0=48
 ·rw[if_pos (.inr (fun e=>hd.1 e hb)),if_pos (.inr hb)]
 ·by_cases hm:1000000<Ed w
  ·rw[if_pos (.inl hm),if_pos (.inl hm)]
  ·rw[if_neg (by rintro (h|h);exact hm h;exact h (hd.2 hb)),if_neg (by rintro (h|h);exact hm h;exact hb h)]
def Ag1(w:By):Con 83 [.str (bs w)] (.tup [.int .i64 ((Do w).getD 0:Nat),.bool (Do w).isSome]):=by
 refine Cu mixed Tryz.func83 tr83 ?_
 by_cases h0:w.length=0
 ·have e:Do w=none:=by unfold Do;rw[if_pos (.inl h0)]
  rw[e];simp only[go_sem,seval,h0];rfl
 by_cases h7:7<w.length
 ·have e:Do w=none:=by unfold Do;rw[if_pos (.inr h7)]
  rw[e];have n0:((w.length:Int)==0)=false:=by rw[beq_eq_false_iff_ne];omega
  simp only[go_sem,seval,n0,q_jn (show (w.length:Int) > 7 by omega)];rfl
 have n0:((w.length:Int)==0)=false:=by rw[beq_eq_false_iff_ne];omega
 have Ee:0<w.length:=by omega
 have z0:(0:Int)<(w.length:Int):=by omega
 by_cases hz:1<w.length/\chN w 0=48
 ·have e:Do w=none:=by
   cases ha:w.all Gs with
   |false=>exact Acv ha
   |true=>
    have hz48:w.getD 0 0=48:=UInt8.toNat.inj hz.2;rw[Ahz h0 h7 ha,if_pos (.inr ⟨hz.1,hz48⟩)]
  rw[e];simp only[go_sem,seval,Cq,n0,z0,Ee,q_je (show ¬(w.length:Int) > 7 by omega),q_jn (show (w.length:Int) > 1 by omega),hz.2];rfl
 have Ic:(decide ((w.length:Int) > 1) && (((chN w 0:Nat):Int)==48))=false:=by
  rw[Bool.and_eq_false_iff,decide_eq_false_iff_not,beq_eq_false_iff_ne]
  by_cases h1:1<w.length
  ·exact .inr (fun h=>hz ⟨h1,by omega⟩)
  ·exact .inl (by omega)
 have hz3:1<w.length->(((chN w 0:Nat):Int)==48)=false:=fun h1=>by rw[beq_eq_false_iff_ne];intro h;exact hz ⟨h1,by omega⟩
 by_cases h1:1<w.length
 case' pos=>simp only[go_sem,seval,Cq,n0,z0,Ee,q_je (show ¬(w.length:Int) > 7 by omega),q_jn (show (w.length:Int) > 1 by omega),hz3 h1]
 case' neg=>simp only[go_sem,seval,Cq,n0,z0,Ee,q_je (show ¬(w.length:Int) > 7 by omega),q_je (show ¬(w.length:Int) > 1 by omega)]
 all_goals
  refine Hv (fun x:Nat=>⟨(.str (bs w)::.J::.int .i64 0::.bool false::.int .i64 (Ed (w.take x))::.int .i64 x::Cm (jk8 (jk4 (.J::[])))),[]⟩) (fun x=>w.length-x) (fun x=>x<=w.length/\∀i,i<x->Fv (chN w i)=true) (fun x hx=>?_) 0 ⟨Nat.zero_le _,fun i hi=>absurd hi (q_kp _)⟩ (Bv (by simp[Bm,Ed]));obtain⟨Gh,hp⟩:=hx;have hd:∀c∈w.take x,Gs c=true:=fun c hc=>by
   obtain⟨i,hi,rfl⟩:=List.getElem_of_mem hc;have Lb:i<x:=by rw[q_kf] at hi;omega
   have hi3:i<w.length:=by omega
   have:=hp i Lb;unfold chN at this;rw[q_j,q_f hi3] at this;rw[List.getElem_take];exact this
  have hv:=Amr _ hd;have Kw:10 ^ (w.take x).length<=10 ^ 7:=Nat.pow_le_pow_right (by decide) (by rw[q_kf];omega);have hv7:Ed (w.take x)<10000000:=q_ko hv (by simpa using Kw)
  by_cases Am:x<w.length
  ·have e0:(0:Int)<=(x:Int):=by omega
   have e1:(x:Int)<(w.length:Int):=by omega
   have hw:IntKind.i64.wrap ((x:Int)+1)=((x+1:Nat):Int):=by rw[w64 (by unfold fit;omega)];omega
   cases Ii:Fv (chN w x)
   ·have e:Do w=none:=Acv (by rw[List.all_eq_false];exact⟨w[x],q_kd Am,by
     unfold chN at Ii;rw[q_j,q_f Am] at Ii;simp only[q_jz] at Ii;simp[Gs,Ii]⟩)
    rw[e];unfold Fv at Ii
    by_cases c1:48<=chN w x
    ·have c2:¬chN w x<=57:=by intro h;simp[c1,h] at Ii
     simp only[go_sem,seval,Cq,e0,e1,Am,q_jn e1,q_je (show ¬((chN w x:Nat):Int)<48 by omega),q_jn (show ((chN w x:Nat):Int) > 57 by omega)]
     first|done|rfl
    ·simp only[go_sem,seval,Cq,e0,e1,Am,q_jn e1,q_jn (show ((chN w x:Nat):Int)<48 by omega)]
     first|done|rfl
   ·have w7:=Ii;unfold Fv at Ii;simp only[q_jl,q_jt] at Ii;obtain⟨c1,c2⟩:=Ii;have hs:IntKind.u8.wrap (((chN w x:Nat):Int)-48)=((chN w x-48:Nat):Int):=by
     have:((chN w x:Nat):Int)-48=((chN w x-48:Nat):Int):=by omega
     rw[this];unfold IntKind.wrap;simp[IntKind.bits,IntKind.signed];omega
    have Bc:IntKind.i64.wrap ((chN w x-48:Nat):Int)=((chN w x-48:Nat):Int):=w64 (by unfold fit;omega);have hm:IntKind.i64.wrap (10*((Ed (w.take x):Nat):Int))=((10*Ed (w.take x):Nat):Int):=by rw[w64 (by unfold fit;omega)];omega
    have ha:IntKind.i64.wrap (((10*Ed (w.take x):Nat):Int)+((chN w x-48:Nat):Int))=((Ed (w.take (x+1)):Nat):Int):=by rw[Ams w Am,w64 (by unfold fit;omega)];omega
    simp only[go_sem,seval,Cq,e0,e1,Am,q_jn e1,q_je (show ¬((chN w x:Nat):Int)<48 by omega),q_je (show ¬((chN w x:Nat):Int) > 57 by omega),hs,Bc,hm,ha,hw];refine⟨x+1,⟨by omega,by omega,fun i hi=>?_⟩,Bv (by simp[Bm])⟩
    by_cases Mj:i=x
    ·subst Mj;exact w7
    ·exact hp i (by omega)
  ·have Gh:x=w.length:=by omega
   subst Gh;rw[q_kk] at *
   have Gb:w.all Gs=true:=List.all_eq_true.2 hd;have e1:¬(w.length:Int)<(w.length:Int):=by omega
   have eg:=Ahz h0 h7 Gb;have hz4:¬(1<w.length/\w.getD 0 0=48):=fun h=>hz ⟨h.1,by unfold chN;rw[h.2];rfl⟩
   by_cases hb:1000000<Ed w
   ·rw[if_pos (.inl hb)] at eg;rw[eg];simp only[go_sem,seval,q_je e1,q_jn (show ((Ed w:Nat):Int) > 1000000 by omega)]
    first|done|rfl
   ·rw[if_neg (by rintro (h|h);exact hb h;exact hz4 h)] at eg;rw[eg];simp only[go_sem,seval,q_je e1,q_je (show ¬((Ed w:Nat):Int) > 1000000 by omega)]
    first|done|rfl
def LxG.step{l:By}{q:Nat}{ts:List Tok}{e:Option Nat}(h:LxG l q ts e)(hq:q<l.length) :
  ((Ck q (l.drop q)).2=false/\ts=[]/\e=some q)\/∃r,(Ck q (l.drop q)).2=true/\ts=(Ck q (l.drop q)).1::r/\LxG l (q+(Ck q (l.drop q)).1.w.length+skF false (l.drop (q+(Ck q (l.drop q)).1.w.length))) r e:=by
 cases h with
 |nil=>exact absurd hq (Nat.lt_irrefl _)
 |bad _ h=>exact .inl ⟨h,rfl,rfl⟩
 |tok _ h r=>exact .inr ⟨_,h,rfl,r⟩
def LxG.done{l:By}{ts:List Tok}{e:Option Nat}(h:LxG l l.length ts e):ts=[]/\e=none:=by
 generalize hq:l.length=q at h;cases h with
 |nil=>exact⟨rfl,rfl⟩
 |bad Nm _=>omega
 |tok Nm _ _=>omega
def rlG(l:By):List Tok×Nat->St
 |([],q)=>⟨(.str (bs l)::.J::.nils::.int .i64 0::.nils::.int .i64 q::Cm (Cm (Cm (Cm (Ef (jk4 ([]))))))),[]⟩
 |(t::ts,q)=>⟨(.str (bs l)::.J::.nils::.int .i64 0::.osl 1 ts.length 0 (ts.length+1)::.int .i64 q::Cm (Cm (Cm (Cm (Ef (jk4 ([]))))))),[⟨false,3,[De t],0,0,true⟩,⟨false,3,(t::ts).map De,ts.length,ts.length,true⟩]⟩
def Nv(l:By)(q:Nat):rlG l ([],q)=⟨(.str (bs l)::.J::.nils::.int .i64 0::.nils::.int .i64 q::Cm (Cm (Cm (Cm (Ef (jk4 ([]))))))),[]⟩:=rfl
def Hu(l:By)(t:Tok)(ts:List Tok)(q:Nat):rlG l (t::ts,q)=⟨(.str (bs l)::.J::.nils::.int .i64 0::.osl 1 ts.length 0 (ts.length+1)::.int .i64 q::Cm (Cm (Cm (Cm (Ef (jk4 ([]))))))),[⟨false,3,[De t],0,0,true⟩,⟨false,3,(t::ts).map De,ts.length,ts.length,true⟩]⟩:=rfl
def Alv:List Tok×Option Nat->List SV
 |(ts,none)=>[Xq 3 (ts.map De),.int .i64 (-1)]
 |(ts,some p)=>[Xq 3 (ts.map De),.int .i64 p]
def rlI(l:By)(R1:List Tok)(R2:Option Nat)(a:List Tok×Nat):Prop:=∃rest,R1=a.1++rest/\a.2<=l.length/\LxG l (a.2+skF false (l.drop a.2)) rest R2
def Aqf{l:By}(hl:l.length<1000000000000):Con 43 [.str (bs l)] (.tup (Alv (Bi l))):=by
 have hx:=Jz l;have hR:=hx.le.2.1;generalize Bi l=R at hx hR;obtain⟨R1,R2⟩:=R;simp only at hx hR;have hR:R1.length<=l.length:=by omega
 refine Cu mixed Tryz.func43 tr43 ?_;simp only[go_sem,seval];refine Hv (rlG l) (fun a=>l.length-a.2) (rlI l R1 R2) (fun a ha=>?_) ([],0) ⟨R1,rfl,Nat.zero_le _,by simpa using hx⟩ (by rw[Nv];exact Bv (by simp[Bm]));clear hx;obtain⟨dn,p⟩:=a;obtain⟨rest,r1,Ia,hx⟩:=ha;simp only at r1 Ia hx;have f0:(0:Int)<=(p:Int):=by omega
 by_cases hp:p<l.length
 rotate_left
 ·have hpe:p=l.length:=by omega
  subst hpe;rw[Qj hp] at hx;simp only[skF,q_jp] at hx;obtain⟨rfl,rfl⟩:=hx.done;rw[q_k] at r1;subst r1;have f1:¬(l.length:Int)<(l.length:Int):=by omega
  rcases R1 with _|⟨d,dn⟩
  ·rw[Nv];simp only[go_sem,seval,f1]
   first|done|rfl|(rw[q_js (by simp)];first|done|rfl)
  ·rw[Hu];simp only[go_sem,seval,f1]
   first|done|rfl|(rw[q_js (by simp)];first|done|rfl)
 have f1:(p:Int)<(l.length:Int):=by omega
 have hs:=sk_f hp;have pw:IntKind.i64.wrap ((p:Int)+1)=((p+1:Nat):Int):=by rw[w64 (by unfold fit;omega)];omega
 by_cases c0:chN l p=32\/chN l p=9\/chN l p=10
 ·rw[if_pos c0] at hs;rw[hs,show p+(skF false (l.drop (p+1))+1)=p+1+skF false (l.drop (p+1)) by omega] at hx;rcases dn with _|⟨d,dn⟩
  ·rw[Nv];rcases c0 with c|c|c
   all_goals
    simp only[go_sem,seval,Cq,f0,f1,hp,c,pw];refine⟨([],p+1),⟨by simp only;omega,rest,r1,by simp only;omega,hx⟩,?_⟩;rw[Nv];exact Bv (by simp[Bm])
  ·rw[Hu];rcases c0 with c|c|c
   all_goals
    simp only[go_sem,seval,Cq,f0,f1,hp,c,pw];refine⟨(d::dn,p+1),⟨by simp only;omega,rest,r1,by simp only;omega,hx⟩,?_⟩;rw[Hu];exact Bv (by simp[Bm])
 rw[if_neg c0] at hs;have m1:chN l p≠32:=fun h=>c0 (.inl h)
 have m2:chN l p≠9:=fun h=>c0 (.inr (.inl h))
 have m3:chN l p≠10:=fun h=>c0 (.inr (.inr h))
 have n1:=Ka m1;have n2:=Ka m2;have n3:=Ka m3;simp only[Int.cast_ofNat_Int] at n1 n2 n3
 by_cases c5:chN l p=59
 ·rw[if_pos c5] at hs;have Aap:∀(b:Nat),((b=p/\True)\/p<b/\b+skF true (l.drop b)=p+skF false (l.drop p))->p<=b->b<=l.length->(¬b<l.length\/chN l b=10)->p<b/\b+skF false (l.drop b)=p+skF false (l.drop p):=by
   intro b hb h1 h2 h3
   by_cases hq:b<l.length
   ·have Kw:=h3.resolve_left (fun h=>h hq);have ht:=sk_t hq;have hf:=sk_f hq;rw[if_pos Kw] at ht;rw[if_pos (.inr (.inr Kw))] at hf;rcases hb with⟨rfl,_⟩|h
    ·exact absurd Kw m3
    ·exact⟨h.1,by omega⟩
   ·rcases hb with⟨rfl,_⟩|h
    ·exact absurd hp hq
    ·have:=h.2;rw[Qj hq] at this |-;simp only[skF] at this |-;exact⟨h.1,this⟩
  have Jm:∀(b:Nat),((b=p/\True)\/p<b/\b+skF true (l.drop b)=p+skF false (l.drop p))->b<l.length->chN l b≠10->p<=b->(p<b+1/\b+1+skF true (l.drop (b+1))=p+skF false (l.drop p)):=by
   intro b hb hq Kw h1;have ht:=sk_t hq;rw[if_neg Kw] at ht;rcases hb with⟨rfl,_⟩|h
   ·exact⟨by omega,by omega⟩
   ·exact⟨by omega,by omega⟩
  rcases dn with _|⟨d,dn⟩
  ·rw[Nv];simp only[go_sem,seval,Cq,f0,f1,hp,c5];refine Hv (fun b:Nat=>⟨(.str (bs l)::.J::.nils::.int .i64 0::.nils::.int .i64 b::Cm (Cm (Cm (Cm (Ef (jk4 ([]))))))),[]⟩) (fun b=>l.length-b) (fun b=>p<=b/\b<=l.length/\((b=p/\True)\/p<b/\b+skF true (l.drop b)=p+skF false (l.drop p))) (fun b hb=>?_) p ⟨q_ja _,by omega,.inl ⟨rfl,trivial⟩⟩ (Bv (by simp[Bm]));obtain⟨b1,b2,b3⟩:=hb;have g0:(0:Int)<=(b:Int):=by omega
   by_cases hq2:b<l.length
   ·have g1:(b:Int)<(l.length:Int):=by omega
    have hw2:IntKind.i64.wrap ((b:Int)+1)=((b+1:Nat):Int):=by rw[w64 (by unfold fit;omega)];omega
    by_cases c6:chN l b=10
    ·obtain⟨k1,k2⟩:=Aap b b3 b1 b2 (.inr c6);simp only[go_sem,seval,Cq,g0,g1,hq2,c6];refine⟨([],b),⟨by simp only;omega,rest,r1,by simp only;omega,by simp only;rw[k2];exact hx⟩,?_⟩;rw[Nv];exact Bv (by simp[Bm])
    ·have d6:=Ka c6;simp only[Int.cast_ofNat_Int] at d6;have d7:(((chN l b:Nat):Int) != 10)=true:=by simp[bne,d6]
     simp only[go_sem,seval,Cq,g0,g1,hq2,d6,d7,hw2];exact⟨b+1,⟨by omega,by omega,by omega,.inr (Jm b b3 hq2 c6 b1)⟩,Bv (by simp[Bm])⟩
   ·have g1:¬(b:Int)<(l.length:Int):=by omega
    obtain⟨k1,k2⟩:=Aap b b3 b1 b2 (.inl hq2);simp only[go_sem,seval,g1];refine⟨([],b),⟨by simp only;omega,rest,r1,by simp only;omega,by simp only;rw[k2];exact hx⟩,?_⟩;rw[Nv];exact Bv (by simp[Bm])
  ·rw[Hu];simp only[go_sem,seval,Cq,f0,f1,hp,c5];refine Hv (fun b:Nat=>⟨(.str (bs l)::.J::.nils::.int .i64 0::.osl 1 dn.length 0 (dn.length+1)::.int .i64 b::Cm (Cm (Cm (Cm (Ef (jk4 ([]))))))),[⟨false,3,[De d],0,0,true⟩,⟨false,3,(d::dn).map De,dn.length,dn.length,true⟩]⟩) (fun b=>l.length-b) (fun b=>p<=b/\b<=l.length/\((b=p/\True)\/p<b/\b+skF true (l.drop b)=p+skF false (l.drop p))) (fun b hb=>?_) p ⟨q_ja _,by omega,.inl ⟨rfl,trivial⟩⟩ (Bv (by simp[Bm]));obtain⟨b1,b2,b3⟩:=hb;have g0:(0:Int)<=(b:Int):=by omega
   by_cases hq2:b<l.length
   ·have g1:(b:Int)<(l.length:Int):=by omega
    have hw2:IntKind.i64.wrap ((b:Int)+1)=((b+1:Nat):Int):=by rw[w64 (by unfold fit;omega)];omega
    by_cases c6:chN l b=10
    ·obtain⟨k1,k2⟩:=Aap b b3 b1 b2 (.inr c6);simp only[go_sem,seval,Cq,g0,g1,hq2,c6];refine⟨(d::dn,b),⟨by simp only;omega,rest,r1,by simp only;omega,by simp only;rw[k2];exact hx⟩,?_⟩;rw[Hu];exact Bv (by simp[Bm])
    ·have d6:=Ka c6;simp only[Int.cast_ofNat_Int] at d6;have d7:(((chN l b:Nat):Int) != 10)=true:=by simp[bne,d6]
     simp only[go_sem,seval,Cq,g0,g1,hq2,d6,d7,hw2];exact⟨b+1,⟨by omega,by omega,by omega,.inr (Jm b b3 hq2 c6 b1)⟩,Bv (by simp[Bm])⟩
   ·have g1:¬(b:Int)<(l.length:Int):=by omega
    obtain⟨k1,k2⟩:=Aap b b3 b1 b2 (.inl hq2);simp only[go_sem,seval,g1];refine⟨(d::dn,b),⟨by simp only;omega,rest,r1,by simp only;omega,by simp only;rw[k2];exact hx⟩,?_⟩;rw[Hu];exact Bv (by simp[Bm])
 rw[if_neg c5] at hs;rw[hs,q_jp] at hx;have n4:=Ka c5;simp only[Int.cast_ofNat_Int] at n4;have Eb:=hx.step hp;clear hx hs;rw[Kf hp] at Eb;have hcc:(l.getD p 0).toNat=chN l p:=rfl
 by_cases c1:chN l p=40
 ·have e:Ck p (l.getD p 0::l.drop (p+1))=(⟨1,[40],p⟩,true):=by rw[Ck,if_pos (hcc.trans c1)]
  rw[e] at Eb;rcases Eb with⟨h,_⟩|⟨r,_,er,hr⟩
  ·cases h
  simp only[List.length_singleton] at hr;have Bh:R1.length=dn.length+(r.length+1):=by rw[r1,er];simp only[q_jr,q_jk,List.length_nil]<;>omega
  rcases dn with _|⟨d,dn⟩
  ·rw[Nv];simp only[go_sem,seval,Cq,f0,f1,hp,c1,pw];refine⟨([⟨1,[40],p⟩],p+1),⟨by simp only;omega,r,by simp[r1,er],by simp only;omega,hr⟩,?_⟩;rw[Hu];simp only[q_h,q_kt,q_i,De,q_jr,q_jk,List.length_nil,q_g,q_jg]
   first|exact Bv (by simp[Bm])|exact Fx 2 (by simp[Bm]) (by simp) (by simp[Dm]) (by simp)
  ·rw[Hu];rw[q_jk] at Bh;simp only[go_sem,seval,Cq,f0,f1,hp,c1,pw];refine⟨⟨by simp,by omega,by omega⟩,?_⟩
   try simp only[go_sem,seval,pw]
   refine⟨((d::(dn++[⟨1,[40],p⟩])),p+1),⟨by simp only;omega,r,by simp[r1,er],by simp only;omega,hr⟩,?_⟩;rw[Hu];simp only[q_h,q_kt,q_i,De,q_jr,q_jk,List.length_nil,q_g,q_jg]
   first|exact Bv (by simp[Bm])|exact Fx 2 (by simp[Bm]) (by simp) (by simp[Dm]) (by simp)
 by_cases c2:chN l p=41
 ·have e:Ck p (l.getD p 0::l.drop (p+1))=(⟨2,[41],p⟩,true):=by rw[Ck,hcc,if_neg c1,if_pos c2]
  rw[e] at Eb;rcases Eb with⟨h,_⟩|⟨r,_,er,hr⟩
  ·cases h
  simp only[List.length_singleton] at hr;have Bh:R1.length=dn.length+(r.length+1):=by rw[r1,er];simp only[q_jr,q_jk,List.length_nil]<;>omega
  rcases dn with _|⟨d,dn⟩
  ·rw[Nv];simp only[go_sem,seval,Cq,f0,f1,hp,c2,pw];refine⟨([⟨2,[41],p⟩],p+1),⟨by simp only;omega,r,by simp[r1,er],by simp only;omega,hr⟩,?_⟩;rw[Hu];simp only[q_h,q_kt,q_i,De,q_jr,q_jk,List.length_nil,q_g,q_jg]
   first|exact Bv (by simp[Bm])|exact Fx 2 (by simp[Bm]) (by simp) (by simp[Dm]) (by simp)
  ·rw[Hu];rw[q_jk] at Bh;simp only[go_sem,seval,Cq,f0,f1,hp,c2,pw];refine⟨⟨by simp,by omega,by omega⟩,?_⟩
   try simp only[go_sem,seval,pw]
   refine⟨((d::(dn++[⟨2,[41],p⟩])),p+1),⟨by simp only;omega,r,by simp[r1,er],by simp only;omega,hr⟩,?_⟩;rw[Hu];simp only[q_h,q_kt,q_i,De,q_jr,q_jk,List.length_nil,q_g,q_jg]
   first|exact Bv (by simp[Bm])|exact Fx 2 (by simp[Bm]) (by simp) (by simp[Dm]) (by simp)
 have n5:=Ka c1;have n6:=Ka c2;simp only[Int.cast_ofNat_Int] at n5 n6;cases c3:Ge (chN l p);rotate_left
 ·obtain⟨w,hw⟩:∃w,w=(l.drop (p+1)).takeWhile j8:=⟨_,rfl⟩
  obtain⟨t1,t2,t3,t4,t5⟩:=Xh hp hw;have e:Ck p (l.getD p 0::l.drop (p+1))=(⟨3,l.getD p 0::w,p⟩,decide (w.length<20)):=by rw[Ck,hcc,if_neg c1,if_neg c2,if_pos c3,<-hw]
  rw[e,<-t4] at Eb;simp only[q_kf,q_kg] at Eb;generalize hE:p+1+w.length=E at t1 t2 t3;have g7:E-p=1+w.length:=by omega
  rw[show p+min (1+w.length) (l.length-p)=E by omega] at Eb;have hin:∀a,p<=a->a<E->(Ge (chN l a) || Fv (chN l a))=true:=fun a h1 h2=>by
   by_cases Oh:a=p
   ·subst Oh;rw[c3];rfl
   ·exact t2 a (by omega) h2
  rcases dn with _|⟨d,dn⟩
  ·rw[Nv];simp only[go_sem,seval,Cq,f0,f1,hp,n1,n2,n3,n4,n5,n6];refine Ag (Lr _) ?_;rw[c3];simp only[go_sem,seval];refine Hv (fun a:Nat=>⟨(.str (bs l)::.J::.nils::.int .i64 0::.nils::.int .i64 p::.J::.int .i64 a::Cm (Cm (Cm (Cm (Ef (jk2 ([]))))))),[]⟩) (fun a=>E-a) (fun a=>p<=a/\a<=E) (fun a ha=>?_) p ⟨by omega,by omega⟩ (Bv (by simp[Bm]))
   by_cases hq:a<E
   ·have hc2:=hin a ha.1 hq;have g0:(0:Int)<=(a:Int):=by omega
    have g1:(a:Int)<(l.length:Int):=by omega
    have g2:a<l.length:=by omega
    have aw:IntKind.i64.wrap ((a:Int)+1)=((a+1:Nat):Int):=by rw[w64 (by unfold fit;omega)];omega
    simp only[go_sem,seval,Cq,g0,g1,g2];refine Ag (Lr _) ?_;cases h1:Ge (chN l a)
    ·rw[h1,Bool.false_or] at hc2;simp only[go_sem,seval,Cq,g0,g1,g2];refine Ag (Na _) ?_;simp only[go_sem,seval,hc2,aw];exact⟨a+1,⟨by omega,by omega⟩,Bv (by simp[Bm])⟩
    ·simp only[go_sem,seval,aw];exact⟨a+1,⟨by omega,by omega⟩,Bv (by simp[Bm])⟩
   have Og:a=E:=by omega
   subst Og;have g1:(p:Int)<=(a:Int):=by omega
   have g2:(a:Int)<=(l.length:Int):=by omega
   have g3:(0:Int)<=(a:Int):=by omega
   have g4:p<=a:=by omega
   have g5:a<=l.length:=by omega
   by_cases Am:a<l.length
   ·have hc2:(Ge (chN l a) || Fv (chN l a))=false:=t3 Am;rw[q_ky] at hc2;have f3:(a:Int)<(l.length:Int):=by omega
    simp only[go_sem,seval,Cq,g3,f3,Am];refine Ag (Lr _) ?_;rw[hc2.1];simp only[go_sem,seval,Cq,g3,f3,Am];refine Ag (Na _) ?_;rw[hc2.2]
    by_cases Oe:w.length<20
    ·rcases Eb with⟨h,_⟩|⟨r,_,er,hr⟩
     ·exact absurd Oe (by simpa using h)
     have Bh:R1.length=([]:List Tok).length+(r.length+1):=by rw[r1,er];simp only[q_jr,q_jk,List.length_nil]<;>omega
     have g6:¬IntKind.i64.wrap ((a:Int)-p) > 20:=by rw[w64 (by unfold fit;omega)];omega
     have g8:¬20<IntKind.i64.wrap ((a:Int)-p):=by rw[w64 (by unfold fit;omega)];omega
     simp only[go_sem,seval,f0,g1,g2,g3,g4,g5,g6,g7,g8];refine⟨([⟨3,(l.drop p).take (1+w.length),p⟩],a),⟨by simp only;omega,r,by simp[r1,er],by simp only;omega,hr⟩,?_⟩;rw[Hu];simp only[q_h,q_kt,q_i,De,q_jr,q_jk,List.length_nil,q_g,q_jg]
     first|exact Bv (by simp[Bm])|exact Fx 2 (by simp[Bm]) (by simp) (by simp[Dm]) (by simp)
    ·rcases Eb with⟨_,er,rfl⟩|⟨r,h,_⟩
     rotate_left
     ·exact absurd (by simpa using h) Oe
     subst er;rw[q_k] at r1;subst r1;have g6:IntKind.i64.wrap ((a:Int)-p) > 20:=by rw[w64 (by unfold fit;omega)];omega
     have g8:20<IntKind.i64.wrap ((a:Int)-p):=by rw[w64 (by unfold fit;omega)];omega
     simp only[go_sem,seval,f0,g1,g2,g3,g4,g5,g6,g7,g8]
     first|done|rfl|(rw[q_js (by simp)];first|done|rfl)
   ·have f3:¬(a:Int)<(l.length:Int):=by omega
    simp only[go_sem,seval,f3]
    by_cases Oe:w.length<20
    ·rcases Eb with⟨h,_⟩|⟨r,_,er,hr⟩
     ·exact absurd Oe (by simpa using h)
     have Bh:R1.length=([]:List Tok).length+(r.length+1):=by rw[r1,er];simp only[q_jr,q_jk,List.length_nil]<;>omega
     have g6:¬IntKind.i64.wrap ((a:Int)-p) > 20:=by rw[w64 (by unfold fit;omega)];omega
     have g8:¬20<IntKind.i64.wrap ((a:Int)-p):=by rw[w64 (by unfold fit;omega)];omega
     simp only[go_sem,seval,f0,g1,g2,g3,g4,g5,g6,g7,g8];refine⟨([⟨3,(l.drop p).take (1+w.length),p⟩],a),⟨by simp only;omega,r,by simp[r1,er],by simp only;omega,hr⟩,?_⟩;rw[Hu];simp only[q_h,q_kt,q_i,De,q_jr,q_jk,List.length_nil,q_g,q_jg]
     first|exact Bv (by simp[Bm])|exact Fx 2 (by simp[Bm]) (by simp) (by simp[Dm]) (by simp)
    ·rcases Eb with⟨_,er,rfl⟩|⟨r,h,_⟩
     rotate_left
     ·exact absurd (by simpa using h) Oe
     subst er;rw[q_k] at r1;subst r1;have g6:IntKind.i64.wrap ((a:Int)-p) > 20:=by rw[w64 (by unfold fit;omega)];omega
     have g8:20<IntKind.i64.wrap ((a:Int)-p):=by rw[w64 (by unfold fit;omega)];omega
     simp only[go_sem,seval,f0,g1,g2,g3,g4,g5,g6,g7,g8]
     first|done|rfl|(rw[q_js (by simp)];first|done|rfl)
  ·rw[Hu];simp only[go_sem,seval,Cq,f0,f1,hp,n1,n2,n3,n4,n5,n6];refine Ag (Lr _) ?_;rw[c3];simp only[go_sem,seval];refine Hv (fun a:Nat=>⟨(.str (bs l)::.J::.nils::.int .i64 0::.osl 1 dn.length 0 (dn.length+1)::.int .i64 p::.J::.int .i64 a::Cm (Cm (Cm (Cm (Ef (jk2 ([]))))))),[⟨false,3,[De d],0,0,true⟩,⟨false,3,(d::dn).map De,dn.length,dn.length,true⟩]⟩) (fun a=>E-a) (fun a=>p<=a/\a<=E) (fun a ha=>?_) p ⟨by omega,by omega⟩ (Bv (by simp[Bm]))
   by_cases hq:a<E
   ·have hc2:=hin a ha.1 hq;have g0:(0:Int)<=(a:Int):=by omega
    have g1:(a:Int)<(l.length:Int):=by omega
    have g2:a<l.length:=by omega
    have aw:IntKind.i64.wrap ((a:Int)+1)=((a+1:Nat):Int):=by rw[w64 (by unfold fit;omega)];omega
    simp only[go_sem,seval,Cq,g0,g1,g2];refine Ag (Lr _) ?_;cases h1:Ge (chN l a)
    ·rw[h1,Bool.false_or] at hc2;simp only[go_sem,seval,Cq,g0,g1,g2];refine Ag (Na _) ?_;simp only[go_sem,seval,hc2,aw];exact⟨a+1,⟨by omega,by omega⟩,Bv (by simp[Bm])⟩
    ·simp only[go_sem,seval,aw];exact⟨a+1,⟨by omega,by omega⟩,Bv (by simp[Bm])⟩
   have Og:a=E:=by omega
   subst Og;have g1:(p:Int)<=(a:Int):=by omega
   have g2:(a:Int)<=(l.length:Int):=by omega
   have g3:(0:Int)<=(a:Int):=by omega
   have g4:p<=a:=by omega
   have g5:a<=l.length:=by omega
   by_cases Am:a<l.length
   ·have hc2:(Ge (chN l a) || Fv (chN l a))=false:=t3 Am;rw[q_ky] at hc2;have f3:(a:Int)<(l.length:Int):=by omega
    simp only[go_sem,seval,Cq,g3,f3,Am];refine Ag (Lr _) ?_;rw[hc2.1];simp only[go_sem,seval,Cq,g3,f3,Am];refine Ag (Na _) ?_;rw[hc2.2]
    by_cases Oe:w.length<20
    ·rcases Eb with⟨h,_⟩|⟨r,_,er,hr⟩
     ·exact absurd Oe (by simpa using h)
     have Bh:R1.length=(d::dn).length+(r.length+1):=by rw[r1,er];simp only[q_jr,q_jk,List.length_nil]<;>omega
     rw[q_jk] at Bh;have g6:¬IntKind.i64.wrap ((a:Int)-p) > 20:=by rw[w64 (by unfold fit;omega)];omega
     have g8:¬20<IntKind.i64.wrap ((a:Int)-p):=by rw[w64 (by unfold fit;omega)];omega
     simp only[go_sem,seval,f0,g1,g2,g3,g4,g5,g6,g7,g8];refine⟨⟨by simp,by omega,by omega⟩,?_⟩
     try simp only[go_sem,seval,pw]
     refine⟨((d::(dn++[⟨3,(l.drop p).take (1+w.length),p⟩])),a),⟨by simp only;omega,r,by simp[r1,er],by simp only;omega,hr⟩,?_⟩;rw[Hu];simp only[q_h,q_kt,q_i,De,q_jr,q_jk,List.length_nil,q_g,q_jg]
     first|exact Bv (by simp[Bm])|exact Fx 2 (by simp[Bm]) (by simp) (by simp[Dm]) (by simp)
    ·rcases Eb with⟨_,er,rfl⟩|⟨r,h,_⟩
     rotate_left
     ·exact absurd (by simpa using h) Oe
     subst er;rw[q_k] at r1;subst r1;have g6:IntKind.i64.wrap ((a:Int)-p) > 20:=by rw[w64 (by unfold fit;omega)];omega
     have g8:20<IntKind.i64.wrap ((a:Int)-p):=by rw[w64 (by unfold fit;omega)];omega
     simp only[go_sem,seval,f0,g1,g2,g3,g4,g5,g6,g7,g8]
     first|done|rfl|(rw[q_js (by simp)];first|done|rfl)
   ·have f3:¬(a:Int)<(l.length:Int):=by omega
    simp only[go_sem,seval,f3]
    by_cases Oe:w.length<20
    ·rcases Eb with⟨h,_⟩|⟨r,_,er,hr⟩
     ·exact absurd Oe (by simpa using h)
     have Bh:R1.length=(d::dn).length+(r.length+1):=by rw[r1,er];simp only[q_jr,q_jk,List.length_nil]<;>omega
     rw[q_jk] at Bh;have g6:¬IntKind.i64.wrap ((a:Int)-p) > 20:=by rw[w64 (by unfold fit;omega)];omega
     have g8:¬20<IntKind.i64.wrap ((a:Int)-p):=by rw[w64 (by unfold fit;omega)];omega
     simp only[go_sem,seval,f0,g1,g2,g3,g4,g5,g6,g7,g8];refine⟨⟨by simp,by omega,by omega⟩,?_⟩
     try simp only[go_sem,seval,pw]
     refine⟨((d::(dn++[⟨3,(l.drop p).take (1+w.length),p⟩])),a),⟨by simp only;omega,r,by simp[r1,er],by simp only;omega,hr⟩,?_⟩;rw[Hu];simp only[q_h,q_kt,q_i,De,q_jr,q_jk,List.length_nil,q_g,q_jg]
     first|exact Bv (by simp[Bm])|exact Fx 2 (by simp[Bm]) (by simp) (by simp[Dm]) (by simp)
    ·rcases Eb with⟨_,er,rfl⟩|⟨r,h,_⟩
     rotate_left
     ·exact absurd (by simpa using h) Oe
     subst er;rw[q_k] at r1;subst r1;have g6:IntKind.i64.wrap ((a:Int)-p) > 20:=by rw[w64 (by unfold fit;omega)];omega
     have g8:20<IntKind.i64.wrap ((a:Int)-p):=by rw[w64 (by unfold fit;omega)];omega
     simp only[go_sem,seval,f0,g1,g2,g3,g4,g5,g6,g7,g8]
     first|done|rfl|(rw[q_js (by simp)];first|done|rfl)
 cases c4:Fv (chN l p)
 ·have e:Ck p (l.getD p 0::l.drop (p+1))=(⟨0,[],0⟩,false):=by rw[Ck,hcc,if_neg c1,if_neg c2,c3,c4];rfl
  rw[e] at Eb;rcases Eb with⟨_,er,rfl⟩|⟨r,h,_⟩
  rotate_left
  ·cases h
  subst er;rw[q_k] at r1;subst r1;rcases R1 with _|⟨d,dn⟩
  ·rw[Nv];simp only[go_sem,seval,Cq,f0,f1,hp,n1,n2,n3,n4,n5,n6];refine Ag (Lr _) ?_;rw[c3];simp only[go_sem,seval,Cq,f0,f1,hp];refine Ag (Na _) ?_;rw[c4];simp only[go_sem,seval]
   first|done|rfl|(rw[q_js (by simp)];first|done|rfl)
  ·rw[Hu];simp only[go_sem,seval,Cq,f0,f1,hp,n1,n2,n3,n4,n5,n6];refine Ag (Lr _) ?_;rw[c3];simp only[go_sem,seval,Cq,f0,f1,hp];refine Ag (Na _) ?_;rw[c4];simp only[go_sem,seval]
   first|done|rfl|(rw[q_js (by simp)];first|done|rfl)
 ·obtain⟨w,hw⟩:∃w,w=(l.drop (p+1)).takeWhile Gs:=⟨_,rfl⟩
  obtain⟨t1,t2,t3,t4,t5⟩:=Xh hp hw;have e:Ck p (l.getD p 0::l.drop (p+1))=(⟨4,l.getD p 0::w,p⟩,(Do (l.getD p 0::w)).isSome && (match l.drop (p+1+w.length) with|[]=>true|d::_=>!Ge d.toNat)):=by rw[Ck,hcc,if_neg c1,if_neg c2,c3,c4,<-hw,t5];rfl
  rw[e,<-t4] at Eb;have cg:=Ag1 ((l.drop p).take (1+w.length));simp only[q_kf,q_kg] at Eb;generalize hE:p+1+w.length=E at t1 t2 t3 Eb;have g7:E-p=1+w.length:=by omega
  rw[show p+min (1+w.length) (l.length-p)=E by omega] at Eb;have hin:∀a,p<=a->a<E->Fv (chN l a)=true:=fun a h1 h2=>by
   by_cases Oh:a=p
   ·subst Oh;exact c4
   ·exact t2 a (by omega) h2
  rcases dn with _|⟨d,dn⟩
  ·rw[Nv];simp only[go_sem,seval,Cq,f0,f1,hp,n1,n2,n3,n4,n5,n6];refine Ag (Lr _) ?_;rw[c3];simp only[go_sem,seval,Cq,f0,f1,hp];refine Ag (Na _) ?_;rw[c4];simp only[go_sem,seval];refine Hv (fun a:Nat=>⟨(.str (bs l)::.J::.nils::.int .i64 0::.nils::.int .i64 p::.J::.int .i64 a::Cm (Cm (Cm (Cm (Ef (jk2 ([]))))))),[]⟩) (fun a=>E-a) (fun a=>p<=a/\a<=E) (fun a ha=>?_) p ⟨by omega,by omega⟩ (Bv (by simp[Bm]))
   by_cases hq:a<E
   ·have hc2:=hin a ha.1 hq;have g0:(0:Int)<=(a:Int):=by omega
    have g1:(a:Int)<(l.length:Int):=by omega
    have g2:a<l.length:=by omega
    have aw:IntKind.i64.wrap ((a:Int)+1)=((a+1:Nat):Int):=by rw[w64 (by unfold fit;omega)];omega
    simp only[go_sem,seval,Cq,g0,g1,g2];refine Ag (Na _) ?_;simp only[go_sem,seval,hc2,aw];exact⟨a+1,⟨by omega,by omega⟩,Bv (by simp[Bm])⟩
   have Og:a=E:=by omega
   subst Og;have g1:(p:Int)<=(a:Int):=by omega
   have g2:(a:Int)<=(l.length:Int):=by omega
   have g3:(0:Int)<=(a:Int):=by omega
   have g4:p<=a:=by omega
   have g5:a<=l.length:=by omega
   by_cases Am:a<l.length
   ·have hc:Fv (chN l a)=false:=t3 Am;have f3:(a:Int)<(l.length:Int):=by omega
    have hm:(match l.drop a with|[]=>true|d::_=>!Ge d.toNat)=!Ge (chN l a):=by rw[Kf Am];rfl
    rw[hm] at Eb;simp only[go_sem,seval,Cq,g3,f3,Am];refine Ag (Na _) ?_;rw[hc];simp only[go_sem,seval,f0,g1,g2,g3,g4,g5,g7];refine Ag cg ?_;cases hb:(Do ((l.drop p).take (1+w.length))).isSome
    ·rw[hb,q_lf] at Eb;rcases Eb with⟨_,er,rfl⟩|⟨r,h,_⟩
     rotate_left
     ·cases h
     subst er;rw[q_k] at r1;subst r1;simp only[go_sem,seval,Cq,f0,f1,g1,g2,g3,g4,g5,g7,Am,f3]
     first|done|rfl|(rw[q_js (by simp)];first|done|rfl)
    ·rw[hb,q_ld] at Eb;cases hl2:Ge (chN l a)
     ·rw[hl2] at Eb;rcases Eb with⟨h,_⟩|⟨r,_,er,hr⟩
      ·cases h
      have Bh:R1.length=([]:List Tok).length+(r.length+1):=by rw[r1,er];simp only[q_jr,q_jk,List.length_nil]<;>omega
      simp only[go_sem,seval,Cq,f0,f1,g1,g2,g3,g4,g5,g7,Am,f3];refine Ag (Lr _) ?_;rw[hl2];simp only[go_sem,seval,Cq,f0,f1,g1,g2,g3,g4,g5,g7,Am,f3];refine⟨([⟨4,(l.drop p).take (1+w.length),p⟩],a),⟨by simp only;omega,r,by simp[r1,er],by simp only;omega,hr⟩,?_⟩;rw[Hu];simp only[q_h,q_kt,q_i,De,q_jr,q_jk,List.length_nil,q_g,q_jg]
      first|exact Bv (by simp[Bm])|exact Fx 2 (by simp[Bm]) (by simp) (by simp[Dm]) (by simp)
     ·rw[hl2] at Eb;rcases Eb with⟨_,er,rfl⟩|⟨r,h,_⟩
      rotate_left
      ·cases h
      subst er;rw[q_k] at r1;subst r1;simp only[go_sem,seval,Cq,f0,f1,g1,g2,g3,g4,g5,g7,Am,f3];refine Ag (Lr _) ?_;rw[hl2];simp only[go_sem,seval,Cq,f0,f1,g1,g2,g3,g4,g5,g7,Am,f3]
      first|done|rfl|(rw[q_js (by simp)];first|done|rfl)
   ·have f3:¬(a:Int)<(l.length:Int):=by omega
    have hm:(match l.drop a with|[]=>true|d::_=>!Ge d.toNat)=true:=by rw[Qj Am]
    rw[hm] at Eb;simp only[go_sem,seval,f3,f0,g1,g2,g3,g4,g5,g7];refine Ag cg ?_;cases hb:(Do ((l.drop p).take (1+w.length))).isSome
    ·rw[hb,q_lf] at Eb;rcases Eb with⟨_,er,rfl⟩|⟨r,h,_⟩
     rotate_left
     ·cases h
     subst er;rw[q_k] at r1;subst r1;simp only[go_sem,seval,Cq,f0,f1,g1,g2,g3,g4,g5,g7,Am,f3]
     first|done|rfl|(rw[q_js (by simp)];first|done|rfl)
    ·rw[hb,q_ld] at Eb;rcases Eb with⟨h,_⟩|⟨r,_,er,hr⟩
     ·cases h
     have Bh:R1.length=([]:List Tok).length+(r.length+1):=by rw[r1,er];simp only[q_jr,q_jk,List.length_nil]<;>omega
     simp only[go_sem,seval,Cq,f0,f1,g1,g2,g3,g4,g5,g7,Am,f3];refine⟨([⟨4,(l.drop p).take (1+w.length),p⟩],a),⟨by simp only;omega,r,by simp[r1,er],by simp only;omega,hr⟩,?_⟩;rw[Hu];simp only[q_h,q_kt,q_i,De,q_jr,q_jk,List.length_nil,q_g,q_jg]
     first|exact Bv (by simp[Bm])|exact Fx 2 (by simp[Bm]) (by simp) (by simp[Dm]) (by simp)
  ·rw[Hu];simp only[go_sem,seval,Cq,f0,f1,hp,n1,n2,n3,n4,n5,n6];refine Ag (Lr _) ?_;rw[c3];simp only[go_sem,seval,Cq,f0,f1,hp];refine Ag (Na _) ?_;rw[c4];simp only[go_sem,seval];refine Hv (fun a:Nat=>⟨(.str (bs l)::.J::.nils::.int .i64 0::.osl 1 dn.length 0 (dn.length+1)::.int .i64 p::.J::.int .i64 a::Cm (Cm (Cm (Cm (Ef (jk2 ([]))))))),[⟨false,3,[De d],0,0,true⟩,⟨false,3,(d::dn).map De,dn.length,dn.length,true⟩]⟩) (fun a=>E-a) (fun a=>p<=a/\a<=E) (fun a ha=>?_) p ⟨by omega,by omega⟩ (Bv (by simp[Bm]))
   by_cases hq:a<E
   ·have hc2:=hin a ha.1 hq;have g0:(0:Int)<=(a:Int):=by omega
    have g1:(a:Int)<(l.length:Int):=by omega
    have g2:a<l.length:=by omega
    have aw:IntKind.i64.wrap ((a:Int)+1)=((a+1:Nat):Int):=by rw[w64 (by unfold fit;omega)];omega
    simp only[go_sem,seval,Cq,g0,g1,g2];refine Ag (Na _) ?_;simp only[go_sem,seval,hc2,aw];exact⟨a+1,⟨by omega,by omega⟩,Bv (by simp[Bm])⟩
   have Og:a=E:=by omega
   subst Og;have g1:(p:Int)<=(a:Int):=by omega
   have g2:(a:Int)<=(l.length:Int):=by omega
   have g3:(0:Int)<=(a:Int):=by omega
   have g4:p<=a:=by omega
   have g5:a<=l.length:=by omega
   by_cases Am:a<l.length
   ·have hc:Fv (chN l a)=false:=t3 Am;have f3:(a:Int)<(l.length:Int):=by omega
    have hm:(match l.drop a with|[]=>true|d::_=>!Ge d.toNat)=!Ge (chN l a):=by rw[Kf Am];rfl
    rw[hm] at Eb;simp only[go_sem,seval,Cq,g3,f3,Am];refine Ag (Na _) ?_;rw[hc];simp only[go_sem,seval,f0,g1,g2,g3,g4,g5,g7];refine Ag cg ?_;cases hb:(Do ((l.drop p).take (1+w.length))).isSome
    ·rw[hb,q_lf] at Eb;rcases Eb with⟨_,er,rfl⟩|⟨r,h,_⟩
     rotate_left
     ·cases h
     subst er;rw[q_k] at r1;subst r1;simp only[go_sem,seval,Cq,f0,f1,g1,g2,g3,g4,g5,g7,Am,f3]
     first|done|rfl|(rw[q_js (by simp)];first|done|rfl)
    ·rw[hb,q_ld] at Eb;cases hl2:Ge (chN l a)
     ·rw[hl2] at Eb;rcases Eb with⟨h,_⟩|⟨r,_,er,hr⟩
      ·cases h
      have Bh:R1.length=(d::dn).length+(r.length+1):=by rw[r1,er];simp only[q_jr,q_jk,List.length_nil]<;>omega
      rw[q_jk] at Bh;simp only[go_sem,seval,Cq,f0,f1,g1,g2,g3,g4,g5,g7,Am,f3];refine Ag (Lr _) ?_;rw[hl2];simp only[go_sem,seval,Cq,f0,f1,g1,g2,g3,g4,g5,g7,Am,f3];refine⟨⟨by simp,by omega,by omega⟩,?_⟩
      try simp only[go_sem,seval,pw]
      refine⟨((d::(dn++[⟨4,(l.drop p).take (1+w.length),p⟩])),a),⟨by simp only;omega,r,by simp[r1,er],by simp only;omega,hr⟩,?_⟩;rw[Hu];simp only[q_h,q_kt,q_i,De,q_jr,q_jk,List.length_nil,q_g,q_jg]
      first|exact Bv (by simp[Bm])|exact Fx 2 (by simp[Bm]) (by simp) (by simp[Dm]) (by simp)
     ·rw[hl2] at Eb;rcases Eb with⟨_,er,rfl⟩|⟨r,h,_⟩
      rotate_left
      ·cases h
      subst er;rw[q_k] at r1;subst r1;simp only[go_sem,seval,Cq,f0,f1,g1,g2,g3,g4,g5,g7,Am,f3];refine Ag (Lr _) ?_;rw[hl2];simp only[go_sem,seval,Cq,f0,f1,g1,g2,g3,g4,g5,g7,Am,f3]
      first|done|rfl|(rw[q_js (by simp)];first|done|rfl)
   ·have f3:¬(a:Int)<(l.length:Int):=by omega
    have hm:(match l.drop a with|[]=>true|d::_=>!Ge d.toNat)=true:=by rw[Qj Am]
    rw[hm] at Eb;simp only[go_sem,seval,f3,f0,g1,g2,g3,g4,g5,g7];refine Ag cg ?_;cases hb:(Do ((l.drop p).take (1+w.length))).isSome
    ·rw[hb,q_lf] at Eb;rcases Eb with⟨_,er,rfl⟩|⟨r,h,_⟩
     rotate_left
     ·cases h
     subst er;rw[q_k] at r1;subst r1;simp only[go_sem,seval,Cq,f0,f1,g1,g2,g3,g4,g5,g7,Am,f3]
     first|done|rfl|(rw[q_js (by simp)];first|done|rfl)
    ·rw[hb,q_ld] at Eb;rcases Eb with⟨h,_⟩|⟨r,_,er,hr⟩
     ·cases h
     have Bh:R1.length=(d::dn).length+(r.length+1):=by rw[r1,er];simp only[q_jr,q_jk,List.length_nil]<;>omega
     rw[q_jk] at Bh;simp only[go_sem,seval,Cq,f0,f1,g1,g2,g3,g4,g5,g7,Am,f3];refine⟨⟨by simp,by omega,by omega⟩,?_⟩
     try simp only[go_sem,seval,pw]
     refine⟨((d::(dn++[⟨4,(l.drop p).take (1+w.length),p⟩])),a),⟨by simp only;omega,r,by simp[r1,er],by simp only;omega,hr⟩,?_⟩;rw[Hu];simp only[q_h,q_kt,q_i,De,q_jr,q_jk,List.length_nil,q_g,q_jg]
     first|exact Bv (by simp[Bm])|exact Fx 2 (by simp[Bm]) (by simp) (by simp[Dm]) (by simp)
end Go.Proofs.YtgfehkhcmnfpaaaGreatDoor.Abs
