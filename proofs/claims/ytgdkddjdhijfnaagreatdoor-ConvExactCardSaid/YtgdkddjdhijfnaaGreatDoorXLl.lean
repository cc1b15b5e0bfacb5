import Derived.Test.YtgdkddjdhijfnaaGreatDoorXDo
import Derived.Test.YtgdkddjdhijfnaaGreatDoorXTz
import Derived.Test.YtgdkddjdhijfnaaGreatDoorXTi
import Derived.Test.YtgdkddjdhijfnaaGreatDoorXFg
import Derived.Test.YtgdkddjdhijfnaaGreatDoorXMb
import Derived.Test.YtgdkddjdhijfnaaGreatDoorXEv
import Derived.Test.YtgdkddjdhijfnaaGreatDoorProg
import Derived.KernelRfl
import Derived.Test.YtgdkddjdhijfnaaGreatDoorXYg
import Derived.Test.YtgdkddjdhijfnaaGreatDoorXMf
import Derived.Test.YtgdkddjdhijfnaaGreatDoorXAfK
import Derived.Test.YtgdkddjdhijfnaaGreatDoorXVc
import Derived.Test.YtgdkddjdhijfnaaGreatDoorXPc
import Derived.Test.YtgdkddjdhijfnaaGreatDoorXAby
import Derived.Handed
set_option linter.all false
set_option maxRecDepth 20000
set_option maxHeartbeats 4000000
namespace Go.Proofs.YtgdkddjdhijfnaaGreatDoor.Abs
open Go Go.RowKit
def GRow.swap{m m':Mem}{w:World}{b:Nat}{row:List SV}(h:GRow m w b row)(hc:m'.c=m.c)(hp:∀b,m.p b->m'.p b)(hn:∀x∈row,NoG x):GRow m' w b row:=by
 cases h with
 |cells _ c e h1 h2 h3 h4=>exact .cells _ c e h1 h2 (fun k v x hv hx=>⟨(h3 k v x hv hx).1.swap hc hp (hn x (q_jb hx)),(h3 k v x hv hx).2⟩) h4
 |map es k l=>have:=hn .undef (by simp[It]);cases this
def Ba0{E:Env}{vs:List Value}{args:List SV}{k:Nat}(Av:vs.length=args.length)(Cm:∀(j:Nat) v x,vs[j]?=some v->args[j]?=some x->RelV E v x)(i:Nat) :
  RelV E ((vs.toArray++Array.replicate (k-vs.toArray.size) undef).getD i undef) ((args++List.replicate (k-args.length) SV.undef).getD i .undef):=by
 rcases q_jo i vs.length with hi|hi
 ·have h1:(vs.toArray++Array.replicate (k-vs.toArray.size) undef).getD i undef=vs[i]:=by
   rw[Array.getD_eq_getD_getElem?,Array.getElem?_append_left (by simpa using hi)];simp[hi]
  have h2:(args++List.replicate (k-args.length) SV.undef).getD i .undef=args[i]'(by omega):=by
   rw[q_j,q_jf (by omega),q_f (by omega)];rfl
  rw[h1,h2];exact Cm i _ _ (q_f hi) (q_f (by omega))
 ·have h1:(vs.toArray++Array.replicate (k-vs.toArray.size) undef).getD i undef=undef:=by
   rw[Array.getD_eq_getD_getElem?,Array.getElem?_append_right (by simpa using hi)];simp only[Array.getElem?_replicate];split<;>rfl
  have h2:(args++List.replicate (k-args.length) SV.undef).getD i .undef=.undef:=by
   rw[q_j,q_jj (by omega),List.getElem?_replicate];split<;>rfl
  rw[h1,h2];exact .undef
def Ih(row:List SV)(cl:Bool):Ob:={ box:=true,sz:=row.length,els:=[row],frz:=0,gen:=777,cl:=cl }
def Pin (bt:Nat)(E:Env):Prop:=∃ob,E.H 1=some ob/\777<=ob.gen/\(ob.gen=777->E.β 1=bt)
instance stb_pin (bt:Nat):Nonempty (StB (Pin bt)):=⟨⟨fun E E' h ⟨ob,h1,h2,h3⟩=>by
  obtain⟨ob',k1,_,k3,k4⟩:=h.H 1 ob h1;exact⟨ob',k1,by omega,fun e=>by rw[(k4 (by omega)).1];exact h3 (by omega)⟩,fun E E' h hb ⟨ob,h1,h2,h3⟩=>⟨ob,h 1 ob h1 h2,h2,fun e=>by rw[hb];exact h3 e⟩⟩⟩
def Afq(rs:List AR)(G':GV)(row':List SV)(s:St):Prop:=
 match Km s rs with
 |some (p,[],h)=>p/\gOf h=some G'/\∃r1 cl h2,h[1]?=some (Ih r1 cl)/\0<r1.length/\De h (.agg false r1)=some (.agg true row',h2)/\h2[1]?=h[1]?
 |_=>False
def rtL(rs:List AR)(G':GV)(row':List SV):AE->St->Prop:=fun e s=>match e with|.exit _=>False|_=>Afq rs G' row' s
def Aux(C:CT)(f:AF)(R:List SV)(G:GV)(row:List SV)(G':GV)(row':List SV):Prop:=
 vc C f.body (rtL f.res G' row') { sl:=[.gp 0 0,.ref 1 777 0 0]++List.replicate (f.ntmps-2) .undef,hp:=[gOb (R::G),Ih row true] }
def A9s{P:Program}{f:Nat}{fn:Func}{af:AF}{R R' row row':List SV}{G D:GV}(hm:P.follows .mixedOrders=true)(hf:P.funcs[f]?=some fn)(htr:trF P fn=some af)
  (hn:∀r∈R::(G++[row]),∀x∈r,NoG x) (Ja:∀r∈R'::(G++D),∀x∈r,NoG x) (Fu:∀x∈row',NoG x) (Jz:0<row.length)
  (h:Aux (Bp P fun _ _=>False) af R G row (R'::(G++D)) row'):HContract P f (R::(G++[row])) [.gp 0 0,.gp (G.length+1) 0] (.ret (.tup [])) (R'::(G++row'::D)):=by
 intro m w vs hmem hsat Av Cm;unfold trF at htr;split at htr;rotate_left
 ·cases htr
 rename_i c hb;simp only[q_c,q_a,q_d,q_b] at htr;obtain⟨ars,Mb,ac,Qw,rfl⟩:=htr
 match vs,Av with
 |[v0,v1],_=>
 have r0:=Cm 0 v0 _ rfl rfl;have r1:=Cm 1 v1 _ rfl rfl;cases r0 with
 |gp _ _ b0 d0 p0=>
 cases r1 with
 |gp _ _ bt dt pt=>
 have Adx:(R::(G++[row]))[G.length+1]?=some row:=by simp
 have hlenG:(R::(G++[row])).length=G.length+2:=by simp
 have Cc:=hsat.row _ _ _ Adx dt;have Ap4:∀x∈row,NoG x:=hn row (by simp);cases Cc with
 |map es k l=>have:=Ap4 .undef (by simp[It]);cases this
 |cells _ cb eb Pk Bi hcells honeAll=>
 let own:Nat->Prop:=fun b=>∃i,m.d i=some b
 let m1:Mem:=⟨m.c,fun i=>if i<G.length+1 then m.d i else none,m.p,fun i j b hi hj=>by
  split at hi
  ·split at hj
   ·exact m.inj i j b hi hj
   ·cases hj
  ·cases hi⟩
 have Es:∀i b,m1.d i=some b->i<G.length+1/\m.d i=some b:=fun i b hi=>by
  simp only[m1] at hi;split at hi
  ·exact⟨‹_›,hi⟩
  ·cases hi
 have Aaq:∀i b,i<G.length+1->m.d i=some b->m1.d i=some b:=fun i b hi hd=>by simp only[m1,if_pos hi];exact hd
 let E0:Env:={ m:=m1,m0:=m1,H:=fun o=>if o=1 then some (Ih row true) else none,β:=fun _=>bt,t:=fun o=>if o=1 then cb.size else 0 }
 have hH0:∀o ob,E0.H o=some ob->o=1/\ob=Ih row true:=fun o ob ho=>by
  simp only[E0] at ho;split at ho
  ·cases ho;exact⟨‹_›,rfl⟩
  ·cases ho
 have Ao8:∀(k:Nat) (v:Value) (x:SV),cb[k]?=some v->row[k]?=some x->Rep m1 v x:=fun k v x hv hx=>(hcells k v x hv hx).1.swap (m:=m) (m':=m1) rfl (fun _ h=>h) (Ap4 x (q_jb hx))
 have hW:W w own E0 w:=by
  refine⟨rfl,rfl,rfl,q_ja _,fun _ _ _=>rfl,hmem.1,fun o ob ho=>?_,fun o o' ob ob' h1 h2 Bn=>?_,fun _ _ _ _=>rfl,hmem.2⟩
  ·obtain⟨rfl,rfl⟩:=hH0 o ob ho;refine⟨by simp[Ih],by simp[Ih],by simpa [Ih,E0] using Bi,fun _=>by simp[Ih],by simp[Ih],fun _=>⟨cb,eb,⟨Pk,by simp[E0],.inr ⟨_,dt⟩,fun k v x hv hx=>.rep _ _ (Ao8 k v x hv (by simpa [Ih] using hx)),honeAll,fun k hk=>by simp[Ih] at hk,fun k _=>hsat.free _ _ k dt,fun _ k v x hv hx=>Ao8 k v x hv (by simpa [Ih] using hx),pt⟩⟩⟩
  ·exact absurd ((hH0 _ _ h1).1.trans (hH0 _ _ h2).1.symm) Bn
 have hsat1:GSat m1 w (R::G):=by
  refine⟨fun i=>?_,m1.inj,fun i r b hr hb=>?_,fun i b j hi=>hsat.free i b j (Es i b hi).2⟩
  ·constructor
   ·intro hi;have Cn:i<G.length+1:=by simpa using hi
    obtain⟨b,hb⟩:=(hsat.dom i).1 (by omega);exact⟨b,Aaq i b Cn hb⟩
   ·rintro ⟨b,hb⟩;have:=(Es i b hb).1;simpa using this
  ·have hi:=(Es i b hb).1;have Jd:(R::(G++[row]))[i]?=some r:=by
    rw[show R::(G++[row])=(R::G)++[row] by simp,q_jf (by simpa using hi)];exact hr
   exact (hsat.row i r b Jd (Es i b hb).2).swap rfl (fun _ h=>h) (hn r (q_jb Jd))
 have hobs0:∀i b,m1.d i=some b->bt≠b:=fun i b hi e=>by
  subst e;have:=m.inj i (G.length+1) bt (Es i bt hi).2 dt;have:=(Es i bt hi).1;omega
 have hS:SR w own m1 (Pin bt) [] E0 (some (R::G)) { sl:=[.gp 0 0,.ref 1 777 0 0]++List.replicate (fn.ntmps-2) .undef,hp:=[gOb (R::G),Ih row true] } { tmps:=[Value.pointer (some ⟨b0,0,none⟩),Value.pointer (some ⟨bt,0,none⟩)].toArray++Array.replicate (fn.ntmps - [Value.pointer (some ⟨b0,0,none⟩),Value.pointer (some ⟨bt,0,none⟩)].toArray.size) undef,defers:=[] } w:=by
  refine⟨hW,⟨rfl,hsat1,fun i b hi=>.inr ⟨i,(Es i b hi).2⟩,fun i b o ob hi ho _=>hobs0 i b hi⟩,fun o=>?_,by simp;omega,Ba0 (args:=[.gp 0 0,.ref 1 777 0 0]) rfl (fun j v x hv hx=>?_),rfl,rfl,.refl _,(fun h=>by cases h),fun _=>⟨_,rfl,q_ja _,fun _=>rfl⟩⟩
  ·match o with
   |0=>rfl
   |1=>rfl
   |o+2=>rfl
  ·match j,hv,hx with
   |0,hv,hx=>cases hv;cases hx;exact .rep _ _ (.gp _ _ _ (Aaq 0 _ (by omega) d0) p0)
   |1,hv,hx=>cases hv;cases hx;exact .ref 1 777 0 0 bt 0 (Ih row true) rfl (q_ja _) (fun _=>⟨rfl,by simp⟩)
   |j+2,hv,hx=>cases hv
 refine calls_of_wp hf hb ?_;have fin:∀(E:Env) (g:Option (GV)) (s:St) (a:Act) (w':World),SR w own m1 (Pin bt) [] E g s a w'->Afq ars (R'::(G++D)) row' s->a.defers=[]/\∃v,(results fn a.tmps).run P w'=.ok v w'/\∃m',Vd m' (.returned v) (.ret (.tup []))/\m.le m'/\(∀b j,b<w.heap.size->m' b j=m b j)/\Jj m' w'/\GSat m' w' (R'::(G++row'::D)) /\
   (∀i b,m'.d i=some b->m.d i=some b\/w.heap.size<=b)/\w'.os=w.os/\w'.tape=w.tape/\w'.output=w.output/\w.heap.size<=w'.heap.size/\∀k,k<w.heap.size->(∀i,m.d i≠some k)->w'.heap[k]?=w.heap[k]?:=by
  intro E g s a w' hS hr;refine⟨hS.dfr,?_⟩;unfold Afq at hr;split at hr;rotate_left
  ·exact hr.elim
  rename_i p hp' Om;obtain⟨hp,hG,q1,cl,h2,Yi,hqpos,hcl,Eg⟩:=hr;obtain⟨us,E',k1,k2,k3,k4,k5⟩:=Ab1 fn.results.toList ars p [] hp' E s Mb Om hp hS;have:=Oy (U:=fun _=>True) (s:={ s with hp:=hp' }) (fun o _=>k4.hp o) trivial k4.wo hG;subst this;have hH1:E'.H 1=some (Ih q1 cl):=by
   have:=k4.hp 1;simp only[Env.view] at this;rw[Yi] at this;simpa using this
  have hko:=k4.wo.obs 1 _ hH1;have Eb:=hko.fit;simp only[Ih,List.length_singleton,Nat.one_mul] at Eb;obtain⟨c1,e1,hl1⟩:=hko.live (by omega);have Aij:(c1.toList.take q1.length).length=q1.length:=by
   have:=hl1.size;rw[q_kg];exact Nat.min_eq_left (show q1.length<=c1.size by omega)
  have Fd:RelV E' (.agg (c1.toList.take q1.length).toArray) (.agg false q1):=by
   refine .agg _ _ (fun v hv=>?_) Aij (fun j v x hv hx=>?_)
   ·obtain⟨j,hj⟩:=q_jw (List.mem_of_mem_take hv);exact hl1.one j v (by simpa using hj)
   ·rw[q_jx] at hv;split at hv
    ·exact hl1.rel j v x (by simpa using hv) (by simpa [Ih] using hx)
    ·cases hv
  obtain⟨E1,Aqc,st⟩:=Acz (s:={ s with hp:=hp' }) (U:=fun _=>True) k4.wo k4.gx (fun o _=>k4.hp o) hcl Fd (fun _ _=>trivial);have hS1:=k4.closed st;have hH2:E1.H 1=some (Ih q1 cl):=by
   have:=hS1.hp 1;simp only[Env.view] at this;rw[Eg,Yi] at this;simpa using this
  have Ais:E1.β 1=bt:=by
   obtain⟨ob,p1,_,p3⟩:=hS1.hb rfl;rw[hH2] at p1;cases p1;exact p3 rfl
  have hpin0:E'.β 1=bt:=by
   obtain⟨ob,p1,_,p3⟩:=k4.hb rfl;rw[hH1] at p1;cases p1;exact p3 rfl
  have hko2:=hS1.wo.obs 1 _ hH2;have Sh:=hko2.fit;simp only[Ih,List.length_singleton,Nat.one_mul] at Sh;have Hx:0<E1.t 1:=by omega
  obtain⟨c2,e2,hl2⟩:=hko2.live Hx;have hg1:GI w.heap.size own E1 w' (R'::(G++D)):=hS1.gx;have Ao4:=hl1.blk;have hblk2:=hl2.blk;rw[hpin0] at Ao4;have Apr:∀k,E1.m bt k=none:=fun k=>by rw[<-Ais];exact hl2.free k (by simp[Ih])
  have Mh:E1.m.p bt:=by rw[<-Ais];exact hl2.pl
  have Dx:∀i b,E1.m.d i=some b->b≠bt:=fun i b hi e=>hg1.obs i b 1 _ hi hH2 Hx (by rw[Ais,e])
  have Ahn:(R'::(G++D)).length=G.length+1+D.length:=by simp;omega
  have Ah4:=hg1.sat.dom
  let dd:Nat->Option Nat:=fun i=>if i<G.length+1 then E1.m.d i else if i=G.length+1 then some bt else E1.m.d (i-1)
  have Hc:∀i b,dd i=some b->(i<G.length+1/\E1.m.d i=some b)\/(i=G.length+1/\b=bt)\/(G.length+1<i/\E1.m.d (i-1)=some b):=fun i b hi=>by
   simp only[dd] at hi;split at hi
   ·exact .inl ⟨‹_›,hi⟩
   ·split at hi
    ·cases hi;exact .inr (.inl ⟨‹_›,rfl⟩)
    ·exact .inr (.inr ⟨by omega,hi⟩)
  let m':Mem:=⟨E1.m.c,dd,E1.m.p,fun i j b hi hj=>by
   rcases Hc i b hi with⟨a1,a2⟩|⟨a1,a2⟩|⟨a1,a2⟩<;>rcases Hc j b hj with⟨b1,b2⟩|⟨b1,b2⟩|⟨b1,b2⟩
   ·exact E1.m.inj i j b a2 b2
   ·exact absurd b2 (Dx _ _ a2)
   ·have:=E1.m.inj _ _ b a2 b2;omega
   ·exact absurd a2 (Dx _ _ b2)
   ·omega
   ·exact absurd a2 (Dx _ _ b2)
   ·have:=E1.m.inj _ _ b a2 b2;omega
   ·exact absurd b2 (Dx _ _ a2)
   ·have:=E1.m.inj _ _ b a2 b2;omega⟩
  have Apj:∀i b,i<G.length+1->E1.m.d i=some b->m'.d i=some b:=fun i b hi hd=>by show dd i=_;simp only[dd,if_pos hi];exact hd
  have Zz:m'.d (G.length+1)=some bt:=by show dd _=_;simp[dd]
  have hdgt:∀i b,G.length+1<=i->E1.m.d i=some b->m'.d (i+1)=some b:=fun i b hi hd=>by
   show dd _=_;simp only[dd,if_neg (show ¬i+1<G.length+1 by omega),if_neg (show ¬i+1=G.length+1 by omega),Nat.add_sub_cancel];exact hd
  have hle1:=hS1.le;refine⟨_,Ab0 k1,m',⟨_,rfl,((Abu (r:=.tup []) rfl k2 k3).mono st.ext.m).swap (m:=E1.m) (m':=m') rfl (fun _ h=>h) (.tup _ (fun x hx=>by cases hx))⟩,⟨hle1.c,fun i b hi=>?_,hle1.p⟩,fun b j hb=>?_,⟨hS1.wo.mem,hS1.wo.pl⟩,⟨fun i=>?_,m'.inj,fun i r b hr hb=>?_,fun i b j hi=>?_⟩,fun i b hi=>?_,hS1.wo.os,hS1.wo.tape,hS1.wo.output,hS1.wo.size,fun k hk hnk=>hS1.wo.block k hk (fun ⟨i,hi⟩=>hnk i hi)⟩
  ·rcases Nat.lt_trichotomy i (G.length+1) with h1|h1|h1
   ·exact Apj i b h1 (hle1.d _ _ (Aaq i b h1 hi))
   ·subst h1;rw[Zz,<-dt];exact hi
   ·have:=(hsat.dom i).2 ⟨b,hi⟩;omega
  ·by_cases ho:own b
   ·obtain⟨i,hi⟩:=ho;rw[hsat.free i b j hi];rcases Nat.lt_trichotomy i (G.length+1) with h1|h1|h1
    ·exact hg1.sat.free i b j (hle1.d _ _ (Aaq i b h1 hi))
    ·subst h1;rw[dt] at hi;cases hi;exact Apr j
    ·have:=(hsat.dom i).2 ⟨b,hi⟩;omega
   ·show E1.m b j=_;rw[hS1.wo.keep b j hb ho,hS1.z]
  ·have hL:(R'::(G++row'::D)).length=G.length+2+D.length:=by simp;omega
   rw[hL];constructor
   ·intro hi;rcases Nat.lt_trichotomy i (G.length+1) with h1|h1|h1
    ·obtain⟨b,hb⟩:=(Ah4 i).1 (by rw[Ahn];omega);exact⟨b,Apj i b h1 hb⟩
    ·subst h1;exact⟨bt,Zz⟩
    ·obtain⟨b,hb⟩:=(Ah4 (i-1)).1 (by rw[Ahn];omega);have:=hdgt (i-1) b (by omega) hb;rw[show i-1+1=i by omega] at this;exact⟨b,this⟩
   ·rintro ⟨b,hb⟩;rcases Hc i b hb with⟨a1,_⟩|⟨a1,_⟩|⟨a1,a2⟩
    ·omega
    ·omega
    ·have:=(Ah4 (i-1)).2 ⟨b,a2⟩;rw[Ahn] at this;omega
  ·rcases Hc i b hb with⟨a1,a2⟩|⟨a1,a2⟩|⟨a1,a2⟩
   ·have Jd:(R'::(G++D))[i]?=some r:=by
     rw[show R'::(G++D)=(R'::G)++D by simp,q_jf (by simpa using a1)];rw[show R'::(G++row'::D)=(R'::G)++row'::D by simp,q_jf (by simpa using a1)] at hr;exact hr
    exact (hg1.sat.row i r b Jd a2).swap rfl (fun _ h=>h) (Ja r (q_jb Jd))
   ·subst a1 a2;have Jd:row'=r:=by simpa using hr
    subst Jd;generalize hv0:Value.agg (c1.toList.take q1.length).toArray=v0 at Aqc;cases Aqc with
    |agg ws _ z0 z1 z2=>
    have hws:c1.toList.take q1.length=ws:=by simpa using hv0
    subst hws;refine .cells _ c1 e1 Ao4 (by rw[<-z1,Aij];have:=hl1.size;omega) (fun k v x hv hx=>⟨(z2 k v x ?_ hx).swap (m:=E1.m) (m':=m') rfl (fun _ h=>h) (Fu x (q_jb hx)),hl1.one k v hv⟩) hl1.one;have hk:=(q_jm.1 hx).1;rw[q_jx,if_pos (by rw[<-z1,Aij] at hk;exact hk)];simpa using hv
   ·have Jd:(R'::(G++D))[i-1]?=some r:=by
     rw[show R'::(G++D)=(R'::G)++D by simp,q_jj (by simp;omega)];rw[show R'::(G++row'::D)=(R'::G++[row'])++D by simp,q_jj (by simp;omega)] at hr;rw[<-hr];congr 1;simp;omega
    exact (hg1.sat.row (i-1) r b Jd a2).swap rfl (fun _ h=>h) (Ja r (q_jb Jd))
  ·rcases Hc i b hi with⟨a1,a2⟩|⟨a1,a2⟩|⟨a1,a2⟩
   ·exact hg1.sat.free i b j a2
   ·subst a2;exact Apr j
   ·exact hg1.sat.free _ b j a2
  ·have own_lt:∀i b,own b->E1.m.d i=some b->i<G.length+1/\m.d i=some b:=fun i b ⟨i',Cn⟩ he=>by
    rcases Nat.lt_trichotomy i' (G.length+1) with h1|h1|h1
    ·have:=E1.m.inj i i' b he (hle1.d _ _ (Aaq i' b h1 Cn));subst this;exact⟨h1,Cn⟩
    ·subst h1;rw[dt] at Cn;cases Cn;exact absurd rfl (Dx _ _ he)
    ·have:=(hsat.dom i').2 ⟨b,Cn⟩;omega
   rcases Hc i b hi with⟨a1,a2⟩|⟨a1,a2⟩|⟨a1,a2⟩
   ·rcases hg1.new i b a2 with h|h
    ·exact .inr h
    ·exact .inl (own_lt i b h a2).2
   ·subst a1 a2;exact .inl dt
   ·rcases hg1.new _ b a2 with h|h
    ·exact .inr h
    ·have:=(own_lt _ b h a2).1;omega
 refine Yy (X:=fun _ _=>False) hm c ac Qw (fun _ _ _ _ _ _ h=>h.elim) (fun e E g s a w' hS he=>?_) E0 (some (R::G)) _ _ w hS h;cases e with
 |normal=>exact fin E g s a w' hS he
 |exit id=>exact he.elim
 |ret=>exact fin E g s a w' hS he
open Go Go.RowKit Go.Proofs.YtgdkddjdhijfnaaGreatDoor
def Bhc{rs:List AR}{G':GV}{row:List SV}{s:St}:rtL rs G' row .normal s=Afq rs G' row s:=q_z
def Bcs{T:TF}{b:Nat}(hT:TC T b){ns:List By}{L:List Tok}{e i j:Nat}{nm:SV}{G:GV}(Ez:ns.length+b<1000000)(hL:L.length<1000000000000)(hi:i<1000)(hj:j<1000)(hnm:NmP nm ns)(hN:NG G):∀(m:Nat) (ts r:List Tok) (l:List LT) (k:Nat) (D:GV),Qb T ns m ts=some (l,r)->NG D->L.drop k=ts ->
  ∃(K:Nat->Nat) (Ds:Nat->GV),K 0=k/\Ds 0=D/\L.drop (K m)=r/\l.length=m/\(∀x,x<=m->NG (Ds x))/\∀x t,l[x]?=some t->Am 126 (rdR L (K x) e nm i j::(G++Ds x)) [.gp 0 0,.int .i64 2] (.ret (.agg true (tv (t.tm i j)))) (rdR L (K (x+1)) e nm i j::(G++Ds (x+1))):=by
 intro m
 induction m with
 |zero=>
  intro ts r l k D h hD hd;rw[Qb] at h;cases h;exact⟨fun _=>k,fun _=>D,rfl,rfl,hd,rfl,fun _ _=>hD,fun x t ht=>by cases ht⟩
 |succ m ih=>
  intro ts r l k D h hD hd;rw[Qb] at h;cases ht:T ns ts with
  |none=>rw[ht] at h;cases h
  |some q=>
   obtain⟨t0,r1⟩:=q;rw[ht] at h;dsimp only at h;cases hm:Qb T ns m r1 with
   |none=>rw[hm] at h;cases h
   |some q=>
    obtain⟨l1,r2⟩:=q;rw[hm] at h;cases h;obtain⟨k1,D1,d1,g1,c1⟩:=hT ns _ _ _ ht Ez L k e i j nm (G++D) 2 hL hi hj (.inr rfl) hnm (hN.app hD) hd;obtain⟨K,Ds,e1,e2,e3,e4,e5,e6⟩:=ih r1 _ l1 k1 (D++D1) hm (hD.app g1) d1;refine⟨fun x=>if x=0 then k else K (x-1),fun x=>if x=0 then D else Ds (x-1),rfl,rfl,by simpa using e3,by simp[e4],fun x hx=>?_,fun x t hxt=>?_⟩
    ·by_cases h0:x=0
     ·simp only[if_pos h0];exact hD
     ·simp only[if_neg h0];exact e5 _ (by omega)
    ·cases x with
     |zero=>
      cases hxt;simp only[if_true,q_jg,Nat.one_ne_zero,if_false,Nat.sub_self,e1,e2];rw[q_ju] at c1;exact c1
     |succ x=>
      have:=e6 x t (by simpa using hxt);simpa using this
def Ayq{hp:List Ob}{a c n:Int}{x:Nat}{M:GV}{ob:Ob}(h:hp[3]?=some ob)(hb:ob.box=false)(hg:ob.gen=x)(hs:ob.sz=5)(hM:ob.els.take (x+1)=M) :
  De hp (.agg false [.int .i64 23,.int .i64 a,.int .i64 c,.int .i64 n,.osl 3 x 0 (x+1)])=some (.agg true [.int .i64 23,.int .i64 a,.int .i64 c,.int .i64 n,.dsl 5 M],fz hp 3 ob):=by
 simp[De,Jx,Di,h,hb,hg,hs,hM]
def gvS(L:List Tok)(e:Nat)(nm:SV)(i j:Nat)(G:GV)(K:Nat->Nat)(Ds:Nat->GV)(M:GV)(m:Nat)(a c n:Int):Nat->St
 |0=>⟨(.gp 0 0::.ref 1 777 0 0::jk4 (jk2 (.int .i64 (m:Nat)::.int .i64 0::jk8 (jk4 (jk2 ([])))))),[gOb (rdR L (K 0) e nm i j::(G++Ds 0)),⟨true,5,[[.int .i64 23,.int .i64 a,.int .i64 c,.int .i64 n,.nils]],0,777,true⟩]⟩
 |x+1=>⟨(.gp 0 0::.ref 1 777 0 0::jk4 (jk2 (.int .i64 (m:Nat)::.int .i64 ((x+1:Nat):Int)::jk8 (jk4 (jk2 ([])))))),[gOb (rdR L (K (x+1)) e nm i j::(G++Ds (x+1))),⟨true,5,[[.int .i64 23,.int .i64 a,.int .i64 c,.int .i64 n,.osl 3 x 0 (x+1)]],0,777,false⟩,⟨false,5,[[.int .i64 0,.int .i64 0,.int .i64 0,.int .i64 0,.nils]],0,0,true⟩,⟨false,5,M.take (x+1),x,x,true⟩]⟩
def A8s{T:TF}{b:Nat}(hT:TC T b):GvC T b:=by
 intro ns ts r l m hm Ez L k e i j nm G a c n hL hi hj hk h0 hnm hN hd;obtain⟨K,Ds,e1,e2,e3,e4,e5,e6⟩:=Bcs (e:=e) (i:=i) (j:=j) hT Ez hL hi hj hnm hN m ts r l k [] hm NG.nil hd;have Mf:∀k',∀x∈rdR L k' e nm i j,NoG x:=fun k'=>Bdk hnm.noG
 have hrow':NoG (.dsl 5 (l.map fun t=>tv (t.tm i j))):=.dsl _ _ (fun x hx=>by
  obtain⟨q,hq,hx⟩:=List.mem_flatten.1 hx;obtain⟨t,_,rfl⟩:=q_lc.1 hq;exact Yn _ x hx)
 refine⟨K m,Ds m,e3,e5 m (q_ja _),?_⟩;refine A9s mixed Tryz.func138 tr138 (NG.cons (Mf k) (hN.app (NG.cons (Ajy .nils) NG.nil))) (NG.cons (Mf _) (hN.app (e5 m (q_ja _)))) (Ajy hrow') (by simp[Tc]) ?_;have Hv:=Am7 23 n;rw[hk] at Hv;have em:(List.map (fun t:LT=>tv (t.tm i j)) l).length=m:=by simp[e4]
 have Ps:=h0.2;have hm0:=h0.1;have Gt:∀(x:Nat) (t:LT),l[x]?=some t->(l.map fun t=>tv (t.tm i j)).take x++[tv (t.tm i j)]=(l.map fun t=>tv (t.tm i j)).take (x+1):=fun x t ht=>by
  rw[List.take_add_one,q_ji,ht];rfl
 generalize hM:(l.map fun t=>tv (t.tm i j))=M at *
 unfold Aux Ih Tc;simp only[go_sem,seval];refine Af Hv ?_;simp only[go_sem,seval];refine Ln (gvS L e nm i j G K Ds M m a c n) m (fun x hx=>?_) ?_
 ·cases x with
  |zero=>
   have Eu:0<l.length:=by omega
   have hg:l[0]?=some l[0]:=q_f Eu;have c0:=e6 0 _ hg;have hz:=Ch (l[0].tm i j);have hq:=Gt 0 _ hg;rw[List.take_zero,q_kn] at hq;unfold gvS;simp only[go_sem,seval,q_jn (show (0:Int)<(m:Int) by omega)];refine Ai c0 ?_;simp only[go_sem,seval,hz];rw[<-hq];exact⟨hm0,Bk (by simp[Ba])⟩
  |succ x=>
   by_cases Ag:x+1<m
   ·have hg:l[x+1]?=some l[x+1]:=q_f (by omega);have c0:=e6 (x+1) _ hg;have hz:=Ch (l[x+1].tm i j);have hq:=Gt (x+1) _ hg;have hw:IntKind.i64.wrap (((x+1:Nat):Int)+1)=((x+1+1:Nat):Int):=by rw[w64 (by unfold fit;omega)];omega
    unfold gvS;simp only[go_sem,seval,q_jn (show ((x+1:Nat):Int)<(m:Int) by omega)];refine Ai c0 ?_;have Hm:(M.take (x+1)).length=x+1:=by rw[q_kg];omega
    have hset:∀u v:List SV,(M.take (x+1)++[u]).set (x+1) v=M.take (x+1)++[v]:=fun u v=>by
     rw[List.set_append_right _ _ (by omega),Hm,Nat.sub_self,List.set_cons_zero]
    simp only[go_sem,seval,hz,hw,Hm,hset,hq];refine⟨⟨by omega,by omega⟩,⟨by omega,by omega⟩,by omega,Ag,?_⟩;exact Fp 4 (by simp[Ba]) (by simp) (by simp[Cx]) (by simp[gOb,Cx])
   ·have:m=x+1:=by omega
    subst this;unfold gvS;simp only[go_sem,seval,q_je (show ¬((x+1:Nat):Int)<((x+1:Nat):Int) by omega),Bhc];have hMt:M.take (x+1)=M:=q_js (by omega);rw[hMt];exact⟨trivial,rfl,[.int .i64 23,.int .i64 a,.int .i64 c,.int .i64 n,.osl 3 x 0 (x+1)],false,fz _ 3 _,rfl,by simp,Ayq rfl rfl rfl rfl hMt,by simp[fz]⟩
 ·unfold gvS;rw[e1,e2,q_k];exact Bk (by simp[Ba])
def lnR(tx:By)(L:List Tok)(k:Nat):List SV:=[.str (bs tx),.dsl 3 (L.map Fx),.int .i64 k]
section
variable{tx:By}{L ts r:List Tok}{G:GV}
def Afd{e:Nat}:∀(ts:List Tok) (d:Nat),Jt d ts=some (e,r)->r.length<ts.length:=by
 intro ts
 induction ts with
 |nil=>intro d h;simp[Jt] at h
 |cons t ts ih=>
  intro d h;have key:∀d',Jt d' ts=some (e,r)->r.length<(t::ts).length:=fun d' h=>by have:=ih d' h;simp only[q_jk];omega
  have fin:∀x:Nat,some (x,ts)=some (e,r)->r.length<(t::ts).length:=fun x h=>by cases h;simp
  unfold Jt at h;split at h
  ·exact key _ h
  ·split at h
   ·match d,h with
    |0,h=>cases h
    |1,h=>exact fin _ h
    |d+2,h=>exact key _ h
   ·split at h
    ·exact fin _ h
    ·exact key _ h
def pcS(tx:By)(L:List Tok)(G:GV)(from_:Nat)(k d:Nat):St:=
 ⟨(.gp 0 0::.J::.str (bs [])::.int .i64 from_::.int .i64 d::Bo (Do (jk4 (.J::[])))),[gOb (lnR tx L k::G)]⟩
def PcL(tx:By)(L:List Tok)(G:GV)(from_ k d:Nat)(R:SV)(G':GV)(m:Nat):Prop:=
 vcI (Bp Tryz.prog fun _ _=>False) a122_23 (bk 0 (rtG [.t 2] (.ret R) G')) m (pcS tx L G from_ k d)
def Bex{from_ e kE:Nat}{r:List Tok}(hL:L.length<1000000000000)(h1:from_<=e)(h2:e<=tx.length)(Hl:tx.length<1000000):∀(ts:List Tok) (k d:Nat),Jt d ts=some (e,r)->L.drop k=ts->k+(ts.length-r.length)=kE->d+ts.length<1000000000->∃q,PcL tx L G from_ k d (.str (bs ((tx.drop from_).take (e-from_)))) (lnR tx L kE::G) q:=by
 intro ts
 induction ts with
 |nil=>intro k d h;simp[Jt] at h
 |cons t ts ih=>
  intro k d hp hd hE Av;obtain⟨a1,a2,a3,a4,a5,a6,a7,a8,a9,a10⟩:=Ei hd;have a6:=a6 hL;have a7:=a7 hL;have a10:=a10 hL;simp only[q_jk] at hE Av;unfold Jt at hp
  by_cases k1:t.k=1
  ·rw[if_pos k1] at hp;have hle:=Afd _ _ hp;obtain⟨q,hq⟩:=ih (k+1) (d+1) hp (Bl hd) (by omega) (by omega);refine⟨q+1,Bd ?_⟩;unfold PcL pcS lnR at hq;unfold pcS lnR;have e1:((t.k:Int)==1)=true:=by rw[k1];rfl
   have e2:IntKind.i64.wrap ((d:Int)+1)=((d+1:Nat):Int):=by rw[w64 (by unfold fit;omega)];omega
   have e3:(((d+1:Nat):Int)==0)=false:=by rw[beq_eq_false_iff_ne];omega
   simp only[go_sem,seval,a1,a2,a3,a4,a6,a8,a9,a10,forall_const,q_g,e1,e2,e3];exact Dl (Fp 1 (by simp[Ba]) (by simp) (by simp[Cx]) (by simp[gOb])) hq
  ·rw[if_neg k1] at hp;have e1:((t.k:Int)==1)=false:=by rw[beq_eq_false_iff_ne];omega
   have Xx:∀(d1:Int),d1=0->t.p+t.w.length=e->ts=r->(t.k=2->IntKind.i64.wrap ((d:Int)-1)=d1)->(t.k≠2->(d:Int)=d1)->∃q,PcL tx L G from_ k d (.str (bs ((tx.drop from_).take (e-from_)))) (lnR tx L kE::G) q:=fun d1 Es he hr Ki hw2=>by
    subst hr Es;refine⟨1,Bd ?_⟩;have hkE:kE=k+1:=by omega
    subst hkE;have e4:IntKind.i64.wrap ((t.p:Int)+(t.w.length:Int))=(e:Int):=by rw[<-he,w64 (by unfold fit;omega)];omega
    unfold pcS lnR
    by_cases k2:t.k=2
    ·have e2:((t.k:Int)==2)=true:=by rw[k2];rfl
     have Ki:=Ki k2;simp only[go_sem,seval,a1,a2,a3,a4,a6,a8,a9,a10,forall_const,q_g,e1,e2,Ki,e4];omega
    ·have e2:((t.k:Int)==2)=false:=by rw[beq_eq_false_iff_ne];omega
     have hw2:=hw2 k2;rw[hw2];simp only[go_sem,seval,a1,a2,a3,a4,a6,a8,a9,a10,forall_const,q_g,e1,e2,e4];omega
   by_cases k2:t.k=2
   ·rw[if_pos k2] at hp;have e2:((t.k:Int)==2)=true:=by rw[k2];rfl
    match d,hp with
    |0,hp=>cases hp
    |1,hp=>
     cases hp;exact Xx 0 rfl rfl rfl (fun _=>rfl) (fun h=>absurd k2 h)
    |d+2,hp=>
     have hp:Jt (d+1) ts=some (e,r):=hp;have hle:=Afd _ _ hp;obtain⟨q,hq⟩:=ih (k+1) (d+1) hp (Bl hd) (by omega) (by omega);refine⟨q+1,Bd ?_⟩;unfold PcL pcS lnR at hq;unfold pcS lnR;have e4:IntKind.i64.wrap (((d+2:Nat):Int)-1)=((d+1:Nat):Int):=by rw[w64 (by unfold fit;omega)];omega
     have e3:(((d+1:Nat):Int)==0)=false:=by rw[beq_eq_false_iff_ne];omega
     simp only[go_sem,seval,a1,a2,a3,a4,a6,a8,a9,a10,forall_const,q_g,e1,e2,e3,e4];exact Dl (Fp 1 (by simp[Ba]) (by simp) (by simp[Cx]) (by simp[gOb])) hq
   ·rw[if_neg k2] at hp;have e2:((t.k:Int)==2)=false:=by rw[beq_eq_false_iff_ne];omega
    by_cases d0:d=0
    ·rw[if_pos d0] at hp;cases hp;exact Xx 0 rfl rfl rfl (fun h=>absurd h k2) (fun _=>by omega)
    ·rw[if_neg d0] at hp;have hle:=Afd _ _ hp;obtain⟨q,hq⟩:=ih (k+1) d hp (Bl hd) (by omega) (by omega);refine⟨q+1,Bd ?_⟩;unfold PcL pcS lnR at hq;unfold pcS lnR;have e3:((d:Int)==0)=false:=by rw[beq_eq_false_iff_ne];omega
     simp only[go_sem,seval,a1,a2,a3,a4,a6,a8,a9,a10,forall_const,q_g,e1,e2,e3];exact Dl (Fp 1 (by simp[Ba]) (by simp) (by simp[Cx]) (by simp[gOb])) hq
def A8y{t:Tok}{e k kE:Nat}(hL:L.length<1000000000000)(hd:L.drop k=t::ts)(hp:Jt 0 (t::ts)=some (e,r))(hE:k+((t::ts).length-r.length)=kE)(h1:t.p<=e)(h2:e<=tx.length)(Hl:tx.length<1000000)(Li:ts.length<100000000) :
  Am 122 (lnR tx L k::G) [.gp 0 0] (.ret (.str (bs ((tx.drop t.p).take (e-t.p))))) (lnR tx L kE::G):=by
 obtain⟨a1,a2,a3,a4,a5,a6,a7,a8,a9,a10⟩:=Ei hd;have a6:=a6 hL;have a7:=a7 hL;have a10:=a10 hL;obtain⟨q,hq⟩:=Bex (G:=G) hL h1 h2 Hl (t::ts) k 0 hp hd hE (by simp only[q_jk];omega);refine Bh mixed Tryz.func122 tr122 ?_;unfold PcL pcS at hq;unfold lnR at hq |-;simp only[go_sem,seval,a1,a2,a3,a4,a8,a9,a10,forall_const,q_g];refine Cv q ?_;exact Dl (Bk (by simp[Ba])) hq
end
def Biw(f:Nat):TC (Ju f) (2*f):=Bix (fun _ _ h=>A8s h) f
def Bdl(t:Tm):NoG (.tup [.agg true (tv t),.int .i64 0,.int .i64 0]):=.tup _ (fun x hx=>by
 simp only[q_kb,q_kc,or_false] at hx;rcases hx with rfl|rfl|rfl
 ·exact Qd t true
 ·exact .int _ _
 ·exact .int _ _)
def A0r{tx:By}{ns:List By}{nm:SV}{lt:LT}{i j:Nat}(hr:Afn ns tx=some lt)(hnm:NmP nm ns)(Ez:ns.length<=200000)(Hl:tx.length<100000)(hi:i<1000)(hj:j<1000) :
  Con 121 [.str (bs tx),nm,.int .i64 i,.int .i64 j] (.tup [.agg true (tv (lt.tm i j)),.int .i64 0,.int .i64 0]):=by
 unfold Afn at hr;cases Im:Ir (tx.length+1) 0 tx with
 |none=>rw[Im] at hr;cases hr
 |some L=>
  rw[Im] at hr;dsimp only at hr;have hx:=Ajr Im;have Ck:=Abn hx;split at hr
  ·rename_i t ht;cases hr;have Bn:L≠[]:=by
    rintro rfl;cases ht
   obtain⟨k',D,d1,g1,c1⟩:=Biw L.length ns L [] lt ht (by omega) L 0 tx.length i j nm [] 0 (by omega) hi hj (.inl rfl) hnm NG.nil rfl;have c0:=Am8 (l:=tx) (by omega) hx Bn (by omega);have hk:L.length<=k':=by simpa using d1
   have Dj:¬(k':Int)<(L.length:Int):=by omega
   have Hb:∀x∈[SV.str (bs tx),nm,.int .i64 i,.int .i64 j],NoG x:=fun x hx=>by
    simp only[q_kb,q_kc,or_false] at hx;rcases hx with rfl|rfl|rfl|rfl
    ·exact .str _
    ·exact hnm.noG
    ·exact .int _ _
    ·exact .int _ _
   refine Lt mixed Tryz.func121 tr121 Hb (Bdl _) ?_;have i3:¬(i:Int)<0:=by omega
   have i4:¬(j:Int)<0:=by omega
   have i5:¬(i:Int) > 1000:=by omega
   have i6:¬(j:Int) > 1000:=by omega
   have hb:(L.length<=140737488355328)=True:=by simp;omega
   have hnn:nm=.nils\/∃R,nm=.dsl 1 R:=by rcases hnm with⟨h,_⟩|h;exact .inl h;exact .inr ⟨_,h⟩
   unfold rdR at c1;clear hnm Hb;rcases hnn with rfl|⟨Rn,rfl⟩
   all_goals
    repeat' first
    |simp only[go_sem,seval,i3,i4,q_je i5,q_je i6,q_g,hb,Dj,forall_const]
    |refine Af c0 ?_
    |refine Ai c1 ?_
  ·cases hr
def Ab7:∀f,TP (Ju f) (2*f):=by
 intro f
 induction f with
 |zero=>intro ns ts r lt h;cases h
 |succ f ih=>
  intro ns ts r lt h Ez L k i j nm G want hL hi hj hw hnm hd
  match ts,h with
  |[],h=>cases h
  |t::r1,h=>
   unfold Ju at h;dsimp only at h;split at h
   ·rename_i ht;cases hn:Lw t.w ns with
    |none=>rw[hn] at h;cases h
    |some n=>
     rw[hn] at h;cases h;have Bn:nm=nmV ns:=by
      rcases hnm with⟨_,rfl⟩|h
      ·cases hn
      ·exact h
     subst Bn;exact⟨k+1,nmV ns,Bl hd,.inr rfl,A9b hd hL ht hn (by omega)⟩
   ·split at h
    ·rename_i ht
     match r1,h with
     |[],h=>cases h
     |u::r2,h=>
      dsimp only at h;split at h
      ·rename_i hu;have Es:=Bl hd;have Ft:=Bl Es;cases hf:Vm u.w Vn with
       |none=>rw[hf] at h;cases h
       |some p=>
        obtain⟨kk,s⟩:=p;rw[hf] at h;dsimp only at h;have hmem:=Ahg hf;simp only[Vn,q_kb,q_kc,or_false,Prod.mk.injEq] at hmem;rcases hmem with⟨hq,rfl,rfl⟩|⟨hq,rfl,rfl⟩|⟨hq,rfl,rfl⟩|⟨hq,rfl,rfl⟩|⟨hq,rfl,rfl⟩|⟨hq,rfl,rfl⟩|⟨hq,rfl,rfl⟩|⟨hq,rfl,rfl⟩|⟨hq,rfl,rfl⟩|⟨hq,rfl,rfl⟩|⟨hq,rfl,rfl⟩|⟨hq,rfl,rfl⟩
        ·exact Pn hd hL ht (A8z Es hL hu hq) (by decide) (Axg hL hi hj hnm Ft h)
        ·exact Pn hd hL ht (Rb (n:=0) Es hL hu (by rw[hq];decide) (by rw[hq];decide) hw) (by decide) (Axc ih (by omega) hL hi hj hnm Ft h)
        ·exact Pn hd hL ht (Rb (n:=1) Es hL hu (by rw[hq];decide) (by rw[hq];decide) hw) (by decide) (Axa ih (by omega) hL hi hj hnm Ft h)
        ·exact Pn hd hL ht (Rb (n:=2) Es hL hu (by rw[hq];decide) (by rw[hq];decide) hw) (by decide) (Aw7 ih (by omega) hL hi hj hnm Ft h)
        ·exact Pn hd hL ht (Rb (n:=3) Es hL hu (by rw[hq];decide) (by rw[hq];decide) hw) (by decide) (Axe ih (by omega) hL hi hj hnm Ft h)
        ·exact Pn hd hL ht (Rb (n:=4) Es hL hu (by rw[hq];decide) (by rw[hq];decide) hw) (by decide) (Axb ih (by omega) hL hi hj hnm Ft h)
        ·exact Pn hd hL ht (Rb (n:=5) Es hL hu (by rw[hq];decide) (by rw[hq];decide) hw) (by decide) (Aw9 ih (by omega) hL hi hj hnm Ft h)
        ·exact Pn hd hL ht (Rb (n:=6) Es hL hu (by rw[hq];decide) (by rw[hq];decide) hw) (by decide) (Axf ih (by omega) hL hi hj hnm Ft h)
        ·exact Pn hd hL ht (Rb (n:=7) Es hL hu (by rw[hq];decide) (by rw[hq];decide) hw) (by decide) (Aw8 ih (by omega) hL hi hj hnm Ft h)
        ·exact Pn hd hL ht (Rb (n:=8) Es hL hu (by rw[hq];decide) (by rw[hq];decide) hw) (by decide) (Axd ih (by omega) hL hi hj hnm Ft h)
        ·exact Pn hd hL ht (Rb (n:=9) Es hL hu (by rw[hq];decide) (by rw[hq];decide) hw) (by decide) (bp_j ih (by omega) hL hi hj hnm Ft h)
        ·exact Pn hd hL ht (Rb (n:=10) Es hL hu (by rw[hq];decide) (by rw[hq];decide) hw) (by decide) (Axh ih (by omega) hL hi hj hnm Ft h)
      ·cases h
    ·cases h
open Go Go.Proofs Go.Proofs.YtgdkddjdhijfnaaGreatDoor
noncomputable def strC:Code->List (List UInt8)
 |.seq a b=>strC a++strC b
 |.region _ l _=>l.toList.flatMap fun o=>match o.op with
  |.buildSlice _ _ p=>p.toList.map fun q=>match q.2 with
   |.const (.string b)=>b.data.toList
   |_=>[]
  |_=>[]
 |_=>[]
noncomputable def libN (n:Nat):List UInt8:=match Tryz.f64.body with
 |some c=>(strC c).getD n []
 |none=>[]
noncomputable def libL:List (List UInt8):=[libN 0,libN 1,libN 2,libN 3,libN 4,libN 5,libN 6,libN 7,libN 8,libN 9,libN 10,libN 11,libN 12,libN 13,libN 14,libN 15,libN 16,libN 17,libN 18,libN 19,libN 20]
noncomputable def libX (n:Nat):AX:=.c (.str (bs (libN n)))
noncomputable def af64:AF:={ ntmps:=2,res:=[(.t 0)],body:=(.seq (.reg [⟨(some 0),(.mv (.c .nils)),none,0,false,[]⟩] false) (.seq (.reg [⟨(some 1),(.bslice 1 [libX 0,libX 1,libX 2,libX 3,libX 4,libX 5,libX 6,libX 7,libX 8,libX 9,libX 10,libX 11,libX 12,libX 13,libX 14,libX 15,libX 16,libX 17,libX 18,libX 19,libX 20]),none,0,false,[]⟩,⟨(some 0),(.mv (.t 1)),none,0,false,[]⟩] false) .ret)) }
def tr64:trF Tryz.prog Tryz.f64=some af64:=by kernel_rfl
attribute [go_sem] af64 libX
def Ag2:Con 64 [] (.dsl 1 (libL.map wdR)):=by
 refine Au mixed Tryz.func64 tr64 ?_;unfold af64;simp only[go_sem,seval,libL,q_h,q_i,wdR]
def Bcf:libL.all (fun tx=>(Un tx).isSome && decide (tx.length<100000))=true:=by kernel_rfl
def spl2(x0 x1 x2 x3 x4 x5 x6 x7 x8 x9 x10 x11 x12 y0 y1 y2 y3 y4:SV):Fg 13 5 2 [x0,x1,x2,x3,x4,x5,x6,x7,x8,x9,x10,x11,x12] [y0,y1,y2,y3,y4]=[x0,x1,y0,y1,y2,y3,y4,x7,x8,x9,x10,x11,x12]:=q_z
def spl7(x0 x1 x2 x3 x4 x5 x6 x7 x8 x9 x10 x11 x12 y0 y1 y2 y3 y4:SV):Fg 13 5 7 [x0,x1,x2,x3,x4,x5,x6,x7,x8,x9,x10,x11,x12] [y0,y1,y2,y3,y4]=[x0,x1,x2,x3,x4,x5,x6,y0,y1,y2,y3,y4,x12]:=q_z
def aS(L:List Tok)(k:Nat)(nm:SV)(i j:Nat)(cw:By)(df:Bool)(done:List Tm):St:=
 ⟨(jk4 (jk2 (.ref 1 0 0 0::jk4 (.gp 0 0::.ref 2 0 0 0::.osl 3 done.length 0 done.length::Bo (Bo (Bo (jk4 (jk2 (.J::[]))))))))),[gOb [prR L k nm i j],⟨true,13,[[.str (bs []),.nils,.int .i64 0,.int .i64 0,.int .i64 0,.int .i64 0,.nils,.int .i64 0,.int .i64 0,.int .i64 0,.int .i64 0,.nils,.bool false]],0,0,true⟩,⟨true,13,[[.str (bs cw),.nils,.int .i64 0,.int .i64 0,.int .i64 0,.int .i64 0,.nils,.int .i64 0,.int .i64 0,.int .i64 0,.int .i64 0,.nils,.bool df]],0,0,true⟩,⟨false,5,done.map tv,done.length-1,done.length,true⟩]⟩
def AtL(L:List Tok)(k:Nat)(nm:SV)(i j:Nat)(cw:By)(df:Bool)(done:List Tm)(R:SV)(m:Nat):Prop:=
 vcI (Bp Tryz.prog fun _ _=>False) a41_28 (bk 0 (sq (Bp Tryz.prog fun _ _=>False) a41_51 (rt [.cell 6 true 13,.t 7] R))) m (aS L k nm i j cw df done)
def zr:List SV:=[.int .i64 0,.int .i64 0,.int .i64 0,.int .i64 0,.nils]
def Ot(cw:By)(ps:List Tm)(ty:Tm)(bd:List SV)(df:Bool):SV:=.tup [.agg true (.str (bs cw)::.dsl 5 (ps.map tv)::(tv ty++(bd++[.bool df]))),.bool true]
section
variable{L:List Tok}{k i j:Nat}{nm:SV}{cw:By}{done:List Tm}{ns:List By}{f:Nat}
def Awr{t z:Tok}{r1 r2:List Tok}{ty:LT}(hL:L.length<1000000000000)(hi:i<1000)(hj:j<1000)(Xw:done.length<=1000000)(hnm:NmP nm ns)(Ez:ns.length+2*f<1000000)(hd:L.drop k=t::r1)(ht:t.k=2)(Hd:Ju f ns r1=some (ty,z::r2))(hz:z.k=2) :
  AtL L k nm i j cw false done (Ot cw done (ty.tm i j) zr false) 1:=by
 have c1:=Ni (i:=i) (j:=j) (nm:=nm) (G:=[]) hd hL;rw[ht] at c1;have c2:=Ff (i:=i) (j:=j) (nm:=nm) (G:=[]) (c:=2) hd hL (by omega);have d1:=Bl hd;obtain⟨k1,nm1,d2,m1,c3⟩:=Ab7 f ns r1 _ ty Hd (by omega) L (k+1) i j nm [] 2 hL hi hj (.inr rfl) hnm d1;have c4:=Ff (i:=i) (j:=j) (nm:=nm1) (G:=[]) (c:=2) d2 hL (by omega);have Io:(done.map tv).take done.length=done.map tv:=q_js (by simp);refine Bd ?_;unfold aS Ot zr;generalize ty.tm i j=tt at *
 cases tt with
 |mk tk ti tj tn tl=>
  rw[As] at c3 |-;unfold prR at c1 c2 c3 c4 |-
  repeat' first
  |simp only[go_sem,seval,q_g,Io,spl2,q_ko,q_kn]
  |refine Ai c1 ?_
  |refine Ai c2 ?_
  |refine Ai c3 ?_
  |refine Ai c4 ?_
def Aws{f2:Nat}{t z:Tok}{r1 r2 r3:List Tok}{ty bd:LT}(hL:L.length<1000000000000)(hi:i<1000)(hj:j<1000)(Xw:done.length<=1000000)(hnm:NmP nm ns)(Ez:ns.length+2*f<1000000)(hd:L.drop k=t::r1)(ht:t.k=2)(Hd:Ju f ns r1=some (ty,r2))(Sd:Ju f2 ns r2=some (bd,z::r3))(hns2:ns.length+2*f2<1000000)(hz:z.k=2) :
  AtL L k nm i j cw true done (Ot cw done (ty.tm i j) (tv (bd.tm i j)) true) 1:=by
 have c1:=Ni (i:=i) (j:=j) (nm:=nm) (G:=[]) hd hL;rw[ht] at c1;have c2:=Ff (i:=i) (j:=j) (nm:=nm) (G:=[]) (c:=2) hd hL (by omega);have d1:=Bl hd;obtain⟨k1,nm1,d2,m1,c3⟩:=Ab7 f ns r1 _ ty Hd (by omega) L (k+1) i j nm [] 2 hL hi hj (.inr rfl) hnm d1;obtain⟨k2,nm2,d3,m2,c5⟩:=Ab7 f2 ns r2 _ bd Sd (by omega) L k1 i j nm1 [] 2 hL hi hj (.inr rfl) m1 d2;have c4:=Ff (i:=i) (j:=j) (nm:=nm2) (G:=[]) (c:=2) d3 hL (by omega);have Io:(done.map tv).take done.length=done.map tv:=q_js (by simp);refine Bd ?_;unfold aS Ot;generalize ty.tm i j=tt at *
 generalize bd.tm i j=bt at *
 cases tt with
 |mk tk ti tj tn tl=>
  cases bt with
  |mk uk ui uj un ul=>
   rw[As] at c3 c5 |-;rw[As];unfold prR at c1 c2 c3 c4 c5 |-
   repeat' first
   |simp only[go_sem,seval,q_g,Io,spl2,spl7,q_ko,q_kn]
   |refine Ai c1 ?_
   |refine Ai c2 ?_
   |refine Ai c3 ?_
   |refine Ai c5 ?_
   |refine Ai c4 ?_
def Awt{df:Bool}{R:SV}{t u z:Tok}{r1 r2:List Tok}{a:LT}(hL:L.length<1000000000000)(hi:i<1000)(hj:j<1000)(Xw:done.length<=1000000)(hnm:NmP nm ns)(Ez:ns.length+2*f+2<1000000)(hd:L.drop k=t::u::r1)(ht:t.k=1)(hu:u.k=3)(ha:Ju f ns r1=some (a,z::r2))(hz:z.k=2)
  (H:∀k',L.drop k'=r2->∃q,AtL L k' (nmV (u.w::ns)) i j cw df (done++[a.tm i j]) R q):∃q,AtL L k nm i j cw df done R q:=by
 have c1:=Ni (i:=i) (j:=j) (nm:=nm) (G:=[]) hd hL;rw[ht] at c1;obtain⟨b1,b2,b3,b4,b5,b6,b7,b8,b9,b10⟩:=Ei hd;have b6:=b6 hL;have d1:=Bl hd;have c2:=Ff (i:=i) (j:=j) (nm:=nm) (G:=[]) (c:=3) d1 hL (by omega);have d2:=Bl d1;obtain⟨k1,nm1,d3,m1,c3⟩:=Ab7 f ns r1 _ a ha (by omega) L (k+1+1) i j nm [] 2 hL hi hj (.inr rfl) hnm d2;have c4:=Ff (i:=i) (j:=j) (nm:=nm1) (G:=[]) (c:=2) d3 hL (by omega);have c5:=Zy (L:=L) (k:=k1+1) (i:=i) (j:=j) (G:=[]) (ws:=[u.w]) m1 (by simp) (by omega);simp only[q_kw,List.reverse_nil,q_kn,q_kv,q_h,q_i,wdR] at c5;obtain⟨q,h2⟩:=H (k1+1) (Bl d3);have e3:(done.length+1)*56<=140737488355328:=by omega
 have e4:done.length+1<=140737488355328:=by omega
 have Io:(done.map tv).take done.length=done.map tv:=q_js (by simp);refine⟨q+1,Bd ?_⟩;unfold AtL at h2;unfold aS at h2 |-;unfold prR at c1 c2 c3 c4 c5 h2 |-
 repeat' first
 |simp only[go_sem,seval,b6,e3,e4,q_g]
 |refine Ai c1 ?_
 |refine Ai c2 ?_
 |refine Ai c3 ?_
 |refine Ai c4 ?_
 |refine Ai c5 ?_
 have eL:(done++[a.tm i j]).length=done.length+1:=by simp
 have eM:(done++[a.tm i j]).map tv=done.map tv++[tv (a.tm i j)]:=by simp
 simp only[eL,eM,Nat.add_sub_cancel] at h2;exact Dl (Fp 4 (by simp[Ba]) (by simp) (by simp[Cx]) (by simp[gOb])) h2
def Asm{df:Bool}{R:SV}{nsE:List By}{psE:List LT}{rE:List Tok}(hL:L.length<1000000000000)(hi:i<1000)(hj:j<1000)
  (Aad:∀k' nm' t,psE.length<=1000000->NmP nm' nsE->nsE.length<=200000->L.drop k'=t::rE->t.k=2->AtL L k' nm' i j cw df (psE.map (LT.tm i j)) R 1) :
  ∀(g:Nat) (ns:List By) (ps:List LT) (ts:List Tok) (k:Nat) (nm:SV),Abv f g ns ps ts=some (nsE,psE,rE)->NmP nm ns->ns.length+g+2*f+2<1000000->ns.length+g<=200000->ps.length+g<=1000000->L.drop k=ts->∃q,AtL L k nm i j cw df (ps.map (LT.tm i j)) R q:=by
 intro g
 induction g with
 |zero=>intro ns ps ts k nm h;cases h
 |succ g ih=>
  intro ns ps ts k nm h hnm hb Dc hp hd
  match ts,h with
  |[],h=>cases h
  |t::r1,h=>
   unfold Abv at h;dsimp only at h;split at h
   ·rename_i ht
    match r1,h with
    |[],h=>cases h
    |u::r2,h=>
     dsimp only at h;split at h
     ·rename_i hu;cases ha:Ju f ns r2 with
      |none=>rw[ha] at h;cases h
      |some p=>
       obtain⟨a,r3⟩:=p;rw[ha] at h;dsimp only at h;cases hc:Rx () r3 with
       |none=>rw[hc] at h;cases h
       |some p2=>
        obtain⟨uu,r4⟩:=p2;rw[hc] at h;dsimp only at h;obtain⟨z,Fl,Du,_⟩:=Ry hc;subst Fl;refine Awt hL hi hj (by simp;omega) hnm (by omega) hd ht hu ha Du (fun k' hk=>?_);have:=ih (u.w::ns) (ps++[a]) r4 k' (nmV (u.w::ns)) h (.inr rfl) (by simp;omega) (by simp;omega) (by simp;omega) hk
        rwa [q_ku,q_h,q_i] at this
     ·cases h
   ·split at h
    ·rename_i ht;cases h;exact⟨1,Aad k nm t (by omega) hnm (by omega) hd ht⟩
    ·cases h
end
def Am0{n i j:Nat}{tx:By}{L:List Tok}{a b c d:Tok}{r0:List Tok}{R:SV}(hn:libL[n]?=some tx)(Im:Lx tx 0 L)(hL:L=a::b::c::d::r0)(Hl:tx.length<100000)(hi:i<1000)(hj:j<1000)(ha:a.k=1)(hb:b.k=3)(hc:c.k=3)(hd:d.k=1)(hNR:NoG R)(hq:∃q,AtL L 4 .nils i j c.w (b.w==[100,101,102]) [] R q) :
  Con 41 [.int .i64 ((n+1:Nat):Int),.int .i64 i,.int .i64 j] R:=by
 have Av:libL.length=21:=rfl;have Cc:∀(m:Nat) v,libL[m]?=some v->(libL.map wdR)[m]?.getD []=[.str (bs v)]:=fun m v hv=>by rw[q_ji,hv];rfl
 have hnl:=(q_jm.1 hn).1;have cl:=Ag2;generalize libL=lb at *
 have hLl:=Abn Im;have cx:=A0x (by omega) Im (by rw[hL];simp) (by omega);have d0:L.drop 0=a::b::c::d::r0:=by rw[List.drop_zero,hL]
 have d1:=Bl d0;have d2:=Bl d1;have d3:=Bl d2;have c1:=Ff (i:=i) (j:=j) (nm:=.nils) (G:=[]) (c:=1) d0 (by omega) (by omega);have c2:=Ff (i:=i) (j:=j) (nm:=.nils) (G:=[]) (c:=3) d1 (by omega) (by omega);have c3:=Ff (i:=i) (j:=j) (nm:=.nils) (G:=[]) (c:=3) d2 (by omega) (by omega);have c4:=Ff (i:=i) (j:=j) (nm:=.nils) (G:=[]) (c:=1) d3 (by omega) (by omega);have Hb:∀x∈[SV.int .i64 ((n+1:Nat):Int),.int .i64 i,.int .i64 j],NoG x:=fun x hx=>by
  simp only[q_kb,q_kc,or_false] at hx;rcases hx with rfl|rfl|rfl<;>exact .int _ _
 refine Lt mixed Tryz.func41 tr41 Hb hNR ?_;have i1:¬((n+1:Nat):Int)<1:=by omega
 have i2:¬((n+1:Nat):Int) > 21:=by omega
 have i3:¬(i:Int)<0:=by omega
 have i4:¬(j:Int)<0:=by omega
 have i5:¬(i:Int) >= 1000:=by omega
 have i6:¬(j:Int) >= 1000:=by omega
 have i7:IntKind.i64.wrap (((n+1:Nat):Int)-1)=(n:Int):=by rw[w64 (by unfold fit;omega)];omega
 have i8:(0:Int)<=(n:Int):=by omega
 have i9:(n:Int)<21:=by omega
 have i10:n<21:=by omega
 have i11:(21:Nat)<=140737488355328:=by decide
 unfold prR at c1 c2 c3 c4
 repeat' first
 |simp only[go_sem,seval,q_g,Av,i1,i2,i3,i4,q_je i5,q_je i6,q_je i1,q_je i2,i7,i8,i9,i10,i11,forall_const,Cc n tx hn]
 |refine Af cl ?_
 |refine Af cx ?_
 |refine Ai c1 ?_
 |refine Ai c2 ?_
 |refine Ai c3 ?_
 |refine Ai c4 ?_
 obtain⟨q,h2⟩:=hq;unfold AtL aS at h2;unfold prR at h2;exact Cv q (Dl (.trans (.ghost _ 13 5 rfl) (Bk (by simp[Ba]))) h2)
def Zh(ls:LS)(i j:Nat):List SV:=match ls.bd with
 |some b=>tv (b.tm i j)
 |none=>tv zt
def Ae2{cw:By}{ps:List Tm}{ty:Tm}{bd:List SV}{df:Bool}(hb:∀x∈bd,NoG x):NoG (Ot cw ps ty bd df):=by
 refine .tup _ (fun x hx=>?_);simp only[q_kb,q_kc,or_false] at hx;rcases hx with rfl|rfl
 ·refine .agg _ _ (fun y hy=>?_);simp only[q_kb,q_ke,q_kc,or_false] at hy;rcases hy with rfl|rfl|hy|hy|rfl
  ·exact .str _
  ·refine .dsl _ _ (fun z hz=>?_);obtain⟨r,hr,hzr⟩:=List.mem_flatten.1 hz;obtain⟨t,_,rfl⟩:=q_lc.1 hr;exact Yn t z hzr
  ·exact Yn ty y hy
  ·exact hb y hy
  ·exact .bool _
 ·exact .bool _
def Ar3:∀x∈zr,NoG x:=fun x hx=>by
 unfold zr at hx;simp only[q_kb,q_kc,or_false] at hx;rcases hx with rfl|rfl|rfl|rfl|rfl<;>first|exact .int _ _|exact .nils
def Ard:∀l:List SV,Les l l:=by
 intro l
 induction l with
 |nil=>exact .nil
 |cons a l ih=>exact .cons _ _ _ _ (.refl _) ih
def Arc{a b c d:List SV}(h:Les a b)(k:Les c d):Les (a++c) (b++d):=by
 induction h with
 |nil=>exact k
 |cons x y l r h1 _ ih=>exact .cons _ _ _ _ h1 ih
def Ara{cw:By}{ps:List Tm}{ty:Tm}{df:Bool}:Le (Ot cw ps ty zr df) (Ot cw ps ty (tv zt) df):=by
 refine .tup _ _ (.cons _ _ _ _ (.agg _ _ (.cons _ _ _ _ (.refl _) (.cons _ _ _ _ (.refl _) (Arc (Ard _) (Arc ?_ (Ard _)))))) (.cons _ _ _ _ (.cell _ _ (.refl _)) .nil));rw[zt,As];exact .cons _ _ _ _ (.refl _) (.cons _ _ _ _ (.refl _) (.cons _ _ _ _ (.refl _) (.cons _ _ _ _ (.refl _) (.cons _ _ _ _ (.nils 5) .nil))))
def Biy{f:Nat}{ns:List By}{ts r:List Tok}{lt:LT}(h:Ju f ns ts=some (lt,r))(hb:ns.length+2*f<1000000)(hl:ts.length<1000000000000):r.length<=ts.length:=by
 obtain⟨k',_,h1,_⟩:=Ab7 f ns ts r lt h hb ts 0 0 0 (nmV ns) [] 2 hl (by omega) (by omega) (.inr rfl) (.inr rfl) rfl;rw[<-h1,q_kh];omega
def Ay4{n i j:Nat}{tx:By}{ls:LS}(hn:libL[n]?=some tx)(Bt:Un tx=some ls)(Hl:tx.length<100000)(hi:i<1000)(hj:j<1000) :
  Con 41 [.int .i64 ((n+1:Nat):Int),.int .i64 i,.int .i64 j] (Ot ls.nm (ls.ps.map (LT.tm i j)) (ls.ty.tm i j) (Zh ls i j) ls.df):=by
 unfold Un at Bt;cases Im:Ir (tx.length+1) 0 tx with
 |none=>rw[Im] at Bt;cases Bt
 |some L=>
  rw[Im] at Bt;have hx:=Ajr Im;have Ck:=Abn hx
  match L,Bt,hx,Ck with
  |[],Bt,_,_=>cases Bt
  |[_],Bt,_,_=>cases Bt
  |[_,_],Bt,_,_=>cases Bt
  |[_,_,_],Bt,_,_=>cases Bt
  |a::b::c::d::r,Bt,hx,Ck=>
   dsimp only at Bt;split at Bt
   ·rename_i hk;obtain⟨ha,hb,hc,hd⟩:=hk;have d4:(a::b::c::d::r).drop 4=r:=rfl;simp only[q_jk] at Ck;cases hp:Abv r.length r.length [] [] r with
    |none=>rw[hp] at Bt;cases Bt
    |some p=>
     obtain⟨nsE,psE,r1⟩:=p;rw[hp] at Bt;dsimp only at Bt;cases Hd:Ju r1.length nsE r1 with
     |none=>rw[Hd] at Bt;cases Bt
     |some p2=>
      obtain⟨ty,r2⟩:=p2;rw[Hd] at Bt;dsimp only at Bt;have Lz:(a::b::c::d::r).length<1000000000000:=by simp only[q_jk];omega
      split at Bt
      ·rename_i Et;cases Sd:Ju r2.length nsE r2 with
       |none=>rw[Sd] at Bt;cases Bt
       |some p3=>
        obtain⟨bd,r3⟩:=p3;rw[Sd] at Bt;dsimp only at Bt;split at Bt
        ·rename_i uu hcl;obtain⟨z,Fl,Du,_⟩:=Ry hcl;subst Fl;cases Bt;refine Am0 hn hx rfl Hl hi hj ha hb hc hd (Ae2 (Yn _)) ?_;rw[Et];exact Asm (f:=r.length) (df:=true) Lz hi hj (fun k' nm' t h1 h2 h3 h4 h5=>by
          have e1:=congrArg List.length h4;simp only[q_kh,q_jk] at e1;have e2:=Biy Hd (by omega) (by omega);exact Aws Lz hi hj (by simpa using h1) h2 (by omega) h4 h5 Hd Sd (by omega) Du) r.length [] [] r 4 .nils hp (.inl ⟨rfl,rfl⟩) (by simp;omega) (by simp;omega) (by simp;omega) d4
        ·cases Bt
      ·rename_i Et;have Et:(b.w==[100,101,102])=false:=by simpa using Et
       split at Bt
       ·rename_i uu hcl;obtain⟨z,Fl,Du,_⟩:=Ry hcl;subst Fl;cases Bt;refine Contract.weaken (Am0 hn hx rfl Hl hi hj ha hb hc hd (Ae2 (bd:=zr) Ar3) ?_) Ara;rw[Et];exact Asm (f:=r.length) (df:=false) Lz hi hj (fun k' nm' t h1 h2 h3 h4 h5=>by
         have e1:=congrArg List.length h4;simp only[q_kh,q_jk] at e1;exact Awr Lz hi hj (by simpa using h1) h2 (by omega) h4 h5 Hd Du) r.length [] [] r 4 .nils hp (.inl ⟨rfl,rfl⟩) (by simp;omega) (by simp;omega) (by simp;omega) d4
       ·cases Bt
   ·cases Bt
mutual
def okT:Nat->LT->Bool
 |d,.var n=>decide (n<d)
 |d,.nd k a b n l=>(decide (k=1) || decide (13<=k)) && (decide ((l.length:Int)=Bv k n) && ((decide (k=1) || (decide (k=23) || decide (a=.z))) && ((decide (k=23) || (decide (b=.z) && decide (n=0))) && okL d k 0 l)))
def okL:Nat->Nat->Nat->List LT->Bool
 |_,_,_,[]=>true
 |d,k,p,t::l=>okT (d+bnd k p) t && okL d k (p+1) l
end
mutual
def szT:LT->Nat
 |.var _=>1
 |.nd _ _ _ _ l=>1+szL l
def szL:List LT->Nat
 |[]=>0
 |t::l=>szT t+szL l
end
mutual
def dpT:LT->Nat
 |.var _=>0
 |.nd k _ _ _ l=>dpL k 0 l
def dpL:Nat->Nat->List LT->Nat
 |_,_,[]=>0
 |k,p,t::l=>max (bnd k p+dpT t) (dpL k (p+1) l)
end
def Ae8(n:Nat)(ls:LS):Bool:=(ls.df==ls.bd.isSome) && match ls.bd with
 |none=>true
 |some b=>okT (Bv 23 n).toNat b && (decide (szT b<=4000) && decide ((Bv 23 n).toNat+dpT b<=1000))
def Ae6:Nat->List By->Bool
 |_,[]=>true
 |n,tx::l=>(match Un tx with
  |some ls=>Ae8 n ls
  |none=>false) && Ae6 (n+1) l
def Awa:Ae6 1 libL=true:=by kernel_rfl
open Go Go.RowKit Go.Proofs.YtgdkddjdhijfnaaGreatDoor
section
variable{i j:Nat}
def LE.ev_le(hi:i<1000)(hj:j<1000)(a:LE):a.ev i j<=1000:=by cases a<;>simp only[LE.ev]<;>omega
def Biv{n:Int}(h:0<=Bv 23 n):1<=n/\n<=21:=by
 unfold Bv at h;rw[if_pos rfl] at h;unfold Wv tab at h;split at h
 ·rename_i c;simp only[q_jk,List.length_nil] at c;omega
 ·omega
def Bec(hi:i<1000)(hj:j<1000){k n len:Nat}{a b:LE}(h1:k=1\/13<=k)(h2:(len:Int)=Bv k n)(h3:k=1\/k=23\/a=.z)(h4:k=23\/(b=.z/\n=0)) :
  Iv k (a.ev i j:Nat) (b.ev i j:Nat) n 2 len=true:=by
 have ha:=LE.ev_le hi hj a;have hb:=LE.ev_le hi hj b;have la:lev ((a.ev i j:Nat):Int)=true:=by unfold lev;simp;omega
 have lb:lev ((b.ev i j:Nat):Int)=true:=by unfold lev;simp;omega
 have hs:(!((2:Int) != 0) || (!(Jh k != 0) || !(Jh k != 2)))=true:=by
  unfold Jh;rcases h1 with rfl|h1
  ·rfl
  ·rw[if_neg (by omega),if_neg (by omega)];rfl
 unfold Iv;rw[hs,h2];have hn:Or k (a.ev i j:Nat) (b.ev i j:Nat) n=true:=by
  unfold Or
  by_cases k1:k=1
  ·subst k1;obtain⟨rfl,rfl⟩:=h4.resolve_left (by decide);rw[if_pos (.inl rfl),la];rfl
  ·have h13:=h1.resolve_left k1;rw[if_neg (by omega),if_neg (by omega),if_neg (by omega)]
   by_cases k23:k=23
   ·rw[if_pos (by omega),la,lb];rfl
   ·rw[if_neg (by omega)];obtain⟨rfl,rfl⟩:=h4.resolve_left k23;have:a=.z:=by rcases h3 with h|h|h;exact absurd h k1;exact absurd h k23;exact h
    subst this;rfl
 rw[hn];simp
def Auj(l:List LT):(LT.tms i j l).length=l.length:=by rw[Aky,q_g]
mutual
def Ar9(hi:i<1000)(hj:j<1000):∀(t:LT) (d:Nat),okT d t=true->Sf d (t.tm i j)/\(d+dpT t<=2147483647->Cg (t.tm i j)=true)
 |.var n,d,h=>by
  rw[okT] at h;have h:=q_kx h;rw[LT.tm];exact⟨.var h,fun hb=>Us (by rw[dpT] at hb;omega)⟩
 |.nd k a b n l,d,h=>by
  rw[okT] at h;simp only[q_jl,q_l,q_jt] at h;obtain⟨h1,h2,h3,h4,h5⟩:=h;have ih:=Ar8 hi hj l d k 0 h5;have ha:=LE.ev_le hi hj a;have hb:=LE.ev_le hi hj b;have hn:n<=21:=by
   rcases h4 with h|h
   ·subst h;have:=Biv (n:=(n:Int)) (by rw[show ((23:Nat):Int)=23 from rfl] at h2;omega);omega
   ·omega
  rw[LT.tm];have h3':k=1\/k=23\/a=.z:=h3;refine⟨.nd _ _ _ (by omega) (by omega) ⟨by unfold fit;omega,by unfold fit;omega,by unfold fit;omega⟩ (by rw[Auj];exact h2) (fun p t ht=>?_),fun hb=>plain_mk.2 ⟨by rw[Auj];exact Bec hi hj h1 h2 h3' h4,fun t ht=>?_⟩⟩
  ·have:=(ih p t ht).1
   rwa [q_jg] at this
  ·obtain⟨p,hp⟩:=q_jw ht;rw[dpT] at hb;exact (ih p t hp).2 hb
def Ar8(hi:i<1000)(hj:j<1000):∀(l:List LT) (d k p:Nat),okL d k p l=true->∀(q:Nat) t,(LT.tms i j l)[q]?=some t->Sf (d+bnd k (p+q)) t/\(d+dpL k p l<=2147483647->Cg t=true)
 |[],d,k,p,_=>fun q t ht=>by rw[LT.tms] at ht;cases ht
 |u::l,d,k,p,h=>fun q t ht=>by
  rw[okL,q_jl] at h;rw[LT.tms] at ht;cases q with
  |zero=>
   simp only[q_jv,q_b] at ht;subst ht;obtain⟨a,b⟩:=Ar9 hi hj u (d+bnd k p) h.1;exact⟨a,fun hb=>b (by rw[dpL] at hb;omega)⟩
  |succ q=>
   rw[q_kf] at ht;obtain⟨a,b⟩:=Ar8 hi hj l d k (p+1) h.2 q t ht;exact⟨by rwa [show p+1+q=p+(q+1) by omega] at a,fun hb=>b (by rw[dpL] at hb;omega)⟩
end
mutual
def Aub:∀t:LT,tsz (t.tm i j)=szT t
 |.var n=>by rw[LT.tm,szT];unfold vT;rw[Ia];rfl
 |.nd k a b n l=>by rw[LT.tm,szT,Ia,Auc l]
def Auc:∀l:List LT,((LT.tms i j l).map tsz).sum=szL l
 |[]=>by rw[LT.tms,szL];rfl
 |t::l=>by rw[LT.tms,szL,q_h,List.sum_cons,Aub t,Auc l]
end
mutual
def An1:∀t:LT,dpt (t.tm i j)=dpT t
 |.var n=>by rw[LT.tm,dpT];unfold vT;rw[dpt,Oa]
 |.nd k a b n l=>by rw[LT.tm,dpT,dpt,An2 l]
def An2:∀(l:List LT) {k p:Nat},Oa (k:Int) p (LT.tms i j l)=dpL k p l
 |[],_,_=>by rw[LT.tms,dpL,Oa]
 |t::l,_,_=>by rw[LT.tms,dpL,Oa,An1 t,An2 l]
end
end
open Go Go.RowKit Go.Proofs.YtgdkddjdhijfnaaGreatDoor
def LS.sy(i j:Nat)(ls:LS):Sy:=⟨ls.nm,ls.ps.map (LT.tm i j),ls.ty.tm i j,(match ls.bd with
 |some b=>b.tm i j
 |none=>zt),ls.df⟩
noncomputable def symT:SyT:=fun n i j=>if (1<=n/\n<=21)/\(0<=i/\i<1000)/\(0<=j/\j<1000) then ((libL[(n-1).toNat]?).bind Un).map (LS.sy i.toNat j.toNat) else none
def Bd0:∀{l:List By} {m n:Nat} {tx:By},Ae6 n l=true->l[m]?=some tx->∃ls,Un tx=some ls/\Ae8 (n+m) ls=true:=by
 intro l
 induction l with
 |nil=>intro m n tx _ h;cases h
 |cons a l ih=>
  intro m n tx h hm;rw[Ae6,q_jl] at h;cases m with
  |zero=>
   simp only[q_jv,q_b] at hm;subst hm;obtain⟨h1,_⟩:=h;split at h1
   ·rename_i ls Bt;exact⟨ls,Bt,h1⟩
   ·cases h1
  |succ m=>
   obtain⟨ls,h1,h2⟩:=ih h.2 (by simpa using hm);exact⟨ls,h1,by rwa [show n+1+m=n+(m+1) by omega] at h2⟩
def Aku{n i j:Int}(h:(1<=n/\n<=21)/\(0<=i/\i<1000)/\(0<=j/\j<1000)):∃tx ls,libL[(n-1).toNat]?=some tx/\tx.length<100000/\Un tx=some ls/\Ae8 n.toNat ls=true/\symT n i j=some (ls.sy i.toNat j.toNat):=by
 have Av:libL.length=21:=rfl;have Ag:(n-1).toNat<libL.length:=by omega
 have h1:libL[(n-1).toNat]?=some libL[(n-1).toNat]:=q_f Ag;obtain⟨ls,h2,h3⟩:=Bd0 Awa h1;have h4:=List.all_eq_true.1 Bcf _ (q_kd Ag);rw[q_jl] at h4;refine⟨_,ls,h1,q_kx h4.2,h2,by rwa [show 1+(n-1).toNat=n.toNat by omega] at h3,?_⟩;unfold symT;rw[if_pos h,h1,Option.bind_some,h2,q_jh]
def Alg:SV:=.tup [.agg true [.str (bs []),.nils,.int .i64 0,.int .i64 0,.int .i64 0,.int .i64 0,.nils,.int .i64 0,.int .i64 0,.int .i64 0,.int .i64 0,.nils,.bool false],.bool false]
def Ay5{n i j:Int}(h:¬((1<=n/\n<=21)/\(0<=i/\i<1000)/\(0<=j/\j<1000))):Con 41 [.int .i64 n,.int .i64 i,.int .i64 j] Alg:=by
 have Av:libL.length=21:=rfl;have cl:=Ag2;generalize libL=lb at *
 have hb:(21:Nat)<=140737488355328:=by decide
 refine Au mixed Tryz.func41 tr41 ?_;unfold Alg;simp only[go_sem,seval];refine Af cl ?_
 by_cases h1:n<1
 ·simp only[go_sem,seval,q_g,Av,hb,q_jn h1]
 by_cases h2:n > 21
 ·simp only[go_sem,seval,q_g,Av,hb,forall_const,q_je h1,q_jn h2]
 by_cases h3:i<0
 ·simp only[go_sem,seval,q_g,Av,hb,forall_const,q_je h1,q_je h2,q_jn h3]
 by_cases h4:i >= 1000
 ·simp only[go_sem,seval,q_g,Av,hb,forall_const,q_je h1,q_je h2,q_je h3,q_jn h4]
 by_cases h5:j<0
 ·simp only[go_sem,seval,q_g,Av,hb,forall_const,q_je h1,q_je h2,q_je h3,q_je h4,q_jn h5]
 by_cases h6:j >= 1000
 ·simp only[go_sem,seval,q_g,Av,hb,forall_const,q_je h1,q_je h2,q_je h3,q_je h4,q_je h5,q_jn h6]
 ·exact absurd ⟨⟨by omega,by omega⟩,⟨by omega,by omega⟩,by omega,by omega⟩ h
def Bb2:Le Alg (.tup [.agg true (.str (bs [])::.nils::(zr++(tv zt++[.bool false]))),.bool false]):=by
 refine .tup _ _ (.cons _ _ _ _ (.agg _ _ ?_) (.cons _ _ _ _ (.cell _ _ (.refl _)) .nil));rw[zt,As];exact .cons _ _ _ _ (.refl _) (.cons _ _ _ _ (.refl _) (.cons _ _ _ _ (.refl _) (.cons _ _ _ _ (.refl _) (.cons _ _ _ _ (.refl _) (.cons _ _ _ _ (.refl _) (.cons _ _ _ _ (.refl _) (.cons _ _ _ _ (.refl _) (.cons _ _ _ _ (.refl _) (.cons _ _ _ _ (.refl _) (.cons _ _ _ _ (.refl _) (.cons _ _ _ _ (.nils 5) (.cons _ _ _ _ (.refl _) .nil))))))))))))
def Af4{n i j:Int}{b:Tm}(h:symT.B n i j=some b):PT (Bv 23 n).toNat 4000 b/\(Bv 23 n).toNat+dpt b<=1000:=by
 by_cases hr:(1<=n/\n<=21)/\(0<=i/\i<1000)/\(0<=j/\j<1000)
 ·obtain⟨tx,ls,h1,h2,h3,h4,h5⟩:=Aku hr;unfold SyT.B at h;rw[h5,Option.bind_some] at h;unfold Ae8 at h4;rw[q_jl] at h4;obtain⟨h6,h7⟩:=h4;split at h
  ·rename_i Et;have hdf':ls.df=true:=Et;rw[hdf'] at h6;cases hb:ls.bd with
   |none=>rw[hb] at h6;cases h6
   |some u=>
    rw[hb] at h7;simp only[q_jl,q_jt] at h7;obtain⟨g1,g2,g3⟩:=h7;simp only[LS.sy,hb,q_b] at h;subst h;rw[show ((n.toNat:Nat):Int)=n by omega] at g1 g3;obtain⟨a,c⟩:=Ar9 (i:=i.toNat) (j:=j.toNat) (by omega) (by omega) u _ g1;exact⟨⟨c (by omega),a,by rw[Aub];exact g2⟩,by rw[An1];exact g3⟩
  ·cases h
 ·unfold SyT.B symT at h;rw[if_neg hr] at h;cases h
def plib:Ve symT.B:=by
 refine⟨fun n i j hn hi hj=>?_,fun n i j b hb=>(Af4 hb).1⟩
 by_cases hr:(1<=n/\n<=21)/\(0<=i/\i<1000)/\(0<=j/\j<1000)
 ·obtain⟨tx,ls,h1,h2,h3,h4,h5⟩:=Aku hr;have h:=Ay4 (i:=i.toNat) (j:=j.toNat) h1 h3 h2 (by omega) (by omega);rw[show (((n-1).toNat+1:Nat):Int)=n by omega,show ((i.toNat:Nat):Int)=i by omega,show ((j.toNat:Nat):Int)=j by omega] at h;refine⟨.str (bs ls.nm),.dsl 5 ((ls.ps.map (LT.tm i.toNat j.toNat)).map tv),tv (ls.ty.tm i.toNat j.toNat),(ls.sy i.toNat j.toNat).bd,ls.df,true,Ch _,?_,?_⟩
  ·have e:Zh ls i.toNat j.toNat=tv (ls.sy i.toNat j.toNat).bd:=by
    unfold Zh LS.sy;cases ls.bd<;>rfl
   rw[<-e];exact h
  ·unfold SyT.B;rw[h5];cases hd:ls.df<;>simp[LS.sy,hd]
 ·refine⟨.str (bs []),.nils,zr,zt,false,false,rfl,(Ay5 hr).weaken Bb2,?_⟩;unfold SyT.B symT;rw[if_neg hr];rfl
section
variable{tx:By}{L:List Tok}{k i j:Nat}{nm:SV}{cw:By}{done:List Tm}{ns:List By}{ts r:List Tok}{lt:LT}
def Be2{r:List Tok}{e:Nat}:∀(ts:List Tok) (d:Nat),Jt d ts=some (e,r)->r <:+ ts:=by
 intro ts
 induction ts with
 |nil=>intro d h;simp[Jt] at h
 |cons t ts ih=>
  intro d h;have key:∀d',Jt d' ts=some (e,r)->r <:+ t::ts:=fun d' h=>(ih d' h).trans (List.suffix_cons t ts)
  have fin:∀x:Nat,some (x,ts)=some (e,r)->r <:+ t::ts:=fun x h=>by cases h;exact List.suffix_cons _ _
  unfold Jt at h;split at h
  ·exact key _ h
  ·split at h
   ·match d,h with
    |0,h=>cases h
    |1,h=>exact fin _ h
    |d+2,h=>exact key _ h
   ·split at h
    ·exact fin _ h
    ·exact key _ h
def Abw{ts r:List Tok}(hp:Nv tx ns ts=some (lt,r))(hd:L.drop k=ts)(hL:L.length<1000000)(Hl:tx.length<100000)(Ez:ns.length<=200000)(hi:i<1000)(hj:j<1000) :
  ∃k' w,L.drop k'=r/\Am 122 [lnR tx L k] [.gp 0 0] (.ret (.str (bs w))) [lnR tx L k']/\∀nm,NmP nm ns->Con 121 [.str (bs w),nm,.int .i64 i,.int .i64 j] (.tup [.agg true (tv (lt.tm i j)),.int .i64 0,.int .i64 0]):=by
 match ts,hp with
 |[],hp=>cases hp
 |t::ts,hp=>
  unfold Nv at hp;dsimp only at hp;cases hq:Jt 0 (t::ts) with
  |none=>rw[hq] at hp;cases hp
  |some q=>
   obtain⟨e,r1⟩:=q;rw[hq] at hp;dsimp only at hp;split at hp
   ·rename_i he;cases hr:Afn ns ((tx.drop t.p).take (e-t.p)) with
    |none=>rw[hr] at hp;cases hp
    |some x=>
     rw[hr] at hp;cases hp;have Ag:=Afd _ _ hq;have Ck:(t::ts).length<=L.length:=by rw[<-hd,q_kh];omega
     simp only[q_jk] at Ag Ck;refine⟨_,_,?_,A8y (G:=[]) (by omega) hd hq rfl he.1 he.2 (by omega) (by omega),fun nm hnm=>A0r hr hnm Ez (by simp;omega) hi hj⟩;rw[<-List.drop_drop,hd];exact (List.suffix_iff_eq_drop.1 (Be2 _ _ hq)).symm
   ·cases hp
def Qr(a b:SV)(df:Bool):List SV:=[a,b,.int .i64 0,.int .i64 0,.int .i64 0,.int .i64 0,.nils,.int .i64 0,.int .i64 0,.int .i64 0,.int .i64 0,.nils,.bool df]
def sA(tx:By)(L:List Tok)(k i j:Nat)(cw:By)(df:Bool):St:=
 ⟨(.J::.int .i64 i::.int .i64 j::.J::.J::.J::.ref 1 0 0 0::.J::.gp 0 0::.ref 2 0 0 0::.nils::Bo (Bo (Bo (Bo (Do (jk8 (jk4 (jk2 (.J::[]))))))))),[gOb [lnR tx L k],⟨true,13,[Qr (.str (bs [])) .nils false],0,0,true⟩,⟨true,13,[Qr (.str (bs cw)) .nils df],0,0,true⟩]⟩
def sB(tx:By)(L:List Tok)(k i j:Nat)(cw:By)(df:Bool)(x:Nat)(a0:List SV)(w0:SV)(done:List Tm)(ns:List By):St:=
 ⟨(.J::.int .i64 i::.int .i64 j::.J::.J::.J::.ref 1 0 0 0::.J::.gp 0 0::.ref 2 0 0 0::.osl 7 x 0 (x+1)::Bo (Bo (Bo (Bo (Do (jk8 (jk4 (jk2 (.J::[]))))))))),[gOb [lnR tx L k],⟨true,13,[Qr (.str (bs [])) .nils false],0,0,true⟩,⟨true,13,[Qr (.str (bs cw)) (.osl 5 x 0 (x+1)) df],0,0,false⟩,⟨true,5,[a0],0,0,true⟩,⟨false,5,[a0],0,0,true⟩,⟨false,5,done.map tv,x,x,true⟩,⟨false,1,[[w0]],0,0,true⟩,⟨false,1,ns.reverse.map wdR,x,x,true⟩]⟩
def Mw(R:SV)(m:Nat)(s:St):Prop:=
 vcI (Bp Tryz.prog fun _ _=>False) a117_26 (bk 0 (sq (Bp Tryz.prog fun _ _=>False) a117_40 (rt [.cell 6 true 13,.t 7] R))) m s
def Bhn{df:Bool}{R:SV}{t u z:Tok}{r1 r2:List Tok}{a:LT}(hL:L.length<1000000)(Hl:tx.length<100000)(hi:i<1000)(hj:j<1000)(hd:L.drop k=t::u::r1)(ht:t.k=1)(ha:Nv tx [] r1=some (a,z::r2))
  (H:∀k',L.drop k'=r2->∃q,Mw R q (sB tx L k' i j cw df 0 (tv (a.tm i j)) (.str (bs u.w)) [a.tm i j] [u.w])):∃q,Mw R q (sA tx L k i j cw df):=by
 obtain⟨a1,a2,a3,a4,a5,a6,a7,a8,a9,a10⟩:=Ei hd;have Ix:L.length<1000000000000:=by omega
 have a6:=a6 Ix;have a10:=a10 Ix;have d1:=Bl hd;obtain⟨b1,b2,b3,b4,b5,b6,b7,b8,b9,b10⟩:=Ei d1;have d2:=Bl d1;obtain⟨k1,w,d3,c1,c2⟩:=Abw (i:=i) (j:=j) ha d2 hL Hl (by simp) hi hj;have c2:=c2 .nils (.inl ⟨rfl,rfl⟩);obtain⟨e1,e2,e3,e4,e5,e6,e7,e8,e9,e10⟩:=Ei d3;have e6:=e6 Ix;have hw2:IntKind.i64.wrap ((k:Int)+2)=((k+1+1:Nat):Int):=by rw[w64 (by unfold fit;omega)];omega
 have ek:((t.k:Int)==1)=true:=by rw[ht];rfl
 obtain⟨q,h2⟩:=H (k1+1) (Bl d3);refine⟨q+1,Bd ?_⟩;unfold Mw sB at h2;unfold sA Qr;unfold Qr at h2;unfold lnR at c1 h2 |-
 repeat' first
 |simp only[go_sem,seval,a1,a2,a3,a4,a6,a8,a9,a10,b1,b2,b3,b4,forall_const,q_g,ek,hw2,e6]
 |refine Ai c1 ?_
 |refine Af c2 ?_
 simp only[q_h,q_i,q_kw,List.reverse_nil,q_kn,wdR,q_jg] at h2;exact Dl (Bk (by simp[Ba])) h2
def Bhp{df:Bool}{R:SV}{t u z:Tok}{r1 r2:List Tok}{a:LT}{x:Nat}{a0:List SV}{w0:SV}(hL:L.length<1000000)(Hl:tx.length<100000)(hi:i<1000)(hj:j<1000)(hD:done.length=x+1)(hN:ns.length=x+1)(hx:x<100000)(hd:L.drop k=t::u::r1)(ht:t.k=1)(ha:Nv tx ns r1=some (a,z::r2))
  (H:∀k',L.drop k'=r2->∃q,Mw R q (sB tx L k' i j cw df (x+1) a0 w0 (done++[a.tm i j]) (u.w::ns))):∃q,Mw R q (sB tx L k i j cw df x a0 w0 done ns):=by
 obtain⟨a1,a2,a3,a4,a5,a6,a7,a8,a9,a10⟩:=Ei hd;have Ix:L.length<1000000000000:=by omega
 have a6:=a6 Ix;have a10:=a10 Ix;have d1:=Bl hd;obtain⟨b1,b2,b3,b4,b5,b6,b7,b8,b9,b10⟩:=Ei d1;have d2:=Bl d1;obtain⟨k1,w,d3,c1,c2⟩:=Abw (i:=i) (j:=j) ha d2 hL Hl (by omega) hi hj;have c2:=c2 (nmV ns) (.inr rfl);obtain⟨e1,e2,e3,e4,e5,e6,e7,e8,e9,e10⟩:=Ei d3;have e6:=e6 Ix;have hw2:IntKind.i64.wrap ((k:Int)+2)=((k+1+1:Nat):Int):=by rw[w64 (by unfold fit;omega)];omega
 have ek:((t.k:Int)==1)=true:=by rw[ht];rfl
 obtain⟨q,h2⟩:=H (k1+1) (Bl d3);refine⟨q+1,Bd ?_⟩;unfold Mw sB at h2;unfold sB Qr;unfold Qr at h2;have hDl:(done.map tv).length=x+1:=by simp[hD]
 have Tp:(ns.reverse.map wdR).length=x+1:=by simp[hN]
 simp only[q_ku,q_h,q_i,q_kw,wdR] at h2;unfold nmV at c2;unfold lnR at c1 h2 |-;generalize done.map tv=D at *
 generalize ns.reverse.map wdR=M at *
 have htM:M.take (x+1)=M:=q_js (by omega);have g1:(x+1+1)*56<=140737488355328:=by omega
 have g2:(x+1+1)*16<=140737488355328:=by omega
 have g3:x+1+1<=140737488355328:=by omega
 have g4:x+1<=140737488355327:=by omega
 repeat' first
 |simp only[go_sem,seval,a1,a2,a3,a4,a6,a8,a9,a10,b1,b2,b3,b4,forall_const,q_g,ek,hw2,htM,e6,hDl,Tp,g1,g2,g3,g4]
 |refine Ai c1 ?_
 |refine Af c2 ?_
 exact Dl (Fp 8 (by simp[Ba]) (by simp) (by simp[Cx]) (by simp[gOb,Cx])) h2
def Bhl{t:Tok}{r1 r2:List Tok}{ty:LT}{x:Nat}{a0:List SV}{w0:SV}(hL:L.length<1000000)(Hl:tx.length<100000)(hi:i<1000)(hj:j<1000)(hD:done.length=x+1)(hN:ns.length=x+1)(hx:x<100000)(hd:L.drop k=t::r1)(ht:t.k≠1)(ha:Nv tx ns r1=some (ty,r2)) :
  Mw (Ot cw done (ty.tm i j) zr false) 1 (sB tx L k i j cw false x a0 w0 done ns):=by
 obtain⟨a1,a2,a3,a4,a5,a6,a7,a8,a9,a10⟩:=Ei hd;have Ix:L.length<1000000000000:=by omega
 have a6:=a6 Ix;have a10:=a10 Ix;have d1:=Bl hd;obtain⟨k1,w,d3,c1,c2⟩:=Abw (i:=i) (j:=j) ha d1 hL Hl (by omega) hi hj;have c2:=c2 (nmV ns) (.inr rfl);have ek:((t.k:Int)==1)=false:=by rw[beq_eq_false_iff_ne];omega
 refine Bd ?_;unfold sB Qr Ot zr;have hDl:(done.map tv).length=x+1:=by simp[hD]
 have Tp:(ns.reverse.map wdR).length=x+1:=by simp[hN]
 unfold nmV at c2;unfold lnR at c1 |-;generalize done.map tv=D at *
 generalize ns.reverse.map wdR=M at *
 have htM:M.take (x+1)=M:=q_js (by omega);have htD:D.take (x+1)=D:=q_js (by omega);generalize ty.tm i j=tt at *
 cases tt with
 |mk tk ti tj tn tl=>
  rw[As] at c2 |-
  repeat' first
  |simp only[go_sem,seval,a1,a2,a3,a4,a6,a8,a9,a10,forall_const,q_g,ek,htM,htD,spl2]
  |refine Ai c1 ?_
  |refine Af c2 ?_
def Bhm{t:Tok}{r1 r2 r3:List Tok}{ty bd:LT}{x:Nat}{a0:List SV}{w0:SV}(hL:L.length<1000000)(Hl:tx.length<100000)(hi:i<1000)(hj:j<1000)(hD:done.length=x+1)(hN:ns.length=x+1)(hx:x<100000)(hd:L.drop k=t::r1)(ht:t.k≠1)(ha:Nv tx ns r1=some (ty,r2))(hb:Nv tx ns r2=some (bd,r3)) :
  Mw (Ot cw done (ty.tm i j) (tv (bd.tm i j)) true) 1 (sB tx L k i j cw true x a0 w0 done ns):=by
 obtain⟨a1,a2,a3,a4,a5,a6,a7,a8,a9,a10⟩:=Ei hd;have Ix:L.length<1000000000000:=by omega
 have a6:=a6 Ix;have a10:=a10 Ix;have d1:=Bl hd;obtain⟨k1,w,d3,c1,c2⟩:=Abw (i:=i) (j:=j) ha d1 hL Hl (by omega) hi hj;obtain⟨k2,w2,d4,c3,c4⟩:=Abw (i:=i) (j:=j) hb d3 hL Hl (by omega) hi hj;have c2:=c2 (nmV ns) (.inr rfl);have c4:=c4 (nmV ns) (.inr rfl);have ek:((t.k:Int)==1)=false:=by rw[beq_eq_false_iff_ne];omega
 refine Bd ?_;unfold sB Qr Ot;have hDl:(done.map tv).length=x+1:=by simp[hD]
 have Tp:(ns.reverse.map wdR).length=x+1:=by simp[hN]
 unfold nmV at c2 c4;unfold lnR at c1 c3 |-;generalize done.map tv=D at *
 generalize ns.reverse.map wdR=M at *
 have htM:M.take (x+1)=M:=q_js (by omega);have htD:D.take (x+1)=D:=q_js (by omega);generalize ty.tm i j=tt at *
 generalize bd.tm i j=bt at *
 cases tt with
 |mk tk ti tj tn tl=>
  cases bt with
  |mk uk ui uj un ul=>
   rw[As] at c2 c4 |-;rw[As]
   repeat' first
   |simp only[go_sem,seval,a1,a2,a3,a4,a6,a8,a9,a10,forall_const,q_g,ek,htM,htD,spl2,spl7,q_ko,q_kn]
   |refine Ai c1 ?_
   |refine Af c2 ?_
   |refine Ai c3 ?_
   |refine Af c4 ?_
def Bho{df:Bool}{R:SV}{nsE:List By}{psE:List LT}{rE:List Tok}{a0:List SV}{w0:SV}(hL:L.length<1000000)(Hl:tx.length<100000)(hi:i<1000)(hj:j<1000)
  (Aad:∀k' t x,psE.length=x+1->nsE.length=x+1->x<100000->L.drop k'=t::rE->t.k≠1->Mw R 1 (sB tx L k' i j cw df x a0 w0 (psE.map (LT.tm i j)) nsE)) :
  ∀(g:Nat) (ns:List By) (ps:List LT) (ts:List Tok) (k x:Nat),o5 tx g ns ps ts=some (nsE,psE,rE)->ps.length=x+1->ns.length=x+1->x+g<100000->L.drop k=ts->∃q,Mw R q (sB tx L k i j cw df x a0 w0 (ps.map (LT.tm i j)) ns):=by
 intro g
 induction g with
 |zero=>intro ns ps ts k x h;cases h
 |succ g ih=>
  intro ns ps ts k x h hp hn hx hd
  match ts,h with
  |[],h=>cases h
  |t::r1,h=>
   unfold o5 at h;dsimp only at h;split at h
   ·rename_i ht
    match r1,h with
    |[],h=>cases h
    |u::r2,h=>
     dsimp only at h;cases ha:Nv tx ns r2 with
     |none=>rw[ha] at h;cases h
     |some p=>
      obtain⟨a,r3⟩:=p;rw[ha] at h
      match r3,h,ha with
      |[],h,_=>cases h
      |z::r4,h,ha=>
       dsimp only at h;refine Bhp hL Hl hi hj (by simp[hp]) hn (by omega) hd ht ha (fun k' hk=>?_);have:=ih (u.w::ns) (ps++[a]) r4 k' (x+1) h (by simp[hp]) (by simp[hn]) (by omega) hk
       rwa [q_ku,q_h,q_i] at this
   ·rename_i ht;cases h;exact⟨1,Aad k t x hp hn (by omega) hd ht⟩
end
def Anq{n i j:Nat}{tx:By}{L:List Tok}{a b c d:Tok}{r0:List Tok}{R:SV}(hn:libL[n]?=some tx)(Im:Lx tx 0 L)(hL:L=a::b::c::d::r0)(Hl:tx.length<100000)(hi:i<1000)(hj:j<1000)(hNR:NoG R)(hq:∃q,Mw R q (sA tx L 4 i j c.w (b.w==[100,101,102]))) :
  Con 117 [.int .i64 ((n+1:Nat):Int),.int .i64 i,.int .i64 j] R:=by
 have Av:libL.length=21:=rfl;have Cc:∀(m:Nat) v,libL[m]?=some v->(libL.map wdR)[m]?.getD []=[.str (bs v)]:=fun m v hv=>by rw[q_ji,hv];rfl
 have hnl:=(q_jm.1 hn).1;have cl:=Ag2;generalize libL=lb at *
 have hLl:=Abn Im;have cx:=Am8 (by omega) Im (by rw[hL];simp) (by omega);have d0:L.drop 0=a::b::c::d::r0:=by rw[List.drop_zero,hL]
 have d1:=Bl d0;have d2:=Bl d1;obtain⟨b1,b2,b3,b4,b5,b6,b7,b8,b9,b10⟩:=Ei d1;obtain⟨e1,e2,e3,e4,e5,e6,e7,e8,e9,e10⟩:=Ei d2;have b10:=b10 (by omega);have Hb:∀x∈[SV.int .i64 ((n+1:Nat):Int),.int .i64 i,.int .i64 j],NoG x:=fun x hx=>by
  simp only[q_kb,q_kc,or_false] at hx;rcases hx with rfl|rfl|rfl<;>exact .int _ _
 refine Lt mixed Tryz.func117 tr117 Hb hNR ?_;have i1:¬((n+1:Nat):Int)<1:=by omega
 have i2:¬((n+1:Nat):Int) > 21:=by omega
 have i3:¬(i:Int)<0:=by omega
 have i4:¬(j:Int)<0:=by omega
 have i5:¬(i:Int) >= 1000:=by omega
 have i6:¬(j:Int) >= 1000:=by omega
 have i7:IntKind.i64.wrap (((n+1:Nat):Int)-1)=(n:Int):=by rw[w64 (by unfold fit;omega)];omega
 have i8:(0:Int)<=(n:Int):=by omega
 have i9:(n:Int)<21:=by omega
 have i10:n<21:=by omega
 have i11:(21:Nat)<=140737488355328:=by decide
 have b2':(1:Int)<(L.length:Int):=by omega
 have e2':(2:Int)<(L.length:Int):=by omega
 have b1':1<L.length:=by omega
 have e1':2<L.length:=by omega
 have b4':(L.map Fx)[1]?.getD []=[.int .i64 b.k,.str (bs b.w),.int .i64 b.p]:=b4;have e4':(L.map Fx)[2]?.getD []=[.int .i64 c.k,.str (bs c.w),.int .i64 c.p]:=e4
 repeat' first
 |simp only[go_sem,seval,i3,i4,q_je i5,q_je i6,q_je i1,q_je i2,q_g,Av,i1,i2,i7,i8,i9,i10,i11,forall_const,Cc n tx hn,b1',b2',b4',b10,e1',e2',e4']
 |refine Af cl ?_
 |refine Af cx ?_
 obtain⟨q,h2⟩:=hq;unfold Mw sA Qr lnR at h2;exact Cv q (Dl (Bk (by simp[Ba])) h2)
def A1p{n i j:Nat}{tx:By}{ls:LS}(hn:libL[n]?=some tx)(Bt:Aex tx=some ls)(Jc:ls.ps≠[])(Hl:tx.length<10000)(hi:i<1000)(hj:j<1000) :
  Con 117 [.int .i64 ((n+1:Nat):Int),.int .i64 i,.int .i64 j] (Ot ls.nm (ls.ps.map (LT.tm i j)) (ls.ty.tm i j) (Zh ls i j) ls.df):=by
 unfold Aex at Bt;cases Im:Ir (tx.length+1) 0 tx with
 |none=>rw[Im] at Bt;cases Bt
 |some L=>
  rw[Im] at Bt;have hx:=Ajr Im;have Ck:=Abn hx
  match L,Bt,hx,Ck with
  |[],Bt,_,_=>cases Bt
  |[_],Bt,_,_=>cases Bt
  |[_,_],Bt,_,_=>cases Bt
  |[_,_,_],Bt,_,_=>cases Bt
  |a::b::c::d::r,Bt,hx,Ck=>
   dsimp only at Bt;have d4:(a::b::c::d::r).drop 4=r:=rfl;simp only[q_jk] at Ck;have Lz:(a::b::c::d::r).length<1000000:=by simp only[q_jk];omega
   cases hp:o5 tx r.length [] [] r with
   |none=>rw[hp] at Bt;cases Bt
   |some p=>
    obtain⟨nsE,psE,r1⟩:=p;rw[hp] at Bt;dsimp only at Bt;cases Hd:Nv tx nsE r1 with
    |none=>rw[Hd] at Bt;cases Bt
    |some p2=>
     obtain⟨ty,r2⟩:=p2;rw[Hd] at Bt;dsimp only at Bt;have key:∀(R:SV) (df:Bool),psE≠[]->(∀a0 w0 k' t x,psE.length=x+1->nsE.length=x+1->x<100000->(a::b::c::d::r).drop k'=t::r1->t.k≠1->Mw R 1 (sB tx (a::b::c::d::r) k' i j c.w df x a0 w0 (psE.map (LT.tm i j)) nsE))->∃q,Mw R q (sA tx (a::b::c::d::r) 4 i j c.w df):=fun R df Bn Aad=>by
      match r,hp,d4,Lz with
      |[],hp,_,_=>cases hp
      |t::s1,hp,d4,Lz=>
       rw[q_jk] at hp;unfold o5 at hp;dsimp only at hp;split at hp
       ·rename_i ht
        match s1,hp,d4,Lz with
        |[],hp,_,_=>cases hp
        |u::s2,hp,d4,Lz=>
         dsimp only at hp;cases ha:Nv tx [] s2 with
         |none=>rw[ha] at hp;cases hp
         |some p=>
          obtain⟨a1,s3⟩:=p;rw[ha] at hp
          match s3,hp,ha with
          |[],hp,_=>cases hp
          |z::s4,hp,ha=>
           dsimp only at hp;refine Bhn Lz (by omega) hi hj d4 ht ha (fun k' hk=>?_);have:=Bho (df:=df) (cw:=c.w) (a0:=tv (a1.tm i j)) (w0:=.str (bs u.w)) Lz (by omega) hi hj (Aad _ _) (s2.length+1) [u.w] [a1] s4 k' 0 hp rfl rfl (by simp only[q_jk] at Ck;omega) hk;exact this
       ·cases hp;exact absurd rfl Bn
     split at Bt
     ·rename_i Et;cases Sd:Nv tx nsE r2 with
      |none=>rw[Sd] at Bt;cases Bt
      |some p3=>
       obtain⟨bd,r3⟩:=p3;rw[Sd] at Bt;cases Bt;refine Anq hn hx rfl (by omega) hi hj (Ae2 (Yn _)) ?_;rw[Et];exact key _ true Jc (fun a0 w0 k' t x h1 h2 h3 h4 h5=>Bhm Lz (by omega) hi hj (by simpa using h1) h2 h3 h4 h5 Hd Sd)
     ·rename_i Et;have Et:(b.w==[100,101,102])=false:=by simpa using Et
      cases Bt;refine Contract.weaken (Anq hn hx rfl (by omega) hi hj (Ae2 (bd:=zr) Ar3) ?_) Ara;rw[Et];exact key _ false Jc (fun a0 w0 k' t x h1 h2 h3 h4 h5=>Bhl Lz (by omega) hi hj (by simpa using h1) h2 h3 h4 h5 Hd)
def Bch:libL.map Aex=libL.map Un:=by kernel_rfl
def Bcg:libL.all (fun tx=>decide (tx.length<10000) && (match Un tx with|some ls=>!ls.ps.isEmpty|none=>false))=true:=by kernel_rfl
def Ar4:SV:=.tup [.agg true [.str (bs []),.nils,.int .i64 0,.int .i64 0,.int .i64 0,.int .i64 0,.nils,.int .i64 0,.int .i64 0,.int .i64 0,.int .i64 0,.nils,.bool false],.bool false]
def A1q{n i j:Int}(h:¬((1<=n/\n<=21)/\(0<=i/\i<1000)/\(0<=j/\j<1000))):Con 117 [.int .i64 n,.int .i64 i,.int .i64 j] Ar4:=by
 refine Au mixed Tryz.func117 tr117 ?_;unfold Ar4;simp only[go_sem,seval]
 by_cases h1:n<1
 ·simp only[go_sem,seval,q_jn h1]
 by_cases h2:n > 21
 ·simp only[go_sem,seval,forall_const,q_je h1,q_jn h2]
 by_cases h3:i<0
 ·simp only[go_sem,seval,forall_const,q_je h1,q_je h2,q_jn h3]
 by_cases h4:i >= 1000
 ·simp only[go_sem,seval,forall_const,q_je h1,q_je h2,q_je h3,q_jn h4]
 by_cases h5:j<0
 ·simp only[go_sem,seval,forall_const,q_je h1,q_je h2,q_je h3,q_je h4,q_jn h5]
 by_cases h6:j >= 1000
 ·simp only[go_sem,seval,forall_const,q_je h1,q_je h2,q_je h3,q_je h4,q_je h5,q_jn h6]
 ·exact absurd ⟨⟨by omega,by omega⟩,⟨by omega,by omega⟩,by omega,by omega⟩ h
def Bb8:Lib symT:=by
 refine⟨fun n i j hn hi hj=>?_,fun n i j s hs hd=>?_⟩
 ·by_cases hr:(1<=n/\n<=21)/\(0<=i/\i<1000)/\(0<=j/\j<1000)
  ·obtain⟨tx,ls,h1,h2,h3,h4,h5⟩:=Aku hr;have h6:Aex tx=some ls:=by
    have e:=congrArg (fun l=>l[(n-1).toNat]?) Bch;simp only[q_ji,h1,q_jh,q_b] at e;rw[e];exact h3
   have h7:=List.all_eq_true.1 Bcg _ (q_jb h1);rw[h3,q_jl] at h7;have h:=A1p (i:=i.toNat) (j:=j.toNat) h1 h6 (by
    intro e;have h8:=h7.2;simp[e] at h8) (q_kx h7.1) (by omega) (by omega)
   rw[show (((n-1).toNat+1:Nat):Int)=n by omega,show ((i.toNat:Nat):Int)=i by omega,show ((j.toNat:Nat):Int)=j by omega] at h;have e:Zh ls i.toNat j.toNat=tv (ls.sy i.toNat j.toNat).bd:=by
    unfold Zh LS.sy;cases ls.bd<;>rfl
   rw[e] at h;exact⟨fun s hs=>by rw[h5] at hs;cases hs;exact h,fun hs=>by rw[h5] at hs;cases hs⟩
  ·refine⟨fun s hs=>?_,fun _=>A1q hr⟩;unfold symT at hs;rw[if_neg hr] at hs;cases hs
 ·have hb:symT.B n i j=some s.bd:=by
   unfold SyT.B;rw[hs,Option.bind_some,hd];rfl
  exact⟨(Af4 hb).1.sf,(Af4 hb).2⟩
def Na:Bz symT.B:=fun n i j b hb=>(Af4 hb).1.sf
open Go Go.Proofs Go.Proofs.YtgdkddjdhijfnaaGreatDoor
def af12:AF:=⟨38,[(.t 0)],(Ab [oP 0 (.mv (cB false))] (Ab [oP 6 (Da [(0,(1,(cI 1)))]),oP 7 (.call 15 [(cI 1)]),oP 8 (.call 15 [(cI 0)]),oP 9 (.bslice 5 [(.t 7),(.t 8)]),oP 10 (.call 14 [(cI 15),(.t 9)]),oP 11 (.bslice 5 [(.t 6),(.t 10)]),oP 12 (.call 14 [(cI 14),(.t 11)]),oP 1 Cb,oN (Al 5 1 12)] (.seq (.cut (.reg [⟨(some 14),(Ak 5 1),none,0,true,[]⟩,⟨(some 15),(.call 15 [(cI 0)]),none,1,false,[0]⟩] true) (.cut (Ar [⟨(some 16),(.hcall 9 [(.t 14),(.t 15),(.c (.float .f64 0))]),none,2,false,[2]⟩]) (.reg [oI 13 3 (mT 16),oI 17 4 (.ext (.t 13) 0),oI 18 5 (.ext (.t 13) 1),oI 2 6 (mT 17),oI 3 7 (mT 18)] true))) (Ab [oP 20 (.call 15 [(cI 0)]),oP 21 (.call 15 [(cI 1)]),oP 22 (.hcall 9 [(.t 20),(.t 21),(.c (.float .f64 0))]),Aa 19 22,oP 23 (.ext (.t 19) 0),oP 24 (.ext (.t 19) 1),Aa 4 23,Aa 5 24] (Ab [Aa 25 2,Aa 26 25,oG 27 26 true 0 (mT 3),oG 28 26 true 0 (Aj 27 0),oP 29 (Az 26 28),Aa 30 29,oG 31 30 true 0 (mT 4),oG 32 30 true 0 (.un .not (.t 31)),oP 33 (Az 30 32),Aa 34 33,oG 35 34 true 0 (mT 5),oG 36 34 true 0 (Aj 35 0),oP 37 (Az 34 36),Aa 0 37] .ret)))))⟩
def tr12:trF Tryz.prog Tryz.f12=some af12:=by kernel_rfl
attribute [go_sem] af12
def HContractQ.argsD{P:Program}{f:Nat}{G:GV}{args args':List SV}{Q:HOut->GV->Prop}(h:HContractQ P f G args Q)(hl:LeDs args' args):HContractQ P f G args' Q:=by
 intro m w vs h1 h2 h3 h4;refine h m w vs h1 h2 (by rw[h3,hl.1]) (fun j v y hv hy=>?_);have hj:j<args'.length:=by
  have:=(q_jm.1 hv).1;omega
 exact (hl.2 j _ y (q_f hj) hy).rep (h4 j v _ hv (q_f hj))
def Ag8{t u x y:Tm}(ht:TOk t)(hu:TOk u)(pt:Cg t=true)(pu:Cg u=true)(st:Sf 1048576 t)(su:Sf 1048576 u)(dt:dpt t<=100000000)(du:dpt u<=100000000)(h1:Nf symT.B t x)(h2:Nf symT.B u y)(f:Nat)(G:GV) :
  Dd 9 G [.agg true (tv t),.agg true (tv u),.float .f64 f] (fun o _=>o=.ret (.tup [.bool (Alk x y),.int .i64 0])\/(o=.ret (.tup [.bool false,.int .i64 6])/\∀n n':Nat,NR symT.B 0 (lv 0 t) n x->NR symT.B 0 (lv 0 u) n' y->tsz x+tsz y<=8000->n+n'<=8000->0<n+n'/\Nrm.within ((n+n':Nat):Int) f=false)):=by
 obtain⟨L,hLb,hL,hw⟩:=Azt f;refine HContractQ.mono (A2a Bb8 Na ht hu pt pu st su (q_ja _) dt du hL hLb G) fun o G' h=>?_
 rcases h with⟨b,e,he⟩|⟨e,hn⟩
 ·have:=he _ t u rfl rfl st su;rw[if_pos rfl] at this;rw[this x y h1 h2] at e;exact .inl e
 ·refine .inr ⟨e,fun n n' r1 r2 hs hnn=>?_⟩;have h3:=hn n x n' y r1 r2;refine⟨by omega,?_⟩;cases hc:Nrm.within ((n+n':Nat):Int) f with
  |false=>rfl
  |true=>
   have:=hw (n+n') (by omega) hc;omega
def Ag7(i:Nat):Con 15 [.int .i64 i] (.agg true (tv (vT i))):=by
 refine (Au (r:=.agg true [.int .i64 2,.int .i64 i,.int .i64 0,.int .i64 0,.nils]) mixed Tryz.func15 tr15 ?_).weaken (Su _ _ _ _);simp only[go_sem,seval]
def Zl(k:Int)(rows:GV)(h:rows≠[])(h5:∀r∈rows,r.length=5)(hb:rows.length*56<=140737488355328):Con 14 [.int .i64 k,.dsl 5 rows] (.agg true [.int .i64 k,.int .i64 0,.int .i64 0,.int .i64 0,.dsl 5 rows]):=by
 refine Au mixed Tryz.func14 tr14 ?_;have h0:rows.length≠0:=by simpa using h
 have h2:rows.length<=140737488355328:=by omega
 simp only[go_sem,seval,h0,hb,h2,q_jg,q_kn,List.drop_zero,q_km]
def Zd:Tm:=.mk 15 0 0 0 [vT 1,vT 0]
def f19:Tm:=.mk 14 0 0 0 [.mk 1 0 0 0 [],Zd]
def Al5:apT (vT 0)=Zd:=by kernel_rfl
def Bhx:Sf (1048576+1) Zd:=by
 rw[<-Al5];exact Al7 (.var (by omega))
def Akl:Sf 1048576 f19:=by
 refine .nd 0 0 0 (by decide) (by decide) (by unfold fit;decide) (by rw[kids14];rfl) (fun p t hp=>?_)
 match p,hp with
 |0,hp=>cases hp;exact .nd 0 0 0 (by decide) (by decide) (by unfold fit;decide) (by kernel_rfl) (fun p t hp=>by cases hp)
 |1,hp=>cases hp;exact Bhx
section
variable{B:BT}
def n7(i:Nat):Nm B (vT i):=.mk (Gz (by unfold vT;simp[Tm.k])) (fun p s h=>by cases h)
def Bdb:Nm B Zd:=by
 refine .mk (by rw[Nw rfl,if_neg];decide) (fun p x hx=>?_)
 match p,hx with
 |0,hx=>cases hx;exact n7 1
 |1,hx=>cases hx;exact n7 0
def Bdc:Nm B f19:=by
 refine .mk (Gz (by simp[f19,Tm.k])) (fun p x hx=>?_)
 match p,hx with
 |0,hx=>cases hx;exact .mk (Gz (by simp[Tm.k])) (fun p s h=>by cases h)
 |1,hx=>cases hx;exact Bdb
def Ary{B:BT}(hB:Bz B){t:Tm}(hs:Sf 1048576 t)(h:Nm B t):NR B 0 (lv 0 t) 0 t:=by
 have:=Asf hB (Bdi h hs 0) hs
 rwa [<-lv_0] at this
end
def Bi8:TOk f19:=(PT.tok (C:=1048576) (M:=10) ⟨by kernel_rfl,Akl,q_kx (by kernel_rfl)⟩ (by omega))
def Avw:Alk f19 (vT 0)=true:=by
 rw[Acf (C:=1048576) Akl (.var (by omega)) (.inl rfl)];show Alk Zd (apT (vT 0))=true;rw[Al5];exact Yz _
def Av2:Alk (vT 0) (vT 1)=false:=by
 rw[Xb (C:=2) (.var (by omega)) (.var (by omega)) (by decide) (by decide)];rfl
def Anu{t u:Tm}(ht:TOk t)(hu:TOk u)(pt:Cg t=true)(pu:Cg u=true)(st:Sf 1048576 t)(su:Sf 1048576 u)(h1:Nm symT.B t)(h2:Nm symT.B u)(zt:tsz t<=100)(zu:tsz u<=100)(f:Nat)(G:GV) :
  Dd 9 G [.agg true (tv t),.agg true (tv u),.float .f64 f] (fun o _=>o=.ret (.tup [.bool (Alk t u),.int .i64 0])):=by
 have d1:=Ks t;have d2:=Ks u;refine HContractQ.mono (Ag8 ht hu pt pu st su (by omega) (by omega) ⟨.refl _,h1⟩ ⟨.refl _,h2⟩ f G) fun o G' h=>?_
 rcases h with h|⟨_,h⟩
 ·exact h
 ·have:=(h 0 0 (Ary Na st h1) (Ary Na su h2) (by omega) (by omega)).1;omega
def fL:SV:=.agg true [.int .i64 14,.int .i64 0,.int .i64 0,.int .i64 0,.dsl 5 [[.int .i64 1,.int .i64 0,.int .i64 0,.int .i64 0,.nils],[.int .i64 15,.int .i64 0,.int .i64 0,.int .i64 0,.dsl 5 [tv (vT 1),tv (vT 0)]]]]
def A7s:LeD fL (.agg true (tv f19)):=by
 unfold fL f19 Zd;simp only[As,q_h,q_i];refine .agg' (.cons (.refl _) (.cons (.refl _) (.cons (.refl _) (.cons (.refl _) (.cons (.rows (.cons rfl ?_ (.cons rfl (.refl _) .nil))) .nil)))));exact .cons (.refl _) (.cons (.refl _) (.cons (.refl _) (.cons (.refl _) (.cons (.nils 5) .nil))))
def Ls:Con 12 [] (.bool true):=by
 refine Lt mixed Tryz.func12 tr12 (fun x hx=>by cases hx) (.bool _) ?_;have tv0:TOk (vT 0):=Akz (by omega);have tv1:TOk (vT 1):=Akz (by omega);have s0:Sf 1048576 (vT 0):=.var (by omega);have s1:Sf 1048576 (vT 1):=.var (by omega);have h1:=fun G=>(Anu Bi8 tv0 (by kernel_rfl) (by kernel_rfl) Akl s0 Bdc (n7 0) (q_kx (by kernel_rfl)) (q_kx (by kernel_rfl)) 0 G).argsD (args':=[fL,.agg true (tv (vT 0)),.float .f64 0]) (.cons A7s (.cons (.refl _) (.cons (.refl _) .nil)))
 have h2:=fun G=>Anu tv0 tv1 (by kernel_rfl) (by kernel_rfl) s0 s1 (n7 0) (n7 1) (q_kx (by kernel_rfl)) (q_kx (by kernel_rfl)) 0 G
 rw[Avw] at h1;rw[Av2] at h2;have v0:Con 15 [.int .i64 0] (.agg true (tv (vT 0))):=Ag7 0;have v1:Con 15 [.int .i64 1] (.agg true (tv (vT 1))):=Ag7 1;have n1:=Zl 15 [tv (vT 1),tv (vT 0)] (by simp) (by intro r hr;simp only[q_kb,q_kc,or_false] at hr;rcases hr with rfl|rfl<;>exact Ch _) (by simp);have n2:=Zl 14 [[.int .i64 1,.int .i64 0,.int .i64 0,.int .i64 0,.nils],[.int .i64 15,.int .i64 0,.int .i64 0,.int .i64 0,.dsl 5 [tv (vT 1),tv (vT 0)]]] (by simp) (by intro r hr;simp only[q_kb,q_kc,or_false] at hr;rcases hr with rfl|rfl<;>rfl) (by simp);have e1:=Ch (vT 1);unfold fL at h1;generalize tv (vT 1)=r1 at *
 repeat' first
 |simp only[go_sem,seval,e1]
 |refine Af v1 ?_
 |refine Af v0 ?_
 |refine Af n1 ?_
 |refine Af n2 ?_
 refine Ha (h1 []) trivial (fun r1 G1 k1=>?_) (fun u G1 k1=>by cases k1);cases k1
 repeat' first
 |simp only[go_sem,seval,e1]
 |refine Af v0 ?_
 |refine Af v1 ?_
 refine Ha (h2 _) trivial (fun r1 G2 k1=>?_) (fun u G2 k1=>by cases k1);cases k1;simp only[go_sem,seval,e1]
def En.nf{t x:Tm}{n:Nat}(h:En symT.B t x n):Nf symT.B t x:=by
 obtain⟨p,m,_,_⟩:=(Bfu Na h.way rfl).1 t x rfl rfl _ h.pt.sf;exact⟨p,m⟩
def En.nr{t x:Tm}{n:Nat}(h:En symT.B t x n):NR symT.B 0 (lv 0 t) n x:=by
 have:=Asf Na h.way h.pt.sf
 rwa [<-lv_0] at this
def En.sfx{t x:Tm}{n:Nat}(h:En symT.B t x n):Sf 1048576 x:=h.nf.sf Na h.pt.sf
def conv19{t u x y:Tm}{n n':Nat}(ht:TOk t)(hu:TOk u)(h1:En symT.B t x n)(h2:En symT.B u y n')(f:Nat)(G:GV) :
  Dd 9 G [.agg true (tv t),.agg true (tv u),.float .f64 f] (fun o _=>o=.ret (.tup [.bool (Alk x y),.int .i64 0])\/(o=.ret (.tup [.bool false,.int .i64 6])/\Nrm.within ((n+n':Nat):Int) f=false)):=by
 have d1:=Ks t;have d2:=Ks u;have z1:=h1.pt.sz;have z2:=h2.pt.sz;have s1:=h1.sz;have s2:=h2.sz;have n1:=h1.n4;have n2:=h2.n4;refine HContractQ.mono (Ag8 ht hu h1.pt.pl h2.pt.pl h1.pt.sf h2.pt.sf (by omega) (by omega) h1.nf h2.nf f G) fun o G' h=>?_
 rcases h with e|⟨e,hn⟩
 ·exact .inl e
 ·exact .inr ⟨e,(hn n n' h1.nr h2.nr (by omega) (by omega)).2⟩
open Go Go.RowKit
def Abl{H:Type}{enc:TypeId×Value->H}{C:Checked}{os:Os}{f:FuncId}{fn:Func}{s:ChangeSpec}{S:List TypeId}{tb:TypeId}{apart Ea handsOn:Bool}{X:World->Array Value->Prop}(hX:∀(w w':World) (args:Array Value),w.heap=w'.heap->X w args->X w' args)(own:ownKnob C.prog.godebug=none)(started:os.Started)(noInit:C.prog.inits.idxOf? f=none)
  (Hj:C.prog.funcs[f]?=some fn) (Aqq:s.vars=[])
  (witness:∃(w:World) (tape:Tape) (i:Input),w.os=os/\(w.forCall tape i).Shaped C.prog/\i.vars=[]/\Input.okWide C.prog (w.forCall tape i) .any w.heap.size f i /\
   ((s.pre enc C.prog fn [] apart (w.forCall tape i).memory i.args/\X (w.forCall tape i).memory i.args)/\sizedMet enc C.prog fn (OpenSpec.ofChange s) apart (w.forCall tape i).memory i.args)/\({}:Assume).holds C.prog (lone (Frame.enter C.prog f i.args .normal) [] (w.forCall tape i)))
  (hs:∀ds:List (DataW H),ds.length=fn.params.size->s.fn H ds={ results:=[.lit (.bool true)],args:=ds }) (Aiv:fn.resultTypes=#[tb]) (htb:C.prog.underlying tb=some .bool)
  (hS:Zp C.prog S=true) (Ad9:∀t∈fn.params.toList,t∈S) (hlaid:laidOutB C.prog=true) (hread:∀t∈fn.params.toList,C.prog.readableRec t=true/\t<C.prog.types.size)
  (law:∀args:List SV,Qm C.prog fn.params.toList args->Contract C.prog f args (.bool true)) :
  ReturnsInHanded {} C os f .any (fun w args=>(s.pre enc C.prog fn [] apart w args/\X w args)/\sizedMet enc C.prog fn (OpenSpec.ofChange s) apart w args) (s.post enc C.prog fn apart Ea handsOn false):=by
 refine returnsInHanded_of_change_and (C:=C) (X:=X) hX own started noInit Hj witness ?_;intro W base args ds gs before Gb hW _ Bi _ _;have hW':=hW;have Ag:∀x∈before,x.block<W.heap.size:=fun x hx=>hW'.lt x hx
 obtain⟨p,q,hA,hV,rfl,Xz,hnd⟩:=hW;rw[Aqq] at hV;have hgs:gs=[]/\q=[]:=by
  cases gs with
  |nil=>exact⟨rfl,hV⟩
  |cons g gs=>exact hV.elim
 obtain⟨rfl,rfl⟩:=hgs;have Mj:∀n∈DataW.weightsEach C.prog fn.params.toList ds,n<=reachBytes:=by
  intro n hn;have:=List.all_eq_true.1 Bi n (Bkw hn);simpa using this
 have Xw:ds.length=fn.params.size:=by
  have:=(trodAll_length hA).2;simpa using this
 obtain⟨xs,a1,a2,a3⟩:=Awm hS Ad9 (fun j t v ht hv=>Gb j t v (by simpa using ht) (by simpa using hv)) Mj hA;have hc:=law xs a1 (Qc W) W args.toList ⟨fun b j v h=>h,fun b h=>h.elim⟩ a2.symm a3;refine Calls.mono hc (fun e W' he=>?_);obtain⟨v,m',rfl,k1,k2,k3,k4,k5,k6,k7,k8,k9⟩:=he;cases k1;have hb:Below W.heap.size W W':=⟨k5,k6,k7,k8,k9⟩
 refine⟨_,rfl,ds,[],p++[],[],p,[],hW',?_,?_,?_,hb.frame _,fun h=>by cases h⟩
 ·rw[q_k,hs ds Xw,Aiv];exact⟨[],[],⟨1,by simp[DataW.trod,htb,Value.cells]⟩,rfl,rfl⟩
 ·rw[q_k,hs ds Xw];exact Bjk hlaid hb hread (fun x hx=>Ag x (by simpa using hx)) hA
 ·rw[q_k,hs ds Xw,Aqq];rfl
end Go.Proofs.YtgdkddjdhijfnaaGreatDoor.Abs
