import Derived.Test.YtgfehkhcmnfpaaaGreatDoorVAbx
import Derived.Carry
import Derived.SizedLaws
import Derived.ChangeCalls
set_option linter.all false
set_option maxRecDepth 20000
set_option maxHeartbeats 4000000
namespace Go.Proofs.YtgfehkhcmnfpaaaGreatDoor.Abs
open Go Go.RowKit
def Jd(k:K3):Value:=.agg #[.int .i64 k.1,.int .i64 k.2.1,.int .i64 k.2.2]
inductive GRow(m:Mem)(w:World)(b:Nat):List SV->Prop
 |cells (row:List SV) (c:Array Value) (e:TypeId):w.heap[b]?=some (.cells c e (0,0))->row.length<=c.size->(∀(k:Nat) (v:Value) (x:SV),c[k]?=some v->row[k]?=some x->Rep m v x/\v.oneCell'=true)->(∀(k:Nat) (v:Value),c[k]?=some v->v.oneCell'=true)->GRow m w b row
 |map (es:Array MapEntry) (k:Nat) (l:List (K3×SV)):w.heap[b]?=some (.map es k)->es.size=l.length->(∀(j:Nat) e p,es[j]?=some e->l[j]?=some p->e.key=Jd p.1/\Rep m e.val p.2)->(∀p∈l,ok3 p.1)->(l.map (·.1)).Nodup->GRow m w b (Of l)
structure GSat(m:Mem)(w:World)(G:GV):Prop where
 dom:∀i,i<G.length↔∃b,m.d i=some b
 inj:∀i j b,m.d i=some b->m.d j=some b->i=j
 row:∀i r b,G[i]?=some r->m.d i=some b->GRow m w b r
 free:∀i b j,m.d i=some b->m b j=none
def GRow.mono{m m':Mem}{w w':World}{b:Nat}{row:List SV}(h:GRow m w b row)(hm:m.le m')(hw:w'.heap[b]?=w.heap[b]?):GRow m' w' b row:=by
 cases h with
 |cells _ c e h1 h2 h3 h4=>exact .cells _ c e (hw.trans h1) h2 (fun k v x hv hx=>⟨(h3 k v x hv hx).1.mono hm,(h3 k v x hv hx).2⟩) h4
 |map es k l h h1 h2 h3 h4=>exact .map es k l (hw.trans h) h1 (fun j e p he hp=>⟨(h2 j e p he hp).1,(h2 j e p he hp).2.mono hm⟩) h3 h4
def GRow.lt{m:Mem}{w:World}{b:Nat}{row:List SV}(h:GRow m w b row):b<w.heap.size:=by
 have key:∀o,w.heap[b]?=some o->b<w.heap.size:=fun o ho=>(Array.getElem?_eq_some_iff.1 ho).1
 cases h with
 |cells _ c e h1=>exact key _ h1
 |map es k l h=>exact key _ h
def GSat.lt{m:Mem}{w:World}{G:GV}(h:GSat m w G){i b:Nat}(hd:m.d i=some b):b<w.heap.size:=by
 have hi:=(h.dom i).2 ⟨b,hd⟩;exact (h.row i _ b (q_f hi) hd).lt
def Aca(old:List PanicEntry):Prop:=∀p∈old,p.goexit=false
def Qt(m:Mem)(e:Ending):HOut->Prop
 |.ret r=>∃v,e=.returned v/\Rep m v r
 |.pan x=>∃v old,Aca old/\e=.panicked ({ v:=v,recovered:=false }::old)/\Rep m v x
abbrev Lo(m:Mem)(w:World)(m':Mem)(w':World)(G':GV):Prop:=m.le m'/\(∀b j,b<w.heap.size->m' b j=m b j)/\Fk m' w'/\GSat m' w' G' /\
   (∀i b,m'.d i=some b->m.d i=some b\/w.heap.size<=b)/\w'.os=w.os/\w'.tape=w.tape/\w'.output=w.output/\w.heap.size<=w'.heap.size/\∀k,k<w.heap.size->(∀i,m.d i≠some k)->w'.heap[k]?=w.heap[k]?
def HContract(P:Program)(f:Nat)(G:GV)(args:List SV)(out:HOut)(G':GV):Prop:=
 ∀(m:Mem) (w:World) (vs:List Value),Fk m w->GSat m w G->vs.length=args.length->(∀(j:Nat) v x,vs[j]?=some v->args[j]?=some x->Rep m v x) ->
  Calls P f vs.toArray w fun e w'=>∃m',Qt m' e out/\Lo m w m' w' G'
def HContractQ(P:Program)(f:Nat)(G:GV)(args:List SV)(Q:HOut->GV->Prop):Prop:=
 ∀(m:Mem) (w:World) (vs:List Value),Fk m w->GSat m w G->vs.length=args.length->(∀(j:Nat) v x,vs[j]?=some v->args[j]?=some x->Rep m v x) ->
  Calls P f vs.toArray w fun e w'=>∃out G',Q out G'/\∃m',Qt m' e out/\Lo m w m' w' G'
def Afm(out:HOut)(G:GV):HOut->GV->Prop:=fun o g=>o=out/\g=G
def HContract.q{P:Program}{f:Nat}{G G':GV}{args:List SV}{out:HOut}(h:HContract P f G args out G'):HContractQ P f G args (Afm out G'):=
 fun m w vs h1 h2 h3 h4=>Calls.mono (h m w vs h1 h2 h3 h4) (fun _ _ he=>⟨out,G',⟨rfl,rfl⟩,he⟩)
def HContractQ.mono{P:Program}{f:Nat}{G:GV}{args:List SV}{Q Q':HOut->GV->Prop}(h:HContractQ P f G args Q)(hQ:∀out G',Q out G'->Q' out G'):HContractQ P f G args Q':=
 fun m w vs h1 h2 h3 h4=>Calls.mono (h m w vs h1 h2 h3 h4) (fun _ _ ⟨out,G',k,he⟩=>⟨out,G',hQ _ _ k,he⟩)
def HContractQ.one{P:Program}{f:Nat}{G G':GV}{args:List SV}{out:HOut}{Q:HOut->GV->Prop}(h:HContractQ P f G args Q)(hQ:∀o g,Q o g->o=out/\g=G'):HContract P f G args out G':=
 fun m w vs h1 h2 h3 h4=>Calls.mono (h m w vs h1 h2 h3 h4) (fun _ _ ⟨o,g,k,he⟩=>by obtain⟨rfl,rfl⟩:=hQ _ _ k;exact he)
def Env.view(E:Env):Option (GV)->Nat->Option Ob
 |none,o=>E.H o
 |some G,o=>if o=0 then some (gOb G) else E.H o
structure GI(n0:Nat)(own:Nat->Prop)(E:Env)(w:World)(G:GV):Prop where
 z:E.H 0=none
 sat:GSat E.m w G
 new:∀i b,E.m.d i=some b->n0<=b\/own b
 obs:∀i b o ob,E.m.d i=some b->E.H o=some ob->0<E.t o->E.β o≠b
def GX(n0:Nat)(own:Nat->Prop)(E:Env)(w:World):Option (GV)->Prop
 |none=>True
 |some G=>GI n0 own E w G
structure StepV(U:Nat->Prop)(w0:World)(own:Nat->Prop)(E:Env)(g:Option (GV))(E':Env)(g':Option (GV))(w':World)(hp':List Ob):Prop where
 ext:Ext0 E E'
 wo:W w0 own E' w'
 gx:GX w0.heap.size own E' w' g'
 on:∀o,U o->E'.view g' o=hp'[o]?
 off:∀o,¬U o->E'.view g' o=E.view g o
 sm:g'.isSome=g.isSome
 d:g=none->E'.m.d=E.m.d
def RelV.re{E:Env}{M:Mem}{v:Value}{x:SV}(h:RelV E v x):RelV { E with m0:=M } v x:=by
 induction h with
 |J v=>exact .J v
 |undef=>exact .undef
 |rep v s hr=>exact .rep v s hr
 |ref o g e c b j ob h1 h2 h3=>exact .ref o g e c b j ob h1 h2 h3
 |osl o g off len A n cap ob h1 h2 hnl h3=>exact .osl o g off len A n cap ob h1 h2 hnl h3
 |agg vs l h0 h1 _ ih=>exact .agg vs l h0 h1 ih
def Pc(E:Env)(b:Nat):Prop:=∃o ob,E.H o=some ob/\0<E.t o/\E.β o=b
def W.rebase{w0:World}{own:Nat->Prop}{E:Env}{w:World}(h:W w0 own E w):W w (Pc E) { E with m0:=E.m } w:=by
 refine⟨rfl,rfl,rfl,q_ja _,fun _ _ _=>rfl,h.mem,fun o ob ho=>?_,h.inj,fun _ _ _ _=>rfl,h.pl,fun b hb=>?_⟩;rotate_left
 ·have h1:=h.tb b hb;have h2:=h.tab b hb;refine⟨q_kp h1.1 h.size,fun ⟨o,ob,ho,ht,e⟩=>?_,h2.1,h2.2⟩;obtain⟨c,e',k⟩:=(h.obs o ob ho).live ht;subst e;exact k.new.elim (fun h3=>by have:=h1.1;omega) h1.2.1
 have hk:=h.obs o ob ho;refine⟨hk.rows,hk.frz,hk.fit,hk.box,hk.bnd,fun ht=>?_⟩;obtain⟨c,e,k⟩:=hk.live ht;exact⟨c,e,⟨k.blk,k.size,.inr ⟨o,ob,ho,ht,rfl⟩,fun j v x hv hx=>(k.rel j v x hv hx).re,k.one,k.old,k.free,k.clo,k.pl⟩⟩
def W.owned{w0:World}{own:Nat->Prop}{E:Env}{w:World}(h:W w0 own E w){b:Nat}(hb:Pc E b):w0.heap.size<=b\/own b:=by
 obtain⟨o,ob,ho,ht,rfl⟩:=hb;obtain⟨c,e,k⟩:=(h.obs o ob ho).live ht;exact k.new
def W.back{w0:World}{own own':Nat->Prop}{E E1:Env}{w w':World}(h:W w0 own E w)(h':W w own' E1 w')(hz:E1.m0=E.m)(ho:∀b,own' b->w0.heap.size<=b\/own b):W w0 own { E1 with m0:=E.m0 } w':=by
 refine⟨h'.os.trans h.os,h'.tape.trans h.tape,h'.output.trans h.output,q_ko h.size h'.size,fun k hk hn=>?_,h'.mem,fun o ob hob=>?_,h'.inj,fun b j hb hn=>?_,h'.pl,h.tb⟩
 ·rw[h'.block k (q_kp hk h.size) (fun hq=>(ho k hq).elim (fun h1=>by omega) hn)];exact h.block k hk hn
 ·have hk:=h'.obs o ob hob;refine⟨hk.rows,hk.frz,hk.fit,hk.box,hk.bnd,fun ht=>?_⟩;obtain⟨c,e,k⟩:=hk.live ht;refine⟨c,e,⟨k.blk,k.size,?_,fun j v x hv hx=>(k.rel j v x hv hx).re,k.one,k.old,k.free,k.clo,k.pl⟩⟩;rcases k.new with hq|hq
  ·exact .inl (q_ko h.size hq)
  ·exact ho _ hq
 ·show E1.m b j=E.m0 b j;rw[h'.keep b j (q_kp hb h.size) (fun hq=>(ho b hq).elim (fun h1=>by omega) hn),hz];exact h.keep b j hb hn
section
variable{P:Program}{U:Nat->Prop}{w0:World}{own:Nat->Prop}{E:Env}{w:World}{s:St}{a:Act}{g:Option (GV)}{G:GV}
def GI.after{E1:Env}{w':World}(hW:W w0 own E w)(h:GI w0.heap.size own E w G)(h':W w (Pc E) E1 w')(hx:Ext { E with m0:=E.m } E1)(h0:E1.H 0=none):GI w0.heap.size own { E1 with m0:=E.m0 } w' G:=by
 have hd:E1.m.d=E.m.d:=hx.d;have hz:E1.m0=E.m:=hx.z;have hm:E.m.le E1.m:=hx.m;have Dv:∀i b,E.m.d i=some b->¬Pc E b:=fun i b hb=>by
  rintro ⟨o,ob,ho,ht,rfl⟩;exact h.obs i _ o ob hb ho ht rfl
 refine⟨h0,⟨fun i=>?_,fun i j b hi hj=>?_,fun i r b hr hi=>?_,fun i b j hi=>?_⟩,fun i b hi=>?_,fun i b o ob hi ho ht=>?_⟩
 ·show i<G.length↔∃b,E1.m.d i=some b;rw[hd];exact h.sat.dom i
 ·exact h.sat.inj i j b (by rw[<-hd];exact hi) (by rw[<-hd];exact hj)
 ·have Dk:E.m.d i=some b:=by rw[<-hd];exact hi
  refine (h.sat.row i r b hr Dk).mono hm ?_;exact h'.block b (h.sat.lt Dk) (Dv i b Dk)
 ·have Dk:E.m.d i=some b:=by rw[<-hd];exact hi
  show E1.m b j=none;rw[h'.keep b j (h.sat.lt Dk) (Dv i b Dk),hz];exact h.sat.free i b j Dk
 ·exact h.new i b (by rw[<-hd];exact hi)
 ·have Dk:E.m.d i=some b:=by rw[<-hd];exact hi
  obtain⟨c,e,k⟩:=(h'.obs o ob ho).live ht;have Aq:=h.sat.lt Dk;rcases k.new with hq|hq
  ·show E1.β o≠b;omega
  ·rintro rfl;exact Dv i _ Dk hq
def Oe{u:Value}{x:SV}(hz:E.H 0=none)(h:RelV E u x):∀i∈Dh x,i≠0:=by
 intro i hi;cases x with
 |osl o g off len=>
  simp only[Dh,q_ki] at hi;subst hi;rintro rfl;cases h with
  |rep _ _ hr=>cases hr
  |osl _ _ _ _ A n cap ob ho=>rw[hz] at ho;cases ho
 |ref o g e c=>
  simp only[Dh,q_ki] at hi;subst hi;rintro rfl;cases h with
  |rep _ _ hr=>cases hr
  |ref _ _ _ _ b j ob ho=>rw[hz] at ho;cases ho
 |_=>simp[Dh] at hi
def Ao9(hW:W w0 own E w)(hz:E.H 0=none){o:Nat}{ob:Ob}(ho:E.H o=some ob):∀i∈(ob.els.getD 0 []).flatMap Dh,i≠0:=by
 intro i hi;obtain⟨x,hx,hix⟩:=List.mem_flatMap.1 hi;have hk:=hW.obs o ob ho;have Dj:ob.els≠[]:=by
  rintro he;rw[he] at hx;simp at hx
 obtain⟨r,l,Gc⟩:=List.exists_cons_of_ne_nil Dj;have Qf:ob.els.getD 0 []=r:=by rw[Gc];rfl
 rw[Qf] at hx;have hrl:=hk.rows r (by rw[Gc];exact List.mem_cons_self);obtain⟨k,Ek⟩:=q_jw hx;have Jc:k<r.length:=(q_jm.1 Ek).1;have Bl:1<=ob.els.length:=by rw[Gc];simp
 have Ma:1*ob.sz<=ob.els.length*ob.sz:=q_jy _ Bl;have Ew:=hk.fit;have ht:0<E.t o:=by omega
 obtain⟨c,e,lv⟩:=hk.live ht;have hc:k<c.size:=by have:=lv.size;omega
 have Hp:ob.els.flatten[k]?=some x:=by
  rw[Gc,List.flatten_cons,q_jf Jc];exact Ek
 exact Oe hz (lv.rel k c[k] x (Array.getElem?_eq_getElem hc) Hp) i hix
def Aaw{hp:List Ob}{u:Value}{x:SV}(hW:W w0 own E w)(hz:E.H 0=none)(hu:∀i∈Ec hp x,i≠0->E.H i=hp[i]?)(h:RelV E u x):∀i∈Ec hp x,i≠0:=by
 cases x with
 |ref o g e c=>
  have ho:o≠0:=Oe hz h o (by simp[Dh]);have hv:=hu o (by simp[Ec]) ho;intro i hi;simp only[Ec,q_kb] at hi;rcases hi with rfl|hi
  ·exact ho
  ·cases hq:hp[o]? with
   |none=>rw[hq] at hi;simp at hi
   |some ob=>
    rw[hq] at hi hv;simp only at hi;split at hi
    ·cases hi
    ·exact Ao9 hW hz hv i hi
 |agg b l=>
  intro i hi;cases b with
  |true=>simp[Ec,Dh] at hi
  |false=>
   simp only[Ec] at hi;obtain⟨x,hx,hix⟩:=List.mem_flatMap.1 hi;cases h with
   |rep _ _ hr=>cases hr
   |agg vs _ h0 h1 h2=>
    obtain⟨k,hk⟩:=q_jw hx;have Jc:k<l.length:=(q_jm.1 hk).1;exact Oe hz (h2 k _ x (q_f (by omega)) hk) i hix
 |osl o g off len=>exact fun i hi=>Oe hz h i hi
 |_=>intro i hi;simp[Ec,Dh] at hi
def Af6{l:List Operand}:∀{xs:List AX},Ph l=some xs->xs.length=l.length/\∀(j:Nat) x,l[j]?=some x->∃ax,xs[j]?=some ax/\trX x=some ax:=by
 induction l with
 |nil=>intro xs h;simp only[Ph,q_b] at h;subst h;simp
 |cons y l ih=>
  intro xs h;simp only[Ph,q_c,q_a,q_d,q_b] at h;obtain⟨ay,Ev,r,hr,rfl⟩:=h;obtain⟨h1,h2⟩:=ih hr;refine⟨by simp[h1],fun j x hx=>?_⟩;cases j with
  |zero=>simp at hx;subst hx;exact⟨ay,by simp,Ev⟩
  |succ j=>obtain⟨ax,g1,g2⟩:=h2 j x (by simpa using hx);exact⟨ax,by simpa using g1,g2⟩
def Akq:∀{l l':List SV} {E:Env} {hp hp':List Ob} {vs:List Value},W w0 own E w->E.H 0=none->(∀i,U i->i≠0->E.H i=hp[i]?)->Eo hp l=some (l',hp')->vs.length=l.length ->
  (∀(j:Nat) (v:Value) (x:SV),vs[j]?=some v->l[j]?=some x->RelV E v x)->(∀o∈Hi hp l,U o)->∀i∈Hi hp l,i≠0:=by
 intro l
 induction l with
 |nil=>intro l' E hp hp' vs _ _ _ _ _ _ _ i hi;simp[Hi] at hi
 |cons s l ih=>
  intro l' E hp hp' vs hW hz hu hc hl hr hi;cases vs with
  |nil=>simp at hl
  |cons v vs=>
   simp only[Eo] at hc;split at hc;rotate_left
   ·cases hc
   rename_i c' h1 Iz;split at hc;rotate_left
   ·cases hc
   rename_i r' h2 Ij;simp only[Hi,Iz] at hi |-;have Qf:=hr 0 v s rfl rfl;have n1:=Aaw hW hz (fun i h h0=>hu i (hi i (List.mem_append_left _ h)) h0) Qf;obtain⟨e1,E1,st1,rep1,b1,t1⟩:=Xb (U:=fun i=>U i/\i≠0) hW (fun i h=>hu i h.1 h.2) Iz Qf (fun o ho=>⟨hi o (List.mem_append_left _ ho),n1 o ho⟩);have Rv:E1.H 0=none:=by rw[st1.off 0 (fun h=>h.2 rfl)];exact hz
   have n2:=ih st1.wo Rv (fun i h h0=>st1.on i ⟨h,h0⟩) Ij (by simpa using hl) (fun j v' x hv hx=>(hr (j+1) v' x (by simpa using hv) (by simpa using hx)).mono st1.ext) (fun o ho=>hi o (List.mem_append_right _ ho));intro i hmi;rcases q_ke.1 hmi with h|h
   ·exact n1 i h
   ·exact n2 i h
def A4v{hp:List Ob}{u:Value}{ad x:SV}(hW:W w0 own E w)(hz:E.H 0=none)(hu:∀i,U i->i≠0->E.H i=hp[i]?)(h:RelV E u x)(hi:∀i∈Pi hp ad x,U i):∀i∈Pi hp ad x,i≠0:=by
 have key:(∀i∈Ec hp x,U i)->∀i∈Ec hp x,i≠0:=fun hi=>Aaw hW hz (fun i h h0=>hu i (hi i h) h0) h
 unfold Pi at hi |-;split
 ·split
  ·rename_i hob;split
   ·intro i h;cases h
   ·rename_i hb;refine key (fun i h=>hi i ?_);simp only[hob,if_neg hb];exact h
  ·rename_i hob;refine key (fun i h=>hi i ?_);simp only[hob];exact h
 ·rename_i Dv;refine key (fun i h=>hi i ?_);split
  ·rename_i o g e c;exact absurd rfl (Dv o g e c)
  ·exact h
def A4u{op:Op}{aop:AOp}(tr:Br P op=some aop)(Ct:Hx s aop=false)(hcl:∀sz ps,aop=.bslice sz ps->∃l h,Eo s.hp (ps.map s.get)=some (l,h))(Ai5:∀f args,(aop=.call f args\/∃fs x,aop=.callv fs x args)->∃l h,Eo s.hp (args.map s.get)=some (l,h))
  (hW:W w0 own E w) (hz:E.H 0=none) (hu:∀i,U i->i≠0->E.H i=s.hp[i]?) (Db:∀i∈Dt s aop,U i)
  (hx:∀x∈op.operands,∀ax,trX x=some ax->RelV E (a.eval x) (s.get ax)):∀i∈Dt s aop,i≠0:=by
 have row:∀(xs:List Operand) (axs:List AX),(∀x∈xs,x∈op.operands)->axs.length=xs.length->(∀(j:Nat) x,xs[j]?=some x->∃ax,axs[j]?=some ax/\trX x=some ax)->(∃l h,Eo s.hp (axs.map s.get)=some (l,h))->(∀i∈Hi s.hp (axs.map s.get),U i) ->
   ∀i∈Hi s.hp (axs.map s.get),i≠0:=by
  intro xs axs Dz Bl Gj hcl hU;obtain⟨l,h,hcl⟩:=hcl;refine Akq (vs:=xs.map a.eval) hW hz hu hcl (by simp[Bl]) (fun j v x hv Dd=>?_) hU;simp only[q_ji,q_e] at hv Dd;obtain⟨y,hy,rfl⟩:=hv;obtain⟨ax,Bb,rfl⟩:=Dd;obtain⟨ax',g1,g2⟩:=Gj j y hy;rw[Bb] at g1;cases g1;exact hx y (Dz y (q_jb hy)) ax g2
 cases op with
 |load t x=>
  simp only[Br,q_c,q_a] at tr;obtain⟨ag,Gh,ax,Bb,tr⟩:=tr;split at tr;rotate_left
  ·cases tr
  cases tr;show ∀i∈adC (s.get ax),i≠0;rw[l6 Ct];exact Oe hz (hx x (by simp[Op.operands]) ax Bb)
 |store t x y=>
  simp only[Br,q_c,q_a] at tr;obtain⟨ag,Gh,ax,Bb,ay,Ev,tr⟩:=tr;split at tr;rotate_left
  ·cases tr
  cases tr;intro i hi;simp only[Dt] at hi Db;rcases q_ke.1 hi with h|h
  ·rw[l6 Ct] at h;exact Oe hz (hx x (by simp[Op.operands]) ax Bb) i h
  ·exact A4v hW hz hu (hx y (by simp[Op.operands]) ay Ev) (fun i h=>Db i (List.mem_append_right _ h)) i h
 |buildSlice t len parts=>
  simp only[Br,q_c,q_a] at tr;obtain⟨e,Gb,xs,Ic,tr⟩:=tr;split at tr;rotate_left
  ·cases tr
  cases tr;obtain⟨h1,h2⟩:=Aft Ic;refine row (parts.toList.map (·.2)) xs (fun x hx=>?_) (by simp[h1]) (fun j x hx=>?_) (hcl _ _ rfl) Db
  ·obtain⟨q,hq,rfl⟩:=q_kz.1 hx;simp only[Op.operands,List.mem_toArray,q_kz];exact⟨q,hq,rfl⟩
  ·simp only[q_ji,q_e] at hx;obtain⟨q,hq,rfl⟩:=hx;exact (h2 j q hq).2
 |slice t x lo hi mx=>
  cases mx with
  |some m=>simp[Br] at tr
  |none=>
   simp only[Br] at tr;have hk:∃ax,trX x=some ax/\Dt s aop=Dh (s.get ax):=by
    split at tr
    ·split at tr
     ·simp only[q_c,q_a,q_d,q_b] at tr;obtain⟨ax,Bb,lo',_,Dk,_,rfl⟩:=tr;exact⟨ax,Bb,rfl⟩
     ·cases tr
    ·simp only[q_c,q_a,q_d,q_b] at tr;obtain⟨ax,Bb,lo',_,Dk,_,rfl⟩:=tr;exact⟨ax,Bb,rfl⟩
    ·cases tr
   obtain⟨ax,Bb,he⟩:=hk;rw[he];exact Oe hz (hx x (by simp[Op.operands]) ax Bb)
 |indexAddr t x i=>
  simp only[Br,q_c,q_a] at tr;obtain⟨e,he,tr⟩:=tr;split at tr;rotate_left
  ·cases tr
  simp only[q_a,q_d,q_b] at tr;obtain⟨ax,Bb,ai,Xw,rfl⟩:=tr;exact Oe hz (hx x (by simp[Op.operands]) ax Bb)
 |call c=>
  obtain⟨callee,args,argTypes⟩:=c;simp only[Br] at tr;split at tr
  ·split at tr
   ·cases tr
   ·split at tr
    ·simp only[q_e] at tr;obtain⟨ax,_,rfl⟩:=tr;intro i hi;cases hi
    ·simp only[q_e] at tr;obtain⟨ax,_,rfl⟩:=tr;intro i hi;cases hi
    ·cases tr
  ·rename_i sx x Fs;have Px:args=#[sx,x]:=by simpa using congrArg List.toArray Fs
   subst Px;simp only[q_c,q_a] at tr;obtain⟨e,Gb,z,Wa,tr⟩:=tr;split at tr;rotate_left
   ·cases tr
   simp only[q_a,q_d,q_b] at tr;obtain⟨as,has,ax,Bb,rfl⟩:=tr;intro i hi;rcases q_ke.1 hi with h|h
   ·exact Oe hz (hx sx (by simp[Op.operands,Call.operands]) as has) i h
   ·exact Oe hz (hx x (by simp[Op.operands,Call.operands]) ax Bb) i h
  ·simp only[q_c,q_a,q_d,q_b] at tr;obtain⟨ax,_,ay,_,rfl⟩:=tr;intro i hi;cases hi
  ·simp only[q_c,q_a,q_d,q_b] at tr;obtain⟨ax,_,ay,_,rfl⟩:=tr;intro i hi;cases hi
  ·rename_i f xs;split at tr;rotate_left
   ·cases tr
   split at tr;rotate_left
   ·cases tr
   simp only[q_e] at tr;obtain⟨axs,Oq,htr⟩:=tr;split at htr
   ·subst htr;simp[Hx] at Ct
   subst htr;obtain⟨h1,h2⟩:=Af6 Oq;exact row args.toList axs (fun x hx=>by simp[Op.operands,Call.operands,Array.mem_def,hx]) h1 h2 (Ai5 _ _ (.inl rfl)) Db
  ·rename_i t xs;simp only[q_e] at tr;obtain⟨axs,Oq,rfl⟩:=tr;obtain⟨h1,h2⟩:=Af6 Oq;exact row args.toList axs (fun x hx=>by simp[Op.operands,Call.operands,Array.mem_def,hx]) h1 h2 (Ai5 0 _ (.inr ⟨_,_,rfl⟩)) Db
  ·cases tr
 |alloc t=>
  simp only[Br,q_e] at tr;obtain⟨z,_,htr⟩:=tr;split at htr
  ·subst htr;simp[Hx] at Ct
  ·subst htr;intro i hi;cases hi
 |box t x=>
  simp only[Br,q_e] at tr;obtain⟨z,_,htr⟩:=tr;split at htr
  ·subst htr;simp[Hx] at Ct
  ·subst htr;intro i hi;cases hi
 |move x=>
  simp only[Br,q_e] at tr;obtain⟨_,_,rfl⟩:=tr;intro i hi;cases hi
 |assign x=>
  simp only[Br,q_e] at tr;obtain⟨_,_,rfl⟩:=tr;intro i hi;cases hi
 |nilCheck x=>
  simp only[Br,q_e] at tr;obtain⟨_,_,rfl⟩:=tr;intro i hi;cases hi
 |unOp op t x=>
  simp only[Br,q_e] at tr;obtain⟨_,_,rfl⟩:=tr;intro i hi;cases hi
 |index t x i=>
  simp only[Br] at tr;split at tr;rotate_left
  ·cases tr
  simp only[q_c,q_a,q_d,q_b] at tr;obtain⟨_,_,_,_,rfl⟩:=tr;intro i hi;cases hi
 |extract x i=>
  simp only[Br,q_e] at tr;obtain⟨_,_,rfl⟩:=tr;intro i hi;cases hi
 |pick c x y=>
  simp only[Br,q_c,q_a,q_d,q_b] at tr;obtain⟨_,_,_,_,_,_,rfl⟩:=tr;intro i hi;cases hi
 |lookup t x k ok=>
  cases ok with
  |false=>simp[Br] at tr
  |true=>
   simp only[Br] at tr;split at tr;rotate_left
   ·cases tr
   simp only[q_c,q_a,q_d,q_b] at tr;obtain⟨_,_,_,_,rfl⟩:=tr;simp[Hx] at Ct
 |mapUpdate t x k v=>
  simp only[Br] at tr;split at tr;rotate_left
  ·cases tr
  simp only[q_c,q_a,q_d,q_b] at tr;obtain⟨_,_,_,_,_,_,rfl⟩:=tr;simp[Hx] at Ct
 |build t parts=>
  simp only[Br] at tr;split at tr;rotate_left
  ·simp only[q_c,q_a] at tr;obtain⟨_,_,_,_,tr⟩:=tr;split at tr;rotate_left
   ·cases tr
   cases tr;intro i hi;cases hi
  ·cases tr
  simp only[q_c,q_a] at tr;obtain⟨_,_,_,_,tr⟩:=tr;split at tr;rotate_left
  ·cases tr
  cases tr;intro i hi;cases hi
 |binOp op t x y yt=>
  simp only[Br] at tr;split at tr
  iterate 3
   ·simp only[q_c,q_a,q_d,q_b] at tr;obtain⟨_,_,_,_,rfl⟩:=tr;intro i hi;cases hi
  ·split at tr;rotate_left
   ·cases tr
   split at tr;rotate_left
   ·cases tr
   simp only[q_c,q_a,q_d,q_b] at tr;obtain⟨_,_,_,_,rfl⟩:=tr;intro i hi;cases hi
  ·simp only[q_c,q_a,q_d,q_b] at tr;obtain⟨_,_,_,_,rfl⟩:=tr;intro i hi;cases hi
  ·cases tr
 |convert a b x=>
  simp only[Br] at tr;split at tr
  ·simp only[q_e] at tr;obtain⟨_,_,rfl⟩:=tr;intro i hi;cases hi
  ·simp only[q_e] at tr;obtain⟨_,_,rfl⟩:=tr;intro i hi;cases hi
  ·cases tr
 |makeSlice t l c=>
  simp only[Br,q_c,q_a] at tr;obtain⟨_,_,_,_,tr⟩:=tr;split at tr;rotate_left
  ·cases tr
  simp only[q_a,q_d,q_b] at tr;obtain⟨_,_,_,_,rfl⟩:=tr;intro i hi;cases hi
 |fieldAddr t x i=>
  simp only[Br,q_c,q_a] at tr;obtain⟨_,_,tr⟩:=tr;split at tr
  ·cases tr
  simp only[q_a,q_d,q_b] at tr;obtain⟨_,_,rfl⟩:=tr;intro i hi;cases hi
 |field t x i=>
  simp only[Br,q_c,q_a] at tr;obtain⟨_,_,_,_,tr⟩:=tr;split at tr;rotate_left
  ·cases tr
  simp only[q_a,q_d,q_b] at tr;obtain⟨_,_,rfl⟩:=tr;intro i hi;cases hi
 |makeInterface t x=>
  simp only[Br] at tr;split at tr;rotate_left
  ·cases tr
  split at tr;rotate_left
  ·cases tr
  simp only[q_e] at tr;obtain⟨_,_,rfl⟩:=tr;intro i hi;cases hi
 |makeMap t r=>
  cases r with
  |none=>simp only[Br,q_b] at tr;subst tr;simp[Hx] at Ct
  |some r=>simp[Br] at tr
 |panic x=>
  simp only[Br,q_e] at tr;obtain⟨_,_,rfl⟩:=tr;simp[Hx] at Ct
 |_=>simp[Br] at tr
def Aks:AOp->Bool
 |.call ..=>true
 |.callv ..=>true
 |.hcall ..=>true
 |_=>false
def A4b{op:Op}{aop:AOp}(Dv:∀c,op≠.call c)(tr:Br P op=some aop):Aks aop=false:=by
 cases op<;>(try exact absurd rfl (Dv _))<;>simp only[Br] at tr<;>repeat' first
  |rfl
  |contradiction
  |(cases tr;done)
  |(obtain⟨_,tr⟩:=tr)
  |split at tr
  |(simp only[q_c,q_a,q_e,q_d,q_b] at tr)
  |(subst tr;rfl)
def i8{op:Op}{aop:AOp}(tr:Br P op=some aop)(h:Aks aop=true):∃c,op=.call c /\
  ((∃f args fn,(aop=.call f args\/aop=.hcall f args)/\P.funcs[f]?=some fn/\fn.body.isSome=true/\fn.name≠"runtime.NumGoroutine"/\Ph c.args.toList=some args/\c.callee=.value (.func f)) \/
   (∃t args,aop=.callv (n6 P c.argTypes) (.t t) args/\Ph c.args.toList=some args/\c.callee=.value (.tmp t))):=by
 by_cases Dv:∀c,op≠.call c
 ·rw[A4b Dv tr] at h;cases h
 obtain⟨c,rfl⟩:∃c,op=.call c:=by
  cases op with
  |call c=>exact⟨c,rfl⟩
  |_=>exact absurd (fun c h=>by cases h) Dv
 refine⟨c,rfl,?_⟩;obtain⟨callee,args,argTypes⟩:=c;simp only[Br] at tr;split at tr
 ·split at tr
  ·cases tr
  ·split at tr
   ·simp only[q_e] at tr;obtain⟨ax,_,rfl⟩:=tr;cases h
   ·simp only[q_e] at tr;obtain⟨ax,_,rfl⟩:=tr;cases h
   ·cases tr
 ·simp only[q_c,q_a] at tr;obtain⟨e,Gb,z,Wa,tr⟩:=tr;split at tr;rotate_left
  ·cases tr
  simp only[q_a,q_d,q_b] at tr;obtain⟨as,has,ax,Bb,rfl⟩:=tr;cases h
 ·simp only[q_c,q_a,q_d,q_b] at tr;obtain⟨ax,_,ay,_,rfl⟩:=tr;cases h
 ·simp only[q_c,q_a,q_d,q_b] at tr;obtain⟨ax,_,ay,_,rfl⟩:=tr;cases h
 ·split at tr;rotate_left
  ·cases tr
  rename_i fn Km;split at tr;rotate_left
  ·cases tr
  rename_i hc;simp only[q_e] at tr;obtain⟨axs,Oq,htr⟩:=tr;left;split at htr
  ·exact⟨_,axs,fn,.inr htr.symm,Km,hc.1,hc.2,Oq,rfl⟩
  ·exact⟨_,axs,fn,.inl htr.symm,Km,hc.1,hc.2,Oq,rfl⟩
 ·simp only[q_e] at tr;obtain⟨axs,Oq,rfl⟩:=tr;exact .inr ⟨_,axs,rfl,Oq,rfl⟩
 ·cases tr
end
def Kd{hp:List Ob}{o i:Nat}{ob:Ob}(h:i≠o):(hp.set o ob)[i]?=hp[i]?:=by
 rw[q_jc (Ne.symm h)]
def Ur{hp:List Ob}{i:Nat}{ob:Ob}(h:i≠hp.length):(hp++[ob])[i]?=hp[i]?:=by
 rcases q_jo i hp.length with h1|h1
 ·rw[q_jf h1]
 ·rw[q_jj h1,q_jd (show hp.length<=i by omega),q_jd];simp;omega
def Xo{hp:List Ob}{G:GV}(h:gOf hp=some G):hp[0]?=some (gOb G):=by
 unfold gOf at h;split at h
 ·cases h;rfl
 ·cases h
def Avx{hp:List Ob}{G:GV}(h:hp[0]?=some (gOb G)):gOf hp=some G:=by
 cases hp with
 |nil=>cases h
 |cons x r=>simp only[q_jv,q_b] at h;subst h;rfl
def Avv{G G':GV}(h:gOb G=gOb G'):G=G':=by
 simp only[gOb,Ob.mk.injEq,List.cons.injEq,and_true,true_and] at h;exact h
def Ag6{hp h:List Ob}{x x':SV}(hc:Dn hp x=some (x',h)):h.length=hp.length/\∀i,i ∉ Dh x->h[i]?=hp[i]?:=by
 cases x with
 |osl o g off len=>
  simp only[Dn] at hc;split at hc
  ·split at hc
   ·cases hc;exact⟨by simp[fz],fun i hi=>by simp only[Dh,q_ki] at hi;exact Kd hi⟩
   ·cases hc
  ·cases hc
 |agg b l=>cases b<;>simp[Dn] at hc;obtain⟨_,rfl⟩:=hc;exact⟨rfl,fun _ _=>rfl⟩
 |_=>first|(simp[Dn] at hc;done)|(simp[Dn] at hc;obtain⟨_,rfl⟩:=hc;exact⟨rfl,fun _ _=>rfl⟩)
def Ag8{l:List SV}:∀{hp h:List Ob} {l':List SV},Jg hp l=some (l',h)->h.length=hp.length/\∀i,i ∉ l.flatMap Dh->h[i]?=hp[i]?:=by
 induction l with
 |nil=>intro hp h l' hc;simp only[Jg,q_b,Prod.mk.injEq] at hc;obtain⟨_,rfl⟩:=hc;exact⟨rfl,fun _ _=>rfl⟩
 |cons c r ih=>
  intro hp h l' hc;simp only[Jg] at hc;split at hc
  ·rename_i c' h1 h2;split at hc
   ·rename_i r' h3 h4;cases hc;obtain⟨a1,a2⟩:=Ag6 h2;obtain⟨b1,b2⟩:=ih h4;refine⟨b1.trans a1,fun i hi=>?_⟩;simp only[List.flatMap_cons,q_ke,not_or] at hi;rw[b2 i hi.2,a2 i hi.1]
   ·cases hc
  ·cases hc
def Nk{hp h:List Ob}{x x':SV}(hc:Dl hp x=some (x',h)):h.length=hp.length/\∀i,i ∉ Ec hp x->h[i]?=hp[i]?:=by
 have gen:Dn hp x=some (x',h)->Ec hp x=Dh x->h.length=hp.length/\∀i,i ∉ Ec hp x->h[i]?=hp[i]?:=fun h1 h2=>by rw[h2];exact Ag6 h1
 cases x with
 |agg b l=>
  cases b with
  |true=>exact gen hc rfl
  |false=>
   simp only[Dl] at hc;split at hc
   ·rename_i l' h1 h2;cases hc;exact Ag8 h2
   ·cases hc
 |ref o g e c=>
  simp only[Dl] at hc;split at hc;rotate_left
  ·cases hc
  rename_i ob ho;split at hc;rotate_left
  ·cases hc
  split at hc
  ·cases hc;refine⟨by simp[fz],fun i hi=>?_⟩;simp only[Ec,q_kb,not_or] at hi;exact Kd hi.1
  ·rename_i hcl;split at hc;rotate_left
   ·cases hc
   rename_i l' h1 h2;cases hc;obtain⟨a1,a2⟩:=Ag8 h2;refine⟨by simp[a1],fun i hi=>?_⟩;simp only[Ec,ho,hcl,q_kb,not_or] at hi;rw[Kd hi.1];exact a2 i (by simpa using hi.2)
 |_=>exact gen hc rfl
def Sl{l:List SV}:∀{hp h:List Ob} {l':List SV},Eo hp l=some (l',h)->h.length=hp.length/\∀i,i ∉ Hi hp l->h[i]?=hp[i]?:=by
 induction l with
 |nil=>intro hp h l' hc;simp only[Eo,q_b,Prod.mk.injEq] at hc;obtain⟨_,rfl⟩:=hc;exact⟨rfl,fun _ _=>rfl⟩
 |cons c r ih=>
  intro hp h l' hc;simp only[Eo] at hc;split at hc
  ·rename_i c' h1 h2;split at hc
   ·rename_i r' h3 h4;cases hc;obtain⟨a1,a2⟩:=Nk h2;obtain⟨b1,b2⟩:=ih h4;refine⟨b1.trans a1,fun i hi=>?_⟩;simp only[Hi,h2,q_ke,not_or] at hi;rw[b2 i hi.2,a2 i hi.1]
   ·cases hc
  ·cases hc
section
variable{s:St}
def Abw{op:AOp}(h:Abx op=false):Dr s op=[]:=by
 cases op<;>first|(simp[Abx] at h;done)|rfl
def Ab2{o:Option SV}{e:Eff}(h:s.val o=some e):e.hp=s.hp:=by
 cases o<;>simp[St.val] at h;subst h;rfl
def Agn{ag:Bool}{n:Nat}{x:SV}{e:Eff}{hp:List Ob}(h:Kg hp ag n x=some e):e.hp=hp:=by
 unfold Kg at h
 repeat' (split at h)
 all_goals first|(cases h;rfl)|(cases h;done)
def Agp{z:Nat}{x:SV}{lo hi:Option AX}{e:Eff}(h:Mj s z x lo hi=some e):e.hp=s.hp:=by
 unfold Mj at h
 repeat' (split at h)
 all_goals first|(cases h;rfl)|(cases h;done)
def Agm{st:Bool}{x:SV}{e:Eff}{hp:List Ob}(h:Ni hp st x=some e):e.hp=hp:=by
 unfold Ni at h
 repeat' (split at h)
 all_goals first|(cases h;rfl)|(cases h;done)
def Ago{op:AOp}{e:Eff}(h:Bj s op=some e):∀i,i ∉ Ea s op->e.hp[i]?=s.hp[i]?:=by
 intro i hi;cases op with
 |new cells=>
  simp only[Bj,q_b] at h;subst h;simp[Ea,reader,Dr,Dt,Hd] at hi;exact Ur hi
 |box x=>
  simp only[Bj,q_b] at h;subst h;simp[Ea,reader,Dr,Dt,Hd] at hi;exact Ur hi
 |mk sz bytes zero l c=>
  simp only[Bj] at h;split at h
  ·cases h;simp[Ea,reader,Dr,Dt,Hd] at hi;exact Ur hi
  ·cases h
 |bslice sz ps=>
  simp only[Bj] at h;split at h
  ·rename_i rows hh hr;cases h;obtain⟨l',h1,_,_⟩:=n8 hr;obtain⟨a1,a2⟩:=Sl h1;simp[Ea,reader,Dr,Dt,Hd] at hi;rw[Ur (by rw[a1];exact hi.2)];exact a2 i hi.1
  ·cases h
 |load ag n x=>simp only[Bj] at h;rw[Agn h]
 |slc z x lo hi=>simp only[Bj] at h;rw[Agp h]
 |len st x=>simp only[Bj] at h;rw[Agm h]
 |store n x y=>
  simp only[Bj,Qv] at h;split at h
  ·rename_i o g e0 c ha;split at h;rotate_left
   ·cases h
   rename_i ob hob;split at h;rotate_left
   ·cases h
   simp only[Ea,reader,Dr,Dt,Hd,q_kx,if_false,q_k,q_ke,not_or,ha,adC,Ka,Dh,q_ki] at hi;split at h
   ·cases h;exact Kd hi.1
   ·rename_i Jj;split at h;rotate_left
    ·cases h
    rename_i x' hh Hn;split at h;rotate_left
    ·cases h
    split at h;rotate_left
    ·cases h
    cases h;obtain⟨a1,a2⟩:=Nk Hn;show (hh.set o _)[i]?=_;rw[Kd hi.1];exact a2 i (fun hm=>hi.2 (by simp only[Pi,hob,if_neg Jj];exact hm))
  ·rename_i j c ha;split at h;rotate_left
   ·cases h
   rename_i x' hh Hn;split at h;rotate_left
   ·cases h
   split at h;rotate_left
   ·cases h
   cases h;obtain⟨a1,a2⟩:=Nk Hn;simp only[Ea,reader,Dr,Dt,Hd,q_kx,if_false,q_k,q_ke,not_or,ha,adC,Ka,if_true,q_ki] at hi;show (hh.set 0 _)[i]?=_;rw[Kd hi.1];exact a2 i (fun hm=>hi.2 (by simp only[Pi];exact hm))
  ·cases h
 |app sz bytes x y=>
  simp only[Bj,Uq] at h;split at h;rotate_left
  ·cases h
  split at h
  ·rename_i ha;cases h;simp only[Ea,reader,Dr,Dt,Hd,q_kx,if_false,if_true,ha,q_ke,not_or,q_ki] at hi;exact Ur hi.2
  ·rename_i o g off len ha;split at h;rotate_left
   ·cases h
   split at h;rotate_left
   ·cases h
   cases h;simp only[Ea,reader,Dr,Dt,Hd,q_kx,if_false,ha,q_ke,not_or,Dh,q_ki] at hi;exact Kd hi.1.1
  ·cases h
 |iad sz x y=>
  simp only[Bj] at h;split at h
  ·cases h;rfl
  ·cases h
 |build zero parts=>simp only[Bj,q_b] at h;subst h;rfl
 |call f args=>simp[Bj] at h
 |callv fs x args=>simp[Bj] at h
 |hcall f args=>simp[Bj] at h
 |pan x=>simp[Bj] at h
 |newg cells=>
  simp only[Bj] at h;split at h
  ·cases h;simp only[Ea,reader,Dr,Dt,Hd,q_kx,if_false,q_k,q_ki] at hi;exact Kd hi
  ·cases h
 |boxg x=>
  simp only[Bj] at h;split at h;rotate_left
  ·cases h
  rename_i v hh Hn;split at h;rotate_left
  ·cases h
  cases h;simp only[Ea,reader,Dr,Dt,Hd,q_kx,if_false,q_k,q_kb,not_or] at hi;show (hh.set 0 _)[i]?=_;rw[Kd hi.1];exact (Nk Hn).2 i hi.2
 |mkmap=>
  simp only[Bj] at h;split at h
  ·cases h;simp only[Ea,reader,Dr,Dt,Hd,q_kx,if_false,q_k,q_ki] at hi;exact Kd hi
  ·cases h
 |six x i=>
  simp only[Bj] at h;split at h
  ·cases h;rfl
  ·cases h
 |arr parts=>simp only[Bj,q_b] at h;subst h;rfl
 |mlk z x k=>
  simp only[Bj] at h;split at h;rotate_left
  ·cases h
  split at h;rotate_left
  ·cases h
  split at h
  ·cases h;rfl
  ·cases h
 |mup x k v=>
  simp only[Bj] at h;split at h;rotate_left
  ·cases h
  rename_i Hn;split at h;rotate_left
  ·cases h
  split at h;rotate_left
  ·cases h
  split at h;rotate_left
  ·cases h
  cases h;simp only[Ea,reader,Dr,Dt,Hd,q_kx,if_false,q_k,q_kb,not_or] at hi;rw[Kd hi.1];exact (Nk Hn).2 i hi.2
 |fld ag off n x=>
  simp only[Bj] at h;split at h
  ·cases h;rfl
  ·cases h
 |_=>
  simp only[Bj] at h
  first
   |(rw[Ab2 h];done)
   |(repeat' (split at h)
     all_goals first|(rw[Ab2 h];done)|(cases h;done))
end
section
variable{P:Program}{U:Nat->Prop}{w0:World}{own:Nat->Prop}{E:Env}{w:World}{s:St}{a:Act}{g:Option (GV)}{G:GV}
def Up(g:Option (GV))(U:Nat->Prop)(i:Nat):Prop:=U i/\(g.isSome=true->i≠0)
def StepV.of_pure{E1:Env}{w':World}{hp h:List Ob}(hW:W w0 own E w)(hg:GX w0.heap.size own E w g)(hu:∀i,U i->E.view g i=hp[i]?)
  (st:Step (Up g U) w (Pc E) { E with m0:=E.m } E1 w' h) (h0:g.isSome=true->U 0->h[0]?=hp[0]?):StepV U w0 own E g { E1 with m0:=E.m0 } g w' h:=by
 have hz:g.isSome=true->E1.H 0=none:=fun hs=>by
  obtain⟨G,rfl⟩:=q_ka.1 hs;rw[st.off 0 (fun h=>h.2 hs rfl)];exact hg.z
 refine⟨⟨st.ext.m,st.ext.H,rfl⟩,hW.back st.wo st.ext.z (fun b hb=>hW.owned hb),?_,fun o ho=>?_,fun o ho=>?_,rfl,fun _=>st.ext.d⟩
 ·cases g with
  |none=>trivial
  |some G=>exact GI.after hW hg st.wo st.ext (hz rfl)
 ·cases g with
  |none=>exact st.on o ⟨ho,fun h=>by cases h⟩
  |some G=>
   show (if o=0 then some (gOb G) else E1.H o)=h[o]?
   by_cases Kj:o=0
   ·subst Kj;rw[if_pos rfl,h0 rfl ho,<-hu 0 ho];simp[Env.view]
   ·rw[if_neg Kj];exact st.on o ⟨ho,fun _=>Kj⟩
 ·cases g with
  |none=>exact st.off o (fun h=>ho h.1)
  |some G=>
   show (if o=0 then some (gOb G) else E1.H o)=(if o=0 then some (gOb G) else E.H o)
   by_cases Kj:o=0
   ·rw[if_pos Kj,if_pos Kj]
   ·rw[if_neg Kj,if_neg Kj];exact st.off o (fun h=>ho h.1)
def Qs(hu:∀i,U i->E.view g i=s.hp[i]?):∀i,Up g U i->E.H i=s.hp[i]?:=by
 intro i hi;have:=hu i hi.1;cases g with
 |none=>exact this
 |some G=>
  simp only[Env.view,if_neg (hi.2 rfl)] at this;exact this
def Ng(hu:∀i,U i->E.view g i=s.hp[i]?)(hU:U 0)(hW:W w0 own E w)(h:gOf s.hp=some G):g=some G:=by
 have h1:=hu 0 hU;rw[Xo h] at h1;cases g with
 |none=>
  have hk:=hW.obs 0 _ h1;have:=hk.rows [.J] (by simp[gOb]);simp[gOb] at this
 |some G'=>
  simp only[Env.view,if_true,q_b] at h1;rw[Avv h1]
def o0{xv:Value}{x x':SV}{h:List Ob}(hW:W w0 own E w)(hg:GX w0.heap.size own E w g)(hu:∀i,U i->E.view g i=s.hp[i]?)(hc:Dl s.hp x=some (x',h))(hr:RelV E xv x)(hi:∀i∈Ec s.hp x,U i) :
  ∃E1,Rep E1.m xv x'/\StepV U w0 own E g E1 g w h:=by
 have Kp:g.isSome=true->∀i∈Ec s.hp x,i≠0:=fun hs=>by
  obtain⟨G,rfl⟩:=q_ka.1 hs;exact Aaw hW hg.z (fun i h h0=>Qs hu i ⟨hi i h,fun _=>h0⟩) hr
 obtain⟨_,E1,st,rep,_,_⟩:=Xb (U:=Up g U) (w0:=w) (own:=Pc E) (E:={ E with m0:=E.m }) hW.rebase (Qs hu) hc hr.re (fun i h=>⟨hi i h,fun hs=>Kp hs i h⟩);exact⟨{ E1 with m0:=E.m0 },rep,StepV.of_pure hW hg hu st (fun hs _=>(Nk hc).2 0 (fun h=>Kp hs 0 h rfl))⟩
def A0e{o:Oper}{aop:AOp}{eff:Eff}(tr:Br P o.op=some aop)(Ct:Hx s aop=false)(he:Bj s aop=some eff)(hob:eff.ob)(hW:W w0 own E w)(hg:GX w0.heap.size own E w g)(hu:∀i,U i->E.view g i=s.hp[i]?)
  (Dj:g.isSome=true->0<s.hp.length) (hn:Hd s aop=true->U s.hp.length) (Db:∀i∈Dt s aop,U i)
  (hx:∀x∈o.op.operands,∀ax,trX x=some ax->RelV E (a.eval x) (s.get ax)) :
  ∃v w' E',((execOp a.eval o).run P w=.ok (.value v) w'\/((execOp a.eval o).run P w=.ok .skip w'/\v=undef))/\RelV E' v eff.val/\StepV U w0 own E g E' g w' eff.hp/\eff.as:=by
 have Kp:g.isSome=true->∀i∈Dt s aop,i≠0:=fun hs=>by
  obtain⟨G,rfl⟩:=q_ka.1 hs;refine A4u tr Ct (fun sz ps h=>?_) (fun f args h=>?_) hW hg.z (fun i hi h0=>Qs hu i ⟨hi,fun _=>h0⟩) Db hx
  ·subst h;simp only[Bj] at he;split at he
   ·rename_i rows hh hr;obtain⟨l',h1,_,_⟩:=n8 hr;exact⟨l',hh,h1⟩
   ·cases he
  ·rcases h with h|⟨fs,x,h⟩<;>· subst h;simp[Bj] at he
 obtain⟨v,w',E1,h1,h2,h3,h4,h5⟩:=A0c (P:=P) (U:=Up g U) (w0:=w) (own:=Pc E) (E:={ E with m0:=E.m }) (w:=w) (a:=a) tr Ct he hob hW.rebase (Qs hu)
  (fun hc=>⟨hn hc,fun hs=>by have:=Dj hs;omega⟩) (fun i hi=>⟨Db i hi,fun hs=>Kp hs i hi⟩) (fun x Dd ax Bb=>(hx x Dd ax Bb).re)
 refine⟨v,w',{ E1 with m0:=E.m0 },h1,h2.re,StepV.of_pure hW hg hu h3 (fun hs _=>Ago he 0 (fun hc=>?_)),h5⟩;unfold Ea at hc;split at hc
 ·cases hc
 ·simp only[Dr,q_ke] at hc;rcases hc with hc|hc
  ·exact Kp hs 0 hc rfl
  ·split at hc
   ·simp only[q_ki] at hc;have:=Dj hs;omega
   ·cases hc
def W.gput{w':World}{i b:Nat}{row:List SV}(hW:W w0 own E w)(hg:GI w0.heap.size own E w G)(hd:E.m.d i=some b)(h1:w'.os=w.os)(h2:w'.tape=w.tape)(h3:w'.output=w.output)(h4:w'.heap.size=w.heap.size)
  (h5:∀k,k≠b->w'.heap[k]?=w.heap[k]?) (Cv:GRow E.m w' b row) (Fo:E.m.p b->∃c e,w'.heap[b]?=some (.cells c e (0,0))):W w0 own E w'/\GI w0.heap.size own E w' (G.set i row):=by
 have hi:i<G.length:=(hg.sat.dom i).2 ⟨b,hd⟩;refine⟨⟨h1.trans hW.os,h2.trans hW.tape,h3.trans hW.output,by rw[h4];exact hW.size,fun k hk hn=>?_,fun b' j v hv=>?_,fun o ob ho=>?_,hW.inj,hW.keep,fun b' Di=>by
  by_cases Rg:b'=b
  ·subst Rg;exact Fo Di
  ·obtain⟨c1,e1,q1⟩:=hW.pl b' Di;exact⟨c1,e1,by rw[h5 b' Rg];exact q1⟩,hW.tb⟩,⟨hg.z,⟨fun j=>?_,hg.sat.inj,fun j r b' hr Di=>?_,hg.sat.free⟩,hg.new,hg.obs⟩⟩
 ·by_cases hkb:k=b
  ·subst hkb;rcases hg.new i k hd with h|h
   ·omega
   ·exact absurd h hn
  ·rw[h5 k hkb];exact hW.block k hk hn
 ·have Dj:b'≠b:=by rintro rfl;rw[hg.sat.free i b' j hd] at hv;cases hv
  have:=hW.mem b' j v hv;simp only[World.cell?] at this |-;rw[h5 b' Dj];exact this
 ·have hk:=hW.obs o ob ho;refine⟨hk.rows,hk.frz,hk.fit,hk.box,hk.bnd,fun ht=>?_⟩;obtain⟨c,e,k⟩:=hk.live ht;exact⟨c,e,⟨by rw[h5 _ (hg.obs i b o ob hd ho ht)];exact k.blk,k.size,k.new,k.rel,k.one,k.old,k.free,k.clo,k.pl⟩⟩
 ·rw[List.length_set];exact hg.sat.dom j
 ·by_cases Qb:j=i
  ·subst Qb;rw[hd] at Di;cases Di;rw[q_jq hi] at hr;cases hr;exact Cv
  ·rw[q_jc (Ne.symm Qb)] at hr;exact (hg.sat.row j r b' hr Di).mono (.refl _) (h5 b' (fun h=>Qb (hg.sat.inj j i b (by rw[<-h];exact Di) hd)))
def W.galloc{ob:Obj}{row:List SV}(hW:W w0 own E w)(hg:GI w0.heap.size own E w G)(Cv:∀m',E.m.le m'->GRow m' (w.alloc ob) w.heap.size row) :
  ∃E',Ext0 E E'/\W w0 own E' (w.alloc ob)/\GI w0.heap.size own E' (w.alloc ob) (G++[row])/\E'.H=E.H/\E'.m.d G.length=some w.heap.size/\(∀c e,ob=.cells c e (0,0)->E'.m.p w.heap.size):=by
 have Vn:E.m.d G.length=none:=by
  cases h:E.m.d G.length with
  |none=>rfl
  |some b=>have:=(hg.sat.dom G.length).2 ⟨b,h⟩;omega
 let m':Mem:=⟨E.m.c,fun j=>if j=G.length then some w.heap.size else E.m.d j,fun b=>E.m.p b\/(b=w.heap.size/\∃c e,ob=.cells c e (0,0)),fun i j b hi hj=>by
  by_cases h1:i=G.length<;>by_cases h2:j=G.length
  ·omega
  ·simp only[if_pos h1,if_neg h2,q_b] at hi hj;have:=hg.sat.lt hj;omega
  ·simp only[if_neg h1,if_pos h2,q_b] at hi hj;have:=hg.sat.lt hi;omega
  ·simp only[if_neg h1,if_neg h2] at hi hj;exact hg.sat.inj i j b hi hj⟩
 have hle:E.m.le m':=⟨fun _ _ _ h=>h,fun i b h=>by
  have:i≠G.length:=by rintro rfl;rw[Vn] at h;cases h
  simp only[m',if_neg this];exact h,fun b h=>.inl h⟩
 let E':Env:={ E with m:=m' }
 have hext:Ext0 E E':=⟨hle,fun o ob ho=>⟨ob,ho,rfl,q_ja _,fun _=>⟨rfl,rfl,q_ja _⟩⟩,rfl⟩
 have Gi:∀j b,m'.d j=some b->(j=G.length/\b=w.heap.size)\/(j≠G.length/\E.m.d j=some b):=fun j b h=>by
  by_cases hj:j=G.length
  ·simp only[m',if_pos hj,q_b] at h;exact .inl ⟨hj,h.symm⟩
  ·simp only[m',if_neg hj] at h;exact .inr ⟨hj,h⟩
 refine⟨E',hext,⟨hW.os,hW.tape,hW.output,by simp;exact Nat.le_succ_of_le hW.size,fun k hk hn=>?_,fun b j v hv=>?_,fun o ob1 ho=>?_,hW.inj,hW.keep,fun b hb=>by
  rcases hb with hb|⟨rfl,c1,e1,rfl⟩
  ·obtain⟨c1,e1,q1⟩:=hW.pl b hb;exact⟨c1,e1,by rw[Below.heap_alloc _ _ _ (Array.getElem?_eq_some_iff.1 q1).1];exact q1⟩
  ·exact⟨c1,e1,heap_alloc_new w _⟩,hW.tb⟩,⟨hg.z,⟨fun j=>?_,fun i j b hi hj=>?_,fun j r b hr hb=>?_,fun i b j hi=>?_⟩,fun i b hi=>?_,fun i b o ob1 hi ho ht=>?_⟩,rfl,by simp[E',m'],fun c1 e1 h1=>.inr ⟨rfl,c1,e1,h1⟩⟩
 ·rw[Below.heap_alloc _ _ _ (q_kp hk hW.size)];exact hW.block k hk hn
 ·have:=hW.mem b j v hv;rw[World.cell?_alloc_lt w _ _ (Wg this)];exact this
 ·have hk:=hW.obs o ob1 ho;refine⟨hk.rows,hk.frz,hk.fit,hk.box,hk.bnd,fun ht=>?_⟩;obtain⟨c,e,k⟩:=hk.live ht;exact⟨c,e,⟨by rw[Below.heap_alloc _ _ _ (hW.lt ho ht)];exact k.blk,k.size,k.new,fun j v x hv hx=>(k.rel j v x hv hx).mono0 hext,k.one,k.old,k.free,fun hb j v x hv hx=>(k.clo hb j v x hv hx).mono hle,hle.p _ k.pl⟩⟩
 ·rw[q_jr,List.length_singleton];constructor
  ·intro hj
   by_cases Rp:j=G.length
   ·exact⟨w.heap.size,by simp[E',m',Rp]⟩
   ·obtain⟨b,hb⟩:=(hg.sat.dom j).1 (by omega);exact⟨b,hle.d _ _ hb⟩
  ·rintro ⟨b,hb⟩;rcases Gi j b hb with⟨h,_⟩|⟨_,h⟩
   ·omega
   ·have:=(hg.sat.dom j).2 ⟨b,h⟩;omega
 ·rcases Gi i b hi with⟨h1,h2⟩|⟨h1,h2⟩<;>rcases Gi j b hj with⟨k1,k2⟩|⟨k1,k2⟩
  ·omega
  ·have:=hg.sat.lt k2;omega
  ·have:=hg.sat.lt h2;omega
  ·exact hg.sat.inj i j b h2 k2
 ·rcases Gi j b hb with⟨h1,h2⟩|⟨h1,h2⟩
  ·subst h1;subst h2;rw[q_jj (q_ja _)] at hr;simp only[Nat.sub_self,q_jv,q_b] at hr;subst hr;exact Cv m' hle
  ·have hj:j<G.length:=(hg.sat.dom j).2 ⟨b,h2⟩;rw[q_jf hj] at hr;exact (hg.sat.row j r b hr h2).mono hle (by rw[Below.heap_alloc _ _ _ (hg.sat.lt h2)])
 ·rcases Gi i b hi with⟨h1,h2⟩|⟨h1,h2⟩
  ·subst h2;show E.m w.heap.size j=none;cases hm:E.m w.heap.size j with
   |none=>rfl
   |some v=>have:=Wg (hW.mem _ _ _ hm);omega
  ·exact hg.sat.free i b j h2
 ·rcases Gi i b hi with⟨h1,h2⟩|⟨h1,h2⟩
  ·subst h2;exact .inl hW.size
  ·exact hg.new i b h2
 ·rcases Gi i b hi with⟨h1,h2⟩|⟨h1,h2⟩
  ·subst h2;have:=hW.lt ho ht;show E.β o≠w.heap.size;omega
  ·exact hg.obs i b o ob1 h2 ho ht
def Aio{v:Value}{i c:Nat}(h:RelV E v (.gp i c)):∃b,v=.pointer (some ⟨b,c,none⟩)/\E.m.d i=some b:=by
 cases h.closed_rep rfl with
 |gp _ _ b hb=>exact⟨b,rfl,hb⟩
def Aim{t:TypeId}{ag:Bool}{v:Value}{i c:Nat}{row:List SV}(hg:GI w0.heap.size own E w G)(Gh:Hb P t=some ag)(h1:ag=true\/P.cellsOf t=1)(hi:G[i]?=some row)(Yo:Mb row=false)(Ik:c+P.cellsOf t<=row.length)
  (hx:RelV E v (.gp i c)):∃u,(Instr.loadAt t v).run P w=.ok u w/\RelV E u (cut true row.length ag (P.cellsOf t) c row):=by
 obtain⟨b,rfl,hb⟩:=Aio hx;cases hg.sat.row i row b hi hb with
 |map=>cases Yo
 |cells _ cc e Su Cf Er=>
  have Jo:∀(j:Nat) (v:Value),((cc.toList.drop c).take (P.cellsOf t))[j]?=some v->cc[c+j]?=some v:=by
   intro j v hv;rw[q_jx] at hv;split at hv
   ·simpa using getElem?_drop_some hv
   ·cases hv
  have Bl:((cc.toList.drop c).take (P.cellsOf t)).length=P.cellsOf t:=by simp;omega
  refine⟨_,Afv (vs:=(cc.toList.drop c).take (P.cellsOf t)) Gh Bl h1 (fun j v hv=>?_),Acy rfl Ik Bl h1 (fun v hv=>?_) (fun j v x hv hx=>.rep v x (Er _ v x (Jo j v hv) (getElem?_drop_some hx)).1)
   (fun _ j v x hv hx=>(Er _ v x (Jo j v hv) (getElem?_drop_some hx)).1)⟩
  ·rw[Pm Su];exact Jo j v hv
  ·obtain⟨k,hk⟩:=q_jw hv;have hck:=Jo k v hk;have Aq:c+k<row.length:=by
    have:=(q_jm.1 hk).1;omega
   exact (Er _ v row[c+k] hck (q_f Aq)).2
def Awe{t:TypeId}{i c b:Nat}{row:List SV}{xv:Value}{x:SV}(hW:W w0 own E w)(hg:GI w0.heap.size own E w G)(hinf:∃inf,P.info? t=some inf)(Dw:0<P.cellsOf t)(hi:G[i]?=some row)(Yo:Mb row=false)(Ik:c+P.cellsOf t<=row.length)
  (hb:E.m.d i=some b) (hx:Rep E.m xv x) (Bl:(cellsOf x).length=P.cellsOf t) (hok:x.ok=true) (hcl:x.closed=true) :
  ∃w',(Instr.storeAt t (.pointer (some ⟨b,c,none⟩)) xv).run P w=.ok () w'/\W w0 own E w'/\GI w0.heap.size own E w' (G.set i (Dm row.length (P.cellsOf t) c row (cellsOf x))):=by
 obtain⟨inf,hinf⟩:=hinf;obtain⟨vs,b1,b2,b3,b4,b5⟩:=Ld (.rep _ _ hx:RelV E xv x) hok;have hvl:vs.length=P.cellsOf t:=by omega
 cases hg.sat.row i row b hi hb with
 |map=>cases Yo
 |cells _ cc e Su Cf Er Fi=>
  have Hr:=run_storeCells_at P b c e vs 0 cc w Su (by omega) b3;simp only[q_jp] at Hr;have Mo:∀k,(cc.toList.take c++vs++cc.toList.drop (c+vs.length)).toArray[k]?=if c<=k/\k<c+vs.length then vs[k-c]? else cc[k]?:=by
   intro k;have:=Tz cc.toList vs c (by simp;omega) k;simpa using this
  have hsp:Dm row.length (P.cellsOf t) c row (cellsOf x)=row.take c++cellsOf x++row.drop (c+(cellsOf x).length):=Abl rfl Ik Bl Dw;have hrget:∀k,(row.take c++cellsOf x++row.drop (c+(cellsOf x).length))[k]?=if c<=k/\k<c+(cellsOf x).length then (cellsOf x)[k-c]? else row[k]?:=fun k=>Tz row (cellsOf x) c (by omega) k
  obtain⟨g1,g2⟩:=W.gput (w':=w.setRow b (cc.toList.take c++vs++cc.toList.drop (c+vs.length)).toArray) (row:=Dm row.length (P.cellsOf t) c row (cellsOf x)) hW hg hb rfl rfl rfl (by simp)
   (fun k hk=>setRow_other w b k _ hk) (.cells _ _ e (setRow_heap w b cc _ e _ Su) (by rw[hsp];simp;omega) (fun k v y hv hy=>by
    rw[Mo k] at hv;rw[hsp,hrget k] at hy;split at hv
    ·rename_i Dz;rw[if_pos (by omega)] at hy;exact⟨b5 hcl _ v y hv hy,b3 v (q_jb hv)⟩
    ·rename_i Dz;rw[if_neg (by omega)] at hy;exact Er k v y hv hy) (fun k v hv=>by
    rw[Mo k] at hv;split at hv
    ·exact b3 v (q_jb hv)
    ·exact Fi k v hv)) (fun _=>⟨_,e,setRow_heap w b cc _ e _ Su⟩)
  exact⟨_,Afw hinf b1 hvl Hr,g1,g2⟩
def Ax2{k:SV}{kk:K3}(h:Tt k=some kk):k=Tw kk:=by
 unfold Tt at h;split at h
 ·cases h;rfl
 ·cases h
def Ax3(kk:K3):Tt (Tw kk)=some kk:=rfl
def Ak0{v:Value}{k:SV}{kk:K3}(h:Tt k=some kk)(hr:RelV E v k):v=Jd kk:=by
 have:=Ax2 h;subst this;cases hr.closed_rep rfl with
 |agg vs l h0 h1 h2=>
  match vs,h1 with
  |[a,b,c],_=>
   have ha:=h2 0 a _ rfl rfl;have hb:=h2 1 b _ rfl rfl;have hc:=h2 2 c _ rfl rfl;cases ha;cases hb;cases hc;rfl
def Alj(kk:K3)(l:List (K3×SV)):Ty kk (l.map ent)=some ((l.find? fun p=>p.1==kk).map (·.2)):=by
 induction l with
 |nil=>rfl
 |cons p l ih=>
  simp only[q_h,ent,Ty,Ax3,List.find?_cons]
  by_cases h:p.1=kk
  ·rw[if_pos h];simp[h]
  ·rw[if_neg h,ih];have:(p.1==kk)=false:=by simpa using h
   rw[this]
structure MapTy(P:Program)(t kt et it:TypeId)(z:SV):Prop where
 um:P.underlying t=some (.map kt et)
 uk:P.underlying kt=some (.array 3 it)
 ui:P.underlying it=some (.int .i64)
 uz:Lb P et=some z
 c1:P.cellsOf it=1
 c3:P.cellsOf kt=3
 ukt:P.keyType kt=true
 zl:(cellsOf z).length=1
def Alh{t:TypeId}{z:SV}(h:Wf P t=some z):∃kt et it,MapTy P t kt et it z:=by
 unfold Wf at h;split at h;rotate_left
 ·cases h
 rename_i kt et h1;split at h;rotate_left
 ·cases h
 rename_i it h2;split at h;rotate_left
 ·cases h
 rename_i h3;split at h;rotate_left
 ·cases h
 rename_i z' h4;split at h;rotate_left
 ·cases h
 rename_i h5;cases h;exact⟨kt,et,it,h1,h2,h3,h4,h5.1,h5.2.1,h5.2.2.1,h5.2.2.2⟩
def MapTy.arr{t kt et it:TypeId}{z:SV}(h:MapTy P t kt et it z):WideMaps.ArrKey P kt it 3:=
 ⟨h.uk,by unfold Program.plainKey;rw[h.ui],h.c1,h.c3⟩
def Agh{n:Int}(h:ok1 n):(Lit.int .i64 n).wf=true:=by
 unfold ok1 at h;simp only[Lit.wf,q_jl,q_jt];exact⟨h.1,h.2⟩
def MapTy.key{t kt et it:TypeId}{z:SV}(h:MapTy P t kt et it z){kk:K3}(hk:ok3 kk):∃l,keyOf P kt (Jd kk)=some l:=by
 obtain⟨k1,k2,k3⟩:=hk;have w1:=Agh k1;have w2:=Agh k2;have w3:=Agh k3;have hn:∃m,P.types.size=m+1:=by
  cases hs:P.types.size with
  |zero=>
   have:=h.ukt;unfold Program.keyType at this;rw[hs] at this;simp[Program.keyTypeAt,h.uk,h.ui] at this
  |succ m=>exact⟨m,rfl⟩
 obtain⟨m,hm⟩:=hn;unfold keyOf;rw[h.uk];have hf:(Jd kk).formed P kt=true:=by simp[Value.formed,Jd,h.uk,h.c3]
 simp only[h.ukt,hf,Bool.and_self,if_true];have hi:∀(d:Nat) (n:Int),(Lit.int .i64 n).wf=true->P.keyLits (d+1) it [Value.int .i64 n]=some [.int .i64 n]:=fun d n hw=>by
  unfold Program.keyLits;rw[h.ui];simp[hw]
 have hl:P.keyLits (P.types.size+1) kt (Jd kk).cells.toList=some [.int .i64 kk.1,.int .i64 kk.2.1,.int .i64 kk.2.2]:=by
  rw[hm];unfold Program.keyLits;rw[h.uk];simp[Jd,Value.cells,h.c3,h.c1,List.range_succ,hi m _ w1,hi m _ w2,hi m _ w3]
 rw[hl];exact⟨_,rfl⟩
def Ac4{l:List (K3×SV)}{kk:K3}(h:(l.find? fun p=>p.1==kk)=none):kk ∉ l.map (·.1):=by
 intro hm;obtain⟨p,hp,rfl⟩:=q_kz.1 hm;have:=List.find?_eq_none.1 h p hp;simp at this
def Ay8{t:TypeId}{z:SV}{xv kv:Value}{i:Nat}{es:List SV}{kk:K3}{r:Option SV}(hg:GI w0.heap.size own E w G)(ht:Wf P t=some z)(hi:G[i]?=some (.undef::es))(hr:Ty kk es=some r)(hk:ok3 kk)
  (hx:RelV E xv (.mp i)) (hkv:kv=Jd kk):∃u,(Instr.lookup t xv kv true).run P w=.ok u w/\Rep E.m u (.tup [r.getD z,.bool r.isSome]):=by
 subst hkv;obtain⟨kt,et,it,ht⟩:=Alh ht;cases hx.closed_rep rfl with
 |mp _ b hb=>
  have Cv:=hg.sat.row i _ b hi hb;generalize hR:SV.undef::es=R at Cv;cases Cv with
  |cells _ c e h1 h2 h3=>
   subst hR;have:0<c.size:=q_kp (by simp) h2;have hu:=(h3 0 c[0] .undef (Array.getElem?_eq_getElem this) rfl).1;generalize c[0]=q at hu;cases hu
  |map es' k l h1 h2 h3 h4 h5=>
   have Lv:es=l.map ent:=by simpa [Of] using hR
   subst Lv;rw[Alj] at hr;cases hr;have Gj:(getObj b).run P w=.ok (.map es' k) w:=by simp[getObj,Sem.run,h1]
   have L:=ht.arr.law;obtain⟨lk,Vq⟩:=ht.key hk;have Fr:∀e∈es'.toList,∃l,keyOf P kt e.key=some l:=by
    intro e he;obtain⟨j,hj⟩:=q_jw he;have Kn:es'[j]?=some e:=by simpa using hj
    have Aq:j<l.length:=by
     rw[<-h2];exact (Array.getElem?_eq_some_iff.1 Kn).1
    obtain⟨q1,_⟩:=h3 j e _ Kn (q_f Aq);rw[q1];exact ht.key (h4 _ (q_kd Aq))
   obtain⟨iz,zv,hiz,Hh,_,hzr⟩:=Sf (m:=E.m) ht.uz;have hz:(zeroValue et).run P w=.ok zv w:=by simp[zeroValue,run_typeInfo w hiz,Hh]
   rcases L.find w Vq es'.toList Fr with⟨f1,f2⟩|⟨j,e,f1,f2,f3⟩
   ·have hn:(l.find? fun p=>p.1==kk)=none:=by
     rw[List.find?_eq_none];intro p hp;simp only[beq_iff_eq];intro Yt;obtain⟨j,hj⟩:=q_jw hp;have Aq:j<es'.size:=by
      rw[h2];exact (q_jm.1 hj).1
     obtain⟨q1,_⟩:=h3 j es'[j] p (Array.getElem?_eq_getElem Aq) hj;exact f2 es'[j] (by simp) (by rw[q1,Yt])
    rw[hn];refine⟨.tuple #[zv,.bool false],?_,?_⟩
    ·simp[Instr.lookup,run_underlying ht.um,Gj,L.check w _ Vq,f1,hz]
    ·exact .tup [zv,.bool false] _ rfl (fun j v x hv hx=>by
      match j with
      |0=>cases hv;cases hx;exact hzr
      |1=>cases hv;cases hx;exact .bool _
      |j+2=>cases hv)
   ·have Kn:es'[j]?=some e:=by simpa using f2
    have Aq:j<l.length:=by
     rw[<-h2];exact (Array.getElem?_eq_some_iff.1 Kn).1
    obtain⟨q1,q2⟩:=h3 j e _ Kn (q_f Aq);have Aae:(l[j]).1=kk:=by
     have:Jd (l[j]).1=Jd kk:=by rw[<-q1,f3]
     obtain⟨a,b,c⟩:=kk;generalize (l[j]).1=q at this;obtain⟨a',b',c'⟩:=q;simp only[Jd,Value.agg.injEq,Array.mk.injEq,List.cons.injEq,Value.int.injEq,true_and,and_true] at this;simp_all
    have hn:(l.find? fun p=>p.1==kk)=some l[j]:=by
     obtain⟨p,hp⟩:∃p,(l.find? fun p=>p.1==kk)=some p:=by
      cases hf:l.find? fun p=>p.1==kk with
      |none=>exact absurd (q_kz.2 ⟨l[j],q_kd Aq,Aae⟩) (Ac4 hf)
      |some p=>exact⟨p,rfl⟩
     rw[hp];have Yt:p.1=kk:=by simpa using List.find?_some hp
     obtain⟨j2,hj2⟩:=q_jw (List.mem_of_find?_eq_some hp);obtain⟨hl2,Nw⟩:=q_jm.1 hj2;have hj3:j2=j:=by
      have Yu:=List.pairwise_iff_getElem.1 h5;have e1:(l.map (·.1))[j2]'(by simpa using hl2)=(l.map (·.1))[j]'(by simpa using Aq):=by
       rw[List.getElem_map,List.getElem_map,Nw,Yt,Aae]
      rcases Nat.lt_trichotomy j2 j with h|h|h
      ·exact absurd e1 (Yu j2 j (by simpa using hl2) (by simpa using Aq) h)
      ·exact h
      ·exact absurd e1.symm (Yu j j2 (by simpa using Aq) (by simpa using hl2) h)
     subst hj3;rw[<-Nw]
    rw[hn];refine⟨.tuple #[e.val,.bool true],?_,?_⟩
    ·simp[Instr.lookup,run_underlying ht.um,Gj,L.check w _ Vq,f1]
    ·exact .tup [e.val,.bool true] _ rfl (fun j v x hv hx=>by
      match j with
      |0=>cases hv;cases hx;exact q2
      |1=>cases hv;cases hx;exact .bool _
      |j+2=>cases hv)
def Azf{t:TypeId}{z v':SV}{xv kv vv:Value}{i:Nat}{es:List SV}{kk:K3}(hW:W w0 own E w)(hg:GI w0.heap.size own E w G)(ht:Wf P t=some z)(hi:G[i]?=some (.undef::es))(hr:Ty kk es=some none)(hk:ok3 kk)
  (hx:RelV E xv (.mp i)) (hkv:kv=Jd kk) (hv:Rep E.m vv v') (hok:v'.ok=true) (Bl:(cellsOf v').length=1) :
  ∃w',(Instr.mapUpdate t xv kv vv).run P w=.ok () w'/\W w0 own E w'/\GI w0.heap.size own E w' (G.set i (.undef::(es++[.tup [Tw kk,v']]))):=by
 subst hkv;obtain⟨kt,et,it,ht⟩:=Alh ht;cases hx.closed_rep rfl with
 |mp _ b hb=>
  have Cv:=hg.sat.row i _ b hi hb;generalize hR:SV.undef::es=R at Cv;cases Cv with
  |cells _ c e h1 h2 h3=>
   subst hR;have:0<c.size:=q_kp (by simp) h2;have hu:=(h3 0 c[0] .undef (Array.getElem?_eq_getElem this) rfl).1;generalize c[0]=q at hu;cases hu
  |map es' k l h1 h2 h3 h4 h5=>
   have Lv:es=l.map ent:=by simpa [Of] using hR
   subst Lv;rw[Alj] at hr;have Ov:(l.find? fun p=>p.1==kk)=none:=by simpa using hr
   have Gj:(getObj b).run P w=.ok (.map es' k) w:=by simp[getObj,Sem.run,h1]
   have L:=ht.arr.law;obtain⟨lk,Vq⟩:=ht.key hk;have Fr:∀e∈es'.toList,∃l,keyOf P kt e.key=some l:=by
    intro e he;obtain⟨j,hj⟩:=q_jw he;have Kn:es'[j]?=some e:=by simpa using hj
    have Aq:j<l.length:=by
     rw[<-h2];exact (Array.getElem?_eq_some_iff.1 Kn).1
    obtain⟨q1,_⟩:=h3 j e _ Kn (q_f Aq);rw[q1];exact ht.key (h4 _ (q_kd Aq))
   have f1:(Instr.findKey kt (Jd kk) es'.toList).run P w=.ok none w:=by
    rcases L.find w Vq es'.toList Fr with⟨f1,_⟩|⟨j,e,f1,f2,f3⟩
    ·exact f1
    ·exfalso;have Kn:es'[j]?=some e:=by simpa using f2
     have Aq:j<l.length:=by
      rw[<-h2];exact (Array.getElem?_eq_some_iff.1 Kn).1
     obtain⟨q1,_⟩:=h3 j e _ Kn (q_f Aq);have Aae:(l[j]).1=kk:=by
      have:Jd (l[j]).1=Jd kk:=by rw[<-q1,f3]
      obtain⟨a,b,c⟩:=kk;generalize (l[j]).1=q at this;obtain⟨a',b',c'⟩:=q;simp only[Jd,Value.agg.injEq,Array.mk.injEq,List.cons.injEq,Value.int.injEq,true_and,and_true] at this;simp_all
     exact Ac4 Ov (q_kz.2 ⟨l[j],q_kd Aq,Aae⟩)
   have hnew:SV.undef::(l.map ent++[.tup [Tw kk,v']])=Of (l++[(kk,v')]):=by simp[Of,ent]
   have hset:=MapKept.heap_set h1 (o':=.map (es'.push { key:=Jd kk,val:=vv,born:=k }) (k+1));obtain⟨g1,g2⟩:=W.gput (w':={ w with heap:=w.heap.setIfInBounds b (.map (es'.push { key:=Jd kk,val:=vv,born:=k }) (k+1)) }) (row:=Of (l++[(kk,v')])) hW hg hb rfl rfl rfl (by simp) (fun q hq=>hset.2 q hq)
    (.map _ (k+1) (l++[(kk,v')]) hset.1 (by simp[h2]) (fun j e p he hp=>by
     by_cases hj:j<l.length
     ·rw[q_jf hj] at hp;rw[Array.getElem?_push_lt (by omega)] at he;exact h3 j e p (by rw[Array.getElem?_eq_getElem (by omega)];exact he) hp
     ·have Rp:j=l.length:=by
       have:=(q_jm.1 hp).1;simp at this;omega
      subst Rp;rw[<-h2,Array.getElem?_push_size] at he;rw[q_jj (q_ja _),Nat.sub_self] at hp;cases he;cases hp;exact⟨rfl,hv⟩)
     (fun p hp=>by
      rcases q_ke.1 hp with hp|hp
      ·exact h4 p hp
      ·simp only[q_ki] at hp;subst hp;exact hk)
     (by
      rw[q_kt,List.nodup_append];refine⟨h5,by simp,fun x hx y hy=>?_⟩;simp only[q_h,q_i,q_ki] at hy;subst hy;intro hxy;subst hxy;exact Ac4 Ov hx)) (fun hp=>by
     obtain⟨c,e,hc⟩:=hW.pl b hp;rw[h1] at hc;cases hc)
   refine⟨_,?_,g1,by rw[hnew];exact g2⟩;simp[Instr.mapUpdate,run_underlying ht.um,Gj,L.check w _ Vq,f1,setObj,Sem.run,h1]
end
def Contract(P:Program)(f:Nat)(args:List SV)(r:SV):Prop:=
 ∀(m:Mem) (w:World) (vs:List Value),Fk m w->vs.length=args.length->(∀(j:Nat) v x,vs[j]?=some v->args[j]?=some x->Rep m v x) ->
  Calls P f vs.toArray w fun e w'=>∃v m',e=.returned v/\Rep m' v r/\(m.le m'/\m'.d=m.d)/\(∀b j,b<w.heap.size->m' b j=m b j)/\Fk m' w' /\
   w'.os=w.os/\w'.tape=w.tape/\w'.output=w.output/\w.heap.size<=w'.heap.size/\∀k,k<w.heap.size->w'.heap[k]?=w.heap[k]?
def j7(s s':SV):Prop:=∃m v,Rep m v s/\Rep m v s'
def Eh(P:Program)(X:SV->GV->Prop):CT:={ p:=Contract P,h:=HContract P,q:=HContractQ P,x:=X,b:=j7 }
structure StB(B:Env->Prop):Prop where
 ext:∀E E',Ext0 E E'->B E->B E'
 wk:∀E E',(∀o ob,E.H o=some ob->777<=ob.gen->E'.H o=some ob)->E'.β=E.β->B E->B E'
instance stb_true:Nonempty (StB fun _=>True):=⟨⟨fun _ _ _ h=>h,fun _ _ _ _ h=>h⟩⟩
instance stb_false:Nonempty (StB fun _=>False):=⟨⟨fun _ _ _ h=>h,fun _ _ _ _ h=>h⟩⟩
section
variable{P:Program}{U:Nat->Prop}{w0:World}{own:Nat->Prop}{E:Env}{w:World}{s:St}{a:Act}{M0:Mem}{B:Env->Prop}{Df:List Deferred}{g:Option (GV)}{G:GV}{X:SV->GV->Prop}
def W.called{w':World}{m':Mem}(h:W w0 own E w)(h1:E.m.le m'/\m'.d=E.m.d)(h2:∀b j,b<w.heap.size->m' b j=E.m b j)(h3:Fk m' w')
  (h4:w'.os=w.os) (h5:w'.tape=w.tape) (h6:w'.output=w.output) (h7:w.heap.size<=w'.heap.size) (h8:∀k,k<w.heap.size->w'.heap[k]?=w.heap[k]?):Ext E { E with m:=m' }/\W w0 own { E with m:=m' } w':=by
 have hext:Ext E { E with m:=m' }:=⟨⟨h1.1,fun o ob ho=>⟨ob,ho,rfl,q_ja _,fun _=>⟨rfl,rfl,q_ja _⟩⟩,rfl⟩,h1.2⟩
 refine⟨hext,⟨h4.trans h.os,h5.trans h.tape,h6.trans h.output,q_ko h.size h7,fun k hk ho=>?_,h3.1,fun o ob ho=>?_,h.inj,fun b j hb ho=>?_,h3.2.1,h.tb⟩⟩
 ·rw[h8 k (q_kp hk h.size)];exact h.block k hk ho
 ·have hk:=h.obs o ob ho;refine⟨hk.rows,hk.frz,hk.fit,hk.box,hk.bnd,fun ht=>?_⟩;obtain⟨c,e,k⟩:=hk.live ht;have Aq:=h.lt ho ht;refine⟨c,e,⟨?_,k.size,k.new,fun j v x hv hx=>(k.rel j v x hv hx).mono hext,k.one,fun j hj=>?_,fun j hj=>?_,fun hb j v x hv hx=>(k.clo hb j v x hv hx).mono h1.1,h1.1.p _ k.pl⟩⟩
  ·show w'.heap[E.β o]?=_;rw[h8 _ Aq];exact k.blk
  ·show m' (E.β o) j=_;rw[h2 _ _ Aq];exact k.old j hj
  ·show m' (E.β o) j=_;rw[h2 _ _ Aq];exact k.free j hj
 ·show m' b j=E.m0 b j;rw[h2 b j (q_kp hb h.size)];exact h.keep b j hb ho
def W.hcalled{w':World}{m':Mem}{G':GV}(h:W w0 own E w)(hg:GI w0.heap.size own E w G)(h1:E.m.le m')(h2:∀b j,b<w.heap.size->m' b j=E.m b j)(h3:Fk m' w')(hs:GSat m' w' G')
  (hd:∀i b,m'.d i=some b->E.m.d i=some b\/w.heap.size<=b) (h4:w'.os=w.os) (h5:w'.tape=w.tape) (h6:w'.output=w.output) (h7:w.heap.size<=w'.heap.size) (h8:∀k,k<w.heap.size->(∀i,E.m.d i≠some k)->w'.heap[k]?=w.heap[k]?) :
  Ext0 E { E with m:=m' }/\W w0 own { E with m:=m' } w'/\GI w0.heap.size own { E with m:=m' } w' G':=by
 have hext:Ext0 E { E with m:=m' }:=⟨h1,fun o ob ho=>⟨ob,ho,rfl,q_ja _,fun _=>⟨rfl,rfl,q_ja _⟩⟩,rfl⟩
 refine⟨hext,⟨h4.trans h.os,h5.trans h.tape,h6.trans h.output,q_ko h.size h7,fun k hk ho=>?_,h3.1,fun o ob ho=>?_,h.inj,fun b j hb ho=>?_,h3.2.1,h.tb⟩,⟨hg.z,hs,fun i b hi=>?_,fun i b o ob hi ho ht=>?_⟩⟩
 ·rw[h8 k (q_kp hk h.size) (fun i hi=>(hg.new i k hi).elim (fun h1=>by omega) ho)];exact h.block k hk ho
 ·have hk:=h.obs o ob ho;refine⟨hk.rows,hk.frz,hk.fit,hk.box,hk.bnd,fun ht=>?_⟩;obtain⟨c,e,k⟩:=hk.live ht;have Aq:=h.lt ho ht;refine⟨c,e,⟨?_,k.size,k.new,fun j v x hv hx=>(k.rel j v x hv hx).mono0 hext,k.one,fun j hj=>?_,fun j hj=>?_,fun hb j v x hv hx=>(k.clo hb j v x hv hx).mono h1,h1.p _ k.pl⟩⟩
  ·show w'.heap[E.β o]?=_;rw[h8 _ Aq (fun i hi=>hg.obs i _ o ob hi ho ht rfl)];exact k.blk
  ·show m' (E.β o) j=_;rw[h2 _ _ Aq];exact k.old j hj
  ·show m' (E.β o) j=_;rw[h2 _ _ Aq];exact k.free j hj
 ·show m' b j=E.m0 b j;rw[h2 b j (q_kp hb h.size)];exact h.keep b j hb ho
 ·rcases hd i b hi with h9|h9
  ·exact hg.new i b h9
  ·exact .inl (q_ko h.size h9)
 ·rcases hd i b hi with h9|h9
  ·exact hg.obs i b o ob h9 ho ht
  ·have:=h.lt ho ht;show E.β o≠b;omega
def Av1{o:Oper}{aop:AOp}{eff:Eff}(tr:Br P o.op=some aop)(Ct:Hx s aop=true)(he:Bj s aop=some eff)(hob:eff.ob)(hW:W w0 own E w)(hg:GX w0.heap.size own E w g)(hu:∀i,U i->E.view g i=s.hp[i]?)
  (Db:∀i∈Dt s aop,U i) (hx:∀x∈o.op.operands,∀ax,trX x=some ax->RelV E (a.eval x) (s.get ax)) :
  ∃v w' E' g',((execOp a.eval o).run P w=.ok (.value v) w'\/((execOp a.eval o).run P w=.ok .skip w'/\v=undef))/\RelV E' v eff.val/\StepV U w0 own E g E' g' w' eff.hp/\eff.as:=by
 obtain⟨dst,op,ty,pos,after,guard⟩:=o;simp only at tr hx
 -- a new row
 have fresh:∀{E1:Env} {h:List Ob} {G1:GV} {row:List SV} {c:Array Value} {t:TypeId} {ob:Obj},StepV U w0 own E g E1 g w h->U 0->gOf h=some G1->(∀m',E1.m.le m'->GRow m' (w.alloc ob) w.heap.size row) ->
   ∃E' g',E'.m.d G1.length=some w.heap.size/\StepV U w0 own E g E' g' (w.alloc ob) (h.set 0 (gOb (G1++[row])))/\(∀c e,ob=.cells c e (0,0)->E'.m.p w.heap.size):=by
  intro E1 h G1 row c t ob st hU h1 Cv;have hg1:=Ng (s:={ s with hp:=h }) st.on hU st.wo h1;subst hg1;obtain⟨E',e1,e2,e3,e4,e5,e6⟩:=W.galloc st.wo st.gx Cv;have Dw:0<h.length:=by
   rcases Nat.eq_zero_or_pos h.length with h0|h0
   ·have:=Xo h1;rw[q_jd (by omega)] at this;cases this
   ·exact h0
  refine⟨E',some (G1++[row]),e5,⟨st.ext.trans e1,e2,e3,fun o ho=>?_,fun o ho=>?_,rfl,fun hn=>by cases hn⟩,e6⟩
  ·by_cases h0:o=0
   ·subst h0;rw[q_jq Dw];simp[Env.view]
   ·rw[Kd h0];have:=st.on o ho;simp only[Env.view,if_neg h0] at this |-;rw[e4];exact this
  ·have h0:o≠0:=by rintro rfl;exact ho hU
   have:=st.off o ho;simp only[Env.view,if_neg h0] at this |-;rw[e4];exact this
 -- a value that is closed ahead
 have closed:∀{xv:Value} {x x':SV} {h:List Ob},Dl s.hp x=some (x',h)->RelV E xv x->(∀i∈Ec s.hp x,U i)->∃E1,Rep E1.m xv x'/\StepV U w0 own E g E1 g w h:=by
  intro xv x x' h hc hr hi;have Kp:g.isSome=true->∀i∈Ec s.hp x,i≠0:=fun hs=>by
   obtain⟨G,rfl⟩:=q_ka.1 hs;exact Aaw hW hg.z (fun i h h0=>Qs hu i ⟨hi i h,fun _=>h0⟩) hr
  obtain⟨_,E1,st,rep,_,_⟩:=Xb (U:=Up g U) (w0:=w) (own:=Pc E) (E:={ E with m0:=E.m }) hW.rebase (Qs hu) hc hr.re (fun i h=>⟨hi i h,fun hs=>Kp hs i h⟩);exact⟨{ E1 with m0:=E.m0 },rep,StepV.of_pure hW hg hu st (fun hs _=>(Nk hc).2 0 (fun h=>Kp hs 0 h rfl))⟩
 cases op with
 |load t x=>
  simp only[Br,q_c,q_a] at tr;obtain⟨ag,Gh,ax,Bb,tr⟩:=tr;split at tr;rotate_left
  ·cases tr
  rename_i h1;cases tr;simp only[Hx] at Ct;have hxr:=hx x (by simp[Op.operands]) ax Bb;simp only[Bj] at he;generalize Yv:s.get ax=sx at Ct he hxr;cases sx with
  |gp i c=>
   simp only[Kg] at he;split at he;rotate_left
   ·cases he
   rename_i G hG;split at he;rotate_left
   ·cases he
   rename_i row Cv;cases he;have hU:U 0:=Db 0 (by simp[Dt,Yv,adC,Ka]);have:=Ng hu hU hW hG;subst this;obtain⟨u,k1,k2⟩:=Aim hg Gh h1 Cv hob.1 hob.2 hxr;exact⟨u,w,E,some G,.inl (by simp[execOp,k1]),k2,⟨Ext0.refl E,hW,hg,hu,fun _ _=>rfl,rfl,fun _=>rfl⟩,trivial⟩
  |_=>cases Ct
 |store t x y=>
  simp only[Br,q_c,q_a] at tr;obtain⟨ag,Gh,ax,Bb,ay,Ev,tr⟩:=tr;split at tr;rotate_left
  ·cases tr
  rename_i h1;cases tr;simp only[Hx] at Ct;have hxr:=hx x (by simp[Op.operands]) ax Bb;have hyr:=hx y (by simp[Op.operands]) ay Ev;simp only[Bj] at he;generalize Yv:s.get ax=sx at Ct he hxr;cases sx with
  |gp i c=>
   simp only[Qv] at he;split at he;rotate_left
   ·cases he
   rename_i x' h hc;split at he;rotate_left
   ·cases he
   rename_i G hG;split at he;rotate_left
   ·cases he
   rename_i row Cv;cases he;obtain⟨Yo,Ik,Bl,hok⟩:=hob;have hU:U 0:=Db 0 (by simp[Dt,Yv,adC,Ka]);obtain⟨E1,rep,st⟩:=closed hc hyr (fun j hj=>Db j (by simp only[Dt,Yv,Pi,q_ke];exact .inr hj));have hg1:=Ng (s:={ s with hp:=h }) st.on hU st.wo hG;subst hg1;obtain⟨b,hv,hb⟩:=Aio hxr;obtain⟨w',k1,k2,k3⟩:=Awe st.wo st.gx (Aax Gh) h1.2 Cv Yo Ik (st.ext.m.d _ _ hb) rep Bl hok (n9 hc).2;have Dw:0<h.length:=by
    rcases Nat.eq_zero_or_pos h.length with h0|h0
    ·have:=Xo hG;rw[q_jd (by omega)] at this;cases this
    ·exact h0
   refine⟨undef,w',E1,some (G.set i (Dm row.length (P.cellsOf t) c row (cellsOf x'))),.inr ⟨by simp[execOp,hv,k1],rfl⟩,.undef,⟨st.ext,k2,k3,fun o ho=>?_,fun o ho=>?_,rfl,fun hn=>by cases hn⟩,trivial⟩
   ·by_cases h0:o=0
    ·subst h0;rw[q_jq Dw];simp[Env.view]
    ·rw[Kd h0];have:=st.on o ho;simp only[Env.view,if_neg h0] at this |-;exact this
   ·have h0:o≠0:=by rintro rfl;exact ho hU
    have:=st.off o ho;simp only[Env.view,if_neg h0] at this |-;exact this
  |_=>cases Ct
 |alloc t=>
  simp only[Br,q_e] at tr;obtain⟨z,hz,htr⟩:=tr;split at htr;rotate_left
  ·subst htr;cases Ct
  subst htr;simp only[Bj] at he;split at he;rotate_left
  ·cases he
  rename_i G hG;cases he;have hU:U 0:=Db 0 (by simp[Dt]);obtain⟨i,zv,hi,Hh,Jm,Cu⟩:=Sf (m:=E.m) hz;have hok:=(Lm (m:=E.m) Jm).2.2;have hcl:=(Lm (m:=E.m) Jm).2.1;obtain⟨vs,b1,b2,b3,b4,b5⟩:=Ld (.rep _ _ Cu:RelV E zv z) hok;have st:StepV U w0 own E g E g w s.hp:=⟨Ext0.refl E,hW,hg,hu,fun _ _=>rfl,rfl,fun _=>rfl⟩
  obtain⟨E',g',e1,e2,e3⟩:=fresh (c:=#[]) (t:=t) (ob:=.cells zv.cells t) (row:=cellsOf z) st hU hG (fun m' hm=>.cells _ zv.cells t (heap_alloc_new w _) (by rw[b1,<-b2];simp) (fun k v x hv hx=>by
   rw[b1] at hv;have Cw:vs[k]?=some v:=by simpa using hv
   exact⟨(b5 hcl k v x Cw hx).mono hm,b3 v (q_jb Cw)⟩) (fun k v hv=>by rw[b1] at hv;exact b3 v (q_jb (i:=k) (by simpa using hv))))
  refine⟨.pointer (some ⟨w.heap.size,0,none⟩),_,E',g',.inl ?_,.rep _ _ (.gp _ _ _ e1 (e3 _ _ rfl)),e2,trivial⟩;simp[execOp,Instr.alloc,zeroValue,typeInfo,hi,Hh,newVar,newRow]
 |box t x=>
  simp only[Br,q_e] at tr;obtain⟨ax,Bb,htr⟩:=tr;split at htr;rotate_left
  ·subst htr;cases Ct
  subst htr;simp only[Bj] at he;split at he;rotate_left
  ·cases he
  rename_i x' h hc;split at he;rotate_left
  ·cases he
  rename_i G hG;cases he;have hU:U 0:=Db 0 (by simp[Dt]);obtain⟨E1,rep,st⟩:=closed hc (hx x (by simp[Op.operands]) ax Bb) (fun j hj=>Db j (by simp only[Dt,q_kb];exact .inr hj));obtain⟨vs,b1,b2,b3,b4,b5⟩:=Ld (.rep _ _ rep:RelV E1 (a.eval x) x') (n9 hc).1;obtain⟨E',g',e1,e2,e3⟩:=fresh (c:=#[]) (t:=t) (ob:=.cells (a.eval x).cells t) (row:=cellsOf x') st hU hG (fun m' hm=>.cells _ (a.eval x).cells t (heap_alloc_new w _) (by rw[b1,<-b2];simp) (fun k v y hv hy=>by
   rw[b1] at hv;have Cw:vs[k]?=some v:=by simpa using hv
   exact⟨(b5 (n9 hc).2 k v y Cw hy).mono hm,b3 v (q_jb Cw)⟩) (fun k v hv=>by rw[b1] at hv;exact b3 v (q_jb (i:=k) (by simpa using hv))))
  refine⟨.pointer (some ⟨w.heap.size,0,none⟩),_,E',g',.inl ?_,.rep _ _ (.gp _ _ _ e1 (e3 _ _ rfl)),e2,trivial⟩;simp[execOp,Instr.box,newVar,newRow]
 |makeMap t r=>
  cases r with
  |some r=>simp[Br] at tr
  |none=>
   simp only[Br,q_b] at tr;subst tr;simp only[Bj] at he;split at he;rotate_left
   ·cases he
   rename_i G hG;cases he;have hU:U 0:=Db 0 (by simp[Dt]);have st:StepV U w0 own E g E g w s.hp:=⟨Ext0.refl E,hW,hg,hu,fun _ _=>rfl,rfl,fun _=>rfl⟩
   obtain⟨E',g',e1,e2,_⟩:=fresh (c:=#[]) (t:=t) (ob:=.map #[] 0) (row:=[.undef]) st hU hG (fun m' hm=>.map #[] 0 [] (heap_alloc_new w _) rfl (fun j e p he=>by simp at he) (fun p hp=>by cases hp) List.nodup_nil);refine⟨.map (some w.heap.size),_,E',g',.inl ?_,.rep _ _ (.mp _ _ e1),e2,trivial⟩;have:(Instr.makeMap t none).run P w=.ok (.map (some w.heap.size)) (w.alloc (.map #[] 0)):=rfl;simp[execOp,this]
 |call c=>
  obtain⟨callee,args,argTypes⟩:=c;simp only[Br] at tr;split at tr
  ·split at tr
   ·cases tr
   ·split at tr
    ·simp only[q_e] at tr;obtain⟨ax,_,rfl⟩:=tr;cases Ct
    ·simp only[q_e] at tr;obtain⟨ax,_,rfl⟩:=tr;cases Ct
    ·cases tr
  ·simp only[q_c,q_a] at tr;obtain⟨e,Gb,z,Wa,tr⟩:=tr;split at tr;rotate_left
   ·cases tr
   simp only[q_a,q_d,q_b] at tr;obtain⟨as,has,ax,Bb,rfl⟩:=tr;cases Ct
  ·simp only[q_c,q_a,q_d,q_b] at tr;obtain⟨ax,_,ay,_,rfl⟩:=tr;cases Ct
  ·simp only[q_c,q_a,q_d,q_b] at tr;obtain⟨ax,_,ay,_,rfl⟩:=tr;cases Ct
  ·split at tr;rotate_left
   ·cases tr
   split at tr;rotate_left
   ·cases tr
   simp only[q_e] at tr;obtain⟨axs,Oq,htr⟩:=tr;split at htr
   ·subst htr;simp[Bj] at he
   ·subst htr;cases Ct
  ·simp only[q_e] at tr;obtain⟨axs,Oq,rfl⟩:=tr;cases Ct
  ·cases tr
 |panic x=>
  simp only[Br,q_e] at tr;obtain⟨ax,Bb,rfl⟩:=tr;simp[Bj] at he
 |move x=>
  simp only[Br,q_e] at tr;obtain⟨_,_,rfl⟩:=tr;cases Ct
 |assign x=>
  simp only[Br,q_e] at tr;obtain⟨_,_,rfl⟩:=tr;cases Ct
 |nilCheck x=>
  simp only[Br,q_e] at tr;obtain⟨_,_,rfl⟩:=tr;cases Ct
 |unOp op t x=>
  simp only[Br,q_e] at tr;obtain⟨_,_,rfl⟩:=tr;cases Ct
 |index t x i=>
  simp only[Br] at tr;split at tr;rotate_left
  ·cases tr
  simp only[q_c,q_a,q_d,q_b] at tr;obtain⟨_,_,_,_,rfl⟩:=tr;cases Ct
 |extract x i=>
  simp only[Br,q_e] at tr;obtain⟨_,_,rfl⟩:=tr;cases Ct
 |pick c x y=>
  simp only[Br,q_c,q_a,q_d,q_b] at tr;obtain⟨_,_,_,_,_,_,rfl⟩:=tr;cases Ct
 |lookup t x k ok=>
  cases ok with
  |false=>simp[Br] at tr
  |true=>
   simp only[Br] at tr;split at tr;rotate_left
   ·cases tr
   rename_i z hz;simp only[q_c,q_a,q_d,q_b] at tr;obtain⟨ax,Bb,ak,hak,rfl⟩:=tr;have hxr:=hx x (by simp[Op.operands]) ax Bb;have hkr:=hx k (by simp[Op.operands]) ak hak;simp only[Bj] at he;split at he;rotate_left
   ·cases he
   rename_i j kk G h1 h2 hG;split at he;rotate_left
   ·cases he
   rename_i es Cv;split at he;rotate_left
   ·cases he
   rename_i r hr;cases he;have hU:U 0:=Db 0 (by simp[Dt]);have:=Ng hu hU hW hG;subst this;rw[h1] at hxr;obtain⟨u,k1,k2⟩:=Ay8 (P:=P) hg hz Cv hr hob hxr (Ak0 h2 hkr);exact⟨u,w,E,some G,.inl (by simp[execOp,k1]),.rep _ _ k2,⟨Ext0.refl E,hW,hg,hu,fun _ _=>rfl,rfl,fun _=>rfl⟩,trivial⟩
 |mapUpdate t x k v=>
  simp only[Br] at tr;split at tr;rotate_left
  ·cases tr
  rename_i z hz;simp only[q_c,q_a,q_d,q_b] at tr;obtain⟨ax,Bb,ak,hak,av,hav,rfl⟩:=tr;have hxr:=hx x (by simp[Op.operands]) ax Bb;have hkr:=hx k (by simp[Op.operands]) ak hak;have hvr:=hx v (by simp[Op.operands]) av hav;simp only[Bj] at he;split at he;rotate_left
  ·cases he
  rename_i i kk v' h h1 h2 hc;split at he;rotate_left
  ·cases he
  rename_i G hG;split at he;rotate_left
  ·cases he
  rename_i es Cv;split at he;rotate_left
  ·cases he
  rename_i hr;cases he;obtain⟨ho3,hok,Bl⟩:=hob;have hU:U 0:=Db 0 (by simp[Dt]);obtain⟨E1,rep,st⟩:=closed hc hvr (fun j hj=>Db j (by simp only[Dt,q_kb];exact .inr hj));have hg1:=Ng (s:={ s with hp:=h }) st.on hU st.wo hG;subst hg1;rw[h1] at hxr;obtain⟨w',k1,k2,k3⟩:=Azf (P:=P) st.wo st.gx hz Cv hr ho3 (hxr.mono0 st.ext) (Ak0 h2 hkr) rep hok Bl;have Dw:0<h.length:=by
   rcases Nat.eq_zero_or_pos h.length with h0|h0
   ·have:=Xo hG;rw[q_jd (by omega)] at this;cases this
   ·exact h0
  refine⟨undef,w',E1,some (G.set i (SV.undef::(es++[SV.tup [Tw kk,v']]))),.inr ⟨by simp[execOp,k1],rfl⟩,.undef,⟨st.ext,k2,k3,fun o ho=>?_,fun o ho=>?_,rfl,fun hn=>by cases hn⟩,trivial⟩
  ·by_cases h0:o=0
   ·subst h0;rw[q_jq Dw];simp[Env.view]
   ·rw[Kd h0];have:=st.on o ho;simp only[Env.view,if_neg h0] at this |-;exact this
  ·have h0:o≠0:=by rintro rfl;exact ho hU
   have:=st.off o ho;simp only[Env.view,if_neg h0] at this |-;exact this
 |build t parts=>
  simp only[Br] at tr;split at tr;rotate_left
  ·simp only[q_c,q_a] at tr;obtain⟨_,_,_,_,tr⟩:=tr;split at tr;rotate_left
   ·cases tr
   cases tr;cases Ct
  ·cases tr
  simp only[q_c,q_a] at tr;obtain⟨_,_,_,_,tr⟩:=tr;split at tr;rotate_left
  ·cases tr
  cases tr;cases Ct
 |binOp op t x y yt=>
  simp only[Br] at tr;split at tr
  iterate 3
   ·simp only[q_c,q_a,q_d,q_b] at tr;obtain⟨_,_,_,_,rfl⟩:=tr;cases Ct
  ·split at tr;rotate_left
   ·cases tr
   split at tr;rotate_left
   ·cases tr
   simp only[q_c,q_a,q_d,q_b] at tr;obtain⟨_,_,_,_,rfl⟩:=tr;cases Ct
  ·simp only[q_c,q_a,q_d,q_b] at tr;obtain⟨_,_,_,_,rfl⟩:=tr;cases Ct
  ·cases tr
 |convert a b x=>
  simp only[Br] at tr;split at tr
  ·simp only[q_e] at tr;obtain⟨_,_,rfl⟩:=tr;cases Ct
  ·simp only[q_e] at tr;obtain⟨_,_,rfl⟩:=tr;cases Ct
  ·cases tr
 |makeSlice t l c=>
  simp only[Br,q_c,q_a] at tr;obtain⟨_,_,_,_,tr⟩:=tr;split at tr;rotate_left
  ·cases tr
  simp only[q_a,q_d,q_b] at tr;obtain⟨_,_,_,_,rfl⟩:=tr;cases Ct
 |fieldAddr t x i=>
  simp only[Br,q_c,q_a] at tr;obtain⟨_,_,tr⟩:=tr;split at tr
  ·cases tr
  simp only[q_a,q_d,q_b] at tr;obtain⟨_,_,rfl⟩:=tr;cases Ct
 |field t x i=>
  simp only[Br,q_c,q_a] at tr;obtain⟨_,_,_,_,tr⟩:=tr;split at tr;rotate_left
  ·cases tr
  simp only[q_a,q_d,q_b] at tr;obtain⟨_,_,rfl⟩:=tr;cases Ct
 |makeInterface t x=>
  simp only[Br] at tr;split at tr;rotate_left
  ·cases tr
  split at tr;rotate_left
  ·cases tr
  simp only[q_e] at tr;obtain⟨_,_,rfl⟩:=tr;cases Ct
 |buildSlice t len parts=>
  simp only[Br,q_c,q_a] at tr;obtain⟨e,Gb,xs,Ic,tr⟩:=tr;split at tr;rotate_left
  ·cases tr
  cases tr;cases Ct
 |slice t x lo hi mx=>
  cases mx with
  |some m=>simp[Br] at tr
  |none=>
   simp only[Br] at tr;split at tr
   ·split at tr
    ·simp only[q_c,q_a,q_d,q_b] at tr;obtain⟨ax,Bb,lo',_,Dk,_,rfl⟩:=tr;cases Ct
    ·cases tr
   ·simp only[q_c,q_a,q_d,q_b] at tr;obtain⟨ax,Bb,lo',_,Dk,_,rfl⟩:=tr;cases Ct
   ·cases tr
 |indexAddr t x i=>
  simp only[Br,q_c,q_a] at tr;obtain⟨e,he,tr⟩:=tr;split at tr;rotate_left
  ·cases tr
  simp only[q_a,q_d,q_b] at tr;obtain⟨ax,Bb,ai,Xw,rfl⟩:=tr;cases Ct
 |_=>simp[Br] at tr
def Does(C:CT)(o:Cd)(s:St)(v:SV)(h:List Ob)(q:Prop):Prop:=
 (∃f args vs,(o.op=.call f args\/∃fs x,o.op=.callv fs x args/\s.get x=.fn f/\fs.contains f=true)/\Eo s.hp (args.map s.get)=some (vs,h)/\C.p f vs v/\q) \/
 (∃e,Bj s o.op=some e/\e.ob/\e.val=v/\e.hp=h/\(e.as->q)) \/
 (∃f args vs h0 G G',o.op=.hcall f args/\Eo s.hp (args.map s.get)=some (vs,h0)/\gOf h0=some G/\C.h f G vs (.ret v) G'/\h=h0.set 0 (gOb G')/\q)
def Wx(C:CT)(o:Cd)(s:St):Prop:=
 (∃f args vs h0 G G' x,o.op=.hcall f args/\Eo s.hp (args.map s.get)=some (vs,h0)/\gOf h0=some G/\C.h f G vs (.pan x) G'/\C.x x G') \/
 (∃x t G,o.op=.pan x/\s.get x=.ife t/\gOf s.hp=some G/\C.x (.ife t) G)
def PX(w0:World)(own:Nat->Prop)(M0:Mem)(Df:List Deferred)(X:SV->GV->Prop)(Q:Exit->Act->World->Prop):Prop:=
 ∀(E:Env) (u:Value) (x:SV) (G':GV) (a:Act) (w:World),X x G'->Rep E.m u x->W w0 own E w->GI w0.heap.size own E w G'->M0.le E.m->E.m0=M0->a.defers=Df->∀old:List PanicEntry,Aca old->Q (.panic ({ v:=u,recovered:=false }::old)) a w
def PXK(w0:World)(own:Nat->Prop)(M0:Mem)(Df:List Deferred)(KP:Env->Act->Prop)(X:SV->GV->Prop)(Q:Exit->Act->World->Prop):Prop:=
 ∀(E:Env) (u:Value) (x:SV) (G':GV) (a:Act) (w:World),X x G'->Rep E.m u x->W w0 own E w->GI w0.heap.size own E w G'->M0.le E.m->E.m0=M0->a.defers=Df->KP E a->∀old:List PanicEntry,Aca old->Q (.panic ({ v:=u,recovered:=false }::old)) a w
def KT(T:List (Nat×SV))(E:Env)(a:Act):Prop:=∀p∈T,RelV E (a.tmps.getD p.1 undef) p.2
def px_k{w0:World}{own:Nat->Prop}{M0:Mem}{Df:List Deferred}{X:SV->GV->Prop}{Q:Exit->Act->World->Prop}(h:PX w0 own M0 Df X Q):PXK w0 own M0 Df (KT []) X Q:=
 fun E u x G' a w h1 h2 h3 h4 h5 h6 h7 _=>h E u x G' a w h1 h2 h3 h4 h5 h6 h7
def Axt:AOp->Bool
 |.pan _=>true
 |_=>false
def A4c{op:Op}{aop:AOp}(Dv:∀x,op≠.panic x)(tr:Br P op=some aop):Axt aop=false:=by
 cases op<;>(try exact absurd rfl (Dv _))<;>simp only[Br] at tr<;>repeat' first
  |rfl
  |contradiction
  |(cases tr;done)
  |(obtain⟨_,tr⟩:=tr)
  |split at tr
  |(simp only[q_c,q_a,q_e,q_d,q_b] at tr)
  |(subst tr;rfl)
def Axr:AOp->Bool
 |.bin ..=>true
 |_=>false
def A4a{op:Op}{aop:AOp}(Dv:∀bop t x y yt,op≠.binOp bop t x y yt)(tr:Br P op=some aop):Axr aop=false:=by
 cases op<;>(try exact absurd rfl (Dv _ _ _ _ _))<;>simp only[Br] at tr<;>repeat' first
  |rfl
  |contradiction
  |(cases tr;done)
  |(obtain⟨_,tr⟩:=tr)
  |split at tr
  |(simp only[q_c,q_a,q_e,q_d,q_b] at tr)
  |(subst tr;rfl)
def Ahb{o:Oper}{kd:Nat}{bop:BinOp}{ax ay:AX}{va vb:SV}(tr:Br P o.op=some (.bin kd bop ax ay))(hc:Pn kd bop (s.get ax) (s.get ay)=some (va,vb))(hW:W w0 own E w)
  (hx:∀x∈o.op.operands,∀ax,trX x=some ax->RelV E (a.eval x) (s.get ax)) (K:Act->World->Prop) (Q:Exit->Act->World->Prop) (hK:∀u v,(v=va/\j7 (s.get ax) (s.get ay))\/v=vb->RelV E u v->K (a.put o.dst u) w):o.wp P a w K Q:=by
 obtain⟨dst,op,ty,pos,after,guard⟩:=o;simp only at tr hx;have hb:∃bop t x y yt,op=.binOp bop t x y yt:=by
  by_cases h:∃bop t x y yt,op=.binOp bop t x y yt
  ·exact h
  ·have:=A4a (fun b t x y yt he=>h ⟨b,t,x,y,yt,he⟩) tr;cases this
 obtain⟨bop',t,x,y,yt,rfl⟩:=hb;have hkd:∃l l2 z z2 c c2,s.get ax=.dref z l c/\s.get ay=.dref z2 l2 c2/\kd=2/\psz l=true/\psz l2=true/\((bop=.eql/\va=.bool true/\vb=.bool false)\/(bop=.neq/\va=.bool false/\vb=.bool true)):=by
  unfold Pn at hc;split at hc;rotate_left
  ·cases hc
  rename_i h1 h2;split at hc;rotate_left
  ·cases hc
  rename_i hk;refine⟨_,_,_,_,_,_,h1,h2,hk.1,hk.2.1,hk.2.2,?_⟩;split at hc
  ·cases hc;exact .inl ⟨rfl,rfl,rfl⟩
  ·cases hc;exact .inr ⟨rfl,rfl,rfl⟩
  ·cases hc
 obtain⟨l,l2,z,z2,c,c2,g1,g2,rfl,p1,p2,hv⟩:=hkd;have Tr:bop'=bop/\trX x=some ax/\trX y=some ay/\∃e,P.underlying t=some (.pointer e)/\∃i,P.info? e=some i/\i.size≠0:=by
  simp only[Br] at tr;split at tr
  iterate 3
   ·simp only[q_c,q_a,q_d,q_b] at tr;obtain⟨_,_,_,_,h⟩:=tr;cases h
  ·rename_i e hk;split at tr;rotate_left
   ·cases tr
   rename_i inf hinf;split at tr;rotate_left
   ·cases tr
   rename_i Cf;simp only[q_c,q_a,q_d,q_b] at tr;obtain⟨_,h1,_,h2,h⟩:=tr;cases h;exact⟨rfl,h1,h2,e,hk,inf,hinf,Cf⟩
  ·simp only[q_c,q_a,q_d,q_b] at tr;obtain⟨_,_,_,_,h⟩:=tr;cases h
  ·cases tr
 obtain⟨rfl,Bb,Ev,e,Io,inf,hinf,Cf⟩:=Tr;have hu:=hx x (by simp[Op.operands]) ax Bb;have hw:=hx y (by simp[Op.operands]) ay Ev;rw[g1] at hu;rw[g2] at hw;generalize hue:a.eval x=u at hu;generalize hwe:a.eval y=v at hw;have Xy:u=v->j7 (.dref z l c) (.dref z2 l2 c2):=fun e=>⟨E.m,u,hu.closed_rep rfl,by rw[e];exact hw.closed_rep rfl⟩
 cases hu.closed_rep rfl with
 |dref _ _ _ b off vs _ _ _ _ q1 _=>
  cases hw.closed_rep rfl with
  |dref _ _ _ b2 off2 vs2 _ _ _ _ q2 _=>
   have hE:=Ah9 (P:=P) (w:=w) (d:=9999) (a:=⟨b,off+c,none⟩) (b:=⟨b2,off2+c2,none⟩) Io hinf Cf (fun _=>⟨hW.pl b (q1 p1),hW.pl b2 (q2 p2)⟩);have key:∀r,eqB bop' (decide ((⟨b,off+c,none⟩:Addr)=⟨b2,off2+c2,none⟩))=some r->((r=va/\j7 (.dref z l c) (.dref z2 l2 c2))\/r=vb)->Oper.wp P { dst:=dst,op:=.binOp bop' t x y yt,type:=ty,pos:=pos,after:=after,guard:=guard } a w K Q:=by
    intro r hr Kr;obtain⟨z,r1,r2⟩:=Xl (P:=P) (E:=E) (w:=w) hr hE (by simp) (by simp) (by simp) (by simp) (fun x y=>eqGuard_at_pointer _ _ _ _ _ _) x y;have Hr:(execOp a.eval { dst:=dst,op:=.binOp bop' t x y yt,type:=ty,pos:=pos,after:=after,guard:=guard }).run P w=.ok (.value z) w:=by
     show (do pure (Next.value (<-(do eqGuard bop' t x y (a.eval x) (a.eval y);binOp bop' t (a.eval x) (a.eval y):Sem Value))):Sem Next).run P w=_;rw[Sem.run_bind,hue,hwe,r1];rfl
    unfold Oper.wp;rw[Hr];exact hK z r (by rw[g1,g2];exact Kr) r2
   rcases hv with⟨rfl,rfl,rfl⟩|⟨rfl,rfl,rfl⟩
   ·refine key _ rfl ?_
    by_cases hE:(⟨b,off+c,none⟩:Addr)=⟨b2,off2+c2,none⟩
    ·exact .inl ⟨by first|(rw[q_jn hE];done)|(rw[q_jn hE];rfl),Xy (by rw[hE])⟩
    ·exact .inr (by first|(rw[q_je hE];done)|(rw[q_je hE];rfl))
   ·refine key _ rfl ?_
    by_cases hE:(⟨b,off+c,none⟩:Addr)=⟨b2,off2+c2,none⟩
    ·exact .inl ⟨by first|(rw[q_jn hE];done)|(rw[q_jn hE];rfl),Xy (by rw[hE])⟩
    ·exact .inr (by first|(rw[q_je hE];done)|(rw[q_je hE];rfl))
def Agr{c:Call}{args:List AX}{vs:List SV}{h:List Ob}(hW:W w0 own E w)(hg:GX w0.heap.size own E w g)(hu:∀i,U i->E.view g i=s.hp[i]?)(Hq:∀y∈c.args.toList,y∈(Op.call c).operands)
  (hx:∀x∈(Op.call c).operands,∀ax,trX x=some ax->RelV E (a.eval x) (s.get ax)) (Fs:Ph c.args.toList=some args) (hcl:Eo s.hp (args.map s.get)=some (vs,h)) (Db:∀i∈Hi s.hp (args.map s.get),U i) :
  ∃E1,(c.args.toList.map a.eval).length=vs.length/\(∀(j:Nat) v x,(c.args.toList.map a.eval)[j]?=some v->vs[j]?=some x->Rep E1.m v x)/\Step (Up g U) w (Pc E) { E with m0:=E.m } E1 w h/\(g.isSome=true->h[0]?=s.hp[0]?):=by
 obtain⟨hl,Gj⟩:=Af6 Fs;have Er:∀(j:Nat) (v:Value) (x:SV),(c.args.toList.map a.eval)[j]?=some v->(args.map s.get)[j]?=some x->RelV E v x:=by
  intro j v x hv Dd;simp only[q_ji,q_e] at hv Dd;obtain⟨y,hy,rfl⟩:=hv;obtain⟨ax,Bb,rfl⟩:=Dd;obtain⟨ax',g1,g2⟩:=Gj j y hy;rw[Bb] at g1;cases g1;exact hx y (Hq y (q_jb hy)) ax g2
 have Bl:(c.args.toList.map a.eval).length=(args.map s.get).length:=by rw[q_g,q_g,hl]
 have Kp:g.isSome=true->∀i∈Hi s.hp (args.map s.get),i≠0:=fun hs=>by
  obtain⟨G,rfl⟩:=q_ka.1 hs;exact Akq hW hg.z (fun i h h0=>Qs hu i ⟨h,fun _=>h0⟩) hcl Bl Er Db
 obtain⟨_,hlen2,E1,st1,rep1⟩:=Aha (U:=Up g U) (w0:=w) (own:=Pc E) (E:={ E with m0:=E.m }) hW.rebase (Qs hu) hcl Bl (fun j v x hv hx=>(Er j v x hv hx).re) (fun i h=>⟨Db i h,fun hs=>Kp hs i h⟩);exact⟨E1,by rw[hlen2,Bl],rep1,st1,fun hs=>(Sl hcl).2 0 (fun h=>Kp hs 0 h rfl)⟩
def Ag3{c:Call}{f:Nat}{fn:Func}{dst:Option Tmp}{ty:TypeId}{pos:String}{after:Array Edge}{guard:Option (Nat×Bool)}(Km:P.funcs[f]?=some fn)(Sv:fn.body.isSome=true)(Vs:fn.name≠"runtime.NumGoroutine")
  (Nq:c.callee=.value (.func f)\/∃t,c.callee=.value (.tmp t)/\RelV E (a.eval (.tmp t)) (.fn f)) :
  (execOp a.eval { dst:=dst,op:=.call c,type:=ty,pos:=pos,after:=after,guard:=guard }).run P w=.ok (.enter f (c.args.toList.map a.eval).toArray) w:=by
 have hvs:(c.args.map a.eval)=(c.args.toList.map a.eval).toArray:=by rw[<-Array.toList_map]
 rw[<-hvs];obtain⟨b,hb⟩:=q_ka.1 Sv;rcases Nq with Nq|⟨t,Nq,Er⟩
 ·simp[execOp,resolve,Nq,Act.eval,Deferred.ofValue,invoke,callFunc,Km,Vs,hb]
 ·have hv:=Avn Er;simp[execOp,resolve,Nq,hv,Deferred.ofValue,invoke,callFunc,Km,Vs,hb]
def Ai1{c:Call}{f:Nat}{args:List AX}{vs:List SV}{h0:List Ob}{T:HOut->GV->Prop}{dst:Option Tmp}{ty:TypeId}{pos:String}{after:Array Edge}{guard:Option (Nat×Bool)}(tr:Br P (.call c)=some (.hcall f args))
  (hcl:Eo s.hp (args.map s.get)=some (vs,h0)) (hG:gOf h0=some G) (hC:HContractQ P f G vs T) (hW:W w0 own E w) (hg:GX w0.heap.size own E w g) (hu:∀i,U i->E.view g i=s.hp[i]?) (Db:∀i∈0::Hi s.hp (args.map s.get),U i)
  (hx:∀x∈(Op.call c).operands,∀ax,trX x=some ax->RelV E (a.eval x) (s.get ax)) :
  ∃as,(execOp a.eval { dst:=dst,op:=.call c,type:=ty,pos:=pos,after:=after,guard:=guard }).run P w=.ok (.enter f as) w /\
   Calls P f as w fun e w'=>∃out G' E',T out G'/\Qt E'.m e out/\StepV U w0 own E g E' (some G') w' (h0.set 0 (gOb G')):=by
 obtain⟨c',hcc,hc⟩:=i8 tr rfl;cases hcc;rcases hc with⟨f',args',fn,Fl,Km,Sv,Vs,Fs,Nq⟩|⟨t,args',Fl,_⟩
 rotate_left
 ·cases Fl
 rcases Fl with Fl|Fl
 ·cases Fl
 cases Fl;have Hq:∀y∈c.args.toList,y∈(Op.call c).operands:=fun y hy=>by
  obtain⟨callee,as,ts⟩:=c;simp only at hy Nq;subst Nq;simp[Op.operands,Call.operands,Array.mem_def,hy]
 obtain⟨E1,Bl,rep1,st1,Kj⟩:=Agr hW hg hu Hq hx Fs hcl (fun i hi=>Db i (List.mem_cons_of_mem _ hi));have st:=StepV.of_pure hW hg hu st1 (fun hs _=>Kj hs);have hU:U 0:=Db 0 List.mem_cons_self;have hg1:=Ng (s:={ s with hp:=h0 }) st.on hU st.wo hG;subst hg1;have Dw:0<h0.length:=by
  rcases Nat.eq_zero_or_pos h0.length with h|h
  ·have:=Xo hG;rw[q_jd (by omega)] at this;cases this
  ·exact h
 refine⟨_,Ag3 (E:=E) Km Sv Vs (.inl Nq),Calls.mono (hC E1.m w _ ⟨st.wo.mem,st.wo.pl,st.wo.tab⟩ st.gx.sat Bl rep1) (fun e w' he=>?_)⟩;obtain⟨out,G',hT,m',k1,k2,k3,k4,k5,k6,k7,k8,k9,k10,k11⟩:=he;obtain⟨g1,g2,g3⟩:=W.hcalled st.wo st.gx k2 k3 k4 k5 k6 k7 k8 k9 k10 k11;refine⟨out,G',{ E1 with m:=m',m0:=E.m0 },hT,k1,⟨st.ext.trans g1,g2,g3,fun o ho=>?_,fun o ho=>?_,rfl,fun hn=>by cases hn⟩⟩
 ·by_cases So:o=0
  ·subst So;rw[q_jq Dw];simp[Env.view]
  ·rw[Kd So];have:=st.on o ho;simp only[Env.view,if_neg So] at this |-;exact this
 ·have So:o≠0:=by rintro rfl;exact ho hU
  have:=st.off o ho;simp only[Env.view,if_neg So] at this |-;exact this
def Ai2{c:Call}{f:Nat}{args:List AX}{vs:List SV}{h0:List Ob}{G':GV}{out:HOut}{dst:Option Tmp}{ty:TypeId}{pos:String}{after:Array Edge}{guard:Option (Nat×Bool)}(tr:Br P (.call c)=some (.hcall f args))
  (hcl:Eo s.hp (args.map s.get)=some (vs,h0)) (hG:gOf h0=some G) (hC:HContract P f G vs out G') (hW:W w0 own E w) (hg:GX w0.heap.size own E w g) (hu:∀i,U i->E.view g i=s.hp[i]?) (Db:∀i∈0::Hi s.hp (args.map s.get),U i)
  (hx:∀x∈(Op.call c).operands,∀ax,trX x=some ax->RelV E (a.eval x) (s.get ax)) :
  ∃as,(execOp a.eval { dst:=dst,op:=.call c,type:=ty,pos:=pos,after:=after,guard:=guard }).run P w=.ok (.enter f as) w /\
   Calls P f as w fun e w'=>∃E',Qt E'.m e out/\StepV U w0 own E g E' (some G') w' (h0.set 0 (gOb G')):=by
 obtain⟨as,h1,h2⟩:=Ai1 (dst:=dst) (ty:=ty) (pos:=pos) (after:=after) (guard:=guard) tr hcl hG hC.q hW hg hu Db hx;refine⟨as,h1,Calls.mono h2 (fun e w' he=>?_)⟩;obtain⟨o,G1,E',⟨rfl,rfl⟩,k1,k2⟩:=he;exact⟨E',k1,k2⟩
def r8{o:Oper}{ao:Cd}{v:SV}{h:List Ob}{q:Prop}(tr:Br P o.op=some ao.op)(hD:Does (Eh P X) ao s v h q)(hW:W w0 own E w)(hg:GX w0.heap.size own E w g)(hu:∀i,U i->E.view g i=s.hp[i]?)
  (Dj:g.isSome=true->0<s.hp.length) (hn:Hd s ao.op=true->U s.hp.length) (Db:∀i∈Dt s ao.op,U i) (hx:∀x∈o.op.operands,∀ax,trX x=some ax->RelV E (a.eval x) (s.get ax)) (K:Act->World->Prop) (Q:Exit->Act->World->Prop)
  (hK:∀u w' E' g',RelV E' u v->StepV U w0 own E g E' g' w' h->q->K (a.put o.dst u) w'):o.wp P a w K Q:=by
 rcases hD with⟨f,args,vs,Cg,hcl,hC,hq⟩|⟨e,he,hob,rfl,rfl,hq⟩|⟨f,args,vs,h0,G,G',Cg,hcl,hG,hC,rfl,hq⟩
 ·obtain⟨dst,op,ty,pos,after,guard⟩:=o;obtain⟨d,aop,gu,id,fp,chk⟩:=ao;simp only at Cg tr hx hn Db hK;obtain⟨c,rfl,hc⟩:=i8 tr (by rcases Cg with h|⟨fs,x,h,_⟩<;>· rw[h];rfl);have Hq:∀y∈c.args.toList,y∈(Op.call c).operands:=fun y hy=>by
   obtain⟨callee,as,ts⟩:=c;simp only at hy;have Fl:(∃f,callee=.value (.func f))\/∃t,callee=.value (.tmp t):=by
    rcases hc with⟨f,_,_,_,_,_,_,_,h⟩|⟨t,_,_,_,h⟩
    ·exact .inl ⟨f,h⟩
    ·exact .inr ⟨t,h⟩
   rcases Fl with⟨f,rfl⟩|⟨t,rfl⟩<;>simp[Op.operands,Call.operands,Array.mem_def,hy]
  have hfun:∃fn,P.funcs[f]?=some fn/\fn.body.isSome=true/\fn.name≠"runtime.NumGoroutine"/\Ph c.args.toList=some args/\(c.callee=.value (.func f)\/∃t,c.callee=.value (.tmp t)/\RelV E (a.eval (.tmp t)) (.fn f)):=by
   rcases Cg with Cg|⟨fs,x,Cg,hfx,Dz⟩
   ·rcases hc with⟨f',args',fn,Fl,h1,h2,h3,h4,h5⟩|⟨t,args',Fl,_⟩
    ·rw[Cg] at Fl;rcases Fl with Fl|Fl
     ·cases Fl;exact⟨fn,h1,h2,h3,h4,.inl h5⟩
     ·cases Fl
    ·rw[Cg] at Fl;cases Fl
   ·rcases hc with⟨f',args',fn,Fl,_⟩|⟨t,args',Fl,h4,h5⟩
    ·rw[Cg] at Fl;rcases Fl with Fl|Fl<;>cases Fl
    ·rw[Cg] at Fl;cases Fl;have hm:f∈n6 P c.argTypes:=List.contains_iff_mem.1 Dz;unfold n6 at hm;rw[List.mem_filter] at hm;have hm2:=hm.2;split at hm2
     ·rename_i fn Km;simp only[q_jl,bne_iff_ne,ne_eq] at hm2;refine⟨fn,Km,hm2.2.1,hm2.2.2,h4,.inr ⟨t,h5,?_⟩⟩;rw[<-hfx];exact hx (.tmp t) (by obtain⟨callee,as,ts⟩:=c;simp only at h5;subst h5;simp[Op.operands,Call.operands]) (.t t) rfl
     ·cases hm2
  obtain⟨fn,Km,Sv,Vs,Fs,Nq⟩:=hfun;have Db:∀i∈Hi s.hp (args.map s.get),U i:=by
   rcases Cg with Cg|⟨fs,x,Cg,_,_⟩<;>· subst Cg;exact Db
  obtain⟨E1,Bl,rep1,st1,h0⟩:=Agr hW hg hu Hq hx Fs hcl Db;unfold Oper.wp;rw[Ag3 Km Sv Vs Nq];simp only[Oper.upon];refine Calls.mono (hC E1.m w _ ⟨st1.wo.mem,st1.wo.pl,st1.wo.tab⟩ Bl rep1) (fun e w' he=>?_);obtain⟨u,m',rfl,k1,k2,k3,k4,k5,k6,k7,k8,k9⟩:=he;obtain⟨g1,g2⟩:=st1.wo.called k2 k3 k4 k5 k6 k7 k8 k9;exact hK u w' { E1 with m:=m',m0:=E.m0 } g (.rep _ _ k1) (StepV.of_pure (E1:={ E1 with m:=m' }) hW hg hu ⟨st1.ext.trans g1,g2,st1.on,st1.off⟩ (fun hs _=>h0 hs)) hq
 ·cases Ct:Hx s ao.op with
  |false=>
   obtain⟨u,w',E',h1,h2,h3,h4⟩:=A0e (P:=P) (o:=o) tr Ct he hob hW hg hu Dj hn Db hx;unfold Oper.wp;rcases h1 with h1|⟨h1,rfl⟩
   ·rw[h1];exact hK u w' E' g h2 h3 (hq h4)
   ·rw[h1];exact hK undef w' E' g h2 h3 (hq h4)
  |true=>
   obtain⟨u,w',E',g',h1,h2,h3,h4⟩:=Av1 (P:=P) (o:=o) tr Ct he hob hW hg hu Db hx;unfold Oper.wp;rcases h1 with h1|⟨h1,rfl⟩
   ·rw[h1];exact hK u w' E' g' h2 h3 (hq h4)
   ·rw[h1];exact hK undef w' E' g' h2 h3 (hq h4)
 ·obtain⟨dst,op,ty,pos,after,guard⟩:=o;obtain⟨d,aop,gu,id,fp,chk⟩:=ao;simp only at Cg tr hx hn Db hK;subst Cg;obtain⟨c,rfl,_⟩:=i8 tr rfl;obtain⟨as,hr,Xz⟩:=Ai2 (dst:=dst) (ty:=ty) (pos:=pos) (after:=after) (guard:=guard) tr hcl hG hC hW hg hu Db hx;unfold Oper.wp;rw[hr];simp only[Oper.upon];refine Calls.mono Xz (fun e w' he=>?_);obtain⟨E',⟨u,rfl,Cu⟩,st⟩:=he;exact hK u w' E' (some G') (.rep _ _ Cu) st hq
def Ac0{KP:Env->Act->Prop}{o:Oper}{ao:Cd}(tr:Br P o.op=some ao.op)(hD:Wx (Eh P X) ao s)(hW:W w0 own E w)(hg:GX w0.heap.size own E w g)(hu:∀i,U i->E.view g i=s.hp[i]?)
  (Db:∀i∈Dt s ao.op,U i) (hx:∀x∈o.op.operands,∀ax,trX x=some ax->RelV E (a.eval x) (s.get ax)) (hM:M0.le E.m) (hz:E.m0=M0) (Vm:a.defers=Df) (K:Act->World->Prop) (Q:Exit->Act->World->Prop) (hQ:PXK w0 own M0 Df KP X Q) (Rr:∀E',Ext0 E E'->KP E' a):o.wp P a w K Q:=by
 obtain⟨dst,op,ty,pos,after,guard⟩:=o;obtain⟨d,aop,gu,id,fp,chk⟩:=ao;simp only at tr hx Db;rcases hD with⟨f,args,vs,h0,G,G',x,Cg,hcl,hG,hC,hX⟩|⟨x,t,G,Cg,hxt,hG,hX⟩
 ·simp only at Cg;subst Cg;obtain⟨c,rfl,_⟩:=i8 tr rfl;obtain⟨ars0,hr,Xz⟩:=Ai2 (dst:=dst) (ty:=ty) (pos:=pos) (after:=after) (guard:=guard) tr hcl hG hC hW hg hu Db hx;unfold Oper.wp;rw[hr];simp only[Oper.upon];refine Calls.mono Xz (fun e w' he=>?_);obtain⟨E',⟨u,old,Tj,rfl,Cu⟩,st⟩:=he;exact hQ E' u x G' a w' hX Cu st.wo st.gx (hM.trans st.ext.m) (st.ext.z.trans hz) Vm (Rr E' st.ext) old Tj
 ·simp only at Cg;subst Cg;have Cg:∃y,op=.panic y/\trX y=some x:=by
   cases op with
   |panic y=>
    simp only[Br,q_e] at tr;obtain⟨ax,Bb,h⟩:=tr;cases h;exact⟨y,rfl,Bb⟩
   |_=>have:=A4c (by intro y h;cases h) tr;cases this
  obtain⟨y,rfl,hy⟩:=Cg;have hv:=hx y (by simp[Op.operands]) x hy;rw[hxt] at hv;have hU:U 0:=Db 0 (by simp[Dt]);have:=Ng hu hU hW hG;subst this;have hr:=hv.closed_rep rfl;have Fu:a.eval y=.iface t (.agg #[]):=by
   generalize a.eval y=u at hr;cases hr;rfl
  unfold Oper.wp;have:(execOp a.eval { dst:=dst,op:=.panic y,type:=ty,pos:=pos,after:=after,guard:=guard }).run P w=.halt (.panic (a.eval y)) w:=by
   simp[execOp,Fu,Instr.panic,goPanic]
  rw[this];simp only[Oper.upon];exact hQ E _ _ G a w hX hr hW hg hM hz Vm (Rr E (Ext0.refl E)) [] (fun p h=>by cases h)
structure SR(w0:World)(own:Nat->Prop)(M0:Mem)(B:Env->Prop)(Df:List Deferred)(E:Env)(g:Option (GV))(s:St)(a:Act)(w:World):Prop where
 wo:W w0 own E w
 gx:GX w0.heap.size own E w g
 hp:∀o,E.view g o=s.hp[o]?
 len:s.sl.length=a.tmps.size
 sl:∀i,RelV E (a.tmps.getD i undef) (s.sl.getD i .undef)
 dfr:a.defers=Df
 z:E.m0=M0
 le:M0.le E.m
 d:g=none->E.m.d=M0.d
 hb:g.isSome=true->B E
def SR.ne(hS:SR w0 own M0 B Df E g s a w)(h:g.isSome=true):0<s.hp.length:=by
 obtain⟨G,rfl⟩:=q_ka.1 h;have:=hS.hp 0;simp only[Env.view,if_true] at this;rcases Nat.eq_zero_or_pos s.hp.length with h0|h0
 ·rw[q_jd (by omega)] at this;cases this
 ·exact h0
def Al5{u:Value}{v:SV}{d:Option Nat}{hp:List Ob}(hl:s.sl.length=a.tmps.size)(h:∀i,RelV E (a.tmps.getD i undef) (s.sl.getD i .undef))(hv:RelV E u v) :
  ∀i,RelV E ((a.put d u).tmps.getD i undef) (({ s with hp:=hp }.put d v).sl.getD i .undef):=by
 intro i;cases d with
 |none=>exact h i
 |some d=>
  by_cases hd:d=i
  ·subst hd;rcases q_jo d a.tmps.size with Aq|Hz
   ·simp[Act.put,St.put,Array.getElem?_setIfInBounds,List.getElem?_set,Aq,hl,hv]
   ·have:=h d;simpa [Act.put,St.put,Array.getElem?_setIfInBounds,List.getElem?_set,show ¬d<a.tmps.size by omega,hl] using this
  ·have:=h i;simpa [Act.put,St.put,Array.getElem?_setIfInBounds,List.getElem?_set,hd] using this
def A1c{u:Value}{v:SV}{d:Option Nat}{hp:List Ob}(hl:s.sl.length=a.tmps.size):({ s with hp:=hp }.put d v).sl.length=(a.put d u).tmps.size:=by
 cases d<;>simp[Act.put,St.put,hl]
def Al3{u:Value}{d:Option Nat}:(a.put d u).defers=a.defers:=by cases d<;>rfl
def Zs{v:SV}{d:Option Nat}:(s.put d v).hp=s.hp:=by cases d<;>rfl
def SR.step[hB:Nonempty (StB B)]{u:Value}{v:SV}{d:Option Nat}{h:List Ob}{w':World}{E':Env}{g':Option (GV)}(hS:SR w0 own M0 B Df E g s a w)(hv:RelV E' u v)(st:StepV (fun _=>True) w0 own E g E' g' w' h) :
  SR w0 own M0 B Df E' g' ({ s with hp:=h }.put d v) (a.put d u) w':=by
 refine⟨st.wo,st.gx,fun o=>by rw[Zs];exact st.on o trivial,A1c hS.len,Al5 hS.len (fun i=>(hS.sl i).mono0 st.ext) hv,by rw[Al3];exact hS.dfr,st.ext.z.trans hS.z,hS.le.trans st.ext.m,fun hn=>?_,fun h=>hB.elim fun k=>k.ext _ _ st.ext (hS.hb (by rw[<-st.sm];exact h))⟩;subst hn;have Qh:=st.sm;cases g with
 |none=>exact (st.d rfl).trans (hS.d rfl)
 |some G=>cases Qh
def SR.x(hS:SR w0 own M0 B Df E g s a w){x:Operand}{ax:AX}(h:trX x=some ax):RelV E (a.eval x) (s.get ax):=by
 cases x with
 |tmp t=>simp only[trX,q_b] at h;subst h;exact hS.sl t
 |const v=>
  simp only[trX,q_e] at h;obtain⟨sv,hsv,rfl⟩:=h;exact .rep _ _ (Lm hsv).1
 |func f=>simp only[trX,q_b] at h;subst h;exact .rep _ _ (.fn f)
 |_=>simp[trX] at h
def Agc{v:Value}(h:RelV E v .undef):v=undef:=by
 cases h with
 |undef=>rfl
 |rep _ _ hr=>cases hr
def w6{o:Oper}{ao:Cd}{ops:Array Oper}(tr:Pg P ops o=some ao):Br P o.op=some ao.op/\o.dst=ao.d /\
  ((o.guard=none/\ao.g=none)\/∃j want t,o.guard=some (j,want)/\(ops[j]?).bind (·.dst)=some t/\ao.g=some (t,want)):=by
 unfold Pg at tr;split at tr
 ·rename_i op Cg;split at tr
  ·rename_i hg;cases tr;exact⟨Cg,rfl,.inl ⟨hg,rfl⟩⟩
  ·rename_i j want hg;split at tr
   ·rename_i t ht;cases tr;exact⟨Cg,rfl,.inr ⟨j,want,t,hg,ht,rfl⟩⟩
   ·cases tr
 ·cases tr
def Agf{o:Oper}{f:Nat->Option Bool}(h:o.guard=none):Region.wanted o f=true:=by simp[Region.wanted,h]
def Age{o:Oper}{ops:Array Oper}{j t:Nat}{want b:Bool}(h:o.guard=some (j,want))(ht:(ops[j]?).bind (·.dst)=some t)(hv:RelV E (a.tmps.getD t undef) (.bool b)):Region.wanted o (yielded ops a.tmps)=(b==want):=by
 have:=Uu hv;have h2:a.tmps[t]?=some (.bool b):=by
  rw[Array.getD_eq_getD_getElem?] at this;cases h3:a.tmps[t]? with
  |none=>rw[h3] at this;cases this
  |some u=>rw[h3] at this;simpa using this
 simp only[Region.wanted,h,yielded,ht,Option.bind_some,h2];cases b<;>cases want<;>rfl
def Agg{o:Oper}{ops:Array Oper}{j t:Nat}{want:Bool}(h:o.guard=some (j,want))(ht:(ops[j]?).bind (·.dst)=some t)(hv:RelV E (a.tmps.getD t undef) .undef):Region.wanted o (yielded ops a.tmps)=false:=by
 have:=Agc hv;rw[Array.getD_eq_getD_getElem?] at this;simp only[Region.wanted,h,yielded,ht,Option.bind_some];cases h3:a.tmps[t]? with
 |none=>rfl
 |some u=>
  rw[h3] at this;have:u=undef:=by simpa using this
  subst this;rfl
def Aj6{KP:Env->Act->Prop}{o:Oper}{ao:Cd}{f:Nat}{args:List AX}{vs:List SV}{h0:List Ob}{T:HOut->GV->Prop}(tr:Br P o.op=some ao.op)(Cg:ao.op=.hcall f args)(hcl:Eo s.hp (args.map s.get)=some (vs,h0))(hG:gOf h0=some G)(hC:HContractQ P f G vs T)
  (hW:W w0 own E w) (hg:GX w0.heap.size own E w g) (hu:∀i,U i->E.view g i=s.hp[i]?)
  (Db:∀i∈Dt s ao.op,U i) (hx:∀x∈o.op.operands,∀ax,trX x=some ax->RelV E (a.eval x) (s.get ax)) (hM:M0.le E.m) (hz:E.m0=M0) (Vm:a.defers=Df) (K:Act->World->Prop) (Q:Exit->Act->World->Prop) (hQ:PXK w0 own M0 Df KP X Q) (Rr:∀E',Ext0 E E'->KP E' a)
  (hK:∀r G',T (.ret r) G'->∀u w' E',RelV E' u r->StepV U w0 own E g E' (some G') w' (h0.set 0 (gOb G'))->K (a.put o.dst u) w') (hX:∀x G',T (.pan x) G'->X x G'):o.wp P a w K Q:=by
 obtain⟨dst,op,ty,pos,after,guard⟩:=o;obtain⟨d,aop,gu,id,fp,chk⟩:=ao;simp only at Cg tr hx Db hK;subst Cg;obtain⟨c,rfl,_⟩:=i8 tr rfl;obtain⟨as,hr,Xz⟩:=Ai1 (dst:=dst) (ty:=ty) (pos:=pos) (after:=after) (guard:=guard) tr hcl hG hC hW hg hu Db hx;unfold Oper.wp;rw[hr];simp only[Oper.upon];refine Calls.mono Xz (fun e w' he=>?_);obtain⟨out,G',E',hT,hE,st⟩:=he;cases out with
 |ret r=>
  obtain⟨u,rfl,Cu⟩:=hE;exact hK r G' hT u w' E' (.rep _ _ Cu) st
 |pan x=>
  obtain⟨u,old,Tj,rfl,Cu⟩:=hE;exact hQ E' u x G' a w' (hX x G' hT) Cu st.wo st.gx (hM.trans st.ext.m) (st.ext.z.trans hz) Vm (Rr E' st.ext) old Tj
def Ah3{C:CT}{o:Cd}{K:St->Prop}(h:vc1 C o s K):(∃v hp q,Does C o s v hp q/\(q->K ({ s with hp:=hp }.put o.d v)))\/Wx C o s\/(∃kd op x y va vb,o.op=.bin kd op x y/\Pn kd op (s.get x) (s.get y)=some (va,vb)/\(C.b (s.get x) (s.get y)->K (s.put o.d va))/\K (s.put o.d vb)) \/
  (∃f args vs h0 G T,o.op=.hcall f args/\Eo s.hp (args.map s.get)=some (vs,h0)/\gOf h0=some G/\C.q f G vs T/\∀out G',T out G'->(match out with|.ret r=>K ({ s with hp:=h0.set 0 (gOb G') }.put o.d r)|.pan x=>C.x x G')):=by
 unfold vc1 at h;split at h
 ·rename_i f args Cg;split at h
  ·rename_i vs hh hcl;obtain⟨r,hC,hK⟩:=h;exact .inl ⟨r,hh,True,.inl ⟨f,args,vs,.inl Cg,hcl,hC,trivial⟩,fun _=>hK⟩
  ·exact h.elim
 ·rename_i fs x args Cg;split at h
  ·rename_i f hf;split at h
   ·rename_i Dz;split at h
    ·rename_i vs hh hcl;obtain⟨r,hC,hK⟩:=h;exact .inl ⟨r,hh,True,.inl ⟨f,args,vs,.inr ⟨fs,x,Cg,hf,Dz⟩,hcl,hC,trivial⟩,fun _=>hK⟩
    ·exact h.elim
   ·exact h.elim
  ·exact h.elim
 ·rename_i c a b Cg;split at h
  ·rename_i t ht;have he:Bj s o.op=some { ob:=True,val:=if t then s.get a else s.get b,hp:=s.hp }:=by rw[Cg];simp only[Bj,ht,St.val]
   refine .inl ⟨if t then s.get a else s.get b,s.hp,True,.inr (.inl ⟨_,he,trivial,rfl,rfl,fun _=>trivial⟩),fun _=>?_⟩;cases t with
   |true=>exact h.1 rfl
   |false=>exact h.2 rfl
  ·exact h.elim
 ·rename_i f args Cg;split at h
  ·rename_i vs hh hcl;split at h
   ·rename_i G hG;obtain⟨T,hC,hK⟩:=h;exact .inr (.inr (.inr ⟨f,args,vs,hh,G,T,Cg,hcl,hG,hC,hK⟩))
   ·exact h.elim
  ·exact h.elim
 ·rename_i x Cg;split at h
  ·rename_i t ht;split at h
   ·rename_i G hG;exact .inr (.inl (.inr ⟨x,t,G,Cg,ht,hG,h⟩))
   ·exact h.elim
  ·exact h.elim
 ·rename_i kd op x y Cg;split at h
  ·rename_i va vb Rj;exact .inr (.inr (.inl ⟨kd,op,x,y,va,vb,Cg,Rj,h.1,h.2⟩))
  ·split at h
   ·rename_i e he;exact .inl ⟨e.val,e.hp,e.as,.inr (.inl ⟨e,by rw[Cg];exact he,h.1,rfl,rfl,id⟩),h.2⟩
   ·exact h.elim
 ·split at h
  ·rename_i e he;exact .inl ⟨e.val,e.hp,e.as,.inr (.inl ⟨e,he,h.1,rfl,rfl,id⟩),h.2⟩
  ·exact h.elim
def StepV.refl{hp:List Ob}(hW:W w0 own E w)(hg:GX w0.heap.size own E w g)(hu:∀i,U i->E.view g i=hp[i]?):StepV U w0 own E g E g w hp:=⟨Ext0.refl E,hW,hg,hu,fun _ _=>rfl,rfl,fun _=>rfl⟩
def A5c{C:CT}{o o':Cd}{s:St}{K:St->Prop}(h1:o.op=o'.op)(h2:o.d=o'.d)(h3:o.g=o'.g)(h:Ex C [o] s K):Ex C [o'] s K:=by
 obtain⟨d,op,g,id,fp,chk⟩:=o;obtain⟨d',op',g',id',fp',chk'⟩:=o';simp only at h1 h2 h3;subst h1 h2 h3;exact h
def A0d[hB:Nonempty (StB B)]{TT:List (Nat×SV)}{ops:Array Oper}{Q:Exit->Act->World->Prop}{K:St->Prop}{Kc:Act->World->Prop}(hX:PXK w0 own M0 Df (KT TT) X Q)(hK:∀E g s a w,SR w0 own M0 B Df E g s a w->K s->Kc a w){o:Oper}{ao:Cd}{k:Nat}{E:Env}{g:Option (GV)}{s:St}{a:Act}{w:World}
  (hao:Pg P ops o=some ao) (hk:ops[k]?=some o) (hS:SR w0 own M0 B Df E g s a w) (hkt:KT TT E a) (Dv:∀p∈TT,ao.d≠some p.1) (hvc:Ex (Eh P X) [ao] s K):wpOp P ops Q k Kc a w:=by
 obtain⟨tr,hd,hg⟩:=w6 hao;have Tf:∀E',Ext0 E E'->KT TT E' a:=fun E' hE p hp=>(hkt p hp).mono0 hE
 have go:vc1 (Eh P X) ao s (fun s'=>K s')->o.wp P a w Kc Q:=by
  intro h1;rcases Ah3 h1 with⟨v,hp,q,hD,hn⟩|hD|⟨kd,bop,x,y,va,vb,Cg,Rj,k1,k2⟩|⟨f,args,vs,h0,G,T,Cg,hcl,hG,hC,hT⟩
  ·refine r8 (U:=fun _=>True) tr hD hS.wo hS.gx (fun i _=>hS.hp i) hS.ne (fun _=>trivial) (fun _ _=>trivial) (fun x _ ax Bb=>hS.x Bb) _ _ (fun u w' E' g' hv st hq=>?_);rw[hd];exact hK E' g' _ _ w' (hS.step hv st) (hn hq)
  ·exact Ac0 (KP:=KT TT) (U:=fun _=>True) tr hD hS.wo hS.gx (fun i _=>hS.hp i) (fun _ _=>trivial) (fun x _ ax Bb=>hS.x Bb) hS.le hS.z hS.dfr _ _ hX Tf
  ·refine Ahb (by rw[<-Cg];exact tr) Rj hS.wo (fun x _ ax Bb=>hS.x Bb) _ _ (fun u v hv hr=>?_);rw[hd];have Gz:=hS.step (d:=ao.d) hr (StepV.refl hS.wo hS.gx (fun o _=>hS.hp o));rcases hv with⟨rfl,hb⟩|rfl
   ·exact hK E g _ _ w Gz (k1 hb)
   ·exact hK E g _ _ w Gz k2
  ·refine Aj6 (KP:=KT TT) (U:=fun _=>True) tr Cg hcl hG hC hS.wo hS.gx (fun i _=>hS.hp i) (fun _ _=>trivial) (fun x _ ax Bb=>hS.x Bb) hS.le hS.z hS.dfr _ _ hX Tf (fun r G' hr u w' E' hv st=>?_) (fun x G' hx=>hT _ _ hx);rw[hd];exact hK E' (some G') _ _ w' (hS.step hv st) (hT _ _ hr)
 have skip:K (s.put ao.d .undef)->Kc (a.put o.dst undef) w:=by
  intro h1;refine hK E g _ _ w ?_ h1;rw[hd];have:=hS.step (d:=ao.d) (.undef:RelV E undef .undef) (StepV.refl hS.wo hS.gx (fun o _=>hS.hp o));exact this
 unfold wpOp;simp only[hk];rcases hg with⟨hg1,Im⟩|⟨j,want,t,hg1,Im,Yh⟩
 ·rw[if_pos (Agf hg1)];simp only[Ex,Im] at hvc;exact .inl (go hvc)
 ·simp only[Ex,Yh] at hvc;have Gz:=hS.sl t;split at hvc
  ·rename_i b hb;rw[hb] at Gz;have hw:=Age hg1 Im Gz
   by_cases Lh:b=want
   ·rw[if_pos (by rw[hw];simp[Lh])];exact .inl (go (hvc.1 (by simp[Lh])))
   ·rw[if_neg (by rw[hw];simp[Lh])];exact skip (hvc.2 (by simp[Lh]))
  ·rename_i hb;rw[hb] at Gz;rw[if_neg (by rw[Agg hg1 Im Gz];simp)];exact skip hvc
  ·exact hvc.elim
def A0f[hB:Nonempty (StB B)]{TT:List (Nat×SV)}{ops:Array Oper}{Q:Exit->Act->World->Prop}{K:St->Prop}(hX:PXK w0 own M0 Df (KT TT) X Q)(hK:∀E g s a w,SR w0 own M0 B Df E g s a w->K s->Q .normal a w):∀(l:List Oper) (rest:List Cd) (k:Nat) (E:Env) (g:Option (GV)) (s:St) (a:Act) (w:World),Qq P ops l=some rest->(∀(j:Nat) o,l[j]?=some o->ops[k+j]?=some o)->SR w0 own M0 B Df E g s a w->KT TT E a->(∀p∈TT,∀ao∈rest,ao.d≠some p.1)->Ex (Eh P X) rest s K->wpOps P ops Q (List.range' k l.length) a w:=by
 intro l
 induction l with
 |nil=>
  intro rest k E g s a w htr _ hS _ _ hvc;simp only[Qq,q_b] at htr;subst htr;simp only[Ex] at hvc;simpa [wpOps] using hK E g s a w hS hvc
 |cons o l ih=>
  intro rest k E g s a w htr Gj hS hkt Dv hvc;simp only[Qq,q_c,q_a,q_d,q_b] at htr;obtain⟨ao,hao,rest',Vx,rfl⟩:=htr;obtain⟨tr,hd,hg⟩:=w6 hao;have hk:ops[k]?=some o:=by simpa using Gj 0 o rfl
  have Yi:∀(j:Nat) o',l[j]?=some o'->ops[k+1+j]?=some o':=fun j o' hj=>by
   have:=Gj (j+1) o' (by simpa using hj)
   rwa [show k+1+j=k+(j+1) by omega]
  have Ys:∀p∈TT,∀b∈rest',b.d≠some p.1:=fun p hp b hb=>Dv p hp b (List.mem_cons_of_mem _ hb)
  have Tf:∀E',Ext0 E E'->KT TT E' a:=fun E' hE p hp=>(hkt p hp).mono0 hE
  have Mu:∀E' u,Ext0 E E'->KT TT E' (a.put ao.d u):=fun E' u hE p hp=>by
   have Dj:=Dv p hp ao (List.mem_cons_self ..);have h1:(a.put ao.d u).tmps.getD p.1 undef=a.tmps.getD p.1 undef:=by
    cases Gi:ao.d with
    |none=>rfl
    |some t=>
     rw[Gi] at Dj;have h2:¬t=p.1:=fun e=>Dj (by rw[e])
     simp[Act.put,Array.getElem?_setIfInBounds,h2]
   rw[h1];exact (hkt p hp).mono0 hE
  have go:vc1 (Eh P X) ao s (fun s'=>Ex (Eh P X) rest' s' K)->o.wp P a w (wpOps P ops Q (List.range' (k+1) l.length)) Q:=by
   intro h1;rcases Ah3 h1 with⟨v,hp,q,hD,hn⟩|hD|⟨kd,bop,x,y,va,vb,Cg,Rj,k1,k2⟩|⟨f,args,vs,h0,G,T,Cg,hcl,hG,hC,hT⟩
   ·refine r8 (U:=fun _=>True) tr hD hS.wo hS.gx (fun i _=>hS.hp i) hS.ne (fun _=>trivial) (fun _ _=>trivial) (fun x _ ax Bb=>hS.x Bb) _ _ (fun u w' E' g' hv st hq=>?_);rw[hd];exact ih rest' (k+1) E' g' _ _ w' Vx Yi (hS.step hv st) (Mu E' u st.ext) Ys (hn hq)
   ·exact Ac0 (KP:=KT TT) (U:=fun _=>True) tr hD hS.wo hS.gx (fun i _=>hS.hp i) (fun _ _=>trivial) (fun x _ ax Bb=>hS.x Bb) hS.le hS.z hS.dfr _ _ hX Tf
   ·refine Ahb (by rw[<-Cg];exact tr) Rj hS.wo (fun x _ ax Bb=>hS.x Bb) _ _ (fun u v hv hr=>?_);rw[hd];have Gz:=hS.step (d:=ao.d) hr (StepV.refl hS.wo hS.gx (fun o _=>hS.hp o));rcases hv with⟨rfl,hb⟩|rfl
    ·exact ih rest' (k+1) E g _ _ w Vx Yi Gz (Mu E _ (Ext0.refl E)) Ys (k1 hb)
    ·exact ih rest' (k+1) E g _ _ w Vx Yi Gz (Mu E _ (Ext0.refl E)) Ys k2
   ·refine Aj6 (KP:=KT TT) (U:=fun _=>True) tr Cg hcl hG hC hS.wo hS.gx (fun i _=>hS.hp i) (fun _ _=>trivial) (fun x _ ax Bb=>hS.x Bb) hS.le hS.z hS.dfr _ _ hX Tf (fun r G' hr u w' E' hv st=>?_) (fun x G' hx=>hT _ _ hx);rw[hd];exact ih rest' (k+1) E' (some G') _ _ w' Vx Yi (hS.step hv st) (Mu E' u st.ext) Ys (hT _ _ hr)
  have skip:Ex (Eh P X) rest' (s.put ao.d .undef) K->wpOps P ops Q (List.range' (k+1) l.length) (a.put o.dst undef) w:=by
   intro h1;refine ih rest' (k+1) E g _ _ w Vx Yi ?_ (by rw[hd];exact Mu E _ (Ext0.refl E)) Ys h1;rw[hd];have:=hS.step (d:=ao.d) (.undef:RelV E undef .undef) (StepV.refl hS.wo hS.gx (fun o _=>hS.hp o));exact this
  rw[q_jk,List.range'_succ,wpOps];simp only[hk];rcases hg with⟨hg1,Im⟩|⟨j,want,t,hg1,Im,Yh⟩
  ·rw[if_pos (Agf hg1)];simp only[Ex,Im] at hvc;exact .inl (go hvc)
  ·simp only[Ex,Yh] at hvc;have Gz:=hS.sl t;split at hvc
   ·rename_i b hb;rw[hb] at Gz;have hw:=Age hg1 Im Gz
    by_cases Lh:b=want
    ·rw[if_pos (by rw[hw];simp[Lh])];exact .inl (go (hvc.1 (by simp[Lh])))
    ·rw[if_neg (by rw[hw];simp[Lh])];exact skip (hvc.2 (by simp[Lh]))
   ·rename_i hb;rw[hb] at Gz;rw[if_neg (by rw[Agg hg1 Im Gz];simp)];exact skip hvc
   ·exact hvc.elim
end
section
variable{s:St}
def Asj{C:CT}{o:Cd}{v:SV}{hp:List Ob}{q:Prop}(h:Does C o s v hp q):∀i,i ∉ Ea s o.op->hp[i]?=s.hp[i]?:=by
 intro i hi;rcases h with⟨f,args,vs,Cg,hcl,_⟩|⟨e,he,_,_,rfl,_⟩|⟨f,args,vs,h0,G,G',Cg,hcl,_,_,rfl,_⟩
 ·rcases Cg with Cg|⟨fs,x,Cg,_,_⟩ <;>
  ·rw[Cg] at hi;simp only[Ea,reader,Dr,Dt,Hd,q_kx,if_false,q_k] at hi;exact (Sl hcl).2 i hi
 ·exact Ago he i hi
 ·rw[Cg] at hi;simp only[Ea,reader,Dr,Dt,Hd,q_kx,if_false,q_k,q_kb,not_or] at hi;rw[Kd hi.1];exact (Sl hcl).2 i hi.2
end
section
variable{X:Type}(f:Nat->Nat->X)(wr:Nat->Nat->Bool)
def atL(L:Nat->Bool):Nat->Nat->X
 |0,p=>f 0 p
 |k+1,p=>if L k && wr k p then f (k+1) p else atL L k p
variable{f wr}
def Ags{L:Nat->Bool}(hf:∀k p,wr k p=false->f (k+1) p=f k p){p:Nat}:∀{k:Nat},(∀j,j<k->wr j p=true->L j=true)->atL f wr L k p=f k p:=by
 intro k
 induction k with
 |zero=>intro _;rfl
 |succ k ih=>
  intro h;simp only[atL];cases hw:wr k p with
  |true=>simp[h k (Nat.lt_succ_self k) hw]
  |false=>simp only[q_lb,q_kx,if_false];rw[hf k p hw];exact ih (fun j hj=>h j (Nat.lt_succ_of_lt hj))
def Us{L:Nat->Bool}(hf:∀k p,wr k p=false->f (k+1) p=f k p){p i:Nat}(h1:∀j,j<i->wr j p=true->L j=true):∀{n:Nat},i<=n->(∀k,i<=k->k<n->wr k p=true->L k=false)->atL f wr L n p=f i p:=by
 intro n
 induction n with
 |zero=>intro hi _;have:i=0:=by omega
        subst this;rfl
 |succ n ih=>
  intro hi h2
  by_cases hn:i=n+1
  ·subst hn;exact Ags hf h1
  ·simp only[atL];have:=ih (by omega) (fun k hk Mu=>h2 k hk (by omega));cases hw:wr n p with
   |true=>simp[h2 n (by omega) (by omega) hw,this]
   |false=>simp[this]
def An8{L:Nat->Bool}(hf:∀k p,wr k p=false->f (k+1) p=f k p){p i:Nat}(h1:∀j,j<i->wr j p=true->L j=true):∀{n:Nat},i<=n->atL f wr L n p=f i p\/∃k,i<=k/\k<n/\L k=true/\wr k p=true/\atL f wr L n p=f (k+1) p:=by
 intro n
 induction n with
 |zero=>intro hi;have:i=0:=by omega
        subst this;exact .inl rfl
 |succ n ih=>
  intro hi
  by_cases hn:i=n+1
  ·subst hn;exact .inl (Ags hf h1)
  ·by_cases hw:(L n && wr n p)=true
   ·refine .inr ⟨n,by omega,Nat.lt_succ_self n,by simp at hw;exact hw.1,by simp at hw;exact hw.2,?_⟩;simp only[atL,hw,if_true]
   ·have e:atL f wr L (n+1) p=atL f wr L n p:=by simp only[atL,hw,if_false];rfl
    rcases ih (by omega) with h|⟨k,k1,k2,k3,k4,k5⟩
    ·exact .inl (e.trans h)
    ·exact .inr ⟨k,k1,by omega,k3,k4,e.trans k5⟩
def Agu{L:Nat->Bool}{p i:Nat}(hL:L i=true)(hw:wr i p=true):∀{n:Nat},i<n->(∀k,i<k->k<n->wr k p=true->L k=false)->atL f wr L n p=f (i+1) p:=by
 intro n
 induction n with
 |zero=>intro hi;omega
 |succ n ih=>
  intro hi h2;simp only[atL]
  by_cases hn:i=n
  ·subst hn;simp[hL,hw]
  ·have:=ih (by omega) (fun k hk Mu=>h2 k hk (by omega));cases hw':wr n p with
   |true=>simp[h2 n (by omega) (by omega) hw',this]
   |false=>simp[this]
def Agt{L L':Nat->Bool}{p i:Nat}(hL:∀k,k≠i->L' k=L k)(hw:wr i p=false):∀{n:Nat},atL f wr L' n p=atL f wr L n p:=by
 intro n
 induction n with
 |zero=>rfl
 |succ n ih=>
  simp only[atL]
  by_cases hn:n=i
  ·subst hn;simp[hw,ih]
  ·rw[hL n hn,ih]
end
def Ln(ops:Array Oper)(L:Nat->Bool):Prop:=∀j o,ops[j]?=some o->L j=true->∀e∈o.after,Region.binds .any e=true->L e.on=true
def Aze{acc:List Nat}{i:Nat}:∀{es:List Edge},(msk acc es).testBit i=true->∃e∈es,Region.binds .any e=true/\(i=e.on\/(acc.getD e.on 0).testBit i=true):=by
 intro es
 induction es with
 |nil=>intro h;simp[msk] at h
 |cons e r ih=>
  intro h;simp only[msk] at h;split at h
  ·rename_i hb;simp only[Nat.testBit_or,q_kw,Nat.testBit_two_pow,q_jt] at h;rcases h with (h|h)|h
   ·obtain⟨e',h1,h2⟩:=ih h;exact⟨e',List.mem_cons_of_mem _ h1,h2⟩
   ·exact⟨e,List.mem_cons_self,hb,.inl h.symm⟩
   ·exact⟨e,List.mem_cons_self,hb,.inr h⟩
  ·obtain⟨e',h1,h2⟩:=ih h;exact⟨e',List.mem_cons_of_mem _ h1,h2⟩
def Afg{ops:Array Oper}{L:Nat->Bool}(hL:Ln ops L):∀(l:List Oper) (acc:List Nat),(∀(j:Nat) o,l[j]?=some o->ops[acc.length+j]?=some o) ->
  (∀k i,(acc.getD k 0).testBit i=true->L k=true->L i=true)->∀k i,((Md l acc).getD k 0).testBit i=true->L k=true->L i=true:=by
 intro l
 induction l with
 |nil=>intro acc _ h;exact h
 |cons o l ih=>
  intro acc Gj h;refine ih (acc++[msk acc o.after.toList]) (fun j o' hj=>?_) (fun k i hb hk=>?_)
  ·have:=Gj (j+1) o' (by simpa using hj)
   rwa [q_jr,List.length_singleton,show acc.length+1+j=acc.length+(j+1) by omega]
  ·by_cases hka:k<acc.length
   ·rw[q_j,q_jf hka,<-q_j] at hb;exact h k i hb hk
   ·by_cases Tf:k=acc.length
    ·subst Tf;rw[q_j,q_jj (q_ja _)] at hb;simp only[Nat.sub_self,q_jv,q_jz] at hb;obtain⟨e,he,Ju,hi⟩:=Aze hb;have h0:ops[acc.length]?=some o:=by simpa using Gj 0 o rfl
     have hLe:=hL _ o h0 hk e (Array.mem_def.2 he) Ju;rcases hi with rfl|hi
     ·exact hLe
     ·exact h _ i hi hLe
    ·rw[q_j,q_jj (by omega),q_jd (by simp;omega)] at hb;simp at hb
def Anp{s:St}{op:AOp}{e:Eff}(h:Bj s op=some e):s.hp.length<=e.hp.length:=by
 cases op with
 |new cells=>simp only[Bj,q_b] at h;subst h;simp
 |box x=>simp only[Bj,q_b] at h;subst h;simp
 |mk sz bytes zero l c=>
  simp only[Bj] at h;split at h
  ·cases h;simp
  ·cases h
 |bslice sz ps=>
  simp only[Bj] at h;split at h
  ·rename_i rows hh hr;cases h;obtain⟨l',h1,_,_⟩:=n8 hr;have:=(Sl h1).1;simp;omega
  ·cases h
 |load ag n x=>simp only[Bj] at h;rw[Agn h];exact q_ja _
 |slc z x lo hi=>simp only[Bj] at h;rw[Agp h];exact q_ja _
 |len st x=>simp only[Bj] at h;rw[Agm h];exact q_ja _
 |store n x y=>
  simp only[Bj,Qv] at h;split at h
  ·split at h;rotate_left
   ·cases h
   split at h;rotate_left
   ·cases h
   split at h
   ·cases h;simp
   ·split at h;rotate_left
    ·cases h
    rename_i x' hh Hn;split at h;rotate_left
    ·cases h
    split at h;rotate_left
    ·cases h
    cases h;have:=(Nk Hn).1;simp;omega
  ·split at h;rotate_left
   ·cases h
   rename_i x' hh Hn;split at h;rotate_left
   ·cases h
   split at h;rotate_left
   ·cases h
   cases h;have:=(Nk Hn).1;simp;omega
  ·cases h
 |app sz bytes x y=>
  simp only[Bj,Uq] at h;split at h;rotate_left
  ·cases h
  split at h
  ·cases h;simp
  ·split at h;rotate_left
   ·cases h
   split at h;rotate_left
   ·cases h
   cases h;simp
  ·cases h
 |iad sz x y=>
  simp only[Bj] at h;split at h
  ·cases h;exact q_ja _
  ·cases h
 |build zero parts=>simp only[Bj,q_b] at h;subst h;exact q_ja _
 |call f args=>simp[Bj] at h
 |callv fs x args=>simp[Bj] at h
 |hcall f args=>simp[Bj] at h
 |pan x=>simp[Bj] at h
 |newg cells=>
  simp only[Bj] at h;split at h
  ·cases h;simp
  ·cases h
 |boxg x=>
  simp only[Bj] at h;split at h;rotate_left
  ·cases h
  rename_i v hh Hn;split at h;rotate_left
  ·cases h
  cases h;have:=(Nk Hn).1;simp;omega
 |mkmap=>
  simp only[Bj] at h;split at h
  ·cases h;simp
  ·cases h
 |six x i=>
  simp only[Bj] at h;split at h
  ·cases h;exact q_ja _
  ·cases h
 |arr parts=>simp only[Bj,q_b] at h;subst h;exact q_ja _
 |mlk z x k=>
  simp only[Bj] at h;split at h;rotate_left
  ·cases h
  split at h;rotate_left
  ·cases h
  split at h
  ·cases h;exact q_ja _
  ·cases h
 |mup x k v=>
  simp only[Bj] at h;split at h;rotate_left
  ·cases h
  rename_i Hn;split at h;rotate_left
  ·cases h
  split at h;rotate_left
  ·cases h
  split at h;rotate_left
  ·cases h
  cases h;have:=(Nk Hn).1;simp;omega
 |fld ag off n x=>
  simp only[Bj] at h;split at h
  ·cases h;exact q_ja _
  ·cases h
 |_=>
  simp only[Bj] at h
  first
   |(rw[Ab2 h];exact q_ja _)
   |(repeat' (split at h)
     all_goals first|(rw[Ab2 h];exact q_ja _)|(cases h;done))
def GX.drew{n0:Nat}{own:Nat->Prop}{E:Env}{w:World}{g:Option (GV)}(h:GX n0 own E w g):GX n0 own E { w with drawn:=w.drawn+1 } g:=by
 cases g with
 |none=>trivial
 |some G=>exact⟨h.z,⟨h.sat.dom,h.sat.inj,fun i r b hr hb=>(h.sat.row i r b hr hb).mono (.refl _) rfl,h.sat.free⟩,h.new,h.obs⟩
def Lc(o:Cd)(s:St)(b:Bool):Prop:=
 match o.g with
 |none=>b=true
 |some (t,want)=>(∃c,s.sl.getD t .undef=.bool c/\b=(c==want))\/(s.sl.getD t .undef=.undef/\b=false)
structure Trace(C:CT)(l:List Cd)(s:St)(fps:List (Nat×AOp×St))(p:Prop)(K:St->Prop)(n:Nat)(σ:Nat->St)(v:Nat->SV)(q:Nat->Prop)(on:Nat->Bool):Prop where
 zero:σ 0=s
 le:n<=l.length
 want:∀i ao,i<n->l[i]?=some ao->Lc ao (σ i) (on i)
 next:∀i ao,i<n->l[i]?=some ao->σ (i+1)=({ σ i with hp:=(σ (i+1)).hp }:St).put ao.d (v i)
 does:∀i ao,i<n->l[i]?=some ao->on i=true->Does C ao (σ i) (v i) (σ (i+1)).hp (q i)/\∀f∈fps,f.1∈ao.chk->m9 f.2.2 f.2.1 (σ i) ao.op (σ (i+1)).hp
 skip:∀i ao,i<n->l[i]?=some ao->on i=false->v i=.undef/\(σ (i+1)).hp=(σ i).hp/\q i
 apart:∀i j a b,i<j->j<n->l[i]?=some a->l[j]?=some b->on i=true->on j=true->a.fp=true->a.id∈b.chk->m9 (σ i) a.op (σ j) b.op (σ (j+1)).hp
 fin:n=l.length->p->(∀i,i<l.length->q i)->K (σ l.length)
 die:∀ao,l[n]?=some ao->Lc ao (σ n) true/\on n=true/\Wx C ao (σ n)/\ao.chk.contains ao.id=true/\(∀f∈fps,f.1∈ao.chk->∀x∈Ea f.2.2 f.2.1,x ∉ Dr (σ n) ao.op)/\(∀i a,i<n->l[i]?=some a->on i=true->a.fp=true->a.id∈ao.chk->∀x∈Ea (σ i) a.op,x ∉ Dr (σ n) ao.op)
def Ag5{o:Cd}{s:St}{fps:List (Nat×AOp×St)}(h:clear o s fps):∀f∈fps,f.1∈o.chk->∀x∈Ea f.2.2 f.2.1,x ∉ Dr s o.op:=by
 unfold clear at h;split at h
 ·rename_i hc;intro f _ hf;rw[hc] at hf;cases hf
 ·exact h
def Apl{o:Cd}{s s':St}{fps:List (Nat×AOp×St)}(h:Qw o s fps s'):∀f∈fps,f.1∈o.chk->∀x∈Dr f.2.2 f.2.1,x∈Ea s o.op->Aay o.op=true/\Ol f.2.2 f.2.1 s'.hp:=by
 unfold Qw at h;split at h
 ·rename_i hc;intro f _ hf;rw[hc] at hf;cases hf
 ·exact h
def Asl{C:CT}{o:Cd}{s:St}{K:St->Prop->Prop}(h:Et C o s K):(∃v hp q,Does C o s v hp q/\K ({ s with hp:=hp }.put o.d v) q)\/(Wx C o s/\o.chk.contains o.id=true):=by
 unfold Et at h;split at h
 ·rename_i f args Cg;split at h
  ·rename_i vs hh hcl;obtain⟨r,hC,hK⟩:=h;exact .inl ⟨r,hh,True,.inl ⟨f,args,vs,.inl Cg,hcl,hC,trivial⟩,hK⟩
  ·exact h.elim
 ·rename_i fs x args Cg;split at h
  ·rename_i f hf;split at h
   ·rename_i Dz;split at h
    ·rename_i vs hh hcl;obtain⟨r,hC,hK⟩:=h;exact .inl ⟨r,hh,True,.inl ⟨f,args,vs,.inr ⟨fs,x,Cg,hf,Dz⟩,hcl,hC,trivial⟩,hK⟩
    ·exact h.elim
   ·exact h.elim
  ·exact h.elim
 ·rename_i c a b Cg;split at h
  ·rename_i t ht;have he:Bj s o.op=some { ob:=True,val:=if t then s.get a else s.get b,hp:=s.hp }:=by rw[Cg];simp only[Bj,ht,St.val]
   refine .inl ⟨if t then s.get a else s.get b,s.hp,True,.inr (.inl ⟨_,he,trivial,rfl,rfl,fun _=>trivial⟩),?_⟩;cases t with
   |true=>exact h.1 rfl
   |false=>exact h.2 rfl
  ·exact h.elim
 ·rename_i f args Cg;split at h
  ·rename_i vs hh hcl;split at h
   ·rename_i G hG;obtain⟨out,G',hC,hK⟩:=h;cases out with
    |ret r=>exact .inl ⟨r,_,True,.inr (.inr ⟨f,args,vs,hh,G,G',Cg,hcl,hG,hC,rfl,trivial⟩),hK⟩
    |pan x=>exact .inr ⟨.inl ⟨f,args,vs,hh,G,G',x,Cg,hcl,hG,hC,hK.2⟩,hK.1⟩
   ·exact h.elim
  ·exact h.elim
 ·exact h.elim
 ·split at h
  ·rename_i e he;exact .inl ⟨e.val,e.hp,e.as,.inr (.inl ⟨e,he,h.1,rfl,rfl,id⟩),h.2⟩
  ·exact h.elim
def Al4(s:St)(hp:List Ob)(d:Option Nat)(v:SV):({ s with hp:=hp }.put d v).hp=hp:=Zs
def Trace.cons{C:CT}{o:Cd}{l:List Cd}{s s1:St}{fps fps':List (Nat×AOp×St)}{p p':Prop}{K:St->Prop}{n:Nat}{σ:Nat->St}{v:Nat->SV}{q:Nat->Prop}{on:Nat->Bool}
  {v0:SV} {q0:Prop} {b0:Bool} (h:Trace C l s1 fps' p' K n σ v q on) (hw:Lc o s b0) (Bc:s1=({ s with hp:=s1.hp }:St).put o.d v0) (hd:b0=true->Does C o s v0 s1.hp q0/\∀f∈fps,f.1∈o.chk->m9 f.2.2 f.2.1 s o.op s1.hp)
  (hk:b0=false->v0=.undef/\s1.hp=s.hp/\q0) (hp:p->q0->p') (hf:∀f∈fps,f∈fps') (Vp:b0=true->o.fp=true->(o.id,o.op,s)∈fps') :
  Trace C (o::l) s fps p K (n+1) (fun i=>match i with|0=>s|i+1=>σ i) (fun i=>match i with|0=>v0|i+1=>v i) (fun i=>match i with|0=>q0|i+1=>q i) (fun i=>match i with|0=>b0|i+1=>on i):=by
 have h0:=h.zero;refine⟨rfl,by have:=h.le;simpa using this,fun i ao hi ha=>?_,fun i ao hi ha=>?_,fun i ao hi ha Ck=>?_,fun i ao hi ha Ck=>?_,fun i j a b Jk hj ha hb hi Jx Sy hid=>?_,fun hn Vu hq=>?_,fun ao ha=>?_⟩
 ·cases i with
  |zero=>simp at ha;subst ha;exact hw
  |succ i=>exact h.want i ao (by omega) (by simpa using ha)
 ·cases i with
  |zero=>simp at ha;subst ha;simp only[h0];exact Bc
  |succ i=>exact h.next i ao (by omega) (by simpa using ha)
 ·cases i with
  |zero=>simp at ha;subst ha;simp only[h0];exact hd Ck
  |succ i=>
   obtain⟨g1,g2⟩:=h.does i ao (by omega) (by simpa using ha) Ck;exact⟨g1,fun f hfm hc=>g2 f (hf f hfm) hc⟩
 ·cases i with
  |zero=>simp at ha;subst ha;simp only[h0];exact hk Ck
  |succ i=>exact h.skip i ao (by omega) (by simpa using ha) Ck
 ·cases j with
  |zero=>omega
  |succ j=>
   cases i with
   |zero=>
    simp at ha;subst ha;exact (h.does j b (by omega) (by simpa using hb) Jx).2 _ (Vp hi Sy) hid
   |succ i=>exact h.apart i j a b (by omega) (by omega) (by simpa using ha) (by simpa using hb) hi Jx Sy hid
 ·exact h.fin (by simpa using hn) (hp Vu (hq 0 (by simp))) (fun i hi=>hq (i+1) (by simp;omega))
 ·obtain⟨d1,d2,d3,d4,d5,d6⟩:=h.die ao (by simpa using ha);refine⟨d1,d2,d3,d4,fun f hfm hc=>d5 f (hf f hfm) hc,fun i a hi Xu Ck Sy hid=>?_⟩;cases i with
  |zero=>simp at Xu;subst Xu;exact d5 _ (Vp Ck Sy) hid
  |succ i=>exact d6 i a (by omega) (by simpa using Xu) Ck Sy hid
def A4e{C:CT}{K:St->Prop}:∀(l:List Cd) (s:St) (fps:List (Nat×AOp×St)) (p:Prop),Gu C l s fps p K->∃n σ v q on,Trace C l s fps p K n σ v q on:=by
 intro l
 induction l with
 |nil=>
  intro s fps p h;simp only[Gu] at h;exact⟨0,fun _=>s,fun _=>.undef,fun _=>True,fun _=>false,rfl,q_ja _,by simp,by simp,by simp,by simp,by simp,fun _ hp _=>h hp,by simp⟩
 |cons o l ih=>
  intro s fps p h;have go:∀b0,Lc o s b0->b0=true->clear o s fps/\Et C o s (fun s' q=>Qw o s fps s'/\Gu C l s' (if o.fp then (o.id,o.op,s)::fps else fps) (p/\q) K)->∃n σ v q on,Trace C (o::l) s fps p K n σ v q on:=by
   intro b0 hw hb h;obtain⟨h1,h2⟩:=h;rcases Asl h2 with⟨v0,hp,q0,hD,hK⟩|⟨hD,hc⟩
   ·obtain⟨n,σ,v,q,on,hT⟩:=ih _ _ _ hK.2;exact⟨_,_,_,_,_,hT.cons hw (by rw[Al4]) (fun _=>⟨by rw[Al4];exact hD,fun f hf hc=>⟨Ag5 h1 f hf hc,Apl hK.1 f hf hc⟩⟩) (fun h=>by rw[hb] at h;cases h) (fun hp hq=>⟨hp,hq⟩)
     (fun f hf=>by split
                   ·exact List.mem_cons_of_mem _ hf
                   ·exact hf) (fun _ Sy=>by rw[if_pos Sy];exact List.mem_cons_self)⟩
   ·subst hb;refine⟨0,fun _=>s,fun _=>.undef,fun _=>True,fun _=>true,rfl,Nat.zero_le _,fun i _ hi=>by omega,fun i _ hi=>by omega,fun i _ hi=>by omega,fun i _ hi=>by omega,fun i j _ _ _ hj=>by omega,fun hn=>by simp at hn,fun ao ha=>?_⟩;simp at ha;subst ha;exact⟨hw,rfl,hD,hc,Ag5 h1,fun i _ hi=>by omega⟩
  have sk:∀b0,Lc o s b0->b0=false->Gu C l (s.put o.d .undef) fps p K->∃n σ v q on,Trace C (o::l) s fps p K n σ v q on:=by
   intro b0 hw hb h;obtain⟨n,σ,v,q,on,hT⟩:=ih _ _ _ h;refine⟨_,_,_,_,_,hT.cons (v0:=.undef) (q0:=True) hw ?_ (fun h=>by rw[hb] at h;cases h) (fun _=>⟨rfl,Zs,trivial⟩) (fun hp _=>hp) (fun f hf=>hf) (fun h=>by rw[hb] at h;cases h)⟩;rw[Zs]
  simp only[Gu] at h;split at h
  ·rename_i hg;exact go true (by simp[Lc,hg]) rfl h
  ·rename_i t want hg;split at h
   ·rename_i b hb
    by_cases Lh:b=want
    ·exact go (b==want) (by simp only[Lc,hg];exact .inl ⟨b,hb,rfl⟩) (by simp[Lh]) (h.1 (by simp[Lh]))
    ·exact sk (b==want) (by simp only[Lc,hg];exact .inl ⟨b,hb,rfl⟩) (by simp[Lh]) (h.2 (by simp[Lh]))
   ·rename_i hb;exact sk false (by unfold Lc;rw[hg];exact .inr ⟨hb,rfl⟩) rfl h
   ·exact h.elim
def A3z{P:Program}{ops:Array Oper}:∀{l:List Oper} {r:List Cd},Qq P ops l=some r->r.length=l.length/\∀(j:Nat) ao,r[j]?=some ao->∃o,l[j]?=some o/\Pg P ops o=some ao:=by
 intro l
 induction l with
 |nil=>intro r h;simp only[Qq,q_b] at h;subst h;simp
 |cons y l ih=>
  intro r h;simp only[Qq,q_c,q_a,q_d,q_b] at h;obtain⟨ay,Ev,r',hr,rfl⟩:=h;obtain⟨h1,h2⟩:=ih hr;refine⟨by simp[h1],fun j ao ha=>?_⟩;cases j with
  |zero=>simp at ha;subst ha;exact⟨y,by simp,Ev⟩
  |succ j=>obtain⟨o,g1,g2⟩:=h2 j ao (by simpa using ha);exact⟨o,by simpa using g1,g2⟩
def Anv{m:List Nat}{l:List Cd}{j:Nat}{ao:Cd}(h:(l9 m l)[j]?=some ao):∃a0,l[j]?=some a0/\ao.op=a0.op/\ao.d=a0.d/\ao.g=a0.g/\ao.id=j:=by
 simp only[l9,q_ji,q_e] at h;obtain⟨⟨a0,k⟩,h1,rfl⟩:=h;rw[List.getElem?_zipIdx,q_e] at h1;obtain⟨a1,h2,h3⟩:=h1;cases h3;exact⟨a0,h2,rfl,rfl,rfl,by simp⟩
def Ayo{ops:Array Oper}{o:Oper}{t:Tmp}(h:Operand.tmp t∈o.op.operands):t∈o.looksAt ops:=
 List.mem_append_left _ (List.mem_filterMap.2 ⟨.tmp t,by simpa using h,rfl⟩)
def Ayn{ops:Array Oper}{o:Oper}{j t:Nat}{want:Bool}(h:o.guard=some (j,want))(ht:(ops[j]?).bind (·.dst)=some t):t∈o.looksAt ops:=by
 simp[Oper.looksAt,h,ht]
section
variable{P:Program}{w0:World}{own:Nat->Prop}{M0:Mem}{B:Env->Prop}{Df:List Deferred}{ops:Array Oper}{Q:Exit->Act->World->Prop}{K:St->Prop}{l:List Cd}{s:St}{n:Nat}{σ:Nat->St}{v:Nat->SV}{q:Nat->Prop}{on:Nat->Bool}{X:SV->GV->Prop}{g:Option (GV)}{b0 b1:Nat}
def Does.weak{C:CT}{o:Cd}{s:St}{v:SV}{hp:List Ob}{q q':Prop}(h:Does C o s v hp q)(k:q->q'):Does C o s v hp q':=by
 rcases h with⟨f,args,vs,h1,h2,h3,h4⟩|⟨e,h1,h2,h3,h4,h5⟩|⟨f,args,vs,h0,G,G',h1,h2,h3,h4,h5,h6⟩
 ·exact .inl ⟨f,args,vs,h1,h2,h3,k h4⟩
 ·exact .inr (.inl ⟨e,h1,h2,h3,h4,fun a=>k (h5 a)⟩)
 ·exact .inr (.inr ⟨f,args,vs,h0,G,G',h1,h2,h3,h4,h5,k h6⟩)
structure Sg(C:CT)(l:List Cd)(s:St)(K:St->Prop)(b0 n b1:Nat)(σ:Nat->St)(v:Nat->SV)(q:Nat->Prop)(on:Nat->Bool):Prop where
 zero:∀k,k<=b0->σ k=s
 lo:b0<=n
 le:n<=b1
 hi:b1<=l.length
 want:∀i ao,b0<=i->i<n->l[i]?=some ao->Lc ao (σ i) (on i)
 next:∀i ao,b0<=i->i<n->l[i]?=some ao->σ (i+1)=({ σ i with hp:=(σ (i+1)).hp }:St).put ao.d (v i)
 does:∀i ao,b0<=i->i<n->l[i]?=some ao->on i=true->Does C ao (σ i) (v i) (σ (i+1)).hp (q i)
 skip:∀i ao,b0<=i->i<n->l[i]?=some ao->on i=false->v i=.undef/\(σ (i+1)).hp=(σ i).hp/\q i
 apart:∀i j a b,b0<=i->i<j->j<n->l[i]?=some a->l[j]?=some b->on i=true->on j=true->a.fp=true->a.id∈b.chk->m9 (σ i) a.op (σ j) b.op (σ (j+1)).hp
 fin:n=b1->(∀i,b0<=i->i<b1->q i)->K (σ b1)
 die:n<b1->∀ao,l[n]?=some ao->Lc ao (σ n) true/\on n=true/\Wx C ao (σ n)/\ao.chk.contains ao.id=true/\(∀i a,b0<=i->i<n->l[i]?=some a->on i=true->a.fp=true->a.id∈ao.chk->∀x∈Ea (σ i) a.op,x ∉ Dr (σ n) ao.op)
 still:∀k,n<=k->σ (k+1)=σ k
 low:∀k,k<b0->q k
def A4d{C:CT}{l sub rest:List Cd}{s:St}{K:St->Prop}{b0:Nat}(hl:l.drop b0=sub++rest)(hb:b0<=l.length)(h:Gu C sub s [] True K):∃n σ v q on,Sg C l s K b0 n (b0+sub.length) σ v q on:=by
 obtain⟨n,σ,v,q,on,hT⟩:=A4e sub s [] True h;have hle:=hT.le;have Bl:b0+sub.length<=l.length:=by
  have:=congrArg List.length hl;rw[q_kh,q_jr] at this;omega
 have get:∀{i:Nat} {ao:Cd},b0<=i->i<b0+n->l[i]?=some ao->sub[i-b0]?=some ao:=fun {i ao} h1 h2 h3=>by
  have:(l.drop b0)[i-b0]?=l[i]?:=by rw[q_kk];congr 1;omega
  rw[hl,q_jf (by omega)] at this;rw[this,h3]
 have hm:∀k,b0<=k->k<=b0+n->min (k-b0) n=k-b0:=fun k h1 h2=>by omega
 refine⟨b0+n,fun k=>σ (min (k-b0) n),fun k=>v (k-b0),fun k=>k<b0\/q (k-b0),fun k=>on (k-b0),fun k hk=>?_,by omega,by omega,Bl,fun i ao h1 h2 ha=>?_,fun i ao h1 h2 ha=>?_,fun i ao h1 h2 ha ho=>?_,fun i ao h1 h2 ha ho=>?_,fun i j a b h1 h2 h3 ha Di hi hj hf hc=>?_,fun hn hq=>?_,fun hn ao ha=>?_,fun k hk=>?_,fun k hk=>.inl hk⟩
 ·simp only[show min (k-b0) n=0 by omega];exact hT.zero
 ·simp only[hm i h1 (by omega)];exact hT.want _ ao (by omega) (get h1 h2 ha)
 ·simp only[hm i h1 (by omega),show min (i+1-b0) n=i-b0+1 by omega];exact hT.next _ ao (by omega) (get h1 h2 ha)
 ·simp only[hm i h1 (by omega),show min (i+1-b0) n=i-b0+1 by omega];obtain⟨hD,_⟩:=hT.does _ ao (by omega) (get h1 h2 ha) ho;exact hD.weak fun hq=>.inr hq
 ·simp only[hm i h1 (by omega),show min (i+1-b0) n=i-b0+1 by omega];obtain⟨e1,e2,e3⟩:=hT.skip _ ao (by omega) (get h1 h2 ha) ho;exact⟨e1,e2,.inr e3⟩
 ·simp only[hm i h1 (by omega),hm j (by omega) (by omega),show min (j+1-b0) n=j-b0+1 by omega];exact hT.apart _ _ a b (by omega) (by omega) (get h1 (by omega) ha) (get (by omega) (by omega) Di) hi hj hf hc
 ·have Vr:n=sub.length:=by omega
  simp only[show min (b0+sub.length-b0) n=sub.length by omega];exact hT.fin Vr trivial fun i hi=>by
   rcases hq (b0+i) (by omega) (by omega) with h|h
   ·omega
   ·rwa [show b0+i-b0=i by omega] at h
 ·have Xu:sub[n]?=some ao:=by
   have:(l.drop b0)[n]?=l[b0+n]?:=by rw[q_kk]
   rw[hl,q_jf (by omega)] at this;rw[this,ha]
  obtain⟨d1,d2,d3,d4,d5,d6⟩:=hT.die ao Xu;simp only[show b0+n-b0=n by omega,Nat.min_self];exact⟨d1,d2,d3,d4,fun i a h1 h2 h3 h4 h5 h6=>by simp only[hm i h1 (by omega)];exact d6 _ a (by omega) (get h1 (by omega) h3) h4 h5 h6⟩
 ·simp only[show min (k+1-b0) n=n by omega,show min (k-b0) n=n by omega]
def fO(σ:Nat->St)(k p:Nat):Option Ob:=(σ k).hp[p]?
def wO(l:List Cd)(σ:Nat->St)(on:Nat->Bool)(k p:Nat):Bool:=on k && (match l[k]? with|some ao=>(Ea (σ k) ao.op).contains p|none=>false)
def fS(σ:Nat->St)(k t:Nat):SV:=(σ k).sl.getD t .undef
def wS(l:List Cd)(k t:Nat):Bool:=match l[k]? with|some ao=>ao.d==some t|none=>false
structure Inv(w0:World)(own:Nat->Prop)(M0:Mem)(B:Env->Prop)(Df:List Deferred)(ops:Array Oper)(l:List Cd)(s:St)(b0 n:Nat)(σ:Nat->St)(on:Nat->Bool)(q:Nat->Prop)(L:Nat->Bool)(E:Env)(g:Option (GV))(a:Act)(w:World):Prop where
 low:∀k,k<b0->L k=true
 down:Ln ops L
 lt:∀k,L k=true->k<n
 wo:W w0 own E w
 gx:GX w0.heap.size own E w g
 hp:∀o,E.view g o=atL (fO σ) (wO l σ on) L l.length o
 len:s.sl.length=a.tmps.size
 sl:∀t,RelV E (a.tmps.getD t undef) (atL (fS σ) (wS l) L l.length t)
 dfr:a.defers=Df
 z:E.m0=M0
 le:M0.le E.m
 d:g=none->E.m.d=M0.d
 ne:g.isSome=true->∀k,0<(σ k).hp.length
 q:∀i,L i=true->q i
 hb:g.isSome=true->B E
def Ac3(hT:Sg (Eh P X) l s K b0 n b1 σ v q on):∀k t,wS l k t=false->fS σ (k+1) t=fS σ k t:=by
 intro k t h;unfold fS;rcases q_jo k n with hk|hk
 ·rcases q_jo k b0 with h0|h0
  ·rw[hT.zero (k+1) h0,hT.zero k (by omega)]
  have Jc:k<l.length:=by have:=hT.le;have:=hT.hi;omega
  have ha:l[k]?=some l[k]:=q_f Jc;rw[hT.next k _ h0 hk ha];simp only[wS,ha,beq_eq_false_iff_ne,ne_eq] at h;cases hd:l[k].d with
  |none=>rfl
  |some d=>
   rw[hd] at h;have:d≠t:=fun e=>h (by rw[e])
   simp[St.put,List.getElem?_set,this]
 ·rw[hT.still k hk]
def Xm(hT:Sg (Eh P X) l s K b0 n b1 σ v q on):∀k p,wO l σ on k p=false->fO σ (k+1) p=fO σ k p:=by
 intro k p h;unfold fO;rcases q_jo k n with hk|hk
 ·rcases q_jo k b0 with h0|h0
  ·rw[hT.zero (k+1) h0,hT.zero k (by omega)]
  have Jc:k<l.length:=by have:=hT.le;have:=hT.hi;omega
  have ha:l[k]?=some l[k]:=q_f Jc;simp only[wO,ha] at h;cases ho:on k with
  |true=>
   rw[ho] at h;simp at h;exact Asj (hT.does k _ h0 hk ha ho) p h
  |false=>rw[(hT.skip k _ h0 hk ha ho).2.1]
 ·rw[hT.still k hk]
def Zr{i j:Nat}{x y:Oper}{a b:Cd}(h:Jq ops l=true)(Jk:i<j)(hx:ops[i]?=some x)(hy:ops[j]?=some y)(ha:l[i]?=some a)(hb:l[j]?=some b) :
  ((Md ops.toList []).getD j 0).testBit i=true\/(Oper.apart ops x y=true/\(Xn a.op b.op=true\/(a.fp=true/\a.id=i/\i∈b.chk))):=by
 simp only[Jq,q_jl,List.all_eq_true,List.mem_range] at h;have hj:j<l.length:=by
  rcases q_jo j l.length with h|h
  ·exact h
  ·rw[q_jd h] at hb;cases hb
 have:=h.2 j hj i Jk;simp only[hx,hy,ha,hb,q_kw,q_jl,beq_iff_eq,List.contains_eq_mem,q_jt] at this;rcases this with h|⟨⟨_,h1⟩,h2|⟨⟨h2,h3⟩,h4⟩⟩
 ·exact .inl h
 ·exact .inr ⟨h1,.inl h2⟩
 ·exact .inr ⟨h1,.inr ⟨h2,h3,h4⟩⟩
def Azw{i j:Nat}{x y:Oper}{a b:Cd}(h:Jq ops l=true)(Jk:i<j)(hx:ops[i]?=some x)(hy:ops[j]?=some y)(ha:l[i]?=some a)(hb:l[j]?=some b)(hc:a.chk.contains i=true):((Md ops.toList []).getD j 0).testBit i=true:=by
 simp only[Jq,q_jl,List.all_eq_true,List.mem_range] at h;have hj:j<l.length:=by
  rcases q_jo j l.length with h|h
  ·exact h
  ·rw[q_jd h] at hb;cases hb
 have:=h.2 j hj i Jk;simp only[hx,hy,ha,hb,q_kw,q_jl] at this;rcases this with h|⟨⟨h1,_⟩,_⟩
 ·exact h
 ·rw[hc] at h1;cases h1
def Aa7(h:Jq ops l=true):l.length=ops.size:=by
 simp only[Jq,q_jl,beq_iff_eq] at h;exact h.1.1
def Aa6{i:Nat}{o:Oper}{e:Edge}(h:Jq ops l=true)(ho:ops[i]?=some o)(he:e∈o.after)(hb:Region.binds .any e=true):e.on<i:=by
 simp only[Jq,q_jl,List.all_eq_true] at h;have:=h.1.2 (o,i) (by
  rw[List.mem_iff_getElem?];exact⟨i,by rw[List.getElem?_zipIdx];simp[ho]⟩) e (by simpa using he)
 simpa [hb] using this
def Acb{L:Nat->Bool}{i j:Nat}{o:Oper}(hd:Ln ops L)(ho:ops[i]?=some o)(hi:∀e∈o.after,Region.binds .any e=true->L e.on=true)(Jk:j≠i)(hb:((Md ops.toList []).getD i 0).testBit j=true):L j=true:=by
 let L':Nat->Bool:=fun k=>L k || k==i
 have Yd:Ln ops L':=by
  intro k o' Gq hk e he Ju
  by_cases Ko:k=i
  ·subst Ko;rw[ho] at Gq;cases Gq;simp[L',hi e he Ju]
  ·have:L k=true:=by simpa [L',Ko] using hk
   simp[L',hd k o' Gq this e he Ju]
 have:=Afg Yd ops.toList [] (fun j o hj=>by simpa using hj) (fun k i h=>by simp at h) i j hb (by simp[L']);simpa [L',Jk] using this
def Acd{L:Nat->Bool}{i k:Nat}(hd:Ln ops L)(hi:L i=false)(hb:((Md ops.toList []).getD k 0).testBit i=true):L k=false:=by
 cases hk:L k with
 |false=>rfl
 |true=>
  have:=Afg hd ops.toList [] (fun j o hj=>by simpa using hj) (fun k i h=>by simp at h) k i hb hk;rw[hi] at this;cases this
structure Agj(l:List Cd)(n:Nat)(σ:Nat->St)(on:Nat->Bool)(L:Nat->Bool)(i:Nat)(o:Oper)(ao:Cd)(ops:Array Oper):Prop where
 slotR:∀t,t∈o.looksAt ops->atL (fS σ) (wS l) L l.length t=(σ i).sl.getD t .undef
 slotW:∀t,ao.d=some t->∀k,i<k->k<l.length->wS l k t=true->L k=false
 obR:(on i=true->∀p,p∈Dr (σ i) ao.op->atL (fO σ) (wO l σ on) L l.length p=(σ i).hp[p]?) \/
  (∃k,atL (fO σ) (wO l σ on) L l.length 0=(σ (k+1)).hp[0]?/\Ol (σ i) ao.op (σ (k+1)).hp/\i<n)
 obE:on i=true->∀p,p∈Ea (σ i) ao.op->atL (fO σ) (wO l σ on) L l.length p=(σ i).hp[p]?
 obW:on i=true->∀p,p∈Ea (σ i) ao.op->∀k,i<k->k<l.length->wO l σ on k p=true->L k=false
def Xa{s:St}{op:AOp}{p:Nat}(h:p∈Ea s op):p∈Dr s op:=by
 unfold Ea at h;split at h
 ·cases h
 ·exact h
def Amq{s:St}{op:AOp}{hp':List Ob}(h:Ol s op hp'):∃ag m x gi c G G' r r',op=.load ag m x/\s.get x=.gp gi c/\gOf s.hp=some G/\gOf hp'=some G'/\G[gi]?=some r/\G'[gi]?=some r'/\(Mb r'=false/\c+m<=r'.length)/\cut true r'.length ag m c r'=cut true r.length ag m c r:=by
 unfold Ol at h;split at h;rotate_left
 ·exact h.elim
 rename_i ag m x;split at h;rotate_left
 ·exact h.elim
 rename_i gi c hx;split at h;rotate_left
 ·exact h.elim
 rename_i G hG;split at h;rotate_left
 ·exact h.elim
 rename_i G' hG';split at h;rotate_left
 ·exact h.elim
 rename_i r hr;split at h;rotate_left
 ·exact h.elim
 rename_i r' Qe;exact⟨ag,m,x,gi,c,G,G',r,r',rfl,hx,hG,hG',hr,Qe,h.1,h.2⟩
def Af1{s:St}{op:AOp}{hp':List Ob}(h:Ol s op hp'):(∀p,p∈Dr s op->p=0)/\Ea s op=[]:=by
 obtain⟨ag,m,x,gi,c,G,G',r,r',rfl,hx,_⟩:=Amq h;refine⟨fun p hp=>?_,rfl⟩;simp only[Dr,Dt,Hd,hx,adC,Ka,if_true,q_kx,if_false,q_k,q_kb,q_kc,or_false] at hp;exact hp
def A3b{C:CT}{ao:Cd}{s:St}{v:SV}{h:List Ob}{q:Prop}{hp':List Ob}(hD:Does C ao s v h q)(hs:Ol s ao.op hp'):Does C ao ({ s with hp:=hp' }:St) v hp' q/\q/\(∀i∈Dt ({ s with hp:=hp' }:St) ao.op,i=0)/\Hd ({ s with hp:=hp' }:St) ao.op=false:=by
 obtain⟨ag,m,x,gi,c,G,G',r,r',Cg,hx,hG,hG',hr,Qe,ho,hc⟩:=Amq hs;have Dd:({ s with hp:=hp' }:St).get x=.gp gi c:=by cases x<;>exact hx
 rcases hD with⟨f,args,vs,h1,_⟩|⟨e,he,hob,rfl,rfl,hq⟩|⟨f,args,vs,h0,G,G',h1,_⟩
 ·rw[Cg] at h1;rcases h1 with h1|⟨_,_,h1,_⟩<;>cases h1
 ·rw[Cg] at he;simp only[Bj,hx,Kg,hG,hr,q_b] at he;subst he;have Mw:=hq trivial;refine⟨.inr (.inl ⟨{ ob:=Mb r'=false/\c+m<=r'.length,val:=cut true r'.length ag m c r',hp:=hp' },?_,ho,hc,rfl,fun _=>Mw⟩),Mw,fun i hi=>?_,by rw[Cg];rfl⟩
  ·rw[Cg];simp only[Bj,Dd,Kg,hG',Qe]
  ·rw[Cg] at hi;simp only[Dt,Dd,adC,Ka,if_true,q_kb,q_kc,or_false] at hi;exact hi
 ·rw[Cg] at h1;cases h1
def A0j{L:Nat->Bool}{i:Nat}{o:Oper}{ao:Cd}(hok:Jq ops l=true)(hT:Sg (Eh P X) l s K b0 n b1 σ v q on)(Vo:∀(k:Nat) a o,l[k]?=some a->ops[k]?=some o->o.dst=a.d)
  (Jz:∀k,k<b0->L k=true) (Tc:i<b1) (Dz:i<=n) (hLn:∀k,L k=true->k<n) (hd:Ln ops L) (hL:L i=false) (ho:ops[i]?=some o) (ha:l[i]?=some ao) (hr:∀e∈o.after,Region.binds .any e=true->L e.on=true):Agj l n σ on L i o ao ops:=by
 have Bl:=Aa7 hok;have hi:i<l.length:=by
  rcases q_jo i l.length with h|h
  ·exact h
  ·rw[q_jd h] at ha;cases ha
 have getk:∀k,k<l.length->∃a x,l[k]?=some a/\ops[k]?=some x:=fun k hk=>⟨l[k],ops[k]'(by omega),q_f hk,Array.getElem?_eq_getElem (by omega)⟩
 have hnot:∀k,n<=k->L k=false:=fun k hk=>by
  cases h:L k with
  |false=>rfl
  |true=>have:=hLn k h;omega
 have Jb:b0<=i:=by
  rcases q_jo i b0 with h|h
  ·rw[Jz i h] at hL;cases hL
  ·exact h
 have Ss:∀(j:Nat) a,b0<=j->j<i->l[j]?=some a->on j=true->on i=true->a.fp=true->a.id∈ao.chk->∀x∈Ea (σ j) a.op,x ∉ Dr (σ i) ao.op:=fun j a Nv hj h1 h2 h3 h4 h5=>by
  rcases q_jo i n with Aq|Hz
  ·exact (hT.apart j i a ao Nv hj Aq h1 ha h2 h3 h4 h5).1
  ·have:i=n:=by omega
   subst this;exact (hT.die Tc ao ha).2.2.2.2 j a Nv hj h1 h2 h4 h5
 -- an elder that writes a place it sees is done,a follower is not
 have slots1:∀t,t∈o.looksAt ops->∀j,j<i->wS l j t=true->L j=true:=by
  intro t ht j hj hw;obtain⟨a,x,h1,h2⟩:=getk j (by omega);simp only[wS,h1,beq_iff_eq] at hw;rcases Zr hok hj h2 ho h1 ha with hb|⟨Ss,_⟩
  ·exact Acb hd ho hr (by omega) hb
  ·exact absurd ht ((Oper.apart_spec Ss).1 t (by rw[Vo j a x h1 h2];exact hw))
 have slots2:∀t,t∈o.looksAt ops->∀k,i<=k->k<l.length->wS l k t=true->L k=false:=by
  intro t ht k hk Jc hw
  by_cases Ko:k=i
  ·subst Ko;exact hL
  obtain⟨a,x,h1,h2⟩:=getk k Jc;simp only[wS,h1,beq_iff_eq] at hw;rcases Zr hok (show i<k by omega) ho h2 ha h1 with hb|⟨Ss,_⟩
  ·exact Acd hd hL hb
  ·exact absurd ht ((Oper.apart_spec Ss).2.2 t (by rw[Vo k a x h1 h2];exact hw))
 have far1:on i=true->∀p,p∈Dr (σ i) ao.op->∀j,j<i->wO l σ on j p=true->L j=true:=by
  intro Ck p hp j hj hw;rcases q_jo j b0 with Nv|Nv
  ·exact Jz j Nv
  obtain⟨a,x,h1,h2⟩:=getk j (by omega);simp only[wO,h1,q_jl,List.contains_eq_mem,q_jt] at hw;rcases Zr hok hj h2 ho h1 ha with hb|⟨_,hf|⟨f1,f2,f3⟩⟩
  ·exact Acb hd ho hr (by omega) hb
  ·exfalso;simp only[Xn,q_kw,Bool.not_eq_true',q_jl] at hf;rcases hf with (h|h)|h
   ·have:=Xa hw.2;rw[Abw h] at this;cases this
   ·rw[Abw h] at hp;cases hp
   ·have:=hw.2;simp[Ea,h.1] at this
  ·exact absurd hp (Ss j a Nv hj h1 hw.1 Ck f1 (by rw[f2];exact f3) p hw.2)
 have far2:on i=true->∀p,p∈Dr (σ i) ao.op->∀k,i<k->k<l.length->wO l σ on k p=true->L k=false\/(Ol (σ i) ao.op (σ (k+1)).hp/\k<n):=by
  intro Ck p hp k hk Jc hw;rcases q_jo k n with Mu|Mu
  rotate_left
  ·exact .inl (hnot k Mu)
  obtain⟨a,x,h1,h2⟩:=getk k Jc;simp only[wO,h1,q_jl,List.contains_eq_mem,q_jt] at hw;rcases Zr hok hk ho h2 ha h1 with hb|⟨_,hf|⟨f1,f2,f3⟩⟩
  ·exact .inl (Acd hd hL hb)
  ·exfalso;simp only[Xn,q_kw,Bool.not_eq_true',q_jl] at hf;rcases hf with (h|h)|h
   ·rw[Abw h] at hp;cases hp
   ·have:=Xa hw.2;rw[Abw h] at this;cases this
   ·have:=hw.2;simp[Ea,h.2] at this
  ·exact .inr ⟨((hT.apart i k ao a Jb hk Mu ha h1 Ck hw.1 f1 (by rw[f2];exact f3)).2 p hp hw.2).2,Mu⟩
 have far2c:on i=true->∀p,p∈Ea (σ i) ao.op->∀k,i<k->k<l.length->wO l σ on k p=true->L k=false:=by
  intro Ck p hp k hk Jc hw;rcases far2 Ck p (Xa hp) k hk Jc hw with h|⟨h,_⟩
  ·exact h
  ·rw[(Af1 h).2] at hp;cases hp
 refine⟨fun t ht=>?_,fun t ht k hk Jc hw=>?_,?_,fun Ck p hp=>?_,fun Ck p hp=>far2c Ck p hp⟩
 ·exact Us (Ac3 hT) (slots1 t ht) (Nat.le_of_lt hi) (slots2 t ht)
 ·obtain⟨a,x,h1,h2⟩:=getk k Jc;simp only[wS,h1,beq_iff_eq] at hw;rcases Zr hok hk ho h2 ha h1 with hb|⟨Ss,_⟩
  ·exact Acd hd hL hb
  ·exact absurd (by rw[Vo k a x h1 h2];exact hw) ((Oper.apart_spec Ss).2.1 t (by rw[Vo i ao o ha ho];exact ht))
 ·by_cases hs:∃k,atL (fO σ) (wO l σ on) L l.length 0=(σ (k+1)).hp[0]?/\Ol (σ i) ao.op (σ (k+1)).hp/\i<n
  ·exact .inr hs
  ·refine .inl fun Ck p hp=>?_
   rcases An8 (Xm hT) (far1 Ck p hp) (Nat.le_of_lt hi) with h|⟨k,k1,k2,k3,k4,k5⟩
   ·exact h
   ·have Ko:k≠i:=by rintro rfl;rw[hL] at k3;cases k3
    rcases far2 Ck p hp k (by omega) k2 k4 with h|⟨h1,h2⟩
    ·rw[h] at k3;cases k3
    ·have:=(Af1 h1).1 p hp;subst this;exact absurd ⟨k,k5,h1,by omega⟩ hs
 ·exact Us (Xm hT) (far1 Ck p (Xa hp)) (Nat.le_of_lt hi) (fun k hk Jc hw=>by
   by_cases Ko:k=i
   ·subst Ko;exact hL
   ·exact far2c Ck p hp k (by omega) Jc hw)
def Amn(hT:Sg (Eh P X) l s K b0 n b1 σ v q on):∀k,(σ k).sl.length=s.sl.length:=by
 intro k
 induction k with
 |zero=>rw[hT.zero 0 (Nat.zero_le _)]
 |succ k ih=>
  rcases q_jo k n with hk|hk
  ·rcases q_jo k b0 with h0|h0
   ·rw[hT.zero (k+1) h0]
   rw[hT.next k _ h0 hk (q_f (by have:=hT.le;have:=hT.hi;omega))];cases (l[k]'(by have:=hT.le;have:=hT.hi;omega)).d<;>simp[St.put,ih]
  ·rw[hT.still k hk,ih]
def Amk(listed:Array Bool)(i:Nat)(hi:i<listed.size)(k:Nat):(listed.setIfInBounds i true).getD k false=(listed.getD k false || k==i):=by
 by_cases h:k=i
 ·subst h;simp[hi]
 ·rw[getD_set_ne false (Ne.symm h)];simp[h]
def Inv.step[hB:Nonempty (StB B)]{L L':Nat->Bool}{E E':Env}{g':Option (GV)}{a:Act}{w w':World}{i:Nat}{o:Oper}{ao:Cd}{u:Value}{U:Nat->Prop}(hT:Sg (Eh P X) l s K b0 n b1 σ v q on)(hI:Inv w0 own M0 B Df ops l s b0 n σ on q L E g a w)(hp:Agj l n σ on L i o ao ops)(Dz:i<n)
  (ha:l[i]?=some ao) (ho:ops[i]?=some o) (hr:∀e∈o.after,Region.binds .any e=true->L e.on=true) (hL:L i=false) (Xt:∀k,L' k=(L k || k==i)) (hv:RelV E' u (v i))
  (Re:∀p,U p->on i=true/\p∈Dr (σ i) ao.op/\atL (fO σ) (wO l σ on) L l.length p=(σ i).hp[p]?) (hU2:on i=true->∀p,p∈Ea (σ i) ao.op->U p)
  (st:StepV U w0 own E g E' g' w' (σ (i+1)).hp) (hq:q i):Inv w0 own M0 B Df ops l s b0 n σ on q L' E' g' (a.put ao.d u) w':=by
 have hi:i<l.length:=by
  rcases q_jo i l.length with h|h
  ·exact h
  ·rw[q_jd h] at ha;cases ha
 have hLi:L' i=true:=by simp[Xt]
 have Vi:∀k,k≠i->L' k=L k:=fun k hk=>by simp[Xt,hk]
 have late:∀{wr:Nat->Bool},(∀k,i<k->k<l.length->wr k=true->L k=false)->∀k,i<k->k<l.length->wr k=true->L' k=false:=fun h k h1 h2 h3=>by
  rw[Vi k (by omega)];exact h k h1 h2 h3
 have Jb:b0<=i:=by
  rcases q_jo i b0 with h|h
  ·rw[hI.low i h] at hL;cases hL
  ·exact h
 refine⟨fun k hk=>by rw[Xt,hI.low k hk];rfl,fun j o' Gq hj e he hb=>?_,fun k hk=>?_,st.wo,st.gx,fun p=>?_,?_,fun t=>?_,?_,st.ext.z.trans hI.z,hI.le.trans st.ext.m,fun Tg=>?_,fun hs=>hI.ne (by rw[<-st.sm];exact hs),fun j hj=>?_,fun hs=>hB.elim fun k=>k.ext _ _ st.ext (hI.hb (by rw[<-st.sm];exact hs))⟩
 ·by_cases Qb:j=i
  ·subst Qb;rw[ho] at Gq;cases Gq;rw[Xt,hr e he hb];rfl
  ·rw[Xt,hI.down j o' Gq (by rw[<-Vi j Qb];exact hj) e he hb];rfl
 ·by_cases Ko:k=i
  ·omega
  ·exact hI.lt k (by rw[<-Vi k Ko];exact hk)
 ·by_cases hw:wO l σ on i p=true
  ·have hw2:=hw;simp only[wO,ha,q_jl,List.contains_eq_mem,q_jt] at hw2;rw[Agu hLi hw hi (late (hp.obW hw2.1 p hw2.2))];exact st.on p (hU2 hw2.1 p hw2.2)
  ·have Ze:wO l σ on i p=false:=by simpa using hw
   rw[Agt Vi Ze]
   by_cases hU:U p
   ·rw[st.on p hU,(Re p hU).2.2];exact Xm hT i p Ze
   ·rw[st.off p hU];exact hI.hp p
 ·cases ao.d<;>simp[Act.put,hI.len]
 ·by_cases hw:wS l i t=true
  ·have hw2:=hw;simp only[wS,ha,beq_iff_eq] at hw2;rw[Agu hLi hw hi (late (hp.slotW t hw2))];have hnx:(fS σ (i+1) t)=(({ σ i with hp:=(σ (i+1)).hp }:St).put ao.d (v i)).sl.getD t .undef:=by
    unfold fS;rw[<-hT.next i ao Jb Dz ha]
   rw[hnx,hw2];have hl1:=Amn hT i;have hl2:=hI.len;rcases q_jo t a.tmps.size with Aq|Hz
   ·simpa [Act.put,St.put,Array.getElem?_setIfInBounds,List.getElem?_set,Aq,show t<(σ i).sl.length by omega] using hv
   ·have h1:(a.put (some t) u).tmps.getD t undef=undef:=by simp[Act.put,Array.getElem?_setIfInBounds,show ¬t<a.tmps.size by omega]
    have h2:(({ σ i with hp:=(σ (i+1)).hp }:St).put (some t) (v i)).sl.getD t .undef=.undef:=by
     rw[q_j,q_jd]
     ·rfl
     ·simp[St.put];omega
    rw[h1,h2];exact .undef
  ·have Ze:wS l i t=false:=by simpa using hw
   rw[Agt Vi Ze];have Dj:ao.d≠some t:=by simpa [wS,ha] using Ze
   have h1:=(hI.sl t).mono0 st.ext;cases Gi:ao.d with
   |none=>exact h1
   |some d=>
    have:d≠t:=fun e=>Dj (by rw[Gi,e])
    simpa [Act.put,Array.getElem?_setIfInBounds,this] using h1
 ·rw[Al3];exact hI.dfr
 ·subst Tg;have Qh:=st.sm;cases g with
  |none=>exact (st.d rfl).trans (hI.d rfl)
  |some G=>cases Qh
 ·by_cases Qb:j=i
  ·subst Qb;exact hq
  ·exact hI.q j (by rw[<-Vi j Qb];exact hj)
def Ah0{p p':Nat->Bool}{i:Nat}(h:∀k,p' k=true->p k=true):∀{l:List Nat},i∈l->p i=true->p' i=false->l.countP p'<l.countP p:=by
 intro l
 induction l with
 |nil=>intro hi;cases hi
 |cons x l ih=>
  intro hi h1 h2;rw[List.countP_cons,List.countP_cons];have hle:l.countP p'<=l.countP p:=List.countP_mono_left (fun k _ hk=>h k hk);rcases q_kb.1 hi with rfl|hi
  ·simp[h1,h2];omega
  ·have:=ih hi h1 h2;cases hx:p' x with
   |true=>simp[h x hx];omega
   |false=>simp;omega
def An9{X:Type}{f:Nat->Nat->X}{wr:Nat->Nat->Bool}{L:Nat->Bool}{p:Nat}(h:∀k,wr k p=false):∀{n:Nat},atL f wr L n p=f 0 p:=by
 intro n
 induction n with
 |zero=>rfl
 |succ n ih=>simp[atL,h n,ih]
def Anx[hB:Nonempty (StB B)]{KP:Env->Act->Prop}(Rr:∀(L:Nat->Bool) E g a w,Inv w0 own M0 B Df ops l s b0 n σ on q L E g a w->∀E',Ext0 E E'->KP E' a)(hX:PXK w0 own M0 Df KP X Q)(hok:Jq ops l=true)(hT:Sg (Eh P X) l s K b0 n b1 σ v q on)(Hq:∀(k:Nat) a,l[k]?=some a->∃o a0,ops[k]?=some o/\Pg P ops o=some a0/\a.op=a0.op/\a.d=a0.d/\a.g=a0.g/\a.id=k)
  (Zd:∀L:Nat->Bool,Ln ops L->∀j,b1<=j->j<ops.size->L j=true->∀i,i<b1->L i=true)
  (hK:∀(fuel:Nat) (listed:Array Bool) E g s a w,listed.size=ops.size->(List.range ops.size).countP (fun k=>!listed.getD k false)<=fuel->(∀k,listed.getD k false=decide (k<b1))->SR w0 own M0 B Df E g s a w->K s->wpAny P .any ops Q fuel listed a w):∀(fuel:Nat) (listed:Array Bool) (E:Env) (g:Option (GV)) (a:Act) (w:World),listed.size=ops.size->(List.range ops.size).countP (fun k=>!listed.getD k false)<=fuel ->
   Inv w0 own M0 B Df ops l s b0 n σ on q (fun k=>listed.getD k false) E g a w->wpAny P .any ops Q fuel listed a w:=by
 have Bl:=Aa7 hok;have Vo:∀(k:Nat) a o,l[k]?=some a->ops[k]?=some o->o.dst=a.d:=by
  intro k a o h1 h2;obtain⟨o',a0,g1,g2,g3,g4,g5,g6⟩:=Hq k a h1;rw[h2] at g1;cases g1;rw[g4];exact (w6 g2).2.1
 -- all are done where none is ready
 have alldone:∀(listed:Array Bool),listed.size=ops.size->Region.ready .any ops listed=[]->∀k,k<ops.size->listed.getD k false=true:=by
  intro listed Cf hr k
  induction k using Nat.strongRecOn with
  |_ k ih=>
   intro hk;cases hl:listed.getD k false with
   |true=>rfl
   |false=>
    exfalso;have ho:ops[k]?=some ops[k]:=Array.getElem?_eq_getElem hk;have:k∈Region.ready .any ops listed:=mem_ready.2 ⟨by simpa [Cf,hk] using hl,_,ho,fun e he hb=>by
     have:=Aa6 hok ho he hb;exact ih e.on this (by omega)⟩
    rw[hr] at this;cases this
 have final:∀(fuel:Nat) (listed:Array Bool) (E:Env) (g:Option (GV)) (a:Act) (w:World),listed.size=ops.size->(List.range ops.size).countP (fun k=>!listed.getD k false)<=fuel->(∀k,k<b1->listed.getD k false=true)->Inv w0 own M0 B Df ops l s b0 n σ on q (fun k=>listed.getD k false) E g a w->wpAny P .any ops Q fuel listed a w:=by
  intro fuel listed E g a w Cf hc Fr hI;have hnl:n=b1:=by
   have h1:=hT.le;have h2:=hT.lo;rcases q_jo n b1 with h|h
   ·have:=hI.lt n (Fr n h);omega
   ·omega
  have Ei:∀k,listed.getD k false=decide (k<b1):=fun k=>by
   rcases q_jo k b1 with h|h
   ·rw[Fr k h,q_jn h]
   ·rw[q_je (by omega)];cases hk:listed.getD k false with
    |false=>rfl
    |true=>have:=hI.lt k hk;omega
  have h2:∀k,b1<=k->listed.getD k false=false:=fun k hk=>by rw[Ei];exact q_je (by omega)
  refine hK fuel listed E g (σ b1) a w Cf hc Ei ⟨hI.wo,hI.gx,fun p=>?_,?_,fun t=>?_,hI.dfr,hI.z,hI.le,hI.d,hI.hb⟩ (hT.fin hnl (fun i _ hi=>hI.q i (Fr i hi)))
  ·rw[hI.hp p,Us (Xm hT) (fun j hj _=>Fr j hj) hT.hi (fun k hk _ _=>h2 k hk)];rfl
  ·rw[Amn hT];exact hI.len
  ·have:=hI.sl t;rw[Us (Ac3 hT) (fun j hj _=>Fr j hj) hT.hi (fun k hk _ _=>h2 k hk)] at this;exact this
 intro fuel
 induction fuel with
 |zero=>
  intro listed E g a w Cf hc hI
  by_cases Fr:∀k,k<b1->listed.getD k false=true
  ·exact final 0 listed E g a w Cf hc Fr hI
  exfalso;have hr:Region.ready .any ops listed=[]:=by
   rw[List.eq_nil_iff_forall_not_mem];intro k hk;obtain⟨h1,o,ho,_⟩:=mem_ready.1 hk;have Ek:k<ops.size:=(Array.getElem?_eq_some_iff.1 ho).1;have:0<(List.range ops.size).countP (fun k=>!listed.getD k false):=List.countP_pos_iff.2 ⟨k,List.mem_range.2 Ek,by
    have h3:k<listed.size:=by omega
    simp[h3] at h1 |-;exact h1⟩
   omega
  exact Fr fun k hk=>alldone listed Cf hr k (by have:=hT.hi;omega)
 |succ fuel ih=>
  intro listed E g a w Cf hc hI
  by_cases Fr:∀k,k<b1->listed.getD k false=true
  ·exact final _ listed E g a w Cf hc Fr hI
  have hb1:=hT.hi;refine⟨fun hr=>absurd (fun k hk=>alldone listed Cf hr k (by omega)) Fr,fun i hi=>?_⟩;obtain⟨h1,o,ho,Vv⟩:=mem_ready.1 hi;have Lx:i<ops.size:=(Array.getElem?_eq_some_iff.1 ho).1;have Ro:listed.getD i false=false:=by
   have h3:i<listed.size:=by omega
   simp[h3] at h1 |-;exact h1
  have ha:l[i]?=some l[i]:=q_f (by omega);obtain⟨o',a0,g1,g2,g3,g4,g5,g6⟩:=Hq i _ ha;rw[ho] at g1;cases g1;obtain⟨tr,hd,hg⟩:=w6 g2;rw[<-g3] at tr;rw[<-g4] at hd;have Tc:i<b1:=by
   rcases q_jo i b1 with h|h
   ·exact h
   exfalso;refine Fr fun k hk=>?_
   have Yd:Ln ops (fun k=>listed.getD k false || k==i):=by
    intro k o' Gq hk e he Ju
    by_cases Ko:k=i
    ·subst Ko;rw[ho] at Gq;cases Gq;simp[Vv e he Ju]
    ·have:listed.getD k false=true:=by simpa [Ko] using hk
     have:=hI.down k o' Gq this e he Ju;simp only at this |-;rw[this];rfl
   have:=Zd _ Yd i h Lx (by simp) k hk;simpa [show k≠i by omega] using this
  have Dz:i<=n:=by
   rcases q_jo n i with hni|hni
   ·exfalso;have hnl:n<l.length:=by omega
    have han:l[n]?=some l[n]:=q_f hnl;obtain⟨on',b0,k1,k2,k3,k4,k5,k6⟩:=Hq n _ han;have hc:=(hT.die (by omega) _ han).2.2.2.1;rw[k6] at hc;have hb:=Azw hok hni k1 ho han ha hc;have:=hI.lt n (Acb hI.down ho Vv (by omega) hb);omega
   ·exact hni
  have hP:=A0j hok hT Vo hI.low Tc Dz hI.lt hI.down Ro ho ha Vv;have Jb:b0<=i:=by
   rcases q_jo i b0 with h|h
   ·have:=hI.low i h;rw[Ro] at this;cases this
   ·exact h
  have hset:∀k,(listed.setIfInBounds i true).getD k false=(listed.getD k false || k==i):=Amk listed i (by omega);have Adw:(List.range ops.size).countP (fun k=>!(listed.setIfInBounds i true).getD k false)<=fuel:=by
   have:(List.range ops.size).countP (fun k=>!(listed.setIfInBounds i true).getD k false)<(List.range ops.size).countP (fun k=>!listed.getD k false):=by
    refine Ah0 (fun k hk=>?_) (List.mem_range.2 Lx) (by rw[Ro];rfl) (by rw[hset];simp);rw[hset] at hk;simp only[Bool.not_or,q_jl] at hk;exact hk.1
   omega
  have cont:i<n->∀(U:Nat->Prop),(∀p,U p->on i=true/\p∈Dr (σ i) (l[i]'(by omega)).op/\atL (fO σ) (wO l σ on) (fun k=>listed.getD k false) l.length p=(σ i).hp[p]?)->(on i=true->∀p,p∈Ea (σ i) (l[i]'(by omega)).op->U p)->∀(E':Env) (g':Option (GV)) (u:Value) (w':World),RelV E' u (v i)->StepV U w0 own E g E' g' w' (σ (i+1)).hp->q i->wpAny P .any ops Q fuel (listed.setIfInBounds i true) (a.put o.dst u) w':=by
   intro Aq U Re hU2 E' g' u w' hv st hq;rw[hd];exact ih _ E' g' _ w' (by simp[Cf]) Adw (hI.step hT hP Aq ha ho Vv Ro hset hv Re hU2 st hq)
  unfold wpOp;simp only[ho];have Akb:∀t,t∈o.looksAt ops->RelV E (a.tmps.getD t undef) ((σ i).sl.getD t .undef):=fun t ht=>by
   have:=hI.sl t
   rwa [hP.slotR t ht] at this
  have hwA:Lc (l[i]'(by omega)) (σ i) (on i):=by
   rcases q_jo i n with Aq|Hz
   ·exact hT.want i _ Jb Aq ha
   ·have:i=n:=by omega
    subst this;obtain⟨d1,d2,_⟩:=hT.die Tc _ ha;rw[d2];exact d1
  have hwant:Region.wanted o (yielded ops a.tmps)=on i:=by
   have hW:=hwA;rcases hg with⟨hg1,Im⟩|⟨j,want,t,hg1,Im,Yh⟩
   ·rw[Agf hg1];simp only[Lc,g5,Im] at hW;exact hW.symm
   ·have Gz:=Akb t (Ayn hg1 Im);simp only[Lc,g5,Yh] at hW;rcases hW with⟨c,h1,h2⟩|⟨h1,h2⟩
    ·rw[h1] at Gz;rw[Age hg1 Im Gz,h2]
    ·rw[h1] at Gz;rw[Agg hg1 Im Gz,h2]
  rw[hwant];have Ic:∀x∈o.op.operands,∀ax,trX x=some ax->RelV E (a.eval x) ((σ i).get ax):=fun x hx ax Bb=>by
   cases x with
   |tmp t=>simp only[trX,q_b] at Bb;subst Bb;exact Akb t (Ayo hx)
   |const c=>
    simp only[trX,q_e] at Bb;obtain⟨sv,hsv,rfl⟩:=Bb;exact .rep _ _ (Lm hsv).1
   |func f=>simp only[trX,q_b] at Bb;subst Bb;exact .rep _ _ (.fn f)
   |_=>simp[trX] at Bb
  rcases q_jo i n with Aq|Hz
  rotate_left
  ·have:i=n:=by omega
   subst this;obtain⟨d1,d2,d3,d4,d5⟩:=hT.die Tc _ ha;rw[d2];simp only[if_true];have hR:on i=true->∀p,p∈Dr (σ i) (l[i]'(by omega)).op->atL (fO σ) (wO l σ on) (fun k=>listed.getD k false) l.length p=(σ i).hp[p]?:=by
    rcases hP.obR with hR|⟨k,_,_,h⟩
    ·exact hR
    ·omega
   exact .inl (Ac0 (KP:=KP) (U:=fun p=>on i=true/\p∈Dr (σ i) (l[i]'(by omega)).op) tr d3 hI.wo hI.gx (fun p hp=>by rw[hI.hp p,hR hp.1 p hp.2]) (fun p hp=>⟨d2,by simp[Dr,hp]⟩) Ic hI.le hI.z hI.dfr _ _ hX (Rr _ E g a w hI))
  cases Ck:on i with
  |false=>
   simp only[q_kx,if_false];obtain⟨e1,e2,e3⟩:=hT.skip i _ Jb Aq ha Ck;exact cont Aq (fun _=>False) (fun _ h=>h.elim) (fun h=>by rw[Ck] at h;cases h) E g undef w (by rw[e1];exact .undef) ⟨Ext0.refl E,hI.wo,hI.gx,fun p hp=>hp.elim,fun _ _=>rfl,rfl,fun _=>rfl⟩ e3
  |true=>
   simp only[if_true];have hD:=hT.does i _ Jb Aq ha Ck;rcases hP.obR with hR|⟨k,hk0,hks,_⟩
   ·exact .inl (r8 (U:=fun p=>on i=true/\p∈Dr (σ i) (l[i]'(by omega)).op) tr hD hI.wo hI.gx (fun p hp=>by rw[hI.hp p,hR hp.1 p hp.2]) (fun hs=>hI.ne hs i) (fun hc=>⟨Ck,by simp[Dr,hc]⟩) (fun p hp=>⟨Ck,by simp[Dr,hp]⟩) Ic _ _
     (fun u w' E' g' hv st hq=>cont Aq _ (fun p hp=>⟨hp.1,hp.2,hR hp.1 p hp.2⟩) (fun h p hp=>⟨h,Xa hp⟩) E' g' u w' hv st hq))
   ·obtain⟨s1,s2,s3,s4⟩:=A3b hD hks;have hxs':∀x∈o.op.operands,∀ax,trX x=some ax->RelV E (a.eval x) (({ σ i with hp:=(σ (k+1)).hp }:St).get ax):=fun x hx ax Bb=>by
     have:=Ic x hx ax Bb;cases ax<;>exact this
    exact .inl (r8 (U:=fun p=>p=0) tr s1 hI.wo hI.gx (fun p hp=>by subst hp;rw[hI.hp 0,hk0]) (fun hs=>hI.ne hs (k+1)) (fun hc=>by rw[s4] at hc;cases hc) s3 hxs' _ _
     (fun u w' E' g' hv st hq=>cont Aq (fun _=>False) (fun _ h=>h.elim) (fun _ p hp=>by rw[(Af1 hks).2] at hp;cases hp) E' g' u w' hv
      ⟨st.ext,st.wo,st.gx,fun _ h=>h.elim,fun p _=>by
       by_cases Vu:p=0
       ·subst Vu;rw[st.on 0 rfl,hI.hp 0,hk0]
       ·exact st.off p Vu,st.sm,st.d⟩ s2))
def Ask{C:CT}{o:Cd}{s:St}{v:SV}{hp:List Ob}{q:Prop}(h:Does C o s v hp q):s.hp.length<=hp.length:=by
 rcases h with⟨f,args,vs,Cg,hcl,_⟩|⟨e,he,_,_,rfl,_⟩|⟨f,args,vs,h0,G,G',Cg,hcl,_,_,rfl,_⟩
 ·rw[(Sl hcl).1];exact q_ja _
 ·exact Anp he
 ·rw[List.length_set,(Sl hcl).1];exact q_ja _
def Ami[hB:Nonempty (StB B)]{T:List (Nat×SV)}{E:Env}{a:Act}{w:World}(hX:PXK w0 own M0 Df (KT T) X Q)(Rd:∀p∈T,s.sl.getD p.1 .undef=p.2)(Pw:∀p∈T,∀ao∈l,ao.d≠some p.1)(hok:Jq ops l=true)(Hq:∀(k:Nat) a,l[k]?=some a->∃o a0,ops[k]?=some o/\Pg P ops o=some a0/\a.op=a0.op/\a.d=a0.d/\a.g=a0.g/\a.id=k)
  {sub rest:List Cd} (hl:l.drop b0=sub++rest) (hb:b0<=l.length) (Zd:∀L:Nat->Bool,Ln ops L->∀j,b0+sub.length<=j->j<ops.size->L j=true->∀i,i<b0+sub.length->L i=true)
  (hK:∀(fuel:Nat) (listed:Array Bool) E g s a w,listed.size=ops.size->(List.range ops.size).countP (fun k=>!listed.getD k false)<=fuel->(∀k,listed.getD k false=decide (k<b0+sub.length))->SR w0 own M0 B Df E g s a w->K s->wpAny P .any ops Q fuel listed a w)
  {fuel:Nat} {listed:Array Bool} (Cf:listed.size=ops.size) (hc:(List.range ops.size).countP (fun k=>!listed.getD k false)<=fuel) (Ei:∀k,listed.getD k false=decide (k<b0)) (hS:SR w0 own M0 B Df E g s a w) (h:Gu (Eh P X) sub s [] True K):wpAny P .any ops Q fuel listed a w:=by
 obtain⟨n,σ,v,q,on,hT⟩:=A4d hl hb h;have Aai:∀k,k<b0->listed.getD k false=true:=fun k hk=>by rw[Ei];exact q_jn hk
 have Vz:∀k,b0<=k->listed.getD k false=false:=fun k hk=>by rw[Ei];exact q_je (by omega)
 have Bl:∀k,s.hp.length<=(σ k).hp.length:=by
  intro k
  induction k with
  |zero=>rw[hT.zero 0 (Nat.zero_le _)];exact q_ja _
  |succ k ih=>
   rcases q_jo k n with hk|hk
   ·rcases q_jo k b0 with h0|h0
    ·rw[hT.zero (k+1) h0];exact q_ja _
    have ha:l[k]?=some (l[k]'(by have:=hT.le;have:=hT.hi;omega)):=q_f (by have:=hT.le;have:=hT.hi;omega);cases ho:on k with
    |true=>exact q_ko ih (Ask (hT.does k _ h0 hk ha ho))
    |false=>rw[(hT.skip k _ h0 hk ha ho).2.1];exact ih
   ·rw[hT.still k hk];exact ih
 have Rr:∀(L:Nat->Bool) E g a w,Inv w0 own M0 B Df ops l s b0 n σ on q L E g a w->∀E',Ext0 E E'->KT T E' a:=fun L E g a w hI E' hE p hp=>by
  have:=(hI.sl p.1).mono0 hE;rw[An9 (fun k=>?_)] at this
  ·simp only[fS,hT.zero 0 (Nat.zero_le _)] at this;rw[Rd p hp] at this;exact this
  ·unfold wS;cases hk:l[k]? with
   |none=>rfl
   |some ao=>simpa using Pw p hp ao (q_jb hk)
 refine Anx (KP:=KT T) Rr hX hok hT Hq Zd hK fuel listed E g a w Cf hc ⟨Aai,fun j o ho hj e he Ju=>?_,fun k hk=>?_,hS.wo,hS.gx,fun p=>?_,hS.len,fun t=>?_,hS.dfr,hS.z,hS.le,hS.d,fun hs k=>q_kp (hS.ne hs) (Bl k),fun i hi=>?_,hS.hb⟩
 ·have h1:=Aa6 hok ho he Ju;have h2:j<b0:=by
   simp only[Ei,q_jt] at hj;exact hj
  exact Aai _ (by omega)
 ·have:=hT.lo;simp only[Ei,q_jt] at hk;omega
 ·rw[hS.hp p,Us (Xm hT) (fun j hj _=>Aai j hj) hb (fun k hk _ _=>Vz k hk)];simp only[fO,hT.zero b0 (q_ja _)]
 ·rw[Us (Ac3 hT) (fun j hj _=>Aai j hj) hb (fun k hk _ _=>Vz k hk)];simp only[fS,hT.zero b0 (q_ja _)];exact hS.sl t
 ·simp only[Ei,q_jt] at hi;exact hT.low i hi
def Ane(hok:Jq ops l=true){b:Nat}(h:Ab4 (Md ops.toList []) ops.size b=true):∀L:Nat->Bool,Ln ops L->∀j,b<=j->j<ops.size->L j=true->∀i,i<b->L i=true:=by
 intro L hd j hj hs hL i hi;simp only[Ab4,List.all_eq_true,List.mem_range,q_kw,q_jt] at h;rcases h j hs with h|h
 ·omega
 ·exact Afg hd ops.toList [] (fun j o hj=>by simpa using hj) (fun k i h=>by simp at h) j i (h i hi) hL
def Anw(hok:Jq ops l=true){fuel:Nat}{listed:Array Bool}{a:Act}{w:World}(Cf:listed.size=ops.size)(Ei:∀k,k<ops.size->listed.getD k false=true)(h:Q .normal a w):wpAny P .any ops Q fuel listed a w:=by
 have hr:Region.ready .any ops listed=[]:=by
  rw[List.eq_nil_iff_forall_not_mem];intro k hk;obtain⟨h1,o,ho,_⟩:=mem_ready.1 hk;have Ek:k<ops.size:=(Array.getElem?_eq_some_iff.1 ho).1;have h2:=Ei k Ek;have h3:k<listed.size:=by omega
  simp[h3] at h1 h2;rw[h1] at h2;cases h2
 cases fuel with
 |zero=>exact⟨hr,h⟩
 |succ fuel=>exact⟨fun _=>h,fun i hi=>by rw[hr] at hi;cases hi⟩
def A0b[hB:Nonempty (StB B)]{T:List (Nat×SV)}{E:Env}{a:Act}{w:World}(hX:PXK w0 own M0 Df (KT T) X Q)(Rd:∀p∈T,s.sl.getD p.1 .undef=p.2)(Pw:∀p∈T,∀ao∈l,ao.d≠some p.1)(hok:Jq ops l=true)(Hq:∀(k:Nat) a,l[k]?=some a->∃o a0,ops[k]?=some o/\Pg P ops o=some a0/\a.op=a0.op/\a.d=a0.d/\a.g=a0.g/\a.id=k)
  {ao:Cd} (ha:l[b0]?=some ao) (Zd:∀L:Nat->Bool,Ln ops L->∀j,b0+1<=j->j<ops.size->L j=true->∀i,i<b0+1->L i=true)
  (hK:∀(fuel:Nat) (listed:Array Bool) E g s a w,listed.size=ops.size->(List.range ops.size).countP (fun k=>!listed.getD k false)<=fuel->(∀k,listed.getD k false=decide (k<b0+1))->SR w0 own M0 B Df E g s a w->K s->wpAny P .any ops Q fuel listed a w)
  {fuel:Nat} {listed:Array Bool} (Cf:listed.size=ops.size) (hc:(List.range ops.size).countP (fun k=>!listed.getD k false)<=fuel) (Ei:∀k,listed.getD k false=decide (k<b0)) (hS:SR w0 own M0 B Df E g s a w) (h:Ex (Eh P X) [ao] s K):wpAny P .any ops Q fuel listed a w:=by
 have Bl:=Aa7 hok;have hb:b0<l.length:=(q_jm.1 ha).1;have Vz:∀k,b0<=k->listed.getD k false=false:=fun k hk=>by rw[Ei];exact q_je (by omega)
 have hdown:Ln ops (fun k=>listed.getD k false):=by
  intro j o ho hj e he Ju;have h1:=Aa6 hok ho he Ju;simp only[Ei,q_jt] at hj |-;omega
 have hcp:0<(List.range ops.size).countP (fun k=>!listed.getD k false):=List.countP_pos_iff.2 ⟨b0,List.mem_range.2 (by omega),by rw[Vz b0 (q_ja _)];rfl⟩;cases fuel with
 |zero=>omega
 |succ fuel=>
  have alldone:Region.ready .any ops listed≠[]:=by
   intro hr;have ho:ops[b0]?=some (ops[b0]'(by omega)):=Array.getElem?_eq_getElem (by omega);have:b0∈Region.ready .any ops listed:=mem_ready.2 ⟨by
    have h3:b0<listed.size:=by omega
    have:=Vz b0 (q_ja _);simp[h3] at this |-;exact this,_,ho,fun e he Ju=>by
    have:=Aa6 hok ho he Ju;rw[Ei];exact q_jn this⟩
   rw[hr] at this;cases this
  refine⟨fun hr=>absurd hr alldone,fun i hi=>?_⟩;obtain⟨h1,o,ho,Vv⟩:=mem_ready.1 hi;have Lx:i<ops.size:=(Array.getElem?_eq_some_iff.1 ho).1;have Ro:listed.getD i false=false:=by
   have h3:i<listed.size:=by omega
   simp[h3] at h1 |-;exact h1
  have Jb:b0<=i:=by
   rcases q_jo i b0 with h|h
   ·rw[Ei,q_jn h] at Ro;cases Ro
   ·exact h
  have Tc:i=b0:=by
   rcases q_jo b0 i with h|h
   ·exfalso;have Yd:Ln ops (fun k=>listed.getD k false || k==i):=by
     intro k o' Gq hk e he Ju
     by_cases Ko:k=i
     ·subst Ko;rw[ho] at Gq;cases Gq;simp[Vv e he Ju]
     ·have:listed.getD k false=true:=by simpa [Ko] using hk
      have:=hdown k o' Gq this e he Ju;simp only at this |-;rw[this];rfl
    have:=Zd _ Yd i h Lx (by simp) b0 (Nat.lt_succ_self _);simp[Vz b0 (q_ja _),show b0≠i by omega] at this
   ·omega
  subst Tc;obtain⟨o',a0,g1,g2,g3,g4,g5,g6⟩:=Hq _ _ ha;rw[ho] at g1;cases g1;have hset:∀k,(listed.setIfInBounds i true).getD k false=(listed.getD k false || k==i):=Amk listed i (by omega);have Adw:(List.range ops.size).countP (fun k=>!(listed.setIfInBounds i true).getD k false)<=fuel:=by
   have:(List.range ops.size).countP (fun k=>!(listed.setIfInBounds i true).getD k false)<(List.range ops.size).countP (fun k=>!listed.getD k false):=by
    refine Ah0 (fun k hk=>?_) (List.mem_range.2 Lx) (by rw[Ro];rfl) (by rw[hset];simp);rw[hset] at hk;simp only[Bool.not_or,q_jl] at hk;exact hk.1
   omega
  have hex':∀k,(listed.setIfInBounds i true).getD k false=decide (k<i+1):=fun k=>by
   rw[hset,Ei]
   by_cases c:k=i
   ·subst c;simp
   ·by_cases d:k<i
    ·simp[d,show k<i+1 by omega]
    ·simp[d,c,show ¬k<i+1 by omega]
  refine A0d hX (fun E g s' a' w' w9 hk=>hK fuel _ E g s' a' w' (by simp[Cf]) Adw hex' w9 hk) g2 ho hS (fun p hp=>by have:=hS.sl p.1;rw[Rd p hp] at this;exact this) (fun p hp=>by rw[<-g4];exact Pw p hp ao (q_jb ha)) (A5c g3 g4 g5 h)
end
section
variable{P:Program}{w0:World}{own:Nat->Prop}{M0:Mem}{B:Env->Prop}{Df:List Deferred}{g:Option (GV)}{X:SV->GV->Prop}
def AE.ex:AE->Exit
 |.normal=>.normal
 |.exit id=>.exit id
 |.ret=>.ret
def Agw{E E':Env}{n:Nat}(hm:E'.m=E.m)(hβ:E'.β=E.β)(ht:E'.t=E.t)(hH:∀o,o<n->E'.H o=E.H o){v:Value}{x:SV}(h:RelV E v x)(hb:below n x=true):RelV E' v x:=by
 cases h with
 |J=>exact .J _
 |undef=>exact .undef
 |rep _ _ hr=>exact .rep _ _ (by rw[hm];exact hr)
 |ref o g e c b j ob h1 h2 h3=>
  simp only[below,q_jt] at hb;exact .ref o g e c b j ob (by rw[hH o hb];exact h1) h2 (by rw[hβ];exact h3)
 |osl o g off len A k cap ob h1 h2 h3 h4=>
  simp only[below,q_jt] at hb;exact .osl o g off len A k cap ob (by rw[hH o hb];exact h1) h2 h3 (by rw[hβ,ht];exact h4)
 |agg vs l h0 h1 h2=>
  simp only[below,List.all_eq_true] at hb;refine .agg vs l h0 h1 (fun j v x hv hx=>?_);have He:=hb x (q_jb hx);have Fi:=h0 v (q_jb hv);cases h2 j v x hv hx with
  |J=>exact .J _
  |undef=>exact .undef
  |rep _ _ hr=>exact .rep _ _ (by rw[hm];exact hr)
  |ref o g e c b j ob k1 k2 k3=>
   simp only[q_jt] at He;exact .ref o g e c b j ob (by rw[hH o He];exact k1) k2 (by rw[hβ];exact k3)
  |osl o g off len A k cap ob k1 k2 k3 k4=>
   simp only[q_jt] at He;exact .osl o g off len A k cap ob (by rw[hH o He];exact k1) k2 k3 (by rw[hβ,ht];exact k4)
  |agg=>simp at He
def SR.closed[hB:Nonempty (StB B)]{E E1:Env}{s:St}{a:Act}{w:World}{h:List Ob}(hS:SR w0 own M0 B Df E g s a w)(st:StepV (fun _=>True) w0 own E g E1 g w h):SR w0 own M0 B Df E1 g { s with hp:=h } a w:=
 ⟨st.wo,st.gx,fun o=>st.on o trivial,hS.len,fun i=>(hS.sl i).mono0 st.ext,hS.dfr,st.ext.z.trans hS.z,hS.le.trans st.ext.m,fun hn=>(st.d hn).trans (hS.d hn),fun h=>hB.elim fun k=>k.ext _ _ st.ext (hS.hb h)⟩
def SR.vw{E:Env}{s:St}{a:Act}{w:World}(hS:SR w0 own M0 B Df E g s a w){o:Nat}{ob:Ob}(h:E.H o=some ob):s.hp[o]?=some ob:=by
 have:=hS.hp o;cases g with
 |none=>rw[<-this];exact h
 |some G=>
  have h0:o≠0:=by rintro rfl;have hz:=hS.gx.z;rw[hz] at h;cases h
  simp only[Env.view,if_neg h0] at this;rw[<-this];exact h
def GX.objs{n0:Nat}{E E':Env}{w:World}(h:GX n0 own E w g)(hm:E'.m=E.m)(h0:g.isSome=true->E'.H 0=none)(hH:∀o ob,E'.H o=some ob->0<E'.t o->E.H o=some ob/\0<E.t o/\E'.β o=E.β o):GX n0 own E' w g:=by
 cases g with
 |none=>trivial
 |some G=>
  refine⟨h0 rfl,by rw[hm];exact h.sat,by rw[hm];exact h.new,fun i b o ob hi ho ht=>?_⟩;rw[hm] at hi;obtain⟨k1,k2,k3⟩:=hH o ob ho ht;rw[k3];exact h.obs i b o ob hi k1 k2
def Aml{s:St}{a:Act}{E:Env}{i:Nat}{x v:SV}(hi:s.sl[i]?=some x)(h:∀j,RelV E (a.tmps.getD j undef) (s.sl.getD j .undef))(hv:RelV E (a.tmps.getD i undef) v):∀j,RelV E (a.tmps.getD j undef) ((s.sl.set i v).getD j .undef):=by
 intro j
 by_cases Jk:i=j
 ·subst Jk;have Aq:i<s.sl.length:=by
   rcases q_jo i s.sl.length with h|h
   ·exact h
   ·rw[q_jd h] at hi;cases hi
  rw[q_j,q_jq Aq];exact hv
 ·have:=h j;rw[q_j,q_jc Jk,<-q_j];exact this
def Azr{E E':Env}{o:Nat}(hm:E.m.le E'.m)(hH:∀j,j≠o->E'.H j=E.H j)(hβ:∀j,j≠o->E'.β j=E.β j)(ht:∀j,j≠o->E'.t j=E.t j){v:Value}{x:SV}(h:RelV E v x)(hb:Og o x=true):RelV E' v x:=by
 cases h with
 |J=>exact .J _
 |undef=>exact .undef
 |rep _ _ hr=>exact .rep _ _ (hr.mono hm)
 |ref o' g e c b j ob h1 h2 h3=>
  simp only[Og,q_jt] at hb;exact .ref o' g e c b j ob (by rw[hH o' hb];exact h1) h2 (by rw[hβ o' hb];exact h3)
 |osl o' g off len A k cap ob h1 h2 h3 h4=>
  simp only[Og,q_jt] at hb;exact .osl o' g off len A k cap ob (by rw[hH o' hb];exact h1) h2 h3 (by rw[hβ o' hb,ht o' hb];exact h4)
 |agg vs l h0 h1 h2=>
  simp only[Og,List.all_eq_true] at hb;refine .agg vs l h0 h1 (fun j v x hv hx=>?_);have He:=hb x (q_jb hx);have Fi:=h0 v (q_jb hv);cases h2 j v x hv hx with
  |J=>exact .J _
  |undef=>exact .undef
  |rep _ _ hr=>exact .rep _ _ (hr.mono hm)
  |ref o' g e c b j ob k1 k2 k3=>
   simp only[q_jt] at He;exact .ref o' g e c b j ob (by rw[hH o' He];exact k1) k2 (by rw[hβ o' He];exact k3)
  |osl o' g off len A k cap ob k1 k2 k3 k4=>
   simp only[q_jt] at He;exact .osl o' g off len A k cap ob (by rw[hH o' He];exact k1) k2 k3 (by rw[hβ o' He,ht o' He];exact k4)
  |agg=>simp at He
def A5q[hB:Nonempty (StB B)]{s s':St}(h:Wk s s'):∀{g:Option (GV)} {E:Env} {a:Act} {w:World},SR w0 own M0 B Df E g s a w->∃E' g',SR w0 own M0 B Df E' g' s' a w:=by
 induction h with
 |refl s=>intro g E a w hS;exact⟨E,g,hS⟩
 |trans _ _ ih1 ih2=>intro g E a w hS;obtain⟨E1,g1,h1⟩:=ih1 hS;exact ih2 h1
 |slots s l hl hv=>
  intro g E a w hS;refine⟨E,g,hS.wo,hS.gx,hS.hp,by simpa [hl] using hS.len,fun i=>?_,hS.dfr,hS.z,hS.le,hS.d,hS.hb⟩;show RelV E (a.tmps.getD i undef) (l.getD i .undef);have:=hS.sl i;rcases q_jo i l.length with hi|hi
  ·have h1:l[i]?=some l[i]:=q_f hi;rw[q_j,h1];rcases hv i _ h1 with h2|h2
   ·rw[q_jz,h2];exact .J _
   ·rw[q_j,h2] at this;exact this
  ·rw[q_j,q_jd (by omega)] at this |-;exact this
 |trunc s n h0 h1 h2 h7=>
  intro g E a w hS;have Dw:g.isSome=true->0<n:=fun hs=>h0 (by
   obtain⟨G,rfl⟩:=q_ka.1 hs;have:=hS.hp 0;simp only[Env.view,if_true] at this;rw[Avx this.symm];rfl)
  let E':Env:={ E with H:=fun o=>if o<n then E.H o else none }
  have hH:∀o,o<n->E'.H o=E.H o:=fun o ho=>by simp[E',ho]
  have Aas:∀o ob,E'.H o=some ob->o<n/\E.H o=some ob:=fun o ob ho=>by
   by_cases Ck:o<n
   ·exact⟨Ck,by rw[<-hH o Ck];exact ho⟩
   ·simp[E',Ck] at ho
  refine⟨E',g,⟨⟨hS.wo.os,hS.wo.tape,hS.wo.output,hS.wo.size,hS.wo.block,hS.wo.mem,fun o ob ho=>?_,fun o o' ob ob' k1 k2=>hS.wo.inj o o' ob ob' (Aas _ _ k1).2 (Aas _ _ k2).2,hS.wo.keep,hS.wo.pl,hS.wo.tb⟩,?_,fun o=>?_,hS.len,fun i=>?_,hS.dfr,hS.z,hS.le,hS.d,fun hs=>hB.elim fun k=>k.wk E E' (fun o ob h1 h2=>?_) rfl (hS.hb hs)⟩⟩
  rotate_right
  ·have hv:=hS.vw h1;rcases q_jo o n with h3|h3
   ·rw[hH o h3];exact h1
   ·have:=h7 ob (q_jb (i:=o-n) (by rw[q_kk,show n+(o-n)=o by omega];exact hv));omega
  ·obtain⟨Ck,hE⟩:=Aas o ob ho;have hk:=hS.wo.obs o ob hE;refine⟨hk.rows,hk.frz,hk.fit,hk.box,hk.bnd,fun ht=>?_⟩;obtain⟨c,e,k⟩:=hk.live ht;refine⟨c,e,⟨k.blk,k.size,k.new,fun j v x hv hx=>?_,k.one,k.old,k.free,k.clo,k.pl⟩⟩
   by_cases hcl:ob.box=false\/ob.cl=true
   ·exact .rep _ _ (k.clo hcl j v x hv hx)
   ·have hb:ob.box=true:=by cases h:ob.box<;>simp[h] at hcl |-
    have hc:ob.cl=false:=by cases h:ob.cl<;>simp[h] at hcl |-
    have hmem:ob∈s.hp.take n:=by
     refine q_jb (i:=o) ?_;rw[q_jx,if_pos Ck];exact hS.vw hE
    obtain⟨r,hr,hxr⟩:=List.mem_flatten.1 (q_jb hx);exact Agw (E:=E) (E':=E') (n:=n) rfl rfl rfl hH (k.rel j v x hv hx) (h2 ob hmem hb hc r hr x hxr)
  ·refine hS.gx.objs rfl (fun hs=>?_) (fun o ob ho ht=>⟨(Aas o ob ho).2,ht,rfl⟩);rw[hH 0 (Dw hs)];obtain⟨G,rfl⟩:=q_ka.1 hs;exact hS.gx.z
  ·rw[q_jx,<-hS.hp o];cases g with
   |none=>rfl
   |some G=>
    show (if o=0 then some (gOb G) else if o<n then E.H o else none)=if o<n then (if o=0 then some (gOb G) else E.H o) else none
    have:=Dw rfl
    by_cases Kj:o=0
    ·subst Kj;simp[this]
    ·simp[Kj]
  ·have:=hS.sl i;rcases q_jo i s.sl.length with hi|hi
   ·refine Agw (E:=E) (E':=E') (n:=n) rfl rfl rfl hH this (h1 _ ?_);rw[q_j,q_f hi];exact q_kd hi
   ·have h3:s.sl.getD i .undef=.undef:=by rw[q_j,q_jd (by omega)];rfl
    show RelV E' _ (s.sl.getD i .undef);rw[h3] at this |-;rw[Agc this];exact .undef
 |ghost s i sz hi=>
  intro g E a w hS;have hlz:g.isSome=true->s.hp.length≠0:=fun hs=>by have:=hS.ne hs;omega
  have Ov:E.H s.hp.length=none:=by
   cases h:E.H s.hp.length with
   |none=>rfl
   |some ob=>have:=hS.vw h;rw[q_jd (q_ja _)] at this;cases this
  let ob:Ob:={ box:=false,sz:=sz,els:=[],frz:=0,gen:=0,cl:=true }
  let E':Env:={ E with H:=fun o=>if o=s.hp.length then some ob else E.H o,t:=fun o=>if o=s.hp.length then 0 else E.t o }
  have Dj:∀o ob1,E.H o=some ob1->o≠s.hp.length:=fun o ob1 ho=>by rintro rfl;rw[Ov] at ho;cases ho
  have hext:Ext E E':=⟨⟨.refl _,fun o ob1 ho=>⟨ob1,by simp[E',Dj o ob1 ho,ho],rfl,q_ja _,fun _=>⟨rfl,by simp[E',Dj o ob1 ho],q_ja _⟩⟩,rfl⟩,rfl⟩
  refine⟨E',g,⟨⟨hS.wo.os,hS.wo.tape,hS.wo.output,hS.wo.size,hS.wo.block,hS.wo.mem,fun o ob1 ho=>?_,fun o o' ob1 ob2 k1 k2 hoo t1 t2=>?_,hS.wo.keep,hS.wo.pl,hS.wo.tb⟩,?_,fun o=>?_,?_,fun j=>?_,hS.dfr,hS.z,hS.le,hS.d,fun hs=>hB.elim fun k=>k.ext _ _ hext.toExt0 (hS.hb hs)⟩⟩
  ·by_cases Ck:o=s.hp.length
   ·subst Ck;have:ob1=ob:=by simp[E'] at ho;exact ho.symm
    subst this;exact⟨by simp[ob],by simp[ob],by simp[ob],by simp[ob],by simp[ob],fun h=>by simp[E'] at h⟩
   ·have hE:E.H o=some ob1:=by simpa [E',Ck] using ho
    have hk:=hS.wo.obs o ob1 hE;refine⟨hk.rows,hk.frz,by simpa [E',Ck] using hk.fit,hk.box,hk.bnd,fun ht=>?_⟩;obtain⟨c,e,k⟩:=hk.live (by simpa [E',Ck] using ht);exact⟨c,e,⟨k.blk,by simpa [E',Ck] using k.size,k.new,fun j v x hv hx=>(k.rel j v x hv hx).mono hext,k.one,k.old,k.free,k.clo,by simpa [E',Ck] using k.pl⟩⟩
  ·have n1:o≠s.hp.length:=by rintro rfl;simp[E'] at t1
   have n2:o'≠s.hp.length:=by rintro rfl;simp[E'] at t2
   exact hS.wo.inj o o' ob1 ob2 (by simpa [E',n1] using k1) (by simpa [E',n2] using k2) hoo (by simpa [E',n1] using t1) (by simpa [E',n2] using t2)
  ·refine hS.gx.objs rfl (fun hs=>?_) (fun o ob1 ho ht=>?_)
   ·have:=hlz hs;obtain⟨G,rfl⟩:=q_ka.1 hs;have hz:=hS.gx.z;simp only[E',if_neg (Ne.symm this)];exact hz
   ·have Ck:o≠s.hp.length:=by rintro rfl;simp[E'] at ht
    exact⟨by simpa [E',Ck] using ho,by simpa [E',Ck] using ht,rfl⟩
  ·have hv:=hS.hp o
   by_cases Ck:o=s.hp.length
   ·subst Ck;cases g with
    |none=>
     show (if s.hp.length=s.hp.length then some ob else E.H s.hp.length)=(s.hp++[ob])[s.hp.length]?;rw[if_pos rfl,q_jj (q_ja _),Nat.sub_self,q_jv]
    |some G=>
     show (if s.hp.length=0 then some (gOb G) else if s.hp.length=s.hp.length then some ob else E.H s.hp.length)=(s.hp++[ob])[s.hp.length]?;rw[if_neg (hlz rfl),if_pos rfl,q_jj (q_ja _),Nat.sub_self,q_jv]
   ·rw[Ur Ck,<-hv];cases g with
    |none=>simp[Env.view,E',Ck]
    |some G=>simp[Env.view,E',Ck]
  ·simpa using hS.len
  ·show RelV E' _ ((s.sl.set i (.osl s.hp.length 0 0 0)).getD j .undef)
   by_cases Jk:i=j
   ·subst Jk;have Aq:i<s.sl.length:=by
     rcases q_jo i s.sl.length with h|h
     ·exact h
     ·rw[q_jd h] at hi;cases hi
    have hv:=hS.sl i;rw[q_j,hi] at hv;have:=All hv;rw[this,q_j,q_jq Aq];exact .osl _ _ _ _ _ _ _ ob (by simp[E']) (q_ja _) ⟨rfl,q_ja _,fun h=>by omega⟩ (fun _=>⟨by simp[ob],.inr rfl⟩)
   ·have:=(hS.sl j).mono hext;rw[q_j,q_jc Jk,<-q_j];exact this
 |clos s i x v h hi hc=>
  intro g E a w hS;have hx:=hS.sl i;rw[q_j (l:=s.sl),hi,q_jz] at hx;obtain⟨E1,Cu,st⟩:=o0 (U:=fun _=>True) hS.wo hS.gx (fun o _=>hS.hp o) hc hx (fun _ _=>trivial);have h1:=hS.closed st;exact⟨E1,g,h1.wo,h1.gx,h1.hp,by simpa using h1.len,Aml (s:={ s with hp:=h }) hi h1.sl (.rep _ _ Cu),h1.dfr,h1.z,h1.le,h1.d,h1.hb⟩
 |nil s i sz hi=>
  intro g E a w hS;have hx:=hS.sl i;rw[q_j (l:=s.sl),hi,q_jz] at hx;refine⟨E,g,hS.wo,hS.gx,hS.hp,by simpa using hS.len,Aml hi hS.sl ?_,hS.dfr,hS.z,hS.le,hS.d,hS.hb⟩;revert hx;generalize a.tmps.getD i undef=u;intro hx;cases hx with
  |rep _ _ hr=>exact .rep _ _ (by cases hr;exact .dsl0 _ _ _)
 |promo s o ob G row hG ho Jj hcl hfrz Gc Cv h7 Jn hobs=>
  intro g E a w hS;have:=Ng (U:=fun _=>True) (fun o _=>hS.hp o) trivial hS.wo hG;subst this;have hg:=hS.gx;have Dw:0<s.hp.length:=hS.ne rfl;have Kj:s.hp[0]?=some (gOb G):=by
   have:=hS.hp 0;simpa [Env.view] using this.symm
  have ho0:o≠0:=by
   rintro rfl;rw[Kj] at ho;cases ho;cases Jj
  have Xs:E.H o=some ob:=by
   have:=hS.hp o;simp only[Env.view,if_neg ho0] at this;rw[this];exact ho
  have hk:=hS.wo.obs o ob Xs;have Cf:row.length=ob.sz:=hk.rows row (by rw[Gc];simp);have ht:0<E.t o:=by
   have:=hk.fit;rw[Gc] at this;have:0<row.length:=List.length_pos_iff.2 Cv;simp at *
   omega
  obtain⟨c,e,k⟩:=hk.live ht;have Ew:row.length<=E.t o:=by
   have:=hk.fit;rw[Gc] at this;simp at this;omega
  have Vn:E.m.d G.length=none:=by
   cases h:E.m.d G.length with
   |none=>rfl
   |some b=>have:=(hg.sat.dom G.length).2 ⟨b,h⟩;omega
  have hβd:∀i b,E.m.d i=some b->b≠E.β o:=fun i b hi hb=>hg.obs i b o ob hi Xs ht hb.symm
  let m':Mem:=⟨E.m.c,fun j=>if j=G.length then some (E.β o) else E.m.d j,E.m.p,fun i j b hi hj=>by
   by_cases h1:i=G.length<;>by_cases h2:j=G.length
   ·omega
   ·simp only[if_pos h1,if_neg h2,q_b] at hi hj;exact absurd hi.symm (hβd j b hj)
   ·simp only[if_neg h1,if_pos h2,q_b] at hi hj;exact absurd hj.symm (hβd i b hi)
   ·simp only[if_neg h1,if_neg h2] at hi hj;exact hg.sat.inj i j b hi hj⟩
  have hle:E.m.le m':=⟨fun _ _ _ h=>h,fun i b h=>by
   have:i≠G.length:=by rintro rfl;rw[Vn] at h;cases h
   simp only[m',if_neg this];exact h,fun b h=>h⟩
  have Gi:∀j b,m'.d j=some b->(j=G.length/\b=E.β o)\/(j≠G.length/\E.m.d j=some b):=fun j b h=>by
   by_cases hj:j=G.length
   ·simp only[m',if_pos hj,q_b] at h;exact .inl ⟨hj,h.symm⟩
   ·simp only[m',if_neg hj] at h;exact .inr ⟨hj,h⟩
  let E':Env:={ E with m:=m',H:=fun j=>if j=o then some (Po ob.sz) else E.H j,t:=fun j=>if j=o then 0 else E.t j }
  have Rc:∀j,j≠o->E'.H j=E.H j:=fun j hj=>by simp[E',hj]
  have Ru:∀j,j≠o->E'.t j=E.t j:=fun j hj=>by simp[E',hj]
  have Er:∀{v:Value} {x:SV},RelV E v x->Og o x=true->RelV E' v x:=fun h hb=>Azr (E:=E) (E':=E') hle Rc (fun _ _=>rfl) Ru h hb
  have Aje:m'.d G.length=some (E.β o):=by simp[m']
  have Kk:∀j,E.m (E.β o) j=none:=fun j=>k.free j (by rw[hfrz];omega)
  refine⟨E',some (G++[row]),⟨⟨hS.wo.os,hS.wo.tape,hS.wo.output,hS.wo.size,hS.wo.block,hS.wo.mem,fun j ob' hj=>?_,fun j j' ob1 ob2 k1 k2 hjj t1 t2=>?_,hS.wo.keep,hS.wo.pl,hS.wo.tb⟩,⟨?_,⟨fun j=>?_,fun i j b hi hj=>m'.inj i j b hi hj,fun j r b hr hb=>?_,fun i b j hi=>?_⟩,fun i b hi=>?_,fun i b j ob' hi hj Yz=>?_⟩,fun j=>?_,by simpa using hS.len,fun i=>?_,hS.dfr,hS.z,hS.le.trans hle,(fun h=>by cases h),fun _=>hB.elim fun k=>k.wk E E' (fun j ob1 h1 h2=>?_) rfl (hS.hb rfl)⟩⟩
  rotate_right
  ·have hj:j≠o:=by
    rintro rfl;rw[Xs] at h1;cases h1;omega
   rw[Rc j hj];exact h1
  ·by_cases Jx:j=o
   ·subst Jx;have:ob'=Po ob.sz:=by simp[E'] at hj;exact hj.symm
    subst this;exact⟨by simp[Po],by simp[Po],by simp[Po],by simp[Po],by simp[Po],fun h=>by simp[E'] at h⟩
   ·have hE:E.H j=some ob':=by rw[<-Rc j Jx];exact hj
    have hk':=hS.wo.obs j ob' hE;refine⟨hk'.rows,hk'.frz,by rw[Ru j Jx];exact hk'.fit,hk'.box,hk'.bnd,fun Yz=>?_⟩;obtain⟨c',e',q⟩:=hk'.live (by rw[<-Ru j Jx];exact Yz);refine⟨c',e',⟨q.blk,by rw[Ru j Jx];exact q.size,q.new,fun n v x hv hx=>?_,q.one,q.old,q.free,fun hb n v x hv hx=>(q.clo hb n v x hv hx).mono hle,q.pl⟩⟩
    by_cases hc:ob'.box=false\/ob'.cl=true
    ·exact .rep _ _ ((q.clo hc n v x hv hx).mono hle)
    ·have hb1:ob'.box=true:=by cases h:ob'.box<;>simp[h] at hc |-
     have Iz:ob'.cl=false:=by cases h:ob'.cl<;>simp[h] at hc |-
     obtain⟨r,hr,hxr⟩:=List.mem_flatten.1 (q_jb hx);exact Er (q.rel n v x hv hx) (hobs j ob' (hS.vw hE) Jx hb1 Iz r hr x hxr)
  ·have n1:j≠o:=by rintro rfl;simp[E'] at t1
   have n2:j'≠o:=by rintro rfl;simp[E'] at t2
   exact hS.wo.inj j j' ob1 ob2 (by rw[<-Rc j n1];exact k1) (by rw[<-Rc j' n2];exact k2) hjj (by rw[<-Ru j n1];exact t1) (by rw[<-Ru j' n2];exact t2)
  ·show E'.H 0=none;rw[Rc 0 (Ne.symm ho0)];exact hg.z
  ·rw[q_jr,List.length_singleton];constructor
   ·intro hj
    by_cases Rp:j=G.length
    ·exact⟨E.β o,by rw[Rp];exact Aje⟩
    ·obtain⟨b,hb⟩:=(hg.sat.dom j).1 (by omega);exact⟨b,hle.d _ _ hb⟩
   ·rintro ⟨b,hb⟩;rcases Gi j b hb with⟨h,_⟩|⟨_,h⟩
    ·omega
    ·have:=(hg.sat.dom j).2 ⟨b,h⟩;omega
  ·rcases Gi j b hb with⟨h1,h2⟩|⟨h1,h2⟩
   ·subst h1 h2;rw[q_jj (q_ja _),Nat.sub_self,q_jv,q_b] at hr;subst hr;refine .cells _ c e k.blk (by rw[k.size];exact Ew) (fun n v x hv hx=>⟨(k.clo (.inr hcl) n v x hv ?_).mono hle,k.one n v hv⟩) (fun n v hv=>k.one n v hv);rw[Gc];simpa using hx
   ·have Aq:j<G.length:=(hg.sat.dom j).2 ⟨b,h2⟩;rw[q_jf Aq] at hr;exact (hg.sat.row j r b hr h2).mono hle rfl
  ·rcases Gi i b hi with⟨h1,h2⟩|⟨h1,h2⟩
   ·subst h2;exact Kk j
   ·exact hg.sat.free i b j h2
  ·rcases Gi i b hi with⟨h1,h2⟩|⟨h1,h2⟩
   ·subst h2;exact k.new
   ·exact hg.new i b h2
  ·have n1:j≠o:=by rintro rfl;simp[E'] at Yz
   have hE:E.H j=some ob':=by rw[<-Rc j n1];exact hj
   rcases Gi i b hi with⟨h1,h2⟩|⟨h1,h2⟩
   ·subst h2;exact hS.wo.inj j o ob' ob hE Xs n1 (by rw[<-Ru j n1];exact Yz) ht
   ·exact hg.obs i b j ob' h2 hE (by rw[<-Ru j n1];exact Yz)
  ·have holt:o<s.hp.length:=(q_jm.1 ho).1
   by_cases Nv:j=0
   ·subst Nv;rw[q_jc ho0,q_jq Dw];simp[Env.view]
   ·by_cases Jx:j=o
    ·subst Jx;rw[q_jq (by simpa using holt)];simp[Env.view,Nv,E']
    ·rw[q_jc (Ne.symm Jx),q_jc (Ne.symm Nv),<-hS.hp j];simp only[Env.view,if_neg Nv];exact Rc j Jx
  ·have hrl:=hS.sl i;rcases q_jo i s.sl.length with hi|hi
   ·have h1:s.sl[i]?=some s.sl[i]:=q_f hi;have hmem:=Jn _ (q_jb h1);rw[q_j,h1,q_jz] at hrl;rw[q_j,q_ji,h1];show RelV E' _ (Uc o G.length s.sl[i]);revert hrl hmem;generalize s.sl[i]=x;intro hrl hmem
    by_cases hx:Og o x=true
    ·have:Uc o G.length x=x:=by
      cases x with
      |ref o' g' e' c'=>
       simp only[Og,q_jt] at hx;simp[Uc,hx]
      |_=>rfl
     rw[this];exact Er hrl hx
    ·cases x with
     |ref o' g' e' c'=>
      simp only[Og,q_jt,Classical.not_not] at hx;subst hx;simp only[Aa8,ne_eq,not_true_eq_false,decide_false,Bool.false_or,q_jl,beq_iff_eq] at hmem;obtain⟨rfl,rfl⟩:=hmem;simp only[Uc,if_true];generalize a.tmps.getD i undef=u at hrl;cases hrl with
      |rep _ _ hr=>cases hr
      |ref _ _ _ _ b j ob1 h1 h2 h3=>
       rw[Xs] at h1;cases h1;obtain⟨rfl,rfl⟩:=h3 rfl;rw[Nat.zero_mul,q_jg];exact .rep _ _ (.gp _ _ _ Aje k.pl)
     |_=>exact absurd hmem (by simpa [Aa8] using hx)
   ·have hz:(List.map (Uc o G.length) s.sl).getD i .undef=.undef:=by rw[q_j,q_jd (by simpa using hi)];rfl
    rw[hz];rw[q_j (l:=s.sl),q_jd hi] at hrl;rw[Agc hrl];exact .undef
def A2r[hB:Nonempty (StB B)]{ops:Array Oper}{Q:Exit->Act->World->Prop}{l:List Cd}(hX:PX w0 own M0 Df X Q)(hok:Jq ops l=true)(Hq:∀(k:Nat) a,l[k]?=some a->∃o a0,ops[k]?=some o/\Pg P ops o=some a0/\a.op=a0.op/\a.d=a0.d/\a.g=a0.g/\a.id=k){QA:AE->St->Prop}(hQ:∀e E g s a w,SR w0 own M0 B Df E g s a w->QA e s->Q e.ex a w) :
  ∀(r acc:List Cd) (b0 k:Nat),l.drop b0=acc++r->k=b0+acc.length->b0<=l.length->∀(fuel:Nat) (listed:Array Bool) (E:Env) (g:Option (GV)) (s:St) (a:Act) (w:World),listed.size=ops.size->(List.range ops.size).countP (fun k=>!listed.getD k false)<=fuel->(∀k,listed.getD k false=decide (k<b0))->SR w0 own M0 B Df E g s a w ->
  vc (Eh P X) (Ug P (Md ops.toList []) ops.size r k acc) QA s->wpAny P .any ops Q fuel listed a w:=by
 have Bl:=Aa7 hok;intro r
 induction r with
 |nil=>
  intro acc b0 k hl hk hb fuel listed E g s a w Cf hc Ei hS h;rw[Ug] at h;simp only[vc,if_true] at h;rw[q_k] at hl;have Jy:=congrArg List.length hl;rw[q_kh] at Jy;refine Ami (T:=[]) (px_k hX) (fun p hp=>by cases hp) (fun p hp=>by cases hp) hok Hq (rest:=[]) (by rw[hl,q_k]) hb (fun L hd j hj hs=>by omega) (fun fuel listed E g s a w Cf hc Ei hS hk=>Anw hok Cf (fun k hk=>by rw[Ei];exact q_jn (by omega)) (hQ .normal E g s a w hS hk)) Cf hc Ei hS h
 |cons o r ih=>
  intro acc b0 k hl hk hb fuel listed E g s a w Cf hc Ei hS h;rw[Ug] at h;split at h
  ·rename_i hcut;simp only[q_jl] at hcut;obtain⟨_,hw1,hw2⟩:=hcut;have Jy:=congrArg List.length hl;rw[q_kh,q_jr,q_jk] at Jy;have ha:l[b0+acc.length]?=some o:=by
    have:(l.drop b0)[acc.length]?=l[b0+acc.length]?:=by rw[q_kk]
    rw[<-this,hl,q_jj (q_ja _),Nat.sub_self];rfl
   have hl2:l.drop (b0+acc.length+1)=[]++r:=by
    rw[show b0+acc.length+1=b0+(acc.length+1) by omega,<-List.drop_drop,hl,<-List.drop_drop,List.drop_left];rfl
   subst hk;simp only[vc,if_true,q_kx,if_false] at h;refine Ami (T:=[]) (px_k hX) (fun p hp=>by cases hp) (fun p hp=>by cases hp) hok Hq hl hb (Ane hok hw1) (fun fuel listed E g s a w Cf hc Ei hS h=>?_) Cf hc Ei hS h;refine A0b (T:=[]) (px_k hX) (fun p hp=>by cases hp) (fun p hp=>by cases hp) hok Hq ha (Ane hok hw2) (fun fuel listed E g s a w Cf hc Ei hS h=>?_) Cf hc Ei hS h;exact ih [] (b0+acc.length+1) _ hl2 (by simp) (by omega) fuel listed E g s a w Cf hc Ei hS h
  ·exact ih (acc++[o]) b0 (k+1) (by rw[hl,q_ju];rfl) (by simp;omega) hb fuel listed E g s a w Cf hc Ei hS h
def A1i[hB:Nonempty (StB B)]{ops:Array Oper}{Q:Exit->Act->World->Prop}{l:List Cd}{s:St}{E:Env}{a:Act}{w:World}{l0:List Cd}{id:Nat}{QA:AE->St->Prop}(hX:PX w0 own M0 Df X Q)(hm:P.follows .mixedOrders=true)(htr:Qq P ops ops.toList=some l0)(hl:l=l9 (Md ops.toList []) l0)(hok:Jq ops l=true)(hQ:∀e E g s a w,SR w0 own M0 B Df E g s a w->QA e s->Q e.ex a w)
  (hS:SR w0 own M0 B Df E g s a w) (h:vc (Eh P X) (Ug P (Md ops.toList []) ops.size l 0 []) QA s):(Code.region id ops true).wp P Q a w:=by
 have Hq:∀(k:Nat) a,l[k]?=some a->∃o a0,ops[k]?=some o/\Pg P ops o=some a0/\a.op=a0.op/\a.d=a0.d/\a.g=a0.g/\a.id=k:=by
  intro k a ha;rw[hl] at ha;obtain⟨a0,h1,h2,h3,h4,h5⟩:=Anv ha;obtain⟨o,g1,g2⟩:=(A3z htr).2 k a0 h1;exact⟨o,a0,by simpa using g1,g2,h2,h3,h4,h5⟩
 have Ov:∀k,(Array.replicate ops.size false).getD k false=decide (k<0):=fun k=>by
  rcases q_jo k ops.size with h|h<;>simp[h]
 exact wp_region_any hm (A2r hX hok Hq hQ l [] 0 0 rfl rfl (Nat.zero_le _) ops.size (Array.replicate ops.size false) E g s a _ (by simp) (q_ko (List.countP_le_length) (by simp)) Ov ⟨hS.wo.drew,hS.gx.drew,hS.hp,hS.len,hS.sl,hS.dfr,hS.z,hS.le,hS.d,hS.hb⟩ h)
def Ww[hB:Nonempty (StB B)](hm:P.follows .mixedOrders=true):∀(c:Code) (ac:AC),trC P c=some ac->∀{QA:AE->St->Prop} {Q:Exit->Act->World->Prop},PX w0 own M0 Df X Q->(∀e E g s a w,SR w0 own M0 B Df E g s a w->QA e s->Q e.ex a w) ->
  ∀(E:Env) (g:Option (GV)) (s:St) (a:Act) (w:World),SR w0 own M0 B Df E g s a w->vc (Eh P X) ac QA s->c.wp P Q a w:=by
 intro c
 induction c with
 |skip=>intro ac tr QA Q hX hQ E g s a w hS h;simp only[trC,q_b] at tr;subst tr;exact wp_skip (hQ .normal E g s a w hS h)
 |ret=>intro ac tr QA Q hX hQ E g s a w hS h;simp only[trC,q_b] at tr;subst tr;exact wp_ret (hQ .ret E g s a w hS h)
 |exit id=>intro ac tr QA Q hX hQ E g s a w hS h;simp only[trC,q_b] at tr;subst tr;exact wp_exit (hQ (.exit id) E g s a w hS h)
 |region id ops draw=>
  intro ac tr QA Q hX hQ E g s a w hS h;simp only[trC,q_c,q_a] at tr;obtain⟨l,hl,tr⟩:=tr;cases draw with
  |true=>
   simp only[if_true] at tr;split at tr;rotate_left
   ·cases tr
   rename_i hok;cases tr;exact A1i hX hm hl rfl hok hQ hS h
  |false=>
   simp only[q_kx,if_false] at tr;cases tr;simp only[vc,q_kx,if_false] at h;refine wp_region ?_;rw[List.range_eq_range',<-Array.length_toList];exact A0f (TT:=[]) (px_k hX) (fun E g s a w hS hk=>hQ .normal E g s a w hS hk) ops.toList l 0 E g s a w hl (fun j o hj=>by simpa using hj) hS (fun p hp=>by cases hp) (fun p hp=>by cases hp) h
 |seq x y ihx ihy=>
  intro ac tr QA Q hX hQ E g s a w hS h;simp only[trC,q_c,q_a,q_d,q_b] at tr;obtain⟨ax,Bb,ay,Ev,rfl⟩:=tr;simp only[vc] at h;refine wp_seq (ihx ax Bb (Q:=Exit.then (y.wp P Q) Q) (fun E u x G' a w=>hX E u x G' a w) (fun e E g s a w hS he=>?_) E g s a w hS h);cases e with
  |normal=>exact ihy ay Ev hX hQ E g s a w hS he
  |exit id=>exact hQ (.exit id) E g s a w hS he
  |ret=>exact hQ .ret E g s a w hS he
 |cond c x y ihx ihy=>
  intro ac tr QA Q hX hQ E g s a w hS h;simp only[trC,q_c,q_a,q_d,q_b] at tr;obtain⟨cx,hcx,ax,Bb,ay,Ev,rfl⟩:=tr;simp only[vc] at h;split at h;rotate_left
  ·exact h.elim
  rename_i t ht;have hv:=hS.x hcx;rw[ht] at hv;exact wp_cond_split (Uu hv) (fun h1=>ihx ax Bb hX hQ E g s a w hS (h.1 h1)) (fun h1=>ihy ay Ev hX hQ E g s a w hS (h.2 h1))
 |block id x ih=>
  intro ac tr QA Q hX hQ E g s a w hS h;simp only[trC,q_c,q_a,q_d,q_b] at tr;obtain⟨ax,Bb,rfl⟩:=tr;simp only[vc] at h;refine wp_block (ih ax Bb (Q:=Exit.inBlock id Q) (fun E u x G' a w=>hX E u x G' a w) (fun e E g s a w hS he=>?_) E g s a w hS h);cases e with
  |normal=>exact hQ .normal E g s a w hS he
  |exit j=>
   simp only[AE.ex,Exit.inBlock];simp only at he;split at he
   ·rename_i hj;rw[if_pos hj];exact hQ .normal E g s a w hS he
   ·rename_i hj;rw[if_neg hj];exact hQ (.exit j) E g s a w hS he
  |ret=>exact hQ .ret E g s a w hS he
 |loop x ih=>
  intro ac tr QA Q hX hQ E g s a w hS h;simp only[trC,q_c,q_a,q_d,q_b] at tr;obtain⟨ax,Bb,rfl⟩:=tr;simp only[vc] at h;obtain⟨n,h⟩:=h;have key:∀n (E:Env) (g:Option (GV)) (s:St) (a:Act) (w:World),SR w0 own M0 B Df E g s a w->Pj (fun Q' s'=>vc (Eh P X) ax Q' s') QA n s->∀(b:Frame) (k:List Item) (cs:List Frame),∃e a' w',Q e a' w'/\Arrives P (lone (b.at a (.code x::.inLoop x::k)) cs w) b k cs e a' w':=by
   intro n
   induction n with
   |zero=>intro E g s a w _ h;simp only[Pj] at h
   |succ n ihn=>
    intro E g s a w hS h b k cs;simp only[Pj] at h;obtain⟨s0,hwk,hb⟩:=h;obtain⟨E0,g0,hS0⟩:=A5q hwk hS;have Sv:=ih ax Bb (Q:=Exit.then (fun a w=>∃E g s,SR w0 own M0 B Df E g s a w/\Pj (fun Q' s'=>vc (Eh P X) ax Q' s') QA n s) Q) (fun E u x G' a w=>hX E u x G' a w) (fun e E g s a w hS he=>by
     cases e with
     |normal=>exact⟨E,g,s,hS,he⟩
     |exit id=>exact hQ (.exit id) E g s a w hS he
     |ret=>exact hQ .ret E g s a w hS he) E0 g0 s0 a w hS0 hb
    obtain⟨e,a₁,w₁,hq,Rf⟩:=Sv b (.inLoop x::k) cs;cases e with
    |normal=>
     obtain⟨E1,g1,s1,hS1,h1⟩:=hq;obtain⟨e₂,a₂,w₂,hq₂,Rf₂⟩:=ihn E1 g1 s1 a₁ w₁ hS1 h1 b k cs;exact⟨e₂,a₂,w₂,hq₂,.of_steps (Steps.trans Rf (.one step_inLoop)) Rf₂⟩
    |exit id=>exact⟨_,a₁,w₁,hq,.pass (x:=.inLoop x) rfl (fun _ _=>.inl (by simp)) Rf⟩
    |goto l=>exact⟨_,a₁,w₁,hq,.pass (x:=.inLoop x) rfl (fun _ _=>.inl (by simp)) Rf⟩
    |ret=>exact⟨_,a₁,w₁,hq,.pass (x:=.inLoop x) rfl (fun _ _=>.inl (by simp)) Rf⟩
    |panic ch=>exact⟨_,a₁,w₁,hq,.pass (x:=.inLoop x) rfl (fun _ _=>.inl (by simp)) Rf⟩
    |outgrown=>exact⟨_,a₁,w₁,hq,.pass (x:=.inLoop x) rfl (fun _ _=>.inl (by simp)) Rf⟩
  intro b k cs;obtain⟨e,a',w',hq,Rf⟩:=key n E g s a w hS h b k cs;exact⟨e,a',w',hq,.of_steps (.one step_loop) Rf⟩
 |_=>intro ac tr;simp[trC] at tr
def Ue(P:Program)(tmps:Array Value):ResultVar->Sem Value
 |.tmp t=>pure (tmps.getD t undef)
 |.cell a t=>do loadVar t (<-asAddr (tmps.getD a undef))
def A0w{hp:List Ob}{ag:Bool}{n:Nat}{x:SV}{v:Value}{e:Eff}{E:Env}(he:Kg hp ag n x=some e)(h:RelV E v x):∃A,v=.pointer (some A):=by
 cases x with
 |ref o g e' c=>
  cases h with
  |rep _ _ hr=>cases hr
  |ref=>exact⟨_,rfl⟩
 |dref z l c=>
  cases h.closed_rep rfl with
  |dref=>exact⟨_,rfl⟩
 |gp i c=>
  cases h.closed_rep rfl with
  |gp=>exact⟨_,rfl⟩
 |_=>simp[Kg] at he
def A2k{f:ResultVar->Sem Value}{w:World}:(List.mapM f []).run P w=.ok [] w:=by simp
def A2j{f:ResultVar->Sem Value}{r:ResultVar}{rs:List ResultVar}{u:Value}{us:List Value}{w:World}(h1:(f r).run P w=.ok u w)(h2:(rs.mapM f).run P w=.ok us w):(List.mapM f (r::rs)).run P w=.ok (u::us) w:=by
 rw[List.mapM_cons];simp[h1,h2]
def Wp[hB:Nonempty (StB B)]{a:Act}{w:World}:∀(rs:List ResultVar) (as:List AR) (p:Prop) (svs:List SV) (hp':List Ob) (E:Env) (s:St),trR P rs=some as->Nb s as=some (p,svs,hp')->p->SR w0 own M0 B Df E g s a w ->
  ∃(vs:List Value) (E':Env),(rs.mapM (Ue P a.tmps)).run P w=.ok vs w/\vs.length=svs.length/\(∀(j:Nat) v x,vs[j]?=some v->svs[j]?=some x->Rep E'.m v x)/\SR w0 own M0 B Df E' g { s with hp:=hp' } a w/\E.m.le E'.m:=by
 intro rs
 induction rs with
 |nil=>
  intro as p svs hp' E s htr hr hp hS;simp only[trR,q_b] at htr;subst htr;simp only[Nb,q_b,Prod.mk.injEq] at hr;obtain⟨_,rfl,rfl⟩:=hr;exact⟨[],E,A2k,rfl,by simp,hS,.refl _⟩
 |cons r rs ih=>
  intro as p svs hp' E s htr hr hp hS;have hhead:∃ar ars,as=ar::ars/\trR P rs=some ars/\(∀p1 v h,Zv s ar=some (p1,v,h)->p1->∃(u:Value) (E1:Env),(Ue P a.tmps r).run P w=.ok u w/\Rep E1.m u v/\SR w0 own M0 B Df E1 g { s with hp:=h } a w/\E.m.le E1.m):=by
   cases r with
   |tmp t=>
    simp only[trR,q_c,q_a,q_d,q_b] at htr;obtain⟨ars,Hm,rfl⟩:=htr;refine⟨_,ars,rfl,Hm,fun p1 v h h1 _=>?_⟩;simp only[Zv] at h1;split at h1;rotate_left
    ·cases h1
    rename_i v' h' hc;cases h1;obtain⟨E1,Cu,st⟩:=o0 (U:=fun _=>True) hS.wo hS.gx (fun o _=>hS.hp o) hc (hS.sl t) (fun _ _=>trivial);exact⟨_,E1,rfl,Cu,hS.closed st,st.ext.m⟩
   |cell t ty=>
    simp only[trR,q_c,q_a] at htr;obtain⟨ag,Gh,htr⟩:=htr;split at htr;rotate_left
    ·cases htr
    rename_i h1;simp only[q_a,q_d,q_b] at htr;obtain⟨ars,Hm,rfl⟩:=htr;refine⟨_,ars,rfl,Hm,fun p1 v h Ny hp1=>?_⟩;simp only[Zv] at Ny;split at Ny;rotate_left
    ·cases Ny
    rename_i e he;split at Ny;rotate_left
    ·cases Ny
    rename_i v' h' hc;cases Ny;obtain⟨u,g1,g2,g3⟩:∃u,(Instr.loadAt ty (a.tmps.getD t undef)).run P w=.ok u w/\RelV E u e.val/\e.hp=s.hp:=by
     have Jn:=hS.sl t;generalize Yv:s.sl.getD t .undef=sx at he Jn;cases hgp:Ka sx with
     |false=>
      have Kp:g.isSome=true->∀i∈Dh sx,i≠0:=fun hs=>by
       obtain⟨G,rfl⟩:=q_ka.1 hs;exact Oe hS.gx.z Jn
      obtain⟨u,k1,k2,k3,_⟩:=Ala (s:=s) (P:=P) (U:=Up g (fun _=>True)) hS.wo (Qs (fun o _=>hS.hp o)) Gh h1 he hp1 Jn hgp (fun i hi=>⟨trivial,fun hs=>Kp hs i hi⟩);exact⟨u,k1,k2,k3⟩
     |true=>
      cases sx with
      |gp i c=>
       simp only[Kg] at he;split at he;rotate_left
       ·cases he
       rename_i G hG;split at he;rotate_left
       ·cases he
       rename_i row Cv;cases he;have:=Ng (U:=fun _=>True) (fun o _=>hS.hp o) trivial hS.wo hG;subst this;obtain⟨u,k1,k2⟩:=Aim hS.gx Gh h1 Cv hp1.1 hp1.2 Jn;exact⟨u,k1,k2,rfl⟩
      |_=>cases hgp
    rw[g3] at hc;obtain⟨E1,Cu,st⟩:=o0 (U:=fun _=>True) hS.wo hS.gx (fun o _=>hS.hp o) hc g2 (fun _ _=>trivial);obtain⟨A,hA⟩:=A0w he (hS.sl t);refine⟨u,E1,?_,Cu,hS.closed st,st.ext.m⟩;rw[hA] at g1;simp only[Ue,hA,asAddr];simpa [Instr.loadAt,Instr.sureAddr] using g1
  obtain⟨ar,ars,rfl,Hm,hh⟩:=hhead;simp only[Nb] at hr;split at hr;rotate_left
  ·cases hr
  rename_i p1 v1 h1 Ny;split at hr;rotate_left
  ·cases hr
  rename_i q vs1 h2 Mx;cases hr;obtain⟨u,E1,k1,k2,k3,k4⟩:=hh p1 v1 h1 Ny hp.1;obtain⟨us,E2,m1,m2,m3,m4,m5⟩:=ih ars q vs1 hp' E1 _ Hm Mx hp.2 k3;refine⟨u::us,E2,A2j k1 m1,by simp[m2],fun j v x hv hx=>?_,m4,k4.trans m5⟩;cases j with
  |zero=>simp at hv hx;subst hv;subst hx;exact k2.mono m5
  |succ j=>exact m3 j v x (by simpa using hv) (by simpa using hx)
def Wn{fn:Func}{tmps:Array Value}{vs:List Value}{w:World}(h:(fn.results.toList.mapM (Ue P tmps)).run P w=.ok vs w):(results fn tmps).run P w=.ok (if h:vs.toArray.size=1 then vs.toArray[0] else .tuple vs.toArray) w:=by
 have h1:results fn tmps=(do
   let vs <-fn.results.mapM (Ue P tmps)
   pure (if h:vs.size=1 then vs[0] else .tuple vs)):=by
  unfold results Ue;rfl
 have h2:(fn.results.mapM (Ue P tmps)).run P w=.ok vs.toArray w:=by
  rw[Array.mapM_eq_mapM_toList];simp[h]
 rw[h1,Sem.run_bind,h2];rfl
def Zl{E:Env}{vs:List Value}{args:List SV}{k:Nat}(Bl:vs.length=args.length)(Cu:∀(j:Nat) v x,vs[j]?=some v->args[j]?=some x->Rep E.m v x)(i:Nat) :
  RelV E ((vs.toArray++Array.replicate (k-vs.toArray.size) undef).getD i undef) ((args++List.replicate (k-args.length) SV.undef).getD i .undef):=by
 rcases q_jo i vs.length with hi|hi
 ·have h1:(vs.toArray++Array.replicate (k-vs.toArray.size) undef).getD i undef=vs[i]:=by
   rw[Array.getD_eq_getD_getElem?,Array.getElem?_append_left (by simpa using hi)];simp[hi]
  have h2:(args++List.replicate (k-args.length) SV.undef).getD i .undef=args[i]'(by omega):=by
   rw[q_j,q_jf (by omega),q_f (by omega)];rfl
  rw[h1,h2];exact .rep _ _ (Cu i _ _ (q_f hi) (q_f (by omega)))
 ·have h1:(vs.toArray++Array.replicate (k-vs.toArray.size) undef).getD i undef=undef:=by
   rw[Array.getD_eq_getD_getElem?,Array.getElem?_append_right (by simpa using hi)];simp only[Array.getElem?_replicate];split<;>rfl
  have h2:(args++List.replicate (k-args.length) SV.undef).getD i .undef=.undef:=by
   rw[q_j,q_jj (by omega),List.getElem?_replicate];split<;>rfl
  rw[h1,h2];exact .undef
def Wj{m:Mem}{svs:List SV}{us:List Value}{r:SV}(hr:r=(match svs with|[v]=>v|vs=>.tup vs))(hl:us.length=svs.length)(h:∀(j:Nat) v x,us[j]?=some v->svs[j]?=some x->Rep m v x) :
  Rep m (if h:us.toArray.size=1 then us.toArray[0] else .tuple us.toArray) r:=by
 subst hr;cases svs with
 |nil=>
  cases us with
  |nil=>exact .tup [] [] rfl (by simp)
  |cons u us=>simp at hl
 |cons x svs=>
  cases us with
  |nil=>simp at hl
  |cons u us=>
   cases svs with
   |nil=>
    cases us with
    |nil=>exact h 0 u x rfl rfl
    |cons t us=>simp at hl
   |cons y svs=>
    cases us with
    |nil=>simp at hl
    |cons t us=>
     have:¬(u::t::us).toArray.size=1:=by simp
     rw[dif_neg this];exact .tup _ _ hl h
def Bt{f:Nat}{fn:Func}{af:AF}{args:List SV}{r:SV}(hm:P.follows .mixedOrders=true)(hf:P.funcs[f]?=some fn)(htr:trF P fn=some af)(h:vcF (Eh P fun _ _=>False) af args r):Contract P f args r:=by
 intro m w vs hmem Bl Cu;unfold trF at htr;split at htr;rotate_left
 ·cases htr
 rename_i c hb;simp only[q_c,q_a,q_d,q_b] at htr;obtain⟨ars,Hm,ac,No,rfl⟩:=htr
 let E0:Env:={ m:=m,m0:=m,H:=fun _=>none,β:=fun _=>0,t:=fun _=>0 }
 have hW:W w (fun _=>False) E0 w:=⟨rfl,rfl,rfl,q_ja _,fun _ _ _=>rfl,hmem.1,fun o ob ho=>(by cases ho),fun o o' ob ob' ho=>(by cases ho),fun _ _ _ _=>rfl,hmem.2.1,hmem.2.2.tb (fun _ _ _ h=>h)⟩
 have hS:SR w (fun _=>False) m (fun _=>False) [] E0 none { sl:=args++List.replicate (fn.ntmps-args.length) .undef,hp:=[] } { tmps:=vs.toArray++Array.replicate (fn.ntmps-vs.toArray.size) undef,defers:=[] } w:=
  ⟨hW,trivial,fun o=>rfl,by simp[Bl],Zl Bl Cu,rfl,rfl,.refl _,fun _=>rfl,fun h=>by cases h⟩
 refine calls_of_wp hf hb ?_;have fin:∀(E:Env) (s:St) (a:Act) (w':World),SR w (fun _=>False) m (fun _=>False) [] E none s a w'->Mf ars r s->a.defers=[]/\∃v,(results fn a.tmps).run P w'=.ok v w'/\∃v' m',Ending.returned v=.returned v'/\Rep m' v' r/\(m.le m'/\m'.d=m.d)/\(∀b j,b<w.heap.size->m' b j=m b j)/\Fk m' w' /\
   w'.os=w.os/\w'.tape=w.tape/\w'.output=w.output/\w.heap.size<=w'.heap.size/\∀k,k<w.heap.size->w'.heap[k]?=w.heap[k]?:=by
  intro E s a w' hS hr;refine⟨hS.dfr,?_⟩;unfold Mf at hr;split at hr;rotate_left
  ·exact hr.elim
  rename_i p svs hp' Kr;obtain⟨hp,Tk⟩:=hr;obtain⟨us,E',k1,k2,k3,k4,k5⟩:=Wp fn.results.toList ars p svs hp' E s Hm Kr hp hS;refine⟨_,Wn k1,_,E'.m,rfl,Wj Tk k2 k3,⟨k4.le,k4.d rfl⟩,fun b j hb=>?_,⟨k4.wo.mem,k4.wo.pl,k4.wo.tab⟩,k4.wo.os,k4.wo.tape,k4.wo.output,k4.wo.size,fun k hk=>k4.wo.block k hk (fun h=>h)⟩;rw[k4.wo.keep b j hb (fun h=>h),k4.z]
 refine Ww (X:=fun _ _=>False) hm c ac No (fun _ _ _ _ _ _ h=>h.elim) (fun e E g s a w' hS he=>?_) E0 none _ _ w hS h;have Dv:g=none:=by
  cases g with
  |none=>rfl
  |some G=>exact (hS.hb rfl).elim
 subst Dv;cases e with
 |normal=>exact fin E s a w' hS he
 |exit id=>exact he.elim
 |ret=>exact fin E s a w' hS he
def Oj(rs:List AR)(r:SV)(G':GV)(s:St):Prop:=
 match Nb s rs with
 |some (p,vs,h)=>p/\r=(match vs with|[v]=>v|vs=>.tup vs)/\gOf h=some G'
 |none=>False
def Anb(C:CT)(f:AF)(G:GV)(args:List SV)(out:HOut)(G':GV):Prop:=
 vc C f.body (fun e s=>match e with|.exit _=>False|_=>match out with|.ret r=>Oj f.res r G' s|.pan _=>False) { sl:=args++List.replicate (f.ntmps-args.length) .undef,hp:=[gOb G] }
def Wo(rs:List AR)(T:HOut->GV->Prop)(s:St):Prop:=
 match Nb s rs with
 |some (p,vs,h)=>p/\(match gOf h with
  |some G'=>T (.ret (match vs with|[v]=>v|vs=>.tup vs)) G'
  |none=>False)
 |none=>False
def A1v{rs:List AR}{r:SV}{G':GV}{s:St}(h:Oj rs r G' s):Wo rs (Afm (.ret r) G') s:=by
 unfold Oj at h;unfold Wo;split at h
 ·rename_i p vs hp hr;obtain⟨h1,h2,h3⟩:=h;subst h2;rw[h3];exact⟨h1,rfl,rfl⟩
 ·exact h.elim
def Aik{m:Mem}{w w':World}{G G':GV}{E:Env}(hsat:GSat m w G)(hW:W w (fun b=>∃i,m.d i=some b) E w')(hg:GI w.heap.size (fun b=>∃i,m.d i=some b) E w' G')(hle:m.le E.m)(hz:E.m0=m):Lo m w E.m w' G':=by
 refine⟨hle,fun b j hb=>?_,⟨hW.mem,hW.pl,hW.tab⟩,hg.sat,fun i b hi=>?_,hW.os,hW.tape,hW.output,hW.size,fun k hk hn=>hW.block k hk (fun ⟨i,hi⟩=>hn i hi)⟩
 ·by_cases ho:∃i,m.d i=some b
  ·obtain⟨i,hi⟩:=ho;rw[hsat.free i b j hi,hg.sat.free i b j (hle.d _ _ hi)]
  ·rw[hW.keep b j hb ho,hz]
 ·rcases hg.new i b hi with h|⟨i',Dk⟩
  ·exact .inr h
  ·have:=hg.sat.inj i i' b hi (hle.d _ _ Dk);subst this;exact .inl Dk
def Snd(P:Program)(V:AC->(AE->St->Prop)->St->Prop)(QA:AE->St->Prop)(X:SV->GV->Prop):Prop:=
 ∀(w0:World) (own:Nat->Prop) (M0:Mem) (c:Code) (ac:AC),trC P c=some ac->∀{Q:Exit->Act->World->Prop},PX w0 own M0 [] X Q->(∀e E g s a w,SR w0 own M0 (fun _=>True) [] E g s a w->QA e s->Q e.ex a w) ->
  ∀(E:Env) (g:Option (GV)) (s:St) (a:Act) (w:World),SR w0 own M0 (fun _=>True) [] E g s a w->V ac QA s->c.wp P Q a w
def Axb{f:Nat}{fn:Func}{af:AF}{G:GV}{args:List SV}{T:HOut->GV->Prop}{V:AC->(AE->St->Prop)->St->Prop}{QA:AE->St->Prop}(hf:P.funcs[f]?=some fn)(htr:trF P fn=some af)
  (hQA:∀e s,QA e s->(∀id,e≠.exit id)/\Wo af.res T s) (snd:Snd P V QA fun x G1=>T (.pan x) G1)
  (h:V af.body QA { sl:=args++List.replicate (af.ntmps-args.length) .undef,hp:=[gOb G] }):HContractQ P f G args T:=by
 intro m w vs hmem hsat Bl Cu;unfold trF at htr;split at htr;rotate_left
 ·cases htr
 rename_i c hb;simp only[q_c,q_a,q_d,q_b] at htr;obtain⟨ars,Hm,ac,No,rfl⟩:=htr
 let own:Nat->Prop:=fun b=>∃i,m.d i=some b
 let E0:Env:={ m:=m,m0:=m,H:=fun _=>none,β:=fun _=>0,t:=fun _=>0 }
 have hW:W w own E0 w:=⟨rfl,rfl,rfl,q_ja _,fun _ _ _=>rfl,hmem.1,fun o ob ho=>(by cases ho),fun o o' ob ob' ho=>(by cases ho),fun _ _ _ _=>rfl,hmem.2.1,hmem.2.2.tb (fun b v hv hi=>by obtain⟨i,hi⟩:=hi;rw[hsat.free i b 0 hi] at hv;cases hv)⟩
 have hS:SR w own m (fun _=>True) [] E0 (some G) { sl:=args++List.replicate (fn.ntmps-args.length) .undef,hp:=[gOb G] } { tmps:=vs.toArray++Array.replicate (fn.ntmps-vs.toArray.size) undef,defers:=[] } w:=by
  refine⟨hW,⟨rfl,hsat,fun i b hi=>.inr ⟨i,hi⟩,fun i b o ob _ ho=>by cases ho⟩,fun o=>?_,by simp[Bl],Zl Bl Cu,rfl,rfl,.refl _,(fun h=>by cases h),fun _=>trivial⟩;cases o with
  |zero=>rfl
  |succ o=>rfl
 refine calls_of_wp hf hb ?_;have fin:∀(E:Env) (g:Option (GV)) (s:St) (a:Act) (w':World),SR w own m (fun _=>True) [] E g s a w'->Wo ars T s->a.defers=[]/\∃v,(results fn a.tmps).run P w'=.ok v w'/\∃out G',T out G'/\∃m',Qt m' (.returned v) out/\Lo m w m' w' G':=by
  intro E g s a w' hS hr;refine⟨hS.dfr,?_⟩;unfold Wo at hr;split at hr;rotate_left
  ·exact hr.elim
  rename_i p svs hp' Kr;obtain⟨hp,hr⟩:=hr;split at hr;rotate_left
  ·exact hr.elim
  rename_i G' hG;obtain⟨us,E',k1,k2,k3,k4,k5⟩:=Wp fn.results.toList ars p svs hp' E s Hm Kr hp hS;have:=Ng (U:=fun _=>True) (s:={ s with hp:=hp' }) (fun o _=>k4.hp o) trivial k4.wo hG;subst this;exact⟨_,Wn k1,_,G',hr,E'.m,⟨_,rfl,Wj rfl k2 k3⟩,Aik hsat k4.wo k4.gx k4.le k4.z⟩
 refine snd w own m c ac No (fun E u x G1 a w' hx Cu hW hg hle hz Vm old Tj=>⟨Vm,_,G1,hx,E.m,⟨u,old,Tj,rfl,Cu⟩,Aik hsat hW hg hle hz⟩) (fun e E g s a w' hS he=>?_) E0 (some G) _ _ w hS h;obtain⟨h1,h2⟩:=hQA e s he;cases e with
 |exit id=>exact absurd rfl (h1 id)
 |_=>exact fin E g s a w' hS h2
def Ah7(rs:List AR)(out:HOut)(G':GV):AE->St->Prop:=fun e s=>match e with|.exit _=>False|_=>match out with|.ret r=>Oj rs r G' s|.pan _=>False
def Awf{f:Nat}{fn:Func}{af:AF}{G G':GV}{args:List SV}{out:HOut}{V:AC->(AE->St->Prop)->St->Prop}(hf:P.funcs[f]?=some fn)(htr:trF P fn=some af)
  (snd:Snd P V (Ah7 af.res out G') fun x G1=>out=.pan x/\G1=G')
  (h:V af.body (Ah7 af.res out G') { sl:=args++List.replicate (af.ntmps-args.length) .undef,hp:=[gOb G] }):HContract P f G args out G':=by
 refine (Axb (T:=Afm out G') hf htr (fun e s he=>?_) (fun w0 own M0 c ac ht _ hX hQ=>snd w0 own M0 c ac ht (fun E u x G1 a w hx=>hX E u x G1 a w ⟨hx.1.symm,hx.2⟩) hQ) h).one (fun _ _ h=>h);cases e with
 |exit id=>exact he.elim
 |_=>cases out with
  |pan x=>exact he.elim
  |ret r=>exact⟨fun _ h=>(by cases h),A1v he⟩
def Cl{f:Nat}{fn:Func}{af:AF}{G G':GV}{args:List SV}{out:HOut}(hm:P.follows .mixedOrders=true)(hf:P.funcs[f]?=some fn)(htr:trF P fn=some af)
  (h:Anb (Eh P fun x G1=>out=.pan x/\G1=G') af G args out G'):HContract P f G args out G':=
 Awf hf htr (fun _ _ _ c ac ht _ hX hQ=>Ww hm c ac ht hX hQ) h
end
def Na(w:World):Mem:=⟨fun b j=>w.cell? ⟨b,j,none⟩,fun _=>none,fun _=>False,fun _ _ _ h=>by cases h⟩
inductive Gf(P:Program):TypeId->List SV->Prop
 |bool (t:TypeId) (b:Bool):P.underlying t=some .bool->Gf P t [.bool b]
 |int (t:TypeId) (k:IntKind) (n:Int):P.underlying t=some (.int k)->(Lit.int k n).wf=true->Gf P t [.int k n]
 |float (t:TypeId) (k:FloatKind) (b:Nat):P.underlying t=some (.float k)->(Lit.float k b).wf=true->Gf P t [.float k b]
 |str (t:TypeId) (s:ByteArray):P.underlying t=some .string->s.size<=reachBytes->Gf P t [.str s]
 |slice (t e:TypeId) (l:GV):P.underlying t=some (.slice e)->l.length*P.bytesOf e<=reachBytes->(∀r∈l,Gf P e r)->Gf P t [.dsl (P.cellsOf e) l]
 |struct (t:TypeId) (fs:Array Field) (parts:GV):P.underlying t=some (.struct fs)->parts.length=fs.toList.length->(∀(i:Nat) (f:Field) (p:List SV),fs.toList[i]?=some f->parts[i]?=some p->Gf P f.type p)->Gf P t parts.flatten
def Pe(P:Program):List Field->Nat->Nat->Bool
 |[],o,n=>o==n
 |f::fs,o,n=>f.offset==o && Pe P fs (o+P.cellsOf f.type) n
def Vd(P:Program)(S:List TypeId):Bool:=
 S.all fun t=>match P.underlying t with
  |some .bool=>true
  |some (.int _)=>true
  |some (.float _)=>true
  |some .string=>true
  |some (.slice e)=>S.contains e && decide (0<P.cellsOf e) && decide (0<P.bytesOf e)
  |some (.struct fs)=>(fs.toList.all fun f=>S.contains f.type) && Pe P fs.toList 0 (P.cellsOf t)
  |_=>false
def Ag4{X:Type}{p:Nat->X->Prop}:∀{n:Nat},(∀i,i<n->∃x,p i x)->∃l:List X,l.length=n/\∀(i:Nat) x,l[i]?=some x->p i x:=by
 intro n
 induction n with
 |zero=>intro _;exact⟨[],rfl,by simp⟩
 |succ n ih=>
  intro h;obtain⟨l,h1,h2⟩:=ih (fun i hi=>h i (Nat.lt_succ_of_lt hi));obtain⟨x,hx⟩:=h n (Nat.lt_succ_self n);refine⟨l++[x],by simp[h1],fun i y hy=>?_⟩;rcases q_jo i l.length with hi|hi
  ·rw[q_jf hi] at hy;exact h2 i y hy
  ·rw[q_jj hi] at hy;have:i=n:=by
    rcases q_jo (i-l.length) 1 with h|h
    ·omega
    ·rw[q_jd (by simpa using h)] at hy;cases hy
   subst this;have:i-l.length=0:=by omega
   rw[this] at hy;simp at hy;subst hy;exact hx
def Afd{α β:Type}{f:α->Option β}:∀{l:List α} {l':List β},l.mapM f=some l'->l'.length=l.length/\∀(i:Nat) (a:α),l[i]?=some a->∃b,l'[i]?=some b/\f a=some b:=by
 intro l
 induction l with
 |nil=>intro l' h;simp at h;subst h;simp
 |cons a l ih=>
  intro l' h;rw[List.mapM_cons] at h;simp only[q_c,q_a,q_d,q_b] at h;obtain⟨b,hb,r,hr,rfl⟩:=h;obtain⟨h1,h2⟩:=ih hr;refine⟨by simp[h1],fun i x hx=>?_⟩;cases i with
  |zero=>simp at hx;subst hx;exact⟨b,by simp,hb⟩
  |succ i=>obtain⟨y,g1,g2⟩:=h2 i x (by simpa using hx);exact⟨y,by simpa using g1,g2⟩
def Acj{w:World}{base:Nat}{a:Addr}{n:Nat}{cs:List Value}(h:w.cells? base a n=some cs):cs.length=n/\∀i,i<n->∃v,cs[i]?=some v/\w.cell? (a.add i)=some v:=by
 unfold World.cells? at h;split at h
 ·obtain⟨h1,h2⟩:=Afd h;refine⟨by simpa using h1,fun i hi=>?_⟩;exact h2 i i (by simp[hi])
 ·cases h
def A3y{P:Program}{cs:List Value}:∀{fs:List Field} {o:Nat} {parts:GV},Pe P fs o cs.length=true->parts.length=fs.length ->
  (∀(i:Nat) (f:Field) (p:List SV),fs[i]?=some f->parts[i]?=some p->p.length=P.cellsOf f.type)->parts.flatten.length=cs.length-o/\o<=cs.length /\
  ∀(R:Value->SV->Prop),(∀(i:Nat) (f:Field) (p:List SV),fs[i]?=some f->parts[i]?=some p->∀(j:Nat) v x,((cs.drop f.offset).take (P.cellsOf f.type))[j]?=some v->p[j]?=some x->R v x) ->
   ∀(j:Nat) v x,(cs.drop o)[j]?=some v->parts.flatten[j]?=some x->R v x:=by
 intro fs
 induction fs with
 |nil=>
  intro o parts ht hl _;simp only[Pe,beq_iff_eq] at ht;have:parts=[]:=q_ky.1 (by simpa using hl);subst this;exact⟨by simp[ht],by omega,fun R _ j v x _ hx=>by simp at hx⟩
 |cons f fs ih=>
  intro o parts ht hl Bl;simp only[Pe,q_jl,beq_iff_eq] at ht;obtain⟨ho,ht⟩:=ht;cases parts with
  |nil=>simp at hl
  |cons p parts=>
   obtain⟨h1,h2,h3⟩:=ih ht (by simpa using hl) (fun i g q hg hq=>Bl (i+1) g q (by simpa using hg) (by simpa using hq));have hp:=Bl 0 f p rfl rfl;refine⟨by simp only[List.flatten_cons,q_jr];omega,by omega,fun R hR j v x hv hx=>?_⟩;rw[List.flatten_cons] at hx;rcases q_jo j p.length with hj|hj
   ·rw[q_jf hj] at hx;refine hR 0 f p rfl rfl j v x ?_ hx;rw[q_jx,if_pos (by omega),ho];exact hv
   ·rw[q_jj hj] at hx;refine h3 R (fun i g q hg hq=>hR (i+1) g q (by simpa using hg) (by simpa using hq)) (j-p.length) v x ?_ hx;rw[q_kk] at hv |-;rw[show o+P.cellsOf f.type+(j-p.length)=o+j by omega];exact hv
section
variable{H:Type}{enc:TypeId×Value->H}{P:Program}{w:World}{base:Nat}{sp:Nat->Bool}{Rn:Bool}
def A5n{e:TypeId}{n:Nat}{d:DataW H}:∀{ds:List (DataW H)},d∈ds->n∈d.weights P e->n∈DataW.weightsAll P e ds:=by
 intro ds
 induction ds with
 |nil=>intro h;cases h
 |cons x ds ih=>
  intro h hn;simp only[DataW.weightsAll,q_ke];rcases q_kb.1 h with rfl|h
  ·exact .inl hn
  ·exact .inr (ih h hn)
def A4g{S:List TypeId}(hS:Vd P S=true):∀(fuel:Nat) (t:TypeId) (cs:List Value) (x:DataW H×List MemPlace),t∈S->(∀n∈x.1.weights P t,n<=reachBytes)->DataW.trod enc P w base sp Rn fuel t cs=some x ->
  ∃svs,Gf P t svs/\svs.length=cs.length/\(∀v∈cs,v.oneCell'=true)/\∀(j:Nat) v y,cs[j]?=some v->svs[j]?=some y->Rep (Na w) v y:=by
 intro fuel
 induction fuel with
 |zero=>intro t cs x _ _ h;simp[DataW.trod] at h
 |succ fuel ih=>
  intro t cs x ht Ku h;have hT:=hS;simp only[Vd,List.all_eq_true] at hT;have hT:=hT t ht;have one:∀(v:Value) (y:SV),cs=[v]->v.oneCell'=true->Gf P t [y]->Rep (Na w) v y->∃svs,Gf P t svs/\svs.length=cs.length/\(∀v∈cs,v.oneCell'=true)/\∀(j:Nat) v y,cs[j]?=some v->svs[j]?=some y->Rep (Na w) v y:=by
   intro v y hc ho Tr hr;subst hc;refine⟨[y],Tr,rfl,fun u hu=>by simp at hu;subst hu;exact ho,fun j u z hu hz=>?_⟩;cases j with
   |zero=>simp at hu hz;subst hu;subst hz;exact hr
   |succ j=>simp at hu
  have single:(∀d,P.underlying t=some d->(d=.bool\/(∃k,d=.int k)\/(∃k,d=.float k)\/d=.string))->∃v,cs=[v]:=by
   intro hd;cases cs with
   |nil=>
    cases hu:P.underlying t with
    |none=>simp[DataW.trod,hu] at h
    |some d=>rcases hd d hu with rfl|⟨k,rfl⟩|⟨k,rfl⟩|rfl<;>simp[DataW.trod,hu] at h
   |cons v r=>
    cases r with
    |nil=>exact⟨v,rfl⟩
    |cons u r=>
     exfalso;cases hu:P.underlying t with
     |none=>simp[DataW.trod,hu] at h
     |some d=>rcases hd d hu with rfl|⟨k,rfl⟩|⟨k,rfl⟩|rfl<;>cases v<;>simp[DataW.trod,hu] at h
  split at hT
  ·rename_i hu;obtain⟨v,rfl⟩:=single (fun d hd=>by rw[hu] at hd;cases hd;exact .inl rfl);cases v<;>simp[DataW.trod,hu] at h;rename_i b;exact one _ _ rfl rfl (.bool t b hu) (.bool b)
  ·rename_i k hu;obtain⟨v,rfl⟩:=single (fun d hd=>by rw[hu] at hd;cases hd;exact .inr (.inl ⟨k,rfl⟩));cases v<;>simp[DataW.trod,hu] at h;rename_i k' n;obtain⟨⟨rfl,hw⟩,_⟩:=h;exact one _ _ rfl rfl (.int t k' n hu hw) (.int k' n)
  ·rename_i k hu;obtain⟨v,rfl⟩:=single (fun d hd=>by rw[hu] at hd;cases hd;exact .inr (.inr (.inl ⟨k,rfl⟩)));cases v<;>simp[DataW.trod,hu] at h;rename_i k' n;obtain⟨⟨rfl,hw⟩,_⟩:=h;exact one _ _ rfl rfl (.float t k' n hu hw) (.float k' n)
  ·rename_i hu;obtain⟨v,rfl⟩:=single (fun d hd=>by rw[hu] at hd;cases hd;exact .inr (.inr (.inr rfl)));cases v<;>simp[DataW.trod,hu] at h;rename_i b;refine one _ _ rfl rfl (.str t b hu ?_) (.str b);have:=Ku b.data.toList.length (by rw[<-h.2];simp[DataW.weights]);simpa using this
  ·rename_i e hu;simp only[q_jl,List.contains_eq_mem,q_jt] at hT;obtain⟨⟨heS,Dw⟩,hbpos⟩:=hT;have Jn:∃A len cap,cs=[.slice A len cap]:=by
    cases cs with
    |nil=>simp[DataW.trod,hu] at h
    |cons v r=>
     cases r with
     |nil=>
      cases v with
      |slice A len cap=>exact⟨A,len,cap,rfl⟩
      |_=>simp[DataW.trod,hu] at h
     |cons u r=>cases v<;>simp[DataW.trod,hu] at h
   obtain⟨A,len,cap,rfl⟩:=Jn;cases A with
   |none=>
    have hz:len=0/\cap=0:=by
     cases len<;>cases cap<;>simp[DataW.trod,hu] at h |-
    obtain⟨rfl,rfl⟩:=hz;exact one _ _ rfl rfl (.slice t e [] hu (by simp) (by simp)) (.dsl0 _ _ _)
   |some a=>
    simp only[DataW.trod,hu] at h;split at h;rotate_left
    ·cases h
    rename_i hcond;obtain⟨hba,In,Rj⟩:=hcond;simp only[q_a] at h;obtain⟨elems,Mq,h⟩:=h;simp only[q_e] at h;obtain⟨rest,Vx,rfl⟩:=h;simp only[DataW.weights,hu] at Ku;obtain⟨hl1,hl2⟩:=Afd Mq;have Cf:len*P.bytesOf e<=reachBytes:=by
     have:=Ku _ List.mem_cons_self;simp only[q_g,hl1,List.length_range] at this;exact q_ko (q_jy _ (Nat.le_add_right _ _)) this
    have hlen47:len<=140737488355328:=by
     have h1:len*1<=len*P.bytesOf e:=Nat.mul_le_mul_left _ hbpos;have h2:reachBytes<=140737488355328:=by decide
     omega
    have Cv:∀i,i<len->∃q:List Value×List SV,w.cells? base (a.add (i*P.cellsOf e)) (P.cellsOf e)=some q.1/\Gf P e q.2/\q.2.length=q.1.length/\(∀v∈q.1,v.oneCell'=true)/\∀(j:Nat) v y,q.1[j]?=some v->q.2[j]?=some y->Rep (Na w) v y:=by
     intro i hi;obtain⟨b,hbm,hb⟩:=hl2 i i (by simp[hi]);simp only[q_a] at hb;obtain⟨cs1,Iz,Ij⟩:=hb;obtain⟨svs,g1,g2,g3,g4⟩:=ih e cs1 b heS (fun n hn=>Ku n (List.mem_cons_of_mem _ (List.mem_append_left _ (A5n (q_kz.2 ⟨b,q_jb hbm,rfl⟩) hn)))) Ij;exact⟨(cs1,svs),Iz,g1,g2,g3,g4⟩
    obtain⟨qs,Kq,hq2⟩:=Ag4 Cv;have Tr:∀r∈qs.map (·.2),Gf P e r:=by
     intro r hr;obtain⟨q,hq,rfl⟩:=q_kz.1 hr;obtain⟨i,hi⟩:=q_jw hq;exact (hq2 i q hi).2.1
    have Bl:∀q∈qs,q.1.length=P.cellsOf e:=by
     intro q hq;obtain⟨i,hi⟩:=q_jw hq;exact (Acj (hq2 i q hi).1).1
    have Ft:∀r∈qs.map (·.2),r.length=P.cellsOf e:=by
     intro r hr;obtain⟨q,hq,rfl⟩:=q_kz.1 hr;obtain⟨i,hi⟩:=q_jw hq;rw[(hq2 i q hi).2.2.1,Bl q hq]
    have Akl:∀r∈qs.map (·.1),r.length=P.cellsOf e:=by
     intro r hr;obtain⟨q,hq,rfl⟩:=q_kz.1 hr;exact Bl q hq
    refine one _ _ rfl rfl (.slice t e (qs.map (·.2)) hu (by simpa [Kq] using Cf) Tr) ?_;rcases Nat.eq_zero_or_pos len with h0|h0
    ·have:qs=[]:=q_ky.1 (by omega);subst this;subst h0;exact .dsl0 _ _ _
    ·have Akd:a=⟨a.block,a.off,none⟩:=by
      obtain⟨q,hq⟩:∃q,qs[0]?=some q:=⟨qs[0]'(by omega),q_f (by omega)⟩
      obtain⟨v,_,hv⟩:=(Acj (hq2 0 q hq).1).2 0 Dw;have Cw:w.cell? a=some v:=by simpa [Addr.add] using hv
      unfold World.cell? at Cw;obtain⟨b,o,spt⟩:=a;cases spt with
      |none=>rfl
      |some x=>
       simp only at Cw;split at Cw<;>simp at Cw
     have Hp:=Iu Ft;have hvfl:=Iu Akl;have Aac:∀j v,(qs.map (·.1)).flatten[j]?=some v->∃q,qs[j / P.cellsOf e]?=some q/\j % P.cellsOf e<P.cellsOf e/\q.1[j % P.cellsOf e]?=some v:=by
      intro j v hv;have hm:=Nat.mod_lt j Dw;have Yf:j / P.cellsOf e*P.cellsOf e+j % P.cellsOf e=j:=Nat.div_add_mod' j _;rw[<-Yf,Pr Akl _ _ hm] at hv;simp only[q_ji,q_a,q_e] at hv;obtain⟨r,⟨q,hq,rfl⟩,hv⟩:=hv;exact⟨q,hq,hm,hv⟩
     rw[Akd];have hR:=Rep.dsl (m:=Na w) (P.cellsOf e) (qs.map (·.2)) cap a.block a.off (qs.map (·.1)).flatten (fun v hv=>by
       obtain⟨r,hr,hvr⟩:=List.mem_flatten.1 hv;obtain⟨q,hq,rfl⟩:=q_kz.1 hr;obtain⟨i,hi⟩:=q_jw hq;exact (hq2 i q hi).2.2.2.1 v hvr) (by simp[Kq,In]) (by simp[Kq];exact hlen47) Ft (by rw[hvfl,Hp];simp) (fun j v hv=>by
       obtain⟨q,hq,hm,Cw⟩:=Aac j v hv;obtain⟨u,hu1,hu2⟩:=(Acj (hq2 _ q hq).1).2 _ hm;rw[Cw] at hu1;cases hu1;have Yf:j / P.cellsOf e*P.cellsOf e+j % P.cellsOf e=j:=Nat.div_add_mod' j _;rw[Akd,Mk,Mk] at hu2;show w.cell? ⟨a.block,a.off+j,none⟩=some v;rw[<-Yf,<-q_ks];exact hu2) (fun j v y hv hy=>by
       obtain⟨q,hq,hm,Cw⟩:=Aac j v hv;have Yf:j / P.cellsOf e*P.cellsOf e+j % P.cellsOf e=j:=Nat.div_add_mod' j _;rw[<-Yf,Pr Ft _ _ hm] at hy;simp only[q_ji,hq,q_jh,Option.bind_some] at hy;exact (hq2 _ q hq).2.2.2.2 _ v y Cw hy)
     simpa [Kq] using hR
  ·rename_i fs hu;simp only[q_jl,List.all_eq_true,List.contains_eq_mem,q_jt] at hT;obtain⟨Dz,htl⟩:=hT;have h2:cs.length=P.cellsOf t/\∃xs,(fs.toList.mapM fun f=>DataW.trod enc P w base sp Rn fuel f.type ((cs.drop f.offset).take (P.cellsOf f.type)))=some xs/\x.1=.agg (xs.map (·.1)):=by
    have h':(if cs.length=P.cellsOf t then (fs.toList.mapM fun f=>DataW.trod enc P w base sp Rn fuel f.type ((cs.drop f.offset).take (P.cellsOf f.type))).map fun xs=>(DataW.agg (xs.map (·.1)),xs.flatMap (·.2)) else none)=some x:=by
     rw[<-h];simp only[DataW.trod,hu]
    split at h'
    ·rename_i hl;simp only[q_e] at h';obtain⟨xs,Ic,rfl⟩:=h';exact⟨hl,xs,Ic,rfl⟩
    ·cases h'
   obtain⟨hcl,xs,Ic,Qi⟩:=h2;rw[Qi] at Ku;simp only[DataW.weights,hu] at Ku;obtain⟨hl1,hl2⟩:=Afd Ic;have hparts:∀i,i<fs.toList.length->∃p:List SV,∀f,fs.toList[i]?=some f->Gf P f.type p/\p.length=((cs.drop f.offset).take (P.cellsOf f.type)).length/\(∀v∈(cs.drop f.offset).take (P.cellsOf f.type),v.oneCell'=true) /\
     ∀(j:Nat) v y,((cs.drop f.offset).take (P.cellsOf f.type))[j]?=some v->p[j]?=some y->Rep (Na w) v y:=by
    intro i hi;have hf:fs.toList[i]?=some fs.toList[i]:=q_f hi;obtain⟨b,hbm,hb⟩:=hl2 i _ hf;obtain⟨svs,g1,g2,g3,g4⟩:=ih _ _ b (Dz _ (q_kd hi)) (fun n hn=>Ku n (DataW.weights_mem_each (j:=i) (t:=fs.toList[i].type) (d:=b.1) (by simp only[q_ji,hf,q_jh]) (by rw[q_ji,hbm];rfl) n hn)) hb;refine⟨svs,fun f hf'=>?_⟩;rw[hf] at hf';cases hf';exact⟨g1,g2,g3,g4⟩
   obtain⟨parts,hp1,Nw⟩:=Ag4 hparts;have fitl:∀{fs:List Field} {o n:Nat},Pe P fs o n=true->∀(i:Nat) f,fs[i]?=some f->f.offset+P.cellsOf f.type<=n:=by
    intro fs
    induction fs with
    |nil=>intro o n _ i f hf;simp at hf
    |cons g fs ih2=>
     intro o n ht i f hf;simp only[Pe,q_jl,beq_iff_eq] at ht;have lo:∀{fs:List Field} {o n:Nat},Pe P fs o n=true->o<=n:=by
      intro fs
      induction fs with
      |nil=>intro o n h;simp only[Pe,beq_iff_eq] at h;omega
      |cons g fs ih3=>intro o n h;simp only[Pe,q_jl] at h;have:=ih3 h.2;omega
     cases i with
     |zero=>simp at hf;subst hf;have:=lo ht.2;omega
     |succ i=>exact ih2 ht.2 i f (by simpa using hf)
   have hplen:∀(i:Nat) (f:Field) (p:List SV),fs.toList[i]?=some f->parts[i]?=some p->p.length=P.cellsOf f.type:=by
    intro i f p hf hp;rw[(Nw i p hp f hf).2.1];have:=fitl htl i f hf;simp;omega
   obtain⟨f1,f2,f3⟩:=A3y (P:=P) (cs:=cs) (fs:=fs.toList) (o:=0) (parts:=parts) (by rw[hcl];exact htl) (by rw[hp1]) hplen;refine⟨parts.flatten,.struct t fs parts hu (by rw[hp1]) (fun i f p hf hp=>(Nw i p hp f hf).1),by rw[f1];rfl,?_,fun j v y hv hy=>?_⟩
   ·intro v hv;obtain⟨j,hj⟩:=q_jw hv;have Rp:j<cs.length:=by
     rcases q_jo j cs.length with h|h
     ·exact h
     ·rw[q_jd h] at hj;cases hj
    exact f3 (fun v _=>v.oneCell'=true) (fun i f p hf hp k v x hv _=>(Nw i p hp f hf).2.2.1 v (q_jb hv)) j v _ hj (q_f (show j<parts.flatten.length by omega))
   ·exact f3 (Rep (Na w)) (fun i f p hf hp=>(Nw i p hp f hf).2.2.2) j v y hv hy
  ·cases hT
end
inductive Sh(P:Program)(t:TypeId):SV->Prop
 |agg (svs:List SV):Hb P t=some true->Gf P t svs->Sh P t (.agg true svs)
 |one (x:SV):Hb P t=some false->Gf P t [x]->Sh P t x
def Si(P:Program):List TypeId->List SV->Prop
 |[],[]=>True
 |t::ts,x::xs=>Sh P t x/\Si P ts xs
 |_,_=>False
section
variable{H:Type}{enc:TypeId×Value->H}{P:Program}{w:World}{base:Nat}{sp:Nat->Bool}{Rn:Bool}
def An5{S:List TypeId}(hS:Vd P S=true){b0:Nat}{t:TypeId}{v:Value}{d:DataW H}{ps:List MemPlace}(ht:t∈S)(Fu:Value.okWide P w .any b0 t v)(Ku:∀n∈d.weights P t,n<=reachBytes)
  (h:DataW.Trod enc P w base sp Rn t v d ps):∃x,Sh P t x/\Rep (Na w) v x:=by
 obtain⟨fuel,h⟩:=h;obtain⟨svs,g1,g2,g3,g4⟩:=A4g hS fuel t v.cells.toList (d,ps) ht Ku h;have hT:=hS;simp only[Vd,List.all_eq_true] at hT;have hT:=hT t ht;have one:Hb P t=some false->v.oneCell'=true->∃x,Sh P t x/\Rep (Na w) v x:=by
  intro ha ho;have hc:v.cells=#[v]:=by cases v<;>first|rfl|(simp[Value.oneCell'] at ho)
  rw[hc] at g2 g4
  match svs,g2 with
  |[x],_=>exact⟨x,.one x ha g1,g4 0 v x rfl rfl⟩
 split at hT
 ·rename_i hu;exact one (by simp[Hb,hu]) (by
   simp only[Value.okWide,hu,Cell.okWide] at Fu;cases v<;>simp_all[Cell.ok,Value.oneCell'])
 ·rename_i k hu;exact one (by simp[Hb,hu]) (by
   simp only[Value.okWide,hu,Cell.okWide] at Fu;cases v<;>simp_all[Cell.ok,Value.oneCell'])
 ·rename_i k hu;exact one (by simp[Hb,hu]) (by
   simp only[Value.okWide,hu,Cell.okWide] at Fu;cases v<;>simp_all[Cell.ok,Value.oneCell'])
 ·rename_i hu;exact one (by simp[Hb,hu]) (by
   simp only[Value.okWide,hu,Cell.okWide] at Fu;cases v<;>simp_all[Cell.ok,Value.oneCell'])
 ·rename_i e hu;exact one (by simp[Hb,hu]) (by
   simp only[Value.okWide,hu,Cell.okWide] at Fu;cases v<;>simp_all[Cell.ok,Value.oneCell'])
 ·rename_i fs hu;simp only[Value.okWide,hu] at Fu;obtain⟨cs,rfl,_,_⟩:=Fu;refine⟨.agg true svs,.agg svs (by simp[Hb,hu]) g1,?_⟩;have:=Rep.agg (m:=Na w) cs.toList svs g3 (by rw[g2];rfl) g4;simpa using this
 ·cases hT
def An7{S:List TypeId}(hS:Vd P S=true){b0:Nat}:∀{ts:List TypeId} {vs:List Value} {ds:List (DataW H)} {ps:List MemPlace},(∀t∈ts,t∈S)->(∀(j:Nat) t v,ts[j]?=some t->vs[j]?=some v->Value.okWide P w .any b0 t v) ->
  (∀n∈DataW.weightsEach P ts ds,n<=reachBytes)->DataW.TrodAll enc P w base sp Rn ts vs ds ps->∃xs,Si P ts xs/\xs.length=vs.length/\∀(j:Nat) v x,vs[j]?=some v->xs[j]?=some x->Rep (Na w) v x:=by
 intro ts
 induction ts with
 |nil=>
  intro vs ds ps _ _ _ h;cases vs with
  |nil=>exact⟨[],trivial,rfl,by simp⟩
  |cons v vs=>cases ds<;>exact h.elim
 |cons t ts ih=>
  intro vs ds ps w9 Fu Ku h;cases vs with
  |nil=>cases ds<;>exact h.elim
  |cons v vs=>
   cases ds with
   |nil=>exact h.elim
   |cons d ds=>
    obtain⟨p,q,h1,h2,rfl⟩:=h;simp only[DataW.weightsEach,q_ke] at Ku;obtain⟨x,a1,a2⟩:=An5 hS (w9 t List.mem_cons_self) (Fu 0 t v rfl rfl) (fun n hn=>Ku n (.inl hn)) h1;obtain⟨xs,b1,b2,b3⟩:=ih (fun u hu=>w9 u (List.mem_cons_of_mem _ hu)) (fun j u z hu hz=>Fu (j+1) u z (by simpa using hu) (by simpa using hz)) (fun n hn=>Ku n (.inr hn)) h2;refine⟨x::xs,⟨a1,b1⟩,by simp[b2],fun j u z hu hz=>?_⟩;cases j with
    |zero=>simp at hu hz;subst hu;subst hz;exact a2
    |succ j=>exact b3 j u z (by simpa using hu) (by simpa using hz)
def A4f(hl:laidOutB P=true){W W':World}(hb:Below W.heap.size W W'):∀{ts:List TypeId} {vs:List Value} {ds:List (DataW H)} {ps:List MemPlace},(∀t∈ts,P.readableRec t=true/\t<P.types.size) ->
  (∀x∈ps,x.block<W.heap.size)->DataW.TrodAll enc P W 0 (fun _=>true) true ts vs ds ps->DataW.TrodAll enc P W' 0 (fun b=>decide (b<W.heap.size)) true ts vs ds ps:=by
 intro ts
 induction ts with
 |nil=>
  intro vs ds ps _ _ h;cases vs with
  |nil=>cases ds with
   |nil=>exact h
   |cons d ds=>exact h.elim
  |cons v vs=>cases ds<;>exact h.elim
 |cons t ts ih=>
  intro vs ds ps hr Aq h;cases vs with
  |nil=>cases ds<;>exact h.elim
  |cons v vs=>
   cases ds with
   |nil=>exact h.elim
   |cons d ds=>
    obtain⟨p,q,h1,h2,rfl⟩:=h;exact⟨p,q,Below.trod hl (hr t List.mem_cons_self).1 (hr t List.mem_cons_self).2 h1 hb (fun x hx=>Aq x (List.mem_append_left _ hx)),ih (fun u hu=>hr u (List.mem_cons_of_mem _ hu)) (fun x hx=>Aq x (List.mem_append_right _ hx)) h2,rfl⟩
end
def A5o{H:Type}{P:Program}{n:Nat}{us:List TypeId}{es:List (DataW H)}:∀{ts:List TypeId} {ds:List (DataW H)},n∈DataW.weightsEach P ts ds->n∈DataW.weightsEach P (ts++us) (ds++es):=by
 intro ts
 induction ts with
 |nil=>intro ds h;simp[DataW.weightsEach] at h
 |cons t ts ih=>
  intro ds h;cases ds with
  |nil=>simp[DataW.weightsEach] at h
  |cons d ds=>
   simp only[q_kn,DataW.weightsEach,q_ke] at h |-;rcases h with h|h
   ·exact .inl h
   ·exact .inr (ih h)
end Go.Proofs.YtgfehkhcmnfpaaaGreatDoor.Abs
