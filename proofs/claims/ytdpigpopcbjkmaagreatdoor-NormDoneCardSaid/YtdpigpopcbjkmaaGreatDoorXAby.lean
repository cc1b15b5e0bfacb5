import Derived.Test.YtdpigpopcbjkmaaGreatDoorXAbx
import Derived.Carry
import Derived.SizedLaws
import Derived.ChangeCalls
set_option linter.unusedSimpArgs false
set_option linter.unusedVariables false
set_option maxRecDepth 20000
set_option maxHeartbeats 4000000
namespace Go.Proofs.YtdpigpopcbjkmaaGreatDoor.Abs
open Go Go.RowKit
def Im(k:K3):Value:=.agg #[.int .i64 k.1,.int .i64 k.2.1,.int .i64 k.2.2]
inductive GRow(m:Mem)(w:World)(b:Nat):List SV->Prop
 |cells (row:List SV) (c:Array Value) (e:TypeId):w.heap[b]?=some (.cells c e (0,0))->row.length<=c.size->(∀(k:Nat) (v:Value) (x:SV),c[k]?=some v->row[k]?=some x->Rep m v x/\v.oneCell'=true)->(∀(k:Nat) (v:Value),c[k]?=some v->v.oneCell'=true)->GRow m w b row
 |map (es:Array MapEntry) (k:Nat) (l:List (K3×SV)):w.heap[b]?=some (.map es k)->es.size=l.length->(∀(j:Nat) e p,es[j]?=some e->l[j]?=some p->e.key=Im p.1/\Rep m e.val p.2)->(∀p∈l,ok3 p.1)->(l.map (·.1)).Nodup->GRow m w b (Hg l)
structure GSat(m:Mem)(w:World)(G:GV):Prop where
 dom:∀i,i<G.length↔∃b,m.d i=some b
 inj:∀i j b,m.d i=some b->m.d j=some b->i=j
 row:∀i r b,G[i]?=some r->m.d i=some b->GRow m w b r
 free:∀i b j,m.d i=some b->m b j=none
theorem GRow.mono{m m':Mem}{w w':World}{b:Nat}{row:List SV}(h:GRow m w b row)(hm:m.le m')(hw:w'.heap[b]?=w.heap[b]?):GRow m' w' b row:=by
 cases h with
 |cells _ c e h1 h2 h3 h4=>exact .cells _ c e (hw.trans h1) h2 (fun k v x hv hx=>⟨(h3 k v x hv hx).1.mono hm,(h3 k v x hv hx).2⟩) h4
 |map es k l h h1 h2 h3 h4=>exact .map es k l (hw.trans h) h1 (fun j e p he hp=>⟨(h2 j e p he hp).1,(h2 j e p he hp).2.mono hm⟩) h3 h4
theorem GRow.lt{m:Mem}{w:World}{b:Nat}{row:List SV}(h:GRow m w b row):b<w.heap.size:=by
 have key:∀o,w.heap[b]?=some o->b<w.heap.size:=fun o ho=>(Array.getElem?_eq_some_iff.1 ho).1
 cases h with
 |cells _ c e h1=>exact key _ h1
 |map es k l h=>exact key _ h
theorem GSat.lt{m:Mem}{w:World}{G:GV}(h:GSat m w G){i b:Nat}(hd:m.d i=some b):b<w.heap.size:=by
 have hi:=(h.dom i).2 ⟨b,hd⟩;exact (h.row i _ b (q_f hi) hd).lt
def Su(m:Mem)(e:Ending):HOut->Prop
 |.ret r=>∃v,e=.returned v/\Rep m v r
 |.pan x=>∃v,e=.panicked [{ v:=v,recovered:=false }]/\Rep m v x
def HContract(P:Program)(f:Nat)(G:GV)(args:List SV)(out:HOut)(G':GV):Prop:=
 ∀(m:Mem) (w:World) (vs:List Value),Hv m w->GSat m w G->vs.length=args.length->(∀(j:Nat) v x,vs[j]?=some v->args[j]?=some x->Rep m v x) ->
  Calls P f vs.toArray w fun e w'=>∃m',Su m' e out/\m.le m'/\(∀b j,b<w.heap.size->m' b j=m b j)/\Hv m' w'/\GSat m' w' G' /\
   (∀i b,m'.d i=some b->m.d i=some b\/w.heap.size<=b)/\w'.os=w.os/\w'.tape=w.tape/\w'.output=w.output/\w.heap.size<=w'.heap.size/\∀k,k<w.heap.size->(∀i,m.d i≠some k)->w'.heap[k]?=w.heap[k]?
def HContractQ(P:Program)(f:Nat)(G:GV)(args:List SV)(Q:HOut->GV->Prop):Prop:=
 ∀(m:Mem) (w:World) (vs:List Value),Hv m w->GSat m w G->vs.length=args.length->(∀(j:Nat) v x,vs[j]?=some v->args[j]?=some x->Rep m v x) ->
  Calls P f vs.toArray w fun e w'=>∃out G',Q out G'/\∃m',Su m' e out/\m.le m'/\(∀b j,b<w.heap.size->m' b j=m b j)/\Hv m' w'/\GSat m' w' G' /\
   (∀i b,m'.d i=some b->m.d i=some b\/w.heap.size<=b)/\w'.os=w.os/\w'.tape=w.tape/\w'.output=w.output/\w.heap.size<=w'.heap.size/\∀k,k<w.heap.size->(∀i,m.d i≠some k)->w'.heap[k]?=w.heap[k]?
def Baj(out:HOut)(G:GV):HOut->GV->Prop:=fun o g=>o=out/\g=G
theorem HContract.q{P:Program}{f:Nat}{G G':GV}{args:List SV}{out:HOut}(h:HContract P f G args out G'):HContractQ P f G args (Baj out G'):=
 fun m w vs h1 h2 h3 h4=>Calls.mono (h m w vs h1 h2 h3 h4) (fun _ _ he=>⟨out,G',⟨rfl,rfl⟩,he⟩)
theorem HContractQ.mono{P:Program}{f:Nat}{G:GV}{args:List SV}{Q Q':HOut->GV->Prop}(h:HContractQ P f G args Q)(hQ:∀out G',Q out G'->Q' out G'):HContractQ P f G args Q':=
 fun m w vs h1 h2 h3 h4=>Calls.mono (h m w vs h1 h2 h3 h4) (fun _ _ ⟨out,G',k,he⟩=>⟨out,G',hQ _ _ k,he⟩)
theorem HContractQ.one{P:Program}{f:Nat}{G G':GV}{args:List SV}{out:HOut}{Q:HOut->GV->Prop}(h:HContractQ P f G args Q)(hQ:∀o g,Q o g->o=out/\g=G'):HContract P f G args out G':=
 fun m w vs h1 h2 h3 h4=>Calls.mono (h m w vs h1 h2 h3 h4) (fun _ _ ⟨o,g,k,he⟩=>by obtain⟨rfl,rfl⟩:=hQ _ _ k;exact he)
def Env.view(E:Env):Option (GV)->Nat->Option Ob
 |none,o=>E.H o
 |some G,o=>if o=0 then some (gOb G) else E.H o
structure GI(n0:Nat)(own:Nat->Prop)(E:Env)(w:World)(G:GV):Prop where
 z:E.H 0=none
 sat:GSat E.m w G
 new:∀i b,E.m.d i=some b->n0<=b\/own b
 obs:∀i b o ob,E.m.d i=some b->E.H o=some ob->0<E.t o->E.β o≠b
def GX(n0:Nat)(own:Nat->Prop)(E:Env)(w:World):Option (GV)->Prop
 |none=>True
 |some G=>GI n0 own E w G
structure StepV(U:Nat->Prop)(w0:World)(own:Nat->Prop)(E:Env)(g:Option (GV))(E':Env)(g':Option (GV))(w':World)(hp':List Ob):Prop where
 ext:Ext0 E E'
 wo:W w0 own E' w'
 gx:GX w0.heap.size own E' w' g'
 on:∀o,U o->E'.view g' o=hp'[o]?
 off:∀o,¬U o->E'.view g' o=E.view g o
 sm:g'.isSome=g.isSome
 d:g=none->E'.m.d=E.m.d
theorem RelV.re{E:Env}{M:Mem}{v:Value}{x:SV}(h:RelV E v x):RelV { E with m0:=M } v x:=by
 induction h with
 |J v=>exact .J v
 |undef=>exact .undef
 |rep v s hr=>exact .rep v s hr
 |ref o g e c b j ob h1 h2 h3=>exact .ref o g e c b j ob h1 h2 h3
 |osl o g off len A n cap ob h1 h2 hnl h3=>exact .osl o g off len A n cap ob h1 h2 hnl h3
 |agg vs l h0 h1 _ ih=>exact .agg vs l h0 h1 ih
def Pf(E:Env)(b:Nat):Prop:=∃o ob,E.H o=some ob/\0<E.t o/\E.β o=b
theorem W.rebase{w0:World}{own:Nat->Prop}{E:Env}{w:World}(h:W w0 own E w):W w (Pf E) { E with m0:=E.m } w:=by
 refine⟨rfl,rfl,rfl,Nat.le_refl _,fun _ _ _=>rfl,h.mem,fun o ob ho=>?_,h.inj,fun _ _ _ _=>rfl,h.pl⟩;have hk:=h.obs o ob ho;refine⟨hk.rows,hk.frz,hk.fit,hk.box,hk.bnd,fun ht=>?_⟩;obtain⟨c,e,k⟩:=hk.live ht;exact⟨c,e,⟨k.blk,k.size,.inr ⟨o,ob,ho,ht,rfl⟩,fun j v x hv hx=>(k.rel j v x hv hx).re,k.one,k.old,k.free,k.clo,k.pl⟩⟩
theorem W.owned{w0:World}{own:Nat->Prop}{E:Env}{w:World}(h:W w0 own E w){b:Nat}(hb:Pf E b):w0.heap.size<=b\/own b:=by
 obtain⟨o,ob,ho,ht,rfl⟩:=hb;obtain⟨c,e,k⟩:=(h.obs o ob ho).live ht;exact k.new
theorem W.back{w0:World}{own own':Nat->Prop}{E E1:Env}{w w':World}(h:W w0 own E w)(h':W w own' E1 w')(hz:E1.m0=E.m)(ho:∀b,own' b->w0.heap.size<=b\/own b):W w0 own { E1 with m0:=E.m0 } w':=by
 refine⟨h'.os.trans h.os,h'.tape.trans h.tape,h'.output.trans h.output,Nat.le_trans h.size h'.size,fun k hk hn=>?_,h'.mem,fun o ob hob=>?_,h'.inj,fun b j hb hn=>?_,h'.pl⟩
 ·rw[h'.block k (Nat.lt_of_lt_of_le hk h.size) (fun hq=>(ho k hq).elim (fun h1=>by omega) hn)];exact h.block k hk hn
 ·have hk:=h'.obs o ob hob;refine⟨hk.rows,hk.frz,hk.fit,hk.box,hk.bnd,fun ht=>?_⟩;obtain⟨c,e,k⟩:=hk.live ht;refine⟨c,e,⟨k.blk,k.size,?_,fun j v x hv hx=>(k.rel j v x hv hx).re,k.one,k.old,k.free,k.clo,k.pl⟩⟩;rcases k.new with hq|hq
  ·exact .inl (Nat.le_trans h.size hq)
  ·exact ho _ hq
 ·show E1.m b j=E.m0 b j;rw[h'.keep b j (Nat.lt_of_lt_of_le hb h.size) (fun hq=>(ho b hq).elim (fun h1=>by omega) hn),hz];exact h.keep b j hb hn
section
variable{P:Program}{U:Nat->Prop}{w0:World}{own:Nat->Prop}{E:Env}{w:World}{s:St}{a:Act}{g:Option (GV)}{G:GV}
theorem GI.after{E1:Env}{w':World}(hW:W w0 own E w)(h:GI w0.heap.size own E w G)(h':W w (Pf E) E1 w')(hx:Ext { E with m0:=E.m } E1)(h0:E1.H 0=none):GI w0.heap.size own { E1 with m0:=E.m0 } w' G:=by
 have hd:E1.m.d=E.m.d:=hx.d;have hz:E1.m0=E.m:=hx.z;have hm:E.m.le E1.m:=hx.m;have Ea:∀i b,E.m.d i=some b->¬Pf E b:=fun i b hb=>by
  rintro ⟨o,ob,ho,ht,rfl⟩;exact h.obs i _ o ob hb ho ht rfl
 refine⟨h0,⟨fun i=>?_,fun i j b hi hj=>?_,fun i r b hr hi=>?_,fun i b j hi=>?_⟩,fun i b hi=>?_,fun i b o ob hi ho ht=>?_⟩
 ·show i<G.length↔∃b,E1.m.d i=some b;rw[hd];exact h.sat.dom i
 ·exact h.sat.inj i j b (by rw[<-hd];exact hi) (by rw[<-hd];exact hj)
 ·have Bw:E.m.d i=some b:=by rw[<-hd];exact hi
  refine (h.sat.row i r b hr Bw).mono hm ?_;exact h'.block b (h.sat.lt Bw) (Ea i b Bw)
 ·have Bw:E.m.d i=some b:=by rw[<-hd];exact hi
  show E1.m b j=none;rw[h'.keep b j (h.sat.lt Bw) (Ea i b Bw),hz];exact h.sat.free i b j Bw
 ·exact h.new i b (by rw[<-hd];exact hi)
 ·have Bw:E.m.d i=some b:=by rw[<-hd];exact hi
  obtain⟨c,e,k⟩:=(h'.obs o ob ho).live ht;have Ab:=h.sat.lt Bw;rcases k.new with hq|hq
  ·show E1.β o≠b;omega
  ·rintro rfl;exact Ea i _ Bw hq
theorem Nw{u:Value}{x:SV}(hz:E.H 0=none)(h:RelV E u x):∀i∈Bf x,i≠0:=by
 intro i hi;cases x with
 |osl o g off len=>
  simp only[Bf,List.mem_singleton] at hi;subst hi;rintro rfl;cases h with
  |rep _ _ hr=>cases hr
  |osl _ _ _ _ A n cap ob ho=>rw[hz] at ho;cases ho
 |ref o g e c=>
  simp only[Bf,List.mem_singleton] at hi;subst hi;rintro rfl;cases h with
  |rep _ _ hr=>cases hr
  |ref _ _ _ _ b j ob ho=>rw[hz] at ho;cases ho
 |_=>simp[Bf] at hi
theorem Asw(hW:W w0 own E w)(hz:E.H 0=none){o:Nat}{ob:Ob}(ho:E.H o=some ob):∀i∈(ob.els.getD 0 []).flatMap Bf,i≠0:=by
 intro i hi;obtain⟨x,hx,hix⟩:=List.mem_flatMap.1 hi;have hk:=hW.obs o ob ho;have As:ob.els≠[]:=by
  rintro he;rw[he] at hx;simp at hx
 obtain⟨r,l,Fp⟩:=List.exists_cons_of_ne_nil As;have Qh:ob.els.getD 0 []=r:=by rw[Fp];rfl
 rw[Qh] at hx;have hrl:=hk.rows r (by rw[Fp];exact List.mem_cons_self);obtain⟨k,Dr⟩:=List.getElem?_of_mem hx;have Fy:k<r.length:=(List.getElem?_eq_some_iff.1 Dr).1;have Ah:1<=ob.els.length:=by rw[Fp];simp
 have Lm:1*ob.sz<=ob.els.length*ob.sz:=Nat.mul_le_mul_right _ Ah;have Db:=hk.fit;have ht:0<E.t o:=by omega
 obtain⟨c,e,lv⟩:=hk.live ht;have hc:k<c.size:=by have:=lv.size;omega
 have Ii:ob.els.flatten[k]?=some x:=by
  rw[Fp,List.flatten_cons,List.getElem?_append_left Fy];exact Dr
 exact Nw hz (lv.rel k c[k] x (Array.getElem?_eq_getElem hc) Ii) i hix
theorem Aau{hp:List Ob}{u:Value}{x:SV}(hW:W w0 own E w)(hz:E.H 0=none)(hu:∀i∈Bv hp x,i≠0->E.H i=hp[i]?)(h:RelV E u x):∀i∈Bv hp x,i≠0:=by
 cases x with
 |ref o g e c=>
  have ho:o≠0:=Nw hz h o (by simp[Bf]);have hv:=hu o (by simp[Bv]) ho;intro i hi;simp only[Bv,List.mem_cons] at hi;rcases hi with rfl|hi
  ·exact ho
  ·cases hq:hp[o]? with
   |none=>rw[hq] at hi;simp at hi
   |some ob=>
    rw[hq] at hi hv;simp only at hi;split at hi
    ·cases hi
    ·exact Asw hW hz hv i hi
 |agg b l=>
  intro i hi;cases b with
  |true=>simp[Bv,Bf] at hi
  |false=>
   simp only[Bv] at hi;obtain⟨x,hx,hix⟩:=List.mem_flatMap.1 hi;cases h with
   |rep _ _ hr=>cases hr
   |agg vs _ h0 h1 h2=>
    obtain⟨k,hk⟩:=List.getElem?_of_mem hx;have Fy:k<l.length:=(List.getElem?_eq_some_iff.1 hk).1;exact Nw hz (h2 k _ x (q_f (by omega)) hk) i hix
 |osl o g off len=>exact fun i hi=>Nw hz h i hi
 |_=>intro i hi;simp[Bv,Bf] at hi
theorem Af9{l:List Operand}:∀{xs:List AX},Pk l=some xs->xs.length=l.length/\∀(j:Nat) x,l[j]?=some x->∃ax,xs[j]?=some ax/\trX x=some ax:=by
 induction l with
 |nil=>intro xs h;simp only[Pk,q_b] at h;subst h;simp
 |cons y l ih=>
  intro xs h;simp only[Pk,q_c,q_a,q_d,q_b] at h;obtain⟨ay,Co,r,hr,rfl⟩:=h;obtain⟨h1,h2⟩:=ih hr;refine⟨by simp[h1],fun j x hx=>?_⟩;cases j with
  |zero=>simp at hx;subst hx;exact⟨ay,by simp,Co⟩
  |succ j=>obtain⟨ax,g1,g2⟩:=h2 j x (by simpa using hx);exact⟨ax,by simpa using g1,g2⟩
theorem Alb:∀{l l':List SV} {E:Env} {hp hp':List Ob} {vs:List Value},W w0 own E w->E.H 0=none->(∀i,U i->i≠0->E.H i=hp[i]?)->Dg hp l=some (l',hp')->vs.length=l.length ->
  (∀(j:Nat) (v:Value) (x:SV),vs[j]?=some v->l[j]?=some x->RelV E v x)->(∀o∈Gy hp l,U o)->∀i∈Gy hp l,i≠0:=by
 intro l
 induction l with
 |nil=>intro l' E hp hp' vs _ _ _ _ _ _ _ i hi;simp[Gy] at hi
 |cons s l ih=>
  intro l' E hp hp' vs hW hz hu hc hl hr hi;cases vs with
  |nil=>simp at hl
  |cons v vs=>
   simp only[Dg] at hc;split at hc;rotate_left
   ·cases hc
   rename_i c' h1 Jo;split at hc;rotate_left
   ·cases hc
   rename_i r' h2 hc2;simp only[Gy,Jo] at hi |-;have Qh:=hr 0 v s rfl rfl;have n1:=Aau hW hz (fun i h h0=>hu i (hi i (List.mem_append_left _ h)) h0) Qh;obtain⟨e1,E1,st1,rep1,b1,t1⟩:=Xn (U:=fun i=>U i/\i≠0) hW (fun i h=>hu i h.1 h.2) Jo Qh (fun o ho=>⟨hi o (List.mem_append_left _ ho),n1 o ho⟩);have Ci:E1.H 0=none:=by rw[st1.off 0 (fun h=>h.2 rfl)];exact hz
   have n2:=ih st1.wo Ci (fun i h h0=>st1.on i ⟨h,h0⟩) hc2 (by simpa using hl) (fun j v' x hv hx=>(hr (j+1) v' x (by simpa using hv) (by simpa using hx)).mono st1.ext) (fun o ho=>hi o (List.mem_append_right _ ho));intro i hmi;rcases List.mem_append.1 hmi with h|h
   ·exact n1 i h
   ·exact n2 i h
theorem Bht{hp:List Ob}{u:Value}{ad x:SV}(hW:W w0 own E w)(hz:E.H 0=none)(hu:∀i,U i->i≠0->E.H i=hp[i]?)(h:RelV E u x)(hi:∀i∈Pl hp ad x,U i):∀i∈Pl hp ad x,i≠0:=by
 have key:(∀i∈Bv hp x,U i)->∀i∈Bv hp x,i≠0:=fun hi=>Aau hW hz (fun i h h0=>hu i (hi i h) h0) h
 unfold Pl at hi |-;split
 ·split
  ·rename_i hob;split
   ·intro i h;cases h
   ·rename_i hb;refine key (fun i h=>hi i ?_);simp only[hob,if_neg hb];exact h
  ·rename_i hob;refine key (fun i h=>hi i ?_);simp only[hob];exact h
 ·rename_i Ea;refine key (fun i h=>hi i ?_);split
  ·rename_i o g e c;exact absurd rfl (Ea o g e c)
  ·exact h
theorem Bhs{op:Op}{aop:AOp}(tr:Ap P op=some aop)(Bi:Hi s aop=false)(hcl:∀sz ps,aop=.bslice sz ps->∃l h,Dg s.hp (ps.map s.get)=some (l,h))(Ajs:∀f args,(aop=.call f args\/∃fs x,aop=.callv fs x args)->∃l h,Dg s.hp (args.map s.get)=some (l,h))
  (hW:W w0 own E w) (hz:E.H 0=none) (hu:∀i,U i->i≠0->E.H i=s.hp[i]?) (Br:∀i∈Cu s aop,U i)
  (hx:∀x∈op.operands,∀ax,trX x=some ax->RelV E (a.eval x) (s.get ax)):∀i∈Cu s aop,i≠0:=by
 have row:∀(xs:List Operand) (axs:List AX),(∀x∈xs,x∈op.operands)->axs.length=xs.length->(∀(j:Nat) x,xs[j]?=some x->∃ax,axs[j]?=some ax/\trX x=some ax)->(∃l h,Dg s.hp (axs.map s.get)=some (l,h))->(∀i∈Gy s.hp (axs.map s.get),U i) ->
   ∀i∈Gy s.hp (axs.map s.get),i≠0:=by
  intro xs axs Cz Ah Fv hcl hU;obtain⟨l,h,hcl⟩:=hcl;refine Alb (vs:=xs.map a.eval) hW hz hu hcl (by simp[Ah]) (fun j v x hv Ca=>?_) hU;simp only[List.getElem?_map,q_e] at hv Ca;obtain⟨y,hy,rfl⟩:=hv;obtain⟨ax,Ae,rfl⟩:=Ca;obtain⟨ax',g1,g2⟩:=Fv j y hy;rw[Ae] at g1;cases g1;exact hx y (Cz y (List.mem_of_getElem? hy)) ax g2
 cases op with
 |load t x=>
  simp only[Ap,q_c,q_a] at tr;obtain⟨ag,Ft,ax,Ae,tr⟩:=tr;split at tr;rotate_left
  ·cases tr
  cases tr;show ∀i∈adC (s.get ax),i≠0;rw[o0 Bi];exact Nw hz (hx x (by simp[Op.operands]) ax Ae)
 |store t x y=>
  simp only[Ap,q_c,q_a] at tr;obtain⟨ag,Ft,ax,Ae,ay,Co,tr⟩:=tr;split at tr;rotate_left
  ·cases tr
  cases tr;intro i hi;simp only[Cu] at hi Br;rcases List.mem_append.1 hi with h|h
  ·rw[o0 Bi] at h;exact Nw hz (hx x (by simp[Op.operands]) ax Ae) i h
  ·exact Bht hW hz hu (hx y (by simp[Op.operands]) ay Co) (fun i h=>Br i (List.mem_append_right _ h)) i h
 |buildSlice t len parts=>
  simp only[Ap,q_c,q_a] at tr;obtain⟨e,Fo,xs,Ho,tr⟩:=tr;split at tr;rotate_left
  ·cases tr
  cases tr;obtain⟨h1,h2⟩:=Afp Ho;refine row (parts.toList.map (·.2)) xs (fun x hx=>?_) (by simp[h1]) (fun j x hx=>?_) (hcl _ _ rfl) Br
  ·obtain⟨q,hq,rfl⟩:=List.mem_map.1 hx;simp only[Op.operands,List.mem_toArray,List.mem_map];exact⟨q,hq,rfl⟩
  ·simp only[List.getElem?_map,q_e] at hx;obtain⟨q,hq,rfl⟩:=hx;exact (h2 j q hq).2
 |slice t x lo hi mx=>
  cases mx with
  |some m=>simp[Ap] at tr
  |none=>
   simp only[Ap] at tr;have hk:∃ax,trX x=some ax/\Cu s aop=Bf (s.get ax):=by
    split at tr
    ·split at tr
     ·simp only[q_c,q_a,q_d,q_b] at tr;obtain⟨ax,Ae,lo',_,Bw,_,rfl⟩:=tr;exact⟨ax,Ae,rfl⟩
     ·cases tr
    ·simp only[q_c,q_a,q_d,q_b] at tr;obtain⟨ax,Ae,lo',_,Bw,_,rfl⟩:=tr;exact⟨ax,Ae,rfl⟩
    ·cases tr
   obtain⟨ax,Ae,he⟩:=hk;rw[he];exact Nw hz (hx x (by simp[Op.operands]) ax Ae)
 |indexAddr t x i=>
  simp only[Ap,q_c,q_a] at tr;obtain⟨e,he,tr⟩:=tr;split at tr;rotate_left
  ·cases tr
  simp only[q_a,q_d,q_b] at tr;obtain⟨ax,Ae,ai,Yd,rfl⟩:=tr;exact Nw hz (hx x (by simp[Op.operands]) ax Ae)
 |call c=>
  obtain⟨callee,args,argTypes⟩:=c;simp only[Ap] at tr;split at tr
  ·split at tr
   ·cases tr
   ·split at tr
    ·simp only[q_e] at tr;obtain⟨ax,_,rfl⟩:=tr;intro i hi;cases hi
    ·simp only[q_e] at tr;obtain⟨ax,_,rfl⟩:=tr;intro i hi;cases hi
    ·cases tr
  ·rename_i sx x Ee;have Pv:args=#[sx,x]:=by simpa using congrArg List.toArray Ee
   subst Pv;simp only[q_c,q_a] at tr;obtain⟨e,Fo,z,Qo,tr⟩:=tr;split at tr;rotate_left
   ·cases tr
   simp only[q_a,q_d,q_b] at tr;obtain⟨as,Tn,ax,Ae,rfl⟩:=tr;intro i hi;rcases List.mem_append.1 hi with h|h
   ·exact Nw hz (hx sx (by simp[Op.operands,Call.operands]) as Tn) i h
   ·exact Nw hz (hx x (by simp[Op.operands,Call.operands]) ax Ae) i h
  ·simp only[q_c,q_a,q_d,q_b] at tr;obtain⟨ax,_,ay,_,rfl⟩:=tr;intro i hi;cases hi
  ·simp only[q_c,q_a,q_d,q_b] at tr;obtain⟨ax,_,ay,_,rfl⟩:=tr;intro i hi;cases hi
  ·rename_i f xs;split at tr;rotate_left
   ·cases tr
   split at tr;rotate_left
   ·cases tr
   simp only[q_e] at tr;obtain⟨axs,On,htr⟩:=tr;split at htr
   ·subst htr;simp[Hi] at Bi
   subst htr;obtain⟨h1,h2⟩:=Af9 On;exact row args.toList axs (fun x hx=>by simp[Op.operands,Call.operands,Array.mem_def,hx]) h1 h2 (Ajs _ _ (.inl rfl)) Br
  ·rename_i t xs;simp only[q_e] at tr;obtain⟨axs,On,rfl⟩:=tr;obtain⟨h1,h2⟩:=Af9 On;exact row args.toList axs (fun x hx=>by simp[Op.operands,Call.operands,Array.mem_def,hx]) h1 h2 (Ajs 0 _ (.inr ⟨_,_,rfl⟩)) Br
  ·cases tr
 |alloc t=>
  simp only[Ap,q_e] at tr;obtain⟨z,_,htr⟩:=tr;split at htr
  ·subst htr;simp[Hi] at Bi
  ·subst htr;intro i hi;cases hi
 |box t x=>
  simp only[Ap,q_e] at tr;obtain⟨z,_,htr⟩:=tr;split at htr
  ·subst htr;simp[Hi] at Bi
  ·subst htr;intro i hi;cases hi
 |move x=>
  simp only[Ap,q_e] at tr;obtain⟨_,_,rfl⟩:=tr;intro i hi;cases hi
 |assign x=>
  simp only[Ap,q_e] at tr;obtain⟨_,_,rfl⟩:=tr;intro i hi;cases hi
 |nilCheck x=>
  simp only[Ap,q_e] at tr;obtain⟨_,_,rfl⟩:=tr;intro i hi;cases hi
 |unOp op t x=>
  simp only[Ap,q_e] at tr;obtain⟨_,_,rfl⟩:=tr;intro i hi;cases hi
 |index t x i=>
  simp only[Ap] at tr;split at tr;rotate_left
  ·cases tr
  simp only[q_c,q_a,q_d,q_b] at tr;obtain⟨_,_,_,_,rfl⟩:=tr;intro i hi;cases hi
 |extract x i=>
  simp only[Ap,q_e] at tr;obtain⟨_,_,rfl⟩:=tr;intro i hi;cases hi
 |pick c x y=>
  simp only[Ap,q_c,q_a,q_d,q_b] at tr;obtain⟨_,_,_,_,_,_,rfl⟩:=tr;intro i hi;cases hi
 |lookup t x k ok=>
  cases ok with
  |false=>simp[Ap] at tr
  |true=>
   simp only[Ap] at tr;split at tr;rotate_left
   ·cases tr
   simp only[q_c,q_a,q_d,q_b] at tr;obtain⟨_,_,_,_,rfl⟩:=tr;simp[Hi] at Bi
 |mapUpdate t x k v=>
  simp only[Ap] at tr;split at tr;rotate_left
  ·cases tr
  simp only[q_c,q_a,q_d,q_b] at tr;obtain⟨_,_,_,_,_,_,rfl⟩:=tr;simp[Hi] at Bi
 |build t parts=>
  simp only[Ap] at tr;split at tr;rotate_left
  ·simp only[q_c,q_a] at tr;obtain⟨_,_,_,_,tr⟩:=tr;split at tr;rotate_left
   ·cases tr
   cases tr;intro i hi;cases hi
  ·cases tr
  simp only[q_c,q_a] at tr;obtain⟨_,_,_,_,tr⟩:=tr;split at tr;rotate_left
  ·cases tr
  cases tr;intro i hi;cases hi
 |binOp op t x y yt=>
  simp only[Ap] at tr;split at tr
  iterate 3
   ·simp only[q_c,q_a,q_d,q_b] at tr;obtain⟨_,_,_,_,rfl⟩:=tr;intro i hi;cases hi
  ·split at tr;rotate_left
   ·cases tr
   split at tr;rotate_left
   ·cases tr
   simp only[q_c,q_a,q_d,q_b] at tr;obtain⟨_,_,_,_,rfl⟩:=tr;intro i hi;cases hi
  ·simp only[q_c,q_a,q_d,q_b] at tr;obtain⟨_,_,_,_,rfl⟩:=tr;intro i hi;cases hi
  ·cases tr
 |convert a b x=>
  simp only[Ap] at tr;split at tr
  ·simp only[q_e] at tr;obtain⟨_,_,rfl⟩:=tr;intro i hi;cases hi
  ·simp only[q_e] at tr;obtain⟨_,_,rfl⟩:=tr;intro i hi;cases hi
  ·cases tr
 |makeSlice t l c=>
  simp only[Ap,q_c,q_a] at tr;obtain⟨_,_,_,_,tr⟩:=tr;split at tr;rotate_left
  ·cases tr
  simp only[q_a,q_d,q_b] at tr;obtain⟨_,_,_,_,rfl⟩:=tr;intro i hi;cases hi
 |fieldAddr t x i=>
  simp only[Ap,q_c,q_a] at tr;obtain⟨_,_,tr⟩:=tr;split at tr
  ·cases tr
  simp only[q_a,q_d,q_b] at tr;obtain⟨_,_,rfl⟩:=tr;intro i hi;cases hi
 |field t x i=>
  simp only[Ap,q_c,q_a] at tr;obtain⟨_,_,_,_,tr⟩:=tr;split at tr;rotate_left
  ·cases tr
  simp only[q_a,q_d,q_b] at tr;obtain⟨_,_,rfl⟩:=tr;intro i hi;cases hi
 |makeInterface t x=>
  simp only[Ap] at tr;split at tr;rotate_left
  ·cases tr
  split at tr;rotate_left
  ·cases tr
  simp only[q_e] at tr;obtain⟨_,_,rfl⟩:=tr;intro i hi;cases hi
 |makeMap t r=>
  cases r with
  |none=>simp only[Ap,q_b] at tr;subst tr;simp[Hi] at Bi
  |some r=>simp[Ap] at tr
 |panic x=>
  simp only[Ap,q_e] at tr;obtain⟨_,_,rfl⟩:=tr;simp[Hi] at Bi
 |_=>simp[Ap] at tr
def Alh:AOp->Bool
 |.call ..=>true
 |.callv ..=>true
 |.hcall ..=>true
 |_=>false
theorem Bg6{op:Op}{aop:AOp}(Ea:∀c,op≠.call c)(tr:Ap P op=some aop):Alh aop=false:=by
 cases op<;>(try exact absurd rfl (Ea _))<;>simp only[Ap] at tr<;>repeat' first
  |rfl
  |contradiction
  |(cases tr;done)
  |(obtain⟨_,tr⟩:=tr)
  |split at tr
  |(simp only[q_c,q_a,q_e,q_d,q_b] at tr)
  |(subst tr;rfl)
theorem l5{op:Op}{aop:AOp}(tr:Ap P op=some aop)(h:Alh aop=true):∃c,op=.call c /\
  ((∃f args fn,(aop=.call f args\/aop=.hcall f args)/\P.funcs[f]?=some fn/\fn.body.isSome=true/\fn.name≠"runtime.NumGoroutine"/\Pk c.args.toList=some args/\c.callee=.value (.func f)) \/
   (∃t args,aop=.callv (o9 P c.argTypes) (.t t) args/\Pk c.args.toList=some args/\c.callee=.value (.tmp t))):=by
 by_cases Ea:∀c,op≠.call c
 ·rw[Bg6 Ea tr] at h;cases h
 obtain⟨c,rfl⟩:∃c,op=.call c:=by
  cases op with
  |call c=>exact⟨c,rfl⟩
  |_=>exact absurd (fun c h=>by cases h) Ea
 refine⟨c,rfl,?_⟩;obtain⟨callee,args,argTypes⟩:=c;simp only[Ap] at tr;split at tr
 ·split at tr
  ·cases tr
  ·split at tr
   ·simp only[q_e] at tr;obtain⟨ax,_,rfl⟩:=tr;cases h
   ·simp only[q_e] at tr;obtain⟨ax,_,rfl⟩:=tr;cases h
   ·cases tr
 ·simp only[q_c,q_a] at tr;obtain⟨e,Fo,z,Qo,tr⟩:=tr;split at tr;rotate_left
  ·cases tr
  simp only[q_a,q_d,q_b] at tr;obtain⟨as,Tn,ax,Ae,rfl⟩:=tr;cases h
 ·simp only[q_c,q_a,q_d,q_b] at tr;obtain⟨ax,_,ay,_,rfl⟩:=tr;cases h
 ·simp only[q_c,q_a,q_d,q_b] at tr;obtain⟨ax,_,ay,_,rfl⟩:=tr;cases h
 ·split at tr;rotate_left
  ·cases tr
  rename_i fn Kc;split at tr;rotate_left
  ·cases tr
  rename_i hc;simp only[q_e] at tr;obtain⟨axs,On,htr⟩:=tr;left;split at htr
  ·exact⟨_,axs,fn,.inr htr.symm,Kc,hc.1,hc.2,On,rfl⟩
  ·exact⟨_,axs,fn,.inl htr.symm,Kc,hc.1,hc.2,On,rfl⟩
 ·simp only[q_e] at tr;obtain⟨axs,On,rfl⟩:=tr;exact .inr ⟨_,axs,rfl,On,rfl⟩
 ·cases tr
end
theorem Jv{hp:List Ob}{o i:Nat}{ob:Ob}(h:i≠o):(hp.set o ob)[i]?=hp[i]?:=by
 rw[List.getElem?_set_ne (Ne.symm h)]
theorem Vi{hp:List Ob}{i:Nat}{ob:Ob}(h:i≠hp.length):(hp++[ob])[i]?=hp[i]?:=by
 rcases Nat.lt_or_ge i hp.length with h1|h1
 ·rw[List.getElem?_append_left h1]
 ·rw[List.getElem?_append_right h1,List.getElem?_eq_none (show hp.length<=i by omega),List.getElem?_eq_none];simp;omega
theorem Xu{hp:List Ob}{G:GV}(h:gOf hp=some G):hp[0]?=some (gOb G):=by
 unfold gOf at h;split at h
 ·cases h;rfl
 ·cases h
theorem A1y{hp:List Ob}{G:GV}(h:hp[0]?=some (gOb G)):gOf hp=some G:=by
 cases hp with
 |nil=>cases h
 |cons x r=>simp only[List.getElem?_cons_zero,q_b] at h;subst h;rfl
theorem A1w{G G':GV}(h:gOb G=gOb G'):G=G':=by
 simp only[gOb,Ob.mk.injEq,List.cons.injEq,and_true,true_and] at h;exact h
theorem Ahj{hp h:List Ob}{x x':SV}(hc:Bo hp x=some (x',h)):h.length=hp.length/\∀i,i ∉ Bf x->h[i]?=hp[i]?:=by
 cases x with
 |osl o g off len=>
  simp only[Bo] at hc;split at hc
  ·split at hc
   ·cases hc;exact⟨by simp[fz],fun i hi=>by simp only[Bf,List.mem_singleton] at hi;exact Jv hi⟩
   ·cases hc
  ·cases hc
 |agg b l=>cases b<;>simp[Bo] at hc;obtain⟨_,rfl⟩:=hc;exact⟨rfl,fun _ _=>rfl⟩
 |_=>first|(simp[Bo] at hc;done)|(simp[Bo] at hc;obtain⟨_,rfl⟩:=hc;exact⟨rfl,fun _ _=>rfl⟩)
theorem Ahl{l:List SV}:∀{hp h:List Ob} {l':List SV},Is hp l=some (l',h)->h.length=hp.length/\∀i,i ∉ l.flatMap Bf->h[i]?=hp[i]?:=by
 induction l with
 |nil=>intro hp h l' hc;simp only[Is,q_b,Prod.mk.injEq] at hc;obtain⟨_,rfl⟩:=hc;exact⟨rfl,fun _ _=>rfl⟩
 |cons c r ih=>
  intro hp h l' hc;simp only[Is] at hc;split at hc
  ·rename_i c' h1 h2;split at hc
   ·rename_i r' h3 h4;cases hc;obtain⟨a1,a2⟩:=Ahj h2;obtain⟨b1,b2⟩:=ih h4;refine⟨b1.trans a1,fun i hi=>?_⟩;simp only[List.flatMap_cons,List.mem_append,not_or] at hi;rw[b2 i hi.2,a2 i hi.1]
   ·cases hc
  ·cases hc
theorem Nd{hp h:List Ob}{x x':SV}(hc:Bx hp x=some (x',h)):h.length=hp.length/\∀i,i ∉ Bv hp x->h[i]?=hp[i]?:=by
 have gen:Bo hp x=some (x',h)->Bv hp x=Bf x->h.length=hp.length/\∀i,i ∉ Bv hp x->h[i]?=hp[i]?:=fun h1 h2=>by rw[h2];exact Ahj h1
 cases x with
 |agg b l=>
  cases b with
  |true=>exact gen hc rfl
  |false=>
   simp only[Bx] at hc;split at hc
   ·rename_i l' h1 h2;cases hc;exact Ahl h2
   ·cases hc
 |ref o g e c=>
  simp only[Bx] at hc;split at hc;rotate_left
  ·cases hc
  rename_i ob ho;split at hc;rotate_left
  ·cases hc
  split at hc
  ·cases hc;refine⟨by simp[fz],fun i hi=>?_⟩;simp only[Bv,List.mem_cons,not_or] at hi;exact Jv hi.1
  ·rename_i hcl;split at hc;rotate_left
   ·cases hc
   rename_i l' h1 h2;cases hc;obtain⟨a1,a2⟩:=Ahl h2;refine⟨by simp[a1],fun i hi=>?_⟩;simp only[Bv,ho,hcl,List.mem_cons,not_or] at hi;rw[Jv hi.1];exact a2 i (by simpa using hi.2)
 |_=>exact gen hc rfl
theorem Te{l:List SV}:∀{hp h:List Ob} {l':List SV},Dg hp l=some (l',h)->h.length=hp.length/\∀i,i ∉ Gy hp l->h[i]?=hp[i]?:=by
 induction l with
 |nil=>intro hp h l' hc;simp only[Dg,q_b,Prod.mk.injEq] at hc;obtain⟨_,rfl⟩:=hc;exact⟨rfl,fun _ _=>rfl⟩
 |cons c r ih=>
  intro hp h l' hc;simp only[Dg] at hc;split at hc
  ·rename_i c' h1 h2;split at hc
   ·rename_i r' h3 h4;cases hc;obtain⟨a1,a2⟩:=Nd h2;obtain⟨b1,b2⟩:=ih h4;refine⟨b1.trans a1,fun i hi=>?_⟩;simp only[Gy,h2,List.mem_append,not_or] at hi;rw[b2 i hi.2,a2 i hi.1]
   ·cases hc
  ·cases hc
section
variable{s:St}
theorem Ab4{op:AOp}(h:Ab5 op=false):Cx s op=[]:=by
 cases op<;>first|(simp[Ab5] at h;done)|rfl
theorem Ab9{o:Option SV}{e:Eff}(h:s.val o=some e):e.hp=s.hp:=by
 cases o<;>simp[St.val] at h;subst h;rfl
theorem Ago{ag:Bool}{n:Nat}{x:SV}{e:Eff}{hp:List Ob}(h:Jx hp ag n x=some e):e.hp=hp:=by
 unfold Jx at h
 repeat' (split at h)
 all_goals first|(cases h;rfl)|(cases h;done)
theorem Agq{z:Nat}{x:SV}{lo hi:Option AX}{e:Eff}(h:Lz s z x lo hi=some e):e.hp=s.hp:=by
 unfold Lz at h
 repeat' (split at h)
 all_goals first|(cases h;rfl)|(cases h;done)
theorem Agn{st:Bool}{x:SV}{e:Eff}{hp:List Ob}(h:Na hp st x=some e):e.hp=hp:=by
 unfold Na at h
 repeat' (split at h)
 all_goals first|(cases h;rfl)|(cases h;done)
theorem Agp{op:AOp}{e:Eff}(h:Ai s op=some e):∀i,i ∉ Dd s op->e.hp[i]?=s.hp[i]?:=by
 intro i hi;cases op with
 |new cells=>
  simp only[Ai,q_b] at h;subst h;simp[Dd,reader,Cx,Cu,Gr] at hi;exact Vi hi
 |box x=>
  simp only[Ai,q_b] at h;subst h;simp[Dd,reader,Cx,Cu,Gr] at hi;exact Vi hi
 |mk sz bytes zero l c=>
  simp only[Ai] at h;split at h
  ·cases h;simp[Dd,reader,Cx,Cu,Gr] at hi;exact Vi hi
  ·cases h
 |bslice sz ps=>
  simp only[Ai] at h;split at h
  ·rename_i rows hh hr;cases h;obtain⟨l',h1,_,_⟩:=p7 hr;obtain⟨a1,a2⟩:=Te h1;simp[Dd,reader,Cx,Cu,Gr] at hi;rw[Vi (by rw[a1];exact hi.2)];exact a2 i hi.1
  ·cases h
 |load ag n x=>simp only[Ai] at h;rw[Ago h]
 |slc z x lo hi=>simp only[Ai] at h;rw[Agq h]
 |len st x=>simp only[Ai] at h;rw[Agn h]
 |store n x y=>
  simp only[Ai,Rg] at h;split at h
  ·rename_i o g e0 c ha;split at h;rotate_left
   ·cases h
   rename_i ob hob;split at h;rotate_left
   ·cases h
   simp only[Dd,reader,Cx,Cu,Gr,Bool.false_eq_true,if_false,List.append_nil,List.mem_append,not_or,ha,adC,Eg,Bf,List.mem_singleton] at hi;split at h
   ·cases h;exact Jv hi.1
   ·rename_i Iu;split at h;rotate_left
    ·cases h
    rename_i x' hh Hj;split at h;rotate_left
    ·cases h
    split at h;rotate_left
    ·cases h
    cases h;obtain⟨a1,a2⟩:=Nd Hj;show (hh.set o _)[i]?=_;rw[Jv hi.1];exact a2 i (fun hm=>hi.2 (by simp only[Pl,hob,if_neg Iu];exact hm))
  ·rename_i j c ha;split at h;rotate_left
   ·cases h
   rename_i x' hh Hj;split at h;rotate_left
   ·cases h
   split at h;rotate_left
   ·cases h
   cases h;obtain⟨a1,a2⟩:=Nd Hj;simp only[Dd,reader,Cx,Cu,Gr,Bool.false_eq_true,if_false,List.append_nil,List.mem_append,not_or,ha,adC,Eg,if_true,List.mem_singleton] at hi;show (hh.set 0 _)[i]?=_;rw[Jv hi.1];exact a2 i (fun hm=>hi.2 (by simp only[Pl];exact hm))
  ·cases h
 |app sz bytes x y=>
  simp only[Ai,Vh] at h;split at h;rotate_left
  ·cases h
  split at h
  ·rename_i ha;cases h;simp only[Dd,reader,Cx,Cu,Gr,Bool.false_eq_true,if_false,if_true,ha,List.mem_append,not_or,List.mem_singleton] at hi;exact Vi hi.2
  ·rename_i o g off len ha;split at h;rotate_left
   ·cases h
   split at h;rotate_left
   ·cases h
   cases h;simp only[Dd,reader,Cx,Cu,Gr,Bool.false_eq_true,if_false,ha,List.mem_append,not_or,Bf,List.mem_singleton] at hi;exact Jv hi.1.1
  ·cases h
 |iad sz x y=>
  simp only[Ai] at h;split at h
  ·cases h;rfl
  ·cases h
 |build zero parts=>simp only[Ai,q_b] at h;subst h;rfl
 |call f args=>simp[Ai] at h
 |callv fs x args=>simp[Ai] at h
 |hcall f args=>simp[Ai] at h
 |pan x=>simp[Ai] at h
 |newg cells=>
  simp only[Ai] at h;split at h
  ·cases h;simp only[Dd,reader,Cx,Cu,Gr,Bool.false_eq_true,if_false,List.append_nil,List.mem_singleton] at hi;exact Jv hi
  ·cases h
 |boxg x=>
  simp only[Ai] at h;split at h;rotate_left
  ·cases h
  rename_i v hh Hj;split at h;rotate_left
  ·cases h
  cases h;simp only[Dd,reader,Cx,Cu,Gr,Bool.false_eq_true,if_false,List.append_nil,List.mem_cons,not_or] at hi;show (hh.set 0 _)[i]?=_;rw[Jv hi.1];exact (Nd Hj).2 i hi.2
 |mkmap=>
  simp only[Ai] at h;split at h
  ·cases h;simp only[Dd,reader,Cx,Cu,Gr,Bool.false_eq_true,if_false,List.append_nil,List.mem_singleton] at hi;exact Jv hi
  ·cases h
 |six x i=>
  simp only[Ai] at h;split at h
  ·cases h;rfl
  ·cases h
 |arr parts=>simp only[Ai,q_b] at h;subst h;rfl
 |mlk z x k=>
  simp only[Ai] at h;split at h;rotate_left
  ·cases h
  split at h;rotate_left
  ·cases h
  split at h
  ·cases h;rfl
  ·cases h
 |mup x k v=>
  simp only[Ai] at h;split at h;rotate_left
  ·cases h
  rename_i Hj;split at h;rotate_left
  ·cases h
  split at h;rotate_left
  ·cases h
  split at h;rotate_left
  ·cases h
  cases h;simp only[Dd,reader,Cx,Cu,Gr,Bool.false_eq_true,if_false,List.append_nil,List.mem_cons,not_or] at hi;rw[Jv hi.1];exact (Nd Hj).2 i hi.2
 |fld ag off n x=>
  simp only[Ai] at h;split at h
  ·cases h;rfl
  ·cases h
 |_=>
  simp only[Ai] at h
  first
   |(rw[Ab9 h];done)
   |(repeat' (split at h)
     all_goals first|(rw[Ab9 h];done)|(cases h;done))
end
section
variable{P:Program}{U:Nat->Prop}{w0:World}{own:Nat->Prop}{E:Env}{w:World}{s:St}{a:Act}{g:Option (GV)}{G:GV}
def Up(g:Option (GV))(U:Nat->Prop)(i:Nat):Prop:=U i/\(g.isSome=true->i≠0)
theorem StepV.of_pure{E1:Env}{w':World}{hp h:List Ob}(hW:W w0 own E w)(hg:GX w0.heap.size own E w g)(hu:∀i,U i->E.view g i=hp[i]?)
  (st:Step (Up g U) w (Pf E) { E with m0:=E.m } E1 w' h) (h0:g.isSome=true->U 0->h[0]?=hp[0]?):StepV U w0 own E g { E1 with m0:=E.m0 } g w' h:=by
 have hz:g.isSome=true->E1.H 0=none:=fun hs=>by
  obtain⟨G,rfl⟩:=Option.isSome_iff_exists.1 hs;rw[st.off 0 (fun h=>h.2 hs rfl)];exact hg.z
 refine⟨⟨st.ext.m,st.ext.H,rfl⟩,hW.back st.wo st.ext.z (fun b hb=>hW.owned hb),?_,fun o ho=>?_,fun o ho=>?_,rfl,fun _=>st.ext.d⟩
 ·cases g with
  |none=>trivial
  |some G=>exact GI.after hW hg st.wo st.ext (hz rfl)
 ·cases g with
  |none=>exact st.on o ⟨ho,fun h=>by cases h⟩
  |some G=>
   show (if o=0 then some (gOb G) else E1.H o)=h[o]?
   by_cases Ka:o=0
   ·subst Ka;rw[if_pos rfl,h0 rfl ho,<-hu 0 ho];simp[Env.view]
   ·rw[if_neg Ka];exact st.on o ⟨ho,fun _=>Ka⟩
 ·cases g with
  |none=>exact st.off o (fun h=>ho h.1)
  |some G=>
   show (if o=0 then some (gOb G) else E1.H o)=(if o=0 then some (gOb G) else E.H o)
   by_cases Ka:o=0
   ·rw[if_pos Ka,if_pos Ka]
   ·rw[if_neg Ka,if_neg Ka];exact st.off o (fun h=>ho h.1)
theorem Rd(hu:∀i,U i->E.view g i=s.hp[i]?):∀i,Up g U i->E.H i=s.hp[i]?:=by
 intro i hi;have:=hu i hi.1;cases g with
 |none=>exact this
 |some G=>
  simp only[Env.view,if_neg (hi.2 rfl)] at this;exact this
theorem My(hu:∀i,U i->E.view g i=s.hp[i]?)(hU:U 0)(hW:W w0 own E w)(h:gOf s.hp=some G):g=some G:=by
 have h1:=hu 0 hU;rw[Xu h] at h1;cases g with
 |none=>
  have hk:=hW.obs 0 _ h1;have:=hk.rows [.J] (by simp[gOb]);simp[gOb] at this
 |some G'=>
  simp only[Env.view,if_true,q_b] at h1;rw[A1w h1]
theorem p9{xv:Value}{x x':SV}{h:List Ob}(hW:W w0 own E w)(hg:GX w0.heap.size own E w g)(hu:∀i,U i->E.view g i=s.hp[i]?)(hc:Bx s.hp x=some (x',h))(hr:RelV E xv x)(hi:∀i∈Bv s.hp x,U i) :
  ∃E1,Rep E1.m xv x'/\StepV U w0 own E g E1 g w h:=by
 have Kd:g.isSome=true->∀i∈Bv s.hp x,i≠0:=fun hs=>by
  obtain⟨G,rfl⟩:=Option.isSome_iff_exists.1 hs;exact Aau hW hg.z (fun i h h0=>Rd hu i ⟨hi i h,fun _=>h0⟩) hr
 obtain⟨_,E1,st,rep,_,_⟩:=Xn (U:=Up g U) (w0:=w) (own:=Pf E) (E:={ E with m0:=E.m }) hW.rebase (Rd hu) hc hr.re (fun i h=>⟨hi i h,fun hs=>Kd hs i h⟩);exact⟨{ E1 with m0:=E.m0 },rep,StepV.of_pure hW hg hu st (fun hs _=>(Nd hc).2 0 (fun h=>Kd hs 0 h rfl))⟩
theorem Bal{o:Oper}{aop:AOp}{eff:Eff}(tr:Ap P o.op=some aop)(Bi:Hi s aop=false)(he:Ai s aop=some eff)(hob:eff.ob)(hW:W w0 own E w)(hg:GX w0.heap.size own E w g)(hu:∀i,U i->E.view g i=s.hp[i]?)
  (As:g.isSome=true->0<s.hp.length) (hn:Gr s aop=true->U s.hp.length) (Br:∀i∈Cu s aop,U i)
  (hx:∀x∈o.op.operands,∀ax,trX x=some ax->RelV E (a.eval x) (s.get ax)) :
  ∃v w' E',((execOp a.eval o).run P w=.ok (.value v) w'\/((execOp a.eval o).run P w=.ok .skip w'/\v=undef))/\RelV E' v eff.val/\StepV U w0 own E g E' g w' eff.hp/\eff.as:=by
 have Kd:g.isSome=true->∀i∈Cu s aop,i≠0:=fun hs=>by
  obtain⟨G,rfl⟩:=Option.isSome_iff_exists.1 hs;refine Bhs tr Bi (fun sz ps h=>?_) (fun f args h=>?_) hW hg.z (fun i hi h0=>Rd hu i ⟨hi,fun _=>h0⟩) Br hx
  ·subst h;simp only[Ai] at he;split at he
   ·rename_i rows hh hr;obtain⟨l',h1,_,_⟩:=p7 hr;exact⟨l',hh,h1⟩
   ·cases he
  ·rcases h with h|⟨fs,x,h⟩<;>· subst h;simp[Ai] at he
 obtain⟨v,w',E1,h1,h2,h3,h4,h5⟩:=Bak (P:=P) (U:=Up g U) (w0:=w) (own:=Pf E) (E:={ E with m0:=E.m }) (w:=w) (a:=a) tr Bi he hob hW.rebase (Rd hu)
  (fun hc=>⟨hn hc,fun hs=>by have:=As hs;omega⟩) (fun i hi=>⟨Br i hi,fun hs=>Kd hs i hi⟩) (fun x Ca ax Ae=>(hx x Ca ax Ae).re)
 refine⟨v,w',{ E1 with m0:=E.m0 },h1,h2.re,StepV.of_pure hW hg hu h3 (fun hs _=>Agp he 0 (fun hc=>?_)),h5⟩;unfold Dd at hc;split at hc
 ·cases hc
 ·simp only[Cx,List.mem_append] at hc;rcases hc with hc|hc
  ·exact Kd hs 0 hc rfl
  ·split at hc
   ·simp only[List.mem_singleton] at hc;have:=As hs;omega
   ·cases hc
theorem W.gput{w':World}{i b:Nat}{row:List SV}(hW:W w0 own E w)(hg:GI w0.heap.size own E w G)(hd:E.m.d i=some b)(h1:w'.os=w.os)(h2:w'.tape=w.tape)(h3:w'.output=w.output)(h4:w'.heap.size=w.heap.size)
  (h5:∀k,k≠b->w'.heap[k]?=w.heap[k]?) (Bt:GRow E.m w' b row) (Ct:E.m.p b->∃c e,w'.heap[b]?=some (.cells c e (0,0))):W w0 own E w'/\GI w0.heap.size own E w' (G.set i row):=by
 have hi:i<G.length:=(hg.sat.dom i).2 ⟨b,hd⟩;refine⟨⟨h1.trans hW.os,h2.trans hW.tape,h3.trans hW.output,by rw[h4];exact hW.size,fun k hk hn=>?_,fun b' j v hv=>?_,fun o ob ho=>?_,hW.inj,hW.keep,fun b' El=>by
  by_cases hbb:b'=b
  ·subst hbb;exact Ct El
  ·obtain⟨c1,e1,q1⟩:=hW.pl b' El;exact⟨c1,e1,by rw[h5 b' hbb];exact q1⟩⟩,⟨hg.z,⟨fun j=>?_,hg.sat.inj,fun j r b' hr El=>?_,hg.sat.free⟩,hg.new,hg.obs⟩⟩
 ·by_cases hkb:k=b
  ·subst hkb;rcases hg.new i k hd with h|h
   ·omega
   ·exact absurd h hn
  ·rw[h5 k hkb];exact hW.block k hk hn
 ·have As:b'≠b:=by rintro rfl;rw[hg.sat.free i b' j hd] at hv;cases hv
  have:=hW.mem b' j v hv;simp only[World.cell?] at this |-;rw[h5 b' As];exact this
 ·have hk:=hW.obs o ob ho;refine⟨hk.rows,hk.frz,hk.fit,hk.box,hk.bnd,fun ht=>?_⟩;obtain⟨c,e,k⟩:=hk.live ht;exact⟨c,e,⟨by rw[h5 _ (hg.obs i b o ob hd ho ht)];exact k.blk,k.size,k.new,k.rel,k.one,k.old,k.free,k.clo,k.pl⟩⟩
 ·rw[List.length_set];exact hg.sat.dom j
 ·by_cases Qd:j=i
  ·subst Qd;rw[hd] at El;cases El;rw[List.getElem?_set_self hi] at hr;cases hr;exact Bt
  ·rw[List.getElem?_set_ne (Ne.symm Qd)] at hr;exact (hg.sat.row j r b' hr El).mono (.refl _) (h5 b' (fun h=>Qd (hg.sat.inj j i b (by rw[<-h];exact El) hd)))
theorem W.galloc{ob:Obj}{row:List SV}(hW:W w0 own E w)(hg:GI w0.heap.size own E w G)(Bt:∀m',E.m.le m'->GRow m' (w.alloc ob) w.heap.size row) :
  ∃E',Ext0 E E'/\W w0 own E' (w.alloc ob)/\GI w0.heap.size own E' (w.alloc ob) (G++[row])/\E'.H=E.H/\E'.m.d G.length=some w.heap.size/\(∀c e,ob=.cells c e (0,0)->E'.m.p w.heap.size):=by
 have Ru:E.m.d G.length=none:=by
  cases h:E.m.d G.length with
  |none=>rfl
  |some b=>have:=(hg.sat.dom G.length).2 ⟨b,h⟩;omega
 let m':Mem:=⟨E.m.c,fun j=>if j=G.length then some w.heap.size else E.m.d j,fun b=>E.m.p b\/(b=w.heap.size/\∃c e,ob=.cells c e (0,0)),fun i j b hi hj=>by
  by_cases h1:i=G.length<;>by_cases h2:j=G.length
  ·omega
  ·simp only[if_pos h1,if_neg h2,q_b] at hi hj;have:=hg.sat.lt hj;omega
  ·simp only[if_neg h1,if_pos h2,q_b] at hi hj;have:=hg.sat.lt hi;omega
  ·simp only[if_neg h1,if_neg h2] at hi hj;exact hg.sat.inj i j b hi hj⟩
 have hle:E.m.le m':=⟨fun _ _ _ h=>h,fun i b h=>by
  have:i≠G.length:=by rintro rfl;rw[Ru] at h;cases h
  simp only[m',if_neg this];exact h,fun b h=>.inl h⟩
 let E':Env:={ E with m:=m' }
 have hext:Ext0 E E':=⟨hle,fun o ob ho=>⟨ob,ho,rfl,Nat.le_refl _,fun _=>⟨rfl,rfl,Nat.le_refl _⟩⟩,rfl⟩
 have Gi:∀j b,m'.d j=some b->(j=G.length/\b=w.heap.size)\/(j≠G.length/\E.m.d j=some b):=fun j b h=>by
  by_cases hj:j=G.length
  ·simp only[m',if_pos hj,q_b] at h;exact .inl ⟨hj,h.symm⟩
  ·simp only[m',if_neg hj] at h;exact .inr ⟨hj,h⟩
 refine⟨E',hext,⟨hW.os,hW.tape,hW.output,by simp;exact Nat.le_succ_of_le hW.size,fun k hk hn=>?_,fun b j v hv=>?_,fun o ob1 ho=>?_,hW.inj,hW.keep,fun b hb=>by
  rcases hb with hb|⟨rfl,c1,e1,rfl⟩
  ·obtain⟨c1,e1,q1⟩:=hW.pl b hb;exact⟨c1,e1,by rw[Below.heap_alloc _ _ _ (Array.getElem?_eq_some_iff.1 q1).1];exact q1⟩
  ·exact⟨c1,e1,heap_alloc_new w _⟩⟩,⟨hg.z,⟨fun j=>?_,fun i j b hi hj=>?_,fun j r b hr hb=>?_,fun i b j hi=>?_⟩,fun i b hi=>?_,fun i b o ob1 hi ho ht=>?_⟩,rfl,by simp[E',m'],fun c1 e1 h1=>.inr ⟨rfl,c1,e1,h1⟩⟩
 ·rw[Below.heap_alloc _ _ _ (Nat.lt_of_lt_of_le hk hW.size)];exact hW.block k hk hn
 ·have:=hW.mem b j v hv;rw[World.cell?_alloc_lt w _ _ (Aa8 this)];exact this
 ·have hk:=hW.obs o ob1 ho;refine⟨hk.rows,hk.frz,hk.fit,hk.box,hk.bnd,fun ht=>?_⟩;obtain⟨c,e,k⟩:=hk.live ht;exact⟨c,e,⟨by rw[Below.heap_alloc _ _ _ (hW.lt ho ht)];exact k.blk,k.size,k.new,fun j v x hv hx=>(k.rel j v x hv hx).mono0 hext,k.one,k.old,k.free,fun hb j v x hv hx=>(k.clo hb j v x hv hx).mono hle,hle.p _ k.pl⟩⟩
 ·rw[List.length_append,List.length_singleton];constructor
  ·intro hj
   by_cases Rx:j=G.length
   ·exact⟨w.heap.size,by simp[E',m',Rx]⟩
   ·obtain⟨b,hb⟩:=(hg.sat.dom j).1 (by omega);exact⟨b,hle.d _ _ hb⟩
  ·rintro ⟨b,hb⟩;rcases Gi j b hb with⟨h,_⟩|⟨_,h⟩
   ·omega
   ·have:=(hg.sat.dom j).2 ⟨b,h⟩;omega
 ·rcases Gi i b hi with⟨h1,h2⟩|⟨h1,h2⟩<;>rcases Gi j b hj with⟨k1,k2⟩|⟨k1,k2⟩
  ·omega
  ·have:=hg.sat.lt k2;omega
  ·have:=hg.sat.lt h2;omega
  ·exact hg.sat.inj i j b h2 k2
 ·rcases Gi j b hb with⟨h1,h2⟩|⟨h1,h2⟩
  ·subst h1;subst h2;rw[List.getElem?_append_right (Nat.le_refl _)] at hr;simp only[Nat.sub_self,List.getElem?_cons_zero,q_b] at hr;subst hr;exact Bt m' hle
  ·have hj:j<G.length:=(hg.sat.dom j).2 ⟨b,h2⟩;rw[List.getElem?_append_left hj] at hr;exact (hg.sat.row j r b hr h2).mono hle (by rw[Below.heap_alloc _ _ _ (hg.sat.lt h2)])
 ·rcases Gi i b hi with⟨h1,h2⟩|⟨h1,h2⟩
  ·subst h2;show E.m w.heap.size j=none;cases hm:E.m w.heap.size j with
   |none=>rfl
   |some v=>have:=Aa8 (hW.mem _ _ _ hm);omega
  ·exact hg.sat.free i b j h2
 ·rcases Gi i b hi with⟨h1,h2⟩|⟨h1,h2⟩
  ·subst h2;exact .inl hW.size
  ·exact hg.new i b h2
 ·rcases Gi i b hi with⟨h1,h2⟩|⟨h1,h2⟩
  ·subst h2;have:=hW.lt ho ht;show E.β o≠w.heap.size;omega
  ·exact hg.obs i b o ob1 h2 ho ht
theorem Aja{v:Value}{i c:Nat}(h:RelV E v (.gp i c)):∃b,v=.pointer (some ⟨b,c,none⟩)/\E.m.d i=some b:=by
 cases h.closed_rep rfl with
 |gp _ _ b hb=>exact⟨b,rfl,hb⟩
theorem Ai8{t:TypeId}{ag:Bool}{v:Value}{i c:Nat}{row:List SV}(hg:GI w0.heap.size own E w G)(Ft:Gc P t=some ag)(h1:ag=true\/P.cellsOf t=1)(hi:G[i]?=some row)(Uc:Ec row=false)(Fm:c+P.cellsOf t<=row.length)
  (hx:RelV E v (.gp i c)):∃u,(Instr.loadAt t v).run P w=.ok u w/\RelV E u (cut true row.length ag (P.cellsOf t) c row):=by
 obtain⟨b,rfl,hb⟩:=Aja hx;cases hg.sat.row i row b hi hb with
 |map=>cases Uc
 |cells _ cc e Tp Bl Fb=>
  have Ja:∀(j:Nat) (v:Value),((cc.toList.drop c).take (P.cellsOf t))[j]?=some v->cc[c+j]?=some v:=by
   intro j v hv;rw[List.getElem?_take] at hv;split at hv
   ·simpa using getElem?_drop_some hv
   ·cases hv
  have Ah:((cc.toList.drop c).take (P.cellsOf t)).length=P.cellsOf t:=by simp;omega
  refine⟨_,Afq (vs:=(cc.toList.drop c).take (P.cellsOf t)) Ft Ah h1 (fun j v hv=>?_),Ac8 rfl Fm Ah h1 (fun v hv=>?_) (fun j v x hv hx=>.rep v x (Fb _ v x (Ja j v hv) (getElem?_drop_some hx)).1)
   (fun _ j v x hv hx=>(Fb _ v x (Ja j v hv) (getElem?_drop_some hx)).1)⟩
  ·rw[Pq Tp];exact Ja j v hv
  ·obtain⟨k,hk⟩:=List.getElem?_of_mem hv;have hck:=Ja k v hk;have Ab:c+k<row.length:=by
    have:=(List.getElem?_eq_some_iff.1 hk).1;omega
   exact (Fb _ v row[c+k] hck (q_f Ab)).2
theorem A2x{t:TypeId}{i c b:Nat}{row:List SV}{xv:Value}{x:SV}(hW:W w0 own E w)(hg:GI w0.heap.size own E w G)(hinf:∃inf,P.info? t=some inf)(Ch:0<P.cellsOf t)(hi:G[i]?=some row)(Uc:Ec row=false)(Fm:c+P.cellsOf t<=row.length)
  (hb:E.m.d i=some b) (hx:Rep E.m xv x) (Ah:(cellsOf x).length=P.cellsOf t) (hok:x.ok=true) (hcl:x.closed=true) :
  ∃w',(Instr.storeAt t (.pointer (some ⟨b,c,none⟩)) xv).run P w=.ok () w'/\W w0 own E w'/\GI w0.heap.size own E w' (G.set i (Eh row.length (P.cellsOf t) c row (cellsOf x))):=by
 obtain⟨inf,hinf⟩:=hinf;obtain⟨vs,b1,b2,b3,b4,b5⟩:=Ko (.rep _ _ hx:RelV E xv x) hok;have Lp:vs.length=P.cellsOf t:=by omega
 cases hg.sat.row i row b hi hb with
 |map=>cases Uc
 |cells _ cc e Tp Bl Fb Gm=>
  have Hc:=run_storeCells_at P b c e vs 0 cc w Tp (by omega) b3;simp only[Nat.add_zero] at Hc;have Mf:∀k,(cc.toList.take c++vs++cc.toList.drop (c+vs.length)).toArray[k]?=if c<=k/\k<c+vs.length then vs[k-c]? else cc[k]?:=by
   intro k;have:=Um cc.toList vs c (by simp;omega) k;simpa using this
  have hsp:Eh row.length (P.cellsOf t) c row (cellsOf x)=row.take c++cellsOf x++row.drop (c+(cellsOf x).length):=Abx rfl Fm Ah Ch;have hrget:∀k,(row.take c++cellsOf x++row.drop (c+(cellsOf x).length))[k]?=if c<=k/\k<c+(cellsOf x).length then (cellsOf x)[k-c]? else row[k]?:=fun k=>Um row (cellsOf x) c (by omega) k
  obtain⟨g1,g2⟩:=W.gput (w':=w.setRow b (cc.toList.take c++vs++cc.toList.drop (c+vs.length)).toArray) (row:=Eh row.length (P.cellsOf t) c row (cellsOf x)) hW hg hb rfl rfl rfl (by simp)
   (fun k hk=>setRow_other w b k _ hk) (.cells _ _ e (setRow_heap w b cc _ e _ Tp) (by rw[hsp];simp;omega) (fun k v y hv hy=>by
    rw[Mf k] at hv;rw[hsp,hrget k] at hy;split at hv
    ·rename_i Cz;rw[if_pos (by omega)] at hy;exact⟨b5 hcl _ v y hv hy,b3 v (List.mem_of_getElem? hv)⟩
    ·rename_i Cz;rw[if_neg (by omega)] at hy;exact Fb k v y hv hy) (fun k v hv=>by
    rw[Mf k] at hv;split at hv
    ·exact b3 v (List.mem_of_getElem? hv)
    ·exact Gm k v hv)) (fun _=>⟨_,e,setRow_heap w b cc _ e _ Tp⟩)
  exact⟨_,Afr hinf b1 Lp Hc,g1,g2⟩
theorem A6p{k:SV}{kk:K3}(h:Sh k=some kk):k=Si kk:=by
 unfold Sh at h;split at h
 ·cases h;rfl
 ·cases h
theorem A6q(kk:K3):Sh (Si kk)=some kk:=rfl
theorem Alk{v:Value}{k:SV}{kk:K3}(h:Sh k=some kk)(hr:RelV E v k):v=Im kk:=by
 have:=A6p h;subst this;cases hr.closed_rep rfl with
 |agg vs l h0 h1 h2=>
  match vs,h1 with
  |[a,b,c],_=>
   have ha:=h2 0 a _ rfl rfl;have hb:=h2 1 b _ rfl rfl;have hc:=h2 2 c _ rfl rfl;cases ha;cases hb;cases hc;rfl
theorem Zv(kk:K3)(l:List (K3×SV)):Pe kk (l.map ent)=some ((l.find? fun p=>p.1==kk).map (·.2)):=by
 induction l with
 |nil=>rfl
 |cons p l ih=>
  simp only[q_h,ent,Pe,A6q,List.find?_cons]
  by_cases h:p.1=kk
  ·rw[if_pos h];simp[h]
  ·rw[if_neg h,ih];have:(p.1==kk)=false:=by simpa using h
   rw[this]
structure MapTy(P:Program)(t kt et it:TypeId)(z:SV):Prop where
 um:P.underlying t=some (.map kt et)
 uk:P.underlying kt=some (.array 3 it)
 ui:P.underlying it=some (.int .i64)
 uz:Km P et=some z
 c1:P.cellsOf it=1
 c3:P.cellsOf kt=3
 ukt:P.keyType kt=true
 zl:(cellsOf z).length=1
theorem Amq{t:TypeId}{z:SV}(h:Ws P t=some z):∃kt et it,MapTy P t kt et it z:=by
 unfold Ws at h;split at h;rotate_left
 ·cases h
 rename_i kt et h1;split at h;rotate_left
 ·cases h
 rename_i it h2;split at h;rotate_left
 ·cases h
 rename_i h3;split at h;rotate_left
 ·cases h
 rename_i z' h4;split at h;rotate_left
 ·cases h
 rename_i h5;cases h;exact⟨kt,et,it,h1,h2,h3,h4,h5.1,h5.2.1,h5.2.2.1,h5.2.2.2⟩
theorem MapTy.arr{t kt et it:TypeId}{z:SV}(h:MapTy P t kt et it z):WideMaps.ArrKey P kt it 3:=
 ⟨h.uk,by unfold Program.plainKey;rw[h.ui],h.c1,h.c3⟩
theorem Agg{n:Int}(h:ok1 n):(Lit.int .i64 n).wf=true:=by
 unfold ok1 at h;simp only[Lit.wf,Bool.and_eq_true,decide_eq_true_eq];exact⟨h.1,h.2⟩
theorem MapTy.key{t kt et it:TypeId}{z:SV}(h:MapTy P t kt et it z){kk:K3}(hk:ok3 kk):∃l,keyOf P kt (Im kk)=some l:=by
 obtain⟨k1,k2,k3⟩:=hk;have w1:=Agg k1;have w2:=Agg k2;have w3:=Agg k3;have hn:∃m,P.types.size=m+1:=by
  cases hs:P.types.size with
  |zero=>
   have:=h.ukt;unfold Program.keyType at this;rw[hs] at this;simp[Program.keyTypeAt,h.uk,h.ui] at this
  |succ m=>exact⟨m,rfl⟩
 obtain⟨m,hm⟩:=hn;unfold keyOf;rw[h.uk];have hf:(Im kk).formed P kt=true:=by simp[Value.formed,Im,h.uk,h.c3]
 simp only[h.ukt,hf,Bool.and_self,if_true];have hi:∀(d:Nat) (n:Int),(Lit.int .i64 n).wf=true->P.keyLits (d+1) it [Value.int .i64 n]=some [.int .i64 n]:=fun d n hw=>by
  unfold Program.keyLits;rw[h.ui];simp[hw]
 have hl:P.keyLits (P.types.size+1) kt (Im kk).cells.toList=some [.int .i64 kk.1,.int .i64 kk.2.1,.int .i64 kk.2.2]:=by
  rw[hm];unfold Program.keyLits;rw[h.uk];simp[Im,Value.cells,h.c3,h.c1,List.range_succ,hi m _ w1,hi m _ w2,hi m _ w3]
 rw[hl];exact⟨_,rfl⟩
theorem Adc{l:List (K3×SV)}{kk:K3}(h:(l.find? fun p=>p.1==kk)=none):kk ∉ l.map (·.1):=by
 intro hm;obtain⟨p,hp,rfl⟩:=List.mem_map.1 hm;have:=List.find?_eq_none.1 h p hp;simp at this
theorem A7z{t:TypeId}{z:SV}{xv kv:Value}{i:Nat}{es:List SV}{kk:K3}{r:Option SV}(hg:GI w0.heap.size own E w G)(ht:Ws P t=some z)(hi:G[i]?=some (.undef::es))(hr:Pe kk es=some r)(hk:ok3 kk)
  (hx:RelV E xv (.mp i)) (hkv:kv=Im kk):∃u,(Instr.lookup t xv kv true).run P w=.ok u w/\Rep E.m u (.tup [r.getD z,.bool r.isSome]):=by
 subst hkv;obtain⟨kt,et,it,ht⟩:=Amq ht;cases hx.closed_rep rfl with
 |mp _ b hb=>
  have Bt:=hg.sat.row i _ b hi hb;generalize hR:SV.undef::es=R at Bt;cases Bt with
  |cells _ c e h1 h2 h3=>
   subst hR;have:0<c.size:=Nat.lt_of_lt_of_le (by simp) h2;have hu:=(h3 0 c[0] .undef (Array.getElem?_eq_getElem this) rfl).1;generalize c[0]=q at hu;cases hu
  |map es' k l h1 h2 h3 h4 h5=>
   have hes:es=l.map ent:=by simpa [Hg] using hR
   subst hes;rw[Zv] at hr;cases hr;have Fv:(getObj b).run P w=.ok (.map es' k) w:=by simp[getObj,Sem.run,h1]
   have L:=ht.arr.law;obtain⟨lk,Wi⟩:=ht.key hk;have Lj:∀e∈es'.toList,∃l,keyOf P kt e.key=some l:=by
    intro e he;obtain⟨j,hj⟩:=List.getElem?_of_mem he;have Hy:es'[j]?=some e:=by simpa using hj
    have Ab:j<l.length:=by
     rw[<-h2];exact (Array.getElem?_eq_some_iff.1 Hy).1
    obtain⟨q1,_⟩:=h3 j e _ Hy (q_f Ab);rw[q1];exact ht.key (h4 _ (List.getElem_mem Ab))
   obtain⟨iz,zv,hiz,Gw,_,Qp⟩:=Ss (m:=E.m) ht.uz;have hz:(zeroValue et).run P w=.ok zv w:=by simp[zeroValue,run_typeInfo w hiz,Gw]
   rcases L.find w Wi es'.toList Lj with⟨f1,f2⟩|⟨j,e,f1,f2,f3⟩
   ·have hn:(l.find? fun p=>p.1==kk)=none:=by
     rw[List.find?_eq_none];intro p hp;simp only[beq_iff_eq];intro Ov;obtain⟨j,hj⟩:=List.getElem?_of_mem hp;have Ab:j<es'.size:=by
      rw[h2];exact (List.getElem?_eq_some_iff.1 hj).1
     obtain⟨q1,_⟩:=h3 j es'[j] p (Array.getElem?_eq_getElem Ab) hj;exact f2 es'[j] (by simp) (by rw[q1,Ov])
    rw[hn];refine⟨.tuple #[zv,.bool false],?_,?_⟩
    ·simp[Instr.lookup,run_underlying ht.um,Fv,L.check w _ Wi,f1,hz]
    ·exact .tup [zv,.bool false] _ rfl (fun j v x hv hx=>by
      match j with
      |0=>cases hv;cases hx;exact Qp
      |1=>cases hv;cases hx;exact .bool _
      |j+2=>cases hv)
   ·have Hy:es'[j]?=some e:=by simpa using f2
    have Ab:j<l.length:=by
     rw[<-h2];exact (Array.getElem?_eq_some_iff.1 Hy).1
    obtain⟨q1,q2⟩:=h3 j e _ Hy (q_f Ab);have Aaf:(l[j]).1=kk:=by
     have:Im (l[j]).1=Im kk:=by rw[<-q1,f3]
     obtain⟨a,b,c⟩:=kk;generalize (l[j]).1=q at this;obtain⟨a',b',c'⟩:=q;simp only[Im,Value.agg.injEq,Array.mk.injEq,List.cons.injEq,Value.int.injEq,true_and,and_true] at this;simp_all
    have hn:(l.find? fun p=>p.1==kk)=some l[j]:=by
     obtain⟨p,hp⟩:∃p,(l.find? fun p=>p.1==kk)=some p:=by
      cases hf:l.find? fun p=>p.1==kk with
      |none=>exact absurd (List.mem_map.2 ⟨l[j],List.getElem_mem Ab,Aaf⟩) (Adc hf)
      |some p=>exact⟨p,rfl⟩
     rw[hp];have Ov:p.1=kk:=by simpa using List.find?_some hp
     obtain⟨j2,hj2⟩:=List.getElem?_of_mem (List.mem_of_find?_eq_some hp);obtain⟨hl2,Nr⟩:=List.getElem?_eq_some_iff.1 hj2;have hj3:j2=j:=by
      have Sb:=List.pairwise_iff_getElem.1 h5;have e1:(l.map (·.1))[j2]'(by simpa using hl2)=(l.map (·.1))[j]'(by simpa using Ab):=by
       rw[List.getElem_map,List.getElem_map,Nr,Ov,Aaf]
      rcases Nat.lt_trichotomy j2 j with h|h|h
      ·exact absurd e1 (Sb j2 j (by simpa using hl2) (by simpa using Ab) h)
      ·exact h
      ·exact absurd e1.symm (Sb j j2 (by simpa using Ab) (by simpa using hl2) h)
     subst hj3;rw[<-Nr]
    rw[hn];refine⟨.tuple #[e.val,.bool true],?_,?_⟩
    ·simp[Instr.lookup,run_underlying ht.um,Fv,L.check w _ Wi,f1]
    ·exact .tup [e.val,.bool true] _ rfl (fun j v x hv hx=>by
      match j with
      |0=>cases hv;cases hx;exact q2
      |1=>cases hv;cases hx;exact .bool _
      |j+2=>cases hv)
theorem A8q{t:TypeId}{z v':SV}{xv kv vv:Value}{i:Nat}{es:List SV}{kk:K3}(hW:W w0 own E w)(hg:GI w0.heap.size own E w G)(ht:Ws P t=some z)(hi:G[i]?=some (.undef::es))(hr:Pe kk es=some none)(hk:ok3 kk)
  (hx:RelV E xv (.mp i)) (hkv:kv=Im kk) (hv:Rep E.m vv v') (hok:v'.ok=true) (Ah:(cellsOf v').length=1) :
  ∃w',(Instr.mapUpdate t xv kv vv).run P w=.ok () w'/\W w0 own E w'/\GI w0.heap.size own E w' (G.set i (.undef::(es++[.tup [Si kk,v']]))):=by
 subst hkv;obtain⟨kt,et,it,ht⟩:=Amq ht;cases hx.closed_rep rfl with
 |mp _ b hb=>
  have Bt:=hg.sat.row i _ b hi hb;generalize hR:SV.undef::es=R at Bt;cases Bt with
  |cells _ c e h1 h2 h3=>
   subst hR;have:0<c.size:=Nat.lt_of_lt_of_le (by simp) h2;have hu:=(h3 0 c[0] .undef (Array.getElem?_eq_getElem this) rfl).1;generalize c[0]=q at hu;cases hu
  |map es' k l h1 h2 h3 h4 h5=>
   have hes:es=l.map ent:=by simpa [Hg] using hR
   subst hes;rw[Zv] at hr;have Mn:(l.find? fun p=>p.1==kk)=none:=by simpa using hr
   have Fv:(getObj b).run P w=.ok (.map es' k) w:=by simp[getObj,Sem.run,h1]
   have L:=ht.arr.law;obtain⟨lk,Wi⟩:=ht.key hk;have Lj:∀e∈es'.toList,∃l,keyOf P kt e.key=some l:=by
    intro e he;obtain⟨j,hj⟩:=List.getElem?_of_mem he;have Hy:es'[j]?=some e:=by simpa using hj
    have Ab:j<l.length:=by
     rw[<-h2];exact (Array.getElem?_eq_some_iff.1 Hy).1
    obtain⟨q1,_⟩:=h3 j e _ Hy (q_f Ab);rw[q1];exact ht.key (h4 _ (List.getElem_mem Ab))
   have f1:(Instr.findKey kt (Im kk) es'.toList).run P w=.ok none w:=by
    rcases L.find w Wi es'.toList Lj with⟨f1,_⟩|⟨j,e,f1,f2,f3⟩
    ·exact f1
    ·exfalso;have Hy:es'[j]?=some e:=by simpa using f2
     have Ab:j<l.length:=by
      rw[<-h2];exact (Array.getElem?_eq_some_iff.1 Hy).1
     obtain⟨q1,_⟩:=h3 j e _ Hy (q_f Ab);have Aaf:(l[j]).1=kk:=by
      have:Im (l[j]).1=Im kk:=by rw[<-q1,f3]
      obtain⟨a,b,c⟩:=kk;generalize (l[j]).1=q at this;obtain⟨a',b',c'⟩:=q;simp only[Im,Value.agg.injEq,Array.mk.injEq,List.cons.injEq,Value.int.injEq,true_and,and_true] at this;simp_all
     exact Adc Mn (List.mem_map.2 ⟨l[j],List.getElem_mem Ab,Aaf⟩)
   have hnew:SV.undef::(l.map ent++[.tup [Si kk,v']])=Hg (l++[(kk,v')]):=by simp[Hg,ent]
   have hset:=MapKept.heap_set h1 (o':=.map (es'.push { key:=Im kk,val:=vv,born:=k }) (k+1));obtain⟨g1,g2⟩:=W.gput (w':={ w with heap:=w.heap.setIfInBounds b (.map (es'.push { key:=Im kk,val:=vv,born:=k }) (k+1)) }) (row:=Hg (l++[(kk,v')])) hW hg hb rfl rfl rfl (by simp) (fun q hq=>hset.2 q hq)
    (.map _ (k+1) (l++[(kk,v')]) hset.1 (by simp[h2]) (fun j e p he hp=>by
     by_cases hj:j<l.length
     ·rw[List.getElem?_append_left hj] at hp;rw[Array.getElem?_push_lt (by omega)] at he;exact h3 j e p (by rw[Array.getElem?_eq_getElem (by omega)];exact he) hp
     ·have Rx:j=l.length:=by
       have:=(List.getElem?_eq_some_iff.1 hp).1;simp at this;omega
      subst Rx;rw[<-h2,Array.getElem?_push_size] at he;rw[List.getElem?_append_right (Nat.le_refl _),Nat.sub_self] at hp;cases he;cases hp;exact⟨rfl,hv⟩)
     (fun p hp=>by
      rcases List.mem_append.1 hp with hp|hp
      ·exact h4 p hp
      ·simp only[List.mem_singleton] at hp;subst hp;exact hk)
     (by
      rw[List.map_append,List.nodup_append];refine⟨h5,by simp,fun x hx y hy=>?_⟩;simp only[q_h,q_i,List.mem_singleton] at hy;subst hy;intro hxy;subst hxy;exact Adc Mn hx)) (fun hp=>by
     obtain⟨c,e,hc⟩:=hW.pl b hp;rw[h1] at hc;cases hc)
   refine⟨_,?_,g1,by rw[hnew];exact g2⟩;simp[Instr.mapUpdate,run_underlying ht.um,Fv,L.check w _ Wi,f1,setObj,Sem.run,h1]
end
def Contract(P:Program)(f:Nat)(args:List SV)(r:SV):Prop:=
 ∀(m:Mem) (w:World) (vs:List Value),Hv m w->vs.length=args.length->(∀(j:Nat) v x,vs[j]?=some v->args[j]?=some x->Rep m v x) ->
  Calls P f vs.toArray w fun e w'=>∃v m',e=.returned v/\Rep m' v r/\(m.le m'/\m'.d=m.d)/\(∀b j,b<w.heap.size->m' b j=m b j)/\Hv m' w' /\
   w'.os=w.os/\w'.tape=w.tape/\w'.output=w.output/\w.heap.size<=w'.heap.size/\∀k,k<w.heap.size->w'.heap[k]?=w.heap[k]?
def l7(s s':SV):Prop:=∃m v,Rep m v s/\Rep m v s'
def Av(P:Program)(X:SV->GV->Prop):CT:={ p:=Contract P,h:=HContract P,q:=HContractQ P,x:=X,b:=l7 }
structure StB(B:Env->Prop):Prop where
 ext:∀E E',Ext0 E E'->B E->B E'
 wk:∀E E',(∀o ob,E.H o=some ob->777<=ob.gen->E'.H o=some ob)->E'.β=E.β->B E->B E'
instance stb_true:Nonempty (StB fun _=>True):=⟨⟨fun _ _ _ h=>h,fun _ _ _ _ h=>h⟩⟩
instance stb_false:Nonempty (StB fun _=>False):=⟨⟨fun _ _ _ h=>h,fun _ _ _ _ h=>h⟩⟩
section
variable{P:Program}{U:Nat->Prop}{w0:World}{own:Nat->Prop}{E:Env}{w:World}{s:St}{a:Act}{M0:Mem}{B:Env->Prop}{Df:List Deferred}{g:Option (GV)}{G:GV}{X:SV->GV->Prop}
theorem W.called{w':World}{m':Mem}(h:W w0 own E w)(h1:E.m.le m'/\m'.d=E.m.d)(h2:∀b j,b<w.heap.size->m' b j=E.m b j)(h3:Hv m' w')
  (h4:w'.os=w.os) (h5:w'.tape=w.tape) (h6:w'.output=w.output) (h7:w.heap.size<=w'.heap.size) (h8:∀k,k<w.heap.size->w'.heap[k]?=w.heap[k]?):Ext E { E with m:=m' }/\W w0 own { E with m:=m' } w':=by
 have hext:Ext E { E with m:=m' }:=⟨⟨h1.1,fun o ob ho=>⟨ob,ho,rfl,Nat.le_refl _,fun _=>⟨rfl,rfl,Nat.le_refl _⟩⟩,rfl⟩,h1.2⟩
 refine⟨hext,⟨h4.trans h.os,h5.trans h.tape,h6.trans h.output,Nat.le_trans h.size h7,fun k hk ho=>?_,h3.1,fun o ob ho=>?_,h.inj,fun b j hb ho=>?_,h3.2⟩⟩
 ·rw[h8 k (Nat.lt_of_lt_of_le hk h.size)];exact h.block k hk ho
 ·have hk:=h.obs o ob ho;refine⟨hk.rows,hk.frz,hk.fit,hk.box,hk.bnd,fun ht=>?_⟩;obtain⟨c,e,k⟩:=hk.live ht;have Ab:=h.lt ho ht;refine⟨c,e,⟨?_,k.size,k.new,fun j v x hv hx=>(k.rel j v x hv hx).mono hext,k.one,fun j hj=>?_,fun j hj=>?_,fun hb j v x hv hx=>(k.clo hb j v x hv hx).mono h1.1,h1.1.p _ k.pl⟩⟩
  ·show w'.heap[E.β o]?=_;rw[h8 _ Ab];exact k.blk
  ·show m' (E.β o) j=_;rw[h2 _ _ Ab];exact k.old j hj
  ·show m' (E.β o) j=_;rw[h2 _ _ Ab];exact k.free j hj
 ·show m' b j=E.m0 b j;rw[h2 b j (Nat.lt_of_lt_of_le hb h.size)];exact h.keep b j hb ho
theorem W.hcalled{w':World}{m':Mem}{G':GV}(h:W w0 own E w)(hg:GI w0.heap.size own E w G)(h1:E.m.le m')(h2:∀b j,b<w.heap.size->m' b j=E.m b j)(h3:Hv m' w')(hs:GSat m' w' G')
  (hd:∀i b,m'.d i=some b->E.m.d i=some b\/w.heap.size<=b) (h4:w'.os=w.os) (h5:w'.tape=w.tape) (h6:w'.output=w.output) (h7:w.heap.size<=w'.heap.size) (h8:∀k,k<w.heap.size->(∀i,E.m.d i≠some k)->w'.heap[k]?=w.heap[k]?) :
  Ext0 E { E with m:=m' }/\W w0 own { E with m:=m' } w'/\GI w0.heap.size own { E with m:=m' } w' G':=by
 have hext:Ext0 E { E with m:=m' }:=⟨h1,fun o ob ho=>⟨ob,ho,rfl,Nat.le_refl _,fun _=>⟨rfl,rfl,Nat.le_refl _⟩⟩,rfl⟩
 refine⟨hext,⟨h4.trans h.os,h5.trans h.tape,h6.trans h.output,Nat.le_trans h.size h7,fun k hk ho=>?_,h3.1,fun o ob ho=>?_,h.inj,fun b j hb ho=>?_,h3.2⟩,⟨hg.z,hs,fun i b hi=>?_,fun i b o ob hi ho ht=>?_⟩⟩
 ·rw[h8 k (Nat.lt_of_lt_of_le hk h.size) (fun i hi=>(hg.new i k hi).elim (fun h1=>by omega) ho)];exact h.block k hk ho
 ·have hk:=h.obs o ob ho;refine⟨hk.rows,hk.frz,hk.fit,hk.box,hk.bnd,fun ht=>?_⟩;obtain⟨c,e,k⟩:=hk.live ht;have Ab:=h.lt ho ht;refine⟨c,e,⟨?_,k.size,k.new,fun j v x hv hx=>(k.rel j v x hv hx).mono0 hext,k.one,fun j hj=>?_,fun j hj=>?_,fun hb j v x hv hx=>(k.clo hb j v x hv hx).mono h1,h1.p _ k.pl⟩⟩
  ·show w'.heap[E.β o]?=_;rw[h8 _ Ab (fun i hi=>hg.obs i _ o ob hi ho ht rfl)];exact k.blk
  ·show m' (E.β o) j=_;rw[h2 _ _ Ab];exact k.old j hj
  ·show m' (E.β o) j=_;rw[h2 _ _ Ab];exact k.free j hj
 ·show m' b j=E.m0 b j;rw[h2 b j (Nat.lt_of_lt_of_le hb h.size)];exact h.keep b j hb ho
 ·rcases hd i b hi with h9|h9
  ·exact hg.new i b h9
  ·exact .inl (Nat.le_trans h.size h9)
 ·rcases hd i b hi with h9|h9
  ·exact hg.obs i b o ob h9 ho ht
  ·have:=h.lt ho ht;show E.β o≠b;omega
theorem A2a{o:Oper}{aop:AOp}{eff:Eff}(tr:Ap P o.op=some aop)(Bi:Hi s aop=true)(he:Ai s aop=some eff)(hob:eff.ob)(hW:W w0 own E w)(hg:GX w0.heap.size own E w g)(hu:∀i,U i->E.view g i=s.hp[i]?)
  (Br:∀i∈Cu s aop,U i) (hx:∀x∈o.op.operands,∀ax,trX x=some ax->RelV E (a.eval x) (s.get ax)) :
  ∃v w' E' g',((execOp a.eval o).run P w=.ok (.value v) w'\/((execOp a.eval o).run P w=.ok .skip w'/\v=undef))/\RelV E' v eff.val/\StepV U w0 own E g E' g' w' eff.hp/\eff.as:=by
 obtain⟨dst,op,ty,pos,after,guard⟩:=o;simp only at tr hx
 -- a new row
 have Gs:∀{E1:Env} {h:List Ob} {G1:GV} {row:List SV} {c:Array Value} {t:TypeId} {ob:Obj},StepV U w0 own E g E1 g w h->U 0->gOf h=some G1->(∀m',E1.m.le m'->GRow m' (w.alloc ob) w.heap.size row) ->
   ∃E' g',E'.m.d G1.length=some w.heap.size/\StepV U w0 own E g E' g' (w.alloc ob) (h.set 0 (gOb (G1++[row])))/\(∀c e,ob=.cells c e (0,0)->E'.m.p w.heap.size):=by
  intro E1 h G1 row c t ob st hU h1 Bt;have hg1:=My (s:={ s with hp:=h }) st.on hU st.wo h1;subst hg1;obtain⟨E',e1,e2,e3,e4,e5,e6⟩:=W.galloc st.wo st.gx Bt;have Ch:0<h.length:=by
   rcases Nat.eq_zero_or_pos h.length with h0|h0
   ·have:=Xu h1;rw[List.getElem?_eq_none (by omega)] at this;cases this
   ·exact h0
  refine⟨E',some (G1++[row]),e5,⟨st.ext.trans e1,e2,e3,fun o ho=>?_,fun o ho=>?_,rfl,fun hn=>by cases hn⟩,e6⟩
  ·by_cases h0:o=0
   ·subst h0;rw[List.getElem?_set_self Ch];simp[Env.view]
   ·rw[Jv h0];have:=st.on o ho;simp only[Env.view,if_neg h0] at this |-;rw[e4];exact this
  ·have h0:o≠0:=by rintro rfl;exact ho hU
   have:=st.off o ho;simp only[Env.view,if_neg h0] at this |-;rw[e4];exact this
 -- a value that is closed ahead
 have closed:∀{xv:Value} {x x':SV} {h:List Ob},Bx s.hp x=some (x',h)->RelV E xv x->(∀i∈Bv s.hp x,U i)->∃E1,Rep E1.m xv x'/\StepV U w0 own E g E1 g w h:=by
  intro xv x x' h hc hr hi;have Kd:g.isSome=true->∀i∈Bv s.hp x,i≠0:=fun hs=>by
   obtain⟨G,rfl⟩:=Option.isSome_iff_exists.1 hs;exact Aau hW hg.z (fun i h h0=>Rd hu i ⟨hi i h,fun _=>h0⟩) hr
  obtain⟨_,E1,st,rep,_,_⟩:=Xn (U:=Up g U) (w0:=w) (own:=Pf E) (E:={ E with m0:=E.m }) hW.rebase (Rd hu) hc hr.re (fun i h=>⟨hi i h,fun hs=>Kd hs i h⟩);exact⟨{ E1 with m0:=E.m0 },rep,StepV.of_pure hW hg hu st (fun hs _=>(Nd hc).2 0 (fun h=>Kd hs 0 h rfl))⟩
 cases op with
 |load t x=>
  simp only[Ap,q_c,q_a] at tr;obtain⟨ag,Ft,ax,Ae,tr⟩:=tr;split at tr;rotate_left
  ·cases tr
  rename_i h1;cases tr;simp only[Hi] at Bi;have hxr:=hx x (by simp[Op.operands]) ax Ae;simp only[Ai] at he;generalize Zg:s.get ax=sx at Bi he hxr;cases sx with
  |gp i c=>
   simp only[Jx] at he;split at he;rotate_left
   ·cases he
   rename_i G hG;split at he;rotate_left
   ·cases he
   rename_i row Bt;cases he;have hU:U 0:=Br 0 (by simp[Cu,Zg,adC,Eg]);have:=My hu hU hW hG;subst this;obtain⟨u,k1,k2⟩:=Ai8 hg Ft h1 Bt hob.1 hob.2 hxr;exact⟨u,w,E,some G,.inl (by simp[execOp,k1]),k2,⟨Ext0.refl E,hW,hg,hu,fun _ _=>rfl,rfl,fun _=>rfl⟩,trivial⟩
  |_=>cases Bi
 |store t x y=>
  simp only[Ap,q_c,q_a] at tr;obtain⟨ag,Ft,ax,Ae,ay,Co,tr⟩:=tr;split at tr;rotate_left
  ·cases tr
  rename_i h1;cases tr;simp only[Hi] at Bi;have hxr:=hx x (by simp[Op.operands]) ax Ae;have hyr:=hx y (by simp[Op.operands]) ay Co;simp only[Ai] at he;generalize Zg:s.get ax=sx at Bi he hxr;cases sx with
  |gp i c=>
   simp only[Rg] at he;split at he;rotate_left
   ·cases he
   rename_i x' h hc;split at he;rotate_left
   ·cases he
   rename_i G hG;split at he;rotate_left
   ·cases he
   rename_i row Bt;cases he;obtain⟨Uc,Fm,Ah,hok⟩:=hob;have hU:U 0:=Br 0 (by simp[Cu,Zg,adC,Eg]);obtain⟨E1,rep,st⟩:=closed hc hyr (fun j hj=>Br j (by simp only[Cu,Zg,Pl,List.mem_append];exact .inr hj));have hg1:=My (s:={ s with hp:=h }) st.on hU st.wo hG;subst hg1;obtain⟨b,hv,hb⟩:=Aja hxr;obtain⟨w',k1,k2,k3⟩:=A2x st.wo st.gx (Aav Ft) h1.2 Bt Uc Fm (st.ext.m.d _ _ hb) rep Ah hok (p8 hc).2;have Ch:0<h.length:=by
    rcases Nat.eq_zero_or_pos h.length with h0|h0
    ·have:=Xu hG;rw[List.getElem?_eq_none (by omega)] at this;cases this
    ·exact h0
   refine⟨undef,w',E1,some (G.set i (Eh row.length (P.cellsOf t) c row (cellsOf x'))),.inr ⟨by simp[execOp,hv,k1],rfl⟩,.undef,⟨st.ext,k2,k3,fun o ho=>?_,fun o ho=>?_,rfl,fun hn=>by cases hn⟩,trivial⟩
   ·by_cases h0:o=0
    ·subst h0;rw[List.getElem?_set_self Ch];simp[Env.view]
    ·rw[Jv h0];have:=st.on o ho;simp only[Env.view,if_neg h0] at this |-;exact this
   ·have h0:o≠0:=by rintro rfl;exact ho hU
    have:=st.off o ho;simp only[Env.view,if_neg h0] at this |-;exact this
  |_=>cases Bi
 |alloc t=>
  simp only[Ap,q_e] at tr;obtain⟨z,hz,htr⟩:=tr;split at htr;rotate_left
  ·subst htr;cases Bi
  subst htr;simp only[Ai] at he;split at he;rotate_left
  ·cases he
  rename_i G hG;cases he;have hU:U 0:=Br 0 (by simp[Cu]);obtain⟨i,zv,hi,Gw,Iy,Bq⟩:=Ss (m:=E.m) hz;have hok:=(Lc (m:=E.m) Iy).2.2;have hcl:=(Lc (m:=E.m) Iy).2.1;obtain⟨vs,b1,b2,b3,b4,b5⟩:=Ko (.rep _ _ Bq:RelV E zv z) hok;have st:StepV U w0 own E g E g w s.hp:=⟨Ext0.refl E,hW,hg,hu,fun _ _=>rfl,rfl,fun _=>rfl⟩
  obtain⟨E',g',e1,e2,e3⟩:=Gs (c:=#[]) (t:=t) (ob:=.cells zv.cells t) (row:=cellsOf z) st hU hG (fun m' hm=>.cells _ zv.cells t (heap_alloc_new w _) (by rw[b1,<-b2];simp) (fun k v x hv hx=>by
   rw[b1] at hv;have Bd:vs[k]?=some v:=by simpa using hv
   exact⟨(b5 hcl k v x Bd hx).mono hm,b3 v (List.mem_of_getElem? Bd)⟩) (fun k v hv=>by rw[b1] at hv;exact b3 v (List.mem_of_getElem? (i:=k) (by simpa using hv))))
  refine⟨.pointer (some ⟨w.heap.size,0,none⟩),_,E',g',.inl ?_,.rep _ _ (.gp _ _ _ e1 (e3 _ _ rfl)),e2,trivial⟩;simp[execOp,Instr.alloc,zeroValue,typeInfo,hi,Gw,newVar,newRow]
 |box t x=>
  simp only[Ap,q_e] at tr;obtain⟨ax,Ae,htr⟩:=tr;split at htr;rotate_left
  ·subst htr;cases Bi
  subst htr;simp only[Ai] at he;split at he;rotate_left
  ·cases he
  rename_i x' h hc;split at he;rotate_left
  ·cases he
  rename_i G hG;cases he;have hU:U 0:=Br 0 (by simp[Cu]);obtain⟨E1,rep,st⟩:=closed hc (hx x (by simp[Op.operands]) ax Ae) (fun j hj=>Br j (by simp only[Cu,List.mem_cons];exact .inr hj));obtain⟨vs,b1,b2,b3,b4,b5⟩:=Ko (.rep _ _ rep:RelV E1 (a.eval x) x') (p8 hc).1;obtain⟨E',g',e1,e2,e3⟩:=Gs (c:=#[]) (t:=t) (ob:=.cells (a.eval x).cells t) (row:=cellsOf x') st hU hG (fun m' hm=>.cells _ (a.eval x).cells t (heap_alloc_new w _) (by rw[b1,<-b2];simp) (fun k v y hv hy=>by
   rw[b1] at hv;have Bd:vs[k]?=some v:=by simpa using hv
   exact⟨(b5 (p8 hc).2 k v y Bd hy).mono hm,b3 v (List.mem_of_getElem? Bd)⟩) (fun k v hv=>by rw[b1] at hv;exact b3 v (List.mem_of_getElem? (i:=k) (by simpa using hv))))
  refine⟨.pointer (some ⟨w.heap.size,0,none⟩),_,E',g',.inl ?_,.rep _ _ (.gp _ _ _ e1 (e3 _ _ rfl)),e2,trivial⟩;simp[execOp,Instr.box,newVar,newRow]
 |makeMap t r=>
  cases r with
  |some r=>simp[Ap] at tr
  |none=>
   simp only[Ap,q_b] at tr;subst tr;simp only[Ai] at he;split at he;rotate_left
   ·cases he
   rename_i G hG;cases he;have hU:U 0:=Br 0 (by simp[Cu]);have st:StepV U w0 own E g E g w s.hp:=⟨Ext0.refl E,hW,hg,hu,fun _ _=>rfl,rfl,fun _=>rfl⟩
   obtain⟨E',g',e1,e2,_⟩:=Gs (c:=#[]) (t:=t) (ob:=.map #[] 0) (row:=[.undef]) st hU hG (fun m' hm=>.map #[] 0 [] (heap_alloc_new w _) rfl (fun j e p he=>by simp at he) (fun p hp=>by cases hp) List.nodup_nil);refine⟨.map (some w.heap.size),_,E',g',.inl ?_,.rep _ _ (.mp _ _ e1),e2,trivial⟩;have:(Instr.makeMap t none).run P w=.ok (.map (some w.heap.size)) (w.alloc (.map #[] 0)):=rfl;simp[execOp,this]
 |call c=>
  obtain⟨callee,args,argTypes⟩:=c;simp only[Ap] at tr;split at tr
  ·split at tr
   ·cases tr
   ·split at tr
    ·simp only[q_e] at tr;obtain⟨ax,_,rfl⟩:=tr;cases Bi
    ·simp only[q_e] at tr;obtain⟨ax,_,rfl⟩:=tr;cases Bi
    ·cases tr
  ·simp only[q_c,q_a] at tr;obtain⟨e,Fo,z,Qo,tr⟩:=tr;split at tr;rotate_left
   ·cases tr
   simp only[q_a,q_d,q_b] at tr;obtain⟨as,Tn,ax,Ae,rfl⟩:=tr;cases Bi
  ·simp only[q_c,q_a,q_d,q_b] at tr;obtain⟨ax,_,ay,_,rfl⟩:=tr;cases Bi
  ·simp only[q_c,q_a,q_d,q_b] at tr;obtain⟨ax,_,ay,_,rfl⟩:=tr;cases Bi
  ·split at tr;rotate_left
   ·cases tr
   split at tr;rotate_left
   ·cases tr
   simp only[q_e] at tr;obtain⟨axs,On,htr⟩:=tr;split at htr
   ·subst htr;simp[Ai] at he
   ·subst htr;cases Bi
  ·simp only[q_e] at tr;obtain⟨axs,On,rfl⟩:=tr;cases Bi
  ·cases tr
 |panic x=>
  simp only[Ap,q_e] at tr;obtain⟨ax,Ae,rfl⟩:=tr;simp[Ai] at he
 |move x=>
  simp only[Ap,q_e] at tr;obtain⟨_,_,rfl⟩:=tr;cases Bi
 |assign x=>
  simp only[Ap,q_e] at tr;obtain⟨_,_,rfl⟩:=tr;cases Bi
 |nilCheck x=>
  simp only[Ap,q_e] at tr;obtain⟨_,_,rfl⟩:=tr;cases Bi
 |unOp op t x=>
  simp only[Ap,q_e] at tr;obtain⟨_,_,rfl⟩:=tr;cases Bi
 |index t x i=>
  simp only[Ap] at tr;split at tr;rotate_left
  ·cases tr
  simp only[q_c,q_a,q_d,q_b] at tr;obtain⟨_,_,_,_,rfl⟩:=tr;cases Bi
 |extract x i=>
  simp only[Ap,q_e] at tr;obtain⟨_,_,rfl⟩:=tr;cases Bi
 |pick c x y=>
  simp only[Ap,q_c,q_a,q_d,q_b] at tr;obtain⟨_,_,_,_,_,_,rfl⟩:=tr;cases Bi
 |lookup t x k ok=>
  cases ok with
  |false=>simp[Ap] at tr
  |true=>
   simp only[Ap] at tr;split at tr;rotate_left
   ·cases tr
   rename_i z hz;simp only[q_c,q_a,q_d,q_b] at tr;obtain⟨ax,Ae,ak,hak,rfl⟩:=tr;have hxr:=hx x (by simp[Op.operands]) ax Ae;have hkr:=hx k (by simp[Op.operands]) ak hak;simp only[Ai] at he;split at he;rotate_left
   ·cases he
   rename_i j kk G h1 h2 hG;split at he;rotate_left
   ·cases he
   rename_i es Bt;split at he;rotate_left
   ·cases he
   rename_i r hr;cases he;have hU:U 0:=Br 0 (by simp[Cu]);have:=My hu hU hW hG;subst this;rw[h1] at hxr;obtain⟨u,k1,k2⟩:=A7z (P:=P) hg hz Bt hr hob hxr (Alk h2 hkr);exact⟨u,w,E,some G,.inl (by simp[execOp,k1]),.rep _ _ k2,⟨Ext0.refl E,hW,hg,hu,fun _ _=>rfl,rfl,fun _=>rfl⟩,trivial⟩
 |mapUpdate t x k v=>
  simp only[Ap] at tr;split at tr;rotate_left
  ·cases tr
  rename_i z hz;simp only[q_c,q_a,q_d,q_b] at tr;obtain⟨ax,Ae,ak,hak,av,hav,rfl⟩:=tr;have hxr:=hx x (by simp[Op.operands]) ax Ae;have hkr:=hx k (by simp[Op.operands]) ak hak;have hvr:=hx v (by simp[Op.operands]) av hav;simp only[Ai] at he;split at he;rotate_left
  ·cases he
  rename_i i kk v' h h1 h2 hc;split at he;rotate_left
  ·cases he
  rename_i G hG;split at he;rotate_left
  ·cases he
  rename_i es Bt;split at he;rotate_left
  ·cases he
  rename_i hr;cases he;obtain⟨ho3,hok,Ah⟩:=hob;have hU:U 0:=Br 0 (by simp[Cu]);obtain⟨E1,rep,st⟩:=closed hc hvr (fun j hj=>Br j (by simp only[Cu,List.mem_cons];exact .inr hj));have hg1:=My (s:={ s with hp:=h }) st.on hU st.wo hG;subst hg1;rw[h1] at hxr;obtain⟨w',k1,k2,k3⟩:=A8q (P:=P) st.wo st.gx hz Bt hr ho3 (hxr.mono0 st.ext) (Alk h2 hkr) rep hok Ah;have Ch:0<h.length:=by
   rcases Nat.eq_zero_or_pos h.length with h0|h0
   ·have:=Xu hG;rw[List.getElem?_eq_none (by omega)] at this;cases this
   ·exact h0
  refine⟨undef,w',E1,some (G.set i (SV.undef::(es++[SV.tup [Si kk,v']]))),.inr ⟨by simp[execOp,k1],rfl⟩,.undef,⟨st.ext,k2,k3,fun o ho=>?_,fun o ho=>?_,rfl,fun hn=>by cases hn⟩,trivial⟩
  ·by_cases h0:o=0
   ·subst h0;rw[List.getElem?_set_self Ch];simp[Env.view]
   ·rw[Jv h0];have:=st.on o ho;simp only[Env.view,if_neg h0] at this |-;exact this
  ·have h0:o≠0:=by rintro rfl;exact ho hU
   have:=st.off o ho;simp only[Env.view,if_neg h0] at this |-;exact this
 |build t parts=>
  simp only[Ap] at tr;split at tr;rotate_left
  ·simp only[q_c,q_a] at tr;obtain⟨_,_,_,_,tr⟩:=tr;split at tr;rotate_left
   ·cases tr
   cases tr;cases Bi
  ·cases tr
  simp only[q_c,q_a] at tr;obtain⟨_,_,_,_,tr⟩:=tr;split at tr;rotate_left
  ·cases tr
  cases tr;cases Bi
 |binOp op t x y yt=>
  simp only[Ap] at tr;split at tr
  iterate 3
   ·simp only[q_c,q_a,q_d,q_b] at tr;obtain⟨_,_,_,_,rfl⟩:=tr;cases Bi
  ·split at tr;rotate_left
   ·cases tr
   split at tr;rotate_left
   ·cases tr
   simp only[q_c,q_a,q_d,q_b] at tr;obtain⟨_,_,_,_,rfl⟩:=tr;cases Bi
  ·simp only[q_c,q_a,q_d,q_b] at tr;obtain⟨_,_,_,_,rfl⟩:=tr;cases Bi
  ·cases tr
 |convert a b x=>
  simp only[Ap] at tr;split at tr
  ·simp only[q_e] at tr;obtain⟨_,_,rfl⟩:=tr;cases Bi
  ·simp only[q_e] at tr;obtain⟨_,_,rfl⟩:=tr;cases Bi
  ·cases tr
 |makeSlice t l c=>
  simp only[Ap,q_c,q_a] at tr;obtain⟨_,_,_,_,tr⟩:=tr;split at tr;rotate_left
  ·cases tr
  simp only[q_a,q_d,q_b] at tr;obtain⟨_,_,_,_,rfl⟩:=tr;cases Bi
 |fieldAddr t x i=>
  simp only[Ap,q_c,q_a] at tr;obtain⟨_,_,tr⟩:=tr;split at tr
  ·cases tr
  simp only[q_a,q_d,q_b] at tr;obtain⟨_,_,rfl⟩:=tr;cases Bi
 |field t x i=>
  simp only[Ap,q_c,q_a] at tr;obtain⟨_,_,_,_,tr⟩:=tr;split at tr;rotate_left
  ·cases tr
  simp only[q_a,q_d,q_b] at tr;obtain⟨_,_,rfl⟩:=tr;cases Bi
 |makeInterface t x=>
  simp only[Ap] at tr;split at tr;rotate_left
  ·cases tr
  split at tr;rotate_left
  ·cases tr
  simp only[q_e] at tr;obtain⟨_,_,rfl⟩:=tr;cases Bi
 |buildSlice t len parts=>
  simp only[Ap,q_c,q_a] at tr;obtain⟨e,Fo,xs,Ho,tr⟩:=tr;split at tr;rotate_left
  ·cases tr
  cases tr;cases Bi
 |slice t x lo hi mx=>
  cases mx with
  |some m=>simp[Ap] at tr
  |none=>
   simp only[Ap] at tr;split at tr
   ·split at tr
    ·simp only[q_c,q_a,q_d,q_b] at tr;obtain⟨ax,Ae,lo',_,Bw,_,rfl⟩:=tr;cases Bi
    ·cases tr
   ·simp only[q_c,q_a,q_d,q_b] at tr;obtain⟨ax,Ae,lo',_,Bw,_,rfl⟩:=tr;cases Bi
   ·cases tr
 |indexAddr t x i=>
  simp only[Ap,q_c,q_a] at tr;obtain⟨e,he,tr⟩:=tr;split at tr;rotate_left
  ·cases tr
  simp only[q_a,q_d,q_b] at tr;obtain⟨ax,Ae,ai,Yd,rfl⟩:=tr;cases Bi
 |_=>simp[Ap] at tr
def Pn(C:CT)(o:Ba)(s:St)(v:SV)(h:List Ob)(q:Prop):Prop:=
 (∃f args vs,(o.op=.call f args\/∃fs x,o.op=.callv fs x args/\s.get x=.fn f/\fs.contains f=true)/\Dg s.hp (args.map s.get)=some (vs,h)/\C.p f vs v/\q) \/
 (∃e,Ai s o.op=some e/\e.ob/\e.val=v/\e.hp=h/\(e.as->q)) \/
 (∃f args vs h0 G G',o.op=.hcall f args/\Dg s.hp (args.map s.get)=some (vs,h0)/\gOf h0=some G/\C.h f G vs (.ret v) G'/\h=h0.set 0 (gOb G')/\q)
def l8(C:CT)(o:Ba)(s:St):Prop:=
 (∃f args vs h0 G G' x,o.op=.hcall f args/\Dg s.hp (args.map s.get)=some (vs,h0)/\gOf h0=some G/\C.h f G vs (.pan x) G'/\C.x x G') \/
 (∃x t G,o.op=.pan x/\s.get x=.ife t/\gOf s.hp=some G/\C.x (.ife t) G)
def PX(w0:World)(own:Nat->Prop)(M0:Mem)(Df:List Deferred)(X:SV->GV->Prop)(Q:Exit->Act->World->Prop):Prop:=
 ∀(E:Env) (u:Value) (x:SV) (G':GV) (a:Act) (w:World),X x G'->Rep E.m u x->W w0 own E w->GI w0.heap.size own E w G'->M0.le E.m->E.m0=M0->a.defers=Df->Q (.panic [{ v:=u,recovered:=false }]) a w
def PXK(w0:World)(own:Nat->Prop)(M0:Mem)(Df:List Deferred)(KP:Env->Act->Prop)(X:SV->GV->Prop)(Q:Exit->Act->World->Prop):Prop:=
 ∀(E:Env) (u:Value) (x:SV) (G':GV) (a:Act) (w:World),X x G'->Rep E.m u x->W w0 own E w->GI w0.heap.size own E w G'->M0.le E.m->E.m0=M0->a.defers=Df->KP E a->Q (.panic [{ v:=u,recovered:=false }]) a w
def KT(T:List (Nat×SV))(E:Env)(a:Act):Prop:=∀p∈T,RelV E (a.tmps.getD p.1 undef) p.2
theorem px_k{w0:World}{own:Nat->Prop}{M0:Mem}{Df:List Deferred}{X:SV->GV->Prop}{Q:Exit->Act->World->Prop}(h:PX w0 own M0 Df X Q):PXK w0 own M0 Df (KT []) X Q:=
 fun E u x G' a w h1 h2 h3 h4 h5 h6 h7 _=>h E u x G' a w h1 h2 h3 h4 h5 h6 h7
def A5u:AOp->Bool
 |.pan _=>true
 |_=>false
theorem Bg7{op:Op}{aop:AOp}(Ea:∀x,op≠.panic x)(tr:Ap P op=some aop):A5u aop=false:=by
 cases op<;>(try exact absurd rfl (Ea _))<;>simp only[Ap] at tr<;>repeat' first
  |rfl
  |contradiction
  |(cases tr;done)
  |(obtain⟨_,tr⟩:=tr)
  |split at tr
  |(simp only[q_c,q_a,q_e,q_d,q_b] at tr)
  |(subst tr;rfl)
def A5t:AOp->Bool
 |.bin ..=>true
 |_=>false
theorem Bg5{op:Op}{aop:AOp}(Ea:∀bop t x y yt,op≠.binOp bop t x y yt)(tr:Ap P op=some aop):A5t aop=false:=by
 cases op<;>(try exact absurd rfl (Ea _ _ _ _ _))<;>simp only[Ap] at tr<;>repeat' first
  |rfl
  |contradiction
  |(cases tr;done)
  |(obtain⟨_,tr⟩:=tr)
  |split at tr
  |(simp only[q_c,q_a,q_e,q_d,q_b] at tr)
  |(subst tr;rfl)
theorem At1{o:Oper}{kd:Nat}{bop:BinOp}{ax ay:AX}{va vb:SV}(tr:Ap P o.op=some (.bin kd bop ax ay))(hc:Gf kd bop (s.get ax) (s.get ay)=some (va,vb))(hW:W w0 own E w)
  (hx:∀x∈o.op.operands,∀ax,trX x=some ax->RelV E (a.eval x) (s.get ax)) (K:Act->World->Prop) (Q:Exit->Act->World->Prop) (hK:∀u v,(v=va/\l7 (s.get ax) (s.get ay))\/v=vb->RelV E u v->K (a.put o.dst u) w):o.wp P a w K Q:=by
 obtain⟨dst,op,ty,pos,after,guard⟩:=o;simp only at tr hx;have hb:∃bop t x y yt,op=.binOp bop t x y yt:=by
  by_cases h:∃bop t x y yt,op=.binOp bop t x y yt
  ·exact h
  ·have:=Bg5 (fun b t x y yt he=>h ⟨b,t,x,y,yt,he⟩) tr;cases this
 obtain⟨bop',t,x,y,yt,rfl⟩:=hb;have Iw:∃l l2 z z2 c c2,s.get ax=.dref z l c/\s.get ay=.dref z2 l2 c2/\kd=2/\psz l=true/\psz l2=true/\((bop=.eql/\va=.bool true/\vb=.bool false)\/(bop=.neq/\va=.bool false/\vb=.bool true)):=by
  unfold Gf at hc;split at hc;rotate_left
  ·cases hc
  rename_i h1 h2;split at hc;rotate_left
  ·cases hc
  rename_i hk;refine⟨_,_,_,_,_,_,h1,h2,hk.1,hk.2.1,hk.2.2,?_⟩;split at hc
  ·cases hc;exact .inl ⟨rfl,rfl,rfl⟩
  ·cases hc;exact .inr ⟨rfl,rfl,rfl⟩
  ·cases hc
 obtain⟨l,l2,z,z2,c,c2,g1,g2,rfl,p1,p2,hv⟩:=Iw;have Gj:bop'=bop/\trX x=some ax/\trX y=some ay/\∃e,P.underlying t=some (.pointer e)/\∃i,P.info? e=some i/\i.size≠0:=by
  simp only[Ap] at tr;split at tr
  iterate 3
   ·simp only[q_c,q_a,q_d,q_b] at tr;obtain⟨_,_,_,_,h⟩:=tr;cases h
  ·rename_i e hk;split at tr;rotate_left
   ·cases tr
   rename_i inf hinf;split at tr;rotate_left
   ·cases tr
   rename_i Bl;simp only[q_c,q_a,q_d,q_b] at tr;obtain⟨_,h1,_,h2,h⟩:=tr;cases h;exact⟨rfl,h1,h2,e,hk,inf,hinf,Bl⟩
  ·simp only[q_c,q_a,q_d,q_b] at tr;obtain⟨_,_,_,_,h⟩:=tr;cases h
  ·cases tr
 obtain⟨rfl,Ae,Co,e,Hd,inf,hinf,Bl⟩:=Gj;have hu:=hx x (by simp[Op.operands]) ax Ae;have hw:=hx y (by simp[Op.operands]) ay Co;rw[g1] at hu;rw[g2] at hw;generalize hue:a.eval x=u at hu;generalize hwe:a.eval y=v at hw;have Ye:u=v->l7 (.dref z l c) (.dref z2 l2 c2):=fun e=>⟨E.m,u,hu.closed_rep rfl,by rw[e];exact hw.closed_rep rfl⟩
 cases hu.closed_rep rfl with
 |dref _ _ _ b off vs _ _ _ _ q1 _=>
  cases hw.closed_rep rfl with
  |dref _ _ _ b2 off2 vs2 _ _ _ _ q2 _=>
   have hE:=Aij (P:=P) (w:=w) (d:=9999) (a:=⟨b,off+c,none⟩) (b:=⟨b2,off2+c2,none⟩) Hd hinf Bl (fun _=>⟨hW.pl b (q1 p1),hW.pl b2 (q2 p2)⟩);have key:∀r,eqB bop' (decide ((⟨b,off+c,none⟩:Addr)=⟨b2,off2+c2,none⟩))=some r->((r=va/\l7 (.dref z l c) (.dref z2 l2 c2))\/r=vb)->Oper.wp P { dst:=dst,op:=.binOp bop' t x y yt,type:=ty,pos:=pos,after:=after,guard:=guard } a w K Q:=by
    intro r hr Iz;obtain⟨z,r1,r2⟩:=Xs (P:=P) (E:=E) (w:=w) hr hE (by simp) (by simp) (by simp) (by simp) (fun x y=>eqGuard_at_pointer _ _ _ _ _ _) x y;have Hc:(execOp a.eval { dst:=dst,op:=.binOp bop' t x y yt,type:=ty,pos:=pos,after:=after,guard:=guard }).run P w=.ok (.value z) w:=by
     show (do pure (Next.value (<-(do eqGuard bop' t x y (a.eval x) (a.eval y);binOp bop' t (a.eval x) (a.eval y):Sem Value))):Sem Next).run P w=_;rw[Sem.run_bind,hue,hwe,r1];rfl
    unfold Oper.wp;rw[Hc];exact hK z r (by rw[g1,g2];exact Iz) r2
   rcases hv with⟨rfl,rfl,rfl⟩|⟨rfl,rfl,rfl⟩
   ·refine key _ rfl ?_
    by_cases hE:(⟨b,off+c,none⟩:Addr)=⟨b2,off2+c2,none⟩
    ·exact .inl ⟨by first|(rw[decide_eq_true hE];done)|(rw[decide_eq_true hE];rfl),Ye (by rw[hE])⟩
    ·exact .inr (by first|(rw[decide_eq_false hE];done)|(rw[decide_eq_false hE];rfl))
   ·refine key _ rfl ?_
    by_cases hE:(⟨b,off+c,none⟩:Addr)=⟨b2,off2+c2,none⟩
    ·exact .inl ⟨by first|(rw[decide_eq_true hE];done)|(rw[decide_eq_true hE];rfl),Ye (by rw[hE])⟩
    ·exact .inr (by first|(rw[decide_eq_false hE];done)|(rw[decide_eq_false hE];rfl))
theorem Ag2{c:Call}{args:List AX}{vs:List SV}{h:List Ob}(hW:W w0 own E w)(hg:GX w0.heap.size own E w g)(hu:∀i,U i->E.view g i=s.hp[i]?)(Ke:∀y∈c.args.toList,y∈(Op.call c).operands)
  (hx:∀x∈(Op.call c).operands,∀ax,trX x=some ax->RelV E (a.eval x) (s.get ax)) (Ee:Pk c.args.toList=some args) (hcl:Dg s.hp (args.map s.get)=some (vs,h)) (Br:∀i∈Gy s.hp (args.map s.get),U i) :
  ∃E1,(c.args.toList.map a.eval).length=vs.length/\(∀(j:Nat) v x,(c.args.toList.map a.eval)[j]?=some v->vs[j]?=some x->Rep E1.m v x)/\Step (Up g U) w (Pf E) { E with m0:=E.m } E1 w h/\(g.isSome=true->h[0]?=s.hp[0]?):=by
 obtain⟨hl,Fv⟩:=Af9 Ee;have Fb:∀(j:Nat) (v:Value) (x:SV),(c.args.toList.map a.eval)[j]?=some v->(args.map s.get)[j]?=some x->RelV E v x:=by
  intro j v x hv Ca;simp only[List.getElem?_map,q_e] at hv Ca;obtain⟨y,hy,rfl⟩:=hv;obtain⟨ax,Ae,rfl⟩:=Ca;obtain⟨ax',g1,g2⟩:=Fv j y hy;rw[Ae] at g1;cases g1;exact hx y (Ke y (List.mem_of_getElem? hy)) ax g2
 have Ah:(c.args.toList.map a.eval).length=(args.map s.get).length:=by rw[q_g,q_g,hl]
 have Kd:g.isSome=true->∀i∈Gy s.hp (args.map s.get),i≠0:=fun hs=>by
  obtain⟨G,rfl⟩:=Option.isSome_iff_exists.1 hs;exact Alb hW hg.z (fun i h h0=>Rd hu i ⟨h,fun _=>h0⟩) hcl Ah Fb Br
 obtain⟨_,Aag,E1,st1,rep1⟩:=Ahn (U:=Up g U) (w0:=w) (own:=Pf E) (E:={ E with m0:=E.m }) hW.rebase (Rd hu) hcl Ah (fun j v x hv hx=>(Fb j v x hv hx).re) (fun i h=>⟨Br i h,fun hs=>Kd hs i h⟩);exact⟨E1,by rw[Aag,Ah],rep1,st1,fun hs=>(Te hcl).2 0 (fun h=>Kd hs 0 h rfl)⟩
theorem Ahd{c:Call}{f:Nat}{fn:Func}{dst:Option Tmp}{ty:TypeId}{pos:String}{after:Array Edge}{guard:Option (Nat×Bool)}(Kc:P.funcs[f]?=some fn)(Tq:fn.body.isSome=true)(Wj:fn.name≠"runtime.NumGoroutine")
  (Nn:c.callee=.value (.func f)\/∃t,c.callee=.value (.tmp t)/\RelV E (a.eval (.tmp t)) (.fn f)) :
  (execOp a.eval { dst:=dst,op:=.call c,type:=ty,pos:=pos,after:=after,guard:=guard }).run P w=.ok (.enter f (c.args.toList.map a.eval).toArray) w:=by
 have hvs:(c.args.map a.eval)=(c.args.toList.map a.eval).toArray:=by rw[<-Array.toList_map]
 rw[<-hvs];obtain⟨b,hb⟩:=Option.isSome_iff_exists.1 Tq;rcases Nn with Nn|⟨t,Nn,Fb⟩
 ·simp[execOp,resolve,Nn,Act.eval,Deferred.ofValue,invoke,callFunc,Kc,Wj,hb]
 ·have hv:=A1o Fb;simp[execOp,resolve,Nn,hv,Deferred.ofValue,invoke,callFunc,Kc,Wj,hb]
theorem Ajp{c:Call}{f:Nat}{args:List AX}{vs:List SV}{h0:List Ob}{T:HOut->GV->Prop}{dst:Option Tmp}{ty:TypeId}{pos:String}{after:Array Edge}{guard:Option (Nat×Bool)}(tr:Ap P (.call c)=some (.hcall f args))
  (hcl:Dg s.hp (args.map s.get)=some (vs,h0)) (hG:gOf h0=some G) (hC:HContractQ P f G vs T) (hW:W w0 own E w) (hg:GX w0.heap.size own E w g) (hu:∀i,U i->E.view g i=s.hp[i]?) (Br:∀i∈0::Gy s.hp (args.map s.get),U i)
  (hx:∀x∈(Op.call c).operands,∀ax,trX x=some ax->RelV E (a.eval x) (s.get ax)) :
  ∃as,(execOp a.eval { dst:=dst,op:=.call c,type:=ty,pos:=pos,after:=after,guard:=guard }).run P w=.ok (.enter f as) w /\
   Calls P f as w fun e w'=>∃out G' E',T out G'/\Su E'.m e out/\StepV U w0 own E g E' (some G') w' (h0.set 0 (gOb G')):=by
 obtain⟨c',hcc,hc⟩:=l5 tr rfl;cases hcc;rcases hc with⟨f',args',fn,Ey,Kc,Tq,Wj,Ee,Nn⟩|⟨t,args',Ey,_⟩
 rotate_left
 ·cases Ey
 rcases Ey with Ey|Ey
 ·cases Ey
 cases Ey;have Ke:∀y∈c.args.toList,y∈(Op.call c).operands:=fun y hy=>by
  obtain⟨callee,as,ts⟩:=c;simp only at hy Nn;subst Nn;simp[Op.operands,Call.operands,Array.mem_def,hy]
 obtain⟨E1,Ah,rep1,st1,Ka⟩:=Ag2 hW hg hu Ke hx Ee hcl (fun i hi=>Br i (List.mem_cons_of_mem _ hi));have st:=StepV.of_pure hW hg hu st1 (fun hs _=>Ka hs);have hU:U 0:=Br 0 List.mem_cons_self;have hg1:=My (s:={ s with hp:=h0 }) st.on hU st.wo hG;subst hg1;have Ch:0<h0.length:=by
  rcases Nat.eq_zero_or_pos h0.length with h|h
  ·have:=Xu hG;rw[List.getElem?_eq_none (by omega)] at this;cases this
  ·exact h
 refine⟨_,Ahd (E:=E) Kc Tq Wj (.inl Nn),Calls.mono (hC E1.m w _ ⟨st.wo.mem,st.wo.pl⟩ st.gx.sat Ah rep1) (fun e w' he=>?_)⟩;obtain⟨out,G',hT,m',k1,k2,k3,k4,k5,k6,k7,k8,k9,k10,k11⟩:=he;obtain⟨g1,g2,g3⟩:=W.hcalled st.wo st.gx k2 k3 k4 k5 k6 k7 k8 k9 k10 k11;refine⟨out,G',{ E1 with m:=m',m0:=E.m0 },hT,k1,⟨st.ext.trans g1,g2,g3,fun o ho=>?_,fun o ho=>?_,rfl,fun hn=>by cases hn⟩⟩
 ·by_cases Lg:o=0
  ·subst Lg;rw[List.getElem?_set_self Ch];simp[Env.view]
  ·rw[Jv Lg];have:=st.on o ho;simp only[Env.view,if_neg Lg] at this |-;exact this
 ·have Lg:o≠0:=by rintro rfl;exact ho hU
  have:=st.off o ho;simp only[Env.view,if_neg Lg] at this |-;exact this
theorem Ajq{c:Call}{f:Nat}{args:List AX}{vs:List SV}{h0:List Ob}{G':GV}{out:HOut}{dst:Option Tmp}{ty:TypeId}{pos:String}{after:Array Edge}{guard:Option (Nat×Bool)}(tr:Ap P (.call c)=some (.hcall f args))
  (hcl:Dg s.hp (args.map s.get)=some (vs,h0)) (hG:gOf h0=some G) (hC:HContract P f G vs out G') (hW:W w0 own E w) (hg:GX w0.heap.size own E w g) (hu:∀i,U i->E.view g i=s.hp[i]?) (Br:∀i∈0::Gy s.hp (args.map s.get),U i)
  (hx:∀x∈(Op.call c).operands,∀ax,trX x=some ax->RelV E (a.eval x) (s.get ax)) :
  ∃as,(execOp a.eval { dst:=dst,op:=.call c,type:=ty,pos:=pos,after:=after,guard:=guard }).run P w=.ok (.enter f as) w /\
   Calls P f as w fun e w'=>∃E',Su E'.m e out/\StepV U w0 own E g E' (some G') w' (h0.set 0 (gOb G')):=by
 obtain⟨as,h1,h2⟩:=Ajp (dst:=dst) (ty:=ty) (pos:=pos) (after:=after) (guard:=guard) tr hcl hG hC.q hW hg hu Br hx;refine⟨as,h1,Calls.mono h2 (fun e w' he=>?_)⟩;obtain⟨o,G1,E',⟨rfl,rfl⟩,k1,k2⟩:=he;exact⟨E',k1,k2⟩
theorem Ac9{o:Oper}{ao:Ba}{v:SV}{h:List Ob}{q:Prop}(tr:Ap P o.op=some ao.op)(hD:Pn (Av P X) ao s v h q)(hW:W w0 own E w)(hg:GX w0.heap.size own E w g)(hu:∀i,U i->E.view g i=s.hp[i]?)
  (As:g.isSome=true->0<s.hp.length) (hn:Gr s ao.op=true->U s.hp.length) (Br:∀i∈Cu s ao.op,U i) (hx:∀x∈o.op.operands,∀ax,trX x=some ax->RelV E (a.eval x) (s.get ax)) (K:Act->World->Prop) (Q:Exit->Act->World->Prop)
  (hK:∀u w' E' g',RelV E' u v->StepV U w0 own E g E' g' w' h->q->K (a.put o.dst u) w'):o.wp P a w K Q:=by
 rcases hD with⟨f,args,vs,Ay,hcl,hC,hq⟩|⟨e,he,hob,rfl,rfl,hq⟩|⟨f,args,vs,h0,G,G',Ay,hcl,hG,hC,rfl,hq⟩
 ·obtain⟨dst,op,ty,pos,after,guard⟩:=o;obtain⟨d,aop,gu,id,fp,chk⟩:=ao;simp only at Ay tr hx hn Br hK;obtain⟨c,rfl,hc⟩:=l5 tr (by rcases Ay with h|⟨fs,x,h,_⟩<;>· rw[h];rfl);have Ke:∀y∈c.args.toList,y∈(Op.call c).operands:=fun y hy=>by
   obtain⟨callee,as,ts⟩:=c;simp only at hy;have Ey:(∃f,callee=.value (.func f))\/∃t,callee=.value (.tmp t):=by
    rcases hc with⟨f,_,_,_,_,_,_,_,h⟩|⟨t,_,_,_,h⟩
    ·exact .inl ⟨f,h⟩
    ·exact .inr ⟨t,h⟩
   rcases Ey with⟨f,rfl⟩|⟨t,rfl⟩<;>simp[Op.operands,Call.operands,Array.mem_def,hy]
  have hfun:∃fn,P.funcs[f]?=some fn/\fn.body.isSome=true/\fn.name≠"runtime.NumGoroutine"/\Pk c.args.toList=some args/\(c.callee=.value (.func f)\/∃t,c.callee=.value (.tmp t)/\RelV E (a.eval (.tmp t)) (.fn f)):=by
   rcases Ay with Ay|⟨fs,x,Ay,hfx,Cz⟩
   ·rcases hc with⟨f',args',fn,Ey,h1,h2,h3,h4,h5⟩|⟨t,args',Ey,_⟩
    ·rw[Ay] at Ey;rcases Ey with Ey|Ey
     ·cases Ey;exact⟨fn,h1,h2,h3,h4,.inl h5⟩
     ·cases Ey
    ·rw[Ay] at Ey;cases Ey
   ·rcases hc with⟨f',args',fn,Ey,_⟩|⟨t,args',Ey,h4,h5⟩
    ·rw[Ay] at Ey;rcases Ey with Ey|Ey<;>cases Ey
    ·rw[Ay] at Ey;cases Ey;have hm:f∈o9 P c.argTypes:=List.contains_iff_mem.1 Cz;unfold o9 at hm;rw[List.mem_filter] at hm;have hm2:=hm.2;split at hm2
     ·rename_i fn Kc;simp only[Bool.and_eq_true,bne_iff_ne,ne_eq] at hm2;refine⟨fn,Kc,hm2.2.1,hm2.2.2,h4,.inr ⟨t,h5,?_⟩⟩;rw[<-hfx];exact hx (.tmp t) (by obtain⟨callee,as,ts⟩:=c;simp only at h5;subst h5;simp[Op.operands,Call.operands]) (.t t) rfl
     ·cases hm2
  obtain⟨fn,Kc,Tq,Wj,Ee,Nn⟩:=hfun;have Br:∀i∈Gy s.hp (args.map s.get),U i:=by
   rcases Ay with Ay|⟨fs,x,Ay,_,_⟩<;>· subst Ay;exact Br
  obtain⟨E1,Ah,rep1,st1,h0⟩:=Ag2 hW hg hu Ke hx Ee hcl Br;unfold Oper.wp;rw[Ahd Kc Tq Wj Nn];simp only[Oper.upon];refine Calls.mono (hC E1.m w _ ⟨st1.wo.mem,st1.wo.pl⟩ Ah rep1) (fun e w' he=>?_);obtain⟨u,m',rfl,k1,k2,k3,k4,k5,k6,k7,k8,k9⟩:=he;obtain⟨g1,g2⟩:=st1.wo.called k2 k3 k4 k5 k6 k7 k8 k9;exact hK u w' { E1 with m:=m',m0:=E.m0 } g (.rep _ _ k1) (StepV.of_pure (E1:={ E1 with m:=m' }) hW hg hu ⟨st1.ext.trans g1,g2,st1.on,st1.off⟩ (fun hs _=>h0 hs)) hq
 ·cases Bi:Hi s ao.op with
  |false=>
   obtain⟨u,w',E',h1,h2,h3,h4⟩:=Bal (P:=P) (o:=o) tr Bi he hob hW hg hu As hn Br hx;unfold Oper.wp;rcases h1 with h1|⟨h1,rfl⟩
   ·rw[h1];exact hK u w' E' g h2 h3 (hq h4)
   ·rw[h1];exact hK undef w' E' g h2 h3 (hq h4)
  |true=>
   obtain⟨u,w',E',g',h1,h2,h3,h4⟩:=A2a (P:=P) (o:=o) tr Bi he hob hW hg hu Br hx;unfold Oper.wp;rcases h1 with h1|⟨h1,rfl⟩
   ·rw[h1];exact hK u w' E' g' h2 h3 (hq h4)
   ·rw[h1];exact hK undef w' E' g' h2 h3 (hq h4)
 ·obtain⟨dst,op,ty,pos,after,guard⟩:=o;obtain⟨d,aop,gu,id,fp,chk⟩:=ao;simp only at Ay tr hx hn Br hK;subst Ay;obtain⟨c,rfl,_⟩:=l5 tr rfl;obtain⟨as,hr,Yf⟩:=Ajq (dst:=dst) (ty:=ty) (pos:=pos) (after:=after) (guard:=guard) tr hcl hG hC hW hg hu Br hx;unfold Oper.wp;rw[hr];simp only[Oper.upon];refine Calls.mono Yf (fun e w' he=>?_);obtain⟨E',⟨u,rfl,Bq⟩,st⟩:=he;exact hK u w' E' (some G') (.rep _ _ Bq) st hq
theorem Ah9{KP:Env->Act->Prop}{o:Oper}{ao:Ba}(tr:Ap P o.op=some ao.op)(hD:l8 (Av P X) ao s)(hW:W w0 own E w)(hg:GX w0.heap.size own E w g)(hu:∀i,U i->E.view g i=s.hp[i]?)
  (Br:∀i∈Cu s ao.op,U i) (hx:∀x∈o.op.operands,∀ax,trX x=some ax->RelV E (a.eval x) (s.get ax)) (hM:M0.le E.m) (hz:E.m0=M0) (En:a.defers=Df) (K:Act->World->Prop) (Q:Exit->Act->World->Prop) (hQ:PXK w0 own M0 Df KP X Q) (Rz:∀E',Ext0 E E'->KP E' a):o.wp P a w K Q:=by
 obtain⟨dst,op,ty,pos,after,guard⟩:=o;obtain⟨d,aop,gu,id,fp,chk⟩:=ao;simp only at tr hx Br;rcases hD with⟨f,args,vs,h0,G,G',x,Ay,hcl,hG,hC,hX⟩|⟨x,t,G,Ay,hxt,hG,hX⟩
 ·simp only at Ay;subst Ay;obtain⟨c,rfl,_⟩:=l5 tr rfl;obtain⟨ars0,hr,Yf⟩:=Ajq (dst:=dst) (ty:=ty) (pos:=pos) (after:=after) (guard:=guard) tr hcl hG hC hW hg hu Br hx;unfold Oper.wp;rw[hr];simp only[Oper.upon];refine Calls.mono Yf (fun e w' he=>?_);obtain⟨E',⟨u,rfl,Bq⟩,st⟩:=he;exact hQ E' u x G' a w' hX Bq st.wo st.gx (hM.trans st.ext.m) (st.ext.z.trans hz) En (Rz E' st.ext)
 ·simp only at Ay;subst Ay;have Ay:∃y,op=.panic y/\trX y=some x:=by
   cases op with
   |panic y=>
    simp only[Ap,q_e] at tr;obtain⟨ax,Ae,h⟩:=tr;cases h;exact⟨y,rfl,Ae⟩
   |_=>have:=Bg7 (by intro y h;cases h) tr;cases this
  obtain⟨y,rfl,hy⟩:=Ay;have hv:=hx y (by simp[Op.operands]) x hy;rw[hxt] at hv;have hU:U 0:=Br 0 (by simp[Cu]);have:=My hu hU hW hG;subst this;have hr:=hv.closed_rep rfl;have Fj:a.eval y=.iface t (.agg #[]):=by
   generalize a.eval y=u at hr;cases hr;rfl
  unfold Oper.wp;have:(execOp a.eval { dst:=dst,op:=.panic y,type:=ty,pos:=pos,after:=after,guard:=guard }).run P w=.halt (.panic (a.eval y)) w:=by
   simp[execOp,Fj,Instr.panic,goPanic]
  rw[this];simp only[Oper.upon];exact hQ E _ _ G a w hX hr hW hg hM hz En (Rz E (Ext0.refl E))
structure SR(w0:World)(own:Nat->Prop)(M0:Mem)(B:Env->Prop)(Df:List Deferred)(E:Env)(g:Option (GV))(s:St)(a:Act)(w:World):Prop where
 wo:W w0 own E w
 gx:GX w0.heap.size own E w g
 hp:∀o,E.view g o=s.hp[o]?
 len:s.sl.length=a.tmps.size
 sl:∀i,RelV E (a.tmps.getD i undef) (s.sl.getD i .undef)
 dfr:a.defers=Df
 z:E.m0=M0
 le:M0.le E.m
 d:g=none->E.m.d=M0.d
 hb:g.isSome=true->B E
theorem SR.ne(hS:SR w0 own M0 B Df E g s a w)(h:g.isSome=true):0<s.hp.length:=by
 obtain⟨G,rfl⟩:=Option.isSome_iff_exists.1 h;have:=hS.hp 0;simp only[Env.view,if_true] at this;rcases Nat.eq_zero_or_pos s.hp.length with h0|h0
 ·rw[List.getElem?_eq_none (by omega)] at this;cases this
 ·exact h0
theorem Abk{u:Value}{v:SV}{d:Option Nat}{hp:List Ob}(hl:s.sl.length=a.tmps.size)(h:∀i,RelV E (a.tmps.getD i undef) (s.sl.getD i .undef))(hv:RelV E u v) :
  ∀i,RelV E ((a.put d u).tmps.getD i undef) (({ s with hp:=hp }.put d v).sl.getD i .undef):=by
 intro i;cases d with
 |none=>exact h i
 |some d=>
  by_cases hd:d=i
  ·subst hd;rcases Nat.lt_or_ge d a.tmps.size with Ab|Fu
   ·simp[Act.put,St.put,Array.getElem?_setIfInBounds,List.getElem?_set,Ab,hl,hv]
   ·have:=h d;simpa [Act.put,St.put,Array.getElem?_setIfInBounds,List.getElem?_set,show ¬d<a.tmps.size by omega,hl] using this
  ·have:=h i;simpa [Act.put,St.put,Array.getElem?_setIfInBounds,List.getElem?_set,hd] using this
theorem Bdp{u:Value}{v:SV}{d:Option Nat}{hp:List Ob}(hl:s.sl.length=a.tmps.size):({ s with hp:=hp }.put d v).sl.length=(a.put d u).tmps.size:=by
 cases d<;>simp[Act.put,St.put,hl]
theorem Anx{u:Value}{d:Option Nat}:(a.put d u).defers=a.defers:=by cases d<;>rfl
theorem Uu{v:SV}{d:Option Nat}:(s.put d v).hp=s.hp:=by cases d<;>rfl
theorem SR.step[hB:Nonempty (StB B)]{u:Value}{v:SV}{d:Option Nat}{h:List Ob}{w':World}{E':Env}{g':Option (GV)}(hS:SR w0 own M0 B Df E g s a w)(hv:RelV E' u v)(st:StepV (fun _=>True) w0 own E g E' g' w' h) :
  SR w0 own M0 B Df E' g' ({ s with hp:=h }.put d v) (a.put d u) w':=by
 refine⟨st.wo,st.gx,fun o=>by rw[Uu];exact st.on o trivial,Bdp hS.len,Abk hS.len (fun i=>(hS.sl i).mono0 st.ext) hv,by rw[Anx];exact hS.dfr,st.ext.z.trans hS.z,hS.le.trans st.ext.m,fun hn=>?_,fun h=>hB.elim fun k=>k.ext _ _ st.ext (hS.hb (by rw[<-st.sm];exact h))⟩;subst hn;have Qj:=st.sm;cases g with
 |none=>exact (st.d rfl).trans (hS.d rfl)
 |some G=>cases Qj
theorem SR.x(hS:SR w0 own M0 B Df E g s a w){x:Operand}{ax:AX}(h:trX x=some ax):RelV E (a.eval x) (s.get ax):=by
 cases x with
 |tmp t=>simp only[trX,q_b] at h;subst h;exact hS.sl t
 |const v=>
  simp only[trX,q_e] at h;obtain⟨sv,hsv,rfl⟩:=h;exact .rep _ _ (Lc hsv).1
 |func f=>simp only[trX,q_b] at h;subst h;exact .rep _ _ (.fn f)
 |_=>simp[trX] at h
theorem Agc{v:Value}(h:RelV E v .undef):v=undef:=by
 cases h with
 |undef=>rfl
 |rep _ _ hr=>cases hr
theorem Ade{o:Oper}{ao:Ba}{ops:Array Oper}(tr:Xf P ops o=some ao):Ap P o.op=some ao.op/\o.dst=ao.d /\
  ((o.guard=none/\ao.g=none)\/∃j want t,o.guard=some (j,want)/\(ops[j]?).bind (·.dst)=some t/\ao.g=some (t,want)):=by
 unfold Xf at tr;split at tr
 ·rename_i op Ay;split at tr
  ·rename_i hg;cases tr;exact⟨Ay,rfl,.inl ⟨hg,rfl⟩⟩
  ·rename_i j want hg;split at tr
   ·rename_i t ht;cases tr;exact⟨Ay,rfl,.inr ⟨j,want,t,hg,ht,rfl⟩⟩
   ·cases tr
 ·cases tr
theorem Apj{o:Oper}{f:Nat->Option Bool}(h:o.guard=none):Region.wanted o f=true:=by simp[Region.wanted,h]
theorem Api{o:Oper}{ops:Array Oper}{j t:Nat}{want b:Bool}(h:o.guard=some (j,want))(ht:(ops[j]?).bind (·.dst)=some t)(hv:RelV E (a.tmps.getD t undef) (.bool b)):Region.wanted o (yielded ops a.tmps)=(b==want):=by
 have:=Tc hv;have h2:a.tmps[t]?=some (.bool b):=by
  rw[Array.getD_eq_getD_getElem?] at this;cases h3:a.tmps[t]? with
  |none=>rw[h3] at this;cases this
  |some u=>rw[h3] at this;simpa using this
 simp only[Region.wanted,h,yielded,ht,Option.bind_some,h2];cases b<;>cases want<;>rfl
theorem Apk{o:Oper}{ops:Array Oper}{j t:Nat}{want:Bool}(h:o.guard=some (j,want))(ht:(ops[j]?).bind (·.dst)=some t)(hv:RelV E (a.tmps.getD t undef) .undef):Region.wanted o (yielded ops a.tmps)=false:=by
 have:=Agc hv;rw[Array.getD_eq_getD_getElem?] at this;simp only[Region.wanted,h,yielded,ht,Option.bind_some];cases h3:a.tmps[t]? with
 |none=>rfl
 |some u=>
  rw[h3] at this;have:u=undef:=by simpa using this
  subst this;rfl
theorem A4j{KP:Env->Act->Prop}{o:Oper}{ao:Ba}{f:Nat}{args:List AX}{vs:List SV}{h0:List Ob}{T:HOut->GV->Prop}(tr:Ap P o.op=some ao.op)(Ay:ao.op=.hcall f args)(hcl:Dg s.hp (args.map s.get)=some (vs,h0))(hG:gOf h0=some G)(hC:HContractQ P f G vs T)
  (hW:W w0 own E w) (hg:GX w0.heap.size own E w g) (hu:∀i,U i->E.view g i=s.hp[i]?)
  (Br:∀i∈Cu s ao.op,U i) (hx:∀x∈o.op.operands,∀ax,trX x=some ax->RelV E (a.eval x) (s.get ax)) (hM:M0.le E.m) (hz:E.m0=M0) (En:a.defers=Df) (K:Act->World->Prop) (Q:Exit->Act->World->Prop) (hQ:PXK w0 own M0 Df KP X Q) (Rz:∀E',Ext0 E E'->KP E' a)
  (hK:∀r G',T (.ret r) G'->∀u w' E',RelV E' u r->StepV U w0 own E g E' (some G') w' (h0.set 0 (gOb G'))->K (a.put o.dst u) w') (hX:∀x G',T (.pan x) G'->X x G'):o.wp P a w K Q:=by
 obtain⟨dst,op,ty,pos,after,guard⟩:=o;obtain⟨d,aop,gu,id,fp,chk⟩:=ao;simp only at Ay tr hx Br hK;subst Ay;obtain⟨c,rfl,_⟩:=l5 tr rfl;obtain⟨as,hr,Yf⟩:=Ajp (dst:=dst) (ty:=ty) (pos:=pos) (after:=after) (guard:=guard) tr hcl hG hC hW hg hu Br hx;unfold Oper.wp;rw[hr];simp only[Oper.upon];refine Calls.mono Yf (fun e w' he=>?_);obtain⟨out,G',E',hT,hE,st⟩:=he;cases out with
 |ret r=>
  obtain⟨u,rfl,Bq⟩:=hE;exact hK r G' hT u w' E' (.rep _ _ Bq) st
 |pan x=>
  obtain⟨u,rfl,Bq⟩:=hE;exact hQ E' u x G' a w' (hX x G' hT) Bq st.wo st.gx (hM.trans st.ext.m) (st.ext.z.trans hz) En (Rz E' st.ext)
theorem Axh{C:CT}{o:Ba}{K:St->Prop}(h:vc1 C o s K):(∃v hp q,Pn C o s v hp q/\(q->K ({ s with hp:=hp }.put o.d v)))\/l8 C o s\/(∃kd op x y va vb,o.op=.bin kd op x y/\Gf kd op (s.get x) (s.get y)=some (va,vb)/\(C.b (s.get x) (s.get y)->K (s.put o.d va))/\K (s.put o.d vb)) \/
  (∃f args vs h0 G T,o.op=.hcall f args/\Dg s.hp (args.map s.get)=some (vs,h0)/\gOf h0=some G/\C.q f G vs T/\∀out G',T out G'->(match out with|.ret r=>K ({ s with hp:=h0.set 0 (gOb G') }.put o.d r)|.pan x=>C.x x G')):=by
 unfold vc1 at h;split at h
 ·rename_i f args Ay;split at h
  ·rename_i vs hh hcl;obtain⟨r,hC,hK⟩:=h;exact .inl ⟨r,hh,True,.inl ⟨f,args,vs,.inl Ay,hcl,hC,trivial⟩,fun _=>hK⟩
  ·exact h.elim
 ·rename_i fs x args Ay;split at h
  ·rename_i f hf;split at h
   ·rename_i Cz;split at h
    ·rename_i vs hh hcl;obtain⟨r,hC,hK⟩:=h;exact .inl ⟨r,hh,True,.inl ⟨f,args,vs,.inr ⟨fs,x,Ay,hf,Cz⟩,hcl,hC,trivial⟩,fun _=>hK⟩
    ·exact h.elim
   ·exact h.elim
  ·exact h.elim
 ·rename_i c a b Ay;split at h
  ·rename_i t ht;have he:Ai s o.op=some { ob:=True,val:=if t then s.get a else s.get b,hp:=s.hp }:=by rw[Ay];simp only[Ai,ht,St.val]
   refine .inl ⟨if t then s.get a else s.get b,s.hp,True,.inr (.inl ⟨_,he,trivial,rfl,rfl,fun _=>trivial⟩),fun _=>?_⟩;cases t with
   |true=>exact h.1 rfl
   |false=>exact h.2 rfl
  ·exact h.elim
 ·rename_i f args Ay;split at h
  ·rename_i vs hh hcl;split at h
   ·rename_i G hG;obtain⟨T,hC,hK⟩:=h;exact .inr (.inr (.inr ⟨f,args,vs,hh,G,T,Ay,hcl,hG,hC,hK⟩))
   ·exact h.elim
  ·exact h.elim
 ·rename_i x Ay;split at h
  ·rename_i t ht;split at h
   ·rename_i G hG;exact .inr (.inl (.inr ⟨x,t,G,Ay,ht,hG,h⟩))
   ·exact h.elim
  ·exact h.elim
 ·rename_i kd op x y Ay;split at h
  ·rename_i va vb Wa;exact .inr (.inr (.inl ⟨kd,op,x,y,va,vb,Ay,Wa,h.1,h.2⟩))
  ·split at h
   ·rename_i e he;exact .inl ⟨e.val,e.hp,e.as,.inr (.inl ⟨e,by rw[Ay];exact he,h.1,rfl,rfl,id⟩),h.2⟩
   ·exact h.elim
 ·split at h
  ·rename_i e he;exact .inl ⟨e.val,e.hp,e.as,.inr (.inl ⟨e,he,h.1,rfl,rfl,id⟩),h.2⟩
  ·exact h.elim
theorem StepV.refl{hp:List Ob}(hW:W w0 own E w)(hg:GX w0.heap.size own E w g)(hu:∀i,U i->E.view g i=hp[i]?):StepV U w0 own E g E g w hp:=⟨Ext0.refl E,hW,hg,hu,fun _ _=>rfl,rfl,fun _=>rfl⟩
theorem Ane[hB:Nonempty (StB B)]{TT:List (Nat×SV)}{ops:Array Oper}{Q:Exit->Act->World->Prop}{K:St->Prop}(hX:PXK w0 own M0 Df (KT TT) X Q)(hK:∀E g s a w,SR w0 own M0 B Df E g s a w->K s->Q .normal a w):∀(l:List Oper) (rest:List Ba) (k:Nat) (E:Env) (g:Option (GV)) (s:St) (a:Act) (w:World),Ra P ops l=some rest->(∀(j:Nat) o,l[j]?=some o->ops[k+j]?=some o)->SR w0 own M0 B Df E g s a w->KT TT E a->(∀p∈TT,∀ao∈rest,ao.d≠some p.1)->Ff (Av P X) rest s K->wpOps P ops Q (List.range' k l.length) a w:=by
 intro l
 induction l with
 |nil=>
  intro rest k E g s a w htr _ hS _ _ hvc;simp only[Ra,q_b] at htr;subst htr;simp only[Ff] at hvc;simpa [wpOps] using hK E g s a w hS hvc
 |cons o l ih=>
  intro rest k E g s a w htr Fv hS hkt Ea hvc;simp only[Ra,q_c,q_a,q_d,q_b] at htr;obtain⟨ao,hao,rest',Wm,rfl⟩:=htr;obtain⟨tr,hd,hg⟩:=Ade hao;have hk:ops[k]?=some o:=by simpa using Fv 0 o rfl
  have Yo:∀(j:Nat) o',l[j]?=some o'->ops[k+1+j]?=some o':=fun j o' hj=>by
   have:=Fv (j+1) o' (by simpa using hj)
   rwa [show k+1+j=k+(j+1) by omega]
  have Zc:∀p∈TT,∀b∈rest',b.d≠some p.1:=fun p hp b hb=>Ea p hp b (List.mem_cons_of_mem _ hb)
  have hke:∀E',Ext0 E E'->KT TT E' a:=fun E' hE p hp=>(hkt p hp).mono0 hE
  have Kt:∀E' u,Ext0 E E'->KT TT E' (a.put ao.d u):=fun E' u hE p hp=>by
   have As:=Ea p hp ao (List.mem_cons_self ..);have h1:(a.put ao.d u).tmps.getD p.1 undef=a.tmps.getD p.1 undef:=by
    cases Gi:ao.d with
    |none=>rfl
    |some t=>
     rw[Gi] at As;have h2:¬t=p.1:=fun e=>As (by rw[e])
     simp[Act.put,Array.getElem?_setIfInBounds,h2]
   rw[h1];exact (hkt p hp).mono0 hE
  have go:vc1 (Av P X) ao s (fun s'=>Ff (Av P X) rest' s' K)->o.wp P a w (wpOps P ops Q (List.range' (k+1) l.length)) Q:=by
   intro h1;rcases Axh h1 with⟨v,hp,q,hD,hn⟩|hD|⟨kd,bop,x,y,va,vb,Ay,Wa,k1,k2⟩|⟨f,args,vs,h0,G,T,Ay,hcl,hG,hC,hT⟩
   ·refine Ac9 (U:=fun _=>True) tr hD hS.wo hS.gx (fun i _=>hS.hp i) hS.ne (fun _=>trivial) (fun _ _=>trivial) (fun x _ ax Ae=>hS.x Ae) _ _ (fun u w' E' g' hv st hq=>?_);rw[hd];exact ih rest' (k+1) E' g' _ _ w' Wm Yo (hS.step hv st) (Kt E' u st.ext) Zc (hn hq)
   ·exact Ah9 (KP:=KT TT) (U:=fun _=>True) tr hD hS.wo hS.gx (fun i _=>hS.hp i) (fun _ _=>trivial) (fun x _ ax Ae=>hS.x Ae) hS.le hS.z hS.dfr _ _ hX hke
   ·refine At1 (by rw[<-Ay];exact tr) Wa hS.wo (fun x _ ax Ae=>hS.x Ae) _ _ (fun u v hv hr=>?_);rw[hd];have Fc:=hS.step (d:=ao.d) hr (StepV.refl hS.wo hS.gx (fun o _=>hS.hp o));rcases hv with⟨rfl,hb⟩|rfl
    ·exact ih rest' (k+1) E g _ _ w Wm Yo Fc (Kt E _ (Ext0.refl E)) Zc (k1 hb)
    ·exact ih rest' (k+1) E g _ _ w Wm Yo Fc (Kt E _ (Ext0.refl E)) Zc k2
   ·refine A4j (KP:=KT TT) (U:=fun _=>True) tr Ay hcl hG hC hS.wo hS.gx (fun i _=>hS.hp i) (fun _ _=>trivial) (fun x _ ax Ae=>hS.x Ae) hS.le hS.z hS.dfr _ _ hX hke (fun r G' hr u w' E' hv st=>?_) (fun x G' hx=>hT _ _ hx);rw[hd];exact ih rest' (k+1) E' (some G') _ _ w' Wm Yo (hS.step hv st) (Kt E' u st.ext) Zc (hT _ _ hr)
  have skip:Ff (Av P X) rest' (s.put ao.d .undef) K->wpOps P ops Q (List.range' (k+1) l.length) (a.put o.dst undef) w:=by
   intro h1;refine ih rest' (k+1) E g _ _ w Wm Yo ?_ (by rw[hd];exact Kt E _ (Ext0.refl E)) Zc h1;rw[hd];have:=hS.step (d:=ao.d) (.undef:RelV E undef .undef) (StepV.refl hS.wo hS.gx (fun o _=>hS.hp o));exact this
  rw[List.length_cons,List.range'_succ,wpOps];simp only[hk];rcases hg with⟨hg1,Mj⟩|⟨j,want,t,hg1,Mj,hg3⟩
  ·rw[if_pos (Apj hg1)];simp only[Ff,Mj] at hvc;exact .inl (go hvc)
  ·simp only[Ff,hg3] at hvc;have Fc:=hS.sl t;split at hvc
   ·rename_i b hb;rw[hb] at Fc;have hw:=Api hg1 Mj Fc
    by_cases Pw:b=want
    ·rw[if_pos (by rw[hw];simp[Pw])];exact .inl (go (hvc.1 (by simp[Pw])))
    ·rw[if_neg (by rw[hw];simp[Pw])];exact skip (hvc.2 (by simp[Pw]))
   ·rename_i hb;rw[hb] at Fc;rw[if_neg (by rw[Apk hg1 Mj Fc];simp)];exact skip hvc
   ·exact hvc.elim
end
section
variable{s:St}
theorem Axe{C:CT}{o:Ba}{v:SV}{hp:List Ob}{q:Prop}(h:Pn C o s v hp q):∀i,i ∉ Dd s o.op->hp[i]?=s.hp[i]?:=by
 intro i hi;rcases h with⟨f,args,vs,Ay,hcl,_⟩|⟨e,he,_,_,rfl,_⟩|⟨f,args,vs,h0,G,G',Ay,hcl,_,_,rfl,_⟩
 ·rcases Ay with Ay|⟨fs,x,Ay,_,_⟩ <;>
  ·rw[Ay] at hi;simp only[Dd,reader,Cx,Cu,Gr,Bool.false_eq_true,if_false,List.append_nil] at hi;exact (Te hcl).2 i hi
 ·exact Agp he i hi
 ·rw[Ay] at hi;simp only[Dd,reader,Cx,Cu,Gr,Bool.false_eq_true,if_false,List.append_nil,List.mem_cons,not_or] at hi;rw[Jv hi.1];exact (Te hcl).2 i hi.2
end
section
variable{X:Type}(f:Nat->Nat->X)(wr:Nat->Nat->Bool)
def atL(L:Nat->Bool):Nat->Nat->X
 |0,p=>f 0 p
 |k+1,p=>if L k && wr k p then f (k+1) p else atL L k p
variable{f wr}
theorem o6{L:Nat->Bool}(hf:∀k p,wr k p=false->f (k+1) p=f k p){p:Nat}:∀{k:Nat},(∀j,j<k->wr j p=true->L j=true)->atL f wr L k p=f k p:=by
 intro k
 induction k with
 |zero=>intro _;rfl
 |succ k ih=>
  intro h;simp only[atL];cases hw:wr k p with
  |true=>simp[h k (Nat.lt_succ_self k) hw]
  |false=>simp only[Bool.and_false,Bool.false_eq_true,if_false];rw[hf k p hw];exact ih (fun j hj=>h j (Nat.lt_succ_of_lt hj))
theorem Ag5{L:Nat->Bool}(hf:∀k p,wr k p=false->f (k+1) p=f k p){p i:Nat}(h1:∀j,j<i->wr j p=true->L j=true):∀{n:Nat},i<=n->(∀k,i<=k->k<n->wr k p=true->L k=false)->atL f wr L n p=f i p:=by
 intro n
 induction n with
 |zero=>intro hi _;have:i=0:=by omega
        subst this;rfl
 |succ n ih=>
  intro hi h2
  by_cases hn:i=n+1
  ·subst hn;exact o6 hf h1
  ·simp only[atL];have:=ih (by omega) (fun k hk Kt=>h2 k hk (by omega));cases hw:wr n p with
   |true=>simp[h2 n (by omega) (by omega) hw,this]
   |false=>simp[this]
theorem Aql{L:Nat->Bool}(hf:∀k p,wr k p=false->f (k+1) p=f k p){p i:Nat}(h1:∀j,j<i->wr j p=true->L j=true):∀{n:Nat},i<=n->atL f wr L n p=f i p\/∃k,i<=k/\k<n/\L k=true/\wr k p=true/\atL f wr L n p=f (k+1) p:=by
 intro n
 induction n with
 |zero=>intro hi;have:i=0:=by omega
        subst this;exact .inl rfl
 |succ n ih=>
  intro hi
  by_cases hn:i=n+1
  ·subst hn;exact .inl (o6 hf h1)
  ·by_cases hw:(L n && wr n p)=true
   ·refine .inr ⟨n,by omega,Nat.lt_succ_self n,by simp at hw;exact hw.1,by simp at hw;exact hw.2,?_⟩;simp only[atL,hw,if_true]
   ·have e:atL f wr L (n+1) p=atL f wr L n p:=by simp only[atL,hw,if_false];rfl
    rcases ih (by omega) with h|⟨k,k1,k2,k3,k4,k5⟩
    ·exact .inl (e.trans h)
    ·exact .inr ⟨k,k1,by omega,k3,k4,e.trans k5⟩
theorem Ag6{L:Nat->Bool}{p i:Nat}(hL:L i=true)(hw:wr i p=true):∀{n:Nat},i<n->(∀k,i<k->k<n->wr k p=true->L k=false)->atL f wr L n p=f (i+1) p:=by
 intro n
 induction n with
 |zero=>intro hi;omega
 |succ n ih=>
  intro hi h2;simp only[atL]
  by_cases hn:i=n
  ·subst hn;simp[hL,hw]
  ·have:=ih (by omega) (fun k hk Kt=>h2 k hk (by omega));cases He:wr n p with
   |true=>simp[h2 n (by omega) (by omega) He,this]
   |false=>simp[this]
theorem Ag3{L L':Nat->Bool}{p i:Nat}(hL:∀k,k≠i->L' k=L k)(hw:wr i p=false):∀{n:Nat},atL f wr L' n p=atL f wr L n p:=by
 intro n
 induction n with
 |zero=>rfl
 |succ n ih=>
  simp only[atL]
  by_cases hn:n=i
  ·subst hn;simp[hw,ih]
  ·rw[hL n hn,ih]
theorem Ag4{L:Nat->Bool}(hL:∀k,L k=false){p:Nat}:∀{n:Nat},atL f wr L n p=f 0 p:=by
 intro n
 induction n with
 |zero=>rfl
 |succ n ih=>simp[atL,hL n,ih]
end
def Ve(ops:Array Oper)(L:Nat->Bool):Prop:=∀j o,ops[j]?=some o->L j=true->∀e∈o.after,Region.binds .any e=true->L e.on=true
theorem A8p{acc:List Nat}{i:Nat}:∀{es:List Edge},(msk acc es).testBit i=true->∃e∈es,Region.binds .any e=true/\(i=e.on\/(acc.getD e.on 0).testBit i=true):=by
 intro es
 induction es with
 |nil=>intro h;simp[msk] at h
 |cons e r ih=>
  intro h;simp only[msk] at h;split at h
  ·rename_i hb;simp only[Nat.testBit_or,Bool.or_eq_true,Nat.testBit_two_pow,decide_eq_true_eq] at h;rcases h with (h|h)|h
   ·obtain⟨e',h1,h2⟩:=ih h;exact⟨e',List.mem_cons_of_mem _ h1,h2⟩
   ·exact⟨e,List.mem_cons_self,hb,.inl h.symm⟩
   ·exact⟨e,List.mem_cons_self,hb,.inr h⟩
  ·obtain⟨e',h1,h2⟩:=ih h;exact⟨e',List.mem_cons_of_mem _ h1,h2⟩
theorem Amv{ops:Array Oper}{L:Nat->Bool}(hL:Ve ops L):∀(l:List Oper) (acc:List Nat),(∀(j:Nat) o,l[j]?=some o->ops[acc.length+j]?=some o) ->
  (∀k i,(acc.getD k 0).testBit i=true->L k=true->L i=true)->∀k i,((Qs l acc).getD k 0).testBit i=true->L k=true->L i=true:=by
 intro l
 induction l with
 |nil=>intro acc _ h;exact h
 |cons o l ih=>
  intro acc Fv h;refine ih (acc++[msk acc o.after.toList]) (fun j o' hj=>?_) (fun k i hb hk=>?_)
  ·have:=Fv (j+1) o' (by simpa using hj)
   rwa [List.length_append,List.length_singleton,show acc.length+1+j=acc.length+(j+1) by omega]
  ·by_cases Ys:k<acc.length
   ·rw[List.getD_eq_getElem?_getD,List.getElem?_append_left Ys,<-List.getD_eq_getElem?_getD] at hb;exact h k i hb hk
   ·by_cases hke:k=acc.length
    ·subst hke;rw[List.getD_eq_getElem?_getD,List.getElem?_append_right (Nat.le_refl _)] at hb;simp only[Nat.sub_self,List.getElem?_cons_zero,Option.getD_some] at hb;obtain⟨e,he,w5,hi⟩:=A8p hb;have h0:ops[acc.length]?=some o:=by simpa using Fv 0 o rfl
     have hLe:=hL _ o h0 hk e (Array.mem_def.2 he) w5;rcases hi with rfl|hi
     ·exact hLe
     ·exact h _ i hi hLe
    ·rw[List.getD_eq_getElem?_getD,List.getElem?_append_right (by omega),List.getElem?_eq_none (by simp;omega)] at hb;simp at hb
theorem Apt{s:St}{op:AOp}{e:Eff}(h:Ai s op=some e):s.hp.length<=e.hp.length:=by
 cases op with
 |new cells=>simp only[Ai,q_b] at h;subst h;simp
 |box x=>simp only[Ai,q_b] at h;subst h;simp
 |mk sz bytes zero l c=>
  simp only[Ai] at h;split at h
  ·cases h;simp
  ·cases h
 |bslice sz ps=>
  simp only[Ai] at h;split at h
  ·rename_i rows hh hr;cases h;obtain⟨l',h1,_,_⟩:=p7 hr;have:=(Te h1).1;simp;omega
  ·cases h
 |load ag n x=>simp only[Ai] at h;rw[Ago h];exact Nat.le_refl _
 |slc z x lo hi=>simp only[Ai] at h;rw[Agq h];exact Nat.le_refl _
 |len st x=>simp only[Ai] at h;rw[Agn h];exact Nat.le_refl _
 |store n x y=>
  simp only[Ai,Rg] at h;split at h
  ·split at h;rotate_left
   ·cases h
   split at h;rotate_left
   ·cases h
   split at h
   ·cases h;simp
   ·split at h;rotate_left
    ·cases h
    rename_i x' hh Hj;split at h;rotate_left
    ·cases h
    split at h;rotate_left
    ·cases h
    cases h;have:=(Nd Hj).1;simp;omega
  ·split at h;rotate_left
   ·cases h
   rename_i x' hh Hj;split at h;rotate_left
   ·cases h
   split at h;rotate_left
   ·cases h
   cases h;have:=(Nd Hj).1;simp;omega
  ·cases h
 |app sz bytes x y=>
  simp only[Ai,Vh] at h;split at h;rotate_left
  ·cases h
  split at h
  ·cases h;simp
  ·split at h;rotate_left
   ·cases h
   split at h;rotate_left
   ·cases h
   cases h;simp
  ·cases h
 |iad sz x y=>
  simp only[Ai] at h;split at h
  ·cases h;exact Nat.le_refl _
  ·cases h
 |build zero parts=>simp only[Ai,q_b] at h;subst h;exact Nat.le_refl _
 |call f args=>simp[Ai] at h
 |callv fs x args=>simp[Ai] at h
 |hcall f args=>simp[Ai] at h
 |pan x=>simp[Ai] at h
 |newg cells=>
  simp only[Ai] at h;split at h
  ·cases h;simp
  ·cases h
 |boxg x=>
  simp only[Ai] at h;split at h;rotate_left
  ·cases h
  rename_i v hh Hj;split at h;rotate_left
  ·cases h
  cases h;have:=(Nd Hj).1;simp;omega
 |mkmap=>
  simp only[Ai] at h;split at h
  ·cases h;simp
  ·cases h
 |six x i=>
  simp only[Ai] at h;split at h
  ·cases h;exact Nat.le_refl _
  ·cases h
 |arr parts=>simp only[Ai,q_b] at h;subst h;exact Nat.le_refl _
 |mlk z x k=>
  simp only[Ai] at h;split at h;rotate_left
  ·cases h
  split at h;rotate_left
  ·cases h
  split at h
  ·cases h;exact Nat.le_refl _
  ·cases h
 |mup x k v=>
  simp only[Ai] at h;split at h;rotate_left
  ·cases h
  rename_i Hj;split at h;rotate_left
  ·cases h
  split at h;rotate_left
  ·cases h
  split at h;rotate_left
  ·cases h
  cases h;have:=(Nd Hj).1;simp;omega
 |fld ag off n x=>
  simp only[Ai] at h;split at h
  ·cases h;exact Nat.le_refl _
  ·cases h
 |_=>
  simp only[Ai] at h
  first
   |(rw[Ab9 h];exact Nat.le_refl _)
   |(repeat' (split at h)
     all_goals first|(rw[Ab9 h];exact Nat.le_refl _)|(cases h;done))
theorem GX.drew{n0:Nat}{own:Nat->Prop}{E:Env}{w:World}{g:Option (GV)}(h:GX n0 own E w g):GX n0 own E { w with drawn:=w.drawn+1 } g:=by
 cases g with
 |none=>trivial
 |some G=>exact⟨h.z,⟨h.sat.dom,h.sat.inj,fun i r b hr hb=>(h.sat.row i r b hr hb).mono (.refl _) rfl,h.sat.free⟩,h.new,h.obs⟩
def Ly(o:Ba)(s:St)(b:Bool):Prop:=
 match o.g with
 |none=>b=true
 |some (t,want)=>(∃c,s.sl.getD t .undef=.bool c/\b=(c==want))\/(s.sl.getD t .undef=.undef/\b=false)
structure Trace(C:CT)(l:List Ba)(s:St)(fps:List (Nat×AOp×St))(p:Prop)(K:St->Prop)(n:Nat)(σ:Nat->St)(v:Nat->SV)(q:Nat->Prop)(on:Nat->Bool):Prop where
 zero:σ 0=s
 le:n<=l.length
 want:∀i ao,i<n->l[i]?=some ao->Ly ao (σ i) (on i)
 next:∀i ao,i<n->l[i]?=some ao->σ (i+1)=({ σ i with hp:=(σ (i+1)).hp }:St).put ao.d (v i)
 does:∀i ao,i<n->l[i]?=some ao->on i=true->Pn C ao (σ i) (v i) (σ (i+1)).hp (q i)/\∀f∈fps,f.1∈ao.chk->Acu f.2.2 f.2.1 (σ i) ao.op (σ (i+1)).hp
 skip:∀i ao,i<n->l[i]?=some ao->on i=false->v i=.undef/\(σ (i+1)).hp=(σ i).hp/\q i
 apart:∀i j a b,i<j->j<n->l[i]?=some a->l[j]?=some b->on i=true->on j=true->a.fp=true->a.id∈b.chk->Acu (σ i) a.op (σ j) b.op (σ (j+1)).hp
 fin:n=l.length->p->(∀i,i<l.length->q i)->K (σ l.length)
 die:∀ao,l[n]?=some ao->Ly ao (σ n) true/\on n=true/\l8 C ao (σ n)/\ao.chk.contains ao.id=true/\(∀f∈fps,f.1∈ao.chk->∀x∈Dd f.2.2 f.2.1,x ∉ Cx (σ n) ao.op)/\(∀i a,i<n->l[i]?=some a->on i=true->a.fp=true->a.id∈ao.chk->∀x∈Dd (σ i) a.op,x ∉ Cx (σ n) ao.op)
theorem Ahi{o:Ba}{s:St}{fps:List (Nat×AOp×St)}(h:clear o s fps):∀f∈fps,f.1∈o.chk->∀x∈Dd f.2.2 f.2.1,x ∉ Cx s o.op:=by
 unfold clear at h;split at h
 ·rename_i hc;intro f _ hf;rw[hc] at hf;cases hf
 ·exact h
theorem Atg{o:Ba}{s s':St}{fps:List (Nat×AOp×St)}(h:Rh o s fps s'):∀f∈fps,f.1∈o.chk->∀x∈Cx f.2.2 f.2.1,x∈Dd s o.op->Aay o.op=true/\Od f.2.2 f.2.1 s'.hp:=by
 unfold Rh at h;split at h
 ·rename_i hc;intro f _ hf;rw[hc] at hf;cases hf
 ·exact h
theorem Axg{C:CT}{o:Ba}{s:St}{K:St->Prop->Prop}(h:Cj C o s K):(∃v hp q,Pn C o s v hp q/\K ({ s with hp:=hp }.put o.d v) q)\/(l8 C o s/\o.chk.contains o.id=true):=by
 unfold Cj at h;split at h
 ·rename_i f args Ay;split at h
  ·rename_i vs hh hcl;obtain⟨r,hC,hK⟩:=h;exact .inl ⟨r,hh,True,.inl ⟨f,args,vs,.inl Ay,hcl,hC,trivial⟩,hK⟩
  ·exact h.elim
 ·rename_i fs x args Ay;split at h
  ·rename_i f hf;split at h
   ·rename_i Cz;split at h
    ·rename_i vs hh hcl;obtain⟨r,hC,hK⟩:=h;exact .inl ⟨r,hh,True,.inl ⟨f,args,vs,.inr ⟨fs,x,Ay,hf,Cz⟩,hcl,hC,trivial⟩,hK⟩
    ·exact h.elim
   ·exact h.elim
  ·exact h.elim
 ·rename_i c a b Ay;split at h
  ·rename_i t ht;have he:Ai s o.op=some { ob:=True,val:=if t then s.get a else s.get b,hp:=s.hp }:=by rw[Ay];simp only[Ai,ht,St.val]
   refine .inl ⟨if t then s.get a else s.get b,s.hp,True,.inr (.inl ⟨_,he,trivial,rfl,rfl,fun _=>trivial⟩),?_⟩;cases t with
   |true=>exact h.1 rfl
   |false=>exact h.2 rfl
  ·exact h.elim
 ·rename_i f args Ay;split at h
  ·rename_i vs hh hcl;split at h
   ·rename_i G hG;obtain⟨out,G',hC,hK⟩:=h;cases out with
    |ret r=>exact .inl ⟨r,_,True,.inr (.inr ⟨f,args,vs,hh,G,G',Ay,hcl,hG,hC,rfl,trivial⟩),hK⟩
    |pan x=>exact .inr ⟨.inl ⟨f,args,vs,hh,G,G',x,Ay,hcl,hG,hC,hK.2⟩,hK.1⟩
   ·exact h.elim
  ·exact h.elim
 ·exact h.elim
 ·split at h
  ·rename_i e he;exact .inl ⟨e.val,e.hp,e.as,.inr (.inl ⟨e,he,h.1,rfl,rfl,id⟩),h.2⟩
  ·exact h.elim
theorem Anz(s:St)(hp:List Ob)(d:Option Nat)(v:SV):({ s with hp:=hp }.put d v).hp=hp:=Uu
theorem Trace.cons{C:CT}{o:Ba}{l:List Ba}{s s1:St}{fps fps':List (Nat×AOp×St)}{p p':Prop}{K:St->Prop}{n:Nat}{σ:Nat->St}{v:Nat->SV}{q:Nat->Prop}{on:Nat->Bool}
  {v0:SV} {q0:Prop} {b0:Bool} (h:Trace C l s1 fps' p' K n σ v q on) (hw:Ly o s b0) (Bk:s1=({ s with hp:=s1.hp }:St).put o.d v0) (hd:b0=true->Pn C o s v0 s1.hp q0/\∀f∈fps,f.1∈o.chk->Acu f.2.2 f.2.1 s o.op s1.hp)
  (hk:b0=false->v0=.undef/\s1.hp=s.hp/\q0) (hp:p->q0->p') (hf:∀f∈fps,f∈fps') (Qa:b0=true->o.fp=true->(o.id,o.op,s)∈fps') :
  Trace C (o::l) s fps p K (n+1) (fun i=>match i with|0=>s|i+1=>σ i) (fun i=>match i with|0=>v0|i+1=>v i) (fun i=>match i with|0=>q0|i+1=>q i) (fun i=>match i with|0=>b0|i+1=>on i):=by
 have h0:=h.zero;refine⟨rfl,by have:=h.le;simpa using this,fun i ao hi ha=>?_,fun i ao hi ha=>?_,fun i ao hi ha Bj=>?_,fun i ao hi ha Bj=>?_,fun i j a b Il hj ha hb hi Jr Tx Be=>?_,fun hn Hn hq=>?_,fun ao ha=>?_⟩
 ·cases i with
  |zero=>simp at ha;subst ha;exact hw
  |succ i=>exact h.want i ao (by omega) (by simpa using ha)
 ·cases i with
  |zero=>simp at ha;subst ha;simp only[h0];exact Bk
  |succ i=>exact h.next i ao (by omega) (by simpa using ha)
 ·cases i with
  |zero=>simp at ha;subst ha;simp only[h0];exact hd Bj
  |succ i=>
   obtain⟨g1,g2⟩:=h.does i ao (by omega) (by simpa using ha) Bj;exact⟨g1,fun f hfm hc=>g2 f (hf f hfm) hc⟩
 ·cases i with
  |zero=>simp at ha;subst ha;simp only[h0];exact hk Bj
  |succ i=>exact h.skip i ao (by omega) (by simpa using ha) Bj
 ·cases j with
  |zero=>omega
  |succ j=>
   cases i with
   |zero=>
    simp at ha;subst ha;exact (h.does j b (by omega) (by simpa using hb) Jr).2 _ (Qa hi Tx) Be
   |succ i=>exact h.apart i j a b (by omega) (by omega) (by simpa using ha) (by simpa using hb) hi Jr Tx Be
 ·exact h.fin (by simpa using hn) (hp Hn (hq 0 (by simp))) (fun i hi=>hq (i+1) (by simp;omega))
 ·obtain⟨d1,d2,d3,d4,d5,d6⟩:=h.die ao (by simpa using ha);refine⟨d1,d2,d3,d4,fun f hfm hc=>d5 f (hf f hfm) hc,fun i a hi Tl Bj Tx Be=>?_⟩;cases i with
  |zero=>simp at Tl;subst Tl;exact d5 _ (Qa Bj Tx) Be
  |succ i=>exact d6 i a (by omega) (by simpa using Tl) Bj Tx Be
theorem Bha{C:CT}{K:St->Prop}:∀(l:List Ba) (s:St) (fps:List (Nat×AOp×St)) (p:Prop),Gl C l s fps p K->∃n σ v q on,Trace C l s fps p K n σ v q on:=by
 intro l
 induction l with
 |nil=>
  intro s fps p h;simp only[Gl] at h;exact⟨0,fun _=>s,fun _=>.undef,fun _=>True,fun _=>false,rfl,Nat.le_refl _,by simp,by simp,by simp,by simp,by simp,fun _ hp _=>h hp,by simp⟩
 |cons o l ih=>
  intro s fps p h;have go:∀b0,Ly o s b0->b0=true->clear o s fps/\Cj C o s (fun s' q=>Rh o s fps s'/\Gl C l s' (if o.fp then (o.id,o.op,s)::fps else fps) (p/\q) K)->∃n σ v q on,Trace C (o::l) s fps p K n σ v q on:=by
   intro b0 hw hb h;obtain⟨h1,h2⟩:=h;rcases Axg h2 with⟨v0,hp,q0,hD,hK⟩|⟨hD,hc⟩
   ·obtain⟨n,σ,v,q,on,hT⟩:=ih _ _ _ hK.2;exact⟨_,_,_,_,_,hT.cons hw (by rw[Anz]) (fun _=>⟨by rw[Anz];exact hD,fun f hf hc=>⟨Ahi h1 f hf hc,Atg hK.1 f hf hc⟩⟩) (fun h=>by rw[hb] at h;cases h) (fun hp hq=>⟨hp,hq⟩)
     (fun f hf=>by split
                   ·exact List.mem_cons_of_mem _ hf
                   ·exact hf) (fun _ Tx=>by rw[if_pos Tx];exact List.mem_cons_self)⟩
   ·subst hb;refine⟨0,fun _=>s,fun _=>.undef,fun _=>True,fun _=>true,rfl,Nat.zero_le _,fun i _ hi=>by omega,fun i _ hi=>by omega,fun i _ hi=>by omega,fun i _ hi=>by omega,fun i j _ _ _ hj=>by omega,fun hn=>by simp at hn,fun ao ha=>?_⟩;simp at ha;subst ha;exact⟨hw,rfl,hD,hc,Ahi h1,fun i _ hi=>by omega⟩
  have sk:∀b0,Ly o s b0->b0=false->Gl C l (s.put o.d .undef) fps p K->∃n σ v q on,Trace C (o::l) s fps p K n σ v q on:=by
   intro b0 hw hb h;obtain⟨n,σ,v,q,on,hT⟩:=ih _ _ _ h;refine⟨_,_,_,_,_,hT.cons (v0:=.undef) (q0:=True) hw ?_ (fun h=>by rw[hb] at h;cases h) (fun _=>⟨rfl,Uu,trivial⟩) (fun hp _=>hp) (fun f hf=>hf) (fun h=>by rw[hb] at h;cases h)⟩;rw[Uu]
  simp only[Gl] at h;split at h
  ·rename_i hg;exact go true (by simp[Ly,hg]) rfl h
  ·rename_i t want hg;split at h
   ·rename_i b hb
    by_cases Pw:b=want
    ·exact go (b==want) (by simp only[Ly,hg];exact .inl ⟨b,hb,rfl⟩) (by simp[Pw]) (h.1 (by simp[Pw]))
    ·exact sk (b==want) (by simp only[Ly,hg];exact .inl ⟨b,hb,rfl⟩) (by simp[Pw]) (h.2 (by simp[Pw]))
   ·rename_i hb;exact sk false (by unfold Ly;rw[hg];exact .inr ⟨hb,rfl⟩) rfl h
   ·exact h.elim
theorem Bg3{P:Program}{ops:Array Oper}:∀{l:List Oper} {r:List Ba},Ra P ops l=some r->r.length=l.length/\∀(j:Nat) ao,r[j]?=some ao->∃o,l[j]?=some o/\Xf P ops o=some ao:=by
 intro l
 induction l with
 |nil=>intro r h;simp only[Ra,q_b] at h;subst h;simp
 |cons y l ih=>
  intro r h;simp only[Ra,q_c,q_a,q_d,q_b] at h;obtain⟨ay,Co,r',hr,rfl⟩:=h;obtain⟨h1,h2⟩:=ih hr;refine⟨by simp[h1],fun j ao ha=>?_⟩;cases j with
  |zero=>simp at ha;subst ha;exact⟨y,by simp,Co⟩
  |succ j=>obtain⟨o,g1,g2⟩:=h2 j ao (by simpa using ha);exact⟨o,by simpa using g1,g2⟩
theorem Ap9{m:List Nat}{l:List Ba}{j:Nat}{ao:Ba}(h:(o5 m l)[j]?=some ao):∃a0,l[j]?=some a0/\ao.op=a0.op/\ao.d=a0.d/\ao.g=a0.g/\ao.id=j:=by
 simp only[o5,List.getElem?_map,q_e] at h;obtain⟨⟨a0,k⟩,h1,rfl⟩:=h;rw[List.getElem?_zipIdx,q_e] at h1;obtain⟨a1,h2,h3⟩:=h1;cases h3;exact⟨a0,h2,rfl,rfl,rfl,by simp⟩
theorem A7o{ops:Array Oper}{o:Oper}{t:Tmp}(h:Operand.tmp t∈o.op.operands):t∈o.looksAt ops:=
 List.mem_append_left _ (List.mem_filterMap.2 ⟨.tmp t,by simpa using h,rfl⟩)
theorem A7n{ops:Array Oper}{o:Oper}{j t:Nat}{want:Bool}(h:o.guard=some (j,want))(ht:(ops[j]?).bind (·.dst)=some t):t∈o.looksAt ops:=by
 simp[Oper.looksAt,h,ht]
section
variable{P:Program}{w0:World}{own:Nat->Prop}{M0:Mem}{B:Env->Prop}{Df:List Deferred}{ops:Array Oper}{Q:Exit->Act->World->Prop}{K:St->Prop}{l:List Ba}{s:St}{n:Nat}{σ:Nat->St}{v:Nat->SV}{q:Nat->Prop}{on:Nat->Bool}{X:SV->GV->Prop}{g:Option (GV)}
def fO(σ:Nat->St)(k p:Nat):Option Ob:=(σ k).hp[p]?
def wO(l:List Ba)(σ:Nat->St)(on:Nat->Bool)(k p:Nat):Bool:=on k && (match l[k]? with|some ao=>(Dd (σ k) ao.op).contains p|none=>false)
def fS(σ:Nat->St)(k t:Nat):SV:=(σ k).sl.getD t .undef
def wS(l:List Ba)(k t:Nat):Bool:=match l[k]? with|some ao=>ao.d==some t|none=>false
structure Inv(w0:World)(own:Nat->Prop)(M0:Mem)(B:Env->Prop)(Df:List Deferred)(ops:Array Oper)(l:List Ba)(s:St)(n:Nat)(σ:Nat->St)(on:Nat->Bool)(q:Nat->Prop)(L:Nat->Bool)(E:Env)(g:Option (GV))(a:Act)(w:World):Prop where
 down:Ve ops L
 lt:∀k,L k=true->k<n
 wo:W w0 own E w
 gx:GX w0.heap.size own E w g
 hp:∀o,E.view g o=atL (fO σ) (wO l σ on) L l.length o
 len:s.sl.length=a.tmps.size
 sl:∀t,RelV E (a.tmps.getD t undef) (atL (fS σ) (wS l) L l.length t)
 dfr:a.defers=Df
 z:E.m0=M0
 le:M0.le E.m
 d:g=none->E.m.d=M0.d
 ne:g.isSome=true->∀k,0<(σ k).hp.length
 q:∀i,L i=true->q i
 hb:g.isSome=true->B E
theorem Ai0(hT:Trace (Av P X) l s [] True K n σ v q on)(hn:∀k,n<=k->σ (k+1)=σ k):∀k t,wS l k t=false->fS σ (k+1) t=fS σ k t:=by
 intro k t h;unfold fS;rcases Nat.lt_or_ge k n with hk|hk
 ·have Fy:k<l.length:=by have:=hT.le;omega
  have ha:l[k]?=some l[k]:=q_f Fy;rw[hT.next k _ hk ha];simp only[wS,ha,beq_eq_false_iff_ne,ne_eq] at h;cases hd:l[k].d with
  |none=>rfl
  |some d=>
   rw[hd] at h;have:d≠t:=fun e=>h (by rw[e])
   simp[St.put,List.getElem?_set,this]
 ·rw[hn k hk]
theorem u4(hT:Trace (Av P X) l s [] True K n σ v q on)(hn:∀k,n<=k->σ (k+1)=σ k):∀k p,wO l σ on k p=false->fO σ (k+1) p=fO σ k p:=by
 intro k p h;unfold fO;rcases Nat.lt_or_ge k n with hk|hk
 ·have Fy:k<l.length:=by have:=hT.le;omega
  have ha:l[k]?=some l[k]:=q_f Fy;simp only[wO,ha] at h;cases ho:on k with
  |true=>
   rw[ho] at h;simp at h;exact Axe (hT.does k _ hk ha ho).1 p h
  |false=>rw[(hT.skip k _ hk ha ho).2.1]
 ·rw[hn k hk]
theorem c9{i j:Nat}{x y:Oper}{a b:Ba}(h:Mu ops l=true)(Il:i<j)(hx:ops[i]?=some x)(hy:ops[j]?=some y)(ha:l[i]?=some a)(hb:l[j]?=some b) :
  ((Qs ops.toList []).getD j 0).testBit i=true\/(Oper.apart ops x y=true/\(Xt a.op b.op=true\/(a.fp=true/\a.id=i/\i∈b.chk))):=by
 simp only[Mu,Bool.and_eq_true,List.all_eq_true,List.mem_range] at h;have hj:j<l.length:=by
  rcases Nat.lt_or_ge j l.length with h|h
  ·exact h
  ·rw[List.getElem?_eq_none h] at hb;cases hb
 have:=h.2 j hj i Il;simp only[hx,hy,ha,hb,Bool.or_eq_true,Bool.and_eq_true,beq_iff_eq,List.contains_eq_mem,decide_eq_true_eq] at this;rcases this with h|⟨⟨_,h1⟩,h2|⟨⟨h2,h3⟩,h4⟩⟩
 ·exact .inl h
 ·exact .inr ⟨h1,.inl h2⟩
 ·exact .inr ⟨h1,.inr ⟨h2,h3,h4⟩⟩
theorem A9n{i j:Nat}{x y:Oper}{a b:Ba}(h:Mu ops l=true)(Il:i<j)(hx:ops[i]?=some x)(hy:ops[j]?=some y)(ha:l[i]?=some a)(hb:l[j]?=some b)(hc:a.chk.contains i=true):((Qs ops.toList []).getD j 0).testBit i=true:=by
 simp only[Mu,Bool.and_eq_true,List.all_eq_true,List.mem_range] at h;have hj:j<l.length:=by
  rcases Nat.lt_or_ge j l.length with h|h
  ·exact h
  ·rw[List.getElem?_eq_none h] at hb;cases hb
 have:=h.2 j hj i Il;simp only[hx,hy,ha,hb,Bool.or_eq_true,Bool.and_eq_true] at this;rcases this with h|⟨⟨h1,_⟩,_⟩
 ·exact h
 ·rw[hc] at h1;cases h1
theorem Am8(h:Mu ops l=true):l.length=ops.size:=by
 simp only[Mu,Bool.and_eq_true,beq_iff_eq] at h;exact h.1.1
theorem A9o{i:Nat}{o:Oper}{e:Edge}(h:Mu ops l=true)(ho:ops[i]?=some o)(he:e∈o.after)(hb:Region.binds .any e=true):e.on<i:=by
 simp only[Mu,Bool.and_eq_true,List.all_eq_true] at h;have:=h.1.2 (o,i) (by
  rw[List.mem_iff_getElem?];exact⟨i,by rw[List.getElem?_zipIdx];simp[ho]⟩) e (by simpa using he)
 simpa [hb] using this
theorem Ack{L:Nat->Bool}{i j:Nat}{o:Oper}(hd:Ve ops L)(ho:ops[i]?=some o)(hi:∀e∈o.after,Region.binds .any e=true->L e.on=true)(Il:j≠i)(hb:((Qs ops.toList []).getD i 0).testBit j=true):L j=true:=by
 let L':Nat->Bool:=fun k=>L k || k==i
 have hd':Ve ops L':=by
  intro k o' Cv hk e he w5
  by_cases Qf:k=i
  ·subst Qf;rw[ho] at Cv;cases Cv;simp[L',hi e he w5]
  ·have:L k=true:=by simpa [L',Qf] using hk
   simp[L',hd k o' Cv this e he w5]
 have:=Amv hd' ops.toList [] (fun j o hj=>by simpa using hj) (fun k i h=>by simp at h) i j hb (by simp[L']);simpa [L',Il] using this
theorem Acr{L:Nat->Bool}{i k:Nat}(hd:Ve ops L)(hi:L i=false)(hb:((Qs ops.toList []).getD k 0).testBit i=true):L k=false:=by
 cases hk:L k with
 |false=>rfl
 |true=>
  have:=Amv hd ops.toList [] (fun j o hj=>by simpa using hj) (fun k i h=>by simp at h) k i hb hk;rw[hi] at this;cases this
structure Agl(l:List Ba)(n:Nat)(σ:Nat->St)(on:Nat->Bool)(L:Nat->Bool)(i:Nat)(o:Oper)(ao:Ba)(ops:Array Oper):Prop where
 slotR:∀t,t∈o.looksAt ops->atL (fS σ) (wS l) L l.length t=(σ i).sl.getD t .undef
 slotW:∀t,ao.d=some t->∀k,i<k->k<l.length->wS l k t=true->L k=false
 obR:(on i=true->∀p,p∈Cx (σ i) ao.op->atL (fO σ) (wO l σ on) L l.length p=(σ i).hp[p]?) \/
  (∃k,atL (fO σ) (wO l σ on) L l.length 0=(σ (k+1)).hp[0]?/\Od (σ i) ao.op (σ (k+1)).hp/\i<n)
 obE:on i=true->∀p,p∈Dd (σ i) ao.op->atL (fO σ) (wO l σ on) L l.length p=(σ i).hp[p]?
 obW:on i=true->∀p,p∈Dd (σ i) ao.op->∀k,i<k->k<l.length->wO l σ on k p=true->L k=false
theorem Xm{s:St}{op:AOp}{p:Nat}(h:p∈Dd s op):p∈Cx s op:=by
 unfold Dd at h;split at h
 ·cases h
 ·exact h
theorem Aoi{s:St}{op:AOp}{hp':List Ob}(h:Od s op hp'):∃ag m x gi c G G' r r',op=.load ag m x/\s.get x=.gp gi c/\gOf s.hp=some G/\gOf hp'=some G'/\G[gi]?=some r/\G'[gi]?=some r'/\(Ec r'=false/\c+m<=r'.length)/\cut true r'.length ag m c r'=cut true r.length ag m c r:=by
 unfold Od at h;split at h;rotate_left
 ·exact h.elim
 rename_i ag m x;split at h;rotate_left
 ·exact h.elim
 rename_i gi c hx;split at h;rotate_left
 ·exact h.elim
 rename_i G hG;split at h;rotate_left
 ·exact h.elim
 rename_i G' Ni;split at h;rotate_left
 ·exact h.elim
 rename_i r hr;split at h;rotate_left
 ·exact h.elim
 rename_i r' Fz;exact⟨ag,m,x,gi,c,G,G',r,r',rfl,hx,hG,Ni,hr,Fz,h.1,h.2⟩
theorem Afx{s:St}{op:AOp}{hp':List Ob}(h:Od s op hp'):(∀p,p∈Cx s op->p=0)/\Dd s op=[]:=by
 obtain⟨ag,m,x,gi,c,G,G',r,r',rfl,hx,_⟩:=Aoi h;refine⟨fun p hp=>?_,rfl⟩;simp only[Cx,Cu,Gr,hx,adC,Eg,if_true,Bool.false_eq_true,if_false,List.append_nil,List.mem_cons,List.not_mem_nil,or_false] at hp;exact hp
theorem Bft{C:CT}{ao:Ba}{s:St}{v:SV}{h:List Ob}{q:Prop}{hp':List Ob}(hD:Pn C ao s v h q)(hs:Od s ao.op hp'):Pn C ao ({ s with hp:=hp' }:St) v hp' q/\q/\(∀i∈Cu ({ s with hp:=hp' }:St) ao.op,i=0)/\Gr ({ s with hp:=hp' }:St) ao.op=false:=by
 obtain⟨ag,m,x,gi,c,G,G',r,r',Ay,hx,hG,Ni,hr,Fz,ho,hc⟩:=Aoi hs;have Ca:({ s with hp:=hp' }:St).get x=.gp gi c:=by cases x<;>exact hx
 rcases hD with⟨f,args,vs,h1,_⟩|⟨e,he,hob,rfl,rfl,hq⟩|⟨f,args,vs,h0,G,G',h1,_⟩
 ·rw[Ay] at h1;rcases h1 with h1|⟨_,_,h1,_⟩<;>cases h1
 ·rw[Ay] at he;simp only[Ai,hx,Jx,hG,hr,q_b] at he;subst he;have Ku:=hq trivial;refine⟨.inr (.inl ⟨{ ob:=Ec r'=false/\c+m<=r'.length,val:=cut true r'.length ag m c r',hp:=hp' },?_,ho,hc,rfl,fun _=>Ku⟩),Ku,fun i hi=>?_,by rw[Ay];rfl⟩
  ·rw[Ay];simp only[Ai,Ca,Jx,Ni,Fz]
  ·rw[Ay] at hi;simp only[Cu,Ca,adC,Eg,if_true,List.mem_cons,List.not_mem_nil,or_false] at hi;exact hi
 ·rw[Ay] at h1;cases h1
theorem Bbf{L:Nat->Bool}{i:Nat}{o:Oper}{ao:Ba}(hok:Mu ops l=true)(hT:Trace (Av P X) l s [] True K n σ v q on)(hn:∀k,n<=k->σ (k+1)=σ k)(Wc:∀(k:Nat) a o,l[k]?=some a->ops[k]?=some o->o.dst=a.d)
  (Cz:i<=n) (Kb:∀k,L k=true->k<n) (hd:Ve ops L) (hL:L i=false) (ho:ops[i]?=some o) (ha:l[i]?=some ao) (hr:∀e∈o.after,Region.binds .any e=true->L e.on=true):Agl l n σ on L i o ao ops:=by
 have Ah:=Am8 hok;have hi:i<l.length:=by
  rcases Nat.lt_or_ge i l.length with h|h
  ·exact h
  ·rw[List.getElem?_eq_none h] at ha;cases ha
 have getk:∀k,k<l.length->∃a x,l[k]?=some a/\ops[k]?=some x:=fun k hk=>⟨l[k],ops[k]'(by omega),q_f hk,Array.getElem?_eq_getElem (by omega)⟩
 have hnot:∀k,n<=k->L k=false:=fun k hk=>by
  cases h:L k with
  |false=>rfl
  |true=>have:=Kb k h;omega
 have Nk:∀(j:Nat) a,j<i->l[j]?=some a->on j=true->on i=true->a.fp=true->a.id∈ao.chk->∀x∈Dd (σ j) a.op,x ∉ Cx (σ i) ao.op:=fun j a hj h1 h2 h3 h4 h5=>by
  rcases Nat.lt_or_ge i n with Ab|Fu
  ·exact (hT.apart j i a ao hj Ab h1 ha h2 h3 h4 h5).1
  ·have:i=n:=by omega
   subst this;exact (hT.die ao ha).2.2.2.2.2 j a hj h1 h2 h4 h5
 -- an elder that writes a place it sees is done,a follower is not
 have slots1:∀t,t∈o.looksAt ops->∀j,j<i->wS l j t=true->L j=true:=by
  intro t ht j hj hw;obtain⟨a,x,h1,h2⟩:=getk j (by omega);simp only[wS,h1,beq_iff_eq] at hw;rcases c9 hok hj h2 ho h1 ha with hb|⟨Nk,_⟩
  ·exact Ack hd ho hr (by omega) hb
  ·exact absurd ht ((Oper.apart_spec Nk).1 t (by rw[Wc j a x h1 h2];exact hw))
 have slots2:∀t,t∈o.looksAt ops->∀k,i<=k->k<l.length->wS l k t=true->L k=false:=by
  intro t ht k hk Fy hw
  by_cases Qf:k=i
  ·subst Qf;exact hL
  obtain⟨a,x,h1,h2⟩:=getk k Fy;simp only[wS,h1,beq_iff_eq] at hw;rcases c9 hok (show i<k by omega) ho h2 ha h1 with hb|⟨Nk,_⟩
  ·exact Acr hd hL hb
  ·exact absurd ht ((Oper.apart_spec Nk).2.2 t (by rw[Wc k a x h1 h2];exact hw))
 have far1:on i=true->∀p,p∈Cx (σ i) ao.op->∀j,j<i->wO l σ on j p=true->L j=true:=by
  intro Bj p hp j hj hw;obtain⟨a,x,h1,h2⟩:=getk j (by omega);simp only[wO,h1,Bool.and_eq_true,List.contains_eq_mem,decide_eq_true_eq] at hw;rcases c9 hok hj h2 ho h1 ha with hb|⟨_,hf|⟨f1,f2,f3⟩⟩
  ·exact Ack hd ho hr (by omega) hb
  ·exfalso;simp only[Xt,Bool.or_eq_true,Bool.not_eq_true',Bool.and_eq_true] at hf;rcases hf with (h|h)|h
   ·have:=Xm hw.2;rw[Ab4 h] at this;cases this
   ·rw[Ab4 h] at hp;cases hp
   ·have:=hw.2;simp[Dd,h.1] at this
  ·exact absurd hp (Nk j a hj h1 hw.1 Bj f1 (by rw[f2];exact f3) p hw.2)
 have far2:on i=true->∀p,p∈Cx (σ i) ao.op->∀k,i<k->k<l.length->wO l σ on k p=true->L k=false\/(Od (σ i) ao.op (σ (k+1)).hp/\k<n):=by
  intro Bj p hp k hk Fy hw;rcases Nat.lt_or_ge k n with Kt|Kt
  rotate_left
  ·exact .inl (hnot k Kt)
  obtain⟨a,x,h1,h2⟩:=getk k Fy;simp only[wO,h1,Bool.and_eq_true,List.contains_eq_mem,decide_eq_true_eq] at hw;rcases c9 hok hk ho h2 ha h1 with hb|⟨_,hf|⟨f1,f2,f3⟩⟩
  ·exact .inl (Acr hd hL hb)
  ·exfalso;simp only[Xt,Bool.or_eq_true,Bool.not_eq_true',Bool.and_eq_true] at hf;rcases hf with (h|h)|h
   ·rw[Ab4 h] at hp;cases hp
   ·have:=Xm hw.2;rw[Ab4 h] at this;cases this
   ·have:=hw.2;simp[Dd,h.2] at this
  ·exact .inr ⟨((hT.apart i k ao a hk Kt ha h1 Bj hw.1 f1 (by rw[f2];exact f3)).2 p hp hw.2).2,Kt⟩
 have far2c:on i=true->∀p,p∈Dd (σ i) ao.op->∀k,i<k->k<l.length->wO l σ on k p=true->L k=false:=by
  intro Bj p hp k hk Fy hw;rcases far2 Bj p (Xm hp) k hk Fy hw with h|⟨h,_⟩
  ·exact h
  ·rw[(Afx h).2] at hp;cases hp
 refine⟨fun t ht=>?_,fun t ht k hk Fy hw=>?_,?_,fun Bj p hp=>?_,fun Bj p hp=>far2c Bj p hp⟩
 ·exact Ag5 (Ai0 hT hn) (slots1 t ht) (Nat.le_of_lt hi) (slots2 t ht)
 ·obtain⟨a,x,h1,h2⟩:=getk k Fy;simp only[wS,h1,beq_iff_eq] at hw;rcases c9 hok hk ho h2 ha h1 with hb|⟨Nk,_⟩
  ·exact Acr hd hL hb
  ·exact absurd (by rw[Wc k a x h1 h2];exact hw) ((Oper.apart_spec Nk).2.1 t (by rw[Wc i ao o ha ho];exact ht))
 ·by_cases hs:∃k,atL (fO σ) (wO l σ on) L l.length 0=(σ (k+1)).hp[0]?/\Od (σ i) ao.op (σ (k+1)).hp/\i<n
  ·exact .inr hs
  ·refine .inl fun Bj p hp=>?_
   rcases Aql (u4 hT hn) (far1 Bj p hp) (Nat.le_of_lt hi) with h|⟨k,k1,k2,k3,k4,k5⟩
   ·exact h
   ·have Qf:k≠i:=by rintro rfl;rw[hL] at k3;cases k3
    rcases far2 Bj p hp k (by omega) k2 k4 with h|⟨h1,h2⟩
    ·rw[h] at k3;cases k3
    ·have:=(Afx h1).1 p hp;subst this;exact absurd ⟨k,k5,h1,by omega⟩ hs
 ·exact Ag5 (u4 hT hn) (far1 Bj p (Xm hp)) (Nat.le_of_lt hi) (fun k hk Fy hw=>by
   by_cases Qf:k=i
   ·subst Qf;exact hL
   ·exact far2c Bj p hp k (by omega) Fy hw)
theorem Aog(hT:Trace (Av P X) l s [] True K n σ v q on)(hn:∀k,n<=k->σ (k+1)=σ k):∀k,(σ k).sl.length=s.sl.length:=by
 intro k
 induction k with
 |zero=>rw[hT.zero]
 |succ k ih=>
  rcases Nat.lt_or_ge k n with hk|hk
  ·rw[hT.next k _ hk (q_f (by have:=hT.le;omega))];cases (l[k]'(by have:=hT.le;omega)).d<;>simp[St.put,ih]
  ·rw[hn k hk,ih]
theorem Bfb(listed:Array Bool)(i:Nat)(hi:i<listed.size)(k:Nat):(listed.setIfInBounds i true).getD k false=(listed.getD k false || k==i):=by
 by_cases h:k=i
 ·subst h;simp[hi]
 ·rw[getD_set_ne false (Ne.symm h)];simp[h]
theorem Inv.step[hB:Nonempty (StB B)]{L L':Nat->Bool}{E E':Env}{g':Option (GV)}{a:Act}{w w':World}{i:Nat}{o:Oper}{ao:Ba}{u:Value}{U:Nat->Prop}(hT:Trace (Av P X) l s [] True K n σ v q on)(hn:∀k,n<=k->σ (k+1)=σ k)(hI:Inv w0 own M0 B Df ops l s n σ on q L E g a w)(hp:Agl l n σ on L i o ao ops)(Cz:i<n)
  (ha:l[i]?=some ao) (ho:ops[i]?=some o) (hr:∀e∈o.after,Region.binds .any e=true->L e.on=true) (hL:L i=false) (Ih:∀k,L' k=(L k || k==i)) (hv:RelV E' u (v i))
  (hU1:∀p,U p->on i=true/\p∈Cx (σ i) ao.op/\atL (fO σ) (wO l σ on) L l.length p=(σ i).hp[p]?) (hU2:on i=true->∀p,p∈Dd (σ i) ao.op->U p)
  (st:StepV U w0 own E g E' g' w' (σ (i+1)).hp) (hq:q i):Inv w0 own M0 B Df ops l s n σ on q L' E' g' (a.put ao.d u) w':=by
 have hi:i<l.length:=by
  rcases Nat.lt_or_ge i l.length with h|h
  ·exact h
  ·rw[List.getElem?_eq_none h] at ha;cases ha
 have hLi:L' i=true:=by simp[Ih]
 have Vy:∀k,k≠i->L' k=L k:=fun k hk=>by simp[Ih,hk]
 have late:∀{wr:Nat->Bool},(∀k,i<k->k<l.length->wr k=true->L k=false)->∀k,i<k->k<l.length->wr k=true->L' k=false:=fun h k h1 h2 h3=>by
  rw[Vy k (by omega)];exact h k h1 h2 h3
 refine⟨fun j o' Cv hj e he hb=>?_,fun k hk=>?_,st.wo,st.gx,fun p=>?_,?_,fun t=>?_,?_,st.ext.z.trans hI.z,hI.le.trans st.ext.m,fun Cc=>?_,fun hs=>hI.ne (by rw[<-st.sm];exact hs),fun j hj=>?_,fun hs=>hB.elim fun k=>k.ext _ _ st.ext (hI.hb (by rw[<-st.sm];exact hs))⟩
 ·by_cases Qd:j=i
  ·subst Qd;rw[ho] at Cv;cases Cv;rw[Ih,hr e he hb];rfl
  ·rw[Ih,hI.down j o' Cv (by rw[<-Vy j Qd];exact hj) e he hb];rfl
 ·by_cases Qf:k=i
  ·omega
  ·exact hI.lt k (by rw[<-Vy k Qf];exact hk)
 ·by_cases hw:wO l σ on i p=true
  ·have hw2:=hw;simp only[wO,ha,Bool.and_eq_true,List.contains_eq_mem,decide_eq_true_eq] at hw2;rw[Ag6 hLi hw hi (late (hp.obW hw2.1 p hw2.2))];exact st.on p (hU2 hw2.1 p hw2.2)
  ·have Zk:wO l σ on i p=false:=by simpa using hw
   rw[Ag3 Vy Zk]
   by_cases hU:U p
   ·rw[st.on p hU,(hU1 p hU).2.2];exact u4 hT hn i p Zk
   ·rw[st.off p hU];exact hI.hp p
 ·cases ao.d<;>simp[Act.put,hI.len]
 ·by_cases hw:wS l i t=true
  ·have hw2:=hw;simp only[wS,ha,beq_iff_eq] at hw2;rw[Ag6 hLi hw hi (late (hp.slotW t hw2))];have hnx:(fS σ (i+1) t)=(({ σ i with hp:=(σ (i+1)).hp }:St).put ao.d (v i)).sl.getD t .undef:=by
    unfold fS;rw[<-hT.next i ao Cz ha]
   rw[hnx,hw2];have hl1:=Aog hT hn i;have hl2:=hI.len;rcases Nat.lt_or_ge t a.tmps.size with Ab|Fu
   ·simpa [Act.put,St.put,Array.getElem?_setIfInBounds,List.getElem?_set,Ab,show t<(σ i).sl.length by omega] using hv
   ·have h1:(a.put (some t) u).tmps.getD t undef=undef:=by simp[Act.put,Array.getElem?_setIfInBounds,show ¬t<a.tmps.size by omega]
    have h2:(({ σ i with hp:=(σ (i+1)).hp }:St).put (some t) (v i)).sl.getD t .undef=.undef:=by
     rw[List.getD_eq_getElem?_getD,List.getElem?_eq_none]
     ·rfl
     ·simp[St.put];omega
    rw[h1,h2];exact .undef
  ·have Zk:wS l i t=false:=by simpa using hw
   rw[Ag3 Vy Zk];have As:ao.d≠some t:=by simpa [wS,ha] using Zk
   have h1:=(hI.sl t).mono0 st.ext;cases Gi:ao.d with
   |none=>exact h1
   |some d=>
    have:d≠t:=fun e=>As (by rw[Gi,e])
    simpa [Act.put,Array.getElem?_setIfInBounds,this] using h1
 ·rw[Anx];exact hI.dfr
 ·subst Cc;have Qj:=st.sm;cases g with
  |none=>exact (st.d rfl).trans (hI.d rfl)
  |some G=>cases Qj
 ·by_cases Qd:j=i
  ·subst Qd;exact hq
  ·exact hI.q j (by rw[<-Vy j Qd];exact hj)
theorem Awn{p p':Nat->Bool}{i:Nat}(h:∀k,p' k=true->p k=true):∀{l:List Nat},i∈l->p i=true->p' i=false->l.countP p'<l.countP p:=by
 intro l
 induction l with
 |nil=>intro hi;cases hi
 |cons x l ih=>
  intro hi h1 h2;rw[List.countP_cons,List.countP_cons];have hle:l.countP p'<=l.countP p:=List.countP_mono_left (fun k _ hk=>h k hk);rcases List.mem_cons.1 hi with rfl|hi
  ·simp[h1,h2];omega
  ·have:=ih hi h1 h2;cases hx:p' x with
   |true=>simp[h x hx];omega
   |false=>simp;omega
theorem Aqm{X:Type}{f:Nat->Nat->X}{wr:Nat->Nat->Bool}{L:Nat->Bool}{p:Nat}(h:∀k,wr k p=false):∀{n:Nat},atL f wr L n p=f 0 p:=by
 intro n
 induction n with
 |zero=>rfl
 |succ n ih=>simp[atL,h n,ih]
theorem Aqa[hB:Nonempty (StB B)]{KP:Env->Act->Prop}(Rz:∀(L:Nat->Bool) E g a w,Inv w0 own M0 B Df ops l s n σ on q L E g a w->∀E',Ext0 E E'->KP E' a)(hX:PXK w0 own M0 Df KP X Q)(hok:Mu ops l=true)(hT:Trace (Av P X) l s [] True K n σ v q on)(hn:∀k,n<=k->σ (k+1)=σ k)(Ke:∀(k:Nat) a,l[k]?=some a->∃o a0,ops[k]?=some o/\Xf P ops o=some a0/\a.op=a0.op/\a.d=a0.d/\a.g=a0.g/\a.id=k)
  (hK:∀E g s a w,SR w0 own M0 B Df E g s a w->K s->Q .normal a w):∀(fuel:Nat) (listed:Array Bool) (E:Env) (g:Option (GV)) (a:Act) (w:World),listed.size=ops.size->(List.range ops.size).countP (fun k=>!listed.getD k false)<=fuel ->
   Inv w0 own M0 B Df ops l s n σ on q (fun k=>listed.getD k false) E g a w->wpAny P .any ops Q fuel listed a w:=by
 have Ah:=Am8 hok;have Wc:∀(k:Nat) a o,l[k]?=some a->ops[k]?=some o->o.dst=a.d:=by
  intro k a o h1 h2;obtain⟨o',a0,g1,g2,g3,g4,g5,g6⟩:=Ke k a h1;rw[h2] at g1;cases g1;rw[g4];exact (Ade g2).2.1
 -- all are done where none is ready
 have alldone:∀(listed:Array Bool),listed.size=ops.size->Region.ready .any ops listed=[]->∀k,k<ops.size->listed.getD k false=true:=by
  intro listed Bl hr k
  induction k using Nat.strongRecOn with
  |_ k ih=>
   intro hk;cases hl:listed.getD k false with
   |true=>rfl
   |false=>
    exfalso;have ho:ops[k]?=some ops[k]:=Array.getElem?_eq_getElem hk;have:k∈Region.ready .any ops listed:=mem_ready.2 ⟨by simpa [Bl,hk] using hl,_,ho,fun e he hb=>by
     have:=A9o hok ho he hb;exact ih e.on this (by omega)⟩
    rw[hr] at this;cases this
 have final:∀(listed:Array Bool) (E:Env) (g:Option (GV)) (a:Act) (w:World),listed.size=ops.size->Region.ready .any ops listed=[]->Inv w0 own M0 B Df ops l s n σ on q (fun k=>listed.getD k false) E g a w->Q .normal a w:=by
  intro listed E g a w Bl hr hI;have Lj:=alldone listed Bl hr;have hnl:n=l.length:=by
   rcases Nat.lt_or_ge n l.length with h|h
   ·have:=hI.lt n (Lj n (by omega));omega
   ·have:=hT.le;omega
  refine hK E g (σ l.length) a w ⟨hI.wo,hI.gx,fun p=>?_,?_,fun t=>?_,hI.dfr,hI.z,hI.le,hI.d,hI.hb⟩ (hT.fin hnl trivial (fun i hi=>hI.q i (Lj i (by omega))))
  ·rw[hI.hp p,o6 (u4 hT hn) (fun j hj _=>Lj j (by omega))];rfl
  ·rw[Aog hT hn];exact hI.len
  ·have:=hI.sl t;rw[o6 (Ai0 hT hn) (fun j hj _=>Lj j (by omega))] at this;exact this
 intro fuel
 induction fuel with
 |zero=>
  intro listed E g a w Bl hc hI;have hr:Region.ready .any ops listed=[]:=by
   rw[List.eq_nil_iff_forall_not_mem];intro k hk;obtain⟨h1,o,ho,_⟩:=mem_ready.1 hk;have Dr:k<ops.size:=(Array.getElem?_eq_some_iff.1 ho).1;have:0<(List.range ops.size).countP (fun k=>!listed.getD k false):=List.countP_pos_iff.2 ⟨k,List.mem_range.2 Dr,by
    have h3:k<listed.size:=by omega
    simp[h3] at h1 |-;exact h1⟩
   omega
  exact⟨hr,final listed E g a w Bl hr hI⟩
 |succ fuel ih=>
  intro listed E g a w Bl hc hI;refine⟨fun hr=>final listed E g a w Bl hr hI,fun i hi=>?_⟩;obtain⟨h1,o,ho,Aeo⟩:=mem_ready.1 hi;have hi2:i<ops.size:=(Array.getElem?_eq_some_iff.1 ho).1;have hiL:listed.getD i false=false:=by
   have h3:i<listed.size:=by omega
   simp[h3] at h1 |-;exact h1
  have ha:l[i]?=some l[i]:=q_f (by omega);obtain⟨o',a0,g1,g2,g3,g4,g5,g6⟩:=Ke i _ ha;rw[ho] at g1;cases g1;obtain⟨tr,hd,hg⟩:=Ade g2;rw[<-g3] at tr;rw[<-g4] at hd;have Cz:i<=n:=by
   rcases Nat.lt_or_ge n i with hni|hni
   ·exfalso;have hnl:n<l.length:=by omega
    have han:l[n]?=some l[n]:=q_f hnl;obtain⟨on',b0,k1,k2,k3,k4,k5,k6⟩:=Ke n _ han;have hc:=(hT.die _ han).2.2.2.1;rw[k6] at hc;have hb:=A9n hok hni k1 ho han ha hc;have:=hI.lt n (Ack hI.down ho Aeo (by omega) hb);omega
   ·exact hni
  have hP:=Bbf hok hT hn Wc Cz hI.lt hI.down hiL ho ha Aeo;have hset:∀k,(listed.setIfInBounds i true).getD k false=(listed.getD k false || k==i):=Bfb listed i (by omega);have hcnt:(List.range ops.size).countP (fun k=>!(listed.setIfInBounds i true).getD k false)<=fuel:=by
   have:(List.range ops.size).countP (fun k=>!(listed.setIfInBounds i true).getD k false)<(List.range ops.size).countP (fun k=>!listed.getD k false):=by
    refine Awn (fun k hk=>?_) (List.mem_range.2 hi2) (by rw[hiL];rfl) (by rw[hset];simp);rw[hset] at hk;simp only[Bool.not_or,Bool.and_eq_true] at hk;exact hk.1
   omega
  have cont:i<n->∀(U:Nat->Prop),(∀p,U p->on i=true/\p∈Cx (σ i) (l[i]'(by omega)).op/\atL (fO σ) (wO l σ on) (fun k=>listed.getD k false) l.length p=(σ i).hp[p]?)->(on i=true->∀p,p∈Dd (σ i) (l[i]'(by omega)).op->U p)->∀(E':Env) (g':Option (GV)) (u:Value) (w':World),RelV E' u (v i)->StepV U w0 own E g E' g' w' (σ (i+1)).hp->q i->wpAny P .any ops Q fuel (listed.setIfInBounds i true) (a.put o.dst u) w':=by
   intro Ab U hU1 hU2 E' g' u w' hv st hq;rw[hd];exact ih _ E' g' _ w' (by simp[Bl]) hcnt (hI.step hT hn hP Ab ha ho Aeo hiL hset hv hU1 hU2 st hq)
  unfold wpOp;simp only[ho];have Akw:∀t,t∈o.looksAt ops->RelV E (a.tmps.getD t undef) ((σ i).sl.getD t .undef):=fun t ht=>by
   have:=hI.sl t
   rwa [hP.slotR t ht] at this
  have hwA:Ly (l[i]'(by omega)) (σ i) (on i):=by
   rcases Nat.lt_or_ge i n with Ab|Fu
   ·exact hT.want i _ Ab ha
   ·have:i=n:=by omega
    subst this;obtain⟨d1,d2,_⟩:=hT.die _ ha;rw[d2];exact d1
  have Aar:Region.wanted o (yielded ops a.tmps)=on i:=by
   have hW:=hwA;rcases hg with⟨hg1,Mj⟩|⟨j,want,t,hg1,Mj,hg3⟩
   ·rw[Apj hg1];simp only[Ly,g5,Mj] at hW;exact hW.symm
   ·have Fc:=Akw t (A7n hg1 Mj);simp only[Ly,g5,hg3] at hW;rcases hW with⟨c,h1,h2⟩|⟨h1,h2⟩
    ·rw[h1] at Fc;rw[Api hg1 Mj Fc,h2]
    ·rw[h1] at Fc;rw[Apk hg1 Mj Fc,h2]
  rw[Aar];have Ho:∀x∈o.op.operands,∀ax,trX x=some ax->RelV E (a.eval x) ((σ i).get ax):=fun x hx ax Ae=>by
   cases x with
   |tmp t=>simp only[trX,q_b] at Ae;subst Ae;exact Akw t (A7o hx)
   |const c=>
    simp only[trX,q_e] at Ae;obtain⟨sv,hsv,rfl⟩:=Ae;exact .rep _ _ (Lc hsv).1
   |func f=>simp only[trX,q_b] at Ae;subst Ae;exact .rep _ _ (.fn f)
   |_=>simp[trX] at Ae
  rcases Nat.lt_or_ge i n with Ab|Fu
  rotate_left
  ·have:i=n:=by omega
   subst this;obtain⟨d1,d2,d3,d4,d5,d6⟩:=hT.die _ ha;rw[d2];simp only[if_true];have hR:on i=true->∀p,p∈Cx (σ i) (l[i]'(by omega)).op->atL (fO σ) (wO l σ on) (fun k=>listed.getD k false) l.length p=(σ i).hp[p]?:=by
    rcases hP.obR with hR|⟨k,_,_,h⟩
    ·exact hR
    ·omega
   exact .inl (Ah9 (KP:=KP) (U:=fun p=>on i=true/\p∈Cx (σ i) (l[i]'(by omega)).op) tr d3 hI.wo hI.gx (fun p hp=>by rw[hI.hp p,hR hp.1 p hp.2]) (fun p hp=>⟨d2,by simp[Cx,hp]⟩) Ho hI.le hI.z hI.dfr _ _ hX (Rz _ E g a w hI))
  cases Bj:on i with
  |false=>
   simp only[Bool.false_eq_true,if_false];obtain⟨e1,e2,e3⟩:=hT.skip i _ Ab ha Bj;exact cont Ab (fun _=>False) (fun _ h=>h.elim) (fun h=>by rw[Bj] at h;cases h) E g undef w (by rw[e1];exact .undef) ⟨Ext0.refl E,hI.wo,hI.gx,fun p hp=>hp.elim,fun _ _=>rfl,rfl,fun _=>rfl⟩ e3
  |true=>
   simp only[if_true];obtain⟨hD,_⟩:=hT.does i _ Ab ha Bj;rcases hP.obR with hR|⟨k,Yr,hks,_⟩
   ·exact .inl (Ac9 (U:=fun p=>on i=true/\p∈Cx (σ i) (l[i]'(by omega)).op) tr hD hI.wo hI.gx (fun p hp=>by rw[hI.hp p,hR hp.1 p hp.2]) (fun hs=>hI.ne hs i) (fun hc=>⟨Bj,by simp[Cx,hc]⟩) (fun p hp=>⟨Bj,by simp[Cx,hp]⟩) Ho _ _
     (fun u w' E' g' hv st hq=>cont Ab _ (fun p hp=>⟨hp.1,hp.2,hR hp.1 p hp.2⟩) (fun h p hp=>⟨h,Xm hp⟩) E' g' u w' hv st hq))
   ·obtain⟨s1,s2,s3,s4⟩:=Bft hD hks;have hxs':∀x∈o.op.operands,∀ax,trX x=some ax->RelV E (a.eval x) (({ σ i with hp:=(σ (k+1)).hp }:St).get ax):=fun x hx ax Ae=>by
     have:=Ho x hx ax Ae;cases ax<;>exact this
    exact .inl (Ac9 (U:=fun p=>p=0) tr s1 hI.wo hI.gx (fun p hp=>by subst hp;rw[hI.hp 0,Yr]) (fun hs=>hI.ne hs (k+1)) (fun hc=>by rw[s4] at hc;cases hc) s3 hxs' _ _
     (fun u w' E' g' hv st hq=>cont Ab (fun _=>False) (fun _ h=>h.elim) (fun _ p hp=>by rw[(Afx hks).2] at hp;cases hp) E' g' u w' hv
      ⟨st.ext,st.wo,st.gx,fun _ h=>h.elim,fun p _=>by
       by_cases Hn:p=0
       ·subst Hn;rw[st.on 0 rfl,hI.hp 0,Yr]
       ·exact st.off p Hn,st.sm,st.d⟩ s2))
theorem Axf{C:CT}{o:Ba}{s:St}{v:SV}{hp:List Ob}{q:Prop}(h:Pn C o s v hp q):s.hp.length<=hp.length:=by
 rcases h with⟨f,args,vs,Ay,hcl,_⟩|⟨e,he,_,_,rfl,_⟩|⟨f,args,vs,h0,G,G',Ay,hcl,_,_,rfl,_⟩
 ·rw[(Te hcl).1];exact Nat.le_refl _
 ·exact Apt he
 ·rw[List.length_set,(Te hcl).1];exact Nat.le_refl _
theorem Aig[hB:Nonempty (StB B)]{T:List (Nat×SV)}{E:Env}{a:Act}{w:World}{l0:List Ba}{id:Nat}(hX:PXK w0 own M0 Df (KT T) X Q)(hT1:∀p∈T,s.sl.getD p.1 .undef=p.2)(hT2:∀p∈T,∀ao∈l,ao.d≠some p.1)(hm:P.follows .mixedOrders=true)(htr:Ra P ops ops.toList=some l0)(hl:l=o5 (Qs ops.toList []) l0)(hok:Mu ops l=true)
  (hK:∀E g s a w,SR w0 own M0 B Df E g s a w->K s->Q .normal a w) (hS:SR w0 own M0 B Df E g s a w) (h:Gl (Av P X) l s [] True K):(Code.region id ops true).wp P Q a w:=by
 obtain⟨n,σ0,v,q,on,hT0⟩:=Bha l s [] True h
 -- the trace,standing still past its end
 let σ:Nat->St:=fun k=>σ0 (min k n)
 have hσ:∀k,k<=n->σ k=σ0 k:=fun k hk=>by simp only[σ];rw[Nat.min_eq_left hk]
 have hT:Trace (Av P X) l s [] True K n σ v q on:=by
  refine⟨by rw[hσ 0 (Nat.zero_le _)];exact hT0.zero,hT0.le,fun i ao hi ha=>?_,fun i ao hi ha=>?_,fun i ao hi ha ho=>?_,fun i ao hi ha ho=>?_,fun i j a b Il hj ha hb=>?_,fun hn _ hq=>by rw[hσ _ (by omega)];exact hT0.fin hn trivial hq,fun ao ha=>?_⟩
  ·rw[hσ i (by omega)];exact hT0.want i ao hi ha
  ·rw[hσ i (by omega),hσ (i+1) hi];exact hT0.next i ao hi ha
  ·rw[hσ i (by omega),hσ (i+1) hi];exact hT0.does i ao hi ha ho
  ·rw[hσ i (by omega),hσ (i+1) hi];exact hT0.skip i ao hi ha ho
  ·rw[hσ i (by omega),hσ j (by omega),hσ (j+1) (by omega)];exact hT0.apart i j a b Il hj ha hb
  ·rw[hσ n (Nat.le_refl _)];obtain⟨d1,d2,d3,d4,d5,d6⟩:=hT0.die ao ha;exact⟨d1,d2,d3,d4,d5,fun i a hi=>by rw[hσ i (by omega)];exact d6 i a hi⟩
 have hn:∀k,n<=k->σ (k+1)=σ k:=fun k hk=>by simp only[σ];rw[Nat.min_eq_right hk,Nat.min_eq_right (by omega)]
 have Ke:∀(k:Nat) a,l[k]?=some a->∃o a0,ops[k]?=some o/\Xf P ops o=some a0/\a.op=a0.op/\a.d=a0.d/\a.g=a0.g/\a.id=k:=by
  intro k a ha;rw[hl] at ha;obtain⟨a0,h1,h2,h3,h4,h5⟩:=Ap9 ha;obtain⟨o,g1,g2⟩:=(Bg3 htr).2 k a0 h1;exact⟨o,a0,by simpa using g1,g2,h2,h3,h4,h5⟩
 have Ah:∀k,s.hp.length<=(σ k).hp.length:=by
  intro k
  induction k with
  |zero=>rw[hT.zero];exact Nat.le_refl _
  |succ k ih=>
   rcases Nat.lt_or_ge k n with hk|hk
   ·have ha:l[k]?=some (l[k]'(by have:=hT.le;omega)):=q_f (by have:=hT.le;omega);cases ho:on k with
    |true=>exact Nat.le_trans ih (Axf (hT.does k _ hk ha ho).1)
    |false=>rw[(hT.skip k _ hk ha ho).2.1];exact ih
   ·rw[hn k hk];exact ih
 have Rz:∀(L:Nat->Bool) E g a w,Inv w0 own M0 B Df ops l s n σ on q L E g a w->∀E',Ext0 E E'->KT T E' a:=fun L E g a w hI E' hE p hp=>by
  have:=(hI.sl p.1).mono0 hE;rw[Aqm (fun k=>?_)] at this
  ·simp only[fS,hT.zero] at this;rw[hT1 p hp] at this;exact this
  ·unfold wS;cases hk:l[k]? with
   |none=>rfl
   |some ao=>simpa using hT2 p hp ao (List.mem_of_getElem? hk)
 refine wp_region_any hm (Aqa (KP:=KT T) Rz hX hok hT hn Ke hK ops.size (Array.replicate ops.size false) E g a _ (by simp) (Nat.le_trans (List.countP_le_length) (by simp)) ?_);have Mn:∀k,(Array.replicate ops.size false).getD k false=false:=fun k=>by
  rcases Nat.lt_or_ge k ops.size with h|h<;>simp[h]
 refine⟨fun j o _ hj=>?_,fun k hk=>?_,hS.wo.drew,hS.gx.drew,fun p=>?_,hS.len,fun t=>?_,hS.dfr,hS.z,hS.le,hS.d,fun hs k=>Nat.lt_of_lt_of_le (hS.ne hs) (Ah k),fun i hi=>?_,hS.hb⟩
 ·rw[Mn j] at hj;cases hj
 ·rw[Mn k] at hk;cases hk
 ·rw[Ag4 Mn,hS.hp p];simp only[fO,hT.zero]
 ·rw[Ag4 Mn];simp only[fS,hT.zero];exact hS.sl t
 ·rw[Mn i] at hi;cases hi
end
section
variable{P:Program}{w0:World}{own:Nat->Prop}{M0:Mem}{B:Env->Prop}{Df:List Deferred}{g:Option (GV)}{X:SV->GV->Prop}
def AE.ex:AE->Exit
 |.normal=>.normal
 |.exit id=>.exit id
 |.ret=>.ret
theorem Ag8{E E':Env}{n:Nat}(hm:E'.m=E.m)(hβ:E'.β=E.β)(ht:E'.t=E.t)(hH:∀o,o<n->E'.H o=E.H o){v:Value}{x:SV}(h:RelV E v x)(hb:Bb n x=true):RelV E' v x:=by
 cases h with
 |J=>exact .J _
 |undef=>exact .undef
 |rep _ _ hr=>exact .rep _ _ (by rw[hm];exact hr)
 |ref o g e c b j ob h1 h2 h3=>
  simp only[Bb,decide_eq_true_eq] at hb;exact .ref o g e c b j ob (by rw[hH o hb];exact h1) h2 (by rw[hβ];exact h3)
 |osl o g off len A k cap ob h1 h2 h3 h4=>
  simp only[Bb,decide_eq_true_eq] at hb;exact .osl o g off len A k cap ob (by rw[hH o hb];exact h1) h2 h3 (by rw[hβ,ht];exact h4)
 |agg vs l h0 h1 h2=>
  simp only[Bb,List.all_eq_true] at hb;refine .agg vs l h0 h1 (fun j v x hv hx=>?_);have Gu:=hb x (List.mem_of_getElem? hx);have Gm:=h0 v (List.mem_of_getElem? hv);cases h2 j v x hv hx with
  |J=>exact .J _
  |undef=>exact .undef
  |rep _ _ hr=>exact .rep _ _ (by rw[hm];exact hr)
  |ref o g e c b j ob k1 k2 k3=>
   simp only[decide_eq_true_eq] at Gu;exact .ref o g e c b j ob (by rw[hH o Gu];exact k1) k2 (by rw[hβ];exact k3)
  |osl o g off len A k cap ob k1 k2 k3 k4=>
   simp only[decide_eq_true_eq] at Gu;exact .osl o g off len A k cap ob (by rw[hH o Gu];exact k1) k2 k3 (by rw[hβ,ht];exact k4)
  |agg=>simp at Gu
theorem SR.closed[hB:Nonempty (StB B)]{E E1:Env}{s:St}{a:Act}{w:World}{h:List Ob}(hS:SR w0 own M0 B Df E g s a w)(st:StepV (fun _=>True) w0 own E g E1 g w h):SR w0 own M0 B Df E1 g { s with hp:=h } a w:=
 ⟨st.wo,st.gx,fun o=>st.on o trivial,hS.len,fun i=>(hS.sl i).mono0 st.ext,hS.dfr,st.ext.z.trans hS.z,hS.le.trans st.ext.m,fun hn=>(st.d hn).trans (hS.d hn),fun h=>hB.elim fun k=>k.ext _ _ st.ext (hS.hb h)⟩
theorem SR.vw{E:Env}{s:St}{a:Act}{w:World}(hS:SR w0 own M0 B Df E g s a w){o:Nat}{ob:Ob}(h:E.H o=some ob):s.hp[o]?=some ob:=by
 have:=hS.hp o;cases g with
 |none=>rw[<-this];exact h
 |some G=>
  have h0:o≠0:=by rintro rfl;have hz:=hS.gx.z;rw[hz] at h;cases h
  simp only[Env.view,if_neg h0] at this;rw[<-this];exact h
theorem GX.objs{n0:Nat}{E E':Env}{w:World}(h:GX n0 own E w g)(hm:E'.m=E.m)(h0:g.isSome=true->E'.H 0=none)(hH:∀o ob,E'.H o=some ob->0<E'.t o->E.H o=some ob/\0<E.t o/\E'.β o=E.β o):GX n0 own E' w g:=by
 cases g with
 |none=>trivial
 |some G=>
  refine⟨h0 rfl,by rw[hm];exact h.sat,by rw[hm];exact h.new,fun i b o ob hi ho ht=>?_⟩;rw[hm] at hi;obtain⟨k1,k2,k3⟩:=hH o ob ho ht;rw[k3];exact h.obs i b o ob hi k1 k2
theorem An8{s:St}{a:Act}{E:Env}{i:Nat}{x v:SV}(hi:s.sl[i]?=some x)(h:∀j,RelV E (a.tmps.getD j undef) (s.sl.getD j .undef))(hv:RelV E (a.tmps.getD i undef) v):∀j,RelV E (a.tmps.getD j undef) ((s.sl.set i v).getD j .undef):=by
 intro j
 by_cases Il:i=j
 ·subst Il;have Ab:i<s.sl.length:=by
   rcases Nat.lt_or_ge i s.sl.length with h|h
   ·exact h
   ·rw[List.getElem?_eq_none h] at hi;cases hi
  rw[List.getD_eq_getElem?_getD,List.getElem?_set_self Ab];exact hv
 ·have:=h j;rw[List.getD_eq_getElem?_getD,List.getElem?_set_ne Il,<-List.getD_eq_getElem?_getD];exact this
theorem A9a{E E':Env}{o:Nat}(hm:E.m.le E'.m)(hH:∀j,j≠o->E'.H j=E.H j)(hβ:∀j,j≠o->E'.β j=E.β j)(ht:∀j,j≠o->E'.t j=E.t j){v:Value}{x:SV}(h:RelV E v x)(hb:In o x=true):RelV E' v x:=by
 cases h with
 |J=>exact .J _
 |undef=>exact .undef
 |rep _ _ hr=>exact .rep _ _ (hr.mono hm)
 |ref o' g e c b j ob h1 h2 h3=>
  simp only[In,decide_eq_true_eq] at hb;exact .ref o' g e c b j ob (by rw[hH o' hb];exact h1) h2 (by rw[hβ o' hb];exact h3)
 |osl o' g off len A k cap ob h1 h2 h3 h4=>
  simp only[In,decide_eq_true_eq] at hb;exact .osl o' g off len A k cap ob (by rw[hH o' hb];exact h1) h2 h3 (by rw[hβ o' hb,ht o' hb];exact h4)
 |agg vs l h0 h1 h2=>
  simp only[In,List.all_eq_true] at hb;refine .agg vs l h0 h1 (fun j v x hv hx=>?_);have Gu:=hb x (List.mem_of_getElem? hx);have Gm:=h0 v (List.mem_of_getElem? hv);cases h2 j v x hv hx with
  |J=>exact .J _
  |undef=>exact .undef
  |rep _ _ hr=>exact .rep _ _ (hr.mono hm)
  |ref o' g e c b j ob k1 k2 k3=>
   simp only[decide_eq_true_eq] at Gu;exact .ref o' g e c b j ob (by rw[hH o' Gu];exact k1) k2 (by rw[hβ o' Gu];exact k3)
  |osl o' g off len A k cap ob k1 k2 k3 k4=>
   simp only[decide_eq_true_eq] at Gu;exact .osl o' g off len A k cap ob (by rw[hH o' Gu];exact k1) k2 k3 (by rw[hβ o' Gu,ht o' Gu];exact k4)
  |agg=>simp at Gu
theorem Acf[hB:Nonempty (StB B)]{s s':St}(h:Wk s s'):∀{g:Option (GV)} {E:Env} {a:Act} {w:World},SR w0 own M0 B Df E g s a w->∃E' g',SR w0 own M0 B Df E' g' s' a w:=by
 induction h with
 |refl s=>intro g E a w hS;exact⟨E,g,hS⟩
 |trans _ _ ih1 ih2=>intro g E a w hS;obtain⟨E1,g1,h1⟩:=ih1 hS;exact ih2 h1
 |slots s l hl hv=>
  intro g E a w hS;refine⟨E,g,hS.wo,hS.gx,hS.hp,by simpa [hl] using hS.len,fun i=>?_,hS.dfr,hS.z,hS.le,hS.d,hS.hb⟩;show RelV E (a.tmps.getD i undef) (l.getD i .undef);have:=hS.sl i;rcases Nat.lt_or_ge i l.length with hi|hi
  ·have h1:l[i]?=some l[i]:=q_f hi;rw[List.getD_eq_getElem?_getD,h1];rcases hv i _ h1 with h2|h2
   ·rw[Option.getD_some,h2];exact .J _
   ·rw[List.getD_eq_getElem?_getD,h2] at this;exact this
  ·rw[List.getD_eq_getElem?_getD,List.getElem?_eq_none (by omega)] at this |-;exact this
 |trunc s n h0 h1 h2 h7=>
  intro g E a w hS;have Ch:g.isSome=true->0<n:=fun hs=>h0 (by
   obtain⟨G,rfl⟩:=Option.isSome_iff_exists.1 hs;have:=hS.hp 0;simp only[Env.view,if_true] at this;rw[A1y this.symm];rfl)
  let E':Env:={ E with H:=fun o=>if o<n then E.H o else none }
  have hH:∀o,o<n->E'.H o=E.H o:=fun o ho=>by simp[E',ho]
  have Aao:∀o ob,E'.H o=some ob->o<n/\E.H o=some ob:=fun o ob ho=>by
   by_cases Bj:o<n
   ·exact⟨Bj,by rw[<-hH o Bj];exact ho⟩
   ·simp[E',Bj] at ho
  refine⟨E',g,⟨⟨hS.wo.os,hS.wo.tape,hS.wo.output,hS.wo.size,hS.wo.block,hS.wo.mem,fun o ob ho=>?_,fun o o' ob ob' k1 k2=>hS.wo.inj o o' ob ob' (Aao _ _ k1).2 (Aao _ _ k2).2,hS.wo.keep,hS.wo.pl⟩,?_,fun o=>?_,hS.len,fun i=>?_,hS.dfr,hS.z,hS.le,hS.d,fun hs=>hB.elim fun k=>k.wk E E' (fun o ob h1 h2=>?_) rfl (hS.hb hs)⟩⟩
  rotate_right
  ·have hv:=hS.vw h1;rcases Nat.lt_or_ge o n with h3|h3
   ·rw[hH o h3];exact h1
   ·have:=h7 ob (List.mem_of_getElem? (i:=o-n) (by rw[List.getElem?_drop,show n+(o-n)=o by omega];exact hv));omega
  ·obtain⟨Bj,hE⟩:=Aao o ob ho;have hk:=hS.wo.obs o ob hE;refine⟨hk.rows,hk.frz,hk.fit,hk.box,hk.bnd,fun ht=>?_⟩;obtain⟨c,e,k⟩:=hk.live ht;refine⟨c,e,⟨k.blk,k.size,k.new,fun j v x hv hx=>?_,k.one,k.old,k.free,k.clo,k.pl⟩⟩
   by_cases hcl:ob.box=false\/ob.cl=true
   ·exact .rep _ _ (k.clo hcl j v x hv hx)
   ·have hb:ob.box=true:=by cases h:ob.box<;>simp[h] at hcl |-
    have hc:ob.cl=false:=by cases h:ob.cl<;>simp[h] at hcl |-
    have hmem:ob∈s.hp.take n:=by
     refine List.mem_of_getElem? (i:=o) ?_;rw[List.getElem?_take,if_pos Bj];exact hS.vw hE
    obtain⟨r,hr,hxr⟩:=List.mem_flatten.1 (List.mem_of_getElem? hx);exact Ag8 (E:=E) (E':=E') (n:=n) rfl rfl rfl hH (k.rel j v x hv hx) (h2 ob hmem hb hc r hr x hxr)
  ·refine hS.gx.objs rfl (fun hs=>?_) (fun o ob ho ht=>⟨(Aao o ob ho).2,ht,rfl⟩);rw[hH 0 (Ch hs)];obtain⟨G,rfl⟩:=Option.isSome_iff_exists.1 hs;exact hS.gx.z
  ·rw[List.getElem?_take,<-hS.hp o];cases g with
   |none=>rfl
   |some G=>
    show (if o=0 then some (gOb G) else if o<n then E.H o else none)=if o<n then (if o=0 then some (gOb G) else E.H o) else none
    have:=Ch rfl
    by_cases Ka:o=0
    ·subst Ka;simp[this]
    ·simp[Ka]
  ·have:=hS.sl i;rcases Nat.lt_or_ge i s.sl.length with hi|hi
   ·refine Ag8 (E:=E) (E':=E') (n:=n) rfl rfl rfl hH this (h1 _ ?_);rw[List.getD_eq_getElem?_getD,q_f hi];exact List.getElem_mem hi
   ·have h3:s.sl.getD i .undef=.undef:=by rw[List.getD_eq_getElem?_getD,List.getElem?_eq_none (by omega)];rfl
    show RelV E' _ (s.sl.getD i .undef);rw[h3] at this |-;rw[Agc this];exact .undef
 |ghost s i sz hi=>
  intro g E a w hS;have hlz:g.isSome=true->s.hp.length≠0:=fun hs=>by have:=hS.ne hs;omega
  have Mn:E.H s.hp.length=none:=by
   cases h:E.H s.hp.length with
   |none=>rfl
   |some ob=>have:=hS.vw h;rw[List.getElem?_eq_none (Nat.le_refl _)] at this;cases this
  let ob:Ob:={ box:=false,sz:=sz,els:=[],frz:=0,gen:=0,cl:=true }
  let E':Env:={ E with H:=fun o=>if o=s.hp.length then some ob else E.H o,t:=fun o=>if o=s.hp.length then 0 else E.t o }
  have As:∀o ob1,E.H o=some ob1->o≠s.hp.length:=fun o ob1 ho=>by rintro rfl;rw[Mn] at ho;cases ho
  have hext:Ext E E':=⟨⟨.refl _,fun o ob1 ho=>⟨ob1,by simp[E',As o ob1 ho,ho],rfl,Nat.le_refl _,fun _=>⟨rfl,by simp[E',As o ob1 ho],Nat.le_refl _⟩⟩,rfl⟩,rfl⟩
  refine⟨E',g,⟨⟨hS.wo.os,hS.wo.tape,hS.wo.output,hS.wo.size,hS.wo.block,hS.wo.mem,fun o ob1 ho=>?_,fun o o' ob1 ob2 k1 k2 hoo t1 t2=>?_,hS.wo.keep,hS.wo.pl⟩,?_,fun o=>?_,?_,fun j=>?_,hS.dfr,hS.z,hS.le,hS.d,fun hs=>hB.elim fun k=>k.ext _ _ hext.toExt0 (hS.hb hs)⟩⟩
  ·by_cases Bj:o=s.hp.length
   ·subst Bj;have:ob1=ob:=by simp[E'] at ho;exact ho.symm
    subst this;exact⟨by simp[ob],by simp[ob],by simp[ob],by simp[ob],by simp[ob],fun h=>by simp[E'] at h⟩
   ·have hE:E.H o=some ob1:=by simpa [E',Bj] using ho
    have hk:=hS.wo.obs o ob1 hE;refine⟨hk.rows,hk.frz,by simpa [E',Bj] using hk.fit,hk.box,hk.bnd,fun ht=>?_⟩;obtain⟨c,e,k⟩:=hk.live (by simpa [E',Bj] using ht);exact⟨c,e,⟨k.blk,by simpa [E',Bj] using k.size,k.new,fun j v x hv hx=>(k.rel j v x hv hx).mono hext,k.one,k.old,k.free,k.clo,by simpa [E',Bj] using k.pl⟩⟩
  ·have n1:o≠s.hp.length:=by rintro rfl;simp[E'] at t1
   have n2:o'≠s.hp.length:=by rintro rfl;simp[E'] at t2
   exact hS.wo.inj o o' ob1 ob2 (by simpa [E',n1] using k1) (by simpa [E',n2] using k2) hoo (by simpa [E',n1] using t1) (by simpa [E',n2] using t2)
  ·refine hS.gx.objs rfl (fun hs=>?_) (fun o ob1 ho ht=>?_)
   ·have:=hlz hs;obtain⟨G,rfl⟩:=Option.isSome_iff_exists.1 hs;have hz:=hS.gx.z;simp only[E',if_neg (Ne.symm this)];exact hz
   ·have Bj:o≠s.hp.length:=by rintro rfl;simp[E'] at ht
    exact⟨by simpa [E',Bj] using ho,by simpa [E',Bj] using ht,rfl⟩
  ·have hv:=hS.hp o
   by_cases Bj:o=s.hp.length
   ·subst Bj;cases g with
    |none=>
     show (if s.hp.length=s.hp.length then some ob else E.H s.hp.length)=(s.hp++[ob])[s.hp.length]?;rw[if_pos rfl,List.getElem?_append_right (Nat.le_refl _),Nat.sub_self,List.getElem?_cons_zero]
    |some G=>
     show (if s.hp.length=0 then some (gOb G) else if s.hp.length=s.hp.length then some ob else E.H s.hp.length)=(s.hp++[ob])[s.hp.length]?;rw[if_neg (hlz rfl),if_pos rfl,List.getElem?_append_right (Nat.le_refl _),Nat.sub_self,List.getElem?_cons_zero]
   ·rw[Vi Bj,<-hv];cases g with
    |none=>simp[Env.view,E',Bj]
    |some G=>simp[Env.view,E',Bj]
  ·simpa using hS.len
  ·show RelV E' _ ((s.sl.set i (.osl s.hp.length 0 0 0)).getD j .undef)
   by_cases Il:i=j
   ·subst Il;have Ab:i<s.sl.length:=by
     rcases Nat.lt_or_ge i s.sl.length with h|h
     ·exact h
     ·rw[List.getElem?_eq_none h] at hi;cases hi
    have hv:=hS.sl i;rw[List.getD_eq_getElem?_getD,hi] at hv;have:=Amx hv;rw[this,List.getD_eq_getElem?_getD,List.getElem?_set_self Ab];exact .osl _ _ _ _ _ _ _ ob (by simp[E']) (Nat.le_refl _) ⟨rfl,Nat.le_refl _,fun h=>by omega⟩ (fun _=>⟨by simp[ob],.inr rfl⟩)
   ·have:=(hS.sl j).mono hext;rw[List.getD_eq_getElem?_getD,List.getElem?_set_ne Il,<-List.getD_eq_getElem?_getD];exact this
 |clos s i x v h hi hc=>
  intro g E a w hS;have hx:=hS.sl i;rw[List.getD_eq_getElem?_getD (l:=s.sl),hi,Option.getD_some] at hx;obtain⟨E1,Bq,st⟩:=p9 (U:=fun _=>True) hS.wo hS.gx (fun o _=>hS.hp o) hc hx (fun _ _=>trivial);have h1:=hS.closed st;exact⟨E1,g,h1.wo,h1.gx,h1.hp,by simpa using h1.len,An8 (s:={ s with hp:=h }) hi h1.sl (.rep _ _ Bq),h1.dfr,h1.z,h1.le,h1.d,h1.hb⟩
 |nil s i sz hi=>
  intro g E a w hS;have hx:=hS.sl i;rw[List.getD_eq_getElem?_getD (l:=s.sl),hi,Option.getD_some] at hx;refine⟨E,g,hS.wo,hS.gx,hS.hp,by simpa using hS.len,An8 hi hS.sl ?_,hS.dfr,hS.z,hS.le,hS.d,hS.hb⟩;revert hx;generalize a.tmps.getD i undef=u;intro hx;cases hx with
  |rep _ _ hr=>exact .rep _ _ (by cases hr;exact .dsl0 _ _ _)
 |promo s o ob G row hG ho Iu hcl hfrz Fp Bt h7 Kg hobs=>
  intro g E a w hS;have:=My (U:=fun _=>True) (fun o _=>hS.hp o) trivial hS.wo hG;subst this;have hg:=hS.gx;have Ch:0<s.hp.length:=hS.ne rfl;have Ka:s.hp[0]?=some (gOb G):=by
   have:=hS.hp 0;simpa [Env.view] using this.symm
  have ho0:o≠0:=by
   rintro rfl;rw[Ka] at ho;cases ho;cases Iu
  have Xy:E.H o=some ob:=by
   have:=hS.hp o;simp only[Env.view,if_neg ho0] at this;rw[this];exact ho
  have hk:=hS.wo.obs o ob Xy;have Bl:row.length=ob.sz:=hk.rows row (by rw[Fp];simp);have ht:0<E.t o:=by
   have:=hk.fit;rw[Fp] at this;have:0<row.length:=List.length_pos_iff.2 Bt;simp at *
   omega
  obtain⟨c,e,k⟩:=hk.live ht;have Db:row.length<=E.t o:=by
   have:=hk.fit;rw[Fp] at this;simp at this;omega
  have Ru:E.m.d G.length=none:=by
   cases h:E.m.d G.length with
   |none=>rfl
   |some b=>have:=(hg.sat.dom G.length).2 ⟨b,h⟩;omega
  have hβd:∀i b,E.m.d i=some b->b≠E.β o:=fun i b hi hb=>hg.obs i b o ob hi Xy ht hb.symm
  let m':Mem:=⟨E.m.c,fun j=>if j=G.length then some (E.β o) else E.m.d j,E.m.p,fun i j b hi hj=>by
   by_cases h1:i=G.length<;>by_cases h2:j=G.length
   ·omega
   ·simp only[if_pos h1,if_neg h2,q_b] at hi hj;exact absurd hi.symm (hβd j b hj)
   ·simp only[if_neg h1,if_pos h2,q_b] at hi hj;exact absurd hj.symm (hβd i b hi)
   ·simp only[if_neg h1,if_neg h2] at hi hj;exact hg.sat.inj i j b hi hj⟩
  have hle:E.m.le m':=⟨fun _ _ _ h=>h,fun i b h=>by
   have:i≠G.length:=by rintro rfl;rw[Ru] at h;cases h
   simp only[m',if_neg this];exact h,fun b h=>h⟩
  have Gi:∀j b,m'.d j=some b->(j=G.length/\b=E.β o)\/(j≠G.length/\E.m.d j=some b):=fun j b h=>by
   by_cases hj:j=G.length
   ·simp only[m',if_pos hj,q_b] at h;exact .inl ⟨hj,h.symm⟩
   ·simp only[m',if_neg hj] at h;exact .inr ⟨hj,h⟩
  let E':Env:={ E with m:=m',H:=fun j=>if j=o then some (Eu ob.sz) else E.H j,t:=fun j=>if j=o then 0 else E.t j }
  have Rm:∀j,j≠o->E'.H j=E.H j:=fun j hj=>by simp[E',hj]
  have Se:∀j,j≠o->E'.t j=E.t j:=fun j hj=>by simp[E',hj]
  have Fb:∀{v:Value} {x:SV},RelV E v x->In o x=true->RelV E' v x:=fun h hb=>A9a (E:=E) (E':=E') hle Rm (fun _ _=>rfl) Se h hb
  have Aj2:m'.d G.length=some (E.β o):=by simp[m']
  have To:∀j,E.m (E.β o) j=none:=fun j=>k.free j (by rw[hfrz];omega)
  refine⟨E',some (G++[row]),⟨⟨hS.wo.os,hS.wo.tape,hS.wo.output,hS.wo.size,hS.wo.block,hS.wo.mem,fun j ob' hj=>?_,fun j j' ob1 ob2 k1 k2 hjj t1 t2=>?_,hS.wo.keep,hS.wo.pl⟩,⟨?_,⟨fun j=>?_,fun i j b hi hj=>m'.inj i j b hi hj,fun j r b hr hb=>?_,fun i b j hi=>?_⟩,fun i b hi=>?_,fun i b j ob' hi hj Zj=>?_⟩,fun j=>?_,by simpa using hS.len,fun i=>?_,hS.dfr,hS.z,hS.le.trans hle,(fun h=>by cases h),fun _=>hB.elim fun k=>k.wk E E' (fun j ob1 h1 h2=>?_) rfl (hS.hb rfl)⟩⟩
  rotate_right
  ·have hj:j≠o:=by
    rintro rfl;rw[Xy] at h1;cases h1;omega
   rw[Rm j hj];exact h1
  ·by_cases Jr:j=o
   ·subst Jr;have:ob'=Eu ob.sz:=by simp[E'] at hj;exact hj.symm
    subst this;exact⟨by simp[Eu],by simp[Eu],by simp[Eu],by simp[Eu],by simp[Eu],fun h=>by simp[E'] at h⟩
   ·have hE:E.H j=some ob':=by rw[<-Rm j Jr];exact hj
    have hk':=hS.wo.obs j ob' hE;refine⟨hk'.rows,hk'.frz,by rw[Se j Jr];exact hk'.fit,hk'.box,hk'.bnd,fun Zj=>?_⟩;obtain⟨c',e',q⟩:=hk'.live (by rw[<-Se j Jr];exact Zj);refine⟨c',e',⟨q.blk,by rw[Se j Jr];exact q.size,q.new,fun n v x hv hx=>?_,q.one,q.old,q.free,fun hb n v x hv hx=>(q.clo hb n v x hv hx).mono hle,q.pl⟩⟩
    by_cases hc:ob'.box=false\/ob'.cl=true
    ·exact .rep _ _ ((q.clo hc n v x hv hx).mono hle)
    ·have Me:ob'.box=true:=by cases h:ob'.box<;>simp[h] at hc |-
     have Jo:ob'.cl=false:=by cases h:ob'.cl<;>simp[h] at hc |-
     obtain⟨r,hr,hxr⟩:=List.mem_flatten.1 (List.mem_of_getElem? hx);exact Fb (q.rel n v x hv hx) (hobs j ob' (hS.vw hE) Jr Me Jo r hr x hxr)
  ·have n1:j≠o:=by rintro rfl;simp[E'] at t1
   have n2:j'≠o:=by rintro rfl;simp[E'] at t2
   exact hS.wo.inj j j' ob1 ob2 (by rw[<-Rm j n1];exact k1) (by rw[<-Rm j' n2];exact k2) hjj (by rw[<-Se j n1];exact t1) (by rw[<-Se j' n2];exact t2)
  ·show E'.H 0=none;rw[Rm 0 (Ne.symm ho0)];exact hg.z
  ·rw[List.length_append,List.length_singleton];constructor
   ·intro hj
    by_cases Rx:j=G.length
    ·exact⟨E.β o,by rw[Rx];exact Aj2⟩
    ·obtain⟨b,hb⟩:=(hg.sat.dom j).1 (by omega);exact⟨b,hle.d _ _ hb⟩
   ·rintro ⟨b,hb⟩;rcases Gi j b hb with⟨h,_⟩|⟨_,h⟩
    ·omega
    ·have:=(hg.sat.dom j).2 ⟨b,h⟩;omega
  ·rcases Gi j b hb with⟨h1,h2⟩|⟨h1,h2⟩
   ·subst h1 h2;rw[List.getElem?_append_right (Nat.le_refl _),Nat.sub_self,List.getElem?_cons_zero,q_b] at hr;subst hr;refine .cells _ c e k.blk (by rw[k.size];exact Db) (fun n v x hv hx=>⟨(k.clo (.inr hcl) n v x hv ?_).mono hle,k.one n v hv⟩) (fun n v hv=>k.one n v hv);rw[Fp];simpa using hx
   ·have Ab:j<G.length:=(hg.sat.dom j).2 ⟨b,h2⟩;rw[List.getElem?_append_left Ab] at hr;exact (hg.sat.row j r b hr h2).mono hle rfl
  ·rcases Gi i b hi with⟨h1,h2⟩|⟨h1,h2⟩
   ·subst h2;exact To j
   ·exact hg.sat.free i b j h2
  ·rcases Gi i b hi with⟨h1,h2⟩|⟨h1,h2⟩
   ·subst h2;exact k.new
   ·exact hg.new i b h2
  ·have n1:j≠o:=by rintro rfl;simp[E'] at Zj
   have hE:E.H j=some ob':=by rw[<-Rm j n1];exact hj
   rcases Gi i b hi with⟨h1,h2⟩|⟨h1,h2⟩
   ·subst h2;exact hS.wo.inj j o ob' ob hE Xy n1 (by rw[<-Se j n1];exact Zj) ht
   ·exact hg.obs i b j ob' h2 hE (by rw[<-Se j n1];exact Zj)
  ·have holt:o<s.hp.length:=(List.getElem?_eq_some_iff.1 ho).1
   by_cases hj0:j=0
   ·subst hj0;rw[List.getElem?_set_ne ho0,List.getElem?_set_self Ch];simp[Env.view]
   ·by_cases Jr:j=o
    ·subst Jr;rw[List.getElem?_set_self (by simpa using holt)];simp[Env.view,hj0,E']
    ·rw[List.getElem?_set_ne (Ne.symm Jr),List.getElem?_set_ne (Ne.symm hj0),<-hS.hp j];simp only[Env.view,if_neg hj0];exact Rm j Jr
  ·have hrl:=hS.sl i;rcases Nat.lt_or_ge i s.sl.length with hi|hi
   ·have h1:s.sl[i]?=some s.sl[i]:=q_f hi;have hmem:=Kg _ (List.mem_of_getElem? h1);rw[List.getD_eq_getElem?_getD,h1,Option.getD_some] at hrl;rw[List.getD_eq_getElem?_getD,List.getElem?_map,h1];show RelV E' _ (Gd o G.length s.sl[i]);revert hrl hmem;generalize s.sl[i]=x;intro hrl hmem
    by_cases hx:In o x=true
    ·have:Gd o G.length x=x:=by
      cases x with
      |ref o' g' e' c'=>
       simp only[In,decide_eq_true_eq] at hx;simp[Gd,hx]
      |_=>rfl
     rw[this];exact Fb hrl hx
    ·cases x with
     |ref o' g' e' c'=>
      simp only[In,decide_eq_true_eq,Classical.not_not] at hx;subst hx;simp only[Oc,ne_eq,not_true_eq_false,decide_false,Bool.false_or,Bool.and_eq_true,beq_iff_eq] at hmem;obtain⟨rfl,rfl⟩:=hmem;simp only[Gd,if_true];generalize a.tmps.getD i undef=u at hrl;cases hrl with
      |rep _ _ hr=>cases hr
      |ref _ _ _ _ b j ob1 h1 h2 h3=>
       rw[Xy] at h1;cases h1;obtain⟨rfl,rfl⟩:=h3 rfl;rw[Nat.zero_mul,Nat.zero_add];exact .rep _ _ (.gp _ _ _ Aj2 k.pl)
     |_=>exact absurd hmem (by simpa [Oc] using hx)
   ·have hz:(List.map (Gd o G.length) s.sl).getD i .undef=.undef:=by rw[List.getD_eq_getElem?_getD,List.getElem?_eq_none (by simpa using hi)];rfl
    rw[hz];rw[List.getD_eq_getElem?_getD (l:=s.sl),List.getElem?_eq_none hi] at hrl;rw[Agc hrl];exact .undef
theorem Of[hB:Nonempty (StB B)](hm:P.follows .mixedOrders=true):∀(c:Code) (ac:AC),trC P c=some ac->∀{QA:AE->St->Prop} {Q:Exit->Act->World->Prop},PX w0 own M0 Df X Q->(∀e E g s a w,SR w0 own M0 B Df E g s a w->QA e s->Q e.ex a w) ->
  ∀(E:Env) (g:Option (GV)) (s:St) (a:Act) (w:World),SR w0 own M0 B Df E g s a w->vc (Av P X) ac QA s->c.wp P Q a w:=by
 intro c
 induction c with
 |skip=>intro ac tr QA Q hX hQ E g s a w hS h;simp only[trC,q_b] at tr;subst tr;exact wp_skip (hQ .normal E g s a w hS h)
 |ret=>intro ac tr QA Q hX hQ E g s a w hS h;simp only[trC,q_b] at tr;subst tr;exact wp_ret (hQ .ret E g s a w hS h)
 |exit id=>intro ac tr QA Q hX hQ E g s a w hS h;simp only[trC,q_b] at tr;subst tr;exact wp_exit (hQ (.exit id) E g s a w hS h)
 |region id ops draw=>
  intro ac tr QA Q hX hQ E g s a w hS h;simp only[trC,q_c,q_a] at tr;obtain⟨l,hl,tr⟩:=tr;cases draw with
  |true=>
   simp only[if_true] at tr;split at tr;rotate_left
   ·cases tr
   rename_i hok;cases tr;simp only[vc,if_true] at h;exact Aig (T:=[]) (px_k hX) (fun p hp=>by cases hp) (fun p hp=>by cases hp) hm hl rfl hok (fun E g s a w hS hk=>hQ .normal E g s a w hS hk) hS h
  |false=>
   simp only[Bool.false_eq_true,if_false] at tr;cases tr;simp only[vc,Bool.false_eq_true,if_false] at h;refine wp_region ?_;rw[List.range_eq_range',<-Array.length_toList];exact Ane (TT:=[]) (px_k hX) (fun E g s a w hS hk=>hQ .normal E g s a w hS hk) ops.toList l 0 E g s a w hl (fun j o hj=>by simpa using hj) hS (fun p hp=>by cases hp) (fun p hp=>by cases hp) h
 |seq x y ihx ihy=>
  intro ac tr QA Q hX hQ E g s a w hS h;simp only[trC,q_c,q_a,q_d,q_b] at tr;obtain⟨ax,Ae,ay,Co,rfl⟩:=tr;simp only[vc] at h;refine wp_seq (ihx ax Ae (Q:=Exit.then (y.wp P Q) Q) (fun E u x G' a w=>hX E u x G' a w) (fun e E g s a w hS he=>?_) E g s a w hS h);cases e with
  |normal=>exact ihy ay Co hX hQ E g s a w hS he
  |exit id=>exact hQ (.exit id) E g s a w hS he
  |ret=>exact hQ .ret E g s a w hS he
 |cond c x y ihx ihy=>
  intro ac tr QA Q hX hQ E g s a w hS h;simp only[trC,q_c,q_a,q_d,q_b] at tr;obtain⟨cx,hcx,ax,Ae,ay,Co,rfl⟩:=tr;simp only[vc] at h;split at h;rotate_left
  ·exact h.elim
  rename_i t ht;have hv:=hS.x hcx;rw[ht] at hv;exact wp_cond_split (Tc hv) (fun h1=>ihx ax Ae hX hQ E g s a w hS (h.1 h1)) (fun h1=>ihy ay Co hX hQ E g s a w hS (h.2 h1))
 |block id x ih=>
  intro ac tr QA Q hX hQ E g s a w hS h;simp only[trC,q_c,q_a,q_d,q_b] at tr;obtain⟨ax,Ae,rfl⟩:=tr;simp only[vc] at h;refine wp_block (ih ax Ae (Q:=Exit.inBlock id Q) (fun E u x G' a w=>hX E u x G' a w) (fun e E g s a w hS he=>?_) E g s a w hS h);cases e with
  |normal=>exact hQ .normal E g s a w hS he
  |exit j=>
   simp only[AE.ex,Exit.inBlock];simp only at he;split at he
   ·rename_i hj;rw[if_pos hj];exact hQ .normal E g s a w hS he
   ·rename_i hj;rw[if_neg hj];exact hQ (.exit j) E g s a w hS he
  |ret=>exact hQ .ret E g s a w hS he
 |loop x ih=>
  intro ac tr QA Q hX hQ E g s a w hS h;simp only[trC,q_c,q_a,q_d,q_b] at tr;obtain⟨ax,Ae,rfl⟩:=tr;simp only[vc] at h;obtain⟨n,h⟩:=h;have key:∀n (E:Env) (g:Option (GV)) (s:St) (a:Act) (w:World),SR w0 own M0 B Df E g s a w->Pm (fun Q' s'=>vc (Av P X) ax Q' s') QA n s->∀(b:Frame) (k:List Item) (cs:List Frame),∃e a' w',Q e a' w'/\Arrives P (lone (b.at a (.code x::.inLoop x::k)) cs w) b k cs e a' w':=by
   intro n
   induction n with
   |zero=>intro E g s a w _ h;simp only[Pm] at h
   |succ n ihn=>
    intro E g s a w hS h b k cs;simp only[Pm] at h;obtain⟨s0,Uk,hb⟩:=h;obtain⟨E0,g0,hS0⟩:=Acf Uk hS;have Tq:=ih ax Ae (Q:=Exit.then (fun a w=>∃E g s,SR w0 own M0 B Df E g s a w/\Pm (fun Q' s'=>vc (Av P X) ax Q' s') QA n s) Q) (fun E u x G' a w=>hX E u x G' a w) (fun e E g s a w hS he=>by
     cases e with
     |normal=>exact⟨E,g,s,hS,he⟩
     |exit id=>exact hQ (.exit id) E g s a w hS he
     |ret=>exact hQ .ret E g s a w hS he) E0 g0 s0 a w hS0 hb
    obtain⟨e,a₁,w₁,hq,Rp⟩:=Tq b (.inLoop x::k) cs;cases e with
    |normal=>
     obtain⟨E1,g1,s1,hS1,h1⟩:=hq;obtain⟨e₂,a₂,w₂,hq₂,Rp₂⟩:=ihn E1 g1 s1 a₁ w₁ hS1 h1 b k cs;exact⟨e₂,a₂,w₂,hq₂,.of_steps (Steps.trans Rp (.one step_inLoop)) Rp₂⟩
    |exit id=>exact⟨_,a₁,w₁,hq,.pass (x:=.inLoop x) rfl (fun _ _=>.inl (by simp)) Rp⟩
    |goto l=>exact⟨_,a₁,w₁,hq,.pass (x:=.inLoop x) rfl (fun _ _=>.inl (by simp)) Rp⟩
    |ret=>exact⟨_,a₁,w₁,hq,.pass (x:=.inLoop x) rfl (fun _ _=>.inl (by simp)) Rp⟩
    |panic ch=>exact⟨_,a₁,w₁,hq,.pass (x:=.inLoop x) rfl (fun _ _=>.inl (by simp)) Rp⟩
    |outgrown=>exact⟨_,a₁,w₁,hq,.pass (x:=.inLoop x) rfl (fun _ _=>.inl (by simp)) Rp⟩
  intro b k cs;obtain⟨e,a',w',hq,Rp⟩:=key n E g s a w hS h b k cs;exact⟨e,a',w',hq,.of_steps (.one step_loop) Rp⟩
 |_=>intro ac tr;simp[trC] at tr
def Uv(P:Program)(tmps:Array Value):ResultVar->Sem Value
 |.tmp t=>pure (tmps.getD t undef)
 |.cell a t=>do loadVar t (<-asAddr (tmps.getD a undef))
theorem Bdh{hp:List Ob}{ag:Bool}{n:Nat}{x:SV}{v:Value}{e:Eff}{E:Env}(he:Jx hp ag n x=some e)(h:RelV E v x):∃A,v=.pointer (some A):=by
 cases x with
 |ref o g e' c=>
  cases h with
  |rep _ _ hr=>cases hr
  |ref=>exact⟨_,rfl⟩
 |dref z l c=>
  cases h.closed_rep rfl with
  |dref=>exact⟨_,rfl⟩
 |gp i c=>
  cases h.closed_rep rfl with
  |gp=>exact⟨_,rfl⟩
 |_=>simp[Jx] at he
theorem Be1{f:ResultVar->Sem Value}{w:World}:(List.mapM f []).run P w=.ok [] w:=by simp
theorem Be0{f:ResultVar->Sem Value}{r:ResultVar}{rs:List ResultVar}{u:Value}{us:List Value}{w:World}(h1:(f r).run P w=.ok u w)(h2:(rs.mapM f).run P w=.ok us w):(List.mapM f (r::rs)).run P w=.ok (u::us) w:=by
 rw[List.mapM_cons];simp[h1,h2]
theorem Ux[hB:Nonempty (StB B)]{a:Act}{w:World}:∀(rs:List ResultVar) (as:List AR) (p:Prop) (svs:List SV) (hp':List Ob) (E:Env) (s:St),trR P rs=some as->Mv s as=some (p,svs,hp')->p->SR w0 own M0 B Df E g s a w ->
  ∃(vs:List Value) (E':Env),(rs.mapM (Uv P a.tmps)).run P w=.ok vs w/\vs.length=svs.length/\(∀(j:Nat) v x,vs[j]?=some v->svs[j]?=some x->Rep E'.m v x)/\SR w0 own M0 B Df E' g { s with hp:=hp' } a w/\E.m.le E'.m:=by
 intro rs
 induction rs with
 |nil=>
  intro as p svs hp' E s htr hr hp hS;simp only[trR,q_b] at htr;subst htr;simp only[Mv,q_b,Prod.mk.injEq] at hr;obtain⟨_,rfl,rfl⟩:=hr;exact⟨[],E,Be1,rfl,by simp,hS,.refl _⟩
 |cons r rs ih=>
  intro as p svs hp' E s htr hr hp hS;have hhead:∃ar ars,as=ar::ars/\trR P rs=some ars/\(∀p1 v h,g9 s ar=some (p1,v,h)->p1->∃(u:Value) (E1:Env),(Uv P a.tmps r).run P w=.ok u w/\Rep E1.m u v/\SR w0 own M0 B Df E1 g { s with hp:=h } a w/\E.m.le E1.m):=by
   cases r with
   |tmp t=>
    simp only[trR,q_c,q_a,q_d,q_b] at htr;obtain⟨ars,Gt,rfl⟩:=htr;refine⟨_,ars,rfl,Gt,fun p1 v h h1 _=>?_⟩;simp only[g9] at h1;split at h1;rotate_left
    ·cases h1
    rename_i v' h' hc;cases h1;obtain⟨E1,Bq,st⟩:=p9 (U:=fun _=>True) hS.wo hS.gx (fun o _=>hS.hp o) hc (hS.sl t) (fun _ _=>trivial);exact⟨_,E1,rfl,Bq,hS.closed st,st.ext.m⟩
   |cell t ty=>
    simp only[trR,q_c,q_a] at htr;obtain⟨ag,Ft,htr⟩:=htr;split at htr;rotate_left
    ·cases htr
    rename_i h1;simp only[q_a,q_d,q_b] at htr;obtain⟨ars,Gt,rfl⟩:=htr;refine⟨_,ars,rfl,Gt,fun p1 v h Bs hp1=>?_⟩;simp only[g9] at Bs;split at Bs;rotate_left
    ·cases Bs
    rename_i e he;split at Bs;rotate_left
    ·cases Bs
    rename_i v' h' hc;cases Bs;obtain⟨u,g1,g2,g3⟩:∃u,(Instr.loadAt ty (a.tmps.getD t undef)).run P w=.ok u w/\RelV E u e.val/\e.hp=s.hp:=by
     have Kg:=hS.sl t;generalize Zg:s.sl.getD t .undef=sx at he Kg;cases z9:Eg sx with
     |false=>
      have Kd:g.isSome=true->∀i∈Bf sx,i≠0:=fun hs=>by
       obtain⟨G,rfl⟩:=Option.isSome_iff_exists.1 hs;exact Nw hS.gx.z Kg
      obtain⟨u,k1,k2,k3,_⟩:=Aml (s:=s) (P:=P) (U:=Up g (fun _=>True)) hS.wo (Rd (fun o _=>hS.hp o)) Ft h1 he hp1 Kg z9 (fun i hi=>⟨trivial,fun hs=>Kd hs i hi⟩);exact⟨u,k1,k2,k3⟩
     |true=>
      cases sx with
      |gp i c=>
       simp only[Jx] at he;split at he;rotate_left
       ·cases he
       rename_i G hG;split at he;rotate_left
       ·cases he
       rename_i row Bt;cases he;have:=My (U:=fun _=>True) (fun o _=>hS.hp o) trivial hS.wo hG;subst this;obtain⟨u,k1,k2⟩:=Ai8 hS.gx Ft h1 Bt hp1.1 hp1.2 Kg;exact⟨u,k1,k2,rfl⟩
      |_=>cases z9
    rw[g3] at hc;obtain⟨E1,Bq,st⟩:=p9 (U:=fun _=>True) hS.wo hS.gx (fun o _=>hS.hp o) hc g2 (fun _ _=>trivial);obtain⟨A,hA⟩:=Bdh he (hS.sl t);refine⟨u,E1,?_,Bq,hS.closed st,st.ext.m⟩;rw[hA] at g1;simp only[Uv,hA,asAddr];simpa [Instr.loadAt,Instr.sureAddr] using g1
  obtain⟨ar,ars,rfl,Gt,hh⟩:=hhead;simp only[Mv] at hr;split at hr;rotate_left
  ·cases hr
  rename_i p1 v1 h1 Bs;split at hr;rotate_left
  ·cases hr
  rename_i q vs1 h2 Gn;cases hr;obtain⟨u,E1,k1,k2,k3,k4⟩:=hh p1 v1 h1 Bs hp.1;obtain⟨us,E2,m1,m2,m3,m4,m5⟩:=ih ars q vs1 hp' E1 _ Gt Gn hp.2 k3;refine⟨u::us,E2,Be0 k1 m1,by simp[m2],fun j v x hv hx=>?_,m4,k4.trans m5⟩;cases j with
  |zero=>simp at hv hx;subst hv;subst hx;exact k2.mono m5
  |succ j=>exact m3 j v x (by simpa using hv) (by simpa using hx)
theorem Uw{fn:Func}{tmps:Array Value}{vs:List Value}{w:World}(h:(fn.results.toList.mapM (Uv P tmps)).run P w=.ok vs w):(results fn tmps).run P w=.ok (if h:vs.toArray.size=1 then vs.toArray[0] else .tuple vs.toArray) w:=by
 have h1:results fn tmps=(do
   let vs <-fn.results.mapM (Uv P tmps)
   pure (if h:vs.size=1 then vs[0] else .tuple vs)):=by
  unfold results Uv;rfl
 have h2:(fn.results.mapM (Uv P tmps)).run P w=.ok vs.toArray w:=by
  rw[Array.mapM_eq_mapM_toList];simp[h]
 rw[h1,Sem.run_bind,h2];rfl
theorem Ul{E:Env}{vs:List Value}{args:List SV}{k:Nat}(Ah:vs.length=args.length)(Bq:∀(j:Nat) v x,vs[j]?=some v->args[j]?=some x->Rep E.m v x)(i:Nat) :
  RelV E ((vs.toArray++Array.replicate (k-vs.toArray.size) undef).getD i undef) ((args++List.replicate (k-args.length) SV.undef).getD i .undef):=by
 rcases Nat.lt_or_ge i vs.length with hi|hi
 ·have h1:(vs.toArray++Array.replicate (k-vs.toArray.size) undef).getD i undef=vs[i]:=by
   rw[Array.getD_eq_getD_getElem?,Array.getElem?_append_left (by simpa using hi)];simp[hi]
  have h2:(args++List.replicate (k-args.length) SV.undef).getD i .undef=args[i]'(by omega):=by
   rw[List.getD_eq_getElem?_getD,List.getElem?_append_left (by omega),q_f (by omega)];rfl
  rw[h1,h2];exact .rep _ _ (Bq i _ _ (q_f hi) (q_f (by omega)))
 ·have h1:(vs.toArray++Array.replicate (k-vs.toArray.size) undef).getD i undef=undef:=by
   rw[Array.getD_eq_getD_getElem?,Array.getElem?_append_right (by simpa using hi)];simp only[Array.getElem?_replicate];split<;>rfl
  have h2:(args++List.replicate (k-args.length) SV.undef).getD i .undef=.undef:=by
   rw[List.getD_eq_getElem?_getD,List.getElem?_append_right (by omega),List.getElem?_replicate];split<;>rfl
  rw[h1,h2];exact .undef
theorem Uq{m:Mem}{svs:List SV}{us:List Value}{r:SV}(hr:r=(match svs with|[v]=>v|vs=>.tup vs))(hl:us.length=svs.length)(h:∀(j:Nat) v x,us[j]?=some v->svs[j]?=some x->Rep m v x) :
  Rep m (if h:us.toArray.size=1 then us.toArray[0] else .tuple us.toArray) r:=by
 subst hr;cases svs with
 |nil=>
  cases us with
  |nil=>exact .tup [] [] rfl (by simp)
  |cons u us=>simp at hl
 |cons x svs=>
  cases us with
  |nil=>simp at hl
  |cons u us=>
   cases svs with
   |nil=>
    cases us with
    |nil=>exact h 0 u x rfl rfl
    |cons t us=>simp at hl
   |cons y svs=>
    cases us with
    |nil=>simp at hl
    |cons t us=>
     have:¬(u::t::us).toArray.size=1:=by simp
     rw[dif_neg this];exact .tup _ _ hl h
theorem Al{f:Nat}{fn:Func}{af:AF}{args:List SV}{r:SV}(hm:P.follows .mixedOrders=true)(hf:P.funcs[f]?=some fn)(htr:trF P fn=some af)(h:vcF (Av P fun _ _=>False) af args r):Contract P f args r:=by
 intro m w vs hmem Ah Bq;unfold trF at htr;split at htr;rotate_left
 ·cases htr
 rename_i c hb;simp only[q_c,q_a,q_d,q_b] at htr;obtain⟨ars,Gt,ac,Li,rfl⟩:=htr
 let E0:Env:={ m:=m,m0:=m,H:=fun _=>none,β:=fun _=>0,t:=fun _=>0 }
 have hW:W w (fun _=>False) E0 w:=⟨rfl,rfl,rfl,Nat.le_refl _,fun _ _ _=>rfl,hmem.1,fun o ob ho=>(by cases ho),fun o o' ob ob' ho=>(by cases ho),fun _ _ _ _=>rfl,hmem.2⟩
 have hS:SR w (fun _=>False) m (fun _=>False) [] E0 none { sl:=args++List.replicate (fn.ntmps-args.length) .undef,hp:=[] } { tmps:=vs.toArray++Array.replicate (fn.ntmps-vs.toArray.size) undef,defers:=[] } w:=
  ⟨hW,trivial,fun o=>rfl,by simp[Ah],Ul Ah Bq,rfl,rfl,.refl _,fun _=>rfl,fun h=>by cases h⟩
 refine calls_of_wp hf hb ?_;have fin:∀(E:Env) (s:St) (a:Act) (w':World),SR w (fun _=>False) m (fun _=>False) [] E none s a w'->Jt ars r s->a.defers=[]/\∃v,(results fn a.tmps).run P w'=.ok v w'/\∃v' m',Ending.returned v=.returned v'/\Rep m' v' r/\(m.le m'/\m'.d=m.d)/\(∀b j,b<w.heap.size->m' b j=m b j)/\Hv m' w' /\
   w'.os=w.os/\w'.tape=w.tape/\w'.output=w.output/\w.heap.size<=w'.heap.size/\∀k,k<w.heap.size->w'.heap[k]?=w.heap[k]?:=by
  intro E s a w' hS hr;refine⟨hS.dfr,?_⟩;unfold Jt at hr;split at hr;rotate_left
  ·exact hr.elim
  rename_i p svs hp' Iz;obtain⟨hp,Nt⟩:=hr;obtain⟨us,E',k1,k2,k3,k4,k5⟩:=Ux fn.results.toList ars p svs hp' E s Gt Iz hp hS;refine⟨_,Uw k1,_,E'.m,rfl,Uq Nt k2 k3,⟨k4.le,k4.d rfl⟩,fun b j hb=>?_,⟨k4.wo.mem,k4.wo.pl⟩,k4.wo.os,k4.wo.tape,k4.wo.output,k4.wo.size,fun k hk=>k4.wo.block k hk (fun h=>h)⟩;rw[k4.wo.keep b j hb (fun h=>h),k4.z]
 refine Of (X:=fun _ _=>False) hm c ac Li (fun _ _ _ _ _ _ h=>h.elim) (fun e E g s a w' hS he=>?_) E0 none _ _ w hS h;have Ea:g=none:=by
  cases g with
  |none=>rfl
  |some G=>exact (hS.hb rfl).elim
 subst Ea;cases e with
 |normal=>exact fin E s a w' hS he
 |exit id=>exact he.elim
 |ret=>exact fin E s a w' hS he
def Pg(rs:List AR)(r:SV)(G':GV)(s:St):Prop:=
 match Mv s rs with
 |some (p,vs,h)=>p/\r=(match vs with|[v]=>v|vs=>.tup vs)/\gOf h=some G'
 |none=>False
def Apf(C:CT)(f:AF)(G:GV)(args:List SV)(out:HOut)(G':GV):Prop:=
 vc C f.body (fun e s=>match e with|.exit _=>False|_=>match out with|.ret r=>Pg f.res r G' s|.pan _=>False) { sl:=args++List.replicate (f.ntmps-args.length) .undef,hp:=[gOb G] }
theorem Aq{f:Nat}{fn:Func}{af:AF}{G G':GV}{args:List SV}{out:HOut}(hm:P.follows .mixedOrders=true)(hf:P.funcs[f]?=some fn)(htr:trF P fn=some af)
  (h:Apf (Av P fun x G1=>out=.pan x/\G1=G') af G args out G'):HContract P f G args out G':=by
 intro m w vs hmem hsat Ah Bq;unfold trF at htr;split at htr;rotate_left
 ·cases htr
 rename_i c hb;simp only[q_c,q_a,q_d,q_b] at htr;obtain⟨ars,Gt,ac,Li,rfl⟩:=htr
 let own:Nat->Prop:=fun b=>∃i,m.d i=some b
 let E0:Env:={ m:=m,m0:=m,H:=fun _=>none,β:=fun _=>0,t:=fun _=>0 }
 have hW:W w own E0 w:=⟨rfl,rfl,rfl,Nat.le_refl _,fun _ _ _=>rfl,hmem.1,fun o ob ho=>(by cases ho),fun o o' ob ob' ho=>(by cases ho),fun _ _ _ _=>rfl,hmem.2⟩
 have hS:SR w own m (fun _=>True) [] E0 (some G) { sl:=args++List.replicate (fn.ntmps-args.length) .undef,hp:=[gOb G] } { tmps:=vs.toArray++Array.replicate (fn.ntmps-vs.toArray.size) undef,defers:=[] } w:=by
  refine⟨hW,⟨rfl,hsat,fun i b hi=>.inr ⟨i,hi⟩,fun i b o ob _ ho=>by cases ho⟩,fun o=>?_,by simp[Ah],Ul Ah Bq,rfl,rfl,.refl _,(fun h=>by cases h),fun _=>trivial⟩;cases o with
  |zero=>rfl
  |succ o=>rfl
 refine calls_of_wp hf hb ?_
 -- what is there at an end
 have tail:∀(E:Env) (w':World),W w own E w'->GI w.heap.size own E w' G'->m.le E.m->E.m0=m->m.le E.m/\(∀b j,b<w.heap.size->E.m b j=m b j)/\Hv E.m w'/\GSat E.m w' G' /\
   (∀i b,E.m.d i=some b->m.d i=some b\/w.heap.size<=b)/\w'.os=w.os/\w'.tape=w.tape/\w'.output=w.output/\w.heap.size<=w'.heap.size/\∀k,k<w.heap.size->(∀i,m.d i≠some k)->w'.heap[k]?=w.heap[k]?:=by
  intro E w' hW hg hle hz;refine⟨hle,fun b j hb=>?_,⟨hW.mem,hW.pl⟩,hg.sat,fun i b hi=>?_,hW.os,hW.tape,hW.output,hW.size,fun k hk hn=>hW.block k hk (fun ⟨i,hi⟩=>hn i hi)⟩
  ·by_cases ho:own b
   ·obtain⟨i,hi⟩:=ho;rw[hsat.free i b j hi,hg.sat.free i b j (hle.d _ _ hi)]
   ·rw[hW.keep b j hb ho,hz]
  ·rcases hg.new i b hi with h|⟨i',Bw⟩
   ·exact .inr h
   ·have:=hg.sat.inj i i' b hi (hle.d _ _ Bw);subst this;exact .inl Bw
 have fin:∀(E:Env) (g:Option (GV)) (s:St) (a:Act) (w':World) (r:SV),SR w own m (fun _=>True) [] E g s a w'->out=.ret r->Pg ars r G' s->a.defers=[]/\∃v,(results fn a.tmps).run P w'=.ok v w'/\∃m',Su m' (.returned v) out/\m.le m'/\(∀b j,b<w.heap.size->m' b j=m b j)/\Hv m' w'/\GSat m' w' G' /\
   (∀i b,m'.d i=some b->m.d i=some b\/w.heap.size<=b)/\w'.os=w.os/\w'.tape=w.tape/\w'.output=w.output/\w.heap.size<=w'.heap.size/\∀k,k<w.heap.size->(∀i,m.d i≠some k)->w'.heap[k]?=w.heap[k]?:=by
  intro E g s a w' r hS ho hr;subst ho;refine⟨hS.dfr,?_⟩;unfold Pg at hr;split at hr;rotate_left
  ·exact hr.elim
  rename_i p svs hp' Iz;obtain⟨hp,Nt,hG⟩:=hr;obtain⟨us,E',k1,k2,k3,k4,k5⟩:=Ux fn.results.toList ars p svs hp' E s Gt Iz hp hS;have:=My (U:=fun _=>True) (s:={ s with hp:=hp' }) (fun o _=>k4.hp o) trivial k4.wo hG;subst this;exact⟨_,Uw k1,E'.m,⟨_,rfl,Uq Nt k2 k3⟩,tail E' w' k4.wo k4.gx k4.le k4.z⟩
 refine Of (X:=fun x G1=>out=.pan x/\G1=G') hm c ac Li (fun E u x G1 a w' hx Bq hW hg hle hz En=>?_) (fun e E g s a w' hS he=>?_) E0 (some G) _ _ w hS h
 ·obtain⟨rfl,rfl⟩:=hx;exact⟨En,E.m,⟨u,rfl,Bq⟩,tail E w' hW hg hle hz⟩
 ·cases out with
  |pan x=>cases e<;>exact he.elim
  |ret r=>
   cases e with
   |normal=>exact fin E g s a w' r hS rfl he
   |exit id=>exact he.elim
   |ret=>exact fin E g s a w' r hS rfl he
def g8(rs:List AR)(T:HOut->GV->Prop)(s:St):Prop:=
 match Mv s rs with
 |some (p,vs,h)=>p/\(match gOf h with
  |some G'=>T (.ret (match vs with|[v]=>v|vs=>.tup vs)) G'
  |none=>False)
 |none=>False
def Bhy(C:CT)(f:AF)(G:GV)(args:List SV)(T:HOut->GV->Prop):Prop:=
 vc C f.body (fun e s=>match e with|.exit _=>False|_=>g8 f.res T s) { sl:=args++List.replicate (f.ntmps-args.length) .undef,hp:=[gOb G] }
end
def Ms(w:World):Mem:=⟨fun b j=>w.cell? ⟨b,j,none⟩,fun _=>none,fun _=>False,fun _ _ _ h=>by cases h⟩
inductive Hw(P:Program):TypeId->List SV->Prop
 |bool (t:TypeId) (b:Bool):P.underlying t=some .bool->Hw P t [.bool b]
 |int (t:TypeId) (k:IntKind) (n:Int):P.underlying t=some (.int k)->(Lit.int k n).wf=true->Hw P t [.int k n]
 |float (t:TypeId) (k:FloatKind) (b:Nat):P.underlying t=some (.float k)->(Lit.float k b).wf=true->Hw P t [.float k b]
 |str (t:TypeId) (s:ByteArray):P.underlying t=some .string->s.size<=reachBytes->Hw P t [.str s]
 |slice (t e:TypeId) (l:GV):P.underlying t=some (.slice e)->l.length*P.bytesOf e<=reachBytes->(∀r∈l,Hw P e r)->Hw P t [.dsl (P.cellsOf e) l]
 |struct (t:TypeId) (fs:Array Field) (parts:GV):P.underlying t=some (.struct fs)->parts.length=fs.toList.length->(∀(i:Nat) (f:Field) (p:List SV),fs.toList[i]?=some f->parts[i]?=some p->Hw P f.type p)->Hw P t parts.flatten
def Pj(P:Program):List Field->Nat->Nat->Bool
 |[],o,n=>o==n
 |f::fs,o,n=>f.offset==o && Pj P fs (o+P.cellsOf f.type) n
def Vu(P:Program)(S:List TypeId):Bool:=
 S.all fun t=>match P.underlying t with
  |some .bool=>true
  |some (.int _)=>true
  |some (.float _)=>true
  |some .string=>true
  |some (.slice e)=>S.contains e && decide (0<P.cellsOf e) && decide (0<P.bytesOf e)
  |some (.struct fs)=>(fs.toList.all fun f=>S.contains f.type) && Pj P fs.toList 0 (P.cellsOf t)
  |_=>false
theorem Ahh{X:Type}{p:Nat->X->Prop}:∀{n:Nat},(∀i,i<n->∃x,p i x)->∃l:List X,l.length=n/\∀(i:Nat) x,l[i]?=some x->p i x:=by
 intro n
 induction n with
 |zero=>intro _;exact⟨[],rfl,by simp⟩
 |succ n ih=>
  intro h;obtain⟨l,h1,h2⟩:=ih (fun i hi=>h i (Nat.lt_succ_of_lt hi));obtain⟨x,hx⟩:=h n (Nat.lt_succ_self n);refine⟨l++[x],by simp[h1],fun i y hy=>?_⟩;rcases Nat.lt_or_ge i l.length with hi|hi
  ·rw[List.getElem?_append_left hi] at hy;exact h2 i y hy
  ·rw[List.getElem?_append_right hi] at hy;have:i=n:=by
    rcases Nat.lt_or_ge (i-l.length) 1 with h|h
    ·omega
    ·rw[List.getElem?_eq_none (by simpa using h)] at hy;cases hy
   subst this;have:i-l.length=0:=by omega
   rw[this] at hy;simp at hy;subst hy;exact hx
theorem Afc{α β:Type}{f:α->Option β}:∀{l:List α} {l':List β},l.mapM f=some l'->l'.length=l.length/\∀(i:Nat) (a:α),l[i]?=some a->∃b,l'[i]?=some b/\f a=some b:=by
 intro l
 induction l with
 |nil=>intro l' h;simp at h;subst h;simp
 |cons a l ih=>
  intro l' h;rw[List.mapM_cons] at h;simp only[q_c,q_a,q_d,q_b] at h;obtain⟨b,hb,r,hr,rfl⟩:=h;obtain⟨h1,h2⟩:=ih hr;refine⟨by simp[h1],fun i x hx=>?_⟩;cases i with
  |zero=>simp at hx;subst hx;exact⟨b,by simp,hb⟩
  |succ i=>obtain⟨y,g1,g2⟩:=h2 i x (by simpa using hx);exact⟨y,by simpa using g1,g2⟩
theorem Acw{w:World}{base:Nat}{a:Addr}{n:Nat}{cs:List Value}(h:w.cells? base a n=some cs):cs.length=n/\∀i,i<n->∃v,cs[i]?=some v/\w.cell? (a.add i)=some v:=by
 unfold World.cells? at h;split at h
 ·obtain⟨h1,h2⟩:=Afc h;refine⟨by simpa using h1,fun i hi=>?_⟩;exact h2 i i (by simp[hi])
 ·cases h
theorem Bgt{P:Program}{cs:List Value}:∀{fs:List Field} {o:Nat} {parts:GV},Pj P fs o cs.length=true->parts.length=fs.length ->
  (∀(i:Nat) (f:Field) (p:List SV),fs[i]?=some f->parts[i]?=some p->p.length=P.cellsOf f.type)->parts.flatten.length=cs.length-o/\o<=cs.length /\
  ∀(R:Value->SV->Prop),(∀(i:Nat) (f:Field) (p:List SV),fs[i]?=some f->parts[i]?=some p->∀(j:Nat) v x,((cs.drop f.offset).take (P.cellsOf f.type))[j]?=some v->p[j]?=some x->R v x) ->
   ∀(j:Nat) v x,(cs.drop o)[j]?=some v->parts.flatten[j]?=some x->R v x:=by
 intro fs
 induction fs with
 |nil=>
  intro o parts ht hl _;simp only[Pj,beq_iff_eq] at ht;have:parts=[]:=List.length_eq_zero_iff.1 (by simpa using hl);subst this;exact⟨by simp[ht],by omega,fun R _ j v x _ hx=>by simp at hx⟩
 |cons f fs ih=>
  intro o parts ht hl Ah;simp only[Pj,Bool.and_eq_true,beq_iff_eq] at ht;obtain⟨ho,ht⟩:=ht;cases parts with
  |nil=>simp at hl
  |cons p parts=>
   obtain⟨h1,h2,h3⟩:=ih ht (by simpa using hl) (fun i g q hg hq=>Ah (i+1) g q (by simpa using hg) (by simpa using hq));have hp:=Ah 0 f p rfl rfl;refine⟨by simp only[List.flatten_cons,List.length_append];omega,by omega,fun R hR j v x hv hx=>?_⟩;rw[List.flatten_cons] at hx;rcases Nat.lt_or_ge j p.length with hj|hj
   ·rw[List.getElem?_append_left hj] at hx;refine hR 0 f p rfl rfl j v x ?_ hx;rw[List.getElem?_take,if_pos (by omega),ho];exact hv
   ·rw[List.getElem?_append_right hj] at hx;refine h3 R (fun i g q hg hq=>hR (i+1) g q (by simpa using hg) (by simpa using hq)) (j-p.length) v x ?_ hx;rw[List.getElem?_drop] at hv |-;rw[show o+P.cellsOf f.type+(j-p.length)=o+j by omega];exact hv
section
variable{H:Type}{enc:TypeId×Value->H}{P:Program}{w:World}{base:Nat}{sp:Nat->Bool}{Wd:Bool}
theorem Bil{e:TypeId}{n:Nat}{d:DataW H}:∀{ds:List (DataW H)},d∈ds->n∈d.weights P e->n∈DataW.weightsAll P e ds:=by
 intro ds
 induction ds with
 |nil=>intro h;cases h
 |cons x ds ih=>
  intro h hn;simp only[DataW.weightsAll,List.mem_append];rcases List.mem_cons.1 h with rfl|h
  ·exact .inl hn
  ·exact .inr (ih h hn)
theorem Bhd{S:List TypeId}(hS:Vu P S=true):∀(fuel:Nat) (t:TypeId) (cs:List Value) (x:DataW H×List MemPlace),t∈S->(∀n∈x.1.weights P t,n<=reachBytes)->DataW.trod enc P w base sp Wd fuel t cs=some x ->
  ∃svs,Hw P t svs/\svs.length=cs.length/\(∀v∈cs,v.oneCell'=true)/\∀(j:Nat) v y,cs[j]?=some v->svs[j]?=some y->Rep (Ms w) v y:=by
 intro fuel
 induction fuel with
 |zero=>intro t cs x _ _ h;simp[DataW.trod] at h
 |succ fuel ih=>
  intro t cs x ht Ki h;have hT:=hS;simp only[Vu,List.all_eq_true] at hT;have hT:=hT t ht;have one:∀(v:Value) (y:SV),cs=[v]->v.oneCell'=true->Hw P t [y]->Rep (Ms w) v y->∃svs,Hw P t svs/\svs.length=cs.length/\(∀v∈cs,v.oneCell'=true)/\∀(j:Nat) v y,cs[j]?=some v->svs[j]?=some y->Rep (Ms w) v y:=by
   intro v y hc ho Gj hr;subst hc;refine⟨[y],Gj,rfl,fun u hu=>by simp at hu;subst hu;exact ho,fun j u z hu hz=>?_⟩;cases j with
   |zero=>simp at hu hz;subst hu;subst hz;exact hr
   |succ j=>simp at hu
  have single:(∀d,P.underlying t=some d->(d=.bool\/(∃k,d=.int k)\/(∃k,d=.float k)\/d=.string))->∃v,cs=[v]:=by
   intro hd;cases cs with
   |nil=>
    cases hu:P.underlying t with
    |none=>simp[DataW.trod,hu] at h
    |some d=>rcases hd d hu with rfl|⟨k,rfl⟩|⟨k,rfl⟩|rfl<;>simp[DataW.trod,hu] at h
   |cons v r=>
    cases r with
    |nil=>exact⟨v,rfl⟩
    |cons u r=>
     exfalso;cases hu:P.underlying t with
     |none=>simp[DataW.trod,hu] at h
     |some d=>rcases hd d hu with rfl|⟨k,rfl⟩|⟨k,rfl⟩|rfl<;>cases v<;>simp[DataW.trod,hu] at h
  split at hT
  ·rename_i hu;obtain⟨v,rfl⟩:=single (fun d hd=>by rw[hu] at hd;cases hd;exact .inl rfl);cases v<;>simp[DataW.trod,hu] at h;rename_i b;exact one _ _ rfl rfl (.bool t b hu) (.bool b)
  ·rename_i k hu;obtain⟨v,rfl⟩:=single (fun d hd=>by rw[hu] at hd;cases hd;exact .inr (.inl ⟨k,rfl⟩));cases v<;>simp[DataW.trod,hu] at h;rename_i k' n;obtain⟨⟨rfl,hw⟩,_⟩:=h;exact one _ _ rfl rfl (.int t k' n hu hw) (.int k' n)
  ·rename_i k hu;obtain⟨v,rfl⟩:=single (fun d hd=>by rw[hu] at hd;cases hd;exact .inr (.inr (.inl ⟨k,rfl⟩)));cases v<;>simp[DataW.trod,hu] at h;rename_i k' n;obtain⟨⟨rfl,hw⟩,_⟩:=h;exact one _ _ rfl rfl (.float t k' n hu hw) (.float k' n)
  ·rename_i hu;obtain⟨v,rfl⟩:=single (fun d hd=>by rw[hu] at hd;cases hd;exact .inr (.inr (.inr rfl)));cases v<;>simp[DataW.trod,hu] at h;rename_i b;refine one _ _ rfl rfl (.str t b hu ?_) (.str b);have:=Ki b.data.toList.length (by rw[<-h.2];simp[DataW.weights]);simpa using this
  ·rename_i e hu;simp only[Bool.and_eq_true,List.contains_eq_mem,decide_eq_true_eq] at hT;obtain⟨⟨heS,Ch⟩,hbpos⟩:=hT;have Kg:∃A len cap,cs=[.slice A len cap]:=by
    cases cs with
    |nil=>simp[DataW.trod,hu] at h
    |cons v r=>
     cases r with
     |nil=>
      cases v with
      |slice A len cap=>exact⟨A,len,cap,rfl⟩
      |_=>simp[DataW.trod,hu] at h
     |cons u r=>cases v<;>simp[DataW.trod,hu] at h
   obtain⟨A,len,cap,rfl⟩:=Kg;cases A with
   |none=>
    have hz:len=0/\cap=0:=by
     cases len<;>cases cap<;>simp[DataW.trod,hu] at h |-
    obtain⟨rfl,rfl⟩:=hz;exact one _ _ rfl rfl (.slice t e [] hu (by simp) (by simp)) (.dsl0 _ _ _)
   |some a=>
    simp only[DataW.trod,hu] at h;split at h;rotate_left
    ·cases h
    rename_i hcond;obtain⟨hba,Hz,Wa⟩:=hcond;simp only[q_a] at h;obtain⟨elems,Mi,h⟩:=h;simp only[q_e] at h;obtain⟨rest,Wm,rfl⟩:=h;simp only[DataW.weights,hu] at Ki;obtain⟨hl1,hl2⟩:=Afc Mi;have Bl:len*P.bytesOf e<=reachBytes:=by
     have:=Ki _ List.mem_cons_self;simp only[q_g,hl1,List.length_range] at this;exact Nat.le_trans (Nat.mul_le_mul_right _ (Nat.le_add_right _ _)) this
    have hlen47:len<=140737488355328:=by
     have h1:len*1<=len*P.bytesOf e:=Nat.mul_le_mul_left _ hbpos;have h2:reachBytes<=140737488355328:=by decide
     omega
    have Bt:∀i,i<len->∃q:List Value×List SV,w.cells? base (a.add (i*P.cellsOf e)) (P.cellsOf e)=some q.1/\Hw P e q.2/\q.2.length=q.1.length/\(∀v∈q.1,v.oneCell'=true)/\∀(j:Nat) v y,q.1[j]?=some v->q.2[j]?=some y->Rep (Ms w) v y:=by
     intro i hi;obtain⟨b,hbm,hb⟩:=hl2 i i (by simp[hi]);simp only[q_a] at hb;obtain⟨cs1,Jo,hc2⟩:=hb;obtain⟨svs,g1,g2,g3,g4⟩:=ih e cs1 b heS (fun n hn=>Ki n (List.mem_cons_of_mem _ (List.mem_append_left _ (Bil (List.mem_map.2 ⟨b,List.mem_of_getElem? hbm,rfl⟩) hn)))) hc2;exact⟨(cs1,svs),Jo,g1,g2,g3,g4⟩
    obtain⟨qs,Uf,Fa⟩:=Ahh Bt;have Gj:∀r∈qs.map (·.2),Hw P e r:=by
     intro r hr;obtain⟨q,hq,rfl⟩:=List.mem_map.1 hr;obtain⟨i,hi⟩:=List.getElem?_of_mem hq;exact (Fa i q hi).2.1
    have Ah:∀q∈qs,q.1.length=P.cellsOf e:=by
     intro q hq;obtain⟨i,hi⟩:=List.getElem?_of_mem hq;exact (Acw (Fa i q hi).1).1
    have Ga:∀r∈qs.map (·.2),r.length=P.cellsOf e:=by
     intro r hr;obtain⟨q,hq,rfl⟩:=List.mem_map.1 hr;obtain⟨i,hi⟩:=List.getElem?_of_mem hq;rw[(Fa i q hi).2.2.1,Ah q hq]
    have Ak6:∀r∈qs.map (·.1),r.length=P.cellsOf e:=by
     intro r hr;obtain⟨q,hq,rfl⟩:=List.mem_map.1 hr;exact Ah q hq
    refine one _ _ rfl rfl (.slice t e (qs.map (·.2)) hu (by simpa [Uf] using Bl) Gj) ?_;rcases Nat.eq_zero_or_pos len with h0|h0
    ·have:qs=[]:=List.length_eq_zero_iff.1 (by omega);subst this;subst h0;exact .dsl0 _ _ _
    ·have Aky:a=⟨a.block,a.off,none⟩:=by
      obtain⟨q,hq⟩:∃q,qs[0]?=some q:=⟨qs[0]'(by omega),q_f (by omega)⟩
      obtain⟨v,_,hv⟩:=(Acw (Fa 0 q hq).1).2 0 Ch;have Bd:w.cell? a=some v:=by simpa [Addr.add] using hv
      unfold World.cell? at Bd;obtain⟨b,o,spt⟩:=a;cases spt with
      |none=>rfl
      |some x=>
       simp only at Bd;split at Bd<;>simp at Bd
     have Ii:=If Ga;have hvfl:=If Ak6;have Aaa:∀j v,(qs.map (·.1)).flatten[j]?=some v->∃q,qs[j / P.cellsOf e]?=some q/\j % P.cellsOf e<P.cellsOf e/\q.1[j % P.cellsOf e]?=some v:=by
      intro j v hv;have hm:=Nat.mod_lt j Ch;have Yl:j / P.cellsOf e*P.cellsOf e+j % P.cellsOf e=j:=Nat.div_add_mod' j _;rw[<-Yl,Vv Ak6 _ _ hm] at hv;simp only[List.getElem?_map,q_a,q_e] at hv;obtain⟨r,⟨q,hq,rfl⟩,hv⟩:=hv;exact⟨q,hq,hm,hv⟩
     rw[Aky];have hR:=Rep.dsl (m:=Ms w) (P.cellsOf e) (qs.map (·.2)) cap a.block a.off (qs.map (·.1)).flatten (fun v hv=>by
       obtain⟨r,hr,hvr⟩:=List.mem_flatten.1 hv;obtain⟨q,hq,rfl⟩:=List.mem_map.1 hr;obtain⟨i,hi⟩:=List.getElem?_of_mem hq;exact (Fa i q hi).2.2.2.1 v hvr) (by simp[Uf,Hz]) (by simp[Uf];exact hlen47) Ga (by rw[hvfl,Ii];simp) (fun j v hv=>by
       obtain⟨q,hq,hm,Bd⟩:=Aaa j v hv;obtain⟨u,hu1,Qm⟩:=(Acw (Fa _ q hq).1).2 _ hm;rw[Bd] at hu1;cases hu1;have Yl:j / P.cellsOf e*P.cellsOf e+j % P.cellsOf e=j:=Nat.div_add_mod' j _;rw[Aky,Ma,Ma] at Qm;show w.cell? ⟨a.block,a.off+j,none⟩=some v;rw[<-Yl,<-Nat.add_assoc];exact Qm) (fun j v y hv hy=>by
       obtain⟨q,hq,hm,Bd⟩:=Aaa j v hv;have Yl:j / P.cellsOf e*P.cellsOf e+j % P.cellsOf e=j:=Nat.div_add_mod' j _;rw[<-Yl,Vv Ga _ _ hm] at hy;simp only[List.getElem?_map,hq,Option.map_some,Option.bind_some] at hy;exact (Fa _ q hq).2.2.2.2 _ v y Bd hy)
     simpa [Uf] using hR
  ·rename_i fs hu;simp only[Bool.and_eq_true,List.all_eq_true,List.contains_eq_mem,decide_eq_true_eq] at hT;obtain⟨Cz,htl⟩:=hT;have h2:cs.length=P.cellsOf t/\∃xs,(fs.toList.mapM fun f=>DataW.trod enc P w base sp Wd fuel f.type ((cs.drop f.offset).take (P.cellsOf f.type)))=some xs/\x.1=.agg (xs.map (·.1)):=by
    have h':(if cs.length=P.cellsOf t then (fs.toList.mapM fun f=>DataW.trod enc P w base sp Wd fuel f.type ((cs.drop f.offset).take (P.cellsOf f.type))).map fun xs=>(DataW.agg (xs.map (·.1)),xs.flatMap (·.2)) else none)=some x:=by
     rw[<-h];simp only[DataW.trod,hu]
    split at h'
    ·rename_i hl;simp only[q_e] at h';obtain⟨xs,Ho,rfl⟩:=h';exact⟨hl,xs,Ho,rfl⟩
    ·cases h'
   obtain⟨hcl,xs,Ho,Pa⟩:=h2;rw[Pa] at Ki;simp only[DataW.weights,hu] at Ki;obtain⟨hl1,hl2⟩:=Afc Ho;have hparts:∀i,i<fs.toList.length->∃p:List SV,∀f,fs.toList[i]?=some f->Hw P f.type p/\p.length=((cs.drop f.offset).take (P.cellsOf f.type)).length/\(∀v∈(cs.drop f.offset).take (P.cellsOf f.type),v.oneCell'=true) /\
     ∀(j:Nat) v y,((cs.drop f.offset).take (P.cellsOf f.type))[j]?=some v->p[j]?=some y->Rep (Ms w) v y:=by
    intro i hi;have hf:fs.toList[i]?=some fs.toList[i]:=q_f hi;obtain⟨b,hbm,hb⟩:=hl2 i _ hf;obtain⟨svs,g1,g2,g3,g4⟩:=ih _ _ b (Cz _ (List.getElem_mem hi)) (fun n hn=>Ki n (DataW.weights_mem_each (j:=i) (t:=fs.toList[i].type) (d:=b.1) (by simp only[List.getElem?_map,hf,Option.map_some]) (by rw[List.getElem?_map,hbm];rfl) n hn)) hb;refine⟨svs,fun f hf'=>?_⟩;rw[hf] at hf';cases hf';exact⟨g1,g2,g3,g4⟩
   obtain⟨parts,hp1,Nr⟩:=Ahh hparts;have fitl:∀{fs:List Field} {o n:Nat},Pj P fs o n=true->∀(i:Nat) f,fs[i]?=some f->f.offset+P.cellsOf f.type<=n:=by
    intro fs
    induction fs with
    |nil=>intro o n _ i f hf;simp at hf
    |cons g fs ih2=>
     intro o n ht i f hf;simp only[Pj,Bool.and_eq_true,beq_iff_eq] at ht;have lo:∀{fs:List Field} {o n:Nat},Pj P fs o n=true->o<=n:=by
      intro fs
      induction fs with
      |nil=>intro o n h;simp only[Pj,beq_iff_eq] at h;omega
      |cons g fs ih3=>intro o n h;simp only[Pj,Bool.and_eq_true] at h;have:=ih3 h.2;omega
     cases i with
     |zero=>simp at hf;subst hf;have:=lo ht.2;omega
     |succ i=>exact ih2 ht.2 i f (by simpa using hf)
   have hplen:∀(i:Nat) (f:Field) (p:List SV),fs.toList[i]?=some f->parts[i]?=some p->p.length=P.cellsOf f.type:=by
    intro i f p hf hp;rw[(Nr i p hp f hf).2.1];have:=fitl htl i f hf;simp;omega
   obtain⟨f1,f2,f3⟩:=Bgt (P:=P) (cs:=cs) (fs:=fs.toList) (o:=0) (parts:=parts) (by rw[hcl];exact htl) (by rw[hp1]) hplen;refine⟨parts.flatten,.struct t fs parts hu (by rw[hp1]) (fun i f p hf hp=>(Nr i p hp f hf).1),by rw[f1];rfl,?_,fun j v y hv hy=>?_⟩
   ·intro v hv;obtain⟨j,hj⟩:=List.getElem?_of_mem hv;have Rx:j<cs.length:=by
     rcases Nat.lt_or_ge j cs.length with h|h
     ·exact h
     ·rw[List.getElem?_eq_none h] at hj;cases hj
    exact f3 (fun v _=>v.oneCell'=true) (fun i f p hf hp k v x hv _=>(Nr i p hp f hf).2.2.1 v (List.mem_of_getElem? hv)) j v _ hj (q_f (show j<parts.flatten.length by omega))
   ·exact f3 (Rep (Ms w)) (fun i f p hf hp=>(Nr i p hp f hf).2.2.2) j v y hv hy
  ·cases hT
end
inductive Po(P:Program)(t:TypeId):SV->Prop
 |agg (svs:List SV):Gc P t=some true->Hw P t svs->Po P t (.agg true svs)
 |one (x:SV):Gc P t=some false->Hw P t [x]->Po P t x
def Sx(P:Program):List TypeId->List SV->Prop
 |[],[]=>True
 |t::ts,x::xs=>Po P t x/\Sx P ts xs
 |_,_=>False
section
variable{H:Type}{enc:TypeId×Value->H}{P:Program}{w:World}{base:Nat}{sp:Nat->Bool}{Wd:Bool}
theorem Aqi{S:List TypeId}(hS:Vu P S=true){b0:Nat}{t:TypeId}{v:Value}{d:DataW H}{ps:List MemPlace}(ht:t∈S)(Fj:Value.okWide P w .any b0 t v)(Ki:∀n∈d.weights P t,n<=reachBytes)
  (h:DataW.Trod enc P w base sp Wd t v d ps):∃x,Po P t x/\Rep (Ms w) v x:=by
 obtain⟨fuel,h⟩:=h;obtain⟨svs,g1,g2,g3,g4⟩:=Bhd hS fuel t v.cells.toList (d,ps) ht Ki h;have hT:=hS;simp only[Vu,List.all_eq_true] at hT;have hT:=hT t ht;have one:Gc P t=some false->v.oneCell'=true->∃x,Po P t x/\Rep (Ms w) v x:=by
  intro ha ho;have hc:v.cells=#[v]:=by cases v<;>first|rfl|(simp[Value.oneCell'] at ho)
  rw[hc] at g2 g4
  match svs,g2 with
  |[x],_=>exact⟨x,.one x ha g1,g4 0 v x rfl rfl⟩
 split at hT
 ·rename_i hu;exact one (by simp[Gc,hu]) (by
   simp only[Value.okWide,hu,Cell.okWide] at Fj;cases v<;>simp_all[Cell.ok,Value.oneCell'])
 ·rename_i k hu;exact one (by simp[Gc,hu]) (by
   simp only[Value.okWide,hu,Cell.okWide] at Fj;cases v<;>simp_all[Cell.ok,Value.oneCell'])
 ·rename_i k hu;exact one (by simp[Gc,hu]) (by
   simp only[Value.okWide,hu,Cell.okWide] at Fj;cases v<;>simp_all[Cell.ok,Value.oneCell'])
 ·rename_i hu;exact one (by simp[Gc,hu]) (by
   simp only[Value.okWide,hu,Cell.okWide] at Fj;cases v<;>simp_all[Cell.ok,Value.oneCell'])
 ·rename_i e hu;exact one (by simp[Gc,hu]) (by
   simp only[Value.okWide,hu,Cell.okWide] at Fj;cases v<;>simp_all[Cell.ok,Value.oneCell'])
 ·rename_i fs hu;simp only[Value.okWide,hu] at Fj;obtain⟨cs,rfl,_,_⟩:=Fj;refine⟨.agg true svs,.agg svs (by simp[Gc,hu]) g1,?_⟩;have:=Rep.agg (m:=Ms w) cs.toList svs g3 (by rw[g2];rfl) g4;simpa using this
 ·cases hT
theorem Aqj{S:List TypeId}(hS:Vu P S=true){b0:Nat}:∀{ts:List TypeId} {vs:List Value} {ds:List (DataW H)} {ps:List MemPlace},(∀t∈ts,t∈S)->(∀(j:Nat) t v,ts[j]?=some t->vs[j]?=some v->Value.okWide P w .any b0 t v) ->
  (∀n∈DataW.weightsEach P ts ds,n<=reachBytes)->DataW.TrodAll enc P w base sp Wd ts vs ds ps->∃xs,Sx P ts xs/\xs.length=vs.length/\∀(j:Nat) v x,vs[j]?=some v->xs[j]?=some x->Rep (Ms w) v x:=by
 intro ts
 induction ts with
 |nil=>
  intro vs ds ps _ _ _ h;cases vs with
  |nil=>exact⟨[],trivial,rfl,by simp⟩
  |cons v vs=>cases ds<;>exact h.elim
 |cons t ts ih=>
  intro vs ds ps v9 Fj Ki h;cases vs with
  |nil=>cases ds<;>exact h.elim
  |cons v vs=>
   cases ds with
   |nil=>exact h.elim
   |cons d ds=>
    obtain⟨p,q,h1,h2,rfl⟩:=h;simp only[DataW.weightsEach,List.mem_append] at Ki;obtain⟨x,a1,a2⟩:=Aqi hS (v9 t List.mem_cons_self) (Fj 0 t v rfl rfl) (fun n hn=>Ki n (.inl hn)) h1;obtain⟨xs,b1,b2,b3⟩:=ih (fun u hu=>v9 u (List.mem_cons_of_mem _ hu)) (fun j u z hu hz=>Fj (j+1) u z (by simpa using hu) (by simpa using hz)) (fun n hn=>Ki n (.inr hn)) h2;refine⟨x::xs,⟨a1,b1⟩,by simp[b2],fun j u z hu hz=>?_⟩;cases j with
    |zero=>simp at hu hz;subst hu;subst hz;exact a2
    |succ j=>exact b3 j u z (by simpa using hu) (by simpa using hz)
theorem Bhc(hl:laidOutB P=true){W W':World}(hb:Below W.heap.size W W'):∀{ts:List TypeId} {vs:List Value} {ds:List (DataW H)} {ps:List MemPlace},(∀t∈ts,P.readableRec t=true/\t<P.types.size) ->
  (∀x∈ps,x.block<W.heap.size)->DataW.TrodAll enc P W 0 (fun _=>true) true ts vs ds ps->DataW.TrodAll enc P W' 0 (fun b=>decide (b<W.heap.size)) true ts vs ds ps:=by
 intro ts
 induction ts with
 |nil=>
  intro vs ds ps _ _ h;cases vs with
  |nil=>cases ds with
   |nil=>exact h
   |cons d ds=>exact h.elim
  |cons v vs=>cases ds<;>exact h.elim
 |cons t ts ih=>
  intro vs ds ps hr Ab h;cases vs with
  |nil=>cases ds<;>exact h.elim
  |cons v vs=>
   cases ds with
   |nil=>exact h.elim
   |cons d ds=>
    obtain⟨p,q,h1,h2,rfl⟩:=h;exact⟨p,q,Below.trod hl (hr t List.mem_cons_self).1 (hr t List.mem_cons_self).2 h1 hb (fun x hx=>Ab x (List.mem_append_left _ hx)),ih (fun u hu=>hr u (List.mem_cons_of_mem _ hu)) (fun x hx=>Ab x (List.mem_append_right _ hx)) h2,rfl⟩
end
theorem Bim{H:Type}{P:Program}{n:Nat}{us:List TypeId}{es:List (DataW H)}:∀{ts:List TypeId} {ds:List (DataW H)},n∈DataW.weightsEach P ts ds->n∈DataW.weightsEach P (ts++us) (ds++es):=by
 intro ts
 induction ts with
 |nil=>intro ds h;simp[DataW.weightsEach] at h
 |cons t ts ih=>
  intro ds h;cases ds with
  |nil=>simp[DataW.weightsEach] at h
  |cons d ds=>
   simp only[List.cons_append,DataW.weightsEach,List.mem_append] at h |-;rcases h with h|h
   ·exact .inl h
   ·exact .inr (ih h)
end Go.Proofs.YtdpigpopcbjkmaaGreatDoor.Abs
