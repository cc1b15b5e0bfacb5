import Derived.Test.YtdpigpopcbjkmaaGreatDoorZDo
import Derived.Test.YtdpigpopcbjkmaaGreatDoorZRx
import Derived.Test.YtdpigpopcbjkmaaGreatDoorZEv
set_option linter.unusedSimpArgs false
set_option linter.unusedVariables false
set_option maxRecDepth 20000
set_option maxHeartbeats 4000000
namespace Go.Proofs.YtdpigpopcbjkmaaGreatDoor.Abs
open Go Go.RowKit
def PXK (w0:World) (own:Nat->Prop) (M0:Mem) (Df:List Deferred) (KP:Env->Act->Prop) (X:SV->List (List SV)->Prop) (Q:Exit->Act->World->Prop):Prop:=
 ∀(E:Env) (u:Value) (x:SV) (G':List (List SV)) (a:Act) (w:World),X x G'->Rep E.m u x->W w0 own E w->GI w0.heap.size own E w G'->M0.le E.m->E.m0=M0->a.defers=Df->KP E a->Q (.panic [{ v:=u,recovered:=false }]) a w
def KT (T:List (Nat×SV)) (E:Env) (a:Act):Prop:=∀p∈T,RelV E (a.tmps.getD p.1 undef) p.2
theorem Ayt {X:Type} {f:Nat->Nat->X} {wr:Nat->Nat->Bool} {L:Nat->Bool} {p:Nat} (h:∀k,wr k p=false):∀{n:Nat},atL f wr L n p=f 0 p:=by
 intro n
 induction n with
 |zero=>rfl
 |succ n ih=>simp [atL,h n,ih]
section
variable {P:Program} {U:Nat->Prop} {w0:World} {own:Nat->Prop} {E:Env} {w:World} {s:St} {a:Act} {M0:Mem} {B:Env->Prop} {Df:List Deferred} {g:Option (List (List SV))} {G:List (List SV)} {X:SV->List (List SV)->Prop}
theorem Bax {KP:Env->Act->Prop} {o:Oper} {ao:Av} (tr:Af P o.op=some ao.op) (hD:Ym (Bd P X) ao s) (hW:W w0 own E w) (hg:GX w0.heap.size own E w g) (hu:∀i,U i->E.view g i=s.hp[i]?)
  (Bp:∀i∈Cn s ao.op,U i) (hx:∀x∈o.op.operands,∀ax,trX x=some ax->RelV E (a.eval x) (s.get ax)) (hM:M0.le E.m) (hz:E.m0=M0) (Dl:a.defers=Df) (K:Act->World->Prop) (Q:Exit->Act->World->Prop) (hQ:PXK w0 own M0 Df KP X Q) (Wp:∀E',Ext0 E E'->KP E' a):o.wp P a w K Q:=by
 obtain⟨dst,op,ty,pos,after,guard⟩:=o;obtain⟨d,aop,gu,id,fp,chk⟩:=ao;simp only at tr hx Bp;rcases hD with⟨f,args,vs,h0,G,G',x,Au,hcl,hG,hC,hX⟩|⟨x,t,G,Au,Wh,hG,hX⟩
 ·simp only at Au;subst Au;obtain⟨c,rfl,_⟩:=Ux tr rfl;obtain⟨ars0,hr,Ua⟩:=Ab0 (dst:=dst) (ty:=ty) (pos:=pos) (after:=after) (guard:=guard) tr hcl hG hC hW hg hu Bp hx;unfold Oper.wp;rw [hr];simp only [Oper.upon];refine Calls.mono Ua (fun e w' he=>?_);obtain⟨E',⟨u,rfl,Bl⟩,st⟩:=he;exact hQ E' u x G' a w' hX Bl st.wo st.gx (hM.trans st.ext.m) (st.ext.z.trans hz) Dl (Wp E' st.ext)
 ·simp only at Au;subst Au;have Au:∃y,op=.panic y/\trX y=some x:=by
   cases op with
   |panic y=>
    simp only [Af,q_e] at tr;obtain⟨ax,Ae,h⟩:=tr;cases h;exact⟨y,rfl,Ae⟩
   |_=>have:=Ah5 (by intro y h;cases h) tr;cases this
  obtain⟨y,rfl,hy⟩:=Au;have hv:=hx y (by simp [Op.operands]) x hy;rw [Wh] at hv;have hU:U 0:=Bp 0 (by simp [Cn]);have:=Kr hu hU hW hG;subst this;have hr:=hv.closed_rep rfl;have Ek:a.eval y=.iface t (.agg #[]):=by
   generalize a.eval y=u at hr;cases hr;rfl
  unfold Oper.wp;have:(execOp a.eval { dst:=dst,op:=.panic y,type:=ty,pos:=pos,after:=after,guard:=guard }).run P w=.halt (.panic (a.eval y)) w:=by
   simp [execOp,Ek,Instr.panic,goPanic]
  rw [this];simp only [Oper.upon];exact hQ E _ _ G a w hX hr hW hg hM hz Dl (Wp E (Ext0.refl E))
end
section
variable {P:Program} {w0:World} {own:Nat->Prop} {M0:Mem} {B:Env->Prop} {Df:List Deferred} {ops:Array Oper} {Q:Exit->Act->World->Prop} {K:St->Prop} {l:List Av} {s:St} {n:Nat} {σ:Nat->St} {v:Nat->SV} {q:Nat->Prop} {on:Nat->Bool} {X:SV->List (List SV)->Prop} {g:Option (List (List SV))}
theorem Atb [hB:Nonempty (StB B)] {KP:Env->Act->Prop} (Wp:∀(L:Nat->Bool) E g a w,Inv w0 own M0 B Df ops l s n σ on q L E g a w->∀E',Ext0 E E'->KP E' a) (hX:PXK w0 own M0 Df KP X Q) (hok:Kg ops l=true) (hT:Trace (Bd P X) l s [] True K n σ v q on) (hn:∀k,n<=k->σ (k+1)=σ k) (Gt:∀(k:Nat) a,l[k]?=some a->∃o a0,ops[k]?=some o/\Rb P ops o=some a0/\a.op=a0.op/\a.d=a0.d/\a.g=a0.g/\a.id=k)
  (hK:∀E g s a w,SR w0 own M0 B Df E g s a w->K s->Q .normal a w):∀(fuel:Nat) (listed:Array Bool) (E:Env) (g:Option (List (List SV))) (a:Act) (w:World),listed.size=ops.size->(List.range ops.size).countP (fun k=>!listed.getD k false)<=fuel ->
   Inv w0 own M0 B Df ops l s n σ on q (fun k=>listed.getD k false) E g a w->wpAny P .any ops Q fuel listed a w:=by
 have Aj:=Adf hok;have Rs:∀(k:Nat) a o,l[k]?=some a->ops[k]?=some o->o.dst=a.d:=by
  intro k a o h1 h2;obtain⟨o',a0,g1,g2,g3,g4,g5,g6⟩:=Gt k a h1;rw [h2] at g1;cases g1;rw [g4];exact (Xq g2).2.1
 -- all are done where none is ready
 have alldone:∀(listed:Array Bool),listed.size=ops.size->Region.ready .any ops listed=[]->∀k,k<ops.size->listed.getD k false=true:=by
  intro listed Ba hr k
  induction k using Nat.strongRecOn with
  |_ k ih=>
   intro hk;cases hl:listed.getD k false with
   |true=>rfl
   |false=>
    exfalso;have ho:ops[k]?=some ops[k]:=Array.getElem?_eq_getElem hk;have:k∈Region.ready .any ops listed:=mem_ready.2 ⟨by simpa [Ba,hk] using hl,_,ho,fun e he hb=>by
     have:=Ahh hok ho he hb;exact ih e.on this (by omega)⟩
    rw [hr] at this;cases this
 have final:∀(listed:Array Bool) (E:Env) (g:Option (List (List SV))) (a:Act) (w:World),listed.size=ops.size->Region.ready .any ops listed=[]->Inv w0 own M0 B Df ops l s n σ on q (fun k=>listed.getD k false) E g a w->Q .normal a w:=by
  intro listed E g a w Ba hr hI;have Ic:=alldone listed Ba hr;have hnl:n=l.length:=by
   rcases Nat.lt_or_ge n l.length with h|h
   ·have:=hI.lt n (Ic n (by omega));omega
   ·have:=hT.le;omega
  refine hK E g (σ l.length) a w ⟨hI.wo,hI.gx,fun p=>?_,?_,fun t=>?_,hI.dfr,hI.z,hI.le,hI.d,hI.hb⟩ (hT.fin hnl trivial (fun i hi=>hI.q i (Ic i (by omega))))
  ·rw [hI.hp p,Vh (Xb hT hn) (fun j hj _=>Ic j (by omega))];rfl
  ·rw [Ac9 hT hn];exact hI.len
  ·have:=hI.sl t;rw [Vh (Acl hT hn) (fun j hj _=>Ic j (by omega))] at this;exact this
 intro fuel
 induction fuel with
 |zero=>
  intro listed E g a w Ba hc hI;have hr:Region.ready .any ops listed=[]:=by
   rw [List.eq_nil_iff_forall_not_mem];intro k hk;obtain⟨h1,o,ho,_⟩:=mem_ready.1 hk;have Dj:k<ops.size:=(Array.getElem?_eq_some_iff.1 ho).1;have:0<(List.range ops.size).countP (fun k=>!listed.getD k false):=List.countP_pos_iff.2 ⟨k,List.mem_range.2 Dj,by
    have h3:k<listed.size:=by omega
    simp [h3] at h1 |-;exact h1⟩
   omega
  exact⟨hr,final listed E g a w Ba hr hI⟩
 |succ fuel ih=>
  intro listed E g a w Ba hc hI;refine⟨fun hr=>final listed E g a w Ba hr hI,fun i hi=>?_⟩;obtain⟨h1,o,ho,Uc⟩:=mem_ready.1 hi;have hi2:i<ops.size:=(Array.getElem?_eq_some_iff.1 ho).1;have Ud:listed.getD i false=false:=by
   have h3:i<listed.size:=by omega
   simp [h3] at h1 |-;exact h1
  have ha:l[i]?=some l[i]:=q_f (by omega);obtain⟨o',a0,g1,g2,g3,g4,g5,g6⟩:=Gt i _ ha;rw [ho] at g1;cases g1;obtain⟨tr,hd,hg⟩:=Xq g2;rw [<-g3] at tr;rw [<-g4] at hd;have Cr:i<=n:=by
   rcases Nat.lt_or_ge n i with Ue|Ue
   ·exfalso;have hnl:n<l.length:=by omega
    have Uf:l[n]?=some l[n]:=q_f hnl;obtain⟨on',b0,k1,k2,k3,k4,k5,k6⟩:=Gt n _ Uf;have hc:=(hT.die _ Uf).2.2.2.1;rw [k6] at hc;have hb:=Ah6 hok Ue k1 ho Uf ha hc;have:=hI.lt n (u6 hI.down ho Uc (by omega) hb);omega
   ·exact Ue
  have hP:=Ai6 hok hT hn Rs Cr hI.lt hI.down Ud ho ha Uc;have hset:∀k,(listed.setIfInBounds i true).getD k false=(listed.getD k false || k==i):=Ag7 listed i (by omega);have Aez:(List.range ops.size).countP (fun k=>!(listed.setIfInBounds i true).getD k false)<=fuel:=by
   have:(List.range ops.size).countP (fun k=>!(listed.setIfInBounds i true).getD k false)<(List.range ops.size).countP (fun k=>!listed.getD k false):=by
    refine Agj (fun k hk=>?_) (List.mem_range.2 hi2) (by rw [Ud];rfl) (by rw [hset];simp);rw [hset] at hk;simp only [Bool.not_or,Bool.and_eq_true] at hk;exact hk.1
   omega
  have cont:i<n->∀(U:Nat->Prop),(∀p,U p->on i=true/\p∈Cc (σ i) (l[i]'(by omega)).op/\atL (fO σ) (wO l σ on) (fun k=>listed.getD k false) l.length p=(σ i).hp[p]?)->(on i=true->∀p,p∈Cv (σ i) (l[i]'(by omega)).op->U p)->∀(E':Env) (g':Option (List (List SV))) (u:Value) (w':World),RelV E' u (v i)->StepV U w0 own E g E' g' w' (σ (i+1)).hp->q i->wpAny P .any ops Q fuel (listed.setIfInBounds i true) (a.put o.dst u) w':=by
   intro Ab U Zc Zd E' g' u w' hv st hq;rw [hd];exact ih _ E' g' _ w' (by simp [Ba]) Aez (hI.step hT hn hP Ab ha ho Uc Ud hset hv Zc Zd st hq)
  unfold wpOp;simp only [ho];have Zf:∀t,t∈o.looksAt ops->RelV E (a.tmps.getD t undef) ((σ i).sl.getD t .undef):=fun t ht=>by
   have:=hI.sl t
   rwa [hP.slotR t ht] at this
  have hwA:Jp (l[i]'(by omega)) (σ i) (on i):=by
   rcases Nat.lt_or_ge i n with Ab|Et
   ·exact hT.want i _ Ab ha
   ·have:i=n:=by omega
    subst this;obtain⟨d1,d2,_⟩:=hT.die _ ha;rw [d2];exact d1
  have Wn:Region.wanted o (yielded ops a.tmps)=on i:=by
   have hW:=hwA;rcases hg with⟨hg1,Id⟩|⟨j,want,t,hg1,Id,Za⟩
   ·rw [Aco hg1];simp only [Jp,g5,Id] at hW;exact hW.symm
   ·have Dp:=Zf t (Aky hg1 Id);simp only [Jp,g5,Za] at hW;rcases hW with⟨c,h1,h2⟩|⟨h1,h2⟩
    ·rw [h1] at Dp;rw [Acw hg1 Id Dp,h2]
    ·rw [h1] at Dp;rw [Aci hg1 Id Dp,h2]
  rw [Wn];have Eu:∀x∈o.op.operands,∀ax,trX x=some ax->RelV E (a.eval x) ((σ i).get ax):=fun x hx ax Ae=>by
   cases x with
   |tmp t=>simp only [trX,q_b] at Ae;subst Ae;exact Zf t (Agi hx)
   |const c=>
    simp only [trX,q_e] at Ae;obtain⟨sv,Yy,rfl⟩:=Ae;exact .rep _ _ (Jm Yy).1
   |func f=>simp only [trX,q_b] at Ae;subst Ae;exact .rep _ _ (.fn f)
   |_=>simp [trX] at Ae
  rcases Nat.lt_or_ge i n with Ab|Et
  rotate_left
  ·have:i=n:=by omega
   subst this;obtain⟨d1,d2,d3,d4,d5,d6⟩:=hT.die _ ha;rw [d2];simp only [if_true];have hR:on i=true->∀p,p∈Cc (σ i) (l[i]'(by omega)).op->atL (fO σ) (wO l σ on) (fun k=>listed.getD k false) l.length p=(σ i).hp[p]?:=by
    rcases hP.obR with hR|⟨k,_,_,h⟩
    ·exact hR
    ·omega
   exact .inl (Bax (KP:=KP) (U:=fun p=>on i=true/\p∈Cc (σ i) (l[i]'(by omega)).op) tr d3 hI.wo hI.gx (fun p hp=>by rw [hI.hp p,hR hp.1 p hp.2]) (fun p hp=>⟨d2,by simp [Cc,hp]⟩) Eu hI.le hI.z hI.dfr _ _ hX (Wp _ E g a w hI))
  cases Az:on i with
  |false=>
   simp only [Bool.false_eq_true,if_false];obtain⟨e1,e2,e3⟩:=hT.skip i _ Ab ha Az;exact cont Ab (fun _=>False) (fun _ h=>h.elim) (fun h=>by rw [Az] at h;cases h) E g undef w (by rw [e1];exact .undef) ⟨Ext0.refl E,hI.wo,hI.gx,fun p hp=>hp.elim,fun _ _=>rfl,rfl,fun _=>rfl⟩ e3
  |true=>
   simp only [if_true];obtain⟨hD,_⟩:=hT.does i _ Ab ha Az;rcases hP.obR with hR|⟨k,Rt,Zg,_⟩
   ·exact .inl (Xu (U:=fun p=>on i=true/\p∈Cc (σ i) (l[i]'(by omega)).op) tr hD hI.wo hI.gx (fun p hp=>by rw [hI.hp p,hR hp.1 p hp.2]) (fun hs=>hI.ne hs i) (fun hc=>⟨Az,by simp [Cc,hc]⟩) (fun p hp=>⟨Az,by simp [Cc,hp]⟩) Eu _ _
     (fun u w' E' g' hv st hq=>cont Ab _ (fun p hp=>⟨hp.1,hp.2,hR hp.1 p hp.2⟩) (fun h p hp=>⟨h,Uy hp⟩) E' g' u w' hv st hq))
   ·obtain⟨s1,s2,s3,s4⟩:=Ak3 hD Zg;have Ae1:∀x∈o.op.operands,∀ax,trX x=some ax->RelV E (a.eval x) (({ σ i with hp:=(σ (k+1)).hp }:St).get ax):=fun x hx ax Ae=>by
     have:=Eu x hx ax Ae;cases ax<;>exact this
    exact .inl (Xu (U:=fun p=>p=0) tr s1 hI.wo hI.gx (fun p hp=>by subst hp;rw [hI.hp 0,Rt]) (fun hs=>hI.ne hs (k+1)) (fun hc=>by rw [s4] at hc;cases hc) s3 Ae1 _ _
     (fun u w' E' g' hv st hq=>cont Ab (fun _=>False) (fun _ h=>h.elim) (fun _ p hp=>by rw [(l3 Zg).2] at hp;cases hp) E' g' u w' hv
      ⟨st.ext,st.wo,st.gx,fun _ h=>h.elim,fun p _=>by
       by_cases Fx:p=0
       ·subst Fx;rw [st.on 0 rfl,hI.hp 0,Rt]
       ·exact st.off p Fx,st.sm,st.d⟩ s2))
theorem Awg [hB:Nonempty (StB B)] {T:List (Nat×SV)} {E:Env} {a:Act} {w:World} {l0:List Av} {id:Nat} (hX:PXK w0 own M0 Df (KT T) X Q) (hT1:∀p∈T,s.sl.getD p.1 .undef=p.2) (hT2:∀p∈T,∀ao∈l,ao.d≠some p.1) (hm:P.follows .mixedOrders=true) (htr:Oh P ops ops.toList=some l0) (hl:l=Yb (Oc ops.toList []) l0) (hok:Kg ops l=true)
  (hK:∀E g s a w,SR w0 own M0 B Df E g s a w->K s->Q .normal a w) (hS:SR w0 own M0 B Df E g s a w) (h:Fb (Bd P X) l s [] True K):(Code.region id ops true).wp P Q a w:=by
 obtain⟨n,σ0,v,q,on,hT0⟩:=Age l s [] True h
 -- the trace,standing still past its end
 let σ:Nat->St:=fun k=>σ0 (min k n)
 have hσ:∀k,k<=n->σ k=σ0 k:=fun k hk=>by simp only [σ];rw [Nat.min_eq_left hk]
 have hT:Trace (Bd P X) l s [] True K n σ v q on:=by
  refine⟨by rw [hσ 0 (Nat.zero_le _)];exact hT0.zero,hT0.le,fun i ao hi ha=>?_,fun i ao hi ha=>?_,fun i ao hi ha ho=>?_,fun i ao hi ha ho=>?_,fun i j a b Hf hj ha hb=>?_,fun hn _ hq=>by rw [hσ _ (by omega)];exact hT0.fin hn trivial hq,fun ao ha=>?_⟩
  ·rw [hσ i (by omega)];exact hT0.want i ao hi ha
  ·rw [hσ i (by omega),hσ (i+1) hi];exact hT0.next i ao hi ha
  ·rw [hσ i (by omega),hσ (i+1) hi];exact hT0.does i ao hi ha ho
  ·rw [hσ i (by omega),hσ (i+1) hi];exact hT0.skip i ao hi ha ho
  ·rw [hσ i (by omega),hσ j (by omega),hσ (j+1) (by omega)];exact hT0.apart i j a b Hf hj ha hb
  ·rw [hσ n (Nat.le_refl _)];obtain⟨d1,d2,d3,d4,d5,d6⟩:=hT0.die ao ha;exact⟨d1,d2,d3,d4,d5,fun i a hi=>by rw [hσ i (by omega)];exact d6 i a hi⟩
 have hn:∀k,n<=k->σ (k+1)=σ k:=fun k hk=>by simp only [σ];rw [Nat.min_eq_right hk,Nat.min_eq_right (by omega)]
 have Gt:∀(k:Nat) a,l[k]?=some a->∃o a0,ops[k]?=some o/\Rb P ops o=some a0/\a.op=a0.op/\a.d=a0.d/\a.g=a0.g/\a.id=k:=by
  intro k a ha;rw [hl] at ha;obtain⟨a0,h1,h2,h3,h4,h5⟩:=Agp ha;obtain⟨o,g1,g2⟩:=(Aie htr).2 k a0 h1;exact⟨o,a0,by simpa using g1,g2,h2,h3,h4,h5⟩
 have Aj:∀k,s.hp.length<=(σ k).hp.length:=by
  intro k
  induction k with
  |zero=>rw [hT.zero];exact Nat.le_refl _
  |succ k ih=>
   rcases Nat.lt_or_ge k n with hk|hk
   ·have ha:l[k]?=some (l[k]'(by have:=hT.le;omega)):=q_f (by have:=hT.le;omega);cases ho:on k with
    |true=>exact Nat.le_trans ih (Ajq (hT.does k _ hk ha ho).1)
    |false=>rw [(hT.skip k _ hk ha ho).2.1];exact ih
   ·rw [hn k hk];exact ih
 have Wp:∀(L:Nat->Bool) E g a w,Inv w0 own M0 B Df ops l s n σ on q L E g a w->∀E',Ext0 E E'->KT T E' a:=fun L E g a w hI E' hE p hp=>by
  have:=(hI.sl p.1).mono0 hE;rw [Ayt (fun k=>?_)] at this
  ·simp only [fS,hT.zero] at this;rw [hT1 p hp] at this;exact this
  ·unfold wS;cases hk:l[k]? with
   |none=>rfl
   |some ao=>simpa using hT2 p hp ao (List.mem_of_getElem? hk)
 refine wp_region_any hm (Atb (KP:=KT T) Wp hX hok hT hn Gt hK ops.size (Array.replicate ops.size false) E g a _ (by simp) (Nat.le_trans (List.countP_le_length) (by simp)) ?_);have Ia:∀k,(Array.replicate ops.size false).getD k false=false:=fun k=>by
  rcases Nat.lt_or_ge k ops.size with h|h<;>simp [h]
 refine⟨fun j o _ hj=>?_,fun k hk=>?_,hS.wo.drew,hS.gx.drew,fun p=>?_,hS.len,fun t=>?_,hS.dfr,hS.z,hS.le,hS.d,fun hs k=>Nat.lt_of_lt_of_le (hS.ne hs) (Aj k),fun i hi=>?_,hS.hb⟩
 ·rw [Ia j] at hj;cases hj
 ·rw [Ia k] at hk;cases hk
 ·rw [p6 Ia,hS.hp p];simp only [fO,hT.zero]
 ·rw [p6 Ia];simp only [fS,hT.zero];exact hS.sl t
 ·rw [Ia i] at hi;cases hi
end
def Aa4 (caps:Array Operand):Option (List Nat):=caps.toList.mapM fun|.tmp t=>some t|_=>none
inductive Vv (P:Program) (t gf:Nat) (ts:List Nat):Nat->Code->AC->Prop
 |seq (n:Nat) (x y:Code) (ax ay:AC):trC P x=some ax->Vv P t gf ts n y ay->Vv P t gf ts (n+1) (.seq x y) (.seq ax ay)
 |door (id ty1 ty2:Nat) (p1 p2:String) (af1 af2:Array Edge) (caps:Array Operand) (y:Code) (ay:AC):Aa4 caps=some ts->trC P y=some ay ->
   Vv P t gf ts 0 (.seq (.region id #[{ dst:=some t,op:=.makeFunc (.func gf) #[] caps,type:=ty1,pos:=p1,after:=af1,guard:=none },{ dst:=none,op:=.defer { callee:=.value (.tmp t),args:=#[],argTypes:=#[] },type:=ty2,pos:=p2,after:=af2,guard:=none }] false) y) (.seq (Pl t) ay)
def Alj:Code->Option (Nat×Nat×List Nat)
 |.region _ ops false=>match ops.toList with
  |[o1,o2]=>match Aaq o1,Aa5 o2 with
   |some (t,gf,caps),some t'=>if t=t' then (Aa4 caps).map fun ts=>(t,gf,ts) else none
   |_,_=>none
  |_=>none
 |_=>none
def Yn (P:Program):Code->Option (AC×Nat×Nat×List Nat×Nat)
 |.seq x y=>
  match Alj x with
  |some (t,gf,ts)=>(trC P y).map fun ay=>(.seq (Pl t) ay,t,gf,ts,0)
  |none=>match trC P x with
   |some ax=>(Yn P y).map fun r=>(.seq ax r.1,r.2.1,r.2.2.1,r.2.2.2.1,r.2.2.2.2+1)
   |none=>none
 |_=>none
theorem Aii {P:Program}:∀{c:Code} {ac:AC} {t gf n:Nat} {ts:List Nat},Yn P c=some (ac,t,gf,ts,n)->Vv P t gf ts n c ac:=by
 intro c
 induction c with
 |seq x y _ ih=>
  intro ac t gf n ts h;simp only [Yn] at h;split at h
  ·rename_i t' gf' ts' hd;simp only [q_e,Prod.mk.injEq] at h;obtain⟨ay,hy,rfl,rfl,rfl,rfl,rfl⟩:=h;unfold Alj at hd;split at hd;rotate_left
   ·cases hd
   rename_i _ ops _;split at hd;rotate_left
   ·cases hd
   rename_i o1 o2 Gt;split at hd;rotate_left
   ·cases hd
   rename_i t1 gf1 caps t2 h1 h2;split at hd;rotate_left
   ·cases hd
   rename_i htt;subst htt;simp only [q_e,Prod.mk.injEq] at hd;obtain⟨ts1,Lm,rfl,rfl,rfl⟩:=hd;have he:ops=#[o1,o2]:=by rw [<-Array.toArray_toList (xs:=ops),Gt]
   rw [he,Ahm h1,Ahu h2];exact .door _ _ _ _ _ _ _ _ _ _ Lm hy
  ·split at h;rotate_left
   ·cases h
   rename_i ax hx;simp only [q_e,Prod.mk.injEq] at h;obtain⟨⟨ay,t1,gf1,ts1,n1⟩,hy,rfl,rfl,rfl,rfl,rfl⟩:=h;exact .seq _ _ _ _ _ hx (ih hy)
 |_=>intro ac t gf n ts h;simp [Yn] at h
def Yc (P:Program) (fn:Func):Option (AF×Nat×Nat×List Nat×Nat):=
 match fn.body with
 |some c=>match trR P fn.results.toList with
  |some ars=>(Yn P c).map fun r=>({ ntmps:=fn.ntmps,res:=ars,body:=r.1 },r.2)
  |none=>none
 |none=>none
def vcN (C:CT) (N:AC->St->Prop):Nat->AC->St->Prop
 |0,ac,s=>N ac s
 |n+1,.seq a b,s=>vc C a (fun e s'=>match e with|.normal=>vcN C N n b s'|_=>False) s
 |_+1,_,_=>False
def nx (C:CT) (N:AC->St->Prop) (n:Nat) (b:AC):AE->St->Prop:=fun e s'=>match e with|.normal=>vcN C N n b s'|_=>False
section
variable {C:CT} {N:AC->St->Prop} {n j:Nat} {a b ac:AC} {s:St}
theorem nx_n:nx C N n b .normal s=vcN C N n b s:=Eq.trans rfl rfl
theorem nx_e:nx C N n b (.exit j) s=False:=Eq.trans rfl rfl
theorem nx_r:nx C N n b .ret s=False:=Eq.trans rfl rfl
theorem l9:vcN C N (n+1) (.seq a b) s=vc C a (nx C N n b) s:=by rw [vcN];rfl
theorem Xp:vcN C N 0 ac s=N ac s:=by rw [vcN]
attribute [go_sem] nx_n nx_e nx_r l9 Xp
end
def Ad6 (P:Program) (X:SV->List (List SV)->Prop) (T:List (Nat×SV)) (ac:AC) (s:St):Prop:=
 ∃ops b,ac=.seq (.reg ops true) b/\(∀p∈T,s.sl.getD p.1 .undef=p.2)/\(∀p∈T,∀o∈ops,o.d≠some p.1)/\Fb (Bd P X) ops s [] True (fun _=>False)
def Aln (C:CT) (N:AC->St->Prop) (T:List (Nat×SV)) (t n:Nat) (ac:AC) (s:St):Prop:=∃ay,ac=.seq (Pl t) ay/\t<s.sl.length/\∃s',Wk (s.put (some t) .jk) s'/\(∀p∈T,s'.sl.getD p.1 .undef=p.2/\p.1≠t)/\vcN C N n ay s'
section
variable {P:Program} {w0:World} {own:Nat->Prop} {M0:Mem} {B:Env->Prop} {Df:List Deferred} {g:Option (List (List SV))} {X:SV->List (List SV)->Prop} {E:Env} {s:St} {a:Act} {w:World}
theorem SR.reb [hB:Nonempty (StB B)] (h:SR w0 own M0 B Df E g s a w):SR w0 own E.m B Df { E with m0:=E.m } g s a w:=by
 have hW:=h.wo;refine⟨⟨hW.os,hW.tape,hW.output,hW.size,hW.block,hW.mem,fun o ob ho=>?_,hW.inj,fun _ _ _ _=>rfl,hW.pl⟩,?_,h.hp,h.len,fun i=>(h.sl i).re,h.dfr,rfl,.refl _,fun _=>rfl,fun hs=>hB.elim fun k=>k.wk E { E with m0:=E.m } (fun _ _ h _=>h) rfl (h.hb hs)⟩
 ·have hk:=hW.obs o ob ho;refine⟨hk.rows,hk.frz,hk.fit,hk.box,hk.bnd,fun ht=>?_⟩;obtain⟨c,e,k⟩:=hk.live ht;exact⟨c,e,⟨k.blk,k.size,k.new,fun j v x hv hx=>(k.rel j v x hv hx).re,k.one,k.old,k.free,k.clo,k.pl⟩⟩
 ·have:=h.gx;cases g with
  |none=>trivial
  |some G=>exact⟨this.z,this.sat,this.new,this.obs⟩
theorem Avt [hB:Nonempty (StB B)] (hm:P.follows .mixedOrders=true) {T:List (Nat×SV)} {Q:Exit->Act->World->Prop} (hX:PXK w0 own M0 Df (KT T) X Q):∀(n:Nat) (c:Code) (ac:AC),trC P c=some ac->∀(E:Env) (g:Option (List (List SV))) (s:St) (a:Act) (w:World),SR w0 own M0 B Df E g s a w->vcN (Bd P fun _ _=>False) (Ad6 P X T) n ac s->c.wp P Q a w:=by
 intro n
 induction n with
 |zero=>
  intro c ac tr E g s a w hS h;rw [Xp] at h;obtain⟨ops,b,rfl,h1,h2,h3⟩:=h;cases c with
  |seq x y=>
   simp only [trC,q_c,q_a,q_d,q_b,AC.seq.injEq] at tr;obtain⟨ax,Ae,ay,Ck,rfl,rfl⟩:=tr;refine wp_seq ?_;cases x with
   |region id opsC draw=>
    simp only [trC,q_c,q_a] at Ae;obtain⟨l,hl,Ae⟩:=Ae;cases draw with
    |true=>
     simp only [if_true] at Ae;split at Ae;rotate_left
     ·cases Ae
     rename_i hok;cases Ae;refine Awg (Q:=Exit.then (y.wp P Q) Q) (K:=fun _=>False) (B:=B) (T:=T) ?_ h1 h2 hm hl rfl hok (fun _ _ _ _ _ _ h=>h.elim) hS h3;intro E u x G' a w k1 k2 k3 k4 k5 k6 k7 k8;exact hX E u x G' a w k1 k2 k3 k4 k5 k6 k7 k8
    |false=>
     simp only [Bool.false_eq_true,if_false] at Ae;cases Ae
   |_=>simp [trC,q_a] at Ae
  |_=>
   simp [trC,q_a] at tr
   try (obtain⟨l,_,tr⟩:=tr;repeat' split at tr)<;>cases tr
 |succ n ih=>
  intro c ac tr E g s a w hS h;cases ac with
  |seq aa bb=>
   rw [l9] at h;cases c with
   |seq x y=>
    simp only [trC,q_c,q_a,q_d,q_b,AC.seq.injEq] at tr;obtain⟨ax,Ae,ay,Ck,rfl,rfl⟩:=tr;refine wp_seq (Mq (X:=fun _ _=>False) hm x ax Ae (Q:=Exit.then (y.wp P Q) Q) (fun E u x G' a w h=>h.elim) (fun e E g s a w hS he=>?_) E g s a w hS h);cases e with
    |normal=>exact ih y ay Ck E g s a w hS he
    |exit id=>exact he.elim
    |ret=>exact he.elim
   |_=>
    simp [trC,q_a] at tr
    try (obtain⟨l,_,tr⟩:=tr;repeat' split at tr)<;>cases tr
  |_=>simp [vcN] at h
theorem Ahf {caps:Array Operand} {ts:List Nat} (h:Aa4 caps=some ts) (a:Act):caps.map a.eval=(ts.map fun t=>a.tmps.getD t undef).toArray:=by
 obtain⟨l⟩:=caps;unfold Aa4 at h;simp only at h
 induction l generalizing ts with
 |nil=>simp at h;subst h;simp
 |cons o l ih=>
  rw [List.mapM_cons] at h;cases o with
  |tmp t=>
   simp only [q_d,q_c,Option.bind_some,q_a,q_b] at h;obtain⟨ts',h1,rfl⟩:=h;have:=ih h1;simp only [List.map_toArray,q_h] at this |-;rw [Array.mk.injEq] at this;rw [this];rfl
  |_=>simp at h
def Aeb (P:Program) (fn:Func) (gf t0 s1 s2:Nat) (row1 row2:List SV) (r:SV):Prop:=
 ∀(w:World) (b1 b2:Nat) (c1 c2:Array Value) (e1 e2:TypeId) (tmps:Array Value) (m:Mem) (R:Ending->World->Prop),w.heap[b1]?=some (.cells c1 e1 (0,0))->w.heap[b2]?=some (.cells c2 e2 (0,0))->b1≠b2 ->
  (∀(k:Nat) x,row1[k]?=some x->∃v,c1[k]?=some v/\Rep m v x)->(∀(k:Nat) x,row2[k]?=some x->∃v,c2[k]?=some v/\Rep m v x)->tmps.getD s1 undef=.pointer (some ⟨b1,0,none⟩)->tmps.getD s2 undef=.pointer (some ⟨b2,0,none⟩) ->
  (∀v w',(∀m,Rep m v r)->w'.os=w.os->w'.tape=w.tape->w'.output=w.output->w.heap.size<=w'.heap.size->(∀k,k<w.heap.size->k≠b1->k≠b2->w'.heap[k]?=w.heap[k]?)->R (.returned v) w') ->
  Leaves P fn tmps R [Jb gf #[.pointer (some ⟨b1,0,none⟩),.pointer (some ⟨b2,0,none⟩)]] (.panicking [{ v:=.iface t0 (.agg #[]),recovered:=false }]) w
theorem Ah3 {m:Mem} {w:World} {b:Nat} {row:List SV} (h:GRow m w b row) (hm:Dw row=false):∃c e,w.heap[b]?=some (.cells c e (0,0))/\∀(k:Nat) x,row[k]?=some x->∃v,c[k]?=some v/\Rep m v x:=by
 cases h with
 |cells _ c e h1 h2 h3=>
  refine⟨c,e,h1,fun k x hx=>?_⟩;have hk:k<c.size:=by
   have:=(List.getElem?_eq_some_iff.1 hx).1;omega
  exact⟨c[k],Array.getElem?_eq_getElem hk,(h3 k c[k] x (Array.getElem?_eq_getElem hk) hx).1⟩
 |map es k l=>cases hm
theorem u3 {m:Mem} {v:Value} {i:Nat} (h:Rep m v (.gp i 0)):∃b,v=.pointer (some ⟨b,0,none⟩)/\m.d i=some b:=by
 cases h with
 |gp _ _ b hb _=>exact⟨b,rfl,hb⟩
theorem Ay0 [hB:Nonempty (StB B)] (hm:P.follows .mixedOrders=true) {fn:Func} {t gf n n' s1 s2 i1 i2 t0:Nat} {row1 row2:List SV} {r:SV} {R:Ending->World->Prop} {c:Code} {ac:AC} (hD:Vv P t gf [s1,s2] n c ac) (hi:i1≠i2) (Bs:Dw row1=false) (Fz:Dw row2=false)
  (Mz:∀b,¬own b) (hl:Aeb P fn gf t0 s1 s2 row1 row2 r)
  (hR:∀v w',(∀m,Rep m v r)->w'.os=w0.os->w'.tape=w0.tape->w'.output=w0.output->w0.heap.size<=w'.heap.size->(∀k,k<w0.heap.size->w'.heap[k]?=w0.heap[k]?)->R (.returned v) w') :
  ∀(E:Env) (g:Option (List (List SV))) (s:St) (a:Act) (w:World),SR w0 own M0 B [] E g s a w ->
  vcN (Bd P fun _ _=>False) (Aln (Bd P fun _ _=>False) (Ad6 P (fun x G'=>x=.ife t0/\G'[i1]?=some row1/\G'[i2]?=some row2) [(s1,.gp i1 0),(s2,.gp i2 0)]) [(s1,.gp i1 0),(s2,.gp i2 0)] t n') n ac s->c.wp P (bodyPostD P fn R) a w:=by
 induction hD with
 |seq n x y ax ay hx _ ih=>
  intro E g s a w hS h;rw [l9] at h;refine wp_seq (Mq (X:=fun _ _=>False) hm x ax hx (Q:=Exit.then (y.wp P _) _) (fun E u x G' a w h=>h.elim) (fun e E g s a w hS he=>?_) E g s a w hS h);cases e with
  |normal=>exact ih E g s a w hS he
  |exit id=>exact he.elim
  |ret=>exact he.elim
 |door id ty1 ty2 p1 p2 af1 af2 caps y ay Lj hy=>
  intro E g s a w hS h;rw [Xp] at h;obtain⟨ay',Ck,ht,s',Zj,Js,hv⟩:=h;cases Ck;have Gg:t<a.tmps.size:=by rw [<-hS.len];exact ht
  refine wp_seq (wp_region ?_);have hd:=hS.dfr;have hz:∀(u:Value),(a.put (some t) u).tmps.getD t undef=u:=fun u=>by simp [Act.put,Gg]
  simp only [List.size_toArray,List.length_cons,List.length_nil,Nat.zero_add,Nat.reduceAdd,List.range_succ,List.range_zero,List.nil_append,List.cons_append];have Zm:∀(fn:Fn) (first cap:Array Value) (w:World),(Instr.makeFunc fn first cap).run P w=.ok (.func fn first cap) w:=fun _ _ _ _=>rfl
  have Uh:(resolve (a.put (some t) (Value.func (Fn.func gf) #[] (Array.map a.eval caps))).eval { callee:=Callee.value (Operand.tmp t),args:=#[],argTypes:=#[] } ty2).run P w=.ok (Jb gf (Array.map a.eval caps)) w:=by
   have:=hz (Value.func (Fn.func gf) #[] (Array.map a.eval caps));simp [resolve,Act.eval,this,Jb,Deferred.ofValue]
  simp [wpOps,Oper.wp,execOp,Region.wanted,Zm,Exit.then,Oper.upon,Uh];refine .inl (.inl ?_);have hS1:SR w0 own M0 B [Jb gf (Array.map a.eval caps)] E g (s.put (some t) .jk) { tmps:=(a.put (some t) (Value.func (Fn.func gf) #[] (Array.map a.eval caps))).tmps,defers:=Jb gf (Array.map a.eval caps)::(a.put (some t) (Value.func (Fn.func gf) #[] (Array.map a.eval caps))).defers } w:=by
   refine⟨hS.wo,hS.gx,fun o=>by rw [Sp];exact hS.hp o,?_,?_,?_,hS.z,hS.le,hS.d,hS.hb⟩
   ·simpa [Act.put,St.put] using hS.len
   ·exact f9 (hp:=s.hp) hS.len hS.sl (.jk _)
   ·simp [Act.put,hd]
  obtain⟨E',g',hS2⟩:=y8 Zj hS1;have hS3:=hS2.reb;have Wi:=Ahf Lj a;rw [Wi] at hS3 |-;simp only [q_h,q_i] at hS3 |-;have q1:=Js (s1,.gp i1 0) (by simp);have q2:=Js (s2,.gp i2 0) (by simp);have r1:=hS2.sl s1;have r2:=hS2.sl s2;simp only at q1 q2;rw [q1.1] at r1;rw [q2.1] at r2;have hg1:∀u,(a.put (some t) u).tmps.getD s1 undef=a.tmps.getD s1 undef:=fun u=>by simp [Act.put,Array.getElem?_setIfInBounds,Ne.symm q1.2]
  have Id:∀u,(a.put (some t) u).tmps.getD s2 undef=a.tmps.getD s2 undef:=fun u=>by simp [Act.put,Array.getElem?_setIfInBounds,Ne.symm q2.2]
  simp only [hg1,Id] at r1 r2;obtain⟨b1,p1,d1⟩:=u3 (r1.closed_rep rfl);obtain⟨b2,p2,d2⟩:=u3 (r2.closed_rep rfl);refine Avt hm (M0:=E'.m) (T:=[(s1,.gp i1 0),(s2,.gp i2 0)]) (X:=fun x G'=>x=.ife t0/\G'[i1]?=some row1/\G'[i2]?=some row2) ?_ n' y ay hy _ g' s' _ w hS3 hv;intro E u x G' ac w1 hx Bl hW hg hle hz Dl hk;obtain⟨rfl,g1,g2⟩:=hx;have k1:=hk (s1,.gp i1 0) (by simp);have k2:=hk (s2,.gp i2 0) (by simp);simp only at k1 k2;obtain⟨b1',p1',d1'⟩:=u3 (k1.closed_rep rfl);obtain⟨b2',p2',d2'⟩:=u3 (k2.closed_rep rfl);have e1:b1'=b1:=by have:=hle.d _ _ d1;rw [d1',q_b] at this;exact this
  have e2:b2'=b2:=by have:=hle.d _ _ d2;rw [d2',q_b] at this;exact this
  subst e1 e2;have hu:u=.iface t0 (.agg #[]):=by cases Bl;rfl
  subst hu;obtain⟨c1,y1,h1,j1⟩:=Ah3 (hg.sat.row i1 row1 _ g1 d1') Bs;obtain⟨c2,y2,h2,j2⟩:=Ah3 (hg.sat.row i2 row2 _ g2 d2') Fz;have Aw:b1'≠b2':=fun e=>by subst e;exact hi (hg.sat.inj _ _ _ d1' d2')
  have o1:w0.heap.size<=b1':=(hg.new _ _ d1').elim (fun h=>h) (fun h=>absurd h (Mz _));have o2:w0.heap.size<=b2':=(hg.new _ _ d2').elim (fun h=>h) (fun h=>absurd h (Mz _));simp only [bodyPostD,Dl];rw [p1,p2];refine hl w1 b1' b2' c1 c2 y1 y2 ac.tmps E.m R h1 h2 Aw j1 j2 p1' p2' (fun v w' hv a1 a2 a3 a4 a5=>hR v w' hv (a1.trans hW.os) (a2.trans hW.tape) (a3.trans hW.output) (Nat.le_trans hW.size a4) (fun k hk=>?_));rw [a5 k (Nat.lt_of_lt_of_le hk hW.size) (by omega) (by omega)];exact hW.block k hk (Mz k)
def Alz (P:Program) (f:AF) (args:List SV) (t0 i1 i2 s1 s2 t n n':Nat) (row1 row2:List SV):Prop:=
 vcN (Bd P fun _ _=>False) (Aln (Bd P fun _ _=>False) (Ad6 P (fun x G'=>x=.ife t0/\G'[i1]?=some row1/\G'[i2]?=some row2) [(s1,.gp i1 0),(s2,.gp i2 0)]) [(s1,.gp i1 0),(s2,.gp i2 0)] t n') n f.body ⟨args++List.replicate (f.ntmps-args.length) .undef,[gOb []]⟩
theorem Au8 {f:Nat} {fn:Func} {af:AF} {t gf t0 i1 i2 s1 s2 n n':Nat} {row1 row2:List SV} {args:List SV} {r:SV} (hm:P.follows .mixedOrders=true) (hf:P.funcs[f]?=some fn) (htr:Yc P fn=some (af,t,gf,[s1,s2],n)) (hi:i1≠i2) (Bs:Dw row1=false) (Fz:Dw row2=false)
  (hl:Aeb P fn gf t0 s1 s2 row1 row2 r) (Dy:∀x∈args,NoG x) (h:Alz P af args t0 i1 i2 s1 s2 t n n' row1 row2):Contract P f args r:=by
 unfold Yc at htr;split at htr;rotate_left
 ·cases htr
 rename_i c hb;split at htr;rotate_left
 ·cases htr
 rename_i ars Gl;simp only [q_e] at htr;obtain⟨⟨ac,q⟩,hq,Fl⟩:=htr;cases Fl;intro m w vs hmem Aj Bl
 let m1:Mem:=⟨m.c,fun _=>none,m.p,fun _ _ _ h=>by cases h⟩
 let own:Nat->Prop:=fun _=>False
 let E0:Env:={ m:=m1,m0:=m1,H:=fun _=>none,β:=fun _=>0,t:=fun _=>0 }
 have hW:W w own E0 w:=⟨rfl,rfl,rfl,Nat.le_refl _,fun _ _ _=>rfl,hmem.1,fun o ob ho=>(by cases ho),fun o o' ob ob' ho=>(by cases ho),fun _ _ _ _=>rfl,hmem.2⟩
 have hS:SR w own m1 (fun _=>True) [] E0 (some []) { sl:=args++List.replicate (fn.ntmps-args.length) .undef,hp:=[gOb []] } { tmps:=vs.toArray++Array.replicate (fn.ntmps-vs.toArray.size) undef,defers:=[] } w:=by
  refine⟨hW,⟨rfl,⟨fun i=>?_,fun i j b hi=>?_,fun i r b hi=>?_,fun i b j hi=>?_⟩,fun i b hi=>?_,fun i b o ob _ ho=>by cases ho⟩,fun o=>?_,by simp [Aj],?_,rfl,rfl,.refl _,(fun h=>by cases h),fun _=>trivial⟩
  ·simp [E0,m1]
  ·cases hi
  ·simp at hi
  ·cases hi
  ·cases hi
  ·cases o with
   |zero=>rfl
   |succ o=>rfl
  ·exact Su Aj (fun j v x hv hx=>Rep.swap (m:=m) (m':=m1) rfl (fun _ h=>h) (Bl j v x hv hx) (Dy x (List.mem_of_getElem? hx)))
 refine calls_of_wp_defers hf hb ?_;refine Ay0 (own:=own) (w0:=w) hm (Aii hq) hi Bs Fz (fun _ h=>h) hl (fun v w' hv a1 a2 a3 a4 a5=>?_) E0 (some []) _ _ w hS h;refine⟨v,m,rfl,hv m,⟨.refl m,rfl⟩,fun _ _ _=>rfl,⟨fun b j v hbj=>?_,fun b hb=>?_⟩,a1,a2,a3,a4,a5⟩
 ·have h1:=hmem.1 b j v hbj;have Ab:b<w.heap.size:=by
   rcases Nat.lt_or_ge b w.heap.size with Ab|Et
   ·exact Ab
   ·simp [World.cell?,Array.getElem?_eq_none Et] at h1
  rw [<-h1];simp only [World.cell?,a5 b Ab]
 ·obtain⟨c,e,h1⟩:=hmem.2 b hb;have Ab:b<w.heap.size:=by
   rcases Nat.lt_or_ge b w.heap.size with Ab|Et
   ·exact Ab
   ·rw [Array.getElem?_eq_none Et] at h1;cases h1
  exact⟨c,e,by rw [a5 b Ab];exact h1⟩
def Alp (C:CT) (QA:AE->St->Prop) (t:Nat) (ac:AC) (s:St):Prop:=∃ay,ac=.seq (Pl t) ay/\t<s.sl.length/\∃s',Wk (s.put (some t) .jk) s'/\vc C ay QA s'
theorem A2w [hB:Nonempty (StB B)] (hm:P.follows .mixedOrders=true) {t gf n:Nat} {ts:List Nat} {c:Code} {ac:AC} (hD:Vv P t gf ts n c ac) {QA:AE->St->Prop} {Q:Exit->Act->World->Prop}
  (Zl:∀cap,cap.size=ts.length->∀e E g s a w,SR w0 own M0 B [Jb gf cap] E g s a w->QA e s->Q e.ex a w) :
  ∀(E:Env) (g:Option (List (List SV))) (s:St) (a:Act) (w:World),SR w0 own M0 B [] E g s a w->vcN (Bd P fun _ _=>False) (Alp (Bd P fun _ _=>False) QA t) n ac s->c.wp P Q a w:=by
 induction hD with
 |seq n x y ax ay hx _ ih=>
  intro E g s a w hS h;rw [l9] at h;refine wp_seq (Mq (X:=fun _ _=>False) hm x ax hx (Q:=Exit.then (y.wp P _) _) (fun E u x G' a w h=>h.elim) (fun e E g s a w hS he=>?_) E g s a w hS h);cases e with
  |normal=>exact ih E g s a w hS he
  |exit id=>exact he.elim
  |ret=>exact he.elim
 |door id ty1 ty2 p1 p2 af1 af2 caps y ay Lj hy=>
  intro E g s a w hS h;rw [Xp] at h;obtain⟨ay',Ck,ht,s',Zj,hv⟩:=h;cases Ck;have Gg:t<a.tmps.size:=by rw [<-hS.len];exact ht
  refine wp_seq (wp_region ?_);have hd:=hS.dfr;have hz:∀(u:Value),(a.put (some t) u).tmps.getD t undef=u:=fun u=>by simp [Act.put,Gg]
  simp only [List.size_toArray,List.length_cons,List.length_nil,Nat.zero_add,Nat.reduceAdd,List.range_succ,List.range_zero,List.nil_append,List.cons_append];have Zm:∀(fn:Fn) (first cap:Array Value) (w:World),(Instr.makeFunc fn first cap).run P w=.ok (.func fn first cap) w:=fun _ _ _ _=>rfl
  have Uh:(resolve (a.put (some t) (Value.func (Fn.func gf) #[] (Array.map a.eval caps))).eval { callee:=Callee.value (Operand.tmp t),args:=#[],argTypes:=#[] } ty2).run P w=.ok (Jb gf (Array.map a.eval caps)) w:=by
   have:=hz (Value.func (Fn.func gf) #[] (Array.map a.eval caps));simp [resolve,Act.eval,this,Jb,Deferred.ofValue]
  simp [wpOps,Oper.wp,execOp,Region.wanted,Zm,Exit.then,Oper.upon,Uh];refine .inl (.inl ?_);have hS1:SR w0 own M0 B [Jb gf (Array.map a.eval caps)] E g (s.put (some t) .jk) { tmps:=(a.put (some t) (Value.func (Fn.func gf) #[] (Array.map a.eval caps))).tmps,defers:=Jb gf (Array.map a.eval caps)::(a.put (some t) (Value.func (Fn.func gf) #[] (Array.map a.eval caps))).defers } w:=by
   refine⟨hS.wo,hS.gx,fun o=>by rw [Sp];exact hS.hp o,?_,?_,?_,hS.z,hS.le,hS.d,hS.hb⟩
   ·simpa [Act.put,St.put] using hS.len
   ·exact f9 (hp:=s.hp) hS.len hS.sl (.jk _)
   ·simp [Act.put,hd]
  obtain⟨E',g',hS2⟩:=y8 Zj hS1;have hcl:(Array.map a.eval caps).size=ts.length:=by rw [Ahf Lj a];simp
  exact Mq (X:=fun _ _=>False) hm y ay hy (fun E u x G' a w h=>h.elim) (Zl _ hcl) E' g' s' _ w hS2 hv
def Ak8 (P:Program) (f:AF) (args:List SV) (t n:Nat) (r:SV):Prop:=
 vcN (Bd P fun _ _=>False) (Alp (Bd P fun _ _=>False) (rt f.res r) t) n f.body ⟨args++List.replicate (f.ntmps-args.length) .undef,[gOb []]⟩
theorem Auh {f:Nat} {fn:Func} {af:AF} {t gf n:Nat} {ts:List Nat} {args:List SV} {r:SV} (hm:P.follows .mixedOrders=true) (hf:P.funcs[f]?=some fn) (htr:Yc P fn=some (af,t,gf,ts,n))
  (Zn:∀(cap:Array Value) (w:World),(invoke (.fn (.func gf) cap) #[]).run P w=.ok (.enter gf cap) w) (Zo:∀(cap:Array Value) (w:World),cap.size=ts.length->CallsD P gf cap .returning w fun e u' w'=>u'=.returning/\e=.returned (.tuple #[])/\w'=w) (Dy:∀x∈args,NoG x) (hr:NoG r)
  (h:Ak8 P af args t n r):Contract P f args r:=by
 unfold Yc at htr;split at htr;rotate_left
 ·cases htr
 rename_i c hb;split at htr;rotate_left
 ·cases htr
 rename_i ars Gl;simp only [q_e] at htr;obtain⟨⟨ac,q⟩,hq,Fl⟩:=htr;cases Fl;intro m w vs hmem Aj Bl
 let m1:Mem:=⟨m.c,fun _=>none,m.p,fun _ _ _ h=>by cases h⟩
 let own:Nat->Prop:=fun _=>False
 let E0:Env:={ m:=m1,m0:=m1,H:=fun _=>none,β:=fun _=>0,t:=fun _=>0 }
 have hW:W w own E0 w:=⟨rfl,rfl,rfl,Nat.le_refl _,fun _ _ _=>rfl,hmem.1,fun o ob ho=>(by cases ho),fun o o' ob ob' ho=>(by cases ho),fun _ _ _ _=>rfl,hmem.2⟩
 have hS:SR w own m1 (fun _=>True) [] E0 (some []) { sl:=args++List.replicate (fn.ntmps-args.length) .undef,hp:=[gOb []] } { tmps:=vs.toArray++Array.replicate (fn.ntmps-vs.toArray.size) undef,defers:=[] } w:=by
  refine⟨hW,⟨rfl,⟨fun i=>?_,fun i j b hi=>?_,fun i r b hi=>?_,fun i b j hi=>?_⟩,fun i b hi=>?_,fun i b o ob _ ho=>by cases ho⟩,fun o=>?_,by simp [Aj],?_,rfl,rfl,.refl _,(fun h=>by cases h),fun _=>trivial⟩
  ·simp [E0,m1]
  ·cases hi
  ·simp at hi
  ·cases hi
  ·cases hi
  ·cases o with
   |zero=>rfl
   |succ o=>rfl
  ·exact Su Aj (fun j v x hv hx=>Rep.swap (m:=m) (m':=m1) rfl (fun _ h=>h) (Bl j v x hv hx) (Dy x (List.mem_of_getElem? hx)))
 refine calls_of_wp_defers hf hb ?_;have fin:∀(Df:List Deferred) (E:Env) (g:Option (List (List SV))) (s:St) (a:Act) (w':World),SR w own m1 (fun _=>True) Df E g s a w'->Jc ars r s->∃v,(results fn a.tmps).run P w'=.ok v w'/\∃v' m',Ending.returned v=.returned v'/\Rep m' v' r/\(m.le m'/\m'.d=m.d)/\(∀b j,b<w.heap.size->m' b j=m b j)/\Hj m' w' /\
   w'.os=w.os/\w'.tape=w.tape/\w'.output=w.output/\w.heap.size<=w'.heap.size/\∀k,k<w.heap.size->w'.heap[k]?=w.heap[k]?:=by
  intro Df E g s a w' hS hrt;unfold Jc at hrt;split at hrt;rotate_left
  ·exact hrt.elim
  rename_i p svs hp' It;obtain⟨hp,Ni⟩:=hrt;obtain⟨us,E',k1,k2,k3,k4,k5⟩:=Sv fn.results.toList ars p svs hp' E s Gl It hp hS;refine⟨_,Sc k1,_,⟨E'.m.c,m.d,E'.m.p,m.inj⟩,rfl,Rep.swap (m:=E'.m) (m':=⟨E'.m.c,m.d,E'.m.p,m.inj⟩) rfl (fun _ h=>h) (Sb Ni k2 k3) hr,⟨⟨fun b j v hv=>k4.le.c b j v hv,fun i b hb=>hb,fun b hb=>k4.le.p b hb⟩,rfl⟩,fun b j hb=>?_,⟨k4.wo.mem,k4.wo.pl⟩,k4.wo.os,k4.wo.tape,k4.wo.output,k4.wo.size,fun k hk=>k4.wo.block k hk (fun h=>h)⟩;have:=k4.wo.keep b j hb (fun h=>h);rw [k4.z] at this;exact this
 refine A2w (own:=own) (M0:=m1) (w0:=w) (B:=fun _=>True) (QA:=rt ars r) hm (Aii hq) (fun cap Lj e E g s a w' hS he=>?_) E0 (some []) _ _ w hS h;have hd:=hS.dfr;have key:Jc ars r s->Leaves P fn a.tmps (fun e w'=>∃v m',e=.returned v/\Rep m' v r/\(m.le m'/\m'.d=m.d)/\(∀b j,b<w.heap.size->m' b j=m b j)/\Hj m' w' /\
   w'.os=w.os/\w'.tape=w.tape/\w'.output=w.output/\w.heap.size<=w'.heap.size/\∀k,k<w.heap.size->w'.heap[k]?=w.heap[k]?) [Jb gf cap] .returning w':=by
  intro he;refine leaves_cons (f:=gf) (args:=cap) (by simp) (Zn cap w') ?_;refine (Zo cap w' Lj).mono ?_;rintro e u' w'' ⟨rfl,rfl,rfl⟩;exact fin _ E g s a w'' hS he
 cases e with
 |normal=>simp only [AE.ex,bodyPostD,hd];exact key he
 |exit id=>exact he.elim
 |ret=>simp only [AE.ex,bodyPostD,hd];exact key he
end
open Go Go.RowKit Go.Proofs.YtdpigpopcbjkmaaGreatDoor
theorem A3y {G:List (List SV)} {id:Nat} {th:Th} (Ew:G[id]?=some (thR th)) (hb:th.bare=false) (deep:Int) (hd:fit deep) (hl:fit ((th.env.length:Int)+1)) :
  Ad 61 G [.gp id 0,.int .i64 deep,.int .i64 1] (.ret (.gp (G.length+1) 0)) (G++[Ky (some ⟨2,0,0,0,deep,[]⟩) none,thR ⟨th.t,G.length::th.env,false,none,none⟩]):=by
 obtain⟨out,ho⟩:∃out,out=HOut.ret (.gp (G.length+1) 0):=⟨_,rfl⟩
 obtain⟨G',Ng⟩:∃G',G'=G++[Ky (some ⟨2,0,0,0,deep,[]⟩) none,thR ⟨th.t,G.length::th.env,false,none,none⟩]:=⟨_,rfl⟩
 rw [<-ho,<-Ng];refine Aq mixed Tryz.func61 tr61 ?_;obtain⟨t,te,b,w,v⟩:=th;simp only at hb hl Ng;subst hb;have Ab:=Dt Ew;simp only [go_sem,seval,Ew];refine Cf 2 (Ak ?_);simp only [go_sem,seval,Int.add_zero,w64 hd];refine Ac (Ac5 G deep) ?_;simp only [go_sem,seval];refine Aa (Uz te _ hl) ?_;simp only [go_sem,seval];refine Ak ?_;simp only [go_sem,seval,Ew,Ab];refine Ac (Qt _ t _) ?_;subst ho Ng;simp only [go_sem,seval,List.append_assoc,List.length_append]
section
variable {P:Program} {w0:World} {own:Nat->Prop} {M0:Mem} {B:Env->Prop} {Df:List Deferred} {X:SV->List (List SV)->Prop}
def vcW (C:CT):AC->(AE->St->Prop)->St->Prop
 |.seq a b,Q,s=>vcW C a (fun e s'=>match e with|.normal=>∃s0,Wk s' s0/\vcW C b Q s0|e=>Q e s') s
 |.cond c a b,Q,s=>match s.get c with
  |.bool t=>(t=true->vcW C a Q s)/\(t=false->vcW C b Q s)
  |_=>False
 |c,Q,s=>vc C c Q s
theorem Ac0 {C:CT}:∀{c:AC} {Q:AE->St->Prop} {s:St},vc C c Q s->vcW C c Q s:=by
 have mono:∀(c:AC) {Q Q':AE->St->Prop} {s:St},(∀e s,Q e s->Q' e s)->vcW C c Q s->vcW C c Q' s:=by
  intro c
  induction c with
  |seq a b iha ihb=>
   intro Q Q' s h hv;simp only [vcW] at hv |-;refine iha (fun e s he=>?_) hv;cases e with
   |normal=>obtain⟨s0,h1,h2⟩:=he;exact⟨s0,h1,ihb h h2⟩
   |exit id=>exact h _ _ he
   |ret=>exact h _ _ he
  |cond c a b iha ihb=>
   intro Q Q' s h hv;simp only [vcW] at hv |-;split at hv
   ·exact⟨fun ht=>iha h (hv.1 ht),fun ht=>ihb h (hv.2 ht)⟩
   ·exact hv.elim
  |_=>intro Q Q' s h hv;simp only [vcW] at hv |-;exact Uw h hv
 intro c
 induction c with
 |seq a b iha ihb=>
  intro Q s h;simp only [vc] at h;simp only [vcW];refine mono a (fun e s he=>?_) (iha h);cases e with
  |normal=>exact⟨s,.refl s,ihb he⟩
  |exit id=>exact he
  |ret=>exact he
 |cond c a b iha ihb=>
  intro Q s h;simp only [vc] at h;simp only [vcW];split at h
  ·rename_i t ht;simp only [ht];exact⟨fun ht=>iha (h.1 ht),fun ht=>ihb (h.2 ht)⟩
  ·exact h.elim
 |_=>intro Q s h;simp only [vcW];exact h
def sqW (C:CT) (b:AC) (Q:AE->St->Prop):AE->St->Prop:=fun e s'=>match e with|.normal=>∃s0,Wk s' s0/\vcW C b Q s0|e=>Q e s'
theorem A2m {C:CT} {b:AC} {Q:AE->St->Prop} {s:St}:sqW C b Q .normal s=∃s0,Wk s s0/\vcW C b Q s0:=Eq.trans rfl rfl
theorem A0k {C:CT} {b:AC} {Q:AE->St->Prop} {s:St}:sqW C b Q .ret s=Q .ret s:=Eq.trans rfl rfl
theorem Bad {C:CT} {b:AC} {Q:AE->St->Prop} {s:St} {j:Nat}:sqW C b Q (.exit j) s=Q (.exit j) s:=Eq.trans rfl rfl
attribute [go_sem] A2m A0k Bad
theorem Ut {C:CT} {a b:AC} {Q:AE->St->Prop} {s:St} (h:vc C a (sqW C b Q) s):vcW C (.seq a b) Q s:=by
 have:=Ac0 h;simp only [vcW];exact this
theorem Arj {C:CT} {a b:AC} {Q:AE->St->Prop} {s:St} (h:vcW C a (sqW C b Q) s):vcW C (.seq a b) Q s:=by
 simp only [vcW];exact h
theorem A4a {C:CT} {c:AX} {a b:AC} {Q:AE->St->Prop} {s:St} (hc:s.get c=.bool true) (h:vcW C a Q s):vcW C (.cond c a b) Q s:=by
 simp only [vcW,hc];exact⟨fun _=>h,fun e=>by cases e⟩
theorem A4s [hB:Nonempty (StB B)] (hm:P.follows .mixedOrders=true):∀(c:Code) (ac:AC),trC P c=some ac->∀{QA:AE->St->Prop} {Q:Exit->Act->World->Prop},PX w0 own M0 Df X Q->(∀e E g s a w,SR w0 own M0 B Df E g s a w->QA e s->Q e.ex a w) ->
  ∀(E:Env) (g:Option (List (List SV))) (s:St) (a:Act) (w:World),SR w0 own M0 B Df E g s a w->vcW (Bd P X) ac QA s->c.wp P Q a w:=by
 intro c
 induction c with
 |seq x y ihx ihy=>
  intro ac tr QA Q hX hQ E g s a w hS h;simp only [trC,q_c,q_a,q_d,q_b] at tr;obtain⟨ax,Ae,ay,Ck,rfl⟩:=tr;simp only [vcW] at h;refine wp_seq (ihx ax Ae (Q:=Exit.then (y.wp P Q) Q) (fun E u x G' a w=>hX E u x G' a w) (fun e E g s a w hS he=>?_) E g s a w hS h);cases e with
  |normal=>
   obtain⟨s0,h1,h2⟩:=he;obtain⟨E',g',hS'⟩:=y8 h1 hS;exact ihy ay Ck hX hQ E' g' s0 a w hS' h2
  |exit id=>exact hQ (.exit id) E g s a w hS he
  |ret=>exact hQ .ret E g s a w hS he
 |cond c x y ihx ihy=>
  intro ac tr QA Q hX hQ E g s a w hS h;simp only [trC,q_c,q_a,q_d,q_b] at tr;obtain⟨cx,hcx,ax,Ae,ay,Ck,rfl⟩:=tr;simp only [vcW] at h;split at h;rotate_left
  ·exact h.elim
  rename_i t ht;have hv:=hS.x hcx;rw [ht] at hv;exact wp_cond_split (Sw hv) (fun h1=>ihx ax Ae hX hQ E g s a w hS (h.1 h1)) (fun h1=>ihy ay Ck hX hQ E g s a w hS (h.2 h1))
 |_=>
  intro ac tr QA Q hX hQ E g s a w hS h;refine Mq hm _ ac tr hX hQ E g s a w hS ?_;have key:(∀a b,ac≠.seq a b)/\(∀c a b,ac≠.cond c a b):=by
   constructor
   ·rintro a b rfl;simp [trC,q_a] at tr
    try (obtain⟨l,_,tr⟩:=tr;repeat' split at tr)<;>cases tr
   ·rintro c a b rfl;simp [trC,q_a] at tr
    try (obtain⟨l,_,tr⟩:=tr;repeat' split at tr)<;>cases tr
  cases ac with
  |seq a b=>exact absurd rfl (key.1 a b)
  |cond c a b=>exact absurd rfl (key.2 c a b)
  |_=>simpa only [vcW] using h
def Alo (C:CT) (f:AF) (G:List (List SV)) (args:List SV) (out:HOut) (G':List (List SV)):Prop:=
 vcW C f.body (fun e s=>match e with|.exit _=>False|_=>match out with|.ret r=>Ol f.res r G' s|.pan _=>False) { sl:=args++List.replicate (f.ntmps-args.length) .undef,hp:=[gOb G] }
theorem Aso {C:CT} {b:AC} {n:Nat} {res:List AR} {G G':List (List SV)} {args:List SV} {out:HOut}:Alo C { ntmps:=n,res:=res,body:=b } G args out G'=vcW C b (rtG res out G') ⟨args++List.replicate (n-args.length) .undef,[gOb G]⟩:=Eq.trans rfl rfl
attribute [go_sem] Aso
theorem Awz {f:Nat} {fn:Func} {af:AF} {G G':List (List SV)} {args:List SV} {out:HOut} (hm:P.follows .mixedOrders=true) (hf:P.funcs[f]?=some fn) (htr:trF P fn=some af)
  (h:Alo (Bd P fun x G1=>out=.pan x/\G1=G') af G args out G'):HContract P f G args out G':=by
 intro m w vs hmem hsat Aj Bl;unfold trF at htr;split at htr;rotate_left
 ·cases htr
 rename_i c hb;simp only [q_c,q_a,q_d,q_b] at htr;obtain⟨ars,Gl,ac,Ln,rfl⟩:=htr
 let own:Nat->Prop:=fun b=>∃i,m.d i=some b
 let E0:Env:={ m:=m,m0:=m,H:=fun _=>none,β:=fun _=>0,t:=fun _=>0 }
 have hW:W w own E0 w:=⟨rfl,rfl,rfl,Nat.le_refl _,fun _ _ _=>rfl,hmem.1,fun o ob ho=>(by cases ho),fun o o' ob ob' ho=>(by cases ho),fun _ _ _ _=>rfl,hmem.2⟩
 have hS:SR w own m (fun _=>True) [] E0 (some G) { sl:=args++List.replicate (fn.ntmps-args.length) .undef,hp:=[gOb G] } { tmps:=vs.toArray++Array.replicate (fn.ntmps-vs.toArray.size) undef,defers:=[] } w:=by
  refine⟨hW,⟨rfl,hsat,fun i b hi=>.inr ⟨i,hi⟩,fun i b o ob _ ho=>by cases ho⟩,fun o=>?_,by simp [Aj],Su Aj Bl,rfl,rfl,.refl _,(fun h=>by cases h),fun _=>trivial⟩;cases o with
  |zero=>rfl
  |succ o=>rfl
 refine calls_of_wp hf hb ?_
 -- what is there at an end
 have tail:∀(E:Env) (w':World),W w own E w'->GI w.heap.size own E w' G'->m.le E.m->E.m0=m->m.le E.m/\(∀b j,b<w.heap.size->E.m b j=m b j)/\Hj E.m w'/\GSat E.m w' G' /\
   (∀i b,E.m.d i=some b->m.d i=some b\/w.heap.size<=b)/\w'.os=w.os/\w'.tape=w.tape/\w'.output=w.output/\w.heap.size<=w'.heap.size/\∀k,k<w.heap.size->(∀i,m.d i≠some k)->w'.heap[k]?=w.heap[k]?:=by
  intro E w' hW hg hle hz;refine⟨hle,fun b j hb=>?_,⟨hW.mem,hW.pl⟩,hg.sat,fun i b hi=>?_,hW.os,hW.tape,hW.output,hW.size,fun k hk hn=>hW.block k hk (fun ⟨i,hi⟩=>hn i hi)⟩
  ·by_cases ho:own b
   ·obtain⟨i,hi⟩:=ho;rw [hsat.free i b j hi,hg.sat.free i b j (hle.d _ _ hi)]
   ·rw [hW.keep b j hb ho,hz]
  ·rcases hg.new i b hi with h|⟨i',Bq⟩
   ·exact .inr h
   ·have:=hg.sat.inj i i' b hi (hle.d _ _ Bq);subst this;exact .inl Bq
 have fin:∀(E:Env) (g:Option (List (List SV))) (s:St) (a:Act) (w':World) (r:SV),SR w own m (fun _=>True) [] E g s a w'->out=.ret r->Ol ars r G' s->a.defers=[]/\∃v,(results fn a.tmps).run P w'=.ok v w'/\∃m',Tk m' (.returned v) out/\m.le m'/\(∀b j,b<w.heap.size->m' b j=m b j)/\Hj m' w'/\GSat m' w' G' /\
   (∀i b,m'.d i=some b->m.d i=some b\/w.heap.size<=b)/\w'.os=w.os/\w'.tape=w.tape/\w'.output=w.output/\w.heap.size<=w'.heap.size/\∀k,k<w.heap.size->(∀i,m.d i≠some k)->w'.heap[k]?=w.heap[k]?:=by
  intro E g s a w' r hS ho hr;subst ho;refine⟨hS.dfr,?_⟩;unfold Ol at hr;split at hr;rotate_left
  ·exact hr.elim
  rename_i p svs hp' It;obtain⟨hp,Ni,hG⟩:=hr;obtain⟨us,E',k1,k2,k3,k4,k5⟩:=Sv fn.results.toList ars p svs hp' E s Gl It hp hS;have:=Kr (U:=fun _=>True) (s:={ s with hp:=hp' }) (fun o _=>k4.hp o) trivial k4.wo hG;subst this;exact⟨_,Sc k1,E'.m,⟨_,rfl,Sb Ni k2 k3⟩,tail E' w' k4.wo k4.gx k4.le k4.z⟩
 refine A4s (X:=fun x G1=>out=.pan x/\G1=G') hm c ac Ln (fun E u x G1 a w' hx Bl hW hg hle hz Dl=>?_) (fun e E g s a w' hS he=>?_) E0 (some G) _ _ w hS h
 ·obtain⟨rfl,rfl⟩:=hx;exact⟨Dl,E.m,⟨u,rfl,Bl⟩,tail E w' hW hg hle hz⟩
 ·cases out with
  |pan x=>cases e<;>exact he.elim
  |ret r=>
   cases e with
   |normal=>exact fin E g s a w' r hS rfl he
   |exit id=>exact he.elim
   |ret=>exact fin E g s a w' r hS rfl he
end
end Go.Proofs.YtdpigpopcbjkmaaGreatDoor.Abs
