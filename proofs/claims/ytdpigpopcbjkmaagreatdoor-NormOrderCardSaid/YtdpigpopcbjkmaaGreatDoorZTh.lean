import Derived.Test.YtdpigpopcbjkmaaGreatDoorZMk
import Derived.Test.YtdpigpopcbjkmaaGreatDoorZRb
import Derived.Test.YtdpigpopcbjkmaaGreatDoorZTe
import Derived.Test.YtdpigpopcbjkmaaGreatDoorZDo
set_option linter.unusedSimpArgs false
set_option linter.unusedVariables false
set_option maxRecDepth 20000
set_option maxHeartbeats 4000000
namespace Go.Proofs.YtdpigpopcbjkmaaGreatDoor.Abs
open Go Go.RowKit Go.Proofs.YtdpigpopcbjkmaaGreatDoor
section
variable {B:BT} {C d:Nat}
theorem A8j {t u:Tm} {p:Nat} (h:Sf C t) (h2:t.k≠2) (hu:Sf (C+bnd t.k p) u):Sf C (Bz t p u):=by
 have h0:=sf_k h;cases t with
 |mk k i j n l=>
  obtain⟨_,hf,hl⟩:=h.node h2;refine .nd i j n h2 h0 hf (by simp only [Tm.kids,List.length_set];exact hl) (fun q t ht=>?_);simp only [Tm.kids] at ht
  by_cases e:p=q
  ·subst e;have Ab:=Dt ht;rw [List.length_set] at Ab;rw [List.getElem?_set_self Ab,q_b] at ht;subst ht;exact hu
  ·rw [List.getElem?_set_ne e] at ht;exact h.kid ht
theorem Wt {t:Tm} (h:Sf C t) {p:Nat} (hp:stk t.k=some p):t.k≠2/\t.k≠0/\p<t.kids.length/\bnd t.k p=0:=by
 have h1:=Jl hp;have h2:t.k≠2:=by omega
 have hl:=Ku h h2;refine⟨h2,by omega,?_,Ade hp⟩;unfold stk at hp;split at hp
 ·rename_i c;cases hp;rcases c with c|c|c<;>(rw [c] at hl;first|(rw [kids15] at hl;omega)|(rw [kids18] at hl;omega)|(rw [kids19] at hl;omega))
 ·split at hp
  ·rename_i c;cases hp;rw [c,kids22] at hl;omega
  ·cases hp
theorem Ask {t u:Tm} (h:Sf C t) {p:Nat} (hp:stk t.k=some p):lv d (Bz t p u)=Bz (lv d t) p (lv d u):=by
 obtain⟨h2,h0,hl,hb⟩:=Wt h hp;cases t with
 |mk k i j n l=>
  have Ir:k≠2:=h2;have Lh:k≠0:=h0;have Fh:bnd k p=0:=hb;have Rj:p<l.length:=hl;unfold lv Bz;simp only [Tm.k,Tm.i,Tm.j,Tm.n,Tm.kids];rw [Ur Ir Lh,Ur Ir Lh];simp only [Tm.kids];congr 1;apply List.ext_getElem?;intro q;rw [Fo]
  by_cases e:p=q
  ·subst e;rw [List.getElem?_set_self Rj,List.getElem?_set_self (by rw [Mj];exact Rj),Option.map_some,Nat.zero_add,Nat.zero_add,Fh];rfl
  ·rw [List.getElem?_set_ne e,List.getElem?_set_ne e,Fo]
theorem Axf (hB:Oa B) {t u:Tm} (hs:HS (Bw B) t u):∀{C:Nat},Sf C t->HS (plD B) (lv d t) (lv d u):=by
 induction hs with
 |@here t u h=>intro C ht;exact .here (by rw [Acs hB ht,h];rfl)
 |@down t u p h hp hs ih=>
  intro C ht;obtain⟨h2,h0,hl,hb⟩:=Wt ht hp;have hk:=Iw ht hl;rw [hb,Nat.add_zero] at hk;rw [Ask ht hp];refine .down (by rw [Acs hB ht,h];rfl) (by rw [(lv_k (d:=d) ht h2).1];exact hp) ?_;rw [Mr ht h2 hl,hb];exact ih hk
theorem Aym (hB:Oa B) {t:Tm} (hn:HN (Bw B) t):∀{C:Nat},Sf C t->HN (plD B) (lv d t):=by
 induction hn with
 |@mk t h hk ih=>
  intro C ht
  by_cases h2:t.k=2
  ·obtain⟨i,e1,e2⟩:=m9 (d:=d) ht h2;rw [e2];exact Sg _
  refine .mk (by rw [Acs hB ht,h];rfl) (fun p hp=>?_);rw [(lv_k (d:=d) ht h2).1] at hp;obtain⟨_,h0,hl,hb⟩:=Wt ht hp;have hs:=Iw ht hl;rw [hb,Nat.add_zero] at hs;rw [Mr ht h2 hl,hb];exact ih p hp hs
theorem Aix {C:Nat} {u:Tm} (h:Sf C u) (k:Nat):Sf (C+k) (Mt k u):=by
 unfold Mt;refine Ab7 h (fun b' i _ hi=>?_);unfold lfv;split
 ·exact .var (by omega)
 ·exact .var (by omega)
theorem A0b {C:Nat} {t u:Tm} (ht:Sf (C+1) t) (hu:Sf C u):Sf C (Kx u t):=by
 unfold Kx;refine Ab7 ht (fun b' i _ hi=>?_);unfold ptv;split
 ·exact .var (by omega)
 ·split
  ·have:=Aix hu b'
   rwa [Nat.sub_zero]
  ·exact .var (by omega)
theorem Bae {C m:Nat} {t:Tm} {l:List Tm} (ht:Sf m t) (hm:m<=l.length) (hl:∀u∈l,Sf C u):Sf C (Ki l t):=by
 unfold Ki;refine Ab7 ht (fun b' i _ hi=>?_);unfold alv;split
 ·exact .var (by omega)
 ·have Ab:i-b'<l.length:=by omega
  rw [List.getD_eq_getElem?_getD,q_f Ab];have:=Aix (hl _ (List.getElem_mem Ab)) b'
  rwa [Nat.sub_zero]
theorem A5y (hB:Oa B) {t u:Tm} (h:Bw B t=some u) (ht:Sf C t):Sf C u:=by
 have h2:t.k≠2:=fun e=>by rw [Sq (by omega)] at h;cases h
 have hl:=Ku ht h2
 by_cases Iv:t.k=15
 ·rw [p7 Iv] at h;split at h
  ·rename_i c;cases h;rw [Iv,kids15] at hl;have Fm:=Iw (p:=0) ht (by omega);have Bi:=Iw (p:=1) ht (by omega);rw [Iv,show bnd 15 0=0 by decide,Nat.add_zero] at Fm;rw [Iv,show bnd 15 1=0 by decide,Nat.add_zero] at Bi;have Gm:=Ku Fm (by omega);rw [c,kids14] at Gm;have hb:=Iw (p:=1) Fm (by omega);rw [c,show bnd 14 1=1 by decide] at hb;exact A0b hb Bi
  ·cases h
 by_cases Kp:t.k=18
 ·rw [o6 Kp] at h;split at h
  ·rename_i c;cases h;rw [Kp,kids18] at hl;have Fm:=Iw (p:=0) ht (by omega);rw [Kp,show bnd 18 0=0 by decide,Nat.add_zero] at Fm;have Gm:=Ku Fm (by omega);rw [c,kids17] at Gm;have hb:=Iw (p:=2) Fm (by omega)
   rwa [c,show bnd 17 2=0 by decide,Nat.add_zero] at hb
  ·cases h
 by_cases Kq:t.k=19
 ·rw [j7 Kq] at h;split at h
  ·rename_i c;cases h;rw [Kq,kids19] at hl;have Fm:=Iw (p:=0) ht (by omega);rw [Kq,show bnd 19 0=0 by decide,Nat.add_zero] at Fm;have Gm:=Ku Fm (by omega);rw [c,kids17] at Gm;have hb:=Iw (p:=3) Fm (by omega)
   rwa [c,show bnd 17 3=0 by decide,Nat.add_zero] at hb
  ·cases h
 by_cases Fu:t.k=22
 ·rw [l4 Fu] at h;split at h
  ·cases h;rw [Fu,kids22] at hl;have hb:=Iw (p:=3) ht (by omega)
   rwa [Fu,show bnd 22 3=0 by decide,Nat.add_zero] at hb
  ·cases h
 by_cases Ct:t.k=23
 ·rw [l6 Ct] at h;cases hb:B t.n t.i t.j with
  |none=>rw [hb] at h;cases h
  |some b=>
   rw [hb,Option.map_some,q_b] at h;subst h;rw [Ct] at hl;refine Bae (hB _ _ _ _ hb) (by rw [List.length_reverse];omega) (fun u hu=>?_);rw [List.mem_reverse] at hu;obtain⟨q,hq,rfl⟩:=List.getElem_of_mem hu;have:=Iw (p:=q) ht hq;rw [Ct,bnd23,Nat.add_zero] at this;cases t with
   |mk k i j n l=>
    have Km:q<l.length:=hq;have e:An (.mk k i j n l) q=l[q]:=by unfold An;rw [show (Tm.mk k i j n l).kids=l from rfl,List.getD_eq_getElem?_getD,q_f Km];rfl
    rw [e] at this;exact this
 ·rw [Sq (by omega)] at h;cases h
theorem Ak5 (hB:Oa B) {t u:Tm} (hs:HS (Bw B) t u):∀{C:Nat},Sf C t->Sf C u:=by
 induction hs with
 |here h=>intro C ht;exact A5y hB h ht
 |@down t u p h hp hs ih=>
  intro C ht;obtain⟨h2,h0,hl,hb⟩:=Wt ht hp;have hk:=Iw ht hl;rw [hb,Nat.add_zero] at hk;refine A8j ht h2 ?_;rw [hb,Nat.add_zero];exact ih hk
end
inductive PHd (B:BT):Nat->Tm->Nat->Bool->Tm->Prop
 |stop {N:Nat} {t:Tm} (h:HN (Bw B) t):PHd B N t N false t
 |out {N:Nat} {t u:Tm} (h:HS (Bw B) t u) (ho:4000<N+1\/4000<tsz u):PHd B N t (N+1) true u
 |step {N N':Nat} {t u t':Tm} {o:Bool} (h:HS (Bw B) t u) (h1:N+1<=4000) (h2:tsz u<=4000) (hr:PHd B (N+1) u N' o t'):PHd B N t N' o t'
inductive PNx (B:BT):(Tm ⊕ List Tm)->Nat->Bool->Nat->Bool->(Tm ⊕ List Tm)->Prop
 |tm {t t1:Tm} {N N1 N2:Nat} {o1 o2:Bool} {rs:List Tm} (h:PHd B N t N1 o1 t1) (hk:PNx B (.inr t1.kids) N1 o1 N2 o2 (.inr rs)):PNx B (.inl t) N false N2 o2 (.inl (.mk t1.k t1.i t1.j t1.n rs))
 |nil {N:Nat} {o:Bool}:PNx B (.inr []) N o N o (.inr [])
 |out {a:Tm} {l:List Tm} {N:Nat}:PNx B (.inr (a::l)) N true N true (.inr [])
 |cons {a r:Tm} {l rs:List Tm} {N N1 N2:Nat} {o1 o2:Bool} (h:PNx B (.inl a) N false N1 o1 (.inl r)) (hl:PNx B (.inr l) N1 o1 N2 o2 (.inr rs)):PNx B (.inr (a::l)) N false N2 o2 (.inr (r::rs))
section
variable {B:BT}
theorem Aj2 {N N':Nat} {t t':Tm} {o:Bool} (h:PHd B N t N' o t'):N<=N':=by
 induction h with
 |stop=>exact Nat.le_refl _
 |out=>omega
 |step _ _ _ _ ih=>omega
theorem Aor (hB:Oa B) {d N N':Nat} {t t':Tm} {o:Bool} (h:PHd B N t N' o t') (ho:o=false):∀{C:Nat},Sf C t->Sf C t'/\∃n,N'=N+n/\HR (plD B) n (lv d t) (lv d t')/\HN (plD B) (lv d t'):=by
 induction h with
 |stop h=>intro C ht;exact⟨ht,0,rfl,.refl _,Aym hB h ht⟩
 |out=>cases ho
 |step h _ _ _ ih=>
  intro C ht;obtain⟨a,n,e,r,k⟩:=ih ho (Ak5 hB h ht);exact⟨a,n+1,by omega,.step (Axf hB h ht) r,k⟩
def NRl (B:BT) (d:Nat) (k:Int) (p:Nat) (l:List Tm) (Ns:List Nat) (rs:List Tm):Prop:=Ns.length=l.length/\rs.length=l.length/\∀(q:Nat) t N r,l[q]?=some t->Ns[q]?=some N->rs[q]?=some r->NR B (d+bnd k (p+q)) (lv (d+bnd k (p+q)) t) N r
theorem Aj6 {x y:Tm ⊕ List Tm} {N N':Nat} {o o':Bool} (h:PNx B x N o N' o' y) (Fk:o'=false):o=false:=by
 cases h with
 |tm=>rfl
 |nil=>exact Fk
 |out=>exact Fk
 |cons=>rfl
theorem Aqm (hB:Oa B) {x y:Tm ⊕ List Tm} {N N':Nat} {o o':Bool} (h:PNx B x N o N' o' y) (Fk:o'=false) :
  (∀t r,x=.inl t->y=.inl r->∀d C,Sf C t->∃n,N'=N+n/\NR B d (lv d t) n r) /\
  (∀l rs,x=.inr l->y=.inr rs->∀(d:Nat) (k:Int) (p C:Nat),(∀(q:Nat) t,l[q]?=some t->Sf (C+bnd k (p+q)) t)->∃Ns,N'=N+Ns.sum/\NRl B d k p l Ns rs):=by
 induction h with
 |@tm t t1 N N1 N2 o1 o2 rs h hk ih=>
  have Pv:=Aj6 hk Fk;refine⟨fun t' r e1 e2 d C hs=>?_,fun l rs' e=>by cases e⟩;cases e1;cases e2;obtain⟨a,n,e,r1,k1⟩:=Aor hB (d:=d) h Pv hs
  by_cases h2:t1.k=2
  ·obtain⟨i,c1,c2⟩:=m9 (d:=d) a h2;subst c1;rw [c2] at r1;have hk':PNx B (.inr []) N1 o1 N2 o2 (.inr rs):=hk;cases hk';refine⟨n,e,?_⟩;have:=NR.fv (B:=B) (d:=d) r1
   rwa [show (d:Int)-1-((d:Int)-1-(i:Int))=i by omega] at this
  ·obtain⟨Ns,e3,hl⟩:=(ih Fk).2 t1.kids rs rfl rfl d t1.k 0 C (fun q u hu=>by
    rw [Nat.zero_add];cases t1 with
    |mk k i j n' l=>exact a.kid hu)
   refine⟨n+Ns.sum,by omega,?_⟩;have h0:=sf_k a;cases t1 with
   |mk k i j n' l=>
    have Ir:k≠2:=h2;have Lh:k≠0:=h0;unfold lv at r1 k1;rw [Ur Ir Lh] at r1 k1;obtain⟨q1,q2,q3⟩:=hl;simp only [Tm.kids] at q1 q2 q3;refine .nd r1 k1 Lh (by rw [Mj];exact q1) (by rw [Mj];exact q2) (fun p u N r hu hN hr=>?_);rw [Fo,Nat.zero_add,Nat.zero_add] at hu;cases hq:l[p]? with
    |none=>rw [hq] at hu;cases hu
    |some u0=>
     rw [hq,Option.map_some,q_b] at hu;subst hu;have:=q3 p u0 N r hq hN hr;rw [Nat.zero_add] at this;have e4:=A8g d (bnd k p) u0;unfold lvB at e4;show NR B (d+bnd k p) (Ap (Gf d (bnd k p)) 0 (trT (lvv d) (fun _ l=>fT l) (bnd k p) u0)) N r;rw [e4];exact this
 |nil=>exact⟨fun t r e=>(by cases e),fun l rs e1 e2 d k p C _=>by cases e1;cases e2;exact⟨[],rfl,rfl,rfl,fun q t N r ht=>by cases ht⟩⟩
 |out=>cases Fk
 |@cons a r l rs N N1 N2 o1 o2 h hl ih1 ih2=>
  have Pv:=Aj6 hl Fk;refine⟨fun t r e=>(by cases e),fun l' rs' e1 e2 d k p C hs=>?_⟩;cases e1;cases e2;have h0:=hs 0 a rfl;obtain⟨n,e3,hr⟩:=(ih1 Pv).1 a r rfl rfl (d+bnd k (p+0)) _ h0;obtain⟨Ns,e4,q1,q2,q3⟩:=(ih2 Fk).2 l rs rfl rfl d k (p+1) C (fun q t ht=>by have:=hs (q+1) t (by simpa using ht);rwa [show p+(q+1)=p+1+q by omega] at this);refine⟨n::Ns,by simp only [List.sum_cons];omega,by simp [q1],by simp [q2],fun q t N r ht hN Fl=>?_⟩;cases q with
  |zero=>
   simp only [List.getElem?_cons_zero,q_b] at ht hN Fl;subst ht hN Fl;exact hr
  |succ q=>
   have:=q3 q t N r (by simpa using ht) (by simpa using hN) (by simpa using Fl)
   rwa [show p+1+q=p+(q+1) by omega] at this
theorem Ayq (hB:Oa B) {t r:Tm} {N C:Nat} (h:PNx B (.inl t) 0 false N false (.inl r)) (ht:Sf C t):NR B 0 (Ap [] 0 t) N r:=by
 obtain⟨n,e,hn⟩:=(Aqm hB h rfl).1 t r rfl rfl 0 C ht;rw [lv_0] at hn;rw [e,Nat.zero_add];exact hn
end
theorem Bai (kk i j n d:Int) (b:Bool) (Lr:List (List SV)) (rows:List (List SV)) (X:Nat->List SV->Option (List SV)) (h2:rows.length*56<=140737488355328) (h5:∀r∈rows,r.length=5)
  (hv:¬kk=2) (hd:0<=d) (Ev:d<=1000000000000) (hX:∀p:Nat,∀r∈rows,∀u,X p r=some u->u.length=5)
  (H:∀(p:Nat) r,rows[p]?=some r->∀b',Con 122 [.agg true r,.dsl 5 Lr,.int .i64 (d+Bk kk p),.bool b'] (Cy (X p r))) :
  Con 122 [.agg true [.int .i64 kk,.int .i64 i,.int .i64 j,.int .i64 n,.dsl 5 rows],.dsl 5 Lr,.int .i64 d,.bool b] (Cy ((Cb X 0 rows).map fun rs=>[.int .i64 kk,.int .i64 i,.int .i64 j,.int .i64 n,.dsl 5 rs])):=by
 have Mf:((List.range rows.length).map fun p=>(X p (rows[p]?.getD [])).getD []).length=rows.length:=by simp
 have Nj:∀x,x<rows.length->((List.range rows.length).map fun p=>(X p (rows[p]?.getD [])).getD [])[x]?.getD []=(X x (rows[x]?.getD [])).getD []:=fun x hx=>by
  rw [List.getElem?_map,List.getElem?_range hx];rfl
 have Rx:(∀x,x<rows.length->X x (rows[x]?.getD [])≠none)->Cb X 0 rows=some ((List.range rows.length).map fun p=>(X p (rows[p]?.getD [])).getD []):=fun h=>by
  rw [Ac4 (d:=[]) (e:=[]) (fun x hx=>by rw [Nat.zero_add];exact h x hx)];simp only [Nat.zero_add]
 generalize ((List.range rows.length).map fun p=>(X p (rows[p]?.getD [])).getD [])=ys at *
 have q1:(kk==2)=false:=by simp [hv]
 have core:∀r0,(Cb X 0 rows=none->r0=.tup [.agg true [.int .i64 0,.int .i64 0,.int .i64 0,.int .i64 0,.nils],.bool false]) ->
   (∀us,Cb X 0 rows=some us->r0=.tup [.agg true [.int .i64 kk,.int .i64 i,.int .i64 j,.int .i64 n,.dsl 5 us],.bool true]) ->
   Con 122 [.agg true [.int .i64 kk,.int .i64 i,.int .i64 j,.int .i64 n,.dsl 5 rows],.dsl 5 Lr,.int .i64 d,.bool b] r0:=by
  intro r0 hn hs;refine Al mixed Tryz.func122 tr122 ?_;simp only [go_sem,seval,q1];clear q1;intros;refine Qs (fun x=>⟨(.jk::.dsl 5 Lr::.int .i64 d::.bool b::.ref 0 0 0 0::.jk::.jk::.jk::.ref 1 0 0 0::.jk::.ref 2 0 0 0::.osl 3 x 0 x::.int .i64 x::.jk::.jk::.jk::.jk::.jk::.jk::.jk::.jk::.jk::.jk::.jk::.jk::.jk::.jk::.jk::.jk::.jk::.jk::.jk::.jk::.jk::.jk::.jk::.jk::.jk::.jk::.jk::.jk::.jk::.jk::.jk::.jk::.jk::.jk::.jk::.jk::.jk::.jk::.jk::.jk::.jk::.jk::.jk::.jk::.jk::.jk::.jk::.jk::.jk::.jk::.jk::.jk::.jk::.jk::.jk::.jk::.jk::.jk::.jk::.jk::.jk::.jk::.jk::.jk::.jk::.jk::.jk::.jk::.jk::.jk::.jk::[]),[⟨true,5,[[.int .i64 kk,.int .i64 i,.int .i64 j,.int .i64 n,.dsl 5 rows]],0,0,true⟩,⟨true,5,[[.int .i64 0,.int .i64 0,.int .i64 0,.int .i64 0,.nils]],0,0,true⟩,⟨true,5,[[.int .i64 kk,.int .i64 i,.int .i64 j,.int .i64 n,.nils]],0,0,true⟩,⟨false,5,ys.take x,x-1,x,true⟩]⟩) rows.length (fun x=>X x (rows[x]?.getD [])≠none) (fun x hx hp=>?_) ?_
  ·simp only [go_sem,seval];intros;refine⟨fun h=>?_,fun h=>?_⟩
   ·have Ab:=of_decide_eq_true h;have Ce:x<rows.length:=by omega
    have e0:(0:Int)<=(x:Int):=by omega
    have hm:=Hq (d:=[]) Ce;have Dm:=h5 _ hm;have hb:=Mo kk x;have ew:IntKind.i64.wrap (d+Bk kk x)=d+Bk kk x:=w64 (by unfold fit;omega);have hc:=H x (rows[x]?.getD []) (by rw [q_f Ce];rfl);obtain⟨z,hz⟩:=Aj4 kk i j n x rows;have e1:(ys.take x).length=x:=by simp;omega
    have e2:(x+1)*56<=140737488355328:=by omega
    have e3:x+1<=140737488355328:=by omega
    cases b
    ·simp only [go_sem,seval,Ab,e0,Dm];refine Aa (Cm kk x) ?_;simp only [go_sem,seval,Ab,e0,Dm,ew];refine Aa hz ?_;simp only [go_sem,seval,Ab,e0,Dm,ew];refine Aa (hc z) ?_;cases Ed:X x (rows[x]?.getD []) with
     |none=>
      have Cd:=Ag zT;simp only [go_sem,seval,Cy,Cd];exact hn (Sj (d:=[]) (i:=x) Ce (by rw [Nat.zero_add];exact Ed))
     |some u=>
      have hu:=hX x _ hm u Ed;have hy:=Nj x Ce;rw [Ed,Option.getD_some] at hy;have tn:=Sn (l:=ys) (d:=[]) (i:=x) (by omega);rw [hy] at tn;simp only [go_sem,seval,Cy,hu,Ce,e1,e2,e3,tn];rw [w64 (n:=(x:Int)+1) (by unfold fit;omega)];exact Do 4 (by simp [Ao]) (by simp) (by simp [Be]) (by simp)
    ·simp only [go_sem,seval,Ab,e0,Dm];refine Aa (Cm kk x) ?_;simp only [go_sem,seval,Ab,e0,Dm,ew];refine Aa (hc true) ?_;cases Ed:X x (rows[x]?.getD []) with
     |none=>
      have Cd:=Ag zT;simp only [go_sem,seval,Cy,Cd];exact hn (Sj (d:=[]) (i:=x) Ce (by rw [Nat.zero_add];exact Ed))
     |some u=>
      have hu:=hX x _ hm u Ed;have hy:=Nj x Ce;rw [Ed,Option.getD_some] at hy;have tn:=Sn (l:=ys) (d:=[]) (i:=x) (by omega);rw [hy] at tn;simp only [go_sem,seval,Cy,hu,Ce,e1,e2,e3,tn];rw [w64 (n:=(x:Int)+1) (by unfold fit;omega)];exact Do 4 (by simp [Ao]) (by simp) (by simp [Be]) (by simp)
   ·have Et:=of_decide_eq_false h;have Ko:x=rows.length:=by omega
    have he:=Rx (fun y hy=>hp y (by omega));subst Ko;have ht:ys.take rows.length=ys:=by rw [<-Mf,List.take_length]
    simp only [go_sem,seval,h,Mf,ht];exact hs _ he
  ·exact .trans (.ghost _ 11 5 rfl) (As (by simp [Ao]))
 cases hA:Cb X 0 rows with
 |none=>
  refine (core _ (fun _=>rfl) (fun us h=>?_)).weaken v8;rw [hA] at h;cases h
 |some us=>
  refine core _ (fun h=>?_) (fun us' h=>?_)
  ·rw [hA] at h;cases h
  ·rw [hA] at h;cases h;rfl
theorem Bco {i:Nat} (h:i<=2147483647):TOk (vT i):=.mk _ _ _ _ _ (by unfold fit;omega) (by unfold fit;omega) (by unfold fit;omega) (by unfold fit;omega) (by simp) (fun t ht=>by cases ht)
structure Aam (C m:Nat) (u:Tm):Prop where
 tok:TOk u
 pl:Ch u=true
 hg:(2:Int)*Ke u<=1000000000000
 sf:Sf C u
 bd:C+dpt u+m<=2147483647
theorem A2b {C m:Nat} {l:List Tm} (hl:∀u∈l,Aam C m u) (i d:Nat) (b:Bool) (hi:i<d+l.length) (hd:d<=m) (hm:m<=1000000) (Db:l.length<=1000) :
  Con 122 [.agg true (tv (vT i)),.dsl 5 (l.map tv),.int .i64 d,.bool b] (.tup [.agg true (tv (alv l d i)),.bool true]):=by
 unfold alv
 by_cases h:i<d
 ·rw [if_pos h];have hle:=Ako 2 i 0 0;have e:tv (vT i)=[.int .i64 2,.int .i64 i,.int .i64 0,.int .i64 0,.dsl 5 []]:=by simp [vT,Am]
  rw [e];refine (Al mixed Tryz.func122 tr122 ?_).weaken hle;simp only [go_sem,seval,decide_eq_false (show ¬(i:Int) >= d by omega)];intros;refine Cf 1 (Ak ?_);simp only [go_sem,seval]
 ·rw [if_neg h];have Ab:i-d<l.length:=by omega
  have hx:l.getD (i-d) (vT 0)=l[i-d]:=by rw [List.getD_eq_getElem?_getD,q_f Ab];rfl
  rw [hx];have hu:=hl _ (List.getElem_mem Ab);have hc:=Ajf l[i-d] hu.tok hu.pl d (by omega) b hu.hg;have Pa:=hu.bd;rw [show Hc (d:Int) 0 l[i-d]=some (Mt d l[i-d]) from Ag3 (fr:=0) hu.sf (by omega),Option.map_some] at hc;have hz:=Ag (Mt d l[i-d]);have Dn:=Ag l[i-d];have ew:IntKind.i64.wrap ((i:Int)-d)=((i-d:Nat):Int):=by rw [w64 (by unfold fit;omega)];omega
  have hg:(l.map tv)[i-d]?.getD []=tv l[i-d]:=by rw [List.getElem?_map,q_f Ab];rfl
  have e0:(0:Int)<=((i-d:Nat):Int):=by omega
  have e1:((i-d:Nat):Int)<(l.length:Int):=by omega
  refine Al mixed Tryz.func122 tr122 ?_;rw [show tv (vT i)=[.int .i64 2,.int .i64 i,.int .i64 0,.int .i64 0,.dsl 5 []] by simp [vT,Am]];simp only [go_sem,seval,decide_eq_true (show (i:Int) >= d by omega),ew,hg,e0,e1,Ab,q_g,Dn];refine Aa hc ?_;simp only [go_sem,seval,Cy,hz]
theorem A0t {C m:Nat} {l:List Tm} (hl:∀u∈l,Aam C m u) (hm:m<=1000000) (Db:l.length<=1000) (t:Tm):TOk t->∀(w:Int) (d:Nat) (b:Bool),Ej t w=true->Sf (d+l.length) t->d+dpt t<=m ->
  Con 122 [.agg true (tv t),.dsl 5 (l.map tv),.int .i64 d,.bool b] (.tup [.agg true (tv (trT (alv l) (fun _ l=>fT l) d t)),.bool true]):=by
 induction t using Tm.ind with
 |h kk i j n kl ih=>
  intro hok w d b hr hs hd;obtain⟨f1,f2,f3,f4,hb,Fj⟩:=Un hok
  by_cases hv:kk=2
  ·subst hv;obtain⟨q,rfl,rfl,rfl,rfl,hq⟩:=hs.vr;rw [Pi,Int.toNat_natCast];exact A2b hl q d b hq (by omega) hm Db
  ·have hn:=hs.node hv;have h:=Bai kk i j n d b (l.map tv) (kl.map tv) (fun p r=>onT (fun t=>some (tv (trT (alv l) (fun _ l=>fT l) (d+bnd kk p) t))) none r) (by simpa using hb) (rows5 kl) hv (by omega) (by omega)
    (fun p r hr u hu=>by
     obtain⟨t,ht,rfl⟩:=List.mem_map.1 hr;simp only [If,q_b] at hu;subst hu;exact Ag _)
    (fun p r Fl b'=>by
     rw [List.getElem?_map] at Fl;cases hq:kl[p]? with
     |none=>rw [hq] at Fl;cases Fl
     |some t=>
      rw [hq,Option.map_some,q_b] at Fl;subst Fl;have ht:=List.mem_of_getElem? hq;simp only [If];obtain⟨w',hw⟩:=Uq hr ht;have hk:=hs.kid hq;have hdp:=Ks (k:=kk) (i:=i) (j:=j) (n:=n) hq;rw [Vg,<-Int.natCast_add];exact ih t ht (Fj t ht) w' _ b' hw (by rwa [show d+bnd kk p+l.length=d+l.length+bnd kk p by omega]) (by omega))
   have e:Cb (fun p r=>onT (fun t=>some (tv (trT (alv l) (fun _ l=>fT l) (d+bnd kk p) t))) none r) 0 (kl.map tv)=some ((trL (alv l) (fun _ l=>fT l) d kk 0 kl).map tv):=by
    rw [Acp,Aby (Y:=fun p t=>(some (trT (alv l) (fun _ l=>fT l) (d+bnd kk p) t)).map tv) (fun p t _=>by rw [If];rfl),Acd,Ab9 (v:=alv l) (f:=fun _ l=>fT l) (b:=d) (k:=kk) (fun q t _=>rfl)];rfl
   rw [e] at h;rw [Am,Gb hv hn.1,Am];exact h
theorem Bcu {C m:Nat} {l:List Tm} (hl:∀u∈l,Aam C m u) (hm:m<=1000000) (Db:l.length<=1000) {t:Tm} (ht:TOk t) (hp:Ch t=true) (hs:Sf l.length t) (hd:dpt t<=m) (hf:Gp t<=l.length) :
  Con 102 [.agg true (tv t),.dsl 5 (l.map tv)] (.tup [.agg true (tv (Ki l t)),.bool true]):=by
 have h1:=w5 t ht hp;have h2:=Aj0 t ht 2 hp;have h3:=A0t hl hm Db t ht 2 0 false hp (by rwa [Nat.zero_add]) (by omega);have hz:=Ag t;have Hg:=Ag (Ki l t);have Yq:Con 122 [.agg true (tv t),.dsl 5 (l.map tv),.int .i64 0,.bool false] (.tup [.agg true (tv (Ki l t)),.bool true]):=h3;have Tw:∀x,(h:x<l.length)->(l.map tv)[x]?.getD []=tv l[x]:=fun x h=>by rw [List.getElem?_map,q_f h];rfl
 refine Al mixed Tryz.func102 tr102 ?_;simp only [go_sem,seval,hz];refine Aa h1 ?_;simp only [go_sem,seval,hz];refine Aa h2 ?_;simp only [go_sem,seval,hz,q_g,decide_eq_false (show ¬Gp t > (l.length:Int) by omega)];refine fun _=>?_
 refine Ig (fun x=>⟨(.jk::.dsl 5 (l.map tv)::.ref 0 0 0 0::.jk::.ref 1 0 0 0::.bool false::.int .i64 x::.jk::.jk::.jk::.jk::.jk::.jk::.jk::.jk::.jk::.jk::.jk::.jk::.jk::.jk::.jk::.jk::.jk::.jk::.jk::.jk::.jk::.jk::.jk::.jk::.jk::.jk::.jk::.jk::.jk::.jk::.jk::.jk::.jk::.jk::.jk::.jk::.jk::[]),[⟨true,5,[tv t],0,0,true⟩,⟨true,5,[[.int .i64 0,.int .i64 0,.int .i64 0,.int .i64 0,.nils]],0,0,true⟩]⟩) l.length (fun x hx=>?_) ?_
 ·by_cases Ab:x<l.length
  ·have e0:(0:Int)<=(x:Int):=by omega
   have e1:(x:Int)<(l.length:Int):=by omega
   have Zt:=Ag l[x];have hu:=hl _ (List.getElem_mem Ab);simp only [go_sem,seval,q_g,decide_eq_true e1,e0,e1,Ab,Tw x Ab,hz,Zt];refine fun _=>Aa (Ahi t l[x] ht hu.tok hp hu.pl) ?_
   simp only [go_sem,seval,w64 (show fit ((x:Int)+1) by unfold fit;omega)];refine⟨Ab,?_⟩;exact As (by simp [Ao])
  ·have:x=l.length:=by omega
   subst this;simp only [go_sem,seval,q_g,decide_eq_false (show ¬((l.length:Nat):Int)<l.length by omega),hz];refine fun _=>Aa Yq ?_
   simp only [go_sem,seval,Hg]
 ·exact As (by simp [Ao])
theorem Awh {C m:Nat} {l:List Tm} (hl:∀u∈l,Aam C m u) (hm:m<=1000000) (Db:l.length<=1000) {t:Tm} (ht:TOk t) (hp:Ch t=true) (hs:Sf l.length t) (hd:dpt t<=m) (hf:Gp t<=l.length) :
  Con 73 [.agg true (tv t),.dsl 5 (l.map tv)] (.agg true (tv (Ki l.reverse t))):=by
 have h:=Bcu (l:=l.reverse) (fun u hu=>hl u (by simpa using hu)) hm (by simpa using Db) ht hp (by simpa using hs) hd (by simpa using hf);have hz:=Ag t;have Hg:=Ag (Ki l.reverse t);refine Al mixed Tryz.func73 tr73 ?_;simp only [go_sem,seval,hz,q_g];refine fun _=>?_
 have ew:IntKind.i64.wrap ((l.length:Int)-1)=(l.length:Int)-1-(0:Nat):=by rw [w64 (by unfold fit;omega)];omega
 rw [ew];refine Ig (fun x=>⟨(.jk::.dsl 5 (l.map tv)::.ref 0 0 0 0::.jk::.ref 1 0 0 0::.osl 2 x 0 x::.int .i64 ((l.length:Int)-1-x)::.jk::.jk::.jk::.jk::.jk::.jk::.jk::.jk::.jk::.jk::.jk::.jk::.jk::.jk::.jk::.jk::.jk::.jk::.jk::.jk::.jk::.jk::.jk::[]),[⟨true,5,[tv t],0,0,true⟩,⟨true,5,[[.int .i64 0,.int .i64 0,.int .i64 0,.int .i64 0,.nils]],0,0,true⟩,⟨false,5,(l.reverse.map tv).take x,x-1,x,true⟩]⟩) l.length (fun x hx=>?_) ?_
 ·by_cases Ab:x<l.length
  ·have hq:l.length-1-x<l.length:=by omega
   have eI:(l.length:Int)-1-x=((l.length-1-x:Nat):Int):=by omega
   have e0:(0:Int)<=((l.length-1-x:Nat):Int):=by omega
   have e1:((l.length-1-x:Nat):Int)<(l.length:Int):=by omega
   have hg:(l.map tv)[l.length-1-x]?.getD []=tv l[l.length-1-x]:=by rw [List.getElem?_map,q_f hq];rfl
   have Zt:=Ag l[l.length-1-x];have e2:((l.reverse.map tv).take x).length=x:=by simp;omega
   have e3:(x+1)*56<=140737488355328:=by omega
   have e4:x+1<=140737488355328:=by omega
   have tn:(l.reverse.map tv).take (x+1)=(l.reverse.map tv).take x++[tv l[l.length-1-x]]:=by
    rw [List.take_succ_eq_append_getElem (by simpa using Ab)];simp
   rw [eI];simp only [go_sem,seval,decide_eq_true (show ((l.length-1-x:Nat):Int) >= 0 by omega),e0,e1,hq,hg,Zt,q_g,e2,e3,e4,w64 (show fit (((l.length-1-x:Nat):Int)-1) by unfold fit;omega)];refine⟨Ab,?_⟩;rw [show ((l.length-1-x:Nat):Int)-1=(l.length:Int)-1-((x+1:Nat):Int) by omega,tn];exact Do 3 (by simp [Ao]) (by simp) (by simp [Be]) (by simp)
  ·have:x=l.length:=by omega
   subst this;have Gg:(l.reverse.map tv).take l.length=l.reverse.map tv:=List.take_of_length_le (by simp);simp only [go_sem,seval,decide_eq_false (show ¬(l.length:Int)-1-(l.length:Nat) >= 0 by omega),Gg,hz,q_g,List.length_reverse];refine Aa h ?_;simp only [go_sem,seval,Hg]
 ·exact .trans (.ghost _ 5 5 rfl) (As (by simp [Ao]))
theorem plain_mk {k i j n:Int} {l:List Tm}:Ch (.mk k i j n l)=true↔Hw k i j n 2 l.length=true/\∀t∈l,Ch t=true:=by
 rw [show Ch (.mk k i j n l)=Ej (.mk k i j n l) 2 from rfl,Aiz,Bool.and_eq_true,List.all_eq_true]
theorem Vi {i:Nat} (h:i<=2147483647):Ch (vT i)=true:=by
 have h0:(0:Int)<=i:=by omega
 have h1:(i:Int)<=2147483647:=by omega
 show Ej (.mk 2 i 0 0 []) 2=true;rw [Sk];unfold Hw;simp [Hl,Bf,tab,Lf,h0,h1,Gr]
theorem Azs {k i j n w:Int} {len:Nat} (h:Hw k i j n w len=true):(len:Int)=Bf k n/\Lf k i j n=true:=by
 unfold Hw at h;simp only [Bool.and_eq_true,Bool.not_eq_true',bne_eq_false_iff_eq] at h;exact h.2
theorem Afv {k n:Int} (h:0<=Bf k n):1<=k/\k<=23:=by
 unfold Bf at h;split at h
 ·omega
 ·unfold tab at h;split at h
  ·rename_i c;simp only [List.length_cons,List.length_nil] at c;omega
  ·omega
theorem A8h:∀{l m:List Nat},l.length=m.length->(∀(q x y:Nat),l[q]?=some x->m[q]?=some y->x<=y)->l.sum<=m.sum:=by
 intro l
 induction l with
 |nil=>intro m hm _;simp
 |cons a l ih=>
  intro m hm h;cases m with
  |nil=>simp at hm
  |cons b m=>
   have:=ih (m:=m) (by simpa using hm) (fun q x y hx hy=>h (q+1) x y (by simpa using hx) (by simpa using hy));have h0:=h 0 a b rfl rfl;simp only [List.sum_cons];omega
theorem Ba2 {B:Nat} {t:Tm} (h:Sf B t):Ch t=true->B+dpt t<=2147483647->TOk t:=by
 induction h with
 |@var B i h=>intro _ hb;exact Bco (by omega)
 |@nd B k i j n l h2 h0 hf hl hk ih=>
  intro hp hb;have hp':=plain_mk.1 hp;have hkk:=Aqn hp;have hle:=Qr k n;refine .mk _ _ _ _ _ ?_ hf.1 hf.2.1 hf.2.2 (by omega) (fun t ht=>?_)
  ·have:=Afv (k:=k) (n:=n) (by omega);unfold fit;omega
  ·obtain⟨q,hq⟩:=List.getElem?_of_mem ht;have:=Ks (k:=k) (i:=i) (j:=j) (n:=n) hq;exact ih q t hq (hp'.2 t ht) (by omega)
theorem Adh {v:Nat->Nat->Tm} {f:Nat->Int->Tm} {B:Nat} {t:Tm} (h:Sf B t):∀{b D:Nat},Ch t=true->b+dpt t<=D->(∀b' i,b<=b'->b'<=D->i<B+(b'-b)->Ch (v b' i)=true)->Ch (trT v f b t)=true:=by
 induction h with
 |@var B i h=>intro b D _ hb hv;rw [Ga];exact hv b i (Nat.le_refl _) (by omega) (by omega)
 |@nd B k i j n l h2 h0 hf hl hk ih=>
  intro b D hp hb hv;have hp':=plain_mk.1 hp;rw [Gb h2 h0];refine plain_mk.2 ⟨by rw [Mj];exact hp'.1,fun t ht=>?_⟩;obtain⟨q,hq⟩:=List.getElem?_of_mem ht;rw [Fo,Nat.zero_add] at hq;cases Eo:l[q]? with
  |none=>rw [Eo] at hq;cases hq
  |some u=>
   rw [Eo,Option.map_some,q_b] at hq;subst hq;have hd:=Ks (k:=k) (i:=i) (j:=j) (n:=n) Eo;exact ih q u Eo (D:=D) (hp'.2 u (List.mem_of_getElem? Eo)) (by omega) (fun b' i h1 h2 h3=>hv b' i (by omega) h2 (by omega))
theorem Ady {v:Nat->Nat->Tm} {f:Nat->Int->Tm} {B s:Nat} (hs:1<=s) {t:Tm} (h:Sf B t):∀{b D:Nat},b+dpt t<=D->(∀b' i,b<=b'->b'<=D->i<B+(b'-b)->tsz (v b' i)<=s)->tsz (trT v f b t)<=tsz t*s:=by
 induction h with
 |@var B i h=>intro b D hb hv;rw [Ga];have:=hv b i (Nat.le_refl _) (by omega) (by omega);rw [show tsz (vT i)=1 by unfold vT;rw [Gv];rfl];omega
 |@nd B k i j n l h2 h0 hf hl hk ih=>
  intro b D hb hv;rw [Gb h2 h0,Gv,Gv];have:((trL v f b k 0 l).map tsz).sum<=((l.map tsz).map (·*s)).sum:=by
   rw [List.map_map];refine A8h (by simp [Mj]) (fun q x y hx hy=>?_);rw [List.getElem?_map,Fo,Nat.zero_add] at hx;rw [List.getElem?_map] at hy;cases Eo:l[q]? with
   |none=>rw [Eo] at hy;cases hy
   |some u=>
    rw [Eo] at hx hy;simp only [Option.map_some,q_b] at hx hy;subst hx hy;have hd:=Ks (k:=k) (i:=i) (j:=j) (n:=n) Eo;exact ih q u Eo (D:=D) (by omega) (fun b' i h1 h2 h3=>hv b' i (by omega) h2 (by omega))
  have e:((l.map tsz).map (·*s)).sum=(l.map tsz).sum*s:=by
   generalize l.map tsz=xs
   induction xs with
   |nil=>simp
   |cons x xs ih=>simp [ih,Nat.add_mul]
  rw [Nat.add_mul];omega
theorem Ach {t:Tm}:∀{l:List Tm},t∈l->tsz t<=(l.map tsz).sum:=by
 intro l
 induction l with
 |nil=>intro h;cases h
 |cons a l ih=>
  intro h;simp only [q_h,List.sum_cons];rcases List.mem_cons.1 h with rfl|h
  ·omega
  ·have:=ih h;omega
theorem Xg {k i j n:Int} {l:List Tm} {t:Tm} (h:t∈l):tsz t+1<=tsz (.mk k i j n l):=by
 rw [Gv];have:=Ach h;omega
theorem Aww {k:Int} {M:Nat}:∀{l:List Tm} {p:Nat},(∀t∈l,dpt t<=M)->La k p l<=M+2:=by
 intro l
 induction l with
 |nil=>intro p _;rw [La];omega
 |cons t l ih=>
  intro p h;rw [La];have h1:=h t (by simp);have h2:=ih (p:=p+1) (fun u hu=>h u (by simp [hu]));have h3:=q9 k p;omega
theorem Pc (t:Tm):dpt t+2<=2*tsz t:=by
 induction t using Tm.ind with
 |h k i j n l ih=>
  rw [dpt,Gv];cases l with
  |nil=>rw [La];simp
  |cons a l=>
   have:La k 0 (a::l)<=(2*((a::l).map tsz).sum-2)+2:=Aww (fun t ht=>by
    have h1:=ih t ht;have h2:=Ach ht;omega)
   have h3:=Vd a;simp only [q_h,List.sum_cons] at this |-;omega
theorem Ab6 (t:Tm):Ke t<=tsz t:=by
 induction t using Tm.ind with
 |h k i j n l ih=>
  rw [Ac2,Gv];have:Pq l<=(l.map tsz).sum:=Asx (fun t ht=>Nat.le_trans (ih t ht) (Ach ht));omega
theorem A0j (F:Nat->Int):∀{x y:Nat},y<x->F y<=pm F x:=by
 intro x
 induction x with
 |zero=>intro y h;omega
 |succ x ih=>
  intro y h;rw [pm]
  by_cases e:y=x
  ·subst e;omega
  ·have:=ih (show y<x by omega);omega
theorem A8n {t:Tm}:TOk t->Ch t=true->∀{C:Nat},Gp t<=C->Sf C t:=by
 induction t using Tm.ind with
 |h k i j n l ih=>
  intro ht hp C hf;obtain⟨f1,f2,f3,f4,hb,Fj⟩:=Un ht;have hp':=plain_mk.1 hp;obtain⟨e1,e2⟩:=Azs hp'.1
  by_cases h2:k=2
  ·subst h2;rw [Gp,if_pos rfl] at hf;have hl:l=[]:=List.length_eq_zero_iff.1 (by rw [show Bf 2 n=0 by unfold Bf;rw [if_neg (by decide)];rfl] at e1;omega);unfold Lf at e2;rw [if_neg (by decide),if_pos rfl] at e2;simp only [Bool.and_eq_true,decide_eq_true_eq,beq_iff_eq] at e2;obtain⟨a,_,b,c⟩:=e2;subst hl b c;have:=Sf.var (b:=C) (i:=i.toNat) (by omega);unfold vT at this
   rwa [Int.toNat_of_nonneg a] at this
  ·rw [o9 h2] at hf;refine .nd i j n h2 (by have:=Afv (k:=k) (n:=n) (by omega);omega) ⟨f2,f3,f4⟩ e1 (fun p t hq=>?_);have hm:=List.mem_of_getElem? hq;have Ab:=Dt hq;have:=A0j (fun y=>Gp (l[y]?.getD default)-Bk k ((y:Nat):Int)) Ab;simp only [hq,Option.getD_some] at this;have Tu:=Vg k p;exact ih t hm (Fj t hm) (hp'.2 t hm) (by omega)
structure PT (C M:Nat) (t:Tm):Prop where
 pl:Ch t=true
 sf:Sf C t
 sz:tsz t<=M
theorem PT.tok {C M:Nat} {t:Tm} (h:PT C M t) (hb:C+2*M<=2147483647):TOk t:=by
 have:=Pc t;have:=h.sz;exact Ba2 h.sf h.pl (by omega)
def BodyP (B:BT):Prop:=∀n i j b,B n i j=some b->PT (Bf 23 n).toNat 4000 b
theorem BodyP.ok {B:BT} (h:BodyP B):Oa B:=fun n i j b hb=>(h n i j b hb).sf
theorem Ag6 {t:Tm} {p:Nat} (h:p<t.kids.length):An t p∈t.kids:=by
 unfold An;rw [List.getD_eq_getElem?_getD,q_f h];exact List.getElem_mem h
theorem PT.kidm {C M:Nat} {k i j n:Int} {l:List Tm} (h:PT C M (.mk k i j n l)) {q:Nat} {t:Tm} (hq:l[q]?=some t):PT (C+bnd k q) M t:=by
 have hm:=List.mem_of_getElem? hq;have h1:=Xg (k:=k) (i:=i) (j:=j) (n:=n) hm;have:=h.sz;exact⟨(plain_mk.1 h.pl).2 t hm,h.sf.kid hq,by omega⟩
theorem PT.kid {C M:Nat} {t:Tm} (h:PT C M t) {p:Nat} (hp:p<t.kids.length) (hb:bnd t.k p=0):PT C M (An t p)/\tsz (An t p)+1<=tsz t:=by
 cases t with
 |mk k i j n l=>
  have hp':p<l.length:=hp;have Fh:bnd k p=0:=hb;have hq:l[p]?=some (An (.mk k i j n l) p):=by
   unfold An;rw [show (Tm.mk k i j n l).kids=l from rfl,List.getD_eq_getElem?_getD,q_f hp'];rfl
  have:=h.kidm hq;rw [Fh,Nat.add_zero] at this;exact⟨this,Xg (Ag6 hp)⟩
theorem PT.kid1 {C M:Nat} {t:Tm} (h:PT C M t) {p:Nat} (hp:p<t.kids.length) (hb:bnd t.k p=1):PT (C+1) M (An t p)/\tsz (An t p)+1<=tsz t:=by
 cases t with
 |mk k i j n l=>
  have hp':p<l.length:=hp;have Fh:bnd k p=1:=hb;have hq:l[p]?=some (An (.mk k i j n l) p):=by
   unfold An;rw [show (Tm.mk k i j n l).kids=l from rfl,List.getD_eq_getElem?_getD,q_f hp'];rfl
  have:=h.kidm hq;rw [Fh] at this;exact⟨this,Xg (Ag6 hp)⟩
theorem w9 {C M k:Nat} {u:Tm} (h:PT C M u) (hb:C+2*M+k<=2147483647):Ch (Mt k u)=true/\tsz (Mt k u)<=tsz u:=by
 have hd:=Pc u;have hs:=h.sz;constructor
 ·refine Adh h.sf (D:=dpt u) h.pl (by omega) (fun b' i _ h1 h2=>?_);unfold lfv;split
  ·exact Vi (by omega)
  ·exact Vi (by omega)
 ·have:=Ady (v:=lfv k) (f:=fun _ l=>fT l) (Nat.le_refl 1) h.sf (b:=0) (D:=dpt u) (by omega) (fun b' i _ h1 h2=>by
   unfold lfv;split<;>(unfold vT;rw [Gv];simp))
  unfold Mt;omega
theorem Aw9 {C M M':Nat} {t u:Tm} (ht:PT (C+1) M t) (hu:PT C M' u) (hb:C+2*M'+2*M+1<=2147483647):Ch (Kx u t)=true/\tsz (Kx u t)<=tsz t*tsz u:=by
 have hd:=Pc t;have hs:=ht.sz;have hp:=Vd u;constructor
 ·refine Adh ht.sf (D:=dpt t) ht.pl (by omega) (fun b' i _ h1 h2=>?_);unfold ptv;split
  ·exact Vi (by omega)
  ·split
   ·exact (w9 hu (by omega)).1
   ·exact Vi (by omega)
 ·refine Ady hp ht.sf (b:=0) (D:=dpt t) (by omega) (fun b' i _ h1 h2=>?_);unfold ptv;split
  ·unfold vT;rw [Gv];simp;omega
  ·split
   ·exact (w9 hu (by omega)).2
   ·unfold vT;rw [Gv];simp;omega
theorem Ax9 {C M M' m:Nat} {t:Tm} {l:List Tm} (ht:PT m M t) (hm:m<=l.length) (Db:l.length<=1000) (hl:∀u∈l,PT C M' u) (Nb:1<=M') (hb:C+2*M'+2*M+1000<=2147483647):Ch (Ki l t)=true/\tsz (Ki l t)<=tsz t*M':=by
 have hd:=Pc t;have hs:=ht.sz;have H:∀b' i,i<m+b'->¬i<b'->PT C M' (l.getD (i-b') (vT 0)):=fun b' i h1 h2=>by
  have Ab:i-b'<l.length:=by omega
  rw [List.getD_eq_getElem?_getD,q_f Ab];exact hl _ (List.getElem_mem Ab)
 constructor
 ·refine Adh ht.sf (D:=dpt t) ht.pl (by omega) (fun b' i _ h1 h2=>?_);unfold alv;split
  ·exact Vi (by omega)
  ·rename_i c;exact (w9 (H b' i (by omega) c) (by omega)).1
 ·refine Ady Nb ht.sf (b:=0) (D:=dpt t) (by omega) (fun b' i _ h1 h2=>?_);unfold alv;split
  ·unfold vT;rw [Gv];simp;omega
  ·rename_i c;have h3:=H b' i (by omega) c;have:=(w9 h3 (k:=b') (by omega)).2;have:=h3.sz;omega
theorem Afz {a b c d:Nat} (h1:a<=c) (h2:b<=d):a*b<=c*d:=Nat.mul_le_mul h1 h2
section
variable {B:BT} {C:Nat}
theorem Bdp (hB:BodyP B) {t u:Tm} (h:Bw B t=some u) (ht:PT C 4000 t) (hC:C<=60000000):Ch u=true/\tsz u<=tsz t*4000:=by
 have h2:t.k≠2:=fun e=>by rw [Sq (by omega)] at h;cases h
 have hl:=Ku ht.sf h2;have Ba:=ht.sz
 by_cases Iv:t.k=15
 ·rw [p7 Iv] at h;split at h
  ·rename_i c;cases h;rw [Iv,kids15] at hl;obtain⟨k0,s0⟩:=ht.kid (p:=0) (by omega) (by rw [Iv];decide);obtain⟨k1,s1⟩:=ht.kid (p:=1) (by omega) (by rw [Iv];decide);have Gm:=Ku k0.sf (by omega);rw [c,kids14] at Gm;obtain⟨kb,sb⟩:=k0.kid1 (p:=1) (by omega) (by rw [c];decide);obtain⟨a,b⟩:=Aw9 kb k1 (by omega);exact⟨a,Nat.le_trans b (Afz (by omega) (by omega))⟩
  ·cases h
 by_cases Kp:t.k=18
 ·rw [o6 Kp] at h;split at h
  ·rename_i c;cases h;rw [Kp,kids18] at hl;obtain⟨k0,s0⟩:=ht.kid (p:=0) (by omega) (by rw [Kp];decide);have Gm:=Ku k0.sf (by omega);rw [c,kids17] at Gm;obtain⟨kb,sb⟩:=k0.kid (p:=2) (by omega) (by rw [c];decide);exact⟨kb.pl,by omega⟩
  ·cases h
 by_cases Kq:t.k=19
 ·rw [j7 Kq] at h;split at h
  ·rename_i c;cases h;rw [Kq,kids19] at hl;obtain⟨k0,s0⟩:=ht.kid (p:=0) (by omega) (by rw [Kq];decide);have Gm:=Ku k0.sf (by omega);rw [c,kids17] at Gm;obtain⟨kb,sb⟩:=k0.kid (p:=3) (by omega) (by rw [c];decide);exact⟨kb.pl,by omega⟩
  ·cases h
 by_cases Fu:t.k=22
 ·rw [l4 Fu] at h;split at h
  ·cases h;rw [Fu,kids22] at hl;obtain⟨kb,sb⟩:=ht.kid (p:=3) (by omega) (by rw [Fu];decide);exact⟨kb.pl,by omega⟩
  ·cases h
 by_cases Ct:t.k=23
 ·rw [l6 Ct] at h;cases hb:B t.n t.i t.j with
  |none=>rw [hb] at h;cases h
  |some b=>
   rw [hb,Option.map_some,q_b] at h;subst h;rw [Ct] at hl;have hle:=Qr 23 t.n;have hbb:=hB _ _ _ _ hb;have Fj:∀u∈t.kids.reverse,PT C (tsz t) u:=fun u hu=>by
    rw [List.mem_reverse] at hu;cases t with
    |mk k i j n l=>
     obtain⟨q,hq⟩:=List.getElem?_of_mem (l:=l) hu;have h23':k=23:=Ct;have:=ht.kidm hq;rw [h23',bnd23,Nat.add_zero] at this;have:=Xg (k:=k) (i:=i) (j:=j) (n:=n) (l:=l) hu;exact⟨‹PT C 4000 u›.pl,‹PT C 4000 u›.sf,by omega⟩
   have hp:=Vd t;obtain⟨a,c⟩:=Ax9 (C:=C) (M':=tsz t) hbb (by rw [List.length_reverse];omega) (by rw [List.length_reverse];omega) Fj hp (by omega);refine⟨a,Nat.le_trans c ?_⟩;rw [Nat.mul_comm];exact Afz (Nat.le_refl _) hbb.sz
 ·rw [Sq (by omega)] at h;cases h
theorem Axd {f:Tm->Nat}:∀{l:List Tm} {p:Nat} {u:Tm},p<l.length->((l.set p u).map f).sum+f (l.getD p (vT 0))=(l.map f).sum+f u:=by
 intro l
 induction l with
 |nil=>intro p u h;simp at h
 |cons a l ih=>
  intro p u h;cases p with
  |zero=>simp;omega
  |succ p=>
   have:=ih (p:=p) (u:=u) (by simpa using h);simp only [List.set_cons_succ,q_h,List.sum_cons,List.getD_cons_succ];omega
theorem A7w {t u:Tm} {p:Nat} (ht:Ch t=true) (hu:Ch u=true) (hp:p<t.kids.length):Ch (Bz t p u)=true/\tsz (Bz t p u)+tsz (An t p)=tsz t+tsz u:=by
 cases t with
 |mk k i j n l=>
  have hp':p<l.length:=hp;obtain⟨h1,h2⟩:=plain_mk.1 ht;constructor
  ·refine plain_mk.2 ⟨by simp only [Tm.kids,List.length_set];exact h1,fun x hx=>?_⟩;rcases List.mem_or_eq_of_mem_set hx with h|rfl
   ·exact h2 x h
   ·exact hu
  ·unfold Bz An;simp only [Tm.k,Tm.i,Tm.j,Tm.n,Tm.kids,Gv];have:=Axd (f:=tsz) (u:=u) hp';omega
theorem Az1 (hB:BodyP B) {t u:Tm} (hs:HS (Bw B) t u) (hC:C<=60000000):PT C 4000 t->Ch u=true/\tsz u<=tsz t*4000:=by
 induction hs with
 |here h=>intro ht;exact Bdp hB h ht hC
 |@down t u p h hp hs ih=>
  intro ht;obtain⟨h2,h0,hl,hb⟩:=Wt ht.sf hp;obtain⟨k0,s0⟩:=ht.kid hl hb;obtain⟨a,b⟩:=ih k0;obtain⟨c,d⟩:=A7w ht.pl a hl;refine⟨c,?_⟩;omega
theorem Akv (hB:BodyP B) {t u:Tm} (hs:HS (Bw B) t u) (hC:C<=60000000) (ht:PT C 4000 t):PT C 16000000 u:=by
 obtain⟨a,b⟩:=Az1 hB hs hC ht;have:=ht.sz;exact⟨a,Ak5 hB.ok hs ht.sf,by omega⟩
end
def nmV (ns:List By):SV:=.dsl 1 (ns.reverse.map wdR)
theorem Awu {L:List Tok} {k e i j n:Nat} {ns:List By} {G:List (List SV)} {t:Tok} {r:List Tok} (h:L.drop k=t::r) (hL:L.length<1000000000000) (hn:Jq t.w ns=some n) (Dr:ns.length<1000000) :
  Ad 149 (rdR L k e (nmV ns) i j::G) [.gp 0 0] (.ret (.agg true (tv (vT n)))) (rdR L (k+1) e (nmV ns) i j::G):=by
 obtain⟨a1,a2,a3,a4,a5,a6,a7,a8,a9,a10⟩:=Dd h;have a6:=a6 hL;have a7:=a7 hL;have a10:=a10 hL;obtain⟨h1,h2⟩:=Sh hn;have Ab:=(List.getElem?_eq_some_iff.1 h1).1;have Br:∀(m:Nat) v,ns[m]?=some v->(ns.reverse.map wdR)[ns.length-1-m]?.getD []=[.str (bs v)]:=fun m v hv=>by
  have hm:=(List.getElem?_eq_some_iff.1 hv).1;rw [List.getElem?_map,List.getElem?_reverse (by omega),show ns.length-1-(ns.length-1-m)=m by omega,hv];rfl
 have Aj:(ns.reverse.map wdR).length=ns.length:=by simp
 refine (Aq (out:=.ret (.agg true [.int .i64 2,.int .i64 n,.int .i64 0,.int .i64 0,.nils])) mixed Tryz.func149 tr149 ?_).weaken (Mh _ _ _ _);unfold rdR nmV;have Nn:(ns.length<=140737488355328)=True:=by simp;omega
 have ew:IntKind.i64.wrap ((ns.length:Int)-1)=(ns.length:Int)-1-(0:Nat):=by rw [w64 (by unfold fit;omega)];omega
 generalize ns.reverse.map wdR=R at *
 simp only [go_sem,seval,Aj,Nn,forall_const];rw [ew];refine Ig (fun x=>⟨(.gp 0 0::.jk::.ref 1 0 0 0::.int .i64 ((ns.length:Int)-1-x)::.jk::.jk::.jk::.jk::.jk::.jk::.jk::.jk::.jk::.jk::.jk::.jk::.jk::.jk::.jk::.jk::.jk::.jk::.jk::.jk::.jk::.jk::.jk::.jk::.jk::.jk::.jk::.jk::.jk::.jk::.jk::.jk::.jk::.jk::.jk::.jk::.jk::.jk::.jk::.jk::.jk::.jk::.jk::.jk::.jk::.jk::.jk::.jk::.jk::.jk::.jk::.jk::[]),[gOb ([.dsl 3 (L.map El),.int .i64 k,.int .i64 e,.dsl 1 R,.int .i64 i,.int .i64 j,.bool false,.int .i64 0]::G),⟨true,5,[[.int .i64 0,.int .i64 0,.int .i64 0,.int .i64 0,.nils]],0,0,true⟩]⟩) n (fun x hx=>?_) ?_
 ·have hq:ns.length-1-x<ns.length:=by omega
  have eI:(ns.length:Int)-1-x=((ns.length-1-x:Nat):Int):=by omega
  have e0:(0:Int)<=((ns.length-1-x:Nat):Int):=by omega
  have e1:((ns.length-1-x:Nat):Int)<(ns.length:Int):=by omega
  have eg:((ns.length-1-x:Nat):Int) >= 0:=e0;rw [eI]
  by_cases Zu:x<n
  ·obtain⟨v,h3,h4⟩:=h2 x Zu;simp only [go_sem,seval,a1,a2,a3,a4,a8,a9,a10,forall_const,q_g,decide_eq_true eg,e0,e1,hq,Aj,Nn,Br x v h3,h4,w64 (show fit (((ns.length-1-x:Nat):Int)-1) by unfold fit;omega)];refine⟨Zu,?_⟩;rw [show ((ns.length-1-x:Nat):Int)-1=(ns.length:Int)-1-((x+1:Nat):Int) by omega];exact As (by simp [Ao])
  ·have:x=n:=by omega
   subst this;simp only [go_sem,seval,a1,a2,a3,a4,a6,a8,a9,a10,forall_const,q_g,decide_eq_true eg,e0,e1,hq,Aj,Nn,Br x t.w h1,beq_self_eq_true,w64 (show fit ((ns.length:Int)-1) by unfold fit;omega),show (ns.length:Int)-1-((ns.length-1-x:Nat):Int)=(x:Int) by omega,w64 (show fit (x:Int) by unfold fit;omega)]
 ·exact As (by simp [Ao])
mutual
def LT.tm (i j:Nat):LT->Tm
 |.var n=>vT n
 |.nd k a b n l=>.mk k (a.ev i j:Nat) (b.ev i j:Nat) n (LT.tms i j l)
def LT.tms (i j:Nat):List LT->List Tm
 |[]=>[]
 |t::l=>LT.tm i j t::LT.tms i j l
end
theorem Ac3 (i j:Nat):∀l:List LT,LT.tms i j l=l.map (LT.tm i j):=by
 intro l
 induction l with
 |nil=>rfl
 |cons t l ih=>rw [LT.tms,ih];rfl
section
variable {T:TF} {ns:List By} {k:Nat} {c:UInt8} {x y:Acc} {r r':List Tok} {s:By} {p:LT×List Tok}
theorem Bn (h:Er T ns k (c::s) x r=some p):∃y r1,Kl T ns k c x r=some (y,r1)/\Er T ns k s y r1=some p:=by
 rw [Er] at h;split at h
 ·rename_i y r1 he;exact⟨y,r1,he,h⟩
 ·cases h
theorem Gw (h:Er T ns k [] x r=some p):∃z r',r=z::r'/\z.k=2/\p=(.nd k x.a x.b x.n x.l,r'):=by
 rw [Er] at h;obtain⟨q,r'⟩:=p;obtain⟨z,h1,h2,h3⟩:=Nv h;exact⟨z,r',h1,h2,by rw [h3]⟩
theorem Nq (h:Kl T ns k c x r=some (y,r')) (hc:c=120\/c=121\/c=101):∃u,r=u::r'/\u.k=3/\y={ x with bd:=u.w::x.bd }:=by
 unfold Kl at h;have e:c.toNat≠76/\c.toNat≠77/\c.toNat≠83/\c.toNat≠116/\¬(c.toNat=98\/c.toNat=80):=by rcases hc with rfl|rfl|rfl<;>decide
 rw [if_neg e.1,if_neg e.2.1,if_neg e.2.2.1,if_neg e.2.2.2.1,if_neg e.2.2.2.2] at h
 match r,h with
 |[],h=>cases h
 |⟨k,w,q⟩::r1,h=>
  dsimp only at h;split at h
  ·rename_i hk;cases h;exact⟨_,rfl,hk,rfl⟩
  ·cases h
theorem Di (h:Kl T ns k 116 x r=some (y,r')):∃a,T ns r=some (a,r')/\y={ x with l:=x.l++[a] }:=by
 unfold Kl at h;rw [if_neg (by decide),if_neg (by decide),if_neg (by decide),if_pos (by decide)] at h;cases ht:T ns r with
 |none=>rw [ht] at h;cases h
 |some q=>
  rw [ht] at h;cases h;exact⟨_,rfl,rfl⟩
theorem Qm (h:Kl T ns k c x r=some (y,r')) (hc:c=98\/c=80):ns≠[]/\∃a,T (x.bd++ns) r=some (a,r')/\y={ x with l:=x.l++[a] }:=by
 unfold Kl at h;have e:c.toNat≠76/\c.toNat≠77/\c.toNat≠83/\c.toNat≠116/\(c.toNat=98\/c.toNat=80):=by rcases hc with rfl|rfl<;>decide
 rw [if_neg e.1,if_neg e.2.1,if_neg e.2.2.1,if_neg e.2.2.2.1,if_pos e.2.2.2.2] at h;split at h
 ·cases h
 ·rename_i hn;cases ht:T (x.bd++ns) r with
  |none=>rw [ht] at h;cases h
  |some q=>
   rw [ht] at h;cases h;exact⟨by simpa using hn,_,rfl,rfl⟩
theorem Aab (h:Kl T ns k 76 x r=some (y,r')):∃a,Nz r=some (a,r')/\y={ x with a:=a }:=by
 unfold Kl at h;rw [if_pos (by decide)] at h;cases ht:Nz r with
 |none=>rw [ht] at h;cases h
 |some q=>
  rw [ht] at h;cases h;exact⟨_,rfl,rfl⟩
theorem Aip (h:Kl T ns k 77 x r=some (y,r')):∃b r1 l,Nz r=some (b,r1)/\Lw T ns (arN x.n) r1=some (l,r')/\y={ x with b:=b,l:=l }:=by
 unfold Kl at h;rw [if_neg (by decide),if_pos (by decide)] at h;cases ht:Nz r with
 |none=>rw [ht] at h;cases h
 |some q=>
  rw [ht] at h;dsimp only at h;cases hm:Lw T ns (arN x.n) q.2 with
  |none=>rw [hm] at h;cases h
  |some l=>
   rw [hm] at h;cases h;exact⟨_,_,_,rfl,hm,rfl⟩
theorem Ah1 (h:Kl T ns k 83 x r=some (y,r')):∃u n,r=u::r'/\u.k=3/\Jq u.w symsL=some n/\y={ x with n:=n+1 }:=by
 unfold Kl at h;rw [if_neg (by decide),if_neg (by decide),if_pos (by decide)] at h
 match r,h with
 |[],h=>cases h
 |⟨k,w,q⟩::r1,h=>
  dsimp only at h;split at h
  ·rename_i hk;cases hn:Jq w symsL with
   |none=>rw [hn] at h;cases h
   |some n=>
    rw [hn] at h;cases h;exact⟨_,_,rfl,hk,hn,rfl⟩
  ·cases h
end
def NmP (nm:SV) (ns:List By):Prop:=(nm=.nils/\ns=[])\/nm=nmV ns
def NG (G:List (List SV)):Prop:=∀r∈G,∀x∈r,NoG x
theorem NG.nil:NG []:=fun r hr=>by cases hr
theorem NG.app {G D:List (List SV)} (h:NG G) (k:NG D):NG (G++D):=fun r hr=>(List.mem_append.1 hr).elim (h r) (k r)
theorem NG.cons {r:List SV} {D:List (List SV)} (h:∀x∈r,NoG x) (k:NG D):NG (r::D):=fun q hq=>by
 rcases List.mem_cons.1 hq with rfl|hq
 ·exact h
 ·exact k q hq
theorem At1 (l:List By):NoG (.dsl 1 (l.map wdR)):=.dsl _ _ (fun x hx=>by
 obtain⟨r,hr,hx⟩:=List.mem_flatten.1 hx;obtain⟨w,_,rfl⟩:=List.mem_map.1 hr;simp only [wdR,List.mem_singleton] at hx;subst hx;exact .str _)
theorem NmP.noG {nm:SV} {ns:List By} (h:NmP nm ns):NoG nm:=by
 rcases h with⟨rfl,_⟩|rfl
 ·exact .nils
 ·exact At1 _
theorem Ay3 {L:List Tok} {k e i j:Nat} {nm:SV} (h:NoG nm):∀x∈rdR L k e nm i j,NoG x:=by
 intro x hx;simp only [rdR,List.mem_cons,List.not_mem_nil,or_false] at hx;rcases hx with rfl|rfl|rfl|rfl|rfl|rfl|rfl|rfl
 ·refine .dsl _ _ (fun x hx=>?_);obtain⟨r,hr,hx⟩:=List.mem_flatten.1 hx;obtain⟨t,_,rfl⟩:=List.mem_map.1 hr;simp only [El,List.mem_cons,List.not_mem_nil,or_false] at hx;rcases hx with rfl|rfl|rfl
  ·exact .int _ _
  ·exact .str _
  ·exact .int _ _
 ·exact .int _ _
 ·exact .int _ _
 ·exact h
 ·exact .int _ _
 ·exact .int _ _
 ·exact .bool _
 ·exact .int _ _
def TC (T:TF) (b:Nat):Prop:=∀(ns:List By) (ts r:List Tok) (lt:LT),T ns ts=some (lt,r)->ns.length+b<1000000->∀(L:List Tok) (k e i j:Nat) (nm:SV) (G:List (List SV)) (want:Int),L.length<1000000000000->i<1000->j<1000->(want=0\/want=2)->NmP nm ns->NG G->L.drop k=ts ->
 ∃k' Δ,L.drop k'=r/\NG Δ/\Ad 139 (rdR L k e nm i j::G) [.gp 0 0,.int .i64 want] (.ret (.agg true (tv (lt.tm i j)))) (rdR L k' e nm i j::(G++Δ))
def LC (k:Nat) (s:By) (L:List Tok) (k0 e i j:Nat) (nm:SV) (G:List (List SV)) (lt:LT) (r:List Tok):Prop:=
 ∃k' Δ,L.drop k'=r/\NG Δ/\Ad 152 (rdR L k0 e nm i j::G) [.gp 0 0,.int .i64 k,.str (bs s)] (.ret (.agg true (tv (lt.tm i j)))) (rdR L k' e nm i j::(G++Δ))
end Go.Proofs.YtdpigpopcbjkmaaGreatDoor.Abs
