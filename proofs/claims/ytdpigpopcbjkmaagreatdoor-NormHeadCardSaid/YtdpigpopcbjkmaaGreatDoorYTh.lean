import Derived.Test.YtdpigpopcbjkmaaGreatDoorYMk
import Derived.Test.YtdpigpopcbjkmaaGreatDoorYPf
import Derived.Test.YtdpigpopcbjkmaaGreatDoorYPc
import Derived.Test.YtdpigpopcbjkmaaGreatDoorYDo
set_option linter.unusedSimpArgs false
set_option linter.unusedVariables false
set_option maxRecDepth 20000
set_option maxHeartbeats 4000000
namespace Go.Proofs.YtdpigpopcbjkmaaGreatDoor.Abs
open Go Go.RowKit Go.Proofs.YtdpigpopcbjkmaaGreatDoor
section
variable{B:BT}{C d:Nat}
theorem Be7{t u:Tm}{p:Nat}(h:Sf C t)(h2:t.k≠2)(hu:Sf (C+bnd t.k p) u):Sf C (Ce t p u):=by
 have h0:=sf_k h;cases t with
 |mk k i j n l=>
  obtain⟨_,hf,hl⟩:=h.node h2;refine .nd i j n h2 h0 hf (by simp only[Tm.kids,List.length_set];exact hl) (fun q t ht=>?_);simp only[Tm.kids] at ht
  by_cases e:p=q
  ·subst e;have Ab:=Dn ht;rw[List.length_set] at Ab;rw[List.getElem?_set_self Ab,q_b] at ht;subst ht;exact hu
  ·rw[List.getElem?_set_ne e] at ht;exact h.kid ht
theorem Zv{t:Tm}(h:Sf C t){p:Nat}(hp:stk t.k=some p):t.k≠2/\t.k≠0/\p<t.kids.length/\bnd t.k p=0:=by
 have h1:=Kf hp;have h2:t.k≠2:=by omega
 have hl:=Hp h h2;refine⟨h2,by omega,?_,Aco hp⟩;unfold stk at hp;split at hp
 ·rename_i c;cases hp;rcases c with c|c|c<;>(rw[c] at hl;first|(rw[kids15] at hl;omega)|(rw[kids18] at hl;omega)|(rw[kids19] at hl;omega))
 ·split at hp
  ·rename_i c;cases hp;rw[c,kids22] at hl;omega
  ·cases hp
theorem A7i{t u:Tm}(h:Sf C t){p:Nat}(hp:stk t.k=some p):lv d (Ce t p u)=Ce (lv d t) p (lv d u):=by
 obtain⟨h2,h0,hl,hb⟩:=Zv h hp;cases t with
 |mk k i j n l=>
  have Ir:k≠2:=h2;have Lg:k≠0:=h0;have Ek:bnd k p=0:=hb;have Kq:p<l.length:=hl;unfold lv Ce;simp only[Tm.k,Tm.i,Tm.j,Tm.n,Tm.kids];rw[Wh Ir Lg,Wh Ir Lg];simp only[Tm.kids];congr 1;apply List.ext_getElem?;intro q;rw[Ep]
  by_cases e:p=q
  ·subst e;rw[List.getElem?_set_self Kq,List.getElem?_set_self (by rw[Kh];exact Kq),Option.map_some,Nat.zero_add,Nat.zero_add,Ek];rfl
  ·rw[List.getElem?_set_ne e,List.getElem?_set_ne e,Ep]
theorem A4h(hB:Gv B){t u:Tm}(hs:HS (Bi B) t u):∀{C:Nat},Sf C t->HS (plD B) (lv d t) (lv d u):=by
 induction hs with
 |@here t u h=>intro C ht;exact .here (by rw[Afi hB ht,h];rfl)
 |@down t u p h hp hs ih=>
  intro C ht;obtain⟨h2,h0,hl,hb⟩:=Zv ht hp;have hk:=Jd ht hl;rw[hb,Nat.add_zero] at hk;rw[A7i ht hp];refine .down (by rw[Afi hB ht,h];rfl) (by rw[(lv_k (d:=d) ht h2).1];exact hp) ?_;rw[Ny ht h2 hl,hb];exact ih hk
theorem A3y(hB:Gv B){t:Tm}(hn:HN (Bi B) t):∀{C:Nat},Sf C t->HN (plD B) (lv d t):=by
 induction hn with
 |@mk t h hk ih=>
  intro C ht
  by_cases h2:t.k=2
  ·obtain⟨i,e1,e2⟩:=Aaz (d:=d) ht h2;rw[e2];exact Ru _
  refine .mk (by rw[Afi hB ht,h];rfl) (fun p hp=>?_);rw[(lv_k (d:=d) ht h2).1] at hp;obtain⟨_,h0,hl,hb⟩:=Zv ht hp;have hs:=Jd ht hl;rw[hb,Nat.add_zero] at hs;rw[Ny ht h2 hl,hb];exact ih p hp hs
theorem Anw{C:Nat}{u:Tm}(h:Sf C u)(k:Nat):Sf (C+k) (Eo k u):=by
 unfold Eo;refine Afv h (fun b' i _ hi=>?_);unfold lfv;split
 ·exact .var (by omega)
 ·exact .var (by omega)
theorem Be6{C:Nat}{t u:Tm}(ht:Sf (C+1) t)(hu:Sf C u):Sf C (Im u t):=by
 unfold Im;refine Afv ht (fun b' i _ hi=>?_);unfold ptv;split
 ·exact .var (by omega)
 ·split
  ·have:=Anw hu b'
   rwa [Nat.sub_zero]
  ·exact .var (by omega)
theorem Be4{C m:Nat}{t:Tm}{l:List Tm}(ht:Sf m t)(hm:m<=l.length)(hl:∀u∈l,Sf C u):Sf C (Ht l t):=by
 unfold Ht;refine Afv ht (fun b' i _ hi=>?_);unfold alv;split
 ·exact .var (by omega)
 ·have Ab:i-b'<l.length:=by omega
  rw[List.getD_eq_getElem?_getD,q_f Ab];have:=Anw (hl _ (List.getElem_mem Ab)) b'
  rwa [Nat.sub_zero]
theorem Anx(hB:Gv B){t u:Tm}(h:Bi B t=some u)(ht:Sf C t):Sf C u:=by
 have h2:t.k≠2:=fun e=>by rw[Ky (by omega)] at h;cases h
 have hl:=Hp ht h2
 by_cases Fa:t.k=15
 ·rw[Se Fa] at h;split at h
  ·rename_i c;cases h;rw[Fa,kids15] at hl;have Fw:=Jd (p:=0) ht (by omega);have Bj:=Jd (p:=1) ht (by omega);rw[Fa,show bnd 15 0=0 by decide,Nat.add_zero] at Fw;rw[Fa,show bnd 15 1=0 by decide,Nat.add_zero] at Bj;have De:=Hp Fw (by omega);rw[c,kids14] at De;have hb:=Jd (p:=1) Fw (by omega);rw[c,show bnd 14 1=1 by decide] at hb;exact Be6 hb Bj
  ·cases h
 by_cases Gb:t.k=18
 ·rw[Sg Gb] at h;split at h
  ·rename_i c;cases h;rw[Gb,kids18] at hl;have Fw:=Jd (p:=0) ht (by omega);rw[Gb,show bnd 18 0=0 by decide,Nat.add_zero] at Fw;have De:=Hp Fw (by omega);rw[c,kids17] at De;have hb:=Jd (p:=2) Fw (by omega)
   rwa [c,show bnd 17 2=0 by decide,Nat.add_zero] at hb
  ·cases h
 by_cases Gc:t.k=19
 ·rw[Sh Gc] at h;split at h
  ·rename_i c;cases h;rw[Gc,kids19] at hl;have Fw:=Jd (p:=0) ht (by omega);rw[Gc,show bnd 19 0=0 by decide,Nat.add_zero] at Fw;have De:=Hp Fw (by omega);rw[c,kids17] at De;have hb:=Jd (p:=3) Fw (by omega)
   rwa [c,show bnd 17 3=0 by decide,Nat.add_zero] at hb
  ·cases h
 by_cases Du:t.k=22
 ·rw[Si Du] at h;split at h
  ·cases h;rw[Du,kids22] at hl;have hb:=Jd (p:=3) ht (by omega)
   rwa [Du,show bnd 22 3=0 by decide,Nat.add_zero] at hb
  ·cases h
 by_cases Cc:t.k=23
 ·rw[Sj Cc] at h;cases hb:B t.n t.i t.j with
  |none=>rw[hb] at h;cases h
  |some b=>
   rw[hb,Option.map_some,q_b] at h;subst h;rw[Cc] at hl;refine Be4 (hB _ _ _ _ hb) (by rw[List.length_reverse];omega) (fun u hu=>?_);rw[List.mem_reverse] at hu;obtain⟨q,hq,rfl⟩:=List.getElem_of_mem hu;have:=Jd (p:=q) ht hq;rw[Cc,bnd23,Nat.add_zero] at this;cases t with
   |mk k i j n l=>
    have Kr:q<l.length:=hq;have e:Am (.mk k i j n l) q=l[q]:=by unfold Am;rw[show (Tm.mk k i j n l).kids=l from rfl,List.getD_eq_getElem?_getD,q_f Kr];rfl
    rw[e] at this;exact this
 ·rw[Ky (by omega)] at h;cases h
theorem Afu(hB:Gv B){t u:Tm}(hs:HS (Bi B) t u):∀{C:Nat},Sf C t->Sf C u:=by
 induction hs with
 |here h=>intro C ht;exact Anx hB h ht
 |@down t u p h hp hs ih=>
  intro C ht;obtain⟨h2,h0,hl,hb⟩:=Zv ht hp;have hk:=Jd ht hl;rw[hb,Nat.add_zero] at hk;refine Be7 ht h2 ?_;rw[hb,Nat.add_zero];exact ih hk
end
inductive PHd(B:BT):Nat->Tm->Nat->Bool->Tm->Prop
 |stop {N:Nat} {t:Tm} (h:HN (Bi B) t):PHd B N t N false t
 |out {N:Nat} {t u:Tm} (h:HS (Bi B) t u) (ho:4000<N+1\/4000<tsz u):PHd B N t (N+1) true u
 |step {N N':Nat} {t u t':Tm} {o:Bool} (h:HS (Bi B) t u) (h1:N+1<=4000) (h2:tsz u<=4000) (hr:PHd B (N+1) u N' o t'):PHd B N t N' o t'
inductive PNx(B:BT):(Tm ⊕ List Tm)->Nat->Bool->Nat->Bool->(Tm ⊕ List Tm)->Prop
 |tm {t t1:Tm} {N N1 N2:Nat} {o1 o2:Bool} {rs:List Tm} (h:PHd B N t N1 o1 t1) (hk:PNx B (.inr t1.kids) N1 o1 N2 o2 (.inr rs)):PNx B (.inl t) N false N2 o2 (.inl (.mk t1.k t1.i t1.j t1.n rs))
 |nil {N:Nat} {o:Bool}:PNx B (.inr []) N o N o (.inr [])
 |out {a:Tm} {l:List Tm} {N:Nat}:PNx B (.inr (a::l)) N true N true (.inr [])
 |cons {a r:Tm} {l rs:List Tm} {N N1 N2:Nat} {o1 o2:Bool} (h:PNx B (.inl a) N false N1 o1 (.inl r)) (hl:PNx B (.inr l) N1 o1 N2 o2 (.inr rs)):PNx B (.inr (a::l)) N false N2 o2 (.inr (r::rs))
section
variable{B:BT}
theorem Abb{N N':Nat}{t t':Tm}{o:Bool}(h:PHd B N t N' o t'):N<=N':=by
 induction h with
 |stop=>exact Nat.le_refl _
 |out=>omega
 |step _ _ _ _ ih=>omega
theorem Afg(hB:Gv B){d N N':Nat}{t t':Tm}{o:Bool}(h:PHd B N t N' o t')(ho:o=false):∀{C:Nat},Sf C t->Sf C t'/\∃n,N'=N+n/\HR (plD B) n (lv d t) (lv d t')/\HN (plD B) (lv d t'):=by
 induction h with
 |stop h=>intro C ht;exact⟨ht,0,rfl,.refl _,A3y hB h ht⟩
 |out=>cases ho
 |step h _ _ _ ih=>
  intro C ht;obtain⟨a,n,e,r,k⟩:=ih ho (Afu hB h ht);exact⟨a,n+1,by omega,.step (A4h hB h ht) r,k⟩
def NRl(B:BT)(d:Nat)(k:Int)(p:Nat)(l:List Tm)(Ns:List Nat)(rs:List Tm):Prop:=Ns.length=l.length/\rs.length=l.length/\∀(q:Nat) t N r,l[q]?=some t->Ns[q]?=some N->rs[q]?=some r->NR B (d+bnd k (p+q)) (lv (d+bnd k (p+q)) t) N r
theorem Afj{x y:Tm ⊕ List Tm}{N N':Nat}{o o':Bool}(h:PNx B x N o N' o' y)(Fs:o'=false):o=false:=by
 cases h with
 |tm=>rfl
 |nil=>exact Fs
 |out=>exact Fs
 |cons=>rfl
theorem Bbu(hB:Gv B){x y:Tm ⊕ List Tm}{N N':Nat}{o o':Bool}(h:PNx B x N o N' o' y)(Fs:o'=false) :
  (∀t r,x=.inl t->y=.inl r->∀d C,Sf C t->∃n,N'=N+n/\NR B d (lv d t) n r) /\
  (∀l rs,x=.inr l->y=.inr rs->∀(d:Nat) (k:Int) (p C:Nat),(∀(q:Nat) t,l[q]?=some t->Sf (C+bnd k (p+q)) t)->∃Ns,N'=N+Ns.sum/\NRl B d k p l Ns rs):=by
 induction h with
 |@tm t t1 N N1 N2 o1 o2 rs h hk ih=>
  have Qf:=Afj hk Fs;refine⟨fun t' r e1 e2 d C hs=>?_,fun l rs' e=>by cases e⟩;cases e1;cases e2;obtain⟨a,n,e,r1,k1⟩:=Afg hB (d:=d) h Qf hs
  by_cases h2:t1.k=2
  ·obtain⟨i,c1,c2⟩:=Aaz (d:=d) a h2;subst c1;rw[c2] at r1;have hk':PNx B (.inr []) N1 o1 N2 o2 (.inr rs):=hk;cases hk';refine⟨n,e,?_⟩;have:=NR.fv (B:=B) (d:=d) r1
   rwa [show (d:Int)-1-((d:Int)-1-(i:Int))=i by omega] at this
  ·obtain⟨Ns,e3,hl⟩:=(ih Fs).2 t1.kids rs rfl rfl d t1.k 0 C (fun q u hu=>by
    rw[Nat.zero_add];cases t1 with
    |mk k i j n' l=>exact a.kid hu)
   refine⟨n+Ns.sum,by omega,?_⟩;have h0:=sf_k a;cases t1 with
   |mk k i j n' l=>
    have Ir:k≠2:=h2;have Lg:k≠0:=h0;unfold lv at r1 k1;rw[Wh Ir Lg] at r1 k1;obtain⟨q1,q2,q3⟩:=hl;simp only[Tm.kids] at q1 q2 q3;refine .nd r1 k1 Lg (by rw[Kh];exact q1) (by rw[Kh];exact q2) (fun p u N r hu hN hr=>?_);rw[Ep,Nat.zero_add,Nat.zero_add] at hu;cases hq:l[p]? with
    |none=>rw[hq] at hu;cases hu
    |some u0=>
     rw[hq,Option.map_some,q_b] at hu;subst hu;have:=q3 p u0 N r hq hN hr;rw[Nat.zero_add] at this;have e4:=Bae d (bnd k p) u0;unfold lvB at e4;show NR B (d+bnd k p) (Aq (Gn d (bnd k p)) 0 (trT (lvv d) (fun _ l=>fT l) (bnd k p) u0)) N r;rw[e4];exact this
 |nil=>exact⟨fun t r e=>(by cases e),fun l rs e1 e2 d k p C _=>by cases e1;cases e2;exact⟨[],rfl,rfl,rfl,fun q t N r ht=>by cases ht⟩⟩
 |out=>cases Fs
 |@cons a r l rs N N1 N2 o1 o2 h hl ih1 ih2=>
  have Qf:=Afj hl Fs;refine⟨fun t r e=>(by cases e),fun l' rs' e1 e2 d k p C hs=>?_⟩;cases e1;cases e2;have h0:=hs 0 a rfl;obtain⟨n,e3,hr⟩:=(ih1 Qf).1 a r rfl rfl (d+bnd k (p+0)) _ h0;obtain⟨Ns,e4,q1,q2,q3⟩:=(ih2 Fs).2 l rs rfl rfl d k (p+1) C (fun q t ht=>by have:=hs (q+1) t (by simpa using ht);rwa [show p+(q+1)=p+1+q by omega] at this);refine⟨n::Ns,by simp only[List.sum_cons];omega,by simp[q1],by simp[q2],fun q t N r ht hN Fu=>?_⟩;cases q with
  |zero=>
   simp only[List.getElem?_cons_zero,q_b] at ht hN Fu;subst ht hN Fu;exact hr
  |succ q=>
   have:=q3 q t N r (by simpa using ht) (by simpa using hN) (by simpa using Fu)
   rwa [show p+1+q=p+(q+1) by omega] at this
theorem Amy(hB:Gv B){t r:Tm}{N C:Nat}(h:PNx B (.inl t) 0 false N false (.inl r))(ht:Sf C t):NR B 0 (Aq [] 0 t) N r:=by
 obtain⟨n,e,hn⟩:=(Bbu hB h rfl).1 t r rfl rfl 0 C ht;rw[lv_0] at hn;rw[e,Nat.zero_add];exact hn
end
theorem Au6(kk i j n d:Int)(b:Bool)(Lr:GV)(rows:GV)(X:Nat->List SV->Option (List SV))(h2:rows.length*56<=140737488355328)(h5:∀r∈rows,r.length=5)
  (hv:¬kk=2) (hd:0<=d) (Fb:d<=1000000000000) (hX:∀p:Nat,∀r∈rows,∀u,X p r=some u->u.length=5)
  (H:∀(p:Nat) r,rows[p]?=some r->∀b',Con 122 [.agg true r,.dsl 5 Lr,.int .i64 (d+Bl kk p),.bool b'] (Dj (X p r))) :
  Con 122 [.agg true [.int .i64 kk,.int .i64 i,.int .i64 j,.int .i64 n,.dsl 5 rows],.dsl 5 Lr,.int .i64 d,.bool b] (Dj ((Cf X 0 rows).map fun rs=>[.int .i64 kk,.int .i64 i,.int .i64 j,.int .i64 n,.dsl 5 rs])):=by
 have Mq:((List.range rows.length).map fun p=>(X p (rows[p]?.getD [])).getD []).length=rows.length:=by simp
 have Nu:∀x,x<rows.length->((List.range rows.length).map fun p=>(X p (rows[p]?.getD [])).getD [])[x]?.getD []=(X x (rows[x]?.getD [])).getD []:=fun x hx=>by
  rw[List.getElem?_map,List.getElem?_range hx];rfl
 have Rp:(∀x,x<rows.length->X x (rows[x]?.getD [])≠none)->Cf X 0 rows=some ((List.range rows.length).map fun p=>(X p (rows[p]?.getD [])).getD []):=fun h=>by
  rw[Ack (d:=[]) (e:=[]) (fun x hx=>by rw[Nat.zero_add];exact h x hx)];simp only[Nat.zero_add]
 generalize ((List.range rows.length).map fun p=>(X p (rows[p]?.getD [])).getD [])=ys at *
 have q1:(kk==2)=false:=by simp[hv]
 have core:∀r0,(Cf X 0 rows=none->r0=.tup [.agg true [.int .i64 0,.int .i64 0,.int .i64 0,.int .i64 0,.nils],.bool false]) ->
   (∀us,Cf X 0 rows=some us->r0=.tup [.agg true [.int .i64 kk,.int .i64 i,.int .i64 j,.int .i64 n,.dsl 5 us],.bool true]) ->
   Con 122 [.agg true [.int .i64 kk,.int .i64 i,.int .i64 j,.int .i64 n,.dsl 5 rows],.dsl 5 Lr,.int .i64 d,.bool b] r0:=by
  intro r0 hn hs;refine Al mixed Tryz.func122 tr122 ?_;simp only[go_sem,seval,q1];clear q1;intros;refine So (fun x=>⟨(.J::.dsl 5 Lr::.int .i64 d::.bool b::.ref 0 0 0 0::.J::.J::.J::.ref 1 0 0 0::.J::.ref 2 0 0 0::.osl 3 x 0 x::.int .i64 x::.J::.J::.J::.J::.J::.J::.J::.J::.J::.J::.J::.J::.J::.J::.J::.J::.J::.J::.J::.J::.J::.J::.J::.J::.J::.J::.J::.J::.J::.J::.J::.J::.J::.J::.J::.J::.J::.J::.J::.J::.J::.J::.J::.J::.J::.J::.J::.J::.J::.J::.J::.J::.J::.J::.J::.J::.J::.J::.J::.J::.J::.J::.J::.J::.J::.J::.J::.J::.J::.J::.J::[]),[⟨true,5,[[.int .i64 kk,.int .i64 i,.int .i64 j,.int .i64 n,.dsl 5 rows]],0,0,true⟩,⟨true,5,[[.int .i64 0,.int .i64 0,.int .i64 0,.int .i64 0,.nils]],0,0,true⟩,⟨true,5,[[.int .i64 kk,.int .i64 i,.int .i64 j,.int .i64 n,.nils]],0,0,true⟩,⟨false,5,ys.take x,x-1,x,true⟩]⟩) rows.length (fun x=>X x (rows[x]?.getD [])≠none) (fun x hx hp=>?_) ?_
  ·simp only[go_sem,seval];intros;refine⟨fun h=>?_,fun h=>?_⟩
   ·have Ab:=of_decide_eq_true h;have Ch:x<rows.length:=by omega
    have e0:(0:Int)<=(x:Int):=by omega
    have hm:=Ic (d:=[]) Ch;have Dv:=h5 _ hm;have hb:=Nc kk x;have ew:IntKind.i64.wrap (d+Bl kk x)=d+Bl kk x:=w64 (by unfold fit;omega);have hc:=H x (rows[x]?.getD []) (by rw[q_f Ch];rfl);obtain⟨z,hz⟩:=Ahx kk i j n x rows;have e1:(ys.take x).length=x:=by simp;omega
    have e2:(x+1)*56<=140737488355328:=by omega
    have e3:x+1<=140737488355328:=by omega
    cases b
    ·simp only[go_sem,seval,Ab,e0,Dv];refine Aa (Co kk x) ?_;simp only[go_sem,seval,Ab,e0,Dv,ew];refine Aa hz ?_;simp only[go_sem,seval,Ab,e0,Dv,ew];refine Aa (hc z) ?_;cases Ej:X x (rows[x]?.getD []) with
     |none=>
      have Ci:=Ae zT;simp only[go_sem,seval,Dj,Ci];exact hn (Sx (d:=[]) (i:=x) Ch (by rw[Nat.zero_add];exact Ej))
     |some u=>
      have hu:=hX x _ hm u Ej;have hy:=Nu x Ch;rw[Ej,Option.getD_some] at hy;have tn:=Uu (l:=ys) (d:=[]) (i:=x) (by omega);rw[hy] at tn;simp only[go_sem,seval,Dj,hu,Ch,e1,e2,e3,tn];rw[w64 (n:=(x:Int)+1) (by unfold fit;omega)];exact Dq 4 (by simp[An]) (by simp) (by simp[Ba]) (by simp)
    ·simp only[go_sem,seval,Ab,e0,Dv];refine Aa (Co kk x) ?_;simp only[go_sem,seval,Ab,e0,Dv,ew];refine Aa (hc true) ?_;cases Ej:X x (rows[x]?.getD []) with
     |none=>
      have Ci:=Ae zT;simp only[go_sem,seval,Dj,Ci];exact hn (Sx (d:=[]) (i:=x) Ch (by rw[Nat.zero_add];exact Ej))
     |some u=>
      have hu:=hX x _ hm u Ej;have hy:=Nu x Ch;rw[Ej,Option.getD_some] at hy;have tn:=Uu (l:=ys) (d:=[]) (i:=x) (by omega);rw[hy] at tn;simp only[go_sem,seval,Dj,hu,Ch,e1,e2,e3,tn];rw[w64 (n:=(x:Int)+1) (by unfold fit;omega)];exact Dq 4 (by simp[An]) (by simp) (by simp[Ba]) (by simp)
   ·have Fj:=of_decide_eq_false h;have Kt:x=rows.length:=by omega
    have he:=Rp (fun y hy=>hp y (by omega));subst Kt;have ht:ys.take rows.length=ys:=by rw[<-Mq,List.take_length]
    simp only[go_sem,seval,h,Mq,ht];exact hs _ he
  ·exact .trans (.ghost _ 11 5 rfl) (Au (by simp[An]))
 cases hA:Cf X 0 rows with
 |none=>
  refine (core _ (fun _=>rfl) (fun us h=>?_)).weaken Aas;rw[hA] at h;cases h
 |some us=>
  refine core _ (fun h=>?_) (fun us' h=>?_)
  ·rw[hA] at h;cases h
  ·rw[hA] at h;cases h;rfl
theorem Bgi{i:Nat}(h:i<=2147483647):TOk (vT i):=.mk _ _ _ _ _ (by unfold fit;omega) (by unfold fit;omega) (by unfold fit;omega) (by unfold fit;omega) (by simp) (fun t ht=>by cases ht)
structure j7(C m:Nat)(u:Tm):Prop where
 tok:TOk u
 pl:Cb u=true
 hg:(2:Int)*Kp u<=1000000000000
 sf:Sf C u
 bd:C+dpt u+m<=2147483647
theorem Au7{C m:Nat}{l:List Tm}(hl:∀u∈l,j7 C m u)(i d:Nat)(b:Bool)(hi:i<d+l.length)(hd:d<=m)(hm:m<=1000000)(Di:l.length<=1000) :
  Con 122 [.agg true (tv (vT i)),.dsl 5 (l.map tv),.int .i64 d,.bool b] (.tup [.agg true (tv (alv l d i)),.bool true]):=by
 unfold alv
 by_cases h:i<d
 ·rw[if_pos h];have hle:=Alc 2 i 0 0;have e:tv (vT i)=[.int .i64 2,.int .i64 i,.int .i64 0,.int .i64 0,.dsl 5 []]:=by simp[vT,Ak]
  rw[e];refine (Al mixed Tryz.func122 tr122 ?_).weaken hle;simp only[go_sem,seval,decide_eq_false (show ¬(i:Int) >= d by omega)];intros;refine Ca 1 (Aj ?_);simp only[go_sem,seval]
 ·rw[if_neg h];have Ab:i-d<l.length:=by omega
  have hx:l.getD (i-d) (vT 0)=l[i-d]:=by rw[List.getD_eq_getElem?_getD,q_f Ab];rfl
  rw[hx];have hu:=hl _ (List.getElem_mem Ab);have hc:=Ahy l[i-d] hu.tok hu.pl d (by omega) b hu.hg;have On:=hu.bd;rw[show Hm (d:Int) 0 l[i-d]=some (Eo d l[i-d]) from Al5 (fr:=0) hu.sf (by omega),Option.map_some] at hc;have hz:=Ae (Eo d l[i-d]);have Dy:=Ae l[i-d];have ew:IntKind.i64.wrap ((i:Int)-d)=((i-d:Nat):Int):=by rw[w64 (by unfold fit;omega)];omega
  have hg:(l.map tv)[i-d]?.getD []=tv l[i-d]:=by rw[List.getElem?_map,q_f Ab];rfl
  have e0:(0:Int)<=((i-d:Nat):Int):=by omega
  have e1:((i-d:Nat):Int)<(l.length:Int):=by omega
  refine Al mixed Tryz.func122 tr122 ?_;rw[show tv (vT i)=[.int .i64 2,.int .i64 i,.int .i64 0,.int .i64 0,.dsl 5 []] by simp[vT,Ak]];simp only[go_sem,seval,decide_eq_true (show (i:Int) >= d by omega),ew,hg,e0,e1,Ab,q_g,Dy];refine Aa hc ?_;simp only[go_sem,seval,Dj,hz]
theorem Au5{C m:Nat}{l:List Tm}(hl:∀u∈l,j7 C m u)(hm:m<=1000000)(Di:l.length<=1000)(t:Tm):TOk t->∀(w:Int) (d:Nat) (b:Bool),Ef t w=true->Sf (d+l.length) t->d+dpt t<=m ->
  Con 122 [.agg true (tv t),.dsl 5 (l.map tv),.int .i64 d,.bool b] (.tup [.agg true (tv (trT (alv l) (fun _ l=>fT l) d t)),.bool true]):=by
 induction t using Tm.ind with
 |h kk i j n kl ih=>
  intro hok w d b hr hs hd;obtain⟨f1,f2,f3,f4,hb,Fr⟩:=Wq hok
  by_cases hv:kk=2
  ·subst hv;obtain⟨q,rfl,rfl,rfl,rfl,hq⟩:=hs.vr;rw[Oc,Int.toNat_natCast];exact Au7 hl q d b hq (by omega) hm Di
  ·have hn:=hs.node hv;have h:=Au6 kk i j n d b (l.map tv) (kl.map tv) (fun p r=>onT (fun t=>some (tv (trT (alv l) (fun _ l=>fT l) (d+bnd kk p) t))) none r) (by simpa using hb) (rows5 kl) hv (by omega) (by omega)
    (fun p r hr u hu=>by
     obtain⟨t,ht,rfl⟩:=List.mem_map.1 hr;simp only[Jc,q_b] at hu;subst hu;exact Ae _)
    (fun p r Fu b'=>by
     rw[List.getElem?_map] at Fu;cases hq:kl[p]? with
     |none=>rw[hq] at Fu;cases Fu
     |some t=>
      rw[hq,Option.map_some,q_b] at Fu;subst Fu;have ht:=List.mem_of_getElem? hq;simp only[Jc];obtain⟨w',hw⟩:=Wo hr ht;have hk:=hs.kid hq;have v6:=Km (k:=kk) (i:=i) (j:=j) (n:=n) hq;rw[Ve,<-Int.natCast_add];exact ih t ht (Fr t ht) w' _ b' hw (by rwa [show d+bnd kk p+l.length=d+l.length+bnd kk p by omega]) (by omega))
   have e:Cf (fun p r=>onT (fun t=>some (tv (trT (alv l) (fun _ l=>fT l) (d+bnd kk p) t))) none r) 0 (kl.map tv)=some ((trL (alv l) (fun _ l=>fT l) d kk 0 kl).map tv):=by
    rw[Aci,Ach (Y:=fun p t=>(some (trT (alv l) (fun _ l=>fT l) (d+bnd kk p) t)).map tv) (fun p t _=>by rw[Jc];rfl),Acj,Acl (v:=alv l) (f:=fun _ l=>fT l) (b:=d) (k:=kk) (fun q t _=>rfl)];rfl
   rw[e] at h;rw[Ak,Ey hv hn.1,Ak];exact h
theorem Au3{C m:Nat}{l:List Tm}(hl:∀u∈l,j7 C m u)(hm:m<=1000000)(Di:l.length<=1000){t:Tm}(ht:TOk t)(hp:Cb t=true)(hs:Sf l.length t)(hd:dpt t<=m)(hf:Gy t<=l.length) :
  Con 102 [.agg true (tv t),.dsl 5 (l.map tv)] (.tup [.agg true (tv (Ht l t)),.bool true]):=by
 have h1:=o6 t ht hp;have h2:=Ahz t ht 2 hp;have h3:=Au5 hl hm Di t ht 2 0 false hp (by rwa [Nat.zero_add]) (by omega);have hz:=Ae t;have Hk:=Ae (Ht l t);have Xl:Con 122 [.agg true (tv t),.dsl 5 (l.map tv),.int .i64 0,.bool false] (.tup [.agg true (tv (Ht l t)),.bool true]):=h3;have Tz:∀x,(h:x<l.length)->(l.map tv)[x]?.getD []=tv l[x]:=fun x h=>by rw[List.getElem?_map,q_f h];rfl
 refine Al mixed Tryz.func102 tr102 ?_;simp only[go_sem,seval,hz];refine Aa h1 ?_;simp only[go_sem,seval,hz];refine Aa h2 ?_;simp only[go_sem,seval,hz,q_g,decide_eq_false (show ¬Gy t > (l.length:Int) by omega)];refine fun _=>?_
 refine Je (fun x=>⟨(.J::.dsl 5 (l.map tv)::.ref 0 0 0 0::.J::.ref 1 0 0 0::.bool false::.int .i64 x::.J::.J::.J::.J::.J::.J::.J::.J::.J::.J::.J::.J::.J::.J::.J::.J::.J::.J::.J::.J::.J::.J::.J::.J::.J::.J::.J::.J::.J::.J::.J::.J::.J::.J::.J::.J::.J::[]),[⟨true,5,[tv t],0,0,true⟩,⟨true,5,[[.int .i64 0,.int .i64 0,.int .i64 0,.int .i64 0,.nils]],0,0,true⟩]⟩) l.length (fun x hx=>?_) ?_
 ·by_cases Ab:x<l.length
  ·have e0:(0:Int)<=(x:Int):=by omega
   have e1:(x:Int)<(l.length:Int):=by omega
   have Zd:=Ae l[x];have hu:=hl _ (List.getElem_mem Ab);simp only[go_sem,seval,q_g,decide_eq_true e1,e0,e1,Ab,Tz x Ab,hz,Zd];refine fun _=>Aa (Ah0 t l[x] ht hu.tok hp hu.pl) ?_
   simp only[go_sem,seval,w64 (show fit ((x:Int)+1) by unfold fit;omega)];refine⟨Ab,?_⟩;exact Au (by simp[An])
  ·have:x=l.length:=by omega
   subst this;simp only[go_sem,seval,q_g,decide_eq_false (show ¬((l.length:Nat):Int)<l.length by omega),hz];refine fun _=>Aa Xl ?_
   simp only[go_sem,seval,Hk]
 ·exact Au (by simp[An])
theorem Atr{C m:Nat}{l:List Tm}(hl:∀u∈l,j7 C m u)(hm:m<=1000000)(Di:l.length<=1000){t:Tm}(ht:TOk t)(hp:Cb t=true)(hs:Sf l.length t)(hd:dpt t<=m)(hf:Gy t<=l.length) :
  Con 73 [.agg true (tv t),.dsl 5 (l.map tv)] (.agg true (tv (Ht l.reverse t))):=by
 have h:=Au3 (l:=l.reverse) (fun u hu=>hl u (by simpa using hu)) hm (by simpa using Di) ht hp (by simpa using hs) hd (by simpa using hf);have hz:=Ae t;have Hk:=Ae (Ht l.reverse t);refine Al mixed Tryz.func73 tr73 ?_;simp only[go_sem,seval,hz,q_g];refine fun _=>?_
 have ew:IntKind.i64.wrap ((l.length:Int)-1)=(l.length:Int)-1-(0:Nat):=by rw[w64 (by unfold fit;omega)];omega
 rw[ew];refine Je (fun x=>⟨(.J::.dsl 5 (l.map tv)::.ref 0 0 0 0::.J::.ref 1 0 0 0::.osl 2 x 0 x::.int .i64 ((l.length:Int)-1-x)::.J::.J::.J::.J::.J::.J::.J::.J::.J::.J::.J::.J::.J::.J::.J::.J::.J::.J::.J::.J::.J::.J::.J::[]),[⟨true,5,[tv t],0,0,true⟩,⟨true,5,[[.int .i64 0,.int .i64 0,.int .i64 0,.int .i64 0,.nils]],0,0,true⟩,⟨false,5,(l.reverse.map tv).take x,x-1,x,true⟩]⟩) l.length (fun x hx=>?_) ?_
 ·by_cases Ab:x<l.length
  ·have hq:l.length-1-x<l.length:=by omega
   have eI:(l.length:Int)-1-x=((l.length-1-x:Nat):Int):=by omega
   have e0:(0:Int)<=((l.length-1-x:Nat):Int):=by omega
   have e1:((l.length-1-x:Nat):Int)<(l.length:Int):=by omega
   have hg:(l.map tv)[l.length-1-x]?.getD []=tv l[l.length-1-x]:=by rw[List.getElem?_map,q_f hq];rfl
   have Zd:=Ae l[l.length-1-x];have e2:((l.reverse.map tv).take x).length=x:=by simp;omega
   have e3:(x+1)*56<=140737488355328:=by omega
   have e4:x+1<=140737488355328:=by omega
   have tn:(l.reverse.map tv).take (x+1)=(l.reverse.map tv).take x++[tv l[l.length-1-x]]:=by
    rw[List.take_succ_eq_append_getElem (by simpa using Ab)];simp
   rw[eI];simp only[go_sem,seval,decide_eq_true (show ((l.length-1-x:Nat):Int) >= 0 by omega),e0,e1,hq,hg,Zd,q_g,e2,e3,e4,w64 (show fit (((l.length-1-x:Nat):Int)-1) by unfold fit;omega)];refine⟨Ab,?_⟩;rw[show ((l.length-1-x:Nat):Int)-1=(l.length:Int)-1-((x+1:Nat):Int) by omega,tn];exact Dq 3 (by simp[An]) (by simp) (by simp[Ba]) (by simp)
  ·have:x=l.length:=by omega
   subst this;have Gr:(l.reverse.map tv).take l.length=l.reverse.map tv:=List.take_of_length_le (by simp);simp only[go_sem,seval,decide_eq_false (show ¬(l.length:Int)-1-(l.length:Nat) >= 0 by omega),Gr,hz,q_g,List.length_reverse];refine Aa h ?_;simp only[go_sem,seval,Hk]
 ·exact .trans (.ghost _ 5 5 rfl) (Au (by simp[An]))
theorem plain_mk{k i j n:Int}{l:List Tm}:Cb (.mk k i j n l)=true↔In k i j n 2 l.length=true/\∀t∈l,Cb t=true:=by
 rw[show Cb (.mk k i j n l)=Ef (.mk k i j n l) 2 from rfl,Am6,Bool.and_eq_true,List.all_eq_true]
theorem Wn{i:Nat}(h:i<=2147483647):Cb (vT i)=true:=by
 have h0:(0:Int)<=i:=by omega
 have h1:(i:Int)<=2147483647:=by omega
 show Ef (.mk 2 i 0 0 []) 2=true;rw[Ut];unfold In;simp[Hz,Bf,tab,Lq,h0,h1,Gw]
theorem Bdy{k i j n w:Int}{len:Nat}(h:In k i j n w len=true):(len:Int)=Bf k n/\Lq k i j n=true:=by
 unfold In at h;simp only[Bool.and_eq_true,Bool.not_eq_true',bne_eq_false_iff_eq] at h;exact h.2
theorem Ala{k n:Int}(h:0<=Bf k n):1<=k/\k<=23:=by
 unfold Bf at h;split at h
 ·omega
 ·unfold tab at h;split at h
  ·rename_i c;simp only[List.length_cons,List.length_nil] at c;omega
  ·omega
theorem Bfi:∀{l m:List Nat},l.length=m.length->(∀(q x y:Nat),l[q]?=some x->m[q]?=some y->x<=y)->l.sum<=m.sum:=by
 intro l
 induction l with
 |nil=>intro m hm _;simp
 |cons a l ih=>
  intro m hm h;cases m with
  |nil=>simp at hm
  |cons b m=>
   have:=ih (m:=m) (by simpa using hm) (fun q x y hx hy=>h (q+1) x y (by simpa using hx) (by simpa using hy));have h0:=h 0 a b rfl rfl;simp only[List.sum_cons];omega
theorem Bgh{B:Nat}{t:Tm}(h:Sf B t):Cb t=true->B+dpt t<=2147483647->TOk t:=by
 induction h with
 |@var B i h=>intro _ hb;exact Bgi (by omega)
 |@nd B k i j n l h2 h0 hf hl hk ih=>
  intro hp hb;have hp':=plain_mk.1 hp;have hkk:=Ba8 hp;have hle:=Pa k n;refine .mk _ _ _ _ _ ?_ hf.1 hf.2.1 hf.2.2 (by omega) (fun t ht=>?_)
  ·have:=Ala (k:=k) (n:=n) (by omega);unfold fit;omega
  ·obtain⟨q,hq⟩:=List.getElem?_of_mem ht;have:=Km (k:=k) (i:=i) (j:=j) (n:=n) hq;exact ih q t hq (hp'.2 t ht) (by omega)
theorem Afh{v:Nat->Nat->Tm}{f:Nat->Int->Tm}{B:Nat}{t:Tm}(h:Sf B t):∀{b D:Nat},Cb t=true->b+dpt t<=D->(∀b' i,b<=b'->b'<=D->i<B+(b'-b)->Cb (v b' i)=true)->Cb (trT v f b t)=true:=by
 induction h with
 |@var B i h=>intro b D _ hb hv;rw[Cu];exact hv b i (Nat.le_refl _) (by omega) (by omega)
 |@nd B k i j n l h2 h0 hf hl hk ih=>
  intro b D hp hb hv;have hp':=plain_mk.1 hp;rw[Ey h2 h0];refine plain_mk.2 ⟨by rw[Kh];exact hp'.1,fun t ht=>?_⟩;obtain⟨q,hq⟩:=List.getElem?_of_mem ht;rw[Ep,Nat.zero_add] at hq;cases Eu:l[q]? with
  |none=>rw[Eu] at hq;cases hq
  |some u=>
   rw[Eu,Option.map_some,q_b] at hq;subst hq;have hd:=Km (k:=k) (i:=i) (j:=j) (n:=n) Eu;exact ih q u Eu (D:=D) (hp'.2 u (List.mem_of_getElem? Eu)) (by omega) (fun b' i h1 h2 h3=>hv b' i (by omega) h2 (by omega))
theorem Agb{v:Nat->Nat->Tm}{f:Nat->Int->Tm}{B s:Nat}(hs:1<=s){t:Tm}(h:Sf B t):∀{b D:Nat},b+dpt t<=D->(∀b' i,b<=b'->b'<=D->i<B+(b'-b)->tsz (v b' i)<=s)->tsz (trT v f b t)<=tsz t*s:=by
 induction h with
 |@var B i h=>intro b D hb hv;rw[Cu];have:=hv b i (Nat.le_refl _) (by omega) (by omega);rw[show tsz (vT i)=1 by unfold vT;rw[Hq];rfl];omega
 |@nd B k i j n l h2 h0 hf hl hk ih=>
  intro b D hb hv;rw[Ey h2 h0,Hq,Hq];have:((trL v f b k 0 l).map tsz).sum<=((l.map tsz).map (·*s)).sum:=by
   rw[List.map_map];refine Bfi (by simp[Kh]) (fun q x y hx hy=>?_);rw[List.getElem?_map,Ep,Nat.zero_add] at hx;rw[List.getElem?_map] at hy;cases Eu:l[q]? with
   |none=>rw[Eu] at hy;cases hy
   |some u=>
    rw[Eu] at hx hy;simp only[Option.map_some,q_b] at hx hy;subst hx hy;have hd:=Km (k:=k) (i:=i) (j:=j) (n:=n) Eu;exact ih q u Eu (D:=D) (by omega) (fun b' i h1 h2 h3=>hv b' i (by omega) h2 (by omega))
  have e:((l.map tsz).map (·*s)).sum=(l.map tsz).sum*s:=by
   generalize l.map tsz=xs
   induction xs with
   |nil=>simp
   |cons x xs ih=>simp[ih,Nat.add_mul]
  rw[Nat.add_mul];omega
theorem Aga{t:Tm}:∀{l:List Tm},t∈l->tsz t<=(l.map tsz).sum:=by
 intro l
 induction l with
 |nil=>intro h;cases h
 |cons a l ih=>
  intro h;simp only[q_h,List.sum_cons];rcases List.mem_cons.1 h with rfl|h
  ·omega
  ·have:=ih h;omega
theorem f8{k i j n:Int}{l:List Tm}{t:Tm}(h:t∈l):tsz t+1<=tsz (.mk k i j n l):=by
 rw[Hq];have:=Aga h;omega
theorem Aw6{k:Int}{M:Nat}:∀{l:List Tm} {p:Nat},(∀t∈l,dpt t<=M)->Lf k p l<=M+2:=by
 intro l
 induction l with
 |nil=>intro p _;rw[Lf];omega
 |cons t l ih=>
  intro p h;rw[Lf];have h1:=h t (by simp);have h2:=ih (p:=p+1) (fun u hu=>h u (by simp[hu]));have h3:=Sz k p;omega
theorem Oj(t:Tm):dpt t+2<=2*tsz t:=by
 induction t using Tm.ind with
 |h k i j n l ih=>
  rw[dpt,Hq];cases l with
  |nil=>rw[Lf];simp
  |cons a l=>
   have:Lf k 0 (a::l)<=(2*((a::l).map tsz).sum-2)+2:=Aw6 (fun t ht=>by
    have h1:=ih t ht;have h2:=Aga ht;omega)
   have h3:=Wt a;simp only[q_h,List.sum_cons] at this |-;omega
theorem Ad2(t:Tm):Kp t<=tsz t:=by
 induction t using Tm.ind with
 |h k i j n l ih=>
  rw[Ad1,Hq];have:Qa l<=(l.map tsz).sum:=A3w (fun t ht=>Nat.le_trans (ih t ht) (Aga ht));omega
theorem Bbf(F:Nat->Int):∀{x y:Nat},y<x->F y<=pm F x:=by
 intro x
 induction x with
 |zero=>intro y h;omega
 |succ x ih=>
  intro y h;rw[pm]
  by_cases e:y=x
  ·subst e;omega
  ·have:=ih (show y<x by omega);omega
theorem Be5{t:Tm}:TOk t->Cb t=true->∀{C:Nat},Gy t<=C->Sf C t:=by
 induction t using Tm.ind with
 |h k i j n l ih=>
  intro ht hp C hf;obtain⟨f1,f2,f3,f4,hb,Fr⟩:=Wq ht;have hp':=plain_mk.1 hp;obtain⟨e1,e2⟩:=Bdy hp'.1
  by_cases h2:k=2
  ·subst h2;rw[Gy,if_pos rfl] at hf;have hl:l=[]:=List.length_eq_zero_iff.1 (by rw[show Bf 2 n=0 by unfold Bf;rw[if_neg (by decide)];rfl] at e1;omega);unfold Lq at e2;rw[if_neg (by decide),if_pos rfl] at e2;simp only[Bool.and_eq_true,decide_eq_true_eq,beq_iff_eq] at e2;obtain⟨a,_,b,c⟩:=e2;subst hl b c;have:=Sf.var (b:=C) (i:=i.toNat) (by omega);unfold vT at this
   rwa [Int.toNat_of_nonneg a] at this
  ·rw[s6 h2] at hf;refine .nd i j n h2 (by have:=Ala (k:=k) (n:=n) (by omega);omega) ⟨f2,f3,f4⟩ e1 (fun p t hq=>?_);have hm:=List.mem_of_getElem? hq;have Ab:=Dn hq;have:=Bbf (fun y=>Gy (l[y]?.getD default)-Bl k ((y:Nat):Int)) Ab;simp only[hq,Option.getD_some] at this;have Tk:=Ve k p;exact ih t hm (Fr t hm) (hp'.2 t hm) (by omega)
structure PT(C M:Nat)(t:Tm):Prop where
 pl:Cb t=true
 sf:Sf C t
 sz:tsz t<=M
theorem PT.tok{C M:Nat}{t:Tm}(h:PT C M t)(hb:C+2*M<=2147483647):TOk t:=by
 have:=Oj t;have:=h.sz;exact Bgh h.sf h.pl (by omega)
def BodyP(B:BT):Prop:=∀n i j b,B n i j=some b->PT (Bf 23 n).toNat 4000 b
theorem BodyP.ok{B:BT}(h:BodyP B):Gv B:=fun n i j b hb=>(h n i j b hb).sf
theorem Ak9{t:Tm}{p:Nat}(h:p<t.kids.length):Am t p∈t.kids:=by
 unfold Am;rw[List.getD_eq_getElem?_getD,q_f h];exact List.getElem_mem h
theorem PT.kidm{C M:Nat}{k i j n:Int}{l:List Tm}(h:PT C M (.mk k i j n l)){q:Nat}{t:Tm}(hq:l[q]?=some t):PT (C+bnd k q) M t:=by
 have hm:=List.mem_of_getElem? hq;have h1:=f8 (k:=k) (i:=i) (j:=j) (n:=n) hm;have:=h.sz;exact⟨(plain_mk.1 h.pl).2 t hm,h.sf.kid hq,by omega⟩
theorem PT.kid{C M:Nat}{t:Tm}(h:PT C M t){p:Nat}(hp:p<t.kids.length)(hb:bnd t.k p=0):PT C M (Am t p)/\tsz (Am t p)+1<=tsz t:=by
 cases t with
 |mk k i j n l=>
  have hp':p<l.length:=hp;have Ek:bnd k p=0:=hb;have hq:l[p]?=some (Am (.mk k i j n l) p):=by
   unfold Am;rw[show (Tm.mk k i j n l).kids=l from rfl,List.getD_eq_getElem?_getD,q_f hp'];rfl
  have:=h.kidm hq;rw[Ek,Nat.add_zero] at this;exact⟨this,f8 (Ak9 hp)⟩
theorem PT.kid1{C M:Nat}{t:Tm}(h:PT C M t){p:Nat}(hp:p<t.kids.length)(hb:bnd t.k p=1):PT (C+1) M (Am t p)/\tsz (Am t p)+1<=tsz t:=by
 cases t with
 |mk k i j n l=>
  have hp':p<l.length:=hp;have Ek:bnd k p=1:=hb;have hq:l[p]?=some (Am (.mk k i j n l) p):=by
   unfold Am;rw[show (Tm.mk k i j n l).kids=l from rfl,List.getD_eq_getElem?_getD,q_f hp'];rfl
  have:=h.kidm hq;rw[Ek] at this;exact⟨this,f8 (Ak9 hp)⟩
theorem Aaw{C M k:Nat}{u:Tm}(h:PT C M u)(hb:C+2*M+k<=2147483647):Cb (Eo k u)=true/\tsz (Eo k u)<=tsz u:=by
 have hd:=Oj u;have hs:=h.sz;constructor
 ·refine Afh h.sf (D:=dpt u) h.pl (by omega) (fun b' i _ h1 h2=>?_);unfold lfv;split
  ·exact Wn (by omega)
  ·exact Wn (by omega)
 ·have:=Agb (v:=lfv k) (f:=fun _ l=>fT l) (Nat.le_refl 1) h.sf (b:=0) (D:=dpt u) (by omega) (fun b' i _ h1 h2=>by
   unfold lfv;split<;>(unfold vT;rw[Hq];simp))
  unfold Eo;omega
theorem Bde{C M M':Nat}{t u:Tm}(ht:PT (C+1) M t)(hu:PT C M' u)(hb:C+2*M'+2*M+1<=2147483647):Cb (Im u t)=true/\tsz (Im u t)<=tsz t*tsz u:=by
 have hd:=Oj t;have hs:=ht.sz;have hp:=Wt u;constructor
 ·refine Afh ht.sf (D:=dpt t) ht.pl (by omega) (fun b' i _ h1 h2=>?_);unfold ptv;split
  ·exact Wn (by omega)
  ·split
   ·exact (Aaw hu (by omega)).1
   ·exact Wn (by omega)
 ·refine Agb hp ht.sf (b:=0) (D:=dpt t) (by omega) (fun b' i _ h1 h2=>?_);unfold ptv;split
  ·unfold vT;rw[Hq];simp;omega
  ·split
   ·exact (Aaw hu (by omega)).2
   ·unfold vT;rw[Hq];simp;omega
theorem Apu{C M M' m:Nat}{t:Tm}{l:List Tm}(ht:PT m M t)(hm:m<=l.length)(Di:l.length<=1000)(hl:∀u∈l,PT C M' u)(Nh:1<=M')(hb:C+2*M'+2*M+1000<=2147483647):Cb (Ht l t)=true/\tsz (Ht l t)<=tsz t*M':=by
 have hd:=Oj t;have hs:=ht.sz;have H:∀b' i,i<m+b'->¬i<b'->PT C M' (l.getD (i-b') (vT 0)):=fun b' i h1 h2=>by
  have Ab:i-b'<l.length:=by omega
  rw[List.getD_eq_getElem?_getD,q_f Ab];exact hl _ (List.getElem_mem Ab)
 constructor
 ·refine Afh ht.sf (D:=dpt t) ht.pl (by omega) (fun b' i _ h1 h2=>?_);unfold alv;split
  ·exact Wn (by omega)
  ·rename_i c;exact (Aaw (H b' i (by omega) c) (by omega)).1
 ·refine Agb Nh ht.sf (b:=0) (D:=dpt t) (by omega) (fun b' i _ h1 h2=>?_);unfold alv;split
  ·unfold vT;rw[Hq];simp;omega
  ·rename_i c;have h3:=H b' i (by omega) c;have:=(Aaw h3 (k:=b') (by omega)).2;have:=h3.sz;omega
theorem Amj{a b c d:Nat}(h1:a<=c)(h2:b<=d):a*b<=c*d:=Nat.mul_le_mul h1 h2
section
variable{B:BT}{C:Nat}
theorem Ba6(hB:BodyP B){t u:Tm}(h:Bi B t=some u)(ht:PT C 4000 t)(hC:C<=60000000):Cb u=true/\tsz u<=tsz t*4000:=by
 have h2:t.k≠2:=fun e=>by rw[Ky (by omega)] at h;cases h
 have hl:=Hp ht.sf h2;have Bm:=ht.sz
 by_cases Fa:t.k=15
 ·rw[Se Fa] at h;split at h
  ·rename_i c;cases h;rw[Fa,kids15] at hl;obtain⟨k0,s0⟩:=ht.kid (p:=0) (by omega) (by rw[Fa];decide);obtain⟨k1,s1⟩:=ht.kid (p:=1) (by omega) (by rw[Fa];decide);have De:=Hp k0.sf (by omega);rw[c,kids14] at De;obtain⟨kb,sb⟩:=k0.kid1 (p:=1) (by omega) (by rw[c];decide);obtain⟨a,b⟩:=Bde kb k1 (by omega);exact⟨a,Nat.le_trans b (Amj (by omega) (by omega))⟩
  ·cases h
 by_cases Gb:t.k=18
 ·rw[Sg Gb] at h;split at h
  ·rename_i c;cases h;rw[Gb,kids18] at hl;obtain⟨k0,s0⟩:=ht.kid (p:=0) (by omega) (by rw[Gb];decide);have De:=Hp k0.sf (by omega);rw[c,kids17] at De;obtain⟨kb,sb⟩:=k0.kid (p:=2) (by omega) (by rw[c];decide);exact⟨kb.pl,by omega⟩
  ·cases h
 by_cases Gc:t.k=19
 ·rw[Sh Gc] at h;split at h
  ·rename_i c;cases h;rw[Gc,kids19] at hl;obtain⟨k0,s0⟩:=ht.kid (p:=0) (by omega) (by rw[Gc];decide);have De:=Hp k0.sf (by omega);rw[c,kids17] at De;obtain⟨kb,sb⟩:=k0.kid (p:=3) (by omega) (by rw[c];decide);exact⟨kb.pl,by omega⟩
  ·cases h
 by_cases Du:t.k=22
 ·rw[Si Du] at h;split at h
  ·cases h;rw[Du,kids22] at hl;obtain⟨kb,sb⟩:=ht.kid (p:=3) (by omega) (by rw[Du];decide);exact⟨kb.pl,by omega⟩
  ·cases h
 by_cases Cc:t.k=23
 ·rw[Sj Cc] at h;cases hb:B t.n t.i t.j with
  |none=>rw[hb] at h;cases h
  |some b=>
   rw[hb,Option.map_some,q_b] at h;subst h;rw[Cc] at hl;have hle:=Pa 23 t.n;have hbb:=hB _ _ _ _ hb;have Fr:∀u∈t.kids.reverse,PT C (tsz t) u:=fun u hu=>by
    rw[List.mem_reverse] at hu;cases t with
    |mk k i j n l=>
     obtain⟨q,hq⟩:=List.getElem?_of_mem (l:=l) hu;have h23':k=23:=Cc;have:=ht.kidm hq;rw[h23',bnd23,Nat.add_zero] at this;have:=f8 (k:=k) (i:=i) (j:=j) (n:=n) (l:=l) hu;exact⟨‹PT C 4000 u›.pl,‹PT C 4000 u›.sf,by omega⟩
   have hp:=Wt t;obtain⟨a,c⟩:=Apu (C:=C) (M':=tsz t) hbb (by rw[List.length_reverse];omega) (by rw[List.length_reverse];omega) Fr hp (by omega);refine⟨a,Nat.le_trans c ?_⟩;rw[Nat.mul_comm];exact Amj (Nat.le_refl _) hbb.sz
 ·rw[Ky (by omega)] at h;cases h
theorem Be1{f:Tm->Nat}:∀{l:List Tm} {p:Nat} {u:Tm},p<l.length->((l.set p u).map f).sum+f (l.getD p (vT 0))=(l.map f).sum+f u:=by
 intro l
 induction l with
 |nil=>intro p u h;simp at h
 |cons a l ih=>
  intro p u h;cases p with
  |zero=>simp;omega
  |succ p=>
   have:=ih (p:=p) (u:=u) (by simpa using h);simp only[List.set_cons_succ,q_h,List.sum_cons,List.getD_cons_succ];omega
theorem Bez{t u:Tm}{p:Nat}(ht:Cb t=true)(hu:Cb u=true)(hp:p<t.kids.length):Cb (Ce t p u)=true/\tsz (Ce t p u)+tsz (Am t p)=tsz t+tsz u:=by
 cases t with
 |mk k i j n l=>
  have hp':p<l.length:=hp;obtain⟨h1,h2⟩:=plain_mk.1 ht;constructor
  ·refine plain_mk.2 ⟨by simp only[Tm.kids,List.length_set];exact h1,fun x hx=>?_⟩;rcases List.mem_or_eq_of_mem_set hx with h|rfl
   ·exact h2 x h
   ·exact hu
  ·unfold Ce Am;simp only[Tm.k,Tm.i,Tm.j,Tm.n,Tm.kids,Hq];have:=Be1 (f:=tsz) (u:=u) hp';omega
theorem An5(hB:BodyP B){t u:Tm}(hs:HS (Bi B) t u)(hC:C<=60000000):PT C 4000 t->Cb u=true/\tsz u<=tsz t*4000:=by
 induction hs with
 |here h=>intro ht;exact Ba6 hB h ht hC
 |@down t u p h hp hs ih=>
  intro ht;obtain⟨h2,h0,hl,hb⟩:=Zv ht.sf hp;obtain⟨k0,s0⟩:=ht.kid hl hb;obtain⟨a,b⟩:=ih k0;obtain⟨c,d⟩:=Bez ht.pl a hl;refine⟨c,?_⟩;omega
theorem An4(hB:BodyP B){t u:Tm}(hs:HS (Bi B) t u)(hC:C<=60000000)(ht:PT C 4000 t):PT C 16000000 u:=by
 obtain⟨a,b⟩:=An5 hB hs hC ht;have:=ht.sz;exact⟨a,Afu hB.ok hs ht.sf,by omega⟩
end
def nmV(ns:List By):SV:=.dsl 1 (ns.reverse.map wdR)
theorem A2o{L:List Tok}{k e i j n:Nat}{ns:List By}{G:GV}{t:Tok}{r:List Tok}(h:L.drop k=t::r)(hL:L.length<1000000000000)(hn:Jt t.w ns=some n)(Eb:ns.length<1000000) :
  Ad 149 (rdR L k e (nmV ns) i j::G) [.gp 0 0] (.ret (.agg true (tv (vT n)))) (rdR L (k+1) e (nmV ns) i j::G):=by
 obtain⟨a1,a2,a3,a4,a5,a6,a7,a8,a9,a10⟩:=Dl h;have a6:=a6 hL;have a7:=a7 hL;have a10:=a10 hL;obtain⟨h1,h2⟩:=Tf hn;have Ab:=(List.getElem?_eq_some_iff.1 h1).1;have Bu:∀(m:Nat) v,ns[m]?=some v->(ns.reverse.map wdR)[ns.length-1-m]?.getD []=[.str (bs v)]:=fun m v hv=>by
  have hm:=(List.getElem?_eq_some_iff.1 hv).1;rw[List.getElem?_map,List.getElem?_reverse (by omega),show ns.length-1-(ns.length-1-m)=m by omega,hv];rfl
 have Ag:(ns.reverse.map wdR).length=ns.length:=by simp
 refine (Ap (out:=.ret (.agg true [.int .i64 2,.int .i64 n,.int .i64 0,.int .i64 0,.nils])) mixed Tryz.func149 tr149 ?_).weaken (Ms _ _ _ _);unfold rdR nmV;have Nm:(ns.length<=140737488355328)=True:=by simp;omega
 have ew:IntKind.i64.wrap ((ns.length:Int)-1)=(ns.length:Int)-1-(0:Nat):=by rw[w64 (by unfold fit;omega)];omega
 generalize ns.reverse.map wdR=R at *
 simp only[go_sem,seval,Ag,Nm,forall_const];rw[ew];refine Je (fun x=>⟨(.gp 0 0::.J::.ref 1 0 0 0::.int .i64 ((ns.length:Int)-1-x)::.J::.J::.J::.J::.J::.J::.J::.J::.J::.J::.J::.J::.J::.J::.J::.J::.J::.J::.J::.J::.J::.J::.J::.J::.J::.J::.J::.J::.J::.J::.J::.J::.J::.J::.J::.J::.J::.J::.J::.J::.J::.J::.J::.J::.J::.J::.J::.J::.J::.J::.J::.J::[]),[gOb ([.dsl 3 (L.map Ex),.int .i64 k,.int .i64 e,.dsl 1 R,.int .i64 i,.int .i64 j,.bool false,.int .i64 0]::G),⟨true,5,[[.int .i64 0,.int .i64 0,.int .i64 0,.int .i64 0,.nils]],0,0,true⟩]⟩) n (fun x hx=>?_) ?_
 ·have hq:ns.length-1-x<ns.length:=by omega
  have eI:(ns.length:Int)-1-x=((ns.length-1-x:Nat):Int):=by omega
  have e0:(0:Int)<=((ns.length-1-x:Nat):Int):=by omega
  have e1:((ns.length-1-x:Nat):Int)<(ns.length:Int):=by omega
  have eg:((ns.length-1-x:Nat):Int) >= 0:=e0;rw[eI]
  by_cases Yk:x<n
  ·obtain⟨v,h3,h4⟩:=h2 x Yk;simp only[go_sem,seval,a1,a2,a3,a4,a8,a9,a10,forall_const,q_g,decide_eq_true eg,e0,e1,hq,Ag,Nm,Bu x v h3,h4,w64 (show fit (((ns.length-1-x:Nat):Int)-1) by unfold fit;omega)];refine⟨Yk,?_⟩;rw[show ((ns.length-1-x:Nat):Int)-1=(ns.length:Int)-1-((x+1:Nat):Int) by omega];exact Au (by simp[An])
  ·have:x=n:=by omega
   subst this;simp only[go_sem,seval,a1,a2,a3,a4,a6,a8,a9,a10,forall_const,q_g,decide_eq_true eg,e0,e1,hq,Ag,Nm,Bu x t.w h1,beq_self_eq_true,w64 (show fit ((ns.length:Int)-1) by unfold fit;omega),show (ns.length:Int)-1-((ns.length-1-x:Nat):Int)=(x:Int) by omega,w64 (show fit (x:Int) by unfold fit;omega)]
 ·exact Au (by simp[An])
mutual
def LT.tm(i j:Nat):LT->Tm
 |.var n=>vT n
 |.nd k a b n l=>.mk k (a.ev i j:Nat) (b.ev i j:Nat) n (LT.tms i j l)
def LT.tms(i j:Nat):List LT->List Tm
 |[]=>[]
 |t::l=>LT.tm i j t::LT.tms i j l
end
theorem Af6(i j:Nat):∀l:List LT,LT.tms i j l=l.map (LT.tm i j):=by
 intro l
 induction l with
 |nil=>rfl
 |cons t l ih=>rw[LT.tms,ih];rfl
section
variable{T:TF}{ns:List By}{k:Nat}{c:UInt8}{x y:Acc}{r r':List Tok}{s:By}{p:LT×List Tok}
theorem Bp(h:Fe T ns k (c::s) x r=some p):∃y r1,Kv T ns k c x r=some (y,r1)/\Fe T ns k s y r1=some p:=by
 rw[Fe] at h;split at h
 ·rename_i y r1 he;exact⟨y,r1,he,h⟩
 ·cases h
theorem Hn(h:Fe T ns k [] x r=some p):∃z r',r=z::r'/\z.k=2/\p=(.nd k x.a x.b x.n x.l,r'):=by
 rw[Fe] at h;obtain⟨q,r'⟩:=p;obtain⟨z,h1,h2,h3⟩:=Of h;exact⟨z,r',h1,h2,by rw[h3]⟩
theorem Oz(h:Kv T ns k c x r=some (y,r'))(hc:c=120\/c=121\/c=101):∃u,r=u::r'/\u.k=3/\y={ x with bd:=u.w::x.bd }:=by
 unfold Kv at h;have e:c.toNat≠76/\c.toNat≠77/\c.toNat≠83/\c.toNat≠116/\¬(c.toNat=98\/c.toNat=80):=by rcases hc with rfl|rfl|rfl<;>decide
 rw[if_neg e.1,if_neg e.2.1,if_neg e.2.2.1,if_neg e.2.2.2.1,if_neg e.2.2.2.2] at h
 match r,h with
 |[],h=>cases h
 |⟨k,w,q⟩::r1,h=>
  dsimp only at h;split at h
  ·rename_i hk;cases h;exact⟨_,rfl,hk,rfl⟩
  ·cases h
theorem Dr(h:Kv T ns k 116 x r=some (y,r')):∃a,T ns r=some (a,r')/\y={ x with l:=x.l++[a] }:=by
 unfold Kv at h;rw[if_neg (by decide),if_neg (by decide),if_neg (by decide),if_pos (by decide)] at h;cases ht:T ns r with
 |none=>rw[ht] at h;cases h
 |some q=>
  rw[ht] at h;cases h;exact⟨_,rfl,rfl⟩
theorem Sa(h:Kv T ns k c x r=some (y,r'))(hc:c=98\/c=80):ns≠[]/\∃a,T (x.bd++ns) r=some (a,r')/\y={ x with l:=x.l++[a] }:=by
 unfold Kv at h;have e:c.toNat≠76/\c.toNat≠77/\c.toNat≠83/\c.toNat≠116/\(c.toNat=98\/c.toNat=80):=by rcases hc with rfl|rfl<;>decide
 rw[if_neg e.1,if_neg e.2.1,if_neg e.2.2.1,if_neg e.2.2.2.1,if_pos e.2.2.2.2] at h;split at h
 ·cases h
 ·rename_i hn;cases ht:T (x.bd++ns) r with
  |none=>rw[ht] at h;cases h
  |some q=>
   rw[ht] at h;cases h;exact⟨by simpa using hn,_,rfl,rfl⟩
theorem Aar(h:Kv T ns k 76 x r=some (y,r')):∃a,Pb r=some (a,r')/\y={ x with a:=a }:=by
 unfold Kv at h;rw[if_pos (by decide)] at h;cases ht:Pb r with
 |none=>rw[ht] at h;cases h
 |some q=>
  rw[ht] at h;cases h;exact⟨_,rfl,rfl⟩
theorem Ak6(h:Kv T ns k 77 x r=some (y,r')):∃b r1 l,Pb r=some (b,r1)/\Mt T ns (arN x.n) r1=some (l,r')/\y={ x with b:=b,l:=l }:=by
 unfold Kv at h;rw[if_neg (by decide),if_pos (by decide)] at h;cases ht:Pb r with
 |none=>rw[ht] at h;cases h
 |some q=>
  rw[ht] at h;dsimp only at h;cases hm:Mt T ns (arN x.n) q.2 with
  |none=>rw[hm] at h;cases h
  |some l=>
   rw[hm] at h;cases h;exact⟨_,_,_,rfl,hm,rfl⟩
theorem Ak7(h:Kv T ns k 83 x r=some (y,r')):∃u n,r=u::r'/\u.k=3/\Jt u.w symsL=some n/\y={ x with n:=n+1 }:=by
 unfold Kv at h;rw[if_neg (by decide),if_neg (by decide),if_pos (by decide)] at h
 match r,h with
 |[],h=>cases h
 |⟨k,w,q⟩::r1,h=>
  dsimp only at h;split at h
  ·rename_i hk;cases hn:Jt w symsL with
   |none=>rw[hn] at h;cases h
   |some n=>
    rw[hn] at h;cases h;exact⟨_,_,rfl,hk,hn,rfl⟩
  ·cases h
end
def NmP(nm:SV)(ns:List By):Prop:=(nm=.nils/\ns=[])\/nm=nmV ns
def NG(G:GV):Prop:=∀r∈G,∀x∈r,NoG x
theorem NG.nil:NG []:=fun r hr=>by cases hr
theorem NG.app{G D:GV}(h:NG G)(k:NG D):NG (G++D):=fun r hr=>(List.mem_append.1 hr).elim (h r) (k r)
theorem NG.cons{r:List SV}{D:GV}(h:∀x∈r,NoG x)(k:NG D):NG (r::D):=fun q hq=>by
 rcases List.mem_cons.1 hq with rfl|hq
 ·exact h
 ·exact k q hq
theorem A8p(l:List By):NoG (.dsl 1 (l.map wdR)):=.dsl _ _ (fun x hx=>by
 obtain⟨r,hr,hx⟩:=List.mem_flatten.1 hx;obtain⟨w,_,rfl⟩:=List.mem_map.1 hr;simp only[wdR,List.mem_singleton] at hx;subst hx;exact .str _)
theorem NmP.noG{nm:SV}{ns:List By}(h:NmP nm ns):NoG nm:=by
 rcases h with⟨rfl,_⟩|rfl
 ·exact .nils
 ·exact A8p _
theorem A8m{L:List Tok}{k e i j:Nat}{nm:SV}(h:NoG nm):∀x∈rdR L k e nm i j,NoG x:=by
 intro x hx;simp only[rdR,List.mem_cons,List.not_mem_nil,or_false] at hx;rcases hx with rfl|rfl|rfl|rfl|rfl|rfl|rfl|rfl
 ·refine .dsl _ _ (fun x hx=>?_);obtain⟨r,hr,hx⟩:=List.mem_flatten.1 hx;obtain⟨t,_,rfl⟩:=List.mem_map.1 hr;simp only[Ex,List.mem_cons,List.not_mem_nil,or_false] at hx;rcases hx with rfl|rfl|rfl
  ·exact .int _ _
  ·exact .str _
  ·exact .int _ _
 ·exact .int _ _
 ·exact .int _ _
 ·exact h
 ·exact .int _ _
 ·exact .int _ _
 ·exact .bool _
 ·exact .int _ _
def TC(T:TF)(b:Nat):Prop:=∀(ns:List By) (ts r:List Tok) (lt:LT),T ns ts=some (lt,r)->ns.length+b<1000000->∀(L:List Tok) (k e i j:Nat) (nm:SV) (G:GV) (want:Int),L.length<1000000000000->i<1000->j<1000->(want=0\/want=2)->NmP nm ns->NG G->L.drop k=ts ->
 ∃k' Δ,L.drop k'=r/\NG Δ/\Ad 139 (rdR L k e nm i j::G) [.gp 0 0,.int .i64 want] (.ret (.agg true (tv (lt.tm i j)))) (rdR L k' e nm i j::(G++Δ))
def LC(k:Nat)(s:By)(L:List Tok)(k0 e i j:Nat)(nm:SV)(G:GV)(lt:LT)(r:List Tok):Prop:=
 ∃k' Δ,L.drop k'=r/\NG Δ/\Ad 152 (rdR L k0 e nm i j::G) [.gp 0 0,.int .i64 k,.str (bs s)] (.ret (.agg true (tv (lt.tm i j)))) (rdR L k' e nm i j::(G++Δ))
end Go.Proofs.YtdpigpopcbjkmaaGreatDoor.Abs
