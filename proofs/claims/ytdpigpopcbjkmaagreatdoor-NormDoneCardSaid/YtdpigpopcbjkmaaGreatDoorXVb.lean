import Derived.Test.YtdpigpopcbjkmaaGreatDoorXPj
set_option linter.unusedSimpArgs false
set_option linter.unusedVariables false
set_option maxRecDepth 20000
set_option maxHeartbeats 4000000
namespace Go.Proofs.YtdpigpopcbjkmaaGreatDoor.Abs
open Go Go.RowKit Go.Proofs.YtdpigpopcbjkmaaGreatDoor
theorem Bhv{i j n w:Int}{l:List Tm}(h:Es (.mk 2 i j n l) w=true):l=[]:=by
 rw[Uy,Bool.and_eq_true] at h;have h1:=h.1;unfold Ic at h1;rw[Bool.and_eq_true,Bool.and_eq_true] at h1;have h2:=h1.2.1;have hk:Bh 2 n=0:=by unfold Bh;rfl
 rw[hk] at h2;simp only[Bool.not_eq_true',bne_eq_false_iff_eq] at h2;cases l with
 |nil=>rfl
 |cons x l=>simp at h2;omega
theorem Av6(u:Tm)(hu:TOk u)(hp:Cb u=true)(hh:(2:Int)*Ks u<=1000000000000)(i j n d w:Int)(b:Bool)(l:List Tm)(hr:Es (.mk 2 i j n l) w=true)(hi:0<=i/\i<=2147483647)(hd:0<=d) :
  Con 114 [.agg true (tv (.mk 2 i j n l)),.agg true (tv u),.int .i64 d,.bool b] (Di ((Ht u d (.mk 2 i j n l)).map tv)):=by
 have hl:=Bhv hr;subst hl;have Cp:=Af u
 by_cases h1:i=d
 ·subst h1;have hc:=Ahx u hu hp i hd b hh;rw[Afn ⟨rfl,Int.le_refl _⟩,if_pos rfl];refine Al mixed Tryz.func114 tr114 ?_;rw[Am];simp only[go_sem,seval,Cp];refine Aa hc ?_;cases Hr i 0 u with
  |none=>
   have hz:=Af zT;simp only[go_sem,seval,Di,Option.map_none,hz]
  |some v=>
   have hz:=Af v;simp only[go_sem,seval,Di,Option.map_some,hz]
 ·have q1:(i==d)=false:=by simp[h1]
  by_cases h2:d<i
  ·rw[Afn ⟨rfl,by omega⟩,if_neg h1];have ew:IntKind.i64.wrap (i-1)=i-1:=w64 (by unfold fit;omega);have hle:=Alo 2 (i-1) 0 0;rw[Option.map_some,show tv (vr (i-1))=[.int .i64 2,.int .i64 (i-1),.int .i64 0,.int .i64 0,.dsl 5 []] from by simp[vr,Am]];refine (Al mixed Tryz.func114 tr114 ?_).weaken hle;rw[Am];simp only[go_sem,seval,Cp,q1,h2,ew]
  ·rw[Abj (fun h=>by omega),Ce,Option.map_some,Option.map_some];have hz:=Af (.mk 2 i j n []);rw[Am] at hz;refine Al mixed Tryz.func114 tr114 ?_;rw[Am];simp only[go_sem,seval,Di,Cp,q1,h2]
theorem Av4(u:Tm)(hu:TOk u)(hp:Cb u=true)(hh:(2:Int)*Ks u<=1000000000000)(t:Tm):TOk t->∀(w d:Int) (b:Bool),Es t w=true->0<=d->d+2*Ks t<=1000000000000 ->
  Con 114 [.agg true (tv t),.agg true (tv u),.int .i64 d,.bool b] (Di ((Ht u d t).map tv)):=by
 induction t using Tm.ind with
 |h kk i j n l ih=>
  intro hok w d b hr hd Ef;cases hok with
  |mk _ _ _ _ _ f1 f2 f3 f4 hb hl=>
  rw[Ad4] at Ef
  by_cases hv:kk=2
  ·have hi:=Abp hr hv;subst hv;exact Av6 u hu hp hh i j n d w b l hr hi hd
  ·have h:=Av5 kk i j n d b u (l.map tv) (fun p r=>onT (fun t=>(Ht u (d+Bn kk (p:Nat)) t).map tv) none r) (by simpa using hb) (rows5 l) hv hd (by omega)
    (fun p r hr u hu=>by
     obtain⟨t,ht,rfl⟩:=List.mem_map.1 hr;simp only[Jg] at hu;cases he:Ht _ (d+Bn kk (p:Nat)) t with
     |none=>rw[he] at hu;cases hu
     |some v=>rw[he] at hu;cases hu;exact Af v)
    (fun p r Fz b'=>by
     obtain⟨t,ht,rfl⟩:=List.mem_map.1 Fz;simp only[Jg];obtain⟨w',hw⟩:=Xb hr ht;have hm:=Akc ht;have hbl:=Nb kk p;exact ih t ht (hl t ht) w' _ b' hw (by omega) (by omega))
   rw[Bdo (fun h=>hv h.1),<-Am] at h;exact h
def Abi(u t:Tm):Tm:=(Ht u 0 t).getD zT
theorem Ahz(t u:Tm)(ht:TOk t)(hu:TOk u)(hpt:Cb t=true)(hpu:Cb u=true):Con 113 [.agg true (tv t),.agg true (tv u)] (.bool true):=by
 have h1:=q9 u hu hpu;have h2:=Vr t ht;rw[hpt] at h2;have hz:=Af t;have Cp:=Af u;have h0:=tv_0 (t:=t);refine Al mixed Tryz.func113 tr113 ?_;cases Ry:(t.k==1)<;>cases Dr:(t.k==2)
 all_goals
  simp only[go_sem,seval,hz,Cp,h0];refine Aa h1 ?_;simp only[go_sem,seval,hz,Cp,h0,Ry,Dr]
  try (refine Aa h2 ?_;simp only[go_sem,seval,hz,Cp,h0,Ry,Dr])
theorem Avi(t u:Tm)(ht:TOk t)(hu:TOk u)(hpt:Cb t=true)(hpu:Cb u=true)(Gv:Ks t<=100000000)(Qm:Ks u<=100000000) :
  Con 95 [.agg true (tv t),.agg true (tv u)] (.agg true (tv (Abi u t))):=by
 have h1:=q9 t ht hpt;have h3:=Ahz t u ht hu hpt hpu;have h2:=Av4 u hu hpu (by omega) t ht 2 0 false hpt (by omega) (by omega);have hz:=Af t;have Cp:=Af u;unfold Abi;cases hp:Ht u 0 t with
 |none=>
  rw[hp] at h2;refine (Al (r:=.agg true [.int .i64 0,.int .i64 0,.int .i64 0,.int .i64 0,.nils]) mixed Tryz.func95 tr95 ?_).weaken Alq;have Hp:=Af zT;simp only[go_sem,seval,hz,Cp];refine Aa h1 ?_;simp only[go_sem,seval,hz,Cp];refine Aa h3 ?_;simp only[go_sem,seval,hz,Cp];refine Aa h2 ?_;simp only[go_sem,seval,Di,Option.map_none,Hp]
 |some v=>
  rw[hp] at h2;have Hp:=Af v;refine Al mixed Tryz.func95 tr95 ?_;simp only[go_sem,seval,hz,Cp];refine Aa h1 ?_;simp only[go_sem,seval,hz,Cp];refine Aa h3 ?_;simp only[go_sem,seval,hz,Cp];refine Aa h2 ?_;simp only[go_sem,seval,Di,Option.map_some,Hp,Option.getD_some]
section
variable{v v1 v2:Nat->Nat->Tm}{f f1 f2:Nat->Int->Tm}
theorem Mx(c1 c2:Nat)(hv:∀b i,trT v2 f2 (b+c2) (v1 (b+c1) i)=v b i)(hf:∀b l,trT v2 f2 (b+c2) (f1 (b+c1) l)=f b l)(t:Tm):∀b,trT v2 f2 (b+c2) (trT v1 f1 (b+c1) t)=trT v f b t:=by
 induction t using Tm.ind with
 |h k i j n l ih=>
  intro b
  by_cases h2:k=2
  ·subst h2;rw[Rb,Rb,hv]
  by_cases h0:k=0
  ·subst h0;rw[So,So,hf]
  rw[Fe h2 h0,Fe h2 h0,Fe h2 h0];congr 1;apply List.ext_getElem?;intro q;rw[Ep,Ep,Ep,Option.map_map];cases hq:l[q]? with
  |none=>rfl
  |some t=>
   simp only[Option.map_some,Function.comp];rw[show b+c1+bnd k (0+q)=b+bnd k (0+q)+c1 by omega,show b+c2+bnd k (0+q)=b+bnd k (0+q)+c2 by omega,ih t (List.mem_of_getElem? hq)]
theorem Ao6{B:Nat}{t:Tm}(h:Sf B t):∀{c:Nat},(∀b i,i<B+(b-c)->c<=b->v1 b i=v2 b i)->trT v1 f1 c t=trT v2 f2 c t:=by
 induction h with
 |@var B i h=>intro c hv;rw[Cm,Cm];exact hv c i (by omega) (Nat.le_refl _)
 |@nd B k i j n l h2 h0 hf hl _ ih=>
  intro c hv;rw[Fe h2 h0,Fe h2 h0];congr 1;apply List.ext_getElem?;intro q;rw[Ep,Ep];cases hq:l[q]? with
  |none=>rfl
  |some t=>
   simp only[Option.map_some,Nat.zero_add];rw[ih q t hq (fun b i h1 h2=>hv b i (by omega) (by omega))]
theorem Afv{B:Nat}{t:Tm}(h:Sf B t):∀{b c:Nat},(∀b' i,b<=b'->i<B+(b'-b)->Sf (c+(b'-b)) (v b' i))->Sf c (trT v f b t):=by
 induction h with
 |@var B i h=>intro b c hv;rw[Cm];simpa using hv b i (Nat.le_refl _) (by omega)
 |@nd B k i j n l h2 h0 hf hl _ ih=>
  intro b c hv;rw[Fe h2 h0];refine .nd i j n h2 h0 hf (by rw[Kl];exact hl) (fun p t ht=>?_);rw[Ep,Nat.zero_add] at ht;cases hq:l[p]? with
  |none=>rw[hq] at ht;cases ht
  |some u=>
   rw[hq,Option.map_some,q_b] at ht;subst ht;refine ih p u hq (fun b' i hb hi=>?_);have:=hv b' i (by omega) (by omega)
   rwa [show c+(b'-b)=c+bnd k p+(b'-(b+bnd k p)) by omega] at this
end
def lfv(k:Nat)(b i:Nat):Tm:=if i<b then vT i else vT (i+k)
def Eo(k:Nat)(t:Tm):Tm:=trT (lfv k) (fun _ l=>fT l) 0 t
def ptv(u:Tm)(b i:Nat):Tm:=if i<b then vT i else if i=b then Eo b u else vT (i-1)
def Ip(u t:Tm):Tm:=trT (ptv u) (fun _ l=>fT l) 0 t
def alv(l:List Tm)(b i:Nat):Tm:=if i<b then vT i else Eo b (l.getD (i-b) (vT 0))
def Hx(l:List Tm)(t:Tm):Tm:=trT (alv l) (fun _ l=>fT l) 0 t
def lvv(d:Nat)(b i:Nat):Tm:=if i<b then vT i else fT ((d:Int)-1-((i-b:Nat):Int))
def lvB(d b:Nat)(t:Tm):Tm:=trT (lvv d) (fun _ l=>fT l) b t
def lv(d:Nat)(t:Tm):Tm:=lvB d 0 t
theorem lv_0(t:Tm):lv 0 t=Ao [] 0 t:=by
 refine Bg4 (b0:=0) (fun b i _=>?_) (fun _ _ _=>rfl) t 0 (Nat.le_refl _);unfold lvv ivI;split
 ·rfl
 ·simp only[List.getElem?_nil,List.length_nil];congr 1;omega
theorem Wr{k:Int}(h2:k≠2)(h0:k≠0)(d b:Nat)(i j n:Int)(l:List Tm):lvB d b (.mk k i j n l)=.mk k i j n (trL (lvv d) (fun _ l=>fT l) b k 0 l):=Fe h2 h0 b i j n l
theorem Amj(d b:Nat)(u:Tm):lvB d b (Eo b u)=lv d u:=by
 have:=Mx (v1:=lfv b) (f1:=fun _ l=>fT l) (v2:=lvv d) (f2:=fun _ l=>fT l) (v:=lvv d) (f:=fun _ l=>fT l) 0 b (fun b' i=>?_) (fun b' l=>Hh _ _) u 0
 ·simpa [lvB,Eo,lv] using this
 ·rw[Nat.add_zero];unfold lfv lvv
  by_cases h:i<b'
  ·rw[if_pos h,Cm,if_pos (by omega),if_pos h]
  ·rw[if_neg h,Cm,if_neg (by omega),if_neg h];congr 2;omega
theorem Bdr(d:Nat)(u t:Tm):lv d (Ip u t)=Ao [lv d u] 0 (lvB d 1 t):=by
 have h1:=Mx (v1:=ptv u) (f1:=fun _ l=>fT l) (v2:=lvv d) (f2:=fun _ l=>fT l) (v:=fun b i=>if i<b then vT i else if i=b then lv d u else fT ((d:Int)-1-((i-1-b:Nat):Int))) (f:=fun _ l=>fT l) 0 0 (fun b i=>?_) (fun b l=>Hh _ _) t 0
 ·have h2:=Mx (v1:=lvv d) (f1:=fun _ l=>fT l) (v2:=ivI [lv d u]) (f2:=fun _ l=>fT l) (v:=fun b i=>if i<b then vT i else if i=b then lv d u else fT ((d:Int)-1-((i-1-b:Nat):Int))) (f:=fun _ l=>fT l) 1 0 (fun b i=>?_) (fun b l=>Hh _ _) t 0
  ·simp only[Nat.add_zero,Nat.zero_add] at h1 h2;exact h1.trans h2.symm
  ·rw[Nat.add_zero];unfold lvv ivI
   by_cases h:i<b
   ·rw[if_pos (by omega),Cm,if_pos h,if_pos h]
   ·by_cases h':i=b
    ·subst h';rw[if_pos (by omega),Cm,if_neg h,if_neg h,if_pos rfl,Nat.sub_self];rfl
    ·rw[if_neg (by omega),Hh,if_neg h,if_neg h'];congr 2;omega
 ·simp only[Nat.add_zero];unfold ptv
  by_cases h:i<b
  ·rw[if_pos h,Cm,if_pos h];unfold lvv;rw[if_pos h]
  ·rw[if_neg h,if_neg h]
   by_cases h':i=b
   ·subst h';rw[if_pos rfl,if_pos rfl];exact Amj d i u
   ·rw[if_neg h',if_neg h',Cm];unfold lvv;rw[if_neg (by omega)]
theorem Ap4(d:Nat)(l:List Tm){t:Tm}(ht:Sf l.length t):lv d (Hx l t)=Ao (l.map (lv d)) 0 t:=by
 have h1:=Mx (v1:=alv l) (f1:=fun _ l=>fT l) (v2:=lvv d) (f2:=fun _ l=>fT l) (v:=fun b i=>if i<b then vT i else lv d (l.getD (i-b) (vT 0))) (f:=fun _ l=>fT l) 0 0 (fun b i=>?_) (fun b l=>Hh _ _) t 0
 ·simp only[Nat.add_zero] at h1;refine h1.trans (Ao6 ht (fun b i hi hb=>?_));unfold ivI;split
  ·rfl
  ·have Ab:i-b<l.length:=by omega
   rw[List.getElem?_map,q_f Ab,List.getD_eq_getElem?_getD,q_f Ab];rfl
 ·simp only[Nat.add_zero];unfold alv
  by_cases h:i<b
  ·rw[if_pos h,Cm,if_pos h];unfold lvv;rw[if_pos h]
  ·rw[if_neg h,if_neg h];exact Amj d b _
theorem A1u(d n q:Nat):(Gs d n)[q]?=if q<n then some (fT ((d+n-1-q:Nat):Int)) else none:=by
 induction n generalizing q with
 |zero=>simp[Gs]
 |succ n ih=>
  cases q with
  |zero=>simp[Gs]
  |succ q=>
   rw[Gs,List.getElem?_cons_succ,ih]
   by_cases h:q<n
   ·rw[if_pos h,if_pos (by omega),show d+n-1-q=d+(n+1)-1-(q+1) by omega]
   ·rw[if_neg h,if_neg (by omega)]
theorem Bam(d b:Nat)(t:Tm):Ao (Gs d b) 0 (lvB d b t)=lv (d+b) t:=by
 have h:=Mx (v1:=lvv d) (f1:=fun _ l=>fT l) (v2:=ivI (Gs d b)) (f2:=fun _ l=>fT l) (v:=lvv (d+b)) (f:=fun _ l=>fT l) b 0 (fun b' i=>?_) (fun b l=>Hh _ _) t 0
 ·simpa [lvB,lv,Ao] using h
 ·rw[Nat.add_zero];unfold lvv ivI
  by_cases h:i<b'
  ·rw[if_pos (by omega),Cm,if_pos h,if_pos h]
  ·by_cases h':i<b'+b
   ·rw[if_pos h',Cm,if_neg h,if_neg h,A1u,if_pos (by omega)];simp only;congr 1;omega
   ·rw[if_neg h',Hh,if_neg h];congr 1;omega
theorem Acp{v:Nat->Nat->Tm}{f:Nat->Int->Tm}{b:Nat}{k:Int}{X:Nat->Tm->Option Tm}:∀{l:List Tm} {p:Nat},(∀(q:Nat) t,l[q]?=some t->X (p+q) t=some (trT v f (b+bnd k (p+q)) t))->Ce X p l=some (trL v f b k p l):=by
 intro l
 induction l with
 |nil=>intro p _;rw[trL];rfl
 |cons t l ih=>
  intro p h;have h0:=h 0 t rfl;rw[Nat.add_zero] at h0;rw[Ce,h0,trL,ih (p:=p+1) (fun q t ht=>by have:=h (q+1) t (by simpa using ht);rwa [show p+(q+1)=p+1+q by omega] at this)]
theorem Amh{B k:Nat}{t:Tm}(h:Sf B t):∀{fr:Nat},B+dpt t+k<=2147483647->Hr (k:Int) (fr:Int) t=some (trT (lfv k) (fun _ l=>fT l) fr t):=by
 induction h with
 |@var B i h=>
  intro fr hb;rw[Cm,vT,Afa];unfold Pd lfv
  by_cases hi:fr<=i
  ·rw[if_pos ⟨rfl,by omega⟩,if_neg (by omega),if_neg (by omega)];simp[Ce,vT]
  ·rw[if_neg (by omega),if_pos (by omega)];simp[Ce,vT]
 |@nd B k' i j n l h2 h0 hf hl hk ih=>
  intro fr hb;rw[Fe h2 h0,Afa];unfold Pd;rw[if_neg (fun c=>h2 c.1)];simp only[Option.bind_some];rw[Acp (v:=lfv k) (f:=fun _ l=>fT l) (b:=fr) (k:=k') (fun q t ht=>?_)]
  ·rfl
  ·rw[Vk,Nat.zero_add,<-Int.natCast_add];have:=Jy (k:=k') (i:=i) (j:=j) (n:=n) ht;exact ih q t ht (by omega)
theorem Bdn{B C:Nat}{t u:Tm}(h:Sf B t)(hu:Sf C u):∀{d:Nat},C+dpt u+(d+dpt t)<=2147483647->Ht u (d:Int) t=some (trT (ptv u) (fun _ l=>fT l) d t):=by
 induction h with
 |@var B i h=>
  intro d hb;rw[Cm];unfold ptv
  by_cases h1:i<d
  ·rw[if_pos h1,vT,Abj (by omega)];simp[Ce]
  ·rw[if_neg h1];unfold vT;rw[Afn ⟨rfl,by omega⟩]
   by_cases h2:i=d
   ·subst h2;rw[if_pos rfl,if_pos rfl];exact Amh (fr:=0) hu (by omega)
   ·rw[if_neg (by omega),if_neg h2,vr,show ((i-1:Nat):Int)=(i:Int)-1 by omega]
 |@nd B k' i j n l h2 h0 hf hl hk ih=>
  intro d hb;rw[Fe h2 h0,Abj (fun c=>h2 c.1),Acp (v:=ptv u) (f:=fun _ l=>fT l) (b:=d) (k:=k') (fun q t ht=>?_)]
  ·rfl
  ·rw[Vk,Nat.zero_add,<-Int.natCast_add];have:=Jy (k:=k') (i:=i) (j:=j) (n:=n) ht;exact ih q t ht (by omega)
def Az(B:BT)(t:Tm):Option Tm:=
 if t.k=15/\(Aj t 0).k=14 then some (Ip (Aj t 1) (Aj (Aj t 0) 1))
 else if t.k=18/\(Aj t 0).k=17 then some (Aj (Aj t 0) 2)
 else if t.k=19/\(Aj t 0).k=17 then some (Aj (Aj t 0) 3)
 else if t.k=22/\(Aj t 5).k=21 then some (Aj t 3)
 else if t.k=23 then (B t.n t.i t.j).map (fun b=>Hx t.kids.reverse b) else none
theorem axP(B:BT):Ax (Az B):=by
 refine⟨fun t u h=>?_⟩;unfold Az at h;unfold isV stk;split at h
 ·rename_i c;exact .inr ⟨0,by rw[if_pos (by omega)],by omega⟩
 split at h
 ·rename_i c;exact .inr ⟨0,by rw[if_pos (by omega)],by omega⟩
 split at h
 ·rename_i c;exact .inr ⟨0,by rw[if_pos (by omega)],by omega⟩
 split at h
 ·rename_i c;exact .inr ⟨5,by rw[if_neg (by omega),if_pos (by omega)],by omega⟩
 split at h
 ·rename_i c;exact .inl c
 ·cases h
def Fs(B:BT):Prop:=∀n i j b,B n i j=some b->Sf (Bh 23 n).toNat b
section
variable{B:BT}{C d:Nat}
theorem Id{C:Nat}{t:Tm}(h:Sf C t){p:Nat}(hp:p<t.kids.length):Sf (C+bnd t.k p) (Aj t p):=by
 cases t with
 |mk k i j n l=>
  have hp':p<l.length:=hp;have hl:l[p]?=some l[p]:=q_f hp';have:Aj (.mk k i j n l) p=l[p]:=by unfold Aj;rw[show (Tm.mk k i j n l).kids=l from rfl,List.getD_eq_getElem?_getD,hl];rfl
  rw[this];exact h.kid hl
theorem sf_k{C:Nat}{t:Tm}(h:Sf C t):t.k≠0:=by
 cases h with
 |var h=>exact k_ne (by decide)
 |nd _ _ _ _ h0=>exact h0
theorem Hu{C:Nat}{t:Tm}(h:Sf C t)(h2:t.k≠2):(t.kids.length:Int)=Bh t.k t.n:=by
 cases t with
 |mk k i j n l=>exact (h.node h2).2.2
theorem lv_k{t:Tm}(h:Sf C t)(h2:t.k≠2):(lv d t).k=t.k/\(lv d t).i=t.i/\(lv d t).j=t.j/\(lv d t).n=t.n/\(lv d t).kids.length=t.kids.length:=by
 have h0:=sf_k h;cases t with
 |mk k i j n l=>
  unfold lv;rw[Wr (show k≠2 from h2) (show k≠0 from h0)];exact⟨rfl,rfl,rfl,rfl,Kl _ _ _ _⟩
theorem Aa6{t:Tm}(h:Sf C t)(h2:t.k=2):∃i:Nat,t=vT i/\lv d t=fT ((d:Int)-1-i):=by
 cases t with
 |mk k i j n l=>
  have:k=2:=h2;subst this;obtain⟨q,rfl,rfl,rfl,rfl,_⟩:=h.vr;refine⟨q,rfl,?_⟩;show lv d (vT q)=_;unfold lv lvB;rw[Cm,lvv,if_neg (by omega),Nat.sub_zero]
theorem Oa{t:Tm}(h:Sf C t)(h2:t.k≠2){p:Nat}(hp:p<t.kids.length):Aj (lv d t) p=lvB d (bnd t.k p) (Aj t p):=by
 have h0:=sf_k h;cases t with
 |mk k i j n l=>
  have hp':p<l.length:=hp;unfold lv;rw[Wr (show k≠2 from h2) (show k≠0 from h0)];unfold Aj;simp only[Tm.kids,Tm.k,List.getD_eq_getElem?_getD];rw[Ep,q_f hp'];simp only[Option.map_some,Option.getD_some,Nat.zero_add];rfl
theorem Aa5{t:Tm}(h:Sf C t)(h2:t.k≠2){p:Nat}(hp:p<t.kids.length)(hb:bnd t.k p=0){c:Int}(hc:c≠0/\c≠2):((Aj (lv d t) p).k=c↔(Aj t p).k=c):=by
 rw[Oa h h2 hp,hb];have hs:=Id h hp;rw[hb,Nat.add_zero] at hs
 by_cases hk:(Aj t p).k=2
 ·obtain⟨i,e1,e2⟩:=Aa6 (d:=d) hs hk;rw[show lvB d 0 (Aj t p)=lv d (Aj t p) from rfl,e2,hk];constructor
  ·intro e;exact absurd e.symm hc.1
  ·intro e;exact absurd e.symm hc.2
 ·rw[show lvB d 0 (Aj t p)=lv d (Aj t p) from rfl,(lv_k (d:=d) hs hk).1]
theorem Bba{t:Tm}(h:t.k=15):plD B t=if (Aj t 0).k=14 then some (Ao [Aj t 1] 0 (Aj (Aj t 0) 1)) else none:=by simp[plD,plW,h]
theorem Bbb{t:Tm}(h:t.k=18):plD B t=if (Aj t 0).k=17 then some (Aj (Aj t 0) 2) else none:=by simp[plD,plW,h]
theorem Bbc{t:Tm}(h:t.k=19):plD B t=if (Aj t 0).k=17 then some (Aj (Aj t 0) 3) else none:=by simp[plD,plW,h]
theorem Bbd{t:Tm}(h:t.k=22):plD B t=if (Aj t 5).k=21 then some (Aj t 3) else none:=by simp[plD,plW,h]
theorem Bbe{t:Tm}(h:t.k=23):plD B t=(B t.n t.i t.j).map (fun b=>Ao t.kids.reverse 0 b):=by simp[plD,h]
theorem Anl{t:Tm}(h:t.k≠15/\t.k≠18/\t.k≠19/\t.k≠22/\t.k≠23):plD B t=none:=by simp[plD,plW,h]
theorem Qt{t:Tm}(h:t.k=15):Az B t=if (Aj t 0).k=14 then some (Ip (Aj t 1) (Aj (Aj t 0) 1)) else none:=by simp[Az,h]
theorem Qu{t:Tm}(h:t.k=18):Az B t=if (Aj t 0).k=17 then some (Aj (Aj t 0) 2) else none:=by simp[Az,h]
theorem Qv{t:Tm}(h:t.k=19):Az B t=if (Aj t 0).k=17 then some (Aj (Aj t 0) 3) else none:=by simp[Az,h]
theorem Qw{t:Tm}(h:t.k=22):Az B t=if (Aj t 5).k=21 then some (Aj t 3) else none:=by simp[Az,h]
theorem Qx{t:Tm}(h:t.k=23):Az B t=(B t.n t.i t.j).map (fun b=>Hx t.kids.reverse b):=by simp[Az,h]
theorem Jh{t:Tm}(h:t.k≠15/\t.k≠18/\t.k≠19/\t.k≠22/\t.k≠23):Az B t=none:=by simp[Az,h]
theorem Afk(hB:Fs B){t:Tm}(h:Sf C t):plD B (lv d t)=(Az B t).map (lv d):=by
 by_cases h2:t.k=2
 ·obtain⟨i,e1,e2⟩:=Aa6 (d:=d) h h2;rw[e2,Jh (by omega),Anl (by unfold fT;simp[Tm.k])];rfl
 have hl:=Hu h h2;obtain⟨a1,a2,a3,a4,a5⟩:=lv_k (d:=d) h h2
 by_cases Ed:t.k=15
 ·rw[Ed,kids15] at hl;have b0:bnd t.k 0=0:=by rw[Ed];decide
  have b1:bnd t.k 1=0:=by rw[Ed];decide
  have hk:=Aa5 (d:=d) (p:=0) h h2 (by omega) b0 (c:=14) (by decide);rw[Bba (a1.trans Ed),Qt Ed]
  by_cases c:(Aj t 0).k=14
  ·rw[if_pos (hk.2 c),if_pos c,Option.map_some];have Gb:=Id (p:=0) h (by omega);rw[b0,Nat.add_zero] at Gb;have Dm:=Hu Gb (by omega);rw[c,kids14] at Dm;rw[Bdr,Oa h h2 (by omega),Oa h h2 (by omega),b0,b1,show lvB d 0 (Aj t 0)=lv d (Aj t 0) from rfl,Oa Gb (by omega) (by omega),c];rfl
  ·rw[if_neg (fun e=>c (hk.1 e)),if_neg c];rfl
 by_cases Ew:t.k=18
 ·rw[Ew,kids18] at hl;have b0:bnd t.k 0=0:=by rw[Ew];decide
  have hk:=Aa5 (d:=d) (p:=0) h h2 (by omega) b0 (c:=17) (by decide);rw[Bbb (a1.trans Ew),Qu Ew]
  by_cases c:(Aj t 0).k=17
  ·rw[if_pos (hk.2 c),if_pos c,Option.map_some];have Gb:=Id (p:=0) h (by omega);rw[b0,Nat.add_zero] at Gb;have Dm:=Hu Gb (by omega);rw[c,kids17] at Dm;rw[Oa h h2 (by omega),b0,show lvB d 0 (Aj t 0)=lv d (Aj t 0) from rfl,Oa Gb (by omega) (by omega),c];rfl
  ·rw[if_neg (fun e=>c (hk.1 e)),if_neg c];rfl
 by_cases Ex:t.k=19
 ·rw[Ex,kids19] at hl;have b0:bnd t.k 0=0:=by rw[Ex];decide
  have hk:=Aa5 (d:=d) (p:=0) h h2 (by omega) b0 (c:=17) (by decide);rw[Bbc (a1.trans Ex),Qv Ex]
  by_cases c:(Aj t 0).k=17
  ·rw[if_pos (hk.2 c),if_pos c,Option.map_some];have Gb:=Id (p:=0) h (by omega);rw[b0,Nat.add_zero] at Gb;have Dm:=Hu Gb (by omega);rw[c,kids17] at Dm;rw[Oa h h2 (by omega),b0,show lvB d 0 (Aj t 0)=lv d (Aj t 0) from rfl,Oa Gb (by omega) (by omega),c];rfl
  ·rw[if_neg (fun e=>c (hk.1 e)),if_neg c];rfl
 by_cases Cy:t.k=22
 ·rw[Cy,kids22] at hl;have b5:bnd t.k 5=0:=by rw[Cy];decide
  have b3:bnd t.k 3=0:=by rw[Cy];decide
  have hk:=Aa5 (d:=d) (p:=5) h h2 (by omega) b5 (c:=21) (by decide);rw[Bbd (a1.trans Cy),Qw Cy]
  by_cases c:(Aj t 5).k=21
  ·rw[if_pos (hk.2 c),if_pos c,Option.map_some];rw[Oa h h2 (by omega),b3];rfl
  ·rw[if_neg (fun e=>c (hk.1 e)),if_neg c];rfl
 by_cases Bz:t.k=23
 ·rw[Bbe (a1.trans Bz),Qx Bz,a2,a3,a4];cases hb:B t.n t.i t.j with
  |none=>rfl
  |some b=>
   simp only[Option.map_some];congr 1;have hbs:=hB _ _ _ _ hb;rw[Bz] at hl;rw[Ap4 d (l:=t.kids.reverse) (t:=b) (by rw[List.length_reverse,show t.kids.length=(Bh 23 t.n).toNat by omega];exact hbs),List.map_reverse];congr 2;cases t with
   |mk k i j n l=>
    have hk:k=23:=Bz;subst hk;unfold lv;rw[Wr (by decide) (by decide)];simp only[Tm.kids];apply List.ext_getElem?;intro q;rw[Ep,List.getElem?_map,bnd23];rfl
 ·rw[Anl (by omega),Jh (by omega)];rfl
end
section
variable{B:BT}{C d:Nat}
theorem Bfm{t u:Tm}{p:Nat}(h:Sf C t)(h2:t.k≠2)(hu:Sf (C+bnd t.k p) u):Sf C (Bm t p u):=by
 have h0:=sf_k h;cases t with
 |mk k i j n l=>
  obtain⟨_,hf,hl⟩:=h.node h2;refine .nd i j n h2 h0 hf (by simp only[Tm.kids,List.length_set];exact hl) (fun q t ht=>?_);simp only[Tm.kids] at ht
  by_cases e:p=q
  ·subst e;have Ab:=Dh ht;rw[List.length_set] at Ab;rw[List.getElem?_set_self Ab,q_b] at ht;subst ht;exact hu
  ·rw[List.getElem?_set_ne e] at ht;exact h.kid ht
theorem Sl{t:Tm}(h:Sf C t){p:Nat}(hp:stk t.k=some p):t.k≠2/\t.k≠0/\p<t.kids.length/\bnd t.k p=0:=by
 have h1:=Ji hp;have h2:t.k≠2:=by omega
 have hl:=Hu h h2;refine⟨h2,by omega,?_,o7 hp⟩;unfold stk at hp;split at hp
 ·rename_i c;cases hp;rcases c with c|c|c<;>(rw[c] at hl;first|(rw[kids15] at hl;omega)|(rw[kids18] at hl;omega)|(rw[kids19] at hl;omega))
 ·split at hp
  ·rename_i c;cases hp;rw[c,kids22] at hl;omega
  ·cases hp
theorem A7t{t u:Tm}(h:Sf C t){p:Nat}(hp:stk t.k=some p):lv d (Bm t p u)=Bm (lv d t) p (lv d u):=by
 obtain⟨h2,h0,hl,hb⟩:=Sl h hp;cases t with
 |mk k i j n l=>
  have It:k≠2:=h2;have Lg:k≠0:=h0;have El:bnd k p=0:=hb;have Ot:p<l.length:=hl;unfold lv Bm;simp only[Tm.k,Tm.i,Tm.j,Tm.n,Tm.kids];rw[Wr It Lg,Wr It Lg];simp only[Tm.kids];congr 1;apply List.ext_getElem?;intro q;rw[Ep]
  by_cases e:p=q
  ·subst e;rw[List.getElem?_set_self Ot,List.getElem?_set_self (by rw[Kl];exact Ot),Option.map_some,Nat.zero_add,Nat.zero_add,El];rfl
  ·rw[List.getElem?_set_ne e,List.getElem?_set_ne e,Ep]
theorem A4r(hB:Fs B){t u:Tm}(hs:HS (Az B) t u):∀{C:Nat},Sf C t->HS (plD B) (lv d t) (lv d u):=by
 induction hs with
 |@here t u h=>intro C ht;exact .here (by rw[Afk hB ht,h];rfl)
 |@down t u p h hp hs ih=>
  intro C ht;obtain⟨h2,h0,hl,hb⟩:=Sl ht hp;have hk:=Id ht hl;rw[hb,Nat.add_zero] at hk;rw[A7t ht hp];refine .down (by rw[Afk hB ht,h];rfl) (by rw[(lv_k (d:=d) ht h2).1];exact hp) ?_;rw[Oa ht h2 hl,hb];exact ih hk
theorem Akn(hB:Fs B){t:Tm}(hn:HN (Az B) t):∀{C:Nat},Sf C t->HN (plD B) (lv d t):=by
 induction hn with
 |@mk t h hk ih=>
  intro C ht
  by_cases h2:t.k=2
  ·obtain⟨i,e1,e2⟩:=Aa6 (d:=d) ht h2;rw[e2];exact Sa _
  refine .mk (by rw[Afk hB ht,h];rfl) (fun p hp=>?_);rw[(lv_k (d:=d) ht h2).1] at hp;obtain⟨_,h0,hl,hb⟩:=Sl ht hp;have hs:=Id ht hl;rw[hb,Nat.add_zero] at hs;rw[Oa ht h2 hl,hb];exact ih p hp hs
theorem Aob{C:Nat}{u:Tm}(h:Sf C u)(k:Nat):Sf (C+k) (Eo k u):=by
 unfold Eo;refine Afv h (fun b' i _ hi=>?_);unfold lfv;split
 ·exact .var (by omega)
 ·exact .var (by omega)
theorem Bfl{C:Nat}{t u:Tm}(ht:Sf (C+1) t)(hu:Sf C u):Sf C (Ip u t):=by
 unfold Ip;refine Afv ht (fun b' i _ hi=>?_);unfold ptv;split
 ·exact .var (by omega)
 ·split
  ·have:=Aob hu b'
   rwa [Nat.sub_zero]
  ·exact .var (by omega)
theorem Bfk{C m:Nat}{t:Tm}{l:List Tm}(ht:Sf m t)(hm:m<=l.length)(hl:∀u∈l,Sf C u):Sf C (Hx l t):=by
 unfold Hx;refine Afv ht (fun b' i _ hi=>?_);unfold alv;split
 ·exact .var (by omega)
 ·have Ab:i-b'<l.length:=by omega
  rw[List.getD_eq_getElem?_getD,q_f Ab];have:=Aob (hl _ (List.getElem_mem Ab)) b'
  rwa [Nat.sub_zero]
theorem Aod(hB:Fs B){t u:Tm}(h:Az B t=some u)(ht:Sf C t):Sf C u:=by
 have h2:t.k≠2:=fun e=>by rw[Jh (by omega)] at h;cases h
 have hl:=Hu ht h2
 by_cases Ed:t.k=15
 ·rw[Qt Ed] at h;split at h
  ·rename_i c;cases h;rw[Ed,kids15] at hl;have Gb:=Id (p:=0) ht (by omega);have Bk:=Id (p:=1) ht (by omega);rw[Ed,show bnd 15 0=0 by decide,Nat.add_zero] at Gb;rw[Ed,show bnd 15 1=0 by decide,Nat.add_zero] at Bk;have Dm:=Hu Gb (by omega);rw[c,kids14] at Dm;have hb:=Id (p:=1) Gb (by omega);rw[c,show bnd 14 1=1 by decide] at hb;exact Bfl hb Bk
  ·cases h
 by_cases Ew:t.k=18
 ·rw[Qu Ew] at h;split at h
  ·rename_i c;cases h;rw[Ew,kids18] at hl;have Gb:=Id (p:=0) ht (by omega);rw[Ew,show bnd 18 0=0 by decide,Nat.add_zero] at Gb;have Dm:=Hu Gb (by omega);rw[c,kids17] at Dm;have hb:=Id (p:=2) Gb (by omega)
   rwa [c,show bnd 17 2=0 by decide,Nat.add_zero] at hb
  ·cases h
 by_cases Ex:t.k=19
 ·rw[Qv Ex] at h;split at h
  ·rename_i c;cases h;rw[Ex,kids19] at hl;have Gb:=Id (p:=0) ht (by omega);rw[Ex,show bnd 19 0=0 by decide,Nat.add_zero] at Gb;have Dm:=Hu Gb (by omega);rw[c,kids17] at Dm;have hb:=Id (p:=3) Gb (by omega)
   rwa [c,show bnd 17 3=0 by decide,Nat.add_zero] at hb
  ·cases h
 by_cases Cy:t.k=22
 ·rw[Qw Cy] at h;split at h
  ·cases h;rw[Cy,kids22] at hl;have hb:=Id (p:=3) ht (by omega)
   rwa [Cy,show bnd 22 3=0 by decide,Nat.add_zero] at hb
  ·cases h
 by_cases Bz:t.k=23
 ·rw[Qx Bz] at h;cases hb:B t.n t.i t.j with
  |none=>rw[hb] at h;cases h
  |some b=>
   rw[hb,Option.map_some,q_b] at h;subst h;rw[Bz] at hl;refine Bfk (hB _ _ _ _ hb) (by rw[List.length_reverse];omega) (fun u hu=>?_);rw[List.mem_reverse] at hu;obtain⟨q,hq,rfl⟩:=List.getElem_of_mem hu;have:=Id (p:=q) ht hq;rw[Bz,bnd23,Nat.add_zero] at this;cases t with
   |mk k i j n l=>
    have Ku:q<l.length:=hq;have e:Aj (.mk k i j n l) q=l[q]:=by unfold Aj;rw[show (Tm.mk k i j n l).kids=l from rfl,List.getD_eq_getElem?_getD,q_f Ku];rfl
    rw[e] at this;exact this
 ·rw[Jh (by omega)] at h;cases h
theorem Abw(hB:Fs B){t u:Tm}(hs:HS (Az B) t u):∀{C:Nat},Sf C t->Sf C u:=by
 induction hs with
 |here h=>intro C ht;exact Aod hB h ht
 |@down t u p h hp hs ih=>
  intro C ht;obtain⟨h2,h0,hl,hb⟩:=Sl ht hp;have hk:=Id ht hl;rw[hb,Nat.add_zero] at hk;refine Bfm ht h2 ?_;rw[hb,Nat.add_zero];exact ih hk
end
inductive PHd(B:BT):Nat->Tm->Nat->Bool->Tm->Prop
 |stop {N:Nat} {t:Tm} (h:HN (Az B) t):PHd B N t N false t
 |out {N:Nat} {t u:Tm} (h:HS (Az B) t u) (ho:4000<N+1\/4000<tsz u):PHd B N t (N+1) true u
 |step {N N':Nat} {t u t':Tm} {o:Bool} (h:HS (Az B) t u) (h1:N+1<=4000) (h2:tsz u<=4000) (hr:PHd B (N+1) u N' o t'):PHd B N t N' o t'
inductive PNx(B:BT):(Tm ⊕ List Tm)->Nat->Bool->Nat->Bool->(Tm ⊕ List Tm)->Prop
 |tm {t t1:Tm} {N N1 N2:Nat} {o1 o2:Bool} {rs:List Tm} (h:PHd B N t N1 o1 t1) (hk:PNx B (.inr t1.kids) N1 o1 N2 o2 (.inr rs)):PNx B (.inl t) N false N2 o2 (.inl (.mk t1.k t1.i t1.j t1.n rs))
 |nil {N:Nat} {o:Bool}:PNx B (.inr []) N o N o (.inr [])
 |out {a:Tm} {l:List Tm} {N:Nat}:PNx B (.inr (a::l)) N true N true (.inr [])
 |cons {a r:Tm} {l rs:List Tm} {N N1 N2:Nat} {o1 o2:Bool} (h:PNx B (.inl a) N false N1 o1 (.inl r)) (hl:PNx B (.inr l) N1 o1 N2 o2 (.inr rs)):PNx B (.inr (a::l)) N false N2 o2 (.inr (r::rs))
section
variable{B:BT}
theorem Abg{N N':Nat}{t t':Tm}{o:Bool}(h:PHd B N t N' o t'):N<=N':=by
 induction h with
 |stop=>exact Nat.le_refl _
 |out=>omega
 |step _ _ _ _ ih=>omega
theorem Ba5(hB:Fs B){d N N':Nat}{t t':Tm}{o:Bool}(h:PHd B N t N' o t')(ho:o=false):∀{C:Nat},Sf C t->Sf C t'/\∃n,N'=N+n/\HR (plD B) n (lv d t) (lv d t')/\HN (plD B) (lv d t'):=by
 induction h with
 |stop h=>intro C ht;exact⟨ht,0,rfl,.refl _,Akn hB h ht⟩
 |out=>cases ho
 |step h _ _ _ ih=>
  intro C ht;obtain⟨a,n,e,r,k⟩:=ih ho (Abw hB h ht);exact⟨a,n+1,by omega,.step (A4r hB h ht) r,k⟩
def NRl(B:BT)(d:Nat)(k:Int)(p:Nat)(l:List Tm)(Ns:List Nat)(rs:List Tm):Prop:=Ns.length=l.length/\rs.length=l.length/\∀(q:Nat) t N r,l[q]?=some t->Ns[q]?=some N->rs[q]?=some r->NR B (d+bnd k (p+q)) (lv (d+bnd k (p+q)) t) N r
theorem Xa{x y:Tm ⊕ List Tm}{N N':Nat}{o o':Bool}(h:PNx B x N o N' o' y)(Cv:o'=false):o=false:=by
 cases h with
 |tm=>rfl
 |nil=>exact Cv
 |out=>exact Cv
 |cons=>rfl
theorem Bb4(hB:Fs B){x y:Tm ⊕ List Tm}{N N':Nat}{o o':Bool}(h:PNx B x N o N' o' y)(Cv:o'=false) :
  (∀t r,x=.inl t->y=.inl r->∀d C,Sf C t->∃n,N'=N+n/\NR B d (lv d t) n r) /\
  (∀l rs,x=.inr l->y=.inr rs->∀(d:Nat) (k:Int) (p C:Nat),(∀(q:Nat) t,l[q]?=some t->Sf (C+bnd k (p+q)) t)->∃Ns,N'=N+Ns.sum/\NRl B d k p l Ns rs):=by
 induction h with
 |@tm t t1 N N1 N2 o1 o2 rs h hk ih=>
  have Ix:=Xa hk Cv;refine⟨fun t' r e1 e2 d C hs=>?_,fun l rs' e=>by cases e⟩;cases e1;cases e2;obtain⟨a,n,e,r1,k1⟩:=Ba5 hB (d:=d) h Ix hs
  by_cases h2:t1.k=2
  ·obtain⟨i,c1,c2⟩:=Aa6 (d:=d) a h2;subst c1;rw[c2] at r1;have hk':PNx B (.inr []) N1 o1 N2 o2 (.inr rs):=hk;cases hk';refine⟨n,e,?_⟩;have:=NR.fv (B:=B) (d:=d) r1
   rwa [show (d:Int)-1-((d:Int)-1-(i:Int))=i by omega] at this
  ·obtain⟨Ns,e3,hl⟩:=(ih Cv).2 t1.kids rs rfl rfl d t1.k 0 C (fun q u hu=>by
    rw[Nat.zero_add];cases t1 with
    |mk k i j n' l=>exact a.kid hu)
   refine⟨n+Ns.sum,by omega,?_⟩;have h0:=sf_k a;cases t1 with
   |mk k i j n' l=>
    have It:k≠2:=h2;have Lg:k≠0:=h0;unfold lv at r1 k1;rw[Wr It Lg] at r1 k1;obtain⟨q1,q2,q3⟩:=hl;simp only[Tm.kids] at q1 q2 q3;refine .nd r1 k1 Lg (by rw[Kl];exact q1) (by rw[Kl];exact q2) (fun p u N r hu hN hr=>?_);rw[Ep,Nat.zero_add,Nat.zero_add] at hu;cases hq:l[p]? with
    |none=>rw[hq] at hu;cases hu
    |some u0=>
     rw[hq,Option.map_some,q_b] at hu;subst hu;have:=q3 p u0 N r hq hN hr;rw[Nat.zero_add] at this;have e4:=Bam d (bnd k p) u0;unfold lvB at e4;show NR B (d+bnd k p) (Ao (Gs d (bnd k p)) 0 (trT (lvv d) (fun _ l=>fT l) (bnd k p) u0)) N r;rw[e4];exact this
 |nil=>exact⟨fun t r e=>(by cases e),fun l rs e1 e2 d k p C _=>by cases e1;cases e2;exact⟨[],rfl,rfl,rfl,fun q t N r ht=>by cases ht⟩⟩
 |out=>cases Cv
 |@cons a r l rs N N1 N2 o1 o2 h hl ih1 ih2=>
  have Ix:=Xa hl Cv;refine⟨fun t r e=>(by cases e),fun l' rs' e1 e2 d k p C hs=>?_⟩;cases e1;cases e2;have h0:=hs 0 a rfl;obtain⟨n,e3,hr⟩:=(ih1 Ix).1 a r rfl rfl (d+bnd k (p+0)) _ h0;obtain⟨Ns,e4,q1,q2,q3⟩:=(ih2 Cv).2 l rs rfl rfl d k (p+1) C (fun q t ht=>by have:=hs (q+1) t (by simpa using ht);rwa [show p+(q+1)=p+1+q by omega] at this);refine⟨n::Ns,by simp only[List.sum_cons];omega,by simp[q1],by simp[q2],fun q t N r ht hN Fz=>?_⟩;cases q with
  |zero=>
   simp only[List.getElem?_cons_zero,q_b] at ht hN Fz;subst ht hN Fz;exact hr
  |succ q=>
   have:=q3 q t N r (by simpa using ht) (by simpa using hN) (by simpa using Fz)
   rwa [show p+1+q=p+(q+1) by omega] at this
theorem Anf(hB:Fs B){t r:Tm}{N C:Nat}(h:PNx B (.inl t) 0 false N false (.inl r))(ht:Sf C t):NR B 0 (Ao [] 0 t) N r:=by
 obtain⟨n,e,hn⟩:=(Bb4 hB h rfl).1 t r rfl rfl 0 C ht;rw[lv_0] at hn;rw[e,Nat.zero_add];exact hn
end
abbrev FF:Nat->Int->Tm:=fun _ l=>fT l
def sv(σ:Nat->Tm)(b i:Nat):Tm:=if i<b then vT i else Eo b (σ (i-b))
def j6(σ:Nat->Tm)(b:Nat)(t:Tm):Tm:=trT (sv σ) FF b t
theorem Amg(b i:Nat):Eo b (vT i)=vT (i+b):=by
 unfold Eo;rw[Cm];unfold lfv;rw[if_neg (by omega)]
def shf(k:Nat)(i:Nat):Tm:=vT (i+k)
theorem Aoo(k:Nat):sv (shf k)=lfv k:=by
 funext b i;unfold sv lfv shf
 by_cases h:i<b
 ·rw[if_pos h,if_pos h]
 ·rw[if_neg h,if_neg h,Amg];congr 1;omega
def Anu(u:Tm):Nat->Tm
 |0=>u
 |i+1=>vT i
theorem Bf0(u:Tm):sv (Anu u)=ptv u:=by
 funext b i;unfold sv ptv
 by_cases h:i<b
 ·rw[if_pos h,if_pos h]
 ·rw[if_neg h,if_neg h]
  by_cases h':i=b
  ·subst h';rw[if_pos rfl,Nat.sub_self];rfl
  ·rw[if_neg h'];obtain⟨q,rfl⟩:∃q,i=b+(q+1):=⟨i-b-1,by omega⟩
   rw[show b+(q+1)-b=q+1 by omega];show Eo b (vT q)=_;rw[Amg];congr 1;omega
def Agy(l:List Tm)(i:Nat):Tm:=l.getD i (vT 0)
theorem Ami(k:Nat)(t:Tm):Eo k t=j6 (shf k) 0 t:=by unfold j6;rw[Aoo];rfl
theorem Any(u t:Tm):Ip u t=j6 (Anu u) 0 t:=by unfold j6;rw[Bf0];rfl
theorem Agz(l:List Tm)(t:Tm):Hx l t=j6 (Agy l) 0 t:=rfl
theorem Amk(σ:Nat->Tm)(b c:Nat)(u:Tm):trT (sv σ) FF (c+b) (Eo c u)=Eo c (trT (sv σ) FF b u):=by
 have h1:=Mx (v1:=lfv c) (f1:=FF) (v2:=sv σ) (f2:=FF) (v:=fun d i=>if i<d then vT i else if i<d+b then vT (i+c) else Eo (d+b+c) (σ (i-d-b))) (f:=FF) 0 (c+b) (fun d i=>?_) (fun _ _=>Hh _ _) u 0
 ·have h2:=Mx (v1:=sv σ) (f1:=FF) (v2:=lfv c) (f2:=FF) (v:=fun d i=>if i<d then vT i else if i<d+b then vT (i+c) else Eo (d+b+c) (σ (i-d-b))) (f:=FF) b 0 (fun d i=>?_) (fun _ _=>Hh _ _) u 0
  ·simp only[Nat.add_zero,Nat.zero_add] at h1 h2;exact h1.trans h2.symm
  ·rw[Nat.add_zero];unfold sv
   by_cases h:i<d
   ·rw[if_pos (by omega),Cm,if_pos h];unfold lfv;rw[if_pos h]
   ·by_cases h':i<d+b
    ·rw[if_pos h',Cm,if_neg h,if_pos h'];unfold lfv;rw[if_neg h]
    ·rw[if_neg h',if_neg h,if_neg h',show i-(d+b)=i-d-b by omega];have:=Mx (v1:=lfv (d+b)) (f1:=FF) (v2:=lfv c) (f2:=FF) (v:=lfv (d+b+c)) (f:=FF) 0 d (fun e q=>?_) (fun _ _=>Hh _ _) (σ (i-d-b)) 0
     ·simpa [Eo] using this
     ·rw[Nat.add_zero];unfold lfv
      by_cases h:q<e
      ·rw[if_pos h,Cm,if_pos (by omega),if_pos h]
      ·rw[if_neg h,Cm,if_neg (by omega),if_neg h];congr 1;omega
 ·rw[Nat.add_zero];unfold lfv
  by_cases h:i<d
  ·rw[if_pos h,Cm,if_pos h];unfold sv;rw[if_pos (by omega)]
  ·rw[if_neg h,Cm,if_neg h];unfold sv
   by_cases h':i<d+b
   ·rw[if_pos (by omega),if_pos h']
   ·rw[if_neg (by omega),if_neg h',show d+(c+b)=d+b+c by omega,show i+c-(d+b+c)=i-d-b by omega]
theorem Bdq(u s:Tm)(c m:Nat):trT (ptv u) FF c (Eo (c+1+m) s)=Eo (c+m) s:=by
 have h1:=Mx (v1:=lfv (c+1+m)) (f1:=FF) (v2:=ptv u) (f2:=FF) (v:=lfv (c+m)) (f:=FF) 0 c (fun d i=>?_) (fun _ _=>Hh _ _) s 0
 ·simpa [Eo] using h1
 ·simp only[Nat.add_zero];unfold lfv
  by_cases h:i<d
  ·rw[if_pos h,Cm,if_pos h];unfold ptv;rw[if_pos (by omega)]
  ·rw[if_neg h,Cm,if_neg h];unfold ptv;rw[if_neg (by omega),if_neg (by omega)];congr 1;omega
theorem Bfw(σ:Nat->Tm)(b:Nat)(u a:Tm):trT (sv σ) FF b (Ip u a)=Ip (trT (sv σ) FF b u) (trT (sv σ) FF (b+1) a):=by
 have h1:=Mx (v1:=ptv u) (f1:=FF) (v2:=sv σ) (f2:=FF) (v:=fun d i=>if i<d then vT i else if i=d then Eo d (trT (sv σ) FF b u) else if i-1<d+b then vT (i-1) else Eo (d+b) (σ (i-1-d-b))) (f:=FF) 0 b (fun d i=>?_) (fun _ _=>Hh _ _) a 0
 ·have h2:=Mx (v1:=sv σ) (f1:=FF) (v2:=ptv (trT (sv σ) FF b u)) (f2:=FF) (v:=fun d i=>if i<d then vT i else if i=d then Eo d (trT (sv σ) FF b u) else if i-1<d+b then vT (i-1) else Eo (d+b) (σ (i-1-d-b))) (f:=FF) (b+1) 0 (fun d i=>?_) (fun _ _=>Hh _ _) a 0
  ·simp only[Nat.add_zero,Nat.zero_add] at h1 h2;exact h1.trans h2.symm
  ·rw[Nat.add_zero];unfold sv
   by_cases h:i<d
   ·rw[if_pos (by omega),Cm,if_pos h];unfold ptv;rw[if_pos h]
   ·by_cases h':i=d
    ·subst h';rw[if_pos (by omega),Cm,if_neg h,if_pos rfl];unfold ptv;rw[if_neg h,if_pos rfl]
    ·by_cases h3:i-1<d+b
     ·rw[if_pos (by omega),Cm,if_neg h,if_neg h',if_pos h3];unfold ptv;rw[if_neg h,if_neg h']
     ·rw[if_neg (by omega),if_neg h,if_neg h',if_neg h3,show d+(b+1)=d+1+b by omega,Bdq,show i-(d+1+b)=i-1-d-b by omega]
 ·rw[Nat.add_zero];unfold ptv
  by_cases h:i<d
  ·rw[if_pos h,Cm,if_pos h];unfold sv;rw[if_pos (by omega)]
  ·by_cases h':i=d
   ·subst h';rw[if_neg h,if_pos rfl,if_neg h,if_pos rfl];exact Amk σ b i u
   ·rw[if_neg h,if_neg h',Cm,if_neg h,if_neg h'];unfold sv
    by_cases h3:i-1<d+b
    ·rw[if_pos h3,if_pos h3]
    ·rw[if_neg h3,if_neg h3,show i-1-(d+b)=i-1-d-b by omega]
theorem Bfv(σ:Nat->Tm)(b:Nat)(l:List Tm){t:Tm}(ht:Sf l.length t):trT (sv σ) FF b (Hx l t)=Hx (l.map (trT (sv σ) FF b)) t:=by
 have h1:=Mx (v1:=alv l) (f1:=FF) (v2:=sv σ) (f2:=FF) (v:=fun d i=>if i<d then vT i else Eo d (trT (sv σ) FF b (l.getD (i-d) (vT 0)))) (f:=FF) 0 b (fun d i=>?_) (fun _ _=>Hh _ _) t 0
 ·simp only[Nat.add_zero,Nat.zero_add] at h1;refine h1.trans (Ao6 ht (fun d i hi hd=>?_));unfold alv;split
  ·rfl
  ·have Ab:i-d<l.length:=by omega
   rw[List.getD_eq_getElem?_getD,q_f Ab,List.getD_eq_getElem?_getD,List.getElem?_map,q_f Ab];rfl
 ·rw[Nat.add_zero];unfold alv
  by_cases h:i<d
  ·rw[if_pos h,Cm,if_pos h];unfold sv;rw[if_pos (by omega)]
  ·rw[if_neg h,if_neg h];exact Amk σ b d _
section
variable{B:BT}{C:Nat}{σ σ':Nat->Tm}
theorem Afz{t:Tm}(h:Sf C t)(h2:t.k≠2)(v:Nat->Nat->Tm)(b:Nat):(trT v FF b t).k=t.k/\(trT v FF b t).i=t.i/\(trT v FF b t).j=t.j/\(trT v FF b t).n=t.n/\(trT v FF b t).kids=trL v FF b t.k 0 t.kids:=by
 have h0:=sf_k h;cases t with
 |mk k i j n l=>rw[Fe (show k≠2 from h2) (show k≠0 from h0)];exact⟨rfl,rfl,rfl,rfl,rfl⟩
theorem Qy{t:Tm}(h:Sf C t)(h2:t.k≠2)(v:Nat->Nat->Tm)(b:Nat){p:Nat}(hp:p<t.kids.length):Aj (trT v FF b t) p=trT v FF (b+bnd t.k p) (Aj t p):=by
 unfold Aj;rw[(Afz h h2 v b).2.2.2.2,List.getD_eq_getElem?_getD,Ep,List.getD_eq_getElem?_getD,q_f hp,Nat.zero_add];rfl
theorem Abz{t:Tm}(h:Sf C t){c:Int}(hk:t.k=c)(hc:c≠2)(v:Nat->Nat->Tm)(b:Nat):(trT v FF b t).k=c:=by rw[(Afz h (by rw[hk];exact hc) v b).1,hk]
theorem Qq{t:Tm}(h:Sf C t){p:Nat}{c:Int}(hk:t.k=c)(hp:p<t.kids.length){m:Nat}(hb:bnd c p=m):Sf (C+m) (Aj t p):=by
 have:=Id h hp
 rwa [hk,hb] at this
theorem Ann(hB:Fs B){t u:Tm}(h:Az B t=some u)(ht:Sf C t)(σ:Nat->Tm)(b:Nat):Az B (trT (sv σ) FF b t)=some (trT (sv σ) FF b u):=by
 have h2:t.k≠2:=fun e=>by rw[Jh (by omega)] at h;cases h
 have hl:=Hu ht h2;obtain⟨e1,e2,e3,e4,e5⟩:=Afz ht h2 (sv σ) b
 by_cases Ed:t.k=15
 ·rw[Qt Ed] at h;rw[Qt (e1.trans Ed)];rw[Ed,kids15] at hl;split at h
  ·rename_i c;cases h;have s0:=Qq (p:=0) (m:=0) ht Ed (by omega) (by decide);have Dm:=Hu s0 (by omega);rw[c,kids14] at Dm;rw[Qy ht h2 (sv σ) b (p:=0) (by omega),Qy ht h2 (sv σ) b (p:=1) (by omega),Ed,show bnd 15 0=0 by decide,show bnd 15 1=0 by decide,Nat.add_zero,if_pos (Abz s0 c (by decide) _ _),Qy s0 (by omega) (sv σ) b (p:=1) (by omega),c,show bnd 14 1=1 by decide,Bfw]
  ·cases h
 by_cases Ew:t.k=18
 ·rw[Qu Ew] at h;rw[Qu (e1.trans Ew)];rw[Ew,kids18] at hl;split at h
  ·rename_i c;cases h;have s0:=Qq (p:=0) (m:=0) ht Ew (by omega) (by decide);have Dm:=Hu s0 (by omega);rw[c,kids17] at Dm;rw[Qy ht h2 (sv σ) b (p:=0) (by omega),Ew,show bnd 18 0=0 by decide,Nat.add_zero,if_pos (Abz s0 c (by decide) _ _),Qy s0 (by omega) (sv σ) b (p:=2) (by omega),c,show bnd 17 2=0 by decide,Nat.add_zero]
  ·cases h
 by_cases Ex:t.k=19
 ·rw[Qv Ex] at h;rw[Qv (e1.trans Ex)];rw[Ex,kids19] at hl;split at h
  ·rename_i c;cases h;have s0:=Qq (p:=0) (m:=0) ht Ex (by omega) (by decide);have Dm:=Hu s0 (by omega);rw[c,kids17] at Dm;rw[Qy ht h2 (sv σ) b (p:=0) (by omega),Ex,show bnd 19 0=0 by decide,Nat.add_zero,if_pos (Abz s0 c (by decide) _ _),Qy s0 (by omega) (sv σ) b (p:=3) (by omega),c,show bnd 17 3=0 by decide,Nat.add_zero]
  ·cases h
 by_cases Cy:t.k=22
 ·rw[Qw Cy] at h;rw[Qw (e1.trans Cy)];rw[Cy,kids22] at hl;split at h
  ·rename_i c;cases h;have s0:=Qq (p:=5) (m:=0) ht Cy (by omega) (by decide);rw[Qy ht h2 (sv σ) b (p:=5) (by omega),Qy ht h2 (sv σ) b (p:=3) (by omega),Cy,show bnd 22 5=0 by decide,show bnd 22 3=0 by decide,Nat.add_zero,if_pos (Abz s0 c (by decide) _ _)]
  ·cases h
 by_cases Bz:t.k=23
 ·rw[Qx Bz] at h;rw[Qx (e1.trans Bz),e2,e3,e4];cases hb:B t.n t.i t.j with
  |none=>rw[hb] at h;cases h
  |some q=>
   rw[hb,Option.map_some,q_b] at h;subst h;rw[Bz] at hl;rw[Option.map_some,Bfv _ _ _ (by rw[List.length_reverse,show t.kids.length=(Bh 23 t.n).toNat by omega];exact hB _ _ _ _ hb),e5,Bz];congr 3;rw[List.map_reverse];congr 1;apply List.ext_getElem?;intro p;rw[Ep,List.getElem?_map,Nat.zero_add,bnd23,Nat.add_zero]
 ·rw[Jh (by omega)] at h;cases h
inductive Par(B:BT):Tm->Tm->Prop
 |var (i:Nat):Par B (vT i) (vT i)
 |nd {k i j n:Int} {l l':List Tm} (h2:k≠2) (h0:k≠0) (hl:l'.length=l.length) (hk:∀(p:Nat) t t',l[p]?=some t->l'[p]?=some t'->Par B t t'):Par B (.mk k i j n l) (.mk k i j n l')
 |st {k i j n:Int} {l l':List Tm} {u:Tm} (h2:k≠2) (h0:k≠0) (hl:l'.length=l.length) (hk:∀(p:Nat) t t',l[p]?=some t->l'[p]?=some t'->Par B t t') (hr:(Az B (.mk k i j n l)).isSome=true) (hu:Az B (.mk k i j n l')=some u):Par B (.mk k i j n l) u
theorem Afg{t:Tm}(h:Sf C t):Par B t t:=by
 induction h with
 |var=>exact .var _
 |nd i j n h2 h0 _ _ _ ih=>exact .nd h2 h0 rfl (fun p t t' h h'=>by rw[h,q_b] at h';subst h';exact ih p t h)
theorem Abv{k i j n:Int}{l l':List Tm}(h:Sf C (.mk k i j n l))(h2:k≠2)(hl:l'.length=l.length)(hk:∀(p:Nat) t,l'[p]?=some t->Sf (C+bnd k p) t):Sf C (.mk k i j n l'):=by
 obtain⟨h0,hf,hn⟩:=h.node h2;exact .nd i j n h2 h0 hf (by rw[hl];exact hn) hk
theorem Xv{l l':List Tm}(hl:l'.length=l.length){p:Nat}{t:Tm}(h:l'[p]?=some t):∃s,l[p]?=some s:=by
 have:=Dh h;exact⟨_,q_f (by omega)⟩
theorem d8(hB:Fs B){t u:Tm}(h:Par B t u):∀{C:Nat},Sf C t->Sf C u:=by
 induction h with
 |var i=>intro C h;exact h
 |nd h2 h0 hl hk ih=>
  intro C h;exact Abv h h2 hl (fun p t ht=>by obtain⟨s,hs⟩:=Xv hl ht;exact ih p s t hs ht (h.kid hs))
 |st h2 h0 hl hk hr hu ih=>
  intro C h;exact Aod hB hu (Abv h h2 hl (fun p t ht=>by obtain⟨s,hs⟩:=Xv hl ht;exact ih p s t hs ht (h.kid hs)))
def ParL(B:BT)(l l':List Tm):Prop:=l'.length=l.length/\∀(p:Nat) t t',l[p]?=some t->l'[p]?=some t'->Par B t t'
theorem ParL.kid{k i j n:Int}{l l':List Tm}(h:ParL B l l'){p:Nat}(hp:p<l.length):Par B (Aj (.mk k i j n l) p) (Aj (.mk k i j n l') p):=by
 have hp':p<l'.length:=by rw[h.1];exact hp
 unfold Aj;simp only[Tm.kids,List.getD_eq_getElem?_getD];rw[q_f hp,q_f hp'];exact h.2 p _ _ (q_f hp) (q_f hp')
theorem Anj{t u:Tm}(h:Par B t u)(hv:isV t.k):∃l',u=.mk t.k t.i t.j t.n l'/\ParL B t.kids l':=by
 unfold isV at hv;cases h with
 |var i=>exact absurd (show (2:Int)=14\/(2:Int)=17\/(2:Int)=21 from hv) (by decide)
 |nd h2 h0 hl hk=>exact⟨_,rfl,hl,hk⟩
 |st h2 h0 hl hk hr hu=>
  rw[Jh (by simp only[Tm.k] at hv |-;omega)] at hr;cases hr
theorem Abf{t u:Tm}(h:Par B t u){c:Int}(hk:t.k=c)(hc:c=14\/c=17\/c=21):u.k=c:=by
 obtain⟨l',rfl,_⟩:=Anj h (by unfold isV;omega);exact hk
theorem Afi{t u:Tm}(h:Par B t u)(hv:isV t.k){p:Nat}(hp:p<t.kids.length):Par B (Aj t p) (Aj u p):=by
 obtain⟨l',rfl,hl⟩:=Anj h hv;cases t with
 |mk k i j n l=>exact hl.kid hp
theorem Anm{k i j n:Int}{l l':List Tm}(h:Sf C (.mk k i j n l))(hp:ParL B l l')(hr:(Az B (.mk k i j n l)).isSome=true):(Az B (.mk k i j n l')).isSome=true:=by
 have h2:k≠2:=fun e=>by rw[Jh (by show k≠15/\_;simp only[Tm.k];omega)] at hr;cases hr
 have hl:=(h.node h2).2.2
 by_cases Ed:k=15
 ·subst Ed;rw[Qt rfl] at hr |-;rw[kids15] at hl;split at hr
  ·rename_i c;rw[if_pos (Abf (hp.kid (p:=0) (by omega)) c (by omega))];rfl
  ·cases hr
 by_cases Ew:k=18
 ·subst Ew;rw[Qu rfl] at hr |-;rw[kids18] at hl;split at hr
  ·rename_i c;rw[if_pos (Abf (hp.kid (p:=0) (by omega)) c (by omega))];rfl
  ·cases hr
 by_cases Ex:k=19
 ·subst Ex;rw[Qv rfl] at hr |-;rw[kids19] at hl;split at hr
  ·rename_i c;rw[if_pos (Abf (hp.kid (p:=0) (by omega)) c (by omega))];rfl
  ·cases hr
 by_cases Cy:k=22
 ·subst Cy;rw[Qw rfl] at hr |-;rw[kids22] at hl;split at hr
  ·rename_i c;rw[if_pos (Abf (hp.kid (p:=5) (by omega)) c (by omega))];rfl
  ·cases hr
 by_cases Bz:k=23
 ·subst Bz;rw[Qx rfl] at hr |-;simp only[Tm.n,Tm.i,Tm.j] at hr |-;cases hb:B n i j with
  |none=>rw[hb] at hr;cases hr
  |some q=>rfl
 ·rw[Jh (by simp only[Tm.k];omega)] at hr;cases hr
theorem Afh(hB:Fs B)(hV:∀b i,Par B (sv σ b i) (sv σ' b i)){t t':Tm}(h:Par B t t'):∀{C:Nat},Sf C t->∀b,Par B (trT (sv σ) FF b t) (trT (sv σ') FF b t'):=by
 induction h with
 |var i=>intro C _ b;rw[Cm,Cm];exact hV b i
 |nd h2 h0 hl hk ih=>
  intro C h b;rw[Fe h2 h0,Fe h2 h0];refine .nd h2 h0 (by rw[Kl,Kl];exact hl) (fun p s s' hs Dn=>?_);rw[Ep] at hs Dn;obtain⟨a,ha,rfl⟩:=Option.map_eq_some_iff.1 hs;obtain⟨a',Tl,rfl⟩:=Option.map_eq_some_iff.1 Dn;exact ih p a a' ha Tl (h.kid ha) _
 |@st k i j n l l' u h2 h0 hl hk hr hu ih=>
  intro C h b;have Dn:Sf C (.mk k i j n l'):=Abv h h2 hl (fun p t ht=>by obtain⟨s,hs⟩:=Xv hl ht;exact d8 hB (hk p s t hs ht) (h.kid hs));obtain⟨w,hw⟩:=Option.isSome_iff_exists.1 hr;have q1:=Ann hB hw h σ b;have q2:=Ann hB hu Dn σ' b;rw[Fe h2 h0] at q1 q2 |-;refine .st h2 h0 (by rw[Kl,Kl];exact hl) (fun p s s' hs Dn=>?_) (by rw[q1];rfl) q2;rw[Ep] at hs Dn;obtain⟨a,ha,rfl⟩:=Option.map_eq_some_iff.1 hs;obtain⟨a',Tl,rfl⟩:=Option.map_eq_some_iff.1 Dn;exact ih p a a' ha Tl (h.kid ha) _
theorem Ba1(hB:Fs B){t t':Tm}(h:Par B t t')(hs:Sf C t)(b:Nat):Par B (Eo b t) (Eo b t'):=by
 rw[Ami,Ami];refine Afh hB (fun c i=>?_) h hs 0;rw[Aoo];unfold lfv;split<;>exact .var _
theorem Ani(hB:Fs B)(h:∀i,Par B (σ i) (σ' i)/\∃C,Sf C (σ i))(b i:Nat):Par B (sv σ b i) (sv σ' b i):=by
 unfold sv;split
 ·exact .var _
 ·obtain⟨h1,C,h2⟩:=h (i-b);exact Ba1 hB h1 h2 b
theorem Ba3(hB:Fs B){C':Nat}{u u' a a':Tm}(hu:Par B u u')(su:Sf C u)(ha:Par B a a')(sa:Sf C' a):Par B (Ip u a) (Ip u' a'):=by
 rw[Any,Any];refine Afh hB (Ani hB (fun i=>?_)) ha sa 0;cases i with
 |zero=>exact⟨hu,C,su⟩
 |succ i=>exact⟨.var i,i+1,.var (by omega)⟩
theorem Baz(hB:Fs B){C':Nat}{l l':List Tm}(h:ParL B l l')(hs:∀t∈l,Sf C t){b:Tm}(sb:Sf C' b):Par B (Hx l b) (Hx l' b):=by
 rw[Agz,Agz];refine Afh hB (Ani hB (fun i=>?_)) (Afg sb) sb 0;unfold Agy;rw[List.getD_eq_getElem?_getD,List.getD_eq_getElem?_getD];rcases Nat.lt_or_ge i l.length with hi|hi
 ·rw[q_f hi,q_f (show i<l'.length by rw[h.1];exact hi)];exact⟨h.2 i _ _ (q_f hi) (q_f _),C,hs _ (List.getElem_mem hi)⟩
 ·rw[List.getElem?_eq_none hi,List.getElem?_eq_none (show l'.length<=i by rw[h.1];exact hi)];exact⟨.var 0,1,.var (by omega)⟩
end
end Go.Proofs.YtdpigpopcbjkmaaGreatDoor.Abs
