import Derived.Test.YtdpigpopcbjkmaaGreatDoorXRo
import Derived.Test.YtdpigpopcbjkmaaGreatDoorXMh
import Derived.Test.YtdpigpopcbjkmaaGreatDoorXTm
import Derived.Test.YtdpigpopcbjkmaaGreatDoorProg
import Derived.KernelRfl
import Derived.Test.YtdpigpopcbjkmaaGreatDoorXBi
import Derived.Test.YtdpigpopcbjkmaaGreatDoorXFg
set_option linter.unusedSimpArgs false
set_option linter.unusedVariables false
set_option maxRecDepth 20000
set_option maxHeartbeats 4000000
namespace Go.Proofs.YtdpigpopcbjkmaaGreatDoor.Abs
open Go Go.RowKit Go.Proofs.YtdpigpopcbjkmaaGreatDoor
def Du:List SV:=[.int .i64 0,.int .i64 0,.int .i64 0,.int .i64 0,.nils]
def Et:List SV:=[.int .i64 0]
theorem Bbo{o n:Nat}{k:FloatKind}{b:Nat}:Gd o n (.float k b)=.float k b:=rfl
theorem Bbs{o n:Nat}:Gd o n .J=.J:=rfl
theorem Bbk{n c:Nat}:Gd 3 n (.ref 1 0 0 c)=.ref 1 0 0 c:=rfl
theorem Bbl{n c:Nat}:Gd 3 n (.ref 3 0 0 c)=.gp n c:=rfl
theorem Bbj{n c:Nat}:Gd 2 n (.ref 3 0 0 c)=.ref 3 0 0 c:=rfl
attribute [go_sem] Bbo Bbs Bbk Bbl Bbj
theorem Ao7:Xe Tryz.prog Tryz.f14=some (af14,10,31,[4,5],2):=by kernel_rfl
theorem A7s:Acg Tryz.prog Tryz.f14 31 75 4 5 Du Et (.tup [.agg true Du,.int .i64 6]):=by
 intro w b1 b2 c1 c2 e1 e2 tmps m R h1 h2 As j1 j2 p1 p2 hR;obtain⟨v0,q0,r0⟩:=j1 0 _ rfl;obtain⟨v1,q1,r1⟩:=j1 1 _ rfl;obtain⟨v2,q2,r2⟩:=j1 2 _ rfl;obtain⟨v3,q3,r3⟩:=j1 3 _ rfl;obtain⟨v4,q4,r4⟩:=j1 4 _ rfl;obtain⟨v5,q5,r5⟩:=j2 0 _ rfl;cases r0;cases r1;cases r2;cases r3;cases r4;cases r5;refine leaves_cons (by simp) (Aax _ w) ?_;refine (Nrm.rec_norm w b1 b2 c1 c2 e1 e2 h1 h2 q0 q1 q2 q3 q4 q5 As).mono ?_;rintro e u' w' ⟨rfl,rfl,hc⟩;refine⟨_,Nrm.load_norm tmps w' b1 b2 p1 p2 hc.c0 hc.c1 hc.c2 hc.c3 hc.c4 hc.c5,hR _ w' (fun m=>?_) hc.os hc.tape hc.output hc.size hc.old⟩;refine .tup _ _ rfl (fun j v x hv hx=>?_)
 match j,hv,hx with
 |0,hv,hx=>
  cases hv;cases hx;refine .agg _ _ (by decide) rfl (fun j v x hv hx=>?_)
  match j,hv,hx with
  |0,hv,hx=>cases hv;cases hx;exact .int _ _
  |1,hv,hx=>cases hv;cases hx;exact .int _ _
  |2,hv,hx=>cases hv;cases hx;exact .int _ _
  |3,hv,hx=>cases hv;cases hx;exact .int _ _
  |4,hv,hx=>cases hv;cases hx;exact .nils
  |_+5,hv,hx=>simp at hv
 |1,hv,hx=>cases hv;cases hx;exact .int _ _
 |_+2,hv,hx=>simp at hv
theorem A9k{t r:Tm}(ht:TOk t)(hp:Cb t=true){b:Nat}{L:Int}(hL:Con 34 [.float .f64 b] (.int .i64 L)){G':GV}(hQ:Ad 35 [Du,Et,[.undef],Bu 0 L 0 0 2,thR ⟨t,[],false,none,none⟩] [.gp 3 0,.gp 4 0,.int .i64 0] (.ret (.agg true (tv r))) G')(g0:G'[0]?=some Du)(g1:G'[1]?=some Et) :
  Con 14 [.agg true (tv t),.float .f64 b] (.tup [.agg true (tv r),.int .i64 0]):=by
 refine Ah6 mixed Tryz.func14 Ao7 Aax Nrm.idle_norm (Wt _ _) (Abb _ _) ?_;have hc:=Vp t ht;rw[show Es t 2=true from hp] at hc;have hn:=Yg [Du,Et] L;have hl:=Px [Du,Et,[.undef],Bu 0 L 0 0 2] t [];have Ot:Ad 36 [Du,Et,[.undef],Bu 0 L 0 0 2] [.agg true (tv t),.nilp] (.ret (.gp 4 0)) [Du,Et,[.undef],Bu 0 L 0 0 2,thR ⟨t,[],false,none,none⟩]:=hl;clear hl;have h5:=Af t;generalize thR ⟨t,[],false,none,none⟩=th at *
 have h6:=Af r;have h7:Ec (tv r)=false:=by cases r;rw[Am];rfl
 generalize tv r=r0 at *
 generalize tv t=row at *
 unfold Agd;simp only[go_sem,seval,h5];refine Aa hc ?_;simp only[go_sem,seval,h5];refine⟨_,rfl,by simp,_,.trans (.promo _ 2 _ [] Du rfl rfl rfl rfl rfl rfl (by decide) (by simp) (by simp[Oc,In,St.put]) (fun q ob' h1 h2 h3 h4=>?_)) (.promo _ 3 _ [Du] Et rfl rfl rfl rfl rfl rfl (by decide) (by simp) (by simp[Oc,In,St.put,Gd]) (fun q ob' h1 h2 h3 h4=>?_)),?_⟩
 ·match q,h1 with
  |0,h1=>cases h1;cases h3
  |1,h1=>cases h1;cases h4
  |2,_=>exact absurd rfl h2
  |3,h1=>cases h1;cases h4
  |q+4,h1=>simp[St.put] at h1
 ·match q,h1 with
  |0,h1=>cases h1;cases h3
  |1,h1=>cases h1;cases h4
  |2,h1=>cases h1;cases h3
  |3,_=>exact absurd rfl h2
  |q+4,h1=>simp[St.put] at h1
 simp only[go_sem,seval,Eu,h5];refine Aa hL ?_;simp only[go_sem,seval,Eu,h5];refine Ac hn ?_;simp only[go_sem,seval,Eu,h5];refine Ac Ot ?_;simp only[go_sem,seval,Eu,h5];refine Ac hQ ?_;have g0':G'[0]?=some [.int .i64 0,.int .i64 0,.int .i64 0,.int .i64 0,.nils]:=g0;have g1':G'[1]?=some [.int .i64 0]:=g1;have l0:0<G'.length:=Dh g0;have l1:1<G'.length:=Dh g1;have gs1:(G'.set 0 r0)[1]?=some [.int .i64 0]:=by rw[List.getElem?_set_ne (by decide)];exact g1'
 have gt0:∀x:List SV,((G'.set 0 r0).set 1 x)[0]?=some r0:=fun x=>by rw[List.getElem?_set_ne (by decide)];exact List.getElem?_set_self l0
 have gt1:∀x:List SV,((G'.set 0 r0).set 1 x)[1]?=some x:=fun x=>List.getElem?_set_self (by rw[List.length_set];exact l1)
 simp only[go_sem,seval,Eu,h5,h6,h7,g0',g1',gs1,gt0,gt1]
theorem A9j{t:Tm}(ht:TOk t)(hp:Cb t=true){b:Nat}{L:Int}(hL:Con 34 [.float .f64 b] (.int .i64 L)){G':GV}(hQ:Ad 35 [Du,Et,[.undef],Bu 0 L 0 0 2,thR ⟨t,[],false,none,none⟩] [.gp 3 0,.gp 4 0,.int .i64 0] (.pan Sj) G')(g0:G'[0]?=some Du)(g1:G'[1]?=some Et) :
  Con 14 [.agg true (tv t),.float .f64 b] (.tup [.agg true (tv zt),.int .i64 6]):=by
 refine (Awk (r:=.tup [.agg true Du,.int .i64 6]) (i1:=0) (i2:=1) (n':=0) mixed Tryz.func14 Ao7 (by decide) rfl rfl A7s (Wt _ _) ?_).weaken (Alr 6);have hc:=Vp t ht;rw[show Es t 2=true from hp] at hc;have hn:=Yg [Du,Et] L;have hl:=Px [Du,Et,[.undef],Bu 0 L 0 0 2] t [];have Ot:Ad 36 [Du,Et,[.undef],Bu 0 L 0 0 2] [.agg true (tv t),.nilp] (.ret (.gp 4 0)) [Du,Et,[.undef],Bu 0 L 0 0 2,thR ⟨t,[],false,none,none⟩]:=hl;clear hl;have h5:=Af t;generalize thR ⟨t,[],false,none,none⟩=th at *
 generalize tv t=row at *
 unfold Ape;simp only[go_sem,seval,h5];refine Aa hc ?_;simp only[go_sem,seval,h5];refine⟨_,rfl,by simp,_,.trans (.promo _ 2 _ [] Du rfl rfl rfl rfl rfl rfl (by decide) (by simp) (by simp[Oc,In,St.put]) (fun q ob' h1 h2 h3 h4=>?_)) (.promo _ 3 _ [Du] Et rfl rfl rfl rfl rfl rfl (by decide) (by simp) (by simp[Oc,In,St.put,Gd]) (fun q ob' h1 h2 h3 h4=>?_)),?_,?_⟩
 ·match q,h1 with
  |0,h1=>cases h1;cases h3
  |1,h1=>cases h1;cases h4
  |2,_=>exact absurd rfl h2
  |3,h1=>cases h1;cases h4
  |q+4,h1=>simp[St.put] at h1
 ·match q,h1 with
  |0,h1=>cases h1;cases h3
  |1,h1=>cases h1;cases h4
  |2,h1=>cases h1;cases h3
  |3,_=>exact absurd rfl h2
  |q+4,h1=>simp[St.put] at h1
 ·intro p hp;simp only[List.mem_cons,List.not_mem_nil,or_false] at hp;rcases hp with rfl|rfl<;>exact⟨rfl,by decide⟩
 rw[l6];refine⟨_,_,_,rfl,?_,?_,?_⟩
 ·intro p hp;simp only[List.mem_cons,List.not_mem_nil,or_false] at hp;rcases hp with rfl|rfl<;>rfl
 ·intro p hp;simp only[List.mem_cons,List.not_mem_nil,or_false] at hp;rcases hp with rfl|rfl<;>simp
 simp only[go_sem,seval,Eu,h5];refine Aa hL ?_;simp only[go_sem,seval,Eu,h5];refine Ac hn ?_;simp only[go_sem,seval,Eu,h5];refine Ac Ot ?_;simp only[go_sem,seval,Eu,h5];exact Cs hQ trivial ⟨rfl,g0,g1⟩
theorem Alg{S:SyT}(K:GV)(t:Tm)(L:Nat)(hL:L<=1000000000) :
  RInv S (K.length+1) K.length (K++[[.undef],Bu 0 L 0 0 K.length,thR ⟨t,[],false,none,none⟩]) (K.map (fun r=>some (.kp r))++[none,none,some (.cl t [])]) ⟨0,L,0,0⟩:=by
 refine⟨by simp,?_,?_,?_,by omega,⟨[],?_,fun p hp=>by cases hp⟩,fun id g hg=>?_,Nat.zero_le _,hL,Nat.zero_le _,Nat.zero_le _⟩
 ·rw[List.getElem?_append_right (by omega)];simp[Mc.row]
 ·rw[List.getElem?_append_right (by simp)];simp
 ·rw[List.getElem?_append_right (by simp)];simp
 ·rw[List.getElem?_append_right (by omega)];simp[Hg]
 ·rcases Nat.lt_or_ge id K.length with h|h
  ·rw[List.getElem?_append_left (by simpa using h),List.getElem?_map,q_f h] at hg;simp only[Option.map_some,q_b] at hg;subst hg;exact⟨⟨t,[],false,none,none⟩,⟨by rw[List.getElem?_append_left h,q_f h],rfl⟩,fun v hv=>by cases hv⟩
  ·rw[List.getElem?_append_right (by simpa using h)] at hg;simp only[q_g] at hg;have h3:id-K.length=2:=by
    match hk:id-K.length,hg with
    |0,hg=>simp at hg
    |1,hg=>simp at hg
    |2,_=>rfl
    |n+3,hg=>simp at hg
   rw[h3] at hg;simp only[List.getElem?_cons_succ,List.getElem?_cons_zero,q_b] at hg;subst hg;refine⟨⟨t,[],false,none,none⟩,⟨?_,rfl,rfl,⟨rfl,fun q i hq=>by cases hq⟩,fun v hv=>by cases hv⟩,fun v hv=>by cases hv⟩;rw[List.getElem?_append_right h,h3];rfl
theorem kept{S:SyT}{m j:Nat}{G':GV}{Γ':Gh}{M':Mc}{K:GV}{Δ:Gh}(x:Gx (K.map (fun r=>some (.kp r))++Δ) Γ')(hi:RInv S m j G' Γ' M'){i:Nat}{r:List SV}(h:K[i]?=some r):G'[i]?=some r:=by
 refine hi.keep (x.get ?_);rw[List.getElem?_append_left (by simpa using Dh h),List.getElem?_map,h];rfl
def App(t:Tm):Prop:=∃B,Sf B t/\B+dpt t<=cap
theorem Am5{S:SyT}(Lb:Lib S){t:Tm}(ht:TOk t)(hp:Cb t=true)(hs:App t){b L:Nat}(hL:Con 34 [.float .f64 b] (.int .i64 L))(hLb:L<=1000000000) :
  (∃N r,NR S.B 0 (Ao [] 0 t) N r/\Con 14 [.agg true (tv t),.float .f64 b] (.tup [.agg true (tv r),.int .i64 0])) \/
  (Con 14 [.agg true (tv t),.float .f64 b] (.tup [.agg true (tv zt),.int .i64 6])/\∀N r,NR S.B 0 (Ao [] 0 t) N r->L<N\/8000000<tsz r):=by
 have hI:=Alg (S:=S) [Du,Et] t L hLb;have hd:dpt t<=cap:=by obtain⟨B,_,h⟩:=hs;omega
 obtain⟨out,G',q,p⟩:=Bdu Lb 8000000 (d:=0) (id:=4) (g:=.cl t []) hI (Nat.zero_le _) (by simp) (Nat.zero_le _) rfl ⟨fun u hu=>(by cases hu),hs,by simpa using hd⟩;cases p with
 |far x hi mm h=>exact absurd h (by simp)
 |@ret _ Γ' M' N r x hi mm hn Dn Ia h8=>
  exact .inl ⟨N,r,hn,A9k ht hp hL q (kept (K:=[Du,Et]) x hi rfl) (kept (K:=[Du,Et]) x hi rfl)⟩
 |@out _ Γ' M' x hi mm h=>
  refine .inr ⟨A9j ht hp hL q (kept (K:=[Du,Et]) x hi rfl) (kept (K:=[Du,Et]) x hi rfl),fun N r hn=>?_⟩;have:=h N r hn;simp only at this;omega
theorem Bhj:Tryz.prog.underlying 25=some (.float .f64):=by kernel_rfl
theorem Bhi{svs:List SV}(h:Hw Tryz.prog 25 svs):∃b,svs=[.float .f64 b]:=by
 have hu:=Bhj;cases h with
 |float _ k b h1 _=>rw[hu] at h1;cases h1;exact⟨b,rfl⟩
 |bool _ _ h1=>rw[hu] at h1;cases h1
 |int _ _ _ h1=>rw[hu] at h1;cases h1
 |str _ _ h1=>rw[hu] at h1;cases h1
 |slice _ _ _ h1=>rw[hu] at h1;cases h1
 |struct _ _ _ h1=>rw[hu] at h1;cases h1
theorem Aqh{x:SV}(h:Po Tryz.prog 25 x):∃b,x=.float .f64 b:=by
 cases h with
 |agg svs h1 _=>have e:Gc Tryz.prog 25=some false:=by kernel_rfl
                rw[e] at h1;cases h1
 |one x _ h2=>
  obtain⟨b,e⟩:=Bhi h2;cases e;exact⟨b,rfl⟩
theorem Apa{P:Program}{t:TypeId}{ts:List TypeId}{args:List SV}(h:Sx P (t::ts) args):∃x xs,args=x::xs/\Po P t x/\Sx P ts xs:=by
 cases args with
 |nil=>exact h.elim
 |cons x xs=>exact⟨x,xs,rfl,h.1,h.2⟩
theorem Bhh{P:Program}{args:List SV}(h:Sx P [] args):args=[]:=by
 cases args with
 |nil=>rfl
 |cons x xs=>exact h.elim
theorem own:ownKnob Tryz.prog.godebug=none:=by kernel_rfl
theorem laid:laidOutB Tryz.prog=true:=by kernel_rfl
structure HT where
 i:Int
 a:Tm
 b:Tm
 x:Tm
 y:Tm
 h:Tm
def HT.v(g:HT):List SV:=hv g.i g.a g.b g.x g.y g.h
structure HT.ok(g:HT):Prop where
 i:fit g.i
 a:TOk g.a
 b:TOk g.b
 x:TOk g.x
 y:TOk g.y
 h:TOk g.h
def zT:Tm:=.mk 0 0 0 0 []
theorem Alq:Le (.agg true [.int .i64 0,.int .i64 0,.int .i64 0,.int .i64 0,.nils]) (.agg true (tv zT)):=Mq 0 0 0 0
def us(n i j:Int)(l:List Tm):Tm:=.mk 23 i j n l
theorem tv_0{t:Tm}:(tv t)[0]?=some (.int .i64 t.k):=by cases t;rw[Am];rfl
theorem tmT:TmT Tryz.prog 24 22 3:=⟨by kernel_rfl,by kernel_rfl,by kernel_rfl,by kernel_rfl,by kernel_rfl⟩
theorem Ag1{x:SV}(h:Po Tryz.prog 24 x):∃t,x=.agg true (tv t)/\TOk t:=by
 cases h with
 |agg svs _ h2=>
  obtain⟨t,ht,rfl⟩:=(Apb tmT h2).1 rfl;exact⟨t,rfl,ht⟩
 |one x h1 _=>have e:Gc Tryz.prog 24=some true:=by kernel_rfl
              rw[e] at h1;cases h1
mutual
def Ks:Tm->Nat
 |.mk _ _ _ _ l=>Qb l+1
def Qb:List Tm->Nat
 |[]=>0
 |t::l=>max (Ks t) (Qb l)
end
theorem Ad4(k i j n:Int)(l:List Tm):Ks (.mk k i j n l)=Qb l+1:=by rw[Ks]
theorem Akc{t:Tm}:∀{l:List Tm},t∈l->Ks t<=Qb l:=by
 intro l
 induction l with
 |nil=>intro h;cases h
 |cons u l ih=>
  intro h;rw[Qb];rcases List.mem_cons.1 h with rfl|h
  ·omega
  ·have:=ih h;omega
theorem A4f{b:Nat}:∀{l:List Tm},(∀t∈l,Ks t<=b)->Qb l<=b:=by
 intro l
 induction l with
 |nil=>intro _;rw[Qb];omega
 |cons u l ih=>
  intro h;rw[Qb];have h1:=h u (by simp);have h2:=ih (fun t ht=>h t (by simp[ht]));omega
def Dj(a:Int)(V:Nat->Int->Int)(most:Int):Nat->Int
 |0=>a
 |x+1=>IntKind.i64.wrap (Dj a V most x+V x (IntKind.i64.wrap (most-Dj a V most x)))
theorem Bij(k i j n most deep:Int)(rows:GV)(hd:deep<0):Con 38 [.agg true [.int .i64 k,.int .i64 i,.int .i64 j,.int .i64 n,.dsl 5 rows],.int .i64 most,.int .i64 deep] (.int .i64 (IntKind.i64.wrap (most+1))):=by
 refine Al mixed Tryz.func38 tr38 ?_;simp only[go_sem,seval,hd]
theorem Bik(k i j n most deep:Int)(rows:GV)(W:List SV->Int->Int->Int)(h2:rows.length*56<=140737488355328)(h5:∀r∈rows,r.length=5)
  (H:∀r∈rows,∀m d,Con 38 [.agg true r,.int .i64 m,.int .i64 d] (.int .i64 (W r m d))) (hd:¬deep<0) (m:Nat) (Ml:m<=rows.length)
  (hm2:m=rows.length\/most<Lu W rows most (IntKind.i64.wrap (deep-1)) m) (Ub:∀y,y<m->¬most<Lu W rows most (IntKind.i64.wrap (deep-1)) y) :
  Con 38 [.agg true [.int .i64 k,.int .i64 i,.int .i64 j,.int .i64 n,.dsl 5 rows],.int .i64 most,.int .i64 deep] (.int .i64 (Lu W rows most (IntKind.i64.wrap (deep-1)) m)):=by
 refine Al mixed Tryz.func38 tr38 ?_;simp only[go_sem,seval,hd];refine Jj (fun x=>⟨(.J::.int .i64 most::.int .i64 deep::.ref 0 0 0 0::.J::.J::.int .i64 0::.int .i64 (Lu W rows most (IntKind.i64.wrap (deep-1)) x)::.int .i64 x::.J::.J::.J::.J::.J::.J::.J::.J::.J::.J::.J::.J::.J::.J::.J::.J::.J::.J::.J::.J::.J::.J::.J::.J::.J::.J::.J::.J::.J::.J::[]),[⟨true,5,[[.int .i64 k,.int .i64 i,.int .i64 j,.int .i64 n,.dsl 5 rows]],0,0,true⟩]⟩) m (fun x hx=>?_) ?_
 ·simp only[go_sem,seval];intro _
  by_cases hxm:x=m
  ·subst hxm;rcases hm2 with rfl|hm2
   ·have hl:¬((rows.length:Int)<(rows.length:Int)):=by omega
    simp only[go_sem,seval,hl]
   ·have hl:¬(Lu W rows most (IntKind.i64.wrap (deep-1)) x<=most):=by omega
    refine⟨fun h=>?_,fun h=>?_⟩
    ·simp only[go_sem,seval,h,hl]
    ·simp only[go_sem,seval,h,hl]
  ·have Fq:x<rows.length:=by omega
   have Zn:(x:Int)<(rows.length:Int):=by omega
   have e0:(0:Int)<=(x:Int):=by omega
   have hle:Lu W rows most (IntKind.i64.wrap (deep-1)) x<=most:=by have:=Ub x (by omega);omega
   have hm:=Ig (d:=[]) Fq;have Dw:=h5 _ hm;simp only[go_sem,seval,Zn,hle,e0,Dw];refine Aa (H _ hm _ _) ?_;simp only[go_sem,seval];refine⟨by omega,?_⟩;rw[w64 (n:=(x:Int)+1) (by unfold fit;omega)];exact Au (by simp[An,Lu])
 ·exact Au (by simp[An,Lu])
theorem Af0(W:List SV->Int->Int->Int)(rows:GV)(most d:Int):∀x,Lu W rows most d x=Dj 1 (fun y m=>W (rows[y]?.getD []) m d) most x:=by
 intro x
 induction x with
 |zero=>rfl
 |succ x ih=>rw[Lu,Dj,ih]
open Go Go.RowKit Go.Proofs.YtdpigpopcbjkmaaGreatDoor
theorem Cl(k p:Int):Con 65 [.int .i64 k,.int .i64 p] (.int .i64 (Bn k p)):=by
 refine Al mixed Tryz.func65 tr65 ?_
 by_cases h:k=3\/k=5\/k=6\/k=7\/k=8\/k=9\/k=13\/k=14\/k=16\/k=17
 ·have e:Bn k p=if p=1 then 1 else 0:=by unfold Bn;rw[if_pos h]
  rw[e];rcases h with rfl|rfl|rfl|rfl|rfl|rfl|rfl|rfl|rfl|rfl <;>
   (cases hp:(p==1)<;>simp only[beq_iff_eq,beq_eq_false_iff_ne,ne_eq] at hp<;>simp only[go_sem,seval,hp,Ag])
 ·by_cases h4:k=4
  ·subst h4;have e:Bn 4 p=if p=1\/p=2 then 1 else 0:=by unfold Bn;rw[if_neg (by decide),if_pos rfl]
   rw[e]
   by_cases h1:p=1
   ·subst h1;simp only[go_sem,seval]
   ·by_cases h2:p=2
    ·subst h2;simp only[go_sem,seval]
    ·rw[if_neg (by omega)];simp only[go_sem,seval,Ag h1,Ag h2]
  ·by_cases Cy:k=22
   ·subst Cy;have e:Bn 22 p=if p=2 then 2 else 0:=by unfold Bn;rw[if_neg (by decide),if_neg (by decide),if_pos rfl]
    rw[e]
    by_cases h2:p=2
    ·subst h2;simp only[go_sem,seval]
    ·rw[if_neg h2];simp only[go_sem,seval,Ag h2]
   ·have e:Bn k p=0:=by unfold Bn;rw[if_neg h,if_neg h4,if_neg Cy]
    rw[e];simp only[go_sem,seval,Ag (show k≠3 by omega),Ag h4,Ag (show k≠5 by omega),Ag (show k≠6 by omega),Ag (show k≠7 by omega),Ag (show k≠8 by omega),Ag (show k≠9 by omega),Ag (show k≠13 by omega),Ag (show k≠14 by omega),Ag (show k≠16 by omega),Ag (show k≠17 by omega),Ag Cy]
mutual
def Hr(k:Int):Int->Tm->Option Tm
 |fr,.mk kk i j n l=>
  if kk=2/\fr<=i then (if 2147483647-i<k then none else (Wq k fr kk 0 l).map (Tm.mk kk (i+k) j n))
  else (Wq k fr kk 0 l).map (Tm.mk kk i j n)
def Wq(k:Int):Int->Int->Nat->List Tm->Option (List Tm)
 |_,_,_,[]=>some []
 |fr,kk,p,t::l=>match Hr k (fr+Bn kk p) t with
  |none=>none
  |some u=>match Wq k fr kk (p+1) l with
   |none=>none
   |some r=>some (u::r)
end
def Ce{α β:Type}(X:Nat->α->Option β):Nat->List α->Option (List β)
 |_,[]=>some []
 |p,x::l=>match X p x with
  |none=>none
  |some u=>match Ce X (p+1) l with
   |none=>none
   |some r=>some (u::r)
theorem A7e(k fr kk:Int):∀(l:List Tm) (p:Nat),Wq k fr kk p l=Ce (fun p t=>Hr k (fr+Bn kk p) t) p l:=by
 intro l
 induction l with
 |nil=>intro p;rw[Wq];rfl
 |cons t l ih=>
  intro p;rw[Wq,Ce,ih];cases Hr k (fr+Bn kk p) t with
  |none=>rfl
  |some u=>cases Ce (fun p t=>Hr k (fr+Bn kk ((p:Nat):Int)) t) (p+1) l<;>rfl
theorem Ta{α β:Type}{X:Nat->α->Option β}{d:α}:∀{l:List α} {p i:Nat},i<l.length->X (p+i) (l[i]?.getD d)=none->Ce X p l=none:=by
 intro l
 induction l with
 |nil=>intro p i h;simp at h
 |cons x l ih=>
  intro p i hi h;rw[Ce];cases i with
  |zero=>have h':X p x=none:=by simpa using h
         rw[h']
  |succ i=>
   rw[ih (p:=p+1) (i:=i) (by simpa using hi) (by rw[show p+1+i=p+(i+1) by omega];simpa using h)];split<;>rfl
theorem Aco{α β:Type}{X:Nat->α->Option β}{d:α}{e:β}:∀{l:List α} {p:Nat},(∀i,i<l.length->X (p+i) (l[i]?.getD d)≠none)->Ce X p l=some ((List.range l.length).map fun i=>(X (p+i) (l[i]?.getD d)).getD e):=by
 intro l
 induction l with
 |nil=>intro p _;rfl
 |cons x l ih=>
  intro p h;have h0:=h 0 (by simp);simp only[Nat.add_zero,List.getElem?_cons_zero,Option.getD_some] at h0;have hr:=ih (p:=p+1) (fun i hi=>by
   have:=h (i+1) (by simp;omega);rw[show p+1+i=p+(i+1) by omega];simpa using this)
  rw[Ce];cases hx:X p x with
  |none=>exact absurd hx h0
  |some u=>
   simp only[hr];rw[List.length_cons,List.range_succ_eq_map,q_h,List.map_map];simp only[Nat.add_zero,List.getElem?_cons_zero,Option.getD_some,hx];congr 2;apply List.map_congr_left;intro i _;simp only[Function.comp,List.getElem?_cons_succ];rw[show p+1+i=p+(i+1) by omega]
theorem Acm{α β γ:Type}{X:Nat->β->Option γ}{g:α->β}:∀{l:List α} {p:Nat},Ce X p (l.map g)=Ce (fun i x=>X i (g x)) p l:=by
 intro l
 induction l with
 |nil=>intro p;rfl
 |cons x l ih=>intro p;simp only[q_h,Ce,ih]
theorem Acl{α β:Type}{X Y:Nat->α->Option β}:∀{l:List α} {p:Nat},(∀i,∀x∈l,X i x=Y i x)->Ce X p l=Ce Y p l:=by
 intro l
 induction l with
 |nil=>intro p _;rfl
 |cons x l ih=>
  intro p h;simp only[Ce];rw[h p x (by simp),ih (fun i y hy=>h i y (by simp[hy]))]
theorem Acn{α β γ:Type}{X:Nat->α->Option β}{g:β->γ}:∀{l:List α} {p:Nat},Ce (fun i x=>(X i x).map g) p l=(Ce X p l).map (List.map g):=by
 intro l
 induction l with
 |nil=>intro p;rfl
 |cons x l ih=>
  intro p;simp only[Ce];cases X p x with
  |none=>rfl
  |some u=>
   simp only[Option.map_some,ih];cases Ce X (p+1) l<;>rfl
def Di:Option (List SV)->SV
 |some r=>.tup [.agg true r,.bool true]
 |none=>.tup [.agg true (tv zT),.bool false]
theorem Aa0:Le (.tup [.agg true [.int .i64 0,.int .i64 0,.int .i64 0,.int .i64 0,.nils],.bool false]) (Di none):=by
 refine .tup _ _ (.cons _ _ _ _ ?_ (.cons _ _ _ _ (.cell _ _ (.refl _)) .nil));have h:=Alq;cases h with
 |val _ _ h=>exact h
theorem Alo(k i j n:Int):Le (.tup [.agg true [.int .i64 k,.int .i64 i,.int .i64 j,.int .i64 n,.nils],.bool true]) (Di (some [.int .i64 k,.int .i64 i,.int .i64 j,.int .i64 n,.dsl 5 []])):=by
 refine .tup _ _ (.cons _ _ _ _ ?_ (.cons _ _ _ _ (.cell _ _ (.refl _)) .nil));have h:=Mq k i j n;rw[Am] at h;cases h with
 |val _ _ h=>exact h
def Pd(kk i k fr:Int):Option Int:=if kk=2/\fr<=i then (if 2147483647-i<k then none else some (i+k)) else some i
def Aa2(kk i j n k fr:Int)(r:Option (GV)):Option (List SV):=
 (Pd kk i k fr).bind fun i'=>r.map fun rs=>[.int .i64 kk,.int .i64 i',.int .i64 j,.int .i64 n,.dsl 5 rs]
open Go Go.RowKit Go.Proofs.YtdpigpopcbjkmaaGreatDoor
theorem Avt(kk i j n k fr:Int)(rows:GV)(X:Nat->List SV->Option (List SV))(h2:rows.length*56<=140737488355328)(h5:∀r∈rows,r.length=5)
  (hi:kk=2->0<=i/\i<=2147483647) (hk:0<=k) (hfr:0<=fr) (hfr2:fr<=1000000000000) (hX:∀p:Nat,∀r∈rows,∀u,X p r=some u->u.length=5)
  (H:∀p:Nat,∀r∈rows,Con 107 [.agg true r,.int .i64 k,.int .i64 (fr+Bn kk p)] (Di (X p r))) :
  Con 107 [.agg true [.int .i64 kk,.int .i64 i,.int .i64 j,.int .i64 n,.dsl 5 rows],.int .i64 k,.int .i64 fr] (Di (Aa2 kk i j n k fr (Ce X 0 rows))):=by
 unfold Aa2;have main:∀i',Pd kk i k fr=some i'->Con 107 [.agg true [.int .i64 kk,.int .i64 i,.int .i64 j,.int .i64 n,.dsl 5 rows],.int .i64 k,.int .i64 fr] (Di ((Ce X 0 rows).map fun rs=>[.int .i64 kk,.int .i64 i',.int .i64 j,.int .i64 n,.dsl 5 rs])):=by
  intro i' hI;unfold Pd at hI;have Mo:((List.range rows.length).map fun p=>(X p (rows[p]?.getD [])).getD []).length=rows.length:=by simp
  have Nu:∀x,x<rows.length->((List.range rows.length).map fun p=>(X p (rows[p]?.getD [])).getD [])[x]?.getD []=(X x (rows[x]?.getD [])).getD []:=fun x hx=>by
   rw[List.getElem?_map,List.getElem?_range hx];rfl
  have Rv:(∀x,x<rows.length->X x (rows[x]?.getD [])≠none)->Ce X 0 rows=some ((List.range rows.length).map fun p=>(X p (rows[p]?.getD [])).getD []):=fun h=>by
   rw[Aco (d:=[]) (e:=[]) (fun x hx=>by rw[Nat.zero_add];exact h x hx)];simp only[Nat.zero_add]
  generalize ((List.range rows.length).map fun p=>(X p (rows[p]?.getD [])).getD [])=ys at *
  have hcase:(kk=2/\fr<=i/\IntKind.i64.wrap (2147483647-i)=2147483647-i/\¬2147483647-i<k/\IntKind.i64.wrap (i+k)=i'/\(kk==2)=true)\/(i'=i/\(kk==2)=false)\/(i'=i/\(kk==2)=true/\¬fr<=i):=by
   by_cases h1:kk=2
   ·by_cases h2:fr<=i
    ·rw[if_pos ⟨h1,h2⟩] at hI;obtain⟨g1,g2⟩:=hi h1;split at hI
     ·cases hI
     ·rename_i Ab;cases hI;exact .inl ⟨h1,h2,w64 (by unfold fit;omega),Ab,w64 (by unfold fit;omega),by simp[h1]⟩
    ·rw[if_neg (fun h=>h2 h.2)] at hI;cases hI;exact .inr (.inr ⟨rfl,by simp[h1],h2⟩)
   ·rw[if_neg (fun h=>h1 h.1)] at hI;cases hI;exact .inr (.inl ⟨rfl,by simp[h1]⟩)
  have core:∀r0,(Ce X 0 rows=none->r0=.tup [.agg true [.int .i64 0,.int .i64 0,.int .i64 0,.int .i64 0,.nils],.bool false]) ->
    (∀us,Ce X 0 rows=some us->r0=.tup [.agg true [.int .i64 kk,.int .i64 i',.int .i64 j,.int .i64 n,.dsl 5 us],.bool true]) ->
    Con 107 [.agg true [.int .i64 kk,.int .i64 i,.int .i64 j,.int .i64 n,.dsl 5 rows],.int .i64 k,.int .i64 fr] r0:=by
    intro r0 hn hs;refine Al mixed Tryz.func107 tr107 ?_;rcases hcase with⟨_,q1,q2,q3,q4,q5⟩|⟨rfl,q1⟩|⟨rfl,q1,q2⟩
    ·simp only[go_sem,seval,q1,q2,q3,q4,q5,Int.le_refl];clear q1 q2 q3 q4 q5;intros;refine Sq (fun x=>⟨(.J::.int .i64 k::.int .i64 fr::.ref 0 0 0 0::.J::.J::.ref 1 0 0 0::.J::.ref 2 0 0 0::.osl 3 x 0 x::.int .i64 x::.J::.J::.J::.J::.J::.J::.J::.J::.J::.J::.J::.J::.J::.J::.J::.J::.J::.J::.J::.J::.J::.J::.J::.J::.J::.J::.J::.J::.J::.J::.J::.J::.J::.J::.J::.J::.J::.J::.J::.J::.J::.J::.J::.J::.J::.J::.J::.J::.J::.J::.J::.J::.J::.J::.J::.J::.J::.J::.J::.J::.J::.J::.J::.J::.J::.J::.J::.J::[]),[⟨true,5,[[.int .i64 kk,.int .i64 i,.int .i64 j,.int .i64 n,.dsl 5 rows]],0,0,true⟩,⟨true,5,[[.int .i64 0,.int .i64 0,.int .i64 0,.int .i64 0,.nils]],0,0,true⟩,⟨true,5,[[.int .i64 kk,.int .i64 i',.int .i64 j,.int .i64 n,.nils]],0,0,true⟩,⟨false,5,ys.take x,x-1,x,true⟩]⟩) rows.length (fun x=>X x (rows[x]?.getD [])≠none) (fun x hx hp=>?_) ?_
     ·simp only[go_sem,seval];intros;refine⟨fun h=>?_,fun h=>?_⟩
      ·have Ab:=of_decide_eq_true h;have Cg:x<rows.length:=by omega
       have e0:(0:Int)<=(x:Int):=by omega
       have hm:=Ig (d:=[]) Cg;have Dw:=h5 _ hm;have hb:=Nb kk x;have ew:IntKind.i64.wrap (fr+Bn kk x)=fr+Bn kk x:=w64 (by unfold fit;omega);have hc:=H x _ hm;have Ea:¬4611686018427387904<fr:=by omega
       have e1:(ys.take x).length=x:=by simp;omega
       have e2:(x+1)*56<=140737488355328:=by omega
       have e3:x+1<=140737488355328:=by omega
       simp only[go_sem,seval,Ab,e0,Dw];refine Aa (Cl kk x) ?_;simp only[go_sem,seval,Ea,Ab,e0,Dw,ew];refine Aa hc ?_;cases Ek:X x (rows[x]?.getD []) with
       |none=>
        have Ci:=Af zT;simp only[go_sem,seval,Di,Ci];exact hn (Ta (d:=[]) (i:=x) Cg (by rw[Nat.zero_add];exact Ek))
       |some u=>
        have hu:=hX x _ hm u Ek;have hy:=Nu x Cg;rw[Ek,Option.getD_some] at hy;have tn:=Uz (l:=ys) (d:=[]) (i:=x) (by omega);rw[hy] at tn;simp only[go_sem,seval,Di,hu,Cg,e1,e2,e3,tn];rw[w64 (n:=(x:Int)+1) (by unfold fit;omega)];exact Dq 4 (by simp[An]) (by simp) (by simp[Bb]) (by simp)
      ·have Fu:=of_decide_eq_false h;have Kw:x=rows.length:=by omega
       have he:=Rv (fun y hy=>hp y (by omega));subst Kw;have ht:ys.take rows.length=ys:=by rw[<-Mo,List.take_length]
       simp only[go_sem,seval,h,Mo,ht];exact hs _ he
     ·exact .trans (.ghost _ 9 5 rfl) (Au (by simp[An]))
    ·simp only[go_sem,seval,q1,Int.le_refl];clear q1;intros;refine Sq (fun x=>⟨(.J::.int .i64 k::.int .i64 fr::.ref 0 0 0 0::.J::.J::.ref 1 0 0 0::.J::.ref 2 0 0 0::.osl 3 x 0 x::.int .i64 x::.J::.J::.J::.J::.J::.J::.J::.J::.J::.J::.J::.J::.J::.J::.J::.J::.J::.J::.J::.J::.J::.J::.J::.J::.J::.J::.J::.J::.J::.J::.J::.J::.J::.J::.J::.J::.J::.J::.J::.J::.J::.J::.J::.J::.J::.J::.J::.J::.J::.J::.J::.J::.J::.J::.J::.J::.J::.J::.J::.J::.J::.J::.J::.J::.J::.J::.J::.J::[]),[⟨true,5,[[.int .i64 kk,.int .i64 i',.int .i64 j,.int .i64 n,.dsl 5 rows]],0,0,true⟩,⟨true,5,[[.int .i64 0,.int .i64 0,.int .i64 0,.int .i64 0,.nils]],0,0,true⟩,⟨true,5,[[.int .i64 kk,.int .i64 i',.int .i64 j,.int .i64 n,.nils]],0,0,true⟩,⟨false,5,ys.take x,x-1,x,true⟩]⟩) rows.length (fun x=>X x (rows[x]?.getD [])≠none) (fun x hx hp=>?_) ?_
     ·simp only[go_sem,seval];intros;refine⟨fun h=>?_,fun h=>?_⟩
      ·have Ab:=of_decide_eq_true h;have Cg:x<rows.length:=by omega
       have e0:(0:Int)<=(x:Int):=by omega
       have hm:=Ig (d:=[]) Cg;have Dw:=h5 _ hm;have hb:=Nb kk x;have ew:IntKind.i64.wrap (fr+Bn kk x)=fr+Bn kk x:=w64 (by unfold fit;omega);have hc:=H x _ hm;have Ea:¬4611686018427387904<fr:=by omega
       have e1:(ys.take x).length=x:=by simp;omega
       have e2:(x+1)*56<=140737488355328:=by omega
       have e3:x+1<=140737488355328:=by omega
       simp only[go_sem,seval,Ab,e0,Dw];refine Aa (Cl kk x) ?_;simp only[go_sem,seval,Ea,Ab,e0,Dw,ew];refine Aa hc ?_;cases Ek:X x (rows[x]?.getD []) with
       |none=>
        have Ci:=Af zT;simp only[go_sem,seval,Di,Ci];exact hn (Ta (d:=[]) (i:=x) Cg (by rw[Nat.zero_add];exact Ek))
       |some u=>
        have hu:=hX x _ hm u Ek;have hy:=Nu x Cg;rw[Ek,Option.getD_some] at hy;have tn:=Uz (l:=ys) (d:=[]) (i:=x) (by omega);rw[hy] at tn;simp only[go_sem,seval,Di,hu,Cg,e1,e2,e3,tn];rw[w64 (n:=(x:Int)+1) (by unfold fit;omega)];exact Dq 4 (by simp[An]) (by simp) (by simp[Bb]) (by simp)
      ·have Fu:=of_decide_eq_false h;have Kw:x=rows.length:=by omega
       have he:=Rv (fun y hy=>hp y (by omega));subst Kw;have ht:ys.take rows.length=ys:=by rw[<-Mo,List.take_length]
       simp only[go_sem,seval,h,Mo,ht];exact hs _ he
     ·exact .trans (.ghost _ 9 5 rfl) (Au (by simp[An]))
    ·simp only[go_sem,seval,q1,q2,Int.le_refl];clear q1 q2;intros;refine Sq (fun x=>⟨(.J::.int .i64 k::.int .i64 fr::.ref 0 0 0 0::.J::.J::.ref 1 0 0 0::.J::.ref 2 0 0 0::.osl 3 x 0 x::.int .i64 x::.J::.J::.J::.J::.J::.J::.J::.J::.J::.J::.J::.J::.J::.J::.J::.J::.J::.J::.J::.J::.J::.J::.J::.J::.J::.J::.J::.J::.J::.J::.J::.J::.J::.J::.J::.J::.J::.J::.J::.J::.J::.J::.J::.J::.J::.J::.J::.J::.J::.J::.J::.J::.J::.J::.J::.J::.J::.J::.J::.J::.J::.J::.J::.J::.J::.J::.J::.J::[]),[⟨true,5,[[.int .i64 kk,.int .i64 i',.int .i64 j,.int .i64 n,.dsl 5 rows]],0,0,true⟩,⟨true,5,[[.int .i64 0,.int .i64 0,.int .i64 0,.int .i64 0,.nils]],0,0,true⟩,⟨true,5,[[.int .i64 kk,.int .i64 i',.int .i64 j,.int .i64 n,.nils]],0,0,true⟩,⟨false,5,ys.take x,x-1,x,true⟩]⟩) rows.length (fun x=>X x (rows[x]?.getD [])≠none) (fun x hx hp=>?_) ?_
     ·simp only[go_sem,seval];intros;refine⟨fun h=>?_,fun h=>?_⟩
      ·have Ab:=of_decide_eq_true h;have Cg:x<rows.length:=by omega
       have e0:(0:Int)<=(x:Int):=by omega
       have hm:=Ig (d:=[]) Cg;have Dw:=h5 _ hm;have hb:=Nb kk x;have ew:IntKind.i64.wrap (fr+Bn kk x)=fr+Bn kk x:=w64 (by unfold fit;omega);have hc:=H x _ hm;have Ea:¬4611686018427387904<fr:=by omega
       have e1:(ys.take x).length=x:=by simp;omega
       have e2:(x+1)*56<=140737488355328:=by omega
       have e3:x+1<=140737488355328:=by omega
       simp only[go_sem,seval,Ab,e0,Dw];refine Aa (Cl kk x) ?_;simp only[go_sem,seval,Ea,Ab,e0,Dw,ew];refine Aa hc ?_;cases Ek:X x (rows[x]?.getD []) with
       |none=>
        have Ci:=Af zT;simp only[go_sem,seval,Di,Ci];exact hn (Ta (d:=[]) (i:=x) Cg (by rw[Nat.zero_add];exact Ek))
       |some u=>
        have hu:=hX x _ hm u Ek;have hy:=Nu x Cg;rw[Ek,Option.getD_some] at hy;have tn:=Uz (l:=ys) (d:=[]) (i:=x) (by omega);rw[hy] at tn;simp only[go_sem,seval,Di,hu,Cg,e1,e2,e3,tn];rw[w64 (n:=(x:Int)+1) (by unfold fit;omega)];exact Dq 4 (by simp[An]) (by simp) (by simp[Bb]) (by simp)
      ·have Fu:=of_decide_eq_false h;have Kw:x=rows.length:=by omega
       have he:=Rv (fun y hy=>hp y (by omega));subst Kw;have ht:ys.take rows.length=ys:=by rw[<-Mo,List.take_length]
       simp only[go_sem,seval,h,Mo,ht];exact hs _ he
     ·exact .trans (.ghost _ 9 5 rfl) (Au (by simp[An]))
  cases hA:Ce X 0 rows with
  |none=>
   refine (core _ (fun _=>rfl) (fun us h=>?_)).weaken Aa0;rw[hA] at h;cases h
  |some us=>
   refine core _ (fun h=>?_) (fun us' h=>?_)
   ·rw[hA] at h;cases h
   ·rw[hA] at h;cases h;rfl
 cases hI:Pd kk i k fr with
 |some i'=>exact main i' hI
 |none=>
  simp only[Option.bind_none];unfold Pd at hI;split at hI;rotate_left
  ·cases hI
  rename_i hc;obtain⟨rfl,hle⟩:=hc;split at hI;rotate_left
  ·cases hI
  rename_i Ab;obtain⟨g1,g2⟩:=hi rfl;refine (Al (r:=.tup [.agg true [.int .i64 0,.int .i64 0,.int .i64 0,.int .i64 0,.nils],.bool false]) mixed Tryz.func107 tr107 ?_).weaken Aa0;have ew:IntKind.i64.wrap (2147483647-i)=2147483647-i:=w64 (by unfold fit;omega);simp only[go_sem,seval,hle,ew,Ab]
theorem Ap3{α:Type}{f:Nat->α->Bool}{x:α}:∀{l:List α} {p:Nat},Ha f p l=true->x∈l->∃q,f q x=true:=by
 intro l
 induction l with
 |nil=>intro p _ h;cases h
 |cons y l ih=>
  intro p h hx;rw[Ha,Bool.and_eq_true] at h;rcases List.mem_cons.1 hx with rfl|hx
  ·exact⟨p,h.1⟩
  ·exact ih h.2 hx
theorem Xb{k i j n w:Int}{l:List Tm}{t:Tm}(h:Es (.mk k i j n l) w=true)(ht:t∈l):∃w',Es t w'=true:=by
 rw[Uy,Bool.and_eq_true] at h;obtain⟨q,hq⟩:=Ap3 h.2 ht;exact⟨_,hq⟩
theorem Abp{k i j n w:Int}{l:List Tm}(h:Es (.mk k i j n l) w=true)(hk:k=2):0<=i/\i<=2147483647:=by
 rw[Uy,Bool.and_eq_true] at h;have h1:=h.1;unfold Ic at h1;rw[Bool.and_eq_true,Bool.and_eq_true] at h1;have h2:=h1.2.2;unfold Lq at h2;rw[if_neg (by omega),if_pos hk] at h2;simp only[Bool.and_eq_true,decide_eq_true_eq] at h2;exact⟨h2.1,h2.2.1⟩
theorem Afa(kk i j n k fr:Int)(l:List Tm):Hr k fr (.mk kk i j n l)=(Pd kk i k fr).bind fun i'=>(Ce (fun p t=>Hr k (fr+Bn kk p) t) 0 l).map (Tm.mk kk i' j n):=by
 rw[Hr,A7e];unfold Pd;split
 ·split<;>rfl
 ·rfl
theorem A7f(kk i j n k fr:Int)(l:List Tm):Aa2 kk i j n k fr (Ce (fun p r=>onT (fun t=>(Hr k (fr+Bn kk (p:Nat)) t).map tv) none r) 0 (l.map tv))=(Hr k fr (.mk kk i j n l)).map tv:=by
 rw[Acm,Acl (Y:=fun p t=>(Hr k (fr+Bn kk (p:Nat)) t).map tv) (fun p t _=>by rw[Jg]),Acn,Afa];unfold Aa2;cases Pd kk i k fr with
 |none=>rfl
 |some i'=>
  simp only[Option.bind_some,Option.map_map];congr 1;funext rs;simp only[Function.comp,Am]
theorem Avs(k:Int)(hk:0<=k)(t:Tm):TOk t->∀(w fr:Int),Es t w=true->0<=fr->fr+2*Ks t<=1000000000000 ->
  Con 107 [.agg true (tv t),.int .i64 k,.int .i64 fr] (Di ((Hr k fr t).map tv)):=by
 induction t using Tm.ind with
 |h kk i j n l ih=>
  intro hok w fr hr hf Ef;cases hok with
  |mk _ _ _ _ _ f1 f2 f3 f4 hb hl=>
  rw[Ad4] at Ef;have h:=Avt kk i j n k fr (l.map tv) (fun p r=>onT (fun t=>(Hr k (fr+Bn kk (p:Nat)) t).map tv) none r) (by simpa using hb) (rows5 l) (Abp hr) hk hf (by omega)
   (fun p r hr u hu=>by
    obtain⟨t,ht,rfl⟩:=List.mem_map.1 hr;simp only[Jg] at hu;cases he:Hr k (fr+Bn kk (p:Nat)) t with
    |none=>rw[he] at hu;cases hu
    |some v=>rw[he] at hu;cases hu;exact Af v)
   (fun p r Fz=>by
    obtain⟨t,ht,rfl⟩:=List.mem_map.1 Fz;simp only[Jg];obtain⟨w',hw⟩:=Xb hr ht;have hm:=Akc ht;have hbl:=Nb kk p;exact ih t ht (hl t ht) w' _ hw (by omega) (by omega))
  rw[A7f,<-Am] at h;exact h
theorem Avu(t:Tm):TOk t->∃z,Con 64 [.agg true (tv t)] (.bool z):=by
 induction t using Tm.ind with
 |h k i j n l ih=>
  intro hok;cases hok with
  |mk _ _ _ _ _ f1 f2 f3 f4 hb hl=>
  have h:=Avv k i j n (l.map tv) (fun p r=>onT (fun t=>if ((k==12) && ((p:Int)==2))=true then Cb t else Classical.epsilon (fun z=>Con 64 [.agg true (tv t)] (.bool z))) false r) (by simpa using hb) (rows5 l)
   (fun p r hr hc=>by
    obtain⟨t,ht,rfl⟩:=List.mem_map.1 hr;simp only[Jg];rw[if_pos hc];exact Vr t (hl t ht))
   (fun p r hr hc=>by
    obtain⟨t,ht,rfl⟩:=List.mem_map.1 hr;simp only[Jg];rw[if_neg (by rw[hc];exact Bool.false_ne_true)];exact Classical.epsilon_spec (ih t ht (hl t ht)))
  rw[<-Am] at h;exact⟨_,h⟩
theorem q9(t:Tm)(ht:TOk t)(hp:Cb t=true):Con 40 [.agg true (tv t)] (.bool true):=by
 refine Al mixed Tryz.func40 tr40 ?_;obtain⟨z,h1⟩:=Avu t ht;have h2:=Vr t ht;rw[hp] at h2;have hz:=Af t;simp only[go_sem,seval,hz];refine Aa h1 ?_;cases z<;>simp only[go_sem,seval,hz];refine Aa h2 ?_;simp only[go_sem,seval]
mutual
def Ht(u:Tm):Int->Tm->Option Tm
 |d,.mk kk i j n l=>
  if kk=2/\d<=i then (if i=d then Hr d 0 u else some (vr (i-1)))
  else (f7 u d kk 0 l).map (Tm.mk kk i j n)
def f7(u:Tm):Int->Int->Nat->List Tm->Option (List Tm)
 |_,_,_,[]=>some []
 |d,kk,p,t::l=>match Ht u (d+Bn kk p) t with
  |none=>none
  |some v=>match f7 u d kk (p+1) l with
   |none=>none
   |some r=>some (v::r)
end
theorem Bdm(u:Tm)(d kk:Int):∀(l:List Tm) (p:Nat),f7 u d kk p l=Ce (fun p t=>Ht u (d+Bn kk p) t) p l:=by
 intro l
 induction l with
 |nil=>intro p;rw[f7];rfl
 |cons t l ih=>
  intro p;rw[f7,Ce,ih];cases Ht u (d+Bn kk p) t with
  |none=>rfl
  |some v=>cases Ce (fun p t=>Ht u (d+Bn kk ((p:Nat):Int)) t) (p+1) l<;>rfl
theorem Afn{u:Tm}{d kk i j n:Int}{l:List Tm}(h:kk=2/\d<=i):Ht u d (.mk kk i j n l)=if i=d then Hr d 0 u else some (vr (i-1)):=by
 rw[Ht,if_pos h]
theorem Abj{u:Tm}{d kk i j n:Int}{l:List Tm}(h:¬(kk=2/\d<=i)):Ht u d (.mk kk i j n l)=(Ce (fun p t=>Ht u (d+Bn kk p) t) 0 l).map (Tm.mk kk i j n):=by
 rw[Ht,if_neg h,Bdm]
theorem Bdo{u:Tm}{d kk i j n:Int}{l:List Tm}(h:¬(kk=2/\d<=i)) :
  ((Ce (fun p r=>onT (fun t=>(Ht u (d+Bn kk (p:Nat)) t).map tv) none r) 0 (l.map tv)).map fun rs=>[.int .i64 kk,.int .i64 i,.int .i64 j,.int .i64 n,.dsl 5 rs])=(Ht u d (.mk kk i j n l)).map tv:=by
 rw[Acm,Acl (Y:=fun p t=>(Ht u (d+Bn kk (p:Nat)) t).map tv) (fun p t _=>by rw[Jg]),Acn,Abj h];simp only[Option.map_map];congr 1;funext rs;simp only[Function.comp,Am]
theorem Bbi{t:Tm}(h:Cb t=true):t.k=1\/t.k=2\/13<=t.k:=by
 cases t with
 |mk k i j n l=>
 show k=1\/k=2\/13<=k;have h':Es (.mk k i j n l) 2=true:=h;rw[Uy,Bool.and_eq_true] at h';have h1:=h'.1;unfold Ic at h1;rw[Bool.and_eq_true] at h1;have h2:=h1.1;unfold Ie at h2
 by_cases a:k=1\/k=2
 ·omega
 ·rw[if_neg a] at h2
  by_cases b:k<=12
  ·rw[if_pos b] at h2;exact absurd h2 (by decide)
  ·omega
open Go Go.RowKit Go.Proofs.YtdpigpopcbjkmaaGreatDoor
theorem Av7(t:Tm)(ht:TOk t)(hp:Cb t=true):Con 141 [.agg true (tv t)] (.agg true (tv t)):=by
 have h:=Vr t ht;rw[hp] at h;have hz:=Af t;refine Al mixed Tryz.func141 tr141 ?_;simp only[go_sem,seval,hz];refine Aa h ?_;simp only[go_sem,seval,hz]
theorem Ahx(u:Tm)(hu:TOk u)(hp:Cb u=true)(d:Int)(hd:0<=d)(b:Bool)(hh:(2:Int)*Ks u<=1000000000000):Con 128 [.agg true (tv u),.int .i64 d,.bool b] (Di ((Hr d 0 u).map tv)):=by
 have h1:=Av7 u hu hp;have h2:=Avs d hd u hu 2 0 hp (by omega) (by omega);have hz:=Af u;refine Al mixed Tryz.func128 tr128 ?_;cases hl:Hr d 0 u with
 |none=>
  rw[hl] at h2;have Hp:=Af zT;cases b
  ·simp only[go_sem,seval,hz];refine Aa h2 ?_;simp only[go_sem,seval,Di,Option.map_none,Hp]
  ·simp only[go_sem,seval,hz];refine Aa h1 ?_;simp only[go_sem,seval,hz];refine Aa h2 ?_;simp only[go_sem,seval,Di,Option.map_none,Hp]
 |some v=>
  rw[hl] at h2;have Hp:=Af v;cases b
  ·simp only[go_sem,seval,hz];refine Aa h2 ?_;simp only[go_sem,seval,Di,Option.map_some,Hp]
  ·simp only[go_sem,seval,hz];refine Aa h1 ?_;simp only[go_sem,seval,hz];refine Aa h2 ?_;simp only[go_sem,seval,Di,Option.map_some,Hp]
theorem Ahw(kk i j n p:Int)(rows:GV):∃z,Con 129 [.agg true [.int .i64 kk,.int .i64 i,.int .i64 j,.int .i64 n,.dsl 5 rows],.int .i64 p] (.bool z):=by
 by_cases h:12<kk
 ·refine⟨true,Al mixed Tryz.func129 tr129 ?_⟩;simp only[go_sem,seval,h]
 ·cases Lh:(kk==12)<;>cases h2:(p==2)
  ·refine⟨false,Al mixed Tryz.func129 tr129 ?_⟩;simp only[go_sem,seval,h,Lh,h2]
  ·refine⟨false,Al mixed Tryz.func129 tr129 ?_⟩;simp only[go_sem,seval,h,Lh,h2]
  ·refine⟨false,Al mixed Tryz.func129 tr129 ?_⟩;simp only[go_sem,seval,h,Lh,h2]
  ·refine⟨true,Al mixed Tryz.func129 tr129 ?_⟩;simp only[go_sem,seval,h,Lh,h2]
theorem Av5(kk i j n d:Int)(b:Bool)(u:Tm)(rows:GV)(X:Nat->List SV->Option (List SV))(h2:rows.length*56<=140737488355328)(h5:∀r∈rows,r.length=5)
  (hv:¬kk=2) (hd:0<=d) (Fh:d<=1000000000000) (hX:∀p:Nat,∀r∈rows,∀u,X p r=some u->u.length=5)
  (H:∀p:Nat,∀r∈rows,∀b',Con 114 [.agg true r,.agg true (tv u),.int .i64 (d+Bn kk p),.bool b'] (Di (X p r))) :
  Con 114 [.agg true [.int .i64 kk,.int .i64 i,.int .i64 j,.int .i64 n,.dsl 5 rows],.agg true (tv u),.int .i64 d,.bool b] (Di ((Ce X 0 rows).map fun rs=>[.int .i64 kk,.int .i64 i,.int .i64 j,.int .i64 n,.dsl 5 rs])):=by
 have Mo:((List.range rows.length).map fun p=>(X p (rows[p]?.getD [])).getD []).length=rows.length:=by simp
 have Nu:∀x,x<rows.length->((List.range rows.length).map fun p=>(X p (rows[p]?.getD [])).getD [])[x]?.getD []=(X x (rows[x]?.getD [])).getD []:=fun x hx=>by
  rw[List.getElem?_map,List.getElem?_range hx];rfl
 have Rv:(∀x,x<rows.length->X x (rows[x]?.getD [])≠none)->Ce X 0 rows=some ((List.range rows.length).map fun p=>(X p (rows[p]?.getD [])).getD []):=fun h=>by
  rw[Aco (d:=[]) (e:=[]) (fun x hx=>by rw[Nat.zero_add];exact h x hx)];simp only[Nat.zero_add]
 generalize ((List.range rows.length).map fun p=>(X p (rows[p]?.getD [])).getD [])=ys at *
 have q1:(kk==2)=false:=by simp[hv]
 have Cp:=Af u;have core:∀r0,(Ce X 0 rows=none->r0=.tup [.agg true [.int .i64 0,.int .i64 0,.int .i64 0,.int .i64 0,.nils],.bool false]) ->
   (∀us,Ce X 0 rows=some us->r0=.tup [.agg true [.int .i64 kk,.int .i64 i,.int .i64 j,.int .i64 n,.dsl 5 us],.bool true]) ->
   Con 114 [.agg true [.int .i64 kk,.int .i64 i,.int .i64 j,.int .i64 n,.dsl 5 rows],.agg true (tv u),.int .i64 d,.bool b] r0:=by
  intro r0 hn hs;refine Al mixed Tryz.func114 tr114 ?_;simp only[go_sem,seval,q1,Cp];clear q1;intros;refine Sq (fun x=>⟨(.J::.J::.int .i64 d::.bool b::.ref 0 0 0 0::.ref 1 0 0 0::.J::.J::.ref 2 0 0 0::.J::.ref 3 0 0 0::.osl 4 x 0 x::.int .i64 x::.J::.J::.J::.J::.J::.J::.J::.J::.J::.J::.J::.J::.J::.J::.J::.J::.J::.J::.J::.J::.J::.J::.J::.J::.J::.J::.J::.J::.J::.J::.J::.J::.J::.J::.J::.J::.J::.J::.J::.J::.J::.J::.J::.J::.J::.J::.J::.J::.J::.J::.J::.J::.J::.J::.J::.J::.J::.J::.J::.J::.J::.J::.J::.J::.J::.J::.J::.J::.J::.J::.J::.J::[]),[⟨true,5,[[.int .i64 kk,.int .i64 i,.int .i64 j,.int .i64 n,.dsl 5 rows]],0,0,true⟩,⟨true,5,[tv u],0,0,true⟩,⟨true,5,[[.int .i64 0,.int .i64 0,.int .i64 0,.int .i64 0,.nils]],0,0,true⟩,⟨true,5,[[.int .i64 kk,.int .i64 i,.int .i64 j,.int .i64 n,.nils]],0,0,true⟩,⟨false,5,ys.take x,x-1,x,true⟩]⟩) rows.length (fun x=>X x (rows[x]?.getD [])≠none) (fun x hx hp=>?_) ?_
  ·simp only[go_sem,seval];intros;refine⟨fun h=>?_,fun h=>?_⟩
   ·have Ab:=of_decide_eq_true h;have Cg:x<rows.length:=by omega
    have e0:(0:Int)<=(x:Int):=by omega
    have hm:=Ig (d:=[]) Cg;have Dw:=h5 _ hm;have hb:=Nb kk x;have ew:IntKind.i64.wrap (d+Bn kk x)=d+Bn kk x:=w64 (by unfold fit;omega);have hc:=H x _ hm;obtain⟨z,hz⟩:=Ahw kk i j n x rows;have e1:(ys.take x).length=x:=by simp;omega
    have e2:(x+1)*56<=140737488355328:=by omega
    have e3:x+1<=140737488355328:=by omega
    cases b
    ·simp only[go_sem,seval,Ab,e0,Dw,Cp];refine Aa (Cl kk x) ?_;simp only[go_sem,seval,Ab,e0,Dw,ew,Cp];refine Aa hz ?_;simp only[go_sem,seval,Ab,e0,Dw,ew,Cp];refine Aa (hc z) ?_;cases Ek:X x (rows[x]?.getD []) with
     |none=>
      have Ci:=Af zT;simp only[go_sem,seval,Di,Ci];exact hn (Ta (d:=[]) (i:=x) Cg (by rw[Nat.zero_add];exact Ek))
     |some u=>
      have hu:=hX x _ hm u Ek;have hy:=Nu x Cg;rw[Ek,Option.getD_some] at hy;have tn:=Uz (l:=ys) (d:=[]) (i:=x) (by omega);rw[hy] at tn;simp only[go_sem,seval,Di,hu,Cg,e1,e2,e3,tn];rw[w64 (n:=(x:Int)+1) (by unfold fit;omega)];exact Dq 5 (by simp[An]) (by simp) (by simp[Bb]) (by simp)
    ·simp only[go_sem,seval,Ab,e0,Dw,Cp];refine Aa (Cl kk x) ?_;simp only[go_sem,seval,Ab,e0,Dw,ew,Cp];refine Aa (hc true) ?_;cases Ek:X x (rows[x]?.getD []) with
     |none=>
      have Ci:=Af zT;simp only[go_sem,seval,Di,Ci];exact hn (Ta (d:=[]) (i:=x) Cg (by rw[Nat.zero_add];exact Ek))
     |some u=>
      have hu:=hX x _ hm u Ek;have hy:=Nu x Cg;rw[Ek,Option.getD_some] at hy;have tn:=Uz (l:=ys) (d:=[]) (i:=x) (by omega);rw[hy] at tn;simp only[go_sem,seval,Di,hu,Cg,e1,e2,e3,tn];rw[w64 (n:=(x:Int)+1) (by unfold fit;omega)];exact Dq 5 (by simp[An]) (by simp) (by simp[Bb]) (by simp)
   ·have Fu:=of_decide_eq_false h;have Kw:x=rows.length:=by omega
    have he:=Rv (fun y hy=>hp y (by omega));subst Kw;have ht:ys.take rows.length=ys:=by rw[<-Mo,List.take_length]
    simp only[go_sem,seval,h,Mo,ht];exact hs _ he
  ·exact .trans (.ghost _ 11 5 rfl) (Au (by simp[An]))
 cases hA:Ce X 0 rows with
 |none=>
  refine (core _ (fun _=>rfl) (fun us h=>?_)).weaken Aa0;rw[hA] at h;cases h
 |some us=>
  refine core _ (fun h=>?_) (fun us' h=>?_)
  ·rw[hA] at h;cases h
  ·rw[hA] at h;cases h;rfl
end Go.Proofs.YtdpigpopcbjkmaaGreatDoor.Abs
