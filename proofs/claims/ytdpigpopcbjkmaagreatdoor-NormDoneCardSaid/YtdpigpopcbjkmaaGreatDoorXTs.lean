import Derived.Test.YtdpigpopcbjkmaaGreatDoorXRo
import Derived.Test.YtdpigpopcbjkmaaGreatDoorXLd
import Derived.Test.YtdpigpopcbjkmaaGreatDoorXFg
import Derived.Test.YtdpigpopcbjkmaaGreatDoorXDo
import Derived.Test.YtdpigpopcbjkmaaGreatDoorXMn
import Derived.Test.YtdpigpopcbjkmaaGreatDoorXRw
import Derived.Test.YtdpigpopcbjkmaaGreatDoorXEv
set_option linter.unusedSimpArgs false
set_option linter.unusedVariables false
set_option maxRecDepth 20000
set_option maxHeartbeats 4000000
namespace Go.Proofs.YtdpigpopcbjkmaaGreatDoor.Abs
open Go Go.RowKit Go.Proofs.YtdpigpopcbjkmaaGreatDoor
def s0:Tm:=.mk 1 0 0 0 []
def wkT:Tm:=.mk 15 0 0 0 [.mk 14 0 0 0 [.mk 1 1 0 0 [],.mk 2 0 0 0 []],.mk 1 0 0 0 []]
def wkG(s:Int):GV:=[[.undef],Bu 0 1 s 0 0,thR ⟨wkT,[],false,none,none⟩]
def vS0:Vl:=⟨1,0,0,0,0,[]⟩
theorem Bio(s:Int):∃G' th,Ad 68 (wkG s) [.gp 1 0,.gp 2 0] (.ret (vlV vS0)) G'/\G'[2]?=some (thR th):=by
 have hl:∀G:GV,EvL G 1 (.mk 14 0 0 0 [.mk 1 1 0 0 [],.mk 2 0 0 0 []]) [] (.ret (vlV (Gz 14 0 0 0 [.mk 1 1 0 0 [],.mk 2 0 0 0 []] G.length))) (G++Fr (-1) none [] 0 [.mk 1 1 0 0 [],.mk 2 0 0 0 []]):=fun G=>u3 (by simp) (by omega) (by omega)
 have hs:∀G:GV,EvL G 1 (.mk 1 0 0 0 []) [] (.ret (vlV vS0)) (G++[]):=fun G=>u3 (by simp) (by omega) (by omega)
 have h5:fit 0:=by unfold fit;omega
 have h6:fit 1:=by unfold fit;omega
 refine⟨_,_,Acb (th:=⟨wkT,[],false,none,none⟩) (th1:=⟨wkT,[],false,none,none⟩) rfl rfl rfl (Dz (Ail (m:=1) (id:=4) (th:=⟨.mk 2 0 0 0 [],[],false,none,none⟩) (Dz (hl (wkG s))) rfl rfl (Ajw (m:=1) (j:=0) (steps:=0) (most:=1) (seen:=s) (guess:=0) rfl h5 (by omega) (by omega) h6) rfl rfl h6
  (Aiz (i:=0) (id:=5) h5 rfl (Acb (th:=⟨s0,[],false,none,none⟩) (th1:=⟨s0,[],false,none,none⟩) rfl rfl rfl (Dz (hs _)) rfl) ⟨_,rfl⟩))) rfl,rfl⟩
theorem Apn(s:Int):∃G',Ad 46 (wkG s) [.gp 1 0,.gp 2 0] (.ret (vlV vS0)) G':=by
 obtain⟨G',th,h,h2⟩:=Bio s;exact⟨_,A4b (th:=⟨wkT,[],false,none,none⟩) rfl rfl h h2 (.base (by decide) (by decide))⟩
theorem Bin:∃G',Ad 35 (wkG 0) [.gp 1 0,.gp 2 0,.int .i64 0] (.ret (.agg true (tv s0))) G':=by
 obtain⟨G',h⟩:=Apn 1;exact⟨_,Bdv (m:=1) (j:=0) (steps:=0) (most:=1) (seen:=0) (guess:=0) (v:=vS0) rfl (by unfold fit;omega) (by omega) (by omega) (by omega) h (by decide) rfl⟩
theorem Ao0:TOk wkT:=by
 have f:∀n:Int,0<=n->n<=100->fit n:=fun n h1 h2=>by unfold fit;omega
 refine .mk _ _ _ _ _ (f _ (by omega) (by omega)) (f _ (by omega) (by omega)) (f _ (by omega) (by omega)) (f _ (by omega) (by omega)) (by simp) (fun t ht=>?_);simp only[List.mem_cons,List.not_mem_nil,or_false] at ht;rcases ht with rfl|rfl
 ·refine .mk _ _ _ _ _ (f _ (by omega) (by omega)) (f _ (by omega) (by omega)) (f _ (by omega) (by omega)) (f _ (by omega) (by omega)) (by simp) (fun t ht=>?_);simp only[List.mem_cons,List.not_mem_nil,or_false] at ht;rcases ht with rfl|rfl<;>exact .mk _ _ _ _ _ (f _ (by omega) (by omega)) (f _ (by omega) (by omega)) (f _ (by omega) (by omega)) (f _ (by omega) (by omega)) (by simp) (fun t ht=>by cases ht)
 ·exact .mk _ _ _ _ _ (f _ (by omega) (by omega)) (f _ (by omega) (by omega)) (f _ (by omega) (by omega)) (f _ (by omega) (by omega)) (by simp) (fun t ht=>by cases ht)
theorem norm_wk:Con 14 [.agg true (tv wkT),.float .f64 4607182418800017408] (.tup [.agg true (tv s0),.int .i64 0]):=by
 refine Ac7 mixed Tryz.func14 tr14 Aax Nrm.idle_norm (Wt _ _) (Abb _ _) ?_;have hc:=Vp wkT Ao0;rw[show Es wkT 2=true by kernel_rfl] at hc;have hn:=Yg [] 1;have hl:=Px [[.undef],Bu 0 1 0 0 0] wkT [];obtain⟨G',hq⟩:=Bin;have h5:=Af wkT;have h6:=Af s0;generalize tv wkT=r at *
 generalize tv s0=r0 at *
 simp only[go_sem,seval,h5];refine Aa hc ?_;simp only[go_sem,seval,h5];refine Aa Aht ?_;simp only[go_sem,seval,h5];refine Ac hn ?_;simp only[go_sem,seval,h5];refine Ac hl ?_;simp only[go_sem,seval,h5];refine Ac hq ?_;simp only[go_sem,seval,h5,h6]
theorem head_wk:Con 21 [.agg true (tv wkT),.float .f64 4607182418800017408] (.tup [.agg true (tv s0),.int .i64 0]):=by
 refine Ac7 mixed Tryz.func21 tr21 Alf Nrm.idle_head (Wt _ _) (Abb _ _) ?_;have hc:=Vp wkT Ao0;rw[show Es wkT 2=true by kernel_rfl] at hc;have hn:=Yg [] 1;have hl:=Px [[.undef],Bu 0 1 0 0 0] wkT [];obtain⟨G',hq⟩:=Apn 0;have ht:=Ao2 (G:=G') (m:=1) (v:=vS0) (deep:=0) (by decide) rfl;have Ln:Ad 45 G' [.gp 1 0,vlV vS0,.int .i64 0] (.ret (.agg true (tv s0))) G':=ht;clear ht;have h5:=Af wkT;have h6:=Af s0;generalize tv wkT=r at *
 generalize tv s0=r0 at *
 generalize vS0=v0 at *
 simp only[go_sem,seval,h5];refine Aa hc ?_;simp only[go_sem,seval,h5];refine Aa Aht ?_;simp only[go_sem,seval,h5];refine Ac hn ?_;simp only[go_sem,seval,h5];refine Ac hl ?_;simp only[go_sem,seval,h5];refine Ac hq ?_;simp only[go_sem,seval,h5,h6];refine Ac Ln ?_;simp only[go_sem,seval,h5,h6]
theorem Ah1(i:Int):Con 37 [.int .i64 i] (.agg true (tv (.mk 1 i 0 0 []))):=by
 refine (Al (r:=.agg true [.int .i64 1,.int .i64 i,.int .i64 0,.int .i64 0,.nils]) mixed Tryz.func37 tr37 ?_).weaken (Mq _ _ _ _);simp only[go_sem,seval]
def wkL:SV:=.agg true [.int .i64 15,.int .i64 0,.int .i64 0,.int .i64 0,.dsl 5 [[.int .i64 14,.int .i64 0,.int .i64 0,.int .i64 0,.dsl 5 [[.int .i64 1,.int .i64 1,.int .i64 0,.int .i64 0,.dsl 5 []],[.int .i64 2,.int .i64 0,.int .i64 0,.int .i64 0,.nils]]],[.int .i64 1,.int .i64 0,.int .i64 0,.int .i64 0,.dsl 5 []]]]
theorem Apo:LeD wkL (.agg true (tv wkT)):=by
 unfold wkL wkT;simp only[Am,q_h,q_i];refine .agg' (.cons (.refl _) (.cons (.refl _) (.cons (.refl _) (.cons (.refl _) (.cons (.rows (.cons rfl ?_ (.cons rfl (.refl _) .nil))) .nil)))));exact .cons (.refl _) (.cons (.refl _) (.cons (.refl _) (.cons (.refl _) (.cons (.rows (.cons rfl (.refl _) (.cons rfl (.cons (.refl _) (.cons (.refl _) (.cons (.refl _) (.cons (.refl _) (.cons (.nils 5) .nil))))) .nil))) .nil))))
theorem Bis:LeD (.agg true [.int .i64 0,.int .i64 0,.int .i64 0,.int .i64 0,.nils]) (.agg true (tv zt)):=by
 unfold zt;simp only[Am,q_i];exact .agg' (.cons (.refl _) (.cons (.refl _) (.cons (.refl _) (.cons (.refl _) (.cons (.nils 5) .nil)))))
theorem Ao1:TOk zt:=.mk _ _ _ _ _ (by unfold fit;omega) (by unfold fit;omega) (by unfold fit;omega) (by unfold fit;omega) (by simp) (fun t ht=>by cases ht)
theorem Ah5:Con 16 [] (.bool true):=by
 refine Al mixed Tryz.func16 tr16 ?_;have h7:=norm_wk.argsD (args':=[wkL,.float .f64 4607182418800017408]) (.cons Apo (.cons (.refl _) .nil));have h8:=head_wk.argsD (args':=[wkL,.float .f64 4607182418800017408]) (.cons Apo (.cons (.refl _) .nil));have hz:=(A9i zt Ao1 (by kernel_rfl) 4607182418800017408).argsD (args':=[.agg true [.int .i64 0,.int .i64 0,.int .i64 0,.int .i64 0,.nils],.float .f64 4607182418800017408]) (.cons Bis (.cons (.refl _) .nil));simp only[wkL,s0,zt,Am,q_i] at h7 h8 hz;simp only[go_sem,seval];refine Aa (Ah1 1) ?_;simp only[go_sem,seval,Am,q_i];refine Aa (Ah1 0) ?_;simp only[go_sem,seval,Am,q_i];refine Aa h7 ?_;simp only[go_sem,seval];refine Aa h8 ?_;simp only[go_sem,seval];refine Aa hz ?_;simp only[go_sem,seval]
def Wz(t:Tm)(m d z:Int):Prop:=Con 38 [.agg true (tv t),.int .i64 m,.int .i64 d] (.int .i64 z) /\
 (0<=m->m<=1000000->-1<=d->d<=1000->1<=z/\z<=m+1/\(z<=m->z=(tsz t:Int)))
theorem Awi(t:Tm):TOk t->∀m d,∃z,Wz t m d z:=by
 induction t using Tm.ind with
 |h k i j n l ih=>
  intro hok m d;obtain⟨f1,f2,f3,f4,hb,hl⟩:=Xd hok;unfold Wz;rw[Am]
  by_cases hd:d<0
  ·refine⟨_,Bij k i j n m d _ hd,fun h1 h2 h3 h4=>?_⟩;rw[w64 (by unfold fit;omega)];exact⟨by omega,by omega,fun h=>by omega⟩
  ·have H:∀(t:Tm) (m d:Int),∃z,t∈l->Wz t m d z:=fun t m d=>by
    by_cases ht:t∈l
    ·obtain⟨z,hz⟩:=ih t ht (hl t ht) m d;exact⟨z,fun _=>hz⟩
    ·exact⟨0,fun h=>absurd h ht⟩
   obtain⟨Z,hZ⟩:∃Z:Tm->Int->Int->Int,∀t∈l,∀m d,Wz t m d (Z t m d):=⟨fun t m d=>Classical.choose (H t m d),fun t ht m d=>Classical.choose_spec (H t m d) ht⟩
   have hW:∀r∈l.map tv,∀m d,Con 38 [.agg true r,.int .i64 m,.int .i64 d] (.int .i64 (onT Z (fun _ _=>0) r m d)):=fun r hr m d=>by
    obtain⟨t,ht,rfl⟩:=List.mem_map.1 hr;rw[Jg];exact (hZ t ht m d).1
   obtain⟨x,Pa,Kv,Zl⟩:=least (fun x=>m<Lu (onT Z (fun _ _=>0)) (l.map tv) m (IntKind.i64.wrap (d-1)) x) (l.map tv).length;refine⟨_,Bik k i j n m d (l.map tv) _ (by simpa using hb) (rows5 l) hW hd x Pa Kv Zl,fun h1 h2 h3 h4=>?_⟩;rw[Af0];have e1:IntKind.i64.wrap (d-1)=d-1:=w64 (by unfold fit;omega);rw[e1];have Ae1:∀y,y<x->Dj 1 (fun y m=>onT Z (fun _ _=>0) ((l.map tv)[y]?.getD []) m (d-1)) m y<=m:=fun y hy=>by
    have:=Zl y hy;rw[Af0,e1] at this;omega
   have Ah:(l.map tv).length=l.length:=by simp
   have Bt:∀y,y<l.length->(l.map tv)[y]?.getD []=tv (l[y]?.getD default):=fun y hy=>by
    rw[List.getElem?_map,q_f hy];rfl
   obtain⟨_,k0,k2,k3⟩:=Bfz (a:=1) (V:=fun y m=>onT Z (fun _ _=>0) ((l.map tv)[y]?.getD []) m (d-1)) (T:=fun y=>tsz (l[y]?.getD default)) (most:=m) (n:=l.length) (by omega) (by omega) h1 h2 (fun y hy m' Ml hm2=>by
    simp only[Bt y hy,Jg];obtain⟨_,g⟩:=hZ _ (Ig (d:=default) hy) m' (d-1);exact g Ml hm2 (by omega) (by omega)) x (by omega) Ae1
   refine⟨k0,k2,fun hz=>?_⟩;rw[k3 hz,Gk,<-Ant];have:x=l.length:=by
    rcases Kv with h|h
    ·omega
    ·rw[Af0,e1] at h;omega
   subst this;omega
theorem Ahp{t:Tm}(ht:TOk t){m:Int}(h0:0<=m)(h1:m<=1000000):∃z,Con 17 [.agg true (tv t),.int .i64 m] (.bool z)/\(z=false->(tsz t:Int)<=m):=by
 obtain⟨z,hz,h⟩:=Awi t ht m 200;refine⟨decide (m<z),Al mixed Tryz.func17 tr17 ?_,fun he=>?_⟩
 ·have h5:=Af t;generalize tv t=r at *
  repeat' first
   |simp (config:={ maxSteps:=2000000 }) only[go_sem,seval,h5]
   |refine Aa (hz) ?_
   |rfl
 ·have h2:¬m<z:=of_decide_eq_false he;obtain⟨_,_,h3⟩:=h h0 h1 (by decide) (by decide);have:=h3 (by omega);omega
theorem A8v(t:Tm):∀x∈[SV.agg true (tv t)],NoG x:=by
 intro x hx;simp only[List.mem_cons,List.not_mem_nil,or_false] at hx;subst hx;exact Zw t true
theorem A8y(t:Tm)(e:Int)(b:Bool):NoG (.tup [.agg true (tv t),.int .i64 e,.bool b]):=by
 refine .tup _ (fun x hx=>?_);simp only[List.mem_cons,List.not_mem_nil,or_false] at hx;rcases hx with rfl|rfl|rfl
 ·exact Zw t true
 ·exact .int _ _
 ·exact .bool _
theorem A7a(n:Int)(b:Bool):Le (.tup [.agg true [.int .i64 0,.int .i64 0,.int .i64 0,.int .i64 0,.nils],.int .i64 n,.bool b]) (.tup [.agg true (tv zt),.int .i64 n,.bool b]):=by
 refine .tup _ _ (.cons _ _ _ _ ?_ (.cons _ _ _ _ (.cell _ _ (.refl _)) (.cons _ _ _ _ (.cell _ _ (.refl _)) .nil)));rw[zt,Am];exact .agg _ _ (.cons _ _ _ _ (.refl _) (.cons _ _ _ _ (.refl _) (.cons _ _ _ _ (.refl _) (.cons _ _ _ _ (.refl _) (.cons _ _ _ _ (.nils 5) .nil)))))
section
variable{B:BT}
theorem Adb{t:Tm}{z p:Bool}(hz:Con 17 [.agg true (tv t),.int .i64 60] (.bool z))(hp:z=false->Con 18 [.agg true (tv t)] (.bool p))(h:z=true\/p=false\/∃f:Int,Con 19 [.agg true (tv t)] (.int .i64 f)/\1048576<=f) :
  Con 13 [.agg true (tv t)] (.tup [.agg true (tv zt),.int .i64 ((0:Nat):Int),.bool false]):=by
 have h5:=Af t;refine (Al (r:=.tup [.agg true [.int .i64 0,.int .i64 0,.int .i64 0,.int .i64 0,.nils],.int .i64 0,.bool false]) mixed Tryz.func13 tr13 ?_).weaken (A7a 0 false);cases z with
 |true=>
  simp only[go_sem,seval,h5];refine Aa hz ?_;simp only[go_sem,seval,h5]
 |false=>
  simp only[go_sem,seval,h5];refine Aa hz ?_;simp only[go_sem,seval,h5];refine Aa (hp rfl) ?_;cases p with
  |false=>simp only[go_sem,seval,h5]
  |true=>
   obtain⟨f,h1,h2⟩:∃f:Int,Con 19 [.agg true (tv t)] (.int .i64 f)/\1048576<=f:=by
    rcases h with h|h|h
    ·cases h
    ·cases h
    ·exact h
   simp only[go_sem,seval,h5];refine Aa h1 ?_;simp only[go_sem,seval,h5,decide_eq_true (show f >= 1048576 from h2)]
theorem Axx{t x:Tm}{n:Nat}{o z2:Bool}{f:Int}(hz:Con 17 [.agg true (tv t),.int .i64 60] (.bool false))(hp:Con 18 [.agg true (tv t)] (.bool true))(hf:Con 19 [.agg true (tv t)] (.int .i64 f))(Qa:f<1048576)
  (hn:CN t 0 n o x) (Dy:Con 17 [.agg true (tv x),.int .i64 4000] (.bool z2)):Con 13 [.agg true (tv t)] (.tup [.agg true (tv x),.int .i64 ((n:Nat):Int),.bool (!o && !z2)]):=by
 have h5:=Af t;have h6:=Af x;have h:=hn 0 [[.int .i64 0,.bool false]] rfl;refine s6 mixed Tryz.func13 tr13 (A8v t) (A8y x _ _) ?_;simp only[go_sem,seval,h5];refine Aa hz ?_;simp only[go_sem,seval,h5];refine Aa hp ?_;simp only[go_sem,seval,h5];refine Aa hf ?_;simp only[go_sem,seval,h5,decide_eq_false (show ¬f >= 1048576 by omega)];refine Ac h ?_;cases o with
 |true=>simp only[go_sem,seval,h6,Do]
 |false=>
  simp only[go_sem,seval,h6,Do];refine Aa Dy ?_;simp only[go_sem,seval,h6]
theorem At9(L:Sv B){t:Tm}(ht:TOk t):∃x n b,Con 13 [.agg true (tv t)] (.tup [.agg true (tv x),.int .i64 ((n:Nat):Int),.bool b])/\TOk x /\
  (b=true->PT 1048576 60 t/\PNx B (.inl t) 0 false n false (.inl x)/\tsz x<=4000/\n<=4000):=by
 obtain⟨z,hz,hzi⟩:=Ahp ht (m:=60) (by decide) (by decide);have hp:=Vr t ht;have no:Con 13 [.agg true (tv t)] (.tup [.agg true (tv zt),.int .i64 ((0:Nat):Int),.bool false])->∃x n b,Con 13 [.agg true (tv t)] (.tup [.agg true (tv x),.int .i64 ((n:Nat):Int),.bool b])/\TOk x /\
  (b=true->PT 1048576 60 t/\PNx B (.inl t) 0 false n false (.inl x)/\tsz x<=4000/\n<=4000):=fun h=>⟨zt,0,false,h,Ao1,fun h=>by cases h⟩
 cases Qo:z with
 |true=>subst Qo;exact no (Adb (p:=Cb t) hz (fun h=>by cases h) (.inl rfl))
 |false=>
  subst Qo;cases Hn:Cb t with
  |false=>rw[Hn] at hp;exact no (Adb hz (fun _=>hp) (.inr (.inl rfl)))
  |true=>
   rw[Hn] at hp;have hf:=Ac4 t ht Hn
   by_cases Qa:Ev t<1048576
   ·have hs:=hzi rfl;have hpt:PT 1048576 60 t:=⟨Hn,Aoa ht Hn (by omega),by omega⟩
    have hms:ms 0=16004000:=by decide
    obtain⟨n,o,x,h1,h2,h3,h4,h5⟩:=Bay L (ms 0+61) 0 t 1048576 (by omega) (by omega) (hpt.mono (by omega)) (by omega);obtain⟨z2,Dy,hzi2⟩:=Ahp h3 (m:=4000) (by decide) (by decide);refine⟨x,n,_,Axx hz hp hf Qa h2 Dy,h3,fun hb=>?_⟩;cases o with
    |true=>cases hb
    |false=>
     cases z2 with
     |true=>cases hb
     |false=>exact⟨hpt,h1,by have:=hzi2 rfl;omega,h5 rfl⟩
   ·exact no (Adb hz (fun _=>hp) (.inr (.inr ⟨_,hf,by omega⟩)))
end
section
variable{B:BT}
theorem Aoc{b:Nat}{t:Tm}(h:Sf b t):∀{c:Nat},b<=c->Sf c t:=by
 induction h with
 |var h=>intro c hc;exact .var (by omega)
 |nd i j n h2 h0 hf hl _ ih=>intro c hc;exact .nd i j n h2 h0 hf hl (fun p t ht=>ih p t ht (by omega))
end
section
variable{B:BT}
theorem Amy{t:Tm}(h:Nm B t):∀{C:Nat},Sf C t->HN (Az B) t:=by
 induction h with
 |@mk t h hk ih=>
  intro C hs;refine .mk h (fun p hp=>?_);obtain⟨_,_,hl,_⟩:=Sl hs hp;have hq:t.kids[p]?=some (Aj t p):=by
   unfold Aj;rw[List.getD_eq_getElem?_getD,q_f hl];rfl
  exact ih p _ hq (Id hs hl)
theorem Bb6{N:Nat}:∀{l:List Tm},(∀s∈l,PNx B (.inl s) N false N false (.inl s))->PNx B (.inr l) N false N false (.inr l):=by
 intro l
 induction l with
 |nil=>intro _;exact .nil
 |cons a l ih=>intro h;exact .cons (h a (List.mem_cons_self ..)) (ih fun s hs=>h s (List.mem_cons_of_mem _ hs))
theorem A8t{t:Tm}(h:Nm B t):∀{C:Nat},Sf C t->∀N,PNx B (.inl t) N false N false (.inl t):=by
 induction h with
 |@mk t h hk ih=>
  intro C hs N;have hn:=Amy (.mk h hk) hs;cases t with
  |mk k i j n l=>
   refine .tm (.stop hn) (Bb6 fun s hm=>?_);obtain⟨p,hp⟩:=List.getElem?_of_mem hm;exact ih p s hp (hs.kid hp) N
theorem Ba7(hB:BodyP B){N N':Nat}{t t':Tm}{o:Bool}(h:PHd B N t N' o t')(ho:o=false):∀{C:Nat},C<=60000000->PT C 4000 t->N<=4000->PT C 4000 t'/\N'<=4000/\((N'=N/\t'=t)\/N<N'):=by
 induction h with
 |stop h=>intro C hC hp hN;exact⟨hp,hN,.inl ⟨rfl,rfl⟩⟩
 |out=>cases ho
 |step h h1 h2 hr ih=>
  intro C hC hp hN;obtain⟨a,_⟩:=Aol hB h hC hp;obtain⟨k1,k2,_⟩:=ih ho hC ⟨a,Abw hB.ok h hp.sf,h2⟩ h1;have:=Abg hr;exact⟨k1,k2,.inr (by omega)⟩
theorem Bb2{x y:Tm ⊕ List Tm}{N N':Nat}{o o':Bool}(h:PNx B x N o N' o' y)(Cv:o'=false):∀l rs,x=.inr l->y=.inr rs->rs.length=l.length:=by
 induction h with
 |tm=>intro l rs e;cases e
 |nil=>intro l rs e1 e2;cases e1;cases e2;rfl
 |out=>cases Cv
 |cons h hl _ ih2=>intro l rs e1 e2;cases e1;cases e2;have:=ih2 Cv _ _ rfl rfl;simp only[List.length_cons];omega
theorem Bb3{x y:Tm ⊕ List Tm}{N N':Nat}{o o':Bool}(h:PNx B x N o N' o' y):N<=N':=by
 induction h with
 |tm h _ ih=>have:=Abg h;omega
 |nil=>exact Nat.le_refl _
 |out=>exact Nat.le_refl _
 |cons _ _ ih1 ih2=>omega
theorem Bb5(hB:BodyP B){x y:Tm ⊕ List Tm}{N N':Nat}{o o':Bool}(h:PNx B x N o N' o' y)(Cv:o'=false) :
  (∀t r,x=.inl t->y=.inl r->∀C,N<=4000->PT C 4000 t->C+2*(ms N+tsz t)<=60000000->Cb r=true/\N'<=4000) /\
  (∀l rs,x=.inr l->y=.inr rs->∀C,N<=4000->(∀s∈l,PT C 4000 s/\C+2*(ms N+tsz s)<=60000000)->(∀r∈rs,Cb r=true)/\N'<=4000):=by
 induction h with
 |@tm t t1 N N1 N2 o1 o2 rs h hk ih=>
  have Ix:=Xa hk Cv;refine⟨fun t' r e1 e2 C hN hp hC=>?_,fun l rs' e=>by cases e⟩;cases e1;cases e2;obtain⟨k1,k2,k3⟩:=Ba7 hB h Ix (by omega) hp hN;have hm:ms N1+tsz t1<=ms N+tsz t:=by
   rcases k3 with⟨e1,e2⟩|k3
   ·rw[e1,e2];exact Nat.le_refl _
   ·have:=Amu k3 k2;have:=k1.sz;omega
  have Ah:=Bb2 hk Cv _ _ rfl rfl;cases t1 with
  |mk k i j n l=>
   obtain⟨q1,q2⟩:=(ih Cv).2 l rs rfl rfl (C+2) k2 (fun s hs=>by
    obtain⟨p,hp'⟩:=List.getElem?_of_mem hs;have a:=k1.kidm hp';have hb:=Tb k p;have hz:=Xg (k:=k) (i:=i) (j:=j) (n:=n) hs;exact⟨⟨a.pl,Aoc a.sf (by omega),a.sz⟩,by omega⟩)
   obtain⟨p1,p2⟩:=plain_mk.1 k1.pl;have hlen':rs.length=l.length:=Ah;exact⟨plain_mk.2 ⟨by show Ic k i j n 2 rs.length=true;rw[hlen'];exact p1,q1⟩,q2⟩
 |nil=>exact⟨fun t r e=>(by cases e),fun l rs e1 e2 C hN _=>(by cases e1;cases e2;exact⟨fun r hr=>(by cases hr),hN⟩)⟩
 |out=>cases Cv
 |@cons a r l rs N N1 N2 o1 o2 h hl ih1 ih2=>
  have Ix:=Xa hl Cv;refine⟨fun t r e=>(by cases e),fun l' rs' e1 e2 C hN hp=>?_⟩;cases e1;cases e2;obtain⟨p1,p2⟩:=hp a (List.mem_cons_self ..);obtain⟨a1,a2⟩:=(ih1 Ix).1 a r rfl rfl C hN p1 p2;have hle:=Amt (Bb3 h);obtain⟨b1,b2⟩:=(ih2 Cv).2 l rs rfl rfl C a2 (fun s hs=>by
   obtain⟨c1,c2⟩:=hp s (List.mem_cons_of_mem _ hs);exact⟨c1,by omega⟩)
  refine⟨fun z hz=>?_,b2⟩;rcases List.mem_cons.1 hz with rfl|hz
  ·exact a1
  ·exact b1 z hz
end
def vZ(i:Int):Tm:=.mk 2 i 0 0 []
theorem Bhu(i:Nat):vZ (i:Int)=vT i:=rfl
def unf(d b:Nat)(l:Int):Tm:=vZ ((d:Int)+b-1-l)
def unl(d b:Nat)(t:Tm):Tm:=trT (fun _ i=>vT i) (unf d) b t
theorem Apd{k:Int}(h2:k≠2)(h0:k≠0)(d b:Nat)(i j n:Int)(l:List Tm):unl d b (.mk k i j n l)=.mk k i j n (trL (fun _ i=>vT i) (unf d) b k 0 l):=Fe h2 h0 b i j n l
theorem Apc(d b:Nat)(l:Int):unl d b (fT l)=vZ ((d:Int)+b-1-l):=Hh b l
theorem Bhp(d b i:Nat):unl d b (vT i)=vT i:=Cm b i
theorem Bg8{f:Nat->Int->Tm}{B:Nat}{t:Tm}(h:Sf B t):∀b,trT (fun _ i=>vT i) f b t=t:=by
 induction h with
 |var h=>intro b;rw[Cm]
 |@nd B k i j n l h2 h0 hf hl _ ih=>
  intro b;rw[Fe h2 h0];congr 1;apply List.ext_getElem?;intro q;rw[Ep];cases hq:l[q]? with
  |none=>rfl
  |some t=>simp only[Option.map_some];rw[ih q t hq]
theorem Bho{B:Nat}{t:Tm}(h:Sf B t)(d b:Nat):unl d b (lvB d b t)=t:=by
 have:=Ao4 (v1:=lvv d) (f1:=fun _ l=>fT l) (v2:=fun _ i=>vT i) (f2:=unf d) (v:=fun _ i=>vT i) (f:=unf d) (fun b i=>?_) (fun b l=>Hh _ _) t b
 ·exact this.trans (Bg8 h b)
 ·unfold lvv
  by_cases c:i<b
  ·rw[if_pos c,Cm]
  ·rw[if_neg c,Hh];unfold unf;rw[<-Bhu i];congr 1;omega
section
variable{G G1 G':GV}{m id:Nat}{u:SV}{e:List Nat}{own deep:Int}
theorem Bd6{i j n:Int}{l:List Tm}(h:Ad 58 G [.gp m 0] (.ret (.tup [])) G1)(hi:i<own) :
  Ad 66 G [.gp m 0,.agg true (tv (.mk 2 i j n l)),Aw e,.int .i64 own,.int .i64 deep] (.ret (.agg true (tv (.mk 2 i 0 0 [])))) G1:=by
 have hz:=Af (.mk 2 i 0 0 []);have h1:=Acz i;rw[Am 2 i j n l];refine Aq mixed Tryz.func66 tr66 ?_;simp only[go_sem,seval];refine Ac h ?_;simp only[go_sem,seval,decide_eq_true hi];refine Aa h1 ?_;simp only[go_sem,seval,hz]
theorem Bd3{i:Nat}{o:Nat}{j n:Int}{l:List Tm}(h:Ad 58 G [.gp m 0] (.ret (.tup [])) G1)(hi:o<=i)(hf:fit i)(hg:e[i-o]?=none)(he:fit ((i:Int)-e.length))(hd:fit ((i:Int)-e.length+deep)) :
  Ad 66 G [.gp m 0,.agg true (tv (.mk 2 i j n l)),Aw e,.int .i64 o,.int .i64 deep] (.ret (.agg true (tv (.mk 2 ((i:Int)-e.length+deep) 0 0 [])))) G1:=by
 have hl:=Ac3 e (i-o) (by unfold fit at *;omega);rw[hg] at hl;have e1:IntKind.i64.wrap ((i:Int)-o)=((i-o:Nat):Int):=by rw[w64 (by unfold fit at *;omega)];omega
 have e2:decide ((i:Int)<(o:Int))=false:=decide_eq_false (by omega);have h1:=Acz ((i:Int)-e.length+deep);have hz:=Af (.mk 2 ((i:Int)-e.length+deep) 0 0 []);rw[Am 2 i j n l];refine Aq mixed Tryz.func66 tr66 ?_;simp only[go_sem,seval];refine Ac h ?_;simp only[go_sem,seval,e1,e2];refine Aa hl ?_;simp only[go_sem,seval];refine Aa (r8 e) ?_;simp only[go_sem,seval,w64 he,w64 hd];refine Aa h1 ?_;simp only[go_sem,seval,hz]
theorem Bd4{k i j n:Int}(h:Ad 58 G [.gp m 0] (.ret (.tup [])) G1)(hk:k≠2) :
  Ad 66 G [.gp m 0,.agg true (tv (.mk k i j n [])),Aw e,.int .i64 own,.int .i64 deep] (.ret (.agg true (tv (.mk k i j n [])))) G1:=by
 refine HContract.weaken (r:=.agg true [.int .i64 k,.int .i64 i,.int .i64 j,.int .i64 n,.nils]) ?_ (Mq _ _ _ _);rw[Am k i j n []];refine Aq mixed Tryz.func66 tr66 ?_;simp only[go_sem,seval];refine Ac h ?_;simp only[go_sem,seval,Ag hk,q_i]
end
section
variable{G G1 G':GV}{m id:Nat}{u:SV}{deep:Int}{th:Th}{v:Vl}{out:HOut}
theorem Art(hG:G[id]?=some (thR th))(hb:th.bare=true)(hw:th.w=some v)(h:Ad 45 G [.gp m 0,vlV v,.int .i64 deep] out G')(ho:(∃t,out=.ret (.agg true (tv t)))\/∃x,out=.pan x) :
  Ad 67 G [.gp m 0,.gp id 0,.int .i64 deep] out G':=by
 refine Aq mixed Tryz.func67 tr67 ?_;simp only[go_sem,seval,hG,j7,j8,Af4,Af5,hb,hw,Js];rcases ho with⟨t,rfl⟩|⟨x,rfl⟩
 ·have hz:=Af t;refine Ac h ?_;simp only[go_sem,seval,hz]
 ·exact Cs h trivial ⟨rfl,rfl⟩
theorem Aru(hG:G[id]?=some (thR th))(hb:th.bare=false)(h:Ad 66 G [.gp m 0,.agg true (tv th.t),Aw th.env,.int .i64 0,.int .i64 deep] out G')(ho:(∃t,out=.ret (.agg true (tv t)))\/∃x,out=.pan x) :
  Ad 67 G [.gp m 0,.gp id 0,.int .i64 deep] out G':=by
 obtain⟨t,e,bb,w,v2⟩:=th;simp only at hb h;subst hb;refine Aq mixed Tryz.func67 tr67 ?_;simp only[go_sem,seval,hG,j7,j8,Ab2,Ab1,Af4,Af5];rcases ho with⟨t,rfl⟩|⟨x,rfl⟩
 ·have hz:=Af t;refine Ac h ?_;simp only[go_sem,seval,hz]
 ·exact Cs h trivial ⟨rfl,rfl⟩
theorem Bg1(hk:v.k=2)(h1:fit (deep-1))(h2:fit (deep-1-v.level)):Ad 45 G [.gp m 0,vlV v,.int .i64 deep] (.ret (.agg true (tv (.mk 2 (deep-1-v.level) 0 0 [])))) G:=by
 have hc:=Ah4 v.level deep h1 h2;have hz:=Af (.mk 2 (deep-1-v.level) 0 0 []);refine Aq mixed Tryz.func45 tr45 ?_;simp only[go_sem,seval,vlV,hk];refine Aa hc ?_;simp only[go_sem,seval,hz]
end
inductive RwP(S:SyT)(m j:Nat)(Γ:Gh)(M:Mc)(T:Tm):HOut->GV->Prop
 |ret {G':GV} {M':Mc} (hi:RInv S m j G' Γ M') (mm:Mlq M M') (h2:M'.steps=M.steps) (h1:M.seen<=M'.seen) (h8:M'.seen<=8000000):RwP S m j Γ M T (.ret (.agg true (tv T))) G'
 |out {G':GV} {M':Mc} (hi:RInv S m j G' Γ M') (mm:Mlq M M'):RwP S m j Γ M T (.pan Sj) G'
 |far {G':GV} {M':Mc} (hi:RInv S m j G' Γ M') (mm:Mlq M M') (hg:0<M.guess):RwP S m j Γ M T (.pan Ti) G'
def rwL(d:Nat)(es:List Tm)(o:Nat)(k:Int):Nat->List Tm->List Tm
 |_,[]=>[]
 |p,t::l=>unl d (o+bnd k p) (Ao es (o+bnd k p) t)::rwL d es o k (p+1) l
theorem Be3(d:Nat)(es:List Tm)(o:Nat)(k:Int):∀(l:List Tm) (p:Nat),trL (fun _ i=>vT i) (unf d) o k p (trL (ivI es) (fun _ l=>fT l) o k p l)=rwL d es o k p l:=by
 intro l
 induction l with
 |nil=>intro p;rw[trL,trL,rwL]
 |cons t l ih=>intro p;rw[trL,trL,rwL,ih];rfl
theorem Bhn{k:Int}(h2:k≠2)(h0:k≠0)(d:Nat)(es:List Tm)(o:Nat)(i j n:Int)(l:List Tm):unl d o (Ao es o (.mk k i j n l))=.mk k i j n (rwL d es o k 0 l):=by
 rw[Mp h2 h0,Apd h2 h0,Be3]
section
variable{S:SyT}{m j:Nat}{Γ:Gh}
theorem RwP.pre{M M1:Mc}{T:Tm}{out:HOut}{G':GV}(mm:Mlq M M1)(h2:M1.steps=M.steps)(h1:M.seen<=M1.seen)(h:RwP S m j Γ M1 T out G'):RwP S m j Γ M T out G':=by
 cases h with
 |ret hi m2 k2 k1 k8=>exact .ret hi (mm.trans m2) (by omega) (by omega) k8
 |out hi m2=>exact .out hi (mm.trans m2)
 |far hi m2 hg=>exact .far hi (mm.trans m2) (mm.pos hg)
def unL(d:Nat)(k:Int):Nat->List Tm->List Tm
 |_,[]=>[]
 |p,t::l=>unl d (bnd k p) t::unL d k (p+1) l
theorem Bhk(d:Nat)(k:Int):∀(l:List Tm) (p:Nat),trL (fun _ i=>vT i) (unf d) 0 k p l=unL d k p l:=by
 intro l
 induction l with
 |nil=>intro p;rw[trL,unL]
 |cons t l ih=>intro p;rw[trL,unL,ih,Nat.zero_add];rfl
theorem Bhl(d:Nat)(k:Int):∀(l:List Tm) (p:Nat),(unL d k p l).length=l.length:=by
 intro l
 induction l with
 |nil=>intro p;rfl
 |cons t l ih=>intro p;rw[unL,List.length_cons,List.length_cons,ih]
end
inductive NV(Γ:Gh):Vl->Prop
 |mk {v:Vl} (a:∀(q:Nat) id,v.kids[q]?=some id->∃g,Γ[id]?=some (some g)) (c:∀(q:Nat) id t es,v.kids[q]?=some id->Γ[id]?=some (some (.cl t es))->es=[])
   (d:∀(q:Nat) id y T,v.kids[q]?=some id->Γ[id]?=some (some (.dn y T))->NV Γ y):NV Γ v
theorem NV.mono{Γ Γ':Gh}(x:Gx Γ Γ'){v:Vl}(h:NV Γ v):NV Γ' v:=by
 induction h with
 |@mk v a c d ih=>
  have key:∀(q:Nat) id g,v.kids[q]?=some id->Γ'[id]?=some (some g)->Γ[id]?=some (some g):=fun q id g hq hg=>by
   obtain⟨g',Ij⟩:=a q id hq;have:=x.get Ij;rw[hg] at this;cases this;exact Ij
  exact .mk (fun q id hq=>(a q id hq).imp fun g hg=>x.get hg) (fun q id t es hq hg=>c q id t es hq (key q id _ hq hg)) (fun q id y T hq hg=>ih q id y T hq (key q id _ hq hg))
theorem Am6{Γ:Gh}{k:Int}{y:Option Vl}{T:Tm}{l:List Tm}{k' i' j' n':Int}(hy:∀v,y=some v->NV (Γ++Jf k y T [] 0 l) v):NV (Γ++Jf k y T [] 0 l) (Gz k' i' j' n' l Γ.length):=by
 have key:∀(q:Nat) id,(Gz k' i' j' n' l Γ.length).kids[q]?=some id->∃t,(Γ++Jf k y T [] 0 l)[id]?=some (some (Mt k y T [] q t)):=fun q id hq=>by
  unfold Gz at hq;simp only at hq;rw[f8] at hq;split at hq
  ·rename_i Ab;cases hq;exact⟨_,Zx (q_f Ab)⟩
  ·cases hq
 refine .mk (fun q id hq=>?_) (fun q id t es hq hg=>?_) (fun q id v U hq hg=>?_)
 ·obtain⟨t,ht⟩:=key q id hq;exact⟨_,ht⟩
 ·obtain⟨t',ht⟩:=key q id hq;rw[hg] at ht;unfold Mt at ht;split at ht
  ·cases y with
   |none=>cases ht;rfl
   |some v=>cases ht
  ·cases ht;rfl
 ·obtain⟨t',ht⟩:=key q id hq;rw[hg] at ht;unfold Mt at ht;split at ht
  ·cases y with
   |none=>cases ht
   |some v'=>cases ht;exact hy _ rfl
  ·cases ht
theorem A4g{P:Tm->Option Tm}{T:Tm}{p:Nat}(h:HN P T)(hp:stk T.k=some p):HN P (Aj T p):=by
 cases h with
 |mk _ hk=>exact hk p hp
theorem Ako{P:Tm->Option Tm}{T:Tm}(h:HN P T):P T=none:=by
 cases h with
 |mk h _=>exact h
section
variable{S:SyT}{m j:Nat}
def EvN(S:SyT)(m j:Nat)(t:Tm):Prop:=∀{G:GV} {Γ:Gh} {M:Mc},RInv S m j G Γ M->HN plW (Ao [] 0 t)->(∃B,Sf B t/\B+dpt t<=cap) ->
 ∃v G' Γ',EvL G m t [] (.ret (vlV v)) G'/\Gx Γ Γ'/\RInv S m j G' Γ' M/\WOK Γ' v/\TV Γ' v=Ao [] 0 t/\NV Γ' v
theorem Aii{Γ:Gh}{K:Nat}:EOK Γ K [] []:=⟨rfl,fun q i h=>by cases h⟩
theorem t8{k c:Int}{p:Nat}(hp:stk k=some p){l:List Tm}{f:Tm}(hf:l[p]?=some f)(IH:EvN S m j f)(i j' n:Int)(hc:∀T,T.k=k->plW T=none->(Aj T p).k≠c)(c2:c≠0/\c≠2)
  (stuck:∀{G G1:GV} {y:Vl},Ad 90 G [.gp m 0,.agg true (tv f),Aw []] (.ret (vlV y)) G1->y.k≠c->EvL G m (.mk k i j' n l) [] (.ret (vlV (Gz k i j' n l G1.length))) (G1++Fr p (some y) [] 0 l)):EvN S m j (.mk k i j' n l):=by
 intro G Γ M hI hn ⟨B,hs,hB⟩;have h2:k≠2:=by have:=(Ji hp).1;omega
 have h0:k≠0:=by have:=(Ji hp).1;omega
 have hb:=o7 hp;have hd:=Jy (k:=k) (i:=i) (j:=j') (n:=n) hf;have Zf:=hs.kid hf;have Ct:=Dh hf;rw[hb] at hd Zf;have hTk:(Ao [] 0 (.mk k i j' n l)).k=k:=by rw[Mp h2 h0];rfl
 have Qe:Aj (Ao [] 0 (.mk k i j' n l)) p=Ao [] 0 f:=by
  rw[Mp h2 h0];unfold Aj;rw[show (Tm.mk k i j' n (trL (ivI []) (fun _ l=>fT l) 0 k 0 l)).kids=trL (ivI []) (fun _ l=>fT l) 0 k 0 l from rfl,List.getD_eq_getElem?_getD,Ep,hf,Nat.zero_add,Nat.zero_add,hb];rfl
 have Hl:=A4g hn (by rw[hTk];exact hp);rw[Qe] at Hl;obtain⟨y,G1,Γ1,e1,x1,i1,w1,t1,v1⟩:=IH hI Hl ⟨B,Zf,by omega⟩;have hset:Bm (Ao [] 0 (.mk k i j' n l)) p (TV Γ1 y)=Ao [] 0 (.mk k i j' n l):=by
  rw[t1,<-Qe];exact Abu
 have yk:y.k≠c:=fun e=>by
  have:=hc _ hTk (Ako hn);rw[Qe,<-t1] at this;exact this (by rw[TV_k (by omega)];exact e)
 have hw:=Zy (Γ:=Γ1) (es:=[]) (i':=i) (j':=j') (n':=n) (k':=k) (l:=l) hp Ct w1 (fun u hu=>by cases hu) hs hB (by simp only[List.length_nil];omega) (by rw[hset];exact Ako hn);have Kq:=Wv (Γ:=Γ1) (T:=TV Γ1 y) (i':=i) (j':=j') (n':=n) (k':=k) (p:=p) h2 h0 (es:=[]) (l:=l) hp (y:=y);have hN:=i1.node (T:=TV Γ1 y) (k:=(p:Int)) (y:=some y) (l:=l) (i:=0) (Aii (Γ:=Γ1) (K:=Γ1.length)) (by rw[i1.len];exact Nat.le_refl _) (fun v Bd=>by cases Bd;exact⟨w1,rfl⟩) (fun h=>by cases h);have hv:=Am6 (Γ:=Γ1) (k:=(p:Int)) (y:=some y) (T:=TV Γ1 y) (l:=l) (k':=k) (i':=i) (j':=j') (n':=n) (fun v Bd=>by cases Bd;exact v1.mono (.app _ _));rw[hset] at Kq;have es:=stuck (Dz e1) yk;rw[i1.len] at es;exact⟨_,_,_,es,x1.trans (.app _ _),hN,hw,Kq,hv⟩
theorem Ax8(t:Tm):EvN S m j t:=by
 induction t using Tm.ind with
 |h k i j' n l ih=>
 intro G Γ M hI hn hh
 by_cases h2:k=2
 ·subst h2;obtain⟨B,hs,hB⟩:=hh;obtain⟨q,rfl,rfl,rfl,rfl,hq⟩:=hs.vr;have hc:cap=1099511627776:=rfl;have hT:Ao [] 0 (.mk 2 (q:Int) 0 0 [])=fT (((0:Nat):Int)-q-1):=Cm 0 q;rw[hT];exact⟨_,_,_,Aip (e:=[]) (by unfold fit;omega) rfl (by unfold fit;decide),.refl Γ,hI,⟨.fv _ (by simp only[List.length_nil];omega),.base stk2,Yx stk0⟩,rfl,.mk (fun q id h=>by cases h) (fun q id t es h=>by cases h) (fun q id y T h=>by cases h)⟩
 have hl:(l.length:Int)=Bh k n:=by obtain⟨B,hs,_⟩:=hh;exact (hs.node h2).2.2
 by_cases Ed:k=15
 ·subst Ed;rw[kids15] at hl;obtain⟨f,a,rfl⟩:=len2 (show l.length=2 by omega);refine t8 (c:=14) (p:=0) rfl rfl (ih f (by simp)) i j' n (fun T hk h=>?_) (by decide) (fun h1 h2=>Ain h1 h2) hI hn hh;intro e;unfold plW at h;rw[if_pos ⟨hk,e⟩] at h;cases h
 by_cases Ew:k=18
 ·subst Ew;rw[kids18] at hl;obtain⟨f,rfl⟩:=len1 (show l.length=1 by omega);refine t8 (c:=17) (p:=0) rfl rfl (ih f (by simp)) i j' n (fun T hk h=>?_) (by decide) (fun h1 h2=>Air h1 h2) hI hn hh;intro e;unfold plW at h;rw[if_neg (by omega),if_pos ⟨hk,e⟩] at h;cases h
 by_cases Ex:k=19
 ·subst Ex;rw[kids19] at hl;obtain⟨f,rfl⟩:=len1 (show l.length=1 by omega);refine t8 (c:=17) (p:=0) rfl rfl (ih f (by simp)) i j' n (fun T hk h=>?_) (by decide) (fun h1 h2=>Aix h1 h2) hI hn hh;intro e;unfold plW at h;rw[if_neg (by omega),if_neg (by omega),if_pos ⟨hk,e⟩] at h;cases h
 by_cases Cy:k=22
 ·subst Cy;rw[kids22] at hl;obtain⟨a0,a1,a2,a3,a4,f,rfl⟩:=len6 (show l.length=6 by omega);refine t8 (c:=21) (p:=5) rfl rfl (ih f (by simp)) i j' n (fun T hk h=>?_) (by decide) (fun h1 h2=>Aiu h1 h2) hI hn hh;intro e;unfold plW at h;rw[if_neg (by omega),if_neg (by omega),if_neg (by omega),if_pos ⟨hk,e⟩] at h;cases h
 have hk:stk k=none:=by unfold stk;rw[if_neg (by omega),if_neg Cy]
 obtain⟨B,hs,hB⟩:=hh;obtain⟨h0,hf,hl⟩:=hs.node h2;have Dc:l.length*56<=140737488355328:=by
  have:=Nx k n;omega
 have hN:=hI.node (T:=vT 0) (k:=-1) (y:=none) (l:=l) (i:=0) (K:=Γ.length) Aii (by rw[hI.len];exact Nat.le_refl _) (fun v h=>by cases h) (fun _=>by omega);have hw:=Am3 (Γ:=Γ) (T:=vT 0) (i':=i) (j':=j') (n':=n) h2 hk (es:=[]) (fun u hu=>by cases hu) hs hB (by simp only[List.length_nil];omega);have hT:=Am1 (Γ:=Γ) (T:=vT 0) (i':=i) (j':=j') (n':=n) h2 h0 (es:=[]) (l:=l);have hv:=Am6 (Γ:=Γ) (k:=-1) (y:=none) (T:=vT 0) (l:=l) (k':=k) (i':=i) (j':=j') (n':=n) (fun v Bd=>by cases Bd);have es:=u3 (G:=G) (m:=m) (i:=i) (j:=j') (n:=n) (e:=[]) Dc h2 ⟨Ed,Ew,Ex,Cy⟩;rw[hI.len] at es;exact⟨_,_,_,es,.app _ _,hN,hw,hT,hv⟩
theorem headN(L:Lib S){G:GV}{Γ:Gh}{M:Mc}{id:Nat}{t:Tm}(hI:RInv S m j G Γ M)(hg:Γ[id]?=some (some (.cl t [])))(hG:G[id]?=some (thR ⟨t,[],false,none,none⟩))(hs:∃B,Sf B t/\B+dpt t<=cap)(hn:HN (plD S.B) (Ao [] 0 t))(hnw:HN plW (Ao [] 0 t))(hu:M.guess=0) :
  ∃v G' Γ',Ad 46 G [.gp m 0,.gp id 0] (.ret (vlV v)) G'/\Gx Γ Γ'/\RInv S m j G' Γ' M/\WOK Γ' v/\TV Γ' v=Ao [] 0 t/\NV Γ' v:=by
 obtain⟨v,G1,Γ1,e1,x1,i1,w1,t1,v1⟩:=Ax8 t hI hnw hs;obtain⟨th1,u1,u2⟩:=i1.rows id _ (x1.get hg);obtain⟨q1,q2,q3,q4,q5⟩:=u1;have Uk:=Acb hG rfl rfl (Dz e1) q1;have i2:RInv S m j (G1.set id (thR { th1 with w:=some v })) Γ1 M:=i1.set (x1.get hg) (g:=.cl t []) ⟨Fg q1,q2,q3,q4,fun v' Bd=>by cases Bd;exact⟨w1,0,by rw[t1];exact .refl _⟩⟩ u2;obtain⟨n,G3,Γ3,s1,x3,i3,h0,h1⟩:=Af3 L w1.st i2 w1.ok;have Cc:n=0:=by
  refine Classical.byContradiction fun As=>?_
  obtain⟨out,G2,o1,p1⟩:=Afe L ((h1 As).mono x3) i3 (w1.ok.mono x3);rw[Gq x3 w1.ok,t1] at p1;cases p1 with
  |out x hi mm h=>
   have:=h 0 _ (.refl _) hn;have:=i3.st;omega
  |far x hi mm h=>omega
  |ret x hi mm Bd hr Dn hd=>
   obtain⟨a,b⟩:=Uh (.refl _) hn hr;omega
 subst Cc;obtain⟨th3,r1,r2⟩:=i3.rows id _ (x3.get (x1.get hg));obtain⟨p1,p2,p3,p4,p5⟩:=r1;refine⟨v,_,Γ3,Aj5 hG rfl Uk (.stop (Rt (s1 _ rfl))) p1,x1.trans x3,i3.set (x3.get (x1.get hg)) (g:=.cl t []) ⟨Fg p1,p2,p3,p4,p5⟩ ?_,w1.mono x3,by rw[Gq x3 w1.ok];exact t1,v1.mono x3⟩;intro w hw;simp only[q_b] at hw;subst hw;refine⟨w1.mono x3,by rw[Gq x3 w1.ok,t1];exact hn,0,?_⟩;rw[Gq x3 w1.ok,t1];exact .refl _
end
open Go Go.RowKit
abbrev By:=List UInt8
structure Tok where
 k:Nat
 w:By
 p:Nat
 deriving Inhabited
def Fd(t:Tok):List SV:=[.int .i64 t.k,.str (bs t.w),.int .i64 t.p]
def Jd(n:Nat):Bool:=(decide (97<=n) && decide (n<=122)) || (decide (65<=n) && decide (n<=90))
def Ps(n:Nat):Bool:=decide (48<=n) && decide (n<=57)
def Lw(c:UInt8):Bool:=Jd c.toNat || Ps c.toNat
def Hq:Nat->Nat->By->Option (List Tok)
 |0,_,_=>none
 |_+1,_,[]=>some []
 |f+1,p,c::r=>
  if c.toNat=32 then Hq f (p+1) r
  else if c.toNat=40 then (Hq f (p+1) r).map fun l=>⟨1,[c],p⟩::l
  else if c.toNat=41 then (Hq f (p+1) r).map fun l=>⟨2,[c],p⟩::l
  else if Jd c.toNat=true then
   if (r.takeWhile Lw).length<20 then (Hq f (p+1+(r.takeWhile Lw).length) (r.dropWhile Lw)).map fun l=>⟨3,c::r.takeWhile Lw,p⟩::l else none
  else if c.toNat=48 then
   match r with
   |[]=>some [⟨4,[c],p⟩]
   |d::_=>if Lw d=true then none else (Hq f (p+1) r).map fun l=>⟨4,[c],p⟩::l
  else none
inductive LE where
 |z|i|j|si|sj|m
 deriving DecidableEq,Inhabited
def LE.ev(i j:Nat):LE->Nat
 |.z=>0
 |.i=>i
 |.j=>j
 |.si=>i+1
 |.sj=>j+1
 |.m=>max i j
inductive LT where
 |var (n:Nat)
 |nd (k:Nat) (a b:LE) (n:Nat) (l:List LT)
 deriving Inhabited
def Je:Tok->Option LE
 |⟨k,w,_⟩=>if k=4 then (if w==[48] then some .z else none) else if k=3 then (if w==[105] then some .i else if w==[106] then some .j else none) else none
def Og{α:Type}(x:α):List Tok->Option (α×List Tok)
 |⟨k,_,_⟩::r=>if k=2 then some (x,r) else none
 |[]=>none
def Pc:List Tok->Option (LE×List Tok)
 |[]=>none
 |t::r=>
  if t.k=1 then
   match r with
   |u::x::r=>
    if u.k=3 then
     if u.w==[115,117,99] then (match Je x with
      |some .i=>Og .si r
      |some .j=>Og .sj r
      |_=>none)
     else if u.w==[109,97,120] then (match r with
      |y::r=>(match Je x,Je y with
       |some .i,some .j=>Og .m r
       |_,_=>none)
      |[]=>none)
     else none
    else none
   |_=>none
  else (Je t).map fun e=>(e,r)
def Jz(w:By):List By->Option Nat
 |[]=>none
 |n::l=>if n==w then some 0 else (Jz w l).map (·+1)
def symsL:List By:=[[117,105,112],[102,117,110,101,120,116],[115,121,109],[116,114,97,110,115],[116,114],[104,101,116],[116,121,112],[116,114,104],[104,112],[104,50,101],[101,50,104],[114,112],[99,112,105],[99,115,105,103],[99,108,97,109],[99,97,112,112],[99,112,97,105,114],[99,102,115,116],[99,115,110,100],[99,101,113],[99,114,101,102,108]]
def arN(n:Nat):Nat:=[5,5,4,6,4,4,5,4,5,4,4,6,6,6,9,12,12,9,9,9,6].getD (n-1) 0
def Rk:List (By×Nat×By):=
 [([115,111,114,116],1,[76]),([80,105],13,[120,116,98]),([76,97,109],14,[120,116,98]),([65,112,112],15,[116,116]),([83,105,103],16,[120,116,98]),([80,97,105,114],17,[120,116,98,116,116]),([70,115,116],18,[116]),([83,110,100],19,[116]),([69,113],20,[116,116,116]),([82,101,102,108],21,[116,116]),([74],22,[116,116,121,101,80,116,116,116]),([117,115,101],23,[83,76,77])]
def Rj(w:By):List (By×Nat×By)->Option (Nat×By)
 |[]=>none
 |(v,k,s)::l=>if v==w then some (k,s) else Rj w l
abbrev TF:=List By->List Tok->Option (LT×List Tok)
def Mr(T:TF)(ns:List By):Nat->List Tok->Option (List LT×List Tok)
 |0,r=>some ([],r)
 |m+1,r=>match T ns r with
  |some (t,r)=>(match Mr T ns m r with
   |some (l,r)=>some (t::l,r)
   |none=>none)
  |none=>none
structure Acc where
 a:LE:=.z
 b:LE:=.z
 n:Nat:=0
 bd:List By:=[]
 l:List LT:=[]
 deriving Inhabited
def Ky(T:TF)(ns:List By)(k:Nat)(c:UInt8)(x:Acc)(r:List Tok):Option (Acc×List Tok):=
 if c.toNat=76 then (Pc r).map fun p=>({ x with a:=p.1 },p.2)
 else if c.toNat=77 then (match Pc r with
  |some (b,r)=>(Mr T ns (arN x.n) r).map fun p=>({ x with b:=b,l:=p.1 },p.2)
  |none=>none)
 else if c.toNat=83 then (match r with
  |⟨k,w,_⟩::r=>if k=3 then (Jz w symsL).map fun n=>({ x with n:=n+1 },r) else none
  |[]=>none)
 else if c.toNat=116 then (T ns r).map fun p=>({ x with l:=x.l++[p.1] },p.2)
 else if c.toNat=98\/c.toNat=80 then (if ns.isEmpty then none else (T (x.bd++ns) r).map fun p=>({ x with l:=x.l++[p.1] },p.2))
 else (match r with
  |⟨k,w,_⟩::r=>if k=3 then some ({ x with bd:=w::x.bd },r) else none
  |[]=>none)
def Fl(T:TF)(ns:List By)(k:Nat):By->Acc->List Tok->Option (LT×List Tok)
 |[],x,r=>Og (.nd k x.a x.b x.n x.l) r
 |c::s,x,r=>match Ky T ns k c x r with
  |some (x,r)=>Fl T ns k s x r
  |none=>none
def Iq:Nat->TF
 |0,_,_=>none
 |f+1,ns,r=>match r with
  |[]=>none
  |t::r=>if t.k=3 then (Jz t.w ns).map fun n=>(.var n,r)
   else if t.k=1 then (match r with
    |[]=>none
    |u::r=>if u.k=3 then (match Rj u.w Rk with
     |some (k,s)=>Fl (Iq f) ns k s {} r
     |none=>none) else none)
   else none
structure LS where
 df:Bool
 nm:By
 ps:List LT
 ty:LT
 bd:Option LT
 deriving Inhabited
def d9(f:Nat):Nat->List By->List LT->List Tok->Option (List By×List LT×List Tok)
 |0,_,_,_=>none
 |g+1,ns,ps,r=>match r with
  |[]=>none
  |t::r=>if t.k=1 then (match r with
    |u::r=>if u.k=3 then (match Iq f ns r with
     |some (a,r)=>(match Og () r with
      |some (_,r)=>d9 f g (u.w::ns) (ps++[a]) r
      |none=>none)
     |none=>none) else none
    |[]=>none)
   else if t.k=2 then some (ns,ps,r) else none
def Qr(tx:By):Option LS:=
 match Hq (tx.length+1) 0 tx with
 |some (a::b::c::d::r)=>
  if a.k=1/\b.k=3/\c.k=3/\d.k=1 then
   match d9 r.length r.length [] [] r with
   |some (ns,ps,r)=>(match Iq r.length ns r with
    |some (ty,r)=>if b.w==[100,101,102] then (match Iq r.length ns r with
      |some (bd,r)=>(match Og () r with
       |some (_,[])=>some ⟨true,c.w,ps,ty,some bd⟩
       |_=>none)
      |none=>none)
     else (match Og () r with
      |some (_,[])=>some ⟨false,c.w,ps,ty,none⟩
      |_=>none)
    |none=>none)
   |none=>none
  else none
 |_=>none
def Io:Nat->List Tok->Option (Nat×List Tok)
 |_,[]=>none
 |d,t::r=>
  if t.k=1 then Io (d+1) r
  else if t.k=2 then (match d with
   |0=>none
   |1=>some (t.p+t.w.length,r)
   |d+1=>Io d r)
  else if d=0 then some (t.p+t.w.length,r) else Io d r
def Abm(ns:List By)(tx:By):Option LT:=
 match Hq (tx.length+1) 0 tx with
 |some l=>(match Iq l.length ns l with
  |some (t,[])=>some t
  |_=>none)
 |none=>none
def Kz(tx:By)(ns:List By):List Tok->Option (LT×List Tok)
 |[]=>none
 |t::r=>match Io 0 (t::r) with
  |some (e,r)=>if t.p<=e/\e<=tx.length then (Abm ns ((tx.drop t.p).take (e-t.p))).map fun x=>(x,r) else none
  |none=>none
def Wx(tx:By):Nat->List By->List LT->List Tok->Option (List By×List LT×List Tok)
 |0,_,_,_=>none
 |g+1,ns,ps,r=>match r with
  |[]=>none
  |t::r=>if t.k=1 then (match r with
    |u::r=>(match Kz tx ns r with
     |some (a,_::r)=>Wx tx g (u.w::ns) (ps++[a]) r
     |_=>none)
    |[]=>none)
   else some (ns,ps,r)
def Aa4(tx:By):Option LS:=
 match Hq (tx.length+1) 0 tx with
 |some (_::b::c::_::r)=>
   match Wx tx r.length [] [] r with
   |some (ns,ps,r)=>(match Kz tx ns r with
    |some (ty,r)=>if b.w==[100,101,102] then (match Kz tx ns r with
      |some (bd,_)=>some ⟨true,c.w,ps,ty,some bd⟩
      |none=>none)
     else some ⟨false,c.w,ps,ty,none⟩
    |none=>none)
   |none=>none
 |_=>none
end Go.Proofs.YtdpigpopcbjkmaaGreatDoor.Abs
