import Derived.Test.YtdpigpopcbjkmaaGreatDoorZPi
import Derived.Test.YtdpigpopcbjkmaaGreatDoorZEv
import Derived.Test.YtdpigpopcbjkmaaGreatDoorProg
import Derived.KernelRfl
import Derived.Test.YtdpigpopcbjkmaaGreatDoorZAfC
import Derived.Test.YtdpigpopcbjkmaaGreatDoorZTe
set_option linter.unusedSimpArgs false
set_option linter.unusedVariables false
set_option maxRecDepth 20000
set_option maxHeartbeats 4000000
namespace Go.Proofs.YtdpigpopcbjkmaaGreatDoor.Abs
open Go Go.RowKit Go.Proofs.YtdpigpopcbjkmaaGreatDoor
theorem Bbe (t:Tm) (ht:TOk t) (hp:Ch t=true):Con 141 [.agg true (tv t)] (.agg true (tv t)):=by
 have h:=Xd t ht;rw [hp] at h;have hz:=Ag t;refine Al mixed Tryz.func141 tr141 ?_;simp only [go_sem,seval,hz];refine Aa h ?_;simp only [go_sem,seval,hz]
theorem Ajf (u:Tm) (hu:TOk u) (hp:Ch u=true) (d:Int) (hd:0<=d) (b:Bool) (hh:(2:Int)*Ke u<=1000000000000):Con 128 [.agg true (tv u),.int .i64 d,.bool b] (Cy ((Hc d 0 u).map tv)):=by
 have h1:=Bbe u hu hp;have h2:=Avb d hd u hu 2 0 hp (by omega) (by omega);have hz:=Ag u;refine Al mixed Tryz.func128 tr128 ?_;cases hl:Hc d 0 u with
 |none=>
  rw [hl] at h2;have Hg:=Ag zT;cases b
  ·simp only [go_sem,seval,hz];refine Aa h2 ?_;simp only [go_sem,seval,Cy,Option.map_none,Hg]
  ·simp only [go_sem,seval,hz];refine Aa h1 ?_;simp only [go_sem,seval,hz];refine Aa h2 ?_;simp only [go_sem,seval,Cy,Option.map_none,Hg]
 |some v=>
  rw [hl] at h2;have Hg:=Ag v;cases b
  ·simp only [go_sem,seval,hz];refine Aa h2 ?_;simp only [go_sem,seval,Cy,Option.map_some,Hg]
  ·simp only [go_sem,seval,hz];refine Aa h1 ?_;simp only [go_sem,seval,hz];refine Aa h2 ?_;simp only [go_sem,seval,Cy,Option.map_some,Hg]
theorem Aj4 (kk i j n p:Int) (rows:List (List SV)):∃z,Con 129 [.agg true [.int .i64 kk,.int .i64 i,.int .i64 j,.int .i64 n,.dsl 5 rows],.int .i64 p] (.bool z):=by
 by_cases h:12<kk
 ·refine⟨true,Al mixed Tryz.func129 tr129 ?_⟩;simp only [go_sem,seval,h]
 ·cases Lo:(kk==12)<;>cases h2:(p==2)
  ·refine⟨false,Al mixed Tryz.func129 tr129 ?_⟩;simp only [go_sem,seval,h,Lo,h2]
  ·refine⟨false,Al mixed Tryz.func129 tr129 ?_⟩;simp only [go_sem,seval,h,Lo,h2]
  ·refine⟨false,Al mixed Tryz.func129 tr129 ?_⟩;simp only [go_sem,seval,h,Lo,h2]
  ·refine⟨true,Al mixed Tryz.func129 tr129 ?_⟩;simp only [go_sem,seval,h,Lo,h2]
theorem A3e (kk i j n d:Int) (b:Bool) (u:Tm) (rows:List (List SV)) (X:Nat->List SV->Option (List SV)) (h2:rows.length*56<=140737488355328) (h5:∀r∈rows,r.length=5)
  (hv:¬kk=2) (hd:0<=d) (Ev:d<=1000000000000) (hX:∀p:Nat,∀r∈rows,∀u,X p r=some u->u.length=5)
  (H:∀p:Nat,∀r∈rows,∀b',Con 114 [.agg true r,.agg true (tv u),.int .i64 (d+Bk kk p),.bool b'] (Cy (X p r))) :
  Con 114 [.agg true [.int .i64 kk,.int .i64 i,.int .i64 j,.int .i64 n,.dsl 5 rows],.agg true (tv u),.int .i64 d,.bool b] (Cy ((Cb X 0 rows).map fun rs=>[.int .i64 kk,.int .i64 i,.int .i64 j,.int .i64 n,.dsl 5 rs])):=by
 have Mf:((List.range rows.length).map fun p=>(X p (rows[p]?.getD [])).getD []).length=rows.length:=by simp
 have Nj:∀x,x<rows.length->((List.range rows.length).map fun p=>(X p (rows[p]?.getD [])).getD [])[x]?.getD []=(X x (rows[x]?.getD [])).getD []:=fun x hx=>by
  rw [List.getElem?_map,List.getElem?_range hx];rfl
 have Rx:(∀x,x<rows.length->X x (rows[x]?.getD [])≠none)->Cb X 0 rows=some ((List.range rows.length).map fun p=>(X p (rows[p]?.getD [])).getD []):=fun h=>by
  rw [Ac4 (d:=[]) (e:=[]) (fun x hx=>by rw [Nat.zero_add];exact h x hx)];simp only [Nat.zero_add]
 generalize ((List.range rows.length).map fun p=>(X p (rows[p]?.getD [])).getD [])=ys at *
 have q1:(kk==2)=false:=by simp [hv]
 have Co:=Ag u;have core:∀r0,(Cb X 0 rows=none->r0=.tup [.agg true [.int .i64 0,.int .i64 0,.int .i64 0,.int .i64 0,.nils],.bool false]) ->
   (∀us,Cb X 0 rows=some us->r0=.tup [.agg true [.int .i64 kk,.int .i64 i,.int .i64 j,.int .i64 n,.dsl 5 us],.bool true]) ->
   Con 114 [.agg true [.int .i64 kk,.int .i64 i,.int .i64 j,.int .i64 n,.dsl 5 rows],.agg true (tv u),.int .i64 d,.bool b] r0:=by
  intro r0 hn hs;refine Al mixed Tryz.func114 tr114 ?_;simp only [go_sem,seval,q1,Co];clear q1;intros;refine Qs (fun x=>⟨(.jk::.jk::.int .i64 d::.bool b::.ref 0 0 0 0::.ref 1 0 0 0::.jk::.jk::.ref 2 0 0 0::.jk::.ref 3 0 0 0::.osl 4 x 0 x::.int .i64 x::.jk::.jk::.jk::.jk::.jk::.jk::.jk::.jk::.jk::.jk::.jk::.jk::.jk::.jk::.jk::.jk::.jk::.jk::.jk::.jk::.jk::.jk::.jk::.jk::.jk::.jk::.jk::.jk::.jk::.jk::.jk::.jk::.jk::.jk::.jk::.jk::.jk::.jk::.jk::.jk::.jk::.jk::.jk::.jk::.jk::.jk::.jk::.jk::.jk::.jk::.jk::.jk::.jk::.jk::.jk::.jk::.jk::.jk::.jk::.jk::.jk::.jk::.jk::.jk::.jk::.jk::.jk::.jk::.jk::.jk::.jk::.jk::[]),[⟨true,5,[[.int .i64 kk,.int .i64 i,.int .i64 j,.int .i64 n,.dsl 5 rows]],0,0,true⟩,⟨true,5,[tv u],0,0,true⟩,⟨true,5,[[.int .i64 0,.int .i64 0,.int .i64 0,.int .i64 0,.nils]],0,0,true⟩,⟨true,5,[[.int .i64 kk,.int .i64 i,.int .i64 j,.int .i64 n,.nils]],0,0,true⟩,⟨false,5,ys.take x,x-1,x,true⟩]⟩) rows.length (fun x=>X x (rows[x]?.getD [])≠none) (fun x hx hp=>?_) ?_
  ·simp only [go_sem,seval];intros;refine⟨fun h=>?_,fun h=>?_⟩
   ·have Ab:=of_decide_eq_true h;have Ce:x<rows.length:=by omega
    have e0:(0:Int)<=(x:Int):=by omega
    have hm:=Hq (d:=[]) Ce;have Dm:=h5 _ hm;have hb:=Mo kk x;have ew:IntKind.i64.wrap (d+Bk kk x)=d+Bk kk x:=w64 (by unfold fit;omega);have hc:=H x _ hm;obtain⟨z,hz⟩:=Aj4 kk i j n x rows;have e1:(ys.take x).length=x:=by simp;omega
    have e2:(x+1)*56<=140737488355328:=by omega
    have e3:x+1<=140737488355328:=by omega
    cases b
    ·simp only [go_sem,seval,Ab,e0,Dm,Co];refine Aa (Cm kk x) ?_;simp only [go_sem,seval,Ab,e0,Dm,ew,Co];refine Aa hz ?_;simp only [go_sem,seval,Ab,e0,Dm,ew,Co];refine Aa (hc z) ?_;cases Ed:X x (rows[x]?.getD []) with
     |none=>
      have Cd:=Ag zT;simp only [go_sem,seval,Cy,Cd];exact hn (Sj (d:=[]) (i:=x) Ce (by rw [Nat.zero_add];exact Ed))
     |some u=>
      have hu:=hX x _ hm u Ed;have hy:=Nj x Ce;rw [Ed,Option.getD_some] at hy;have tn:=Sn (l:=ys) (d:=[]) (i:=x) (by omega);rw [hy] at tn;simp only [go_sem,seval,Cy,hu,Ce,e1,e2,e3,tn];rw [w64 (n:=(x:Int)+1) (by unfold fit;omega)];exact Do 5 (by simp [Ao]) (by simp) (by simp [Be]) (by simp)
    ·simp only [go_sem,seval,Ab,e0,Dm,Co];refine Aa (Cm kk x) ?_;simp only [go_sem,seval,Ab,e0,Dm,ew,Co];refine Aa (hc true) ?_;cases Ed:X x (rows[x]?.getD []) with
     |none=>
      have Cd:=Ag zT;simp only [go_sem,seval,Cy,Cd];exact hn (Sj (d:=[]) (i:=x) Ce (by rw [Nat.zero_add];exact Ed))
     |some u=>
      have hu:=hX x _ hm u Ed;have hy:=Nj x Ce;rw [Ed,Option.getD_some] at hy;have tn:=Sn (l:=ys) (d:=[]) (i:=x) (by omega);rw [hy] at tn;simp only [go_sem,seval,Cy,hu,Ce,e1,e2,e3,tn];rw [w64 (n:=(x:Int)+1) (by unfold fit;omega)];exact Do 5 (by simp [Ao]) (by simp) (by simp [Be]) (by simp)
   ·have Et:=of_decide_eq_false h;have Ko:x=rows.length:=by omega
    have he:=Rx (fun y hy=>hp y (by omega));subst Ko;have ht:ys.take rows.length=ys:=by rw [<-Mf,List.take_length]
    simp only [go_sem,seval,h,Mf,ht];exact hs _ he
  ·exact .trans (.ghost _ 11 5 rfl) (As (by simp [Ao]))
 cases hA:Cb X 0 rows with
 |none=>
  refine (core _ (fun _=>rfl) (fun us h=>?_)).weaken v8;rw [hA] at h;cases h
 |some us=>
  refine core _ (fun h=>?_) (fun us' h=>?_)
  ·rw [hA] at h;cases h
  ·rw [hA] at h;cases h;rfl
theorem Bar {i j n w:Int} {l:List Tm} (h:Ej (.mk 2 i j n l) w=true):l=[]:=by
 rw [Sk,Bool.and_eq_true] at h;have h1:=h.1;unfold Hw at h1;rw [Bool.and_eq_true,Bool.and_eq_true] at h1;have h2:=h1.2.1;have hk:Bf 2 n=0:=by unfold Bf;rfl
 rw [hk] at h2;simp only [Bool.not_eq_true',bne_eq_false_iff_eq] at h2;cases l with
 |nil=>rfl
 |cons x l=>simp at h2;omega
theorem Ayw (u:Tm) (hu:TOk u) (hp:Ch u=true) (hh:(2:Int)*Ke u<=1000000000000) (i j n d w:Int) (b:Bool) (l:List Tm) (hr:Ej (.mk 2 i j n l) w=true) (hi:0<=i/\i<=2147483647) (hd:0<=d) :
  Con 114 [.agg true (tv (.mk 2 i j n l)),.agg true (tv u),.int .i64 d,.bool b] (Cy ((Hd u d (.mk 2 i j n l)).map tv)):=by
 have hl:=Bar hr;subst hl;have Co:=Ag u
 by_cases h1:i=d
 ·subst h1;have hc:=Ajf u hu hp i hd b hh;rw [Ac6 ⟨rfl,Int.le_refl _⟩,if_pos rfl];refine Al mixed Tryz.func114 tr114 ?_;rw [Am];simp only [go_sem,seval,Co];refine Aa hc ?_;cases Hc i 0 u with
  |none=>
   have hz:=Ag zT;simp only [go_sem,seval,Cy,Option.map_none,hz]
  |some v=>
   have hz:=Ag v;simp only [go_sem,seval,Cy,Option.map_some,hz]
 ·have q1:(i==d)=false:=by simp [h1]
  by_cases h2:d<i
  ·rw [Ac6 ⟨rfl,by omega⟩,if_neg h1];have ew:IntKind.i64.wrap (i-1)=i-1:=w64 (by unfold fit;omega);have hle:=Ako 2 (i-1) 0 0;rw [Option.map_some,show tv (vr (i-1))=[.int .i64 2,.int .i64 (i-1),.int .i64 0,.int .i64 0,.dsl 5 []] from by simp [vr,Am]];refine (Al mixed Tryz.func114 tr114 ?_).weaken hle;rw [Am];simp only [go_sem,seval,Co,q1,h2,ew]
  ·rw [p9 (fun h=>by omega),Cb,Option.map_some,Option.map_some];have hz:=Ag (.mk 2 i j n []);rw [Am] at hz;refine Al mixed Tryz.func114 tr114 ?_;rw [Am];simp only [go_sem,seval,Cy,Co,q1,h2]
theorem Api (u:Tm) (hu:TOk u) (hp:Ch u=true) (hh:(2:Int)*Ke u<=1000000000000) (t:Tm):TOk t->∀(w d:Int) (b:Bool),Ej t w=true->0<=d->d+2*Ke t<=1000000000000 ->
  Con 114 [.agg true (tv t),.agg true (tv u),.int .i64 d,.bool b] (Cy ((Hd u d t).map tv)):=by
 induction t using Tm.ind with
 |h kk i j n l ih=>
  intro hok w d b hr hd Eh;cases hok with
  |mk _ _ _ _ _ f1 f2 f3 f4 hb hl=>
  rw [Ac2] at Eh
  by_cases hv:kk=2
  ·have hi:=o0 hr hv;subst hv;exact Ayw u hu hp hh i j n d w b l hr hi hd
  ·have h:=A3e kk i j n d b u (l.map tv) (fun p r=>onT (fun t=>(Hd u (d+Bk kk (p:Nat)) t).map tv) none r) (by simpa using hb) (rows5 l) hv hd (by omega)
    (fun p r hr u hu=>by
     obtain⟨t,ht,rfl⟩:=List.mem_map.1 hr;simp only [If] at hu;cases he:Hd _ (d+Bk kk (p:Nat)) t with
     |none=>rw [he] at hu;cases hu
     |some v=>rw [he] at hu;cases hu;exact Ag v)
    (fun p r Fl b'=>by
     obtain⟨t,ht,rfl⟩:=List.mem_map.1 Fl;simp only [If];obtain⟨w',hw⟩:=Uq hr ht;have hm:=Ahz ht;have hbl:=Mo kk p;exact ih t ht (hl t ht) w' _ b' hw (by omega) (by omega))
   rw [A1r (fun h=>hv h.1),<-Am] at h;exact h
def Aaj (u t:Tm):Tm:=(Hd u 0 t).getD zT
theorem Ahi (t u:Tm) (ht:TOk t) (hu:TOk u) (hpt:Ch t=true) (hpu:Ch u=true):Con 113 [.agg true (tv t),.agg true (tv u)] (.bool true):=by
 have h1:=w5 u hu hpu;have h2:=Xd t ht;rw [hpt] at h2;have hz:=Ag t;have Co:=Ag u;have h0:=tv_0 (t:=t);refine Al mixed Tryz.func113 tr113 ?_;cases Rm:(t.k==1)<;>cases Dj:(t.k==2)
 all_goals
  simp only [go_sem,seval,hz,Co,h0];refine Aa h1 ?_;simp only [go_sem,seval,hz,Co,h0,Rm,Dj]
  try (refine Aa h2 ?_;simp only [go_sem,seval,hz,Co,h0,Rm,Dj])
theorem Bch (t u:Tm) (ht:TOk t) (hu:TOk u) (hpt:Ch t=true) (hpu:Ch u=true) (Gg:Ke t<=100000000) (Qg:Ke u<=100000000) :
  Con 95 [.agg true (tv t),.agg true (tv u)] (.agg true (tv (Aaj u t))):=by
 have h1:=w5 t ht hpt;have h3:=Ahi t u ht hu hpt hpu;have h2:=Api u hu hpu (by omega) t ht 2 0 false hpt (by omega) (by omega);have hz:=Ag t;have Co:=Ag u;unfold Aaj;cases hp:Hd u 0 t with
 |none=>
  rw [hp] at h2;refine (Al (r:=.agg true [.int .i64 0,.int .i64 0,.int .i64 0,.int .i64 0,.nils]) mixed Tryz.func95 tr95 ?_).weaken Aim;have Hg:=Ag zT;simp only [go_sem,seval,hz,Co];refine Aa h1 ?_;simp only [go_sem,seval,hz,Co];refine Aa h3 ?_;simp only [go_sem,seval,hz,Co];refine Aa h2 ?_;simp only [go_sem,seval,Cy,Option.map_none,Hg]
 |some v=>
  rw [hp] at h2;have Hg:=Ag v;refine Al mixed Tryz.func95 tr95 ?_;simp only [go_sem,seval,hz,Co];refine Aa h1 ?_;simp only [go_sem,seval,hz,Co];refine Aa h3 ?_;simp only [go_sem,seval,hz,Co];refine Aa h2 ?_;simp only [go_sem,seval,Cy,Option.map_some,Hg,Option.getD_some]
open Go Go.Proofs Go.Proofs.YtdpigpopcbjkmaaGreatDoor
def af16:AF:=⟨61,[(.t 0)],(sqF [oP 0 (.mv (cB false))] (sqF [oP 8 (.call 37 [(cI 1)]),oP 9 (.build [(iS 0),(iS 0),(iS 0),(iS 0),.nils] [(0,(1,(cI 2)))]),oP 10 (.bslice 5 [(.t 8),(.t 9)]),oP 11 (.build [(iS 0),(iS 0),(iS 0),(iS 0),.nils] [(0,(1,(cI 14))),(4,(1,(.t 10)))]),oP 12 (.call 37 [(cI 0)]),oP 13 (.bslice 5 [(.t 11),(.t 12)]),oP 14 (.build [(iS 0),(iS 0),(iS 0),(iS 0),.nils] [(0,(1,(cI 15))),(4,(1,(.t 13)))]),oP 1 (.new [(iS 0),(iS 0),(iS 0),(iS 0),.nils]),oN (.store 5 (.t 1) (.t 14))] (sqF [oP 16 (.load true 5 (.t 1)),oP 17 (.call 14 [(.t 16),(.c (.float .f64 4607182418800017408))]),oP 15 (mT 17),oP 18 (.ext (.t 15) 0),oP 19 (.ext (.t 15) 1),oP 2 (.new [(iS 0),(iS 0),(iS 0),(iS 0),.nils]),oN (.store 5 (.t 2) (.t 18)),oP 3 (mT 19)] (sqF [oP 21 (.load true 5 (.t 1)),oP 22 (.call 21 [(.t 21),(.c (.float .f64 4607182418800017408))]),oP 20 (mT 22),oP 23 (.ext (.t 20) 0),oP 24 (.ext (.t 20) 1),oP 4 (.new [(iS 0),(iS 0),(iS 0),(iS 0),.nils]),oN (.store 5 (.t 4) (.t 23)),oP 5 (mT 24)] (sqF [oP 26 (.build [(iS 0),(iS 0),(iS 0),(iS 0),.nils] []),oP 27 (.call 14 [(.t 26),(.c (.float .f64 4607182418800017408))]),oP 25 (mT 27),oP 28 (.ext (.t 25) 0),oP 29 (.ext (.t 25) 1),oP 6 (.new [(iS 0),(iS 0),(iS 0),(iS 0),.nils]),oN (.store 5 (.t 6) (.t 28)),oP 7 (mT 29)] (sqF [oP 30 (mT 3),oP 31 (.bin 0 .eql (.t 30) (cI 0)),oP 32 (mT 31),oG 33 32 true 0 (fdT 0 2),oG 34 32 true 0 (ldT 33),oG 35 32 true 0 (.bin 0 .eql (.t 34) (cI 1)),oP 36 (.pick (.t 32) (.t 35) (cB false)),oP 37 (mT 36),oG 38 37 true 0 (fdT 1 2),oG 39 37 true 0 (ldT 38),oG 40 37 true 0 (.bin 0 .eql (.t 39) (cI 0)),oP 41 (.pick (.t 37) (.t 40) (cB false)),oP 42 (mT 41),oG 43 42 true 0 (fdT 4 2),oG 44 42 true 0 (ldT 43),oG 45 42 true 0 (.len false (.t 44)),oG 46 42 true 0 (.bin 0 .eql (.t 45) (cI 0)),oP 47 (.pick (.t 42) (.t 46) (cB false)),oP 48 (mT 47),oG 49 48 true 0 (mT 5),oG 50 48 true 0 (.bin 0 .eql (.t 49) (cI 0)),oP 51 (.pick (.t 48) (.t 50) (cB false)),oP 52 (mT 51),oG 53 52 true 0 (fdT 0 4),oG 54 52 true 0 (ldT 53),oG 55 52 true 0 (.bin 0 .eql (.t 54) (cI 1)),oP 56 (.pick (.t 52) (.t 55) (cB false)),oP 57 (mT 56),oG 58 57 true 0 (mT 7),oG 59 57 true 0 (.bin 0 .eql (.t 58) (cI 1)),oP 60 (.pick (.t 57) (.t 59) (cB false)),oP 0 (mT 60)] .ret))))))⟩
theorem tr16:trF Tryz.prog Tryz.f16=some af16:=by kernel_rfl
attribute [go_sem] af16
def af37:AF:=⟨5,[(.cell 2 true 5)],(sqF [oP 2 (.new [(iS 0),(iS 0),(iS 0),(iS 0),.nils])] (sqF [oP 3 (mT 0),oP 4 (.build [(iS 0),(iS 0),(iS 0),(iS 0),.nils] [(0,(1,(cI 1))),(1,(1,(.t 3)))]),oN (.store 5 (.t 2) (.t 4))] .ret))⟩
theorem tr37:trF Tryz.prog Tryz.f37=some af37:=by kernel_rfl
attribute [go_sem] af37
theorem Un {k i j n:Int} {l:List Tm} (h:TOk (.mk k i j n l)):fit k/\fit i/\fit j/\fit n/\l.length*56<=140737488355328/\∀t∈l,TOk t:=by
 cases h with
 |mk _ _ _ _ _ f1 f2 f3 f4 hb hl=>exact⟨f1,f2,f3,f4,hb,hl⟩
def pm (F:Nat->Int):Nat->Int
 |0=>0
 |x+1=>max (pm F x) (F x)
theorem Apo (F:Nat->Int):∀x,0<=pm F x:=by
 intro x
 induction x with
 |zero=>exact Int.le_refl _
 |succ x ih=>rw [pm];omega
theorem Ah9 {F G:Nat->Int}:∀{x:Nat},(∀y,y<x->F y=G y)->pm F x=pm G x:=by
 intro x
 induction x with
 |zero=>intro _;rfl
 |succ x ih=>intro h;rw [pm,pm,ih (fun y hy=>h y (by omega)),h x (by omega)]
theorem Ake {F:Nat->Int} {b:Int} (hb:0<=b):∀{x:Nat},(∀y,y<x->F y<=b)->pm F x<=b:=by
 intro x
 induction x with
 |zero=>intro _;exact hb
 |succ x ih=>intro h;rw [pm];have:=ih (fun y hy=>h y (by omega));have:=h x (by omega);omega
theorem A9b (F:Nat->Int):∀x,pm F (x+1)=max (F 0) (pm (fun y=>F (y+1)) x):=by
 intro x
 induction x with
 |zero=>simp only [pm];omega
 |succ x ih=>rw [pm,ih,pm];omega
mutual
def Gp:Tm->Int
 |.mk k i _ _ l=>if k=2 then i+1 else Yi k 0 l
def Yi (k:Int):Nat->List Tm->Int
 |_,[]=>0
 |p,t::l=>max (Gp t-Bk k p) (Yi k (p+1) l)
end
theorem Azd (k:Int):∀(l:List Tm) (p:Nat),Yi k p l=pm (fun y=>Gp (l[y]?.getD default)-Bk k ((p+y:Nat):Int)) l.length:=by
 intro l
 induction l with
 |nil=>intro p;rw [Yi];rfl
 |cons t l ih=>
  intro p;rw [Yi,ih,List.length_cons,A9b];simp only [List.getElem?_cons_zero,List.getElem?_cons_succ,Option.getD_some,Nat.add_zero];congr 1;refine Ah9 (fun y _=>?_);rw [show p+1+y=p+(y+1) by omega]
theorem o9 {k i j n:Int} {l:List Tm} (h:k≠2):Gp (.mk k i j n l)=pm (fun y=>Gp (l[y]?.getD default)-Bk k ((y:Nat):Int)) l.length:=by
 rw [Gp,if_neg h,Azd];exact Ah9 (fun y _=>by rw [Nat.zero_add])
theorem Azo (t:Tm):∀w,Ej t w=true->0<=Gp t/\Gp t<=2147483648:=by
 induction t using Tm.ind with
 |h k i j n l ih=>
  intro w hr
  by_cases h:k=2
  ·have:=o0 hr h;rw [Gp,if_pos h];omega
  ·rw [o9 h];refine⟨Apo _ _,Ake (by omega) (fun y hy=>?_)⟩;obtain⟨w',hw⟩:=Uq hr (Hq (d:=default) hy);have:=ih _ (Hq (d:=default) hy) w' hw;have:=Mo k y;omega
theorem Aqj {V:Nat->Int} {x:Nat}:(if pm V x<V x then V x else pm V x)=pm V (x+1):=by
 rw [pm];split<;>omega
theorem Aud (k i j n:Int) (rows:List (List SV)) (V:Nat->Int) (h2:rows.length*56<=140737488355328) (h5:∀r∈rows,r.length=5) (hk:k≠2) (hV:∀x,x<rows.length->0<=V x/\V x<=2147483648)
  (H:∀x,x<rows.length->Con 41 [.agg true (rows[x]?.getD [])] (.int .i64 (V x))) :
  Con 41 [.agg true [.int .i64 k,.int .i64 i,.int .i64 j,.int .i64 n,.dsl 5 rows]] (.int .i64 (pm (fun x=>V x-Bk k (x:Nat)) rows.length)):=by
 refine Al mixed Tryz.func41 tr41 ?_;have q:(k==2)=false:=Ah hk;simp only [go_sem,seval,q];obtain⟨W,hW⟩:∃W,(fun x:Nat=>V x-Bk k (x:Nat))=W:=⟨_,rfl⟩
 rw [hW];refine Ig (fun x=>⟨(.jk::.ref 0 0 0 0::.int .i64 0::.int .i64 (pm W x)::.int .i64 x::.jk::.jk::.jk::.jk::.jk::.jk::.jk::.jk::.jk::.jk::.jk::.jk::.jk::.jk::.jk::.jk::.jk::.jk::.jk::.jk::.jk::.jk::.jk::.jk::.jk::.jk::.jk::[]),[⟨true,5,[[.int .i64 k,.int .i64 i,.int .i64 j,.int .i64 n,.dsl 5 rows]],0,0,true⟩]⟩) rows.length (fun x hx=>?_) ?_
 ·simp only [go_sem,seval];intros;refine⟨fun h=>?_,fun h=>?_⟩
  ·have Ab:=of_decide_eq_true h;have Ce:x<rows.length:=by omega
   have e0:(0:Int)<=(x:Int):=by omega
   have hm:=Hq (d:=[]) Ce;have Dm:=h5 _ hm;have hb:=Mo k x;have hv:=hV x Ce;have ew:IntKind.i64.wrap (V x-Bk k x)=W x:=by rw [<-hW];exact w64 (by unfold fit;omega)
   simp only [go_sem,seval,Ab,e0,Dm];refine Aa (H x Ce) ?_;simp only [go_sem,seval];refine Aa (Cm k x) ?_;simp only [go_sem,seval,ew,Aqj];refine⟨Ce,?_⟩;rw [w64 (n:=(x:Int)+1) (by unfold fit;omega)];exact As (by simp [Ao])
  ·have Et:=of_decide_eq_false h;have Ko:x=rows.length:=by omega
   subst Ko;simp only [go_sem,seval,h]
 ·exact As (by simp [Ao,pm])
theorem Aj0 (t:Tm):TOk t->∀(w:Int),Ej t w=true->Con 41 [.agg true (tv t)] (.int .i64 (Gp t)):=by
 induction t using Tm.ind with
 |h k i j n l ih=>
  intro hok w hr;obtain⟨f1,f2,f3,f4,hb,hl⟩:=Un hok
  by_cases hk:k=2
  ·obtain⟨i1,i2⟩:=o0 hr hk;have q:(k==2)=true:=by simp [hk]
   have e1:IntKind.i64.wrap (i+1)=i+1:=w64 (by unfold fit;omega);rw [Gp,if_pos hk];refine Al mixed Tryz.func41 tr41 ?_;rw [Am];simp only [go_sem,seval,q,e1]
  ·have Aj:(l.map tv).length=l.length:=by simp
   have h:=Aud k i j n (l.map tv) (fun x=>Gp (l[x]?.getD default)) (by omega) (rows5 l) hk (fun x hx=>by
    rw [Aj] at hx;obtain⟨w',hw⟩:=Uq hr (Hq (d:=default) hx);exact Azo _ w' hw) (fun x hx=>by
    rw [Aj] at hx;rw [List.getElem?_map,q_f hx];have hm:=List.getElem_mem hx;obtain⟨w',hw⟩:=Uq hr hm;exact ih _ hm (hl _ hm) w' hw)
   rw [Aj,<-Am,<-o9 hk] at h;exact h
theorem Bca (t:Tm) (ht:TOk t) (hp:Ch t=true):Con 19 [.agg true (tv t)] (.int .i64 (Gp t)):=by
 have h1:=w5 t ht hp;have hz:=Ag t;have h2:=Aj0 t ht 2 hp;refine Al mixed Tryz.func19 tr19 ?_;simp only [go_sem,seval,hz];refine Aa h1 ?_;simp only [go_sem,seval,hz];refine Aa h2 ?_;simp only [go_sem,seval]
open Go Go.Proofs Go.Proofs.YtdpigpopcbjkmaaGreatDoor
def a35_26:AC:=sqF [oP 51 (.bin 0 .lss (.t 50) (.t 49))] (.seq (.cond (.t 51) .skip (.exit 0)) (.seq (.blk 1 (sqF [oP 52 (mT 50),oP 53 (.iad 1 (.t 48) (.t 50)),oP 54 (ldT 53),oP 9 (mT 52),oP 10 (mT 54)] (sqF [oP 55 (mT 7),oP 56 (nkT 55),oP 57 (fdT 0 56),oP 58 (ldT 57),oP 59 (mT 9),oP 60 (.call 60 [(.t 58),(.t 59)]),oP 11 (mT 60)] (.seq (sqF [oP 61 (mT 11),oP 62 (.bin 0 .gtr (.t 61) (cI 0))] (.cond (.t 62) (rgF [oP 63 (mT 10),oP 64 (mT 2),oP 65 (mT 11),oP 66 (.hcall 61 [(.t 63),(.t 64),(.t 65)]),oP 10 (mT 66)]) .skip)) (.reg [oP 67 (fdT 4 8),⟨(some 68),(ldT 67),none,1,true,[]⟩,oI 69 2 (mT 0),oI 70 3 (mT 10),oI 71 4 (mT 2),oI 72 5 (mT 11),oI 73 6 (.bin 0 .add (.t 71) (.t 72)),⟨(some 74),(.hcall 35 [(.t 69),(.t 70),(.t 73)]),none,7,false,[1,7]⟩,⟨(some 75),(.bslice 5 [(.t 74)]),none,8,false,[1]⟩,oI 76 9 (.app 5 56 (.t 68) (.t 75)),oI 77 10 (fdT 4 8),oJ 11 (.store 1 (.t 77) (.t 76))] true))))) (rgF [oP 78 (.bin 0 .add (.t 50) (cI 1)),oP 50 (mT 78)])))
def a35_31:AC:=sqF [oP 79 (.load true 5 (.t 8)),oN (.store 5 (.t 6) (.t 79))] .ret
def af35:AF:=⟨80,[(.cell 6 true 5)],(sqF [oP 6 (.new [(iS 0),(iS 0),(iS 0),(iS 0),.nils])] (sqF [oP 12 (mT 0),oP 13 (.hcall 58 [(.t 12)])] (sqF [oP 14 (mT 0),oP 15 (mT 1),oP 16 (.hcall 46 [(.t 14),(.t 15)]),oP 7 (mT 16)] (.seq (sqF [oP 17 (mT 7),oP 18 (nkT 17),oP 19 (fdT 0 18),oP 20 (ldT 19),oP 21 (.bin 0 .eql (.t 20) (cI 2))] (.cond (.t 21) (sqF [oP 22 (mT 7),oP 23 (nkT 22),oP 24 (fdT 4 23),oP 25 (ldT 24),oP 26 (mT 2),oP 27 (.call 59 [(.t 25),(.t 26)]),oN (.store 5 (.t 6) (.t 27))] .ret) .skip)) (sqT [oP 28 (mT 7),oI 29 1 (nkT 28),oI 30 2 (fdT 0 29),⟨(some 31),(ldT 30),none,3,true,[]⟩,oI 32 4 (mT 7),oI 33 5 (nkT 32),oI 34 6 (fdT 1 33),⟨(some 35),(ldT 34),none,7,true,[]⟩,oI 36 8 (mT 7),oI 37 9 (nkT 36),oI 38 10 (fdT 2 37),⟨(some 39),(ldT 38),none,11,true,[]⟩,oI 40 12 (mT 7),oI 41 13 (nkT 40),oI 42 14 (fdT 3 41),⟨(some 43),(ldT 42),none,15,true,[]⟩,oI 44 16 (.build [(iS 0),(iS 0),(iS 0),(iS 0),.nils] [(0,(1,(.t 31))),(1,(1,(.t 35))),(2,(1,(.t 39))),(3,(1,(.t 43)))]),⟨(some 8),(.new [(iS 0),(iS 0),(iS 0),(iS 0),.nils]),none,17,false,[3,7,11,15]⟩,oJ 18 (.store 5 (.t 8) (.t 44))] (.seq (sqF [oP 45 (mT 7),oP 46 (nkT 45),oP 47 (fdT 5 46),oP 48 (ldT 47),oP 49 (.len false (.t 48)),oP 50 (.mv (cI 0))] (.blk 0 (.loop a35_26))) a35_31))))))⟩
theorem tr35:trF Tryz.prog Tryz.f35=some af35:=by kernel_rfl
attribute [go_sem] af35 a35_26 a35_31
def af45:AF:=⟨85,[(.cell 6 true 5)],(sqF [oP 6 (.new [(iS 0),(iS 0),(iS 0),(iS 0),.nils])] (.seq (sqF [oP 11 (mT 1),oP 12 (nkT 11),oP 13 (fdT 0 12),oP 14 (ldT 13),oP 15 (.bin 0 .eql (.t 14) (cI 2))] (.cond (.t 15) (sqF [oP 16 (mT 1),oP 17 (nkT 16),oP 18 (fdT 4 17),oP 19 (ldT 18),oP 20 (mT 2),oP 21 (.call 59 [(.t 19),(.t 20)]),oN (.store 5 (.t 6) (.t 21))] .ret) .skip)) (sqT [oP 22 (mT 1),oI 23 1 (nkT 22),oI 24 2 (fdT 0 23),⟨(some 25),(ldT 24),none,3,true,[]⟩,oI 26 4 (mT 1),oI 27 5 (nkT 26),oI 28 6 (fdT 1 27),⟨(some 29),(ldT 28),none,7,true,[]⟩,oI 30 8 (mT 1),oI 31 9 (nkT 30),oI 32 10 (fdT 2 31),⟨(some 33),(ldT 32),none,11,true,[]⟩,oI 34 12 (mT 1),oI 35 13 (nkT 34),oI 36 14 (fdT 3 35),⟨(some 37),(ldT 36),none,15,true,[]⟩,oI 38 16 (.build [(iS 0),(iS 0),(iS 0),(iS 0),.nils] [(0,(1,(.t 25))),(1,(1,(.t 29))),(2,(1,(.t 33))),(3,(1,(.t 37)))]),⟨(some 7),(.new [(iS 0),(iS 0),(iS 0),(iS 0),.nils]),none,17,false,[3,7,11,15]⟩,oJ 18 (.store 5 (.t 7) (.t 38))] (.seq (sqF [oP 39 (mT 1),oP 40 (nkT 39),oP 41 (fdT 5 40),oP 42 (ldT 41),oP 43 (.len false (.t 42)),oP 44 (.mv (cI 0))] (.blk 0 (.loop (sqF [oP 45 (.bin 0 .lss (.t 44) (.t 43))] (.seq (.cond (.t 45) .skip (.exit 0)) (.seq (.blk 1 (sqF [oP 46 (mT 44),oP 47 (.iad 1 (.t 42) (.t 44)),oP 48 (ldT 47),oP 8 (mT 46),oP 9 (mT 48)] (sqF [oP 49 (mT 1),oP 50 (nkT 49),oP 51 (fdT 0 50),oP 52 (ldT 51),oP 53 (mT 8),oP 54 (.call 60 [(.t 52),(.t 53)]),oP 10 (mT 54)] (sqF [oP 55 (mT 10),oP 56 (.bin 0 .gtr (.t 55) (cI 0))] (.cond (.t 56) (.reg [oP 57 (fdT 4 7),⟨(some 58),(ldT 57),none,1,true,[]⟩,oI 59 2 (mT 0),oI 60 3 (mT 9),oI 61 4 (nkT 60),oI 62 5 (fdT 0 61),oI 63 6 (.load true 5 (.t 62)),oI 64 7 (mT 9),oI 65 8 (nkT 64),oI 66 9 (fdT 5 65),oI 67 10 (ldT 66),oI 68 11 (mT 10),oI 69 12 (mT 2),⟨(some 70),(.hcall 66 [(.t 59),(.t 63),(.t 67),(.t 68),(.t 69)]),none,13,false,[1,13]⟩,⟨(some 71),(.bslice 5 [(.t 70)]),none,14,false,[1]⟩,oI 72 15 (.app 5 56 (.t 58) (.t 71)),oI 73 16 (fdT 4 7),oJ 17 (.store 1 (.t 73) (.t 72))] true) (.reg [oP 74 (fdT 4 7),⟨(some 75),(ldT 74),none,1,true,[]⟩,oI 76 2 (mT 0),oI 77 3 (mT 9),oI 78 4 (mT 2),⟨(some 79),(.hcall 67 [(.t 76),(.t 77),(.t 78)]),none,5,false,[1,5]⟩,⟨(some 80),(.bslice 5 [(.t 79)]),none,6,false,[1]⟩,oI 81 7 (.app 5 56 (.t 75) (.t 80)),oI 82 8 (fdT 4 7),oJ 9 (.store 1 (.t 82) (.t 81))] true)))))) (rgF [oP 83 (.bin 0 .add (.t 44) (cI 1)),oP 44 (mT 83)]))))))) (sqF [oP 84 (.load true 5 (.t 7)),oN (.store 5 (.t 6) (.t 84))] .ret)))))⟩
theorem tr45:trF Tryz.prog Tryz.f45=some af45:=by kernel_rfl
attribute [go_sem] af45
def a69_24:AC:=.blk 1 (.seq (sqF [oP 7 (mT 1),oP 8 (nkT 7),oP 9 (fdT 0 8),oP 10 (ldT 9),oP 11 (.bin 0 .eql (.t 10) (cI 23))] (.cond (.t 11) (.seq (sqT [oP 12 (mT 0),oI 13 1 (mT 1),oI 14 2 (nkT 13),oI 15 3 (fdT 3 14),oI 16 4 (ldT 15),oI 17 5 (mT 1),oI 18 6 (nkT 17),oI 19 7 (fdT 1 18),oI 20 8 (ldT 19),oI 21 9 (mT 1),oI 22 10 (nkT 21),oI 23 11 (fdT 2 22),oI 24 12 (ldT 23),⟨(some 25),(.hcall 91 [(.t 12),(.t 16),(.t 20),(.t 24)]),none,13,false,[13]⟩,oI 5 14 (mT 25)] (sqF [oP 26 (mT 5),oP 27 (.bin 2 .neq (.t 26) (.c .nilp)),oP 28 (mT 27),oG 29 28 true 0 (mT 5),oG 30 28 true 0 (nkT 29),oG 31 28 true 0 (fdT 12 30),oG 32 28 true 0 (ldT 31),oP 33 (.pick (.t 28) (.t 32) (cB false))] (.cond (.t 33) (sqF [oP 34 (mT 1),oP 35 (nkT 34),oP 36 (fdT 3 35),oP 37 (ldT 36),oP 4 (mT 37)] .ret) .skip))) (sqF [oP 4 (.mv (cI 0))] .ret)) .skip)) (sqF [oP 38 (mT 1),oP 39 (nkT 38),oP 40 (fdT 0 39),oP 41 (ldT 40),oP 42 (.call 92 [(.t 41)]),oP 6 (mT 42)] (.seq (sqF [oP 43 (mT 6),oP 44 (.bin 0 .lss (.t 43) (cI 0))] (.cond (.t 44) (sqF [oP 4 (.mv (cI 0))] .ret) .skip)) (rgF [oP 45 (mT 1),oP 46 (nkT 45),oP 47 (fdT 5 46),oP 48 (ldT 47),oP 49 (mT 6),oP 50 (.iad 1 (.t 48) (.t 49)),oP 51 (ldT 50),oP 52 (nkT 51),oP 53 (fdT 7 52),oP 54 (ldT 53),oP 1 (mT 54)]))))
def af69:AF:=⟨55,[(.t 4)],(sqF [oP 4 (.mv (cI 0))] (.blk 0 (.loop a69_24)))⟩
theorem tr69:trF Tryz.prog Tryz.f69=some af69:=by kernel_rfl
attribute [go_sem] af69 a69_24
def af70:AF:=⟨70,[(.t 4)],(sqF [oP 4 (.mv (.c .nilp))] (.seq (sqF [oP 9 (mT 1),oP 10 (nkT 9),oP 11 (fdT 0 10),oP 12 (ldT 11),oP 13 (.bin 0 .eql (.t 12) (cI 23))] (.cond (.t 13) (sqF [oP 14 (mT 0),oP 15 (.hcall 93 [(.t 14)])] (sqF [oP 5 (.mv (.c .nilp))] (.seq (sqF [oP 16 (mT 1),oP 17 (nkT 16),oP 18 (fdT 5 17),oP 19 (ldT 18),oP 20 (.len false (.t 19)),oP 21 (.mv (cI 0))] (.blk 0 (.loop (sqF [oP 22 (.bin 0 .lss (.t 21) (.t 20))] (.seq (.cond (.t 22) .skip (.exit 0)) (.seq (.blk 1 (sqF [oP 23 (.iad 1 (.t 19) (.t 21)),oP 24 (ldT 23),oP 7 (mT 24)] (rgF [oP 25 (mT 5),oP 26 (mT 7),oP 27 (.call 85 [(.t 25),(.t 26)]),oP 5 (mT 27)]))) (rgF [oP 28 (.bin 0 .add (.t 21) (cI 1)),oP 21 (mT 28)]))))))) (sqT [oP 29 (mT 0),oI 30 1 (mT 0),oI 31 2 (mT 1),oI 32 3 (nkT 31),oI 33 4 (fdT 3 32),oI 34 5 (ldT 33),oI 35 6 (mT 1),oI 36 7 (nkT 35),oI 37 8 (fdT 1 36),oI 38 9 (ldT 37),oI 39 10 (mT 1),oI 40 11 (nkT 39),oI 41 12 (fdT 2 40),oI 42 13 (ldT 41),oI 43 14 (.hcall 91 [(.t 30),(.t 34),(.t 38),(.t 42)]),oI 44 15 (nkT 43),oI 45 16 (fdT 7 44),oI 46 17 (.load true 5 (.t 45)),oI 47 18 (mT 5),⟨(some 48),(.hcall 90 [(.t 29),(.t 46),(.t 47)]),none,19,false,[19]⟩,oI 4 20 (mT 48)] .ret)))) .skip)) (sqF [oP 49 (mT 1),oP 50 (nkT 49),oP 51 (fdT 0 50),oP 52 (ldT 51),oP 53 (.call 92 [(.t 52)]),oP 8 (mT 53)] (sqF [oP 54 (mT 0),oP 55 (mT 1),oP 56 (mT 8),oP 57 (mT 0),oP 58 (mT 1),oP 59 (nkT 58),oP 60 (fdT 5 59),oP 61 (ldT 60),oP 62 (mT 8),oP 63 (.iad 1 (.t 61) (.t 62)),oP 64 (ldT 63),oP 65 (nkT 64),oP 66 (fdT 7 65),oP 67 (ldT 66),oP 68 (.hcall 70 [(.t 57),(.t 67)]),oP 69 (.hcall 94 [(.t 54),(.t 55),(.t 56),(.t 68)]),oP 4 (mT 69)] .ret))))⟩
theorem tr70:trF Tryz.prog Tryz.f70=some af70:=by kernel_rfl
attribute [go_sem] af70
def a90_54:AC:=.blk 1 (.seq (sqF [oP 10 (fdT 0 4),oP 11 (ldT 10),oP 12 (.bin 0 .eql (.t 11) (cI 2))] (.cond (.t 12) (.seq (sqF [oP 13 (mT 2),oP 14 (fdT 1 4),oP 15 (ldT 14),oP 16 (.call 88 [(.t 13),(.t 15)]),oP 7 (mT 16)] (sqF [oP 17 (mT 7),oP 18 (.bin 2 .neq (.t 17) (.c .nilp))] (.cond (.t 18) (sqF [oP 19 (mT 0),oP 20 (mT 7),oP 21 (.hcall 68 [(.t 19),(.t 20)]),oP 6 (mT 21)] .ret) .skip))) (sqT [oP 22 (mT 2),⟨(some 23),(.call 89 [(.t 22)]),none,1,true,[]⟩,oI 24 2 (fdT 1 4),⟨(some 25),(ldT 24),none,3,false,[1]⟩,oI 26 4 (.bin 0 .sub (.t 23) (.t 25)),oI 27 5 (.bin 0 .sub (.t 26) (cI 1)),oI 28 6 (.build [(iS 0),(iS 0),(iS 0),(iS 0),(iS 0),.nils] [(0,(1,(cI 2))),(4,(1,(.t 27)))]),oI 29 7 (.box (.t 28)),oI 6 8 (mT 29)] .ret)) .skip)) (sqF [oP 30 (fdT 0 4),oP 31 (ldT 30),oP 32 (.call 92 [(.t 31)]),oP 8 (mT 32)] (.seq (sqF [oP 33 (mT 8),oP 34 (.bin 0 .lss (.t 33) (cI 0))] (.cond (.t 34) (sqF [oP 35 (mT 0),oP 36 (.load true 5 (.t 4)),oP 37 (mT 2),oP 38 (.hcall 111 [(.t 35),(.t 36),(.t 37),(cI (-1)),(.c .nilp)]),oP 6 (mT 38)] .ret) .skip)) (sqF [oP 39 (mT 0),oP 40 (fdT 4 4),oP 41 (ldT 40),oP 42 (mT 8),oP 43 (.iad 5 (.t 41) (.t 42)),oP 44 (.load true 5 (.t 43)),oP 45 (mT 2),oP 46 (.hcall 90 [(.t 39),(.t 44),(.t 45)]),oP 9 (mT 46)] (.blk 2 (sqF [oP 54 (fdT 0 4),oP 55 (ldT 54),oP 56 (.bin 0 .eql (.t 55) (cI 15)),oP 57 (mT 56),oG 58 57 true 0 (mT 9),oG 59 57 true 0 (nkT 58),oG 60 57 true 0 (fdT 0 59),oG 61 57 true 0 (ldT 60),oG 62 57 true 0 (.bin 0 .eql (.t 61) (cI 14)),oP 63 (.pick (.t 57) (.t 62) (cB false)),oP 53 (mT 63)] (.cond (.t 53) (sqF [oP 64 (mT 0),oP 65 (.hcall 93 [(.t 64)])] (.reg [oP 66 (mT 9),oI 67 1 (nkT 66),oI 68 2 (fdT 5 67),⟨(some 69),(ldT 68),none,3,true,[]⟩,⟨(some 70),(.iad 1 (.t 69) (cI 1)),none,4,true,[]⟩,⟨(some 71),(ldT 70),none,5,true,[]⟩,oI 72 6 (nkT 71),oI 73 7 (fdT 0 72),⟨(some 74),(.load true 5 (.t 73)),none,8,true,[]⟩,oI 75 9 (mT 9),oI 76 10 (nkT 75),oI 77 11 (fdT 5 76),⟨(some 78),(ldT 77),none,12,true,[]⟩,⟨(some 79),(.iad 1 (.t 78) (cI 1)),none,13,true,[]⟩,⟨(some 80),(ldT 79),none,14,true,[]⟩,oI 81 15 (nkT 80),oI 82 16 (fdT 5 81),⟨(some 83),(ldT 82),none,17,true,[]⟩,oI 84 18 (fdT 4 4),oI 85 19 (ldT 84),oI 86 20 (.iad 5 (.t 85) (cI 1)),oI 87 21 (.load true 5 (.t 86)),oI 88 22 (mT 2),⟨(some 89),(.hcall 36 [(.t 87),(.t 88)]),none,23,false,[3,4,5,8,12,13,14,17,23]⟩,⟨(some 90),(.call 85 [(.t 83),(.t 89)]),none,24,false,[3,4,5,8]⟩,oJ 25 (.store 5 (.t 4) (.t 74)),oI 2 26 (mT 90)] true)) (sqF [oP 92 (fdT 0 4),oP 93 (ldT 92),oP 94 (.bin 0 .eql (.t 93) (cI 18)),oP 95 (mT 94),oG 96 95 true 0 (mT 9),oG 97 95 true 0 (nkT 96),oG 98 95 true 0 (fdT 0 97),oG 99 95 true 0 (ldT 98),oG 100 95 true 0 (.bin 0 .eql (.t 99) (cI 17)),oP 101 (.pick (.t 95) (.t 100) (cB false)),oP 91 (mT 101)] (.cond (.t 91) (sqF [oP 102 (mT 0),oP 103 (.hcall 93 [(.t 102)])] (sqF [oP 104 (mT 0),oP 105 (mT 9),oP 106 (nkT 105),oP 107 (fdT 5 106),oP 108 (ldT 107),oP 109 (.iad 1 (.t 108) (cI 2)),oP 110 (ldT 109),oP 111 (.hcall 68 [(.t 104),(.t 110)]),oP 6 (mT 111)] .ret)) (sqF [oP 113 (fdT 0 4),oP 114 (ldT 113),oP 115 (.bin 0 .eql (.t 114) (cI 19)),oP 116 (mT 115),oG 117 116 true 0 (mT 9),oG 118 116 true 0 (nkT 117),oG 119 116 true 0 (fdT 0 118),oG 120 116 true 0 (ldT 119),oG 121 116 true 0 (.bin 0 .eql (.t 120) (cI 17)),oP 122 (.pick (.t 116) (.t 121) (cB false)),oP 112 (mT 122)] (.cond (.t 112) (sqF [oP 123 (mT 0),oP 124 (.hcall 93 [(.t 123)])] (sqF [oP 125 (mT 0),oP 126 (mT 9),oP 127 (nkT 126),oP 128 (fdT 5 127),oP 129 (ldT 128),oP 130 (.iad 1 (.t 129) (cI 3)),oP 131 (ldT 130),oP 132 (.hcall 68 [(.t 125),(.t 131)]),oP 6 (mT 132)] .ret)) (sqF [oP 134 (fdT 0 4),oP 135 (ldT 134),oP 136 (.bin 0 .eql (.t 135) (cI 22)),oP 137 (mT 136),oG 138 137 true 0 (mT 9),oG 139 137 true 0 (nkT 138),oG 140 137 true 0 (fdT 0 139),oG 141 137 true 0 (ldT 140),oG 142 137 true 0 (.bin 0 .eql (.t 141) (cI 21)),oP 143 (.pick (.t 137) (.t 142) (cB false)),oP 133 (mT 143)] (.cond (.t 133) (sqF [oP 144 (mT 0),oP 145 (.hcall 93 [(.t 144)])] (rgF [oP 146 (fdT 4 4),oP 147 (ldT 146),oP 148 (.iad 5 (.t 147) (cI 3)),oP 149 (.load true 5 (.t 148)),oN (.store 5 (.t 4) (.t 149))])) (sqF [oP 47 (mT 0),oP 48 (.load true 5 (.t 4)),oP 49 (mT 2),oP 50 (mT 8),oP 51 (mT 9),oP 52 (.hcall 111 [(.t 47),(.t 48),(.t 49),(.t 50),(.t 51)]),oP 6 (mT 52)] .ret))))))))))))))
def af90:AF:=⟨150,[(.t 6)],(sqF [oP 4 (.box (.t 1)),oP 6 (.mv (.c .nilp))] (.blk 0 (.loop a90_54)))⟩
theorem tr90:trF Tryz.prog Tryz.f90=some af90:=by kernel_rfl
attribute [go_sem] af90 a90_54
def af94:AF:=⟨136,[(.t 8)],(sqF [oP 8 (.mv (.c .nilp))] (.seq (.blk 0 (sqF [oP 11 (mT 1),oP 12 (nkT 11),oP 13 (fdT 0 12),oP 14 (ldT 13),oP 15 (.bin 0 .eql (.t 14) (cI 15)),oP 16 (mT 15),oG 17 16 true 0 (mT 3),oG 18 16 true 0 (nkT 17),oG 19 16 true 0 (fdT 0 18),oG 20 16 true 0 (ldT 19),oG 21 16 true 0 (.bin 0 .eql (.t 20) (cI 14)),oP 22 (.pick (.t 16) (.t 21) (cB false)),oP 10 (mT 22)] (.cond (.t 10) (sqF [oP 23 (mT 0),oP 24 (.hcall 93 [(.t 23)])] (sqT [oP 25 (mT 0),oI 26 1 (mT 3),oI 27 2 (nkT 26),oI 28 3 (fdT 5 27),⟨(some 29),(ldT 28),none,4,true,[]⟩,⟨(some 30),(.iad 1 (.t 29) (cI 1)),none,5,true,[]⟩,⟨(some 31),(ldT 30),none,6,true,[]⟩,oI 32 7 (nkT 31),oI 33 8 (fdT 0 32),⟨(some 34),(.load true 5 (.t 33)),none,9,true,[]⟩,oI 35 10 (mT 3),oI 36 11 (nkT 35),oI 37 12 (fdT 5 36),oI 38 13 (ldT 37),oI 39 14 (.iad 1 (.t 38) (cI 1)),oI 40 15 (ldT 39),oI 41 16 (nkT 40),oI 42 17 (fdT 5 41),oI 43 18 (ldT 42),oI 44 19 (mT 1),oI 45 20 (nkT 44),oI 46 21 (fdT 5 45),oI 47 22 (ldT 46),oI 48 23 (.iad 1 (.t 47) (cI 1)),oI 49 24 (ldT 48),⟨(some 50),(.call 85 [(.t 43),(.t 49)]),none,25,false,[4,5,6,9]⟩,⟨(some 51),(.hcall 90 [(.t 25),(.t 34),(.t 50)]),none,26,false,[26]⟩,oI 8 27 (mT 51)] .ret)) (sqF [oP 53 (mT 1),oP 54 (nkT 53),oP 55 (fdT 0 54),oP 56 (ldT 55),oP 57 (.bin 0 .eql (.t 56) (cI 18)),oP 58 (mT 57),oG 59 58 true 0 (mT 3),oG 60 58 true 0 (nkT 59),oG 61 58 true 0 (fdT 0 60),oG 62 58 true 0 (ldT 61),oG 63 58 true 0 (.bin 0 .eql (.t 62) (cI 17)),oP 64 (.pick (.t 58) (.t 63) (cB false)),oP 52 (mT 64)] (.cond (.t 52) (sqF [oP 65 (mT 0),oP 66 (.hcall 93 [(.t 65)])] (sqF [oP 67 (mT 0),oP 68 (mT 3),oP 69 (nkT 68),oP 70 (fdT 5 69),oP 71 (ldT 70),oP 72 (.iad 1 (.t 71) (cI 2)),oP 73 (ldT 72),oP 74 (.hcall 68 [(.t 67),(.t 73)]),oP 8 (mT 74)] .ret)) (sqF [oP 76 (mT 1),oP 77 (nkT 76),oP 78 (fdT 0 77),oP 79 (ldT 78),oP 80 (.bin 0 .eql (.t 79) (cI 19)),oP 81 (mT 80),oG 82 81 true 0 (mT 3),oG 83 81 true 0 (nkT 82),oG 84 81 true 0 (fdT 0 83),oG 85 81 true 0 (ldT 84),oG 86 81 true 0 (.bin 0 .eql (.t 85) (cI 17)),oP 87 (.pick (.t 81) (.t 86) (cB false)),oP 75 (mT 87)] (.cond (.t 75) (sqF [oP 88 (mT 0),oP 89 (.hcall 93 [(.t 88)])] (sqF [oP 90 (mT 0),oP 91 (mT 3),oP 92 (nkT 91),oP 93 (fdT 5 92),oP 94 (ldT 93),oP 95 (.iad 1 (.t 94) (cI 3)),oP 96 (ldT 95),oP 97 (.hcall 68 [(.t 90),(.t 96)]),oP 8 (mT 97)] .ret)) (sqF [oP 99 (mT 1),oP 100 (nkT 99),oP 101 (fdT 0 100),oP 102 (ldT 101),oP 103 (.bin 0 .eql (.t 102) (cI 22)),oP 104 (mT 103),oG 105 104 true 0 (mT 3),oG 106 104 true 0 (nkT 105),oG 107 104 true 0 (fdT 0 106),oG 108 104 true 0 (ldT 107),oG 109 104 true 0 (.bin 0 .eql (.t 108) (cI 21)),oP 110 (.pick (.t 104) (.t 109) (cB false)),oP 98 (mT 110)] (.cond (.t 98) (sqF [oP 111 (mT 0),oP 112 (.hcall 93 [(.t 111)])] (sqF [oP 113 (mT 0),oP 114 (mT 1),oP 115 (nkT 114),oP 116 (fdT 5 115),oP 117 (ldT 116),oP 118 (.iad 1 (.t 117) (cI 3)),oP 119 (ldT 118),oP 120 (.hcall 68 [(.t 113),(.t 119)]),oP 8 (mT 120)] .ret)) .skip))))))))) (sqF [oP 121 (mT 1),oP 122 (nkT 121),oP 123 (.load true 6 (.t 122)),oP 9 (.new [(iS 0),(iS 0),(iS 0),(iS 0),(iS 0),.nils]),oN (.store 6 (.t 9) (.t 123))] (sqF [oP 124 (mT 1),oP 125 (nkT 124),oP 126 (fdT 5 125),oP 127 (ldT 126),oP 128 (.app 1 8 (.c .nils) (.t 127)),oP 129 (fdT 5 9),oN (.store 1 (.t 129) (.t 128))] (sqT [oP 130 (fdT 5 9),⟨(some 131),(ldT 130),none,1,true,[]⟩,oI 132 2 (mT 2),oI 133 3 (mT 3),⟨(some 134),(.hcall 110 [(.t 133)]),none,4,false,[1,4]⟩,oI 135 5 (.iad 1 (.t 131) (.t 132)),oJ 6 (.store 1 (.t 135) (.t 134))] (sqF [oP 8 (mT 9)] .ret))))))⟩
theorem tr94:trF Tryz.prog Tryz.f94=some af94:=by kernel_rfl
attribute [go_sem] af94
def af111:AF:=⟨65,[(.t 10)],(sqF [oP 6 (.box (.t 1)),oP 10 (.mv (.c .nilp))] (sqF [oP 14 (fdT 0 6),oP 15 (ldT 14),oP 16 (fdT 1 6),oP 17 (ldT 16),oP 18 (fdT 2 6),oP 19 (ldT 18),oP 20 (fdT 3 6),oP 21 (ldT 20),oP 22 (.build [(iS 0),(iS 0),(iS 0),(iS 0),(iS 0),.nils] [(0,(1,(.t 15))),(1,(1,(.t 17))),(2,(1,(.t 19))),(3,(1,(.t 21)))]),oP 23 (.box (.t 22)),oP 11 (mT 23)] (.seq (sqF [oP 24 (fdT 4 6),oP 25 (ldT 24),oP 26 (.len false (.t 25)),oP 27 (.bin 0 .gtr (.t 26) (cI 0))] (.cond (.t 27) (rgF [oP 28 (mT 11),oP 29 (fdT 4 6),oP 30 (ldT 29),oP 31 (.len false (.t 30)),oP 32 (.mk 1 8 [.nilp] (.t 31) (.t 31)),oP 33 (nkT 28),oP 34 (fdT 5 33),oN (.store 1 (.t 34) (.t 32))]) .skip)) (.seq (sqF [oP 35 (fdT 4 6),oP 36 (ldT 35),oP 37 (.len false (.t 36)),oP 38 (.mv (cI 0))] (.blk 0 (.loop (sqF [oP 39 (.bin 0 .lss (.t 38) (.t 37))] (.seq (.cond (.t 39) .skip (.exit 0)) (.seq (.blk 1 (sqF [oP 40 (mT 38),oP 41 (.iad 5 (.t 36) (.t 38)),oP 42 (.load true 5 (.t 41)),oP 13 (.new [(iS 0),(iS 0),(iS 0),(iS 0),.nils]),oP 12 (mT 40),oN (.store 5 (.t 13) (.t 42))] (.seq (sqF [oP 43 (mT 12),oP 44 (mT 3),oP 45 (.bin 0 .eql (.t 43) (.t 44))] (.cond (.t 45) (sqT [oP 46 (mT 11),oI 47 1 (nkT 46),oI 48 2 (fdT 5 47),⟨(some 49),(ldT 48),none,3,true,[]⟩,oI 50 4 (mT 12),oI 51 5 (mT 4),⟨(some 52),(.hcall 110 [(.t 51)]),none,6,false,[3,6]⟩,oI 53 7 (.iad 1 (.t 49) (.t 50)),oJ 8 (.store 1 (.t 53) (.t 52))] (.exit 1)) .skip)) (.reg [oP 54 (mT 11),oI 55 1 (nkT 54),oI 56 2 (fdT 5 55),⟨(some 57),(ldT 56),none,3,true,[]⟩,oI 58 4 (mT 12),oI 59 5 (.load true 5 (.t 13)),oI 60 6 (mT 2),⟨(some 61),(.hcall 36 [(.t 59),(.t 60)]),none,7,false,[3,7]⟩,oI 62 8 (.iad 1 (.t 57) (.t 58)),oJ 9 (.store 1 (.t 62) (.t 61))] true)))) (rgF [oP 63 (.bin 0 .add (.t 38) (cI 1)),oP 38 (mT 63)]))))))) (sqF [oP 64 (mT 11),oP 10 (mT 64)] .ret)))))⟩
theorem tr111:trF Tryz.prog Tryz.f111=some af111:=by kernel_rfl
attribute [go_sem] af111
open Go Go.RowKit Go.Proofs.YtdpigpopcbjkmaaGreatDoor
theorem Se (y:Option Vl) {hp:List Ob}:Bu hp (Cx y)=some (Cx y,hp)/\Bo hp (Cx y)=some (Cx y,hp)/\Bt hp (Cx y)=[]/\Bc (Cx y)=[]/\(Cx y).closed=true/\(Cx y).ok=true/\cellsOf (Cx y)=[Cx y]:=by
 cases y<;>exact⟨rfl,rfl,rfl,rfl,rfl,rfl,rfl⟩
theorem Apd {e:Option Vl} {hp:List Ob}:Bu hp (Cx e)=some (Cx e,hp):=(Se e).1
theorem Axz {e:Option Vl} {hp:List Ob}:Bo hp (Cx e)=some (Cx e,hp):=(Se e).2.1
theorem A0s {e:Option Vl} {hp:List Ob}:Bt hp (Cx e)=[]:=(Se e).2.2.1
theorem A2n {e:Option Vl}:Bc (Cx e)=[]:=(Se (hp:=[]) e).2.2.2.1
theorem Aoc {e:Option Vl}:(Cx e).closed=true:=(Se (hp:=[]) e).2.2.2.2.1
theorem Atg {e:Option Vl}:(Cx e).ok=true:=(Se (hp:=[]) e).2.2.2.2.2.1
theorem A7e {e:Option Vl}:cellsOf (Cx e)=[Cx e]:=(Se (hp:=[]) e).2.2.2.2.2.2
theorem A3b {e:Option Vl} (kd:Nat) (op:BinOp):Dk kd op (Cx e) .nilp=if kd=2 then eqB op e.isNone else none:=by cases e<;>rfl
theorem Sx (l:List Nat) {hp:List Ob}:Bu hp (Dx l)=some (Dx l,hp)/\Bo hp (Dx l)=some (Dx l,hp)/\Bt hp (Dx l)=[]/\Bc (Dx l)=[]/\(Dx l).closed=true/\(Dx l).ok=true/\cellsOf (Dx l)=[Dx l]:=by
 cases l<;>exact⟨rfl,rfl,rfl,rfl,rfl,rfl,rfl⟩
theorem Aty {e:List Nat} {hp:List Ob}:Bu hp (Dx e)=some (Dx e,hp):=(Sx e).1
theorem Ar3 {e:List Nat} {hp:List Ob}:Bo hp (Dx e)=some (Dx e,hp):=(Sx e).2.1
theorem A1c {e:List Nat} {hp:List Ob}:Bt hp (Dx e)=[]:=(Sx e).2.2.1
theorem A6t {e:List Nat}:Bc (Dx e)=[]:=(Sx (hp:=[]) e).2.2.2.1
theorem Aq2 {e:List Nat}:(Dx e).closed=true:=(Sx (hp:=[]) e).2.2.2.2.1
theorem Bde {e:List Nat}:(Dx e).ok=true:=(Sx (hp:=[]) e).2.2.2.2.2.1
theorem A7n {e:List Nat}:cellsOf (Dx e)=[Dx e]:=(Sx (hp:=[]) e).2.2.2.2.2.2
attribute [go_sem] Apd Axz A0s A2n Aoc Atg A7e A3b Aty Ar3 A1c A6t Aq2 Bde A7n
theorem Bfb (n:Nat) (e:List Nat):Be n (Bj e)=true:=by cases e<;>rfl
theorem A3l (n:Nat) (e:Option Vl):Be n (Cx e)=true:=by cases e<;>rfl
theorem An9 (n:Nat) (e:List Nat):Be n (Dx e)=true:=by cases e<;>rfl
attribute [go_sem] Bfb A3l An9
def Vu (k:Int) (y:Option Vl) (e:List Nat) (i:Nat) (kid:Tm):List SV:=if (i:Int)=k then Ky y none else thR ⟨kid,e,false,none,none⟩
def Fd (k:Int) (y:Option Vl) (e:List Nat):Nat->List Tm->List (List SV)
 |_,[]=>[]
 |i,x::l=>Vu k y e i x::Fd k y e (i+1) l
theorem A9f (k:Int) (y:Option Vl) (e:List Nat):∀(a b:List Tm) (i:Nat),Fd k y e i (a++b)=Fd k y e i a++Fd k y e (i+a.length) b:=by
 intro a
 induction a with
 |nil=>intro b i;simp [Fd]
 |cons x a ih=>intro b i;simp only [List.cons_append,Fd,ih,List.length_cons];rw [show i+1+a.length=i+(a.length+1) by omega]
theorem Bfh (k:Int) (y:Option Vl) (e:List Nat):∀(a:List Tm) (i:Nat),(Fd k y e i a).length=a.length:=by
 intro a
 induction a with
 |nil=>intro i;rfl
 |cons x a ih=>intro i;simp [Fd,ih]
theorem Aol {a b:Int} (h:a=b):(a==b)=true:=by simpa using h
theorem A2f {G:List (List SV)} {m:Nat} (k' i' j' n':Int) (l:List Tm) (hb:l.length*56<=140737488355328) (hz:l≠[]) (e:List Nat) (k:Int) (y:Option Vl) (hy:∀q:Nat,q<l.length->(q:Int)=k->∃v,y=some v) :
  Ad 111 G [.gp m 0,.agg true (tv (.mk k' i' j' n' l)),Bj e,.int .i64 k,Cx y] (.ret (vlV ⟨k',i',j',n',0,List.range' G.length l.length⟩)) (G++Fd k y e 0 l):=by
 refine Aq mixed Tryz.func111 tr111 ?_;rw [Am];have Aj:0<l.length:=List.length_pos_iff.2 hz;have h3:l.length<=140737488355328:=by omega
 have e1:(0:Int)<=(l.length:Int):=by omega
 have e2:((l.length:Int)*8<=140737488355328):=by omega
 have e3:((l.length:Int)<=140737488355328):=by omega
 simp only [go_sem,seval,q_g,h3,decide_eq_true (show (l.length:Int) > 0 by omega),e1,e2,e3,Int.le_refl];have Hh:∀x,x<=l.length->(G++Fd k y e 0 (l.take x)).length=G.length+x:=fun x hx=>by rw [List.length_append,Bfh,List.length_take,Nat.min_eq_left hx]
 have Ow:∀x,(h:x<l.length)->G++Fd k y e 0 (l.take (x+1))=(G++Fd k y e 0 (l.take x))++[Vu k y e x l[x]]:=fun x h=>by
  rw [List.take_succ_eq_append_getElem h,A9f,List.append_assoc,List.length_take,Nat.min_eq_left (by omega),Nat.zero_add];rfl
 refine Ig (fun x=>⟨(.gp m 0::.jk::Bj e::.int .i64 k::Cx y::.jk::.ref 1 0 0 0::.jk::.jk::.jk::.jk::.ref 2 0 0 0::.jk::.jk::.jk::.jk::.jk::.jk::.jk::.jk::.jk::.jk::.jk::.jk::.jk::.jk::.jk::.jk::.jk::.jk::.jk::.jk::.jk::.jk::.jk::.jk::.dsl 5 (l.map tv)::.int .i64 l.length::.int .i64 x::.jk::.jk::.jk::.jk::.jk::.jk::.jk::.jk::.jk::.jk::.jk::.jk::.jk::.jk::.jk::.jk::.jk::.jk::.jk::.jk::.jk::.jk::.jk::.jk::.jk::.jk::[]),[gOb (G++Fd k y e 0 (l.take x)),⟨true,5,[[.int .i64 k',.int .i64 i',.int .i64 j',.int .i64 n',.dsl 5 (l.map tv)]],0,0,true⟩,⟨true,6,[[.int .i64 k',.int .i64 i',.int .i64 j',.int .i64 n',.int .i64 0,.osl 3 0 0 l.length]],0,0,false⟩,⟨false,1,((List.range' G.length x).map fun i=>[SV.gp i 0])++List.replicate (l.length-x) [.nilp],0,0,true⟩]⟩) l.length (fun x hx=>?_) ?_
 ·by_cases Ab:x<l.length
  ·have e0:(0:Int)<=(x:Int):=by omega
   have hg:(l.map tv)[x]?.getD []=tv l[x]:=by rw [List.getElem?_map,q_f Ab];rfl
   have hset:(((List.range' G.length x).map fun i=>[SV.gp i 0])++List.replicate (l.length-x) [SV.nilp]).set x [SV.gp (G.length+x) 0]=((List.range' G.length (x+1)).map fun i=>[SV.gp i 0])++List.replicate (l.length-(x+1)) [SV.nilp]  :=by
    rw [List.set_append_right _ _ (by simp),q_g,List.length_range',Nat.sub_self,show l.length-x=(l.length-(x+1))+1 by omega,List.replicate_succ,List.set_cons_zero,List.range'_concat,List.map_append,List.append_assoc,Nat.one_mul];rfl
   by_cases hk:(x:Int)=k
   ·obtain⟨yv,rfl⟩:=hy x Ab hk;simp only [go_sem,seval,decide_eq_true (show (x:Int)<l.length by omega),e0,q_g,Ab,hg,Ag,Aol hk];refine⟨by omega,Ac (Ads _ yv) ?_⟩;simp only [go_sem,seval,Hh x (Nat.le_of_lt Ab),List.length_append,q_g,List.length_range',List.length_replicate,e0,hset,show (x:Int)<l.length by omega,show x<x+(l.length-x) by omega,w64 (show fit ((x:Int)+1) by unfold fit;omega)];refine⟨Ab,?_⟩;rw [Ow x Ab,Vu,if_pos hk];exact Do 4 (by simp [Ao,Wv]) (by simp only [List.take_succ_cons,List.take_zero]) (by simp only [go_sem,seval,List.forall_mem_cons]) (by simp [Be,gOb])
   ·simp only [go_sem,seval,decide_eq_true (show (x:Int)<l.length by omega),e0,q_g,Ab,hg,Ag,Ah hk];refine⟨by omega,Ac (Qt _ _ e) ?_⟩;simp only [go_sem,seval,Hh x (Nat.le_of_lt Ab),List.length_append,q_g,List.length_range',List.length_replicate,e0,hset,show (x:Int)<l.length by omega,show x<x+(l.length-x) by omega,w64 (show fit ((x:Int)+1) by unfold fit;omega)];refine⟨Ab,?_⟩;rw [Ow x Ab,Vu,if_neg hk];exact Do 4 (by simp [Ao,Wv]) (by simp only [List.take_succ_cons,List.take_zero]) (by simp only [go_sem,seval,List.forall_mem_cons]) (by simp [Be,gOb])
  ·have:x=l.length:=by omega
   subst this;simp only [go_sem,seval,decide_eq_false (show ¬((l.length:Nat):Int)<l.length by omega),List.take_length,Nat.sub_self,List.replicate_zero];rw [vlV,vlC,Ph (by simp [List.range'_eq_nil_iff];omega),List.take_of_length_le (by simp)]
 ·simp only [List.take_zero,Fd,List.append_nil,List.range'_zero,q_i,List.nil_append,Nat.sub_zero];exact As (by simp [Ao])
end Go.Proofs.YtdpigpopcbjkmaaGreatDoor.Abs
