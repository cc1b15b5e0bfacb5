import Derived.Test.YtdpigpopcbjkmaaGreatDoorYPc
import Derived.Test.YtdpigpopcbjkmaaGreatDoorYEv
import Derived.Test.YtdpigpopcbjkmaaGreatDoorProg
import Derived.KernelRfl
import Derived.Test.YtdpigpopcbjkmaaGreatDoorYAfC
set_option linter.unusedSimpArgs false
set_option linter.unusedVariables false
set_option maxRecDepth 20000
set_option maxHeartbeats 4000000
namespace Go.Proofs.YtdpigpopcbjkmaaGreatDoor.Abs
open Go Go.RowKit Go.Proofs.YtdpigpopcbjkmaaGreatDoor
theorem Avg(kk i j n k fr:Int)(rows:GV)(X:Nat->List SV->Option (List SV))(h2:rows.length*56<=140737488355328)(h5:∀r∈rows,r.length=5)
  (hi:kk=2->0<=i/\i<=2147483647) (hk:0<=k) (hfr:0<=fr) (hfr2:fr<=1000000000000) (hX:∀p:Nat,∀r∈rows,∀u,X p r=some u->u.length=5)
  (H:∀p:Nat,∀r∈rows,Con 107 [.agg true r,.int .i64 k,.int .i64 (fr+Bl kk p)] (Dj (X p r))) :
  Con 107 [.agg true [.int .i64 kk,.int .i64 i,.int .i64 j,.int .i64 n,.dsl 5 rows],.int .i64 k,.int .i64 fr] (Dj (Aav kk i j n k fr (Cf X 0 rows))):=by
 unfold Aav;have main:∀i',Pc kk i k fr=some i'->Con 107 [.agg true [.int .i64 kk,.int .i64 i,.int .i64 j,.int .i64 n,.dsl 5 rows],.int .i64 k,.int .i64 fr] (Dj ((Cf X 0 rows).map fun rs=>[.int .i64 kk,.int .i64 i',.int .i64 j,.int .i64 n,.dsl 5 rs])):=by
  intro i' hI;unfold Pc at hI;have Mq:((List.range rows.length).map fun p=>(X p (rows[p]?.getD [])).getD []).length=rows.length:=by simp
  have Nu:∀x,x<rows.length->((List.range rows.length).map fun p=>(X p (rows[p]?.getD [])).getD [])[x]?.getD []=(X x (rows[x]?.getD [])).getD []:=fun x hx=>by
   rw[List.getElem?_map,List.getElem?_range hx];rfl
  have Rp:(∀x,x<rows.length->X x (rows[x]?.getD [])≠none)->Cf X 0 rows=some ((List.range rows.length).map fun p=>(X p (rows[p]?.getD [])).getD []):=fun h=>by
   rw[Ack (d:=[]) (e:=[]) (fun x hx=>by rw[Nat.zero_add];exact h x hx)];simp only[Nat.zero_add]
  generalize ((List.range rows.length).map fun p=>(X p (rows[p]?.getD [])).getD [])=ys at *
  have hcase:(kk=2/\fr<=i/\IntKind.i64.wrap (2147483647-i)=2147483647-i/\¬2147483647-i<k/\IntKind.i64.wrap (i+k)=i'/\(kk==2)=true)\/(i'=i/\(kk==2)=false)\/(i'=i/\(kk==2)=true/\¬fr<=i):=by
   by_cases h1:kk=2
   ·by_cases h2:fr<=i
    ·rw[if_pos ⟨h1,h2⟩] at hI;obtain⟨g1,g2⟩:=hi h1;split at hI
     ·cases hI
     ·rename_i Ab;cases hI;exact .inl ⟨h1,h2,w64 (by unfold fit;omega),Ab,w64 (by unfold fit;omega),by simp[h1]⟩
    ·rw[if_neg (fun h=>h2 h.2)] at hI;cases hI;exact .inr (.inr ⟨rfl,by simp[h1],h2⟩)
   ·rw[if_neg (fun h=>h1 h.1)] at hI;cases hI;exact .inr (.inl ⟨rfl,by simp[h1]⟩)
  have core:∀r0,(Cf X 0 rows=none->r0=.tup [.agg true [.int .i64 0,.int .i64 0,.int .i64 0,.int .i64 0,.nils],.bool false]) ->
    (∀us,Cf X 0 rows=some us->r0=.tup [.agg true [.int .i64 kk,.int .i64 i',.int .i64 j,.int .i64 n,.dsl 5 us],.bool true]) ->
    Con 107 [.agg true [.int .i64 kk,.int .i64 i,.int .i64 j,.int .i64 n,.dsl 5 rows],.int .i64 k,.int .i64 fr] r0:=by
    intro r0 hn hs;refine Al mixed Tryz.func107 tr107 ?_;rcases hcase with⟨_,q1,q2,q3,q4,q5⟩|⟨rfl,q1⟩|⟨rfl,q1,q2⟩
    ·simp only[go_sem,seval,q1,q2,q3,q4,q5,Int.le_refl];clear q1 q2 q3 q4 q5;intros;refine So (fun x=>⟨(.J::.int .i64 k::.int .i64 fr::.ref 0 0 0 0::.J::.J::.ref 1 0 0 0::.J::.ref 2 0 0 0::.osl 3 x 0 x::.int .i64 x::.J::.J::.J::.J::.J::.J::.J::.J::.J::.J::.J::.J::.J::.J::.J::.J::.J::.J::.J::.J::.J::.J::.J::.J::.J::.J::.J::.J::.J::.J::.J::.J::.J::.J::.J::.J::.J::.J::.J::.J::.J::.J::.J::.J::.J::.J::.J::.J::.J::.J::.J::.J::.J::.J::.J::.J::.J::.J::.J::.J::.J::.J::.J::.J::.J::.J::.J::.J::[]),[⟨true,5,[[.int .i64 kk,.int .i64 i,.int .i64 j,.int .i64 n,.dsl 5 rows]],0,0,true⟩,⟨true,5,[[.int .i64 0,.int .i64 0,.int .i64 0,.int .i64 0,.nils]],0,0,true⟩,⟨true,5,[[.int .i64 kk,.int .i64 i',.int .i64 j,.int .i64 n,.nils]],0,0,true⟩,⟨false,5,ys.take x,x-1,x,true⟩]⟩) rows.length (fun x=>X x (rows[x]?.getD [])≠none) (fun x hx hp=>?_) ?_
     ·simp only[go_sem,seval];intros;refine⟨fun h=>?_,fun h=>?_⟩
      ·have Ab:=of_decide_eq_true h;have Ch:x<rows.length:=by omega
       have e0:(0:Int)<=(x:Int):=by omega
       have hm:=Ic (d:=[]) Ch;have Dv:=h5 _ hm;have hb:=Nc kk x;have ew:IntKind.i64.wrap (fr+Bl kk x)=fr+Bl kk x:=w64 (by unfold fit;omega);have hc:=H x _ hm;have Ea:¬4611686018427387904<fr:=by omega
       have e1:(ys.take x).length=x:=by simp;omega
       have e2:(x+1)*56<=140737488355328:=by omega
       have e3:x+1<=140737488355328:=by omega
       simp only[go_sem,seval,Ab,e0,Dv];refine Aa (Co kk x) ?_;simp only[go_sem,seval,Ea,Ab,e0,Dv,ew];refine Aa hc ?_;cases Ej:X x (rows[x]?.getD []) with
       |none=>
        have Ci:=Ae zT;simp only[go_sem,seval,Dj,Ci];exact hn (Sx (d:=[]) (i:=x) Ch (by rw[Nat.zero_add];exact Ej))
       |some u=>
        have hu:=hX x _ hm u Ej;have hy:=Nu x Ch;rw[Ej,Option.getD_some] at hy;have tn:=Uu (l:=ys) (d:=[]) (i:=x) (by omega);rw[hy] at tn;simp only[go_sem,seval,Dj,hu,Ch,e1,e2,e3,tn];rw[w64 (n:=(x:Int)+1) (by unfold fit;omega)];exact Dq 4 (by simp[An]) (by simp) (by simp[Ba]) (by simp)
      ·have Fj:=of_decide_eq_false h;have Kt:x=rows.length:=by omega
       have he:=Rp (fun y hy=>hp y (by omega));subst Kt;have ht:ys.take rows.length=ys:=by rw[<-Mq,List.take_length]
       simp only[go_sem,seval,h,Mq,ht];exact hs _ he
     ·exact .trans (.ghost _ 9 5 rfl) (Au (by simp[An]))
    ·simp only[go_sem,seval,q1,Int.le_refl];clear q1;intros;refine So (fun x=>⟨(.J::.int .i64 k::.int .i64 fr::.ref 0 0 0 0::.J::.J::.ref 1 0 0 0::.J::.ref 2 0 0 0::.osl 3 x 0 x::.int .i64 x::.J::.J::.J::.J::.J::.J::.J::.J::.J::.J::.J::.J::.J::.J::.J::.J::.J::.J::.J::.J::.J::.J::.J::.J::.J::.J::.J::.J::.J::.J::.J::.J::.J::.J::.J::.J::.J::.J::.J::.J::.J::.J::.J::.J::.J::.J::.J::.J::.J::.J::.J::.J::.J::.J::.J::.J::.J::.J::.J::.J::.J::.J::.J::.J::.J::.J::.J::.J::[]),[⟨true,5,[[.int .i64 kk,.int .i64 i',.int .i64 j,.int .i64 n,.dsl 5 rows]],0,0,true⟩,⟨true,5,[[.int .i64 0,.int .i64 0,.int .i64 0,.int .i64 0,.nils]],0,0,true⟩,⟨true,5,[[.int .i64 kk,.int .i64 i',.int .i64 j,.int .i64 n,.nils]],0,0,true⟩,⟨false,5,ys.take x,x-1,x,true⟩]⟩) rows.length (fun x=>X x (rows[x]?.getD [])≠none) (fun x hx hp=>?_) ?_
     ·simp only[go_sem,seval];intros;refine⟨fun h=>?_,fun h=>?_⟩
      ·have Ab:=of_decide_eq_true h;have Ch:x<rows.length:=by omega
       have e0:(0:Int)<=(x:Int):=by omega
       have hm:=Ic (d:=[]) Ch;have Dv:=h5 _ hm;have hb:=Nc kk x;have ew:IntKind.i64.wrap (fr+Bl kk x)=fr+Bl kk x:=w64 (by unfold fit;omega);have hc:=H x _ hm;have Ea:¬4611686018427387904<fr:=by omega
       have e1:(ys.take x).length=x:=by simp;omega
       have e2:(x+1)*56<=140737488355328:=by omega
       have e3:x+1<=140737488355328:=by omega
       simp only[go_sem,seval,Ab,e0,Dv];refine Aa (Co kk x) ?_;simp only[go_sem,seval,Ea,Ab,e0,Dv,ew];refine Aa hc ?_;cases Ej:X x (rows[x]?.getD []) with
       |none=>
        have Ci:=Ae zT;simp only[go_sem,seval,Dj,Ci];exact hn (Sx (d:=[]) (i:=x) Ch (by rw[Nat.zero_add];exact Ej))
       |some u=>
        have hu:=hX x _ hm u Ej;have hy:=Nu x Ch;rw[Ej,Option.getD_some] at hy;have tn:=Uu (l:=ys) (d:=[]) (i:=x) (by omega);rw[hy] at tn;simp only[go_sem,seval,Dj,hu,Ch,e1,e2,e3,tn];rw[w64 (n:=(x:Int)+1) (by unfold fit;omega)];exact Dq 4 (by simp[An]) (by simp) (by simp[Ba]) (by simp)
      ·have Fj:=of_decide_eq_false h;have Kt:x=rows.length:=by omega
       have he:=Rp (fun y hy=>hp y (by omega));subst Kt;have ht:ys.take rows.length=ys:=by rw[<-Mq,List.take_length]
       simp only[go_sem,seval,h,Mq,ht];exact hs _ he
     ·exact .trans (.ghost _ 9 5 rfl) (Au (by simp[An]))
    ·simp only[go_sem,seval,q1,q2,Int.le_refl];clear q1 q2;intros;refine So (fun x=>⟨(.J::.int .i64 k::.int .i64 fr::.ref 0 0 0 0::.J::.J::.ref 1 0 0 0::.J::.ref 2 0 0 0::.osl 3 x 0 x::.int .i64 x::.J::.J::.J::.J::.J::.J::.J::.J::.J::.J::.J::.J::.J::.J::.J::.J::.J::.J::.J::.J::.J::.J::.J::.J::.J::.J::.J::.J::.J::.J::.J::.J::.J::.J::.J::.J::.J::.J::.J::.J::.J::.J::.J::.J::.J::.J::.J::.J::.J::.J::.J::.J::.J::.J::.J::.J::.J::.J::.J::.J::.J::.J::.J::.J::.J::.J::.J::.J::[]),[⟨true,5,[[.int .i64 kk,.int .i64 i',.int .i64 j,.int .i64 n,.dsl 5 rows]],0,0,true⟩,⟨true,5,[[.int .i64 0,.int .i64 0,.int .i64 0,.int .i64 0,.nils]],0,0,true⟩,⟨true,5,[[.int .i64 kk,.int .i64 i',.int .i64 j,.int .i64 n,.nils]],0,0,true⟩,⟨false,5,ys.take x,x-1,x,true⟩]⟩) rows.length (fun x=>X x (rows[x]?.getD [])≠none) (fun x hx hp=>?_) ?_
     ·simp only[go_sem,seval];intros;refine⟨fun h=>?_,fun h=>?_⟩
      ·have Ab:=of_decide_eq_true h;have Ch:x<rows.length:=by omega
       have e0:(0:Int)<=(x:Int):=by omega
       have hm:=Ic (d:=[]) Ch;have Dv:=h5 _ hm;have hb:=Nc kk x;have ew:IntKind.i64.wrap (fr+Bl kk x)=fr+Bl kk x:=w64 (by unfold fit;omega);have hc:=H x _ hm;have Ea:¬4611686018427387904<fr:=by omega
       have e1:(ys.take x).length=x:=by simp;omega
       have e2:(x+1)*56<=140737488355328:=by omega
       have e3:x+1<=140737488355328:=by omega
       simp only[go_sem,seval,Ab,e0,Dv];refine Aa (Co kk x) ?_;simp only[go_sem,seval,Ea,Ab,e0,Dv,ew];refine Aa hc ?_;cases Ej:X x (rows[x]?.getD []) with
       |none=>
        have Ci:=Ae zT;simp only[go_sem,seval,Dj,Ci];exact hn (Sx (d:=[]) (i:=x) Ch (by rw[Nat.zero_add];exact Ej))
       |some u=>
        have hu:=hX x _ hm u Ej;have hy:=Nu x Ch;rw[Ej,Option.getD_some] at hy;have tn:=Uu (l:=ys) (d:=[]) (i:=x) (by omega);rw[hy] at tn;simp only[go_sem,seval,Dj,hu,Ch,e1,e2,e3,tn];rw[w64 (n:=(x:Int)+1) (by unfold fit;omega)];exact Dq 4 (by simp[An]) (by simp) (by simp[Ba]) (by simp)
      ·have Fj:=of_decide_eq_false h;have Kt:x=rows.length:=by omega
       have he:=Rp (fun y hy=>hp y (by omega));subst Kt;have ht:ys.take rows.length=ys:=by rw[<-Mq,List.take_length]
       simp only[go_sem,seval,h,Mq,ht];exact hs _ he
     ·exact .trans (.ghost _ 9 5 rfl) (Au (by simp[An]))
  cases hA:Cf X 0 rows with
  |none=>
   refine (core _ (fun _=>rfl) (fun us h=>?_)).weaken Aas;rw[hA] at h;cases h
  |some us=>
   refine core _ (fun h=>?_) (fun us' h=>?_)
   ·rw[hA] at h;cases h
   ·rw[hA] at h;cases h;rfl
 cases hI:Pc kk i k fr with
 |some i'=>exact main i' hI
 |none=>
  simp only[Option.bind_none];unfold Pc at hI;split at hI;rotate_left
  ·cases hI
  rename_i hc;obtain⟨rfl,hle⟩:=hc;split at hI;rotate_left
  ·cases hI
  rename_i Ab;obtain⟨g1,g2⟩:=hi rfl;refine (Al (r:=.tup [.agg true [.int .i64 0,.int .i64 0,.int .i64 0,.int .i64 0,.nils],.bool false]) mixed Tryz.func107 tr107 ?_).weaken Aas;have ew:IntKind.i64.wrap (2147483647-i)=2147483647-i:=w64 (by unfold fit;omega);simp only[go_sem,seval,hle,ew,Ab]
theorem App{α:Type}{f:Nat->α->Bool}{x:α}:∀{l:List α} {p:Nat},Gw f p l=true->x∈l->∃q,f q x=true:=by
 intro l
 induction l with
 |nil=>intro p _ h;cases h
 |cons y l ih=>
  intro p h hx;rw[Gw,Bool.and_eq_true] at h;rcases List.mem_cons.1 hx with rfl|hx
  ·exact⟨p,h.1⟩
  ·exact ih h.2 hx
theorem Wo{k i j n w:Int}{l:List Tm}{t:Tm}(h:Ef (.mk k i j n l) w=true)(ht:t∈l):∃w',Ef t w'=true:=by
 rw[Ut,Bool.and_eq_true] at h;obtain⟨q,hq⟩:=App h.2 ht;exact⟨_,hq⟩
theorem Abm{k i j n w:Int}{l:List Tm}(h:Ef (.mk k i j n l) w=true)(hk:k=2):0<=i/\i<=2147483647:=by
 rw[Ut,Bool.and_eq_true] at h;have h1:=h.1;unfold In at h1;rw[Bool.and_eq_true,Bool.and_eq_true] at h1;have h2:=h1.2.2;unfold Lq at h2;rw[if_neg (by omega),if_pos hk] at h2;simp only[Bool.and_eq_true,decide_eq_true_eq] at h2;exact⟨h2.1,h2.2.1⟩
theorem Ae8(kk i j n k fr:Int)(l:List Tm):Hm k fr (.mk kk i j n l)=(Pc kk i k fr).bind fun i'=>(Cf (fun p t=>Hm k (fr+Bl kk p) t) 0 l).map (Tm.mk kk i' j n):=by
 rw[Hm,A6t];unfold Pc;split
 ·split<;>rfl
 ·rfl
theorem A6u(kk i j n k fr:Int)(l:List Tm):Aav kk i j n k fr (Cf (fun p r=>onT (fun t=>(Hm k (fr+Bl kk (p:Nat)) t).map tv) none r) 0 (l.map tv))=(Hm k fr (.mk kk i j n l)).map tv:=by
 rw[Aci,Ach (Y:=fun p t=>(Hm k (fr+Bl kk (p:Nat)) t).map tv) (fun p t _=>by rw[Jc]),Acj,Ae8];unfold Aav;cases Pc kk i k fr with
 |none=>rfl
 |some i'=>
  simp only[Option.bind_some,Option.map_map];congr 1;funext rs;simp only[Function.comp,Ak]
theorem Avf(k:Int)(hk:0<=k)(t:Tm):TOk t->∀(w fr:Int),Ef t w=true->0<=fr->fr+2*Kp t<=1000000000000 ->
  Con 107 [.agg true (tv t),.int .i64 k,.int .i64 fr] (Dj ((Hm k fr t).map tv)):=by
 induction t using Tm.ind with
 |h kk i j n l ih=>
  intro hok w fr hr hf Dw;cases hok with
  |mk _ _ _ _ _ f1 f2 f3 f4 hb hl=>
  rw[Ad1] at Dw;have h:=Avg kk i j n k fr (l.map tv) (fun p r=>onT (fun t=>(Hm k (fr+Bl kk (p:Nat)) t).map tv) none r) (by simpa using hb) (rows5 l) (Abm hr) hk hf (by omega)
   (fun p r hr u hu=>by
    obtain⟨t,ht,rfl⟩:=List.mem_map.1 hr;simp only[Jc] at hu;cases he:Hm k (fr+Bl kk (p:Nat)) t with
    |none=>rw[he] at hu;cases hu
    |some v=>rw[he] at hu;cases hu;exact Ae v)
   (fun p r Fu=>by
    obtain⟨t,ht,rfl⟩:=List.mem_map.1 Fu;simp only[Jc];obtain⟨w',hw⟩:=Wo hr ht;have hm:=Aj5 ht;have hbl:=Nc kk p;exact ih t ht (hl t ht) w' _ hw (by omega) (by omega))
  rw[A6u,<-Ak] at h;exact h
theorem Avh(t:Tm):TOk t->∃z,Con 64 [.agg true (tv t)] (.bool z):=by
 induction t using Tm.ind with
 |h k i j n l ih=>
  intro hok;cases hok with
  |mk _ _ _ _ _ f1 f2 f3 f4 hb hl=>
  have h:=Avi k i j n (l.map tv) (fun p r=>onT (fun t=>if ((k==12) && ((p:Int)==2))=true then Cb t else Classical.epsilon (fun z=>Con 64 [.agg true (tv t)] (.bool z))) false r) (by simpa using hb) (rows5 l)
   (fun p r hr hc=>by
    obtain⟨t,ht,rfl⟩:=List.mem_map.1 hr;simp only[Jc];rw[if_pos hc];exact Xe t (hl t ht))
   (fun p r hr hc=>by
    obtain⟨t,ht,rfl⟩:=List.mem_map.1 hr;simp only[Jc];rw[if_neg (by rw[hc];exact Bool.false_ne_true)];exact Classical.epsilon_spec (ih t ht (hl t ht)))
  rw[<-Ak] at h;exact⟨_,h⟩
theorem o6(t:Tm)(ht:TOk t)(hp:Cb t=true):Con 40 [.agg true (tv t)] (.bool true):=by
 refine Al mixed Tryz.func40 tr40 ?_;obtain⟨z,h1⟩:=Avh t ht;have h2:=Xe t ht;rw[hp] at h2;have hz:=Ae t;simp only[go_sem,seval,hz];refine Aa h1 ?_;cases z<;>simp only[go_sem,seval,hz];refine Aa h2 ?_;simp only[go_sem,seval]
mutual
def Ho(u:Tm):Int->Tm->Option Tm
 |d,.mk kk i j n l=>
  if kk=2/\d<=i then (if i=d then Hm d 0 u else some (vr (i-1)))
  else (Zq u d kk 0 l).map (Tm.mk kk i j n)
def Zq(u:Tm):Int->Int->Nat->List Tm->Option (List Tm)
 |_,_,_,[]=>some []
 |d,kk,p,t::l=>match Ho u (d+Bl kk p) t with
  |none=>none
  |some v=>match Zq u d kk (p+1) l with
   |none=>none
   |some r=>some (v::r)
end
theorem Bc8(u:Tm)(d kk:Int):∀(l:List Tm) (p:Nat),Zq u d kk p l=Cf (fun p t=>Ho u (d+Bl kk p) t) p l:=by
 intro l
 induction l with
 |nil=>intro p;rw[Zq];rfl
 |cons t l ih=>
  intro p;rw[Zq,Cf,ih];cases Ho u (d+Bl kk p) t with
  |none=>rfl
  |some v=>cases Cf (fun p t=>Ho u (d+Bl kk ((p:Nat):Int)) t) (p+1) l<;>rfl
theorem Afm{u:Tm}{d kk i j n:Int}{l:List Tm}(h:kk=2/\d<=i):Ho u d (.mk kk i j n l)=if i=d then Hm d 0 u else some (vr (i-1)):=by
 rw[Ho,if_pos h]
theorem Abe{u:Tm}{d kk i j n:Int}{l:List Tm}(h:¬(kk=2/\d<=i)):Ho u d (.mk kk i j n l)=(Cf (fun p t=>Ho u (d+Bl kk p) t) 0 l).map (Tm.mk kk i j n):=by
 rw[Ho,if_neg h,Bc8]
theorem Bda{u:Tm}{d kk i j n:Int}{l:List Tm}(h:¬(kk=2/\d<=i)) :
  ((Cf (fun p r=>onT (fun t=>(Ho u (d+Bl kk (p:Nat)) t).map tv) none r) 0 (l.map tv)).map fun rs=>[.int .i64 kk,.int .i64 i,.int .i64 j,.int .i64 n,.dsl 5 rs])=(Ho u d (.mk kk i j n l)).map tv:=by
 rw[Aci,Ach (Y:=fun p t=>(Ho u (d+Bl kk (p:Nat)) t).map tv) (fun p t _=>by rw[Jc]),Acj,Abe h];simp only[Option.map_map];congr 1;funext rs;simp only[Function.comp,Ak]
theorem Ba8{t:Tm}(h:Cb t=true):t.k=1\/t.k=2\/13<=t.k:=by
 cases t with
 |mk k i j n l=>
 show k=1\/k=2\/13<=k;have h':Ef (.mk k i j n l) 2=true:=h;rw[Ut,Bool.and_eq_true] at h';have h1:=h'.1;unfold In at h1;rw[Bool.and_eq_true] at h1;have h2:=h1.1;unfold Hz at h2
 by_cases a:k=1\/k=2
 ·omega
 ·rw[if_neg a] at h2
  by_cases b:k<=12
  ·rw[if_pos b] at h2;exact absurd h2 (by decide)
  ·omega
open Go Go.RowKit Go.Proofs.YtdpigpopcbjkmaaGreatDoor
theorem Avu(t:Tm)(ht:TOk t)(hp:Cb t=true):Con 141 [.agg true (tv t)] (.agg true (tv t)):=by
 have h:=Xe t ht;rw[hp] at h;have hz:=Ae t;refine Al mixed Tryz.func141 tr141 ?_;simp only[go_sem,seval,hz];refine Aa h ?_;simp only[go_sem,seval,hz]
theorem Ahy(u:Tm)(hu:TOk u)(hp:Cb u=true)(d:Int)(hd:0<=d)(b:Bool)(hh:(2:Int)*Kp u<=1000000000000):Con 128 [.agg true (tv u),.int .i64 d,.bool b] (Dj ((Hm d 0 u).map tv)):=by
 have h1:=Avu u hu hp;have h2:=Avf d hd u hu 2 0 hp (by omega) (by omega);have hz:=Ae u;refine Al mixed Tryz.func128 tr128 ?_;cases hl:Hm d 0 u with
 |none=>
  rw[hl] at h2;have Hk:=Ae zT;cases b
  ·simp only[go_sem,seval,hz];refine Aa h2 ?_;simp only[go_sem,seval,Dj,Option.map_none,Hk]
  ·simp only[go_sem,seval,hz];refine Aa h1 ?_;simp only[go_sem,seval,hz];refine Aa h2 ?_;simp only[go_sem,seval,Dj,Option.map_none,Hk]
 |some v=>
  rw[hl] at h2;have Hk:=Ae v;cases b
  ·simp only[go_sem,seval,hz];refine Aa h2 ?_;simp only[go_sem,seval,Dj,Option.map_some,Hk]
  ·simp only[go_sem,seval,hz];refine Aa h1 ?_;simp only[go_sem,seval,hz];refine Aa h2 ?_;simp only[go_sem,seval,Dj,Option.map_some,Hk]
theorem Ahx(kk i j n p:Int)(rows:GV):∃z,Con 129 [.agg true [.int .i64 kk,.int .i64 i,.int .i64 j,.int .i64 n,.dsl 5 rows],.int .i64 p] (.bool z):=by
 by_cases h:12<kk
 ·refine⟨true,Al mixed Tryz.func129 tr129 ?_⟩;simp only[go_sem,seval,h]
 ·cases Lh:(kk==12)<;>cases h2:(p==2)
  ·refine⟨false,Al mixed Tryz.func129 tr129 ?_⟩;simp only[go_sem,seval,h,Lh,h2]
  ·refine⟨false,Al mixed Tryz.func129 tr129 ?_⟩;simp only[go_sem,seval,h,Lh,h2]
  ·refine⟨false,Al mixed Tryz.func129 tr129 ?_⟩;simp only[go_sem,seval,h,Lh,h2]
  ·refine⟨true,Al mixed Tryz.func129 tr129 ?_⟩;simp only[go_sem,seval,h,Lh,h2]
theorem Avs(kk i j n d:Int)(b:Bool)(u:Tm)(rows:GV)(X:Nat->List SV->Option (List SV))(h2:rows.length*56<=140737488355328)(h5:∀r∈rows,r.length=5)
  (hv:¬kk=2) (hd:0<=d) (Fb:d<=1000000000000) (hX:∀p:Nat,∀r∈rows,∀u,X p r=some u->u.length=5)
  (H:∀p:Nat,∀r∈rows,∀b',Con 114 [.agg true r,.agg true (tv u),.int .i64 (d+Bl kk p),.bool b'] (Dj (X p r))) :
  Con 114 [.agg true [.int .i64 kk,.int .i64 i,.int .i64 j,.int .i64 n,.dsl 5 rows],.agg true (tv u),.int .i64 d,.bool b] (Dj ((Cf X 0 rows).map fun rs=>[.int .i64 kk,.int .i64 i,.int .i64 j,.int .i64 n,.dsl 5 rs])):=by
 have Mq:((List.range rows.length).map fun p=>(X p (rows[p]?.getD [])).getD []).length=rows.length:=by simp
 have Nu:∀x,x<rows.length->((List.range rows.length).map fun p=>(X p (rows[p]?.getD [])).getD [])[x]?.getD []=(X x (rows[x]?.getD [])).getD []:=fun x hx=>by
  rw[List.getElem?_map,List.getElem?_range hx];rfl
 have Rp:(∀x,x<rows.length->X x (rows[x]?.getD [])≠none)->Cf X 0 rows=some ((List.range rows.length).map fun p=>(X p (rows[p]?.getD [])).getD []):=fun h=>by
  rw[Ack (d:=[]) (e:=[]) (fun x hx=>by rw[Nat.zero_add];exact h x hx)];simp only[Nat.zero_add]
 generalize ((List.range rows.length).map fun p=>(X p (rows[p]?.getD [])).getD [])=ys at *
 have q1:(kk==2)=false:=by simp[hv]
 have Cs:=Ae u;have core:∀r0,(Cf X 0 rows=none->r0=.tup [.agg true [.int .i64 0,.int .i64 0,.int .i64 0,.int .i64 0,.nils],.bool false]) ->
   (∀us,Cf X 0 rows=some us->r0=.tup [.agg true [.int .i64 kk,.int .i64 i,.int .i64 j,.int .i64 n,.dsl 5 us],.bool true]) ->
   Con 114 [.agg true [.int .i64 kk,.int .i64 i,.int .i64 j,.int .i64 n,.dsl 5 rows],.agg true (tv u),.int .i64 d,.bool b] r0:=by
  intro r0 hn hs;refine Al mixed Tryz.func114 tr114 ?_;simp only[go_sem,seval,q1,Cs];clear q1;intros;refine So (fun x=>⟨(.J::.J::.int .i64 d::.bool b::.ref 0 0 0 0::.ref 1 0 0 0::.J::.J::.ref 2 0 0 0::.J::.ref 3 0 0 0::.osl 4 x 0 x::.int .i64 x::.J::.J::.J::.J::.J::.J::.J::.J::.J::.J::.J::.J::.J::.J::.J::.J::.J::.J::.J::.J::.J::.J::.J::.J::.J::.J::.J::.J::.J::.J::.J::.J::.J::.J::.J::.J::.J::.J::.J::.J::.J::.J::.J::.J::.J::.J::.J::.J::.J::.J::.J::.J::.J::.J::.J::.J::.J::.J::.J::.J::.J::.J::.J::.J::.J::.J::.J::.J::.J::.J::.J::.J::[]),[⟨true,5,[[.int .i64 kk,.int .i64 i,.int .i64 j,.int .i64 n,.dsl 5 rows]],0,0,true⟩,⟨true,5,[tv u],0,0,true⟩,⟨true,5,[[.int .i64 0,.int .i64 0,.int .i64 0,.int .i64 0,.nils]],0,0,true⟩,⟨true,5,[[.int .i64 kk,.int .i64 i,.int .i64 j,.int .i64 n,.nils]],0,0,true⟩,⟨false,5,ys.take x,x-1,x,true⟩]⟩) rows.length (fun x=>X x (rows[x]?.getD [])≠none) (fun x hx hp=>?_) ?_
  ·simp only[go_sem,seval];intros;refine⟨fun h=>?_,fun h=>?_⟩
   ·have Ab:=of_decide_eq_true h;have Ch:x<rows.length:=by omega
    have e0:(0:Int)<=(x:Int):=by omega
    have hm:=Ic (d:=[]) Ch;have Dv:=h5 _ hm;have hb:=Nc kk x;have ew:IntKind.i64.wrap (d+Bl kk x)=d+Bl kk x:=w64 (by unfold fit;omega);have hc:=H x _ hm;obtain⟨z,hz⟩:=Ahx kk i j n x rows;have e1:(ys.take x).length=x:=by simp;omega
    have e2:(x+1)*56<=140737488355328:=by omega
    have e3:x+1<=140737488355328:=by omega
    cases b
    ·simp only[go_sem,seval,Ab,e0,Dv,Cs];refine Aa (Co kk x) ?_;simp only[go_sem,seval,Ab,e0,Dv,ew,Cs];refine Aa hz ?_;simp only[go_sem,seval,Ab,e0,Dv,ew,Cs];refine Aa (hc z) ?_;cases Ej:X x (rows[x]?.getD []) with
     |none=>
      have Ci:=Ae zT;simp only[go_sem,seval,Dj,Ci];exact hn (Sx (d:=[]) (i:=x) Ch (by rw[Nat.zero_add];exact Ej))
     |some u=>
      have hu:=hX x _ hm u Ej;have hy:=Nu x Ch;rw[Ej,Option.getD_some] at hy;have tn:=Uu (l:=ys) (d:=[]) (i:=x) (by omega);rw[hy] at tn;simp only[go_sem,seval,Dj,hu,Ch,e1,e2,e3,tn];rw[w64 (n:=(x:Int)+1) (by unfold fit;omega)];exact Dq 5 (by simp[An]) (by simp) (by simp[Ba]) (by simp)
    ·simp only[go_sem,seval,Ab,e0,Dv,Cs];refine Aa (Co kk x) ?_;simp only[go_sem,seval,Ab,e0,Dv,ew,Cs];refine Aa (hc true) ?_;cases Ej:X x (rows[x]?.getD []) with
     |none=>
      have Ci:=Ae zT;simp only[go_sem,seval,Dj,Ci];exact hn (Sx (d:=[]) (i:=x) Ch (by rw[Nat.zero_add];exact Ej))
     |some u=>
      have hu:=hX x _ hm u Ej;have hy:=Nu x Ch;rw[Ej,Option.getD_some] at hy;have tn:=Uu (l:=ys) (d:=[]) (i:=x) (by omega);rw[hy] at tn;simp only[go_sem,seval,Dj,hu,Ch,e1,e2,e3,tn];rw[w64 (n:=(x:Int)+1) (by unfold fit;omega)];exact Dq 5 (by simp[An]) (by simp) (by simp[Ba]) (by simp)
   ·have Fj:=of_decide_eq_false h;have Kt:x=rows.length:=by omega
    have he:=Rp (fun y hy=>hp y (by omega));subst Kt;have ht:ys.take rows.length=ys:=by rw[<-Mq,List.take_length]
    simp only[go_sem,seval,h,Mq,ht];exact hs _ he
  ·exact .trans (.ghost _ 11 5 rfl) (Au (by simp[An]))
 cases hA:Cf X 0 rows with
 |none=>
  refine (core _ (fun _=>rfl) (fun us h=>?_)).weaken Aas;rw[hA] at h;cases h
 |some us=>
  refine core _ (fun h=>?_) (fun us' h=>?_)
  ·rw[hA] at h;cases h
  ·rw[hA] at h;cases h;rfl
theorem Bhe{i j n w:Int}{l:List Tm}(h:Ef (.mk 2 i j n l) w=true):l=[]:=by
 rw[Ut,Bool.and_eq_true] at h;have h1:=h.1;unfold In at h1;rw[Bool.and_eq_true,Bool.and_eq_true] at h1;have h2:=h1.2.1;have hk:Bf 2 n=0:=by unfold Bf;rfl
 rw[hk] at h2;simp only[Bool.not_eq_true',bne_eq_false_iff_eq] at h2;cases l with
 |nil=>rfl
 |cons x l=>simp at h2;omega
theorem Avt(u:Tm)(hu:TOk u)(hp:Cb u=true)(hh:(2:Int)*Kp u<=1000000000000)(i j n d w:Int)(b:Bool)(l:List Tm)(hr:Ef (.mk 2 i j n l) w=true)(hi:0<=i/\i<=2147483647)(hd:0<=d) :
  Con 114 [.agg true (tv (.mk 2 i j n l)),.agg true (tv u),.int .i64 d,.bool b] (Dj ((Ho u d (.mk 2 i j n l)).map tv)):=by
 have hl:=Bhe hr;subst hl;have Cs:=Ae u
 by_cases h1:i=d
 ·subst h1;have hc:=Ahy u hu hp i hd b hh;rw[Afm ⟨rfl,Int.le_refl _⟩,if_pos rfl];refine Al mixed Tryz.func114 tr114 ?_;rw[Ak];simp only[go_sem,seval,Cs];refine Aa hc ?_;cases Hm i 0 u with
  |none=>
   have hz:=Ae zT;simp only[go_sem,seval,Dj,Option.map_none,hz]
  |some v=>
   have hz:=Ae v;simp only[go_sem,seval,Dj,Option.map_some,hz]
 ·have q1:(i==d)=false:=by simp[h1]
  by_cases h2:d<i
  ·rw[Afm ⟨rfl,by omega⟩,if_neg h1];have ew:IntKind.i64.wrap (i-1)=i-1:=w64 (by unfold fit;omega);have hle:=Alc 2 (i-1) 0 0;rw[Option.map_some,show tv (vr (i-1))=[.int .i64 2,.int .i64 (i-1),.int .i64 0,.int .i64 0,.dsl 5 []] from by simp[vr,Ak]];refine (Al mixed Tryz.func114 tr114 ?_).weaken hle;rw[Ak];simp only[go_sem,seval,Cs,q1,h2,ew]
  ·rw[Abe (fun h=>by omega),Cf,Option.map_some,Option.map_some];have hz:=Ae (.mk 2 i j n []);rw[Ak] at hz;refine Al mixed Tryz.func114 tr114 ?_;rw[Ak];simp only[go_sem,seval,Dj,Cs,q1,h2]
theorem Avr(u:Tm)(hu:TOk u)(hp:Cb u=true)(hh:(2:Int)*Kp u<=1000000000000)(t:Tm):TOk t->∀(w d:Int) (b:Bool),Ef t w=true->0<=d->d+2*Kp t<=1000000000000 ->
  Con 114 [.agg true (tv t),.agg true (tv u),.int .i64 d,.bool b] (Dj ((Ho u d t).map tv)):=by
 induction t using Tm.ind with
 |h kk i j n l ih=>
  intro hok w d b hr hd Dw;cases hok with
  |mk _ _ _ _ _ f1 f2 f3 f4 hb hl=>
  rw[Ad1] at Dw
  by_cases hv:kk=2
  ·have hi:=Abm hr hv;subst hv;exact Avt u hu hp hh i j n d w b l hr hi hd
  ·have h:=Avs kk i j n d b u (l.map tv) (fun p r=>onT (fun t=>(Ho u (d+Bl kk (p:Nat)) t).map tv) none r) (by simpa using hb) (rows5 l) hv hd (by omega)
    (fun p r hr u hu=>by
     obtain⟨t,ht,rfl⟩:=List.mem_map.1 hr;simp only[Jc] at hu;cases he:Ho _ (d+Bl kk (p:Nat)) t with
     |none=>rw[he] at hu;cases hu
     |some v=>rw[he] at hu;cases hu;exact Ae v)
    (fun p r Fu b'=>by
     obtain⟨t,ht,rfl⟩:=List.mem_map.1 Fu;simp only[Jc];obtain⟨w',hw⟩:=Wo hr ht;have hm:=Aj5 ht;have hbl:=Nc kk p;exact ih t ht (hl t ht) w' _ b' hw (by omega) (by omega))
   rw[Bda (fun h=>hv h.1),<-Ak] at h;exact h
def Abd(u t:Tm):Tm:=(Ho u 0 t).getD zT
theorem Ah0(t u:Tm)(ht:TOk t)(hu:TOk u)(hpt:Cb t=true)(hpu:Cb u=true):Con 113 [.agg true (tv t),.agg true (tv u)] (.bool true):=by
 have h1:=o6 u hu hpu;have h2:=Xe t ht;rw[hpt] at h2;have hz:=Ae t;have Cs:=Ae u;have h0:=tv_0 (t:=t);refine Al mixed Tryz.func113 tr113 ?_;cases Rs:(t.k==1)<;>cases Dz:(t.k==2)
 all_goals
  simp only[go_sem,seval,hz,Cs,h0];refine Aa h1 ?_;simp only[go_sem,seval,hz,Cs,h0,Rs,Dz]
  try (refine Aa h2 ?_;simp only[go_sem,seval,hz,Cs,h0,Rs,Dz])
theorem Au4(t u:Tm)(ht:TOk t)(hu:TOk u)(hpt:Cb t=true)(hpu:Cb u=true)(Gr:Kp t<=100000000)(Ql:Kp u<=100000000) :
  Con 95 [.agg true (tv t),.agg true (tv u)] (.agg true (tv (Abd u t))):=by
 have h1:=o6 t ht hpt;have h3:=Ah0 t u ht hu hpt hpu;have h2:=Avr u hu hpu (by omega) t ht 2 0 false hpt (by omega) (by omega);have hz:=Ae t;have Cs:=Ae u;unfold Abd;cases hp:Ho u 0 t with
 |none=>
  rw[hp] at h2;refine (Al (r:=.agg true [.int .i64 0,.int .i64 0,.int .i64 0,.int .i64 0,.nils]) mixed Tryz.func95 tr95 ?_).weaken Ale;have Hk:=Ae zT;simp only[go_sem,seval,hz,Cs];refine Aa h1 ?_;simp only[go_sem,seval,hz,Cs];refine Aa h3 ?_;simp only[go_sem,seval,hz,Cs];refine Aa h2 ?_;simp only[go_sem,seval,Dj,Option.map_none,Hk]
 |some v=>
  rw[hp] at h2;have Hk:=Ae v;refine Al mixed Tryz.func95 tr95 ?_;simp only[go_sem,seval,hz,Cs];refine Aa h1 ?_;simp only[go_sem,seval,hz,Cs];refine Aa h3 ?_;simp only[go_sem,seval,hz,Cs];refine Aa h2 ?_;simp only[go_sem,seval,Dj,Option.map_some,Hk,Option.getD_some]
open Go Go.Proofs Go.Proofs.YtdpigpopcbjkmaaGreatDoor
def af16:AF:=⟨61,[(.t 0)],(sqF [oP 0 (.mv (cB false))] (sqF [oP 8 (.call 37 [(cI 1)]),oP 9 (.build [(iS 0),(iS 0),(iS 0),(iS 0),.nils] [(0,(1,(cI 2)))]),oP 10 (.bslice 5 [(.t 8),(.t 9)]),oP 11 (.build [(iS 0),(iS 0),(iS 0),(iS 0),.nils] [(0,(1,(cI 14))),(4,(1,(.t 10)))]),oP 12 (.call 37 [(cI 0)]),oP 13 (.bslice 5 [(.t 11),(.t 12)]),oP 14 (.build [(iS 0),(iS 0),(iS 0),(iS 0),.nils] [(0,(1,(cI 15))),(4,(1,(.t 13)))]),oP 1 (.new [(iS 0),(iS 0),(iS 0),(iS 0),.nils]),oN (.store 5 (.t 1) (.t 14))] (sqF [oP 16 (.load true 5 (.t 1)),oP 17 (.call 14 [(.t 16),(.c (.float .f64 4607182418800017408))]),oP 15 (mT 17),oP 18 (.ext (.t 15) 0),oP 19 (.ext (.t 15) 1),oP 2 (.new [(iS 0),(iS 0),(iS 0),(iS 0),.nils]),oN (.store 5 (.t 2) (.t 18)),oP 3 (mT 19)] (sqF [oP 21 (.load true 5 (.t 1)),oP 22 (.call 21 [(.t 21),(.c (.float .f64 4607182418800017408))]),oP 20 (mT 22),oP 23 (.ext (.t 20) 0),oP 24 (.ext (.t 20) 1),oP 4 (.new [(iS 0),(iS 0),(iS 0),(iS 0),.nils]),oN (.store 5 (.t 4) (.t 23)),oP 5 (mT 24)] (sqF [oP 26 (.build [(iS 0),(iS 0),(iS 0),(iS 0),.nils] []),oP 27 (.call 14 [(.t 26),(.c (.float .f64 4607182418800017408))]),oP 25 (mT 27),oP 28 (.ext (.t 25) 0),oP 29 (.ext (.t 25) 1),oP 6 (.new [(iS 0),(iS 0),(iS 0),(iS 0),.nils]),oN (.store 5 (.t 6) (.t 28)),oP 7 (mT 29)] (sqF [oP 30 (mT 3),oP 31 (.bin 0 .eql (.t 30) (cI 0)),oP 32 (mT 31),oG 33 32 true 0 (fdT 0 2),oG 34 32 true 0 (ldT 33),oG 35 32 true 0 (.bin 0 .eql (.t 34) (cI 1)),oP 36 (.pick (.t 32) (.t 35) (cB false)),oP 37 (mT 36),oG 38 37 true 0 (fdT 1 2),oG 39 37 true 0 (ldT 38),oG 40 37 true 0 (.bin 0 .eql (.t 39) (cI 0)),oP 41 (.pick (.t 37) (.t 40) (cB false)),oP 42 (mT 41),oG 43 42 true 0 (fdT 4 2),oG 44 42 true 0 (ldT 43),oG 45 42 true 0 (.len false (.t 44)),oG 46 42 true 0 (.bin 0 .eql (.t 45) (cI 0)),oP 47 (.pick (.t 42) (.t 46) (cB false)),oP 48 (mT 47),oG 49 48 true 0 (mT 5),oG 50 48 true 0 (.bin 0 .eql (.t 49) (cI 0)),oP 51 (.pick (.t 48) (.t 50) (cB false)),oP 52 (mT 51),oG 53 52 true 0 (fdT 0 4),oG 54 52 true 0 (ldT 53),oG 55 52 true 0 (.bin 0 .eql (.t 54) (cI 1)),oP 56 (.pick (.t 52) (.t 55) (cB false)),oP 57 (mT 56),oG 58 57 true 0 (mT 7),oG 59 57 true 0 (.bin 0 .eql (.t 58) (cI 1)),oP 60 (.pick (.t 57) (.t 59) (cB false)),oP 0 (mT 60)] .ret))))))⟩
theorem tr16:trF Tryz.prog Tryz.f16=some af16:=by kernel_rfl
attribute [go_sem] af16
def af37:AF:=⟨5,[(.cell 2 true 5)],(sqF [oP 2 (.new [(iS 0),(iS 0),(iS 0),(iS 0),.nils])] (sqF [oP 3 (mT 0),oP 4 (.build [(iS 0),(iS 0),(iS 0),(iS 0),.nils] [(0,(1,(cI 1))),(1,(1,(.t 3)))]),oN (.store 5 (.t 2) (.t 4))] .ret))⟩
theorem tr37:trF Tryz.prog Tryz.f37=some af37:=by kernel_rfl
attribute [go_sem] af37
theorem Wq{k i j n:Int}{l:List Tm}(h:TOk (.mk k i j n l)):fit k/\fit i/\fit j/\fit n/\l.length*56<=140737488355328/\∀t∈l,TOk t:=by
 cases h with
 |mk _ _ _ _ _ f1 f2 f3 f4 hb hl=>exact⟨f1,f2,f3,f4,hb,hl⟩
def pm(F:Nat->Int):Nat->Int
 |0=>0
 |x+1=>max (pm F x) (F x)
theorem Bbm(F:Nat->Int):∀x,0<=pm F x:=by
 intro x
 induction x with
 |zero=>exact Int.le_refl _
 |succ x ih=>rw[pm];omega
theorem Am7{F G:Nat->Int}:∀{x:Nat},(∀y,y<x->F y=G y)->pm F x=pm G x:=by
 intro x
 induction x with
 |zero=>intro _;rfl
 |succ x ih=>intro h;rw[pm,pm,ih (fun y hy=>h y (by omega)),h x (by omega)]
theorem Am8{F:Nat->Int}{b:Int}(hb:0<=b):∀{x:Nat},(∀y,y<x->F y<=b)->pm F x<=b:=by
 intro x
 induction x with
 |zero=>intro _;exact hb
 |succ x ih=>intro h;rw[pm];have:=ih (fun y hy=>h y (by omega));have:=h x (by omega);omega
theorem Bbp(F:Nat->Int):∀x,pm F (x+1)=max (F 0) (pm (fun y=>F (y+1)) x):=by
 intro x
 induction x with
 |zero=>simp only[pm];omega
 |succ x ih=>rw[pm,ih,pm];omega
mutual
def Gy:Tm->Int
 |.mk k i _ _ l=>if k=2 then i+1 else Xj k 0 l
def Xj(k:Int):Nat->List Tm->Int
 |_,[]=>0
 |p,t::l=>max (Gy t-Bl k p) (Xj k (p+1) l)
end
theorem A1g(k:Int):∀(l:List Tm) (p:Nat),Xj k p l=pm (fun y=>Gy (l[y]?.getD default)-Bl k ((p+y:Nat):Int)) l.length:=by
 intro l
 induction l with
 |nil=>intro p;rw[Xj];rfl
 |cons t l ih=>
  intro p;rw[Xj,ih,List.length_cons,Bbp];simp only[List.getElem?_cons_zero,List.getElem?_cons_succ,Option.getD_some,Nat.add_zero];congr 1;refine Am7 (fun y _=>?_);rw[show p+1+y=p+(y+1) by omega]
theorem s6{k i j n:Int}{l:List Tm}(h:k≠2):Gy (.mk k i j n l)=pm (fun y=>Gy (l[y]?.getD default)-Bl k ((y:Nat):Int)) l.length:=by
 rw[Gy,if_neg h,A1g];exact Am7 (fun y _=>by rw[Nat.zero_add])
theorem A1h(t:Tm):∀w,Ef t w=true->0<=Gy t/\Gy t<=2147483648:=by
 induction t using Tm.ind with
 |h k i j n l ih=>
  intro w hr
  by_cases h:k=2
  ·have:=Abm hr h;rw[Gy,if_pos h];omega
  ·rw[s6 h];refine⟨Bbm _ _,Am8 (by omega) (fun y hy=>?_)⟩;obtain⟨w',hw⟩:=Wo hr (Ic (d:=default) hy);have:=ih _ (Ic (d:=default) hy) w' hw;have:=Nc k y;omega
theorem Bbk{V:Nat->Int}{x:Nat}:(if pm V x<V x then V x else pm V x)=pm V (x+1):=by
 rw[pm];split<;>omega
theorem Ava(k i j n:Int)(rows:GV)(V:Nat->Int)(h2:rows.length*56<=140737488355328)(h5:∀r∈rows,r.length=5)(hk:k≠2)(hV:∀x,x<rows.length->0<=V x/\V x<=2147483648)
  (H:∀x,x<rows.length->Con 41 [.agg true (rows[x]?.getD [])] (.int .i64 (V x))) :
  Con 41 [.agg true [.int .i64 k,.int .i64 i,.int .i64 j,.int .i64 n,.dsl 5 rows]] (.int .i64 (pm (fun x=>V x-Bl k (x:Nat)) rows.length)):=by
 refine Al mixed Tryz.func41 tr41 ?_;have q:(k==2)=false:=Ah hk;simp only[go_sem,seval,q];obtain⟨W,hW⟩:∃W,(fun x:Nat=>V x-Bl k (x:Nat))=W:=⟨_,rfl⟩
 rw[hW];refine Je (fun x=>⟨(.J::.ref 0 0 0 0::.int .i64 0::.int .i64 (pm W x)::.int .i64 x::.J::.J::.J::.J::.J::.J::.J::.J::.J::.J::.J::.J::.J::.J::.J::.J::.J::.J::.J::.J::.J::.J::.J::.J::.J::.J::.J::[]),[⟨true,5,[[.int .i64 k,.int .i64 i,.int .i64 j,.int .i64 n,.dsl 5 rows]],0,0,true⟩]⟩) rows.length (fun x hx=>?_) ?_
 ·simp only[go_sem,seval];intros;refine⟨fun h=>?_,fun h=>?_⟩
  ·have Ab:=of_decide_eq_true h;have Ch:x<rows.length:=by omega
   have e0:(0:Int)<=(x:Int):=by omega
   have hm:=Ic (d:=[]) Ch;have Dv:=h5 _ hm;have hb:=Nc k x;have hv:=hV x Ch;have ew:IntKind.i64.wrap (V x-Bl k x)=W x:=by rw[<-hW];exact w64 (by unfold fit;omega)
   simp only[go_sem,seval,Ab,e0,Dv];refine Aa (H x Ch) ?_;simp only[go_sem,seval];refine Aa (Co k x) ?_;simp only[go_sem,seval,ew,Bbk];refine⟨Ch,?_⟩;rw[w64 (n:=(x:Int)+1) (by unfold fit;omega)];exact Au (by simp[An])
  ·have Fj:=of_decide_eq_false h;have Kt:x=rows.length:=by omega
   subst Kt;simp only[go_sem,seval,h]
 ·exact Au (by simp[An,pm])
theorem Ahz(t:Tm):TOk t->∀(w:Int),Ef t w=true->Con 41 [.agg true (tv t)] (.int .i64 (Gy t)):=by
 induction t using Tm.ind with
 |h k i j n l ih=>
  intro hok w hr;obtain⟨f1,f2,f3,f4,hb,hl⟩:=Wq hok
  by_cases hk:k=2
  ·obtain⟨i1,i2⟩:=Abm hr hk;have q:(k==2)=true:=by simp[hk]
   have e1:IntKind.i64.wrap (i+1)=i+1:=w64 (by unfold fit;omega);rw[Gy,if_pos hk];refine Al mixed Tryz.func41 tr41 ?_;rw[Ak];simp only[go_sem,seval,q,e1]
  ·have Ag:(l.map tv).length=l.length:=by simp
   have h:=Ava k i j n (l.map tv) (fun x=>Gy (l[x]?.getD default)) (by omega) (rows5 l) hk (fun x hx=>by
    rw[Ag] at hx;obtain⟨w',hw⟩:=Wo hr (Ic (d:=default) hx);exact A1h _ w' hw) (fun x hx=>by
    rw[Ag] at hx;rw[List.getElem?_map,q_f hx];have hm:=List.getElem_mem hx;obtain⟨w',hw⟩:=Wo hr hm;exact ih _ hm (hl _ hm) w' hw)
   rw[Ag,<-Ak,<-s6 hk] at h;exact h
theorem Au9(t:Tm)(ht:TOk t)(hp:Cb t=true):Con 19 [.agg true (tv t)] (.int .i64 (Gy t)):=by
 have h1:=o6 t ht hp;have hz:=Ae t;have h2:=Ahz t ht 2 hp;refine Al mixed Tryz.func19 tr19 ?_;simp only[go_sem,seval,hz];refine Aa h1 ?_;simp only[go_sem,seval,hz];refine Aa h2 ?_;simp only[go_sem,seval]
end Go.Proofs.YtdpigpopcbjkmaaGreatDoor.Abs
