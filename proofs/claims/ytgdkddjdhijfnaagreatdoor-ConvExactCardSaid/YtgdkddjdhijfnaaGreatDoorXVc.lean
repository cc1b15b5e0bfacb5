import Derived.Test.YtgdkddjdhijfnaaGreatDoorXPc
set_option linter.all false
set_option maxRecDepth 20000
set_option maxHeartbeats 4000000
namespace Go.Proofs.YtgdkddjdhijfnaaGreatDoor.Abs
open Go Go.RowKit Go.Proofs.YtgdkddjdhijfnaaGreatDoor
def A0y(kk i j n k fr:Int)(rows:GV)(X:Nat->List SV->Option (List SV))(h2:rows.length*56<=140737488355328)(h5:∀r∈rows,r.length=5)
  (hi:kk=2->0<=i/\i<=2147483647) (hk:0<=k) (hfr:0<=fr) (hfr2:fr<=1000000000000) (hX:∀p:Nat,∀r∈rows,∀u,X p r=some u->u.length=5)
  (H:∀p:Nat,∀r∈rows,Con 62 [.agg true r,.int .i64 k,.int .i64 (fr+Cf kk p)] (Er (X p r))) :
  Con 62 [.agg true [.int .i64 kk,.int .i64 i,.int .i64 j,.int .i64 n,.dsl 5 rows],.int .i64 k,.int .i64 fr] (Er (m8 kk i j n k fr (Co X 0 rows))):=by
 unfold m8;have main:∀i',Nr kk i k fr=some i'->Con 62 [.agg true [.int .i64 kk,.int .i64 i,.int .i64 j,.int .i64 n,.dsl 5 rows],.int .i64 k,.int .i64 fr] (Er ((Co X 0 rows).map fun rs=>[.int .i64 kk,.int .i64 i',.int .i64 j,.int .i64 n,.dsl 5 rs])):=by
  intro i' hI;unfold Nr at hI;have Mm:((List.range rows.length).map fun p=>(X p (rows[p]?.getD [])).getD []).length=rows.length:=by simp
  have Uk:∀x,x<rows.length->((List.range rows.length).map fun p=>(X p (rows[p]?.getD [])).getD [])[x]?.getD []=(X x (rows[x]?.getD [])).getD []:=fun x hx=>by
   rw[q_ji,q_kk hx];rfl
  have Vw:(∀x,x<rows.length->X x (rows[x]?.getD [])≠none)->Co X 0 rows=some ((List.range rows.length).map fun p=>(X p (rows[p]?.getD [])).getD []):=fun h=>by
   rw[Acp (d:=[]) (e:=[]) (fun x hx=>by rw[q_jg];exact h x hx)];simp only[q_jg]
  generalize ((List.range rows.length).map fun p=>(X p (rows[p]?.getD [])).getD [])=ys at *
  have Adl:(kk=2/\fr<=i/\IntKind.i64.wrap (2147483647-i)=2147483647-i/\¬2147483647-i<k/\IntKind.i64.wrap (i+k)=i'/\(kk==2)=true)\/(i'=i/\(kk==2)=false)\/(i'=i/\(kk==2)=true/\¬fr<=i):=by
   by_cases h1:kk=2
   ·by_cases h2:fr<=i
    ·rw[if_pos ⟨h1,h2⟩] at hI;obtain⟨g1,g2⟩:=hi h1;split at hI
     ·cases hI
     ·rename_i Ag;cases hI;exact .inl ⟨h1,h2,w64 (by unfold fit;omega),Ag,w64 (by unfold fit;omega),by simp[h1]⟩
    ·rw[if_neg (fun h=>h2 h.2)] at hI;cases hI;exact .inr (.inr ⟨rfl,by simp[h1],h2⟩)
   ·rw[if_neg (fun h=>h1 h.1)] at hI;cases hI;exact .inr (.inl ⟨rfl,by simp[h1]⟩)
  have core:∀r0,(Co X 0 rows=none->r0=.tup [.agg true [.int .i64 0,.int .i64 0,.int .i64 0,.int .i64 0,.nils],.bool false]) ->
    (∀us,Co X 0 rows=some us->r0=.tup [.agg true [.int .i64 kk,.int .i64 i',.int .i64 j,.int .i64 n,.dsl 5 us],.bool true]) ->
    Con 62 [.agg true [.int .i64 kk,.int .i64 i,.int .i64 j,.int .i64 n,.dsl 5 rows],.int .i64 k,.int .i64 fr] r0:=by
    intro r0 hn hs;refine Au mixed Tryz.func62 tr62 ?_;rcases Adl with⟨_,q1,q2,q3,q4,q5⟩|⟨rfl,q1⟩|⟨rfl,q1,q2⟩
    simp only[go_sem,seval,q1,q2,q3,q4,q5,Int.le_refl];clear q1 q2 q3 q4 q5;rotate_left;simp only[go_sem,seval,q1,Int.le_refl];clear q1;rotate_left;simp only[go_sem,seval,q1,q2,Int.le_refl];clear q1 q2;rotate_left
    all_goals
     intros
     first
     |refine Rt (fun x=>⟨(.J::.int .i64 k::.int .i64 fr::.ref 0 0 0 0::.J::.J::.ref 1 0 0 0::.J::.ref 2 0 0 0::.osl 3 x 0 x::.int .i64 x::Bo (Bo (jk4 ([])))),[⟨true,5,[[.int .i64 kk,.int .i64 i,.int .i64 j,.int .i64 n,.dsl 5 rows]],0,0,true⟩,⟨true,5,[[.int .i64 0,.int .i64 0,.int .i64 0,.int .i64 0,.nils]],0,0,true⟩,⟨true,5,[[.int .i64 kk,.int .i64 i',.int .i64 j,.int .i64 n,.nils]],0,0,true⟩,⟨false,5,ys.take x,x-1,x,true⟩]⟩) rows.length (fun x=>X x (rows[x]?.getD [])≠none) (fun x hx hp=>?_) ?_
     |refine Rt (fun x=>⟨(.J::.int .i64 k::.int .i64 fr::.ref 0 0 0 0::.J::.J::.ref 1 0 0 0::.J::.ref 2 0 0 0::.osl 3 x 0 x::.int .i64 x::Bo (Bo (jk4 ([])))),[⟨true,5,[[.int .i64 kk,.int .i64 i',.int .i64 j,.int .i64 n,.dsl 5 rows]],0,0,true⟩,⟨true,5,[[.int .i64 0,.int .i64 0,.int .i64 0,.int .i64 0,.nils]],0,0,true⟩,⟨true,5,[[.int .i64 kk,.int .i64 i',.int .i64 j,.int .i64 n,.nils]],0,0,true⟩,⟨false,5,ys.take x,x-1,x,true⟩]⟩) rows.length (fun x=>X x (rows[x]?.getD [])≠none) (fun x hx hp=>?_) ?_
     ·simp only[go_sem,seval];intros;refine⟨fun h=>?_,fun h=>?_⟩
      ·have Ag:=q_kx h;have Cr:x<rows.length:=by omega
       have e0:(0:Int)<=(x:Int):=by omega
       have hm:=Hi (d:=[]) Cr;have Gj:=h5 _ hm;have hb:=Qq kk x;have ew:IntKind.i64.wrap (fr+Cf kk x)=fr+Cf kk x:=w64 (by unfold fit;omega);have hc:=H x _ hm;have Dx:¬4611686018427387904<fr:=by omega
       have e1:(ys.take x).length=x:=by simp;omega
       have e2:(x+1)*56<=140737488355328:=by omega
       have e3:x+1<=140737488355328:=by omega
       simp only[go_sem,seval,Ag,e0,Gj];refine Af (Dm kk x) ?_;simp only[go_sem,seval,Dx,Ag,e0,Gj,ew];refine Af hc ?_;cases Ma:X x (rows[x]?.getD []) with
       |none=>
        simp only[go_sem,seval,Er];exact hn (Aco (d:=[]) (i:=x) Cr (by rw[q_jg];exact Ma))
       |some u=>
        have hu:=hX x _ hm u Ma;have hy:=Uk x Cr;rw[Ma,q_jz] at hy;have tn:=Akw (l:=ys) (d:=[]) (i:=x) (by omega);rw[hy] at tn;simp only[go_sem,seval,Er,hu,Cr,e1,e2,e3,tn];rw[w64 (n:=(x:Int)+1) (by unfold fit;omega)];exact Fp 4 (by simp[Ba]) (by simp) (by simp[Cx]) (by simp)
      ·have Fy:=q_ky h;have Ml:x=rows.length:=by omega
       have he:=Vw (fun y hy=>hp y (by omega));subst Ml;have ht:ys.take rows.length=ys:=by rw[<-Mm,q_km]
       simp only[go_sem,seval,h,Mm,ht];exact hs _ he
     ·exact .trans (.ghost _ 9 5 rfl) (Bk (by simp[Ba]))
  cases hA:Co X 0 rows with
  |none=>
   refine (core _ (fun _=>rfl) (fun us h=>?_)).weaken l7;rw[hA] at h;cases h
  |some us=>
   refine core _ (fun h=>?_) (fun us' h=>?_)
   ·rw[hA] at h;cases h
   ·rw[hA] at h;cases h;rfl
 cases hI:Nr kk i k fr with
 |some i'=>exact main i' hI
 |none=>
  simp only[Option.bind_none];unfold Nr at hI;split at hI;rotate_left
  ·cases hI
  rename_i hc;obtain⟨rfl,hle⟩:=hc;split at hI;rotate_left
  ·cases hI
  rename_i Ag;obtain⟨g1,g2⟩:=hi rfl;refine (Au (r:=.tup [.agg true [.int .i64 0,.int .i64 0,.int .i64 0,.int .i64 0,.nils],.bool false]) mixed Tryz.func62 tr62 ?_).weaken l7;have ew:IntKind.i64.wrap (2147483647-i)=2147483647-i:=w64 (by unfold fit;omega);simp only[go_sem,seval,hle,ew,Ag]
def Av6{α:Type}{f:Nat->α->Bool}{x:α}:∀{l:List α} {p:Nat},Id f p l=true->x∈l->∃q,f q x=true:=by
 intro l
 induction l with
 |nil=>intro p _ h;cases h
 |cons y l ih=>
  intro p h hx;rw[Id,q_jl] at h;rcases q_kb.1 hx with rfl|hx
  ·exact⟨p,h.1⟩
  ·exact ih h.2 hx
def o7{k i j n w:Int}{l:List Tm}{t:Tm}(h:Gg (.mk k i j n l) w=true)(ht:t∈l):∃w',Gg t w'=true:=by
 rw[Ys,q_jl] at h;obtain⟨q,hq⟩:=Av6 h.2 ht;exact⟨_,hq⟩
def Afs{k i j n w:Int}{l:List Tm}(h:Gg (.mk k i j n l) w=true)(hk:k=2):0<=i/\i<=2147483647:=by
 rw[Ys,q_jl] at h;have h1:=h.1;unfold Iv at h1;rw[q_jl,q_jl] at h1;have h2:=h1.2.2;unfold Or at h2;rw[if_neg (by omega),if_pos hk] at h2;simp only[q_jl,q_jt] at h2;exact⟨h2.1,h2.2.1⟩
def Ajo(kk i j n k fr:Int)(l:List Tm):Gc k fr (.mk kk i j n l)=(Nr kk i k fr).bind fun i'=>(Co (fun p t=>Gc k (fr+Cf kk p) t) 0 l).map (Tm.mk kk i' j n):=by
 rw[Gc,Bb9];unfold Nr;split
 ·split<;>rfl
 ·rfl
def Arg(kk i j n k fr:Int)(l:List Tm):m8 kk i j n k fr (Co (fun p r=>onT (fun t=>(Gc k (fr+Cf kk (p:Nat)) t).map tv) none r) 0 (l.map tv))=(Gc k fr (.mk kk i j n l)).map tv:=by
 rw[Agp,Ago (Y:=fun p t=>(Gc k (fr+Cf kk (p:Nat)) t).map tv) (fun p t _=>by rw[Jg]),Agq,Ajo];unfold m8;cases Nr kk i k fr with
 |none=>rfl
 |some i'=>
  simp only[Option.bind_some,Option.map_map];congr 1;funext rs;simp only[Function.comp,As]
def Ann(k:Int)(hk:0<=k)(t:Tm):TOk t->∀(w fr:Int),Gg t w=true->0<=fr->fr+2*La t<=1000000000000 ->
  Con 62 [.agg true (tv t),.int .i64 k,.int .i64 fr] (Er ((Gc k fr t).map tv)):=by
 induction t using Tm.ind with
 |h kk i j n l ih=>
  intro hok w fr hr hf Dc;cases hok with
  |mk _ _ _ _ _ f1 f2 f3 f4 hb hl=>
  rw[Aau] at Dc;have h:=A0y kk i j n k fr (l.map tv) (fun p r=>onT (fun t=>(Gc k (fr+Cf kk (p:Nat)) t).map tv) none r) (by simpa using hb) (rows5 l) (Afs hr) hk hf (by omega)
   (fun p r hr u hu=>by
    obtain⟨t,ht,rfl⟩:=q_lc.1 hr;simp only[Jg] at hu;cases he:Gc k (fr+Cf kk (p:Nat)) t with
    |none=>rw[he] at hu;cases hu
    |some v=>rw[he] at hu;cases hu;exact Ch v)
   (fun p r Fu=>by
    obtain⟨t,ht,rfl⟩:=q_lc.1 Fu;simp only[Jg];obtain⟨w',hw⟩:=o7 hr ht;have hm:=Aia ht;have hbl:=Qq kk p;exact ih t ht (hl t ht) w' _ hw (by omega) (by omega))
  rw[Arg,<-As] at h;exact h
def A0z(t:Tm):TOk t->∃z,Con 73 [.agg true (tv t)] (.bool z):=by
 induction t using Tm.ind with
 |h k i j n l ih=>
  intro hok;cases hok with
  |mk _ _ _ _ _ f1 f2 f3 f4 hb hl=>
  have h:=A1a k i j n (l.map tv) (fun p r=>onT (fun t=>if ((k==12) && ((p:Int)==2))=true then Cg t else Classical.epsilon (fun z=>Con 73 [.agg true (tv t)] (.bool z))) false r) (by simpa using hb) (rows5 l)
   (fun p r hr hc=>by
    obtain⟨t,ht,rfl⟩:=q_lc.1 hr;simp only[Jg];rw[if_pos hc];exact w8 t (hl t ht))
   (fun p r hr hc=>by
    obtain⟨t,ht,rfl⟩:=q_lc.1 hr;simp only[Jg];rw[if_neg (by rw[hc];exact Bool.false_ne_true)];exact Classical.epsilon_spec (ih t ht (hl t ht)))
  rw[<-As] at h;exact⟨_,h⟩
def w9(t:Tm)(ht:TOk t)(hp:Cg t=true):Con 45 [.agg true (tv t)] (.bool true):=by
 refine Au mixed Tryz.func45 tr45 ?_;obtain⟨z,h1⟩:=A0z t ht;have h2:=w8 t ht;rw[hp] at h2;simp only[go_sem,seval];refine Af h1 ?_;cases z<;>simp only[go_sem,seval];refine Af h2 ?_;simp only[go_sem,seval]
mutual
def Iu(u:Tm):Int->Tm->Option Tm
 |d,.mk kk i j n l=>
  if kk=2/\d<=i then (if i=d then Gc d 0 u else some (vr (i-1)))
  else (Abx u d kk 0 l).map (Tm.mk kk i j n)
def Abx(u:Tm):Int->Int->Nat->List Tm->Option (List Tm)
 |_,_,_,[]=>some []
 |d,kk,p,t::l=>match Iu u (d+Cf kk p) t with
  |none=>none
  |some v=>match Abx u d kk (p+1) l with
   |none=>none
   |some r=>some (v::r)
end
def Bgd(u:Tm)(d kk:Int):∀(l:List Tm) (p:Nat),Abx u d kk p l=Co (fun p t=>Iu u (d+Cf kk p) t) p l:=by
 intro l
 induction l with
 |nil=>intro p;rw[Abx];rfl
 |cons t l ih=>
  intro p;rw[Abx,Co,ih];cases Iu u (d+Cf kk p) t with
  |none=>rfl
  |some v=>cases Co (fun p t=>Iu u (d+Cf kk ((p:Nat):Int)) t) (p+1) l<;>rfl
def Akd{u:Tm}{d kk i j n:Int}{l:List Tm}(h:kk=2/\d<=i):Iu u d (.mk kk i j n l)=if i=d then Gc d 0 u else some (vr (i-1)):=by
 rw[Iu,if_pos h]
def Afk{u:Tm}{d kk i j n:Int}{l:List Tm}(h:¬(kk=2/\d<=i)):Iu u d (.mk kk i j n l)=(Co (fun p t=>Iu u (d+Cf kk p) t) 0 l).map (Tm.mk kk i j n):=by
 rw[Iu,if_neg h,Bgd]
def Bgf{u:Tm}{d kk i j n:Int}{l:List Tm}(h:¬(kk=2/\d<=i)) :
  ((Co (fun p r=>onT (fun t=>(Iu u (d+Cf kk (p:Nat)) t).map tv) none r) 0 (l.map tv)).map fun rs=>[.int .i64 kk,.int .i64 i,.int .i64 j,.int .i64 n,.dsl 5 rs])=(Iu u d (.mk kk i j n l)).map tv:=by
 rw[Agp,Ago (Y:=fun p t=>(Iu u (d+Cf kk (p:Nat)) t).map tv) (fun p t _=>by rw[Jg]),Agq,Afk h];simp only[Option.map_map];congr 1;funext rs;simp only[Function.comp,As]
def Bfa{t:Tm}(h:Cg t=true):t.k=1\/t.k=2\/13<=t.k:=by
 cases t with
 |mk k i j n l=>
 show k=1\/k=2\/13<=k;have h':Gg (.mk k i j n l) 2=true:=h;rw[Ys,q_jl] at h';have h1:=h'.1;unfold Iv at h1;rw[q_jl] at h1;have h2:=h1.1;unfold Jh at h2
 by_cases a:k=1\/k=2
 ·omega
 ·rw[if_neg a] at h2
  by_cases b:k<=12
  ·rw[if_pos b] at h2;exact absurd h2 (by decide)
  ·omega
open Go Go.RowKit Go.Proofs.YtgdkddjdhijfnaaGreatDoor
def A1m(t:Tm)(ht:TOk t)(hp:Cg t=true):Con 118 [.agg true (tv t)] (.agg true (tv t)):=by
 have h:=w8 t ht;rw[hp] at h;refine Au mixed Tryz.func118 tr118 ?_;simp only[go_sem,seval];refine Af h ?_;simp only[go_sem,seval]
def Ank(u:Tm)(hu:TOk u)(hp:Cg u=true)(d:Int)(hd:0<=d)(b:Bool)(hh:(2:Int)*La u<=1000000000000):Con 105 [.agg true (tv u),.int .i64 d,.bool b] (Er ((Gc d 0 u).map tv)):=by
 have h1:=A1m u hu hp;have h2:=Ann d hd u hu 2 0 hp (by omega) (by omega);refine Au mixed Tryz.func105 tr105 ?_;cases hl:Gc d 0 u with
 |none=>
  rw[hl] at h2;have Sq:=Ch zT;cases b
  ·simp only[go_sem,seval];refine Af h2 ?_;simp only[go_sem,seval,Er,Option.map_none,Sq]
  ·simp only[go_sem,seval];refine Af h1 ?_;simp only[go_sem,seval];refine Af h2 ?_;simp only[go_sem,seval,Er,Option.map_none,Sq]
 |some v=>
  rw[hl] at h2;have Sq:=Ch v;cases b
  ·simp only[go_sem,seval];refine Af h2 ?_;simp only[go_sem,seval,Er,q_jh,Sq]
  ·simp only[go_sem,seval];refine Af h1 ?_;simp only[go_sem,seval];refine Af h2 ?_;simp only[go_sem,seval,Er,q_jh,Sq]
def Ani(kk i j n p:Int)(rows:GV):∃z,Con 106 [.agg true [.int .i64 kk,.int .i64 i,.int .i64 j,.int .i64 n,.dsl 5 rows],.int .i64 p] (.bool z):=by
 by_cases h:12<kk
 ·refine⟨true,Au mixed Tryz.func106 tr106 ?_⟩;simp only[go_sem,seval,h]
 ·cases Oe:(kk==12)<;>cases h2:(p==2)
  ·refine⟨false,Au mixed Tryz.func106 tr106 ?_⟩;simp only[go_sem,seval,h,Oe,h2]
  ·refine⟨false,Au mixed Tryz.func106 tr106 ?_⟩;simp only[go_sem,seval,h,Oe,h2]
  ·refine⟨false,Au mixed Tryz.func106 tr106 ?_⟩;simp only[go_sem,seval,h,Oe,h2]
  ·refine⟨true,Au mixed Tryz.func106 tr106 ?_⟩;simp only[go_sem,seval,h,Oe,h2]
def A1k(kk i j n d:Int)(b:Bool)(u:Tm)(rows:GV)(X:Nat->List SV->Option (List SV))(h2:rows.length*56<=140737488355328)(h5:∀r∈rows,r.length=5)
  (hv:¬kk=2) (hd:0<=d) (Ft:d<=1000000000000) (hX:∀p:Nat,∀r∈rows,∀u,X p r=some u->u.length=5)
  (H:∀p:Nat,∀r∈rows,∀b',Con 86 [.agg true r,.agg true (tv u),.int .i64 (d+Cf kk p),.bool b'] (Er (X p r))) :
  Con 86 [.agg true [.int .i64 kk,.int .i64 i,.int .i64 j,.int .i64 n,.dsl 5 rows],.agg true (tv u),.int .i64 d,.bool b] (Er ((Co X 0 rows).map fun rs=>[.int .i64 kk,.int .i64 i,.int .i64 j,.int .i64 n,.dsl 5 rs])):=by
 have Mm:((List.range rows.length).map fun p=>(X p (rows[p]?.getD [])).getD []).length=rows.length:=by simp
 have Uk:∀x,x<rows.length->((List.range rows.length).map fun p=>(X p (rows[p]?.getD [])).getD [])[x]?.getD []=(X x (rows[x]?.getD [])).getD []:=fun x hx=>by
  rw[q_ji,q_kk hx];rfl
 have Vw:(∀x,x<rows.length->X x (rows[x]?.getD [])≠none)->Co X 0 rows=some ((List.range rows.length).map fun p=>(X p (rows[p]?.getD [])).getD []):=fun h=>by
  rw[Acp (d:=[]) (e:=[]) (fun x hx=>by rw[q_jg];exact h x hx)];simp only[q_jg]
 generalize ((List.range rows.length).map fun p=>(X p (rows[p]?.getD [])).getD [])=ys at *
 have q1:(kk==2)=false:=by simp[hv]
 have core:∀r0,(Co X 0 rows=none->r0=.tup [.agg true [.int .i64 0,.int .i64 0,.int .i64 0,.int .i64 0,.nils],.bool false]) ->
   (∀us,Co X 0 rows=some us->r0=.tup [.agg true [.int .i64 kk,.int .i64 i,.int .i64 j,.int .i64 n,.dsl 5 us],.bool true]) ->
   Con 86 [.agg true [.int .i64 kk,.int .i64 i,.int .i64 j,.int .i64 n,.dsl 5 rows],.agg true (tv u),.int .i64 d,.bool b] r0:=by
  intro r0 hn hs;refine Au mixed Tryz.func86 tr86 ?_;simp only[go_sem,seval,q1];clear q1;intros;refine Rt (fun x=>⟨(.J::.J::.int .i64 d::.bool b::.ref 0 0 0 0::.ref 1 0 0 0::.J::.J::.ref 2 0 0 0::.J::.ref 3 0 0 0::.osl 4 x 0 x::.int .i64 x::Bo (Bo (jk8 ([])))),[⟨true,5,[[.int .i64 kk,.int .i64 i,.int .i64 j,.int .i64 n,.dsl 5 rows]],0,0,true⟩,⟨true,5,[tv u],0,0,true⟩,⟨true,5,[[.int .i64 0,.int .i64 0,.int .i64 0,.int .i64 0,.nils]],0,0,true⟩,⟨true,5,[[.int .i64 kk,.int .i64 i,.int .i64 j,.int .i64 n,.nils]],0,0,true⟩,⟨false,5,ys.take x,x-1,x,true⟩]⟩) rows.length (fun x=>X x (rows[x]?.getD [])≠none) (fun x hx hp=>?_) ?_
  ·simp only[go_sem,seval];intros;refine⟨fun h=>?_,fun h=>?_⟩
   ·have Ag:=q_kx h;have Cr:x<rows.length:=by omega
    have e0:(0:Int)<=(x:Int):=by omega
    have hm:=Hi (d:=[]) Cr;have Gj:=h5 _ hm;have hb:=Qq kk x;have ew:IntKind.i64.wrap (d+Cf kk x)=d+Cf kk x:=w64 (by unfold fit;omega);have hc:=H x _ hm;obtain⟨z,hz⟩:=Ani kk i j n x rows;have e1:(ys.take x).length=x:=by simp;omega
    have e2:(x+1)*56<=140737488355328:=by omega
    have e3:x+1<=140737488355328:=by omega
    cases b
    all_goals
     repeat' first
     |simp only[go_sem,seval,Ag,e0,Gj,ew]
     |refine Af (Dm kk x) ?_
     |refine Af hz ?_
     first|refine Af (hc z) ?_|refine Af (hc true) ?_
     cases Ma:X x (rows[x]?.getD []) with
     |none=>
      simp only[go_sem,seval,Er];exact hn (Aco (d:=[]) (i:=x) Cr (by rw[q_jg];exact Ma))
     |some u=>
      have hu:=hX x _ hm u Ma;have hy:=Uk x Cr;rw[Ma,q_jz] at hy;have tn:=Akw (l:=ys) (d:=[]) (i:=x) (by omega);rw[hy] at tn;simp only[go_sem,seval,Er,hu,Cr,e1,e2,e3,tn];rw[w64 (n:=(x:Int)+1) (by unfold fit;omega)];exact Fp 5 (by simp[Ba]) (by simp) (by simp[Cx]) (by simp)
   ·have Fy:=q_ky h;have Ml:x=rows.length:=by omega
    have he:=Vw (fun y hy=>hp y (by omega));subst Ml;have ht:ys.take rows.length=ys:=by rw[<-Mm,q_km]
    simp only[go_sem,seval,h,Mm,ht];exact hs _ he
  ·exact .trans (.ghost _ 11 5 rfl) (Bk (by simp[Ba]))
 cases hA:Co X 0 rows with
 |none=>
  refine (core _ (fun _=>rfl) (fun us h=>?_)).weaken l7;rw[hA] at h;cases h
 |some us=>
  refine core _ (fun h=>?_) (fun us' h=>?_)
  ·rw[hA] at h;cases h
  ·rw[hA] at h;cases h;rfl
def Bj4{i j n w:Int}{l:List Tm}(h:Gg (.mk 2 i j n l) w=true):l=[]:=by
 rw[Ys,q_jl] at h;have h1:=h.1;unfold Iv at h1;rw[q_jl,q_jl] at h1;have h2:=h1.2.1;have hk:Bv 2 n=0:=by unfold Bv;rfl
 rw[hk] at h2;simp only[Bool.not_eq_true',bne_eq_false_iff_eq] at h2;cases l with
 |nil=>rfl
 |cons x l=>simp at h2;omega
def A1l(u:Tm)(hu:TOk u)(hp:Cg u=true)(hh:(2:Int)*La u<=1000000000000)(i j n d w:Int)(b:Bool)(l:List Tm)(hr:Gg (.mk 2 i j n l) w=true)(hi:0<=i/\i<=2147483647)(hd:0<=d) :
  Con 86 [.agg true (tv (.mk 2 i j n l)),.agg true (tv u),.int .i64 d,.bool b] (Er ((Iu u d (.mk 2 i j n l)).map tv)):=by
 have hl:=Bj4 hr;subst hl
 by_cases h1:i=d
 ·subst h1;have hc:=Ank u hu hp i hd b hh;rw[Akd ⟨rfl,Int.le_refl _⟩,if_pos rfl];refine Au mixed Tryz.func86 tr86 ?_;rw[As];simp only[go_sem,seval];refine Af hc ?_;cases Gc i 0 u with
  |none=>
   have hz:=Ch zT;simp only[go_sem,seval,Er,Option.map_none,hz]
  |some v=>
   have hz:=Ch v;simp only[go_sem,seval,Er,q_jh,hz]
 ·have q1:(i==d)=false:=by simp[h1]
  by_cases h2:d<i
  ·rw[Akd ⟨rfl,by omega⟩,if_neg h1];have ew:IntKind.i64.wrap (i-1)=i-1:=w64 (by unfold fit;omega);have hle:=Ajk 2 (i-1) 0 0;rw[q_jh,show tv (vr (i-1))=[.int .i64 2,.int .i64 (i-1),.int .i64 0,.int .i64 0,.dsl 5 []] from by simp[vr,As]];refine (Au mixed Tryz.func86 tr86 ?_).weaken hle;rw[As];simp only[go_sem,seval,q1,h2,ew]
  ·rw[Afk (fun h=>by omega),Co,q_jh,q_jh];have hz:=Ch (.mk 2 i j n []);rw[As] at hz;refine Au mixed Tryz.func86 tr86 ?_;rw[As];simp only[go_sem,seval,Er,q1,h2]
def A1j(u:Tm)(hu:TOk u)(hp:Cg u=true)(hh:(2:Int)*La u<=1000000000000)(t:Tm):TOk t->∀(w d:Int) (b:Bool),Gg t w=true->0<=d->d+2*La t<=1000000000000 ->
  Con 86 [.agg true (tv t),.agg true (tv u),.int .i64 d,.bool b] (Er ((Iu u d t).map tv)):=by
 induction t using Tm.ind with
 |h kk i j n l ih=>
  intro hok w d b hr hd Dc;cases hok with
  |mk _ _ _ _ _ f1 f2 f3 f4 hb hl=>
  rw[Aau] at Dc
  by_cases hv:kk=2
  ·have hi:=Afs hr hv;subst hv;exact A1l u hu hp hh i j n d w b l hr hi hd
  ·have h:=A1k kk i j n d b u (l.map tv) (fun p r=>onT (fun t=>(Iu u (d+Cf kk (p:Nat)) t).map tv) none r) (by simpa using hb) (rows5 l) hv hd (by omega)
    (fun p r hr u hu=>by
     obtain⟨t,ht,rfl⟩:=q_lc.1 hr;simp only[Jg] at hu;cases he:Iu _ (d+Cf kk (p:Nat)) t with
     |none=>rw[he] at hu;cases hu
     |some v=>rw[he] at hu;cases hu;exact Ch v)
    (fun p r Fu b'=>by
     obtain⟨t,ht,rfl⟩:=q_lc.1 Fu;simp only[Jg];obtain⟨w',hw⟩:=o7 hr ht;have hm:=Aia ht;have hbl:=Qq kk p;exact ih t ht (hl t ht) w' _ b' hw (by omega) (by omega))
   rw[Bgf (fun h=>hv h.1),<-As] at h;exact h
def Afj(u t:Tm):Tm:=(Iu u 0 t).getD zT
def Ano(t u:Tm)(ht:TOk t)(hu:TOk u)(hpt:Cg t=true)(hpu:Cg u=true):Con 85 [.agg true (tv t),.agg true (tv u)] (.bool true):=by
 have h1:=w9 u hu hpu;have h2:=w8 t ht;rw[hpt] at h2;have h0:=tv_0 (t:=t);refine Au mixed Tryz.func85 tr85 ?_;cases Wa:(t.k==1)<;>cases Dj:(t.k==2)
 all_goals
  simp only[go_sem,seval,h0];refine Af h1 ?_;simp only[go_sem,seval,h0,Wa,Dj]
  try (refine Af h2 ?_;simp only[go_sem,seval,h0,Wa,Dj])
def A0m(t u:Tm)(ht:TOk t)(hu:TOk u)(hpt:Cg t=true)(hpu:Cg u=true)(Hx:La t<=100000000)(Ui:La u<=100000000) :
  Con 63 [.agg true (tv t),.agg true (tv u)] (.agg true (tv (Afj u t))):=by
 have h1:=w9 t ht hpt;have h3:=Ano t u ht hu hpt hpu;have h2:=A1j u hu hpu (by omega) t ht 2 0 false hpt (by omega) (by omega);unfold Afj;cases hp:Iu u 0 t with
 |none=>
  rw[hp] at h2;refine (Au (r:=.agg true [.int .i64 0,.int .i64 0,.int .i64 0,.int .i64 0,.nils]) mixed Tryz.func63 tr63 ?_).weaken Arb;have Sq:=Ch zT
  repeat' first
  |simp only[go_sem,seval,Er,Option.map_none,Sq]
  |refine Af h1 ?_
  |refine Af h3 ?_
  |refine Af h2 ?_
 |some v=>
  rw[hp] at h2;have Sq:=Ch v;refine Au mixed Tryz.func63 tr63 ?_
  repeat' first
  |simp only[go_sem,seval,Er,q_jh,Sq,q_jz]
  |refine Af h1 ?_
  |refine Af h3 ?_
  |refine Af h2 ?_
section
variable{v v1 v2:Nat->Nat->Tm}{f f1 f2:Nat->Int->Tm}
def Ox(c1 c2:Nat)(hv:∀b i,trT v2 f2 (b+c2) (v1 (b+c1) i)=v b i)(hf:∀b l,trT v2 f2 (b+c2) (f1 (b+c1) l)=f b l)(t:Tm):∀b,trT v2 f2 (b+c2) (trT v1 f1 (b+c1) t)=trT v f b t:=by
 induction t using Tm.ind with
 |h k i j n l ih=>
  intro b
  by_cases h2:k=2
  ·subst h2;rw[Uz,Uz,hv]
  by_cases h0:k=0
  ·subst h0;rw[Wx,Wx,hf]
  rw[Ev h2 h0,Ev h2 h0,Ev h2 h0];congr 1;apply List.ext_getElem?;intro q;rw[Fm,Fm,Fm,Option.map_map];cases hq:l[q]? with
  |none=>rfl
  |some t=>
   simp only[q_jh,Function.comp];rw[show b+c1+bnd k (0+q)=b+bnd k (0+q)+c1 by omega,show b+c2+bnd k (0+q)=b+bnd k (0+q)+c2 by omega,ih t (q_jb hq)]
def Auo{B:Nat}{t:Tm}(h:Sf B t):∀{c:Nat},(∀b i,i<B+(b-c)->c<=b->v1 b i=v2 b i)->trT v1 f1 c t=trT v2 f2 c t:=by
 induction h with
 |@var B i h=>intro c hv;rw[Cz,Cz];exact hv c i (by omega) (q_ja _)
 |@nd B k i j n l h2 h0 hf hl _ ih=>
  intro c hv;rw[Ev h2 h0,Ev h2 h0];congr 1;apply List.ext_getElem?;intro q;rw[Fm,Fm];cases hq:l[q]? with
  |none=>rfl
  |some t=>
   simp only[q_jh,q_jg];rw[ih q t hq (fun b i h1 h2=>hv b i (by omega) (by omega))]
def Akn{B:Nat}{t:Tm}(h:Sf B t):∀{b c:Nat},(∀b' i,b<=b'->i<B+(b'-b)->Sf (c+(b'-b)) (v b' i))->Sf c (trT v f b t):=by
 induction h with
 |@var B i h=>intro b c hv;rw[Cz];simpa using hv b i (q_ja _) (by omega)
 |@nd B k i j n l h2 h0 hf hl _ ih=>
  intro b c hv;rw[Ev h2 h0];refine .nd i j n h2 h0 hf (by rw[Mu];exact hl) (fun p t ht=>?_);rw[Fm,q_jg] at ht;cases hq:l[p]? with
  |none=>rw[hq] at ht;cases ht
  |some u=>
   rw[hq,q_jh,q_b] at ht;subst ht;refine ih p u hq (fun b' i hb hi=>?_);have:=hv b' i (by omega) (by omega)
   rwa [show c+(b'-b)=c+bnd k p+(b'-(b+bnd k p)) by omega] at this
end
def lfv(k:Nat)(b i:Nat):Tm:=if i<b then vT i else vT (i+k)
def Ct(k:Nat)(t:Tm):Tm:=trT (lfv k) (fun _ l=>fT l) 0 t
def ptv(u:Tm)(b i:Nat):Tm:=if i<b then vT i else if i=b then Ct b u else vT (i-1)
def Lk(u t:Tm):Tm:=trT (ptv u) (fun _ l=>fT l) 0 t
def alv(l:List Tm)(b i:Nat):Tm:=if i<b then vT i else Ct b (l.getD (i-b) (vT 0))
def Kp(l:List Tm)(t:Tm):Tm:=trT (alv l) (fun _ l=>fT l) 0 t
def lvv(d:Nat)(b i:Nat):Tm:=if i<b then vT i else fT ((d:Int)-1-((i-b:Nat):Int))
def lvB(d b:Nat)(t:Tm):Tm:=trT (lvv d) (fun _ l=>fT l) b t
def lv(d:Nat)(t:Tm):Tm:=lvB d 0 t
def lv_0(t:Tm):lv 0 t=Bc [] 0 t:=by
 refine Bjc (b0:=0) (fun b i _=>?_) (fun _ _ _=>rfl) t 0 (q_ja _);unfold lvv ivI;split
 ·rfl
 ·simp only[List.getElem?_nil,List.length_nil];congr 1;omega
def Wp{k:Int}(h2:k≠2)(h0:k≠0)(d b:Nat)(i j n:Int)(l:List Tm):lvB d b (.mk k i j n l)=.mk k i j n (trL (lvv d) (fun _ l=>fT l) b k 0 l):=Ev h2 h0 b i j n l
def Ari(d b:Nat)(u:Tm):lvB d b (Ct b u)=lv d u:=by
 have:=Ox (v1:=lfv b) (f1:=fun _ l=>fT l) (v2:=lvv d) (f2:=fun _ l=>fT l) (v:=lvv d) (f:=fun _ l=>fT l) 0 b (fun b' i=>?_) (fun b' l=>Ij _ _) u 0
 ·simpa [lvB,Ct,lv] using this
 ·rw[q_jp];unfold lfv lvv
  by_cases h:i<b'
  ·rw[if_pos h,Cz,if_pos (by omega),if_pos h]
  ·rw[if_neg h,Cz,if_neg (by omega),if_neg h];congr 2;omega
def Bgi(d:Nat)(u t:Tm):lv d (Lk u t)=Bc [lv d u] 0 (lvB d 1 t):=by
 have h1:=Ox (v1:=ptv u) (f1:=fun _ l=>fT l) (v2:=lvv d) (f2:=fun _ l=>fT l) (v:=fun b i=>if i<b then vT i else if i=b then lv d u else fT ((d:Int)-1-((i-1-b:Nat):Int))) (f:=fun _ l=>fT l) 0 0 (fun b i=>?_) (fun b l=>Ij _ _) t 0
 ·have h2:=Ox (v1:=lvv d) (f1:=fun _ l=>fT l) (v2:=ivI [lv d u]) (f2:=fun _ l=>fT l) (v:=fun b i=>if i<b then vT i else if i=b then lv d u else fT ((d:Int)-1-((i-1-b:Nat):Int))) (f:=fun _ l=>fT l) 1 0 (fun b i=>?_) (fun b l=>Ij _ _) t 0
  ·simp only[q_jp,q_jg] at h1 h2;exact h1.trans h2.symm
  ·rw[q_jp];unfold lvv ivI
   by_cases h:i<b
   ·rw[if_pos (by omega),Cz,if_pos h,if_pos h]
   ·by_cases h':i=b
    ·subst h';rw[if_pos (by omega),Cz,if_neg h,if_neg h,if_pos rfl,Nat.sub_self];rfl
    ·rw[if_neg (by omega),Ij,if_neg h,if_neg h'];congr 2;omega
 ·simp only[q_jp];unfold ptv
  by_cases h:i<b
  ·rw[if_pos h,Cz,if_pos h];unfold lvv;rw[if_pos h]
  ·rw[if_neg h,if_neg h]
   by_cases h':i=b
   ·subst h';rw[if_pos rfl,if_pos rfl];exact Ari d i u
   ·rw[if_neg h',if_neg h',Cz];unfold lvv;rw[if_neg (by omega)]
def Av7(d:Nat)(l:List Tm){t:Tm}(ht:Sf l.length t):lv d (Kp l t)=Bc (l.map (lv d)) 0 t:=by
 have h1:=Ox (v1:=alv l) (f1:=fun _ l=>fT l) (v2:=lvv d) (f2:=fun _ l=>fT l) (v:=fun b i=>if i<b then vT i else lv d (l.getD (i-b) (vT 0))) (f:=fun _ l=>fT l) 0 0 (fun b i=>?_) (fun b l=>Ij _ _) t 0
 ·simp only[q_jp] at h1;refine h1.trans (Auo ht (fun b i hi hb=>?_));unfold ivI;split
  ·rfl
  ·have Ag:i-b<l.length:=by omega
   rw[q_ji,q_f Ag,q_j,q_f Ag];rfl
 ·simp only[q_jp];unfold alv
  by_cases h:i<b
  ·rw[if_pos h,Cz,if_pos h];unfold lvv;rw[if_pos h]
  ·rw[if_neg h,if_neg h];exact Ari d b _
def A8f(d n q:Nat):(Ea d n)[q]?=if q<n then some (fT ((d+n-1-q:Nat):Int)) else none:=by
 induction n generalizing q with
 |zero=>simp[Ea]
 |succ n ih=>
  cases q with
  |zero=>simp[Ea]
  |succ q=>
   rw[Ea,q_kf,ih]
   by_cases h:q<n
   ·rw[if_pos h,if_pos (by omega),show d+n-1-q=d+(n+1)-1-(q+1) by omega]
   ·rw[if_neg h,if_neg (by omega)]
def Aj1(d b:Nat)(t:Tm):Bc (Ea d b) 0 (lvB d b t)=lv (d+b) t:=by
 have h:=Ox (v1:=lvv d) (f1:=fun _ l=>fT l) (v2:=ivI (Ea d b)) (f2:=fun _ l=>fT l) (v:=lvv (d+b)) (f:=fun _ l=>fT l) b 0 (fun b' i=>?_) (fun b l=>Ij _ _) t 0
 ·simpa [lvB,lv,Bc] using h
 ·rw[q_jp];unfold lvv ivI
  by_cases h:i<b'
  ·rw[if_pos (by omega),Cz,if_pos h,if_pos h]
  ·by_cases h':i<b'+b
   ·rw[if_pos h',Cz,if_neg h,if_neg h,A8f,if_pos (by omega)];simp only;congr 1;omega
   ·rw[if_neg h',Ij,if_neg h];congr 1;omega
def Agr{v:Nat->Nat->Tm}{f:Nat->Int->Tm}{b:Nat}{k:Int}{X:Nat->Tm->Option Tm}:∀{l:List Tm} {p:Nat},(∀(q:Nat) t,l[q]?=some t->X (p+q) t=some (trT v f (b+bnd k (p+q)) t))->Co X p l=some (trL v f b k p l):=by
 intro l
 induction l with
 |nil=>intro p _;rw[trL];rfl
 |cons t l ih=>
  intro p h;have h0:=h 0 t rfl;rw[q_jp] at h0;rw[Co,h0,trL,ih (p:=p+1) (fun q t ht=>by have:=h (q+1) t (by simpa using ht);rwa [show p+(q+1)=p+1+q by omega] at this)]
def Aew{B k:Nat}{t:Tm}(h:Sf B t):∀{fr:Nat},B+dpt t+k<=2147483647->Gc (k:Int) (fr:Int) t=some (trT (lfv k) (fun _ l=>fT l) fr t):=by
 induction h with
 |@var B i h=>
  intro fr hb;rw[Cz,vT,Ajo];unfold Nr lfv
  by_cases hi:fr<=i
  ·rw[if_pos ⟨rfl,by omega⟩,if_neg (by omega),if_neg (by omega)];simp[Co,vT]
  ·rw[if_neg (by omega),if_pos (by omega)];simp[Co,vT]
 |@nd B k' i j n l h2 h0 hf hl hk ih=>
  intro fr hb;rw[Ev h2 h0,Ajo];unfold Nr;rw[if_neg (fun c=>h2 c.1)];simp only[Option.bind_some];rw[Agr (v:=lfv k) (f:=fun _ l=>fT l) (b:=fr) (k:=k') (fun q t ht=>?_)]
  ·rfl
  ·rw[Zi,q_jg,<-Int.natCast_add];have:=Lu (k:=k') (i:=i) (j:=j) (n:=n) ht;exact ih q t ht (by omega)
def Bge{B C:Nat}{t u:Tm}(h:Sf B t)(hu:Sf C u):∀{d:Nat},C+dpt u+(d+dpt t)<=2147483647->Iu u (d:Int) t=some (trT (ptv u) (fun _ l=>fT l) d t):=by
 induction h with
 |@var B i h=>
  intro d hb;rw[Cz];unfold ptv
  by_cases h1:i<d
  ·rw[if_pos h1,vT,Afk (by omega)];simp[Co]
  ·rw[if_neg h1];unfold vT;rw[Akd ⟨rfl,by omega⟩]
   by_cases h2:i=d
   ·subst h2;rw[if_pos rfl,if_pos rfl];exact Aew (fr:=0) hu (by omega)
   ·rw[if_neg (by omega),if_neg h2,vr,show ((i-1:Nat):Int)=(i:Int)-1 by omega]
 |@nd B k' i j n l h2 h0 hf hl hk ih=>
  intro d hb;rw[Ev h2 h0,Afk (fun c=>h2 c.1),Agr (v:=ptv u) (f:=fun _ l=>fT l) (b:=d) (k:=k') (fun q t ht=>?_)]
  ·rfl
  ·rw[Zi,q_jg,<-Int.natCast_add];have:=Lu (k:=k') (i:=i) (j:=j) (n:=n) ht;exact ih q t ht (by omega)
def Bm(B:BT)(t:Tm):Option Tm:=
 if t.k=15/\(Ap t 0).k=14 then some (Lk (Ap t 1) (Ap (Ap t 0) 1))
 else if t.k=18/\(Ap t 0).k=17 then some (Ap (Ap t 0) 2)
 else if t.k=19/\(Ap t 0).k=17 then some (Ap (Ap t 0) 3)
 else if t.k=22/\(Ap t 5).k=21 then some (Ap t 3)
 else if t.k=23 then (B t.n t.i t.j).map (fun b=>Kp t.kids.reverse b) else none
def axP(B:BT):Ax (Bm B):=by
 refine⟨fun t u h=>?_⟩;unfold Bm at h;unfold isV stk;split at h
 ·rename_i c;exact .inr ⟨0,by rw[if_pos (by omega)],by omega⟩
 split at h
 ·rename_i c;exact .inr ⟨0,by rw[if_pos (by omega)],by omega⟩
 split at h
 ·rename_i c;exact .inr ⟨0,by rw[if_pos (by omega)],by omega⟩
 split at h
 ·rename_i c;exact .inr ⟨5,by rw[if_neg (by omega),if_pos (by omega)],by omega⟩
 split at h
 ·rename_i c;exact .inl c
 ·cases h
def Bz(B:BT):Prop:=∀n i j b,B n i j=some b->Sf (Bv 23 n).toNat b
section
variable{B:BT}{C d:Nat}
def Ho{C:Nat}{t:Tm}(h:Sf C t){p:Nat}(hp:p<t.kids.length):Sf (C+bnd t.k p) (Ap t p):=by
 cases t with
 |mk k i j n l=>
  have hp':p<l.length:=hp;have hl:l[p]?=some l[p]:=q_f hp';have:Ap (.mk k i j n l) p=l[p]:=by unfold Ap;rw[show (Tm.mk k i j n l).kids=l from rfl,q_j,hl];rfl
  rw[this];exact h.kid hl
def sf_k{C:Nat}{t:Tm}(h:Sf C t):t.k≠0:=by
 cases h with
 |var h=>exact k_ne (by decide)
 |nd _ _ _ _ h0=>exact h0
def Hg{C:Nat}{t:Tm}(h:Sf C t)(h2:t.k≠2):(t.kids.length:Int)=Bv t.k t.n:=by
 cases t with
 |mk k i j n l=>exact (h.node h2).2.2
def lv_k{t:Tm}(h:Sf C t)(h2:t.k≠2):(lv d t).k=t.k/\(lv d t).i=t.i/\(lv d t).j=t.j/\(lv d t).n=t.n/\(lv d t).kids.length=t.kids.length:=by
 have h0:=sf_k h;cases t with
 |mk k i j n l=>
  unfold lv;rw[Wp (show k≠2 from h2) (show k≠0 from h0)];exact⟨rfl,rfl,rfl,rfl,Mu _ _ _ _⟩
def Wq{t:Tm}(h:Sf C t)(h2:t.k=2):∃i:Nat,t=vT i/\lv d t=fT ((d:Int)-1-i):=by
 cases t with
 |mk k i j n l=>
  have:k=2:=h2;subst this;obtain⟨q,rfl,rfl,rfl,rfl,_⟩:=h.vr;refine⟨q,rfl,?_⟩;show lv d (vT q)=_;unfold lv lvB;rw[Cz,lvv,if_neg (by omega),q_kr]
def Nt{t:Tm}(h:Sf C t)(h2:t.k≠2){p:Nat}(hp:p<t.kids.length):Ap (lv d t) p=lvB d (bnd t.k p) (Ap t p):=by
 have h0:=sf_k h;cases t with
 |mk k i j n l=>
  have hp':p<l.length:=hp;unfold lv;rw[Wp (show k≠2 from h2) (show k≠0 from h0)];unfold Ap;simp only[Tm.kids,Tm.k,q_j];rw[Fm,q_f hp'];simp only[q_jh,q_jz,q_jg];rfl
def Aey{t:Tm}(h:Sf C t)(h2:t.k≠2){p:Nat}(hp:p<t.kids.length)(hb:bnd t.k p=0){c:Int}(hc:c≠0/\c≠2):((Ap (lv d t) p).k=c↔(Ap t p).k=c):=by
 rw[Nt h h2 hp,hb];have hs:=Ho h hp;rw[hb,q_jp] at hs
 by_cases hk:(Ap t p).k=2
 ·obtain⟨i,e1,e2⟩:=Wq (d:=d) hs hk;rw[show lvB d 0 (Ap t p)=lv d (Ap t p) from rfl,e2,hk];constructor
  ·intro e;exact absurd e.symm hc.1
  ·intro e;exact absurd e.symm hc.2
 ·rw[show lvB d 0 (Ap t p)=lv d (Ap t p) from rfl,(lv_k (d:=d) hs hk).1]
def Be3{t:Tm}(h:t.k=15):plD B t=if (Ap t 0).k=14 then some (Bc [Ap t 1] 0 (Ap (Ap t 0) 1)) else none:=by simp[plD,plW,h]
def Be4{t:Tm}(h:t.k=18):plD B t=if (Ap t 0).k=17 then some (Ap (Ap t 0) 2) else none:=by simp[plD,plW,h]
def Be5{t:Tm}(h:t.k=19):plD B t=if (Ap t 0).k=17 then some (Ap (Ap t 0) 3) else none:=by simp[plD,plW,h]
def Be6{t:Tm}(h:t.k=22):plD B t=if (Ap t 5).k=21 then some (Ap t 3) else none:=by simp[plD,plW,h]
def Be7{t:Tm}(h:t.k=23):plD B t=(B t.n t.i t.j).map (fun b=>Bc t.kids.reverse 0 b):=by simp[plD,h]
def Asn{t:Tm}(h:t.k≠15/\t.k≠18/\t.k≠19/\t.k≠22/\t.k≠23):plD B t=none:=by simp[plD,plW,h]
def Nw{t:Tm}(h:t.k=15):Bm B t=if (Ap t 0).k=14 then some (Lk (Ap t 1) (Ap (Ap t 0) 1)) else none:=by simp[Bm,h]
def Qf{t:Tm}(h:t.k=18):Bm B t=if (Ap t 0).k=17 then some (Ap (Ap t 0) 2) else none:=by simp[Bm,h]
def Qg{t:Tm}(h:t.k=19):Bm B t=if (Ap t 0).k=17 then some (Ap (Ap t 0) 3) else none:=by simp[Bm,h]
def Rm{t:Tm}(h:t.k=22):Bm B t=if (Ap t 5).k=21 then some (Ap t 3) else none:=by simp[Bm,h]
def Ro{t:Tm}(h:t.k=23):Bm B t=(B t.n t.i t.j).map (fun b=>Kp t.kids.reverse b):=by simp[Bm,h]
def Gz{t:Tm}(h:t.k≠15/\t.k≠18/\t.k≠19/\t.k≠22/\t.k≠23):Bm B t=none:=by simp[Bm,h]
def Aj9(hB:Bz B){t:Tm}(h:Sf C t):plD B (lv d t)=(Bm B t).map (lv d):=by
 by_cases h2:t.k=2
 ·obtain⟨i,e1,e2⟩:=Wq (d:=d) h h2;rw[e2,Gz (by omega),Asn (by unfold fT;simp[Tm.k])];rfl
 have hl:=Hg h h2;obtain⟨a1,a2,a3,a4,a5⟩:=lv_k (d:=d) h h2
 by_cases Ey:t.k=15
 ·rw[Ey,kids15] at hl;have b0:bnd t.k 0=0:=by rw[Ey];decide
  have b1:bnd t.k 1=0:=by rw[Ey];decide
  have hk:=Aey (d:=d) (p:=0) h h2 (by omega) b0 (c:=14) (by decide);rw[Be3 (a1.trans Ey),Nw Ey]
  by_cases c:(Ap t 0).k=14
  ·rw[if_pos (hk.2 c),if_pos c,q_jh];have Hk:=Ho (p:=0) h (by omega);rw[b0,q_jp] at Hk;have Eu:=Hg Hk (by omega);rw[c,kids14] at Eu;rw[Bgi,Nt h h2 (by omega),Nt h h2 (by omega),b0,b1,show lvB d 0 (Ap t 0)=lv d (Ap t 0) from rfl,Nt Hk (by omega) (by omega),c];rfl
  ·rw[if_neg (fun e=>c (hk.1 e)),if_neg c];rfl
 by_cases Fh:t.k=18
 ·rw[Fh,kids18] at hl;have b0:bnd t.k 0=0:=by rw[Fh];decide
  have hk:=Aey (d:=d) (p:=0) h h2 (by omega) b0 (c:=17) (by decide);rw[Be4 (a1.trans Fh),Qf Fh]
  by_cases c:(Ap t 0).k=17
  ·rw[if_pos (hk.2 c),if_pos c,q_jh];have Hk:=Ho (p:=0) h (by omega);rw[b0,q_jp] at Hk;have Eu:=Hg Hk (by omega);rw[c,kids17] at Eu;rw[Nt h h2 (by omega),b0,show lvB d 0 (Ap t 0)=lv d (Ap t 0) from rfl,Nt Hk (by omega) (by omega),c];rfl
  ·rw[if_neg (fun e=>c (hk.1 e)),if_neg c];rfl
 by_cases Fi:t.k=19
 ·rw[Fi,kids19] at hl;have b0:bnd t.k 0=0:=by rw[Fi];decide
  have hk:=Aey (d:=d) (p:=0) h h2 (by omega) b0 (c:=17) (by decide);rw[Be5 (a1.trans Fi),Qg Fi]
  by_cases c:(Ap t 0).k=17
  ·rw[if_pos (hk.2 c),if_pos c,q_jh];have Hk:=Ho (p:=0) h (by omega);rw[b0,q_jp] at Hk;have Eu:=Hg Hk (by omega);rw[c,kids17] at Eu;rw[Nt h h2 (by omega),b0,show lvB d 0 (Ap t 0)=lv d (Ap t 0) from rfl,Nt Hk (by omega) (by omega),c];rfl
  ·rw[if_neg (fun e=>c (hk.1 e)),if_neg c];rfl
 by_cases Dv:t.k=22
 ·rw[Dv,kids22] at hl;have b5:bnd t.k 5=0:=by rw[Dv];decide
  have b3:bnd t.k 3=0:=by rw[Dv];decide
  have hk:=Aey (d:=d) (p:=5) h h2 (by omega) b5 (c:=21) (by decide);rw[Be6 (a1.trans Dv),Rm Dv]
  by_cases c:(Ap t 5).k=21
  ·rw[if_pos (hk.2 c),if_pos c,q_jh];rw[Nt h h2 (by omega),b3];rfl
  ·rw[if_neg (fun e=>c (hk.1 e)),if_neg c];rfl
 by_cases Cs:t.k=23
 ·rw[Be7 (a1.trans Cs),Ro Cs,a2,a3,a4];cases hb:B t.n t.i t.j with
  |none=>rfl
  |some b=>
   simp only[q_jh];congr 1;have hbs:=hB _ _ _ _ hb;rw[Cs] at hl;rw[Av7 d (l:=t.kids.reverse) (t:=b) (by rw[List.length_reverse,show t.kids.length=(Bv 23 t.n).toNat by omega];exact hbs),List.map_reverse];congr 2;cases t with
   |mk k i j n l=>
    have hk:k=23:=Cs;subst hk;unfold lv;rw[Wp (by decide) (by decide)];simp only[Tm.kids];apply List.ext_getElem?;intro q;rw[Fm,q_ji,bnd23];rfl
 ·rw[Asn (by omega),Gz (by omega)];rfl
end
section
variable{B:BT}{C d:Nat}
def Bh0{t u:Tm}{p:Nat}(h:Sf C t)(h2:t.k≠2)(hu:Sf (C+bnd t.k p) u):Sf C (Cd t p u):=by
 have h0:=sf_k h;cases t with
 |mk k i j n l=>
  obtain⟨_,hf,hl⟩:=h.node h2;refine .nd i j n h2 h0 hf (by simp only[Tm.kids,q_ki];exact hl) (fun q t ht=>?_);simp only[Tm.kids] at ht
  by_cases e:p=q
  ·subst e;have Ag:=Dh ht;rw[q_ki] at Ag;rw[q_jq Ag,q_b] at ht;subst ht;exact hu
  ·rw[q_jc e] at ht;exact h.kid ht
def Rr{t:Tm}(h:Sf C t){p:Nat}(hp:stk t.k=some p):t.k≠2/\t.k≠0/\p<t.kids.length/\bnd t.k p=0:=by
 have h1:=Mr hp;have h2:t.k≠2:=by omega
 have hl:=Hg h h2;refine⟨h2,by omega,?_,Agv hp⟩;unfold stk at hp;split at hp
 ·rename_i c;cases hp;rcases c with c|c|c<;>(rw[c] at hl;first|(rw[kids15] at hl;omega)|(rw[kids18] at hl;omega)|(rw[kids19] at hl;omega))
 ·split at hp
  ·rename_i c;cases hp;rw[c,kids22] at hl;omega
  ·cases hp
def Bcr{t u:Tm}(h:Sf C t){p:Nat}(hp:stk t.k=some p):lv d (Cd t p u)=Cd (lv d t) p (lv d u):=by
 obtain⟨h2,h0,hl,hb⟩:=Rr h hp;cases t with
 |mk k i j n l=>
  have Fj:k≠2:=h2;have Iw:k≠0:=h0;have Dg:bnd k p=0:=hb;have Kd:p<l.length:=hl;unfold lv Cd;simp only[Tm.k,Tm.i,Tm.j,Tm.n,Tm.kids];rw[Wp Fj Iw,Wp Fj Iw];simp only[Tm.kids];congr 1;apply List.ext_getElem?;intro q;rw[Fm]
  by_cases e:p=q
  ·subst e;rw[q_jq Kd,q_jq (by rw[Mu];exact Kd),q_jh,q_jg,q_jg,Dg];rfl
  ·rw[q_jc e,q_jc e,Fm]
def Aiz(hB:Bz B){t u:Tm}(hs:HS (Bm B) t u):∀{C:Nat},Sf C t->HS (plD B) (lv d t) (lv d u):=by
 induction hs with
 |@here t u h=>intro C ht;exact .here (by rw[Aj9 hB ht,h];rfl)
 |@down t u p h hp hs ih=>
  intro C ht;obtain⟨h2,h0,hl,hb⟩:=Rr ht hp;have hk:=Ho ht hl;rw[hb,q_jp] at hk;rw[Bcr ht hp];refine .down (by rw[Aj9 hB ht,h];rfl) (by rw[(lv_k (d:=d) ht h2).1];exact hp) ?_;rw[Nt ht h2 hl,hb];exact ih hk
def Ap1(hB:Bz B){t:Tm}(hn:HN (Bm B) t):∀{C:Nat},Sf C t->HN (plD B) (lv d t):=by
 induction hn with
 |@mk t h hk ih=>
  intro C ht
  by_cases h2:t.k=2
  ·obtain⟨i,e1,e2⟩:=Wq (d:=d) ht h2;rw[e2];exact Yf _
  refine .mk (by rw[Aj9 hB ht,h];rfl) (fun p hp=>?_);rw[(lv_k (d:=d) ht h2).1] at hp;obtain⟨_,h0,hl,hb⟩:=Rr ht hp;have hs:=Ho ht hl;rw[hb,q_jp] at hs;rw[Nt ht h2 hl,hb];exact ih p hp hs
def Afy{C:Nat}{u:Tm}(h:Sf C u)(k:Nat):Sf (C+k) (Ct k u):=by
 unfold Ct;refine Akn h (fun b' i _ hi=>?_);unfold lfv;split
 ·exact .var (by omega)
 ·exact .var (by omega)
def Bhz{C:Nat}{t u:Tm}(ht:Sf (C+1) t)(hu:Sf C u):Sf C (Lk u t):=by
 unfold Lk;refine Akn ht (fun b' i _ hi=>?_);unfold ptv;split
 ·exact .var (by omega)
 ·split
  ·have:=Afy hu b'
   rwa [q_kr]
  ·exact .var (by omega)
def Bhw{C m:Nat}{t:Tm}{l:List Tm}(ht:Sf m t)(hm:m<=l.length)(hl:∀u∈l,Sf C u):Sf C (Kp l t):=by
 unfold Kp;refine Akn ht (fun b' i _ hi=>?_);unfold alv;split
 ·exact .var (by omega)
 ·have Ag:i-b'<l.length:=by omega
  rw[q_j,q_f Ag];have:=Afy (hl _ (q_kd Ag)) b'
  rwa [q_kr]
def Att(hB:Bz B){t u:Tm}(h:Bm B t=some u)(ht:Sf C t):Sf C u:=by
 have h2:t.k≠2:=fun e=>by rw[Gz (by omega)] at h;cases h
 have hl:=Hg ht h2
 by_cases Ey:t.k=15
 ·rw[Nw Ey] at h;split at h
  ·rename_i c;cases h;rw[Ey,kids15] at hl;have Hk:=Ho (p:=0) ht (by omega);have Fk:=Ho (p:=1) ht (by omega);rw[Ey,show bnd 15 0=0 by decide,q_jp] at Hk;rw[Ey,show bnd 15 1=0 by decide,q_jp] at Fk;have Eu:=Hg Hk (by omega);rw[c,kids14] at Eu;have hb:=Ho (p:=1) Hk (by omega);rw[c,show bnd 14 1=1 by decide] at hb;exact Bhz hb Fk
  ·cases h
 by_cases Fh:t.k=18
 ·rw[Qf Fh] at h;split at h
  ·rename_i c;cases h;rw[Fh,kids18] at hl;have Hk:=Ho (p:=0) ht (by omega);rw[Fh,show bnd 18 0=0 by decide,q_jp] at Hk;have Eu:=Hg Hk (by omega);rw[c,kids17] at Eu;have hb:=Ho (p:=2) Hk (by omega)
   rwa [c,show bnd 17 2=0 by decide,q_jp] at hb
  ·cases h
 by_cases Fi:t.k=19
 ·rw[Qg Fi] at h;split at h
  ·rename_i c;cases h;rw[Fi,kids19] at hl;have Hk:=Ho (p:=0) ht (by omega);rw[Fi,show bnd 19 0=0 by decide,q_jp] at Hk;have Eu:=Hg Hk (by omega);rw[c,kids17] at Eu;have hb:=Ho (p:=3) Hk (by omega)
   rwa [c,show bnd 17 3=0 by decide,q_jp] at hb
  ·cases h
 by_cases Dv:t.k=22
 ·rw[Rm Dv] at h;split at h
  ·cases h;rw[Dv,kids22] at hl;have hb:=Ho (p:=3) ht (by omega)
   rwa [Dv,show bnd 22 3=0 by decide,q_jp] at hb
  ·cases h
 by_cases Cs:t.k=23
 ·rw[Ro Cs] at h;cases hb:B t.n t.i t.j with
  |none=>rw[hb] at h;cases h
  |some b=>
   rw[hb,q_jh,q_b] at h;subst h;rw[Cs] at hl;refine Bhw (hB _ _ _ _ hb) (by rw[List.length_reverse];omega) (fun u hu=>?_);rw[List.mem_reverse] at hu;obtain⟨q,hq,rfl⟩:=List.getElem_of_mem hu;have:=Ho (p:=q) ht hq;rw[Cs,bnd23,q_jp] at this;cases t with
   |mk k i j n l=>
    have Nn:q<l.length:=hq;have e:Ap (.mk k i j n l) q=l[q]:=by unfold Ap;rw[show (Tm.mk k i j n l).kids=l from rfl,q_j,q_f Nn];rfl
    rw[e] at this;exact this
 ·rw[Gz (by omega)] at h;cases h
def Ab3(hB:Bz B){t u:Tm}(hs:HS (Bm B) t u):∀{C:Nat},Sf C t->Sf C u:=by
 induction hs with
 |here h=>intro C ht;exact Att hB h ht
 |@down t u p h hp hs ih=>
  intro C ht;obtain⟨h2,h0,hl,hb⟩:=Rr ht hp;have hk:=Ho ht hl;rw[hb,q_jp] at hk;refine Bh0 ht h2 ?_;rw[hb,q_jp];exact ih hk
end
inductive PHd(B:BT):Nat->Tm->Nat->Bool->Tm->Prop
 |stop {N:Nat} {t:Tm} (h:HN (Bm B) t):PHd B N t N false t
 |out {N:Nat} {t u:Tm} (h:HS (Bm B) t u) (ho:4000<N+1\/4000<tsz u):PHd B N t (N+1) true u
 |step {N N':Nat} {t u t':Tm} {o:Bool} (h:HS (Bm B) t u) (h1:N+1<=4000) (h2:tsz u<=4000) (hr:PHd B (N+1) u N' o t'):PHd B N t N' o t'
inductive PNx(B:BT):(Tm ⊕ List Tm)->Nat->Bool->Nat->Bool->(Tm ⊕ List Tm)->Prop
 |tm {t t1:Tm} {N N1 N2:Nat} {o1 o2:Bool} {rs:List Tm} (h:PHd B N t N1 o1 t1) (hk:PNx B (.inr t1.kids) N1 o1 N2 o2 (.inr rs)):PNx B (.inl t) N false N2 o2 (.inl (.mk t1.k t1.i t1.j t1.n rs))
 |nil {N:Nat} {o:Bool}:PNx B (.inr []) N o N o (.inr [])
 |out {a:Tm} {l:List Tm} {N:Nat}:PNx B (.inr (a::l)) N true N true (.inr [])
 |cons {a r:Tm} {l rs:List Tm} {N N1 N2:Nat} {o1 o2:Bool} (h:PNx B (.inl a) N false N1 o1 (.inl r)) (hl:PNx B (.inr l) N1 o1 N2 o2 (.inr rs)):PNx B (.inr (a::l)) N false N2 o2 (.inr (r::rs))
section
variable{B:BT}
def Afc{N N':Nat}{t t':Tm}{o:Bool}(h:PHd B N t N' o t'):N<=N':=by
 induction h with
 |stop=>exact q_ja _
 |out=>omega
 |step _ _ _ _ ih=>omega
def Bey(hB:Bz B){d N N':Nat}{t t':Tm}{o:Bool}(h:PHd B N t N' o t')(ho:o=false):∀{C:Nat},Sf C t->Sf C t'/\∃n,N'=N+n/\HR (plD B) n (lv d t) (lv d t')/\HN (plD B) (lv d t'):=by
 induction h with
 |stop h=>intro C ht;exact⟨ht,0,rfl,.refl _,Ap1 hB h ht⟩
 |out=>cases ho
 |step h _ _ _ ih=>
  intro C ht;obtain⟨a,n,e,r,k⟩:=ih ho (Ab3 hB h ht);exact⟨a,n+1,by omega,.step (Aiz hB h ht) r,k⟩
def NRl(B:BT)(d:Nat)(k:Int)(p:Nat)(l:List Tm)(Ns:List Nat)(rs:List Tm):Prop:=Ns.length=l.length/\rs.length=l.length/\∀(q:Nat) t N r,l[q]?=some t->Ns[q]?=some N->rs[q]?=some r->NR B (d+bnd k (p+q)) (lv (d+bnd k (p+q)) t) N r
def o6{x y:Tm ⊕ List Tm}{N N':Nat}{o o':Bool}(h:PNx B x N o N' o' y)(ho':o'=false):o=false:=by
 cases h with
 |tm=>rfl
 |nil=>exact ho'
 |out=>exact ho'
 |cons=>rfl
def Asu(hB:Bz B){x y:Tm ⊕ List Tm}{N N':Nat}{o o':Bool}(h:PNx B x N o N' o' y)(ho':o'=false) :
  (∀t r,x=.inl t->y=.inl r->∀d C,Sf C t->∃n,N'=N+n/\NR B d (lv d t) n r) /\
  (∀l rs,x=.inr l->y=.inr rs->∀(d:Nat) (k:Int) (p C:Nat),(∀(q:Nat) t,l[q]?=some t->Sf (C+bnd k (p+q)) t)->∃Ns,N'=N+Ns.sum/\NRl B d k p l Ns rs):=by
 induction h with
 |@tm t t1 N N1 N2 o1 o2 rs h hk ih=>
  have Hw:=o6 hk ho';refine⟨fun t' r e1 e2 d C hs=>?_,fun l rs' e=>by cases e⟩;cases e1;cases e2;obtain⟨a,n,e,r1,k1⟩:=Bey hB (d:=d) h Hw hs
  by_cases h2:t1.k=2
  ·obtain⟨i,c1,c2⟩:=Wq (d:=d) a h2;subst c1;rw[c2] at r1;have hk':PNx B (.inr []) N1 o1 N2 o2 (.inr rs):=hk;cases hk';refine⟨n,e,?_⟩;have:=NR.fv (B:=B) (d:=d) r1
   rwa [show (d:Int)-1-((d:Int)-1-(i:Int))=i by omega] at this
  ·obtain⟨Ns,e3,hl⟩:=(ih ho').2 t1.kids rs rfl rfl d t1.k 0 C (fun q u hu=>by
    rw[q_jg];cases t1 with
    |mk k i j n' l=>exact a.kid hu)
   refine⟨n+Ns.sum,by omega,?_⟩;have h0:=sf_k a;cases t1 with
   |mk k i j n' l=>
    have Fj:k≠2:=h2;have Iw:k≠0:=h0;unfold lv at r1 k1;rw[Wp Fj Iw] at r1 k1;obtain⟨q1,q2,q3⟩:=hl;simp only[Tm.kids] at q1 q2 q3;refine .nd r1 k1 Iw (by rw[Mu];exact q1) (by rw[Mu];exact q2) (fun p u N r hu hN hr=>?_);rw[Fm,q_jg,q_jg] at hu;cases hq:l[p]? with
    |none=>rw[hq] at hu;cases hu
    |some u0=>
     rw[hq,q_jh,q_b] at hu;subst hu;have:=q3 p u0 N r hq hN hr;rw[q_jg] at this;have e4:=Aj1 d (bnd k p) u0;unfold lvB at e4;show NR B (d+bnd k p) (Bc (Ea d (bnd k p)) 0 (trT (lvv d) (fun _ l=>fT l) (bnd k p) u0)) N r;rw[e4];exact this
 |nil=>exact⟨fun t r e=>(by cases e),fun l rs e1 e2 d k p C _=>by cases e1;cases e2;exact⟨[],rfl,rfl,rfl,fun q t N r ht=>by cases ht⟩⟩
 |out=>cases ho'
 |@cons a r l rs N N1 N2 o1 o2 h hl ih1 ih2=>
  have Hw:=o6 hl ho';refine⟨fun t r e=>(by cases e),fun l' rs' e1 e2 d k p C hs=>?_⟩;cases e1;cases e2;have h0:=hs 0 a rfl;obtain⟨n,e3,hr⟩:=(ih1 Hw).1 a r rfl rfl (d+bnd k (p+0)) _ h0;obtain⟨Ns,e4,q1,q2,q3⟩:=(ih2 ho').2 l rs rfl rfl d k (p+1) C (fun q t ht=>by have:=hs (q+1) t (by simpa using ht);rwa [show p+(q+1)=p+1+q by omega] at this);refine⟨n::Ns,by simp only[List.sum_cons];omega,by simp[q1],by simp[q2],fun q t N r ht hN Fu=>?_⟩;cases q with
  |zero=>
   simp only[q_jv,q_b] at ht hN Fu;subst ht hN Fu;exact hr
  |succ q=>
   have:=q3 q t N r (by simpa using ht) (by simpa using hN) (by simpa using Fu)
   rwa [show p+1+q=p+(q+1) by omega] at this
def Asf(hB:Bz B){t r:Tm}{N C:Nat}(h:PNx B (.inl t) 0 false N false (.inl r))(ht:Sf C t):NR B 0 (Bc [] 0 t) N r:=by
 obtain⟨n,e,hn⟩:=(Asu hB h rfl).1 t r rfl rfl 0 C ht;rw[lv_0] at hn;rw[e,q_jg];exact hn
end
abbrev FF:Nat->Int->Tm:=fun _ l=>fT l
def sv(σ:Nat->Tm)(b i:Nat):Tm:=if i<b then vT i else Ct b (σ (i-b))
def Ab5(σ:Nat->Tm)(b:Nat)(t:Tm):Tm:=trT (sv σ) FF b t
def Arf(b i:Nat):Ct b (vT i)=vT (i+b):=by
 unfold Ct;rw[Cz];unfold lfv;rw[if_neg (by omega)]
def shf(k:Nat)(i:Nat):Tm:=vT (i+k)
def Akt(k:Nat):sv (shf k)=lfv k:=by
 funext b i;unfold sv lfv shf
 by_cases h:i<b
 ·rw[if_pos h,if_pos h]
 ·rw[if_neg h,if_neg h,Arf];congr 1;omega
def As0(u:Tm):Nat->Tm
 |0=>u
 |i+1=>vT i
def Bik(u:Tm):sv (As0 u)=ptv u:=by
 funext b i;unfold sv ptv
 by_cases h:i<b
 ·rw[if_pos h,if_pos h]
 ·rw[if_neg h,if_neg h]
  by_cases h':i=b
  ·subst h';rw[if_pos rfl,Nat.sub_self];rfl
  ·rw[if_neg h'];obtain⟨q,rfl⟩:∃q,i=b+(q+1):=⟨i-b-1,by omega⟩
   rw[show b+(q+1)-b=q+1 by omega];show Ct b (vT q)=_;rw[Arf];congr 1;omega
def Alz(l:List Tm)(i:Nat):Tm:=l.getD i (vT 0)
def Arh(k:Nat)(t:Tm):Ct k t=Ab5 (shf k) 0 t:=by unfold Ab5;rw[Akt];rfl
def As6(u t:Tm):Lk u t=Ab5 (As0 u) 0 t:=by unfold Ab5;rw[Bik];rfl
def Al0(l:List Tm)(t:Tm):Kp l t=Ab5 (Alz l) 0 t:=rfl
def Ajp(σ:Nat->Tm)(b c:Nat)(u:Tm):trT (sv σ) FF (c+b) (Ct c u)=Ct c (trT (sv σ) FF b u):=by
 have h1:=Ox (v1:=lfv c) (f1:=FF) (v2:=sv σ) (f2:=FF) (v:=fun d i=>if i<d then vT i else if i<d+b then vT (i+c) else Ct (d+b+c) (σ (i-d-b))) (f:=FF) 0 (c+b) (fun d i=>?_) (fun _ _=>Ij _ _) u 0
 ·have h2:=Ox (v1:=sv σ) (f1:=FF) (v2:=lfv c) (f2:=FF) (v:=fun d i=>if i<d then vT i else if i<d+b then vT (i+c) else Ct (d+b+c) (σ (i-d-b))) (f:=FF) b 0 (fun d i=>?_) (fun _ _=>Ij _ _) u 0
  ·simp only[q_jp,q_jg] at h1 h2;exact h1.trans h2.symm
  ·rw[q_jp];unfold sv
   by_cases h:i<d
   ·rw[if_pos (by omega),Cz,if_pos h];unfold lfv;rw[if_pos h]
   ·by_cases h':i<d+b
    ·rw[if_pos h',Cz,if_neg h,if_pos h'];unfold lfv;rw[if_neg h]
    ·rw[if_neg h',if_neg h,if_neg h',show i-(d+b)=i-d-b by omega];have:=Ox (v1:=lfv (d+b)) (f1:=FF) (v2:=lfv c) (f2:=FF) (v:=lfv (d+b+c)) (f:=FF) 0 d (fun e q=>?_) (fun _ _=>Ij _ _) (σ (i-d-b)) 0
     ·simpa [Ct] using this
     ·rw[q_jp];unfold lfv
      by_cases h:q<e
      ·rw[if_pos h,Cz,if_pos (by omega),if_pos h]
      ·rw[if_neg h,Cz,if_neg (by omega),if_neg h];congr 1;omega
 ·rw[q_jp];unfold lfv
  by_cases h:i<d
  ·rw[if_pos h,Cz,if_pos h];unfold sv;rw[if_pos (by omega)]
  ·rw[if_neg h,Cz,if_neg h];unfold sv
   by_cases h':i<d+b
   ·rw[if_pos (by omega),if_pos h']
   ·rw[if_neg (by omega),if_neg h',show d+(c+b)=d+b+c by omega,show i+c-(d+b+c)=i-d-b by omega]
def Bgh(u s:Tm)(c m:Nat):trT (ptv u) FF c (Ct (c+1+m) s)=Ct (c+m) s:=by
 have h1:=Ox (v1:=lfv (c+1+m)) (f1:=FF) (v2:=ptv u) (f2:=FF) (v:=lfv (c+m)) (f:=FF) 0 c (fun d i=>?_) (fun _ _=>Ij _ _) s 0
 ·simpa [Ct] using h1
 ·simp only[q_jp];unfold lfv
  by_cases h:i<d
  ·rw[if_pos h,Cz,if_pos h];unfold ptv;rw[if_pos (by omega)]
  ·rw[if_neg h,Cz,if_neg h];unfold ptv;rw[if_neg (by omega),if_neg (by omega)];congr 1;omega
def Big(σ:Nat->Tm)(b:Nat)(u a:Tm):trT (sv σ) FF b (Lk u a)=Lk (trT (sv σ) FF b u) (trT (sv σ) FF (b+1) a):=by
 have h1:=Ox (v1:=ptv u) (f1:=FF) (v2:=sv σ) (f2:=FF) (v:=fun d i=>if i<d then vT i else if i=d then Ct d (trT (sv σ) FF b u) else if i-1<d+b then vT (i-1) else Ct (d+b) (σ (i-1-d-b))) (f:=FF) 0 b (fun d i=>?_) (fun _ _=>Ij _ _) a 0
 ·have h2:=Ox (v1:=sv σ) (f1:=FF) (v2:=ptv (trT (sv σ) FF b u)) (f2:=FF) (v:=fun d i=>if i<d then vT i else if i=d then Ct d (trT (sv σ) FF b u) else if i-1<d+b then vT (i-1) else Ct (d+b) (σ (i-1-d-b))) (f:=FF) (b+1) 0 (fun d i=>?_) (fun _ _=>Ij _ _) a 0
  ·simp only[q_jp,q_jg] at h1 h2;exact h1.trans h2.symm
  ·rw[q_jp];unfold sv
   by_cases h:i<d
   ·rw[if_pos (by omega),Cz,if_pos h];unfold ptv;rw[if_pos h]
   ·by_cases h':i=d
    ·subst h';rw[if_pos (by omega),Cz,if_neg h,if_pos rfl];unfold ptv;rw[if_neg h,if_pos rfl]
    ·by_cases h3:i-1<d+b
     ·rw[if_pos (by omega),Cz,if_neg h,if_neg h',if_pos h3];unfold ptv;rw[if_neg h,if_neg h']
     ·rw[if_neg (by omega),if_neg h,if_neg h',if_neg h3,show d+(b+1)=d+1+b by omega,Bgh,show i-(d+1+b)=i-1-d-b by omega]
 ·rw[q_jp];unfold ptv
  by_cases h:i<d
  ·rw[if_pos h,Cz,if_pos h];unfold sv;rw[if_pos (by omega)]
  ·by_cases h':i=d
   ·subst h';rw[if_neg h,if_pos rfl,if_neg h,if_pos rfl];exact Ajp σ b i u
   ·rw[if_neg h,if_neg h',Cz,if_neg h,if_neg h'];unfold sv
    by_cases h3:i-1<d+b
    ·rw[if_pos h3,if_pos h3]
    ·rw[if_neg h3,if_neg h3,show i-1-(d+b)=i-1-d-b by omega]
def Bif(σ:Nat->Tm)(b:Nat)(l:List Tm){t:Tm}(ht:Sf l.length t):trT (sv σ) FF b (Kp l t)=Kp (l.map (trT (sv σ) FF b)) t:=by
 have h1:=Ox (v1:=alv l) (f1:=FF) (v2:=sv σ) (f2:=FF) (v:=fun d i=>if i<d then vT i else Ct d (trT (sv σ) FF b (l.getD (i-d) (vT 0)))) (f:=FF) 0 b (fun d i=>?_) (fun _ _=>Ij _ _) t 0
 ·simp only[q_jp,q_jg] at h1;refine h1.trans (Auo ht (fun d i hi hd=>?_));unfold alv;split
  ·rfl
  ·have Ag:i-d<l.length:=by omega
   rw[q_j,q_f Ag,q_j,q_ji,q_f Ag];rfl
 ·rw[q_jp];unfold alv
  by_cases h:i<d
  ·rw[if_pos h,Cz,if_pos h];unfold sv;rw[if_pos (by omega)]
  ·rw[if_neg h,if_neg h];exact Ajp σ b d _
mutual
def wz:Tm->Nat
 |.mk k _ _ _ l=>(if k=14\/k=17 then 8 else 1)+wzL l
def wzL:List Tm->Nat
 |[]=>0
 |t::l=>wz t+wzL l
end
def Pb(k i j n:Int)(l:List Tm):wz (.mk k i j n l)=(if k=14\/k=17 then 8 else 1)+wzL l:=by rw[wz]
def Pc(t:Tm):1<=wz t:=by
 cases t;rw[Pb];split<;>omega
def Pa{t:Tm}:∀{l:List Tm} {p:Nat},l[p]?=some t->wz t<=wzL l:=by
 intro l
 induction l with
 |nil=>intro p h;cases h
 |cons a l ih=>
  intro p h;rw[wzL];cases p with
  |zero=>simp only[q_jv,q_b] at h;subst h;omega
  |succ p=>have:=ih (p:=p) (by simpa using h);omega
def Alf{t:Tm}(h:t.k=14\/t.k=17)(p:Nat):wz (Ap t p)+7<=wz t:=by
 cases t with
 |mk k i j n l=>
  have h':k=14\/k=17:=h;rw[Pb,if_pos h'];unfold Ap;rw[q_j];show wz ((l[p]?).getD (vT 0))+7<=_;cases hq:l[p]? with
  |none=>show wz (vT 0)+7<=_;unfold vT;rw[Pb,if_neg (by decide),wzL];omega
  |some u=>have:=Pa hq;show wz u+7<=_;omega
def apT(s:Tm):Tm:=.mk 15 0 0 0 [Ct 1 s,vT 0]
def ptT(k:Int)(s:Tm):Tm:=.mk k 0 0 0 [s]
def ap0(a:Tm):Tm:=if a.k=14 then Ap a 1 else apT a
def pt0(k:Int)(p:Nat)(a:Tm):Tm:=if a.k=17 then Ap a p else ptT k a
mutual
def alk:Nat->Tm->Tm->Bool
 |0,_,_=>false
 |f+1,a,b=>if a.k=14\/b.k=14 then alk f (ap0 a) (ap0 b) else if a.k=17\/b.k=17 then alk f (pt0 18 2 a) (pt0 18 2 b) && alk f (pt0 19 3 a) (pt0 19 3 b)
  else decide (a.k=b.k/\a.i=b.i/\a.j=b.j/\a.n=b.n) && Hh f a.kids b.kids
def Hh:Nat->List Tm->List Tm->Bool
 |_,[],[]=>true
 |f,a::l,b::m=>alk f a b && Hh f l m
 |_,_,_=>false
end
def Ko(f:Nat)(a b:Tm):alk (f+1) a b=if a.k=14\/b.k=14 then alk f (ap0 a) (ap0 b) else if a.k=17\/b.k=17 then alk f (pt0 18 2 a) (pt0 18 2 b) && alk f (pt0 19 3 a) (pt0 19 3 b)
  else decide (a.k=b.k/\a.i=b.i/\a.j=b.j/\a.n=b.n) && Hh f a.kids b.kids:=by rw[alk]
def Xh(f:Nat):Hh f [] []=true:=by cases f<;>rw[Hh]
def Qo(f:Nat)(a b:Tm)(l m:List Tm):Hh f (a::l) (b::m)=(alk f a b && Hh f l m):=by cases f<;>rw[Hh]
def Ti(f:Nat)(a:Tm)(l:List Tm):Hh f (a::l) []=false:=by cases f<;>rw[Hh]<;>intros<;>contradiction
def Vg(f:Nat)(a:Tm)(l:List Tm):Hh f [] (a::l)=false:=by cases f<;>rw[Hh]<;>intros<;>contradiction
def Bca{C:Nat}{t:Tm}(h:Sf C t):∀b k,wz (trT (lfv k) (fun _ l=>fT l) b t)=wz t:=by
 induction h with
 |@var B i h=>
  intro b k;rw[Cz];unfold lfv;split<;>simp only[vT,Pb]
 |@nd B k i j n l h2 h0 hf hl hk ih=>
  intro b m;rw[Ev h2 h0,Pb,Pb];congr 1;have:∀(l':List Tm) (p:Nat),(∀(q:Nat) t,l'[q]?=some t->∀b m,wz (trT (lfv m) (fun _ l=>fT l) b t)=wz t)->wzL (trL (lfv m) (fun _ l=>fT l) b k p l')=wzL l':=by
   intro l'
   induction l' with
   |nil=>intro p _;rw[trL]
   |cons a l' ihl=>
    intro p hh;rw[trL,wzL,wzL,hh 0 a rfl,ihl (p+1) (fun q t hq=>hh (q+1) t (by simpa using hq))]
  exact this l 0 (fun q t hq=>ih q t hq)
def Qp{C:Nat}{a:Tm}(h:Sf C a):(a.k=14/\wz (ap0 a)+7<=wz a)\/(a.k≠14/\wz (ap0 a)=wz a+2):=by
 unfold ap0
 by_cases c:a.k=14
 ·rw[if_pos c];exact .inl ⟨c,Alf (.inl c) 1⟩
 ·rw[if_neg c];refine .inr ⟨c,?_⟩;unfold apT vT Ct;rw[Pb,if_neg (by decide),wzL,wzL,wzL,Pb,if_neg (by decide),wzL,Bca h];omega
def Hf(k:Int)(hk:k=18\/k=19)(p:Nat)(a:Tm):(a.k=17/\wz (pt0 k p a)+7<=wz a)\/(a.k≠17/\wz (pt0 k p a)=wz a+1):=by
 unfold pt0
 by_cases c:a.k=17
 ·rw[if_pos c];exact .inl ⟨c,Alf (.inr c) p⟩
 ·rw[if_neg c];refine .inr ⟨c,?_⟩;unfold ptT;rw[Pb,if_neg (by omega),wzL,wzL];omega
def My{C:Nat}{a:Tm}(h:Sf C a):Sf (C+1) (ap0 a):=by
 unfold ap0
 by_cases c:a.k=14
 ·rw[if_pos c];cases a with
  |mk k i j n l=>
   obtain rfl:k=14:=c;obtain⟨_,_,hl⟩:=h.node (by decide);rw[kids14] at hl;have hq:l[1]?=some l[1]:=q_f (by omega);have:=h.kid hq;have e:Ap (.mk 14 i j n l) 1=l[1]:=by
    unfold Ap;rw[q_j];show (l[1]?).getD _=_;rw[hq];rfl
   rw[e];exact this
 ·rw[if_neg c];refine .nd 0 0 0 (by decide) (by decide) (by unfold fit;decide) (by rw[kids15];rfl) (fun p t hp=>?_);have b0:bnd 15 0=0:=by decide
  have b1:bnd 15 1=0:=by decide
  match p,hp with
  |0,hp=>cases hp;rw[b0];exact Afy h 1
  |1,hp=>cases hp;rw[b1];exact .var (by omega)
def Gf{C:Nat}{a:Tm}(h:Sf C a)(k:Int)(p:Nat)(hk:k=18/\p=2\/k=19/\p=3):Sf C (pt0 k p a):=by
 unfold pt0
 by_cases c:a.k=17
 ·rw[if_pos c];cases a with
  |mk k' i j n l=>
   obtain rfl:k'=17:=c;obtain⟨_,_,hl⟩:=h.node (by decide);rw[kids17] at hl;have hq:l[p]?=some (l[p]'(by omega)):=q_f (by omega);have:=h.kid hq;have hb:bnd 17 p=0:=by rcases hk with⟨_,rfl⟩|⟨_,rfl⟩<;>decide
   have e:Ap (.mk 17 i j n l) p=l[p]'(by omega):=by
    unfold Ap;rw[q_j];show (l[p]?).getD _=_;rw[hq];rfl
   rw[e]
   rwa [hb] at this
 ·rw[if_neg c];have hb:bnd k 0=0:=by rcases hk with⟨rfl,_⟩|⟨rfl,_⟩<;>decide
  refine .nd 0 0 0 (by omega) (by omega) (by unfold fit;decide) (by rcases hk with⟨rfl,_⟩|⟨rfl,_⟩<;>(first|rw[kids18]|rw[kids19])<;>rfl) (fun q t hp=>?_)
  match q,hp with
  |0,hp=>cases hp;rw[hb];exact h
def Ss{C:Nat}{a:Tm}(h:Sf C a):∀(p:Nat) t,a.kids[p]?=some t->Sf (C+bnd a.k p) t:=by
 intro p t ht;cases a with
 |mk k i j n l=>exact h.kid ht
def Qa{a:Tm}:wzL a.kids+1<=wz a:=by
 cases a;rw[Pb];simp only[Tm.kids];split<;>omega
def Avr{f g:Nat}:∀{l m:List Tm},(∀(p:Nat) a b,l[p]?=some a->m[p]?=some b->alk f a b=alk g a b)->Hh f l m=Hh g l m:=by
 intro l
 induction l with
 |nil=>intro m _;cases m with
  |nil=>rw[Xh,Xh]
  |cons b m=>rw[Vg,Vg]
 |cons a l ih=>intro m h;cases m with
  |nil=>rw[Ti,Ti]
  |cons b m=>rw[Qo,Qo,h 0 a b rfl rfl,ih (fun p a b h1 h2=>h (p+1) a b (by simpa using h1) (by simpa using h2))]
def Agn:∀(f:Nat) {C:Nat} {a b:Tm},Sf C a->Sf C b->wz a+wz b<=f->∀g,wz a+wz b<=g->alk f a b=alk g a b:=by
 intro f
 induction f with
 |zero=>intro C a b _ _ h;have:=Pc a;omega
 |succ f ih=>
  intro C a b ha hb h g hg;have p1:=Pc a;have p2:=Pc b;cases g with
  |zero=>omega
  |succ g=>
   rw[Ko,Ko]
   by_cases c1:a.k=14\/b.k=14
   ·rw[if_pos c1,if_pos c1];have h1:=Qp ha;have h2:=Qp hb;exact ih (My ha) (My hb) (by omega) g (by omega)
   rw[if_neg c1,if_neg c1]
   by_cases c2:a.k=17\/b.k=17
   ·rw[if_pos c2,if_pos c2];have h1:=Hf 18 (.inl rfl) 2 a;have h2:=Hf 18 (.inl rfl) 2 b;have h3:=Hf 19 (.inr rfl) 3 a;have h4:=Hf 19 (.inr rfl) 3 b;rw[ih (Gf ha 18 2 (.inl ⟨rfl,rfl⟩)) (Gf hb 18 2 (.inl ⟨rfl,rfl⟩)) (by omega) g (by omega),ih (Gf ha 19 3 (.inr ⟨rfl,rfl⟩)) (Gf hb 19 3 (.inr ⟨rfl,rfl⟩)) (by omega) g (by omega)]
   rw[if_neg c2,if_neg c2]
   by_cases c3:a.k=b.k/\a.i=b.i/\a.j=b.j/\a.n=b.n
   ·rw[Avr (fun p x y hx hy=>?_)];have h1:=Pa hx;have h2:=Pa hy;have h3:=Qa (a:=a);have h4:=Qa (a:=b);have hy':=Ss hb p y hy;rw[<-c3.1] at hy';exact ih (Ss ha p x hx) hy' (by omega) g (by omega)
   ·simp[c3]
def Av0:∀(f:Nat) (a b:Tm),alk f a b=alk f b a:=by
 intro f
 induction f with
 |zero=>intro a b;rw[alk,alk]
 |succ f ih=>
  intro a b;rw[Ko,Ko];have hl:∀l m:List Tm,Hh f l m=Hh f m l:=by
   intro l
   induction l with
   |nil=>intro m;cases m with
    |nil=>rfl
    |cons b m=>rw[Ti,Vg]
   |cons a l ihl=>intro m;cases m with
    |nil=>rw[Ti,Vg]
    |cons b m=>rw[Qo,Qo,ih,ihl]
  rw[ih (ap0 a),ih (pt0 18 2 a),ih (pt0 19 3 a),hl a.kids]
  by_cases c1:a.k=14\/b.k=14
  ·rw[if_pos c1,if_pos (show b.k=14\/a.k=14 from c1.symm)]
  rw[if_neg c1,if_neg (fun c:b.k=14\/a.k=14=>c1 c.symm)]
  by_cases c2:a.k=17\/b.k=17
  ·rw[if_pos c2,if_pos (show b.k=17\/a.k=17 from c2.symm)]
  rw[if_neg c2,if_neg (fun c:b.k=17\/a.k=17=>c2 c.symm)];congr 1;refine decide_eq_decide.2 ⟨fun ⟨a,b,c,d⟩=>⟨a.symm,b.symm,c.symm,d.symm⟩,fun ⟨a,b,c,d⟩=>⟨a.symm,b.symm,c.symm,d.symm⟩⟩
def Avz:∀(f:Nat) {a:Tm},2*wz a<=f->alk f a a=true:=by
 intro f
 induction f with
 |zero=>intro a h;have:=Pc a;omega
 |succ f ih=>
  intro a h;rw[Ko];have hk:=Qa (a:=a)
  by_cases c1:a.k=14
  ·rw[if_pos (.inl c1)];have:wz (ap0 a)+7<=wz a:=by unfold ap0;rw[if_pos c1];exact Alf (.inl c1) 1
   exact ih (by omega)
  rw[if_neg (by omega)]
  by_cases c2:a.k=17
  ·rw[if_pos (.inl c2)];have h1:=Hf 18 (.inl rfl) 2 a;have h2:=Hf 19 (.inr rfl) 3 a;rw[ih (by omega),ih (by omega)];rfl
  rw[if_neg (by omega)];have:∀l:List Tm,2*wzL l<=f->Hh f l l=true:=by
   intro l
   induction l with
   |nil=>intro _;rw[Xh]
   |cons x l ihl=>
    intro hl;rw[wzL] at hl;rw[Qo,ih (by omega),ihl (by omega)];rfl
  rw[this _ (by omega)];simp
open Go Go.RowKit Go.Proofs.YtgdkddjdhijfnaaGreatDoor
section
variable{B:BT}{C:Nat}{σ σ':Nat->Tm}
def Akr{t:Tm}(h:Sf C t)(h2:t.k≠2)(v:Nat->Nat->Tm)(b:Nat):(trT v FF b t).k=t.k/\(trT v FF b t).i=t.i/\(trT v FF b t).j=t.j/\(trT v FF b t).n=t.n/\(trT v FF b t).kids=trL v FF b t.k 0 t.kids:=by
 have h0:=sf_k h;cases t with
 |mk k i j n l=>rw[Ev (show k≠2 from h2) (show k≠0 from h0)];exact⟨rfl,rfl,rfl,rfl,rfl⟩
def Qh{t:Tm}(h:Sf C t)(h2:t.k≠2)(v:Nat->Nat->Tm)(b:Nat){p:Nat}(hp:p<t.kids.length):Ap (trT v FF b t) p=trT v FF (b+bnd t.k p) (Ap t p):=by
 unfold Ap;rw[(Akr h h2 v b).2.2.2.2,q_j,Fm,q_j,q_f hp,q_jg];rfl
def Af3{t:Tm}(h:Sf C t){c:Int}(hk:t.k=c)(hc:c≠2)(v:Nat->Nat->Tm)(b:Nat):(trT v FF b t).k=c:=by rw[(Akr h (by rw[hk];exact hc) v b).1,hk]
def Um{t:Tm}(h:Sf C t){p:Nat}{c:Int}(hk:t.k=c)(hp:p<t.kids.length){m:Nat}(hb:bnd c p=m):Sf (C+m) (Ap t p):=by
 have:=Ho h hp
 rwa [hk,hb] at this
def Asr(hB:Bz B){t u:Tm}(h:Bm B t=some u)(ht:Sf C t)(σ:Nat->Tm)(b:Nat):Bm B (trT (sv σ) FF b t)=some (trT (sv σ) FF b u):=by
 have h2:t.k≠2:=fun e=>by rw[Gz (by omega)] at h;cases h
 have hl:=Hg ht h2;obtain⟨e1,e2,e3,e4,e5⟩:=Akr ht h2 (sv σ) b
 by_cases Ey:t.k=15
 ·rw[Nw Ey] at h;rw[Nw (e1.trans Ey)];rw[Ey,kids15] at hl;split at h
  ·rename_i c;cases h;have s0:=Um (p:=0) (m:=0) ht Ey (by omega) (by decide);have Eu:=Hg s0 (by omega);rw[c,kids14] at Eu;rw[Qh ht h2 (sv σ) b (p:=0) (by omega),Qh ht h2 (sv σ) b (p:=1) (by omega),Ey,show bnd 15 0=0 by decide,show bnd 15 1=0 by decide,q_jp,if_pos (Af3 s0 c (by decide) _ _),Qh s0 (by omega) (sv σ) b (p:=1) (by omega),c,show bnd 14 1=1 by decide,Big]
  ·cases h
 by_cases Fh:t.k=18
 ·rw[Qf Fh] at h;rw[Qf (e1.trans Fh)];rw[Fh,kids18] at hl;split at h
  ·rename_i c;cases h;have s0:=Um (p:=0) (m:=0) ht Fh (by omega) (by decide);have Eu:=Hg s0 (by omega);rw[c,kids17] at Eu;rw[Qh ht h2 (sv σ) b (p:=0) (by omega),Fh,show bnd 18 0=0 by decide,q_jp,if_pos (Af3 s0 c (by decide) _ _),Qh s0 (by omega) (sv σ) b (p:=2) (by omega),c,show bnd 17 2=0 by decide,q_jp]
  ·cases h
 by_cases Fi:t.k=19
 ·rw[Qg Fi] at h;rw[Qg (e1.trans Fi)];rw[Fi,kids19] at hl;split at h
  ·rename_i c;cases h;have s0:=Um (p:=0) (m:=0) ht Fi (by omega) (by decide);have Eu:=Hg s0 (by omega);rw[c,kids17] at Eu;rw[Qh ht h2 (sv σ) b (p:=0) (by omega),Fi,show bnd 19 0=0 by decide,q_jp,if_pos (Af3 s0 c (by decide) _ _),Qh s0 (by omega) (sv σ) b (p:=3) (by omega),c,show bnd 17 3=0 by decide,q_jp]
  ·cases h
 by_cases Dv:t.k=22
 ·rw[Rm Dv] at h;rw[Rm (e1.trans Dv)];rw[Dv,kids22] at hl;split at h
  ·rename_i c;cases h;have s0:=Um (p:=5) (m:=0) ht Dv (by omega) (by decide);rw[Qh ht h2 (sv σ) b (p:=5) (by omega),Qh ht h2 (sv σ) b (p:=3) (by omega),Dv,show bnd 22 5=0 by decide,show bnd 22 3=0 by decide,q_jp,if_pos (Af3 s0 c (by decide) _ _)]
  ·cases h
 by_cases Cs:t.k=23
 ·rw[Ro Cs] at h;rw[Ro (e1.trans Cs),e2,e3,e4];cases hb:B t.n t.i t.j with
  |none=>rw[hb] at h;cases h
  |some q=>
   rw[hb,q_jh,q_b] at h;subst h;rw[Cs] at hl;rw[q_jh,Bif _ _ _ (by rw[List.length_reverse,show t.kids.length=(Bv 23 t.n).toNat by omega];exact hB _ _ _ _ hb),e5,Cs];congr 3;rw[List.map_reverse];congr 1;apply List.ext_getElem?;intro p;rw[Fm,q_ji,q_jg,bnd23,q_jp]
 ·rw[Gz (by omega)] at h;cases h
inductive Par(B:BT):Tm->Tm->Prop
 |var (i:Nat):Par B (vT i) (vT i)
 |nd {k i j n:Int} {l l':List Tm} (h2:k≠2) (h0:k≠0) (hl:l'.length=l.length) (hk:∀(p:Nat) t t',l[p]?=some t->l'[p]?=some t'->Par B t t'):Par B (.mk k i j n l) (.mk k i j n l')
 |st {k i j n:Int} {l l':List Tm} {u:Tm} (h2:k≠2) (h0:k≠0) (hl:l'.length=l.length) (hk:∀(p:Nat) t t',l[p]?=some t->l'[p]?=some t'->Par B t t') (hr:(Bm B (.mk k i j n l)).isSome=true) (hu:Bm B (.mk k i j n l')=some u):Par B (.mk k i j n l) u
def Aj4{t:Tm}(h:Sf C t):Par B t t:=by
 induction h with
 |var=>exact .var _
 |nd i j n h2 h0 _ _ _ ih=>exact .nd h2 h0 rfl (fun p t t' h h'=>by rw[h,q_b] at h';subst h';exact ih p t h)
def Afx{k i j n:Int}{l l':List Tm}(h:Sf C (.mk k i j n l))(h2:k≠2)(hl:l'.length=l.length)(hk:∀(p:Nat) t,l'[p]?=some t->Sf (C+bnd k p) t):Sf C (.mk k i j n l'):=by
 obtain⟨h0,hf,hn⟩:=h.node h2;exact .nd i j n h2 h0 hf (by rw[hl];exact hn) hk
def Vo{l l':List Tm}(hl:l'.length=l.length){p:Nat}{t:Tm}(h:l'[p]?=some t):∃s,l[p]?=some s:=by
 have:=Dh h;exact⟨_,q_f (by omega)⟩
def Ur(hB:Bz B){t u:Tm}(h:Par B t u):∀{C:Nat},Sf C t->Sf C u:=by
 induction h with
 |var i=>intro C h;exact h
 |nd h2 h0 hl hk ih=>
  intro C h;exact Afx h h2 hl (fun p t ht=>by obtain⟨s,hs⟩:=Vo hl ht;exact ih p s t hs ht (h.kid hs))
 |st h2 h0 hl hk hr hu ih=>
  intro C h;exact Att hB hu (Afx h h2 hl (fun p t ht=>by obtain⟨s,hs⟩:=Vo hl ht;exact ih p s t hs ht (h.kid hs)))
def ParL(B:BT)(l l':List Tm):Prop:=l'.length=l.length/\∀(p:Nat) t t',l[p]?=some t->l'[p]?=some t'->Par B t t'
def ParL.kid{k i j n:Int}{l l':List Tm}(h:ParL B l l'){p:Nat}(hp:p<l.length):Par B (Ap (.mk k i j n l) p) (Ap (.mk k i j n l') p):=by
 have hp':p<l'.length:=by rw[h.1];exact hp
 unfold Ap;simp only[Tm.kids,q_j];rw[q_f hp,q_f hp'];exact h.2 p _ _ (q_f hp) (q_f hp')
def Asl{t u:Tm}(h:Par B t u)(hv:isV t.k):∃l',u=.mk t.k t.i t.j t.n l'/\ParL B t.kids l':=by
 unfold isV at hv;cases h with
 |var i=>exact absurd (show (2:Int)=14\/(2:Int)=17\/(2:Int)=21 from hv) (by decide)
 |nd h2 h0 hl hk=>exact⟨_,rfl,hl,hk⟩
 |st h2 h0 hl hk hr hu=>
  rw[Gz (by simp only[Tm.k] at hv |-;omega)] at hr;cases hr
def Afa{t u:Tm}(h:Par B t u){c:Int}(hk:t.k=c)(hc:c=14\/c=17\/c=21):u.k=c:=by
 obtain⟨l',rfl,_⟩:=Asl h (by unfold isV;omega);exact hk
def Aj7{t u:Tm}(h:Par B t u)(hv:isV t.k){p:Nat}(hp:p<t.kids.length):Par B (Ap t p) (Ap u p):=by
 obtain⟨l',rfl,hl⟩:=Asl h hv;cases t with
 |mk k i j n l=>exact hl.kid hp
def Asq{k i j n:Int}{l l':List Tm}(h:Sf C (.mk k i j n l))(hp:ParL B l l')(hr:(Bm B (.mk k i j n l)).isSome=true):(Bm B (.mk k i j n l')).isSome=true:=by
 have h2:k≠2:=fun e=>by rw[Gz (by show k≠15/\_;simp only[Tm.k];omega)] at hr;cases hr
 have hl:=(h.node h2).2.2
 by_cases Ey:k=15
 ·subst Ey;rw[Nw rfl] at hr |-;rw[kids15] at hl;split at hr
  ·rename_i c;rw[if_pos (Afa (hp.kid (p:=0) (by omega)) c (by omega))];rfl
  ·cases hr
 by_cases Fh:k=18
 ·subst Fh;rw[Qf rfl] at hr |-;rw[kids18] at hl;split at hr
  ·rename_i c;rw[if_pos (Afa (hp.kid (p:=0) (by omega)) c (by omega))];rfl
  ·cases hr
 by_cases Fi:k=19
 ·subst Fi;rw[Qg rfl] at hr |-;rw[kids19] at hl;split at hr
  ·rename_i c;rw[if_pos (Afa (hp.kid (p:=0) (by omega)) c (by omega))];rfl
  ·cases hr
 by_cases Dv:k=22
 ·subst Dv;rw[Rm rfl] at hr |-;rw[kids22] at hl;split at hr
  ·rename_i c;rw[if_pos (Afa (hp.kid (p:=5) (by omega)) c (by omega))];rfl
  ·cases hr
 by_cases Cs:k=23
 ·subst Cs;rw[Ro rfl] at hr |-;simp only[Tm.n,Tm.i,Tm.j] at hr |-;cases hb:B n i j with
  |none=>rw[hb] at hr;cases hr
  |some q=>rfl
 ·rw[Gz (by simp only[Tm.k];omega)] at hr;cases hr
def Aj6(hB:Bz B)(hV:∀b i,Par B (sv σ b i) (sv σ' b i)){t t':Tm}(h:Par B t t'):∀{C:Nat},Sf C t->∀b,Par B (trT (sv σ) FF b t) (trT (sv σ') FF b t'):=by
 induction h with
 |var i=>intro C _ b;rw[Cz,Cz];exact hV b i
 |nd h2 h0 hl hk ih=>
  intro C h b;rw[Ev h2 h0,Ev h2 h0];refine .nd h2 h0 (by rw[Mu,Mu];exact hl) (fun p s s' hs Fa=>?_);rw[Fm] at hs Fa;obtain⟨a,ha,rfl⟩:=q_e.1 hs;obtain⟨a',Kt,rfl⟩:=q_e.1 Fa;exact ih p a a' ha Kt (h.kid ha) _
 |@st k i j n l l' u h2 h0 hl hk hr hu ih=>
  intro C h b;have Fa:Sf C (.mk k i j n l'):=Afx h h2 hl (fun p t ht=>by obtain⟨s,hs⟩:=Vo hl ht;exact Ur hB (hk p s t hs ht) (h.kid hs));obtain⟨w,hw⟩:=q_ka.1 hr;have q1:=Asr hB hw h σ b;have q2:=Asr hB hu Fa σ' b;rw[Ev h2 h0] at q1 q2 |-;refine .st h2 h0 (by rw[Mu,Mu];exact hl) (fun p s s' hs Fa=>?_) (by rw[q1];rfl) q2;rw[Fm] at hs Fa;obtain⟨a,ha,rfl⟩:=q_e.1 hs;obtain⟨a',Kt,rfl⟩:=q_e.1 Fa;exact ih p a a' ha Kt (h.kid ha) _
def Asj(hB:Bz B){t t':Tm}(h:Par B t t')(hs:Sf C t)(b:Nat):Par B (Ct b t) (Ct b t'):=by
 rw[Arh,Arh];refine Aj6 hB (fun c i=>?_) h hs 0;rw[Akt];unfold lfv;split<;>exact .var _
def Ask(hB:Bz B)(h:∀i,Par B (σ i) (σ' i)/\∃C,Sf C (σ i))(b i:Nat):Par B (sv σ b i) (sv σ' b i):=by
 unfold sv;split
 ·exact .var _
 ·obtain⟨h1,C,h2⟩:=h (i-b);exact Asj hB h1 h2 b
def Bew(hB:Bz B){C':Nat}{u u' a a':Tm}(hu:Par B u u')(su:Sf C u)(ha:Par B a a')(sa:Sf C' a):Par B (Lk u a) (Lk u' a'):=by
 rw[As6,As6];refine Aj6 hB (Ask hB (fun i=>?_)) ha sa 0;cases i with
 |zero=>exact⟨hu,C,su⟩
 |succ i=>exact⟨.var i,i+1,.var (by omega)⟩
def Beu(hB:Bz B){C':Nat}{l l':List Tm}(h:ParL B l l')(hs:∀t∈l,Sf C t){b:Tm}(sb:Sf C' b):Par B (Kp l b) (Kp l' b):=by
 rw[Al0,Al0];refine Aj6 hB (Ask hB (fun i=>?_)) (Aj4 sb) sb 0;unfold Alz;rw[q_j,q_j];rcases q_jo i l.length with hi|hi
 ·rw[q_f hi,q_f (show i<l'.length by rw[h.1];exact hi)];exact⟨h.2 i _ _ (q_f hi) (q_f _),C,hs _ (q_kd hi)⟩
 ·rw[q_jd hi,q_jd (show l'.length<=i by rw[h.1];exact hi)];exact⟨.var 0,1,.var (by omega)⟩
end
def lf1(c:Nat)(t:Tm):Tm:=trT (lfv 1) FF c t
def Aev(c i:Nat):lf1 c (vT i)=vT (if i<c then i else i+1):=by
 unfold lf1;rw[Cz];unfold lfv;split<;>rfl
def l8{C:Nat}{a:Tm}(h:Sf C a)(c:Nat):(lf1 c a).k=a.k:=by
 cases h with
 |var h=>rw[Aev];rfl
 |nd i j n h2 h0 hf hl hk=>unfold lf1;rw[Ev h2 h0];rfl
def Bb7(c:Nat)(a:Tm):lf1 (c+1) (Ct 1 a)=Ct 1 (lf1 c a):=by
 have:=Ajp (shf 1) c 1 a;rw[Akt] at this;unfold lf1;rw[Nat.add_comm c 1];exact this
def Al3{C:Nat}{a:Tm}(h:Sf C a)(c:Nat):ap0 (lf1 c a)=lf1 (c+1) (ap0 a):=by
 unfold ap0;rw[l8 h]
 by_cases k:a.k=14
 ·rw[if_pos k,if_pos k];have hl:=Hg h (by omega);rw[k,kids14] at hl;have:=Qh h (by omega) (lfv 1) c (p:=1) (by omega);rw[k,show bnd 14 1=1 from rfl] at this;exact this
 ·rw[if_neg k,if_neg k];unfold apT lf1;rw[Ev (by decide) (by decide)];congr 1;rw[trL,trL,trL,show bnd 15 0=0 from rfl,show bnd 15 (0+1)=0 from rfl,q_jp,Cz];have:=Bb7 c a;unfold lf1 at this;rw[this];unfold lfv;rw[if_pos (by omega)]
def Afh{C:Nat}{a:Tm}(h:Sf C a)(c:Nat){k:Int}{p:Nat}(hk:k=18/\p=2\/k=19/\p=3):pt0 k p (lf1 c a)=lf1 c (pt0 k p a):=by
 unfold pt0;rw[l8 h]
 by_cases e:a.k=17
 ·rw[if_pos e,if_pos e];have hl:=Hg h (by omega);rw[e,kids17] at hl;have:=Qh h (by omega) (lfv 1) c (p:=p) (by omega);rw[e,show bnd 17 p=0 from by rcases hk with⟨_,rfl⟩|⟨_,rfl⟩<;>rfl] at this;exact this
 ·rw[if_neg e,if_neg e];unfold ptT lf1;rw[Ev (by omega) (by omega)];congr 1;rw[trL,trL,show bnd k 0=0 from by rcases hk with⟨rfl,_⟩|⟨rfl,_⟩<;>rfl];rfl
def Avs{f c:Nat}{k:Int}:∀{l m:List Tm} {p:Nat},(∀(q:Nat) x y,l[q]?=some x->m[q]?=some y->alk f (lf1 (c+bnd k (p+q)) x) (lf1 (c+bnd k (p+q)) y)=alk f x y)->Hh f (trL (lfv 1) FF c k p l) (trL (lfv 1) FF c k p m)=Hh f l m:=by
 intro l
 induction l with
 |nil=>intro m p _;cases m with
  |nil=>rw[trL]
  |cons b m=>rw[trL,trL,Vg,Vg]
 |cons a l ih=>intro m p h;cases m with
  |nil=>rw[trL,trL,Ti,Ti]
  |cons b m=>
   rw[trL,trL,Qo,Qo];have h0:=h 0 a b rfl rfl;rw[q_jp] at h0;unfold lf1 at h0;rw[h0,ih (fun q x y hx hy=>by
    have:=h (q+1) x y (by simpa using hx) (by simpa using hy)
    rwa [show p+(q+1)=p+1+q by omega] at this)]
def Avx:∀(f:Nat) {C:Nat} {a b:Tm},Sf C a->Sf C b->∀c,alk f (lf1 c a) (lf1 c b)=alk f a b:=by
 intro f
 induction f with
 |zero=>intro C a b _ _ c;rw[alk,alk]
 |succ f ih=>
  intro C a b ha hb c;rw[Ko,Ko,l8 ha,l8 hb]
  by_cases c1:a.k=14\/b.k=14
  ·rw[if_pos c1,if_pos c1,Al3 ha,Al3 hb];exact ih (My ha) (My hb) (c+1)
  rw[if_neg c1,if_neg c1]
  by_cases c2:a.k=17\/b.k=17
  ·rw[if_pos c2,if_pos c2,Afh ha c (.inl ⟨rfl,rfl⟩),Afh hb c (.inl ⟨rfl,rfl⟩),Afh ha c (.inr ⟨rfl,rfl⟩),Afh hb c (.inr ⟨rfl,rfl⟩),ih (Gf ha 18 2 (.inl ⟨rfl,rfl⟩)) (Gf hb 18 2 (.inl ⟨rfl,rfl⟩)) c,ih (Gf ha 19 3 (.inr ⟨rfl,rfl⟩)) (Gf hb 19 3 (.inr ⟨rfl,rfl⟩)) c]
  rw[if_neg c2,if_neg c2]
  by_cases hk:a.k=b.k
  rotate_left
  ·simp[hk]
  cases ha with
  |@var _ i hi=>
   cases hb with
   |@var _ j hj=>
    rw[Aev,Aev];have:((if i<c then i else i+1)=if j<c then j else j+1)↔i=j:=by split<;>split<;>omega
    unfold vT;simp only[Tm.k,Tm.i,Tm.j,Tm.n,Tm.kids,true_and,and_true,Int.natCast_inj,this]
   |nd i' j' n' h2=>exact absurd hk.symm h2
  |@nd _ k i j n l h2 h0 hf hl Hv=>
   cases hb with
   |var hj=>exact absurd hk h2
   |@nd _ k' i' j' n' l' Fj Iw Vx Kd hkk'=>
    have hk':k=k':=hk;subst hk';unfold lf1;rw[Ev h2 h0,Ev h2 h0];simp only[Tm.k,Tm.i,Tm.j,Tm.n,Tm.kids];rw[Avs (fun q x y hx hy=>?_)];rw[q_jg];exact ih (Hv q x hx) (hkk' q y hy) _
def Av3{f:Nat}(h:0<f)(i:Nat):alk f (vT i) (vT i)=true:=by
 obtain⟨g,rfl⟩:∃g,f=g+1:=⟨f-1,by omega⟩
 rw[Ko,if_neg (by unfold vT;simp[Tm.k]),if_neg (by unfold vT;simp[Tm.k])];unfold vT;simp only[Tm.kids,Xh];simp
def Avv{g C:Nat}{x y:Tm}(hx:Sf C x)(hy:Sf C y)(h:wz x+wz y+2<=g):alk g (apT x) (apT y)=alk (g+1) x y:=by
 obtain⟨f,rfl⟩:∃f,g=f+1:=⟨g-1,by omega⟩
 rw[Ko,if_neg (by unfold apT;simp[Tm.k]),if_neg (by unfold apT;simp[Tm.k])];unfold apT;simp only[Tm.k,Tm.i,Tm.j,Tm.n,Tm.kids,Qo,Xh];rw[show Ct 1 x=lf1 0 x from rfl,show Ct 1 y=lf1 0 y from rfl,Avx f hx hy 0,Av3 (by omega),Agn f hx hy (by omega) (f+1+1) (by omega)];simp
def Acs{g C:Nat}{x y:Tm}(hx:Sf C x)(hy:Sf C y)(h:x.k≠14->y.k≠14->wz x+wz y+2<=g):alk g (ap0 x) (ap0 y)=alk (g+1) x y:=by
 by_cases c:x.k=14\/y.k=14
 ·rw[Ko g x y,if_pos c]
 ·have h1:x.k≠14:=fun e=>c (.inl e)
  have h2:y.k≠14:=fun e=>c (.inr e)
  unfold ap0;rw[if_neg h1,if_neg h2];exact Avv hx hy (h h1 h2)
def Akb{g:Nat}{x y:Tm}(h1:¬(x.k=14\/y.k=14))(h2:x.k=17\/y.k=17):alk (g+1) x y=(alk g (pt0 18 2 x) (pt0 18 2 y) && alk g (pt0 19 3 x) (pt0 19 3 y)):=by rw[Ko,if_neg h1,if_pos h2]
def Alk(a b:Tm):Bool:=alk (wz a+wz b) a b
def Ru{C f:Nat}{a b:Tm}(ha:Sf C a)(hb:Sf C b)(h:wz a+wz b<=f):alk f a b=Alk a b:=Agn f ha hb h _ (q_ja _)
def Alh(a b:Tm):Alk a b=Alk b a:=by unfold Alk;rw[Av0,Nat.add_comm]
def Yz(a:Tm):Alk a a=true:=Avz _ (by omega)
section
variable{B:BT}{C:Nat}
def ParL.rev{l l':List Tm}(h:ParL B l l'):ParL B l.reverse l'.reverse:=by
 refine⟨by simp[h.1],fun p t t' ht Lh=>?_⟩;have hp:=Dh ht;rw[List.length_reverse] at hp;rw[List.getElem?_reverse hp] at ht;rw[List.getElem?_reverse (by rw[h.1];exact hp),h.1] at Lh;exact h.2 _ _ _ ht Lh
def Bev(hB:Bz B){k i j n:Int}{l l':List Tm}{u u':Tm}(h:Sf C (.mk k i j n l))(hp:ParL B l l')(hu:Bm B (.mk k i j n l)=some u)(Dt:Bm B (.mk k i j n l')=some u'):Par B u u':=by
 have h2:k≠2:=fun e=>by rw[Gz (by simp only[Tm.k];omega)] at hu;cases hu
 have hl:=(h.node h2).2.2
 by_cases Ey:k=15
 ·subst Ey;rw[Nw rfl] at hu Dt;rw[kids15] at hl;split at hu
  ·rename_i c;split at Dt
   ·cases hu;cases Dt;have s0:=Um (c:=15) (p:=0) (m:=0) h rfl (by show 0<l.length;omega) (by decide);have s1:=Um (c:=15) (p:=1) (m:=0) h rfl (by show 1<l.length;omega) (by decide);have Eu:=Hg s0 (by omega);rw[c,kids14] at Eu;exact Bew hB (hp.kid (by omega)) s1 (Aj7 (hp.kid (by omega)) (by unfold isV;omega) (by omega)) (Um (p:=1) (m:=1) s0 c (by omega) (by decide))
   ·cases Dt
  ·cases hu
 by_cases Fh:k=18
 ·subst Fh;rw[Qf rfl] at hu Dt;rw[kids18] at hl;split at hu
  ·rename_i c;split at Dt
   ·cases hu;cases Dt;have s0:=Um (c:=18) (p:=0) (m:=0) h rfl (by show 0<l.length;omega) (by decide);have Eu:=Hg s0 (by omega);rw[c,kids17] at Eu;exact Aj7 (hp.kid (by omega)) (by unfold isV;omega) (by omega)
   ·cases Dt
  ·cases hu
 by_cases Fi:k=19
 ·subst Fi;rw[Qg rfl] at hu Dt;rw[kids19] at hl;split at hu
  ·rename_i c;split at Dt
   ·cases hu;cases Dt;have s0:=Um (c:=19) (p:=0) (m:=0) h rfl (by show 0<l.length;omega) (by decide);have Eu:=Hg s0 (by omega);rw[c,kids17] at Eu;exact Aj7 (hp.kid (by omega)) (by unfold isV;omega) (by omega)
   ·cases Dt
  ·cases hu
 by_cases Dv:k=22
 ·subst Dv;rw[Rm rfl] at hu Dt;rw[kids22] at hl;split at hu
  ·split at Dt
   ·cases hu;cases Dt;exact hp.kid (by omega)
   ·cases Dt
  ·cases hu
 by_cases Cs:k=23
 ·subst Cs;rw[Ro rfl] at hu Dt;simp only[Tm.n,Tm.i,Tm.j,Tm.kids] at hu Dt;cases hb:B n i j with
  |none=>rw[hb] at hu;cases hu
  |some q=>
   rw[hb,q_jh,q_b] at hu Dt;subst hu Dt;refine Beu (C:=C) hB hp.rev (fun t ht=>?_) (hB _ _ _ _ hb);obtain⟨p,hp'⟩:=q_jw (List.mem_reverse.1 ht);have:=h.kid hp'
   rwa [bnd23,q_jp] at this
 ·rw[Gz (by simp only[Tm.k];omega)] at hu;cases hu
mutual
def cd(B:BT):Tm->Tm
 |.mk k i j n l=>if k=2\/k=0 then .mk k i j n l else if (Bm B (.mk k i j n l)).isSome then (Bm B (.mk k i j n (cdL B l))).getD (vT 0) else .mk k i j n (cdL B l)
def cdL(B:BT):List Tm->List Tm
 |[]=>[]
 |t::l=>cd B t::cdL B l
end
def Amo:∀l:List Tm,cdL B l=l.map (cd B):=by
 intro l
 induction l with
 |nil=>rfl
 |cons t l ih=>rw[cdL,ih];rfl
def Asi(hB:Bz B){t u:Tm}(h:Par B t u):∀{C:Nat},Sf C t->Par B u (cd B t):=by
 have key:∀{k i j n:Int} {l l':List Tm} {C:Nat},k≠2->k≠0->ParL B l l'->Sf C (.mk k i j n l)->(∀(p:Nat) t t',l[p]?=some t->l'[p]?=some t'->∀{C:Nat},Sf C t->Par B t' (cd B t)) ->
   Sf C (.mk k i j n l')/\ParL B l' (cdL B l)/\((Bm B (.mk k i j n l)).isSome=true->(Bm B (.mk k i j n l')).isSome=true/\Bm B (.mk k i j n (cdL B l))=some (cd B (.mk k i j n l)))/\(¬(Bm B (.mk k i j n l)).isSome=true->cd B (.mk k i j n l)=.mk k i j n (cdL B l)):=by
  intro k i j n l l' C h2 h0 hp h ih;have Fa:Sf C (.mk k i j n l'):=Afx h h2 hp.1 (fun p t ht=>by obtain⟨s,hs⟩:=Vo hp.1 ht;exact Ur hB (hp.2 p s t hs ht) (h.kid hs));have hL:ParL B l' (cdL B l):=by
   refine⟨by rw[Amo,q_g,hp.1],fun p t' c Lh hc=>?_⟩;rw[Amo,q_ji] at hc;obtain⟨s,hs,rfl⟩:=q_e.1 hc;exact ih p s t' hs Lh (h.kid hs)
  refine⟨Fa,hL,fun hr=>?_,fun hr=>?_⟩
  ·have r1:=Asq h hp hr;have r2:=Asq Fa hL r1;refine⟨r1,?_⟩;rw[cd,if_neg (by omega),if_pos hr];obtain⟨c,hc⟩:=q_ka.1 r2;rw[hc];rfl
  ·rw[cd,if_neg (by omega),if_neg hr]
 induction h with
 |var i=>intro C _;unfold vT;rw[cd,if_pos (.inl rfl)];exact .var i
 |@nd k i j n l l' h2 h0 hl hk ih=>
  intro C h;obtain⟨Fa,hL,q1,q2⟩:=key h2 h0 ⟨hl,hk⟩ h ih
  by_cases hr:(Bm B (.mk k i j n l)).isSome=true
  ·obtain⟨r1,r2⟩:=q1 hr;exact .st h2 h0 hL.1 hL.2 r1 r2
  ·rw[q2 hr];exact .nd h2 h0 hL.1 hL.2
 |@st k i j n l l' u h2 h0 hl hk hr hu ih=>
  intro C h;obtain⟨Fa,hL,q1,q2⟩:=key h2 h0 ⟨hl,hk⟩ h ih;obtain⟨_,r2⟩:=q1 hr;exact Bev hB Fa hL hu r2
inductive Prs(B:BT):Tm->Tm->Prop
 |refl (t:Tm):Prs B t t
 |step {t u w:Tm} (h:Par B t u) (hr:Prs B u w):Prs B t w
def Prs.trans{t u w:Tm}(h:Prs B t u)(k:Prs B u w):Prs B t w:=by
 induction h with
 |refl=>exact k
 |step h _ ih=>exact .step h (ih k)
def Afg(hB:Bz B){t u:Tm}(h:Prs B t u):Sf C t->Sf C u:=by
 induction h with
 |refl=>exact id
 |step h _ ih=>exact fun hs=>ih (Ur hB h hs)
def strip(hB:Bz B){t w:Tm}(h:Prs B t w):∀{u:Tm},Sf C t->Par B t u->∃x,Prs B u x/\Par B w x:=by
 induction h with
 |refl t=>intro u _ h;exact⟨u,.refl u,h⟩
 |step h1 _ ih=>
  intro u hs h;obtain⟨x,k1,k2⟩:=ih (Ur hB h1 hs) (Asi hB h1 hs);exact⟨x,.step (Asi hB h hs) k1,k2⟩
def confl(hB:Bz B){t u:Tm}(h:Prs B t u):∀{w:Tm},Sf C t->Prs B t w->∃x,Prs B u x/\Prs B w x:=by
 induction h with
 |refl t=>intro w _ h;exact⟨w,h,.refl w⟩
 |step h1 _ ih=>
  intro w hs h;obtain⟨y,k1,k2⟩:=strip hB h hs h1;obtain⟨x,k3,k4⟩:=ih (Ur hB h1 hs) k1;exact⟨x,k3,.step k2 k4⟩
inductive Nm(B:BT):Tm->Prop
 |mk {t:Tm} (h:Bm B t=none) (hk:∀(p:Nat) s,t.kids[p]?=some s->Nm B s):Nm B t
def Bdh{t u:Tm}(h:Par B t u):Nm B t->u=t:=by
 induction h with
 |var=>intro _;rfl
 |@nd k i j n l l' h2 h0 hl hk ih=>
  intro hn;cases hn with
  |mk h hs=>
   congr 1;apply List.ext_getElem?;intro p;cases hp:l'[p]? with
   |none=>
    have:=q_ld.1 hp;rw[q_jd (by omega)]
   |some s'=>
    obtain⟨s,Jc⟩:=Vo hl hp;rw[Jc,ih p s s' Jc hp (hs p s Jc)]
 |st h2 h0 hl hk hr hu ih=>
  intro hn;cases hn with
  |mk h hs=>rw[h] at hr;cases hr
def Ajx{t u:Tm}(h:Prs B t u):Nm B t->u=t:=by
 induction h with
 |refl=>intro _;rfl
 |step h _ ih=>
  intro hn;have:=Bdh h hn;subst this;exact ih hn
def Bdg(hB:Bz B){t x z:Tm}(hs:Sf C t)(h1:Prs B t x)(h2:Prs B t z)(n1:Nm B x)(n2:Nm B z):x=z:=by
 obtain⟨w,k1,k2⟩:=confl hB h1 hs h2;exact (Ajx k1 n1).symm.trans (Ajx k2 n2)
end
end Go.Proofs.YtgdkddjdhijfnaaGreatDoor.Abs
