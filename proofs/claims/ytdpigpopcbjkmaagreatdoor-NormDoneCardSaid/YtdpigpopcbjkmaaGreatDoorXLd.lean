import Derived.Test.YtdpigpopcbjkmaaGreatDoorXMn
import Derived.Test.YtdpigpopcbjkmaaGreatDoorXFg
import Derived.Test.YtdpigpopcbjkmaaGreatDoorXBi
import Derived.Test.YtdpigpopcbjkmaaGreatDoorXEv
set_option linter.unusedSimpArgs false
set_option linter.unusedVariables false
set_option maxRecDepth 20000
set_option maxHeartbeats 4000000
namespace Go.Proofs.YtdpigpopcbjkmaaGreatDoor.Abs
open Go Go.RowKit Go.Proofs.YtdpigpopcbjkmaaGreatDoor
structure Sv(B:BT):Prop where
 at_:∀n i j,fit n->fit i->fit j->∃(nm ps:SV) (ty:List SV) (bd:Tm) (df ok:Bool),ty.length=5/\Con 72 [.int .i64 n,.int .i64 i,.int .i64 j] (.tup [.agg true (nm::ps::(ty++(tv bd++[.bool df]))),.bool ok])/\B n i j=if ok && df then some bd else none
 bd:BodyP B
theorem Awd{C M M':Nat}{t u:Tm}(ht:PT (C+1) M t)(hu:PT C M' u)(hb:C+2*M'+2*M+1<=100000000) :
  Con 71 [.agg true (tv t),.agg true (tv u)] (.agg true (tv (Ip u t))):=by
 have d1:=Nf t;have d2:=Nf u;have d3:=Ad5 t;have d4:=Ad5 u;have s1:=ht.sz;have s2:=hu.sz;have h:=Avi t u (ht.tok (by omega)) (hu.tok (by omega)) ht.pl hu.pl (by omega) (by omega);have e:Abi u t=Ip u t:=by
  unfold Abi;rw[show Ht u 0 t=some (Ip u t) from Bdn (d:=0) ht.sf hu.sf (by omega)];rfl
 rw[e] at h;have hz:=Af t;have Cp:=Af u;have Hp:=Af (Ip u t);refine Al mixed Tryz.func71 tr71 ?_;simp only[go_sem,seval,hz,Cp];refine Aa h ?_;simp only[go_sem,seval,Hp]
theorem r9(t u:Tm)(ht:t.kids.length<=100)(p:Nat)(hp:p<=100) :
  Con 49 [.agg true (tv t),.int .i64 p,.agg true (tv u)] (.agg true (tv (Bm t p u))):=by
 cases t with
 |mk k i j n l=>
  have Ln:l.length<=100:=ht;have Cp:=Af u;unfold Bm;simp only[Tm.k,Tm.i,Tm.j,Tm.n,Tm.kids];have Hp:=Af (.mk k i j n (l.set p u));rw[Am,Am,List.map_set];refine Al mixed Tryz.func49 tr49 ?_;simp only[go_sem,seval,Cp];intros;refine Jj (fun x=>⟨(.J::.int .i64 p::.J::.ref 0 0 0 0::.J::.ref 1 0 0 0::.ref 2 0 0 0::.ref 3 0 0 0::.osl 4 x 0 x::.int .i64 x::.J::.J::.J::.J::.J::.J::.J::.J::.J::.J::.J::.J::.J::.J::.J::.J::.J::.J::.J::.J::.J::.J::.J::.J::.J::.J::.J::.J::.J::.J::.J::.J::.J::.J::[]),[⟨true,5,[[.int .i64 k,.int .i64 i,.int .i64 j,.int .i64 n,.dsl 5 (l.map tv)]],0,0,true⟩,⟨true,5,[tv u],0,0,true⟩,⟨true,5,[[.int .i64 0,.int .i64 0,.int .i64 0,.int .i64 0,.nils]],0,0,true⟩,⟨true,5,[[.int .i64 k,.int .i64 i,.int .i64 j,.int .i64 n,.nils]],0,0,true⟩,⟨false,5,((l.map tv).set p (tv u)).take x,x-1,x,true⟩]⟩) l.length (fun x hx=>?_) ?_
  ·by_cases Ab:x<l.length
   ·have e0:(0:Int)<=(x:Int):=by omega
    have e1:(x:Int)<(l.length:Int):=by omega
    have e2:(((l.map tv).set p (tv u)).take x).length=x:=by simp;omega
    have e3:(x+1)*56<=140737488355328:=by omega
    have e4:x+1<=140737488355328:=by omega
    have hg:(l.map tv)[x]?.getD []=tv l[x]:=by rw[List.getElem?_map,q_f Ab];rfl
    have Zp:=Af l[x];have tn:((l.map tv).set p (tv u)).take (x+1)=((l.map tv).set p (tv u)).take x++[if x=p then tv u else tv l[x]]:=by
     rw[List.take_succ_eq_append_getElem (by simpa using Ab)];congr 2;rw[List.getElem_set]
     by_cases c:x=p
     ·rw[if_pos c.symm,if_pos c]
     ·rw[if_neg (Ne.symm c),if_neg c];simp
    by_cases c:x=p
    ·have ec:((x:Int)==(p:Int))=true:=by rw[c];simp
     rw[if_pos c] at tn;simp only[go_sem,seval,decide_eq_true e1,ec,e0,e1,Ab,q_g,e2,e3,e4,Cp,w64 (show fit ((x:Int)+1) by unfold fit;omega)];refine fun _=>?_
     rw[tn];exact Dq 5 (by simp[An]) (by simp) (by simp[Bb]) (by simp)
    ·have ec:((x:Int)==(p:Int))=false:=by rw[beq_eq_false_iff_ne];omega
     rw[if_neg c] at tn;simp only[go_sem,seval,decide_eq_true e1,ec,e0,e1,Ab,q_g,e2,e3,e4,hg,Zp,w64 (show fit ((x:Int)+1) by unfold fit;omega)];refine fun _=>?_
     rw[tn];exact Dq 5 (by simp[An]) (by simp) (by simp[Bb]) (by simp)
   ·have:x=l.length:=by omega
    subst this;have Gv:((l.map tv).set p (tv u)).take l.length=(l.map tv).set p (tv u):=List.take_of_length_le (by simp);simp only[go_sem,seval,decide_eq_false (show ¬((l.length:Nat):Int)<l.length by omega),Gv,q_g,List.length_set]
  ·exact .trans (.ghost _ 8 5 rfl) (Au (by simp[An]))
def Ls(o:Option Tm)(t:Tm):SV:=.tup [.agg true (tv (o.getD t)),.bool o.isSome]
section
variable{B:BT}{C:Nat}
theorem len4{α:Type}{l:List α}(h:l.length=4):∃a b c d,l=[a,b,c,d]:=by
 match l,h with
 |[a,b,c,d],_=>exact⟨a,b,c,d,rfl⟩
theorem Ai5{m:Nat}{t:Tm}(h:Sf m t):Ev t<=m:=by
 induction h with
 |@var B i h=>unfold vT;rw[Ev,if_pos rfl];omega
 |@nd B k i j n l h2 h0 hf hl hk ih=>
  rw[u9 h2];refine Anq (by omega) (fun y hy=>?_);have:=ih y l[y] (q_f hy);have hb:=Vk k y;rw[q_f hy,Option.getD_some];omega
theorem kl{k i j n:Int}{l:List Tm}(h:Sf C (.mk k i j n l))(h2:k≠2):(l.length:Int)=Bh k n:=(h.node h2).2.2
theorem Auy{i j n:Int}{l:List Tm}(ht:PT C 4000 (.mk 15 i j n l))(hC:C<=60000000) :
  Con 48 [.agg true (tv (.mk 15 i j n l))] (Ls (Az B (.mk 15 i j n l)) (.mk 15 i j n l)):=by
 have hl:=kl ht.sf (by decide);rw[kids15] at hl;obtain⟨a,b,rfl⟩:=len2 (l:=l) (by omega);have k0:PT C 4000 a:=(ht.kid (p:=0) (show 0<2 by decide) (show bnd 15 0=0 by decide)).1;have k1:PT C 4000 b:=(ht.kid (p:=1) (show 1<2 by decide) (show bnd 15 1=0 by decide)).1;rw[Qt rfl];rw[show Aj (.mk 15 i j n [a,b]) 0=a from rfl,show Aj (.mk 15 i j n [a,b]) 1=b from rfl];have Wp:=Af b;cases a with
 |mk ka ia ja na la=>
  by_cases c:ka=14
  ·subst c;rw[if_pos (show (Tm.mk 14 ia ja na la).k=14 from rfl)];have Yu:=kl k0.sf (by decide);rw[kids14] at Yu;obtain⟨x,y,rfl⟩:=len2 (l:=la) (by omega);have ky:PT (C+1) 4000 y:=(k0.kid1 (p:=1) (show 1<2 by decide) (show bnd 14 1=1 by decide)).1;have h:=Awd ky k1 (by omega);have hzy:=Af y;show Con _ _ (.tup [.agg true (tv (Ip b y)),.bool true]);have Hp:=Af (Ip b y);refine Al mixed Tryz.func48 tr48 ?_;simp only[Am,q_h,q_i,go_sem,seval,Wp,hzy];refine Aa h ?_;simp only[go_sem,seval,Hp]
  ·rw[if_neg (show ¬(Tm.mk ka ia ja na la).k=14 from c)];show Con _ _ (.tup [.agg true (tv (.mk 15 i j n [.mk ka ia ja na la,b])),.bool false]);have q:(ka==14)=false:=Ag c;refine Al mixed Tryz.func48 tr48 ?_;simp only[Am,q_h,q_i,go_sem,seval,Wp,q]
theorem Auz{i j n:Int}{l:List Tm}(ht:PT C 4000 (.mk 18 i j n l))(hC:C<=60000000) :
  Con 48 [.agg true (tv (.mk 18 i j n l))] (Ls (Az B (.mk 18 i j n l)) (.mk 18 i j n l)):=by
 have hl:=kl ht.sf (by decide);rw[kids18] at hl;obtain⟨a,rfl⟩:=len1 (l:=l) (by omega);have k0:PT C 4000 a:=(ht.kid (p:=0) (show 0<1 by decide) (show bnd 18 0=0 by decide)).1;rw[Qu rfl];rw[show Aj (.mk 18 i j n [a]) 0=a from rfl];cases a with
 |mk ka ia ja na la=>
  by_cases c:ka=17
  ·subst c;rw[if_pos (show (Tm.mk 17 ia ja na la).k=17 from rfl)];have Yu:=kl k0.sf (by decide);rw[kids17] at Yu;obtain⟨x,y,u,v,rfl⟩:=len4 (l:=la) (by omega);have Ci:=Af u;have Dy:=Af v;show Con _ _ (.tup [.agg true (tv u),.bool true]);refine Al mixed Tryz.func48 tr48 ?_;simp only[Am,q_h,q_i,go_sem,seval,Ci,Dy]
  ·rw[if_neg (show ¬(Tm.mk ka ia ja na la).k=17 from c)];show Con _ _ (.tup [.agg true (tv (.mk 18 i j n [.mk ka ia ja na la])),.bool false]);have q:(ka==17)=false:=Ag c;refine Al mixed Tryz.func48 tr48 ?_;simp only[Am,q_h,q_i,go_sem,seval,q]
theorem Au2{i j n:Int}{l:List Tm}(ht:PT C 4000 (.mk 19 i j n l))(hC:C<=60000000) :
  Con 48 [.agg true (tv (.mk 19 i j n l))] (Ls (Az B (.mk 19 i j n l)) (.mk 19 i j n l)):=by
 have hl:=kl ht.sf (by decide);rw[kids19] at hl;obtain⟨a,rfl⟩:=len1 (l:=l) (by omega);have k0:PT C 4000 a:=(ht.kid (p:=0) (show 0<1 by decide) (show bnd 19 0=0 by decide)).1;rw[Qv rfl];rw[show Aj (.mk 19 i j n [a]) 0=a from rfl];cases a with
 |mk ka ia ja na la=>
  by_cases c:ka=17
  ·subst c;rw[if_pos (show (Tm.mk 17 ia ja na la).k=17 from rfl)];have Yu:=kl k0.sf (by decide);rw[kids17] at Yu;obtain⟨x,y,u,v,rfl⟩:=len4 (l:=la) (by omega);have Ci:=Af u;have Dy:=Af v;show Con _ _ (.tup [.agg true (tv v),.bool true]);refine Al mixed Tryz.func48 tr48 ?_;simp only[Am,q_h,q_i,go_sem,seval,Ci,Dy]
  ·rw[if_neg (show ¬(Tm.mk ka ia ja na la).k=17 from c)];show Con _ _ (.tup [.agg true (tv (.mk 19 i j n [.mk ka ia ja na la])),.bool false]);have q:(ka==17)=false:=Ag c;refine Al mixed Tryz.func48 tr48 ?_;simp only[Am,q_h,q_i,go_sem,seval,q]
theorem Au0{i j n:Int}{l:List Tm}(ht:PT C 4000 (.mk 22 i j n l))(hC:C<=60000000) :
  Con 48 [.agg true (tv (.mk 22 i j n l))] (Ls (Az B (.mk 22 i j n l)) (.mk 22 i j n l)):=by
 have hl:=kl ht.sf (by decide);rw[kids22] at hl;obtain⟨x1,x2,x3,x4,x5,a,rfl⟩:=len6 (l:=l) (by omega);rw[Qw rfl];rw[show Aj (.mk 22 i j n [x1,x2,x3,x4,x5,a]) 5=a from rfl,show Aj (.mk 22 i j n [x1,x2,x3,x4,x5,a]) 3=x4 from rfl];have hz4:=Af x4;cases a with
 |mk ka ia ja na la=>
  by_cases c:ka=21
  ·subst c;rw[if_pos (show (Tm.mk 21 ia ja na la).k=21 from rfl)];show Con _ _ (.tup [.agg true (tv x4),.bool true]);refine Al mixed Tryz.func48 tr48 ?_;simp only[Am,q_h,q_i,go_sem,seval,hz4]
  ·rw[if_neg (show ¬(Tm.mk ka ia ja na la).k=21 from c)];show Con _ _ (.tup [.agg true (tv (.mk 22 i j n [x1,x2,x3,x4,x5,.mk ka ia ja na la])),.bool false]);have q:(ka==21)=false:=Ag c;refine Al mixed Tryz.func48 tr48 ?_;simp only[Am,q_h,q_i,go_sem,seval,hz4,q]
theorem Au3(L:Sv B){i j n:Int}{l:List Tm}(ht:PT C 4000 (.mk 23 i j n l))(hC:C<=60000000) :
  Con 48 [.agg true (tv (.mk 23 i j n l))] (Ls (Az B (.mk 23 i j n l)) (.mk 23 i j n l)):=by
 obtain⟨_,⟨f1,f2,f3⟩,hl⟩:=ht.sf.node (by decide);have hle:=Nx 23 n;obtain⟨nm,ps,ty,bd,df,ok,Gj,hc,hb⟩:=L.at_ n i j f3 f1 f2;have Wp:=Af bd;rw[Qx rfl,show B (Tm.mk 23 i j n l).n (Tm.mk 23 i j n l).i (Tm.mk 23 i j n l).j=_ from hb];obtain⟨y1,y2,y3,y4,y5,rfl⟩:∃y1 y2 y3 y4 y5,ty=[y1,y2,y3,y4,y5]:=by
  match ty,Gj with
  |[a,b,c,d,e],_=>exact⟨a,b,c,d,e,rfl⟩
 cases ok with
 |false=>
  show Con _ _ (.tup [.agg true (tv (.mk 23 i j n l)),.bool false]);refine Al mixed Tryz.func48 tr48 ?_;simp only[Am,go_sem,seval];refine Aa hc ?_;simp only[go_sem,seval,Wp]
 |true=>
  cases df with
  |false=>
   show Con _ _ (.tup [.agg true (tv (.mk 23 i j n l)),.bool false]);refine Al mixed Tryz.func48 tr48 ?_;simp only[Am,go_sem,seval];refine Aa hc ?_;simp only[go_sem,seval,Wp]
  |true=>
   have hbb:=L.bd _ _ _ _ hb;show Con _ _ (.tup [.agg true (tv (Hx l.reverse bd)),.bool true]);have d1:=Nf bd;have s1:=hbb.sz;have h:=At5 (C:=C) (m:=10000) (l:=l) (t:=bd) (fun u hu=>by
    obtain⟨q,hq⟩:=List.getElem?_of_mem hu;have hk:=ht.kidm hq;rw[bnd23,Nat.add_zero] at hk;have d2:=Nf u;have d3:=Ad5 u;have d4:=hk.sz;exact⟨hk.tok (by omega),hk.pl,by omega,hk.sf,by omega⟩) (by omega) (by omega) (hbb.tok (by omega)) hbb.pl (by
     have:=hbb.sf
     rwa [show (Bh 23 n).toNat=l.length by omega] at this) (by omega) (by
     have:=Ai5 hbb.sf;omega)
   have Hp:=Af (Hx l.reverse bd);have Ck:(List.take 5 (List.drop 7 (nm::ps::y1::y2::y3::y4::y5::(tv bd++[SV.bool true]))))=tv bd:=by
    show List.take 5 (tv bd++[SV.bool true])=tv bd;rw[List.take_append_of_le_length (by omega),List.take_of_length_le (by omega)]
   refine Al mixed Tryz.func48 tr48 ?_;simp only[Am,go_sem,seval];refine Aa hc ?_;simp only[go_sem,seval,Wp];rw[<-Ck] at h;refine Aa h ?_;simp only[go_sem,seval,Hp]
theorem Au1{k i j n:Int}{l:List Tm}(h:k≠15/\k≠18/\k≠19/\k≠22/\k≠23) :
  Con 48 [.agg true (tv (.mk k i j n l))] (Ls (Az B (.mk k i j n l)) (.mk k i j n l)):=by
 rw[Jh (t:=.mk k i j n l) h];obtain⟨h1,h2,h3,h4,h5⟩:=h;have q1:(k==15)=false:=Ag h1;have q2:(k==18)=false:=Ag h2;have q3:(k==19)=false:=Ag h3;have q4:(k==22)=false:=Ag h4;have q5:(k==23)=false:=Ag h5;show Con _ _ (.tup [.agg true (tv (.mk k i j n l)),.bool false]);refine Al mixed Tryz.func48 tr48 ?_;simp only[Am,go_sem,seval,q1,q2,q3,q4,q5]
theorem Aux(L:Sv B){t:Tm}(ht:PT C 4000 t)(hC:C<=60000000):Con 48 [.agg true (tv t)] (Ls (Az B t) t):=by
 cases t with
 |mk k i j n l=>
  by_cases h1:k=15
  ·subst h1;exact Auy ht hC
  by_cases h2:k=18
  ·subst h2;exact Auz ht hC
  by_cases h3:k=19
  ·subst h3;exact Au2 ht hC
  by_cases h4:k=22
  ·subst h4;exact Au0 ht hC
  by_cases h5:k=23
  ·subst h5;exact Au3 L ht hC
  exact Au1 ⟨h1,h2,h3,h4,h5⟩
end
def La(T:Nat->Nat):Nat->Nat
 |0=>0
 |x+1=>La T x+T x
theorem Bde{T:Nat->Nat}{x y:Nat}(h:x<=y):La T x<=La T y:=by
 induction y with
 |zero=>have:x=0:=by omega
        subst this;exact Nat.le_refl _
 |succ y ih=>
  by_cases e:x=y+1
  ·subst e;exact Nat.le_refl _
  ·have:=ih (by omega);rw[La];omega
theorem Bdf(T:Nat->Nat):∀x,La T (x+1)=T 0+La (fun y=>T (y+1)) x:=by
 intro x
 induction x with
 |zero=>simp[La]
 |succ x ih=>rw[La,ih,La];omega
theorem Ant:∀l:List Tm,La (fun y=>tsz (l[y]?.getD default)) l.length=(l.map tsz).sum:=by
 intro l
 induction l with
 |nil=>rfl
 |cons a l ih=>
  rw[List.length_cons,Bdf];simp only[List.getElem?_cons_zero,List.getElem?_cons_succ,Option.getD_some,q_h,List.sum_cons];rw[ih]
theorem Bfy{a:Int}{V:Nat->Int->Int}{T:Nat->Nat}{most:Int}{n:Nat}(h0:0<=a)(h1:a<=1)(hm:0<=most)(hm2:most<=1000000)
  (hV:∀x,x<n->∀m,0<=m->m<=1000000->V x m=min (T x:Int) (m+1)) :
  ∀x,x<=n->(∀y,y<x->Dj a V most y<=most)->Dj a V most x=min (a+La T x) (most+1):=by
 intro x
 induction x with
 |zero=>intro _ _;show a=min (a+((0:Nat):Int)) (most+1);omega
 |succ x ih=>
  intro hx hle;have g:=ih (by omega) (fun y hy=>hle y (by omega));have hs:=hle x (by omega);have e1:IntKind.i64.wrap (most-Dj a V most x)=most-Dj a V most x:=w64 (by unfold fit;omega);have v:=hV x (by omega) (most-Dj a V most x) (by omega) (by omega);show IntKind.i64.wrap (Dj a V most x+V x (IntKind.i64.wrap (most-Dj a V most x)))=_;rw[e1,v,La,w64 (by unfold fit;omega)];omega
theorem Bfz{a:Int}{V:Nat->Int->Int}{T:Nat->Nat}{most:Int}{n:Nat}(h0:0<=a)(h1:a<=1)(hm:0<=most)(hm2:most<=1000000)
  (hV:∀x,x<n->∀m,0<=m->m<=1000000->1<=V x m/\V x m<=m+1/\(V x m<=m->V x m=(T x:Int))) :
  ∀x,x<=n->(∀y,y<x->Dj a V most y<=most)->0<=Dj a V most x/\a<=Dj a V most x/\Dj a V most x<=most+1/\(Dj a V most x<=most->Dj a V most x=a+La T x):=by
 intro x
 induction x with
 |zero=>intro _ _;exact⟨h0,Int.le_refl _,by show a<=most+1;omega,fun _=>by show a=a+((0:Nat):Int);omega⟩
 |succ x ih=>
  intro hx hle;obtain⟨g1,g0,g2,g3⟩:=ih (by omega) (fun y hy=>hle y (by omega));have hs:=hle x (by omega);have e1:IntKind.i64.wrap (most-Dj a V most x)=most-Dj a V most x:=w64 (by unfold fit;omega);obtain⟨v1,v2,v3⟩:=hV x (by omega) (most-Dj a V most x) (by omega) (by omega);have e2:Dj a V most (x+1)=Dj a V most x+V x (most-Dj a V most x):=by
   show IntKind.i64.wrap (Dj a V most x+V x (IntKind.i64.wrap (most-Dj a V most x)))=_;rw[e1,w64 (by unfold fit;omega)]
  rw[e2,La];have g3':=g3 hs;refine⟨by omega,by omega,by omega,fun h=>?_⟩;have:=v3 (by omega);omega
theorem Bfo(k i j n most:Int)(rows:GV)(V:Nat->Int->Int)(h2:rows.length*56<=140737488355328)(h5:∀r∈rows,r.length=5)
  (H:∀x,x<rows.length->∀m,Con 43 [.agg true (rows[x]?.getD []),.int .i64 m] (.int .i64 (V x m))) (m:Nat) (Ml:m<=rows.length)
  (hm2:m=rows.length\/most<Dj 1 V most m) (Ub:∀y,y<m->¬most<Dj 1 V most y) :
  Con 43 [.agg true [.int .i64 k,.int .i64 i,.int .i64 j,.int .i64 n,.dsl 5 rows],.int .i64 most] (.int .i64 (Dj 1 V most m)):=by
 refine Al mixed Tryz.func43 tr43 ?_;simp only[go_sem,seval];refine Jj (fun x=>⟨(.J::.int .i64 most::.ref 0 0 0 0::.J::.int .i64 0::.int .i64 (Dj 1 V most x)::.int .i64 x::.J::.J::.J::.J::.J::.J::.J::.J::.J::.J::.J::.J::.J::.J::.J::.J::.J::.J::.J::.J::.J::.J::.J::.J::[]),[⟨true,5,[[.int .i64 k,.int .i64 i,.int .i64 j,.int .i64 n,.dsl 5 rows]],0,0,true⟩]⟩) m (fun x hx=>?_) ?_
 ·simp only[go_sem,seval];intro _
  by_cases hxm:x=m
  ·subst hxm;rcases hm2 with rfl|hm2
   ·have hl:¬((rows.length:Int)<(rows.length:Int)):=by omega
    simp only[go_sem,seval,hl]
   ·have hl:¬(Dj 1 V most x<=most):=by omega
    refine⟨fun h=>?_,fun h=>?_⟩
    ·simp only[go_sem,seval,h,hl]
    ·simp only[go_sem,seval,h,hl]
  ·have Fq:x<rows.length:=by omega
   have Zn:(x:Int)<(rows.length:Int):=by omega
   have e0:(0:Int)<=(x:Int):=by omega
   have hle:Dj 1 V most x<=most:=by have:=Ub x (by omega);omega
   have hm:=Ig (d:=[]) Fq;have Dw:=h5 _ hm;simp only[go_sem,seval,Zn,hle,e0,Dw];refine Aa (H x Fq _) ?_;simp only[go_sem,seval];refine⟨by omega,?_⟩;rw[w64 (n:=(x:Int)+1) (by unfold fit;omega)];exact Au (by simp[An,Dj])
 ·exact Au (by simp[An,Dj])
def Sm(t:Tm)(V:Int->Int):Prop:=(∀m,Con 43 [.agg true (tv t),.int .i64 m] (.int .i64 (V m)))/\∀m,0<=m->m<=1000000->V m=min (tsz t:Int) (m+1)
theorem Awc(t:Tm):TOk t->∃V,Sm t V:=by
 induction t using Tm.ind with
 |h k i j n l ih=>
  intro hok;obtain⟨_,_,_,_,hb,hl⟩:=Xd hok;have H:∀x:Nat,∃V,x<l.length->Sm (l[x]?.getD default) V:=fun x=>by
   by_cases hx:x<l.length
   ·obtain⟨V,hV⟩:=ih _ (Ig (d:=default) hx) (hl _ (Ig (d:=default) hx));exact⟨V,fun _=>hV⟩
   ·exact⟨fun _=>0,fun h=>absurd h hx⟩
  obtain⟨V,hV⟩:=Classical.axiomOfChoice H;have Bt:∀y,y<l.length->(l.map tv)[y]?.getD []=tv (l[y]?.getD default):=fun y hy=>by
   rw[List.getElem?_map,q_f hy];rfl
  have P:∀most,∃z,Con 43 [.agg true (tv (.mk k i j n l)),.int .i64 most] (.int .i64 z)/\(0<=most->most<=1000000->z=min (tsz (.mk k i j n l):Int) (most+1)):=fun most=>by
   obtain⟨x,Pa,Kv,Zl⟩:=least (fun x=>most<Dj 1 V most x) (l.map tv).length;refine⟨Dj 1 V most x,?_,fun h1 h2=>?_⟩
   ·rw[Am];exact Bfo k i j n most (l.map tv) V (by simpa using hb) (rows5 l) (fun y hy m=>by
     rw[q_g] at hy;rw[Bt y hy];exact (hV y hy).1 m) x Pa Kv Zl
   ·have Ae1:∀y,y<x->Dj 1 V most y<=most:=fun y hy=>by have:=Zl y hy;omega
    rw[q_g] at Pa Kv;have:=Bfy (a:=1) (T:=fun y=>tsz (l[y]?.getD default)) (n:=l.length) (by omega) (by omega) h1 h2 (fun y hy m q1 q2=>(hV y hy).2 m q1 q2) x Pa Ae1;rw[Gk,<-Ant];rcases Kv with rfl|Kv
    ·rw[this];omega
    ·have hle:=Bde (T:=fun y=>tsz (l[y]?.getD default)) Pa;omega
  obtain⟨Z,hZ⟩:=Classical.axiomOfChoice P;exact⟨Z,fun m=>(hZ m).1,fun m=>(hZ m).2⟩
theorem Ah3{t:Tm}(ht:TOk t){m:Int}(h0:0<=m)(h1:m<=1000000):Con 43 [.agg true (tv t),.int .i64 m] (.int .i64 (min (tsz t:Int) (m+1))):=by
 obtain⟨V,h2,h3⟩:=Awc t ht;have:=h2 m
 rwa [h3 m h0 h1] at this
def HsC(B:BT)(t:Tm):Prop:=(∃u,HS (Az B) t u/\Con 42 [.agg true (tv t)] (.tup [.agg true (tv u),.bool true]))\/(HN (Az B) t/\Con 42 [.agg true (tv t)] (.tup [.agg true (tv t),.bool false]))
section
variable{B:BT}{C:Nat}
theorem A4q{t u:Tm}(h:Con 48 [.agg true (tv t)] (Ls (Az B t) t))(hp:Az B t=some u):HsC B t:=by
 refine .inl ⟨u,.here hp,?_⟩;rw[hp] at h;have h':Con 48 [.agg true (tv t)] (.tup [.agg true (tv u),.bool true]):=h;have hz:=Af t;have Cp:=Af u;refine Al mixed Tryz.func42 tr42 ?_;simp only[go_sem,seval,hz];refine Aa h' ?_;simp only[go_sem,seval,Cp]
theorem A4s{k i j n:Int}{l:List Tm}(h:Con 48 [.agg true (tv (.mk k i j n l))] (Ls (Az B (.mk k i j n l)) (.mk k i j n l)))(hp:Az B (.mk k i j n l)=none)(hk:k≠15/\k≠18/\k≠19/\k≠22):HsC B (.mk k i j n l):=by
 refine .inr ⟨.mk hp (fun p h=>?_),?_⟩
 ·have:=Ji h;simp only[Tm.k] at this;omega
 rw[hp] at h;have h':Con 48 [.agg true (tv (.mk k i j n l))] (.tup [.agg true (tv (.mk k i j n l)),.bool false]):=h;rw[Am] at h' |-;obtain⟨h1,h2,h3,h4⟩:=hk;have q1:(k==15)=false:=Ag h1;have q2:(k==18)=false:=Ag h2;have q3:(k==19)=false:=Ag h3;have q4:(k==22)=false:=Ag h4;refine Al mixed Tryz.func42 tr42 ?_;simp only[go_sem,seval];refine Aa h' ?_;simp only[go_sem,seval,q1,q2,q3,q4]
theorem A4m{i j n:Int}{l:List Tm}(ht:PT C 4000 (.mk 15 i j n l))(h:Con 48 [.agg true (tv (.mk 15 i j n l))] (Ls (Az B (.mk 15 i j n l)) (.mk 15 i j n l)))(hp:Az B (.mk 15 i j n l)=none)(ih:∀t∈l,PT C 4000 t->HsC B t):HsC B (.mk 15 i j n l):=by
 have hl:=kl ht.sf (by decide);rw[kids15] at hl;obtain⟨a,b,rfl⟩:=len2 (l:=l) (by omega);rw[hp] at h;have h':Con 48 [.agg true (tv (.mk 15 i j n [a,b]))] (.tup [.agg true (tv (.mk 15 i j n [a,b])),.bool false]):=h;have k0:PT C 4000 a:=(ht.kid (p:=0) (show 0<2 by decide) (show bnd 15 0=0 by decide)).1;have hz:=Af a;rcases ih a (by simp) k0 with⟨u,hs,hc⟩|⟨hn,hc⟩
 ·have hd:HS (Az B) (.mk 15 i j n [a,b]) (.mk 15 i j n [u,b]):=.down (p:=0) hp rfl hs;refine .inl ⟨_,hd,?_⟩;have hw:=r9 (.mk 15 i j n [a,b]) u (by simp[Tm.kids]) 0 (by decide);have He:Con 49 [.agg true (tv (.mk 15 i j n [a,b])),.int .i64 0,.agg true (tv u)] (.agg true (tv (.mk 15 i j n [u,b]))):=hw;have Cp:=Af u;rw[Am] at h' He |-;rw[Am] at He |-;simp only[q_h,q_i] at h' He |-;refine Al mixed Tryz.func42 tr42 ?_;simp only[go_sem,seval];refine Aa h' ?_;simp only[go_sem,seval,hz];refine Aa hc ?_;simp only[go_sem,seval,Cp];refine Aa He ?_;simp only[go_sem,seval]
 ·refine .inr ⟨.mk hp (fun p h=>?_),?_⟩
  ·have e:p=0:=by
    have:stk 15=some p:=h;have e2:stk 15=some 0:=by decide
    rw[e2,q_b] at this;exact this.symm
   subst e;exact hn
  rw[Am] at h' |-;simp only[q_h,q_i] at h' |-;refine Al mixed Tryz.func42 tr42 ?_;simp only[go_sem,seval];refine Aa h' ?_;simp only[go_sem,seval,hz];refine Aa hc ?_;simp only[go_sem,seval,hz]
theorem A4n{i j n:Int}{l:List Tm}(ht:PT C 4000 (.mk 18 i j n l))(h:Con 48 [.agg true (tv (.mk 18 i j n l))] (Ls (Az B (.mk 18 i j n l)) (.mk 18 i j n l)))(hp:Az B (.mk 18 i j n l)=none)(ih:∀t∈l,PT C 4000 t->HsC B t):HsC B (.mk 18 i j n l):=by
 have hl:=kl ht.sf (by decide);rw[kids18] at hl;obtain⟨a,rfl⟩:=len1 (l:=l) (by omega);rw[hp] at h;have h':Con 48 [.agg true (tv (.mk 18 i j n [a]))] (.tup [.agg true (tv (.mk 18 i j n [a])),.bool false]):=h;have k0:PT C 4000 a:=(ht.kid (p:=0) (show 0<1 by decide) (show bnd 18 0=0 by decide)).1;have hz:=Af a;rcases ih a (by simp) k0 with⟨u,hs,hc⟩|⟨hn,hc⟩
 ·have hd:HS (Az B) (.mk 18 i j n [a]) (.mk 18 i j n [u]):=.down (p:=0) hp rfl hs;refine .inl ⟨_,hd,?_⟩;have hw:=r9 (.mk 18 i j n [a]) u (by simp[Tm.kids]) 0 (by decide);have He:Con 49 [.agg true (tv (.mk 18 i j n [a])),.int .i64 0,.agg true (tv u)] (.agg true (tv (.mk 18 i j n [u]))):=hw;have Cp:=Af u;rw[Am] at h' He |-;rw[Am] at He |-;simp only[q_h,q_i] at h' He |-;refine Al mixed Tryz.func42 tr42 ?_;simp only[go_sem,seval];refine Aa h' ?_;simp only[go_sem,seval,hz];refine Aa hc ?_;simp only[go_sem,seval,Cp];refine Aa He ?_;simp only[go_sem,seval]
 ·refine .inr ⟨.mk hp (fun p h=>?_),?_⟩
  ·have e:p=0:=by
    have:stk 18=some p:=h;have e2:stk 18=some 0:=by decide
    rw[e2,q_b] at this;exact this.symm
   subst e;exact hn
  rw[Am] at h' |-;simp only[q_h,q_i] at h' |-;refine Al mixed Tryz.func42 tr42 ?_;simp only[go_sem,seval];refine Aa h' ?_;simp only[go_sem,seval,hz];refine Aa hc ?_;simp only[go_sem,seval,hz]
theorem A4o{i j n:Int}{l:List Tm}(ht:PT C 4000 (.mk 19 i j n l))(h:Con 48 [.agg true (tv (.mk 19 i j n l))] (Ls (Az B (.mk 19 i j n l)) (.mk 19 i j n l)))(hp:Az B (.mk 19 i j n l)=none)(ih:∀t∈l,PT C 4000 t->HsC B t):HsC B (.mk 19 i j n l):=by
 have hl:=kl ht.sf (by decide);rw[kids19] at hl;obtain⟨a,rfl⟩:=len1 (l:=l) (by omega);rw[hp] at h;have h':Con 48 [.agg true (tv (.mk 19 i j n [a]))] (.tup [.agg true (tv (.mk 19 i j n [a])),.bool false]):=h;have k0:PT C 4000 a:=(ht.kid (p:=0) (show 0<1 by decide) (show bnd 19 0=0 by decide)).1;have hz:=Af a;rcases ih a (by simp) k0 with⟨u,hs,hc⟩|⟨hn,hc⟩
 ·have hd:HS (Az B) (.mk 19 i j n [a]) (.mk 19 i j n [u]):=.down (p:=0) hp rfl hs;refine .inl ⟨_,hd,?_⟩;have hw:=r9 (.mk 19 i j n [a]) u (by simp[Tm.kids]) 0 (by decide);have He:Con 49 [.agg true (tv (.mk 19 i j n [a])),.int .i64 0,.agg true (tv u)] (.agg true (tv (.mk 19 i j n [u]))):=hw;have Cp:=Af u;rw[Am] at h' He |-;rw[Am] at He |-;simp only[q_h,q_i] at h' He |-;refine Al mixed Tryz.func42 tr42 ?_;simp only[go_sem,seval];refine Aa h' ?_;simp only[go_sem,seval,hz];refine Aa hc ?_;simp only[go_sem,seval,Cp];refine Aa He ?_;simp only[go_sem,seval]
 ·refine .inr ⟨.mk hp (fun p h=>?_),?_⟩
  ·have e:p=0:=by
    have:stk 19=some p:=h;have e2:stk 19=some 0:=by decide
    rw[e2,q_b] at this;exact this.symm
   subst e;exact hn
  rw[Am] at h' |-;simp only[q_h,q_i] at h' |-;refine Al mixed Tryz.func42 tr42 ?_;simp only[go_sem,seval];refine Aa h' ?_;simp only[go_sem,seval,hz];refine Aa hc ?_;simp only[go_sem,seval,hz]
theorem A4p{i j n:Int}{l:List Tm}(ht:PT C 4000 (.mk 22 i j n l))(h:Con 48 [.agg true (tv (.mk 22 i j n l))] (Ls (Az B (.mk 22 i j n l)) (.mk 22 i j n l)))(hp:Az B (.mk 22 i j n l)=none)(ih:∀t∈l,PT C 4000 t->HsC B t):HsC B (.mk 22 i j n l):=by
 have hl:=kl ht.sf (by decide);rw[kids22] at hl;obtain⟨x1,x2,x3,x4,x5,a,rfl⟩:=len6 (l:=l) (by omega);rw[hp] at h;have h':Con 48 [.agg true (tv (.mk 22 i j n [x1,x2,x3,x4,x5,a]))] (.tup [.agg true (tv (.mk 22 i j n [x1,x2,x3,x4,x5,a])),.bool false]):=h;have k0:PT C 4000 a:=(ht.kid (p:=5) (show 5<6 by decide) (show bnd 22 5=0 by decide)).1;have hz:=Af a;rcases ih a (by simp) k0 with⟨u,hs,hc⟩|⟨hn,hc⟩
 ·have hd:HS (Az B) (.mk 22 i j n [x1,x2,x3,x4,x5,a]) (.mk 22 i j n [x1,x2,x3,x4,x5,u]):=.down (p:=5) hp rfl hs;refine .inl ⟨_,hd,?_⟩;have hw:=r9 (.mk 22 i j n [x1,x2,x3,x4,x5,a]) u (by simp[Tm.kids]) 5 (by decide);have He:Con 49 [.agg true (tv (.mk 22 i j n [x1,x2,x3,x4,x5,a])),.int .i64 5,.agg true (tv u)] (.agg true (tv (.mk 22 i j n [x1,x2,x3,x4,x5,u]))):=hw;have Cp:=Af u;rw[Am] at h' He |-;rw[Am] at He |-;simp only[q_h,q_i] at h' He |-;refine Al mixed Tryz.func42 tr42 ?_;simp only[go_sem,seval];refine Aa h' ?_;simp only[go_sem,seval,hz];refine Aa hc ?_;simp only[go_sem,seval,Cp];refine Aa He ?_;simp only[go_sem,seval]
 ·refine .inr ⟨.mk hp (fun p h=>?_),?_⟩
  ·have e:p=5:=by
    have:stk 22=some p:=h;have e2:stk 22=some 5:=by decide
    rw[e2,q_b] at this;exact this.symm
   subst e;exact hn
  rw[Am] at h' |-;simp only[q_h,q_i] at h' |-;refine Al mixed Tryz.func42 tr42 ?_;simp only[go_sem,seval];refine Aa h' ?_;simp only[go_sem,seval,hz];refine Aa hc ?_;simp only[go_sem,seval,hz]
theorem Ahq(L:Sv B)(hC:C<=60000000)(t:Tm):PT C 4000 t->HsC B t:=by
 induction t using Tm.ind with
 |h k i j n l ih=>
  intro ht;have h:=Aux (B:=B) L ht hC;cases hp:Az B (.mk k i j n l) with
  |some u=>exact A4q h hp
  |none=>
   by_cases h1:k=15
   ·subst h1;exact A4m ht h hp ih
   by_cases h2:k=18
   ·subst h2;exact A4n ht h hp ih
   by_cases h3:k=19
   ·subst h3;exact A4o ht h hp ih
   by_cases h4:k=22
   ·subst h4;exact A4p ht h hp ih
   exact A4s h hp ⟨h1,h2,h3,h4⟩
end
def Do(N:Nat)(o:Bool):List SV:=[.int .i64 N,.bool o]
inductive CHd:Nat->Tm->Nat->Bool->Tm->Prop
 |stop {N:Nat} {t:Tm} (hc:Con 42 [.agg true (tv t)] (.tup [.agg true (tv t),.bool false])):CHd N t N false t
 |far {N:Nat} {t u:Tm} (hc:Con 42 [.agg true (tv t)] (.tup [.agg true (tv u),.bool true])) (hN:N=4000):CHd N t (N+1) true u
 |big {N:Nat} {t u:Tm} (hc:Con 42 [.agg true (tv t)] (.tup [.agg true (tv u),.bool true])) (hN:N+1<=4000) (hu:TOk u) (hs:4000<tsz u):CHd N t (N+1) true u
 |step {N N':Nat} {t u t':Tm} {o:Bool} (hc:Con 42 [.agg true (tv t)] (.tup [.agg true (tv u),.bool true])) (hN:N+1<=4000) (hu:TOk u) (hs:tsz u<=4000) (hr:CHd (N+1) u N' o t'):CHd N t N' o t'
def HdL(G:GV)(sid:Nat)(t:Tm)(out:HOut)(G':GV)(n:Nat):Prop:=
 vcI (Av Tryz.prog fun _ _=>False) a20_21 (bk 0 (sq (Av Tryz.prog fun _ _=>False) a20_25 (rtG [.cell 4 true 5] out G'))) n ⟨(.gp sid 0::.J::.J::.ref 1 0 0 0::.ref 2 0 0 0::.J::.J::.J::.J::.J::.J::.J::.J::.J::.J::.J::.J::.J::.J::.J::.J::.J::.J::.J::.J::.J::.J::.J::.J::.J::.J::.J::.J::.J::.J::.J::.J::.J::.J::.J::.J::.J::[]),[gOb G,⟨true,5,[tv t],0,0,true⟩,⟨true,5,[[.int .i64 0,.int .i64 0,.int .i64 0,.int .i64 0,.nils]],0,0,true⟩]⟩
theorem Aj0{G:GV}{sid N:Nat}{t:Tm}(hG:G[sid]?=some (Do N true)):HdL G sid t (.ret (.agg true (tv t))) G 1:=by
 have hz:=Af t;refine Ak ?_;simp only[go_sem,seval,hG,Do,hz]
theorem A3y{G:GV}{sid N N':Nat}{t t':Tm}{o:Bool}(h:CHd N t N' o t')(hG:G[sid]?=some (Do N false))(hN:N<=4000):∃n,HdL G sid t (.ret (.agg true (tv t'))) (G.set sid (Do N' o)) n:=by
 induction h generalizing G with
 |@stop N t hc=>
  have hz:=Af t;refine⟨1,Ak ?_⟩;rw[show G.set sid (Do N false)=G from v7 hG];simp only[go_sem,seval,hG,Do,hz];refine Aa hc ?_;simp only[go_sem,seval,hz]
 |@far N t u hc hN4=>
  have hz:=Af t;have Cp:=Af u;have eN:((N+1:Nat):Int)=(N:Int)+1:=rfl;have h2:=Aj0 (G:=G.set sid (Do (N+1) true)) (t:=u) (sid:=sid) (N:=N+1) (Fg hG);refine⟨2,Ak ?_⟩;unfold HdL at h2;simp only[Do,eN] at h2 |-;simp only[go_sem,seval,hG,Do,hz];refine Aa hc ?_;simp only[go_sem,seval,Cp,hG,Do,Fg hG,Mw,Kj,w64 (show fit ((N:Int)+1) by unfold fit;omega),decide_eq_true (show (N:Int)+1 > 4000 by omega)];exact Cr (Dq 3 (by simp[An]) (by simp) (by simp[Bb]) (by simp[gOb])) h2
 |@big N t u hc hN1 hu hs=>
  have hz:=Af t;have Cp:=Af u;have eN:((N+1:Nat):Int)=(N:Int)+1:=rfl;have h2:=Aj0 (G:=G.set sid (Do (N+1) true)) (t:=u) (sid:=sid) (N:=N+1) (Fg hG);have Qj:=Ah3 hu (m:=4000) (by decide) (by decide);refine⟨2,Ak ?_⟩;unfold HdL at h2;simp only[Do,eN] at h2 |-;simp only[go_sem,seval,hG,Do,hz];refine Aa hc ?_;simp only[go_sem,seval,Cp,hG,Do,Fg hG,Mw,Kj,w64 (show fit ((N:Int)+1) by unfold fit;omega),decide_eq_false (show ¬(N:Int)+1 > 4000 by omega)];refine Aa Qj ?_;simp only[go_sem,seval,Cp,hG,Do,Fg hG,Mw,Kj,decide_eq_true (show 4000<min (tsz u:Int) 4001 by omega)];exact Cr (Dq 3 (by simp[An]) (by simp) (by simp[Bb]) (by simp[gOb])) h2
 |@step N N' t u t' o hc hN1 hu hs hr ih=>
  have hz:=Af t;have Cp:=Af u;have eN:((N+1:Nat):Int)=(N:Int)+1:=rfl;obtain⟨n,h2⟩:=ih (G:=G.set sid (Do (N+1) false)) (Fg hG) hN1;have Qj:=Ah3 hu (m:=4000) (by decide) (by decide);refine⟨n+1,Ak ?_⟩;rw[Kj] at h2;unfold HdL at h2;simp only[Do,eN] at h2 |-;simp only[go_sem,seval,hG,Do,hz];refine Aa hc ?_;simp only[go_sem,seval,Cp,hG,Do,Fg hG,Mw,Kj,w64 (show fit ((N:Int)+1) by unfold fit;omega),decide_eq_false (show ¬(N:Int)+1 > 4000 by omega)];refine Aa Qj ?_;simp only[go_sem,seval,Cp,hG,Do,Fg hG,Mw,Kj,decide_eq_false (show ¬4000<min (tsz u:Int) 4001 by omega)];exact Cr (Dq 3 (by simp[An]) (by simp) (by simp[Bb]) (by simp[gOb])) h2
theorem A3l{G:GV}{sid N N':Nat}{t t':Tm}{o:Bool}(h:CHd N t N' o t')(hG:G[sid]?=some (Do N false))(hN:N<=4000):Ad 20 G [.gp sid 0,.agg true (tv t)] (.ret (.agg true (tv t'))) (G.set sid (Do N' o)):=by
 obtain⟨n,h2⟩:=A3y h hG hN;refine Aq mixed Tryz.func20 tr20 ?_;simp only[go_sem,seval,Af];exact Cd n (Cr (Au (by simp[An])) h2)
def CN(t:Tm)(N:Nat)(N':Nat)(o':Bool)(r:Tm):Prop:=∀(sid:Nat) (G:GV),G[sid]?=some (Do N false)->Ad 24 G [.gp sid 0,.agg true (tv t)] (.ret (.agg true (tv r))) (G.set sid (Do N' o'))
inductive CNl:List Tm->Nat->Bool->Nat->Bool->List Tm->Prop
 |nil {N:Nat} {o:Bool}:CNl [] N o N o []
 |out {a:Tm} {l:List Tm} {N:Nat}:CNl (a::l) N true N true []
 |cons {a r:Tm} {l rs:List Tm} {N N1 N2:Nat} {o1 o2:Bool} (h:CN a N N1 o1 r) (hl:CNl l N1 o1 N2 o2 rs):CNl (a::l) N false N2 o2 (r::rs)
def nS(G:GV)(sid:Nat)(k i j n:Int)(l done:List Tm):St:=
 ⟨(.gp sid 0::.J::.J::.ref 1 0 0 0::.ref 2 0 0 0::.ref 3 0 0 0::.osl 4 done.length 0 done.length::.int .i64 done.length::.J::.J::.J::.J::.J::.J::.J::.J::.J::.J::.J::.J::.J::.J::.J::.J::.J::.J::.J::.J::.J::.J::.J::.J::.J::.J::.J::.J::.J::.J::.J::.J::.J::.J::.J::.J::.J::.J::.J::[]),[gOb G,⟨true,5,[[.int .i64 k,.int .i64 i,.int .i64 j,.int .i64 n,.dsl 5 (l.map tv)]],0,0,true⟩,⟨true,5,[[.int .i64 0,.int .i64 0,.int .i64 0,.int .i64 0,.nils]],0,0,true⟩,⟨true,5,[[.int .i64 k,.int .i64 i,.int .i64 j,.int .i64 n,.nils]],0,0,true⟩,⟨false,5,done.map tv,done.length-1,done.length,true⟩]⟩
def NoL(G:GV)(sid:Nat)(k i j n:Int)(l done:List Tm)(out:HOut)(G':GV)(m:Nat):Prop:=
 vcI (Av Tryz.prog fun _ _=>False) a24_12 (bk 0 (sq (Av Tryz.prog fun _ _=>False) a24_19 (rtG [.cell 4 true 5] out G'))) m (nS G sid k i j n l done)
theorem Am4{G:GV}{sid N:Nat}{o:Bool}{k i j n:Int}{l done:List Tm}(Dc:l.length<=100)(hd:done.length<=100)(hG:G[sid]?=some (Do N o))(h:o=true\/l.length<=done.length):NoL G sid k i j n l done (.ret (.agg true (tv (.mk k i j n done)))) G 1:=by
 refine Ak ?_;unfold nS;rw[Am];have ht:(done.map tv).take done.length=done.map tv:=List.take_of_length_le (by simp)
 by_cases c:l.length<=done.length
 ·simp only[go_sem,seval,hG,Do,q_g,decide_eq_false (show ¬(done.length:Int)<l.length by omega),ht]
 ·have ho:o=true:=by rcases h with h|h;exact h;exact absurd h c
  subst ho;simp only[go_sem,seval,hG,Do,q_g,decide_eq_true (show (done.length:Int)<l.length by omega),ht]
theorem A9g{sid N N':Nat}{o o':Bool}{ls rs:List Tm}(h:CNl ls N o N' o' rs):∀{G:GV} {k i j n:Int} {l done:List Tm},l.length<=100->done.length<=100->G[sid]?=some (Do N o)->l.drop done.length=ls->∃m,NoL G sid k i j n l done (.ret (.agg true (tv (.mk k i j n (done++rs))))) (G.set sid (Do N' o')) m:=by
 induction h with
 |@nil N o=>
  intro G k i j n l done Dc hd hG hl;rw[v7 hG,List.append_nil];exact⟨1,Am4 Dc hd hG (.inr (List.drop_eq_nil_iff.1 hl))⟩
 |@out a l' N=>
  intro G k i j n l done Dc hd hG hl;rw[v7 hG,List.append_nil];exact⟨1,Am4 Dc hd hG (.inl rfl)⟩
 |@cons a r l' rs N N1 N2 o1 o2 h Ot ih=>
  intro G k i j n l done Dc hd hG hl;have hx:l[done.length]?=some a:=by have:=congrArg (fun l=>l[0]?) hl;simpa using this
  have Ab:=Dh hx;have hl2:l.drop (done++[r]).length=l':=by
   rw[List.length_append,List.length_singleton];have:=congrArg (List.drop 1) hl
   rwa [List.drop_drop] at this
  obtain⟨m,h2⟩:=ih (G:=G.set sid (Do N1 o1)) (k:=k) (i:=i) (j:=j) (n:=n) (l:=l) (done:=done++[r]) Dc (by simp;omega) (Fg hG) hl2;rw[Kj,List.append_assoc,List.singleton_append] at h2;refine⟨m+1,Ak ?_⟩;unfold NoL at h2;unfold nS at h2 |-;have hza:=Af a;have Qp:=Af r;have e0:(0:Int)<=(done.length:Int):=by omega
  have e1:(done.length:Int)<(l.length:Int):=by omega
  have hg:(l.map tv)[done.length]?.getD []=tv a:=by rw[List.getElem?_map,hx];rfl
  have e3:(done.length+1)*56<=140737488355328:=by omega
  have e4:done.length+1<=140737488355328:=by omega
  simp only[go_sem,seval,hG,Do,q_g,e0,e1,Ab,hg,hza,decide_eq_true e1];refine fun _=>Ac (h sid G hG) ?_
  simp only[go_sem,seval,Qp,e3,e4,q_g,w64 (show fit ((done.length:Int)+1) by unfold fit;omega)];have eL:(done++[r]).length=done.length+1:=by simp
  have eN:((done.length+1:Nat):Int)=(done.length:Int)+1:=rfl;have eM:(done++[r]).map tv=done.map tv++[tv r]:=by simp
  have e5:(done.map tv).take done.length=done.map tv:=List.take_of_length_le (by simp);simp only[eL,eN,eM,Nat.add_sub_cancel,Do] at h2;exact Cr (Dq 5 (by simp[An]) (by simp[Do]) (by simp[Bb]) (by simp[gOb])) h2
theorem At2{N N1 N2:Nat}{t:Tm}{k i j n:Int}{l rs:List Tm}{o1 o2:Bool}(h:CHd N t N1 o1 (.mk k i j n l))(hl:CNl l N1 o1 N2 o2 rs)(hN:N<=4000)(Dc:l.length<=100):CN t N N2 o2 (.mk k i j n rs):=by
 intro sid G hG;have h1:=A3l h hG hN;obtain⟨m,h2⟩:=A9g hl (G:=G.set sid (Do N1 o1)) (k:=k) (i:=i) (j:=j) (n:=n) (l:=l) (done:=[]) Dc (by simp) (Fg hG) rfl;rw[Kj,List.nil_append] at h2;refine Aq mixed Tryz.func24 tr24 ?_;simp only[go_sem,seval,Af];refine Ac h1 ?_;rw[Am] at h2 |-;rw[Am];simp only[go_sem,seval];unfold NoL nS at h2;exact Cd m (Cr (.trans (.ghost _ 6 5 rfl) (Au (by simp[An]))) h2)
section
variable{B:BT}
theorem PT.mono{C M M':Nat}{t:Tm}(h:PT C M t)(hm:tsz t<=M'):PT C M' t:=⟨h.pl,h.sf,hm⟩
theorem Ba8(L:Sv B){C:Nat}(hC:C<=60000000):∀(m N:Nat) (t:Tm),4000-N<=m->N<=4000->PT C 4000 t->∃N' o t',PHd B N t N' o t'/\CHd N t N' o t'/\PT C 16000000 t'/\(o=false->tsz t'<=4000/\N'<=4000/\(N'=N->t'=t)):=by
 intro m
 induction m with
 |zero=>
  intro N t hm hN ht;rcases Ahq L hC t ht with⟨u,hs,hc⟩|⟨hn,hc⟩
  ·exact⟨N+1,true,u,.out hs (.inl (by omega)),.far hc (by omega),Aok L.bd hs hC ht,fun h=>by cases h⟩
  ·exact⟨N,false,t,.stop hn,.stop hc,ht.mono (by have:=ht.sz;omega),fun _=>⟨ht.sz,hN,fun _=>rfl⟩⟩
 |succ m ih=>
  intro N t hm hN ht;rcases Ahq L hC t ht with⟨u,hs,hc⟩|⟨hn,hc⟩
  ·have hu:=Aok L.bd hs hC ht
   by_cases hN4:N=4000
   ·exact⟨N+1,true,u,.out hs (.inl (by omega)),.far hc hN4,hu,fun h=>by cases h⟩
   by_cases Bl:tsz u<=4000
   ·obtain⟨N',o,t',h1,h2,h3,h4⟩:=ih (N+1) u (by omega) (by omega) (hu.mono Bl);have hle:=Abg h1;exact⟨N',o,t',.step hs (by omega) Bl h1,.step hc (by omega) (hu.tok (by omega)) Bl h2,h3,fun ho=>⟨(h4 ho).1,(h4 ho).2.1,fun e=>by omega⟩⟩
   ·exact⟨N+1,true,u,.out hs (.inr (by omega)),.big hc (by omega) (hu.tok (by omega)) (by omega),hu,fun h=>by cases h⟩
  ·exact⟨N,false,t,.stop hn,.stop hc,ht.mono (by have:=ht.sz;omega),fun _=>⟨ht.sz,hN,fun _=>rfl⟩⟩
def ms(N:Nat):Nat:=(4000-N)*4001
theorem Amt{N N':Nat}(h:N<=N'):ms N'<=ms N:=Nat.mul_le_mul_right _ (by omega)
theorem Amu{N N':Nat}(h:N<N')(h2:N'<=4000):ms N'+4001<=ms N:=by
 unfold ms;have:(4000-N')+1<=4000-N:=by omega
 have:=Nat.mul_le_mul_right 4001 this;omega
def Agk(B:BT)(t:Tm)(N:Nat):Prop:=∃N2 o2 r,PNx B (.inl t) N false N2 o2 (.inl r)/\CN t N N2 o2 r/\TOk r/\N<=N2/\(o2=false->N2<=4000)
theorem Bax{M:Nat}(IH:∀(N:Nat) (t:Tm) (C:Nat),ms N+tsz t<M->N<=4000->PT C 4000 t->C+2*(ms N+tsz t)<=60000000->Agk B t N) :
  ∀(l:List Tm) (N:Nat) (o:Bool),(o=false->N<=4000/\∀u∈l,ms N+tsz u<M/\∃C',PT C' 4000 u/\C'+2*(ms N+tsz u)<=60000000) ->
  ∃N2 o2 rs,PNx B (.inr l) N o N2 o2 (.inr rs)/\CNl l N o N2 o2 rs/\(∀r∈rs,TOk r)/\rs.length<=l.length/\N<=N2/\(o2=false->N2<=4000):=by
 intro l
 induction l with
 |nil=>intro N o h;exact⟨N,o,[],.nil,.nil,fun r hr=>(by cases hr),by simp,Nat.le_refl _,fun ho=>(h ho).1⟩
 |cons a l ih=>
  intro N o h;cases o with
  |true=>exact⟨N,true,[],.out,.out,fun r hr=>(by cases hr),by simp,Nat.le_refl _,fun h=>(by cases h)⟩
  |false=>
   obtain⟨hN,hu⟩:=h rfl;obtain⟨h1,C',h2,h3⟩:=hu a (by simp);obtain⟨N1,o1,r,p1,p2,p3,p4,p5⟩:=IH N a C' h1 hN h2 h3;obtain⟨N2,o2,rs,q1,q2,q3,q4,q5,q6⟩:=ih N1 o1 (fun ho=>⟨p5 ho,fun u Dx=>by
    obtain⟨k1,C2,k2,k3⟩:=hu u (by simp[Dx]);have:=Amt p4;exact⟨by omega,C2,k2,by omega⟩⟩)
   refine⟨N2,o2,r::rs,.cons p1 q1,.cons p2 q2,fun x hx=>?_,by simp;omega,by omega,q6⟩;rcases List.mem_cons.1 hx with rfl|hx
   ·exact p3
   ·exact q3 x hx
theorem Bay(L:Sv B):∀(M N:Nat) (t:Tm) (C:Nat),ms N+tsz t<M->N<=4000->PT C 4000 t->C+2*(ms N+tsz t)<=60000000->Agk B t N:=by
 intro M
 induction M with
 |zero=>intro N t C h;omega
 |succ M IH=>
  intro N t C hM hN ht hC;obtain⟨N1,o1,t1,h1,h2,h3,h4⟩:=Ba8 L (C:=C) (by omega) 4000 N t (by omega) hN ht;have hle:=Abg h1;have Bl:=ht.sz;cases t1 with
  |mk k i j n l=>
   have Ah:l.length<=12:=by
    by_cases h2:k=2
    ·subst h2;obtain⟨q,_,_,_,rfl,_⟩:=h3.sf.vr;simp
    ·have:=kl h3.sf h2;have:=Nx k n;omega
   obtain⟨N2,o2,rs,q1,q2,q3,q4,q5,q6⟩:=Bax (M:=M) IH l N1 o1 (fun ho=>by
    obtain⟨g1,g2,g3⟩:=h4 ho;refine⟨g2,fun u hu=>?_⟩;obtain⟨p,hp⟩:=List.getElem?_of_mem hu;have hb:=Tb k p;have hk:=Xg (k:=k) (i:=i) (j:=j) (n:=n) hu;have hpt:PT (C+bnd k p) 4000 u:=(h3.mono g1).kidm hp
    by_cases e:N1=N
    ·have:=g3 e;rw[<-this] at hM hC Bl;subst e;exact⟨by omega,_,hpt,by omega⟩
    ·have:=Amu (show N<N1 by omega) g2;exact⟨by omega,_,hpt,by omega⟩)
   have hok:=h3.tok (by omega);obtain⟨f1,f2,f3,f4,hb,Fy⟩:=Xd hok;exact⟨N2,o2,.mk k i j n rs,.tm h1 q1,At2 h2 q2 hN (by omega),.mk _ _ _ _ _ f1 f2 f3 f4 (by omega) q3,by omega,q6⟩
end
open Go Go.RowKit
inductive LeD:SV->SV->Prop
 |refl (v:SV):LeD v v
 |nils (sz:Nat):LeD .nils (.dsl sz [])
 |dsl (sz:Nat) (l r:GV):l.length=r.length->(∀x∈r,x.length=sz)->(∀(j:Nat) a b,l.flatten[j]?=some a->r.flatten[j]?=some b->LeD a b)->LeD (.dsl sz l) (.dsl sz r)
 |agg (l r:List SV):l.length=r.length->(∀(j:Nat) a b,l[j]?=some a->r[j]?=some b->LeD a b)->LeD (.agg true l) (.agg true r)
theorem LeD.rep{m:Mem}{a b:SV}(h:LeD a b):∀{v:Value},Rep m v a->Rep m v b:=by
 induction h with
 |refl v=>exact fun h=>h
 |nils sz=>intro v hr;cases hr;exact .dsl0 _ _ _
 |dsl sz l r hl hw _ ih=>
  intro v hr;cases hr with
  |dsl0 _ A cap=>
   have:r=[]:=List.length_eq_zero_iff.1 (by simpa using hl.symm);subst this;exact .dsl0 _ _ _
  |dsl _ _ cap b off vs h0 h1 h2 h3 h4 h5 h6=>
   have f1:l.flatten.length=l.length*sz:=If h3;have f2:r.flatten.length=r.length*sz:=If hw;rw[hl];refine .dsl sz r cap b off vs h0 (by omega) (by omega) hw (by rw[h4,f1,f2,hl]) h5 (fun j v y hv hy=>?_);have hj:j<l.flatten.length:=by
    have:=(List.getElem?_eq_some_iff.1 hv).1;omega
   exact ih j _ y (q_f hj) hy (h6 j v _ hv (q_f hj))
 |agg l r hl _ ih=>
  intro v hr;cases hr with
  |agg vs _ h0 h1 h2=>
   refine .agg vs r h0 (by omega) (fun j v y hv hy=>?_);have hj:j<l.length:=by
    have:=(List.getElem?_eq_some_iff.1 hv).1;omega
   exact ih j _ y (q_f hj) hy (h2 j v _ hv (q_f hj))
def LeDs(l r:List SV):Prop:=l.length=r.length/\∀(j:Nat) a b,l[j]?=some a->r[j]?=some b->LeD a b
theorem LeDs.nil:LeDs [] []:=⟨rfl,fun j a b h=>by simp at h⟩
theorem LeDs.cons{a b:SV}{l r:List SV}(h:LeD a b)(k:LeDs l r):LeDs (a::l) (b::r):=by
 refine⟨by simp[k.1],fun j x y hx hy=>?_⟩;cases j with
 |zero=>simp at hx hy;subst hx hy;exact h
 |succ j=>exact k.2 j x y (by simpa using hx) (by simpa using hy)
theorem LeDs.refl(l:List SV):LeDs l l:=⟨rfl,fun j a b h k=>by rw[h] at k;cases k;exact .refl _⟩
theorem LeDs.app{l r l' r':List SV}(h:LeDs l r)(k:LeDs l' r'):LeDs (l++l') (r++r'):=by
 refine⟨by simp[h.1,k.1],fun j x y hx hy=>?_⟩
 by_cases hj:j<l.length
 ·rw[List.getElem?_append_left hj] at hx;rw[List.getElem?_append_left (by rw[<-h.1];exact hj)] at hy;exact h.2 j x y hx hy
 ·rw[List.getElem?_append_right (by omega)] at hx;rw[List.getElem?_append_right (by rw[<-h.1];omega)] at hy;rw[<-h.1] at hy;exact k.2 _ x y hx hy
theorem LeD.agg'{l r:List SV}(h:LeDs l r):LeD (.agg true l) (.agg true r):=.agg _ _ h.1 h.2
inductive m8(sz:Nat):GV->GV->Prop
 |nil:m8 sz [] []
 |cons {a b:List SV} {l r:GV}:b.length=sz->LeDs a b->m8 sz l r->m8 sz (a::l) (b::r)
theorem LeD.rows{sz:Nat}{l r:GV}(h:m8 sz l r):LeD (.dsl sz l) (.dsl sz r):=by
 have key:l.length=r.length/\(∀x∈r,x.length=sz)/\LeDs l.flatten r.flatten:=by
  induction h with
  |nil=>exact⟨rfl,by simp,.nil⟩
  |cons hb h _ ih=>
   obtain⟨i1,i2,i3⟩:=ih;refine⟨by simp[i1],fun x hx=>?_,?_⟩
   ·rcases List.mem_cons.1 hx with rfl|hx
    ·exact hb
    ·exact i2 x hx
   ·rw[List.flatten_cons,List.flatten_cons];exact h.app i3
 exact .dsl _ _ _ key.1 key.2.1 key.2.2.2
theorem Contract.argsD{P:Program}{f:Nat}{args args':List SV}{r:SV}(h:Contract P f args r)(hl:LeDs args' args):Contract P f args' r:=by
 intro m w vs h1 h2 h3;refine h m w vs h1 (by rw[h2,hl.1]) (fun j v y hv hy=>?_);have hj:j<args'.length:=by
  have:=(List.getElem?_eq_some_iff.1 hv).1;omega
 exact (hl.2 j _ y (q_f hj) hy).rep (h3 j v _ hv (q_f hj))
end Go.Proofs.YtdpigpopcbjkmaaGreatDoor.Abs
