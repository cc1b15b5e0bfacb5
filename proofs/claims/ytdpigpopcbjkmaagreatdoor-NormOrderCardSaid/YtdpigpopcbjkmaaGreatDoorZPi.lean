import Derived.Test.YtdpigpopcbjkmaaGreatDoorZFg
import Derived.Test.YtdpigpopcbjkmaaGreatDoorZAfC
import Derived.Test.YtdpigpopcbjkmaaGreatDoorZTm
import Derived.Test.YtdpigpopcbjkmaaGreatDoorProg
import Derived.KernelRfl
import Derived.Test.YtdpigpopcbjkmaaGreatDoorZTs
set_option linter.unusedSimpArgs false
set_option linter.unusedVariables false
set_option maxRecDepth 20000
set_option maxHeartbeats 4000000
namespace Go.Proofs.YtdpigpopcbjkmaaGreatDoor.Abs
open Go Go.RowKit Go.Proofs.YtdpigpopcbjkmaaGreatDoor
def Hw (k i j n want:Int) (len:Nat):Bool:=(!(want != 0) || (!(Hl k != 0) || !(Hl k != want))) && (!((len:Int) != Bf k n) && Lf k i j n)
def ofN (k:Int) (i:Nat):Int:=if k=12/\i=2 then 2 else Hl k
theorem Ay2 (k i j n want:Int) (rows:List (List SV)) (W:Nat->List SV->Bool) (h2:rows.length*56<=140737488355328) (h5:∀r∈rows,r.length=5)
  (H:∀p,∀r∈rows,Con 56 [.agg true r,.int .i64 (ofN k p)] (.bool (W p r))) :
  Con 56 [.agg true [.int .i64 k,.int .i64 i,.int .i64 j,.int .i64 n,.dsl 5 rows],.int .i64 want] (.bool (Hw k i j n want rows.length && Gr W 0 rows)):=by
 refine Al mixed Tryz.func56 tr56 ?_;simp only [go_sem,seval];refine Aa (Auf k) ?_;simp only [go_sem,seval];unfold Hw;cases hw:(want != 0)<;>cases hs:(Hl k != 0)<;>cases hd:(Hl k != want)<;>simp only [go_sem,seval,hs,hd]
 all_goals
  refine Aa (Ajr k n) ?_;cases hK:((rows.length:Int) != Bf k n)<;>simp only [go_sem,seval,hK];refine Aa (A8u k i j n rows) ?_;cases hN:Lf k i j n<;>simp only [go_sem,seval,hN];intros;refine Qs (fun x=>⟨(.jk::.jk::.ref 0 0 0 0::.jk::.jk::.int .i64 (Hl k)::.jk::.jk::.jk::.jk::.jk::.jk::.jk::.jk::.jk::.jk::.jk::.jk::.jk::.jk::.jk::.jk::.jk::.jk::.jk::.jk::.jk::.jk::.jk::.jk::.jk::.jk::.jk::.jk::.jk::.jk::.jk::.jk::.dsl 5 rows::.int .i64 rows.length::.int .i64 x::.jk::.jk::.jk::.jk::.jk::.jk::.jk::.jk::.jk::.jk::.jk::.jk::.jk::.jk::.jk::.jk::.jk::[]),[⟨true,5,[[.int .i64 k,.int .i64 i,.int .i64 j,.int .i64 n,.dsl 5 rows]],0,0,true⟩]⟩) rows.length (fun x=>W x (rows[x]?.getD [])=true) (fun x hx hp=>?_) ?_
  ·simp only [go_sem,seval,Ak6,Ai4,Ah0];refine⟨fun h=>?_,fun h=>?_⟩
   ·have Ab:=of_decide_eq_true h;have Ce:x<rows.length:=by omega
    have e0:(0:Int)<=(x:Int):=by omega
    have hm:=Hq (d:=[]) Ce;have Dm:=h5 _ hm;have ho:=H x _ hm;have eo:ofN k x=bif (k==12) && ((x:Int)==2) then 2 else Hl k:=by
     unfold ofN
     by_cases a:k=12
     ·by_cases b:x=2
      ·subst b;rw [if_pos ⟨a,rfl⟩,a];rfl
      ·rw [if_neg (fun h=>b h.2),Ah (show (x:Int)≠2 by omega),Bool.and_false];rfl
     ·rw [if_neg (fun h=>a h.1),Ah a,Bool.false_and];rfl
    simp only [go_sem,seval,Ab,e0,Dm];cases Lo:(k==12)<;>cases Ji:((x:Int)==2)<;>simp only [go_sem,seval,Ji]
    all_goals
     simp only [Lo,Ji,Bool.and_true,Bool.and_false,Bool.true_and,Bool.false_and,cond_true,cond_false] at eo;rw [eo] at ho;refine Aa ho ?_;cases hW:W x (rows[x]?.getD [])<;>simp only [go_sem,seval]
     ·rw [Afx (d:=[]) (i:=x) Ce (by rw [Nat.zero_add];exact hW)]
     ·refine⟨Ce,?_⟩;rw [w64 (n:=(x:Int)+1) (by unfold fit;omega)];exact Do 1 (by simp [Ao]) (by simp only [List.take_succ_cons,List.take_zero]) (by simp [Be]) (by simp)
   ·have Et:=of_decide_eq_false h;have Ko:x=rows.length:=by omega
    simp only [go_sem,seval,h];rw [Agu (d:=[]) (f:=W) (fun j hj=>by rw [Nat.zero_add];exact hp j (by omega))]
  ·exact As (by simp [Ao])
theorem A4n {l:List Tm} (ih:∀a∈l,∀b,tv a=tv b->a=b):∀{r:List Tm},l.map tv=r.map tv->l=r:=by
 induction l with
 |nil=>intro r h;cases r with
  |nil=>rfl
  |cons b r=>simp at h
 |cons a l ihl=>
  intro r h;cases r with
  |nil=>simp at h
  |cons b r=>
   simp only [q_h,List.cons.injEq] at h;rw [ih a (by simp) b h.1,ihl (fun x hx=>ih x (by simp [hx])) h.2]
theorem Bac (a:Tm):∀b,tv a=tv b->a=b:=by
 induction a using Tm.ind with
 |h k i j n l ih=>
  intro b h;cases b with
  |mk k' i' j' n' l'=>
   rw [Am,Am] at h;simp only [List.cons.injEq,SV.int.injEq,SV.dsl.injEq,true_and,and_true] at h;obtain⟨rfl,rfl,rfl,rfl,h5⟩:=h;rw [A4n ih h5]
noncomputable def onT {α:Type} (f:Tm->α) (d:α) (r:List SV):α:=open Classical in if h:∃t,tv t=r then f (Classical.choose h) else d
theorem If {α:Type} (f:Tm->α) (d:α) (t:Tm):onT f d (tv t)=f t:=by
 have h:∃u,tv u=tv t:=⟨t,rfl⟩
 unfold onT;rw [dif_pos h,Bac _ _ (Classical.choose_spec h)]
theorem rows5 (l:List Tm):∀r∈l.map tv,r.length=5:=fun r hr=>by obtain⟨t,_,rfl⟩:=List.mem_map.1 hr;exact Ag t
mutual
def Ej:Tm->Int->Bool
 |.mk k i j n l,want=>Hw k i j n want l.length && Ye k 0 l
def Ye (k:Int):Nat->List Tm->Bool
 |_,[]=>true
 |p,t::l=>Ej t (ofN k p) && Ye k (p+1) l
end
theorem A2u (k:Int):∀(l:List Tm) (p:Nat),Ye k p l=Gr (fun p t=>Ej t (ofN k p)) p l:=by
 intro l
 induction l with
 |nil=>intro p;rw [Ye];rfl
 |cons t l ih=>intro p;rw [Ye,Gr,ih]
theorem Sk (k i j n:Int) (l:List Tm) (want:Int):Ej (.mk k i j n l) want=(Hw k i j n want l.length && Gr (fun p t=>Ej t (ofN k p)) 0 l):=by rw [Ej,A2u]
theorem Bea (t:Tm):TOk t->∀want,Con 56 [.agg true (tv t),.int .i64 want] (.bool (Ej t want)):=by
 induction t using Tm.ind with
 |h k i j n l ih=>
  intro hok want;cases hok with
  |mk _ _ _ _ _ f1 f2 f3 f4 hb hl=>
  have h:=Ay2 k i j n want (l.map tv) (fun p r=>onT (fun t=>Ej t (ofN k p)) false r) (by simpa using hb) (rows5 l) (fun p r hr=>by
   obtain⟨t,ht,rfl⟩:=List.mem_map.1 hr;simp only [If];exact ih t ht (hl t ht) _)
  rw [An3,q_g,Ai1 (g:=fun p t=>Ej t (ofN k p)) (fun p t _=>by rw [If]),<-Sk,<-Am] at h;exact h
theorem Wy (t:Tm) (ht:TOk t):Con 30 [.agg true (tv t)] (.bool (Ej t 2)):=by
 refine Al mixed Tryz.func30 tr30 ?_;have hc:=Bea t ht 2;cases t with
 |mk k i j n l=>
 rw [Am] at hc |-;simp only [go_sem,seval];refine Aa hc ?_;simp only [go_sem,seval]
theorem Bb7 (k i j n:Int) (rows:List (List SV)) (h:k=1\/k=10\/k=11\/k=12):Con 63 [.agg true [.int .i64 k,.int .i64 i,.int .i64 j,.int .i64 n,.dsl 5 rows]] (.bool (lev i && ((j==0) && (n==0)))):=by
 refine Al mixed Tryz.func63 tr63 ?_;rcases h with rfl|rfl|rfl|rfl<;>simp only [go_sem,seval]<;>refine Aa (Xf i) ?_<;>(cases hL:lev i<;>cases hJ:(j==0)<;>cases hN:(n==0)<;>simp only [go_sem,seval,hJ,hN])
theorem Bdh (i j n:Int) (rows:List (List SV)):Con 63 [.agg true [.int .i64 2,.int .i64 i,.int .i64 j,.int .i64 n,.dsl 5 rows]] (.bool (decide (0<=i) && (decide (i<=2147483647) && ((j==0) && (n==0))))):=by
 refine Al mixed Tryz.func63 tr63 ?_
 by_cases h1:0<=i<;>by_cases h2:i<=2147483647<;>cases hJ:(j==0)<;>cases hN:(n==0)<;>simp only [go_sem,seval,hJ,hN,h1,h2]
theorem Anw (k i j n:Int) (rows:List (List SV)) (h:k=3\/k=4\/k=5\/k=6\/k=7\/k=8\/k=9):Con 63 [.agg true [.int .i64 k,.int .i64 i,.int .i64 j,.int .i64 n,.dsl 5 rows]] (.bool (lev i && (lev j && (n==0)))):=by
 refine Al mixed Tryz.func63 tr63 ?_;rcases h with rfl|rfl|rfl|rfl|rfl|rfl|rfl<;>simp only [go_sem,seval]<;>refine Aa (Xf i) ?_<;>(cases hL:lev i<;>simp only [go_sem,seval];refine Aa (Xf j) ?_;cases hJ:lev j<;>cases hN:(n==0)<;>simp only [go_sem,seval,hN])
theorem Axx (i j n:Int) (rows:List (List SV)):Con 63 [.agg true [.int .i64 23,.int .i64 i,.int .i64 j,.int .i64 n,.dsl 5 rows]] (.bool (lev i && lev j)):=by
 refine Al mixed Tryz.func63 tr63 ?_;simp only [go_sem,seval];refine Aa (Xf i) ?_;cases hL:lev i
 ·simp only [go_sem,seval]
 ·simp only [go_sem,seval];refine Aa (Xf j) ?_;simp only [go_sem,seval]
theorem A6b (k i j n:Int) (rows:List (List SV)) (h:k<1\/(12<k/\k≠23)):Con 63 [.agg true [.int .i64 k,.int .i64 i,.int .i64 j,.int .i64 n,.dsl 5 rows]] (.bool ((i==0) && ((j==0) && (n==0)))):=by
 refine Al mixed Tryz.func63 tr63 ?_;simp only [go_sem,seval,Ah (show k≠1 by omega),Ah (show k≠2 by omega),Ah (show k≠3 by omega),Ah (show k≠4 by omega),Ah (show k≠5 by omega),Ah (show k≠6 by omega),Ah (show k≠7 by omega),Ah (show k≠8 by omega),Ah (show k≠9 by omega),Ah (show k≠10 by omega),Ah (show k≠11 by omega),Ah (show k≠12 by omega),Ah (show k≠23 by omega)];cases hI:(i==0)<;>cases hJ:(j==0)<;>cases hN:(n==0)<;>simp only [go_sem,seval,hJ,hN]
theorem Bb5 (k i j n:Int) (rows:List (List SV)):Con 63 [.agg true [.int .i64 k,.int .i64 i,.int .i64 j,.int .i64 n,.dsl 5 rows]] (.bool (Lf k i j n)):=by
 unfold Lf
 by_cases h1:k=1\/k=10\/k=11\/k=12
 ·rw [if_pos h1];exact Bb7 k i j n rows h1
 ·rw [if_neg h1]
  by_cases h2:k=2
  ·subst h2;rw [if_pos rfl];exact Bdh i j n rows
  ·rw [if_neg h2]
   by_cases h3:3<=k/\k<=9
   ·rw [if_pos h3];exact Anw k i j n rows (by omega)
   ·rw [if_neg h3]
    by_cases h4:k=23
    ·subst h4;rw [if_pos rfl];exact Axx i j n rows
    ·rw [if_neg h4];exact A6b k i j n rows (by omega)
def Tg (k i j n:Int) (len:Nat):Bool:=((len:Int)==Bf k n) && Lf k i j n
theorem Af8 (k i j n:Int) (rows:List (List SV)):Con 39 [.agg true [.int .i64 k,.int .i64 i,.int .i64 j,.int .i64 n,.dsl 5 rows]] (.bool (Tg k i j n rows.length)):=by
 refine Al mixed Tryz.func39 tr39 ?_;simp only [go_sem,seval];refine Aa (Kb k n) ?_;unfold Tg;cases hK:((rows.length:Int)==Bf k n)
 ·simp only [go_sem,seval,hK]
 ·simp only [go_sem,seval,hK];refine Aa (Bb5 k i j n rows) ?_;simp only [go_sem,seval]
open Go Go.RowKit Go.Proofs.YtdpigpopcbjkmaaGreatDoor
def Aay (k i j n:Int) (len:Nat):Bool:=!((k != 1) && ((k != 2) && (decide (k<13) || decide (k > 23)))) && Tg k i j n len
def Ald (k i j n:Int) (len:Nat):Bool:=!(decide (k<1) || decide (k > 12)) && Tg k i j n len
theorem Ayi (k i j n:Int) (rows:List (List SV)) (W:List SV->Bool) (h2:rows.length*56<=140737488355328) (h5:∀r∈rows,r.length=5)
  (H:∀r∈rows,Con 18 [.agg true r] (.bool (W r))) :
  Con 18 [.agg true [.int .i64 k,.int .i64 i,.int .i64 j,.int .i64 n,.dsl 5 rows]] (.bool (Aay k i j n rows.length && rows.all W)):=by
 refine Al mixed Tryz.func18 tr18 ?_;simp only [go_sem,seval];unfold Aay;have Rx:∀b:Bool,b=((k != 1) && ((k != 2) && (decide (k<13) || decide (k > 23))))->True:=fun _ _=>trivial
 cases h1:(k != 1)<;>cases Ir:(k != 2)<;>by_cases h3:k<13<;>by_cases h4:23<k<;>simp only [go_sem,seval,Ir,h3,h4]
 all_goals
  refine Aa (Af8 k i j n rows) ?_;cases hN:Tg k i j n rows.length<;>simp only [go_sem,seval];refine Qs (fun x=>⟨(.jk::.ref 0 0 0 0::.jk::.int .i64 x::.jk::.jk::.jk::.jk::.jk::.jk::.jk::.jk::.jk::.jk::.jk::.jk::.jk::.jk::.jk::.jk::.jk::.jk::.jk::.jk::.jk::.jk::.jk::.jk::.jk::.jk::.jk::.jk::.jk::.jk::.jk::.jk::.jk::.jk::.jk::.jk::.jk::[]),[⟨true,5,[[.int .i64 k,.int .i64 i,.int .i64 j,.int .i64 n,.dsl 5 rows]],0,0,true⟩]⟩) rows.length (fun x=>W (rows[x]?.getD [])=true) (fun x hx hp=>?_) ?_
  ·simp only [go_sem,seval];intro _;refine⟨fun h=>?_,fun h=>?_⟩
   ·have Ab:=of_decide_eq_true h;have Ce:x<rows.length:=by omega
    have e0:(0:Int)<=(x:Int):=by omega
    have hm:=Hq (d:=[]) Ce;have Dm:=h5 _ hm;simp only [go_sem,seval,Ab,e0,Dm];refine Aa (H _ hm) ?_;cases hW:W (rows[x]?.getD [])<;>simp only [go_sem,seval]
    ·rw [Auw (d:=[]) (i:=x) Ce hW]
    ·refine⟨Ce,?_⟩;rw [w64 (n:=(x:Int)+1) (by unfold fit;omega)];exact As (by simp [Ao])
   ·have Et:=of_decide_eq_false h;have Ko:x=rows.length:=by omega
    simp only [go_sem,seval,h];rw [A8x (d:=[]) (f:=W) (fun j hj=>hp j (by omega))]
  ·exact As (by simp [Ao])
theorem Aov (k i j n:Int) (rows:List (List SV)) (W:Nat->List SV->Bool) (h2:rows.length*56<=140737488355328) (h5:∀r∈rows,r.length=5)
  (H1:∀p:Nat,∀r∈rows,((k==12) && ((p:Int)==2))=true->Con 18 [.agg true r] (.bool (W p r)))
  (H2:∀p:Nat,∀r∈rows,((k==12) && ((p:Int)==2))=false->Con 64 [.agg true r] (.bool (W p r))) :
  Con 64 [.agg true [.int .i64 k,.int .i64 i,.int .i64 j,.int .i64 n,.dsl 5 rows]] (.bool (Ald k i j n rows.length && Gr W 0 rows)):=by
 refine Al mixed Tryz.func64 tr64 ?_;simp only [go_sem,seval];unfold Ald
 by_cases h3:k<1<;>by_cases h4:12<k<;>simp only [go_sem,seval,h3,h4]
 all_goals
  refine Aa (Af8 k i j n rows) ?_;cases hN:Tg k i j n rows.length<;>simp only [go_sem,seval];refine Qs (fun x=>⟨(.jk::.ref 0 0 0 0::.jk::.int .i64 x::.jk::.jk::.jk::.jk::.jk::.jk::.jk::.jk::.jk::.jk::.jk::.jk::.jk::.jk::.jk::.jk::.jk::.jk::.jk::.jk::.jk::.jk::.jk::.jk::.jk::.jk::.jk::.jk::.jk::.jk::.jk::.jk::.jk::.jk::.jk::.jk::.jk::.jk::.jk::.jk::.jk::[]),[⟨true,5,[[.int .i64 k,.int .i64 i,.int .i64 j,.int .i64 n,.dsl 5 rows]],0,0,true⟩]⟩) rows.length (fun x=>W x (rows[x]?.getD [])=true) (fun x hx hp=>?_) ?_
  ·simp only [go_sem,seval];intro _;refine⟨fun h=>?_,fun h=>?_⟩
   ·have Ab:=of_decide_eq_true h;have Ce:x<rows.length:=by omega
    have e0:(0:Int)<=(x:Int):=by omega
    have hm:=Hq (d:=[]) Ce;have Dm:=h5 _ hm;have g1:=H1 x _ hm;have g2:=H2 x _ hm;cases Lo:(k==12)<;>cases Ji:((x:Int)==2)<;>simp only [go_sem,seval,Lo,Ji,Ab,e0,Dm]
    all_goals
     simp only [Lo,Ji,Bool.and_true,Bool.and_false,Bool.true_and,Bool.false_and,true_implies,reduceCtorEq,false_implies] at g1 g2
     first
      |refine Aa g1 ?_
      |refine Aa g2 ?_
     cases hW:W x (rows[x]?.getD [])<;>simp only [go_sem,seval]
     ·rw [Afx (d:=[]) (i:=x) Ce (by rw [Nat.zero_add];exact hW)]
     ·refine⟨Ce,?_⟩;rw [w64 (n:=(x:Int)+1) (by unfold fit;omega)];exact As (by simp [Ao])
   ·have Et:=of_decide_eq_false h;have Ko:x=rows.length:=by omega
    simp only [go_sem,seval,h];rw [Agu (d:=[]) (f:=W) (fun j hj=>by rw [Nat.zero_add];exact hp j (by omega))]
  ·exact As (by simp [Ao])
abbrev Ch (t:Tm):Bool:=Ej t 2
theorem Arv (k n:Int) (h:k<=0\/23<k):Bf k n=-1:=by
 unfold Bf tab;rw [if_neg (by omega),if_neg (by simp only [List.length_cons,List.length_nil];omega)]
theorem A4o (k n:Int) (len:Nat) (h:k<=0\/23<k):((len:Int)==Bf k n)=false:=by
 rw [Arv k n h];exact Ah (by omega)
theorem A8k (k i j n:Int) (len:Nat):Aay k i j n len=Hw k i j n 2 len:=by
 unfold Aay Hw Tg;rw [show (!((len:Int) != Bf k n))=((len:Int)==Bf k n) by simp [bne]]
 by_cases h:k<=0\/23<k
 ·rw [A4o k n len h];simp
 ·congr 1;have hs:Hl k=if k=1\/k=2 then 0 else if k<=12 then 1 else 2:=rfl
  by_cases h1:k=1
  ·subst h1;rfl
  ·by_cases h2:k=2
   ·subst h2;rfl
   ·rw [hs,if_neg (by omega)];have e1:(k != 1)=true:=by simp [h1]
    have e2:(k != 2)=true:=by simp [h2]
    rw [e1,e2];have e4:decide (k > 23)=false:=by simp;omega
    rw [e4]
    by_cases h3:k<=12
    ·rw [if_pos h3];have e3:decide (k<13)=true:=by simp;omega
     rw [e3];rfl
    ·rw [if_neg h3];have e3:decide (k<13)=false:=by simp;omega
     rw [e3];rfl
theorem Aoj {α:Type} {f:α->Bool}:∀{l:List α} {p:Nat},Gr (fun _ x=>f x) p l=l.all f:=by
 intro l
 induction l with
 |nil=>intro p;rfl
 |cons x l ih=>intro p;simp only [Gr,List.all_cons,ih]
theorem Aiz (k i j n:Int) (l:List Tm):Ej (.mk k i j n l) 2=(Hw k i j n 2 l.length && l.all Ch):=by
 rw [Sk];cases h:Hw k i j n 2 l.length
 ·rfl
 ·rw [Bool.true_and,Bool.true_and];unfold Hw at h;simp only [Bool.and_eq_true,Bool.or_eq_true,Bool.not_eq_true',bne_eq_false_iff_eq] at h;obtain⟨h1,h2,_⟩:=h;have hs:Hl k=if k=1\/k=2 then 0 else if k<=12 then 1 else 2:=rfl
  by_cases Lo:k=1\/k=2
  ·have:l=[]:=by
    rcases Lo with rfl|rfl
    ·exact List.length_eq_zero_iff.1 (by simpa [Bf,tab] using h2)
    ·exact List.length_eq_zero_iff.1 (by simpa [Bf,tab] using h2)
   subst this;rfl
  ·rw [if_neg Lo] at hs;have hk:Hl k=2:=by
    rcases h1 with h1|h1|h1
    ·omega
    ·rw [hs] at h1;split at h1<;>omega
    ·exact h1
   have h13:k≠12:=by
    intro e;subst e;simp [Hl] at hk
   rw [Ai1 (g:=fun _ t=>Ch t) (fun p t _=>by unfold ofN;rw [if_neg (by omega),hk]),Aoj]
theorem Xd (t:Tm):TOk t->Con 18 [.agg true (tv t)] (.bool (Ch t)):=by
 induction t using Tm.ind with
 |h k i j n l ih=>
  intro hok;cases hok with
  |mk _ _ _ _ _ f1 f2 f3 f4 hb hl=>
  have h:=Ayi k i j n (l.map tv) (onT Ch false) (by simpa using hb) (rows5 l) (fun r hr=>by
   obtain⟨t,ht,rfl⟩:=List.mem_map.1 hr;rw [If];exact ih t ht (hl t ht))
  rw [q_g,A8k,List.all_map,<-Am] at h;have e:l.all (onT Ch false ∘ tv)=l.all Ch:=by
   congr 1;funext t;simp [If]
  rw [e,<-Aiz] at h;exact h
theorem Sn {α:Type} {l:List α} {i:Nat} {d:α} (h:i<l.length):l.take i++[l[i]?.getD d]=l.take (i+1):=by
 rw [List.take_add_one,q_f h];rfl
theorem Bif:Tryz.prog.underlying 3=some (.int .i64):=by kernel_rfl
theorem Bhm {x:SV} (h:Pj Tryz.prog 43 x):∃l:List Int,x=.dsl 1 (l.map fun n=>[.int .i64 n])/\(∀n∈l,fit n):=by
 cases h with
 |agg svs h1 _=>have e:Fc Tryz.prog 43=some false:=by kernel_rfl
                rw [e] at h1;cases h1
 |one x _ h2=>
  obtain⟨l,e,_,hl⟩:=Bie (e:=3) (by kernel_rfl) h2;have e1:Tryz.prog.cellsOf 3=1:=by kernel_rfl
  rw [e1] at e;obtain⟨xs,rfl,hx⟩:=Azt (f:=fun n=>[SV.int .i64 n]) (p:=fit) (l:=l) (fun r hr=>by obtain⟨n,h1,h2⟩:=Aac Bif (hl r hr);exact⟨n,h2,h1⟩);cases e;exact⟨xs,rfl,hx⟩
theorem Ac7 {P:Program} {t:TypeId} {ts:List TypeId} {args:List SV} (h:Td P (t::ts) args):∃x xs,args=x::xs/\Pj P t x/\Td P ts xs:=by
 cases args with
 |nil=>exact h.elim
 |cons x xs=>exact⟨x,xs,rfl,h.1,h.2⟩
theorem Bb4 {P:Program} {args:List SV} (h:Td P [] args):args=[]:=by
 cases args with
 |nil=>rfl
 |cons x xs=>exact h.elim
theorem own:ownKnob Tryz.prog.godebug=none:=by kernel_rfl
theorem laid:laidOutB Tryz.prog=true:=by kernel_rfl
structure HT where
 i:Int
 a:Tm
 b:Tm
 x:Tm
 y:Tm
 h:Tm
def HT.v (g:HT):List SV:=hv g.i g.a g.b g.x g.y g.h
structure HT.ok (g:HT):Prop where
 i:fit g.i
 a:TOk g.a
 b:TOk g.b
 x:TOk g.x
 y:TOk g.y
 h:TOk g.h
def zT:Tm:=.mk 0 0 0 0 []
theorem Aim:Le (.agg true [.int .i64 0,.int .i64 0,.int .i64 0,.int .i64 0,.nils]) (.agg true (tv zT)):=Mh 0 0 0 0
def us (n i j:Int) (l:List Tm):Tm:=.mk 23 i j n l
theorem tv_0 {t:Tm}:(tv t)[0]?=some (.int .i64 t.k):=by cases t;rw [Am];rfl
theorem tmT:TmT Tryz.prog 24 22 3:=⟨by kernel_rfl,by kernel_rfl,by kernel_rfl,by kernel_rfl,by kernel_rfl⟩
theorem Ak1 {x:SV} (h:Pj Tryz.prog 24 x):∃t,x=.agg true (tv t)/\TOk t:=by
 cases h with
 |agg svs _ h2=>
  obtain⟨t,ht,rfl⟩:=(Agy tmT h2).1 rfl;exact⟨t,rfl,ht⟩
 |one x h1 _=>have e:Fc Tryz.prog 24=some true:=by kernel_rfl
              rw [e] at h1;cases h1
mutual
def Ke:Tm->Nat
 |.mk _ _ _ _ l=>Pq l+1
def Pq:List Tm->Nat
 |[]=>0
 |t::l=>max (Ke t) (Pq l)
end
theorem Ac2 (k i j n:Int) (l:List Tm):Ke (.mk k i j n l)=Pq l+1:=by rw [Ke]
theorem Ahz {t:Tm}:∀{l:List Tm},t∈l->Ke t<=Pq l:=by
 intro l
 induction l with
 |nil=>intro h;cases h
 |cons u l ih=>
  intro h;rw [Pq];rcases List.mem_cons.1 h with rfl|h
  ·omega
  ·have:=ih h;omega
theorem Asx {b:Nat}:∀{l:List Tm},(∀t∈l,Ke t<=b)->Pq l<=b:=by
 intro l
 induction l with
 |nil=>intro _;rw [Pq];omega
 |cons u l ih=>
  intro h;rw [Pq];have h1:=h u (by simp);have h2:=ih (fun t ht=>h t (by simp [ht]));omega
def Da (a:Int) (V:Nat->Int->Int) (most:Int):Nat->Int
 |0=>a
 |x+1=>IntKind.i64.wrap (Da a V most x+V x (IntKind.i64.wrap (most-Da a V most x)))
theorem A5w (k i j n most deep:Int) (rows:List (List SV)) (hd:deep<0):Con 38 [.agg true [.int .i64 k,.int .i64 i,.int .i64 j,.int .i64 n,.dsl 5 rows],.int .i64 most,.int .i64 deep] (.int .i64 (IntKind.i64.wrap (most+1))):=by
 refine Al mixed Tryz.func38 tr38 ?_;simp only [go_sem,seval,hd]
theorem A5p (k i j n most deep:Int) (rows:List (List SV)) (W:List SV->Int->Int->Int) (h2:rows.length*56<=140737488355328) (h5:∀r∈rows,r.length=5)
  (H:∀r∈rows,∀m d,Con 38 [.agg true r,.int .i64 m,.int .i64 d] (.int .i64 (W r m d))) (hd:¬deep<0) (m:Nat) (Md:m<=rows.length)
  (hm2:m=rows.length\/most<Kw W rows most (IntKind.i64.wrap (deep-1)) m) (Ui:∀y,y<m->¬most<Kw W rows most (IntKind.i64.wrap (deep-1)) y) :
  Con 38 [.agg true [.int .i64 k,.int .i64 i,.int .i64 j,.int .i64 n,.dsl 5 rows],.int .i64 most,.int .i64 deep] (.int .i64 (Kw W rows most (IntKind.i64.wrap (deep-1)) m)):=by
 refine Al mixed Tryz.func38 tr38 ?_;simp only [go_sem,seval,hd];refine Ig (fun x=>⟨(.jk::.int .i64 most::.int .i64 deep::.ref 0 0 0 0::.jk::.jk::.int .i64 0::.int .i64 (Kw W rows most (IntKind.i64.wrap (deep-1)) x)::.int .i64 x::.jk::.jk::.jk::.jk::.jk::.jk::.jk::.jk::.jk::.jk::.jk::.jk::.jk::.jk::.jk::.jk::.jk::.jk::.jk::.jk::.jk::.jk::.jk::.jk::.jk::.jk::.jk::.jk::.jk::.jk::[]),[⟨true,5,[[.int .i64 k,.int .i64 i,.int .i64 j,.int .i64 n,.dsl 5 rows]],0,0,true⟩]⟩) m (fun x hx=>?_) ?_
 ·simp only [go_sem,seval];intro _
  by_cases hxm:x=m
  ·subst hxm;rcases hm2 with rfl|hm2
   ·have hl:¬((rows.length:Int)<(rows.length:Int)):=by omega
    simp only [go_sem,seval,hl]
   ·have hl:¬(Kw W rows most (IntKind.i64.wrap (deep-1)) x<=most):=by omega
    refine⟨fun h=>?_,fun h=>?_⟩
    ·simp only [go_sem,seval,h,hl]
    ·simp only [go_sem,seval,h,hl]
  ·have Ez:x<rows.length:=by omega
   have Zp:(x:Int)<(rows.length:Int):=by omega
   have e0:(0:Int)<=(x:Int):=by omega
   have hle:Kw W rows most (IntKind.i64.wrap (deep-1)) x<=most:=by have:=Ui x (by omega);omega
   have hm:=Hq (d:=[]) Ez;have Dm:=h5 _ hm;simp only [go_sem,seval,Zp,hle,e0,Dm];refine Aa (H _ hm _ _) ?_;simp only [go_sem,seval];refine⟨by omega,?_⟩;rw [w64 (n:=(x:Int)+1) (by unfold fit;omega)];exact As (by simp [Ao,Kw])
 ·exact As (by simp [Ao,Kw])
theorem Ad2 (W:List SV->Int->Int->Int) (rows:List (List SV)) (most d:Int):∀x,Kw W rows most d x=Da 1 (fun y m=>W (rows[y]?.getD []) m d) most x:=by
 intro x
 induction x with
 |zero=>rfl
 |succ x ih=>rw [Kw,Da,ih]
open Go Go.RowKit Go.Proofs.YtdpigpopcbjkmaaGreatDoor
def Bk (k p:Int):Int:=
 if k=3\/k=5\/k=6\/k=7\/k=8\/k=9\/k=13\/k=14\/k=16\/k=17 then (if p=1 then 1 else 0)
 else if k=4 then (if p=1\/p=2 then 1 else 0)
 else if k=22 then (if p=2 then 2 else 0) else 0
theorem Mo (k p:Int):0<=Bk k p/\Bk k p<=2:=by
 unfold Bk
 repeat' split
 all_goals omega
theorem Ar4 (k p:Int):Con 60 [.int .i64 k,.int .i64 p] (.int .i64 (Bk k p)):=by
 refine Al mixed Tryz.func60 tr60 ?_
 by_cases h:k=3\/k=5\/k=6\/k=7\/k=8\/k=9\/k=13\/k=14\/k=16\/k=17
 ·have e:Bk k p=if p=1 then 1 else 0:=by unfold Bk;rw [if_pos h]
  rw [e];rcases h with rfl|rfl|rfl|rfl|rfl|rfl|rfl|rfl|rfl|rfl <;>
   (cases hp:(p==1)<;>simp only [beq_iff_eq,beq_eq_false_iff_ne,ne_eq] at hp<;>simp only [go_sem,seval,hp,Ah])
 ·by_cases h4:k=4
  ·subst h4;have e:Bk 4 p=if p=1\/p=2 then 1 else 0:=by unfold Bk;rw [if_neg (by decide),if_pos rfl]
   rw [e]
   by_cases h1:p=1
   ·subst h1;simp only [go_sem,seval]
   ·by_cases h2:p=2
    ·subst h2;simp only [go_sem,seval]
    ·rw [if_neg (by omega)];simp only [go_sem,seval,Ah h1,Ah h2]
  ·by_cases Fu:k=22
   ·subst Fu;have e:Bk 22 p=if p=2 then 2 else 0:=by unfold Bk;rw [if_neg (by decide),if_neg (by decide),if_pos rfl]
    rw [e]
    by_cases h2:p=2
    ·subst h2;simp only [go_sem,seval]
    ·rw [if_neg h2];simp only [go_sem,seval,Ah h2]
   ·have e:Bk k p=0:=by unfold Bk;rw [if_neg h,if_neg h4,if_neg Fu]
    rw [e];simp only [go_sem,seval,Ah (show k≠3 by omega),Ah h4,Ah (show k≠5 by omega),Ah (show k≠6 by omega),Ah (show k≠7 by omega),Ah (show k≠8 by omega),Ah (show k≠9 by omega),Ah (show k≠13 by omega),Ah (show k≠14 by omega),Ah (show k≠16 by omega),Ah (show k≠17 by omega),Ah Fu]
theorem Cm (k p:Int):Con 65 [.int .i64 k,.int .i64 p] (.int .i64 (Bk k p)):=by
 refine Al mixed Tryz.func65 tr65 ?_
 by_cases h:k=3\/k=5\/k=6\/k=7\/k=8\/k=9\/k=13\/k=14\/k=16\/k=17
 ·have e:Bk k p=if p=1 then 1 else 0:=by unfold Bk;rw [if_pos h]
  rw [e];rcases h with rfl|rfl|rfl|rfl|rfl|rfl|rfl|rfl|rfl|rfl <;>
   (cases hp:(p==1)<;>simp only [beq_iff_eq,beq_eq_false_iff_ne,ne_eq] at hp<;>simp only [go_sem,seval,hp,Ah])
 ·by_cases h4:k=4
  ·subst h4;have e:Bk 4 p=if p=1\/p=2 then 1 else 0:=by unfold Bk;rw [if_neg (by decide),if_pos rfl]
   rw [e]
   by_cases h1:p=1
   ·subst h1;simp only [go_sem,seval]
   ·by_cases h2:p=2
    ·subst h2;simp only [go_sem,seval]
    ·rw [if_neg (by omega)];simp only [go_sem,seval,Ah h1,Ah h2]
  ·by_cases Fu:k=22
   ·subst Fu;have e:Bk 22 p=if p=2 then 2 else 0:=by unfold Bk;rw [if_neg (by decide),if_neg (by decide),if_pos rfl]
    rw [e]
    by_cases h2:p=2
    ·subst h2;simp only [go_sem,seval]
    ·rw [if_neg h2];simp only [go_sem,seval,Ah h2]
   ·have e:Bk k p=0:=by unfold Bk;rw [if_neg h,if_neg h4,if_neg Fu]
    rw [e];simp only [go_sem,seval,Ah (show k≠3 by omega),Ah h4,Ah (show k≠5 by omega),Ah (show k≠6 by omega),Ah (show k≠7 by omega),Ah (show k≠8 by omega),Ah (show k≠9 by omega),Ah (show k≠13 by omega),Ah (show k≠14 by omega),Ah (show k≠16 by omega),Ah (show k≠17 by omega),Ah Fu]
mutual
def Hc (k:Int):Int->Tm->Option Tm
 |fr,.mk kk i j n l=>
  if kk=2/\fr<=i then (if 2147483647-i<k then none else (Vm k fr kk 0 l).map (Tm.mk kk (i+k) j n))
  else (Vm k fr kk 0 l).map (Tm.mk kk i j n)
def Vm (k:Int):Int->Int->Nat->List Tm->Option (List Tm)
 |_,_,_,[]=>some []
 |fr,kk,p,t::l=>match Hc k (fr+Bk kk p) t with
  |none=>none
  |some u=>match Vm k fr kk (p+1) l with
   |none=>none
   |some r=>some (u::r)
end
def Cb {α β:Type} (X:Nat->α->Option β):Nat->List α->Option (List β)
 |_,[]=>some []
 |p,x::l=>match X p x with
  |none=>none
  |some u=>match Cb X (p+1) l with
   |none=>none
   |some r=>some (u::r)
theorem Be0 (k fr kk:Int):∀(l:List Tm) (p:Nat),Vm k fr kk p l=Cb (fun p t=>Hc k (fr+Bk kk p) t) p l:=by
 intro l
 induction l with
 |nil=>intro p;rw [Vm];rfl
 |cons t l ih=>
  intro p;rw [Vm,Cb,ih];cases Hc k (fr+Bk kk p) t with
  |none=>rfl
  |some u=>cases Cb (fun p t=>Hc k (fr+Bk kk ((p:Nat):Int)) t) (p+1) l<;>rfl
theorem Sj {α β:Type} {X:Nat->α->Option β} {d:α}:∀{l:List α} {p i:Nat},i<l.length->X (p+i) (l[i]?.getD d)=none->Cb X p l=none:=by
 intro l
 induction l with
 |nil=>intro p i h;simp at h
 |cons x l ih=>
  intro p i hi h;rw [Cb];cases i with
  |zero=>have h':X p x=none:=by simpa using h
         rw [h']
  |succ i=>
   rw [ih (p:=p+1) (i:=i) (by simpa using hi) (by rw [show p+1+i=p+(i+1) by omega];simpa using h)];split<;>rfl
theorem Ac4 {α β:Type} {X:Nat->α->Option β} {d:α} {e:β}:∀{l:List α} {p:Nat},(∀i,i<l.length->X (p+i) (l[i]?.getD d)≠none)->Cb X p l=some ((List.range l.length).map fun i=>(X (p+i) (l[i]?.getD d)).getD e):=by
 intro l
 induction l with
 |nil=>intro p _;rfl
 |cons x l ih=>
  intro p h;have h0:=h 0 (by simp);simp only [Nat.add_zero,List.getElem?_cons_zero,Option.getD_some] at h0;have hr:=ih (p:=p+1) (fun i hi=>by
   have:=h (i+1) (by simp;omega);rw [show p+1+i=p+(i+1) by omega];simpa using this)
  rw [Cb];cases hx:X p x with
  |none=>exact absurd hx h0
  |some u=>
   simp only [hr];rw [List.length_cons,List.range_succ_eq_map,q_h,List.map_map];simp only [Nat.add_zero,List.getElem?_cons_zero,Option.getD_some,hx];congr 2;apply List.map_congr_left;intro i _;simp only [Function.comp,List.getElem?_cons_succ];rw [show p+1+i=p+(i+1) by omega]
theorem Acp {α β γ:Type} {X:Nat->β->Option γ} {g:α->β}:∀{l:List α} {p:Nat},Cb X p (l.map g)=Cb (fun i x=>X i (g x)) p l:=by
 intro l
 induction l with
 |nil=>intro p;rfl
 |cons x l ih=>intro p;simp only [q_h,Cb,ih]
theorem Aby {α β:Type} {X Y:Nat->α->Option β}:∀{l:List α} {p:Nat},(∀i,∀x∈l,X i x=Y i x)->Cb X p l=Cb Y p l:=by
 intro l
 induction l with
 |nil=>intro p _;rfl
 |cons x l ih=>
  intro p h;simp only [Cb];rw [h p x (by simp),ih (fun i y hy=>h i y (by simp [hy]))]
theorem Acd {α β γ:Type} {X:Nat->α->Option β} {g:β->γ}:∀{l:List α} {p:Nat},Cb (fun i x=>(X i x).map g) p l=(Cb X p l).map (List.map g):=by
 intro l
 induction l with
 |nil=>intro p;rfl
 |cons x l ih=>
  intro p;simp only [Cb];cases X p x with
  |none=>rfl
  |some u=>
   simp only [Option.map_some,ih];cases Cb X (p+1) l<;>rfl
def Cy:Option (List SV)->SV
 |some r=>.tup [.agg true r,.bool true]
 |none=>.tup [.agg true (tv zT),.bool false]
theorem v8:Le (.tup [.agg true [.int .i64 0,.int .i64 0,.int .i64 0,.int .i64 0,.nils],.bool false]) (Cy none):=by
 refine .tup _ _ (.cons _ _ _ _ ?_ (.cons _ _ _ _ (.cell _ _ (.refl _)) .nil));have h:=Aim;cases h with
 |val _ _ h=>exact h
theorem Ako (k i j n:Int):Le (.tup [.agg true [.int .i64 k,.int .i64 i,.int .i64 j,.int .i64 n,.nils],.bool true]) (Cy (some [.int .i64 k,.int .i64 i,.int .i64 j,.int .i64 n,.dsl 5 []])):=by
 refine .tup _ _ (.cons _ _ _ _ ?_ (.cons _ _ _ _ (.cell _ _ (.refl _)) .nil));have h:=Mh k i j n;rw [Am] at h;cases h with
 |val _ _ h=>exact h
def Om (kk i k fr:Int):Option Int:=if kk=2/\fr<=i then (if 2147483647-i<k then none else some (i+k)) else some i
def Aao (kk i j n k fr:Int) (r:Option (List (List SV))):Option (List SV):=
 (Om kk i k fr).bind fun i'=>r.map fun rs=>[.int .i64 kk,.int .i64 i',.int .i64 j,.int .i64 n,.dsl 5 rs]
open Go Go.RowKit Go.Proofs.YtdpigpopcbjkmaaGreatDoor
theorem Be8 (kk i j n k fr:Int) (rows:List (List SV)) (X:Nat->List SV->Option (List SV)) (h2:rows.length*56<=140737488355328) (h5:∀r∈rows,r.length=5)
  (hi:kk=2->0<=i/\i<=2147483647) (hk:0<=k) (hfr:0<=fr) (hfr2:fr<=1000000000000) (hX:∀p:Nat,∀r∈rows,∀u,X p r=some u->u.length=5)
  (H:∀p:Nat,∀r∈rows,Con 107 [.agg true r,.int .i64 k,.int .i64 (fr+Bk kk p)] (Cy (X p r))) :
  Con 107 [.agg true [.int .i64 kk,.int .i64 i,.int .i64 j,.int .i64 n,.dsl 5 rows],.int .i64 k,.int .i64 fr] (Cy (Aao kk i j n k fr (Cb X 0 rows))):=by
 unfold Aao;have main:∀i',Om kk i k fr=some i'->Con 107 [.agg true [.int .i64 kk,.int .i64 i,.int .i64 j,.int .i64 n,.dsl 5 rows],.int .i64 k,.int .i64 fr] (Cy ((Cb X 0 rows).map fun rs=>[.int .i64 kk,.int .i64 i',.int .i64 j,.int .i64 n,.dsl 5 rs])):=by
  intro i' hI;unfold Om at hI;have Mf:((List.range rows.length).map fun p=>(X p (rows[p]?.getD [])).getD []).length=rows.length:=by simp
  have Nj:∀x,x<rows.length->((List.range rows.length).map fun p=>(X p (rows[p]?.getD [])).getD [])[x]?.getD []=(X x (rows[x]?.getD [])).getD []:=fun x hx=>by
   rw [List.getElem?_map,List.getElem?_range hx];rfl
  have Rx:(∀x,x<rows.length->X x (rows[x]?.getD [])≠none)->Cb X 0 rows=some ((List.range rows.length).map fun p=>(X p (rows[p]?.getD [])).getD []):=fun h=>by
   rw [Ac4 (d:=[]) (e:=[]) (fun x hx=>by rw [Nat.zero_add];exact h x hx)];simp only [Nat.zero_add]
  generalize ((List.range rows.length).map fun p=>(X p (rows[p]?.getD [])).getD [])=ys at *
  have hcase:(kk=2/\fr<=i/\IntKind.i64.wrap (2147483647-i)=2147483647-i/\¬2147483647-i<k/\IntKind.i64.wrap (i+k)=i'/\(kk==2)=true)\/(i'=i/\(kk==2)=false)\/(i'=i/\(kk==2)=true/\¬fr<=i):=by
   by_cases h1:kk=2
   ·by_cases h2:fr<=i
    ·rw [if_pos ⟨h1,h2⟩] at hI;obtain⟨g1,g2⟩:=hi h1;split at hI
     ·cases hI
     ·rename_i Ab;cases hI;exact .inl ⟨h1,h2,w64 (by unfold fit;omega),Ab,w64 (by unfold fit;omega),by simp [h1]⟩
    ·rw [if_neg (fun h=>h2 h.2)] at hI;cases hI;exact .inr (.inr ⟨rfl,by simp [h1],h2⟩)
   ·rw [if_neg (fun h=>h1 h.1)] at hI;cases hI;exact .inr (.inl ⟨rfl,by simp [h1]⟩)
  have core:∀r0,(Cb X 0 rows=none->r0=.tup [.agg true [.int .i64 0,.int .i64 0,.int .i64 0,.int .i64 0,.nils],.bool false]) ->
    (∀us,Cb X 0 rows=some us->r0=.tup [.agg true [.int .i64 kk,.int .i64 i',.int .i64 j,.int .i64 n,.dsl 5 us],.bool true]) ->
    Con 107 [.agg true [.int .i64 kk,.int .i64 i,.int .i64 j,.int .i64 n,.dsl 5 rows],.int .i64 k,.int .i64 fr] r0:=by
    intro r0 hn hs;refine Al mixed Tryz.func107 tr107 ?_;rcases hcase with⟨_,q1,q2,q3,q4,q5⟩|⟨rfl,q1⟩|⟨rfl,q1,q2⟩
    ·simp only [go_sem,seval,q1,q2,q3,q4,q5,Int.le_refl];clear q1 q2 q3 q4 q5;intros;refine Qs (fun x=>⟨(.jk::.int .i64 k::.int .i64 fr::.ref 0 0 0 0::.jk::.jk::.ref 1 0 0 0::.jk::.ref 2 0 0 0::.osl 3 x 0 x::.int .i64 x::.jk::.jk::.jk::.jk::.jk::.jk::.jk::.jk::.jk::.jk::.jk::.jk::.jk::.jk::.jk::.jk::.jk::.jk::.jk::.jk::.jk::.jk::.jk::.jk::.jk::.jk::.jk::.jk::.jk::.jk::.jk::.jk::.jk::.jk::.jk::.jk::.jk::.jk::.jk::.jk::.jk::.jk::.jk::.jk::.jk::.jk::.jk::.jk::.jk::.jk::.jk::.jk::.jk::.jk::.jk::.jk::.jk::.jk::.jk::.jk::.jk::.jk::.jk::.jk::.jk::.jk::.jk::.jk::[]),[⟨true,5,[[.int .i64 kk,.int .i64 i,.int .i64 j,.int .i64 n,.dsl 5 rows]],0,0,true⟩,⟨true,5,[[.int .i64 0,.int .i64 0,.int .i64 0,.int .i64 0,.nils]],0,0,true⟩,⟨true,5,[[.int .i64 kk,.int .i64 i',.int .i64 j,.int .i64 n,.nils]],0,0,true⟩,⟨false,5,ys.take x,x-1,x,true⟩]⟩) rows.length (fun x=>X x (rows[x]?.getD [])≠none) (fun x hx hp=>?_) ?_
     ·simp only [go_sem,seval];intros;refine⟨fun h=>?_,fun h=>?_⟩
      ·have Ab:=of_decide_eq_true h;have Ce:x<rows.length:=by omega
       have e0:(0:Int)<=(x:Int):=by omega
       have hm:=Hq (d:=[]) Ce;have Dm:=h5 _ hm;have hb:=Mo kk x;have ew:IntKind.i64.wrap (fr+Bk kk x)=fr+Bk kk x:=w64 (by unfold fit;omega);have hc:=H x _ hm;have Ei:¬4611686018427387904<fr:=by omega
       have e1:(ys.take x).length=x:=by simp;omega
       have e2:(x+1)*56<=140737488355328:=by omega
       have e3:x+1<=140737488355328:=by omega
       simp only [go_sem,seval,Ab,e0,Dm];refine Aa (Cm kk x) ?_;simp only [go_sem,seval,Ei,Ab,e0,Dm,ew];refine Aa hc ?_;cases Ed:X x (rows[x]?.getD []) with
       |none=>
        have Cd:=Ag zT;simp only [go_sem,seval,Cy,Cd];exact hn (Sj (d:=[]) (i:=x) Ce (by rw [Nat.zero_add];exact Ed))
       |some u=>
        have hu:=hX x _ hm u Ed;have hy:=Nj x Ce;rw [Ed,Option.getD_some] at hy;have tn:=Sn (l:=ys) (d:=[]) (i:=x) (by omega);rw [hy] at tn;simp only [go_sem,seval,Cy,hu,Ce,e1,e2,e3,tn];rw [w64 (n:=(x:Int)+1) (by unfold fit;omega)];exact Do 4 (by simp [Ao]) (by simp) (by simp [Be]) (by simp)
      ·have Et:=of_decide_eq_false h;have Ko:x=rows.length:=by omega
       have he:=Rx (fun y hy=>hp y (by omega));subst Ko;have ht:ys.take rows.length=ys:=by rw [<-Mf,List.take_length]
       simp only [go_sem,seval,h,Mf,ht];exact hs _ he
     ·exact .trans (.ghost _ 9 5 rfl) (As (by simp [Ao]))
    ·simp only [go_sem,seval,q1,Int.le_refl];clear q1;intros;refine Qs (fun x=>⟨(.jk::.int .i64 k::.int .i64 fr::.ref 0 0 0 0::.jk::.jk::.ref 1 0 0 0::.jk::.ref 2 0 0 0::.osl 3 x 0 x::.int .i64 x::.jk::.jk::.jk::.jk::.jk::.jk::.jk::.jk::.jk::.jk::.jk::.jk::.jk::.jk::.jk::.jk::.jk::.jk::.jk::.jk::.jk::.jk::.jk::.jk::.jk::.jk::.jk::.jk::.jk::.jk::.jk::.jk::.jk::.jk::.jk::.jk::.jk::.jk::.jk::.jk::.jk::.jk::.jk::.jk::.jk::.jk::.jk::.jk::.jk::.jk::.jk::.jk::.jk::.jk::.jk::.jk::.jk::.jk::.jk::.jk::.jk::.jk::.jk::.jk::.jk::.jk::.jk::.jk::[]),[⟨true,5,[[.int .i64 kk,.int .i64 i',.int .i64 j,.int .i64 n,.dsl 5 rows]],0,0,true⟩,⟨true,5,[[.int .i64 0,.int .i64 0,.int .i64 0,.int .i64 0,.nils]],0,0,true⟩,⟨true,5,[[.int .i64 kk,.int .i64 i',.int .i64 j,.int .i64 n,.nils]],0,0,true⟩,⟨false,5,ys.take x,x-1,x,true⟩]⟩) rows.length (fun x=>X x (rows[x]?.getD [])≠none) (fun x hx hp=>?_) ?_
     ·simp only [go_sem,seval];intros;refine⟨fun h=>?_,fun h=>?_⟩
      ·have Ab:=of_decide_eq_true h;have Ce:x<rows.length:=by omega
       have e0:(0:Int)<=(x:Int):=by omega
       have hm:=Hq (d:=[]) Ce;have Dm:=h5 _ hm;have hb:=Mo kk x;have ew:IntKind.i64.wrap (fr+Bk kk x)=fr+Bk kk x:=w64 (by unfold fit;omega);have hc:=H x _ hm;have Ei:¬4611686018427387904<fr:=by omega
       have e1:(ys.take x).length=x:=by simp;omega
       have e2:(x+1)*56<=140737488355328:=by omega
       have e3:x+1<=140737488355328:=by omega
       simp only [go_sem,seval,Ab,e0,Dm];refine Aa (Cm kk x) ?_;simp only [go_sem,seval,Ei,Ab,e0,Dm,ew];refine Aa hc ?_;cases Ed:X x (rows[x]?.getD []) with
       |none=>
        have Cd:=Ag zT;simp only [go_sem,seval,Cy,Cd];exact hn (Sj (d:=[]) (i:=x) Ce (by rw [Nat.zero_add];exact Ed))
       |some u=>
        have hu:=hX x _ hm u Ed;have hy:=Nj x Ce;rw [Ed,Option.getD_some] at hy;have tn:=Sn (l:=ys) (d:=[]) (i:=x) (by omega);rw [hy] at tn;simp only [go_sem,seval,Cy,hu,Ce,e1,e2,e3,tn];rw [w64 (n:=(x:Int)+1) (by unfold fit;omega)];exact Do 4 (by simp [Ao]) (by simp) (by simp [Be]) (by simp)
      ·have Et:=of_decide_eq_false h;have Ko:x=rows.length:=by omega
       have he:=Rx (fun y hy=>hp y (by omega));subst Ko;have ht:ys.take rows.length=ys:=by rw [<-Mf,List.take_length]
       simp only [go_sem,seval,h,Mf,ht];exact hs _ he
     ·exact .trans (.ghost _ 9 5 rfl) (As (by simp [Ao]))
    ·simp only [go_sem,seval,q1,q2,Int.le_refl];clear q1 q2;intros;refine Qs (fun x=>⟨(.jk::.int .i64 k::.int .i64 fr::.ref 0 0 0 0::.jk::.jk::.ref 1 0 0 0::.jk::.ref 2 0 0 0::.osl 3 x 0 x::.int .i64 x::.jk::.jk::.jk::.jk::.jk::.jk::.jk::.jk::.jk::.jk::.jk::.jk::.jk::.jk::.jk::.jk::.jk::.jk::.jk::.jk::.jk::.jk::.jk::.jk::.jk::.jk::.jk::.jk::.jk::.jk::.jk::.jk::.jk::.jk::.jk::.jk::.jk::.jk::.jk::.jk::.jk::.jk::.jk::.jk::.jk::.jk::.jk::.jk::.jk::.jk::.jk::.jk::.jk::.jk::.jk::.jk::.jk::.jk::.jk::.jk::.jk::.jk::.jk::.jk::.jk::.jk::.jk::.jk::[]),[⟨true,5,[[.int .i64 kk,.int .i64 i',.int .i64 j,.int .i64 n,.dsl 5 rows]],0,0,true⟩,⟨true,5,[[.int .i64 0,.int .i64 0,.int .i64 0,.int .i64 0,.nils]],0,0,true⟩,⟨true,5,[[.int .i64 kk,.int .i64 i',.int .i64 j,.int .i64 n,.nils]],0,0,true⟩,⟨false,5,ys.take x,x-1,x,true⟩]⟩) rows.length (fun x=>X x (rows[x]?.getD [])≠none) (fun x hx hp=>?_) ?_
     ·simp only [go_sem,seval];intros;refine⟨fun h=>?_,fun h=>?_⟩
      ·have Ab:=of_decide_eq_true h;have Ce:x<rows.length:=by omega
       have e0:(0:Int)<=(x:Int):=by omega
       have hm:=Hq (d:=[]) Ce;have Dm:=h5 _ hm;have hb:=Mo kk x;have ew:IntKind.i64.wrap (fr+Bk kk x)=fr+Bk kk x:=w64 (by unfold fit;omega);have hc:=H x _ hm;have Ei:¬4611686018427387904<fr:=by omega
       have e1:(ys.take x).length=x:=by simp;omega
       have e2:(x+1)*56<=140737488355328:=by omega
       have e3:x+1<=140737488355328:=by omega
       simp only [go_sem,seval,Ab,e0,Dm];refine Aa (Cm kk x) ?_;simp only [go_sem,seval,Ei,Ab,e0,Dm,ew];refine Aa hc ?_;cases Ed:X x (rows[x]?.getD []) with
       |none=>
        have Cd:=Ag zT;simp only [go_sem,seval,Cy,Cd];exact hn (Sj (d:=[]) (i:=x) Ce (by rw [Nat.zero_add];exact Ed))
       |some u=>
        have hu:=hX x _ hm u Ed;have hy:=Nj x Ce;rw [Ed,Option.getD_some] at hy;have tn:=Sn (l:=ys) (d:=[]) (i:=x) (by omega);rw [hy] at tn;simp only [go_sem,seval,Cy,hu,Ce,e1,e2,e3,tn];rw [w64 (n:=(x:Int)+1) (by unfold fit;omega)];exact Do 4 (by simp [Ao]) (by simp) (by simp [Be]) (by simp)
      ·have Et:=of_decide_eq_false h;have Ko:x=rows.length:=by omega
       have he:=Rx (fun y hy=>hp y (by omega));subst Ko;have ht:ys.take rows.length=ys:=by rw [<-Mf,List.take_length]
       simp only [go_sem,seval,h,Mf,ht];exact hs _ he
     ·exact .trans (.ghost _ 9 5 rfl) (As (by simp [Ao]))
  cases hA:Cb X 0 rows with
  |none=>
   refine (core _ (fun _=>rfl) (fun us h=>?_)).weaken v8;rw [hA] at h;cases h
  |some us=>
   refine core _ (fun h=>?_) (fun us' h=>?_)
   ·rw [hA] at h;cases h
   ·rw [hA] at h;cases h;rfl
 cases hI:Om kk i k fr with
 |some i'=>exact main i' hI
 |none=>
  simp only [Option.bind_none];unfold Om at hI;split at hI;rotate_left
  ·cases hI
  rename_i hc;obtain⟨rfl,hle⟩:=hc;split at hI;rotate_left
  ·cases hI
  rename_i Ab;obtain⟨g1,g2⟩:=hi rfl;refine (Al (r:=.tup [.agg true [.int .i64 0,.int .i64 0,.int .i64 0,.int .i64 0,.nils],.bool false]) mixed Tryz.func107 tr107 ?_).weaken v8;have ew:IntKind.i64.wrap (2147483647-i)=2147483647-i:=w64 (by unfold fit;omega);simp only [go_sem,seval,hle,ew,Ab]
theorem A6g {α:Type} {f:Nat->α->Bool} {x:α}:∀{l:List α} {p:Nat},Gr f p l=true->x∈l->∃q,f q x=true:=by
 intro l
 induction l with
 |nil=>intro p _ h;cases h
 |cons y l ih=>
  intro p h hx;rw [Gr,Bool.and_eq_true] at h;rcases List.mem_cons.1 hx with rfl|hx
  ·exact⟨p,h.1⟩
  ·exact ih h.2 hx
theorem Uq {k i j n w:Int} {l:List Tm} {t:Tm} (h:Ej (.mk k i j n l) w=true) (ht:t∈l):∃w',Ej t w'=true:=by
 rw [Sk,Bool.and_eq_true] at h;obtain⟨q,hq⟩:=A6g h.2 ht;exact⟨_,hq⟩
theorem o0 {k i j n w:Int} {l:List Tm} (h:Ej (.mk k i j n l) w=true) (hk:k=2):0<=i/\i<=2147483647:=by
 rw [Sk,Bool.and_eq_true] at h;have h1:=h.1;unfold Hw at h1;rw [Bool.and_eq_true,Bool.and_eq_true] at h1;have h2:=h1.2.2;unfold Lf at h2;rw [if_neg (by omega),if_pos hk] at h2;simp only [Bool.and_eq_true,decide_eq_true_eq] at h2;exact⟨h2.1,h2.2.1⟩
theorem Adr (kk i j n k fr:Int) (l:List Tm):Hc k fr (.mk kk i j n l)=(Om kk i k fr).bind fun i'=>(Cb (fun p t=>Hc k (fr+Bk kk p) t) 0 l).map (Tm.mk kk i' j n):=by
 rw [Hc,Be0];unfold Om;split
 ·split<;>rfl
 ·rfl
theorem Avh (kk i j n k fr:Int) (l:List Tm):Aao kk i j n k fr (Cb (fun p r=>onT (fun t=>(Hc k (fr+Bk kk (p:Nat)) t).map tv) none r) 0 (l.map tv))=(Hc k fr (.mk kk i j n l)).map tv:=by
 rw [Acp,Aby (Y:=fun p t=>(Hc k (fr+Bk kk (p:Nat)) t).map tv) (fun p t _=>by rw [If]),Acd,Adr];unfold Aao;cases Om kk i k fr with
 |none=>rfl
 |some i'=>
  simp only [Option.bind_some,Option.map_map];congr 1;funext rs;simp only [Function.comp,Am]
theorem Avb (k:Int) (hk:0<=k) (t:Tm):TOk t->∀(w fr:Int),Ej t w=true->0<=fr->fr+2*Ke t<=1000000000000 ->
  Con 107 [.agg true (tv t),.int .i64 k,.int .i64 fr] (Cy ((Hc k fr t).map tv)):=by
 induction t using Tm.ind with
 |h kk i j n l ih=>
  intro hok w fr hr hf Eh;cases hok with
  |mk _ _ _ _ _ f1 f2 f3 f4 hb hl=>
  rw [Ac2] at Eh;have h:=Be8 kk i j n k fr (l.map tv) (fun p r=>onT (fun t=>(Hc k (fr+Bk kk (p:Nat)) t).map tv) none r) (by simpa using hb) (rows5 l) (o0 hr) hk hf (by omega)
   (fun p r hr u hu=>by
    obtain⟨t,ht,rfl⟩:=List.mem_map.1 hr;simp only [If] at hu;cases he:Hc k (fr+Bk kk (p:Nat)) t with
    |none=>rw [he] at hu;cases hu
    |some v=>rw [he] at hu;cases hu;exact Ag v)
   (fun p r Fl=>by
    obtain⟨t,ht,rfl⟩:=List.mem_map.1 Fl;simp only [If];obtain⟨w',hw⟩:=Uq hr ht;have hm:=Ahz ht;have hbl:=Mo kk p;exact ih t ht (hl t ht) w' _ hw (by omega) (by omega))
  rw [Avh,<-Am] at h;exact h
theorem A9g (t:Tm):TOk t->∃z,Con 64 [.agg true (tv t)] (.bool z):=by
 induction t using Tm.ind with
 |h k i j n l ih=>
  intro hok;cases hok with
  |mk _ _ _ _ _ f1 f2 f3 f4 hb hl=>
  have h:=Aov k i j n (l.map tv) (fun p r=>onT (fun t=>if ((k==12) && ((p:Int)==2))=true then Ch t else Classical.epsilon (fun z=>Con 64 [.agg true (tv t)] (.bool z))) false r) (by simpa using hb) (rows5 l)
   (fun p r hr hc=>by
    obtain⟨t,ht,rfl⟩:=List.mem_map.1 hr;simp only [If];rw [if_pos hc];exact Xd t (hl t ht))
   (fun p r hr hc=>by
    obtain⟨t,ht,rfl⟩:=List.mem_map.1 hr;simp only [If];rw [if_neg (by rw [hc];exact Bool.false_ne_true)];exact Classical.epsilon_spec (ih t ht (hl t ht)))
  rw [<-Am] at h;exact⟨_,h⟩
theorem w5 (t:Tm) (ht:TOk t) (hp:Ch t=true):Con 40 [.agg true (tv t)] (.bool true):=by
 refine Al mixed Tryz.func40 tr40 ?_;obtain⟨z,h1⟩:=A9g t ht;have h2:=Xd t ht;rw [hp] at h2;have hz:=Ag t;simp only [go_sem,seval,hz];refine Aa h1 ?_;cases z<;>simp only [go_sem,seval,hz];refine Aa h2 ?_;simp only [go_sem,seval]
mutual
def Hd (u:Tm):Int->Tm->Option Tm
 |d,.mk kk i j n l=>
  if kk=2/\d<=i then (if i=d then Hc d 0 u else some (vr (i-1)))
  else (Yd u d kk 0 l).map (Tm.mk kk i j n)
def Yd (u:Tm):Int->Int->Nat->List Tm->Option (List Tm)
 |_,_,_,[]=>some []
 |d,kk,p,t::l=>match Hd u (d+Bk kk p) t with
  |none=>none
  |some v=>match Yd u d kk (p+1) l with
   |none=>none
   |some r=>some (v::r)
end
theorem A3d (u:Tm) (d kk:Int):∀(l:List Tm) (p:Nat),Yd u d kk p l=Cb (fun p t=>Hd u (d+Bk kk p) t) p l:=by
 intro l
 induction l with
 |nil=>intro p;rw [Yd];rfl
 |cons t l ih=>
  intro p;rw [Yd,Cb,ih];cases Hd u (d+Bk kk p) t with
  |none=>rfl
  |some v=>cases Cb (fun p t=>Hd u (d+Bk kk ((p:Nat):Int)) t) (p+1) l<;>rfl
theorem Ac6 {u:Tm} {d kk i j n:Int} {l:List Tm} (h:kk=2/\d<=i):Hd u d (.mk kk i j n l)=if i=d then Hc d 0 u else some (vr (i-1)):=by
 rw [Hd,if_pos h]
theorem p9 {u:Tm} {d kk i j n:Int} {l:List Tm} (h:¬(kk=2/\d<=i)):Hd u d (.mk kk i j n l)=(Cb (fun p t=>Hd u (d+Bk kk p) t) 0 l).map (Tm.mk kk i j n):=by
 rw [Hd,if_neg h,A3d]
theorem A1r {u:Tm} {d kk i j n:Int} {l:List Tm} (h:¬(kk=2/\d<=i)) :
  ((Cb (fun p r=>onT (fun t=>(Hd u (d+Bk kk (p:Nat)) t).map tv) none r) 0 (l.map tv)).map fun rs=>[.int .i64 kk,.int .i64 i,.int .i64 j,.int .i64 n,.dsl 5 rs])=(Hd u d (.mk kk i j n l)).map tv:=by
 rw [Acp,Aby (Y:=fun p t=>(Hd u (d+Bk kk (p:Nat)) t).map tv) (fun p t _=>by rw [If]),Acd,p9 h];simp only [Option.map_map];congr 1;funext rs;simp only [Function.comp,Am]
theorem Aqn {t:Tm} (h:Ch t=true):t.k=1\/t.k=2\/13<=t.k:=by
 cases t with
 |mk k i j n l=>
 show k=1\/k=2\/13<=k;have h':Ej (.mk k i j n l) 2=true:=h;rw [Sk,Bool.and_eq_true] at h';have h1:=h'.1;unfold Hw at h1;rw [Bool.and_eq_true] at h1;have h2:=h1.1;unfold Hl at h2
 by_cases a:k=1\/k=2
 ·omega
 ·rw [if_neg a] at h2
  by_cases b:k<=12
  ·rw [if_pos b] at h2;exact absurd h2 (by decide)
  ·omega
end Go.Proofs.YtdpigpopcbjkmaaGreatDoor.Abs
