import Derived.Test.YtgfehkhcmnfpaaaGreatDoorVAfR
import Derived.Test.YtgfehkhcmnfpaaaGreatDoorVAfC
import Derived.Test.YtgfehkhcmnfpaaaGreatDoorVEv
import Derived.Test.YtgfehkhcmnfpaaaGreatDoorProg
import Derived.KernelRfl
set_option linter.all false
set_option maxRecDepth 20000
set_option maxHeartbeats 4000000
namespace Go.Proofs.YtgfehkhcmnfpaaaGreatDoor.Abs
open Go Go.RowKit Go.Proofs.YtgfehkhcmnfpaaaGreatDoor
def tab(l:List Int)(k:Int):Int:=if 1<=k/\k<=l.length then l.getD (k-1).toNat (-1) else -1
def Pd(n:Int):Int:=tab [5,5,4,6,4,4,5,4,5,4,4,6,6,6,9,12,12,9,9,9,6] n
def Fc(k n:Int):Int:=if k=23 then Pd n else tab [0,0,2,3,4,2,4,3,3,3,2,4,2,2,2,2,4,1,1,3,2,6] k
def Bh{k c:Int}(h:k≠c):(k==c)=false:=by simpa using h
def Arj(n:Int):Con 130 [.int .i64 n] (.int .i64 (Pd n)):=by
 refine Bt mixed Tryz.func130 tr130 ?_
 by_cases h:1<=n/\n<=21
 ·have:n=1\/n=2\/n=3\/n=4\/n=5\/n=6\/n=7\/n=8\/n=9\/n=10\/n=11\/n=12\/n=13\/n=14\/n=15\/n=16\/n=17\/n=18\/n=19\/n=20\/n=21:=by omega
  clear h;rcases this with rfl|rfl|rfl|rfl|rfl|rfl|rfl|rfl|rfl|rfl|rfl|rfl|rfl|rfl|rfl|rfl|rfl|rfl|rfl|rfl|rfl<;>(as_aux_lemma=>(simp only[go_sem,seval];rfl))
 ·have e:Pd n=-1:=by unfold Pd tab;rw[if_neg (by simpa using h)]
  rw[e];simp only[go_sem,seval,Bh (show n≠1 by omega),Bh (show n≠2 by omega),Bh (show n≠3 by omega),Bh (show n≠4 by omega),Bh (show n≠5 by omega),Bh (show n≠6 by omega),Bh (show n≠7 by omega),Bh (show n≠8 by omega),Bh (show n≠9 by omega),Bh (show n≠10 by omega),Bh (show n≠11 by omega),Bh (show n≠12 by omega),Bh (show n≠13 by omega),Bh (show n≠14 by omega),Bh (show n≠15 by omega),Bh (show n≠16 by omega),Bh (show n≠17 by omega),Bh (show n≠18 by omega),Bh (show n≠19 by omega),Bh (show n≠20 by omega),Bh (show n≠21 by omega)]
def Ahf(k n:Int):Con 90 [.int .i64 k,.int .i64 n] (.int .i64 (Fc k n)):=by
 refine Bt mixed Tryz.func90 tr90 ?_
 by_cases h:1<=k/\k<=22
 ·have:k=1\/k=2\/k=3\/k=4\/k=5\/k=6\/k=7\/k=8\/k=9\/k=10\/k=11\/k=12\/k=13\/k=14\/k=15\/k=16\/k=17\/k=18\/k=19\/k=20\/k=21\/k=22:=by omega
  clear h;rcases this with rfl|rfl|rfl|rfl|rfl|rfl|rfl|rfl|rfl|rfl|rfl|rfl|rfl|rfl|rfl|rfl|rfl|rfl|rfl|rfl|rfl|rfl<;>(as_aux_lemma=>(simp only[go_sem,seval];rfl))
 ·by_cases Bs:k=23
  ·subst Bs;simp only[go_sem,seval];refine Ae (Arj n) ?_;simp only[go_sem,seval];rfl
  ·have e:Fc k n=-1:=by unfold Fc tab;rw[if_neg Bs,if_neg (by simpa using h)]
   rw[e];simp only[go_sem,seval,Bh Bs,Bh (show k≠1 by omega),Bh (show k≠2 by omega),Bh (show k≠3 by omega),Bh (show k≠4 by omega),Bh (show k≠5 by omega),Bh (show k≠6 by omega),Bh (show k≠7 by omega),Bh (show k≠8 by omega),Bh (show k≠9 by omega),Bh (show k≠10 by omega),Bh (show k≠11 by omega),Bh (show k≠12 by omega),Bh (show k≠13 by omega),Bh (show k≠14 by omega),Bh (show k≠15 by omega),Bh (show k≠16 by omega),Bh (show k≠17 by omega),Bh (show k≠18 by omega),Bh (show k≠19 by omega),Bh (show k≠20 by omega),Bh (show k≠21 by omega),Bh (show k≠22 by omega)]
def wl0:IntKind.i64.wrap 0=0:=by decide
def wl1:IntKind.i64.wrap 1=1:=by decide
def wl2:IntKind.i64.wrap 2=2:=by decide
def wl3:IntKind.i64.wrap 3=3:=by decide
def wl4:IntKind.i64.wrap 4=4:=by decide
def wl5:IntKind.i64.wrap 5=5:=by decide
def wl6:IntKind.i64.wrap 6=6:=by decide
def wl7:IntKind.i64.wrap 7=7:=by decide
def wl8:IntKind.i64.wrap 8=8:=by decide
def wl9:IntKind.i64.wrap 9=9:=by decide
def wl10:IntKind.i64.wrap 10=10:=by decide
def wl11:IntKind.i64.wrap 11=11:=by decide
def wl12:IntKind.i64.wrap 12=12:=by decide
def wl13:IntKind.i64.wrap 13=13:=by decide
def wl14:IntKind.i64.wrap 14=14:=by decide
def wl15:IntKind.i64.wrap 15=15:=by decide
def wl16:IntKind.i64.wrap 16=16:=by decide
def wl17:IntKind.i64.wrap 17=17:=by decide
def wl18:IntKind.i64.wrap 18=18:=by decide
def wl19:IntKind.i64.wrap 19=19:=by decide
def wl20:IntKind.i64.wrap 20=20:=by decide
def wl21:IntKind.i64.wrap 21=21:=by decide
def Aq4(n:Int):Con 92 [.int .i64 23,.int .i64 n] (.int .i64 (Fc 23 n)):=by
 refine Bt mixed Tryz.func92 tr92 ?_
 by_cases hs:1<=n/\n<=21
 ·have:n=1\/n=2\/n=3\/n=4\/n=5\/n=6\/n=7\/n=8\/n=9\/n=10\/n=11\/n=12\/n=13\/n=14\/n=15\/n=16\/n=17\/n=18\/n=19\/n=20\/n=21:=by omega
  clear hs;rcases this with rfl|rfl|rfl|rfl|rfl|rfl|rfl|rfl|rfl|rfl|rfl|rfl|rfl|rfl|rfl|rfl|rfl|rfl|rfl|rfl|rfl<;>(as_aux_lemma=>(simp only[go_sem,seval,wl0,wl1,wl2,wl3,wl4,wl5,wl6,wl7,wl8,wl9,wl10,wl11,wl12,wl13,wl14,wl15,wl16,wl17,wl18,wl19,wl20,wl21];rfl))
 ·have e:Fc 23 n=-1:=by unfold Fc Pd tab;rw[if_pos rfl,if_neg (by simpa using hs)]
  rw[e];simp only[go_sem,seval]
  by_cases h1:1<=n
  ·have h2:¬n<=21:=by omega
   simp only[go_sem,seval,h1,h2]
  ·simp only[go_sem,seval,h1]
def Aq3(k n:Int):Con 92 [.int .i64 k,.int .i64 n] (.int .i64 (Fc k n)):=by
 by_cases h:1<=k/\k<=22
 ·have:k=1\/k=2\/k=3\/k=4\/k=5\/k=6\/k=7\/k=8\/k=9\/k=10\/k=11\/k=12\/k=13\/k=14\/k=15\/k=16\/k=17\/k=18\/k=19\/k=20\/k=21\/k=22:=by omega
  clear h;refine Bt mixed Tryz.func92 tr92 ?_;rcases this with rfl|rfl|rfl|rfl|rfl|rfl|rfl|rfl|rfl|rfl|rfl|rfl|rfl|rfl|rfl|rfl|rfl|rfl|rfl|rfl|rfl|rfl<;>(as_aux_lemma=>(simp only[go_sem,seval];rfl))
 ·by_cases Bs:k=23
  ·subst Bs;exact Aq4 n
  ·have e:Fc k n=-1:=by unfold Fc tab;rw[if_neg Bs,if_neg (by simpa using h)]
   rw[e];refine Bt mixed Tryz.func92 tr92 ?_;simp only[go_sem,seval,Bh Bs,Bh (show k≠1 by omega),Bh (show k≠2 by omega),Bh (show k≠3 by omega),Bh (show k≠4 by omega),Bh (show k≠5 by omega),Bh (show k≠6 by omega),Bh (show k≠7 by omega),Bh (show k≠8 by omega),Bh (show k≠9 by omega),Bh (show k≠10 by omega),Bh (show k≠11 by omega),Bh (show k≠12 by omega),Bh (show k≠13 by omega),Bh (show k≠14 by omega),Bh (show k≠15 by omega),Bh (show k≠16 by omega),Bh (show k≠17 by omega),Bh (show k≠18 by omega),Bh (show k≠19 by omega),Bh (show k≠20 by omega),Bh (show k≠21 by omega),Bh (show k≠22 by omega)]
def lev(i:Int):Bool:=decide (0<=i) && decide (i<=1000)
def Uz(i:Int):Con 131 [.int .i64 i] (.bool (lev i)):=by
 refine Bt mixed Tryz.func131 tr131 ?_;simp only[go_sem,seval,lev];refine⟨fun h=>?_,fun h=>?_⟩<;>simp only[h,go_sem,seval]
def Xe(i:Int):Con 132 [.int .i64 i] (.bool (lev i)):=by
 refine Bt mixed Tryz.func132 tr132 ?_;simp only[go_sem,seval,lev];refine⟨fun h=>?_,fun h=>?_⟩<;>simp only[h,go_sem,seval]
def Id(k i j n:Int):Bool:=
 if k=1\/k=10\/k=11\/k=12 then lev i && ((j==0) && (n==0))
 else if k=2 then decide (0<=i) && (decide (i<=2147483647) && ((j==0) && (n==0)))
 else if 3<=k/\k<=9 then lev i && (lev j && (n==0))
 else if k=23 then lev i && lev j
 else (i==0) && ((j==0) && (n==0))
def Aqj(k i j n:Int)(rows:GV)(h:k=1\/k=10\/k=11\/k=12):Con 91 [.agg true [.int .i64 k,.int .i64 i,.int .i64 j,.int .i64 n,.dsl 5 rows]] (.bool (lev i && ((j==0) && (n==0)))):=by
 refine Bt mixed Tryz.func91 tr91 ?_;cases hL:lev i<;>cases hJ:(j==0)<;>cases hN:(n==0)<;>rcases h with rfl|rfl|rfl|rfl <;>
  (simp only[go_sem,seval];refine Ae (Uz i) ?_;simp only[go_sem,seval,hL,hJ,hN])
def Aqk(i j n:Int)(rows:GV):Con 91 [.agg true [.int .i64 2,.int .i64 i,.int .i64 j,.int .i64 n,.dsl 5 rows]] (.bool (decide (0<=i) && (decide (i<=2147483647) && ((j==0) && (n==0))))):=by
 refine Bt mixed Tryz.func91 tr91 ?_
 by_cases h1:0<=i<;>by_cases h2:i<=2147483647<;>cases hJ:(j==0)<;>cases hN:(n==0)<;>simp only[go_sem,seval,hJ,hN,h1,h2]
def Aqm(k i j n:Int)(rows:GV)(h:k=3\/k=4\/k=5\/k=6\/k=7\/k=8\/k=9):Con 91 [.agg true [.int .i64 k,.int .i64 i,.int .i64 j,.int .i64 n,.dsl 5 rows]] (.bool (lev i && (lev j && (n==0)))):=by
 refine Bt mixed Tryz.func91 tr91 ?_;cases hL:lev i
 ·rcases h with rfl|rfl|rfl|rfl|rfl|rfl|rfl<;>(as_aux_lemma=>(simp only[go_sem,seval];refine Ae (Uz i) ?_;simp only[go_sem,seval,hL]))
 ·cases hJ:lev j<;>cases hN:(n==0)<;>rcases h with rfl|rfl|rfl|rfl|rfl|rfl|rfl <;>
   (as_aux_lemma=>(simp only[go_sem,seval];refine Ae (Uz i) ?_;simp only[go_sem,seval,hL];refine Ae (Uz j) ?_;simp only[go_sem,seval,hL,hJ,hN]))
def Aql(i j n:Int)(rows:GV):Con 91 [.agg true [.int .i64 23,.int .i64 i,.int .i64 j,.int .i64 n,.dsl 5 rows]] (.bool (lev i && lev j)):=by
 refine Bt mixed Tryz.func91 tr91 ?_;simp only[go_sem,seval];refine Ae (Uz i) ?_;cases hL:lev i
 ·simp only[go_sem,seval]
 ·simp only[go_sem,seval];refine Ae (Uz j) ?_;simp only[go_sem,seval]
def Aqi(k i j n:Int)(rows:GV)(h:k<1\/(12<k/\k≠23)):Con 91 [.agg true [.int .i64 k,.int .i64 i,.int .i64 j,.int .i64 n,.dsl 5 rows]] (.bool ((i==0) && ((j==0) && (n==0)))):=by
 refine Bt mixed Tryz.func91 tr91 ?_;cases hI:(i==0)<;>cases hJ:(j==0)<;>cases hN:(n==0)<;>simp only[go_sem,seval,hI,hJ,hN,Bh (show k≠1 by omega),Bh (show k≠2 by omega),Bh (show k≠3 by omega),Bh (show k≠4 by omega),Bh (show k≠5 by omega),Bh (show k≠6 by omega),Bh (show k≠7 by omega),Bh (show k≠8 by omega),Bh (show k≠9 by omega),Bh (show k≠10 by omega),Bh (show k≠11 by omega),Bh (show k≠12 by omega),Bh (show k≠23 by omega)]
def Aqh(k i j n:Int)(rows:GV):Con 91 [.agg true [.int .i64 k,.int .i64 i,.int .i64 j,.int .i64 n,.dsl 5 rows]] (.bool (Id k i j n)):=by
 unfold Id
 by_cases h1:k=1\/k=10\/k=11\/k=12
 ·rw[if_pos h1];exact Aqj k i j n rows h1
 ·rw[if_neg h1]
  by_cases h2:k=2
  ·subst h2;rw[if_pos rfl];exact Aqk i j n rows
  ·rw[if_neg h2]
   by_cases h3:3<=k/\k<=9
   ·rw[if_pos h3];exact Aqm k i j n rows (by omega)
   ·rw[if_neg h3]
    by_cases h4:k=23
    ·subst h4;rw[if_pos rfl];exact Aql i j n rows
    ·rw[if_neg h4];exact Aqi k i j n rows (by omega)
def Ge(k:Int):Int:=if k=1\/k=2 then 0 else if k<=12 then 1 else 2
def Arl(k:Int):Con 89 [.int .i64 k] (.int .i64 (Ge k)):=by
 refine Bt mixed Tryz.func89 tr89 ?_
 by_cases h1:k=1
 ·subst h1;simp only[go_sem,seval];rfl
 ·by_cases h2:k=2
  ·subst h2;simp only[go_sem,seval];rfl
  ·have e:Ge k=if k<=12 then 1 else 2:=by unfold Ge;rw[if_neg (by omega)]
   rw[e]
   by_cases h3:k<=12
   ·simp only[go_sem,seval,Bh h1,Bh h2,h3]
   ·simp only[go_sem,seval,Bh h1,Bh h2,h3]
abbrev Dc(f:Nat)(G:GV)(args:List SV)(out:HOut)(G':GV):Prop:=HContract Tryz.prog f G args out G'
def Eu:List Nat->SV
 |[]=>.nilp
 |h::t=>.dref 3 [.gp h 0,Eu t,.int .i64 ((t.length:Int)+1)] 0
def Qz:Eu []=.nilp:=rfl
def Xk(e:List Nat){hp:List Ob}:Dl hp (Eu e)=some (Eu e,hp)/\Dn hp (Eu e)=some (Eu e,hp)/\Ec hp (Eu e)=[]/\Dh (Eu e)=[]/\(Eu e).closed=true/\(Eu e).ok=true/\cellsOf (Eu e)=[Eu e]:=by
 cases e<;>exact⟨rfl,rfl,rfl,rfl,rfl,rfl,rfl⟩
def As0{e:List Nat}{hp:List Ob}:Dl hp (Eu e)=some (Eu e,hp):=(Xk e).1
def As1{e:List Nat}{hp:List Ob}:Ec hp (Eu e)=[]:=(Xk e).2.2.1
def Asz{e:List Nat}:(Eu e).closed=true:=(Xk (hp:=[]) e).2.2.2.2.1
def As2{e:List Nat}:(Eu e).ok=true:=(Xk (hp:=[]) e).2.2.2.2.2.1
def Asy{e:List Nat}:cellsOf (Eu e)=[Eu e]:=(Xk (hp:=[]) e).2.2.2.2.2.2
attribute [go_sem] As0 As1 Asz As2 Asy
def Ee(steps most seen guess:Int)(j:Nat):List SV:=[.int .i64 steps,.int .i64 most,.int .i64 seen,.int .i64 guess,.mp j]
def Ve{G:GV}{m:Nat}{r x:List SV}(h:G[m]?=some r):(G.set m x)[m]?=some x:=by
 rw[q_jq];rcases q_jo m G.length with h1|h1
 ·exact h1
 ·rw[q_jd h1] at h;cases h
def Awd{G:GV}{m:Nat}{r:List SV}(h:G[m]?=some r):G.set m r=G:=by
 refine List.ext_getElem? fun i=>?_
 by_cases hi:m=i
 ·subst hi;rw[Ve h,h]
 ·rw[q_jc hi]
def Zx{α:Type}{l:List α}{i:Nat}{a b:α}:(l.set i a).set i b=l.set i b:=List.set_set ..
def Aw4{G:GV}{m j:Nat}{steps most seen guess:Int}(hG:G[m]?=some (Ee steps most seen guess j))(hg:¬guess > 0):Dc 227 G [.gp m 0] (.ret (.tup [])) G:=by
 refine Cl mixed Tryz.func227 tr227 ?_;simp only[go_sem,seval,hG,Ee,q_je hg]
def Pt(g:Int):Int:=if g > 0 then g-1 else g
def Aw3{G:GV}{m j:Nat}{steps most seen guess:Int}(hG:G[m]?=some (Ee steps most seen guess j))(hf:fit guess)(hg:guess≠1):Dc 227 G [.gp m 0] (.ret (.tup [])) (G.set m (Ee steps most seen (Pt guess) j)):=by
 by_cases h:guess > 0
 ·refine Cl mixed Tryz.func227 tr227 ?_;simp only[go_sem,seval,hG,Ee,q_jn h,w64 (show fit (guess-1) by unfold fit at hf |-;omega),Abk,Ve hG,Bh (show guess-1≠0 by omega),Pt,if_pos h]
 ·rw[show G.set m (Ee steps most seen (Pt guess) j)=G by rw[Pt,if_neg h];exact Awd hG];exact Aw4 hG h
def Awy{G:GV}{m j:Nat}{steps most seen guess:Int}(hG:G[m]?=some (Ee steps most seen guess j))(hf:fit guess)(hg:guess≠1)(h0:0<=seen)(hs:seen<8000000) :
  Dc 206 G [.gp m 0] (.ret (.tup [])) (G.set m (Ee steps most (seen+1) (Pt guess) j)):=by
 refine Cl mixed Tryz.func206 tr206 ?_;simp only[go_sem,seval];refine Ai (Aw3 hG hf hg) ?_;simp only[go_sem,seval,Ee,Ve hG,Abk,Zx,w64 (show fit (seen+1) by unfold fit;omega),q_je (show ¬seen+1 > 8000000 by omega)]
def Ai9(G:GV)(most:Int):Dc 144 G [.int .i64 most] (.ret (.gp (G.length+1) 0)) (G++[[.undef],Ee 0 most 0 0 G.length]):=by
 refine Cl mixed Tryz.func144 tr144 ?_;simp only[go_sem,seval,Ee,q_ju]
def Aja{G:GV}{m j:Nat}{steps most seen guess:Int}(hG:G[m]?=some (Ee steps most seen guess j))(most':Int) :
  Dc 175 G [.gp m 0,.int .i64 most'] (.ret (.tup [])) (G.set m (Ee 0 most' 0 guess j)):=by
 refine Cl mixed Tryz.func175 tr175 ?_;simp only[go_sem,seval,hG,Ee,Ve hG,Abk,Zx]
structure Vl where
 k:Int
 i:Int
 j:Int
 n:Int
 level:Int
 kids:List Nat
def e8:List Nat->SV
 |[]=>.nils
 |i::l=>.dsl 1 ([.gp i 0]::l.map fun i=>[.gp i 0])
def A3x:e8 []=.nils:=rfl
def Am1{l:List Nat}(h:l≠[]):e8 l=.dsl 1 (l.map fun i=>[.gp i 0]):=by
 cases l with
 |nil=>exact absurd rfl h
 |cons i l=>rfl
def vlC(v:Vl):List SV:=[.int .i64 v.k,.int .i64 v.i,.int .i64 v.j,.int .i64 v.n,.int .i64 v.level,e8 v.kids]
def vlV(v:Vl):SV:=.dref 6 (vlC v) 0
structure Th where
 t:Tm
 env:List Nat
 bare:Bool
 w:Option Vl
 v:Option Vl
def Fp:Option Vl->SV
 |none=>.nilp
 |some v=>vlV v
def thT(x:Th):List SV:=if x.bare then [.int .i64 0,.int .i64 0,.int .i64 0,.int .i64 0,.nils] else tv x.t
def thR(x:Th):List SV:=thT x++[Eu x.env,.bool x.bare,Fp x.w,Fp x.v]
def Am0(x:Th):(thT x).length=5:=by unfold thT;split<;>simp[Bz]
def A3t{x:Th}:(thR x).length=9:=by simp[thR,Am0]
def Wt(x:Th):∃a b c d f,thT x=[a,b,c,d,f]:=by
 have h:=Am0 x
 match thT x,h with
 |[a,b,c,d,f],_=>exact⟨a,b,c,d,f,rfl⟩
def A3v{t:Tm}{e:List Nat}{w v:Option Vl}{cl:Bool}:cut cl 9 true 5 0 (thR ⟨t,e,false,w,v⟩)=.agg cl (tv t):=by simp[cut,thR,thT,Aby]
def Amy{x:Th}{v:Vl}:Dm 9 1 7 (thR x) [vlV v]=thR { x with w:=some v }:=by
 obtain⟨a,b,c,d,f,h⟩:=Wt x;have h2:thT { x with w:=some v }=[a,b,c,d,f]:=h;simp[Dm,thR,h,h2,Fp]
def Amz{x:Th}{v:Vl}:Dm 9 1 8 (thR x) [vlV v]=thR { x with v:=some v }:=by
 obtain⟨a,b,c,d,f,h⟩:=Wt x;have h2:thT { x with v:=some v }=[a,b,c,d,f]:=h;simp[Dm,thR,h,h2,Fp]
def A3p{x:Th}:(thR x)[5]?.getD .undef=Eu x.env:=by
 obtain⟨a,b,c,d,f,h⟩:=Wt x;simp[thR,h]
def A3q{x:Th}:(thR x)[6]?.getD .undef=.bool x.bare:=by
 obtain⟨a,b,c,d,f,h⟩:=Wt x;simp[thR,h]
def A3r{x:Th}:(thR x)[7]?.getD .undef=Fp x.w:=by
 obtain⟨a,b,c,d,f,h⟩:=Wt x;simp[thR,h]
def A3s{x:Th}:(thR x)[8]?.getD .undef=Fp x.v:=by
 obtain⟨a,b,c,d,f,h⟩:=Wt x;simp[thR,h]
def A5e{v:Vl}:(vlC v)[0]?.getD .undef=.int .i64 v.k:=q_z
def A5f{v:Vl}:(vlC v)[1]?.getD .undef=.int .i64 v.i:=q_z
def A5g{v:Vl}:(vlC v)[5]?.getD .undef=e8 v.kids:=q_z
def A3u{x:Th}:Mb (thR x)=false:=by
 unfold thR thT;split
 ·rfl
 ·cases x.t;rw[Bp];rfl
def A5i{v:Vl}{hp:List Ob}:Dl hp (vlV v)=some (vlV v,hp):=q_z
def A5j{v:Vl}:(vlV v).ok=true:=q_z
def A5h{v:Vl}:cellsOf (vlV v)=[vlV v]:=q_z
def Aa9{v:Vl}:Fp (some v)=vlV v:=q_z
def Afo:Fp none=.nilp:=q_z
attribute [go_sem] A3p A3q A3r A3s A5e A5f A5g A3t A3v Amy Amz A3u A5i A5j A5h
def Avi{a b c d f c0 c1 c2 c3 c4 c5 c6 c7 c8:SV}{r:List (Nat×Nat×SV)}:fill [c0,c1,c2,c3,c4,c5,c6,c7,c8] ((0,5,.agg true [a,b,c,d,f])::r)=fill [a,b,c,d,f,c5,c6,c7,c8] r:=by
 simp[fill,Dm,cellsOf]
attribute [go_sem] Avi
def Ya(G:GV)(t:Tm)(e:List Nat):Dc 114 G [.agg true (tv t),Eu e] (.ret (.gp G.length 0)) (G++[thR ⟨t,e,false,none,none⟩]):=by
 refine Cl mixed Tryz.func114 tr114 ?_;simp only[go_sem,seval,Aby,thR,thT,Fp]
def Ac1(w:Option Vl)(v:Option Vl):List SV:=thR ⟨.mk 0 0 0 0 [],[],true,w,v⟩
def Awj(G:GV)(v:Vl):Dc 181 G [vlV v] (.ret (.gp G.length 0)) (G++[Ac1 (some v) none]):=by
 refine Cl mixed Tryz.func181 tr181 ?_;simp only[go_sem,seval,Ac1,thR,thT,Fp,vlV,Qz]
def Acv(k:Int):Con 223 [.int .i64 k] (.int .i64 (if k=15\/k=18\/k=19 then 0 else if k=22 then 5 else -1)):=by
 refine Bt mixed Tryz.func223 tr223 ?_
 by_cases h1:k=15
 ·subst h1;simp only[go_sem,seval]
 by_cases h2:k=18
 ·subst h2;simp only[go_sem,seval]
 by_cases h3:k=19
 ·subst h3;simp only[go_sem,seval]
 by_cases h4:k=22
 ·subst h4;simp only[go_sem,seval]
 simp only[go_sem,seval,Bh h1,Bh h2,Bh h3,Bh h4,h1,h2,h3,h4,or_self,if_false]
def rdS(c:RC)(nm:SV)(s:RS):List SV:=[.dsl 3 (c.L.map Hk),.int .i64 s.k,.int .i64 c.e,nm,.int .i64 c.i,.int .i64 c.j,.bool s.bad,.int .i64 s.at_]
structure Fz(c:RC):Prop where
 n:c.L.length<100000000000
 i:c.i<=1000
 j:c.j<=1000
structure AtG(c:RC)(k:Nat):Prop where
 lt:k<c.L.length
 ltz:(k:Int)<(c.L.length:Int)
 ge:(0:Int)<=(k:Int)
 row:(c.L.map Hk)[k]?.getD []=[.int .i64 (c.tk k).k,.str (bs (c.tk k).w),.int .i64 (c.tk k).p]
 w1:IntKind.i64.wrap ((k:Int)+1)=((k+1:Nat):Int)
 w2:IntKind.i64.wrap (((k+1:Nat):Int)-1)=(k:Int)
 nge:¬(k:Int) >= (c.L.length:Int)
 nle:¬(c.L.length:Int)<=(k:Int)
 big:(c.L.length<=140737488355328)=True
def atG{c:RC}(hc:Fz c){k:Nat}(h:k<c.L.length):AtG c k:=by
 have hn:=hc.n;refine⟨h,by omega,by omega,?_,by rw[w64 (by unfold fit;omega)];omega,by rw[w64 (by unfold fit;omega)];omega,by omega,by omega,by simp;omega⟩;rw[q_ji,q_f h];unfold RC.tk;rw[q_j,q_f h];rfl
section
variable{c:RC}{nm:SV}{s:RS}{G:GV}
def Ns(hc:Fz c)(k:Nat):Dc 156 (rdS c nm s::G) [.gp 0 0,.int .i64 k] (.ret (.tup [])) (rdS c nm (De c s k)::G):=by
 refine Cl mixed Tryz.func156 tr156 ?_;have hn:=hc.n;have a10:(c.L.length<=140737488355328)=True:=by simp;omega
 obtain⟨sk,sb,sa,D⟩:=s;unfold rdS De;cases sb
 ·by_cases h:k<c.L.length
  ·obtain⟨a1,a2,a3,a4,a6,a7,a8,a9,a10⟩:=atG hc h;simp only[go_sem,seval,a1,a2,a3,a4,a10,q_jn a2,q_g,if_true,if_false,q_kx,forall_const]
  ·simp only[go_sem,seval,a10,q_je (show ¬(k:Int)<(c.L.length:Int) by omega),q_g,if_neg h,q_kx,if_false,forall_const]
 ·simp only[go_sem,seval,if_true]
def Cj(hc:Fz c)(kd:Nat):Dc 188 (rdS c nm s::G) [.gp 0 0,.int .i64 kd] (.ret (.str (bs (An c s kd).1))) (rdS c nm (An c s kd).2::G):=by
 have cf:=Ns (nm:=nm) (s:=s) (G:=G) hc s.k;refine Cl mixed Tryz.func188 tr188 ?_;have hn:=hc.n;have a10:(c.L.length<=140737488355328)=True:=by simp;omega
 unfold An RS.nx;unfold rdS at cf |-;obtain⟨sk,sb,sa,D⟩:=s;simp only at cf |-;cases sb
 ·by_cases h:sk<c.L.length
  ·obtain⟨a1,a2,a3,a4,a6,a7,a8,a9,a10⟩:=atG hc h
   by_cases hk:(c.tk sk).k=kd
   ·rw[if_pos ⟨rfl,h,hk⟩];have Ek:(((c.tk sk).k:Int) != (kd:Int))=false:=by simp[hk]
    simp only[go_sem,seval,a1,a2,a3,a4,a6,a7,a10,q_je a8,q_g,Ek,forall_const]
   ·rw[if_neg (fun h=>hk h.2.2)];have Ek:(((c.tk sk).k:Int) != (kd:Int))=true:=by simp;omega
    simp only[go_sem,seval,a1,a2,a3,a4,a10,q_je a8,q_g,Ek,forall_const];refine Ai cf ?_;simp only[go_sem,seval]
  ·rw[if_neg (fun k=>h k.2.1)];simp only[go_sem,seval,a10,q_jn (show (sk:Int) >= (c.L.length:Int) by omega),q_g,forall_const];refine Ai cf ?_;simp only[go_sem,seval]
 ·rw[if_neg (by simp)];simp only[go_sem,seval];refine Ai cf ?_;simp only[go_sem,seval]
def Rb(k:Nat):(De c s k).k=s.k:=by unfold De;split<;>rfl
def Cp(kd:Nat):s.k<=(An c s kd).2.k:=by
 unfold An;split
 ·exact Nat.le_succ _
 ·rw[Rb];exact q_ja _
def Ayx{lev:RS->Nat×RS}(h:∀s,s.k<=(lev s).2.k):s.k<=(Jp c lev s).2.k:=by
 unfold Jp;refine q_ko ?_ (Cp 2);have h1:=h s.nx;have h2:=h (lev s.nx).2;have h3:s.nx.k=s.k+1:=rfl;split
 ·exact (by omega:s.k<=(lev s.nx).2.k)
 split
 ·exact (by omega:s.k<=(lev (lev s.nx).2).2.k)
 ·rw[Rb];exact q_ja _
def Kw:∀(f:Nat) (s:RS),s.k<=(Cy c f s).2.k:=by
 intro f
 induction f with
 |zero=>intro s;exact q_ja _
 |succ f ih=>
  intro s;unfold Cy;have h3:s.nx.k=s.k+1:=rfl;have key:∀(q:Nat×RS),s.k<=q.2.k->s.k<=(if q.2.bad=false/\1000<q.1 then De c q.2 s.k else q.2).k:=fun q h=>by
   split
   ·rw[Rb];exact h
   ·exact h
  split
  ·refine key _ ?_
   repeat' split
   ·exact (by omega:s.k<=s.nx.k)
   ·exact (by omega:s.k<=s.nx.k)
   ·exact (by omega:s.k<=s.nx.k)
   ·have:=Ayx (c:=c) (s:=s.nx) ih;omega
   ·rw[Rb];exact q_ja _
  ·rw[Rb];exact q_ja _
def Ail(w:By):(Ez w).getD 0<=1000000:=by
 unfold Ez
 repeat' split
 all_goals simp
 rename_i h;omega
def Ayy{lev:RS->Nat×RS}{m:Nat}(h:∀s,(lev s).1<=m):(Jp c lev s).1<=m+1:=by
 unfold Jp;have h1:=h s.nx;have h2:=h (lev s.nx).2;split
 ·exact (by omega:(lev s.nx).1+1<=m+1)
 split
 ·exact (by omega:max (lev s.nx).1 (lev (lev s.nx).2).1<=m+1)
 ·exact Nat.zero_le _
def Ax9(hc:Fz c):∀(f:Nat) (s:RS),(Cy c f s).1<=1000000+f:=by
 intro f
 induction f with
 |zero=>intro s;exact Nat.zero_le _
 |succ f ih=>
  intro s;unfold Cy;have h1:=Ail (c.tk s.k).w;have h2:=hc.i;have h3:=hc.j;have h4:=Ayy (c:=c) (s:=s.nx) ih;split
  ·show (if _ then _ else _:Nat×RS).1<=_
   repeat' split
   all_goals first|omega|(simp only;omega)
  ·exact Nat.zero_le _
end
def LxG.step{l:By}{q:Nat}{ts:List Tok}{e:Option Nat}(h:LxG l q ts e)(hq:q<l.length) :
  ((Ci q (l.drop q)).2=false/\ts=[]/\e=some q)\/∃r,(Ci q (l.drop q)).2=true/\ts=(Ci q (l.drop q)).1::r/\LxG l (q+(Ci q (l.drop q)).1.w.length+skF false (l.drop (q+(Ci q (l.drop q)).1.w.length))) r e:=by
 cases h with
 |nil=>exact absurd hq (Nat.lt_irrefl _)
 |bad _ h=>exact .inl ⟨h,rfl,rfl⟩
 |tok _ h r=>exact .inr ⟨_,h,rfl,r⟩
def LxG.done{l:By}{ts:List Tok}{e:Option Nat}(h:LxG l l.length ts e):ts=[]/\e=none:=by
 generalize hq:l.length=q at h;cases h with
 |nil=>exact⟨rfl,rfl⟩
 |bad Mw _=>omega
 |tok Mw _ _=>omega
open Go Go.Proofs Go.Proofs.YtgfehkhcmnfpaaaGreatDoor
def af100:AF:=⟨2,[(.t 0)],(Ad [oP 0 (.mv (.c .nils))] (Ad [oP 1 (.bslice 1 [(Ap [115,111,114,116]),(Ap []),(Ap [112,105]),(Ap [108,97,109]),(Ap [97,112,112]),(Ap [115,105,103]),(Ap [112,97,105,114]),(Ap [102,115,116]),(Ap [115,110,100]),(Ap [101,113]),(Ap [114,101,102,108]),(Ap [116,114])]),Ac 0 1] .ret))⟩
def tr100:trF Tryz.prog Tryz.f100=some af100:=by kernel_rfl
attribute [go_sem] af100
def af101:AF:=⟨2,[(.t 0)],(Ad [oP 0 (.mv (.c .nils))] (Ad [oP 1 (.bslice 1 [(Ap [80,105]),(Ap [76,97,109]),(Ap [65,112,112]),(Ap [83,105,103]),(Ap [80,97,105,114]),(Ap [70,115,116]),(Ap [83,110,100]),(Ap [69,113]),(Ap [82,101,102,108]),(Ap [74]),(Ap [117,115,101])]),Ac 0 1] .ret))⟩
def tr101:trF Tryz.prog Tryz.f101=some af101:=by kernel_rfl
attribute [go_sem] af101
def af135:AF:=⟨2,[(.t 0)],(Ad [oP 0 (.mv (.c .nils))] (Ad [oP 1 (.bslice 1 [(Ap [117,105,112]),(Ap [102,117,110,101,120,116]),(Ap [115,121,109]),(Ap [116,114,97,110,115]),(Ap [116,114]),(Ap [104,101,116]),(Ap [116,121,112]),(Ap [116,114,104]),(Ap [104,112]),(Ap [104,50,101]),(Ap [101,50,104]),(Ap [114,112]),(Ap [99,112,105]),(Ap [99,115,105,103]),(Ap [99,108,97,109]),(Ap [99,97,112,112]),(Ap [99,112,97,105,114]),(Ap [99,102,115,116]),(Ap [99,115,110,100]),(Ap [99,101,113]),(Ap [99,114,101,102,108])]),Ac 0 1] .ret))⟩
def tr135:trF Tryz.prog Tryz.f135=some af135:=by kernel_rfl
attribute [go_sem] af135
def Ak2(c:RC)(k:Nat):Nat:=if k<c.L.length then (c.tk k).k else 0
def Ang(c:RC)(k:Nat):By:=if k<c.L.length then (c.tk k).w else []
def m8(b:Int)(k:Nat):Int:=if b<0 then k else b
def Alu(c:RC)(i:Nat):Nat:=if i<c.L.length then (c.tk i).p else c.e
def PRel(c:RC)(k:Nat)(b:Int)(s:RS):Prop:=k<=c.L.length+1/\if s.bad then ∃i:Nat,b=i/\i<=c.L.length+1/\s.at_=Alu c i else b=-1/\k=s.k
def PRel.good{c:RC}{k:Nat}{b:Int}{s:RS}(h:PRel c k b s)(hb:s.bad=false):b=-1/\k=s.k:=by
 have:=h.2;rwa [hb,if_neg (by decide)] at this
def PRel.ill{c:RC}{k:Nat}{b:Int}{s:RS}(h:PRel c k b s)(hb:s.bad=true):∃i:Nat,b=i/\i<=c.L.length+1/\s.at_=Alu c i:=by
 have:=h.2;rwa [hb,if_pos rfl] at this
def PRel.le{c:RC}{k:Nat}{b:Int}{s:RS}(h:PRel c k b s):k<=c.L.length+1:=h.1
def PRel.lt0{c:RC}{k:Nat}{b:Int}{s:RS}(h:PRel c k b s):(b<0)↔s.bad=false:=by
 cases hb:s.bad with
 |false=>have:=(h.good hb).1;subst this;simp
 |true=>obtain⟨i,rfl,_⟩:=h.ill hb;simp
def PRel.ill'{c:RC}{k k':Nat}{b:Int}{s s':RS}(h:PRel c k b s)(hb:s.bad=true)(Di:s'.bad=true)(ha:s'.at_=s.at_)(hk:k'<=c.L.length+1):PRel c k' b s':=by
 obtain⟨i,h1,h2,h3⟩:=h.ill hb;exact⟨hk,by rw[Di,if_pos rfl];exact⟨i,h1,h2,ha.trans h3⟩⟩
def PRel.fail{c:RC}{k:Nat}{b:Int}{s:RS}(h:PRel c k b s){i k':Nat}(hi:i<=c.L.length+1)(hk:k'<=c.L.length+1):PRel c k' (m8 b i) (De c s i):=by
 unfold De m8;cases hb:s.bad with
 |true=>
  have h0:=h.lt0;rw[hb] at h0;rw[if_pos rfl,if_neg (fun k=>by simpa using h0.1 k)];exact h.ill' hb hb rfl hk
 |false=>
  rw[if_neg Bool.false_ne_true,if_pos (h.lt0.2 hb)];exact⟨hk,by simp only[if_true];exact⟨i,rfl,hi,rfl⟩⟩
section
variable{c:RC}{k:Nat}{b:Int}{nm:SV}{G:GV}
def Ab5(c:RC)(k:Nat)(b:Int)(kd:Nat):By×Nat×Int:=if b<0 then (if Ak2 c k=kd then (Ang c k,k+1,b) else ([],k,k)) else ([],k,b)
end
def PRel.want{c:RC}{k:Nat}{b:Int}{s:RS}(h:PRel c k b s){kd:Nat}(hkd:kd≠0):PRel c (Ab5 c k b kd).2.1 (Ab5 c k b kd).2.2 (An c s kd).2/\((An c s kd).2.bad=false->(Ab5 c k b kd).1=(An c s kd).1):=by
 unfold Ab5 An Ak2 Ang;cases hb:s.bad with
 |true=>
  have h0:=h.lt0;rw[hb] at h0;rw[if_neg (fun k=>by simpa using h0.1 k),if_neg (by simp)];have:De c s s.k=s:=by unfold De;rw[hb,if_pos rfl]
  rw[this];exact⟨h,fun _=>rfl⟩
 |false=>
  obtain⟨rfl,rfl⟩:=h.good hb;rw[if_pos (show (-1:Int)<0 by decide)]
  by_cases hl:s.k<c.L.length
  ·rw[if_pos hl,if_pos hl]
   by_cases hk:(c.tk s.k).k=kd
   ·rw[if_pos hk,if_pos ⟨rfl,hl,hk⟩];refine⟨⟨show s.k+1<=_ by omega,?_⟩,fun _=>rfl⟩;rw[show s.nx.bad=s.bad from rfl,hb,if_neg (by decide)];exact⟨rfl,rfl⟩
   ·rw[if_neg hk,if_neg (fun k=>hk k.2.2)];have:=h.fail (i:=s.k) (k':=s.k) h.1 h.1;unfold m8 at this;rw[if_pos (show (-1:Int)<0 by decide)] at this;exact⟨this,fun _=>rfl⟩
  ·rw[if_neg hl,if_neg hl,if_neg (Ne.symm hkd),if_neg (fun k=>hl k.2.1)];have:=h.fail (i:=s.k) (k':=s.k) h.1 h.1;unfold m8 at this;rw[if_pos (show (-1:Int)<0 by decide)] at this;exact⟨this,fun _=>rfl⟩
section
variable{c:RC}{nm:SV}{s:RS}{G:GV}
def wkR{n:Nat}(h:n<1000000000000):IntKind.i64.wrap ((n:Int)+1)=((n+1:Nat):Int):=by rw[w64 (by unfold fit;omega)];omega
def Awr(hc:Fz c){lev:RS->Nat×RS}(hl:∀s',s.k<s'.k->Dc 213 (rdS c nm s'::G) [.gp 0 0] (.ret (.int .i64 (lev s').1)) (rdS c nm (lev s').2::G))(hk:∀s',s'.k<=(lev s').2.k)(hv:∀s',(lev s').1<1000000000000) :
  Dc 228 (rdS c nm s::G) [.gp 0 0] (.ret (.int .i64 (Jp c lev s).1)) (rdS c nm (Jp c lev s).2::G):=by
 have cf:=Ns (nm:=nm) (s:=s) (G:=G) hc s.k;have l1:=hl s.nx (Nat.lt_succ_self _);have l2:=hl (lev s.nx).2 (q_kp (Nat.lt_succ_self _) (hk s.nx));have n1:=Cj (nm:=nm) (s:=(lev s.nx).2) (G:=G) hc 2;have n2:=Cj (nm:=nm) (s:=(lev (lev s.nx).2).2) (G:=G) hc 2;have n3:=Cj (nm:=nm) (s:=De c s s.k) (G:=G) hc 2;have v1:=wkR (hv s.nx);refine Cl mixed Tryz.func228 tr228 ?_;have hn:=hc.n;have a10:(c.L.length<=140737488355328)=True:=by simp;omega
 unfold Jp;have hmx:∀a b:Nat,((max a b:Nat):Int)=if (a:Int)<(b:Int) then (b:Int) else (a:Int):=fun a b=>by split<;>omega
 generalize lev s.nx=q1 at *
 obtain⟨v,s1⟩:=q1;simp only at *
 generalize lev s1=q2 at *
 obtain⟨v2,s2⟩:=q2;simp only at *
 generalize De c s s.k=sf at *
 by_cases h:s.k<c.L.length
 ·obtain⟨a1,a2,a3,a4,a6,a7,a8,a9,a10⟩:=atG hc h;unfold RS.nx at l1;unfold rdS at *
  by_cases Hf:(c.tk s.k).k=3
  ·have k3:(((c.tk s.k).k:Int)==3)=true:=by simp[Hf]
   by_cases hs:(c.tk s.k).w=[115,117,99]
   ·have Tl:((c.tk s.k).w==[115,117,99])=true:=by simp[hs]
    rw[if_pos ⟨h,Hf,hs⟩]
    repeat' first
    |simp only[go_sem,seval,a1,a2,a3,a4,a6,a10,q_jn a2,q_g,k3,Tl,v1,forall_const]
    |refine Ai l1 ?_
    |refine Ai n1 ?_
   ·have Tl:((c.tk s.k).w==[115,117,99])=false:=by simp[hs]
    rw[if_neg (fun k=>hs k.2.2)]
    by_cases hm:(c.tk s.k).w=[109,97,120]
    ·have hm':((c.tk s.k).w==[109,97,120])=true:=by simp[hm]
     rw[if_pos ⟨h,Hf,hm⟩]
     repeat' first
     |simp only[go_sem,seval,a1,a2,a3,a4,a6,a10,q_jn a2,q_g,k3,Tl,hm',hmx,forall_const]
     |refine Ai l1 ?_
     |refine Ai l2 ?_
     |refine Ai n2 ?_
    ·have hm':((c.tk s.k).w==[109,97,120])=false:=by simp[hm]
     rw[if_neg (fun k=>hm k.2.2)]
     repeat' first
     |simp only[go_sem,seval,a1,a2,a3,a4,a6,a10,q_jn a2,q_g,k3,Tl,hm',forall_const]
     |refine Ai cf ?_
     |refine Ai n3 ?_
  ·have k3:(((c.tk s.k).k:Int)==3)=false:=by simp;omega
   rw[if_neg (fun k=>Hf k.2.1),if_neg (fun k=>Hf k.2.1)]
   repeat' first
   |simp only[go_sem,seval,a1,a2,a3,a4,a6,a10,q_jn a2,q_g,k3,forall_const]
   |refine Ai cf ?_
   |refine Ai n3 ?_
 ·rw[if_neg (fun k=>h k.1),if_neg (fun k=>h k.1)];unfold rdS at *
  repeat' first
  |simp only[go_sem,seval,a10,q_je (show ¬(s.k:Int)<(c.L.length:Int) by omega),q_g,forall_const]
  |refine Ai cf ?_
  |refine Ai n3 ?_
def Li(hc:Fz c):∀(f:Nat) (s:RS),f<=c.L.length+1->c.L.length<s.k+f->(0<f)->Dc 213 (rdS c nm s::G) [.gp 0 0] (.ret (.int .i64 (Cy c f s).1)) (rdS c nm (Cy c f s).2::G):=by
 intro f
 induction f with
 |zero=>intro s _ _ h0;omega
 |succ f ih=>
  intro s hf hs _;have cf:=Ns (nm:=nm) (s:=s) (G:=G) hc s.k;have hn:=hc.n;have hi:=hc.i;have hj:=hc.j;have a10:(c.L.length<=140737488355328)=True:=by simp;omega
  refine Cl mixed Tryz.func213 tr213 ?_;obtain⟨sk,sb,sa,D⟩:=s;simp only at hs;unfold Cy;cases sb;rotate_left
  ·rw[if_neg (by simp)];unfold rdS at cf |-;simp only[go_sem,seval];refine Ai cf ?_;simp only[go_sem,seval]
  by_cases h:sk<c.L.length
  rotate_left
  ·rw[if_neg (fun k=>h k.2)];unfold rdS at cf |-;simp only[go_sem,seval,a10,q_jn (show (sk:Int) >= (c.L.length:Int) by omega),q_g,forall_const];refine Ai cf ?_;simp only[go_sem,seval]
  rw[if_pos ⟨rfl,h⟩];obtain⟨a1,a2,a3,a4,a6,a7,a8,a9,a10⟩:=atG hc h;have cg:=Acm (c.tk sk).w;have hgl:=Ail (c.tk sk).w
  by_cases hk4:(c.tk sk).k=4
  ·simp only[if_pos hk4,RS.nx];have k4:(((c.tk sk).k:Int)==4)=true:=by simp[hk4]
   have cf2:=Ns (nm:=nm) (s:=⟨sk+1,false,sa,D⟩) (G:=G) hc sk;unfold rdS at cf cf2 |-
   by_cases Iy:1000<(Ez (c.tk sk).w).getD 0
   ·rw[if_pos ⟨by first|rfl|trivial,Iy⟩]
    repeat' first
    |simp only[go_sem,seval,a1,a2,a3,a4,a6,a10,q_je a8,q_g,k4,q_jn (show (((Ez (c.tk sk).w).getD 0:Nat):Int) > 1000 by omega),forall_const]
    |refine Ae cg ?_
    |refine Ai cf2 ?_
   ·rw[if_neg (fun k=>Iy k.2)]
    repeat' first
    |simp only[go_sem,seval,a1,a2,a3,a4,a6,a10,q_je a8,q_g,k4,q_je (show ¬(((Ez (c.tk sk).w).getD 0:Nat):Int) > 1000 by omega),forall_const]
    |refine Ae cg ?_
  have k4:(((c.tk sk).k:Int)==4)=false:=by simp;omega
  simp only[if_neg hk4]
  by_cases Hf:(c.tk sk).k=3
  ·have k3:(((c.tk sk).k:Int)==3)=true:=by simp[Hf]
   have k1:(((c.tk sk).k:Int)==1)=false:=by simp[Hf]
   have h1:¬(c.tk sk).k=1:=by omega
   by_cases Lw:(c.tk sk).w=[105]
   ·have Dk:((c.tk sk).w==[105])=true:=by simp[Lw]
    simp only[if_pos (show (c.tk sk).k=3/\(c.tk sk).w=[105] from ⟨Hf,Lw⟩),RS.nx];rw[if_neg (fun k=>by have:=k.2;omega)];unfold rdS at cf |-
    repeat' first
    |simp only[go_sem,seval,a1,a2,a3,a4,a6,a10,q_je a8,q_g,k4,k3,Dk,q_je (show ¬((c.i:Nat):Int) > 1000 by omega),forall_const]
   have Dk:((c.tk sk).w==[105])=false:=by simp[Lw]
   simp only[if_neg (show ¬((c.tk sk).k=3/\(c.tk sk).w=[105]) from fun k=>Lw k.2)]
   by_cases hj1:(c.tk sk).w=[106]
   ·have Kn:((c.tk sk).w==[106])=true:=by simp[hj1]
    simp only[if_pos (show (c.tk sk).k=3/\(c.tk sk).w=[106] from ⟨Hf,hj1⟩),RS.nx];rw[if_neg (fun k=>by have:=k.2;omega)];unfold rdS at cf |-
    repeat' first
    |simp only[go_sem,seval,a1,a2,a3,a4,a6,a10,q_je a8,q_g,k4,k3,Dk,Kn,q_je (show ¬((c.j:Nat):Int) > 1000 by omega),forall_const]
   have Kn:((c.tk sk).w==[106])=false:=by simp[hj1]
   simp only[if_neg (show ¬((c.tk sk).k=3/\(c.tk sk).w=[106]) from fun k=>hj1 k.2),if_neg h1];rw[if_neg (by simp[De])];have Ho:(De c ⟨sk,false,sa,D⟩ sk).bad=true:=by simp[De]
   unfold rdS at cf |-;generalize De c ⟨sk,false,sa,D⟩ sk=sf at *
   repeat' first
   |simp only[go_sem,seval,a1,a2,a3,a4,a6,a10,q_je a8,q_g,k4,k3,k1,Dk,Kn,Ho,forall_const]
   |refine Ai cf ?_
  have k3:(((c.tk sk).k:Int)==3)=false:=by simp;omega
  simp only[if_neg (show ¬((c.tk sk).k=3/\(c.tk sk).w=[105]) from fun k=>Hf k.1),if_neg (show ¬((c.tk sk).k=3/\(c.tk sk).w=[106]) from fun k=>Hf k.1)]
  by_cases Fh:(c.tk sk).k=1
  ·have k1:(((c.tk sk).k:Int)==1)=true:=by simp[Fh]
   simp only[if_pos Fh];have cm:=Awr (nm:=nm) (s:=RS.nx ⟨sk,false,sa,D⟩) (G:=G) hc (lev:=Cy c f) (fun s' Tl=>by
    have Tl:sk+1<s'.k:=Tl;rcases Nat.eq_zero_or_pos f with h0|h0
    ·subst h0;omega
    ·exact ih s' (by omega) (by omega) h0) (Kw f) (fun s'=>by have:=Ax9 hc f s';omega)
   have cf2:=Ns (nm:=nm) (s:=(Jp c (Cy c f) (RS.nx ⟨sk,false,sa,D⟩)).2) (G:=G) hc sk;generalize Jp c (Cy c f) (RS.nx ⟨sk,false,sa,D⟩)=q at *
   obtain⟨v,sq,bq,aq,Dq⟩:=q;unfold RS.nx at cm;unfold rdS at *
   simp only at *
   cases bq
   ·by_cases Iy:1000<v
    ·rw[if_pos ⟨by first|rfl|trivial,Iy⟩]
     repeat' first
     |simp only[go_sem,seval,a1,a2,a3,a4,a6,a10,q_je a8,q_g,k4,k3,k1,q_jn (show ((v:Nat):Int) > 1000 by omega),forall_const]
     |refine Ai cm ?_
     |refine Ai cf2 ?_
    ·rw[if_neg (fun k=>Iy k.2)]
     repeat' first
     |simp only[go_sem,seval,a1,a2,a3,a4,a6,a10,q_je a8,q_g,k4,k3,k1,q_je (show ¬((v:Nat):Int) > 1000 by omega),forall_const]
     |refine Ai cm ?_
   ·rw[if_neg (by simp)]
    repeat' first
    |simp only[go_sem,seval,a1,a2,a3,a4,a6,a10,q_je a8,q_g,k4,k3,k1,forall_const]
    |refine Ai cm ?_
  ·have k1:(((c.tk sk).k:Int)==1)=false:=by simp;omega
   simp only[if_neg Fh];rw[if_neg (by simp[De])];have Ho:(De c ⟨sk,false,sa,D⟩ sk).bad=true:=by simp[De]
   unfold rdS at cf |-;generalize De c ⟨sk,false,sa,D⟩ sk=sf at *
   repeat' first
   |simp only[go_sem,seval,a1,a2,a3,a4,a6,a10,q_je a8,q_g,k4,k3,k1,Ho,forall_const]
   |refine Ai cf ?_
end
def wdG(w:By):List SV:=[.str (bs w)]
def nmG(ns:List By):SV:=.dsl 1 (ns.reverse.map wdG)
def findG{w:By}:∀{l:List By} {n:Nat},Gx w l=some n->l[n]?=some w/\∀m,m<n->∃v,l[m]?=some v/\(v==w)=false:=by
 intro l
 induction l with
 |nil=>intro n h;cases h
 |cons a l ih=>
  intro n h;rw[Gx] at h;split at h
  ·rename_i hv;cases h;have:a=w:=by simpa using hv
   subst this;exact⟨rfl,fun m hm=>by omega⟩
  ·rename_i hv;cases hq:Gx w l with
   |none=>rw[hq] at h;cases h
   |some q=>
    rw[hq] at h;rw[q_jh,q_b] at h;subst h;obtain⟨h1,h2⟩:=ih hq;refine⟨by simpa using h1,fun m hm=>?_⟩;cases m with
    |zero=>exact⟨a,rfl,by simpa using hv⟩
    |succ m=>
     obtain⟨v,h3,h4⟩:=h2 m (by omega);exact⟨v,by simpa using h3,h4⟩
def Aid{w:By}:∀{l:List By},Gx w l=none->∀m,m<l.length->∃v,l[m]?=some v/\(v==w)=false:=by
 intro l
 induction l with
 |nil=>intro _ m h;cases h
 |cons a l ih=>
  intro h m hm;rw[Gx] at h;split at h
  ·cases h
  ·rename_i hv;cases hq:Gx w l with
   |some q=>rw[hq] at h;cases h
   |none=>
    cases m with
    |zero=>exact⟨a,rfl,by simpa using hv⟩
    |succ m=>exact ih hq m (by simpa using hm)
def Hg{P:Program}{f:Nat}{G G':GV}{args:List SV}{r r':SV}(h:HContract P f G args (.ret r) G')(hl:Le r r'):HContract P f G args (.ret r') G':=by
 intro m w vs h1 h2 h3 h4;refine Calls.mono (h m w vs h1 h2 h3 h4) (fun e w' he=>?_);obtain⟨m',⟨v,a1,a2⟩,a3⟩:=he;exact⟨m',⟨v,a1,hl.rep a2⟩,a3⟩
section
variable{c:RC}{nm:SV}{s:RS}{G:GV}
def Aws(hc:Fz c){ns:List By}(Cc:ns.length<100000000000)(hb:s.bad=false)(hk:s.k<c.L.length) :
  Dc 187 (rdS c (nmG ns) s::G) [.gp 0 0] (.ret (.agg true (tv (Kx c ns s).1))) (rdS c (nmG ns) (Kx c ns s).2::G):=by
 have cf:=Ns (nm:=nmG ns) (s:=s) (G:=G) hc s.k;obtain⟨a1,a2,a3,a4,a6,a7,a8,a9,a10⟩:=atG hc hk;have Cv:∀(m:Nat) v,ns[m]?=some v->(ns.reverse.map wdG)[ns.length-1-m]?.getD []=[.str (bs v)]:=fun m v hv=>by
  have hm:=(q_jm.1 hv).1;rw[q_ji,List.getElem?_reverse (by omega),show ns.length-1-(ns.length-1-m)=m by omega,hv];rfl
 have Bl:(ns.reverse.map wdG).length=ns.length:=by simp
 have Iy:(ns.length<=140737488355328)=True:=by simp;omega
 have ew:IntKind.i64.wrap ((ns.length:Int)-1)=(ns.length:Int)-1-(0:Nat):=by rw[w64 (by unfold fit;omega)];omega
 obtain⟨sk,sb,sa,D⟩:=s;simp only at hb hk a1 a2 a3 a4 a6 a7 a8 a9;subst hb;unfold Kx RS.nx;unfold rdS nmG at cf |-;generalize ns.reverse.map wdG=R at *
 -- the number of names that are looked at in vain
 obtain⟨n,hn,h2⟩:∃n,n<=ns.length/\∀m,m<n->∃v,ns[m]?=some v/\(v==(c.tk sk).w)=false:=⟨0,Nat.zero_le _,fun m h=>by omega⟩
 cases hf:Gx (c.tk sk).w ns with
 |some n=>
  obtain⟨h1,h2⟩:=findG hf;have Aq:=(q_jm.1 h1).1;refine Hg (Cl (out:=.ret (.agg true [.int .i64 2,.int .i64 n,.int .i64 0,.int .i64 0,.nils])) mixed Tryz.func187 tr187 ?_) (Tx _ _ _ _);simp only[go_sem,seval,Bl,Iy,forall_const];rw[ew];refine Kf (fun x=>⟨(.gp 0 0::.J::.ref 1 0 0 0::.int .i64 ((ns.length:Int)-1-x)::Fb (Fa (jk4 ([])))),[gOb ([.dsl 3 (c.L.map Hk),.int .i64 sk,.int .i64 c.e,.dsl 1 R,.int .i64 c.i,.int .i64 c.j,.bool false,.int .i64 sa]::G),⟨true,5,[[.int .i64 0,.int .i64 0,.int .i64 0,.int .i64 0,.nils]],0,0,true⟩]⟩) n (fun x hx=>?_) ?_
  ·have hq:ns.length-1-x<ns.length:=by omega
   have eI:(ns.length:Int)-1-x=((ns.length-1-x:Nat):Int):=by omega
   have e0:(0:Int)<=((ns.length-1-x:Nat):Int):=by omega
   have e1:((ns.length-1-x:Nat):Int)<(ns.length:Int):=by omega
   have eg:((ns.length-1-x:Nat):Int) >= 0:=e0;rw[eI]
   by_cases Ym:x<n
   ·obtain⟨v,h3,h4⟩:=h2 x Ym;simp only[go_sem,seval,a1,a2,a3,a4,a8,a9,a10,forall_const,q_g,q_jn eg,e0,e1,hq,Bl,Iy,Cv x v h3,h4,w64 (show fit (((ns.length-1-x:Nat):Int)-1) by unfold fit;omega)];refine⟨Ym,?_⟩;rw[show ((ns.length-1-x:Nat):Int)-1=(ns.length:Int)-1-((x+1:Nat):Int) by omega];exact Cr (by simp[Cb])
   ·have:x=n:=by omega
    subst this;simp only[go_sem,seval,a1,a2,a3,a4,a6,a8,a9,a10,forall_const,q_g,q_jn eg,e0,e1,hq,Bl,Iy,Cv x _ h1,beq_self_eq_true,w64 (show fit ((ns.length:Int)-1) by unfold fit;omega),show (ns.length:Int)-1-((ns.length-1-x:Nat):Int)=(x:Int) by omega,w64 (show fit (x:Int) by unfold fit;omega)]
  ·exact Cr (by simp[Cb])
 |none=>
  have h2:=Aid hf;refine Hg (Cl (out:=.ret (.agg true [.int .i64 0,.int .i64 0,.int .i64 0,.int .i64 0,.nils])) mixed Tryz.func187 tr187 ?_) (Tx _ _ _ _);simp only[go_sem,seval,Bl,Iy,forall_const];rw[ew];refine Kf (fun x=>⟨(.gp 0 0::.J::.ref 1 0 0 0::.int .i64 ((ns.length:Int)-1-x)::Fb (Fa (jk4 ([])))),[gOb ([.dsl 3 (c.L.map Hk),.int .i64 sk,.int .i64 c.e,.dsl 1 R,.int .i64 c.i,.int .i64 c.j,.bool false,.int .i64 sa]::G),⟨true,5,[[.int .i64 0,.int .i64 0,.int .i64 0,.int .i64 0,.nils]],0,0,true⟩]⟩) ns.length (fun x hx=>?_) ?_
  ·by_cases Ym:x<ns.length
   ·have hq:ns.length-1-x<ns.length:=by omega
    have eI:(ns.length:Int)-1-x=((ns.length-1-x:Nat):Int):=by omega
    have e0:(0:Int)<=((ns.length-1-x:Nat):Int):=by omega
    have e1:((ns.length-1-x:Nat):Int)<(ns.length:Int):=by omega
    have eg:((ns.length-1-x:Nat):Int) >= 0:=e0;rw[eI];obtain⟨v,h3,h4⟩:=h2 x Ym;simp only[go_sem,seval,a1,a2,a3,a4,a8,a9,a10,forall_const,q_g,q_jn eg,e0,e1,hq,Bl,Iy,Cv x v h3,h4,w64 (show fit (((ns.length-1-x:Nat):Int)-1) by unfold fit;omega)];refine⟨Ym,?_⟩;rw[show ((ns.length-1-x:Nat):Int)-1=(ns.length:Int)-1-((x+1:Nat):Int) by omega];exact Cr (by simp[Cb])
   ·have:x=ns.length:=by omega
    subst this;have eg:¬((ns.length:Int)-1-(ns.length:Nat) >= 0):=by omega
    simp only[go_sem,seval,q_je eg];refine Ai cf ?_;simp only[go_sem,seval]
  ·exact Cr (by simp[Cb])
end
def Ahk:Con 196 [] (.dsl 1 (symsL.map wdG)):=by
 refine Bt mixed Tryz.func196 tr196 ?_;simp only[go_sem,seval,symsL,q_h,q_i,wdG]
def Wq(w:By):Nat:=match Gx w symsL with|some n=>n+1|none=>0
def Ahy(w:By):Con 215 [.str (bs w)] (.int .i64 (Wq w)):=by
 have Bl:symsL.length=21:=rfl;refine Bt mixed Tryz.func215 tr215 ?_;simp only[go_sem,seval];refine Ae Ahk ?_;have Cv:∀(m:Nat) v,symsL[m]?=some v->(symsL.map wdG)[m]?.getD []=[.str (bs v)]:=fun m v hv=>by rw[q_ji,hv];rfl
 unfold Wq;cases h:Gx w symsL with
 |some n=>
  obtain⟨h1,h2⟩:=findG h;have hn:=(q_jm.1 h1).1;generalize symsL=l at *
  simp only[go_sem,seval,q_g,Bl];intros;refine Kf (fun x=>⟨(.str (bs w)::.J::.int .i64 0::.J::.J::.dsl 1 (l.map wdG)::.int .i64 21::.int .i64 x::jk8 (jk2 ([]))),[]⟩) n (fun x hx=>?_) ?_
  ·have e0:(0:Int)<=(x:Int):=by omega
   have e1:(x:Int)<21:=by omega
   have e2:x<21:=by omega
   by_cases Aq:x<n
   ·obtain⟨v,h3,h4⟩:=h2 x Aq;simp only[go_sem,seval,q_jn e1,e0,e1,e2,q_g,Bl,Cv x v h3,h4,w64 (show fit ((x:Int)+1) by unfold fit;omega)];refine⟨Aq,?_⟩;exact Cr (by simp[Cb])
   ·have:x=n:=by omega
    subst this;simp only[go_sem,seval,q_jn e1,e0,e1,e2,q_g,Bl,Cv x w h1,beq_self_eq_true,w64 (show fit ((x:Int)+1) by unfold fit;omega)];rfl
  ·exact Cr (by simp[Cb])
 |none=>
  have h2:=Aid h;generalize symsL=l at *
  simp only[go_sem,seval,q_g,Bl];intros;refine Kf (fun x=>⟨(.str (bs w)::.J::.int .i64 0::.J::.J::.dsl 1 (l.map wdG)::.int .i64 21::.int .i64 x::jk8 (jk2 ([]))),[]⟩) 21 (fun x hx=>?_) ?_
  ·by_cases e2:x<21
   ·have e0:(0:Int)<=(x:Int):=by omega
    have e1:(x:Int)<21:=by omega
    obtain⟨v,h3,h4⟩:=h2 x (by omega);simp only[go_sem,seval,q_jn e1,e0,e1,e2,q_g,Bl,Cv x v h3,h4,w64 (show fit ((x:Int)+1) by unfold fit;omega)];exact Cr (by simp[Cb])
   ·have:x=21:=by omega
    subst this;simp only[go_sem,seval,Bl]
  ·exact Cr (by simp[Cb])
def Ac6{w v:By}{k:Nat}{s:By}{l:List (By×Nat×By)}:Lg w ((v,k,s)::l)=if w=v then some (k,s) else Lg w l:=by
 rw[Lg]
 by_cases h:w=v
 ·subst h;simp
 ·rw[if_neg h,if_neg (by simp;exact fun e=>h e.symm)]
def Afi{w v:By}(h:(w==v)=false):w≠v:=by simpa using h
def Aqs(w:By):Con 212 [.str (bs w)] (.tup [.int .i64 ((Lg w (formsG.drop 11)).getD (0,[])).1,.str (bs ((Lg w (formsG.drop 11)).getD (0,[])).2)]):=by
 refine Bt mixed Tryz.func212 tr212 ?_;simp only[go_sem,seval]
 iterate 11
  refine⟨fun h=>?_,fun h=>?_⟩
  ·have h2:=eq_of_beq h;subst h2;simp only[go_sem,seval];rfl
  replace h:=Afi h;simp only[go_sem,seval]
 have e:Lg w (formsG.drop 11)=none:=by
  show Lg w [([80,105],13,_),([76,97,109],14,_),([65,112,112],15,_),([83,105,103],16,_),([80,97,105,114],17,_),([70,115,116],18,_),([83,110,100],19,_),([69,113],20,_),([82,101,102,108],21,_),([74],22,_),([117,115,101],23,_)]=none;simp only[Ac6,if_neg, *];simp[Lg]
 rw[e];rfl
def Ap3(w:By):Con 189 [.str (bs w)] (.tup [.int .i64 (Mn w).1,.str (bs (Mn w).2)]):=by
 have cp:=Aqs w;refine Bt mixed Tryz.func189 tr189 ?_;simp only[go_sem,seval]
 iterate 11
  refine⟨fun h=>?_,fun h=>?_⟩
  ·have h2:=eq_of_beq h;subst h2;simp only[go_sem,seval];rfl
  replace h:=Afi h;simp only[go_sem,seval]
 refine Ae cp ?_;have e:Mn w=(Lg w (formsG.drop 11)).getD (0,[]):=by
  unfold Mn;congr 1;show Lg w (([115,111,114,116],1,_)::([112,105],3,_)::([108,97,109],4,_)::([97,112,112],5,_)::([115,105,103],6,_)::([112,97,105,114],7,_)::([102,115,116],8,_)::([115,110,100],9,_)::([101,113],10,_)::([114,101,102,108],11,_)::([116,114],12,_)::formsG.drop 11)=_;simp only[Ac6,if_neg, *];simp
 rw[e];simp only[go_sem,seval]
section
variable{c:RC}{k:Nat}{b:Int}{nm:SV}{G:GV}
end
def NmQ(nm:SV)(ns:List By):Prop:=(nm=.nils/\ns=[])\/nm=nmG ns
def NmQ.ne{nm:SV}{ns:List By}{v:By}(h:NmQ nm (v::ns)):nm=nmG (v::ns):=by
 rcases h with⟨_,h⟩|h
 ·cases h
 ·exact h
def Aq7:Con 135 [] (.dsl 1 (symsL.map wdG)):=by
 refine Bt mixed Tryz.func135 tr135 ?_;simp only[go_sem,seval,symsL,q_h,q_i,wdG]
def markG:List By:=[[115,111,114,116],[],[112,105],[108,97,109],[97,112,112],[115,105,103],[112,97,105,114],[102,115,116],[115,110,100],[101,113],[114,101,102,108],[116,114]]
def plainG:List By:=[[80,105],[76,97,109],[65,112,112],[83,105,103],[80,97,105,114],[70,115,116],[83,110,100],[69,113],[82,101,102,108],[74],[117,115,101]]
def Aqe:Con 100 [] (.dsl 1 (markG.map wdG)):=by
 refine Bt mixed Tryz.func100 tr100 ?_;simp only[go_sem,seval,markG,q_h,q_i,wdG]
def Aqt:Con 101 [] (.dsl 1 (plainG.map wdG)):=by
 refine Bt mixed Tryz.func101 tr101 ?_;simp only[go_sem,seval,plainG,q_h,q_i,wdG]
open Go Go.RowKit
structure QC where
 tx:By
 L:List Tok
 e:Nat
structure QS where
 k:Nat
 bad:Bool
 at_:Nat
def QC.tk(c:QC)(k:Nat):Tok:=c.L.getD k ⟨0,[],0⟩
def Hj(s:QS)(p:Nat):QS:=if s.bad then s else { s with bad:=true,at_:=p }
def Ey(c:QC)(s:QS)(k:Nat):QS:=Hj s (if k<c.L.length then (c.tk k).p else c.e)
def isQ(c:QC)(s:QS)(kd:Nat):Bool:=decide (s.k<c.L.length) && decide ((c.tk s.k).k=kd)
def Co(c:QC)(s:QS)(kd:Nat):By×QS:=if s.bad=false/\isQ c s kd=true then ((c.tk s.k).w,{ s with k:=s.k+1 }) else ([],Ey c s s.k)
def Ed(c:QC)(s:QS):Nat×QS:=((Ez (Co c s 4).1).getD 0,if 1000<(Ez (Co c s 4).1).getD 0 then Ey c (Co c s 4).2 ((Co c s 4).2.k-1) else (Co c s 4).2)
def Afe:List By:=[[112,105],[108,97,109],[97,112,112],[115,105,103],[112,97,105,114],[102,115,116],[115,110,100],[101,113],[114,101,102,108],[116,114]]
def Afp:List By:=[[80,105],[76,97,109],[65,112,112],[83,105,103],[80,97,105,114],[70,115,116],[83,110,100],[69,113],[82,101,102,108],[74],[117,115,101]]
def Sa(w:By)(pl:Bool):Bool:=if w∈Afe then pl else if w∈Afp then !pl else false
def Qn:List Tok->Nat->Nat->Option Nat
 |[],_,_=>none
 |t::r,i,d=>if (if t.k=1 then d+1 else if t.k=2 then d-1 else d)=0 then some (i+1) else Qn r (i+1) (if t.k=1 then d+1 else if t.k=2 then d-1 else d)
def Ig(c:QC)(k:Nat):Option Nat:=Qn (c.L.drop k) k 0
def Gn(n:Nat):List By:=((List.range n).map fun i=>118::Lib.itoa (i:Nat)).reverse
def Ep(c:QC)(k:Nat):Nat:=match Ig c k with
 |some q=>(c.tk (q-1)).p+(c.tk (q-1)).w.length
 |none=>c.tx.length
def Cm(c:QC)(n:Nat)(pl:Bool)(s:QS):Tm×QS:=
 if s.bad=false/\s.k<c.L.length then
  if (c.tk s.k).k=1/\s.k+1<c.L.length/\(c.tk (s.k+1)).k=3/\Sa (c.tk (s.k+1)).w pl=true then (zR,Ey c s (s.k+1))
  else match (Hu ((c.tx.drop (c.tk s.k).p).take (Ep c s.k-(c.tk s.k).p)) (Gn n) 0 0) with
   |(t,none)=>(t,{ s with k:=(Ig c s.k).getD 0 })
   |(_,some p)=>(zR,Hj s ((c.tk s.k).p+p))
 else (zR,Ey c s s.k)
def Gp(c:QC):Nat->List (Tm×Nat)->QS->List (Tm×Nat)×QS
 |0,es,s=>(es,s)
 |f+1,es,s=>if s.bad=false/\isQ c s 2=false then Gp c f (es++[((Cm c es.length false (Ed c s).2).1,(Ed c s).1)]) (Cm c es.length false (Ed c s).2).2 else (es,s)
structure XQ where
 ctx:List (Tm×Nat)
 eq:Bool
 i:Nat
 a:Tm
 u:Tm
 b:Tm
 v:Tm
 h:Tm
def Rm(c:QC)(s:QS):Bool×QS:=(decide ((Co c s 3).1=[101,113,117,97,108]),if (Co c s 3).1=[116,101,114,109]\/(Co c s 3).1=[101,113,117,97,108] then (Co c s 3).2 else Ey c (Co c s 3).2 ((Co c s 3).2.k-1))
def Nj(c:QC)(s:QS):XQ×QS:=
 let hd:=Rm c s
 let e:=Gp c (c.L.length+1) [] (Co c hd.2 1).2
 let l:=Ed c (Co c e.2 2).2
 let n:=e.1.length
 let t1:=Cm c n false l.2
 let t2:=Cm c n false t1.2
 if hd.1=false then (⟨e.1,false,l.1,t2.1,t1.1,zR,zR,zR⟩,t2.2)
 else
  let t3:=Cm c n false t2.2
  let t4:=Cm c n false t3.2
  let t5:=Cm c n true t4.2
  (⟨e.1,true,l.1,t1.1,t2.1,t3.1,t4.1,t5.1⟩,t5.2)
def qcR(tx:By):QC:=match (Ce tx).2 with
 |none=>⟨tx,Do tx,tx.length⟩
 |some p=>⟨tx,Do (tx.take p),p⟩
def Zu(tx:By):XQ×Option Nat:=
 let c:=qcR tx
 let b:=Nj c (Co c ⟨0,false,0⟩ 1).2
 let s:=(Co c b.2 2).2
 let s2:=if s.bad=false/\(s.k<c.L.length\/(Ce tx).2.isSome) then Ey c s s.k else s
 (b.1,if s2.bad then some s2.at_ else none)
def Tok.back(d:Nat)(t:Tok):Tok:={ t with p:=t.p-d }
def Alq(q d:Nat)(s:By):(Ci (q-d) s).2=(Ci q s).2/\(Ci (q-d) s).1.w=(Ci q s).1.w/\(Ci (q-d) s).1.k=(Ci q s).1.k:=by
 cases s with
 |nil=>exact⟨rfl,rfl,rfl⟩
 |cons c r=>
  simp only[Ci]
  repeat' split
  all_goals exact⟨rfl,rfl,rfl⟩
def Az9{l:By}{q d:Nat}(hq:q<l.length)(ho:(Ci q (l.drop q)).2=true):Ci (q-d) (l.drop q)=((Ci q (l.drop q)).1.back d,true):=by
 obtain⟨h1,h2,h3⟩:=Alq q d (l.drop q);have h4:=(Oh hq ho).2.2.2.1;have h5:(Ci (q-d) (l.drop q)).1.p=q-d:=by
  have hw:=(Oh hq ho).1;rw[Lr hq] at ho |-;simp only[Ci] at ho |-
  repeat' split
  all_goals first|rfl|skip
  rename_i a1 a2 a3 a4;rw[if_neg a1,if_neg a2,if_neg a3,if_neg a4] at ho;cases ho
 generalize Ci (q-d) (l.drop q)=a at *
 obtain⟨⟨k,w,p⟩,b⟩:=a;unfold Tok.back;rw[h4];simp only at h1 h2 h3 h5;rw[h1,h2,h3,h5,ho]
def LxG.back{l:By}{q:Nat}{ts:List Tok}{e:Option Nat}(h:LxG l q ts e):∀d,d<=q->LxG (l.drop d) (q-d) (ts.map (Tok.back d)) (e.map (· - d)):=by
 induction h with
 |nil=>
  intro d hd;have:l.length-d=(l.drop d).length:=by simp
  rw[this];exact .nil
 |@bad q hq h=>
  intro d hd;refine .bad (by rw[q_kh];omega) ?_;rw[List.drop_drop,show d+(q-d)=q by omega];exact (Alq q d _).1.trans h
 |@tok q ts e hq h r ih=>
  intro d hd;have hb:=Az9 (d:=d) hq h;have y7:(l.drop d).drop (q-d)=l.drop q:=by rw[List.drop_drop,show d+(q-d)=q by omega]
  have e1:(Ci (q-d) ((l.drop d).drop (q-d))).1=(Ci q (l.drop q)).1.back d:=by rw[y7,hb]
  rw[q_h,<-e1];refine .tok (by rw[q_kh];omega) (by rw[y7,hb]) ?_;have hw:(Ci (q-d) ((l.drop d).drop (q-d))).1.w.length=(Ci q (l.drop q)).1.w.length:=by rw[e1];rfl
  rw[hw,List.drop_drop];have:=ih d (by omega);rw[show d+(q-d+(Ci q (l.drop q)).1.w.length)=q+(Ci q (l.drop q)).1.w.length by omega];rw[show q+(Ci q (l.drop q)).1.w.length+skF false (l.drop (q+(Ci q (l.drop q)).1.w.length))-d=q-d+(Ci q (l.drop q)).1.w.length+skF false (l.drop (q+(Ci q (l.drop q)).1.w.length)) by omega] at this;exact this
def Amm:∀(s:By) (b:Bool) (n:Nat),skF b (s.take n)=min n (skF b s):=by
 intro s
 induction s with
 |nil=>intro b n;cases b<;>simp[skF]
 |cons c r ih=>
  intro b n;cases n with
  |zero=>cases b<;>simp[skF]
  |succ n=>
   rw[List.take_succ_cons];cases b<;>simp only[skF]<;>(repeat' split)<;>(try rw[ih])<;>omega
def Am5{P:UInt8->Bool}:∀(r:By) (n:Nat),(r.takeWhile P).length<=n->(r.take n).takeWhile P=r.takeWhile P/\(r.take n).dropWhile P=(r.dropWhile P).take (n-(r.takeWhile P).length):=by
 intro r
 induction r with
 |nil=>intro n _;simp
 |cons c r ih=>
  intro n h;cases hc:P c with
  |false=>
   cases n with
   |zero=>simp[List.takeWhile_cons,List.dropWhile_cons,hc]
   |succ n=>simp[List.takeWhile_cons,List.dropWhile_cons,hc]
  |true=>
   simp only[List.takeWhile_cons,hc,if_true,q_jk] at h;obtain⟨m,rfl⟩:∃m,n=m+1:=⟨n-1,by omega⟩
   obtain⟨h1,h2⟩:=ih m (by omega);simp only[List.take_succ_cons,List.takeWhile_cons,List.dropWhile_cons,hc,if_true,q_jk,h1,h2];exact⟨trivial,by congr 1;omega⟩
def A0a{q n:Nat}{s:By}(ho:(Ci q s).2=true)(hn:(Ci q s).1.w.length<=n):Ci q (s.take n)=Ci q s:=by
 cases s with
 |nil=>simp
 |cons c r=>
  have h1:1<=(Ci q (c::r)).1.w.length:=by
   simp only[Ci] at ho |-
   repeat' split
   all_goals first|(simp;done)|skip
   rename_i a1 a2 a3 a4;rw[if_neg a1,if_neg a2,if_neg a3,if_neg a4] at ho;cases ho
  obtain⟨m,rfl⟩:∃m,n=m+1:=⟨n-1,by omega⟩
  rw[List.take_succ_cons];revert ho hn;simp only[Ci];split
  ·intro _ _;rfl
  split
  ·intro _ _;rfl
  split
  ·intro _ hn;simp only[q_jk] at hn;rw[(Am5 r m (by omega)).1]
  split
  ·intro ho hn;simp only[q_jk] at hn;obtain⟨e1,e2⟩:=Am5 (P:=Jt) r m (by omega);rw[e1,e2];cases hd:r.dropWhile Jt with
   |nil=>simp
   |cons d r2=>
    rw[hd] at ho;cases hm:m-(r.takeWhile Jt).length with
    |zero=>
     simp only[List.take_zero,q_l];simp only[q_jl] at ho;rw[ho.1,ho.2];rfl
    |succ j=>simp
  ·intro ho;cases ho
def LxG.pos{l:By}{q:Nat}{t:Tok}{ts:List Tok}{e:Option Nat}(h:LxG l q (t::ts) e):t.p=q:=by
 cases h with
 |tok hq h r=>exact (Oh hq h).2.2.2.1
def LxG.cut{l:By}{q:Nat}{ts:List Tok}{e:Option Nat}(h:LxG l q ts e):∀(m E:Nat),m<ts.length->E<=l.length->(∀k,k<=m->(ts.getD k ⟨0,[],0⟩).p+(ts.getD k ⟨0,[],0⟩).w.length<=E) ->
  E<=(ts.getD m ⟨0,[],0⟩).p+(ts.getD m ⟨0,[],0⟩).w.length+skF false (l.drop ((ts.getD m ⟨0,[],0⟩).p+(ts.getD m ⟨0,[],0⟩).w.length))->LxG (l.take E) q (ts.take (m+1)) none:=by
 induction h with
 |nil=>intro m E hm;simp at hm
 |bad=>intro m E hm;simp at hm
 |@tok q ts e hq h r ih=>
  intro m E hm hE hb hs;obtain⟨w1,w2,w3,w4,_⟩:=Oh hq h;have h0:=hb 0 (Nat.zero_le _);simp only[List.getD_cons_zero,w4] at h0;have y7:(l.take E).drop q=(l.drop q).take (E-q):=List.drop_take ..;have ho:=A0a (n:=E-q) h (by omega);have e1:Ci q ((l.take E).drop q)=Ci q (l.drop q):=by rw[y7,ho]
  rw[List.take_succ_cons];have Bl:(l.take E).length=E:=by rw[q_kg];omega
  have key:LxG (l.take E) (q+(Ci q (l.drop q)).1.w.length+skF false ((l.take E).drop (q+(Ci q (l.drop q)).1.w.length))) (ts.take m) none:=by
   rw[List.drop_take,Amm];cases m with
   |zero=>
    simp only[List.getD_cons_zero,w4] at hs;rw[List.take_zero,show q+(Ci q (l.drop q)).1.w.length+min (E-(q+(Ci q (l.drop q)).1.w.length)) (skF false (l.drop (q+(Ci q (l.drop q)).1.w.length)))=(l.take E).length by omega];exact .nil
   |succ m=>
    have hi:=ih m E (by simpa using hm) hE (fun k hk=>by simpa using hb (k+1) (by omega)) (by simpa using hs);have hb1:=hb 1 (by omega);cases ts with
    |nil=>simp at hm
    |cons t2 ts2=>
     have hp:=r.pos;simp only[List.getD_cons_succ,List.getD_cons_zero,hp] at hb1;rw[Nat.min_eq_right (by omega)];exact hi
  have:=LxG.tok (l:=l.take E) (q:=q) (ts:=ts.take m) (e:=none) (by omega) (by rw[e1];exact h) (by rw[e1];exact key);rw[e1] at this;exact this
def LxG.one{l:By}{q:Nat}{ts ts':List Tok}{e e':Option Nat}(h:LxG l q ts e)(h':LxG l q ts' e'):ts=ts'/\e=e':=by
 induction h generalizing ts' e' with
 |nil=>
  generalize hl:l.length=n at h';cases h' with
  |nil=>exact⟨rfl,rfl⟩
  |bad hq=>omega
  |tok hq=>omega
 |@bad q hq h=>
  cases h' with
  |nil=>omega
  |bad=>exact⟨rfl,rfl⟩
  |tok _ h2=>rw[h] at h2;cases h2
 |@tok q ts e hq h r ih=>
  generalize hl:q=q2 at h';cases h' with
  |nil=>omega
  |bad _ h2=>subst hl;rw[h] at h2;cases h2
  |tok _ h2 r2=>
   subst hl;obtain⟨rfl,rfl⟩:=ih r2;exact⟨rfl,rfl⟩
def LxG.noblank{l:By}{q:Nat}{t:Tok}{ts:List Tok}{e:Option Nat}(h:LxG l q (t::ts) e):skF false (l.drop q)=0:=by
 cases h with
 |tok hq h r=>
  rw[sk_f hq];rw[Lr hq,Ci] at h;have hcc:(l.getD q 0).toNat=chN l q:=rfl;rw[hcc] at h
  by_cases c1:chN l q=32\/chN l q=9\/chN l q=10\/chN l q=59
  ·exfalso;have a1:¬chN l q=40:=by omega
   have a2:¬chN l q=41:=by omega
   have a3:My (chN l q)=false:=by unfold My;simp;omega
   have a4:Jh (chN l q)=false:=by unfold Jh;simp;omega
   rw[if_neg a1,if_neg a2,a3,a4] at h;cases h
  ·rw[if_neg (by omega),if_neg (by omega)]
def LxG.all{l:By}{t:Tok}{ts:List Tok}{e:Option Nat}(h:LxG l 0 (t::ts) e):Ce l=(t::ts,e):=by
 have h1:=Mz l;have hz:=h.noblank;rw[List.drop_zero] at hz;rw[hz] at h1;obtain⟨e1,e2⟩:=h.one h1;exact Prod.ext e1.symm e2.symm
def tk0:Tok:=⟨0,[],0⟩
def LxG.stop{l:By}{q:Nat}{ts:List Tok}{e:Option Nat}(h:LxG l q ts e)(ht:ts=[]):q=e.getD l.length:=by
 cases h with
 |nil=>rfl
 |bad=>rfl
 |tok=>cases ht
def LxG.wpos{l:By}{q:Nat}{t:Tok}{ts:List Tok}{e:Option Nat}(h:LxG l q (t::ts) e):1<=t.w.length:=by
 cases h with
 |tok hq h r=>exact (Oh hq h).1
def LxG.dropk{l:By}{q:Nat}{ts:List Tok}{e:Option Nat}(h:LxG l q ts e):∀k,k<ts.length->LxG l (ts.getD k tk0).p (ts.drop k) e:=by
 induction h with
 |nil=>intro k hk;simp at hk
 |bad=>intro k hk;simp at hk
 |@tok q ts e hq h r ih=>
  intro k hk;cases k with
  |zero=>
   have h2:=LxG.tok hq h r;have:=h2.pos;simp only[List.getD_cons_zero,List.drop_zero];rw[this];exact h2
  |succ k=>
   have:=ih k (by simpa using hk);simpa using this
def LxG.ends{l:By}{q:Nat}{ts:List Tok}{e:Option Nat}(h:LxG l q ts e):q<=e.getD l.length/\∀k,k<ts.length->q<=(ts.getD k tk0).p/\(ts.getD k tk0).p+(ts.getD k tk0).w.length<=e.getD l.length:=by
 induction h with
 |nil=>exact⟨q_ja _,fun k hk=>by simp at hk⟩
 |bad hq h=>exact⟨q_ja _,fun k hk=>by simp at hk⟩
 |@tok q ts e hq h r ih=>
  obtain⟨w1,w2,w3,w4,_⟩:=Oh hq h;refine⟨by omega,fun k hk=>?_⟩;cases k with
  |zero=>simp only[List.getD_cons_zero,w4];omega
  |succ k=>
   have:=ih.2 k (by simpa using hk);simp only[List.getD_cons_succ];omega
def LxG.last{l:By}{q:Nat}{ts:List Tok}{e:Option Nat}(h:LxG l q ts e):0<ts.length->(ts.getD (ts.length-1) tk0).p+(ts.getD (ts.length-1) tk0).w.length+skF false (l.drop ((ts.getD (ts.length-1) tk0).p+(ts.getD (ts.length-1) tk0).w.length))=e.getD l.length:=by
 induction h with
 |nil=>intro h;simp at h
 |bad=>intro h;simp at h
 |@tok q ts e hq h r ih=>
  intro _;obtain⟨w1,w2,w3,w4,_⟩:=Oh hq h;cases ts with
  |nil=>
   simp only[q_jk,List.length_nil,q_jg,Nat.sub_self,List.getD_cons_zero,w4];exact r.stop rfl
  |cons t ts=>
   have:=ih (by simp);simpa using this
def LxG.order{l:By}{q:Nat}{ts:List Tok}{e:Option Nat}(h:LxG l q ts e){k k':Nat}(h1:k<=k')(h2:k'<ts.length):(ts.getD k tk0).p<=(ts.getD k' tk0).p:=by
 have h3:=(h.dropk k (by omega)).ends.2 (k'-k) (by rw[q_kh];omega);have e:(ts.drop k).getD (k'-k) tk0=ts.getD k' tk0:=by
  simp only[q_j,q_kk];rw[show k+(k'-k)=k' by omega]
 rw[e] at h3;exact h3.1
def Ak3{l:By}{ts:List Tok}{p:Nat}(h:Ce l=(ts,some p)):Ce (l.take p)=(ts,none):=by
 have h1:=Mz l;rw[h] at h1;simp only at h1;have hp:=h1.le.2.2 p rfl;have Bl:(l.take p).length=p:=by rw[q_kg];omega
 have h2:=Mz (l.take p);rw[Amm] at h2;cases ts with
 |nil=>
  have hz:=h1.stop rfl;simp only[q_jz] at hz;rw[hz,Nat.min_self] at h2;have h3:LxG (l.take p) p [] none:=by
   have:=LxG.nil (l:=l.take p)
   rwa [Bl] at this
  obtain⟨e1,e2⟩:=h3.one h2;exact Prod.ext e1.symm e2.symm
 |cons t ts=>
  have hend:=h1.ends.2;have Dw:=h1.pos;have h0:=hend 0 (by simp);simp only[List.getD_cons_zero,q_jz] at h0;have hw:=h1.wpos;rw[Nat.min_eq_right (show skF false l<=p by omega)] at h2;have h3:=h1.cut ts.length p (by simp) (by omega) (fun k hk=>by have:=hend k (by simp;omega);simp only[q_jz] at this;exact this.2) (by
   have:=h1.last (by simp);simp only[q_jk,Nat.add_sub_cancel,q_jz] at this;unfold tk0 at this;exact Nat.le_of_eq this.symm)
  rw[q_js (show (t::ts).length<=ts.length+1 by simp)] at h3;obtain⟨e1,e2⟩:=h3.one h2;exact Prod.ext e1.symm e2.symm
def qc_L(tx:By):(qcR tx).L=(Ce tx).1/\(qcR tx).tx=tx/\(qcR tx).e=((Ce tx).2).getD tx.length:=by
 unfold qcR Do;cases h:Ce tx with
 |mk ts e=>
  cases e with
  |none=>simp
  |some p=>simp[Ak3 h]
def A2p:∀(l:List Tok) (i d q:Nat),Qn l i d=some q->i<q/\q<=i+l.length:=by
 intro l
 induction l with
 |nil=>intro i d q h;cases h
 |cons t r ih=>
  intro i d q h;rw[Qn] at h
  by_cases hc:(if t.k=1 then d+1 else if t.k=2 then d-1 else d)=0
  ·rw[if_pos hc] at h;cases h;simp
  ·rw[if_neg hc] at h;have:=ih _ _ _ h;rw[q_jk];omega
def Ayd{tx:By}{k:Nat}(hk:k<(Ce tx).1.length):Ce (tx.drop ((Ce tx).1.getD k tk0).p)=(((Ce tx).1.drop k).map (Tok.back ((Ce tx).1.getD k tk0).p),((Ce tx).2).map (· - ((Ce tx).1.getD k tk0).p)):=by
 have h:=(Mz tx).dropk k hk;have h2:=h.back _ (q_ja _);rw[Nat.sub_self] at h2;cases hd:(Ce tx).1.drop k with
 |nil=>have:=congrArg List.length hd;rw[q_kh,List.length_nil] at this;omega
 |cons t ts=>
  rw[hd] at h2;rw[q_h] at h2 |-;exact h2.all
def Ayc{tx:By}{k q:Nat}(hk:k<q)(hq:q<=(Ce tx).1.length) :
  Ce ((tx.drop ((Ce tx).1.getD k tk0).p).take (((Ce tx).1.getD (q-1) tk0).p+((Ce tx).1.getD (q-1) tk0).w.length-((Ce tx).1.getD k tk0).p))=((((Ce tx).1.drop k).take (q-k)).map (Tok.back ((Ce tx).1.getD k tk0).p),none):=by
 have hx:=Mz tx;generalize Ce tx=R at *
 obtain⟨ts,e⟩:=R;simp only at *
 have h:=hx.dropk k (by omega);have h2:=h.back _ (q_ja _);rw[Nat.sub_self] at h2;have hP:=hx.order (k:=k) (k':=q-1) (by omega) (by omega);have hE:=hx.ends.2;generalize hpp:(ts.getD k tk0).p=P at *
 have hgd:∀y,y<(ts.drop k).length->((ts.drop k).map (Tok.back P)).getD y tk0=(ts.getD (k+y) tk0).back P:=fun y hy=>by
  have hy2:k+y<ts.length:=by rw[q_kh] at hy;omega
  simp only[q_j,q_ji,q_kk,q_f hy2,q_jh,q_jz]
 have hl:e.getD tx.length<=tx.length:=by
  cases e with
  |none=>exact q_ja _
  |some p=>have:=hx.le.2.2 p rfl;simp only[q_jz];omega
 have h3:=h2.cut (q-k-1) ((ts.getD (q-1) tk0).p+(ts.getD (q-1) tk0).w.length-P) (by simp;omega) (by
   have:=hE (q-1) (by omega);rw[q_kh];omega) (fun y hy=>by
   have e1:=hgd y (by rw[q_kh];omega);unfold tk0 at e1;rw[e1];show (ts.getD (k+y) _).p-P+(ts.getD (k+y) _).w.length<=_;have a1:=hx.order (k:=k) (k':=k+y) (by omega) (by omega);rw[hpp] at a1;have a2:(ts.getD (k+y) tk0).p+(ts.getD (k+y) tk0).w.length<=(ts.getD (q-1) tk0).p+(ts.getD (q-1) tk0).w.length:=by
    rcases q_jo (k+y) (q-1) with h'|h'
    ·-- the next word begins behind it
     have b1:=(hx.dropk (k+y) (by omega))
     have b2:∀{q ts e},LxG tx q ts e->1<ts.length->(ts.getD 0 tk0).p+(ts.getD 0 tk0).w.length<=(ts.getD 1 tk0).p:=fun {q ts e} hh Aq=>by
      cases hh with
      |nil=>simp at Aq
      |bad=>simp at Aq
      |tok hq h r=>
       have:=(Oh hq h).2.2.2.1;have r1:=r.ends.2 0 (by simpa using Aq);simp only[List.getD_cons_zero,List.getD_cons_succ,this];omega
     have b3:=b2 b1 (by rw[q_kh];omega);have e2:∀z,(ts.drop (k+y)).getD z tk0=ts.getD (k+y+z) tk0:=fun z=>by simp[q_j,q_kk]
     rw[e2,e2] at b3;have b4:=hx.order (k:=k+y+1) (k':=q-1) (by omega) (by omega);simp only[q_jp] at b3;omega
    ·have:k+y=q-1:=by omega
     rw[this];exact q_ja _
   unfold tk0 at a1 a2;unfold tk0;omega) (by
   have e1:=hgd (q-k-1) (by rw[q_kh];omega);unfold tk0 at e1;rw[e1,show k+(q-k-1)=q-1 by omega];show _<=(ts.getD (q-1) _).p-P+(ts.getD (q-1) _).w.length+_;unfold tk0 at hP;unfold tk0;omega)
 rw[show q-k-1+1=q-k by omega,<-List.map_take] at h3;cases hd:(ts.drop k).take (q-k) with
 |nil=>have:=congrArg List.length hd;rw[q_kg,q_kh,List.length_nil] at this;omega
 |cons t r=>
  rw[hd] at h3;rw[q_h] at h3 |-;exact h3.all
def NGr(G:GV):Prop:=∀r∈G,∀x∈r,NoG x
def NGr.nil:NGr []:=fun r hr=>by cases hr
def NGr.app{G D:GV}(h:NGr G)(k:NGr D):NGr (G++D):=fun r hr=>(q_ke.1 hr).elim (h r) (k r)
def NGr.cons{r:List SV}{D:GV}(h:∀x∈r,NoG x)(k:NGr D):NGr (r::D):=fun q hq=>by
 rcases q_kb.1 hq with rfl|hq
 ·exact h
 ·exact k q hq
def Aln(l:List By):NoG (.dsl 1 (l.map wdG)):=.dsl _ _ (fun x hx=>by
 obtain⟨r,hr,hx⟩:=List.mem_flatten.1 hx;obtain⟨w,_,rfl⟩:=q_kz.1 hr;simp only[wdG,q_ki] at hx;subst hx;exact .str _)
def Azo(l:List Tok):NoG (.dsl 3 (l.map Hk)):=.dsl _ _ (fun x hx=>by
 obtain⟨r,hr,hx⟩:=List.mem_flatten.1 hx;obtain⟨t,_,rfl⟩:=q_kz.1 hr;simp only[Hk,q_kb,q_kc,or_false] at hx;rcases hx with rfl|rfl|rfl
 ·exact .int _ _
 ·exact .str _
 ·exact .int _ _)
def Alm(l:List Tm):NoG (.dsl 5 (l.map tv)):=.dsl _ _ (fun x hx=>by
 obtain⟨r,hr,hx⟩:=List.mem_flatten.1 hx;obtain⟨t,_,rfl⟩:=q_kz.1 hr;exact Ry _ x hx)
def Alo{c:RC}{ns:List By}{s:RS}:∀x∈rdS c (nmG ns) s,NoG x:=by
 intro x hx;simp only[rdS,q_kb,q_kc,or_false] at hx;rcases hx with rfl|rfl|rfl|rfl|rfl|rfl|rfl|rfl
 ·exact Azo _
 ·exact .int _ _
 ·exact .int _ _
 ·exact Aln _
 ·exact .int _ _
 ·exact .int _ _
 ·exact .bool _
 ·exact .int _ _
section
variable{c:RC}{s:RS}
def Ra(k:Nat):(De c s k).D=s.D:=by unfold De;split<;>rfl
def Bm(kd:Nat):(An c s kd).2.D=s.D:=by
 unfold An;split
 ·rfl
 ·exact Ra _
def Ayv{lev:RS->Nat×RS}(h:∀s,(lev s).2.D=s.D):(Jp c lev s).2.D=s.D:=by
 unfold Jp;refine (Bm 2).trans ?_;split
 ·exact h s.nx
 split
 ·exact (h _).trans (h s.nx)
 ·exact Ra _
def Ll:∀(f:Nat) (s:RS),(Cy c f s).2.D=s.D:=by
 intro f
 induction f with
 |zero=>intro s;rfl
 |succ f ih=>
  intro s;unfold Cy;have key:∀(q:Nat×RS),q.2.D=s.D->(if q.2.bad=false/\1000<q.1 then De c q.2 s.k else q.2).D=s.D:=fun q h=>by
   split
   ·exact (Ra _).trans h
   ·exact h
  split
  ·refine key _ ?_
   repeat' split
   ·rfl
   ·rfl
   ·rfl
   ·exact Ayv ih
   ·exact Ra _
  ·exact Ra _
def Alk{kd:Nat}(h:s.bad=true):An c s kd=([],s):=by
 unfold An;rw[if_neg (fun k=>by rw[h] at k;cases k.1)];unfold De;rw[if_pos h]
end
def TCG(c:RC)(T:TR)(f:Nat):Prop:=∀(ns:List By) (want:Nat) (s:RS) (G:GV),c.L.length<s.k+f->ns.length+3*f<100000000000->want<=2->NGr s.D->NGr G ->
 Dc 155 (rdS c (nmG ns) s::(G++s.D)) [.gp 0 0,.int .i64 want] (.ret (.agg true (tv (T ns want s).1))) (rdS c (nmG ns) (T ns want s).2::(G++(T ns want s).2.D))/\s.k<=(T ns want s).2.k/\NGr (T ns want s).2.D
def LCG(c:RC)(T:TR)(ns:List By)(k:Nat)(sh:By)(s:RS)(G:GV):Prop:=
 Dc 190 (rdS c (nmG ns) s::(G++s.D)) [.gp 0 0,.int .i64 k,.str (bs sh)] (.ret (.agg true (tv (Aj c T ns k sh s).1))) (rdS c (nmG ns) (Aj c T ns k sh s).2::(G++(Aj c T ns k sh s).2.D))/\s.k<=(Aj c T ns k sh s).2.k/\NGr (Aj c T ns k sh s).2.D
def tvn:Tm->List SV
 |.mk k a b n []=>[.int .i64 k,.int .i64 a,.int .i64 b,.int .i64 n,.nils]
 |.mk k a b n (t::l)=>tv (.mk k a b n (t::l))
def Ip(t:Tm):Le (.agg true (tvn t)) (.agg true (tv t)):=by
 obtain⟨k,a,b,n,l⟩:=t;cases l with
 |nil=>exact Tx _ _ _ _
 |cons t l=>exact .val _ _ (.cell _ _ (.refl _))
def Hv{k a b n:Int}:tvn (.mk k a b n [])=[.int .i64 k,.int .i64 a,.int .i64 b,.int .i64 n,.nils]:=rfl
def Ds{k a b n:Int}{t:Tm}{l:List Tm}:tvn (.mk k a b n (t::l))=[.int .i64 k,.int .i64 a,.int .i64 b,.int .i64 n,.dsl 5 (tv t::l.map tv)]:=by
 show tv _=_;rw[Bp];rfl
section
variable{c:RC}{T:TR}{ns:List By}{k:Nat}{x:AccR}{s:RS}
def Bq:Ef c T ns k 76 x s=({ x with a:=(Cy c (c.L.length+1) s).1 },(Cy c (c.L.length+1) s).2):=rfl
def Cq(h:k≠23):Ef c T ns k 77 x s=({ x with b:=(Cy c (c.L.length+1) s).1 },(Cy c (c.L.length+1) s).2):=by
 unfold Ef;rw[if_neg (by decide),if_pos (by decide),if_neg h]
def Bx:Ef c T ns k 120 x s=({ x with bd:=(An c s 3).1::x.bd },(An c s 3).2):=rfl
def Gt:Ef c T ns k 121 x s=({ x with bd:=(An c s 3).1::x.bd },(An c s 3).2):=rfl
def Gs:Ef c T ns k 101 x s=({ x with bd:=(An c s 3).1::x.bd },(An c s 3).2):=rfl
def Ba:Ef c T ns k 116 x s=({ x with l:=x.l++[(T ns (ofR k) s).1] },(T ns (ofR k) s).2):=rfl
def Kv:Ef c T ns k 112 x s=({ x with l:=x.l++[(T ns 2 s).1] },(T ns 2 s).2):=rfl
def Bw:Ef c T ns k 98 x s=({ x with l:=x.l++[(T (x.bd++ns) (ofR k) s).1] },(T (x.bd++ns) (ofR k) s).2):=rfl
def Gr:Ef c T ns k 80 x s=({ x with l:=x.l++[(T (x.bd++ns) (ofR k) s).1] },(T (x.bd++ns) (ofR k) s).2):=rfl
def Az:Es c T ns k [] x s=(x,s):=rfl
def Ay{ch:UInt8}{r:By}{q a:Nat}{D:GV}:Es c T ns k (ch::r) x ⟨q,true,a,D⟩=(x,⟨q,true,a,D⟩):=rfl
def Ax{ch:UInt8}{r:By}{q a:Nat}{D:GV}:Es c T ns k (ch::r) x ⟨q,false,a,D⟩=Es c T ns k r (Ef c T ns k ch x ⟨q,false,a,D⟩).1 (Ef c T ns k ch x ⟨q,false,a,D⟩).2:=rfl
end
def v76:((UInt8.toNat 76:Nat):Int)=76:=rfl
def v77:((UInt8.toNat 77:Nat):Int)=77:=rfl
def v83:((UInt8.toNat 83:Nat):Int)=83:=rfl
def v116:((UInt8.toNat 116:Nat):Int)=116:=rfl
def v98:((UInt8.toNat 98:Nat):Int)=98:=rfl
def v80:((UInt8.toNat 80:Nat):Int)=80:=rfl
def v120:((UInt8.toNat 120:Nat):Int)=120:=rfl
def v121:((UInt8.toNat 121:Nat):Int)=121:=rfl
def v101:((UInt8.toNat 101:Nat):Int)=101:=rfl
def v112:((UInt8.toNat 112:Nat):Int)=112:=rfl
def wq7:IntKind.i64.wrap 7=7:=rfl
def wq8:IntKind.i64.wrap 8=8:=rfl
end Go.Proofs.YtgfehkhcmnfpaaaGreatDoor.Abs
