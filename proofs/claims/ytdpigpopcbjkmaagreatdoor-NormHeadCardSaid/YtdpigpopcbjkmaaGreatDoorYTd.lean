import Derived.Test.YtdpigpopcbjkmaaGreatDoorYTs
import Derived.Test.YtdpigpopcbjkmaaGreatDoorYAfR
import Derived.Test.YtdpigpopcbjkmaaGreatDoorYAfC
import Derived.Test.YtdpigpopcbjkmaaGreatDoorYTc
set_option linter.unusedSimpArgs false
set_option linter.unusedVariables false
set_option maxRecDepth 20000
set_option maxHeartbeats 4000000
namespace Go.Proofs.YtdpigpopcbjkmaaGreatDoor.Abs
open Go Go.RowKit Go.Proofs.YtdpigpopcbjkmaaGreatDoor
def tab(l:List Int)(k:Int):Int:=if 1<=k/\k<=l.length then l.getD (k-1).toNat (-1) else -1
def Sl(n:Int):Int:=tab [5,5,4,6,4,4,5,4,5,4,4,6,6,6,9,12,12,9,9,9,6] n
def Bf(k n:Int):Int:=if k=23 then Sl n else tab [0,0,2,3,4,2,4,3,3,3,2,4,2,2,2,2,4,1,1,3,2,6] k
theorem Ah{k c:Int}(h:k≠c):(k==c)=false:=by simpa using h
theorem Av2(n:Int):Con 108 [.int .i64 n] (.int .i64 (Sl n)):=by
 refine Al mixed Tryz.func108 tr108 ?_
 by_cases h:1<=n/\n<=21
 ·have:n=1\/n=2\/n=3\/n=4\/n=5\/n=6\/n=7\/n=8\/n=9\/n=10\/n=11\/n=12\/n=13\/n=14\/n=15\/n=16\/n=17\/n=18\/n=19\/n=20\/n=21:=by omega
  clear h;rcases this with rfl|rfl|rfl|rfl|rfl|rfl|rfl|rfl|rfl|rfl|rfl|rfl|rfl|rfl|rfl|rfl|rfl|rfl|rfl|rfl|rfl<;>(as_aux_lemma=>(simp only[go_sem,seval];rfl))
 ·have e:Sl n=-1:=by unfold Sl tab;rw[if_neg (by simpa using h)]
  rw[e];simp only[go_sem,seval,Ah (show n≠1 by omega),Ah (show n≠2 by omega),Ah (show n≠3 by omega),Ah (show n≠4 by omega),Ah (show n≠5 by omega),Ah (show n≠6 by omega),Ah (show n≠7 by omega),Ah (show n≠8 by omega),Ah (show n≠9 by omega),Ah (show n≠10 by omega),Ah (show n≠11 by omega),Ah (show n≠12 by omega),Ah (show n≠13 by omega),Ah (show n≠14 by omega),Ah (show n≠15 by omega),Ah (show n≠16 by omega),Ah (show n≠17 by omega),Ah (show n≠18 by omega),Ah (show n≠19 by omega),Ah (show n≠20 by omega),Ah (show n≠21 by omega)]
theorem Ahr(k n:Int):Con 81 [.int .i64 k,.int .i64 n] (.int .i64 (Bf k n)):=by
 refine Al mixed Tryz.func81 tr81 ?_
 by_cases h:1<=k/\k<=22
 ·have:k=1\/k=2\/k=3\/k=4\/k=5\/k=6\/k=7\/k=8\/k=9\/k=10\/k=11\/k=12\/k=13\/k=14\/k=15\/k=16\/k=17\/k=18\/k=19\/k=20\/k=21\/k=22:=by omega
  clear h;rcases this with rfl|rfl|rfl|rfl|rfl|rfl|rfl|rfl|rfl|rfl|rfl|rfl|rfl|rfl|rfl|rfl|rfl|rfl|rfl|rfl|rfl|rfl<;>(as_aux_lemma=>(simp only[go_sem,seval];rfl))
 ·by_cases Cc:k=23
  ·subst Cc;simp only[go_sem,seval];refine Aa (Av2 n) ?_;simp only[go_sem,seval];rfl
  ·have e:Bf k n=-1:=by unfold Bf tab;rw[if_neg Cc,if_neg (by simpa using h)]
   rw[e];simp only[go_sem,seval,Ah Cc,Ah (show k≠1 by omega),Ah (show k≠2 by omega),Ah (show k≠3 by omega),Ah (show k≠4 by omega),Ah (show k≠5 by omega),Ah (show k≠6 by omega),Ah (show k≠7 by omega),Ah (show k≠8 by omega),Ah (show k≠9 by omega),Ah (show k≠10 by omega),Ah (show k≠11 by omega),Ah (show k≠12 by omega),Ah (show k≠13 by omega),Ah (show k≠14 by omega),Ah (show k≠15 by omega),Ah (show k≠16 by omega),Ah (show k≠17 by omega),Ah (show k≠18 by omega),Ah (show k≠19 by omega),Ah (show k≠20 by omega),Ah (show k≠21 by omega),Ah (show k≠22 by omega)]
theorem wl0:IntKind.i64.wrap 0=0:=by decide
theorem wl1:IntKind.i64.wrap 1=1:=by decide
theorem wl2:IntKind.i64.wrap 2=2:=by decide
theorem wl3:IntKind.i64.wrap 3=3:=by decide
theorem wl4:IntKind.i64.wrap 4=4:=by decide
theorem wl5:IntKind.i64.wrap 5=5:=by decide
theorem wl6:IntKind.i64.wrap 6=6:=by decide
theorem wl7:IntKind.i64.wrap 7=7:=by decide
theorem wl8:IntKind.i64.wrap 8=8:=by decide
theorem wl9:IntKind.i64.wrap 9=9:=by decide
theorem wl10:IntKind.i64.wrap 10=10:=by decide
theorem wl11:IntKind.i64.wrap 11=11:=by decide
theorem wl12:IntKind.i64.wrap 12=12:=by decide
theorem wl13:IntKind.i64.wrap 13=13:=by decide
theorem wl14:IntKind.i64.wrap 14=14:=by decide
theorem wl15:IntKind.i64.wrap 15=15:=by decide
theorem wl16:IntKind.i64.wrap 16=16:=by decide
theorem wl17:IntKind.i64.wrap 17=17:=by decide
theorem wl18:IntKind.i64.wrap 18=18:=by decide
theorem wl19:IntKind.i64.wrap 19=19:=by decide
theorem wl20:IntKind.i64.wrap 20=20:=by decide
theorem wl21:IntKind.i64.wrap 21=21:=by decide
theorem Avd(n:Int):Con 62 [.int .i64 23,.int .i64 n] (.int .i64 (Bf 23 n)):=by
 refine Al mixed Tryz.func62 tr62 ?_
 by_cases hs:1<=n/\n<=21
 ·have:n=1\/n=2\/n=3\/n=4\/n=5\/n=6\/n=7\/n=8\/n=9\/n=10\/n=11\/n=12\/n=13\/n=14\/n=15\/n=16\/n=17\/n=18\/n=19\/n=20\/n=21:=by omega
  clear hs;rcases this with rfl|rfl|rfl|rfl|rfl|rfl|rfl|rfl|rfl|rfl|rfl|rfl|rfl|rfl|rfl|rfl|rfl|rfl|rfl|rfl|rfl<;>(as_aux_lemma=>(simp only[go_sem,seval,wl0,wl1,wl2,wl3,wl4,wl5,wl6,wl7,wl8,wl9,wl10,wl11,wl12,wl13,wl14,wl15,wl16,wl17,wl18,wl19,wl20,wl21];rfl))
 ·have e:Bf 23 n=-1:=by unfold Bf Sl tab;rw[if_pos rfl,if_neg (by simpa using hs)]
  rw[e];simp only[go_sem,seval]
  by_cases h1:1<=n
  ·have h2:¬n<=21:=by omega
   simp only[go_sem,seval,h1,h2]
  ·simp only[go_sem,seval,h1]
theorem Kl(k n:Int):Con 62 [.int .i64 k,.int .i64 n] (.int .i64 (Bf k n)):=by
 by_cases h:1<=k/\k<=22
 ·have:k=1\/k=2\/k=3\/k=4\/k=5\/k=6\/k=7\/k=8\/k=9\/k=10\/k=11\/k=12\/k=13\/k=14\/k=15\/k=16\/k=17\/k=18\/k=19\/k=20\/k=21\/k=22:=by omega
  clear h;refine Al mixed Tryz.func62 tr62 ?_;rcases this with rfl|rfl|rfl|rfl|rfl|rfl|rfl|rfl|rfl|rfl|rfl|rfl|rfl|rfl|rfl|rfl|rfl|rfl|rfl|rfl|rfl|rfl<;>(as_aux_lemma=>(simp only[go_sem,seval];rfl))
 ·by_cases Cc:k=23
  ·subst Cc;exact Avd n
  ·have e:Bf k n=-1:=by unfold Bf tab;rw[if_neg Cc,if_neg (by simpa using h)]
   rw[e];refine Al mixed Tryz.func62 tr62 ?_;simp only[go_sem,seval,Ah Cc,Ah (show k≠1 by omega),Ah (show k≠2 by omega),Ah (show k≠3 by omega),Ah (show k≠4 by omega),Ah (show k≠5 by omega),Ah (show k≠6 by omega),Ah (show k≠7 by omega),Ah (show k≠8 by omega),Ah (show k≠9 by omega),Ah (show k≠10 by omega),Ah (show k≠11 by omega),Ah (show k≠12 by omega),Ah (show k≠13 by omega),Ah (show k≠14 by omega),Ah (show k≠15 by omega),Ah (show k≠16 by omega),Ah (show k≠17 by omega),Ah (show k≠18 by omega),Ah (show k≠19 by omega),Ah (show k≠20 by omega),Ah (show k≠21 by omega),Ah (show k≠22 by omega)]
def lev(i:Int):Bool:=decide (0<=i) && decide (i<=1000)
theorem Vi(i:Int):Con 109 [.int .i64 i] (.bool (lev i)):=by
 refine Al mixed Tryz.func109 tr109 ?_;simp only[go_sem,seval,lev];refine⟨fun h=>?_,fun h=>?_⟩<;>simp only[h,go_sem,seval]
theorem Xd(i:Int):Con 87 [.int .i64 i] (.bool (lev i)):=by
 refine Al mixed Tryz.func87 tr87 ?_;simp only[go_sem,seval,lev];refine⟨fun h=>?_,fun h=>?_⟩<;>simp only[h,go_sem,seval]
def Lq(k i j n:Int):Bool:=
 if k=1\/k=10\/k=11\/k=12 then lev i && ((j==0) && (n==0))
 else if k=2 then decide (0<=i) && (decide (i<=2147483647) && ((j==0) && (n==0)))
 else if 3<=k/\k<=9 then lev i && (lev j && (n==0))
 else if k=23 then lev i && lev j
 else (i==0) && ((j==0) && (n==0))
theorem Aue(k i j n:Int)(rows:GV)(h:k=1\/k=10\/k=11\/k=12):Con 82 [.agg true [.int .i64 k,.int .i64 i,.int .i64 j,.int .i64 n,.dsl 5 rows]] (.bool (lev i && ((j==0) && (n==0)))):=by
 refine Al mixed Tryz.func82 tr82 ?_;cases hL:lev i<;>cases hJ:(j==0)<;>cases hN:(n==0)<;>rcases h with rfl|rfl|rfl|rfl <;>
  (simp only[go_sem,seval];refine Aa (Vi i) ?_;simp only[go_sem,seval,hL,hJ,hN])
theorem Auf(i j n:Int)(rows:GV):Con 82 [.agg true [.int .i64 2,.int .i64 i,.int .i64 j,.int .i64 n,.dsl 5 rows]] (.bool (decide (0<=i) && (decide (i<=2147483647) && ((j==0) && (n==0))))):=by
 refine Al mixed Tryz.func82 tr82 ?_
 by_cases h1:0<=i<;>by_cases h2:i<=2147483647<;>cases hJ:(j==0)<;>cases hN:(n==0)<;>simp only[go_sem,seval,hJ,hN,h1,h2]
theorem Auh(k i j n:Int)(rows:GV)(h:k=3\/k=4\/k=5\/k=6\/k=7\/k=8\/k=9):Con 82 [.agg true [.int .i64 k,.int .i64 i,.int .i64 j,.int .i64 n,.dsl 5 rows]] (.bool (lev i && (lev j && (n==0)))):=by
 refine Al mixed Tryz.func82 tr82 ?_;cases hL:lev i
 ·rcases h with rfl|rfl|rfl|rfl|rfl|rfl|rfl<;>(as_aux_lemma=>(simp only[go_sem,seval];refine Aa (Vi i) ?_;simp only[go_sem,seval,hL]))
 ·cases hJ:lev j<;>cases hN:(n==0)<;>rcases h with rfl|rfl|rfl|rfl|rfl|rfl|rfl <;>
   (as_aux_lemma=>(simp only[go_sem,seval];refine Aa (Vi i) ?_;simp only[go_sem,seval,hL];refine Aa (Vi j) ?_;simp only[go_sem,seval,hL,hJ,hN]))
theorem Aug(i j n:Int)(rows:GV):Con 82 [.agg true [.int .i64 23,.int .i64 i,.int .i64 j,.int .i64 n,.dsl 5 rows]] (.bool (lev i && lev j)):=by
 refine Al mixed Tryz.func82 tr82 ?_;simp only[go_sem,seval];refine Aa (Vi i) ?_;cases hL:lev i
 ·simp only[go_sem,seval]
 ·simp only[go_sem,seval];refine Aa (Vi j) ?_;simp only[go_sem,seval]
theorem Aud(k i j n:Int)(rows:GV)(h:k<1\/(12<k/\k≠23)):Con 82 [.agg true [.int .i64 k,.int .i64 i,.int .i64 j,.int .i64 n,.dsl 5 rows]] (.bool ((i==0) && ((j==0) && (n==0)))):=by
 refine Al mixed Tryz.func82 tr82 ?_;cases hI:(i==0)<;>cases hJ:(j==0)<;>cases hN:(n==0)<;>simp only[go_sem,seval,hI,hJ,hN,Ah (show k≠1 by omega),Ah (show k≠2 by omega),Ah (show k≠3 by omega),Ah (show k≠4 by omega),Ah (show k≠5 by omega),Ah (show k≠6 by omega),Ah (show k≠7 by omega),Ah (show k≠8 by omega),Ah (show k≠9 by omega),Ah (show k≠10 by omega),Ah (show k≠11 by omega),Ah (show k≠12 by omega),Ah (show k≠23 by omega)]
theorem Auc(k i j n:Int)(rows:GV):Con 82 [.agg true [.int .i64 k,.int .i64 i,.int .i64 j,.int .i64 n,.dsl 5 rows]] (.bool (Lq k i j n)):=by
 unfold Lq
 by_cases h1:k=1\/k=10\/k=11\/k=12
 ·rw[if_pos h1];exact Aue k i j n rows h1
 ·rw[if_neg h1]
  by_cases h2:k=2
  ·subst h2;rw[if_pos rfl];exact Auf i j n rows
  ·rw[if_neg h2]
   by_cases h3:3<=k/\k<=9
   ·rw[if_pos h3];exact Auh k i j n rows (by omega)
   ·rw[if_neg h3]
    by_cases h4:k=23
    ·subst h4;rw[if_pos rfl];exact Aug i j n rows
    ·rw[if_neg h4];exact Aud k i j n rows (by omega)
def Hz(k:Int):Int:=if k=1\/k=2 then 0 else if k<=12 then 1 else 2
theorem Av4(k:Int):Con 80 [.int .i64 k] (.int .i64 (Hz k)):=by
 refine Al mixed Tryz.func80 tr80 ?_
 by_cases h1:k=1
 ·subst h1;simp only[go_sem,seval];rfl
 ·by_cases h2:k=2
  ·subst h2;simp only[go_sem,seval];rfl
  ·have e:Hz k=if k<=12 then 1 else 2:=by unfold Hz;rw[if_neg (by omega)]
   rw[e]
   by_cases h3:k<=12
   ·simp only[go_sem,seval,Ah h1,Ah h2,h3]
   ·simp only[go_sem,seval,Ah h1,Ah h2,h3]
abbrev Ad(f:Nat)(G:GV)(args:List SV)(out:HOut)(G':GV):Prop:=HContract Tryz.prog f G args out G'
def Aw:List Nat->SV
 |[]=>.nilp
 |h::t=>.dref 3 [.gp h 0,Aw t,.int .i64 ((t.length:Int)+1)] 0
theorem Xg:Aw []=.nilp:=rfl
theorem p8{h:Nat}{t:List Nat}:Aw (h::t)=.dref 3 [.gp h 0,Aw t,.int .i64 ((t.length:Int)+1)] 0:=q_z
theorem Te(e:List Nat){hp:List Ob}:Bx hp (Aw e)=some (Aw e,hp)/\Bo hp (Aw e)=some (Aw e,hp)/\Bv hp (Aw e)=[]/\Bd (Aw e)=[]/\(Aw e).closed=true/\(Aw e).ok=true/\cellsOf (Aw e)=[Aw e]:=by
 cases e<;>exact⟨rfl,rfl,rfl,rfl,rfl,rfl,rfl⟩
theorem Axn{e:List Nat}{hp:List Ob}:Bx hp (Aw e)=some (Aw e,hp):=(Te e).1
theorem Axk{e:List Nat}{hp:List Ob}:Bo hp (Aw e)=some (Aw e,hp):=(Te e).2.1
theorem Axp{e:List Nat}{hp:List Ob}:Bv hp (Aw e)=[]:=(Te e).2.2.1
theorem Axo{e:List Nat}:Bd (Aw e)=[]:=(Te (hp:=[]) e).2.2.2.1
theorem Axm{e:List Nat}:(Aw e).closed=true:=(Te (hp:=[]) e).2.2.2.2.1
theorem Axq{e:List Nat}:(Aw e).ok=true:=(Te (hp:=[]) e).2.2.2.2.2.1
theorem Axl{e:List Nat}:cellsOf (Aw e)=[Aw e]:=(Te (hp:=[]) e).2.2.2.2.2.2
attribute [go_sem] Axn Axk Axp Axo Axm Axq Axl
theorem o7(e:List Nat):Con 89 [Aw e] (.int .i64 e.length):=by
 refine Al mixed Tryz.func89 tr89 ?_;cases e with
 |nil=>simp only[go_sem,seval,Xg,List.length_nil];try rfl
 |cons h t=>simp only[go_sem,seval,p8];simp
theorem Vh(e:List Nat)(i:Nat)(h:fit ((e.length:Int)+1)):Con 85 [Aw e,.gp i 0] (Aw (i::e)):=by
 refine Al mixed Tryz.func85 tr85 ?_;simp only[go_sem,seval];refine Aa (o7 e) ?_;simp only[go_sem,seval,w64 h,p8]
def Bn(steps most seen guess:Int)(j:Nat):List SV:=[.int .i64 steps,.int .i64 most,.int .i64 seen,.int .i64 guess,.mp j]
theorem Fl{G:GV}{m:Nat}{r x:List SV}(h:G[m]?=some r):(G.set m x)[m]?=some x:=by
 rw[List.getElem?_set_self];rcases Nat.lt_or_ge m G.length with h1|h1
 ·exact h1
 ·rw[List.getElem?_eq_none h1] at h;cases h
theorem s9{G:GV}{m:Nat}{r:List SV}(h:G[m]?=some r):G.set m r=G:=by
 refine List.ext_getElem? fun i=>?_
 by_cases hi:m=i
 ·subst hi;rw[Fl h,h]
 ·rw[List.getElem?_set_ne hi]
theorem Ke{α:Type}{l:List α}{i:Nat}{a b:α}:(l.set i a).set i b=l.set i b:=List.set_set ..
theorem A8j{e:List Nat}(kd:Nat)(op:BinOp):Dt kd op (Aw e) .nilp=if kd=2 then eqB op e.isEmpty else none:=by cases e<;>rfl
attribute [go_sem] A8j
theorem o5(e:List Nat)(k:Nat)(hk:fit k):Con 88 [Aw e,.int .i64 k] (match e[k]? with|some i=>.gp i 0|none=>.nilp):=by
 refine Al mixed Tryz.func88 tr88 ?_;simp only[go_sem,seval];refine Aa (o7 e) ?_
 by_cases h:k<e.length
 ·simp only[go_sem,seval,decide_eq_false (show ¬(k:Int) >= e.length by omega),q_f h];refine Je (fun i=>⟨(Aw (e.drop i)::.int .i64 ((k-i:Nat):Int)::.J::.J::.nilp::.J::.J::.J::.J::.J::.J::.J::.J::.J::.J::.J::.J::.J::.J::.J::.J::[]),[]⟩) k (fun i hi=>?_) ?_
  ·by_cases Yf:k-i > 0
   ·have hd:e.drop i=e[i]::e.drop (i+1):=by rw[List.drop_eq_getElem_cons (by omega)]
    simp only[go_sem,seval,decide_eq_true (show ((k-i:Nat):Int) > 0 by omega),hd,p8,w64 (show fit (((k-i:Nat):Int)-1) by unfold fit at hk |-;omega)];refine⟨by omega,?_⟩;rw[show ((k-i:Nat):Int)-1=((k-(i+1):Nat):Int) by omega];exact Au (by simp[An])
   ·have w6:i=k:=by omega
    subst w6;have hd:e.drop i=e[i]::e.drop (i+1):=by rw[List.drop_eq_getElem_cons (by omega)]
    simp only[go_sem,seval,decide_eq_false Yf,decide_eq_false (show ¬((i-i:Nat):Int) > 0 by omega),hd,p8]
  ·simp only[List.drop_zero,Nat.sub_zero];exact Au (by simp[An])
 ·simp only[go_sem,seval,decide_eq_true (show (k:Int) >= e.length by omega),List.getElem?_eq_none (show e.length<=k by omega)]
theorem A3j{G:GV}{m j:Nat}{steps most seen guess:Int}(hG:G[m]?=some (Bn steps most seen guess j))(hg:¬guess > 0):Ad 83 G [.gp m 0] (.ret (.tup [])) G:=by
 refine Ap mixed Tryz.func83 tr83 ?_;simp only[go_sem,seval,hG,Bn,decide_eq_false hg]
def Ng(g:Int):Int:=if g > 0 then g-1 else g
theorem u6{G:GV}{m j:Nat}{steps most seen guess:Int}(hG:G[m]?=some (Bn steps most seen guess j))(hf:fit guess)(hg:guess≠1):Ad 83 G [.gp m 0] (.ret (.tup [])) (G.set m (Bn steps most seen (Ng guess) j)):=by
 by_cases h:guess > 0
 ·refine Ap mixed Tryz.func83 tr83 ?_;simp only[go_sem,seval,hG,Bn,decide_eq_true h,w64 (show fit (guess-1) by unfold fit at hf |-;omega),Mx,Fl hG,Ah (show guess-1≠0 by omega),Ng,if_pos h]
 ·rw[show G.set m (Bn steps most seen (Ng guess) j)=G by rw[Ng,if_neg h];exact s9 hG];exact A3j hG h
theorem Ajq{G:GV}{m j:Nat}{steps most seen:Int}(hG:G[m]?=some (Bn steps most seen 1 j)):Ad 83 G [.gp m 0] (.pan (.ife 131)) (G.set m (Bn steps most seen 0 j)):=by
 refine Ap mixed Tryz.func83 tr83 ?_;simp only[go_sem,seval,hG,Bn,Mx,Fl hG];exact⟨rfl,rfl⟩
theorem Ajn{G:GV}{m j:Nat}{steps most seen guess:Int}(hG:G[m]?=some (Bn steps most seen guess j))(hf:fit guess)(hg:guess≠1)(h0:0<=seen)(hs:seen<8000000) :
  Ad 58 G [.gp m 0] (.ret (.tup [])) (G.set m (Bn steps most (seen+1) (Ng guess) j)):=by
 refine Ap mixed Tryz.func58 tr58 ?_;simp only[go_sem,seval];refine Ac (u6 hG hf hg) ?_;simp only[go_sem,seval,Bn,Fl hG,Mx,Ke,w64 (show fit (seen+1) by unfold fit;omega),decide_eq_false (show ¬seen+1 > 8000000 by omega)]
theorem A3b{G:GV}{m j:Nat}{steps most seen guess:Int}(hG:G[m]?=some (Bn steps most seen guess j))(hf:fit guess)(hg:guess≠1)(hs:8000000<=seen)(Jm:fit (seen+1)) :
  Ad 58 G [.gp m 0] (.pan (.ife 75)) (G.set m (Bn steps most (seen+1) (Ng guess) j)):=by
 refine Ap mixed Tryz.func58 tr58 ?_;simp only[go_sem,seval];refine Ac (u6 hG hf hg) ?_;simp only[go_sem,seval,Bn,Fl hG,Mx,Ke,w64 Jm,decide_eq_true (show seen+1 > 8000000 by omega)];exact⟨rfl,rfl⟩
theorem Ajp{G:GV}{m j:Nat}{steps most seen guess:Int}(hG:G[m]?=some (Bn steps most seen guess j))(hf:fit guess)(hg:guess≠1)(hs:steps<most)(Jm:fit (steps+1)) :
  Ad 93 G [.gp m 0] (.ret (.tup [])) (G.set m (Bn (steps+1) most seen (Ng guess) j)):=by
 refine Ap mixed Tryz.func93 tr93 ?_;simp only[go_sem,seval];refine Ac (u6 hG hf hg) ?_;simp only[go_sem,seval,Bn,Fl hG,Mx,Ke,w64 Jm,decide_eq_false (show ¬steps >= most by omega)]
theorem A3e{G:GV}{m j:Nat}{steps most seen guess:Int}(hG:G[m]?=some (Bn steps most seen guess j))(hf:fit guess)(hg:guess≠1)(hs:¬steps<most) :
  Ad 93 G [.gp m 0] (.pan (.ife 75)) (G.set m (Bn steps most seen (Ng guess) j)):=by
 refine Ap mixed Tryz.func93 tr93 ?_;simp only[go_sem,seval];refine Ac (u6 hG hf hg) ?_;simp only[go_sem,seval,Bn,Fl hG,Mx,Ke,decide_eq_true (show steps >= most by omega)];exact⟨rfl,rfl⟩
theorem A3d{G:GV}{m j:Nat}{steps most seen:Int}(hG:G[m]?=some (Bn steps most seen 1 j)) :
  Ad 93 G [.gp m 0] (.pan (.ife 131)) (G.set m (Bn steps most seen 0 j)):=by
 refine Ap mixed Tryz.func93 tr93 ?_;simp only[go_sem,seval];exact Cn (Ajq hG) trivial ⟨rfl,rfl⟩
theorem A3a{G:GV}{m j:Nat}{steps most seen:Int}(hG:G[m]?=some (Bn steps most seen 1 j)) :
  Ad 58 G [.gp m 0] (.pan (.ife 131)) (G.set m (Bn steps most seen 0 j)):=by
 refine Ap mixed Tryz.func58 tr58 ?_;simp only[go_sem,seval];exact Cn (Ajq hG) trivial ⟨rfl,rfl⟩
theorem Tr(G:GV)(most:Int):Ad 33 G [.int .i64 most] (.ret (.gp (G.length+1) 0)) (G++[[.undef],Bn 0 most 0 0 G.length]):=by
 refine Ap mixed Tryz.func33 tr33 ?_;simp only[go_sem,seval,Bn,List.append_assoc]
structure Vl where
 k:Int
 i:Int
 j:Int
 n:Int
 level:Int
 kids:List Nat
def Dp:List Nat->SV
 |[]=>.nils
 |i::l=>.dsl 1 ([.gp i 0]::l.map fun i=>[.gp i 0])
theorem c9:Dp []=.nils:=rfl
theorem Lv{l:List Nat}(h:l≠[]):Dp l=.dsl 1 (l.map fun i=>[.gp i 0]):=by
 cases l with
 |nil=>exact absurd rfl h
 |cons i l=>rfl
def vlC(v:Vl):List SV:=[.int .i64 v.k,.int .i64 v.i,.int .i64 v.j,.int .i64 v.n,.int .i64 v.level,Dp v.kids]
def vlV(v:Vl):SV:=.dref 6 (vlC v) 0
structure Th where
 t:Tm
 env:List Nat
 bare:Bool
 w:Option Vl
 v:Option Vl
def Dg:Option Vl->SV
 |none=>.nilp
 |some v=>vlV v
def thT(x:Th):List SV:=if x.bare then [.int .i64 0,.int .i64 0,.int .i64 0,.int .i64 0,.nils] else tv x.t
def thR(x:Th):List SV:=thT x++[Aw x.env,.bool x.bare,Dg x.w,Dg x.v]
theorem Aoi(x:Th):(thT x).length=5:=by unfold thT;split<;>simp[Ae]
theorem Zy{x:Th}:(thR x).length=9:=by simp[thR,Aoi]
theorem Ph(x:Th):∃a b c d f,thT x=[a,b,c,d,f]:=by
 have h:=Aoi x
 match thT x,h with
 |[a,b,c,d,f],_=>exact⟨a,b,c,d,f,rfl⟩
theorem Aby{t:Tm}{e:List Nat}{w v:Option Vl}{cl:Bool}:cut cl 9 true 5 0 (thR ⟨t,e,false,w,v⟩)=.agg cl (tv t):=by simp[cut,thR,thT,Sn]
theorem Abx{x:Th}{cl:Bool}:cut cl 9 false 1 5 (thR x)=Aw x.env:=by
 obtain⟨a,b,c,d,f,h⟩:=Ph x;simp[cut,thR,h]
theorem Af3{x:Th}{cl:Bool}:cut cl 9 false 1 6 (thR x)=.bool x.bare:=by
 obtain⟨a,b,c,d,f,h⟩:=Ph x;simp[cut,thR,h]
theorem Af4{x:Th}{cl:Bool}:cut cl 9 false 1 7 (thR x)=Dg x.w:=by
 obtain⟨a,b,c,d,f,h⟩:=Ph x;simp[cut,thR,h]
theorem Bf2{x:Th}{cl:Bool}:cut cl 9 false 1 8 (thR x)=Dg x.v:=by
 obtain⟨a,b,c,d,f,h⟩:=Ph x;simp[cut,thR,h]
theorem Aoh{x:Th}{v:Vl}:Eg 9 1 7 (thR x) [vlV v]=thR { x with w:=some v }:=by
 obtain⟨a,b,c,d,f,h⟩:=Ph x;have h2:thT { x with w:=some v }=[a,b,c,d,f]:=h;simp[Eg,thR,h,h2,Dg]
theorem Af5{x:Th}{v:Vl}:Eg 9 1 8 (thR x) [vlV v]=thR { x with v:=some v }:=by
 obtain⟨a,b,c,d,f,h⟩:=Ph x;have h2:thT { x with v:=some v }=[a,b,c,d,f]:=h;simp[Eg,thR,h,h2,Dg]
theorem Bf3{x:Th}:(thR x)[5]?.getD .undef=Aw x.env:=by
 obtain⟨a,b,c,d,f,h⟩:=Ph x;simp[thR,h]
theorem Bf4{x:Th}:(thR x)[6]?.getD .undef=.bool x.bare:=by
 obtain⟨a,b,c,d,f,h⟩:=Ph x;simp[thR,h]
theorem Bf5{x:Th}:(thR x)[7]?.getD .undef=Dg x.w:=by
 obtain⟨a,b,c,d,f,h⟩:=Ph x;simp[thR,h]
theorem Bf6{x:Th}:(thR x)[8]?.getD .undef=Dg x.v:=by
 obtain⟨a,b,c,d,f,h⟩:=Ph x;simp[thR,h]
theorem Bhn{v:Vl}:(vlC v)[0]?.getD .undef=.int .i64 v.k:=q_z
theorem Bho{v:Vl}:(vlC v)[1]?.getD .undef=.int .i64 v.i:=q_z
theorem Bhp{v:Vl}:(vlC v)[2]?.getD .undef=.int .i64 v.j:=q_z
theorem Bhq{v:Vl}:(vlC v)[3]?.getD .undef=.int .i64 v.n:=q_z
theorem Bhr{v:Vl}:(vlC v)[4]?.getD .undef=.int .i64 v.level:=q_z
theorem Bhs{v:Vl}:(vlC v)[5]?.getD .undef=Dp v.kids:=q_z
theorem Bht{v:Vl}:(vlC v).length=6:=q_z
theorem Zz{x:Th}:Ec (thR x)=false:=by
 unfold thR thT;split
 ·rfl
 ·cases x.t;rw[Ak];rfl
theorem Bhy{v:Vl}{hp:List Ob}:Bx hp (vlV v)=some (vlV v,hp):=q_z
theorem Bhv{v:Vl}{hp:List Ob}:Bo hp (vlV v)=some (vlV v,hp):=q_z
theorem Bh0{v:Vl}{hp:List Ob}:Bv hp (vlV v)=[]:=q_z
theorem Bhz{v:Vl}:Bd (vlV v)=[]:=q_z
theorem Bhx{v:Vl}:(vlV v).closed=true:=q_z
theorem Bh1{v:Vl}:(vlV v).ok=true:=q_z
theorem Bhw{v:Vl}:cellsOf (vlV v)=[vlV v]:=q_z
theorem Bhu{v:Vl}(n:Nat):Ba n (vlV v)=true:=q_z
theorem Jo{v:Vl}:Dg (some v)=vlV v:=q_z
theorem Um:Dg none=.nilp:=q_z
attribute [go_sem] Bf3 Bf4 Bf5 Bf6 Bhn Bho Bhp Bhq Bhr Bhs Bht Zy Aby Abx Af3 Af4 Bf2 Aoh Af5 Zz Bhy Bhv Bh0 Bhz Bhx Bh1 Bhw Bhu
theorem A0x{a b c d f c0 c1 c2 c3 c4 c5 c6 c7 c8:SV}{r:List (Nat×Nat×SV)}:fill [c0,c1,c2,c3,c4,c5,c6,c7,c8] ((0,5,.agg true [a,b,c,d,f])::r)=fill [a,b,c,d,f,c5,c6,c7,c8] r:=by
 simp[fill,Eg,cellsOf]
attribute [go_sem] A0x
theorem No(G:GV)(t:Tm)(e:List Nat):Ad 36 G [.agg true (tv t),Aw e] (.ret (.gp G.length 0)) (G++[thR ⟨t,e,false,none,none⟩]):=by
 refine Ap mixed Tryz.func36 tr36 ?_;simp only[go_sem,seval,Sn,thR,thT,Dg]
def Ld(w:Option Vl)(v:Option Vl):List SV:=thR ⟨.mk 0 0 0 0 [],[],true,w,v⟩
theorem Adr(G:GV)(v:Vl):Ad 110 G [vlV v] (.ret (.gp G.length 0)) (G++[Ld (some v) none]):=by
 refine Ap mixed Tryz.func110 tr110 ?_;simp only[go_sem,seval,Ld,thR,thT,Dg,vlV,Xg]
theorem Ads(G:GV)(level:Int):Ad 86 G [.int .i64 level] (.ret (.gp G.length 0)) (G++[Ld (some ⟨2,0,0,0,level,[]⟩) none]):=by
 refine Ap mixed Tryz.func86 tr86 ?_;simp only[go_sem,seval];refine Ac (Adr G ⟨2,0,0,0,level,[]⟩) ?_;simp only[go_sem,seval]
theorem Acz(k:Int):Con 92 [.int .i64 k] (.int .i64 (if k=15\/k=18\/k=19 then 0 else if k=22 then 5 else -1)):=by
 refine Al mixed Tryz.func92 tr92 ?_
 by_cases h1:k=15
 ·subst h1;simp only[go_sem,seval]
 by_cases h2:k=18
 ·subst h2;simp only[go_sem,seval]
 by_cases h3:k=19
 ·subst h3;simp only[go_sem,seval]
 by_cases h4:k=22
 ·subst h4;simp only[go_sem,seval]
 simp only[go_sem,seval,Ah h1,Ah h2,Ah h3,Ah h4,h1,h2,h3,h4,or_self,if_false]
def rdR(L:List Tok)(k e:Nat)(nm:SV)(i j:Nat):List SV:=[.dsl 3 (L.map Ex),.int .i64 k,.int .i64 e,nm,.int .i64 i,.int .i64 j,.bool false,.int .i64 0]
structure At(L:List Tok)(k:Nat)(t:Tok)(r:List Tok):Prop where
 lt:k<L.length
 ltz:(k:Int)<(L.length:Int)
 ge:(0:Int)<=(k:Int)
 row:(L.map Ex)[k]?.getD []=[.int .i64 t.k,.str (bs t.w),.int .i64 t.p]
 nx:L.drop (k+1)=r
 w1:L.length<1000000000000->IntKind.i64.wrap ((k:Int)+1)=((k+1:Nat):Int)
 w2:L.length<1000000000000->IntKind.i64.wrap (((k+1:Nat):Int)-1)=(k:Int)
 nge:¬(k:Int) >= (L.length:Int)
 nle:¬(L.length:Int)<=(k:Int)
 big:L.length<1000000000000->(L.length<=140737488355328)=True
theorem Dl{L:List Tok}{k:Nat}{t:Tok}{r:List Tok}(h:L.drop k=t::r):At L k t r:=by
 have Ab:k<L.length:=by
  have:=congrArg List.length h;simp at this;omega
 have hk:L[k]?=some t:=by
  have:=congrArg (fun l=>l[0]?) h;simpa using this
 refine⟨Ab,by omega,by omega,by rw[List.getElem?_map,hk];rfl,?_,fun h=>by rw[w64 (by unfold fit;omega)];omega,fun h=>by rw[w64 (by unfold fit;omega)];omega,by omega,by omega,fun h=>by simp;omega⟩;have:=congrArg (List.drop 1) h
 rwa [List.drop_drop] at this
theorem Ak3(n:Int):(n != n)=false:=by simp
theorem It{L:List Tok}{k e i j:Nat}{nm:SV}{G:GV}{t:Tok}{r:List Tok}(h:L.drop k=t::r)(hL:L.length<1000000000000) :
  Ad 150 (rdR L k e nm i j::G) [.gp 0 0,.int .i64 t.k] (.ret (.str (bs t.w))) (rdR L (k+1) e nm i j::G):=by
 obtain⟨a1,a2,a3,a4,a5,a6,a7,a8,a9,a10⟩:=Dl h;have a6:=a6 hL;have a7:=a7 hL;have a10:=a10 hL;refine Ap mixed Tryz.func150 tr150 ?_;unfold rdR;simp only[go_sem,seval,a1,a2,a3,a4,a6,a7,a8,a9,a10,forall_const,q_g,Ak3]
theorem Ae6{t:Tok}{le:LE}(h:Jb t=some le):(t.k=4/\t.w=[48]/\le=.z)\/(t.k=3/\t.w=[105]/\le=.i)\/(t.k=3/\t.w=[106]/\le=.j):=by
 obtain⟨k,w,p⟩:=t;unfold Jb at h;simp only at h |-;split at h
 ·rename_i hk;split at h
  ·rename_i hw;simp only[q_b] at h;exact .inl ⟨hk,by simpa using hw,h.symm⟩
  ·cases h
 ·split at h
  ·rename_i hk;split at h
   ·rename_i hw;simp only[q_b] at h;exact .inr (.inl ⟨hk,by simpa using hw,h.symm⟩)
   ·split at h
    ·rename_i hw;simp only[q_b] at h;exact .inr (.inr ⟨hk,by simpa using hw,h.symm⟩)
    ·cases h
  ·cases h
theorem b105:(([105]:By)==[105])=true:=by decide
theorem b106:(([106]:By)==[105])=false:=by decide
theorem b1066:(([106]:By)==[106])=true:=by decide
theorem bsuc:(([115,117,99]:By)==[115,117,99])=true:=by decide
theorem bmax:(([109,97,120]:By)==[115,117,99])=false:=by decide
theorem bmax2:(([109,97,120]:By)==[109,97,120])=true:=by decide
theorem u4{L:List Tok}{k e i j:Nat}{nm:SV}{G:GV}{t:Tok}{r:List Tok}{le:LE}(h:L.drop k=t::r)(hL:L.length<1000000000000)(hi:i<1000)(hj:j<1000)(hle:Jb t=some le) :
  Ad 156 (rdR L k e nm i j::G) [.gp 0 0] (.ret (.int .i64 (le.ev i j))) (rdR L (k+1) e nm i j::G):=by
 obtain⟨a1,a2,a3,a4,a5,a6,a7,a8,a9,a10⟩:=Dl h;have a6:=a6 hL;have a7:=a7 hL;have a10:=a10 hL;have i1:¬(i:Int) > 1000:=by omega
 have i2:¬1000<(i:Int):=by omega
 have j1:¬(j:Int) > 1000:=by omega
 have j2:¬1000<(j:Int):=by omega
 obtain⟨out,ho⟩:∃out,out=HOut.ret (.int .i64 (le.ev i j)):=⟨_,rfl⟩
 rw[<-ho];refine Ap mixed Tryz.func156 tr156 ?_;unfold rdR;rcases Ae6 hle with⟨hk,hw,rfl⟩|⟨hk,hw,rfl⟩|⟨hk,hw,rfl⟩
 ·rw[hk,hw] at a4;simp only[go_sem,seval,a1,a2,a3,a4,a6,a7,a8,a9,a10,forall_const,q_g];refine Aa Acx ?_;subst ho;simp only[go_sem,seval,a1,a2,a3,a4,a6,a7,a8,a9,a10,forall_const,q_g,LE.ev]
 ·rw[hk,hw] at a4;simp only[go_sem,seval,a1,a2,a3,a4,a6,a7,a8,a9,a10,forall_const,q_g,b105,i1,i2];subst ho;simp only[go_sem,seval,LE.ev]
 ·rw[hk,hw] at a4;simp only[go_sem,seval,a1,a2,a3,a4,a6,a7,a8,a9,a10,forall_const,q_g,b106,b1066,j1,j2];subst ho;simp only[go_sem,seval,LE.ev]
theorem Ajo{L:List Tok}{k e i j:Nat}{nm:SV}{G:GV}{t u z:Tok}{r:List Tok}{le:LE}(h:L.drop k=t::u::z::r)(hL:L.length<1000000000000)(hi:i<1000)(hj:j<1000)(hk:t.k=3)(hw:t.w=[115,117,99])(hle:Jb u=some le)(hz:z.k=2)(hb:le.ev i j<1000) :
  Ad 160 (rdR L k e nm i j::G) [.gp 0 0] (.ret (.int .i64 ((le.ev i j+1:Nat):Int))) (rdR L (k+1+1+1) e nm i j::G):=by
 obtain⟨a1,a2,a3,a4,a5,a6,a7,a8,a9,a10⟩:=Dl h;have a6:=a6 hL;have a7:=a7 hL;have a10:=a10 hL;have h2:=Dl a5;obtain⟨out,ho⟩:∃out,out=HOut.ret (.int .i64 ((le.ev i j+1:Nat):Int)):=⟨_,rfl⟩
 rw[<-ho];refine Ap mixed Tryz.func160 tr160 ?_;rw[hk,hw] at a4;have hl:=u4 (e:=e) (nm:=nm) (G:=G) a5 hL hi hj hle;have hn:=It (e:=e) (nm:=nm) (i:=i) (j:=j) (G:=G) h2.nx hL;rw[hz] at hn;unfold rdR at hl hn |-;simp only[go_sem,seval,a1,a2,a3,a4,a6,a7,a8,a9,a10,forall_const,q_g,bsuc];refine Ac hl ?_;simp only[go_sem,seval];refine Ac hn ?_;simp only[go_sem,seval];subst ho;have hw2:IntKind.i64.wrap ((le.ev i j:Int)+1)=((le.ev i j+1:Nat):Int):=by rw[w64 (by unfold fit;omega)];omega
 simp only[go_sem,seval,hw2]
theorem A2n{L:List Tok}{k e i j:Nat}{nm:SV}{G:GV}{t u v z:Tok}{r:List Tok}{le lf:LE}(h:L.drop k=t::u::v::z::r)(hL:L.length<1000000000000)(hi:i<1000)(hj:j<1000)(hk:t.k=3)(hw:t.w=[109,97,120])(hle:Jb u=some le)(hlf:Jb v=some lf)(hz:z.k=2) :
  Ad 160 (rdR L k e nm i j::G) [.gp 0 0] (.ret (.int .i64 ((max (le.ev i j) (lf.ev i j):Nat):Int))) (rdR L (k+1+1+1+1) e nm i j::G):=by
 obtain⟨a1,a2,a3,a4,a5,a6,a7,a8,a9,a10⟩:=Dl h;have a6:=a6 hL;have a7:=a7 hL;have a10:=a10 hL;have h2:=Dl a5;have h3:=Dl h2.nx;obtain⟨out,ho⟩:∃out,out=HOut.ret (.int .i64 ((max (le.ev i j) (lf.ev i j):Nat):Int)):=⟨_,rfl⟩
 rw[<-ho];refine Ap mixed Tryz.func160 tr160 ?_;rw[hk,hw] at a4;have hl:=u4 (e:=e) (nm:=nm) (G:=G) a5 hL hi hj hle;have hm:=u4 (e:=e) (nm:=nm) (G:=G) h2.nx hL hi hj hlf;have hn:=It (e:=e) (nm:=nm) (i:=i) (j:=j) (G:=G) h3.nx hL;rw[hz] at hn;unfold rdR at hl hm hn |-;simp only[go_sem,seval,a1,a2,a3,a4,a6,a7,a8,a9,a10,forall_const,q_g,bmax,bmax2];refine Ac hl ?_;simp only[go_sem,seval];refine Ac hm ?_;simp only[go_sem,seval];refine Ac hn ?_;simp only[go_sem,seval];subst ho;simp only[go_sem,seval];congr 1;split<;>omega
theorem Of{α:Type}{x y:α}{l r:List Tok}(h:Oe x l=some (y,r)):∃t,l=t::r/\t.k=2/\x=y:=by
 unfold Oe at h;split at h
 ·split at h
  ·rename_i hk;simp only[q_b,Prod.mk.injEq] at h;exact⟨_,by rw[h.2],hk,h.1⟩
  ·cases h
 ·cases h
theorem As{L:List Tok}{k:Nat}{t:Tok}{r:List Tok}(h:L.drop k=t::r):L.drop (k+1)=r:=(Dl h).nx
theorem Adt{L:List Tok}{k e i j:Nat}{nm:SV}{G:GV}{ts r:List Tok}{le:LE}(h:L.drop k=ts)(hL:L.length<1000000000000)(hi:i<1000)(hj:j<1000)(hle:Pb ts=some (le,r)) :
  ∃k',L.drop k'=r/\Ad 156 (rdR L k e nm i j::G) [.gp 0 0] (.ret (.int .i64 (le.ev i j))) (rdR L k' e nm i j::G):=by
 cases ts with
 |nil=>cases hle
 |cons t ts=>
 unfold Pb at hle;dsimp only at hle;split at hle
 ·rename_i hk;have key:∀(k':Nat),Ad 160 (rdR L (k+1) e nm i j::G) [.gp 0 0] (.ret (.int .i64 (le.ev i j))) (rdR L k' e nm i j::G)->(le.ev i j<=1000) ->
    Ad 156 (rdR L k e nm i j::G) [.gp 0 0] (.ret (.int .i64 (le.ev i j))) (rdR L k' e nm i j::G):=by
   intro k' hm hb;obtain⟨a1,a2,a3,a4,a5,a6,a7,a8,a9,a10⟩:=Dl h;have a6:=a6 hL;have a7:=a7 hL;have a10:=a10 hL;have i1:¬(le.ev i j:Int) > 1000:=by omega
   have i2:¬1000<(le.ev i j:Int):=by omega
   obtain⟨out,ho⟩:∃out,out=HOut.ret (.int .i64 (le.ev i j)):=⟨_,rfl⟩
   rw[<-ho];refine Ap mixed Tryz.func156 tr156 ?_;rw[hk] at a4;unfold rdR at hm |-;simp only[go_sem,seval,a1,a2,a3,a4,a6,a7,a8,a9,a10,forall_const,q_g];refine Ac hm ?_;simp only[go_sem,seval,i1,i2];subst ho;simp only[go_sem,seval]
  have Nk:=As h
  match ts,hle with
  |[],hle=>cases hle
  |[u],hle=>cases hle
  |u::x::r1,hle=>
   dsimp only at hle;split at hle
   ·rename_i hu;split at hle
    ·rename_i hs;have hs:u.w=[115,117,99]:=by simpa using hs
     split at hle
     ·rename_i hx;obtain⟨z,Ci,Dy,Nv⟩:=Of hle;subst Nv Ci;exact⟨_,As (As (As Nk)),key _ (Ajo Nk hL hi hj hu hs hx Dy hi) (by simp only[LE.ev];omega)⟩
     ·rename_i hx;obtain⟨z,Ci,Dy,Nv⟩:=Of hle;subst Nv Ci;exact⟨_,As (As (As Nk)),key _ (Ajo Nk hL hi hj hu hs hx Dy hj) (by simp only[LE.ev];omega)⟩
     ·cases hle
    ·split at hle
     ·rename_i hs;have hs:u.w=[109,97,120]:=by simpa using hs
      match r1,hle with
      |[],hle=>cases hle
      |y::r2,hle=>
       dsimp only at hle;split at hle
       ·rename_i hx hy;obtain⟨z,Ci,Dy,Nv⟩:=Of hle;subst Nv Ci;exact⟨_,As (As (As (As Nk))),key _ (A2n Nk hL hi hj hu hs hx hy Dy) (by simp only[LE.ev];omega)⟩
       ·cases hle
     ·cases hle
   ·cases hle
 ·cases ha:Jb t with
  |none=>rw[ha] at hle;cases hle
  |some le'=>
   rw[ha] at hle;simp only[Option.map_some,q_b,Prod.mk.injEq] at hle;obtain⟨rfl,rfl⟩:=hle;exact⟨_,As h,u4 h hL hi hj ha⟩
end Go.Proofs.YtdpigpopcbjkmaaGreatDoor.Abs
