import Derived.Test.YtdpigpopcbjkmaaGreatDoorZFg
import Derived.Test.YtdpigpopcbjkmaaGreatDoorZAfC
import Derived.Test.YtdpigpopcbjkmaaGreatDoorZTc
set_option linter.unusedSimpArgs false
set_option linter.unusedVariables false
set_option maxRecDepth 20000
set_option maxHeartbeats 4000000
namespace Go.Proofs.YtdpigpopcbjkmaaGreatDoor.Abs
open Go Go.RowKit Go.Proofs.YtdpigpopcbjkmaaGreatDoor
abbrev Ad (f:Nat) (G:List (List SV)) (args:List SV) (out:HOut) (G':List (List SV)):Prop:=HContract Tryz.prog f G args out G'
def Bj:List Nat->SV
 |[]=>.nilp
 |h::t=>.dref 3 [.gp h 0,Bj t,.int .i64 ((t.length:Int)+1)] 0
theorem Wv:Bj []=.nilp:=rfl
theorem Aae {h:Nat} {t:List Nat}:Bj (h::t)=.dref 3 [.gp h 0,Bj t,.int .i64 ((t.length:Int)+1)] 0:=Eq.trans rfl rfl
theorem Sr (e:List Nat) {hp:List Ob}:Bu hp (Bj e)=some (Bj e,hp)/\Bo hp (Bj e)=some (Bj e,hp)/\Bt hp (Bj e)=[]/\Bc (Bj e)=[]/\(Bj e).closed=true/\(Bj e).ok=true/\cellsOf (Bj e)=[Bj e]:=by
 cases e<;>exact⟨rfl,rfl,rfl,rfl,rfl,rfl,rfl⟩
theorem A1l {e:List Nat} {hp:List Ob}:Bu hp (Bj e)=some (Bj e,hp):=(Sr e).1
theorem A4w {e:List Nat} {hp:List Ob}:Bo hp (Bj e)=some (Bj e,hp):=(Sr e).2.1
theorem Avq {e:List Nat} {hp:List Ob}:Bt hp (Bj e)=[]:=(Sr e).2.2.1
theorem Bfa {e:List Nat}:Bc (Bj e)=[]:=(Sr (hp:=[]) e).2.2.2.1
theorem Bcy {e:List Nat}:(Bj e).closed=true:=(Sr (hp:=[]) e).2.2.2.2.1
theorem Ap1 {e:List Nat}:(Bj e).ok=true:=(Sr (hp:=[]) e).2.2.2.2.2.1
theorem Aw5 {e:List Nat}:cellsOf (Bj e)=[Bj e]:=(Sr (hp:=[]) e).2.2.2.2.2.2
attribute [go_sem] A1l A4w Avq Bfa Bcy Ap1 Aw5
theorem Ad0 (e:List Nat):Con 89 [Bj e] (.int .i64 e.length):=by
 refine Al mixed Tryz.func89 tr89 ?_;cases e with
 |nil=>simp only [go_sem,seval,Wv,List.length_nil];try rfl
 |cons h t=>simp only [go_sem,seval,Aae];simp
theorem Uz (e:List Nat) (i:Nat) (h:fit ((e.length:Int)+1)):Con 85 [Bj e,.gp i 0] (Bj (i::e)):=by
 refine Al mixed Tryz.func85 tr85 ?_;simp only [go_sem,seval];refine Aa (Ad0 e) ?_;simp only [go_sem,seval,w64 h,Aae]
def Bv (steps most seen guess:Int) (j:Nat):List SV:=[.int .i64 steps,.int .i64 most,.int .i64 seen,.int .i64 guess,.mp j]
theorem Fa {G:List (List SV)} {m:Nat} {r x:List SV} (h:G[m]?=some r):(G.set m x)[m]?=some x:=by
 rw [List.getElem?_set_self];rcases Nat.lt_or_ge m G.length with h1|h1
 ·exact h1
 ·rw [List.getElem?_eq_none h1] at h;cases h
theorem j9 {G:List (List SV)} {m:Nat} {r:List SV} (h:G[m]?=some r):G.set m r=G:=by
 refine List.ext_getElem? fun i=>?_
 by_cases hi:m=i
 ·subst hi;rw [Fa h,h]
 ·rw [List.getElem?_set_ne hi]
theorem Jk {α:Type} {l:List α} {i:Nat} {a b:α}:(l.set i a).set i b=l.set i b:=List.set_set ..
theorem Aok {e:List Nat} (kd:Nat) (op:BinOp):Dk kd op (Bj e) .nilp=if kd=2 then eqB op e.isEmpty else none:=by cases e<;>rfl
attribute [go_sem] Aok
theorem Aiy (e:List Nat) (k:Nat) (hk:fit k):Con 88 [Bj e,.int .i64 k] (match e[k]? with|some i=>.gp i 0|none=>.nilp):=by
 refine Al mixed Tryz.func88 tr88 ?_;simp only [go_sem,seval];refine Aa (Ad0 e) ?_
 by_cases h:k<e.length
 ·simp only [go_sem,seval,decide_eq_false (show ¬(k:Int) >= e.length by omega),q_f h];refine Ig (fun i=>⟨(Bj (e.drop i)::.int .i64 ((k-i:Nat):Int)::.jk::.jk::.nilp::.jk::.jk::.jk::.jk::.jk::.jk::.jk::.jk::.jk::.jk::.jk::.jk::.jk::.jk::.jk::.jk::[]),[]⟩) k (fun i hi=>?_) ?_
  ·by_cases Rt:k-i > 0
   ·have hd:e.drop i=e[i]::e.drop (i+1):=by rw [List.drop_eq_getElem_cons (by omega)]
    simp only [go_sem,seval,decide_eq_true (show ((k-i:Nat):Int) > 0 by omega),hd,Aae,w64 (show fit (((k-i:Nat):Int)-1) by unfold fit at hk |-;omega)];refine⟨by omega,?_⟩;rw [show ((k-i:Nat):Int)-1=((k-(i+1):Nat):Int) by omega];exact As (by simp [Ao])
   ·have hik:i=k:=by omega
    subst hik;have hd:e.drop i=e[i]::e.drop (i+1):=by rw [List.drop_eq_getElem_cons (by omega)]
    simp only [go_sem,seval,decide_eq_false Rt,decide_eq_false (show ¬((i-i:Nat):Int) > 0 by omega),hd,Aae]
  ·simp only [List.drop_zero,Nat.sub_zero];exact As (by simp [Ao])
 ·simp only [go_sem,seval,decide_eq_true (show (k:Int) >= e.length by omega),List.getElem?_eq_none (show e.length<=k by omega)]
theorem Azp {G:List (List SV)} {m j:Nat} {steps most seen guess:Int} (hG:G[m]?=some (Bv steps most seen guess j)) (hg:¬guess > 0):Ad 83 G [.gp m 0] (.ret (.tup [])) G:=by
 refine Aq mixed Tryz.func83 tr83 ?_;simp only [go_sem,seval,hG,Bv,decide_eq_false hg]
def Mv (g:Int):Int:=if g > 0 then g-1 else g
theorem n8 {G:List (List SV)} {m j:Nat} {steps most seen guess:Int} (hG:G[m]?=some (Bv steps most seen guess j)) (hf:fit guess) (hg:guess≠1):Ad 83 G [.gp m 0] (.ret (.tup [])) (G.set m (Bv steps most seen (Mv guess) j)):=by
 by_cases h:guess > 0
 ·refine Aq mixed Tryz.func83 tr83 ?_;simp only [go_sem,seval,hG,Bv,decide_eq_true h,w64 (show fit (guess-1) by unfold fit at hf |-;omega),Lp,Fa hG,Ah (show guess-1≠0 by omega),Mv,if_pos h]
 ·rw [show G.set m (Bv steps most seen (Mv guess) j)=G by rw [Mv,if_neg h];exact j9 hG];exact Azp hG h
theorem Aks {G:List (List SV)} {m j:Nat} {steps most seen:Int} (hG:G[m]?=some (Bv steps most seen 1 j)):Ad 83 G [.gp m 0] (.pan (.ife 131)) (G.set m (Bv steps most seen 0 j)):=by
 refine Aq mixed Tryz.func83 tr83 ?_;simp only [go_sem,seval,hG,Bv,Lp,Fa hG];exact⟨rfl,rfl⟩
theorem Aic {G:List (List SV)} {m j:Nat} {steps most seen guess:Int} (hG:G[m]?=some (Bv steps most seen guess j)) (hf:fit guess) (hg:guess≠1) (h0:0<=seen) (hs:seen<8000000) :
  Ad 58 G [.gp m 0] (.ret (.tup [])) (G.set m (Bv steps most (seen+1) (Mv guess) j)):=by
 refine Aq mixed Tryz.func58 tr58 ?_;simp only [go_sem,seval];refine Ac (n8 hG hf hg) ?_;simp only [go_sem,seval,Bv,Fa hG,Lp,Jk,w64 (show fit (seen+1) by unfold fit;omega),decide_eq_false (show ¬seen+1 > 8000000 by omega)]
theorem An1 {G:List (List SV)} {m j:Nat} {steps most seen guess:Int} (hG:G[m]?=some (Bv steps most seen guess j)) (hf:fit guess) (hg:guess≠1) (hs:8000000<=seen) (Jh:fit (seen+1)) :
  Ad 58 G [.gp m 0] (.pan (.ife 75)) (G.set m (Bv steps most (seen+1) (Mv guess) j)):=by
 refine Aq mixed Tryz.func58 tr58 ?_;simp only [go_sem,seval];refine Ac (n8 hG hf hg) ?_;simp only [go_sem,seval,Bv,Fa hG,Lp,Jk,w64 Jh,decide_eq_true (show seen+1 > 8000000 by omega)];exact⟨rfl,rfl⟩
theorem Ajg {G:List (List SV)} {m j:Nat} {steps most seen guess:Int} (hG:G[m]?=some (Bv steps most seen guess j)) (hf:fit guess) (hg:guess≠1) (hs:steps<most) (Jh:fit (steps+1)) :
  Ad 93 G [.gp m 0] (.ret (.tup [])) (G.set m (Bv (steps+1) most seen (Mv guess) j)):=by
 refine Aq mixed Tryz.func93 tr93 ?_;simp only [go_sem,seval];refine Ac (n8 hG hf hg) ?_;simp only [go_sem,seval,Bv,Fa hG,Lp,Jk,w64 Jh,decide_eq_false (show ¬steps >= most by omega)]
theorem A5k {G:List (List SV)} {m j:Nat} {steps most seen guess:Int} (hG:G[m]?=some (Bv steps most seen guess j)) (hf:fit guess) (hg:guess≠1) (hs:¬steps<most) :
  Ad 93 G [.gp m 0] (.pan (.ife 75)) (G.set m (Bv steps most seen (Mv guess) j)):=by
 refine Aq mixed Tryz.func93 tr93 ?_;simp only [go_sem,seval];refine Ac (n8 hG hf hg) ?_;simp only [go_sem,seval,Bv,Fa hG,Lp,Jk,decide_eq_true (show steps >= most by omega)];exact⟨rfl,rfl⟩
theorem A9l {G:List (List SV)} {m j:Nat} {steps most seen:Int} (hG:G[m]?=some (Bv steps most seen 1 j)) :
  Ad 93 G [.gp m 0] (.pan (.ife 131)) (G.set m (Bv steps most seen 0 j)):=by
 refine Aq mixed Tryz.func93 tr93 ?_;simp only [go_sem,seval];exact Dh (Aks hG) trivial ⟨rfl,rfl⟩
theorem Ayk {G:List (List SV)} {m j:Nat} {steps most seen:Int} (hG:G[m]?=some (Bv steps most seen 1 j)) :
  Ad 58 G [.gp m 0] (.pan (.ife 131)) (G.set m (Bv steps most seen 0 j)):=by
 refine Aq mixed Tryz.func58 tr58 ?_;simp only [go_sem,seval];exact Dh (Aks hG) trivial ⟨rfl,rfl⟩
theorem j5 (G:List (List SV)) (most:Int):Ad 33 G [.int .i64 most] (.ret (.gp (G.length+1) 0)) (G++[[.undef],Bv 0 most 0 0 G.length]):=by
 refine Aq mixed Tryz.func33 tr33 ?_;simp only [go_sem,seval,Bv,List.append_assoc]
structure Vl where
 k:Int
 i:Int
 j:Int
 n:Int
 level:Int
 kids:List Nat
def Dx:List Nat->SV
 |[]=>.nils
 |i::l=>.dsl 1 ([.gp i 0]::l.map fun i=>[.gp i 0])
theorem Ww:Dx []=.nils:=rfl
theorem Ph {l:List Nat} (h:l≠[]):Dx l=.dsl 1 (l.map fun i=>[.gp i 0]):=by
 cases l with
 |nil=>exact absurd rfl h
 |cons i l=>rfl
def vlC (v:Vl):List SV:=[.int .i64 v.k,.int .i64 v.i,.int .i64 v.j,.int .i64 v.n,.int .i64 v.level,Dx v.kids]
def vlV (v:Vl):SV:=.dref 6 (vlC v) 0
structure Th where
 t:Tm
 env:List Nat
 bare:Bool
 w:Option Vl
 v:Option Vl
def Cx:Option Vl->SV
 |none=>.nilp
 |some v=>vlV v
def thT (x:Th):List SV:=if x.bare then [.int .i64 0,.int .i64 0,.int .i64 0,.int .i64 0,.nils] else tv x.t
def thR (x:Th):List SV:=thT x++[Bj x.env,.bool x.bare,Cx x.w,Cx x.v]
theorem Afw (x:Th):(thT x).length=5:=by unfold thT;split<;>simp [Ag]
theorem Bcj {x:Th}:(thR x).length=9:=by simp [thR,Afw]
theorem Nr (x:Th):∃a b c d f,thT x=[a,b,c,d,f]:=by
 have h:=Afw x
 match thT x,h with
 |[a,b,c,d,f],_=>exact⟨a,b,c,d,f,rfl⟩
theorem Asb {t:Tm} {e:List Nat} {w v:Option Vl} {cl:Bool}:cut cl 9 true 5 0 (thR ⟨t,e,false,w,v⟩)=.agg cl (tv t):=by simp [cut,thR,thT,Qp]
theorem A0e {x:Th} {cl:Bool}:cut cl 9 false 1 5 (thR x)=Bj x.env:=by
 obtain⟨a,b,c,d,f,h⟩:=Nr x;simp [cut,thR,h]
theorem A6r {x:Th} {cl:Bool}:cut cl 9 false 1 6 (thR x)=.bool x.bare:=by
 obtain⟨a,b,c,d,f,h⟩:=Nr x;simp [cut,thR,h]
theorem An4 {x:Th} {cl:Bool}:cut cl 9 false 1 7 (thR x)=Cx x.w:=by
 obtain⟨a,b,c,d,f,h⟩:=Nr x;simp [cut,thR,h]
theorem Au2 {x:Th} {cl:Bool}:cut cl 9 false 1 8 (thR x)=Cx x.v:=by
 obtain⟨a,b,c,d,f,h⟩:=Nr x;simp [cut,thR,h]
theorem Aha {x:Th} {v:Vl}:Dv 9 1 7 (thR x) [vlV v]=thR { x with w:=some v }:=by
 obtain⟨a,b,c,d,f,h⟩:=Nr x;have h2:thT { x with w:=some v }=[a,b,c,d,f]:=h;simp [Dv,thR,h,h2,Cx]
theorem Ad3 {x:Th} {v:Vl}:Dv 9 1 8 (thR x) [vlV v]=thR { x with v:=some v }:=by
 obtain⟨a,b,c,d,f,h⟩:=Nr x;have h2:thT { x with v:=some v }=[a,b,c,d,f]:=h;simp [Dv,thR,h,h2,Cx]
theorem Bcx {x:Th}:(thR x)[5]?.getD .undef=Bj x.env:=by
 obtain⟨a,b,c,d,f,h⟩:=Nr x;simp [thR,h]
theorem A0g {x:Th}:(thR x)[6]?.getD .undef=.bool x.bare:=by
 obtain⟨a,b,c,d,f,h⟩:=Nr x;simp [thR,h]
theorem A0l {x:Th}:(thR x)[7]?.getD .undef=Cx x.w:=by
 obtain⟨a,b,c,d,f,h⟩:=Nr x;simp [thR,h]
theorem A4x {x:Th}:(thR x)[8]?.getD .undef=Cx x.v:=by
 obtain⟨a,b,c,d,f,h⟩:=Nr x;simp [thR,h]
theorem Bbq {v:Vl}:(vlC v)[0]?.getD .undef=.int .i64 v.k:=Eq.trans rfl rfl
theorem Azn {v:Vl}:(vlC v)[1]?.getD .undef=.int .i64 v.i:=Eq.trans rfl rfl
theorem Asv {v:Vl}:(vlC v)[2]?.getD .undef=.int .i64 v.j:=Eq.trans rfl rfl
theorem Avd {v:Vl}:(vlC v)[3]?.getD .undef=.int .i64 v.n:=Eq.trans rfl rfl
theorem A7d {v:Vl}:(vlC v)[4]?.getD .undef=.int .i64 v.level:=Eq.trans rfl rfl
theorem A8o {v:Vl}:(vlC v)[5]?.getD .undef=Dx v.kids:=Eq.trans rfl rfl
theorem Bah {v:Vl}:(vlC v).length=6:=Eq.trans rfl rfl
theorem Awc {x:Th}:Dw (thR x)=false:=by
 unfold thR thT;split
 ·rfl
 ·cases x.t;rw [Am];rfl
theorem A1j {v:Vl} {hp:List Ob}:Bu hp (vlV v)=some (vlV v,hp):=Eq.trans rfl rfl
theorem Apc {v:Vl} {hp:List Ob}:Bo hp (vlV v)=some (vlV v,hp):=Eq.trans rfl rfl
theorem Ayx {v:Vl} {hp:List Ob}:Bt hp (vlV v)=[]:=Eq.trans rfl rfl
theorem A1u {v:Vl}:Bc (vlV v)=[]:=Eq.trans rfl rfl
theorem Axb {v:Vl}:(vlV v).closed=true:=Eq.trans rfl rfl
theorem An7 {v:Vl}:(vlV v).ok=true:=Eq.trans rfl rfl
theorem Ath {v:Vl}:cellsOf (vlV v)=[vlV v]:=Eq.trans rfl rfl
theorem A9c {v:Vl} (n:Nat):Be n (vlV v)=true:=Eq.trans rfl rfl
theorem Jj {v:Vl}:Cx (some v)=vlV v:=Eq.trans rfl rfl
theorem Sl:Cx none=.nilp:=Eq.trans rfl rfl
attribute [go_sem] Bcx A0g A0l A4x Bbq Azn Asv Avd A7d A8o Bah Bcj Asb A0e A6r An4 Au2 Aha Ad3 Awc A1j Apc Ayx A1u Axb An7 Ath A9c
theorem Azf {a b c d f c0 c1 c2 c3 c4 c5 c6 c7 c8:SV} {r:List (Nat×Nat×SV)}:fill [c0,c1,c2,c3,c4,c5,c6,c7,c8] ((0,5,.agg true [a,b,c,d,f])::r)=fill [a,b,c,d,f,c5,c6,c7,c8] r:=by
 simp [fill,Dv,cellsOf]
attribute [go_sem] Azf
theorem Qt (G:List (List SV)) (t:Tm) (e:List Nat):Ad 36 G [.agg true (tv t),Bj e] (.ret (.gp G.length 0)) (G++[thR ⟨t,e,false,none,none⟩]):=by
 refine Aq mixed Tryz.func36 tr36 ?_;simp only [go_sem,seval,Qp,thR,thT,Cx]
def Ky (w:Option Vl) (v:Option Vl):List SV:=thR ⟨.mk 0 0 0 0 [],[],true,w,v⟩
theorem Ads (G:List (List SV)) (v:Vl):Ad 110 G [vlV v] (.ret (.gp G.length 0)) (G++[Ky (some v) none]):=by
 refine Aq mixed Tryz.func110 tr110 ?_;simp only [go_sem,seval,Ky,thR,thT,Cx,vlV,Wv]
theorem Ac5 (G:List (List SV)) (level:Int):Ad 86 G [.int .i64 level] (.ret (.gp G.length 0)) (G++[Ky (some ⟨2,0,0,0,level,[]⟩) none]):=by
 refine Aq mixed Tryz.func86 tr86 ?_;simp only [go_sem,seval];refine Ac (Ads G ⟨2,0,0,0,level,[]⟩) ?_;simp only [go_sem,seval]
theorem Abw (k:Int):Con 92 [.int .i64 k] (.int .i64 (if k=15\/k=18\/k=19 then 0 else if k=22 then 5 else -1)):=by
 refine Al mixed Tryz.func92 tr92 ?_
 by_cases h1:k=15
 ·subst h1;simp only [go_sem,seval]
 by_cases h2:k=18
 ·subst h2;simp only [go_sem,seval]
 by_cases h3:k=19
 ·subst h3;simp only [go_sem,seval]
 by_cases h4:k=22
 ·subst h4;simp only [go_sem,seval]
 simp only [go_sem,seval,Ah h1,Ah h2,Ah h3,Ah h4,h1,h2,h3,h4,or_self,if_false]
def rdR (L:List Tok) (k e:Nat) (nm:SV) (i j:Nat):List SV:=[.dsl 3 (L.map El),.int .i64 k,.int .i64 e,nm,.int .i64 i,.int .i64 j,.bool false,.int .i64 0]
structure At (L:List Tok) (k:Nat) (t:Tok) (r:List Tok):Prop where
 lt:k<L.length
 ltz:(k:Int)<(L.length:Int)
 ge:(0:Int)<=(k:Int)
 row:(L.map El)[k]?.getD []=[.int .i64 t.k,.str (bs t.w),.int .i64 t.p]
 nx:L.drop (k+1)=r
 w1:L.length<1000000000000->IntKind.i64.wrap ((k:Int)+1)=((k+1:Nat):Int)
 w2:L.length<1000000000000->IntKind.i64.wrap (((k+1:Nat):Int)-1)=(k:Int)
 nge:¬(k:Int) >= (L.length:Int)
 nle:¬(L.length:Int)<=(k:Int)
 big:L.length<1000000000000->(L.length<=140737488355328)=True
theorem Dd {L:List Tok} {k:Nat} {t:Tok} {r:List Tok} (h:L.drop k=t::r):At L k t r:=by
 have Ab:k<L.length:=by
  have:=congrArg List.length h;simp at this;omega
 have hk:L[k]?=some t:=by
  have:=congrArg (fun l=>l[0]?) h;simpa using this
 refine⟨Ab,by omega,by omega,by rw [List.getElem?_map,hk];rfl,?_,fun h=>by rw [w64 (by unfold fit;omega)];omega,fun h=>by rw [w64 (by unfold fit;omega)];omega,by omega,by omega,fun h=>by simp;omega⟩;have:=congrArg (List.drop 1) h
 rwa [List.drop_drop] at this
theorem Aht (n:Int):(n != n)=false:=by simp
theorem Ii {L:List Tok} {k e i j:Nat} {nm:SV} {G:List (List SV)} {t:Tok} {r:List Tok} (h:L.drop k=t::r) (hL:L.length<1000000000000) :
  Ad 150 (rdR L k e nm i j::G) [.gp 0 0,.int .i64 t.k] (.ret (.str (bs t.w))) (rdR L (k+1) e nm i j::G):=by
 obtain⟨a1,a2,a3,a4,a5,a6,a7,a8,a9,a10⟩:=Dd h;have a6:=a6 hL;have a7:=a7 hL;have a10:=a10 hL;refine Aq mixed Tryz.func150 tr150 ?_;unfold rdR;simp only [go_sem,seval,a1,a2,a3,a4,a6,a7,a8,a9,a10,forall_const,q_g,Aht]
theorem Adu {t:Tok} {le:LE} (h:Im t=some le):(t.k=4/\t.w=[48]/\le=.z)\/(t.k=3/\t.w=[105]/\le=.i)\/(t.k=3/\t.w=[106]/\le=.j):=by
 obtain⟨k,w,p⟩:=t;unfold Im at h;simp only at h |-;split at h
 ·rename_i hk;split at h
  ·rename_i hw;simp only [q_b] at h;exact .inl ⟨hk,by simpa using hw,h.symm⟩
  ·cases h
 ·split at h
  ·rename_i hk;split at h
   ·rename_i hw;simp only [q_b] at h;exact .inr (.inl ⟨hk,by simpa using hw,h.symm⟩)
   ·split at h
    ·rename_i hw;simp only [q_b] at h;exact .inr (.inr ⟨hk,by simpa using hw,h.symm⟩)
    ·cases h
  ·cases h
theorem b105:(([105]:By)==[105])=true:=by decide
theorem b106:(([106]:By)==[105])=false:=by decide
theorem b1066:(([106]:By)==[106])=true:=by decide
theorem bsuc:(([115,117,99]:By)==[115,117,99])=true:=by decide
theorem bmax:(([109,97,120]:By)==[115,117,99])=false:=by decide
theorem bmax2:(([109,97,120]:By)==[109,97,120])=true:=by decide
theorem l5 {L:List Tok} {k e i j:Nat} {nm:SV} {G:List (List SV)} {t:Tok} {r:List Tok} {le:LE} (h:L.drop k=t::r) (hL:L.length<1000000000000) (hi:i<1000) (hj:j<1000) (hle:Im t=some le) :
  Ad 156 (rdR L k e nm i j::G) [.gp 0 0] (.ret (.int .i64 (le.ev i j))) (rdR L (k+1) e nm i j::G):=by
 obtain⟨a1,a2,a3,a4,a5,a6,a7,a8,a9,a10⟩:=Dd h;have a6:=a6 hL;have a7:=a7 hL;have a10:=a10 hL;have i1:¬(i:Int) > 1000:=by omega
 have i2:¬1000<(i:Int):=by omega
 have j1:¬(j:Int) > 1000:=by omega
 have j2:¬1000<(j:Int):=by omega
 obtain⟨out,ho⟩:∃out,out=HOut.ret (.int .i64 (le.ev i j)):=⟨_,rfl⟩
 rw [<-ho];refine Aq mixed Tryz.func156 tr156 ?_;unfold rdR;rcases Adu hle with⟨hk,hw,rfl⟩|⟨hk,hw,rfl⟩|⟨hk,hw,rfl⟩
 ·rw [hk,hw] at a4;simp only [go_sem,seval,a1,a2,a3,a4,a6,a7,a8,a9,a10,forall_const,q_g];refine Aa Adp ?_;subst ho;simp only [go_sem,seval,a1,a2,a3,a4,a6,a7,a8,a9,a10,forall_const,q_g,LE.ev]
 ·rw [hk,hw] at a4;simp only [go_sem,seval,a1,a2,a3,a4,a6,a7,a8,a9,a10,forall_const,q_g,b105,i1,i2];subst ho;simp only [go_sem,seval,LE.ev]
 ·rw [hk,hw] at a4;simp only [go_sem,seval,a1,a2,a3,a4,a6,a7,a8,a9,a10,forall_const,q_g,b106,b1066,j1,j2];subst ho;simp only [go_sem,seval,LE.ev]
theorem Ai5 {L:List Tok} {k e i j:Nat} {nm:SV} {G:List (List SV)} {t u z:Tok} {r:List Tok} {le:LE} (h:L.drop k=t::u::z::r) (hL:L.length<1000000000000) (hi:i<1000) (hj:j<1000) (hk:t.k=3) (hw:t.w=[115,117,99]) (hle:Im u=some le) (hz:z.k=2) (hb:le.ev i j<1000) :
  Ad 160 (rdR L k e nm i j::G) [.gp 0 0] (.ret (.int .i64 ((le.ev i j+1:Nat):Int))) (rdR L (k+1+1+1) e nm i j::G):=by
 obtain⟨a1,a2,a3,a4,a5,a6,a7,a8,a9,a10⟩:=Dd h;have a6:=a6 hL;have a7:=a7 hL;have a10:=a10 hL;have h2:=Dd a5;obtain⟨out,ho⟩:∃out,out=HOut.ret (.int .i64 ((le.ev i j+1:Nat):Int)):=⟨_,rfl⟩
 rw [<-ho];refine Aq mixed Tryz.func160 tr160 ?_;rw [hk,hw] at a4;have hl:=l5 (e:=e) (nm:=nm) (G:=G) a5 hL hi hj hle;have hn:=Ii (e:=e) (nm:=nm) (i:=i) (j:=j) (G:=G) h2.nx hL;rw [hz] at hn;unfold rdR at hl hn |-;simp only [go_sem,seval,a1,a2,a3,a4,a6,a7,a8,a9,a10,forall_const,q_g,bsuc];refine Ac hl ?_;simp only [go_sem,seval];refine Ac hn ?_;simp only [go_sem,seval];subst ho;have hw2:IntKind.i64.wrap ((le.ev i j:Int)+1)=((le.ev i j+1:Nat):Int):=by rw [w64 (by unfold fit;omega)];omega
 simp only [go_sem,seval,hw2]
theorem A3k {L:List Tok} {k e i j:Nat} {nm:SV} {G:List (List SV)} {t u v z:Tok} {r:List Tok} {le lf:LE} (h:L.drop k=t::u::v::z::r) (hL:L.length<1000000000000) (hi:i<1000) (hj:j<1000) (hk:t.k=3) (hw:t.w=[109,97,120]) (hle:Im u=some le) (hlf:Im v=some lf) (hz:z.k=2) :
  Ad 160 (rdR L k e nm i j::G) [.gp 0 0] (.ret (.int .i64 ((max (le.ev i j) (lf.ev i j):Nat):Int))) (rdR L (k+1+1+1+1) e nm i j::G):=by
 obtain⟨a1,a2,a3,a4,a5,a6,a7,a8,a9,a10⟩:=Dd h;have a6:=a6 hL;have a7:=a7 hL;have a10:=a10 hL;have h2:=Dd a5;have h3:=Dd h2.nx;obtain⟨out,ho⟩:∃out,out=HOut.ret (.int .i64 ((max (le.ev i j) (lf.ev i j):Nat):Int)):=⟨_,rfl⟩
 rw [<-ho];refine Aq mixed Tryz.func160 tr160 ?_;rw [hk,hw] at a4;have hl:=l5 (e:=e) (nm:=nm) (G:=G) a5 hL hi hj hle;have hm:=l5 (e:=e) (nm:=nm) (G:=G) h2.nx hL hi hj hlf;have hn:=Ii (e:=e) (nm:=nm) (i:=i) (j:=j) (G:=G) h3.nx hL;rw [hz] at hn;unfold rdR at hl hm hn |-;simp only [go_sem,seval,a1,a2,a3,a4,a6,a7,a8,a9,a10,forall_const,q_g,bmax,bmax2];refine Ac hl ?_;simp only [go_sem,seval];refine Ac hm ?_;simp only [go_sem,seval];refine Ac hn ?_;simp only [go_sem,seval];subst ho;simp only [go_sem,seval];congr 1;split<;>omega
theorem Nv {α:Type} {x y:α} {l r:List Tok} (h:Od x l=some (y,r)):∃t,l=t::r/\t.k=2/\x=y:=by
 unfold Od at h;split at h
 ·split at h
  ·rename_i hk;simp only [q_b,Prod.mk.injEq] at h;exact⟨_,by rw [h.2],hk,h.1⟩
  ·cases h
 ·cases h
theorem Ar {L:List Tok} {k:Nat} {t:Tok} {r:List Tok} (h:L.drop k=t::r):L.drop (k+1)=r:=(Dd h).nx
theorem Aca {L:List Tok} {k e i j:Nat} {nm:SV} {G:List (List SV)} {ts r:List Tok} {le:LE} (h:L.drop k=ts) (hL:L.length<1000000000000) (hi:i<1000) (hj:j<1000) (hle:Nz ts=some (le,r)) :
  ∃k',L.drop k'=r/\Ad 156 (rdR L k e nm i j::G) [.gp 0 0] (.ret (.int .i64 (le.ev i j))) (rdR L k' e nm i j::G):=by
 cases ts with
 |nil=>cases hle
 |cons t ts=>
 unfold Nz at hle;dsimp only at hle;split at hle
 ·rename_i hk;have key:∀(k':Nat),Ad 160 (rdR L (k+1) e nm i j::G) [.gp 0 0] (.ret (.int .i64 (le.ev i j))) (rdR L k' e nm i j::G)->(le.ev i j<=1000) ->
    Ad 156 (rdR L k e nm i j::G) [.gp 0 0] (.ret (.int .i64 (le.ev i j))) (rdR L k' e nm i j::G):=by
   intro k' hm hb;obtain⟨a1,a2,a3,a4,a5,a6,a7,a8,a9,a10⟩:=Dd h;have a6:=a6 hL;have a7:=a7 hL;have a10:=a10 hL;have i1:¬(le.ev i j:Int) > 1000:=by omega
   have i2:¬1000<(le.ev i j:Int):=by omega
   obtain⟨out,ho⟩:∃out,out=HOut.ret (.int .i64 (le.ev i j)):=⟨_,rfl⟩
   rw [<-ho];refine Aq mixed Tryz.func156 tr156 ?_;rw [hk] at a4;unfold rdR at hm |-;simp only [go_sem,seval,a1,a2,a3,a4,a6,a7,a8,a9,a10,forall_const,q_g];refine Ac hm ?_;simp only [go_sem,seval,i1,i2];subst ho;simp only [go_sem,seval]
  have Nk:=Ar h
  match ts,hle with
  |[],hle=>cases hle
  |[u],hle=>cases hle
  |u::x::r1,hle=>
   dsimp only at hle;split at hle
   ·rename_i hu;split at hle
    ·rename_i hs;have hs:u.w=[115,117,99]:=by simpa using hs
     split at hle
     ·rename_i hx;obtain⟨z,Cd,Dn,Nl⟩:=Nv hle;subst Nl Cd;exact⟨_,Ar (Ar (Ar Nk)),key _ (Ai5 Nk hL hi hj hu hs hx Dn hi) (by simp only [LE.ev];omega)⟩
     ·rename_i hx;obtain⟨z,Cd,Dn,Nl⟩:=Nv hle;subst Nl Cd;exact⟨_,Ar (Ar (Ar Nk)),key _ (Ai5 Nk hL hi hj hu hs hx Dn hj) (by simp only [LE.ev];omega)⟩
     ·cases hle
    ·split at hle
     ·rename_i hs;have hs:u.w=[109,97,120]:=by simpa using hs
      match r1,hle with
      |[],hle=>cases hle
      |y::r2,hle=>
       dsimp only at hle;split at hle
       ·rename_i hx hy;obtain⟨z,Cd,Dn,Nl⟩:=Nv hle;subst Nl Cd;exact⟨_,Ar (Ar (Ar (Ar Nk))),key _ (A3k Nk hL hi hj hu hs hx hy Dn) (by simp only [LE.ev];omega)⟩
       ·cases hle
     ·cases hle
   ·cases hle
 ·cases ha:Im t with
  |none=>rw [ha] at hle;cases hle
  |some le'=>
   rw [ha] at hle;simp only [Option.map_some,q_b,Prod.mk.injEq] at hle;obtain⟨rfl,rfl⟩:=hle;exact⟨_,Ar h,l5 h hL hi hj ha⟩
theorem Ayr:Con 151 [.str (bs [115,111,114,116])] (.tup [.int .i64 1,.str (bs [76])]):=by
 refine Al mixed Tryz.func151 tr151 ?_;simp only [go_sem,seval,(show (([115,111,114,116]:By)==[115,111,114,116])=true by decide)]
theorem At2:Con 155 [.str (bs [80,105])] (.tup [.int .i64 13,.str (bs [120,116,98])]):=by
 refine Al mixed Tryz.func155 tr155 ?_;simp only [go_sem,seval,(show (([80,105]:By)==[80,105])=true by decide)]
theorem Bbr:Con 151 [.str (bs [80,105])] (.tup [.int .i64 13,.str (bs [120,116,98])]):=by
 refine Al mixed Tryz.func151 tr151 ?_;simp only [go_sem,seval,(show (([80,105]:By)==[115,111,114,116])=false by decide),(show (([80,105]:By)==[112,105])=false by decide),(show (([80,105]:By)==[108,97,109])=false by decide),(show (([80,105]:By)==[97,112,112])=false by decide),(show (([80,105]:By)==[115,105,103])=false by decide),(show (([80,105]:By)==[112,97,105,114])=false by decide),(show (([80,105]:By)==[102,115,116])=false by decide),(show (([80,105]:By)==[115,110,100])=false by decide),(show (([80,105]:By)==[101,113])=false by decide),(show (([80,105]:By)==[114,101,102,108])=false by decide),(show (([80,105]:By)==[116,114])=false by decide)];refine Aa At2 ?_;simp only [go_sem,seval]
theorem A3i:Con 155 [.str (bs [76,97,109])] (.tup [.int .i64 14,.str (bs [120,116,98])]):=by
 refine Al mixed Tryz.func155 tr155 ?_;simp only [go_sem,seval,(show (([76,97,109]:By)==[80,105])=false by decide),(show (([76,97,109]:By)==[76,97,109])=true by decide)]
theorem A9t:Con 151 [.str (bs [76,97,109])] (.tup [.int .i64 14,.str (bs [120,116,98])]):=by
 refine Al mixed Tryz.func151 tr151 ?_;simp only [go_sem,seval,(show (([76,97,109]:By)==[115,111,114,116])=false by decide),(show (([76,97,109]:By)==[112,105])=false by decide),(show (([76,97,109]:By)==[108,97,109])=false by decide),(show (([76,97,109]:By)==[97,112,112])=false by decide),(show (([76,97,109]:By)==[115,105,103])=false by decide),(show (([76,97,109]:By)==[112,97,105,114])=false by decide),(show (([76,97,109]:By)==[102,115,116])=false by decide),(show (([76,97,109]:By)==[115,110,100])=false by decide),(show (([76,97,109]:By)==[101,113])=false by decide),(show (([76,97,109]:By)==[114,101,102,108])=false by decide),(show (([76,97,109]:By)==[116,114])=false by decide)];refine Aa A3i ?_;simp only [go_sem,seval]
theorem Aw2:Con 155 [.str (bs [65,112,112])] (.tup [.int .i64 15,.str (bs [116,116])]):=by
 refine Al mixed Tryz.func155 tr155 ?_;simp only [go_sem,seval,(show (([65,112,112]:By)==[80,105])=false by decide),(show (([65,112,112]:By)==[76,97,109])=false by decide),(show (([65,112,112]:By)==[65,112,112])=true by decide)]
theorem Bec:Con 151 [.str (bs [65,112,112])] (.tup [.int .i64 15,.str (bs [116,116])]):=by
 refine Al mixed Tryz.func151 tr151 ?_;simp only [go_sem,seval,(show (([65,112,112]:By)==[115,111,114,116])=false by decide),(show (([65,112,112]:By)==[112,105])=false by decide),(show (([65,112,112]:By)==[108,97,109])=false by decide),(show (([65,112,112]:By)==[97,112,112])=false by decide),(show (([65,112,112]:By)==[115,105,103])=false by decide),(show (([65,112,112]:By)==[112,97,105,114])=false by decide),(show (([65,112,112]:By)==[102,115,116])=false by decide),(show (([65,112,112]:By)==[115,110,100])=false by decide),(show (([65,112,112]:By)==[101,113])=false by decide),(show (([65,112,112]:By)==[114,101,102,108])=false by decide),(show (([65,112,112]:By)==[116,114])=false by decide)];refine Aa Aw2 ?_;simp only [go_sem,seval]
theorem Au7:Con 155 [.str (bs [83,105,103])] (.tup [.int .i64 16,.str (bs [120,116,98])]):=by
 refine Al mixed Tryz.func155 tr155 ?_;simp only [go_sem,seval,(show (([83,105,103]:By)==[80,105])=false by decide),(show (([83,105,103]:By)==[76,97,109])=false by decide),(show (([83,105,103]:By)==[65,112,112])=false by decide),(show (([83,105,103]:By)==[83,105,103])=true by decide)]
theorem A4c:Con 151 [.str (bs [83,105,103])] (.tup [.int .i64 16,.str (bs [120,116,98])]):=by
 refine Al mixed Tryz.func151 tr151 ?_;simp only [go_sem,seval,(show (([83,105,103]:By)==[115,111,114,116])=false by decide),(show (([83,105,103]:By)==[112,105])=false by decide),(show (([83,105,103]:By)==[108,97,109])=false by decide),(show (([83,105,103]:By)==[97,112,112])=false by decide),(show (([83,105,103]:By)==[115,105,103])=false by decide),(show (([83,105,103]:By)==[112,97,105,114])=false by decide),(show (([83,105,103]:By)==[102,115,116])=false by decide),(show (([83,105,103]:By)==[115,110,100])=false by decide),(show (([83,105,103]:By)==[101,113])=false by decide),(show (([83,105,103]:By)==[114,101,102,108])=false by decide),(show (([83,105,103]:By)==[116,114])=false by decide)];refine Aa Au7 ?_;simp only [go_sem,seval]
theorem Bbg:Con 155 [.str (bs [80,97,105,114])] (.tup [.int .i64 17,.str (bs [120,116,98,116,116])]):=by
 refine Al mixed Tryz.func155 tr155 ?_;simp only [go_sem,seval,(show (([80,97,105,114]:By)==[80,105])=false by decide),(show (([80,97,105,114]:By)==[76,97,109])=false by decide),(show (([80,97,105,114]:By)==[65,112,112])=false by decide),(show (([80,97,105,114]:By)==[83,105,103])=false by decide),(show (([80,97,105,114]:By)==[80,97,105,114])=true by decide)]
theorem Axl:Con 151 [.str (bs [80,97,105,114])] (.tup [.int .i64 17,.str (bs [120,116,98,116,116])]):=by
 refine Al mixed Tryz.func151 tr151 ?_;simp only [go_sem,seval,(show (([80,97,105,114]:By)==[115,111,114,116])=false by decide),(show (([80,97,105,114]:By)==[112,105])=false by decide),(show (([80,97,105,114]:By)==[108,97,109])=false by decide),(show (([80,97,105,114]:By)==[97,112,112])=false by decide),(show (([80,97,105,114]:By)==[115,105,103])=false by decide),(show (([80,97,105,114]:By)==[112,97,105,114])=false by decide),(show (([80,97,105,114]:By)==[102,115,116])=false by decide),(show (([80,97,105,114]:By)==[115,110,100])=false by decide),(show (([80,97,105,114]:By)==[101,113])=false by decide),(show (([80,97,105,114]:By)==[114,101,102,108])=false by decide),(show (([80,97,105,114]:By)==[116,114])=false by decide)];refine Aa Bbg ?_;simp only [go_sem,seval]
theorem Bbh:Con 155 [.str (bs [70,115,116])] (.tup [.int .i64 18,.str (bs [116])]):=by
 refine Al mixed Tryz.func155 tr155 ?_;simp only [go_sem,seval,(show (([70,115,116]:By)==[80,105])=false by decide),(show (([70,115,116]:By)==[76,97,109])=false by decide),(show (([70,115,116]:By)==[65,112,112])=false by decide),(show (([70,115,116]:By)==[83,105,103])=false by decide),(show (([70,115,116]:By)==[80,97,105,114])=false by decide),(show (([70,115,116]:By)==[70,115,116])=true by decide)]
theorem Ayn:Con 151 [.str (bs [70,115,116])] (.tup [.int .i64 18,.str (bs [116])]):=by
 refine Al mixed Tryz.func151 tr151 ?_;simp only [go_sem,seval,(show (([70,115,116]:By)==[115,111,114,116])=false by decide),(show (([70,115,116]:By)==[112,105])=false by decide),(show (([70,115,116]:By)==[108,97,109])=false by decide),(show (([70,115,116]:By)==[97,112,112])=false by decide),(show (([70,115,116]:By)==[115,105,103])=false by decide),(show (([70,115,116]:By)==[112,97,105,114])=false by decide),(show (([70,115,116]:By)==[102,115,116])=false by decide),(show (([70,115,116]:By)==[115,110,100])=false by decide),(show (([70,115,116]:By)==[101,113])=false by decide),(show (([70,115,116]:By)==[114,101,102,108])=false by decide),(show (([70,115,116]:By)==[116,114])=false by decide)];refine Aa Bbh ?_;simp only [go_sem,seval]
theorem A0m:Con 155 [.str (bs [83,110,100])] (.tup [.int .i64 19,.str (bs [116])]):=by
 refine Al mixed Tryz.func155 tr155 ?_;simp only [go_sem,seval,(show (([83,110,100]:By)==[80,105])=false by decide),(show (([83,110,100]:By)==[76,97,109])=false by decide),(show (([83,110,100]:By)==[65,112,112])=false by decide),(show (([83,110,100]:By)==[83,105,103])=false by decide),(show (([83,110,100]:By)==[80,97,105,114])=false by decide),(show (([83,110,100]:By)==[70,115,116])=false by decide),(show (([83,110,100]:By)==[83,110,100])=true by decide)]
theorem Azw:Con 151 [.str (bs [83,110,100])] (.tup [.int .i64 19,.str (bs [116])]):=by
 refine Al mixed Tryz.func151 tr151 ?_;simp only [go_sem,seval,(show (([83,110,100]:By)==[115,111,114,116])=false by decide),(show (([83,110,100]:By)==[112,105])=false by decide),(show (([83,110,100]:By)==[108,97,109])=false by decide),(show (([83,110,100]:By)==[97,112,112])=false by decide),(show (([83,110,100]:By)==[115,105,103])=false by decide),(show (([83,110,100]:By)==[112,97,105,114])=false by decide),(show (([83,110,100]:By)==[102,115,116])=false by decide),(show (([83,110,100]:By)==[115,110,100])=false by decide),(show (([83,110,100]:By)==[101,113])=false by decide),(show (([83,110,100]:By)==[114,101,102,108])=false by decide),(show (([83,110,100]:By)==[116,114])=false by decide)];refine Aa A0m ?_;simp only [go_sem,seval]
theorem Atr:Con 155 [.str (bs [69,113])] (.tup [.int .i64 20,.str (bs [116,116,116])]):=by
 refine Al mixed Tryz.func155 tr155 ?_;simp only [go_sem,seval,(show (([69,113]:By)==[80,105])=false by decide),(show (([69,113]:By)==[76,97,109])=false by decide),(show (([69,113]:By)==[65,112,112])=false by decide),(show (([69,113]:By)==[83,105,103])=false by decide),(show (([69,113]:By)==[80,97,105,114])=false by decide),(show (([69,113]:By)==[70,115,116])=false by decide),(show (([69,113]:By)==[83,110,100])=false by decide),(show (([69,113]:By)==[69,113])=true by decide)]
theorem Asy:Con 151 [.str (bs [69,113])] (.tup [.int .i64 20,.str (bs [116,116,116])]):=by
 refine Al mixed Tryz.func151 tr151 ?_;simp only [go_sem,seval,(show (([69,113]:By)==[115,111,114,116])=false by decide),(show (([69,113]:By)==[112,105])=false by decide),(show (([69,113]:By)==[108,97,109])=false by decide),(show (([69,113]:By)==[97,112,112])=false by decide),(show (([69,113]:By)==[115,105,103])=false by decide),(show (([69,113]:By)==[112,97,105,114])=false by decide),(show (([69,113]:By)==[102,115,116])=false by decide),(show (([69,113]:By)==[115,110,100])=false by decide),(show (([69,113]:By)==[101,113])=false by decide),(show (([69,113]:By)==[114,101,102,108])=false by decide),(show (([69,113]:By)==[116,114])=false by decide)];refine Aa Atr ?_;simp only [go_sem,seval]
theorem Ao2:Con 155 [.str (bs [82,101,102,108])] (.tup [.int .i64 21,.str (bs [116,116])]):=by
 refine Al mixed Tryz.func155 tr155 ?_;simp only [go_sem,seval,(show (([82,101,102,108]:By)==[80,105])=false by decide),(show (([82,101,102,108]:By)==[76,97,109])=false by decide),(show (([82,101,102,108]:By)==[65,112,112])=false by decide),(show (([82,101,102,108]:By)==[83,105,103])=false by decide),(show (([82,101,102,108]:By)==[80,97,105,114])=false by decide),(show (([82,101,102,108]:By)==[70,115,116])=false by decide),(show (([82,101,102,108]:By)==[83,110,100])=false by decide),(show (([82,101,102,108]:By)==[69,113])=false by decide),(show (([82,101,102,108]:By)==[82,101,102,108])=true by decide)]
theorem A2d:Con 151 [.str (bs [82,101,102,108])] (.tup [.int .i64 21,.str (bs [116,116])]):=by
 refine Al mixed Tryz.func151 tr151 ?_;simp only [go_sem,seval,(show (([82,101,102,108]:By)==[115,111,114,116])=false by decide),(show (([82,101,102,108]:By)==[112,105])=false by decide),(show (([82,101,102,108]:By)==[108,97,109])=false by decide),(show (([82,101,102,108]:By)==[97,112,112])=false by decide),(show (([82,101,102,108]:By)==[115,105,103])=false by decide),(show (([82,101,102,108]:By)==[112,97,105,114])=false by decide),(show (([82,101,102,108]:By)==[102,115,116])=false by decide),(show (([82,101,102,108]:By)==[115,110,100])=false by decide),(show (([82,101,102,108]:By)==[101,113])=false by decide),(show (([82,101,102,108]:By)==[114,101,102,108])=false by decide),(show (([82,101,102,108]:By)==[116,114])=false by decide)];refine Aa Ao2 ?_;simp only [go_sem,seval]
theorem Ase:Con 155 [.str (bs [74])] (.tup [.int .i64 22,.str (bs [116,116,121,101,80,116,116,116])]):=by
 refine Al mixed Tryz.func155 tr155 ?_;simp only [go_sem,seval,(show (([74]:By)==[80,105])=false by decide),(show (([74]:By)==[76,97,109])=false by decide),(show (([74]:By)==[65,112,112])=false by decide),(show (([74]:By)==[83,105,103])=false by decide),(show (([74]:By)==[80,97,105,114])=false by decide),(show (([74]:By)==[70,115,116])=false by decide),(show (([74]:By)==[83,110,100])=false by decide),(show (([74]:By)==[69,113])=false by decide),(show (([74]:By)==[82,101,102,108])=false by decide),(show (([74]:By)==[74])=true by decide)]
theorem A8r:Con 151 [.str (bs [74])] (.tup [.int .i64 22,.str (bs [116,116,121,101,80,116,116,116])]):=by
 refine Al mixed Tryz.func151 tr151 ?_;simp only [go_sem,seval,(show (([74]:By)==[115,111,114,116])=false by decide),(show (([74]:By)==[112,105])=false by decide),(show (([74]:By)==[108,97,109])=false by decide),(show (([74]:By)==[97,112,112])=false by decide),(show (([74]:By)==[115,105,103])=false by decide),(show (([74]:By)==[112,97,105,114])=false by decide),(show (([74]:By)==[102,115,116])=false by decide),(show (([74]:By)==[115,110,100])=false by decide),(show (([74]:By)==[101,113])=false by decide),(show (([74]:By)==[114,101,102,108])=false by decide),(show (([74]:By)==[116,114])=false by decide)];refine Aa Ase ?_;simp only [go_sem,seval]
theorem Ary:Con 155 [.str (bs [117,115,101])] (.tup [.int .i64 23,.str (bs [83,76,77])]):=by
 refine Al mixed Tryz.func155 tr155 ?_;simp only [go_sem,seval,(show (([117,115,101]:By)==[80,105])=false by decide),(show (([117,115,101]:By)==[76,97,109])=false by decide),(show (([117,115,101]:By)==[65,112,112])=false by decide),(show (([117,115,101]:By)==[83,105,103])=false by decide),(show (([117,115,101]:By)==[80,97,105,114])=false by decide),(show (([117,115,101]:By)==[70,115,116])=false by decide),(show (([117,115,101]:By)==[83,110,100])=false by decide),(show (([117,115,101]:By)==[69,113])=false by decide),(show (([117,115,101]:By)==[82,101,102,108])=false by decide),(show (([117,115,101]:By)==[74])=false by decide),(show (([117,115,101]:By)==[117,115,101])=true by decide)]
theorem Aq6:Con 151 [.str (bs [117,115,101])] (.tup [.int .i64 23,.str (bs [83,76,77])]):=by
 refine Al mixed Tryz.func151 tr151 ?_;simp only [go_sem,seval,(show (([117,115,101]:By)==[115,111,114,116])=false by decide),(show (([117,115,101]:By)==[112,105])=false by decide),(show (([117,115,101]:By)==[108,97,109])=false by decide),(show (([117,115,101]:By)==[97,112,112])=false by decide),(show (([117,115,101]:By)==[115,105,103])=false by decide),(show (([117,115,101]:By)==[112,97,105,114])=false by decide),(show (([117,115,101]:By)==[102,115,116])=false by decide),(show (([117,115,101]:By)==[115,110,100])=false by decide),(show (([117,115,101]:By)==[101,113])=false by decide),(show (([117,115,101]:By)==[114,101,102,108])=false by decide),(show (([117,115,101]:By)==[116,114])=false by decide)];refine Aa Ary ?_;simp only [go_sem,seval]
theorem Acf {w:By} {k:Nat} {s:By}:∀{l:List (By×Nat×By)},Re w l=some (k,s)->(w,k,s)∈l:=by
 intro l
 induction l with
 |nil=>intro h;cases h
 |cons a l ih=>
  intro h;obtain⟨v,k',s'⟩:=a;rw [Re] at h;split at h
  ·rename_i hv;cases h;have:v=w:=by simpa using hv
   subst this;exact List.mem_cons_self
  ·exact List.mem_cons_of_mem _ (ih h)
theorem Awk {w:By} {k:Nat} {s:By} (h:Re w Rh=some (k,s)):Con 151 [.str (bs w)] (.tup [.int .i64 k,.str (bs s)]):=by
 have:=Acf h;simp only [Rh,List.mem_cons,List.not_mem_nil,or_false,Prod.mk.injEq] at this;rcases this with⟨rfl,rfl,rfl⟩|⟨rfl,rfl,rfl⟩|⟨rfl,rfl,rfl⟩|⟨rfl,rfl,rfl⟩|⟨rfl,rfl,rfl⟩|⟨rfl,rfl,rfl⟩|⟨rfl,rfl,rfl⟩|⟨rfl,rfl,rfl⟩|⟨rfl,rfl,rfl⟩|⟨rfl,rfl,rfl⟩|⟨rfl,rfl,rfl⟩|⟨rfl,rfl,rfl⟩
 ·exact Ayr
 ·exact Bbr
 ·exact A9t
 ·exact Bec
 ·exact A4c
 ·exact Axl
 ·exact Ayn
 ·exact Azw
 ·exact Asy
 ·exact A2d
 ·exact A8r
 ·exact Aq6
theorem Sh {w:By}:∀{l:List By} {n:Nat},Jq w l=some n->l[n]?=some w/\∀m,m<n->∃v,l[m]?=some v/\(v==w)=false:=by
 intro l
 induction l with
 |nil=>intro n h;cases h
 |cons a l ih=>
  intro n h;rw [Jq] at h;split at h
  ·rename_i hv;cases h;have:a=w:=by simpa using hv
   subst this;exact⟨rfl,fun m hm=>by omega⟩
  ·rename_i hv;cases hq:Jq w l with
   |none=>rw [hq] at h;cases h
   |some q=>
    rw [hq,Option.map_some,q_b] at h;subst h;obtain⟨h1,h2⟩:=ih hq;refine⟨by simpa using h1,fun m hm=>?_⟩;cases m with
    |zero=>exact⟨a,rfl,by simpa using hv⟩
    |succ m=>
     obtain⟨v,h3,h4⟩:=h2 m (by omega);exact⟨v,by simpa using h3,h4⟩
def wdR (w:By):List SV:=[.str (bs w)]
theorem Aqp:Con 161 [] (.dsl 1 (symsL.map wdR)):=by
 refine Al mixed Tryz.func161 tr161 ?_;simp only [go_sem,seval,symsL,q_h,q_i,wdR]
theorem Bfk {w:By} {n:Nat} (h:Jq w symsL=some n):Con 158 [.str (bs w)] (.int .i64 ((n+1:Nat):Int)):=by
 obtain⟨h1,h2⟩:=Sh h;have Aj:symsL.length=21:=rfl;have hn:=(List.getElem?_eq_some_iff.1 h1).1;refine Al mixed Tryz.func158 tr158 ?_;simp only [go_sem,seval];refine Aa Aqp ?_;have Br:∀(m:Nat) v,symsL[m]?=some v->(symsL.map wdR)[m]?.getD []=[.str (bs v)]:=fun m v hv=>by rw [List.getElem?_map,hv];rfl
 generalize symsL=l at *
 simp only [go_sem,seval,q_g,Aj];intros;refine Ig (fun x=>⟨(.str (bs w)::.jk::.int .i64 0::.jk::.jk::.dsl 1 (l.map wdR)::.int .i64 21::.int .i64 x::.jk::.jk::.jk::.jk::.jk::.jk::.jk::.jk::.jk::.jk::[]),[]⟩) n (fun x hx=>?_) ?_
 ·have e0:(0:Int)<=(x:Int):=by omega
  have e1:(x:Int)<21:=by omega
  have e2:x<21:=by omega
  by_cases Ab:x<n
  ·obtain⟨v,h3,h4⟩:=h2 x Ab;simp only [go_sem,seval,decide_eq_true e1,e0,e1,e2,q_g,Aj,Br x v h3,h4,w64 (show fit ((x:Int)+1) by unfold fit;omega)];refine⟨Ab,?_⟩;exact As (by simp [Ao])
  ·have:x=n:=by omega
   subst this;simp only [go_sem,seval,decide_eq_true e1,e0,e1,e2,q_g,Aj,Br x w h1,beq_self_eq_true,w64 (show fit ((x:Int)+1) by unfold fit;omega)];rfl
 ·exact As (by simp [Ao])
end Go.Proofs.YtdpigpopcbjkmaaGreatDoor.Abs
