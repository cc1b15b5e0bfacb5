import Derived.Test.YtdpigpopcbjkmaaGreatDoorXAfB
import Derived.Test.YtdpigpopcbjkmaaGreatDoorXFg
import Derived.Test.YtdpigpopcbjkmaaGreatDoorXAfC
set_option linter.unusedSimpArgs false
set_option linter.unusedVariables false
set_option maxRecDepth 20000
set_option maxHeartbeats 4000000
namespace Go.Proofs.YtdpigpopcbjkmaaGreatDoor.Abs
open Go Go.RowKit Go.Proofs.YtdpigpopcbjkmaaGreatDoor
abbrev Ad(f:Nat)(G:GV)(args:List SV)(out:HOut)(G':GV):Prop:=HContract Tryz.prog f G args out G'
def Aw:List Nat->SV
 |[]=>.nilp
 |h::t=>.dref 3 [.gp h 0,Aw t,.int .i64 ((t.length:Int)+1)] 0
theorem Xr:Aw []=.nilp:=rfl
theorem s9{h:Nat}{t:List Nat}:Aw (h::t)=.dref 3 [.gp h 0,Aw t,.int .i64 ((t.length:Int)+1)] 0:=q_z
theorem Tg(e:List Nat){hp:List Ob}:Bx hp (Aw e)=some (Aw e,hp)/\Bo hp (Aw e)=some (Aw e,hp)/\Bv hp (Aw e)=[]/\Bf (Aw e)=[]/\(Aw e).closed=true/\(Aw e).ok=true/\cellsOf (Aw e)=[Aw e]:=by
 cases e<;>exact⟨rfl,rfl,rfl,rfl,rfl,rfl,rfl⟩
theorem Ax1{e:List Nat}{hp:List Ob}:Bx hp (Aw e)=some (Aw e,hp):=(Tg e).1
theorem Axy{e:List Nat}{hp:List Ob}:Bo hp (Aw e)=some (Aw e,hp):=(Tg e).2.1
theorem Ax3{e:List Nat}{hp:List Ob}:Bv hp (Aw e)=[]:=(Tg e).2.2.1
theorem Ax2{e:List Nat}:Bf (Aw e)=[]:=(Tg (hp:=[]) e).2.2.2.1
theorem Ax0{e:List Nat}:(Aw e).closed=true:=(Tg (hp:=[]) e).2.2.2.2.1
theorem Ax4{e:List Nat}:(Aw e).ok=true:=(Tg (hp:=[]) e).2.2.2.2.2.1
theorem Axz{e:List Nat}:cellsOf (Aw e)=[Aw e]:=(Tg (hp:=[]) e).2.2.2.2.2.2
attribute [go_sem] Ax1 Axy Ax3 Ax2 Ax0 Ax4 Axz
theorem r8(e:List Nat):Con 89 [Aw e] (.int .i64 e.length):=by
 refine Al mixed Tryz.func89 tr89 ?_;cases e with
 |nil=>simp only[go_sem,seval,Xr,List.length_nil];try rfl
 |cons h t=>simp only[go_sem,seval,s9];simp
theorem Vq(e:List Nat)(i:Nat)(h:fit ((e.length:Int)+1)):Con 85 [Aw e,.gp i 0] (Aw (i::e)):=by
 refine Al mixed Tryz.func85 tr85 ?_;simp only[go_sem,seval];refine Aa (r8 e) ?_;simp only[go_sem,seval,w64 h,s9]
def Bu(steps most seen guess:Int)(j:Nat):List SV:=[.int .i64 steps,.int .i64 most,.int .i64 seen,.int .i64 guess,.mp j]
theorem Fg{G:GV}{m:Nat}{r x:List SV}(h:G[m]?=some r):(G.set m x)[m]?=some x:=by
 rw[List.getElem?_set_self];rcases Nat.lt_or_ge m G.length with h1|h1
 ·exact h1
 ·rw[List.getElem?_eq_none h1] at h;cases h
theorem v7{G:GV}{m:Nat}{r:List SV}(h:G[m]?=some r):G.set m r=G:=by
 refine List.ext_getElem? fun i=>?_
 by_cases hi:m=i
 ·subst hi;rw[Fg h,h]
 ·rw[List.getElem?_set_ne hi]
theorem Kj{α:Type}{l:List α}{i:Nat}{a b:α}:(l.set i a).set i b=l.set i b:=List.set_set ..
theorem A8s{e:List Nat}(kd:Nat)(op:BinOp):Dv kd op (Aw e) .nilp=if kd=2 then eqB op e.isEmpty else none:=by cases e<;>rfl
attribute [go_sem] A8s
theorem Ac3(e:List Nat)(k:Nat)(hk:fit k):Con 88 [Aw e,.int .i64 k] (match e[k]? with|some i=>.gp i 0|none=>.nilp):=by
 refine Al mixed Tryz.func88 tr88 ?_;simp only[go_sem,seval];refine Aa (r8 e) ?_
 by_cases h:k<e.length
 ·simp only[go_sem,seval,decide_eq_false (show ¬(k:Int) >= e.length by omega),q_f h];refine Jj (fun i=>⟨(Aw (e.drop i)::.int .i64 ((k-i:Nat):Int)::.J::.J::.nilp::.J::.J::.J::.J::.J::.J::.J::.J::.J::.J::.J::.J::.J::.J::.J::.J::[]),[]⟩) k (fun i hi=>?_) ?_
  ·by_cases Yr:k-i > 0
   ·have hd:e.drop i=e[i]::e.drop (i+1):=by rw[List.drop_eq_getElem_cons (by omega)]
    simp only[go_sem,seval,decide_eq_true (show ((k-i:Nat):Int) > 0 by omega),hd,s9,w64 (show fit (((k-i:Nat):Int)-1) by unfold fit at hk |-;omega)];refine⟨by omega,?_⟩;rw[show ((k-i:Nat):Int)-1=((k-(i+1):Nat):Int) by omega];exact Au (by simp[An])
   ·have hik:i=k:=by omega
    subst hik;have hd:e.drop i=e[i]::e.drop (i+1):=by rw[List.drop_eq_getElem_cons (by omega)]
    simp only[go_sem,seval,decide_eq_false Yr,decide_eq_false (show ¬((i-i:Nat):Int) > 0 by omega),hd,s9]
  ·simp only[List.drop_zero,Nat.sub_zero];exact Au (by simp[An])
 ·simp only[go_sem,seval,decide_eq_true (show (k:Int) >= e.length by omega),List.getElem?_eq_none (show e.length<=k by omega)]
theorem A3v{G:GV}{m j:Nat}{steps most seen guess:Int}(hG:G[m]?=some (Bu steps most seen guess j))(hg:¬guess > 0):Ad 83 G [.gp m 0] (.ret (.tup [])) G:=by
 refine Aq mixed Tryz.func83 tr83 ?_;simp only[go_sem,seval,hG,Bu,decide_eq_false hg]
def Ng(g:Int):Int:=if g > 0 then g-1 else g
theorem w8{G:GV}{m j:Nat}{steps most seen guess:Int}(hG:G[m]?=some (Bu steps most seen guess j))(hf:fit guess)(hg:guess≠1):Ad 83 G [.gp m 0] (.ret (.tup [])) (G.set m (Bu steps most seen (Ng guess) j)):=by
 by_cases h:guess > 0
 ·refine Aq mixed Tryz.func83 tr83 ?_;simp only[go_sem,seval,hG,Bu,decide_eq_true h,w64 (show fit (guess-1) by unfold fit at hf |-;omega),Mw,Fg hG,Ag (show guess-1≠0 by omega),Ng,if_pos h]
 ·rw[show G.set m (Bu steps most seen (Ng guess) j)=G by rw[Ng,if_neg h];exact v7 hG];exact A3v hG h
theorem Ajx{G:GV}{m j:Nat}{steps most seen:Int}(hG:G[m]?=some (Bu steps most seen 1 j)):Ad 83 G [.gp m 0] (.pan (.ife 131)) (G.set m (Bu steps most seen 0 j)):=by
 refine Aq mixed Tryz.func83 tr83 ?_;simp only[go_sem,seval,hG,Bu,Mw,Fg hG];exact⟨rfl,rfl⟩
theorem Aju{G:GV}{m j:Nat}{steps most seen guess:Int}(hG:G[m]?=some (Bu steps most seen guess j))(hf:fit guess)(hg:guess≠1)(h0:0<=seen)(hs:seen<8000000) :
  Ad 58 G [.gp m 0] (.ret (.tup [])) (G.set m (Bu steps most (seen+1) (Ng guess) j)):=by
 refine Aq mixed Tryz.func58 tr58 ?_;simp only[go_sem,seval];refine Ac (w8 hG hf hg) ?_;simp only[go_sem,seval,Bu,Fg hG,Mw,Kj,w64 (show fit (seen+1) by unfold fit;omega),decide_eq_false (show ¬seen+1 > 8000000 by omega)]
theorem A3n{G:GV}{m j:Nat}{steps most seen guess:Int}(hG:G[m]?=some (Bu steps most seen guess j))(hf:fit guess)(hg:guess≠1)(hs:8000000<=seen)(Jq:fit (seen+1)) :
  Ad 58 G [.gp m 0] (.pan (.ife 75)) (G.set m (Bu steps most (seen+1) (Ng guess) j)):=by
 refine Aq mixed Tryz.func58 tr58 ?_;simp only[go_sem,seval];refine Ac (w8 hG hf hg) ?_;simp only[go_sem,seval,Bu,Fg hG,Mw,Kj,w64 Jq,decide_eq_true (show seen+1 > 8000000 by omega)];exact⟨rfl,rfl⟩
theorem Ajw{G:GV}{m j:Nat}{steps most seen guess:Int}(hG:G[m]?=some (Bu steps most seen guess j))(hf:fit guess)(hg:guess≠1)(hs:steps<most)(Jq:fit (steps+1)) :
  Ad 93 G [.gp m 0] (.ret (.tup [])) (G.set m (Bu (steps+1) most seen (Ng guess) j)):=by
 refine Aq mixed Tryz.func93 tr93 ?_;simp only[go_sem,seval];refine Ac (w8 hG hf hg) ?_;simp only[go_sem,seval,Bu,Fg hG,Mw,Kj,w64 Jq,decide_eq_false (show ¬steps >= most by omega)]
theorem A3q{G:GV}{m j:Nat}{steps most seen guess:Int}(hG:G[m]?=some (Bu steps most seen guess j))(hf:fit guess)(hg:guess≠1)(hs:¬steps<most) :
  Ad 93 G [.gp m 0] (.pan (.ife 75)) (G.set m (Bu steps most seen (Ng guess) j)):=by
 refine Aq mixed Tryz.func93 tr93 ?_;simp only[go_sem,seval];refine Ac (w8 hG hf hg) ?_;simp only[go_sem,seval,Bu,Fg hG,Mw,Kj,decide_eq_true (show steps >= most by omega)];exact⟨rfl,rfl⟩
theorem A3p{G:GV}{m j:Nat}{steps most seen:Int}(hG:G[m]?=some (Bu steps most seen 1 j)) :
  Ad 93 G [.gp m 0] (.pan (.ife 131)) (G.set m (Bu steps most seen 0 j)):=by
 refine Aq mixed Tryz.func93 tr93 ?_;simp only[go_sem,seval];exact Cs (Ajx hG) trivial ⟨rfl,rfl⟩
theorem A3m{G:GV}{m j:Nat}{steps most seen:Int}(hG:G[m]?=some (Bu steps most seen 1 j)) :
  Ad 58 G [.gp m 0] (.pan (.ife 131)) (G.set m (Bu steps most seen 0 j)):=by
 refine Aq mixed Tryz.func58 tr58 ?_;simp only[go_sem,seval];exact Cs (Ajx hG) trivial ⟨rfl,rfl⟩
theorem Yg(G:GV)(most:Int):Ad 33 G [.int .i64 most] (.ret (.gp (G.length+1) 0)) (G++[[.undef],Bu 0 most 0 0 G.length]):=by
 refine Aq mixed Tryz.func33 tr33 ?_;simp only[go_sem,seval,Bu,List.append_assoc]
structure Vl where
 k:Int
 i:Int
 j:Int
 n:Int
 level:Int
 kids:List Nat
def Dp:List Nat->SV
 |[]=>.nils
 |i::l=>.dsl 1 ([.gp i 0]::l.map fun i=>[.gp i 0])
theorem j9:Dp []=.nils:=rfl
theorem Oe{l:List Nat}(h:l≠[]):Dp l=.dsl 1 (l.map fun i=>[.gp i 0]):=by
 cases l with
 |nil=>exact absurd rfl h
 |cons i l=>rfl
def vlC(v:Vl):List SV:=[.int .i64 v.k,.int .i64 v.i,.int .i64 v.j,.int .i64 v.n,.int .i64 v.level,Dp v.kids]
def vlV(v:Vl):SV:=.dref 6 (vlC v) 0
structure Th where
 t:Tm
 env:List Nat
 bare:Bool
 w:Option Vl
 v:Option Vl
def De:Option Vl->SV
 |none=>.nilp
 |some v=>vlV v
def thT(x:Th):List SV:=if x.bare then [.int .i64 0,.int .i64 0,.int .i64 0,.int .i64 0,.nils] else tv x.t
def thR(x:Th):List SV:=thT x++[Aw x.env,.bool x.bare,De x.w,De x.v]
theorem Aox(x:Th):(thT x).length=5:=by unfold thT;split<;>simp[Af]
theorem j7{x:Th}:(thR x).length=9:=by simp[thR,Aox]
theorem Pi(x:Th):∃a b c d f,thT x=[a,b,c,d,f]:=by
 have h:=Aox x
 match thT x,h with
 |[a,b,c,d,f],_=>exact⟨a,b,c,d,f,rfl⟩
theorem Ab2{t:Tm}{e:List Nat}{w v:Option Vl}{cl:Bool}:cut cl 9 true 5 0 (thR ⟨t,e,false,w,v⟩)=.agg cl (tv t):=by simp[cut,thR,thT,Sp]
theorem Ab1{x:Th}{cl:Bool}:cut cl 9 false 1 5 (thR x)=Aw x.env:=by
 obtain⟨a,b,c,d,f,h⟩:=Pi x;simp[cut,thR,h]
theorem Af4{x:Th}{cl:Bool}:cut cl 9 false 1 6 (thR x)=.bool x.bare:=by
 obtain⟨a,b,c,d,f,h⟩:=Pi x;simp[cut,thR,h]
theorem Af5{x:Th}{cl:Bool}:cut cl 9 false 1 7 (thR x)=De x.w:=by
 obtain⟨a,b,c,d,f,h⟩:=Pi x;simp[cut,thR,h]
theorem Bgh{x:Th}{cl:Bool}:cut cl 9 false 1 8 (thR x)=De x.v:=by
 obtain⟨a,b,c,d,f,h⟩:=Pi x;simp[cut,thR,h]
theorem Aow{x:Th}{v:Vl}:Eh 9 1 7 (thR x) [vlV v]=thR { x with w:=some v }:=by
 obtain⟨a,b,c,d,f,h⟩:=Pi x;have h2:thT { x with w:=some v }=[a,b,c,d,f]:=h;simp[Eh,thR,h,h2,De]
theorem Af6{x:Th}{v:Vl}:Eh 9 1 8 (thR x) [vlV v]=thR { x with v:=some v }:=by
 obtain⟨a,b,c,d,f,h⟩:=Pi x;have h2:thT { x with v:=some v }=[a,b,c,d,f]:=h;simp[Eh,thR,h,h2,De]
theorem Bgi{x:Th}:(thR x)[5]?.getD .undef=Aw x.env:=by
 obtain⟨a,b,c,d,f,h⟩:=Pi x;simp[thR,h]
theorem Bgj{x:Th}:(thR x)[6]?.getD .undef=.bool x.bare:=by
 obtain⟨a,b,c,d,f,h⟩:=Pi x;simp[thR,h]
theorem Bgk{x:Th}:(thR x)[7]?.getD .undef=De x.w:=by
 obtain⟨a,b,c,d,f,h⟩:=Pi x;simp[thR,h]
theorem Bgl{x:Th}:(thR x)[8]?.getD .undef=De x.v:=by
 obtain⟨a,b,c,d,f,h⟩:=Pi x;simp[thR,h]
theorem Bh4{v:Vl}:(vlC v)[0]?.getD .undef=.int .i64 v.k:=q_z
theorem Bh5{v:Vl}:(vlC v)[1]?.getD .undef=.int .i64 v.i:=q_z
theorem Bh6{v:Vl}:(vlC v)[2]?.getD .undef=.int .i64 v.j:=q_z
theorem Bh7{v:Vl}:(vlC v)[3]?.getD .undef=.int .i64 v.n:=q_z
theorem Bh8{v:Vl}:(vlC v)[4]?.getD .undef=.int .i64 v.level:=q_z
theorem Bh9{v:Vl}:(vlC v)[5]?.getD .undef=Dp v.kids:=q_z
theorem Bia{v:Vl}:(vlC v).length=6:=q_z
theorem j8{x:Th}:Ec (thR x)=false:=by
 unfold thR thT;split
 ·rfl
 ·cases x.t;rw[Am];rfl
theorem Bif{v:Vl}{hp:List Ob}:Bx hp (vlV v)=some (vlV v,hp):=q_z
theorem Bic{v:Vl}{hp:List Ob}:Bo hp (vlV v)=some (vlV v,hp):=q_z
theorem Bih{v:Vl}{hp:List Ob}:Bv hp (vlV v)=[]:=q_z
theorem Big{v:Vl}:Bf (vlV v)=[]:=q_z
theorem Bie{v:Vl}:(vlV v).closed=true:=q_z
theorem Bii{v:Vl}:(vlV v).ok=true:=q_z
theorem Bid{v:Vl}:cellsOf (vlV v)=[vlV v]:=q_z
theorem Bib{v:Vl}(n:Nat):Bb n (vlV v)=true:=q_z
theorem Js{v:Vl}:De (some v)=vlV v:=q_z
theorem Us:De none=.nilp:=q_z
attribute [go_sem] Bgi Bgj Bgk Bgl Bh4 Bh5 Bh6 Bh7 Bh8 Bh9 Bia j7 Ab2 Ab1 Af4 Af5 Bgh Aow Af6 j8 Bif Bic Bih Big Bie Bii Bid Bib
theorem A1h{a b c d f c0 c1 c2 c3 c4 c5 c6 c7 c8:SV}{r:List (Nat×Nat×SV)}:fill [c0,c1,c2,c3,c4,c5,c6,c7,c8] ((0,5,.agg true [a,b,c,d,f])::r)=fill [a,b,c,d,f,c5,c6,c7,c8] r:=by
 simp[fill,Eh,cellsOf]
attribute [go_sem] A1h
theorem Px(G:GV)(t:Tm)(e:List Nat):Ad 36 G [.agg true (tv t),Aw e] (.ret (.gp G.length 0)) (G++[thR ⟨t,e,false,none,none⟩]):=by
 refine Aq mixed Tryz.func36 tr36 ?_;simp only[go_sem,seval,Sp,thR,thT,De]
def Ld(w:Option Vl)(v:Option Vl):List SV:=thR ⟨.mk 0 0 0 0 [],[],true,w,v⟩
theorem Adu(G:GV)(v:Vl):Ad 110 G [vlV v] (.ret (.gp G.length 0)) (G++[Ld (some v) none]):=by
 refine Aq mixed Tryz.func110 tr110 ?_;simp only[go_sem,seval,Ld,thR,thT,De,vlV,Xr]
theorem Adv(G:GV)(level:Int):Ad 86 G [.int .i64 level] (.ret (.gp G.length 0)) (G++[Ld (some ⟨2,0,0,0,level,[]⟩) none]):=by
 refine Aq mixed Tryz.func86 tr86 ?_;simp only[go_sem,seval];refine Ac (Adu G ⟨2,0,0,0,level,[]⟩) ?_;simp only[go_sem,seval]
theorem Ac5(k:Int):Con 92 [.int .i64 k] (.int .i64 (if k=15\/k=18\/k=19 then 0 else if k=22 then 5 else -1)):=by
 refine Al mixed Tryz.func92 tr92 ?_
 by_cases h1:k=15
 ·subst h1;simp only[go_sem,seval]
 by_cases h2:k=18
 ·subst h2;simp only[go_sem,seval]
 by_cases h3:k=19
 ·subst h3;simp only[go_sem,seval]
 by_cases h4:k=22
 ·subst h4;simp only[go_sem,seval]
 simp only[go_sem,seval,Ag h1,Ag h2,Ag h3,Ag h4,h1,h2,h3,h4,or_self,if_false]
theorem Ur(y:Option Vl){hp:List Ob}:Bx hp (De y)=some (De y,hp)/\Bo hp (De y)=some (De y,hp)/\Bv hp (De y)=[]/\Bf (De y)=[]/\(De y).closed=true/\(De y).ok=true/\cellsOf (De y)=[De y]:=by
 cases y<;>exact⟨rfl,rfl,rfl,rfl,rfl,rfl,rfl⟩
theorem Bas{e:Option Vl}{hp:List Ob}:Bx hp (De e)=some (De e,hp):=(Ur e).1
theorem Bap{e:Option Vl}{hp:List Ob}:Bo hp (De e)=some (De e,hp):=(Ur e).2.1
theorem Bau{e:Option Vl}{hp:List Ob}:Bv hp (De e)=[]:=(Ur e).2.2.1
theorem Bat{e:Option Vl}:Bf (De e)=[]:=(Ur (hp:=[]) e).2.2.2.1
theorem Bar{e:Option Vl}:(De e).closed=true:=(Ur (hp:=[]) e).2.2.2.2.1
theorem Baw{e:Option Vl}:(De e).ok=true:=(Ur (hp:=[]) e).2.2.2.2.2.1
theorem Baq{e:Option Vl}:cellsOf (De e)=[De e]:=(Ur (hp:=[]) e).2.2.2.2.2.2
theorem Bav{e:Option Vl}(kd:Nat)(op:BinOp):Dv kd op (De e) .nilp=if kd=2 then eqB op e.isNone else none:=by cases e<;>rfl
theorem Va(l:List Nat){hp:List Ob}:Bx hp (Dp l)=some (Dp l,hp)/\Bo hp (Dp l)=some (Dp l,hp)/\Bv hp (Dp l)=[]/\Bf (Dp l)=[]/\(Dp l).closed=true/\(Dp l).ok=true/\cellsOf (Dp l)=[Dp l]:=by
 cases l<;>exact⟨rfl,rfl,rfl,rfl,rfl,rfl,rfl⟩
theorem Bgp{e:List Nat}{hp:List Ob}:Bx hp (Dp e)=some (Dp e,hp):=(Va e).1
theorem Bgm{e:List Nat}{hp:List Ob}:Bo hp (Dp e)=some (Dp e,hp):=(Va e).2.1
theorem Bgr{e:List Nat}{hp:List Ob}:Bv hp (Dp e)=[]:=(Va e).2.2.1
theorem Bgq{e:List Nat}:Bf (Dp e)=[]:=(Va (hp:=[]) e).2.2.2.1
theorem Bgo{e:List Nat}:(Dp e).closed=true:=(Va (hp:=[]) e).2.2.2.2.1
theorem Bgs{e:List Nat}:(Dp e).ok=true:=(Va (hp:=[]) e).2.2.2.2.2.1
theorem Bgn{e:List Nat}:cellsOf (Dp e)=[Dp e]:=(Va (hp:=[]) e).2.2.2.2.2.2
attribute [go_sem] Bas Bap Bau Bat Bar Baw Baq Bav Bgp Bgm Bgr Bgq Bgo Bgs Bgn
theorem Ag7(n:Nat)(e:List Nat):Bb n (Aw e)=true:=by cases e<;>rfl
theorem Aqq(n:Nat)(e:Option Vl):Bb n (De e)=true:=by cases e<;>rfl
theorem Aqr(n:Nat)(e:List Nat):Bb n (Dp e)=true:=by cases e<;>rfl
attribute [go_sem] Ag7 Aqq Aqr
def Wu(k:Int)(y:Option Vl)(e:List Nat)(i:Nat)(kid:Tm):List SV:=if (i:Int)=k then Ld y none else thR ⟨kid,e,false,none,none⟩
def Fr(k:Int)(y:Option Vl)(e:List Nat):Nat->List Tm->GV
 |_,[]=>[]
 |i,x::l=>Wu k y e i x::Fr k y e (i+1) l
theorem A9e(k:Int)(y:Option Vl)(e:List Nat):∀(a b:List Tm) (i:Nat),Fr k y e i (a++b)=Fr k y e i a++Fr k y e (i+a.length) b:=by
 intro a
 induction a with
 |nil=>intro b i;simp[Fr]
 |cons x a ih=>intro b i;simp only[List.cons_append,Fr,ih,List.length_cons];rw[show i+1+a.length=i+(a.length+1) by omega]
theorem A9f(k:Int)(y:Option Vl)(e:List Nat):∀(a:List Tm) (i:Nat),(Fr k y e i a).length=a.length:=by
 intro a
 induction a with
 |nil=>intro i;rfl
 |cons x a ih=>intro i;simp[Fr,ih]
theorem Aqs{a b:Int}(h:a=b):(a==b)=true:=by simpa using h
theorem A3b{G:GV}{m:Nat}(k' i' j' n':Int)(l:List Tm)(hb:l.length*56<=140737488355328)(hz:l≠[])(e:List Nat)(k:Int)(y:Option Vl)(hy:∀q:Nat,q<l.length->(q:Int)=k->∃v,y=some v) :
  Ad 111 G [.gp m 0,.agg true (tv (.mk k' i' j' n' l)),Aw e,.int .i64 k,De y] (.ret (vlV ⟨k',i',j',n',0,List.range' G.length l.length⟩)) (G++Fr k y e 0 l):=by
 refine Aq mixed Tryz.func111 tr111 ?_;rw[Am];have Ah:0<l.length:=List.length_pos_iff.2 hz;have h3:l.length<=140737488355328:=by omega
 have e1:(0:Int)<=(l.length:Int):=by omega
 have e2:((l.length:Int)*8<=140737488355328):=by omega
 have e3:((l.length:Int)<=140737488355328):=by omega
 simp only[go_sem,seval,q_g,h3,decide_eq_true (show (l.length:Int) > 0 by omega),e1,e2,e3,Int.le_refl];have Hk:∀x,x<=l.length->(G++Fr k y e 0 (l.take x)).length=G.length+x:=fun x hx=>by rw[List.length_append,A9f,List.length_take,Nat.min_eq_left hx]
 have Oy:∀x,(h:x<l.length)->G++Fr k y e 0 (l.take (x+1))=(G++Fr k y e 0 (l.take x))++[Wu k y e x l[x]]:=fun x h=>by
  rw[List.take_succ_eq_append_getElem h,A9e,List.append_assoc,List.length_take,Nat.min_eq_left (by omega),Nat.zero_add];rfl
 refine Jj (fun x=>⟨(.gp m 0::.J::Aw e::.int .i64 k::De y::.J::.ref 1 0 0 0::.J::.J::.J::.J::.ref 2 0 0 0::.J::.J::.J::.J::.J::.J::.J::.J::.J::.J::.J::.J::.J::.J::.J::.J::.J::.J::.J::.J::.J::.J::.J::.J::.dsl 5 (l.map tv)::.int .i64 l.length::.int .i64 x::.J::.J::.J::.J::.J::.J::.J::.J::.J::.J::.J::.J::.J::.J::.J::.J::.J::.J::.J::.J::.J::.J::.J::.J::.J::.J::[]),[gOb (G++Fr k y e 0 (l.take x)),⟨true,5,[[.int .i64 k',.int .i64 i',.int .i64 j',.int .i64 n',.dsl 5 (l.map tv)]],0,0,true⟩,⟨true,6,[[.int .i64 k',.int .i64 i',.int .i64 j',.int .i64 n',.int .i64 0,.osl 3 0 0 l.length]],0,0,false⟩,⟨false,1,((List.range' G.length x).map fun i=>[SV.gp i 0])++List.replicate (l.length-x) [.nilp],0,0,true⟩]⟩) l.length (fun x hx=>?_) ?_
 ·by_cases Ab:x<l.length
  ·have e0:(0:Int)<=(x:Int):=by omega
   have hg:(l.map tv)[x]?.getD []=tv l[x]:=by rw[List.getElem?_map,q_f Ab];rfl
   have hset:(((List.range' G.length x).map fun i=>[SV.gp i 0])++List.replicate (l.length-x) [SV.nilp]).set x [SV.gp (G.length+x) 0]=((List.range' G.length (x+1)).map fun i=>[SV.gp i 0])++List.replicate (l.length-(x+1)) [SV.nilp]  :=by
    rw[List.set_append_right _ _ (by simp),q_g,List.length_range',Nat.sub_self,show l.length-x=(l.length-(x+1))+1 by omega,List.replicate_succ,List.set_cons_zero,List.range'_concat,List.map_append,List.append_assoc,Nat.one_mul];rfl
   by_cases hk:(x:Int)=k
   ·obtain⟨yv,rfl⟩:=hy x Ab hk;simp only[go_sem,seval,decide_eq_true (show (x:Int)<l.length by omega),e0,q_g,Ab,hg,Af,Aqs hk];refine⟨by omega,Ac (Adu _ yv) ?_⟩;simp only[go_sem,seval,Hk x (Nat.le_of_lt Ab),List.length_append,q_g,List.length_range',List.length_replicate,e0,hset,show (x:Int)<l.length by omega,show x<x+(l.length-x) by omega,w64 (show fit ((x:Int)+1) by unfold fit;omega)];refine⟨Ab,?_⟩;rw[Oy x Ab,Wu,if_pos hk];exact Dq 4 (by simp[An,Xr]) (by simp only[List.take_succ_cons,List.take_zero]) (by simp only[go_sem,seval,List.forall_mem_cons]) (by simp[Bb,gOb])
   ·simp only[go_sem,seval,decide_eq_true (show (x:Int)<l.length by omega),e0,q_g,Ab,hg,Af,Ag hk];refine⟨by omega,Ac (Px _ _ e) ?_⟩;simp only[go_sem,seval,Hk x (Nat.le_of_lt Ab),List.length_append,q_g,List.length_range',List.length_replicate,e0,hset,show (x:Int)<l.length by omega,show x<x+(l.length-x) by omega,w64 (show fit ((x:Int)+1) by unfold fit;omega)];refine⟨Ab,?_⟩;rw[Oy x Ab,Wu,if_neg hk];exact Dq 4 (by simp[An,Xr]) (by simp only[List.take_succ_cons,List.take_zero]) (by simp only[go_sem,seval,List.forall_mem_cons]) (by simp[Bb,gOb])
  ·have:x=l.length:=by omega
   subst this;simp only[go_sem,seval,decide_eq_false (show ¬((l.length:Nat):Int)<l.length by omega),List.take_length,Nat.sub_self,List.replicate_zero];rw[vlV,vlC,Oe (by simp[List.range'_eq_nil_iff];omega),List.take_of_length_le (by simp)]
 ·simp only[List.take_zero,Fr,List.append_nil,List.range'_zero,q_i,List.nil_append,Nat.sub_zero];exact Au (by simp[An])
theorem Cr{C:CT}{b:AC}{Q:AE->St->Prop}{n:Nat}{s s':St}(h:Wk s s')(k:vcI C b Q n s'):vcI C b Q n s:=by
 cases n with
 |zero=>exact k
 |succ n=>
  obtain⟨s0,h1,h2⟩:=k;exact⟨s0,.trans h h1,h2⟩
def EvL(G:GV)(m:Nat)(t:Tm)(e:List Nat)(out:HOut)(G':GV):Prop:=
 ∃n,vcI (Av Tryz.prog fun x G1=>out=.pan x/\G1=G') a90_54 (bk 0 (rtG [.t 6] out G')) n ⟨(.gp m 0::.J::Aw e::.J::.ref 1 0 0 0::.J::.J::.J::.J::.J::.J::.J::.J::.J::.J::.J::.J::.J::.J::.J::.J::.J::.J::.J::.J::.J::.J::.J::.J::.J::.J::.J::.J::.J::.J::.J::.J::.J::.J::.J::.J::.J::.J::.J::.J::.J::.J::.J::.J::.J::.J::.J::.J::.J::.J::.J::.J::.J::.J::.J::.J::.J::.J::.J::.J::.J::.J::.J::.J::.J::.J::.J::.J::.J::.J::.J::.J::.J::.J::.J::.J::.J::.J::.J::.J::.J::.J::.J::.J::.J::.J::.J::.J::.J::.J::.J::.J::.J::.J::.J::.J::.J::.J::.J::.J::.J::.J::.J::.J::.J::.J::.J::.J::.J::.J::.J::.J::.J::.J::.J::.J::.J::.J::.J::.J::.J::.J::.J::.J::.J::.J::.J::.J::.J::.J::.J::.J::.J::.J::.J::.J::.J::.J::.J::.J::.J::.J::.J::.J::.J::[]),[gOb G,⟨true,5,[tv t],0,0,true⟩]⟩
theorem Dz{G G':GV}{m:Nat}{t:Tm}{e:List Nat}{out:HOut}(h:EvL G m t e out G'):Ad 90 G [.gp m 0,.agg true (tv t),Aw e] out G':=by
 refine Aq mixed Tryz.func90 tr90 ?_;obtain⟨n,h⟩:=h;simp only[go_sem,seval,Af];exact Cd n (Cr (Au (by simp[An])) h)
def Mz:HOut->Prop
 |.ret r=>∃v,r=vlV v
 |.pan _=>True
theorem Aiz{G G':GV}{m i id:Nat}{j n:Int}{l:List Tm}{e:List Nat}{out:HOut}(hf:fit i)(hi:e[i]?=some id)(h:Ad 68 G [.gp m 0,.gp id 0] out G')(ho:Mz out):EvL G m (.mk 2 i j n l) e out G':=by
 refine⟨1,Ak ?_⟩;rw[Am];simp only[go_sem,seval];refine Aa (Ac3 e i hf) ?_;simp only[go_sem,seval,hi];cases out with
 |ret r=>
  obtain⟨v,rfl⟩:=ho;refine Ac h ?_;simp only[go_sem,seval]
 |pan x=>exact Cs h trivial ⟨rfl,rfl⟩
theorem Aip{G:GV}{m i:Nat}{j n:Int}{l:List Tm}{e:List Nat}(hf:fit i)(hi:e[i]?=none)(he:fit e.length):EvL G m (.mk 2 i j n l) e (.ret (vlV ⟨2,0,0,0,(e.length:Int)-i-1,[]⟩)) G:=by
 have hle:e.length<=i:=List.getElem?_eq_none_iff.1 hi;refine⟨1,Ak ?_⟩;rw[Am];simp only[go_sem,seval];refine Aa (Ac3 e i hf) ?_;simp only[go_sem,seval,hi];refine Aa (r8 e) ?_;unfold fit at hf he;simp only[go_sem,seval,w64 (show fit ((e.length:Int)-i) by unfold fit;omega),w64 (show fit ((e.length:Int)-i-1) by unfold fit;omega),vlV,vlC,j9]
theorem Ac6{k:Int}(h:k≠15/\k≠18/\k≠19/\k≠22):Con 92 [.int .i64 k] (.int .i64 (-1)):=by
 have:=Ac5 k
 rwa [if_neg (by omega),if_neg h.2.2.2] at this
theorem Jl{k:Int}(h:k=15\/k=18\/k=19):Con 92 [.int .i64 k] (.int .i64 0):=by
 have:=Ac5 k
 rwa [if_pos h] at this
theorem Ri:Con 92 [.int .i64 22] (.int .i64 5):=Ac5 22
theorem A3c{G:GV}{m:Nat}(k' i' j' n':Int)(e:List Nat)(k:Int)(y:Option Vl) :
  Ad 111 G [.gp m 0,.agg true (tv (.mk k' i' j' n' [])),Aw e,.int .i64 k,De y] (.ret (vlV ⟨k',i',j',n',0,[]⟩)) G:=by
 refine Aq mixed Tryz.func111 tr111 ?_;rw[Am];simp only[go_sem,seval,q_i];refine Cd 1 (Ak ?_);simp only[go_sem,seval,vlV,vlC,j9]
def Gz(k' i' j' n':Int)(l:List Tm)(a:Nat):Vl:=⟨k',i',j',n',0,List.range' a l.length⟩
theorem Yh{G:GV}{m:Nat}(k' i' j' n':Int)(l:List Tm)(hb:l.length*56<=140737488355328)(e:List Nat)(k:Int)(y:Option Vl)(hy:∀q:Nat,q<l.length->(q:Int)=k->∃v,y=some v) :
  Ad 111 G [.gp m 0,.agg true (tv (.mk k' i' j' n' l)),Aw e,.int .i64 k,De y] (.ret (vlV (Gz k' i' j' n' l G.length))) (G++Fr k y e 0 l):=by
 by_cases hz:l=[]
 ·subst hz;have:=A3c (G:=G) (m:=m) k' i' j' n' e k y;simpa [Gz,Fr] using this
 ·exact A3b k' i' j' n' l hb hz e k y hy
theorem u3{G:GV}{m:Nat}{k i j n:Int}{l:List Tm}{e:List Nat}(hb:l.length*56<=140737488355328)(hk:k≠2)(hs:k≠15/\k≠18/\k≠19/\k≠22):EvL G m (.mk k i j n l) e (.ret (vlV (Gz k i j n l G.length))) (G++Fr (-1) none e 0 l):=by
 refine⟨1,Ak ?_⟩;have hc:=Yh (G:=G) (m:=m) k i j n l hb e (-1) none (fun q _ h=>by omega);rw[Us,Am] at hc;rw[Am];simp only[go_sem,seval,Ag hk];refine Aa (Ac6 hs) ?_;simp only[go_sem,seval];refine Ac hc ?_;simp only[go_sem,seval]
theorem Dh{α:Type}{l:List α}{i:Nat}{x:α}(h:l[i]?=some x):i<l.length:=by
 rcases Nat.lt_or_ge i l.length with h1|h1
 ·exact h1
 ·rw[List.getElem?_eq_none h1] at h;cases h
theorem Kk{l:List Nat}{q id:Nat}(h:l[q]?=some id):Dp l=.dsl 1 (l.map fun i=>[.gp i 0])/\(q:Int)<l.length/\q<l.length/\(l.map fun i=>[SV.gp i 0])[q]?.getD []=[.gp id 0]:=by
 have hq:q<l.length:=by
  rcases Nat.lt_or_ge q l.length with h1|h1
  ·exact h1
  ·rw[List.getElem?_eq_none h1] at h;cases h
 refine⟨Oe (by rintro rfl;simp at hq),by omega,hq,by simp[h]⟩
theorem Ail{G G1 G2 G':GV}{m id:Nat}{i' j' n':Int}{f a:Tm}{e:List Nat}{out:HOut}{y:Vl}{th:Th}(hy:Ad 90 G [.gp m 0,.agg true (tv f),Aw e] (.ret (vlV y)) G1)(yk:y.k=14)
  (Be:y.kids[1]?=some id) (ht:Ad 93 G1 [.gp m 0] (.ret (.tup [])) G2) (Fi:G2[id]?=some (thR th)) (hb:th.bare=false) (hl:fit ((th.env.length:Int)+1))
  (h:EvL (G2++[thR ⟨a,e,false,none,none⟩]) m th.t (G2.length::th.env) out G'):EvL G m (.mk 15 i' j' n' [f,a]) e out G':=by
 obtain⟨n,h⟩:=h;refine⟨n+1,Ak ?_⟩;obtain⟨t,te,b,w,v⟩:=th;simp only at hb hl;subst hb;obtain⟨k1,k2,k3,k4⟩:=Kk Be;rw[Am];simp only[go_sem,seval,q_h,q_i];refine Aa (Jl (.inl rfl)) ?_;simp only[go_sem,seval,q_h,q_i,Af];refine Ac hy ?_;simp only[go_sem,seval,vlV,yk];refine Ac ht ?_;have k2':(1:Int)<y.kids.length:=by omega
 have Ab:id<G2.length:=Dh Fi;simp only[go_sem,seval,vlV,yk,k1,k2',k3,k4,Fi,Ab,q_h,q_i,Af,q_g];refine Ac (Px _ a e) ?_;simp only[go_sem,seval,Fi,Ab];refine Aa (Vq te _ hl) ?_;simp only[go_sem,seval];exact Cr (Au (by simp[An])) h
theorem Aio{G G1 G2:GV}{m:Nat}{x:SV}{i' j' n':Int}{f a:Tm}{e:List Nat}{y:Vl}(hy:Ad 90 G [.gp m 0,.agg true (tv f),Aw e] (.ret (vlV y)) G1)(yk:y.k=14)
  (ht:Ad 93 G1 [.gp m 0] (.pan x) G2):EvL G m (.mk 15 i' j' n' [f,a]) e (.pan x) G2:=by
 refine⟨1,Ak ?_⟩;rw[Am];simp only[go_sem,seval,q_h,q_i];refine Aa (Jl (.inl rfl)) ?_;simp only[go_sem,seval,q_h,q_i,Af];refine Ac hy ?_;simp only[go_sem,seval,vlV,yk];exact Cs ht trivial ⟨rfl,rfl⟩
theorem Aim{G G1:GV}{m:Nat}{i' j' n':Int}{f a:Tm}{e:List Nat}{x:SV}(hy:Ad 90 G [.gp m 0,.agg true (tv f),Aw e] (.pan x) G1):EvL G m (.mk 15 i' j' n' [f,a]) e (.pan x) G1:=by
 refine⟨1,Ak ?_⟩;rw[Am];simp only[go_sem,seval,q_h,q_i];refine Aa (Jl (.inl rfl)) ?_;simp only[go_sem,seval,q_h,q_i,Af];exact Cs hy trivial ⟨rfl,rfl⟩
theorem Ain {G G1:GV}{m:Nat}{i' j' n':Int}{f a:Tm}{e:List Nat}{y:Vl}(hy:Ad 90 G [.gp m 0,.agg true (tv f),Aw e] (.ret (vlV y)) G1)(yk:y.k≠14):EvL G m (.mk 15 i' j' n' [f,a]) e (.ret (vlV (Gz 15 i' j' n' [f,a] G1.length))) (G1++Fr 0 (some y) e 0 [f,a]):=by
 refine⟨1,Ak ?_⟩;have hc:=Yh (G:=G1) (m:=m) 15 i' j' n' [f,a] (by simp) e 0 (some y) (fun q _ h=>⟨y,rfl⟩);rw[Js,Am] at hc;rw[Am];simp only[go_sem,seval,q_h,q_i] at hc |-;refine Aa (Jl (.inl rfl)) ?_;simp only[go_sem,seval,q_h,q_i,Af];refine Ac hy ?_;simp only[go_sem,seval,vlV,Ag yk];refine Ac hc ?_;simp only[go_sem,seval,vlV]
theorem Aiq{G G1:GV}{m:Nat}{i' j' n':Int}{f:Tm}{e:List Nat}{x:SV}(hy:Ad 90 G [.gp m 0,.agg true (tv f),Aw e] (.pan x) G1):EvL G m (.mk 18 i' j' n' [f]) e (.pan x) G1:=by
 refine⟨1,Ak ?_⟩;rw[Am];simp only[go_sem,seval,q_h,q_i];refine Aa (Jl (.inr (.inl rfl))) ?_;simp only[go_sem,seval,q_h,q_i,Af];exact Cs hy trivial ⟨rfl,rfl⟩
theorem Air{G G1:GV}{m:Nat}{i' j' n':Int}{f:Tm}{e:List Nat}{y:Vl}(hy:Ad 90 G [.gp m 0,.agg true (tv f),Aw e] (.ret (vlV y)) G1)(yk:y.k≠17):EvL G m (.mk 18 i' j' n' [f]) e (.ret (vlV (Gz 18 i' j' n' [f] G1.length))) (G1++Fr 0 (some y) e 0 [f]):=by
 refine⟨1,Ak ?_⟩;have hc:=Yh (G:=G1) (m:=m) 18 i' j' n' [f] (by simp) e 0 (some y) (fun q _ h=>⟨y,rfl⟩);rw[Js,Am] at hc;rw[Am];simp only[go_sem,seval,q_h,q_i] at hc |-;refine Aa (Jl (.inr (.inl rfl))) ?_;simp only[go_sem,seval,q_h,q_i,Af];refine Ac hy ?_;simp only[go_sem,seval,vlV,Ag yk];refine Ac hc ?_;simp only[go_sem,seval,vlV]
theorem Aiw{G G1:GV}{m:Nat}{i' j' n':Int}{f:Tm}{e:List Nat}{x:SV}(hy:Ad 90 G [.gp m 0,.agg true (tv f),Aw e] (.pan x) G1):EvL G m (.mk 19 i' j' n' [f]) e (.pan x) G1:=by
 refine⟨1,Ak ?_⟩;rw[Am];simp only[go_sem,seval,q_h,q_i];refine Aa (Jl (.inr (.inr rfl))) ?_;simp only[go_sem,seval,q_h,q_i,Af];exact Cs hy trivial ⟨rfl,rfl⟩
theorem Aix{G G1:GV}{m:Nat}{i' j' n':Int}{f:Tm}{e:List Nat}{y:Vl}(hy:Ad 90 G [.gp m 0,.agg true (tv f),Aw e] (.ret (vlV y)) G1)(yk:y.k≠17):EvL G m (.mk 19 i' j' n' [f]) e (.ret (vlV (Gz 19 i' j' n' [f] G1.length))) (G1++Fr 0 (some y) e 0 [f]):=by
 refine⟨1,Ak ?_⟩;have hc:=Yh (G:=G1) (m:=m) 19 i' j' n' [f] (by simp) e 0 (some y) (fun q _ h=>⟨y,rfl⟩);rw[Js,Am] at hc;rw[Am];simp only[go_sem,seval,q_h,q_i] at hc |-;refine Aa (Jl (.inr (.inr rfl))) ?_;simp only[go_sem,seval,q_h,q_i,Af];refine Ac hy ?_;simp only[go_sem,seval,vlV,Ag yk];refine Ac hc ?_;simp only[go_sem,seval,vlV]
theorem Ait{G G1:GV}{m:Nat}{i' j' n':Int}{a0 a1 a2 a3 a4 f:Tm}{e:List Nat}{x:SV}(hy:Ad 90 G [.gp m 0,.agg true (tv f),Aw e] (.pan x) G1):EvL G m (.mk 22 i' j' n' [a0,a1,a2,a3,a4,f]) e (.pan x) G1:=by
 refine⟨1,Ak ?_⟩;rw[Am];simp only[go_sem,seval,q_h,q_i];refine Aa (Ri) ?_;simp only[go_sem,seval,q_h,q_i,Af];exact Cs hy trivial ⟨rfl,rfl⟩
theorem Aiu{G G1:GV}{m:Nat}{i' j' n':Int}{a0 a1 a2 a3 a4 f:Tm}{e:List Nat}{y:Vl}(hy:Ad 90 G [.gp m 0,.agg true (tv f),Aw e] (.ret (vlV y)) G1)(yk:y.k≠21):EvL G m (.mk 22 i' j' n' [a0,a1,a2,a3,a4,f]) e (.ret (vlV (Gz 22 i' j' n' [a0,a1,a2,a3,a4,f] G1.length))) (G1++Fr 5 (some y) e 0 [a0,a1,a2,a3,a4,f]):=by
 refine⟨1,Ak ?_⟩;have hc:=Yh (G:=G1) (m:=m) 22 i' j' n' [a0,a1,a2,a3,a4,f] (by simp) e 5 (some y) (fun q _ h=>⟨y,rfl⟩);rw[Js,Am] at hc;rw[Am];simp only[go_sem,seval,q_h,q_i] at hc |-;refine Aa (Ri) ?_;simp only[go_sem,seval,q_h,q_i,Af];refine Ac hy ?_;simp only[go_sem,seval,vlV,Ag yk];refine Ac hc ?_;simp only[go_sem,seval,vlV]
theorem A1d{G G1 G2 G':GV}{m id:Nat}{i' j' n':Int}{f:Tm}{e:List Nat}{out:HOut}{y:Vl}(hy:Ad 90 G [.gp m 0,.agg true (tv f),Aw e] (.ret (vlV y)) G1)(yk:y.k=17)
  (Be:y.kids[2]?=some id) (ht:Ad 93 G1 [.gp m 0] (.ret (.tup [])) G2)
  (h:Ad 68 G2 [.gp m 0,.gp id 0] out G') (ho:Mz out):EvL G m (.mk 18 i' j' n' [f]) e out G':=by
 refine⟨1,Ak ?_⟩;obtain⟨k1,k2,k3,k4⟩:=Kk Be;have k2':(2:Int)<y.kids.length:=by omega
 rw[Am];simp only[go_sem,seval,q_h,q_i];refine Aa (Jl (.inr (.inl rfl))) ?_;simp only[go_sem,seval,q_h,q_i,Af];refine Ac hy ?_;simp only[go_sem,seval,vlV,yk];refine Ac ht ?_;simp only[go_sem,seval,vlV,yk,k1,k2',k3,k4,q_h,q_i,Af,q_g];cases out with
 |ret r=>
  obtain⟨v,rfl⟩:=ho;refine Ac h ?_;simp only[go_sem,seval]
 |pan x=>exact Cs h trivial ⟨rfl,rfl⟩
theorem Ais{G G1 G2:GV}{m:Nat}{x:SV}{i' j' n':Int}{f:Tm}{e:List Nat}{y:Vl}(hy:Ad 90 G [.gp m 0,.agg true (tv f),Aw e] (.ret (vlV y)) G1)(yk:y.k=17)
  (ht:Ad 93 G1 [.gp m 0] (.pan x) G2):EvL G m (.mk 18 i' j' n' [f]) e (.pan x) G2:=by
 refine⟨1,Ak ?_⟩;rw[Am];simp only[go_sem,seval,q_h,q_i];refine Aa (Jl (.inr (.inl rfl))) ?_;simp only[go_sem,seval,q_h,q_i,Af];refine Ac hy ?_;simp only[go_sem,seval,vlV,yk];exact Cs ht trivial ⟨rfl,rfl⟩
theorem A1f{G G1 G2 G':GV}{m id:Nat}{i' j' n':Int}{f:Tm}{e:List Nat}{out:HOut}{y:Vl}(hy:Ad 90 G [.gp m 0,.agg true (tv f),Aw e] (.ret (vlV y)) G1)(yk:y.k=17)
  (Be:y.kids[3]?=some id) (ht:Ad 93 G1 [.gp m 0] (.ret (.tup [])) G2)
  (h:Ad 68 G2 [.gp m 0,.gp id 0] out G') (ho:Mz out):EvL G m (.mk 19 i' j' n' [f]) e out G':=by
 refine⟨1,Ak ?_⟩;obtain⟨k1,k2,k3,k4⟩:=Kk Be;have k2':(3:Int)<y.kids.length:=by omega
 rw[Am];simp only[go_sem,seval,q_h,q_i];refine Aa (Jl (.inr (.inr rfl))) ?_;simp only[go_sem,seval,q_h,q_i,Af];refine Ac hy ?_;simp only[go_sem,seval,vlV,yk];refine Ac ht ?_;simp only[go_sem,seval,vlV,yk,k1,k2',k3,k4,q_h,q_i,Af,q_g];cases out with
 |ret r=>
  obtain⟨v,rfl⟩:=ho;refine Ac h ?_;simp only[go_sem,seval]
 |pan x=>exact Cs h trivial ⟨rfl,rfl⟩
theorem Aiy{G G1 G2:GV}{m:Nat}{x:SV}{i' j' n':Int}{f:Tm}{e:List Nat}{y:Vl}(hy:Ad 90 G [.gp m 0,.agg true (tv f),Aw e] (.ret (vlV y)) G1)(yk:y.k=17)
  (ht:Ad 93 G1 [.gp m 0] (.pan x) G2):EvL G m (.mk 19 i' j' n' [f]) e (.pan x) G2:=by
 refine⟨1,Ak ?_⟩;rw[Am];simp only[go_sem,seval,q_h,q_i];refine Aa (Jl (.inr (.inr rfl))) ?_;simp only[go_sem,seval,q_h,q_i,Af];refine Ac hy ?_;simp only[go_sem,seval,vlV,yk];exact Cs ht trivial ⟨rfl,rfl⟩
theorem A1e{G G1 G2 G':GV}{m:Nat}{i' j' n':Int}{a0 a1 a2 a3 a4 f:Tm}{e:List Nat}{out:HOut}{y:Vl}(hy:Ad 90 G [.gp m 0,.agg true (tv f),Aw e] (.ret (vlV y)) G1)(yk:y.k=21)
  (ht:Ad 93 G1 [.gp m 0] (.ret (.tup [])) G2)
  (h:EvL G2 m a3 e out G'):EvL G m (.mk 22 i' j' n' [a0,a1,a2,a3,a4,f]) e out G':=by
 obtain⟨n,h⟩:=h;refine⟨n+1,Ak ?_⟩;rw[Am];simp only[go_sem,seval,q_h,q_i];refine Aa Ri ?_;simp only[go_sem,seval,q_h,q_i,Af];refine Ac hy ?_;simp only[go_sem,seval,vlV,yk];refine Ac ht ?_;simp only[go_sem,seval,vlV,yk,q_h,q_i,Af,q_g];exact Cr (Au (by simp[An])) h
theorem Aiv{G G1 G2:GV}{m:Nat}{x:SV}{i' j' n':Int}{a0 a1 a2 a3 a4 f:Tm}{e:List Nat}{y:Vl}(hy:Ad 90 G [.gp m 0,.agg true (tv f),Aw e] (.ret (vlV y)) G1)(yk:y.k=21)
  (ht:Ad 93 G1 [.gp m 0] (.pan x) G2):EvL G m (.mk 22 i' j' n' [a0,a1,a2,a3,a4,f]) e (.pan x) G2:=by
 refine⟨1,Ak ?_⟩;rw[Am];simp only[go_sem,seval,q_h,q_i];refine Aa Ri ?_;simp only[go_sem,seval,q_h,q_i,Af];refine Ac hy ?_;simp only[go_sem,seval,vlV,yk];exact Cs ht trivial ⟨rfl,rfl⟩
theorem Apl{G:GV}{m id:Nat}{th:Th}{v:Vl}(h:G[id]?=some (thR th))(hw:th.w=some v):Ad 68 G [.gp m 0,.gp id 0] (.ret (vlV v)) G:=by
 refine Aq mixed Tryz.func68 tr68 ?_;obtain⟨t,te,b,w,x⟩:=th;simp only at hw;subst hw;simp only[go_sem,seval,h,Js,vlV]
theorem Acb{G G1:GV}{m id:Nat}{th th1:Th}{v:Vl}(h:G[id]?=some (thR th))(hw:th.w=none)(hb:th.bare=false)(he:Ad 90 G [.gp m 0,.agg true (tv th.t),Aw th.env] (.ret (vlV v)) G1)(h1:G1[id]?=some (thR th1)) :
  Ad 68 G [.gp m 0,.gp id 0] (.ret (vlV v)) (G1.set id (thR { th1 with w:=some v })):=by
 refine Aq mixed Tryz.func68 tr68 ?_;obtain⟨t,te,b,w,x⟩:=th;simp only at hw hb he;subst hw hb;simp only[go_sem,seval,h,Us];refine Ac he ?_;have Ab:=Dh h1;simp only[go_sem,seval,h1,Aow,Fg h1,Kj,Js,List.getElem?_set_self Ab]
theorem Apm{G G1:GV}{m id:Nat}{th:Th}{x:SV}(h:G[id]?=some (thR th))(hw:th.w=none)(hb:th.bare=false)(he:Ad 90 G [.gp m 0,.agg true (tv th.t),Aw th.env] (.pan x) G1) :
  Ad 68 G [.gp m 0,.gp id 0] (.pan x) G1:=by
 refine Aq mixed Tryz.func68 tr68 ?_;obtain⟨t,te,b,w,y⟩:=th;simp only at hw hb he;subst hw hb;simp only[go_sem,seval,h,Us];exact Cs he trivial ⟨rfl,rfl⟩
inductive Rf(G:GV):Vl->Prop
 |base {v:Vl} (h:v.k≠23) (hs:v.k≠15/\v.k≠18/\v.k≠19/\v.k≠22):Rf G v
 |step0 {v y:Vl} {id:Nat} {th:Th} (h:v.k=15\/v.k=18\/v.k=19) (Be:v.kids[0]?=some id) (Fi:G[id]?=some (thR th)) (hw:th.w=some y) (hy:Rf G y):Rf G v
 |step5 {v y:Vl} {id:Nat} {th:Th} (h:v.k=22) (Be:v.kids[5]?=some id) (Fi:G[id]?=some (thR th)) (hw:th.w=some y) (hy:Rf G y):Rf G v
def Aps(G:GV)(m:Nat)(v:Vl)(out:HOut):Prop:=
 ∃n,vcI (Av Tryz.prog fun x G1=>out=.pan x/\G1=G) a69_24 (bk 0 (rtG [.t 4] out G)) n ⟨(.gp m 0::vlV v::.J::.J::.int .i64 0::.J::.J::.J::.J::.J::.J::.J::.J::.J::.J::.J::.J::.J::.J::.J::.J::.J::.J::.J::.J::.J::.J::.J::.J::.J::.J::.J::.J::.J::.J::.J::.J::.J::.J::.J::.J::.J::.J::.J::.J::.J::.J::.J::.J::.J::.J::.J::.J::.J::.J::[]),[gOb G]⟩
theorem Bf5{G:GV}{m:Nat}{v:Vl}(h:Rf G v){out:HOut}(ho:out=.ret (.int .i64 0)):Aps G m v out:=by
 induction h with
 |base h hs=>
  refine⟨1,Ak ?_⟩;simp only[go_sem,seval,vlV,Ag h];refine Aa (Ac6 hs) ?_;subst ho;simp only[go_sem,seval]
 |@step0 v y id th h Be Fi hw hy ih=>
  obtain⟨n,ih⟩:=ih;refine⟨n+1,Ak ?_⟩;obtain⟨k1,k2,k3,k4⟩:=Kk Be;have k2':(0:Int)<v.kids.length:=by omega
  have Bz:v.k≠23:=by omega
  obtain⟨t,te,b,w,x⟩:=th;simp only at hw;subst hw;simp only[go_sem,seval,vlV,Ag Bz];refine Aa (Jl h) ?_;simp only[go_sem,seval,vlV,k1,k2',k3,k4,Fi,Js,q_g];exact Cr (Au (by simp[An,vlV])) ih
 |@step5 v y id th h Be Fi hw hy ih=>
  obtain⟨n,ih⟩:=ih;refine⟨n+1,Ak ?_⟩;obtain⟨k1,k2,k3,k4⟩:=Kk Be;have k2':(5:Int)<v.kids.length:=by omega
  have Bz:v.k≠23:=by omega
  have h5:Con 92 [.int .i64 v.k] (.int .i64 5):=by rw[h];exact Ri
  obtain⟨t,te,b,w,x⟩:=th;simp only at hw;subst hw;simp only[go_sem,seval,vlV,Ag Bz];refine Aa h5 ?_;simp only[go_sem,seval,vlV,k1,k2',k3,k4,Fi,Js,q_g];exact Cr (Au (by simp[An,vlV])) ih
theorem A3o{G:GV}{m:Nat}{v:Vl}(h:Rf G v):Ad 69 G [.gp m 0,vlV v] (.ret (.int .i64 0)) G:=by
 obtain⟨out,ho⟩:∃out,out=HOut.ret (.int .i64 0):=⟨_,rfl⟩
 rw[<-ho];refine Aq mixed Tryz.func69 tr69 ?_;obtain⟨n,h⟩:=Bf5 (m:=m) h ho;simp only[go_sem,seval];exact Cd n (Cr (Au (by simp[An])) h)
theorem A3z{G:GV}{m id:Nat}{th:Th}{v:Vl}(h:G[id]?=some (thR th))(hv:th.v=some v):Ad 46 G [.gp m 0,.gp id 0] (.ret (vlV v)) G:=by
 refine Aq mixed Tryz.func46 tr46 ?_;obtain⟨t,te,b,w,x⟩:=th;simp only at hv;subst hv;simp only[go_sem,seval,h,Js,vlV]
theorem A4b{G G1:GV}{m id:Nat}{th th1:Th}{v:Vl}(h:G[id]?=some (thR th))(hv:th.v=none)(he:Ad 68 G [.gp m 0,.gp id 0] (.ret (vlV v)) G1)(h1:G1[id]?=some (thR th1))(hn:Rf G1 v) :
  Ad 46 G [.gp m 0,.gp id 0] (.ret (vlV v)) (G1.set id (thR { th1 with v:=some v })):=by
 refine Aq mixed Tryz.func46 tr46 ?_;obtain⟨t,te,b,w,y⟩:=th;simp only at hv;subst hv;simp only[go_sem,seval,h,Us];refine Ac he ?_;have Ab:=Dh h1;simp only[go_sem,seval];refine Cd 1 (Ak ?_);simp only[go_sem,seval];refine Ac (A3o hn) ?_;simp only[go_sem,seval,h1,Af6,Fg h1,Kj,Js,List.getElem?_set_self Ab]
theorem Aj3{G G1:GV}{m id:Nat}{th:Th}{x:SV}(h:G[id]?=some (thR th))(hv:th.v=none)(he:Ad 68 G [.gp m 0,.gp id 0] (.pan x) G1) :
  Ad 46 G [.gp m 0,.gp id 0] (.pan x) G1:=by
 refine Aq mixed Tryz.func46 tr46 ?_;obtain⟨t,te,b,w,y⟩:=th;simp only at hv;subst hv;simp only[go_sem,seval,h,Us];exact Cs he trivial ⟨rfl,rfl⟩
theorem HContract.weaken{P:Program}{f:Nat}{G G':GV}{args:List SV}{r r':SV}(h:HContract P f G args (.ret r) G')(hl:Le r r'):HContract P f G args (.ret r') G':=by
 intro m w vs h1 h2 h3 h4;refine Calls.mono (h m w vs h1 h2 h3 h4) (fun e w' he=>?_);obtain⟨m',⟨v,a1,a2⟩,a3⟩:=he;exact⟨m',⟨v,a1,hl.rep a2⟩,a3⟩
theorem Bdv{G G':GV}{m j id:Nat}{steps most seen guess:Int}{v:Vl}{deep:Int}(hG:G[m]?=some (Bu steps most seen guess j))(hf:fit guess)(hg:guess≠1)(hs:seen<8000000)(Gb:0<=seen)
  (h:Ad 46 (G.set m (Bu steps most (seen+1) (Ng guess) j)) [.gp m 0,.gp id 0] (.ret (vlV v)) G') (hk:v.k≠2) (hl:v.kids=[]) :
  Ad 35 G [.gp m 0,.gp id 0,.int .i64 deep] (.ret (.agg true (tv (.mk v.k v.i v.j v.n [])))) G':=by
 refine (Aq (out:=.ret (.agg true [.int .i64 v.k,.int .i64 v.i,.int .i64 v.j,.int .i64 v.n,.nils])) mixed Tryz.func35 tr35 ?_).weaken (Mq _ _ _ _);simp only[go_sem,seval];refine Ac (Aju hG hf hg Gb hs) ?_;simp only[go_sem,seval];refine Ac h ?_;simp only[go_sem,seval,vlV,Ag hk,hl,j9];refine Cd 1 (Ak ?_);simp only[go_sem,seval,q_i]
theorem Ao2{G:GV}{m:Nat}{v:Vl}{deep:Int}(hk:v.k≠2)(hl:v.kids=[]) :
  Ad 45 G [.gp m 0,vlV v,.int .i64 deep] (.ret (.agg true (tv (.mk v.k v.i v.j v.n [])))) G:=by
 refine (Aq (out:=.ret (.agg true [.int .i64 v.k,.int .i64 v.i,.int .i64 v.j,.int .i64 v.n,.nils])) mixed Tryz.func45 tr45 ?_).weaken (Mq _ _ _ _);simp only[go_sem,seval,vlV,Ag hk,hl,j9];refine Cd 1 (Ak ?_);simp only[go_sem,seval,q_i]
theorem A3t{G:GV}{id:Nat}{th:Th}(Fi:G[id]?=some (thR th))(hb:th.bare=false)(deep:Int)(hd:fit deep)(hl:fit ((th.env.length:Int)+1)) :
  Ad 61 G [.gp id 0,.int .i64 deep,.int .i64 1] (.ret (.gp (G.length+1) 0)) (G++[Ld (some ⟨2,0,0,0,deep,[]⟩) none,thR ⟨th.t,G.length::th.env,false,none,none⟩]):=by
 obtain⟨out,ho⟩:∃out,out=HOut.ret (.gp (G.length+1) 0):=⟨_,rfl⟩
 obtain⟨G',Ni⟩:∃G',G'=G++[Ld (some ⟨2,0,0,0,deep,[]⟩) none,thR ⟨th.t,G.length::th.env,false,none,none⟩]:=⟨_,rfl⟩
 rw[<-ho,<-Ni];refine Aq mixed Tryz.func61 tr61 ?_;obtain⟨t,te,b,w,v⟩:=th;simp only at hb hl Ni;subst hb;have Ab:=Dh Fi;simp only[go_sem,seval,Fi];refine Cd 2 (Ak ?_);simp only[go_sem,seval,Int.add_zero,w64 hd];refine Ac (Adv G deep) ?_;simp only[go_sem,seval];refine Aa (Vq te _ hl) ?_;simp only[go_sem,seval];refine Ak ?_;simp only[go_sem,seval,Fi,Ab];refine Ac (Px _ t _) ?_;subst ho Ni;simp only[go_sem,seval,List.append_assoc,List.length_append]
def Bn(k p:Int):Int:=
 if k=3\/k=5\/k=6\/k=7\/k=8\/k=9\/k=13\/k=14\/k=16\/k=17 then (if p=1 then 1 else 0)
 else if k=4 then (if p=1\/p=2 then 1 else 0)
 else if k=22 then (if p=2 then 2 else 0) else 0
theorem Nb(k p:Int):0<=Bn k p/\Bn k p<=2:=by
 unfold Bn
 repeat' split
 all_goals omega
theorem At8(k p:Int):Con 60 [.int .i64 k,.int .i64 p] (.int .i64 (Bn k p)):=by
 refine Al mixed Tryz.func60 tr60 ?_
 by_cases h:k=3\/k=5\/k=6\/k=7\/k=8\/k=9\/k=13\/k=14\/k=16\/k=17
 ·have e:Bn k p=if p=1 then 1 else 0:=by unfold Bn;rw[if_pos h]
  rw[e];rcases h with rfl|rfl|rfl|rfl|rfl|rfl|rfl|rfl|rfl|rfl <;>
   (cases hp:(p==1)<;>simp only[beq_iff_eq,beq_eq_false_iff_ne,ne_eq] at hp<;>simp only[go_sem,seval,hp,Ag])
 ·by_cases h4:k=4
  ·subst h4;have e:Bn 4 p=if p=1\/p=2 then 1 else 0:=by unfold Bn;rw[if_neg (by decide),if_pos rfl]
   rw[e]
   by_cases h1:p=1
   ·subst h1;simp only[go_sem,seval]
   ·by_cases h2:p=2
    ·subst h2;simp only[go_sem,seval]
    ·rw[if_neg (by omega)];simp only[go_sem,seval,Ag h1,Ag h2]
  ·by_cases Cy:k=22
   ·subst Cy;have e:Bn 22 p=if p=2 then 2 else 0:=by unfold Bn;rw[if_neg (by decide),if_neg (by decide),if_pos rfl]
    rw[e]
    by_cases h2:p=2
    ·subst h2;simp only[go_sem,seval]
    ·rw[if_neg h2];simp only[go_sem,seval,Ag h2]
   ·have e:Bn k p=0:=by unfold Bn;rw[if_neg h,if_neg h4,if_neg Cy]
    rw[e];simp only[go_sem,seval,Ag (show k≠3 by omega),Ag h4,Ag (show k≠5 by omega),Ag (show k≠6 by omega),Ag (show k≠7 by omega),Ag (show k≠8 by omega),Ag (show k≠9 by omega),Ag (show k≠13 by omega),Ag (show k≠14 by omega),Ag (show k≠16 by omega),Ag (show k≠17 by omega),Ag Cy]
end Go.Proofs.YtdpigpopcbjkmaaGreatDoor.Abs
