import Derived.Test.YtgdkddjdhijfnaaGreatDoorXFg
import Derived.Test.YtgdkddjdhijfnaaGreatDoorXEv
import Derived.Test.YtgdkddjdhijfnaaGreatDoorProg
import Derived.KernelRfl
set_option linter.all false
set_option maxRecDepth 20000
set_option maxHeartbeats 4000000
namespace Go.Proofs.YtgdkddjdhijfnaaGreatDoor.Abs
open Go Go.RowKit Go.Proofs.YtgdkddjdhijfnaaGreatDoor
abbrev Am(f:Nat)(G:GV)(args:List SV)(out:HOut)(G':GV):Prop:=HContract Tryz.prog f G args out G'
def Cj:List Nat->SV
 |[]=>.nilp
 |h::t=>.dref 3 [.gp h 0,Cj t,.int .i64 ((t.length:Int)+1)] 0
def Pi:Cj []=.nilp:=rfl
def Lv{h:Nat}{t:List Nat}:Cj (h::t)=.dref 3 [.gp h 0,Cj t,.int .i64 ((t.length:Int)+1)] 0:=q_z
def z6(e:List Nat){hp:List Ob}:De hp (Cj e)=some (Cj e,hp)/\Di hp (Cj e)=some (Cj e,hp)/\Dy hp (Cj e)=[]/\Cw (Cj e)=[]/\(Cj e).closed=true/\(Cj e).ok=true/\cellsOf (Cj e)=[Cj e]:=by
 cases e<;>exact⟨rfl,rfl,rfl,rfl,rfl,rfl,rfl⟩
def A3p{e:List Nat}{hp:List Ob}:De hp (Cj e)=some (Cj e,hp):=(z6 e).1
def A3q{e:List Nat}{hp:List Ob}:Dy hp (Cj e)=[]:=(z6 e).2.2.1
def A3o{e:List Nat}:(Cj e).closed=true:=(z6 (hp:=[]) e).2.2.2.2.1
def A3r{e:List Nat}:(Cj e).ok=true:=(z6 (hp:=[]) e).2.2.2.2.2.1
def A3n{e:List Nat}:cellsOf (Cj e)=[Cj e]:=(z6 (hp:=[]) e).2.2.2.2.2.2
attribute [go_sem] A3p A3q A3o A3r A3n
def Ag5(e:List Nat):Con 103 [Cj e] (.int .i64 e.length):=by
 refine Au mixed Tryz.func103 tr103 ?_;cases e with
 |nil=>simp only[go_sem,seval,Pi,List.length_nil];try rfl
 |cons h t=>simp only[go_sem,seval,Lv];simp
def Zm(e:List Nat)(i:Nat)(h:fit ((e.length:Int)+1)):Con 83 [Cj e,.gp i 0] (Cj (i::e)):=by
 refine Au mixed Tryz.func83 tr83 ?_;simp only[go_sem,seval];refine Af (Ag5 e) ?_;simp only[go_sem,seval,w64 h,Lv]
def Bx(steps most seen guess:Int)(j:Nat):List SV:=[.int .i64 steps,.int .i64 most,.int .i64 seen,.int .i64 guess,.mp j]
def Ex{G:GV}{m:Nat}{r x:List SV}(h:G[m]?=some r):(G.set m x)[m]?=some x:=by
 rw[q_jq];rcases q_jo m G.length with h1|h1
 ·exact h1
 ·rw[q_jd h1] at h;cases h
def Adg{G:GV}{m:Nat}{r:List SV}(h:G[m]?=some r):G.set m r=G:=by
 refine List.ext_getElem? fun i=>?_
 by_cases hi:m=i
 ·subst hi;rw[Ex h,h]
 ·rw[q_jc hi]
def Ou{α:Type}{l:List α}{i:Nat}{a b:α}:(l.set i a).set i b=l.set i b:=List.set_set ..
def Am9(e:List Nat)(k:Nat)(hk:fit k):Con 115 [Cj e,.int .i64 k] (match e[k]? with|some i=>.gp i 0|none=>.nilp):=by
 refine Au mixed Tryz.func115 tr115 ?_;simp only[go_sem,seval];refine Af (Ag5 e) ?_
 by_cases h:k<e.length
 ·simp only[go_sem,seval,q_je (show ¬(k:Int) >= e.length by omega),q_f h];refine Ln (fun i=>⟨(Cj (e.drop i)::.int .i64 ((k-i:Nat):Int)::.J::.J::.nilp::Do ([])),[]⟩) k (fun i hi=>?_) ?_
  ·by_cases hk0:k-i > 0
   ·have hd:e.drop i=e[i]::e.drop (i+1):=by rw[List.drop_eq_getElem_cons (by omega)]
    simp only[go_sem,seval,q_jn (show ((k-i:Nat):Int) > 0 by omega),hd,Lv,w64 (show fit (((k-i:Nat):Int)-1) by unfold fit at hk |-;omega)];refine⟨by omega,?_⟩;rw[show ((k-i:Nat):Int)-1=((k-(i+1):Nat):Int) by omega];exact Bk (by simp[Ba])
   ·have hik:i=k:=by omega
    subst hik;have hd:e.drop i=e[i]::e.drop (i+1):=by rw[List.drop_eq_getElem_cons (by omega)]
    simp only[go_sem,seval,q_je hk0,q_je (show ¬((i-i:Nat):Int) > 0 by omega),hd,Lv]
  ·simp only[List.drop_zero,q_kr];exact Bk (by simp[Ba])
 ·simp only[go_sem,seval,q_jn (show (k:Int) >= e.length by omega),q_jd (show e.length<=k by omega)]
def A9r{G:GV}{m j:Nat}{steps most seen guess:Int}(hG:G[m]?=some (Bx steps most seen guess j))(hg:¬guess > 0):Am 80 G [.gp m 0] (.ret (.tup [])) G:=by
 refine Bh mixed Tryz.func80 tr80 ?_;simp only[go_sem,seval,hG,Bx,q_je hg]
def Sa(g:Int):Int:=if g > 0 then g-1 else g
def Adq{G:GV}{m j:Nat}{steps most seen guess:Int}(hG:G[m]?=some (Bx steps most seen guess j))(hf:fit guess)(hg:guess≠1):Am 80 G [.gp m 0] (.ret (.tup [])) (G.set m (Bx steps most seen (Sa guess) j)):=by
 by_cases h:guess > 0
 ·refine Bh mixed Tryz.func80 tr80 ?_;simp only[go_sem,seval,hG,Bx,q_jn h,w64 (show fit (guess-1) by unfold fit at hf |-;omega),Rp,Ex hG,Ao (show guess-1≠0 by omega),Sa,if_pos h]
 ·rw[show G.set m (Bx steps most seen (Sa guess) j)=G by rw[Sa,if_neg h];exact Adg hG];exact A9r hG h
def Apd{G:GV}{m j:Nat}{steps most seen:Int}(hG:G[m]?=some (Bx steps most seen 1 j)):Am 80 G [.gp m 0] (.pan (.ife 123)) (G.set m (Bx steps most seen 0 j)):=by
 refine Bh mixed Tryz.func80 tr80 ?_;simp only[go_sem,seval,hG,Bx,Rp,Ex hG];exact⟨rfl,rfl⟩
def A9h{G:GV}{m j:Nat}{steps most seen guess:Int}(hG:G[m]?=some (Bx steps most seen guess j))(hf:fit guess)(hg:guess≠1)(h0:0<=seen)(hs:seen<8000000) :
  Am 52 G [.gp m 0] (.ret (.tup [])) (G.set m (Bx steps most (seen+1) (Sa guess) j)):=by
 refine Bh mixed Tryz.func52 tr52 ?_;simp only[go_sem,seval];refine Ai (Adq hG hf hg) ?_;simp only[go_sem,seval,Bx,Ex hG,Rp,Ou,w64 (show fit (seen+1) by unfold fit;omega),q_je (show ¬seen+1 > 8000000 by omega)]
def A9j{G:GV}{m j:Nat}{steps most seen guess:Int}(hG:G[m]?=some (Bx steps most seen guess j))(hf:fit guess)(hg:guess≠1)(hs:8000000<=seen)(Kz:fit (seen+1)) :
  Am 52 G [.gp m 0] (.pan (.ife 48)) (G.set m (Bx steps most (seen+1) (Sa guess) j)):=by
 refine Bh mixed Tryz.func52 tr52 ?_;simp only[go_sem,seval];refine Ai (Adq hG hf hg) ?_;simp only[go_sem,seval,Bx,Ex hG,Rp,Ou,w64 Kz,q_jn (show seen+1 > 8000000 by omega)];exact⟨rfl,rfl⟩
def A9k{G:GV}{m j:Nat}{steps most seen guess:Int}(hG:G[m]?=some (Bx steps most seen guess j))(hf:fit guess)(hg:guess≠1)(hs:steps<most)(Kz:fit (steps+1)) :
  Am 101 G [.gp m 0] (.ret (.tup [])) (G.set m (Bx (steps+1) most seen (Sa guess) j)):=by
 refine Bh mixed Tryz.func101 tr101 ?_;simp only[go_sem,seval];refine Ai (Adq hG hf hg) ?_;simp only[go_sem,seval,Bx,Ex hG,Rp,Ou,w64 Kz,q_je (show ¬steps >= most by omega)]
def A9m{G:GV}{m j:Nat}{steps most seen guess:Int}(hG:G[m]?=some (Bx steps most seen guess j))(hf:fit guess)(hg:guess≠1)(hs:¬steps<most) :
  Am 101 G [.gp m 0] (.pan (.ife 48)) (G.set m (Bx steps most seen (Sa guess) j)):=by
 refine Bh mixed Tryz.func101 tr101 ?_;simp only[go_sem,seval];refine Ai (Adq hG hf hg) ?_;simp only[go_sem,seval,Bx,Ex hG,Rp,Ou,q_jn (show steps >= most by omega)];exact⟨rfl,rfl⟩
def A9l{G:GV}{m j:Nat}{steps most seen:Int}(hG:G[m]?=some (Bx steps most seen 1 j)) :
  Am 101 G [.gp m 0] (.pan (.ife 123)) (G.set m (Bx steps most seen 0 j)):=by
 refine Bh mixed Tryz.func101 tr101 ?_;simp only[go_sem,seval];exact Db (Apd hG) trivial ⟨rfl,rfl⟩
def A9i{G:GV}{m j:Nat}{steps most seen:Int}(hG:G[m]?=some (Bx steps most seen 1 j)) :
  Am 52 G [.gp m 0] (.pan (.ife 123)) (G.set m (Bx steps most seen 0 j)):=by
 refine Bh mixed Tryz.func52 tr52 ?_;simp only[go_sem,seval];exact Db (Apd hG) trivial ⟨rfl,rfl⟩
def A8v(G:GV)(most:Int):Am 20 G [.int .i64 most] (.ret (.gp (G.length+1) 0)) (G++[[.undef],Bx 0 most 0 0 G.length]):=by
 refine Bh mixed Tryz.func20 tr20 ?_;simp only[go_sem,seval,Bx,q_ju]
def Apb{G:GV}{m j:Nat}{steps most seen guess:Int}(hG:G[m]?=some (Bx steps most seen guess j))(most':Int) :
  Am 33 G [.gp m 0,.int .i64 most'] (.ret (.tup [])) (G.set m (Bx 0 most' 0 guess j)):=by
 refine Bh mixed Tryz.func33 tr33 ?_;simp only[go_sem,seval,hG,Bx,Ex hG,Rp,Ou]
structure Vl where
 k:Int
 i:Int
 j:Int
 n:Int
 level:Int
 kids:List Nat
def Ms:List Nat->SV
 |[]=>.nils
 |i::l=>.dsl 1 ([.gp i 0]::l.map fun i=>[.gp i 0])
def Ab6:Ms []=.nils:=rfl
def Bi6{i:Nat}{l:List Nat}:Ms (i::l)=.dsl 1 ([.gp i 0]::l.map fun i=>[.gp i 0]):=q_z
def Mt{l:List Nat}(h:l≠[]):Ms l=.dsl 1 (l.map fun i=>[.gp i 0]):=by
 cases l with
 |nil=>exact absurd rfl h
 |cons i l=>rfl
def vlC(v:Vl):List SV:=[.int .i64 v.k,.int .i64 v.i,.int .i64 v.j,.int .i64 v.n,.int .i64 v.level,Ms v.kids]
def vlV(v:Vl):SV:=.dref 6 (vlC v) 0
structure Th where
 t:Tm
 env:List Nat
 bare:Bool
 w:Option Vl
 v:Option Vl
def Fw:Option Vl->SV
 |none=>.nilp
 |some v=>vlV v
def thT(x:Th):List SV:=if x.bare then [.int .i64 0,.int .i64 0,.int .i64 0,.int .i64 0,.nils] else tv x.t
def thR(x:Th):List SV:=thT x++[Cj x.env,.bool x.bare,Fw x.w,Fw x.v]
def Aug(x:Th):(thT x).length=5:=by unfold thT;split<;>simp[Ch]
def Bi3{x:Th}:(thR x).length=9:=by simp[thR,Aug]
def o8(x:Th):∃a b c d f,thT x=[a,b,c,d,f]:=by
 have h:=Aug x
 match thT x,h with
 |[a,b,c,d,f],_=>exact⟨a,b,c,d,f,rfl⟩
def Bi5{t:Tm}{e:List Nat}{w v:Option Vl}{cl:Bool}:cut cl 9 true 5 0 (thR ⟨t,e,false,w,v⟩)=.agg cl (tv t):=by simp[cut,thR,thT,Aup]
def Aue{x:Th}{v:Vl}:Fg 9 1 7 (thR x) [vlV v]=thR { x with w:=some v }:=by
 obtain⟨a,b,c,d,f,h⟩:=o8 x;have h2:thT { x with w:=some v }=[a,b,c,d,f]:=h;simp[Fg,thR,h,h2,Fw]
def Auf{x:Th}{v:Vl}:Fg 9 1 8 (thR x) [vlV v]=thR { x with v:=some v }:=by
 obtain⟨a,b,c,d,f,h⟩:=o8 x;have h2:thT { x with v:=some v }=[a,b,c,d,f]:=h;simp[Fg,thR,h,h2,Fw]
def Biz{x:Th}:(thR x)[5]?.getD .undef=Cj x.env:=by
 obtain⟨a,b,c,d,f,h⟩:=o8 x;simp[thR,h]
def Bi0{x:Th}:(thR x)[6]?.getD .undef=.bool x.bare:=by
 obtain⟨a,b,c,d,f,h⟩:=o8 x;simp[thR,h]
def Bi1{x:Th}:(thR x)[7]?.getD .undef=Fw x.w:=by
 obtain⟨a,b,c,d,f,h⟩:=o8 x;simp[thR,h]
def Bi2{x:Th}:(thR x)[8]?.getD .undef=Fw x.v:=by
 obtain⟨a,b,c,d,f,h⟩:=o8 x;simp[thR,h]
def Bkj{v:Vl}:(vlC v)[0]?.getD .undef=.int .i64 v.k:=q_z
def Bkk{v:Vl}:(vlC v)[1]?.getD .undef=.int .i64 v.i:=q_z
def Bkl{v:Vl}:(vlC v)[2]?.getD .undef=.int .i64 v.j:=q_z
def Bkm{v:Vl}:(vlC v)[3]?.getD .undef=.int .i64 v.n:=q_z
def Bkn{v:Vl}:(vlC v)[4]?.getD .undef=.int .i64 v.level:=q_z
def Bko{v:Vl}:(vlC v)[5]?.getD .undef=Ms v.kids:=q_z
def Bi4{x:Th}:Kj (thR x)=false:=by
 unfold thR thT;split
 ·rfl
 ·cases x.t;rw[As];rfl
def Bkq{v:Vl}{hp:List Ob}:De hp (vlV v)=some (vlV v,hp):=q_z
def Bkr{v:Vl}:(vlV v).ok=true:=q_z
def Bkp{v:Vl}:cellsOf (vlV v)=[vlV v]:=q_z
def Qe{v:Vl}:Fw (some v)=vlV v:=q_z
def o0:Fw none=.nilp:=q_z
attribute [go_sem] Biz Bi0 Bi1 Bi2 Bkj Bkk Bkl Bkm Bkn Bko Bi3 Bi5 Aue Auf Bi4 Bkq Bkr Bkp
def A7v{a b c d f c0 c1 c2 c3 c4 c5 c6 c7 c8:SV}{r:List (Nat×Nat×SV)}:fill [c0,c1,c2,c3,c4,c5,c6,c7,c8] ((0,5,.agg true [a,b,c,d,f])::r)=fill [a,b,c,d,f,c5,c6,c7,c8] r:=by
 simp[fill,Fg,cellsOf]
attribute [go_sem] A7v
def Zx(G:GV)(t:Tm)(e:List Nat):Am 22 G [.agg true (tv t),Cj e] (.ret (.gp G.length 0)) (G++[thR ⟨t,e,false,none,none⟩]):=by
 refine Bh mixed Tryz.func22 tr22 ?_;simp only[go_sem,seval,Aup,thR,thT,Fw]
def Eo(w:Option Vl)(v:Option Vl):List SV:=thR ⟨.mk 0 0 0 0 [],[],true,w,v⟩
def Tw(G:GV)(v:Vl):Am 104 G [vlV v] (.ret (.gp G.length 0)) (G++[Eo (some v) none]):=by
 refine Bh mixed Tryz.func104 tr104 ?_;simp only[go_sem,seval,Eo,thR,thT,Fw,vlV,Pi]
def Aal(G:GV)(level:Int):Am 84 G [.int .i64 level] (.ret (.gp G.length 0)) (G++[Eo (some ⟨2,0,0,0,level,[]⟩) none]):=by
 refine Bh mixed Tryz.func84 tr84 ?_;simp only[go_sem,seval];refine Ai (Tw G ⟨2,0,0,0,level,[]⟩) ?_;simp only[go_sem,seval]
def Ag6(k:Int):Con 100 [.int .i64 k] (.int .i64 (if k=15\/k=18\/k=19 then 0 else if k=22 then 5 else -1)):=by
 refine Au mixed Tryz.func100 tr100 ?_
 by_cases h1:k=15
 ·subst h1;simp only[go_sem,seval]
 by_cases h2:k=18
 ·subst h2;simp only[go_sem,seval]
 by_cases h3:k=19
 ·subst h3;simp only[go_sem,seval]
 by_cases h4:k=22
 ·subst h4;simp only[go_sem,seval]
 simp only[go_sem,seval,Ao h1,Ao h2,Ao h3,Ao h4,h1,h2,h3,h4,or_self,if_false]
def Ase(y:Option Vl){hp:List Ob}:De hp (Fw y)=some (Fw y,hp)/\Di hp (Fw y)=some (Fw y,hp)/\Dy hp (Fw y)=[]/\Cw (Fw y)=[]/\(Fw y).closed=true/\(Fw y).ok=true/\cellsOf (Fw y)=[Fw y]:=by
 cases y<;>exact⟨rfl,rfl,rfl,rfl,rfl,rfl,rfl⟩
def Bej{e:Option Vl}{hp:List Ob}:De hp (Fw e)=some (Fw e,hp):=(Ase e).1
def Bek{e:Option Vl}{hp:List Ob}:Dy hp (Fw e)=[]:=(Ase e).2.2.1
attribute [go_sem] Bej Bek
def Awu(n:Nat)(e:List Nat):Cx n (Cj e)=true:=by cases e<;>rfl
def Awv(n:Nat)(e:Option Vl):Cx n (Fw e)=true:=by cases e<;>rfl
attribute [go_sem] Awu Awv
def n8(k:Int)(y:Option Vl)(e:List Nat)(i:Nat)(kid:Tm):List SV:=if (i:Int)=k then Eo y none else thR ⟨kid,e,false,none,none⟩
def He(k:Int)(y:Option Vl)(e:List Nat):Nat->List Tm->GV
 |_,[]=>[]
 |i,x::l=>n8 k y e i x::He k y e (i+1) l
def Bdt(k:Int)(y:Option Vl)(e:List Nat):∀(a b:List Tm) (i:Nat),He k y e i (a++b)=He k y e i a++He k y e (i+a.length) b:=by
 intro a
 induction a with
 |nil=>intro b i;simp[He]
 |cons x a ih=>intro b i;simp only[q_ko,He,ih,q_jk];rw[show i+1+a.length=i+(a.length+1) by omega]
def Bdu(k:Int)(y:Option Vl)(e:List Nat):∀(a:List Tm) (i:Nat),(He k y e i a).length=a.length:=by
 intro a
 induction a with
 |nil=>intro i;rfl
 |cons x a ih=>intro i;simp[He,ih]
def Aww{a b:Int}(h:a=b):(a==b)=true:=by simpa using h
def A8w{G:GV}{m:Nat}(k' i' j' n':Int)(l:List Tm)(hb:l.length*56<=140737488355328)(hz:l≠[])(e:List Nat)(k:Int)(y:Option Vl)(hy:∀q:Nat,q<l.length->(q:Int)=k->∃v,y=some v) :
  Am 116 G [.gp m 0,.agg true (tv (.mk k' i' j' n' l)),Cj e,.int .i64 k,Fw y] (.ret (vlV ⟨k',i',j',n',0,List.range' G.length l.length⟩)) (G++He k y e 0 l):=by
 refine Bh mixed Tryz.func116 tr116 ?_;rw[As];have Av:0<l.length:=List.length_pos_iff.2 hz;have h3:l.length<=140737488355328:=by omega
 have e1:(0:Int)<=(l.length:Int):=by omega
 have e2:((l.length:Int)*8<=140737488355328):=by omega
 have e3:((l.length:Int)<=140737488355328):=by omega
 simp only[go_sem,seval,q_g,h3,q_jn (show (l.length:Int) > 0 by omega),e1,e2,e3,Int.le_refl];have Im:∀x,x<=l.length->(G++He k y e 0 (l.take x)).length=G.length+x:=fun x hx=>by rw[q_jr,Bdu,q_kg,Nat.min_eq_left hx]
 have So:∀x,(h:x<l.length)->G++He k y e 0 (l.take (x+1))=(G++He k y e 0 (l.take x))++[n8 k y e x l[x]]:=fun x h=>by
  rw[List.take_succ_eq_append_getElem h,Bdt,q_ju,q_kg,Nat.min_eq_left (by omega),q_jg];rfl
 refine Ln (fun x=>⟨(.gp m 0::.J::Cj e::.int .i64 k::Fw y::.J::.ref 1 0 0 0::jk4 (.ref 2 0 0 0::Do (jk8 (.dsl 5 (l.map tv)::.int .i64 l.length::.int .i64 x::Do (jk8 (jk2 ([]))))))),[gOb (G++He k y e 0 (l.take x)),⟨true,5,[[.int .i64 k',.int .i64 i',.int .i64 j',.int .i64 n',.dsl 5 (l.map tv)]],0,0,true⟩,⟨true,6,[[.int .i64 k',.int .i64 i',.int .i64 j',.int .i64 n',.int .i64 0,.osl 3 0 0 l.length]],0,0,false⟩,⟨false,1,((List.range' G.length x).map fun i=>[SV.gp i 0])++List.replicate (l.length-x) [.nilp],0,0,true⟩]⟩) l.length (fun x hx=>?_) ?_
 ·by_cases Ag:x<l.length
  ·have e0:(0:Int)<=(x:Int):=by omega
   have hg:(l.map tv)[x]?.getD []=tv l[x]:=by rw[q_ji,q_f Ag];rfl
   have hset:(((List.range' G.length x).map fun i=>[SV.gp i 0])++List.replicate (l.length-x) [SV.nilp]).set x [SV.gp (G.length+x) 0]=((List.range' G.length (x+1)).map fun i=>[SV.gp i 0])++List.replicate (l.length-(x+1)) [SV.nilp]  :=by
    rw[List.set_append_right _ _ (by simp),q_g,List.length_range',Nat.sub_self,show l.length-x=(l.length-(x+1))+1 by omega,List.replicate_succ,List.set_cons_zero,List.range'_concat,q_ku,q_ju,Nat.one_mul];rfl
   by_cases hk:(x:Int)=k
   ·obtain⟨yv,rfl⟩:=hy x Ag hk;simp only[go_sem,seval,q_jn (show (x:Int)<l.length by omega),e0,q_g,Ag,hg,Ch,Aww hk];refine⟨by omega,Ai (Tw _ yv) ?_⟩;simp only[go_sem,seval,Im x (Nat.le_of_lt Ag),q_jr,q_g,List.length_range',List.length_replicate,e0,hset,show (x:Int)<l.length by omega,show x<x+(l.length-x) by omega,w64 (show fit ((x:Int)+1) by unfold fit;omega)];refine⟨Ag,?_⟩;rw[So x Ag,n8,if_pos hk];exact Fp 4 (by simp[Ba,Pi]) (by simp only[List.take_succ_cons,List.take_zero]) (by simp only[go_sem,seval,List.forall_mem_cons]) (by simp[Cx,gOb])
   ·simp only[go_sem,seval,q_jn (show (x:Int)<l.length by omega),e0,q_g,Ag,hg,Ch,Ao hk];refine⟨by omega,Ai (Zx _ _ e) ?_⟩;simp only[go_sem,seval,Im x (Nat.le_of_lt Ag),q_jr,q_g,List.length_range',List.length_replicate,e0,hset,show (x:Int)<l.length by omega,show x<x+(l.length-x) by omega,w64 (show fit ((x:Int)+1) by unfold fit;omega)];refine⟨Ag,?_⟩;rw[So x Ag,n8,if_neg hk];exact Fp 4 (by simp[Ba,Pi]) (by simp only[List.take_succ_cons,List.take_zero]) (by simp only[go_sem,seval,List.forall_mem_cons]) (by simp[Cx,gOb])
  ·have:x=l.length:=by omega
   subst this;simp only[go_sem,seval,q_je (show ¬((l.length:Nat):Int)<l.length by omega),q_km,Nat.sub_self,List.replicate_zero];rw[vlV,vlC,Mt (by simp[List.range'_eq_nil_iff];omega),q_js (by simp)]
 ·simp only[List.take_zero,He,q_k,List.range'_zero,q_i,q_kn,q_kr];exact Bk (by simp[Ba])
def Dl{C:CT}{b:AC}{Q:AE->St->Prop}{n:Nat}{s s':St}(h:Wk s s')(k:vcI C b Q n s'):vcI C b Q n s:=by
 cases n with
 |zero=>exact k
 |succ n=>
  obtain⟨s0,h1,h2⟩:=k;exact⟨s0,.trans h h1,h2⟩
def EvL(G:GV)(m:Nat)(t:Tm)(e:List Nat)(out:HOut)(G':GV):Prop:=
 ∃n,vcI (Bp Tryz.prog fun x G1=>out=.pan x/\G1=G') a98_54 (bk 0 (rtG [.t 6] out G')) n ⟨(.gp m 0::.J::Cj e::.J::.ref 1 0 0 0::Bo (Bo (Bo (Bo (Do (.J::[])))))),[gOb G,⟨true,5,[tv t],0,0,true⟩]⟩
def Fs{G G':GV}{m:Nat}{t:Tm}{e:List Nat}{out:HOut}(h:EvL G m t e out G'):Am 98 G [.gp m 0,.agg true (tv t),Cj e] out G':=by
 refine Bh mixed Tryz.func98 tr98 ?_;obtain⟨n,h⟩:=h;simp only[go_sem,seval,Ch];exact Cv n (Dl (Bk (by simp[Ba])) h)
def Ql:HOut->Prop
 |.ret r=>∃v,r=vlV v
 |.pan _=>True
def A7p{G G':GV}{m i id:Nat}{j n:Int}{l:List Tm}{e:List Nat}{out:HOut}(hf:fit i)(hi:e[i]?=some id)(h:Am 79 G [.gp m 0,.gp id 0] out G')(ho:Ql out):EvL G m (.mk 2 i j n l) e out G':=by
 refine⟨1,Bd ?_⟩;rw[As];simp only[go_sem,seval];refine Af (Am9 e i hf) ?_;simp only[go_sem,seval,hi];cases out with
 |ret r=>
  obtain⟨v,rfl⟩:=ho;refine Ai h ?_;simp only[go_sem,seval]
 |pan x=>exact Db h trivial ⟨rfl,rfl⟩
def A7h{G:GV}{m i:Nat}{j n:Int}{l:List Tm}{e:List Nat}(hf:fit i)(hi:e[i]?=none)(he:fit e.length):EvL G m (.mk 2 i j n l) e (.ret (vlV ⟨2,0,0,0,(e.length:Int)-i-1,[]⟩)) G:=by
 have hle:e.length<=i:=q_ld.1 hi;refine⟨1,Bd ?_⟩;rw[As];simp only[go_sem,seval];refine Af (Am9 e i hf) ?_;simp only[go_sem,seval,hi];refine Af (Ag5 e) ?_;unfold fit at hf he;simp only[go_sem,seval,w64 (show fit ((e.length:Int)-i) by unfold fit;omega),w64 (show fit ((e.length:Int)-i-1) by unfold fit;omega),vlV,vlC,Ab6]
def Ans{k:Int}(h:k≠15/\k≠18/\k≠19/\k≠22):Con 100 [.int .i64 k] (.int .i64 (-1)):=by
 have:=Ag6 k
 rwa [if_neg (by omega),if_neg h.2.2.2] at this
def Lq{k:Int}(h:k=15\/k=18\/k=19):Con 100 [.int .i64 k] (.int .i64 0):=by
 have:=Ag6 k
 rwa [if_pos h] at this
def Xm:Con 100 [.int .i64 22] (.int .i64 5):=Ag6 22
def A8x{G:GV}{m:Nat}(k' i' j' n':Int)(e:List Nat)(k:Int)(y:Option Vl) :
  Am 116 G [.gp m 0,.agg true (tv (.mk k' i' j' n' [])),Cj e,.int .i64 k,Fw y] (.ret (vlV ⟨k',i',j',n',0,[]⟩)) G:=by
 refine Bh mixed Tryz.func116 tr116 ?_;rw[As];simp only[go_sem,seval,q_i];refine Cv 1 (Bd ?_);simp only[go_sem,seval,vlV,vlC,Ab6]
def Kl(k' i' j' n':Int)(l:List Tm)(a:Nat):Vl:=⟨k',i',j',n',0,List.range' a l.length⟩
def Aam{G:GV}{m:Nat}(k' i' j' n':Int)(l:List Tm)(hb:l.length*56<=140737488355328)(e:List Nat)(k:Int)(y:Option Vl)(hy:∀q:Nat,q<l.length->(q:Int)=k->∃v,y=some v) :
  Am 116 G [.gp m 0,.agg true (tv (.mk k' i' j' n' l)),Cj e,.int .i64 k,Fw y] (.ret (vlV (Kl k' i' j' n' l G.length))) (G++He k y e 0 l):=by
 by_cases hz:l=[]
 ·subst hz;have:=A8x (G:=G) (m:=m) k' i' j' n' e k y;simpa [Kl,He] using this
 ·exact A8w k' i' j' n' l hb hz e k y hy
def A7m{G:GV}{m:Nat}{k i j n:Int}{l:List Tm}{e:List Nat}(hb:l.length*56<=140737488355328)(hk:k≠2)(hs:k≠15/\k≠18/\k≠19/\k≠22):EvL G m (.mk k i j n l) e (.ret (vlV (Kl k i j n l G.length))) (G++He (-1) none e 0 l):=by
 refine⟨1,Bd ?_⟩;have hc:=Aam (G:=G) (m:=m) k i j n l hb e (-1) none (fun q _ h=>by omega);rw[o0,As] at hc;rw[As]
 repeat' first
 |simp only[go_sem,seval,Ao hk]
 |refine Af (Ans hs) ?_
 |refine Ai hc ?_
def Dh{α:Type}{l:List α}{i:Nat}{x:α}(h:l[i]?=some x):i<l.length:=by
 rcases q_jo i l.length with h1|h1
 ·exact h1
 ·rw[q_jd h1] at h;cases h
def Gq{l:List Nat}{q id:Nat}(h:l[q]?=some id):Ms l=.dsl 1 (l.map fun i=>[.gp i 0])/\(q:Int)<l.length/\q<l.length/\(l.map fun i=>[SV.gp i 0])[q]?.getD []=[.gp id 0]:=by
 have hq:q<l.length:=by
  rcases q_jo q l.length with h1|h1
  ·exact h1
  ·rw[q_jd h1] at h;cases h
 refine⟨Mt (by rintro rfl;simp at hq),by omega,hq,by simp[h]⟩
def A7f{G G1 G2 G':GV}{m id:Nat}{i' j' n':Int}{f a:Tm}{e:List Nat}{out:HOut}{y:Vl}{th:Th}(hy:Am 98 G [.gp m 0,.agg true (tv f),Cj e] (.ret (vlV y)) G1)(yk:y.k=14)
  (Br:y.kids[1]?=some id) (ht:Am 101 G1 [.gp m 0] (.ret (.tup [])) G2) (Jf:G2[id]?=some (thR th)) (hb:th.bare=false) (hl:fit ((th.env.length:Int)+1))
  (h:EvL (G2++[thR ⟨a,e,false,none,none⟩]) m th.t (G2.length::th.env) out G'):EvL G m (.mk 15 i' j' n' [f,a]) e out G':=by
 obtain⟨n,h⟩:=h;refine⟨n+1,Bd ?_⟩;obtain⟨t,te,b,w,v⟩:=th;simp only at hb hl;subst hb;obtain⟨k1,k2,k3,k4⟩:=Gq Br;rw[As];simp only[go_sem,seval,q_h,q_i];refine Af (Lq (.inl rfl)) ?_;simp only[go_sem,seval,q_h,q_i,Ch];refine Ai hy ?_;simp only[go_sem,seval,vlV,yk];refine Ai ht ?_;have k2':(1:Int)<y.kids.length:=by omega
 have Ag:id<G2.length:=Dh Jf
 repeat' first
 |simp only[go_sem,seval,vlV,yk,k1,k2',k3,k4,Jf,Ag,q_h,q_i,Ch,q_g]
 |refine Ai (Zx _ a e) ?_
 |refine Af (Zm te _ hl) ?_
 exact Dl (Bk (by simp[Ba])) h
def Aob{G G1 G2:GV}{m:Nat}{x:SV}{i' j' n':Int}{f a:Tm}{e:List Nat}{y:Vl}(hy:Am 98 G [.gp m 0,.agg true (tv f),Cj e] (.ret (vlV y)) G1)(yk:y.k=14)
  (ht:Am 101 G1 [.gp m 0] (.pan x) G2):EvL G m (.mk 15 i' j' n' [f,a]) e (.pan x) G2:=by
 refine⟨1,Bd ?_⟩;rw[As];simp only[go_sem,seval,q_h,q_i];refine Af (Lq (.inl rfl)) ?_;simp only[go_sem,seval,q_h,q_i,Ch];refine Ai hy ?_;simp only[go_sem,seval,vlV,yk];exact Db ht trivial ⟨rfl,rfl⟩
def Aoa{G G1:GV}{m:Nat}{i' j' n':Int}{f a:Tm}{e:List Nat}{x:SV}(hy:Am 98 G [.gp m 0,.agg true (tv f),Cj e] (.pan x) G1):EvL G m (.mk 15 i' j' n' [f,a]) e (.pan x) G1:=by
 refine⟨1,Bd ?_⟩;rw[As];simp only[go_sem,seval,q_h,q_i];refine Af (Lq (.inl rfl)) ?_;simp only[go_sem,seval,q_h,q_i,Ch];exact Db hy trivial ⟨rfl,rfl⟩
def A7g{G G1:GV}{m:Nat}{i' j' n':Int}{f a:Tm}{e:List Nat}{y:Vl}(hy:Am 98 G [.gp m 0,.agg true (tv f),Cj e] (.ret (vlV y)) G1)(yk:y.k≠14):EvL G m (.mk 15 i' j' n' [f,a]) e (.ret (vlV (Kl 15 i' j' n' [f,a] G1.length))) (G1++He 0 (some y) e 0 [f,a]):=by
 refine⟨1,Bd ?_⟩;have hc:=Aam (G:=G1) (m:=m) 15 i' j' n' [f,a] (by simp) e 0 (some y) (fun q _ h=>⟨y,rfl⟩);rw[Qe,As] at hc;rw[As];simp only[go_sem,seval,q_h,q_i] at hc |-;refine Af (Lq (.inl rfl)) ?_
 repeat' first
 |simp only[go_sem,seval,q_h,q_i,Ch,vlV,Ao yk]
 |refine Ai hy ?_
 |refine Ai hc ?_
def Aoc{G G1:GV}{m:Nat}{i' j' n':Int}{f:Tm}{e:List Nat}{x:SV}(hy:Am 98 G [.gp m 0,.agg true (tv f),Cj e] (.pan x) G1):EvL G m (.mk 18 i' j' n' [f]) e (.pan x) G1:=by
 refine⟨1,Bd ?_⟩;rw[As];simp only[go_sem,seval,q_h,q_i];refine Af (Lq (.inr (.inl rfl))) ?_;simp only[go_sem,seval,q_h,q_i,Ch];exact Db hy trivial ⟨rfl,rfl⟩
def A7j{G G1:GV}{m:Nat}{i' j' n':Int}{f:Tm}{e:List Nat}{y:Vl}(hy:Am 98 G [.gp m 0,.agg true (tv f),Cj e] (.ret (vlV y)) G1)(yk:y.k≠17):EvL G m (.mk 18 i' j' n' [f]) e (.ret (vlV (Kl 18 i' j' n' [f] G1.length))) (G1++He 0 (some y) e 0 [f]):=by
 refine⟨1,Bd ?_⟩;have hc:=Aam (G:=G1) (m:=m) 18 i' j' n' [f] (by simp) e 0 (some y) (fun q _ h=>⟨y,rfl⟩);rw[Qe,As] at hc;rw[As];simp only[go_sem,seval,q_h,q_i] at hc |-;refine Af (Lq (.inr (.inl rfl))) ?_
 repeat' first
 |simp only[go_sem,seval,q_h,q_i,Ch,vlV,Ao yk]
 |refine Ai hy ?_
 |refine Ai hc ?_
def Aog{G G1:GV}{m:Nat}{i' j' n':Int}{f:Tm}{e:List Nat}{x:SV}(hy:Am 98 G [.gp m 0,.agg true (tv f),Cj e] (.pan x) G1):EvL G m (.mk 19 i' j' n' [f]) e (.pan x) G1:=by
 refine⟨1,Bd ?_⟩;rw[As];simp only[go_sem,seval,q_h,q_i];refine Af (Lq (.inr (.inr rfl))) ?_;simp only[go_sem,seval,q_h,q_i,Ch];exact Db hy trivial ⟨rfl,rfl⟩
def A7o{G G1:GV}{m:Nat}{i' j' n':Int}{f:Tm}{e:List Nat}{y:Vl}(hy:Am 98 G [.gp m 0,.agg true (tv f),Cj e] (.ret (vlV y)) G1)(yk:y.k≠17):EvL G m (.mk 19 i' j' n' [f]) e (.ret (vlV (Kl 19 i' j' n' [f] G1.length))) (G1++He 0 (some y) e 0 [f]):=by
 refine⟨1,Bd ?_⟩;have hc:=Aam (G:=G1) (m:=m) 19 i' j' n' [f] (by simp) e 0 (some y) (fun q _ h=>⟨y,rfl⟩);rw[Qe,As] at hc;rw[As];simp only[go_sem,seval,q_h,q_i] at hc |-;refine Af (Lq (.inr (.inr rfl))) ?_
 repeat' first
 |simp only[go_sem,seval,q_h,q_i,Ch,vlV,Ao yk]
 |refine Ai hy ?_
 |refine Ai hc ?_
def Aoe{G G1:GV}{m:Nat}{i' j' n':Int}{a0 a1 a2 a3 a4 f:Tm}{e:List Nat}{x:SV}(hy:Am 98 G [.gp m 0,.agg true (tv f),Cj e] (.pan x) G1):EvL G m (.mk 22 i' j' n' [a0,a1,a2,a3,a4,f]) e (.pan x) G1:=by
 refine⟨1,Bd ?_⟩;rw[As];simp only[go_sem,seval,q_h,q_i];refine Af (Xm) ?_;simp only[go_sem,seval,q_h,q_i,Ch];exact Db hy trivial ⟨rfl,rfl⟩
def A7l{G G1:GV}{m:Nat}{i' j' n':Int}{a0 a1 a2 a3 a4 f:Tm}{e:List Nat}{y:Vl}(hy:Am 98 G [.gp m 0,.agg true (tv f),Cj e] (.ret (vlV y)) G1)(yk:y.k≠21):EvL G m (.mk 22 i' j' n' [a0,a1,a2,a3,a4,f]) e (.ret (vlV (Kl 22 i' j' n' [a0,a1,a2,a3,a4,f] G1.length))) (G1++He 5 (some y) e 0 [a0,a1,a2,a3,a4,f]):=by
 refine⟨1,Bd ?_⟩;have hc:=Aam (G:=G1) (m:=m) 22 i' j' n' [a0,a1,a2,a3,a4,f] (by simp) e 5 (some y) (fun q _ h=>⟨y,rfl⟩);rw[Qe,As] at hc;rw[As];simp only[go_sem,seval,q_h,q_i] at hc |-;refine Af (Xm) ?_
 repeat' first
 |simp only[go_sem,seval,q_h,q_i,Ch,vlV,Ao yk]
 |refine Ai hy ?_
 |refine Ai hc ?_
def A7i{G G1 G2 G':GV}{m id:Nat}{i' j' n':Int}{f:Tm}{e:List Nat}{out:HOut}{y:Vl}(hy:Am 98 G [.gp m 0,.agg true (tv f),Cj e] (.ret (vlV y)) G1)(yk:y.k=17)
  (Br:y.kids[2]?=some id) (ht:Am 101 G1 [.gp m 0] (.ret (.tup [])) G2)
  (h:Am 79 G2 [.gp m 0,.gp id 0] out G') (ho:Ql out):EvL G m (.mk 18 i' j' n' [f]) e out G':=by
 refine⟨1,Bd ?_⟩;obtain⟨k1,k2,k3,k4⟩:=Gq Br;have k2':(2:Int)<y.kids.length:=by omega
 rw[As];simp only[go_sem,seval,q_h,q_i];refine Af (Lq (.inr (.inl rfl))) ?_
 repeat' first
 |simp only[go_sem,seval,q_h,q_i,Ch,vlV,yk,k1,k2',k3,k4,q_g]
 |refine Ai hy ?_
 |refine Ai ht ?_
 cases out with
 |ret r=>
  obtain⟨v,rfl⟩:=ho;refine Ai h ?_;simp only[go_sem,seval]
 |pan x=>exact Db h trivial ⟨rfl,rfl⟩
def Aod{G G1 G2:GV}{m:Nat}{x:SV}{i' j' n':Int}{f:Tm}{e:List Nat}{y:Vl}(hy:Am 98 G [.gp m 0,.agg true (tv f),Cj e] (.ret (vlV y)) G1)(yk:y.k=17)
  (ht:Am 101 G1 [.gp m 0] (.pan x) G2):EvL G m (.mk 18 i' j' n' [f]) e (.pan x) G2:=by
 refine⟨1,Bd ?_⟩;rw[As];simp only[go_sem,seval,q_h,q_i];refine Af (Lq (.inr (.inl rfl))) ?_;simp only[go_sem,seval,q_h,q_i,Ch];refine Ai hy ?_;simp only[go_sem,seval,vlV,yk];exact Db ht trivial ⟨rfl,rfl⟩
def A7n{G G1 G2 G':GV}{m id:Nat}{i' j' n':Int}{f:Tm}{e:List Nat}{out:HOut}{y:Vl}(hy:Am 98 G [.gp m 0,.agg true (tv f),Cj e] (.ret (vlV y)) G1)(yk:y.k=17)
  (Br:y.kids[3]?=some id) (ht:Am 101 G1 [.gp m 0] (.ret (.tup [])) G2)
  (h:Am 79 G2 [.gp m 0,.gp id 0] out G') (ho:Ql out):EvL G m (.mk 19 i' j' n' [f]) e out G':=by
 refine⟨1,Bd ?_⟩;obtain⟨k1,k2,k3,k4⟩:=Gq Br;have k2':(3:Int)<y.kids.length:=by omega
 rw[As];simp only[go_sem,seval,q_h,q_i];refine Af (Lq (.inr (.inr rfl))) ?_
 repeat' first
 |simp only[go_sem,seval,q_h,q_i,Ch,vlV,yk,k1,k2',k3,k4,q_g]
 |refine Ai hy ?_
 |refine Ai ht ?_
 cases out with
 |ret r=>
  obtain⟨v,rfl⟩:=ho;refine Ai h ?_;simp only[go_sem,seval]
 |pan x=>exact Db h trivial ⟨rfl,rfl⟩
def Aoh{G G1 G2:GV}{m:Nat}{x:SV}{i' j' n':Int}{f:Tm}{e:List Nat}{y:Vl}(hy:Am 98 G [.gp m 0,.agg true (tv f),Cj e] (.ret (vlV y)) G1)(yk:y.k=17)
  (ht:Am 101 G1 [.gp m 0] (.pan x) G2):EvL G m (.mk 19 i' j' n' [f]) e (.pan x) G2:=by
 refine⟨1,Bd ?_⟩;rw[As];simp only[go_sem,seval,q_h,q_i];refine Af (Lq (.inr (.inr rfl))) ?_;simp only[go_sem,seval,q_h,q_i,Ch];refine Ai hy ?_;simp only[go_sem,seval,vlV,yk];exact Db ht trivial ⟨rfl,rfl⟩
def A7k{G G1 G2 G':GV}{m:Nat}{i' j' n':Int}{a0 a1 a2 a3 a4 f:Tm}{e:List Nat}{out:HOut}{y:Vl}(hy:Am 98 G [.gp m 0,.agg true (tv f),Cj e] (.ret (vlV y)) G1)(yk:y.k=21)
  (ht:Am 101 G1 [.gp m 0] (.ret (.tup [])) G2)
  (h:EvL G2 m a3 e out G'):EvL G m (.mk 22 i' j' n' [a0,a1,a2,a3,a4,f]) e out G':=by
 obtain⟨n,h⟩:=h;refine⟨n+1,Bd ?_⟩;rw[As]
 repeat' first
 |simp only[go_sem,seval,q_h,q_i,Ch,vlV,yk,q_g]
 |refine Af Xm ?_
 |refine Ai hy ?_
 |refine Ai ht ?_
 exact Dl (Bk (by simp[Ba])) h
def Aof{G G1 G2:GV}{m:Nat}{x:SV}{i' j' n':Int}{a0 a1 a2 a3 a4 f:Tm}{e:List Nat}{y:Vl}(hy:Am 98 G [.gp m 0,.agg true (tv f),Cj e] (.ret (vlV y)) G1)(yk:y.k=21)
  (ht:Am 101 G1 [.gp m 0] (.pan x) G2):EvL G m (.mk 22 i' j' n' [a0,a1,a2,a3,a4,f]) e (.pan x) G2:=by
 refine⟨1,Bd ?_⟩;rw[As]
 repeat' first
 |simp only[go_sem,seval,q_h,q_i,Ch,vlV,yk]
 |refine Af Xm ?_
 |refine Ai hy ?_
 exact Db ht trivial ⟨rfl,rfl⟩
def Au2{G:GV}{m id:Nat}{th:Th}{v:Vl}(h:G[id]?=some (thR th))(hw:th.w=some v):Am 79 G [.gp m 0,.gp id 0] (.ret (vlV v)) G:=by
 refine Bh mixed Tryz.func79 tr79 ?_;obtain⟨t,te,b,w,x⟩:=th;simp only at hw;subst hw;simp only[go_sem,seval,h,Qe,vlV]
def Bks{G G1:GV}{m id:Nat}{th th1:Th}{v:Vl}(h:G[id]?=some (thR th))(hw:th.w=none)(hb:th.bare=false)(he:Am 98 G [.gp m 0,.agg true (tv th.t),Cj th.env] (.ret (vlV v)) G1)(h1:G1[id]?=some (thR th1)) :
  Am 79 G [.gp m 0,.gp id 0] (.ret (vlV v)) (G1.set id (thR { th1 with w:=some v })):=by
 refine Bh mixed Tryz.func79 tr79 ?_;obtain⟨t,te,b,w,x⟩:=th;simp only at hw hb he;subst hw hb;simp only[go_sem,seval,h,o0];refine Ai he ?_;have Ag:=Dh h1;simp only[go_sem,seval,h1,Aue,Ex h1,Ou,Qe,q_jq Ag]
def Au3{G G1:GV}{m id:Nat}{th:Th}{x:SV}(h:G[id]?=some (thR th))(hw:th.w=none)(hb:th.bare=false)(he:Am 98 G [.gp m 0,.agg true (tv th.t),Cj th.env] (.pan x) G1) :
  Am 79 G [.gp m 0,.gp id 0] (.pan x) G1:=by
 refine Bh mixed Tryz.func79 tr79 ?_;obtain⟨t,te,b,w,y⟩:=th;simp only at hw hb he;subst hw hb;simp only[go_sem,seval,h,o0];exact Db he trivial ⟨rfl,rfl⟩
def Bad{G:GV}{m id:Nat}{th:Th}{v:Vl}(h:G[id]?=some (thR th))(hv:th.v=some v):Am 53 G [.gp m 0,.gp id 0] (.ret (vlV v)) G:=by
 refine Bh mixed Tryz.func53 tr53 ?_;obtain⟨t,te,b,w,x⟩:=th;simp only at hv;subst hv;simp only[go_sem,seval,h,Qe,vlV]
def Apm{G G1:GV}{m id:Nat}{th:Th}{x:SV}(h:G[id]?=some (thR th))(hv:th.v=none)(he:Am 79 G [.gp m 0,.gp id 0] (.pan x) G1) :
  Am 53 G [.gp m 0,.gp id 0] (.pan x) G1:=by
 refine Bh mixed Tryz.func53 tr53 ?_;obtain⟨t,te,b,w,y⟩:=th;simp only at hv;subst hv;simp only[go_sem,seval,h,o0];exact Db he trivial ⟨rfl,rfl⟩
def HContract.weaken{P:Program}{f:Nat}{G G':GV}{args:List SV}{r r':SV}(h:HContract P f G args (.ret r) G')(hl:Le r r'):HContract P f G args (.ret r') G':=by
 intro m w vs h1 h2 h3 h4;refine Calls.mono (h m w vs h1 h2 h3 h4) (fun e w' he=>?_);obtain⟨m',⟨v,a1,a2⟩,a3⟩:=he;exact⟨m',⟨v,a1,hl.rep a2⟩,a3⟩
def A9p{G:GV}{id:Nat}{th:Th}(Jf:G[id]?=some (thR th))(hb:th.bare=false)(deep:Int)(hd:fit deep)(hl:fit ((th.env.length:Int)+1)) :
  Am 56 G [.gp id 0,.int .i64 deep,.int .i64 1] (.ret (.gp (G.length+1) 0)) (G++[Eo (some ⟨2,0,0,0,deep,[]⟩) none,thR ⟨th.t,G.length::th.env,false,none,none⟩]):=by
 obtain⟨out,ho⟩:∃out,out=HOut.ret (.gp (G.length+1) 0):=⟨_,rfl⟩
 obtain⟨G',Ng⟩:∃G',G'=G++[Eo (some ⟨2,0,0,0,deep,[]⟩) none,thR ⟨th.t,G.length::th.env,false,none,none⟩]:=⟨_,rfl⟩
 rw[<-ho,<-Ng];refine Bh mixed Tryz.func56 tr56 ?_;obtain⟨t,te,b,w,v⟩:=th;simp only at hb hl Ng;subst hb;have Ag:=Dh Jf
 repeat' first
 |simp only[go_sem,seval,Jf,Int.add_zero,w64 hd,Ag]
 |refine Cv 2 (Bd ?_)
 |refine Ai (Aal G deep) ?_
 |refine Af (Zm te _ hl) ?_
 |refine Bd ?_
 refine Ai (Zx _ t _) ?_;subst ho Ng;simp only[go_sem,seval,q_ju,q_jr]
def Cf(k p:Int):Int:=
 if k=3\/k=5\/k=6\/k=7\/k=8\/k=9\/k=13\/k=14\/k=16\/k=17 then (if p=1 then 1 else 0)
 else if k=4 then (if p=1\/p=2 then 1 else 0)
 else if k=22 then (if p=2 then 2 else 0) else 0
def Qq(k p:Int):0<=Cf k p/\Cf k p<=2:=by
 unfold Cf
 repeat' split
 all_goals omega
def Am1(k p:Int):Con 55 [.int .i64 k,.int .i64 p] (.int .i64 (Cf k p)):=by
 refine Au mixed Tryz.func55 tr55 ?_
 by_cases h:k=3\/k=5\/k=6\/k=7\/k=8\/k=9\/k=13\/k=14\/k=16\/k=17
 ·have e:Cf k p=if p=1 then 1 else 0:=by unfold Cf;rw[if_pos h]
  rw[e];rcases h with rfl|rfl|rfl|rfl|rfl|rfl|rfl|rfl|rfl|rfl <;>
   (cases hp:(p==1)<;>simp only[beq_iff_eq,beq_eq_false_iff_ne,ne_eq] at hp<;>simp only[go_sem,seval,hp,Ao])
 ·by_cases h4:k=4
  ·subst h4;have e:Cf 4 p=if p=1\/p=2 then 1 else 0:=by unfold Cf;rw[if_neg (by decide),if_pos rfl]
   rw[e]
   by_cases h1:p=1
   ·subst h1;simp only[go_sem,seval]
   ·by_cases h2:p=2
    ·subst h2;simp only[go_sem,seval]
    ·rw[if_neg (by omega)];simp only[go_sem,seval,Ao h1,Ao h2]
  ·by_cases Dv:k=22
   ·subst Dv;have e:Cf 22 p=if p=2 then 2 else 0:=by unfold Cf;rw[if_neg (by decide),if_neg (by decide),if_pos rfl]
    rw[e]
    by_cases h2:p=2
    ·subst h2;simp only[go_sem,seval]
    ·rw[if_neg h2];simp only[go_sem,seval,Ao h2]
   ·have e:Cf k p=0:=by unfold Cf;rw[if_neg h,if_neg h4,if_neg Dv]
    rw[e];simp only[go_sem,seval,Ao (show k≠3 by omega),Ao h4,Ao (show k≠5 by omega),Ao (show k≠6 by omega),Ao (show k≠7 by omega),Ao (show k≠8 by omega),Ao (show k≠9 by omega),Ao (show k≠13 by omega),Ao (show k≠14 by omega),Ao (show k≠16 by omega),Ao (show k≠17 by omega),Ao Dv]
open Go Go.Proofs Go.Proofs.YtgdkddjdhijfnaaGreatDoor
def af121:AF:=⟨101,[(.cell 8 true 5),(.t 9),(.t 10)],(Ab [oP 8 Cb,oP 9 (.mv (cI 0)),oP 10 (.mv (cI 0))] (.seq (Ab [Aa 16 2,oP 17 (An .lss 16 0),Aa 18 17,oG 19 18 false 0 (mT 2),oG 20 18 false 0 (An .gtr 19 1000),oP 21 (Bf 18 20),Aa 22 21,oG 23 22 false 0 (mT 3),oG 24 22 false 0 (An .lss 23 0),oP 25 (Bf 22 24),Aa 26 25,oG 27 26 false 0 (mT 3),oG 28 26 false 0 (An .gtr 27 1000),oP 29 (Bf 26 28)] (Ae 29 (Ab [oP 30 (Da []),oN (Al 5 8 30),oP 9 (.mv (cI 1)),oP 10 (.mv (cI 0))] .ret) .skip)) (Ab [Aa 31 0,oP 32 (.len true (.t 31)),Aa 33 1,Aa 34 2,Aa 35 3,oP 36 (.build [.nils,(iS 0),(iS 0),.nils,(iS 0),(iS 0),(.bool false),(iS 0)] [(2,(1,(.t 32))),(3,(1,(.t 33))),(4,(1,(.t 34))),(5,(1,(.t 35)))]),oP 37 (.boxg (.t 36)),Aa 11 37] (Ab [Aa 39 0,oP 40 (.call 120 [(.t 39)]),Aa 38 40,oP 41 (.ext (.t 38) 0),oP 42 (.ext (.t 38) 1),oP 43 (.ext (.t 38) 2),Aa 12 41,Aa 13 42,Aa 14 43] (.seq (Ab [Aa 44 13,oP 45 (An .neq 44 0)] (Ae 45 (Ab [Aa 46 11,Aa 47 14,oP 48 (Ah 46),oP 49 (Ac 2 48),oN (Al 1 49 47)] (Ar [Aa 51 0,Aa 52 14,oP 53 (.slc 0 (.t 51) none (some (.t 52))),oP 54 (.call 120 [(.t 53)]),Aa 50 54,oP 55 (.ext (.t 50) 0),oP 56 (.ext (.t 50) 1),oP 57 (.ext (.t 50) 2),Aa 12 55])) .skip)) (Ab [Aa 58 11,Aa 59 12,oP 60 (Ah 58),oP 61 (Ac 0 60),oN (Al 1 61 59)] (Ab [Aa 62 11,oP 63 (.hcall 126 [(.t 62),(cI 0)]),oP 15 Cb,oN (Al 5 15 63)] (.seq (Ce [Aa 64 11,oI 65 1 (Ah 64),oI 66 2 (Ac 6 65),oI 67 3 (Ad 66),oI 68 4 (.un .not (.t 67)),oI 69 5 (mT 68),oG 70 69 true 6 (mT 11),oG 71 69 true 7 (Ah 70),oG 72 69 true 8 (Ac 1 71),oG 73 69 true 9 (Ad 72),oG 74 69 true 10 (mT 11),oG 75 69 true 11 (Ah 74),oG 76 69 true 12 (Ac 0 75),oG 77 69 true 13 (Ad 76),oG 78 69 true 14 (.len false (.t 77)),oG 79 69 true 15 (Bb .lss 73 78),oG 80 69 true 16 (mT 79),oG 81 80 false 17 (mT 13),oG 82 80 false 18 (An .neq 81 0),oG 83 69 true 19 (Bf 80 82),oI 84 20 (Az 69 83)] (Ae 84 (Ar [Aa 85 11,Aa 86 11,oP 87 (Ah 86),oP 88 (Ac 1 87),oP 89 (Ad 88),oP 90 (.hcall 127 [(.t 85),(.t 89)])]) .skip)) (.seq (Ab [Aa 91 11,oP 92 (Ah 91),oP 93 (Ac 6 92),oP 94 (Ad 93)] (Ae 94 (Ce [oP 95 (Da []),oI 96 1 (mT 11),oI 97 2 (Ah 96),oI 98 3 (Ac 7 97),⟨(some 99),(Ad 98),none,4,true,[]⟩,⟨none,(Al 5 8 95),none,5,false,[4]⟩,oI 9 6 (.mv (cI 2)),oI 10 7 (mT 99)] .ret) .skip)) (Ab [oP 100 (Ak 5 15),oN (Al 5 8 100),oP 9 (.mv (cI 0)),oP 10 (.mv (cI 0))] .ret))))))))))⟩
def tr121:trF Tryz.prog Tryz.f121=some af121:=by kernel_rfl
attribute [go_sem] af121
def af126:AF:=⟨94,[(.cell 4 true 5)],(Ab [oP 4 Cb] (.seq (.blk 0 (Ab [Aa 9 0,oP 10 (Ah 9),oP 11 (Ac 6 10),oP 12 (Ad 11),Aa 8 12] (Ae 8 (Ab [oP 13 (Da []),oN (Al 5 4 13)] .ret) (Ce [Aa 15 0,oI 16 1 (Ah 15),oI 17 2 (Ac 1 16),oI 18 3 (Ad 17),oI 19 4 (mT 0),oI 20 5 (Ah 19),oI 21 6 (Ac 0 20),oI 22 7 (Ad 21),oI 23 8 (.len false (.t 22)),oI 24 9 (Bb .geq 18 23),oI 14 10 (mT 24)] (Ae 14 (Ab [Aa 25 0,Aa 26 0,oP 27 (Ah 26),oP 28 (Ac 1 27),oP 29 (Ad 28),oP 30 (.hcall 127 [(.t 25),(.t 29)])] (Ab [oP 31 (Da []),oN (Al 5 4 31)] .ret)) (Ce [Aa 33 0,oI 34 1 (Ah 33),oI 35 2 (Ac 0 34),oI 36 3 (Ad 35),oI 37 4 (mT 0),oI 38 5 (Ah 37),oI 39 6 (Ac 1 38),oI 40 7 (Ad 39),oI 41 8 (.iad 3 (.t 36) (.t 40)),oI 42 9 (Ac 0 41),oI 43 10 (Ad 42),oI 44 11 (Aj 43 3),oI 32 12 (mT 44)] (Ae 32 (Ab [Aa 45 0,oP 46 (.hcall 131 [(.t 45)]),oN (Al 5 4 46)] .ret) .skip))))))) (Ab [Aa 47 0,oP 48 (.hcall 132 [(.t 47),(cI 1)])] (Ab [Aa 49 0,oP 50 (Ah 49),oP 51 (Ac 1 50),oP 52 (Ad 51),Aa 5 52] (Ab [Aa 54 0,oP 55 (.hcall 132 [(.t 54),(cI 3)]),oP 56 (.call 133 [(.t 55)]),Aa 53 56,oP 57 (.ext (.t 53) 0),oP 58 (.ext (.t 53) 1),Aa 6 57,Aa 7 58] (.seq (Ab [Aa 59 0,oP 60 (Ah 59),oP 61 (Ac 6 60),oP 62 (Ad 61)] (Ae 62 (Ab [oP 63 (Da []),oN (Al 5 4 63)] .ret) .skip)) (.seq (Ab [Aa 64 6,oP 65 (Aj 64 0),Aa 66 65,oG 67 66 false 0 (mT 1),oG 68 66 false 0 (Aj 67 1),oG 69 66 false 0 (mT 68),oG 70 69 true 0 (mT 6),oG 71 69 true 0 (An .gtr 70 12),oG 72 66 false 0 (Az 69 71),oP 73 (Bf 66 72),Aa 74 73,oG 75 74 false 0 (mT 1),oG 76 74 false 0 (Aj 75 2),oG 77 74 false 0 (mT 76),oG 78 77 true 0 (mT 6),oG 79 77 true 0 (An .gtr 78 2),oG 80 74 false 0 (Az 77 79),oG 81 74 false 0 (mT 80),oG 82 81 true 0 (mT 6),oG 83 81 true 0 (An .leq 82 12),oG 84 74 false 0 (Az 81 83),oP 85 (Bf 74 84)] (Ae 85 (Ab [Aa 86 0,Aa 87 5,oP 88 (.hcall 127 [(.t 86),(.t 87)])] (Ab [oP 89 (Da []),oN (Al 5 4 89)] .ret)) .skip)) (Ab [Aa 90 0,Aa 91 6,Aa 92 7,oP 93 (.hcall 134 [(.t 90),(.t 91),(.t 92)]),oN (Al 5 4 93)] .ret))))))))⟩
def tr126:trF Tryz.prog Tryz.f126=some af126:=by kernel_rfl
attribute [go_sem] af126
def af131:AF:=⟨56,[(.cell 2 true 5)],(Ab [oP 2 Cb] (.seq (Ab [Aa 4 0,oP 5 (Ah 4),oP 6 (Ac 3 5),oP 7 (Ad 6),oP 8 (.len false (.t 7)),oP 9 (An .sub 8 1),Aa 3 9] (.blk 0 (.loop (.seq (Ab [Aa 10 3,oP 11 (An .geq 10 0)] (Cu 11 0)) (.seq (.blk 1 (Ce [Aa 14 0,oI 15 1 (Ah 14),oI 16 2 (Ac 3 15),oI 17 3 (Ad 16),oI 18 4 (mT 3),oI 19 5 (.iad 1 (.t 17) (.t 18)),oI 20 6 (Ad 19),oI 21 7 (mT 0),oI 22 8 (Ah 21),oI 23 9 (Ac 0 22),oI 24 10 (Ad 23),oI 25 11 (mT 0),oI 26 12 (Ah 25),oI 27 13 (Ac 1 26),oI 28 14 (Ad 27),oI 29 15 (.iad 3 (.t 24) (.t 28)),oI 30 16 (Ac 1 29),oI 31 17 (Ad 30),oI 32 18 (.bin 4 .eql (.t 20) (.t 31))] (Ae 32 (Ab [Aa 33 0,oP 34 (Ah 33),oP 35 (Ac 1 34),oP 36 (Ad 35),oP 37 (An .add 36 1),oP 38 (Ah 33),oP 39 (Ac 1 38),oN (Al 1 39 37)] (Ab [Aa 40 0,oP 41 (Ah 40),oP 42 (Ac 3 41),oP 43 (Ad 42),oP 44 (.len false (.t 43)),oP 45 (An .sub 44 1),Aa 46 3,oP 47 (Bb .sub 45 46),oP 48 (Da [(0,(1,(cI 2))),(1,(1,(.t 47)))]),oN (Al 5 2 48)] .ret)) .skip))) (Ar [Aa 12 3,oP 13 (An .sub 12 1),Aa 3 13])))))) (Ab [Aa 49 0,Aa 50 0,oP 51 (Ah 50),oP 52 (Ac 1 51),oP 53 (Ad 52),oP 54 (.hcall 127 [(.t 49),(.t 53)])] (Ab [oP 55 (Da []),oN (Al 5 2 55)] .ret))))⟩
def tr131:trF Tryz.prog Tryz.f131=some af131:=by kernel_rfl
attribute [go_sem] af131
def af132:AF:=⟨61,[(.t 4)],(Ab [oP 4 (.mv (Ay []))] (.seq (Ce [Aa 5 0,oI 6 1 (Ah 5),oI 7 2 (Ac 6 6),oI 8 3 (Ad 7),oI 9 4 (mT 8),oG 10 9 false 5 (mT 0),oG 11 9 false 6 (Ah 10),oG 12 9 false 7 (Ac 1 11),oG 13 9 false 8 (Ad 12),oG 14 9 false 9 (mT 0),oG 15 9 false 10 (Ah 14),oG 16 9 false 11 (Ac 0 15),oG 17 9 false 12 (Ad 16),oG 18 9 false 13 (.len false (.t 17)),oG 19 9 false 14 (Bb .geq 13 18),oI 20 15 (Bf 9 19),oI 21 16 (mT 20),oG 22 21 false 17 (mT 0),oG 23 21 false 18 (Ah 22),oG 24 21 false 19 (Ac 0 23),oG 25 21 false 20 (Ad 24),oG 26 21 false 21 (mT 0),oG 27 21 false 22 (Ah 26),oG 28 21 false 23 (Ac 1 27),oG 29 21 false 24 (Ad 28),oG 30 21 false 25 (.iad 3 (.t 25) (.t 29)),oG 31 21 false 26 (Ac 0 30),oG 32 21 false 27 (Ad 31),oG 33 21 false 28 (mT 1),oG 34 21 false 29 (Bb .neq 32 33),oI 35 30 (Bf 21 34)] (Ae 35 (Ab [Aa 36 0,Aa 37 0,oP 38 (Ah 37),oP 39 (Ac 1 38),oP 40 (Ad 39),oP 41 (.hcall 127 [(.t 36),(.t 40)])] (Ab [oP 4 (.mv (Ay []))] .ret)) .skip)) (Ab [Aa 42 0,oP 43 (Ah 42),oP 44 (Ac 1 43),oP 45 (Ad 44),oP 46 (An .add 45 1),oP 47 (Ah 42),oP 48 (Ac 1 47),oN (Al 1 48 46)] (Ce [Aa 49 0,oI 50 1 (Ah 49),oI 51 2 (Ac 0 50),oI 52 3 (Ad 51),oI 53 4 (mT 0),oI 54 5 (Ah 53),oI 55 6 (Ac 1 54),oI 56 7 (Ad 55),oI 57 8 (An .sub 56 1),oI 58 9 (.iad 3 (.t 52) (.t 57)),oI 59 10 (Ac 1 58),oI 60 11 (Ad 59),oI 4 12 (mT 60)] .ret))))⟩
def tr132:trF Tryz.prog Tryz.f132=some af132:=by kernel_rfl
attribute [go_sem] af132
def af133:AF:=⟨31,[(.t 2),(.t 3)],(Ab [oP 2 (.mv (cI 0)),oP 3 (.mv (Ay []))] (.seq (Ab [Aa 4 0] (.blk 0 (Ab [oP 6 (.bin 4 .eql (.t 4) (Ay [115,111,114,116])),Aa 5 6] (Ae 5 (Ab [oP 2 (.mv (cI 1)),oP 3 (.mv (Ay [76]))] .ret) (Ab [oP 8 (.bin 4 .eql (.t 4) (Ay [112,105])),Aa 7 8] (Ae 7 (Ab [oP 2 (.mv (cI 3)),oP 3 (.mv (Ay [76,77,120,116,98]))] .ret) (Ab [oP 10 (.bin 4 .eql (.t 4) (Ay [108,97,109])),Aa 9 10] (Ae 9 (Ab [oP 2 (.mv (cI 4)),oP 3 (.mv (Ay [76,77,120,116,98,98]))] .ret) (Ab [oP 12 (.bin 4 .eql (.t 4) (Ay [97,112,112])),Aa 11 12] (Ae 11 (Ab [oP 2 (.mv (cI 5)),oP 3 (.mv (Ay [76,77,120,116,98,116,116]))] .ret) (Ab [oP 14 (.bin 4 .eql (.t 4) (Ay [115,105,103])),Aa 13 14] (Ae 13 (Ab [oP 2 (.mv (cI 6)),oP 3 (.mv (Ay [76,77,120,116,98]))] .ret) (Ab [oP 16 (.bin 4 .eql (.t 4) (Ay [112,97,105,114])),Aa 15 16] (Ae 15 (Ab [oP 2 (.mv (cI 7)),oP 3 (.mv (Ay [76,77,120,116,98,116,116]))] .ret) (Ab [oP 18 (.bin 4 .eql (.t 4) (Ay [102,115,116])),Aa 17 18] (Ae 17 (Ab [oP 2 (.mv (cI 8)),oP 3 (.mv (Ay [76,77,120,116,98,116]))] .ret) (Ab [oP 20 (.bin 4 .eql (.t 4) (Ay [115,110,100])),Aa 19 20] (Ae 19 (Ab [oP 2 (.mv (cI 9)),oP 3 (.mv (Ay [76,77,120,116,98,116]))] .ret) (Ab [oP 22 (.bin 4 .eql (.t 4) (Ay [101,113])),Aa 21 22] (Ae 21 (Ab [oP 2 (.mv (cI 10)),oP 3 (.mv (Ay [76,116,116,116]))] .ret) (Ab [oP 24 (.bin 4 .eql (.t 4) (Ay [114,101,102,108])),Aa 23 24] (Ae 23 (Ab [oP 2 (.mv (cI 11)),oP 3 (.mv (Ay [76,116,116]))] .ret) (Ab [oP 26 (.bin 4 .eql (.t 4) (Ay [116,114])),Aa 25 26] (Ae 25 (Ab [oP 2 (.mv (cI 12)),oP 3 (.mv (Ay [76,116,116,112,116]))] .ret) .skip)))))))))))))))))))))))) (Ab [Aa 27 0,oP 28 (.call 136 [(.t 27)]),oP 29 (.ext (.t 28) 0),oP 30 (.ext (.t 28) 1),Aa 2 29,Aa 3 30] .ret)))⟩
def tr133:trF Tryz.prog Tryz.f133=some af133:=by kernel_rfl
attribute [go_sem] af133
def af136:AF:=⟨27,[(.t 2),(.t 3)],(Ab [oP 2 (.mv (cI 0)),oP 3 (.mv (Ay []))] (.seq (Ab [Aa 4 0] (.blk 0 (Ab [oP 6 (.bin 4 .eql (.t 4) (Ay [80,105])),Aa 5 6] (Ae 5 (Ab [oP 2 (.mv (cI 13)),oP 3 (.mv (Ay [120,116,98]))] .ret) (Ab [oP 8 (.bin 4 .eql (.t 4) (Ay [76,97,109])),Aa 7 8] (Ae 7 (Ab [oP 2 (.mv (cI 14)),oP 3 (.mv (Ay [120,116,98]))] .ret) (Ab [oP 10 (.bin 4 .eql (.t 4) (Ay [65,112,112])),Aa 9 10] (Ae 9 (Ab [oP 2 (.mv (cI 15)),oP 3 (.mv (Ay [116,116]))] .ret) (Ab [oP 12 (.bin 4 .eql (.t 4) (Ay [83,105,103])),Aa 11 12] (Ae 11 (Ab [oP 2 (.mv (cI 16)),oP 3 (.mv (Ay [120,116,98]))] .ret) (Ab [oP 14 (.bin 4 .eql (.t 4) (Ay [80,97,105,114])),Aa 13 14] (Ae 13 (Ab [oP 2 (.mv (cI 17)),oP 3 (.mv (Ay [120,116,98,116,116]))] .ret) (Ab [oP 16 (.bin 4 .eql (.t 4) (Ay [70,115,116])),Aa 15 16] (Ae 15 (Ab [oP 2 (.mv (cI 18)),oP 3 (.mv (Ay [116]))] .ret) (Ab [oP 18 (.bin 4 .eql (.t 4) (Ay [83,110,100])),Aa 17 18] (Ae 17 (Ab [oP 2 (.mv (cI 19)),oP 3 (.mv (Ay [116]))] .ret) (Ab [oP 20 (.bin 4 .eql (.t 4) (Ay [69,113])),Aa 19 20] (Ae 19 (Ab [oP 2 (.mv (cI 20)),oP 3 (.mv (Ay [116,116,116]))] .ret) (Ab [oP 22 (.bin 4 .eql (.t 4) (Ay [82,101,102,108])),Aa 21 22] (Ae 21 (Ab [oP 2 (.mv (cI 21)),oP 3 (.mv (Ay [116,116]))] .ret) (Ab [oP 24 (.bin 4 .eql (.t 4) (Ay [74])),Aa 23 24] (Ae 23 (Ab [oP 2 (.mv (cI 22)),oP 3 (.mv (Ay [116,116,121,101,80,116,116,116]))] .ret) (Ab [oP 26 (.bin 4 .eql (.t 4) (Ay [117,115,101])),Aa 25 26] (Ae 25 (Ab [oP 2 (.mv (cI 23)),oP 3 (.mv (Ay [83,76,77]))] .ret) .skip)))))))))))))))))))))))) (Ab [oP 2 (.mv (cI 0)),oP 3 (.mv (Ay []))] .ret)))⟩
def tr136:trF Tryz.prog Tryz.f136=some af136:=by kernel_rfl
attribute [go_sem] af136
def af134:AF:=⟨122,[(.cell 6 true 5)],(Ab [oP 6 Cb] (Ab [Aa 12 1,oP 13 (Da [(0,(1,(.t 12)))]),Aa 14 0,oP 15 (Ah 14),oP 16 (Ac 3 15),oP 17 (Ad 16),oP 7 Cb,oN (Al 5 7 13),oP 8 (.mv (cI 2)),Aa 9 17] (Ab [oP 10 (.mv (.c .nils))] (.seq (Ab [Aa 18 1,oP 19 (An .leq 18 12)] (Ae 19 (Ar [oP 8 (.mv (cI 1))]) .skip)) (.seq (Ab [oP 11 (.mv (cI 0))] (.blk 0 (.loop (.seq (Ab [Aa 20 11,Aa 21 2,oP 22 (.len true (.t 21)),oP 23 (Bb .lss 20 22),Aa 24 23,oG 25 24 true 0 (mT 0),oG 26 24 true 0 (Ah 25),oG 27 24 true 0 (Ac 6 26),oG 28 24 true 0 (Ad 27),oG 29 24 true 0 (.un .not (.t 28)),oP 30 (Az 24 29)] (Cu 30 0)) (.seq (.blk 1 (Ab [Aa 33 2,Aa 34 11,oP 35 (.six (.t 33) (.t 34))] (.blk 2 (Ab [oP 58 (.bin 0 .eql (.t 35) (.c (.int .u8 76))),Aa 57 58] (Ae 57 (Ar [Aa 59 0,oP 60 (.hcall 137 [(.t 59)]),oP 61 (Ac 1 7),oN (Al 1 61 60)]) (Ab [oP 63 (.bin 0 .eql (.t 35) (.c (.int .u8 77))),Aa 62 63] (Ae 62 (Ab [Aa 64 0,oP 65 (.hcall 137 [(.t 64)]),oP 66 (Ac 2 7),oN (Al 1 66 65)] (Ab [Aa 67 1,oP 68 (Aj 67 23)] (Ae 68 (Ar [Aa 69 0,oP 70 (.hcall 138 [(.t 69),(.t 7)])]) .skip))) (Ab [oP 72 (.bin 0 .eql (.t 35) (.c (.int .u8 83))),Aa 71 72] (Ae 71 (Ab [Aa 73 0,oP 74 (.hcall 132 [(.t 73),(cI 3)]),oP 75 (.call 139 [(.t 74)]),oP 76 (Ac 3 7),oN (Al 1 76 75)] (Ab [oP 77 (Ac 3 7),oP 78 (Ad 77),oP 79 (Aj 78 0)] (Ae 79 (Ar [Aa 80 0,Aa 81 0,oP 82 (Ah 81),oP 83 (Ac 1 82),oP 84 (Ad 83),oP 85 (An .sub 84 1),oP 86 (.hcall 127 [(.t 80),(.t 85)])]) .skip))) (.seq (Ab [oP 88 (.bin 0 .eql (.t 35) (.c (.int .u8 120))),Aa 87 88] (Ae 87 .skip (Ab [oP 89 (.bin 0 .eql (.t 35) (.c (.int .u8 121))),Aa 87 89] (Ae 87 .skip (Ar [oP 90 (.bin 0 .eql (.t 35) (.c (.int .u8 101))),Aa 87 90]))))) (Ae 87 (Ar [Aa 91 10,Aa 92 0,oP 93 (.hcall 132 [(.t 92),(cI 3)]),oP 94 (.bslice 1 [(.t 93)]),oP 95 (.app 1 16 (.t 91) (.t 94)),Aa 10 95]) (Ab [oP 97 (.bin 0 .eql (.t 35) (.c (.int .u8 116))),Aa 96 97] (Ae 96 (.reg [oP 98 (Ac 4 7),⟨(some 99),(Ad 98),none,1,true,[]⟩,oI 100 2 (mT 0),oI 101 3 (mT 8),⟨(some 102),(.hcall 126 [(.t 100),(.t 101)]),none,4,true,[1]⟩,oI 103 5 (.len false (.t 99)),⟨(some 104),(.bslice 5 [(.c (.agg true [(iS 0),(iS 0),(iS 0),(iS 0),.nils]))]),none,6,false,[1,4]⟩,oI 105 7 (.app 5 56 (.t 99) (.t 104)),⟨(some 106),(.iad 5 (.t 105) (.t 103)),none,8,true,[]⟩,⟨none,(Al 5 106 102),none,9,true,[]⟩,oI 107 10 (Ac 4 7),⟨none,(Al 1 107 105),none,11,false,[8,9]⟩] true) (Ab [oP 109 (.bin 0 .eql (.t 35) (.c (.int .u8 112))),Aa 108 109] (Ae 108 (.reg [oP 110 (Ac 4 7),⟨(some 111),(Ad 110),none,1,true,[]⟩,oI 112 2 (mT 0),⟨(some 113),(.hcall 126 [(.t 112),(cI 2)]),none,3,true,[1]⟩,oI 114 4 (.len false (.t 111)),⟨(some 115),(.bslice 5 [(.c (.agg true [(iS 0),(iS 0),(iS 0),(iS 0),.nils]))]),none,5,false,[1,3]⟩,oI 116 6 (.app 5 56 (.t 111) (.t 115)),⟨(some 117),(.iad 5 (.t 116) (.t 114)),none,7,true,[]⟩,⟨none,(Al 5 117 113),none,8,true,[]⟩,oI 118 9 (Ac 4 7),⟨none,(Al 1 118 116),none,10,false,[7,8]⟩] true) (Ab [Aa 36 0,Aa 37 9,oP 38 (.app 1 16 (.c .nils) (.t 37)),Aa 39 10,oP 40 (.app 1 16 (.t 38) (.t 39)),oP 41 (Ah 36),oP 42 (Ac 3 41),oN (Al 1 42 40)] (Ce [oP 43 (Ac 4 7),⟨(some 44),(Ad 43),none,1,true,[]⟩,oI 45 2 (mT 0),oI 46 3 (mT 8),⟨(some 47),(.hcall 126 [(.t 45),(.t 46)]),none,4,true,[1]⟩,oI 48 5 (.len false (.t 44)),⟨(some 49),(.bslice 5 [(.c (.agg true [(iS 0),(iS 0),(iS 0),(iS 0),.nils]))]),none,6,false,[1,4]⟩,oI 50 7 (.app 5 56 (.t 44) (.t 49)),⟨(some 51),(.iad 5 (.t 50) (.t 48)),none,8,true,[]⟩,⟨none,(Al 5 51 47),none,9,true,[]⟩,oI 52 10 (Ac 4 7),⟨none,(Al 1 52 50),none,11,false,[8,9]⟩] (Ar [Aa 53 0,Aa 54 9,oP 55 (Ah 53),oP 56 (Ac 3 55),oN (Al 1 56 54)])))))))))))))))))) (Ar [Aa 31 11,oP 32 (An .add 31 1),Aa 11 32])))))) (Ab [Aa 119 0,oP 120 (.hcall 132 [(.t 119),(cI 2)])] (Ab [oP 121 (Ak 5 7),oN (Al 5 6 121)] .ret)))))))⟩
def tr134:trF Tryz.prog Tryz.f134=some af134:=by kernel_rfl
attribute [go_sem] af134
def af137:AF:=⟨131,[(.t 2)],(Ab [oP 2 (.mv (cI 0))] (Ab [Aa 6 0,oP 7 (Ah 6),oP 8 (Ac 1 7),oP 9 (Ad 8),Aa 3 9] (.seq (Ce [Aa 10 0,oI 11 1 (Ah 10),oI 12 2 (Ac 6 11),oI 13 3 (Ad 12),oI 14 4 (mT 13),oG 15 14 false 5 (mT 0),oG 16 14 false 6 (Ah 15),oG 17 14 false 7 (Ac 1 16),oG 18 14 false 8 (Ad 17),oG 19 14 false 9 (mT 0),oG 20 14 false 10 (Ah 19),oG 21 14 false 11 (Ac 0 20),oG 22 14 false 12 (Ad 21),oG 23 14 false 13 (.len false (.t 22)),oG 24 14 false 14 (Bb .geq 18 23),oI 25 15 (Bf 14 24)] (Ae 25 (Ab [Aa 26 0,Aa 27 0,oP 28 (Ah 27),oP 29 (Ac 1 28),oP 30 (Ad 29),oP 31 (.hcall 127 [(.t 26),(.t 30)])] (Ab [oP 2 (.mv (cI 0))] .ret)) .skip)) (Ab [oP 4 (.mv (cI 0))] (.seq (Ce [Aa 32 0,oI 33 1 (Ah 32),oI 34 2 (Ac 0 33),⟨(some 35),(Ad 34),none,3,true,[]⟩,oI 36 4 (mT 0),oI 37 5 (Ah 36),oI 38 6 (Ac 1 37),⟨(some 39),(Ad 38),none,7,true,[]⟩,⟨(some 40),(.iad 3 (.t 35) (.t 39)),none,8,true,[]⟩,⟨(some 41),(Ak 3 40),none,9,true,[]⟩,⟨(some 5),(.new [(iS 0),(.str (bs [])),(iS 0)]),none,10,false,[3,7,8,9]⟩,oJ 11 (Al 3 5 41)] (.blk 0 (Ab [oP 49 (Ac 0 5),oP 50 (Ad 49),oP 51 (Aj 50 4),Aa 48 51] (Ae 48 (Ab [oP 53 (Ac 1 5),oP 54 (Ad 53),oP 55 (.call 130 [(.t 54)]),Aa 52 55,oP 56 (.ext (.t 52) 0),oP 57 (.ext (.t 52) 1),Aa 4 56] (Ar [Aa 58 0,oP 59 (Ah 58),oP 60 (Ac 1 59),oP 61 (Ad 60),oP 62 (An .add 61 1),oP 63 (Ah 58),oP 64 (Ac 1 63),oN (Al 1 64 62)])) (Ab [oP 66 (Ac 0 5),oP 67 (Ad 66),oP 68 (Aj 67 3),Aa 69 68,oG 70 69 true 0 (Ac 1 5),oG 71 69 true 0 (Ad 70),oG 72 69 true 0 (.bin 4 .eql (.t 71) (Ay [105])),oP 73 (Az 69 72),Aa 65 73] (Ae 65 (Ab [Aa 74 0,oP 75 (Ah 74),oP 76 (Ac 4 75),oP 77 (Ad 76),Aa 4 77] (Ar [Aa 78 0,oP 79 (Ah 78),oP 80 (Ac 1 79),oP 81 (Ad 80),oP 82 (An .add 81 1),oP 83 (Ah 78),oP 84 (Ac 1 83),oN (Al 1 84 82)])) (Ab [oP 86 (Ac 0 5),oP 87 (Ad 86),oP 88 (Aj 87 3),Aa 89 88,oG 90 89 true 0 (Ac 1 5),oG 91 89 true 0 (Ad 90),oG 92 89 true 0 (.bin 4 .eql (.t 91) (Ay [106])),oP 93 (Az 89 92),Aa 85 93] (Ae 85 (Ab [Aa 94 0,oP 95 (Ah 94),oP 96 (Ac 5 95),oP 97 (Ad 96),Aa 4 97] (Ar [Aa 98 0,oP 99 (Ah 98),oP 100 (Ac 1 99),oP 101 (Ad 100),oP 102 (An .add 101 1),oP 103 (Ah 98),oP 104 (Ac 1 103),oN (Al 1 104 102)])) (Ab [oP 106 (Ac 0 5),oP 107 (Ad 106),oP 108 (Aj 107 1),Aa 105 108] (Ae 105 (Ab [Aa 109 0,oP 110 (Ah 109),oP 111 (Ac 1 110),oP 112 (Ad 111),oP 113 (An .add 112 1),oP 114 (Ah 109),oP 115 (Ac 1 114),oN (Al 1 115 113)] (Ar [Aa 116 0,oP 117 (.hcall 141 [(.t 116)]),Aa 4 117])) (Ar [Aa 42 0,Aa 43 0,oP 44 (Ah 43),oP 45 (Ac 1 44),oP 46 (Ad 45),oP 47 (.hcall 127 [(.t 42),(.t 46)])]))))))))))) (.seq (Ab [Aa 118 0,oP 119 (Ah 118),oP 120 (Ac 6 119),oP 121 (Ad 120),oP 122 (.un .not (.t 121)),Aa 123 122,oG 124 123 true 0 (mT 4),oG 125 123 true 0 (An .gtr 124 1000),oP 126 (Az 123 125)] (Ae 126 (Ar [Aa 127 0,Aa 128 3,oP 129 (.hcall 127 [(.t 127),(.t 128)])]) .skip)) (Ab [Aa 130 4,Aa 2 130] .ret)))))))⟩
def tr137:trF Tryz.prog Tryz.f137=some af137:=by kernel_rfl
attribute [go_sem] af137
def af138:AF:=⟨24,[],(Ab [Aa 4 1,oP 5 (Ah 4),oP 6 (Ac 3 5),oP 7 (Ad 6),oP 8 (.call 48 [(cI 23),(.t 7)]),oP 9 (.mv (cI 0))] (.blk 0 (.loop (Ab [oP 10 (Bb .lss 9 8)] (.seq (Cu 10 0) (.seq (.blk 1 (.reg [Aa 11 1,oI 12 1 (Ah 11),oI 13 2 (Ac 4 12),⟨(some 14),(Ad 13),none,3,true,[]⟩,oI 15 4 (mT 0),⟨(some 16),(.hcall 126 [(.t 15),(cI 2)]),none,5,true,[3]⟩,oI 17 6 (.len false (.t 14)),⟨(some 18),(.bslice 5 [(.c (.agg true [(iS 0),(iS 0),(iS 0),(iS 0),.nils]))]),none,7,false,[3,5]⟩,oI 19 8 (.app 5 56 (.t 14) (.t 18)),⟨(some 20),(.iad 5 (.t 19) (.t 17)),none,9,true,[]⟩,⟨none,(Al 5 20 16),none,10,true,[]⟩,oI 21 11 (Ah 11),oI 22 12 (Ac 4 21),⟨none,(Al 1 22 19),none,13,false,[9,10]⟩] true)) (Ar [oP 23 (An .add 9 1),Aa 9 23])))))))⟩
def tr138:trF Tryz.prog Tryz.f138=some af138:=by kernel_rfl
attribute [go_sem] af138
def af141:AF:=⟨114,[(.t 2)],(Ab [oP 2 (.mv (cI 0))] (Ab [oP 3 (.mv (cI 0))] (.seq (.blk 0 (Ce [Aa 11 0,oI 12 1 (Ah 11),oI 13 2 (Ac 1 12),oI 14 3 (Ad 13),oI 15 4 (mT 0),oI 16 5 (Ah 15),oI 17 6 (Ac 0 16),oI 18 7 (Ad 17),oI 19 8 (.len false (.t 18)),oI 20 9 (Bb .lss 14 19),oI 21 10 (mT 20),oG 22 21 true 11 (mT 0),oG 23 21 true 12 (Ah 22),oG 24 21 true 13 (Ac 0 23),oG 25 21 true 14 (Ad 24),oG 26 21 true 15 (mT 0),oG 27 21 true 16 (Ah 26),oG 28 21 true 17 (Ac 1 27),oG 29 21 true 18 (Ad 28),oG 30 21 true 19 (.iad 3 (.t 25) (.t 29)),oG 31 21 true 20 (Ac 0 30),oG 32 21 true 21 (Ad 31),oG 33 21 true 22 (Aj 32 3),oI 34 23 (Az 21 33),oI 35 24 (mT 34),oG 36 35 true 25 (mT 0),oG 37 35 true 26 (Ah 36),oG 38 35 true 27 (Ac 0 37),oG 39 35 true 28 (Ad 38),oG 40 35 true 29 (mT 0),oG 41 35 true 30 (Ah 40),oG 42 35 true 31 (Ac 1 41),oG 43 35 true 32 (Ad 42),oG 44 35 true 33 (.iad 3 (.t 39) (.t 43)),oG 45 35 true 34 (Ac 1 44),oG 46 35 true 35 (Ad 45),oG 47 35 true 36 (.bin 4 .eql (.t 46) (Ay [115,117,99])),oI 48 37 (Az 35 47),oI 10 38 (mT 48)] (Ae 10 (Ab [Aa 49 0,oP 50 (Ah 49),oP 51 (Ac 1 50),oP 52 (Ad 51),oP 53 (An .add 52 1),oP 54 (Ah 49),oP 55 (Ac 1 54),oN (Al 1 55 53)] (Ar [Aa 56 0,oP 57 (.hcall 137 [(.t 56)]),oP 58 (An .add 57 1),Aa 3 58])) (Ce [Aa 60 0,oI 61 1 (Ah 60),oI 62 2 (Ac 1 61),oI 63 3 (Ad 62),oI 64 4 (mT 0),oI 65 5 (Ah 64),oI 66 6 (Ac 0 65),oI 67 7 (Ad 66),oI 68 8 (.len false (.t 67)),oI 69 9 (Bb .lss 63 68),oI 70 10 (mT 69),oG 71 70 true 11 (mT 0),oG 72 70 true 12 (Ah 71),oG 73 70 true 13 (Ac 0 72),oG 74 70 true 14 (Ad 73),oG 75 70 true 15 (mT 0),oG 76 70 true 16 (Ah 75),oG 77 70 true 17 (Ac 1 76),oG 78 70 true 18 (Ad 77),oG 79 70 true 19 (.iad 3 (.t 74) (.t 78)),oG 80 70 true 20 (Ac 0 79),oG 81 70 true 21 (Ad 80),oG 82 70 true 22 (Aj 81 3),oI 83 23 (Az 70 82),oI 84 24 (mT 83),oG 85 84 true 25 (mT 0),oG 86 84 true 26 (Ah 85),oG 87 84 true 27 (Ac 0 86),oG 88 84 true 28 (Ad 87),oG 89 84 true 29 (mT 0),oG 90 84 true 30 (Ah 89),oG 91 84 true 31 (Ac 1 90),oG 92 84 true 32 (Ad 91),oG 93 84 true 33 (.iad 3 (.t 88) (.t 92)),oG 94 84 true 34 (Ac 1 93),oG 95 84 true 35 (Ad 94),oG 96 84 true 36 (.bin 4 .eql (.t 95) (Ay [109,97,120])),oI 97 37 (Az 84 96),oI 59 38 (mT 97)] (Ae 59 (Ab [Aa 98 0,oP 99 (Ah 98),oP 100 (Ac 1 99),oP 101 (Ad 100),oP 102 (An .add 101 1),oP 103 (Ah 98),oP 104 (Ac 1 103),oN (Al 1 104 102)] (Ab [Aa 105 0,oP 106 (.hcall 137 [(.t 105)]),Aa 3 106] (Ar [Aa 107 3,Aa 108 0,oP 109 (.hcall 137 [(.t 108)]),oP 110 (.mnx true (.t 107) (.t 109)),Aa 3 110]))) (Ar [Aa 4 0,Aa 5 0,oP 6 (Ah 5),oP 7 (Ac 1 6),oP 8 (Ad 7),oP 9 (.hcall 127 [(.t 4),(.t 8)])])))))) (Ab [Aa 111 0,oP 112 (.hcall 132 [(.t 111),(cI 2)])] (Ab [Aa 113 3,Aa 2 113] .ret)))))⟩
def tr141:trF Tryz.prog Tryz.f141=some af141:=by kernel_rfl
attribute [go_sem] af141
def af139:AF:=⟨18,[(.t 2)],(Ab [oP 2 (.mv (cI 0))] (.seq (Ab [oP 5 (.call 142 []),oP 6 (.len false (.t 5)),oP 7 (.mv (cI 0))] (.blk 0 (.loop (Ab [oP 8 (Bb .lss 7 6)] (.seq (Cu 8 0) (.seq (.blk 1 (Ab [Aa 9 7,oP 10 (.iad 1 (.t 5) (.t 7)),oP 11 (Ad 10),Aa 3 9,Aa 4 11] (Ab [Aa 12 4,Aa 13 0,oP 14 (.bin 4 .eql (.t 12) (.t 13))] (Ae 14 (Ab [Aa 15 3,oP 16 (An .add 15 1),Aa 2 16] .ret) .skip)))) (Ar [oP 17 (An .add 7 1),Aa 7 17]))))))) (Ab [oP 2 (.mv (cI 0))] .ret)))⟩
def tr139:trF Tryz.prog Tryz.f139=some af139:=by kernel_rfl
attribute [go_sem] af139
def af142:AF:=⟨2,[(.t 0)],(Ab [oP 0 (.mv (.c .nils))] (Ab [oP 1 (.bslice 1 [(Ay [117,105,112]),(Ay [102,117,110,101,120,116]),(Ay [115,121,109]),(Ay [116,114,97,110,115]),(Ay [116,114]),(Ay [104,101,116]),(Ay [116,121,112]),(Ay [116,114,104]),(Ay [104,112]),(Ay [104,50,101]),(Ay [101,50,104]),(Ay [114,112]),(Ay [99,112,105]),(Ay [99,115,105,103]),(Ay [99,108,97,109]),(Ay [99,97,112,112]),(Ay [99,112,97,105,114]),(Ay [99,102,115,116]),(Ay [99,115,110,100]),(Ay [99,101,113]),(Ay [99,114,101,102,108])]),Aa 0 1] .ret))⟩
def tr142:trF Tryz.prog Tryz.f142=some af142:=by kernel_rfl
attribute [go_sem] af142
def a122_23:AC:=.blk 1 (Ce [Aa 17 0,oI 18 1 (Ah 17),oI 19 2 (Ac 1 18),⟨(some 20),(Ad 19),none,3,true,[]⟩,oI 21 4 (mT 0),oI 22 5 (Ah 21),oI 23 6 (Ac 2 22),⟨(some 24),(Ad 23),none,7,true,[]⟩,⟨(some 25),(.iad 3 (.t 20) (.t 24)),none,8,true,[]⟩,⟨(some 26),(Ak 3 25),none,9,true,[]⟩,⟨(some 5),(.new [(iS 0),(.str (bs [])),(iS 0)]),none,10,false,[3,7,8,9]⟩,oJ 11 (Al 3 5 26)] (Ab [Aa 27 0,oP 28 (Ah 27),oP 29 (Ac 2 28),oP 30 (Ad 29),oP 31 (An .add 30 1),oP 32 (Ah 27),oP 33 (Ac 2 32),oN (Al 1 33 31)] (.seq (Ab [oP 34 (Ac 0 5),oP 35 (Ad 34)] (.blk 2 (Ab [oP 37 (Aj 35 1),Aa 36 37] (Ae 36 (Ar [Aa 38 4,oP 39 (An .add 38 1),Aa 4 39]) (Ab [oP 41 (Aj 35 2),Aa 40 41] (Ae 40 (Ar [Aa 42 4,oP 43 (An .sub 42 1),Aa 4 43]) .skip)))))) (Ab [Aa 44 4,oP 45 (Aj 44 0)] (Ae 45 (Ce [Aa 46 0,oI 47 1 (Ah 46),oI 48 2 (Ac 0 47),oI 49 3 (Ad 48),oI 50 4 (mT 3),oI 51 5 (Ac 2 5),oI 52 6 (Ad 51),oI 53 7 (Ac 1 5),oI 54 8 (Ad 53),oI 55 9 (.len true (.t 54)),oI 56 10 (Bb .add 52 55),oI 57 11 (.slc 0 (.t 49) (some (.t 50)) (some (.t 56))),oI 2 12 (mT 57)] .ret) .skip)))))
def af122:AF:=⟨58,[(.t 2)],(Ab [oP 2 (.mv (Ay []))] (Ce [Aa 6 0,oI 7 1 (Ah 6),oI 8 2 (Ac 1 7),oI 9 3 (Ad 8),oI 10 4 (mT 0),oI 11 5 (Ah 10),oI 12 6 (Ac 2 11),oI 13 7 (Ad 12),oI 14 8 (.iad 3 (.t 9) (.t 13)),oI 15 9 (Ac 2 14),oI 16 10 (Ad 15),oI 3 11 (mT 16),oI 4 12 (.mv (cI 0))] (.blk 0 (.loop a122_23))))⟩
def tr122:trF Tryz.prog Tryz.f122=some af122:=by kernel_rfl
attribute [go_sem] af122 a122_23
def a117_26:AC:=.seq (Ce [Aa 80 8,oI 81 1 (Ah 80),oI 82 2 (Ac 1 81),oI 83 3 (Ad 82),oI 84 4 (mT 8),oI 85 5 (Ah 84),oI 86 6 (Ac 2 85),oI 87 7 (Ad 86),oI 88 8 (.iad 3 (.t 83) (.t 87)),oI 89 9 (Ac 0 88),oI 90 10 (Ad 89),oI 91 11 (Aj 90 1)] (Cu 91 0)) (.seq (.blk 1 (Ce [Aa 99 8,oI 100 1 (Ah 99),oI 101 2 (Ac 1 100),oI 102 3 (Ad 101),oI 103 4 (mT 8),oI 104 5 (Ah 103),oI 105 6 (Ac 2 104),oI 106 7 (Ad 105),oI 107 8 (An .add 106 1),oI 108 9 (.iad 3 (.t 102) (.t 107)),oI 109 10 (Ac 1 108),oI 110 11 (Ad 109),oI 11 12 (mT 110)] (Ab [Aa 111 8,oP 112 (Ah 111),oP 113 (Ac 2 112),oP 114 (Ad 113),oP 115 (An .add 114 2),oP 116 (Ah 111),oP 117 (Ac 2 116),oN (Al 1 117 115)] (Ab [Aa 119 8,oP 120 (.hcall 122 [(.t 119)]),Aa 121 10,Aa 122 1,Aa 123 2,oP 124 (.call 121 [(.t 120),(.t 121),(.t 122),(.t 123)]),Aa 118 124,oP 125 (.ext (.t 118) 0),oP 126 (.ext (.t 118) 1),oP 127 (.ext (.t 118) 2),oP 12 Cb,oN (Al 5 12 125),Aa 13 126,Aa 14 127] (Ab [oP 128 (Ac 1 9),oP 129 (Ad 128),oP 130 (Ak 5 12),oP 131 (.bslice 5 [(.t 130)]),oP 132 (.app 5 56 (.t 129) (.t 131)),oP 133 (Ac 1 9),oN (Al 1 133 132)] (Ar [Aa 134 10,Aa 135 11,oP 136 (.bslice 1 [(.t 135)]),oP 137 (.app 1 16 (.t 134) (.t 136)),Aa 10 137])))))) (Ar [Aa 92 8,oP 93 (Ah 92),oP 94 (Ac 2 93),oP 95 (Ad 94),oP 96 (An .add 95 1),oP 97 (Ah 92),oP 98 (Ac 2 97),oN (Al 1 98 96)]))
def a117_40:AC:=Ab [Aa 138 8,oP 139 (Ah 138),oP 140 (Ac 2 139),oP 141 (Ad 140),oP 142 (An .add 141 1),oP 143 (Ah 138),oP 144 (Ac 2 143),oN (Al 1 144 142)] (Ab [Aa 146 8,oP 147 (.hcall 122 [(.t 146)]),Aa 148 10,Aa 149 1,Aa 150 2,oP 151 (.call 121 [(.t 147),(.t 148),(.t 149),(.t 150)]),Aa 145 151,oP 152 (.ext (.t 145) 0),oP 153 (.ext (.t 145) 1),oP 154 (.ext (.t 145) 2),oP 155 (Ac 2 9),oN (Al 5 155 152)] (.seq (Ab [oP 156 (Ac 12 9),oP 157 (Ad 156)] (Ae 157 (Ar [Aa 159 8,oP 160 (.hcall 122 [(.t 159)]),Aa 161 10,Aa 162 1,Aa 163 2,oP 164 (.call 121 [(.t 160),(.t 161),(.t 162),(.t 163)]),Aa 158 164,oP 165 (.ext (.t 158) 0),oP 166 (.ext (.t 158) 1),oP 167 (.ext (.t 158) 2),oP 168 (Ac 7 9),oN (Al 5 168 165)]) .skip)) (Ab [oP 169 (Ak 13 9),oN (Al 13 6 169),oP 7 (.mv (cB true))] .ret)))
def af117:AF:=⟨170,[(.cell 6 true 13),(.t 7)],(Ab [oP 6 (.new [(.str (bs [])),.nils,(iS 0),(iS 0),(iS 0),(iS 0),.nils,(iS 0),(iS 0),(iS 0),(iS 0),.nils,(.bool false)]),oP 7 (.mv (cB false))] (.seq (Ab [Aa 15 0,oP 16 (An .lss 15 1),Aa 17 16,oG 18 17 false 0 (mT 0),oG 19 17 false 0 (An .gtr 18 21),oP 20 (Bf 17 19),Aa 21 20,oG 22 21 false 0 (mT 1),oG 23 21 false 0 (An .lss 22 0),oP 24 (Bf 21 23),Aa 25 24,oG 26 25 false 0 (mT 1),oG 27 25 false 0 (An .geq 26 1000),oP 28 (Bf 25 27),Aa 29 28,oG 30 29 false 0 (mT 2),oG 31 29 false 0 (An .lss 30 0),oP 32 (Bf 29 31),Aa 33 32,oG 34 33 false 0 (mT 2),oG 35 33 false 0 (An .geq 34 1000),oP 36 (Bf 33 35)] (Ae 36 (Ab [oP 37 (.build [(.str (bs [])),.nils,(iS 0),(iS 0),(iS 0),(iS 0),.nils,(iS 0),(iS 0),(iS 0),(iS 0),.nils,(.bool false)] []),oN (Al 13 6 37),oP 7 (.mv (cB false))] .ret) .skip)) (Ab [oP 38 (.call 64 []),Aa 39 0,oP 40 (An .sub 39 1),oP 41 (.iad 1 (.t 38) (.t 40)),oP 42 (Ad 41),oP 43 (.build [(.str (bs [])),.nils,(iS 0)] [(0,(1,(.t 42))),(2,(1,(cI 3)))]),oP 44 (.boxg (.t 43)),Aa 8 44] (Ab [Aa 46 8,Aa 47 8,oP 48 (Ah 47),oP 49 (Ac 0 48),oP 50 (Ad 49),oP 51 (.call 120 [(.t 50)]),Aa 45 51,oP 52 (.ext (.t 45) 0),oP 53 (.ext (.t 45) 1),oP 54 (.ext (.t 45) 2),oP 55 (Ah 46),oP 56 (Ac 1 55),oN (Al 1 56 52)] (Ce [Aa 57 8,oI 58 1 (Ah 57),oI 59 2 (Ac 1 58),⟨(some 60),(Ad 59),none,3,true,[]⟩,⟨(some 61),(.iad 3 (.t 60) (cI 2)),none,4,true,[]⟩,oI 62 5 (Ac 1 61),⟨(some 63),(Ad 62),none,6,true,[]⟩,oI 64 7 (mT 8),oI 65 8 (Ah 64),oI 66 9 (Ac 1 65),⟨(some 67),(Ad 66),none,10,true,[]⟩,⟨(some 68),(.iad 3 (.t 67) (cI 1)),none,11,true,[]⟩,oI 69 12 (Ac 1 68),⟨(some 70),(Ad 69),none,13,true,[]⟩,oI 71 14 (.bin 4 .eql (.t 70) (Ay [100,101,102])),oI 72 15 (.build [(.str (bs [])),.nils,(iS 0),(iS 0),(iS 0),(iS 0),.nils,(iS 0),(iS 0),(iS 0),(iS 0),.nils,(.bool false)] [(0,(1,(.t 63))),(12,(1,(.t 71)))]),⟨(some 9),(.new [(.str (bs [])),.nils,(iS 0),(iS 0),(iS 0),(iS 0),.nils,(iS 0),(iS 0),(iS 0),(iS 0),.nils,(.bool false)]),none,16,false,[3,4,6,10,11,13]⟩,oJ 17 (Al 13 9 72)] (Ab [oP 10 (.mv (.c .nils))] (.seq (Ab [Aa 73 8,oP 74 (Ah 73),oP 75 (Ac 2 74),oP 76 (Ad 75),oP 77 (An .add 76 1),oP 78 (Ah 73),oP 79 (Ac 2 78),oN (Al 1 79 77)] (.blk 0 (.loop a117_26))) a117_40)))))))⟩
def tr117:trF Tryz.prog Tryz.f117=some af117:=by kernel_rfl
attribute [go_sem] af117 a117_26 a117_40
def af99:AF:=⟨44,[(.t 8)],(Ab [oP 8 (.mv (.c .nilp))] (Ab [Aa 14 1,Aa 15 2,Aa 16 3,oP 17 (.arr [(.t 14),(.t 15),(.t 16)]),oP 9 (.new [(iS 0),(iS 0),(iS 0)]),oN (Al 3 9 17)] (Ce [Aa 19 0,oI 20 1 (Ah 19),oI 21 2 (Ac 4 20),oI 22 3 (Ad 21),oI 23 4 (Ak 3 9),oI 24 5 (.mlk .nilp (.t 22) (.t 23)),oI 18 6 (mT 24),oI 25 7 (.ext (.t 18) 0),oI 26 8 (.ext (.t 18) 1),oI 10 9 (mT 25),oI 11 10 (mT 26)] (.seq (Ab [Aa 27 11,oP 28 (.un .not (.t 27))] (Ae 28 (Ab [Aa 30 1,Aa 31 2,Aa 32 3,oP 33 (.call 117 [(.t 30),(.t 31),(.t 32)]),Aa 29 33,oP 34 (.ext (.t 29) 0),oP 35 (.ext (.t 29) 1),oP 12 (.new [(.str (bs [])),.nils,(iS 0),(iS 0),(iS 0),(iS 0),.nils,(iS 0),(iS 0),(iS 0),(iS 0),.nils,(.bool false)]),oN (Al 13 12 34),Aa 13 35] (.seq (Ab [Aa 36 13] (Ae 36 (Ar [Aa 10 12]) .skip)) (.reg [Aa 37 0,oI 38 1 (Ah 37),oI 39 2 (Ac 4 38),oI 40 3 (Ad 39),oI 41 4 (Ak 3 9),oI 42 5 (mT 10),oJ 6 (.mup (.t 40) (.t 41) (.t 42))] true))) .skip)) (Ab [Aa 43 10,Aa 8 43] .ret)))))⟩
def tr99:trF Tryz.prog Tryz.f99=some af99:=by kernel_rfl
attribute [go_sem] af99
open Go Go.RowKit
section
variable{P:Program}{w0:World}{own:Nat->Prop}{M0:Mem}{B:Env->Prop}{Df:List Deferred}{X:SV->GV->Prop}
def vcW(C:CT):AC->(AE->St->Prop)->St->Prop
 |.seq a b,Q,s=>vcW C a (fun e s'=>match e with|.normal=>∃s0,Wk s' s0/\vcW C b Q s0|e=>Q e s') s
 |.cond c a b,Q,s=>match s.get c with
  |.bool t=>(t=true->vcW C a Q s)/\(t=false->vcW C b Q s)
  |_=>False
 |c,Q,s=>vc C c Q s
def Ak4{C:CT}:∀{c:AC} {Q:AE->St->Prop} {s:St},vc C c Q s->vcW C c Q s:=by
 have mono:∀(c:AC) {Q Q':AE->St->Prop} {s:St},(∀e s,Q e s->Q' e s)->vcW C c Q s->vcW C c Q' s:=by
  intro c
  induction c with
  |seq a b iha ihb=>
   intro Q Q' s h hv;simp only[vcW] at hv |-;refine iha (fun e s he=>?_) hv;cases e with
   |normal=>obtain⟨s0,h1,h2⟩:=he;exact⟨s0,h1,ihb h h2⟩
   |exit id=>exact h _ _ he
   |ret=>exact h _ _ he
  |cond c a b iha ihb=>
   intro Q Q' s h hv;simp only[vcW] at hv |-;split at hv
   ·exact⟨fun ht=>iha h (hv.1 ht),fun ht=>ihb h (hv.2 ht)⟩
   ·exact hv.elim
  |_=>intro Q Q' s h hv;simp only[vcW] at hv |-;exact p8 h hv
 intro c
 induction c with
 |seq a b iha ihb=>
  intro Q s h;simp only[vc] at h;simp only[vcW];refine mono a (fun e s he=>?_) (iha h);cases e with
  |normal=>exact⟨s,.refl s,ihb he⟩
  |exit id=>exact he
  |ret=>exact he
 |cond c a b iha ihb=>
  intro Q s h;simp only[vc] at h;simp only[vcW];split at h
  ·rename_i t ht;simp only[ht];exact⟨fun ht=>iha (h.1 ht),fun ht=>ihb (h.2 ht)⟩
  ·exact h.elim
 |_=>intro Q s h;simp only[vcW];exact h
def sqW(C:CT)(b:AC)(Q:AE->St->Prop):AE->St->Prop:=fun e s'=>match e with|.normal=>∃s0,Wk s' s0/\vcW C b Q s0|e=>Q e s'
def Bh7{C:CT}{b:AC}{Q:AE->St->Prop}{s:St}:sqW C b Q .normal s=∃s0,Wk s s0/\vcW C b Q s0:=q_z
attribute [go_sem] Bh7
def p7{C:CT}{a b:AC}{Q:AE->St->Prop}{s:St}(h:vc C a (sqW C b Q) s):vcW C (.seq a b) Q s:=by
 have:=Ak4 h;simp only[vcW];exact this
def Bkg{C:CT}{a b:AC}{Q:AE->St->Prop}{s:St}(h:vcW C a (sqW C b Q) s):vcW C (.seq a b) Q s:=by
 simp only[vcW];exact h
def Bki{C:CT}{c:AX}{a b:AC}{Q:AE->St->Prop}{s:St}(hc:s.get c=.bool true)(h:vcW C a Q s):vcW C (.cond c a b) Q s:=by
 simp only[vcW,hc];exact⟨fun _=>h,fun e=>by cases e⟩
def Bkh[hB:Nonempty (StB B)](hm:P.follows .mixedOrders=true):∀(c:Code) (ac:AC),trC P c=some ac->∀{QA:AE->St->Prop} {Q:Exit->Act->World->Prop},PX w0 own M0 Df X Q->(∀e E g s a w,SR w0 own M0 B Df E g s a w->QA e s->Q e.ex a w) ->
  ∀(E:Env) (g:Option (GV)) (s:St) (a:Act) (w:World),SR w0 own M0 B Df E g s a w->vcW (Bp P X) ac QA s->c.wp P Q a w:=by
 intro c
 induction c with
 |seq x y ihx ihy=>
  intro ac tr QA Q hX hQ E g s a w hS h;simp only[trC,q_c,q_a,q_d,q_b] at tr;obtain⟨ax,Aq,ay,Dr,rfl⟩:=tr;simp only[vcW] at h;refine wp_seq (ihx ax Aq (Q:=Exit.then (y.wp P Q) Q) (fun E u x G' a w=>hX E u x G' a w) (fun e E g s a w hS he=>?_) E g s a w hS h);cases e with
  |normal=>
   obtain⟨s0,h1,h2⟩:=he;obtain⟨E',g',Zv⟩:=Alb h1 hS;exact ihy ay Dr hX hQ E' g' s0 a w Zv h2
  |exit id=>exact hQ (.exit id) E g s a w hS he
  |ret=>exact hQ .ret E g s a w hS he
 |cond c x y ihx ihy=>
  intro ac tr QA Q hX hQ E g s a w hS h;simp only[trC,q_c,q_a,q_d,q_b] at tr;obtain⟨cx,hcx,ax,Aq,ay,Dr,rfl⟩:=tr;simp only[vcW] at h;split at h;rotate_left
  ·exact h.elim
  rename_i t ht;have hv:=hS.x hcx;rw[ht] at hv;exact wp_cond_split (Xj hv) (fun h1=>ihx ax Aq hX hQ E g s a w hS (h.1 h1)) (fun h1=>ihy ay Dr hX hQ E g s a w hS (h.2 h1))
 |_=>
  intro ac tr QA Q hX hQ E g s a w hS h;refine Yy hm _ ac tr hX hQ E g s a w hS ?_;have key:(∀a b,ac≠.seq a b)/\(∀c a b,ac≠.cond c a b):=by
   constructor
   ·rintro a b rfl;simp[trC,q_a] at tr
    try (obtain⟨l,_,tr⟩:=tr;repeat' split at tr)<;>first|(cases tr;done)|exact absurd (Option.some.inj tr) ((Atk _ _ _).1 _ _)
   ·rintro c a b rfl;simp[trC,q_a] at tr
    try (obtain⟨l,_,tr⟩:=tr;repeat' split at tr)<;>first|(cases tr;done)|exact absurd (Option.some.inj tr) ((Atk _ _ _).2 _ _ _)
  cases ac with
  |seq a b=>exact absurd rfl (key.1 a b)
  |cond c a b=>exact absurd rfl (key.2 c a b)
  |_=>simpa only[vcW] using h
def Auz(C:CT)(f:AF)(G:GV)(args:List SV)(out:HOut)(G':GV):Prop:=
 vcW C f.body (fun e s=>match e with|.exit _=>False|_=>match out with|.ret r=>Ut f.res r G' s|.pan _=>False) { sl:=args++List.replicate (f.ntmps-args.length) .undef,hp:=[gOb G] }
def A3y{C:CT}{b:AC}{n:Nat}{res:List AR}{G G':GV}{args:List SV}{out:HOut}:Auz C { ntmps:=n,res:=res,body:=b } G args out G'=vcW C b (rtG res out G') ⟨args++List.replicate (n-args.length) .undef,[gOb G]⟩:=q_z
attribute [go_sem] A3y
def A9t{f:Nat}{fn:Func}{af:AF}{G G':GV}{args:List SV}{out:HOut}(hm:P.follows .mixedOrders=true)(hf:P.funcs[f]?=some fn)(htr:trF P fn=some af)
  (h:Auz (Bp P fun x G1=>out=.pan x/\G1=G') af G args out G'):HContract P f G args out G':=
 Ao1 hf htr (fun _ _ _ c ac ht _ hX hQ=>Bkh hm c ac ht hX hQ) h
end
def bnd(k:Int)(p:Nat):Nat:=(Cf k p).toNat
def vT(i:Nat):Tm:=.mk 2 i 0 0 []
def fT(l:Int):Tm:=.mk 0 l 0 0 []
mutual
def trT(v:Nat->Nat->Tm)(f:Nat->Int->Tm)(b:Nat):Tm->Tm
 |.mk k i j n l=>if k=2 then v b i.toNat else if k=0 then f b i else .mk k i j n (trL v f b k 0 l)
def trL(v:Nat->Nat->Tm)(f:Nat->Int->Tm)(b:Nat)(k:Int)(p:Nat):List Tm->List Tm
 |[]=>[]
 |t::l=>trT v f (b+bnd k p) t::trL v f b k (p+1) l
end
section
variable{v v1 v2:Nat->Nat->Tm}{f f1 f2:Nat->Int->Tm}
def Cz(b:Nat)(i:Nat):trT v f b (vT i)=v b i:=by unfold vT;rw[trT,if_pos rfl];rfl
def Ij(b:Nat)(l:Int):trT v f b (fT l)=f b l:=by unfold fT;rw[trT,if_neg (by decide),if_pos rfl]
def Uz(b:Nat)(i j n:Int)(l:List Tm):trT v f b (.mk 2 i j n l)=v b i.toNat:=by rw[trT,if_pos rfl]
def Wx(b:Nat)(i j n:Int)(l:List Tm):trT v f b (.mk 0 i j n l)=f b i:=by rw[trT,if_neg (by decide),if_pos rfl]
def Ev{k:Int}(h2:k≠2)(h0:k≠0)(b:Nat)(i j n:Int)(l:List Tm):trT v f b (.mk k i j n l)=.mk k i j n (trL v f b k 0 l):=by rw[trT,if_neg h2,if_neg h0]
def Mu(b:Nat)(k:Int):∀(l:List Tm) (p:Nat),(trL v f b k p l).length=l.length:=by
 intro l
 induction l with
 |nil=>intro p;rw[trL]
 |cons t l ih=>intro p;rw[trL,q_jk,q_jk,ih]
def Fm(b:Nat)(k:Int):∀(l:List Tm) (p q:Nat),(trL v f b k p l)[q]?=(l[q]?).map (trT v f (b+bnd k (p+q))):=by
 intro l
 induction l with
 |nil=>intro p q;rw[trL];simp
 |cons t l ih=>
  intro p q;rw[trL];cases q with
  |zero=>simp
  |succ q=>
   rw[q_kf,q_kf,ih,show p+1+q=p+(q+1) by omega]
def Aum(hv:∀b i,trT v2 f2 b (v1 b i)=v b i)(hf:∀b l,trT v2 f2 b (f1 b l)=f b l)(t:Tm):∀b,trT v2 f2 b (trT v1 f1 b t)=trT v f b t:=by
 induction t using Tm.ind with
 |h k i j n l ih=>
  intro b
  by_cases h2:k=2
  ·subst h2;rw[Uz,Uz,hv]
  by_cases h0:k=0
  ·subst h0;rw[Wx,Wx,hf]
  rw[Ev h2 h0,Ev h2 h0,Ev h2 h0];congr 1;apply List.ext_getElem?;intro q;rw[Fm,Fm,Fm,Option.map_map];cases hq:l[q]? with
  |none=>rfl
  |some t=>
   simp only[q_jh,Function.comp];rw[ih t (q_jb hq)]
def Bjc{b0:Nat}(hv:∀b i,b0<=b->v1 b i=v2 b i)(hf:∀b l,b0<=b->f1 b l=f2 b l)(t:Tm):∀b,b0<=b->trT v1 f1 b t=trT v2 f2 b t:=by
 induction t using Tm.ind with
 |h k i j n l ih=>
  intro b hb
  by_cases h2:k=2
  ·subst h2;rw[Uz,Uz,hv _ _ hb]
  by_cases h0:k=0
  ·subst h0;rw[Wx,Wx,hf _ _ hb]
  rw[Ev h2 h0,Ev h2 h0];congr 1;apply List.ext_getElem?;intro q;rw[Fm,Fm];cases hq:l[q]? with
  |none=>rfl
  |some t=>
   simp only[q_jh];rw[ih t (q_jb hq) _ (by omega)]
end
inductive Wf:Nat->Tm->Prop
 |var {b i:Nat} (h:i<b):Wf b (vT i)
 |fv (b:Nat) (l:Int):Wf b (fT l)
 |nd {b:Nat} {k:Int} (i j n:Int) {l:List Tm} (h2:k≠2) (h0:k≠0) (hf:fit i/\fit j/\fit n) (hl:(l.length:Int)=Bv k n) (hk:∀(p:Nat) t,l[p]?=some t->Wf (b+bnd k p) t):Wf b (.mk k i j n l)
def Wf.mono{b:Nat}{t:Tm}(h:Wf b t):∀{c},b<=c->Wf c t:=by
 induction h with
 |var h=>intro c hc;exact .var (by omega)
 |fv b l=>intro c _;exact .fv _ _
 |nd i j n h2 h0 hf hl _ ih=>intro c hc;exact .nd i j n h2 h0 hf hl (fun p t ht=>ih p t ht (by omega))
def Aun{v:Nat->Nat->Tm}{f:Nat->Int->Tm}{b:Nat}{t:Tm}(h:Wf b t):∀{c},b<=c->(∀c' i,i<b+(c'-c)->c<=c'->v c' i=vT i)->(∀b l,f b l=fT l)->trT v f c t=t:=by
 induction h with
 |var h=>intro c hc hv _;rw[Cz,hv _ _ (by omega) (q_ja _)]
 |fv b l=>intro c hc _ hf;rw[Ij,hf]
 |@nd b k i j n l h2 h0 Eb hl _ ih=>
  intro c hc hv hf;rw[Ev h2 h0];congr 1;apply List.ext_getElem?;intro q;rw[Fm];cases hq:l[q]? with
  |none=>rfl
  |some t=>
   simp only[q_jh,q_jg];rw[ih q t hq (by omega) (fun c' i hi hc'=>hv _ _ (by omega) (by omega)) hf]
def Bjh{v:Nat->Nat->Tm}{f:Nat->Int->Tm}{B:Nat}{t:Tm}(h:Wf B t):∀{b c:Nat},(∀b' i,b<=b'->Wf (c+(b'-b)) (v b' i))->(∀b' l,b<=b'->Wf (c+(b'-b)) (f b' l))->Wf c (trT v f b t):=by
 induction h with
 |var h=>intro b c hv _;rw[Cz];simpa using hv b _ (q_ja _)
 |fv B l=>intro b c _ hf;rw[Ij];simpa using hf b _ (q_ja _)
 |@nd B k i j n l h2 h0 Eb hl _ ih=>
  intro b c hv hf;rw[Ev h2 h0];refine .nd i j n h2 h0 Eb (by rw[Mu];exact hl) (fun p t ht=>?_);rw[Fm,q_jg] at ht;cases hq:l[p]? with
  |none=>rw[hq] at ht;cases ht
  |some u=>
   rw[hq,q_jh,q_b] at ht;subst ht;refine ih p u hq (fun b' i hb=>?_) (fun b' l hb=>?_)
   ·have:=hv b' i (by omega)
    rwa [show c+(b'-b)=c+bnd k p+(b'-(b+bnd k p)) by omega] at this
   ·have:=hf b' l (by omega)
    rwa [show c+(b'-b)=c+bnd k p+(b'-(b+bnd k p)) by omega] at this
def ivI(e:List Tm)(b i:Nat):Tm:=if i<b then vT i else match e[i-b]? with
 |some u=>u
 |none=>fT (e.length-(i-b:Nat)-1)
def Bc(e:List Tm):Nat->Tm->Tm:=trT (ivI e) (fun _ l=>fT l)
def Ba8{e:List Tm}(he:∀u∈e,Wf 0 u)(b i:Nat):Wf b (ivI e b i):=by
 unfold ivI;split
 ·exact .var (by omega)
 ·split
  ·rename_i u hu;exact (he u (q_jb hu)).mono (Nat.zero_le _)
  ·exact .fv _ _
def Aqx{e:List Tm}(he:∀u∈e,Wf 0 u){B:Nat}{t:Tm}(h:Wf B t)(b:Nat):Wf b (Bc e b t):=
 Bjh h (fun b' i hb=>(Ba8 he b' i).mono (by omega)) (fun b' l hb=>.fv _ _)
def Aeq{es e:List Tm}(he:∀u∈e,Wf 0 u)(hs:∀u∈es,Wf 0 u)(t:Tm):Bc es 0 (Bc e es.length t)=Bc (es++e) 0 t:=by
 have key:∀b,trT (ivI es) (fun _ l=>fT l) b (trT (fun b i=>ivI e (b+es.length) i) (fun _ l=>fT l) b t)=trT (ivI (es++e)) (fun _ l=>fT l) b t:=by
  refine Aum (fun b i=>?_) (fun b l=>Ij _ _) t;unfold ivI
  by_cases h1:i<b
  ·rw[if_pos (by omega),if_pos h1,Cz,if_pos h1]
  by_cases h2:i<b+es.length
  ·rw[if_pos h2,if_neg h1,Cz,if_neg h1,q_jf (by omega)];have hx:i-b<es.length:=by omega
   rw[q_f hx]
  ·rw[if_neg h2,if_neg h1,q_jj (by omega),show i-b-es.length=i-(b+es.length) by omega];cases hq:e[i-(b+es.length)]? with
   |none=>
    simp only;rw[Ij,q_jr];congr 1;omega
   |some u=>
    simp only;exact Aun (he u (q_jb hq)) (Nat.zero_le _) (fun c' i hi hc'=>by rw[if_pos (by omega)]) (fun _ _=>rfl)
 have e0:∀(t:Tm) (b:Nat),trT (fun b i=>ivI e (b+es.length) i) (fun _ l=>fT l) b t=trT (ivI e) (fun _ l=>fT l) (b+es.length) t:=by
  intro t
  induction t using Tm.ind with
  |h k i j n l ih=>
   intro b
   by_cases h2:k=2
   ·subst h2;rw[Uz,Uz]
   by_cases h0:k=0
   ·subst h0;rw[Wx,Wx]
   rw[Ev h2 h0,Ev h2 h0];congr 1;apply List.ext_getElem?;intro q;rw[Fm,Fm];cases hq:l[q]? with
   |none=>rfl
   |some t=>
    simp only[q_jh];rw[ih t (q_jb hq),show b+bnd k (0+q)+es.length=b+es.length+bnd k (0+q) by omega]
 have:=key 0;rw[e0,q_jg] at this;exact this
open Go Go.RowKit
def Ap(t:Tm)(p:Nat):Tm:=t.kids.getD p (vT 0)
def Cd(t:Tm)(p:Nat)(u:Tm):Tm:=.mk t.k t.i t.j t.n (t.kids.set p u)
def stk(k:Int):Option Nat:=if k=15\/k=18\/k=19 then some 0 else if k=22 then some 5 else none
def isV(k:Int):Prop:=k=14\/k=17\/k=21
def At5{k:Int}(h:isV k):stk k=none:=by
 unfold isV at h;unfold stk;rw[if_neg (by omega),if_neg (by omega)]
def Mr{k:Int}{p:Nat}(h:stk k=some p):(k=15\/k=18\/k=19\/k=22)/\p<6:=by
 unfold stk at h;split at h
 ·cases h;omega
 ·split at h
  ·cases h;omega
  ·cases h
def Akj(t:Tm)(p:Nat)(u:Tm):(Cd t p u).k=t.k:=rfl
def Atl(t:Tm)(p:Nat)(u:Tm):(Cd t p u).kids.length=t.kids.length:=by unfold Cd;simp[Tm.kids]
def Abk{t:Tm}{p:Nat}{u:Tm}(h:p<t.kids.length):Ap (Cd t p u) p=u:=by
 cases t with
 |mk k i j n l=>
  have h':p<l.length:=h;simp[Ap,Cd,Tm.kids,q_j,q_jq h']
def Bbs{t:Tm}{p q:Nat}{u:Tm}(h:p≠q):Ap (Cd t p u) q=Ap t q:=by
 cases t with
 |mk k i j n l=>simp[Ap,Cd,Tm.kids,q_j,q_jc h]
def Atq(t:Tm)(p:Nat)(u w:Tm):Cd (Cd t p u) p w=Cd t p w:=by
 unfold Cd;simp[Tm.kids,Tm.k,Tm.i,Tm.j,Tm.n]
def Akk{t:Tm}{p:Nat}:Cd t p (Ap t p)=t:=by
 cases t with
 |mk k i j n l=>
  unfold Cd Ap;simp only[Tm.k,Tm.i,Tm.j,Tm.n,Tm.kids];congr 1
  by_cases h:p<l.length
  ·apply List.ext_getElem?;intro q
   by_cases hq:p=q
   ·subst hq;rw[q_jq h,q_j,q_f h];rfl
   ·rw[q_jc hq]
  ·rw[List.set_eq_of_length_le (by omega)]
structure Ax(P:Tm->Option Tm):Prop where
 a:∀t u,P t=some u->t.k=23\/∃p,stk t.k=some p/\isV (Ap t p).k
inductive HS(P:Tm->Option Tm):Tm->Tm->Prop
 |here {t u:Tm} (h:P t=some u):HS P t u
 |down {t u:Tm} {p:Nat} (h:P t=none) (hp:stk t.k=some p) (hs:HS P (Ap t p) u):HS P t (Cd t p u)
inductive HN(P:Tm->Option Tm):Tm->Prop
 |mk {t:Tm} (h:P t=none) (hk:∀p,stk t.k=some p->HN P (Ap t p)):HN P t
inductive HR(P:Tm->Option Tm):Nat->Tm->Tm->Prop
 |refl (t:Tm):HR P 0 t t
 |step {n:Nat} {t u w:Tm} (h:HS P t u) (hr:HR P n u w):HR P (n+1) t w
section
variable{P:Tm->Option Tm}
def Bas(ax:Ax P){t u:Tm}(h:HS P t u):¬isV t.k:=by
 intro hv;cases h with
 |here h=>
  rcases ax.a _ _ h with h'|⟨p,h',_⟩
  ·unfold isV at hv;omega
  ·rw[At5 hv] at h';cases h'
 |down h hp hs=>rw[At5 hv] at hp;cases hp
def Aeh{t u:Tm}(h:HS P t u):∀{w},HS P t w->u=w:=by
 induction h with
 |here h=>
  intro w hw;cases hw with
  |here h'=>rw[h] at h';injection h'
  |down h'=>rw[h] at h';cases h'
 |down h hp hs ih=>
  intro w hw;cases hw with
  |here h'=>rw[h] at h';cases h'
  |down h' hp' Fa=>
   rw[hp] at hp';cases hp';rw[ih Fa]
def Yg{t:Tm}(h:HN P t):∀{u},¬HS P t u:=by
 induction h with
 |mk h hk ih=>
  intro u hu;cases hu with
  |here h'=>rw[h] at h';cases h'
  |down h' hp hs=>exact ih _ hp hs
def Bai(ax:Ax P)(i:Nat):HN P (vT i):=by
 refine .mk ?_ (fun p hp=>?_)
 ·cases h:P (vT i) with
  |none=>rfl
  |some u=>
   rcases ax.a _ _ h with h'|⟨p,h',_⟩
   ·exact absurd h' (show ¬(2:Int)=23 by decide)
   ·exact absurd (Mr h').1 (show ¬((2:Int)=15\/(2:Int)=18\/(2:Int)=19\/(2:Int)=22) by decide)
 ·exact absurd (Mr hp).1 (show ¬((2:Int)=15\/(2:Int)=18\/(2:Int)=19\/(2:Int)=22) by decide)
def Ai0(ax:Ax P)(t:Tm):HN P t\/∃u,HS P t u:=by
 induction t using Tm.ind with
 |h k i j n l ih=>
  cases hP:P (.mk k i j n l) with
  |some u=>exact .inr ⟨u,.here hP⟩
  |none=>
   cases hp:stk k with
   |none=>exact .inl (.mk hP (fun p hp'=>by rw[show (Tm.mk k i j n l).k=k from rfl,hp] at hp';cases hp'))
   |some p=>
    have:HN P (Ap (.mk k i j n l) p)\/∃u,HS P (Ap (.mk k i j n l) p) u:=by
     unfold Ap;rw[show (Tm.mk k i j n l).kids=l from rfl,q_j];cases hq:l[p]? with
     |none=>exact .inl (Bai ax 0)
     |some t=>exact ih t (q_jb hq)
    rcases this with h|⟨u,h⟩
    ·exact .inl (.mk hP (fun p' hp'=>by rw[show (Tm.mk k i j n l).k=k from rfl,hp] at hp';cases hp';exact h))
    ·exact .inr ⟨_,.down hP hp h⟩
def Aiy(ax:Ax P){t u:Tm}{p:Nat}(hp:stk t.k=some p)(h:HS P (Ap t p) u):HS P t (Cd t p u):=by
 refine .down ?_ hp h;cases hP:P t with
 |none=>rfl
 |some w=>
  rcases ax.a _ _ hP with h'|⟨q,h',hv⟩
  ·have:=(Mr hp).1;omega
  ·rw[hp] at h';cases h';exact absurd hv (Bas ax h)
def We{n m:Nat}{t u w:Tm}(h:HR P n t u)(k:HR P m u w):HR P (n+m) t w:=by
 induction h with
 |refl t=>rw[q_jg];exact k
 |step h hr ih=>rw[show ∀a:Nat,a+1+m=a+m+1 by omega];exact .step h (ih k)
def Aa7(ax:Ax P){n:Nat}{f g:Tm}(h:HR P n f g):∀{t:Tm} {p:Nat},stk t.k=some p->p<t.kids.length->Ap t p=f->HR P n t (Cd t p g):=by
 induction h with
 |refl f=>intro t p _ _ hf;subst hf;rw[Akk];exact .refl _
 |@step n f f1 g h hr ih=>
  intro t p hp hl hf;subst hf;refine .step (Aiy ax hp h) ?_;have:=ih (t:=Cd t p f1) (p:=p) hp (by rw[Atl];exact hl) (Abk hl)
  rwa [Atq] at this
def Aqa(ax:Ax P){N:Nat}{Y:Tm}:∀{t:Tm} {p:Nat},stk t.k=some p->p<t.kids.length->HR P N t Y->HN P Y ->
  ∃N1 g,N1<=N/\HR P N1 (Ap t p) g/\HN P g/\HR P (N-N1) (Cd t p g) Y:=by
 induction N with
 |zero=>
  intro t p hp hl hr hn;cases hr;cases hn with
  |mk h hk=>exact⟨0,_,q_ja _,.refl _,hk p hp,by rw[Akk];exact .refl _⟩
 |succ N ih=>
  intro t p hp hl hr hn;rcases Ai0 ax (Ap t p) with h|⟨u,h⟩
  ·exact⟨0,_,Nat.zero_le _,.refl _,h,by rw[Akk];exact hr⟩
  ·cases hr with
   |step h1 Cq=>
    have e:=Aeh h1 (Aiy ax hp h);subst e;obtain⟨N1,g,hN,r1,r2,r3⟩:=ih (t:=Cd t p u) (p:=p) hp (by rw[Atl];exact hl) Cq hn;rw[Abk hl] at r1;rw[Atq] at r3;exact⟨N1+1,g,by omega,.step h r1,r2,by rw[show N+1-(N1+1)=N-N1 by omega];exact r3⟩
def Aee{N M:Nat}{t Y Z:Tm}(h:HR P N t Y)(hn:HN P Y)(k:HR P M t Z):M<=N/\HR P (N-M) Z Y:=by
 induction k generalizing N with
 |refl t=>exact⟨Nat.zero_le _,h⟩
 |step h1 hr ih=>
  cases h with
  |refl=>exact absurd h1 (Yg hn)
  |step h2 Jd=>
   have e:=Aeh h1 h2;subst e;obtain⟨a,b⟩:=ih Jd;exact⟨by omega,by rw[show ∀n m:Nat,n+1-(m+1)=n-m by omega];exact b⟩
def j7{N M:Nat}{t Y Z:Tm}(h:HR P N t Y)(hn:HN P Y)(k:HR P M t Z)(kn:HN P Z):N=M/\Y=Z:=by
 obtain⟨a,b⟩:=Aee h hn k;have:N-M=0/\Z=Y:=by
  generalize N-M=D at b;cases b with
  |refl=>exact⟨rfl,rfl⟩
  |step h1=>exact absurd h1 (Yg kn)
 exact⟨by omega,this.2.symm⟩
def Yk{Q:Tm->Option Tm}(ax:Ax Q)(Zu:∀t u,P t=some u->Q t=some u){t u:Tm}(h:HS P t u):HS Q t u:=by
 induction h with
 |here h=>exact .here (Zu _ _ h)
 |down h hp hs ih=>exact Aiy ax hp ih
def Bal{Q:Tm->Option Tm}(ax:Ax Q)(Zu:∀t u,P t=some u->Q t=some u){n:Nat}{t u:Tm}(h:HR P n t u):HR Q n t u:=by
 induction h with
 |refl t=>exact .refl t
 |step h hr ih=>exact .step (Yk ax Zu h) ih
def Bak{Q:Tm->Option Tm}(axP:Ax P)(ax:Ax Q)(Zu:∀t u,P t=some u->Q t=some u){N:Nat}{Y:Tm}:∀{t:Tm},HR Q N t Y->HN Q Y ->
  ∃N1 w,N1<=N/\HR P N1 t w/\HN P w/\HR Q (N-N1) w Y:=by
 induction N with
 |zero=>
  intro t hr hn;cases hr;rcases Ai0 axP Y with h|⟨u,h⟩
  ·exact⟨0,Y,q_ja _,.refl _,h,.refl _⟩
  ·exact absurd (Yk ax Zu h) (Yg hn)
 |succ N ih=>
  intro t hr hn;rcases Ai0 axP t with h|⟨u,h⟩
  ·exact⟨0,t,Nat.zero_le _,.refl _,h,hr⟩
  ·cases hr with
   |step h1 Cq=>
    have e:=Aeh h1 (Yk ax Zu h);subst e;obtain⟨N1,w,hN,r1,r2,r3⟩:=ih Cq hn;exact⟨N1+1,w,by omega,.step h r1,r2,by rw[show N+1-(N1+1)=N-N1 by omega];exact r3⟩
end
def plW(t:Tm):Option Tm:=
 if t.k=15/\(Ap t 0).k=14 then some (Bc [Ap t 1] 0 (Ap (Ap t 0) 1))
 else if t.k=18/\(Ap t 0).k=17 then some (Ap (Ap t 0) 2)
 else if t.k=19/\(Ap t 0).k=17 then some (Ap (Ap t 0) 3)
 else if t.k=22/\(Ap t 5).k=21 then some (Ap t 3) else none
def plD(B:Int->Int->Int->Option Tm)(t:Tm):Option Tm:=
 if t.k=23 then (B t.n t.i t.j).map (fun b=>Bc t.kids.reverse 0 b) else plW t
def axW:Ax plW:=by
 refine⟨fun t u h=>?_⟩;unfold plW at h;unfold isV stk;split at h
 ·rename_i c;exact .inr ⟨0,by rw[if_pos (by omega)],by omega⟩
 split at h
 ·rename_i c;exact .inr ⟨0,by rw[if_pos (by omega)],by omega⟩
 split at h
 ·rename_i c;exact .inr ⟨0,by rw[if_pos (by omega)],by omega⟩
 split at h
 ·rename_i c;exact .inr ⟨5,by rw[if_neg (by omega),if_pos (by omega)],by omega⟩
 ·cases h
def axD(B:Int->Int->Int->Option Tm):Ax (plD B):=by
 refine⟨fun t u h=>?_⟩;unfold plD at h;split at h
 ·rename_i c;exact .inl c
 ·exact axW.a t u h
def plWD{B:Int->Int->Int->Option Tm}:∀t u,plW t=some u->plD B t=some u:=by
 intro t u h;unfold plD;rw[if_neg,h];intro c;unfold plW at h;rw[if_neg (by omega),if_neg (by omega),if_neg (by omega),if_neg (by omega)] at h;cases h
end Go.Proofs.YtgdkddjdhijfnaaGreatDoor.Abs
