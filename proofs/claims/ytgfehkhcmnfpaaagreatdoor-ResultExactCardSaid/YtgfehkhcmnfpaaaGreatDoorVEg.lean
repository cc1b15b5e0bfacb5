import Derived.Test.YtgfehkhcmnfpaaaGreatDoorVQf
import Derived.Test.YtgfehkhcmnfpaaaGreatDoorVWg
import Derived.Test.YtgfehkhcmnfpaaaGreatDoorVAfR
import Derived.Test.YtgfehkhcmnfpaaaGreatDoorVEv
import Derived.Test.YtgfehkhcmnfpaaaGreatDoorProg
import Derived.KernelRfl
import Derived.Test.YtgfehkhcmnfpaaaGreatDoorVAfC
import Derived.Shelf.Strings.BuilderK
import Derived.WalkKit
import Derived.WalkLawsBesides
import Derived.BigCall
import Derived.Test.YtgfehkhcmnfpaaaGreatDoorVOh
import Derived.Lib.AppendIntMem
import Derived.Lib.ItoaLen
import Derived.OwnWalk
import Derived.Laws.AppendOwnNone
import Derived.Laws.IdiomStrings
set_option linter.all false
set_option maxRecDepth 20000
set_option maxHeartbeats 4000000
namespace Go.Proofs.YtgfehkhcmnfpaaaGreatDoor.Abs
open Go Go.RowKit Go.Proofs.YtgfehkhcmnfpaaaGreatDoor
def A1z(k i j n:Int)(len:Nat):Abg k i j n len=Fw k i j n 1 len:=by
 unfold Abg Fw Rz;rw[show (!((len:Int) != Fc k n))=((len:Int)==Fc k n) by simp[bne]]
 by_cases h:k<=0\/23<k
 ·rw[Ae0 k n len h];simp
 ·congr 1;have hs:Ge k=if k=1\/k=2 then 0 else if k<=12 then 1 else 2:=rfl
  have e1:decide (k<1)=false:=by simp;omega
  rw[e1,hs]
  by_cases h1:k=1\/k=2
  ·rw[if_pos h1];have e4:decide (k > 12)=false:=by simp;omega
   rw[e4];rfl
  ·rw[if_neg h1]
   by_cases h3:k<=12
   ·rw[if_pos h3];have e4:decide (k > 12)=false:=by simp;omega
    rw[e4];rfl
   ·rw[if_neg h3];have e4:decide (k > 12)=true:=by simp;omega
    rw[e4];rfl
def Ay4(k i j n:Int)(l:List Tm):Fd (.mk k i j n l)=(Fw k i j n 1 l.length && Gg (fun p t=>if ((k==12) && ((p:Int)==2))=true then Oi t else Fd t) 0 l):=by
 show Cz _ 1=_;rw[Kb];cases h:Fw k i j n 1 l.length
 ·rfl
 ·rw[q_la,q_la];unfold Fw at h;simp only[q_jl,q_kw,Bool.not_eq_true',bne_eq_false_iff_eq] at h;obtain⟨h1,h2,_⟩:=h;have hs:Ge k=if k=1\/k=2 then 0 else if k<=12 then 1 else 2:=rfl
  by_cases Nm:k=1\/k=2
  ·have:l=[]:=by
    rcases Nm with rfl|rfl
    ·exact q_ky.1 (by simpa [Fc,tab] using h2)
    ·exact q_ky.1 (by simpa [Fc,tab] using h2)
   subst this;rfl
  ·rw[if_neg Nm] at hs;have hk:Ge k=1:=by
    rcases h1 with h1|h1|h1
    ·omega
    ·rw[hs] at h1;split at h1<;>omega
    ·exact h1
   refine l7 (fun p t _=>?_);unfold ofN;rw[hk]
   by_cases a:k=12
   ·by_cases b:p=2
    ·subst b;subst a;rfl
    ·rw[if_neg (fun h=>b h.2),Bh (show (p:Int)≠2 by omega),q_lb];rfl
   ·rw[if_neg (fun h=>a h.1),Bh a,q_lc];rfl
def Acq(t:Tm):TOk t->Con 58 [.agg true (tv t)] (.bool (Fd t)):=by
 induction t using Tm.ind with
 |h k i j n l ih=>
  intro hok;cases hok with
  |mk _ _ _ _ _ f1 f2 f3 f4 hb hl=>
  have h:=Aq5 k i j n (l.map tv) (fun p r=>onT (fun t=>if ((k==12) && ((p:Int)==2))=true then Oi t else Fd t) false r) (by simpa using hb) (rows5 l)
   (fun p r hr hc=>by
    obtain⟨t,ht,rfl⟩:=q_kz.1 hr;simp only[Ky];rw[if_pos hc];exact Acr t (hl t ht))
   (fun p r hr hc=>by
    obtain⟨t,ht,rfl⟩:=q_kz.1 hr;simp only[Ky];rw[if_neg (by rw[hc];exact Bool.false_ne_true)];exact ih t ht (hl t ht))
  rw[q_g,A1z,Agq,l7 (g:=fun p t=>if ((k==12) && ((p:Int)==2))=true then Oi t else Fd t) (fun p t _=>by rw[Ky]),<-Ay4,<-Bp] at h;exact h
def A1y(t:Tm):Cz t 0=(Fd t || Oi t):=by
 cases t with
 |mk k i j n l=>
 show Cz _ 0=(Cz _ 1 || Cz _ 2)
 rw[Kb,Kb,Kb];unfold Fw Ge
 by_cases h1:k=1\/k=2
 ·rw[if_pos h1];simp
 ·rw[if_neg h1]
  by_cases h2:k<=12
  ·rw[if_pos h2];simp
  ·rw[if_neg h2];simp
def Aht(t:Tm)(ht:TOk t):Con 60 [.agg true (tv t)] (.bool (Cz t 0)):=by
 rw[A1y];have h1:=Acq t ht;have h2:=Acr t ht;have hz:=Bz t;refine Bt mixed Tryz.func60 tr60 ?_;cases hm:Fd t
 ·rw[hm] at h1;simp only[go_sem,seval,hz];refine Ae h1 ?_;simp only[go_sem,seval,hz];refine Ae h2 ?_;simp only[go_sem,seval]
 ·rw[hm] at h1;simp only[go_sem,seval,hz];refine Ae h1 ?_;simp only[go_sem,seval,hz]
def Aq1(k i j n:Int)(rows:GV)(V:Nat->Int)(h2:rows.length*56<=140737488355328)(h5:∀r∈rows,r.length=5)(hk:k≠2)(hV:∀x,x<rows.length->0<=V x/\V x<=2147483648)
  (H:∀x,x<rows.length->Con 61 [.agg true (rows[x]?.getD [])] (.int .i64 (V x))) :
  Con 61 [.agg true [.int .i64 k,.int .i64 i,.int .i64 j,.int .i64 n,.dsl 5 rows]] (.int .i64 (pm (fun x=>V x-Cn k (x:Nat)) rows.length)):=by
 refine Bt mixed Tryz.func61 tr61 ?_;have q:(k==2)=false:=Bh hk;simp only[go_sem,seval,q];obtain⟨W,hW⟩:∃W,(fun x:Nat=>V x-Cn k (x:Nat))=W:=⟨_,rfl⟩
 rw[hW];refine Kf (fun x=>⟨(.J::.ref 0 0 0 0::.int .i64 0::.int .i64 (pm W x)::.int .i64 x::Fa (jk8 (jk2 (.J::[])))),[⟨true,5,[[.int .i64 k,.int .i64 i,.int .i64 j,.int .i64 n,.dsl 5 rows]],0,0,true⟩]⟩) rows.length (fun x hx=>?_) ?_
 ·simp only[go_sem,seval];intros;refine⟨fun h=>?_,fun h=>?_⟩
  ·have Aq:=q_ku h;have El:x<rows.length:=by omega
   have e0:(0:Int)<=(x:Int):=by omega
   have hm:=Fg (d:=[]) El;have Iv:=h5 _ hm;have hb:=Pk k x;have hv:=hV x El;have ew:IntKind.i64.wrap (V x-Cn k x)=W x:=by rw[<-hW];exact w64 (by unfold fit;omega)
   simp only[go_sem,seval,Aq,e0,Iv];refine Ae (H x El) ?_;simp only[go_sem,seval];refine Ae (Aco k x) ?_;simp only[go_sem,seval,ew,Alx];refine⟨El,?_⟩;rw[w64 (n:=(x:Int)+1) (by unfold fit;omega)];exact Cr (by simp[Cb])
  ·have Hz:=q_kv h;have Oc:x=rows.length:=by omega
   subst Oc;simp only[go_sem,seval,h]
 ·exact Cr (by simp[Cb,pm])
def Aq0(t:Tm):TOk t->∀(w:Int),Cz t w=true->Con 61 [.agg true (tv t)] (.int .i64 (Da t)):=by
 induction t using Tm.ind with
 |h k i j n l ih=>
  intro hok w hr;obtain⟨f1,f2,f3,f4,hb,hl⟩:=Abv hok
  by_cases hk:k=2
  ·obtain⟨i1,i2⟩:=Afr hr hk;have q:(k==2)=true:=by simp[hk]
   have e1:IntKind.i64.wrap (i+1)=i+1:=w64 (by unfold fit;omega);rw[Da,if_pos hk];refine Bt mixed Tryz.func61 tr61 ?_;rw[Bp];simp only[go_sem,seval,q,e1]
  ·have Bl:(l.map tv).length=l.length:=by simp
   have h:=Aq1 k i j n (l.map tv) (fun x=>Da (l[x]?.getD default)) (by omega) (rows5 l) hk (fun x hx=>by
    rw[Bl] at hx;obtain⟨w',hw⟩:=Uf hr (Fg (d:=default) hx);exact Aii _ w' hw) (fun x hx=>by
    rw[Bl] at hx;rw[q_ji,q_f hx];have hm:=q_kd hx;obtain⟨w',hw⟩:=Uf hr hm;exact ih _ hm (hl _ hm) w' hw)
   rw[Bl,<-Bp,<-v7 hk] at h;exact h
def q8(t:Tm)(ht:TOk t):Con 28 [.agg true (tv t)] (.int .i64 (Gy t)):=by
 have h1:=Aht t ht;have hz:=Bz t;unfold Gy;refine Bt mixed Tryz.func28 tr28 ?_;cases hr:Cz t 0
 ·rw[hr] at h1;simp only[go_sem,seval,hz];refine Ae h1 ?_;simp only[go_sem,seval]
 ·rw[hr] at h1;have h2:=Aq0 t ht 0 hr;simp only[go_sem,seval,hz];refine Ae h1 ?_;simp only[go_sem,seval,hz];refine Ae h2 ?_;simp only[go_sem,seval]
open Go Go.Proofs Go.Proofs.YtgfehkhcmnfpaaaGreatDoor
def af102:AF:=⟨18,[(.t 2)],(Ad [oP 2 (.mv (Ap []))] (Ad [oP 4 (.call 135 []),Ac 3 4] (.seq (Ad [Ac 5 0,oP 6 (Bi .lss 5 1),Ac 7 6,oG 8 7 false 0 (mT 0),oG 9 7 false 0 (mT 3),oG 10 7 false 0 (.len false (.t 9)),oG 11 7 false 0 (Bu .gtr 8 10),oP 12 (Cx 7 11)] (Ak 12 (Ad [oP 2 (.mv (Ap []))] .ret) .skip)) (Ad [Ac 13 3,Ac 14 0,oP 15 (Bi .sub 14 1),oP 16 (.iad 1 (.t 13) (.t 15)),oP 17 (Ag 16),Ac 2 17] .ret))))⟩
def tr102:trF Tryz.prog Tryz.f102=some af102:=by kernel_rfl
attribute [go_sem] af102
def a66_71:AC:=.seq (Ad [Ac 95 6,oP 96 (Af 4 2),oP 97 (Ag 96),oP 98 (.len false (.t 97)),oP 99 (Bu .lss 95 98)] (Em 99 1)) (.seq (.blk 2 (.seq (Ad [oP 102 (Af 0 2),oP 103 (Ag 102),oP 104 (Al 103 22),Ac 105 104,oG 106 105 true 0 (mT 6),oG 107 105 true 0 (Al 106 2),oP 108 (Bv 105 107)] (Ak 108 (Bo [Ac 109 5,oP 110 (.bin 4 .add (.t 109) (Ap [32,118])),Ac 111 1,oP 112 (.call 35 [(.t 111)]),oP 113 (.bin 4 .add (.t 110) (.t 112)),oP 114 (.bin 4 .add (.t 113) (Ap [32,118])),Ac 115 1,oP 116 (Bi .add 115 1),oP 117 (.call 35 [(.t 116)]),oP 118 (.bin 4 .add (.t 114) (.t 117)),Ac 5 118]) .skip)) (.reg [Ac 119 5,oI 120 1 (.bin 4 .add (.t 119) (Ap [32])),oI 121 2 (Af 4 2),⟨(some 122),(Ag 121),none,3,true,[]⟩,oI 123 4 (mT 6),⟨(some 124),(.iad 5 (.t 122) (.t 123)),none,5,true,[]⟩,⟨(some 125),(Ao 5 124),none,6,true,[]⟩,oI 126 7 (mT 1),oI 127 8 (Af 0 2),oI 128 9 (Ag 127),oI 129 10 (mT 6),⟨(some 130),(.call 94 [(.t 128),(.t 129)]),none,11,false,[3,5,6]⟩,oI 131 12 (Bu .add 126 130),oI 132 13 (.call 66 [(.t 125),(.t 131)]),oI 133 14 (.bin 4 .add (.t 120) (.t 132)),oI 5 15 (mT 133)] true))) (Bo [Ac 100 6,oP 101 (Bi .add 100 1),Ac 6 101]))
def a66_76:AC:=Ad [Ac 134 5,oP 135 (.bin 4 .add (.t 134) (Ap [41])),Ac 4 135] .ret
def af66:AF:=⟨136,[(.t 4)],(Ad [oP 2 (.box (.t 0)),oP 4 (.mv (Ap []))] (.seq (Ad [oP 7 (Af 0 2),oP 8 (Ag 7),oP 9 (Al 8 2)] (Ak 9 (Ad [Ac 10 1,oP 11 (Bi .sub 10 1),oP 12 (Af 1 2),oP 13 (Ag 12),oP 14 (Bu .sub 11 13),oP 15 (.call 35 [(.t 14)]),oP 16 (.bin 4 .add (Ap [118]) (.t 15)),Ac 4 16] .ret) .skip)) (Ad [oP 5 (.mv (Ap [40]))] (.seq (Ad [oP 17 (Af 0 2),oP 18 (Ag 17),oP 19 (Bi .leq 18 12)] (Ak 19 (.reg [Ac 20 5,⟨(some 21),(.call 100 []),none,1,true,[]⟩,oI 22 2 (Af 0 2),⟨(some 23),(Ag 22),none,3,false,[1]⟩,oI 24 4 (Bi .sub 23 1),oI 25 5 (.iad 1 (.t 21) (.t 24)),oI 26 6 (Ag 25),oI 27 7 (.bin 4 .add (.t 20) (.t 26)),oI 5 8 (mT 27)] true) (.reg [Ac 28 5,⟨(some 29),(.call 101 []),none,1,true,[]⟩,oI 30 2 (Af 0 2),⟨(some 31),(Ag 30),none,3,false,[1]⟩,oI 32 4 (Bi .sub 31 13),oI 33 5 (.iad 1 (.t 29) (.t 32)),oI 34 6 (Ag 33),oI 35 7 (.bin 4 .add (.t 28) (.t 34)),oI 5 8 (mT 35)] true))) (.seq (Ad [oP 36 (Af 0 2),oP 37 (Ag 36)] (.blk 0 (Ad [oP 39 (Al 37 23),Ac 38 39] (Ak 38 (.reg [Ac 40 5,oI 41 1 (.bin 4 .add (.t 40) (Ap [32])),oI 42 2 (Af 3 2),oI 43 3 (Ag 42),⟨(some 44),(.call 102 [(.t 43)]),none,4,true,[]⟩,oI 45 5 (.bin 4 .add (.t 41) (.t 44)),oI 46 6 (.bin 4 .add (.t 45) (Ap [32])),oI 47 7 (Af 1 2),⟨(some 48),(Ag 47),none,8,false,[4]⟩,⟨(some 49),(.call 35 [(.t 48)]),none,9,true,[]⟩,oI 50 10 (.bin 4 .add (.t 46) (.t 49)),oI 51 11 (.bin 4 .add (.t 50) (Ap [32])),oI 52 12 (Af 2 2),⟨(some 53),(Ag 52),none,13,false,[4,9]⟩,oI 54 14 (.call 35 [(.t 53)]),oI 55 15 (.bin 4 .add (.t 51) (.t 54)),oI 5 16 (mT 55)] true) (.seq (Ad [oP 57 (Al 37 3),Ac 56 57] (Ak 56 .skip (Ad [oP 58 (Al 37 4),Ac 56 58] (Ak 56 .skip (Ad [oP 59 (Al 37 5),Ac 56 59] (Ak 56 .skip (Ad [oP 60 (Al 37 6),Ac 56 60] (Ak 56 .skip (Ad [oP 61 (Al 37 7),Ac 56 61] (Ak 56 .skip (Ad [oP 62 (Al 37 8),Ac 56 62] (Ak 56 .skip (Bo [oP 63 (Al 37 9),Ac 56 63]))))))))))))) (Ak 56 (.reg [Ac 64 5,oI 65 1 (.bin 4 .add (.t 64) (Ap [32])),oI 66 2 (Af 1 2),oI 67 3 (Ag 66),⟨(some 68),(.call 35 [(.t 67)]),none,4,true,[]⟩,oI 69 5 (.bin 4 .add (.t 65) (.t 68)),oI 70 6 (.bin 4 .add (.t 69) (Ap [32])),oI 71 7 (Af 2 2),⟨(some 72),(Ag 71),none,8,false,[4]⟩,oI 73 9 (.call 35 [(.t 72)]),oI 74 10 (.bin 4 .add (.t 70) (.t 73)),oI 5 11 (mT 74)] true) (.seq (Ad [oP 76 (Al 37 1),Ac 75 76] (Ak 75 .skip (Ad [oP 77 (Al 37 10),Ac 75 77] (Ak 75 .skip (Ad [oP 78 (Al 37 11),Ac 75 78] (Ak 75 .skip (Bo [oP 79 (Al 37 12),Ac 75 79]))))))) (Ak 75 (Bo [Ac 80 5,oP 81 (.bin 4 .add (.t 80) (Ap [32])),oP 82 (Af 1 2),oP 83 (Ag 82),oP 84 (.call 35 [(.t 83)]),oP 85 (.bin 4 .add (.t 81) (.t 84)),Ac 5 85]) .skip)))))))) (.seq (Ad [oP 86 (Af 0 2),oP 87 (Ag 86),oP 88 (.call 94 [(.t 87),(cI 1)]),oP 89 (Al 88 1)] (Ak 89 (Bo [Ac 90 5,oP 91 (.bin 4 .add (.t 90) (Ap [32,118])),Ac 92 1,oP 93 (.call 35 [(.t 92)]),oP 94 (.bin 4 .add (.t 91) (.t 93)),Ac 5 94]) .skip)) (.seq (Ad [oP 6 (.mv (cI 0))] (.blk 1 (.loop a66_71))) a66_76)))))))⟩
def tr66:trF Tryz.prog Tryz.f66=some af66:=by kernel_rfl
attribute [go_sem] af66 a66_71 a66_76
def af36:AF:=⟨25,[(.t 4)],(Ad [oP 2 (.box (.t 0)),oP 4 (.mv (Ap []))] (.seq (Ad [Ac 5 1,oP 6 (Bi .lss 5 0),Ac 7 6,oG 8 7 false 0 (mT 1),oG 9 7 false 0 (Bi .gtr 8 1000000),oP 10 (Cx 7 9),Ac 11 10,oG 12 11 false 0 (Ao 5 2),oG 13 11 false 0 (.call 60 [(.t 12)]),oG 14 11 false 0 (.un .not (.t 13)),oP 15 (Cx 11 14),Ac 16 15,oG 17 16 false 0 (Ao 5 2),oG 18 16 false 0 (.call 28 [(.t 17)]),oG 19 16 false 0 (mT 1),oG 20 16 false 0 (Bu .gtr 18 19),oP 21 (Cx 16 20)] (Ak 21 (Ad [oP 4 (.mv (Ap []))] .ret) .skip)) (Ad [oP 22 (Ao 5 2),Ac 23 1,oP 24 (.call 66 [(.t 22),(.t 23)]),Ac 4 24] .ret)))⟩
def tr36:trF Tryz.prog Tryz.f36=some af36:=by kernel_rfl
attribute [go_sem] af36
def af25:AF:=⟨13,[(.t 4)],(Ad [oP 3 (.box (.t 1)),oP 4 (.mv (cB false))] (Ad [oP 5 (Ao 5 3),oP 6 (.call 58 [(.t 5)]),Ac 7 6,oG 8 7 true 0 (Ao 5 3),oG 9 7 true 0 (.call 28 [(.t 8)]),oG 10 7 true 0 (mT 0),oG 11 7 true 0 (Bu .leq 9 10),oP 12 (Bv 7 11),Ac 4 12] .ret))⟩
def tr25:trF Tryz.prog Tryz.f25=some af25:=by kernel_rfl
attribute [go_sem] af25
def af10:AF:=⟨73,[(.t 2)],(Ad [oP 1 (.box (.t 0)),oP 2 (.mv (cB false))] (Ad [oP 4 (Af 0 1),oP 5 (Ag 4),oP 6 (.len false (.t 5)),Ac 3 6] (.seq (Ad [oP 7 (Af 0 1),oP 8 (Ag 7),oP 9 (.call 24 [(.t 8)]),oP 10 (.un .not (.t 9)),Ac 11 10,oG 12 11 false 0 (Af 2 1),oG 13 11 false 0 (Ag 12),oG 14 11 false 0 (Bi .lss 13 0),oP 15 (Cx 11 14),Ac 16 15,oG 17 16 false 0 (Af 2 1),oG 18 16 false 0 (Ag 17),oG 19 16 false 0 (Bi .gtr 18 1000),oP 20 (Cx 16 19),Ac 21 20,oG 22 21 false 0 (mT 3),oG 23 21 false 0 (Af 3 1),oG 24 21 false 0 (Ao 5 23),oG 25 21 false 0 (.call 25 [(.t 22),(.t 24)]),oG 26 21 false 0 (.un .not (.t 25)),oP 27 (Cx 21 26),Ac 28 27,oG 29 28 false 0 (mT 3),oG 30 28 false 0 (Af 8 1),oG 31 28 false 0 (Ao 5 30),oG 32 28 false 0 (.call 25 [(.t 29),(.t 31)]),oG 33 28 false 0 (.un .not (.t 32)),oP 34 (Cx 28 33)] (Ak 34 (Ad [oP 2 (.mv (cB false))] .ret) .skip)) (.seq (Ad [oP 35 (Af 1 1),oP 36 (Ag 35),oP 37 (.un .not (.t 36))] (Ak 37 (Ad [oP 38 (Af 13 1),oP 39 (Ao 5 38),oP 40 (.call 26 [(.t 39)]),Ac 41 40,oG 42 41 true 0 (Af 18 1),oG 43 41 true 0 (Ao 5 42),oG 44 41 true 0 (.call 26 [(.t 43)]),oP 45 (Bv 41 44),Ac 46 45,oG 47 46 true 0 (Af 23 1),oG 48 46 true 0 (Ao 5 47),oG 49 46 true 0 (.call 26 [(.t 48)]),oP 50 (Bv 46 49),Ac 2 50] .ret) .skip)) (Ad [Ac 51 3,oP 52 (Af 13 1),oP 53 (Ao 5 52),oP 54 (.call 25 [(.t 51),(.t 53)]),Ac 55 54,oG 56 55 true 0 (mT 3),oG 57 55 true 0 (Af 18 1),oG 58 55 true 0 (Ao 5 57),oG 59 55 true 0 (.call 25 [(.t 56),(.t 58)]),oP 60 (Bv 55 59),Ac 61 60,oG 62 61 true 0 (Af 23 1),oG 63 61 true 0 (Ao 5 62),oG 64 61 true 0 (.call 27 [(.t 63)]),oP 65 (Bv 61 64),Ac 66 65,oG 67 66 true 0 (Af 23 1),oG 68 66 true 0 (Ao 5 67),oG 69 66 true 0 (.call 28 [(.t 68)]),oG 70 66 true 0 (mT 3),oG 71 66 true 0 (Bu .leq 69 70),oP 72 (Bv 66 71),Ac 2 72] .ret)))))⟩
def tr10:trF Tryz.prog Tryz.f10=some af10:=by kernel_rfl
attribute [go_sem] af10
def a12_24:AC:=.seq (Ad [Ac 11 4,oP 12 (Af 0 1),oP 13 (Ag 12),oP 14 (.len false (.t 13)),oP 15 (Bu .lss 11 14)] (Em 15 0)) (.seq (.blk 1 (.seq (Ad [Ac 18 4,oP 19 (Bi .gtr 18 0)] (Ak 19 (Bo [Ac 20 3,oP 21 (.bin 4 .add (.t 20) (Ap [32])),Ac 3 21]) .skip)) (.reg [Ac 22 3,oI 23 1 (Af 0 1),oI 24 2 (Ag 23),oI 25 3 (mT 4),oI 26 4 (.iad 6 (.t 24) (.t 25)),oI 27 5 (Af 5 26),oI 28 6 (Ag 27),⟨(some 29),(.call 35 [(.t 28)]),none,7,true,[]⟩,oI 30 8 (.bin 4 .add (.t 22) (.t 29)),oI 31 9 (.bin 4 .add (.t 30) (Ap [32])),oI 32 10 (Af 0 1),⟨(some 33),(Ag 32),none,11,false,[7]⟩,oI 34 12 (mT 4),⟨(some 35),(.iad 6 (.t 33) (.t 34)),none,13,false,[7]⟩,oI 36 14 (Af 0 35),⟨(some 37),(Ao 5 36),none,15,false,[7]⟩,oI 38 16 (mT 4),oI 39 17 (.call 36 [(.t 37),(.t 38)]),oI 40 18 (.bin 4 .add (.t 31) (.t 39)),oI 3 19 (mT 40)] true))) (Bo [Ac 16 4,oP 17 (Bi .add 16 1),Ac 4 17]))
def a12_39:AC:=Ad [oP 41 (Af 0 1),oP 42 (Ag 41),oP 43 (.len false (.t 42)),Ac 5 43] (Ad [Ac 44 3,oP 45 (.bin 4 .add (.t 44) (Ap [41,32])),oP 46 (Af 2 1),oP 47 (Ag 46),oP 48 (.call 35 [(.t 47)]),oP 49 (.bin 4 .add (.t 45) (.t 48)),oP 50 (.bin 4 .add (.t 49) (Ap [32])),Ac 3 50] (.seq (Ad [oP 51 (Af 1 1),oP 52 (Ag 51),oP 53 (.un .not (.t 52))] (Ak 53 (Cs [Ac 54 3,oI 55 1 (Af 8 1),oI 56 2 (Ao 5 55),oI 57 3 (mT 5),⟨(some 58),(.call 36 [(.t 56),(.t 57)]),none,4,true,[]⟩,oI 59 5 (.bin 4 .add (.t 54) (.t 58)),oI 60 6 (.bin 4 .add (.t 59) (Ap [32])),oI 61 7 (Af 3 1),⟨(some 62),(Ao 5 61),none,8,false,[4]⟩,oI 63 9 (mT 5),oI 64 10 (.call 36 [(.t 62),(.t 63)]),oI 65 11 (.bin 4 .add (.t 60) (.t 64)),oI 66 12 (.bin 4 .add (.t 65) (Ap [41,10])),oI 2 13 (mT 66)] .ret) .skip)) (Cs [Ac 67 3,oI 68 1 (Af 3 1),oI 69 2 (Ao 5 68),oI 70 3 (mT 5),⟨(some 71),(.call 36 [(.t 69),(.t 70)]),none,4,true,[]⟩,oI 72 5 (.bin 4 .add (.t 67) (.t 71)),oI 73 6 (.bin 4 .add (.t 72) (Ap [32])),oI 74 7 (Af 8 1),⟨(some 75),(Ao 5 74),none,8,false,[4]⟩,oI 76 9 (mT 5),⟨(some 77),(.call 36 [(.t 75),(.t 76)]),none,10,true,[]⟩,oI 78 11 (.bin 4 .add (.t 73) (.t 77)),oI 79 12 (.bin 4 .add (.t 78) (Ap [32])),oI 80 13 (Af 13 1),⟨(some 81),(Ao 5 80),none,14,false,[4,10]⟩,oI 82 15 (mT 5),⟨(some 83),(.call 36 [(.t 81),(.t 82)]),none,16,true,[]⟩,oI 84 17 (.bin 4 .add (.t 79) (.t 83)),oI 85 18 (.bin 4 .add (.t 84) (Ap [32])),oI 86 19 (Af 18 1),⟨(some 87),(Ao 5 86),none,20,false,[4,10,16]⟩,oI 88 21 (mT 5),⟨(some 89),(.call 36 [(.t 87),(.t 88)]),none,22,true,[]⟩,oI 90 23 (.bin 4 .add (.t 85) (.t 89)),oI 91 24 (.bin 4 .add (.t 90) (Ap [32])),oI 92 25 (Af 23 1),⟨(some 93),(Ao 5 92),none,26,false,[4,10,16,22]⟩,oI 94 27 (mT 5),oI 95 28 (.call 36 [(.t 93),(.t 94)]),oI 96 29 (.bin 4 .add (.t 91) (.t 95)),oI 97 30 (.bin 4 .add (.t 96) (Ap [41,10])),oI 2 31 (mT 97)] .ret)))
def af12:AF:=⟨98,[(.t 2)],(Ad [oP 1 (.box (.t 0)),oP 2 (.mv (Ap []))] (.seq (Ad [oP 6 (Ao 28 1),oP 7 (.call 10 [(.t 6)]),oP 8 (.un .not (.t 7))] (Ak 8 (Ad [oP 2 (.mv (Ap []))] .ret) .skip)) (Ad [oP 3 (.mv (Ap [40,116,101,114,109,32,40]))] (.seq (Ad [oP 9 (Af 1 1),oP 10 (Ag 9)] (Ak 10 (Bo [oP 3 (.mv (Ap [40,101,113,117,97,108,32,40]))]) .skip)) (.seq (Ad [oP 4 (.mv (cI 0))] (.blk 0 (.loop a12_24))) a12_39)))))⟩
def tr12:trF Tryz.prog Tryz.f12=some af12:=by kernel_rfl
attribute [go_sem] af12 a12_24 a12_39
def af24:AF:=⟨36,[(.t 2)],(Ad [oP 2 (.mv (cB false))] (.seq (Ad [oP 3 (.mv (cI 0))] (.blk 0 (.loop (.seq (Ad [Ac 4 3,Ac 5 0,oP 6 (.len false (.t 5)),oP 7 (Bu .lss 4 6)] (Em 7 0)) (.seq (.blk 1 (Ad [Ac 10 0,Ac 11 3,oP 12 (.iad 6 (.t 10) (.t 11)),oP 13 (Af 5 12),oP 14 (Ag 13),oP 15 (.call 57 [(.t 14)]),oP 16 (.un .not (.t 15)),Ac 17 16,oG 18 17 false 0 (mT 0),oG 19 17 false 0 (mT 3),oG 20 17 false 0 (.iad 6 (.t 18) (.t 19)),oG 21 17 false 0 (Af 0 20),oG 22 17 false 0 (Ao 5 21),oG 23 17 false 0 (.call 58 [(.t 22)]),oG 24 17 false 0 (.un .not (.t 23)),oP 25 (Cx 17 24),Ac 26 25,oG 27 26 false 0 (mT 0),oG 28 26 false 0 (mT 3),oG 29 26 false 0 (.iad 6 (.t 27) (.t 28)),oG 30 26 false 0 (Af 0 29),oG 31 26 false 0 (Ao 5 30),oG 32 26 false 0 (.call 28 [(.t 31)]),oG 33 26 false 0 (mT 3),oG 34 26 false 0 (Bu .gtr 32 33),oP 35 (Cx 26 34)] (Ak 35 (Ad [oP 2 (.mv (cB false))] .ret) .skip))) (Bo [Ac 8 3,oP 9 (Bi .add 8 1),Ac 3 9])))))) (Ad [oP 2 (.mv (cB true))] .ret)))⟩
def tr24:trF Tryz.prog Tryz.f24=some af24:=by kernel_rfl
attribute [go_sem] af24
def af57:AF:=⟨9,[(.t 2)],(Ad [oP 2 (.mv (cB false))] (Ad [Ac 3 0,oP 4 (Bi .geq 3 0),Ac 5 4,oG 6 5 true 0 (mT 0),oG 7 5 true 0 (Bi .leq 6 1000),oP 8 (Bv 5 7),Ac 2 8] .ret))⟩
def tr57:trF Tryz.prog Tryz.f57=some af57:=by kernel_rfl
attribute [go_sem] af57
def af26:AF:=⟨27,[(.t 2)],(Ad [oP 1 (.box (.t 0)),oP 2 (.mv (cB false))] (Ad [oP 3 (Af 0 1),oP 4 (Ag 3),oP 5 (Al 4 0),Ac 6 5,oG 7 6 true 0 (Af 1 1),oG 8 6 true 0 (Ag 7),oG 9 6 true 0 (Al 8 0),oP 10 (Bv 6 9),Ac 11 10,oG 12 11 true 0 (Af 2 1),oG 13 11 true 0 (Ag 12),oG 14 11 true 0 (Al 13 0),oP 15 (Bv 11 14),Ac 16 15,oG 17 16 true 0 (Af 3 1),oG 18 16 true 0 (Ag 17),oG 19 16 true 0 (Al 18 0),oP 20 (Bv 16 19),Ac 21 20,oG 22 21 true 0 (Af 4 1),oG 23 21 true 0 (Ag 22),oG 24 21 true 0 (.len false (.t 23)),oG 25 21 true 0 (Al 24 0),oP 26 (Bv 21 25),Ac 2 26] .ret))⟩
def tr26:trF Tryz.prog Tryz.f26=some af26:=by kernel_rfl
attribute [go_sem] af26
def af17:AF:=⟨36,[(.t 4)],(Ad [oP 4 (.mv (cB false))] (.seq (Ad [Ac 7 0,oP 8 (.len false (.t 7)),Ac 9 1,oP 10 (Bu .gtr 8 9)] (Ak 10 (Ad [oP 4 (.mv (cB true))] .ret) .skip)) (Ad [oP 5 (.mv (cI 0))] (.seq (Ad [oP 6 (.mv (cI 0))] (.blk 0 (.loop (.seq (Ad [Ac 11 6,Ac 12 0,oP 13 (.len false (.t 12)),oP 14 (Bu .lss 11 13),Ac 15 14,oG 16 15 true 0 (mT 5),oG 17 15 true 0 (mT 1),oG 18 15 true 0 (Bu .leq 16 17),oP 19 (Bv 15 18)] (Em 19 0)) (.seq (.blk 1 (Bo [Ac 22 5,Ac 23 0,Ac 24 6,oP 25 (.iad 6 (.t 23) (.t 24)),oP 26 (Af 0 25),oP 27 (Ao 5 26),Ac 28 1,Ac 29 5,oP 30 (Bu .sub 28 29),oP 31 (.call 54 [(.t 27),(.t 30),(cI 200)]),oP 32 (Bu .add 22 31),Ac 5 32])) (Bo [Ac 20 6,oP 21 (Bi .add 20 1),Ac 6 21])))))) (Ad [Ac 33 5,Ac 34 1,oP 35 (Bu .gtr 33 34),Ac 4 35] .ret)))))⟩
def tr17:trF Tryz.prog Tryz.f17=some af17:=by kernel_rfl
attribute [go_sem] af17
def af7:AF:=⟨20,[(.t 2)],(Ad [oP 1 (.box (.t 0)),oP 2 (.mv (cB false))] (Ad [oP 3 (Af 0 1),oP 4 (Ag 3),oP 5 (.call 17 [(.t 4),(cI 60)]),Ac 6 5,oG 7 6 false 0 (Af 3 1),oG 8 6 false 0 (Ao 5 7),oG 9 6 false 0 (Af 8 1),oG 10 6 false 0 (Ao 5 9),oG 11 6 false 0 (Af 13 1),oG 12 6 false 0 (Ao 5 11),oG 13 6 false 0 (Af 18 1),oG 14 6 false 0 (Ao 5 13),oG 15 6 false 0 (Af 23 1),oG 16 6 false 0 (Ao 5 15),oG 17 6 false 0 (.bslice 5 [(.t 8),(.t 10),(.t 12),(.t 14),(.t 16)]),oG 18 6 false 0 (.call 18 [(.t 17),(cI 120)]),oP 19 (Cx 6 18),Ac 2 19] .ret))⟩
def tr7:trF Tryz.prog Tryz.f7=some af7:=by kernel_rfl
attribute [go_sem] af7
def af9:AF:=⟨20,[(.cell 2 true 28)],(Ad [oP 1 (.box (.t 0)),oP 2 (.new [.nils,(.bool false),(iS 0),(iS 0),(iS 0),(iS 0),(iS 0),.nils,(iS 0),(iS 0),(iS 0),(iS 0),.nils,(iS 0),(iS 0),(iS 0),(iS 0),.nils,(iS 0),(iS 0),(iS 0),(iS 0),.nils,(iS 0),(iS 0),(iS 0),(iS 0),.nils])] (Ad [oP 3 (Af 0 1),oP 4 (Ag 3),oP 5 (Af 1 1),oP 6 (Ag 5),oP 7 (Af 2 1),oP 8 (Ag 7),oP 9 (Af 3 1),oP 10 (Ao 5 9),oP 11 (Af 8 1),oP 12 (Ao 5 11),oP 13 (Af 13 1),oP 14 (Ao 5 13),oP 15 (Af 18 1),oP 16 (Ao 5 15),oP 17 (Af 23 1),oP 18 (Ao 5 17),oP 19 (.build [.nils,(.bool false),(iS 0),(iS 0),(iS 0),(iS 0),(iS 0),.nils,(iS 0),(iS 0),(iS 0),(iS 0),.nils,(iS 0),(iS 0),(iS 0),(iS 0),.nils,(iS 0),(iS 0),(iS 0),(iS 0),.nils,(iS 0),(iS 0),(iS 0),(iS 0),.nils] [(0,(1,(.t 4))),(1,(1,(.t 6))),(2,(1,(.t 8))),(3,(5,(.t 10))),(8,(5,(.t 12))),(13,(5,(.t 14))),(18,(5,(.t 16))),(23,(5,(.t 18)))]),oN (Bn 28 2 19)] .ret))⟩
def tr9:trF Tryz.prog Tryz.f9=some af9:=by kernel_rfl
attribute [go_sem] af9
def af3:AF:=⟨22,[(.t 2)],(Ad [oP 1 (.box (.t 0)),oP 2 (.mv (cB false))] (.seq (Ad [oP 3 (Ao 28 1),oP 4 (.call 7 [(.t 3)])] (Ak 4 (Ad [oP 2 (.mv (cB true))] .ret) .skip)) (Cs [oP 5 (Ao 28 1),⟨(some 6),(.call 9 [(.t 5)]),none,1,true,[]⟩,⟨(some 7),(.call 8 [(.t 6)]),none,2,true,[]⟩,⟨(some 8),(Ao 28 1),none,3,false,[1,2]⟩,oI 9 4 (.call 10 [(.t 8)]),oI 10 5 (.bin 1 .eql (.t 7) (.t 9)),oI 11 6 (mT 10),oG 12 11 true 7 (Ao 28 1),⟨(some 13),(.call 9 [(.t 12)]),(some (11,true)),8,true,[]⟩,⟨(some 14),(.call 11 [(.t 13)]),(some (11,true)),9,true,[]⟩,⟨(some 15),(Ao 28 1),(some (11,true)),10,false,[8,9]⟩,oG 16 11 true 11 (.call 12 [(.t 15)]),oG 17 11 true 12 (.bin 4 .eql (.t 14) (.t 16)),oI 18 13 (Bv 11 17),oI 19 14 (mT 18),oG 20 19 true 15 (.call 13 []),oI 21 16 (Bv 19 20),oI 2 17 (mT 21)] .ret)))⟩
def tr3:trF Tryz.prog Tryz.f3=some af3:=by kernel_rfl
attribute [go_sem] af3
def af161:AF:=⟨18,[(.t 2)],(Ad [oP 2 (.mv (Ap []))] (Ad [oP 4 (.call 196 []),Ac 3 4] (.seq (Ad [Ac 5 0,oP 6 (Bi .lss 5 1),Ac 7 6,oG 8 7 false 0 (mT 0),oG 9 7 false 0 (mT 3),oG 10 7 false 0 (.len false (.t 9)),oG 11 7 false 0 (Bu .gtr 8 10),oP 12 (Cx 7 11)] (Ak 12 (Ad [oP 2 (.mv (Ap []))] .ret) .skip)) (Ad [Ac 13 3,Ac 14 0,oP 15 (Bi .sub 14 1),oP 16 (.iad 1 (.t 13) (.t 15)),oP 17 (Ag 16),Ac 2 17] .ret))))⟩
def tr161:trF Tryz.prog Tryz.f161=some af161:=by kernel_rfl
attribute [go_sem] af161
structure En where
 a:Tm
 i:Int
 deriving Inhabited
def ev6(a:Tm)(i:Int):List SV:=tv a++[.int .i64 i]
def En.v(e:En):List SV:=ev6 e.a e.i
structure En.ok(e:En):Prop where
 a:TOk e.a
 i:fit e.i
section
variable{a:Tm}{i:Int}
def Aia:(ev6 a i).length=6:=by simp[ev6,Bz]
def As6:(ev6 a i)[5]?=some (.int .i64 i):=by simp[ev6,Aby]
def As7:(ev6 a i).take 5=tv a:=by simp[ev6,Aby]
def As8:pok 6 (ev6 a i)=True:=by
 obtain⟨k,i',j,n,l⟩:=a;unfold ev6;rw[Bp];simp[pok,psz]
end
attribute [go_sem] Aia As6 As7 As8
def rows6(C:List En):∀r∈C.map En.v,r.length=6:=fun r hr=>by obtain⟨e,_,rfl⟩:=q_kz.1 hr;exact Aia
def t8(C:List En)(x:Nat)(hx:x<C.length):(C.map En.v)[x]?.getD []=ev6 (C[x]?.getD default).a (C[x]?.getD default).i:=by
 rw[q_ji,q_f hx];rfl
def Lt(k:Nat)(e:En):Bool:=lev e.i && (Fd e.a && decide (Da e.a<=(k:Int)))
def Lq(C:List En):Bool:=Gg Lt 0 C
def Ab7(C:List En):Prop:=C.length<=1000/\∀e∈C,e.ok/\Du e.a<=1000
def Ae6{i:Int}(h:i<0):lev i=false:=by
 unfold lev;rw[show decide (0<=i)=false by simp;omega,q_lc]
def Ae4{i:Int}(h:1000<i):lev i=false:=by
 unfold lev;rw[show decide (i<=1000)=false by simp;omega,q_lb]
def Ae5{i:Int}(h1:¬i<0)(h2:¬1000<i):lev i=true:=by
 unfold lev;rw[show decide (0<=i)=true by simp;omega,show decide (i<=1000)=true by simp;omega,Bool.and_self]
def Ap1(C:List En)(hC:Ab7 C):Con 19 [.dsl 6 (C.map En.v)] (.bool (Lq C)):=by
 obtain⟨hn,hE⟩:=hC;refine Bt mixed Tryz.func19 tr19 ?_;have Cv:=t8 C;have Bl:(C.map En.v).length=C.length:=by simp
 generalize C.map En.v=rows at *
 simp only[go_sem,seval];intros;refine Ul (fun x=>⟨(.J::.J::.bool false::.J::.J::.dsl 6 rows::.int .i64 rows.length::.int .i64 x::Fa (jk8 (jk2 ([])))),[]⟩) rows.length (fun x=>Lt x (C[x]?.getD default)=true) (fun x hx hp=>?_) ?_
 ·simp only[go_sem,seval];refine⟨fun h=>?_,fun h=>?_⟩
  ·have Aq:=q_ku h;have El:x<rows.length:=by omega
   have hlx:x<C.length:=by omega
   have e0:(0:Int)<=(x:Int):=by omega
   have hr:=Cv x hlx;obtain⟨⟨oa,oi⟩,hh⟩:=hE _ (Fg (d:=default) hlx);have bad:Lt x (C[x]?.getD default)=false->Lq C=false:=fun h=>Wz (d:=default) (i:=x) hlx (by rw[q_jg];exact h)
   obtain⟨e,he⟩:∃e,C[x]?.getD default=e:=⟨_,rfl⟩
   rw[he] at hr oa oi hh bad |-;unfold Lt at bad |-;have c1:=Nl e.a oa;have c2:=Qx e.a oa (by omega);have Od:=Bz e.a
   by_cases a1:e.i<0
   ·simp only[go_sem,seval,Aq,e0,hr,a1];rw[bad (by rw[Ae6 a1];rfl)]
   ·by_cases a2:1000<e.i
    ·simp only[go_sem,seval,Aq,e0,hr,a1,a2];rw[bad (by rw[Ae4 a2];rfl)]
    ·rw[Ae5 a1 a2,q_la] at bad |-;simp only[go_sem,seval,Aq,e0,hr,a1,a2,Od];refine Ae c1 ?_;cases hm:Fd e.a
     ·simp only[go_sem,seval,Aq,e0,hr,a1,a2,Od];rw[bad (by rw[hm];rfl)]
     ·rw[hm,q_la] at bad;have ef:Gy e.a=Da e.a:=by unfold Gy;rw[if_pos (Qk hm)]
      rw[ef] at c2;simp only[go_sem,seval,Aq,e0,hr,a1,a2,Od];refine Ae c2 ?_
      by_cases a3:(x:Int)<Da e.a
      ·simp only[go_sem,seval,a3];rw[bad (by simp;omega)]
      ·have a4:Da e.a<=(x:Int):=by omega
       simp only[go_sem,seval,a3,a4];refine⟨El,?_⟩;rw[w64 (n:=(x:Int)+1) (by unfold fit;omega)];exact Js 0 (by simp[Cb]) rfl (by simp[below]) (by simp)
  ·have Hz:=q_kv h;have Oc:x=C.length:=by omega
   simp only[go_sem,seval,h];rw[show Lq C=true from l8 (d:=default) (f:=Lt) (fun j hj=>by rw[q_jg];exact hp j (by omega))]
 ·exact Js 0 (by simp[Cb]) rfl (by simp[below]) (by simp)
def Aqv(i:Int):Con 57 [.int .i64 i] (.bool (lev i)):=by
 refine Bt mixed Tryz.func57 tr57 ?_;unfold lev
 by_cases h1:0<=i<;>simp only[go_sem,seval,h1]
def Aqw(C:List En)(hC:Ab7 C):Con 24 [.dsl 6 (C.map En.v)] (.bool (Lq C)):=by
 obtain⟨hn,hE⟩:=hC;refine Bt mixed Tryz.func24 tr24 ?_;have Cv:=t8 C;have Bl:(C.map En.v).length=C.length:=by simp
 generalize C.map En.v=rows at *
 simp only[go_sem,seval];refine Ul (fun x=>⟨(.dsl 6 rows::.J::.bool false::.int .i64 x::Fb ([])),[]⟩) rows.length (fun x=>Lt x (C[x]?.getD default)=true) (fun x hx hp=>?_) ?_
 ·simp only[go_sem,seval];intros;refine⟨fun h=>?_,fun h=>?_⟩
  ·have Aq:=q_ku h;have El:x<rows.length:=by omega
   have hlx:x<C.length:=by omega
   have e0:(0:Int)<=(x:Int):=by omega
   have hr:=Cv x hlx;obtain⟨⟨oa,oi⟩,hh⟩:=hE _ (Fg (d:=default) hlx);have bad:Lt x (C[x]?.getD default)=false->Lq C=false:=fun h=>Wz (d:=default) (i:=x) hlx (by rw[q_jg];exact h)
   obtain⟨e,he⟩:∃e,C[x]?.getD default=e:=⟨_,rfl⟩
   rw[he] at hr oa oi hh bad |-;unfold Lt at bad |-;have c0:=Aqv e.i;have c1:=Acq e.a oa;have c2:=q8 e.a oa;have Od:=Bz e.a;simp only[go_sem,seval,Aq,e0,hr,Od];refine Ae c0 ?_;cases hv:lev e.i
   ·simp only[go_sem,seval,Aq,e0,hr,Od];rw[bad (by rw[hv];rfl)]
   ·rw[hv,q_la] at bad;simp only[go_sem,seval,Aq,e0,hr,Od];refine Ae c1 ?_;cases hm:Fd e.a
    ·simp only[go_sem,seval,Aq,e0,hr,Od];rw[bad (by rw[hm];rfl)]
    ·rw[hm,q_la] at bad;have ef:Gy e.a=Da e.a:=by unfold Gy;rw[if_pos (Qk hm)]
     rw[ef] at c2;simp only[go_sem,seval,Aq,e0,hr,Od];refine Ae c2 ?_
     by_cases a3:(x:Int)<Da e.a
     ·simp only[go_sem,seval,a3];rw[bad (by simp;omega)]
     ·have a4:Da e.a<=(x:Int):=by omega
      simp only[go_sem,seval,a3,a4];refine⟨El,?_⟩;rw[w64 (n:=(x:Int)+1) (by unfold fit;omega)];exact Cr (by simp[Cb])
  ·have Hz:=q_kv h;have Oc:x=C.length:=by omega
   simp only[go_sem,seval,h];rw[show Lq C=true from l8 (d:=default) (f:=Lt) (fun j hj=>by rw[q_jg];exact hp j (by omega))]
 ·exact Cr (by simp[Cb])
def Dx(a:Int)(V:Nat->Int->Int)(most:Int):Nat->Int
 |0=>a
 |x+1=>IntKind.i64.wrap (Dx a V most x+V x (IntKind.i64.wrap (most-Dx a V most x)))
def A3e{a:Int}{V:Nat->Int->Int}{most:Int}{n:Nat}{B:Nat->Prop}(h0:0<=a)(h1:a<=1)(hm:0<=most)(hm2:most<=1000000)
  (hV:∀x,x<n->∀m,0<=m->m<=1000000->1<=V x m/\V x m<=m+1/\(V x m<=m->B x)) :
  ∀x,x<=n->(∀y,y<x->Dx a V most y<=most)->0<=Dx a V most x/\Dx a V most x<=most+1/\(Dx a V most x<=most->∀y,y<x->B y):=by
 intro x
 induction x with
 |zero=>intro _ _;exact⟨h0,by show a<=most+1;omega,fun _ y hy=>absurd hy (q_kq _)⟩
 |succ x ih=>
  intro hx hle;obtain⟨g1,g2,g3⟩:=ih (by omega) (fun y hy=>hle y (by omega));have hs:=hle x (by omega);have e1:IntKind.i64.wrap (most-Dx a V most x)=most-Dx a V most x:=w64 (by unfold fit;omega);obtain⟨v1,v2,v3⟩:=hV x (by omega) (most-Dx a V most x) (by omega) (by omega);have e2:Dx a V most (x+1)=Dx a V most x+V x (most-Dx a V most x):=by
   show IntKind.i64.wrap (Dx a V most x+V x (IntKind.i64.wrap (most-Dx a V most x)))=_;rw[e1,w64 (by unfold fit;omega)]
  rw[e2];refine⟨by omega,by omega,fun h y hy=>?_⟩;rcases Nat.lt_succ_iff_lt_or_eq.1 hy with h3|rfl
  ·exact g3 hs y h3
  ·exact v3 (by omega)
def A5l(k i j n most deep:Int)(rows:GV)(hd:deep<0):Con 54 [.agg true [.int .i64 k,.int .i64 i,.int .i64 j,.int .i64 n,.dsl 5 rows],.int .i64 most,.int .i64 deep] (.int .i64 (IntKind.i64.wrap (most+1))):=by
 refine Bt mixed Tryz.func54 tr54 ?_;simp only[go_sem,seval,hd]
def A5m(k i j n most deep:Int)(rows:GV)(W:List SV->Int->Int->Int)(h2:rows.length*56<=140737488355328)(h5:∀r∈rows,r.length=5)
  (H:∀r∈rows,∀m d,Con 54 [.agg true r,.int .i64 m,.int .i64 d] (.int .i64 (W r m d))) (hd:¬deep<0) (m:Nat) (Lz:m<=rows.length)
  (hm2:m=rows.length\/most<Mh W rows most (IntKind.i64.wrap (deep-1)) m) (Yn:∀y,y<m->¬most<Mh W rows most (IntKind.i64.wrap (deep-1)) y) :
  Con 54 [.agg true [.int .i64 k,.int .i64 i,.int .i64 j,.int .i64 n,.dsl 5 rows],.int .i64 most,.int .i64 deep] (.int .i64 (Mh W rows most (IntKind.i64.wrap (deep-1)) m)):=by
 refine Bt mixed Tryz.func54 tr54 ?_;simp only[go_sem,seval,hd];refine Kf (fun x=>⟨(.J::.int .i64 most::.int .i64 deep::.ref 0 0 0 0::.J::.J::.int .i64 0::.int .i64 (Mh W rows most (IntKind.i64.wrap (deep-1)) x)::.int .i64 x::Fa (jk8 (jk4 (jk2 ([]))))),[⟨true,5,[[.int .i64 k,.int .i64 i,.int .i64 j,.int .i64 n,.dsl 5 rows]],0,0,true⟩]⟩) m (fun x hx=>?_) ?_
 ·simp only[go_sem,seval];intro _
  by_cases Zh:x=m
  ·subst Zh;rcases hm2 with rfl|hm2
   ·have hl:¬((rows.length:Int)<(rows.length:Int)):=by omega
    simp only[go_sem,seval,hl]
   ·have hl:¬(Mh W rows most (IntKind.i64.wrap (deep-1)) x<=most):=by omega
    refine⟨fun h=>?_,fun h=>?_⟩
    ·simp only[go_sem,seval,h,hl]
    ·simp only[go_sem,seval,h,hl]
  ·have Eg:x<rows.length:=by omega
   have Zg:(x:Int)<(rows.length:Int):=by omega
   have e0:(0:Int)<=(x:Int):=by omega
   have hle:Mh W rows most (IntKind.i64.wrap (deep-1)) x<=most:=by have:=Yn x (by omega);omega
   have hm:=Fg (d:=[]) Eg;have Iv:=h5 _ hm;simp only[go_sem,seval,Zg,hle,e0,Iv];refine Ae (H _ hm _ _) ?_;simp only[go_sem,seval];refine⟨by omega,?_⟩;rw[w64 (n:=(x:Int)+1) (by unfold fit;omega)];exact Cr (by simp[Cb,Mh])
 ·exact Cr (by simp[Cb,Mh])
def Af2(W:List SV->Int->Int->Int)(rows:GV)(most d:Int):∀x,Mh W rows most d x=Dx 1 (fun y m=>W (rows[y]?.getD []) m d) most x:=by
 intro x
 induction x with
 |zero=>rfl
 |succ x ih=>rw[Mh,Dx,ih]
def Abo(W:List SV->Int->Int->Int)(rows:GV)(most d:Int):∀x,Fy W rows most d x=Dx 0 (fun y m=>W (rows[y]?.getD []) m d) most x:=by
 intro x
 induction x with
 |zero=>rfl
 |succ x ih=>rw[Fy,Dx,ih]
def Av8(most:Int)(rows:GV)(hd:most<(rows.length:Int)):Con 18 [.dsl 5 rows,.int .i64 most] (.bool true):=by
 refine Bt mixed Tryz.func18 tr18 ?_;simp only[go_sem,seval,hd]
def Av7(most:Int)(rows:GV)(W:List SV->Int->Int->Int)(h2:rows.length*56<=140737488355328)(h5:∀r∈rows,r.length=5)
  (H:∀r∈rows,∀m d,Con 54 [.agg true r,.int .i64 m,.int .i64 d] (.int .i64 (W r m d))) (hd:¬most<(rows.length:Int)) (m:Nat) (Lz:m<=rows.length)
  (hm2:m=rows.length\/most<Fy W rows most 200 m) (Yn:∀y,y<m->¬most<Fy W rows most 200 y) :
  Con 18 [.dsl 5 rows,.int .i64 most] (.bool (decide (most<Fy W rows most 200 m))):=by
 refine Bt mixed Tryz.func18 tr18 ?_;simp only[go_sem,seval,hd];intro _;refine Kf (fun x=>⟨(.dsl 5 rows::.int .i64 most::.J::.J::.bool false::.int .i64 (Fy W rows most 200 x)::.int .i64 x::Fa (jk8 (jk4 ([])))),[]⟩) m (fun x hx=>?_) ?_
 ·simp only[go_sem,seval];intro _
  by_cases Zh:x=m
  ·subst Zh;rcases hm2 with rfl|hm2
   ·have hl:¬((rows.length:Int)<(rows.length:Int)):=by omega
    simp only[go_sem,seval,hl]
   ·have hl:¬(Fy W rows most 200 x<=most):=by omega
    refine⟨fun h=>?_,fun h=>?_⟩
    ·simp only[go_sem,seval,h,hl]
    ·simp only[go_sem,seval,h,hl]
  ·have Eg:x<rows.length:=by omega
   have Zg:(x:Int)<(rows.length:Int):=by omega
   have e0:(0:Int)<=(x:Int):=by omega
   have hle:Fy W rows most 200 x<=most:=by have:=Yn x (by omega);omega
   have hm:=Fg (d:=[]) Eg;have Iv:=h5 _ hm;simp only[go_sem,seval,Zg,hle,e0,Iv];refine Ae (H _ hm _ _) ?_;simp only[go_sem,seval];refine⟨by omega,?_⟩;rw[w64 (n:=(x:Int)+1) (by unfold fit;omega)];exact Cr (by simp[Cb,Fy])
 ·exact Cr (by simp[Cb,Fy])
mutual
def Fx:Tm->Nat
 |.mk _ _ _ _ l=>Ok l+1
def Ok:List Tm->Nat
 |[]=>0
 |t::l=>Fx t+Ok l
end
def Abj(k i j n:Int)(l:List Tm):Fx (.mk k i j n l)=Ok l+1:=by rw[Fx]
def Afz{t:Tm}:∀{l:List Tm},t∈l->Fx t<=Ok l:=by
 intro l
 induction l with
 |nil=>intro h;cases h
 |cons u l ih=>
  intro h;rw[Ok];rcases q_kb.1 h with rfl|h
  ·omega
  ·have:=ih h;omega
def Ke(S:Nat->Int):Nat->Int
 |0=>0
 |x+1=>Ke S x+S x
def A3d(S:Nat->Int):∀x,Ke S (x+1)=S 0+Ke (fun y=>S (y+1)) x:=by
 intro x
 induction x with
 |zero=>simp only[Ke];omega
 |succ x ih=>rw[Ke,ih,Ke];omega
def Abn(l:List Tm):Ke (fun y=>(Fx (l[y]?.getD default):Int)) l.length=(Ok l:Int):=by
 induction l with
 |nil=>simp[Ke,Ok]
 |cons t l ih=>
  rw[q_jk,A3d,Ok];simp only[q_kf,q_jv,q_jz];rw[ih];omega
def Af3{a:Int}{V:Nat->Int->Int}{most:Int}{n:Nat}{B:Nat->Prop}{S:Nat->Int}(h0:0<=a)(h1:a<=1)(hm:0<=most)(hm2:most<=1000000)
  (hV:∀x,x<n->∀m,0<=m->m<=1000000->1<=V x m/\V x m<=m+1/\(V x m<=m->B x/\S x<=V x m)) :
  ∀x,x<=n->(∀y,y<x->Dx a V most y<=most)->0<=Dx a V most x/\Dx a V most x<=most+1/\(Dx a V most x<=most->(∀y,y<x->B y)/\Ke S x<=Dx a V most x-a):=by
 intro x
 induction x with
 |zero=>intro _ _;exact⟨h0,by show a<=most+1;omega,fun _=>⟨fun y hy=>absurd hy (q_kq _),by show (0:Int)<=a-a;omega⟩⟩
 |succ x ih=>
  intro hx hle;obtain⟨g1,g2,g3⟩:=ih (by omega) (fun y hy=>hle y (by omega));have hs:=hle x (by omega);have e1:IntKind.i64.wrap (most-Dx a V most x)=most-Dx a V most x:=w64 (by unfold fit;omega);obtain⟨v1,v2,v3⟩:=hV x (by omega) (most-Dx a V most x) (by omega) (by omega);have e2:Dx a V most (x+1)=Dx a V most x+V x (most-Dx a V most x):=by
   show IntKind.i64.wrap (Dx a V most x+V x (IntKind.i64.wrap (most-Dx a V most x)))=_;rw[e1,w64 (by unfold fit;omega)]
  rw[e2];refine⟨by omega,by omega,fun h=>?_⟩;obtain⟨g4,g5⟩:=g3 hs;obtain⟨v4,v5⟩:=v3 (by omega);refine⟨fun y hy=>?_,by rw[Ke];omega⟩;rcases Nat.lt_succ_iff_lt_or_eq.1 hy with h3|rfl
  ·exact g4 y h3
  ·exact v4
def Wt3(t:Tm)(m d z:Int):Prop:=Con 54 [.agg true (tv t),.int .i64 m,.int .i64 d] (.int .i64 z) /\
 (0<=m->m<=1000000->-1<=d->d<=1000->1<=z/\z<=m+1/\(z<=m->(Du t:Int)<=d+1/\(Fx t:Int)<=z))
def Ahz(t:Tm):TOk t->∀m d,∃z,Wt3 t m d z:=by
 induction t using Tm.ind with
 |h k i j n l ih=>
  intro hok m d;cases hok with
  |mk _ _ _ _ _ f1 f2 f3 f4 hb hl=>
  unfold Wt3;rw[Bp]
  by_cases hd:d<0
  ·refine⟨_,A5l k i j n m d _ hd,fun h1 h2 h3 h4=>?_⟩;rw[w64 (by unfold fit;omega)];exact⟨by omega,by omega,fun h=>by omega⟩
  ·have H:∀(t:Tm) (m d:Int),∃z,t∈l->Wt3 t m d z:=fun t m d=>by
    by_cases ht:t∈l
    ·obtain⟨z,hz⟩:=ih t ht (hl t ht) m d;exact⟨z,fun _=>hz⟩
    ·exact⟨0,fun h=>absurd h ht⟩
   obtain⟨Z,hZ⟩:∃Z:Tm->Int->Int->Int,∀t∈l,∀m d,Wt3 t m d (Z t m d):=⟨fun t m d=>Classical.choose (H t m d),fun t ht m d=>Classical.choose_spec (H t m d) ht⟩
   have hW:∀r∈l.map tv,∀m d,Con 54 [.agg true r,.int .i64 m,.int .i64 d] (.int .i64 (onT Z (fun _ _=>0) r m d)):=fun r hr m d=>by
    obtain⟨t,ht,rfl⟩:=q_kz.1 hr;rw[Ky];exact (hZ t ht m d).1
   obtain⟨x,Qi,Ha,Qj⟩:=least (fun x=>m<Mh (onT Z (fun _ _=>0)) (l.map tv) m (IntKind.i64.wrap (d-1)) x) (l.map tv).length;refine⟨_,A5m k i j n m d (l.map tv) _ (by simpa using hb) (rows5 l) hW hd x Qi Ha Qj,fun h1 h2 h3 h4=>?_⟩;rw[Af2];have e1:IntKind.i64.wrap (d-1)=d-1:=w64 (by unfold fit;omega);rw[e1];have Ts:∀y,y<x->Dx 1 (fun y m=>onT Z (fun _ _=>0) ((l.map tv)[y]?.getD []) m (d-1)) m y<=m:=fun y hy=>by
    have:=Qj y hy;rw[Af2,e1] at this;omega
   have Bl:(l.map tv).length=l.length:=by simp
   have Cv:∀y,y<l.length->(l.map tv)[y]?.getD []=tv (l[y]?.getD default):=fun y hy=>by
    rw[q_ji,q_f hy];rfl
   have key:=Af3 (a:=1) (V:=fun y m=>onT Z (fun _ _=>0) ((l.map tv)[y]?.getD []) m (d-1)) (most:=m) (n:=l.length) (B:=fun y=>(Du (l[y]?.getD default):Int)<=d) (S:=fun y=>(Fx (l[y]?.getD default):Int)) (by omega) (by omega) h1 h2 (fun y hy m' Lz hm2=>by
    simp only[Cv y hy,Ky];obtain⟨_,g⟩:=hZ _ (Fg (d:=default) hy) m' (d-1);obtain⟨g1,g2,g3⟩:=g Lz hm2 (by omega) (by omega);exact⟨g1,g2,fun h=>by have:=g3 h;exact⟨by omega,this.2⟩⟩) x (by omega) Ts
   obtain⟨k1,k2,k3⟩:=key;refine⟨?_,k2,fun hz=>?_⟩
   ·cases x with
    |zero=>exact Int.le_refl _
    |succ x=>
     have hs:=Ts x (by omega);have:=A3e (a:=1) (V:=fun y m=>onT Z (fun _ _=>0) ((l.map tv)[y]?.getD []) m (d-1)) (most:=m) (n:=l.length) (B:=fun _=>True) (by omega) (by omega) h1 h2 (fun y hy m' Lz hm2=>by
      simp only[Cv y hy,Ky];obtain⟨_,g⟩:=hZ _ (Fg (d:=default) hy) m' (d-1);obtain⟨g1,g2,g3⟩:=g Lz hm2 (by omega) (by omega);exact⟨g1,g2,fun _=>trivial⟩) x (by omega) (fun y hy=>Ts y (by omega))
     obtain⟨q1,_,_⟩:=this;obtain⟨_,g⟩:=hZ _ (Fg (d:=default) (show x<l.length by omega)) (m-Dx 1 (fun y m=>onT Z (fun _ _=>0) ((l.map tv)[y]?.getD []) m (d-1)) m x) (d-1);obtain⟨g1,g2,_⟩:=g (by omega) (by omega) (by omega) (by omega);have e2:Dx 1 (fun y m=>onT Z (fun _ _=>0) ((l.map tv)[y]?.getD []) m (d-1)) m (x+1)=Dx 1 (fun y m=>onT Z (fun _ _=>0) ((l.map tv)[y]?.getD []) m (d-1)) m x+Z (l[x]?.getD default) (m-Dx 1 (fun y m=>onT Z (fun _ _=>0) ((l.map tv)[y]?.getD []) m (d-1)) m x) (d-1):=by
      have e3:IntKind.i64.wrap (m-Dx 1 (fun y m=>onT Z (fun _ _=>0) ((l.map tv)[y]?.getD []) m (d-1)) m x)=m-Dx 1 (fun y m=>onT Z (fun _ _=>0) ((l.map tv)[y]?.getD []) m (d-1)) m x:=w64 (by unfold fit;omega);rw[Dx,e3,Cv x (by omega),Ky,w64 (by unfold fit;omega)]
     rw[e2];omega
   ·have Eg:x=l.length:=by
     rcases Ha with h|h
     ·omega
     ·rw[Af2,e1] at h;omega
    obtain⟨k4,k5⟩:=k3 hz;rw[Yj,Abj];have:Lj l<=d.toNat:=Axa (fun t ht=>by
     obtain⟨y,hy,rfl⟩:=List.getElem_of_mem ht;have:=k4 y (by omega);rw[q_f hy,q_jz] at this;omega)
    refine⟨by omega,?_⟩;have e5:Ke (fun y=>(Fx (l[y]?.getD default):Int)) x=(Ok l:Int):=by rw[Eg];exact Abn l
    rw[e5] at k5;omega
def Ap7(most:Int)(h1:0<=most)(h2:most<=1000000)(l:List Tm)(hl:∀t∈l,TOk t)(hb:l.length*56<=140737488355328) :
  ∃z,Con 18 [.dsl 5 (l.map tv),.int .i64 most] (.bool z)/\(z=false->∀t∈l,Du t<=201/\(Fx t:Int)<=most):=by
 by_cases hd:most<((l.map tv).length:Int)
 ·exact⟨true,Av8 most _ hd,fun h=>by cases h⟩
 ·have H:∀(t:Tm) (m d:Int),∃z,t∈l->Wt3 t m d z:=fun t m d=>by
   by_cases ht:t∈l
   ·obtain⟨z,hz⟩:=Ahz t (hl t ht) m d;exact⟨z,fun _=>hz⟩
   ·exact⟨0,fun h=>absurd h ht⟩
  obtain⟨Z,hZ⟩:∃Z:Tm->Int->Int->Int,∀t∈l,∀m d,Wt3 t m d (Z t m d):=⟨fun t m d=>Classical.choose (H t m d),fun t ht m d=>Classical.choose_spec (H t m d) ht⟩
  have hW:∀r∈l.map tv,∀m d,Con 54 [.agg true r,.int .i64 m,.int .i64 d] (.int .i64 (onT Z (fun _ _=>0) r m d)):=fun r hr m d=>by
   obtain⟨t,ht,rfl⟩:=q_kz.1 hr;rw[Ky];exact (hZ t ht m d).1
  obtain⟨x,Qi,Ha,Qj⟩:=least (fun x=>most<Fy (onT Z (fun _ _=>0)) (l.map tv) most 200 x) (l.map tv).length;refine⟨_,Av7 most (l.map tv) _ (by simpa using hb) (rows5 l) hW hd x Qi Ha Qj,fun hz t ht=>?_⟩;have Pa:¬most<Fy (onT Z (fun _ _=>0)) (l.map tv) most 200 x:=q_kv hz;have Eg:x=l.length:=by
   rcases Ha with h|h
   ·rw[h];simp
   ·exact absurd h Pa
  rw[Abo] at Pa;have Ts:∀y,y<x->Dx 0 (fun y m=>onT Z (fun _ _=>0) ((l.map tv)[y]?.getD []) m 200) most y<=most:=fun y hy=>by
   have:=Qj y hy;rw[Abo] at this;omega
  have Cv:∀y,y<l.length->(l.map tv)[y]?.getD []=tv (l[y]?.getD default):=fun y hy=>by
   rw[q_ji,q_f hy];rfl
  obtain⟨_,_,k3⟩:=Af3 (a:=0) (V:=fun y m=>onT Z (fun _ _=>0) ((l.map tv)[y]?.getD []) m 200) (most:=most) (n:=l.length) (B:=fun y=>(Du (l[y]?.getD default):Int)<=201) (S:=fun y=>(Fx (l[y]?.getD default):Int)) (by omega) (by omega) h1 h2 (fun y hy m' Lz hm2=>by
   simp only[Cv y hy,Ky];obtain⟨_,g⟩:=hZ _ (Fg (d:=default) hy) m' 200;obtain⟨g1,g2,g3⟩:=g Lz hm2 (by omega) (by omega);exact⟨g1,g2,fun h=>by have:=g3 h;exact⟨by omega,this.2⟩⟩) x (by omega) Ts
  obtain⟨k4,k5⟩:=k3 (by omega);have hm:=Afz ht;rw[Eg] at k5 Pa;have e5:Ke (fun y=>(Fx (l[y]?.getD default):Int)) l.length=(Ok l:Int):=Abn l;rw[e5] at k5;obtain⟨y,hy,rfl⟩:=List.getElem_of_mem ht;have:=k4 y (by omega);rw[q_f hy,q_jz] at this;exact⟨by omega,by omega⟩
def Av6(most:Int)(rows:GV)(hd:most<(rows.length:Int)):Con 17 [.dsl 6 rows,.int .i64 most] (.bool true):=by
 refine Bt mixed Tryz.func17 tr17 ?_;simp only[go_sem,seval,hd]
def Av5(most:Int)(C:List En)(W:List SV->Int->Int->Int)(h2:C.length<=1000000)
  (H:∀e∈C,∀m d,Con 54 [.agg true (tv e.a),.int .i64 m,.int .i64 d] (.int .i64 (W (tv e.a) m d))) (hd:¬most<(C.length:Int)) (m:Nat) (Lz:m<=C.length)
  (hm2:m=C.length\/most<Fy W (C.map fun e=>tv e.a) most 200 m) (Yn:∀y,y<m->¬most<Fy W (C.map fun e=>tv e.a) most 200 y) :
  Con 17 [.dsl 6 (C.map En.v),.int .i64 most] (.bool (decide (most<Fy W (C.map fun e=>tv e.a) most 200 m))):=by
 have Cv:=t8 C;have hrw:∀x,x<C.length->(C.map fun e=>tv e.a)[x]?.getD []=tv (C[x]?.getD default).a:=fun x hx=>by
  rw[q_ji,q_f hx];rfl
 have Bl:(C.map En.v).length=C.length:=by simp
 generalize (C.map fun e=>tv e.a)=trs at *
 generalize C.map En.v=rows at *
 refine Bt mixed Tryz.func17 tr17 ?_;simp only[go_sem,seval,Bl,hd];intro _;refine Kf (fun x=>⟨(.dsl 6 rows::.int .i64 most::.J::.J::.bool false::.int .i64 (Fy W trs most 200 x)::.int .i64 x::Fa (jk8 (jk4 (.J::[])))),[]⟩) m (fun x hx=>?_) ?_
 ·simp only[go_sem,seval,Bl];intro _
  by_cases Zh:x=m
  ·subst Zh;rcases hm2 with hm2|hm2
   ·have hl:¬((x:Int)<(C.length:Int)):=by omega
    simp only[go_sem,seval,hl]
   ·have hl:¬(Fy W trs most 200 x<=most):=by omega
    refine⟨fun h=>?_,fun h=>?_⟩
    ·simp only[go_sem,seval,h,hl]
    ·simp only[go_sem,seval,h,hl]
  ·have Eg:x<C.length:=by omega
   have Zg:(x:Int)<(C.length:Int):=by omega
   have e0:(0:Int)<=(x:Int):=by omega
   have hle:Fy W trs most 200 x<=most:=by have:=Yn x (by omega);omega
   have hr:=Cv x Eg;have hw:=hrw x Eg;have hc:=H _ (Fg (d:=default) Eg);generalize C[x]?.getD default=e at *
   have es:Fy W trs most 200 (x+1)=IntKind.i64.wrap (Fy W trs most 200 x+W (tv e.a) (IntKind.i64.wrap (most-Fy W trs most 200 x)) 200):=by rw[Fy,hw]
   simp only[go_sem,seval,Bl,Zg,hle,e0,hr];refine Ae (hc _ _) ?_;simp only[go_sem,seval,<-es];refine⟨by omega,?_⟩;rw[w64 (n:=(x:Int)+1) (by unfold fit;omega)];exact Cr (by simp[Cb])
 ·exact Cr (by simp[Cb,Fy])
def Ap6(most:Int)(h1:0<=most)(h2:most<=900)(C:List En)(hl:∀e∈C,e.ok) :
  ∃z,Con 17 [.dsl 6 (C.map En.v),.int .i64 most] (.bool z)/\(z=false->(C.length:Int)<=most/\∀e∈C,Du e.a<=201/\(Fx e.a:Int)<=most):=by
 have Bl:(C.map En.v).length=C.length:=by simp
 by_cases hd:most<(C.length:Int)
 ·exact⟨true,Av6 most _ (by omega),fun h=>by cases h⟩
 ·obtain⟨l,hL⟩:∃l,C.map En.a=l:=⟨_,rfl⟩
  have Jy:l.length=C.length:=by rw[<-hL];simp
  have hmem:∀e∈C,e.a∈l:=fun e he=>by rw[<-hL];exact List.mem_map_of_mem he
  have hok:∀t∈l,TOk t:=fun t ht=>by rw[<-hL] at ht;obtain⟨e,he,rfl⟩:=q_kz.1 ht;exact (hl e he).a
  have Ft:(C.map fun e=>tv e.a)=l.map tv:=by rw[<-hL,List.map_map];rfl
  have H:∀(t:Tm) (m d:Int),∃z,t∈l->Wt3 t m d z:=fun t m d=>by
   by_cases ht:t∈l
   ·obtain⟨z,hz⟩:=Ahz t (hok t ht) m d;exact⟨z,fun _=>hz⟩
   ·exact⟨0,fun h=>absurd h ht⟩
  obtain⟨Z,hZ⟩:∃Z:Tm->Int->Int->Int,∀t∈l,∀m d,Wt3 t m d (Z t m d):=⟨fun t m d=>Classical.choose (H t m d),fun t ht m d=>Classical.choose_spec (H t m d) ht⟩
  have hW:∀e∈C,∀m d,Con 54 [.agg true (tv e.a),.int .i64 m,.int .i64 d] (.int .i64 (onT Z (fun _ _=>0) (tv e.a) m d)):=fun e he m d=>by
   rw[Ky];exact (hZ e.a (hmem e he) m d).1
  obtain⟨x,Qi,Ha,Qj⟩:=least (fun x=>most<Fy (onT Z (fun _ _=>0)) (C.map fun e=>tv e.a) most 200 x) C.length;refine⟨_,Av5 most C _ (by omega) hW hd x Qi Ha Qj,fun hz=>⟨by omega,fun e he=>?_⟩⟩;have ht:=hmem e he;rw[Ft] at hz Ha Qj;have Pa:¬most<Fy (onT Z (fun _ _=>0)) (l.map tv) most 200 x:=q_kv hz;have Eg:x=l.length:=by
   rcases Ha with h|h
   ·omega
   ·exact absurd h Pa
  rw[Abo] at Pa;have Ts:∀y,y<x->Dx 0 (fun y m=>onT Z (fun _ _=>0) ((l.map tv)[y]?.getD []) m 200) most y<=most:=fun y hy=>by
   have:=Qj y hy;rw[Abo] at this;omega
  have Cv:∀y,y<l.length->(l.map tv)[y]?.getD []=tv (l[y]?.getD default):=fun y hy=>by
   rw[q_ji,q_f hy];rfl
  obtain⟨_,_,k3⟩:=Af3 (a:=0) (V:=fun y m=>onT Z (fun _ _=>0) ((l.map tv)[y]?.getD []) m 200) (most:=most) (n:=l.length) (B:=fun y=>(Du (l[y]?.getD default):Int)<=201) (S:=fun y=>(Fx (l[y]?.getD default):Int)) (by omega) (by omega) h1 (by omega) (fun y hy m' Lz hm2=>by
   simp only[Cv y hy,Ky];obtain⟨_,g⟩:=hZ _ (Fg (d:=default) hy) m' 200;obtain⟨g1,g2,g3⟩:=g Lz hm2 (by omega) (by omega);exact⟨g1,g2,fun h=>by have:=g3 h;exact⟨by omega,this.2⟩⟩) x (by omega) Ts
  obtain⟨k4,k5⟩:=k3 (by omega);have hm:=Afz ht;rw[Eg] at k5 Pa;have e5:Ke (fun y=>(Fx (l[y]?.getD default):Int)) l.length=(Ok l:Int):=Abn l;rw[e5] at k5;obtain⟨y,hy,hye⟩:=List.getElem_of_mem ht;have:=k4 y (by omega);rw[q_f hy,q_jz,hye] at this;exact⟨by omega,by omega⟩
open Go Go.RowKit Go.Proofs.YtgfehkhcmnfpaaaGreatDoor
def Afl{k i j n:Int}(h:Id k i j n=true):0<=i/\i<=2147483647/\0<=j/\j<=1000:=by
 unfold Id lev at h
 repeat' split at h
 all_goals
  simp only[q_jl,q_jt,beq_iff_eq] at h;omega
def Sc{k i j n w:Int}{l:List Tm}(h:Cz (.mk k i j n l) w=true):Id k i j n=true/\(l.length:Int)=Fc k n:=by
 rw[Kb,q_jl] at h;have h1:=h.1;unfold Fw at h1;simp only[q_jl,Bool.not_eq_true',bne_eq_false_iff_eq] at h1;exact⟨h1.2.2,h1.2.1⟩
def Amc{k i j n w:Int}{l:List Tm}(h:Cz (.mk k i j n l) w=true):1<=k/\k<=23:=by
 have h1:=(Sc h).2;refine Decidable.byContradiction fun hk=>?_
 have:=Ae0 k n l.length (by omega);rw[beq_eq_false_iff_ne] at this;exact this h1
def Ab1{d:Int}(h1:-9000000000000000000<d)(h2:d<9000000000000000000):(vB d).length<=22:=by
 have:=Mc d h1 h2;unfold vB;rw[q_jk];omega
def Azu{l:Nat}{i j:Int}(h:0<=i/\i<=2147483647/\0<=j/\j<=1000):(Wh l i j).length<=44:=by
 have h1:=Mc i (by omega) (by omega);have h2:=Mc j (by omega) (by omega);unfold Wh
 repeat' split
 all_goals
  simp only[q_jr,q_jk,List.length_nil];omega
def Aoa{k:Int}{d:Nat}(h:d<=1000000000):(bdB k d).length<=23:=by
 have:=Ab1 (d:=(d:Int)) (by omega) (by omega);unfold bdB;split
 ·rw[q_jk];omega
 ·exact Nat.zero_le _
def Avy{k:Int}{p d:Nat}(h:d<=1000000000):(Ps k p d).length<=46:=by
 have h1:=Ab1 (d:=(d:Int)) (by omega) (by omega);have h2:=Ab1 (d:=(d:Int)+1) (by omega) (by omega);unfold Ps;split
 ·simp only[q_jr,q_jk,List.length_nil];omega
 ·exact Nat.zero_le _
def Aw8{k i j n:Int}{d:Nat}(h:0<=i/\i<=2147483647/\0<=j/\j<=1000)(hd:d<=1000000000):(Pz k i j n d).length<=88:=by
 have h1:=j6 k n;have h2:=Azu (l:=lvN k) h;have h3:=Aoa (k:=k) hd;unfold Pz;simp only[q_jr,q_jk,List.length_nil];omega
def A2t(t:Tm):1<=Fx t:=by cases t;rw[Abj];omega
def Af8(t:Tm):∀(w:Int) (d:Nat),Cz t w=true->d+2*Du t<=1000000000->(txT t d).length+100<=200*Fx t:=by
 induction t using Tm.ind with
 |h k i j n l ih=>
  intro w d hr hd;have hn:=Afl (Sc hr).1
  by_cases hk:k=2
  ·subst hk;have:=Ab1 (d:=(d:Int)-1-i) (by omega) (by omega);have:=A2t (.mk 2 i j n l);rw[Aga];omega
  ·rw[Af9 hk,Abj];rw[Yj] at hd;have hh:=Aw8 (k:=k) (n:=n) hn (show d<=1000000000 by omega);have key:∀x,x<=l.length->((txP k d l x).length:Int)<=200*Ke (fun y=>(Fx (l[y]?.getD default):Int)) x:=by
    intro x
    induction x with
    |zero=>intro _;simp[txP,Ke]
    |succ x ihx=>
     intro hx;have h1:=ihx (by omega);obtain⟨w',hw⟩:=Uf hr (Fg (d:=default) (show x<l.length by omega));have hb:=Pk k x;have hm:=Aab (Fg (d:=default) (show x<l.length by omega));have h2:=ih _ (Fg (d:=default) (show x<l.length by omega)) w' (d+(Cn k x).toNat) hw (by omega);have h3:=Avy (k:=k) (p:=x) (show d<=1000000000 by omega);have e:(txK k d x (l[x]?.getD default)).length=(Ps k x d).length+1+(txT (l[x]?.getD default) (d+(Cn k x).toNat)).length:=by
      unfold txK;simp only[q_jr,q_jk,List.length_nil]
     rw[txP,Ke,q_jr,e];omega
   have h4:=key l.length (q_ja _);rw[Abn] at h4;simp only[q_jr,q_jk,List.length_nil];omega
open Go Go.Proofs Go.Proofs.YtgfehkhcmnfpaaaGreatDoor
def af98:AF:=⟨32,[(.t 2),(.t 3)],(Ad [oP 1 (.box (.t 0)),oP 2 (.mv (Ap [])),oP 3 (.mv (cI 0))] (.seq (Ad [oP 4 (Af 0 1),oP 5 (Ag 4)] (.blk 0 (Ad [oP 7 (Al 5 1),Ac 6 7] (Ak 6 (Ad [oP 2 (.mv (Ap [115,111,114,116])),oP 3 (.mv (cI 1))] .ret) (Ad [oP 9 (Al 5 3),Ac 8 9] (Ak 8 (Ad [oP 2 (.mv (Ap [112,105])),oP 3 (.mv (cI 2))] .ret) (Ad [oP 11 (Al 5 4),Ac 10 11] (Ak 10 (Ad [oP 2 (.mv (Ap [108,97,109])),oP 3 (.mv (cI 2))] .ret) (Ad [oP 13 (Al 5 5),Ac 12 13] (Ak 12 (Ad [oP 2 (.mv (Ap [97,112,112])),oP 3 (.mv (cI 2))] .ret) (Ad [oP 15 (Al 5 6),Ac 14 15] (Ak 14 (Ad [oP 2 (.mv (Ap [115,105,103])),oP 3 (.mv (cI 2))] .ret) (Ad [oP 17 (Al 5 7),Ac 16 17] (Ak 16 (Ad [oP 2 (.mv (Ap [112,97,105,114])),oP 3 (.mv (cI 2))] .ret) (Ad [oP 19 (Al 5 8),Ac 18 19] (Ak 18 (Ad [oP 2 (.mv (Ap [102,115,116])),oP 3 (.mv (cI 2))] .ret) (Ad [oP 21 (Al 5 9),Ac 20 21] (Ak 20 (Ad [oP 2 (.mv (Ap [115,110,100])),oP 3 (.mv (cI 2))] .ret) (Ad [oP 23 (Al 5 10),Ac 22 23] (Ak 22 (Ad [oP 2 (.mv (Ap [101,113])),oP 3 (.mv (cI 1))] .ret) (Ad [oP 25 (Al 5 11),Ac 24 25] (Ak 24 (Ad [oP 2 (.mv (Ap [114,101,102,108])),oP 3 (.mv (cI 1))] .ret) (Ad [oP 27 (Al 5 12),Ac 26 27] (Ak 26 (Ad [oP 2 (.mv (Ap [116,114])),oP 3 (.mv (cI 1))] .ret) .skip)))))))))))))))))))))))) (Ad [oP 28 (Ao 5 1),oP 29 (.call 134 [(.t 28)]),oP 30 (.ext (.t 29) 0),oP 31 (.ext (.t 29) 1),Ac 2 30,Ac 3 31] .ret)))⟩
def tr98:trF Tryz.prog Tryz.f98=some af98:=by kernel_rfl
attribute [go_sem] af98
def af134:AF:=⟨30,[(.t 2),(.t 3)],(Ad [oP 1 (.box (.t 0)),oP 2 (.mv (Ap [])),oP 3 (.mv (cI 0))] (.seq (Ad [oP 4 (Af 0 1),oP 5 (Ag 4)] (.blk 0 (Ad [oP 7 (Al 5 13),Ac 6 7] (Ak 6 (Ad [oP 2 (.mv (Ap [80,105])),oP 3 (.mv (cI 0))] .ret) (Ad [oP 9 (Al 5 14),Ac 8 9] (Ak 8 (Ad [oP 2 (.mv (Ap [76,97,109])),oP 3 (.mv (cI 0))] .ret) (Ad [oP 11 (Al 5 15),Ac 10 11] (Ak 10 (Ad [oP 2 (.mv (Ap [65,112,112])),oP 3 (.mv (cI 0))] .ret) (Ad [oP 13 (Al 5 16),Ac 12 13] (Ak 12 (Ad [oP 2 (.mv (Ap [83,105,103])),oP 3 (.mv (cI 0))] .ret) (Ad [oP 15 (Al 5 17),Ac 14 15] (Ak 14 (Ad [oP 2 (.mv (Ap [80,97,105,114])),oP 3 (.mv (cI 0))] .ret) (Ad [oP 17 (Al 5 18),Ac 16 17] (Ak 16 (Ad [oP 2 (.mv (Ap [70,115,116])),oP 3 (.mv (cI 0))] .ret) (Ad [oP 19 (Al 5 19),Ac 18 19] (Ak 18 (Ad [oP 2 (.mv (Ap [83,110,100])),oP 3 (.mv (cI 0))] .ret) (Ad [oP 21 (Al 5 20),Ac 20 21] (Ak 20 (Ad [oP 2 (.mv (Ap [69,113])),oP 3 (.mv (cI 0))] .ret) (Ad [oP 23 (Al 5 21),Ac 22 23] (Ak 22 (Ad [oP 2 (.mv (Ap [82,101,102,108])),oP 3 (.mv (cI 0))] .ret) (Ad [oP 25 (Al 5 22),Ac 24 25] (Ak 24 (Ad [oP 2 (.mv (Ap [74])),oP 3 (.mv (cI 0))] .ret) .skip)))))))))))))))))))))) (Ad [oP 26 (Af 3 1),oP 27 (Ag 26),oP 28 (.call 161 [(.t 27)]),oP 29 (.bin 4 .add (Ap [117,115,101,32]) (.t 28)),Ac 2 29,oP 3 (.mv (cI 2))] .ret)))⟩
def tr134:trF Tryz.prog Tryz.f134=some af134:=by kernel_rfl
attribute [go_sem] af134
def Amv{x:Nat}(h:x<21):(symsL.map wdG)[x]?.getD []=[.str (bs (symsL.getD x []))]:=by
 have hl:symsL.length=21:=rfl;rw[q_ji,q_f (by omega),q_j,q_f (by omega)];rfl
def Aq6{n:Int}(h1:1<=n)(h2:n<=21):Con 102 [.int .i64 n] (.str (bs (symsL.getD (n-1).toNat []))):=by
 obtain⟨x,rfl⟩:∃x:Nat,n=((x+1:Nat):Int):=⟨(n-1).toNat,by omega⟩
 have e0:(((x+1:Nat):Int)-1).toNat=x:=by omega
 have hr:=Amv (x:=x) (by omega);have hl:symsL.length=21:=rfl;have e1:¬(((x+1:Nat):Int)<1):=by omega
 have e2:¬((21:Int)<((x+1:Nat):Int)):=by omega
 have e3:IntKind.i64.wrap (((x+1:Nat):Int)-1)=(x:Int):=by rw[w64 (by unfold fit;omega)];omega
 have e4:(x:Int)<21:=by omega
 have e5:(0:Int)<=(x:Int):=by omega
 have e6:x<21:=by omega
 rw[e0];generalize symsL.getD x []=w at *
 have cn:=Aq7;generalize symsL=l at *
 refine Bt mixed Tryz.func102 tr102 ?_
 repeat' first
 |simp only[go_sem,seval,q_g,hl,e1,e2,e3,e4,e5,e6,hr,forall_const]
 |refine Ae cn ?_
def Aqf{n:Int}(h1:1<=n)(h2:n<=21):Con 161 [.int .i64 n] (.str (bs (symsL.getD (n-1).toNat []))):=by
 obtain⟨x,rfl⟩:∃x:Nat,n=((x+1:Nat):Int):=⟨(n-1).toNat,by omega⟩
 have e0:(((x+1:Nat):Int)-1).toNat=x:=by omega
 have hr:=Amv (x:=x) (by omega);have hl:symsL.length=21:=rfl;have e1:¬(((x+1:Nat):Int)<1):=by omega
 have e2:¬((21:Int)<((x+1:Nat):Int)):=by omega
 have e3:IntKind.i64.wrap (((x+1:Nat):Int)-1)=(x:Int):=by rw[w64 (by unfold fit;omega)];omega
 have e4:(x:Int)<21:=by omega
 have e5:(0:Int)<=(x:Int):=by omega
 have e6:x<21:=by omega
 rw[e0];generalize symsL.getD x []=w at *
 have cn:=Ahk;generalize symsL=l at *
 refine Bt mixed Tryz.func161 tr161 ?_
 repeat' first
 |simp only[go_sem,seval,q_g,hl,e1,e2,e3,e4,e5,e6,hr,forall_const]
 |refine Ae cn ?_
def Am9{i j n w:Int}{l:List Tm}(h:Cz (.mk 23 i j n l) w=true):1<=n/\n<=21:=by
 have h1:=(Sc h).2;unfold Fc at h1;rw[if_pos rfl] at h1;refine Decidable.byContradiction fun hn=>?_
 have:Pd n=-1:=by unfold Pd tab;rw[if_neg (by simp;omega)]
 omega
section
variable{k i j n:Int}{rows:GV}
def Aqr(hk:13<=k/\k<=23)(hn:k=23->1<=n/\n<=21) :
  Con 134 [.agg true [.int .i64 k,.int .i64 i,.int .i64 j,.int .i64 n,.dsl 5 rows]] (.tup [.str (bs (wdB k n)),.int .i64 (lvN k)]):=by
 by_cases hu:k=23
 ·subst hu;obtain⟨h1,h2⟩:=hn rfl;have cn:=Aqf h1 h2;have hl:(symsL.getD (n-1).toNat []).length<=20:=by
   have:=j6 23 n;unfold wdB at this;rw[if_pos rfl,q_jr] at this;omega
  rw[show wdB 23 n=[117,115,101,32]++symsL.getD (n-1).toNat [] from rfl,show lvN 23=2 from rfl];generalize symsL.getD (n-1).toNat []=w at *
  have hl2:4+w.length<=9223372036854775807:=by omega
  refine Bt mixed Tryz.func134 tr134 ?_
  repeat' first
  |simp only[go_sem,seval,hl2]
  |refine Ae cn ?_
 ·have hk':k=13\/k=14\/k=15\/k=16\/k=17\/k=18\/k=19\/k=20\/k=21\/k=22:=by omega
  refine Bt mixed Tryz.func134 tr134 ?_;rcases hk' with rfl|rfl|rfl|rfl|rfl|rfl|rfl|rfl|rfl|rfl <;>
   (simp only[go_sem,seval];first|done|rfl)
def Aro(hk:1<=k/\k<=23)(h2:k≠2)(hn:k=23->1<=n/\n<=21) :
  Con 98 [.agg true [.int .i64 k,.int .i64 i,.int .i64 j,.int .i64 n,.dsl 5 rows]] (.tup [.str (bs (wdB k n)),.int .i64 (lvN k)]):=by
 by_cases hp:13<=k
 ·have cn:=Aqr (i:=i) (j:=j) (rows:=rows) ⟨hp,hk.2⟩ hn;generalize lvN k=a at *
  generalize wdB k n=b at *
  have a1:(k==1)=false:=Bh (by omega);have a3:(k==3)=false:=Bh (by omega);have a4:(k==4)=false:=Bh (by omega);have a5:(k==5)=false:=Bh (by omega);have a6:(k==6)=false:=Bh (by omega);have a7:(k==7)=false:=Bh (by omega);have a8:(k==8)=false:=Bh (by omega);have a9:(k==9)=false:=Bh (by omega);have a10:(k==10)=false:=Bh (by omega);have a11:(k==11)=false:=Bh (by omega);have a12:(k==12)=false:=Bh (by omega);refine Bt mixed Tryz.func98 tr98 ?_
  repeat' first
  |simp only[go_sem,seval,a1,a3,a4,a5,a6,a7,a8,a9,a10,a11,a12]
  |refine Ae cn ?_
 ·have hk':k=1\/k=3\/k=4\/k=5\/k=6\/k=7\/k=8\/k=9\/k=10\/k=11\/k=12:=by omega
  refine Bt mixed Tryz.func98 tr98 ?_;rcases hk' with rfl|rfl|rfl|rfl|rfl|rfl|rfl|rfl|rfl|rfl|rfl <;>
   (simp only[go_sem,seval];first|done|rfl)
end
def Arp(i:Int):Con 98 [.agg true [.int .i64 1,.int .i64 i,.int .i64 0,.int .i64 0,.nils]] (.tup [.str (bs [115,111,114,116]),.int .i64 1]):=by
 refine Bt mixed Tryz.func98 tr98 ?_;simp only[go_sem,seval]
def MW(B:Nat)(w:World):Prop:=∃(m:Mem) (w0:World),w0.heap.size=B/\Fk m w0/\Below B w0 w
def Aa1{m:Mem}{w w':World}(h1:Fk m w)(hb:Below w.heap.size w w'):Fk m w':=by
 refine⟨fun b j v hv=>?_,fun b Di=>?_,fun b Di=>?_⟩
 ·have:=h1.1 b j v hv;rw[hb.cell (p:=⟨b,j,none⟩) (Wg this)];exact this
 ·obtain⟨c,e,h⟩:=h1.2.1 b Di;exact⟨c,e,(hb.block b (Array.getElem?_eq_some_iff.1 h).1).trans h⟩
 ·obtain⟨⟨e,f,h⟩,q⟩:=h1.2.2 b Di;exact⟨⟨e,f,(hb.block b (Array.getElem?_eq_some_iff.1 h).1).trans h⟩,q⟩
def MW.ok{B:Nat}{w:World}(h:MW B w):∃m,Fk m w:=by
 obtain⟨m,w0,rfl,h1,h2⟩:=h;exact⟨m,Aa1 h1 h2⟩
def MW.step{B:Nat}{w w':World}(h:MW B w)(k:Below B w w'):MW B w':=by
 obtain⟨m,w0,h0,h1,h2⟩:=h;exact⟨m,w0,h0,h1,h2.trans k⟩
def Uw{f:Nat}{args:List SV}{r:SV}(hc:Con f args r){B:Nat}{w:World}(hw:MW B w)(vs:List Value)(hl:vs.length=args.length)(hr:∀m:Mem,∀(j:Nat) v x,vs[j]?=some v->args[j]?=some x->Rep m v x) :
  Calls Tryz.prog f vs.toArray w fun e w'=>(∃v m',e=.returned v/\Rep m' v r)/\Below w.heap.size w w':=by
 obtain⟨m,hm⟩:=hw.ok;refine Calls.mono (hc m w vs hm hl (hr m)) (fun e w' h=>?_);obtain⟨v,m',h1,h2,_,_,_,h3,h4,h5,h6,h7⟩:=h;exact⟨⟨v,m',h1,h2⟩,⟨h3,h4,h5,h6,h7⟩⟩
def keepB{T e:TypeId}{B b:Nat}{bs:List Value}{w w':World}(h:Lib.IsBuilderF T e B b bs w)(hb:Below w.heap.size w w'):Lib.IsBuilderF T e B b bs w':=by
 have key:∀p,Lib.BuilderAtF T e B b p bs w->Lib.BuilderAtF T e B b p bs w':=fun p hp=>by
  have Aq:=hp.lt;obtain⟨hB,v,h1,h2,h3⟩:=hp;exact⟨hB,v,(hb.block b Aq).trans h1,h2.kept (row:=none) ⟨hb.os,hb.tape,hb.output,hb.size,fun k hk _=>hb.block k hk⟩ (by cases v.ownBlock<;>simp),h3⟩
 exact h.imp (key _) (key _)
def Um{B b:Nat}{l:By}{s:ByteArray}{w:World}(h:Lib.IsBuilderF 53 5 B b (Lib.byteCells l) w)(hl:l.length+s.size<=140737488355328)(hB:B<=w.heap.size) :
  Calls Tryz.prog 29 #[.pointer (some ⟨b,0,none⟩),.string s] w fun e w'=>e=.returned (.tuple #[.int .i64 s.size,.nilIface])/\Lib.IsBuilderF 53 5 B b (Lib.byteCells (l++s.data.toList)) w'/\Below B w w'/\Lib.OthersKept 5 (some b) w w':=by
 refine Calls.mono (Any.Builder_WriteString_k Tryz.sb166 Tryz.sbX B b _ s w h (by rw[Lib.byteCells_length];exact hl) hB) (fun e w' hh=>?_);obtain⟨h1,h2,h3,h4⟩:=hh;refine⟨h1,?_,h3,h4⟩;rw[Lib.byteCells_append,<-Lib.strCells_eq];exact Or.inr h2
def A5t{B b:Nat}{l:By}{c:UInt8}{w:World}(h:Lib.IsBuilderF 53 5 B b (Lib.byteCells l) w)(hl:l.length+1<=140737488355328)(hB:B<=w.heap.size) :
  Calls Tryz.prog 31 #[.pointer (some ⟨b,0,none⟩),.int .u8 c.toNat] w fun e w'=>e=.returned .nilIface/\Lib.IsBuilderF 53 5 B b (Lib.byteCells (l++[c])) w'/\Below B w w'/\Lib.OthersKept 5 (some b) w w':=by
 refine Calls.mono (Any.Builder_WriteByte_k Tryz.sb167 Tryz.sbX B b _ c.toNat w h (by rw[Lib.byteCells_length];exact hl) hB) (fun e w' hh=>?_);obtain⟨h1,h2,h3,h4⟩:=hh;refine⟨h1,?_,h3,h4⟩;rw[Lib.byteCells_append];exact Or.inr h2
def Anh{B b:Nat}{l:By}{w:World}(h:Lib.IsBuilderF 53 5 B b (Lib.byteCells l) w)(hB:B<=w.heap.size) :
  Calls Tryz.prog 34 #[.pointer (some ⟨b,0,none⟩)] w fun e w'=>e=.returned (.string ⟨l.toArray⟩)/\Below B w w'/\Lib.OthersKept 5 (some b) w w':=by
 refine Calls.mono (Any.Builder_String_any_k Tryz.sb169 Tryz.sbX B b l w h hB) (fun e w' hh=>?_);obtain⟨h1,_,h3,h4⟩:=hh;exact⟨h1,h3,h4⟩
def La(i:Nat):By:=[40,115,111,114,116,32]++Lib.itoa (i:Nat)++[41]
def Nf(i:Nat):Value:=.agg #[.int .i64 1,.int .i64 i,.int .i64 0,.int .i64 0,.slice none 0 0]
def A1p{m:Mem}{i:Nat}:Rep m (Nf i) (.agg true [.int .i64 1,.int .i64 i,.int .i64 0,.int .i64 0,.nils]):=by
 refine .agg [.int .i64 1,.int .i64 i,.int .i64 0,.int .i64 0,.slice none 0 0] _ (by intro v hv;simp only[q_kb,q_kc,or_false] at hv;rcases hv with rfl|rfl|rfl|rfl|rfl<;>rfl) rfl (fun j v x h1 h2=>?_)
 match j,h1,h2 with
 |0,h1,h2=>cases h1;cases h2;exact .int _ _
 |1,h1,h2=>cases h1;cases h2;exact .int _ _
 |2,h1,h2=>cases h1;cases h2;exact .int _ _
 |3,h1,h2=>cases h1;cases h2;exact .int _ _
 |4,h1,h2=>cases h1;cases h2;exact .nils
 |j+5,h1,h2=>simp at h1
def A5s{B:Nat}{w:World}(hw:MW B w)(i:Nat):Calls Tryz.prog 98 #[Nf i] w fun e w'=>e=.returned (.tuple #[.string ⟨#[115,111,114,116]⟩,.int .i64 1])/\Below w.heap.size w w':=by
 refine Calls.mono (Uw (Arp i) hw [Nf i] rfl (fun m j v x h1 h2=>?_)) (fun e w' h=>?_)
 ·match j,h1,h2 with
  |0,h1,h2=>cases h1;cases h2;exact A1p
  |j+1,h1,h2=>simp at h1
 ·obtain⟨⟨v,m',h1,h2⟩,h3⟩:=h;refine⟨?_,h3⟩;rw[h1];generalize hz:SV.tup [.str (bs [115,111,114,116]),.int .i64 1]=z at h2;cases h2 with
  |tup vs l hl hr=>
   cases hz
   match vs,hl with
   |[a,b],_=>
    have ha:=hr 0 a _ rfl rfl;have hb:=hr 1 b _ rfl rfl;cases ha;cases hb;rfl
  |_=>cases hz
def Al2{B:Nat}{w:World}(hw:MW B w)(i:Nat)(hi:i<=1000000):Calls Tryz.prog 32 #[.int .i64 i] w fun e w'=>e=.returned (.string ⟨(Lib.itoa (i:Nat)).toArray⟩)/\Below w.heap.size w w':=by
 refine Calls.mono (Uw (p9 (n:=(i:Int)) ⟨by omega,by omega⟩) hw [.int .i64 i] rfl (fun m j v x h1 h2=>?_)) (fun e w' h=>?_)
 ·match j,h1,h2 with
  |0,h1,h2=>cases h1;cases h2;exact .int _ _
  |j+1,h1,h2=>simp at h1
 ·obtain⟨⟨v,m',h1,h2⟩,h3⟩:=h;refine⟨?_,h3⟩;rw[h1];cases h2;rfl
def Aof{B:Nat}{w:World}(hw:MW B w):Calls Tryz.prog 99 #[.int .i64 1,.int .i64 1] w fun e w'=>e=.returned (.int .i64 0)/\Below w.heap.size w w':=by
 refine Calls.mono (Uw (Ahc 1 1) hw [.int .i64 1,.int .i64 1] rfl (fun m j v x h1 h2=>?_)) (fun e w' h=>?_)
 ·match j,h1,h2 with
  |0,h1,h2=>cases h1;cases h2;exact .int _ _
  |1,h1,h2=>cases h1;cases h2;exact .int _ _
  |j+2,h1,h2=>simp at h1
 ·obtain⟨⟨v,m',h1,h2⟩,h3⟩:=h;refine⟨?_,h3⟩;rw[h1];cases h2;rfl
structure SS(B b tb:Nat)(cs:Array Value)(l:By)(w W:World):Prop where
 bd:Lib.IsBuilderF 53 5 B b (Lib.byteCells l) W
 mw:MW B W
 hB:B<=W.heap.size
 t:W.heap[tb]?=some (.cells cs 25 (0,0))
 ne:tb≠b
 be:Below B w W
section
variable{B b tb:Nat}{cs:Array Value}{l:By}{w W W':World}
def Hl{B C:Nat}{w w':World}(h:Below C w w')(hc:B<=C):Below B w w':=⟨h.os,h.tape,h.output,h.size,fun k hk=>h.block k (by omega)⟩
def SS.keep(h:SS B b tb cs l w W)(k:Below W.heap.size W W'):SS B b tb cs l w W':=
 ⟨keepB h.bd k,h.mw.step (Hl k h.hB),q_ko h.hB k.size,(k.block tb (Array.getElem?_eq_some_iff.1 h.t).1).trans h.t,h.ne,h.be.trans (Hl k h.hB)⟩
def SS.put{l':By}(h:SS B b tb cs l w W)(h2:Lib.IsBuilderF 53 5 B b (Lib.byteCells l') W')(k:Below B W W')(o:Lib.OthersKept 5 (some b) W W'):SS B b tb cs l' w W':=
 ⟨h2,h.mw.step k,q_ko h.hB k.size,o tb _ h.t (by intro e;exact h.ne (Option.some.inj e)) (fun c fz e=>by cases e),h.ne,h.be.trans k⟩
def SS.cell(h:SS B b tb cs l w W)(j:Nat):W.cell? ⟨tb,j,none⟩=cs[j]?:=Lib.cell_of_heap h.t j
end
def A5v{B b:Nat}{l:By}{i:Nat}{n:Int}{w:World}(h:Lib.IsBuilderF 53 5 B b (Lib.byteCells l) w)(hw:MW B w)(hB:B<=w.heap.size)(hl:l.length<=1000)(hi:i<=1000000) :
  Calls Tryz.prog 65 #[.pointer (some ⟨b,0,none⟩),Nf i,.int .i64 n] w fun e w'=>e=.returned (.tuple #[])/\Lib.IsBuilderF 53 5 B b (Lib.byteCells (l++La i)) w'/\Below B w w':=by
 have s0:SS B b w.heap.size #[.int .i64 1,.int .i64 i,.int .i64 0,.int .i64 0,.slice none 0 0] l w (w.alloc (.cells #[.int .i64 1,.int .i64 i,.int .i64 0,.int .i64 0,.slice none 0 0] 25)):=by
  have Aq:b<w.heap.size:=by rcases h with h|h<;>exact h.lt
  have hb:Below B w (w.alloc (.cells #[.int .i64 1,.int .i64 i,.int .i64 0,.int .i64 0,.slice none 0 0] 25)):=(Below.refl _ w).alloc hB _;exact⟨h.alloc _,hw.step hb,q_ko hB hb.size,Array.getElem?_push_size,by omega,hb⟩
 have hil:=Aez i (by omega);have Dv:¬(9223372036854775807<1+(Lib.itoa (i:Nat)).length):=by omega
 unfold Nf
 go_enter Tryz.func65,Tryz.ntmps65
 go_wp2_with (go_at_call 98;refine (A5s s0.mw i).mono ?_)
 generalize w.alloc (.cells #[.int .i64 1,.int .i64 i,.int .i64 0,.int .i64 0,.slice none 0 0] 25)=w0 at *
 generalize w.heap.size=tb at *
 rintro e W1 ⟨rfl,k1⟩;have s1:=s0.keep k1
 go_wp2_with (go_at_call 29;refine (Um s1.bd (by show l.length+5<=_;omega) s1.hB).mono ?_)
 rintro e W2 ⟨rfl,b2,k2,o2⟩;have s2:=s1.put b2 k2 o2;have c2:=s2.cell 1
 go_wp2_with (go_at_call 32;refine (Al2 s2.mw i hi).mono ?_)
 rintro e W3 ⟨rfl,k3⟩;have s3:=s2.keep k3;have c30:=s3.cell 0;have q3:(l++(({ data:=#[40] }:ByteArray)++{ data:=#[115,111,114,116] }).data.toList).length+(({ data:=#[32] }:ByteArray)++{ data:=(Lib.itoa (i:Nat)).toArray }).size<=140737488355328:=by
  rw[ByteArray.size_append];show _+(1+(Lib.itoa (i:Nat)).toArray.size)<=_;simp;omega
 go_wp2_with (go_at_call 29;refine (Um s3.bd q3 s3.hB).mono ?_)
 rintro e W4 ⟨rfl,b4,k4,o4⟩;have s4:=s3.put b4 k4 o4;have c40:=s4.cell 0;have c44:=s4.cell 4
 go_wp2_with (go_at_call 99;refine (Aof s4.mw).mono ?_)
 rintro e W5 ⟨rfl,k5⟩;have s5:=s4.keep k5;have c54:=s5.cell 4
 go_wp2_with fail
 go_loopw [58] (fun i wr=>i=.int .i64 0/\wr=W5) (fun _ _=>0)
 case atStart=>exact⟨rfl,rfl⟩
 case round=>
  obtain⟨rfl,rfl⟩:=hrel;have q5:(l++(({ data:=#[40] }:ByteArray)++{ data:=#[115,111,114,116] }).data.toList++(({ data:=#[32] }:ByteArray)++{ data:=(Lib.itoa (i:Nat)).toArray }).data.toList).length+1<=140737488355328:=by
   simp;omega
  go_wp2_with (go_at_call 31;refine (A5t (c:=41) s5.bd q5 s5.hB).mono ?_)
  rintro e W6 ⟨rfl,b6,k6,o6⟩;have s6:=s5.put b6 k6 o6
  go_wp2
  go_end0
  refine⟨rfl,?_,s6.be⟩;have e:l++(({ data:=#[40] }:ByteArray)++{ data:=#[115,111,114,116] }).data.toList++(({ data:=#[32] }:ByteArray)++{ data:=(Lib.itoa (i:Nat)).toArray }).data.toList++[41]=l++La i:=by
   unfold La;simp
  rw[<-e];exact s6.bd
def Ca(i:Nat):Tm:=.mk 1 i 0 0 []
def Qp{i:Nat}(hi:i<=1000):TOk (Ca i)/\Cz (Ca i) 0=true/\Gy (Ca i)=0/\Du (Ca i)<=1000:=by
 have h1:=Rw hi;have h2:Cz (Ca i) 0=true:=by
  unfold Ca;rw[Kb];unfold Fw Id;rw[h1];rfl
 refine⟨.mk _ _ _ _ _ (by unfold fit;omega) (by unfold fit;omega) (by unfold fit;omega) (by unfold fit;omega) (by simp) (fun t ht=>by cases ht),h2,?_,?_⟩
 ·unfold Gy;rw[if_pos h2,Ca,Da,if_neg (by decide),Oo]
 ·rw[Ca,Du,Lj];omega
def Al7{m:Mem}{i:Nat}:Rep m (Nf i) (.agg true (tv (Ca i))):=by
 unfold Ca;rw[Bp];refine .agg [.int .i64 1,.int .i64 i,.int .i64 0,.int .i64 0,.slice none 0 0] _ (by intro v hv;simp only[q_kb,q_kc,or_false] at hv;rcases hv with rfl|rfl|rfl|rfl|rfl<;>rfl) rfl (fun j v x h1 h2=>?_)
 match j,h1,h2 with
 |0,h1,h2=>cases h1;cases h2;exact .int _ _
 |1,h1,h2=>cases h1;cases h2;exact .int _ _
 |2,h1,h2=>cases h1;cases h2;exact .int _ _
 |3,h1,h2=>cases h1;cases h2;exact .int _ _
 |4,h1,h2=>cases h1;cases h2;exact .dsl0 _ _ _
 |j+5,h1,h2=>simp at h1
def A1x{B:Nat}{w:World}(hw:MW B w){i:Nat}(hi:i<=1000):Calls Tryz.prog 64 #[Nf i] w fun e w'=>e=.returned (.bool true)/\Below w.heap.size w w':=by
 obtain⟨h1,h2,h3,h4⟩:=Qp hi;have hc:=q9 (Ca i) h1;rw[h2] at hc;refine Calls.mono (Uw hc hw [Nf i] rfl (fun m j v x h1 h2=>?_)) (fun e w' h=>?_)
 ·match j,h1,h2 with
  |0,h1,h2=>cases h1;cases h2;exact Al7
  |j+1,h1,h2=>simp at h1
 ·obtain⟨⟨v,m',h1,h2⟩,h3⟩:=h;refine⟨?_,h3⟩;rw[h1];cases h2;rfl
def Avu{B:Nat}{w:World}(hw:MW B w){i:Nat}(hi:i<=1000):Calls Tryz.prog 55 #[Nf i] w fun e w'=>e=.returned (.int .i64 0)/\Below w.heap.size w w':=by
 obtain⟨h1,h2,h3,h4⟩:=Qp hi;have hc:=Qx (Ca i) h1 (by omega);rw[h3] at hc;refine Calls.mono (Uw hc hw [Nf i] rfl (fun m j v x h1 h2=>?_)) (fun e w' h=>?_)
 ·match j,h1,h2 with
  |0,h1,h2=>cases h1;cases h2;exact Al7
  |j+1,h1,h2=>simp at h1
 ·obtain⟨⟨v,m',h1,h2⟩,h3⟩:=h;refine⟨?_,h3⟩;rw[h1];cases h2;rfl
def MW.here{B:Nat}{w:World}(h:MW B w):MW w.heap.size w:=by
 obtain⟨m,hm⟩:=h.ok;exact⟨m,w,rfl,hm,Below.refl _ _⟩
def Pb{k:Nat}{o:Obj}{w w':World}(h:w.heap[k]?=some o)(hb:Below w.heap.size w w'):w'.heap[k]?=some o:=(hb.block k (Array.getElem?_eq_some_iff.1 h).1).trans h
def Agl{i:Nat}{B:Nat}{w:World}(hw:MW B w)(hi:i<=1000) :
  Calls Tryz.prog 33 #[Nf i,.int .i64 0] w fun e w'=>e=.returned (.string ⟨(La i).toArray⟩)/\Below w.heap.size w w':=by
 have hw:=hw.here;have hb0:Below w.heap.size w (w.alloc (.cells #[.int .i64 1,.int .i64 i,.int .i64 0,.int .i64 0,.slice none 0 0] 25)):=(Below.refl _ w).alloc (q_ja _) _;have h0:(w.alloc (.cells #[.int .i64 1,.int .i64 i,.int .i64 0,.int .i64 0,.slice none 0 0] 25)).heap[w.heap.size]?=some (.cells #[.int .i64 1,.int .i64 i,.int .i64 0,.int .i64 0,.slice none 0 0] 25 (0,0)):=Array.getElem?_push_size;have hw0:=hw.step hb0;have Ji:w.heap.size<=(w.alloc (.cells #[.int .i64 1,.int .i64 i,.int .i64 0,.int .i64 0,.slice none 0 0] 25)).heap.size:=hb0.size;unfold Nf
 go_enter Tryz.func33,Tryz.ntmps33
 go_wp2_with (go_at_call 64;refine (A1x hw0 hi).mono ?_)
 generalize w.alloc (.cells #[.int .i64 1,.int .i64 i,.int .i64 0,.int .i64 0,.slice none 0 0] 25)=w0 at *
 generalize Nz:w.heap.size=tb at *
 rintro e W1 ⟨rfl,k1⟩;have h1:=Pb h0 k1;have hw1:=hw0.step (Hl k1 Ji);have b1:=hb0.trans (Hl k1 Ji);have d0:=Lib.cell_of_heap h1 0;have d1:=Lib.cell_of_heap h1 1;have d2:=Lib.cell_of_heap h1 2;have d3:=Lib.cell_of_heap h1 3;have d4:=Lib.cell_of_heap h1 4
 go_wp2_with (go_at_call 55;refine (Avu hw1 hi).mono ?_)
 rintro e W2 ⟨rfl,k2⟩;have Nn:=q_ko Ji k1.size;have h2:=Pb h1 k2;have hw2:=hw1.step (Hl k2 Nn);have b2:=b1.trans (Hl k2 Nn);have hB2:=q_ko Nn k2.size;clear d0 d1 d2 d3 d4;have f3:=Lib.IsBuilderF.of (Lib.fresh_isBuilder 53 5 W2);have k3:Below W2.heap.size W2 (W2.alloc (.cells #[.pointer none,.slice none 0 0] 53)):=(Below.refl _ W2).alloc (q_ja _) _;have h3:=Pb h2 k3;have Zc:=hw2.here.step k3;have Xr:=k3.size;have e0:=Lib.cell_of_heap h3 0;have e1:=Lib.cell_of_heap h3 1;have e2:=Lib.cell_of_heap h3 2;have e3:=Lib.cell_of_heap h3 3;have e4:=Lib.cell_of_heap h3 4
 go_wp2_with (go_at_call 65;refine (A5v (l:=[]) (i:=i) f3 Zc Xr (by decide) (by omega)).mono ?_)
 rintro e W4 ⟨rfl,f4,k4⟩
 go_wp2_with (go_at_call 34;refine (Anh f4 (q_ko Xr k4.size)).mono ?_)
 rintro e W5 ⟨rfl,k5,_⟩
 go_wp2
 go_ret
 rw[Nz];exact⟨rfl,b2.trans (Hl (k3.trans (k4.trans k5)) hB2)⟩
def Acw{f:Nat}{args:List SV}{s:By}(h:∀(m:Mem) (w:World) (vs:List Value),Fk m w->vs.length=args.length->(∀(j:Nat) v x,vs[j]?=some v->args[j]?=some x->Rep m v x)->Calls Tryz.prog f vs.toArray w fun e w'=>e=.returned (.string ⟨s.toArray⟩)/\Below w.heap.size w w'):Con f args (.str (bs s)):=by
 intro m w vs h1 h2 h3;refine Calls.mono (h m w vs h1 h2 h3) (fun e w' he=>?_);obtain⟨rfl,hb⟩:=he;exact⟨_,m,rfl,.str _,⟨.refl m,rfl⟩,fun _ _ _=>rfl,Aa1 h1 hb,hb.os,hb.tape,hb.output,hb.size,fun j hj=>hb.block j hj⟩
open Go Go.RowKit
def Cor(k0 p0:Nat)(s' s:RS):Prop:=s'.bad=s.bad/\if s'.bad then s.at_=s'.at_+p0 else s.k=s'.k+k0
def Cor.good{k0 p0:Nat}{s' s:RS}(h:Cor k0 p0 s' s)(hb:s'.bad=false):s.bad=false/\s.k=s'.k+k0:=by
 have:=h.2;rw[hb,if_neg (by decide)] at this;exact⟨h.1.symm.trans hb,this⟩
def Cor.ill{k0 p0:Nat}{s' s:RS}(h:Cor k0 p0 s' s)(hb:s'.bad=true):s.bad=true/\s.at_=s'.at_+p0:=by
 have:=h.2;rw[hb,if_pos rfl] at this;exact⟨h.1.symm.trans hb,this⟩
def Dp(c':RC)(k:Nat):Prop:=k<=c'.L.length/\0<dep 0 (c'.L.take k)
section
variable{c c':RC}{k0 p0:Nat}
def A3i{c':RC}{a b:Nat}(h:a<=b):c'.L.take b=c'.L.take a++seg c' a b:=by
 unfold seg;rw[show b=a+(b-a) by omega,List.take_add,show a+(b-a)-a=b-a by omega]
def Ase(d:Nat)(x y:List Tok):dep d (x++y)=dep (dep d x) y:=by unfold dep;rw[List.foldl_append]
def Dp.bal{c':RC}{a b:Nat}(h:Dp c' a)(k:Bal c' a b):Dp c' b:=⟨k.len,by rw[A3i k.le,Ase,k.d];exact h.2⟩
end
def SmQ(a:QS)(b:RS):Prop:=a.bad=b.bad/\if a.bad then a.at_=b.at_ else a.k=b.k
section
variable{tx:By}{a:QS}{b:RS}
def SmQ.good(h:SmQ a b)(hb:a.bad=false):b.bad=false/\b.k=a.k:=by
 have:=h.2;rw[hb,if_neg (by decide)] at this;exact⟨h.1.symm.trans hb,this.symm⟩
def SmQ.ill(h:SmQ a b)(hb:a.bad=true):b.bad=true:=h.1.symm.trans hb
end
def Ah2{u:Nat}(h:¬u<10):Lib.decDigits u=Lib.decDigits (u / 10)++[UInt8.ofNat (48+u % 10)]:=by
 rw[Lib.decDigits,dif_neg h]
def DG(u:Nat)(l:List UInt8):List UInt8:=if u=0 then l else Lib.decDigits u++l
def Asi{u:Nat}(h:u≠0)(l:List UInt8):DG (u / 10) (UInt8.ofNat (48+u % 10)::l)=DG u l:=by
 unfold DG;rw[if_neg h]
 by_cases h1:u<10
 ·rw[if_pos (by omega),Lib.decDigits_one h1,Nat.mod_eq_of_lt h1];rfl
 ·rw[if_neg (by omega),Ah2 h1,q_ju];rfl
def Ash(m:Nat)(l:List UInt8):l.length<=(DG m l).length:=by unfold DG;split<;>simp
def Asc(n:Nat):Lib.decDigits n≠[]:=by
 by_cases h:n<10
 ·rw[Lib.decDigits_one h];simp
 ·rw[Ah2 h];simp
def Axi:(Tryz.prog.info? 5).map (fun i=>(i.zero,i.size,i.bytes))=some (some (.int .u8 0),1,1):=by kernel_rfl
def A0i{w:World}{cap g:Nat}{cur:Array Value}{l:List UInt8}(h:w.heap[g]?=some (.cells cur 5 (0,0)))(hl:cur.toList.take l.length=Lib.byteCells l) :
  (convert 51 9 (.slice (some ⟨g,0,none⟩) l.length cap)).run Tryz.prog w=.ok (.string ⟨l.toArray⟩) w:=by
 refine run_convert_bytes_back w _ _ 5 ⟨g,0,none⟩ cap l Tryz.underlying51 Tryz.underlying5 Tryz.underlying9 (fun j hj=>?_);have Sr:(⟨g,0,none⟩:Addr).add j=⟨g,j,none⟩:=by unfold Addr.add;split<;>simp_all
 rw[Sr,Lib.cell_of_heap h j,<-Array.getElem?_toList];have h1:(cur.toList.take l.length)[j]?=some (.int .u8 (l[j].toNat:Int)):=by
  rw[hl];unfold Lib.byteCells;simp[hj]
 rw[q_jx,if_pos hj] at h1;exact h1
def A2f{n:Nat}(hn:n<=1000000000){w:World} :
  Calls Tryz.prog 35 #[.int .i64 n] w fun e w'=>e=.returned (.string ⟨(Lib.itoa (n:Nat)).toArray⟩)/\Below w.heap.size w w':=by
 obtain⟨i0,hi,Wa,Rv,Zi⟩:=info_parts Axi
 by_cases h0:n=0
 ·subst h0;have Jb:Lib.itoa ((0:Nat):Int)=[48]:=by rw[Lib.itoa_nonneg,Lib.decDigits_one (by omega)];rfl
  go_enter Tryz.func35,Tryz.ntmps35
  go_wp2
  go_ret
  refine⟨?_,Below.refl _ _⟩;rw[Jb];rfl
 have Tg:¬((n:Int)=0):=by omega
 have Jl:¬((n:Int)<0):=by omega
 have hw1:IntKind.u64.wrap (n:Int)=(n:Int):=by simp[IntKind.wrap,IntKind.bits];omega
 rw[Lib.itoa_nonneg];have hBw:Below w.heap.size w w:=Below.refl _ _
 go_enter Tryz.func35,Tryz.ntmps35
 go_wp2_with fail
 generalize hBe:w.heap.size=B at *
 go_loopw [3,4] (fun u b wr=>∃(m:Nat) (l:List UInt8),u=.int .u64 m/\m<=1000000000/\wr.ownsRow B 5 1 b l.length (Lib.byteCells l)/\DG m l=Lib.decDigits n/\Below B w wr/\B<=wr.heap.size) (fun u _ _=>(intOf u).toNat)
 case atStart=>exact⟨n,[],rfl,hn,World.ownsRow_nil _ _ _ _,by unfold DG;rw[if_neg h0,q_k],hBw,Nat.le_of_eq hBe.symm⟩
 case round=>
  obtain⟨m,l,rfl,hm,hown,hd,hb,hB⟩:=hrel;have Jy:l.length<=21:=by have:=Ash m l;rw[hd] at this;have h2:=Lib.itoa_length_le n (by omega) (by omega);rw[Lib.itoa_nonneg] at h2;omega
  by_cases hm0:m=0
  ·subst hm0;have hl:l=Lib.decDigits n:=hd;subst hl;rcases hown.2 with⟨rfl,h⟩|⟨g,cap,cur,rfl,_,hg,_,_,_,ht⟩
   ·exact absurd (List.eq_nil_of_length_eq_zero h) (Asc n)
   ·rw[Nat.mul_one] at ht;have Hn:=A0i (cap:=cap) hg ht;clear hown hd
    go_wp2
    go_ret
    exact⟨rfl,by rw[hBe];exact hb⟩
  ·have Lz:(0:Int)<(m:Int):=by omega
   have Aah:(wr.alloc (.cells #[.int .u8 (48+(m:Int) % 10)] 5)).ownsRow B 5 1 (.slice (some ⟨wr.heap.size,0,none⟩) 1 1) 1 [.int .u8 (48+(m:Int) % 10)]:=⟨rfl,.inr ⟨wr.heap.size,1,_,rfl,hB,heap_alloc_new wr _,q_ja _,by decide,rfl,rfl⟩⟩
   have hb1:Below B w (wr.alloc (.cells #[.int .u8 (48+(m:Int) % 10)] 5)):=hb.alloc hB _;have hS:B<=(wr.alloc (.cells #[.int .u8 (48+(m:Int) % 10)] 5)).heap.size:=by have:=hB;simp;omega
   have hc:((UInt8.ofNat (48+m % 10)).toNat:Int)=48+(m:Int) % 10:=by rw[UInt8.toNat_ofNat'];omega
   have Rl:=(Asi hm0 l).trans hd;have hq:∀(v':Value) (w1:World) (k:Nat),k=1+l.length->w1.ownsRow B 5 1 v' k ([.int .u8 (48+(m:Int) % 10)]++Lib.byteCells l)->w1.ownsRow B 5 1 v' (UInt8.ofNat (48+m % 10)::l).length (Lib.byteCells (UInt8.ofNat (48+m % 10)::l)):=fun v' w1 k hk h=>by
    subst hk;rw[show Lib.byteCells (UInt8.ofNat (48+m % 10)::l)=[.int .u8 (48+(m:Int) % 10)]++Lib.byteCells l by unfold Lib.byteCells;rw[q_h,hc];rfl,show (UInt8.ofNat (48+m % 10)::l).length=1+l.length by simp;omega];exact h
   rcases hown.2 with⟨rfl,h⟩|⟨g,cap,cur,rfl,_,hg,_,_,_,ht⟩
   ·obtain rfl:=List.eq_nil_of_length_eq_zero h
    go_wp2_with (at_builtin;refine wpList_append_own_none rfl _ _ 51 rfl B 5 i0 1 Tryz.underlying51 hi _ _ _ rfl Aah rfl ?_)
    go_wp2
    go_roundw
    case rel=>exact⟨m / 10,_,by simp,by omega,hq _ _ 1 rfl Aah,Rl,hb1,hS⟩
    case measure=>simp[intOf];omega
   ·have hlb:(Lib.byteCells l).length=l.length*1:=by rw[Lib.byteCells_length,Nat.mul_one]
    have hcl:∀j u,(Lib.byteCells l)[j]?=some u->(wr.alloc (.cells #[.int .u8 (48+(m:Int) % 10)] 5)).cell? ((⟨g,0,none⟩:Addr).add j)=some u:=fun j u hj=>(hown.alloc _).cells (g:=g) rfl j u hj
    have Fi:∀u∈Lib.byteCells l,u.oneCell'=true:=fun u hu=>by unfold Lib.byteCells at hu;obtain⟨x,_,rfl⟩:=q_kz.1 hu;rfl
    have Qi:1+l.length<=maxLen:=by unfold maxLen;omega
    have Ha:(1+l.length)*1<=140737488355328:=by omega
    go_wp2_with (at_builtin;refine wpList_append_own _ rfl _ _ 51 rfl B 5 i0 (.int .u8 0) 1 1 Tryz.underlying51 hi Wa Rv Zi rfl (by decide) _ _ _ rfl Aah ⟨g,0,none⟩ l.length cap (Lib.byteCells l) rfl hlb hcl Fi Qi Ha hS ?_)
    intro v' w1 Aj3 hgrow _;have Dy:=hb1.grown hgrow hS (fun k hk=>by cases hk;exact hB);have hS2:=q_ko hS hgrow.size;have hq2:=hq v' w1 _ rfl Aj3;clear Aj3 hgrow hcl Aah hown hb1 hS
    go_wp2
    go_roundw
    case rel=>exact⟨m / 10,_,by simp,by omega,hq2,Rl,Dy,hS2⟩
    case measure=>simp[intOf];omega
def Qy{n:Nat}(hn:n<=1000000000):Con 35 [.int .i64 n] (.str (bs (Lib.itoa (n:Nat)))):=by
 refine Acw (fun m w vs h1 h2 h3=>?_)
 match vs,h2 with
 |[a],_=>
  have ha:=h3 0 a _ rfl rfl;cases ha;exact A2f hn
abbrev pwC:CT:=Eh Tryz.prog fun _ _=>False
abbrev pwQ(r:By):AE->St->Prop:=bk 1 (sq pwC a66_76 (rt [.t 4] (.str (bs r))))
def pwS(k i j n:Int)(rows:GV)(d:Nat)(T:By)(x:Nat):St:=⟨(.J::.int .i64 d::.ref 0 0 0 0::.J::.J::.str (bs T)::.int .i64 x::Fb (Fb (Fb (Fb (.J::[]))))),[⟨true,5,[[.int .i64 k,.int .i64 i,.int .i64 j,.int .i64 n,.dsl 5 rows]],0,0,true⟩]⟩
def row5{l:List Tm}{x:Nat}(hx:x<l.length):(l.map tv)[x]?.getD []=tv (l[x]?.getD default):=by
 rw[q_ji,q_f hx];rfl
def A1d{k i j n:Int}{l:List Tm}{d:Nat}{T:By}(hd:d<=900000000)(hb:l.length<=100)(Bl:T.length+(txP k d l l.length).length+1<=1000000000000)
  (H:∀x,x<l.length->Con 66 [.agg true (tv (l[x]?.getD default)),.int .i64 (d+(Cn k x).toNat:Nat)] (.str (bs (txT (l[x]?.getD default) (d+(Cn k x).toNat)))))
  {st:St} (hs:Wk st (pwS k i j n (l.map tv) d T 0)):vc pwC (.loop a66_71) (pwQ (T++txP k d l l.length++[41])) st:=by
 refine Kf (fun x=>pwS k i j n (l.map tv) d (T++txP k d l x) x) l.length (fun x hx=>?_) (by rw[txP,q_k];exact hs);have Jy:(l.map tv).length=l.length:=by simp
 have Eg:=Af7 k d l hx
 by_cases Aq:x<l.length
 ·have hk:=A4k k d l Aq;have e0:(0:Int)<=(x:Int):=by omega
  have e1:(x:Int)<(l.length:Int):=by omega
  have e2:IntKind.i64.wrap ((x:Int)+1)=((x+1:Nat):Int):=by rw[w64 (by unfold fit;omega)];omega
  have hr:=row5 Aq;have hH:=H x Aq;have hbl:=Pk k x;have cb:=Aco k x;have e3:IntKind.i64.wrap ((d:Int)+Cn k x)=((d+(Cn k x).toNat:Nat):Int):=by rw[w64 (by unfold fit;omega)];omega
  have e4:IntKind.i64.wrap ((d:Int)+1)=((d+1:Nat):Int):=by rw[w64 (by unfold fit;omega)];omega
  have cp:=Qy (n:=d) (by omega);have cp1:=Qy (n:=d+1) (by omega);have Jb:=Mc (d:Int) (by omega) (by omega);have Lw:=Mc ((d+1:Nat):Int) (by omega) (by omega);have hz:=Bz (l[x]?.getD default);have hT:T++txP k d l (x+1)=T++txP k d l x++(Ps k x d++[32]++txT (l[x]?.getD default) (d+(Cn k x).toNat)):=by rw[txP,txK,<-q_ju]
  unfold txK Ps at hk;unfold Ps vB at hT;generalize txT (l[x]?.getD default) (d+(Cn k x).toNat)=kt at *
  generalize tv (l[x]?.getD default)=kr at *
  generalize txP k d l x=P at *
  generalize txP k d l l.length=PL at *
  generalize l.map tv=rows at *
  have hPl:T.length+P.length=(T++P).length:=by simp
  generalize T++P=S at *
  unfold pwS
  by_cases hg:k=22/\x=2
  ·rw[if_pos hg] at hT hk;unfold vB at hk;simp only[q_jr,q_jk,List.length_nil] at hk;have b1:S.length<=9223372036854775805:=by omega
   have b2:S.length+2+(Lib.itoa (d:Int)).length<=9223372036854775807:=by omega
   have b3:S.length+2+(Lib.itoa (d:Int)).length<=9223372036854775805:=by omega
   have b4:S.length+2+(Lib.itoa (d:Int)).length+2+(Lib.itoa ((d+1:Nat):Int)).length<=9223372036854775807:=by omega
   have b5:S.length+2+(Lib.itoa (d:Int)).length+2+(Lib.itoa ((d+1:Nat):Int)).length<=9223372036854775806:=by omega
   have b6:S.length+2+(Lib.itoa (d:Int)).length+2+(Lib.itoa ((d+1:Nat):Int)).length+1+kt.length<=9223372036854775807:=by omega
   have a1:(k==22)=true:=by simp[hg.1]
   have a2:((x:Int)==2)=true:=by simp[hg.2]
   repeat' first
   |simp only[go_sem,seval,e0,e1,e2,e3,e4,hr,hz,Jy,a1,a2,forall_const,b1,b2,b3,b4,b5,b6]
   |refine Ae cb ?_
   |refine Ae cp ?_
   |refine Ae cp1 ?_
   |refine Ae hH ?_
   |intro _
   refine⟨Aq,?_⟩;rw[hT,show S++([32]++118::Lib.itoa (d:Int)++[32]++118::Lib.itoa ((d:Int)+1)++[32]++kt)=S++[32,118]++Lib.itoa (d:Int)++[32,118]++Lib.itoa ((d+1:Nat):Int)++[32]++kt by simp];exact Cr (by simp[Cb])
  ·rw[if_neg hg] at hT hk;simp only[q_jr,q_jk,List.length_nil] at hk;rw[q_km,<-q_ju] at hT;have b1:S.length<=9223372036854775806:=by omega
   have b2:S.length+1+kt.length<=9223372036854775807:=by omega
   by_cases Ii:k=22
   ·have a1:(k==22)=true:=by simp[Ii]
    have a2:((x:Int)==2)=false:=by simp;omega
    repeat' first
    |simp only[go_sem,seval,e0,e1,e2,e3,e4,hr,hz,Jy,a1,a2,forall_const,b1,b2]
    |refine Ae cb ?_
    |refine Ae hH ?_
    |intro _
    refine⟨Aq,?_⟩;rw[hT];exact Cr (by simp[Cb])
   ·have a1:(k==22)=false:=by simp[Ii]
    repeat' first
    |simp only[go_sem,seval,e0,e1,e2,e3,e4,hr,hz,Jy,a1,forall_const,b1,b2]
    |refine Ae cb ?_
    |refine Ae hH ?_
    |intro _
    refine⟨Aq,?_⟩;rw[hT];exact Cr (by simp[Cb])
 ·obtain rfl:x=l.length:=by omega
  have e1:¬((l.length:Int)<(l.length:Int)):=by omega
  have b1:T.length+(txP k d l l.length).length<=9223372036854775806:=by omega
  generalize txP k d l l.length=P at *
  unfold pwS
  repeat' first
  |simp only[go_sem,seval,Jy,e1,forall_const,b1]
  |intro _
end Go.Proofs.YtgfehkhcmnfpaaaGreatDoor.Abs
