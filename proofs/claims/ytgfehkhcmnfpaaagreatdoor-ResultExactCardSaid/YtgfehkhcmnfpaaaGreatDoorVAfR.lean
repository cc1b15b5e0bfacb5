import Derived.Test.YtgfehkhcmnfpaaaGreatDoorVEv
import Derived.Test.YtgfehkhcmnfpaaaGreatDoorProg
import Derived.KernelRfl
import Derived.Test.YtgfehkhcmnfpaaaGreatDoorVAfC
import Derived.Test.YtgfehkhcmnfpaaaGreatDoorVDo
import Derived.Ground.NamesProg
import Derived.Shelf.LaysM
import Derived.Shelf.Strconv.Itoa3
import Derived.Lib.AppendIntMem
set_option linter.all false
set_option maxRecDepth 20000
set_option maxHeartbeats 4000000
namespace Go.Proofs.YtgfehkhcmnfpaaaGreatDoor.Abs
open Go Go.Proofs Go.Proofs.YtgfehkhcmnfpaaaGreatDoor
def af28:AF:=⟨8,[(.t 2)],(Ad [oP 1 (.box (.t 0)),oP 2 (.mv (cI 0))] (.seq (Ad [oP 3 (Ao 5 1),oP 4 (.call 60 [(.t 3)]),oP 5 (.un .not (.t 4))] (Ak 5 (Ad [oP 2 (.mv (cI 0))] .ret) .skip)) (Ad [oP 6 (Ao 5 1),oP 7 (.call 61 [(.t 6)]),Ac 2 7] .ret)))⟩
def tr28:trF Tryz.prog Tryz.f28=some af28:=by kernel_rfl
attribute [go_sem] af28
def af60:AF:=⟨9,[(.t 2)],(Ad [oP 1 (.box (.t 0)),oP 2 (.mv (cB false))] (Ad [oP 3 (Ao 5 1),oP 4 (.call 58 [(.t 3)]),Ac 5 4,oG 6 5 false 0 (Ao 5 1),oG 7 5 false 0 (.call 27 [(.t 6)]),oP 8 (Cx 5 7),Ac 2 8] .ret))⟩
def tr60:trF Tryz.prog Tryz.f60=some af60:=by kernel_rfl
attribute [go_sem] af60
def af61:AF:=⟨32,[(.t 2)],(Ad [oP 1 (.box (.t 0)),oP 2 (.mv (cI 0))] (.seq (Ad [oP 5 (Af 0 1),oP 6 (Ag 5),oP 7 (Al 6 2)] (Ak 7 (Ad [oP 8 (Af 1 1),oP 9 (Ag 8),oP 10 (Bi .add 9 1),Ac 2 10] .ret) .skip)) (Ad [oP 3 (.mv (cI 0))] (.seq (Ad [oP 4 (.mv (cI 0))] (.blk 0 (.loop (.seq (Ad [Ac 11 4,oP 12 (Af 4 1),oP 13 (Ag 12),oP 14 (.len false (.t 13)),oP 15 (Bu .lss 11 14)] (Em 15 0)) (.seq (.blk 1 (.reg [Ac 18 3,oI 19 1 (Af 4 1),oI 20 2 (Ag 19),oI 21 3 (mT 4),oI 22 4 (.iad 5 (.t 20) (.t 21)),oI 23 5 (Ao 5 22),⟨(some 24),(.call 61 [(.t 23)]),none,6,true,[]⟩,oI 25 7 (Af 0 1),⟨(some 26),(Ag 25),none,8,false,[6]⟩,oI 27 9 (mT 4),oI 28 10 (.call 94 [(.t 26),(.t 27)]),oI 29 11 (Bu .sub 24 28),oI 30 12 (.mnx true (.t 18) (.t 29)),oI 3 13 (mT 30)] true)) (Bo [Ac 16 4,oP 17 (Bi .add 16 1),Ac 4 17])))))) (Ad [Ac 31 3,Ac 2 31] .ret)))))⟩
def tr61:trF Tryz.prog Tryz.f61=some af61:=by kernel_rfl
attribute [go_sem] af61
def af58:AF:=⟨45,[(.t 2)],(Ad [oP 1 (.box (.t 0)),oP 2 (.mv (cB false))] (.seq (Ad [oP 4 (Af 0 1),oP 5 (Ag 4),oP 6 (Bi .lss 5 1),Ac 7 6,oG 8 7 false 0 (Af 0 1),oG 9 7 false 0 (Ag 8),oG 10 7 false 0 (Bi .gtr 9 12),oP 11 (Cx 7 10),Ac 12 11,oG 13 12 false 0 (Ao 5 1),oG 14 12 false 0 (.call 59 [(.t 13)]),oG 15 12 false 0 (.un .not (.t 14)),oP 16 (Cx 12 15)] (Ak 16 (Ad [oP 2 (.mv (cB false))] .ret) .skip)) (.seq (Ad [oP 3 (.mv (cI 0))] (.blk 0 (.loop (.seq (Ad [Ac 17 3,oP 18 (Af 4 1),oP 19 (Ag 18),oP 20 (.len false (.t 19)),oP 21 (Bu .lss 17 20)] (Em 21 0)) (.seq (.blk 1 (Ad [oP 24 (Af 0 1),oP 25 (Ag 24),oP 26 (Al 25 12),Ac 27 26,oG 28 27 true 0 (mT 3),oG 29 27 true 0 (Al 28 2),oP 30 (Bv 27 29)] (Ak 30 (Ad [oP 31 (Af 4 1),oP 32 (Ag 31),Ac 33 3,oP 34 (.iad 5 (.t 32) (.t 33)),oP 35 (Ao 5 34),oP 36 (.call 27 [(.t 35)]),oP 37 (.un .not (.t 36))] (Ak 37 (Ad [oP 2 (.mv (cB false))] .ret) .skip)) (Ad [oP 38 (Af 4 1),oP 39 (Ag 38),Ac 40 3,oP 41 (.iad 5 (.t 39) (.t 40)),oP 42 (Ao 5 41),oP 43 (.call 58 [(.t 42)]),oP 44 (.un .not (.t 43))] (Ak 44 (Ad [oP 2 (.mv (cB false))] .ret) .skip))))) (Bo [Ac 22 3,oP 23 (Bi .add 22 1),Ac 3 23])))))) (Ad [oP 2 (.mv (cB true))] .ret))))⟩
def tr58:trF Tryz.prog Tryz.f58=some af58:=by kernel_rfl
attribute [go_sem] af58
def af94:AF:=⟨31,[(.t 4)],(Ad [oP 4 (.mv (cI 0))] (.seq (Ad [Ac 5 0] (.blk 0 (.seq (Ad [oP 7 (Al 5 3),Ac 6 7] (Ak 6 .skip (Ad [oP 8 (Al 5 5),Ac 6 8] (Ak 6 .skip (Ad [oP 9 (Al 5 6),Ac 6 9] (Ak 6 .skip (Ad [oP 10 (Al 5 7),Ac 6 10] (Ak 6 .skip (Ad [oP 11 (Al 5 8),Ac 6 11] (Ak 6 .skip (Ad [oP 12 (Al 5 9),Ac 6 12] (Ak 6 .skip (Ad [oP 13 (Al 5 13),Ac 6 13] (Ak 6 .skip (Ad [oP 14 (Al 5 14),Ac 6 14] (Ak 6 .skip (Ad [oP 15 (Al 5 16),Ac 6 15] (Ak 6 .skip (Bo [oP 16 (Al 5 17),Ac 6 16]))))))))))))))))))) (Ak 6 (Ad [Ac 17 1,oP 18 (Al 17 1)] (Ak 18 (Ad [oP 4 (.mv (cI 1))] .ret) .skip)) (Ad [oP 20 (Al 5 4),Ac 19 20] (Ak 19 (Ad [Ac 21 1,oP 22 (Al 21 1),Ac 23 22,oG 24 23 false 0 (mT 1),oG 25 23 false 0 (Al 24 2),oP 26 (Cx 23 25)] (Ak 26 (Ad [oP 4 (.mv (cI 1))] .ret) .skip)) (Ad [oP 28 (Al 5 22),Ac 27 28] (Ak 27 (Ad [Ac 29 1,oP 30 (Al 29 2)] (Ak 30 (Ad [oP 4 (.mv (cI 2))] .ret) .skip)) .skip)))))))) (Ad [oP 4 (.mv (cI 0))] .ret)))⟩
def tr94:trF Tryz.prog Tryz.f94=some af94:=by kernel_rfl
attribute [go_sem] af94
open Go Go.RowKit Go.Proofs.YtgfehkhcmnfpaaaGreatDoor
def mixed:Tryz.prog.follows .mixedOrders=true:=by kernel_rfl
abbrev Con(f:Nat)(args:List SV)(r:SV):Prop:=Contract Tryz.prog f args r
def Ahv(i:Int):Con 162 [.int .i64 i] (.agg true (tv (.mk 1 i 0 0 []))):=by
 refine (Bt (r:=.agg true [.int .i64 1,.int .i64 i,.int .i64 0,.int .i64 0,.nils]) mixed Tryz.func162 tr162 ?_).weaken (Tx _ _ _ _);simp only[go_sem,seval]
def Ap0(k i j n:Int)(rows:GV)(h1:rows.length≠0)(h2:rows.length*56<=140737488355328)(h5:∀r∈rows,r.length=5)(H:∀r∈rows,Con 141 [.agg true r] (.agg true r)) :
  Con 141 [.agg true [.int .i64 k,.int .i64 i,.int .i64 j,.int .i64 n,.dsl 5 rows]] (.agg true [.int .i64 k,.int .i64 i,.int .i64 j,.int .i64 n,.dsl 5 rows]):=by
 refine Bt mixed Tryz.func141 tr141 ?_;simp only[go_sem,seval];intro _;refine⟨fun h=>?_,fun _=>?_⟩
 ·have:=eq_of_beq h;omega
 ·have h3:rows.length<=140737488355328:=by omega
  have e1:(0:Int)<=(rows.length:Int):=by omega
  have e2:((rows.length:Int)*56<=140737488355328):=by omega
  have e3:((rows.length:Int)<=140737488355328):=by omega
  simp only[go_sem,seval,h3,e1,e2,e3,Int.le_refl];refine Kf (fun x=>⟨[.J,.ref 0 0 0 0,.ref 1 0 0 0,.osl 2 0 0 rows.length,.J,.J,.J,.J,.J,.J,.J,.J,.J,.J,.J,.J,.J,.dsl 5 rows,.int .i64 rows.length,.int .i64 x,.J,.J,.J,.J,.J,.J,.J,.J,.J,.J,.J,.J,.J],[⟨true,5,[[.int .i64 k,.int .i64 i,.int .i64 j,.int .i64 n,.dsl 5 rows]],0,0,true⟩,⟨true,5,[[.int .i64 0,.int .i64 0,.int .i64 0,.int .i64 0,.nils]],0,0,true⟩,⟨false,5,rows.take x++List.replicate (rows.length-x) [.int .i64 0,.int .i64 0,.int .i64 0,.int .i64 0,.nils],0,0,true⟩]⟩) rows.length (fun x hx=>?_) ?_
  ·simp only[go_sem,seval];refine⟨fun h=>?_,fun h=>?_⟩
   ·have Aq:=q_ku h;have El:x<rows.length:=by omega
    have e0:(0:Int)<=(x:Int):=by omega
    have hm:rows[x]?.getD []∈rows:=by rw[q_f El,q_jz];exact q_kd El
    have Iv:=h5 _ hm;simp only[go_sem,seval,Aq,e0,Iv];refine Ae (H _ hm) ?_;simp only[go_sem,seval,Aq,El,e0,Iv];refine⟨by simp;omega,?_⟩;rw[w64 (n:=(x:Int)+1) (by unfold fit;omega)];exact Js 3 (by simp[Cb]) (by simp only[List.take_succ_cons,List.take_zero,A3j El]) (by simp[below]) (by simp)
   ·have Hz:=q_kv h;have Oc:x=rows.length:=by omega
    subst Oc;simp only[go_sem,seval,q_kl,List.take_take,Nat.min_self]
  ·simp only[List.take_zero,q_km,q_kr];exact Cr (by simp[Cb])
def Apz(k i j n:Int)(rows:GV)(h1:rows=[]):Con 141 [.agg true [.int .i64 k,.int .i64 i,.int .i64 j,.int .i64 n,.dsl 5 rows]] (.agg true (tv (.mk k i j n []))):=by
 subst h1;refine (Bt (r:=.agg true [.int .i64 k,.int .i64 i,.int .i64 j,.int .i64 n,.nils]) mixed Tryz.func141 tr141 ?_).weaken (Tx _ _ _ _);simp only[go_sem,seval]
def Ahd(t:Tm):TOk t->Con 141 [.agg true (tv t)] (.agg true (tv t)):=by
 induction t using Tm.ind with
 |h k i j n l ih=>
  intro hok;cases hok with
  |mk _ _ _ _ _ f1 f2 f3 f4 hb hl=>
  by_cases hz:l=[]
  ·subst hz;rw[Bp];have:=Apz k i j n [] rfl;rw[Bp] at this;exact this
  ·rw[Bp];refine Ap0 k i j n (l.map tv) (by simpa using hz) (by simpa using hb) (fun r hr=>?_) (fun r hr=>?_)
   ·obtain⟨t,_,rfl⟩:=q_kz.1 hr;exact Bz t
   ·obtain⟨t,ht,rfl⟩:=q_kz.1 hr;exact ih t ht (hl t ht)
def vr(i:Int):Tm:=.mk 2 i 0 0 []
def so(i:Int):Tm:=.mk 1 i 0 0 []
def pt(i:Int)(a x:Tm):Tm:=.mk 17 0 0 0 [so i,vr 0,a,x]
def Mh(W:List SV->Int->Int->Int)(rows:GV)(most deep:Int):Nat->Int
 |0=>1
 |x+1=>IntKind.i64.wrap (Mh W rows most deep x+W (rows[x]?.getD []) (IntKind.i64.wrap (most-Mh W rows most deep x)) deep)
def Fy(W:List SV->Int->Int->Int)(rows:GV)(most deep:Int):Nat->Int
 |0=>0
 |x+1=>IntKind.i64.wrap (Fy W rows most deep x+W (rows[x]?.getD []) (IntKind.i64.wrap (most-Fy W rows most deep x)) deep)
def af120:AF:=⟨17,[(.t 2)],(Ad [oP 2 (.mv (cB false))] (Ad [Ac 3 0,oP 4 (.bin 0 .leq (.c (.int .u8 97)) (.t 3)),Ac 5 4,oG 6 5 true 0 (mT 0),oG 7 5 true 0 (.bin 0 .leq (.t 6) (.c (.int .u8 122))),oP 8 (Bv 5 7),Ac 9 8,oG 10 9 false 0 (mT 0),oG 11 9 false 0 (.bin 0 .leq (.c (.int .u8 65)) (.t 10)),oG 12 9 false 0 (mT 11),oG 13 12 true 0 (mT 0),oG 14 12 true 0 (.bin 0 .leq (.t 13) (.c (.int .u8 90))),oG 15 9 false 0 (Bv 12 14),oP 16 (Cx 9 15),Ac 2 16] .ret))⟩
def tr120:trF Tryz.prog Tryz.f120=some af120:=by kernel_rfl
attribute [go_sem] af120
def af121:AF:=⟨9,[(.t 2)],(Ad [oP 2 (.mv (cB false))] (Ad [Ac 3 0,oP 4 (.bin 0 .leq (.c (.int .u8 48)) (.t 3)),Ac 5 4,oG 6 5 true 0 (mT 0),oG 7 5 true 0 (.bin 0 .leq (.t 6) (.c (.int .u8 57))),oP 8 (Bv 5 7),Ac 2 8] .ret))⟩
def tr121:trF Tryz.prog Tryz.f121=some af121:=by kernel_rfl
attribute [go_sem] af121
def af75:AF:=⟨34,[(.t 4)],(Ad [oP 4 (.mv (cI 0))] (.seq (.blk 0 (.loop (.seq (Ad [Ac 5 1,Ac 6 0,oP 7 (.len true (.t 6)),oP 8 (Bu .lss 5 7)] (Em 8 0)) (.blk 1 (Ad [Ac 9 0,Ac 10 1,oP 11 (.six (.t 9) (.t 10))] (.blk 2 (.seq (Ad [oP 14 (.bin 0 .eql (.t 11) (.c (.int .u8 32))),Ac 13 14] (Ak 13 .skip (Ad [oP 15 (.bin 0 .eql (.t 11) (.c (.int .u8 9))),Ac 13 15] (Ak 13 .skip (Bo [oP 16 (.bin 0 .eql (.t 11) (.c (.int .u8 10))),Ac 13 16]))))) (Ak 13 (Bo [Ac 17 1,oP 18 (Bi .add 17 1),Ac 1 18]) (Ad [oP 20 (.bin 0 .eql (.t 11) (.c (.int .u8 59))),Ac 19 20] (Ak 19 (.blk 3 (.loop (.seq (Ad [Ac 21 1,Ac 22 0,oP 23 (.len true (.t 22)),oP 24 (Bu .lss 21 23),Ac 25 24,oG 26 25 true 0 (mT 0),oG 27 25 true 0 (mT 1),oG 28 25 true 0 (.six (.t 26) (.t 27)),oG 29 25 true 0 (.bin 0 .neq (.t 28) (.c (.int .u8 10))),oP 30 (Bv 25 29)] (Em 30 3)) (.blk 4 (Bo [Ac 31 1,oP 32 (Bi .add 31 1),Ac 1 32]))))) (Ad [Ac 12 1,Ac 4 12] .ret))))))))))) (Ad [Ac 33 1,Ac 4 33] .ret)))⟩
def tr75:trF Tryz.prog Tryz.f75=some af75:=by kernel_rfl
attribute [go_sem] af75
def af76:AF:=⟨100,[(.cell 4 true 3),(.t 5)],(Ad [oP 4 (.new [(iS 0),(.str (bs [])),(iS 0)]),oP 5 (.mv (cB false))] (Ad [Ac 10 0,Ac 11 1,oP 12 (.six (.t 10) (.t 11)),Ac 13 1,oP 14 (Bi .add 13 1),Ac 6 12,Ac 7 14] (.seq (.blk 0 (Ad [Ac 16 6,oP 17 (.bin 0 .eql (.t 16) (.c (.int .u8 40))),Ac 15 17] (Ak 15 (Ad [Ac 18 1,oP 19 (.build [(iS 0),(.str (bs [])),(iS 0)] [(0,(1,(cI 1))),(1,(1,(Ap [40]))),(2,(1,(.t 18)))]),oN (Bn 3 4 19),oP 5 (.mv (cB true))] .ret) (Ad [Ac 21 6,oP 22 (.bin 0 .eql (.t 21) (.c (.int .u8 41))),Ac 20 22] (Ak 20 (Ad [Ac 23 1,oP 24 (.build [(iS 0),(.str (bs [])),(iS 0)] [(0,(1,(cI 2))),(1,(1,(Ap [41]))),(2,(1,(.t 23)))]),oN (Bn 3 4 24),oP 5 (.mv (cB true))] .ret) (Ad [Ac 26 6,oP 27 (.call 120 [(.t 26)]),Ac 25 27] (Ak 25 (.seq (.blk 1 (.loop (.seq (Ad [Ac 28 7,Ac 29 0,oP 30 (.len true (.t 29)),oP 31 (Bu .lss 28 30),Ac 32 31,oG 33 32 true 0 (mT 0),oG 34 32 true 0 (mT 7),oG 35 32 true 0 (.six (.t 33) (.t 34)),oG 36 32 true 0 (.call 120 [(.t 35)]),oG 37 32 true 0 (mT 36),oG 38 37 false 0 (mT 0),oG 39 37 false 0 (mT 7),oG 40 37 false 0 (.six (.t 38) (.t 39)),oG 41 37 false 0 (.call 121 [(.t 40)]),oG 42 32 true 0 (Cx 37 41),oP 43 (Bv 32 42)] (Em 43 1)) (.blk 2 (Bo [Ac 44 7,oP 45 (Bi .add 44 1),Ac 7 45]))))) (Ad [Ac 46 0,Ac 47 1,Ac 48 7,oP 49 (.slc 0 (.t 46) (some (.t 47)) (some (.t 48))),Ac 50 1,oP 51 (.build [(iS 0),(.str (bs [])),(iS 0)] [(0,(1,(cI 3))),(1,(1,(.t 49))),(2,(1,(.t 50)))]),Ac 52 7,Ac 53 1,oP 54 (Bu .sub 52 53),oP 55 (Bi .leq 54 20),oN (Bn 3 4 51),Ac 5 55] .ret)) (Ad [Ac 57 6,oP 58 (.call 121 [(.t 57)]),Ac 56 58] (Ak 56 (.seq (.blk 3 (.loop (.seq (Ad [Ac 59 7,Ac 60 0,oP 61 (.len true (.t 60)),oP 62 (Bu .lss 59 61),Ac 63 62,oG 64 63 true 0 (mT 0),oG 65 63 true 0 (mT 7),oG 66 63 true 0 (.six (.t 64) (.t 65)),oG 67 63 true 0 (.call 121 [(.t 66)]),oP 68 (Bv 63 67)] (Em 68 3)) (.blk 4 (Bo [Ac 69 7,oP 70 (Bi .add 69 1),Ac 7 70]))))) (Ad [Ac 72 0,Ac 73 1,Ac 74 7,oP 75 (.slc 0 (.t 72) (some (.t 73)) (some (.t 74))),oP 76 (.call 122 [(.t 75)]),Ac 71 76,oP 77 (.ext (.t 71) 0),oP 78 (.ext (.t 71) 1),Ac 8 77,Ac 9 78] (Cs [Ac 79 0,oI 80 1 (mT 1),oI 81 2 (mT 7),⟨(some 82),(.slc 0 (.t 79) (some (.t 80)) (some (.t 81))),none,3,true,[]⟩,oI 83 4 (mT 1),oI 84 5 (.build [(iS 0),(.str (bs [])),(iS 0)] [(0,(1,(cI 4))),(1,(1,(.t 82))),(2,(1,(.t 83)))]),oI 85 6 (mT 9),oI 86 7 (mT 85),oG 87 86 true 8 (mT 7),oG 88 86 true 9 (mT 0),oG 89 86 true 10 (.len true (.t 88)),oG 90 86 true 11 (Bu .eql 87 89),oG 91 86 true 12 (mT 90),oG 92 91 false 13 (mT 0),oG 93 91 false 14 (mT 7),oG 94 91 false 15 (.six (.t 92) (.t 93)),⟨(some 95),(.call 120 [(.t 94)]),(some (91,false)),16,false,[3]⟩,oG 96 91 false 17 (.un .not (.t 95)),oG 97 86 true 18 (Cx 91 96),oI 98 19 (Bv 86 97),oJ 20 (Bn 3 4 84),oI 5 21 (mT 98)] .ret))) .skip))))))))) (Ad [oP 99 (.build [(iS 0),(.str (bs [])),(iS 0)] []),oN (Bn 3 4 99),oP 5 (.mv (cB false))] .ret))))⟩
def tr76:trF Tryz.prog Tryz.f76=some af76:=by kernel_rfl
attribute [go_sem] af76
def af39:AF:=⟨36,[(.t 2),(.t 3),(.t 4)],(Ad [oP 2 (.mv (.c .nils)),oP 3 (.mv (cI 0)),oP 4 (.mv (cI 0))] (Ad [oP 5 (.mv (.c .nils))] (.seq (Ad [Ac 9 0,oP 10 (.call 75 [(.t 9),(cI 0)]),Ac 6 10] (.blk 0 (.loop (.seq (Ad [Ac 11 6,Ac 12 0,oP 13 (.len true (.t 12)),oP 14 (Bu .lss 11 13)] (Em 14 0)) (.blk 1 (Ad [Ac 16 0,Ac 17 6,oP 18 (.call 76 [(.t 16),(.t 17)]),Ac 15 18,oP 19 (.ext (.t 15) 0),oP 20 (.ext (.t 15) 1),oP 7 (.new [(iS 0),(.str (bs [])),(iS 0)]),oN (Bn 3 7 19),Ac 8 20] (.seq (Ad [Ac 21 8,oP 22 (.un .not (.t 21))] (Ak 22 (Ad [Ac 23 6,oP 2 (.mv (.c .nils)),oP 3 (.mv (cI 2)),Ac 4 23] .ret) .skip)) (Ad [Ac 24 5,oP 25 (Ao 3 7),oP 26 (.bslice 3 [(.t 25)]),oP 27 (.app 3 32 (.t 24) (.t 26)),Ac 5 27] (Bo [Ac 28 0,Ac 29 6,oP 30 (Af 1 7),oP 31 (Ag 30),oP 32 (.len true (.t 31)),oP 33 (Bu .add 29 32),oP 34 (.call 75 [(.t 28),(.t 33)]),Ac 6 34]))))))))) (Ad [Ac 35 5,Ac 2 35,oP 3 (.mv (cI 0)),oP 4 (.mv (cI 0))] .ret))))⟩
def tr39:trF Tryz.prog Tryz.f39=some af39:=by kernel_rfl
attribute [go_sem] af39
def af122:AF:=⟨47,[(.t 2),(.t 3)],(Ad [oP 2 (.mv (cI 0)),oP 3 (.mv (cB false))] (.seq (Ad [Ac 6 0,oP 7 (.len true (.t 6)),oP 8 (Al 7 0),Ac 9 8,oG 10 9 false 0 (mT 0),oG 11 9 false 0 (.len true (.t 10)),oG 12 9 false 0 (Bi .gtr 11 7),oP 13 (Cx 9 12)] (Ak 13 (Ad [oP 2 (.mv (cI 0)),oP 3 (.mv (cB false))] .ret) .skip)) (Ad [oP 4 (.mv (cI 0))] (.seq (Ad [Ac 14 0,oP 15 (.len true (.t 14)),oP 16 (.mv (cI 0))] (.blk 0 (.loop (Ad [oP 17 (Bu .lss 16 15)] (.seq (Em 17 0) (.seq (.blk 1 (Ad [Ac 18 16,Ac 5 18] (.seq (Ad [Ac 19 0,Ac 20 5,oP 21 (.six (.t 19) (.t 20)),oP 22 (.bin 0 .lss (.t 21) (.c (.int .u8 48))),Ac 23 22,oG 24 23 false 0 (mT 0),oG 25 23 false 0 (mT 5),oG 26 23 false 0 (.six (.t 24) (.t 25)),oG 27 23 false 0 (.bin 0 .gtr (.t 26) (.c (.int .u8 57))),oP 28 (Cx 23 27)] (Ak 28 (Ad [oP 2 (.mv (cI 0)),oP 3 (.mv (cB false))] .ret) .skip)) (Bo [Ac 29 4,oP 30 (.bin 0 .mul (cI 10) (.t 29)),Ac 31 0,Ac 32 5,oP 33 (.six (.t 31) (.t 32)),oP 34 (.bin 0 .sub (.t 33) (.c (.int .u8 48))),oP 35 (.conv .i64 (.t 34)),oP 36 (Bu .add 30 35),Ac 4 36])))) (Bo [oP 37 (Bi .add 16 1),Ac 16 37]))))))) (.seq (Ad [Ac 38 4,oP 39 (Bi .gtr 38 1000000),Ac 40 39,oG 41 40 false 0 (mT 4),oG 42 40 false 0 (.call 32 [(.t 41)]),oG 43 40 false 0 (mT 0),oG 44 40 false 0 (.bin 4 .neq (.t 42) (.t 43)),oP 45 (Cx 40 44)] (Ak 45 (Ad [oP 2 (.mv (cI 0)),oP 3 (.mv (cB false))] .ret) .skip)) (Ad [Ac 46 4,Ac 2 46,oP 3 (.mv (cB true))] .ret))))))⟩
def tr122:trF Tryz.prog Tryz.f122=some af122:=by kernel_rfl
attribute [go_sem] af122
def af32:AF:=⟨5,[(.t 2)],(Ad [oP 2 (.mv (Ap []))] (Ad [Ac 3 0,oP 4 (.call 63 [(.t 3)]),Ac 2 4] .ret))⟩
def tr32:trF Tryz.prog Tryz.f32=some af32:=by kernel_rfl
attribute [go_sem] af32
def lw{α:Type}(S:α->St)(μ:α->Nat)(I:α->Prop)(a:α)(Q:AE->St->Prop):AE->St->Prop:=fun e s'=>match e with|.normal=>∃a',(μ a'<μ a/\I a')/\Wk s' (S a')|e=>Q e s'
def lw_n{α:Type}{S:α->St}{μ:α->Nat}{I:α->Prop}{a:α}{Q:AE->St->Prop}{s:St}:lw S μ I a Q .normal s=∃a',(μ a'<μ a/\I a')/\Wk s (S a'):=q_z
def lw_e{α:Type}{S:α->St}{μ:α->Nat}{I:α->Prop}{a:α}{Q:AE->St->Prop}{s:St}{j:Nat}:lw S μ I a Q (.exit j) s=Q (.exit j) s:=q_z
def lw_r{α:Type}{S:α->St}{μ:α->Nat}{I:α->Prop}{a:α}{Q:AE->St->Prop}{s:St}:lw S μ I a Q .ret s=Q .ret s:=q_z
attribute [go_sem] lw_n lw_e lw_r
def Qr{C:CT}{b:AC}{Q:AE->St->Prop}{α:Type}(S:α->St)(μ:α->Nat)(I:α->Prop)(Ox:∀a,I a->vc C b (lw S μ I a Q) (S a)){s:St}(a0:α)(hI:I a0)(h0:Wk s (S a0)):vc C (.loop b) Q s:=by
 refine Agd (fun m s=>∃a,(m=μ a/\I a)/\Wk s (S a)) (fun m s hI=>?_) (μ a0) s ⟨a0,⟨rfl,hI⟩,h0⟩;obtain⟨a,⟨rfl,hI⟩,hw⟩:=hI;refine⟨S a,hw,j0 (fun e s' he=>?_) (Ox a hI)⟩;cases e with
 |normal=>
  obtain⟨a',⟨h1,h2⟩,h3⟩:=he;exact⟨μ a',h1,a',⟨rfl,h2⟩,h3⟩
 |exit id=>exact he
 |ret=>exact he
def Akr(a b:Nat):((a:Int)==(b:Int))=decide (a=b):=by
 by_cases h:a=b
 ·subst h;simp
 ·simp[h,Int.natCast_inj]
def chN(l:By)(p:Nat):Nat:=(l.getD p 0).toNat
def Gv(l:By)(p:Nat):Uv (bs l) p=((chN l p:Nat):Int):=Ag1 l p
def Uy(n:Nat):Con 120 [.int .u8 n] (.bool (My n)):=by
 refine Bt mixed Tryz.func120 tr120 ?_;unfold My
 by_cases h1:97<=n<;>by_cases h2:n<=122<;>by_cases h3:65<=n<;>by_cases h4:n<=90 <;>
  simp only[go_sem,seval,h1,h2,h3,h4,show ((97:Int)<=(n:Int))=(97<=n) from propext (by omega),show ((n:Int)<=122)=(n<=122) from propext (by omega),show ((65:Int)<=(n:Int))=(65<=n) from propext (by omega),show ((n:Int)<=90)=(n<=90) from propext (by omega),decide_true,decide_false,q_l,q_lb,Bool.or_true,Bool.or_false,q_la,q_lc,Bool.false_or,Bool.true_or]
def Ux(n:Nat):Con 121 [.int .u8 n] (.bool (Jh n)):=by
 refine Bt mixed Tryz.func121 tr121 ?_;unfold Jh
 by_cases h1:48<=n<;>by_cases h2:n<=57 <;>
  simp only[go_sem,seval,h1,h2,show ((48:Int)<=(n:Int))=(48<=n) from propext (by omega),show ((n:Int)<=57)=(n<=57) from propext (by omega),decide_true,decide_false,q_l,q_lb,q_la,q_lc]
def Ql{a b:Nat}(h:a≠b):((a:Int)==(b:Int))=false:=by rw[Akr];simp[h]
end Go.Proofs.YtgfehkhcmnfpaaaGreatDoor.Abs
namespace Go.Proofs
open Go.Shelf
def Tryz.laysM246_ren:Go.Shelf.Ren:=⟨fun|246=>133|283=>157|284=>158|285=>159|286=>160|129=>192|317=>191|318=>193|319=>194|320=>195|337=>216|338=>217|n=>n,fun|2=>2|3=>3|9=>9|4=>4|171=>177|0=>0|53=>92|37=>51|5=>5|173=>180|212=>208|51=>209|20=>20|213=>210|46=>211|232=>237|233=>238|n=>n,fun|17=>0|18=>2|19=>3|n=>n⟩
def Tryz.laysM246:Go.Proofs.LaysM.n246 Tryz.prog Tryz.laysM246_ren:={
 mixed:=by kernel_rfl
 f129:=Tryz.func192.trans (congrArg some (by kernel_rfl))
 f246:=Tryz.func133.trans (congrArg some (by kernel_rfl))
 f283:=Tryz.func157.trans (congrArg some (by kernel_rfl))
 f284:=Tryz.func158.trans (congrArg some (by kernel_rfl))
 f285:=Tryz.func159.trans (congrArg some (by kernel_rfl))
 f286:=Tryz.func160.trans (congrArg some (by kernel_rfl))
 f317:=Tryz.func191.trans (congrArg some (by kernel_rfl))
 f318:=Tryz.func193.trans (congrArg some (by kernel_rfl))
 f319:=Tryz.func194.trans (congrArg some (by kernel_rfl))
 f320:=Tryz.func195.trans (congrArg some (by kernel_rfl))
 f337:=Tryz.func216.trans (congrArg some (by kernel_rfl))
 f338:=Tryz.func217.trans (congrArg some (by kernel_rfl))
 t0:=Tryz.underlying0
 a0:=Tryz.isAgg0
 z0:=Tryz.sizeOf0
 v0:=Tryz.zeroValue0
 t2:=Tryz.underlying2
 a2:=Tryz.isAgg2
 z2:=Tryz.sizeOf2
 v2:=Tryz.zeroValue2
 t3:=Tryz.underlying3
 a3:=Tryz.isAgg3
 z3:=Tryz.sizeOf3
 v3:=Tryz.zeroValue3
 t4:=Tryz.underlying4
 a4:=Tryz.isAgg4
 z4:=Tryz.sizeOf4
 v4:=Tryz.zeroValue4
 t5:=Tryz.underlying5
 a5:=Tryz.isAgg5
 z5:=Tryz.sizeOf5
 v5:=Tryz.zeroValue5
 t9:=Tryz.underlying9
 a9:=Tryz.isAgg9
 z9:=Tryz.sizeOf9
 v9:=Tryz.zeroValue9
 t20:=Tryz.underlying20
 a20:=Tryz.isAgg20
 z20:=Tryz.sizeOf20
 v20:=Tryz.zeroValue20
 t37:=Tryz.underlying51
 a37:=Tryz.isAgg51
 z37:=Tryz.sizeOf51
 v37:=Tryz.zeroValue51
 t46:=Tryz.underlying211
 a46:=Tryz.isAgg211
 z46:=Tryz.sizeOf211
 v46:=Tryz.zeroValue211
 t51:=Tryz.underlying209
 a51:=Tryz.isAgg209
 z51:=Tryz.sizeOf209
 v51:=Tryz.zeroValue209
 t53:=Tryz.underlying92
 a53:=Tryz.isAgg92
 z53:=Tryz.sizeOf92
 v53:=Tryz.zeroValue92
 t171:=Tryz.underlying177
 a171:=Tryz.isAgg177
 z171:=Tryz.sizeOf177
 v171:=Tryz.zeroValue177
 t173:=Tryz.underlying180
 a173:=Tryz.isAgg180
 z173:=Tryz.sizeOf180
 v173:=Tryz.zeroValue180
 t212:=Tryz.underlying208
 a212:=Tryz.isAgg208
 z212:=Tryz.sizeOf208
 v212:=Tryz.zeroValue208
 t213:=Tryz.underlying210
 a213:=Tryz.isAgg210
 z213:=Tryz.sizeOf210
 t232:=Tryz.underlying237
 a232:=Tryz.isAgg237
 z232:=Tryz.sizeOf237
 v232:=Tryz.zeroValue237
 t233:=Tryz.underlying238
 a233:=Tryz.isAgg238
 z233:=Tryz.sizeOf238
 v233:=Tryz.zeroValue238
 g17:=by kernel_rfl
 g18:=by kernel_rfl
 g19:=by kernel_rfl
 i0:=by kernel_rfl
 i2:=by kernel_rfl
 i3:=by kernel_rfl
 i4:=by kernel_rfl
 i5:=by kernel_rfl
 i9:=by kernel_rfl
 i20:=by kernel_rfl
 i37:=by kernel_rfl
 i46:=by kernel_rfl
 i51:=by kernel_rfl
 i53:=by kernel_rfl
 i171:=by kernel_rfl
 i173:=by kernel_rfl
 i212:=by kernel_rfl
 i232:=by kernel_rfl
 i233:=by kernel_rfl
 m17:=by kernel_rfl
 m18:=by kernel_rfl
 m19:=by kernel_rfl }
end Go.Proofs
namespace Go.Proofs.YtgfehkhcmnfpaaaGreatDoor.Abs
open Go Go.Proofs Go.Proofs.YtgfehkhcmnfpaaaGreatDoor
def af63:AF:=⟨5,[(.t 2)],(Ad [oP 2 (.mv (Ap []))] (Ad [Ac 3 0,oP 4 (.call 96 [(.t 3)]),Ac 2 4] .ret))⟩
def tr63:trF Tryz.prog Tryz.f63=some af63:=by kernel_rfl
attribute [go_sem] af63
def af96:AF:=⟨5,[(.t 2)],(Ad [oP 2 (.mv (Ap []))] (Ad [Ac 3 0,oP 4 (.call 133 [(.t 3),(cI 10)]),Ac 2 4] .ret))⟩
def tr96:trF Tryz.prog Tryz.f96=some af96:=by kernel_rfl
attribute [go_sem] af96
open Go Go.RowKit Go.Proofs.YtgfehkhcmnfpaaaGreatDoor
def I64(n:Int):Prop:=-9223372036854775808<=n/\n<=9223372036854775807
def Ap2{n:Int}(h:I64 n):Con 133 [.int .i64 n,.int .i64 10] (.str (bs (Lib.itoa n))):=by
 intro m w vs h1 h2 h3;obtain⟨v,u,rfl⟩:∃v u,vs=[v,u]:=by
  match vs,h2 with
  |[v,u],_=>exact⟨v,u,rfl⟩
 have hv:=h3 0 v _ rfl rfl;have hu:=h3 1 u _ rfl rfl;cases hv;cases hu;obtain⟨⟨e,f,ht⟩,_⟩:=h1.2.2 _ rfl;have hg:Tryz.prog.globalNamed _=some 0:=Tryz.laysM246.m17;refine Calls.mono (Any.internal_strconv_FormatInt_10 Tryz.laysM246 n h.1 h.2 w ?_) (fun e w' he=>?_)
 ·unfold Lib.TabIs World.var?;rw[hg];simp only[Option.bind_some,ht,Lib.pow10Tab,List.map_map];rfl
 ·obtain⟨rfl,k,os,rfl⟩:=he;have hb:=Lib.below_grow w.heap.size w (q_ja _) k os;refine⟨_,m,rfl,.str _,⟨.refl m,rfl⟩,fun _ _ _=>rfl,?_,hb.os,hb.tape,hb.output,hb.size,fun j hj=>hb.block j hj⟩;refine⟨fun b j v hv=>?_,fun b Di=>?_,fun b Di=>?_⟩
  ·have:=h1.1 b j v hv;rw[hb.cell (p:=⟨b,j,none⟩) (Wg this)];exact this
  ·obtain⟨c,e,h⟩:=h1.2.1 b Di;exact⟨c,e,(hb.block b (Array.getElem?_eq_some_iff.1 h).1).trans h⟩
  ·obtain⟨⟨e,f,h⟩,q⟩:=h1.2.2 b Di;exact⟨⟨e,f,(hb.block b (Array.getElem?_eq_some_iff.1 h).1).trans h⟩,q⟩
def p9{n:Int}(h:I64 n):Con 32 [.int .i64 n] (.str (bs (Lib.itoa n))):=by
 refine Bt mixed Tryz.func32 tr32 ?_;simp only[go_sem,seval];refine Ae (r:=.str (bs (Lib.itoa n))) ?_ ?_
 ·refine Bt mixed Tryz.func63 tr63 ?_;simp only[go_sem,seval];refine Ae (r:=.str (bs (Lib.itoa n))) ?_ ?_
  ·refine Bt mixed Tryz.func96 tr96 ?_;simp only[go_sem,seval];refine Ae (Ap2 h) ?_;simp only[go_sem,seval]
  ·simp only[go_sem,seval]
 ·simp only[go_sem,seval]
def A4x(w:By){i:Nat}(h:i<w.length):Hc (w.take (i+1))=10*Hc (w.take i)+(chN w i-48):=by
 unfold Hc chN;rw[List.take_add_one,q_f h,List.foldl_append];simp[q_j,q_f h]
def A4w(w:By)(h:∀c∈w,Jt c=true):Hc w<10 ^ w.length:=by
 have key:∀(w:By) (n:Nat),(∀c∈w,Jt c=true)->w.foldl (fun n c=>10*n+(c.toNat-48)) n<(n+1)*10 ^ w.length:=by
  intro w
  induction w with
  |nil=>intro n _;simp
  |cons c w ih=>
   intro n h;have hc:=h c (by simp);unfold Jt Jh at hc;simp only[q_jl,q_jt] at hc;have h1:=ih (10*n+(c.toNat-48)) (fun d hd=>h d (List.mem_cons_of_mem _ hd));rw[List.foldl_cons,q_jk,Nat.pow_succ];refine q_kp h1 ?_;rw[Nat.mul_comm (10 ^ w.length) 10,<-Nat.mul_assoc];exact q_jy _ (by omega)
 simpa [Hc] using key w 0 h
def Avz{w:By}(h:w.all Jt=false):Ez w=none:=by
 unfold Ez;split
 ·rfl
 ·simp[h]
def Acm(w:By):Con 122 [.str (bs w)] (.tup [.int .i64 ((Ez w).getD 0:Nat),.bool (Ez w).isSome]):=by
 refine Bt mixed Tryz.func122 tr122 ?_
 by_cases h0:w.length=0
 ·have e:Ez w=none:=by unfold Ez;rw[if_pos (.inl h0)]
  rw[e];simp only[go_sem,seval,h0];rfl
 by_cases h7:7<w.length
 ·have e:Ez w=none:=by unfold Ez;rw[if_pos (.inr h7)]
  rw[e];have n0:((w.length:Int)==0)=false:=by rw[beq_eq_false_iff_ne];omega
  simp only[go_sem,seval,n0,q_jn (show (w.length:Int) > 7 by omega)];rfl
 have n0:((w.length:Int)==0)=false:=by rw[beq_eq_false_iff_ne];omega
 simp only[go_sem,seval,n0,q_je (show ¬(w.length:Int) > 7 by omega)];refine Ul (fun x=>⟨(.str (bs w)::.J::.J::.J::.int .i64 (Hc (w.take x))::jk8 (jk2 (.int .i64 w.length::.int .i64 x::Fa (jk8 (jk4 (jk2 ([]))))))),[]⟩) w.length (fun x=>Jh (chN w x)=true) (fun x hx hp=>?_) (Cr (by simp[Cb,Hc]));have hd:∀c∈w.take x,Jt c=true:=fun c hc=>by
  obtain⟨i,hi,rfl⟩:=List.getElem_of_mem hc;have Lx:i<x:=by rw[q_kg] at hi;omega
  have hi3:i<w.length:=by omega
  have:=hp i Lx;unfold chN at this;rw[q_j,q_f hi3] at this;rw[List.getElem_take];exact this
 have hv:=A4w _ hd;have w7:10 ^ (w.take x).length<=10 ^ 7:=Nat.pow_le_pow_right (by decide) (by rw[q_kg];omega);have hv7:Hc (w.take x)<10000000:=q_kp hv (by simpa using w7)
 by_cases Aq:x<w.length
 ·have e0:(0:Int)<=(x:Int):=by omega
  have e1:(x:Int)<(w.length:Int):=by omega
  have hw:IntKind.i64.wrap ((x:Int)+1)=((x+1:Nat):Int):=by rw[w64 (by unfold fit;omega)];omega
  cases Ot:Jh (chN w x)
  ·have e:Ez w=none:=Avz (by rw[List.all_eq_false];exact⟨w[x],q_kd Aq,by
    unfold chN at Ot;rw[q_j,q_f Aq] at Ot;simp only[q_jz] at Ot;simp[Jt,Ot]⟩)
   rw[e];unfold Jh at Ot
   by_cases c1:48<=chN w x
   ·have c2:¬chN w x<=57:=by intro h;simp[c1,h] at Ot
    simp only[go_sem,seval,Gv,e0,e1,Aq,q_jn e1,q_je (show ¬((chN w x:Nat):Int)<48 by omega),q_jn (show ((chN w x:Nat):Int) > 57 by omega)];rfl
   ·simp only[go_sem,seval,Gv,e0,e1,Aq,q_jn e1,q_jn (show ((chN w x:Nat):Int)<48 by omega)];rfl
  ·have Ajc:=Ot;unfold Jh at Ot;simp only[q_jl,q_jt] at Ot;obtain⟨c1,c2⟩:=Ot;have hs:IntKind.u8.wrap (((chN w x:Nat):Int)-48)=((chN w x-48:Nat):Int):=by
    have:((chN w x:Nat):Int)-48=((chN w x-48:Nat):Int):=by omega
    rw[this];unfold IntKind.wrap;simp[IntKind.bits,IntKind.signed];omega
   have Be:IntKind.i64.wrap ((chN w x-48:Nat):Int)=((chN w x-48:Nat):Int):=w64 (by unfold fit;omega);have hm:IntKind.i64.wrap (10*((Hc (w.take x):Nat):Int))=((10*Hc (w.take x):Nat):Int):=by rw[w64 (by unfold fit;omega)];omega
   have ha:IntKind.i64.wrap (((10*Hc (w.take x):Nat):Int)+((chN w x-48:Nat):Int))=((Hc (w.take (x+1)):Nat):Int):=by rw[A4x w Aq,w64 (by unfold fit;omega)];omega
   simp only[go_sem,seval,Gv,e0,e1,Aq,q_jn e1,q_je (show ¬((chN w x:Nat):Int)<48 by omega),q_je (show ¬((chN w x:Nat):Int) > 57 by omega),hs,Be,hm,ha,hw]
   first|exact⟨Aq,Ajc,Cr (by simp[Cb])⟩|exact⟨Ajc,Cr (by simp[Cb])⟩|exact Cr (by simp[Cb])
 ·have Eg:x=w.length:=by omega
  subst Eg;rw[q_kl] at *
  have Fr:w.all Jt=true:=List.all_eq_true.2 hd;have e1:¬(w.length:Int)<(w.length:Int):=by omega
  have cp:=p9 (n:=(Hc w:Int)) ⟨by omega,by omega⟩
  by_cases hb:1000000<Hc w
  ·have e:Ez w=none:=by
    unfold Ez;rw[if_neg (by omega),if_pos Fr,if_pos (.inl hb)]
   rw[e];simp only[go_sem,seval,q_je e1,q_jn (show ((Hc w:Nat):Int) > 1000000 by omega)];rfl
  ·simp only[go_sem,seval,q_je e1,q_je (show ¬((Hc w:Nat):Int) > 1000000 by omega)];refine Ae cp ?_
   by_cases he:Lib.itoa (Hc w:Nat)=w
   ·have e:Ez w=some (Hc w):=by
     unfold Ez;rw[if_neg (by omega),if_pos Fr,if_neg (by intro h;rcases h with h|h;exact hb h;exact h he)]
    rw[e];have hq:(Lib.itoa (Hc w:Nat)==w)=true:=by rw[he];simp
    simp only[go_sem,seval,hq];rfl
   ·have e:Ez w=none:=by
     unfold Ez;rw[if_neg (by omega),if_pos Fr,if_pos (.inr he)]
    rw[e];have hq:(Lib.itoa (Hc w:Nat)==w)=false:=by simp[he]
    simp only[go_sem,seval,hq];rfl
def Lr{l:By}{a:Nat}(h:a<l.length):l.drop a=l.getD a 0::l.drop (a+1):=by
 rw[List.drop_eq_getElem_cons h,q_j,q_f h];rfl
def Xi{l:By}{a:Nat}(h:¬a<l.length):l.drop a=[]:=List.drop_eq_nil_of_le (by omega)
def sk_f{l:By}{a:Nat}(h:a<l.length):skF false (l.drop a)=if chN l a=32\/chN l a=9\/chN l a=10 then skF false (l.drop (a+1))+1 else if chN l a=59 then skF true (l.drop (a+1))+1 else 0:=by
 rw[Lr h];rfl
def sk_t{l:By}{a:Nat}(h:a<l.length):skF true (l.drop a)=if chN l a=10 then skF false (l.drop (a+1))+1 else skF true (l.drop (a+1))+1:=by
 rw[Lr h];rfl
def A4i{P:UInt8->Bool}(d:UInt8):∀(r:By),(∀q,q<(r.takeWhile P).length->P (r.getD q d)=true)/\((r.takeWhile P).length<r.length->P (r.getD (r.takeWhile P).length d)=false)/\r.dropWhile P=r.drop (r.takeWhile P).length/\r.takeWhile P=r.take (r.takeWhile P).length/\(r.takeWhile P).length<=r.length:=by
 intro r
 induction r with
 |nil=>simp
 |cons c r ih=>
  obtain⟨i1,i2,i3,i4,i5⟩:=ih;cases hc:P c with
  |false=>simp[List.takeWhile_cons,List.dropWhile_cons,hc]
  |true=>
   simp only[List.takeWhile_cons,List.dropWhile_cons,hc,if_true,q_jk,List.drop_succ_cons,List.take_succ_cons];refine⟨fun q hq=>?_,fun h=>?_,i3,by rw[<-i4],by omega⟩
   ·cases q with
    |zero=>simpa using hc
    |succ q=>simpa using i1 q (by omega)
   ·simpa using i2 (by omega)
def Ahu(l:By)(hl:l.length<1000000000000){p:Nat}(hp:p<=l.length):Con 75 [.str (bs l),.int .i64 p] (.int .i64 ((p+skF false (l.drop p):Nat):Int)):=by
 refine Bt mixed Tryz.func75 tr75 ?_;simp only[go_sem,seval];refine Qr (fun a:Nat=>⟨(.str (bs l)::.int .i64 a::.J::.J::.int .i64 0::Fa (jk8 (jk4 (.J::[])))),[]⟩) (fun a=>l.length-a) (fun a=>p<=a/\a<=l.length/\a+skF false (l.drop a)=p+skF false (l.drop p)) (fun a ha=>?_) p ⟨q_ja _,hp,rfl⟩ (Cr (by simp[Cb]));obtain⟨h1,h2,h3⟩:=ha
 by_cases hq:a<l.length
 ·have e0:(0:Int)<=(a:Int):=by omega
  have e1:(a:Int)<(l.length:Int):=by omega
  have hs:=sk_f hq;have hw:IntKind.i64.wrap ((a:Int)+1)=((a+1:Nat):Int):=by rw[w64 (by unfold fit;omega)];omega
  by_cases c1:chN l a=32\/chN l a=9\/chN l a=10
  ·rw[if_pos c1] at hs;have d1:=fun (n:Nat) (h:chN l a≠n)=>Ql h
   rcases c1 with c|c|c
   all_goals
    simp only[go_sem,seval,Gv,e0,e1,hq,c];refine⟨a+1,⟨by omega,by omega,by omega,by omega⟩,?_⟩;rw[hw];exact Cr (by simp[Cb])
  ·rw[if_neg c1] at hs;have c2:chN l a≠32:=fun h=>c1 (.inl h)
   have c3:chN l a≠9:=fun h=>c1 (.inr (.inl h))
   have c4:chN l a≠10:=fun h=>c1 (.inr (.inr h))
   have d2:=Ql c2;have d3:=Ql c3;have d4:=Ql c4;simp only[Int.cast_ofNat_Int] at d2 d3 d4
   by_cases c5:chN l a=59
   ·rw[if_pos c5] at hs;have d5:((chN l a:Nat):Int)=59:=by omega
    simp only[go_sem,seval,Gv,e0,e1,hq,c5];refine Qr (fun b:Nat=>⟨(.str (bs l)::.int .i64 b::.J::.J::.int .i64 0::Fa (jk8 (jk4 (.J::[])))),[]⟩) (fun b=>l.length-b) (fun b=>a<=b/\b<=l.length/\((b=a/\True)\/a<b/\b+skF true (l.drop b)=a+skF false (l.drop a))) (fun b hb=>?_) a ⟨q_ja _,by omega,.inl ⟨rfl,trivial⟩⟩ (Cr (by simp[Cb]));obtain⟨b1,b2,b3⟩:=hb
    by_cases hq2:b<l.length
    ·have f0:(0:Int)<=(b:Int):=by omega
     have f1:(b:Int)<(l.length:Int):=by omega
     have hw2:IntKind.i64.wrap ((b:Int)+1)=((b+1:Nat):Int):=by rw[w64 (by unfold fit;omega)];omega
     have ht:=sk_t hq2;have hf:=sk_f hq2
     by_cases c6:chN l b=10
     ·rw[if_pos c6] at ht;rw[if_pos (.inr (.inr c6))] at hf;simp only[go_sem,seval,Gv,f0,f1,hq2,c6];have:a<b:=by
       rcases b3 with⟨rfl,_⟩|h
       ·exact absurd c6 c4
       ·exact h.1
      exact⟨b,⟨by omega,by omega,by omega,by omega⟩,Cr (by simp[Cb])⟩
     ·rw[if_neg c6] at ht;have d6:=Ql c6;simp only[Int.cast_ofNat_Int] at d6;have d7:(((chN l b:Nat):Int) != 10)=true:=by simp[bne,d6]
      simp only[go_sem,seval,Gv,f0,f1,hq2,d6,d7];refine⟨b+1,⟨by omega,by omega,by omega,.inr ⟨by omega,?_⟩⟩,?_⟩
      ·rcases b3 with⟨rfl,_⟩|h
       ·omega
       ·omega
      ·rw[hw2];exact Cr (by simp[Cb])
    ·have f1:¬(b:Int)<(l.length:Int):=by omega
     have:b=l.length:=by omega
     subst this;simp only[go_sem,seval,f1];have h5:((l.length=a/\True)\/a<l.length/\l.length+skF true (l.drop l.length)=a+skF false (l.drop a)):=b3;rw[Xi (Nat.lt_irrefl _)] at h5;simp only[skF] at h5;refine⟨l.length,⟨by omega,by omega,by omega,?_⟩,Cr (by simp[Cb])⟩;rw[Xi (Nat.lt_irrefl _)];simp only[skF];omega
   ·rw[if_neg c5] at hs;have d5:=Ql c5;simp only[Int.cast_ofNat_Int] at d5;have:a=p+skF false (l.drop p):=by omega
    simp only[go_sem,seval,Gv,e0,e1,hq,d2,d3,d4,d5,<-this]
 ·have e1:¬(a:Int)<(l.length:Int):=by omega
  rw[Xi hq] at h3;simp only[skF] at h3;simp only[go_sem,seval,e1,<-h3]
def Abz{P:UInt8->Bool}{l:By}{p:Nat}(hp:p<l.length){w:By}(hw:w=(l.drop (p+1)).takeWhile P) :
  p+1+w.length<=l.length/\(∀q,p<q->q<p+1+w.length->P (l.getD q 0)=true)/\(p+1+w.length<l.length->P (l.getD (p+1+w.length) 0)=false)/\(l.drop p).take (1+w.length)=l.getD p 0::w/\(l.drop (p+1)).dropWhile P=l.drop (p+1+w.length):=by
 have hr:l.drop (p+1)=l.drop (p+1):=rfl;have hl:(l.drop (p+1)).length=l.length-(p+1):=by simp
 subst hw;obtain⟨a1,a2,a3,a4,a5⟩:=A4i (P:=P) 0 (l.drop (p+1));have hg:∀q,(l.drop (p+1)).getD q 0=l.getD (p+1+q) 0:=fun q=>by simp[q_j,q_kk]
 refine⟨by omega,fun q h1 h2=>?_,fun h=>?_,?_,?_⟩
 ·have:=a1 (q-(p+1)) (by omega);rw[hg,show p+1+(q-(p+1))=q by omega] at this;exact this
 ·have:=a2 (by omega);rw[hg] at this;exact this
 ·rw[Lr hp,Nat.add_comm 1,List.take_succ_cons,<-a4]
 ·rw[a3,List.drop_drop]
def Ahl{l:By}(hl:l.length<1000000000000){p:Nat}(hp:p<l.length):Con 76 [.str (bs l),.int .i64 p] (.tup [.agg true (Hk (Ci p (l.drop p)).1),.bool (Ci p (l.drop p)).2]):=by
 have e0:(0:Int)<=(p:Int):=by omega
 have Yu:IntKind.i64.wrap ((p:Int)+1)=((p+1:Nat):Int):=by rw[w64 (by unfold fit;omega)];omega
 refine Bt mixed Tryz.func76 tr76 ?_;rw[Lr hp];have hcc:(l.getD p 0).toNat=chN l p:=rfl
 by_cases c1:chN l p=40
 ·have e:Ci p (l.getD p 0::l.drop (p+1))=(⟨1,[40],p⟩,true):=by rw[Ci,if_pos (hcc.trans c1)]
  rw[e];simp only[go_sem,seval,Gv,e0,hp,c1];rfl
 by_cases c2:chN l p=41
 ·have e:Ci p (l.getD p 0::l.drop (p+1))=(⟨2,[41],p⟩,true):=by rw[Ci,hcc,if_neg c1,if_pos c2]
  rw[e];simp only[go_sem,seval,Gv,e0,hp,c2];rfl
 have d1:=Ql c1;have d2:=Ql c2;simp only[Int.cast_ofNat_Int] at d1 d2;cases c3:My (chN l p);rotate_left
 ·obtain⟨w,hw⟩:∃w,w=(l.drop (p+1)).takeWhile Ab6:=⟨_,rfl⟩
  obtain⟨t1,t2,t3,t4,t5⟩:=Abz hp hw;have e:Ci p (l.getD p 0::l.drop (p+1))=(⟨3,l.getD p 0::w,p⟩,decide (w.length<20)):=by rw[Ci,hcc,if_neg c1,if_neg c2,if_pos c3,<-hw]
  rw[e,<-t4];simp only[go_sem,seval,Gv,e0,hp,d1,d2];refine Ae (Uy _) ?_;simp only[go_sem,seval,c3];rw[Yu];generalize hE:p+1+w.length=E at t1 t2 t3;refine Qr (fun a:Nat=>⟨(.str (bs l)::.int .i64 p::.J::.J::.ref 0 0 0 0::.bool false::.J::.int .i64 a::jk4 (jk2 (.J::.bool false::jk4 (.bool false::jk4 (.bool true::Fb (Fb (jk8 (jk2 ([]))))))))),[⟨true,3,[[.int .i64 0,.str (bs []),.int .i64 0]],0,0,true⟩]⟩) (fun a=>E-a) (fun a=>p<a/\a<=E) (fun a ha=>?_) (p+1) ⟨by omega,by omega⟩ ?_
  ·by_cases hq:a<E
   ·have hc:=t2 a ha.1 hq;have f0:(0:Int)<=(a:Int):=by omega
    have f1:(a:Int)<(l.length:Int):=by omega
    have f2:a<l.length:=by omega
    have hc:(My (chN l a) || Jh (chN l a))=true:=hc;simp only[go_sem,seval,Gv,f0,f1,f2];refine Ae (Uy _) ?_;cases h1:My (chN l a)
    ·rw[h1,Bool.false_or] at hc;simp only[go_sem,seval,Gv,f0,f1,f2];refine Ae (Ux _) ?_;simp only[go_sem,seval,hc];refine⟨a+1,⟨by omega,by omega⟩,?_⟩;rw[show ((a:Int)+1)=((a+1:Nat):Int) by omega,w64 (by unfold fit;omega)];exact Cr (by simp[Cb])
    ·simp only[go_sem,seval];refine⟨a+1,⟨by omega,by omega⟩,?_⟩;rw[show ((a:Int)+1)=((a+1:Nat):Int) by omega,w64 (by unfold fit;omega)];exact Cr (by simp[Cb])
   ·have hae:a=E:=by omega
    subst hae;have g0:(0:Int)<=(p:Int):=by omega
    have g1:(p:Int)<=(a:Int):=by omega
    have g2:(a:Int)<=(l.length:Int):=by omega
    have g3:(0:Int)<=(a:Int):=by omega
    have g4:p<=a:=by omega
    have g5:a<=l.length:=by omega
    have g6:decide (IntKind.i64.wrap ((a:Int)-p)<=20)=decide (w.length<20):=by rw[w64 (by unfold fit;omega)];exact decide_eq_decide.2 (by omega)
    have g7:a-p=1+w.length:=by omega
    by_cases Aq:a<l.length
    ·have hc:(My (chN l a) || Jh (chN l a))=false:=t3 Aq;rw[Bool.or_eq_false_iff] at hc;have f1:(a:Int)<(l.length:Int):=by omega
     simp only[go_sem,seval,Gv,g3,f1,Aq];refine Ae (Uy _) ?_;rw[hc.1];simp only[go_sem,seval,Gv,g3,f1,Aq];refine Ae (Ux _) ?_;rw[hc.2];simp only[go_sem,seval,g0,g1,g2,g3,g4,g5,g6,g7];rfl
    ·have f1:¬(a:Int)<(l.length:Int):=by omega
     simp only[go_sem,seval,f1,g0,g1,g2,g3,g4,g5,g6,g7];rfl
  ·exact Cr (by simp[Cb])
 cases c4:Jh (chN l p)
 ·have e:Ci p (l.getD p 0::l.drop (p+1))=(⟨0,[],0⟩,false):=by rw[Ci,hcc,if_neg c1,if_neg c2,c3,c4];rfl
  rw[e];simp only[go_sem,seval,Gv,e0,hp,d1,d2];refine Ae (Uy _) ?_;rw[c3];simp only[go_sem,seval,Gv,e0,hp,d1,d2];refine Ae (Ux _) ?_;rw[c4];simp only[go_sem,seval];rfl
 ·obtain⟨w,hw⟩:∃w,w=(l.drop (p+1)).takeWhile Jt:=⟨_,rfl⟩
  obtain⟨t1,t2,t3,t4,t5⟩:=Abz hp hw;have e:Ci p (l.getD p 0::l.drop (p+1))=(⟨4,l.getD p 0::w,p⟩,(Ez (l.getD p 0::w)).isSome && (match l.drop (p+1+w.length) with|[]=>true|d::_=>!My d.toNat)):=by rw[Ci,hcc,if_neg c1,if_neg c2,c3,c4,<-hw,t5];rfl
  rw[e,<-t4];have cg:=Acm ((l.drop p).take (1+w.length));generalize hE:p+1+w.length=E at t1 t2 t3 e |-;simp only[go_sem,seval,Gv,e0,hp,d1,d2];refine Ae (Uy _) ?_;rw[c3];simp only[go_sem,seval,Gv,e0,hp,d1,d2];refine Ae (Ux _) ?_;rw[c4];simp only[go_sem,seval,Yu];refine Qr (fun a:Nat=>⟨(.str (bs l)::.int .i64 p::.J::.J::.ref 0 0 0 0::.bool false::.J::.int .i64 a::Fb (Fb (Fa (jk8 (jk4 ([])))))),[⟨true,3,[[.int .i64 0,.str (bs []),.int .i64 0]],0,0,true⟩]⟩) (fun a=>E-a) (fun a=>p<a/\a<=E) (fun a ha=>?_) (p+1) ⟨by omega,by omega⟩ ?_
  ·by_cases hq:a<E
   ·have hc:Jh (chN l a)=true:=t2 a ha.1 hq;have f0:(0:Int)<=(a:Int):=by omega
    have f1:(a:Int)<(l.length:Int):=by omega
    have f2:a<l.length:=by omega
    simp only[go_sem,seval,Gv,f0,f1,f2];refine Ae (Ux _) ?_;simp only[go_sem,seval,hc];refine⟨a+1,⟨by omega,by omega⟩,?_⟩;rw[show ((a:Int)+1)=((a+1:Nat):Int) by omega,w64 (by unfold fit;omega)];exact Cr (by simp[Cb])
   ·have hae:a=E:=by omega
    subst hae;have g1:(p:Int)<=(a:Int):=by omega
    have g2:(a:Int)<=(l.length:Int):=by omega
    have g3:(0:Int)<=(a:Int):=by omega
    have g4:p<=a:=by omega
    have g7:a-p=1+w.length:=by omega
    by_cases Aq:a<l.length
    ·have hc:Jh (chN l a)=false:=t3 Aq;have f1:(a:Int)<(l.length:Int):=by omega
     have f2:((a:Int)==(l.length:Int))=false:=Ql (by omega);simp only[go_sem,seval,Gv,g3,f1,Aq];refine Ae (Ux _) ?_;rw[hc];rw[Lr Aq];have hcd:(l.getD a 0).toNat=chN l a:=rfl;simp only[hcd];simp only[go_sem,seval,e0,g1,g2,g3,g4,g7];refine Ae cg ?_;cases hb:(Ez ((l.drop p).take (1+w.length))).isSome
     ·simp only[go_sem,seval,e0,g1,g2,g3,g4,g7];rfl
     ·simp only[go_sem,seval,Gv,e0,g1,g2,g3,g4,g7,f2,f1,Aq];refine Ae (Uy _) ?_;simp only[go_sem,seval];rfl
    ·have f1:¬(a:Int)<(l.length:Int):=by omega
     have f2:((a:Int)==(l.length:Int))=true:=by rw[Akr];simp;omega
     rw[Xi Aq];simp only[go_sem,seval,f1,e0,g1,g2,g3,g4,g7];refine Ae cg ?_;cases hb:(Ez ((l.drop p).take (1+w.length))).isSome
     ·simp only[go_sem,seval,e0,g1,g2,g3,g4,g7];rfl
     ·simp only[go_sem,seval,Gv,e0,g1,g2,g3,g4,g7,f2,f1,Aq];rfl
  ·exact Cr (by simp[Cb])
def Oh{l:By}{q:Nat}(hq:q<l.length)(ho:(Ci q (l.drop q)).2=true) :
  1<=(Ci q (l.drop q)).1.w.length/\q+(Ci q (l.drop q)).1.w.length<=l.length/\(Ci q (l.drop q)).1.w=(l.drop q).take (Ci q (l.drop q)).1.w.length/\(Ci q (l.drop q)).1.p=q/\1<=(Ci q (l.drop q)).1.k/\(Ci q (l.drop q)).1.k<=4:=by
 have Fi:(l.drop q).take 1=[l.getD q 0]:=by rw[Lr hq];rfl
 have hcc:(l.getD q 0).toNat=chN l q:=rfl;have hch:∀n,n<256->chN l q=n->l.getD q 0=UInt8.ofNat n:=fun n hn h=>by unfold chN at h;rw[<-h];simp
 revert ho;rw[Lr hq,Ci,hcc];rw[Lr hq] at Fi;split
 ·rename_i h;intro _;refine⟨by simp,by show q+1<=_;omega,?_,rfl,by simp,by simp⟩;show [40]=_;rw[show (([40]:By)).length=1 from rfl,Fi,hch 40 (by decide) h];rfl
 split
 ·rename_i h;intro _;refine⟨by simp,by show q+1<=_;omega,?_,rfl,by simp,by simp⟩;show [41]=_;rw[show (([41]:By)).length=1 from rfl,Fi,hch 41 (by decide) h];rfl
 split
 ·intro _;obtain⟨t1,_,_,t4,_⟩:=Abz (P:=Ab6) hq rfl;refine⟨by simp,by simp only[q_jk];omega,?_,rfl,by simp,by simp⟩;show _::_=_;rw[Lr hq,Nat.add_comm 1 (List.length _)] at t4;rw[q_jk];exact t4.symm
 split
 ·intro _;obtain⟨t1,_,_,t4,_⟩:=Abz (P:=Jt) hq rfl;refine⟨by simp,by simp only[q_jk];omega,?_,rfl,by simp,by simp⟩;show _::_=_;rw[Lr hq,Nat.add_comm 1 (List.length _)] at t4;rw[q_jk];exact t4.symm
 ·intro h;cases h
inductive LxG(l:By):Nat->List Tok->Option Nat->Prop
 |nil:LxG l l.length [] none
 |bad {q:Nat} (hq:q<l.length) (h:(Ci q (l.drop q)).2=false):LxG l q [] (some q)
 |tok {q:Nat} {ts:List Tok} {e:Option Nat} (hq:q<l.length) (h:(Ci q (l.drop q)).2=true)
   (r:LxG l (q+(Ci q (l.drop q)).1.w.length+skF false (l.drop (q+(Ci q (l.drop q)).1.w.length))) ts e):LxG l q ((Ci q (l.drop q)).1::ts) e
def Aya(l:By):∀(f p:Nat),p<=l.length->l.length-p<f->LxG l (p+skF false (l.drop p)) (We f p (l.drop p)).1 (We f p (l.drop p)).2:=by
 intro f
 induction f with
 |zero=>intro p h1 h2;omega
 |succ f ih=>
  intro p h1 h2;have hk:=A2u (l.drop p) false;rw[q_kh] at hk;unfold We;rw[List.drop_drop]
  by_cases hq:p+skF false (l.drop p)<l.length
  ·have hd:=Lr hq;split
   ·rename_i h;rw[hd] at h;cases h
   ·rename_i hs;cases ho:(Ci (p+skF false (l.drop p)) (l.drop (p+skF false (l.drop p)))).2
    ·rw[if_neg (by decide)];exact .bad hq ho
    ·rw[if_pos rfl];obtain⟨w1,w2,_⟩:=Oh hq ho;rw[List.drop_drop];exact .tok hq ho (ih _ w2 (by omega))
  ·have hd:=Xi hq;rw[hd];have:p+skF false (l.drop p)=l.length:=by omega
   rw[this];exact .nil
def Mz(l:By):LxG l (skF false l) (Ce l).1 (Ce l).2:=by
 have:=Aya l (l.length+1) 0 (Nat.zero_le _) (by omega);simpa [Ce] using this
def Ah6(z:Nat)(l:GV):SV:=match l with
 |[]=>.nils
 |_=>.dsl z l
def Ae7(l:By):List Tok×Nat->St
 |([],q)=>⟨(.str (bs l)::.J::.nils::.int .i64 0::.int .i64 0::.nils::.int .i64 q::Fa (jk8 (jk4 (.J::[])))),[]⟩
 |(t::ts,q)=>⟨(.str (bs l)::.J::.nils::.int .i64 0::.int .i64 0::.osl 2 ts.length 0 (ts.length+1)::.int .i64 q::Fa (jk8 (jk4 (.J::[])))),[⟨true,3,[Hk t],0,0,true⟩,⟨false,3,[Hk t],0,0,true⟩,⟨false,3,(t::ts).map Hk,ts.length,ts.length,true⟩]⟩
def Ae8(l:By)(q:Nat):Ae7 l ([],q)=⟨(.str (bs l)::.J::.nils::.int .i64 0::.int .i64 0::.nils::.int .i64 q::Fa (jk8 (jk4 (.J::[])))),[]⟩:=rfl
def Zp(l:By)(t:Tok)(ts:List Tok)(q:Nat):Ae7 l (t::ts,q)=⟨(.str (bs l)::.J::.nils::.int .i64 0::.int .i64 0::.osl 2 ts.length 0 (ts.length+1)::.int .i64 q::Fa (jk8 (jk4 (.J::[])))),[⟨true,3,[Hk t],0,0,true⟩,⟨false,3,[Hk t],0,0,true⟩,⟨false,3,(t::ts).map Hk,ts.length,ts.length,true⟩]⟩:=rfl
def Ak4:List Tok×Option Nat->List SV
 |(ts,none)=>[Ah6 3 (ts.map Hk),.int .i64 0,.int .i64 0]
 |(_,some p)=>[.nils,.int .i64 2,.int .i64 p]
def LxG.le{l:By}{q:Nat}{ts:List Tok}{e:Option Nat}(h:LxG l q ts e):q<=l.length/\ts.length<=l.length-q/\∀p,e=some p->p<l.length/\q<=p:=by
 induction h with
 |nil=>exact⟨q_ja _,by simp,fun p h=>by cases h⟩
 |bad hq h=>exact⟨Nat.le_of_lt hq,by simp,fun p h=>by cases h;exact⟨hq,q_ja _⟩⟩
 |@tok q ts e hq h r ih=>
  obtain⟨w1,w2,_⟩:=Oh hq h;refine⟨Nat.le_of_lt hq,?_,fun p hp=>⟨(ih.2.2 p hp).1,?_⟩⟩
  ·have:=ih.2.1;rw[q_jk];omega
  ·have:=(ih.2.2 p hp).2;omega
def Aqb{l:By}(hl:l.length<1000000000000):Con 39 [.str (bs l)] (.tup (Ak4 (Ce l))):=by
 have hx:=Mz l;have hln:=hx.le;generalize Ce l=R at hx hln;obtain⟨R1,R2⟩:=R;simp only at hx hln;have hs0:=Ahu l hl (Nat.zero_le _);simp only[List.drop_zero,q_jg] at hs0;refine Bt mixed Tryz.func39 tr39 ?_;simp only[go_sem,seval];refine Ae hs0 ?_;simp only[go_sem,seval];refine Qr (Ae7 l) (fun a=>R1.length-a.1.length) (fun a=>∃rest,R1=a.1++rest/\LxG l a.2 rest R2) (fun a ha=>?_) ([],skF false l) ⟨R1,rfl,hx⟩ (Cr (by simp[Cb]));obtain⟨dn,q⟩:=a;obtain⟨rest,r1,r2⟩:=ha;simp only at r1 r2;cases r2 with
 |nil=>
  rw[q_k] at r1;subst r1;have f1:¬(l.length:Int)<(l.length:Int):=by omega
  cases R1 with
  |nil=>
   rw[Ae8];simp only[go_sem,seval,f1];rfl
  |cons t ts=>
   rw[Zp];simp only[go_sem,seval,f1];rw[q_js (by simp)];rfl
 |bad hq h=>
  have f1:(q:Int)<(l.length:Int):=by omega
  have co:=Ahl hl hq;rw[h] at co;cases dn with
  |nil=>
   rw[Ae8];simp only[go_sem,seval,f1];refine Ae co ?_;simp only[go_sem,seval];exact⟨rfl,rfl⟩
  |cons d dn=>
   rw[Zp];simp only[go_sem,seval,f1];refine Ae co ?_;simp only[go_sem,seval];exact⟨rfl,rfl⟩
 |@tok _ ts _ hq h r=>
  have f1:(q:Int)<(l.length:Int):=by omega
  have co:=Ahl hl hq;rw[h] at co;obtain⟨w1,w2,w3,w4,_,_⟩:=Oh hq h;have cs:=Ahu l hl w2;have hw:IntKind.i64.wrap ((q:Int)+((Ci q (l.drop q)).1.w.length:Int))=((q+(Ci q (l.drop q)).1.w.length:Nat):Int):=by rw[w64 (by unfold fit;omega)];omega
  generalize hT:Ci q (l.drop q)=T at *
  obtain⟨⟨k,w,p⟩,ok⟩:=T;simp only at w1 w2 w3 w4 h r cs hw co;subst w4;have kt:Hk ⟨k,w,p⟩=[.int .i64 k,.str (bs w),.int .i64 p]:=rfl;rw[kt] at co;have Bl:R1.length=dn.length+(ts.length+1):=by rw[r1];simp
  cases dn with
  |nil=>
   rw[Ae8]
   repeat' first
   |simp only[go_sem,seval,f1,hw]
   |refine Ae co ?_
   |refine Ae cs ?_
   refine⟨([⟨k,w,p⟩],p+w.length+skF false (l.drop (p+w.length))),⟨by simp only[q_jk,List.length_nil] at Bl |-;omega,ts,r1,r⟩,?_⟩;rw[Zp];simp only[q_h,q_i,kt];exact Cr (by simp[Cb])
  |cons d dn=>
   rw[Zp];simp only[go_sem,seval,f1];refine Ae co ?_;simp only[go_sem,seval,hw];simp only[q_jk] at Bl;refine⟨⟨by simp,by omega,by omega⟩,?_⟩;refine Ae cs ?_;simp only[go_sem,seval];refine⟨(d::(dn++[⟨k,w,p⟩]),p+w.length+skF false (l.drop (p+w.length))),⟨by simp only[q_jk,q_jr,List.length_nil];omega,ts,by simp[r1],r⟩,?_⟩;rw[Zp];simp only[q_h,q_kt,q_i,kt,q_jr,q_jk,List.length_nil,q_g,q_jg];exact Js 3 (by simp[Cb]) (by simp) (by simp[below]) (by simp)
def af125:AF:=⟨101,[(.cell 8 true 5),(.t 9),(.t 10)],(Ad [oP 8 Fe,oP 9 (.mv (cI 0)),oP 10 (.mv (cI 0))] (.seq (Ad [Ac 16 2,oP 17 (Bi .lss 16 0),Ac 18 17,oG 19 18 false 0 (mT 2),oG 20 18 false 0 (Bi .gtr 19 1000),oP 21 (Cx 18 20),Ac 22 21,oG 23 22 false 0 (mT 3),oG 24 22 false 0 (Bi .lss 23 0),oP 25 (Cx 22 24),Ac 26 25,oG 27 26 false 0 (mT 3),oG 28 26 false 0 (Bi .gtr 27 1000),oP 29 (Cx 26 28)] (Ak 29 (Ad [oP 30 (Iq []),oN (Bn 5 8 30),oP 9 (.mv (cI 1)),oP 10 (.mv (cI 0))] .ret) .skip)) (Ad [Ac 31 0,oP 32 (.len true (.t 31)),Ac 33 1,Ac 34 2,Ac 35 3,oP 36 (.build [.nils,(iS 0),(iS 0),.nils,(iS 0),(iS 0),(.bool false),(iS 0)] [(2,(1,(.t 32))),(3,(1,(.t 33))),(4,(1,(.t 34))),(5,(1,(.t 35)))]),oP 37 (.boxg (.t 36)),Ac 11 37] (Ad [Ac 39 0,oP 40 (.call 39 [(.t 39)]),Ac 38 40,oP 41 (.ext (.t 38) 0),oP 42 (.ext (.t 38) 1),oP 43 (.ext (.t 38) 2),Ac 12 41,Ac 13 42,Ac 14 43] (.seq (Ad [Ac 44 13,oP 45 (Bi .neq 44 0)] (Ak 45 (Ad [Ac 46 11,Ac 47 14,oP 48 (At 46),oP 49 (Af 2 48),oN (Bn 1 49 47)] (Bo [Ac 51 0,Ac 52 14,oP 53 (.slc 0 (.t 51) none (some (.t 52))),oP 54 (.call 39 [(.t 53)]),Ac 50 54,oP 55 (.ext (.t 50) 0),oP 56 (.ext (.t 50) 1),oP 57 (.ext (.t 50) 2),Ac 12 55])) .skip)) (Ad [Ac 58 11,Ac 59 12,oP 60 (At 58),oP 61 (Af 0 60),oN (Bn 1 61 59)] (Ad [Ac 62 11,oP 63 (.hcall 155 [(.t 62),(cI 0)]),oP 15 Fe,oN (Bn 5 15 63)] (.seq (Cs [Ac 64 11,oI 65 1 (At 64),oI 66 2 (Af 6 65),oI 67 3 (Ag 66),oI 68 4 (.un .not (.t 67)),oI 69 5 (mT 68),oG 70 69 true 6 (mT 11),oG 71 69 true 7 (At 70),oG 72 69 true 8 (Af 1 71),oG 73 69 true 9 (Ag 72),oG 74 69 true 10 (mT 11),oG 75 69 true 11 (At 74),oG 76 69 true 12 (Af 0 75),oG 77 69 true 13 (Ag 76),oG 78 69 true 14 (.len false (.t 77)),oG 79 69 true 15 (Bu .lss 73 78),oG 80 69 true 16 (mT 79),oG 81 80 false 17 (mT 13),oG 82 80 false 18 (Bi .neq 81 0),oG 83 69 true 19 (Cx 80 82),oI 84 20 (Bv 69 83)] (Ak 84 (Bo [Ac 85 11,Ac 86 11,oP 87 (At 86),oP 88 (Af 1 87),oP 89 (Ag 88),oP 90 (.hcall 156 [(.t 85),(.t 89)])]) .skip)) (.seq (Ad [Ac 91 11,oP 92 (At 91),oP 93 (Af 6 92),oP 94 (Ag 93)] (Ak 94 (Cs [oP 95 (Iq []),oI 96 1 (mT 11),oI 97 2 (At 96),oI 98 3 (Af 7 97),⟨(some 99),(Ag 98),none,4,true,[]⟩,⟨none,(Bn 5 8 95),none,5,false,[4]⟩,oI 9 6 (.mv (cI 2)),oI 10 7 (mT 99)] .ret) .skip)) (Ad [oP 100 (Ao 5 15),oN (Bn 5 8 100),oP 9 (.mv (cI 0)),oP 10 (.mv (cI 0))] .ret))))))))))⟩
def tr125:trF Tryz.prog Tryz.f125=some af125:=by kernel_rfl
attribute [go_sem] af125
def af155:AF:=⟨94,[(.cell 4 true 5)],(Ad [oP 4 Fe] (.seq (.blk 0 (Ad [Ac 9 0,oP 10 (At 9),oP 11 (Af 6 10),oP 12 (Ag 11),Ac 8 12] (Ak 8 (Ad [oP 13 (Iq []),oN (Bn 5 4 13)] .ret) (Cs [Ac 15 0,oI 16 1 (At 15),oI 17 2 (Af 1 16),oI 18 3 (Ag 17),oI 19 4 (mT 0),oI 20 5 (At 19),oI 21 6 (Af 0 20),oI 22 7 (Ag 21),oI 23 8 (.len false (.t 22)),oI 24 9 (Bu .geq 18 23),oI 14 10 (mT 24)] (Ak 14 (Ad [Ac 25 0,Ac 26 0,oP 27 (At 26),oP 28 (Af 1 27),oP 29 (Ag 28),oP 30 (.hcall 156 [(.t 25),(.t 29)])] (Ad [oP 31 (Iq []),oN (Bn 5 4 31)] .ret)) (Cs [Ac 33 0,oI 34 1 (At 33),oI 35 2 (Af 0 34),oI 36 3 (Ag 35),oI 37 4 (mT 0),oI 38 5 (At 37),oI 39 6 (Af 1 38),oI 40 7 (Ag 39),oI 41 8 (.iad 3 (.t 36) (.t 40)),oI 42 9 (Af 0 41),oI 43 10 (Ag 42),oI 44 11 (Al 43 3),oI 32 12 (mT 44)] (Ak 32 (Ad [Ac 45 0,oP 46 (.hcall 187 [(.t 45)]),oN (Bn 5 4 46)] .ret) .skip))))))) (Ad [Ac 47 0,oP 48 (.hcall 188 [(.t 47),(cI 1)])] (Ad [Ac 49 0,oP 50 (At 49),oP 51 (Af 1 50),oP 52 (Ag 51),Ac 5 52] (Ad [Ac 54 0,oP 55 (.hcall 188 [(.t 54),(cI 3)]),oP 56 (.call 189 [(.t 55)]),Ac 53 56,oP 57 (.ext (.t 53) 0),oP 58 (.ext (.t 53) 1),Ac 6 57,Ac 7 58] (.seq (Ad [Ac 59 0,oP 60 (At 59),oP 61 (Af 6 60),oP 62 (Ag 61)] (Ak 62 (Ad [oP 63 (Iq []),oN (Bn 5 4 63)] .ret) .skip)) (.seq (Ad [Ac 64 6,oP 65 (Al 64 0),Ac 66 65,oG 67 66 false 0 (mT 1),oG 68 66 false 0 (Al 67 1),oG 69 66 false 0 (mT 68),oG 70 69 true 0 (mT 6),oG 71 69 true 0 (Bi .gtr 70 12),oG 72 66 false 0 (Bv 69 71),oP 73 (Cx 66 72),Ac 74 73,oG 75 74 false 0 (mT 1),oG 76 74 false 0 (Al 75 2),oG 77 74 false 0 (mT 76),oG 78 77 true 0 (mT 6),oG 79 77 true 0 (Bi .gtr 78 2),oG 80 74 false 0 (Bv 77 79),oG 81 74 false 0 (mT 80),oG 82 81 true 0 (mT 6),oG 83 81 true 0 (Bi .leq 82 12),oG 84 74 false 0 (Bv 81 83),oP 85 (Cx 74 84)] (Ak 85 (Ad [Ac 86 0,Ac 87 5,oP 88 (.hcall 156 [(.t 86),(.t 87)])] (Ad [oP 89 (Iq []),oN (Bn 5 4 89)] .ret)) .skip)) (Ad [Ac 90 0,Ac 91 6,Ac 92 7,oP 93 (.hcall 190 [(.t 90),(.t 91),(.t 92)]),oN (Bn 5 4 93)] .ret))))))))⟩
def tr155:trF Tryz.prog Tryz.f155=some af155:=by kernel_rfl
attribute [go_sem] af155
def af156:AF:=⟨36,[],(.seq (Ad [Ac 4 0,oP 5 (At 4),oP 6 (Af 6 5),oP 7 (Ag 6)] (Ak 7 .ret .skip)) (Ad [Ac 8 0,Ac 9 0,Ac 10 0,oP 11 (At 10),oP 12 (Af 2 11),oP 13 (Ag 12),oP 14 (At 8),oP 15 (Af 6 14),oN (.store 1 (.t 15) (cB true)),oP 16 (At 9),oP 17 (Af 7 16),oN (Bn 1 17 13)] (Ad [Ac 18 1,Ac 19 0,oP 20 (At 19),oP 21 (Af 0 20),oP 22 (Ag 21),oP 23 (.len false (.t 22)),oP 24 (Bu .lss 18 23)] (Ak 24 (Bo [Ac 25 0,Ac 26 0,oP 27 (At 26),oP 28 (Af 0 27),oP 29 (Ag 28),Ac 30 1,oP 31 (.iad 3 (.t 29) (.t 30)),oP 32 (Af 2 31),oP 33 (Ag 32),oP 34 (At 25),oP 35 (Af 7 34),oN (Bn 1 35 33)]) .skip))))⟩
def tr156:trF Tryz.prog Tryz.f156=some af156:=by kernel_rfl
attribute [go_sem] af156
def af187:AF:=⟨56,[(.cell 2 true 5)],(Ad [oP 2 Fe] (.seq (Ad [Ac 4 0,oP 5 (At 4),oP 6 (Af 3 5),oP 7 (Ag 6),oP 8 (.len false (.t 7)),oP 9 (Bi .sub 8 1),Ac 3 9] (.blk 0 (.loop (.seq (Ad [Ac 10 3,oP 11 (Bi .geq 10 0)] (Em 11 0)) (.seq (.blk 1 (Cs [Ac 14 0,oI 15 1 (At 14),oI 16 2 (Af 3 15),oI 17 3 (Ag 16),oI 18 4 (mT 3),oI 19 5 (.iad 1 (.t 17) (.t 18)),oI 20 6 (Ag 19),oI 21 7 (mT 0),oI 22 8 (At 21),oI 23 9 (Af 0 22),oI 24 10 (Ag 23),oI 25 11 (mT 0),oI 26 12 (At 25),oI 27 13 (Af 1 26),oI 28 14 (Ag 27),oI 29 15 (.iad 3 (.t 24) (.t 28)),oI 30 16 (Af 1 29),oI 31 17 (Ag 30),oI 32 18 (.bin 4 .eql (.t 20) (.t 31))] (Ak 32 (Ad [Ac 33 0,oP 34 (At 33),oP 35 (Af 1 34),oP 36 (Ag 35),oP 37 (Bi .add 36 1),oP 38 (At 33),oP 39 (Af 1 38),oN (Bn 1 39 37)] (Ad [Ac 40 0,oP 41 (At 40),oP 42 (Af 3 41),oP 43 (Ag 42),oP 44 (.len false (.t 43)),oP 45 (Bi .sub 44 1),Ac 46 3,oP 47 (Bu .sub 45 46),oP 48 (Iq [(0,(1,(cI 2))),(1,(1,(.t 47)))]),oN (Bn 5 2 48)] .ret)) .skip))) (Bo [Ac 12 3,oP 13 (Bi .sub 12 1),Ac 3 13])))))) (Ad [Ac 49 0,Ac 50 0,oP 51 (At 50),oP 52 (Af 1 51),oP 53 (Ag 52),oP 54 (.hcall 156 [(.t 49),(.t 53)])] (Ad [oP 55 (Iq []),oN (Bn 5 2 55)] .ret))))⟩
def tr187:trF Tryz.prog Tryz.f187=some af187:=by kernel_rfl
attribute [go_sem] af187
def af188:AF:=⟨61,[(.t 4)],(Ad [oP 4 (.mv (Ap []))] (.seq (Cs [Ac 5 0,oI 6 1 (At 5),oI 7 2 (Af 6 6),oI 8 3 (Ag 7),oI 9 4 (mT 8),oG 10 9 false 5 (mT 0),oG 11 9 false 6 (At 10),oG 12 9 false 7 (Af 1 11),oG 13 9 false 8 (Ag 12),oG 14 9 false 9 (mT 0),oG 15 9 false 10 (At 14),oG 16 9 false 11 (Af 0 15),oG 17 9 false 12 (Ag 16),oG 18 9 false 13 (.len false (.t 17)),oG 19 9 false 14 (Bu .geq 13 18),oI 20 15 (Cx 9 19),oI 21 16 (mT 20),oG 22 21 false 17 (mT 0),oG 23 21 false 18 (At 22),oG 24 21 false 19 (Af 0 23),oG 25 21 false 20 (Ag 24),oG 26 21 false 21 (mT 0),oG 27 21 false 22 (At 26),oG 28 21 false 23 (Af 1 27),oG 29 21 false 24 (Ag 28),oG 30 21 false 25 (.iad 3 (.t 25) (.t 29)),oG 31 21 false 26 (Af 0 30),oG 32 21 false 27 (Ag 31),oG 33 21 false 28 (mT 1),oG 34 21 false 29 (Bu .neq 32 33),oI 35 30 (Cx 21 34)] (Ak 35 (Ad [Ac 36 0,Ac 37 0,oP 38 (At 37),oP 39 (Af 1 38),oP 40 (Ag 39),oP 41 (.hcall 156 [(.t 36),(.t 40)])] (Ad [oP 4 (.mv (Ap []))] .ret)) .skip)) (Ad [Ac 42 0,oP 43 (At 42),oP 44 (Af 1 43),oP 45 (Ag 44),oP 46 (Bi .add 45 1),oP 47 (At 42),oP 48 (Af 1 47),oN (Bn 1 48 46)] (Cs [Ac 49 0,oI 50 1 (At 49),oI 51 2 (Af 0 50),oI 52 3 (Ag 51),oI 53 4 (mT 0),oI 54 5 (At 53),oI 55 6 (Af 1 54),oI 56 7 (Ag 55),oI 57 8 (Bi .sub 56 1),oI 58 9 (.iad 3 (.t 52) (.t 57)),oI 59 10 (Af 1 58),oI 60 11 (Ag 59),oI 4 12 (mT 60)] .ret))))⟩
def tr188:trF Tryz.prog Tryz.f188=some af188:=by kernel_rfl
attribute [go_sem] af188
def af189:AF:=⟨31,[(.t 2),(.t 3)],(Ad [oP 2 (.mv (cI 0)),oP 3 (.mv (Ap []))] (.seq (Ad [Ac 4 0] (.blk 0 (Ad [oP 6 (.bin 4 .eql (.t 4) (Ap [115,111,114,116])),Ac 5 6] (Ak 5 (Ad [oP 2 (.mv (cI 1)),oP 3 (.mv (Ap [76]))] .ret) (Ad [oP 8 (.bin 4 .eql (.t 4) (Ap [112,105])),Ac 7 8] (Ak 7 (Ad [oP 2 (.mv (cI 3)),oP 3 (.mv (Ap [76,77,120,116,98]))] .ret) (Ad [oP 10 (.bin 4 .eql (.t 4) (Ap [108,97,109])),Ac 9 10] (Ak 9 (Ad [oP 2 (.mv (cI 4)),oP 3 (.mv (Ap [76,77,120,116,98,98]))] .ret) (Ad [oP 12 (.bin 4 .eql (.t 4) (Ap [97,112,112])),Ac 11 12] (Ak 11 (Ad [oP 2 (.mv (cI 5)),oP 3 (.mv (Ap [76,77,120,116,98,116,116]))] .ret) (Ad [oP 14 (.bin 4 .eql (.t 4) (Ap [115,105,103])),Ac 13 14] (Ak 13 (Ad [oP 2 (.mv (cI 6)),oP 3 (.mv (Ap [76,77,120,116,98]))] .ret) (Ad [oP 16 (.bin 4 .eql (.t 4) (Ap [112,97,105,114])),Ac 15 16] (Ak 15 (Ad [oP 2 (.mv (cI 7)),oP 3 (.mv (Ap [76,77,120,116,98,116,116]))] .ret) (Ad [oP 18 (.bin 4 .eql (.t 4) (Ap [102,115,116])),Ac 17 18] (Ak 17 (Ad [oP 2 (.mv (cI 8)),oP 3 (.mv (Ap [76,77,120,116,98,116]))] .ret) (Ad [oP 20 (.bin 4 .eql (.t 4) (Ap [115,110,100])),Ac 19 20] (Ak 19 (Ad [oP 2 (.mv (cI 9)),oP 3 (.mv (Ap [76,77,120,116,98,116]))] .ret) (Ad [oP 22 (.bin 4 .eql (.t 4) (Ap [101,113])),Ac 21 22] (Ak 21 (Ad [oP 2 (.mv (cI 10)),oP 3 (.mv (Ap [76,116,116,116]))] .ret) (Ad [oP 24 (.bin 4 .eql (.t 4) (Ap [114,101,102,108])),Ac 23 24] (Ak 23 (Ad [oP 2 (.mv (cI 11)),oP 3 (.mv (Ap [76,116,116]))] .ret) (Ad [oP 26 (.bin 4 .eql (.t 4) (Ap [116,114])),Ac 25 26] (Ak 25 (Ad [oP 2 (.mv (cI 12)),oP 3 (.mv (Ap [76,116,116,112,116]))] .ret) .skip)))))))))))))))))))))))) (Ad [Ac 27 0,oP 28 (.call 212 [(.t 27)]),oP 29 (.ext (.t 28) 0),oP 30 (.ext (.t 28) 1),Ac 2 29,Ac 3 30] .ret)))⟩
def tr189:trF Tryz.prog Tryz.f189=some af189:=by kernel_rfl
attribute [go_sem] af189
def af212:AF:=⟨27,[(.t 2),(.t 3)],(Ad [oP 2 (.mv (cI 0)),oP 3 (.mv (Ap []))] (.seq (Ad [Ac 4 0] (.blk 0 (Ad [oP 6 (.bin 4 .eql (.t 4) (Ap [80,105])),Ac 5 6] (Ak 5 (Ad [oP 2 (.mv (cI 13)),oP 3 (.mv (Ap [120,116,98]))] .ret) (Ad [oP 8 (.bin 4 .eql (.t 4) (Ap [76,97,109])),Ac 7 8] (Ak 7 (Ad [oP 2 (.mv (cI 14)),oP 3 (.mv (Ap [120,116,98]))] .ret) (Ad [oP 10 (.bin 4 .eql (.t 4) (Ap [65,112,112])),Ac 9 10] (Ak 9 (Ad [oP 2 (.mv (cI 15)),oP 3 (.mv (Ap [116,116]))] .ret) (Ad [oP 12 (.bin 4 .eql (.t 4) (Ap [83,105,103])),Ac 11 12] (Ak 11 (Ad [oP 2 (.mv (cI 16)),oP 3 (.mv (Ap [120,116,98]))] .ret) (Ad [oP 14 (.bin 4 .eql (.t 4) (Ap [80,97,105,114])),Ac 13 14] (Ak 13 (Ad [oP 2 (.mv (cI 17)),oP 3 (.mv (Ap [120,116,98,116,116]))] .ret) (Ad [oP 16 (.bin 4 .eql (.t 4) (Ap [70,115,116])),Ac 15 16] (Ak 15 (Ad [oP 2 (.mv (cI 18)),oP 3 (.mv (Ap [116]))] .ret) (Ad [oP 18 (.bin 4 .eql (.t 4) (Ap [83,110,100])),Ac 17 18] (Ak 17 (Ad [oP 2 (.mv (cI 19)),oP 3 (.mv (Ap [116]))] .ret) (Ad [oP 20 (.bin 4 .eql (.t 4) (Ap [69,113])),Ac 19 20] (Ak 19 (Ad [oP 2 (.mv (cI 20)),oP 3 (.mv (Ap [116,116,116]))] .ret) (Ad [oP 22 (.bin 4 .eql (.t 4) (Ap [82,101,102,108])),Ac 21 22] (Ak 21 (Ad [oP 2 (.mv (cI 21)),oP 3 (.mv (Ap [116,116]))] .ret) (Ad [oP 24 (.bin 4 .eql (.t 4) (Ap [74])),Ac 23 24] (Ak 23 (Ad [oP 2 (.mv (cI 22)),oP 3 (.mv (Ap [116,116,121,101,80,116,116,116]))] .ret) (Ad [oP 26 (.bin 4 .eql (.t 4) (Ap [117,115,101])),Ac 25 26] (Ak 25 (Ad [oP 2 (.mv (cI 23)),oP 3 (.mv (Ap [83,76,77]))] .ret) .skip)))))))))))))))))))))))) (Ad [oP 2 (.mv (cI 0)),oP 3 (.mv (Ap []))] .ret)))⟩
def tr212:trF Tryz.prog Tryz.f212=some af212:=by kernel_rfl
attribute [go_sem] af212
def af190:AF:=⟨122,[(.cell 6 true 5)],(Ad [oP 6 Fe] (Ad [Ac 12 1,oP 13 (Iq [(0,(1,(.t 12)))]),Ac 14 0,oP 15 (At 14),oP 16 (Af 3 15),oP 17 (Ag 16),oP 7 Fe,oN (Bn 5 7 13),oP 8 (.mv (cI 2)),Ac 9 17] (Ad [oP 10 (.mv (.c .nils))] (.seq (Ad [Ac 18 1,oP 19 (Bi .leq 18 12)] (Ak 19 (Bo [oP 8 (.mv (cI 1))]) .skip)) (.seq (Ad [oP 11 (.mv (cI 0))] (.blk 0 (.loop (.seq (Ad [Ac 20 11,Ac 21 2,oP 22 (.len true (.t 21)),oP 23 (Bu .lss 20 22),Ac 24 23,oG 25 24 true 0 (mT 0),oG 26 24 true 0 (At 25),oG 27 24 true 0 (Af 6 26),oG 28 24 true 0 (Ag 27),oG 29 24 true 0 (.un .not (.t 28)),oP 30 (Bv 24 29)] (Em 30 0)) (.seq (.blk 1 (Ad [Ac 33 2,Ac 34 11,oP 35 (.six (.t 33) (.t 34))] (.blk 2 (Ad [oP 58 (.bin 0 .eql (.t 35) (.c (.int .u8 76))),Ac 57 58] (Ak 57 (Bo [Ac 59 0,oP 60 (.hcall 213 [(.t 59)]),oP 61 (Af 1 7),oN (Bn 1 61 60)]) (Ad [oP 63 (.bin 0 .eql (.t 35) (.c (.int .u8 77))),Ac 62 63] (Ak 62 (Ad [Ac 64 0,oP 65 (.hcall 213 [(.t 64)]),oP 66 (Af 2 7),oN (Bn 1 66 65)] (Ad [Ac 67 1,oP 68 (Al 67 23)] (Ak 68 (Bo [Ac 69 0,oP 70 (.hcall 214 [(.t 69),(.t 7)])]) .skip))) (Ad [oP 72 (.bin 0 .eql (.t 35) (.c (.int .u8 83))),Ac 71 72] (Ak 71 (Ad [Ac 73 0,oP 74 (.hcall 188 [(.t 73),(cI 3)]),oP 75 (.call 215 [(.t 74)]),oP 76 (Af 3 7),oN (Bn 1 76 75)] (Ad [oP 77 (Af 3 7),oP 78 (Ag 77),oP 79 (Al 78 0)] (Ak 79 (Bo [Ac 80 0,Ac 81 0,oP 82 (At 81),oP 83 (Af 1 82),oP 84 (Ag 83),oP 85 (Bi .sub 84 1),oP 86 (.hcall 156 [(.t 80),(.t 85)])]) .skip))) (.seq (Ad [oP 88 (.bin 0 .eql (.t 35) (.c (.int .u8 120))),Ac 87 88] (Ak 87 .skip (Ad [oP 89 (.bin 0 .eql (.t 35) (.c (.int .u8 121))),Ac 87 89] (Ak 87 .skip (Bo [oP 90 (.bin 0 .eql (.t 35) (.c (.int .u8 101))),Ac 87 90]))))) (Ak 87 (Bo [Ac 91 10,Ac 92 0,oP 93 (.hcall 188 [(.t 92),(cI 3)]),oP 94 (.bslice 1 [(.t 93)]),oP 95 (.app 1 16 (.t 91) (.t 94)),Ac 10 95]) (Ad [oP 97 (.bin 0 .eql (.t 35) (.c (.int .u8 116))),Ac 96 97] (Ak 96 (.reg [oP 98 (Af 4 7),⟨(some 99),(Ag 98),none,1,true,[]⟩,oI 100 2 (mT 0),oI 101 3 (mT 8),⟨(some 102),(.hcall 155 [(.t 100),(.t 101)]),none,4,true,[1]⟩,oI 103 5 (.len false (.t 99)),⟨(some 104),(.bslice 5 [(.c (.agg true [(iS 0),(iS 0),(iS 0),(iS 0),.nils]))]),none,6,false,[1,4]⟩,oI 105 7 (.app 5 56 (.t 99) (.t 104)),⟨(some 106),(.iad 5 (.t 105) (.t 103)),none,8,true,[]⟩,⟨none,(Bn 5 106 102),none,9,true,[]⟩,oI 107 10 (Af 4 7),⟨none,(Bn 1 107 105),none,11,false,[8,9]⟩] true) (Ad [oP 109 (.bin 0 .eql (.t 35) (.c (.int .u8 112))),Ac 108 109] (Ak 108 (.reg [oP 110 (Af 4 7),⟨(some 111),(Ag 110),none,1,true,[]⟩,oI 112 2 (mT 0),⟨(some 113),(.hcall 155 [(.t 112),(cI 2)]),none,3,true,[1]⟩,oI 114 4 (.len false (.t 111)),⟨(some 115),(.bslice 5 [(.c (.agg true [(iS 0),(iS 0),(iS 0),(iS 0),.nils]))]),none,5,false,[1,3]⟩,oI 116 6 (.app 5 56 (.t 111) (.t 115)),⟨(some 117),(.iad 5 (.t 116) (.t 114)),none,7,true,[]⟩,⟨none,(Bn 5 117 113),none,8,true,[]⟩,oI 118 9 (Af 4 7),⟨none,(Bn 1 118 116),none,10,false,[7,8]⟩] true) (Ad [Ac 36 0,Ac 37 9,oP 38 (.app 1 16 (.c .nils) (.t 37)),Ac 39 10,oP 40 (.app 1 16 (.t 38) (.t 39)),oP 41 (At 36),oP 42 (Af 3 41),oN (Bn 1 42 40)] (Cs [oP 43 (Af 4 7),⟨(some 44),(Ag 43),none,1,true,[]⟩,oI 45 2 (mT 0),oI 46 3 (mT 8),⟨(some 47),(.hcall 155 [(.t 45),(.t 46)]),none,4,true,[1]⟩,oI 48 5 (.len false (.t 44)),⟨(some 49),(.bslice 5 [(.c (.agg true [(iS 0),(iS 0),(iS 0),(iS 0),.nils]))]),none,6,false,[1,4]⟩,oI 50 7 (.app 5 56 (.t 44) (.t 49)),⟨(some 51),(.iad 5 (.t 50) (.t 48)),none,8,true,[]⟩,⟨none,(Bn 5 51 47),none,9,true,[]⟩,oI 52 10 (Af 4 7),⟨none,(Bn 1 52 50),none,11,false,[8,9]⟩] (Bo [Ac 53 0,Ac 54 9,oP 55 (At 53),oP 56 (Af 3 55),oN (Bn 1 56 54)])))))))))))))))))) (Bo [Ac 31 11,oP 32 (Bi .add 31 1),Ac 11 32])))))) (Ad [Ac 119 0,oP 120 (.hcall 188 [(.t 119),(cI 2)])] (Ad [oP 121 (Ao 5 7),oN (Bn 5 6 121)] .ret)))))))⟩
def tr190:trF Tryz.prog Tryz.f190=some af190:=by kernel_rfl
attribute [go_sem] af190
def af213:AF:=⟨131,[(.t 2)],(Ad [oP 2 (.mv (cI 0))] (Ad [Ac 6 0,oP 7 (At 6),oP 8 (Af 1 7),oP 9 (Ag 8),Ac 3 9] (.seq (Cs [Ac 10 0,oI 11 1 (At 10),oI 12 2 (Af 6 11),oI 13 3 (Ag 12),oI 14 4 (mT 13),oG 15 14 false 5 (mT 0),oG 16 14 false 6 (At 15),oG 17 14 false 7 (Af 1 16),oG 18 14 false 8 (Ag 17),oG 19 14 false 9 (mT 0),oG 20 14 false 10 (At 19),oG 21 14 false 11 (Af 0 20),oG 22 14 false 12 (Ag 21),oG 23 14 false 13 (.len false (.t 22)),oG 24 14 false 14 (Bu .geq 18 23),oI 25 15 (Cx 14 24)] (Ak 25 (Ad [Ac 26 0,Ac 27 0,oP 28 (At 27),oP 29 (Af 1 28),oP 30 (Ag 29),oP 31 (.hcall 156 [(.t 26),(.t 30)])] (Ad [oP 2 (.mv (cI 0))] .ret)) .skip)) (Ad [oP 4 (.mv (cI 0))] (.seq (Cs [Ac 32 0,oI 33 1 (At 32),oI 34 2 (Af 0 33),⟨(some 35),(Ag 34),none,3,true,[]⟩,oI 36 4 (mT 0),oI 37 5 (At 36),oI 38 6 (Af 1 37),⟨(some 39),(Ag 38),none,7,true,[]⟩,⟨(some 40),(.iad 3 (.t 35) (.t 39)),none,8,true,[]⟩,⟨(some 41),(Ao 3 40),none,9,true,[]⟩,⟨(some 5),(.new [(iS 0),(.str (bs [])),(iS 0)]),none,10,false,[3,7,8,9]⟩,oJ 11 (Bn 3 5 41)] (.blk 0 (Ad [oP 49 (Af 0 5),oP 50 (Ag 49),oP 51 (Al 50 4),Ac 48 51] (Ak 48 (Ad [oP 53 (Af 1 5),oP 54 (Ag 53),oP 55 (.call 122 [(.t 54)]),Ac 52 55,oP 56 (.ext (.t 52) 0),oP 57 (.ext (.t 52) 1),Ac 4 56] (Bo [Ac 58 0,oP 59 (At 58),oP 60 (Af 1 59),oP 61 (Ag 60),oP 62 (Bi .add 61 1),oP 63 (At 58),oP 64 (Af 1 63),oN (Bn 1 64 62)])) (Ad [oP 66 (Af 0 5),oP 67 (Ag 66),oP 68 (Al 67 3),Ac 69 68,oG 70 69 true 0 (Af 1 5),oG 71 69 true 0 (Ag 70),oG 72 69 true 0 (.bin 4 .eql (.t 71) (Ap [105])),oP 73 (Bv 69 72),Ac 65 73] (Ak 65 (Ad [Ac 74 0,oP 75 (At 74),oP 76 (Af 4 75),oP 77 (Ag 76),Ac 4 77] (Bo [Ac 78 0,oP 79 (At 78),oP 80 (Af 1 79),oP 81 (Ag 80),oP 82 (Bi .add 81 1),oP 83 (At 78),oP 84 (Af 1 83),oN (Bn 1 84 82)])) (Ad [oP 86 (Af 0 5),oP 87 (Ag 86),oP 88 (Al 87 3),Ac 89 88,oG 90 89 true 0 (Af 1 5),oG 91 89 true 0 (Ag 90),oG 92 89 true 0 (.bin 4 .eql (.t 91) (Ap [106])),oP 93 (Bv 89 92),Ac 85 93] (Ak 85 (Ad [Ac 94 0,oP 95 (At 94),oP 96 (Af 5 95),oP 97 (Ag 96),Ac 4 97] (Bo [Ac 98 0,oP 99 (At 98),oP 100 (Af 1 99),oP 101 (Ag 100),oP 102 (Bi .add 101 1),oP 103 (At 98),oP 104 (Af 1 103),oN (Bn 1 104 102)])) (Ad [oP 106 (Af 0 5),oP 107 (Ag 106),oP 108 (Al 107 1),Ac 105 108] (Ak 105 (Ad [Ac 109 0,oP 110 (At 109),oP 111 (Af 1 110),oP 112 (Ag 111),oP 113 (Bi .add 112 1),oP 114 (At 109),oP 115 (Af 1 114),oN (Bn 1 115 113)] (Bo [Ac 116 0,oP 117 (.hcall 228 [(.t 116)]),Ac 4 117])) (Bo [Ac 42 0,Ac 43 0,oP 44 (At 43),oP 45 (Af 1 44),oP 46 (Ag 45),oP 47 (.hcall 156 [(.t 42),(.t 46)])]))))))))))) (.seq (Ad [Ac 118 0,oP 119 (At 118),oP 120 (Af 6 119),oP 121 (Ag 120),oP 122 (.un .not (.t 121)),Ac 123 122,oG 124 123 true 0 (mT 4),oG 125 123 true 0 (Bi .gtr 124 1000),oP 126 (Bv 123 125)] (Ak 126 (Bo [Ac 127 0,Ac 128 3,oP 129 (.hcall 156 [(.t 127),(.t 128)])]) .skip)) (Ad [Ac 130 4,Ac 2 130] .ret)))))))⟩
def tr213:trF Tryz.prog Tryz.f213=some af213:=by kernel_rfl
attribute [go_sem] af213
def af214:AF:=⟨24,[],(Ad [Ac 4 1,oP 5 (At 4),oP 6 (Af 3 5),oP 7 (Ag 6),oP 8 (.call 90 [(cI 23),(.t 7)]),oP 9 (.mv (cI 0))] (.blk 0 (.loop (Ad [oP 10 (Bu .lss 9 8)] (.seq (Em 10 0) (.seq (.blk 1 (.reg [Ac 11 1,oI 12 1 (At 11),oI 13 2 (Af 4 12),⟨(some 14),(Ag 13),none,3,true,[]⟩,oI 15 4 (mT 0),⟨(some 16),(.hcall 155 [(.t 15),(cI 2)]),none,5,true,[3]⟩,oI 17 6 (.len false (.t 14)),⟨(some 18),(.bslice 5 [(.c (.agg true [(iS 0),(iS 0),(iS 0),(iS 0),.nils]))]),none,7,false,[3,5]⟩,oI 19 8 (.app 5 56 (.t 14) (.t 18)),⟨(some 20),(.iad 5 (.t 19) (.t 17)),none,9,true,[]⟩,⟨none,(Bn 5 20 16),none,10,true,[]⟩,oI 21 11 (At 11),oI 22 12 (Af 4 21),⟨none,(Bn 1 22 19),none,13,false,[9,10]⟩] true)) (Bo [oP 23 (Bi .add 9 1),Ac 9 23])))))))⟩
def tr214:trF Tryz.prog Tryz.f214=some af214:=by kernel_rfl
attribute [go_sem] af214
def af228:AF:=⟨114,[(.t 2)],(Ad [oP 2 (.mv (cI 0))] (Ad [oP 3 (.mv (cI 0))] (.seq (.blk 0 (Cs [Ac 11 0,oI 12 1 (At 11),oI 13 2 (Af 1 12),oI 14 3 (Ag 13),oI 15 4 (mT 0),oI 16 5 (At 15),oI 17 6 (Af 0 16),oI 18 7 (Ag 17),oI 19 8 (.len false (.t 18)),oI 20 9 (Bu .lss 14 19),oI 21 10 (mT 20),oG 22 21 true 11 (mT 0),oG 23 21 true 12 (At 22),oG 24 21 true 13 (Af 0 23),oG 25 21 true 14 (Ag 24),oG 26 21 true 15 (mT 0),oG 27 21 true 16 (At 26),oG 28 21 true 17 (Af 1 27),oG 29 21 true 18 (Ag 28),oG 30 21 true 19 (.iad 3 (.t 25) (.t 29)),oG 31 21 true 20 (Af 0 30),oG 32 21 true 21 (Ag 31),oG 33 21 true 22 (Al 32 3),oI 34 23 (Bv 21 33),oI 35 24 (mT 34),oG 36 35 true 25 (mT 0),oG 37 35 true 26 (At 36),oG 38 35 true 27 (Af 0 37),oG 39 35 true 28 (Ag 38),oG 40 35 true 29 (mT 0),oG 41 35 true 30 (At 40),oG 42 35 true 31 (Af 1 41),oG 43 35 true 32 (Ag 42),oG 44 35 true 33 (.iad 3 (.t 39) (.t 43)),oG 45 35 true 34 (Af 1 44),oG 46 35 true 35 (Ag 45),oG 47 35 true 36 (.bin 4 .eql (.t 46) (Ap [115,117,99])),oI 48 37 (Bv 35 47),oI 10 38 (mT 48)] (Ak 10 (Ad [Ac 49 0,oP 50 (At 49),oP 51 (Af 1 50),oP 52 (Ag 51),oP 53 (Bi .add 52 1),oP 54 (At 49),oP 55 (Af 1 54),oN (Bn 1 55 53)] (Bo [Ac 56 0,oP 57 (.hcall 213 [(.t 56)]),oP 58 (Bi .add 57 1),Ac 3 58])) (Cs [Ac 60 0,oI 61 1 (At 60),oI 62 2 (Af 1 61),oI 63 3 (Ag 62),oI 64 4 (mT 0),oI 65 5 (At 64),oI 66 6 (Af 0 65),oI 67 7 (Ag 66),oI 68 8 (.len false (.t 67)),oI 69 9 (Bu .lss 63 68),oI 70 10 (mT 69),oG 71 70 true 11 (mT 0),oG 72 70 true 12 (At 71),oG 73 70 true 13 (Af 0 72),oG 74 70 true 14 (Ag 73),oG 75 70 true 15 (mT 0),oG 76 70 true 16 (At 75),oG 77 70 true 17 (Af 1 76),oG 78 70 true 18 (Ag 77),oG 79 70 true 19 (.iad 3 (.t 74) (.t 78)),oG 80 70 true 20 (Af 0 79),oG 81 70 true 21 (Ag 80),oG 82 70 true 22 (Al 81 3),oI 83 23 (Bv 70 82),oI 84 24 (mT 83),oG 85 84 true 25 (mT 0),oG 86 84 true 26 (At 85),oG 87 84 true 27 (Af 0 86),oG 88 84 true 28 (Ag 87),oG 89 84 true 29 (mT 0),oG 90 84 true 30 (At 89),oG 91 84 true 31 (Af 1 90),oG 92 84 true 32 (Ag 91),oG 93 84 true 33 (.iad 3 (.t 88) (.t 92)),oG 94 84 true 34 (Af 1 93),oG 95 84 true 35 (Ag 94),oG 96 84 true 36 (.bin 4 .eql (.t 95) (Ap [109,97,120])),oI 97 37 (Bv 84 96),oI 59 38 (mT 97)] (Ak 59 (Ad [Ac 98 0,oP 99 (At 98),oP 100 (Af 1 99),oP 101 (Ag 100),oP 102 (Bi .add 101 1),oP 103 (At 98),oP 104 (Af 1 103),oN (Bn 1 104 102)] (Ad [Ac 105 0,oP 106 (.hcall 213 [(.t 105)]),Ac 3 106] (Bo [Ac 107 3,Ac 108 0,oP 109 (.hcall 213 [(.t 108)]),oP 110 (.mnx true (.t 107) (.t 109)),Ac 3 110]))) (Bo [Ac 4 0,Ac 5 0,oP 6 (At 5),oP 7 (Af 1 6),oP 8 (Ag 7),oP 9 (.hcall 156 [(.t 4),(.t 8)])])))))) (Ad [Ac 111 0,oP 112 (.hcall 188 [(.t 111),(cI 2)])] (Ad [Ac 113 3,Ac 2 113] .ret)))))⟩
def tr228:trF Tryz.prog Tryz.f228=some af228:=by kernel_rfl
attribute [go_sem] af228
def af215:AF:=⟨18,[(.t 2)],(Ad [oP 2 (.mv (cI 0))] (.seq (Ad [oP 5 (.call 196 []),oP 6 (.len false (.t 5)),oP 7 (.mv (cI 0))] (.blk 0 (.loop (Ad [oP 8 (Bu .lss 7 6)] (.seq (Em 8 0) (.seq (.blk 1 (Ad [Ac 9 7,oP 10 (.iad 1 (.t 5) (.t 7)),oP 11 (Ag 10),Ac 3 9,Ac 4 11] (Ad [Ac 12 4,Ac 13 0,oP 14 (.bin 4 .eql (.t 12) (.t 13))] (Ak 14 (Ad [Ac 15 3,oP 16 (Bi .add 15 1),Ac 2 16] .ret) .skip)))) (Bo [oP 17 (Bi .add 7 1),Ac 7 17]))))))) (Ad [oP 2 (.mv (cI 0))] .ret)))⟩
def tr215:trF Tryz.prog Tryz.f215=some af215:=by kernel_rfl
attribute [go_sem] af215
def af196:AF:=⟨2,[(.t 0)],(Ad [oP 0 (.mv (.c .nils))] (Ad [oP 1 (.bslice 1 [(Ap [117,105,112]),(Ap [102,117,110,101,120,116]),(Ap [115,121,109]),(Ap [116,114,97,110,115]),(Ap [116,114]),(Ap [104,101,116]),(Ap [116,121,112]),(Ap [116,114,104]),(Ap [104,112]),(Ap [104,50,101]),(Ap [101,50,104]),(Ap [114,112]),(Ap [99,112,105]),(Ap [99,115,105,103]),(Ap [99,108,97,109]),(Ap [99,97,112,112]),(Ap [99,112,97,105,114]),(Ap [99,102,115,116]),(Ap [99,115,110,100]),(Ap [99,101,113]),(Ap [99,114,101,102,108])]),Ac 0 1] .ret))⟩
def tr196:trF Tryz.prog Tryz.f196=some af196:=by kernel_rfl
attribute [go_sem] af196
open Go Go.RowKit
def GRow.swap{m m':Mem}{w:World}{b:Nat}{row:List SV}(h:GRow m w b row)(hc:m'.c=m.c)(hp:∀b,m.p b->m'.p b)(hn:∀x∈row,NoG x):GRow m' w b row:=by
 cases h with
 |cells _ c e h1 h2 h3 h4=>exact .cells _ c e h1 h2 (fun k v x hv hx=>⟨(h3 k v x hv hx).1.swap hc hp (hn x (q_jb hx)),(h3 k v x hv hx).2⟩) h4
 |map es k l=>have:=hn .undef (by simp[Of]);cases this
def Axj{E:Env}{vs:List Value}{args:List SV}{k:Nat}(Bl:vs.length=args.length)(Cu:∀(j:Nat) v x,vs[j]?=some v->args[j]?=some x->RelV E v x)(i:Nat) :
  RelV E ((vs.toArray++Array.replicate (k-vs.toArray.size) undef).getD i undef) ((args++List.replicate (k-args.length) SV.undef).getD i .undef):=by
 rcases q_jo i vs.length with hi|hi
 ·have h1:(vs.toArray++Array.replicate (k-vs.toArray.size) undef).getD i undef=vs[i]:=by
   rw[Array.getD_eq_getD_getElem?,Array.getElem?_append_left (by simpa using hi)];simp[hi]
  have h2:(args++List.replicate (k-args.length) SV.undef).getD i .undef=args[i]'(by omega):=by
   rw[q_j,q_jf (by omega),q_f (by omega)];rfl
  rw[h1,h2];exact Cu i _ _ (q_f hi) (q_f (by omega))
 ·have h1:(vs.toArray++Array.replicate (k-vs.toArray.size) undef).getD i undef=undef:=by
   rw[Array.getD_eq_getD_getElem?,Array.getElem?_append_right (by simpa using hi)];simp only[Array.getElem?_replicate];split<;>rfl
  have h2:(args++List.replicate (k-args.length) SV.undef).getD i .undef=.undef:=by
   rw[q_j,q_jj (by omega),List.getElem?_replicate];split<;>rfl
  rw[h1,h2];exact .undef
def Ht(row:List SV)(cl:Bool):Ob:={ box:=true,sz:=row.length,els:=[row],frz:=0,gen:=777,cl:=cl }
def Pin (bt:Nat)(E:Env):Prop:=∃ob,E.H 1=some ob/\777<=ob.gen/\(ob.gen=777->E.β 1=bt)
instance stb_pin (bt:Nat):Nonempty (StB (Pin bt)):=⟨⟨fun E E' h ⟨ob,h1,h2,h3⟩=>by
  obtain⟨ob',k1,_,k3,k4⟩:=h.H 1 ob h1;exact⟨ob',k1,by omega,fun e=>by rw[(k4 (by omega)).1];exact h3 (by omega)⟩,fun E E' h hb ⟨ob,h1,h2,h3⟩=>⟨ob,h 1 ob h1 h2,h2,fun e=>by rw[hb];exact h3 e⟩⟩⟩
def Abf(rs:List AR)(G':GV)(row':List SV)(s:St):Prop:=
 match Nb s rs with
 |some (p,[],h)=>p/\gOf h=some G'/\∃r1 cl h2,h[1]?=some (Ht r1 cl)/\0<r1.length/\Dl h (.agg false r1)=some (.agg true row',h2)/\h2[1]?=h[1]?
 |_=>False
def rtL(rs:List AR)(G':GV)(row':List SV):AE->St->Prop:=fun e s=>match e with|.exit _=>False|_=>Abf rs G' row' s
def Anc(C:CT)(f:AF)(R:List SV)(G:GV)(row:List SV)(G':GV)(row':List SV):Prop:=
 vc C f.body (rtL f.res G' row') { sl:=[.gp 0 0,.ref 1 777 0 0]++List.replicate (f.ntmps-2) .undef,hp:=[gOb (R::G),Ht row true] }
def Aw5{P:Program}{f:Nat}{fn:Func}{af:AF}{R R' row row':List SV}{G D:GV}(hm:P.follows .mixedOrders=true)(hf:P.funcs[f]?=some fn)(htr:trF P fn=some af)
  (hn:∀r∈R::(G++[row]),∀x∈r,NoG x) (Vr:∀r∈R'::(G++D),∀x∈r,NoG x) (Qe:∀x∈row',NoG x) (Jj:0<row.length)
  (h:Anc (Eh P fun _ _=>False) af R G row (R'::(G++D)) row'):HContract P f (R::(G++[row])) [.gp 0 0,.gp (G.length+1) 0] (.ret (.tup [])) (R'::(G++row'::D)):=by
 intro m w vs hmem hsat Bl Cu;unfold trF at htr;split at htr;rotate_left
 ·cases htr
 rename_i c hb;simp only[q_c,q_a,q_d,q_b] at htr;obtain⟨ars,Hm,ac,No,rfl⟩:=htr
 match vs,Bl with
 |[v0,v1],_=>
 have r0:=Cu 0 v0 _ rfl rfl;have r1:=Cu 1 v1 _ rfl rfl;cases r0 with
 |gp _ _ b0 d0 p0=>
 cases r1 with
 |gp _ _ bt dt pt=>
 have Aac:(R::(G++[row]))[G.length+1]?=some row:=by simp
 have hlenG:(R::(G++[row])).length=G.length+2:=by simp
 have Cv:=hsat.row _ _ _ Aac dt;have Ajz:∀x∈row,NoG x:=hn row (by simp);cases Cv with
 |map es k l=>have:=Ajz .undef (by simp[Of]);cases this
 |cells _ cb eb Su Cf hcells honeAll=>
 let own:Nat->Prop:=fun b=>∃i,m.d i=some b
 let m1:Mem:=⟨m.c,fun i=>if i<G.length+1 then m.d i else none,m.p,fun i j b hi hj=>by
  split at hi
  ·split at hj
   ·exact m.inj i j b hi hj
   ·cases hj
  ·cases hi⟩
 have hd1:∀i b,m1.d i=some b->i<G.length+1/\m.d i=some b:=fun i b hi=>by
  simp only[m1] at hi;split at hi
  ·exact⟨‹_›,hi⟩
  ·cases hi
 have Rk:∀i b,i<G.length+1->m.d i=some b->m1.d i=some b:=fun i b hi hd=>by simp only[m1,if_pos hi];exact hd
 let E0:Env:={ m:=m1,m0:=m1,H:=fun o=>if o=1 then some (Ht row true) else none,β:=fun _=>bt,t:=fun o=>if o=1 then cb.size else 0 }
 have hH0:∀o ob,E0.H o=some ob->o=1/\ob=Ht row true:=fun o ob ho=>by
  simp only[E0] at ho;split at ho
  ·cases ho;exact⟨‹_›,rfl⟩
  ·cases ho
 have Ai3:∀(k:Nat) (v:Value) (x:SV),cb[k]?=some v->row[k]?=some x->Rep m1 v x:=fun k v x hv hx=>(hcells k v x hv hx).1.swap (m:=m) (m':=m1) rfl (fun _ h=>h) (Ajz x (q_jb hx))
 have hW:W w own E0 w:=by
  refine⟨rfl,rfl,rfl,q_ja _,fun _ _ _=>rfl,hmem.1,fun o ob ho=>?_,fun o o' ob ob' h1 h2 Dj=>?_,fun _ _ _ _=>rfl,hmem.2.1,TabM.tb (m:=m1) hmem.2.2 (fun b v hv hi=>by obtain⟨i,hi⟩:=hi;have h1:m b 0=some v:=hv;rw[hsat.free i b 0 hi] at h1;cases h1)⟩
  ·obtain⟨rfl,rfl⟩:=hH0 o ob ho;refine⟨by simp[Ht],by simp[Ht],by simpa [Ht,E0] using Cf,fun _=>by simp[Ht],by simp[Ht],fun _=>⟨cb,eb,⟨Su,by simp[E0],.inr ⟨_,dt⟩,fun k v x hv hx=>.rep _ _ (Ai3 k v x hv (by simpa [Ht] using hx)),honeAll,fun k hk=>by simp[Ht] at hk,fun k _=>hsat.free _ _ k dt,fun _ k v x hv hx=>Ai3 k v x hv (by simpa [Ht] using hx),pt⟩⟩⟩
  ·exact absurd ((hH0 _ _ h1).1.trans (hH0 _ _ h2).1.symm) Dj
 have hsat1:GSat m1 w (R::G):=by
  refine⟨fun i=>?_,m1.inj,fun i r b hr hb=>?_,fun i b j hi=>hsat.free i b j (hd1 i b hi).2⟩
  ·constructor
   ·intro hi;have Dk:i<G.length+1:=by simpa using hi
    obtain⟨b,hb⟩:=(hsat.dom i).1 (by omega);exact⟨b,Rk i b Dk hb⟩
   ·rintro ⟨b,hb⟩;have:=(hd1 i b hb).1;simpa using this
  ·have hi:=(hd1 i b hb).1;have Mx:(R::(G++[row]))[i]?=some r:=by
    rw[show R::(G++[row])=(R::G)++[row] by simp,q_jf (by simpa using hi)];exact hr
   exact (hsat.row i r b Mx (hd1 i b hb).2).swap rfl (fun _ h=>h) (hn r (q_jb Mx))
 have hobs0:∀i b,m1.d i=some b->bt≠b:=fun i b hi e=>by
  subst e;have:=m.inj i (G.length+1) bt (hd1 i bt hi).2 dt;have:=(hd1 i bt hi).1;omega
 have hS:SR w own m1 (Pin bt) [] E0 (some (R::G)) { sl:=[.gp 0 0,.ref 1 777 0 0]++List.replicate (fn.ntmps-2) .undef,hp:=[gOb (R::G),Ht row true] } { tmps:=[Value.pointer (some ⟨b0,0,none⟩),Value.pointer (some ⟨bt,0,none⟩)].toArray++Array.replicate (fn.ntmps - [Value.pointer (some ⟨b0,0,none⟩),Value.pointer (some ⟨bt,0,none⟩)].toArray.size) undef,defers:=[] } w:=by
  refine⟨hW,⟨rfl,hsat1,fun i b hi=>.inr ⟨i,(hd1 i b hi).2⟩,fun i b o ob hi ho _=>hobs0 i b hi⟩,fun o=>?_,by simp;omega,Axj (args:=[.gp 0 0,.ref 1 777 0 0]) rfl (fun j v x hv hx=>?_),rfl,rfl,.refl _,(fun h=>by cases h),fun _=>⟨_,rfl,q_ja _,fun _=>rfl⟩⟩
  ·match o with
   |0=>rfl
   |1=>rfl
   |o+2=>rfl
  ·match j,hv,hx with
   |0,hv,hx=>cases hv;cases hx;exact .rep _ _ (.gp _ _ _ (Rk 0 _ (by omega) d0) p0)
   |1,hv,hx=>cases hv;cases hx;exact .ref 1 777 0 0 bt 0 (Ht row true) rfl (q_ja _) (fun _=>⟨rfl,by simp⟩)
   |j+2,hv,hx=>cases hv
 refine calls_of_wp hf hb ?_;have fin:∀(E:Env) (g:Option (GV)) (s:St) (a:Act) (w':World),SR w own m1 (Pin bt) [] E g s a w'->Abf ars (R'::(G++D)) row' s->a.defers=[]/\∃v,(results fn a.tmps).run P w'=.ok v w'/\∃m',Qt m' (.returned v) (.ret (.tup []))/\m.le m'/\(∀b j,b<w.heap.size->m' b j=m b j)/\Fk m' w'/\GSat m' w' (R'::(G++row'::D)) /\
   (∀i b,m'.d i=some b->m.d i=some b\/w.heap.size<=b)/\w'.os=w.os/\w'.tape=w.tape/\w'.output=w.output/\w.heap.size<=w'.heap.size/\∀k,k<w.heap.size->(∀i,m.d i≠some k)->w'.heap[k]?=w.heap[k]?:=by
  intro E g s a w' hS hr;refine⟨hS.dfr,?_⟩;unfold Abf at hr;split at hr;rotate_left
  ·exact hr.elim
  rename_i p hp' Kr;obtain⟨hp,hG,q1,cl,h2,Kq,hqpos,hcl,hq2⟩:=hr;obtain⟨us,E',k1,k2,k3,k4,k5⟩:=Wp fn.results.toList ars p [] hp' E s Hm Kr hp hS;have:=Ng (U:=fun _=>True) (s:={ s with hp:=hp' }) (fun o _=>k4.hp o) trivial k4.wo hG;subst this;have hH1:E'.H 1=some (Ht q1 cl):=by
   have:=k4.hp 1;simp only[Env.view] at this;rw[Kq] at this;simpa using this
  have hko:=k4.wo.obs 1 _ hH1;have Ew:=hko.fit;simp only[Ht,List.length_singleton,Nat.one_mul] at Ew;obtain⟨c1,e1,hl1⟩:=hko.live (by omega);have Ad8:(c1.toList.take q1.length).length=q1.length:=by
   have:=hl1.size;rw[q_kg];exact Nat.min_eq_left (show q1.length<=c1.size by omega)
  have Er:RelV E' (.agg (c1.toList.take q1.length).toArray) (.agg false q1):=by
   refine .agg _ _ (fun v hv=>?_) Ad8 (fun j v x hv hx=>?_)
   ·obtain⟨j,hj⟩:=q_jw (List.mem_of_mem_take hv);exact hl1.one j v (by simpa using hj)
   ·rw[q_jx] at hv;split at hv
    ·exact hl1.rel j v x (by simpa using hv) (by simpa [Ht] using hx)
    ·cases hv
  obtain⟨E1,Aj9,st⟩:=o0 (s:={ s with hp:=hp' }) (U:=fun _=>True) k4.wo k4.gx (fun o _=>k4.hp o) hcl Er (fun _ _=>trivial);have hS1:=k4.closed st;have hH2:E1.H 1=some (Ht q1 cl):=by
   have:=hS1.hp 1;simp only[Env.view] at this;rw[hq2,Kq] at this;simpa using this
  have Aek:E1.β 1=bt:=by
   obtain⟨ob,p1,_,p3⟩:=hS1.hb rfl;rw[hH2] at p1;cases p1;exact p3 rfl
  have hpin0:E'.β 1=bt:=by
   obtain⟨ob,p1,_,p3⟩:=k4.hb rfl;rw[hH1] at p1;cases p1;exact p3 rfl
  have hko2:=hS1.wo.obs 1 _ hH2;have Ou:=hko2.fit;simp only[Ht,List.length_singleton,Nat.one_mul] at Ou;have Kt:0<E1.t 1:=by omega
  obtain⟨c2,e2,hl2⟩:=hko2.live Kt;have hg1:GI w.heap.size own E1 w' (R'::(G++D)):=hS1.gx;have Aiz:=hl1.blk;have hblk2:=hl2.blk;rw[hpin0] at Aiz;have Ajl:∀k,E1.m bt k=none:=fun k=>by rw[<-Aek];exact hl2.free k (by simp[Ht])
  have Nw:E1.m.p bt:=by rw[<-Aek];exact hl2.pl
  have Dv:∀i b,E1.m.d i=some b->b≠bt:=fun i b hi e=>hg1.obs i b 1 _ hi hH2 Kt (by rw[Aek,e])
  have Adg:(R'::(G++D)).length=G.length+1+D.length:=by simp;omega
  have Ady:=hg1.sat.dom
  let dd:Nat->Option Nat:=fun i=>if i<G.length+1 then E1.m.d i else if i=G.length+1 then some bt else E1.m.d (i-1)
  have Gi:∀i b,dd i=some b->(i<G.length+1/\E1.m.d i=some b)\/(i=G.length+1/\b=bt)\/(G.length+1<i/\E1.m.d (i-1)=some b):=fun i b hi=>by
   simp only[dd] at hi;split at hi
   ·exact .inl ⟨‹_›,hi⟩
   ·split at hi
    ·cases hi;exact .inr (.inl ⟨‹_›,rfl⟩)
    ·exact .inr (.inr ⟨by omega,hi⟩)
  let m':Mem:=⟨E1.m.c,dd,E1.m.p,fun i j b hi hj=>by
   rcases Gi i b hi with⟨a1,a2⟩|⟨a1,a2⟩|⟨a1,a2⟩<;>rcases Gi j b hj with⟨b1,b2⟩|⟨b1,b2⟩|⟨b1,b2⟩
   ·exact E1.m.inj i j b a2 b2
   ·exact absurd b2 (Dv _ _ a2)
   ·have:=E1.m.inj _ _ b a2 b2;omega
   ·exact absurd a2 (Dv _ _ b2)
   ·omega
   ·exact absurd a2 (Dv _ _ b2)
   ·have:=E1.m.inj _ _ b a2 b2;omega
   ·exact absurd b2 (Dv _ _ a2)
   ·have:=E1.m.inj _ _ b a2 b2;omega⟩
  have Ajd:∀i b,i<G.length+1->E1.m.d i=some b->m'.d i=some b:=fun i b hi hd=>by show dd i=_;simp only[dd,if_pos hi];exact hd
  have Vn:m'.d (G.length+1)=some bt:=by show dd _=_;simp[dd]
  have hdgt:∀i b,G.length+1<=i->E1.m.d i=some b->m'.d (i+1)=some b:=fun i b hi hd=>by
   show dd _=_;simp only[dd,if_neg (show ¬i+1<G.length+1 by omega),if_neg (show ¬i+1=G.length+1 by omega),Nat.add_sub_cancel];exact hd
  have hle1:=hS1.le;refine⟨_,Wn k1,m',⟨_,rfl,((Wj (r:=.tup []) rfl k2 k3).mono st.ext.m).swap (m:=E1.m) (m':=m') rfl (fun _ h=>h) (.tup _ (fun x hx=>by cases hx))⟩,⟨hle1.c,fun i b hi=>?_,hle1.p⟩,fun b j hb=>?_,⟨hS1.wo.mem,hS1.wo.pl,hS1.wo.tab⟩,⟨fun i=>?_,m'.inj,fun i r b hr hb=>?_,fun i b j hi=>?_⟩,fun i b hi=>?_,hS1.wo.os,hS1.wo.tape,hS1.wo.output,hS1.wo.size,fun k hk hnk=>hS1.wo.block k hk (fun ⟨i,hi⟩=>hnk i hi)⟩
  ·rcases Nat.lt_trichotomy i (G.length+1) with h1|h1|h1
   ·exact Ajd i b h1 (hle1.d _ _ (Rk i b h1 hi))
   ·subst h1;rw[Vn,<-dt];exact hi
   ·have:=(hsat.dom i).2 ⟨b,hi⟩;omega
  ·by_cases ho:own b
   ·obtain⟨i,hi⟩:=ho;rw[hsat.free i b j hi];rcases Nat.lt_trichotomy i (G.length+1) with h1|h1|h1
    ·exact hg1.sat.free i b j (hle1.d _ _ (Rk i b h1 hi))
    ·subst h1;rw[dt] at hi;cases hi;exact Ajl j
    ·have:=(hsat.dom i).2 ⟨b,hi⟩;omega
   ·show E1.m b j=_;rw[hS1.wo.keep b j hb ho,hS1.z]
  ·have hL:(R'::(G++row'::D)).length=G.length+2+D.length:=by simp;omega
   rw[hL];constructor
   ·intro hi;rcases Nat.lt_trichotomy i (G.length+1) with h1|h1|h1
    ·obtain⟨b,hb⟩:=(Ady i).1 (by rw[Adg];omega);exact⟨b,Ajd i b h1 hb⟩
    ·subst h1;exact⟨bt,Vn⟩
    ·obtain⟨b,hb⟩:=(Ady (i-1)).1 (by rw[Adg];omega);have:=hdgt (i-1) b (by omega) hb;rw[show i-1+1=i by omega] at this;exact⟨b,this⟩
   ·rintro ⟨b,hb⟩;rcases Gi i b hb with⟨a1,_⟩|⟨a1,_⟩|⟨a1,a2⟩
    ·omega
    ·omega
    ·have:=(Ady (i-1)).2 ⟨b,a2⟩;rw[Adg] at this;omega
  ·rcases Gi i b hb with⟨a1,a2⟩|⟨a1,a2⟩|⟨a1,a2⟩
   ·have Mx:(R'::(G++D))[i]?=some r:=by
     rw[show R'::(G++D)=(R'::G)++D by simp,q_jf (by simpa using a1)];rw[show R'::(G++row'::D)=(R'::G)++row'::D by simp,q_jf (by simpa using a1)] at hr;exact hr
    exact (hg1.sat.row i r b Mx a2).swap rfl (fun _ h=>h) (Vr r (q_jb Mx))
   ·subst a1 a2;have Mx:row'=r:=by simpa using hr
    subst Mx;generalize hv0:Value.agg (c1.toList.take q1.length).toArray=v0 at Aj9;cases Aj9 with
    |agg ws _ z0 z1 z2=>
    have hws:c1.toList.take q1.length=ws:=by simpa using hv0
    subst hws;refine .cells _ c1 e1 Aiz (by rw[<-z1,Ad8];have:=hl1.size;omega) (fun k v x hv hx=>⟨(z2 k v x ?_ hx).swap (m:=E1.m) (m':=m') rfl (fun _ h=>h) (Qe x (q_jb hx)),hl1.one k v hv⟩) hl1.one;have hk:=(q_jm.1 hx).1;rw[q_jx,if_pos (by rw[<-z1,Ad8] at hk;exact hk)];simpa using hv
   ·have Mx:(R'::(G++D))[i-1]?=some r:=by
     rw[show R'::(G++D)=(R'::G)++D by simp,q_jj (by simp;omega)];rw[show R'::(G++row'::D)=(R'::G++[row'])++D by simp,q_jj (by simp;omega)] at hr;rw[<-hr];congr 1;simp;omega
    exact (hg1.sat.row (i-1) r b Mx a2).swap rfl (fun _ h=>h) (Vr r (q_jb Mx))
  ·rcases Gi i b hi with⟨a1,a2⟩|⟨a1,a2⟩|⟨a1,a2⟩
   ·exact hg1.sat.free i b j a2
   ·subst a2;exact Ajl j
   ·exact hg1.sat.free _ b j a2
  ·have own_lt:∀i b,own b->E1.m.d i=some b->i<G.length+1/\m.d i=some b:=fun i b ⟨i',Dk⟩ he=>by
    rcases Nat.lt_trichotomy i' (G.length+1) with h1|h1|h1
    ·have:=E1.m.inj i i' b he (hle1.d _ _ (Rk i' b h1 Dk));subst this;exact⟨h1,Dk⟩
    ·subst h1;rw[dt] at Dk;cases Dk;exact absurd rfl (Dv _ _ he)
    ·have:=(hsat.dom i').2 ⟨b,Dk⟩;omega
   rcases Gi i b hi with⟨a1,a2⟩|⟨a1,a2⟩|⟨a1,a2⟩
   ·rcases hg1.new i b a2 with h|h
    ·exact .inr h
    ·exact .inl (own_lt i b h a2).2
   ·subst a1 a2;exact .inl dt
   ·rcases hg1.new _ b a2 with h|h
    ·exact .inr h
    ·have:=(own_lt _ b h a2).1;omega
 refine Ww (X:=fun _ _=>False) hm c ac No (fun _ _ _ _ _ _ h=>h.elim) (fun e E g s a w' hS he=>?_) E0 (some (R::G)) _ _ w hS h;cases e with
 |normal=>exact fin E g s a w' hS he
 |exit id=>exact he.elim
 |ret=>exact fin E g s a w' hS he
def af144:AF:=⟨7,[(.t 2)],(Ad [oP 2 (.mv (.c .nilp))] (Ad [Ac 3 0,oP 4 .mkmap,oP 5 (.build [(iS 0),(iS 0),(iS 0),(iS 0),.nilm] [(1,(1,(.t 3))),(4,(1,(.t 4)))]),oP 6 (.boxg (.t 5)),Ac 2 6] .ret))⟩
def tr144:trF Tryz.prog Tryz.f144=some af144:=by kernel_rfl
attribute [go_sem] af144
def af114:AF:=⟨9,[(.t 4)],(Ad [oP 2 (.box (.t 0)),oP 4 (.mv (.c .nilp))] (Ad [oP 5 (Ao 5 2),Ac 6 1,oP 7 (.build [(iS 0),(iS 0),(iS 0),(iS 0),.nils,.nilp,(.bool false),.nilp,.nilp] [(0,(5,(.t 5))),(5,(1,(.t 6)))]),oP 8 (.boxg (.t 7)),Ac 4 8] .ret))⟩
def tr114:trF Tryz.prog Tryz.f114=some af114:=by kernel_rfl
attribute [go_sem] af114
def af206:AF:=⟨18,[],(Ad [Ac 2 0,oP 3 (.hcall 227 [(.t 2)])] (Ad [Ac 4 0,oP 5 (At 4),oP 6 (Af 2 5),oP 7 (Ag 6),oP 8 (Bi .add 7 1),oP 9 (At 4),oP 10 (Af 2 9),oN (Bn 1 10 8)] (Ad [Ac 11 0,oP 12 (At 11),oP 13 (Af 2 12),oP 14 (Ag 13),oP 15 (Bi .gtr 14 8000000)] (Ak 15 (Bo [oP 16 (.build [] []),oP 17 (.ifc 154 (.t 16)),oN (.pan (.t 17))]) .skip))))⟩
def tr206:trF Tryz.prog Tryz.f206=some af206:=by kernel_rfl
attribute [go_sem] af206
def af201:AF:=⟨27,[(.t 4)],(Ad [oP 4 (.mv (.c .nilp))] (.seq (Ad [Ac 5 1,oP 6 (At 5),oP 7 (Af 7 6),oP 8 (Ag 7),oP 9 (.bin 2 .eql (.t 8) (.c .nilp))] (Ak 9 (.reg [Ac 10 1,oI 11 1 (mT 0),oI 12 2 (mT 1),oI 13 3 (At 12),oI 14 4 (Af 0 13),oI 15 5 (Ao 5 14),oI 16 6 (mT 1),oI 17 7 (At 16),oI 18 8 (Af 5 17),oI 19 9 (Ag 18),⟨(some 20),(.hcall 221 [(.t 11),(.t 15),(.t 19)]),none,10,false,[10]⟩,oI 21 11 (At 10),oI 22 12 (Af 7 21),oJ 13 (Bn 1 22 20)] true) .skip)) (Ad [Ac 23 1,oP 24 (At 23),oP 25 (Af 7 24),oP 26 (Ag 25),Ac 4 26] .ret)))⟩
def tr201:trF Tryz.prog Tryz.f201=some af201:=by kernel_rfl
attribute [go_sem] af201
def af175:AF:=⟨14,[],(Bo [Ac 4 0,Ac 5 0,Ac 6 0,Ac 7 1,oP 8 (At 4),oP 9 (Af 0 8),oN (.store 1 (.t 9) (cI 0)),oP 10 (At 5),oP 11 (Af 1 10),oN (Bn 1 11 7),oP 12 (At 6),oP 13 (Af 2 12),oN (.store 1 (.t 13) (cI 0))])⟩
def tr175:trF Tryz.prog Tryz.f175=some af175:=by kernel_rfl
attribute [go_sem] af175
def af227:AF:=⟨21,[],(Ad [Ac 2 0,oP 3 (At 2),oP 4 (Af 3 3),oP 5 (Ag 4),oP 6 (Bi .gtr 5 0)] (Ak 6 (Ad [Ac 7 0,oP 8 (At 7),oP 9 (Af 3 8),oP 10 (Ag 9),oP 11 (Bi .sub 10 1),oP 12 (At 7),oP 13 (Af 3 12),oN (Bn 1 13 11)] (Ad [Ac 14 0,oP 15 (At 14),oP 16 (Af 3 15),oP 17 (Ag 16),oP 18 (Al 17 0)] (Ak 18 (Bo [oP 19 (.build [] []),oP 20 (.ifc 246 (.t 19)),oN (.pan (.t 20))]) .skip))) .skip))⟩
def tr227:trF Tryz.prog Tryz.f227=some af227:=by kernel_rfl
attribute [go_sem] af227
def af223:AF:=⟨10,[(.t 2)],(Ad [oP 2 (.mv (cI 0))] (.seq (Ad [Ac 3 0] (.blk 0 (.seq (Ad [oP 5 (Al 3 15),Ac 4 5] (Ak 4 .skip (Ad [oP 6 (Al 3 18),Ac 4 6] (Ak 4 .skip (Bo [oP 7 (Al 3 19),Ac 4 7]))))) (Ak 4 (Ad [oP 2 (.mv (cI 0))] .ret) (Ad [oP 9 (Al 3 22),Ac 8 9] (Ak 8 (Ad [oP 2 (.mv (cI 5))] .ret) .skip)))))) (Ad [oP 2 (.mv (cI (-1)))] .ret)))⟩
def tr223:trF Tryz.prog Tryz.f223=some af223:=by kernel_rfl
attribute [go_sem] af223
def af181:AF:=⟨6,[(.t 2)],(Ad [oP 2 (.mv (.c .nilp))] (Ad [Ac 3 0,oP 4 (.build [(iS 0),(iS 0),(iS 0),(iS 0),.nils,.nilp,(.bool false),.nilp,.nilp] [(6,(1,(cB true))),(7,(1,(.t 3)))]),oP 5 (.boxg (.t 4)),Ac 2 5] .ret))⟩
def tr181:trF Tryz.prog Tryz.f181=some af181:=by kernel_rfl
attribute [go_sem] af181
def a172_8:AC:=.seq (Ad [Ac 14 0,Ac 15 5,oP 16 (.hcall 202 [(.t 14),(.t 15)]),oP 17 (Bi .neq 16 0)] (Em 17 0)) (.blk 1 (Bo [Ac 18 0,Ac 19 5,oP 20 (.hcall 203 [(.t 18),(.t 19)]),Ac 5 20]))
def a172_11:AC:=Bo [Ac 21 1,Ac 22 5,oP 23 (At 21),oP 24 (Af 8 23),oN (Bn 1 24 22)]
def a172_17:AC:=Ad [Ac 25 1,oP 26 (At 25),oP 27 (Af 8 26),oP 28 (Ag 27),Ac 4 28] .ret
def af172:AF:=⟨29,[(.t 4)],(Ad [oP 4 (.mv (.c .nilp))] (.seq (Ad [Ac 6 1,oP 7 (At 6),oP 8 (Af 8 7),oP 9 (Ag 8),oP 10 (.bin 2 .eql (.t 9) (.c .nilp))] (Ak 10 (Ad [Ac 11 0,Ac 12 1,oP 13 (.hcall 201 [(.t 11),(.t 12)]),Ac 5 13] (.seq (.blk 0 (.loop a172_8)) a172_11)) .skip)) a172_17))⟩
def tr172:trF Tryz.prog Tryz.f172=some af172:=by kernel_rfl
attribute [go_sem] af172 a172_8 a172_11 a172_17
end Go.Proofs.YtgfehkhcmnfpaaaGreatDoor.Abs
