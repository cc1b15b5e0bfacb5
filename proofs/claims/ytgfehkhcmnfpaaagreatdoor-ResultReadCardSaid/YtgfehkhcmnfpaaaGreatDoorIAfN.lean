import Derived.Test.YtgfehkhcmnfpaaaGreatDoorIEv
import Derived.Test.YtgfehkhcmnfpaaaGreatDoorProg
import Derived.KernelRfl
import Derived.Test.YtgfehkhcmnfpaaaGreatDoorIAfC
import Derived.Test.YtgfehkhcmnfpaaaGreatDoorIDo
import Derived.Ground.NamesProg
import Derived.Shelf.LaysM
import Derived.Shelf.Strconv.Itoa3
import Derived.Lib.AppendIntMem
set_option linter.all false
set_option maxRecDepth 20000
set_option maxHeartbeats 4000000
namespace Go.Proofs.YtgfehkhcmnfpaaaGreatDoor.Abs
open Go Go.Proofs Go.Proofs.YtgfehkhcmnfpaaaGreatDoor
def af87:AF:=⟨38,[(.t 4)],(Ab [oP 2 (.box (.t 0)),oP 3 (.box (.t 1)),oP 4 (.mv (cB false))] (Ab [oP 5 (Ae 0 2),oP 6 (Ah 5),oP 7 (Ae 0 3),oP 8 (Ah 7),oP 9 (Ca .eql 6 8),Aa 10 9,oG 11 10 true 0 (Ae 1 2),oG 12 10 true 0 (Ah 11),oG 13 10 true 0 (Ae 1 3),oG 14 10 true 0 (Ah 13),oG 15 10 true 0 (Ca .eql 12 14),oP 16 (Cf 10 15),Aa 17 16,oG 18 17 true 0 (Ae 2 2),oG 19 17 true 0 (Ah 18),oG 20 17 true 0 (Ae 2 3),oG 21 17 true 0 (Ah 20),oG 22 17 true 0 (Ca .eql 19 21),oP 23 (Cf 17 22),Aa 24 23,oG 25 24 true 0 (Ae 3 2),oG 26 24 true 0 (Ah 25),oG 27 24 true 0 (Ae 3 3),oG 28 24 true 0 (Ah 27),oG 29 24 true 0 (Ca .eql 26 28),oP 30 (Cf 24 29),Aa 31 30,oG 32 31 true 0 (Ae 4 2),oG 33 31 true 0 (Ah 32),oG 34 31 true 0 (Ae 4 3),oG 35 31 true 0 (Ah 34),oG 36 31 true 0 (.call 53 [(.t 33),(.t 35)]),oP 37 (Cf 31 36),Aa 4 37] .ret))⟩
def tr87:trF Tryz.prog Tryz.f87=some af87:=by kernel_rfl
attribute [go_sem] af87
def af53:AF:=⟨27,[(.t 4)],(Ab [oP 4 (.mv (cB false))] (.seq (Ab [Aa 6 0,oP 7 (.len false (.t 6)),Aa 8 1,oP 9 (.len false (.t 8)),oP 10 (Ca .neq 7 9)] (Aj 10 (Ab [oP 4 (.mv (cB false))] .ret) .skip)) (.seq (Ab [oP 5 (.mv (cI 0))] (.blk 0 (.loop (.seq (Ab [Aa 11 5,Aa 12 0,oP 13 (.len false (.t 12)),oP 14 (Ca .lss 11 13)] (Et 14 0)) (.seq (.blk 1 (Cx [Aa 17 0,oI 18 1 (mT 5),oI 19 2 (.iad 5 (.t 17) (.t 18)),oI 20 3 (Aq 5 19),oI 21 4 (mT 1),oI 22 5 (mT 5),oI 23 6 (.iad 5 (.t 21) (.t 22)),oI 24 7 (Aq 5 23),oI 25 8 (.call 87 [(.t 20),(.t 24)]),oI 26 9 (.un .not (.t 25))] (Aj 26 (Ab [oP 4 (.mv (cB false))] .ret) .skip))) (Bg [Aa 15 5,oP 16 (Ay .add 15 1),Aa 5 16])))))) (Ab [oP 4 (.mv (cB true))] .ret))))⟩
def tr53:trF Tryz.prog Tryz.f53=some af53:=by kernel_rfl
attribute [go_sem] af53
def af94:AF:=⟨31,[(.t 4)],(Ab [oP 4 (.mv (cI 0))] (.seq (Ab [Aa 5 0] (.blk 0 (.seq (Ab [oP 7 (An 5 3),Aa 6 7] (Aj 6 .skip (Ab [oP 8 (An 5 5),Aa 6 8] (Aj 6 .skip (Ab [oP 9 (An 5 6),Aa 6 9] (Aj 6 .skip (Ab [oP 10 (An 5 7),Aa 6 10] (Aj 6 .skip (Ab [oP 11 (An 5 8),Aa 6 11] (Aj 6 .skip (Ab [oP 12 (An 5 9),Aa 6 12] (Aj 6 .skip (Ab [oP 13 (An 5 13),Aa 6 13] (Aj 6 .skip (Ab [oP 14 (An 5 14),Aa 6 14] (Aj 6 .skip (Ab [oP 15 (An 5 16),Aa 6 15] (Aj 6 .skip (Bg [oP 16 (An 5 17),Aa 6 16]))))))))))))))))))) (Aj 6 (Ab [Aa 17 1,oP 18 (An 17 1)] (Aj 18 (Ab [oP 4 (.mv (cI 1))] .ret) .skip)) (Ab [oP 20 (An 5 4),Aa 19 20] (Aj 19 (Ab [Aa 21 1,oP 22 (An 21 1),Aa 23 22,oG 24 23 false 0 (mT 1),oG 25 23 false 0 (An 24 2),oP 26 (Dk 23 25)] (Aj 26 (Ab [oP 4 (.mv (cI 1))] .ret) .skip)) (Ab [oP 28 (An 5 22),Aa 27 28] (Aj 27 (Ab [Aa 29 1,oP 30 (An 29 2)] (Aj 30 (Ab [oP 4 (.mv (cI 2))] .ret) .skip)) .skip)))))))) (Ab [oP 4 (.mv (cI 0))] .ret)))⟩
def tr94:trF Tryz.prog Tryz.f94=some af94:=by kernel_rfl
attribute [go_sem] af94
open Go Go.RowKit Go.Proofs.YtgfehkhcmnfpaaaGreatDoor
def mixed:Tryz.prog.follows .mixedOrders=true:=by kernel_rfl
abbrev Con(f:Nat)(args:List SV)(r:SV):Prop:=Contract Tryz.prog f args r
def Ag5(i:Int):Con 162 [.int .i64 i] (.agg true (tv (.mk 1 i 0 0 []))):=by
 refine (Cu (r:=.agg true [.int .i64 1,.int .i64 i,.int .i64 0,.int .i64 0,.nils]) mixed Tryz.func162 tr162 ?_).weaken (Mp _ _ _ _);simp only[go_sem,seval]
def Apk(k i j n:Int)(rows:GV)(h1:rows.length≠0)(h2:rows.length*56<=140737488355328)(h5:∀r∈rows,r.length=5)(H:∀r∈rows,Con 141 [.agg true r] (.agg true r)) :
  Con 141 [.agg true [.int .i64 k,.int .i64 i,.int .i64 j,.int .i64 n,.dsl 5 rows]] (.agg true [.int .i64 k,.int .i64 i,.int .i64 j,.int .i64 n,.dsl 5 rows]):=by
 refine Cu mixed Tryz.func141 tr141 ?_;simp only[go_sem,seval];intro _;refine⟨fun h=>?_,fun _=>?_⟩
 ·have:=eq_of_beq h;omega
 ·have h3:rows.length<=140737488355328:=by omega
  have e1:(0:Int)<=(rows.length:Int):=by omega
  have e2:((rows.length:Int)*56<=140737488355328):=by omega
  have e3:((rows.length:Int)<=140737488355328):=by omega
  simp only[go_sem,seval,h3,e1,e2,e3,Int.le_refl];refine Nz (fun x=>⟨[.J,.ref 0 0 0 0,.ref 1 0 0 0,.osl 2 0 0 rows.length,.J,.J,.J,.J,.J,.J,.J,.J,.J,.J,.J,.J,.J,.dsl 5 rows,.int .i64 rows.length,.int .i64 x,.J,.J,.J,.J,.J,.J,.J,.J,.J,.J,.J,.J,.J],[⟨true,5,[[.int .i64 k,.int .i64 i,.int .i64 j,.int .i64 n,.dsl 5 rows]],0,0,true⟩,⟨true,5,[[.int .i64 0,.int .i64 0,.int .i64 0,.int .i64 0,.nils]],0,0,true⟩,⟨false,5,rows.take x++List.replicate (rows.length-x) [.int .i64 0,.int .i64 0,.int .i64 0,.int .i64 0,.nils],0,0,true⟩]⟩) rows.length (fun x hx=>?_) ?_
  ·simp only[go_sem,seval];refine⟨fun h=>?_,fun h=>?_⟩
   ·have Am:=q_kw h;have Ja:x<rows.length:=by omega
    have e0:(0:Int)<=(x:Int):=by omega
    have hm:rows[x]?.getD []∈rows:=by rw[q_f Ja,q_jz];exact q_kd Ja
    have Pm:=h5 _ hm;simp only[go_sem,seval,Am,e0,Pm];refine Ag (H _ hm) ?_;simp only[go_sem,seval,Am,Ja,e0,Pm];refine⟨by simp;omega,?_⟩;rw[w64 (n:=(x:Int)+1) (by unfold fit;omega)];exact Fx 3 (by simp[Bm]) (by simp only[List.take_succ_cons,List.take_zero,A2f Ja]) (by simp[Dm]) (by simp)
   ·have La:=q_kx h;have Ox:x=rows.length:=by omega
    subst Ox;simp only[go_sem,seval,q_kk,List.take_take,Nat.min_self]
  ·simp only[List.take_zero,q_kl,q_kq];exact Bv (by simp[Bm])
def Apj(k i j n:Int)(rows:GV)(h1:rows=[]):Con 141 [.agg true [.int .i64 k,.int .i64 i,.int .i64 j,.int .i64 n,.dsl 5 rows]] (.agg true (tv (.mk k i j n []))):=by
 subst h1;refine (Cu (r:=.agg true [.int .i64 k,.int .i64 i,.int .i64 j,.int .i64 n,.nils]) mixed Tryz.func141 tr141 ?_).weaken (Mp _ _ _ _);simp only[go_sem,seval]
def Agr(t:Tm):TOk t->Con 141 [.agg true (tv t)] (.agg true (tv t)):=by
 induction t using Tm.ind with
 |h k i j n l ih=>
  intro hok;cases hok with
  |mk _ _ _ _ _ f1 f2 f3 f4 hb hl=>
  by_cases hz:l=[]
  ·subst hz;rw[Bp];have:=Apj k i j n [] rfl;rw[Bp] at this;exact this
  ·rw[Bp];refine Apk k i j n (l.map tv) (by simpa using hz) (by simpa using hb) (fun r hr=>?_) (fun r hr=>?_)
   ·obtain⟨t,_,rfl⟩:=q_lb.1 hr;exact Br t
   ·obtain⟨t,ht,rfl⟩:=q_lb.1 hr;exact ih t ht (hl t ht)
def vr(i:Int):Tm:=.mk 2 i 0 0 []
def so(i:Int):Tm:=.mk 1 i 0 0 []
def pt(i:Int)(a x:Tm):Tm:=.mk 17 0 0 0 [so i,vr 0,a,x]
def Ag9(rows:GV)(h2:rows.length*56<=140737488355328)(h5:∀r∈rows,r.length=5)(H:∀r∈rows,Con 87 [.agg true r,.agg true r] (.bool true)) :
  Con 53 [.dsl 5 rows,.dsl 5 rows] (.bool true):=by
 refine Cu mixed Tryz.func53 tr53 ?_;simp only[go_sem,seval,bne_self_eq_false];intro _ _;refine Nz (fun x=>⟨[.dsl 5 rows,.dsl 5 rows,.J,.J,.bool false,.int .i64 x,.J,.J,.J,.J,.J,.J,.J,.J,.J,.J,.J,.J,.J,.J,.J,.J,.J,.J,.J,.J,.J],[]⟩) rows.length (fun x hx=>?_) ?_
 ·simp only[go_sem,seval];intro _;refine⟨fun h=>?_,fun h=>?_⟩
  ·have hxl':=q_kw h;have Gh:x<rows.length:=by omega
   have e0:(0:Int)<=(x:Int):=by omega
   have hm:rows[x]?.getD []∈rows:=by rw[q_f Gh,q_jz];exact q_kd Gh
   have Pm:=h5 _ hm;simp only[go_sem,seval,hxl',e0,Pm];refine Ag (H _ hm) ?_;simp only[go_sem,seval];refine⟨by omega,?_⟩;rw[w64 (n:=(x:Int)+1) (by unfold fit;omega)];exact Bv (by simp[Bm])
  ·simp only[go_sem,seval,h]
 ·exact Bv (by simp[Bm])
def Ace(t:Tm):TOk t->Con 87 [.agg true (tv t),.agg true (tv t)] (.bool true):=by
 induction t using Tm.ind with
 |h k i j n l ih=>
  intro hok;cases hok with
  |mk _ _ _ _ _ f1 f2 f3 f4 hb hl=>
  rw[Bp];have hT:=Ag9 (l.map tv) (by simpa using hb) (fun r hr=>by obtain⟨t,_,rfl⟩:=q_lb.1 hr;exact Br t) (fun r hr=>by obtain⟨t,ht,rfl⟩:=q_lb.1 hr;exact ih t ht (hl t ht));generalize l.map tv=rows at hT;refine Cu mixed Tryz.func87 tr87 ?_;simp only[go_sem,seval];refine Ag hT ?_;simp only[go_sem,seval]
def af120:AF:=⟨17,[(.t 2)],(Ab [oP 2 (.mv (cB false))] (Ab [Aa 3 0,oP 4 (.bin 0 .leq (.c (.int .u8 97)) (.t 3)),Aa 5 4,oG 6 5 true 0 (mT 0),oG 7 5 true 0 (.bin 0 .leq (.t 6) (.c (.int .u8 122))),oP 8 (Cf 5 7),Aa 9 8,oG 10 9 false 0 (mT 0),oG 11 9 false 0 (.bin 0 .leq (.c (.int .u8 65)) (.t 10)),oG 12 9 false 0 (mT 11),oG 13 12 true 0 (mT 0),oG 14 12 true 0 (.bin 0 .leq (.t 13) (.c (.int .u8 90))),oG 15 9 false 0 (Cf 12 14),oP 16 (Dk 9 15),Aa 2 16] .ret))⟩
def tr120:trF Tryz.prog Tryz.f120=some af120:=by kernel_rfl
attribute [go_sem] af120
def af121:AF:=⟨9,[(.t 2)],(Ab [oP 2 (.mv (cB false))] (Ab [Aa 3 0,oP 4 (.bin 0 .leq (.c (.int .u8 48)) (.t 3)),Aa 5 4,oG 6 5 true 0 (mT 0),oG 7 5 true 0 (.bin 0 .leq (.t 6) (.c (.int .u8 57))),oP 8 (Cf 5 7),Aa 2 8] .ret))⟩
def tr121:trF Tryz.prog Tryz.f121=some af121:=by kernel_rfl
attribute [go_sem] af121
def af81:AF:=⟨17,[(.t 2)],(Ab [oP 2 (.mv (cB false))] (Ab [Aa 3 0,oP 4 (.bin 0 .geq (.t 3) (.c (.int .u8 97))),Aa 5 4,oG 6 5 true 0 (mT 0),oG 7 5 true 0 (.bin 0 .leq (.t 6) (.c (.int .u8 122))),oP 8 (Cf 5 7),Aa 9 8,oG 10 9 false 0 (mT 0),oG 11 9 false 0 (.bin 0 .geq (.t 10) (.c (.int .u8 65))),oG 12 9 false 0 (mT 11),oG 13 12 true 0 (mT 0),oG 14 12 true 0 (.bin 0 .leq (.t 13) (.c (.int .u8 90))),oG 15 9 false 0 (Cf 12 14),oP 16 (Dk 9 15),Aa 2 16] .ret))⟩
def tr81:trF Tryz.prog Tryz.f81=some af81:=by kernel_rfl
attribute [go_sem] af81
def af82:AF:=⟨9,[(.t 2)],(Ab [oP 2 (.mv (cB false))] (Ab [Aa 3 0,oP 4 (.bin 0 .geq (.t 3) (.c (.int .u8 48))),Aa 5 4,oG 6 5 true 0 (mT 0),oG 7 5 true 0 (.bin 0 .leq (.t 6) (.c (.int .u8 57))),oP 8 (Cf 5 7),Aa 2 8] .ret))⟩
def tr82:trF Tryz.prog Tryz.f82=some af82:=by kernel_rfl
attribute [go_sem] af82
def af75:AF:=⟨34,[(.t 4)],(Ab [oP 4 (.mv (cI 0))] (.seq (.blk 0 (.loop (.seq (Ab [Aa 5 1,Aa 6 0,oP 7 (.len true (.t 6)),oP 8 (Ca .lss 5 7)] (Et 8 0)) (.blk 1 (Ab [Aa 9 0,Aa 10 1,oP 11 (.six (.t 9) (.t 10))] (.blk 2 (.seq (Ab [oP 14 (.bin 0 .eql (.t 11) (.c (.int .u8 32))),Aa 13 14] (Aj 13 .skip (Ab [oP 15 (.bin 0 .eql (.t 11) (.c (.int .u8 9))),Aa 13 15] (Aj 13 .skip (Bg [oP 16 (.bin 0 .eql (.t 11) (.c (.int .u8 10))),Aa 13 16]))))) (Aj 13 (Bg [Aa 17 1,oP 18 (Ay .add 17 1),Aa 1 18]) (Ab [oP 20 (.bin 0 .eql (.t 11) (.c (.int .u8 59))),Aa 19 20] (Aj 19 (.blk 3 (.loop (.seq (Ab [Aa 21 1,Aa 22 0,oP 23 (.len true (.t 22)),oP 24 (Ca .lss 21 23),Aa 25 24,oG 26 25 true 0 (mT 0),oG 27 25 true 0 (mT 1),oG 28 25 true 0 (.six (.t 26) (.t 27)),oG 29 25 true 0 (.bin 0 .neq (.t 28) (.c (.int .u8 10))),oP 30 (Cf 25 29)] (Et 30 3)) (.blk 4 (Bg [Aa 31 1,oP 32 (Ay .add 31 1),Aa 1 32]))))) (Ab [Aa 12 1,Aa 4 12] .ret))))))))))) (Ab [Aa 33 1,Aa 4 33] .ret)))⟩
def tr75:trF Tryz.prog Tryz.f75=some af75:=by kernel_rfl
attribute [go_sem] af75
def af76:AF:=⟨100,[(.cell 4 true 3),(.t 5)],(Ab [oP 4 (.new [(iS 0),(.str (bs [])),(iS 0)]),oP 5 (.mv (cB false))] (Ab [Aa 10 0,Aa 11 1,oP 12 (.six (.t 10) (.t 11)),Aa 13 1,oP 14 (Ay .add 13 1),Aa 6 12,Aa 7 14] (.seq (.blk 0 (Ab [Aa 16 6,oP 17 (.bin 0 .eql (.t 16) (.c (.int .u8 40))),Aa 15 17] (Aj 15 (Ab [Aa 18 1,oP 19 (.build [(iS 0),(.str (bs [])),(iS 0)] [(0,(1,(cI 1))),(1,(1,(At [40]))),(2,(1,(.t 18)))]),oN (Ax 3 4 19),oP 5 (.mv (cB true))] .ret) (Ab [Aa 21 6,oP 22 (.bin 0 .eql (.t 21) (.c (.int .u8 41))),Aa 20 22] (Aj 20 (Ab [Aa 23 1,oP 24 (.build [(iS 0),(.str (bs [])),(iS 0)] [(0,(1,(cI 2))),(1,(1,(At [41]))),(2,(1,(.t 23)))]),oN (Ax 3 4 24),oP 5 (.mv (cB true))] .ret) (Ab [Aa 26 6,oP 27 (.call 120 [(.t 26)]),Aa 25 27] (Aj 25 (.seq (.blk 1 (.loop (.seq (Ab [Aa 28 7,Aa 29 0,oP 30 (.len true (.t 29)),oP 31 (Ca .lss 28 30),Aa 32 31,oG 33 32 true 0 (mT 0),oG 34 32 true 0 (mT 7),oG 35 32 true 0 (.six (.t 33) (.t 34)),oG 36 32 true 0 (.call 120 [(.t 35)]),oG 37 32 true 0 (mT 36),oG 38 37 false 0 (mT 0),oG 39 37 false 0 (mT 7),oG 40 37 false 0 (.six (.t 38) (.t 39)),oG 41 37 false 0 (.call 121 [(.t 40)]),oG 42 32 true 0 (Dk 37 41),oP 43 (Cf 32 42)] (Et 43 1)) (.blk 2 (Bg [Aa 44 7,oP 45 (Ay .add 44 1),Aa 7 45]))))) (Ab [Aa 46 0,Aa 47 1,Aa 48 7,oP 49 (.slc 0 (.t 46) (some (.t 47)) (some (.t 48))),Aa 50 1,oP 51 (.build [(iS 0),(.str (bs [])),(iS 0)] [(0,(1,(cI 3))),(1,(1,(.t 49))),(2,(1,(.t 50)))]),Aa 52 7,Aa 53 1,oP 54 (Ca .sub 52 53),oP 55 (Ay .leq 54 20),oN (Ax 3 4 51),Aa 5 55] .ret)) (Ab [Aa 57 6,oP 58 (.call 121 [(.t 57)]),Aa 56 58] (Aj 56 (.seq (.blk 3 (.loop (.seq (Ab [Aa 59 7,Aa 60 0,oP 61 (.len true (.t 60)),oP 62 (Ca .lss 59 61),Aa 63 62,oG 64 63 true 0 (mT 0),oG 65 63 true 0 (mT 7),oG 66 63 true 0 (.six (.t 64) (.t 65)),oG 67 63 true 0 (.call 121 [(.t 66)]),oP 68 (Cf 63 67)] (Et 68 3)) (.blk 4 (Bg [Aa 69 7,oP 70 (Ay .add 69 1),Aa 7 70]))))) (Ab [Aa 72 0,Aa 73 1,Aa 74 7,oP 75 (.slc 0 (.t 72) (some (.t 73)) (some (.t 74))),oP 76 (.call 122 [(.t 75)]),Aa 71 76,oP 77 (.ext (.t 71) 0),oP 78 (.ext (.t 71) 1),Aa 8 77,Aa 9 78] (Cx [Aa 79 0,oI 80 1 (mT 1),oI 81 2 (mT 7),⟨(some 82),(.slc 0 (.t 79) (some (.t 80)) (some (.t 81))),none,3,true,[]⟩,oI 83 4 (mT 1),oI 84 5 (.build [(iS 0),(.str (bs [])),(iS 0)] [(0,(1,(cI 4))),(1,(1,(.t 82))),(2,(1,(.t 83)))]),oI 85 6 (mT 9),oI 86 7 (mT 85),oG 87 86 true 8 (mT 7),oG 88 86 true 9 (mT 0),oG 89 86 true 10 (.len true (.t 88)),oG 90 86 true 11 (Ca .eql 87 89),oG 91 86 true 12 (mT 90),oG 92 91 false 13 (mT 0),oG 93 91 false 14 (mT 7),oG 94 91 false 15 (.six (.t 92) (.t 93)),⟨(some 95),(.call 120 [(.t 94)]),(some (91,false)),16,false,[3]⟩,oG 96 91 false 17 (.un .not (.t 95)),oG 97 86 true 18 (Dk 91 96),oI 98 19 (Cf 86 97),oJ 20 (Ax 3 4 84),oI 5 21 (mT 98)] .ret))) .skip))))))))) (Ab [oP 99 (.build [(iS 0),(.str (bs [])),(iS 0)] []),oN (Ax 3 4 99),oP 5 (.mv (cB false))] .ret))))⟩
def tr76:trF Tryz.prog Tryz.f76=some af76:=by kernel_rfl
attribute [go_sem] af76
def af39:AF:=⟨36,[(.t 2),(.t 3),(.t 4)],(Ab [oP 2 (.mv (.c .nils)),oP 3 (.mv (cI 0)),oP 4 (.mv (cI 0))] (Ab [oP 5 (.mv (.c .nils))] (.seq (Ab [Aa 9 0,oP 10 (.call 75 [(.t 9),(cI 0)]),Aa 6 10] (.blk 0 (.loop (.seq (Ab [Aa 11 6,Aa 12 0,oP 13 (.len true (.t 12)),oP 14 (Ca .lss 11 13)] (Et 14 0)) (.blk 1 (Ab [Aa 16 0,Aa 17 6,oP 18 (.call 76 [(.t 16),(.t 17)]),Aa 15 18,oP 19 (.ext (.t 15) 0),oP 20 (.ext (.t 15) 1),oP 7 (.new [(iS 0),(.str (bs [])),(iS 0)]),oN (Ax 3 7 19),Aa 8 20] (.seq (Ab [Aa 21 8,oP 22 (.un .not (.t 21))] (Aj 22 (Ab [Aa 23 6,oP 2 (.mv (.c .nils)),oP 3 (.mv (cI 2)),Aa 4 23] .ret) .skip)) (Ab [Aa 24 5,oP 25 (Aq 3 7),oP 26 (.bslice 3 [(.t 25)]),oP 27 (.app 3 32 (.t 24) (.t 26)),Aa 5 27] (Bg [Aa 28 0,Aa 29 6,oP 30 (Ae 1 7),oP 31 (Ah 30),oP 32 (.len true (.t 31)),oP 33 (Ca .add 29 32),oP 34 (.call 75 [(.t 28),(.t 33)]),Aa 6 34]))))))))) (Ab [Aa 35 5,Aa 2 35,oP 3 (.mv (cI 0)),oP 4 (.mv (cI 0))] .ret))))⟩
def tr39:trF Tryz.prog Tryz.f39=some af39:=by kernel_rfl
attribute [go_sem] af39
def af43:AF:=⟨154,[(.t 2),(.t 3)],(Ab [oP 2 (.mv (.c .nils)),oP 3 (.mv (cI 0))] (Ab [oP 4 (.mv (.c .nils))] (Ab [oP 5 (.mv (cI 0))] (.seq (.blk 0 (.loop (.seq (Ab [Aa 10 5,Aa 11 0,oP 12 (.len true (.t 11)),oP 13 (Ca .lss 10 12)] (Et 13 0)) (.blk 1 (Ab [Aa 14 0,Aa 15 5,oP 16 (.six (.t 14) (.t 15)),Aa 6 16] (Ab [Aa 17 5,Aa 7 17] (.seq (.blk 2 (Ab [Aa 21 6,oP 22 (.bin 0 .eql (.t 21) (.c (.int .u8 32))),Aa 23 22,oG 24 23 false 0 (mT 6),oG 25 23 false 0 (.bin 0 .eql (.t 24) (.c (.int .u8 9))),oP 26 (Dk 23 25),Aa 27 26,oG 28 27 false 0 (mT 6),oG 29 27 false 0 (.bin 0 .eql (.t 28) (.c (.int .u8 10))),oP 30 (Dk 27 29),Aa 20 30] (Aj 20 (Ab [Aa 31 5,oP 32 (Ay .add 31 1),Aa 5 32] (.exit 1)) (Ab [Aa 34 6,oP 35 (.bin 0 .eql (.t 34) (.c (.int .u8 59))),Aa 33 35] (Aj 33 (.seq (.blk 3 (.loop (.seq (Ab [Aa 36 5,Aa 37 0,oP 38 (.len true (.t 37)),oP 39 (Ca .lss 36 38),Aa 40 39,oG 41 40 true 0 (mT 0),oG 42 40 true 0 (mT 5),oG 43 40 true 0 (.six (.t 41) (.t 42)),oG 44 40 true 0 (.bin 0 .neq (.t 43) (.c (.int .u8 10))),oP 45 (Cf 40 44)] (Et 45 3)) (.blk 4 (Bg [Aa 46 5,oP 47 (Ay .add 46 1),Aa 5 47]))))) (.exit 1)) (Ab [Aa 49 6,oP 50 (.bin 0 .eql (.t 49) (.c (.int .u8 40))),Aa 48 50] (Aj 48 (Ab [Aa 51 4,Aa 52 5,oP 53 (.build [(iS 0),(.str (bs [])),(iS 0)] [(0,(1,(cI 1))),(1,(1,(At [40]))),(2,(1,(.t 52)))]),oP 54 (.bslice 3 [(.t 53)]),oP 55 (.app 3 32 (.t 51) (.t 54)),Aa 4 55] (Ab [Aa 56 5,oP 57 (Ay .add 56 1),Aa 5 57] (.exit 1))) (Ab [Aa 59 6,oP 60 (.bin 0 .eql (.t 59) (.c (.int .u8 41))),Aa 58 60] (Aj 58 (Ab [Aa 61 4,Aa 62 5,oP 63 (.build [(iS 0),(.str (bs [])),(iS 0)] [(0,(1,(cI 2))),(1,(1,(At [41]))),(2,(1,(.t 62)))]),oP 64 (.bslice 3 [(.t 63)]),oP 65 (.app 3 32 (.t 61) (.t 64)),Aa 4 65] (Ab [Aa 66 5,oP 67 (Ay .add 66 1),Aa 5 67] (.exit 1))) (Ab [Aa 69 6,oP 70 (.call 81 [(.t 69)]),Aa 68 70] (Aj 68 (.seq (.blk 5 (.loop (.seq (Ab [Aa 71 7,Aa 72 0,oP 73 (.len true (.t 72)),oP 74 (Ca .lss 71 73),Aa 75 74,oG 76 75 true 0 (mT 0),oG 77 75 true 0 (mT 7),oG 78 75 true 0 (.six (.t 76) (.t 77)),oG 79 75 true 0 (.call 81 [(.t 78)]),oG 80 75 true 0 (mT 79),oG 81 80 false 0 (mT 0),oG 82 80 false 0 (mT 7),oG 83 80 false 0 (.six (.t 81) (.t 82)),oG 84 80 false 0 (.call 82 [(.t 83)]),oG 85 75 true 0 (Dk 80 84),oP 86 (Cf 75 85)] (Et 86 5)) (.blk 6 (Bg [Aa 87 7,oP 88 (Ay .add 87 1),Aa 7 88]))))) (.seq (Ab [Aa 89 7,Aa 90 5,oP 91 (Ca .sub 89 90),oP 92 (Ay .gtr 91 20)] (Aj 92 (Ab [Aa 93 4,Aa 94 5,Aa 2 93,Aa 3 94] .ret) .skip)) (Bg [Aa 95 4,Aa 96 0,Aa 97 5,Aa 98 7,oP 99 (.slc 0 (.t 96) (some (.t 97)) (some (.t 98))),Aa 100 5,oP 101 (.build [(iS 0),(.str (bs [])),(iS 0)] [(0,(1,(cI 3))),(1,(1,(.t 99))),(2,(1,(.t 100)))]),oP 102 (.bslice 3 [(.t 101)]),oP 103 (.app 3 32 (.t 95) (.t 102)),Aa 4 103]))) (Ab [Aa 105 6,oP 106 (.call 82 [(.t 105)]),Aa 104 106] (Aj 104 (.seq (.blk 7 (.loop (.seq (Ab [Aa 107 7,Aa 108 0,oP 109 (.len true (.t 108)),oP 110 (Ca .lss 107 109),Aa 111 110,oG 112 111 true 0 (mT 0),oG 113 111 true 0 (mT 7),oG 114 111 true 0 (.six (.t 112) (.t 113)),oG 115 111 true 0 (.call 82 [(.t 114)]),oP 116 (Cf 111 115)] (Et 116 7)) (.blk 8 (Bg [Aa 117 7,oP 118 (Ay .add 117 1),Aa 7 118]))))) (Ab [Aa 120 0,Aa 121 5,Aa 122 7,oP 123 (.slc 0 (.t 120) (some (.t 121)) (some (.t 122))),oP 124 (.call 83 [(.t 123)]),Aa 119 124,oP 125 (.ext (.t 119) 0),oP 126 (.ext (.t 119) 1),Aa 8 125,Aa 9 126] (.seq (Ab [Aa 127 9,oP 128 (.un .not (.t 127)),Aa 129 128,oG 130 129 false 0 (mT 7),oG 131 129 false 0 (mT 0),oG 132 129 false 0 (.len true (.t 131)),oG 133 129 false 0 (Ca .lss 130 132),oG 134 129 false 0 (mT 133),oG 135 134 true 0 (mT 0),oG 136 134 true 0 (mT 7),oG 137 134 true 0 (.six (.t 135) (.t 136)),oG 138 134 true 0 (.call 81 [(.t 137)]),oG 139 129 false 0 (Cf 134 138),oP 140 (Dk 129 139)] (Aj 140 (Ab [Aa 141 4,Aa 142 5,Aa 2 141,Aa 3 142] .ret) .skip)) (Bg [Aa 143 4,Aa 144 0,Aa 145 5,Aa 146 7,oP 147 (.slc 0 (.t 144) (some (.t 145)) (some (.t 146))),Aa 148 5,oP 149 (.build [(iS 0),(.str (bs [])),(iS 0)] [(0,(1,(cI 4))),(1,(1,(.t 147))),(2,(1,(.t 148)))]),oP 150 (.bslice 3 [(.t 149)]),oP 151 (.app 3 32 (.t 143) (.t 150)),Aa 4 151])))) (Ab [Aa 18 4,Aa 19 5,Aa 2 18,Aa 3 19] .ret)))))))))))))) (Bg [Aa 152 7,Aa 5 152])))))))) (Ab [Aa 153 4,Aa 2 153,oP 3 (.mv (cI (-1)))] .ret)))))⟩
def tr43:trF Tryz.prog Tryz.f43=some af43:=by kernel_rfl
attribute [go_sem] af43
def af83:AF:=⟨51,[(.t 2),(.t 3)],(Ab [oP 2 (.mv (cI 0)),oP 3 (.mv (cB false))] (.seq (Ab [Aa 6 0,oP 7 (.len true (.t 6)),oP 8 (An 7 0),Aa 9 8,oG 10 9 false 0 (mT 0),oG 11 9 false 0 (.len true (.t 10)),oG 12 9 false 0 (Ay .gtr 11 7),oP 13 (Dk 9 12),Aa 14 13,oG 15 14 false 0 (mT 0),oG 16 14 false 0 (.len true (.t 15)),oG 17 14 false 0 (Ay .gtr 16 1),oG 18 14 false 0 (mT 17),oG 19 18 true 0 (mT 0),oG 20 18 true 0 (.six (.t 19) (cI 0)),oG 21 18 true 0 (.bin 0 .eql (.t 20) (.c (.int .u8 48))),oG 22 14 false 0 (Cf 18 21),oP 23 (Dk 14 22)] (Aj 23 (Ab [oP 2 (.mv (cI 0)),oP 3 (.mv (cB false))] .ret) .skip)) (Ab [oP 4 (.mv (cI 0))] (.seq (Ab [oP 5 (.mv (cI 0))] (.blk 0 (.loop (.seq (Ab [Aa 24 5,Aa 25 0,oP 26 (.len true (.t 25)),oP 27 (Ca .lss 24 26)] (Et 27 0)) (.seq (.blk 1 (.seq (Ab [Aa 30 0,Aa 31 5,oP 32 (.six (.t 30) (.t 31)),oP 33 (.bin 0 .lss (.t 32) (.c (.int .u8 48))),Aa 34 33,oG 35 34 false 0 (mT 0),oG 36 34 false 0 (mT 5),oG 37 34 false 0 (.six (.t 35) (.t 36)),oG 38 34 false 0 (.bin 0 .gtr (.t 37) (.c (.int .u8 57))),oP 39 (Dk 34 38)] (Aj 39 (Ab [oP 2 (.mv (cI 0)),oP 3 (.mv (cB false))] .ret) .skip)) (Bg [Aa 40 4,oP 41 (.bin 0 .mul (cI 10) (.t 40)),Aa 42 0,Aa 43 5,oP 44 (.six (.t 42) (.t 43)),oP 45 (.bin 0 .sub (.t 44) (.c (.int .u8 48))),oP 46 (.conv .i64 (.t 45)),oP 47 (Ca .add 41 46),Aa 4 47]))) (Bg [Aa 28 5,oP 29 (Ay .add 28 1),Aa 5 29])))))) (.seq (Ab [Aa 48 4,oP 49 (Ay .gtr 48 1000000)] (Aj 49 (Ab [oP 2 (.mv (cI 0)),oP 3 (.mv (cB false))] .ret) .skip)) (Ab [Aa 50 4,Aa 2 50,oP 3 (.mv (cB true))] .ret))))))⟩
def tr83:trF Tryz.prog Tryz.f83=some af83:=by kernel_rfl
attribute [go_sem] af83
def af122:AF:=⟨47,[(.t 2),(.t 3)],(Ab [oP 2 (.mv (cI 0)),oP 3 (.mv (cB false))] (.seq (Ab [Aa 6 0,oP 7 (.len true (.t 6)),oP 8 (An 7 0),Aa 9 8,oG 10 9 false 0 (mT 0),oG 11 9 false 0 (.len true (.t 10)),oG 12 9 false 0 (Ay .gtr 11 7),oP 13 (Dk 9 12)] (Aj 13 (Ab [oP 2 (.mv (cI 0)),oP 3 (.mv (cB false))] .ret) .skip)) (Ab [oP 4 (.mv (cI 0))] (.seq (Ab [Aa 14 0,oP 15 (.len true (.t 14)),oP 16 (.mv (cI 0))] (.blk 0 (.loop (Ab [oP 17 (Ca .lss 16 15)] (.seq (Et 17 0) (.seq (.blk 1 (Ab [Aa 18 16,Aa 5 18] (.seq (Ab [Aa 19 0,Aa 20 5,oP 21 (.six (.t 19) (.t 20)),oP 22 (.bin 0 .lss (.t 21) (.c (.int .u8 48))),Aa 23 22,oG 24 23 false 0 (mT 0),oG 25 23 false 0 (mT 5),oG 26 23 false 0 (.six (.t 24) (.t 25)),oG 27 23 false 0 (.bin 0 .gtr (.t 26) (.c (.int .u8 57))),oP 28 (Dk 23 27)] (Aj 28 (Ab [oP 2 (.mv (cI 0)),oP 3 (.mv (cB false))] .ret) .skip)) (Bg [Aa 29 4,oP 30 (.bin 0 .mul (cI 10) (.t 29)),Aa 31 0,Aa 32 5,oP 33 (.six (.t 31) (.t 32)),oP 34 (.bin 0 .sub (.t 33) (.c (.int .u8 48))),oP 35 (.conv .i64 (.t 34)),oP 36 (Ca .add 30 35),Aa 4 36])))) (Bg [oP 37 (Ay .add 16 1),Aa 16 37]))))))) (.seq (Ab [Aa 38 4,oP 39 (Ay .gtr 38 1000000),Aa 40 39,oG 41 40 false 0 (mT 4),oG 42 40 false 0 (.call 32 [(.t 41)]),oG 43 40 false 0 (mT 0),oG 44 40 false 0 (.bin 4 .neq (.t 42) (.t 43)),oP 45 (Dk 40 44)] (Aj 45 (Ab [oP 2 (.mv (cI 0)),oP 3 (.mv (cB false))] .ret) .skip)) (Ab [Aa 46 4,Aa 2 46,oP 3 (.mv (cB true))] .ret))))))⟩
def tr122:trF Tryz.prog Tryz.f122=some af122:=by kernel_rfl
attribute [go_sem] af122
def af32:AF:=⟨5,[(.t 2)],(Ab [oP 2 (.mv (At []))] (Ab [Aa 3 0,oP 4 (.call 63 [(.t 3)]),Aa 2 4] .ret))⟩
def tr32:trF Tryz.prog Tryz.f32=some af32:=by kernel_rfl
attribute [go_sem] af32
def lw{α:Type}(S:α->St)(μ:α->Nat)(I:α->Prop)(a:α)(Q:AE->St->Prop):AE->St->Prop:=fun e s'=>match e with|.normal=>∃a',(μ a'<μ a/\I a')/\Wk s' (S a')|e=>Q e s'
def lw_n{α:Type}{S:α->St}{μ:α->Nat}{I:α->Prop}{a:α}{Q:AE->St->Prop}{s:St}:lw S μ I a Q .normal s=∃a',(μ a'<μ a/\I a')/\Wk s (S a'):=q_z
def lw_e{α:Type}{S:α->St}{μ:α->Nat}{I:α->Prop}{a:α}{Q:AE->St->Prop}{s:St}{j:Nat}:lw S μ I a Q (.exit j) s=Q (.exit j) s:=q_z
def lw_r{α:Type}{S:α->St}{μ:α->Nat}{I:α->Prop}{a:α}{Q:AE->St->Prop}{s:St}:lw S μ I a Q .ret s=Q .ret s:=q_z
attribute [go_sem] lw_n lw_e lw_r
def Hv{C:CT}{b:AC}{Q:AE->St->Prop}{α:Type}(S:α->St)(μ:α->Nat)(I:α->Prop)(Jm:∀a,I a->vc C b (lw S μ I a Q) (S a)){s:St}(a0:α)(hI:I a0)(h0:Wk s (S a0)):vc C (.loop b) Q s:=by
 refine Aft (fun m s=>∃a,(m=μ a/\I a)/\Wk s (S a)) (fun m s hI=>?_) (μ a0) s ⟨a0,⟨rfl,hI⟩,h0⟩;obtain⟨a,⟨rfl,hI⟩,hw⟩:=hI;refine⟨S a,hw,j6 (fun e s' he=>?_) (Jm a hI)⟩;cases e with
 |normal=>
  obtain⟨a',⟨h1,h2⟩,h3⟩:=he;exact⟨μ a',h1,a',⟨rfl,h2⟩,h3⟩
 |exit id=>exact he
 |ret=>exact he
def Aen(a b:Nat):((a:Int)==(b:Int))=decide (a=b):=by
 by_cases h:a=b
 ·subst h;simp
 ·simp[h,Int.natCast_inj]
def chN(l:By)(p:Nat):Nat:=(l.getD p 0).toNat
def Cq(l:By)(p:Nat):Vf (bs l) p=((chN l p:Nat):Int):=Agg l p
def Vi(n:Nat):Con 120 [.int .u8 n] (.bool (Ge n)):=by
 refine Cu mixed Tryz.func120 tr120 ?_;unfold Ge
 by_cases h1:97<=n<;>by_cases h2:n<=122<;>by_cases h3:65<=n<;>by_cases h4:n<=90 <;>
  simp only[go_sem,seval,h1,h2,h3,h4,show ((97:Int)<=(n:Int))=(97<=n) from propext (by omega),show ((n:Int)<=122)=(n<=122) from propext (by omega),show ((65:Int)<=(n:Int))=(65<=n) from propext (by omega),show ((n:Int)<=90)=(n<=90) from propext (by omega),decide_true,decide_false,q_lc,q_le,Bool.or_true,Bool.or_false,q_ld,q_lf,Bool.false_or,Bool.true_or]
def Vh(n:Nat):Con 121 [.int .u8 n] (.bool (Fv n)):=by
 refine Cu mixed Tryz.func121 tr121 ?_;unfold Fv
 by_cases h1:48<=n<;>by_cases h2:n<=57 <;>
  simp only[go_sem,seval,h1,h2,show ((48:Int)<=(n:Int))=(48<=n) from propext (by omega),show ((n:Int)<=57)=(n<=57) from propext (by omega),decide_true,decide_false,q_lc,q_le,q_ld,q_lf]
def Lr(n:Nat):Con 81 [.int .u8 n] (.bool (Ge n)):=by
 refine Cu mixed Tryz.func81 tr81 ?_;unfold Ge
 by_cases h1:97<=n<;>by_cases h2:n<=122<;>by_cases h3:65<=n<;>by_cases h4:n<=90 <;>
  simp only[go_sem,seval,h1,h2,h3,h4,ge_iff_le,show ((97:Int)<=(n:Int))=(97<=n) from propext (by omega),show ((n:Int)<=122)=(n<=122) from propext (by omega),show ((65:Int)<=(n:Int))=(65<=n) from propext (by omega),show ((n:Int)<=90)=(n<=90) from propext (by omega),decide_true,decide_false,q_lc,q_le,Bool.or_true,Bool.or_false,q_ld,q_lf,Bool.false_or,Bool.true_or]
def Na(n:Nat):Con 82 [.int .u8 n] (.bool (Fv n)):=by
 refine Cu mixed Tryz.func82 tr82 ?_;unfold Fv
 by_cases h1:48<=n<;>by_cases h2:n<=57 <;>
  simp only[go_sem,seval,h1,h2,ge_iff_le,show ((48:Int)<=(n:Int))=(48<=n) from propext (by omega),show ((n:Int)<=57)=(n<=57) from propext (by omega),decide_true,decide_false,q_lc,q_le,q_ld,q_lf]
def Ka{a b:Nat}(h:a≠b):((a:Int)==(b:Int))=false:=by rw[Aen];simp[h]
end Go.Proofs.YtgfehkhcmnfpaaaGreatDoor.Abs
namespace Go.Proofs
open Go.Shelf
def Tryz.laysM246_ren:Go.Shelf.Ren:=⟨fun|246=>133|283=>157|284=>158|285=>159|286=>160|129=>192|317=>191|318=>193|319=>194|320=>195|337=>216|338=>217|n=>n,fun|2=>2|3=>3|9=>9|4=>4|171=>177|0=>0|53=>92|37=>51|5=>5|173=>180|212=>208|51=>209|20=>20|213=>210|46=>211|232=>237|233=>238|n=>n,fun|17=>0|18=>2|19=>3|n=>n⟩
def Tryz.laysM246:Go.Proofs.LaysM.n246 Tryz.prog Tryz.laysM246_ren:={
 mixed:=by kernel_rfl
 f129:=Tryz.func192.trans (congrArg some (by kernel_rfl))
 f246:=Tryz.func133.trans (congrArg some (by kernel_rfl))
 f283:=Tryz.func157.trans (congrArg some (by kernel_rfl))
 f284:=Tryz.func158.trans (congrArg some (by kernel_rfl))
 f285:=Tryz.func159.trans (congrArg some (by kernel_rfl))
 f286:=Tryz.func160.trans (congrArg some (by kernel_rfl))
 f317:=Tryz.func191.trans (congrArg some (by kernel_rfl))
 f318:=Tryz.func193.trans (congrArg some (by kernel_rfl))
 f319:=Tryz.func194.trans (congrArg some (by kernel_rfl))
 f320:=Tryz.func195.trans (congrArg some (by kernel_rfl))
 f337:=Tryz.func216.trans (congrArg some (by kernel_rfl))
 f338:=Tryz.func217.trans (congrArg some (by kernel_rfl))
 t0:=Tryz.underlying0
 a0:=Tryz.isAgg0
 z0:=Tryz.sizeOf0
 v0:=Tryz.zeroValue0
 t2:=Tryz.underlying2
 a2:=Tryz.isAgg2
 z2:=Tryz.sizeOf2
 v2:=Tryz.zeroValue2
 t3:=Tryz.underlying3
 a3:=Tryz.isAgg3
 z3:=Tryz.sizeOf3
 v3:=Tryz.zeroValue3
 t4:=Tryz.underlying4
 a4:=Tryz.isAgg4
 z4:=Tryz.sizeOf4
 v4:=Tryz.zeroValue4
 t5:=Tryz.underlying5
 a5:=Tryz.isAgg5
 z5:=Tryz.sizeOf5
 v5:=Tryz.zeroValue5
 t9:=Tryz.underlying9
 a9:=Tryz.isAgg9
 z9:=Tryz.sizeOf9
 v9:=Tryz.zeroValue9
 t20:=Tryz.underlying20
 a20:=Tryz.isAgg20
 z20:=Tryz.sizeOf20
 v20:=Tryz.zeroValue20
 t37:=Tryz.underlying51
 a37:=Tryz.isAgg51
 z37:=Tryz.sizeOf51
 v37:=Tryz.zeroValue51
 t46:=Tryz.underlying211
 a46:=Tryz.isAgg211
 z46:=Tryz.sizeOf211
 v46:=Tryz.zeroValue211
 t51:=Tryz.underlying209
 a51:=Tryz.isAgg209
 z51:=Tryz.sizeOf209
 v51:=Tryz.zeroValue209
 t53:=Tryz.underlying92
 a53:=Tryz.isAgg92
 z53:=Tryz.sizeOf92
 v53:=Tryz.zeroValue92
 t171:=Tryz.underlying177
 a171:=Tryz.isAgg177
 z171:=Tryz.sizeOf177
 v171:=Tryz.zeroValue177
 t173:=Tryz.underlying180
 a173:=Tryz.isAgg180
 z173:=Tryz.sizeOf180
 v173:=Tryz.zeroValue180
 t212:=Tryz.underlying208
 a212:=Tryz.isAgg208
 z212:=Tryz.sizeOf208
 v212:=Tryz.zeroValue208
 t213:=Tryz.underlying210
 a213:=Tryz.isAgg210
 z213:=Tryz.sizeOf210
 t232:=Tryz.underlying237
 a232:=Tryz.isAgg237
 z232:=Tryz.sizeOf237
 v232:=Tryz.zeroValue237
 t233:=Tryz.underlying238
 a233:=Tryz.isAgg238
 z233:=Tryz.sizeOf238
 v233:=Tryz.zeroValue238
 g17:=by kernel_rfl
 g18:=by kernel_rfl
 g19:=by kernel_rfl
 i0:=by kernel_rfl
 i2:=by kernel_rfl
 i3:=by kernel_rfl
 i4:=by kernel_rfl
 i5:=by kernel_rfl
 i9:=by kernel_rfl
 i20:=by kernel_rfl
 i37:=by kernel_rfl
 i46:=by kernel_rfl
 i51:=by kernel_rfl
 i53:=by kernel_rfl
 i171:=by kernel_rfl
 i173:=by kernel_rfl
 i212:=by kernel_rfl
 i232:=by kernel_rfl
 i233:=by kernel_rfl
 m17:=by kernel_rfl
 m18:=by kernel_rfl
 m19:=by kernel_rfl }
end Go.Proofs
namespace Go.Proofs.YtgfehkhcmnfpaaaGreatDoor.Abs
open Go Go.Proofs Go.Proofs.YtgfehkhcmnfpaaaGreatDoor
def af63:AF:=⟨5,[(.t 2)],(Ab [oP 2 (.mv (At []))] (Ab [Aa 3 0,oP 4 (.call 96 [(.t 3)]),Aa 2 4] .ret))⟩
def tr63:trF Tryz.prog Tryz.f63=some af63:=by kernel_rfl
attribute [go_sem] af63
def af96:AF:=⟨5,[(.t 2)],(Ab [oP 2 (.mv (At []))] (Ab [Aa 3 0,oP 4 (.call 133 [(.t 3),(cI 10)]),Aa 2 4] .ret))⟩
def tr96:trF Tryz.prog Tryz.f96=some af96:=by kernel_rfl
attribute [go_sem] af96
open Go Go.RowKit Go.Proofs.YtgfehkhcmnfpaaaGreatDoor
def I64(n:Int):Prop:=-9223372036854775808<=n/\n<=9223372036854775807
def Apl{n:Int}(h:I64 n):Con 133 [.int .i64 n,.int .i64 10] (.str (bs (Lib.itoa n))):=by
 intro m w vs h1 h2 h3;obtain⟨v,u,rfl⟩:∃v u,vs=[v,u]:=by
  match vs,h2 with
  |[v,u],_=>exact⟨v,u,rfl⟩
 have hv:=h3 0 v _ rfl rfl;have hu:=h3 1 u _ rfl rfl;cases hv;cases hu;obtain⟨⟨e,f,ht⟩,_⟩:=h1.2.2 _ rfl;have hg:Tryz.prog.globalNamed _=some 0:=Tryz.laysM246.m17;refine Calls.mono (Any.internal_strconv_FormatInt_10 Tryz.laysM246 n h.1 h.2 w ?_) (fun e w' he=>?_)
 ·unfold Lib.TabIs World.var?;rw[hg];simp only[Option.bind_some,ht,Lib.pow10Tab,List.map_map];rfl
 ·obtain⟨rfl,k,os,rfl⟩:=he;have hb:=Lib.below_grow w.heap.size w (q_ja _) k os;refine⟨_,m,rfl,.str _,⟨.refl m,rfl⟩,fun _ _ _=>rfl,?_,hb.os,hb.tape,hb.output,hb.size,fun j hj=>hb.block j hj⟩;refine⟨fun b j v hv=>?_,fun b Ea=>?_,fun b Ea=>?_⟩
  ·have:=h1.1 b j v hv;rw[hb.cell (p:=⟨b,j,none⟩) (Wu this)];exact this
  ·obtain⟨c,e,h⟩:=h1.2.1 b Ea;exact⟨c,e,(hb.block b (Array.getElem?_eq_some_iff.1 h).1).trans h⟩
  ·obtain⟨⟨e,f,h⟩,q⟩:=h1.2.2 b Ea;exact⟨⟨e,f,(hb.block b (Array.getElem?_eq_some_iff.1 h).1).trans h⟩,q⟩
def Acb{n:Int}(h:I64 n):Con 32 [.int .i64 n] (.str (bs (Lib.itoa n))):=by
 refine Cu mixed Tryz.func32 tr32 ?_;simp only[go_sem,seval];refine Ag (r:=.str (bs (Lib.itoa n))) ?_ ?_
 ·refine Cu mixed Tryz.func63 tr63 ?_;simp only[go_sem,seval];refine Ag (r:=.str (bs (Lib.itoa n))) ?_ ?_
  ·refine Cu mixed Tryz.func96 tr96 ?_;simp only[go_sem,seval];refine Ag (Apl h) ?_;simp only[go_sem,seval]
  ·simp only[go_sem,seval]
 ·simp only[go_sem,seval]
def Ams(w:By){i:Nat}(h:i<w.length):Ed (w.take (i+1))=10*Ed (w.take i)+(chN w i-48):=by
 unfold Ed chN;rw[List.take_add_one,q_f h,List.foldl_append];simp[q_j,q_f h]
def Amr(w:By)(h:∀c∈w,Gs c=true):Ed w<10 ^ w.length:=by
 have key:∀(w:By) (n:Nat),(∀c∈w,Gs c=true)->w.foldl (fun n c=>10*n+(c.toNat-48)) n<(n+1)*10 ^ w.length:=by
  intro w
  induction w with
  |nil=>intro n _;simp
  |cons c w ih=>
   intro n h;have hc:=h c (by simp);unfold Gs Fv at hc;simp only[q_jl,q_jt] at hc;have h1:=ih (10*n+(c.toNat-48)) (fun d hd=>h d (List.mem_cons_of_mem _ hd));rw[List.foldl_cons,q_jk,Nat.pow_succ];refine q_ko h1 ?_;rw[Nat.mul_comm (10 ^ w.length) 10,<-Nat.mul_assoc];exact q_jy _ (by omega)
 simpa [Ed] using key w 0 h
def Acv{w:By}(h:w.all Gs=false):Do w=none:=by
 unfold Do;split
 ·rfl
 ·simp[h]
def Ab8(w:By):Con 122 [.str (bs w)] (.tup [.int .i64 ((Do w).getD 0:Nat),.bool (Do w).isSome]):=by
 refine Cu mixed Tryz.func122 tr122 ?_
 by_cases h0:w.length=0
 ·have e:Do w=none:=by unfold Do;rw[if_pos (.inl h0)]
  rw[e];simp only[go_sem,seval,h0];rfl
 by_cases h7:7<w.length
 ·have e:Do w=none:=by unfold Do;rw[if_pos (.inr h7)]
  rw[e];have n0:((w.length:Int)==0)=false:=by rw[beq_eq_false_iff_ne];omega
  simp only[go_sem,seval,n0,q_jn (show (w.length:Int) > 7 by omega)];rfl
 have n0:((w.length:Int)==0)=false:=by rw[beq_eq_false_iff_ne];omega
 simp only[go_sem,seval,n0,q_je (show ¬(w.length:Int) > 7 by omega)];refine Afs (fun x=>⟨(.str (bs w)::.J::.J::.J::.int .i64 (Ed (w.take x))::jk8 (jk2 (.int .i64 w.length::.int .i64 x::Ef (jk8 (jk4 (jk2 ([]))))))),[]⟩) w.length (fun x=>Fv (chN w x)=true) (fun x hx hp=>?_) (Bv (by simp[Bm,Ed]));have hd:∀c∈w.take x,Gs c=true:=fun c hc=>by
  obtain⟨i,hi,rfl⟩:=List.getElem_of_mem hc;have Lb:i<x:=by rw[q_kf] at hi;omega
  have hi3:i<w.length:=by omega
  have:=hp i Lb;unfold chN at this;rw[q_j,q_f hi3] at this;rw[List.getElem_take];exact this
 have hv:=Amr _ hd;have Kw:10 ^ (w.take x).length<=10 ^ 7:=Nat.pow_le_pow_right (by decide) (by rw[q_kf];omega);have hv7:Ed (w.take x)<10000000:=q_ko hv (by simpa using Kw)
 by_cases Am:x<w.length
 ·have e0:(0:Int)<=(x:Int):=by omega
  have e1:(x:Int)<(w.length:Int):=by omega
  have hw:IntKind.i64.wrap ((x:Int)+1)=((x+1:Nat):Int):=by rw[w64 (by unfold fit;omega)];omega
  cases Ii:Fv (chN w x)
  ·have e:Do w=none:=Acv (by rw[List.all_eq_false];exact⟨w[x],q_kd Am,by
    unfold chN at Ii;rw[q_j,q_f Am] at Ii;simp only[q_jz] at Ii;simp[Gs,Ii]⟩)
   rw[e];unfold Fv at Ii
   by_cases c1:48<=chN w x
   ·have c2:¬chN w x<=57:=by intro h;simp[c1,h] at Ii
    simp only[go_sem,seval,Cq,e0,e1,Am,q_jn e1,q_je (show ¬((chN w x:Nat):Int)<48 by omega),q_jn (show ((chN w x:Nat):Int) > 57 by omega)];rfl
   ·simp only[go_sem,seval,Cq,e0,e1,Am,q_jn e1,q_jn (show ((chN w x:Nat):Int)<48 by omega)];rfl
  ·have w7:=Ii;unfold Fv at Ii;simp only[q_jl,q_jt] at Ii;obtain⟨c1,c2⟩:=Ii;have hs:IntKind.u8.wrap (((chN w x:Nat):Int)-48)=((chN w x-48:Nat):Int):=by
    have:((chN w x:Nat):Int)-48=((chN w x-48:Nat):Int):=by omega
    rw[this];unfold IntKind.wrap;simp[IntKind.bits,IntKind.signed];omega
   have Bc:IntKind.i64.wrap ((chN w x-48:Nat):Int)=((chN w x-48:Nat):Int):=w64 (by unfold fit;omega);have hm:IntKind.i64.wrap (10*((Ed (w.take x):Nat):Int))=((10*Ed (w.take x):Nat):Int):=by rw[w64 (by unfold fit;omega)];omega
   have ha:IntKind.i64.wrap (((10*Ed (w.take x):Nat):Int)+((chN w x-48:Nat):Int))=((Ed (w.take (x+1)):Nat):Int):=by rw[Ams w Am,w64 (by unfold fit;omega)];omega
   simp only[go_sem,seval,Cq,e0,e1,Am,q_jn e1,q_je (show ¬((chN w x:Nat):Int)<48 by omega),q_je (show ¬((chN w x:Nat):Int) > 57 by omega),hs,Bc,hm,ha,hw]
   first|exact⟨Am,w7,Bv (by simp[Bm])⟩|exact⟨w7,Bv (by simp[Bm])⟩|exact Bv (by simp[Bm])
 ·have Gh:x=w.length:=by omega
  subst Gh;rw[q_kk] at *
  have Gb:w.all Gs=true:=List.all_eq_true.2 hd;have e1:¬(w.length:Int)<(w.length:Int):=by omega
  have cp:=Acb (n:=(Ed w:Int)) ⟨by omega,by omega⟩
  by_cases hb:1000000<Ed w
  ·have e:Do w=none:=by
    unfold Do;rw[if_neg (by omega),if_pos Gb,if_pos (.inl hb)]
   rw[e];simp only[go_sem,seval,q_je e1,q_jn (show ((Ed w:Nat):Int) > 1000000 by omega)];rfl
  ·simp only[go_sem,seval,q_je e1,q_je (show ¬((Ed w:Nat):Int) > 1000000 by omega)];refine Ag cp ?_
   by_cases he:Lib.itoa (Ed w:Nat)=w
   ·have e:Do w=some (Ed w):=by
     unfold Do;rw[if_neg (by omega),if_pos Gb,if_neg (by intro h;rcases h with h|h;exact hb h;exact h he)]
    rw[e];have hq:(Lib.itoa (Ed w:Nat)==w)=true:=by rw[he];simp
    simp only[go_sem,seval,hq];rfl
   ·have e:Do w=none:=by
     unfold Do;rw[if_neg (by omega),if_pos Gb,if_pos (.inr he)]
    rw[e];have hq:(Lib.itoa (Ed w:Nat)==w)=false:=by simp[he]
    simp only[go_sem,seval,hq];rfl
def Kf{l:By}{a:Nat}(h:a<l.length):l.drop a=l.getD a 0::l.drop (a+1):=by
 rw[List.drop_eq_getElem_cons h,q_j,q_f h];rfl
def Qj{l:By}{a:Nat}(h:¬a<l.length):l.drop a=[]:=List.drop_eq_nil_of_le (by omega)
def sk_f{l:By}{a:Nat}(h:a<l.length):skF false (l.drop a)=if chN l a=32\/chN l a=9\/chN l a=10 then skF false (l.drop (a+1))+1 else if chN l a=59 then skF true (l.drop (a+1))+1 else 0:=by
 rw[Kf h];rfl
def sk_t{l:By}{a:Nat}(h:a<l.length):skF true (l.drop a)=if chN l a=10 then skF false (l.drop (a+1))+1 else skF true (l.drop (a+1))+1:=by
 rw[Kf h];rfl
def A3f{P:UInt8->Bool}(d:UInt8):∀(r:By),(∀q,q<(r.takeWhile P).length->P (r.getD q d)=true)/\((r.takeWhile P).length<r.length->P (r.getD (r.takeWhile P).length d)=false)/\r.dropWhile P=r.drop (r.takeWhile P).length/\r.takeWhile P=r.take (r.takeWhile P).length/\(r.takeWhile P).length<=r.length:=by
 intro r
 induction r with
 |nil=>simp
 |cons c r ih=>
  obtain⟨i1,i2,i3,i4,i5⟩:=ih;cases hc:P c with
  |false=>simp[List.takeWhile_cons,List.dropWhile_cons,hc]
  |true=>
   simp only[List.takeWhile_cons,List.dropWhile_cons,hc,if_true,q_jk,List.drop_succ_cons,List.take_succ_cons];refine⟨fun q hq=>?_,fun h=>?_,i3,by rw[<-i4],by omega⟩
   ·cases q with
    |zero=>simpa using hc
    |succ q=>simpa using i1 q (by omega)
   ·simpa using i2 (by omega)
def Ag4(l:By)(hl:l.length<1000000000000){p:Nat}(hp:p<=l.length):Con 75 [.str (bs l),.int .i64 p] (.int .i64 ((p+skF false (l.drop p):Nat):Int)):=by
 refine Cu mixed Tryz.func75 tr75 ?_;simp only[go_sem,seval];refine Hv (fun a:Nat=>⟨(.str (bs l)::.int .i64 a::.J::.J::.int .i64 0::Ef (jk8 (jk4 (.J::[])))),[]⟩) (fun a=>l.length-a) (fun a=>p<=a/\a<=l.length/\a+skF false (l.drop a)=p+skF false (l.drop p)) (fun a ha=>?_) p ⟨q_ja _,hp,rfl⟩ (Bv (by simp[Bm]));obtain⟨h1,h2,h3⟩:=ha
 by_cases hq:a<l.length
 ·have e0:(0:Int)<=(a:Int):=by omega
  have e1:(a:Int)<(l.length:Int):=by omega
  have hs:=sk_f hq;have hw:IntKind.i64.wrap ((a:Int)+1)=((a+1:Nat):Int):=by rw[w64 (by unfold fit;omega)];omega
  by_cases c1:chN l a=32\/chN l a=9\/chN l a=10
  ·rw[if_pos c1] at hs;have d1:=fun (n:Nat) (h:chN l a≠n)=>Ka h
   rcases c1 with c|c|c
   all_goals
    simp only[go_sem,seval,Cq,e0,e1,hq,c];refine⟨a+1,⟨by omega,by omega,by omega,by omega⟩,?_⟩;rw[hw];exact Bv (by simp[Bm])
  ·rw[if_neg c1] at hs;have c2:chN l a≠32:=fun h=>c1 (.inl h)
   have c3:chN l a≠9:=fun h=>c1 (.inr (.inl h))
   have c4:chN l a≠10:=fun h=>c1 (.inr (.inr h))
   have d2:=Ka c2;have d3:=Ka c3;have d4:=Ka c4;simp only[Int.cast_ofNat_Int] at d2 d3 d4
   by_cases c5:chN l a=59
   ·rw[if_pos c5] at hs;have d5:((chN l a:Nat):Int)=59:=by omega
    simp only[go_sem,seval,Cq,e0,e1,hq,c5];refine Hv (fun b:Nat=>⟨(.str (bs l)::.int .i64 b::.J::.J::.int .i64 0::Ef (jk8 (jk4 (.J::[])))),[]⟩) (fun b=>l.length-b) (fun b=>a<=b/\b<=l.length/\((b=a/\True)\/a<b/\b+skF true (l.drop b)=a+skF false (l.drop a))) (fun b hb=>?_) a ⟨q_ja _,by omega,.inl ⟨rfl,trivial⟩⟩ (Bv (by simp[Bm]));obtain⟨b1,b2,b3⟩:=hb
    by_cases hq2:b<l.length
    ·have f0:(0:Int)<=(b:Int):=by omega
     have f1:(b:Int)<(l.length:Int):=by omega
     have hw2:IntKind.i64.wrap ((b:Int)+1)=((b+1:Nat):Int):=by rw[w64 (by unfold fit;omega)];omega
     have ht:=sk_t hq2;have hf:=sk_f hq2
     by_cases c6:chN l b=10
     ·rw[if_pos c6] at ht;rw[if_pos (.inr (.inr c6))] at hf;simp only[go_sem,seval,Cq,f0,f1,hq2,c6];have:a<b:=by
       rcases b3 with⟨rfl,_⟩|h
       ·exact absurd c6 c4
       ·exact h.1
      exact⟨b,⟨by omega,by omega,by omega,by omega⟩,Bv (by simp[Bm])⟩
     ·rw[if_neg c6] at ht;have d6:=Ka c6;simp only[Int.cast_ofNat_Int] at d6;have d7:(((chN l b:Nat):Int) != 10)=true:=by simp[bne,d6]
      simp only[go_sem,seval,Cq,f0,f1,hq2,d6,d7];refine⟨b+1,⟨by omega,by omega,by omega,.inr ⟨by omega,?_⟩⟩,?_⟩
      ·rcases b3 with⟨rfl,_⟩|h
       ·omega
       ·omega
      ·rw[hw2];exact Bv (by simp[Bm])
    ·have f1:¬(b:Int)<(l.length:Int):=by omega
     have:b=l.length:=by omega
     subst this;simp only[go_sem,seval,f1];have h5:((l.length=a/\True)\/a<l.length/\l.length+skF true (l.drop l.length)=a+skF false (l.drop a)):=b3;rw[Qj (Nat.lt_irrefl _)] at h5;simp only[skF] at h5;refine⟨l.length,⟨by omega,by omega,by omega,?_⟩,Bv (by simp[Bm])⟩;rw[Qj (Nat.lt_irrefl _)];simp only[skF];omega
   ·rw[if_neg c5] at hs;have d5:=Ka c5;simp only[Int.cast_ofNat_Int] at d5;have:a=p+skF false (l.drop p):=by omega
    simp only[go_sem,seval,Cq,e0,e1,hq,d2,d3,d4,d5,<-this]
 ·have e1:¬(a:Int)<(l.length:Int):=by omega
  rw[Qj hq] at h3;simp only[skF] at h3;simp only[go_sem,seval,e1,<-h3]
def Xh{P:UInt8->Bool}{l:By}{p:Nat}(hp:p<l.length){w:By}(hw:w=(l.drop (p+1)).takeWhile P) :
  p+1+w.length<=l.length/\(∀q,p<q->q<p+1+w.length->P (l.getD q 0)=true)/\(p+1+w.length<l.length->P (l.getD (p+1+w.length) 0)=false)/\(l.drop p).take (1+w.length)=l.getD p 0::w/\(l.drop (p+1)).dropWhile P=l.drop (p+1+w.length):=by
 have hr:l.drop (p+1)=l.drop (p+1):=rfl;have hl:(l.drop (p+1)).length=l.length-(p+1):=by simp
 subst hw;obtain⟨a1,a2,a3,a4,a5⟩:=A3f (P:=P) 0 (l.drop (p+1));have hg:∀q,(l.drop (p+1)).getD q 0=l.getD (p+1+q) 0:=fun q=>by simp[q_j,q_kj]
 refine⟨by omega,fun q h1 h2=>?_,fun h=>?_,?_,?_⟩
 ·have:=a1 (q-(p+1)) (by omega);rw[hg,show p+1+(q-(p+1))=q by omega] at this;exact this
 ·have:=a2 (by omega);rw[hg] at this;exact this
 ·rw[Kf hp,q_ks 1,List.take_succ_cons,<-a4]
 ·rw[a3,List.drop_drop]
def Agy{l:By}(hl:l.length<1000000000000){p:Nat}(hp:p<l.length):Con 76 [.str (bs l),.int .i64 p] (.tup [.agg true (De (Ck p (l.drop p)).1),.bool (Ck p (l.drop p)).2]):=by
 have e0:(0:Int)<=(p:Int):=by omega
 have Zd:IntKind.i64.wrap ((p:Int)+1)=((p+1:Nat):Int):=by rw[w64 (by unfold fit;omega)];omega
 refine Cu mixed Tryz.func76 tr76 ?_;rw[Kf hp];have hcc:(l.getD p 0).toNat=chN l p:=rfl
 by_cases c1:chN l p=40
 ·have e:Ck p (l.getD p 0::l.drop (p+1))=(⟨1,[40],p⟩,true):=by rw[Ck,if_pos (hcc.trans c1)]
  rw[e];simp only[go_sem,seval,Cq,e0,hp,c1];rfl
 by_cases c2:chN l p=41
 ·have e:Ck p (l.getD p 0::l.drop (p+1))=(⟨2,[41],p⟩,true):=by rw[Ck,hcc,if_neg c1,if_pos c2]
  rw[e];simp only[go_sem,seval,Cq,e0,hp,c2];rfl
 have d1:=Ka c1;have d2:=Ka c2;simp only[Int.cast_ofNat_Int] at d1 d2;cases c3:Ge (chN l p);rotate_left
 ·obtain⟨w,hw⟩:∃w,w=(l.drop (p+1)).takeWhile j8:=⟨_,rfl⟩
  obtain⟨t1,t2,t3,t4,t5⟩:=Xh hp hw;have e:Ck p (l.getD p 0::l.drop (p+1))=(⟨3,l.getD p 0::w,p⟩,decide (w.length<20)):=by rw[Ck,hcc,if_neg c1,if_neg c2,if_pos c3,<-hw]
  rw[e,<-t4];simp only[go_sem,seval,Cq,e0,hp,d1,d2];refine Ag (Vi _) ?_;simp only[go_sem,seval,c3];rw[Zd];generalize hE:p+1+w.length=E at t1 t2 t3;refine Hv (fun a:Nat=>⟨(.str (bs l)::.int .i64 p::.J::.J::.ref 0 0 0 0::.bool false::.J::.int .i64 a::jk4 (jk2 (.J::.bool false::jk4 (.bool false::jk4 (.bool true::Cm (Cm (jk8 (jk2 ([]))))))))),[⟨true,3,[[.int .i64 0,.str (bs []),.int .i64 0]],0,0,true⟩]⟩) (fun a=>E-a) (fun a=>p<a/\a<=E) (fun a ha=>?_) (p+1) ⟨by omega,by omega⟩ ?_
  ·by_cases hq:a<E
   ·have hc:=t2 a ha.1 hq;have f0:(0:Int)<=(a:Int):=by omega
    have f1:(a:Int)<(l.length:Int):=by omega
    have f2:a<l.length:=by omega
    have hc:(Ge (chN l a) || Fv (chN l a))=true:=hc;simp only[go_sem,seval,Cq,f0,f1,f2];refine Ag (Vi _) ?_;cases h1:Ge (chN l a)
    ·rw[h1,Bool.false_or] at hc;simp only[go_sem,seval,Cq,f0,f1,f2];refine Ag (Vh _) ?_;simp only[go_sem,seval,hc];refine⟨a+1,⟨by omega,by omega⟩,?_⟩;rw[show ((a:Int)+1)=((a+1:Nat):Int) by omega,w64 (by unfold fit;omega)];exact Bv (by simp[Bm])
    ·simp only[go_sem,seval];refine⟨a+1,⟨by omega,by omega⟩,?_⟩;rw[show ((a:Int)+1)=((a+1:Nat):Int) by omega,w64 (by unfold fit;omega)];exact Bv (by simp[Bm])
   ·have Og:a=E:=by omega
    subst Og;have g0:(0:Int)<=(p:Int):=by omega
    have g1:(p:Int)<=(a:Int):=by omega
    have g2:(a:Int)<=(l.length:Int):=by omega
    have g3:(0:Int)<=(a:Int):=by omega
    have g4:p<=a:=by omega
    have g5:a<=l.length:=by omega
    have g6:decide (IntKind.i64.wrap ((a:Int)-p)<=20)=decide (w.length<20):=by rw[w64 (by unfold fit;omega)];exact decide_eq_decide.2 (by omega)
    have g7:a-p=1+w.length:=by omega
    by_cases Am:a<l.length
    ·have hc:(Ge (chN l a) || Fv (chN l a))=false:=t3 Am;rw[q_ky] at hc;have f1:(a:Int)<(l.length:Int):=by omega
     simp only[go_sem,seval,Cq,g3,f1,Am];refine Ag (Vi _) ?_;rw[hc.1];simp only[go_sem,seval,Cq,g3,f1,Am];refine Ag (Vh _) ?_;rw[hc.2];simp only[go_sem,seval,g0,g1,g2,g3,g4,g5,g6,g7];rfl
    ·have f1:¬(a:Int)<(l.length:Int):=by omega
     simp only[go_sem,seval,f1,g0,g1,g2,g3,g4,g5,g6,g7];rfl
  ·exact Bv (by simp[Bm])
 cases c4:Fv (chN l p)
 ·have e:Ck p (l.getD p 0::l.drop (p+1))=(⟨0,[],0⟩,false):=by rw[Ck,hcc,if_neg c1,if_neg c2,c3,c4];rfl
  rw[e];simp only[go_sem,seval,Cq,e0,hp,d1,d2];refine Ag (Vi _) ?_;rw[c3];simp only[go_sem,seval,Cq,e0,hp,d1,d2];refine Ag (Vh _) ?_;rw[c4];simp only[go_sem,seval];rfl
 ·obtain⟨w,hw⟩:∃w,w=(l.drop (p+1)).takeWhile Gs:=⟨_,rfl⟩
  obtain⟨t1,t2,t3,t4,t5⟩:=Xh hp hw;have e:Ck p (l.getD p 0::l.drop (p+1))=(⟨4,l.getD p 0::w,p⟩,(Do (l.getD p 0::w)).isSome && (match l.drop (p+1+w.length) with|[]=>true|d::_=>!Ge d.toNat)):=by rw[Ck,hcc,if_neg c1,if_neg c2,c3,c4,<-hw,t5];rfl
  rw[e,<-t4];have cg:=Ab8 ((l.drop p).take (1+w.length));generalize hE:p+1+w.length=E at t1 t2 t3 e |-;simp only[go_sem,seval,Cq,e0,hp,d1,d2];refine Ag (Vi _) ?_;rw[c3];simp only[go_sem,seval,Cq,e0,hp,d1,d2];refine Ag (Vh _) ?_;rw[c4];simp only[go_sem,seval,Zd];refine Hv (fun a:Nat=>⟨(.str (bs l)::.int .i64 p::.J::.J::.ref 0 0 0 0::.bool false::.J::.int .i64 a::Cm (Cm (Ef (jk8 (jk4 ([])))))),[⟨true,3,[[.int .i64 0,.str (bs []),.int .i64 0]],0,0,true⟩]⟩) (fun a=>E-a) (fun a=>p<a/\a<=E) (fun a ha=>?_) (p+1) ⟨by omega,by omega⟩ ?_
  ·by_cases hq:a<E
   ·have hc:Fv (chN l a)=true:=t2 a ha.1 hq;have f0:(0:Int)<=(a:Int):=by omega
    have f1:(a:Int)<(l.length:Int):=by omega
    have f2:a<l.length:=by omega
    simp only[go_sem,seval,Cq,f0,f1,f2];refine Ag (Vh _) ?_;simp only[go_sem,seval,hc];refine⟨a+1,⟨by omega,by omega⟩,?_⟩;rw[show ((a:Int)+1)=((a+1:Nat):Int) by omega,w64 (by unfold fit;omega)];exact Bv (by simp[Bm])
   ·have Og:a=E:=by omega
    subst Og;have g1:(p:Int)<=(a:Int):=by omega
    have g2:(a:Int)<=(l.length:Int):=by omega
    have g3:(0:Int)<=(a:Int):=by omega
    have g4:p<=a:=by omega
    have g7:a-p=1+w.length:=by omega
    by_cases Am:a<l.length
    ·have hc:Fv (chN l a)=false:=t3 Am;have f1:(a:Int)<(l.length:Int):=by omega
     have f2:((a:Int)==(l.length:Int))=false:=Ka (by omega);simp only[go_sem,seval,Cq,g3,f1,Am];refine Ag (Vh _) ?_;rw[hc];rw[Kf Am];have hcd:(l.getD a 0).toNat=chN l a:=rfl;simp only[hcd];simp only[go_sem,seval,e0,g1,g2,g3,g4,g7];refine Ag cg ?_;cases hb:(Do ((l.drop p).take (1+w.length))).isSome
     ·simp only[go_sem,seval,e0,g1,g2,g3,g4,g7];rfl
     ·simp only[go_sem,seval,Cq,e0,g1,g2,g3,g4,g7,f2,f1,Am];refine Ag (Vi _) ?_;simp only[go_sem,seval];rfl
    ·have f1:¬(a:Int)<(l.length:Int):=by omega
     have f2:((a:Int)==(l.length:Int))=true:=by rw[Aen];simp;omega
     rw[Qj Am];simp only[go_sem,seval,f1,e0,g1,g2,g3,g4,g7];refine Ag cg ?_;cases hb:(Do ((l.drop p).take (1+w.length))).isSome
     ·simp only[go_sem,seval,e0,g1,g2,g3,g4,g7];rfl
     ·simp only[go_sem,seval,Cq,e0,g1,g2,g3,g4,g7,f2,f1,Am];rfl
  ·exact Bv (by simp[Bm])
def Pe{l:By}{q:Nat}(hq:q<l.length)(ho:(Ck q (l.drop q)).2=true) :
  1<=(Ck q (l.drop q)).1.w.length/\q+(Ck q (l.drop q)).1.w.length<=l.length/\(Ck q (l.drop q)).1.w=(l.drop q).take (Ck q (l.drop q)).1.w.length/\(Ck q (l.drop q)).1.p=q/\1<=(Ck q (l.drop q)).1.k/\(Ck q (l.drop q)).1.k<=4:=by
 have Gd:(l.drop q).take 1=[l.getD q 0]:=by rw[Kf hq];rfl
 have hcc:(l.getD q 0).toNat=chN l q:=rfl;have hch:∀n,n<256->chN l q=n->l.getD q 0=UInt8.ofNat n:=fun n hn h=>by unfold chN at h;rw[<-h];simp
 revert ho;rw[Kf hq,Ck,hcc];rw[Kf hq] at Gd;split
 ·rename_i h;intro _;refine⟨by simp,by show q+1<=_;omega,?_,rfl,by simp,by simp⟩;show [40]=_;rw[show (([40]:By)).length=1 from rfl,Gd,hch 40 (by decide) h];rfl
 split
 ·rename_i h;intro _;refine⟨by simp,by show q+1<=_;omega,?_,rfl,by simp,by simp⟩;show [41]=_;rw[show (([41]:By)).length=1 from rfl,Gd,hch 41 (by decide) h];rfl
 split
 ·intro _;obtain⟨t1,_,_,t4,_⟩:=Xh (P:=j8) hq rfl;refine⟨by simp,by simp only[q_jk];omega,?_,rfl,by simp,by simp⟩;show _::_=_;rw[Kf hq,q_ks 1 (List.length _)] at t4;rw[q_jk];exact t4.symm
 split
 ·intro _;obtain⟨t1,_,_,t4,_⟩:=Xh (P:=Gs) hq rfl;refine⟨by simp,by simp only[q_jk];omega,?_,rfl,by simp,by simp⟩;show _::_=_;rw[Kf hq,q_ks 1 (List.length _)] at t4;rw[q_jk];exact t4.symm
 ·intro h;cases h
inductive LxG(l:By):Nat->List Tok->Option Nat->Prop
 |nil:LxG l l.length [] none
 |bad {q:Nat} (hq:q<l.length) (h:(Ck q (l.drop q)).2=false):LxG l q [] (some q)
 |tok {q:Nat} {ts:List Tok} {e:Option Nat} (hq:q<l.length) (h:(Ck q (l.drop q)).2=true)
   (r:LxG l (q+(Ck q (l.drop q)).1.w.length+skF false (l.drop (q+(Ck q (l.drop q)).1.w.length))) ts e):LxG l q ((Ck q (l.drop q)).1::ts) e
def Axj(l:By):∀(f p:Nat),p<=l.length->l.length-p<f->LxG l (p+skF false (l.drop p)) (Ws f p (l.drop p)).1 (Ws f p (l.drop p)).2:=by
 intro f
 induction f with
 |zero=>intro p h1 h2;omega
 |succ f ih=>
  intro p h1 h2;have hk:=A1v (l.drop p) false;rw[q_kg] at hk;unfold Ws;rw[List.drop_drop]
  by_cases hq:p+skF false (l.drop p)<l.length
  ·have hd:=Kf hq;split
   ·rename_i h;rw[hd] at h;cases h
   ·rename_i hs;cases ho:(Ck (p+skF false (l.drop p)) (l.drop (p+skF false (l.drop p)))).2
    ·rw[if_neg (by decide)];exact .bad hq ho
    ·rw[if_pos rfl];obtain⟨w1,w2,_⟩:=Pe hq ho;rw[List.drop_drop];exact .tok hq ho (ih _ w2 (by omega))
  ·have hd:=Qj hq;rw[hd];have:p+skF false (l.drop p)=l.length:=by omega
   rw[this];exact .nil
def Jz(l:By):LxG l (skF false l) (Bi l).1 (Bi l).2:=by
 have:=Axj l (l.length+1) 0 (Nat.zero_le _) (by omega);simpa [Bi] using this
def Xq(z:Nat)(l:GV):SV:=match l with
 |[]=>.nils
 |_=>.dsl z l
def Aet(l:By):List Tok×Nat->St
 |([],q)=>⟨(.str (bs l)::.J::.nils::.int .i64 0::.int .i64 0::.nils::.int .i64 q::Ef (jk8 (jk4 (.J::[])))),[]⟩
 |(t::ts,q)=>⟨(.str (bs l)::.J::.nils::.int .i64 0::.int .i64 0::.osl 2 ts.length 0 (ts.length+1)::.int .i64 q::Ef (jk8 (jk4 (.J::[])))),[⟨true,3,[De t],0,0,true⟩,⟨false,3,[De t],0,0,true⟩,⟨false,3,(t::ts).map De,ts.length,ts.length,true⟩]⟩
def Aeu(l:By)(q:Nat):Aet l ([],q)=⟨(.str (bs l)::.J::.nils::.int .i64 0::.int .i64 0::.nils::.int .i64 q::Ef (jk8 (jk4 (.J::[])))),[]⟩:=rfl
def Zt(l:By)(t:Tok)(ts:List Tok)(q:Nat):Aet l (t::ts,q)=⟨(.str (bs l)::.J::.nils::.int .i64 0::.int .i64 0::.osl 2 ts.length 0 (ts.length+1)::.int .i64 q::Ef (jk8 (jk4 (.J::[])))),[⟨true,3,[De t],0,0,true⟩,⟨false,3,[De t],0,0,true⟩,⟨false,3,(t::ts).map De,ts.length,ts.length,true⟩]⟩:=rfl
def Akh:List Tok×Option Nat->List SV
 |(ts,none)=>[Xq 3 (ts.map De),.int .i64 0,.int .i64 0]
 |(_,some p)=>[.nils,.int .i64 2,.int .i64 p]
def LxG.le{l:By}{q:Nat}{ts:List Tok}{e:Option Nat}(h:LxG l q ts e):q<=l.length/\ts.length<=l.length-q/\∀p,e=some p->p<l.length/\q<=p:=by
 induction h with
 |nil=>exact⟨q_ja _,by simp,fun p h=>by cases h⟩
 |bad hq h=>exact⟨Nat.le_of_lt hq,by simp,fun p h=>by cases h;exact⟨hq,q_ja _⟩⟩
 |@tok q ts e hq h r ih=>
  obtain⟨w1,w2,_⟩:=Pe hq h;refine⟨Nat.le_of_lt hq,?_,fun p hp=>⟨(ih.2.2 p hp).1,?_⟩⟩
  ·have:=ih.2.1;rw[q_jk];omega
  ·have:=(ih.2.2 p hp).2;omega
def Apr{l:By}(hl:l.length<1000000000000):Con 39 [.str (bs l)] (.tup (Akh (Bi l))):=by
 have hx:=Jz l;have hln:=hx.le;generalize Bi l=R at hx hln;obtain⟨R1,R2⟩:=R;simp only at hx hln;have Wl:=Ag4 l hl (Nat.zero_le _);simp only[List.drop_zero,q_jg] at Wl;refine Cu mixed Tryz.func39 tr39 ?_;simp only[go_sem,seval];refine Ag Wl ?_;simp only[go_sem,seval];refine Hv (Aet l) (fun a=>R1.length-a.1.length) (fun a=>∃rest,R1=a.1++rest/\LxG l a.2 rest R2) (fun a ha=>?_) ([],skF false l) ⟨R1,rfl,hx⟩ (Bv (by simp[Bm]));obtain⟨dn,q⟩:=a;obtain⟨rest,r1,r2⟩:=ha;simp only at r1 r2;cases r2 with
 |nil=>
  rw[q_k] at r1;subst r1;have f1:¬(l.length:Int)<(l.length:Int):=by omega
  cases R1 with
  |nil=>
   rw[Aeu];simp only[go_sem,seval,f1];rfl
  |cons t ts=>
   rw[Zt];simp only[go_sem,seval,f1];rw[q_js (by simp)];rfl
 |bad hq h=>
  have f1:(q:Int)<(l.length:Int):=by omega
  have co:=Agy hl hq;rw[h] at co;cases dn with
  |nil=>
   rw[Aeu];simp only[go_sem,seval,f1];refine Ag co ?_;simp only[go_sem,seval];exact⟨rfl,rfl⟩
  |cons d dn=>
   rw[Zt];simp only[go_sem,seval,f1];refine Ag co ?_;simp only[go_sem,seval];exact⟨rfl,rfl⟩
 |@tok _ ts _ hq h r=>
  have f1:(q:Int)<(l.length:Int):=by omega
  have co:=Agy hl hq;rw[h] at co;obtain⟨w1,w2,w3,w4,_,_⟩:=Pe hq h;have cs:=Ag4 l hl w2;have hw:IntKind.i64.wrap ((q:Int)+((Ck q (l.drop q)).1.w.length:Int))=((q+(Ck q (l.drop q)).1.w.length:Nat):Int):=by rw[w64 (by unfold fit;omega)];omega
  generalize hT:Ck q (l.drop q)=T at *
  obtain⟨⟨k,w,p⟩,ok⟩:=T;simp only at w1 w2 w3 w4 h r cs hw co;subst w4;have kt:De ⟨k,w,p⟩=[.int .i64 k,.str (bs w),.int .i64 p]:=rfl;rw[kt] at co;have Bh:R1.length=dn.length+(ts.length+1):=by rw[r1];simp
  cases dn with
  |nil=>
   rw[Aeu]
   repeat' first
   |simp only[go_sem,seval,f1,hw]
   |refine Ag co ?_
   |refine Ag cs ?_
   refine⟨([⟨k,w,p⟩],p+w.length+skF false (l.drop (p+w.length))),⟨by simp only[q_jk,List.length_nil] at Bh |-;omega,ts,r1,r⟩,?_⟩;rw[Zt];simp only[q_h,q_i,kt];exact Bv (by simp[Bm])
  |cons d dn=>
   rw[Zt];simp only[go_sem,seval,f1];refine Ag co ?_;simp only[go_sem,seval,hw];simp only[q_jk] at Bh;refine⟨⟨by simp,by omega,by omega⟩,?_⟩;refine Ag cs ?_;simp only[go_sem,seval];refine⟨(d::(dn++[⟨k,w,p⟩]),p+w.length+skF false (l.drop (p+w.length))),⟨by simp only[q_jk,q_jr,List.length_nil];omega,ts,by simp[r1],r⟩,?_⟩;rw[Zt];simp only[q_h,q_kt,q_i,kt,q_jr,q_jk,List.length_nil,q_g,q_jg];exact Fx 3 (by simp[Bm]) (by simp) (by simp[Dm]) (by simp)
def af125:AF:=⟨101,[(.cell 8 true 5),(.t 9),(.t 10)],(Ab [oP 8 Fp,oP 9 (.mv (cI 0)),oP 10 (.mv (cI 0))] (.seq (Ab [Aa 16 2,oP 17 (Ay .lss 16 0),Aa 18 17,oG 19 18 false 0 (mT 2),oG 20 18 false 0 (Ay .gtr 19 1000),oP 21 (Dk 18 20),Aa 22 21,oG 23 22 false 0 (mT 3),oG 24 22 false 0 (Ay .lss 23 0),oP 25 (Dk 22 24),Aa 26 25,oG 27 26 false 0 (mT 3),oG 28 26 false 0 (Ay .gtr 27 1000),oP 29 (Dk 26 28)] (Aj 29 (Ab [oP 30 (Gy []),oN (Ax 5 8 30),oP 9 (.mv (cI 1)),oP 10 (.mv (cI 0))] .ret) .skip)) (Ab [Aa 31 0,oP 32 (.len true (.t 31)),Aa 33 1,Aa 34 2,Aa 35 3,oP 36 (.build [.nils,(iS 0),(iS 0),.nils,(iS 0),(iS 0),(.bool false),(iS 0)] [(2,(1,(.t 32))),(3,(1,(.t 33))),(4,(1,(.t 34))),(5,(1,(.t 35)))]),oP 37 (.boxg (.t 36)),Aa 11 37] (Ab [Aa 39 0,oP 40 (.call 39 [(.t 39)]),Aa 38 40,oP 41 (.ext (.t 38) 0),oP 42 (.ext (.t 38) 1),oP 43 (.ext (.t 38) 2),Aa 12 41,Aa 13 42,Aa 14 43] (.seq (Ab [Aa 44 13,oP 45 (Ay .neq 44 0)] (Aj 45 (Ab [Aa 46 11,Aa 47 14,oP 48 (Ak 46),oP 49 (Ae 2 48),oN (Ax 1 49 47)] (Bg [Aa 51 0,Aa 52 14,oP 53 (.slc 0 (.t 51) none (some (.t 52))),oP 54 (.call 39 [(.t 53)]),Aa 50 54,oP 55 (.ext (.t 50) 0),oP 56 (.ext (.t 50) 1),oP 57 (.ext (.t 50) 2),Aa 12 55])) .skip)) (Ab [Aa 58 11,Aa 59 12,oP 60 (Ak 58),oP 61 (Ae 0 60),oN (Ax 1 61 59)] (Ab [Aa 62 11,oP 63 (.hcall 155 [(.t 62),(cI 0)]),oP 15 Fp,oN (Ax 5 15 63)] (.seq (Cx [Aa 64 11,oI 65 1 (Ak 64),oI 66 2 (Ae 6 65),oI 67 3 (Ah 66),oI 68 4 (.un .not (.t 67)),oI 69 5 (mT 68),oG 70 69 true 6 (mT 11),oG 71 69 true 7 (Ak 70),oG 72 69 true 8 (Ae 1 71),oG 73 69 true 9 (Ah 72),oG 74 69 true 10 (mT 11),oG 75 69 true 11 (Ak 74),oG 76 69 true 12 (Ae 0 75),oG 77 69 true 13 (Ah 76),oG 78 69 true 14 (.len false (.t 77)),oG 79 69 true 15 (Ca .lss 73 78),oG 80 69 true 16 (mT 79),oG 81 80 false 17 (mT 13),oG 82 80 false 18 (Ay .neq 81 0),oG 83 69 true 19 (Dk 80 82),oI 84 20 (Cf 69 83)] (Aj 84 (Bg [Aa 85 11,Aa 86 11,oP 87 (Ak 86),oP 88 (Ae 1 87),oP 89 (Ah 88),oP 90 (.hcall 156 [(.t 85),(.t 89)])]) .skip)) (.seq (Ab [Aa 91 11,oP 92 (Ak 91),oP 93 (Ae 6 92),oP 94 (Ah 93)] (Aj 94 (Cx [oP 95 (Gy []),oI 96 1 (mT 11),oI 97 2 (Ak 96),oI 98 3 (Ae 7 97),⟨(some 99),(Ah 98),none,4,true,[]⟩,⟨none,(Ax 5 8 95),none,5,false,[4]⟩,oI 9 6 (.mv (cI 2)),oI 10 7 (mT 99)] .ret) .skip)) (Ab [oP 100 (Aq 5 15),oN (Ax 5 8 100),oP 9 (.mv (cI 0)),oP 10 (.mv (cI 0))] .ret))))))))))⟩
def tr125:trF Tryz.prog Tryz.f125=some af125:=by kernel_rfl
attribute [go_sem] af125
def af155:AF:=⟨94,[(.cell 4 true 5)],(Ab [oP 4 Fp] (.seq (.blk 0 (Ab [Aa 9 0,oP 10 (Ak 9),oP 11 (Ae 6 10),oP 12 (Ah 11),Aa 8 12] (Aj 8 (Ab [oP 13 (Gy []),oN (Ax 5 4 13)] .ret) (Cx [Aa 15 0,oI 16 1 (Ak 15),oI 17 2 (Ae 1 16),oI 18 3 (Ah 17),oI 19 4 (mT 0),oI 20 5 (Ak 19),oI 21 6 (Ae 0 20),oI 22 7 (Ah 21),oI 23 8 (.len false (.t 22)),oI 24 9 (Ca .geq 18 23),oI 14 10 (mT 24)] (Aj 14 (Ab [Aa 25 0,Aa 26 0,oP 27 (Ak 26),oP 28 (Ae 1 27),oP 29 (Ah 28),oP 30 (.hcall 156 [(.t 25),(.t 29)])] (Ab [oP 31 (Gy []),oN (Ax 5 4 31)] .ret)) (Cx [Aa 33 0,oI 34 1 (Ak 33),oI 35 2 (Ae 0 34),oI 36 3 (Ah 35),oI 37 4 (mT 0),oI 38 5 (Ak 37),oI 39 6 (Ae 1 38),oI 40 7 (Ah 39),oI 41 8 (.iad 3 (.t 36) (.t 40)),oI 42 9 (Ae 0 41),oI 43 10 (Ah 42),oI 44 11 (An 43 3),oI 32 12 (mT 44)] (Aj 32 (Ab [Aa 45 0,oP 46 (.hcall 187 [(.t 45)]),oN (Ax 5 4 46)] .ret) .skip))))))) (Ab [Aa 47 0,oP 48 (.hcall 188 [(.t 47),(cI 1)])] (Ab [Aa 49 0,oP 50 (Ak 49),oP 51 (Ae 1 50),oP 52 (Ah 51),Aa 5 52] (Ab [Aa 54 0,oP 55 (.hcall 188 [(.t 54),(cI 3)]),oP 56 (.call 189 [(.t 55)]),Aa 53 56,oP 57 (.ext (.t 53) 0),oP 58 (.ext (.t 53) 1),Aa 6 57,Aa 7 58] (.seq (Ab [Aa 59 0,oP 60 (Ak 59),oP 61 (Ae 6 60),oP 62 (Ah 61)] (Aj 62 (Ab [oP 63 (Gy []),oN (Ax 5 4 63)] .ret) .skip)) (.seq (Ab [Aa 64 6,oP 65 (An 64 0),Aa 66 65,oG 67 66 false 0 (mT 1),oG 68 66 false 0 (An 67 1),oG 69 66 false 0 (mT 68),oG 70 69 true 0 (mT 6),oG 71 69 true 0 (Ay .gtr 70 12),oG 72 66 false 0 (Cf 69 71),oP 73 (Dk 66 72),Aa 74 73,oG 75 74 false 0 (mT 1),oG 76 74 false 0 (An 75 2),oG 77 74 false 0 (mT 76),oG 78 77 true 0 (mT 6),oG 79 77 true 0 (Ay .gtr 78 2),oG 80 74 false 0 (Cf 77 79),oG 81 74 false 0 (mT 80),oG 82 81 true 0 (mT 6),oG 83 81 true 0 (Ay .leq 82 12),oG 84 74 false 0 (Cf 81 83),oP 85 (Dk 74 84)] (Aj 85 (Ab [Aa 86 0,Aa 87 5,oP 88 (.hcall 156 [(.t 86),(.t 87)])] (Ab [oP 89 (Gy []),oN (Ax 5 4 89)] .ret)) .skip)) (Ab [Aa 90 0,Aa 91 6,Aa 92 7,oP 93 (.hcall 190 [(.t 90),(.t 91),(.t 92)]),oN (Ax 5 4 93)] .ret))))))))⟩
def tr155:trF Tryz.prog Tryz.f155=some af155:=by kernel_rfl
attribute [go_sem] af155
def af156:AF:=⟨36,[],(.seq (Ab [Aa 4 0,oP 5 (Ak 4),oP 6 (Ae 6 5),oP 7 (Ah 6)] (Aj 7 .ret .skip)) (Ab [Aa 8 0,Aa 9 0,Aa 10 0,oP 11 (Ak 10),oP 12 (Ae 2 11),oP 13 (Ah 12),oP 14 (Ak 8),oP 15 (Ae 6 14),oN (.store 1 (.t 15) (cB true)),oP 16 (Ak 9),oP 17 (Ae 7 16),oN (Ax 1 17 13)] (Ab [Aa 18 1,Aa 19 0,oP 20 (Ak 19),oP 21 (Ae 0 20),oP 22 (Ah 21),oP 23 (.len false (.t 22)),oP 24 (Ca .lss 18 23)] (Aj 24 (Bg [Aa 25 0,Aa 26 0,oP 27 (Ak 26),oP 28 (Ae 0 27),oP 29 (Ah 28),Aa 30 1,oP 31 (.iad 3 (.t 29) (.t 30)),oP 32 (Ae 2 31),oP 33 (Ah 32),oP 34 (Ak 25),oP 35 (Ae 7 34),oN (Ax 1 35 33)]) .skip))))⟩
def tr156:trF Tryz.prog Tryz.f156=some af156:=by kernel_rfl
attribute [go_sem] af156
def af187:AF:=⟨56,[(.cell 2 true 5)],(Ab [oP 2 Fp] (.seq (Ab [Aa 4 0,oP 5 (Ak 4),oP 6 (Ae 3 5),oP 7 (Ah 6),oP 8 (.len false (.t 7)),oP 9 (Ay .sub 8 1),Aa 3 9] (.blk 0 (.loop (.seq (Ab [Aa 10 3,oP 11 (Ay .geq 10 0)] (Et 11 0)) (.seq (.blk 1 (Cx [Aa 14 0,oI 15 1 (Ak 14),oI 16 2 (Ae 3 15),oI 17 3 (Ah 16),oI 18 4 (mT 3),oI 19 5 (.iad 1 (.t 17) (.t 18)),oI 20 6 (Ah 19),oI 21 7 (mT 0),oI 22 8 (Ak 21),oI 23 9 (Ae 0 22),oI 24 10 (Ah 23),oI 25 11 (mT 0),oI 26 12 (Ak 25),oI 27 13 (Ae 1 26),oI 28 14 (Ah 27),oI 29 15 (.iad 3 (.t 24) (.t 28)),oI 30 16 (Ae 1 29),oI 31 17 (Ah 30),oI 32 18 (.bin 4 .eql (.t 20) (.t 31))] (Aj 32 (Ab [Aa 33 0,oP 34 (Ak 33),oP 35 (Ae 1 34),oP 36 (Ah 35),oP 37 (Ay .add 36 1),oP 38 (Ak 33),oP 39 (Ae 1 38),oN (Ax 1 39 37)] (Ab [Aa 40 0,oP 41 (Ak 40),oP 42 (Ae 3 41),oP 43 (Ah 42),oP 44 (.len false (.t 43)),oP 45 (Ay .sub 44 1),Aa 46 3,oP 47 (Ca .sub 45 46),oP 48 (Gy [(0,(1,(cI 2))),(1,(1,(.t 47)))]),oN (Ax 5 2 48)] .ret)) .skip))) (Bg [Aa 12 3,oP 13 (Ay .sub 12 1),Aa 3 13])))))) (Ab [Aa 49 0,Aa 50 0,oP 51 (Ak 50),oP 52 (Ae 1 51),oP 53 (Ah 52),oP 54 (.hcall 156 [(.t 49),(.t 53)])] (Ab [oP 55 (Gy []),oN (Ax 5 2 55)] .ret))))⟩
def tr187:trF Tryz.prog Tryz.f187=some af187:=by kernel_rfl
attribute [go_sem] af187
def af188:AF:=⟨61,[(.t 4)],(Ab [oP 4 (.mv (At []))] (.seq (Cx [Aa 5 0,oI 6 1 (Ak 5),oI 7 2 (Ae 6 6),oI 8 3 (Ah 7),oI 9 4 (mT 8),oG 10 9 false 5 (mT 0),oG 11 9 false 6 (Ak 10),oG 12 9 false 7 (Ae 1 11),oG 13 9 false 8 (Ah 12),oG 14 9 false 9 (mT 0),oG 15 9 false 10 (Ak 14),oG 16 9 false 11 (Ae 0 15),oG 17 9 false 12 (Ah 16),oG 18 9 false 13 (.len false (.t 17)),oG 19 9 false 14 (Ca .geq 13 18),oI 20 15 (Dk 9 19),oI 21 16 (mT 20),oG 22 21 false 17 (mT 0),oG 23 21 false 18 (Ak 22),oG 24 21 false 19 (Ae 0 23),oG 25 21 false 20 (Ah 24),oG 26 21 false 21 (mT 0),oG 27 21 false 22 (Ak 26),oG 28 21 false 23 (Ae 1 27),oG 29 21 false 24 (Ah 28),oG 30 21 false 25 (.iad 3 (.t 25) (.t 29)),oG 31 21 false 26 (Ae 0 30),oG 32 21 false 27 (Ah 31),oG 33 21 false 28 (mT 1),oG 34 21 false 29 (Ca .neq 32 33),oI 35 30 (Dk 21 34)] (Aj 35 (Ab [Aa 36 0,Aa 37 0,oP 38 (Ak 37),oP 39 (Ae 1 38),oP 40 (Ah 39),oP 41 (.hcall 156 [(.t 36),(.t 40)])] (Ab [oP 4 (.mv (At []))] .ret)) .skip)) (Ab [Aa 42 0,oP 43 (Ak 42),oP 44 (Ae 1 43),oP 45 (Ah 44),oP 46 (Ay .add 45 1),oP 47 (Ak 42),oP 48 (Ae 1 47),oN (Ax 1 48 46)] (Cx [Aa 49 0,oI 50 1 (Ak 49),oI 51 2 (Ae 0 50),oI 52 3 (Ah 51),oI 53 4 (mT 0),oI 54 5 (Ak 53),oI 55 6 (Ae 1 54),oI 56 7 (Ah 55),oI 57 8 (Ay .sub 56 1),oI 58 9 (.iad 3 (.t 52) (.t 57)),oI 59 10 (Ae 1 58),oI 60 11 (Ah 59),oI 4 12 (mT 60)] .ret))))⟩
def tr188:trF Tryz.prog Tryz.f188=some af188:=by kernel_rfl
attribute [go_sem] af188
def af189:AF:=⟨31,[(.t 2),(.t 3)],(Ab [oP 2 (.mv (cI 0)),oP 3 (.mv (At []))] (.seq (Ab [Aa 4 0] (.blk 0 (Ab [oP 6 (.bin 4 .eql (.t 4) (At [115,111,114,116])),Aa 5 6] (Aj 5 (Ab [oP 2 (.mv (cI 1)),oP 3 (.mv (At [76]))] .ret) (Ab [oP 8 (.bin 4 .eql (.t 4) (At [112,105])),Aa 7 8] (Aj 7 (Ab [oP 2 (.mv (cI 3)),oP 3 (.mv (At [76,77,120,116,98]))] .ret) (Ab [oP 10 (.bin 4 .eql (.t 4) (At [108,97,109])),Aa 9 10] (Aj 9 (Ab [oP 2 (.mv (cI 4)),oP 3 (.mv (At [76,77,120,116,98,98]))] .ret) (Ab [oP 12 (.bin 4 .eql (.t 4) (At [97,112,112])),Aa 11 12] (Aj 11 (Ab [oP 2 (.mv (cI 5)),oP 3 (.mv (At [76,77,120,116,98,116,116]))] .ret) (Ab [oP 14 (.bin 4 .eql (.t 4) (At [115,105,103])),Aa 13 14] (Aj 13 (Ab [oP 2 (.mv (cI 6)),oP 3 (.mv (At [76,77,120,116,98]))] .ret) (Ab [oP 16 (.bin 4 .eql (.t 4) (At [112,97,105,114])),Aa 15 16] (Aj 15 (Ab [oP 2 (.mv (cI 7)),oP 3 (.mv (At [76,77,120,116,98,116,116]))] .ret) (Ab [oP 18 (.bin 4 .eql (.t 4) (At [102,115,116])),Aa 17 18] (Aj 17 (Ab [oP 2 (.mv (cI 8)),oP 3 (.mv (At [76,77,120,116,98,116]))] .ret) (Ab [oP 20 (.bin 4 .eql (.t 4) (At [115,110,100])),Aa 19 20] (Aj 19 (Ab [oP 2 (.mv (cI 9)),oP 3 (.mv (At [76,77,120,116,98,116]))] .ret) (Ab [oP 22 (.bin 4 .eql (.t 4) (At [101,113])),Aa 21 22] (Aj 21 (Ab [oP 2 (.mv (cI 10)),oP 3 (.mv (At [76,116,116,116]))] .ret) (Ab [oP 24 (.bin 4 .eql (.t 4) (At [114,101,102,108])),Aa 23 24] (Aj 23 (Ab [oP 2 (.mv (cI 11)),oP 3 (.mv (At [76,116,116]))] .ret) (Ab [oP 26 (.bin 4 .eql (.t 4) (At [116,114])),Aa 25 26] (Aj 25 (Ab [oP 2 (.mv (cI 12)),oP 3 (.mv (At [76,116,116,112,116]))] .ret) .skip)))))))))))))))))))))))) (Ab [Aa 27 0,oP 28 (.call 212 [(.t 27)]),oP 29 (.ext (.t 28) 0),oP 30 (.ext (.t 28) 1),Aa 2 29,Aa 3 30] .ret)))⟩
def tr189:trF Tryz.prog Tryz.f189=some af189:=by kernel_rfl
attribute [go_sem] af189
def af212:AF:=⟨27,[(.t 2),(.t 3)],(Ab [oP 2 (.mv (cI 0)),oP 3 (.mv (At []))] (.seq (Ab [Aa 4 0] (.blk 0 (Ab [oP 6 (.bin 4 .eql (.t 4) (At [80,105])),Aa 5 6] (Aj 5 (Ab [oP 2 (.mv (cI 13)),oP 3 (.mv (At [120,116,98]))] .ret) (Ab [oP 8 (.bin 4 .eql (.t 4) (At [76,97,109])),Aa 7 8] (Aj 7 (Ab [oP 2 (.mv (cI 14)),oP 3 (.mv (At [120,116,98]))] .ret) (Ab [oP 10 (.bin 4 .eql (.t 4) (At [65,112,112])),Aa 9 10] (Aj 9 (Ab [oP 2 (.mv (cI 15)),oP 3 (.mv (At [116,116]))] .ret) (Ab [oP 12 (.bin 4 .eql (.t 4) (At [83,105,103])),Aa 11 12] (Aj 11 (Ab [oP 2 (.mv (cI 16)),oP 3 (.mv (At [120,116,98]))] .ret) (Ab [oP 14 (.bin 4 .eql (.t 4) (At [80,97,105,114])),Aa 13 14] (Aj 13 (Ab [oP 2 (.mv (cI 17)),oP 3 (.mv (At [120,116,98,116,116]))] .ret) (Ab [oP 16 (.bin 4 .eql (.t 4) (At [70,115,116])),Aa 15 16] (Aj 15 (Ab [oP 2 (.mv (cI 18)),oP 3 (.mv (At [116]))] .ret) (Ab [oP 18 (.bin 4 .eql (.t 4) (At [83,110,100])),Aa 17 18] (Aj 17 (Ab [oP 2 (.mv (cI 19)),oP 3 (.mv (At [116]))] .ret) (Ab [oP 20 (.bin 4 .eql (.t 4) (At [69,113])),Aa 19 20] (Aj 19 (Ab [oP 2 (.mv (cI 20)),oP 3 (.mv (At [116,116,116]))] .ret) (Ab [oP 22 (.bin 4 .eql (.t 4) (At [82,101,102,108])),Aa 21 22] (Aj 21 (Ab [oP 2 (.mv (cI 21)),oP 3 (.mv (At [116,116]))] .ret) (Ab [oP 24 (.bin 4 .eql (.t 4) (At [74])),Aa 23 24] (Aj 23 (Ab [oP 2 (.mv (cI 22)),oP 3 (.mv (At [116,116,121,101,80,116,116,116]))] .ret) (Ab [oP 26 (.bin 4 .eql (.t 4) (At [117,115,101])),Aa 25 26] (Aj 25 (Ab [oP 2 (.mv (cI 23)),oP 3 (.mv (At [83,76,77]))] .ret) .skip)))))))))))))))))))))))) (Ab [oP 2 (.mv (cI 0)),oP 3 (.mv (At []))] .ret)))⟩
def tr212:trF Tryz.prog Tryz.f212=some af212:=by kernel_rfl
attribute [go_sem] af212
def af190:AF:=⟨122,[(.cell 6 true 5)],(Ab [oP 6 Fp] (Ab [Aa 12 1,oP 13 (Gy [(0,(1,(.t 12)))]),Aa 14 0,oP 15 (Ak 14),oP 16 (Ae 3 15),oP 17 (Ah 16),oP 7 Fp,oN (Ax 5 7 13),oP 8 (.mv (cI 2)),Aa 9 17] (Ab [oP 10 (.mv (.c .nils))] (.seq (Ab [Aa 18 1,oP 19 (Ay .leq 18 12)] (Aj 19 (Bg [oP 8 (.mv (cI 1))]) .skip)) (.seq (Ab [oP 11 (.mv (cI 0))] (.blk 0 (.loop (.seq (Ab [Aa 20 11,Aa 21 2,oP 22 (.len true (.t 21)),oP 23 (Ca .lss 20 22),Aa 24 23,oG 25 24 true 0 (mT 0),oG 26 24 true 0 (Ak 25),oG 27 24 true 0 (Ae 6 26),oG 28 24 true 0 (Ah 27),oG 29 24 true 0 (.un .not (.t 28)),oP 30 (Cf 24 29)] (Et 30 0)) (.seq (.blk 1 (Ab [Aa 33 2,Aa 34 11,oP 35 (.six (.t 33) (.t 34))] (.blk 2 (Ab [oP 58 (.bin 0 .eql (.t 35) (.c (.int .u8 76))),Aa 57 58] (Aj 57 (Bg [Aa 59 0,oP 60 (.hcall 213 [(.t 59)]),oP 61 (Ae 1 7),oN (Ax 1 61 60)]) (Ab [oP 63 (.bin 0 .eql (.t 35) (.c (.int .u8 77))),Aa 62 63] (Aj 62 (Ab [Aa 64 0,oP 65 (.hcall 213 [(.t 64)]),oP 66 (Ae 2 7),oN (Ax 1 66 65)] (Ab [Aa 67 1,oP 68 (An 67 23)] (Aj 68 (Bg [Aa 69 0,oP 70 (.hcall 214 [(.t 69),(.t 7)])]) .skip))) (Ab [oP 72 (.bin 0 .eql (.t 35) (.c (.int .u8 83))),Aa 71 72] (Aj 71 (Ab [Aa 73 0,oP 74 (.hcall 188 [(.t 73),(cI 3)]),oP 75 (.call 215 [(.t 74)]),oP 76 (Ae 3 7),oN (Ax 1 76 75)] (Ab [oP 77 (Ae 3 7),oP 78 (Ah 77),oP 79 (An 78 0)] (Aj 79 (Bg [Aa 80 0,Aa 81 0,oP 82 (Ak 81),oP 83 (Ae 1 82),oP 84 (Ah 83),oP 85 (Ay .sub 84 1),oP 86 (.hcall 156 [(.t 80),(.t 85)])]) .skip))) (.seq (Ab [oP 88 (.bin 0 .eql (.t 35) (.c (.int .u8 120))),Aa 87 88] (Aj 87 .skip (Ab [oP 89 (.bin 0 .eql (.t 35) (.c (.int .u8 121))),Aa 87 89] (Aj 87 .skip (Bg [oP 90 (.bin 0 .eql (.t 35) (.c (.int .u8 101))),Aa 87 90]))))) (Aj 87 (Bg [Aa 91 10,Aa 92 0,oP 93 (.hcall 188 [(.t 92),(cI 3)]),oP 94 (.bslice 1 [(.t 93)]),oP 95 (.app 1 16 (.t 91) (.t 94)),Aa 10 95]) (Ab [oP 97 (.bin 0 .eql (.t 35) (.c (.int .u8 116))),Aa 96 97] (Aj 96 (.reg [oP 98 (Ae 4 7),⟨(some 99),(Ah 98),none,1,true,[]⟩,oI 100 2 (mT 0),oI 101 3 (mT 8),⟨(some 102),(.hcall 155 [(.t 100),(.t 101)]),none,4,true,[1]⟩,oI 103 5 (.len false (.t 99)),⟨(some 104),(.bslice 5 [(.c (.agg true [(iS 0),(iS 0),(iS 0),(iS 0),.nils]))]),none,6,false,[1,4]⟩,oI 105 7 (.app 5 56 (.t 99) (.t 104)),⟨(some 106),(.iad 5 (.t 105) (.t 103)),none,8,true,[]⟩,⟨none,(Ax 5 106 102),none,9,true,[]⟩,oI 107 10 (Ae 4 7),⟨none,(Ax 1 107 105),none,11,false,[8,9]⟩] true) (Ab [oP 109 (.bin 0 .eql (.t 35) (.c (.int .u8 112))),Aa 108 109] (Aj 108 (.reg [oP 110 (Ae 4 7),⟨(some 111),(Ah 110),none,1,true,[]⟩,oI 112 2 (mT 0),⟨(some 113),(.hcall 155 [(.t 112),(cI 2)]),none,3,true,[1]⟩,oI 114 4 (.len false (.t 111)),⟨(some 115),(.bslice 5 [(.c (.agg true [(iS 0),(iS 0),(iS 0),(iS 0),.nils]))]),none,5,false,[1,3]⟩,oI 116 6 (.app 5 56 (.t 111) (.t 115)),⟨(some 117),(.iad 5 (.t 116) (.t 114)),none,7,true,[]⟩,⟨none,(Ax 5 117 113),none,8,true,[]⟩,oI 118 9 (Ae 4 7),⟨none,(Ax 1 118 116),none,10,false,[7,8]⟩] true) (Ab [Aa 36 0,Aa 37 9,oP 38 (.app 1 16 (.c .nils) (.t 37)),Aa 39 10,oP 40 (.app 1 16 (.t 38) (.t 39)),oP 41 (Ak 36),oP 42 (Ae 3 41),oN (Ax 1 42 40)] (Cx [oP 43 (Ae 4 7),⟨(some 44),(Ah 43),none,1,true,[]⟩,oI 45 2 (mT 0),oI 46 3 (mT 8),⟨(some 47),(.hcall 155 [(.t 45),(.t 46)]),none,4,true,[1]⟩,oI 48 5 (.len false (.t 44)),⟨(some 49),(.bslice 5 [(.c (.agg true [(iS 0),(iS 0),(iS 0),(iS 0),.nils]))]),none,6,false,[1,4]⟩,oI 50 7 (.app 5 56 (.t 44) (.t 49)),⟨(some 51),(.iad 5 (.t 50) (.t 48)),none,8,true,[]⟩,⟨none,(Ax 5 51 47),none,9,true,[]⟩,oI 52 10 (Ae 4 7),⟨none,(Ax 1 52 50),none,11,false,[8,9]⟩] (Bg [Aa 53 0,Aa 54 9,oP 55 (Ak 53),oP 56 (Ae 3 55),oN (Ax 1 56 54)])))))))))))))))))) (Bg [Aa 31 11,oP 32 (Ay .add 31 1),Aa 11 32])))))) (Ab [Aa 119 0,oP 120 (.hcall 188 [(.t 119),(cI 2)])] (Ab [oP 121 (Aq 5 7),oN (Ax 5 6 121)] .ret)))))))⟩
def tr190:trF Tryz.prog Tryz.f190=some af190:=by kernel_rfl
attribute [go_sem] af190
def af213:AF:=⟨131,[(.t 2)],(Ab [oP 2 (.mv (cI 0))] (Ab [Aa 6 0,oP 7 (Ak 6),oP 8 (Ae 1 7),oP 9 (Ah 8),Aa 3 9] (.seq (Cx [Aa 10 0,oI 11 1 (Ak 10),oI 12 2 (Ae 6 11),oI 13 3 (Ah 12),oI 14 4 (mT 13),oG 15 14 false 5 (mT 0),oG 16 14 false 6 (Ak 15),oG 17 14 false 7 (Ae 1 16),oG 18 14 false 8 (Ah 17),oG 19 14 false 9 (mT 0),oG 20 14 false 10 (Ak 19),oG 21 14 false 11 (Ae 0 20),oG 22 14 false 12 (Ah 21),oG 23 14 false 13 (.len false (.t 22)),oG 24 14 false 14 (Ca .geq 18 23),oI 25 15 (Dk 14 24)] (Aj 25 (Ab [Aa 26 0,Aa 27 0,oP 28 (Ak 27),oP 29 (Ae 1 28),oP 30 (Ah 29),oP 31 (.hcall 156 [(.t 26),(.t 30)])] (Ab [oP 2 (.mv (cI 0))] .ret)) .skip)) (Ab [oP 4 (.mv (cI 0))] (.seq (Cx [Aa 32 0,oI 33 1 (Ak 32),oI 34 2 (Ae 0 33),⟨(some 35),(Ah 34),none,3,true,[]⟩,oI 36 4 (mT 0),oI 37 5 (Ak 36),oI 38 6 (Ae 1 37),⟨(some 39),(Ah 38),none,7,true,[]⟩,⟨(some 40),(.iad 3 (.t 35) (.t 39)),none,8,true,[]⟩,⟨(some 41),(Aq 3 40),none,9,true,[]⟩,⟨(some 5),(.new [(iS 0),(.str (bs [])),(iS 0)]),none,10,false,[3,7,8,9]⟩,oJ 11 (Ax 3 5 41)] (.blk 0 (Ab [oP 49 (Ae 0 5),oP 50 (Ah 49),oP 51 (An 50 4),Aa 48 51] (Aj 48 (Ab [oP 53 (Ae 1 5),oP 54 (Ah 53),oP 55 (.call 122 [(.t 54)]),Aa 52 55,oP 56 (.ext (.t 52) 0),oP 57 (.ext (.t 52) 1),Aa 4 56] (Bg [Aa 58 0,oP 59 (Ak 58),oP 60 (Ae 1 59),oP 61 (Ah 60),oP 62 (Ay .add 61 1),oP 63 (Ak 58),oP 64 (Ae 1 63),oN (Ax 1 64 62)])) (Ab [oP 66 (Ae 0 5),oP 67 (Ah 66),oP 68 (An 67 3),Aa 69 68,oG 70 69 true 0 (Ae 1 5),oG 71 69 true 0 (Ah 70),oG 72 69 true 0 (.bin 4 .eql (.t 71) (At [105])),oP 73 (Cf 69 72),Aa 65 73] (Aj 65 (Ab [Aa 74 0,oP 75 (Ak 74),oP 76 (Ae 4 75),oP 77 (Ah 76),Aa 4 77] (Bg [Aa 78 0,oP 79 (Ak 78),oP 80 (Ae 1 79),oP 81 (Ah 80),oP 82 (Ay .add 81 1),oP 83 (Ak 78),oP 84 (Ae 1 83),oN (Ax 1 84 82)])) (Ab [oP 86 (Ae 0 5),oP 87 (Ah 86),oP 88 (An 87 3),Aa 89 88,oG 90 89 true 0 (Ae 1 5),oG 91 89 true 0 (Ah 90),oG 92 89 true 0 (.bin 4 .eql (.t 91) (At [106])),oP 93 (Cf 89 92),Aa 85 93] (Aj 85 (Ab [Aa 94 0,oP 95 (Ak 94),oP 96 (Ae 5 95),oP 97 (Ah 96),Aa 4 97] (Bg [Aa 98 0,oP 99 (Ak 98),oP 100 (Ae 1 99),oP 101 (Ah 100),oP 102 (Ay .add 101 1),oP 103 (Ak 98),oP 104 (Ae 1 103),oN (Ax 1 104 102)])) (Ab [oP 106 (Ae 0 5),oP 107 (Ah 106),oP 108 (An 107 1),Aa 105 108] (Aj 105 (Ab [Aa 109 0,oP 110 (Ak 109),oP 111 (Ae 1 110),oP 112 (Ah 111),oP 113 (Ay .add 112 1),oP 114 (Ak 109),oP 115 (Ae 1 114),oN (Ax 1 115 113)] (Bg [Aa 116 0,oP 117 (.hcall 228 [(.t 116)]),Aa 4 117])) (Bg [Aa 42 0,Aa 43 0,oP 44 (Ak 43),oP 45 (Ae 1 44),oP 46 (Ah 45),oP 47 (.hcall 156 [(.t 42),(.t 46)])]))))))))))) (.seq (Ab [Aa 118 0,oP 119 (Ak 118),oP 120 (Ae 6 119),oP 121 (Ah 120),oP 122 (.un .not (.t 121)),Aa 123 122,oG 124 123 true 0 (mT 4),oG 125 123 true 0 (Ay .gtr 124 1000),oP 126 (Cf 123 125)] (Aj 126 (Bg [Aa 127 0,Aa 128 3,oP 129 (.hcall 156 [(.t 127),(.t 128)])]) .skip)) (Ab [Aa 130 4,Aa 2 130] .ret)))))))⟩
def tr213:trF Tryz.prog Tryz.f213=some af213:=by kernel_rfl
attribute [go_sem] af213
def af214:AF:=⟨24,[],(Ab [Aa 4 1,oP 5 (Ak 4),oP 6 (Ae 3 5),oP 7 (Ah 6),oP 8 (.call 90 [(cI 23),(.t 7)]),oP 9 (.mv (cI 0))] (.blk 0 (.loop (Ab [oP 10 (Ca .lss 9 8)] (.seq (Et 10 0) (.seq (.blk 1 (.reg [Aa 11 1,oI 12 1 (Ak 11),oI 13 2 (Ae 4 12),⟨(some 14),(Ah 13),none,3,true,[]⟩,oI 15 4 (mT 0),⟨(some 16),(.hcall 155 [(.t 15),(cI 2)]),none,5,true,[3]⟩,oI 17 6 (.len false (.t 14)),⟨(some 18),(.bslice 5 [(.c (.agg true [(iS 0),(iS 0),(iS 0),(iS 0),.nils]))]),none,7,false,[3,5]⟩,oI 19 8 (.app 5 56 (.t 14) (.t 18)),⟨(some 20),(.iad 5 (.t 19) (.t 17)),none,9,true,[]⟩,⟨none,(Ax 5 20 16),none,10,true,[]⟩,oI 21 11 (Ak 11),oI 22 12 (Ae 4 21),⟨none,(Ax 1 22 19),none,13,false,[9,10]⟩] true)) (Bg [oP 23 (Ay .add 9 1),Aa 9 23])))))))⟩
def tr214:trF Tryz.prog Tryz.f214=some af214:=by kernel_rfl
attribute [go_sem] af214
def af228:AF:=⟨114,[(.t 2)],(Ab [oP 2 (.mv (cI 0))] (Ab [oP 3 (.mv (cI 0))] (.seq (.blk 0 (Cx [Aa 11 0,oI 12 1 (Ak 11),oI 13 2 (Ae 1 12),oI 14 3 (Ah 13),oI 15 4 (mT 0),oI 16 5 (Ak 15),oI 17 6 (Ae 0 16),oI 18 7 (Ah 17),oI 19 8 (.len false (.t 18)),oI 20 9 (Ca .lss 14 19),oI 21 10 (mT 20),oG 22 21 true 11 (mT 0),oG 23 21 true 12 (Ak 22),oG 24 21 true 13 (Ae 0 23),oG 25 21 true 14 (Ah 24),oG 26 21 true 15 (mT 0),oG 27 21 true 16 (Ak 26),oG 28 21 true 17 (Ae 1 27),oG 29 21 true 18 (Ah 28),oG 30 21 true 19 (.iad 3 (.t 25) (.t 29)),oG 31 21 true 20 (Ae 0 30),oG 32 21 true 21 (Ah 31),oG 33 21 true 22 (An 32 3),oI 34 23 (Cf 21 33),oI 35 24 (mT 34),oG 36 35 true 25 (mT 0),oG 37 35 true 26 (Ak 36),oG 38 35 true 27 (Ae 0 37),oG 39 35 true 28 (Ah 38),oG 40 35 true 29 (mT 0),oG 41 35 true 30 (Ak 40),oG 42 35 true 31 (Ae 1 41),oG 43 35 true 32 (Ah 42),oG 44 35 true 33 (.iad 3 (.t 39) (.t 43)),oG 45 35 true 34 (Ae 1 44),oG 46 35 true 35 (Ah 45),oG 47 35 true 36 (.bin 4 .eql (.t 46) (At [115,117,99])),oI 48 37 (Cf 35 47),oI 10 38 (mT 48)] (Aj 10 (Ab [Aa 49 0,oP 50 (Ak 49),oP 51 (Ae 1 50),oP 52 (Ah 51),oP 53 (Ay .add 52 1),oP 54 (Ak 49),oP 55 (Ae 1 54),oN (Ax 1 55 53)] (Bg [Aa 56 0,oP 57 (.hcall 213 [(.t 56)]),oP 58 (Ay .add 57 1),Aa 3 58])) (Cx [Aa 60 0,oI 61 1 (Ak 60),oI 62 2 (Ae 1 61),oI 63 3 (Ah 62),oI 64 4 (mT 0),oI 65 5 (Ak 64),oI 66 6 (Ae 0 65),oI 67 7 (Ah 66),oI 68 8 (.len false (.t 67)),oI 69 9 (Ca .lss 63 68),oI 70 10 (mT 69),oG 71 70 true 11 (mT 0),oG 72 70 true 12 (Ak 71),oG 73 70 true 13 (Ae 0 72),oG 74 70 true 14 (Ah 73),oG 75 70 true 15 (mT 0),oG 76 70 true 16 (Ak 75),oG 77 70 true 17 (Ae 1 76),oG 78 70 true 18 (Ah 77),oG 79 70 true 19 (.iad 3 (.t 74) (.t 78)),oG 80 70 true 20 (Ae 0 79),oG 81 70 true 21 (Ah 80),oG 82 70 true 22 (An 81 3),oI 83 23 (Cf 70 82),oI 84 24 (mT 83),oG 85 84 true 25 (mT 0),oG 86 84 true 26 (Ak 85),oG 87 84 true 27 (Ae 0 86),oG 88 84 true 28 (Ah 87),oG 89 84 true 29 (mT 0),oG 90 84 true 30 (Ak 89),oG 91 84 true 31 (Ae 1 90),oG 92 84 true 32 (Ah 91),oG 93 84 true 33 (.iad 3 (.t 88) (.t 92)),oG 94 84 true 34 (Ae 1 93),oG 95 84 true 35 (Ah 94),oG 96 84 true 36 (.bin 4 .eql (.t 95) (At [109,97,120])),oI 97 37 (Cf 84 96),oI 59 38 (mT 97)] (Aj 59 (Ab [Aa 98 0,oP 99 (Ak 98),oP 100 (Ae 1 99),oP 101 (Ah 100),oP 102 (Ay .add 101 1),oP 103 (Ak 98),oP 104 (Ae 1 103),oN (Ax 1 104 102)] (Ab [Aa 105 0,oP 106 (.hcall 213 [(.t 105)]),Aa 3 106] (Bg [Aa 107 3,Aa 108 0,oP 109 (.hcall 213 [(.t 108)]),oP 110 (.mnx true (.t 107) (.t 109)),Aa 3 110]))) (Bg [Aa 4 0,Aa 5 0,oP 6 (Ak 5),oP 7 (Ae 1 6),oP 8 (Ah 7),oP 9 (.hcall 156 [(.t 4),(.t 8)])])))))) (Ab [Aa 111 0,oP 112 (.hcall 188 [(.t 111),(cI 2)])] (Ab [Aa 113 3,Aa 2 113] .ret)))))⟩
def tr228:trF Tryz.prog Tryz.f228=some af228:=by kernel_rfl
attribute [go_sem] af228
def af215:AF:=⟨18,[(.t 2)],(Ab [oP 2 (.mv (cI 0))] (.seq (Ab [oP 5 (.call 196 []),oP 6 (.len false (.t 5)),oP 7 (.mv (cI 0))] (.blk 0 (.loop (Ab [oP 8 (Ca .lss 7 6)] (.seq (Et 8 0) (.seq (.blk 1 (Ab [Aa 9 7,oP 10 (.iad 1 (.t 5) (.t 7)),oP 11 (Ah 10),Aa 3 9,Aa 4 11] (Ab [Aa 12 4,Aa 13 0,oP 14 (.bin 4 .eql (.t 12) (.t 13))] (Aj 14 (Ab [Aa 15 3,oP 16 (Ay .add 15 1),Aa 2 16] .ret) .skip)))) (Bg [oP 17 (Ay .add 7 1),Aa 7 17]))))))) (Ab [oP 2 (.mv (cI 0))] .ret)))⟩
def tr215:trF Tryz.prog Tryz.f215=some af215:=by kernel_rfl
attribute [go_sem] af215
def af196:AF:=⟨2,[(.t 0)],(Ab [oP 0 (.mv (.c .nils))] (Ab [oP 1 (.bslice 1 [(At [117,105,112]),(At [102,117,110,101,120,116]),(At [115,121,109]),(At [116,114,97,110,115]),(At [116,114]),(At [104,101,116]),(At [116,121,112]),(At [116,114,104]),(At [104,112]),(At [104,50,101]),(At [101,50,104]),(At [114,112]),(At [99,112,105]),(At [99,115,105,103]),(At [99,108,97,109]),(At [99,97,112,112]),(At [99,112,97,105,114]),(At [99,102,115,116]),(At [99,115,110,100]),(At [99,101,113]),(At [99,114,101,102,108])]),Aa 0 1] .ret))⟩
def tr196:trF Tryz.prog Tryz.f196=some af196:=by kernel_rfl
attribute [go_sem] af196
end Go.Proofs.YtgfehkhcmnfpaaaGreatDoor.Abs
