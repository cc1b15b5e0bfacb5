import Derived.Test.YtgdkddjdhijfnaaGreatDoorXFg
import Derived.Test.YtgdkddjdhijfnaaGreatDoorXEv
import Derived.Test.YtgdkddjdhijfnaaGreatDoorProg
import Derived.KernelRfl
import Derived.Test.YtgdkddjdhijfnaaGreatDoorXYg
import Derived.Test.YtgdkddjdhijfnaaGreatDoorXAfK
import Derived.Test.YtgdkddjdhijfnaaGreatDoorChecked
import Derived.WalkKit
import Derived.WalkLawsBesides
import Derived.Test.YtgdkddjdhijfnaaGreatDoorXLl
import Derived.Test.YtgdkddjdhijfnaaGreatDoorXVc
import Derived.Test.YtgdkddjdhijfnaaGreatDoorXPc
import Derived.Test.YtgdkddjdhijfnaaGreatDoorXPq
set_option linter.all false
set_option maxRecDepth 20000
set_option maxHeartbeats 4000000
namespace Go.Proofs.YtgdkddjdhijfnaaGreatDoor.Abs
open Go Go.Proofs Go.Proofs.YtgdkddjdhijfnaaGreatDoor
def af10:AF:=⟨36,[(.t 4),(.cell 5 true 2)],(Ab [oP 2 (.box (.t 0)),oP 3 (.box (.t 1)),oP 4 (.mv (cB false)),oP 5 (.newg [(iS 0),(.bool false)])] (Ab [oP 9 (.build [(iS 0),(.bool false)] []),oP 10 (.boxg (.t 9)),Aa 6 10] (Ab [Aa 11 6,oP 12 (Ak 5 2),oP 13 (.hcall 23 [(.t 11),(.t 12)]),oP 7 Cb,oN (Al 5 7 13)] (Ab [oP 14 (Da []),oP 8 Cb,oN (Al 5 8 14)] (.seq (Ab [Aa 15 6,oP 16 (Ah 15),oP 17 (Ac 1 16),oP 18 (Ad 17),oP 19 (.un .not (.t 18))] (Ae 19 (Ar [Aa 20 6,oP 21 (Ak 5 3),oP 22 (.hcall 23 [(.t 20),(.t 21)]),oN (Al 5 8 22)]) .skip)) (Ce [Aa 23 6,oI 24 1 (Ah 23),oI 25 2 (Ac 1 24),oI 26 3 (Ad 25),oI 27 4 (.un .not (.t 26)),oI 28 5 (mT 27),oG 29 28 true 6 (Ak 5 7),oG 30 28 true 7 (Ak 5 8),⟨(some 31),(.call 24 [(.t 29),(.t 30)]),(some (28,true)),8,true,[]⟩,oI 32 9 (Az 28 31),oI 33 10 (mT 6),oI 34 11 (Ah 33),⟨(some 35),(Ak 2 34),none,12,false,[8]⟩,oI 4 13 (mT 32),oJ 14 (Al 2 5 35)] .ret))))))⟩
def tr10:trF Tryz.prog Tryz.f10=some af10:=by kernel_rfl
attribute [go_sem] af10
def af24:AF:=⟨179,[(.t 4)],(Ab [oP 2 (.box (.t 0)),oP 3 (.box (.t 1)),oP 4 (.mv (cB false))] (.seq (.blk 0 (Ab [oP 7 (Ac 0 2),oP 8 (Ad 7),oP 9 (Aj 8 14),Aa 10 9,oG 11 10 true 0 (Ac 0 3),oG 12 10 true 0 (Ad 11),oG 13 10 true 0 (Aj 12 14),oP 14 (Az 10 13),Aa 6 14] (Ae 6 (Ce [oP 15 (Ac 4 2),oI 16 1 (Ad 15),oI 17 2 (.iad 5 (.t 16) (cI 1)),oI 18 3 (Ak 5 17),oI 19 4 (Ac 4 3),oI 20 5 (Ad 19),oI 21 6 (.iad 5 (.t 20) (cI 1)),oI 22 7 (Ak 5 21),oI 23 8 (.call 24 [(.t 18),(.t 22)]),oI 4 9 (mT 23)] .ret) (Ab [oP 25 (Ac 0 2),oP 26 (Ad 25),oP 27 (Aj 26 14),Aa 24 27] (Ae 24 (Ce [oP 28 (Ac 4 2),⟨(some 29),(Ad 28),none,1,true,[]⟩,⟨(some 30),(.iad 5 (.t 29) (cI 1)),none,2,true,[]⟩,⟨(some 31),(Ak 5 30),none,3,true,[]⟩,oI 32 4 (Ak 5 3),⟨(some 33),(.call 38 [(.t 32),(cI 1),(cI 0)]),none,5,false,[1,2,3]⟩,⟨(some 34),(.call 39 [(cI 0)]),none,6,false,[1,2,3]⟩,⟨(some 35),(.bslice 5 [(.t 33),(.t 34)]),none,7,false,[1,2,3]⟩,⟨(some 36),(.call 37 [(cI 15),(.t 35)]),none,8,false,[1,2,3]⟩,oI 37 9 (.call 24 [(.t 31),(.t 36)]),oI 4 10 (mT 37)] .ret) (Ab [oP 39 (Ac 0 3),oP 40 (Ad 39),oP 41 (Aj 40 14),Aa 38 41] (Ae 38 (Ce [oP 42 (Ak 5 2),⟨(some 43),(.call 38 [(.t 42),(cI 1),(cI 0)]),none,1,true,[]⟩,⟨(some 44),(.call 39 [(cI 0)]),none,2,true,[]⟩,⟨(some 45),(.bslice 5 [(.t 43),(.t 44)]),none,3,true,[]⟩,⟨(some 46),(.call 37 [(cI 15),(.t 45)]),none,4,true,[]⟩,oI 47 5 (Ac 4 3),⟨(some 48),(Ad 47),none,6,false,[1,2,3,4]⟩,⟨(some 49),(.iad 5 (.t 48) (cI 1)),none,7,false,[1,2,3,4]⟩,⟨(some 50),(Ak 5 49),none,8,false,[1,2,3,4]⟩,oI 51 9 (.call 24 [(.t 46),(.t 50)]),oI 4 10 (mT 51)] .ret) (Ab [oP 53 (Ac 0 2),oP 54 (Ad 53),oP 55 (Aj 54 17),Aa 56 55,oG 57 56 true 0 (Ac 0 3),oG 58 56 true 0 (Ad 57),oG 59 56 true 0 (Aj 58 17),oP 60 (Az 56 59),Aa 52 60] (Ae 52 (Ce [oP 61 (Ac 4 2),oI 62 1 (Ad 61),oI 63 2 (.iad 5 (.t 62) (cI 2)),oI 64 3 (Ak 5 63),oI 65 4 (Ac 4 3),oI 66 5 (Ad 65),oI 67 6 (.iad 5 (.t 66) (cI 2)),oI 68 7 (Ak 5 67),oI 69 8 (.call 24 [(.t 64),(.t 68)]),oI 70 9 (mT 69),oG 71 70 true 10 (Ac 4 2),oG 72 70 true 11 (Ad 71),oG 73 70 true 12 (.iad 5 (.t 72) (cI 3)),oG 74 70 true 13 (Ak 5 73),oG 75 70 true 14 (Ac 4 3),oG 76 70 true 15 (Ad 75),oG 77 70 true 16 (.iad 5 (.t 76) (cI 3)),oG 78 70 true 17 (Ak 5 77),oG 79 70 true 18 (.call 24 [(.t 74),(.t 78)]),oI 80 19 (Az 70 79),oI 4 20 (mT 80)] .ret) (Ab [oP 82 (Ac 0 2),oP 83 (Ad 82),oP 84 (Aj 83 17),Aa 81 84] (Ae 81 (Ce [oP 85 (Ac 4 2),⟨(some 86),(Ad 85),none,1,true,[]⟩,⟨(some 87),(.iad 5 (.t 86) (cI 2)),none,2,true,[]⟩,⟨(some 88),(Ak 5 87),none,3,true,[]⟩,oI 89 4 (Ak 5 3),⟨(some 90),(.bslice 5 [(.t 89)]),none,5,false,[1,2,3]⟩,⟨(some 91),(.call 37 [(cI 18),(.t 90)]),none,6,false,[1,2,3]⟩,oI 92 7 (.call 24 [(.t 88),(.t 91)]),oI 93 8 (mT 92),oG 94 93 true 9 (Ac 4 2),⟨(some 95),(Ad 94),(some (93,true)),10,true,[]⟩,⟨(some 96),(.iad 5 (.t 95) (cI 3)),(some (93,true)),11,true,[]⟩,⟨(some 97),(Ak 5 96),(some (93,true)),12,true,[]⟩,oG 98 93 true 13 (Ak 5 3),⟨(some 99),(.bslice 5 [(.t 98)]),(some (93,true)),14,false,[10,11,12]⟩,⟨(some 100),(.call 37 [(cI 19),(.t 99)]),(some (93,true)),15,false,[10,11,12]⟩,oG 101 93 true 16 (.call 24 [(.t 97),(.t 100)]),oI 102 17 (Az 93 101),oI 4 18 (mT 102)] .ret) (Ab [oP 104 (Ac 0 3),oP 105 (Ad 104),oP 106 (Aj 105 17),Aa 103 106] (Ae 103 (Ce [oP 107 (Ak 5 2),⟨(some 108),(.bslice 5 [(.t 107)]),none,1,true,[]⟩,⟨(some 109),(.call 37 [(cI 18),(.t 108)]),none,2,true,[]⟩,oI 110 3 (Ac 4 3),⟨(some 111),(Ad 110),none,4,false,[1,2]⟩,⟨(some 112),(.iad 5 (.t 111) (cI 2)),none,5,false,[1,2]⟩,⟨(some 113),(Ak 5 112),none,6,false,[1,2]⟩,oI 114 7 (.call 24 [(.t 109),(.t 113)]),oI 115 8 (mT 114),oG 116 115 true 9 (Ak 5 2),⟨(some 117),(.bslice 5 [(.t 116)]),(some (115,true)),10,true,[]⟩,⟨(some 118),(.call 37 [(cI 19),(.t 117)]),(some (115,true)),11,true,[]⟩,oG 119 115 true 12 (Ac 4 3),⟨(some 120),(Ad 119),(some (115,true)),13,false,[10,11]⟩,⟨(some 121),(.iad 5 (.t 120) (cI 3)),(some (115,true)),14,false,[10,11]⟩,⟨(some 122),(Ak 5 121),(some (115,true)),15,false,[10,11]⟩,oG 123 115 true 16 (.call 24 [(.t 118),(.t 122)]),oI 124 17 (Az 115 123),oI 4 18 (mT 124)] .ret) .skip))))))))))))) (.seq (Ab [oP 125 (Ac 0 2),oP 126 (Ad 125),oP 127 (Ac 0 3),oP 128 (Ad 127),oP 129 (Bb .neq 126 128),Aa 130 129,oG 131 130 false 0 (Ac 1 2),oG 132 130 false 0 (Ad 131),oG 133 130 false 0 (Ac 1 3),oG 134 130 false 0 (Ad 133),oG 135 130 false 0 (Bb .neq 132 134),oP 136 (Bf 130 135),Aa 137 136,oG 138 137 false 0 (Ac 2 2),oG 139 137 false 0 (Ad 138),oG 140 137 false 0 (Ac 2 3),oG 141 137 false 0 (Ad 140),oG 142 137 false 0 (Bb .neq 139 141),oP 143 (Bf 137 142),Aa 144 143,oG 145 144 false 0 (Ac 3 2),oG 146 144 false 0 (Ad 145),oG 147 144 false 0 (Ac 3 3),oG 148 144 false 0 (Ad 147),oG 149 144 false 0 (Bb .neq 146 148),oP 150 (Bf 144 149),Aa 151 150,oG 152 151 false 0 (Ac 4 2),oG 153 151 false 0 (Ad 152),oG 154 151 false 0 (.len false (.t 153)),oG 155 151 false 0 (Ac 4 3),oG 156 151 false 0 (Ad 155),oG 157 151 false 0 (.len false (.t 156)),oG 158 151 false 0 (Bb .neq 154 157),oP 159 (Bf 151 158)] (Ae 159 (Ab [oP 4 (.mv (cB false))] .ret) .skip)) (.seq (Ab [oP 5 (.mv (cI 0))] (.blk 1 (.loop (.seq (Ab [Aa 160 5,oP 161 (Ac 4 2),oP 162 (Ad 161),oP 163 (.len false (.t 162)),oP 164 (Bb .lss 160 163)] (Cu 164 1)) (.seq (.blk 2 (Ce [oP 167 (Ac 4 2),oI 168 1 (Ad 167),oI 169 2 (mT 5),oI 170 3 (.iad 5 (.t 168) (.t 169)),oI 171 4 (Ak 5 170),oI 172 5 (Ac 4 3),oI 173 6 (Ad 172),oI 174 7 (mT 5),oI 175 8 (.iad 5 (.t 173) (.t 174)),oI 176 9 (Ak 5 175),oI 177 10 (.call 24 [(.t 171),(.t 176)]),oI 178 11 (.un .not (.t 177))] (Ae 178 (Ab [oP 4 (.mv (cB false))] .ret) .skip))) (Ar [Aa 165 5,oP 166 (An .add 165 1),Aa 5 166])))))) (Ab [oP 4 (.mv (cB true))] .ret)))))⟩
def tr24:trF Tryz.prog Tryz.f24=some af24:=by kernel_rfl
attribute [go_sem] af24
def af37:AF:=⟨23,[(.cell 4 true 5)],(Ab [oP 4 Cb] (Ab [oP 5 (.mv (.c .nils))] (.seq (Ab [oP 6 (.mv (cI 0))] (.blk 0 (.loop (.seq (Ab [Aa 7 6,Aa 8 1,oP 9 (.len false (.t 8)),oP 10 (Bb .lss 7 9)] (Cu 10 0)) (.seq (.blk 1 (Ar [Aa 13 5,Aa 14 1,Aa 15 6,oP 16 (.iad 5 (.t 14) (.t 15)),oP 17 (Ak 5 16),oP 18 (.bslice 5 [(.t 17)]),oP 19 (.app 5 56 (.t 13) (.t 18)),Aa 5 19])) (Ar [Aa 11 6,oP 12 (An .add 11 1),Aa 6 12])))))) (Ab [Aa 20 0,Aa 21 5,oP 22 (Da [(0,(1,(.t 20))),(4,(1,(.t 21)))]),oN (Al 5 4 22)] .ret))))⟩
def tr37:trF Tryz.prog Tryz.f37=some af37:=by kernel_rfl
attribute [go_sem] af37
def af38:AF:=⟨32,[(.cell 6 true 5)],(Ab [oP 3 (.box (.t 0)),oP 6 Cb] (.seq (Ab [oP 9 (Ak 5 3),oP 10 (.call 45 [(.t 9)]),oP 11 (.un .not (.t 10)),Aa 12 11,oG 13 12 false 0 (mT 1),oG 14 12 false 0 (An .lss 13 0),oP 15 (Bf 12 14),Aa 16 15,oG 17 16 false 0 (mT 2),oG 18 16 false 0 (An .lss 17 0),oP 19 (Bf 16 18)] (Ae 19 (Ab [oP 20 (Da []),oN (Al 5 6 20)] .ret) .skip)) (Ab [oP 22 (Ak 5 3),Aa 23 1,Aa 24 2,oP 25 (.call 62 [(.t 22),(.t 23),(.t 24)]),Aa 21 25,oP 26 (.ext (.t 21) 0),oP 27 (.ext (.t 21) 1),oP 7 Cb,oN (Al 5 7 26),Aa 8 27] (.seq (Ab [Aa 28 8,oP 29 (.un .not (.t 28))] (Ae 29 (Ab [oP 30 (Da []),oN (Al 5 6 30)] .ret) .skip)) (Ab [oP 31 (Ak 5 7),oN (Al 5 6 31)] .ret)))))⟩
def tr38:trF Tryz.prog Tryz.f38=some af38:=by kernel_rfl
attribute [go_sem] af38
def af39:AF:=⟨5,[(.cell 2 true 5)],(Ab [oP 2 Cb] (Ab [Aa 3 0,oP 4 (Da [(0,(1,(cI 2))),(1,(1,(.t 3)))]),oN (Al 5 2 4)] .ret))⟩
def tr39:trF Tryz.prog Tryz.f39=some af39:=by kernel_rfl
attribute [go_sem] af39
open Go Go.RowKit Go.Proofs.YtgdkddjdhijfnaaGreatDoor
section
variable{B:BT}
def Be0(hB:BodyP B){N N':Nat}{t t':Tm}{o:Bool}(h:PHd B N t N' o t')(ho:o=false):∀{C:Nat},C<=60000000->PT C 4000 t->N<=4000->PT C 4000 t'/\N'<=4000/\((N'=N/\t'=t)\/N<N'):=by
 induction h with
 |stop h=>intro C hC hp hN;exact⟨hp,hN,.inl ⟨rfl,rfl⟩⟩
 |out=>cases ho
 |step h h1 h2 hr ih=>
  intro C hC hp hN;obtain⟨a,_⟩:=At2 hB h hC hp;obtain⟨k1,k2,_⟩:=ih ho hC ⟨a,Ab3 hB.ok h hp.sf,h2⟩ h1;have:=Afc hr;exact⟨k1,k2,.inr (by omega)⟩
def Bfs{x y:Tm ⊕ List Tm}{N N':Nat}{o o':Bool}(h:PNx B x N o N' o' y)(ho':o'=false):∀l rs,x=.inr l->y=.inr rs->rs.length=l.length:=by
 induction h with
 |tm=>intro l rs e;cases e
 |nil=>intro l rs e1 e2;cases e1;cases e2;rfl
 |out=>cases ho'
 |cons h hl _ ih2=>intro l rs e1 e2;cases e1;cases e2;have:=ih2 ho' _ _ rfl rfl;simp only[q_jk];omega
def Bft{x y:Tm ⊕ List Tm}{N N':Nat}{o o':Bool}(h:PNx B x N o N' o' y):N<=N':=by
 induction h with
 |tm h _ ih=>have:=Afc h;omega
 |nil=>exact q_ja _
 |out=>exact q_ja _
 |cons _ _ ih1 ih2=>omega
def Asv(hB:BodyP B){x y:Tm ⊕ List Tm}{N N':Nat}{o o':Bool}(h:PNx B x N o N' o' y)(ho':o'=false) :
  (∀t r,x=.inl t->y=.inl r->∀C,N<=4000->PT C 4000 t->C+2*(ms N+tsz t)<=60000000->Cg r=true/\N'<=4000) /\
  (∀l rs,x=.inr l->y=.inr rs->∀C,N<=4000->(∀s∈l,PT C 4000 s/\C+2*(ms N+tsz s)<=60000000)->(∀r∈rs,Cg r=true)/\N'<=4000):=by
 induction h with
 |@tm t t1 N N1 N2 o1 o2 rs h hk ih=>
  have Hw:=o6 hk ho';refine⟨fun t' r e1 e2 C hN hp hC=>?_,fun l rs' e=>by cases e⟩;cases e1;cases e2;obtain⟨k1,k2,k3⟩:=Be0 hB h Hw (by omega) hp hN;have hm:ms N1+tsz t1<=ms N+tsz t:=by
   rcases k3 with⟨e1,e2⟩|k3
   ·rw[e1,e2];exact q_ja _
   ·have:=Ars k3 k2;have:=k1.sz;omega
  have Av:=Bfs hk ho' _ _ rfl rfl;cases t1 with
  |mk k i j n l=>
   obtain⟨q1,q2⟩:=(ih ho').2 l rs rfl rfl (C+2) k2 (fun s hs=>by
    obtain⟨p,hp'⟩:=q_jw hs;have a:=k1.kidm hp';have hb:=Pg k p;have hz:=Yx (k:=k) (i:=i) (j:=j) (n:=n) hs;exact⟨⟨a.pl,Ats a.sf (by omega),a.sz⟩,by omega⟩)
   obtain⟨p1,p2⟩:=plain_mk.1 k1.pl;have hlen':rs.length=l.length:=Av;exact⟨plain_mk.2 ⟨by show Iv k i j n 2 rs.length=true;rw[hlen'];exact p1,q1⟩,q2⟩
 |nil=>exact⟨fun t r e=>(by cases e),fun l rs e1 e2 C hN _=>(by cases e1;cases e2;exact⟨fun r hr=>(by cases hr),hN⟩)⟩
 |out=>cases ho'
 |@cons a r l rs N N1 N2 o1 o2 h hl ih1 ih2=>
  have Hw:=o6 hl ho';refine⟨fun t r e=>(by cases e),fun l' rs' e1 e2 C hN hp=>?_⟩;cases e1;cases e2;obtain⟨p1,p2⟩:=hp a (List.mem_cons_self ..);obtain⟨a1,a2⟩:=(ih1 Hw).1 a r rfl rfl C hN p1 p2;have hle:=Ajv (Bft h);obtain⟨b1,b2⟩:=(ih2 ho').2 l rs rfl rfl C a2 (fun s hs=>by
   obtain⟨c1,c2⟩:=hp s (List.mem_cons_of_mem _ hs);exact⟨c1,by omega⟩)
  refine⟨fun z hz=>?_,b2⟩;rcases q_kb.1 hz with rfl|hz
  ·exact a1
  ·exact b1 z hz
end
end Go.Proofs.YtgdkddjdhijfnaaGreatDoor.Abs
namespace Go.Proofs.YtgdkddjdhijfnaaGreatDoor.Nrm
open Go Go.RowKit
def rwithin_any(n:Int)(m:Nat)(w:World) :
  Calls Tryz.prog 11 #[.int .i64 n,.float .f64 m] w fun e w'=>e=.returned (.bool (within n m))/\w'=w:=by
 go_enter Tryz.func11,Tryz.ntmps11
 go_wp2
 go_ret
 exact⟨rfl,rfl⟩
end Go.Proofs.YtgdkddjdhijfnaaGreatDoor.Nrm
namespace Go.Proofs.YtgdkddjdhijfnaaGreatDoor.Abs
open Go Go.RowKit Go.Proofs.YtgdkddjdhijfnaaGreatDoor
def A1o(n:Int)(b:Nat):Con 11 [.int .i64 n,.float .f64 b] (.bool (Nrm.within n b)):=by
 refine Anf (fun m=>.bool _) (fun m w vs hl hr=>?_)
 match vs,hl with
 |[v,u],_=>
  have h0:=hr 0 v _ rfl rfl;have h1:=hr 1 u _ rfl rfl;cases h0;cases h1;exact Nrm.rwithin_any n b w
open Go Go.Proofs Go.Proofs.YtgdkddjdhijfnaaGreatDoor
def af3:AF:=⟨61,[(.t 6)],(Ab [oP 3 (.box (.t 0)),oP 4 (.box (.t 1)),oP 6 (.mv (cB false))] (.seq (Ab [oP 11 (Ak 5 3),oP 12 (Ak 5 4),oP 13 (.bslice 5 [(.t 11),(.t 12)]),oP 14 (.call 8 [(.t 13)]),oP 15 (.un .not (.t 14))] (Ae 15 (Ab [oP 6 (.mv (cB true))] .ret) .skip)) (Ab [oP 17 (Ak 5 3),oP 18 (Ak 5 4),Aa 19 2,oP 20 (.hcall 9 [(.t 17),(.t 18),(.t 19)]),Aa 16 20,oP 21 (.ext (.t 16) 0),oP 22 (.ext (.t 16) 1),Aa 7 21,Aa 8 22] (Ab [oP 24 (Ak 5 3),oP 25 (Ak 5 4),oP 26 (.call 10 [(.t 24),(.t 25)]),Aa 23 26,oP 27 (.ext (.t 23) 0),oP 28 (.ext (.t 23) 1),oP 10 (.newg [(iS 0),(.bool false)]),Aa 9 27,oN (Al 2 10 28)] (.seq (Ab [Aa 29 8,oP 30 (Aj 29 6)] (Ae 30 (Ab [Aa 31 7,oP 32 (.un .not (.t 31)),Aa 33 32,oG 34 33 true 0 (Ac 1 10),oG 35 33 true 0 (Ad 34),oG 36 33 true 0 (mT 35),oG 37 36 false 0 (Ac 0 10),oG 38 36 false 0 (Ad 37),oG 39 36 false 0 (mT 2),oG 40 36 false 0 (.call 11 [(.t 38),(.t 39)]),oG 41 36 false 0 (.un .not (.t 40)),oG 42 33 true 0 (Bf 36 41),oP 43 (Az 33 42),Aa 44 43,oG 45 44 true 0 (.call 12 []),oP 46 (Az 44 45),Aa 6 46] .ret) .skip)) (Ab [Aa 47 8,oP 48 (Aj 47 0),Aa 49 48,oG 50 49 true 0 (Ac 1 10),oG 51 49 true 0 (Ad 50),oG 52 49 true 0 (mT 51),oG 53 52 false 0 (mT 7),oG 54 52 false 0 (mT 9),oG 55 52 false 0 (.bin 1 .eql (.t 53) (.t 54)),oG 56 49 true 0 (Bf 52 55),oP 57 (Az 49 56),Aa 58 57,oG 59 58 true 0 (.call 12 []),oP 60 (Az 58 59),Aa 6 60] .ret))))))⟩
def tr3:trF Tryz.prog Tryz.f3=some af3:=by kernel_rfl
attribute [go_sem] af3
section
variable{i j n i' j' n':Int}{a0 a1 a2 a3 b0 b1 b2 b3:Tm}{v v':Bool}
def Bem(H:Con 24 [.agg true (tv a1),.agg true (tv b1)] (.bool v)):Con 24 [.agg true (tv (.mk 14 i j n [a0,a1])),.agg true (tv (.mk 14 i' j' n' [b0,b1]))] (.bool v):=by
 refine Au mixed Tryz.func24 tr24 ?_;rw[As,As];simp only[q_h,q_i]
 repeat' first
  |simp (config:={ maxSteps:=2000000 }) only[go_sem,seval]
  |refine Af (H) ?_
  |rfl
def Ber(H:Con 24 [.agg true (tv a2),.agg true (tv b2)] (.bool v))(H':v=true->Con 24 [.agg true (tv a3),.agg true (tv b3)] (.bool v')):Con 24 [.agg true (tv (.mk 17 i j n [a0,a1,a2,a3])),.agg true (tv (.mk 17 i' j' n' [b0,b1,b2,b3]))] (.bool (v && v')):=by
 refine Au mixed Tryz.func24 tr24 ?_;rw[As,As];simp only[q_h,q_i];cases v with
 |false=>repeat' first
        |simp (config:={ maxSteps:=2000000 }) only[go_sem,seval]
        |refine Af (H) ?_
        |rfl
 |true=>
  have H2:=H' rfl
  repeat' first
   |simp (config:={ maxSteps:=2000000 }) only[go_sem,seval]
   |refine Af (H) ?_
   |refine Af (H2) ?_
   |rfl
variable{k k':Int}{l l':List Tm}{p q:Tm}
def Anj:Con 39 [.int .i64 0] (.agg true (tv (vT 0))):=by
 refine (Au (r:=.agg true [.int .i64 2,.int .i64 0,.int .i64 0,.int .i64 0,.nils]) mixed Tryz.func39 tr39 ?_).weaken (Su _ _ _ _);simp only[go_sem,seval]
def Anb(k:Int)(p q:Tm):Con 37 [.int .i64 k,.dsl 5 [tv p,tv q]] (.agg true (tv (.mk k 0 0 0 [p,q]))):=by
 refine Au mixed Tryz.func37 tr37 ?_;rw[As];simp only[q_h,q_i]
 repeat' first
  |simp (config:={ maxSteps:=2000000 }) only[go_sem,seval]
  |refine Bd ?_
  |refine Cv 6 ?_
  |rfl
def Ac1(k:Int)(p:Tm):Con 37 [.int .i64 k,.dsl 5 [tv p]] (.agg true (tv (.mk k 0 0 0 [p]))):=by
 refine Au mixed Tryz.func37 tr37 ?_;rw[As];simp only[q_h,q_i]
 repeat' first
  |simp (config:={ maxSteps:=2000000 }) only[go_sem,seval]
  |refine Bd ?_
  |refine Cv 6 ?_
  |rfl
def Ben(hk:k≠14)(hl:Con 38 [.agg true (tv (.mk k i' j' n' l)),.int .i64 1,.int .i64 0] (.agg true (tv p)))(H:Con 24 [.agg true (tv a1),.agg true (tv (.mk 15 0 0 0 [p,vT 0]))] (.bool v)):Con 24 [.agg true (tv (.mk 14 i j n [a0,a1])),.agg true (tv (.mk k i' j' n' l))] (.bool v):=by
 refine Au mixed Tryz.func24 tr24 ?_;have hv:=Anj;have ho:=Anb 15 p (vT 0);have hb:=Ao hk;rw[As] at hl;rw[As 14,As k];simp only[q_h,q_i];generalize l.map tv=rows at *
 repeat' first
  |simp (config:={ maxSteps:=2000000 }) only[go_sem,seval,hb]
  |refine Af (hl) ?_
  |refine Af (hv) ?_
  |refine Af (ho) ?_
  |refine Af (H) ?_
  |rfl
def Beo(hk:k≠14)(hl:Con 38 [.agg true (tv (.mk k i j n l)),.int .i64 1,.int .i64 0] (.agg true (tv p)))(H:Con 24 [.agg true (tv (.mk 15 0 0 0 [p,vT 0])),.agg true (tv b1)] (.bool v)):Con 24 [.agg true (tv (.mk k i j n l)),.agg true (tv (.mk 14 i' j' n' [b0,b1]))] (.bool v):=by
 refine Au mixed Tryz.func24 tr24 ?_;have hv:=Anj;have ho:=Anb 15 p (vT 0);have hb:=Ao hk;rw[As] at hl;rw[As 14,As k];simp only[q_h,q_i];generalize l.map tv=rows at *
 cases h17:(k==17) with
 |true=>repeat' first
       |simp (config:={ maxSteps:=2000000 }) only[go_sem,seval,hb,h17]
       |refine Af (hl) ?_
       |refine Af (hv) ?_
       |refine Af (ho) ?_
       |refine Af (H) ?_
       |rfl
 |false=>repeat' first
        |simp (config:={ maxSteps:=2000000 }) only[go_sem,seval,hb,h17]
        |refine Af (hl) ?_
        |refine Af (hv) ?_
        |refine Af (ho) ?_
        |refine Af (H) ?_
        |rfl
def Beq(hk:k≠14)(Dj:k≠17)(H:Con 24 [.agg true (tv a2),.agg true (tv (.mk 18 0 0 0 [.mk k i' j' n' l]))] (.bool v))(H':v=true->Con 24 [.agg true (tv a3),.agg true (tv (.mk 19 0 0 0 [.mk k i' j' n' l]))] (.bool v')):Con 24 [.agg true (tv (.mk 17 i j n [a0,a1,a2,a3])),.agg true (tv (.mk k i' j' n' l))] (.bool (v && v')):=by
 refine Au mixed Tryz.func24 tr24 ?_;have o1:=Ac1 18 (.mk k i' j' n' l);have o2:=Ac1 19 (.mk k i' j' n' l);have hb:=Ao hk;have Dc:=Ao Dj;rw[As 17];simp only[q_h,q_i];rw[As] at o1 o2;rw[As];generalize l.map tv=rows at *
 cases v with
 |false=>repeat' first
        |simp (config:={ maxSteps:=2000000 }) only[go_sem,seval,hb,Dc]
        |refine Af (o1) ?_
        |refine Af (H) ?_
        |rfl
 |true=>
  have H2:=H' rfl
  repeat' first
   |simp (config:={ maxSteps:=2000000 }) only[go_sem,seval,hb,Dc]
   |refine Af (o1) ?_
   |refine Af (o2) ?_
   |refine Af (H) ?_
   |refine Af (H2) ?_
   |rfl
def Bep(hk:k≠14)(Dj:k≠17)(H:Con 24 [.agg true (tv (.mk 18 0 0 0 [.mk k i j n l])),.agg true (tv b2)] (.bool v))(H':v=true->Con 24 [.agg true (tv (.mk 19 0 0 0 [.mk k i j n l])),.agg true (tv b3)] (.bool v')):Con 24 [.agg true (tv (.mk k i j n l)),.agg true (tv (.mk 17 i' j' n' [b0,b1,b2,b3]))] (.bool (v && v')):=by
 refine Au mixed Tryz.func24 tr24 ?_;have o1:=Ac1 18 (.mk k i j n l);have o2:=Ac1 19 (.mk k i j n l);have hb:=Ao hk;have Dc:=Ao Dj;rw[As 17];simp only[q_h,q_i];rw[As] at o1 o2;rw[As];generalize l.map tv=rows at *
 cases v with
 |false=>repeat' first
        |simp (config:={ maxSteps:=2000000 }) only[go_sem,seval,hb,Dc]
        |refine Af (o1) ?_
        |refine Af (H) ?_
        |rfl
 |true=>
  have H2:=H' rfl
  repeat' first
   |simp (config:={ maxSteps:=2000000 }) only[go_sem,seval,hb,Dc]
   |refine Af (o1) ?_
   |refine Af (o2) ?_
   |refine Af (H) ?_
   |refine Af (H2) ?_
   |rfl
end
def Bes(k i j n k' i' j' n':Int)(x1:k≠14)(x2:k≠17)(y1:k'≠14)(y2:k'≠17)(rows rows':GV)(E:Nat->Bool)(h5:∀r∈rows,r.length=5)(Gj:∀r∈rows',r.length=5)(h2:rows.length*56<=140737488355328)
  (H:∀x,x<rows.length->x<rows'.length->Con 24 [.agg true (rows[x]?.getD []),.agg true (rows'[x]?.getD [])] (.bool (E x))) (r0:Bool)
  (hn:¬(k=k'/\i=i'/\j=j'/\n=n'/\rows.length=rows'.length)->r0=false)
  (hf:k=k'->i=i'->j=j'->n=n'->rows.length=rows'.length->∀x,x<rows.length->E x=false->r0=false)
  (ht:k=k'->i=i'->j=j'->n=n'->rows.length=rows'.length->(∀x,x<rows.length->E x=true)->r0=true) :
  Con 24 [.agg true [.int .i64 k,.int .i64 i,.int .i64 j,.int .i64 n,.dsl 5 rows],.agg true [.int .i64 k',.int .i64 i',.int .i64 j',.int .i64 n',.dsl 5 rows']] (.bool r0):=by
 refine Au mixed Tryz.func24 tr24 ?_;have b1:=Ao x1;have b2:=Ao x2;have c1:=Ao y1;have c2:=Ao y2
 by_cases a1:k=k'
 rotate_left
 ·have q:(k != k')=true:=by simp[a1]
  rw[hn (fun h=>a1 h.1)];simp only[go_sem,seval,b1,b2,c1,c2,q]
 have q1:(k != k')=false:=by simp[a1]
 by_cases a2:i=i'
 rotate_left
 ·have q:(i != i')=true:=by simp[a2]
  rw[hn (fun h=>a2 h.2.1)];simp only[go_sem,seval,b1,b2,c1,c2,q1,q]
 have q2:(i != i')=false:=by simp[a2]
 by_cases a3:j=j'
 rotate_left
 ·have q:(j != j')=true:=by simp[a3]
  rw[hn (fun h=>a3 h.2.2.1)];simp only[go_sem,seval,b1,b2,c1,c2,q1,q2,q]
 have q3:(j != j')=false:=by simp[a3]
 by_cases a4:n=n'
 rotate_left
 ·have q:(n != n')=true:=by simp[a4]
  rw[hn (fun h=>a4 h.2.2.2.1)];simp only[go_sem,seval,b1,b2,c1,c2,q1,q2,q3,q]
 have q4:(n != n')=false:=by simp[a4]
 by_cases a5:rows.length=rows'.length
 rotate_left
 ·have q:((rows.length:Int) != (rows'.length:Int))=true:=by simp;omega
  rw[hn (fun h=>a5 h.2.2.2.2)];simp only[go_sem,seval,b1,b2,c1,c2,q1,q2,q3,q4,q]
  try intros
 have q5:((rows.length:Int) != (rows'.length:Int))=false:=by simp;omega
 simp only[go_sem,seval,b1,b2,c1,c2,q1,q2,q3,q4,q5];intros;refine Rt (fun x=>⟨(.J::.J::.ref 0 0 0 0::.ref 1 0 0 0::.bool false::.int .i64 x::Bo (Bo (Bo (Bo (Bo (jk8 (jk4 (.J::[])))))))),[⟨true,5,[[.int .i64 k,.int .i64 i,.int .i64 j,.int .i64 n,.dsl 5 rows]],0,0,true⟩,⟨true,5,[[.int .i64 k',.int .i64 i',.int .i64 j',.int .i64 n',.dsl 5 rows']],0,0,true⟩]⟩) rows.length (fun x=>E x=true) (fun x hx hp=>?_) ?_
 ·simp only[go_sem,seval];refine fun _=>⟨fun h=>?_,fun h=>?_⟩
  ·have Ag:=q_kx h;have Cr:x<rows.length:=by omega
   have Wb:x<rows'.length:=by omega
   have Aaz:(x:Int)<(rows'.length:Int):=by omega
   have e0:(0:Int)<=(x:Int):=by omega
   have g1:=h5 _ (Hi (d:=[]) Cr);have g2:=Gj _ (Hi (d:=[]) Wb);simp only[go_sem,seval,Ag,Aaz,e0,g1,g2];refine Af (H x Cr Wb) ?_;cases hE:E x<;>simp only[go_sem,seval]
   ·rw[hf a1 a2 a3 a4 a5 x Cr hE]
   ·refine⟨Cr,?_⟩;rw[w64 (n:=(x:Int)+1) (by unfold fit;omega)];exact Bk (by simp[Ba])
  ·have Fy:=q_ky h;have Ml:x=rows.length:=by omega
   simp only[go_sem,seval,h];rw[ht a1 a2 a3 a4 a5 (fun y hy=>hp y (by omega))]
 ·exact Bk (by simp[Ba])
def Anm{C:Nat}{b:Tm}(hp:Cg b=true)(hs:Sf C b)(hC:C+2*wz b<=2000000000):Con 38 [.agg true (tv b),.int .i64 1,.int .i64 0] (.agg true (tv (Ct 1 b))):=by
 obtain⟨w1,w2⟩:=Ale b;have hd:=Ks b;have hc:cap=1099511627776:=rfl;have ht:=Akm hs (by omega);have h1:=w9 b ht hp;have h2:=Ann 1 (by decide) b ht 2 0 hp (Int.le_refl 0) (by omega);have h3:=Aew (k:=1) hs (fr:=0) (by omega);rw[show Gc 1 0 b=Gc ((1:Nat):Int) ((0:Nat):Int) b from rfl,h3] at h2;have h2:Con 62 [.agg true (tv b),.int .i64 1,.int .i64 0] (.tup [.agg true (tv (Ct 1 b)),.bool true]):=h2;refine Au mixed Tryz.func38 tr38 ?_
 repeat' first
  |simp (config:={ maxSteps:=2000000 }) only[go_sem,seval]
  |refine Af (h1) ?_
  |refine Af (h2) ?_
  |rfl
def Al4{C:Nat}{a:Tm}(hp:Cg a=true)(hs:Sf C a)(hC:C+2*wz a<=2000000000):Cg (ap0 a)=true:=by
 by_cases h14:a.k=14
 ·obtain⟨i,j,n,a0,a1,rfl⟩:=sf14 hs h14;rw[Xi];exact (plain_mk.1 hp).2 a1 (by simp)
 ·rw[t9 h14];have w:=(Ale a).1;have h:=(Abm (k:=1) (M:=tsz a) ⟨hp,hs,q_ja _⟩ (by omega)).1;refine Aff (by rfl) ?_;simp only[List.all_cons,List.all_nil,h,Us (show 0<=2147483647 by decide)];rfl
def Afi{a:Tm}{k:Int}{p:Nat}(hp:Cg a=true)(hk:k=18/\p=2\/k=19/\p=3):Cg (pt0 k p a)=true:=by
 unfold pt0;split
 ·obtain⟨k',i,j,n,l⟩:=a;have hl:=(plain_mk.1 hp).2;unfold Ap;show Cg (l.getD p (vT 0))=true;rw[q_j];cases h:l[p]? with
  |none=>exact Us (by decide)
  |some t=>exact hl t (q_jb h)
 ·rcases hk with⟨rfl,_⟩|⟨rfl,_⟩ <;>
  exact Aff (by rfl) (by simp only[List.all_cons,List.all_nil,hp];rfl)
def A0n:∀(f:Nat) {C:Nat} {a b:Tm},Cg a=true->Cg b=true->Sf C a->Sf C b->wz a+wz b<=f->C+2*f<=2000000000->Con 24 [.agg true (tv a),.agg true (tv b)] (.bool (Alk a b)):=by
 intro f
 induction f with
 |zero=>intro C a b _ _ _ _ h;have:=Pc a;omega
 |succ f ih=>
  intro C a b pa pb sa sb hf hC
  by_cases h14:a.k=14\/b.k=14
  ·have e:=Acf sa sb h14;have wa:=Qp sa;have wb:=Qp sb;have H:=ih (Al4 pa sa (by omega)) (Al4 pb sb (by omega)) (My sa) (My sb) (by omega) (by omega);rw[<-e] at H
   by_cases a14:a.k=14
   ·obtain⟨i,j,n,a0,a1,rfl⟩:=sf14 sa a14;rw[Xi] at H
    by_cases b14:b.k=14
    ·obtain⟨i',j',n',b0,b1,rfl⟩:=sf14 sb b14;rw[Xi] at H;exact Bem H
    ·rw[t9 b14] at H;have hl:=Anm pb sb (by omega);obtain⟨k,i',j',n',l⟩:=b;exact Ben b14 hl H
   ·have b14:b.k=14:=h14.resolve_left a14;obtain⟨i',j',n',b0,b1,rfl⟩:=sf14 sb b14;rw[Xi,t9 a14] at H;have hl:=Anm pa sa (by omega);obtain⟨k,i,j,n,l⟩:=a;exact Beo a14 hl H
  ·have na:a.k≠14:=fun h=>h14 (.inl h)
   have nb:b.k≠14:=fun h=>h14 (.inr h)
   by_cases h17:a.k=17\/b.k=17
   ·have e:=Agh sa sb h14 h17;rw[e];have a18:=Hf 18 (.inl rfl) 2 a;have a19:=Hf 19 (.inr rfl) 3 a;have b18:=Hf 18 (.inl rfl) 2 b;have b19:=Hf 19 (.inr rfl) 3 b;have H:=ih (Afi pa (.inl ⟨rfl,rfl⟩)) (Afi pb (.inl ⟨rfl,rfl⟩)) (Gf sa 18 2 (.inl ⟨rfl,rfl⟩)) (Gf sb 18 2 (.inl ⟨rfl,rfl⟩)) (by omega) (by omega);have H':=ih (Afi pa (.inr ⟨rfl,rfl⟩)) (Afi pb (.inr ⟨rfl,rfl⟩)) (Gf sa 19 3 (.inr ⟨rfl,rfl⟩)) (Gf sb 19 3 (.inr ⟨rfl,rfl⟩)) (by omega) (by omega)
    by_cases a17:a.k=17
    ·obtain⟨i,j,n,a0,a1,a2,a3,rfl⟩:=sf17 sa a17
     by_cases b17:b.k=17
     ·obtain⟨i',j',n',b0,b1,b2,b3,rfl⟩:=sf17 sb b17;exact Ber H (fun _=>H')
     ·rw[Wr b17] at H H' |-;rw[Wr b17];obtain⟨k,i',j',n',l⟩:=b;exact Beq nb b17 H (fun _=>H')
    ·have b17:b.k=17:=h17.resolve_left a17;obtain⟨i',j',n',b0,b1,b2,b3,rfl⟩:=sf17 sb b17;rw[Wr a17] at H H' |-;rw[Wr a17];obtain⟨k,i,j,n,l⟩:=a;exact Bep na a17 H (fun _=>H')
   ·have ma:a.k≠17:=fun h=>h17 (.inl h)
    have mb:b.k≠17:=fun h=>h17 (.inr h)
    have e:=Xb sa sb h14 h17;have f1:¬(a.k=b.k/\a.i=b.i/\a.j=b.j/\a.n=b.n)->Alk a b=false:=fun h=>by rw[e,q_je h,q_lh]
    have f2:a.k=b.k->a.i=b.i->a.j=b.j->a.n=b.n->Alk a b=Ji a.kids b.kids:=fun h1 h2 h3 h4=>by rw[e,q_jn ⟨h1,h2,h3,h4⟩,q_lf]
    clear e;have ka:=Qa (a:=a);have kb:=Qa (a:=b);have Ud:=Afz sa;have hlb:=Afz sb;obtain⟨k,i,j,n,l⟩:=a;obtain⟨k',i',j',n',l'⟩:=b;simp only[Tm.k,Tm.i,Tm.j,Tm.n,Tm.kids] at na nb ma mb ka kb Ud hlb;have e1:(l.map tv).length=l.length:=by simp
    have e2:(l'.map tv).length=l'.length:=by simp
    have Av:k=k'->n=n'->l.length=l'.length:=fun h1 h2=>by
     subst h1 h2
     by_cases h2:k=2
     ·subst h2;obtain⟨_,_,_,_,rfl,_⟩:=sa.vr;obtain⟨_,_,_,_,rfl,_⟩:=sb.vr;rfl
     ·have g1:=(sa.node h2).2.2;have g2:=(sb.node h2).2.2;omega
    rw[As,As];refine Bes k i j n k' i' j' n' na ma nb mb (l.map tv) (l'.map tv) (fun x=>Alk (l[x]?.getD default) (l'[x]?.getD default)) (rows5 l) (rows5 l') (by omega) (fun x hx Bu=>?_) _ (fun h=>?_) (fun a1 a2 a3 a4 a5 x hx hE=>?_) (fun a1 a2 a3 a4 a5 hE=>?_)
    ·rw[e1] at hx;rw[e2] at Bu;rw[q_ji,q_ji,q_f hx,q_f Bu];have s1:=Af0 (sa.kid (q_f hx)) (c:=C+2) (by have:=Pg k x;omega);have s2:=Af0 (sb.kid (q_f Bu)) (c:=C+2) (by have:=Pg k' x;omega);have w1:=Pa (q_f hx);have w2:=Pa (q_f Bu);exact ih ((plain_mk.1 pa).2 _ (q_kd hx)) ((plain_mk.1 pb).2 _ (q_kd Bu)) s1 s2 (by omega) (by omega)
    ·refine f1 fun ⟨h1,h2,h3,h4⟩=>?_
     exact h ⟨h1,h2,h3,h4,by rw[e1,e2];exact Av h1 h4⟩
    ·rw[f2 a1 a2 a3 a4];show Ji l l'=false;rw[e1,e2] at a5;rw[e1] at hx;cases hA:Ji l l' with
     |false=>rfl
     |true=>rw[(Ace a5).1 hA x hx] at hE;cases hE
    ·rw[f2 a1 a2 a3 a4];rw[e1,e2] at a5;rw[e1] at hE;exact (Ace a5).2 hE
def Arz(b c:Bool)(n:Int):NoG (.tup [.bool b,.agg true [.int .i64 n,.bool c]]):=by
 refine .tup _ (fun x hx=>?_);simp only[q_kb,q_kc,or_false] at hx;rcases hx with rfl|rfl
 ·exact .bool _
 ·refine .agg _ _ (fun x hx=>?_);simp only[q_kb,q_kc,or_false] at hx;rcases hx with rfl|rfl
  ·exact .int _ _
  ·exact .bool _
section
variable{a b x y:Tm}{n n2:Nat}{v:Bool}
def Ar1(a b:Tm):∀x∈[SV.agg true (tv a),.agg true (tv b)],NoG x:=by
 intro x hx;simp only[q_kb,q_kc,or_false] at hx;rcases hx with rfl|rfl<;>exact Qd _ true
def Avp(ca:CN a 0 n false x)(cb:CN b n n2 true y):Con 10 [.agg true (tv a),.agg true (tv b)] (.tup [.bool false,.agg true [.int .i64 n2,.bool true]]):=by
 refine Lt mixed Tryz.func10 tr10 (Ar1 a b) (Arz _ _ _) ?_;have h:=ca 1 [[.int .i64 0,.bool false],[.int .i64 0,.bool false]] rfl;have h2:=cb 1 [[.int .i64 0,.bool false],Ek n false] rfl;simp only[Ek,List.set_cons_succ,List.set_cons_zero] at h h2
 repeat' first
 |simp only[go_sem,seval]
 |refine Ai h ?_
 |refine Ai h2 ?_
def Avq(ca:CN a 0 n false x)(cb:CN b n n2 false y)(hA:Con 24 [.agg true (tv x),.agg true (tv y)] (.bool v)):Con 10 [.agg true (tv a),.agg true (tv b)] (.tup [.bool v,.agg true [.int .i64 n2,.bool false]]):=by
 refine Lt mixed Tryz.func10 tr10 (Ar1 a b) (Arz _ _ _) ?_;have h:=ca 1 [[.int .i64 0,.bool false],[.int .i64 0,.bool false]] rfl;have h2:=cb 1 [[.int .i64 0,.bool false],Ek n false] rfl;simp only[Ek,List.set_cons_succ,List.set_cons_zero] at h h2
 repeat' first
 |simp only[go_sem,seval]
 |refine Ai h ?_
 |refine Ai h2 ?_
 |refine Af hA ?_
end
def Ar2(a b:Tm)(f:Nat):∀x∈[SV.agg true (tv a),.agg true (tv b),.float .f64 f],NoG x:=by
 intro x hx;simp only[q_kb,q_kc,or_false] at hx;rcases hx with rfl|rfl|rfl
 ·exact Qd _ true
 ·exact Qd _ true
 ·exact .float _ _
def Uw(G:GV)(r r':List SV):((G++[r]).set G.length r')[G.length]?=some r':=by simp
section
variable{a b x y:Tm}{n n':Nat}
def Avo(E1:En symT.B a x n)(E2:En symT.B b y n'):∃(v:Bool) (N:Nat) (out:Bool),Con 10 [.agg true (tv a),.agg true (tv b)] (.tup [.bool v,.agg true [.int .i64 N,.bool out]])/\(out=false->v=Alk x y/\N=n+n'):=by
 have hms:ms 0=16004000:=by decide
 have hm:=Ajv (Nat.zero_le n);have z1:=E1.pt.sz;have z2:=E2.pt.sz;obtain⟨N2,o2,r,w1,w2,w3,w4,w5⟩:=Asg plib (ms 0+101) n b 1048576 (by omega) E1.n4 (E2.pt.mono (by omega)) (by omega);cases o2 with
 |true=>exact⟨_,_,_,Avp E1.cn w2,fun h=>by cases h⟩
 |false=>
  obtain⟨n3,rfl,hr⟩:=(Asu Na w1 rfl).1 b r rfl rfl 0 _ E2.pt.sf;obtain⟨rfl,rfl⟩:=NR.det hr E2.nr;have px:=((Asv plib.bd E1.way rfl).1 a x rfl rfl 1048576 (by omega) (E1.pt.mono (by omega)) (by omega)).1;have py:=((Asv plib.bd E2.way rfl).1 b r rfl rfl 1048576 (by omega) (E2.pt.mono (by omega)) (by omega)).1;have wx:=Agg x;have wy:=Agg r;have sx:=E1.sz;have sy:=E2.sz;exact⟨_,_,_,Avq E1.cn w2 (A0n 64000 px py E1.sfx E2.sfx (by omega) (by omega)),fun _=>⟨rfl,rfl⟩⟩
def A7q{f N:Nat}{v w out:Bool}(Cp:Con 8 [.dsl 5 [tv a,tv b]] (.bool true))(hc:∀G:GV,Dd 9 G [.agg true (tv a),.agg true (tv b),.float .f64 f] (fun o _=>o=.ret (.tup [.bool w,.int .i64 0])\/(o=.ret (.tup [.bool false,.int .i64 6])/\Nrm.within ((n+n':Nat):Int) f=false)))
  (hA:Con 10 [.agg true (tv a),.agg true (tv b)] (.tup [.bool v,.agg true [.int .i64 N,.bool out]])) (hv:out=false->v=w/\N=n+n'):Con 3 [.agg true (tv a),.agg true (tv b),.float .f64 f] (.bool true):=by
 refine Lt mixed Tryz.func3 tr3 (Ar2 a b f) (.bool _) ?_;have hw:=A1o N f;simp only[go_sem,seval];refine Af Cp ?_;simp only[go_sem,seval];refine Ha (hc []) trivial (fun r1 G1 k1=>?_) (fun u G1 k1=>by rcases k1 with e|⟨e,_⟩<;>cases e);rcases k1 with e|⟨e,hf⟩
 ·cases e;simp only[go_sem,seval,Uw];refine Af hA ?_;cases out with
  |true=>
   simp only[go_sem,seval,Uw];refine Af Ls ?_;simp only[go_sem,seval,Uw]
  |false=>
   obtain⟨rfl,rfl⟩:=hv rfl;simp only[go_sem,seval,Uw,beq_self_eq_true];refine Af Ls ?_;simp only[go_sem,seval,Uw]
 ·cases e;simp only[go_sem,seval,Uw];refine Af hA ?_;cases out with
  |true=>
   simp only[go_sem,seval,Uw];refine Af Ls ?_;simp only[go_sem,seval,Uw]
  |false=>
   obtain⟨rfl,rfl⟩:=hv rfl;rw[hf] at hw
   repeat' first
   |simp only[go_sem,seval,Uw]
   |refine Af hw ?_
   |refine Af Ls ?_
def A7r{f:Nat}(Cp:Con 8 [.dsl 5 [tv a,tv b]] (.bool false)):Con 3 [.agg true (tv a),.agg true (tv b),.float .f64 f] (.bool true):=by
 refine Lt mixed Tryz.func3 tr3 (Ar2 a b f) (.bool _) ?_;simp only[go_sem,seval];refine Af Cp ?_;simp only[go_sem,seval]
end
def Aza{a b:Tm}(ta:TOk a)(tb:TOk b)(f:Nat):Con 3 [.agg true (tv a),.agg true (tv b),.float .f64 f] (.bool true):=by
 obtain⟨x,n,o,h1,hx,e1⟩:=Ph plib ta;obtain⟨y,n',o',h2,hy,e2⟩:=Ph plib tb;have Cp:=Amy h1 h2
 by_cases ho:o=true/\o'=true
 ·obtain⟨rfl,rfl⟩:=ho;obtain⟨v,N,out,hA,hv⟩:=Avo (e1 rfl) (e2 rfl);exact A7q Cp (fun G=>conv19 ta tb (e1 rfl) (e2 rfl) f G) hA hv
 ·have hf:(o && o')=false:=by cases o<;>cases o'<;>simp_all
  rw[hf] at Cp;exact A7r Cp
end Go.Proofs.YtgdkddjdhijfnaaGreatDoor.Abs
