import Derived.Test.YtgfehkhcmnfpaaaGreatDoorIAfDk
import Derived.Test.YtgfehkhcmnfpaaaGreatDoorIEv
import Derived.Test.YtgfehkhcmnfpaaaGreatDoorProg
import Derived.KernelRfl
import Derived.Deep.RegionHeld3
import Derived.Handy
import Derived.Test.YtgfehkhcmnfpaaaGreatDoorIAfN
import Derived.WalkKit
import Derived.WalkLawsBesides
import Derived.Lib.AppendIntMem
import Derived.Lib.ItoaLen
import Derived.OwnWalk
import Derived.Laws.AppendOwnNone
import Derived.Laws.IdiomStrings
set_option linter.all false
set_option maxRecDepth 20000
set_option maxHeartbeats 4000000
namespace Go.Proofs.YtgfehkhcmnfpaaaGreatDoor.Abs
open Go Go.RowKit Go.Proofs.YtgfehkhcmnfpaaaGreatDoor
def Awr(cap:Array Value)(w:World):(invoke (.fn (.func 103) cap) #[]).run Tryz.prog w=.ok (.enter 103 cap) w:=by
 simp[go_sem]
def Aws(cap:Array Value)(w:World):(invoke (.fn (.func 140) cap) #[]).run Tryz.prog w=.ok (.enter 140 cap) w:=by
 simp[go_sem]
def A1y{i:Nat}(hi:i<=1000):Fz (Cg i) 1=true:=by
 have h1:=Sm hi;unfold Cg;rw[Pz];unfold Lm Ns;rw[h1];rfl
def Al7{i:Nat}(hi:i<=1000):Fz (Cg i) 2=true:=by
 have h1:=Sm hi;unfold Cg;rw[Pz];unfold Lm Ns;rw[h1];rfl
def Ab7:Con 19 [.nils] (.bool true):=Ags [] (fun k hk=>absurd hk (by simp)) (by simp)
def Aps:Con 67 [.nils,.float .f64 4621256167635550208] (.int .i64 0):=by
 refine Xo mixed Tryz.func67 tr67 Awr Nrm.idle_mctx (fun x hx=>?_) (.int _ _) ?_
 ·simp only[q_kb,q_kc,or_false] at hx;rcases hx with rfl|rfl
  ·exact .nils
  ·exact .float _ _
 repeat' first
 |simp only[go_sem,seval]
 |refine Ag Ab7 ?_
 |refine Dv 1 (Ao ?_)
def Av4{i:Nat}(hi:i<=900):Cj 136 [[.float .f64 4621256167635550208]] [.gp 0 0,.nils,.agg true (tv (Cg i))] (.ret (.tup [.agg true (tv (Cg (i+1))),.int .i64 ((i+2:Nat):Int)])) [[.float .f64 4621256167635550208]]:=by
 have hs:=Ag5 ((i:Int)+1);unfold Cg at *
 rw[show ((i:Int)+1)=((i+1:Nat):Int) by omega] at hs;rw[Bp,Bp] at *
 have e1:IntKind.i64.wrap ((i:Int)+2)=((i+2:Nat):Int):=by rw[w64 (n:=(i:Int)+2) (by unfold fit;omega)];omega
 have e2:IntKind.i64.wrap ((i:Int)+1)=((i+1:Nat):Int):=by rw[w64 (n:=(i:Int)+1) (by unfold fit;omega)];omega
 have e3:(((i+2:Nat):Int)<=1000)=True:=by simp;omega
 refine Bq mixed Tryz.func136 tr136 ?_
 repeat' first
 |simp only[go_sem,seval,e1,e2,e3,q_i]
 |refine Ag Aqn ?_
 |refine Ag hs ?_
def Apt{i:Nat}(hi:i<=900):Con 106 [.nils,.agg true (tv (Cg i)),.float .f64 4621256167635550208] (.tup [.agg true (tv (Cg (i+1))),.int .i64 ((i+2:Nat):Int),.int .i64 0]):=by
 have o:=Rd (i:=i) (by omega);have o1:=Rd (i:=i+1) (by omega);refine Xo mixed Tryz.func106 tr106 Aws Nrm.idle_mtype (fun x hx=>?_) (.tup _ (fun x hx=>?_)) ?_
 ·simp only[q_kb,q_kc,or_false] at hx;rcases hx with rfl|rfl|rfl
  ·exact .nils
  ·exact Rb _ true
  ·exact .float _ _
 ·simp only[q_kb,q_kc,or_false] at hx;rcases hx with rfl|rfl|rfl
  ·exact Rb _ true
  ·exact .int _ _
  ·exact .int _ _
 have c1:=Vj (Cg i) o.1;have c2:=Xm (Cg i) o.1 (by omega);rw[o.2.2.1] at c2;have c3:=Agr (Cg (i+1)) o1.1;have c4:=Av4 hi;rw[show Ul (Cg i)=true from A1y (by omega)] at c1;have h5:=Br (Cg i);have h6:=Br (Cg (i+1));generalize tv (Cg i)=r1 at *
 generalize tv (Cg (i+1))=r2 at *
 repeat' first
 |simp only[go_sem,seval,h5,h6]
 |refine Ag Ab7 ?_
 |refine Ag c1 ?_
 |refine Ag c2 ?_
 |refine Ac c4 ?_
 |refine Ag c3 ?_
open Go Go.Proofs Go.Proofs.YtgfehkhcmnfpaaaGreatDoor
def af108:AF:=⟨22,[(.t 2)],(Ab [oP 2 (.mv (cB false))] (.seq (Ab [Aa 5 0,oP 6 (.len false (.t 5)),oP 7 (.mv (cI 0))] (.blk 0 (.loop (Ab [oP 8 (Ca .lss 7 6)] (.seq (Et 8 0) (.seq (.blk 1 (Ab [Aa 9 7,oP 10 (.iad 5 (.t 5) (.t 7)),oP 11 (Aq 5 10),oP 4 Fp,Aa 3 9,oN (Ax 5 4 11)] (Ab [oP 12 (Aq 5 4),oP 13 (.call 23 [(.t 12)]),oP 14 (.un .not (.t 13)),Aa 15 14,oG 16 15 false 0 (Aq 5 4),oG 17 15 false 0 (.call 55 [(.t 16)]),oG 18 15 false 0 (mT 3),oG 19 15 false 0 (Ca .gtr 17 18),oP 20 (Dk 15 19)] (Aj 20 (Ab [oP 2 (.mv (cB false))] .ret) .skip)))) (Bg [oP 21 (Ay .add 7 1),Aa 7 21]))))))) (Ab [oP 2 (.mv (cB true))] .ret)))⟩
def tr108:trF Tryz.prog Tryz.f108=some af108:=by kernel_rfl
attribute [go_sem] af108
def af115:AF:=⟨14,[(.t 4)],(Ab [oP 3 (.box (.t 1)),oP 4 (.mv (cB false))] (Ab [oP 5 (Aq 5 3),oP 6 (.call 23 [(.t 5)]),Aa 7 6,oG 8 7 true 0 (Aq 5 3),oG 9 7 true 0 (.call 55 [(.t 8)]),oG 10 7 true 0 (mT 0),oG 11 7 true 0 (.len false (.t 10)),oG 12 7 true 0 (Ca .leq 9 11),oP 13 (Cf 7 12),Aa 4 13] .ret))⟩
def tr115:trF Tryz.prog Tryz.f115=some af115:=by kernel_rfl
attribute [go_sem] af115
def af111:AF:=⟨11,[(.t 2)],(Ab [oP 2 (.mv (.c .nilp))] (Ab [Aa 4 0,oP 5 (.call 143 [(.t 4)]),Aa 3 5] (Ab [Aa 6 3,oP 7 (.hcall 144 [(.t 6)]),Aa 8 3,oP 9 (.build [.nilp,(iS 0),.nils] [(0,(1,(.t 7))),(1,(1,(.t 8)))]),oP 10 (.boxg (.t 9)),Aa 2 10] .ret)))⟩
def tr111:trF Tryz.prog Tryz.f111=some af111:=by kernel_rfl
attribute [go_sem] af111
def af178:AF:=⟨6,[(.t 2)],(Ab [oP 2 (.mv (.c .nilp))] (Ab [Aa 3 0,oP 4 (.call 162 [(.t 3)]),oP 5 (.hcall 114 [(.t 4),(.c .nilp)]),Aa 2 5] .ret))⟩
def tr178:trF Tryz.prog Tryz.f178=some af178:=by kernel_rfl
attribute [go_sem] af178
def af148:AF:=⟨6,[],(Ab [Aa 2 0,oP 3 (.un .not (.t 2))] (Aj 3 (Bg [oP 4 (.build [] []),oP 5 (.ifc 160 (.t 4)),oN (.pan (.t 5))]) .skip))⟩
def tr148:trF Tryz.prog Tryz.f148=some af148:=by kernel_rfl
attribute [go_sem] af148
def af112:AF:=⟨24,[(.t 6)],(Ab [oP 4 (.box (.t 1)),oP 6 (.mv (cI 0))] (Ab [Aa 8 0,Aa 9 0,oP 10 (Aq 5 4),Aa 11 2,oP 12 (.hcall 147 [(.t 9),(.t 10),(.t 11)]),oP 13 (.hcall 146 [(.t 8),(.t 12)]),Aa 7 13] (Ab [Aa 14 7,oP 15 (Ak 14),oP 16 (Ae 0 15),oP 17 (Ah 16),oP 18 (An 17 1),oP 19 (.call 148 [(.t 18)])] (Ab [Aa 20 7,oP 21 (Ak 20),oP 22 (Ae 1 21),oP 23 (Ah 22),Aa 6 23] .ret))))⟩
def tr112:trF Tryz.prog Tryz.f112=some af112:=by kernel_rfl
attribute [go_sem] af112
def af146:AF:=⟨20,[(.t 4)],(Ab [oP 4 (.mv (.c .nilp))] (Cx [Aa 5 0,oI 6 1 (Ak 5),oI 7 2 (Ae 0 6),oI 8 3 (Ah 7),oI 9 4 (mT 0),oI 10 5 (Ak 9),oI 11 6 (Ae 1 10),oI 12 7 (Ah 11),⟨(some 13),(.hcall 175 [(.t 8),(.t 12)]),none,8,false,[8]⟩] (Ab [Aa 14 0,oP 15 (Ak 14),oP 16 (Ae 0 15),oP 17 (Ah 16),Aa 18 1,oP 19 (.hcall 172 [(.t 17),(.t 18)]),Aa 4 19] .ret)))⟩
def tr146:trF Tryz.prog Tryz.f146=some af146:=by kernel_rfl
attribute [go_sem] af146
def af147:AF:=⟨316,[(.t 6)],(Ab [oP 4 (.box (.t 1)),oP 6 (.mv (.c .nilp))] (.seq (Ab [oP 15 (Ae 0 4),oP 16 (Ah 15)] (.blk 0 (Ab [oP 18 (An 16 1),Aa 17 18] (Aj 17 (Ab [oP 19 (Ae 1 4),oP 20 (Ah 19),oP 21 (Ay .lss 20 1000),oP 22 (.call 148 [(.t 21)])] (Ab [oP 23 (Ae 1 4),oP 24 (Ah 23),oP 25 (Ay .add 24 1),oP 26 (.hcall 178 [(.t 25)]),Aa 6 26] .ret)) (Ab [oP 28 (An 16 2),Aa 27 28] (Aj 27 (Cx [Aa 29 0,oI 30 1 (Ak 29),oI 31 2 (Ae 2 30),⟨(some 32),(Ah 31),none,3,true,[]⟩,oI 33 4 (mT 0),⟨(some 34),(.hcall 151 [(.t 33)]),none,5,true,[3]⟩,oI 35 6 (Ay .sub 34 1),oI 36 7 (Ae 1 4),⟨(some 37),(Ah 36),none,8,false,[5]⟩,oI 38 9 (Ca .sub 35 37),oI 39 10 (.iad 1 (.t 32) (.t 38)),oI 40 11 (Ah 39),oI 6 12 (mT 40)] .ret) (.seq (Ab [oP 42 (An 16 13),Aa 41 42] (Aj 41 .skip (Bg [oP 43 (An 16 16),Aa 41 43]))) (Aj 41 (Ab [Aa 45 0,oP 46 (Aq 5 4),Aa 47 2,oP 48 (.hcall 179 [(.t 45),(.t 46),(.t 47)]),Aa 44 48,oP 49 (.ext (.t 44) 0),oP 50 (.ext (.t 44) 1),Aa 7 49,Aa 8 50] (Ab [Aa 51 7,Aa 52 8,oP 53 (.mnx true (.t 51) (.t 52)),oP 54 (.hcall 178 [(.t 53)]),Aa 6 54] .ret)) (Ab [oP 56 (An 16 14),Aa 55 56] (Aj 55 (Ab [oP 57 (Ae 4 4),oP 58 (Ah 57),oP 59 (.iad 5 (.t 58) (cI 0)),oP 60 (Aq 5 59),Aa 61 2,oP 62 (.hcall 114 [(.t 60),(.t 61)]),Aa 9 62] (Ab [Aa 63 0,oP 64 (Ae 4 4),oP 65 (Ah 64),oP 66 (.iad 5 (.t 65) (cI 0)),oP 67 (Aq 5 66),Aa 68 2,oP 69 (.hcall 112 [(.t 63),(.t 67),(.t 68)])] (Cx [Aa 70 0,oI 71 1 (Ae 4 4),⟨(some 72),(Ah 71),none,2,true,[]⟩,⟨(some 73),(.iad 5 (.t 72) (cI 1)),none,3,true,[]⟩,⟨(some 74),(Aq 5 73),none,4,true,[]⟩,oI 75 5 (mT 0),oI 76 6 (mT 2),oI 77 7 (mT 9),⟨(some 78),(.hcall 113 [(.t 75),(.t 76),(.t 77)]),none,8,false,[2,3,4,8]⟩,⟨(some 79),(.hcall 147 [(.t 70),(.t 74),(.t 78)]),none,9,false,[9]⟩,oI 10 10 (mT 79)] (Cx [Aa 80 0,oI 81 1 (Ak 80),oI 82 2 (Ae 0 81),oI 83 3 (Ah 82),oI 84 4 (mT 0),oI 85 5 (Ak 84),oI 86 6 (Ae 1 85),oI 87 7 (Ah 86),⟨(some 88),(.hcall 175 [(.t 83),(.t 87)]),none,8,false,[8]⟩] (Cx [Aa 89 0,oI 90 1 (Ak 89),oI 91 2 (Ae 0 90),⟨(some 92),(Ah 91),none,3,true,[]⟩,oI 93 4 (mT 10),oI 94 5 (mT 0),⟨(some 95),(.hcall 151 [(.t 94)]),none,6,true,[3]⟩,⟨(some 96),(.hcall 180 [(.t 92),(.t 93),(.t 95)]),none,7,true,[]⟩,⟨(some 11),Fp,none,8,false,[3,6,7]⟩,oJ 9 (Ax 5 11 96)] (Ab [Aa 97 0,oP 98 (.hcall 154 [(.t 97),(cI 1)])] (Ab [Aa 99 9,oP 100 (Aq 5 11),Aa 101 2,oP 102 (.hcall 114 [(.t 100),(.t 101)]),oP 103 (.bslice 1 [(.t 99),(.t 102)]),oP 104 (.build [(iS 0),(iS 0),(iS 0),(iS 0),(iS 0),.nils] [(0,(1,(cI 13))),(5,(1,(.t 103)))]),oP 105 (.box (.t 104)),oP 106 (.hcall 181 [(.t 105)]),Aa 6 106] .ret))))))) (Ab [oP 108 (An 16 15),Aa 107 108] (Aj 107 (Ab [Aa 109 0,oP 110 (Ae 4 4),oP 111 (Ah 110),oP 112 (.iad 5 (.t 111) (cI 0)),oP 113 (Aq 5 112),Aa 114 2,oP 115 (.hcall 182 [(.t 109),(.t 113),(.t 114),(cI 13)]),Aa 12 115] (Cx [Aa 116 0,oI 117 1 (Ae 4 4),oI 118 2 (Ah 117),oI 119 3 (.iad 5 (.t 118) (cI 1)),oI 120 4 (Aq 5 119),oI 121 5 (mT 2),oI 122 6 (mT 12),oI 123 7 (Ak 122),oI 124 8 (Ae 5 123),oI 125 9 (Ah 124),oI 126 10 (.iad 1 (.t 125) (cI 0)),oI 127 11 (Ah 126),⟨(some 128),(.hcall 118 [(.t 116),(.t 120),(.t 121),(.t 127)]),none,12,false,[12]⟩] (Cx [Aa 129 12,oI 130 1 (Ak 129),oI 131 2 (Ae 5 130),⟨(some 132),(Ah 131),none,3,true,[]⟩,⟨(some 133),(.iad 1 (.t 132) (cI 1)),none,4,true,[]⟩,⟨(some 134),(Ah 133),none,5,true,[]⟩,oI 135 6 (Ae 4 4),oI 136 7 (Ah 135),oI 137 8 (.iad 5 (.t 136) (cI 1)),oI 138 9 (Aq 5 137),oI 139 10 (mT 2),⟨(some 140),(.hcall 114 [(.t 138),(.t 139)]),none,11,false,[3,4,5,11]⟩,⟨(some 141),(.hcall 153 [(.t 134),(.t 140)]),none,12,false,[12]⟩,oI 6 13 (mT 141)] .ret))) (Ab [oP 143 (An 16 17),Aa 142 143] (Aj 142 (Ab [Aa 144 0,oP 145 (Aq 5 4),Aa 146 2,oP 147 (.hcall 179 [(.t 144),(.t 145),(.t 146)])] (Cx [Aa 148 0,oI 149 1 (Ae 4 4),⟨(some 150),(Ah 149),none,2,true,[]⟩,⟨(some 151),(.iad 5 (.t 150) (cI 2)),none,3,true,[]⟩,⟨(some 152),(Aq 5 151),none,4,true,[]⟩,oI 153 5 (mT 2),oI 154 6 (Ae 4 4),oI 155 7 (Ah 154),oI 156 8 (.iad 5 (.t 155) (cI 0)),oI 157 9 (Aq 5 156),oI 158 10 (mT 2),⟨(some 159),(.hcall 114 [(.t 157),(.t 158)]),none,11,false,[2,3,4,11]⟩,⟨(some 160),(.hcall 118 [(.t 148),(.t 152),(.t 153),(.t 159)]),none,12,false,[12]⟩] (Cx [Aa 161 0,oI 162 1 (Ae 4 4),⟨(some 163),(Ah 162),none,2,true,[]⟩,⟨(some 164),(.iad 5 (.t 163) (cI 3)),none,3,true,[]⟩,⟨(some 165),(Aq 5 164),none,4,true,[]⟩,oI 166 5 (mT 2),oI 167 6 (Ae 4 4),⟨(some 168),(Ah 167),none,7,true,[]⟩,⟨(some 169),(.iad 5 (.t 168) (cI 1)),none,8,true,[]⟩,⟨(some 170),(Aq 5 169),none,9,true,[]⟩,oI 171 10 (mT 2),oI 172 11 (Ae 4 4),oI 173 12 (Ah 172),oI 174 13 (.iad 5 (.t 173) (cI 2)),oI 175 14 (Aq 5 174),oI 176 15 (mT 2),⟨(some 177),(.hcall 114 [(.t 175),(.t 176)]),none,16,false,[2,3,4,7,8,9,16]⟩,⟨(some 178),(.call 149 [(.t 171),(.t 177)]),none,17,false,[2,3,4,7,8,9]⟩,⟨(some 179),(.hcall 114 [(.t 170),(.t 178)]),none,18,false,[2,3,4,18]⟩,⟨(some 180),(.hcall 118 [(.t 161),(.t 165),(.t 166),(.t 179)]),none,19,false,[19]⟩] (Cx [oP 181 (Ae 4 4),oI 182 1 (Ah 181),oI 183 2 (.iad 5 (.t 182) (cI 0)),oI 184 3 (Aq 5 183),oI 185 4 (Ae 4 4),oI 186 5 (Ah 185),oI 187 6 (.iad 5 (.t 186) (cI 1)),oI 188 7 (Aq 5 187),oI 189 8 (.bslice 5 [(.t 184),(.t 188)]),oI 190 9 (.call 74 [(cI 16),(cI 0),(cI 0),(cI 0),(.t 189)]),oI 191 10 (mT 2),⟨(some 192),(.hcall 114 [(.t 190),(.t 191)]),none,11,false,[11]⟩,oI 6 12 (mT 192)] .ret)))) (Ab [oP 194 (An 16 18),Aa 193 194] (Aj 193 (Ab [Aa 195 0,oP 196 (Ae 4 4),oP 197 (Ah 196),oP 198 (.iad 5 (.t 197) (cI 0)),oP 199 (Aq 5 198),Aa 200 2,oP 201 (.hcall 182 [(.t 195),(.t 199),(.t 200),(cI 16)]),oP 202 (Ak 201),oP 203 (Ae 5 202),oP 204 (Ah 203),oP 205 (.iad 1 (.t 204) (cI 0)),oP 206 (Ah 205),Aa 6 206] .ret) (Ab [oP 208 (An 16 19),Aa 207 208] (Aj 207 (Ab [Aa 209 0,oP 210 (Ae 4 4),oP 211 (Ah 210),oP 212 (.iad 5 (.t 211) (cI 0)),oP 213 (Aq 5 212),Aa 214 2,oP 215 (.hcall 182 [(.t 209),(.t 213),(.t 214),(cI 16)]),Aa 13 215] (Cx [Aa 216 13,oI 217 1 (Ak 216),oI 218 2 (Ae 5 217),⟨(some 219),(Ah 218),none,3,true,[]⟩,⟨(some 220),(.iad 1 (.t 219) (cI 1)),none,4,true,[]⟩,⟨(some 221),(Ah 220),none,5,true,[]⟩,oI 222 6 (Ae 4 4),oI 223 7 (Ah 222),oI 224 8 (.iad 5 (.t 223) (cI 0)),oI 225 9 (Aq 5 224),⟨(some 226),(.bslice 5 [(.t 225)]),none,10,false,[3,4,5]⟩,⟨(some 227),(.call 74 [(cI 18),(cI 0),(cI 0),(cI 0),(.t 226)]),none,11,false,[3,4,5]⟩,oI 228 12 (mT 2),⟨(some 229),(.hcall 114 [(.t 227),(.t 228)]),none,13,false,[3,4,5,13]⟩,⟨(some 230),(.hcall 153 [(.t 221),(.t 229)]),none,14,false,[14]⟩,oI 6 15 (mT 230)] .ret)) (Ab [oP 232 (An 16 20),Aa 231 232] (Aj 231 (Ab [Aa 233 0,oP 234 (Ae 4 4),oP 235 (Ah 234),oP 236 (.iad 5 (.t 235) (cI 0)),oP 237 (Aq 5 236),Aa 238 2,oP 239 (.hcall 112 [(.t 233),(.t 237),(.t 238)]),Aa 14 239] (Cx [Aa 240 0,oI 241 1 (Ae 4 4),⟨(some 242),(Ah 241),none,2,true,[]⟩,⟨(some 243),(.iad 5 (.t 242) (cI 1)),none,3,true,[]⟩,⟨(some 244),(Aq 5 243),none,4,true,[]⟩,oI 245 5 (mT 2),oI 246 6 (Ae 4 4),oI 247 7 (Ah 246),oI 248 8 (.iad 5 (.t 247) (cI 0)),oI 249 9 (Aq 5 248),oI 250 10 (mT 2),⟨(some 251),(.hcall 114 [(.t 249),(.t 250)]),none,11,false,[2,3,4,11]⟩,⟨(some 252),(.hcall 118 [(.t 240),(.t 244),(.t 245),(.t 251)]),none,12,false,[12]⟩] (Cx [Aa 253 0,oI 254 1 (Ae 4 4),⟨(some 255),(Ah 254),none,2,true,[]⟩,⟨(some 256),(.iad 5 (.t 255) (cI 2)),none,3,true,[]⟩,⟨(some 257),(Aq 5 256),none,4,true,[]⟩,oI 258 5 (mT 2),oI 259 6 (Ae 4 4),oI 260 7 (Ah 259),oI 261 8 (.iad 5 (.t 260) (cI 0)),oI 262 9 (Aq 5 261),oI 263 10 (mT 2),⟨(some 264),(.hcall 114 [(.t 262),(.t 263)]),none,11,false,[2,3,4,11]⟩,⟨(some 265),(.hcall 118 [(.t 253),(.t 257),(.t 258),(.t 264)]),none,12,false,[12]⟩] (Ab [Aa 266 14,oP 267 (.hcall 178 [(.t 266)]),Aa 6 267] .ret)))) (Ab [oP 269 (An 16 21),Aa 268 269] (Aj 268 (Ab [Aa 270 0,oP 271 (Ae 4 4),oP 272 (Ah 271),oP 273 (.iad 5 (.t 272) (cI 0)),oP 274 (Aq 5 273),Aa 275 2,oP 276 (.hcall 112 [(.t 270),(.t 274),(.t 275)])] (Cx [Aa 277 0,oI 278 1 (Ae 4 4),⟨(some 279),(Ah 278),none,2,true,[]⟩,⟨(some 280),(.iad 5 (.t 279) (cI 1)),none,3,true,[]⟩,⟨(some 281),(Aq 5 280),none,4,true,[]⟩,oI 282 5 (mT 2),oI 283 6 (Ae 4 4),oI 284 7 (Ah 283),oI 285 8 (.iad 5 (.t 284) (cI 0)),oI 286 9 (Aq 5 285),oI 287 10 (mT 2),⟨(some 288),(.hcall 114 [(.t 286),(.t 287)]),none,11,false,[2,3,4,11]⟩,⟨(some 289),(.hcall 118 [(.t 277),(.t 281),(.t 282),(.t 288)]),none,12,false,[12]⟩] (Cx [oP 290 (Ae 4 4),oI 291 1 (Ah 290),oI 292 2 (.iad 5 (.t 291) (cI 0)),oI 293 3 (Aq 5 292),oI 294 4 (Ae 4 4),oI 295 5 (Ah 294),oI 296 6 (.iad 5 (.t 295) (cI 1)),oI 297 7 (Aq 5 296),oI 298 8 (Ae 4 4),oI 299 9 (Ah 298),oI 300 10 (.iad 5 (.t 299) (cI 1)),oI 301 11 (Aq 5 300),oI 302 12 (.bslice 5 [(.t 293),(.t 297),(.t 301)]),oI 303 13 (.call 74 [(cI 20),(cI 0),(cI 0),(cI 0),(.t 302)]),oI 304 14 (mT 2),⟨(some 305),(.hcall 114 [(.t 303),(.t 304)]),none,15,false,[15]⟩,oI 6 16 (mT 305)] .ret))) (Ab [oP 307 (An 16 22),Aa 306 307] (Aj 306 (Ab [Aa 308 0,oP 309 (Aq 5 4),Aa 310 2,oP 311 (.hcall 183 [(.t 308),(.t 309),(.t 310)]),Aa 6 311] .ret) .skip)))))))))))))))))))))))) (Ab [Aa 312 0,oP 313 (Aq 5 4),Aa 314 2,oP 315 (.hcall 184 [(.t 312),(.t 313),(.t 314)]),Aa 6 315] .ret)))⟩
def tr147:trF Tryz.prog Tryz.f147=some af147:=by kernel_rfl
attribute [go_sem] af147
def af117:AF:=⟨22,[(.t 4)],(Ab [oP 4 (.mv (.c .nilp))] (Ab [oP 5 (.mv (.c .nilp))] (.seq (Ab [Aa 8 1,oP 9 (.len false (.t 8)),oP 10 (.mv (cI 0))] (.blk 0 (.loop (Ab [oP 11 (Ca .lss 10 9)] (.seq (Et 11 0) (.seq (.blk 1 (Ab [oP 12 (.iad 5 (.t 8) (.t 10)),oP 13 (Aq 5 12),oP 7 Fp,oN (Ax 5 7 13)] (Bg [Aa 14 0,Aa 15 5,oP 16 (Aq 5 7),Aa 17 5,oP 18 (.hcall 114 [(.t 16),(.t 17)]),oP 19 (.hcall 113 [(.t 14),(.t 15),(.t 18)]),Aa 5 19]))) (Bg [oP 20 (Ay .add 10 1),Aa 10 20]))))))) (Ab [Aa 21 5,Aa 4 21] .ret))))⟩
def tr117:trF Tryz.prog Tryz.f117=some af117:=by kernel_rfl
attribute [go_sem] af117
def Awq(cap:Array Value)(w:World):(invoke (.fn (.func 109) cap) #[]).run Tryz.prog w=.ok (.enter 109 cap) w:=by
 simp[go_sem]
def Awp(cap:Array Value)(w:World):(invoke (.fn (.func 116) cap) #[]).run Tryz.prog w=.ok (.enter 116 cap) w:=by
 simp[go_sem]
def Agw:Con 108 [.dsl 5 []] (.bool true):=by
 refine Cu mixed Tryz.func108 tr108 ?_
 repeat' first
 |simp only[go_sem,seval]
 |refine Dv 1 (Ao ?_)
def Agv{i:Nat}(hi:i<=1000):Con 115 [.dsl 5 [],.agg true (tv (Cg i))] (.bool true):=by
 have o:=Rd hi;have c1:=Aca (Cg i) o.1;rw[Al7 hi] at c1;have c2:=Xm (Cg i) o.1 (by omega);rw[o.2.2.1] at c2;have h5:=Br (Cg i);generalize tv (Cg i)=r at *
 refine Cu mixed Tryz.func115 tr115 ?_
 repeat' first
 |simp only[go_sem,seval,h5]
 |refine Ag c1 ?_
 |refine Ag c2 ?_
def Ab9:Con 148 [.bool true] (.tup []):=by
 refine Cu mixed Tryz.func148 tr148 ?_
 repeat' first
 |simp only[go_sem,seval]
def Kt(m:Nat):List SV:=[.gp m 0,.int .i64 9,.nils]
def Ain (G:GV):Cj 111 G [.float .f64 4621256167635550208] (.ret (.gp (G.length+2) 0)) (G++[[.undef],Fa 0 9 0 0 G.length]++[Kt (G.length+1)]):=by
 have hn:=Aiq G 9;refine Bq mixed Tryz.func111 tr111 ?_
 repeat' first
 |simp only[go_sem,seval,Kt]
 |refine Ag Agx ?_
 |refine Ac hn ?_
def Ave(G:GV)(c:Nat):Cj 117 G [.gp c 0,.dsl 5 []] (.ret (Fm [])) G:=by
 refine Bq mixed Tryz.func117 tr117 ?_
 repeat' first
 |simp only[go_sem,seval,Rn]
 |refine Dv 1 (Ao ?_)
def Gx(i:Nat)(v w:Option Vl):List SV:=thR ⟨Cg i,[],false,v,w⟩
def Av2(G:GV)(i:Nat):Cj 178 G [.int .i64 i] (.ret (.gp G.length 0)) (G++[Gx i none none]):=by
 have hs:=Ag5 (i:Int);have hc:=Yn G (Cg i) [];rw[show (Tm.mk 1 (i:Int) 0 0 [])=Cg i from rfl] at hs;have h5:=Br (Cg i);unfold Gx;generalize thR ⟨Cg i,[],false,none,none⟩=ta at *
 generalize tv (Cg i)=r at *
 refine Bq mixed Tryz.func178 tr178 ?_
 repeat' first
 |simp only[go_sem,seval,h5,Rn]
 |refine Ag hs ?_
 |refine Ac hc ?_
def Aio{G:GV}{c:Nat}{i:Nat}(hi:i<=900):Cj 147 G [.gp c 0,.agg true (tv (Cg i)),Fm []] (.ret (.gp G.length 0)) (G++[Gx (i+1) none none]):=by
 have hs:=Av2 G (i+1);generalize Gx (i+1) none none=ta at *
 have e2:IntKind.i64.wrap ((i:Int)+1)=((i+1:Nat):Int):=by rw[w64 (n:=(i:Int)+1) (by unfold fit;omega)];omega
 have e3:((i:Int)<1000)=True:=by simp;omega
 refine Bq mixed Tryz.func147 tr147 ?_;unfold Cg;rw[Bp]
 repeat' first
 |simp only[go_sem,seval,e2,e3,q_i]
 |refine Ag Ab9 ?_
 |refine Ac hs ?_
def sVl(i:Nat):Vl:=⟨1,i,0,0,0,[]⟩
def Av5{G:GV}{m id i:Nat}(h:G[id]?=some (Gx i none none)):Cj 201 G [.gp m 0,.gp id 0] (.ret (vlV (sVl i))) (G.set id (Gx i (some (sVl i)) none)):=
 A4e (th:=⟨Cg i,[],false,none,none⟩) (th1:=⟨Cg i,[],false,none,none⟩) h rfl rfl (by
  have:=Aug (G:=G) (m:=m) (k:=1) (i:=i) (j:=0) (n:=0) (l:=[]) (e:=[]) (by simp) (by omega) (by omega);simpa [Jo,Aa2,sVl,Cg] using Avi this) h
def Avq{G:GV}{c m id i j:Nat}{steps most seen guess:Int}(hc:G[c]?=some (Kt m))(hG:G[m]?=some (Fa steps most seen guess j))(h:G[id]?=some (Gx i none none))(Dw:m≠id)(Rw:c≠m) :
  Cj 146 G [.gp c 0,.gp id 0] (.ret (vlV (sVl i))) ((G.set m (Fa 0 9 0 guess j)).set id (Gx i (some (sVl i)) (some (sVl i)))):=by
 have h1:=Air hG 9;have Am:id<G.length:=Aex h;have g1:(G.set m (Fa 0 9 0 guess j))[id]?=some (Gx i none none):=by rw[q_jc Dw];exact h
 have g2:(G.set m (Fa 0 9 0 guess j))[c]?=some (Kt m):=by rw[q_jc (Ne.symm Rw)];exact hc
 have hw:=Av5 (m:=m) g1;have g3:((G.set m (Fa 0 9 0 guess j)).set id (Gx i (some (sVl i)) none))[id]?=some (Gx i (some (sVl i)) none):=q_jq (by rw[List.length_set];exact Am);have hh:=Awb (m:=m) (th:=⟨Cg i,[],false,none,none⟩) (th1:=⟨Cg i,[],false,some (sVl i),none⟩) (v:=sVl i) g1 rfl hw g3 (.base (show (1:Int)≠23 by decide) (show (1:Int)≠15/\(1:Int)≠18/\(1:Int)≠19/\(1:Int)≠22 by decide));rw[i8] at hh;refine Bq mixed Tryz.func146 tr146 ?_;unfold Kt at hc g2;unfold Gx at *
 repeat' first
 |simp only[go_sem,seval,hc,g2]
 |refine Ac h1 ?_
 |refine Ac hh ?_
def kG0:GV:=[[.undef],Fa 0 9 0 0 0,Kt 1]
def kG1:GV:=[[.undef],Fa 0 9 0 0 0,Kt 1,Gx 2 (some (sVl 2)) (some (sVl 2))]
def kG2:GV:=[[.undef],Fa 0 9 0 0 0,Kt 1,Gx 2 (some (sVl 2)) (some (sVl 2)),Gx 1 none none]
def kG3:GV:=[[.undef],Fa 0 9 1 0 0,Kt 1,Gx 2 (some (sVl 2)) (some (sVl 2)),Gx 1 none none,Gx 1 none none]
def Avr:Cj 112 kG0 [.gp 2 0,.agg true (tv (Cg 1)),Fm []] (.ret (.int .i64 2)) kG1:=by
 have h1:=Aio (G:=kG0) (c:=2) (i:=1) (by omega);have h2:=Avq (G:=kG0++[Gx 2 none none]) (c:=2) (m:=1) (id:=3) (i:=2) (j:=0) (steps:=0) (most:=9) (seen:=0) (guess:=0) rfl rfl rfl (by omega) (by omega);have e:((kG0++[Gx 2 none none]).set 1 (Fa 0 9 0 0 0)).set 3 (Gx 2 (some (sVl 2)) (some (sVl 2)))=kG1:=rfl;rw[e] at h2;have h5:=Br (Cg 1);have e3:kG0.length=3:=rfl;rw[e3] at h1;refine Bq mixed Tryz.func112 tr112 ?_;generalize kG1=G1 at *
 generalize kG0++[Gx (1+1) none none]=Ga at *
 generalize kG0=G0 at *
 generalize tv (Cg 1)=r at *
 unfold sVl vlV at h2
 repeat' first
 |simp only[go_sem,seval,h5]
 |refine Ac h1 ?_
 |refine Ac h2 ?_
 |refine Ag Ab9 ?_
def Xy{m:Mem}{v:Value}{i c:Nat}(h:Rep m v (.gp i c)):∃b,m.d i=some b/\v=.pointer (some ⟨b,c,none⟩):=by
 cases h with
 |gp i c b h1 h2=>exact⟨b,h1,rfl⟩
def Alw{m:Mem}{w:World}{G:GV}{i b:Nat}{r:List SV}(h:GSat m w G)(hG:G[i]?=some r)(hd:m.d i=some b)(hr:∀l,r≠Pb l):∀(k:Nat) x,r[k]?=some x->∃v,w.cell? ⟨b,k,none⟩=some v/\Rep m v x:=by
 intro k x hx;have Dx:=h.row i r b hG hd;generalize hz:r=z at Dx;cases Dx with
 |map es k l=>exact absurd hz (hr l)
 |cells _ c e h1 h2 h3 h4=>
  subst hz;have hk:k<r.length:=(q_jm.1 hx).1;have Gp:k<c.size:=by omega
  refine⟨c[k],?_,(h3 k _ x (Array.getElem?_eq_getElem Gp) hx).1⟩;rw[Lib.cell_of_heap h1 k];exact Array.getElem?_eq_getElem Gp
def A1z{m:Mem}{i:Nat}{v:Value}(h:Rep m v (.agg true (tv (Cg i)))):∃A q,v=.agg #[.int .i64 1,.int .i64 i,.int .i64 0,.int .i64 0,.slice A 0 q]:=by
 rw[show tv (Cg i)=[.int .i64 1,.int .i64 i,.int .i64 0,.int .i64 0,.dsl 5 []] by unfold Cg;rw[Bp];rfl] at h;generalize hz:SV.agg true [.int .i64 1,.int .i64 i,.int .i64 0,.int .i64 0,.dsl 5 []]=z at h;cases h with
 |agg vs l h0 hl hr=>
  cases hz
  match vs,hl with
  |[a,b,c,d,e],_=>
   have ha:=hr 0 a _ rfl rfl;have hb:=hr 1 b _ rfl rfl;have hc:=hr 2 c _ rfl rfl;have hd:=hr 3 d _ rfl rfl;have he:=hr 4 e _ rfl rfl;cases ha;cases hb;cases hc;cases hd;generalize hy:SV.dsl 5 []=y at he;cases he with
   |dsl0 sz A cap=>exact⟨A,cap,rfl⟩
   |dsl sz l cap b off vs h1 h2=>
    cases hy;exact⟨_,_,rfl⟩
   |_=>cases hy
 |_=>cases hz
def Ark{b:Nat}{w:World}(h:w.cell? ⟨b,2,none⟩=some (.slice none 0 0)):Calls Tryz.prog 151 #[.pointer (some ⟨b,0,none⟩)] w fun e w'=>e=.returned (.int .i64 0)/\w'=w:=by
 go_enter Tryz.func151,Tryz.ntmps151
 go_wp2
 all_goals
  go_ret
  exact⟨rfl,rfl⟩
def Ava{m:Mem}{w w':World}{G:GV}(h:GSat m w G)(k:Below w.heap.size w w'):GSat m w' G:=
 ⟨h.dom,h.inj,fun i r b hi hd=>(h.row i r b hi hd).mono (.refl m) (k.block b (h.lt hd)),h.free⟩
def Aam{m m1 m2:Mem}{w w1 w2:World}{G1 G2:GV}(h:Ma m w m1 w1 G1)(k:Ma m1 w1 m2 w2 G2):Ma m w m2 w2 G2:=by
 obtain⟨a1,a2,a3,a4,a5,a6,a7,a8,a9,a10⟩:=h;obtain⟨b1,b2,b3,b4,b5,b6,b7,b8,b9,b10⟩:=k;refine⟨a1.trans b1,fun b j hb=>(b2 b j (by omega)).trans (a2 b j hb),b3,b4,fun i b hi=>?_,b6.trans a6,b7.trans a7,b8.trans a8,q_kn a9 b9,fun k hk hn=>?_⟩
 ·rcases b5 i b hi with h|h
  ·exact a5 i b h
  ·exact .inr (by omega)
 ·rw[b10 k (by omega) (fun i hi=>by rcases a5 i k hi with h|h;exact hn i h;omega)];exact a10 k hk hn
def Ajk{m:Mem}{w w1:World}{G:GV}(hm:Hw m w)(hs:GSat m w G)(k:Below w.heap.size w w1):Ma m w m w1 G:=
 ⟨.refl m,fun _ _ _=>rfl,Ae0 hm k,Ava hs k,fun i b hi=>.inl hi,k.os,k.tape,k.output,k.size,fun j hj _=>k.block j hj⟩
def Agz{f:Nat}{args:List SV}{r:SV}(hc:Con f args r){m:Mem}{w:World}{G:GV}(hm:Hw m w)(hs:GSat m w G)(vs:List Value)(hl:vs.length=args.length)(hr:∀(j:Nat) v x,vs[j]?=some v->args[j]?=some x->Rep m v x) :
  Calls Tryz.prog f vs.toArray w fun e w'=>∃v m',e=.returned v/\Rep m' v r/\Ma m w m' w' G:=by
 refine Calls.mono (hc m w vs hm hl hr) (fun e w' h=>?_);obtain⟨v,m',h1,h2,⟨h3,Te⟩,h4,h5,h6,h7,h8,h9,Kw⟩:=h;refine⟨v,m',h1,h2,h3,h4,h5,⟨fun i=>by rw[Te];exact hs.dom i,fun i j b=>by rw[Te];exact hs.inj i j b,fun i r b hi hd=>?_,fun i b j hd=>?_⟩,fun i b hi=>.inl (by rw[<-Te];exact hi),h6,h7,h8,h9,fun k hk _=>Kw k hk⟩
 ·rw[Te] at hd;exact (hs.row i r b hi hd).mono h3 (Kw b (hs.lt hd))
 ·rw[Te] at hd;rw[h4 b j (hs.lt hd)];exact hs.free i b j hd
def Avp:Cj 118 kG2 [.gp 2 0,.agg true (tv (Cg 0)),Fm [],.gp 4 0] (.ret (.tup [])) kG3:=by
 have h1:=Aio (G:=kG2) (c:=2) (i:=0) (by omega);have o1:=Rd (i:=1) (by omega);have h3:=Aip (G:=kG2++[Gx 1 none none]) (m:=1) (j:=0) (a:=5) (b:=4) (deep:=0) (steps:=0) (most:=9) (seen:=0) (guess:=0) rfl
  (Alz (m:=1) (j:=0) (steps:=0) (most:=9) (seen:=0) (guess:=0) (wx:=none) (ux:=none) (wy:=none) (uy:=none) (t:=Cg 1) rfl (by unfold fit;omega) (by omega) (by omega) (by omega) (by omega) rfl rfl o1.1)
 have e:((kG2++[Gx 1 none none]).set 1 (Fa 0 9 0 0 0)).set 1 (Fa 0 9 (0+1) (Qn 0) 0)=kG3:=rfl;rw[e] at h3;rw[show kG2.length=5 from rfl] at h1;have ck0:kG2[2]?=some (Kt 1):=rfl;have ck1:(kG2++[Gx 1 none none])[2]?=some (Kt 1):=rfl;have ck3:kG3[2]?=some (Kt 1):=rfl;have hl2:kG2.length=5:=rfl;have Ch:∀l,Kt 1≠Pb l:=fun l h=>by unfold Kt Pb at h;cases l<;>simp at h
 have cm:=Ab9;generalize kG3=G3 at *
 generalize hGa:kG2++[Gx (0+1) none none]=Ga at *
 generalize kG2=G2 at *
 intro m w vs hmem hsat Bh Dd
 match vs,Bh with
 |[a,b,c,d],_=>
  obtain⟨b2,Rz,rfl⟩:=Xy (Dd 0 a _ rfl rfl);have hb:=Dd 1 b _ rfl rfl;have hc:=Dd 2 c _ rfl rfl;obtain⟨b4,hd4,rfl⟩:=Xy (Dd 3 d _ rfl rfl);obtain⟨A,q,rfl⟩:=A1z hb;rw[Rn] at hc h1;cases hc;have hb1:∃b1,m.d 1=some b1:=(hsat.dom 1).1 (by rw[hl2];omega);obtain⟨b1,Qu⟩:=hb1;have k1:Below w.heap.size w (w.alloc (.cells #[.int .i64 1,.int .i64 (0:Nat),.int .i64 0,.int .i64 0,.slice A 0 q] 25)):=(Below.refl _ w).alloc (q_ja _) _;have p1:=Ajk hmem hsat k1
  go_enter Tryz.func118,Tryz.ntmps118
  have Ou:∀(j:Nat) v x,([.pointer (some ⟨b2,0,none⟩),.agg #[.int .i64 1,.int .i64 (0:Nat),.int .i64 0,.int .i64 0,.slice A 0 q],.pointer none]:List Value)[j]?=some v->([.gp 2 0,.agg true (tv (Cg 0)),.nilp]:List SV)[j]?=some x->Rep m v x:=fun j v x hv hx=>by
   match j,hv,hx with
   |0,hv,hx=>cases hv;cases hx;exact Dd 0 _ _ rfl rfl
   |1,hv,hx=>cases hv;cases hx;exact hb
   |2,hv,hx=>cases hv;cases hx;exact .nilp
   |j+3,hv,hx=>simp at hx
  go_wp2_with (go_at_call 147;refine (h1 m _ [.pointer (some ⟨b2,0,none⟩),.agg #[.int .i64 1,.int .i64 (0:Nat),.int .i64 0,.int .i64 0,.slice A 0 q],.pointer none] p1.2.2.1 p1.2.2.2.1 rfl Ou).mono ?_)
  rintro e W2 ⟨m2,⟨v,rfl,hv⟩,p2⟩;obtain⟨b5,hd5,rfl⟩:=Xy hv;have pp:=Aam p1 p2;have rc:=Alw p2.2.2.2.1 ck1 (p2.1.d _ _ Rz) Ch;obtain⟨v0,c0,r0⟩:=rc 0 _ rfl;obtain⟨v1,c1,r1⟩:=rc 1 _ rfl;obtain⟨v2,c2,r2⟩:=rc 2 _ rfl;obtain⟨b1',Ry,rfl⟩:=Xy r0;have e1:b1'=b1:=by have:=p2.1.d _ _ Qu;rw[Ry] at this;exact Option.some.inj this
  subst e1;cases r1;cases r2;clear rc;generalize w.alloc (.cells #[.int .i64 1,.int .i64 (0:Nat),.int .i64 0,.int .i64 0,.slice A 0 q] 25)=W1 at *
  have hr3:∀(j:Nat) v x,([.pointer (some ⟨b1',0,none⟩),.pointer (some ⟨b5,0,none⟩),.pointer (some ⟨b4,0,none⟩),.int .i64 0,.int .i64 9]:List Value)[j]?=some v->([.gp 1 0,.gp 5 0,.gp 4 0,.int .i64 0,.int .i64 9]:List SV)[j]?=some x->Rep m2 v x:=fun j v x Db hx=>by
   match j,Db,hx with
   |0,Db,hx=>cases Db;cases hx;exact r0
   |1,Db,hx=>cases Db;cases hx;exact hv
   |2,Db,hx=>cases Db;cases hx;exact (Dd 3 _ _ rfl rfl).mono pp.1
   |3,Db,hx=>cases Db;cases hx;exact .int _ _
   |4,Db,hx=>cases Db;cases hx;exact .int _ _
   |j+5,Db,hx=>simp at hx
  have pd:Ma m2 W2 m2 W2.drew Ga:=Ajk p2.2.2.1 p2.2.2.2.1 ⟨rfl,rfl,rfl,q_ja _,fun _ _=>rfl⟩;have pw:=Aam pp pd;have c3:=h3 m2 W2.drew [.pointer (some ⟨b1',0,none⟩),.pointer (some ⟨b5,0,none⟩),.pointer (some ⟨b4,0,none⟩),.int .i64 0,.int .i64 9] pd.2.2.1 pd.2.2.2.1 rfl hr3;have hd2':=p2.1.d _ _ Rz;have c0':W2.drew.cell? ⟨b2,0,none⟩=some (.pointer (some ⟨b1',0,none⟩)):=c0;have c1':W2.drew.cell? ⟨b2,1,none⟩=some (.int .i64 9):=c1;have c2':W2.drew.cell? ⟨b2,2,none⟩=some (.slice none 0 0):=c2;have cd:=Ark c2';have key:∀(W3:World) (m3:Mem),Ma m2 W2.drew m3 W3 G3->W3.cell? ⟨b2,0,none⟩=some (.pointer (some ⟨b1',0,none⟩))/\W3.cell? ⟨b2,1,none⟩=some (.int .i64 9):=fun W3 m3 p3=>by
   have rc:=Alw p3.2.2.2.1 ck3 (p3.1.d _ _ hd2') Ch;obtain⟨v0,d0,q0⟩:=rc 0 _ rfl;obtain⟨v1,d1,q1⟩:=rc 1 _ rfl;obtain⟨b1x,hdx,rfl⟩:=Xy q0;have e1:b1x=b1':=by have:=p3.1.d _ _ Ry;rw[hdx] at this;exact Option.some.inj this
   subst e1;cases q1;exact⟨d0,d1⟩
  have cmx:∀(W3:World) (m3:Mem),Ma m2 W2.drew m3 W3 G3->Calls Tryz.prog 148 #[.bool true] W3 fun e w'=>∃v m',e=.returned v/\Rep m' v (.tup [])/\Ma m3 W3 m' w' G3:=fun W3 m3 p3=>Agz cm p3.2.2.1 p3.2.2.2.1 [.bool true] rfl (fun j v x Db hx=>by
   match j,Db,hx with
   |0,Db,hx=>cases Db;cases hx;exact .bool _
   |j+1,Db,hx=>simp at hx)
  clear h1 h3 Ou hr3 Dd hb p1 k1 hsat hmem
  go_wp2_with fail
  go_region_held3 (fun w'=>w'.cell? ⟨b2,0,none⟩=some (.pointer (some ⟨b1',0,none⟩))/\w'.cell? ⟨b2,1,none⟩=some (.int .i64 9)) (first|exact⟨c0',c1'⟩|assumption)
   (first
    |(go_at_call 151;refine cd.mono ?_;rintro e w' ⟨rfl,rfl⟩)
    |(go_at_call 145;refine c3.mono ?_;rintro e W3 ⟨m3,⟨v3,rfl,hv3⟩,p3⟩;cases hv3;have k3:=key W3 m3 p3)
    |(go_at_call 148;refine (cmx W3 m3 p3).mono ?_;rintro e W4 ⟨v4,m4,rfl,hv4,p4⟩;cases hv4;have p5:=Aam p3 p4;have k4:=key W4 m4 p5))
  go_wp2
  go_returns
  exact⟨m4,⟨_,rfl,.tup [] [] rfl (fun j v x h=>by simp at h)⟩,Aam pw p5⟩
def Apq:Con 70 [.dsl 5 [],.float .f64 4621256167635550208] (.int .i64 0):=by
 refine Xo mixed Tryz.func70 tr70 Awq Nrm.idle_kctx (fun x hx=>?_) (.int _ _) ?_
 ·simp only[q_kb,q_kc,or_false] at hx;rcases hx with rfl|rfl
  ·exact .dsl _ _ (by simp)
  ·exact .float _ _
 have hb:=Ain []
 repeat' first
 |simp only[go_sem,seval]
 |refine Ag Agw ?_
 |refine Ac hb ?_
 |refine Dv 1 (Ao ?_)
def App:Con 72 [.dsl 5 [],.agg true (tv (Cg 0)),.agg true (tv (Cg 1)),.float .f64 4621256167635550208] (.int .i64 0):=by
 refine Xo mixed Tryz.func72 tr72 Awp Nrm.idle_kcheck (fun x hx=>?_) (.int _ _) ?_
 ·simp only[q_kb,q_kc,or_false] at hx;rcases hx with rfl|rfl|rfl|rfl
  ·exact .dsl _ _ (by simp)
  ·exact Rb _ true
  ·exact Rb _ true
  ·exact .float _ _
 have hb:=Ain [];have ha:=Ave kG0 2;have hs:=Avr;have hc:=Yn kG1 (Cg 1) [];have hh:=Avp;have i0:=Agv (i:=0) (by omega);have i1:=Agv (i:=1) (by omega);have e1:kG1++[thR ⟨Cg 1,[],false,none,none⟩]=kG2:=rfl;rw[e1,show kG1.length=4 from rfl] at hc;have e0:([]:GV)++[[.undef],Fa 0 9 0 0 ([]:GV).length]++[Kt (([]:GV).length+1)]=kG0:=rfl;rw[e0] at hb;have h5:=Br (Cg 0);have h6:=Br (Cg 1);generalize kG0=G0 at *
 generalize kG1=G1 at *
 generalize kG2=G2 at *
 generalize kG3=G3 at *
 generalize tv (Cg 0)=r0 at *
 generalize tv (Cg 1)=r1 at *
 rw[Rn] at *
 repeat' first
 |simp only[go_sem,seval,h5,h6,List.length_nil]
 |refine Ag Agw ?_
 |refine Ag i0 ?_
 |refine Ag i1 ?_
 |refine Ac hb ?_
 |refine Ac ha ?_
 |refine Ac hs ?_
 |refine Ac hc ?_
 |refine Ac hh ?_
structure SL(B b:Nat)(ks:List (Nat×Obj))(l:By)(w W:World):Prop where
 bd:Lib.IsBuilderF 53 5 B b (Lib.byteCells l) W
 mw:MW B W
 hB:B<=W.heap.size
 t:∀p∈ks,W.heap[p.1]?=some p.2/\p.1≠b/\∀c fz,p.2≠.cells c 5 fz
 be:Below B w W
section
variable{B b:Nat}{ks:List (Nat×Obj)}{l:By}{w W W':World}
def SL.keep(h:SL B b ks l w W)(k:Below W.heap.size W W'):SL B b ks l w W':=
 ⟨keepB h.bd k,h.mw.step (Mz k h.hB),q_kn h.hB k.size,fun p hp=>⟨(k.block _ (Array.getElem?_eq_some_iff.1 (h.t p hp).1).1).trans (h.t p hp).1,(h.t p hp).2⟩,h.be.trans (Mz k h.hB)⟩
def SL.put{l':By}(h:SL B b ks l w W)(h2:Lib.IsBuilderF 53 5 B b (Lib.byteCells l') W')(k:Below B W W')(o:Lib.OthersKept 5 (some b) W W'):SL B b ks l' w W':=
 ⟨h2,h.mw.step k,q_kn h.hB k.size,fun p hp=>⟨o p.1 _ (h.t p hp).1 (by intro e;exact (h.t p hp).2.1 (Option.some.inj e)) (h.t p hp).2.2,(h.t p hp).2⟩,h.be.trans k⟩
def SL.cell(h:SL B b ks l w W){p:Nat}{cs:Array Value}{T:Nat}(hp:(p,Obj.cells cs T (0,0))∈ks)(j:Nat):W.cell? ⟨p,j,none⟩=cs[j]?:=Lib.cell_of_heap (h.t _ hp).1 j
def SL.alloc(h:SL B b ks l w W){cs:Array Value}{T:Nat}(hT:T≠5):SL B b ((W.heap.size,.cells cs T (0,0))::ks) l w (W.alloc (.cells cs T)):=by
 have Am:b<W.heap.size:=by rcases h.bd with h|h<;>exact h.lt
 have hk:=h.keep ((Below.refl W.heap.size W).alloc (q_ja _) (.cells cs T));refine⟨hk.bd,hk.mw,hk.hB,fun p hp=>?_,hk.be⟩;rcases q_kb.1 hp with rfl|hp
 ·exact⟨Array.getElem?_push_size,by dsimp only;omega,fun c fz e=>by cases e;exact hT rfl⟩
 ·exact hk.t p hp
end
def resL:List Value:=[.slice none 0 0,.bool false,.int .i64 2,.int .i64 1,.int .i64 1,.int .i64 0,.int .i64 0,.slice none 0 0,.int .i64 1,.int .i64 0,.int .i64 0,.int .i64 0,.slice none 0 0,.int .i64 0,.int .i64 0,.int .i64 0,.int .i64 0,.slice none 0 0,.int .i64 0,.int .i64 0,.int .i64 0,.int .i64 0,.slice none 0 0,.int .i64 0,.int .i64 0,.int .i64 0,.int .i64 0,.slice none 0 0]
def Aa8:Value:=.agg resL.toArray
def Aa9:XQ:=⟨[],false,2,Cg 1,Cg 0,zR,zR,zR⟩
def A0x:XOK Aa9:=by
 have key:∀i,i<=1000->GT 0 1 3001 (Cg i):=fun i hi=>by
  obtain⟨h1,h2,h3,h4⟩:=Rd hi;refine⟨Afe h2 (.inl rfl),?_,h1,by omega⟩;rw[Cg,Gm,if_neg (by decide),Pl];decide
 exact⟨fun k hk=>absurd hk (q_kp _),by decide,by decide,key 1 (by decide),key 0 (by decide),fun h=>by cases h⟩
inductive Reps(m:Mem):List Value->List SV->Prop
 |nil:Reps m [] []
 |cons {v x vs xs}:Rep m v x->Reps m vs xs->Reps m (v::vs) (x::xs)
def Reps.at_{m:Mem}{vs:List Value}{xs:List SV}(h:Reps m vs xs):vs.length=xs.length/\∀(j:Nat) v x,vs[j]?=some v->xs[j]?=some x->Rep m v x:=by
 induction h with
 |nil=>exact⟨rfl,fun j v x h=>by simp at h⟩
 |cons h _ ih=>
  refine⟨by simp[ih.1],fun j v x h1 h2=>?_⟩;cases j with
  |zero=>simp at h1 h2;subst h1;subst h2;exact h
  |succ j=>exact ih.2 j v x (by simpa using h1) (by simpa using h2)
def A0u{m:Mem}:Rep m Aa8 (.agg true (xqV Aa9)):=by
 have h:Reps m resL (xqV Aa9):=by
  unfold resL Aa9 xqV Cg z5;rw[Bp,Bp];simp only[q_l,if_false,q_i];exact .cons .nils (.cons (.bool _) (.cons (.int _ _) (.cons (.int _ _) (.cons (.int _ _) (.cons (.int _ _) (.cons (.int _ _) (.cons (.dsl0 _ none 0) (.cons (.int _ _) (.cons (.int _ _) (.cons (.int _ _) (.cons (.int _ _) (.cons (.dsl0 _ none 0)
   (.cons (.int _ _) (.cons (.int _ _) (.cons (.int _ _) (.cons (.int _ _) (.cons .nils (.cons (.int _ _) (.cons (.int _ _) (.cons (.int _ _) (.cons (.int _ _) (.cons .nils (.cons (.int _ _) (.cons (.int _ _) (.cons (.int _ _) (.cons (.int _ _) (.cons .nils .nil)))))))))))))))))))))))))))
 obtain⟨h1,h2⟩:=h.at_;exact .agg resL _ (by intro v hv;simp only[resL,q_kb,q_kc,or_false] at hv;rcases hv with rfl|rfl|rfl|rfl|rfl|rfl|rfl|rfl|rfl|rfl|rfl|rfl|rfl|rfl|rfl|rfl|rfl|rfl|rfl|rfl|rfl|rfl|rfl|rfl|rfl|rfl|rfl|rfl<;>rfl) h1 h2
def Am3{B:Nat}{w:World}(hw:MW B w):Calls Tryz.prog 8 #[Aa8] w fun e w'=>e=.returned (.bool true)/\Below w.heap.size w w':=by
 refine Calls.mono (Vg (Ag2 A0x) hw [Aa8] rfl (fun m j v x h1 h2=>?_)) (fun e w' h=>?_)
 ·match j,h1,h2 with
  |0,h1,h2=>cases h1;cases h2;exact A0u
  |j+1,h1,h2=>simp at h1
 ·obtain⟨⟨v,m',h1,h2⟩,h3⟩:=h;refine⟨?_,h3⟩;rw[h1];cases h2;rfl
structure RB(cs:Array Value):Prop where
 n:(Tryz.prog.info? 30).map (·.size)=some cs.size
 c0:cs[0]?=some (.slice none 0 0)
 c1:cs[1]?=some (.bool false)
 c2:cs[2]?=some (.int .i64 2)
 c3:cs[3]?=some (.int .i64 1)
 c4:cs[4]?=some (.int .i64 1)
 c5:cs[5]?=some (.int .i64 0)
 c6:cs[6]?=some (.int .i64 0)
 c7:cs[7]?=some (.slice none 0 0)
 c8:cs[8]?=some (.int .i64 1)
 c9:cs[9]?=some (.int .i64 0)
 c10:cs[10]?=some (.int .i64 0)
 c11:cs[11]?=some (.int .i64 0)
 c12:cs[12]?=some (.slice none 0 0)
def A0a{B:Nat}{w:World}(hw:MW B w):Calls Tryz.prog 32 #[.int .i64 2] w fun e w'=>e=.returned (.string ⟨#[50]⟩)/\Below w.heap.size w w':=by
 have h:=Alm hw 2 (by decide);rw[show (Lib.itoa ((2:Nat):Int))=[50] by kernel_rfl] at h;exact h
def txt:Nat->By
 |0=>[40,116,101,114,109,32,40,41,32,50]
 |k+1=>txt k++([32]++Ln k)
def Am6{B:Nat}{w:World}(hw:MW B w):Calls Tryz.prog 33 #[.agg #[.int .i64 1,.int .i64 0,.int .i64 0,.int .i64 0,.slice none 0 0],.int .i64 0] w fun e w'=>e=.returned (.string ⟨(Ln 0).toArray⟩)/\Below w.heap.size w w':=Af4 (i:=0) hw (by decide)
def Am7{B:Nat}{w:World}(hw:MW B w):Calls Tryz.prog 33 #[.agg #[.int .i64 1,.int .i64 1,.int .i64 0,.int .i64 0,.slice none 0 0],.int .i64 0] w fun e w'=>e=.returned (.string ⟨(Ln 1).toArray⟩)/\Below w.heap.size w w':=Af4 (i:=1) hw (by decide)
def j0(i:Nat)(hi:i<=1000):(Ln i).length<=30:=by
 have:=Aav i (by omega);unfold Ln;simp;omega
def Afp:∀k,k<=3->(txt k).length<=10+31*k:=by
 intro k
 induction k with
 |zero=>intro _;decide
 |succ k ih=>
  intro h;have:=ih (by omega);have:=j0 k (by omega);rw[txt,q_jr,q_jr,List.length_singleton];omega
def q0:(txt 0).length+(ByteArray.mk #[32]++ByteArray.mk (Ln 0).toArray).size<=140737488355328:=by
 have:=j0 0 (by decide);have:=Afp 0 (by decide);rw[ByteArray.size_append];show _+(1+(Ln 0).toArray.size)<=_;simp;omega
def q1:(txt 1).length+(ByteArray.mk #[32]++ByteArray.mk (Ln 1).toArray).size<=140737488355328:=by
 have:=j0 1 (by decide);have:=Afp 1 (by decide);rw[ByteArray.size_append];show _+(1+(Ln 1).toArray.size)<=_;simp;omega
def qz:(txt 2).length+(ByteArray.mk #[41,10]).size<=140737488355328:=by
 have:=Afp 2 (by decide);show _+2<=_;omega
def Am5{B:Nat}{w:World}(hw:MW B w)(cs:Array Value)(hcs:RB cs)(hR:∀{W:World},MW w.heap.size W->Calls Tryz.prog 8 #[.agg cs] W fun e w'=>e=.returned (.bool true)/\Below W.heap.size W w') :
  Calls Tryz.prog 11 #[.agg cs] w fun e w'=>e=.returned (.string ⟨(txt 2++[41,10]).toArray⟩)/\Below w.heap.size w w':=by
 have hw:=hw.here;have hb0:Below w.heap.size w (w.alloc (.cells cs 30)):=(Below.refl _ w).alloc (q_ja _) _;have h0:(w.alloc (.cells cs 30)).heap[w.heap.size]?=some (.cells cs 30 (0,0)):=Array.getElem?_push_size;have hw0:=hw.step hb0;have Tf:w.heap.size<=(w.alloc (.cells cs 30)).heap.size:=hb0.size
 go_enter Tryz.func11,Tryz.ntmps11
 iterate 16 (first|go_values|go_skip|go_guarded|go_step)
 refine wp_load_row 30 _ rfl w.heap.size rfl 30 cs (0,0) _ h0 Tryz.underlying30 rfl hcs.n ?_
 go_wp2_with (go_at_call 8;refine (hR hw0).mono ?_)
 generalize w.alloc (.cells cs 30)=w0 at *
 generalize Zh:w.heap.size=tb at *
 rintro e W1 ⟨rfl,k1⟩;have h1:=Zs h0 k1;have hw1:=hw0.step (Mz k1 Tf);have b1:=hb0.trans (Mz k1 Tf);have Ya:=q_kn Tf k1.size;have f2:=Lib.IsBuilderF.of (Lib.fresh_isBuilder 53 5 W1);have k2:Below W1.heap.size W1 (W1.alloc (.cells #[.pointer none,.slice none 0 0] 53)):=(Below.refl _ W1).alloc (q_ja _) _;have s2:SL W1.heap.size W1.heap.size [(tb,.cells cs 30 (0,0))] [] W1 (W1.alloc (.cells #[.pointer none,.slice none 0 0] 53)):=
  ⟨f2,hw1.here.step k2,k2.size,fun p hp=>by
   simp only[q_kh] at hp;subst hp;exact⟨Zs h1 k2,by have:=(Array.getElem?_eq_some_iff.1 h1).1;dsimp only;omega,fun c fz e=>by cases e⟩,k2⟩
 have q2:([]:By).length+(ByteArray.mk #[40,116,101,114,109,32,40]).size<=140737488355328:=by show 0+7<=_;omega
 go_wp2_with (go_at_call 29;refine (Va s2.bd q2 s2.hB).mono ?_)
 generalize W1.alloc (.cells #[.pointer none,.slice none 0 0] 53)=Wb at *
 generalize W1.heap.size=b at *
 rintro e W3 rfl b3 k3 o3;have s3:=s2.put b3 k3 o3;have d0:=(s3.cell (p:=tb) (q_kh.2 rfl) 0).trans hcs.c0;have d1:=(s3.cell (p:=tb) (q_kh.2 rfl) 1).trans hcs.c1;have d2:=(s3.cell (p:=tb) (q_kh.2 rfl) 2).trans hcs.c2;have d3:=(s3.cell (p:=tb) (q_kh.2 rfl) 3).trans hcs.c3;have d4:=(s3.cell (p:=tb) (q_kh.2 rfl) 4).trans hcs.c4;have d5:=(s3.cell (p:=tb) (q_kh.2 rfl) 5).trans hcs.c5;have d6:=(s3.cell (p:=tb) (q_kh.2 rfl) 6).trans hcs.c6;have d7:=(s3.cell (p:=tb) (q_kh.2 rfl) 7).trans hcs.c7;have d8:=(s3.cell (p:=tb) (q_kh.2 rfl) 8).trans hcs.c8;have d9:=(s3.cell (p:=tb) (q_kh.2 rfl) 9).trans hcs.c9;have d10:=(s3.cell (p:=tb) (q_kh.2 rfl) 10).trans hcs.c10;have d11:=(s3.cell (p:=tb) (q_kh.2 rfl) 11).trans hcs.c11;have d12:=(s3.cell (p:=tb) (q_kh.2 rfl) 12).trans hcs.c12;have s4:=s3.alloc (cs:=#[.int .i64 1,.int .i64 0,.int .i64 0,.int .i64 0,.slice none 0 0,.int .i64 1,.int .i64 1,.int .i64 0,.int .i64 0,.slice none 0 0]) (T:=25) (by decide);have e0:=(s4.cell (p:=tb) (List.mem_cons_of_mem _ (q_kh.2 rfl)) 0).trans hcs.c0;have e1:=(s4.cell (p:=tb) (List.mem_cons_of_mem _ (q_kh.2 rfl)) 1).trans hcs.c1;have e2:=(s4.cell (p:=tb) (List.mem_cons_of_mem _ (q_kh.2 rfl)) 2).trans hcs.c2
 go_wp2_with fail
 generalize W3.alloc (.cells #[.int .i64 1,.int .i64 0,.int .i64 0,.int .i64 0,.slice none 0 0,.int .i64 1,.int .i64 1,.int .i64 0,.int .i64 0,.slice none 0 0] 25)=W4 at *
 generalize W3.heap.size=lb at *
 clear d0 d1 d2 d3 d4 d5 d6 d7 d8 d9 d10 d11 d12
 go_loopw [36] (fun i wr=>i=.int .i64 0/\wr=W4) (fun _ _=>0)
 case atStart=>exact⟨rfl,rfl⟩
 case round=>
  obtain⟨rfl,rfl⟩:=hrel
  go_wp2_with (go_at_call 32;refine (A0a s4.mw).mono ?_)
  rintro e W5 ⟨rfl,k5⟩;have s5:=s4.keep k5;have q5:([]++(ByteArray.mk #[40,116,101,114,109,32,40]).data.toList:By).length+(ByteArray.mk #[41,32]++ByteArray.mk #[50]).size<=140737488355328:=by show 7+3<=_;omega
  go_wp2_with (go_at_call 29;refine (Va s5.bd q5 s5.hB).mono ?_)
  rintro e W6 ⟨rfl,b6,k6,o6⟩;have s6:=s5.put b6 k6 o6;have s6:SL b b _ (txt 0) W1 W6:=s6;clear s5 s4 s3 s2 b6 k6 o6 b3 k3 o3
  go_wp2_with fail
  go_loopw [62] (fun i wr=>∃k:Nat,k<=2/\i=.int .i64 k/\SL b b [(lb,.cells #[.int .i64 1,.int .i64 0,.int .i64 0,.int .i64 0,.slice none 0 0,.int .i64 1,.int .i64 1,.int .i64 0,.int .i64 0,.slice none 0 0] 25 (0,0)),(tb,.cells cs 30 (0,0))] (txt k) W1 wr) (fun i _=>2-(intOf i).toNat)
  case atStart=>exact⟨0,by decide,rfl,s6⟩
  case round=>
   obtain⟨k,hk,rfl,hs⟩:=hrel;have f0:=(hs.cell (p:=lb) (List.mem_cons_self ..) 0)
   have f1:=(hs.cell (p:=lb) (List.mem_cons_self ..) 1)
   have f2:=(hs.cell (p:=lb) (List.mem_cons_self ..) 2)
   have f3:=(hs.cell (p:=lb) (List.mem_cons_self ..) 3)
   have f4:=(hs.cell (p:=lb) (List.mem_cons_self ..) 4)
   have f5:=(hs.cell (p:=lb) (List.mem_cons_self ..) 5)
   have f6:=(hs.cell (p:=lb) (List.mem_cons_self ..) 6)
   have f7:=(hs.cell (p:=lb) (List.mem_cons_self ..) 7)
   have f8:=(hs.cell (p:=lb) (List.mem_cons_self ..) 8)
   have f9:=(hs.cell (p:=lb) (List.mem_cons_self ..) 9)
   obtain rfl|rfl|rfl:k=0\/k=1\/k=2:=by omega
   ·have ha:=hs.alloc (cs:=#[.int .i64 1,.int .i64 0,.int .i64 0,.int .i64 0,.slice none 0 0]) (T:=25) (by decide);have g0:=(ha.cell (p:=tb) (List.mem_cons_of_mem _ (List.mem_cons_of_mem _ (q_kh.2 rfl))) 0).trans hcs.c0
    go_wp2_with (go_at_call 33;refine (Am6 ha.mw).mono ?_)
    generalize wr.alloc (.cells #[.int .i64 1,.int .i64 0,.int .i64 0,.int .i64 0,.slice none 0 0] 25)=wa at *
    rintro e V1 ⟨rfl,k7⟩;have t1:=ha.keep k7;have Fh:¬(9223372036854775807<1+(Ln 0).length):=by have:=j0 0 (by decide);omega
    go_wp2_with (go_at_call 29;refine (Va t1.bd q0 t1.hB).mono ?_)
    rintro e V2 ⟨rfl,b8,k8,o8⟩;have t2:=t1.put b8 k8 o8
    go_wp2
    go_roundw
    case rel=>
     refine⟨1,by decide,rfl,?_⟩;exact⟨t2.bd,t2.mw,t2.hB,fun p hp=>t2.t p (List.mem_cons_of_mem _ hp),t2.be⟩
    case measure=>
     show 2-1<2-0;decide
   ·have ha:=hs.alloc (cs:=#[.int .i64 1,.int .i64 1,.int .i64 0,.int .i64 0,.slice none 0 0]) (T:=25) (by decide);have g0:=(ha.cell (p:=tb) (List.mem_cons_of_mem _ (List.mem_cons_of_mem _ (q_kh.2 rfl))) 0).trans hcs.c0
    go_wp2_with (go_at_call 33;refine (Am7 ha.mw).mono ?_)
    generalize wr.alloc (.cells #[.int .i64 1,.int .i64 1,.int .i64 0,.int .i64 0,.slice none 0 0] 25)=wa at *
    rintro e V1 ⟨rfl,k7⟩;have t1:=ha.keep k7;have Fh:¬(9223372036854775807<1+(Ln 1).length):=by have:=j0 1 (by decide);omega
    go_wp2_with (go_at_call 29;refine (Va t1.bd q1 t1.hB).mono ?_)
    rintro e V2 ⟨rfl,b8,k8,o8⟩;have t2:=t1.put b8 k8 o8
    go_wp2
    go_roundw
    case rel=>
     refine⟨2,by decide,rfl,?_⟩;exact⟨t2.bd,t2.mw,t2.hB,fun p hp=>t2.t p (List.mem_cons_of_mem _ hp),t2.be⟩
    case measure=>
     show 2-2<2-1;decide
   ·go_wp2_with (go_at_call 29;refine (Va hs.bd qz hs.hB).mono ?_)
    rintro e V1 rfl b7 k7 o7;have t1:=hs.put b7 k7 o7
    go_wp2_with (go_at_call 34;refine (Am0 t1.bd t1.hB).mono ?_)
    rintro e V2 ⟨rfl,k8,_⟩
    go_wp2
    go_ret
    rw[Zh];exact⟨rfl,b1.trans (Mz (t1.be.trans k8) Ya)⟩
def resA:RB resL.toArray:=by
 refine⟨by kernel_rfl,?_,?_,?_,?_,?_,?_,?_,?_,?_,?_,?_,?_,?_⟩<;>rfl
def A0y{m:Mem}{v:Value}(h:Rep m v (.agg true [.nils,.bool false,.int .i64 2,.int .i64 1,.int .i64 1,.int .i64 0,.int .i64 0,.nils,.int .i64 1,.int .i64 0,.int .i64 0,.int .i64 0,.nils,.int .i64 0,.int .i64 0,.int .i64 0,.int .i64 0,.nils,.int .i64 0,.int .i64 0,.int .i64 0,.int .i64 0,.nils,.int .i64 0,.int .i64 0,.int .i64 0,.int .i64 0,.nils])):v=Aa8:=by
 obtain⟨l,hl⟩:∃l,l=([.nils,.bool false,.int .i64 2,.int .i64 1,.int .i64 1,.int .i64 0,.int .i64 0,.nils,.int .i64 1,.int .i64 0,.int .i64 0,.int .i64 0,.nils,.int .i64 0,.int .i64 0,.int .i64 0,.int .i64 0,.nils,.int .i64 0,.int .i64 0,.int .i64 0,.int .i64 0,.nils,.int .i64 0,.int .i64 0,.int .i64 0,.int .i64 0,.nils]:List SV):=⟨_,rfl⟩
 rw[<-hl] at h;have key:∀(vs:List Value) (l:List SV) (us:List Value),vs.length=l.length->(∀(j:Nat) (v:Value) (x:SV),vs[j]?=some v->l[j]?=some x->Rep m v x)->l.length=us.length->(∀(j:Nat) (x:SV) (u:Value),l[j]?=some x->us[j]?=some u->(x=.nils/\u=.slice none 0 0)\/(∃k n,x=.int k n/\u=.int k n)\/∃b,x=.bool b/\u=.bool b)->vs=us:=by
  intro vs l us h1 h2 h3 h4;refine List.ext_getElem (by omega) (fun j g1 g2=>?_);have a:=h2 j vs[j] (l[j]'(by omega)) (q_f g1) (q_f (by omega));rcases h4 j (l[j]'(by omega)) us[j] (q_f (by omega)) (q_f g2) with⟨e1,e2⟩|⟨k,n,e1,e2⟩|⟨b,e1,e2⟩
  ·rw[e1] at a;rw[e2];generalize vs[j]=v at a |-;cases a;rfl
  ·rw[e1] at a;rw[e2];generalize vs[j]=v at a |-;cases a;rfl
  ·rw[e1] at a;rw[e2];generalize vs[j]=v at a |-;cases a;rfl
 cases h with
 |agg vs _ h0 hl2 hr=>
  have:=key vs l resL hl2 hr (by rw[hl];rfl) (by
   rw[hl];unfold resL;intro j x u h1 h2
   match j,h1,h2 with
   |0,h1,h2=>cases h1;cases h2;exact .inl ⟨rfl,rfl⟩
   |1,h1,h2=>cases h1;cases h2;exact .inr (.inr ⟨_,rfl,rfl⟩)
   |7,h1,h2=>cases h1;cases h2;exact .inl ⟨rfl,rfl⟩
   |12,h1,h2=>cases h1;cases h2;exact .inl ⟨rfl,rfl⟩
   |17,h1,h2=>cases h1;cases h2;exact .inl ⟨rfl,rfl⟩
   |22,h1,h2=>cases h1;cases h2;exact .inl ⟨rfl,rfl⟩
   |27,h1,h2=>cases h1;cases h2;exact .inl ⟨rfl,rfl⟩
   |2,h1,h2|3,h1,h2|4,h1,h2|5,h1,h2|6,h1,h2|8,h1,h2|9,h1,h2|10,h1,h2|11,h1,h2|13,h1,h2|14,h1,h2|15,h1,h2|16,h1,h2|18,h1,h2|19,h1,h2|20,h1,h2|21,h1,h2|23,h1,h2|24,h1,h2|25,h1,h2|26,h1,h2=>cases h1;cases h2;exact .inr (.inl ⟨_,_,rfl,rfl⟩)
   |j+28,h1,h2=>simp at h1)
  rw[this];rfl
def Apf:Con 11 [.agg true [.nils,.bool false,.int .i64 2,.int .i64 1,.int .i64 1,.int .i64 0,.int .i64 0,.nils,.int .i64 1,.int .i64 0,.int .i64 0,.int .i64 0,.nils,.int .i64 0,.int .i64 0,.int .i64 0,.int .i64 0,.nils,.int .i64 0,.int .i64 0,.int .i64 0,.int .i64 0,.nils,.int .i64 0,.int .i64 0,.int .i64 0,.int .i64 0,.nils]] (.str (bs (txt 2++[41,10]))):=by
 refine Aha (fun m w vs h1 h2 h3=>?_)
 match vs,h2 with
 |[a],_=>
  have ha:=A0y (h3 0 a _ rfl rfl);subst ha;exact Am5 (B:=w.heap.size) ⟨m,w,rfl,h1,Below.refl _ _⟩ resL.toArray resA (fun hW=>Am3 hW)
def Acg{i:Nat}(hi:i<=1000):Con 73 [.agg true (tv (Cg i))] (.agg true (tv (Cg i))):=by
 have o:=Rd hi;have h1:=Acd (Cg i) o.1;rw[o.2.1] at h1;have hc:=Agr (Cg i) o.1;have h2:Con 119 [.agg true (tv (Cg i))] (.agg true (tv (Cg i))):=by
  unfold Cg at hc |-;refine Cu mixed Tryz.func119 tr119 ?_;rw[Bp] at hc |-
  repeat' first
  |simp only[go_sem,seval,q_i]
  |refine Ag hc ?_
 have h5:=Br (Cg i);generalize tv (Cg i)=r at *
 refine Cu mixed Tryz.func73 tr73 ?_
 repeat' first
 |simp only[go_sem,seval,h5]
 |refine Ag h1 ?_
 |refine Ag h2 ?_
def Aqr:Con 71 [.int .i64 0] (.int .i64 0):=by
 refine Cu mixed Tryz.func71 tr71 ?_
 repeat' first
 |simp only[go_sem,seval]
def Ap6:Con 69 [.nils] (.dsl 5 []):=by
 refine Cu mixed Tryz.func69 tr69 ?_
 repeat' first
 |simp only[go_sem,seval]
 |refine Ag Ab7 ?_
 |refine Dv 1 (Ao ?_)
def Avx{f:Nat}{args:List SV}{r:SV}(h:Con f args r)(G:GV):Cj f G args (.ret r) G:=fun m w vs h1 h2 h3 h4=>
 Calls.mono (Agz h h1 h2 vs h3 h4) (fun e w' ⟨v,m',k1,k2,k3⟩=>⟨m',⟨v,k1,k2⟩,k3⟩)
def con_typed:Con 68 [.nils,.agg true (tv (Cg 0)),.agg true (tv (Cg 1)),.int .i64 2,.float .f64 4621256167635550208] (.int .i64 0):=by
 have c1:=Apt (i:=0) (by omega);have s1:=Acg (i:=1) (by omega);have o1:=Rd (i:=1) (by omega);have c2:=fun G=>Avx (Aqy (Cg 1) o1.1 (Al7 (by omega))) G
 have h5:=Br (Cg 0);have h6:=Br (Cg 1);rw[show (0:Nat)+1=1 from rfl,show ((0+2:Nat):Int)=2 from rfl] at c1;refine o5 mixed Tryz.func68 tr68 (fun x hx=>?_) (.int _ _) ?_
 ·simp only[q_kb,q_kc,or_false] at hx;rcases hx with rfl|rfl|rfl|rfl|rfl
  ·exact .nils
  ·exact Rb _ true
  ·exact Rb _ true
  ·exact .int _ _
  ·exact .float _ _
 generalize tv (Cg 0)=r0 at *
 generalize tv (Cg 1)=r1 at *
 repeat' first
 |simp only[go_sem,seval,h5,h6]
 |refine Ag c1 ?_
 |refine Ag s1 ?_
 |refine Ac (c2 _) ?_
def Aaw{i:Nat}:LeD (.agg true [.int .i64 1,.int .i64 i,.int .i64 0,.int .i64 0,.nils]) (.agg true (tv (Cg i))):=by
 rw[show tv (Cg i)=[.int .i64 1,.int .i64 i,.int .i64 0,.int .i64 0,.dsl 5 []] by unfold Cg;rw[Bp];rfl];exact .agg' (.cons (.refl _) (.cons (.refl _) (.cons (.refl _) (.cons (.refl _) (.cons (.nils _) .nil)))))
def wkS:By:=[40,116,101,114,109,32,40,41,32,50,32,40,115,111,114,116,32,48,41,32,40,115,111,114,116,32,49,41,41,32,59,32,110,111,116,101]
def wkX:XQ:=⟨[],false,2,Cg 1,Cg 0,zR,zR,zR⟩
def Amx:Nt wkS=(wkX,none):=by kernel_rfl
def A4j:txt 2++[41,10]=[40,116,101,114,109,32,40,41,32,50,32,40,115,111,114,116,32,48,41,32,40,115,111,114,116,32,49,41,41,10]:=by kernel_rfl
def A4h:XOK wkX:=Als (tx:=wkS) (by decide) Amx
def wkV:List SV:=[.nils,.bool false,.int .i64 2,.int .i64 1,.int .i64 1,.int .i64 0,.int .i64 0,.nils,.int .i64 1,.int .i64 0,.int .i64 0,.int .i64 0,.nils,.int .i64 0,.int .i64 0,.int .i64 0,.int .i64 0,.nils,.int .i64 0,.int .i64 0,.int .i64 0,.int .i64 0,.nils,.int .i64 0,.int .i64 0,.int .i64 0,.int .i64 0,.nils]
def wkL:List SV:=[.nils,.bool false,.int .i64 2,.int .i64 1,.int .i64 1,.int .i64 0,.int .i64 0,.dsl 5 [],.int .i64 1,.int .i64 0,.int .i64 0,.int .i64 0,.dsl 5 [],.int .i64 0,.int .i64 0,.int .i64 0,.int .i64 0,.nils,.int .i64 0,.int .i64 0,.int .i64 0,.int .i64 0,.nils,.int .i64 0,.int .i64 0,.int .i64 0,.int .i64 0,.nils]
def wk_v:xqV wkX=wkL:=by
 unfold xqV wkX wkL Cg z5;dsimp only;rw[Bp,Bp];rfl
def Axa:LeDs wkV wkL:=by
 unfold wkV wkL
 repeat' first
 |exact .nil
 |refine .cons (.refl _) ?_
 |refine .cons (.nils _) ?_
def Ag3:Con 8 [.agg true wkV] (.bool true):=by
 have h:=Ag2 A4h;rw[wk_v] at h;exact h.argsD (.cons (.agg' Axa) .nil)
def Aq2{cl:Bool}{c:Nat}{cells:List SV}:cut cl 28 true 5 c cells=.agg cl ((cells.drop c).take 5):=by simp[cut]
attribute [go_sem] Aq2
def Aqt:Con 38 [.agg true wkV,.float .f64 4621256167635550208] (.int .i64 0):=by
 have r0:=Ag3;have m0:=Aps;have t0:=con_typed.argsD (args':=[.nils,.agg true [.int .i64 1,.int .i64 0,.int .i64 0,.int .i64 0,.nils],.agg true [.int .i64 1,.int .i64 1,.int .i64 0,.int .i64 0,.nils],.int .i64 2,.float .f64 4621256167635550208])
  (.cons (.refl _) (.cons (Aaw (i:=0)) (.cons (Aaw (i:=1)) (.cons (.refl _) (.cons (.refl _) .nil)))))
 have s0:=(Acg (i:=0) (by omega)).argsD (args':=[.agg true [.int .i64 1,.int .i64 0,.int .i64 0,.int .i64 0,.nils]]) (.cons (Aaw (i:=0)) .nil);have s1:=(Acg (i:=1) (by omega)).argsD (args':=[.agg true [.int .i64 1,.int .i64 1,.int .i64 0,.int .i64 0,.nils]]) (.cons (Aaw (i:=1)) .nil);have k0:=App;have h5:=Br (Cg 0);have h6:=Br (Cg 1);generalize tv (Cg 0)=u0 at *
 generalize tv (Cg 1)=u1 at *
 refine Cu mixed Tryz.func38 tr38 ?_;unfold wkV at *
 repeat' first
 |simp only[go_sem,seval,h5,h6]
 |refine Ag r0 ?_
 |refine Ag m0 ?_
 |refine Ag t0 ?_
 |refine Ag Ap6 ?_
 |refine Ag Apq ?_
 |refine Ag s0 ?_
 |refine Ag s1 ?_
 |refine Ag k0 ?_
 |refine Ag Aqr ?_
def Aqk(i:Int):Con 37 [.int .i64 i] (.agg true [.int .i64 1,.int .i64 i,.int .i64 0,.int .i64 0,.nils]):=by
 refine Cu mixed Tryz.func37 tr37 ?_
 repeat' first
 |simp only[go_sem,seval]
def Aui{x0 x1 x2 x3 x4 x5 x6 x7 x8 x9 x10 x11 x12 x13 x14 x15 x16 x17 x18 x19 x20 x21 x22 x23 x24 x25 x26 x27 a b c d e f g h i j:SV} :
  fill [x0,x1,x2,x3,x4,x5,x6,x7,x8,x9,x10,x11,x12,x13,x14,x15,x16,x17,x18,x19,x20,x21,x22,x23,x24,x25,x26,x27] [(8,5,.agg true [a,b,c,d,e]),(3,5,.agg true [f,g,h,i,j])] =
   [x0,x1,x2,f,g,h,i,j,a,b,c,d,e,x13,x14,x15,x16,x17,x18,x19,x20,x21,x22,x23,x24,x25,x26,x27]:=by
 simp[fill,Dz,cellsOf]
attribute [go_sem] Aui
def Aqu:Con 13 [] (.bool true):=by
 have r0:=Ag3;have v0:=Aqt;have x0:=Apf;rw[A4j] at x0;have q0:=Ag0 (goodP wkS (by decide));rw[Amx,Afd,wk_v] at q0;unfold wkS at q0;have e1:(([40,116,101,114,109,32,40,41,32,50,32,40,115,111,114,116,32,48,41,32,40,115,111,114,116,32,49,41,41,10]:By)==[40,116,101,114,109,32,40,41,32,50,32,40,115,111,114,116,32,48,41,32,40,115,111,114,116,32,49,41,41,10])=true:=by decide
 refine Cu mixed Tryz.func13 tr13 ?_;unfold wkV at *
 unfold wkL at *
 repeat' first
 |simp only[go_sem,seval,e1]
 |refine Ag (Aqk _) ?_
 |refine Ag r0 ?_
 |refine Ag v0 ?_
 |refine Ag x0 ?_
 |refine Ag q0 ?_
def A0w(tx:By):If (Rc tx)=If (Nt tx):=by
 obtain⟨h1,h2⟩:=Azv tx;generalize Rc tx=P at *
 generalize Nt tx=R at *
 obtain⟨x,o⟩:=P;obtain⟨y,o2⟩:=R;dsimp only at h1 h2;subst h1;cases o with
 |none=>rw[h2 rfl]
 |some p=>rfl
def Aqc(tx:By)(hR:tx.length<=3000->Con 15 [.str (bs tx)] (.tup (If (Rc tx)))):Con 4 [.str (bs tx)] (.bool true):=by
 refine Cu mixed Tryz.func4 tr4 ?_
 by_cases hm:tx.length<=3000
 rotate_left
 ·have h1:(3000:Int)<(tx.length:Int):=by omega
  simp only[go_sem,seval,h1]
 have h1:¬(3000:Int)<(tx.length:Int):=by omega
 have q0:=Ag0 (goodP tx hm);have p0:=hR hm;rw[A0w] at p0;have w0:=Aqu;cases hr:Nt tx with
 |mk x o=>
 rw[hr] at q0 p0;cases o with
 |none=>
  have s0:=Aql (Als hm hr);rw[Afd] at q0 p0;have hl:=Am1 x;generalize xqV x=r at *
  repeat' first
  |simp only[go_sem,seval,h1,hl,beq_self_eq_true]
  |refine Ag q0 ?_
  |refine Ag p0 ?_
  |refine Ag s0 ?_
  |refine Ag w0 ?_
 |some p=>
  have s0:=Aqm;rw[Wy] at q0 p0;unfold zx z5 at q0 p0 s0;simp only[q_km,q_kl] at q0 p0 s0
  repeat' first
  |simp only[go_sem,seval,h1,beq_self_eq_true]
  |refine Ag q0 ?_
  |refine Ag p0 ?_
  |refine Ag s0 ?_
  |refine Ag w0 ?_
def Ahd{u:Nat}(h:¬u<10):Lib.decDigits u=Lib.decDigits (u / 10)++[UInt8.ofNat (48+u % 10)]:=by
 rw[Lib.decDigits,dif_neg h]
def DG(u:Nat)(l:List UInt8):List UInt8:=if u=0 then l else Lib.decDigits u++l
def Arn{u:Nat}(h:u≠0)(l:List UInt8):DG (u / 10) (UInt8.ofNat (48+u % 10)::l)=DG u l:=by
 unfold DG;rw[if_neg h]
 by_cases h1:u<10
 ·rw[if_pos (by omega),Lib.decDigits_one h1,Nat.mod_eq_of_lt h1];rfl
 ·rw[if_neg (by omega),Ahd h1,q_ju];rfl
def Arm(m:Nat)(l:List UInt8):l.length<=(DG m l).length:=by unfold DG;split<;>simp
def Ari(n:Nat):Lib.decDigits n≠[]:=by
 by_cases h:n<10
 ·rw[Lib.decDigits_one h];simp
 ·rw[Ahd h];simp
def Awm:(Tryz.prog.info? 5).map (fun i=>(i.zero,i.size,i.bytes))=some (some (.int .u8 0),1,1):=by kernel_rfl
def Azt{w:World}{cap g:Nat}{cur:Array Value}{l:List UInt8}(h:w.heap[g]?=some (.cells cur 5 (0,0)))(hl:cur.toList.take l.length=Lib.byteCells l) :
  (convert 51 9 (.slice (some ⟨g,0,none⟩) l.length cap)).run Tryz.prog w=.ok (.string ⟨l.toArray⟩) w:=by
 refine run_convert_bytes_back w _ _ 5 ⟨g,0,none⟩ cap l Tryz.underlying51 Tryz.underlying5 Tryz.underlying9 (fun j hj=>?_);have Tg:(⟨g,0,none⟩:Addr).add j=⟨g,j,none⟩:=by unfold Addr.add;split<;>simp_all
 rw[Tg,Lib.cell_of_heap h j,<-Array.getElem?_toList];have h1:(cur.toList.take l.length)[j]?=some (.int .u8 (l[j].toNat:Int)):=by
  rw[hl];unfold Lib.byteCells;simp[hj]
 rw[q_jx,if_pos hj] at h1;exact h1
def A1h{n:Nat}(hn:n<=1000000000){w:World} :
  Calls Tryz.prog 35 #[.int .i64 n] w fun e w'=>e=.returned (.string ⟨(Lib.itoa (n:Nat)).toArray⟩)/\Below w.heap.size w w':=by
 obtain⟨i0,hi,Uh,Sl,Ic⟩:=info_parts Awm
 by_cases h0:n=0
 ·subst h0;have Ju:Lib.itoa ((0:Nat):Int)=[48]:=by rw[Lib.itoa_nonneg,Lib.decDigits_one (by omega)];rfl
  go_enter Tryz.func35,Tryz.ntmps35
  go_wp2
  go_ret
  refine⟨?_,Below.refl _ _⟩;rw[Ju];rfl
 have Tw:¬((n:Int)=0):=by omega
 have Jv:¬((n:Int)<0):=by omega
 have hw1:IntKind.u64.wrap (n:Int)=(n:Int):=by simp[IntKind.wrap,IntKind.bits];omega
 rw[Lib.itoa_nonneg];have hBw:Below w.heap.size w w:=Below.refl _ _
 go_enter Tryz.func35,Tryz.ntmps35
 go_wp2_with fail
 generalize hBe:w.heap.size=B at *
 go_loopw [3,4] (fun u b wr=>∃(m:Nat) (l:List UInt8),u=.int .u64 m/\m<=1000000000/\wr.ownsRow B 5 1 b l.length (Lib.byteCells l)/\DG m l=Lib.decDigits n/\Below B w wr/\B<=wr.heap.size) (fun u _ _=>(intOf u).toNat)
 case atStart=>exact⟨n,[],rfl,hn,World.ownsRow_nil _ _ _ _,by unfold DG;rw[if_neg h0,q_k],hBw,Nat.le_of_eq hBe.symm⟩
 case round=>
  obtain⟨m,l,rfl,hm,hown,hd,hb,hB⟩:=hrel;have Pv:l.length<=21:=by have:=Arm m l;rw[hd] at this;have h2:=Lib.itoa_length_le n (by omega) (by omega);rw[Lib.itoa_nonneg] at h2;omega
  by_cases hm0:m=0
  ·subst hm0;have hl:l=Lib.decDigits n:=hd;subst hl;rcases hown.2 with⟨rfl,h⟩|⟨g,cap,cur,rfl,_,hg,_,_,_,ht⟩
   ·exact absurd (List.eq_nil_of_length_eq_zero h) (Ari n)
   ·rw[Nat.mul_one] at ht;have Ih:=Azt (cap:=cap) hg ht;clear hown hd
    go_wp2
    go_ret
    exact⟨rfl,by rw[hBe];exact hb⟩
  ·have hm1:(0:Int)<(m:Int):=by omega
   have Aae:(wr.alloc (.cells #[.int .u8 (48+(m:Int) % 10)] 5)).ownsRow B 5 1 (.slice (some ⟨wr.heap.size,0,none⟩) 1 1) 1 [.int .u8 (48+(m:Int) % 10)]:=⟨rfl,.inr ⟨wr.heap.size,1,_,rfl,hB,heap_alloc_new wr _,q_ja _,by decide,rfl,rfl⟩⟩
   have hb1:Below B w (wr.alloc (.cells #[.int .u8 (48+(m:Int) % 10)] 5)):=hb.alloc hB _;have hS:B<=(wr.alloc (.cells #[.int .u8 (48+(m:Int) % 10)] 5)).heap.size:=by have:=hB;simp;omega
   have hc:((UInt8.ofNat (48+m % 10)).toNat:Int)=48+(m:Int) % 10:=by rw[UInt8.toNat_ofNat'];omega
   have Rz:=(Arn hm0 l).trans hd;have hq:∀(v':Value) (w1:World) (k:Nat),k=1+l.length->w1.ownsRow B 5 1 v' k ([.int .u8 (48+(m:Int) % 10)]++Lib.byteCells l)->w1.ownsRow B 5 1 v' (UInt8.ofNat (48+m % 10)::l).length (Lib.byteCells (UInt8.ofNat (48+m % 10)::l)):=fun v' w1 k hk h=>by
    subst hk;rw[show Lib.byteCells (UInt8.ofNat (48+m % 10)::l)=[.int .u8 (48+(m:Int) % 10)]++Lib.byteCells l by unfold Lib.byteCells;rw[q_h,hc];rfl,show (UInt8.ofNat (48+m % 10)::l).length=1+l.length by simp;omega];exact h
   rcases hown.2 with⟨rfl,h⟩|⟨g,cap,cur,rfl,_,hg,_,_,_,ht⟩
   ·obtain rfl:=List.eq_nil_of_length_eq_zero h
    go_wp2_with (at_builtin;refine wpList_append_own_none rfl _ _ 51 rfl B 5 i0 1 Tryz.underlying51 hi _ _ _ rfl Aae rfl ?_)
    go_wp2
    go_roundw
    case rel=>exact⟨m / 10,_,by simp,by omega,hq _ _ 1 rfl Aae,Rz,hb1,hS⟩
    case measure=>simp[intOf];omega
   ·have hlb:(Lib.byteCells l).length=l.length*1:=by rw[Lib.byteCells_length,Nat.mul_one]
    have hcl:∀j u,(Lib.byteCells l)[j]?=some u->(wr.alloc (.cells #[.int .u8 (48+(m:Int) % 10)] 5)).cell? ((⟨g,0,none⟩:Addr).add j)=some u:=fun j u hj=>(hown.alloc _).cells (g:=g) rfl j u hj
    have Gd:∀u∈Lib.byteCells l,u.oneCell'=true:=fun u hu=>by unfold Lib.byteCells at hu;obtain⟨x,_,rfl⟩:=q_lb.1 hu;rfl
    have Mn:1+l.length<=maxLen:=by unfold maxLen;omega
    have Hr:(1+l.length)*1<=140737488355328:=by omega
    go_wp2_with (at_builtin;refine wpList_append_own _ rfl _ _ 51 rfl B 5 i0 (.int .u8 0) 1 1 Tryz.underlying51 hi Uh Sl Ic rfl (by decide) _ _ _ rfl Aae ⟨g,0,none⟩ l.length cap (Lib.byteCells l) rfl hlb hcl Gd Mn Hr hS ?_)
    intro v' w1 Ajj hgrow _;have Ci:=hb1.grown hgrow hS (fun k hk=>by cases hk;exact hB);have Yg:=q_kn hS hgrow.size;have hq2:=hq v' w1 _ rfl Ajj;clear Ajj hgrow hcl Aae hown hb1 hS
    go_wp2
    go_roundw
    case rel=>exact⟨m / 10,_,by simp,by omega,hq2,Rz,Ci,Yg⟩
    case measure=>simp[intOf];omega
end Go.Proofs.YtgfehkhcmnfpaaaGreatDoor.Abs
