import Derived.Test.YtgfehkhcmnfpaaaGreatDoorXEv
import Derived.Test.YtgfehkhcmnfpaaaGreatDoorProg
import Derived.KernelRfl
import Derived.Test.YtgfehkhcmnfpaaaGreatDoorXQg
import Derived.Test.YtgfehkhcmnfpaaaGreatDoorXTs
import Derived.Test.YtgfehkhcmnfpaaaGreatDoorXAfN
import Derived.Shelf.Strings.BuilderK
import Derived.WalkKit
import Derived.WalkLawsBesides
import Derived.BigCall
import Derived.Test.YtgfehkhcmnfpaaaGreatDoorXDo
import Derived.Deep.RegionHeld3
import Derived.Handy
set_option linter.all false
set_option maxRecDepth 20000
set_option maxHeartbeats 4000000
namespace Go.Proofs.YtgfehkhcmnfpaaaGreatDoor.Abs
open Go Go.Proofs Go.Proofs.YtgfehkhcmnfpaaaGreatDoor
def af6:AF:=⟨53,[(.t 2)],(Ab [oP 2 (.mv (cB false))] (.seq (Ab [Aa 6 0,oP 7 (.len true (.t 6)),oP 8 (Bg .gtr 7 3000)] (Ag 8 (Ab [oP 2 (.mv (cB true))] .ret) .skip)) (Ab [Aa 10 0,oP 11 (.call 14 [(.t 10)]),Aa 9 11,oP 12 (.ext (.t 9) 0),oP 13 (.ext (.t 9) 1),oP 14 (.ext (.t 9) 2),oP 3 (.new [.nils,(.bool false),(iS 0),(iS 0),(iS 0),(iS 0),(iS 0),.nils,(iS 0),(iS 0),(iS 0),(iS 0),.nils,(iS 0),(iS 0),(iS 0),(iS 0),.nils,(iS 0),(iS 0),(iS 0),(iS 0),.nils,(iS 0),(iS 0),(iS 0),(iS 0),.nils]),oN (Bd 28 3 12),Aa 4 13,Aa 5 14] (.seq (Ab [Aa 15 4,oP 16 (Bg .neq 15 0)] (Ag 16 (Ab [Aa 17 4,oP 18 (As 17 2),Aa 19 18,oG 20 19 true 0 (mT 5),oG 21 19 true 0 (Bg .geq 20 0),oP 22 (Cf 19 21),Aa 23 22,oG 24 23 true 0 (mT 5),oG 25 23 true 0 (mT 0),oG 26 23 true 0 (.len true (.t 25)),oG 27 23 true 0 (Ch .leq 24 26),oP 28 (Cf 23 27),Aa 29 28,oG 30 29 true 0 (Ac 8 3),oG 31 29 true 0 (Ac 0 30),oG 32 29 true 0 (Af 31),oG 33 29 true 0 (As 32 0),oP 34 (Cf 29 33),Aa 35 34,oG 36 35 true 0 (Ac 0 3),oG 37 35 true 0 (Af 36),oG 38 35 true 0 (.len false (.t 37)),oG 39 35 true 0 (As 38 0),oP 40 (Cf 35 39),Aa 41 40,oG 42 41 true 0 (.call 13 []),oP 43 (Cf 41 42),Aa 2 43] .ret) .skip)) (Ab [Aa 44 5,oP 45 (As 44 0),Aa 46 45,oG 47 46 true 0 (Am 28 3),oG 48 46 true 0 (.call 8 [(.t 47)]),oP 49 (Cf 46 48),Aa 50 49,oG 51 50 true 0 (.call 13 []),oP 52 (Cf 50 51),Aa 2 52] .ret)))))⟩
def tr6:trF Tryz.prog Tryz.f6=some af6:=by kernel_rfl
attribute [go_sem] af6
def af13:AF:=⟨50,[(.t 0)],(Ab [oP 0 (.mv (cB false))] (Ab [oP 5 (.call 37 [(cI 0)]),oP 6 (.call 37 [(cI 1)]),oP 7 (.build [.nils,(.bool false),(iS 0),(iS 0),(iS 0),(iS 0),(iS 0),.nils,(iS 0),(iS 0),(iS 0),(iS 0),.nils,(iS 0),(iS 0),(iS 0),(iS 0),.nils,(iS 0),(iS 0),(iS 0),(iS 0),.nils,(iS 0),(iS 0),(iS 0),(iS 0),.nils] [(2,(1,(cI 2))),(8,(5,(.t 5))),(3,(5,(.t 6)))]),oP 1 (.new [.nils,(.bool false),(iS 0),(iS 0),(iS 0),(iS 0),(iS 0),.nils,(iS 0),(iS 0),(iS 0),(iS 0),.nils,(iS 0),(iS 0),(iS 0),(iS 0),.nils,(iS 0),(iS 0),(iS 0),(iS 0),.nils,(iS 0),(iS 0),(iS 0),(iS 0),.nils]),oN (Bd 28 1 7)] (Ab [oP 9 (.call 14 [(Be [40,116,101,114,109,32,40,41,32,50,32,40,115,111,114,116,32,48,41,32,40,115,111,114,116,32,49,41,41,32,59,32,110,111,116,101])]),Aa 8 9,oP 10 (.ext (.t 8) 0),oP 11 (.ext (.t 8) 1),oP 12 (.ext (.t 8) 2),oP 2 (.new [.nils,(.bool false),(iS 0),(iS 0),(iS 0),(iS 0),(iS 0),.nils,(iS 0),(iS 0),(iS 0),(iS 0),.nils,(iS 0),(iS 0),(iS 0),(iS 0),.nils,(iS 0),(iS 0),(iS 0),(iS 0),.nils,(iS 0),(iS 0),(iS 0),(iS 0),.nils]),oN (Bd 28 2 10),Aa 3 11,Aa 4 12] (Ab [oP 13 (Am 28 1),oP 14 (.call 8 [(.t 13)]),Aa 15 14,oG 16 15 true 0 (Am 28 1),oG 17 15 true 0 (.call 11 [(.t 16)]),oG 18 15 true 0 (.bin 4 .eql (.t 17) (Be [40,116,101,114,109,32,40,41,32,50,32,40,115,111,114,116,32,48,41,32,40,115,111,114,116,32,49,41,41,10])),oP 19 (Cf 15 18),Aa 20 19,oG 21 20 true 0 (mT 3),oG 22 20 true 0 (As 21 0),oP 23 (Cf 20 22),Aa 24 23,oG 25 24 true 0 (mT 4),oG 26 24 true 0 (As 25 0),oP 27 (Cf 24 26),Aa 28 27,oG 29 28 true 0 (Ac 2 2),oG 30 28 true 0 (Af 29),oG 31 28 true 0 (As 30 2),oP 32 (Cf 28 31),Aa 33 32,oG 34 33 true 0 (Ac 8 2),oG 35 33 true 0 (Ac 0 34),oG 36 33 true 0 (Af 35),oG 37 33 true 0 (As 36 1),oP 38 (Cf 33 37),Aa 39 38,oG 40 39 true 0 (Ac 3 2),oG 41 39 true 0 (Ac 1 40),oG 42 39 true 0 (Af 41),oG 43 39 true 0 (As 42 1),oP 44 (Cf 39 43),Aa 45 44,oG 46 45 true 0 (Am 28 1),oG 47 45 true 0 (.call 38 [(.t 46),(.c (.float .f64 4621256167635550208))]),oG 48 45 true 0 (As 47 0),oP 49 (Cf 45 48),Aa 0 49] .ret))))⟩
def tr13:trF Tryz.prog Tryz.f13=some af13:=by kernel_rfl
attribute [go_sem] af13
def af37:AF:=⟨5,[(.cell 2 true 5)],(Ab [oP 2 Ej] (Ab [Aa 3 0,oP 4 (Hl [(0,(1,(cI 1))),(1,(1,(.t 3)))]),oN (Bd 5 2 4)] .ret))⟩
def tr37:trF Tryz.prog Tryz.f37=some af37:=by kernel_rfl
attribute [go_sem] af37
def af8:AF:=⟨99,[(.t 2)],(Ab [oP 1 (.box (.t 0)),oP 2 (.mv (cB false))] (Ab [oP 5 (Ac 0 1),oP 6 (Af 5),oP 7 (.len false (.t 6)),Aa 3 7] (.seq (Ab [oP 8 (Ac 0 1),oP 9 (Af 8),oP 10 (.call 19 [(.t 9)]),oP 11 (.un .not (.t 10)),Aa 12 11,oG 13 12 false 0 (Ac 2 1),oG 14 12 false 0 (Af 13),oG 15 12 false 0 (Bg .lss 14 0),oP 16 (Db 12 15),Aa 17 16,oG 18 17 false 0 (Ac 2 1),oG 19 17 false 0 (Af 18),oG 20 17 false 0 (Bg .gtr 19 1000),oP 21 (Db 17 20),Aa 22 21,oG 23 22 false 0 (Ac 3 1),oG 24 22 false 0 (Am 5 23),oG 25 22 false 0 (.call 20 [(.t 24)]),oG 26 22 false 0 (.un .not (.t 25)),oP 27 (Db 22 26),Aa 28 27,oG 29 28 false 0 (Ac 8 1),oG 30 28 false 0 (Am 5 29),oG 31 28 false 0 (.call 20 [(.t 30)]),oG 32 28 false 0 (.un .not (.t 31)),oP 33 (Db 28 32),Aa 34 33,oG 35 34 false 0 (Ac 3 1),oG 36 34 false 0 (Am 5 35),oG 37 34 false 0 (mT 3),oG 38 34 false 0 (.call 21 [(.t 36),(.t 37)]),oG 39 34 false 0 (.un .not (.t 38)),oP 40 (Db 34 39),Aa 41 40,oG 42 41 false 0 (Ac 8 1),oG 43 41 false 0 (Am 5 42),oG 44 41 false 0 (mT 3),oG 45 41 false 0 (.call 21 [(.t 43),(.t 44)]),oG 46 41 false 0 (.un .not (.t 45)),oP 47 (Db 41 46)] (Ag 47 (Ab [oP 2 (.mv (cB false))] .ret) .skip)) (.seq (Ab [oP 48 (Ac 1 1),oP 49 (Af 48),oP 50 (.un .not (.t 49))] (Ag 50 (Ab [oP 51 (Hl []),oP 4 Ej,oN (Bd 5 4 51)] (Ab [oP 52 (Ac 13 1),oP 53 (Am 5 52),oP 54 (Am 5 4),oP 55 (.call 22 [(.t 53),(.t 54)]),Aa 56 55,oG 57 56 true 0 (Ac 18 1),oG 58 56 true 0 (Am 5 57),oG 59 56 true 0 (Am 5 4),oG 60 56 true 0 (.call 22 [(.t 58),(.t 59)]),oP 61 (Cf 56 60),Aa 62 61,oG 63 62 true 0 (Ac 23 1),oG 64 62 true 0 (Am 5 63),oG 65 62 true 0 (Am 5 4),oG 66 62 true 0 (.call 22 [(.t 64),(.t 65)]),oP 67 (Cf 62 66),Aa 2 67] .ret)) .skip)) (Ab [oP 68 (Ac 13 1),oP 69 (Am 5 68),oP 70 (.call 20 [(.t 69)]),Aa 71 70,oG 72 71 true 0 (Ac 18 1),oG 73 71 true 0 (Am 5 72),oG 74 71 true 0 (.call 20 [(.t 73)]),oP 75 (Cf 71 74),Aa 76 75,oG 77 76 true 0 (Ac 23 1),oG 78 76 true 0 (Am 5 77),oG 79 76 true 0 (.call 23 [(.t 78)]),oP 80 (Cf 76 79),Aa 81 80,oG 82 81 true 0 (Ac 13 1),oG 83 81 true 0 (Am 5 82),oG 84 81 true 0 (mT 3),oG 85 81 true 0 (.call 21 [(.t 83),(.t 84)]),oP 86 (Cf 81 85),Aa 87 86,oG 88 87 true 0 (Ac 18 1),oG 89 87 true 0 (Am 5 88),oG 90 87 true 0 (mT 3),oG 91 87 true 0 (.call 21 [(.t 89),(.t 90)]),oP 92 (Cf 87 91),Aa 93 92,oG 94 93 true 0 (Ac 23 1),oG 95 93 true 0 (Am 5 94),oG 96 93 true 0 (mT 3),oG 97 93 true 0 (.call 21 [(.t 95),(.t 96)]),oP 98 (Cf 93 97),Aa 2 98] .ret)))))⟩
def tr8:trF Tryz.prog Tryz.f8=some af8:=by kernel_rfl
attribute [go_sem] af8
def af21:AF:=⟨9,[(.t 4)],(Ab [oP 2 (.box (.t 0)),oP 4 (.mv (cB false))] (Ab [oP 5 (Am 5 2),oP 6 (.call 55 [(.t 5)]),Aa 7 1,oP 8 (Ch .leq 6 7),Aa 4 8] .ret))⟩
def tr21:trF Tryz.prog Tryz.f21=some af21:=by kernel_rfl
attribute [go_sem] af21
def af19:AF:=⟨34,[(.t 2)],(Ab [oP 2 (.mv (cB false))] (.seq (Ab [Aa 5 0,oP 6 (.len false (.t 5)),oP 7 (.mv (cI 0))] (.blk 0 (.loop (Ab [oP 8 (Ch .lss 7 6)] (.seq (Ez 8 0) (.seq (.blk 1 (Ab [Aa 9 7,oP 10 (.iad 6 (.t 5) (.t 7)),oP 11 (Am 6 10),oP 4 (.new [(iS 0),(iS 0),(iS 0),(iS 0),.nils,(iS 0)]),Aa 3 9,oN (Bd 6 4 11)] (Ab [oP 12 (Ac 5 4),oP 13 (Af 12),oP 14 (Bg .lss 13 0),Aa 15 14,oG 16 15 false 0 (Ac 5 4),oG 17 15 false 0 (Af 16),oG 18 15 false 0 (Bg .gtr 17 1000),oP 19 (Db 15 18),Aa 20 19,oG 21 20 false 0 (Ac 0 4),oG 22 20 false 0 (Am 5 21),oG 23 20 false 0 (.call 20 [(.t 22)]),oG 24 20 false 0 (.un .not (.t 23)),oP 25 (Db 20 24),Aa 26 25,oG 27 26 false 0 (Ac 0 4),oG 28 26 false 0 (Am 5 27),oG 29 26 false 0 (.call 55 [(.t 28)]),oG 30 26 false 0 (mT 3),oG 31 26 false 0 (Ch .gtr 29 30),oP 32 (Db 26 31)] (Ag 32 (Ab [oP 2 (.mv (cB false))] .ret) .skip)))) (Bj [oP 33 (Bg .add 7 1),Aa 7 33]))))))) (Ab [oP 2 (.mv (cB true))] .ret)))⟩
def tr19:trF Tryz.prog Tryz.f19=some af19:=by kernel_rfl
attribute [go_sem] af19
def af38:AF:=⟨95,[(.t 4)],(Ab [oP 2 (.box (.t 0)),oP 4 (.mv (cI 0))] (.seq (Ab [oP 11 (Am 28 2),oP 12 (.call 8 [(.t 11)]),oP 13 (.un .not (.t 12))] (Ag 13 (Ab [oP 4 (.mv (cI 1))] .ret) .skip)) (.seq (Ab [oP 14 (Ac 0 2),oP 15 (Af 14),Aa 16 1,oP 17 (.call 67 [(.t 15),(.t 16)]),Aa 5 17] (Ab [Aa 18 5,oP 19 (Bg .neq 18 0)] (Ag 19 (Ab [Aa 20 5,Aa 4 20] .ret) .skip))) (.seq (Ab [oP 21 (Ac 0 2),oP 22 (Af 21),oP 23 (Ac 8 2),oP 24 (Am 5 23),oP 25 (Ac 3 2),oP 26 (Am 5 25),oP 27 (Ac 2 2),oP 28 (Af 27),Aa 29 1,oP 30 (.call 68 [(.t 22),(.t 24),(.t 26),(.t 28),(.t 29)]),Aa 6 30] (Ab [Aa 31 6,oP 32 (Bg .neq 31 0)] (Ag 32 (Ab [Aa 33 6,Aa 4 33] .ret) .skip))) (.seq (Ab [oP 34 (Ac 1 2),oP 35 (Af 34)] (Ag 35 (Ab [oP 36 (Ac 0 2),oP 37 (Af 36),oP 38 (Ac 18 2),oP 39 (Am 5 38),oP 40 (Ac 13 2),oP 41 (Am 5 40),oP 42 (Ac 2 2),oP 43 (Af 42),Aa 44 1,oP 45 (.call 68 [(.t 37),(.t 39),(.t 41),(.t 43),(.t 44)]),Aa 7 45] (Ab [Aa 46 7,oP 47 (Bg .neq 46 0)] (Ag 47 (Ab [Aa 48 7,Aa 4 48] .ret) .skip))) .skip)) (Ab [oP 49 (Ac 0 2),oP 50 (Af 49),oP 51 (.call 69 [(.t 50)]),Aa 8 51] (.seq (Ab [Aa 52 8,Aa 53 1,oP 54 (.call 70 [(.t 52),(.t 53)]),Aa 9 54] (Ab [Aa 55 9,oP 56 (Bg .neq 55 0)] (Ag 56 (Ab [Aa 57 9,oP 58 (.call 71 [(.t 57)]),Aa 4 58] .ret) .skip))) (.seq (Ab [oP 59 (Ac 1 2),oP 60 (Af 59),oP 61 (.un .not (.t 60))] (Ag 61 (Cl [Aa 62 8,oI 63 1 (Ac 8 2),oI 64 2 (Am 5 63),⟨(some 65),(.call 73 [(.t 64)]),none,3,true,[]⟩,oI 66 4 (Ac 3 2),⟨(some 67),(Am 5 66),none,5,false,[3]⟩,oI 68 6 (.call 73 [(.t 67)]),oI 69 7 (mT 1),oI 70 8 (.call 72 [(.t 62),(.t 65),(.t 68),(.t 69)]),oI 71 9 (.call 71 [(.t 70)]),oI 4 10 (mT 71)] .ret) .skip)) (Cl [oP 72 (Ac 2 2),⟨(some 73),(Af 72),none,1,true,[]⟩,oI 74 2 (Ac 3 2),⟨(some 75),(Am 5 74),none,3,true,[]⟩,⟨(some 76),(.call 73 [(.t 75)]),none,4,true,[1]⟩,oI 77 5 (Ac 13 2),⟨(some 78),(Am 5 77),none,6,true,[4]⟩,⟨(some 79),(.call 73 [(.t 78)]),none,7,true,[1]⟩,oI 80 8 (Ac 8 2),⟨(some 81),(Am 5 80),none,9,true,[4,7]⟩,⟨(some 82),(.call 73 [(.t 81)]),none,10,true,[1]⟩,oI 83 11 (Ac 18 2),⟨(some 84),(Am 5 83),none,12,true,[4,7,10]⟩,⟨(some 85),(.call 73 [(.t 84)]),none,13,true,[1]⟩,⟨(some 86),(.bslice 5 [(.t 76),(.t 79),(.t 82),(.t 85)]),none,14,true,[1]⟩,⟨(some 87),(.call 74 [(cI 23),(.t 73),(cI 0),(cI 6),(.t 86)]),none,15,true,[]⟩,⟨(some 10),Ej,none,16,false,[1,3,4,6,7,9,10,12,13,14,15]⟩,oJ 17 (Bd 5 10 87)] (Ab [Aa 88 8,oP 89 (Ac 23 2),oP 90 (Am 5 89),oP 91 (Am 5 10),Aa 92 1,oP 93 (.call 72 [(.t 88),(.t 90),(.t 91),(.t 92)]),oP 94 (.call 71 [(.t 93)]),Aa 4 94] .ret))))))))))⟩
def tr38:trF Tryz.prog Tryz.f38=some af38:=by kernel_rfl
attribute [go_sem] af38
def af68:AF:=⟨45,[(.t 10)],(Ab [oP 6 (.box (.t 1)),oP 7 (.box (.t 2)),oP 10 (.mv (cI 0))] (Ab [Aa 16 0,oP 17 (Am 5 6),Aa 18 4,oP 19 (.call 106 [(.t 16),(.t 17),(.t 18)]),Aa 15 19,oP 20 (.ext (.t 15) 0),oP 21 (.ext (.t 15) 1),oP 22 (.ext (.t 15) 2),oP 11 Ej,oN (Bd 5 11 20),Aa 12 21,Aa 13 22] (.seq (Ab [Aa 23 13,oP 24 (Bg .neq 23 0)] (Ag 24 (Ab [Aa 25 13,Aa 10 25] .ret) .skip)) (.seq (Ab [Aa 26 12,Aa 27 3,oP 28 (Ch .neq 26 27)] (Ag 28 (Ab [oP 10 (.mv (cI 5))] .ret) .skip)) (.seq (.cut (.reg [oP 30 (Am 5 11),⟨(some 31),(.call 73 [(.t 30)]),none,1,true,[]⟩,⟨(some 32),(Am 5 7),none,2,false,[1]⟩,oI 33 3 (.call 73 [(.t 32)]),oI 34 4 (mT 4)] true) (.cut (Bj [⟨(some 35),(.hcall 107 [(.t 31),(.t 33),(.t 34)]),none,5,false,[5]⟩]) (.reg [oI 29 6 (mT 35),oI 36 7 (.ext (.t 29) 0),oI 37 8 (.ext (.t 29) 1),oI 14 9 (mT 36),oI 13 10 (mT 37)] true))) (.seq (Ab [Aa 38 13,oP 39 (As 38 0),Aa 40 39,oG 41 40 true 0 (mT 14),oG 42 40 true 0 (.un .not (.t 41)),oP 43 (Cf 40 42)] (Ag 43 (Ab [oP 10 (.mv (cI 5))] .ret) .skip)) (Ab [Aa 44 13,Aa 10 44] .ret)))))))⟩
def tr68:trF Tryz.prog Tryz.f68=some af68:=by kernel_rfl
attribute [go_sem] af68
def af71:AF:=⟨6,[(.t 2)],(Ab [oP 2 (.mv (cI 0))] (.seq (Ab [Aa 3 0,oP 4 (As 3 1)] (Ag 4 (Ab [oP 2 (.mv (cI 5))] .ret) .skip)) (Ab [Aa 5 0,Aa 2 5] .ret)))⟩
def tr71:trF Tryz.prog Tryz.f71=some af71:=by kernel_rfl
attribute [go_sem] af71
def af69:AF:=⟨26,[(.t 2)],(Ab [oP 2 (.mv (.c .nils))] (.seq (Ab [Aa 6 0,oP 7 (.call 19 [(.t 6)]),oP 8 (.un .not (.t 7))] (Ag 8 (Ab [oP 2 (.mv (.c .nils))] .ret) .skip)) (Ab [Aa 9 0,oP 10 (.len false (.t 9)),oP 11 (.mk 5 56 [(iS 0),(iS 0),(iS 0),(iS 0),.nils] (cI 0) (.t 10)),Aa 3 11] (.seq (Ab [Aa 12 0,oP 13 (.len false (.t 12)),oP 14 (.mv (cI 0))] (.blk 0 (.loop (Ab [oP 15 (Ch .lss 14 13)] (.seq (Ez 15 0) (.seq (.blk 1 (Ab [oP 16 (.iad 6 (.t 12) (.t 14)),oP 17 (Am 6 16),oP 5 (.new [(iS 0),(iS 0),(iS 0),(iS 0),.nils,(iS 0)]),oN (Bd 6 5 17)] (Bj [Aa 18 3,oP 19 (Ac 0 5),oP 20 (Am 5 19),oP 21 (.call 73 [(.t 20)]),oP 22 (.bslice 5 [(.t 21)]),oP 23 (.app 5 56 (.t 18) (.t 22)),Aa 3 23]))) (Bj [oP 24 (Bg .add 14 1),Aa 14 24]))))))) (Ab [Aa 25 3,Aa 2 25] .ret)))))⟩
def tr69:trF Tryz.prog Tryz.f69=some af69:=by kernel_rfl
attribute [go_sem] af69
def af73:AF:=⟨9,[(.cell 2 true 5)],(Ab [oP 1 (.box (.t 0)),oP 2 Ej] (.seq (Ab [oP 3 (Am 5 1),oP 4 (.call 64 [(.t 3)]),oP 5 (.un .not (.t 4))] (Ag 5 (Ab [oP 6 (Hl []),oN (Bd 5 2 6)] .ret) .skip)) (Ab [oP 7 (Am 5 1),oP 8 (.call 119 [(.t 7)]),oN (Bd 5 2 8)] .ret)))⟩
def tr73:trF Tryz.prog Tryz.f73=some af73:=by kernel_rfl
attribute [go_sem] af73
def af119:AF:=⟨94,[(.cell 2 true 5)],(Ab [oP 1 (.box (.t 0)),oP 2 Ej] (Ab [oP 3 (.mv (cI 0)),oP 4 (.mv (cI 0))] (.seq (Ab [oP 8 (Ac 0 1),oP 9 (Af 8)] (.blk 0 (Ab [oP 13 (As 9 3),Aa 12 13] (Ag 12 (Bj [oP 3 (.mv (cI 13))]) (Ab [oP 15 (As 9 4),Aa 14 15] (Ag 14 (Cl [oP 16 (Ac 4 1),oI 17 1 (Af 16),oI 18 2 (.iad 5 (.t 17) (cI 0)),oI 19 3 (Am 5 18),⟨(some 20),(.call 119 [(.t 19)]),none,4,true,[]⟩,oI 21 5 (Ac 4 1),⟨(some 22),(Af 21),none,6,false,[4]⟩,⟨(some 23),(.iad 5 (.t 22) (cI 2)),none,7,false,[4]⟩,⟨(some 24),(Am 5 23),none,8,false,[4]⟩,oI 25 9 (.call 119 [(.t 24)]),oI 26 10 (.bslice 5 [(.t 20),(.t 25)]),oI 27 11 (.call 74 [(cI 14),(cI 0),(cI 0),(cI 0),(.t 26)]),oJ 12 (Bd 5 2 27)] .ret) (Ab [oP 29 (As 9 5),Aa 28 29] (Ag 28 (Bj [oP 3 (.mv (cI 15)),oP 4 (.mv (cI 2))]) (Ab [oP 31 (As 9 6),Aa 30 31] (Ag 30 (Bj [oP 3 (.mv (cI 16))]) (Ab [oP 33 (As 9 7),Aa 32 33] (Ag 32 (Bj [oP 3 (.mv (cI 17))]) (Ab [oP 35 (As 9 8),Aa 34 35] (Ag 34 (Bj [oP 3 (.mv (cI 18)),oP 4 (.mv (cI 2))]) (Ab [oP 37 (As 9 9),Aa 36 37] (Ag 36 (Bj [oP 3 (.mv (cI 19)),oP 4 (.mv (cI 2))]) (Ab [oP 39 (As 9 10),Aa 38 39] (Ag 38 (Bj [oP 3 (.mv (cI 20))]) (Ab [oP 41 (As 9 11),Aa 40 41] (Ag 40 (Bj [oP 3 (.mv (cI 21))]) (Ab [oP 43 (As 9 12),Aa 42 43] (Ag 42 (Cl [oP 44 (Ac 1 1),⟨(some 45),(Af 44),none,1,true,[]⟩,oI 46 2 (Ac 4 1),oI 47 3 (Af 46),oI 48 4 (.iad 5 (.t 47) (cI 0)),oI 49 5 (Am 5 48),⟨(some 50),(.call 119 [(.t 49)]),none,6,true,[1]⟩,oI 51 7 (Ac 4 1),⟨(some 52),(Af 51),none,8,false,[6]⟩,⟨(some 53),(.iad 5 (.t 52) (cI 1)),none,9,false,[6]⟩,⟨(some 54),(Am 5 53),none,10,false,[6]⟩,⟨(some 55),(.call 119 [(.t 54)]),none,11,true,[1]⟩,oI 56 12 (Ac 4 1),⟨(some 57),(Af 56),none,13,false,[6,11]⟩,⟨(some 58),(.iad 5 (.t 57) (cI 2)),none,14,false,[6,11]⟩,⟨(some 59),(Am 5 58),none,15,false,[6,11]⟩,⟨(some 60),(.call 141 [(.t 59)]),none,16,true,[1]⟩,oI 61 17 (Ac 4 1),⟨(some 62),(Af 61),none,18,false,[6,11,16]⟩,⟨(some 63),(.iad 5 (.t 62) (cI 3)),none,19,false,[6,11,16]⟩,⟨(some 64),(Am 5 63),none,20,false,[6,11,16]⟩,⟨(some 65),(.call 119 [(.t 64)]),none,21,false,[1]⟩,⟨(some 66),(.bslice 5 [(.t 50),(.t 55),(.t 60),(.t 65)]),none,22,false,[1]⟩,oI 67 23 (.call 74 [(cI 23),(.t 45),(cI 0),(cI 5),(.t 66)]),oJ 24 (Bd 5 2 67)] .ret) (Ab [oP 10 (Am 5 1),oP 11 (.call 141 [(.t 10)]),oN (Bd 5 2 11)] .ret))))))))))))))))))))))) (Ab [Aa 68 3,oP 69 (Ac 4 1),oP 70 (Af 69),oP 71 (.len false (.t 70)),Aa 72 4,oP 73 (Ch .sub 71 72),oP 74 (.mk 5 56 [(iS 0),(iS 0),(iS 0),(iS 0),.nils] (cI 0) (.t 73)),oP 75 (Hl [(0,(1,(.t 68))),(4,(1,(.t 74)))]),oP 5 Ej,oN (Bd 5 5 75)] (.seq (Ab [oP 76 (Ac 4 1),oP 77 (Af 76),Aa 78 4,oP 79 (.slc 5 (.t 77) (some (.t 78)) none),oP 80 (.len false (.t 79)),oP 81 (.mv (cI 0))] (.blk 1 (.loop (Ab [oP 82 (Ch .lss 81 80)] (.seq (Ez 82 1) (.seq (.blk 2 (Ab [oP 83 (.iad 5 (.t 79) (.t 81)),oP 84 (Am 5 83),oP 7 Ej,oN (Bd 5 7 84)] (.reg [oP 85 (Ac 4 5),⟨(some 86),(Af 85),none,1,true,[]⟩,oI 87 2 (Am 5 7),⟨(some 88),(.call 119 [(.t 87)]),none,3,false,[1]⟩,⟨(some 89),(.bslice 5 [(.t 88)]),none,4,false,[1]⟩,oI 90 5 (.app 5 56 (.t 86) (.t 89)),oI 91 6 (Ac 4 5),oJ 7 (Bd 1 91 90)] true))) (Bj [oP 92 (Bg .add 81 1),Aa 81 92]))))))) (Ab [oP 93 (Am 5 5),oN (Bd 5 2 93)] .ret))))))⟩
def tr119:trF Tryz.prog Tryz.f119=some af119:=by kernel_rfl
attribute [go_sem] af119
def af136:AF:=⟨229,[(.cell 6 true 5),(.t 7)],(Ab [oP 5 (.box (.t 2)),oP 6 Ej,oP 7 (.mv (cI 0))] (Ab [oP 12 (Ac 1 5),oP 13 (Af 12),oP 14 (Ac 2 5),oP 15 (Af 14),oP 16 (.mnx true (.t 13) (.t 15)),Aa 8 16] (.seq (Ab [oP 17 (Ac 0 5),oP 18 (Af 17)] (.blk 0 (Ab [oP 20 (As 18 1),Aa 19 20] (Ag 19 (Ab [oP 21 (Ac 1 5),oP 22 (Af 21),oP 23 (Bg .add 22 2),oP 24 (Bg .leq 23 1000),oP 25 (.call 137 [(.t 24)])] (Cl [oP 26 (Ac 1 5),oI 27 1 (Af 26),oI 28 2 (Bg .add 27 1),⟨(some 29),(.call 162 [(.t 28)]),none,3,true,[]⟩,oI 30 4 (Ac 1 5),⟨(some 31),(Af 30),none,5,true,[3]⟩,oI 32 6 (Bg .add 31 2),⟨none,(Bd 5 6 29),none,7,false,[5]⟩,oI 7 8 (mT 32)] .ret)) (Ab [oP 34 (As 18 2),Aa 33 34] (Ag 33 (Ab [Aa 35 1,Aa 36 1,oP 37 (.len false (.t 36)),oP 38 (Bg .sub 37 1),oP 39 (Ac 1 5),oP 40 (Af 39),oP 41 (Ch .sub 38 40),oP 42 (.iad 6 (.t 35) (.t 41)),oP 43 (Am 6 42),oP 9 (.new [(iS 0),(iS 0),(iS 0),(iS 0),.nils,(iS 0)]),oN (Bd 6 9 43)] (Ab [oP 45 (Ac 0 9),oP 46 (Am 5 45),oP 47 (Ac 1 5),oP 48 (Af 47),oP 49 (Bg .add 48 1),oP 50 (.call 163 [(.t 46),(.t 49),(cI 0)]),Aa 44 50,oP 51 (.ext (.t 44) 0),oP 52 (.ext (.t 44) 1),oP 10 Ej,oN (Bd 5 10 51),Aa 11 52] (Cl [oP 53 (Am 5 10),oI 54 1 (Ac 5 9),⟨(some 55),(Af 54),none,2,true,[]⟩,⟨none,(Bd 5 6 53),none,3,false,[2]⟩,oI 7 4 (mT 55)] .ret))) (.seq (Ab [oP 57 (As 18 3),Aa 56 57] (Ag 56 .skip (Bj [oP 58 (As 18 6),Aa 56 58]))) (Ag 56 (Ab [Aa 59 0,Aa 60 1,oP 61 (Am 5 5),oP 62 (.hcall 164 [(.t 59),(.t 60),(.t 61)])] (Ab [Aa 63 8,oP 64 (Bg .lss 63 1000),oP 65 (.call 137 [(.t 64)])] (Ab [Aa 66 8,oP 67 (.call 162 [(.t 66)]),Aa 68 8,oP 69 (Bg .add 68 1),oN (Bd 5 6 67),Aa 7 69] .ret))) (Ab [oP 71 (As 18 4),Aa 70 71] (Ag 70 (Cl [Aa 72 0,oI 73 1 (mT 0),oI 74 2 (mT 1),oI 75 3 (Am 5 5),⟨(some 76),(.hcall 164 [(.t 73),(.t 74),(.t 75)]),none,4,true,[]⟩,oI 77 5 (Ac 4 5),⟨(some 78),(Af 77),none,6,false,[4]⟩,⟨(some 79),(.iad 5 (.t 78) (cI 2)),none,7,false,[4]⟩,⟨(some 80),(Am 5 79),none,8,false,[4]⟩,oI 81 9 (Ac 4 5),⟨(some 82),(Af 81),none,10,false,[4]⟩,⟨(some 83),(.iad 5 (.t 82) (cI 1)),none,11,false,[4]⟩,⟨(some 84),(Am 5 83),none,12,false,[4]⟩,oI 85 13 (Ac 2 5),⟨(some 86),(Af 85),none,14,false,[4]⟩,⟨(some 87),(.hcall 165 [(.t 72),(.t 76),(.t 80),(.t 84),(.t 86)]),none,15,false,[15]⟩] (Ab [oP 88 (Am 5 5),oP 89 (.call 166 [(cI 3),(.t 88),(.c .nils)]),Aa 90 8,oN (Bd 5 6 89),Aa 7 90] .ret)) (Ab [oP 92 (As 18 5),Aa 91 92] (Ag 91 (Ab [Aa 93 0,Aa 94 1,oP 95 (Am 5 5),oP 96 (.hcall 164 [(.t 93),(.t 94),(.t 95)])] (Cl [Aa 97 0,oI 98 1 (mT 1),oI 99 2 (Ac 4 5),⟨(some 100),(Af 99),none,3,true,[]⟩,⟨(some 101),(.iad 5 (.t 100) (cI 2)),none,4,true,[]⟩,⟨(some 102),(Am 5 101),none,5,true,[]⟩,oI 103 6 (Am 5 5),⟨(some 104),(.call 166 [(cI 3),(.t 103),(.c .nils)]),none,7,false,[3,4,5]⟩,oI 105 8 (mT 8),⟨(some 106),(.hcall 165 [(.t 97),(.t 98),(.t 102),(.t 104),(.t 105)]),none,9,false,[9]⟩] (Cl [Aa 107 0,oI 108 1 (mT 1),oI 109 2 (Ac 4 5),oI 110 3 (Af 109),oI 111 4 (.iad 5 (.t 110) (cI 3)),oI 112 5 (Am 5 111),oI 113 6 (Ac 4 5),oI 114 7 (Af 113),oI 115 8 (.iad 5 (.t 114) (cI 0)),oI 116 9 (Am 5 115),oI 117 10 (Ac 1 5),oI 118 11 (Af 117),⟨(some 119),(.hcall 165 [(.t 107),(.t 108),(.t 112),(.t 116),(.t 118)]),none,12,false,[12]⟩] (Cl [oP 120 (Ac 4 5),oI 121 1 (Af 120),oI 122 2 (.iad 5 (.t 121) (cI 1)),oI 123 3 (Am 5 122),oI 124 4 (Ac 4 5),oI 125 5 (Af 124),oI 126 6 (.iad 5 (.t 125) (cI 3)),oI 127 7 (Am 5 126),⟨(some 128),(.call 167 [(.t 123),(.t 127)]),none,8,true,[]⟩,oI 129 9 (Ac 2 5),⟨(some 130),(Af 129),none,10,true,[8]⟩,⟨none,(Bd 5 6 128),none,11,false,[10]⟩,oI 7 12 (mT 130)] .ret)))) (Ab [oP 132 (As 18 7),Aa 131 132] (Ag 131 (Ab [Aa 133 0,Aa 134 1,oP 135 (Am 5 5),oP 136 (.hcall 164 [(.t 133),(.t 134),(.t 135)])] (Cl [Aa 137 0,oI 138 1 (mT 1),oI 139 2 (Ac 4 5),oI 140 3 (Af 139),oI 141 4 (.iad 5 (.t 140) (cI 2)),oI 142 5 (Am 5 141),oI 143 6 (Ac 4 5),oI 144 7 (Af 143),oI 145 8 (.iad 5 (.t 144) (cI 0)),oI 146 9 (Am 5 145),oI 147 10 (Ac 1 5),oI 148 11 (Af 147),⟨(some 149),(.hcall 165 [(.t 137),(.t 138),(.t 142),(.t 146),(.t 148)]),none,12,false,[12]⟩] (Cl [Aa 150 0,oI 151 1 (mT 1),oI 152 2 (Ac 4 5),⟨(some 153),(Af 152),none,3,true,[]⟩,⟨(some 154),(.iad 5 (.t 153) (cI 3)),none,4,true,[]⟩,⟨(some 155),(Am 5 154),none,5,true,[]⟩,oI 156 6 (Ac 4 5),oI 157 7 (Af 156),oI 158 8 (.iad 5 (.t 157) (cI 1)),oI 159 9 (Am 5 158),oI 160 10 (Ac 4 5),oI 161 11 (Af 160),oI 162 12 (.iad 5 (.t 161) (cI 2)),oI 163 13 (Am 5 162),⟨(some 164),(.call 167 [(.t 159),(.t 163)]),none,14,true,[3,4,5]⟩,oI 165 15 (Ac 2 5),⟨(some 166),(Af 165),none,16,false,[14]⟩,⟨(some 167),(.hcall 165 [(.t 150),(.t 151),(.t 155),(.t 164),(.t 166)]),none,17,false,[17]⟩] (Ab [oP 168 (Am 5 5),oP 169 (.call 166 [(cI 6),(.t 168),(.c .nils)]),Aa 170 8,oN (Bd 5 6 169),Aa 7 170] .ret)))) (Ab [oP 172 (As 18 8),Aa 171 172] (Ag 171 (Ab [Aa 173 0,Aa 174 1,oP 175 (Am 5 5),oP 176 (.hcall 164 [(.t 173),(.t 174),(.t 175)])] (Cl [Aa 177 0,oI 178 1 (mT 1),oI 179 2 (Ac 4 5),⟨(some 180),(Af 179),none,3,true,[]⟩,⟨(some 181),(.iad 5 (.t 180) (cI 2)),none,4,true,[]⟩,⟨(some 182),(Am 5 181),none,5,true,[]⟩,oI 183 6 (Am 5 5),⟨(some 184),(.call 166 [(cI 6),(.t 183),(.c .nils)]),none,7,false,[3,4,5]⟩,oI 185 8 (mT 8),⟨(some 186),(.hcall 165 [(.t 177),(.t 178),(.t 182),(.t 184),(.t 185)]),none,9,false,[9]⟩] (Cl [oP 187 (Ac 4 5),oI 188 1 (Af 187),oI 189 2 (.iad 5 (.t 188) (cI 0)),oI 190 3 (Am 5 189),oI 191 4 (Ac 1 5),⟨(some 192),(Af 191),none,5,true,[]⟩,⟨none,(Bd 5 6 190),none,6,false,[5]⟩,oI 7 7 (mT 192)] .ret))) (Ab [oP 194 (As 18 9),Aa 193 194] (Ag 193 (Ab [Aa 195 0,Aa 196 1,oP 197 (Am 5 5),oP 198 (.hcall 164 [(.t 195),(.t 196),(.t 197)])] (Cl [Aa 199 0,oI 200 1 (mT 1),oI 201 2 (Ac 4 5),⟨(some 202),(Af 201),none,3,true,[]⟩,⟨(some 203),(.iad 5 (.t 202) (cI 2)),none,4,true,[]⟩,⟨(some 204),(Am 5 203),none,5,true,[]⟩,oI 205 6 (Am 5 5),⟨(some 206),(.call 166 [(cI 6),(.t 205),(.c .nils)]),none,7,false,[3,4,5]⟩,oI 207 8 (mT 8),⟨(some 208),(.hcall 165 [(.t 199),(.t 200),(.t 204),(.t 206),(.t 207)]),none,9,false,[9]⟩] (Cl [oP 209 (Ac 4 5),⟨(some 210),(Af 209),none,1,true,[]⟩,⟨(some 211),(.iad 5 (.t 210) (cI 1)),none,2,true,[]⟩,⟨(some 212),(Am 5 211),none,3,true,[]⟩,⟨(some 213),(Am 5 5),none,4,true,[]⟩,oI 214 5 (Ac 4 5),oI 215 6 (Af 214),oI 216 7 (.iad 5 (.t 215) (cI 2)),oI 217 8 (Am 5 216),⟨(some 218),(.bslice 5 [(.t 217)]),none,9,true,[1,2,3,4]⟩,⟨(some 219),(.call 166 [(cI 8),(.t 213),(.t 218)]),none,10,true,[1,2,3]⟩,⟨(some 220),(.call 167 [(.t 212),(.t 219)]),none,11,true,[]⟩,oI 221 12 (Ac 2 5),⟨(some 222),(Af 221),none,13,true,[9,10,11]⟩,⟨none,(Bd 5 6 220),none,14,false,[13]⟩,oI 7 15 (mT 222)] .ret))) .skip)))))))))))))))))) (Ab [Aa 223 0,Aa 224 1,oP 225 (Am 5 5),oP 226 (.hcall 168 [(.t 223),(.t 224),(.t 225)]),oP 227 (.ext (.t 226) 0),oP 228 (.ext (.t 226) 1),oN (Bd 5 6 227),Aa 7 228] .ret))))⟩
def tr136:trF Tryz.prog Tryz.f136=some af136:=by kernel_rfl
attribute [go_sem] af136
open Go Go.RowKit Go.Proofs.YtgfehkhcmnfpaaaGreatDoor
def Agh{t:Tm}{w:Int}(h:Ek t w=true):Ek t 0=true:=by
 obtain⟨k,i,j,n,l⟩:=t;rw[Na] at h |-;rw[q_jl] at h |-;refine⟨?_,h.2⟩;have h1:=h.1;unfold Jp at h1 |-;rw[q_jl] at h1 |-;exact⟨rfl,h1.2⟩
def Ami(e:Tm×Nat):(Cs e)[5]?=some (.int .i64 e.2):=by obtain⟨⟨k,i,j,n,l⟩,m⟩:=e;rw[Cs,Bo];rfl
def Amk(e:Tm×Nat):pok 6 (Cs e)=True:=by
 obtain⟨⟨k,i,j,n,l⟩,m⟩:=e;rw[Cs,Bo];simp[pok,psz]
def Amj(e:Tm×Nat):(Cs e).take 5=tv e.1:=by obtain⟨⟨k,i,j,n,l⟩,m⟩:=e;rw[Cs,Bo];rfl
def Alr{cl:Bool}{c:Nat}{cells:List SV}:cut cl 6 true 5 c cells=.agg cl ((cells.drop c).take 5):=by simp[cut]
attribute [go_sem] Amk Px Ami Amj Alr
def Amh(C:List (Tm×Nat))(x:Nat)(hx:x<C.length):(C.map Cs)[x]?.getD []=Cs (C.getD x (zR,0)):=by
 rw[q_ji,q_f hx,q_j,q_f hx];rfl
def Acx(C:List (Tm×Nat))(hE:EnOK C)(hn:C.length<=4000):Con 19 [Hm C] (.bool true):=by
 cases C with
 |nil=>
  refine Cq mixed Tryz.func19 tr19 ?_;unfold Hm;simp only[go_sem,seval];refine Eo 1 (Bb ?_);simp only[go_sem,seval]
 |cons e0 es=>
 refine Cq mixed Tryz.func19 tr19 ?_;unfold Hm;dsimp only;have Da:=Amh (e0::es);have Bf:((e0::es).map Cs).length=(e0::es).length:=by simp
 generalize (e0::es).map Cs=rows at *
 generalize e0::es=C at *
 simp only[go_sem,seval];intros;refine Ni (fun x=>⟨(.J::.J::.bool false::.J::.J::.dsl 6 rows::.int .i64 rows.length::.int .i64 x::Fe (jk8 (jk2 ([])))),[]⟩) rows.length (fun x hx=>?_) ?_
 ·simp only[go_sem,seval];refine⟨fun h=>?_,fun h=>?_⟩
  ·have Az:=q_ks h;have Hh:x<rows.length:=by omega
   have hlx:x<C.length:=by omega
   have e0:(0:Int)<=(x:Int):=by omega
   have hr:=Da x hlx;obtain⟨g1,g2,g3,g4,g5⟩:=hE x hlx;generalize C.getD x (zR,0)=e at *
   have c1:=Rv e.1 g4;rw[show Ra e.1=true from g2] at c1;have c2:=Tx e.1 g4 (by omega);rw[show Ou e.1=Eu e.1 by unfold Ou;rw[if_pos (Agh g2)]] at c2;have hza:=Cg e.1;have a1:¬((e.2:Int)<0):=by omega
   have a2:¬(1000<(e.2:Int)):=by omega
   have a3:¬((x:Int)<Eu e.1):=by omega
   repeat' first
   |simp only[go_sem,seval,Az,e0,hr,hza,a1,a2,a3]
   |refine Aj c1 ?_
   |refine Aj c2 ?_
   refine⟨Hh,?_⟩;rw[w64 (n:=(x:Int)+1) (by unfold fit;omega)];exact Jr 0 (by simp[Ci]) rfl (by simp[Dt]) (by simp)
  ·have Jc:=q_kt h;simp only[go_sem,seval,h]
 ·exact Jr 0 (by simp[Ci]) rfl (by simp[Dt]) (by simp)
def Akh:Con 22 [.agg true z5,.agg true z5] (.bool true):=by
 refine Cq mixed Tryz.func22 tr22 ?_;unfold z5;simp only[go_sem,seval];refine Eo 1 (Bb ?_);simp only[go_sem,seval]
def Ty{t:Tm}{n w f:Nat}(h:GT n w f t)(hf:f<=100000):Con 21 [.agg true (tv t),.int .i64 n] (.bool true):=by
 obtain⟨h1,h2,h3,h4⟩:=h;have c2:=Tx t h3 (by omega);rw[show Ou t=Eu t by unfold Ou;rw[if_pos (Agh h1)]] at c2;have hz:=Cg t;have a3:¬((n:Int)<Eu t):=by omega
 refine Cq mixed Tryz.func21 tr21 ?_
 repeat' first
 |simp only[go_sem,seval,hz,a3]
 |refine Aj c2 ?_
 rw[q_jn h2]
def j0{x:XQ}(h:XOK x):Con 8 [.agg true (xqV x)] (.bool true):=by
 obtain⟨ctx,eq,i,a,u,b,v,hh⟩:=x;obtain⟨hc,hn,hi,ha,hu,hq⟩:=h;dsimp only at hc hn hi ha hu hq;have c0:=Acx ctx hc hn;have a1:=Rv a ha.2.2.1;rw[show Ra a=true from ha.1] at a1;have a2:=Ty ha (by omega);have u1:=Rv u hu.2.2.1;rw[show Ra u=true from hu.1] at u1;have u2:=Ty hu (by omega);have w0:=Akh;have i1:¬((i:Int)<0):=by omega
 have i2:¬(1000<(i:Int)):=by omega
 have hb:(ctx.length<=140737488355328)=True:=by simp;omega
 have ht:∀{P:Prop},(True->P)=P:=fun {P}=>by simp
 obtain⟨C,hC,hm⟩:∃C:SV,Hm ctx=C/\((C=.nils/\ctx.length=0)\/C=.dsl 6 (ctx.map Cs)):=by
  cases ctx with
   |nil=>exact⟨_,rfl,.inl ⟨rfl,rfl⟩⟩
   |cons e es=>exact⟨_,rfl,.inr rfl⟩
 unfold xqV;dsimp only;rw[hC] at c0 |-;cases eq
 ·clear hq hc ha hu hC;obtain⟨ka,ia,ja,na,la⟩:=a;obtain⟨ku,iu,ju,nu,lu⟩:=u;unfold z5 at w0 |-;simp only[q_kv,if_false];rw[Bo] at a1 a2 u1 u2 |-;rw[Bo];refine Cq mixed Tryz.func8 tr8 ?_;rcases hm with⟨rfl,hz⟩|rfl
  ·rw[hz] at a2 u2
   repeat' first
   |simp only[go_sem,seval,i1,i2,hb,ht,q_g]
   |refine Aj c0 ?_
   |refine Aj a1 ?_
   |refine Aj u1 ?_
   |refine Aj a2 ?_
   |refine Aj u2 ?_
   |refine Aj w0 ?_
  ·repeat' first
   |simp only[go_sem,seval,i1,i2,hb,ht,q_g]
   |refine Aj c0 ?_
   |refine Aj a1 ?_
   |refine Aj u1 ?_
   |refine Aj a2 ?_
   |refine Aj u2 ?_
   |refine Aj w0 ?_
 ·obtain⟨hqb,hqv,hqh⟩:=hq rfl;have b1:=Rv b hqb.2.2.1;rw[show Ra b=true from hqb.1] at b1;have b2:=Ty hqb (by omega);have v1:=Rv v hqv.2.2.1;rw[show Ra v=true from hqv.1] at v1;have v2:=Ty hqv (by omega);have h1:=g9 hh hqh.2.2.1;rw[show Ek hh 2=true from hqh.1] at h1;have h2:=Ty hqh (by omega);clear hq hc ha hu hC hqb hqv hqh;obtain⟨ka,ia,ja,na,la⟩:=a;obtain⟨ku,iu,ju,nu,lu⟩:=u;obtain⟨kb,ib,jb,nb,lb⟩:=b;obtain⟨kv,iv,jv,nv,lv⟩:=v;obtain⟨kh,ih,jh,nh,lh⟩:=hh;simp only[if_true];rw[Bo] at a1 a2 u1 u2 b1 b2 v1 v2 h1 h2 |-;rw[Bo,Bo,Bo,Bo];refine Cq mixed Tryz.func8 tr8 ?_;rcases hm with⟨rfl,hz⟩|rfl
  ·rw[hz] at a2 u2 b2 v2 h2
   repeat' first
   |simp only[go_sem,seval,i1,i2,hb,ht,q_g]
   |refine Aj c0 ?_
   |refine Aj a1 ?_
   |refine Aj u1 ?_
   |refine Aj a2 ?_
   |refine Aj u2 ?_
   |refine Aj b1 ?_
   |refine Aj v1 ?_
   |refine Aj h1 ?_
   |refine Aj b2 ?_
   |refine Aj v2 ?_
   |refine Aj h2 ?_
  ·repeat' first
   |simp only[go_sem,seval,i1,i2,hb,ht,q_g]
   |refine Aj c0 ?_
   |refine Aj a1 ?_
   |refine Aj u1 ?_
   |refine Aj a2 ?_
   |refine Aj u2 ?_
   |refine Aj b1 ?_
   |refine Aj v1 ?_
   |refine Aj h1 ?_
   |refine Aj b2 ?_
   |refine Aj v2 ?_
   |refine Aj h2 ?_
def Alj(i:Int):Con 98 [.agg true [.int .i64 1,.int .i64 i,.int .i64 0,.int .i64 0,.nils]] (.tup [.str (bs [115,111,114,116]),.int .i64 1]):=by
 refine Cq mixed Tryz.func98 tr98 ?_;simp only[go_sem,seval]
def MW(B:Nat)(w:World):Prop:=∃(m:Mem) (w0:World),w0.heap.size=B/\Gf m w0/\Below B w0 w
def Aa9{m:Mem}{w w':World}(h1:Gf m w)(hb:Below w.heap.size w w'):Gf m w':=by
 refine⟨fun b j v hv=>?_,fun b Cv=>?_,fun b Cv=>?_⟩
 ·have:=h1.1 b j v hv;rw[hb.cell (p:=⟨b,j,none⟩) (Td this)];exact this
 ·obtain⟨c,e,h⟩:=h1.2.1 b Cv;exact⟨c,e,(hb.block b (Array.getElem?_eq_some_iff.1 h).1).trans h⟩
 ·obtain⟨⟨e,f,h⟩,q⟩:=h1.2.2 b Cv;exact⟨⟨e,f,(hb.block b (Array.getElem?_eq_some_iff.1 h).1).trans h⟩,q⟩
def MW.ok{B:Nat}{w:World}(h:MW B w):∃m,Gf m w:=by
 obtain⟨m,w0,rfl,h1,h2⟩:=h;exact⟨m,Aa9 h1 h2⟩
def MW.step{B:Nat}{w w':World}(h:MW B w)(k:Below B w w'):MW B w':=by
 obtain⟨m,w0,h0,h1,h2⟩:=h;exact⟨m,w0,h0,h1,h2.trans k⟩
def Rs{f:Nat}{args:List SV}{r:SV}(hc:Con f args r){B:Nat}{w:World}(hw:MW B w)(vs:List Value)(hl:vs.length=args.length)(hr:∀m:Mem,∀(j:Nat) v x,vs[j]?=some v->args[j]?=some x->Rep m v x) :
  Calls Tryz.prog f vs.toArray w fun e w'=>(∃v m',e=.returned v/\Rep m' v r)/\Below w.heap.size w w':=by
 obtain⟨m,hm⟩:=hw.ok;refine Calls.mono (hc m w vs hm hl (hr m)) (fun e w' h=>?_);obtain⟨v,m',h1,h2,_,_,_,h3,h4,h5,h6,h7⟩:=h;exact⟨⟨v,m',h1,h2⟩,⟨h3,h4,h5,h6,h7⟩⟩
def keepB{T e:TypeId}{B b:Nat}{bs:List Value}{w w':World}(h:Lib.IsBuilderF T e B b bs w)(hb:Below w.heap.size w w'):Lib.IsBuilderF T e B b bs w':=by
 have key:∀p,Lib.BuilderAtF T e B b p bs w->Lib.BuilderAtF T e B b p bs w':=fun p hp=>by
  have Az:=hp.lt;obtain⟨hB,v,h1,h2,h3⟩:=hp;exact⟨hB,v,(hb.block b Az).trans h1,h2.kept (row:=none) ⟨hb.os,hb.tape,hb.output,hb.size,fun k hk _=>hb.block k hk⟩ (by cases v.ownBlock<;>simp),h3⟩
 exact h.imp (key _) (key _)
def Rm{B b:Nat}{l:By}{s:ByteArray}{w:World}(h:Lib.IsBuilderF 53 5 B b (Lib.byteCells l) w)(hl:l.length+s.size<=140737488355328)(hB:B<=w.heap.size) :
  Calls Tryz.prog 29 #[.pointer (some ⟨b,0,none⟩),.string s] w fun e w'=>e=.returned (.tuple #[.int .i64 s.size,.nilIface])/\Lib.IsBuilderF 53 5 B b (Lib.byteCells (l++s.data.toList)) w'/\Below B w w'/\Lib.OthersKept 5 (some b) w w':=by
 refine Calls.mono (Any.Builder_WriteString_k Tryz.sb166 Tryz.sbX B b _ s w h (by rw[Lib.byteCells_length];exact hl) hB) (fun e w' hh=>?_);obtain⟨h1,h2,h3,h4⟩:=hh;refine⟨h1,?_,h3,h4⟩;rw[Lib.byteCells_append,<-Lib.strCells_eq];exact Or.inr h2
def Aww{B b:Nat}{l:By}{c:UInt8}{w:World}(h:Lib.IsBuilderF 53 5 B b (Lib.byteCells l) w)(hl:l.length+1<=140737488355328)(hB:B<=w.heap.size) :
  Calls Tryz.prog 31 #[.pointer (some ⟨b,0,none⟩),.int .u8 c.toNat] w fun e w'=>e=.returned .nilIface/\Lib.IsBuilderF 53 5 B b (Lib.byteCells (l++[c])) w'/\Below B w w'/\Lib.OthersKept 5 (some b) w w':=by
 refine Calls.mono (Any.Builder_WriteByte_k Tryz.sb167 Tryz.sbX B b _ c.toNat w h (by rw[Lib.byteCells_length];exact hl) hB) (fun e w' hh=>?_);obtain⟨h1,h2,h3,h4⟩:=hh;refine⟨h1,?_,h3,h4⟩;rw[Lib.byteCells_append];exact Or.inr h2
def Ah4{B b:Nat}{l:By}{w:World}(h:Lib.IsBuilderF 53 5 B b (Lib.byteCells l) w)(hB:B<=w.heap.size) :
  Calls Tryz.prog 34 #[.pointer (some ⟨b,0,none⟩)] w fun e w'=>e=.returned (.string ⟨l.toArray⟩)/\Below B w w'/\Lib.OthersKept 5 (some b) w w':=by
 refine Calls.mono (Any.Builder_String_any_k Tryz.sb169 Tryz.sbX B b l w h hB) (fun e w' hh=>?_);obtain⟨h1,_,h3,h4⟩:=hh;exact⟨h1,h3,h4⟩
def Jq(i:Nat):By:=[40,115,111,114,116,32]++Lib.itoa (i:Nat)++[41]
def Lo(i:Nat):Value:=.agg #[.int .i64 1,.int .i64 i,.int .i64 0,.int .i64 0,.slice none 0 0]
def Aui{m:Mem}{i:Nat}:Rep m (Lo i) (.agg true [.int .i64 1,.int .i64 i,.int .i64 0,.int .i64 0,.nils]):=by
 refine .agg [.int .i64 1,.int .i64 i,.int .i64 0,.int .i64 0,.slice none 0 0] _ (by intro v hv;simp only[q_kb,q_kc,or_false] at hv;rcases hv with rfl|rfl|rfl|rfl|rfl<;>rfl) rfl (fun j v x h1 h2=>?_)
 match j,h1,h2 with
 |0,h1,h2=>cases h1;cases h2;exact .int _ _
 |1,h1,h2=>cases h1;cases h2;exact .int _ _
 |2,h1,h2=>cases h1;cases h2;exact .int _ _
 |3,h1,h2=>cases h1;cases h2;exact .int _ _
 |4,h1,h2=>cases h1;cases h2;exact .nils
 |j+5,h1,h2=>simp at h1
def Awv{B:Nat}{w:World}(hw:MW B w)(i:Nat):Calls Tryz.prog 98 #[Lo i] w fun e w'=>e=.returned (.tuple #[.string ⟨#[115,111,114,116]⟩,.int .i64 1])/\Below w.heap.size w w':=by
 refine Calls.mono (Rs (Alj i) hw [Lo i] rfl (fun m j v x h1 h2=>?_)) (fun e w' h=>?_)
 ·match j,h1,h2 with
  |0,h1,h2=>cases h1;cases h2;exact Aui
  |j+1,h1,h2=>simp at h1
 ·obtain⟨⟨v,m',h1,h2⟩,h3⟩:=h;refine⟨?_,h3⟩;rw[h1];generalize hz:SV.tup [.str (bs [115,111,114,116]),.int .i64 1]=z at h2;cases h2 with
  |tup vs l hl hr=>
   cases hz
   match vs,hl with
   |[a,b],_=>
    have ha:=hr 0 a _ rfl rfl;have hb:=hr 1 b _ rfl rfl;cases ha;cases hb;rfl
  |_=>cases hz
def Agy{B:Nat}{w:World}(hw:MW B w)(i:Nat)(hi:i<=1000000):Calls Tryz.prog 32 #[.int .i64 i] w fun e w'=>e=.returned (.string ⟨(Lib.itoa (i:Nat)).toArray⟩)/\Below w.heap.size w w':=by
 refine Calls.mono (Rs (i7 (n:=(i:Int)) ⟨by omega,by omega⟩) hw [.int .i64 i] rfl (fun m j v x h1 h2=>?_)) (fun e w' h=>?_)
 ·match j,h1,h2 with
  |0,h1,h2=>cases h1;cases h2;exact .int _ _
  |j+1,h1,h2=>simp at h1
 ·obtain⟨⟨v,m',h1,h2⟩,h3⟩:=h;refine⟨?_,h3⟩;rw[h1];cases h2;rfl
def Ai1{B:Nat}{w:World}(hw:MW B w):Calls Tryz.prog 99 #[.int .i64 1,.int .i64 1] w fun e w'=>e=.returned (.int .i64 0)/\Below w.heap.size w w':=by
 refine Calls.mono (Rs (Acv 1 1) hw [.int .i64 1,.int .i64 1] rfl (fun m j v x h1 h2=>?_)) (fun e w' h=>?_)
 ·match j,h1,h2 with
  |0,h1,h2=>cases h1;cases h2;exact .int _ _
  |1,h1,h2=>cases h1;cases h2;exact .int _ _
  |j+2,h1,h2=>simp at h1
 ·obtain⟨⟨v,m',h1,h2⟩,h3⟩:=h;refine⟨?_,h3⟩;rw[h1];cases h2;rfl
structure SS(B b tb:Nat)(cs:Array Value)(l:By)(w W:World):Prop where
 bd:Lib.IsBuilderF 53 5 B b (Lib.byteCells l) W
 mw:MW B W
 hB:B<=W.heap.size
 t:W.heap[tb]?=some (.cells cs 25 (0,0))
 ne:tb≠b
 be:Below B w W
section
variable{B b tb:Nat}{cs:Array Value}{l:By}{w W W':World}
def Kt{B C:Nat}{w w':World}(h:Below C w w')(hc:B<=C):Below B w w':=⟨h.os,h.tape,h.output,h.size,fun k hk=>h.block k (by omega)⟩
def SS.keep(h:SS B b tb cs l w W)(k:Below W.heap.size W W'):SS B b tb cs l w W':=
 ⟨keepB h.bd k,h.mw.step (Kt k h.hB),q_kn h.hB k.size,(k.block tb (Array.getElem?_eq_some_iff.1 h.t).1).trans h.t,h.ne,h.be.trans (Kt k h.hB)⟩
def SS.put{l':By}(h:SS B b tb cs l w W)(h2:Lib.IsBuilderF 53 5 B b (Lib.byteCells l') W')(k:Below B W W')(o:Lib.OthersKept 5 (some b) W W'):SS B b tb cs l' w W':=
 ⟨h2,h.mw.step k,q_kn h.hB k.size,o tb _ h.t (by intro e;exact h.ne (Option.some.inj e)) (fun c fz e=>by cases e),h.ne,h.be.trans k⟩
def SS.cell(h:SS B b tb cs l w W)(j:Nat):W.cell? ⟨tb,j,none⟩=cs[j]?:=Lib.cell_of_heap h.t j
end
def Awx{B b:Nat}{l:By}{i:Nat}{n:Int}{w:World}(h:Lib.IsBuilderF 53 5 B b (Lib.byteCells l) w)(hw:MW B w)(hB:B<=w.heap.size)(hl:l.length<=1000)(hi:i<=1000000) :
  Calls Tryz.prog 65 #[.pointer (some ⟨b,0,none⟩),Lo i,.int .i64 n] w fun e w'=>e=.returned (.tuple #[])/\Lib.IsBuilderF 53 5 B b (Lib.byteCells (l++Jq i)) w'/\Below B w w':=by
 have s0:SS B b w.heap.size #[.int .i64 1,.int .i64 i,.int .i64 0,.int .i64 0,.slice none 0 0] l w (w.alloc (.cells #[.int .i64 1,.int .i64 i,.int .i64 0,.int .i64 0,.slice none 0 0] 25)):=by
  have Az:b<w.heap.size:=by rcases h with h|h<;>exact h.lt
  have hb:Below B w (w.alloc (.cells #[.int .i64 1,.int .i64 i,.int .i64 0,.int .i64 0,.slice none 0 0] 25)):=(Below.refl _ w).alloc hB _;exact⟨h.alloc _,hw.step hb,q_kn hB hb.size,Array.getElem?_push_size,by omega,hb⟩
 have hil:=Aax i (by omega);have Em:¬(9223372036854775807<1+(Lib.itoa (i:Nat)).length):=by omega
 unfold Lo
 go_enter Tryz.func65,Tryz.ntmps65
 go_wp2_with (go_at_call 98;refine (Awv s0.mw i).mono ?_)
 generalize w.alloc (.cells #[.int .i64 1,.int .i64 i,.int .i64 0,.int .i64 0,.slice none 0 0] 25)=w0 at *
 generalize w.heap.size=tb at *
 rintro e W1 ⟨rfl,k1⟩;have s1:=s0.keep k1
 go_wp2_with (go_at_call 29;refine (Rm s1.bd (by show l.length+5<=_;omega) s1.hB).mono ?_)
 rintro e W2 ⟨rfl,b2,k2,o2⟩;have s2:=s1.put b2 k2 o2;have c2:=s2.cell 1
 go_wp2_with (go_at_call 32;refine (Agy s2.mw i hi).mono ?_)
 rintro e W3 ⟨rfl,k3⟩;have s3:=s2.keep k3;have c30:=s3.cell 0;have q3:(l++(({ data:=#[40] }:ByteArray)++{ data:=#[115,111,114,116] }).data.toList).length+(({ data:=#[32] }:ByteArray)++{ data:=(Lib.itoa (i:Nat)).toArray }).size<=140737488355328:=by
  rw[ByteArray.size_append];show _+(1+(Lib.itoa (i:Nat)).toArray.size)<=_;simp;omega
 go_wp2_with (go_at_call 29;refine (Rm s3.bd q3 s3.hB).mono ?_)
 rintro e W4 ⟨rfl,b4,k4,o4⟩;have s4:=s3.put b4 k4 o4;have c40:=s4.cell 0;have c44:=s4.cell 4
 go_wp2_with (go_at_call 99;refine (Ai1 s4.mw).mono ?_)
 rintro e W5 ⟨rfl,k5⟩;have s5:=s4.keep k5;have c54:=s5.cell 4
 go_wp2_with fail
 go_loopw [58] (fun i wr=>i=.int .i64 0/\wr=W5) (fun _ _=>0)
 case atStart=>exact⟨rfl,rfl⟩
 case round=>
  obtain⟨rfl,rfl⟩:=hrel;have q5:(l++(({ data:=#[40] }:ByteArray)++{ data:=#[115,111,114,116] }).data.toList++(({ data:=#[32] }:ByteArray)++{ data:=(Lib.itoa (i:Nat)).toArray }).data.toList).length+1<=140737488355328:=by
   simp;omega
  go_wp2_with (go_at_call 31;refine (Aww (c:=41) s5.bd q5 s5.hB).mono ?_)
  rintro e W6 ⟨rfl,b6,k6,o6⟩;have s6:=s5.put b6 k6 o6
  go_wp2
  go_end0
  refine⟨rfl,?_,s6.be⟩;have e:l++(({ data:=#[40] }:ByteArray)++{ data:=#[115,111,114,116] }).data.toList++(({ data:=#[32] }:ByteArray)++{ data:=(Lib.itoa (i:Nat)).toArray }).data.toList++[41]=l++Jq i:=by
   unfold Jq;simp
  rw[<-e];exact s6.bd
def Bn(i:Nat):Tm:=.mk 1 i 0 0 []
def Of{i:Nat}(hi:i<=1000):TOk (Bn i)/\Ek (Bn i) 0=true/\Ou (Bn i)=0/\Lx (Bn i)<=1000:=by
 have h1:=Pj hi;have h2:Ek (Bn i) 0=true:=by
  unfold Bn;rw[Na];unfold Jp Lk;rw[h1];rfl
 refine⟨.mk _ _ _ _ _ (by unfold fit;omega) (by unfold fit;omega) (by unfold fit;omega) (by unfold fit;omega) (by simp) (fun t ht=>by cases ht),h2,?_,?_⟩
 ·unfold Ou;rw[if_pos h2,Bn,Eu,if_neg (by decide),Mn]
 ·rw[Bn,Lx,Mt];omega
def Ag4{m:Mem}{i:Nat}:Rep m (Lo i) (.agg true (tv (Bn i))):=by
 unfold Bn;rw[Bo];refine .agg [.int .i64 1,.int .i64 i,.int .i64 0,.int .i64 0,.slice none 0 0] _ (by intro v hv;simp only[q_kb,q_kc,or_false] at hv;rcases hv with rfl|rfl|rfl|rfl|rfl<;>rfl) rfl (fun j v x h1 h2=>?_)
 match j,h1,h2 with
 |0,h1,h2=>cases h1;cases h2;exact .int _ _
 |1,h1,h2=>cases h1;cases h2;exact .int _ _
 |2,h1,h2=>cases h1;cases h2;exact .int _ _
 |3,h1,h2=>cases h1;cases h2;exact .int _ _
 |4,h1,h2=>cases h1;cases h2;exact .dsl0 _ _ _
 |j+5,h1,h2=>simp at h1
def Auo{B:Nat}{w:World}(hw:MW B w){i:Nat}(hi:i<=1000):Calls Tryz.prog 64 #[Lo i] w fun e w'=>e=.returned (.bool true)/\Below w.heap.size w w':=by
 obtain⟨h1,h2,h3,h4⟩:=Of hi;have hc:=j1 (Bn i) h1;rw[h2] at hc;refine Calls.mono (Rs hc hw [Lo i] rfl (fun m j v x h1 h2=>?_)) (fun e w' h=>?_)
 ·match j,h1,h2 with
  |0,h1,h2=>cases h1;cases h2;exact Ag4
  |j+1,h1,h2=>simp at h1
 ·obtain⟨⟨v,m',h1,h2⟩,h3⟩:=h;refine⟨?_,h3⟩;rw[h1];cases h2;rfl
def Aph{B:Nat}{w:World}(hw:MW B w){i:Nat}(hi:i<=1000):Calls Tryz.prog 55 #[Lo i] w fun e w'=>e=.returned (.int .i64 0)/\Below w.heap.size w w':=by
 obtain⟨h1,h2,h3,h4⟩:=Of hi;have hc:=Tx (Bn i) h1 (by omega);rw[h3] at hc;refine Calls.mono (Rs hc hw [Lo i] rfl (fun m j v x h1 h2=>?_)) (fun e w' h=>?_)
 ·match j,h1,h2 with
  |0,h1,h2=>cases h1;cases h2;exact Ag4
  |j+1,h1,h2=>simp at h1
 ·obtain⟨⟨v,m',h1,h2⟩,h3⟩:=h;refine⟨?_,h3⟩;rw[h1];cases h2;rfl
def MW.here{B:Nat}{w:World}(h:MW B w):MW w.heap.size w:=by
 obtain⟨m,hm⟩:=h.ok;exact⟨m,w,rfl,hm,Below.refl _ _⟩
def Wc{k:Nat}{o:Obj}{w w':World}(h:w.heap[k]?=some o)(hb:Below w.heap.size w w'):w'.heap[k]?=some o:=(hb.block k (Array.getElem?_eq_some_iff.1 h).1).trans h
def Ab8{i:Nat}{B:Nat}{w:World}(hw:MW B w)(hi:i<=1000) :
  Calls Tryz.prog 33 #[Lo i,.int .i64 0] w fun e w'=>e=.returned (.string ⟨(Jq i).toArray⟩)/\Below w.heap.size w w':=by
 have hw:=hw.here;have hb0:Below w.heap.size w (w.alloc (.cells #[.int .i64 1,.int .i64 i,.int .i64 0,.int .i64 0,.slice none 0 0] 25)):=(Below.refl _ w).alloc (q_ja _) _;have h0:(w.alloc (.cells #[.int .i64 1,.int .i64 i,.int .i64 0,.int .i64 0,.slice none 0 0] 25)).heap[w.heap.size]?=some (.cells #[.int .i64 1,.int .i64 i,.int .i64 0,.int .i64 0,.slice none 0 0] 25 (0,0)):=Array.getElem?_push_size;have hw0:=hw.step hb0;have Qa:w.heap.size<=(w.alloc (.cells #[.int .i64 1,.int .i64 i,.int .i64 0,.int .i64 0,.slice none 0 0] 25)).heap.size:=hb0.size;unfold Lo
 go_enter Tryz.func33,Tryz.ntmps33
 go_wp2_with (go_at_call 64;refine (Auo hw0 hi).mono ?_)
 generalize w.alloc (.cells #[.int .i64 1,.int .i64 i,.int .i64 0,.int .i64 0,.slice none 0 0] 25)=w0 at *
 generalize Vo:w.heap.size=tb at *
 rintro e W1 ⟨rfl,k1⟩;have h1:=Wc h0 k1;have hw1:=hw0.step (Kt k1 Qa);have b1:=hb0.trans (Kt k1 Qa);have d0:=Lib.cell_of_heap h1 0;have d1:=Lib.cell_of_heap h1 1;have d2:=Lib.cell_of_heap h1 2;have d3:=Lib.cell_of_heap h1 3;have d4:=Lib.cell_of_heap h1 4
 go_wp2_with (go_at_call 55;refine (Aph hw1 hi).mono ?_)
 rintro e W2 ⟨rfl,k2⟩;have Uj:=q_kn Qa k1.size;have h2:=Wc h1 k2;have hw2:=hw1.step (Kt k2 Uj);have b2:=b1.trans (Kt k2 Uj);have hB2:=q_kn Uj k2.size;clear d0 d1 d2 d3 d4;have f3:=Lib.IsBuilderF.of (Lib.fresh_isBuilder 53 5 W2);have k3:Below W2.heap.size W2 (W2.alloc (.cells #[.pointer none,.slice none 0 0] 53)):=(Below.refl _ W2).alloc (q_ja _) _;have h3:=Wc h2 k3;have hw3:=hw2.here.step k3;have hB3:=k3.size;have e0:=Lib.cell_of_heap h3 0;have e1:=Lib.cell_of_heap h3 1;have e2:=Lib.cell_of_heap h3 2;have e3:=Lib.cell_of_heap h3 3;have e4:=Lib.cell_of_heap h3 4
 go_wp2_with (go_at_call 65;refine (Awx (l:=[]) (i:=i) f3 hw3 hB3 (by decide) (by omega)).mono ?_)
 rintro e W4 ⟨rfl,f4,k4⟩
 go_wp2_with (go_at_call 34;refine (Ah4 f4 (q_kn hB3 k4.size)).mono ?_)
 rintro e W5 ⟨rfl,k5,_⟩
 go_wp2
 go_ret
 rw[Vo];exact⟨rfl,b2.trans (Kt (k3.trans (k4.trans k5)) hB2)⟩
def Ali{f:Nat}{args:List SV}{s:By}(h:∀(m:Mem) (w:World) (vs:List Value),Gf m w->vs.length=args.length->(∀(j:Nat) v x,vs[j]?=some v->args[j]?=some x->Rep m v x)->Calls Tryz.prog f vs.toArray w fun e w'=>e=.returned (.string ⟨s.toArray⟩)/\Below w.heap.size w w'):Con f args (.str (bs s)):=by
 intro m w vs h1 h2 h3;refine Calls.mono (h m w vs h1 h2 h3) (fun e w' he=>?_);obtain⟨rfl,hb⟩:=he;exact⟨_,m,rfl,.str _,⟨.refl m,rfl⟩,fun _ _ _=>rfl,Aa9 h1 hb,hb.os,hb.tape,hb.output,hb.size,fun j hj=>hb.block j hj⟩
def af67:AF:=⟨32,[(.cell 4 false 1)],(Ab [oP 4 (.new [(iS 0)])] (.seq (Ab [Aa 8 0,oP 9 (.call 19 [(.t 8)]),oP 10 (.un .not (.t 9))] (Ag 10 (Ab [oN (.store 1 (.t 4) (cI 1))] .ret) .skip)) (Ab [oP 11 (.mv (cB true)),oN (.un .not (.t 11)),oP 11 (.mv (.c .J))] (Ab [Aa 12 1,oP 13 (.build [(.float .f64 0)] [(0,(1,(.t 12)))]),oP 14 (.boxg (.t 13)),Aa 5 14] (.seq (Ab [Aa 15 0,oP 16 (.len false (.t 15)),oP 17 (.mv (cI 0))] (.blk 0 (.loop (Ab [oP 18 (Ch .lss 17 16)] (.seq (Ez 18 0) (.seq (.blk 1 (Ab [Aa 19 17,oP 20 (.iad 6 (.t 15) (.t 17)),oP 21 (Am 6 20),oP 7 (.new [(iS 0),(iS 0),(iS 0),(iS 0),.nils,(iS 0)]),Aa 6 19,oN (Bd 6 7 21)] (.reg [Aa 22 5,oI 23 1 (mT 0),oI 24 2 (mT 6),oI 25 3 (.slc 6 (.t 23) none (some (.t 24))),oI 26 4 (Ac 0 7),oI 27 5 (Am 5 26),oI 28 6 (Ac 5 7),oI 29 7 (Af 28),⟨(some 30),(.hcall 105 [(.t 22),(.t 25),(.t 27),(.t 29)]),none,8,false,[8]⟩] true))) (Bj [oP 31 (Bg .add 17 1),Aa 17 31]))))))) (Ab [oN (.store 1 (.t 4) (cI 0))] .ret))))))⟩
def tr67:Nc Tryz.prog Tryz.f67=some (af67,11,103,1):=by kernel_rfl
attribute [go_sem] af67
def af106:AF:=⟨40,[(.cell 6 true 5),(.cell 7 false 1),(.cell 8 false 1)],(Ab [oP 4 (.box (.t 1)),oP 6 Ej,oP 7 (.new [(iS 0)]),oP 8 (.new [(iS 0)])] (.seq (Ab [Aa 10 0,oP 11 (.call 19 [(.t 10)]),oP 12 (.un .not (.t 11)),Aa 13 12,oG 14 13 false 0 (Am 5 4),oG 15 13 false 0 (.call 20 [(.t 14)]),oG 16 13 false 0 (.un .not (.t 15)),oP 17 (Db 13 16),Aa 18 17,oG 19 18 false 0 (Am 5 4),oG 20 18 false 0 (.call 55 [(.t 19)]),oG 21 18 false 0 (mT 0),oG 22 18 false 0 (.len false (.t 21)),oG 23 18 false 0 (Ch .gtr 20 22),oP 24 (Db 18 23)] (Ag 24 (Ab [oP 25 (Hl []),oN (Bd 5 6 25),oN (.store 1 (.t 7) (cI 0)),oN (.store 1 (.t 8) (cI 1))] .ret) .skip)) (Ab [oP 26 (.mv (cB true)),oN (.un .not (.t 26)),oP 26 (.mv (.c .J))] (Ab [Aa 27 2,oP 28 (.build [(.float .f64 0)] [(0,(1,(.t 27)))]),oP 29 (.boxg (.t 28)),Aa 9 29] (Ab [Aa 31 9,Aa 32 0,oP 33 (Am 5 4),oP 34 (.hcall 136 [(.t 31),(.t 32),(.t 33)]),Aa 30 34,oP 35 (.ext (.t 30) 0),oP 36 (.ext (.t 30) 1),oN (Bd 5 6 35),oN (Bd 1 7 36)] (Cl [oP 37 (Am 5 6),⟨(some 38),(.call 141 [(.t 37)]),none,1,true,[]⟩,⟨(some 39),(Af 7),none,2,true,[1]⟩,⟨none,(Bd 5 6 38),none,3,false,[2]⟩,oJ 4 (Bd 1 7 39),oJ 5 (.store 1 (.t 8) (cI 0))] .ret))))))⟩
def tr106:Nc Tryz.prog Tryz.f106=some (af106,26,140,3):=by kernel_rfl
attribute [go_sem] af106
def af70:AF:=⟨32,[(.cell 4 false 1)],(Ab [oP 4 (.new [(iS 0)])] (.seq (Ab [Aa 9 0,oP 10 (.call 108 [(.t 9)]),oP 11 (.un .not (.t 10))] (Ag 11 (Ab [oN (.store 1 (.t 4) (cI 1))] .ret) .skip)) (Ab [oP 12 (.mv (cB true)),oN (.un .not (.t 12)),oP 12 (.mv (.c .J))] (Ab [Aa 13 1,oP 14 (.hcall 111 [(.t 13)]),Aa 5 14] (Ab [oP 6 (.mv (.c .nilp))] (.seq (Ab [Aa 15 0,oP 16 (.len false (.t 15)),oP 17 (.mv (cI 0))] (.blk 0 (.loop (Ab [oP 18 (Ch .lss 17 16)] (.seq (Ez 18 0) (.seq (.blk 1 (Ab [oP 19 (.iad 5 (.t 15) (.t 17)),oP 20 (Am 5 19),oP 8 Ej,oN (Bd 5 8 20)] (Ab [Aa 21 5,oP 22 (Am 5 8),Aa 23 6,oP 24 (.hcall 112 [(.t 21),(.t 22),(.t 23)])] (Bj [Aa 25 5,Aa 26 6,oP 27 (Am 5 8),Aa 28 6,oP 29 (.hcall 114 [(.t 27),(.t 28)]),oP 30 (.hcall 113 [(.t 25),(.t 26),(.t 29)]),Aa 6 30])))) (Bj [oP 31 (Bg .add 17 1),Aa 17 31]))))))) (Ab [oN (.store 1 (.t 4) (cI 0))] .ret)))))))⟩
def tr70:Nc Tryz.prog Tryz.f70=some (af70,12,109,1):=by kernel_rfl
attribute [go_sem] af70
def af72:AF:=⟨43,[(.cell 8 false 1)],(Ab [oP 5 (.box (.t 1)),oP 6 (.box (.t 2)),oP 8 (.new [(iS 0)])] (.seq (Ab [Aa 11 0,oP 12 (.call 108 [(.t 11)]),oP 13 (.un .not (.t 12)),Aa 14 13,oG 15 14 false 0 (mT 0),oG 16 14 false 0 (Am 5 5),oG 17 14 false 0 (.call 115 [(.t 15),(.t 16)]),oG 18 14 false 0 (.un .not (.t 17)),oP 19 (Db 14 18),Aa 20 19,oG 21 20 false 0 (mT 0),oG 22 20 false 0 (Am 5 6),oG 23 20 false 0 (.call 115 [(.t 21),(.t 22)]),oG 24 20 false 0 (.un .not (.t 23)),oP 25 (Db 20 24)] (Ag 25 (Ab [oN (.store 1 (.t 8) (cI 1))] .ret) .skip)) (Ab [oP 26 (.mv (cB true)),oN (.un .not (.t 26)),oP 26 (.mv (.c .J))] (Ab [Aa 27 3,oP 28 (.hcall 111 [(.t 27)]),Aa 9 28] (Ab [Aa 29 9,Aa 30 0,oP 31 (.hcall 117 [(.t 29),(.t 30)]),Aa 10 31] (Ab [Aa 32 9,oP 33 (Am 5 6),Aa 34 10,oP 35 (.hcall 112 [(.t 32),(.t 33),(.t 34)])] (Cl [Aa 36 9,⟨(some 37),(Am 5 5),none,1,true,[]⟩,oI 38 2 (mT 10),oI 39 3 (Am 5 6),oI 40 4 (mT 10),⟨(some 41),(.hcall 114 [(.t 39),(.t 40)]),none,5,false,[1,5]⟩,⟨(some 42),(.hcall 118 [(.t 36),(.t 37),(.t 38),(.t 41)]),none,6,false,[6]⟩] (Ab [oN (.store 1 (.t 8) (cI 0))] .ret))))))))⟩
def tr72:Nc Tryz.prog Tryz.f72=some (af72,26,116,1):=by kernel_rfl
attribute [go_sem] af72
def Aq4(cap:Array Value)(w:World):(invoke (.fn (.func 103) cap) #[]).run Tryz.prog w=.ok (.enter 103 cap) w:=by
 simp[go_sem]
def Aq5(cap:Array Value)(w:World):(invoke (.fn (.func 140) cap) #[]).run Tryz.prog w=.ok (.enter 140 cap) w:=by
 simp[go_sem]
def Au9{i:Nat}(hi:i<=1000):Ek (Bn i) 1=true:=by
 have h1:=Pj hi;unfold Bn;rw[Na];unfold Jp Lk;rw[h1];rfl
def Ahj{i:Nat}(hi:i<=1000):Ek (Bn i) 2=true:=by
 have h1:=Pj hi;unfold Bn;rw[Na];unfold Jp Lk;rw[h1];rfl
def e8:Con 19 [.nils] (.bool true):=Acx [] (fun k hk=>absurd hk (by simp)) (by simp)
def Aks:Con 67 [.nils,.float .f64 4621256167635550208] (.int .i64 0):=by
 refine Tz mixed Tryz.func67 tr67 Aq4 Nrm.idle_mctx (fun x hx=>?_) (.int _ _) ?_
 ·simp only[q_kb,q_kc,or_false] at hx;rcases hx with rfl|rfl
  ·exact .nils
  ·exact .float _ _
 repeat' first
 |simp only[go_sem,seval]
 |refine Aj e8 ?_
 |refine Eo 1 (Bb ?_)
def Aqi{i:Nat}(hi:i<=900):Cp 136 [[.float .f64 4621256167635550208]] [.gp 0 0,.nils,.agg true (tv (Bn i))] (.ret (.tup [.agg true (tv (Bn (i+1))),.int .i64 ((i+2:Nat):Int)])) [[.float .f64 4621256167635550208]]:=by
 have hs:=Ac7 ((i:Int)+1);unfold Bn at *
 rw[show ((i:Int)+1)=((i+1:Nat):Int) by omega] at hs;rw[Bo,Bo] at *
 have e1:IntKind.i64.wrap ((i:Int)+2)=((i+2:Nat):Int):=by rw[w64 (n:=(i:Int)+2) (by unfold fit;omega)];omega
 have e2:IntKind.i64.wrap ((i:Int)+1)=((i+1:Nat):Int):=by rw[w64 (n:=(i:Int)+1) (by unfold fit;omega)];omega
 have e3:(((i+2:Nat):Int)<=1000)=True:=by simp;omega
 refine Ca mixed Tryz.func136 tr136 ?_
 repeat' first
 |simp only[go_sem,seval,e1,e2,e3,q_i]
 |refine Aj Ala ?_
 |refine Aj hs ?_
def Akt{i:Nat}(hi:i<=900):Con 106 [.nils,.agg true (tv (Bn i)),.float .f64 4621256167635550208] (.tup [.agg true (tv (Bn (i+1))),.int .i64 ((i+2:Nat):Int),.int .i64 0]):=by
 have o:=Of (i:=i) (by omega);have o1:=Of (i:=i+1) (by omega);refine Tz mixed Tryz.func106 tr106 Aq5 Nrm.idle_mtype (fun x hx=>?_) (.tup _ (fun x hx=>?_)) ?_
 ·simp only[q_kb,q_kc,or_false] at hx;rcases hx with rfl|rfl|rfl
  ·exact .nils
  ·exact Od _ true
  ·exact .float _ _
 ·simp only[q_kb,q_kc,or_false] at hx;rcases hx with rfl|rfl|rfl
  ·exact Od _ true
  ·exact .int _ _
  ·exact .int _ _
 have c1:=Rv (Bn i) o.1;have c2:=Tx (Bn i) o.1 (by omega);rw[o.2.2.1] at c2;have c3:=Acw (Bn (i+1)) o1.1;have c4:=Aqi hi;rw[show Ra (Bn i)=true from Au9 (by omega)] at c1;have h5:=Cg (Bn i);have h6:=Cg (Bn (i+1));generalize tv (Bn i)=r1 at *
 generalize tv (Bn (i+1))=r2 at *
 repeat' first
 |simp only[go_sem,seval,h5,h6]
 |refine Aj e8 ?_
 |refine Aj c1 ?_
 |refine Aj c2 ?_
 |refine Ad c4 ?_
 |refine Aj c3 ?_
def af108:AF:=⟨22,[(.t 2)],(Ab [oP 2 (.mv (cB false))] (.seq (Ab [Aa 5 0,oP 6 (.len false (.t 5)),oP 7 (.mv (cI 0))] (.blk 0 (.loop (Ab [oP 8 (Ch .lss 7 6)] (.seq (Ez 8 0) (.seq (.blk 1 (Ab [Aa 9 7,oP 10 (.iad 5 (.t 5) (.t 7)),oP 11 (Am 5 10),oP 4 Ej,Aa 3 9,oN (Bd 5 4 11)] (Ab [oP 12 (Am 5 4),oP 13 (.call 23 [(.t 12)]),oP 14 (.un .not (.t 13)),Aa 15 14,oG 16 15 false 0 (Am 5 4),oG 17 15 false 0 (.call 55 [(.t 16)]),oG 18 15 false 0 (mT 3),oG 19 15 false 0 (Ch .gtr 17 18),oP 20 (Db 15 19)] (Ag 20 (Ab [oP 2 (.mv (cB false))] .ret) .skip)))) (Bj [oP 21 (Bg .add 7 1),Aa 7 21]))))))) (Ab [oP 2 (.mv (cB true))] .ret)))⟩
def tr108:trF Tryz.prog Tryz.f108=some af108:=by kernel_rfl
attribute [go_sem] af108
def af115:AF:=⟨14,[(.t 4)],(Ab [oP 3 (.box (.t 1)),oP 4 (.mv (cB false))] (Ab [oP 5 (Am 5 3),oP 6 (.call 23 [(.t 5)]),Aa 7 6,oG 8 7 true 0 (Am 5 3),oG 9 7 true 0 (.call 55 [(.t 8)]),oG 10 7 true 0 (mT 0),oG 11 7 true 0 (.len false (.t 10)),oG 12 7 true 0 (Ch .leq 9 11),oP 13 (Cf 7 12),Aa 4 13] .ret))⟩
def tr115:trF Tryz.prog Tryz.f115=some af115:=by kernel_rfl
attribute [go_sem] af115
def af111:AF:=⟨11,[(.t 2)],(Ab [oP 2 (.mv (.c .nilp))] (Ab [Aa 4 0,oP 5 (.call 143 [(.t 4)]),Aa 3 5] (Ab [Aa 6 3,oP 7 (.hcall 144 [(.t 6)]),Aa 8 3,oP 9 (.build [.nilp,(iS 0),.nils] [(0,(1,(.t 7))),(1,(1,(.t 8)))]),oP 10 (.boxg (.t 9)),Aa 2 10] .ret)))⟩
def tr111:trF Tryz.prog Tryz.f111=some af111:=by kernel_rfl
attribute [go_sem] af111
def af178:AF:=⟨6,[(.t 2)],(Ab [oP 2 (.mv (.c .nilp))] (Ab [Aa 3 0,oP 4 (.call 162 [(.t 3)]),oP 5 (.hcall 114 [(.t 4),(.c .nilp)]),Aa 2 5] .ret))⟩
def tr178:trF Tryz.prog Tryz.f178=some af178:=by kernel_rfl
attribute [go_sem] af178
def af148:AF:=⟨6,[],(Ab [Aa 2 0,oP 3 (.un .not (.t 2))] (Ag 3 (Bj [oP 4 (.build [] []),oP 5 (.ifc 160 (.t 4)),oN (.pan (.t 5))]) .skip))⟩
def tr148:trF Tryz.prog Tryz.f148=some af148:=by kernel_rfl
attribute [go_sem] af148
def af112:AF:=⟨24,[(.t 6)],(Ab [oP 4 (.box (.t 1)),oP 6 (.mv (cI 0))] (Ab [Aa 8 0,Aa 9 0,oP 10 (Am 5 4),Aa 11 2,oP 12 (.hcall 147 [(.t 9),(.t 10),(.t 11)]),oP 13 (.hcall 146 [(.t 8),(.t 12)]),Aa 7 13] (Ab [Aa 14 7,oP 15 (Al 14),oP 16 (Ac 0 15),oP 17 (Af 16),oP 18 (As 17 1),oP 19 (.call 148 [(.t 18)])] (Ab [Aa 20 7,oP 21 (Al 20),oP 22 (Ac 1 21),oP 23 (Af 22),Aa 6 23] .ret))))⟩
def tr112:trF Tryz.prog Tryz.f112=some af112:=by kernel_rfl
attribute [go_sem] af112
def af146:AF:=⟨20,[(.t 4)],(Ab [oP 4 (.mv (.c .nilp))] (Cl [Aa 5 0,oI 6 1 (Al 5),oI 7 2 (Ac 0 6),oI 8 3 (Af 7),oI 9 4 (mT 0),oI 10 5 (Al 9),oI 11 6 (Ac 1 10),oI 12 7 (Af 11),⟨(some 13),(.hcall 175 [(.t 8),(.t 12)]),none,8,false,[8]⟩] (Ab [Aa 14 0,oP 15 (Al 14),oP 16 (Ac 0 15),oP 17 (Af 16),Aa 18 1,oP 19 (.hcall 172 [(.t 17),(.t 18)]),Aa 4 19] .ret)))⟩
def tr146:trF Tryz.prog Tryz.f146=some af146:=by kernel_rfl
attribute [go_sem] af146
def af147:AF:=⟨316,[(.t 6)],(Ab [oP 4 (.box (.t 1)),oP 6 (.mv (.c .nilp))] (.seq (Ab [oP 15 (Ac 0 4),oP 16 (Af 15)] (.blk 0 (Ab [oP 18 (As 16 1),Aa 17 18] (Ag 17 (Ab [oP 19 (Ac 1 4),oP 20 (Af 19),oP 21 (Bg .lss 20 1000),oP 22 (.call 148 [(.t 21)])] (Ab [oP 23 (Ac 1 4),oP 24 (Af 23),oP 25 (Bg .add 24 1),oP 26 (.hcall 178 [(.t 25)]),Aa 6 26] .ret)) (Ab [oP 28 (As 16 2),Aa 27 28] (Ag 27 (Cl [Aa 29 0,oI 30 1 (Al 29),oI 31 2 (Ac 2 30),⟨(some 32),(Af 31),none,3,true,[]⟩,oI 33 4 (mT 0),⟨(some 34),(.hcall 151 [(.t 33)]),none,5,true,[3]⟩,oI 35 6 (Bg .sub 34 1),oI 36 7 (Ac 1 4),⟨(some 37),(Af 36),none,8,false,[5]⟩,oI 38 9 (Ch .sub 35 37),oI 39 10 (.iad 1 (.t 32) (.t 38)),oI 40 11 (Af 39),oI 6 12 (mT 40)] .ret) (.seq (Ab [oP 42 (As 16 13),Aa 41 42] (Ag 41 .skip (Bj [oP 43 (As 16 16),Aa 41 43]))) (Ag 41 (Ab [Aa 45 0,oP 46 (Am 5 4),Aa 47 2,oP 48 (.hcall 179 [(.t 45),(.t 46),(.t 47)]),Aa 44 48,oP 49 (.ext (.t 44) 0),oP 50 (.ext (.t 44) 1),Aa 7 49,Aa 8 50] (Ab [Aa 51 7,Aa 52 8,oP 53 (.mnx true (.t 51) (.t 52)),oP 54 (.hcall 178 [(.t 53)]),Aa 6 54] .ret)) (Ab [oP 56 (As 16 14),Aa 55 56] (Ag 55 (Ab [oP 57 (Ac 4 4),oP 58 (Af 57),oP 59 (.iad 5 (.t 58) (cI 0)),oP 60 (Am 5 59),Aa 61 2,oP 62 (.hcall 114 [(.t 60),(.t 61)]),Aa 9 62] (Ab [Aa 63 0,oP 64 (Ac 4 4),oP 65 (Af 64),oP 66 (.iad 5 (.t 65) (cI 0)),oP 67 (Am 5 66),Aa 68 2,oP 69 (.hcall 112 [(.t 63),(.t 67),(.t 68)])] (Cl [Aa 70 0,oI 71 1 (Ac 4 4),⟨(some 72),(Af 71),none,2,true,[]⟩,⟨(some 73),(.iad 5 (.t 72) (cI 1)),none,3,true,[]⟩,⟨(some 74),(Am 5 73),none,4,true,[]⟩,oI 75 5 (mT 0),oI 76 6 (mT 2),oI 77 7 (mT 9),⟨(some 78),(.hcall 113 [(.t 75),(.t 76),(.t 77)]),none,8,false,[2,3,4,8]⟩,⟨(some 79),(.hcall 147 [(.t 70),(.t 74),(.t 78)]),none,9,false,[9]⟩,oI 10 10 (mT 79)] (Cl [Aa 80 0,oI 81 1 (Al 80),oI 82 2 (Ac 0 81),oI 83 3 (Af 82),oI 84 4 (mT 0),oI 85 5 (Al 84),oI 86 6 (Ac 1 85),oI 87 7 (Af 86),⟨(some 88),(.hcall 175 [(.t 83),(.t 87)]),none,8,false,[8]⟩] (Cl [Aa 89 0,oI 90 1 (Al 89),oI 91 2 (Ac 0 90),⟨(some 92),(Af 91),none,3,true,[]⟩,oI 93 4 (mT 10),oI 94 5 (mT 0),⟨(some 95),(.hcall 151 [(.t 94)]),none,6,true,[3]⟩,⟨(some 96),(.hcall 180 [(.t 92),(.t 93),(.t 95)]),none,7,true,[]⟩,⟨(some 11),Ej,none,8,false,[3,6,7]⟩,oJ 9 (Bd 5 11 96)] (Ab [Aa 97 0,oP 98 (.hcall 154 [(.t 97),(cI 1)])] (Ab [Aa 99 9,oP 100 (Am 5 11),Aa 101 2,oP 102 (.hcall 114 [(.t 100),(.t 101)]),oP 103 (.bslice 1 [(.t 99),(.t 102)]),oP 104 (.build [(iS 0),(iS 0),(iS 0),(iS 0),(iS 0),.nils] [(0,(1,(cI 13))),(5,(1,(.t 103)))]),oP 105 (.box (.t 104)),oP 106 (.hcall 181 [(.t 105)]),Aa 6 106] .ret))))))) (Ab [oP 108 (As 16 15),Aa 107 108] (Ag 107 (Ab [Aa 109 0,oP 110 (Ac 4 4),oP 111 (Af 110),oP 112 (.iad 5 (.t 111) (cI 0)),oP 113 (Am 5 112),Aa 114 2,oP 115 (.hcall 182 [(.t 109),(.t 113),(.t 114),(cI 13)]),Aa 12 115] (Cl [Aa 116 0,oI 117 1 (Ac 4 4),oI 118 2 (Af 117),oI 119 3 (.iad 5 (.t 118) (cI 1)),oI 120 4 (Am 5 119),oI 121 5 (mT 2),oI 122 6 (mT 12),oI 123 7 (Al 122),oI 124 8 (Ac 5 123),oI 125 9 (Af 124),oI 126 10 (.iad 1 (.t 125) (cI 0)),oI 127 11 (Af 126),⟨(some 128),(.hcall 118 [(.t 116),(.t 120),(.t 121),(.t 127)]),none,12,false,[12]⟩] (Cl [Aa 129 12,oI 130 1 (Al 129),oI 131 2 (Ac 5 130),⟨(some 132),(Af 131),none,3,true,[]⟩,⟨(some 133),(.iad 1 (.t 132) (cI 1)),none,4,true,[]⟩,⟨(some 134),(Af 133),none,5,true,[]⟩,oI 135 6 (Ac 4 4),oI 136 7 (Af 135),oI 137 8 (.iad 5 (.t 136) (cI 1)),oI 138 9 (Am 5 137),oI 139 10 (mT 2),⟨(some 140),(.hcall 114 [(.t 138),(.t 139)]),none,11,false,[3,4,5,11]⟩,⟨(some 141),(.hcall 153 [(.t 134),(.t 140)]),none,12,false,[12]⟩,oI 6 13 (mT 141)] .ret))) (Ab [oP 143 (As 16 17),Aa 142 143] (Ag 142 (Ab [Aa 144 0,oP 145 (Am 5 4),Aa 146 2,oP 147 (.hcall 179 [(.t 144),(.t 145),(.t 146)])] (Cl [Aa 148 0,oI 149 1 (Ac 4 4),⟨(some 150),(Af 149),none,2,true,[]⟩,⟨(some 151),(.iad 5 (.t 150) (cI 2)),none,3,true,[]⟩,⟨(some 152),(Am 5 151),none,4,true,[]⟩,oI 153 5 (mT 2),oI 154 6 (Ac 4 4),oI 155 7 (Af 154),oI 156 8 (.iad 5 (.t 155) (cI 0)),oI 157 9 (Am 5 156),oI 158 10 (mT 2),⟨(some 159),(.hcall 114 [(.t 157),(.t 158)]),none,11,false,[2,3,4,11]⟩,⟨(some 160),(.hcall 118 [(.t 148),(.t 152),(.t 153),(.t 159)]),none,12,false,[12]⟩] (Cl [Aa 161 0,oI 162 1 (Ac 4 4),⟨(some 163),(Af 162),none,2,true,[]⟩,⟨(some 164),(.iad 5 (.t 163) (cI 3)),none,3,true,[]⟩,⟨(some 165),(Am 5 164),none,4,true,[]⟩,oI 166 5 (mT 2),oI 167 6 (Ac 4 4),⟨(some 168),(Af 167),none,7,true,[]⟩,⟨(some 169),(.iad 5 (.t 168) (cI 1)),none,8,true,[]⟩,⟨(some 170),(Am 5 169),none,9,true,[]⟩,oI 171 10 (mT 2),oI 172 11 (Ac 4 4),oI 173 12 (Af 172),oI 174 13 (.iad 5 (.t 173) (cI 2)),oI 175 14 (Am 5 174),oI 176 15 (mT 2),⟨(some 177),(.hcall 114 [(.t 175),(.t 176)]),none,16,false,[2,3,4,7,8,9,16]⟩,⟨(some 178),(.call 149 [(.t 171),(.t 177)]),none,17,false,[2,3,4,7,8,9]⟩,⟨(some 179),(.hcall 114 [(.t 170),(.t 178)]),none,18,false,[2,3,4,18]⟩,⟨(some 180),(.hcall 118 [(.t 161),(.t 165),(.t 166),(.t 179)]),none,19,false,[19]⟩] (Cl [oP 181 (Ac 4 4),oI 182 1 (Af 181),oI 183 2 (.iad 5 (.t 182) (cI 0)),oI 184 3 (Am 5 183),oI 185 4 (Ac 4 4),oI 186 5 (Af 185),oI 187 6 (.iad 5 (.t 186) (cI 1)),oI 188 7 (Am 5 187),oI 189 8 (.bslice 5 [(.t 184),(.t 188)]),oI 190 9 (.call 74 [(cI 16),(cI 0),(cI 0),(cI 0),(.t 189)]),oI 191 10 (mT 2),⟨(some 192),(.hcall 114 [(.t 190),(.t 191)]),none,11,false,[11]⟩,oI 6 12 (mT 192)] .ret)))) (Ab [oP 194 (As 16 18),Aa 193 194] (Ag 193 (Ab [Aa 195 0,oP 196 (Ac 4 4),oP 197 (Af 196),oP 198 (.iad 5 (.t 197) (cI 0)),oP 199 (Am 5 198),Aa 200 2,oP 201 (.hcall 182 [(.t 195),(.t 199),(.t 200),(cI 16)]),oP 202 (Al 201),oP 203 (Ac 5 202),oP 204 (Af 203),oP 205 (.iad 1 (.t 204) (cI 0)),oP 206 (Af 205),Aa 6 206] .ret) (Ab [oP 208 (As 16 19),Aa 207 208] (Ag 207 (Ab [Aa 209 0,oP 210 (Ac 4 4),oP 211 (Af 210),oP 212 (.iad 5 (.t 211) (cI 0)),oP 213 (Am 5 212),Aa 214 2,oP 215 (.hcall 182 [(.t 209),(.t 213),(.t 214),(cI 16)]),Aa 13 215] (Cl [Aa 216 13,oI 217 1 (Al 216),oI 218 2 (Ac 5 217),⟨(some 219),(Af 218),none,3,true,[]⟩,⟨(some 220),(.iad 1 (.t 219) (cI 1)),none,4,true,[]⟩,⟨(some 221),(Af 220),none,5,true,[]⟩,oI 222 6 (Ac 4 4),oI 223 7 (Af 222),oI 224 8 (.iad 5 (.t 223) (cI 0)),oI 225 9 (Am 5 224),⟨(some 226),(.bslice 5 [(.t 225)]),none,10,false,[3,4,5]⟩,⟨(some 227),(.call 74 [(cI 18),(cI 0),(cI 0),(cI 0),(.t 226)]),none,11,false,[3,4,5]⟩,oI 228 12 (mT 2),⟨(some 229),(.hcall 114 [(.t 227),(.t 228)]),none,13,false,[3,4,5,13]⟩,⟨(some 230),(.hcall 153 [(.t 221),(.t 229)]),none,14,false,[14]⟩,oI 6 15 (mT 230)] .ret)) (Ab [oP 232 (As 16 20),Aa 231 232] (Ag 231 (Ab [Aa 233 0,oP 234 (Ac 4 4),oP 235 (Af 234),oP 236 (.iad 5 (.t 235) (cI 0)),oP 237 (Am 5 236),Aa 238 2,oP 239 (.hcall 112 [(.t 233),(.t 237),(.t 238)]),Aa 14 239] (Cl [Aa 240 0,oI 241 1 (Ac 4 4),⟨(some 242),(Af 241),none,2,true,[]⟩,⟨(some 243),(.iad 5 (.t 242) (cI 1)),none,3,true,[]⟩,⟨(some 244),(Am 5 243),none,4,true,[]⟩,oI 245 5 (mT 2),oI 246 6 (Ac 4 4),oI 247 7 (Af 246),oI 248 8 (.iad 5 (.t 247) (cI 0)),oI 249 9 (Am 5 248),oI 250 10 (mT 2),⟨(some 251),(.hcall 114 [(.t 249),(.t 250)]),none,11,false,[2,3,4,11]⟩,⟨(some 252),(.hcall 118 [(.t 240),(.t 244),(.t 245),(.t 251)]),none,12,false,[12]⟩] (Cl [Aa 253 0,oI 254 1 (Ac 4 4),⟨(some 255),(Af 254),none,2,true,[]⟩,⟨(some 256),(.iad 5 (.t 255) (cI 2)),none,3,true,[]⟩,⟨(some 257),(Am 5 256),none,4,true,[]⟩,oI 258 5 (mT 2),oI 259 6 (Ac 4 4),oI 260 7 (Af 259),oI 261 8 (.iad 5 (.t 260) (cI 0)),oI 262 9 (Am 5 261),oI 263 10 (mT 2),⟨(some 264),(.hcall 114 [(.t 262),(.t 263)]),none,11,false,[2,3,4,11]⟩,⟨(some 265),(.hcall 118 [(.t 253),(.t 257),(.t 258),(.t 264)]),none,12,false,[12]⟩] (Ab [Aa 266 14,oP 267 (.hcall 178 [(.t 266)]),Aa 6 267] .ret)))) (Ab [oP 269 (As 16 21),Aa 268 269] (Ag 268 (Ab [Aa 270 0,oP 271 (Ac 4 4),oP 272 (Af 271),oP 273 (.iad 5 (.t 272) (cI 0)),oP 274 (Am 5 273),Aa 275 2,oP 276 (.hcall 112 [(.t 270),(.t 274),(.t 275)])] (Cl [Aa 277 0,oI 278 1 (Ac 4 4),⟨(some 279),(Af 278),none,2,true,[]⟩,⟨(some 280),(.iad 5 (.t 279) (cI 1)),none,3,true,[]⟩,⟨(some 281),(Am 5 280),none,4,true,[]⟩,oI 282 5 (mT 2),oI 283 6 (Ac 4 4),oI 284 7 (Af 283),oI 285 8 (.iad 5 (.t 284) (cI 0)),oI 286 9 (Am 5 285),oI 287 10 (mT 2),⟨(some 288),(.hcall 114 [(.t 286),(.t 287)]),none,11,false,[2,3,4,11]⟩,⟨(some 289),(.hcall 118 [(.t 277),(.t 281),(.t 282),(.t 288)]),none,12,false,[12]⟩] (Cl [oP 290 (Ac 4 4),oI 291 1 (Af 290),oI 292 2 (.iad 5 (.t 291) (cI 0)),oI 293 3 (Am 5 292),oI 294 4 (Ac 4 4),oI 295 5 (Af 294),oI 296 6 (.iad 5 (.t 295) (cI 1)),oI 297 7 (Am 5 296),oI 298 8 (Ac 4 4),oI 299 9 (Af 298),oI 300 10 (.iad 5 (.t 299) (cI 1)),oI 301 11 (Am 5 300),oI 302 12 (.bslice 5 [(.t 293),(.t 297),(.t 301)]),oI 303 13 (.call 74 [(cI 20),(cI 0),(cI 0),(cI 0),(.t 302)]),oI 304 14 (mT 2),⟨(some 305),(.hcall 114 [(.t 303),(.t 304)]),none,15,false,[15]⟩,oI 6 16 (mT 305)] .ret))) (Ab [oP 307 (As 16 22),Aa 306 307] (Ag 306 (Ab [Aa 308 0,oP 309 (Am 5 4),Aa 310 2,oP 311 (.hcall 183 [(.t 308),(.t 309),(.t 310)]),Aa 6 311] .ret) .skip)))))))))))))))))))))))) (Ab [Aa 312 0,oP 313 (Am 5 4),Aa 314 2,oP 315 (.hcall 184 [(.t 312),(.t 313),(.t 314)]),Aa 6 315] .ret)))⟩
def tr147:trF Tryz.prog Tryz.f147=some af147:=by kernel_rfl
attribute [go_sem] af147
def af117:AF:=⟨22,[(.t 4)],(Ab [oP 4 (.mv (.c .nilp))] (Ab [oP 5 (.mv (.c .nilp))] (.seq (Ab [Aa 8 1,oP 9 (.len false (.t 8)),oP 10 (.mv (cI 0))] (.blk 0 (.loop (Ab [oP 11 (Ch .lss 10 9)] (.seq (Ez 11 0) (.seq (.blk 1 (Ab [oP 12 (.iad 5 (.t 8) (.t 10)),oP 13 (Am 5 12),oP 7 Ej,oN (Bd 5 7 13)] (Bj [Aa 14 0,Aa 15 5,oP 16 (Am 5 7),Aa 17 5,oP 18 (.hcall 114 [(.t 16),(.t 17)]),oP 19 (.hcall 113 [(.t 14),(.t 15),(.t 18)]),Aa 5 19]))) (Bj [oP 20 (Bg .add 10 1),Aa 10 20]))))))) (Ab [Aa 21 5,Aa 4 21] .ret))))⟩
def tr117:trF Tryz.prog Tryz.f117=some af117:=by kernel_rfl
attribute [go_sem] af117
def Aq3(cap:Array Value)(w:World):(invoke (.fn (.func 109) cap) #[]).run Tryz.prog w=.ok (.enter 109 cap) w:=by
 simp[go_sem]
def Aq2(cap:Array Value)(w:World):(invoke (.fn (.func 116) cap) #[]).run Tryz.prog w=.ok (.enter 116 cap) w:=by
 simp[go_sem]
def Ac0:Con 108 [.dsl 5 []] (.bool true):=by
 refine Cq mixed Tryz.func108 tr108 ?_
 repeat' first
 |simp only[go_sem,seval]
 |refine Eo 1 (Bb ?_)
def Acz{i:Nat}(hi:i<=1000):Con 115 [.dsl 5 [],.agg true (tv (Bn i))] (.bool true):=by
 have o:=Of hi;have c1:=g9 (Bn i) o.1;rw[Ahj hi] at c1;have c2:=Tx (Bn i) o.1 (by omega);rw[o.2.2.1] at c2;have h5:=Cg (Bn i);generalize tv (Bn i)=r at *
 refine Cq mixed Tryz.func115 tr115 ?_
 repeat' first
 |simp only[go_sem,seval,h5]
 |refine Aj c1 ?_
 |refine Aj c2 ?_
def g8:Con 148 [.bool true] (.tup []):=by
 refine Cq mixed Tryz.func148 tr148 ?_
 repeat' first
 |simp only[go_sem,seval]
def Iw(m:Nat):List SV:=[.gp m 0,.int .i64 9,.nils]
def Aec(G:GV):Cp 111 G [.float .f64 4621256167635550208] (.ret (.gp (G.length+2) 0)) (G++[[.undef],Dp 0 9 0 0 G.length]++[Iw (G.length+1)]):=by
 have hn:=Aef G 9;refine Ca mixed Tryz.func111 tr111 ?_
 repeat' first
 |simp only[go_sem,seval,Iw]
 |refine Aj Ac1 ?_
 |refine Ad hn ?_
def Apx(G:GV)(c:Nat):Cp 117 G [.gp c 0,.dsl 5 []] (.ret (Ec [])) G:=by
 refine Ca mixed Tryz.func117 tr117 ?_
 repeat' first
 |simp only[go_sem,seval,Oo]
 |refine Eo 1 (Bb ?_)
def Fg(i:Nat)(v w:Option Vl):List SV:=thR ⟨Bn i,[],false,v,w⟩
def Aqg(G:GV)(i:Nat):Cp 178 G [.int .i64 i] (.ret (.gp G.length 0)) (G++[Fg i none none]):=by
 have hs:=Ac7 (i:Int);have hc:=Ut G (Bn i) [];rw[show (Tm.mk 1 (i:Int) 0 0 [])=Bn i from rfl] at hs;have h5:=Cg (Bn i);unfold Fg;generalize thR ⟨Bn i,[],false,none,none⟩=ta at *
 generalize tv (Bn i)=r at *
 refine Ca mixed Tryz.func178 tr178 ?_
 repeat' first
 |simp only[go_sem,seval,h5,Oo]
 |refine Aj hs ?_
 |refine Ad hc ?_
def Aed{G:GV}{c:Nat}{i:Nat}(hi:i<=900):Cp 147 G [.gp c 0,.agg true (tv (Bn i)),Ec []] (.ret (.gp G.length 0)) (G++[Fg (i+1) none none]):=by
 have hs:=Aqg G (i+1);generalize Fg (i+1) none none=ta at *
 have e2:IntKind.i64.wrap ((i:Int)+1)=((i+1:Nat):Int):=by rw[w64 (n:=(i:Int)+1) (by unfold fit;omega)];omega
 have e3:((i:Int)<1000)=True:=by simp;omega
 refine Ca mixed Tryz.func147 tr147 ?_;unfold Bn;rw[Bo]
 repeat' first
 |simp only[go_sem,seval,e2,e3,q_i]
 |refine Aj g8 ?_
 |refine Ad hs ?_
def sVl(i:Nat):Vl:=⟨1,i,0,0,0,[]⟩
def Aqj{G:GV}{m id i:Nat}(h:G[id]?=some (Fg i none none)):Cp 201 G [.gp m 0,.gp id 0] (.ret (vlV (sVl i))) (G.set id (Fg i (some (sVl i)) none)):=
 Awp (th:=⟨Bn i,[],false,none,none⟩) (th1:=⟨Bn i,[],false,none,none⟩) h rfl rfl (by
  have:=Ao1 (G:=G) (m:=m) (k:=1) (i:=i) (j:=0) (n:=0) (l:=[]) (e:=[]) (by simp) (by omega) (by omega);simpa [Hu,Yp,sVl,Bn] using Ap1 this) h
def Ap6{G:GV}{c m id i j:Nat}{steps most seen guess:Int}(hc:G[c]?=some (Iw m))(hG:G[m]?=some (Dp steps most seen guess j))(h:G[id]?=some (Fg i none none))(Cx:m≠id)(Pa:c≠m) :
  Cp 146 G [.gp c 0,.gp id 0] (.ret (vlV (sVl i))) ((G.set m (Dp 0 9 0 guess j)).set id (Fg i (some (sVl i)) (some (sVl i)))):=by
 have h1:=Aeg hG 9;have Az:id<G.length:=Aa6 h;have g1:(G.set m (Dp 0 9 0 guess j))[id]?=some (Fg i none none):=by rw[q_jc Cx];exact h
 have g2:(G.set m (Dp 0 9 0 guess j))[c]?=some (Iw m):=by rw[q_jc (Ne.symm Pa)];exact hc
 have hw:=Aqj (m:=m) g1;have g3:((G.set m (Dp 0 9 0 guess j)).set id (Fg i (some (sVl i)) none))[id]?=some (Fg i (some (sVl i)) none):=q_jq (by rw[List.length_set];exact Az);have hh:=Aqq (m:=m) (th:=⟨Bn i,[],false,none,none⟩) (th1:=⟨Bn i,[],false,some (sVl i),none⟩) (v:=sVl i) g1 rfl hw g3 (.base (show (1:Int)≠23 by decide) (show (1:Int)≠15/\(1:Int)≠18/\(1:Int)≠19/\(1:Int)≠22 by decide));rw[Wj] at hh;refine Ca mixed Tryz.func146 tr146 ?_;unfold Iw at hc g2;unfold Fg at *
 repeat' first
 |simp only[go_sem,seval,hc,g2]
 |refine Ad h1 ?_
 |refine Ad hh ?_
def kG0:GV:=[[.undef],Dp 0 9 0 0 0,Iw 1]
def kG1:GV:=[[.undef],Dp 0 9 0 0 0,Iw 1,Fg 2 (some (sVl 2)) (some (sVl 2))]
def kG2:GV:=[[.undef],Dp 0 9 0 0 0,Iw 1,Fg 2 (some (sVl 2)) (some (sVl 2)),Fg 1 none none]
def kG3:GV:=[[.undef],Dp 0 9 1 0 0,Iw 1,Fg 2 (some (sVl 2)) (some (sVl 2)),Fg 1 none none,Fg 1 none none]
def Ap7:Cp 112 kG0 [.gp 2 0,.agg true (tv (Bn 1)),Ec []] (.ret (.int .i64 2)) kG1:=by
 have h1:=Aed (G:=kG0) (c:=2) (i:=1) (by omega);have h2:=Ap6 (G:=kG0++[Fg 2 none none]) (c:=2) (m:=1) (id:=3) (i:=2) (j:=0) (steps:=0) (most:=9) (seen:=0) (guess:=0) rfl rfl rfl (by omega) (by omega);have e:((kG0++[Fg 2 none none]).set 1 (Dp 0 9 0 0 0)).set 3 (Fg 2 (some (sVl 2)) (some (sVl 2)))=kG1:=rfl;rw[e] at h2;have h5:=Cg (Bn 1);have e3:kG0.length=3:=rfl;rw[e3] at h1;refine Ca mixed Tryz.func112 tr112 ?_;generalize kG1=G1 at *
 generalize kG0++[Fg (1+1) none none]=Ga at *
 generalize kG0=G0 at *
 generalize tv (Bn 1)=r at *
 unfold sVl vlV at h2
 repeat' first
 |simp only[go_sem,seval,h5]
 |refine Ad h1 ?_
 |refine Ad h2 ?_
 |refine Aj g8 ?_
def Uh{m:Mem}{v:Value}{i c:Nat}(h:Rep m v (.gp i c)):∃b,m.d i=some b/\v=.pointer (some ⟨b,c,none⟩):=by
 cases h with
 |gp i c b h1 h2=>exact⟨b,h1,rfl⟩
def Ag8{m:Mem}{w:World}{G:GV}{i b:Nat}{r:List SV}(h:GSat m w G)(hG:G[i]?=some r)(hd:m.d i=some b)(hr:∀l,r≠Mg l):∀(k:Nat) x,r[k]?=some x->∃v,w.cell? ⟨b,k,none⟩=some v/\Rep m v x:=by
 intro k x hx;have Da:=h.row i r b hG hd;generalize hz:r=z at Da;cases Da with
 |map es k l=>exact absurd hz (hr l)
 |cells _ c e h1 h2 h3 h4=>
  subst hz;have hk:k<r.length:=(q_jm.1 hx).1;have Fz:k<c.size:=by omega
  refine⟨c[k],?_,(h3 k _ x (Array.getElem?_eq_getElem Fz) hx).1⟩;rw[Lib.cell_of_heap h1 k];exact Array.getElem?_eq_getElem Fz
def Ava{m:Mem}{i:Nat}{v:Value}(h:Rep m v (.agg true (tv (Bn i)))):∃A q,v=.agg #[.int .i64 1,.int .i64 i,.int .i64 0,.int .i64 0,.slice A 0 q]:=by
 rw[show tv (Bn i)=[.int .i64 1,.int .i64 i,.int .i64 0,.int .i64 0,.dsl 5 []] by unfold Bn;rw[Bo];rfl] at h;generalize hz:SV.agg true [.int .i64 1,.int .i64 i,.int .i64 0,.int .i64 0,.dsl 5 []]=z at h;cases h with
 |agg vs l h0 hl hr=>
  cases hz
  match vs,hl with
  |[a,b,c,d,e],_=>
   have ha:=hr 0 a _ rfl rfl;have hb:=hr 1 b _ rfl rfl;have hc:=hr 2 c _ rfl rfl;have hd:=hr 3 d _ rfl rfl;have he:=hr 4 e _ rfl rfl;cases ha;cases hb;cases hc;cases hd;generalize hy:SV.dsl 5 []=y at he;cases he with
   |dsl0 sz A cap=>exact⟨A,cap,rfl⟩
   |dsl sz l cap b off vs h1 h2=>
    cases hy;exact⟨_,_,rfl⟩
   |_=>cases hy
 |_=>cases hz
def Al5{b:Nat}{w:World}(h:w.cell? ⟨b,2,none⟩=some (.slice none 0 0)):Calls Tryz.prog 151 #[.pointer (some ⟨b,0,none⟩)] w fun e w'=>e=.returned (.int .i64 0)/\w'=w:=by
 go_enter Tryz.func151,Tryz.ntmps151
 go_wp2
 all_goals
  go_ret
  exact⟨rfl,rfl⟩
def Apt{m:Mem}{w w':World}{G:GV}(h:GSat m w G)(k:Below w.heap.size w w'):GSat m w' G:=
 ⟨h.dom,h.inj,fun i r b hi hd=>(h.row i r b hi hd).mono (.refl m) (k.block b (h.lt hd)),h.free⟩
def Ya{m m1 m2:Mem}{w w1 w2:World}{G1 G2:GV}(h:Ke m w m1 w1 G1)(k:Ke m1 w1 m2 w2 G2):Ke m w m2 w2 G2:=by
 obtain⟨a1,a2,a3,a4,a5,a6,a7,a8,a9,a10⟩:=h;obtain⟨b1,b2,b3,b4,b5,b6,b7,b8,b9,b10⟩:=k;refine⟨a1.trans b1,fun b j hb=>(b2 b j (by omega)).trans (a2 b j hb),b3,b4,fun i b hi=>?_,b6.trans a6,b7.trans a7,b8.trans a8,q_kn a9 b9,fun k hk hn=>?_⟩
 ·rcases b5 i b hi with h|h
  ·exact a5 i b h
  ·exact .inr (by omega)
 ·rw[b10 k (by omega) (fun i hi=>by rcases a5 i k hi with h|h;exact hn i h;omega)];exact a10 k hk hn
def Ae7{m:Mem}{w w1:World}{G:GV}(hm:Gf m w)(hs:GSat m w G)(k:Below w.heap.size w w1):Ke m w m w1 G:=
 ⟨.refl m,fun _ _ _=>rfl,Aa9 hm k,Apt hs k,fun i b hi=>.inl hi,k.os,k.tape,k.output,k.size,fun j hj _=>k.block j hj⟩
def Ac3{f:Nat}{args:List SV}{r:SV}(hc:Con f args r){m:Mem}{w:World}{G:GV}(hm:Gf m w)(hs:GSat m w G)(vs:List Value)(hl:vs.length=args.length)(hr:∀(j:Nat) v x,vs[j]?=some v->args[j]?=some x->Rep m v x) :
  Calls Tryz.prog f vs.toArray w fun e w'=>∃v m',e=.returned v/\Rep m' v r/\Ke m w m' w' G:=by
 refine Calls.mono (hc m w vs hm hl hr) (fun e w' h=>?_);obtain⟨v,m',h1,h2,⟨h3,Pz⟩,h4,h5,h6,h7,h8,h9,Xi⟩:=h;refine⟨v,m',h1,h2,h3,h4,h5,⟨fun i=>by rw[Pz];exact hs.dom i,fun i j b=>by rw[Pz];exact hs.inj i j b,fun i r b hi hd=>?_,fun i b j hd=>?_⟩,fun i b hi=>.inl (by rw[<-Pz];exact hi),h6,h7,h8,h9,fun k hk _=>Xi k hk⟩
 ·rw[Pz] at hd;exact (hs.row i r b hi hd).mono h3 (Xi b (hs.lt hd))
 ·rw[Pz] at hd;rw[h4 b j (hs.lt hd)];exact hs.free i b j hd
def Ap5:Cp 118 kG2 [.gp 2 0,.agg true (tv (Bn 0)),Ec [],.gp 4 0] (.ret (.tup [])) kG3:=by
 have h1:=Aed (G:=kG2) (c:=2) (i:=0) (by omega);have o1:=Of (i:=1) (by omega);have h3:=Aee (G:=kG2++[Fg 1 none none]) (m:=1) (j:=0) (a:=5) (b:=4) (deep:=0) (steps:=0) (most:=9) (seen:=0) (guess:=0) rfl
  (Ahb (m:=1) (j:=0) (steps:=0) (most:=9) (seen:=0) (guess:=0) (wx:=none) (ux:=none) (wy:=none) (uy:=none) (t:=Bn 1) rfl (by unfold fit;omega) (by omega) (by omega) (by omega) (by omega) rfl rfl o1.1)
 have e:((kG2++[Fg 1 none none]).set 1 (Dp 0 9 0 0 0)).set 1 (Dp 0 9 (0+1) (Np 0) 0)=kG3:=rfl;rw[e] at h3;rw[show kG2.length=5 from rfl] at h1;have ck0:kG2[2]?=some (Iw 1):=rfl;have ck1:(kG2++[Fg 1 none none])[2]?=some (Iw 1):=rfl;have ck3:kG3[2]?=some (Iw 1):=rfl;have hl2:kG2.length=5:=rfl;have hnm:∀l,Iw 1≠Mg l:=fun l h=>by unfold Iw Mg at h;cases l<;>simp at h
 have cm:=g8;generalize kG3=G3 at *
 generalize hGa:kG2++[Fg (0+1) none none]=Ga at *
 generalize kG2=G2 at *
 intro m w vs hmem hsat Bf Cm
 match vs,Bf with
 |[a,b,c,d],_=>
  obtain⟨b2,Uy,rfl⟩:=Uh (Cm 0 a _ rfl rfl);have hb:=Cm 1 b _ rfl rfl;have hc:=Cm 2 c _ rfl rfl;obtain⟨b4,hd4,rfl⟩:=Uh (Cm 3 d _ rfl rfl);obtain⟨A,q,rfl⟩:=Ava hb;rw[Oo] at hc h1;cases hc;have Eh:∃b1,m.d 1=some b1:=(hsat.dom 1).1 (by rw[hl2];omega);obtain⟨b1,Nt⟩:=Eh;have k1:Below w.heap.size w (w.alloc (.cells #[.int .i64 1,.int .i64 (0:Nat),.int .i64 0,.int .i64 0,.slice A 0 q] 25)):=(Below.refl _ w).alloc (q_ja _) _;have p1:=Ae7 hmem hsat k1
  go_enter Tryz.func118,Tryz.ntmps118
  have Md:∀(j:Nat) v x,([.pointer (some ⟨b2,0,none⟩),.agg #[.int .i64 1,.int .i64 (0:Nat),.int .i64 0,.int .i64 0,.slice A 0 q],.pointer none]:List Value)[j]?=some v->([.gp 2 0,.agg true (tv (Bn 0)),.nilp]:List SV)[j]?=some x->Rep m v x:=fun j v x hv hx=>by
   match j,hv,hx with
   |0,hv,hx=>cases hv;cases hx;exact Cm 0 _ _ rfl rfl
   |1,hv,hx=>cases hv;cases hx;exact hb
   |2,hv,hx=>cases hv;cases hx;exact .nilp
   |j+3,hv,hx=>simp at hx
  go_wp2_with (go_at_call 147;refine (h1 m _ [.pointer (some ⟨b2,0,none⟩),.agg #[.int .i64 1,.int .i64 (0:Nat),.int .i64 0,.int .i64 0,.slice A 0 q],.pointer none] p1.2.2.1 p1.2.2.2.1 rfl Md).mono ?_)
  rintro e W2 ⟨m2,⟨v,rfl,hv⟩,p2⟩;obtain⟨b5,hd5,rfl⟩:=Uh hv;have pp:=Ya p1 p2;have rc:=Ag8 p2.2.2.2.1 ck1 (p2.1.d _ _ Uy) hnm;obtain⟨v0,c0,r0⟩:=rc 0 _ rfl;obtain⟨v1,c1,r1⟩:=rc 1 _ rfl;obtain⟨v2,c2,r2⟩:=rc 2 _ rfl;obtain⟨b1',Pb,rfl⟩:=Uh r0;have e1:b1'=b1:=by have:=p2.1.d _ _ Nt;rw[Pb] at this;exact Option.some.inj this
  subst e1;cases r1;cases r2;clear rc;generalize w.alloc (.cells #[.int .i64 1,.int .i64 (0:Nat),.int .i64 0,.int .i64 0,.slice A 0 q] 25)=W1 at *
  have hr3:∀(j:Nat) v x,([.pointer (some ⟨b1',0,none⟩),.pointer (some ⟨b5,0,none⟩),.pointer (some ⟨b4,0,none⟩),.int .i64 0,.int .i64 9]:List Value)[j]?=some v->([.gp 1 0,.gp 5 0,.gp 4 0,.int .i64 0,.int .i64 9]:List SV)[j]?=some x->Rep m2 v x:=fun j v x Ck hx=>by
   match j,Ck,hx with
   |0,Ck,hx=>cases Ck;cases hx;exact r0
   |1,Ck,hx=>cases Ck;cases hx;exact hv
   |2,Ck,hx=>cases Ck;cases hx;exact (Cm 3 _ _ rfl rfl).mono pp.1
   |3,Ck,hx=>cases Ck;cases hx;exact .int _ _
   |4,Ck,hx=>cases Ck;cases hx;exact .int _ _
   |j+5,Ck,hx=>simp at hx
  have pd:Ke m2 W2 m2 W2.drew Ga:=Ae7 p2.2.2.1 p2.2.2.2.1 ⟨rfl,rfl,rfl,q_ja _,fun _ _=>rfl⟩;have pw:=Ya pp pd;have c3:=h3 m2 W2.drew [.pointer (some ⟨b1',0,none⟩),.pointer (some ⟨b5,0,none⟩),.pointer (some ⟨b4,0,none⟩),.int .i64 0,.int .i64 9] pd.2.2.1 pd.2.2.2.1 rfl hr3;have hd2':=p2.1.d _ _ Uy;have c0':W2.drew.cell? ⟨b2,0,none⟩=some (.pointer (some ⟨b1',0,none⟩)):=c0;have c1':W2.drew.cell? ⟨b2,1,none⟩=some (.int .i64 9):=c1;have c2':W2.drew.cell? ⟨b2,2,none⟩=some (.slice none 0 0):=c2;have cd:=Al5 c2';have key:∀(W3:World) (m3:Mem),Ke m2 W2.drew m3 W3 G3->W3.cell? ⟨b2,0,none⟩=some (.pointer (some ⟨b1',0,none⟩))/\W3.cell? ⟨b2,1,none⟩=some (.int .i64 9):=fun W3 m3 p3=>by
   have rc:=Ag8 p3.2.2.2.1 ck3 (p3.1.d _ _ hd2') hnm;obtain⟨v0,d0,q0⟩:=rc 0 _ rfl;obtain⟨v1,d1,q1⟩:=rc 1 _ rfl;obtain⟨b1x,hdx,rfl⟩:=Uh q0;have e1:b1x=b1':=by have:=p3.1.d _ _ Pb;rw[hdx] at this;exact Option.some.inj this
   subst e1;cases q1;exact⟨d0,d1⟩
  have cmx:∀(W3:World) (m3:Mem),Ke m2 W2.drew m3 W3 G3->Calls Tryz.prog 148 #[.bool true] W3 fun e w'=>∃v m',e=.returned v/\Rep m' v (.tup [])/\Ke m3 W3 m' w' G3:=fun W3 m3 p3=>Ac3 cm p3.2.2.1 p3.2.2.2.1 [.bool true] rfl (fun j v x Ck hx=>by
   match j,Ck,hx with
   |0,Ck,hx=>cases Ck;cases hx;exact .bool _
   |j+1,Ck,hx=>simp at hx)
  clear h1 h3 Md hr3 Cm hb p1 k1 hsat hmem
  go_wp2_with fail
  go_region_held3 (fun w'=>w'.cell? ⟨b2,0,none⟩=some (.pointer (some ⟨b1',0,none⟩))/\w'.cell? ⟨b2,1,none⟩=some (.int .i64 9)) (first|exact⟨c0',c1'⟩|assumption)
   (first
    |(go_at_call 151;refine cd.mono ?_;rintro e w' ⟨rfl,rfl⟩)
    |(go_at_call 145;refine c3.mono ?_;rintro e W3 ⟨m3,⟨v3,rfl,hv3⟩,p3⟩;cases hv3;have k3:=key W3 m3 p3)
    |(go_at_call 148;refine (cmx W3 m3 p3).mono ?_;rintro e W4 ⟨v4,m4,rfl,hv4,p4⟩;cases hv4;have p5:=Ya p3 p4;have k4:=key W4 m4 p5))
  go_wp2
  go_returns
  exact⟨m4,⟨_,rfl,.tup [] [] rfl (fun j v x h=>by simp at h)⟩,Ya pw p5⟩
def Akq:Con 70 [.dsl 5 [],.float .f64 4621256167635550208] (.int .i64 0):=by
 refine Tz mixed Tryz.func70 tr70 Aq3 Nrm.idle_kctx (fun x hx=>?_) (.int _ _) ?_
 ·simp only[q_kb,q_kc,or_false] at hx;rcases hx with rfl|rfl
  ·exact .dsl _ _ (by simp)
  ·exact .float _ _
 have hb:=Aec []
 repeat' first
 |simp only[go_sem,seval]
 |refine Aj Ac0 ?_
 |refine Ad hb ?_
 |refine Eo 1 (Bb ?_)
def Akp:Con 72 [.dsl 5 [],.agg true (tv (Bn 0)),.agg true (tv (Bn 1)),.float .f64 4621256167635550208] (.int .i64 0):=by
 refine Tz mixed Tryz.func72 tr72 Aq2 Nrm.idle_kcheck (fun x hx=>?_) (.int _ _) ?_
 ·simp only[q_kb,q_kc,or_false] at hx;rcases hx with rfl|rfl|rfl|rfl
  ·exact .dsl _ _ (by simp)
  ·exact Od _ true
  ·exact Od _ true
  ·exact .float _ _
 have hb:=Aec [];have ha:=Apx kG0 2;have hs:=Ap7;have hc:=Ut kG1 (Bn 1) [];have hh:=Ap5;have i0:=Acz (i:=0) (by omega);have i1:=Acz (i:=1) (by omega);have e1:kG1++[thR ⟨Bn 1,[],false,none,none⟩]=kG2:=rfl;rw[e1,show kG1.length=4 from rfl] at hc;have e0:([]:GV)++[[.undef],Dp 0 9 0 0 ([]:GV).length]++[Iw (([]:GV).length+1)]=kG0:=rfl;rw[e0] at hb;have h5:=Cg (Bn 0);have h6:=Cg (Bn 1);generalize kG0=G0 at *
 generalize kG1=G1 at *
 generalize kG2=G2 at *
 generalize kG3=G3 at *
 generalize tv (Bn 0)=r0 at *
 generalize tv (Bn 1)=r1 at *
 rw[Oo] at *
 repeat' first
 |simp only[go_sem,seval,h5,h6,List.length_nil]
 |refine Aj Ac0 ?_
 |refine Aj i0 ?_
 |refine Aj i1 ?_
 |refine Ad hb ?_
 |refine Ad ha ?_
 |refine Ad hs ?_
 |refine Ad hc ?_
 |refine Ad hh ?_
end Go.Proofs.YtgfehkhcmnfpaaaGreatDoor.Abs
