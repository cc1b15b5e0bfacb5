import Derived.Test.YtgfehkhcmnfpaaaGreatDoorIEv
import Derived.Test.YtgfehkhcmnfpaaaGreatDoorProg
import Derived.KernelRfl
import Derived.Test.YtgfehkhcmnfpaaaGreatDoorIWb
import Derived.Test.YtgfehkhcmnfpaaaGreatDoorIAfC
set_option linter.all false
set_option maxRecDepth 20000
set_option maxHeartbeats 4000000
namespace Go.Proofs.YtgfehkhcmnfpaaaGreatDoor.Abs
open Go Go.Proofs Go.Proofs.YtgfehkhcmnfpaaaGreatDoor
def af44:AF:=⟨31,[(.t 4)],(Ab [oP 4 (.mv (At []))] (.seq (Ab [Aa 6 0,oP 7 (Ak 6),oP 8 (Ae 2 7),oP 9 (Ah 8),oP 10 (Ay .geq 9 0)] (Aj 10 (Ab [oP 4 (.mv (At []))] .ret) .skip)) (.seq (Ab [Aa 11 0,oP 12 (.hcall 46 [(.t 11)]),Aa 13 1,oP 14 (Ca .neq 12 13)] (Aj 14 (Ab [Aa 15 0,Aa 16 0,oP 17 (Ak 16),oP 18 (Ae 1 17),oP 19 (Ah 18),oP 20 (.hcall 47 [(.t 15),(.t 19)])] (Ab [oP 4 (.mv (At []))] .ret)) .skip)) (Ab [Aa 21 0,oP 22 (.hcall 45 [(.t 21)]),Aa 5 22] (Ab [Aa 23 0,oP 24 (Ak 23),oP 25 (Ae 1 24),oP 26 (Ah 25),oP 27 (Ay .add 26 1),oP 28 (Ak 23),oP 29 (Ae 1 28),oN (Ax 1 29 27)] (Ab [Aa 30 5,Aa 4 30] .ret))))))⟩
def tr44:trF Tryz.prog Tryz.f44=some af44:=by kernel_rfl
attribute [go_sem] af44
def af46:AF:=⟨24,[(.t 2)],(Ab [oP 2 (.mv (cI 0))] (.seq (Cx [Aa 3 0,oI 4 1 (Ak 3),oI 5 2 (Ae 1 4),oI 6 3 (Ah 5),oI 7 4 (mT 0),oI 8 5 (Ak 7),oI 9 6 (Ae 0 8),oI 10 7 (Ah 9),oI 11 8 (.len false (.t 10)),oI 12 9 (Ca .lss 6 11)] (Aj 12 (Cx [Aa 13 0,oI 14 1 (Ak 13),oI 15 2 (Ae 0 14),oI 16 3 (Ah 15),oI 17 4 (mT 0),oI 18 5 (Ak 17),oI 19 6 (Ae 1 18),oI 20 7 (Ah 19),oI 21 8 (.iad 3 (.t 16) (.t 20)),oI 22 9 (Ae 0 21),oI 23 10 (Ah 22),oI 2 11 (mT 23)] .ret) .skip)) (Ab [oP 2 (.mv (cI 0))] .ret)))⟩
def tr46:trF Tryz.prog Tryz.f46=some af46:=by kernel_rfl
attribute [go_sem] af46
def af50:AF:=⟨89,[(.cell 4 true 5)],(Ab [oP 4 Fp] (.seq (Ab [Aa 7 0,oP 8 (Ak 7),oP 9 (Ae 2 8),oP 10 (Ah 9),oP 11 (Ay .geq 10 0)] (Aj 11 (Ab [oP 12 (Gy []),oN (Ax 5 4 12)] .ret) .skip)) (.seq (Ab [Aa 13 0,oP 14 (.hcall 46 [(.t 13)]),oP 15 (An 14 3)] (Aj 15 (.seq (Ab [Aa 16 0,oP 17 (Ak 16),oP 18 (Ae 5 17),oP 19 (Ah 18),oP 20 (.len false (.t 19)),oP 21 (Ay .sub 20 1),Aa 5 21] (.blk 0 (.loop (.seq (Ab [Aa 22 5,oP 23 (Ay .geq 22 0)] (Et 23 0)) (.seq (.blk 1 (Cx [Aa 26 0,oI 27 1 (Ak 26),oI 28 2 (Ae 5 27),⟨(some 29),(Ah 28),none,3,true,[]⟩,oI 30 4 (mT 5),⟨(some 31),(.iad 1 (.t 29) (.t 30)),none,5,true,[]⟩,⟨(some 32),(Ah 31),none,6,true,[]⟩,oI 33 7 (mT 0),⟨(some 34),(.hcall 45 [(.t 33)]),none,8,false,[3,5,6,8]⟩,oI 35 9 (.bin 4 .eql (.t 32) (.t 34))] (Aj 35 (Ab [Aa 36 0,oP 37 (Ak 36),oP 38 (Ae 1 37),oP 39 (Ah 38),oP 40 (Ay .add 39 1),oP 41 (Ak 36),oP 42 (Ae 1 41),oN (Ax 1 42 40)] (Ab [Aa 43 0,oP 44 (Ak 43),oP 45 (Ae 5 44),oP 46 (Ah 45),oP 47 (.len false (.t 46)),oP 48 (Ay .sub 47 1),Aa 49 5,oP 50 (Ca .sub 48 49),oP 51 (Gy [(0,(1,(cI 2))),(1,(1,(.t 50)))]),oN (Ax 5 4 51)] .ret)) .skip))) (Bg [Aa 24 5,oP 25 (Ay .sub 24 1),Aa 5 25])))))) (Ab [Aa 52 0,Aa 53 0,oP 54 (Ak 53),oP 55 (Ae 1 54),oP 56 (Ah 55),oP 57 (.hcall 47 [(.t 52),(.t 56)])] (Ab [oP 58 (Gy []),oN (Ax 5 4 58)] .ret))) .skip)) (Ab [Aa 59 0,oP 60 (.hcall 44 [(.t 59),(cI 1)])] (.seq (Ab [Aa 61 0,oP 62 (Ak 61),oP 63 (Ae 2 62),oP 64 (Ah 63),oP 65 (Ay .geq 64 0)] (Aj 65 (Ab [oP 66 (Gy []),oN (Ax 5 4 66)] .ret) .skip)) (Ab [Aa 67 0,Aa 68 1,oP 69 (.hcall 85 [(.t 67),(.t 68)]),Aa 6 69] (.seq (Ab [Aa 70 6,oP 71 (An 70 0)] (Aj 71 (Ab [Aa 72 0,Aa 73 0,oP 74 (Ak 73),oP 75 (Ae 1 74),oP 76 (Ah 75),oP 77 (.hcall 47 [(.t 72),(.t 76)])] (Ab [oP 78 (Gy []),oN (Ax 5 4 78)] .ret)) .skip)) (Ab [Aa 79 0,oP 80 (Ak 79),oP 81 (Ae 1 80),oP 82 (Ah 81),oP 83 (Ay .add 82 1),oP 84 (Ak 79),oP 85 (Ae 1 84),oN (Ax 1 85 83)] (Ab [Aa 86 0,Aa 87 6,oP 88 (.hcall 86 [(.t 86),(.t 87)]),oN (Ax 5 4 88)] .ret)))))))))⟩
def tr50:trF Tryz.prog Tryz.f50=some af50:=by kernel_rfl
attribute [go_sem] af50
def af128:AF:=⟨15,[],(Bg [Aa 4 0,oP 5 (.bslice 1 []),Aa 6 0,oP 7 (Ak 6),oP 8 (Ae 5 7),oP 9 (Ah 8),oP 10 (.app 1 16 (.t 5) (.t 9)),Aa 11 1,oP 12 (.app 1 16 (.t 10) (.t 11)),oP 13 (Ak 4),oP 14 (Ae 5 13),oN (Ax 1 14 12)])⟩
def tr128:trF Tryz.prog Tryz.f128=some af128:=by kernel_rfl
attribute [go_sem] af128
def af47:AF:=⟨13,[],(Ab [Aa 4 0,oP 5 (Ak 4),oP 6 (Ae 2 5),oP 7 (Ah 6),oP 8 (Ay .lss 7 0)] (Aj 8 (Bg [Aa 9 0,Aa 10 1,oP 11 (Ak 9),oP 12 (Ae 2 11),oN (Ax 1 12 10)]) .skip))⟩
def tr47:trF Tryz.prog Tryz.f47=some af47:=by kernel_rfl
attribute [go_sem] af47
def af45:AF:=⟨24,[(.t 2)],(Ab [oP 2 (.mv (At []))] (.seq (Cx [Aa 3 0,oI 4 1 (Ak 3),oI 5 2 (Ae 1 4),oI 6 3 (Ah 5),oI 7 4 (mT 0),oI 8 5 (Ak 7),oI 9 6 (Ae 0 8),oI 10 7 (Ah 9),oI 11 8 (.len false (.t 10)),oI 12 9 (Ca .lss 6 11)] (Aj 12 (Cx [Aa 13 0,oI 14 1 (Ak 13),oI 15 2 (Ae 0 14),oI 16 3 (Ah 15),oI 17 4 (mT 0),oI 18 5 (Ak 17),oI 19 6 (Ae 1 18),oI 20 7 (Ah 19),oI 21 8 (.iad 3 (.t 16) (.t 20)),oI 22 9 (Ae 1 21),oI 23 10 (Ah 22),oI 2 11 (mT 23)] .ret) .skip)) (Ab [oP 2 (.mv (At []))] .ret)))⟩
def tr45:trF Tryz.prog Tryz.f45=some af45:=by kernel_rfl
attribute [go_sem] af45
def af85:AF:=⟨55,[(.t 4)],(Ab [oP 4 (.mv (cI 0))] (.seq (Ab [Aa 8 0,oP 9 (.hcall 46 [(.t 8)]),oP 10 (Ay .neq 9 3)] (Aj 10 (Ab [oP 4 (.mv (cI 0))] .ret) .skip)) (Ab [oP 11 (.call 100 []),Aa 5 11] (.seq (Ab [oP 6 (.mv (cI 0))] (.blk 0 (.loop (.seq (Ab [Aa 12 6,Aa 13 5,oP 14 (.len false (.t 13)),oP 15 (Ca .lss 12 14)] (Et 15 0)) (.seq (.blk 1 (Cx [Aa 18 5,oI 19 1 (mT 6),⟨(some 20),(.iad 1 (.t 18) (.t 19)),none,2,true,[]⟩,⟨(some 21),(Ah 20),none,3,true,[]⟩,oI 22 4 (mT 0),⟨(some 23),(.hcall 45 [(.t 22)]),none,5,false,[2,3,5]⟩,oI 24 6 (.bin 4 .eql (.t 21) (.t 23)),oI 25 7 (mT 24),oG 26 25 true 8 (mT 1),oG 27 25 true 9 (Ay .neq 26 2),oG 28 25 true 10 (mT 27),oG 29 28 false 11 (mT 6),oG 30 28 false 12 (An 29 0),oG 31 25 true 13 (Dk 28 30),oI 32 14 (Cf 25 31)] (Aj 32 (Ab [Aa 33 6,oP 34 (Ay .add 33 1),Aa 4 34] .ret) .skip))) (Bg [Aa 16 6,oP 17 (Ay .add 16 1),Aa 6 17])))))) (Ab [oP 35 (.call 101 []),Aa 5 35] (.seq (Ab [oP 7 (.mv (cI 0))] (.blk 2 (.loop (.seq (Ab [Aa 36 7,Aa 37 5,oP 38 (.len false (.t 37)),oP 39 (Ca .lss 36 38)] (Et 39 2)) (.seq (.blk 3 (Cx [Aa 42 5,oI 43 1 (mT 7),⟨(some 44),(.iad 1 (.t 42) (.t 43)),none,2,true,[]⟩,⟨(some 45),(Ah 44),none,3,true,[]⟩,oI 46 4 (mT 0),⟨(some 47),(.hcall 45 [(.t 46)]),none,5,false,[2,3,5]⟩,oI 48 6 (.bin 4 .eql (.t 45) (.t 47)),oI 49 7 (mT 48),oG 50 49 true 8 (mT 1),oG 51 49 true 9 (Ay .neq 50 1),oI 52 10 (Cf 49 51)] (Aj 52 (Ab [Aa 53 7,oP 54 (.bin 0 .add (cI 13) (.t 53)),Aa 4 54] .ret) .skip))) (Bg [Aa 40 7,oP 41 (Ay .add 40 1),Aa 7 41])))))) (Ab [oP 4 (.mv (cI 0))] .ret)))))))⟩
def tr85:trF Tryz.prog Tryz.f85=some af85:=by kernel_rfl
attribute [go_sem] af85
def a86_107:AC:=.seq (Ab [Aa 81 10,Aa 82 1,oP 83 (Ae 3 5),oP 84 (Ah 83),oP 85 (.call 92 [(.t 82),(.t 84)]),oP 86 (Ca .lss 81 85)] (Et 86 1)) (.seq (.blk 2 (.seq (Ab [Aa 89 1,oP 90 (An 89 22),Aa 91 90,oG 92 91 true 0 (mT 10),oG 93 91 true 0 (An 92 2),oP 94 (Cf 91 93)] (Aj 94 (Ab [Aa 95 0,oP 96 (.hcall 44 [(.t 95),(cI 3)]),Aa 11 96] (Bg [Aa 97 11,Aa 98 0,oP 99 (.hcall 44 [(.t 98),(cI 3)]),oP 100 (.bslice 1 [(.t 97),(.t 99)]),Aa 8 100])) .skip)) (Ab [Aa 101 1,Aa 102 10,oP 103 (.call 94 [(.t 101),(.t 102)]),Aa 12 103] (.seq (Ab [Aa 104 12,oP 105 (Ay .gtr 104 0)] (Aj 105 (Bg [Aa 106 0,Aa 107 8,oP 108 (.hcall 128 [(.t 106),(.t 107)])]) .skip)) (Ab [Aa 109 6,Aa 13 109] (.seq (Ab [Aa 110 1,oP 111 (An 110 12),Aa 112 111,oG 113 112 true 0 (mT 10),oG 114 112 true 0 (An 113 2),oP 115 (Cf 112 114)] (Aj 115 (Bg [oP 13 (.mv (cI 2))]) .skip)) (Ab [Aa 116 9,Aa 117 0,Aa 118 13,oP 119 (.hcall 50 [(.t 117),(.t 118)]),oP 120 (.bslice 5 [(.t 119)]),oP 121 (.app 5 56 (.t 116) (.t 120)),Aa 9 121] (Ab [Aa 122 12,oP 123 (Ay .gtr 122 0)] (Aj 123 (Bg [Aa 124 0,Aa 125 12,oP 126 (.hcall 129 [(.t 124),(.t 125)])]) .skip))))))))) (Bg [Aa 87 10,oP 88 (Ay .add 87 1),Aa 10 88]))
def a86_116:AC:=Ab [Aa 127 0,oP 128 (.hcall 44 [(.t 127),(cI 2)])] (Ab [Aa 129 9,oP 130 (Ae 4 5),oN (Ax 1 130 129)] (Ab [oP 131 (Aq 5 5),oN (Ax 5 4 131)] .ret))
def af86:AF:=⟨132,[(.cell 4 true 5)],(Ab [oP 4 Fp] (Ab [Aa 14 1,oP 15 (Gy [(0,(1,(.t 14)))]),oP 5 Fp,oN (Ax 5 5 15)] (Ab [oP 6 (.mv (cI 1))] (.seq (Ab [Aa 16 1,oP 17 (Ay .gtr 16 12)] (Aj 17 (Bg [oP 6 (.mv (cI 2))]) .skip)) (.seq (Ab [Aa 18 1] (.blk 0 (Ab [oP 20 (An 18 23),Aa 19 20] (Aj 19 (Ab [Aa 21 0,oP 22 (.hcall 45 [(.t 21)]),oP 23 (.call 127 [(.t 22)]),Aa 7 23] (.seq (Ab [Aa 24 0,oP 25 (.hcall 46 [(.t 24)]),oP 26 (Ay .neq 25 3),Aa 27 26,oG 28 27 false 0 (mT 7),oG 29 27 false 0 (An 28 0),oP 30 (Dk 27 29)] (Aj 30 (Ab [Aa 31 0,Aa 32 0,oP 33 (Ak 32),oP 34 (Ae 1 33),oP 35 (Ah 34),oP 36 (.hcall 47 [(.t 31),(.t 35)])] (Ab [oP 37 (Gy []),oN (Ax 5 4 37)] .ret)) .skip)) (Ab [Aa 38 0,oP 39 (Ak 38),oP 40 (Ae 1 39),oP 41 (Ah 40),oP 42 (Ay .add 41 1),oP 43 (Ak 38),oP 44 (Ae 1 43),oN (Ax 1 44 42)] (Ab [Aa 45 7,oP 46 (Ae 3 5),oN (Ax 1 46 45)] (Ab [Aa 47 0,oP 48 (.hcall 84 [(.t 47)]),oP 49 (Ae 1 5),oN (Ax 1 49 48)] (Bg [Aa 50 0,oP 51 (.hcall 84 [(.t 50)]),oP 52 (Ae 2 5),oN (Ax 1 52 51)])))))) (.seq (Ab [oP 54 (An 18 3),Aa 53 54] (Aj 53 .skip (Ab [oP 55 (An 18 4),Aa 53 55] (Aj 53 .skip (Ab [oP 56 (An 18 5),Aa 53 56] (Aj 53 .skip (Ab [oP 57 (An 18 6),Aa 53 57] (Aj 53 .skip (Ab [oP 58 (An 18 7),Aa 53 58] (Aj 53 .skip (Ab [oP 59 (An 18 8),Aa 53 59] (Aj 53 .skip (Bg [oP 60 (An 18 9),Aa 53 60]))))))))))))) (Aj 53 (Ab [Aa 61 0,oP 62 (.hcall 84 [(.t 61)]),oP 63 (Ae 1 5),oN (Ax 1 63 62)] (Bg [Aa 64 0,oP 65 (.hcall 84 [(.t 64)]),oP 66 (Ae 2 5),oN (Ax 1 66 65)])) (.seq (Ab [oP 68 (An 18 1),Aa 67 68] (Aj 67 .skip (Ab [oP 69 (An 18 10),Aa 67 69] (Aj 67 .skip (Ab [oP 70 (An 18 11),Aa 67 70] (Aj 67 .skip (Bg [oP 71 (An 18 12),Aa 67 71]))))))) (Aj 67 (Bg [Aa 72 0,oP 73 (.hcall 84 [(.t 72)]),oP 74 (Ae 1 5),oN (Ax 1 74 73)]) .skip)))))))) (Ab [oP 8 (.mv (.c .nils))] (.seq (Ab [Aa 75 1,oP 76 (.call 94 [(.t 75),(cI 1)]),oP 77 (An 76 1)] (Aj 77 (Bg [Aa 78 0,oP 79 (.hcall 44 [(.t 78),(cI 3)]),oP 80 (.bslice 1 [(.t 79)]),Aa 8 80]) .skip)) (Ab [oP 9 (.mv (.c .nils))] (.seq (Ab [oP 10 (.mv (cI 0))] (.blk 1 (.loop a86_107))) a86_116)))))))))⟩
def tr86:trF Tryz.prog Tryz.f86=some af86:=by kernel_rfl
attribute [go_sem] af86 a86_107 a86_116
def af100:AF:=⟨2,[(.t 0)],(Ab [oP 0 (.mv (.c .nils))] (Ab [oP 1 (.bslice 1 [(At [115,111,114,116]),(At []),(At [112,105]),(At [108,97,109]),(At [97,112,112]),(At [115,105,103]),(At [112,97,105,114]),(At [102,115,116]),(At [115,110,100]),(At [101,113]),(At [114,101,102,108]),(At [116,114])]),Aa 0 1] .ret))⟩
def tr100:trF Tryz.prog Tryz.f100=some af100:=by kernel_rfl
attribute [go_sem] af100
def af101:AF:=⟨2,[(.t 0)],(Ab [oP 0 (.mv (.c .nils))] (Ab [oP 1 (.bslice 1 [(At [80,105]),(At [76,97,109]),(At [65,112,112]),(At [83,105,103]),(At [80,97,105,114]),(At [70,115,116]),(At [83,110,100]),(At [69,113]),(At [82,101,102,108]),(At [74]),(At [117,115,101])]),Aa 0 1] .ret))⟩
def tr101:trF Tryz.prog Tryz.f101=some af101:=by kernel_rfl
attribute [go_sem] af101
def af127:AF:=⟨20,[(.t 2)],(Ab [oP 2 (.mv (cI 0))] (Ab [oP 5 (.call 135 []),Aa 3 5] (.seq (Ab [oP 4 (.mv (cI 0))] (.blk 0 (.loop (.seq (Ab [Aa 6 4,Aa 7 3,oP 8 (.len false (.t 7)),oP 9 (Ca .lss 6 8)] (Et 9 0)) (.seq (.blk 1 (Ab [Aa 12 3,Aa 13 4,oP 14 (.iad 1 (.t 12) (.t 13)),oP 15 (Ah 14),Aa 16 0,oP 17 (.bin 4 .eql (.t 15) (.t 16))] (Aj 17 (Ab [Aa 18 4,oP 19 (Ay .add 18 1),Aa 2 19] .ret) .skip))) (Bg [Aa 10 4,oP 11 (Ay .add 10 1),Aa 4 11])))))) (Ab [oP 2 (.mv (cI 0))] .ret))))⟩
def tr127:trF Tryz.prog Tryz.f127=some af127:=by kernel_rfl
attribute [go_sem] af127
def af84:AF:=⟨138,[(.t 2)],(Ab [oP 2 (.mv (cI 0))] (.seq (Ab [Aa 6 0,oP 7 (Ak 6),oP 8 (Ae 2 7),oP 9 (Ah 8),oP 10 (Ay .geq 9 0)] (Aj 10 (Ab [oP 2 (.mv (cI 0))] .ret) .skip)) (Ab [Aa 11 0,oP 12 (Ak 11),oP 13 (Ae 1 12),oP 14 (Ah 13),Aa 3 14,oP 4 (.mv (cI 0))] (.seq (.blk 0 (Ab [Aa 22 0,oP 23 (.hcall 46 [(.t 22)]),oP 24 (An 23 4),Aa 21 24] (Aj 21 (Ab [Aa 26 0,oP 27 (.hcall 45 [(.t 26)]),oP 28 (.call 83 [(.t 27)]),Aa 25 28,oP 29 (.ext (.t 25) 0),oP 30 (.ext (.t 25) 1),Aa 4 29] (Bg [Aa 31 0,oP 32 (Ak 31),oP 33 (Ae 1 32),oP 34 (Ah 33),oP 35 (Ay .add 34 1),oP 36 (Ak 31),oP 37 (Ae 1 36),oN (Ax 1 37 35)])) (Ab [Aa 39 0,oP 40 (.hcall 46 [(.t 39)]),oP 41 (An 40 3),Aa 42 41,oG 43 42 true 0 (mT 0),oG 44 42 true 0 (.hcall 45 [(.t 43)]),oG 45 42 true 0 (.bin 4 .eql (.t 44) (At [105])),oP 46 (Cf 42 45),Aa 38 46] (Aj 38 (Ab [Aa 47 0,oP 48 (Ak 47),oP 49 (Ae 3 48),oP 50 (Ah 49),Aa 4 50] (Bg [Aa 51 0,oP 52 (Ak 51),oP 53 (Ae 1 52),oP 54 (Ah 53),oP 55 (Ay .add 54 1),oP 56 (Ak 51),oP 57 (Ae 1 56),oN (Ax 1 57 55)])) (Ab [Aa 59 0,oP 60 (.hcall 46 [(.t 59)]),oP 61 (An 60 3),Aa 62 61,oG 63 62 true 0 (mT 0),oG 64 62 true 0 (.hcall 45 [(.t 63)]),oG 65 62 true 0 (.bin 4 .eql (.t 64) (At [106])),oP 66 (Cf 62 65),Aa 58 66] (Aj 58 (Ab [Aa 67 0,oP 68 (Ak 67),oP 69 (Ae 4 68),oP 70 (Ah 69),Aa 4 70] (Bg [Aa 71 0,oP 72 (Ak 71),oP 73 (Ae 1 72),oP 74 (Ah 73),oP 75 (Ay .add 74 1),oP 76 (Ak 71),oP 77 (Ae 1 76),oN (Ax 1 77 75)])) (Ab [Aa 79 0,oP 80 (.hcall 46 [(.t 79)]),oP 81 (An 80 1),Aa 78 81] (Aj 78 (Ab [Aa 82 0,oP 83 (Ak 82),oP 84 (Ae 1 83),oP 85 (Ah 84),oP 86 (Ay .add 85 1),oP 87 (Ak 82),oP 88 (Ae 1 87),oN (Ax 1 88 86)] (Ab [Aa 89 0,oP 90 (.hcall 45 [(.t 89)]),Aa 5 90] (.seq (Ab [Aa 91 0,oP 92 (.hcall 46 [(.t 91)]),oP 93 (Ay .neq 92 3),Aa 94 93,oG 95 94 false 0 (mT 5),oG 96 94 false 0 (.bin 4 .neq (.t 95) (At [115,117,99])),oG 97 94 false 0 (mT 96),oG 98 97 true 0 (mT 5),oG 99 97 true 0 (.bin 4 .neq (.t 98) (At [109,97,120])),oG 100 94 false 0 (Cf 97 99),oP 101 (Dk 94 100)] (Aj 101 (Ab [Aa 102 0,Aa 103 0,oP 104 (Ak 103),oP 105 (Ae 1 104),oP 106 (Ah 105),oP 107 (.hcall 47 [(.t 102),(.t 106)])] (Ab [oP 2 (.mv (cI 0))] .ret)) .skip)) (Ab [Aa 108 0,oP 109 (Ak 108),oP 110 (Ae 1 109),oP 111 (Ah 110),oP 112 (Ay .add 111 1),oP 113 (Ak 108),oP 114 (Ae 1 113),oN (Ax 1 114 112)] (Ab [Aa 115 0,oP 116 (.hcall 84 [(.t 115)]),Aa 4 116] (.seq (Ab [Aa 117 5,oP 118 (.bin 4 .eql (.t 117) (At [115,117,99]))] (Aj 118 (Bg [Aa 119 4,oP 120 (Ay .add 119 1),Aa 4 120]) (Bg [Aa 121 4,Aa 122 0,oP 123 (.hcall 84 [(.t 122)]),oP 124 (.mnx true (.t 121) (.t 123)),Aa 4 124]))) (Bg [Aa 125 0,oP 126 (.hcall 44 [(.t 125),(cI 2)])]))))))) (Bg [Aa 15 0,Aa 16 0,oP 17 (Ak 16),oP 18 (Ae 1 17),oP 19 (Ah 18),oP 20 (.hcall 47 [(.t 15),(.t 19)])])))))))))) (.seq (Ab [Aa 127 4,oP 128 (Ay .gtr 127 1000)] (Aj 128 (Bg [Aa 129 0,Aa 130 3,oP 131 (.hcall 47 [(.t 129),(.t 130)])]) .skip)) (.seq (Ab [Aa 132 0,oP 133 (Ak 132),oP 134 (Ae 2 133),oP 135 (Ah 134),oP 136 (Ay .geq 135 0)] (Aj 136 (Ab [oP 2 (.mv (cI 0))] .ret) .skip)) (Ab [Aa 137 4,Aa 2 137] .ret)))))))⟩
def tr84:trF Tryz.prog Tryz.f84=some af84:=by kernel_rfl
attribute [go_sem] af84
def af129:AF:=⟨21,[],(.reg [Aa 4 0,⟨(some 5),(.bslice 1 []),none,1,true,[]⟩,oI 6 2 (mT 0),oI 7 3 (Ak 6),oI 8 4 (Ae 5 7),⟨(some 9),(Ah 8),none,5,false,[1]⟩,oI 10 6 (mT 0),oI 11 7 (Ak 10),oI 12 8 (Ae 5 11),⟨(some 13),(Ah 12),none,9,false,[1]⟩,oI 14 10 (.len false (.t 13)),oI 15 11 (mT 1),oI 16 12 (Ca .sub 14 15),⟨(some 17),(.slc 1 (.t 9) none (some (.t 16))),none,13,false,[1]⟩,oI 18 14 (.app 1 16 (.t 5) (.t 17)),oI 19 15 (Ak 4),oI 20 16 (Ae 5 19),oJ 17 (Ax 1 20 18)] true)⟩
def tr129:trF Tryz.prog Tryz.f129=some af129:=by kernel_rfl
attribute [go_sem] af129
def af135:AF:=⟨2,[(.t 0)],(Ab [oP 0 (.mv (.c .nils))] (Ab [oP 1 (.bslice 1 [(At [117,105,112]),(At [102,117,110,101,120,116]),(At [115,121,109]),(At [116,114,97,110,115]),(At [116,114]),(At [104,101,116]),(At [116,121,112]),(At [116,114,104]),(At [104,112]),(At [104,50,101]),(At [101,50,104]),(At [114,112]),(At [99,112,105]),(At [99,115,105,103]),(At [99,108,97,109]),(At [99,97,112,112]),(At [99,112,97,105,114]),(At [99,102,115,116]),(At [99,115,110,100]),(At [99,101,113]),(At [99,114,101,102,108])]),Aa 0 1] .ret))⟩
def tr135:trF Tryz.prog Tryz.f135=some af135:=by kernel_rfl
attribute [go_sem] af135
open Go Go.RowKit Go.Proofs.YtgfehkhcmnfpaaaGreatDoor
def prG(c:RC)(k:Nat)(b:Int)(nm:SV):List SV:=[.dsl 3 (c.L.map De),.int .i64 k,.int .i64 b,.int .i64 c.i,.int .i64 c.j,nm]
def Da(c:RC)(k:Nat):Nat:=if k<c.L.length then (c.tk k).k else 0
def Er(c:RC)(k:Nat):By:=if k<c.L.length then (c.tk k).w else []
def Fk(b:Int)(k:Nat):Int:=if b<0 then k else b
def Pf(c:RC)(i:Nat):Nat:=if i<c.L.length then (c.tk i).p else c.e
def PRel(c:RC)(k:Nat)(b:Int)(s:RS):Prop:=k<=c.L.length+1/\if s.bad then ∃i:Nat,b=i/\i<=c.L.length+1/\s.at_=Pf c i else b=-1/\k=s.k
def PRel.good{c:RC}{k:Nat}{b:Int}{s:RS}(h:PRel c k b s)(hb:s.bad=false):b=-1/\k=s.k:=by
 have:=h.2;rwa [hb,if_neg (by decide)] at this
def PRel.ill{c:RC}{k:Nat}{b:Int}{s:RS}(h:PRel c k b s)(hb:s.bad=true):∃i:Nat,b=i/\i<=c.L.length+1/\s.at_=Pf c i:=by
 have:=h.2;rwa [hb,if_pos rfl] at this
def PRel.le{c:RC}{k:Nat}{b:Int}{s:RS}(h:PRel c k b s):k<=c.L.length+1:=h.1
def PRel.lt0{c:RC}{k:Nat}{b:Int}{s:RS}(h:PRel c k b s):(b<0)↔s.bad=false:=by
 cases hb:s.bad with
 |false=>have:=(h.good hb).1;subst this;simp
 |true=>obtain⟨i,rfl,_⟩:=h.ill hb;simp
def PRel.ill'{c:RC}{k k':Nat}{b:Int}{s s':RS}(h:PRel c k b s)(hb:s.bad=true)(Ea:s'.bad=true)(ha:s'.at_=s.at_)(hk:k'<=c.L.length+1):PRel c k' b s':=by
 obtain⟨i,h1,h2,h3⟩:=h.ill hb;exact⟨hk,by rw[Ea,if_pos rfl];exact⟨i,h1,h2,ha.trans h3⟩⟩
def PRel.fail{c:RC}{k:Nat}{b:Int}{s:RS}(h:PRel c k b s){i k':Nat}(hi:i<=c.L.length+1)(hk:k'<=c.L.length+1):PRel c k' (Fk b i) (Bl c s i):=by
 unfold Bl Fk;cases hb:s.bad with
 |true=>
  have h0:=h.lt0;rw[hb] at h0;rw[if_pos rfl,if_neg (fun k=>by simpa using h0.1 k)];exact h.ill' hb hb rfl hk
 |false=>
  rw[if_neg Bool.false_ne_true,if_pos (h.lt0.2 hb)];exact⟨hk,by simp only[if_true];exact⟨i,rfl,hi,rfl⟩⟩
section
variable{c:RC}{k:Nat}{b:Int}{nm:SV}{G:GV}
def Ng(hc:Dc c):Cj 46 (prG c k b nm::G) [.gp 0 0] (.ret (.int .i64 (Da c k))) (prG c k b nm::G):=by
 have hn:=hc.n;have a10:(c.L.length<=140737488355328)=True:=by simp;omega
 refine Bq mixed Tryz.func46 tr46 ?_;unfold prG Da
 by_cases h:k<c.L.length
 ·obtain⟨a1,a2,a3,a4,a6,a7,a8,a9,a10⟩:=atG hc h;simp only[go_sem,seval,a1,a2,a3,a4,a8,a9,a10,forall_const,q_g,if_true]
 ·have h':¬(k:Int)<(c.L.length:Int):=by omega
  simp only[go_sem,seval,a10,h',h,forall_const,q_g,if_false]
  first|done|rfl
def Vx(hc:Dc c):Cj 45 (prG c k b nm::G) [.gp 0 0] (.ret (.str (bs (Er c k)))) (prG c k b nm::G):=by
 have hn:=hc.n;have a10:(c.L.length<=140737488355328)=True:=by simp;omega
 refine Bq mixed Tryz.func45 tr45 ?_;unfold prG Er
 by_cases h:k<c.L.length
 ·obtain⟨a1,a2,a3,a4,a6,a7,a8,a9,a10⟩:=atG hc h;simp only[go_sem,seval,a1,a2,a3,a4,a8,a9,a10,forall_const,q_g,if_true]
 ·have h':¬(k:Int)<(c.L.length:Int):=by omega
  simp only[go_sem,seval,a10,h',h,forall_const,q_g,if_false]
def Qs(i:Nat):Cj 47 (prG c k b nm::G) [.gp 0 0,.int .i64 i] (.ret (.tup [])) (prG c k (Fk b i) nm::G):=by
 refine Bq mixed Tryz.func47 tr47 ?_;unfold prG Fk
 by_cases h:b<0
 ·simp only[go_sem,seval,h,if_true]
 ·simp only[go_sem,seval,h,if_false]
def Cy(c:RC)(k:Nat)(b:Int)(kd:Nat):By×Nat×Int:=if b<0 then (if Da c k=kd then (Er c k,k+1,b) else ([],k,k)) else ([],k,b)
def Eg(hc:Dc c)(hk:k<=c.L.length+1)(kd:Nat):Cj 44 (prG c k b nm::G) [.gp 0 0,.int .i64 kd] (.ret (.str (bs (Cy c k b kd).1))) (prG c (Cy c k b kd).2.1 (Cy c k b kd).2.2 nm::G):=by
 have hn:=hc.n;have c1:=Ng (k:=k) (b:=b) (nm:=nm) (G:=G) hc;have c2:=Vx (k:=k) (b:=b) (nm:=nm) (G:=G) hc;have c3:=Qs (c:=c) (k:=k) (b:=b) (nm:=nm) (G:=G) k;have w1:IntKind.i64.wrap ((k:Int)+1)=((k+1:Nat):Int):=by rw[w64 (by unfold fit;omega)];omega
 refine Bq mixed Tryz.func44 tr44 ?_;unfold Cy
 by_cases h:b<0
 ·have h2:¬0<=b:=by omega
  rw[show Fk b k=k by unfold Fk;rw[if_pos h]] at c3
  by_cases Tu:Da c k=kd
  ·have e1:((Da c k:Int) != (kd:Int))=false:=by simp[Tu]
   rw[if_pos h,if_pos Tu];unfold prG at *
   repeat' first
   |simp only[go_sem,seval,h2,e1,w1]
   |refine Ac c1 ?_
   |refine Ac c2 ?_
  ·have e1:((Da c k:Int) != (kd:Int))=true:=by rw[bne_iff_ne];omega
   rw[if_pos h,if_neg Tu];unfold prG at *
   repeat' first
   |simp only[go_sem,seval,h2,e1,w1]
   |refine Ac c1 ?_
   |refine Ac c3 ?_
 ·have h2:0<=b:=by omega
  rw[if_neg h];unfold prG at *
  repeat' first
  |simp only[go_sem,seval,h2]
end
def PRel.want{c:RC}{k:Nat}{b:Int}{s:RS}(h:PRel c k b s){kd:Nat}(Tu:kd≠0):PRel c (Cy c k b kd).2.1 (Cy c k b kd).2.2 (Ad c s kd).2/\((Ad c s kd).2.bad=false->(Cy c k b kd).1=(Ad c s kd).1):=by
 unfold Cy Ad Da Er;cases hb:s.bad with
 |true=>
  have h0:=h.lt0;rw[hb] at h0;rw[if_neg (fun k=>by simpa using h0.1 k),if_neg (by simp)];have:Bl c s s.k=s:=by unfold Bl;rw[hb,if_pos rfl]
  rw[this];exact⟨h,fun _=>rfl⟩
 |false=>
  obtain⟨rfl,rfl⟩:=h.good hb;rw[if_pos (show (-1:Int)<0 by decide)]
  by_cases hl:s.k<c.L.length
  ·rw[if_pos hl,if_pos hl]
   by_cases hk:(c.tk s.k).k=kd
   ·rw[if_pos hk,if_pos ⟨rfl,hl,hk⟩];refine⟨⟨show s.k+1<=_ by omega,?_⟩,fun _=>rfl⟩;rw[show s.nx.bad=s.bad from rfl,hb,if_neg (by decide)];exact⟨rfl,rfl⟩
   ·rw[if_neg hk,if_neg (fun k=>hk k.2.2)];have:=h.fail (i:=s.k) (k':=s.k) h.1 h.1;unfold Fk at this;rw[if_pos (show (-1:Int)<0 by decide)] at this;exact⟨this,fun _=>rfl⟩
  ·rw[if_neg hl,if_neg hl,if_neg (Ne.symm Tu),if_neg (fun k=>hl k.2.1)];have:=h.fail (i:=s.k) (k':=s.k) h.1 h.1;unfold Fk at this;rw[if_pos (show (-1:Int)<0 by decide)] at this;exact⟨this,fun _=>rfl⟩
def Axi{c:RC}{s1:RS}{k1 n1 q1 i:Nat}{b1:Int}(h:PRel c k1 b1 s1)(hn:s1.bad=false->n1=q1)(hi:i<=c.L.length+1) :
  PRel c k1 (if 1000<n1 then Fk b1 i else b1) (if s1.bad=false/\1000<q1 then Bl c s1 i else s1):=by
 rcases Bool.eq_false_or_eq_true s1.bad with hb|hb
 ·have e2:(if s1.bad=false/\1000<q1 then Bl c s1 i else s1)=s1:=if_neg (fun k=>by rw[hb] at k;cases k.1);have h0:=h.lt0;rw[hb] at h0;have e:Fk b1 i=b1:=by unfold Fk;rw[if_neg (fun k=>by simpa using h0.1 k)]
  rw[e,ite_self,e2];exact h
 ·rw[<-hn hb]
  by_cases hm:1000<n1
  ·rw[if_pos hm,if_pos ⟨hb,hm⟩];exact h.fail hi h.1
  ·rw[if_neg hm,if_neg (fun k=>hm k.2)];exact h
def Af1(c:RC)(k:Nat)(b:Int)(q:Nat×RS):Prop:=∃(k':Nat) (b':Int) (n:Nat),PRel c k' b' q.2/\(q.2.bad=false->n=q.1)/\n<=1000 /\
 ∀(nm:SV) (G:GV),Cj 84 (prG c k b nm::G) [.gp 0 0] (.ret (.int .i64 n)) (prG c k' b' nm::G)
def Uk{c:RC}{k k1 n1 q1 i:Nat}{b b1:Int}{s1:RS}(h:PRel c k1 b1 s1)(hn:s1.bad=false->n1=q1)(hi:i<=c.L.length+1)
  (hc:∀(nm:SV) (G:GV),Cj 84 (prG c k b nm::G) [.gp 0 0] (.ret (.int .i64 (if (if 1000<n1 then Fk b1 i else b1)<0 then (n1:Int) else 0))) (prG c k1 (if 1000<n1 then Fk b1 i else b1) nm::G)) :
  Af1 c k b (q1,if s1.bad=false/\1000<q1 then Bl c s1 i else s1):=by
 have ht:=Axi h hn hi;have hz:=ht.lt0;refine⟨k1,_,if (if 1000<n1 then Fk b1 i else b1)<0 then n1 else 0,ht,fun hb=>?_,?_,fun nm G=>?_⟩
 ·rw[if_pos (hz.2 hb)];refine hn ?_;cases hb1:s1.bad with
  |false=>rfl
  |true=>rw[if_neg (fun k=>by rw[hb1] at k;cases k.1)] at hb;rw[hb] at hb1;cases hb1
 ·by_cases Am:(if 1000<n1 then Fk b1 i else b1)<0
  ·rw[if_pos Am]
   by_cases hm:1000<n1
   ·exfalso;rw[if_pos hm] at Am;unfold Fk at Am;split at Am<;>omega
   ·omega
  ·rw[if_neg Am];exact Nat.zero_le _
 ·have e:((if (if 1000<n1 then Fk b1 i else b1)<0 then n1 else 0:Nat):Int)=if (if 1000<n1 then Fk b1 i else b1)<0 then (n1:Int) else 0:=by generalize (if 1000<n1 then Fk b1 i else b1)=z;split<;>rfl
  rw[e];exact hc nm G
def Axd{c:RC}:∀(f:Nat) (s:RS),s.bad=true->(Af c f s).2.bad=true:=by
 intro f s h;cases f with
 |zero=>exact h
 |succ f=>
  rw[Af,if_neg (fun k=>by rw[h] at k;cases k.1)];show (Bl c s s.k).bad=true;unfold Bl;rw[if_pos h];exact h
def Hp{c:RC}(hc:Dc c):∀(f k:Nat) (b:Int) (s:RS),PRel c k b s->c.L.length-s.k<f->Af1 c k b (Af c f s):=by
 have hn:=hc.n;have Mg:=hc.i;have hcj:=hc.j;intro f
 induction f with
 |zero=>intro k b s _ h;omega
 |succ f ih=>
  intro k b s h hm;cases hb:s.bad with
  |true=>
   have h2:0<=b:=by obtain⟨i,rfl,_⟩:=h.ill hb;omega
   have e:Af c (f+1) s=(0,s):=by
    rw[Af,if_neg (fun k=>by rw[hb] at k;cases k.1)];unfold Bl;rw[if_pos hb]
   rw[e];refine⟨k,b,0,h,fun _=>rfl,Nat.zero_le _,fun nm G=>?_⟩;refine Bq mixed Tryz.func84 tr84 ?_;unfold prG;simp only[go_sem,seval,h2]
   first|done|rfl
  |false=>
  obtain⟨rfl,rfl⟩:=h.good hb;have hk:=h.1;have cK:=fun (k:Nat) (nm:SV) (G:GV)=>Ng (k:=k) (b:=-1) (nm:=nm) (G:=G) hc
  have cW:=fun (k:Nat) (nm:SV) (G:GV)=>Vx (k:=k) (b:=-1) (nm:=nm) (G:=G) hc
  have cF:=fun (k i:Nat) (nm:SV) (G:GV)=>Qs (c:=c) (k:=k) (b:=-1) (nm:=nm) (G:=G) i
  have eF:∀i:Nat,Fk (-1) i=i:=fun i=>by unfold Fk;rw[if_pos (by decide)]
  simp only[eF] at cF
  -- a fault at a word
  have bad0:∀(j i:Nat),j<=c.L.length+1->i<=c.L.length+1->PRel c j i (Bl c s i):=fun j i hj hi=>by
   have:=h.fail (i:=i) (k':=j) hi hj
   rwa [eF] at this
  have fb:∀i,(Bl c s i).bad=true:=fun i=>by unfold Bl;rw[hb];rfl
  have w1:∀j:Nat,j<=c.L.length+1->IntKind.i64.wrap ((j:Int)+1)=((j+1:Nat):Int):=fun j hj=>by rw[w64 (by unfold fit;omega)];omega
  by_cases hl:s.k<c.L.length
  rotate_left
  ·have e:Af c (f+1) s=(0,Bl c s s.k):=by rw[Af,if_neg (fun k=>hl k.2)]
   rw[e];refine⟨s.k,s.k,0,bad0 _ _ hk hk,fun _=>rfl,Nat.zero_le _,fun nm G=>?_⟩;have k0:Da c s.k=0:=by unfold Da;rw[if_neg hl]
   have c1:=cK s.k nm G;have c3:=cF s.k s.k nm G;rw[k0] at c1;simp only[Int.cast_ofNat_Int] at c1;have m3:0<=(s.k:Int):=by omega
   refine Bq mixed Tryz.func84 tr84 ?_;unfold prG at *
   repeat' first
   |simp only[go_sem,seval,m3]
   |refine Ac c1 ?_
   |refine Ac c3 ?_
   |rfl
  have k0:Da c s.k=(c.tk s.k).k:=by unfold Da;rw[if_pos hl]
  have x0:Er c s.k=(c.tk s.k).w:=by unfold Er;rw[if_pos hl]
  have hP1:PRel c (s.k+1) (-1) s.nx:=⟨by omega,by rw[show s.nx.bad=s.bad from rfl,hb,if_neg (by decide)];exact⟨rfl,rfl⟩⟩
  have e0:Af c (f+1) s=(let q:Nat×RS:=
    if (c.tk s.k).k=4 then ((Do (c.tk s.k).w).getD 0,s.nx)
    else if (c.tk s.k).k=3/\(c.tk s.k).w=[105] then (c.i,s.nx)
    else if (c.tk s.k).k=3/\(c.tk s.k).w=[106] then (c.j,s.nx)
    else if (c.tk s.k).k=1 then Fw c (Af c f) s.nx
    else (0,Bl c s s.k)
   (q.1,if q.2.bad=false/\1000<q.1 then Bl c q.2 s.k else q.2)):=by rw[Af,if_pos ⟨hb,hl⟩]
  rw[e0];clear e0;have hw:=w1 s.k (by omega)
  by_cases t4:(c.tk s.k).k=4
  ·simp only[if_pos t4];refine Uk (k1:=s.k+1) (b1:=-1) (n1:=(Do (c.tk s.k).w).getD 0) hP1 (fun _=>rfl) hk (fun nm G=>?_);have c1:=cK s.k nm G;have c2:=cW s.k nm G;have c3:=cF (s.k+1) s.k nm G;have cg:=Ag1 (c.tk s.k).w;rw[k0,t4] at c1;rw[x0] at c2;simp only[eF];refine Bq mixed Tryz.func84 tr84 ?_;generalize (Do (c.tk s.k).w).getD 0=n at *
   by_cases hm:1000<n
   ·have m1:1000<(n:Int):=by omega
    have m2:¬((s.k:Int)<0):=by omega
    have m3:0<=(s.k:Int):=by omega
    simp only[if_pos hm,if_neg m2];unfold prG at *
    repeat' first
    |simp only[go_sem,seval,hw,m1,m2,m3]
    |refine Ac c1 ?_
    |refine Ac c2 ?_
    |refine Ag cg ?_
    |refine Ac c3 ?_
   ·have m1:¬1000<(n:Int):=by omega
    simp only[if_neg hm,show ((-1:Int)<0)=True from by decide,if_true];unfold prG at *
    repeat' first
    |simp only[go_sem,seval,hw,m1]
    |refine Ac c1 ?_
    |refine Ac c2 ?_
    |refine Ag cg ?_
  simp only[if_neg t4];have e4:((((c.tk s.k).k:Nat):Int)==4)=false:=by rw[beq_eq_false_iff_ne];omega
  have m0:((-1:Int)<0)=True:=by decide
  by_cases t3:(c.tk s.k).k=3/\(c.tk s.k).w=[105]
  ·simp only[if_pos t3];refine Uk (k1:=s.k+1) (b1:=-1) (n1:=c.i) hP1 (fun _=>rfl) hk (fun nm G=>?_);have c1:=cK s.k nm G;have c2:=cW s.k nm G;rw[k0,t3.1] at c1;rw[x0,t3.2] at c2;have m1:¬1000<(c.i:Int):=by omega
   simp only[if_neg (show ¬1000<c.i by omega),m0,if_true];refine Bq mixed Tryz.func84 tr84 ?_;unfold prG at *
   repeat' first
   |simp only[go_sem,seval,hw,m1,beq_self_eq_true]
   |refine Ac c1 ?_
   |refine Ac c2 ?_
  simp only[if_neg t3]
  by_cases t5:(c.tk s.k).k=3/\(c.tk s.k).w=[106]
  ·simp only[if_pos t5];refine Uk (k1:=s.k+1) (b1:=-1) (n1:=c.j) hP1 (fun _=>rfl) hk (fun nm G=>?_);have c1:=cK s.k nm G;have c2:=cW s.k nm G;rw[k0,t5.1] at c1;rw[x0,t5.2] at c2;have m1:¬1000<(c.j:Int):=by omega
   simp only[if_neg (show ¬1000<c.j by omega),m0,if_true];refine Bq mixed Tryz.func84 tr84 ?_;have b1:(([106]:By)==[105])=false:=by decide
   unfold prG at *
   repeat' first
   |simp only[go_sem,seval,hw,m1,beq_self_eq_true,b1]
   |refine Ac c1 ?_
   |refine Ac c2 ?_
  simp only[if_neg t5]
  -- neither a number nor i nor j
  have w5:(c.tk s.k).k=3->((c.tk s.k).w==[105])=false/\((c.tk s.k).w==[106])=false:=fun h3=>⟨by rw[beq_eq_false_iff_ne];exact fun h=>t3 ⟨h3,h⟩,by rw[beq_eq_false_iff_ne];exact fun h=>t5 ⟨h3,h⟩⟩
  by_cases t1:(c.tk s.k).k=1
  rotate_left
  ·simp only[if_neg t1];have e1:((((c.tk s.k).k:Nat):Int)==1)=false:=by rw[beq_eq_false_iff_ne];omega
   have hlo:=Uk (c:=c) (k:=s.k) (b:=-1) (k1:=s.k) (b1:=s.k) (n1:=0) (q1:=0) (i:=s.k) (bad0 _ _ hk hk) (fun _=>rfl) hk;refine hlo (fun nm G=>?_);clear hlo;have c1:=cK s.k nm G;have c2:=cW s.k nm G;have c3:=cF s.k s.k nm G;rw[k0] at c1;rw[x0] at c2;have m2:¬((s.k:Int)<0):=by omega
   have m3:0<=(s.k:Int):=by omega
   simp only[if_neg (show ¬1000<0 by decide),if_neg m2];refine Bq mixed Tryz.func84 tr84 ?_
   by_cases h3:(c.tk s.k).k=3
   ·obtain⟨v1,v2⟩:=w5 h3;have e3:((((c.tk s.k).k:Nat):Int)==3)=true:=by rw[beq_iff_eq];omega
    unfold prG at *
    repeat' first
    |simp only[go_sem,seval,e4,e3,e1,v1,v2,m2,m3]
    |refine Ac c1 ?_
    |refine Ac c2 ?_
    |refine Ac c3 ?_
   ·have e3:((((c.tk s.k).k:Nat):Int)==3)=false:=by rw[beq_eq_false_iff_ne];omega
    unfold prG at *
    repeat' first
    |simp only[go_sem,seval,e4,e3,e1,m2,m3]
    |refine Ac c1 ?_
    |refine Ac c3 ?_
  simp only[if_pos t1];have e3:((((1:Nat):Nat):Int)==3)=false:=by decide
  have e41:((((1:Nat):Nat):Int)==4)=false:=by decide
  have e11:((((1:Nat):Nat):Int)==1)=true:=by decide
  have hw2:=w1 (s.k+1) (by omega);have Mn:s.nx.k=s.k+1:=rfl;have Yx:∀(u:RS),(Ad c u 2).2.bad=false->u.bad=false:=fun u hu=>by
   rcases Bool.eq_false_or_eq_true u.bad with h'|h'
   ·unfold Ad Bl at hu;rw[if_neg (fun k=>by rw[h'] at k;cases k.1),if_pos h'] at hu;exact hu
   ·exact h'
  by_cases hg:s.k+1<c.L.length/\(c.tk (s.k+1)).k=3/\((c.tk (s.k+1)).w=[115,117,99]\/(c.tk (s.k+1)).w=[109,97,120])
  rotate_left
  ·have em:Fw c (Af c f) s.nx=(0,Bl c s.nx (s.k+1)):=by
    unfold Fw;rw[Mn,if_neg (fun k=>hg ⟨k.1,k.2.1,.inl k.2.2⟩),if_neg (fun k=>hg ⟨k.1,k.2.1,.inr k.2.2⟩)];have:(Ad c (Bl c s.nx (s.k+1)) 2).2=Bl c s.nx (s.k+1):=by
     unfold Ad;rw[if_neg (fun k=>by have:=k.1;unfold Bl at this;rw[show s.nx.bad=s.bad from rfl,hb] at this;cases this)];show Bl c (Bl c s.nx (s.k+1)) _=_;generalize hu:Bl c s.nx (s.k+1)=u;have hub:u.bad=true:=by rw[<-hu];unfold Bl;rw[show s.nx.bad=s.bad from rfl,hb];rfl
     unfold Bl;rw[if_pos hub]
    simp only[this]
   rw[em];have hf:=hP1.fail (i:=s.k+1) (k':=s.k+1) (by omega) (by omega);rw[eF] at hf;have Fo:(Bl c s.nx (s.k+1)).bad=true:=by unfold Bl;rw[show s.nx.bad=s.bad from rfl,hb];rfl
   have hlo:=Uk (c:=c) (k:=s.k) (b:=-1) (k1:=s.k+1) (b1:=((s.k+1:Nat):Int)) (n1:=0) (q1:=0) (i:=s.k) hf (fun _=>rfl) hk;refine hlo (fun nm G=>?_);clear hlo;have c1:=cK s.k nm G;have c2:=cW (s.k+1) nm G;have c3:=cK (s.k+1) nm G;have c4:=cF (s.k+1) (s.k+1) nm G;rw[k0,t1] at c1;have m2:¬(((s.k+1:Nat):Int)<0):=by omega
   have m3:0<=((s.k+1:Nat):Int):=by omega
   simp only[if_neg (show ¬1000<0 by decide),if_neg m2];refine Bq mixed Tryz.func84 tr84 ?_
   by_cases h3:Da c (s.k+1)=3
   ·have hl2:s.k+1<c.L.length:=by
     rcases q_jo (s.k+1) c.L.length with h'|h'
     ·exact h'
     ·unfold Da at h3;rw[if_neg (by omega)] at h3;cases h3
    have Dt:(c.tk (s.k+1)).k=3:=by unfold Da at h3;rwa [if_pos hl2] at h3
    have Ow:Er c (s.k+1)=(c.tk (s.k+1)).w:=by unfold Er;rw[if_pos hl2]
    have v1:(Er c (s.k+1)==[115,117,99])=false:=by rw[beq_eq_false_iff_ne,Ow];exact fun h=>hg ⟨hl2,Dt,.inl h⟩
    have v2:(Er c (s.k+1)==[109,97,120])=false:=by rw[beq_eq_false_iff_ne,Ow];exact fun h=>hg ⟨hl2,Dt,.inr h⟩
    have v8:(Er c (s.k+1) != [115,117,99])=true:=by rw[bne,v1];rfl
    have v9:(Er c (s.k+1) != [109,97,120])=true:=by rw[bne,v2];rfl
    rw[h3] at c3;have e6:((((3:Nat):Nat):Int) != 3)=false:=by decide
    unfold prG at *
    repeat' first
    |simp only[go_sem,seval,e3,e41,e11,e6,hw,v1,v2,v8,v9,m2,m3]
    |refine Ac c1 ?_
    |refine Ac c2 ?_
    |refine Ac c3 ?_
    |refine Ac c4 ?_
   ·have e6:(((Da c (s.k+1):Nat):Int) != 3)=true:=by rw[bne_iff_ne];omega
    unfold prG at *
    repeat' first
    |simp only[go_sem,seval,e3,e41,e11,e6,hw,m2,m3]
    |refine Ac c1 ?_
    |refine Ac c2 ?_
    |refine Ac c3 ?_
    |refine Ac c4 ?_
  obtain⟨hl2,Dt,Ow⟩:=hg;have k3:Da c (s.k+1)=3:=by unfold Da;rw[if_pos hl2];exact Dt
  have x3:Er c (s.k+1)=(c.tk (s.k+1)).w:=by unfold Er;rw[if_pos hl2]
  have e6:((((3:Nat):Nat):Int) != 3)=false:=by decide
  have Yd:PRel c (s.k+1+1) (-1) s.nx.nx:=⟨by omega,by rw[show s.nx.nx.bad=s.bad from rfl,hb,if_neg (by decide)];exact⟨rfl,rfl⟩⟩
  obtain⟨k2,b2,n2,hQ2,Sg,hle2,hc2⟩:=ih _ _ s.nx.nx Yd (by have:s.nx.nx.k=s.k+2:=rfl;omega);have v3:(([115,117,99]:By) != [115,117,99])=false:=by decide
  have v4:(([109,97,120]:By) != [109,97,120])=false:=by decide
  have v5:(([109,97,120]:By) != [115,117,99])=true:=by decide
  have v6:(([115,117,99]:By)==[115,117,99])=true:=by decide
  have v7:(([109,97,120]:By)==[115,117,99])=false:=by decide
  rcases Ow with Ow|Ow
  ·have em:Fw c (Af c f) s.nx=((Af c f s.nx.nx).1+1,(Ad c (Af c f s.nx.nx).2 2).2):=by
    unfold Fw;rw[if_pos ⟨hl2,Dt,Ow⟩]
   rw[em];have hW:=hQ2.want (kd:=2) (by decide);refine Uk (n1:=n2+1) hW.1 (fun Ji=>by rw[Sg (Yx _ Ji)]) hk (fun nm G=>?_);have c1:=cK s.k nm G;have c2:=cW (s.k+1) nm G;have c3:=cK (s.k+1) nm G;have c5:=hc2 nm G;have c6:=Eg (nm:=nm) (G:=G) (b:=b2) hc hQ2.1 2;rw[k0,t1] at c1;rw[x3,Ow] at c2;rw[k3] at c3;clear hW hQ2 Sg hc2 ih;generalize hwp:Cy c k2 b2 2=wp at *
   obtain⟨ww,kw,bw⟩:=wp;have c7:=Qs (c:=c) (k:=kw) (b:=bw) (nm:=nm) (G:=G) s.k;dsimp only at c6 |-;have Qp:IntKind.i64.wrap ((n2:Int)+1)=((n2+1:Nat):Int):=by rw[w64 (by unfold fit;omega)];omega
   generalize hN1:(n2+1)=N1 at *
   refine Bq mixed Tryz.func84 tr84 ?_
   by_cases Yv:1000<N1
   ·have m1:1000<(N1:Int):=by omega
    simp only[if_pos Yv];generalize Fk bw s.k=z at *
    by_cases hz:z<0
    ·have Ic:¬0<=z:=by omega
     simp only[if_pos hz];unfold prG at *
     repeat' first
     |simp only[go_sem,seval,e4,hw,hw2,m1,Ic,e3,e41,e11,e6,v3,v6,Qp]
     |refine Ac c1 ?_
     |refine Ac c2 ?_
     |refine Ac c3 ?_
     |refine Ac c5 ?_
     |refine Ac c6 ?_
     |refine Ac c7 ?_
    ·have Ic:0<=z:=by omega
     simp only[if_neg hz];unfold prG at *
     repeat' first
     |simp only[go_sem,seval,e4,hw,hw2,m1,Ic,e3,e41,e11,e6,v3,v6,Qp]
     |refine Ac c1 ?_
     |refine Ac c2 ?_
     |refine Ac c3 ?_
     |refine Ac c5 ?_
     |refine Ac c6 ?_
     |refine Ac c7 ?_
   ·have m1:¬1000<(N1:Int):=by omega
    simp only[if_neg Yv]
    by_cases hz:bw<0
    ·have Ic:¬0<=bw:=by omega
     simp only[if_pos hz];unfold prG at *
     repeat' first
     |simp only[go_sem,seval,e4,hw,hw2,m1,Ic,e3,e41,e11,e6,v3,v6,Qp]
     |refine Ac c1 ?_
     |refine Ac c2 ?_
     |refine Ac c3 ?_
     |refine Ac c5 ?_
     |refine Ac c6 ?_
     |refine Ac c7 ?_
    ·have Ic:0<=bw:=by omega
     simp only[if_neg hz];unfold prG at *
     repeat' first
     |simp only[go_sem,seval,e4,hw,hw2,m1,Ic,e3,e41,e11,e6,v3,v6,Qp]
     |refine Ac c1 ?_
     |refine Ac c2 ?_
     |refine Ac c3 ?_
     |refine Ac c5 ?_
     |refine Ac c6 ?_
     |refine Ac c7 ?_
  ·have em:Fw c (Af c f) s.nx=(max (Af c f s.nx.nx).1 (Af c f (Af c f s.nx.nx).2).1,(Ad c (Af c f (Af c f s.nx.nx).2).2 2).2):=by
    unfold Fw;rw[if_neg (fun k=>by have:=k.2.2;rw[Mn,Ow] at this;exact absurd this (by decide)),if_pos ⟨hl2,Dt,Ow⟩]
   rw[em];have hmon:=Ei (c:=c) f s.nx.nx;obtain⟨k4,b4,n4,hQ4,hn4,hle4,hc4⟩:=ih _ _ (Af c f s.nx.nx).2 hQ2 (by have:s.nx.nx.k=s.k+2:=rfl;omega);have hW:=hQ4.want (kd:=2) (by decide);have Mf:(Af c f (Af c f s.nx.nx).2).2.bad=false->(Af c f s.nx.nx).2.bad=false:=fun hu=>by
    rcases Bool.eq_false_or_eq_true (Af c f s.nx.nx).2.bad with h'|h'
    ·exfalso;have:=Axd f _ h' (c:=c);rw[this] at hu;cases hu
    ·exact h'
   refine Uk (n1:=max n2 n4) hW.1 (fun Ji=>by rw[hn4 (Yx _ Ji),Sg (Mf (Yx _ Ji))]) hk (fun nm G=>?_);have c1:=cK s.k nm G;have c2:=cW (s.k+1) nm G;have c3:=cK (s.k+1) nm G;have c5:=hc2 nm G;have c8:=hc4 nm G;have c6:=Eg (nm:=nm) (G:=G) (b:=b4) hc hQ4.1 2;rw[k0,t1] at c1;rw[x3,Ow] at c2;rw[k3] at c3;clear hW hQ2 Sg hc2 ih hQ4 hn4 hc4;generalize hwp:Cy c k4 b4 2=wp at *
   obtain⟨ww,kw,bw⟩:=wp;have c7:=Qs (c:=c) (k:=kw) (b:=bw) (nm:=nm) (G:=G) s.k;dsimp only at c6 |-;have Qp:(if (n2:Int)<(n4:Int) then (n4:Int) else (n2:Int))=((max n2 n4:Nat):Int):=by split<;>omega
   generalize hN1:(max n2 n4)=N1 at *
   refine Bq mixed Tryz.func84 tr84 ?_
   by_cases Yv:1000<N1
   ·have m1:1000<(N1:Int):=by omega
    simp only[if_pos Yv];generalize Fk bw s.k=z at *
    by_cases hz:z<0
    ·have Ic:¬0<=z:=by omega
     simp only[if_pos hz];unfold prG at *
     repeat' first
     |simp only[go_sem,seval,e4,hw,hw2,m1,Ic,e3,e41,e11,e6,v4,v5,v7,Qp]
     |refine Ac c1 ?_
     |refine Ac c2 ?_
     |refine Ac c3 ?_
     |refine Ac c5 ?_
     |refine Ac c8 ?_
     |refine Ac c6 ?_
     |refine Ac c7 ?_
    ·have Ic:0<=z:=by omega
     simp only[if_neg hz];unfold prG at *
     repeat' first
     |simp only[go_sem,seval,e4,hw,hw2,m1,Ic,e3,e41,e11,e6,v4,v5,v7,Qp]
     |refine Ac c1 ?_
     |refine Ac c2 ?_
     |refine Ac c3 ?_
     |refine Ac c5 ?_
     |refine Ac c8 ?_
     |refine Ac c6 ?_
     |refine Ac c7 ?_
   ·have m1:¬1000<(N1:Int):=by omega
    simp only[if_neg Yv]
    by_cases hz:bw<0
    ·have Ic:¬0<=bw:=by omega
     simp only[if_pos hz];unfold prG at *
     repeat' first
     |simp only[go_sem,seval,e4,hw,hw2,m1,Ic,e3,e41,e11,e6,v4,v5,v7,Qp]
     |refine Ac c1 ?_
     |refine Ac c2 ?_
     |refine Ac c3 ?_
     |refine Ac c5 ?_
     |refine Ac c8 ?_
     |refine Ac c6 ?_
     |refine Ac c7 ?_
    ·have Ic:0<=bw:=by omega
     simp only[if_neg hz];unfold prG at *
     repeat' first
     |simp only[go_sem,seval,e4,hw,hw2,m1,Ic,e3,e41,e11,e6,v4,v5,v7,Qp]
     |refine Ac c1 ?_
     |refine Ac c2 ?_
     |refine Ac c3 ?_
     |refine Ac c5 ?_
     |refine Ac c8 ?_
     |refine Ac c6 ?_
     |refine Ac c7 ?_
section
variable{c:RC}{nm:SV}{s:RS}{G:GV}
def wkR{n:Nat}(h:n<1000000000000):IntKind.i64.wrap ((n:Int)+1)=((n+1:Nat):Int):=by rw[w64 (by unfold fit;omega)];omega
def Avs(hc:Dc c){lev:RS->Nat×RS}(hl:∀s',s.k<s'.k->Cj 213 (rdS c nm s'::G) [.gp 0 0] (.ret (.int .i64 (lev s').1)) (rdS c nm (lev s').2::G))(hk:∀s',s'.k<=(lev s').2.k)(hv:∀s',(lev s').1<1000000000000) :
  Cj 228 (rdS c nm s::G) [.gp 0 0] (.ret (.int .i64 (Fw c lev s).1)) (rdS c nm (Fw c lev s).2::G):=by
 have cf:=Oj (nm:=nm) (s:=s) (G:=G) hc s.k;have l1:=hl s.nx (Nat.lt_succ_self _);have l2:=hl (lev s.nx).2 (q_ko (Nat.lt_succ_self _) (hk s.nx));have n1:=Cs (nm:=nm) (s:=(lev s.nx).2) (G:=G) hc 2;have n2:=Cs (nm:=nm) (s:=(lev (lev s.nx).2).2) (G:=G) hc 2;have n3:=Cs (nm:=nm) (s:=Bl c s s.k) (G:=G) hc 2;have v1:=wkR (hv s.nx);refine Bq mixed Tryz.func228 tr228 ?_;have hn:=hc.n;have a10:(c.L.length<=140737488355328)=True:=by simp;omega
 unfold Fw;have hmx:∀a b:Nat,((max a b:Nat):Int)=if (a:Int)<(b:Int) then (b:Int) else (a:Int):=fun a b=>by split<;>omega
 generalize lev s.nx=q1 at *
 obtain⟨v,s1⟩:=q1;simp only at *
 generalize lev s1=q2 at *
 obtain⟨v2,s2⟩:=q2;simp only at *
 generalize Bl c s s.k=sf at *
 by_cases h:s.k<c.L.length
 ·obtain⟨a1,a2,a3,a4,a6,a7,a8,a9,a10⟩:=atG hc h;unfold RS.nx at l1;unfold rdS at *
  by_cases Dt:(c.tk s.k).k=3
  ·have k3:(((c.tk s.k).k:Int)==3)=true:=by simp[Dt]
   by_cases hs:(c.tk s.k).w=[115,117,99]
   ·have Ub:((c.tk s.k).w==[115,117,99])=true:=by simp[hs]
    rw[if_pos ⟨h,Dt,hs⟩]
    repeat' first
    |simp only[go_sem,seval,a1,a2,a3,a4,a6,a10,q_jn a2,q_g,k3,Ub,v1,forall_const]
    |refine Ac l1 ?_
    |refine Ac n1 ?_
   ·have Ub:((c.tk s.k).w==[115,117,99])=false:=by simp[hs]
    rw[if_neg (fun k=>hs k.2.2)]
    by_cases hm:(c.tk s.k).w=[109,97,120]
    ·have hm':((c.tk s.k).w==[109,97,120])=true:=by simp[hm]
     rw[if_pos ⟨h,Dt,hm⟩]
     repeat' first
     |simp only[go_sem,seval,a1,a2,a3,a4,a6,a10,q_jn a2,q_g,k3,Ub,hm',hmx,forall_const]
     |refine Ac l1 ?_
     |refine Ac l2 ?_
     |refine Ac n2 ?_
    ·have hm':((c.tk s.k).w==[109,97,120])=false:=by simp[hm]
     rw[if_neg (fun k=>hm k.2.2)]
     repeat' first
     |simp only[go_sem,seval,a1,a2,a3,a4,a6,a10,q_jn a2,q_g,k3,Ub,hm',forall_const]
     |refine Ac cf ?_
     |refine Ac n3 ?_
  ·have k3:(((c.tk s.k).k:Int)==3)=false:=by simp;omega
   rw[if_neg (fun k=>Dt k.2.1),if_neg (fun k=>Dt k.2.1)]
   repeat' first
   |simp only[go_sem,seval,a1,a2,a3,a4,a6,a10,q_jn a2,q_g,k3,forall_const]
   |refine Ac cf ?_
   |refine Ac n3 ?_
 ·rw[if_neg (fun k=>h k.1),if_neg (fun k=>h k.1)];unfold rdS at *
  repeat' first
  |simp only[go_sem,seval,a10,q_je (show ¬(s.k:Int)<(c.L.length:Int) by omega),q_g,forall_const]
  |refine Ac cf ?_
  |refine Ac n3 ?_
def Lu(hc:Dc c):∀(f:Nat) (s:RS),f<=c.L.length+1->c.L.length<s.k+f->(0<f)->Cj 213 (rdS c nm s::G) [.gp 0 0] (.ret (.int .i64 (Af c f s).1)) (rdS c nm (Af c f s).2::G):=by
 intro f
 induction f with
 |zero=>intro s _ _ h0;omega
 |succ f ih=>
  intro s hf hs _;have cf:=Oj (nm:=nm) (s:=s) (G:=G) hc s.k;have hn:=hc.n;have hi:=hc.i;have hj:=hc.j;have a10:(c.L.length<=140737488355328)=True:=by simp;omega
  refine Bq mixed Tryz.func213 tr213 ?_;obtain⟨sk,sb,sa,D⟩:=s;simp only at hs;unfold Af;cases sb;rotate_left
  ·rw[if_neg (by simp)];unfold rdS at cf |-;simp only[go_sem,seval];refine Ac cf ?_;simp only[go_sem,seval]
  by_cases h:sk<c.L.length
  rotate_left
  ·rw[if_neg (fun k=>h k.2)];unfold rdS at cf |-;simp only[go_sem,seval,a10,q_jn (show (sk:Int) >= (c.L.length:Int) by omega),q_g,forall_const];refine Ac cf ?_;simp only[go_sem,seval]
  rw[if_pos ⟨rfl,h⟩];obtain⟨a1,a2,a3,a4,a6,a7,a8,a9,a10⟩:=atG hc h;have cg:=Ab8 (c.tk sk).w;have hgl:=Ah0 (c.tk sk).w
  by_cases hk4:(c.tk sk).k=4
  ·simp only[if_pos hk4,RS.nx];have k4:(((c.tk sk).k:Int)==4)=true:=by simp[hk4]
   have cf2:=Oj (nm:=nm) (s:=⟨sk+1,false,sa,D⟩) (G:=G) hc sk;unfold rdS at cf cf2 |-
   by_cases Gn:1000<(Do (c.tk sk).w).getD 0
   ·rw[if_pos ⟨by first|rfl|trivial,Gn⟩]
    repeat' first
    |simp only[go_sem,seval,a1,a2,a3,a4,a6,a10,q_je a8,q_g,k4,q_jn (show (((Do (c.tk sk).w).getD 0:Nat):Int) > 1000 by omega),forall_const]
    |refine Ag cg ?_
    |refine Ac cf2 ?_
   ·rw[if_neg (fun k=>Gn k.2)]
    repeat' first
    |simp only[go_sem,seval,a1,a2,a3,a4,a6,a10,q_je a8,q_g,k4,q_je (show ¬(((Do (c.tk sk).w).getD 0:Nat):Int) > 1000 by omega),forall_const]
    |refine Ag cg ?_
  have k4:(((c.tk sk).k:Int)==4)=false:=by simp;omega
  simp only[if_neg hk4]
  by_cases Dt:(c.tk sk).k=3
  ·have k3:(((c.tk sk).k:Int)==3)=true:=by simp[Dt]
   have k1:(((c.tk sk).k:Int)==1)=false:=by simp[Dt]
   have h1:¬(c.tk sk).k=1:=by omega
   by_cases Ni:(c.tk sk).w=[105]
   ·have Eh:((c.tk sk).w==[105])=true:=by simp[Ni]
    simp only[if_pos (show (c.tk sk).k=3/\(c.tk sk).w=[105] from ⟨Dt,Ni⟩),RS.nx];rw[if_neg (fun k=>by have:=k.2;omega)];unfold rdS at cf |-
    repeat' first
    |simp only[go_sem,seval,a1,a2,a3,a4,a6,a10,q_je a8,q_g,k4,k3,Eh,q_je (show ¬((c.i:Nat):Int) > 1000 by omega),forall_const]
   have Eh:((c.tk sk).w==[105])=false:=by simp[Ni]
   simp only[if_neg (show ¬((c.tk sk).k=3/\(c.tk sk).w=[105]) from fun k=>Ni k.2)]
   by_cases hj1:(c.tk sk).w=[106]
   ·have Lc:((c.tk sk).w==[106])=true:=by simp[hj1]
    simp only[if_pos (show (c.tk sk).k=3/\(c.tk sk).w=[106] from ⟨Dt,hj1⟩),RS.nx];rw[if_neg (fun k=>by have:=k.2;omega)];unfold rdS at cf |-
    repeat' first
    |simp only[go_sem,seval,a1,a2,a3,a4,a6,a10,q_je a8,q_g,k4,k3,Eh,Lc,q_je (show ¬((c.j:Nat):Int) > 1000 by omega),forall_const]
   have Lc:((c.tk sk).w==[106])=false:=by simp[hj1]
   simp only[if_neg (show ¬((c.tk sk).k=3/\(c.tk sk).w=[106]) from fun k=>hj1 k.2),if_neg h1];rw[if_neg (by simp[Bl])];have Fo:(Bl c ⟨sk,false,sa,D⟩ sk).bad=true:=by simp[Bl]
   unfold rdS at cf |-;generalize Bl c ⟨sk,false,sa,D⟩ sk=sf at *
   repeat' first
   |simp only[go_sem,seval,a1,a2,a3,a4,a6,a10,q_je a8,q_g,k4,k3,k1,Eh,Lc,Fo,forall_const]
   |refine Ac cf ?_
  have k3:(((c.tk sk).k:Int)==3)=false:=by simp;omega
  simp only[if_neg (show ¬((c.tk sk).k=3/\(c.tk sk).w=[105]) from fun k=>Dt k.1),if_neg (show ¬((c.tk sk).k=3/\(c.tk sk).w=[106]) from fun k=>Dt k.1)]
  by_cases Ff:(c.tk sk).k=1
  ·have k1:(((c.tk sk).k:Int)==1)=true:=by simp[Ff]
   simp only[if_pos Ff];have cm:=Avs (nm:=nm) (s:=RS.nx ⟨sk,false,sa,D⟩) (G:=G) hc (lev:=Af c f) (fun s' Ub=>by
    have Ub:sk+1<s'.k:=Ub;rcases Nat.eq_zero_or_pos f with h0|h0
    ·subst h0;omega
    ·exact ih s' (by omega) (by omega) h0) (Ei f) (fun s'=>by have:=Axe hc f s';omega)
   have cf2:=Oj (nm:=nm) (s:=(Fw c (Af c f) (RS.nx ⟨sk,false,sa,D⟩)).2) (G:=G) hc sk;generalize Fw c (Af c f) (RS.nx ⟨sk,false,sa,D⟩)=q at *
   obtain⟨v,sq,bq,aq,Dq⟩:=q;unfold RS.nx at cm;unfold rdS at *
   simp only at *
   cases bq
   ·by_cases Gn:1000<v
    ·rw[if_pos ⟨by first|rfl|trivial,Gn⟩]
     repeat' first
     |simp only[go_sem,seval,a1,a2,a3,a4,a6,a10,q_je a8,q_g,k4,k3,k1,q_jn (show ((v:Nat):Int) > 1000 by omega),forall_const]
     |refine Ac cm ?_
     |refine Ac cf2 ?_
    ·rw[if_neg (fun k=>Gn k.2)]
     repeat' first
     |simp only[go_sem,seval,a1,a2,a3,a4,a6,a10,q_je a8,q_g,k4,k3,k1,q_je (show ¬((v:Nat):Int) > 1000 by omega),forall_const]
     |refine Ac cm ?_
   ·rw[if_neg (by simp)]
    repeat' first
    |simp only[go_sem,seval,a1,a2,a3,a4,a6,a10,q_je a8,q_g,k4,k3,k1,forall_const]
    |refine Ac cm ?_
  ·have k1:(((c.tk sk).k:Int)==1)=false:=by simp;omega
   simp only[if_neg Ff];rw[if_neg (by simp[Bl])];have Fo:(Bl c ⟨sk,false,sa,D⟩ sk).bad=true:=by simp[Bl]
   unfold rdS at cf |-;generalize Bl c ⟨sk,false,sa,D⟩ sk=sf at *
   repeat' first
   |simp only[go_sem,seval,a1,a2,a3,a4,a6,a10,q_je a8,q_g,k4,k3,k1,Fo,forall_const]
   |refine Ac cf ?_
end
def wdG(w:By):List SV:=[.str (bs w)]
def nmG(ns:List By):SV:=.dsl 1 (ns.reverse.map wdG)
def findG{w:By}:∀{l:List By} {n:Nat},Es w l=some n->l[n]?=some w/\∀m,m<n->∃v,l[m]?=some v/\(v==w)=false:=by
 intro l
 induction l with
 |nil=>intro n h;cases h
 |cons a l ih=>
  intro n h;rw[Es] at h;split at h
  ·rename_i hv;cases h;have:a=w:=by simpa using hv
   subst this;exact⟨rfl,fun m hm=>by omega⟩
  ·rename_i hv;cases hq:Es w l with
   |none=>rw[hq] at h;cases h
   |some q=>
    rw[hq] at h;rw[q_jh,q_b] at h;subst h;obtain⟨h1,h2⟩:=ih hq;refine⟨by simpa using h1,fun m hm=>?_⟩;cases m with
    |zero=>exact⟨a,rfl,by simpa using hv⟩
    |succ m=>
     obtain⟨v,h3,h4⟩:=h2 m (by omega);exact⟨v,by simpa using h3,h4⟩
def Ahq{w:By}:∀{l:List By},Es w l=none->∀m,m<l.length->∃v,l[m]?=some v/\(v==w)=false:=by
 intro l
 induction l with
 |nil=>intro _ m h;cases h
 |cons a l ih=>
  intro h m hm;rw[Es] at h;split at h
  ·cases h
  ·rename_i hv;cases hq:Es w l with
   |some q=>rw[hq] at h;cases h
   |none=>
    cases m with
    |zero=>exact⟨a,rfl,by simpa using hv⟩
    |succ m=>exact ih hq m (by simpa using hm)
def Ib{P:Program}{f:Nat}{G G':GV}{args:List SV}{r r':SV}(h:HContract P f G args (.ret r) G')(hl:Le r r'):HContract P f G args (.ret r') G':=by
 intro m w vs h1 h2 h3 h4;refine Calls.mono (h m w vs h1 h2 h3 h4) (fun e w' he=>?_);obtain⟨m',⟨v,a1,a2⟩,a3⟩:=he;exact⟨m',⟨v,a1,hl.rep a2⟩,a3⟩
section
variable{c:RC}{nm:SV}{s:RS}{G:GV}
def Avt(hc:Dc c){ns:List By}(Bk:ns.length<100000000000)(hb:s.bad=false)(hk:s.k<c.L.length) :
  Cj 187 (rdS c (nmG ns) s::G) [.gp 0 0] (.ret (.agg true (tv (Iw c ns s).1))) (rdS c (nmG ns) (Iw c ns s).2::G):=by
 have cf:=Oj (nm:=nmG ns) (s:=s) (G:=G) hc s.k;obtain⟨a1,a2,a3,a4,a6,a7,a8,a9,a10⟩:=atG hc hk;have Dx:∀(m:Nat) v,ns[m]?=some v->(ns.reverse.map wdG)[ns.length-1-m]?.getD []=[.str (bs v)]:=fun m v hv=>by
  have hm:=(q_jm.1 hv).1;rw[q_ji,List.getElem?_reverse (by omega),show ns.length-1-(ns.length-1-m)=m by omega,hv];rfl
 have Bh:(ns.reverse.map wdG).length=ns.length:=by simp
 have Gn:(ns.length<=140737488355328)=True:=by simp;omega
 have ew:IntKind.i64.wrap ((ns.length:Int)-1)=(ns.length:Int)-1-(0:Nat):=by rw[w64 (by unfold fit;omega)];omega
 obtain⟨sk,sb,sa,D⟩:=s;simp only at hb hk a1 a2 a3 a4 a6 a7 a8 a9;subst hb;unfold Iw RS.nx;unfold rdS nmG at cf |-;generalize ns.reverse.map wdG=R at *
 -- the number of names that are looked at in vain
 obtain⟨n,hn,h2⟩:∃n,n<=ns.length/\∀m,m<n->∃v,ns[m]?=some v/\(v==(c.tk sk).w)=false:=⟨0,Nat.zero_le _,fun m h=>by omega⟩
 cases hf:Es (c.tk sk).w ns with
 |some n=>
  obtain⟨h1,h2⟩:=findG hf;have Am:=(q_jm.1 h1).1;refine Ib (Bq (out:=.ret (.agg true [.int .i64 2,.int .i64 n,.int .i64 0,.int .i64 0,.nils])) mixed Tryz.func187 tr187 ?_) (Mp _ _ _ _);simp only[go_sem,seval,Bh,Gn,forall_const];rw[ew];refine Nz (fun x=>⟨(.gp 0 0::.J::.ref 1 0 0 0::.int .i64 ((ns.length:Int)-1-x)::Cm (Ef (jk4 ([])))),[gOb ([.dsl 3 (c.L.map De),.int .i64 sk,.int .i64 c.e,.dsl 1 R,.int .i64 c.i,.int .i64 c.j,.bool false,.int .i64 sa]::G),⟨true,5,[[.int .i64 0,.int .i64 0,.int .i64 0,.int .i64 0,.nils]],0,0,true⟩]⟩) n (fun x hx=>?_) ?_
  ·have hq:ns.length-1-x<ns.length:=by omega
   have eI:(ns.length:Int)-1-x=((ns.length-1-x:Nat):Int):=by omega
   have e0:(0:Int)<=((ns.length-1-x:Nat):Int):=by omega
   have e1:((ns.length-1-x:Nat):Int)<(ns.length:Int):=by omega
   have eg:((ns.length-1-x:Nat):Int) >= 0:=e0;rw[eI]
   by_cases Yu:x<n
   ·obtain⟨v,h3,h4⟩:=h2 x Yu;simp only[go_sem,seval,a1,a2,a3,a4,a8,a9,a10,forall_const,q_g,q_jn eg,e0,e1,hq,Bh,Gn,Dx x v h3,h4,w64 (show fit (((ns.length-1-x:Nat):Int)-1) by unfold fit;omega)];refine⟨Yu,?_⟩;rw[show ((ns.length-1-x:Nat):Int)-1=(ns.length:Int)-1-((x+1:Nat):Int) by omega];exact Bv (by simp[Bm])
   ·have:x=n:=by omega
    subst this;simp only[go_sem,seval,a1,a2,a3,a4,a6,a8,a9,a10,forall_const,q_g,q_jn eg,e0,e1,hq,Bh,Gn,Dx x _ h1,beq_self_eq_true,w64 (show fit ((ns.length:Int)-1) by unfold fit;omega),show (ns.length:Int)-1-((ns.length-1-x:Nat):Int)=(x:Int) by omega,w64 (show fit (x:Int) by unfold fit;omega)]
  ·exact Bv (by simp[Bm])
 |none=>
  have h2:=Ahq hf;refine Ib (Bq (out:=.ret (.agg true [.int .i64 0,.int .i64 0,.int .i64 0,.int .i64 0,.nils])) mixed Tryz.func187 tr187 ?_) (Mp _ _ _ _);simp only[go_sem,seval,Bh,Gn,forall_const];rw[ew];refine Nz (fun x=>⟨(.gp 0 0::.J::.ref 1 0 0 0::.int .i64 ((ns.length:Int)-1-x)::Cm (Ef (jk4 ([])))),[gOb ([.dsl 3 (c.L.map De),.int .i64 sk,.int .i64 c.e,.dsl 1 R,.int .i64 c.i,.int .i64 c.j,.bool false,.int .i64 sa]::G),⟨true,5,[[.int .i64 0,.int .i64 0,.int .i64 0,.int .i64 0,.nils]],0,0,true⟩]⟩) ns.length (fun x hx=>?_) ?_
  ·by_cases Yu:x<ns.length
   ·have hq:ns.length-1-x<ns.length:=by omega
    have eI:(ns.length:Int)-1-x=((ns.length-1-x:Nat):Int):=by omega
    have e0:(0:Int)<=((ns.length-1-x:Nat):Int):=by omega
    have e1:((ns.length-1-x:Nat):Int)<(ns.length:Int):=by omega
    have eg:((ns.length-1-x:Nat):Int) >= 0:=e0;rw[eI];obtain⟨v,h3,h4⟩:=h2 x Yu;simp only[go_sem,seval,a1,a2,a3,a4,a8,a9,a10,forall_const,q_g,q_jn eg,e0,e1,hq,Bh,Gn,Dx x v h3,h4,w64 (show fit (((ns.length-1-x:Nat):Int)-1) by unfold fit;omega)];refine⟨Yu,?_⟩;rw[show ((ns.length-1-x:Nat):Int)-1=(ns.length:Int)-1-((x+1:Nat):Int) by omega];exact Bv (by simp[Bm])
   ·have:x=ns.length:=by omega
    subst this;have eg:¬((ns.length:Int)-1-(ns.length:Nat) >= 0):=by omega
    simp only[go_sem,seval,q_je eg];refine Ac cf ?_;simp only[go_sem,seval]
  ·exact Bv (by simp[Bm])
end
def Apw:Con 196 [] (.dsl 1 (symsL.map wdG)):=by
 refine Cu mixed Tryz.func196 tr196 ?_;simp only[go_sem,seval,symsL,q_h,q_i,wdG]
def Xc(w:By):Nat:=match Es w symsL with|some n=>n+1|none=>0
def Ag8(w:By):Con 215 [.str (bs w)] (.int .i64 (Xc w)):=by
 have Bh:symsL.length=21:=rfl;refine Cu mixed Tryz.func215 tr215 ?_;simp only[go_sem,seval];refine Ag Apw ?_;have Dx:∀(m:Nat) v,symsL[m]?=some v->(symsL.map wdG)[m]?.getD []=[.str (bs v)]:=fun m v hv=>by rw[q_ji,hv];rfl
 unfold Xc;cases h:Es w symsL with
 |some n=>
  obtain⟨h1,h2⟩:=findG h;have hn:=(q_jm.1 h1).1;generalize symsL=l at *
  simp only[go_sem,seval,q_g,Bh];intros;refine Nz (fun x=>⟨(.str (bs w)::.J::.int .i64 0::.J::.J::.dsl 1 (l.map wdG)::.int .i64 21::.int .i64 x::jk8 (jk2 ([]))),[]⟩) n (fun x hx=>?_) ?_
  ·have e0:(0:Int)<=(x:Int):=by omega
   have e1:(x:Int)<21:=by omega
   have e2:x<21:=by omega
   by_cases Am:x<n
   ·obtain⟨v,h3,h4⟩:=h2 x Am;simp only[go_sem,seval,q_jn e1,e0,e1,e2,q_g,Bh,Dx x v h3,h4,w64 (show fit ((x:Int)+1) by unfold fit;omega)];refine⟨Am,?_⟩;exact Bv (by simp[Bm])
   ·have:x=n:=by omega
    subst this;simp only[go_sem,seval,q_jn e1,e0,e1,e2,q_g,Bh,Dx x w h1,beq_self_eq_true,w64 (show fit ((x:Int)+1) by unfold fit;omega)];rfl
  ·exact Bv (by simp[Bm])
 |none=>
  have h2:=Ahq h;generalize symsL=l at *
  simp only[go_sem,seval,q_g,Bh];intros;refine Nz (fun x=>⟨(.str (bs w)::.J::.int .i64 0::.J::.J::.dsl 1 (l.map wdG)::.int .i64 21::.int .i64 x::jk8 (jk2 ([]))),[]⟩) 21 (fun x hx=>?_) ?_
  ·by_cases e2:x<21
   ·have e0:(0:Int)<=(x:Int):=by omega
    have e1:(x:Int)<21:=by omega
    obtain⟨v,h3,h4⟩:=h2 x (by omega);simp only[go_sem,seval,q_jn e1,e0,e1,e2,q_g,Bh,Dx x v h3,h4,w64 (show fit ((x:Int)+1) by unfold fit;omega)];exact Bv (by simp[Bm])
   ·have:x=21:=by omega
    subst this;simp only[go_sem,seval,Bh]
  ·exact Bv (by simp[Bm])
def Acs{w v:By}{k:Nat}{s:By}{l:List (By×Nat×By)}:Ir w ((v,k,s)::l)=if w=v then some (k,s) else Ir w l:=by
 rw[Ir]
 by_cases h:w=v
 ·subst h;simp
 ·rw[if_neg h,if_neg (by simp;exact fun e=>h e.symm)]
def Ae3{w v:By}(h:(w==v)=false):w≠v:=by simpa using h
def Ap7(w:By):Con 212 [.str (bs w)] (.tup [.int .i64 ((Ir w (formsG.drop 11)).getD (0,[])).1,.str (bs ((Ir w (formsG.drop 11)).getD (0,[])).2)]):=by
 refine Cu mixed Tryz.func212 tr212 ?_;simp only[go_sem,seval]
 iterate 11
  refine⟨fun h=>?_,fun h=>?_⟩
  ·have h2:=eq_of_beq h;subst h2;simp only[go_sem,seval];rfl
  replace h:=Ae3 h;simp only[go_sem,seval]
 have e:Ir w (formsG.drop 11)=none:=by
  show Ir w [([80,105],13,_),([76,97,109],14,_),([65,112,112],15,_),([83,105,103],16,_),([80,97,105,114],17,_),([70,115,116],18,_),([83,110,100],19,_),([69,113],20,_),([82,101,102,108],21,_),([74],22,_),([117,115,101],23,_)]=none;simp only[Acs,if_neg, *];simp[Ir]
 rw[e];rfl
def Apm(w:By):Con 189 [.str (bs w)] (.tup [.int .i64 (Cr w).1,.str (bs (Cr w).2)]):=by
 have cp:=Ap7 w;refine Cu mixed Tryz.func189 tr189 ?_;simp only[go_sem,seval]
 iterate 11
  refine⟨fun h=>?_,fun h=>?_⟩
  ·have h2:=eq_of_beq h;subst h2;simp only[go_sem,seval];rfl
  replace h:=Ae3 h;simp only[go_sem,seval]
 refine Ag cp ?_;have e:Cr w=(Ir w (formsG.drop 11)).getD (0,[]):=by
  unfold Cr;congr 1;show Ir w (([115,111,114,116],1,_)::([112,105],3,_)::([108,97,109],4,_)::([97,112,112],5,_)::([115,105,103],6,_)::([112,97,105,114],7,_)::([102,115,116],8,_)::([115,110,100],9,_)::([101,113],10,_)::([114,101,102,108],11,_)::([116,114],12,_)::formsG.drop 11)=_;simp only[Acs,if_neg, *];simp
 rw[e];simp only[go_sem,seval]
section
variable{c:RC}{k:Nat}{b:Int}{nm:SV}{G:GV}
def Avn{ws:GV}(hw:ws.length<=100) :
  Cj 128 (prG c k b .nils::G) [.gp 0 0,.dsl 1 ws] (.ret (.tup [])) (prG c k b (.dsl 1 ws)::G):=by
 have e1:ws.length*16<=140737488355328:=by omega
 have e2:ws.length<=140737488355328:=by omega
 have e3:ws.take ws.length=ws:=q_js (by simp);refine Bq mixed Tryz.func128 tr128 ?_;unfold prG;simp only[go_sem,seval,e1,e2,e3]
def Avo{R ws:GV}(hw:ws.length<=100)(hR:R.length<=1000000) :
  Cj 128 (prG c k b (.dsl 1 R)::G) [.gp 0 0,.dsl 1 ws] (.ret (.tup [])) (prG c k b (.dsl 1 (R++ws))::G):=by
 have e1:(R.length+ws.length)*16<=140737488355328:=by omega
 have e2:R.length+ws.length<=140737488355328:=by omega
 have e3:(R++ws).take (R.length+ws.length)=R++ws:=q_js (by simp);have e4:R.length*16<=140737488355328:=by omega
 have e5:R.length<=140737488355328:=by omega
 refine Bq mixed Tryz.func128 tr128 ?_;unfold prG;simp only[go_sem,seval,e1,e2,e3,e4,e5]
def Avm{R ws:GV}(hw:ws.length<=100)(hR:R.length<=1000000) :
  Cj 129 (prG c k b (.dsl 1 (R++ws))::G) [.gp 0 0,.int .i64 ws.length] (.ret (.tup [])) (prG c k b (.dsl 1 R)::G):=by
 have e4:R.length*16<=140737488355328:=by omega
 have e5:R.length<=140737488355328:=by omega
 have e6:IntKind.i64.wrap (((R.length+ws.length:Nat):Int)-(ws.length:Int))=(R.length:Int):=by rw[w64 (by unfold fit;omega)];omega
 have e7:(R++ws).take R.length=R:=by simp
 refine Bq mixed Tryz.func129 tr129 ?_;unfold prG;simp only[go_sem,seval,e4,e5,e6,e7,Int.toNat_natCast,q_kk];exact⟨by omega,by omega⟩
end
def NmQ(nm:SV)(ns:List By):Prop:=(nm=.nils/\ns=[])\/nm=nmG ns
def Mi{c:RC}{k:Nat}{b:Int}{nm:SV}{G:GV}{ns ws:List By}(h:NmQ nm ns)(hw:ws.length<=100)(hn:ns.length<=1000000) :
  Cj 128 (prG c k b nm::G) [.gp 0 0,.dsl 1 (ws.map wdG)] (.ret (.tup [])) (prG c k b (nmG (ws.reverse++ns))::G):=by
 rcases h with⟨rfl,rfl⟩|rfl
 ·rw[show nmG (ws.reverse++[])=.dsl 1 (ws.map wdG) by simp[nmG]];exact Avn (by simpa using hw)
 ·rw[show nmG (ws.reverse++ns)=.dsl 1 (ns.reverse.map wdG++ws.map wdG) by simp[nmG]];exact Avo (by simpa using hw) (by simpa using hn)
def Mh{c:RC}{k:Nat}{b:Int}{G:GV}{ns ws:List By}(hw:ws.length<=100)(hn:ns.length<=1000000) :
  Cj 129 (prG c k b (nmG (ws.reverse++ns))::G) [.gp 0 0,.int .i64 ws.length] (.ret (.tup [])) (prG c k b (nmG ns)::G):=by
 rw[show nmG (ws.reverse++ns)=.dsl 1 (ns.reverse.map wdG++ws.map wdG) by simp[nmG]];have:=Avm (c:=c) (k:=k) (b:=b) (G:=G) (R:=ns.reverse.map wdG) (ws:=ws.map wdG) (by simpa using hw) (by simpa using hn)
 rwa [q_g] at this
def NmQ.ne{nm:SV}{ns:List By}{v:By}(h:NmQ nm (v::ns)):nm=nmG (v::ns):=by
 rcases h with⟨_,h⟩|h
 ·cases h
 ·exact h
def Aqh:Con 135 [] (.dsl 1 (symsL.map wdG)):=by
 refine Cu mixed Tryz.func135 tr135 ?_;simp only[go_sem,seval,symsL,q_h,q_i,wdG]
def Ahr{w:By}:∀{l:List By} {x:Nat},(∀i,i<x->(l.getD i []==w)=false)->x<=l.length->((x=l.length->Es w l=none)/\(x<l.length->(l.getD x []==w)=true->Es w l=some x)):=by
 intro l
 induction l with
 |nil=>intro x h hx;exact⟨fun _=>rfl,fun h=>absurd h (q_kp _)⟩
 |cons a l ih=>
  intro x h hx;cases x with
  |zero=>
   refine⟨fun h=>by simp at h,fun _ hw=>?_⟩;rw[Es,if_pos (by simpa using hw)]
  |succ x=>
   have h0:=h 0 (by omega);have ha:¬(a==w)=true:=by simpa using h0
   obtain⟨i1,i2⟩:=ih (x:=x) (fun i hi=>by simpa using h (i+1) (by omega)) (by simpa using hx);rw[Es,if_neg ha];refine⟨fun hl=>by rw[i1 (by simpa using hl)];rfl,fun hl hw=>by rw[i2 (by simpa using hl) (by simpa using hw)];rfl⟩
def Aqj(w:By):Con 127 [.str (bs w)] (.int .i64 ((match Es w symsL with|some n=>n+1|none=>0:Nat):Int)):=by
 have Bh:symsL.length=21:=rfl;refine Cu mixed Tryz.func127 tr127 ?_;simp only[go_sem,seval];refine Ag Aqh ?_;have Dx:∀(m:Nat),m<21->(symsL.map wdG)[m]?.getD []=[.str (bs (symsL.getD m []))]:=fun m hm=>by
  rw[q_ji,q_f (by omega),q_j,q_f (by omega)];rfl
 have Fo:=fun (x:Nat)=>Ahr (w:=w) (l:=symsL) (x:=x)
 obtain⟨g,hg⟩:∃g:Nat->By,∀m,symsL.getD m []=g m:=⟨_,fun _=>rfl⟩
 simp only[hg] at Dx Fo;clear hg;generalize symsL=l at *
 simp only[go_sem,seval,q_g,Bh];intros;refine Hv (fun x:Nat=>⟨(.str (bs w)::.J::.int .i64 0::.dsl 1 (l.map wdG)::.int .i64 x::jk8 (jk4 (jk2 (.J::[])))),[]⟩) (fun x=>21-x) (fun x=>x<=21/\∀i,i<x->(g i==w)=false) (fun x hx=>?_) 0 ⟨Nat.zero_le _,fun i hi=>absurd hi (q_kp _)⟩ (Bv (by simp[Bm]));obtain⟨Mn,Hr⟩:=hx;obtain⟨f1,f2⟩:=Fo x Hr (by omega);have e0:(0:Int)<=(x:Int):=by omega
 have e3:(21:Nat)<=140737488355328:=by decide
 have hw:IntKind.i64.wrap ((x:Int)+1)=((x+1:Nat):Int):=by rw[w64 (by unfold fit;omega)];omega
 by_cases Am:x<21
 ·have e1:(x:Int)<21:=by omega
  have hr:=Dx x Am;cases hq:(g x==w) with
  |true=>
   rw[f2 (by omega) hq];simp only[go_sem,seval,e0,e1,Am,e3,forall_const,q_g,Bh,hr,hq,hw]
   first|done|rfl
  |false=>
   simp only[go_sem,seval,e0,e1,Am,e3,forall_const,q_g,Bh,hr,hq,hw];refine⟨x+1,⟨by omega,by omega,fun i hi=>?_⟩,Bv (by simp[Bm])⟩
   by_cases Mj:i=x
   ·subst Mj;exact hq
   ·exact Hr i (by omega)
 ·have e1:¬(x:Int)<21:=by omega
  rw[f1 (by omega)];simp only[go_sem,seval,e1,e3,forall_const,q_g,Bh]
  first|done|rfl
def markG:List By:=[[115,111,114,116],[],[112,105],[108,97,109],[97,112,112],[115,105,103],[112,97,105,114],[102,115,116],[115,110,100],[101,113],[114,101,102,108],[116,114]]
def plainG:List By:=[[80,105],[76,97,109],[65,112,112],[83,105,103],[80,97,105,114],[70,115,116],[83,110,100],[69,113],[82,101,102,108],[74],[117,115,101]]
def Apu:Con 100 [] (.dsl 1 (markG.map wdG)):=by
 refine Cu mixed Tryz.func100 tr100 ?_;simp only[go_sem,seval,markG,q_h,q_i,wdG]
def Ap8:Con 101 [] (.dsl 1 (plainG.map wdG)):=by
 refine Cu mixed Tryz.func101 tr101 ?_;simp only[go_sem,seval,plainG,q_h,q_i,wdG]
def mIx(w:By)(want i:Nat):Bool:=(markG.getD i []==w) && (decide (want≠2) || decide (i=0))
def pIx(w:By)(want i:Nat):Bool:=(plainG.getD i []==w) && decide (want≠1)
def Pa(w:By)(want:Nat):Nat:=match (List.range 12).find? (mIx w want) with
 |some i=>i+1
 |none=>match (List.range 11).find? (pIx w want) with
  |some i=>13+i
  |none=>0
def Xv{P:Nat->Bool}{n:Nat}(h:∀i,i<n->P i=false):(List.range n).find? P=none:=by
 rw[List.find?_eq_none];intro x hx;rw[h x (List.mem_range.1 hx)];decide
def Ahu{P:Nat->Bool}{n x:Nat}(h:∀i,i<x->P i=false)(hx:x<n)(hp:P x=true):(List.range n).find? P=some x:=by
 rw[List.find?_range_eq_some];exact⟨hp,List.mem_range.2 hx,fun j hj=>by rw[h j hj];rfl⟩
def Avy{c:RC}{k:Nat}{b:Int}{nm:SV}{G:GV}(hc:Dc c)(want:Nat) :
  Cj 85 (prG c k b nm::G) [.gp 0 0,.int .i64 want] (.ret (.int .i64 ((if Da c k=3 then Pa (Er c k) want else 0:Nat):Int))) (prG c k b nm::G):=by
 have c1:=Ng (k:=k) (b:=b) (nm:=nm) (G:=G) hc;have c2:=Vx (k:=k) (b:=b) (nm:=nm) (G:=G) hc
 by_cases hk:Da c k=3
 rotate_left
 ·have e1:((Da c k:Int) != 3)=true:=by rw[bne_iff_ne];omega
  rw[if_neg hk];refine Bq mixed Tryz.func85 tr85 ?_;unfold prG at *
  repeat' first
  |simp only[go_sem,seval,e1]
  |refine Ac c1 ?_
  |rfl
 rw[if_pos hk];rw[hk] at c1;have e1:((((3:Nat):Nat):Int) != 3)=false:=by decide
 have cm:=Apu;have cp:=Ap8;generalize Er c k=w at *
 have hM:∀i,mIx w want i=((markG.getD i []==w) && (decide (want≠2) || decide (i=0))):=fun _=>rfl
 have hP:∀i,pIx w want i=((plainG.getD i []==w) && decide (want≠1)):=fun _=>rfl
 have rm:∀(m:Nat),m<12->(markG.map wdG)[m]?.getD []=[.str (bs (markG.getD m []))]:=fun m hm=>by
  rw[q_ji,q_f hm,q_j,q_f hm];rfl
 have rp:∀(m:Nat),m<11->(plainG.map wdG)[m]?.getD []=[.str (bs (plainG.getD m []))]:=fun m hm=>by
  rw[q_ji,q_f hm,q_j,q_f hm];rfl
 have lm:markG.length=12:=rfl;have lp:plainG.length=11:=rfl;have F1:∀x,(∀i,i<x->mIx w want i=false)->x<12->mIx w want x=true->Pa w want=x+1:=fun x h1 h2 h3=>by
  unfold Pa;rw[Ahu h1 h2 h3]
 have F2:(∀i,i<12->mIx w want i=false)->∀x,(∀i,i<x->pIx w want i=false)->x<11->pIx w want x=true->Pa w want=13+x:=fun h0 x h1 h2 h3=>by
  unfold Pa;rw[Xv h0];simp only;rw[Ahu h1 h2 h3]
 have F3:(∀i,i<12->mIx w want i=false)->(∀i,i<11->pIx w want i=false)->Pa w want=0:=fun h0 h1=>by
  unfold Pa;rw[Xv h0];simp only;rw[Xv h1]
 generalize Pa w want=Z at *
 obtain⟨gm,hgm⟩:∃g:Nat->By,∀m,markG.getD m []=g m:=⟨_,fun _=>rfl⟩
 obtain⟨gp,Tq⟩:∃g:Nat->By,∀m,plainG.getD m []=g m:=⟨_,fun _=>rfl⟩
 simp only[hgm] at rm hM;simp only[Tq] at rp hP;clear hgm Tq;generalize mIx w want=M at *
 generalize pIx w want=P at *
 generalize markG=mk at *
 generalize plainG=pk at *
 refine Bq mixed Tryz.func85 tr85 ?_;have w2:((want:Int) != 2)=decide (want≠2):=by
  by_cases h:want=2
  ·subst h;rfl
  ·rw[show ((want:Int) != 2)=true by rw[bne_iff_ne];omega,q_jn h]
 have wn1:((want:Int) != 1)=decide (want≠1):=by
  by_cases h:want=1
  ·subst h;rfl
  ·rw[show ((want:Int) != 1)=true by rw[bne_iff_ne];omega,q_jn h]
 have e3:(12:Nat)<=140737488355328:=by decide
 have e4:(11:Nat)<=140737488355328:=by decide
 unfold prG at *
 simp only[go_sem,seval,e1];refine Ac c1 ?_;simp only[go_sem,seval,e1];refine Ag cm ?_;simp only[go_sem,seval,q_g,lm];intros;refine Hv (fun x:Nat=>⟨(.gp 0 0::.int .i64 want::.J::.J::.int .i64 0::.dsl 1 (mk.map wdG)::.int .i64 x::Cm (Ef ([]))),[gOb ([.dsl 3 (c.L.map De),.int .i64 k,.int .i64 b,.int .i64 c.i,.int .i64 c.j,nm]::G)]⟩) (fun x=>12-x) (fun x=>x<=12/\∀i,i<x->M i=false) (fun x hx=>?_) 0 ⟨Nat.zero_le _,fun i hi=>absurd hi (q_kp _)⟩ (Bv (by simp[Bm]));obtain⟨Mn,Hr⟩:=hx;have e0:(0:Int)<=(x:Int):=by omega
 have hw:IntKind.i64.wrap ((x:Int)+1)=((x+1:Nat):Int):=by rw[w64 (by unfold fit;omega)];omega
 by_cases Am:x<12
 ·have f1:(x:Int)<12:=by omega
  have hr:=rm x Am;have Wq:((x:Int)==0)=decide (x=0):=Aen x 0;have Vv:=hM x;have next:M x=false->∃a',(12-a'<12-x/\a'<=12/\∀i,i<a'->M i=false)/\a'=x+1:=fun hf=>⟨x+1,⟨by omega,by omega,fun i hi=>by
   by_cases Mj:i=x
   ·subst Mj;exact hf
   ·exact Hr i (by omega)⟩,rfl⟩
  have hit:M x=true->Z=x+1:=fun hf=>F1 x Hr Am hf
  cases hq:(gm x==w)
  ·rw[hq,q_lf] at Vv;obtain⟨a',Me,rfl⟩:=next Vv
   simp only[go_sem,seval,e0,f1,Am,e3,forall_const,q_g,lm,hr];refine Ac c2 ?_;simp only[go_sem,seval,e0,f1,Am,e3,forall_const,q_g,lm,hr,hq,hw];exact⟨x+1,Me,Bv (by simp[Bm])⟩
  ·rw[hq,q_ld] at Vv
   by_cases h2:want=2
   ·have d2:((want:Int) != 2)=false:=by rw[w2,q_je (by simpa using h2)]
    by_cases h0:x=0
    ·have d0:((x:Int)==0)=true:=by rw[Wq,q_jn h0]
     obtain rfl:=hit (by rw[Vv,q_jn h0,Bool.or_true]);simp only[go_sem,seval,e0,f1,Am,e3,forall_const,q_g,lm,hr];refine Ac c2 ?_;simp only[go_sem,seval,e0,f1,Am,e3,forall_const,q_g,lm,hr,hq,hw,d2,d0]
     first|done|rfl
    ·have d0:((x:Int)==0)=false:=by rw[Wq,q_je h0]
     obtain⟨a',Me,rfl⟩:=next (by rw[Vv,q_je h0,Bool.or_false];exact q_je (by simpa using h2))
     simp only[go_sem,seval,e0,f1,Am,e3,forall_const,q_g,lm,hr];refine Ac c2 ?_;simp only[go_sem,seval,e0,f1,Am,e3,forall_const,q_g,lm,hr,hq,hw,d2,d0];exact⟨x+1,Me,Bv (by simp[Bm])⟩
   ·have d2:((want:Int) != 2)=true:=by rw[w2,q_jn h2]
    obtain rfl:=hit (by rw[Vv,q_jn h2,Bool.true_or]);simp only[go_sem,seval,e0,f1,Am,e3,forall_const,q_g,lm,hr];refine Ac c2 ?_;simp only[go_sem,seval,e0,f1,Am,e3,forall_const,q_g,lm,hr,hq,hw,d2]
    first|done|rfl
 ·have Ox:x=12:=by omega
  subst Ox;have F2:=F2 Hr;have F3:=F3 Hr;clear Hr Mn hM rm F1;simp only[go_sem,seval,e3,forall_const,q_g,lm];refine Ag cp ?_;simp only[go_sem,seval,e4,forall_const,q_g,lp];intros;refine Hv (fun x:Nat=>⟨(.gp 0 0::.int .i64 want::.J::.J::.int .i64 0::.dsl 1 (pk.map wdG)::.J::.int .i64 x::Cm (jk8 (jk4 (jk2 (.J::[]))))),[gOb ([.dsl 3 (c.L.map De),.int .i64 k,.int .i64 b,.int .i64 c.i,.int .i64 c.j,nm]::G)]⟩) (fun x=>11-x) (fun x=>x<=11/\∀i,i<x->P i=false) (fun x hx=>?_) 0 ⟨Nat.zero_le _,fun i hi=>absurd hi (q_kp _)⟩ (Bv (by simp[Bm]));obtain⟨Mn,Hr⟩:=hx;have e0:(0:Int)<=(x:Int):=by omega
  have hw:IntKind.i64.wrap ((x:Int)+1)=((x+1:Nat):Int):=by rw[w64 (by unfold fit;omega)];omega
  have Zm:IntKind.i64.wrap (13+(x:Int))=((13+x:Nat):Int):=by rw[w64 (by unfold fit;omega)];omega
  by_cases Am:x<11
  ·have f1:(x:Int)<11:=by omega
   have hr:=rp x Am;have Ye:=hP x;have next:P x=false->∃a',(11-a'<11-x/\a'<=11/\∀i,i<a'->P i=false)/\a'=x+1:=fun hf=>⟨x+1,⟨by omega,by omega,fun i hi=>by
    by_cases Mj:i=x
    ·subst Mj;exact hf
    ·exact Hr i (by omega)⟩,rfl⟩
   cases hq:(gp x==w)
   ·rw[hq,q_lf] at Ye;obtain⟨a',Me,rfl⟩:=next Ye
    simp only[go_sem,seval,e0,f1,Am,e4,forall_const,q_g,lp,hr];refine Ac c2 ?_;simp only[go_sem,seval,e0,f1,Am,e4,forall_const,q_g,lp,hr,hq,hw];exact⟨x+1,Me,Bv (by simp[Bm])⟩
   ·rw[hq,q_ld] at Ye
    by_cases h2:want=1
    ·have d2:((want:Int) != 1)=false:=by rw[wn1,q_je (by simpa using h2)]
     obtain⟨a',Me,rfl⟩:=next (by rw[Ye];exact q_je (by simpa using h2))
     simp only[go_sem,seval,e0,f1,Am,e4,forall_const,q_g,lp,hr];refine Ac c2 ?_;simp only[go_sem,seval,e0,f1,Am,e4,forall_const,q_g,lp,hr,hq,hw,d2];exact⟨x+1,Me,Bv (by simp[Bm])⟩
    ·have d2:((want:Int) != 1)=true:=by rw[wn1,q_jn h2]
     obtain rfl:=F2 x Hr Am (by rw[Ye,q_jn h2]);simp only[go_sem,seval,e0,f1,Am,e4,forall_const,q_g,lp,hr];refine Ac c2 ?_;simp only[go_sem,seval,e0,f1,Am,e4,forall_const,q_g,lp,hr,hq,hw,Zm,d2]
     first|done|rfl
  ·have Ox:x=11:=by omega
   subst Ox;obtain rfl:=F3 Hr;simp only[go_sem,seval,e4,forall_const,q_g,lp]
   first|done|rfl
def NGr(G:GV):Prop:=∀r∈G,∀x∈r,NoG x
def NGr.nil:NGr []:=fun r hr=>by cases hr
def NGr.app{G D:GV}(h:NGr G)(k:NGr D):NGr (G++D):=fun r hr=>(q_ke.1 hr).elim (h r) (k r)
def NGr.cons{r:List SV}{D:GV}(h:∀x∈r,NoG x)(k:NGr D):NGr (r::D):=fun q hq=>by
 rcases q_kb.1 hq with rfl|hq
 ·exact h
 ·exact k q hq
def Ak7(l:List By):NoG (.dsl 1 (l.map wdG)):=.dsl _ _ (fun x hx=>by
 obtain⟨r,hr,hx⟩:=List.mem_flatten.1 hx;obtain⟨w,_,rfl⟩:=q_lb.1 hr;simp only[wdG,q_kh] at hx;subst hx;exact .str _)
def Ay1(l:List Tok):NoG (.dsl 3 (l.map De)):=.dsl _ _ (fun x hx=>by
 obtain⟨r,hr,hx⟩:=List.mem_flatten.1 hx;obtain⟨t,_,rfl⟩:=q_lb.1 hr;simp only[De,q_kb,q_kc,or_false] at hx;rcases hx with rfl|rfl|rfl
 ·exact .int _ _
 ·exact .str _
 ·exact .int _ _)
def Ak6(l:List Tm):NoG (.dsl 5 (l.map tv)):=.dsl _ _ (fun x hx=>by
 obtain⟨r,hr,hx⟩:=List.mem_flatten.1 hx;obtain⟨t,_,rfl⟩:=q_lb.1 hr;exact Sn _ x hx)
def Ak8{c:RC}{ns:List By}{s:RS}:∀x∈rdS c (nmG ns) s,NoG x:=by
 intro x hx;simp only[rdS,q_kb,q_kc,or_false] at hx;rcases hx with rfl|rfl|rfl|rfl|rfl|rfl|rfl|rfl
 ·exact Ay1 _
 ·exact .int _ _
 ·exact .int _ _
 ·exact Ak7 _
 ·exact .int _ _
 ·exact .int _ _
 ·exact .bool _
 ·exact .int _ _
section
variable{c:RC}{s:RS}
def Ro(k:Nat):(Bl c s k).D=s.D:=by unfold Bl;split<;>rfl
def Bn(kd:Nat):(Ad c s kd).2.D=s.D:=by
 unfold Ad;split
 ·rfl
 ·exact Ro _
def Ax4{lev:RS->Nat×RS}(h:∀s,(lev s).2.D=s.D):(Fw c lev s).2.D=s.D:=by
 unfold Fw;refine (Bn 2).trans ?_;split
 ·exact h s.nx
 split
 ·exact (h _).trans (h s.nx)
 ·exact Ro _
def Lw:∀(f:Nat) (s:RS),(Af c f s).2.D=s.D:=by
 intro f
 induction f with
 |zero=>intro s;rfl
 |succ f ih=>
  intro s;unfold Af;have key:∀(q:Nat×RS),q.2.D=s.D->(if q.2.bad=false/\1000<q.1 then Bl c q.2 s.k else q.2).D=s.D:=fun q h=>by
   split
   ·exact (Ro _).trans h
   ·exact h
  split
  ·refine key _ ?_
   repeat' split
   ·rfl
   ·rfl
   ·rfl
   ·exact Ax4 ih
   ·exact Ro _
  ·exact Ro _
def Lx{kd:Nat}(h:s.bad=true):Ad c s kd=([],s):=by
 unfold Ad;rw[if_neg (fun k=>by rw[h] at k;cases k.1)];unfold Bl;rw[if_pos h]
end
def TCG(c:RC)(T:TR)(f:Nat):Prop:=∀(ns:List By) (want:Nat) (s:RS) (G:GV),c.L.length<s.k+f->ns.length+3*f<100000000000->want<=2->NGr s.D->NGr G ->
 Cj 155 (rdS c (nmG ns) s::(G++s.D)) [.gp 0 0,.int .i64 want] (.ret (.agg true (tv (T ns want s).1))) (rdS c (nmG ns) (T ns want s).2::(G++(T ns want s).2.D))/\s.k<=(T ns want s).2.k/\NGr (T ns want s).2.D
def LCG(c:RC)(T:TR)(ns:List By)(k:Nat)(sh:By)(s:RS)(G:GV):Prop:=
 Cj 190 (rdS c (nmG ns) s::(G++s.D)) [.gp 0 0,.int .i64 k,.str (bs sh)] (.ret (.agg true (tv (Ai c T ns k sh s).1))) (rdS c (nmG ns) (Ai c T ns k sh s).2::(G++(Ai c T ns k sh s).2.D))/\s.k<=(Ai c T ns k sh s).2.k/\NGr (Ai c T ns k sh s).2.D
def tvn:Tm->List SV
 |.mk k a b n []=>[.int .i64 k,.int .i64 a,.int .i64 b,.int .i64 n,.nils]
 |.mk k a b n (t::l)=>tv (.mk k a b n (t::l))
def Jd(t:Tm):Le (.agg true (tvn t)) (.agg true (tv t)):=by
 obtain⟨k,a,b,n,l⟩:=t;cases l with
 |nil=>exact Mp _ _ _ _
 |cons t l=>exact .val _ _ (.cell _ _ (.refl _))
def Ip{k a b n:Int}:tvn (.mk k a b n [])=[.int .i64 k,.int .i64 a,.int .i64 b,.int .i64 n,.nils]:=rfl
def Eo{k a b n:Int}{t:Tm}{l:List Tm}:tvn (.mk k a b n (t::l))=[.int .i64 k,.int .i64 a,.int .i64 b,.int .i64 n,.dsl 5 (tv t::l.map tv)]:=by
 show tv _=_;rw[Bp];rfl
section
variable{c:RC}{T:TR}{ns:List By}{k:Nat}{x:AccR}{s:RS}
def Bt:Dh c T ns k 76 x s=({ x with a:=(Af c (c.L.length+1) s).1 },(Af c (c.L.length+1) s).2):=rfl
def Cw(h:k≠23):Dh c T ns k 77 x s=({ x with b:=(Af c (c.L.length+1) s).1 },(Af c (c.L.length+1) s).2):=by
 unfold Dh;rw[if_neg (by decide),if_pos (by decide),if_neg h]
def Cd:Dh c T ns k 120 x s=({ x with bd:=(Ad c s 3).1::x.bd },(Ad c s 3).2):=rfl
def Hk:Dh c T ns k 121 x s=({ x with bd:=(Ad c s 3).1::x.bd },(Ad c s 3).2):=rfl
def Hj:Dh c T ns k 101 x s=({ x with bd:=(Ad c s 3).1::x.bd },(Ad c s 3).2):=rfl
def Az:Dh c T ns k 116 x s=({ x with l:=x.l++[(T ns (ofR k) s).1] },(T ns (ofR k) s).2):=rfl
def Lk:Dh c T ns k 112 x s=({ x with l:=x.l++[(T ns 2 s).1] },(T ns 2 s).2):=rfl
def Cc:Dh c T ns k 98 x s=({ x with l:=x.l++[(T (x.bd++ns) (ofR k) s).1] },(T (x.bd++ns) (ofR k) s).2):=rfl
def Hi:Dh c T ns k 80 x s=({ x with l:=x.l++[(T (x.bd++ns) (ofR k) s).1] },(T (x.bd++ns) (ofR k) s).2):=rfl
def Aw:Ds c T ns k [] x s=(x,s):=rfl
def Au{ch:UInt8}{r:By}{q a:Nat}{D:GV}:Ds c T ns k (ch::r) x ⟨q,true,a,D⟩=(x,⟨q,true,a,D⟩):=rfl
def As{ch:UInt8}{r:By}{q a:Nat}{D:GV}:Ds c T ns k (ch::r) x ⟨q,false,a,D⟩=Ds c T ns k r (Dh c T ns k ch x ⟨q,false,a,D⟩).1 (Dh c T ns k ch x ⟨q,false,a,D⟩).2:=rfl
end
def v76:((UInt8.toNat 76:Nat):Int)=76:=rfl
def v77:((UInt8.toNat 77:Nat):Int)=77:=rfl
def v83:((UInt8.toNat 83:Nat):Int)=83:=rfl
def v116:((UInt8.toNat 116:Nat):Int)=116:=rfl
def v98:((UInt8.toNat 98:Nat):Int)=98:=rfl
def v80:((UInt8.toNat 80:Nat):Int)=80:=rfl
def v120:((UInt8.toNat 120:Nat):Int)=120:=rfl
def v121:((UInt8.toNat 121:Nat):Int)=121:=rfl
def v101:((UInt8.toNat 101:Nat):Int)=101:=rfl
def v112:((UInt8.toNat 112:Nat):Int)=112:=rfl
def wq7:IntKind.i64.wrap 7=7:=rfl
def wq8:IntKind.i64.wrap 8=8:=rfl
section
variable{c:RC}
def TK(T:TR):Prop:=∀ns w s,s.k<=(T ns w s).2.k
def Ayb{T:TR}(hT:TK T)(ns:List By):∀(m:Nat) (s:RS),s.k<=(Ec T ns m s).2.k:=by
 intro m
 induction m with
 |zero=>intro s;exact q_ja _
 |succ m ih=>intro s;exact q_kn (hT ns 2 s) (ih _)
def Aj8{T:TR}(hT:TK T)(ns:List By)(k:Nat)(ch:UInt8)(x:AccR)(s:RS):s.k<=(Dh c T ns k ch x s).2.k:=by
 unfold Dh;split
 ·exact Ei _ s
 split
 ·split
  ·exact q_kn (Ei (c.L.length+1) s) (Ayb hT ns (arN x.n) { (Af c (c.L.length+1) s).2 with D:=[] })
  ·exact Ei _ s
 split
 ·dsimp only;split
  ·exact Ce 3
  ·rw[Nd];exact Ce 3
 split
 ·exact Ce 3
 split
 ·exact hT ns _ s
 split
 ·exact hT ns _ s
 ·exact hT _ _ s
def Akr{T:TR}(hT:TK T)(ns:List By)(k:Nat):∀(sh:By) (x:AccR) (s:RS),s.k<=(Ds c T ns k sh x s).2.k:=by
 intro sh
 induction sh with
 |nil=>intro x s;exact q_ja _
 |cons ch r ih=>
  intro x s;rw[Ds];split
  ·exact q_ja _
  ·exact q_kn (Aj8 hT ns k ch x s) (ih _ _)
def Xe:∀(f:Nat),TK (Bw c f):=by
 intro f
 induction f with
 |zero=>intro ns w s;exact q_ja _
 |succ f ih=>
  intro ns w s;rw[Bw];split
  ·exact q_ja _
  split
  ·rw[Nd];exact q_ja _
  split
  ·unfold Iw;split
   ·exact Nat.le_succ _
   ·rw[Nd];exact q_ja _
  have h1:s.k<=(Ad c s 1).2.k:=Ce 1;have h2:(Ad c s 1).2.k<=(Ad c (Ad c s 1).2 3).2.k:=Ce 3;dsimp only;split
  ·exact q_kn h1 h2
  split
  ·rw[Nd];omega
  ·unfold Ai;have h3:=Akr (c:=c) ih ns (Cr (Ad c (Ad c s 1).2 3).1).1 (Cr (Ad c (Ad c s 1).2 3).1).2 {} (Ad c (Ad c s 1).2 3).2;have h4:=Ce (c:=c) (s:=(Ds c (Bw c f) ns (Cr (Ad c (Ad c s 1).2 3).1).1 (Cr (Ad c (Ad c s 1).2 3).1).2 {} (Ad c (Ad c s 1).2 3).2).2) 2;dsimp only;omega
def Ill(s s':RS):Prop:=s'.bad=true/\s'.at_=s.at_
def TI(T:TR):Prop:=∀ns w s,s.bad=true->(T ns w s).2=s
def Ke(f:Nat):TI (Bw c f):=fun ns w s h=>by
 cases f with
 |zero=>rfl
 |succ f=>rw[Bw,if_pos h]
def Rp{s:RS}(h:s.bad=true)(k:Nat):Bl c s k=s:=by unfold Bl;rw[if_pos h]
def Oz{s:RS}(h:s.bad=true)(f:Nat):(Af c f s).2=s:=by
 cases f with
 |zero=>rfl
 |succ f=>
  rw[Af,if_neg (fun k=>by rw[h] at k;cases k.1)];exact Rp h _
def Aey{T:TR}(hT:TI T)(ns:List By):∀(m:Nat) (s:RS),s.bad=true->(Ec T ns m s).2=s:=by
 intro m
 induction m with
 |zero=>intro s _;rfl
 |succ m ih=>intro s h;show (Ec T ns m (T ns 2 s).2).2=s;rw[hT ns 2 s h];exact ih s h
def Aj7{T:TR}(hT:TI T)(ns:List By)(k:Nat)(ch:UInt8)(x:AccR){s:RS}(h:s.bad=true):Ill s (Dh c T ns k ch x s).2:=by
 have n3:=Lx (c:=c) (s:=s) (kd:=3) h;unfold Dh;split
 ·dsimp only;rw[Oz h];exact⟨h,rfl⟩
 split
 ·split
  ·dsimp only;rw[Oz h,Aey hT ns _ _ (show ({ s with D:=[] }:RS).bad=true from h)];exact⟨h,rfl⟩
  ·dsimp only;rw[Oz h];exact⟨h,rfl⟩
 split
 ·dsimp only;rw[n3];split
  ·exact⟨h,rfl⟩
  ·dsimp only;rw[Rp h];exact⟨h,rfl⟩
 split
 ·dsimp only;rw[n3];exact⟨h,rfl⟩
 split
 ·dsimp only;rw[hT _ _ _ h];exact⟨h,rfl⟩
 split
 ·dsimp only;rw[hT _ _ _ h];exact⟨h,rfl⟩
 ·dsimp only;rw[hT _ _ _ h];exact⟨h,rfl⟩
def Im(c:RC)(T:TR)(ns:List By)(k:Nat):By->AccR->RS->AccR×RS
 |[],x,s=>(x,s)
 |ch::r,x,s=>Im c T ns k r (Dh c T ns k ch x s).1 (Dh c T ns k ch x s).2
def Akq{T:TR}(hT:TI T)(ns:List By)(k:Nat):∀(sh:By) (x:AccR) (s:RS),s.bad=true->Ill s (Im c T ns k sh x s).2:=by
 intro sh
 induction sh with
 |nil=>intro x s h;exact⟨h,rfl⟩
 |cons ch r ih=>
  intro x s h;obtain⟨h1,h2⟩:=Aj7 (c:=c) hT ns k ch x h;obtain⟨h3,h4⟩:=ih (Dh c T ns k ch x s).1 _ h1;exact⟨h3,h4.trans h2⟩
def Aks{T:TR}(hT:TI T)(ns:List By)(k:Nat):∀(sh:By) (x:AccR) (s:RS),((Im c T ns k sh x s).2.bad=false->Ds c T ns k sh x s=Im c T ns k sh x s)/\((Im c T ns k sh x s).2.bad=true->Ill (Im c T ns k sh x s).2 (Ds c T ns k sh x s).2):=by
 intro sh
 induction sh with
 |nil=>intro x s;exact⟨fun _=>rfl,fun h=>⟨h,rfl⟩⟩
 |cons ch r ih=>
  intro x s;rcases Bool.eq_false_or_eq_true s.bad with hb|hb
  ·have hi:=Akq (c:=c) hT ns k (ch::r) x s hb;refine⟨fun h=>absurd (hi.1.symm.trans h) (by decide),fun _=>?_⟩;rw[Ds,if_pos hb];exact⟨hb,hi.2.symm⟩
  ·rw[Ds,if_neg (by rw[hb];decide)];exact ih _ _
def A0q{T:TR}(hT:TI T){ns:List By}{k p:Nat}{b:Int}{sh:By}{x:AccR}{s:RS}(h:PRel c p b (Im c T ns k sh x s).2):PRel c p b (Ds c T ns k sh x s).2:=by
 obtain⟨h1,h2⟩:=Aks (c:=c) hT ns k sh x s;rcases Bool.eq_false_or_eq_true (Im c T ns k sh x s).2.bad with hb|hb
 ·exact h.ill' hb (h2 hb).1 (h2 hb).2 h.1
 ·rw[h1 hb];exact h
def Ht{T:TR}(hT:TI T){ns:List By}{k p:Nat}{b:Int}{sh:By}{s:RS}{t:Tm}(h:PRel c p b (Im c T ns k sh {} s).2)(ht:(Im c T ns k sh {} s).2.bad=false->t=(Im c T ns k sh {} s).1.tm k) :
  PRel c (Cy c p b 2).2.1 (Cy c p b 2).2.2 (Ai c T ns k sh s).2/\((Ai c T ns k sh s).2.bad=false->t=(Ai c T ns k sh s).1):=by
 unfold Ai;dsimp only;refine⟨((A0q hT h).want (kd:=2) (by decide)).1,fun hb=>?_⟩;obtain⟨h1,h2⟩:=Aks (c:=c) hT ns k sh {} s;rcases Bool.eq_false_or_eq_true (Im c T ns k sh {} s).2.bad with Ci|Ci
 ·exfalso;rw[Lx (h2 Ci).1] at hb;rw[(h2 Ci).1] at hb;cases hb
 ·rw[h1 Ci];exact ht Ci
end
def Axu{w:By}(hw:w≠[]){want:Nat}(Aar:want<=2):Pa w want=if (Cr w).1=0\/(want=1/\12<(Cr w).1)\/(want=2/\2<(Cr w).1/\(Cr w).1<=12) then 0 else (Cr w).1:=by
 have h3:want=0\/want=1\/want=2:=by omega
 by_cases hin:w∈formsG.map (·.1)
 ·simp only[formsG,q_h,q_i,q_kb,q_kc,or_false] at hin;rcases hin with rfl|rfl|rfl|rfl|rfl|rfl|rfl|rfl|rfl|rfl|rfl|rfl|rfl|rfl|rfl|rfl|rfl|rfl|rfl|rfl|rfl|rfl<;>rcases h3 with rfl|rfl|rfl<;>decide
 ·have hg:Cr w=(0,[]):=by
   have key:∀(l:List (By×Nat×By)),w ∉ l.map (·.1)->Ir w l=none:=by
    intro l
    induction l with
    |nil=>intro _;rfl
    |cons a l ih=>
     obtain⟨v,k,sh⟩:=a;intro h;rw[q_h,q_kb,not_or] at h;rw[Ir,if_neg (by simpa using fun e=>h.1 e.symm)];exact ih h.2
   unfold Cr;rw[key _ hin];rfl
  rw[hg,if_pos (.inl rfl)];have hm:∀v∈markG,(v==w)=false:=fun v hv=>by
   rw[beq_eq_false_iff_ne];rintro rfl;simp only[markG,q_kb,q_kc,or_false] at hv;rcases hv with rfl|rfl|rfl|rfl|rfl|rfl|rfl|rfl|rfl|rfl|rfl|rfl
   all_goals first|exact hw rfl|exact hin (by decide)
  have hp:∀v∈plainG,(v==w)=false:=fun v hv=>by
   rw[beq_eq_false_iff_ne];rintro rfl;simp only[plainG,q_kb,q_kc,or_false] at hv;rcases hv with rfl|rfl|rfl|rfl|rfl|rfl|rfl|rfl|rfl|rfl|rfl
   all_goals exact hin (by decide)
  have g1:∀i,i<12->mIx w want i=false:=fun i hi=>by
   unfold mIx;rw[hm _ (by rw[q_j,q_f (show i<markG.length from hi)];exact q_kd _),q_lf]
  have g2:∀i,i<11->pIx w want i=false:=fun i hi=>by
   unfold pIx;rw[hp _ (by rw[q_j,q_f (show i<plainG.length from hi)];exact q_kd _),q_lf]
  unfold Pa;rw[Xv g1];simp only;rw[Xv g2]
open Go Go.RowKit
structure QC where
 tx:By
 L:List Tok
 e:Nat
structure QS where
 k:Nat
 bad:Bool
 at_:Nat
def QC.tk(c:QC)(k:Nat):Tok:=c.L.getD k ⟨0,[],0⟩
def Gj(s:QS)(p:Nat):QS:=if s.bad then s else { s with bad:=true,at_:=p }
def Dn(c:QC)(s:QS)(k:Nat):QS:=Gj s (if k<c.L.length then (c.tk k).p else c.e)
def isQ(c:QC)(s:QS)(kd:Nat):Bool:=decide (s.k<c.L.length) && decide ((c.tk s.k).k=kd)
def Bs(c:QC)(s:QS)(kd:Nat):By×QS:=if s.bad=false/\isQ c s kd=true then ((c.tk s.k).w,{ s with k:=s.k+1 }) else ([],Dn c s s.k)
def Dj(c:QC)(s:QS):Nat×QS:=((Do (Bs c s 4).1).getD 0,if 1000<(Do (Bs c s 4).1).getD 0 then Dn c (Bs c s 4).2 ((Bs c s 4).2.k-1) else (Bs c s 4).2)
def Zu:List By:=[[112,105],[108,97,109],[97,112,112],[115,105,103],[112,97,105,114],[102,115,116],[115,110,100],[101,113],[114,101,102,108],[116,114]]
def Zy:List By:=[[80,105],[76,97,109],[65,112,112],[83,105,103],[80,97,105,114],[70,115,116],[83,110,100],[69,113],[82,101,102,108],[74],[117,115,101]]
def Mr(w:By)(pl:Bool):Bool:=if w∈Zu then pl else if w∈Zy then !pl else false
def Mt:List Tok->Nat->Nat->Option Nat
 |[],_,_=>none
 |t::r,i,d=>if (if t.k=1 then d+1 else if t.k=2 then d-1 else d)=0 then some (i+1) else Mt r (i+1) (if t.k=1 then d+1 else if t.k=2 then d-1 else d)
def Gk(c:QC)(k:Nat):Option Nat:=Mt (c.L.drop k) k 0
def Di(n:Nat):List By:=((List.range n).map fun i=>118::Lib.itoa (i:Nat)).reverse
def Ew(c:QC)(k:Nat):Nat:=match Gk c k with
 |some q=>(c.tk (q-1)).p+(c.tk (q-1)).w.length
 |none=>c.tx.length
def Cb(c:QC)(n:Nat)(pl:Bool)(s:QS):Tm×QS:=
 if s.bad=false/\s.k<c.L.length then
  if (c.tk s.k).k=1/\s.k+1<c.L.length/\(c.tk (s.k+1)).k=3/\Mr (c.tk (s.k+1)).w pl=true then (zR,Dn c s (s.k+1))
  else match (Gr ((c.tx.drop (c.tk s.k).p).take (Ew c s.k-(c.tk s.k).p)) (Di n) 0 0) with
   |(t,none)=>(t,{ s with k:=(Gk c s.k).getD 0 })
   |(_,some p)=>(zR,Gj s ((c.tk s.k).p+p))
 else (zR,Dn c s s.k)
def Fc(c:QC):Nat->List (Tm×Nat)->QS->List (Tm×Nat)×QS
 |0,es,s=>(es,s)
 |f+1,es,s=>if s.bad=false/\isQ c s 2=false then Fc c f (es++[((Cb c es.length false (Dj c s).2).1,(Dj c s).1)]) (Cb c es.length false (Dj c s).2).2 else (es,s)
structure XQ where
 ctx:List (Tm×Nat)
 eq:Bool
 i:Nat
 a:Tm
 u:Tm
 b:Tm
 v:Tm
 h:Tm
def Gv(c:QC)(s:QS):Bool×QS:=(decide ((Bs c s 3).1=[101,113,117,97,108]),if (Bs c s 3).1=[116,101,114,109]\/(Bs c s 3).1=[101,113,117,97,108] then (Bs c s 3).2 else Dn c (Bs c s 3).2 ((Bs c s 3).2.k-1))
def Je(c:QC)(s:QS):XQ×QS:=
 let hd:=Gv c s
 let e:=Fc c (c.L.length+1) [] (Bs c hd.2 1).2
 let l:=Dj c (Bs c e.2 2).2
 let n:=e.1.length
 let t1:=Cb c n false l.2
 let t2:=Cb c n false t1.2
 if hd.1=false then (⟨e.1,false,l.1,t2.1,t1.1,zR,zR,zR⟩,t2.2)
 else
  let t3:=Cb c n false t2.2
  let t4:=Cb c n false t3.2
  let t5:=Cb c n true t4.2
  (⟨e.1,true,l.1,t1.1,t2.1,t3.1,t4.1,t5.1⟩,t5.2)
def qcR(tx:By):QC:=match (Bi tx).2 with
 |none=>⟨tx,Em tx,tx.length⟩
 |some p=>⟨tx,Em (tx.take p),p⟩
def Nt(tx:By):XQ×Option Nat:=
 let c:=qcR tx
 let b:=Je c (Bs c ⟨0,false,0⟩ 1).2
 let s:=(Bs c b.2 2).2
 let s2:=if s.bad=false/\(s.k<c.L.length\/(Bi tx).2.isSome) then Dn c s s.k else s
 (b.1,if s2.bad then some s2.at_ else none)
end Go.Proofs.YtgfehkhcmnfpaaaGreatDoor.Abs
