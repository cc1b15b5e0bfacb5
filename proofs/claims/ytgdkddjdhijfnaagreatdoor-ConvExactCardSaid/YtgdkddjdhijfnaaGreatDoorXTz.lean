import Derived.Test.YtgdkddjdhijfnaaGreatDoorXEv
import Derived.Test.YtgdkddjdhijfnaaGreatDoorProg
import Derived.KernelRfl
import Derived.Test.YtgdkddjdhijfnaaGreatDoorXTi
import Derived.Test.YtgdkddjdhijfnaaGreatDoorXPc
set_option linter.all false
set_option maxRecDepth 20000
set_option maxHeartbeats 4000000
namespace Go.Proofs.YtgdkddjdhijfnaaGreatDoor.Abs
open Go Go.Proofs Go.Proofs.YtgdkddjdhijfnaaGreatDoor
def a41_28:AC:=.seq (Ab [Aa 66 11,oP 67 (Ah 66),oP 68 (Ac 2 67),oP 69 (Ad 68),oP 70 (An .lss 69 0),Aa 71 70,oG 72 71 true 0 (mT 11),oG 73 71 true 0 (.hcall 67 [(.t 72)]),oG 74 71 true 0 (Aj 73 1),oP 75 (Az 71 74)] (Cu 75 0)) (.blk 1 (Ab [Aa 76 11,oP 77 (Ah 76),oP 78 (Ac 1 77),oP 79 (Ad 78),oP 80 (An .add 79 1),oP 81 (Ah 76),oP 82 (Ac 1 81),oN (Al 1 82 80)] (Ab [Aa 83 11,oP 84 (.hcall 66 [(.t 83),(cI 3)]),Aa 14 84] (Ab [Aa 85 13,Aa 86 11,oP 87 (.hcall 68 [(.t 86),(cI 2)]),oP 88 (.bslice 5 [(.t 87)]),oP 89 (.app 5 56 (.t 85) (.t 88)),Aa 13 89] (Ab [Aa 90 11,oP 91 (.hcall 66 [(.t 90),(cI 2)])] (Ar [Aa 92 11,Aa 93 14,oP 94 (.bslice 1 [(.t 93)]),oP 95 (.hcall 69 [(.t 92),(.t 94)])]))))))
def a41_51:AC:=Ab [Aa 96 11,oP 97 (.hcall 66 [(.t 96),(cI 2)])] (Ab [Aa 98 13,oP 99 (Ac 1 12),oN (Al 1 99 98)] (Ab [Aa 100 11,oP 101 (.hcall 68 [(.t 100),(cI 2)]),oP 102 (Ac 2 12),oN (Al 5 102 101)] (.seq (Ab [oP 103 (Ac 12 12),oP 104 (Ad 103)] (Ae 104 (Ar [Aa 105 11,oP 106 (.hcall 68 [(.t 105),(cI 2)]),oP 107 (Ac 7 12),oN (Al 5 107 106)]) .skip)) (Ab [Aa 108 11,oP 109 (.hcall 66 [(.t 108),(cI 2)])] (.seq (Ab [Aa 110 11,oP 111 (Ah 110),oP 112 (Ac 2 111),oP 113 (Ad 112),oP 114 (An .geq 113 0)] (Ae 114 (Ab [oP 115 (.build [(.str (bs [])),.nils,(iS 0),(iS 0),(iS 0),(iS 0),.nils,(iS 0),(iS 0),(iS 0),(iS 0),.nils,(.bool false)] []),oN (Al 13 6 115),oP 7 (.mv (cB false))] .ret) .skip)) (Ab [oP 116 (Ak 13 12),oN (Al 13 6 116),oP 7 (.mv (cB true))] .ret))))))
def af41:AF:=⟨117,[(.cell 6 true 13),(.t 7)],(Ab [oP 6 (.new [(.str (bs [])),.nils,(iS 0),(iS 0),(iS 0),(iS 0),.nils,(iS 0),(iS 0),(iS 0),(iS 0),.nils,(.bool false)]),oP 7 (.mv (cB false))] (Ab [oP 15 (.call 64 []),Aa 8 15] (.seq (Ab [Aa 16 0,oP 17 (An .lss 16 1),Aa 18 17,oG 19 18 false 0 (mT 0),oG 20 18 false 0 (mT 8),oG 21 18 false 0 (.len false (.t 20)),oG 22 18 false 0 (Bb .gtr 19 21),oP 23 (Bf 18 22),Aa 24 23,oG 25 24 false 0 (mT 1),oG 26 24 false 0 (An .lss 25 0),oP 27 (Bf 24 26),Aa 28 27,oG 29 28 false 0 (mT 1),oG 30 28 false 0 (An .geq 29 1000),oP 31 (Bf 28 30),Aa 32 31,oG 33 32 false 0 (mT 2),oG 34 32 false 0 (An .lss 33 0),oP 35 (Bf 32 34),Aa 36 35,oG 37 36 false 0 (mT 2),oG 38 36 false 0 (An .geq 37 1000),oP 39 (Bf 36 38)] (Ae 39 (Ab [oP 40 (.build [(.str (bs [])),.nils,(iS 0),(iS 0),(iS 0),(iS 0),.nils,(iS 0),(iS 0),(iS 0),(iS 0),.nils,(.bool false)] []),oN (Al 13 6 40),oP 7 (.mv (cB false))] .ret) .skip)) (Ab [Aa 42 8,Aa 43 0,oP 44 (An .sub 43 1),oP 45 (.iad 1 (.t 42) (.t 44)),oP 46 (Ad 45),oP 47 (.call 65 [(.t 46)]),Aa 41 47,oP 48 (.ext (.t 41) 0),oP 49 (.ext (.t 41) 1),Aa 9 48,Aa 10 49] (Ab [Aa 50 9,Aa 51 1,Aa 52 2,oP 53 (.build [.nils,(iS 0),(iS 0),(iS 0),(iS 0),.nils] [(0,(1,(.t 50))),(2,(1,(cI (-1)))),(3,(1,(.t 51))),(4,(1,(.t 52)))]),oP 54 (.boxg (.t 53)),Aa 11 54] (Ab [Aa 55 11,oP 56 (.hcall 66 [(.t 55),(cI 1)])] (Ab [oP 12 (.new [(.str (bs [])),.nils,(iS 0),(iS 0),(iS 0),(iS 0),.nils,(iS 0),(iS 0),(iS 0),(iS 0),.nils,(.bool false)])] (Ab [Aa 57 11,oP 58 (.hcall 66 [(.t 57),(cI 3)]),oP 59 (.bin 4 .eql (.t 58) (Ay [100,101,102])),oP 60 (Ac 12 12),oN (Al 1 60 59)] (Ab [Aa 61 11,oP 62 (.hcall 66 [(.t 61),(cI 3)]),oP 63 (Ac 0 12),oN (Al 1 63 62)] (Ab [Aa 64 11,oP 65 (.hcall 66 [(.t 64),(cI 1)])] (Ab [oP 13 (.mv (.c .nils))] (.seq (.blk 0 (.loop a41_28)) a41_51))))))))))))⟩
def tr41:trF Tryz.prog Tryz.f41=some af41:=by kernel_rfl
attribute [go_sem] af41 a41_28 a41_51
def af66:AF:=⟨31,[(.t 4)],(Ab [oP 4 (.mv (Ay []))] (.seq (Ab [Aa 6 0,oP 7 (Ah 6),oP 8 (Ac 2 7),oP 9 (Ad 8),oP 10 (An .geq 9 0)] (Ae 10 (Ab [oP 4 (.mv (Ay []))] .ret) .skip)) (.seq (Ab [Aa 11 0,oP 12 (.hcall 67 [(.t 11)]),Aa 13 1,oP 14 (Bb .neq 12 13)] (Ae 14 (Ab [Aa 15 0,Aa 16 0,oP 17 (Ah 16),oP 18 (Ac 1 17),oP 19 (Ad 18),oP 20 (.hcall 90 [(.t 15),(.t 19)])] (Ab [oP 4 (.mv (Ay []))] .ret)) .skip)) (Ab [Aa 21 0,oP 22 (.hcall 91 [(.t 21)]),Aa 5 22] (Ab [Aa 23 0,oP 24 (Ah 23),oP 25 (Ac 1 24),oP 26 (Ad 25),oP 27 (An .add 26 1),oP 28 (Ah 23),oP 29 (Ac 1 28),oN (Al 1 29 27)] (Ab [Aa 30 5,Aa 4 30] .ret))))))⟩
def tr66:trF Tryz.prog Tryz.f66=some af66:=by kernel_rfl
attribute [go_sem] af66
def af67:AF:=⟨24,[(.t 2)],(Ab [oP 2 (.mv (cI 0))] (.seq (Ce [Aa 3 0,oI 4 1 (Ah 3),oI 5 2 (Ac 1 4),oI 6 3 (Ad 5),oI 7 4 (mT 0),oI 8 5 (Ah 7),oI 9 6 (Ac 0 8),oI 10 7 (Ad 9),oI 11 8 (.len false (.t 10)),oI 12 9 (Bb .lss 6 11)] (Ae 12 (Ce [Aa 13 0,oI 14 1 (Ah 13),oI 15 2 (Ac 0 14),oI 16 3 (Ad 15),oI 17 4 (mT 0),oI 18 5 (Ah 17),oI 19 6 (Ac 1 18),oI 20 7 (Ad 19),oI 21 8 (.iad 3 (.t 16) (.t 20)),oI 22 9 (Ac 0 21),oI 23 10 (Ad 22),oI 2 11 (mT 23)] .ret) .skip)) (Ab [oP 2 (.mv (cI 0))] .ret)))⟩
def tr67:trF Tryz.prog Tryz.f67=some af67:=by kernel_rfl
attribute [go_sem] af67
def af68:AF:=⟨89,[(.cell 4 true 5)],(Ab [oP 4 Cb] (.seq (Ab [Aa 7 0,oP 8 (Ah 7),oP 9 (Ac 2 8),oP 10 (Ad 9),oP 11 (An .geq 10 0)] (Ae 11 (Ab [oP 12 (Da []),oN (Al 5 4 12)] .ret) .skip)) (.seq (Ab [Aa 13 0,oP 14 (.hcall 67 [(.t 13)]),oP 15 (Aj 14 3)] (Ae 15 (.seq (Ab [Aa 16 0,oP 17 (Ah 16),oP 18 (Ac 5 17),oP 19 (Ad 18),oP 20 (.len false (.t 19)),oP 21 (An .sub 20 1),Aa 5 21] (.blk 0 (.loop (.seq (Ab [Aa 22 5,oP 23 (An .geq 22 0)] (Cu 23 0)) (.seq (.blk 1 (Ce [Aa 26 0,oI 27 1 (Ah 26),oI 28 2 (Ac 5 27),⟨(some 29),(Ad 28),none,3,true,[]⟩,oI 30 4 (mT 5),⟨(some 31),(.iad 1 (.t 29) (.t 30)),none,5,true,[]⟩,⟨(some 32),(Ad 31),none,6,true,[]⟩,oI 33 7 (mT 0),⟨(some 34),(.hcall 91 [(.t 33)]),none,8,false,[3,5,6,8]⟩,oI 35 9 (.bin 4 .eql (.t 32) (.t 34))] (Ae 35 (Ab [Aa 36 0,oP 37 (Ah 36),oP 38 (Ac 1 37),oP 39 (Ad 38),oP 40 (An .add 39 1),oP 41 (Ah 36),oP 42 (Ac 1 41),oN (Al 1 42 40)] (Ab [Aa 43 0,oP 44 (Ah 43),oP 45 (Ac 5 44),oP 46 (Ad 45),oP 47 (.len false (.t 46)),oP 48 (An .sub 47 1),Aa 49 5,oP 50 (Bb .sub 48 49),oP 51 (Da [(0,(1,(cI 2))),(1,(1,(.t 50)))]),oN (Al 5 4 51)] .ret)) .skip))) (Ar [Aa 24 5,oP 25 (An .sub 24 1),Aa 5 25])))))) (Ab [Aa 52 0,Aa 53 0,oP 54 (Ah 53),oP 55 (Ac 1 54),oP 56 (Ad 55),oP 57 (.hcall 90 [(.t 52),(.t 56)])] (Ab [oP 58 (Da []),oN (Al 5 4 58)] .ret))) .skip)) (Ab [Aa 59 0,oP 60 (.hcall 66 [(.t 59),(cI 1)])] (.seq (Ab [Aa 61 0,oP 62 (Ah 61),oP 63 (Ac 2 62),oP 64 (Ad 63),oP 65 (An .geq 64 0)] (Ae 65 (Ab [oP 66 (Da []),oN (Al 5 4 66)] .ret) .skip)) (Ab [Aa 67 0,Aa 68 1,oP 69 (.hcall 92 [(.t 67),(.t 68)]),Aa 6 69] (.seq (Ab [Aa 70 6,oP 71 (Aj 70 0)] (Ae 71 (Ab [Aa 72 0,Aa 73 0,oP 74 (Ah 73),oP 75 (Ac 1 74),oP 76 (Ad 75),oP 77 (.hcall 90 [(.t 72),(.t 76)])] (Ab [oP 78 (Da []),oN (Al 5 4 78)] .ret)) .skip)) (Ab [Aa 79 0,oP 80 (Ah 79),oP 81 (Ac 1 80),oP 82 (Ad 81),oP 83 (An .add 82 1),oP 84 (Ah 79),oP 85 (Ac 1 84),oN (Al 1 85 83)] (Ab [Aa 86 0,Aa 87 6,oP 88 (.hcall 93 [(.t 86),(.t 87)]),oN (Al 5 4 88)] .ret)))))))))⟩
def tr68:trF Tryz.prog Tryz.f68=some af68:=by kernel_rfl
attribute [go_sem] af68
def af69:AF:=⟨15,[],(Ar [Aa 4 0,oP 5 (.bslice 1 []),Aa 6 0,oP 7 (Ah 6),oP 8 (Ac 5 7),oP 9 (Ad 8),oP 10 (.app 1 16 (.t 5) (.t 9)),Aa 11 1,oP 12 (.app 1 16 (.t 10) (.t 11)),oP 13 (Ah 4),oP 14 (Ac 5 13),oN (Al 1 14 12)])⟩
def tr69:trF Tryz.prog Tryz.f69=some af69:=by kernel_rfl
attribute [go_sem] af69
def af91:AF:=⟨24,[(.t 2)],(Ab [oP 2 (.mv (Ay []))] (.seq (Ce [Aa 3 0,oI 4 1 (Ah 3),oI 5 2 (Ac 1 4),oI 6 3 (Ad 5),oI 7 4 (mT 0),oI 8 5 (Ah 7),oI 9 6 (Ac 0 8),oI 10 7 (Ad 9),oI 11 8 (.len false (.t 10)),oI 12 9 (Bb .lss 6 11)] (Ae 12 (Ce [Aa 13 0,oI 14 1 (Ah 13),oI 15 2 (Ac 0 14),oI 16 3 (Ad 15),oI 17 4 (mT 0),oI 18 5 (Ah 17),oI 19 6 (Ac 1 18),oI 20 7 (Ad 19),oI 21 8 (.iad 3 (.t 16) (.t 20)),oI 22 9 (Ac 1 21),oI 23 10 (Ad 22),oI 2 11 (mT 23)] .ret) .skip)) (Ab [oP 2 (.mv (Ay []))] .ret)))⟩
def tr91:trF Tryz.prog Tryz.f91=some af91:=by kernel_rfl
attribute [go_sem] af91
def af92:AF:=⟨55,[(.t 4)],(Ab [oP 4 (.mv (cI 0))] (.seq (Ab [Aa 8 0,oP 9 (.hcall 67 [(.t 8)]),oP 10 (An .neq 9 3)] (Ae 10 (Ab [oP 4 (.mv (cI 0))] .ret) .skip)) (Ab [oP 11 (.call 107 []),Aa 5 11] (.seq (Ab [oP 6 (.mv (cI 0))] (.blk 0 (.loop (.seq (Ab [Aa 12 6,Aa 13 5,oP 14 (.len false (.t 13)),oP 15 (Bb .lss 12 14)] (Cu 15 0)) (.seq (.blk 1 (Ce [Aa 18 5,oI 19 1 (mT 6),⟨(some 20),(.iad 1 (.t 18) (.t 19)),none,2,true,[]⟩,⟨(some 21),(Ad 20),none,3,true,[]⟩,oI 22 4 (mT 0),⟨(some 23),(.hcall 91 [(.t 22)]),none,5,false,[2,3,5]⟩,oI 24 6 (.bin 4 .eql (.t 21) (.t 23)),oI 25 7 (mT 24),oG 26 25 true 8 (mT 1),oG 27 25 true 9 (An .neq 26 2),oG 28 25 true 10 (mT 27),oG 29 28 false 11 (mT 6),oG 30 28 false 12 (Aj 29 0),oG 31 25 true 13 (Bf 28 30),oI 32 14 (Az 25 31)] (Ae 32 (Ab [Aa 33 6,oP 34 (An .add 33 1),Aa 4 34] .ret) .skip))) (Ar [Aa 16 6,oP 17 (An .add 16 1),Aa 6 17])))))) (Ab [oP 35 (.call 108 []),Aa 5 35] (.seq (Ab [oP 7 (.mv (cI 0))] (.blk 2 (.loop (.seq (Ab [Aa 36 7,Aa 37 5,oP 38 (.len false (.t 37)),oP 39 (Bb .lss 36 38)] (Cu 39 2)) (.seq (.blk 3 (Ce [Aa 42 5,oI 43 1 (mT 7),⟨(some 44),(.iad 1 (.t 42) (.t 43)),none,2,true,[]⟩,⟨(some 45),(Ad 44),none,3,true,[]⟩,oI 46 4 (mT 0),⟨(some 47),(.hcall 91 [(.t 46)]),none,5,false,[2,3,5]⟩,oI 48 6 (.bin 4 .eql (.t 45) (.t 47)),oI 49 7 (mT 48),oG 50 49 true 8 (mT 1),oG 51 49 true 9 (An .neq 50 1),oI 52 10 (Az 49 51)] (Ae 52 (Ab [Aa 53 7,oP 54 (.bin 0 .add (cI 13) (.t 53)),Aa 4 54] .ret) .skip))) (Ar [Aa 40 7,oP 41 (An .add 40 1),Aa 7 41])))))) (Ab [oP 4 (.mv (cI 0))] .ret)))))))⟩
def tr92:trF Tryz.prog Tryz.f92=some af92:=by kernel_rfl
attribute [go_sem] af92
def a93_107:AC:=.seq (Ab [Aa 81 10,Aa 82 1,oP 83 (Ac 3 5),oP 84 (Ad 83),oP 85 (.call 71 [(.t 82),(.t 84)]),oP 86 (Bb .lss 81 85)] (Cu 86 1)) (.seq (.blk 2 (.seq (Ab [Aa 89 1,oP 90 (Aj 89 22),Aa 91 90,oG 92 91 true 0 (mT 10),oG 93 91 true 0 (Aj 92 2),oP 94 (Az 91 93)] (Ae 94 (Ab [Aa 95 0,oP 96 (.hcall 66 [(.t 95),(cI 3)]),Aa 11 96] (Ar [Aa 97 11,Aa 98 0,oP 99 (.hcall 66 [(.t 98),(cI 3)]),oP 100 (.bslice 1 [(.t 97),(.t 99)]),Aa 8 100])) .skip)) (Ab [Aa 101 1,Aa 102 10,oP 103 (.call 74 [(.t 101),(.t 102)]),Aa 12 103] (.seq (Ab [Aa 104 12,oP 105 (An .gtr 104 0)] (Ae 105 (Ar [Aa 106 0,Aa 107 8,oP 108 (.hcall 69 [(.t 106),(.t 107)])]) .skip)) (Ab [Aa 109 6,Aa 13 109] (.seq (Ab [Aa 110 1,oP 111 (Aj 110 12),Aa 112 111,oG 113 112 true 0 (mT 10),oG 114 112 true 0 (Aj 113 2),oP 115 (Az 112 114)] (Ae 115 (Ar [oP 13 (.mv (cI 2))]) .skip)) (Ab [Aa 116 9,Aa 117 0,Aa 118 13,oP 119 (.hcall 68 [(.t 117),(.t 118)]),oP 120 (.bslice 5 [(.t 119)]),oP 121 (.app 5 56 (.t 116) (.t 120)),Aa 9 121] (Ab [Aa 122 12,oP 123 (An .gtr 122 0)] (Ae 123 (Ar [Aa 124 0,Aa 125 12,oP 126 (.hcall 111 [(.t 124),(.t 125)])]) .skip))))))))) (Ar [Aa 87 10,oP 88 (An .add 87 1),Aa 10 88]))
def a93_116:AC:=Ab [Aa 127 0,oP 128 (.hcall 66 [(.t 127),(cI 2)])] (Ab [Aa 129 9,oP 130 (Ac 4 5),oN (Al 1 130 129)] (Ab [oP 131 (Ak 5 5),oN (Al 5 4 131)] .ret))
def af93:AF:=⟨132,[(.cell 4 true 5)],(Ab [oP 4 Cb] (Ab [Aa 14 1,oP 15 (Da [(0,(1,(.t 14)))]),oP 5 Cb,oN (Al 5 5 15)] (Ab [oP 6 (.mv (cI 1))] (.seq (Ab [Aa 16 1,oP 17 (An .gtr 16 12)] (Ae 17 (Ar [oP 6 (.mv (cI 2))]) .skip)) (.seq (Ab [Aa 18 1] (.blk 0 (Ab [oP 20 (Aj 18 23),Aa 19 20] (Ae 19 (Ab [Aa 21 0,oP 22 (.hcall 91 [(.t 21)]),oP 23 (.call 109 [(.t 22)]),Aa 7 23] (.seq (Ab [Aa 24 0,oP 25 (.hcall 67 [(.t 24)]),oP 26 (An .neq 25 3),Aa 27 26,oG 28 27 false 0 (mT 7),oG 29 27 false 0 (Aj 28 0),oP 30 (Bf 27 29)] (Ae 30 (Ab [Aa 31 0,Aa 32 0,oP 33 (Ah 32),oP 34 (Ac 1 33),oP 35 (Ad 34),oP 36 (.hcall 90 [(.t 31),(.t 35)])] (Ab [oP 37 (Da []),oN (Al 5 4 37)] .ret)) .skip)) (Ab [Aa 38 0,oP 39 (Ah 38),oP 40 (Ac 1 39),oP 41 (Ad 40),oP 42 (An .add 41 1),oP 43 (Ah 38),oP 44 (Ac 1 43),oN (Al 1 44 42)] (Ab [Aa 45 7,oP 46 (Ac 3 5),oN (Al 1 46 45)] (Ab [Aa 47 0,oP 48 (.hcall 110 [(.t 47)]),oP 49 (Ac 1 5),oN (Al 1 49 48)] (Ar [Aa 50 0,oP 51 (.hcall 110 [(.t 50)]),oP 52 (Ac 2 5),oN (Al 1 52 51)])))))) (.seq (Ab [oP 54 (Aj 18 3),Aa 53 54] (Ae 53 .skip (Ab [oP 55 (Aj 18 4),Aa 53 55] (Ae 53 .skip (Ab [oP 56 (Aj 18 5),Aa 53 56] (Ae 53 .skip (Ab [oP 57 (Aj 18 6),Aa 53 57] (Ae 53 .skip (Ab [oP 58 (Aj 18 7),Aa 53 58] (Ae 53 .skip (Ab [oP 59 (Aj 18 8),Aa 53 59] (Ae 53 .skip (Ar [oP 60 (Aj 18 9),Aa 53 60]))))))))))))) (Ae 53 (Ab [Aa 61 0,oP 62 (.hcall 110 [(.t 61)]),oP 63 (Ac 1 5),oN (Al 1 63 62)] (Ar [Aa 64 0,oP 65 (.hcall 110 [(.t 64)]),oP 66 (Ac 2 5),oN (Al 1 66 65)])) (.seq (Ab [oP 68 (Aj 18 1),Aa 67 68] (Ae 67 .skip (Ab [oP 69 (Aj 18 10),Aa 67 69] (Ae 67 .skip (Ab [oP 70 (Aj 18 11),Aa 67 70] (Ae 67 .skip (Ar [oP 71 (Aj 18 12),Aa 67 71]))))))) (Ae 67 (Ar [Aa 72 0,oP 73 (.hcall 110 [(.t 72)]),oP 74 (Ac 1 5),oN (Al 1 74 73)]) .skip)))))))) (Ab [oP 8 (.mv (.c .nils))] (.seq (Ab [Aa 75 1,oP 76 (.call 74 [(.t 75),(cI 1)]),oP 77 (Aj 76 1)] (Ae 77 (Ar [Aa 78 0,oP 79 (.hcall 66 [(.t 78),(cI 3)]),oP 80 (.bslice 1 [(.t 79)]),Aa 8 80]) .skip)) (Ab [oP 9 (.mv (.c .nils))] (.seq (Ab [oP 10 (.mv (cI 0))] (.blk 1 (.loop a93_107))) a93_116)))))))))⟩
def tr93:trF Tryz.prog Tryz.f93=some af93:=by kernel_rfl
attribute [go_sem] af93 a93_107 a93_116
def af107:AF:=⟨2,[(.t 0)],(Ab [oP 0 (.mv (.c .nils))] (Ab [oP 1 (.bslice 1 [(Ay [115,111,114,116]),(Ay []),(Ay [112,105]),(Ay [108,97,109]),(Ay [97,112,112]),(Ay [115,105,103]),(Ay [112,97,105,114]),(Ay [102,115,116]),(Ay [115,110,100]),(Ay [101,113]),(Ay [114,101,102,108]),(Ay [116,114])]),Aa 0 1] .ret))⟩
def tr107:trF Tryz.prog Tryz.f107=some af107:=by kernel_rfl
attribute [go_sem] af107
def af108:AF:=⟨2,[(.t 0)],(Ab [oP 0 (.mv (.c .nils))] (Ab [oP 1 (.bslice 1 [(Ay [80,105]),(Ay [76,97,109]),(Ay [65,112,112]),(Ay [83,105,103]),(Ay [80,97,105,114]),(Ay [70,115,116]),(Ay [83,110,100]),(Ay [69,113]),(Ay [82,101,102,108]),(Ay [74]),(Ay [117,115,101])]),Aa 0 1] .ret))⟩
def tr108:trF Tryz.prog Tryz.f108=some af108:=by kernel_rfl
attribute [go_sem] af108
def af109:AF:=⟨20,[(.t 2)],(Ab [oP 2 (.mv (cI 0))] (Ab [oP 5 (.call 119 []),Aa 3 5] (.seq (Ab [oP 4 (.mv (cI 0))] (.blk 0 (.loop (.seq (Ab [Aa 6 4,Aa 7 3,oP 8 (.len false (.t 7)),oP 9 (Bb .lss 6 8)] (Cu 9 0)) (.seq (.blk 1 (Ab [Aa 12 3,Aa 13 4,oP 14 (.iad 1 (.t 12) (.t 13)),oP 15 (Ad 14),Aa 16 0,oP 17 (.bin 4 .eql (.t 15) (.t 16))] (Ae 17 (Ab [Aa 18 4,oP 19 (An .add 18 1),Aa 2 19] .ret) .skip))) (Ar [Aa 10 4,oP 11 (An .add 10 1),Aa 4 11])))))) (Ab [oP 2 (.mv (cI 0))] .ret))))⟩
def tr109:trF Tryz.prog Tryz.f109=some af109:=by kernel_rfl
attribute [go_sem] af109
def af110:AF:=⟨138,[(.t 2)],(Ab [oP 2 (.mv (cI 0))] (.seq (Ab [Aa 6 0,oP 7 (Ah 6),oP 8 (Ac 2 7),oP 9 (Ad 8),oP 10 (An .geq 9 0)] (Ae 10 (Ab [oP 2 (.mv (cI 0))] .ret) .skip)) (Ab [Aa 11 0,oP 12 (Ah 11),oP 13 (Ac 1 12),oP 14 (Ad 13),Aa 3 14,oP 4 (.mv (cI 0))] (.seq (.blk 0 (Ab [Aa 22 0,oP 23 (.hcall 67 [(.t 22)]),oP 24 (Aj 23 4),Aa 21 24] (Ae 21 (Ab [Aa 26 0,oP 27 (.hcall 91 [(.t 26)]),oP 28 (.call 89 [(.t 27)]),Aa 25 28,oP 29 (.ext (.t 25) 0),oP 30 (.ext (.t 25) 1),Aa 4 29] (Ar [Aa 31 0,oP 32 (Ah 31),oP 33 (Ac 1 32),oP 34 (Ad 33),oP 35 (An .add 34 1),oP 36 (Ah 31),oP 37 (Ac 1 36),oN (Al 1 37 35)])) (Ab [Aa 39 0,oP 40 (.hcall 67 [(.t 39)]),oP 41 (Aj 40 3),Aa 42 41,oG 43 42 true 0 (mT 0),oG 44 42 true 0 (.hcall 91 [(.t 43)]),oG 45 42 true 0 (.bin 4 .eql (.t 44) (Ay [105])),oP 46 (Az 42 45),Aa 38 46] (Ae 38 (Ab [Aa 47 0,oP 48 (Ah 47),oP 49 (Ac 3 48),oP 50 (Ad 49),Aa 4 50] (Ar [Aa 51 0,oP 52 (Ah 51),oP 53 (Ac 1 52),oP 54 (Ad 53),oP 55 (An .add 54 1),oP 56 (Ah 51),oP 57 (Ac 1 56),oN (Al 1 57 55)])) (Ab [Aa 59 0,oP 60 (.hcall 67 [(.t 59)]),oP 61 (Aj 60 3),Aa 62 61,oG 63 62 true 0 (mT 0),oG 64 62 true 0 (.hcall 91 [(.t 63)]),oG 65 62 true 0 (.bin 4 .eql (.t 64) (Ay [106])),oP 66 (Az 62 65),Aa 58 66] (Ae 58 (Ab [Aa 67 0,oP 68 (Ah 67),oP 69 (Ac 4 68),oP 70 (Ad 69),Aa 4 70] (Ar [Aa 71 0,oP 72 (Ah 71),oP 73 (Ac 1 72),oP 74 (Ad 73),oP 75 (An .add 74 1),oP 76 (Ah 71),oP 77 (Ac 1 76),oN (Al 1 77 75)])) (Ab [Aa 79 0,oP 80 (.hcall 67 [(.t 79)]),oP 81 (Aj 80 1),Aa 78 81] (Ae 78 (Ab [Aa 82 0,oP 83 (Ah 82),oP 84 (Ac 1 83),oP 85 (Ad 84),oP 86 (An .add 85 1),oP 87 (Ah 82),oP 88 (Ac 1 87),oN (Al 1 88 86)] (Ab [Aa 89 0,oP 90 (.hcall 91 [(.t 89)]),Aa 5 90] (.seq (Ab [Aa 91 0,oP 92 (.hcall 67 [(.t 91)]),oP 93 (An .neq 92 3),Aa 94 93,oG 95 94 false 0 (mT 5),oG 96 94 false 0 (.bin 4 .neq (.t 95) (Ay [115,117,99])),oG 97 94 false 0 (mT 96),oG 98 97 true 0 (mT 5),oG 99 97 true 0 (.bin 4 .neq (.t 98) (Ay [109,97,120])),oG 100 94 false 0 (Az 97 99),oP 101 (Bf 94 100)] (Ae 101 (Ab [Aa 102 0,Aa 103 0,oP 104 (Ah 103),oP 105 (Ac 1 104),oP 106 (Ad 105),oP 107 (.hcall 90 [(.t 102),(.t 106)])] (Ab [oP 2 (.mv (cI 0))] .ret)) .skip)) (Ab [Aa 108 0,oP 109 (Ah 108),oP 110 (Ac 1 109),oP 111 (Ad 110),oP 112 (An .add 111 1),oP 113 (Ah 108),oP 114 (Ac 1 113),oN (Al 1 114 112)] (Ab [Aa 115 0,oP 116 (.hcall 110 [(.t 115)]),Aa 4 116] (.seq (Ab [Aa 117 5,oP 118 (.bin 4 .eql (.t 117) (Ay [115,117,99]))] (Ae 118 (Ar [Aa 119 4,oP 120 (An .add 119 1),Aa 4 120]) (Ar [Aa 121 4,Aa 122 0,oP 123 (.hcall 110 [(.t 122)]),oP 124 (.mnx true (.t 121) (.t 123)),Aa 4 124]))) (Ar [Aa 125 0,oP 126 (.hcall 66 [(.t 125),(cI 2)])]))))))) (Ar [Aa 15 0,Aa 16 0,oP 17 (Ah 16),oP 18 (Ac 1 17),oP 19 (Ad 18),oP 20 (.hcall 90 [(.t 15),(.t 19)])])))))))))) (.seq (Ab [Aa 127 4,oP 128 (An .gtr 127 1000)] (Ae 128 (Ar [Aa 129 0,Aa 130 3,oP 131 (.hcall 90 [(.t 129),(.t 130)])]) .skip)) (.seq (Ab [Aa 132 0,oP 133 (Ah 132),oP 134 (Ac 2 133),oP 135 (Ad 134),oP 136 (An .geq 135 0)] (Ae 136 (Ab [oP 2 (.mv (cI 0))] .ret) .skip)) (Ab [Aa 137 4,Aa 2 137] .ret)))))))⟩
def tr110:trF Tryz.prog Tryz.f110=some af110:=by kernel_rfl
attribute [go_sem] af110
def af111:AF:=⟨21,[],(.reg [Aa 4 0,⟨(some 5),(.bslice 1 []),none,1,true,[]⟩,oI 6 2 (mT 0),oI 7 3 (Ah 6),oI 8 4 (Ac 5 7),⟨(some 9),(Ad 8),none,5,false,[1]⟩,oI 10 6 (mT 0),oI 11 7 (Ah 10),oI 12 8 (Ac 5 11),⟨(some 13),(Ad 12),none,9,false,[1]⟩,oI 14 10 (.len false (.t 13)),oI 15 11 (mT 1),oI 16 12 (Bb .sub 14 15),⟨(some 17),(.slc 1 (.t 9) none (some (.t 16))),none,13,false,[1]⟩,oI 18 14 (.app 1 16 (.t 5) (.t 17)),oI 19 15 (Ah 4),oI 20 16 (Ac 5 19),oJ 17 (Al 1 20 18)] true)⟩
def tr111:trF Tryz.prog Tryz.f111=some af111:=by kernel_rfl
attribute [go_sem] af111
def af119:AF:=⟨2,[(.t 0)],(Ab [oP 0 (.mv (.c .nils))] (Ab [oP 1 (.bslice 1 [(Ay [117,105,112]),(Ay [102,117,110,101,120,116]),(Ay [115,121,109]),(Ay [116,114,97,110,115]),(Ay [116,114]),(Ay [104,101,116]),(Ay [116,121,112]),(Ay [116,114,104]),(Ay [104,112]),(Ay [104,50,101]),(Ay [101,50,104]),(Ay [114,112]),(Ay [99,112,105]),(Ay [99,115,105,103]),(Ay [99,108,97,109]),(Ay [99,97,112,112]),(Ay [99,112,97,105,114]),(Ay [99,102,115,116]),(Ay [99,115,110,100]),(Ay [99,101,113]),(Ay [99,114,101,102,108])]),Aa 0 1] .ret))⟩
def tr119:trF Tryz.prog Tryz.f119=some af119:=by kernel_rfl
attribute [go_sem] af119
open Go Go.RowKit Go.Proofs.YtgdkddjdhijfnaaGreatDoor
def prR(L:List Tok)(k:Nat)(nm:SV)(i j:Nat):List SV:=[.dsl 3 (L.map Fx),.int .i64 k,.int .i64 (-1),.int .i64 i,.int .i64 j,nm]
section
variable{L:List Tok}{k i j:Nat}{nm:SV}{G:GV}{t:Tok}{r:List Tok}
def Ni(h:L.drop k=t::r)(hL:L.length<1000000000000):Am 67 (prR L k nm i j::G) [.gp 0 0] (.ret (.int .i64 t.k)) (prR L k nm i j::G):=by
 obtain⟨a1,a2,a3,a4,a5,a6,a7,a8,a9,a10⟩:=Ei h;have a10:=a10 hL;refine Bh mixed Tryz.func67 tr67 ?_;unfold prR;simp only[go_sem,seval,a1,a2,a3,a4,a8,a9,a10,forall_const,q_g]
def Vv(h:L.drop k=t::r)(hL:L.length<1000000000000):Am 91 (prR L k nm i j::G) [.gp 0 0] (.ret (.str (bs t.w))) (prR L k nm i j::G):=by
 obtain⟨a1,a2,a3,a4,a5,a6,a7,a8,a9,a10⟩:=Ei h;have a10:=a10 hL;refine Bh mixed Tryz.func91 tr91 ?_;unfold prR;simp only[go_sem,seval,a1,a2,a3,a4,a8,a9,a10,forall_const,q_g]
def A9f(h:L.drop k=t::r)(hL:L.length<1000000000000):Am 66 (prR L k nm i j::G) [.gp 0 0,.int .i64 t.k] (.ret (.str (bs t.w))) (prR L (k+1) nm i j::G):=by
 obtain⟨a1,a2,a3,a4,a5,a6,a7,a8,a9,a10⟩:=Ei h;have a6:=a6 hL;have hk:=Ni (i:=i) (j:=j) (nm:=nm) (G:=G) h hL;have hw:=Vv (i:=i) (j:=j) (nm:=nm) (G:=G) h hL;refine Bh mixed Tryz.func66 tr66 ?_;unfold prR at hk hw |-
 repeat' first
 |simp only[go_sem,seval,Aqz,a6]
 |refine Ai hk ?_
 |refine Ai hw ?_
def Ff{c:Int}(h:L.drop k=t::r)(hL:L.length<1000000000000)(hc:(t.k:Int)=c):Am 66 (prR L k nm i j::G) [.gp 0 0,.int .i64 c] (.ret (.str (bs t.w))) (prR L (k+1) nm i j::G):=hc ▸ A9f h hL
def Adp{le:LE}(h:L.drop k=t::r)(hL:L.length<1000000000000)(hi:i<1000)(hj:j<1000)(hle:Kk t=some le) :
  Am 110 (prR L k nm i j::G) [.gp 0 0] (.ret (.int .i64 (le.ev i j))) (prR L (k+1) nm i j::G):=by
 obtain⟨a1,a2,a3,a4,a5,a6,a7,a8,a9,a10⟩:=Ei h;have a6:=a6 hL;have hk:=Ni (i:=i) (j:=j) (nm:=nm) (G:=G) h hL;have hw:=Vv (i:=i) (j:=j) (nm:=nm) (G:=G) h hL;rcases Ajm hle with⟨h1,h2,rfl⟩|⟨h1,h2,rfl⟩|⟨h1,h2,rfl⟩
 ·rw[h1] at hk;rw[h2] at hw;refine Bh mixed Tryz.func110 tr110 ?_;unfold prR at hk hw |-
  repeat' first
  |simp only[go_sem,seval,a6,LE.ev]
  |refine Ai hk ?_
  |refine Ai hw ?_
  |refine Af Ag4 ?_
 ·rw[h1] at hk;rw[h2] at hw;have i1:¬(i:Int) > 1000:=by omega
  have i2:¬1000<(i:Int):=by omega
  refine Bh mixed Tryz.func110 tr110 ?_;unfold prR at hk hw |-
  repeat' first
  |simp only[go_sem,seval,b105,a6,LE.ev,i1,i2]
  |refine Ai hk ?_
  |refine Ai hw ?_
 ·rw[h1] at hk;rw[h2] at hw;have i1:¬(j:Int) > 1000:=by omega
  have i2:¬1000<(j:Int):=by omega
  refine Bh mixed Tryz.func110 tr110 ?_;unfold prR at hk hw |-
  repeat' first
  |simp only[go_sem,seval,b106,b1066,a6,LE.ev,i1,i2]
  |refine Ai hk ?_
  |refine Ai hw ?_
def bneq{a b:By}{z:Bool}(h:(a==b)=z):(a != b)=!z:=by simp[bne,h]
def Apa{u x z:Tok}{le:LE}(h:L.drop k=t::u::x::z::r)(hL:L.length<1000000000000)(hi:i<1000)(hj:j<1000)(hk:t.k=1)(huk:u.k=3)(hw:u.w=[115,117,99])(hle:Kk x=some le)(hz:z.k=2)(hb:le.ev i j<1000) :
  Am 110 (prR L k nm i j::G) [.gp 0 0] (.ret (.int .i64 ((le.ev i j+1:Nat):Int))) (prR L (k+1+1+1+1) nm i j::G):=by
 have d1:=Bl h;have d2:=Bl d1;have d3:=Bl d2;obtain⟨a1,a2,a3,a4,a5,a6,a7,a8,a9,a10⟩:=Ei h;have a6:=a6 hL;obtain⟨b1,b2,b3,b4,b5,b6,b7,b8,b9,b10⟩:=Ei d1;have b6:=b6 hL;have c1:=Ni (i:=i) (j:=j) (nm:=nm) (G:=G) h hL;have c2:=Vv (i:=i) (j:=j) (nm:=nm) (G:=G) d1 hL;have c3:=Ni (i:=i) (j:=j) (nm:=nm) (G:=G) d1 hL;have c4:=Adp (nm:=nm) (G:=G) d2 hL hi hj hle;have c5:=Ff (i:=i) (j:=j) (nm:=nm) (G:=G) (c:=2) d3 hL (by omega);rw[hk] at c1;rw[hw] at c2;rw[huk] at c3;have i1:¬(le.ev i j:Int)+1 > 1000:=by omega
 have i2:¬1000<(le.ev i j:Int)+1:=by omega
 have e1:((le.ev i j+1:Nat):Int)=(le.ev i j:Int)+1:=rfl;have s1:=bneq bsuc;rw[e1];refine Bh mixed Tryz.func110 tr110 ?_;unfold prR at c1 c2 c3 c4 c5 |-
 repeat' first
 |simp only[go_sem,seval,a6,s1,b6,bsuc,w64 (show fit ((le.ev i j:Int)+1) by unfold fit;omega),i1,i2]
 |refine Ai c1 ?_
 |refine Ai c2 ?_
 |refine Ai c3 ?_
 |refine Ai c4 ?_
 |refine Ai c5 ?_
def A9a{u x y z:Tok}{le lf:LE}(h:L.drop k=t::u::x::y::z::r)(hL:L.length<1000000000000)(hi:i<1000)(hj:j<1000)(hk:t.k=1)(huk:u.k=3)(hw:u.w=[109,97,120])(hle:Kk x=some le)(hlf:Kk y=some lf)(hz:z.k=2)(hb:le.ev i j<1000)(Dc:lf.ev i j<1000) :
  Am 110 (prR L k nm i j::G) [.gp 0 0] (.ret (.int .i64 ((max (le.ev i j) (lf.ev i j):Nat):Int))) (prR L (k+1+1+1+1+1) nm i j::G):=by
 have d1:=Bl h;have d2:=Bl d1;have d3:=Bl d2;have d4:=Bl d3;obtain⟨a1,a2,a3,a4,a5,a6,a7,a8,a9,a10⟩:=Ei h;have a6:=a6 hL;obtain⟨b1,b2,b3,b4,b5,b6,b7,b8,b9,b10⟩:=Ei d1;have b6:=b6 hL;have c1:=Ni (i:=i) (j:=j) (nm:=nm) (G:=G) h hL;have c2:=Vv (i:=i) (j:=j) (nm:=nm) (G:=G) d1 hL;have c3:=Ni (i:=i) (j:=j) (nm:=nm) (G:=G) d1 hL;have c4:=Adp (nm:=nm) (G:=G) d2 hL hi hj hle;have c4':=Adp (nm:=nm) (G:=G) d3 hL hi hj hlf;have c5:=Ff (i:=i) (j:=j) (nm:=nm) (G:=G) (c:=2) d4 hL (by omega);rw[hk] at c1;rw[hw] at c2;rw[huk] at c3;have s1:=bneq bmax;have s2:=bneq bmax2;obtain⟨M,hM⟩:∃M,M=max (le.ev i j) (lf.ev i j):=⟨_,rfl⟩
 rw[<-hM];have hmx:(if (le.ev i j:Int)<(lf.ev i j:Int) then (lf.ev i j:Int) else (le.ev i j:Int))=(M:Int):=by split<;>omega
 have i1:¬(M:Int) > 1000:=by omega
 have i2:¬1000<(M:Int):=by omega
 refine Bh mixed Tryz.func110 tr110 ?_;unfold prR at c1 c2 c3 c4 c4' c5 |-
 repeat' first
 |simp only[go_sem,seval,a6,s1,s2,bmax,bmax2,b6,hmx,i1,i2]
 |refine Ai c1 ?_
 |refine Ai c2 ?_
 |refine Ai c3 ?_
 |refine Ai c4 ?_
 |refine Ai c4' ?_
 |refine Ai c5 ?_
def Ac9{le:LE}{t:Tok}(h:Kk t=some le)(hi:i<1000)(hj:j<1000):le.ev i j<1000:=by
 rcases Ajm h with⟨_,_,rfl⟩|⟨_,_,rfl⟩|⟨_,_,rfl⟩
 ·exact (by decide:0<1000)
 ·exact hi
 ·exact hj
def Ah2{ts:List Tok}{le:LE}(h:L.drop k=ts)(hL:L.length<1000000000000)(hi:i<1000)(hj:j<1000)(hle:Sv ts=some (le,r)) :
  ∃k',L.drop k'=r/\Am 110 (prR L k nm i j::G) [.gp 0 0] (.ret (.int .i64 (le.ev i j))) (prR L k' nm i j::G):=by
 cases ts with
 |nil=>cases hle
 |cons t ts=>
 unfold Sv at hle;dsimp only at hle;have Qx:=Bl h;split at hle
 ·rename_i hk
  match ts,hle with
  |[],hle=>cases hle
  |[u],hle=>cases hle
  |u::x::r1,hle=>
   dsimp only at hle;split at hle
   ·rename_i hu;split at hle
    ·rename_i hs;have hs:u.w=[115,117,99]:=by simpa using hs
     split at hle
     ·rename_i hx;obtain⟨z,Fl,Du,Mn⟩:=Ry hle;subst Mn Fl;exact⟨_,Bl (Bl (Bl Qx)),Apa h hL hi hj hk hu hs hx Du (Ac9 hx hi hj)⟩
     ·rename_i hx;obtain⟨z,Fl,Du,Mn⟩:=Ry hle;subst Mn Fl;exact⟨_,Bl (Bl (Bl Qx)),Apa h hL hi hj hk hu hs hx Du (Ac9 hx hi hj)⟩
     ·cases hle
    ·split at hle
     ·rename_i hs;have hs:u.w=[109,97,120]:=by simpa using hs
      match r1,hle with
      |[],hle=>cases hle
      |y::r2,hle=>
       dsimp only at hle;split at hle
       ·rename_i hx hy;obtain⟨z,Fl,Du,Mn⟩:=Ry hle;subst Mn Fl;exact⟨_,Bl (Bl (Bl (Bl Qx))),A9a h hL hi hj hk hu hs hx hy Du (Ac9 hx hi hj) (Ac9 hy hi hj)⟩
       ·cases hle
     ·cases hle
   ·cases hle
 ·cases ha:Kk t with
  |none=>rw[ha] at hle;cases hle
  |some le'=>
   rw[ha] at hle;simp only[q_jh,q_b,Prod.mk.injEq] at hle;obtain⟨rfl,rfl⟩:=hle;exact⟨_,Qx,Adp h hL hi hj ha⟩
end
section
variable{L:List Tok}{k i j:Nat}{G:GV}
def A9d{ws:GV}(hw:ws.length<=100) :
  Am 69 (prR L k .nils i j::G) [.gp 0 0,.dsl 1 ws] (.ret (.tup [])) (prR L k (.dsl 1 ws) i j::G):=by
 have e1:ws.length*16<=140737488355328:=by omega
 have e2:ws.length<=140737488355328:=by omega
 have e3:ws.take ws.length=ws:=q_js (by simp);refine Bh mixed Tryz.func69 tr69 ?_;unfold prR;simp only[go_sem,seval,e1,e2,e3]
def A9e{R ws:GV}(hw:ws.length<=100)(hR:R.length<=1000000) :
  Am 69 (prR L k (.dsl 1 R) i j::G) [.gp 0 0,.dsl 1 ws] (.ret (.tup [])) (prR L k (.dsl 1 (R++ws)) i j::G):=by
 have e1:(R.length+ws.length)*16<=140737488355328:=by omega
 have e2:R.length+ws.length<=140737488355328:=by omega
 have e3:(R++ws).take (R.length+ws.length)=R++ws:=q_js (by simp);have e4:R.length*16<=140737488355328:=by omega
 have e5:R.length<=140737488355328:=by omega
 refine Bh mixed Tryz.func69 tr69 ?_;unfold prR;simp only[go_sem,seval,e1,e2,e3,e4,e5]
def A9c{R ws:GV}(hw:ws.length<=100)(hR:R.length<=1000000) :
  Am 111 (prR L k (.dsl 1 (R++ws)) i j::G) [.gp 0 0,.int .i64 ws.length] (.ret (.tup [])) (prR L k (.dsl 1 R) i j::G):=by
 have e4:R.length*16<=140737488355328:=by omega
 have e5:R.length<=140737488355328:=by omega
 have e6:IntKind.i64.wrap (((R.length+ws.length:Nat):Int)-(ws.length:Int))=(R.length:Int):=by rw[w64 (by unfold fit;omega)];omega
 have e7:(R++ws).take R.length=R:=by simp
 refine Bh mixed Tryz.func111 tr111 ?_;unfold prR;simp only[go_sem,seval,e4,e5,e6,e7,q_kt,q_km];exact⟨by omega,by omega⟩
def A1b:Con 119 [] (.dsl 1 (symsL.map wdR)):=by
 refine Au mixed Tryz.func119 tr119 ?_;simp only[go_sem,seval,symsL,q_h,q_i,wdR]
def A1n{w:By}{n:Nat}(h:Lw w symsL=some n):Con 109 [.str (bs w)] (.int .i64 ((n+1:Nat):Int)):=by
 obtain⟨h1,h2⟩:=Xp h;have Av:symsL.length=21:=rfl;have hn:=(q_jm.1 h1).1;refine Au mixed Tryz.func109 tr109 ?_;simp only[go_sem,seval];refine Af A1b ?_;have Cc:∀(m:Nat) v,symsL[m]?=some v->(symsL.map wdR)[m]?.getD []=[.str (bs v)]:=fun m v hv=>by rw[q_ji,hv];rfl
 generalize symsL=l at *
 simp only[go_sem,seval,q_g,Av];intros;refine Ln (fun x=>⟨(.str (bs w)::.J::.int .i64 0::.dsl 1 (l.map wdR)::.int .i64 x::jk8 (jk4 (jk2 (.J::[])))),[]⟩) n (fun x hx=>?_) ?_
 ·have e0:(0:Int)<=(x:Int):=by omega
  have e1:(x:Int)<21:=by omega
  have e2:x<21:=by omega
  have e3:(21:Nat)<=140737488355328:=by decide
  by_cases Ag:x<n
  ·obtain⟨v,h3,h4⟩:=h2 x Ag;simp only[go_sem,seval,q_jn e1,e0,e1,e2,e3,forall_const,q_g,Av,Cc x v h3,h4,w64 (show fit ((x:Int)+1) by unfold fit;omega)];refine⟨Ag,?_⟩;exact Bk (by simp[Ba])
  ·have:x=n:=by omega
   subst this;simp only[go_sem,seval,q_jn e1,e0,e1,e2,e3,forall_const,q_g,Av,Cc x w h1,beq_self_eq_true,w64 (show fit ((x:Int)+1) by unfold fit;omega)];rfl
 ·exact Bk (by simp[Ba])
def markL:List By:=[[115,111,114,116],[],[112,105],[108,97,109],[97,112,112],[115,105,103],[112,97,105,114],[102,115,116],[115,110,100],[101,113],[114,101,102,108],[116,114]]
def plainL:List By:=[[80,105],[76,97,109],[65,112,112],[83,105,103],[80,97,105,114],[70,115,116],[83,110,100],[69,113],[82,101,102,108],[74],[117,115,101]]
def Ana:Con 107 [] (.dsl 1 (markL.map wdR)):=by
 refine Au mixed Tryz.func107 tr107 ?_;simp only[go_sem,seval,markL,q_h,q_i,wdR]
def A0j:Con 108 [] (.dsl 1 (plainL.map wdR)):=by
 refine Au mixed Tryz.func108 tr108 ?_;simp only[go_sem,seval,plainL,q_h,q_i,wdR]
def A8z{nm:SV}{t:Tok}{r:List Tok}{want:Int}(h:L.drop k=t::r)(hL:L.length<1000000000000)(hk:t.k=3)(hw:t.w=[115,111,114,116]) :
  Am 92 (prR L k nm i j::G) [.gp 0 0,.int .i64 want] (.ret (.int .i64 1)) (prR L k nm i j::G):=by
 have c1:=Ni (i:=i) (j:=j) (nm:=nm) (G:=G) h hL;have c2:=Vv (i:=i) (j:=j) (nm:=nm) (G:=G) h hL;rw[hk] at c1;rw[hw] at c2;have b1:(([115,111,114,116]:By)==[115,111,114,116])=true:=by decide
 refine Bh mixed Tryz.func92 tr92 ?_;unfold prR at c1 c2 |-
 repeat' first
 |simp only[go_sem,seval,markL,q_h,q_i,wdR]
 |refine Ai c1 ?_
 |refine Af Ana ?_
 |refine Cv 1 (Bd ?_)
 refine Ai c2 ?_;cases hw2:(want != 2)<;>simp only[go_sem,seval,b1,hw2]
def Rb{nm:SV}{t:Tok}{r:List Tok}{want:Int}{n:Nat}(h:L.drop k=t::r)(hL:L.length<1000000000000)(hk:t.k=3)(hn:Lw t.w plainL=some n)(hm:∀v∈markL,(v==t.w)=false)(Aek:want=0\/want=2) :
  Am 92 (prR L k nm i j::G) [.gp 0 0,.int .i64 want] (.ret (.int .i64 ((13+n:Nat):Int))) (prR L k nm i j::G):=by
 have c1:=Ni (i:=i) (j:=j) (nm:=nm) (G:=G) h hL;have c2:=Vv (i:=i) (j:=j) (nm:=nm) (G:=G) h hL;rw[hk] at c1;obtain⟨h1,h2⟩:=Xp hn;have Av:plainL.length=11:=rfl;have Ad1:markL.length=12:=rfl;have hnl:=(q_jm.1 h1).1;have Cc:∀(m:Nat) v,plainL[m]?=some v->(plainL.map wdR)[m]?.getD []=[.str (bs v)]:=fun m v hv=>by rw[q_ji,hv];rfl
 have hrow2:∀(m:Nat) v,markL[m]?=some v->(markL.map wdR)[m]?.getD []=[.str (bs v)]:=fun m v hv=>by rw[q_ji,hv];rfl
 have Ps:∀m,m<12->∃v,markL[m]?=some v/\(v==t.w)=false:=fun m hm'=>⟨_,q_f (by omega),hm _ (q_kd _)⟩
 have Ki:(want==1)=false:=by rcases Aek with rfl|rfl<;>rfl
 have hw2:(want != 1)=true:=by rcases Aek with rfl|rfl<;>rfl
 have cm:=Ana;have cp:=A0j;generalize plainL=P at *
 generalize markL=Mk at *
 refine Bh mixed Tryz.func92 tr92 ?_;unfold prR at c1 c2 |-
 repeat' first
 |simp only[go_sem,seval]
 |refine Ai c1 ?_
 |refine Af cm ?_
 have e3:(12:Nat)<=140737488355328:=by decide
 have e3':(11:Nat)<=140737488355328:=by decide
 refine Ln (fun x=>⟨(.gp 0 0::.int .i64 want::.J::.J::.int .i64 0::.dsl 1 (Mk.map wdR)::.int .i64 x::Bo (Do ([]))),[gOb ([.dsl 3 (L.map Fx),.int .i64 k,.int .i64 (-1),.int .i64 i,.int .i64 j,nm]::G)]⟩) 12 (fun x hx=>?_) ?_
 ·by_cases Ag:x<12
  ·have e0:(0:Int)<=(x:Int):=by omega
   have e1:(x:Int)<12:=by omega
   have e2:x<12:=by omega
   obtain⟨v,h3,h4⟩:=Ps x Ag;simp only[go_sem,seval,q_jn e1,e0,e1,e2,e3,forall_const,q_g,Ad1,hrow2 x v h3];refine Ai c2 ?_;simp only[go_sem,seval,h4,w64 (show fit ((x:Int)+1) by unfold fit;omega)];refine⟨Ag,?_⟩;exact Bk (by simp[Ba])
  ·have:x=12:=by omega
   subst this;simp only[go_sem,seval,q_g,Ad1,e3,forall_const];refine Af cp ?_;simp only[go_sem,seval];refine Ln (fun x=>⟨(.gp 0 0::.int .i64 want::.J::.J::.int .i64 0::.dsl 1 (P.map wdR)::.J::.int .i64 x::Bo (jk8 (jk4 (jk2 (.J::[]))))),[gOb ([.dsl 3 (L.map Fx),.int .i64 k,.int .i64 (-1),.int .i64 i,.int .i64 j,nm]::G)]⟩) n (fun x hx=>?_) ?_
   ·have e0:(0:Int)<=(x:Int):=by omega
    have e1:(x:Int)<11:=by omega
    have e2:x<11:=by omega
    by_cases Ag:x<n
    ·obtain⟨v,h3,h4⟩:=h2 x Ag;simp only[go_sem,seval,q_jn e1,e0,e1,e2,e3',forall_const,q_g,Av,Cc x v h3];refine Ai c2 ?_;simp only[go_sem,seval,h4,w64 (show fit ((x:Int)+1) by unfold fit;omega)];refine⟨Ag,?_⟩;exact Bk (by simp[Ba])
    ·have:x=n:=by omega
     subst this;simp only[go_sem,seval,q_jn e1,e0,e1,e2,e3',forall_const,q_g,Av,Cc x t.w h1];refine Ai c2 ?_;simp only[go_sem,seval,beq_self_eq_true,Ki,hw2,w64 (show fit (13+(x:Int)) by unfold fit;omega)];rfl
   ·exact Bk (by simp[Ba])
 ·exact Bk (by simp[Ba])
end
def TP(T:TF)(b:Nat):Prop:=∀(ns:List By) (ts r:List Tok) (lt:LT),T ns ts=some (lt,r)->ns.length+b<1000000->∀(L:List Tok) (k i j:Nat) (nm:SV) (G:GV) (want:Int),L.length<1000000000000->i<1000->j<1000->(want=0\/want=2)->NmP nm ns->L.drop k=ts ->
 ∃k' nm',L.drop k'=r/\NmP nm' ns/\Am 68 (prR L k nm i j::G) [.gp 0 0,.int .i64 want] (.ret (.agg true (tv (lt.tm i j)))) (prR L k' nm' i j::G)
def BP(k:Nat)(L:List Tok)(k0 i j:Nat)(nm:SV)(ns:List By)(G:GV)(lt:LT)(r:List Tok):Prop:=
 ∃k' nm',L.drop k'=r/\NmP nm' ns/\Am 93 (prR L k0 nm i j::G) [.gp 0 0,.int .i64 k] (.ret (.agg true (tv (lt.tm i j)))) (prR L k' nm' i j::G)
def Zy{L:List Tok}{k i j:Nat}{nm:SV}{G:GV}{ns ws:List By}(h:NmP nm ns)(hw:ws.length<=100)(hn:ns.length<=1000000) :
  Am 69 (prR L k nm i j::G) [.gp 0 0,.dsl 1 (ws.map wdR)] (.ret (.tup [])) (prR L k (nmV (ws.reverse++ns)) i j::G):=by
 rcases h with⟨rfl,rfl⟩|rfl
 ·rw[show nmV (ws.reverse++[])=.dsl 1 (ws.map wdR) by simp[nmV]];exact A9d (by simpa using hw)
 ·rw[show nmV (ws.reverse++ns)=.dsl 1 (ns.reverse.map wdR++ws.map wdR) by simp[nmV]];exact A9e (by simpa using hw) (by simpa using hn)
def Aan{L:List Tok}{k i j:Nat}{G:GV}{ns ws:List By}(hw:ws.length<=100)(hn:ns.length<=1000000) :
  Am 111 (prR L k (nmV (ws.reverse++ns)) i j::G) [.gp 0 0,.int .i64 ws.length] (.ret (.tup [])) (prR L k (nmV ns) i j::G):=by
 rw[show nmV (ws.reverse++ns)=.dsl 1 (ns.reverse.map wdR++ws.map wdR) by simp[nmV]];have:=A9c (L:=L) (k:=k) (i:=i) (j:=j) (G:=G) (R:=ns.reverse.map wdR) (ws:=ws.map wdR) (by simpa using hw) (by simpa using hn)
 rwa [q_g] at this
def NmP.ne{nm:SV}{ns:List By}{v:By}(h:NmP nm (v::ns)):nm=nmV (v::ns):=by
 rcases h with⟨_,h⟩|h
 ·cases h
 ·exact h
def wp7:IntKind.i64.wrap 7=7:=rfl
def wp8:IntKind.i64.wrap 8=8:=rfl
section
variable{T:TF}{b:Nat}{ns:List By}{k0 i j:Nat}{L ts r:List Tok}{nm:SV}{G:GV}{lt:LT}
def Aw9(hT:TP T b)(Ez:ns.length+2+b<1000000)(hL:L.length<1000000000000)(hi:i<1000)(hj:j<1000)(hnm:NmP nm ns)(hd:L.drop k0=ts)(h:Gd T ns 18 [116] {} ts=some (lt,r)):BP 18 L k0 i j nm ns G lt r:=by
 obtain⟨y0,r0,h0,h⟩:=Ci h;obtain⟨a0,t0,rfl⟩:=Ep h0;obtain⟨z,r',rfl,hz,Ag⟩:=Is h;cases Ag;have b1:Con 74 [.int .i64 18,.int .i64 1] (.int .i64 0):=Dm 18 1;have kk:Con 71 [.int .i64 18,.int .i64 0] (.int .i64 1):=Nc 18 0;have bb0:Con 74 [.int .i64 18,.int .i64 0] (.int .i64 0):=Dm 18 0;obtain⟨q0,nm0,d0,m0,c0⟩:=hT ns _ _ a0 t0 (by omega) L _ i j nm G 2 hL hi hj (.inr rfl) hnm hd;have ce:=Ff (i:=i) (j:=j) (nm:=nm0) (G:=G) (c:=2) d0 hL (by omega);refine⟨_,nm0,Bl d0,m0,?_⟩;have eT:LT.tm i j (.nd 18 .z .z 0 [a0])=.mk 18 0 0 0 [a0.tm i j]:=by simp[LT.tm,LT.tms,LE.ev]
 change Am _ _ _ (.ret (.agg true (tv (LT.tm i j (.nd 18 .z .z 0 [a0]))))) _;rw[eT,As];simp only[q_h,q_i];unfold prR at c0 ce |-;refine Bh mixed Tryz.func93 tr93 ?_
 repeat' first
 |simp only[go_sem,seval,wp7,wp8]
 |refine Af b1 ?_
 |refine Cv 2 (Bd ?_)
 |refine Af kk ?_
 |refine Af bb0 ?_
 |refine Ai c0 ?_
 |refine Bd ?_
 |refine Ai ce ?_
def Axf(hT:TP T b)(Ez:ns.length+2+b<1000000)(hL:L.length<1000000000000)(hi:i<1000)(hj:j<1000)(hnm:NmP nm ns)(hd:L.drop k0=ts)(h:Gd T ns 19 [116] {} ts=some (lt,r)):BP 19 L k0 i j nm ns G lt r:=by
 obtain⟨y0,r0,h0,h⟩:=Ci h;obtain⟨a0,t0,rfl⟩:=Ep h0;obtain⟨z,r',rfl,hz,Ag⟩:=Is h;cases Ag;have b1:Con 74 [.int .i64 19,.int .i64 1] (.int .i64 0):=Dm 19 1;have kk:Con 71 [.int .i64 19,.int .i64 0] (.int .i64 1):=Nc 19 0;have bb0:Con 74 [.int .i64 19,.int .i64 0] (.int .i64 0):=Dm 19 0;obtain⟨q0,nm0,d0,m0,c0⟩:=hT ns _ _ a0 t0 (by omega) L _ i j nm G 2 hL hi hj (.inr rfl) hnm hd;have ce:=Ff (i:=i) (j:=j) (nm:=nm0) (G:=G) (c:=2) d0 hL (by omega);refine⟨_,nm0,Bl d0,m0,?_⟩;have eT:LT.tm i j (.nd 19 .z .z 0 [a0])=.mk 19 0 0 0 [a0.tm i j]:=by simp[LT.tm,LT.tms,LE.ev]
 change Am _ _ _ (.ret (.agg true (tv (LT.tm i j (.nd 19 .z .z 0 [a0]))))) _;rw[eT,As];simp only[q_h,q_i];unfold prR at c0 ce |-;refine Bh mixed Tryz.func93 tr93 ?_
 repeat' first
 |simp only[go_sem,seval,wp7,wp8]
 |refine Af b1 ?_
 |refine Cv 2 (Bd ?_)
 |refine Af kk ?_
 |refine Af bb0 ?_
 |refine Ai c0 ?_
 |refine Bd ?_
 |refine Ai ce ?_
def Aw7(hT:TP T b)(Ez:ns.length+2+b<1000000)(hL:L.length<1000000000000)(hi:i<1000)(hj:j<1000)(hnm:NmP nm ns)(hd:L.drop k0=ts)(h:Gd T ns 15 [116,116] {} ts=some (lt,r)):BP 15 L k0 i j nm ns G lt r:=by
 obtain⟨y0,r0,h0,h⟩:=Ci h;obtain⟨a0,t0,rfl⟩:=Ep h0;obtain⟨y1,r1,h1,h⟩:=Ci h;obtain⟨a1,t1,rfl⟩:=Ep h1;obtain⟨z,r',rfl,hz,Ag⟩:=Is h;cases Ag;have b1:Con 74 [.int .i64 15,.int .i64 1] (.int .i64 0):=Dm 15 1;have kk:Con 71 [.int .i64 15,.int .i64 0] (.int .i64 2):=Nc 15 0;have bb0:Con 74 [.int .i64 15,.int .i64 0] (.int .i64 0):=Dm 15 0;obtain⟨q0,nm0,d0,m0,c0⟩:=hT ns _ _ a0 t0 (by omega) L _ i j nm G 2 hL hi hj (.inr rfl) hnm hd;have bb1:Con 74 [.int .i64 15,.int .i64 1] (.int .i64 0):=Dm 15 1;obtain⟨q1,nm1,d1,m1,c1⟩:=hT ns _ _ a1 t1 (by omega) L _ i j nm0 G 2 hL hi hj (.inr rfl) m0 d0;have ce:=Ff (i:=i) (j:=j) (nm:=nm1) (G:=G) (c:=2) d1 hL (by omega);refine⟨_,nm1,Bl d1,m1,?_⟩;have eT:LT.tm i j (.nd 15 .z .z 0 [a0,a1])=.mk 15 0 0 0 [a0.tm i j,a1.tm i j]:=by simp[LT.tm,LT.tms,LE.ev]
 change Am _ _ _ (.ret (.agg true (tv (LT.tm i j (.nd 15 .z .z 0 [a0,a1]))))) _;rw[eT,As];simp only[q_h,q_i];unfold prR at c0 c1 ce |-;refine Bh mixed Tryz.func93 tr93 ?_
 repeat' first
 |simp only[go_sem,seval,wp7,wp8]
 |refine Af b1 ?_
 |refine Cv 3 (Bd ?_)
 |refine Af kk ?_
 |refine Af bb0 ?_
 |refine Ai c0 ?_
 |refine Bd ?_
 |refine Af bb1 ?_
 |refine Ai c1 ?_
 |refine Ai ce ?_
def Axd(hT:TP T b)(Ez:ns.length+2+b<1000000)(hL:L.length<1000000000000)(hi:i<1000)(hj:j<1000)(hnm:NmP nm ns)(hd:L.drop k0=ts)(h:Gd T ns 21 [116,116] {} ts=some (lt,r)):BP 21 L k0 i j nm ns G lt r:=by
 obtain⟨y0,r0,h0,h⟩:=Ci h;obtain⟨a0,t0,rfl⟩:=Ep h0;obtain⟨y1,r1,h1,h⟩:=Ci h;obtain⟨a1,t1,rfl⟩:=Ep h1;obtain⟨z,r',rfl,hz,Ag⟩:=Is h;cases Ag;have b1:Con 74 [.int .i64 21,.int .i64 1] (.int .i64 0):=Dm 21 1;have kk:Con 71 [.int .i64 21,.int .i64 0] (.int .i64 2):=Nc 21 0;have bb0:Con 74 [.int .i64 21,.int .i64 0] (.int .i64 0):=Dm 21 0;obtain⟨q0,nm0,d0,m0,c0⟩:=hT ns _ _ a0 t0 (by omega) L _ i j nm G 2 hL hi hj (.inr rfl) hnm hd;have bb1:Con 74 [.int .i64 21,.int .i64 1] (.int .i64 0):=Dm 21 1;obtain⟨q1,nm1,d1,m1,c1⟩:=hT ns _ _ a1 t1 (by omega) L _ i j nm0 G 2 hL hi hj (.inr rfl) m0 d0;have ce:=Ff (i:=i) (j:=j) (nm:=nm1) (G:=G) (c:=2) d1 hL (by omega);refine⟨_,nm1,Bl d1,m1,?_⟩;have eT:LT.tm i j (.nd 21 .z .z 0 [a0,a1])=.mk 21 0 0 0 [a0.tm i j,a1.tm i j]:=by simp[LT.tm,LT.tms,LE.ev]
 change Am _ _ _ (.ret (.agg true (tv (LT.tm i j (.nd 21 .z .z 0 [a0,a1]))))) _;rw[eT,As];simp only[q_h,q_i];unfold prR at c0 c1 ce |-;refine Bh mixed Tryz.func93 tr93 ?_
 repeat' first
 |simp only[go_sem,seval,wp7,wp8]
 |refine Af b1 ?_
 |refine Cv 3 (Bd ?_)
 |refine Af kk ?_
 |refine Af bb0 ?_
 |refine Ai c0 ?_
 |refine Bd ?_
 |refine Af bb1 ?_
 |refine Ai c1 ?_
 |refine Ai ce ?_
def Aw8(hT:TP T b)(Ez:ns.length+2+b<1000000)(hL:L.length<1000000000000)(hi:i<1000)(hj:j<1000)(hnm:NmP nm ns)(hd:L.drop k0=ts)(h:Gd T ns 20 [116,116,116] {} ts=some (lt,r)):BP 20 L k0 i j nm ns G lt r:=by
 obtain⟨y0,r0,h0,h⟩:=Ci h;obtain⟨a0,t0,rfl⟩:=Ep h0;obtain⟨y1,r1,h1,h⟩:=Ci h;obtain⟨a1,t1,rfl⟩:=Ep h1;obtain⟨y2,r2,h2,h⟩:=Ci h;obtain⟨a2,t2,rfl⟩:=Ep h2;obtain⟨z,r',rfl,hz,Ag⟩:=Is h;cases Ag;have b1:Con 74 [.int .i64 20,.int .i64 1] (.int .i64 0):=Dm 20 1;have kk:Con 71 [.int .i64 20,.int .i64 0] (.int .i64 3):=Nc 20 0;have bb0:Con 74 [.int .i64 20,.int .i64 0] (.int .i64 0):=Dm 20 0;obtain⟨q0,nm0,d0,m0,c0⟩:=hT ns _ _ a0 t0 (by omega) L _ i j nm G 2 hL hi hj (.inr rfl) hnm hd;have bb1:Con 74 [.int .i64 20,.int .i64 1] (.int .i64 0):=Dm 20 1;obtain⟨q1,nm1,d1,m1,c1⟩:=hT ns _ _ a1 t1 (by omega) L _ i j nm0 G 2 hL hi hj (.inr rfl) m0 d0;have bb2:Con 74 [.int .i64 20,.int .i64 2] (.int .i64 0):=Dm 20 2;obtain⟨q2,nm2,d2,m2,c2⟩:=hT ns _ _ a2 t2 (by omega) L _ i j nm1 G 2 hL hi hj (.inr rfl) m1 d1;have ce:=Ff (i:=i) (j:=j) (nm:=nm2) (G:=G) (c:=2) d2 hL (by omega);refine⟨_,nm2,Bl d2,m2,?_⟩;have eT:LT.tm i j (.nd 20 .z .z 0 [a0,a1,a2])=.mk 20 0 0 0 [a0.tm i j,a1.tm i j,a2.tm i j]:=by simp[LT.tm,LT.tms,LE.ev]
 change Am _ _ _ (.ret (.agg true (tv (LT.tm i j (.nd 20 .z .z 0 [a0,a1,a2]))))) _;rw[eT,As];simp only[q_h,q_i];unfold prR at c0 c1 c2 ce |-;refine Bh mixed Tryz.func93 tr93 ?_
 repeat' first
 |simp only[go_sem,seval,wp7,wp8]
 |refine Af b1 ?_
 |refine Cv 4 (Bd ?_)
 |refine Af kk ?_
 |refine Af bb0 ?_
 |refine Ai c0 ?_
 |refine Bd ?_
 |refine Af bb1 ?_
 |refine Ai c1 ?_
 |refine Af bb2 ?_
 |refine Ai c2 ?_
 |refine Ai ce ?_
def Axc(hT:TP T b)(Ez:ns.length+2+b<1000000)(hL:L.length<1000000000000)(hi:i<1000)(hj:j<1000)(hnm:NmP nm ns)(hd:L.drop k0=ts)(h:Gd T ns 13 [120,116,98] {} ts=some (lt,r)):BP 13 L k0 i j nm ns G lt r:=by
 obtain⟨y0,r0,h0,h⟩:=Ci h;obtain⟨w0,rfl,kx0,rfl⟩:=Sr h0 (by simp);obtain⟨y1,r1,h1,h⟩:=Ci h;obtain⟨a1,t1,rfl⟩:=Ep h1;obtain⟨y2,r2,h2,h⟩:=Ci h;obtain⟨n2,a2,t2,rfl⟩:=Wm h2 (by simp);obtain⟨z,r',rfl,hz,Ag⟩:=Is h;cases Ag;have b1:Con 74 [.int .i64 13,.int .i64 1] (.int .i64 1):=Dm 13 1;have kk:Con 71 [.int .i64 13,.int .i64 0] (.int .i64 2):=Nc 13 0;have c0:=Ff (i:=i) (j:=j) (nm:=nm) (G:=G) (c:=3) hd hL (by omega);have bb1:Con 74 [.int .i64 13,.int .i64 0] (.int .i64 0):=Dm 13 0;obtain⟨q1,nm1,d1,m1,c1⟩:=hT ns _ _ a1 t1 (by omega) L _ i j nm G 2 hL hi hj (.inr rfl) hnm (Bl hd);have bb2:Con 74 [.int .i64 13,.int .i64 1] (.int .i64 1):=Dm 13 1;have pu:=Zy (L:=L) (k:=q1) (i:=i) (j:=j) (G:=G) (ws:=[w0.w]) m1 (by simp) (by omega);obtain⟨q2,nm2,d2,m2,c2⟩:=hT ([w0.w]++ns) _ _ a2 t2 (by simp;omega) L _ i j (nmV ([w0.w]++ns)) G 2 hL hi hj (.inr rfl) (.inr rfl) d1;have e2:nm2=nmV ([w0.w]++ns):=m2.ne;subst e2;have po:=Aan (L:=L) (k:=q2) (i:=i) (j:=j) (G:=G) (ns:=ns) (ws:=[w0.w]) (by simp) (by omega);simp only[q_kw,List.reverse_nil,q_kn,q_kv,q_ko,q_h,q_i,wdR,q_jk,List.length_nil,q_jg] at pu po c2;have Eg:NmP (nmV ns) ns:=.inr rfl;have ce:=Ff (i:=i) (j:=j) (nm:=(nmV ns)) (G:=G) (c:=2) d2 hL (by omega);refine⟨_,(nmV ns),Bl d2,Eg,?_⟩;have eT:LT.tm i j (.nd 13 .z .z 0 [a1,a2])=.mk 13 0 0 0 [a1.tm i j,a2.tm i j]:=by simp[LT.tm,LT.tms,LE.ev]
 change Am _ _ _ (.ret (.agg true (tv (LT.tm i j (.nd 13 .z .z 0 [a1,a2]))))) _;rw[eT,As];simp only[q_h,q_i];unfold prR at c0 c1 pu c2 po ce |-;refine Bh mixed Tryz.func93 tr93 ?_
 repeat' first
 |simp only[go_sem,seval,wp7,wp8]
 |refine Af b1 ?_
 |refine Ai c0 ?_
 |refine Cv 3 (Bd ?_)
 |refine Af kk ?_
 |refine Af bb1 ?_
 |refine Ai c1 ?_
 |refine Bd ?_
 |refine Af bb2 ?_
 |refine Ai pu ?_
 |refine Ai c2 ?_
 |refine Ai po ?_
 |refine Ai ce ?_
def Axa(hT:TP T b)(Ez:ns.length+2+b<1000000)(hL:L.length<1000000000000)(hi:i<1000)(hj:j<1000)(hnm:NmP nm ns)(hd:L.drop k0=ts)(h:Gd T ns 14 [120,116,98] {} ts=some (lt,r)):BP 14 L k0 i j nm ns G lt r:=by
 obtain⟨y0,r0,h0,h⟩:=Ci h;obtain⟨w0,rfl,kx0,rfl⟩:=Sr h0 (by simp);obtain⟨y1,r1,h1,h⟩:=Ci h;obtain⟨a1,t1,rfl⟩:=Ep h1;obtain⟨y2,r2,h2,h⟩:=Ci h;obtain⟨n2,a2,t2,rfl⟩:=Wm h2 (by simp);obtain⟨z,r',rfl,hz,Ag⟩:=Is h;cases Ag;have b1:Con 74 [.int .i64 14,.int .i64 1] (.int .i64 1):=Dm 14 1;have kk:Con 71 [.int .i64 14,.int .i64 0] (.int .i64 2):=Nc 14 0;have c0:=Ff (i:=i) (j:=j) (nm:=nm) (G:=G) (c:=3) hd hL (by omega);have bb1:Con 74 [.int .i64 14,.int .i64 0] (.int .i64 0):=Dm 14 0;obtain⟨q1,nm1,d1,m1,c1⟩:=hT ns _ _ a1 t1 (by omega) L _ i j nm G 2 hL hi hj (.inr rfl) hnm (Bl hd);have bb2:Con 74 [.int .i64 14,.int .i64 1] (.int .i64 1):=Dm 14 1;have pu:=Zy (L:=L) (k:=q1) (i:=i) (j:=j) (G:=G) (ws:=[w0.w]) m1 (by simp) (by omega);obtain⟨q2,nm2,d2,m2,c2⟩:=hT ([w0.w]++ns) _ _ a2 t2 (by simp;omega) L _ i j (nmV ([w0.w]++ns)) G 2 hL hi hj (.inr rfl) (.inr rfl) d1;have e2:nm2=nmV ([w0.w]++ns):=m2.ne;subst e2;have po:=Aan (L:=L) (k:=q2) (i:=i) (j:=j) (G:=G) (ns:=ns) (ws:=[w0.w]) (by simp) (by omega);simp only[q_kw,List.reverse_nil,q_kn,q_kv,q_ko,q_h,q_i,wdR,q_jk,List.length_nil,q_jg] at pu po c2;have Eg:NmP (nmV ns) ns:=.inr rfl;have ce:=Ff (i:=i) (j:=j) (nm:=(nmV ns)) (G:=G) (c:=2) d2 hL (by omega);refine⟨_,(nmV ns),Bl d2,Eg,?_⟩;have eT:LT.tm i j (.nd 14 .z .z 0 [a1,a2])=.mk 14 0 0 0 [a1.tm i j,a2.tm i j]:=by simp[LT.tm,LT.tms,LE.ev]
 change Am _ _ _ (.ret (.agg true (tv (LT.tm i j (.nd 14 .z .z 0 [a1,a2]))))) _;rw[eT,As];simp only[q_h,q_i];unfold prR at c0 c1 pu c2 po ce |-;refine Bh mixed Tryz.func93 tr93 ?_
 repeat' first
 |simp only[go_sem,seval,wp7,wp8]
 |refine Af b1 ?_
 |refine Ai c0 ?_
 |refine Cv 3 (Bd ?_)
 |refine Af kk ?_
 |refine Af bb1 ?_
 |refine Ai c1 ?_
 |refine Bd ?_
 |refine Af bb2 ?_
 |refine Ai pu ?_
 |refine Ai c2 ?_
 |refine Ai po ?_
 |refine Ai ce ?_
def Axe(hT:TP T b)(Ez:ns.length+2+b<1000000)(hL:L.length<1000000000000)(hi:i<1000)(hj:j<1000)(hnm:NmP nm ns)(hd:L.drop k0=ts)(h:Gd T ns 16 [120,116,98] {} ts=some (lt,r)):BP 16 L k0 i j nm ns G lt r:=by
 obtain⟨y0,r0,h0,h⟩:=Ci h;obtain⟨w0,rfl,kx0,rfl⟩:=Sr h0 (by simp);obtain⟨y1,r1,h1,h⟩:=Ci h;obtain⟨a1,t1,rfl⟩:=Ep h1;obtain⟨y2,r2,h2,h⟩:=Ci h;obtain⟨n2,a2,t2,rfl⟩:=Wm h2 (by simp);obtain⟨z,r',rfl,hz,Ag⟩:=Is h;cases Ag;have b1:Con 74 [.int .i64 16,.int .i64 1] (.int .i64 1):=Dm 16 1;have kk:Con 71 [.int .i64 16,.int .i64 0] (.int .i64 2):=Nc 16 0;have c0:=Ff (i:=i) (j:=j) (nm:=nm) (G:=G) (c:=3) hd hL (by omega);have bb1:Con 74 [.int .i64 16,.int .i64 0] (.int .i64 0):=Dm 16 0;obtain⟨q1,nm1,d1,m1,c1⟩:=hT ns _ _ a1 t1 (by omega) L _ i j nm G 2 hL hi hj (.inr rfl) hnm (Bl hd);have bb2:Con 74 [.int .i64 16,.int .i64 1] (.int .i64 1):=Dm 16 1;have pu:=Zy (L:=L) (k:=q1) (i:=i) (j:=j) (G:=G) (ws:=[w0.w]) m1 (by simp) (by omega);obtain⟨q2,nm2,d2,m2,c2⟩:=hT ([w0.w]++ns) _ _ a2 t2 (by simp;omega) L _ i j (nmV ([w0.w]++ns)) G 2 hL hi hj (.inr rfl) (.inr rfl) d1;have e2:nm2=nmV ([w0.w]++ns):=m2.ne;subst e2;have po:=Aan (L:=L) (k:=q2) (i:=i) (j:=j) (G:=G) (ns:=ns) (ws:=[w0.w]) (by simp) (by omega);simp only[q_kw,List.reverse_nil,q_kn,q_kv,q_ko,q_h,q_i,wdR,q_jk,List.length_nil,q_jg] at pu po c2;have Eg:NmP (nmV ns) ns:=.inr rfl;have ce:=Ff (i:=i) (j:=j) (nm:=(nmV ns)) (G:=G) (c:=2) d2 hL (by omega);refine⟨_,(nmV ns),Bl d2,Eg,?_⟩;have eT:LT.tm i j (.nd 16 .z .z 0 [a1,a2])=.mk 16 0 0 0 [a1.tm i j,a2.tm i j]:=by simp[LT.tm,LT.tms,LE.ev]
 change Am _ _ _ (.ret (.agg true (tv (LT.tm i j (.nd 16 .z .z 0 [a1,a2]))))) _;rw[eT,As];simp only[q_h,q_i];unfold prR at c0 c1 pu c2 po ce |-;refine Bh mixed Tryz.func93 tr93 ?_
 repeat' first
 |simp only[go_sem,seval,wp7,wp8]
 |refine Af b1 ?_
 |refine Ai c0 ?_
 |refine Cv 3 (Bd ?_)
 |refine Af kk ?_
 |refine Af bb1 ?_
 |refine Ai c1 ?_
 |refine Bd ?_
 |refine Af bb2 ?_
 |refine Ai pu ?_
 |refine Ai c2 ?_
 |refine Ai po ?_
 |refine Ai ce ?_
def Axb(hT:TP T b)(Ez:ns.length+2+b<1000000)(hL:L.length<1000000000000)(hi:i<1000)(hj:j<1000)(hnm:NmP nm ns)(hd:L.drop k0=ts)(h:Gd T ns 17 [120,116,98,116,116] {} ts=some (lt,r)):BP 17 L k0 i j nm ns G lt r:=by
 obtain⟨y0,r0,h0,h⟩:=Ci h;obtain⟨w0,rfl,kx0,rfl⟩:=Sr h0 (by simp);obtain⟨y1,r1,h1,h⟩:=Ci h;obtain⟨a1,t1,rfl⟩:=Ep h1;obtain⟨y2,r2,h2,h⟩:=Ci h;obtain⟨n2,a2,t2,rfl⟩:=Wm h2 (by simp);obtain⟨y3,r3,h3,h⟩:=Ci h;obtain⟨a3,t3,rfl⟩:=Ep h3;obtain⟨y4,r4,h4,h⟩:=Ci h;obtain⟨a4,t4,rfl⟩:=Ep h4;obtain⟨z,r',rfl,hz,Ag⟩:=Is h;cases Ag;have b1:Con 74 [.int .i64 17,.int .i64 1] (.int .i64 1):=Dm 17 1;have kk:Con 71 [.int .i64 17,.int .i64 0] (.int .i64 4):=Nc 17 0;have c0:=Ff (i:=i) (j:=j) (nm:=nm) (G:=G) (c:=3) hd hL (by omega);have bb1:Con 74 [.int .i64 17,.int .i64 0] (.int .i64 0):=Dm 17 0;obtain⟨q1,nm1,d1,m1,c1⟩:=hT ns _ _ a1 t1 (by omega) L _ i j nm G 2 hL hi hj (.inr rfl) hnm (Bl hd);have bb2:Con 74 [.int .i64 17,.int .i64 1] (.int .i64 1):=Dm 17 1;have pu:=Zy (L:=L) (k:=q1) (i:=i) (j:=j) (G:=G) (ws:=[w0.w]) m1 (by simp) (by omega);obtain⟨q2,nm2,d2,m2,c2⟩:=hT ([w0.w]++ns) _ _ a2 t2 (by simp;omega) L _ i j (nmV ([w0.w]++ns)) G 2 hL hi hj (.inr rfl) (.inr rfl) d1;have e2:nm2=nmV ([w0.w]++ns):=m2.ne;subst e2;have po:=Aan (L:=L) (k:=q2) (i:=i) (j:=j) (G:=G) (ns:=ns) (ws:=[w0.w]) (by simp) (by omega);simp only[q_kw,List.reverse_nil,q_kn,q_kv,q_ko,q_h,q_i,wdR,q_jk,List.length_nil,q_jg] at pu po c2;have Eg:NmP (nmV ns) ns:=.inr rfl;have bb3:Con 74 [.int .i64 17,.int .i64 2] (.int .i64 0):=Dm 17 2;obtain⟨q3,nm3,d3,m3,c3⟩:=hT ns _ _ a3 t3 (by omega) L _ i j (nmV ns) G 2 hL hi hj (.inr rfl) Eg d2;have bb4:Con 74 [.int .i64 17,.int .i64 3] (.int .i64 0):=Dm 17 3;obtain⟨q4,nm4,d4,m4,c4⟩:=hT ns _ _ a4 t4 (by omega) L _ i j nm3 G 2 hL hi hj (.inr rfl) m3 d3;have ce:=Ff (i:=i) (j:=j) (nm:=nm4) (G:=G) (c:=2) d4 hL (by omega);refine⟨_,nm4,Bl d4,m4,?_⟩;have eT:LT.tm i j (.nd 17 .z .z 0 [a1,a2,a3,a4])=.mk 17 0 0 0 [a1.tm i j,a2.tm i j,a3.tm i j,a4.tm i j]:=by simp[LT.tm,LT.tms,LE.ev]
 change Am _ _ _ (.ret (.agg true (tv (LT.tm i j (.nd 17 .z .z 0 [a1,a2,a3,a4]))))) _;rw[eT,As];simp only[q_h,q_i];unfold prR at c0 c1 pu c2 po c3 c4 ce |-;refine Bh mixed Tryz.func93 tr93 ?_
 repeat' first
 |simp only[go_sem,seval,wp7,wp8]
 |refine Af b1 ?_
 |refine Ai c0 ?_
 |refine Cv 5 (Bd ?_)
 |refine Af kk ?_
 |refine Af bb1 ?_
 |refine Ai c1 ?_
 |refine Bd ?_
 |refine Af bb2 ?_
 |refine Ai pu ?_
 |refine Ai c2 ?_
 |refine Ai po ?_
 |refine Af bb3 ?_
 |refine Ai c3 ?_
 |refine Af bb4 ?_
 |refine Ai c4 ?_
 |refine Ai ce ?_
def bp_j(hT:TP T b)(Ez:ns.length+2+b<1000000)(hL:L.length<1000000000000)(hi:i<1000)(hj:j<1000)(hnm:NmP nm ns)(hd:L.drop k0=ts)(h:Gd T ns 22 [116,116,121,101,80,116,116,116] {} ts=some (lt,r)):BP 22 L k0 i j nm ns G lt r:=by
 obtain⟨y0,r0,h0,h⟩:=Ci h;obtain⟨a0,t0,rfl⟩:=Ep h0;obtain⟨y1,r1,h1,h⟩:=Ci h;obtain⟨a1,t1,rfl⟩:=Ep h1;obtain⟨y2,r2,h2,h⟩:=Ci h;obtain⟨w2,rfl,kx2,rfl⟩:=Sr h2 (by simp);obtain⟨y3,r3,h3,h⟩:=Ci h;obtain⟨w3,rfl,kx3,rfl⟩:=Sr h3 (by simp);obtain⟨y4,r4,h4,h⟩:=Ci h;obtain⟨n4,a4,t4,rfl⟩:=Wm h4 (by simp);obtain⟨y5,r5,h5,h⟩:=Ci h;obtain⟨a5,t5,rfl⟩:=Ep h5;obtain⟨y6,r6,h6,h⟩:=Ci h;obtain⟨a6,t6,rfl⟩:=Ep h6;obtain⟨y7,r7,h7,h⟩:=Ci h;obtain⟨a7,t7,rfl⟩:=Ep h7;obtain⟨z,r',rfl,hz,Ag⟩:=Is h;cases Ag;have b1:Con 74 [.int .i64 22,.int .i64 1] (.int .i64 0):=Dm 22 1;have kk:Con 71 [.int .i64 22,.int .i64 0] (.int .i64 6):=Nc 22 0;have bb0:Con 74 [.int .i64 22,.int .i64 0] (.int .i64 0):=Dm 22 0;obtain⟨q0,nm0,d0,m0,c0⟩:=hT ns _ _ a0 t0 (by omega) L _ i j nm G 2 hL hi hj (.inr rfl) hnm hd;have bb1:Con 74 [.int .i64 22,.int .i64 1] (.int .i64 0):=Dm 22 1;obtain⟨q1,nm1,d1,m1,c1⟩:=hT ns _ _ a1 t1 (by omega) L _ i j nm0 G 2 hL hi hj (.inr rfl) m0 d0;have c2:=Ff (i:=i) (j:=j) (nm:=nm1) (G:=G) (c:=3) d1 hL (by omega);have c3:=Ff (i:=i) (j:=j) (nm:=nm1) (G:=G) (c:=3) (Bl d1) hL (by omega);have bb4:Con 74 [.int .i64 22,.int .i64 2] (.int .i64 2):=Dm 22 2;have pu:=Zy (L:=L) (k:=((q1+1)+1)) (i:=i) (j:=j) (G:=G) (ws:=[w2.w,w3.w]) m1 (by simp) (by omega);obtain⟨q4,nm4,d4,m4,c4⟩:=hT ([w3.w,w2.w]++ns) _ _ a4 t4 (by simp;omega) L _ i j (nmV ([w3.w,w2.w]++ns)) G 2 hL hi hj (.inr rfl) (.inr rfl) (Bl (Bl d1));have e4:nm4=nmV ([w3.w,w2.w]++ns):=m4.ne;subst e4;have po:=Aan (L:=L) (k:=q4) (i:=i) (j:=j) (G:=G) (ns:=ns) (ws:=[w2.w,w3.w]) (by simp) (by omega);simp only[q_kw,List.reverse_nil,q_kn,q_kv,q_ko,q_h,q_i,wdR,q_jk,List.length_nil,q_jg] at pu po c4;have hq4:NmP (nmV ns) ns:=.inr rfl;have bb5:Con 74 [.int .i64 22,.int .i64 3] (.int .i64 0):=Dm 22 3;obtain⟨q5,nm5,d5,m5,c5⟩:=hT ns _ _ a5 t5 (by omega) L _ i j (nmV ns) G 2 hL hi hj (.inr rfl) hq4 d4;have bb6:Con 74 [.int .i64 22,.int .i64 4] (.int .i64 0):=Dm 22 4;obtain⟨q6,nm6,d6,m6,c6⟩:=hT ns _ _ a6 t6 (by omega) L _ i j nm5 G 2 hL hi hj (.inr rfl) m5 d5;have bb7:Con 74 [.int .i64 22,.int .i64 5] (.int .i64 0):=Dm 22 5;obtain⟨q7,nm7,d7,m7,c7⟩:=hT ns _ _ a7 t7 (by omega) L _ i j nm6 G 2 hL hi hj (.inr rfl) m6 d6;have ce:=Ff (i:=i) (j:=j) (nm:=nm7) (G:=G) (c:=2) d7 hL (by omega);refine⟨_,nm7,Bl d7,m7,?_⟩;have eT:LT.tm i j (.nd 22 .z .z 0 [a0,a1,a4,a5,a6,a7])=.mk 22 0 0 0 [a0.tm i j,a1.tm i j,a4.tm i j,a5.tm i j,a6.tm i j,a7.tm i j]:=by simp[LT.tm,LT.tms,LE.ev]
 change Am _ _ _ (.ret (.agg true (tv (LT.tm i j (.nd 22 .z .z 0 [a0,a1,a4,a5,a6,a7]))))) _;rw[eT,As];simp only[q_h,q_i];unfold prR at c0 c1 c2 c3 pu c4 po c5 c6 c7 ce |-;refine Bh mixed Tryz.func93 tr93 ?_
 repeat' first
 |simp only[go_sem,seval,wp7,wp8]
 |refine Af b1 ?_
 |refine Cv 7 (Bd ?_)
 |refine Af kk ?_
 |refine Af bb0 ?_
 |refine Ai c0 ?_
 |refine Bd ?_
 |refine Af bb1 ?_
 |refine Ai c1 ?_
 |refine Ai c2 ?_
 |refine Ai c3 ?_
 |refine Af bb4 ?_
 |refine Ai pu ?_
 |refine Ai c4 ?_
 |refine Ai po ?_
 |refine Af bb5 ?_
 |refine Ai c5 ?_
 |refine Af bb6 ?_
 |refine Ai c6 ?_
 |refine Af bb7 ?_
 |refine Ai c7 ?_
 |refine Ai ce ?_
end
section
variable{T:TF}{b:Nat}{ns:List By}{k0 i j:Nat}{L ts r:List Tok}{nm:SV}{G:GV}{lt:LT}
def Axg(hL:L.length<1000000000000)(hi:i<1000)(hj:j<1000)(hnm:NmP nm ns)(hd:L.drop k0=ts)(h:Gd T ns 1 [76] {} ts=some (lt,r)):BP 1 L k0 i j nm ns G lt r:=by
 obtain⟨y0,r0,h0,h⟩:=Ci h;obtain⟨a0,t0,rfl⟩:=Aes h0;obtain⟨z,r',rfl,hz,Ag⟩:=Is h;cases Ag;have b1:Con 74 [.int .i64 1,.int .i64 1] (.int .i64 0):=Dm 1 1;have kk:Con 71 [.int .i64 1,.int .i64 0] (.int .i64 0):=Nc 1 0;obtain⟨q0,d0,c0⟩:=Ah2 (nm:=nm) (G:=G) hd hL hi hj t0;have ce:=Ff (i:=i) (j:=j) (nm:=nm) (G:=G) (c:=2) d0 hL (by omega);refine⟨_,nm,Bl d0,hnm,?_⟩;have eT:LT.tm i j (.nd 1 a0 .z 0 [])=.mk 1 (a0.ev i j:Nat) 0 0 []:=by simp[LT.tm,LT.tms,LE.ev]
 change Am _ _ _ (.ret (.agg true (tv (LT.tm i j (.nd 1 a0 .z 0 []))))) _;rw[eT];unfold prR at c0 ce |-;refine (Bh (out:=.ret (.agg true [.int .i64 1,.int .i64 (a0.ev i j:Nat),.int .i64 0,.int .i64 0,.nils])) mixed Tryz.func93 tr93 ?_).weaken (Su _ _ _ _)
 repeat' first
 |simp only[go_sem,seval]
 |refine Ai c0 ?_
 |refine Af b1 ?_
 |refine Cv 1 (Bd ?_)
 |refine Af kk ?_
 |refine Ai ce ?_
def uS(L:List Tok)(k:Nat)(nm:SV)(i j:Nat)(G:GV)(a c n:Int)(done:List Tm):St:=
 ⟨(.gp 0 0::.int .i64 23::.J::.J::.ref 1 0 0 0::.ref 2 0 0 0::.int .i64 2::.J::.J::.osl 3 done.length 0 done.length::.int .i64 done.length::Bo (Bo (Bo (Do (jk8 (.J::[])))))),[gOb (prR L k nm i j::G),⟨true,5,[[.int .i64 0,.int .i64 0,.int .i64 0,.int .i64 0,.nils]],0,0,true⟩,⟨true,5,[[.int .i64 23,.int .i64 a,.int .i64 c,.int .i64 n,.nils]],0,0,true⟩,⟨false,5,done.map tv,done.length-1,done.length,true⟩]⟩
def UsL(L:List Tok)(k:Nat)(nm:SV)(i j:Nat)(G:GV)(a c n:Int)(done:List Tm)(out:HOut)(G':GV)(m:Nat):Prop:=
 vcI (Bp Tryz.prog fun _ _=>False) a93_107 (bk 1 (sq (Bp Tryz.prog fun _ _=>False) a93_116 (rtG [.cell 4 true 5] out G'))) m (uS L k nm i j G a c n done)
def Bjt{k:Nat}{a c n:Int}{done:List Tm}{z:Tok}(hM:Bv 23 n=done.length)(Xw:done.length<=100)(hL:L.length<1000000000000)(hd:L.drop k=z::r)(hz:z.k=2) :
  UsL L k nm i j G a c n done (.ret (.agg true (tv (.mk 23 a c n done)))) (prR L (k+1) nm i j::G) 1:=by
 have kk:=Nc 23 n;rw[hM] at kk;have ce:=Ff (i:=i) (j:=j) (nm:=nm) (G:=G) (c:=2) hd hL (by omega);refine Bd ?_;unfold uS;rw[As];have ht:(done.map tv).take done.length=done.map tv:=q_js (by simp);unfold prR at ce |-
 repeat' first
 |simp only[go_sem,seval,q_je (show ¬(done.length:Int)<done.length by omega),q_g,ht]
 |refine Af kk ?_
 |refine Ai ce ?_
def Bju(hT:TP T b)(Ez:ns.length+b<1000000)(hL:L.length<1000000000000)(hi:i<1000)(hj:j<1000){a c n:Int}{z:Tok}{r':List Tok}(hz:z.k=2)(hr:r=z::r') :
  ∀(m:Nat) (ts:List Tok) (l:List LT) (k:Nat) (nm:SV) (done:List Tm),Qb T ns m ts=some (l,r)->Bv 23 n=(done.length+m:Nat)->done.length+m<=100->NmP nm ns->L.drop k=ts ->
  ∃q k' nm',L.drop k'=r'/\NmP nm' ns/\UsL L k nm i j G a c n done (.ret (.agg true (tv (.mk 23 a c n (done++l.map (LT.tm i j)))))) (prR L k' nm' i j::G) q:=by
 intro m
 induction m with
 |zero=>
  intro ts l k nm done h hM hle hnm hd;cases h;subst hr;refine⟨1,k+1,nm,Bl hd,hnm,?_⟩;rw[q_i,q_k];exact Bjt hM (by omega) hL hd hz
 |succ m ih=>
  intro ts l k nm done h hM hle hnm hd;rw[Qb] at h;cases ht:T ns ts with
  |none=>rw[ht] at h;cases h
  |some p=>
   obtain⟨t0,r1⟩:=p;rw[ht] at h;dsimp only at h;cases hm:Qb T ns m r1 with
   |none=>rw[hm] at h;cases h
   |some p2=>
    obtain⟨l1,r2⟩:=p2;rw[hm] at h;dsimp only at h;cases h;obtain⟨k1,nm1,d1,m1,c1⟩:=hT ns ts r1 t0 ht Ez L k i j nm G 2 hL hi hj (.inr rfl) hnm hd;obtain⟨q,k',nm',g1,g2,h2⟩:=ih r1 l1 k1 nm1 (done++[t0.tm i j]) hm (by rw[hM];simp;omega) (by simp;omega) m1 d1;rw[q_ju,q_kv] at h2;refine⟨q+1,k',nm',g1,g2,?_⟩;have kk:=Nc 23 n;rw[hM] at kk;have bb:Con 74 [.int .i64 23,.int .i64 done.length] (.int .i64 0):=Dm 23 done.length;have e3:(done.length+1)*56<=140737488355328:=by omega
    have e4:done.length+1<=140737488355328:=by omega
    have e1:(done.length:Int)<((done.length+(m+1):Nat):Int):=by omega
    refine Bd ?_;unfold UsL at h2;unfold uS at h2 |-;have hpr:gOb (prR L k1 nm1 i j::G)=gOb ([.dsl 3 (L.map Fx),.int .i64 k1,.int .i64 (-1),.int .i64 i,.int .i64 j,nm1]::G):=rfl;unfold prR at c1 h2 |-
    repeat' first
    |simp only[go_sem,seval,q_jn e1,e3,e4,q_g,w64 (show fit ((done.length:Int)+1) by unfold fit;omega)]
    |refine Af kk ?_
    |refine Af bb ?_
    |refine Ai c1 ?_
    have eL:(done++[t0.tm i j]).length=done.length+1:=by simp
    have eN:((done.length+1:Nat):Int)=(done.length:Int)+1:=rfl;have eM:(done++[t0.tm i j]).map tv=done.map tv++[tv (t0.tm i j)]:=by simp
    simp only[eL,eN,eM,Nat.add_sub_cancel] at h2;exact Dl (Fp 4 (by simp[Ba]) (by simp) (by simp[Cx]) (by simp[gOb])) h2
end
def Amb:∀n,n<21->Bv 23 ((n+1:Nat):Int)=((arN (n+1):Nat):Int)/\arN (n+1)<=12:=by decide
section
variable{T:TF}{b:Nat}{ns:List By}{k0 i j:Nat}{L ts r:List Tok}{nm:SV}{G:GV}{lt:LT}
def Axh(hT:TP T b)(Ez:ns.length+2+b<1000000)(hL:L.length<1000000000000)(hi:i<1000)(hj:j<1000)(hnm:NmP nm ns)(hd:L.drop k0=ts)(h:Gd T ns 23 [83,76,77] {} ts=some (lt,r)):BP 23 L k0 i j nm ns G lt r:=by
 obtain⟨y0,r0,h0,h⟩:=Ci h;obtain⟨u,n,rfl,hu,hn,rfl⟩:=Aq3 h0;obtain⟨y1,r1,h1,h⟩:=Ci h;obtain⟨a1,t1,rfl⟩:=Aes h1;obtain⟨y2,r2,h2,h⟩:=Ci h;obtain⟨a2,r3,l,t2,t3,rfl⟩:=Aq2 h2;obtain⟨z,r',rfl,hz,Ag⟩:=Is h;cases Ag;have hnl:n<21:=(q_jm.1 (Xp hn).1).1;obtain⟨Wa,Dj⟩:=Amb n hnl;have c1:=Vv (i:=i) (j:=j) (nm:=nm) (G:=G) hd hL;have c2:=A1n hn;have c3:=Ni (i:=i) (j:=j) (nm:=nm) (G:=G) hd hL;rw[hu] at c3;have Es:=Bl hd;obtain⟨q1,d1,c4⟩:=Ah2 (nm:=nm) (G:=G) Es hL hi hj t1;obtain⟨q2,d2,c5⟩:=Ah2 (nm:=nm) (G:=G) d1 hL hi hj t2;have b1:Con 74 [.int .i64 23,.int .i64 1] (.int .i64 0):=Dm 23 1;obtain⟨q,k',nm',g1,g2,Ui⟩:=Bju (G:=G) (i:=i) (j:=j) (a:=(a1.ev i j:Nat)) (c:=(a2.ev i j:Nat)) (n:=((n+1:Nat):Int)) hT (by omega) hL hi hj hz rfl (arN (n+1)) r3 l q2 nm [] t3 (by rw[Wa];simp) (by simp;omega) hnm d2;refine⟨k',nm',g1,g2,?_⟩;have eT:LT.tm i j (.nd 23 a1 a2 (n+1) l)=.mk 23 (a1.ev i j:Nat) (a2.ev i j:Nat) ((n+1:Nat):Int) (l.map (LT.tm i j)):=by simp[LT.tm,Aky]
 change Am _ _ _ (.ret (.agg true (tv (LT.tm i j (.nd 23 a1 a2 (n+1) l))))) _;rw[eT];rw[q_kn] at Ui;obtain⟨R,hR⟩:∃R,R=SV.agg true (tv (.mk 23 (a1.ev i j:Nat) (a2.ev i j:Nat) ((n+1:Nat):Int) (l.map (LT.tm i j)))):=⟨_,rfl⟩
 rw[<-hR] at Ui |-;obtain⟨a1',a2',a3,a4,a5,a6,a7,a8,a9,a10⟩:=Ei hd;have a6:=a6 hL;have n0:(((n+1:Nat):Int)==0)=false:=by rw[beq_eq_false_iff_ne];omega
 refine Bh mixed Tryz.func93 tr93 ?_;unfold UsL uS at Ui;unfold prR at c1 c3 c4 c5 Ui |-
 repeat' first
 |simp only[go_sem,seval,n0,a6]
 |refine Ai c1 ?_
 |refine Af c2 ?_
 |refine Ai c3 ?_
 |refine Ai c4 ?_
 |refine Ai c5 ?_
 |refine Af b1 ?_
 exact Cv q (Dl (.trans (.ghost _ 9 5 rfl) (Bk (by simp[Ba]))) Ui)
def A9b{k n:Nat}{want:Int}{t:Tok}(h:L.drop k=t::r)(hL:L.length<1000000000000)(ht:t.k=3)(hn:Lw t.w ns=some n)(Ez:ns.length<1000000) :
  Am 68 (prR L k (nmV ns) i j::G) [.gp 0 0,.int .i64 want] (.ret (.agg true (tv (vT n)))) (prR L (k+1) (nmV ns) i j::G):=by
 obtain⟨a1,a2,a3,a4,a5,a6,a7,a8,a9,a10⟩:=Ei h;have a6:=a6 hL;have c1:=Ni (i:=i) (j:=j) (nm:=nmV ns) (G:=G) h hL;have c2:=Vv (i:=i) (j:=j) (nm:=nmV ns) (G:=G) h hL;rw[ht] at c1;obtain⟨h1,h2⟩:=Xp hn;have Ag:=(q_jm.1 h1).1;have Cc:∀(m:Nat) v,ns[m]?=some v->(ns.reverse.map wdR)[ns.length-1-m]?.getD []=[.str (bs v)]:=fun m v hv=>by
  have hm:=(q_jm.1 hv).1;rw[q_ji,List.getElem?_reverse (by omega),show ns.length-1-(ns.length-1-m)=m by omega,hv];rfl
 have Av:(ns.reverse.map wdR).length=ns.length:=by simp
 refine (Bh (out:=.ret (.agg true [.int .i64 2,.int .i64 n,.int .i64 0,.int .i64 0,.nils])) mixed Tryz.func68 tr68 ?_).weaken (Su _ _ _ _);unfold prR nmV at c1 c2 |-;have Qz:(ns.length<=140737488355328)=True:=by simp;omega
 have ew:IntKind.i64.wrap ((ns.length:Int)-1)=(ns.length:Int)-1-(0:Nat):=by rw[w64 (by unfold fit;omega)];omega
 generalize ns.reverse.map wdR=R at *
 simp only[go_sem,seval];refine Ai c1 ?_;simp only[go_sem,seval,Av,Qz,forall_const];rw[ew];refine Ln (fun x=>⟨(.gp 0 0::.int .i64 want::.J::.J::.ref 1 0 0 0::.int .i64 ((ns.length:Int)-1-x)::Bo (Bo (Do (jk2 (.J::[]))))),[gOb ([.dsl 3 (L.map Fx),.int .i64 k,.int .i64 (-1),.int .i64 i,.int .i64 j,.dsl 1 R]::G),⟨true,5,[[.int .i64 0,.int .i64 0,.int .i64 0,.int .i64 0,.nils]],0,0,true⟩]⟩) n (fun x hx=>?_) ?_
 ·have hq:ns.length-1-x<ns.length:=by omega
  have eI:(ns.length:Int)-1-x=((ns.length-1-x:Nat):Int):=by omega
  have e0:(0:Int)<=((ns.length-1-x:Nat):Int):=by omega
  have e1:((ns.length-1-x:Nat):Int)<(ns.length:Int):=by omega
  have eg:((ns.length-1-x:Nat):Int) >= 0:=e0;rw[eI]
  by_cases Aay:x<n
  ·obtain⟨v,h3,h4⟩:=h2 x Aay;simp only[go_sem,seval,forall_const,q_jn eg,e0,e1,hq,Av,Qz,Cc x v h3];refine Ai c2 ?_;simp only[go_sem,seval,h4,w64 (show fit (((ns.length-1-x:Nat):Int)-1) by unfold fit;omega)];refine⟨Aay,?_⟩;rw[show ((ns.length-1-x:Nat):Int)-1=(ns.length:Int)-1-((x+1:Nat):Int) by omega];exact Bk (by simp[Ba])
  ·have:x=n:=by omega
   subst this;simp only[go_sem,seval,forall_const,q_jn eg,e0,e1,hq,Av,Qz,Cc x t.w h1];refine Ai c2 ?_;simp only[go_sem,seval,beq_self_eq_true,a6,Av,Qz,forall_const,w64 (show fit ((ns.length:Int)-1) by unfold fit;omega),show (ns.length:Int)-1-((ns.length-1-x:Nat):Int)=(x:Int) by omega,w64 (show fit (x:Int) by unfold fit;omega)]
 ·exact Bk (by simp[Ba])
def Pn{k kk:Nat}{want:Int}{t u:Tok}(h:L.drop k=t::u::ts)(hL:L.length<1000000000000)(ht:t.k=1)(hl:Am 92 (prR L (k+1) nm i j::G) [.gp 0 0,.int .i64 want] (.ret (.int .i64 kk)) (prR L (k+1) nm i j::G))(hk0:kk≠0)
  (hb:∃k' nm',L.drop k'=r/\NmP nm' ns/\Am 93 (prR L (k+1+1) nm i j::G) [.gp 0 0,.int .i64 kk] (.ret (.agg true (tv (lt.tm i j)))) (prR L k' nm' i j::G)) :
  ∃k' nm',L.drop k'=r/\NmP nm' ns/\Am 68 (prR L k nm i j::G) [.gp 0 0,.int .i64 want] (.ret (.agg true (tv (lt.tm i j)))) (prR L k' nm' i j::G):=by
 obtain⟨k',nm',g1,g2,c4⟩:=hb;refine⟨k',nm',g1,g2,?_⟩;have d1:=Bl h;obtain⟨b1,b2,b3,b4,b5,b6,b7,b8,b9,b10⟩:=Ei d1;have b6:=b6 hL;have c1:=Ni (i:=i) (j:=j) (nm:=nm) (G:=G) h hL;have c2:=Ff (i:=i) (j:=j) (nm:=nm) (G:=G) (c:=1) h hL (by omega);rw[ht] at c1;have n0:((kk:Int)==0)=false:=by rw[beq_eq_false_iff_ne];omega
 refine Bh mixed Tryz.func68 tr68 ?_;unfold prR at c1 c2 c4 hl |-
 repeat' first
 |simp only[go_sem,seval,n0,b6]
 |refine Ai c1 ?_
 |refine Ai c2 ?_
 |refine Ai hl ?_
 |refine Ai c4 ?_
end
def Tc(a c n:Int)(k:SV):List SV:=[.int .i64 23,.int .i64 a,.int .i64 c,.int .i64 n,k]
def Ajy{a c n:Int}{k:SV}(h:NoG k):∀x∈Tc a c n k,NoG x:=fun x hx=>by
 simp only[Tc,q_kb,q_kc,or_false] at hx;rcases hx with rfl|rfl|rfl|rfl|rfl
 ·exact .int _ _
 ·exact .int _ _
 ·exact .int _ _
 ·exact .int _ _
 ·exact h
def Awj:∀n,n<21->0<arN (n+1)/\arN (n+1)<=100:=by decide
def GvC(T:TF)(b:Nat):Prop:=∀(ns:List By) (ts r:List Tok) (l:List LT) (m:Nat),Qb T ns m ts=some (l,r)->ns.length+b<1000000->∀(L:List Tok) (k e i j:Nat) (nm:SV) (G:GV) (a c n:Int),L.length<1000000000000->i<1000->j<1000->Bv 23 n=m->(0<m/\m<=100)->NmP nm ns->NG G->L.drop k=ts ->
 ∃k' Δ,L.drop k'=r/\NG Δ/\Am 138 (rdR L k e nm i j::(G++[Tc a c n .nils])) [.gp 0 0,.gp (G.length+1) 0] (.ret (.tup [])) (rdR L k' e nm i j::(G++Tc a c n (.dsl 5 (l.map fun t=>tv (t.tm i j)))::Δ))
section
variable{T:TF}{b:Nat}{ns:List By}{k0 e i j:Nat}{L ts r:List Tok}{nm:SV}{G:GV}{lt:LT}
def Bb0(hG:GvC T b)(Ez:ns.length+2+b<1000000)(hL:L.length<1000000000000)(hi:i<1000)(hj:j<1000)(hnm:NmP nm ns)(hN:NG G)(hd:L.drop k0=ts)(h:Gd T ns 23 [83,76,77] {} ts=some (lt,r)):LC 23 [83,76,77] L k0 e i j nm G lt r:=by
 obtain⟨y0,r0,h0,h⟩:=Ci h;obtain⟨u,n,rfl,hu,hn,rfl⟩:=Aq3 h0;obtain⟨y1,r1,h1,h⟩:=Ci h;obtain⟨a1,t1,rfl⟩:=Aes h1;obtain⟨y2,r2,h2,h⟩:=Ci h;obtain⟨a2,r3,l,t2,t3,rfl⟩:=Aq2 h2;obtain⟨z,r',rfl,hz,Ag⟩:=Is h;cases Ag;have hnl:n<21:=(q_jm.1 (Xp hn).1).1;obtain⟨Wa,Dj⟩:=Amb n hnl;have c1:=Ka (e:=e) (i:=i) (j:=j) (nm:=nm) (G:=G) hd hL;rw[hu] at c1;have c2:=A1u hn;obtain⟨q1,d1,c3⟩:=Ah1 (e:=e) (nm:=nm) (G:=G) (Bl hd) hL hi hj t1;obtain⟨q2,d2,c4⟩:=Ah1 (e:=e) (nm:=nm) (G:=G++[Tc (a1.ev i j:Nat) 0 ((n+1:Nat):Int) .nils]) d1 hL hi hj t2;obtain⟨q3,D,d3,gD,c5⟩:=hG ns r3 _ l (arN (n+1)) t3 (by omega) L q2 e i j nm G (a1.ev i j:Nat) (a2.ev i j:Nat) ((n+1:Nat):Int) hL hi hj Wa (Awj n hnl) hnm hN d2;have ce:=Ka (e:=e) (i:=i) (j:=j) (nm:=nm) (G:=G++Tc (a1.ev i j:Nat) (a2.ev i j:Nat) ((n+1:Nat):Int) (.dsl 5 (l.map fun t=>tv (t.tm i j)))::D) d3 hL;rw[hz] at ce;refine⟨_,Tc (a1.ev i j:Nat) (a2.ev i j:Nat) ((n+1:Nat):Int) (.dsl 5 (l.map fun t=>tv (t.tm i j)))::D,Bl d3,.cons (Ajy (.dsl _ _ (fun x hx=>by
  obtain⟨q,hq,hx⟩:=List.mem_flatten.1 hx;obtain⟨t,_,rfl⟩:=q_lc.1 hq;exact Yn _ x hx))) gD,?_⟩
 have eT:LT.tm i j (.nd 23 a1 a2 (n+1) l)=.mk 23 (a1.ev i j:Nat) (a2.ev i j:Nat) ((n+1:Nat):Int) (l.map (LT.tm i j)):=by simp[LT.tm,Aky]
 change Am _ _ _ (.ret (.agg true (tv (LT.tm i j (.nd 23 a1 a2 (n+1) l))))) _;rw[eT,As,List.map_map];have n0:(((n+1:Nat):Int)==0)=false:=by rw[beq_eq_false_iff_ne];omega
 have i0:∀(x y:List SV) (D:GV),(x::(G++y::D))[G.length+1]?=some y:=fun x y D=>by simp
 have i1:∀(x y y':List SV) (D:GV),(x::(G++y::D)).set (G.length+1) y'=x::(G++y'::D):=fun x y y' D=>by simp
 refine Bh mixed Tryz.func134 tr134 ?_;have hnn:nm=.nils\/∃R,nm=.dsl 1 R:=by rcases hnm with⟨h,_⟩|h;exact .inl h;exact .inr ⟨_,h⟩
 unfold Tc at c4 c5 ce |-;unfold rdR at c1 c3 c4 c5 ce |-;clear hnm hG;rcases hnn with rfl|⟨Rn,rfl⟩
 all_goals
  simp only[go_sem,seval];refine Cv 4 (Bd ?_);simp only[go_sem,seval,u83,u76,u77];refine Ai c1 ?_;simp only[go_sem,seval,u83,u76,u77];refine Af c2 ?_;simp only[go_sem,seval,n0,u83,u76,u77];refine Bd ?_;simp only[go_sem,seval,u83,u76,u77];refine Ai c3 ?_;simp only[go_sem,seval,u83,u76,u77];refine Dl (.promo _ 2 _ _ _ rfl rfl rfl rfl rfl rfl (by simp) (by simp) (by simp[Rl,Jr]) (fun q ob' h1 h2 h3 h4=>?_)) ?_
  ·match q,h1 with
   |0,h1=>cases h1;cases h3
   |1,h1=>cases h1;cases h4
   |2,_=>exact absurd rfl h2
   |q+3,h1=>simp at h1
  simp only[q_h,q_i,Dk,reduceIte,Nat.reduceEqDiff,List.set_cons_zero,List.set_cons_succ];refine Bd ?_
  repeat' first
  |simp only[go_sem,seval,Nd,u83,u76,u77,i0,i1,q_jk,List.length_nil]
  |refine Ai c4 ?_
  |refine Ai c5 ?_
  |refine Bd ?_
  |refine Ai ce ?_
  rfl
end
section
variable{L:List Tok}{k e i j:Nat}{nm:SV}{G:GV}{ts r:List Tok}
def A9o{t:Tok}{x:Tm}{want:Int}{D:GV}(h:L.drop k=t::r)(hL:L.length<1000000000000)(ht:t.k=3)(hn:Am 131 (rdR L k e nm i j::G) [.gp 0 0] (.ret (.agg true (tv x))) D) :
  Am 126 (rdR L k e nm i j::G) [.gp 0 0,.int .i64 want] (.ret (.agg true (tv x))) D:=by
 obtain⟨a1,a2,a3,a4,a5,a6,a7,a8,a9,a10⟩:=Ei h;have a10:=a10 hL;rw[ht] at a4;refine Bh mixed Tryz.func126 tr126 ?_;unfold rdR at hn |-;simp only[go_sem,seval,a1,a2,a3,a4,a8,a9,a10,forall_const,q_g];refine Ai hn ?_;simp only[go_sem,seval]
def A9n{t u:Tok}{x:Tm}{want:Int}{kk:Nat}{s:By}{D:GV}(h:L.drop k=t::u::ts)(hL:L.length<1000000000000)(ht:t.k=1)(hu:u.k=3)(hf:Vm u.w Vn=some (kk,s))(hk:kk=1\/13<=kk)(hw:want=0\/want=2)
  (hl:Am 134 (rdR L (k+1+1) e nm i j::G) [.gp 0 0,.int .i64 kk,.str (bs s)] (.ret (.agg true (tv x))) D) :
  Am 126 (rdR L k e nm i j::G) [.gp 0 0,.int .i64 want] (.ret (.agg true (tv x))) D:=by
 obtain⟨a1,a2,a3,a4,a5,a6,a7,a8,a9,a10⟩:=Ei h;have a10:=a10 hL;have c1:=Ka (e:=e) (i:=i) (j:=j) (nm:=nm) (G:=G) h hL;have c2:=Ka (e:=e) (i:=i) (j:=j) (nm:=nm) (G:=G) (Bl h) hL;have c3:=Azg hf;rw[ht] at c1 a4;rw[hu] at c2;have n0:((kk:Int)==0)=false:=by rw[beq_eq_false_iff_ne];omega
 refine Bh mixed Tryz.func126 tr126 ?_;unfold rdR at c1 c2 hl |-
 repeat' first
 |simp only[go_sem,seval,a1,a2,a3,a4,a8,a9,a10,forall_const,q_g]
 |refine Ai c1 ?_
 |refine Ai c2 ?_
 refine Af c3 ?_;rcases hk with rfl|hk
 ·rcases hw with rfl|rfl <;>
   (simp only[go_sem,seval]
    refine Ai hl ?_;simp only[go_sem,seval])
 ·rcases hw with rfl|rfl <;>
   (simp only[go_sem,seval,n0,q_jn (show (kk:Int) > 12 by omega),q_jn (show (kk:Int) > 2 by omega),q_je (show ¬(kk:Int)<=12 by omega)]
    refine Ai hl ?_;simp only[go_sem,seval])
end
def Bix(hG:∀T b,TC T b->GvC T b):∀f,TC (Ju f) (2*f):=by
 intro f
 induction f with
 |zero=>intro ns ts r lt h;cases h
 |succ f ih=>
  intro ns ts r lt h Ez L k e i j nm G want hL hi hj hw hnm hN hd
  match ts,h with
  |[],h=>cases h
  |t::r1,h=>
   unfold Ju at h;dsimp only at h;split at h
   ·rename_i ht;cases hn:Lw t.w ns with
    |none=>rw[hn] at h;cases h
    |some n=>
     rw[hn] at h;cases h;have Bn:nm=nmV ns:=by
      rcases hnm with⟨_,rfl⟩|h
      ·cases hn
      ·exact h
     subst Bn;refine⟨k+1,[],Bl hd,NG.nil,?_⟩;rw[q_k];exact A9o hd hL ht (A8u hd hL hn (by omega))
   ·split at h
    ·rename_i ht
     match r1,h with
     |[],h=>cases h
     |u::r2,h=>
      dsimp only at h;split at h
      ·rename_i hu;have Ft:=Bl (Bl hd);cases hf:Vm u.w Vn with
       |none=>rw[hf] at h;cases h
       |some p=>
        obtain⟨kk,s⟩:=p;rw[hf] at h;dsimp only at h;have key:LC kk s L (k+1+1) e i j nm G lt r->(kk=1\/13<=kk)->∃k' D,L.drop k'=r/\NG D/\Am 126 (rdR L k e nm i j::G) [.gp 0 0,.int .i64 want] (.ret (.agg true (tv (lt.tm i j)))) (rdR L k' e nm i j::(G++D)):=fun hl hk=>by
         obtain⟨k',D,g1,g0,g2⟩:=hl;exact⟨k',D,g1,g0,A9n hd hL ht hu hf hk hw g2⟩
        have hmem:=Ahg hf;simp only[Vn,q_kb,q_kc,or_false,Prod.mk.injEq] at hmem;rcases hmem with⟨hq,rfl,rfl⟩|⟨hq,rfl,rfl⟩|⟨hq,rfl,rfl⟩|⟨hq,rfl,rfl⟩|⟨hq,rfl,rfl⟩|⟨hq,rfl,rfl⟩|⟨hq,rfl,rfl⟩|⟨hq,rfl,rfl⟩|⟨hq,rfl,rfl⟩|⟨hq,rfl,rfl⟩|⟨hq,rfl,rfl⟩|⟨hq,rfl,rfl⟩
        ·exact key (Bby hL hi hj Ft h) (.inl rfl)
        ·exact key (Ajj ih (by omega) hL hi hj hnm hN (by decide) Ft h) (.inr (by decide))
        ·exact key (Ajj ih (by omega) hL hi hj hnm hN (by decide) Ft h) (.inr (by decide))
        ·exact key (Aq9 ih (by omega) hL hi hj hnm hN (by decide) Ft h) (.inr (by decide))
        ·exact key (Ajj ih (by omega) hL hi hj hnm hN (by decide) Ft h) (.inr (by decide))
        ·exact key (Bb1 ih (by omega) hL hi hj hnm hN (by decide) Ft h) (.inr (by decide))
        ·exact key (lc_t ih (by omega) hL hi hj hnm hN (by decide) Ft h) (.inr (by decide))
        ·exact key (lc_t ih (by omega) hL hi hj hnm hN (by decide) Ft h) (.inr (by decide))
        ·exact key (Bbz ih (by omega) hL hi hj hnm hN (by decide) Ft h) (.inr (by decide))
        ·exact key (Aq9 ih (by omega) hL hi hj hnm hN (by decide) Ft h) (.inr (by decide))
        ·exact key (lc_j ih (by omega) hL hi hj hnm hN (by decide) Ft h) (.inr (by decide))
        ·exact key (Bb0 (hG _ _ ih) (by omega) hL hi hj hnm hN Ft h) (.inr (by decide))
      ·cases h
    ·cases h
end Go.Proofs.YtgdkddjdhijfnaaGreatDoor.Abs
