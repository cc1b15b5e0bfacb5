import Derived.Test.YtgdkddjdhijfnaaGreatDoorXEv
import Derived.Test.YtgdkddjdhijfnaaGreatDoorProg
import Derived.KernelRfl
set_option linter.all false
set_option maxRecDepth 20000
set_option maxHeartbeats 4000000
namespace Go.Proofs.YtgdkddjdhijfnaaGreatDoor.Abs
open Go Go.Proofs Go.Proofs.YtgdkddjdhijfnaaGreatDoor
def a34_26:AC:=Ab [oP 51 (Bb .lss 50 49)] (.seq (Cu 51 0) (.seq (.blk 1 (Ab [Aa 52 50,oP 53 (.iad 1 (.t 48) (.t 50)),oP 54 (Ad 53),Aa 9 52,Aa 10 54] (Ab [Aa 55 7,oP 56 (Ah 55),oP 57 (Ac 0 56),oP 58 (Ad 57),Aa 59 9,oP 60 (.call 55 [(.t 58),(.t 59)]),Aa 11 60] (.seq (Ab [Aa 61 11,oP 62 (An .gtr 61 0)] (Ae 62 (Ar [Aa 63 10,Aa 64 2,Aa 65 11,oP 66 (.hcall 56 [(.t 63),(.t 64),(.t 65)]),Aa 10 66]) .skip)) (.reg [oP 67 (Ac 4 8),⟨(some 68),(Ad 67),none,1,true,[]⟩,oI 69 2 (mT 0),oI 70 3 (mT 10),oI 71 4 (mT 2),oI 72 5 (mT 11),oI 73 6 (Bb .add 71 72),⟨(some 74),(.hcall 34 [(.t 69),(.t 70),(.t 73)]),none,7,false,[1,7]⟩,⟨(some 75),(.bslice 5 [(.t 74)]),none,8,false,[1]⟩,oI 76 9 (.app 5 56 (.t 68) (.t 75)),oI 77 10 (Ac 4 8),oJ 11 (Al 1 77 76)] true))))) (Ar [oP 78 (An .add 50 1),Aa 50 78])))
def a34_31:AC:=Ab [oP 79 (Ak 5 8),oN (Al 5 6 79)] .ret
def af34:AF:=⟨80,[(.cell 6 true 5)],(Ab [oP 6 Cb] (Ab [Aa 12 0,oP 13 (.hcall 52 [(.t 12)])] (Ab [Aa 14 0,Aa 15 1,oP 16 (.hcall 53 [(.t 14),(.t 15)]),Aa 7 16] (.seq (Ab [Aa 17 7,oP 18 (Ah 17),oP 19 (Ac 0 18),oP 20 (Ad 19),oP 21 (Aj 20 2)] (Ae 21 (Ab [Aa 22 7,oP 23 (Ah 22),oP 24 (Ac 4 23),oP 25 (Ad 24),Aa 26 2,oP 27 (.call 54 [(.t 25),(.t 26)]),oN (Al 5 6 27)] .ret) .skip)) (Ce [Aa 28 7,oI 29 1 (Ah 28),oI 30 2 (Ac 0 29),⟨(some 31),(Ad 30),none,3,true,[]⟩,oI 32 4 (mT 7),oI 33 5 (Ah 32),oI 34 6 (Ac 1 33),⟨(some 35),(Ad 34),none,7,true,[]⟩,oI 36 8 (mT 7),oI 37 9 (Ah 36),oI 38 10 (Ac 2 37),⟨(some 39),(Ad 38),none,11,true,[]⟩,oI 40 12 (mT 7),oI 41 13 (Ah 40),oI 42 14 (Ac 3 41),⟨(some 43),(Ad 42),none,15,true,[]⟩,oI 44 16 (Da [(0,(1,(.t 31))),(1,(1,(.t 35))),(2,(1,(.t 39))),(3,(1,(.t 43)))]),⟨(some 8),Cb,none,17,false,[3,7,11,15]⟩,oJ 18 (Al 5 8 44)] (.seq (Ab [Aa 45 7,oP 46 (Ah 45),oP 47 (Ac 5 46),oP 48 (Ad 47),oP 49 (.len false (.t 48)),oP 50 (.mv (cI 0))] (.blk 0 (.loop a34_26))) a34_31))))))⟩
def tr34:trF Tryz.prog Tryz.f34=some af34:=by kernel_rfl
attribute [go_sem] af34 a34_26 a34_31
def af21:AF:=⟨39,[(.t 10)],(Ab [oP 10 (.mv (cB false))] (Ab [Aa 15 0,Aa 16 1,Aa 17 2,Aa 18 3,Aa 19 4,oP 20 (.mnx false (.t 19) (cI 300000)),oP 21 (.hcall 32 [(.t 15),(.t 16),(.t 17),(.t 18),(.t 20)]),Aa 14 21,oP 22 (.ext (.t 14) 0),oP 23 (.ext (.t 14) 1),Aa 11 22,Aa 12 23] (.seq (Ab [Aa 24 12] (Ae 24 (Ab [Aa 25 11,Aa 10 25] .ret) .skip)) (Ab [Aa 26 0,Aa 27 4,oP 28 (.hcall 33 [(.t 26),(.t 27)])] (Ab [Aa 29 0,Aa 30 1,Aa 31 3,oP 32 (.hcall 34 [(.t 29),(.t 30),(.t 31)]),oP 13 Cb,oN (Al 5 13 32)] (Ce [⟨(some 33),(Ak 5 13),none,0,true,[]⟩,oI 34 1 (mT 0),oI 35 2 (mT 2),oI 36 3 (mT 3),⟨(some 37),(.hcall 34 [(.t 34),(.t 35),(.t 36)]),none,4,false,[0,4]⟩,oI 38 5 (.call 35 [(.t 33),(.t 37)]),oI 10 6 (mT 38)] .ret))))))⟩
def tr21:trF Tryz.prog Tryz.f21=some af21:=by kernel_rfl
attribute [go_sem] af21
def a81_24:AC:=.blk 1 (.seq (Ab [Aa 7 1,oP 8 (Ah 7),oP 9 (Ac 0 8),oP 10 (Ad 9),oP 11 (Aj 10 23)] (Ae 11 (.seq (Ce [Aa 12 0,oI 13 1 (mT 1),oI 14 2 (Ah 13),oI 15 3 (Ac 3 14),oI 16 4 (Ad 15),oI 17 5 (mT 1),oI 18 6 (Ah 17),oI 19 7 (Ac 1 18),oI 20 8 (Ad 19),oI 21 9 (mT 1),oI 22 10 (Ah 21),oI 23 11 (Ac 2 22),oI 24 12 (Ad 23),⟨(some 25),(.hcall 99 [(.t 12),(.t 16),(.t 20),(.t 24)]),none,13,false,[13]⟩,oI 5 14 (mT 25)] (Ab [Aa 26 5,oP 27 (.bin 2 .neq (.t 26) (.c .nilp)),Aa 28 27,oG 29 28 true 0 (mT 5),oG 30 28 true 0 (Ah 29),oG 31 28 true 0 (Ac 12 30),oG 32 28 true 0 (Ad 31),oP 33 (Az 28 32)] (Ae 33 (Ab [Aa 34 1,oP 35 (Ah 34),oP 36 (Ac 3 35),oP 37 (Ad 36),Aa 4 37] .ret) .skip))) (Ab [oP 4 (.mv (cI 0))] .ret)) .skip)) (Ab [Aa 38 1,oP 39 (Ah 38),oP 40 (Ac 0 39),oP 41 (Ad 40),oP 42 (.call 100 [(.t 41)]),Aa 6 42] (.seq (Ab [Aa 43 6,oP 44 (An .lss 43 0)] (Ae 44 (Ab [oP 4 (.mv (cI 0))] .ret) .skip)) (Ar [Aa 45 1,oP 46 (Ah 45),oP 47 (Ac 5 46),oP 48 (Ad 47),Aa 49 6,oP 50 (.iad 1 (.t 48) (.t 49)),oP 51 (Ad 50),oP 52 (Ah 51),oP 53 (Ac 7 52),oP 54 (Ad 53),Aa 1 54]))))
def af81:AF:=⟨55,[(.t 4)],(Ab [oP 4 (.mv (cI 0))] (.blk 0 (.loop a81_24)))⟩
def tr81:trF Tryz.prog Tryz.f81=some af81:=by kernel_rfl
attribute [go_sem] af81 a81_24
def af82:AF:=⟨70,[(.t 4)],(Ab [oP 4 (.mv (.c .nilp))] (.seq (Ab [Aa 9 1,oP 10 (Ah 9),oP 11 (Ac 0 10),oP 12 (Ad 11),oP 13 (Aj 12 23)] (Ae 13 (Ab [Aa 14 0,oP 15 (.hcall 101 [(.t 14)])] (Ab [oP 5 (.mv (.c .nilp))] (.seq (Ab [Aa 16 1,oP 17 (Ah 16),oP 18 (Ac 5 17),oP 19 (Ad 18),oP 20 (.len false (.t 19)),oP 21 (.mv (cI 0))] (.blk 0 (.loop (Ab [oP 22 (Bb .lss 21 20)] (.seq (Cu 22 0) (.seq (.blk 1 (Ab [oP 23 (.iad 1 (.t 19) (.t 21)),oP 24 (Ad 23),Aa 7 24] (Ar [Aa 25 5,Aa 26 7,oP 27 (.call 83 [(.t 25),(.t 26)]),Aa 5 27]))) (Ar [oP 28 (An .add 21 1),Aa 21 28]))))))) (Ce [Aa 29 0,oI 30 1 (mT 0),oI 31 2 (mT 1),oI 32 3 (Ah 31),oI 33 4 (Ac 3 32),oI 34 5 (Ad 33),oI 35 6 (mT 1),oI 36 7 (Ah 35),oI 37 8 (Ac 1 36),oI 38 9 (Ad 37),oI 39 10 (mT 1),oI 40 11 (Ah 39),oI 41 12 (Ac 2 40),oI 42 13 (Ad 41),oI 43 14 (.hcall 99 [(.t 30),(.t 34),(.t 38),(.t 42)]),oI 44 15 (Ah 43),oI 45 16 (Ac 7 44),oI 46 17 (Ak 5 45),oI 47 18 (mT 5),⟨(some 48),(.hcall 98 [(.t 29),(.t 46),(.t 47)]),none,19,false,[19]⟩,oI 4 20 (mT 48)] .ret)))) .skip)) (Ab [Aa 49 1,oP 50 (Ah 49),oP 51 (Ac 0 50),oP 52 (Ad 51),oP 53 (.call 100 [(.t 52)]),Aa 8 53] (Ab [Aa 54 0,Aa 55 1,Aa 56 8,Aa 57 0,Aa 58 1,oP 59 (Ah 58),oP 60 (Ac 5 59),oP 61 (Ad 60),Aa 62 8,oP 63 (.iad 1 (.t 61) (.t 62)),oP 64 (Ad 63),oP 65 (Ah 64),oP 66 (Ac 7 65),oP 67 (Ad 66),oP 68 (.hcall 82 [(.t 57),(.t 67)]),oP 69 (.hcall 102 [(.t 54),(.t 55),(.t 56),(.t 68)]),Aa 4 69] .ret))))⟩
def tr82:trF Tryz.prog Tryz.f82=some af82:=by kernel_rfl
attribute [go_sem] af82
def a98_54:AC:=.blk 1 (.seq (Ab [oP 10 (Ac 0 4),oP 11 (Ad 10),oP 12 (Aj 11 2)] (Ae 12 (.seq (Ab [Aa 13 2,oP 14 (Ac 1 4),oP 15 (Ad 14),oP 16 (.call 115 [(.t 13),(.t 15)]),Aa 7 16] (Ab [Aa 17 7,oP 18 (.bin 2 .neq (.t 17) (.c .nilp))] (Ae 18 (Ab [Aa 19 0,Aa 20 7,oP 21 (.hcall 79 [(.t 19),(.t 20)]),Aa 6 21] .ret) .skip))) (Ce [Aa 22 2,⟨(some 23),(.call 103 [(.t 22)]),none,1,true,[]⟩,oI 24 2 (Ac 1 4),⟨(some 25),(Ad 24),none,3,false,[1]⟩,oI 26 4 (Bb .sub 23 25),oI 27 5 (An .sub 26 1),oI 28 6 (.build [(iS 0),(iS 0),(iS 0),(iS 0),(iS 0),.nils] [(0,(1,(cI 2))),(4,(1,(.t 27)))]),oI 29 7 (.box (.t 28)),oI 6 8 (mT 29)] .ret)) .skip)) (Ab [oP 30 (Ac 0 4),oP 31 (Ad 30),oP 32 (.call 100 [(.t 31)]),Aa 8 32] (.seq (Ab [Aa 33 8,oP 34 (An .lss 33 0)] (Ae 34 (Ab [Aa 35 0,oP 36 (Ak 5 4),Aa 37 2,oP 38 (.hcall 116 [(.t 35),(.t 36),(.t 37),(cI (-1)),(.c .nilp)]),Aa 6 38] .ret) .skip)) (Ab [Aa 39 0,oP 40 (Ac 4 4),oP 41 (Ad 40),Aa 42 8,oP 43 (.iad 5 (.t 41) (.t 42)),oP 44 (Ak 5 43),Aa 45 2,oP 46 (.hcall 98 [(.t 39),(.t 44),(.t 45)]),Aa 9 46] (.blk 2 (Ab [oP 54 (Ac 0 4),oP 55 (Ad 54),oP 56 (Aj 55 15),Aa 57 56,oG 58 57 true 0 (mT 9),oG 59 57 true 0 (Ah 58),oG 60 57 true 0 (Ac 0 59),oG 61 57 true 0 (Ad 60),oG 62 57 true 0 (Aj 61 14),oP 63 (Az 57 62),Aa 53 63] (Ae 53 (Ab [Aa 64 0,oP 65 (.hcall 101 [(.t 64)])] (.reg [Aa 66 9,oI 67 1 (Ah 66),oI 68 2 (Ac 5 67),⟨(some 69),(Ad 68),none,3,true,[]⟩,⟨(some 70),(.iad 1 (.t 69) (cI 1)),none,4,true,[]⟩,⟨(some 71),(Ad 70),none,5,true,[]⟩,oI 72 6 (Ah 71),oI 73 7 (Ac 0 72),⟨(some 74),(Ak 5 73),none,8,true,[]⟩,oI 75 9 (mT 9),oI 76 10 (Ah 75),oI 77 11 (Ac 5 76),⟨(some 78),(Ad 77),none,12,true,[]⟩,⟨(some 79),(.iad 1 (.t 78) (cI 1)),none,13,true,[]⟩,⟨(some 80),(Ad 79),none,14,true,[]⟩,oI 81 15 (Ah 80),oI 82 16 (Ac 5 81),⟨(some 83),(Ad 82),none,17,true,[]⟩,oI 84 18 (Ac 4 4),oI 85 19 (Ad 84),oI 86 20 (.iad 5 (.t 85) (cI 1)),oI 87 21 (Ak 5 86),oI 88 22 (mT 2),⟨(some 89),(.hcall 22 [(.t 87),(.t 88)]),none,23,false,[3,4,5,8,12,13,14,17,23]⟩,⟨(some 90),(.call 83 [(.t 83),(.t 89)]),none,24,false,[3,4,5,8]⟩,oJ 25 (Al 5 4 74),oI 2 26 (mT 90)] true)) (Ab [oP 92 (Ac 0 4),oP 93 (Ad 92),oP 94 (Aj 93 18),Aa 95 94,oG 96 95 true 0 (mT 9),oG 97 95 true 0 (Ah 96),oG 98 95 true 0 (Ac 0 97),oG 99 95 true 0 (Ad 98),oG 100 95 true 0 (Aj 99 17),oP 101 (Az 95 100),Aa 91 101] (Ae 91 (Ab [Aa 102 0,oP 103 (.hcall 101 [(.t 102)])] (Ab [Aa 104 0,Aa 105 9,oP 106 (Ah 105),oP 107 (Ac 5 106),oP 108 (Ad 107),oP 109 (.iad 1 (.t 108) (cI 2)),oP 110 (Ad 109),oP 111 (.hcall 79 [(.t 104),(.t 110)]),Aa 6 111] .ret)) (Ab [oP 113 (Ac 0 4),oP 114 (Ad 113),oP 115 (Aj 114 19),Aa 116 115,oG 117 116 true 0 (mT 9),oG 118 116 true 0 (Ah 117),oG 119 116 true 0 (Ac 0 118),oG 120 116 true 0 (Ad 119),oG 121 116 true 0 (Aj 120 17),oP 122 (Az 116 121),Aa 112 122] (Ae 112 (Ab [Aa 123 0,oP 124 (.hcall 101 [(.t 123)])] (Ab [Aa 125 0,Aa 126 9,oP 127 (Ah 126),oP 128 (Ac 5 127),oP 129 (Ad 128),oP 130 (.iad 1 (.t 129) (cI 3)),oP 131 (Ad 130),oP 132 (.hcall 79 [(.t 125),(.t 131)]),Aa 6 132] .ret)) (Ab [oP 134 (Ac 0 4),oP 135 (Ad 134),oP 136 (Aj 135 22),Aa 137 136,oG 138 137 true 0 (mT 9),oG 139 137 true 0 (Ah 138),oG 140 137 true 0 (Ac 0 139),oG 141 137 true 0 (Ad 140),oG 142 137 true 0 (Aj 141 21),oP 143 (Az 137 142),Aa 133 143] (Ae 133 (Ab [Aa 144 0,oP 145 (.hcall 101 [(.t 144)])] (Ar [oP 146 (Ac 4 4),oP 147 (Ad 146),oP 148 (.iad 5 (.t 147) (cI 3)),oP 149 (Ak 5 148),oN (Al 5 4 149)])) (Ab [Aa 47 0,oP 48 (Ak 5 4),Aa 49 2,Aa 50 8,Aa 51 9,oP 52 (.hcall 116 [(.t 47),(.t 48),(.t 49),(.t 50),(.t 51)]),Aa 6 52] .ret))))))))))))))
def af98:AF:=⟨150,[(.t 6)],(Ab [oP 4 (.box (.t 1)),oP 6 (.mv (.c .nilp))] (.blk 0 (.loop a98_54)))⟩
def tr98:trF Tryz.prog Tryz.f98=some af98:=by kernel_rfl
attribute [go_sem] af98 a98_54
def af102:AF:=⟨136,[(.t 8)],(Ab [oP 8 (.mv (.c .nilp))] (.seq (.blk 0 (Ab [Aa 11 1,oP 12 (Ah 11),oP 13 (Ac 0 12),oP 14 (Ad 13),oP 15 (Aj 14 15),Aa 16 15,oG 17 16 true 0 (mT 3),oG 18 16 true 0 (Ah 17),oG 19 16 true 0 (Ac 0 18),oG 20 16 true 0 (Ad 19),oG 21 16 true 0 (Aj 20 14),oP 22 (Az 16 21),Aa 10 22] (Ae 10 (Ab [Aa 23 0,oP 24 (.hcall 101 [(.t 23)])] (Ce [Aa 25 0,oI 26 1 (mT 3),oI 27 2 (Ah 26),oI 28 3 (Ac 5 27),⟨(some 29),(Ad 28),none,4,true,[]⟩,⟨(some 30),(.iad 1 (.t 29) (cI 1)),none,5,true,[]⟩,⟨(some 31),(Ad 30),none,6,true,[]⟩,oI 32 7 (Ah 31),oI 33 8 (Ac 0 32),⟨(some 34),(Ak 5 33),none,9,true,[]⟩,oI 35 10 (mT 3),oI 36 11 (Ah 35),oI 37 12 (Ac 5 36),oI 38 13 (Ad 37),oI 39 14 (.iad 1 (.t 38) (cI 1)),oI 40 15 (Ad 39),oI 41 16 (Ah 40),oI 42 17 (Ac 5 41),oI 43 18 (Ad 42),oI 44 19 (mT 1),oI 45 20 (Ah 44),oI 46 21 (Ac 5 45),oI 47 22 (Ad 46),oI 48 23 (.iad 1 (.t 47) (cI 1)),oI 49 24 (Ad 48),⟨(some 50),(.call 83 [(.t 43),(.t 49)]),none,25,false,[4,5,6,9]⟩,⟨(some 51),(.hcall 98 [(.t 25),(.t 34),(.t 50)]),none,26,false,[26]⟩,oI 8 27 (mT 51)] .ret)) (Ab [Aa 53 1,oP 54 (Ah 53),oP 55 (Ac 0 54),oP 56 (Ad 55),oP 57 (Aj 56 18),Aa 58 57,oG 59 58 true 0 (mT 3),oG 60 58 true 0 (Ah 59),oG 61 58 true 0 (Ac 0 60),oG 62 58 true 0 (Ad 61),oG 63 58 true 0 (Aj 62 17),oP 64 (Az 58 63),Aa 52 64] (Ae 52 (Ab [Aa 65 0,oP 66 (.hcall 101 [(.t 65)])] (Ab [Aa 67 0,Aa 68 3,oP 69 (Ah 68),oP 70 (Ac 5 69),oP 71 (Ad 70),oP 72 (.iad 1 (.t 71) (cI 2)),oP 73 (Ad 72),oP 74 (.hcall 79 [(.t 67),(.t 73)]),Aa 8 74] .ret)) (Ab [Aa 76 1,oP 77 (Ah 76),oP 78 (Ac 0 77),oP 79 (Ad 78),oP 80 (Aj 79 19),Aa 81 80,oG 82 81 true 0 (mT 3),oG 83 81 true 0 (Ah 82),oG 84 81 true 0 (Ac 0 83),oG 85 81 true 0 (Ad 84),oG 86 81 true 0 (Aj 85 17),oP 87 (Az 81 86),Aa 75 87] (Ae 75 (Ab [Aa 88 0,oP 89 (.hcall 101 [(.t 88)])] (Ab [Aa 90 0,Aa 91 3,oP 92 (Ah 91),oP 93 (Ac 5 92),oP 94 (Ad 93),oP 95 (.iad 1 (.t 94) (cI 3)),oP 96 (Ad 95),oP 97 (.hcall 79 [(.t 90),(.t 96)]),Aa 8 97] .ret)) (Ab [Aa 99 1,oP 100 (Ah 99),oP 101 (Ac 0 100),oP 102 (Ad 101),oP 103 (Aj 102 22),Aa 104 103,oG 105 104 true 0 (mT 3),oG 106 104 true 0 (Ah 105),oG 107 104 true 0 (Ac 0 106),oG 108 104 true 0 (Ad 107),oG 109 104 true 0 (Aj 108 21),oP 110 (Az 104 109),Aa 98 110] (Ae 98 (Ab [Aa 111 0,oP 112 (.hcall 101 [(.t 111)])] (Ab [Aa 113 0,Aa 114 1,oP 115 (Ah 114),oP 116 (Ac 5 115),oP 117 (Ad 116),oP 118 (.iad 1 (.t 117) (cI 3)),oP 119 (Ad 118),oP 120 (.hcall 79 [(.t 113),(.t 119)]),Aa 8 120] .ret)) .skip))))))))) (Ab [Aa 121 1,oP 122 (Ah 121),oP 123 (Ak 6 122),oP 9 (.new [(iS 0),(iS 0),(iS 0),(iS 0),(iS 0),.nils]),oN (Al 6 9 123)] (Ab [Aa 124 1,oP 125 (Ah 124),oP 126 (Ac 5 125),oP 127 (Ad 126),oP 128 (.app 1 8 (.c .nils) (.t 127)),oP 129 (Ac 5 9),oN (Al 1 129 128)] (Ce [oP 130 (Ac 5 9),⟨(some 131),(Ad 130),none,1,true,[]⟩,oI 132 2 (mT 2),oI 133 3 (mT 3),⟨(some 134),(.hcall 104 [(.t 133)]),none,4,false,[1,4]⟩,oI 135 5 (.iad 1 (.t 131) (.t 132)),oJ 6 (Al 1 135 134)] (Ab [Aa 8 9] .ret))))))⟩
def tr102:trF Tryz.prog Tryz.f102=some af102:=by kernel_rfl
attribute [go_sem] af102
def af116:AF:=⟨65,[(.t 10)],(Ab [oP 6 (.box (.t 1)),oP 10 (.mv (.c .nilp))] (Ab [oP 14 (Ac 0 6),oP 15 (Ad 14),oP 16 (Ac 1 6),oP 17 (Ad 16),oP 18 (Ac 2 6),oP 19 (Ad 18),oP 20 (Ac 3 6),oP 21 (Ad 20),oP 22 (.build [(iS 0),(iS 0),(iS 0),(iS 0),(iS 0),.nils] [(0,(1,(.t 15))),(1,(1,(.t 17))),(2,(1,(.t 19))),(3,(1,(.t 21)))]),oP 23 (.box (.t 22)),Aa 11 23] (.seq (Ab [oP 24 (Ac 4 6),oP 25 (Ad 24),oP 26 (.len false (.t 25)),oP 27 (An .gtr 26 0)] (Ae 27 (Ar [Aa 28 11,oP 29 (Ac 4 6),oP 30 (Ad 29),oP 31 (.len false (.t 30)),oP 32 (.mk 1 8 [.nilp] (.t 31) (.t 31)),oP 33 (Ah 28),oP 34 (Ac 5 33),oN (Al 1 34 32)]) .skip)) (.seq (Ab [oP 35 (Ac 4 6),oP 36 (Ad 35),oP 37 (.len false (.t 36)),oP 38 (.mv (cI 0))] (.blk 0 (.loop (Ab [oP 39 (Bb .lss 38 37)] (.seq (Cu 39 0) (.seq (.blk 1 (Ab [Aa 40 38,oP 41 (.iad 5 (.t 36) (.t 38)),oP 42 (Ak 5 41),oP 13 Cb,Aa 12 40,oN (Al 5 13 42)] (.seq (Ab [Aa 43 12,Aa 44 3,oP 45 (Bb .eql 43 44)] (Ae 45 (Ce [Aa 46 11,oI 47 1 (Ah 46),oI 48 2 (Ac 5 47),⟨(some 49),(Ad 48),none,3,true,[]⟩,oI 50 4 (mT 12),oI 51 5 (mT 4),⟨(some 52),(.hcall 104 [(.t 51)]),none,6,false,[3,6]⟩,oI 53 7 (.iad 1 (.t 49) (.t 50)),oJ 8 (Al 1 53 52)] (.exit 1)) .skip)) (.reg [Aa 54 11,oI 55 1 (Ah 54),oI 56 2 (Ac 5 55),⟨(some 57),(Ad 56),none,3,true,[]⟩,oI 58 4 (mT 12),oI 59 5 (Ak 5 13),oI 60 6 (mT 2),⟨(some 61),(.hcall 22 [(.t 59),(.t 60)]),none,7,false,[3,7]⟩,oI 62 8 (.iad 1 (.t 57) (.t 58)),oJ 9 (Al 1 62 61)] true)))) (Ar [oP 63 (An .add 38 1),Aa 38 63]))))))) (Ab [Aa 64 11,Aa 10 64] .ret)))))⟩
def tr116:trF Tryz.prog Tryz.f116=some af116:=by kernel_rfl
attribute [go_sem] af116
def af20:AF:=⟨7,[(.t 2)],(Ab [oP 2 (.mv (.c .nilp))] (Ab [Aa 3 0,oP 4 .mkmap,oP 5 (.build [(iS 0),(iS 0),(iS 0),(iS 0),.nilm] [(1,(1,(.t 3))),(4,(1,(.t 4)))]),oP 6 (.boxg (.t 5)),Aa 2 6] .ret))⟩
def tr20:trF Tryz.prog Tryz.f20=some af20:=by kernel_rfl
attribute [go_sem] af20
def af22:AF:=⟨9,[(.t 4)],(Ab [oP 2 (.box (.t 0)),oP 4 (.mv (.c .nilp))] (Ab [oP 5 (Ak 5 2),Aa 6 1,oP 7 (.build [(iS 0),(iS 0),(iS 0),(iS 0),.nils,.nilp,(.bool false),.nilp,.nilp] [(0,(5,(.t 5))),(5,(1,(.t 6)))]),oP 8 (.boxg (.t 7)),Aa 4 8] .ret))⟩
def tr22:trF Tryz.prog Tryz.f22=some af22:=by kernel_rfl
attribute [go_sem] af22
def af52:AF:=⟨18,[],(Ab [Aa 2 0,oP 3 (.hcall 80 [(.t 2)])] (Ab [Aa 4 0,oP 5 (Ah 4),oP 6 (Ac 2 5),oP 7 (Ad 6),oP 8 (An .add 7 1),oP 9 (Ah 4),oP 10 (Ac 2 9),oN (Al 1 10 8)] (Ab [Aa 11 0,oP 12 (Ah 11),oP 13 (Ac 2 12),oP 14 (Ad 13),oP 15 (An .gtr 14 8000000)] (Ae 15 (Ar [oP 16 (.build [] []),oP 17 (.ifc 48 (.t 16)),oN (.pan (.t 17))]) .skip))))⟩
def tr52:trF Tryz.prog Tryz.f52=some af52:=by kernel_rfl
attribute [go_sem] af52
def af54:AF:=⟨10,[(.cell 4 true 5)],(Ab [oP 4 Cb] (Ab [Aa 5 1,oP 6 (An .sub 5 1),Aa 7 0,oP 8 (Bb .sub 6 7),oP 9 (.call 59 [(.t 8)]),oN (Al 5 4 9)] .ret))⟩
def tr54:trF Tryz.prog Tryz.f54=some af54:=by kernel_rfl
attribute [go_sem] af54
def af56:AF:=⟨30,[(.t 6)],(Ab [oP 6 (.mv (.c .nilp))] (Ab [Aa 9 0,oP 10 (Ah 9),oP 11 (Ac 5 10),oP 12 (Ad 11),Aa 7 12] (.seq (Ab [Aa 13 2,oP 14 (.mv (cI 0))] (.blk 0 (.loop (Ab [oP 15 (Bb .lss 14 13)] (.seq (Cu 15 0) (.seq (.blk 1 (Ab [Aa 16 14,Aa 8 16] (Ar [Aa 17 7,Aa 18 1,Aa 19 8,oP 20 (Bb .add 18 19),oP 21 (.hcall 84 [(.t 20)]),oP 22 (.call 83 [(.t 17),(.t 21)]),Aa 7 22]))) (Ar [oP 23 (An .add 14 1),Aa 14 23]))))))) (Ab [Aa 24 0,oP 25 (Ah 24),oP 26 (Ac 0 25),oP 27 (Ak 5 26),Aa 28 7,oP 29 (.hcall 22 [(.t 27),(.t 28)]),Aa 6 29] .ret))))⟩
def tr56:trF Tryz.prog Tryz.f56=some af56:=by kernel_rfl
attribute [go_sem] af56
def af79:AF:=⟨27,[(.t 4)],(Ab [oP 4 (.mv (.c .nilp))] (.seq (Ab [Aa 5 1,oP 6 (Ah 5),oP 7 (Ac 7 6),oP 8 (Ad 7),oP 9 (.bin 2 .eql (.t 8) (.c .nilp))] (Ae 9 (.reg [Aa 10 1,oI 11 1 (mT 0),oI 12 2 (mT 1),oI 13 3 (Ah 12),oI 14 4 (Ac 0 13),oI 15 5 (Ak 5 14),oI 16 6 (mT 1),oI 17 7 (Ah 16),oI 18 8 (Ac 5 17),oI 19 9 (Ad 18),⟨(some 20),(.hcall 98 [(.t 11),(.t 15),(.t 19)]),none,10,false,[10]⟩,oI 21 11 (Ah 10),oI 22 12 (Ac 7 21),oJ 13 (Al 1 22 20)] true) .skip)) (Ab [Aa 23 1,oP 24 (Ah 23),oP 25 (Ac 7 24),oP 26 (Ad 25),Aa 4 26] .ret)))⟩
def tr79:trF Tryz.prog Tryz.f79=some af79:=by kernel_rfl
attribute [go_sem] af79
def af33:AF:=⟨14,[],(Ar [Aa 4 0,Aa 5 0,Aa 6 0,Aa 7 1,oP 8 (Ah 4),oP 9 (Ac 0 8),oN (.store 1 (.t 9) (cI 0)),oP 10 (Ah 5),oP 11 (Ac 1 10),oN (Al 1 11 7),oP 12 (Ah 6),oP 13 (Ac 2 12),oN (.store 1 (.t 13) (cI 0))])⟩
def tr33:trF Tryz.prog Tryz.f33=some af33:=by kernel_rfl
attribute [go_sem] af33
def af80:AF:=⟨21,[],(Ab [Aa 2 0,oP 3 (Ah 2),oP 4 (Ac 3 3),oP 5 (Ad 4),oP 6 (An .gtr 5 0)] (Ae 6 (Ab [Aa 7 0,oP 8 (Ah 7),oP 9 (Ac 3 8),oP 10 (Ad 9),oP 11 (An .sub 10 1),oP 12 (Ah 7),oP 13 (Ac 3 12),oN (Al 1 13 11)] (Ab [Aa 14 0,oP 15 (Ah 14),oP 16 (Ac 3 15),oP 17 (Ad 16),oP 18 (Aj 17 0)] (Ae 18 (Ar [oP 19 (.build [] []),oP 20 (.ifc 123 (.t 19)),oN (.pan (.t 20))]) .skip))) .skip))⟩
def tr80:trF Tryz.prog Tryz.f80=some af80:=by kernel_rfl
attribute [go_sem] af80
def af83:AF:=⟨12,[(.t 4)],(Ab [oP 4 (.mv (.c .nilp))] (Ab [Aa 5 1,Aa 6 0,Aa 7 0,oP 8 (.call 103 [(.t 7)]),oP 9 (An .add 8 1),oP 10 (.build [.nilp,.nilp,(iS 0)] [(0,(1,(.t 5))),(1,(1,(.t 6))),(2,(1,(.t 9)))]),oP 11 (.box (.t 10)),Aa 4 11] .ret))⟩
def tr83:trF Tryz.prog Tryz.f83=some af83:=by kernel_rfl
attribute [go_sem] af83
def af84:AF:=⟨7,[(.t 2)],(Ab [oP 2 (.mv (.c .nilp))] (Ab [Aa 3 0,oP 4 (.build [(iS 0),(iS 0),(iS 0),(iS 0),(iS 0),.nils] [(0,(1,(cI 2))),(4,(1,(.t 3)))]),oP 5 (.box (.t 4)),oP 6 (.hcall 104 [(.t 5)]),Aa 2 6] .ret))⟩
def tr84:trF Tryz.prog Tryz.f84=some af84:=by kernel_rfl
attribute [go_sem] af84
def af115:AF:=⟨21,[(.t 4)],(Ab [oP 4 (.mv (.c .nilp))] (.seq (Ab [Aa 5 1,Aa 6 0,oP 7 (.call 103 [(.t 6)]),oP 8 (Bb .geq 5 7)] (Ae 8 (Ab [oP 4 (.mv (.c .nilp))] .ret) .skip)) (.seq (.blk 0 (.loop (.seq (Ab [Aa 9 1,oP 10 (An .gtr 9 0)] (Cu 10 0)) (.seq (.blk 1 (Ar [Aa 13 0,oP 14 (Ah 13),oP 15 (Ac 1 14),oP 16 (Ad 15),Aa 0 16])) (Ar [Aa 11 1,oP 12 (An .sub 11 1),Aa 1 12]))))) (Ab [Aa 17 0,oP 18 (Ah 17),oP 19 (Ac 0 18),oP 20 (Ad 19),Aa 4 20] .ret))))⟩
def tr115:trF Tryz.prog Tryz.f115=some af115:=by kernel_rfl
attribute [go_sem] af115
def af103:AF:=⟨9,[(.t 2)],(Ab [oP 2 (.mv (cI 0))] (.seq (Ab [Aa 3 0,oP 4 (.bin 2 .eql (.t 3) (.c .nilp))] (Ae 4 (Ab [oP 2 (.mv (cI 0))] .ret) .skip)) (Ab [Aa 5 0,oP 6 (Ah 5),oP 7 (Ac 2 6),oP 8 (Ad 7),Aa 2 8] .ret)))⟩
def tr103:trF Tryz.prog Tryz.f103=some af103:=by kernel_rfl
attribute [go_sem] af103
def af100:AF:=⟨10,[(.t 2)],(Ab [oP 2 (.mv (cI 0))] (.seq (Ab [Aa 3 0] (.blk 0 (.seq (Ab [oP 5 (Aj 3 15),Aa 4 5] (Ae 4 .skip (Ab [oP 6 (Aj 3 18),Aa 4 6] (Ae 4 .skip (Ar [oP 7 (Aj 3 19),Aa 4 7]))))) (Ae 4 (Ab [oP 2 (.mv (cI 0))] .ret) (Ab [oP 9 (Aj 3 22),Aa 8 9] (Ae 8 (Ab [oP 2 (.mv (cI 5))] .ret) .skip)))))) (Ab [oP 2 (.mv (cI (-1)))] .ret)))⟩
def tr100:trF Tryz.prog Tryz.f100=some af100:=by kernel_rfl
attribute [go_sem] af100
def af101:AF:=⟨22,[],(Ab [Aa 2 0,oP 3 (.hcall 80 [(.t 2)])] (.seq (Ce [Aa 4 0,oI 5 1 (Ah 4),oI 6 2 (Ac 0 5),oI 7 3 (Ad 6),oI 8 4 (mT 0),oI 9 5 (Ah 8),oI 10 6 (Ac 1 9),oI 11 7 (Ad 10),oI 12 8 (Bb .geq 7 11)] (Ae 12 (Ar [oP 13 (.build [] []),oP 14 (.ifc 48 (.t 13)),oN (.pan (.t 14))]) .skip)) (Ar [Aa 15 0,oP 16 (Ah 15),oP 17 (Ac 0 16),oP 18 (Ad 17),oP 19 (An .add 18 1),oP 20 (Ah 15),oP 21 (Ac 0 20),oN (Al 1 21 19)])))⟩
def tr101:trF Tryz.prog Tryz.f101=some af101:=by kernel_rfl
attribute [go_sem] af101
def af104:AF:=⟨6,[(.t 2)],(Ab [oP 2 (.mv (.c .nilp))] (Ab [Aa 3 0,oP 4 (.build [(iS 0),(iS 0),(iS 0),(iS 0),.nils,.nilp,(.bool false),.nilp,.nilp] [(6,(1,(cB true))),(7,(1,(.t 3)))]),oP 5 (.boxg (.t 4)),Aa 2 5] .ret))⟩
def tr104:trF Tryz.prog Tryz.f104=some af104:=by kernel_rfl
attribute [go_sem] af104
def af113:AF:=⟨12,[(.t 4)],(Ab [oP 4 (.mv (.c .nilp))] (Ab [Aa 5 0,Aa 6 1,oP 7 (.hcall 104 [(.t 6)]),oP 8 (.bslice 1 [(.t 7)]),oP 9 (.build [(iS 0),(iS 0),(iS 0),(iS 0),(iS 0),.nils] [(0,(1,(.t 5))),(5,(1,(.t 8)))]),oP 10 (.box (.t 9)),oP 11 (.hcall 104 [(.t 10)]),Aa 4 11] .ret))⟩
def tr113:trF Tryz.prog Tryz.f113=some af113:=by kernel_rfl
attribute [go_sem] af113
def a53_8:AC:=.seq (Ab [Aa 14 0,Aa 15 5,oP 16 (.hcall 81 [(.t 14),(.t 15)]),oP 17 (An .neq 16 0)] (Cu 17 0)) (.blk 1 (Ar [Aa 18 0,Aa 19 5,oP 20 (.hcall 82 [(.t 18),(.t 19)]),Aa 5 20]))
def a53_11:AC:=Ar [Aa 21 1,Aa 22 5,oP 23 (Ah 21),oP 24 (Ac 8 23),oN (Al 1 24 22)]
def a53_17:AC:=Ab [Aa 25 1,oP 26 (Ah 25),oP 27 (Ac 8 26),oP 28 (Ad 27),Aa 4 28] .ret
def af53:AF:=⟨29,[(.t 4)],(Ab [oP 4 (.mv (.c .nilp))] (.seq (Ab [Aa 6 1,oP 7 (Ah 6),oP 8 (Ac 8 7),oP 9 (Ad 8),oP 10 (.bin 2 .eql (.t 9) (.c .nilp))] (Ae 10 (Ab [Aa 11 0,Aa 12 1,oP 13 (.hcall 79 [(.t 11),(.t 12)]),Aa 5 13] (.seq (.blk 0 (.loop a53_8)) a53_11)) .skip)) a53_17))⟩
def tr53:trF Tryz.prog Tryz.f53=some af53:=by kernel_rfl
attribute [go_sem] af53 a53_8 a53_11 a53_17
open Go Go.RowKit
def lqp(S:Nat->St)(n i:Nat)(p:Prop)(Q:AE->St->Prop):AE->St->Prop:=fun e s'=>match e with|.normal=>i<n/\p/\Wk s' (S (i+1))|e=>Q e s'
def Arl{S:Nat->St}{n i:Nat}{p:Prop}{Q:AE->St->Prop}{s:St}:lqp S n i p Q .normal s=(i<n/\p/\Wk s (S (i+1))):=q_z
def Ark{S:Nat->St}{n i j:Nat}{p:Prop}{Q:AE->St->Prop}{s:St}:lqp S n i p Q (.exit j) s=Q (.exit j) s:=q_z
def Arm{S:Nat->St}{n i:Nat}{p:Prop}{Q:AE->St->Prop}{s:St}:lqp S n i p Q .ret s=Q .ret s:=q_z
attribute [go_sem] Arl Ark Arm
def Rt{C:CT}{b:AC}{Q:AE->St->Prop}(S:Nat->St)(n:Nat)(p:Nat->Prop)(So:∀i,i<=n->(∀j,j<i->p j)->vc C b (lqp S n i (p i) Q) (S i)){s:St}(h0:Wk s (S 0)):vc C (.loop b) Q s:=by
 refine Ak5 (fun m s=>∃i,i<=n/\m=n-i/\(∀j,j<i->p j)/\Wk s (S i)) (fun m s hI=>?_) n s ⟨0,Nat.zero_le _,rfl,fun j hj=>absurd hj (Nat.not_lt_zero _),h0⟩;obtain⟨i,hi,rfl,hp,hw⟩:=hI;refine⟨S i,hw,p8 (fun e s' he=>?_) (So i hi hp)⟩;cases e with
 |normal=>exact⟨n-(i+1),by have:=he.1;omega,i+1,he.1,rfl,fun j hj=>(by rcases Nat.lt_succ_iff_lt_or_eq.1 hj with h|rfl;exact hp j h;exact he.2.1),he.2.2⟩
 |exit id=>exact he
 |ret=>exact he
def Hi{α:Type}{l:List α}{i:Nat}{d:α}(h:i<l.length):l[i]?.getD d∈l:=by
 rw[q_f h,q_jz];exact q_kd h
def Av9{α:Type}{l:List α}{f:α->Bool}{d:α}(h:∀j,j<l.length->f (l[j]?.getD d)=true):l.all f=true:=by
 rw[List.all_eq_true];intro x hx;obtain⟨i,hi,rfl⟩:=List.getElem_of_mem hx;have:=h i hi
 rwa [q_f hi,q_jz] at this
def Av8{α:Type}{l:List α}{f:α->Bool}{d:α}{i:Nat}(hi:i<l.length)(h:f (l[i]?.getD d)=false):l.all f=false:=by
 rw[List.all_eq_false];exact⟨_,Hi (d:=d) hi,by simp[h]⟩
def Id{α:Type}(f:Nat->α->Bool):Nat->List α->Bool
 |_,[]=>true
 |i,x::l=>f i x && Id f (i+1) l
def Aly{α:Type}{f:Nat->α->Bool}{d:α}:∀{l:List α} {k:Nat},(∀j,j<l.length->f (k+j) (l[j]?.getD d)=true)->Id f k l=true:=by
 intro l
 induction l with
 |nil=>intro k _;rfl
 |cons x l ih=>
  intro k h;simp only[Id,q_jl];refine⟨by simpa using h 0 (by simp),ih fun j hj=>?_⟩;have:=h (j+1) (by simp;omega);rw[show k+1+j=k+(j+1) by omega];simpa using this
def Alx{α:Type}{f:Nat->α->Bool}{d:α}:∀{l:List α} {k i:Nat},i<l.length->f (k+i) (l[i]?.getD d)=false->Id f k l=false:=by
 intro l
 induction l with
 |nil=>intro k i h;simp at h
 |cons x l ih=>
  intro k i hi h;simp only[Id];cases i with
  |zero=>have h':f k x=false:=by simpa using h
         rw[h'];rfl
  |succ i=>
   rw[ih (k:=k+1) (i:=i) (by simpa using hi) (by rw[show k+1+i=k+(i+1) by omega];simpa using h),q_lg]
def Av5{α β:Type}{f:Nat->β->Bool}{g:α->β}:∀{l:List α} {k:Nat},Id f k (l.map g)=Id (fun i x=>f i (g x)) k l:=by
 intro l
 induction l with
 |nil=>intro k;rfl
 |cons x l ih=>intro k;simp only[q_h,Id,ih]
def Alw{α:Type}{f g:Nat->α->Bool}:∀{l:List α} {k:Nat},(∀i,∀x∈l,f i x=g i x)->Id f k l=Id g k l:=by
 intro l
 induction l with
 |nil=>intro k _;rfl
 |cons x l ih=>
  intro k h;simp only[Id];rw[h k x (by simp),ih (fun i y hy=>h i y (by simp[hy]))]
def vcI(C:CT)(b:AC)(Q:AE->St->Prop)(n:Nat)(s:St):Prop:=Tg (fun Q' s'=>vc C b Q' s') Q n s
def lqi(C:CT)(b:AC)(Q:AE->St->Prop)(n:Nat):AE->St->Prop:=fun e s'=>match e with|.normal=>vcI C b Q n s'|e=>Q e s'
section
variable{C:CT}{b:AC}{Q:AE->St->Prop}{n:Nat}{s:St}
def Bcl:lqi C b Q n .normal s=vcI C b Q n s:=q_z
def Bck{j:Nat}:lqi C b Q n (.exit j) s=Q (.exit j) s:=q_z
def Bcm:lqi C b Q n .ret s=Q .ret s:=q_z
attribute [go_sem] Bcl Bck Bcm
def Bd(h:vc C b (lqi C b Q n) s):vcI C b Q (n+1) s:=by
 refine⟨s,.refl s,p8 (fun e s' he=>?_) h⟩;cases e with
 |normal=>exact he
 |exit id=>exact he
 |ret=>exact he
def Cv(n:Nat)(h:vcI C b Q n s):vc C (.loop b) Q s:=⟨n,h⟩
end
def wr_0:IntKind.i64.wrap 0=0:=by decide
def wr_1:IntKind.i64.wrap 1=1:=by decide
def wr_2:IntKind.i64.wrap 2=2:=by decide
def wr_3:IntKind.i64.wrap 3=3:=by decide
def wr_4:IntKind.i64.wrap 4=4:=by decide
def wr_5:IntKind.i64.wrap 5=5:=by decide
def wr_6:IntKind.i64.wrap 6=6:=by decide
attribute [go_sem] wr_0 wr_1 wr_2 wr_3 wr_4 wr_5 wr_6
def af58:AF:=⟨24,[(.cell 10 true 5)],(Ab [oP 10 Cb] (Ab [Aa 12 0,Aa 13 1,Aa 14 2,Aa 15 3,oP 16 (Da [(0,(1,(.t 12))),(1,(1,(.t 13))),(2,(1,(.t 14))),(3,(1,(.t 15)))]),oP 11 Cb,oN (Al 5 11 16)] (.seq (Ab [Aa 17 4,oP 18 (.len false (.t 17)),oP 19 (An .gtr 18 0)] (Ae 19 (Ar [Aa 20 4,oP 21 (.app 5 56 (.c .nils) (.t 20)),oP 22 (Ac 4 11),oN (Al 1 22 21)]) .skip)) (Ab [oP 23 (Ak 5 11),oN (Al 5 10 23)] .ret))))⟩
def tr58:trF Tryz.prog Tryz.f58=some af58:=by kernel_rfl
attribute [go_sem] af58
def af59:AF:=⟨5,[(.cell 2 true 5)],(Ab [oP 2 Cb] (Ab [Aa 3 0,oP 4 (Da [(0,(1,(cI 2))),(1,(1,(.t 3)))]),oN (Al 5 2 4)] .ret))⟩
def tr59:trF Tryz.prog Tryz.f59=some af59:=by kernel_rfl
attribute [go_sem] af59
def af43:AF:=⟨39,[(.t 6)],(Ab [oP 3 (.box (.t 0)),oP 6 (.mv (cI 0))] (.seq (Ab [Aa 9 2,oP 10 (An .lss 9 0)] (Ae 10 (Ab [Aa 11 1,oP 12 (An .add 11 1),Aa 6 12] .ret) .skip)) (Ab [oP 7 (.mv (cI 1))] (.seq (Ab [oP 8 (.mv (cI 0))] (.blk 0 (.loop (.seq (Ab [Aa 13 8,oP 14 (Ac 4 3),oP 15 (Ad 14),oP 16 (.len false (.t 15)),oP 17 (Bb .lss 13 16),Aa 18 17,oG 19 18 true 0 (mT 7),oG 20 18 true 0 (mT 1),oG 21 18 true 0 (Bb .leq 19 20),oP 22 (Az 18 21)] (Cu 22 0)) (.seq (.blk 1 (Ar [Aa 25 7,oP 26 (Ac 4 3),oP 27 (Ad 26),Aa 28 8,oP 29 (.iad 5 (.t 27) (.t 28)),oP 30 (Ak 5 29),Aa 31 1,Aa 32 7,oP 33 (Bb .sub 31 32),Aa 34 2,oP 35 (An .sub 34 1),oP 36 (.call 43 [(.t 30),(.t 33),(.t 35)]),oP 37 (Bb .add 25 36),Aa 7 37])) (Ar [Aa 23 8,oP 24 (An .add 23 1),Aa 8 24])))))) (Ab [Aa 38 7,Aa 6 38] .ret)))))⟩
def tr43:trF Tryz.prog Tryz.f43=some af43:=by kernel_rfl
attribute [go_sem] af43
def af27:AF:=⟨10,[(.t 4)],(Ab [oP 2 (.box (.t 0)),oP 4 (.mv (cB false))] (Ab [oP 5 (Ak 5 2),Aa 6 1,oP 7 (.call 43 [(.t 5),(.t 6),(cI 200)]),Aa 8 1,oP 9 (Bb .gtr 7 8),Aa 4 9] .ret))⟩
def tr27:trF Tryz.prog Tryz.f27=some af27:=by kernel_rfl
attribute [go_sem] af27
def af17:AF:=⟨5,[(.t 2)],(Ab [oP 1 (.box (.t 0)),oP 2 (.mv (cB false))] (Ab [oP 3 (Ak 5 1),oP 4 (.call 30 [(.t 3),(cI 2)]),Aa 2 4] .ret))⟩
def tr17:trF Tryz.prog Tryz.f17=some af17:=by kernel_rfl
attribute [go_sem] af17
def af30:AF:=⟨58,[(.t 4)],(Ab [oP 2 (.box (.t 0)),oP 4 (.mv (cB false))] (Ab [oP 9 (Ac 0 2),oP 10 (Ad 9),oP 11 (.call 47 [(.t 10)]),Aa 5 11] (.seq (Ab [Aa 12 1,oP 13 (An .neq 12 0),Aa 14 13,oG 15 14 true 0 (mT 5),oG 16 14 true 0 (An .neq 15 0),oP 17 (Az 14 16),Aa 18 17,oG 19 18 true 0 (mT 5),oG 20 18 true 0 (mT 1),oG 21 18 true 0 (Bb .neq 19 20),oP 22 (Az 18 21)] (Ae 22 (Ab [oP 4 (.mv (cB false))] .ret) .skip)) (.seq (Ce [oP 23 (Ac 4 2),⟨(some 24),(Ad 23),none,1,true,[]⟩,oI 25 2 (.len false (.t 24)),oI 26 3 (Ac 0 2),oI 27 4 (Ad 26),oI 28 5 (Ac 3 2),oI 29 6 (Ad 28),⟨(some 30),(.call 48 [(.t 27),(.t 29)]),none,7,false,[1]⟩,oI 31 8 (Bb .neq 25 30),oI 32 9 (mT 31),oG 33 32 false 10 (Ak 5 2),oG 34 32 false 11 (.call 49 [(.t 33)]),oG 35 32 false 12 (.un .not (.t 34)),oI 36 13 (Bf 32 35)] (Ae 36 (Ab [oP 4 (.mv (cB false))] .ret) .skip)) (.seq (Ab [oP 37 (Ac 4 2),oP 38 (Ad 37),oP 39 (.len false (.t 38)),oP 40 (.mv (cI 0))] (.blk 0 (.loop (Ab [oP 41 (Bb .lss 40 39)] (.seq (Cu 41 0) (.seq (.blk 1 (Ab [Aa 42 40,oP 43 (.iad 5 (.t 38) (.t 40)),oP 44 (Ak 5 43),oP 7 Cb,Aa 6 42,oN (Al 5 7 44)] (Ab [Aa 45 5,Aa 8 45] (.seq (Ab [oP 46 (Ac 0 2),oP 47 (Ad 46),oP 48 (Aj 47 12),Aa 49 48,oG 50 49 true 0 (mT 6),oG 51 49 true 0 (Aj 50 2),oP 52 (Az 49 51)] (Ae 52 (Ar [oP 8 (.mv (cI 2))]) .skip)) (Ab [oP 53 (Ak 5 7),Aa 54 8,oP 55 (.call 30 [(.t 53),(.t 54)]),oP 56 (.un .not (.t 55))] (Ae 56 (Ab [oP 4 (.mv (cB false))] .ret) .skip)))))) (Ar [oP 57 (An .add 40 1),Aa 40 57]))))))) (Ab [oP 4 (.mv (cB true))] .ret))))))⟩
def tr30:trF Tryz.prog Tryz.f30=some af30:=by kernel_rfl
attribute [go_sem] af30
def af47:AF:=⟨13,[(.t 2)],(Ab [oP 2 (.mv (cI 0))] (.seq (.blk 0 (Ab [Aa 4 0,oP 5 (Aj 4 1),Aa 6 5,oG 7 6 false 0 (mT 0),oG 8 6 false 0 (Aj 7 2),oP 9 (Bf 6 8),Aa 3 9] (Ae 3 (Ab [oP 2 (.mv (cI 0))] .ret) (Ab [Aa 11 0,oP 12 (An .leq 11 12),Aa 10 12] (Ae 10 (Ab [oP 2 (.mv (cI 1))] .ret) .skip))))) (Ab [oP 2 (.mv (cI 2))] .ret)))⟩
def tr47:trF Tryz.prog Tryz.f47=some af47:=by kernel_rfl
attribute [go_sem] af47
def af48:AF:=⟨38,[(.t 4)],(Ab [oP 4 (.mv (cI 0))] (.seq (Ab [Aa 5 0] (.blk 0 (.seq (Ab [oP 7 (Aj 5 1),Aa 6 7] (Ae 6 .skip (Ar [oP 8 (Aj 5 2),Aa 6 8]))) (Ae 6 (Ab [oP 4 (.mv (cI 0))] .ret) (.seq (Ab [oP 10 (Aj 5 18),Aa 9 10] (Ae 9 .skip (Ar [oP 11 (Aj 5 19),Aa 9 11]))) (Ae 9 (Ab [oP 4 (.mv (cI 1))] .ret) (.seq (Ab [oP 13 (Aj 5 3),Aa 12 13] (Ae 12 .skip (Ab [oP 14 (Aj 5 6),Aa 12 14] (Ae 12 .skip (Ab [oP 15 (Aj 5 13),Aa 12 15] (Ae 12 .skip (Ab [oP 16 (Aj 5 14),Aa 12 16] (Ae 12 .skip (Ab [oP 17 (Aj 5 15),Aa 12 17] (Ae 12 .skip (Ab [oP 18 (Aj 5 16),Aa 12 18] (Ae 12 .skip (Ab [oP 19 (Aj 5 21),Aa 12 19] (Ae 12 .skip (Ar [oP 20 (Aj 5 11),Aa 12 20]))))))))))))))) (Ae 12 (Ab [oP 4 (.mv (cI 2))] .ret) (.seq (Ab [oP 22 (Aj 5 4),Aa 21 22] (Ae 21 .skip (Ab [oP 23 (Aj 5 8),Aa 21 23] (Ae 21 .skip (Ab [oP 24 (Aj 5 9),Aa 21 24] (Ae 21 .skip (Ab [oP 25 (Aj 5 10),Aa 21 25] (Ae 21 .skip (Ar [oP 26 (Aj 5 20),Aa 21 26]))))))))) (Ae 21 (Ab [oP 4 (.mv (cI 3))] .ret) (.seq (Ab [oP 28 (Aj 5 5),Aa 27 28] (Ae 27 .skip (Ab [oP 29 (Aj 5 7),Aa 27 29] (Ae 27 .skip (Ab [oP 30 (Aj 5 12),Aa 27 30] (Ae 27 .skip (Ar [oP 31 (Aj 5 17),Aa 27 31]))))))) (Ae 27 (Ab [oP 4 (.mv (cI 4))] .ret) (Ab [oP 33 (Aj 5 22),Aa 32 33] (Ae 32 (Ab [oP 4 (.mv (cI 6))] .ret) (Ab [oP 35 (Aj 5 23),Aa 34 35] (Ae 34 (Ab [Aa 36 1,oP 37 (.call 75 [(.t 36)]),Aa 4 37] .ret) .skip)))))))))))))))) (Ab [oP 4 (.mv (cI (-1)))] .ret)))⟩
def tr48:trF Tryz.prog Tryz.f48=some af48:=by kernel_rfl
attribute [go_sem] af48
def af49:AF:=⟨87,[(.t 2)],(Ab [oP 1 (.box (.t 0)),oP 2 (.mv (cB false))] (.seq (Ab [oP 3 (Ac 0 1),oP 4 (Ad 3)] (.blk 0 (.seq (Ab [oP 6 (Aj 4 1),Aa 5 6] (Ae 5 .skip (Ab [oP 7 (Aj 4 10),Aa 5 7] (Ae 5 .skip (Ab [oP 8 (Aj 4 11),Aa 5 8] (Ae 5 .skip (Ar [oP 9 (Aj 4 12),Aa 5 9]))))))) (Ae 5 (Ab [oP 10 (Ac 1 1),oP 11 (Ad 10),oP 12 (.call 76 [(.t 11)]),Aa 13 12,oG 14 13 true 0 (Ac 2 1),oG 15 13 true 0 (Ad 14),oG 16 13 true 0 (Aj 15 0),oP 17 (Az 13 16),Aa 18 17,oG 19 18 true 0 (Ac 3 1),oG 20 18 true 0 (Ad 19),oG 21 18 true 0 (Aj 20 0),oP 22 (Az 18 21),Aa 2 22] .ret) (Ab [oP 24 (Aj 4 2),Aa 23 24] (Ae 23 (Ab [oP 25 (Ac 1 1),oP 26 (Ad 25),oP 27 (An .geq 26 0),Aa 28 27,oG 29 28 true 0 (Ac 1 1),oG 30 28 true 0 (Ad 29),oG 31 28 true 0 (An .leq 30 2147483647),oP 32 (Az 28 31),Aa 33 32,oG 34 33 true 0 (Ac 2 1),oG 35 33 true 0 (Ad 34),oG 36 33 true 0 (Aj 35 0),oP 37 (Az 33 36),Aa 38 37,oG 39 38 true 0 (Ac 3 1),oG 40 38 true 0 (Ad 39),oG 41 38 true 0 (Aj 40 0),oP 42 (Az 38 41),Aa 2 42] .ret) (.seq (Ab [oP 44 (Aj 4 3),Aa 43 44] (Ae 43 .skip (Ab [oP 45 (Aj 4 4),Aa 43 45] (Ae 43 .skip (Ab [oP 46 (Aj 4 5),Aa 43 46] (Ae 43 .skip (Ab [oP 47 (Aj 4 6),Aa 43 47] (Ae 43 .skip (Ab [oP 48 (Aj 4 7),Aa 43 48] (Ae 43 .skip (Ab [oP 49 (Aj 4 8),Aa 43 49] (Ae 43 .skip (Ar [oP 50 (Aj 4 9),Aa 43 50]))))))))))))) (Ae 43 (Ab [oP 51 (Ac 1 1),oP 52 (Ad 51),oP 53 (.call 76 [(.t 52)]),Aa 54 53,oG 55 54 true 0 (Ac 2 1),oG 56 54 true 0 (Ad 55),oG 57 54 true 0 (.call 76 [(.t 56)]),oP 58 (Az 54 57),Aa 59 58,oG 60 59 true 0 (Ac 3 1),oG 61 59 true 0 (Ad 60),oG 62 59 true 0 (Aj 61 0),oP 63 (Az 59 62),Aa 2 63] .ret) (Ab [oP 65 (Aj 4 23),Aa 64 65] (Ae 64 (Ab [oP 66 (Ac 1 1),oP 67 (Ad 66),oP 68 (.call 76 [(.t 67)]),Aa 69 68,oG 70 69 true 0 (Ac 2 1),oG 71 69 true 0 (Ad 70),oG 72 69 true 0 (.call 76 [(.t 71)]),oP 73 (Az 69 72),Aa 2 73] .ret) .skip)))))))))) (Ab [oP 74 (Ac 1 1),oP 75 (Ad 74),oP 76 (Aj 75 0),Aa 77 76,oG 78 77 true 0 (Ac 2 1),oG 79 77 true 0 (Ad 78),oG 80 77 true 0 (Aj 79 0),oP 81 (Az 77 80),Aa 82 81,oG 83 82 true 0 (Ac 3 1),oG 84 82 true 0 (Ad 83),oG 85 82 true 0 (Aj 84 0),oP 86 (Az 82 85),Aa 2 86] .ret)))⟩
def tr49:trF Tryz.prog Tryz.f49=some af49:=by kernel_rfl
attribute [go_sem] af49
def af75:AF:=⟨30,[(.t 2)],(Ab [oP 2 (.mv (cI 0))] (.seq (Ab [Aa 3 0] (.blk 0 (.seq (Ab [oP 5 (Aj 3 3),Aa 4 5] (Ae 4 .skip (Ab [oP 6 (Aj 3 5),Aa 4 6] (Ae 4 .skip (Ab [oP 7 (Aj 3 6),Aa 4 7] (Ae 4 .skip (Ab [oP 8 (Aj 3 8),Aa 4 8] (Ae 4 .skip (Ab [oP 9 (Aj 3 10),Aa 4 9] (Ae 4 .skip (Ar [oP 10 (Aj 3 11),Aa 4 10]))))))))))) (Ae 4 (Ab [oP 2 (.mv (cI 4))] .ret) (.seq (Ab [oP 12 (Aj 3 1),Aa 11 12] (Ae 11 .skip (Ab [oP 13 (Aj 3 2),Aa 11 13] (Ae 11 .skip (Ab [oP 14 (Aj 3 7),Aa 11 14] (Ae 11 .skip (Ar [oP 15 (Aj 3 9),Aa 11 15]))))))) (Ae 11 (Ab [oP 2 (.mv (cI 5))] .ret) (.seq (Ab [oP 17 (Aj 3 4),Aa 16 17] (Ae 16 .skip (Ab [oP 18 (Aj 3 12),Aa 16 18] (Ae 16 .skip (Ab [oP 19 (Aj 3 13),Aa 16 19] (Ae 16 .skip (Ab [oP 20 (Aj 3 14),Aa 16 20] (Ae 16 .skip (Ar [oP 21 (Aj 3 21),Aa 16 21]))))))))) (Ae 16 (Ab [oP 2 (.mv (cI 6))] .ret) (.seq (Ab [oP 23 (Aj 3 15),Aa 22 23] (Ae 22 .skip (Ab [oP 24 (Aj 3 18),Aa 22 24] (Ae 22 .skip (Ab [oP 25 (Aj 3 19),Aa 22 25] (Ae 22 .skip (Ar [oP 26 (Aj 3 20),Aa 22 26]))))))) (Ae 22 (Ab [oP 2 (.mv (cI 9))] .ret) (.seq (Ab [oP 28 (Aj 3 16),Aa 27 28] (Ae 27 .skip (Ar [oP 29 (Aj 3 17),Aa 27 29]))) (Ae 27 (Ab [oP 2 (.mv (cI 12))] .ret) .skip)))))))))))) (Ab [oP 2 (.mv (cI (-1)))] .ret)))⟩
def tr75:trF Tryz.prog Tryz.f75=some af75:=by kernel_rfl
attribute [go_sem] af75
def af76:AF:=⟨9,[(.t 2)],(Ab [oP 2 (.mv (cB false))] (Ab [Aa 3 0,oP 4 (An .geq 3 0),Aa 5 4,oG 6 5 true 0 (mT 0),oG 7 5 true 0 (An .leq 6 1000),oP 8 (Az 5 7),Aa 2 8] .ret))⟩
def tr76:trF Tryz.prog Tryz.f76=some af76:=by kernel_rfl
attribute [go_sem] af76
def af28:AF:=⟨41,[(.t 2)],(Ab [oP 1 (.box (.t 0)),oP 2 (.mv (cB false))] (.seq (Ab [oP 4 (Ac 0 1),oP 5 (Ad 4),oP 6 (An .neq 5 1),Aa 7 6,oG 8 7 true 0 (Ac 0 1),oG 9 7 true 0 (Ad 8),oG 10 7 true 0 (An .neq 9 2),oP 11 (Az 7 10),Aa 12 11,oG 13 12 true 0 (Ac 0 1),oG 14 12 true 0 (Ad 13),oG 15 12 true 0 (An .lss 14 13),oG 16 12 true 0 (mT 15),oG 17 16 false 0 (Ac 0 1),oG 18 16 false 0 (Ad 17),oG 19 16 false 0 (An .gtr 18 23),oG 20 12 true 0 (Bf 16 19),oP 21 (Az 12 20),Aa 22 21,oG 23 22 false 0 (Ak 5 1),oG 24 22 false 0 (.call 44 [(.t 23)]),oG 25 22 false 0 (.un .not (.t 24)),oP 26 (Bf 22 25)] (Ae 26 (Ab [oP 2 (.mv (cB false))] .ret) .skip)) (.seq (Ab [oP 3 (.mv (cI 0))] (.blk 0 (.loop (.seq (Ab [Aa 27 3,oP 28 (Ac 4 1),oP 29 (Ad 28),oP 30 (.len false (.t 29)),oP 31 (Bb .lss 27 30)] (Cu 31 0)) (.seq (.blk 1 (Ab [oP 34 (Ac 4 1),oP 35 (Ad 34),Aa 36 3,oP 37 (.iad 5 (.t 35) (.t 36)),oP 38 (Ak 5 37),oP 39 (.call 28 [(.t 38)]),oP 40 (.un .not (.t 39))] (Ae 40 (Ab [oP 2 (.mv (cB false))] .ret) .skip))) (Ar [Aa 32 3,oP 33 (An .add 32 1),Aa 3 33])))))) (Ab [oP 2 (.mv (cB true))] .ret))))⟩
def tr28:trF Tryz.prog Tryz.f28=some af28:=by kernel_rfl
attribute [go_sem] af28
def af44:AF:=⟨16,[(.t 2)],(Ab [oP 1 (.box (.t 0)),oP 2 (.mv (cB false))] (Ce [oP 3 (Ac 4 1),⟨(some 4),(Ad 3),none,1,true,[]⟩,oI 5 2 (.len false (.t 4)),oI 6 3 (Ac 0 1),oI 7 4 (Ad 6),oI 8 5 (Ac 3 1),oI 9 6 (Ad 8),⟨(some 10),(.call 71 [(.t 7),(.t 9)]),none,7,false,[1]⟩,oI 11 8 (Bb .eql 5 10),oI 12 9 (mT 11),oG 13 12 true 10 (Ak 5 1),oG 14 12 true 11 (.call 72 [(.t 13)]),oI 15 12 (Az 12 14),oI 2 13 (mT 15)] .ret))⟩
def tr44:trF Tryz.prog Tryz.f44=some af44:=by kernel_rfl
attribute [go_sem] af44
def af71:AF:=⟨51,[(.t 4)],(Ab [oP 4 (.mv (cI 0))] (.seq (Ab [Aa 6 0] (.blk 0 (.seq (Ab [oP 8 (Aj 6 1),Aa 7 8] (Ae 7 .skip (Ar [oP 9 (Aj 6 2),Aa 7 9]))) (Ae 7 (Ab [oP 4 (.mv (cI 0))] .ret) (.seq (Ab [oP 11 (Aj 6 18),Aa 10 11] (Ae 10 .skip (Ar [oP 12 (Aj 6 19),Aa 10 12]))) (Ae 10 (Ab [oP 4 (.mv (cI 1))] .ret) (.seq (Ab [oP 14 (Aj 6 3),Aa 13 14] (Ae 13 .skip (Ab [oP 15 (Aj 6 6),Aa 13 15] (Ae 13 .skip (Ab [oP 16 (Aj 6 13),Aa 13 16] (Ae 13 .skip (Ab [oP 17 (Aj 6 14),Aa 13 17] (Ae 13 .skip (Ab [oP 18 (Aj 6 15),Aa 13 18] (Ae 13 .skip (Ab [oP 19 (Aj 6 16),Aa 13 19] (Ae 13 .skip (Ab [oP 20 (Aj 6 21),Aa 13 20] (Ae 13 .skip (Ar [oP 21 (Aj 6 11),Aa 13 21]))))))))))))))) (Ae 13 (Ab [oP 4 (.mv (cI 2))] .ret) (.seq (Ab [oP 23 (Aj 6 4),Aa 22 23] (Ae 22 .skip (Ab [oP 24 (Aj 6 8),Aa 22 24] (Ae 22 .skip (Ab [oP 25 (Aj 6 9),Aa 22 25] (Ae 22 .skip (Ab [oP 26 (Aj 6 10),Aa 22 26] (Ae 22 .skip (Ar [oP 27 (Aj 6 20),Aa 22 27]))))))))) (Ae 22 (Ab [oP 4 (.mv (cI 3))] .ret) (.seq (Ab [oP 29 (Aj 6 5),Aa 28 29] (Ae 28 .skip (Ab [oP 30 (Aj 6 7),Aa 28 30] (Ae 28 .skip (Ab [oP 31 (Aj 6 12),Aa 28 31] (Ae 28 .skip (Ar [oP 32 (Aj 6 17),Aa 28 32]))))))) (Ae 28 (Ab [oP 4 (.mv (cI 4))] .ret) (Ab [oP 34 (Aj 6 22),Aa 33 34] (Ae 33 (Ab [oP 4 (.mv (cI 6))] .ret) (Ab [oP 36 (Aj 6 23),Aa 35 36] (Ae 35 (Ab [oP 37 (.bslice 1 [(cI 5),(cI 5),(cI 4),(cI 6),(cI 4),(cI 4),(cI 5),(cI 4),(cI 5),(cI 4),(cI 4),(cI 6),(cI 6),(cI 6),(cI 9),(cI 12),(cI 12),(cI 9),(cI 9),(cI 9),(cI 6)]),Aa 5 37] (Ab [Aa 38 1,oP 39 (An .geq 38 1),Aa 40 39,oG 41 40 true 0 (mT 1),oG 42 40 true 0 (mT 5),oG 43 40 true 0 (.len false (.t 42)),oG 44 40 true 0 (Bb .leq 41 43),oP 45 (Az 40 44)] (Ae 45 (Ab [Aa 46 5,Aa 47 1,oP 48 (An .sub 47 1),oP 49 (.iad 1 (.t 46) (.t 48)),oP 50 (Ad 49),Aa 4 50] .ret) .skip))) .skip)))))))))))))))) (Ab [oP 4 (.mv (cI (-1)))] .ret)))⟩
def tr71:trF Tryz.prog Tryz.f71=some af71:=by kernel_rfl
attribute [go_sem] af71
def af72:AF:=⟨87,[(.t 2)],(Ab [oP 1 (.box (.t 0)),oP 2 (.mv (cB false))] (.seq (Ab [oP 3 (Ac 0 1),oP 4 (Ad 3)] (.blk 0 (Ab [oP 6 (Aj 4 2),Aa 5 6] (Ae 5 (Ab [oP 7 (Ac 1 1),oP 8 (Ad 7),oP 9 (An .geq 8 0),Aa 10 9,oG 11 10 true 0 (Ac 1 1),oG 12 10 true 0 (Ad 11),oG 13 10 true 0 (An .leq 12 2147483647),oP 14 (Az 10 13),Aa 15 14,oG 16 15 true 0 (Ac 2 1),oG 17 15 true 0 (Ad 16),oG 18 15 true 0 (Aj 17 0),oP 19 (Az 15 18),Aa 20 19,oG 21 20 true 0 (Ac 3 1),oG 22 20 true 0 (Ad 21),oG 23 20 true 0 (Aj 22 0),oP 24 (Az 20 23),Aa 2 24] .ret) (.seq (Ab [oP 26 (Aj 4 3),Aa 25 26] (Ae 25 .skip (Ab [oP 27 (Aj 4 4),Aa 25 27] (Ae 25 .skip (Ab [oP 28 (Aj 4 5),Aa 25 28] (Ae 25 .skip (Ab [oP 29 (Aj 4 6),Aa 25 29] (Ae 25 .skip (Ab [oP 30 (Aj 4 7),Aa 25 30] (Ae 25 .skip (Ab [oP 31 (Aj 4 8),Aa 25 31] (Ae 25 .skip (Ar [oP 32 (Aj 4 9),Aa 25 32]))))))))))))) (Ae 25 (Ab [oP 33 (Ac 1 1),oP 34 (Ad 33),oP 35 (.call 95 [(.t 34)]),Aa 36 35,oG 37 36 true 0 (Ac 2 1),oG 38 36 true 0 (Ad 37),oG 39 36 true 0 (.call 95 [(.t 38)]),oP 40 (Az 36 39),Aa 41 40,oG 42 41 true 0 (Ac 3 1),oG 43 41 true 0 (Ad 42),oG 44 41 true 0 (Aj 43 0),oP 45 (Az 41 44),Aa 2 45] .ret) (.seq (Ab [oP 47 (Aj 4 1),Aa 46 47] (Ae 46 .skip (Ab [oP 48 (Aj 4 10),Aa 46 48] (Ae 46 .skip (Ab [oP 49 (Aj 4 11),Aa 46 49] (Ae 46 .skip (Ar [oP 50 (Aj 4 12),Aa 46 50]))))))) (Ae 46 (Ab [oP 51 (Ac 1 1),oP 52 (Ad 51),oP 53 (.call 95 [(.t 52)]),Aa 54 53,oG 55 54 true 0 (Ac 2 1),oG 56 54 true 0 (Ad 55),oG 57 54 true 0 (Aj 56 0),oP 58 (Az 54 57),Aa 59 58,oG 60 59 true 0 (Ac 3 1),oG 61 59 true 0 (Ad 60),oG 62 59 true 0 (Aj 61 0),oP 63 (Az 59 62),Aa 2 63] .ret) (Ab [oP 65 (Aj 4 23),Aa 64 65] (Ae 64 (Ab [oP 66 (Ac 1 1),oP 67 (Ad 66),oP 68 (.call 95 [(.t 67)]),Aa 69 68,oG 70 69 true 0 (Ac 2 1),oG 71 69 true 0 (Ad 70),oG 72 69 true 0 (.call 95 [(.t 71)]),oP 73 (Az 69 72),Aa 2 73] .ret) .skip)))))))))) (Ab [oP 74 (Ac 1 1),oP 75 (Ad 74),oP 76 (Aj 75 0),Aa 77 76,oG 78 77 true 0 (Ac 2 1),oG 79 77 true 0 (Ad 78),oG 80 77 true 0 (Aj 79 0),oP 81 (Az 77 80),Aa 82 81,oG 83 82 true 0 (Ac 3 1),oG 84 82 true 0 (Ad 83),oG 85 82 true 0 (Aj 84 0),oP 86 (Az 82 85),Aa 2 86] .ret)))⟩
def tr72:trF Tryz.prog Tryz.f72=some af72:=by kernel_rfl
attribute [go_sem] af72
def af95:AF:=⟨9,[(.t 2)],(Ab [oP 2 (.mv (cB false))] (Ab [Aa 3 0,oP 4 (An .geq 3 0),Aa 5 4,oG 6 5 true 0 (mT 0),oG 7 5 true 0 (An .leq 6 1000),oP 8 (Az 5 7),Aa 2 8] .ret))⟩
def tr95:trF Tryz.prog Tryz.f95=some af95:=by kernel_rfl
attribute [go_sem] af95
def af57:AF:=⟨74,[(.cell 6 true 5),(.t 7)],(Ab [oP 3 (.box (.t 0)),oP 6 Cb,oP 7 (.mv (cB false))] (.seq (Ab [oP 13 (Ac 0 3),oP 14 (Ad 13),oP 15 (Aj 14 2),Aa 16 15,oG 17 16 true 0 (Ac 1 3),oG 18 16 true 0 (Ad 17),oG 19 16 true 0 (mT 2),oG 20 16 true 0 (Bb .geq 18 19),oP 21 (Az 16 20)] (Ae 21 (.seq (Ab [Aa 22 1,oP 23 (Ac 1 3),oP 24 (Ad 23),oP 25 (.bin 0 .sub (cI 2147483647) (.t 24)),oP 26 (Bb .gtr 22 25)] (Ae 26 (Ab [oP 27 (Da []),oN (Al 5 6 27),oP 7 (.mv (cB false))] .ret) .skip)) (Ar [oP 28 (Ac 1 3),oP 29 (Ad 28),Aa 30 1,oP 31 (Bb .add 29 30),oP 32 (Ac 1 3),oN (Al 1 32 31)])) .skip)) (.seq (Ab [oP 33 (Ac 4 3),oP 34 (Ad 33),oP 35 (.len false (.t 34)),oP 36 (Aj 35 0)] (Ae 36 (Ab [oP 37 (Ac 4 3),oN (.store 1 (.t 37) (.c .nils))] (Ab [oP 38 (Ak 5 3),oN (Al 5 6 38),oP 7 (.mv (cB true))] .ret)) .skip)) (Ab [oP 39 (Ac 4 3),oP 40 (Ad 39),oP 41 (.len false (.t 40)),oP 42 (.mk 5 56 [(iS 0),(iS 0),(iS 0),(iS 0),.nils] (.t 41) (.t 41)),Aa 8 42] (.seq (Ab [oP 43 (Ac 4 3),oP 44 (Ad 43),oP 45 (.len false (.t 44)),oP 46 (.mv (cI 0))] (.blk 0 (.loop (Ab [oP 47 (Bb .lss 46 45)] (.seq (Cu 47 0) (.seq (.blk 1 (Ab [Aa 48 46,oP 49 (.iad 5 (.t 44) (.t 46)),oP 50 (Ak 5 49),oP 10 Cb,Aa 9 48,oN (Al 5 10 50)] (Ce [⟨(some 52),(Ak 5 10),none,0,true,[]⟩,oI 53 1 (mT 1),oI 54 2 (mT 2),oI 55 3 (Ac 0 3),⟨(some 56),(Ad 55),none,4,true,[]⟩,oI 57 5 (mT 9),⟨(some 58),(.call 55 [(.t 56),(.t 57)]),none,6,true,[0]⟩,oI 59 7 (Bb .add 54 58),⟨(some 60),(.call 57 [(.t 52),(.t 53),(.t 59)]),none,8,true,[]⟩,oI 51 9 (mT 60),oI 61 10 (.ext (.t 51) 0),oI 62 11 (.ext (.t 51) 1),⟨(some 11),Cb,none,12,false,[0,4,6,8]⟩,oJ 13 (Al 5 11 61),oI 12 14 (mT 62)] (.seq (Ab [Aa 63 12,oP 64 (.un .not (.t 63))] (Ae 64 (Ab [oP 65 (Da []),oN (Al 5 6 65),oP 7 (.mv (cB false))] .ret) .skip)) (Ar [Aa 66 8,Aa 67 9,oP 68 (Ak 5 11),oP 69 (.iad 5 (.t 66) (.t 67)),oN (Al 5 69 68)]))))) (Ar [oP 70 (An .add 46 1),Aa 46 70]))))))) (Ab [Aa 71 8,oP 72 (Ac 4 3),oN (Al 1 72 71)] (Ab [oP 73 (Ak 5 3),oN (Al 5 6 73),oP 7 (.mv (cB true))] .ret)))))))⟩
def tr57:trF Tryz.prog Tryz.f57=some af57:=by kernel_rfl
attribute [go_sem] af57
def af55:AF:=⟨31,[(.t 4)],(Ab [oP 4 (.mv (cI 0))] (.seq (Ab [Aa 5 0] (.blk 0 (.seq (Ab [oP 7 (Aj 5 3),Aa 6 7] (Ae 6 .skip (Ab [oP 8 (Aj 5 5),Aa 6 8] (Ae 6 .skip (Ab [oP 9 (Aj 5 6),Aa 6 9] (Ae 6 .skip (Ab [oP 10 (Aj 5 7),Aa 6 10] (Ae 6 .skip (Ab [oP 11 (Aj 5 8),Aa 6 11] (Ae 6 .skip (Ab [oP 12 (Aj 5 9),Aa 6 12] (Ae 6 .skip (Ab [oP 13 (Aj 5 13),Aa 6 13] (Ae 6 .skip (Ab [oP 14 (Aj 5 14),Aa 6 14] (Ae 6 .skip (Ab [oP 15 (Aj 5 16),Aa 6 15] (Ae 6 .skip (Ar [oP 16 (Aj 5 17),Aa 6 16]))))))))))))))))))) (Ae 6 (Ab [Aa 17 1,oP 18 (Aj 17 1)] (Ae 18 (Ab [oP 4 (.mv (cI 1))] .ret) .skip)) (Ab [oP 20 (Aj 5 4),Aa 19 20] (Ae 19 (Ab [Aa 21 1,oP 22 (Aj 21 1),Aa 23 22,oG 24 23 false 0 (mT 1),oG 25 23 false 0 (Aj 24 2),oP 26 (Bf 23 25)] (Ae 26 (Ab [oP 4 (.mv (cI 1))] .ret) .skip)) (Ab [oP 28 (Aj 5 22),Aa 27 28] (Ae 27 (Ab [Aa 29 1,oP 30 (Aj 29 2)] (Ae 30 (Ab [oP 4 (.mv (cI 2))] .ret) .skip)) .skip)))))))) (Ab [oP 4 (.mv (cI 0))] .ret)))⟩
def tr55:trF Tryz.prog Tryz.f55=some af55:=by kernel_rfl
attribute [go_sem] af55
def af29:AF:=⟨8,[(.t 2)],(Ab [oP 1 (.box (.t 0)),oP 2 (.mv (cI 0))] (.seq (Ab [oP 3 (Ak 5 1),oP 4 (.call 45 [(.t 3)]),oP 5 (.un .not (.t 4))] (Ae 5 (Ab [oP 2 (.mv (cI 0))] .ret) .skip)) (Ab [oP 6 (Ak 5 1),oP 7 (.call 46 [(.t 6)]),Aa 2 7] .ret)))⟩
def tr29:trF Tryz.prog Tryz.f29=some af29:=by kernel_rfl
attribute [go_sem] af29
def a36_21:AC:=.seq (Ab [Aa 7 0,oP 8 (Ah 7),oP 9 (Ac 1 8),oP 10 (Ad 9),oP 11 (.un .not (.t 10))] (Cu 11 0)) (.blk 1 (Ab [oP 13 (Ak 5 3),oP 14 (.call 60 [(.t 13)]),Aa 12 14,oP 15 (.ext (.t 12) 0),oP 16 (.ext (.t 12) 1),oP 5 Cb,oN (Al 5 5 15),Aa 6 16] (.seq (Ab [Aa 17 6,oP 18 (.un .not (.t 17))] (Ae 18 (Ab [oP 19 (Ak 5 3),oN (Al 5 4 19)] .ret) .skip)) (Ab [Aa 20 0,oP 21 (Ah 20),oP 22 (Ac 0 21),oP 23 (Ad 22),oP 24 (An .add 23 1),oP 25 (Ah 20),oP 26 (Ac 0 25),oN (Al 1 26 24)] (.seq (Ab [Aa 27 0,oP 28 (Ah 27),oP 29 (Ac 0 28),oP 30 (Ad 29),oP 31 (An .gtr 30 4000),Aa 32 31,oG 33 32 false 0 (Ak 5 5),oG 34 32 false 0 (.call 61 [(.t 33),(cI 4000)]),oG 35 32 false 0 (An .gtr 34 4000),oP 36 (Bf 32 35)] (Ae 36 (Ar [Aa 37 0,oP 38 (Ah 37),oP 39 (Ac 1 38),oN (.store 1 (.t 39) (cB true))]) .skip)) (Ar [oP 40 (Ak 5 5),oN (Al 5 3 40)]))))))
def a36_25:AC:=Ab [oP 41 (Ak 5 3),oN (Al 5 4 41)] .ret
def af36:AF:=⟨42,[(.cell 4 true 5)],(Ab [oP 3 (.box (.t 1)),oP 4 Cb] (.seq (.blk 0 (.loop a36_21)) a36_25))⟩
def tr36:trF Tryz.prog Tryz.f36=some af36:=by kernel_rfl
attribute [go_sem] af36 a36_21 a36_25
def a23_12:AC:=.seq (Ab [Aa 20 7,oP 21 (Ac 4 3),oP 22 (Ad 21),oP 23 (.len false (.t 22)),oP 24 (Bb .lss 20 23),Aa 25 24,oG 26 25 true 0 (mT 0),oG 27 25 true 0 (Ah 26),oG 28 25 true 0 (Ac 1 27),oG 29 25 true 0 (Ad 28),oG 30 25 true 0 (.un .not (.t 29)),oP 31 (Az 25 30)] (Cu 31 0)) (.seq (.blk 1 (Ar [Aa 34 6,Aa 35 0,oP 36 (Ac 4 3),oP 37 (Ad 36),Aa 38 7,oP 39 (.iad 5 (.t 37) (.t 38)),oP 40 (Ak 5 39),oP 41 (.hcall 23 [(.t 35),(.t 40)]),oP 42 (.bslice 5 [(.t 41)]),oP 43 (.app 5 56 (.t 34) (.t 42)),Aa 6 43])) (Ar [Aa 32 7,oP 33 (An .add 32 1),Aa 7 33]))
def a23_19:AC:=Ab [Aa 44 6,oP 45 (Ac 4 5),oN (Al 1 45 44)] (Ab [oP 46 (Ak 5 5),oN (Al 5 4 46)] .ret)
def af23:AF:=⟨47,[(.cell 4 true 5)],(Ab [oP 3 (.box (.t 1)),oP 4 Cb] (Ab [Aa 8 0,oP 9 (Ak 5 3),oP 10 (.hcall 36 [(.t 8),(.t 9)]),oN (Al 5 3 10)] (Ab [oP 11 (Ac 0 3),oP 12 (Ad 11),oP 13 (Ac 1 3),oP 14 (Ad 13),oP 15 (Ac 2 3),oP 16 (Ad 15),oP 17 (Ac 3 3),oP 18 (Ad 17),oP 19 (Da [(0,(1,(.t 12))),(1,(1,(.t 14))),(2,(1,(.t 16))),(3,(1,(.t 18)))]),oP 5 Cb,oN (Al 5 5 19)] (Ab [oP 6 (.mv (.c .nils))] (.seq (Ab [oP 7 (.mv (cI 0))] (.blk 0 (.loop a23_12))) a23_19)))))⟩
def tr23:trF Tryz.prog Tryz.f23=some af23:=by kernel_rfl
attribute [go_sem] af23 a23_12 a23_19
def af45:AF:=⟨9,[(.t 2)],(Ab [oP 1 (.box (.t 0)),oP 2 (.mv (cB false))] (Ab [oP 3 (Ak 5 1),oP 4 (.call 73 [(.t 3)]),Aa 5 4,oG 6 5 false 0 (Ak 5 1),oG 7 5 false 0 (.call 28 [(.t 6)]),oP 8 (Bf 5 7),Aa 2 8] .ret))⟩
def tr45:trF Tryz.prog Tryz.f45=some af45:=by kernel_rfl
attribute [go_sem] af45
def af46:AF:=⟨32,[(.t 2)],(Ab [oP 1 (.box (.t 0)),oP 2 (.mv (cI 0))] (.seq (Ab [oP 5 (Ac 0 1),oP 6 (Ad 5),oP 7 (Aj 6 2)] (Ae 7 (Ab [oP 8 (Ac 1 1),oP 9 (Ad 8),oP 10 (An .add 9 1),Aa 2 10] .ret) .skip)) (Ab [oP 3 (.mv (cI 0))] (.seq (Ab [oP 4 (.mv (cI 0))] (.blk 0 (.loop (.seq (Ab [Aa 11 4,oP 12 (Ac 4 1),oP 13 (Ad 12),oP 14 (.len false (.t 13)),oP 15 (Bb .lss 11 14)] (Cu 15 0)) (.seq (.blk 1 (.reg [Aa 18 3,oI 19 1 (Ac 4 1),oI 20 2 (Ad 19),oI 21 3 (mT 4),oI 22 4 (.iad 5 (.t 20) (.t 21)),oI 23 5 (Ak 5 22),⟨(some 24),(.call 46 [(.t 23)]),none,6,true,[]⟩,oI 25 7 (Ac 0 1),⟨(some 26),(Ad 25),none,8,false,[6]⟩,oI 27 9 (mT 4),oI 28 10 (.call 74 [(.t 26),(.t 27)]),oI 29 11 (Bb .sub 24 28),oI 30 12 (.mnx true (.t 18) (.t 29)),oI 3 13 (mT 30)] true)) (Ar [Aa 16 4,oP 17 (An .add 16 1),Aa 4 17])))))) (Ab [Aa 31 3,Aa 2 31] .ret)))))⟩
def tr46:trF Tryz.prog Tryz.f46=some af46:=by kernel_rfl
attribute [go_sem] af46
def af60:AF:=⟨39,[(.cell 2 true 5),(.t 3)],(Ab [oP 1 (.box (.t 0)),oP 2 Cb,oP 3 (.mv (cB false))] (Ab [oP 8 (Ak 5 1),oP 9 (.call 25 [(.t 8)]),Aa 7 9,oP 10 (.ext (.t 7) 0),oP 11 (.ext (.t 7) 1),oP 4 Cb,oN (Al 5 4 10),Aa 5 11] (.seq (Ab [Aa 12 5] (Ae 12 (Ab [oP 13 (Ak 5 4),oN (Al 5 2 13),oP 3 (.mv (cB true))] .ret) .skip)) (Ab [oP 6 (.mv (cI 0))] (.seq (Ab [oP 14 (Ac 0 1),oP 15 (Ad 14)] (.blk 0 (.seq (Ab [oP 18 (Aj 15 15),Aa 17 18] (Ae 17 .skip (Ab [oP 19 (Aj 15 18),Aa 17 19] (Ae 17 .skip (Ar [oP 20 (Aj 15 19),Aa 17 20]))))) (Ae 17 .skip (Ab [oP 22 (Aj 15 22),Aa 21 22] (Ae 21 (Ar [oP 6 (.mv (cI 5))]) (Ab [oP 16 (Ak 5 1),oN (Al 5 2 16),oP 3 (.mv (cB false))] .ret))))))) (Ab [oP 24 (Ac 4 1),oP 25 (Ad 24),Aa 26 6,oP 27 (.iad 5 (.t 25) (.t 26)),oP 28 (Ak 5 27),oP 29 (.call 60 [(.t 28)]),Aa 23 29,oP 30 (.ext (.t 23) 0),oP 31 (.ext (.t 23) 1),oN (Al 5 4 30),Aa 5 31] (.seq (Ab [Aa 32 5,oP 33 (.un .not (.t 32))] (Ae 33 (Ab [oP 34 (Ak 5 1),oN (Al 5 2 34),oP 3 (.mv (cB false))] .ret) .skip)) (Ab [oP 35 (Ak 5 1),Aa 36 6,oP 37 (Ak 5 4),oP 38 (.call 26 [(.t 35),(.t 36),(.t 37)]),oN (Al 5 2 38),oP 3 (.mv (cB true))] .ret))))))))⟩
def tr60:trF Tryz.prog Tryz.f60=some af60:=by kernel_rfl
attribute [go_sem] af60
def af61:AF:=⟨31,[(.t 4)],(Ab [oP 2 (.box (.t 0)),oP 4 (.mv (cI 0))] (Ab [oP 5 (.mv (cI 1))] (.seq (Ab [oP 6 (.mv (cI 0))] (.blk 0 (.loop (.seq (Ab [Aa 7 6,oP 8 (Ac 4 2),oP 9 (Ad 8),oP 10 (.len false (.t 9)),oP 11 (Bb .lss 7 10),Aa 12 11,oG 13 12 true 0 (mT 5),oG 14 12 true 0 (mT 1),oG 15 12 true 0 (Bb .leq 13 14),oP 16 (Az 12 15)] (Cu 16 0)) (.seq (.blk 1 (Ar [Aa 19 5,oP 20 (Ac 4 2),oP 21 (Ad 20),Aa 22 6,oP 23 (.iad 5 (.t 21) (.t 22)),oP 24 (Ak 5 23),Aa 25 1,Aa 26 5,oP 27 (Bb .sub 25 26),oP 28 (.call 61 [(.t 24),(.t 27)]),oP 29 (Bb .add 19 28),Aa 5 29])) (Ar [Aa 17 6,oP 18 (An .add 17 1),Aa 6 18])))))) (Ab [Aa 30 5,Aa 4 30] .ret))))⟩
def tr61:trF Tryz.prog Tryz.f61=some af61:=by kernel_rfl
attribute [go_sem] af61
def af25:AF:=⟨93,[(.cell 2 true 5),(.t 3)],(Ab [oP 1 (.box (.t 0)),oP 2 Cb,oP 3 (.mv (cB false))] (.seq (Ab [oP 6 (Ac 0 1),oP 7 (Ad 6)] (.blk 0 (Ab [oP 9 (Aj 7 15),Aa 8 9] (Ae 8 (Ab [oP 10 (Ac 4 1),oP 11 (Ad 10),oP 12 (.iad 5 (.t 11) (cI 0)),oP 13 (Ac 0 12),oP 14 (Ad 13),oP 15 (Aj 14 14)] (Ae 15 (Ce [oP 16 (Ac 4 1),oI 17 1 (Ad 16),oI 18 2 (.iad 5 (.t 17) (cI 0)),oI 19 3 (Ac 4 18),oI 20 4 (Ad 19),oI 21 5 (.iad 5 (.t 20) (cI 1)),oI 22 6 (Ak 5 21),oI 23 7 (Ac 4 1),oI 24 8 (Ad 23),oI 25 9 (.iad 5 (.t 24) (cI 1)),oI 26 10 (Ak 5 25),oI 27 11 (.call 40 [(.t 22),(.t 26)]),oJ 12 (Al 5 2 27),oI 3 13 (.mv (cB true))] .ret) .skip)) (Ab [oP 29 (Aj 7 18),Aa 28 29] (Ae 28 (Ab [oP 30 (Ac 4 1),oP 31 (Ad 30),oP 32 (.iad 5 (.t 31) (cI 0)),oP 33 (Ac 0 32),oP 34 (Ad 33),oP 35 (Aj 34 17)] (Ae 35 (Ab [oP 36 (Ac 4 1),oP 37 (Ad 36),oP 38 (.iad 5 (.t 37) (cI 0)),oP 39 (Ac 4 38),oP 40 (Ad 39),oP 41 (.iad 5 (.t 40) (cI 2)),oP 42 (Ak 5 41),oN (Al 5 2 42),oP 3 (.mv (cB true))] .ret) .skip)) (Ab [oP 44 (Aj 7 19),Aa 43 44] (Ae 43 (Ab [oP 45 (Ac 4 1),oP 46 (Ad 45),oP 47 (.iad 5 (.t 46) (cI 0)),oP 48 (Ac 0 47),oP 49 (Ad 48),oP 50 (Aj 49 17)] (Ae 50 (Ab [oP 51 (Ac 4 1),oP 52 (Ad 51),oP 53 (.iad 5 (.t 52) (cI 0)),oP 54 (Ac 4 53),oP 55 (Ad 54),oP 56 (.iad 5 (.t 55) (cI 3)),oP 57 (Ak 5 56),oN (Al 5 2 57),oP 3 (.mv (cB true))] .ret) .skip)) (Ab [oP 59 (Aj 7 22),Aa 58 59] (Ae 58 (Ab [oP 60 (Ac 4 1),oP 61 (Ad 60),oP 62 (.iad 5 (.t 61) (cI 5)),oP 63 (Ac 0 62),oP 64 (Ad 63),oP 65 (Aj 64 21)] (Ae 65 (Ab [oP 66 (Ac 4 1),oP 67 (Ad 66),oP 68 (.iad 5 (.t 67) (cI 3)),oP 69 (Ak 5 68),oN (Al 5 2 69),oP 3 (.mv (cB true))] .ret) .skip)) (Ab [oP 71 (Aj 7 23),Aa 70 71] (Ae 70 (Ab [oP 73 (Ac 3 1),oP 74 (Ad 73),oP 75 (Ac 1 1),oP 76 (Ad 75),oP 77 (Ac 2 1),oP 78 (Ad 77),oP 79 (.call 41 [(.t 74),(.t 76),(.t 78)]),Aa 72 79,oP 80 (.ext (.t 72) 0),oP 81 (.ext (.t 72) 1),oP 4 (.new [(.str (bs [])),.nils,(iS 0),(iS 0),(iS 0),(iS 0),.nils,(iS 0),(iS 0),(iS 0),(iS 0),.nils,(.bool false)]),oN (Al 13 4 80),Aa 5 81] (Ab [Aa 82 5,Aa 83 82,oG 84 83 true 0 (Ac 12 4),oG 85 83 true 0 (Ad 84),oP 86 (Az 83 85)] (Ae 86 (Ab [oP 87 (Ac 7 4),oP 88 (Ak 5 87),oP 89 (Ac 4 1),oP 90 (Ad 89),oP 91 (.call 42 [(.t 88),(.t 90)]),oN (Al 5 2 91),oP 3 (.mv (cB true))] .ret) .skip))) .skip)))))))))))) (Ab [oP 92 (Ak 5 1),oN (Al 5 2 92),oP 3 (.mv (cB false))] .ret)))⟩
def tr25:trF Tryz.prog Tryz.f25=some af25:=by kernel_rfl
attribute [go_sem] af25
def af26:AF:=⟨44,[(.cell 6 true 5)],(Ab [oP 3 (.box (.t 0)),oP 5 (.box (.t 2)),oP 6 Cb] (Ab [oP 10 (Ac 0 3),oP 11 (Ad 10),oP 12 (Ac 1 3),oP 13 (Ad 12),oP 14 (Ac 2 3),oP 15 (Ad 14),oP 16 (Ac 3 3),oP 17 (Ad 16),oP 18 (Da [(0,(1,(.t 11))),(1,(1,(.t 13))),(2,(1,(.t 15))),(3,(1,(.t 17)))]),oP 7 Cb,oN (Al 5 7 18)] (Ab [oP 8 (.mv (.c .nils))] (.seq (Ab [oP 9 (.mv (cI 0))] (.blk 0 (.loop (.seq (Ab [Aa 19 9,oP 20 (Ac 4 3),oP 21 (Ad 20),oP 22 (.len false (.t 21)),oP 23 (Bb .lss 19 22)] (Cu 23 0)) (.seq (.blk 1 (Ab [Aa 26 9,Aa 27 1,oP 28 (Bb .eql 26 27)] (Ae 28 (Ar [Aa 29 8,oP 30 (Ak 5 5),oP 31 (.bslice 5 [(.t 30)]),oP 32 (.app 5 56 (.t 29) (.t 31)),Aa 8 32]) (Ar [Aa 33 8,oP 34 (Ac 4 3),oP 35 (Ad 34),Aa 36 9,oP 37 (.iad 5 (.t 35) (.t 36)),oP 38 (Ak 5 37),oP 39 (.bslice 5 [(.t 38)]),oP 40 (.app 5 56 (.t 33) (.t 39)),Aa 8 40])))) (Ar [Aa 24 9,oP 25 (An .add 24 1),Aa 9 25])))))) (Ab [Aa 41 8,oP 42 (Ac 4 7),oN (Al 1 42 41)] (Ab [oP 43 (Ak 5 7),oN (Al 5 6 43)] .ret))))))⟩
def tr26:trF Tryz.prog Tryz.f26=some af26:=by kernel_rfl
attribute [go_sem] af26
def af73:AF:=⟨45,[(.t 2)],(Ab [oP 1 (.box (.t 0)),oP 2 (.mv (cB false))] (.seq (Ab [oP 4 (Ac 0 1),oP 5 (Ad 4),oP 6 (An .lss 5 1),Aa 7 6,oG 8 7 false 0 (Ac 0 1),oG 9 7 false 0 (Ad 8),oG 10 7 false 0 (An .gtr 9 12),oP 11 (Bf 7 10),Aa 12 11,oG 13 12 false 0 (Ak 5 1),oG 14 12 false 0 (.call 44 [(.t 13)]),oG 15 12 false 0 (.un .not (.t 14)),oP 16 (Bf 12 15)] (Ae 16 (Ab [oP 2 (.mv (cB false))] .ret) .skip)) (.seq (Ab [oP 3 (.mv (cI 0))] (.blk 0 (.loop (.seq (Ab [Aa 17 3,oP 18 (Ac 4 1),oP 19 (Ad 18),oP 20 (.len false (.t 19)),oP 21 (Bb .lss 17 20)] (Cu 21 0)) (.seq (.blk 1 (Ab [oP 24 (Ac 0 1),oP 25 (Ad 24),oP 26 (Aj 25 12),Aa 27 26,oG 28 27 true 0 (mT 3),oG 29 27 true 0 (Aj 28 2),oP 30 (Az 27 29)] (Ae 30 (Ab [oP 31 (Ac 4 1),oP 32 (Ad 31),Aa 33 3,oP 34 (.iad 5 (.t 32) (.t 33)),oP 35 (Ak 5 34),oP 36 (.call 28 [(.t 35)]),oP 37 (.un .not (.t 36))] (Ae 37 (Ab [oP 2 (.mv (cB false))] .ret) .skip)) (Ab [oP 38 (Ac 4 1),oP 39 (Ad 38),Aa 40 3,oP 41 (.iad 5 (.t 39) (.t 40)),oP 42 (Ak 5 41),oP 43 (.call 73 [(.t 42)]),oP 44 (.un .not (.t 43))] (Ae 44 (Ab [oP 2 (.mv (cB false))] .ret) .skip))))) (Ar [Aa 22 3,oP 23 (An .add 22 1),Aa 3 23])))))) (Ab [oP 2 (.mv (cB true))] .ret))))⟩
def tr73:trF Tryz.prog Tryz.f73=some af73:=by kernel_rfl
attribute [go_sem] af73
def af74:AF:=⟨31,[(.t 4)],(Ab [oP 4 (.mv (cI 0))] (.seq (Ab [Aa 5 0] (.blk 0 (.seq (Ab [oP 7 (Aj 5 3),Aa 6 7] (Ae 6 .skip (Ab [oP 8 (Aj 5 5),Aa 6 8] (Ae 6 .skip (Ab [oP 9 (Aj 5 6),Aa 6 9] (Ae 6 .skip (Ab [oP 10 (Aj 5 7),Aa 6 10] (Ae 6 .skip (Ab [oP 11 (Aj 5 8),Aa 6 11] (Ae 6 .skip (Ab [oP 12 (Aj 5 9),Aa 6 12] (Ae 6 .skip (Ab [oP 13 (Aj 5 13),Aa 6 13] (Ae 6 .skip (Ab [oP 14 (Aj 5 14),Aa 6 14] (Ae 6 .skip (Ab [oP 15 (Aj 5 16),Aa 6 15] (Ae 6 .skip (Ar [oP 16 (Aj 5 17),Aa 6 16]))))))))))))))))))) (Ae 6 (Ab [Aa 17 1,oP 18 (Aj 17 1)] (Ae 18 (Ab [oP 4 (.mv (cI 1))] .ret) .skip)) (Ab [oP 20 (Aj 5 4),Aa 19 20] (Ae 19 (Ab [Aa 21 1,oP 22 (Aj 21 1),Aa 23 22,oG 24 23 false 0 (mT 1),oG 25 23 false 0 (Aj 24 2),oP 26 (Bf 23 25)] (Ae 26 (Ab [oP 4 (.mv (cI 1))] .ret) .skip)) (Ab [oP 28 (Aj 5 22),Aa 27 28] (Ae 27 (Ab [Aa 29 1,oP 30 (Aj 29 2)] (Ae 30 (Ab [oP 4 (.mv (cI 2))] .ret) .skip)) .skip)))))))) (Ab [oP 4 (.mv (cI 0))] .ret)))⟩
def tr74:trF Tryz.prog Tryz.f74=some af74:=by kernel_rfl
attribute [go_sem] af74
def af40:AF:=⟨8,[(.cell 4 true 5)],(Ab [oP 2 (.box (.t 0)),oP 3 (.box (.t 1)),oP 4 Cb] (Ab [oP 5 (Ak 5 2),oP 6 (Ak 5 3),oP 7 (.call 63 [(.t 5),(.t 6)]),oN (Al 5 4 7)] .ret))⟩
def tr40:trF Tryz.prog Tryz.f40=some af40:=by kernel_rfl
attribute [go_sem] af40
def af42:AF:=⟨30,[(.cell 4 true 5)],(Ab [oP 2 (.box (.t 0)),oP 4 Cb] (Ab [oP 5 (.mv (.c .nils))] (.seq (Ab [Aa 9 1,oP 10 (.len false (.t 9)),oP 11 (An .sub 10 1),Aa 6 11] (.blk 0 (.loop (.seq (Ab [Aa 12 6,oP 13 (An .geq 12 0)] (Cu 13 0)) (.seq (.blk 1 (Ar [Aa 16 5,Aa 17 1,Aa 18 6,oP 19 (.iad 5 (.t 17) (.t 18)),oP 20 (Ak 5 19),oP 21 (.bslice 5 [(.t 20)]),oP 22 (.app 5 56 (.t 16) (.t 21)),Aa 5 22])) (Ar [Aa 14 6,oP 15 (An .sub 14 1),Aa 6 15])))))) (Ab [oP 24 (Ak 5 2),Aa 25 5,oP 26 (.call 70 [(.t 24),(.t 25)]),Aa 23 26,oP 27 (.ext (.t 23) 0),oP 28 (.ext (.t 23) 1),oP 7 Cb,oN (Al 5 7 27),Aa 8 28] (Ab [oP 29 (Ak 5 7),oN (Al 5 4 29)] .ret)))))⟩
def tr42:trF Tryz.prog Tryz.f42=some af42:=by kernel_rfl
attribute [go_sem] af42
def af63:AF:=⟨27,[(.cell 4 true 5)],(Ab [oP 2 (.box (.t 0)),oP 3 (.box (.t 1)),oP 4 Cb] (.seq (Ab [oP 7 (Ak 5 2),oP 8 (.call 45 [(.t 7)]),oP 9 (.un .not (.t 8)),Aa 10 9,oG 11 10 false 0 (Ak 5 2),oG 12 10 false 0 (Ak 5 3),oG 13 10 false 0 (.call 85 [(.t 11),(.t 12)]),oG 14 10 false 0 (.un .not (.t 13)),oP 15 (Bf 10 14)] (Ae 15 (Ab [oP 16 (Da []),oN (Al 5 4 16)] .ret) .skip)) (Ab [oP 18 (Ak 5 2),oP 19 (Ak 5 3),oP 20 (.call 86 [(.t 18),(.t 19),(cI 0),(cB false)]),Aa 17 20,oP 21 (.ext (.t 17) 0),oP 22 (.ext (.t 17) 1),oP 5 Cb,oN (Al 5 5 21),Aa 6 22] (.seq (Ab [Aa 23 6,oP 24 (.un .not (.t 23))] (Ae 24 (Ab [oP 25 (Da []),oN (Al 5 4 25)] .ret) .skip)) (Ab [oP 26 (Ak 5 5),oN (Al 5 4 26)] .ret)))))⟩
def tr63:trF Tryz.prog Tryz.f63=some af63:=by kernel_rfl
attribute [go_sem] af63
def af70:AF:=⟨44,[(.cell 4 true 5),(.t 5)],(Ab [oP 2 (.box (.t 0)),oP 4 Cb,oP 5 (.mv (cB false))] (.seq (Ab [oP 9 (Ak 5 2),oP 10 (.call 45 [(.t 9)]),oP 11 (.un .not (.t 10)),Aa 12 11,oG 13 12 false 0 (Ak 5 2),oG 14 12 false 0 (.call 46 [(.t 13)]),oG 15 12 false 0 (mT 1),oG 16 12 false 0 (.len false (.t 15)),oG 17 12 false 0 (Bb .gtr 14 16),oP 18 (Bf 12 17)] (Ae 18 (Ab [oP 19 (Da []),oN (Al 5 4 19),oP 5 (.mv (cB false))] .ret) .skip)) (.seq (Ab [oP 6 (.mv (cI 0))] (.blk 0 (.loop (.seq (Ab [Aa 20 6,Aa 21 1,oP 22 (.len false (.t 21)),oP 23 (Bb .lss 20 22)] (Cu 23 0)) (.seq (.blk 1 (Ce [oP 26 (Ak 5 2),oI 27 1 (mT 1),oI 28 2 (mT 6),oI 29 3 (.iad 5 (.t 27) (.t 28)),oI 30 4 (Ak 5 29),oI 31 5 (.call 85 [(.t 26),(.t 30)]),oI 32 6 (.un .not (.t 31))] (Ae 32 (Ab [oP 33 (Da []),oN (Al 5 4 33),oP 5 (.mv (cB false))] .ret) .skip))) (Ar [Aa 24 6,oP 25 (An .add 24 1),Aa 6 25])))))) (Ab [oP 35 (Ak 5 2),Aa 36 1,oP 37 (.call 94 [(.t 35),(.t 36),(cI 0),(cB false)]),Aa 34 37,oP 38 (.ext (.t 34) 0),oP 39 (.ext (.t 34) 1),oP 7 Cb,oN (Al 5 7 38),Aa 8 39] (.seq (Ab [Aa 40 8,oP 41 (.un .not (.t 40))] (Ae 41 (Ab [oP 42 (Da []),oN (Al 5 4 42),oP 5 (.mv (cB false))] .ret) .skip)) (Ab [oP 43 (Ak 5 7),oN (Al 5 4 43),oP 5 (.mv (cB true))] .ret))))))⟩
def tr70:trF Tryz.prog Tryz.f70=some af70:=by kernel_rfl
attribute [go_sem] af70
def af62:AF:=⟨79,[(.cell 6 true 5),(.t 7)],(Ab [oP 3 (.box (.t 0)),oP 6 Cb,oP 7 (.mv (cB false))] (Ab [oP 14 (Ac 0 3),oP 15 (Ad 14),oP 16 (Ac 1 3),oP 17 (Ad 16),oP 18 (Ac 2 3),oP 19 (Ad 18),oP 20 (Ac 3 3),oP 21 (Ad 20),oP 22 (Da [(0,(1,(.t 15))),(1,(1,(.t 17))),(2,(1,(.t 19))),(3,(1,(.t 21)))]),oP 8 Cb,oN (Al 5 8 22)] (.seq (Ab [oP 23 (Ac 0 3),oP 24 (Ad 23),oP 25 (Aj 24 2),Aa 26 25,oG 27 26 true 0 (Ac 1 3),oG 28 26 true 0 (Ad 27),oG 29 26 true 0 (mT 2),oG 30 26 true 0 (Bb .geq 28 29),oP 31 (Az 26 30)] (Ae 31 (.seq (Ab [Aa 32 1,oP 33 (Ac 1 3),oP 34 (Ad 33),oP 35 (.bin 0 .sub (cI 2147483647) (.t 34)),oP 36 (Bb .gtr 32 35)] (Ae 36 (Ab [oP 37 (Da []),oN (Al 5 6 37),oP 7 (.mv (cB false))] .ret) .skip)) (Ar [oP 38 (Ac 1 3),oP 39 (Ad 38),Aa 40 1,oP 41 (Bb .add 39 40),oP 42 (Ac 1 8),oN (Al 1 42 41)])) .skip)) (Ab [oP 9 (.mv (.c .nils))] (.seq (Ab [oP 10 (.mv (cI 0))] (.blk 0 (.loop (.seq (Ab [Aa 43 10,oP 44 (Ac 4 3),oP 45 (Ad 44),oP 46 (.len false (.t 45)),oP 47 (Bb .lss 43 46)] (Cu 47 0)) (.seq (.blk 1 (Ab [oP 50 (Ac 0 3),oP 51 (Ad 50),Aa 52 10,oP 53 (.call 74 [(.t 51),(.t 52)]),Aa 11 53] (.seq (Ab [Aa 54 2,oP 55 (An .gtr 54 4611686018427387904)] (Ae 55 (Ar [oP 11 (.mv (cI 0))]) .skip)) (Ab [oP 57 (Ac 4 3),oP 58 (Ad 57),Aa 59 10,oP 60 (.iad 5 (.t 58) (.t 59)),oP 61 (Ak 5 60),Aa 62 1,Aa 63 2,Aa 64 11,oP 65 (Bb .add 63 64),oP 66 (.call 62 [(.t 61),(.t 62),(.t 65)]),Aa 56 66,oP 67 (.ext (.t 56) 0),oP 68 (.ext (.t 56) 1),oP 12 Cb,oN (Al 5 12 67),Aa 13 68] (.seq (Ab [Aa 69 13,oP 70 (.un .not (.t 69))] (Ae 70 (Ab [oP 71 (Da []),oN (Al 5 6 71),oP 7 (.mv (cB false))] .ret) .skip)) (Ar [Aa 72 9,oP 73 (Ak 5 12),oP 74 (.bslice 5 [(.t 73)]),oP 75 (.app 5 56 (.t 72) (.t 74)),Aa 9 75])))))) (Ar [Aa 48 10,oP 49 (An .add 48 1),Aa 10 49])))))) (Ab [Aa 76 9,oP 77 (Ac 4 8),oN (Al 1 77 76)] (Ab [oP 78 (Ak 5 8),oN (Al 5 6 78),oP 7 (.mv (cB true))] .ret)))))))⟩
def tr62:trF Tryz.prog Tryz.f62=some af62:=by kernel_rfl
attribute [go_sem] af62
def af85:AF:=⟨25,[(.t 4)],(Ab [oP 2 (.box (.t 0)),oP 3 (.box (.t 1)),oP 4 (.mv (cB false))] (Ab [oP 5 (Ak 5 3),oP 6 (.call 45 [(.t 5)]),Aa 7 6,oG 8 7 true 0 (Ac 0 2),oG 9 7 true 0 (Ad 8),oG 10 7 true 0 (Aj 9 1),oG 11 7 true 0 (mT 10),oG 12 11 false 0 (Ac 0 2),oG 13 11 false 0 (Ad 12),oG 14 11 false 0 (Aj 13 2),oG 15 7 true 0 (Bf 11 14),oG 16 7 true 0 (mT 15),oG 17 16 false 0 (Ak 5 2),oG 18 16 false 0 (.call 28 [(.t 17)]),oG 19 7 true 0 (Bf 16 18),oG 20 7 true 0 (mT 19),oG 21 20 false 0 (Ak 5 3),oG 22 20 false 0 (.call 73 [(.t 21)]),oG 23 7 true 0 (Bf 20 22),oP 24 (Az 7 23),Aa 4 24] .ret))⟩
def tr85:trF Tryz.prog Tryz.f85=some af85:=by kernel_rfl
attribute [go_sem] af85
def af86:AF:=⟨85,[(.cell 8 true 5),(.t 9)],(Ab [oP 4 (.box (.t 0)),oP 5 (.box (.t 1)),oP 8 Cb,oP 9 (.mv (cB false))] (.seq (Ab [oP 15 (Ac 0 4),oP 16 (Ad 15),oP 17 (Aj 16 2)] (Ae 17 (.seq (Ab [oP 18 (Ac 1 4),oP 19 (Ad 18),Aa 20 2,oP 21 (Bb .eql 19 20)] (Ae 21 (Ab [oP 22 (Ak 5 5),Aa 23 2,Aa 24 3,oP 25 (.call 105 [(.t 22),(.t 23),(.t 24)]),oP 26 (.ext (.t 25) 0),oP 27 (.ext (.t 25) 1),oN (Al 5 8 26),Aa 9 27] .ret) .skip)) (.seq (Ab [oP 28 (Ac 1 4),oP 29 (Ad 28),Aa 30 2,oP 31 (Bb .gtr 29 30)] (Ae 31 (Ab [oP 32 (Ac 1 4),oP 33 (Ad 32),oP 34 (An .sub 33 1),oP 35 (Da [(0,(1,(cI 2))),(1,(1,(.t 34)))]),oN (Al 5 8 35),oP 9 (.mv (cB true))] .ret) .skip)) (Ab [oP 36 (Ak 5 4),oN (Al 5 8 36),oP 9 (.mv (cB true))] .ret))) .skip)) (Ab [oP 37 (Ac 0 4),oP 38 (Ad 37),oP 39 (Ac 1 4),oP 40 (Ad 39),oP 41 (Ac 2 4),oP 42 (Ad 41),oP 43 (Ac 3 4),oP 44 (Ad 43),oP 45 (Da [(0,(1,(.t 38))),(1,(1,(.t 40))),(2,(1,(.t 42))),(3,(1,(.t 44)))]),oP 10 Cb,oN (Al 5 10 45)] (Ab [oP 11 (.mv (.c .nils))] (.seq (Ab [oP 12 (.mv (cI 0))] (.blk 0 (.loop (.seq (Ab [Aa 46 12,oP 47 (Ac 4 4),oP 48 (Ad 47),oP 49 (.len false (.t 48)),oP 50 (Bb .lss 46 49)] (Cu 50 0)) (.seq (.blk 1 (Ce [oP 54 (Ac 4 4),⟨(some 55),(Ad 54),none,1,true,[]⟩,oI 56 2 (mT 12),⟨(some 57),(.iad 5 (.t 55) (.t 56)),none,3,true,[]⟩,⟨(some 58),(Ak 5 57),none,4,true,[]⟩,⟨(some 59),(Ak 5 5),none,5,true,[]⟩,oI 60 6 (mT 2),oI 61 7 (Ac 0 4),⟨(some 62),(Ad 61),none,8,true,[]⟩,oI 63 9 (mT 12),⟨(some 64),(.call 74 [(.t 62),(.t 63)]),none,10,true,[1,3,4,5]⟩,oI 65 11 (Bb .add 60 64),oI 66 12 (mT 3),oI 67 13 (mT 66),⟨(some 68),(Ak 5 4),(some (67,false)),14,true,[]⟩,oG 69 67 false 15 (mT 12),⟨(some 70),(.call 106 [(.t 68),(.t 69)]),(some (67,false)),16,true,[1,3,4,5]⟩,oI 71 17 (Bf 67 70),⟨(some 72),(.call 86 [(.t 58),(.t 59),(.t 65),(.t 71)]),none,18,true,[]⟩,oI 53 19 (mT 72),oI 73 20 (.ext (.t 53) 0),oI 74 21 (.ext (.t 53) 1),⟨(some 13),Cb,none,22,false,[1,3,4,5,8,10,14,16,18]⟩,oJ 23 (Al 5 13 73),oI 14 24 (mT 74)] (.seq (Ab [Aa 75 14,oP 76 (.un .not (.t 75))] (Ae 76 (Ab [oP 77 (Da []),oN (Al 5 8 77),oP 9 (.mv (cB false))] .ret) .skip)) (Ar [Aa 78 11,oP 79 (Ak 5 13),oP 80 (.bslice 5 [(.t 79)]),oP 81 (.app 5 56 (.t 78) (.t 80)),Aa 11 81])))) (Ar [Aa 51 12,oP 52 (An .add 51 1),Aa 12 52])))))) (Ab [Aa 82 11,oP 83 (Ac 4 10),oN (Al 1 83 82)] (Ab [oP 84 (Ak 5 10),oN (Al 5 8 84),oP 9 (.mv (cB true))] .ret)))))))⟩
def tr86:trF Tryz.prog Tryz.f86=some af86:=by kernel_rfl
attribute [go_sem] af86
def af94:AF:=⟨84,[(.cell 8 true 5),(.t 9)],(Ab [oP 4 (.box (.t 0)),oP 8 Cb,oP 9 (.mv (cB false))] (.seq (Ab [oP 15 (Ac 0 4),oP 16 (Ad 15),oP 17 (Aj 16 2),Aa 18 17,oG 19 18 true 0 (Ac 1 4),oG 20 18 true 0 (Ad 19),oG 21 18 true 0 (mT 2),oG 22 18 true 0 (Bb .geq 20 21),oP 23 (Az 18 22)] (Ae 23 (Ab [Aa 24 1,oP 25 (Ac 1 4),oP 26 (Ad 25),Aa 27 2,oP 28 (Bb .sub 26 27),oP 29 (.iad 5 (.t 24) (.t 28)),oP 30 (Ak 5 29),Aa 31 2,Aa 32 3,oP 33 (.call 105 [(.t 30),(.t 31),(.t 32)]),oP 34 (.ext (.t 33) 0),oP 35 (.ext (.t 33) 1),oN (Al 5 8 34),Aa 9 35] .ret) .skip)) (Ab [oP 36 (Ac 0 4),oP 37 (Ad 36),oP 38 (Ac 1 4),oP 39 (Ad 38),oP 40 (Ac 2 4),oP 41 (Ad 40),oP 42 (Ac 3 4),oP 43 (Ad 42),oP 44 (Da [(0,(1,(.t 37))),(1,(1,(.t 39))),(2,(1,(.t 41))),(3,(1,(.t 43)))]),oP 10 Cb,oN (Al 5 10 44)] (Ab [oP 11 (.mv (.c .nils))] (.seq (Ab [oP 12 (.mv (cI 0))] (.blk 0 (.loop (.seq (Ab [Aa 45 12,oP 46 (Ac 4 4),oP 47 (Ad 46),oP 48 (.len false (.t 47)),oP 49 (Bb .lss 45 48)] (Cu 49 0)) (.seq (.blk 1 (Ce [oP 53 (Ac 4 4),⟨(some 54),(Ad 53),none,1,true,[]⟩,oI 55 2 (mT 12),⟨(some 56),(.iad 5 (.t 54) (.t 55)),none,3,true,[]⟩,⟨(some 57),(Ak 5 56),none,4,true,[]⟩,oI 58 5 (mT 1),oI 59 6 (mT 2),oI 60 7 (Ac 0 4),⟨(some 61),(Ad 60),none,8,true,[]⟩,oI 62 9 (mT 12),⟨(some 63),(.call 74 [(.t 61),(.t 62)]),none,10,true,[1,3,4]⟩,oI 64 11 (Bb .add 59 63),oI 65 12 (mT 3),oI 66 13 (mT 65),⟨(some 67),(Ak 5 4),(some (66,false)),14,true,[]⟩,oG 68 66 false 15 (mT 12),⟨(some 69),(.call 106 [(.t 67),(.t 68)]),(some (66,false)),16,true,[1,3,4]⟩,oI 70 17 (Bf 66 69),⟨(some 71),(.call 94 [(.t 57),(.t 58),(.t 64),(.t 70)]),none,18,true,[]⟩,oI 52 19 (mT 71),oI 72 20 (.ext (.t 52) 0),oI 73 21 (.ext (.t 52) 1),⟨(some 13),Cb,none,22,false,[1,3,4,8,10,14,16,18]⟩,oJ 23 (Al 5 13 72),oI 14 24 (mT 73)] (.seq (Ab [Aa 74 14,oP 75 (.un .not (.t 74))] (Ae 75 (Ab [oP 76 (Da []),oN (Al 5 8 76),oP 9 (.mv (cB false))] .ret) .skip)) (Ar [Aa 77 11,oP 78 (Ak 5 13),oP 79 (.bslice 5 [(.t 78)]),oP 80 (.app 5 56 (.t 77) (.t 79)),Aa 11 80])))) (Ar [Aa 50 12,oP 51 (An .add 50 1),Aa 12 51])))))) (Ab [Aa 81 11,oP 82 (Ac 4 10),oN (Al 1 82 81)] (Ab [oP 83 (Ak 5 10),oN (Al 5 8 83),oP 9 (.mv (cB true))] .ret)))))))⟩
def tr94:trF Tryz.prog Tryz.f94=some af94:=by kernel_rfl
attribute [go_sem] af94
def af105:AF:=⟨16,[(.cell 6 true 5),(.t 7)],(Ab [oP 3 (.box (.t 0)),oP 6 Cb,oP 7 (.mv (cB false))] (.seq (Ab [Aa 8 2] (Ae 8 (Ar [oP 9 (Ak 5 3),oP 10 (.call 118 [(.t 9)]),oN (Al 5 3 10)]) .skip)) (Ab [oP 11 (Ak 5 3),Aa 12 1,oP 13 (.call 62 [(.t 11),(.t 12),(cI 0)]),oP 14 (.ext (.t 13) 0),oP 15 (.ext (.t 13) 1),oN (Al 5 6 14),Aa 7 15] .ret)))⟩
def tr105:trF Tryz.prog Tryz.f105=some af105:=by kernel_rfl
attribute [go_sem] af105
def af106:AF:=⟨17,[(.t 4)],(Ab [oP 2 (.box (.t 0)),oP 4 (.mv (cB false))] (Ab [oP 5 (Ac 0 2),oP 6 (Ad 5),oP 7 (An .gtr 6 12),Aa 8 7,oG 9 8 false 0 (Ac 0 2),oG 10 8 false 0 (Ad 9),oG 11 8 false 0 (Aj 10 12),oG 12 8 false 0 (mT 11),oG 13 12 true 0 (mT 1),oG 14 12 true 0 (Aj 13 2),oG 15 8 false 0 (Az 12 14),oP 16 (Bf 8 15),Aa 4 16] .ret))⟩
def tr106:trF Tryz.prog Tryz.f106=some af106:=by kernel_rfl
attribute [go_sem] af106
def af118:AF:=⟨13,[(.cell 2 true 5)],(Ab [oP 1 (.box (.t 0)),oP 2 Cb] (.seq (.blk 0 (Ab [oP 4 (Ak 5 1),oP 5 (.call 28 [(.t 4)]),Aa 3 5] (Ae 3 (Ab [oP 6 (Ak 5 1),oN (Al 5 2 6)] .ret) (Ab [oP 8 (Ak 5 1),oP 9 (.call 73 [(.t 8)]),Aa 7 9] (Ae 7 (Ab [oP 10 (Ak 5 1),oP 11 (.call 123 [(.t 10)]),oN (Al 5 2 11)] .ret) .skip))))) (Ab [oP 12 (Da []),oN (Al 5 2 12)] .ret)))⟩
def tr118:trF Tryz.prog Tryz.f118=some af118:=by kernel_rfl
attribute [go_sem] af118
def af8:AF:=⟨22,[(.t 2)],(Ab [oP 2 (.mv (cB false))] (.seq (Ab [oP 3 (.mv (cI 0))] (.blk 0 (.loop (.seq (Ab [Aa 6 3,Aa 7 0,oP 8 (.len false (.t 7)),oP 9 (Bb .lss 6 8)] (Cu 9 0)) (.seq (.blk 1 (Ab [Aa 13 0,Aa 14 3,oP 15 (.iad 5 (.t 13) (.t 14)),oP 16 (Ak 5 15),oP 17 (.call 16 [(.t 16)]),Aa 12 17,oP 18 (.ext (.t 12) 0),oP 19 (.ext (.t 12) 1),oP 4 Cb,oN (Al 5 4 18),Aa 5 19] (Ab [Aa 20 5,oP 21 (.un .not (.t 20))] (Ae 21 (Ab [oP 2 (.mv (cB false))] .ret) .skip)))) (Ar [Aa 10 3,oP 11 (An .add 10 1),Aa 3 11])))))) (Ab [oP 2 (.mv (cB true))] .ret)))⟩
def tr8:trF Tryz.prog Tryz.f8=some af8:=by kernel_rfl
attribute [go_sem] af8
def af16:AF:=⟨35,[(.cell 2 true 5),(.t 3)],(Ab [oP 1 (.box (.t 0)),oP 2 Cb,oP 3 (.mv (cB false))] (.seq (Ab [oP 6 (Ak 5 1),oP 7 (.call 27 [(.t 6),(cI 100)]),Aa 8 7,oG 9 8 false 0 (Ak 5 1),oG 10 8 false 0 (.call 28 [(.t 9)]),oG 11 8 false 0 (.un .not (.t 10)),oP 12 (Bf 8 11),Aa 13 12,oG 14 13 false 0 (Ak 5 1),oG 15 13 false 0 (.call 29 [(.t 14)]),oG 16 13 false 0 (An .geq 15 1048576),oP 17 (Bf 13 16)] (Ae 17 (Ab [oP 18 (Da []),oN (Al 5 2 18),oP 3 (.mv (cB false))] .ret) .skip)) (Ab [oP 19 (.build [(iS 0),(.bool false)] []),oP 20 (.boxg (.t 19)),Aa 4 20] (Ab [Aa 21 4,oP 22 (Ak 5 1),oP 23 (.hcall 23 [(.t 21),(.t 22)]),oP 5 Cb,oN (Al 5 5 23)] (Ce [⟨(some 24),(Ak 5 5),none,0,true,[]⟩,oI 25 1 (mT 4),oI 26 2 (Ah 25),oI 27 3 (Ac 1 26),oI 28 4 (Ad 27),oI 29 5 (.un .not (.t 28)),oI 30 6 (mT 29),oG 31 30 true 7 (Ak 5 5),⟨(some 32),(.call 27 [(.t 31),(cI 4000)]),(some (30,true)),8,false,[0]⟩,oG 33 30 true 9 (.un .not (.t 32)),oI 34 10 (Az 30 33),oJ 11 (Al 5 2 24),oI 3 12 (mT 34)] .ret)))))⟩
def tr16:trF Tryz.prog Tryz.f16=some af16:=by kernel_rfl
attribute [go_sem] af16
open Go Go.RowKit Go.Proofs.YtgdkddjdhijfnaaGreatDoor
def mixed:Tryz.prog.follows .mixedOrders=true:=by kernel_rfl
abbrev Con(f:Nat)(args:List SV)(r:SV):Prop:=Contract Tryz.prog f args r
def Az1(k i j n:Int)(rows:GV)(h1:rows.length≠0)(h2:rows.length*56<=140737488355328):Con 58 [.int .i64 k,.int .i64 i,.int .i64 j,.int .i64 n,.dsl 5 rows] (.agg true [.int .i64 k,.int .i64 i,.int .i64 j,.int .i64 n,.dsl 5 rows]):=by
 refine Au mixed Tryz.func58 tr58 ?_;simp only[go_sem,seval];intro _;refine⟨fun h=>?_,fun h=>?_⟩
 ·have h3:rows.length<=140737488355328:=by omega
  simp only[h,h1,h2,h3,go_sem,seval,q_km]
 ·have:=q_ky h;omega
def Ane(k i j n:Int)(l:List Tm)(h1:l≠[])(h2:l.length*56<=140737488355328):Con 58 [.int .i64 k,.int .i64 i,.int .i64 j,.int .i64 n,.dsl 5 (l.map tv)] (.agg true (tv (.mk k i j n l))):=by
 rw[As];exact Az1 k i j n (l.map tv) (by simpa using h1) (by simpa using h2)
def vr(i:Int):Tm:=.mk 2 i 0 0 []
def so(i:Int):Tm:=.mk 1 i 0 0 []
def pt(i:Int)(a x:Tm):Tm:=.mk 17 0 0 0 [so i,vr 0,a,x]
def Ov(W:List SV->Int->Int->Int)(rows:GV)(most deep:Int):Nat->Int
 |0=>1
 |x+1=>IntKind.i64.wrap (Ov W rows most deep x+W (rows[x]?.getD []) (IntKind.i64.wrap (most-Ov W rows most deep x)) deep)
def tab(l:List Int)(k:Int):Int:=if 1<=k/\k<=l.length then l.getD (k-1).toNat (-1) else -1
def Wv(n:Int):Int:=tab [5,5,4,6,4,4,5,4,5,4,4,6,6,6,9,12,12,9,9,9,6] n
def Bv(k n:Int):Int:=if k=23 then Wv n else tab [0,0,2,3,4,2,4,3,3,3,2,4,2,2,2,2,4,1,1,3,2,6] k
def Ao{k c:Int}(h:k≠c):(k==c)=false:=by simpa using h
def A1v(n:Int):Con 75 [.int .i64 n] (.int .i64 (Wv n)):=by
 refine Au mixed Tryz.func75 tr75 ?_
 by_cases h:1<=n/\n<=21
 ·have:n=1\/n=2\/n=3\/n=4\/n=5\/n=6\/n=7\/n=8\/n=9\/n=10\/n=11\/n=12\/n=13\/n=14\/n=15\/n=16\/n=17\/n=18\/n=19\/n=20\/n=21:=by omega
  clear h;rcases this with rfl|rfl|rfl|rfl|rfl|rfl|rfl|rfl|rfl|rfl|rfl|rfl|rfl|rfl|rfl|rfl|rfl|rfl|rfl|rfl|rfl<;>(as_aux_lemma=>(simp only[go_sem,seval];rfl))
 ·have e:Wv n=-1:=by unfold Wv tab;rw[if_neg (by simpa using h)]
  rw[e];simp only[go_sem,seval,Ao (show n≠1 by omega),Ao (show n≠2 by omega),Ao (show n≠3 by omega),Ao (show n≠4 by omega),Ao (show n≠5 by omega),Ao (show n≠6 by omega),Ao (show n≠7 by omega),Ao (show n≠8 by omega),Ao (show n≠9 by omega),Ao (show n≠10 by omega),Ao (show n≠11 by omega),Ao (show n≠12 by omega),Ao (show n≠13 by omega),Ao (show n≠14 by omega),Ao (show n≠15 by omega),Ao (show n≠16 by omega),Ao (show n≠17 by omega),Ao (show n≠18 by omega),Ao (show n≠19 by omega),Ao (show n≠20 by omega),Ao (show n≠21 by omega)]
def Am7(k n:Int):Con 48 [.int .i64 k,.int .i64 n] (.int .i64 (Bv k n)):=by
 refine Au mixed Tryz.func48 tr48 ?_
 by_cases h:1<=k/\k<=22
 ·have:k=1\/k=2\/k=3\/k=4\/k=5\/k=6\/k=7\/k=8\/k=9\/k=10\/k=11\/k=12\/k=13\/k=14\/k=15\/k=16\/k=17\/k=18\/k=19\/k=20\/k=21\/k=22:=by omega
  clear h;rcases this with rfl|rfl|rfl|rfl|rfl|rfl|rfl|rfl|rfl|rfl|rfl|rfl|rfl|rfl|rfl|rfl|rfl|rfl|rfl|rfl|rfl|rfl<;>(as_aux_lemma=>(simp only[go_sem,seval];rfl))
 ·by_cases Cs:k=23
  ·subst Cs;simp only[go_sem,seval];refine Af (A1v n) ?_;simp only[go_sem,seval];rfl
  ·have e:Bv k n=-1:=by unfold Bv tab;rw[if_neg Cs,if_neg (by simpa using h)]
   rw[e];simp only[go_sem,seval,Ao Cs,Ao (show k≠1 by omega),Ao (show k≠2 by omega),Ao (show k≠3 by omega),Ao (show k≠4 by omega),Ao (show k≠5 by omega),Ao (show k≠6 by omega),Ao (show k≠7 by omega),Ao (show k≠8 by omega),Ao (show k≠9 by omega),Ao (show k≠10 by omega),Ao (show k≠11 by omega),Ao (show k≠12 by omega),Ao (show k≠13 by omega),Ao (show k≠14 by omega),Ao (show k≠15 by omega),Ao (show k≠16 by omega),Ao (show k≠17 by omega),Ao (show k≠18 by omega),Ao (show k≠19 by omega),Ao (show k≠20 by omega),Ao (show k≠21 by omega),Ao (show k≠22 by omega)]
def wl0:IntKind.i64.wrap 0=0:=by decide
def wl1:IntKind.i64.wrap 1=1:=by decide
def wl2:IntKind.i64.wrap 2=2:=by decide
def wl3:IntKind.i64.wrap 3=3:=by decide
def wl4:IntKind.i64.wrap 4=4:=by decide
def wl5:IntKind.i64.wrap 5=5:=by decide
def wl6:IntKind.i64.wrap 6=6:=by decide
def wl7:IntKind.i64.wrap 7=7:=by decide
def wl8:IntKind.i64.wrap 8=8:=by decide
def wl9:IntKind.i64.wrap 9=9:=by decide
def wl10:IntKind.i64.wrap 10=10:=by decide
def wl11:IntKind.i64.wrap 11=11:=by decide
def wl12:IntKind.i64.wrap 12=12:=by decide
def wl13:IntKind.i64.wrap 13=13:=by decide
def wl14:IntKind.i64.wrap 14=14:=by decide
def wl15:IntKind.i64.wrap 15=15:=by decide
def wl16:IntKind.i64.wrap 16=16:=by decide
def wl17:IntKind.i64.wrap 17=17:=by decide
def wl18:IntKind.i64.wrap 18=18:=by decide
def wl19:IntKind.i64.wrap 19=19:=by decide
def wl20:IntKind.i64.wrap 20=20:=by decide
def wl21:IntKind.i64.wrap 21=21:=by decide
def A0w(n:Int):Con 71 [.int .i64 23,.int .i64 n] (.int .i64 (Bv 23 n)):=by
 refine Au mixed Tryz.func71 tr71 ?_
 by_cases hs:1<=n/\n<=21
 ·have:n=1\/n=2\/n=3\/n=4\/n=5\/n=6\/n=7\/n=8\/n=9\/n=10\/n=11\/n=12\/n=13\/n=14\/n=15\/n=16\/n=17\/n=18\/n=19\/n=20\/n=21:=by omega
  clear hs;rcases this with rfl|rfl|rfl|rfl|rfl|rfl|rfl|rfl|rfl|rfl|rfl|rfl|rfl|rfl|rfl|rfl|rfl|rfl|rfl|rfl|rfl<;>(as_aux_lemma=>(simp only[go_sem,seval,wl0,wl1,wl2,wl3,wl4,wl5,wl6,wl7,wl8,wl9,wl10,wl11,wl12,wl13,wl14,wl15,wl16,wl17,wl18,wl19,wl20,wl21];rfl))
 ·have e:Bv 23 n=-1:=by unfold Bv Wv tab;rw[if_pos rfl,if_neg (by simpa using hs)]
  rw[e];simp only[go_sem,seval]
  by_cases h1:1<=n
  ·have h2:¬n<=21:=by omega
   simp only[go_sem,seval,h1,h2]
  ·simp only[go_sem,seval,h1]
def Nc(k n:Int):Con 71 [.int .i64 k,.int .i64 n] (.int .i64 (Bv k n)):=by
 by_cases h:1<=k/\k<=22
 ·have:k=1\/k=2\/k=3\/k=4\/k=5\/k=6\/k=7\/k=8\/k=9\/k=10\/k=11\/k=12\/k=13\/k=14\/k=15\/k=16\/k=17\/k=18\/k=19\/k=20\/k=21\/k=22:=by omega
  clear h;refine Au mixed Tryz.func71 tr71 ?_;rcases this with rfl|rfl|rfl|rfl|rfl|rfl|rfl|rfl|rfl|rfl|rfl|rfl|rfl|rfl|rfl|rfl|rfl|rfl|rfl|rfl|rfl|rfl<;>(as_aux_lemma=>(simp only[go_sem,seval];rfl))
 ·by_cases Cs:k=23
  ·subst Cs;exact A0w n
  ·have e:Bv k n=-1:=by unfold Bv tab;rw[if_neg Cs,if_neg (by simpa using h)]
   rw[e];refine Au mixed Tryz.func71 tr71 ?_;simp only[go_sem,seval,Ao Cs,Ao (show k≠1 by omega),Ao (show k≠2 by omega),Ao (show k≠3 by omega),Ao (show k≠4 by omega),Ao (show k≠5 by omega),Ao (show k≠6 by omega),Ao (show k≠7 by omega),Ao (show k≠8 by omega),Ao (show k≠9 by omega),Ao (show k≠10 by omega),Ao (show k≠11 by omega),Ao (show k≠12 by omega),Ao (show k≠13 by omega),Ao (show k≠14 by omega),Ao (show k≠15 by omega),Ao (show k≠16 by omega),Ao (show k≠17 by omega),Ao (show k≠18 by omega),Ao (show k≠19 by omega),Ao (show k≠20 by omega),Ao (show k≠21 by omega),Ao (show k≠22 by omega)]
def lev(i:Int):Bool:=decide (0<=i) && decide (i<=1000)
def Zn(i:Int):Con 76 [.int .i64 i] (.bool (lev i)):=by
 refine Au mixed Tryz.func76 tr76 ?_;simp only[go_sem,seval,lev];refine⟨fun h=>?_,fun h=>?_⟩<;>simp only[h,go_sem,seval]
def w7(i:Int):Con 95 [.int .i64 i] (.bool (lev i)):=by
 refine Au mixed Tryz.func95 tr95 ?_;simp only[go_sem,seval,lev];refine⟨fun h=>?_,fun h=>?_⟩<;>simp only[h,go_sem,seval]
def Or(k i j n:Int):Bool:=
 if k=1\/k=10\/k=11\/k=12 then lev i && ((j==0) && (n==0))
 else if k=2 then decide (0<=i) && (decide (i<=2147483647) && ((j==0) && (n==0)))
 else if 3<=k/\k<=9 then lev i && (lev j && (n==0))
 else if k=23 then lev i && lev j
 else (i==0) && ((j==0) && (n==0))
def Azx(k i j n:Int)(rows:GV)(h:k=1\/k=10\/k=11\/k=12):Con 49 [.agg true [.int .i64 k,.int .i64 i,.int .i64 j,.int .i64 n,.dsl 5 rows]] (.bool (lev i && ((j==0) && (n==0)))):=by
 refine Au mixed Tryz.func49 tr49 ?_;cases hL:lev i<;>cases hJ:(j==0)<;>cases hN:(n==0)<;>rcases h with rfl|rfl|rfl|rfl <;>
  (simp only[go_sem,seval];refine Af (Zn i) ?_;simp only[go_sem,seval,hL,hJ,hN])
def Azy(i j n:Int)(rows:GV):Con 49 [.agg true [.int .i64 2,.int .i64 i,.int .i64 j,.int .i64 n,.dsl 5 rows]] (.bool (decide (0<=i) && (decide (i<=2147483647) && ((j==0) && (n==0))))):=by
 refine Au mixed Tryz.func49 tr49 ?_
 by_cases h1:0<=i<;>by_cases h2:i<=2147483647<;>cases hJ:(j==0)<;>cases hN:(n==0)<;>simp only[go_sem,seval,hJ,hN,h1,h2]
def Az0(k i j n:Int)(rows:GV)(h:k=3\/k=4\/k=5\/k=6\/k=7\/k=8\/k=9):Con 49 [.agg true [.int .i64 k,.int .i64 i,.int .i64 j,.int .i64 n,.dsl 5 rows]] (.bool (lev i && (lev j && (n==0)))):=by
 refine Au mixed Tryz.func49 tr49 ?_;cases hL:lev i
 ·rcases h with rfl|rfl|rfl|rfl|rfl|rfl|rfl<;>(as_aux_lemma=>(simp only[go_sem,seval];refine Af (Zn i) ?_;simp only[go_sem,seval,hL]))
 ·cases hJ:lev j<;>cases hN:(n==0)<;>rcases h with rfl|rfl|rfl|rfl|rfl|rfl|rfl <;>
   (as_aux_lemma=>(simp only[go_sem,seval];refine Af (Zn i) ?_;simp only[go_sem,seval,hL];refine Af (Zn j) ?_;simp only[go_sem,seval,hL,hJ,hN]))
def Azz(i j n:Int)(rows:GV):Con 49 [.agg true [.int .i64 23,.int .i64 i,.int .i64 j,.int .i64 n,.dsl 5 rows]] (.bool (lev i && lev j)):=by
 refine Au mixed Tryz.func49 tr49 ?_;simp only[go_sem,seval];refine Af (Zn i) ?_;cases hL:lev i
 ·simp only[go_sem,seval]
 ·simp only[go_sem,seval];refine Af (Zn j) ?_;simp only[go_sem,seval]
def Azw(k i j n:Int)(rows:GV)(h:k<1\/(12<k/\k≠23)):Con 49 [.agg true [.int .i64 k,.int .i64 i,.int .i64 j,.int .i64 n,.dsl 5 rows]] (.bool ((i==0) && ((j==0) && (n==0)))):=by
 refine Au mixed Tryz.func49 tr49 ?_;cases hI:(i==0)<;>cases hJ:(j==0)<;>cases hN:(n==0)<;>simp only[go_sem,seval,hI,hJ,hN,Ao (show k≠1 by omega),Ao (show k≠2 by omega),Ao (show k≠3 by omega),Ao (show k≠4 by omega),Ao (show k≠5 by omega),Ao (show k≠6 by omega),Ao (show k≠7 by omega),Ao (show k≠8 by omega),Ao (show k≠9 by omega),Ao (show k≠10 by omega),Ao (show k≠11 by omega),Ao (show k≠12 by omega),Ao (show k≠23 by omega)]
def Azv(k i j n:Int)(rows:GV):Con 49 [.agg true [.int .i64 k,.int .i64 i,.int .i64 j,.int .i64 n,.dsl 5 rows]] (.bool (Or k i j n)):=by
 unfold Or
 by_cases h1:k=1\/k=10\/k=11\/k=12
 ·rw[if_pos h1];exact Azx k i j n rows h1
 ·rw[if_neg h1]
  by_cases h2:k=2
  ·subst h2;rw[if_pos rfl];exact Azy i j n rows
  ·rw[if_neg h2]
   by_cases h3:3<=k/\k<=9
   ·rw[if_pos h3];exact Az0 k i j n rows (by omega)
   ·rw[if_neg h3]
    by_cases h4:k=23
    ·subst h4;rw[if_pos rfl];exact Azz i j n rows
    ·rw[if_neg h4];exact Azw k i j n rows (by omega)
def Jh(k:Int):Int:=if k=1\/k=2 then 0 else if k<=12 then 1 else 2
def A1w(k:Int):Con 47 [.int .i64 k] (.int .i64 (Jh k)):=by
 refine Au mixed Tryz.func47 tr47 ?_
 by_cases h1:k=1
 ·subst h1;simp only[go_sem,seval];rfl
 ·by_cases h2:k=2
  ·subst h2;simp only[go_sem,seval];rfl
  ·have e:Jh k=if k<=12 then 1 else 2:=by unfold Jh;rw[if_neg (by omega)]
   rw[e]
   by_cases h3:k<=12
   ·simp only[go_sem,seval,Ao h1,Ao h2,h3]
   ·simp only[go_sem,seval,Ao h1,Ao h2,h3]
end Go.Proofs.YtgdkddjdhijfnaaGreatDoor.Abs
