import Derived.Test.YtdpigpopcbjkmaaGreatDoorWEv
import Derived.Test.YtdpigpopcbjkmaaGreatDoorProg
import Derived.KernelRfl
import Derived.Test.YtdpigpopcbjkmaaGreatDoorWAfC
import Derived.Test.YtdpigpopcbjkmaaGreatDoorWTs
import Derived.Test.YtdpigpopcbjkmaaGreatDoorChecked
import Derived.WalkKit
import Derived.WalkLawsBesides
set_option linter.unusedSimpArgs false
set_option linter.unusedVariables false
set_option maxRecDepth 20000
set_option maxHeartbeats 4000000
namespace Go.Proofs.YtdpigpopcbjkmaaGreatDoor.Abs
open Go Go.Proofs Go.Proofs.YtdpigpopcbjkmaaGreatDoor
def af146:AF:=⟨17,[(.t 2)],(sqF [oP 2 (.mv (cB false))] (sqF [oP 3 (mT 0),oP 4 (.bin 0 .leq (.c (.int .u8 97)) (.t 3)),oP 5 (mT 4),oG 6 5 true 0 (mT 0),oG 7 5 true 0 (.bin 0 .leq (.t 6) (.c (.int .u8 122))),oP 8 (.pick (.t 5) (.t 7) (cB false)),oP 9 (mT 8),oG 10 9 false 0 (mT 0),oG 11 9 false 0 (.bin 0 .leq (.c (.int .u8 65)) (.t 10)),oG 12 9 false 0 (mT 11),oG 13 12 true 0 (mT 0),oG 14 12 true 0 (.bin 0 .leq (.t 13) (.c (.int .u8 90))),oG 15 9 false 0 (.pick (.t 12) (.t 14) (cB false)),oP 16 (.pick (.t 9) (cB true) (.t 15)),oP 2 (mT 16)] .ret))⟩
theorem tr146:trF Tryz.prog Tryz.f146=some af146:=by kernel_rfl
attribute [go_sem] af146
def af147:AF:=⟨9,[(.t 2)],(sqF [oP 2 (.mv (cB false))] (sqF [oP 3 (mT 0),oP 4 (.bin 0 .leq (.c (.int .u8 48)) (.t 3)),oP 5 (mT 4),oG 6 5 true 0 (mT 0),oG 7 5 true 0 (.bin 0 .leq (.t 6) (.c (.int .u8 57))),oP 8 (.pick (.t 5) (.t 7) (cB false)),oP 2 (mT 8)] .ret))⟩
theorem tr147:trF Tryz.prog Tryz.f147=some af147:=by kernel_rfl
attribute [go_sem] af147
def af115:AF:=⟨17,[(.t 2)],(sqF [oP 2 (.mv (cB false))] (sqF [oP 3 (mT 0),oP 4 (.bin 0 .geq (.t 3) (.c (.int .u8 97))),oP 5 (mT 4),oG 6 5 true 0 (mT 0),oG 7 5 true 0 (.bin 0 .leq (.t 6) (.c (.int .u8 122))),oP 8 (.pick (.t 5) (.t 7) (cB false)),oP 9 (mT 8),oG 10 9 false 0 (mT 0),oG 11 9 false 0 (.bin 0 .geq (.t 10) (.c (.int .u8 65))),oG 12 9 false 0 (mT 11),oG 13 12 true 0 (mT 0),oG 14 12 true 0 (.bin 0 .leq (.t 13) (.c (.int .u8 90))),oG 15 9 false 0 (.pick (.t 12) (.t 14) (cB false)),oP 16 (.pick (.t 9) (cB true) (.t 15)),oP 2 (mT 16)] .ret))⟩
theorem tr115:trF Tryz.prog Tryz.f115=some af115:=by kernel_rfl
attribute [go_sem] af115
def af116:AF:=⟨9,[(.t 2)],(sqF [oP 2 (.mv (cB false))] (sqF [oP 3 (mT 0),oP 4 (.bin 0 .geq (.t 3) (.c (.int .u8 48))),oP 5 (mT 4),oG 6 5 true 0 (mT 0),oG 7 5 true 0 (.bin 0 .leq (.t 6) (.c (.int .u8 57))),oP 8 (.pick (.t 5) (.t 7) (cB false)),oP 2 (mT 8)] .ret))⟩
theorem tr116:trF Tryz.prog Tryz.f116=some af116:=by kernel_rfl
attribute [go_sem] af116
def af137:AF:=⟨34,[(.t 4)],(sqF [oP 4 (.mv (cI 0))] (.seq (.blk 0 (.loop (.seq (sqF [oP 5 (mT 1),oP 6 (mT 0),oP 7 (.len true (.t 6)),oP 8 (.bin 0 .lss (.t 5) (.t 7))] (.cond (.t 8) .skip (.exit 0))) (.blk 1 (sqF [oP 9 (mT 0),oP 10 (mT 1),oP 11 (.six (.t 9) (.t 10))] (.blk 2 (.seq (sqF [oP 14 (.bin 0 .eql (.t 11) (.c (.int .u8 32))),oP 13 (mT 14)] (.cond (.t 13) .skip (sqF [oP 15 (.bin 0 .eql (.t 11) (.c (.int .u8 9))),oP 13 (mT 15)] (.cond (.t 13) .skip (rgF [oP 16 (.bin 0 .eql (.t 11) (.c (.int .u8 10))),oP 13 (mT 16)]))))) (.cond (.t 13) (rgF [oP 17 (mT 1),oP 18 (.bin 0 .add (.t 17) (cI 1)),oP 1 (mT 18)]) (sqF [oP 20 (.bin 0 .eql (.t 11) (.c (.int .u8 59))),oP 19 (mT 20)] (.cond (.t 19) (.blk 3 (.loop (.seq (sqF [oP 21 (mT 1),oP 22 (mT 0),oP 23 (.len true (.t 22)),oP 24 (.bin 0 .lss (.t 21) (.t 23)),oP 25 (mT 24),oG 26 25 true 0 (mT 0),oG 27 25 true 0 (mT 1),oG 28 25 true 0 (.six (.t 26) (.t 27)),oG 29 25 true 0 (.bin 0 .neq (.t 28) (.c (.int .u8 10))),oP 30 (.pick (.t 25) (.t 29) (cB false))] (.cond (.t 30) .skip (.exit 3))) (.blk 4 (rgF [oP 31 (mT 1),oP 32 (.bin 0 .add (.t 31) (cI 1)),oP 1 (mT 32)]))))) (sqF [oP 12 (mT 1),oP 4 (mT 12)] .ret))))))))))) (sqF [oP 33 (mT 1),oP 4 (mT 33)] .ret)))⟩
theorem tr137:trF Tryz.prog Tryz.f137=some af137:=by kernel_rfl
attribute [go_sem] af137
def af138:AF:=⟨100,[(.cell 4 true 3),(.t 5)],(sqF [oP 4 (.new [(iS 0),(.str (bs [])),(iS 0)]),oP 5 (.mv (cB false))] (sqF [oP 10 (mT 0),oP 11 (mT 1),oP 12 (.six (.t 10) (.t 11)),oP 13 (mT 1),oP 14 (.bin 0 .add (.t 13) (cI 1)),oP 6 (mT 12),oP 7 (mT 14)] (.seq (.blk 0 (sqF [oP 16 (mT 6),oP 17 (.bin 0 .eql (.t 16) (.c (.int .u8 40))),oP 15 (mT 17)] (.cond (.t 15) (sqF [oP 18 (mT 1),oP 19 (.build [(iS 0),(.str (bs [])),(iS 0)] [(0,(1,(cI 1))),(1,(1,(.c (.str (bs [40]))))),(2,(1,(.t 18)))]),oN (.store 3 (.t 4) (.t 19)),oP 5 (.mv (cB true))] .ret) (sqF [oP 21 (mT 6),oP 22 (.bin 0 .eql (.t 21) (.c (.int .u8 41))),oP 20 (mT 22)] (.cond (.t 20) (sqF [oP 23 (mT 1),oP 24 (.build [(iS 0),(.str (bs [])),(iS 0)] [(0,(1,(cI 2))),(1,(1,(.c (.str (bs [41]))))),(2,(1,(.t 23)))]),oN (.store 3 (.t 4) (.t 24)),oP 5 (.mv (cB true))] .ret) (sqF [oP 26 (mT 6),oP 27 (.call 146 [(.t 26)]),oP 25 (mT 27)] (.cond (.t 25) (.seq (.blk 1 (.loop (.seq (sqF [oP 28 (mT 7),oP 29 (mT 0),oP 30 (.len true (.t 29)),oP 31 (.bin 0 .lss (.t 28) (.t 30)),oP 32 (mT 31),oG 33 32 true 0 (mT 0),oG 34 32 true 0 (mT 7),oG 35 32 true 0 (.six (.t 33) (.t 34)),oG 36 32 true 0 (.call 146 [(.t 35)]),oG 37 32 true 0 (mT 36),oG 38 37 false 0 (mT 0),oG 39 37 false 0 (mT 7),oG 40 37 false 0 (.six (.t 38) (.t 39)),oG 41 37 false 0 (.call 147 [(.t 40)]),oG 42 32 true 0 (.pick (.t 37) (cB true) (.t 41)),oP 43 (.pick (.t 32) (.t 42) (cB false))] (.cond (.t 43) .skip (.exit 1))) (.blk 2 (rgF [oP 44 (mT 7),oP 45 (.bin 0 .add (.t 44) (cI 1)),oP 7 (mT 45)]))))) (sqF [oP 46 (mT 0),oP 47 (mT 1),oP 48 (mT 7),oP 49 (.slc 0 (.t 46) (some (.t 47)) (some (.t 48))),oP 50 (mT 1),oP 51 (.build [(iS 0),(.str (bs [])),(iS 0)] [(0,(1,(cI 3))),(1,(1,(.t 49))),(2,(1,(.t 50)))]),oP 52 (mT 7),oP 53 (mT 1),oP 54 (.bin 0 .sub (.t 52) (.t 53)),oP 55 (.bin 0 .leq (.t 54) (cI 20)),oN (.store 3 (.t 4) (.t 51)),oP 5 (mT 55)] .ret)) (sqF [oP 57 (mT 6),oP 58 (.call 147 [(.t 57)]),oP 56 (mT 58)] (.cond (.t 56) (.seq (.blk 3 (.loop (.seq (sqF [oP 59 (mT 7),oP 60 (mT 0),oP 61 (.len true (.t 60)),oP 62 (.bin 0 .lss (.t 59) (.t 61)),oP 63 (mT 62),oG 64 63 true 0 (mT 0),oG 65 63 true 0 (mT 7),oG 66 63 true 0 (.six (.t 64) (.t 65)),oG 67 63 true 0 (.call 147 [(.t 66)]),oP 68 (.pick (.t 63) (.t 67) (cB false))] (.cond (.t 68) .skip (.exit 3))) (.blk 4 (rgF [oP 69 (mT 7),oP 70 (.bin 0 .add (.t 69) (cI 1)),oP 7 (mT 70)]))))) (sqF [oP 72 (mT 0),oP 73 (mT 1),oP 74 (mT 7),oP 75 (.slc 0 (.t 72) (some (.t 73)) (some (.t 74))),oP 76 (.call 148 [(.t 75)]),oP 71 (mT 76),oP 77 (.ext (.t 71) 0),oP 78 (.ext (.t 71) 1),oP 8 (mT 77),oP 9 (mT 78)] (sqT [oP 79 (mT 0),oI 80 1 (mT 1),oI 81 2 (mT 7),⟨(some 82),(.slc 0 (.t 79) (some (.t 80)) (some (.t 81))),none,3,true,[]⟩,oI 83 4 (mT 1),oI 84 5 (.build [(iS 0),(.str (bs [])),(iS 0)] [(0,(1,(cI 4))),(1,(1,(.t 82))),(2,(1,(.t 83)))]),oI 85 6 (mT 9),oI 86 7 (mT 85),oG 87 86 true 8 (mT 7),oG 88 86 true 9 (mT 0),oG 89 86 true 10 (.len true (.t 88)),oG 90 86 true 11 (.bin 0 .eql (.t 87) (.t 89)),oG 91 86 true 12 (mT 90),oG 92 91 false 13 (mT 0),oG 93 91 false 14 (mT 7),oG 94 91 false 15 (.six (.t 92) (.t 93)),⟨(some 95),(.call 146 [(.t 94)]),(some (91,false)),16,false,[3]⟩,oG 96 91 false 17 (.un .not (.t 95)),oG 97 86 true 18 (.pick (.t 91) (cB true) (.t 96)),oI 98 19 (.pick (.t 86) (.t 97) (cB false)),oJ 20 (.store 3 (.t 4) (.t 84)),oI 5 21 (mT 98)] .ret))) .skip))))))))) (sqF [oP 99 (.build [(iS 0),(.str (bs [])),(iS 0)] []),oN (.store 3 (.t 4) (.t 99)),oP 5 (.mv (cB false))] .ret))))⟩
theorem tr138:trF Tryz.prog Tryz.f138=some af138:=by kernel_rfl
attribute [go_sem] af138
def af125:AF:=⟨36,[(.t 2),(.t 3),(.t 4)],(sqF [oP 2 (.mv (.c .nils)),oP 3 (.mv (cI 0)),oP 4 (.mv (cI 0))] (sqF [oP 5 (.mv (.c .nils))] (.seq (sqF [oP 9 (mT 0),oP 10 (.call 137 [(.t 9),(cI 0)]),oP 6 (mT 10)] (.blk 0 (.loop (.seq (sqF [oP 11 (mT 6),oP 12 (mT 0),oP 13 (.len true (.t 12)),oP 14 (.bin 0 .lss (.t 11) (.t 13))] (.cond (.t 14) .skip (.exit 0))) (.blk 1 (sqF [oP 16 (mT 0),oP 17 (mT 6),oP 18 (.call 138 [(.t 16),(.t 17)]),oP 15 (mT 18),oP 19 (.ext (.t 15) 0),oP 20 (.ext (.t 15) 1),oP 7 (.new [(iS 0),(.str (bs [])),(iS 0)]),oN (.store 3 (.t 7) (.t 19)),oP 8 (mT 20)] (.seq (sqF [oP 21 (mT 8),oP 22 (.un .not (.t 21))] (.cond (.t 22) (sqF [oP 23 (mT 6),oP 2 (.mv (.c .nils)),oP 3 (.mv (cI 2)),oP 4 (mT 23)] .ret) .skip)) (sqF [oP 24 (mT 5),oP 25 (.load true 3 (.t 7)),oP 26 (.bslice 3 [(.t 25)]),oP 27 (.app 3 32 (.t 24) (.t 26)),oP 5 (mT 27)] (rgF [oP 28 (mT 0),oP 29 (mT 6),oP 30 (fdT 1 7),oP 31 (ldT 30),oP 32 (.len true (.t 31)),oP 33 (.bin 0 .add (.t 29) (.t 32)),oP 34 (.call 137 [(.t 28),(.t 33)]),oP 6 (mT 34)]))))))))) (sqF [oP 35 (mT 5),oP 2 (mT 35),oP 3 (.mv (cI 0)),oP 4 (.mv (cI 0))] .ret))))⟩
theorem tr125:trF Tryz.prog Tryz.f125=some af125:=by kernel_rfl
attribute [go_sem] af125
def af97:AF:=⟨154,[(.t 2),(.t 3)],(sqF [oP 2 (.mv (.c .nils)),oP 3 (.mv (cI 0))] (sqF [oP 4 (.mv (.c .nils))] (sqF [oP 5 (.mv (cI 0))] (.seq (.blk 0 (.loop (.seq (sqF [oP 10 (mT 5),oP 11 (mT 0),oP 12 (.len true (.t 11)),oP 13 (.bin 0 .lss (.t 10) (.t 12))] (.cond (.t 13) .skip (.exit 0))) (.blk 1 (sqF [oP 14 (mT 0),oP 15 (mT 5),oP 16 (.six (.t 14) (.t 15)),oP 6 (mT 16)] (sqF [oP 17 (mT 5),oP 7 (mT 17)] (.seq (.blk 2 (sqF [oP 21 (mT 6),oP 22 (.bin 0 .eql (.t 21) (.c (.int .u8 32))),oP 23 (mT 22),oG 24 23 false 0 (mT 6),oG 25 23 false 0 (.bin 0 .eql (.t 24) (.c (.int .u8 9))),oP 26 (.pick (.t 23) (cB true) (.t 25)),oP 27 (mT 26),oG 28 27 false 0 (mT 6),oG 29 27 false 0 (.bin 0 .eql (.t 28) (.c (.int .u8 10))),oP 30 (.pick (.t 27) (cB true) (.t 29)),oP 20 (mT 30)] (.cond (.t 20) (sqF [oP 31 (mT 5),oP 32 (.bin 0 .add (.t 31) (cI 1)),oP 5 (mT 32)] (.exit 1)) (sqF [oP 34 (mT 6),oP 35 (.bin 0 .eql (.t 34) (.c (.int .u8 59))),oP 33 (mT 35)] (.cond (.t 33) (.seq (.blk 3 (.loop (.seq (sqF [oP 36 (mT 5),oP 37 (mT 0),oP 38 (.len true (.t 37)),oP 39 (.bin 0 .lss (.t 36) (.t 38)),oP 40 (mT 39),oG 41 40 true 0 (mT 0),oG 42 40 true 0 (mT 5),oG 43 40 true 0 (.six (.t 41) (.t 42)),oG 44 40 true 0 (.bin 0 .neq (.t 43) (.c (.int .u8 10))),oP 45 (.pick (.t 40) (.t 44) (cB false))] (.cond (.t 45) .skip (.exit 3))) (.blk 4 (rgF [oP 46 (mT 5),oP 47 (.bin 0 .add (.t 46) (cI 1)),oP 5 (mT 47)]))))) (.exit 1)) (sqF [oP 49 (mT 6),oP 50 (.bin 0 .eql (.t 49) (.c (.int .u8 40))),oP 48 (mT 50)] (.cond (.t 48) (sqF [oP 51 (mT 4),oP 52 (mT 5),oP 53 (.build [(iS 0),(.str (bs [])),(iS 0)] [(0,(1,(cI 1))),(1,(1,(.c (.str (bs [40]))))),(2,(1,(.t 52)))]),oP 54 (.bslice 3 [(.t 53)]),oP 55 (.app 3 32 (.t 51) (.t 54)),oP 4 (mT 55)] (sqF [oP 56 (mT 5),oP 57 (.bin 0 .add (.t 56) (cI 1)),oP 5 (mT 57)] (.exit 1))) (sqF [oP 59 (mT 6),oP 60 (.bin 0 .eql (.t 59) (.c (.int .u8 41))),oP 58 (mT 60)] (.cond (.t 58) (sqF [oP 61 (mT 4),oP 62 (mT 5),oP 63 (.build [(iS 0),(.str (bs [])),(iS 0)] [(0,(1,(cI 2))),(1,(1,(.c (.str (bs [41]))))),(2,(1,(.t 62)))]),oP 64 (.bslice 3 [(.t 63)]),oP 65 (.app 3 32 (.t 61) (.t 64)),oP 4 (mT 65)] (sqF [oP 66 (mT 5),oP 67 (.bin 0 .add (.t 66) (cI 1)),oP 5 (mT 67)] (.exit 1))) (sqF [oP 69 (mT 6),oP 70 (.call 115 [(.t 69)]),oP 68 (mT 70)] (.cond (.t 68) (.seq (.blk 5 (.loop (.seq (sqF [oP 71 (mT 7),oP 72 (mT 0),oP 73 (.len true (.t 72)),oP 74 (.bin 0 .lss (.t 71) (.t 73)),oP 75 (mT 74),oG 76 75 true 0 (mT 0),oG 77 75 true 0 (mT 7),oG 78 75 true 0 (.six (.t 76) (.t 77)),oG 79 75 true 0 (.call 115 [(.t 78)]),oG 80 75 true 0 (mT 79),oG 81 80 false 0 (mT 0),oG 82 80 false 0 (mT 7),oG 83 80 false 0 (.six (.t 81) (.t 82)),oG 84 80 false 0 (.call 116 [(.t 83)]),oG 85 75 true 0 (.pick (.t 80) (cB true) (.t 84)),oP 86 (.pick (.t 75) (.t 85) (cB false))] (.cond (.t 86) .skip (.exit 5))) (.blk 6 (rgF [oP 87 (mT 7),oP 88 (.bin 0 .add (.t 87) (cI 1)),oP 7 (mT 88)]))))) (.seq (sqF [oP 89 (mT 7),oP 90 (mT 5),oP 91 (.bin 0 .sub (.t 89) (.t 90)),oP 92 (.bin 0 .gtr (.t 91) (cI 20))] (.cond (.t 92) (sqF [oP 93 (mT 4),oP 94 (mT 5),oP 2 (mT 93),oP 3 (mT 94)] .ret) .skip)) (rgF [oP 95 (mT 4),oP 96 (mT 0),oP 97 (mT 5),oP 98 (mT 7),oP 99 (.slc 0 (.t 96) (some (.t 97)) (some (.t 98))),oP 100 (mT 5),oP 101 (.build [(iS 0),(.str (bs [])),(iS 0)] [(0,(1,(cI 3))),(1,(1,(.t 99))),(2,(1,(.t 100)))]),oP 102 (.bslice 3 [(.t 101)]),oP 103 (.app 3 32 (.t 95) (.t 102)),oP 4 (mT 103)]))) (sqF [oP 105 (mT 6),oP 106 (.call 116 [(.t 105)]),oP 104 (mT 106)] (.cond (.t 104) (.seq (.blk 7 (.loop (.seq (sqF [oP 107 (mT 7),oP 108 (mT 0),oP 109 (.len true (.t 108)),oP 110 (.bin 0 .lss (.t 107) (.t 109)),oP 111 (mT 110),oG 112 111 true 0 (mT 0),oG 113 111 true 0 (mT 7),oG 114 111 true 0 (.six (.t 112) (.t 113)),oG 115 111 true 0 (.call 116 [(.t 114)]),oP 116 (.pick (.t 111) (.t 115) (cB false))] (.cond (.t 116) .skip (.exit 7))) (.blk 8 (rgF [oP 117 (mT 7),oP 118 (.bin 0 .add (.t 117) (cI 1)),oP 7 (mT 118)]))))) (sqF [oP 120 (mT 0),oP 121 (mT 5),oP 122 (mT 7),oP 123 (.slc 0 (.t 120) (some (.t 121)) (some (.t 122))),oP 124 (.call 117 [(.t 123)]),oP 119 (mT 124),oP 125 (.ext (.t 119) 0),oP 126 (.ext (.t 119) 1),oP 8 (mT 125),oP 9 (mT 126)] (.seq (sqF [oP 127 (mT 9),oP 128 (.un .not (.t 127)),oP 129 (mT 128),oG 130 129 false 0 (mT 7),oG 131 129 false 0 (mT 0),oG 132 129 false 0 (.len true (.t 131)),oG 133 129 false 0 (.bin 0 .lss (.t 130) (.t 132)),oG 134 129 false 0 (mT 133),oG 135 134 true 0 (mT 0),oG 136 134 true 0 (mT 7),oG 137 134 true 0 (.six (.t 135) (.t 136)),oG 138 134 true 0 (.call 115 [(.t 137)]),oG 139 129 false 0 (.pick (.t 134) (.t 138) (cB false)),oP 140 (.pick (.t 129) (cB true) (.t 139))] (.cond (.t 140) (sqF [oP 141 (mT 4),oP 142 (mT 5),oP 2 (mT 141),oP 3 (mT 142)] .ret) .skip)) (rgF [oP 143 (mT 4),oP 144 (mT 0),oP 145 (mT 5),oP 146 (mT 7),oP 147 (.slc 0 (.t 144) (some (.t 145)) (some (.t 146))),oP 148 (mT 5),oP 149 (.build [(iS 0),(.str (bs [])),(iS 0)] [(0,(1,(cI 4))),(1,(1,(.t 147))),(2,(1,(.t 148)))]),oP 150 (.bslice 3 [(.t 149)]),oP 151 (.app 3 32 (.t 143) (.t 150)),oP 4 (mT 151)])))) (sqF [oP 18 (mT 4),oP 19 (mT 5),oP 2 (mT 18),oP 3 (mT 19)] .ret)))))))))))))) (rgF [oP 152 (mT 7),oP 5 (mT 152)])))))))) (sqF [oP 153 (mT 4),oP 2 (mT 153),oP 3 (.mv (cI (-1)))] .ret)))))⟩
theorem tr97:trF Tryz.prog Tryz.f97=some af97:=by kernel_rfl
attribute [go_sem] af97
def af117:AF:=⟨51,[(.t 2),(.t 3)],(sqF [oP 2 (.mv (cI 0)),oP 3 (.mv (cB false))] (.seq (sqF [oP 6 (mT 0),oP 7 (.len true (.t 6)),oP 8 (.bin 0 .eql (.t 7) (cI 0)),oP 9 (mT 8),oG 10 9 false 0 (mT 0),oG 11 9 false 0 (.len true (.t 10)),oG 12 9 false 0 (.bin 0 .gtr (.t 11) (cI 7)),oP 13 (.pick (.t 9) (cB true) (.t 12)),oP 14 (mT 13),oG 15 14 false 0 (mT 0),oG 16 14 false 0 (.len true (.t 15)),oG 17 14 false 0 (.bin 0 .gtr (.t 16) (cI 1)),oG 18 14 false 0 (mT 17),oG 19 18 true 0 (mT 0),oG 20 18 true 0 (.six (.t 19) (cI 0)),oG 21 18 true 0 (.bin 0 .eql (.t 20) (.c (.int .u8 48))),oG 22 14 false 0 (.pick (.t 18) (.t 21) (cB false)),oP 23 (.pick (.t 14) (cB true) (.t 22))] (.cond (.t 23) (sqF [oP 2 (.mv (cI 0)),oP 3 (.mv (cB false))] .ret) .skip)) (sqF [oP 4 (.mv (cI 0))] (.seq (sqF [oP 5 (.mv (cI 0))] (.blk 0 (.loop (.seq (sqF [oP 24 (mT 5),oP 25 (mT 0),oP 26 (.len true (.t 25)),oP 27 (.bin 0 .lss (.t 24) (.t 26))] (.cond (.t 27) .skip (.exit 0))) (.seq (.blk 1 (.seq (sqF [oP 30 (mT 0),oP 31 (mT 5),oP 32 (.six (.t 30) (.t 31)),oP 33 (.bin 0 .lss (.t 32) (.c (.int .u8 48))),oP 34 (mT 33),oG 35 34 false 0 (mT 0),oG 36 34 false 0 (mT 5),oG 37 34 false 0 (.six (.t 35) (.t 36)),oG 38 34 false 0 (.bin 0 .gtr (.t 37) (.c (.int .u8 57))),oP 39 (.pick (.t 34) (cB true) (.t 38))] (.cond (.t 39) (sqF [oP 2 (.mv (cI 0)),oP 3 (.mv (cB false))] .ret) .skip)) (rgF [oP 40 (mT 4),oP 41 (.bin 0 .mul (cI 10) (.t 40)),oP 42 (mT 0),oP 43 (mT 5),oP 44 (.six (.t 42) (.t 43)),oP 45 (.bin 0 .sub (.t 44) (.c (.int .u8 48))),oP 46 (.conv .i64 (.t 45)),oP 47 (.bin 0 .add (.t 41) (.t 46)),oP 4 (mT 47)]))) (rgF [oP 28 (mT 5),oP 29 (.bin 0 .add (.t 28) (cI 1)),oP 5 (mT 29)])))))) (.seq (sqF [oP 48 (mT 4),oP 49 (.bin 0 .gtr (.t 48) (cI 1000000))] (.cond (.t 49) (sqF [oP 2 (.mv (cI 0)),oP 3 (.mv (cB false))] .ret) .skip)) (sqF [oP 50 (mT 4),oP 2 (mT 50),oP 3 (.mv (cB true))] .ret))))))⟩
theorem tr117:trF Tryz.prog Tryz.f117=some af117:=by kernel_rfl
attribute [go_sem] af117
def af148:AF:=⟨47,[(.t 2),(.t 3)],(sqF [oP 2 (.mv (cI 0)),oP 3 (.mv (cB false))] (.seq (sqF [oP 6 (mT 0),oP 7 (.len true (.t 6)),oP 8 (.bin 0 .eql (.t 7) (cI 0)),oP 9 (mT 8),oG 10 9 false 0 (mT 0),oG 11 9 false 0 (.len true (.t 10)),oG 12 9 false 0 (.bin 0 .gtr (.t 11) (cI 7)),oP 13 (.pick (.t 9) (cB true) (.t 12))] (.cond (.t 13) (sqF [oP 2 (.mv (cI 0)),oP 3 (.mv (cB false))] .ret) .skip)) (sqF [oP 4 (.mv (cI 0))] (.seq (sqF [oP 14 (mT 0),oP 15 (.len true (.t 14)),oP 16 (.mv (cI 0))] (.blk 0 (.loop (sqF [oP 17 (.bin 0 .lss (.t 16) (.t 15))] (.seq (.cond (.t 17) .skip (.exit 0)) (.seq (.blk 1 (sqF [oP 18 (mT 16),oP 5 (mT 18)] (.seq (sqF [oP 19 (mT 0),oP 20 (mT 5),oP 21 (.six (.t 19) (.t 20)),oP 22 (.bin 0 .lss (.t 21) (.c (.int .u8 48))),oP 23 (mT 22),oG 24 23 false 0 (mT 0),oG 25 23 false 0 (mT 5),oG 26 23 false 0 (.six (.t 24) (.t 25)),oG 27 23 false 0 (.bin 0 .gtr (.t 26) (.c (.int .u8 57))),oP 28 (.pick (.t 23) (cB true) (.t 27))] (.cond (.t 28) (sqF [oP 2 (.mv (cI 0)),oP 3 (.mv (cB false))] .ret) .skip)) (rgF [oP 29 (mT 4),oP 30 (.bin 0 .mul (cI 10) (.t 29)),oP 31 (mT 0),oP 32 (mT 5),oP 33 (.six (.t 31) (.t 32)),oP 34 (.bin 0 .sub (.t 33) (.c (.int .u8 48))),oP 35 (.conv .i64 (.t 34)),oP 36 (.bin 0 .add (.t 30) (.t 35)),oP 4 (mT 36)])))) (rgF [oP 37 (.bin 0 .add (.t 16) (cI 1)),oP 16 (mT 37)]))))))) (.seq (sqF [oP 38 (mT 4),oP 39 (.bin 0 .gtr (.t 38) (cI 1000000)),oP 40 (mT 39),oG 41 40 false 0 (mT 4),oG 42 40 false 0 (.call 154 [(.t 41)]),oG 43 40 false 0 (mT 0),oG 44 40 false 0 (.bin 4 .neq (.t 42) (.t 43)),oP 45 (.pick (.t 40) (cB true) (.t 44))] (.cond (.t 45) (sqF [oP 2 (.mv (cI 0)),oP 3 (.mv (cB false))] .ret) .skip)) (sqF [oP 46 (mT 4),oP 2 (mT 46),oP 3 (.mv (cB true))] .ret))))))⟩
theorem tr148:trF Tryz.prog Tryz.f148=some af148:=by kernel_rfl
attribute [go_sem] af148
def af154:AF:=⟨5,[(.t 2)],(sqF [oP 2 (.mv (.c (.str (bs []))))] (sqF [oP 3 (mT 0),oP 4 (.call 159 [(.t 3)]),oP 2 (mT 4)] .ret))⟩
theorem tr154:trF Tryz.prog Tryz.f154=some af154:=by kernel_rfl
attribute [go_sem] af154
open Go Go.RowKit Go.Proofs.YtdpigpopcbjkmaaGreatDoor
def lw {α:Type} (S:α→St) (μ:α→Nat) (I:α→Prop) (a:α) (Q:AE→St→Prop):AE→St→Prop:=fun e s'=>match e with|.normal=>∃a',(μ a'<μ a∧I a')∧Wk s' (S a')|e=>Q e s'
theorem lw_n {α:Type} {S:α→St} {μ:α→Nat} {I:α→Prop} {a:α} {Q:AE→St→Prop} {s:St}:lw S μ I a Q .normal s=∃a',(μ a'<μ a∧I a')∧Wk s (S a'):=Eq.trans rfl rfl
theorem lw_e {α:Type} {S:α→St} {μ:α→Nat} {I:α→Prop} {a:α} {Q:AE→St→Prop} {s:St} {j:Nat}:lw S μ I a Q (.exit j) s=Q (.exit j) s:=Eq.trans rfl rfl
theorem lw_r {α:Type} {S:α→St} {μ:α→Nat} {I:α→Prop} {a:α} {Q:AE→St→Prop} {s:St}:lw S μ I a Q .ret s=Q .ret s:=Eq.trans rfl rfl
attribute [go_sem] lw_n lw_e lw_r
theorem Vb {C:CT} {b:AC} {Q:AE→St→Prop} {α:Type} (S:α→St) (μ:α→Nat) (I:α→Prop) (Ow:∀a,I a→vc C b (lw S μ I a Q) (S a)) {s:St} (a0:α) (hI:I a0) (h0:Wk s (S a0)):vc C (.loop b) Q s:=by
 refine Adn (fun m s=>∃a,(m=μ a∧I a)∧Wk s (S a)) (fun m s hI=>?_) (μ a0) s ⟨a0,⟨rfl,hI⟩,h0⟩
 obtain⟨a,⟨rfl,hI⟩,hw⟩:=hI
 refine⟨S a,hw,Uw (fun e s' he=>?_) (Ow a hI)⟩
 cases e with
 |normal=>
  obtain⟨a',⟨h1,h2⟩,h3⟩:=he
  exact⟨μ a',h1,a',⟨rfl,h2⟩,h3⟩
 |exit id=>exact he
 |ret=>exact he
theorem Agv (a b:Nat):((a:Int)==(b:Int))=decide (a=b):=by
 by_cases h:a=b
 ·subst h;simp
 ·simp [h,Int.natCast_inj]
def chN (l:By) (p:Nat):Nat:=(l.getD p 0).toNat
theorem Ca (l:By) (p:Nat):Vk (bs l) p=((chN l p:Nat):Int):=Aj9 l p
theorem Xi (n:Nat):Con 146 [.int .u8 n] (.bool (Ij n)):=by
 refine Al mixed Tryz.func146 tr146 ?_
 unfold Ij
 by_cases h1:97≤n<;>by_cases h2:n≤122<;>by_cases h3:65≤n<;>by_cases h4:n≤90 <;>
  simp only [go_sem,seval,h1,h2,h3,h4,show ((97:Int)≤(n:Int))=(97≤n) from propext (by omega),show ((n:Int)≤122)=(n≤122) from propext (by omega),show ((65:Int)≤(n:Int))=(65≤n) from propext (by omega),show ((n:Int)≤90)=(n≤90) from propext (by omega),decide_true,decide_false,Bool.and_true,Bool.and_false,Bool.or_true,Bool.or_false,Bool.true_and,Bool.false_and,Bool.false_or,Bool.true_or]
theorem o7 (n:Nat):Con 147 [.int .u8 n] (.bool (Pp n)):=by
 refine Al mixed Tryz.func147 tr147 ?_
 unfold Pp
 by_cases h1:48≤n<;>by_cases h2:n≤57 <;>
  simp only [go_sem,seval,h1,h2,show ((48:Int)≤(n:Int))=(48≤n) from propext (by omega),show ((n:Int)≤57)=(n≤57) from propext (by omega),decide_true,decide_false,Bool.and_true,Bool.and_false,Bool.true_and,Bool.false_and]
theorem Nt (n:Nat):Con 115 [.int .u8 n] (.bool (Ij n)):=by
 refine Al mixed Tryz.func115 tr115 ?_
 unfold Ij
 by_cases h1:97≤n<;>by_cases h2:n≤122<;>by_cases h3:65≤n<;>by_cases h4:n≤90 <;>
  simp only [go_sem,seval,h1,h2,h3,h4,ge_iff_le,show ((97:Int)≤(n:Int))=(97≤n) from propext (by omega),show ((n:Int)≤122)=(n≤122) from propext (by omega),show ((65:Int)≤(n:Int))=(65≤n) from propext (by omega),show ((n:Int)≤90)=(n≤90) from propext (by omega),decide_true,decide_false,Bool.and_true,Bool.and_false,Bool.or_true,Bool.or_false,Bool.true_and,Bool.false_and,Bool.false_or,Bool.true_or]
theorem Nu (n:Nat):Con 116 [.int .u8 n] (.bool (Pp n)):=by
 refine Al mixed Tryz.func116 tr116 ?_
 unfold Pp
 by_cases h1:48≤n<;>by_cases h2:n≤57 <;>
  simp only [go_sem,seval,h1,h2,ge_iff_le,show ((48:Int)≤(n:Int))=(48≤n) from propext (by omega),show ((n:Int)≤57)=(n≤57) from propext (by omega),decide_true,decide_false,Bool.and_true,Bool.and_false,Bool.true_and,Bool.false_and]
def Alg (l:By) (p q:Nat):Prop:=p≤q∧q≤l.length∧(∀r,p≤r→r<q→chN l r=32)∧(q<l.length→chN l q≠32∧chN l q≠9∧chN l q≠10∧chN l q≠59)
theorem Hi {a b:Nat} (h:a≠b):((a:Int)==(b:Int))=false:=by rw [Agv];simp [h]
theorem Adc (l:By) (hl:l.length<1000000000000) {p q:Nat} (h:Alg l p q):Con 137 [.str (bs l),.int .i64 p] (.int .i64 q):=by
 obtain⟨h1,h2,h3,h4⟩:=h
 refine Al mixed Tryz.func137 tr137 ?_
 simp only [go_sem,seval]
 refine Vb (fun a:Nat=>⟨(.str (bs l)::.int .i64 a::.jk::.jk::.int .i64 0::.jk::.jk::.jk::.jk::.jk::.jk::.jk::.jk::.jk::.jk::.jk::.jk::.jk::.jk::.jk::.jk::.jk::.jk::.jk::.jk::.jk::.jk::.jk::.jk::.jk::.jk::.jk::.jk::.jk::[]),[]⟩) (fun a=>q-a) (fun a=>p≤a∧a≤q) (fun a ha=>?_) p ⟨Nat.le_refl _,h1⟩ (As (by simp [Ao]))
 by_cases hq:a<q
 ·have hc:=h3 a ha.1 hq
  have e0:(0:Int)≤(a:Int):=by omega
  have e1:(a:Int)<(l.length:Int):=by omega
  have e2:a<l.length:=by omega
  simp only [go_sem,seval,Ca,e0,e1,e2,hc]
  refine⟨a+1,⟨by omega,by omega⟩,?_⟩
  rw [show ((a:Int)+1)=((a+1:Nat):Int) by omega,w64 (by unfold fit;omega)]
  exact As (by simp [Ao])
 ·have:a=q:=by omega
  subst this
  by_cases Ab:a<l.length
  ·obtain⟨c1,c2,c3,c4⟩:=h4 Ab
   have e0:(0:Int)≤(a:Int):=by omega
   have e1:(a:Int)<(l.length:Int):=by omega
   have d1:=Hi c1
   have d2:=Hi c2
   have d3:=Hi c3
   have d4:=Hi c4
   simp only [go_sem,seval,Ca,e0,e1,Ab]
   simp only [Int.cast_ofNat_Int] at d1 d2 d3 d4
   simp only [go_sem,seval,d1,d2,d3,d4]
  ·have e1:¬(a:Int)<(l.length:Int):=by omega
   simp only [go_sem,seval,e1]
end Go.Proofs.YtdpigpopcbjkmaaGreatDoor.Abs
namespace Go.Proofs.YtdpigpopcbjkmaaGreatDoor.Nrm
open Go Go.RowKit
theorem fmt_zero (w:World):Calls Tryz.prog 163 #[.int .i64 0,.int .i64 10] w fun e w'=>e=.returned (.string ⟨#[48]⟩)∧w'=w:=by
 go_enter Tryz.func163,Tryz.ntmps163
 go_wp2
 all_goals
  go_ret
  exact⟨by kernel_rfl,rfl⟩
end Go.Proofs.YtdpigpopcbjkmaaGreatDoor.Nrm
namespace Go.Proofs.YtdpigpopcbjkmaaGreatDoor.Abs
open Go Go.Proofs Go.Proofs.YtdpigpopcbjkmaaGreatDoor
def af159:AF:=⟨5,[(.t 2)],(sqF [oP 2 (.mv (.c (.str (bs []))))] (sqF [oP 3 (mT 0),oP 4 (.call 162 [(.t 3)]),oP 2 (mT 4)] .ret))⟩
theorem tr159:trF Tryz.prog Tryz.f159=some af159:=by kernel_rfl
attribute [go_sem] af159
def af162:AF:=⟨5,[(.t 2)],(sqF [oP 2 (.mv (.c (.str (bs []))))] (sqF [oP 3 (mT 0),oP 4 (.call 163 [(.t 3),(cI 10)]),oP 2 (mT 4)] .ret))⟩
theorem tr162:trF Tryz.prog Tryz.f162=some af162:=by kernel_rfl
attribute [go_sem] af162
end Go.Proofs.YtdpigpopcbjkmaaGreatDoor.Abs
