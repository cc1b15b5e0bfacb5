import Derived.Test.YtdpigpopcbjkmaaGreatDoorXEv
import Derived.Test.YtdpigpopcbjkmaaGreatDoorProg
import Derived.KernelRfl
import Derived.Test.YtdpigpopcbjkmaaGreatDoorXBi
set_option linter.unusedSimpArgs false
set_option linter.unusedVariables false
set_option maxRecDepth 20000
set_option maxHeartbeats 4000000
namespace Go.Proofs.YtdpigpopcbjkmaaGreatDoor.Abs
open Go Go.Proofs Go.Proofs.YtdpigpopcbjkmaaGreatDoor
def af126:AF:=⟨101,[(.cell 8 true 5),(.t 9),(.t 10)],(sqF [oP 8 (.new [(iS 0),(iS 0),(iS 0),(iS 0),.nils]),oP 9 (.mv (cI 0)),oP 10 (.mv (cI 0))] (.seq (sqF [oP 16 (mT 2),oP 17 (.bin 0 .lss (.t 16) (cI 0)),oP 18 (mT 17),oG 19 18 false 0 (mT 2),oG 20 18 false 0 (.bin 0 .gtr (.t 19) (cI 1000)),oP 21 (.pick (.t 18) (cB true) (.t 20)),oP 22 (mT 21),oG 23 22 false 0 (mT 3),oG 24 22 false 0 (.bin 0 .lss (.t 23) (cI 0)),oP 25 (.pick (.t 22) (cB true) (.t 24)),oP 26 (mT 25),oG 27 26 false 0 (mT 3),oG 28 26 false 0 (.bin 0 .gtr (.t 27) (cI 1000)),oP 29 (.pick (.t 26) (cB true) (.t 28))] (.cond (.t 29) (sqF [oP 30 (.build [(iS 0),(iS 0),(iS 0),(iS 0),.nils] []),oN (.store 5 (.t 8) (.t 30)),oP 9 (.mv (cI 1)),oP 10 (.mv (cI 0))] .ret) .skip)) (sqF [oP 31 (mT 0),oP 32 (.len true (.t 31)),oP 33 (mT 1),oP 34 (mT 2),oP 35 (mT 3),oP 36 (.build [.nils,(iS 0),(iS 0),.nils,(iS 0),(iS 0),(.bool false),(iS 0)] [(2,(1,(.t 32))),(3,(1,(.t 33))),(4,(1,(.t 34))),(5,(1,(.t 35)))]),oP 37 (.boxg (.t 36)),oP 11 (mT 37)] (sqF [oP 39 (mT 0),oP 40 (.call 125 [(.t 39)]),oP 38 (mT 40),oP 41 (.ext (.t 38) 0),oP 42 (.ext (.t 38) 1),oP 43 (.ext (.t 38) 2),oP 12 (mT 41),oP 13 (mT 42),oP 14 (mT 43)] (.seq (sqF [oP 44 (mT 13),oP 45 (.bin 0 .neq (.t 44) (cI 0))] (.cond (.t 45) (sqF [oP 46 (mT 11),oP 47 (mT 14),oP 48 (nkT 46),oP 49 (fdT 2 48),oN (.store 1 (.t 49) (.t 47))] (rgF [oP 51 (mT 0),oP 52 (mT 14),oP 53 (.slc 0 (.t 51) none (some (.t 52))),oP 54 (.call 125 [(.t 53)]),oP 50 (mT 54),oP 55 (.ext (.t 50) 0),oP 56 (.ext (.t 50) 1),oP 57 (.ext (.t 50) 2),oP 12 (mT 55)])) .skip)) (sqF [oP 58 (mT 11),oP 59 (mT 12),oP 60 (nkT 58),oP 61 (fdT 0 60),oN (.store 1 (.t 61) (.t 59))] (sqF [oP 62 (mT 11),oP 63 (.hcall 139 [(.t 62),(cI 0)]),oP 15 (.new [(iS 0),(iS 0),(iS 0),(iS 0),.nils]),oN (.store 5 (.t 15) (.t 63))] (.seq (sqT [oP 64 (mT 11),oI 65 1 (nkT 64),oI 66 2 (fdT 6 65),oI 67 3 (ldT 66),oI 68 4 (.un .not (.t 67)),oI 69 5 (mT 68),oG 70 69 true 6 (mT 11),oG 71 69 true 7 (nkT 70),oG 72 69 true 8 (fdT 1 71),oG 73 69 true 9 (ldT 72),oG 74 69 true 10 (mT 11),oG 75 69 true 11 (nkT 74),oG 76 69 true 12 (fdT 0 75),oG 77 69 true 13 (ldT 76),oG 78 69 true 14 (.len false (.t 77)),oG 79 69 true 15 (.bin 0 .lss (.t 73) (.t 78)),oG 80 69 true 16 (mT 79),oG 81 80 false 17 (mT 13),oG 82 80 false 18 (.bin 0 .neq (.t 81) (cI 0)),oG 83 69 true 19 (.pick (.t 80) (cB true) (.t 82)),oI 84 20 (.pick (.t 69) (.t 83) (cB false))] (.cond (.t 84) (rgF [oP 85 (mT 11),oP 86 (mT 11),oP 87 (nkT 86),oP 88 (fdT 1 87),oP 89 (ldT 88),oP 90 (.hcall 140 [(.t 85),(.t 89)])]) .skip)) (.seq (sqF [oP 91 (mT 11),oP 92 (nkT 91),oP 93 (fdT 6 92),oP 94 (ldT 93)] (.cond (.t 94) (sqT [oP 95 (.build [(iS 0),(iS 0),(iS 0),(iS 0),.nils] []),oI 96 1 (mT 11),oI 97 2 (nkT 96),oI 98 3 (fdT 7 97),⟨(some 99),(ldT 98),none,4,true,[]⟩,⟨none,(.store 5 (.t 8) (.t 95)),none,5,false,[4]⟩,oI 9 6 (.mv (cI 2)),oI 10 7 (mT 99)] .ret) .skip)) (sqF [oP 100 (.load true 5 (.t 15)),oN (.store 5 (.t 8) (.t 100)),oP 9 (.mv (cI 0)),oP 10 (.mv (cI 0))] .ret))))))))))⟩
theorem tr126:trF Tryz.prog Tryz.f126=some af126:=by kernel_rfl
attribute [go_sem] af126
def af139:AF:=⟨94,[(.cell 4 true 5)],(sqF [oP 4 (.new [(iS 0),(iS 0),(iS 0),(iS 0),.nils])] (.seq (.blk 0 (sqF [oP 9 (mT 0),oP 10 (nkT 9),oP 11 (fdT 6 10),oP 12 (ldT 11),oP 8 (mT 12)] (.cond (.t 8) (sqF [oP 13 (.build [(iS 0),(iS 0),(iS 0),(iS 0),.nils] []),oN (.store 5 (.t 4) (.t 13))] .ret) (sqT [oP 15 (mT 0),oI 16 1 (nkT 15),oI 17 2 (fdT 1 16),oI 18 3 (ldT 17),oI 19 4 (mT 0),oI 20 5 (nkT 19),oI 21 6 (fdT 0 20),oI 22 7 (ldT 21),oI 23 8 (.len false (.t 22)),oI 24 9 (.bin 0 .geq (.t 18) (.t 23)),oI 14 10 (mT 24)] (.cond (.t 14) (sqF [oP 25 (mT 0),oP 26 (mT 0),oP 27 (nkT 26),oP 28 (fdT 1 27),oP 29 (ldT 28),oP 30 (.hcall 140 [(.t 25),(.t 29)])] (sqF [oP 31 (.build [(iS 0),(iS 0),(iS 0),(iS 0),.nils] []),oN (.store 5 (.t 4) (.t 31))] .ret)) (sqT [oP 33 (mT 0),oI 34 1 (nkT 33),oI 35 2 (fdT 0 34),oI 36 3 (ldT 35),oI 37 4 (mT 0),oI 38 5 (nkT 37),oI 39 6 (fdT 1 38),oI 40 7 (ldT 39),oI 41 8 (.iad 3 (.t 36) (.t 40)),oI 42 9 (fdT 0 41),oI 43 10 (ldT 42),oI 44 11 (.bin 0 .eql (.t 43) (cI 3)),oI 32 12 (mT 44)] (.cond (.t 32) (sqF [oP 45 (mT 0),oP 46 (.hcall 149 [(.t 45)]),oN (.store 5 (.t 4) (.t 46))] .ret) .skip))))))) (sqF [oP 47 (mT 0),oP 48 (.hcall 150 [(.t 47),(cI 1)])] (sqF [oP 49 (mT 0),oP 50 (nkT 49),oP 51 (fdT 1 50),oP 52 (ldT 51),oP 5 (mT 52)] (sqF [oP 54 (mT 0),oP 55 (.hcall 150 [(.t 54),(cI 3)]),oP 56 (.call 151 [(.t 55)]),oP 53 (mT 56),oP 57 (.ext (.t 53) 0),oP 58 (.ext (.t 53) 1),oP 6 (mT 57),oP 7 (mT 58)] (.seq (sqF [oP 59 (mT 0),oP 60 (nkT 59),oP 61 (fdT 6 60),oP 62 (ldT 61)] (.cond (.t 62) (sqF [oP 63 (.build [(iS 0),(iS 0),(iS 0),(iS 0),.nils] []),oN (.store 5 (.t 4) (.t 63))] .ret) .skip)) (.seq (sqF [oP 64 (mT 6),oP 65 (.bin 0 .eql (.t 64) (cI 0)),oP 66 (mT 65),oG 67 66 false 0 (mT 1),oG 68 66 false 0 (.bin 0 .eql (.t 67) (cI 1)),oG 69 66 false 0 (mT 68),oG 70 69 true 0 (mT 6),oG 71 69 true 0 (.bin 0 .gtr (.t 70) (cI 12)),oG 72 66 false 0 (.pick (.t 69) (.t 71) (cB false)),oP 73 (.pick (.t 66) (cB true) (.t 72)),oP 74 (mT 73),oG 75 74 false 0 (mT 1),oG 76 74 false 0 (.bin 0 .eql (.t 75) (cI 2)),oG 77 74 false 0 (mT 76),oG 78 77 true 0 (mT 6),oG 79 77 true 0 (.bin 0 .gtr (.t 78) (cI 2)),oG 80 74 false 0 (.pick (.t 77) (.t 79) (cB false)),oG 81 74 false 0 (mT 80),oG 82 81 true 0 (mT 6),oG 83 81 true 0 (.bin 0 .leq (.t 82) (cI 12)),oG 84 74 false 0 (.pick (.t 81) (.t 83) (cB false)),oP 85 (.pick (.t 74) (cB true) (.t 84))] (.cond (.t 85) (sqF [oP 86 (mT 0),oP 87 (mT 5),oP 88 (.hcall 140 [(.t 86),(.t 87)])] (sqF [oP 89 (.build [(iS 0),(iS 0),(iS 0),(iS 0),.nils] []),oN (.store 5 (.t 4) (.t 89))] .ret)) .skip)) (sqF [oP 90 (mT 0),oP 91 (mT 6),oP 92 (mT 7),oP 93 (.hcall 152 [(.t 90),(.t 91),(.t 92)]),oN (.store 5 (.t 4) (.t 93))] .ret))))))))⟩
theorem tr139:trF Tryz.prog Tryz.f139=some af139:=by kernel_rfl
attribute [go_sem] af139
def af149:AF:=⟨56,[(.cell 2 true 5)],(sqF [oP 2 (.new [(iS 0),(iS 0),(iS 0),(iS 0),.nils])] (.seq (sqF [oP 4 (mT 0),oP 5 (nkT 4),oP 6 (fdT 3 5),oP 7 (ldT 6),oP 8 (.len false (.t 7)),oP 9 (.bin 0 .sub (.t 8) (cI 1)),oP 3 (mT 9)] (.blk 0 (.loop (.seq (sqF [oP 10 (mT 3),oP 11 (.bin 0 .geq (.t 10) (cI 0))] (.cond (.t 11) .skip (.exit 0))) (.seq (.blk 1 (sqT [oP 14 (mT 0),oI 15 1 (nkT 14),oI 16 2 (fdT 3 15),oI 17 3 (ldT 16),oI 18 4 (mT 3),oI 19 5 (.iad 1 (.t 17) (.t 18)),oI 20 6 (ldT 19),oI 21 7 (mT 0),oI 22 8 (nkT 21),oI 23 9 (fdT 0 22),oI 24 10 (ldT 23),oI 25 11 (mT 0),oI 26 12 (nkT 25),oI 27 13 (fdT 1 26),oI 28 14 (ldT 27),oI 29 15 (.iad 3 (.t 24) (.t 28)),oI 30 16 (fdT 1 29),oI 31 17 (ldT 30),oI 32 18 (.bin 4 .eql (.t 20) (.t 31))] (.cond (.t 32) (sqF [oP 33 (mT 0),oP 34 (nkT 33),oP 35 (fdT 1 34),oP 36 (ldT 35),oP 37 (.bin 0 .add (.t 36) (cI 1)),oP 38 (nkT 33),oP 39 (fdT 1 38),oN (.store 1 (.t 39) (.t 37))] (sqF [oP 40 (mT 0),oP 41 (nkT 40),oP 42 (fdT 3 41),oP 43 (ldT 42),oP 44 (.len false (.t 43)),oP 45 (.bin 0 .sub (.t 44) (cI 1)),oP 46 (mT 3),oP 47 (.bin 0 .sub (.t 45) (.t 46)),oP 48 (.build [(iS 0),(iS 0),(iS 0),(iS 0),.nils] [(0,(1,(cI 2))),(1,(1,(.t 47)))]),oN (.store 5 (.t 2) (.t 48))] .ret)) .skip))) (rgF [oP 12 (mT 3),oP 13 (.bin 0 .sub (.t 12) (cI 1)),oP 3 (mT 13)])))))) (sqF [oP 49 (mT 0),oP 50 (mT 0),oP 51 (nkT 50),oP 52 (fdT 1 51),oP 53 (ldT 52),oP 54 (.hcall 140 [(.t 49),(.t 53)])] (sqF [oP 55 (.build [(iS 0),(iS 0),(iS 0),(iS 0),.nils] []),oN (.store 5 (.t 2) (.t 55))] .ret))))⟩
theorem tr149:trF Tryz.prog Tryz.f149=some af149:=by kernel_rfl
attribute [go_sem] af149
def af150:AF:=⟨61,[(.t 4)],(sqF [oP 4 (.mv (.c (.str (bs []))))] (.seq (sqT [oP 5 (mT 0),oI 6 1 (nkT 5),oI 7 2 (fdT 6 6),oI 8 3 (ldT 7),oI 9 4 (mT 8),oG 10 9 false 5 (mT 0),oG 11 9 false 6 (nkT 10),oG 12 9 false 7 (fdT 1 11),oG 13 9 false 8 (ldT 12),oG 14 9 false 9 (mT 0),oG 15 9 false 10 (nkT 14),oG 16 9 false 11 (fdT 0 15),oG 17 9 false 12 (ldT 16),oG 18 9 false 13 (.len false (.t 17)),oG 19 9 false 14 (.bin 0 .geq (.t 13) (.t 18)),oI 20 15 (.pick (.t 9) (cB true) (.t 19)),oI 21 16 (mT 20),oG 22 21 false 17 (mT 0),oG 23 21 false 18 (nkT 22),oG 24 21 false 19 (fdT 0 23),oG 25 21 false 20 (ldT 24),oG 26 21 false 21 (mT 0),oG 27 21 false 22 (nkT 26),oG 28 21 false 23 (fdT 1 27),oG 29 21 false 24 (ldT 28),oG 30 21 false 25 (.iad 3 (.t 25) (.t 29)),oG 31 21 false 26 (fdT 0 30),oG 32 21 false 27 (ldT 31),oG 33 21 false 28 (mT 1),oG 34 21 false 29 (.bin 0 .neq (.t 32) (.t 33)),oI 35 30 (.pick (.t 21) (cB true) (.t 34))] (.cond (.t 35) (sqF [oP 36 (mT 0),oP 37 (mT 0),oP 38 (nkT 37),oP 39 (fdT 1 38),oP 40 (ldT 39),oP 41 (.hcall 140 [(.t 36),(.t 40)])] (sqF [oP 4 (.mv (.c (.str (bs []))))] .ret)) .skip)) (sqF [oP 42 (mT 0),oP 43 (nkT 42),oP 44 (fdT 1 43),oP 45 (ldT 44),oP 46 (.bin 0 .add (.t 45) (cI 1)),oP 47 (nkT 42),oP 48 (fdT 1 47),oN (.store 1 (.t 48) (.t 46))] (sqT [oP 49 (mT 0),oI 50 1 (nkT 49),oI 51 2 (fdT 0 50),oI 52 3 (ldT 51),oI 53 4 (mT 0),oI 54 5 (nkT 53),oI 55 6 (fdT 1 54),oI 56 7 (ldT 55),oI 57 8 (.bin 0 .sub (.t 56) (cI 1)),oI 58 9 (.iad 3 (.t 52) (.t 57)),oI 59 10 (fdT 1 58),oI 60 11 (ldT 59),oI 4 12 (mT 60)] .ret))))⟩
theorem tr150:trF Tryz.prog Tryz.f150=some af150:=by kernel_rfl
attribute [go_sem] af150
def af151:AF:=⟨31,[(.t 2),(.t 3)],(sqF [oP 2 (.mv (cI 0)),oP 3 (.mv (.c (.str (bs []))))] (.seq (sqF [oP 4 (mT 0)] (.blk 0 (sqF [oP 6 (.bin 4 .eql (.t 4) (.c (.str (bs [115,111,114,116])))),oP 5 (mT 6)] (.cond (.t 5) (sqF [oP 2 (.mv (cI 1)),oP 3 (.mv (.c (.str (bs [76]))))] .ret) (sqF [oP 8 (.bin 4 .eql (.t 4) (.c (.str (bs [112,105])))),oP 7 (mT 8)] (.cond (.t 7) (sqF [oP 2 (.mv (cI 3)),oP 3 (.mv (.c (.str (bs [76,77,120,116,98]))))] .ret) (sqF [oP 10 (.bin 4 .eql (.t 4) (.c (.str (bs [108,97,109])))),oP 9 (mT 10)] (.cond (.t 9) (sqF [oP 2 (.mv (cI 4)),oP 3 (.mv (.c (.str (bs [76,77,120,116,98,98]))))] .ret) (sqF [oP 12 (.bin 4 .eql (.t 4) (.c (.str (bs [97,112,112])))),oP 11 (mT 12)] (.cond (.t 11) (sqF [oP 2 (.mv (cI 5)),oP 3 (.mv (.c (.str (bs [76,77,120,116,98,116,116]))))] .ret) (sqF [oP 14 (.bin 4 .eql (.t 4) (.c (.str (bs [115,105,103])))),oP 13 (mT 14)] (.cond (.t 13) (sqF [oP 2 (.mv (cI 6)),oP 3 (.mv (.c (.str (bs [76,77,120,116,98]))))] .ret) (sqF [oP 16 (.bin 4 .eql (.t 4) (.c (.str (bs [112,97,105,114])))),oP 15 (mT 16)] (.cond (.t 15) (sqF [oP 2 (.mv (cI 7)),oP 3 (.mv (.c (.str (bs [76,77,120,116,98,116,116]))))] .ret) (sqF [oP 18 (.bin 4 .eql (.t 4) (.c (.str (bs [102,115,116])))),oP 17 (mT 18)] (.cond (.t 17) (sqF [oP 2 (.mv (cI 8)),oP 3 (.mv (.c (.str (bs [76,77,120,116,98,116]))))] .ret) (sqF [oP 20 (.bin 4 .eql (.t 4) (.c (.str (bs [115,110,100])))),oP 19 (mT 20)] (.cond (.t 19) (sqF [oP 2 (.mv (cI 9)),oP 3 (.mv (.c (.str (bs [76,77,120,116,98,116]))))] .ret) (sqF [oP 22 (.bin 4 .eql (.t 4) (.c (.str (bs [101,113])))),oP 21 (mT 22)] (.cond (.t 21) (sqF [oP 2 (.mv (cI 10)),oP 3 (.mv (.c (.str (bs [76,116,116,116]))))] .ret) (sqF [oP 24 (.bin 4 .eql (.t 4) (.c (.str (bs [114,101,102,108])))),oP 23 (mT 24)] (.cond (.t 23) (sqF [oP 2 (.mv (cI 11)),oP 3 (.mv (.c (.str (bs [76,116,116]))))] .ret) (sqF [oP 26 (.bin 4 .eql (.t 4) (.c (.str (bs [116,114])))),oP 25 (mT 26)] (.cond (.t 25) (sqF [oP 2 (.mv (cI 12)),oP 3 (.mv (.c (.str (bs [76,116,116,112,116]))))] .ret) .skip)))))))))))))))))))))))) (sqF [oP 27 (mT 0),oP 28 (.call 155 [(.t 27)]),oP 29 (.ext (.t 28) 0),oP 30 (.ext (.t 28) 1),oP 2 (mT 29),oP 3 (mT 30)] .ret)))⟩
theorem tr151:trF Tryz.prog Tryz.f151=some af151:=by kernel_rfl
attribute [go_sem] af151
def af155:AF:=⟨27,[(.t 2),(.t 3)],(sqF [oP 2 (.mv (cI 0)),oP 3 (.mv (.c (.str (bs []))))] (.seq (sqF [oP 4 (mT 0)] (.blk 0 (sqF [oP 6 (.bin 4 .eql (.t 4) (.c (.str (bs [80,105])))),oP 5 (mT 6)] (.cond (.t 5) (sqF [oP 2 (.mv (cI 13)),oP 3 (.mv (.c (.str (bs [120,116,98]))))] .ret) (sqF [oP 8 (.bin 4 .eql (.t 4) (.c (.str (bs [76,97,109])))),oP 7 (mT 8)] (.cond (.t 7) (sqF [oP 2 (.mv (cI 14)),oP 3 (.mv (.c (.str (bs [120,116,98]))))] .ret) (sqF [oP 10 (.bin 4 .eql (.t 4) (.c (.str (bs [65,112,112])))),oP 9 (mT 10)] (.cond (.t 9) (sqF [oP 2 (.mv (cI 15)),oP 3 (.mv (.c (.str (bs [116,116]))))] .ret) (sqF [oP 12 (.bin 4 .eql (.t 4) (.c (.str (bs [83,105,103])))),oP 11 (mT 12)] (.cond (.t 11) (sqF [oP 2 (.mv (cI 16)),oP 3 (.mv (.c (.str (bs [120,116,98]))))] .ret) (sqF [oP 14 (.bin 4 .eql (.t 4) (.c (.str (bs [80,97,105,114])))),oP 13 (mT 14)] (.cond (.t 13) (sqF [oP 2 (.mv (cI 17)),oP 3 (.mv (.c (.str (bs [120,116,98,116,116]))))] .ret) (sqF [oP 16 (.bin 4 .eql (.t 4) (.c (.str (bs [70,115,116])))),oP 15 (mT 16)] (.cond (.t 15) (sqF [oP 2 (.mv (cI 18)),oP 3 (.mv (.c (.str (bs [116]))))] .ret) (sqF [oP 18 (.bin 4 .eql (.t 4) (.c (.str (bs [83,110,100])))),oP 17 (mT 18)] (.cond (.t 17) (sqF [oP 2 (.mv (cI 19)),oP 3 (.mv (.c (.str (bs [116]))))] .ret) (sqF [oP 20 (.bin 4 .eql (.t 4) (.c (.str (bs [69,113])))),oP 19 (mT 20)] (.cond (.t 19) (sqF [oP 2 (.mv (cI 20)),oP 3 (.mv (.c (.str (bs [116,116,116]))))] .ret) (sqF [oP 22 (.bin 4 .eql (.t 4) (.c (.str (bs [82,101,102,108])))),oP 21 (mT 22)] (.cond (.t 21) (sqF [oP 2 (.mv (cI 21)),oP 3 (.mv (.c (.str (bs [116,116]))))] .ret) (sqF [oP 24 (.bin 4 .eql (.t 4) (.c (.str (bs [74])))),oP 23 (mT 24)] (.cond (.t 23) (sqF [oP 2 (.mv (cI 22)),oP 3 (.mv (.c (.str (bs [116,116,121,101,80,116,116,116]))))] .ret) (sqF [oP 26 (.bin 4 .eql (.t 4) (.c (.str (bs [117,115,101])))),oP 25 (mT 26)] (.cond (.t 25) (sqF [oP 2 (.mv (cI 23)),oP 3 (.mv (.c (.str (bs [83,76,77]))))] .ret) .skip)))))))))))))))))))))))) (sqF [oP 2 (.mv (cI 0)),oP 3 (.mv (.c (.str (bs []))))] .ret)))⟩
theorem tr155:trF Tryz.prog Tryz.f155=some af155:=by kernel_rfl
attribute [go_sem] af155
def af152:AF:=⟨122,[(.cell 6 true 5)],(sqF [oP 6 (.new [(iS 0),(iS 0),(iS 0),(iS 0),.nils])] (sqF [oP 12 (mT 1),oP 13 (.build [(iS 0),(iS 0),(iS 0),(iS 0),.nils] [(0,(1,(.t 12)))]),oP 14 (mT 0),oP 15 (nkT 14),oP 16 (fdT 3 15),oP 17 (ldT 16),oP 7 (.new [(iS 0),(iS 0),(iS 0),(iS 0),.nils]),oN (.store 5 (.t 7) (.t 13)),oP 8 (.mv (cI 2)),oP 9 (mT 17)] (sqF [oP 10 (.mv (.c .nils))] (.seq (sqF [oP 18 (mT 1),oP 19 (.bin 0 .leq (.t 18) (cI 12))] (.cond (.t 19) (rgF [oP 8 (.mv (cI 1))]) .skip)) (.seq (sqF [oP 11 (.mv (cI 0))] (.blk 0 (.loop (.seq (sqF [oP 20 (mT 11),oP 21 (mT 2),oP 22 (.len true (.t 21)),oP 23 (.bin 0 .lss (.t 20) (.t 22)),oP 24 (mT 23),oG 25 24 true 0 (mT 0),oG 26 24 true 0 (nkT 25),oG 27 24 true 0 (fdT 6 26),oG 28 24 true 0 (ldT 27),oG 29 24 true 0 (.un .not (.t 28)),oP 30 (.pick (.t 24) (.t 29) (cB false))] (.cond (.t 30) .skip (.exit 0))) (.seq (.blk 1 (sqF [oP 33 (mT 2),oP 34 (mT 11),oP 35 (.six (.t 33) (.t 34))] (.blk 2 (sqF [oP 58 (.bin 0 .eql (.t 35) (.c (.int .u8 76))),oP 57 (mT 58)] (.cond (.t 57) (rgF [oP 59 (mT 0),oP 60 (.hcall 156 [(.t 59)]),oP 61 (fdT 1 7),oN (.store 1 (.t 61) (.t 60))]) (sqF [oP 63 (.bin 0 .eql (.t 35) (.c (.int .u8 77))),oP 62 (mT 63)] (.cond (.t 62) (sqF [oP 64 (mT 0),oP 65 (.hcall 156 [(.t 64)]),oP 66 (fdT 2 7),oN (.store 1 (.t 66) (.t 65))] (sqF [oP 67 (mT 1),oP 68 (.bin 0 .eql (.t 67) (cI 23))] (.cond (.t 68) (rgF [oP 69 (mT 0),oP 70 (.hcall 157 [(.t 69),(.t 7)])]) .skip))) (sqF [oP 72 (.bin 0 .eql (.t 35) (.c (.int .u8 83))),oP 71 (mT 72)] (.cond (.t 71) (sqF [oP 73 (mT 0),oP 74 (.hcall 150 [(.t 73),(cI 3)]),oP 75 (.call 158 [(.t 74)]),oP 76 (fdT 3 7),oN (.store 1 (.t 76) (.t 75))] (sqF [oP 77 (fdT 3 7),oP 78 (ldT 77),oP 79 (.bin 0 .eql (.t 78) (cI 0))] (.cond (.t 79) (rgF [oP 80 (mT 0),oP 81 (mT 0),oP 82 (nkT 81),oP 83 (fdT 1 82),oP 84 (ldT 83),oP 85 (.bin 0 .sub (.t 84) (cI 1)),oP 86 (.hcall 140 [(.t 80),(.t 85)])]) .skip))) (.seq (sqF [oP 88 (.bin 0 .eql (.t 35) (.c (.int .u8 120))),oP 87 (mT 88)] (.cond (.t 87) .skip (sqF [oP 89 (.bin 0 .eql (.t 35) (.c (.int .u8 121))),oP 87 (mT 89)] (.cond (.t 87) .skip (rgF [oP 90 (.bin 0 .eql (.t 35) (.c (.int .u8 101))),oP 87 (mT 90)]))))) (.cond (.t 87) (rgF [oP 91 (mT 10),oP 92 (mT 0),oP 93 (.hcall 150 [(.t 92),(cI 3)]),oP 94 (.bslice 1 [(.t 93)]),oP 95 (.app 1 16 (.t 91) (.t 94)),oP 10 (mT 95)]) (sqF [oP 97 (.bin 0 .eql (.t 35) (.c (.int .u8 116))),oP 96 (mT 97)] (.cond (.t 96) (.reg [oP 98 (fdT 4 7),⟨(some 99),(ldT 98),none,1,true,[]⟩,oI 100 2 (mT 0),oI 101 3 (mT 8),⟨(some 102),(.hcall 139 [(.t 100),(.t 101)]),none,4,true,[1]⟩,oI 103 5 (.len false (.t 99)),⟨(some 104),(.bslice 5 [(.c (.agg true [(iS 0),(iS 0),(iS 0),(iS 0),.nils]))]),none,6,false,[1,4]⟩,oI 105 7 (.app 5 56 (.t 99) (.t 104)),⟨(some 106),(.iad 5 (.t 105) (.t 103)),none,8,true,[]⟩,⟨none,(.store 5 (.t 106) (.t 102)),none,9,true,[]⟩,oI 107 10 (fdT 4 7),⟨none,(.store 1 (.t 107) (.t 105)),none,11,false,[8,9]⟩] true) (sqF [oP 109 (.bin 0 .eql (.t 35) (.c (.int .u8 112))),oP 108 (mT 109)] (.cond (.t 108) (.reg [oP 110 (fdT 4 7),⟨(some 111),(ldT 110),none,1,true,[]⟩,oI 112 2 (mT 0),⟨(some 113),(.hcall 139 [(.t 112),(cI 2)]),none,3,true,[1]⟩,oI 114 4 (.len false (.t 111)),⟨(some 115),(.bslice 5 [(.c (.agg true [(iS 0),(iS 0),(iS 0),(iS 0),.nils]))]),none,5,false,[1,3]⟩,oI 116 6 (.app 5 56 (.t 111) (.t 115)),⟨(some 117),(.iad 5 (.t 116) (.t 114)),none,7,true,[]⟩,⟨none,(.store 5 (.t 117) (.t 113)),none,8,true,[]⟩,oI 118 9 (fdT 4 7),⟨none,(.store 1 (.t 118) (.t 116)),none,10,false,[7,8]⟩] true) (sqF [oP 36 (mT 0),oP 37 (mT 9),oP 38 (.app 1 16 (.c .nils) (.t 37)),oP 39 (mT 10),oP 40 (.app 1 16 (.t 38) (.t 39)),oP 41 (nkT 36),oP 42 (fdT 3 41),oN (.store 1 (.t 42) (.t 40))] (sqT [oP 43 (fdT 4 7),⟨(some 44),(ldT 43),none,1,true,[]⟩,oI 45 2 (mT 0),oI 46 3 (mT 8),⟨(some 47),(.hcall 139 [(.t 45),(.t 46)]),none,4,true,[1]⟩,oI 48 5 (.len false (.t 44)),⟨(some 49),(.bslice 5 [(.c (.agg true [(iS 0),(iS 0),(iS 0),(iS 0),.nils]))]),none,6,false,[1,4]⟩,oI 50 7 (.app 5 56 (.t 44) (.t 49)),⟨(some 51),(.iad 5 (.t 50) (.t 48)),none,8,true,[]⟩,⟨none,(.store 5 (.t 51) (.t 47)),none,9,true,[]⟩,oI 52 10 (fdT 4 7),⟨none,(.store 1 (.t 52) (.t 50)),none,11,false,[8,9]⟩] (rgF [oP 53 (mT 0),oP 54 (mT 9),oP 55 (nkT 53),oP 56 (fdT 3 55),oN (.store 1 (.t 56) (.t 54))])))))))))))))))))) (rgF [oP 31 (mT 11),oP 32 (.bin 0 .add (.t 31) (cI 1)),oP 11 (mT 32)])))))) (sqF [oP 119 (mT 0),oP 120 (.hcall 150 [(.t 119),(cI 2)])] (sqF [oP 121 (.load true 5 (.t 7)),oN (.store 5 (.t 6) (.t 121))] .ret)))))))⟩
theorem tr152:trF Tryz.prog Tryz.f152=some af152:=by kernel_rfl
attribute [go_sem] af152
def af156:AF:=⟨131,[(.t 2)],(sqF [oP 2 (.mv (cI 0))] (sqF [oP 6 (mT 0),oP 7 (nkT 6),oP 8 (fdT 1 7),oP 9 (ldT 8),oP 3 (mT 9)] (.seq (sqT [oP 10 (mT 0),oI 11 1 (nkT 10),oI 12 2 (fdT 6 11),oI 13 3 (ldT 12),oI 14 4 (mT 13),oG 15 14 false 5 (mT 0),oG 16 14 false 6 (nkT 15),oG 17 14 false 7 (fdT 1 16),oG 18 14 false 8 (ldT 17),oG 19 14 false 9 (mT 0),oG 20 14 false 10 (nkT 19),oG 21 14 false 11 (fdT 0 20),oG 22 14 false 12 (ldT 21),oG 23 14 false 13 (.len false (.t 22)),oG 24 14 false 14 (.bin 0 .geq (.t 18) (.t 23)),oI 25 15 (.pick (.t 14) (cB true) (.t 24))] (.cond (.t 25) (sqF [oP 26 (mT 0),oP 27 (mT 0),oP 28 (nkT 27),oP 29 (fdT 1 28),oP 30 (ldT 29),oP 31 (.hcall 140 [(.t 26),(.t 30)])] (sqF [oP 2 (.mv (cI 0))] .ret)) .skip)) (sqF [oP 4 (.mv (cI 0))] (.seq (sqT [oP 32 (mT 0),oI 33 1 (nkT 32),oI 34 2 (fdT 0 33),⟨(some 35),(ldT 34),none,3,true,[]⟩,oI 36 4 (mT 0),oI 37 5 (nkT 36),oI 38 6 (fdT 1 37),⟨(some 39),(ldT 38),none,7,true,[]⟩,⟨(some 40),(.iad 3 (.t 35) (.t 39)),none,8,true,[]⟩,⟨(some 41),(.load true 3 (.t 40)),none,9,true,[]⟩,⟨(some 5),(.new [(iS 0),(.str (bs [])),(iS 0)]),none,10,false,[3,7,8,9]⟩,oJ 11 (.store 3 (.t 5) (.t 41))] (.blk 0 (sqF [oP 49 (fdT 0 5),oP 50 (ldT 49),oP 51 (.bin 0 .eql (.t 50) (cI 4)),oP 48 (mT 51)] (.cond (.t 48) (sqF [oP 53 (fdT 1 5),oP 54 (ldT 53),oP 55 (.call 148 [(.t 54)]),oP 52 (mT 55),oP 56 (.ext (.t 52) 0),oP 57 (.ext (.t 52) 1),oP 4 (mT 56)] (rgF [oP 58 (mT 0),oP 59 (nkT 58),oP 60 (fdT 1 59),oP 61 (ldT 60),oP 62 (.bin 0 .add (.t 61) (cI 1)),oP 63 (nkT 58),oP 64 (fdT 1 63),oN (.store 1 (.t 64) (.t 62))])) (sqF [oP 66 (fdT 0 5),oP 67 (ldT 66),oP 68 (.bin 0 .eql (.t 67) (cI 3)),oP 69 (mT 68),oG 70 69 true 0 (fdT 1 5),oG 71 69 true 0 (ldT 70),oG 72 69 true 0 (.bin 4 .eql (.t 71) (.c (.str (bs [105])))),oP 73 (.pick (.t 69) (.t 72) (cB false)),oP 65 (mT 73)] (.cond (.t 65) (sqF [oP 74 (mT 0),oP 75 (nkT 74),oP 76 (fdT 4 75),oP 77 (ldT 76),oP 4 (mT 77)] (rgF [oP 78 (mT 0),oP 79 (nkT 78),oP 80 (fdT 1 79),oP 81 (ldT 80),oP 82 (.bin 0 .add (.t 81) (cI 1)),oP 83 (nkT 78),oP 84 (fdT 1 83),oN (.store 1 (.t 84) (.t 82))])) (sqF [oP 86 (fdT 0 5),oP 87 (ldT 86),oP 88 (.bin 0 .eql (.t 87) (cI 3)),oP 89 (mT 88),oG 90 89 true 0 (fdT 1 5),oG 91 89 true 0 (ldT 90),oG 92 89 true 0 (.bin 4 .eql (.t 91) (.c (.str (bs [106])))),oP 93 (.pick (.t 89) (.t 92) (cB false)),oP 85 (mT 93)] (.cond (.t 85) (sqF [oP 94 (mT 0),oP 95 (nkT 94),oP 96 (fdT 5 95),oP 97 (ldT 96),oP 4 (mT 97)] (rgF [oP 98 (mT 0),oP 99 (nkT 98),oP 100 (fdT 1 99),oP 101 (ldT 100),oP 102 (.bin 0 .add (.t 101) (cI 1)),oP 103 (nkT 98),oP 104 (fdT 1 103),oN (.store 1 (.t 104) (.t 102))])) (sqF [oP 106 (fdT 0 5),oP 107 (ldT 106),oP 108 (.bin 0 .eql (.t 107) (cI 1)),oP 105 (mT 108)] (.cond (.t 105) (sqF [oP 109 (mT 0),oP 110 (nkT 109),oP 111 (fdT 1 110),oP 112 (ldT 111),oP 113 (.bin 0 .add (.t 112) (cI 1)),oP 114 (nkT 109),oP 115 (fdT 1 114),oN (.store 1 (.t 115) (.t 113))] (rgF [oP 116 (mT 0),oP 117 (.hcall 160 [(.t 116)]),oP 4 (mT 117)])) (rgF [oP 42 (mT 0),oP 43 (mT 0),oP 44 (nkT 43),oP 45 (fdT 1 44),oP 46 (ldT 45),oP 47 (.hcall 140 [(.t 42),(.t 46)])]))))))))))) (.seq (sqF [oP 118 (mT 0),oP 119 (nkT 118),oP 120 (fdT 6 119),oP 121 (ldT 120),oP 122 (.un .not (.t 121)),oP 123 (mT 122),oG 124 123 true 0 (mT 4),oG 125 123 true 0 (.bin 0 .gtr (.t 124) (cI 1000)),oP 126 (.pick (.t 123) (.t 125) (cB false))] (.cond (.t 126) (rgF [oP 127 (mT 0),oP 128 (mT 3),oP 129 (.hcall 140 [(.t 127),(.t 128)])]) .skip)) (sqF [oP 130 (mT 4),oP 2 (mT 130)] .ret)))))))⟩
theorem tr156:trF Tryz.prog Tryz.f156=some af156:=by kernel_rfl
attribute [go_sem] af156
def af157:AF:=⟨24,[],(sqF [oP 4 (mT 1),oP 5 (nkT 4),oP 6 (fdT 3 5),oP 7 (ldT 6),oP 8 (.call 81 [(cI 23),(.t 7)]),oP 9 (.mv (cI 0))] (.blk 0 (.loop (sqF [oP 10 (.bin 0 .lss (.t 9) (.t 8))] (.seq (.cond (.t 10) .skip (.exit 0)) (.seq (.blk 1 (.reg [oP 11 (mT 1),oI 12 1 (nkT 11),oI 13 2 (fdT 4 12),⟨(some 14),(ldT 13),none,3,true,[]⟩,oI 15 4 (mT 0),⟨(some 16),(.hcall 139 [(.t 15),(cI 2)]),none,5,true,[3]⟩,oI 17 6 (.len false (.t 14)),⟨(some 18),(.bslice 5 [(.c (.agg true [(iS 0),(iS 0),(iS 0),(iS 0),.nils]))]),none,7,false,[3,5]⟩,oI 19 8 (.app 5 56 (.t 14) (.t 18)),⟨(some 20),(.iad 5 (.t 19) (.t 17)),none,9,true,[]⟩,⟨none,(.store 5 (.t 20) (.t 16)),none,10,true,[]⟩,oI 21 11 (nkT 11),oI 22 12 (fdT 4 21),⟨none,(.store 1 (.t 22) (.t 19)),none,13,false,[9,10]⟩] true)) (rgF [oP 23 (.bin 0 .add (.t 9) (cI 1)),oP 9 (mT 23)])))))))⟩
theorem tr157:trF Tryz.prog Tryz.f157=some af157:=by kernel_rfl
attribute [go_sem] af157
def af160:AF:=⟨114,[(.t 2)],(sqF [oP 2 (.mv (cI 0))] (sqF [oP 3 (.mv (cI 0))] (.seq (.blk 0 (sqT [oP 11 (mT 0),oI 12 1 (nkT 11),oI 13 2 (fdT 1 12),oI 14 3 (ldT 13),oI 15 4 (mT 0),oI 16 5 (nkT 15),oI 17 6 (fdT 0 16),oI 18 7 (ldT 17),oI 19 8 (.len false (.t 18)),oI 20 9 (.bin 0 .lss (.t 14) (.t 19)),oI 21 10 (mT 20),oG 22 21 true 11 (mT 0),oG 23 21 true 12 (nkT 22),oG 24 21 true 13 (fdT 0 23),oG 25 21 true 14 (ldT 24),oG 26 21 true 15 (mT 0),oG 27 21 true 16 (nkT 26),oG 28 21 true 17 (fdT 1 27),oG 29 21 true 18 (ldT 28),oG 30 21 true 19 (.iad 3 (.t 25) (.t 29)),oG 31 21 true 20 (fdT 0 30),oG 32 21 true 21 (ldT 31),oG 33 21 true 22 (.bin 0 .eql (.t 32) (cI 3)),oI 34 23 (.pick (.t 21) (.t 33) (cB false)),oI 35 24 (mT 34),oG 36 35 true 25 (mT 0),oG 37 35 true 26 (nkT 36),oG 38 35 true 27 (fdT 0 37),oG 39 35 true 28 (ldT 38),oG 40 35 true 29 (mT 0),oG 41 35 true 30 (nkT 40),oG 42 35 true 31 (fdT 1 41),oG 43 35 true 32 (ldT 42),oG 44 35 true 33 (.iad 3 (.t 39) (.t 43)),oG 45 35 true 34 (fdT 1 44),oG 46 35 true 35 (ldT 45),oG 47 35 true 36 (.bin 4 .eql (.t 46) (.c (.str (bs [115,117,99])))),oI 48 37 (.pick (.t 35) (.t 47) (cB false)),oI 10 38 (mT 48)] (.cond (.t 10) (sqF [oP 49 (mT 0),oP 50 (nkT 49),oP 51 (fdT 1 50),oP 52 (ldT 51),oP 53 (.bin 0 .add (.t 52) (cI 1)),oP 54 (nkT 49),oP 55 (fdT 1 54),oN (.store 1 (.t 55) (.t 53))] (rgF [oP 56 (mT 0),oP 57 (.hcall 156 [(.t 56)]),oP 58 (.bin 0 .add (.t 57) (cI 1)),oP 3 (mT 58)])) (sqT [oP 60 (mT 0),oI 61 1 (nkT 60),oI 62 2 (fdT 1 61),oI 63 3 (ldT 62),oI 64 4 (mT 0),oI 65 5 (nkT 64),oI 66 6 (fdT 0 65),oI 67 7 (ldT 66),oI 68 8 (.len false (.t 67)),oI 69 9 (.bin 0 .lss (.t 63) (.t 68)),oI 70 10 (mT 69),oG 71 70 true 11 (mT 0),oG 72 70 true 12 (nkT 71),oG 73 70 true 13 (fdT 0 72),oG 74 70 true 14 (ldT 73),oG 75 70 true 15 (mT 0),oG 76 70 true 16 (nkT 75),oG 77 70 true 17 (fdT 1 76),oG 78 70 true 18 (ldT 77),oG 79 70 true 19 (.iad 3 (.t 74) (.t 78)),oG 80 70 true 20 (fdT 0 79),oG 81 70 true 21 (ldT 80),oG 82 70 true 22 (.bin 0 .eql (.t 81) (cI 3)),oI 83 23 (.pick (.t 70) (.t 82) (cB false)),oI 84 24 (mT 83),oG 85 84 true 25 (mT 0),oG 86 84 true 26 (nkT 85),oG 87 84 true 27 (fdT 0 86),oG 88 84 true 28 (ldT 87),oG 89 84 true 29 (mT 0),oG 90 84 true 30 (nkT 89),oG 91 84 true 31 (fdT 1 90),oG 92 84 true 32 (ldT 91),oG 93 84 true 33 (.iad 3 (.t 88) (.t 92)),oG 94 84 true 34 (fdT 1 93),oG 95 84 true 35 (ldT 94),oG 96 84 true 36 (.bin 4 .eql (.t 95) (.c (.str (bs [109,97,120])))),oI 97 37 (.pick (.t 84) (.t 96) (cB false)),oI 59 38 (mT 97)] (.cond (.t 59) (sqF [oP 98 (mT 0),oP 99 (nkT 98),oP 100 (fdT 1 99),oP 101 (ldT 100),oP 102 (.bin 0 .add (.t 101) (cI 1)),oP 103 (nkT 98),oP 104 (fdT 1 103),oN (.store 1 (.t 104) (.t 102))] (sqF [oP 105 (mT 0),oP 106 (.hcall 156 [(.t 105)]),oP 3 (mT 106)] (rgF [oP 107 (mT 3),oP 108 (mT 0),oP 109 (.hcall 156 [(.t 108)]),oP 110 (.mnx true (.t 107) (.t 109)),oP 3 (mT 110)]))) (rgF [oP 4 (mT 0),oP 5 (mT 0),oP 6 (nkT 5),oP 7 (fdT 1 6),oP 8 (ldT 7),oP 9 (.hcall 140 [(.t 4),(.t 8)])])))))) (sqF [oP 111 (mT 0),oP 112 (.hcall 150 [(.t 111),(cI 2)])] (sqF [oP 113 (mT 3),oP 2 (mT 113)] .ret)))))⟩
theorem tr160:trF Tryz.prog Tryz.f160=some af160:=by kernel_rfl
attribute [go_sem] af160
def af158:AF:=⟨18,[(.t 2)],(sqF [oP 2 (.mv (cI 0))] (.seq (sqF [oP 5 (.call 161 []),oP 6 (.len false (.t 5)),oP 7 (.mv (cI 0))] (.blk 0 (.loop (sqF [oP 8 (.bin 0 .lss (.t 7) (.t 6))] (.seq (.cond (.t 8) .skip (.exit 0)) (.seq (.blk 1 (sqF [oP 9 (mT 7),oP 10 (.iad 1 (.t 5) (.t 7)),oP 11 (ldT 10),oP 3 (mT 9),oP 4 (mT 11)] (sqF [oP 12 (mT 4),oP 13 (mT 0),oP 14 (.bin 4 .eql (.t 12) (.t 13))] (.cond (.t 14) (sqF [oP 15 (mT 3),oP 16 (.bin 0 .add (.t 15) (cI 1)),oP 2 (mT 16)] .ret) .skip)))) (rgF [oP 17 (.bin 0 .add (.t 7) (cI 1)),oP 7 (mT 17)]))))))) (sqF [oP 2 (.mv (cI 0))] .ret)))⟩
theorem tr158:trF Tryz.prog Tryz.f158=some af158:=by kernel_rfl
attribute [go_sem] af158
def af161:AF:=⟨2,[(.t 0)],(sqF [oP 0 (.mv (.c .nils))] (sqF [oP 1 (.bslice 1 [(.c (.str (bs [117,105,112]))),(.c (.str (bs [102,117,110,101,120,116]))),(.c (.str (bs [115,121,109]))),(.c (.str (bs [116,114,97,110,115]))),(.c (.str (bs [116,114]))),(.c (.str (bs [104,101,116]))),(.c (.str (bs [116,121,112]))),(.c (.str (bs [116,114,104]))),(.c (.str (bs [104,112]))),(.c (.str (bs [104,50,101]))),(.c (.str (bs [101,50,104]))),(.c (.str (bs [114,112]))),(.c (.str (bs [99,112,105]))),(.c (.str (bs [99,115,105,103]))),(.c (.str (bs [99,108,97,109]))),(.c (.str (bs [99,97,112,112]))),(.c (.str (bs [99,112,97,105,114]))),(.c (.str (bs [99,102,115,116]))),(.c (.str (bs [99,115,110,100]))),(.c (.str (bs [99,101,113]))),(.c (.str (bs [99,114,101,102,108])))]),oP 0 (mT 1)] .ret))⟩
theorem tr161:trF Tryz.prog Tryz.f161=some af161:=by kernel_rfl
attribute [go_sem] af161
def a127_23:AC:=.blk 1 (sqT [oP 17 (mT 0),oI 18 1 (nkT 17),oI 19 2 (fdT 1 18),⟨(some 20),(ldT 19),none,3,true,[]⟩,oI 21 4 (mT 0),oI 22 5 (nkT 21),oI 23 6 (fdT 2 22),⟨(some 24),(ldT 23),none,7,true,[]⟩,⟨(some 25),(.iad 3 (.t 20) (.t 24)),none,8,true,[]⟩,⟨(some 26),(.load true 3 (.t 25)),none,9,true,[]⟩,⟨(some 5),(.new [(iS 0),(.str (bs [])),(iS 0)]),none,10,false,[3,7,8,9]⟩,oJ 11 (.store 3 (.t 5) (.t 26))] (sqF [oP 27 (mT 0),oP 28 (nkT 27),oP 29 (fdT 2 28),oP 30 (ldT 29),oP 31 (.bin 0 .add (.t 30) (cI 1)),oP 32 (nkT 27),oP 33 (fdT 2 32),oN (.store 1 (.t 33) (.t 31))] (.seq (sqF [oP 34 (fdT 0 5),oP 35 (ldT 34)] (.blk 2 (sqF [oP 37 (.bin 0 .eql (.t 35) (cI 1)),oP 36 (mT 37)] (.cond (.t 36) (rgF [oP 38 (mT 4),oP 39 (.bin 0 .add (.t 38) (cI 1)),oP 4 (mT 39)]) (sqF [oP 41 (.bin 0 .eql (.t 35) (cI 2)),oP 40 (mT 41)] (.cond (.t 40) (rgF [oP 42 (mT 4),oP 43 (.bin 0 .sub (.t 42) (cI 1)),oP 4 (mT 43)]) .skip)))))) (sqF [oP 44 (mT 4),oP 45 (.bin 0 .eql (.t 44) (cI 0))] (.cond (.t 45) (sqT [oP 46 (mT 0),oI 47 1 (nkT 46),oI 48 2 (fdT 0 47),oI 49 3 (ldT 48),oI 50 4 (mT 3),oI 51 5 (fdT 2 5),oI 52 6 (ldT 51),oI 53 7 (fdT 1 5),oI 54 8 (ldT 53),oI 55 9 (.len true (.t 54)),oI 56 10 (.bin 0 .add (.t 52) (.t 55)),oI 57 11 (.slc 0 (.t 49) (some (.t 50)) (some (.t 56))),oI 2 12 (mT 57)] .ret) .skip)))))
def af127:AF:=⟨58,[(.t 2)],(sqF [oP 2 (.mv (.c (.str (bs []))))] (sqT [oP 6 (mT 0),oI 7 1 (nkT 6),oI 8 2 (fdT 1 7),oI 9 3 (ldT 8),oI 10 4 (mT 0),oI 11 5 (nkT 10),oI 12 6 (fdT 2 11),oI 13 7 (ldT 12),oI 14 8 (.iad 3 (.t 9) (.t 13)),oI 15 9 (fdT 2 14),oI 16 10 (ldT 15),oI 3 11 (mT 16),oI 4 12 (.mv (cI 0))] (.blk 0 (.loop a127_23))))⟩
theorem tr127:trF Tryz.prog Tryz.f127=some af127:=by kernel_rfl
attribute [go_sem] af127 a127_23
def a112_26:AC:=.seq (sqT [oP 80 (mT 8),oI 81 1 (nkT 80),oI 82 2 (fdT 1 81),oI 83 3 (ldT 82),oI 84 4 (mT 8),oI 85 5 (nkT 84),oI 86 6 (fdT 2 85),oI 87 7 (ldT 86),oI 88 8 (.iad 3 (.t 83) (.t 87)),oI 89 9 (fdT 0 88),oI 90 10 (ldT 89),oI 91 11 (.bin 0 .eql (.t 90) (cI 1))] (.cond (.t 91) .skip (.exit 0))) (.seq (.blk 1 (sqT [oP 99 (mT 8),oI 100 1 (nkT 99),oI 101 2 (fdT 1 100),oI 102 3 (ldT 101),oI 103 4 (mT 8),oI 104 5 (nkT 103),oI 105 6 (fdT 2 104),oI 106 7 (ldT 105),oI 107 8 (.bin 0 .add (.t 106) (cI 1)),oI 108 9 (.iad 3 (.t 102) (.t 107)),oI 109 10 (fdT 1 108),oI 110 11 (ldT 109),oI 11 12 (mT 110)] (sqF [oP 111 (mT 8),oP 112 (nkT 111),oP 113 (fdT 2 112),oP 114 (ldT 113),oP 115 (.bin 0 .add (.t 114) (cI 2)),oP 116 (nkT 111),oP 117 (fdT 2 116),oN (.store 1 (.t 117) (.t 115))] (sqF [oP 119 (mT 8),oP 120 (.hcall 127 [(.t 119)]),oP 121 (mT 10),oP 122 (mT 1),oP 123 (mT 2),oP 124 (.call 126 [(.t 120),(.t 121),(.t 122),(.t 123)]),oP 118 (mT 124),oP 125 (.ext (.t 118) 0),oP 126 (.ext (.t 118) 1),oP 127 (.ext (.t 118) 2),oP 12 (.new [(iS 0),(iS 0),(iS 0),(iS 0),.nils]),oN (.store 5 (.t 12) (.t 125)),oP 13 (mT 126),oP 14 (mT 127)] (sqF [oP 128 (fdT 1 9),oP 129 (ldT 128),oP 130 (.load true 5 (.t 12)),oP 131 (.bslice 5 [(.t 130)]),oP 132 (.app 5 56 (.t 129) (.t 131)),oP 133 (fdT 1 9),oN (.store 1 (.t 133) (.t 132))] (rgF [oP 134 (mT 10),oP 135 (mT 11),oP 136 (.bslice 1 [(.t 135)]),oP 137 (.app 1 16 (.t 134) (.t 136)),oP 10 (mT 137)])))))) (rgF [oP 92 (mT 8),oP 93 (nkT 92),oP 94 (fdT 2 93),oP 95 (ldT 94),oP 96 (.bin 0 .add (.t 95) (cI 1)),oP 97 (nkT 92),oP 98 (fdT 2 97),oN (.store 1 (.t 98) (.t 96))]))
def a112_40:AC:=sqF [oP 138 (mT 8),oP 139 (nkT 138),oP 140 (fdT 2 139),oP 141 (ldT 140),oP 142 (.bin 0 .add (.t 141) (cI 1)),oP 143 (nkT 138),oP 144 (fdT 2 143),oN (.store 1 (.t 144) (.t 142))] (sqF [oP 146 (mT 8),oP 147 (.hcall 127 [(.t 146)]),oP 148 (mT 10),oP 149 (mT 1),oP 150 (mT 2),oP 151 (.call 126 [(.t 147),(.t 148),(.t 149),(.t 150)]),oP 145 (mT 151),oP 152 (.ext (.t 145) 0),oP 153 (.ext (.t 145) 1),oP 154 (.ext (.t 145) 2),oP 155 (fdT 2 9),oN (.store 5 (.t 155) (.t 152))] (.seq (sqF [oP 156 (fdT 12 9),oP 157 (ldT 156)] (.cond (.t 157) (rgF [oP 159 (mT 8),oP 160 (.hcall 127 [(.t 159)]),oP 161 (mT 10),oP 162 (mT 1),oP 163 (mT 2),oP 164 (.call 126 [(.t 160),(.t 161),(.t 162),(.t 163)]),oP 158 (mT 164),oP 165 (.ext (.t 158) 0),oP 166 (.ext (.t 158) 1),oP 167 (.ext (.t 158) 2),oP 168 (fdT 7 9),oN (.store 5 (.t 168) (.t 165))]) .skip)) (sqF [oP 169 (.load true 13 (.t 9)),oN (.store 13 (.t 6) (.t 169)),oP 7 (.mv (cB true))] .ret)))
def af112:AF:=⟨170,[(.cell 6 true 13),(.t 7)],(sqF [oP 6 (.new [(.str (bs [])),.nils,(iS 0),(iS 0),(iS 0),(iS 0),.nils,(iS 0),(iS 0),(iS 0),(iS 0),.nils,(.bool false)]),oP 7 (.mv (cB false))] (.seq (sqF [oP 15 (mT 0),oP 16 (.bin 0 .lss (.t 15) (cI 1)),oP 17 (mT 16),oG 18 17 false 0 (mT 0),oG 19 17 false 0 (.bin 0 .gtr (.t 18) (cI 21)),oP 20 (.pick (.t 17) (cB true) (.t 19)),oP 21 (mT 20),oG 22 21 false 0 (mT 1),oG 23 21 false 0 (.bin 0 .lss (.t 22) (cI 0)),oP 24 (.pick (.t 21) (cB true) (.t 23)),oP 25 (mT 24),oG 26 25 false 0 (mT 1),oG 27 25 false 0 (.bin 0 .geq (.t 26) (cI 1000)),oP 28 (.pick (.t 25) (cB true) (.t 27)),oP 29 (mT 28),oG 30 29 false 0 (mT 2),oG 31 29 false 0 (.bin 0 .lss (.t 30) (cI 0)),oP 32 (.pick (.t 29) (cB true) (.t 31)),oP 33 (mT 32),oG 34 33 false 0 (mT 2),oG 35 33 false 0 (.bin 0 .geq (.t 34) (cI 1000)),oP 36 (.pick (.t 33) (cB true) (.t 35))] (.cond (.t 36) (sqF [oP 37 (.build [(.str (bs [])),.nils,(iS 0),(iS 0),(iS 0),(iS 0),.nils,(iS 0),(iS 0),(iS 0),(iS 0),.nils,(.bool false)] []),oN (.store 13 (.t 6) (.t 37)),oP 7 (.mv (cB false))] .ret) .skip)) (sqF [oP 38 (.call 96 []),oP 39 (mT 0),oP 40 (.bin 0 .sub (.t 39) (cI 1)),oP 41 (.iad 1 (.t 38) (.t 40)),oP 42 (ldT 41),oP 43 (.build [(.str (bs [])),.nils,(iS 0)] [(0,(1,(.t 42))),(2,(1,(cI 3)))]),oP 44 (.boxg (.t 43)),oP 8 (mT 44)] (sqF [oP 46 (mT 8),oP 47 (mT 8),oP 48 (nkT 47),oP 49 (fdT 0 48),oP 50 (ldT 49),oP 51 (.call 125 [(.t 50)]),oP 45 (mT 51),oP 52 (.ext (.t 45) 0),oP 53 (.ext (.t 45) 1),oP 54 (.ext (.t 45) 2),oP 55 (nkT 46),oP 56 (fdT 1 55),oN (.store 1 (.t 56) (.t 52))] (sqT [oP 57 (mT 8),oI 58 1 (nkT 57),oI 59 2 (fdT 1 58),⟨(some 60),(ldT 59),none,3,true,[]⟩,⟨(some 61),(.iad 3 (.t 60) (cI 2)),none,4,true,[]⟩,oI 62 5 (fdT 1 61),⟨(some 63),(ldT 62),none,6,true,[]⟩,oI 64 7 (mT 8),oI 65 8 (nkT 64),oI 66 9 (fdT 1 65),⟨(some 67),(ldT 66),none,10,true,[]⟩,⟨(some 68),(.iad 3 (.t 67) (cI 1)),none,11,true,[]⟩,oI 69 12 (fdT 1 68),⟨(some 70),(ldT 69),none,13,true,[]⟩,oI 71 14 (.bin 4 .eql (.t 70) (.c (.str (bs [100,101,102])))),oI 72 15 (.build [(.str (bs [])),.nils,(iS 0),(iS 0),(iS 0),(iS 0),.nils,(iS 0),(iS 0),(iS 0),(iS 0),.nils,(.bool false)] [(0,(1,(.t 63))),(12,(1,(.t 71)))]),⟨(some 9),(.new [(.str (bs [])),.nils,(iS 0),(iS 0),(iS 0),(iS 0),.nils,(iS 0),(iS 0),(iS 0),(iS 0),.nils,(.bool false)]),none,16,false,[3,4,6,10,11,13]⟩,oJ 17 (.store 13 (.t 9) (.t 72))] (sqF [oP 10 (.mv (.c .nils))] (.seq (sqF [oP 73 (mT 8),oP 74 (nkT 73),oP 75 (fdT 2 74),oP 76 (ldT 75),oP 77 (.bin 0 .add (.t 76) (cI 1)),oP 78 (nkT 73),oP 79 (fdT 2 78),oN (.store 1 (.t 79) (.t 77))] (.blk 0 (.loop a112_26))) a112_40)))))))⟩
theorem tr112:trF Tryz.prog Tryz.f112=some af112:=by kernel_rfl
attribute [go_sem] af112 a112_26 a112_40
def af91:AF:=⟨44,[(.t 8)],(sqF [oP 8 (.mv (.c .nilp))] (sqF [oP 14 (mT 1),oP 15 (mT 2),oP 16 (mT 3),oP 17 (.arr [(.t 14),(.t 15),(.t 16)]),oP 9 (.new [(iS 0),(iS 0),(iS 0)]),oN (.store 3 (.t 9) (.t 17))] (sqT [oP 19 (mT 0),oI 20 1 (nkT 19),oI 21 2 (fdT 4 20),oI 22 3 (ldT 21),oI 23 4 (.load true 3 (.t 9)),oI 24 5 (.mlk .nilp (.t 22) (.t 23)),oI 18 6 (mT 24),oI 25 7 (.ext (.t 18) 0),oI 26 8 (.ext (.t 18) 1),oI 10 9 (mT 25),oI 11 10 (mT 26)] (.seq (sqF [oP 27 (mT 11),oP 28 (.un .not (.t 27))] (.cond (.t 28) (sqF [oP 30 (mT 1),oP 31 (mT 2),oP 32 (mT 3),oP 33 (.call 112 [(.t 30),(.t 31),(.t 32)]),oP 29 (mT 33),oP 34 (.ext (.t 29) 0),oP 35 (.ext (.t 29) 1),oP 12 (.new [(.str (bs [])),.nils,(iS 0),(iS 0),(iS 0),(iS 0),.nils,(iS 0),(iS 0),(iS 0),(iS 0),.nils,(.bool false)]),oN (.store 13 (.t 12) (.t 34)),oP 13 (mT 35)] (.seq (sqF [oP 36 (mT 13)] (.cond (.t 36) (rgF [oP 10 (mT 12)]) .skip)) (.reg [oP 37 (mT 0),oI 38 1 (nkT 37),oI 39 2 (fdT 4 38),oI 40 3 (ldT 39),oI 41 4 (.load true 3 (.t 9)),oI 42 5 (mT 10),oJ 6 (.mup (.t 40) (.t 41) (.t 42))] true))) .skip)) (sqF [oP 43 (mT 10),oP 8 (mT 43)] .ret)))))⟩
theorem tr91:trF Tryz.prog Tryz.f91=some af91:=by kernel_rfl
attribute [go_sem] af91
open Go Go.RowKit
section
variable{P:Program}{w0:World}{own:Nat->Prop}{M0:Mem}{B:Env->Prop}{Df:List Deferred}{X:SV->GV->Prop}
def vcW(C:CT):AC->(AE->St->Prop)->St->Prop
 |.seq a b,Q,s=>vcW C a (fun e s'=>match e with|.normal=>∃s0,Wk s' s0/\vcW C b Q s0|e=>Q e s') s
 |.cond c a b,Q,s=>match s.get c with
  |.bool t=>(t=true->vcW C a Q s)/\(t=false->vcW C b Q s)
  |_=>False
 |c,Q,s=>vc C c Q s
theorem Age{C:CT}:∀{c:AC} {Q:AE->St->Prop} {s:St},vc C c Q s->vcW C c Q s:=by
 have mono:∀(c:AC) {Q Q':AE->St->Prop} {s:St},(∀e s,Q e s->Q' e s)->vcW C c Q s->vcW C c Q' s:=by
  intro c
  induction c with
  |seq a b iha ihb=>
   intro Q Q' s h hv;simp only[vcW] at hv |-;refine iha (fun e s he=>?_) hv;cases e with
   |normal=>obtain⟨s0,h1,h2⟩:=he;exact⟨s0,h1,ihb h h2⟩
   |exit id=>exact h _ _ he
   |ret=>exact h _ _ he
  |cond c a b iha ihb=>
   intro Q Q' s h hv;simp only[vcW] at hv |-;split at hv
   ·exact⟨fun ht=>iha h (hv.1 ht),fun ht=>ihb h (hv.2 ht)⟩
   ·exact hv.elim
  |_=>intro Q Q' s h hv;simp only[vcW] at hv |-;exact Xi h hv
 intro c
 induction c with
 |seq a b iha ihb=>
  intro Q s h;simp only[vc] at h;simp only[vcW];refine mono a (fun e s he=>?_) (iha h);cases e with
  |normal=>exact⟨s,.refl s,ihb he⟩
  |exit id=>exact he
  |ret=>exact he
 |cond c a b iha ihb=>
  intro Q s h;simp only[vc] at h;simp only[vcW];split at h
  ·rename_i t ht;simp only[ht];exact⟨fun ht=>iha (h.1 ht),fun ht=>ihb (h.2 ht)⟩
  ·exact h.elim
 |_=>intro Q s h;simp only[vcW];exact h
def sqW(C:CT)(b:AC)(Q:AE->St->Prop):AE->St->Prop:=fun e s'=>match e with|.normal=>∃s0,Wk s' s0/\vcW C b Q s0|e=>Q e s'
theorem Bfr{C:CT}{b:AC}{Q:AE->St->Prop}{s:St}:sqW C b Q .normal s=∃s0,Wk s s0/\vcW C b Q s0:=q_z
theorem Bfs{C:CT}{b:AC}{Q:AE->St->Prop}{s:St}:sqW C b Q .ret s=Q .ret s:=q_z
theorem Bfq{C:CT}{b:AC}{Q:AE->St->Prop}{s:St}{j:Nat}:sqW C b Q (.exit j) s=Q (.exit j) s:=q_z
attribute [go_sem] Bfr Bfs Bfq
theorem Xh{C:CT}{a b:AC}{Q:AE->St->Prop}{s:St}(h:vc C a (sqW C b Q) s):vcW C (.seq a b) Q s:=by
 have:=Age h;simp only[vcW];exact this
theorem Bh1{C:CT}{a b:AC}{Q:AE->St->Prop}{s:St}(h:vcW C a (sqW C b Q) s):vcW C (.seq a b) Q s:=by
 simp only[vcW];exact h
theorem Bh3{C:CT}{c:AX}{a b:AC}{Q:AE->St->Prop}{s:St}(hc:s.get c=.bool true)(h:vcW C a Q s):vcW C (.cond c a b) Q s:=by
 simp only[vcW,hc];exact⟨fun _=>h,fun e=>by cases e⟩
theorem Bh2[hB:Nonempty (StB B)](hm:P.follows .mixedOrders=true):∀(c:Code) (ac:AC),trC P c=some ac->∀{QA:AE->St->Prop} {Q:Exit->Act->World->Prop},PX w0 own M0 Df X Q->(∀e E g s a w,SR w0 own M0 B Df E g s a w->QA e s->Q e.ex a w) ->
  ∀(E:Env) (g:Option (GV)) (s:St) (a:Act) (w:World),SR w0 own M0 B Df E g s a w->vcW (Av P X) ac QA s->c.wp P Q a w:=by
 intro c
 induction c with
 |seq x y ihx ihy=>
  intro ac tr QA Q hX hQ E g s a w hS h;simp only[trC,q_c,q_a,q_d,q_b] at tr;obtain⟨ax,Ae,ay,Co,rfl⟩:=tr;simp only[vcW] at h;refine wp_seq (ihx ax Ae (Q:=Exit.then (y.wp P Q) Q) (fun E u x G' a w=>hX E u x G' a w) (fun e E g s a w hS he=>?_) E g s a w hS h);cases e with
  |normal=>
   obtain⟨s0,h1,h2⟩:=he;obtain⟨E',g',v9⟩:=Acf h1 hS;exact ihy ay Co hX hQ E' g' s0 a w v9 h2
  |exit id=>exact hQ (.exit id) E g s a w hS he
  |ret=>exact hQ .ret E g s a w hS he
 |cond c x y ihx ihy=>
  intro ac tr QA Q hX hQ E g s a w hS h;simp only[trC,q_c,q_a,q_d,q_b] at tr;obtain⟨cx,hcx,ax,Ae,ay,Co,rfl⟩:=tr;simp only[vcW] at h;split at h;rotate_left
  ·exact h.elim
  rename_i t ht;have hv:=hS.x hcx;rw[ht] at hv;exact wp_cond_split (Tc hv) (fun h1=>ihx ax Ae hX hQ E g s a w hS (h.1 h1)) (fun h1=>ihy ay Co hX hQ E g s a w hS (h.2 h1))
 |_=>
  intro ac tr QA Q hX hQ E g s a w hS h;refine Of hm _ ac tr hX hQ E g s a w hS ?_;have key:(∀a b,ac≠.seq a b)/\(∀c a b,ac≠.cond c a b):=by
   constructor
   ·rintro a b rfl;simp[trC,q_a] at tr
    try (obtain⟨l,_,tr⟩:=tr;repeat' split at tr)<;>cases tr
   ·rintro c a b rfl;simp[trC,q_a] at tr
    try (obtain⟨l,_,tr⟩:=tr;repeat' split at tr)<;>cases tr
  cases ac with
  |seq a b=>exact absurd rfl (key.1 a b)
  |cond c a b=>exact absurd rfl (key.2 c a b)
  |_=>simpa only[vcW] using h
def Aph(C:CT)(f:AF)(G:GV)(args:List SV)(out:HOut)(G':GV):Prop:=
 vcW C f.body (fun e s=>match e with|.exit _=>False|_=>match out with|.ret r=>Pg f.res r G' s|.pan _=>False) { sl:=args++List.replicate (f.ntmps-args.length) .undef,hp:=[gOb G] }
theorem Ayb{C:CT}{b:AC}{n:Nat}{res:List AR}{G G':GV}{args:List SV}{out:HOut}:Aph C { ntmps:=n,res:=res,body:=b } G args out G'=vcW C b (rtG res out G') ⟨args++List.replicate (n-args.length) .undef,[gOb G]⟩:=q_z
attribute [go_sem] Ayb
theorem A3x{f:Nat}{fn:Func}{af:AF}{G G':GV}{args:List SV}{out:HOut}(hm:P.follows .mixedOrders=true)(hf:P.funcs[f]?=some fn)(htr:trF P fn=some af)
  (h:Aph (Av P fun x G1=>out=.pan x/\G1=G') af G args out G'):HContract P f G args out G':=by
 intro m w vs hmem hsat Ah Bq;unfold trF at htr;split at htr;rotate_left
 ·cases htr
 rename_i c hb;simp only[q_c,q_a,q_d,q_b] at htr;obtain⟨ars,Gt,ac,Li,rfl⟩:=htr
 let own:Nat->Prop:=fun b=>∃i,m.d i=some b
 let E0:Env:={ m:=m,m0:=m,H:=fun _=>none,β:=fun _=>0,t:=fun _=>0 }
 have hW:W w own E0 w:=⟨rfl,rfl,rfl,Nat.le_refl _,fun _ _ _=>rfl,hmem.1,fun o ob ho=>(by cases ho),fun o o' ob ob' ho=>(by cases ho),fun _ _ _ _=>rfl,hmem.2⟩
 have hS:SR w own m (fun _=>True) [] E0 (some G) { sl:=args++List.replicate (fn.ntmps-args.length) .undef,hp:=[gOb G] } { tmps:=vs.toArray++Array.replicate (fn.ntmps-vs.toArray.size) undef,defers:=[] } w:=by
  refine⟨hW,⟨rfl,hsat,fun i b hi=>.inr ⟨i,hi⟩,fun i b o ob _ ho=>by cases ho⟩,fun o=>?_,by simp[Ah],Ul Ah Bq,rfl,rfl,.refl _,(fun h=>by cases h),fun _=>trivial⟩;cases o with
  |zero=>rfl
  |succ o=>rfl
 refine calls_of_wp hf hb ?_
 -- what is there at an end
 have tail:∀(E:Env) (w':World),W w own E w'->GI w.heap.size own E w' G'->m.le E.m->E.m0=m->m.le E.m/\(∀b j,b<w.heap.size->E.m b j=m b j)/\Hv E.m w'/\GSat E.m w' G' /\
   (∀i b,E.m.d i=some b->m.d i=some b\/w.heap.size<=b)/\w'.os=w.os/\w'.tape=w.tape/\w'.output=w.output/\w.heap.size<=w'.heap.size/\∀k,k<w.heap.size->(∀i,m.d i≠some k)->w'.heap[k]?=w.heap[k]?:=by
  intro E w' hW hg hle hz;refine⟨hle,fun b j hb=>?_,⟨hW.mem,hW.pl⟩,hg.sat,fun i b hi=>?_,hW.os,hW.tape,hW.output,hW.size,fun k hk hn=>hW.block k hk (fun ⟨i,hi⟩=>hn i hi)⟩
  ·by_cases ho:own b
   ·obtain⟨i,hi⟩:=ho;rw[hsat.free i b j hi,hg.sat.free i b j (hle.d _ _ hi)]
   ·rw[hW.keep b j hb ho,hz]
  ·rcases hg.new i b hi with h|⟨i',Bw⟩
   ·exact .inr h
   ·have:=hg.sat.inj i i' b hi (hle.d _ _ Bw);subst this;exact .inl Bw
 have fin:∀(E:Env) (g:Option (GV)) (s:St) (a:Act) (w':World) (r:SV),SR w own m (fun _=>True) [] E g s a w'->out=.ret r->Pg ars r G' s->a.defers=[]/\∃v,(results fn a.tmps).run P w'=.ok v w'/\∃m',Su m' (.returned v) out/\m.le m'/\(∀b j,b<w.heap.size->m' b j=m b j)/\Hv m' w'/\GSat m' w' G' /\
   (∀i b,m'.d i=some b->m.d i=some b\/w.heap.size<=b)/\w'.os=w.os/\w'.tape=w.tape/\w'.output=w.output/\w.heap.size<=w'.heap.size/\∀k,k<w.heap.size->(∀i,m.d i≠some k)->w'.heap[k]?=w.heap[k]?:=by
  intro E g s a w' r hS ho hr;subst ho;refine⟨hS.dfr,?_⟩;unfold Pg at hr;split at hr;rotate_left
  ·exact hr.elim
  rename_i p svs hp' Iz;obtain⟨hp,Nt,hG⟩:=hr;obtain⟨us,E',k1,k2,k3,k4,k5⟩:=Ux fn.results.toList ars p svs hp' E s Gt Iz hp hS;have:=My (U:=fun _=>True) (s:={ s with hp:=hp' }) (fun o _=>k4.hp o) trivial k4.wo hG;subst this;exact⟨_,Uw k1,E'.m,⟨_,rfl,Uq Nt k2 k3⟩,tail E' w' k4.wo k4.gx k4.le k4.z⟩
 refine Bh2 (X:=fun x G1=>out=.pan x/\G1=G') hm c ac Li (fun E u x G1 a w' hx Bq hW hg hle hz En=>?_) (fun e E g s a w' hS he=>?_) E0 (some G) _ _ w hS h
 ·obtain⟨rfl,rfl⟩:=hx;exact⟨En,E.m,⟨u,rfl,Bq⟩,tail E w' hW hg hle hz⟩
 ·cases out with
  |pan x=>cases e<;>exact he.elim
  |ret r=>
   cases e with
   |normal=>exact fin E g s a w' r hS rfl he
   |exit id=>exact he.elim
   |ret=>exact fin E g s a w' r hS rfl he
end
def bnd(k:Int)(p:Nat):Nat:=(Bn k p).toNat
def vT(i:Nat):Tm:=.mk 2 i 0 0 []
def fT(l:Int):Tm:=.mk 0 l 0 0 []
mutual
def trT(v:Nat->Nat->Tm)(f:Nat->Int->Tm)(b:Nat):Tm->Tm
 |.mk k i j n l=>if k=2 then v b i.toNat else if k=0 then f b i else .mk k i j n (trL v f b k 0 l)
def trL(v:Nat->Nat->Tm)(f:Nat->Int->Tm)(b:Nat)(k:Int)(p:Nat):List Tm->List Tm
 |[]=>[]
 |t::l=>trT v f (b+bnd k p) t::trL v f b k (p+1) l
end
section
variable{v v1 v2:Nat->Nat->Tm}{f f1 f2:Nat->Int->Tm}
theorem Cm(b:Nat)(i:Nat):trT v f b (vT i)=v b i:=by unfold vT;rw[trT,if_pos rfl];rfl
theorem Hh(b:Nat)(l:Int):trT v f b (fT l)=f b l:=by unfold fT;rw[trT,if_neg (by decide),if_pos rfl]
theorem Rb(b:Nat)(i j n:Int)(l:List Tm):trT v f b (.mk 2 i j n l)=v b i.toNat:=by rw[trT,if_pos rfl]
theorem So(b:Nat)(i j n:Int)(l:List Tm):trT v f b (.mk 0 i j n l)=f b i:=by rw[trT,if_neg (by decide),if_pos rfl]
theorem Fe{k:Int}(h2:k≠2)(h0:k≠0)(b:Nat)(i j n:Int)(l:List Tm):trT v f b (.mk k i j n l)=.mk k i j n (trL v f b k 0 l):=by rw[trT,if_neg h2,if_neg h0]
theorem Kl(b:Nat)(k:Int):∀(l:List Tm) (p:Nat),(trL v f b k p l).length=l.length:=by
 intro l
 induction l with
 |nil=>intro p;rw[trL]
 |cons t l ih=>intro p;rw[trL,List.length_cons,List.length_cons,ih]
theorem Ep(b:Nat)(k:Int):∀(l:List Tm) (p q:Nat),(trL v f b k p l)[q]?=(l[q]?).map (trT v f (b+bnd k (p+q))):=by
 intro l
 induction l with
 |nil=>intro p q;rw[trL];simp
 |cons t l ih=>
  intro p q;rw[trL];cases q with
  |zero=>simp
  |succ q=>
   rw[List.getElem?_cons_succ,List.getElem?_cons_succ,ih,show p+1+q=p+(q+1) by omega]
theorem Ao4(hv:∀b i,trT v2 f2 b (v1 b i)=v b i)(hf:∀b l,trT v2 f2 b (f1 b l)=f b l)(t:Tm):∀b,trT v2 f2 b (trT v1 f1 b t)=trT v f b t:=by
 induction t using Tm.ind with
 |h k i j n l ih=>
  intro b
  by_cases h2:k=2
  ·subst h2;rw[Rb,Rb,hv]
  by_cases h0:k=0
  ·subst h0;rw[So,So,hf]
  rw[Fe h2 h0,Fe h2 h0,Fe h2 h0];congr 1;apply List.ext_getElem?;intro q;rw[Ep,Ep,Ep,Option.map_map];cases hq:l[q]? with
  |none=>rfl
  |some t=>
   simp only[Option.map_some,Function.comp];rw[ih t (List.mem_of_getElem? hq)]
theorem Bg4{b0:Nat}(hv:∀b i,b0<=b->v1 b i=v2 b i)(hf:∀b l,b0<=b->f1 b l=f2 b l)(t:Tm):∀b,b0<=b->trT v1 f1 b t=trT v2 f2 b t:=by
 induction t using Tm.ind with
 |h k i j n l ih=>
  intro b hb
  by_cases h2:k=2
  ·subst h2;rw[Rb,Rb,hv _ _ hb]
  by_cases h0:k=0
  ·subst h0;rw[So,So,hf _ _ hb]
  rw[Fe h2 h0,Fe h2 h0];congr 1;apply List.ext_getElem?;intro q;rw[Ep,Ep];cases hq:l[q]? with
  |none=>rfl
  |some t=>
   simp only[Option.map_some];rw[ih t (List.mem_of_getElem? hq) _ (by omega)]
end
inductive Wf:Nat->Tm->Prop
 |var {b i:Nat} (h:i<b):Wf b (vT i)
 |fv (b:Nat) (l:Int):Wf b (fT l)
 |nd {b:Nat} {k:Int} (i j n:Int) {l:List Tm} (h2:k≠2) (h0:k≠0) (hf:fit i/\fit j/\fit n) (hl:(l.length:Int)=Bh k n) (hk:∀(p:Nat) t,l[p]?=some t->Wf (b+bnd k p) t):Wf b (.mk k i j n l)
theorem Wf.mono{b:Nat}{t:Tm}(h:Wf b t):∀{c},b<=c->Wf c t:=by
 induction h with
 |var h=>intro c hc;exact .var (by omega)
 |fv b l=>intro c _;exact .fv _ _
 |nd i j n h2 h0 hf hl _ ih=>intro c hc;exact .nd i j n h2 h0 hf hl (fun p t ht=>ih p t ht (by omega))
theorem Ao5{v:Nat->Nat->Tm}{f:Nat->Int->Tm}{b:Nat}{t:Tm}(h:Wf b t):∀{c},b<=c->(∀c' i,i<b+(c'-c)->c<=c'->v c' i=vT i)->(∀b l,f b l=fT l)->trT v f c t=t:=by
 induction h with
 |var h=>intro c hc hv _;rw[Cm,hv _ _ (by omega) (Nat.le_refl _)]
 |fv b l=>intro c hc _ hf;rw[Hh,hf]
 |@nd b k i j n l h2 h0 Db hl _ ih=>
  intro c hc hv hf;rw[Fe h2 h0];congr 1;apply List.ext_getElem?;intro q;rw[Ep];cases hq:l[q]? with
  |none=>rfl
  |some t=>
   simp only[Option.map_some,Nat.zero_add];rw[ih q t hq (by omega) (fun c' i hi hc'=>hv _ _ (by omega) (by omega)) hf]
theorem Bg9{v:Nat->Nat->Tm}{f:Nat->Int->Tm}{B:Nat}{t:Tm}(h:Wf B t):∀{b c:Nat},(∀b' i,b<=b'->Wf (c+(b'-b)) (v b' i))->(∀b' l,b<=b'->Wf (c+(b'-b)) (f b' l))->Wf c (trT v f b t):=by
 induction h with
 |var h=>intro b c hv _;rw[Cm];simpa using hv b _ (Nat.le_refl _)
 |fv B l=>intro b c _ hf;rw[Hh];simpa using hf b _ (Nat.le_refl _)
 |@nd B k i j n l h2 h0 Db hl _ ih=>
  intro b c hv hf;rw[Fe h2 h0];refine .nd i j n h2 h0 Db (by rw[Kl];exact hl) (fun p t ht=>?_);rw[Ep,Nat.zero_add] at ht;cases hq:l[p]? with
  |none=>rw[hq] at ht;cases ht
  |some u=>
   rw[hq,Option.map_some,q_b] at ht;subst ht;refine ih p u hq (fun b' i hb=>?_) (fun b' l hb=>?_)
   ·have:=hv b' i (by omega)
    rwa [show c+(b'-b)=c+bnd k p+(b'-(b+bnd k p)) by omega] at this
   ·have:=hf b' l (by omega)
    rwa [show c+(b'-b)=c+bnd k p+(b'-(b+bnd k p)) by omega] at this
def ivI(e:List Tm)(b i:Nat):Tm:=if i<b then vT i else match e[i-b]? with
 |some u=>u
 |none=>fT (e.length-(i-b:Nat)-1)
def Ao(e:List Tm):Nat->Tm->Tm:=trT (ivI e) (fun _ l=>fT l)
theorem A5v{e:List Tm}(he:∀u∈e,Wf 0 u)(b i:Nat):Wf b (ivI e b i):=by
 unfold ivI;split
 ·exact .var (by omega)
 ·split
  ·rename_i u hu;exact (he u (List.mem_of_getElem? hu)).mono (Nat.zero_le _)
  ·exact .fv _ _
theorem Alc{e:List Tm}(he:∀u∈e,Wf 0 u){B:Nat}{t:Tm}(h:Wf B t)(b:Nat):Wf b (Ao e b t):=
 Bg9 h (fun b' i hb=>(A5v he b' i).mono (by omega)) (fun b' l hb=>.fv _ _)
theorem Aaw{es e:List Tm}(he:∀u∈e,Wf 0 u)(hs:∀u∈es,Wf 0 u)(t:Tm):Ao es 0 (Ao e es.length t)=Ao (es++e) 0 t:=by
 have key:∀b,trT (ivI es) (fun _ l=>fT l) b (trT (fun b i=>ivI e (b+es.length) i) (fun _ l=>fT l) b t)=trT (ivI (es++e)) (fun _ l=>fT l) b t:=by
  refine Ao4 (fun b i=>?_) (fun b l=>Hh _ _) t;unfold ivI
  by_cases h1:i<b
  ·rw[if_pos (by omega),if_pos h1,Cm,if_pos h1]
  by_cases h2:i<b+es.length
  ·rw[if_pos h2,if_neg h1,Cm,if_neg h1,List.getElem?_append_left (by omega)];have hx:i-b<es.length:=by omega
   rw[q_f hx]
  ·rw[if_neg h2,if_neg h1,List.getElem?_append_right (by omega),show i-b-es.length=i-(b+es.length) by omega];cases hq:e[i-(b+es.length)]? with
   |none=>
    simp only;rw[Hh,List.length_append];congr 1;omega
   |some u=>
    simp only;exact Ao5 (he u (List.mem_of_getElem? hq)) (Nat.zero_le _) (fun c' i hi hc'=>by rw[if_pos (by omega)]) (fun _ _=>rfl)
 have e0:∀(t:Tm) (b:Nat),trT (fun b i=>ivI e (b+es.length) i) (fun _ l=>fT l) b t=trT (ivI e) (fun _ l=>fT l) (b+es.length) t:=by
  intro t
  induction t using Tm.ind with
  |h k i j n l ih=>
   intro b
   by_cases h2:k=2
   ·subst h2;rw[Rb,Rb]
   by_cases h0:k=0
   ·subst h0;rw[So,So]
   rw[Fe h2 h0,Fe h2 h0];congr 1;apply List.ext_getElem?;intro q;rw[Ep,Ep];cases hq:l[q]? with
   |none=>rfl
   |some t=>
    simp only[Option.map_some];rw[ih t (List.mem_of_getElem? hq),show b+bnd k (0+q)+es.length=b+es.length+bnd k (0+q) by omega]
 have:=key 0;rw[e0,Nat.zero_add] at this;exact this
end Go.Proofs.YtdpigpopcbjkmaaGreatDoor.Abs
