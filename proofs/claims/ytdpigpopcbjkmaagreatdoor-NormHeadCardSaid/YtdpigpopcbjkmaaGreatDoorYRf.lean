import Derived.Test.YtdpigpopcbjkmaaGreatDoorYEv
import Derived.Test.YtdpigpopcbjkmaaGreatDoorProg
import Derived.KernelRfl
import Derived.Test.YtdpigpopcbjkmaaGreatDoorYTd
set_option linter.unusedSimpArgs false
set_option linter.unusedVariables false
set_option maxRecDepth 20000
set_option maxHeartbeats 4000000
namespace Go.Proofs.YtdpigpopcbjkmaaGreatDoor.Abs
open Go Go.Proofs Go.Proofs.YtdpigpopcbjkmaaGreatDoor
def a35_26:AC:=sqF [oP 51 (.bin 0 .lss (.t 50) (.t 49))] (.seq (.cond (.t 51) .skip (.exit 0)) (.seq (.blk 1 (sqF [oP 52 (mT 50),oP 53 (.iad 1 (.t 48) (.t 50)),oP 54 (ldT 53),oP 9 (mT 52),oP 10 (mT 54)] (sqF [oP 55 (mT 7),oP 56 (nkT 55),oP 57 (fdT 0 56),oP 58 (ldT 57),oP 59 (mT 9),oP 60 (.call 60 [(.t 58),(.t 59)]),oP 11 (mT 60)] (.seq (sqF [oP 61 (mT 11),oP 62 (.bin 0 .gtr (.t 61) (cI 0))] (.cond (.t 62) (rgF [oP 63 (mT 10),oP 64 (mT 2),oP 65 (mT 11),oP 66 (.hcall 61 [(.t 63),(.t 64),(.t 65)]),oP 10 (mT 66)]) .skip)) (.reg [oP 67 (fdT 4 8),⟨(some 68),(ldT 67),none,1,true,[]⟩,oI 69 2 (mT 0),oI 70 3 (mT 10),oI 71 4 (mT 2),oI 72 5 (mT 11),oI 73 6 (.bin 0 .add (.t 71) (.t 72)),⟨(some 74),(.hcall 35 [(.t 69),(.t 70),(.t 73)]),none,7,false,[1,7]⟩,⟨(some 75),(.bslice 5 [(.t 74)]),none,8,false,[1]⟩,oI 76 9 (.app 5 56 (.t 68) (.t 75)),oI 77 10 (fdT 4 8),oJ 11 (.store 1 (.t 77) (.t 76))] true))))) (rgF [oP 78 (.bin 0 .add (.t 50) (cI 1)),oP 50 (mT 78)])))
def a35_31:AC:=sqF [oP 79 (.load true 5 (.t 8)),oN (.store 5 (.t 6) (.t 79))] .ret
def af35:AF:=⟨80,[(.cell 6 true 5)],(sqF [oP 6 (.new [(iS 0),(iS 0),(iS 0),(iS 0),.nils])] (sqF [oP 12 (mT 0),oP 13 (.hcall 58 [(.t 12)])] (sqF [oP 14 (mT 0),oP 15 (mT 1),oP 16 (.hcall 46 [(.t 14),(.t 15)]),oP 7 (mT 16)] (.seq (sqF [oP 17 (mT 7),oP 18 (nkT 17),oP 19 (fdT 0 18),oP 20 (ldT 19),oP 21 (.bin 0 .eql (.t 20) (cI 2))] (.cond (.t 21) (sqF [oP 22 (mT 7),oP 23 (nkT 22),oP 24 (fdT 4 23),oP 25 (ldT 24),oP 26 (mT 2),oP 27 (.call 59 [(.t 25),(.t 26)]),oN (.store 5 (.t 6) (.t 27))] .ret) .skip)) (sqT [oP 28 (mT 7),oI 29 1 (nkT 28),oI 30 2 (fdT 0 29),⟨(some 31),(ldT 30),none,3,true,[]⟩,oI 32 4 (mT 7),oI 33 5 (nkT 32),oI 34 6 (fdT 1 33),⟨(some 35),(ldT 34),none,7,true,[]⟩,oI 36 8 (mT 7),oI 37 9 (nkT 36),oI 38 10 (fdT 2 37),⟨(some 39),(ldT 38),none,11,true,[]⟩,oI 40 12 (mT 7),oI 41 13 (nkT 40),oI 42 14 (fdT 3 41),⟨(some 43),(ldT 42),none,15,true,[]⟩,oI 44 16 (.build [(iS 0),(iS 0),(iS 0),(iS 0),.nils] [(0,(1,(.t 31))),(1,(1,(.t 35))),(2,(1,(.t 39))),(3,(1,(.t 43)))]),⟨(some 8),(.new [(iS 0),(iS 0),(iS 0),(iS 0),.nils]),none,17,false,[3,7,11,15]⟩,oJ 18 (.store 5 (.t 8) (.t 44))] (.seq (sqF [oP 45 (mT 7),oP 46 (nkT 45),oP 47 (fdT 5 46),oP 48 (ldT 47),oP 49 (.len false (.t 48)),oP 50 (.mv (cI 0))] (.blk 0 (.loop a35_26))) a35_31))))))⟩
theorem tr35:trF Tryz.prog Tryz.f35=some af35:=by kernel_rfl
attribute [go_sem] af35 a35_26 a35_31
def a45_23:AC:=sqF [oP 45 (.bin 0 .lss (.t 44) (.t 43))] (.seq (.cond (.t 45) .skip (.exit 0)) (.seq (.blk 1 (sqF [oP 46 (mT 44),oP 47 (.iad 1 (.t 42) (.t 44)),oP 48 (ldT 47),oP 8 (mT 46),oP 9 (mT 48)] (sqF [oP 49 (mT 1),oP 50 (nkT 49),oP 51 (fdT 0 50),oP 52 (ldT 51),oP 53 (mT 8),oP 54 (.call 60 [(.t 52),(.t 53)]),oP 10 (mT 54)] (sqF [oP 55 (mT 10),oP 56 (.bin 0 .gtr (.t 55) (cI 0))] (.cond (.t 56) (.reg [oP 57 (fdT 4 7),⟨(some 58),(ldT 57),none,1,true,[]⟩,oI 59 2 (mT 0),oI 60 3 (mT 9),oI 61 4 (nkT 60),oI 62 5 (fdT 0 61),oI 63 6 (.load true 5 (.t 62)),oI 64 7 (mT 9),oI 65 8 (nkT 64),oI 66 9 (fdT 5 65),oI 67 10 (ldT 66),oI 68 11 (mT 10),oI 69 12 (mT 2),⟨(some 70),(.hcall 66 [(.t 59),(.t 63),(.t 67),(.t 68),(.t 69)]),none,13,false,[1,13]⟩,⟨(some 71),(.bslice 5 [(.t 70)]),none,14,false,[1]⟩,oI 72 15 (.app 5 56 (.t 58) (.t 71)),oI 73 16 (fdT 4 7),oJ 17 (.store 1 (.t 73) (.t 72))] true) (.reg [oP 74 (fdT 4 7),⟨(some 75),(ldT 74),none,1,true,[]⟩,oI 76 2 (mT 0),oI 77 3 (mT 9),oI 78 4 (mT 2),⟨(some 79),(.hcall 67 [(.t 76),(.t 77),(.t 78)]),none,5,false,[1,5]⟩,⟨(some 80),(.bslice 5 [(.t 79)]),none,6,false,[1]⟩,oI 81 7 (.app 5 56 (.t 75) (.t 80)),oI 82 8 (fdT 4 7),oJ 9 (.store 1 (.t 82) (.t 81))] true)))))) (rgF [oP 83 (.bin 0 .add (.t 44) (cI 1)),oP 44 (mT 83)])))
def a45_28:AC:=sqF [oP 84 (.load true 5 (.t 7)),oN (.store 5 (.t 6) (.t 84))] .ret
def af45:AF:=⟨85,[(.cell 6 true 5)],(sqF [oP 6 (.new [(iS 0),(iS 0),(iS 0),(iS 0),.nils])] (.seq (sqF [oP 11 (mT 1),oP 12 (nkT 11),oP 13 (fdT 0 12),oP 14 (ldT 13),oP 15 (.bin 0 .eql (.t 14) (cI 2))] (.cond (.t 15) (sqF [oP 16 (mT 1),oP 17 (nkT 16),oP 18 (fdT 4 17),oP 19 (ldT 18),oP 20 (mT 2),oP 21 (.call 59 [(.t 19),(.t 20)]),oN (.store 5 (.t 6) (.t 21))] .ret) .skip)) (sqT [oP 22 (mT 1),oI 23 1 (nkT 22),oI 24 2 (fdT 0 23),⟨(some 25),(ldT 24),none,3,true,[]⟩,oI 26 4 (mT 1),oI 27 5 (nkT 26),oI 28 6 (fdT 1 27),⟨(some 29),(ldT 28),none,7,true,[]⟩,oI 30 8 (mT 1),oI 31 9 (nkT 30),oI 32 10 (fdT 2 31),⟨(some 33),(ldT 32),none,11,true,[]⟩,oI 34 12 (mT 1),oI 35 13 (nkT 34),oI 36 14 (fdT 3 35),⟨(some 37),(ldT 36),none,15,true,[]⟩,oI 38 16 (.build [(iS 0),(iS 0),(iS 0),(iS 0),.nils] [(0,(1,(.t 25))),(1,(1,(.t 29))),(2,(1,(.t 33))),(3,(1,(.t 37)))]),⟨(some 7),(.new [(iS 0),(iS 0),(iS 0),(iS 0),.nils]),none,17,false,[3,7,11,15]⟩,oJ 18 (.store 5 (.t 7) (.t 38))] (.seq (sqF [oP 39 (mT 1),oP 40 (nkT 39),oP 41 (fdT 5 40),oP 42 (ldT 41),oP 43 (.len false (.t 42)),oP 44 (.mv (cI 0))] (.blk 0 (.loop a45_23))) a45_28))))⟩
theorem tr45:trF Tryz.prog Tryz.f45=some af45:=by kernel_rfl
attribute [go_sem] af45 a45_23 a45_28
def a66_39:AC:=sqF [oP 63 (.bin 0 .lss (.t 62) (.t 61))] (.seq (.cond (.t 63) .skip (.exit 0)) (.seq (.blk 1 (sqF [oP 64 (mT 62),oP 65 (.iad 5 (.t 60) (.t 62)),oP 66 (.load true 5 (.t 65)),oP 14 (.new [(iS 0),(iS 0),(iS 0),(iS 0),.nils]),oP 13 (mT 64),oN (.store 5 (.t 14) (.t 66))] (.reg [oP 67 (mT 12),oI 68 1 (mT 13),oI 69 2 (mT 0),⟨(some 70),(.load true 5 (.t 14)),none,3,true,[]⟩,oI 71 4 (mT 2),oI 72 5 (mT 3),oI 73 6 (fdT 0 6),oI 74 7 (ldT 73),oI 75 8 (mT 13),⟨(some 76),(.call 60 [(.t 74),(.t 75)]),none,9,false,[3]⟩,oI 77 10 (.bin 0 .add (.t 72) (.t 76)),oI 78 11 (mT 4),⟨(some 79),(.hcall 66 [(.t 69),(.t 70),(.t 71),(.t 77),(.t 78)]),none,12,false,[12]⟩,oI 80 13 (.iad 5 (.t 67) (.t 68)),oJ 14 (.store 5 (.t 80) (.t 79))] true))) (rgF [oP 81 (.bin 0 .add (.t 62) (cI 1)),oP 62 (mT 81)])))
def a66_46:AC:=sqF [oP 82 (mT 12),oP 83 (fdT 4 6),oN (.store 1 (.t 83) (.t 82))] (sqF [oP 84 (.load true 5 (.t 6)),oN (.store 5 (.t 10) (.t 84))] .ret)
def af66:AF:=⟨85,[(.cell 10 true 5)],(sqF [oP 6 (.box (.t 1)),oP 10 (.new [(iS 0),(iS 0),(iS 0),(iS 0),.nils])] (sqF [oP 15 (mT 0),oP 16 (.hcall 58 [(.t 15)])] (.seq (sqF [oP 17 (fdT 0 6),oP 18 (ldT 17),oP 19 (.bin 0 .eql (.t 18) (cI 2))] (.cond (.t 19) (.seq (sqF [oP 20 (fdT 1 6),oP 21 (ldT 20),oP 22 (mT 3),oP 23 (.bin 0 .lss (.t 21) (.t 22))] (.cond (.t 23) (sqF [oP 24 (fdT 1 6),oP 25 (ldT 24),oP 26 (.call 84 [(.t 25)]),oN (.store 5 (.t 10) (.t 26))] .ret) .skip)) (.seq (sqF [oP 27 (mT 2),oP 28 (fdT 1 6),oP 29 (ldT 28),oP 30 (mT 3),oP 31 (.bin 0 .sub (.t 29) (.t 30)),oP 32 (.call 88 [(.t 27),(.t 31)]),oP 11 (mT 32)] (sqF [oP 33 (mT 11),oP 34 (.bin 2 .neq (.t 33) (.c .nilp))] (.cond (.t 34) (sqF [oP 35 (mT 0),oP 36 (mT 11),oP 37 (mT 4),oP 38 (mT 3),oP 39 (.bin 0 .add (.t 37) (.t 38)),oP 40 (.hcall 67 [(.t 35),(.t 36),(.t 39)]),oN (.store 5 (.t 10) (.t 40))] .ret) .skip))) (sqT [oP 41 (fdT 1 6),⟨(some 42),(ldT 41),none,1,true,[]⟩,oI 43 2 (mT 2),⟨(some 44),(.call 89 [(.t 43)]),none,3,false,[1]⟩,oI 45 4 (.bin 0 .sub (.t 42) (.t 44)),oI 46 5 (mT 4),oI 47 6 (.bin 0 .add (.t 45) (.t 46)),oI 48 7 (.call 84 [(.t 47)]),oJ 8 (.store 5 (.t 10) (.t 48))] .ret))) .skip)) (.seq (sqF [oP 49 (fdT 4 6),oP 50 (ldT 49),oP 51 (.len false (.t 50)),oP 52 (.bin 0 .eql (.t 51) (cI 0))] (.cond (.t 52) (sqF [oP 53 (fdT 4 6),oN (.store 1 (.t 53) (.c .nils))] (sqF [oP 54 (.load true 5 (.t 6)),oN (.store 5 (.t 10) (.t 54))] .ret)) .skip)) (sqF [oP 55 (fdT 4 6),oP 56 (ldT 55),oP 57 (.len false (.t 56)),oP 58 (.mk 5 56 [(iS 0),(iS 0),(iS 0),(iS 0),.nils] (.t 57) (.t 57)),oP 12 (mT 58)] (.seq (sqF [oP 59 (fdT 4 6),oP 60 (ldT 59),oP 61 (.len false (.t 60)),oP 62 (.mv (cI 0))] (.blk 0 (.loop a66_39))) a66_46))))))⟩
theorem tr66:trF Tryz.prog Tryz.f66=some af66:=by kernel_rfl
attribute [go_sem] af66 a66_39 a66_46
def a69_24:AC:=.blk 1 (.seq (sqF [oP 7 (mT 1),oP 8 (nkT 7),oP 9 (fdT 0 8),oP 10 (ldT 9),oP 11 (.bin 0 .eql (.t 10) (cI 23))] (.cond (.t 11) (.seq (sqT [oP 12 (mT 0),oI 13 1 (mT 1),oI 14 2 (nkT 13),oI 15 3 (fdT 3 14),oI 16 4 (ldT 15),oI 17 5 (mT 1),oI 18 6 (nkT 17),oI 19 7 (fdT 1 18),oI 20 8 (ldT 19),oI 21 9 (mT 1),oI 22 10 (nkT 21),oI 23 11 (fdT 2 22),oI 24 12 (ldT 23),⟨(some 25),(.hcall 91 [(.t 12),(.t 16),(.t 20),(.t 24)]),none,13,false,[13]⟩,oI 5 14 (mT 25)] (sqF [oP 26 (mT 5),oP 27 (.bin 2 .neq (.t 26) (.c .nilp)),oP 28 (mT 27),oG 29 28 true 0 (mT 5),oG 30 28 true 0 (nkT 29),oG 31 28 true 0 (fdT 12 30),oG 32 28 true 0 (ldT 31),oP 33 (.pick (.t 28) (.t 32) (cB false))] (.cond (.t 33) (sqF [oP 34 (mT 1),oP 35 (nkT 34),oP 36 (fdT 3 35),oP 37 (ldT 36),oP 4 (mT 37)] .ret) .skip))) (sqF [oP 4 (.mv (cI 0))] .ret)) .skip)) (sqF [oP 38 (mT 1),oP 39 (nkT 38),oP 40 (fdT 0 39),oP 41 (ldT 40),oP 42 (.call 92 [(.t 41)]),oP 6 (mT 42)] (.seq (sqF [oP 43 (mT 6),oP 44 (.bin 0 .lss (.t 43) (cI 0))] (.cond (.t 44) (sqF [oP 4 (.mv (cI 0))] .ret) .skip)) (rgF [oP 45 (mT 1),oP 46 (nkT 45),oP 47 (fdT 5 46),oP 48 (ldT 47),oP 49 (mT 6),oP 50 (.iad 1 (.t 48) (.t 49)),oP 51 (ldT 50),oP 52 (nkT 51),oP 53 (fdT 7 52),oP 54 (ldT 53),oP 1 (mT 54)]))))
def af69:AF:=⟨55,[(.t 4)],(sqF [oP 4 (.mv (cI 0))] (.blk 0 (.loop a69_24)))⟩
theorem tr69:trF Tryz.prog Tryz.f69=some af69:=by kernel_rfl
attribute [go_sem] af69 a69_24
def af70:AF:=⟨70,[(.t 4)],(sqF [oP 4 (.mv (.c .nilp))] (.seq (sqF [oP 9 (mT 1),oP 10 (nkT 9),oP 11 (fdT 0 10),oP 12 (ldT 11),oP 13 (.bin 0 .eql (.t 12) (cI 23))] (.cond (.t 13) (sqF [oP 14 (mT 0),oP 15 (.hcall 93 [(.t 14)])] (sqF [oP 5 (.mv (.c .nilp))] (.seq (sqF [oP 16 (mT 1),oP 17 (nkT 16),oP 18 (fdT 5 17),oP 19 (ldT 18),oP 20 (.len false (.t 19)),oP 21 (.mv (cI 0))] (.blk 0 (.loop (sqF [oP 22 (.bin 0 .lss (.t 21) (.t 20))] (.seq (.cond (.t 22) .skip (.exit 0)) (.seq (.blk 1 (sqF [oP 23 (.iad 1 (.t 19) (.t 21)),oP 24 (ldT 23),oP 7 (mT 24)] (rgF [oP 25 (mT 5),oP 26 (mT 7),oP 27 (.call 85 [(.t 25),(.t 26)]),oP 5 (mT 27)]))) (rgF [oP 28 (.bin 0 .add (.t 21) (cI 1)),oP 21 (mT 28)]))))))) (sqT [oP 29 (mT 0),oI 30 1 (mT 0),oI 31 2 (mT 1),oI 32 3 (nkT 31),oI 33 4 (fdT 3 32),oI 34 5 (ldT 33),oI 35 6 (mT 1),oI 36 7 (nkT 35),oI 37 8 (fdT 1 36),oI 38 9 (ldT 37),oI 39 10 (mT 1),oI 40 11 (nkT 39),oI 41 12 (fdT 2 40),oI 42 13 (ldT 41),oI 43 14 (.hcall 91 [(.t 30),(.t 34),(.t 38),(.t 42)]),oI 44 15 (nkT 43),oI 45 16 (fdT 7 44),oI 46 17 (.load true 5 (.t 45)),oI 47 18 (mT 5),⟨(some 48),(.hcall 90 [(.t 29),(.t 46),(.t 47)]),none,19,false,[19]⟩,oI 4 20 (mT 48)] .ret)))) .skip)) (sqF [oP 49 (mT 1),oP 50 (nkT 49),oP 51 (fdT 0 50),oP 52 (ldT 51),oP 53 (.call 92 [(.t 52)]),oP 8 (mT 53)] (sqF [oP 54 (mT 0),oP 55 (mT 1),oP 56 (mT 8),oP 57 (mT 0),oP 58 (mT 1),oP 59 (nkT 58),oP 60 (fdT 5 59),oP 61 (ldT 60),oP 62 (mT 8),oP 63 (.iad 1 (.t 61) (.t 62)),oP 64 (ldT 63),oP 65 (nkT 64),oP 66 (fdT 7 65),oP 67 (ldT 66),oP 68 (.hcall 70 [(.t 57),(.t 67)]),oP 69 (.hcall 94 [(.t 54),(.t 55),(.t 56),(.t 68)]),oP 4 (mT 69)] .ret))))⟩
theorem tr70:trF Tryz.prog Tryz.f70=some af70:=by kernel_rfl
attribute [go_sem] af70
def a90_54:AC:=.blk 1 (.seq (sqF [oP 10 (fdT 0 4),oP 11 (ldT 10),oP 12 (.bin 0 .eql (.t 11) (cI 2))] (.cond (.t 12) (.seq (sqF [oP 13 (mT 2),oP 14 (fdT 1 4),oP 15 (ldT 14),oP 16 (.call 88 [(.t 13),(.t 15)]),oP 7 (mT 16)] (sqF [oP 17 (mT 7),oP 18 (.bin 2 .neq (.t 17) (.c .nilp))] (.cond (.t 18) (sqF [oP 19 (mT 0),oP 20 (mT 7),oP 21 (.hcall 68 [(.t 19),(.t 20)]),oP 6 (mT 21)] .ret) .skip))) (sqT [oP 22 (mT 2),⟨(some 23),(.call 89 [(.t 22)]),none,1,true,[]⟩,oI 24 2 (fdT 1 4),⟨(some 25),(ldT 24),none,3,false,[1]⟩,oI 26 4 (.bin 0 .sub (.t 23) (.t 25)),oI 27 5 (.bin 0 .sub (.t 26) (cI 1)),oI 28 6 (.build [(iS 0),(iS 0),(iS 0),(iS 0),(iS 0),.nils] [(0,(1,(cI 2))),(4,(1,(.t 27)))]),oI 29 7 (.box (.t 28)),oI 6 8 (mT 29)] .ret)) .skip)) (sqF [oP 30 (fdT 0 4),oP 31 (ldT 30),oP 32 (.call 92 [(.t 31)]),oP 8 (mT 32)] (.seq (sqF [oP 33 (mT 8),oP 34 (.bin 0 .lss (.t 33) (cI 0))] (.cond (.t 34) (sqF [oP 35 (mT 0),oP 36 (.load true 5 (.t 4)),oP 37 (mT 2),oP 38 (.hcall 111 [(.t 35),(.t 36),(.t 37),(cI (-1)),(.c .nilp)]),oP 6 (mT 38)] .ret) .skip)) (sqF [oP 39 (mT 0),oP 40 (fdT 4 4),oP 41 (ldT 40),oP 42 (mT 8),oP 43 (.iad 5 (.t 41) (.t 42)),oP 44 (.load true 5 (.t 43)),oP 45 (mT 2),oP 46 (.hcall 90 [(.t 39),(.t 44),(.t 45)]),oP 9 (mT 46)] (.blk 2 (sqF [oP 54 (fdT 0 4),oP 55 (ldT 54),oP 56 (.bin 0 .eql (.t 55) (cI 15)),oP 57 (mT 56),oG 58 57 true 0 (mT 9),oG 59 57 true 0 (nkT 58),oG 60 57 true 0 (fdT 0 59),oG 61 57 true 0 (ldT 60),oG 62 57 true 0 (.bin 0 .eql (.t 61) (cI 14)),oP 63 (.pick (.t 57) (.t 62) (cB false)),oP 53 (mT 63)] (.cond (.t 53) (sqF [oP 64 (mT 0),oP 65 (.hcall 93 [(.t 64)])] (.reg [oP 66 (mT 9),oI 67 1 (nkT 66),oI 68 2 (fdT 5 67),⟨(some 69),(ldT 68),none,3,true,[]⟩,⟨(some 70),(.iad 1 (.t 69) (cI 1)),none,4,true,[]⟩,⟨(some 71),(ldT 70),none,5,true,[]⟩,oI 72 6 (nkT 71),oI 73 7 (fdT 0 72),⟨(some 74),(.load true 5 (.t 73)),none,8,true,[]⟩,oI 75 9 (mT 9),oI 76 10 (nkT 75),oI 77 11 (fdT 5 76),⟨(some 78),(ldT 77),none,12,true,[]⟩,⟨(some 79),(.iad 1 (.t 78) (cI 1)),none,13,true,[]⟩,⟨(some 80),(ldT 79),none,14,true,[]⟩,oI 81 15 (nkT 80),oI 82 16 (fdT 5 81),⟨(some 83),(ldT 82),none,17,true,[]⟩,oI 84 18 (fdT 4 4),oI 85 19 (ldT 84),oI 86 20 (.iad 5 (.t 85) (cI 1)),oI 87 21 (.load true 5 (.t 86)),oI 88 22 (mT 2),⟨(some 89),(.hcall 36 [(.t 87),(.t 88)]),none,23,false,[3,4,5,8,12,13,14,17,23]⟩,⟨(some 90),(.call 85 [(.t 83),(.t 89)]),none,24,false,[3,4,5,8]⟩,oJ 25 (.store 5 (.t 4) (.t 74)),oI 2 26 (mT 90)] true)) (sqF [oP 92 (fdT 0 4),oP 93 (ldT 92),oP 94 (.bin 0 .eql (.t 93) (cI 18)),oP 95 (mT 94),oG 96 95 true 0 (mT 9),oG 97 95 true 0 (nkT 96),oG 98 95 true 0 (fdT 0 97),oG 99 95 true 0 (ldT 98),oG 100 95 true 0 (.bin 0 .eql (.t 99) (cI 17)),oP 101 (.pick (.t 95) (.t 100) (cB false)),oP 91 (mT 101)] (.cond (.t 91) (sqF [oP 102 (mT 0),oP 103 (.hcall 93 [(.t 102)])] (sqF [oP 104 (mT 0),oP 105 (mT 9),oP 106 (nkT 105),oP 107 (fdT 5 106),oP 108 (ldT 107),oP 109 (.iad 1 (.t 108) (cI 2)),oP 110 (ldT 109),oP 111 (.hcall 68 [(.t 104),(.t 110)]),oP 6 (mT 111)] .ret)) (sqF [oP 113 (fdT 0 4),oP 114 (ldT 113),oP 115 (.bin 0 .eql (.t 114) (cI 19)),oP 116 (mT 115),oG 117 116 true 0 (mT 9),oG 118 116 true 0 (nkT 117),oG 119 116 true 0 (fdT 0 118),oG 120 116 true 0 (ldT 119),oG 121 116 true 0 (.bin 0 .eql (.t 120) (cI 17)),oP 122 (.pick (.t 116) (.t 121) (cB false)),oP 112 (mT 122)] (.cond (.t 112) (sqF [oP 123 (mT 0),oP 124 (.hcall 93 [(.t 123)])] (sqF [oP 125 (mT 0),oP 126 (mT 9),oP 127 (nkT 126),oP 128 (fdT 5 127),oP 129 (ldT 128),oP 130 (.iad 1 (.t 129) (cI 3)),oP 131 (ldT 130),oP 132 (.hcall 68 [(.t 125),(.t 131)]),oP 6 (mT 132)] .ret)) (sqF [oP 134 (fdT 0 4),oP 135 (ldT 134),oP 136 (.bin 0 .eql (.t 135) (cI 22)),oP 137 (mT 136),oG 138 137 true 0 (mT 9),oG 139 137 true 0 (nkT 138),oG 140 137 true 0 (fdT 0 139),oG 141 137 true 0 (ldT 140),oG 142 137 true 0 (.bin 0 .eql (.t 141) (cI 21)),oP 143 (.pick (.t 137) (.t 142) (cB false)),oP 133 (mT 143)] (.cond (.t 133) (sqF [oP 144 (mT 0),oP 145 (.hcall 93 [(.t 144)])] (rgF [oP 146 (fdT 4 4),oP 147 (ldT 146),oP 148 (.iad 5 (.t 147) (cI 3)),oP 149 (.load true 5 (.t 148)),oN (.store 5 (.t 4) (.t 149))])) (sqF [oP 47 (mT 0),oP 48 (.load true 5 (.t 4)),oP 49 (mT 2),oP 50 (mT 8),oP 51 (mT 9),oP 52 (.hcall 111 [(.t 47),(.t 48),(.t 49),(.t 50),(.t 51)]),oP 6 (mT 52)] .ret))))))))))))))
def af90:AF:=⟨150,[(.t 6)],(sqF [oP 4 (.box (.t 1)),oP 6 (.mv (.c .nilp))] (.blk 0 (.loop a90_54)))⟩
theorem tr90:trF Tryz.prog Tryz.f90=some af90:=by kernel_rfl
attribute [go_sem] af90 a90_54
def af94:AF:=⟨136,[(.t 8)],(sqF [oP 8 (.mv (.c .nilp))] (.seq (.blk 0 (sqF [oP 11 (mT 1),oP 12 (nkT 11),oP 13 (fdT 0 12),oP 14 (ldT 13),oP 15 (.bin 0 .eql (.t 14) (cI 15)),oP 16 (mT 15),oG 17 16 true 0 (mT 3),oG 18 16 true 0 (nkT 17),oG 19 16 true 0 (fdT 0 18),oG 20 16 true 0 (ldT 19),oG 21 16 true 0 (.bin 0 .eql (.t 20) (cI 14)),oP 22 (.pick (.t 16) (.t 21) (cB false)),oP 10 (mT 22)] (.cond (.t 10) (sqF [oP 23 (mT 0),oP 24 (.hcall 93 [(.t 23)])] (sqT [oP 25 (mT 0),oI 26 1 (mT 3),oI 27 2 (nkT 26),oI 28 3 (fdT 5 27),⟨(some 29),(ldT 28),none,4,true,[]⟩,⟨(some 30),(.iad 1 (.t 29) (cI 1)),none,5,true,[]⟩,⟨(some 31),(ldT 30),none,6,true,[]⟩,oI 32 7 (nkT 31),oI 33 8 (fdT 0 32),⟨(some 34),(.load true 5 (.t 33)),none,9,true,[]⟩,oI 35 10 (mT 3),oI 36 11 (nkT 35),oI 37 12 (fdT 5 36),oI 38 13 (ldT 37),oI 39 14 (.iad 1 (.t 38) (cI 1)),oI 40 15 (ldT 39),oI 41 16 (nkT 40),oI 42 17 (fdT 5 41),oI 43 18 (ldT 42),oI 44 19 (mT 1),oI 45 20 (nkT 44),oI 46 21 (fdT 5 45),oI 47 22 (ldT 46),oI 48 23 (.iad 1 (.t 47) (cI 1)),oI 49 24 (ldT 48),⟨(some 50),(.call 85 [(.t 43),(.t 49)]),none,25,false,[4,5,6,9]⟩,⟨(some 51),(.hcall 90 [(.t 25),(.t 34),(.t 50)]),none,26,false,[26]⟩,oI 8 27 (mT 51)] .ret)) (sqF [oP 53 (mT 1),oP 54 (nkT 53),oP 55 (fdT 0 54),oP 56 (ldT 55),oP 57 (.bin 0 .eql (.t 56) (cI 18)),oP 58 (mT 57),oG 59 58 true 0 (mT 3),oG 60 58 true 0 (nkT 59),oG 61 58 true 0 (fdT 0 60),oG 62 58 true 0 (ldT 61),oG 63 58 true 0 (.bin 0 .eql (.t 62) (cI 17)),oP 64 (.pick (.t 58) (.t 63) (cB false)),oP 52 (mT 64)] (.cond (.t 52) (sqF [oP 65 (mT 0),oP 66 (.hcall 93 [(.t 65)])] (sqF [oP 67 (mT 0),oP 68 (mT 3),oP 69 (nkT 68),oP 70 (fdT 5 69),oP 71 (ldT 70),oP 72 (.iad 1 (.t 71) (cI 2)),oP 73 (ldT 72),oP 74 (.hcall 68 [(.t 67),(.t 73)]),oP 8 (mT 74)] .ret)) (sqF [oP 76 (mT 1),oP 77 (nkT 76),oP 78 (fdT 0 77),oP 79 (ldT 78),oP 80 (.bin 0 .eql (.t 79) (cI 19)),oP 81 (mT 80),oG 82 81 true 0 (mT 3),oG 83 81 true 0 (nkT 82),oG 84 81 true 0 (fdT 0 83),oG 85 81 true 0 (ldT 84),oG 86 81 true 0 (.bin 0 .eql (.t 85) (cI 17)),oP 87 (.pick (.t 81) (.t 86) (cB false)),oP 75 (mT 87)] (.cond (.t 75) (sqF [oP 88 (mT 0),oP 89 (.hcall 93 [(.t 88)])] (sqF [oP 90 (mT 0),oP 91 (mT 3),oP 92 (nkT 91),oP 93 (fdT 5 92),oP 94 (ldT 93),oP 95 (.iad 1 (.t 94) (cI 3)),oP 96 (ldT 95),oP 97 (.hcall 68 [(.t 90),(.t 96)]),oP 8 (mT 97)] .ret)) (sqF [oP 99 (mT 1),oP 100 (nkT 99),oP 101 (fdT 0 100),oP 102 (ldT 101),oP 103 (.bin 0 .eql (.t 102) (cI 22)),oP 104 (mT 103),oG 105 104 true 0 (mT 3),oG 106 104 true 0 (nkT 105),oG 107 104 true 0 (fdT 0 106),oG 108 104 true 0 (ldT 107),oG 109 104 true 0 (.bin 0 .eql (.t 108) (cI 21)),oP 110 (.pick (.t 104) (.t 109) (cB false)),oP 98 (mT 110)] (.cond (.t 98) (sqF [oP 111 (mT 0),oP 112 (.hcall 93 [(.t 111)])] (sqF [oP 113 (mT 0),oP 114 (mT 1),oP 115 (nkT 114),oP 116 (fdT 5 115),oP 117 (ldT 116),oP 118 (.iad 1 (.t 117) (cI 3)),oP 119 (ldT 118),oP 120 (.hcall 68 [(.t 113),(.t 119)]),oP 8 (mT 120)] .ret)) .skip))))))))) (sqF [oP 121 (mT 1),oP 122 (nkT 121),oP 123 (.load true 6 (.t 122)),oP 9 (.new [(iS 0),(iS 0),(iS 0),(iS 0),(iS 0),.nils]),oN (.store 6 (.t 9) (.t 123))] (sqF [oP 124 (mT 1),oP 125 (nkT 124),oP 126 (fdT 5 125),oP 127 (ldT 126),oP 128 (.app 1 8 (.c .nils) (.t 127)),oP 129 (fdT 5 9),oN (.store 1 (.t 129) (.t 128))] (sqT [oP 130 (fdT 5 9),⟨(some 131),(ldT 130),none,1,true,[]⟩,oI 132 2 (mT 2),oI 133 3 (mT 3),⟨(some 134),(.hcall 110 [(.t 133)]),none,4,false,[1,4]⟩,oI 135 5 (.iad 1 (.t 131) (.t 132)),oJ 6 (.store 1 (.t 135) (.t 134))] (sqF [oP 8 (mT 9)] .ret))))))⟩
theorem tr94:trF Tryz.prog Tryz.f94=some af94:=by kernel_rfl
attribute [go_sem] af94
def af111:AF:=⟨65,[(.t 10)],(sqF [oP 6 (.box (.t 1)),oP 10 (.mv (.c .nilp))] (sqF [oP 14 (fdT 0 6),oP 15 (ldT 14),oP 16 (fdT 1 6),oP 17 (ldT 16),oP 18 (fdT 2 6),oP 19 (ldT 18),oP 20 (fdT 3 6),oP 21 (ldT 20),oP 22 (.build [(iS 0),(iS 0),(iS 0),(iS 0),(iS 0),.nils] [(0,(1,(.t 15))),(1,(1,(.t 17))),(2,(1,(.t 19))),(3,(1,(.t 21)))]),oP 23 (.box (.t 22)),oP 11 (mT 23)] (.seq (sqF [oP 24 (fdT 4 6),oP 25 (ldT 24),oP 26 (.len false (.t 25)),oP 27 (.bin 0 .gtr (.t 26) (cI 0))] (.cond (.t 27) (rgF [oP 28 (mT 11),oP 29 (fdT 4 6),oP 30 (ldT 29),oP 31 (.len false (.t 30)),oP 32 (.mk 1 8 [.nilp] (.t 31) (.t 31)),oP 33 (nkT 28),oP 34 (fdT 5 33),oN (.store 1 (.t 34) (.t 32))]) .skip)) (.seq (sqF [oP 35 (fdT 4 6),oP 36 (ldT 35),oP 37 (.len false (.t 36)),oP 38 (.mv (cI 0))] (.blk 0 (.loop (sqF [oP 39 (.bin 0 .lss (.t 38) (.t 37))] (.seq (.cond (.t 39) .skip (.exit 0)) (.seq (.blk 1 (sqF [oP 40 (mT 38),oP 41 (.iad 5 (.t 36) (.t 38)),oP 42 (.load true 5 (.t 41)),oP 13 (.new [(iS 0),(iS 0),(iS 0),(iS 0),.nils]),oP 12 (mT 40),oN (.store 5 (.t 13) (.t 42))] (.seq (sqF [oP 43 (mT 12),oP 44 (mT 3),oP 45 (.bin 0 .eql (.t 43) (.t 44))] (.cond (.t 45) (sqT [oP 46 (mT 11),oI 47 1 (nkT 46),oI 48 2 (fdT 5 47),⟨(some 49),(ldT 48),none,3,true,[]⟩,oI 50 4 (mT 12),oI 51 5 (mT 4),⟨(some 52),(.hcall 110 [(.t 51)]),none,6,false,[3,6]⟩,oI 53 7 (.iad 1 (.t 49) (.t 50)),oJ 8 (.store 1 (.t 53) (.t 52))] (.exit 1)) .skip)) (.reg [oP 54 (mT 11),oI 55 1 (nkT 54),oI 56 2 (fdT 5 55),⟨(some 57),(ldT 56),none,3,true,[]⟩,oI 58 4 (mT 12),oI 59 5 (.load true 5 (.t 13)),oI 60 6 (mT 2),⟨(some 61),(.hcall 36 [(.t 59),(.t 60)]),none,7,false,[3,7]⟩,oI 62 8 (.iad 1 (.t 57) (.t 58)),oJ 9 (.store 1 (.t 62) (.t 61))] true)))) (rgF [oP 63 (.bin 0 .add (.t 38) (cI 1)),oP 38 (mT 63)]))))))) (sqF [oP 64 (mT 11),oP 10 (mT 64)] .ret)))))⟩
theorem tr111:trF Tryz.prog Tryz.f111=some af111:=by kernel_rfl
attribute [go_sem] af111
open Go Go.RowKit Go.Proofs.YtdpigpopcbjkmaaGreatDoor
theorem Ul(y:Option Vl){hp:List Ob}:Bx hp (Dg y)=some (Dg y,hp)/\Bo hp (Dg y)=some (Dg y,hp)/\Bv hp (Dg y)=[]/\Bd (Dg y)=[]/\(Dg y).closed=true/\(Dg y).ok=true/\cellsOf (Dg y)=[Dg y]:=by
 cases y<;>exact⟨rfl,rfl,rfl,rfl,rfl,rfl,rfl⟩
theorem Bak{e:Option Vl}{hp:List Ob}:Bx hp (Dg e)=some (Dg e,hp):=(Ul e).1
theorem Bah{e:Option Vl}{hp:List Ob}:Bo hp (Dg e)=some (Dg e,hp):=(Ul e).2.1
theorem Bam{e:Option Vl}{hp:List Ob}:Bv hp (Dg e)=[]:=(Ul e).2.2.1
theorem Bal{e:Option Vl}:Bd (Dg e)=[]:=(Ul (hp:=[]) e).2.2.2.1
theorem Baj{e:Option Vl}:(Dg e).closed=true:=(Ul (hp:=[]) e).2.2.2.2.1
theorem Bao{e:Option Vl}:(Dg e).ok=true:=(Ul (hp:=[]) e).2.2.2.2.2.1
theorem Bai{e:Option Vl}:cellsOf (Dg e)=[Dg e]:=(Ul (hp:=[]) e).2.2.2.2.2.2
theorem Ban{e:Option Vl}(kd:Nat)(op:BinOp):Dt kd op (Dg e) .nilp=if kd=2 then eqB op e.isNone else none:=by cases e<;>rfl
theorem Uv(l:List Nat){hp:List Ob}:Bx hp (Dp l)=some (Dp l,hp)/\Bo hp (Dp l)=some (Dp l,hp)/\Bv hp (Dp l)=[]/\Bd (Dp l)=[]/\(Dp l).closed=true/\(Dp l).ok=true/\cellsOf (Dp l)=[Dp l]:=by
 cases l<;>exact⟨rfl,rfl,rfl,rfl,rfl,rfl,rfl⟩
theorem Bga{e:List Nat}{hp:List Ob}:Bx hp (Dp e)=some (Dp e,hp):=(Uv e).1
theorem Bf7{e:List Nat}{hp:List Ob}:Bo hp (Dp e)=some (Dp e,hp):=(Uv e).2.1
theorem Bgc{e:List Nat}{hp:List Ob}:Bv hp (Dp e)=[]:=(Uv e).2.2.1
theorem Bgb{e:List Nat}:Bd (Dp e)=[]:=(Uv (hp:=[]) e).2.2.2.1
theorem Bf9{e:List Nat}:(Dp e).closed=true:=(Uv (hp:=[]) e).2.2.2.2.1
theorem Bgd{e:List Nat}:(Dp e).ok=true:=(Uv (hp:=[]) e).2.2.2.2.2.1
theorem Bf8{e:List Nat}:cellsOf (Dp e)=[Dp e]:=(Uv (hp:=[]) e).2.2.2.2.2.2
attribute [go_sem] Bak Bah Bam Bal Baj Bao Bai Ban Bga Bf7 Bgc Bgb Bf9 Bgd Bf8
theorem Ag8(n:Nat)(e:List Nat):Ba n (Aw e)=true:=by cases e<;>rfl
theorem Aqc(n:Nat)(e:Option Vl):Ba n (Dg e)=true:=by cases e<;>rfl
theorem Aqd(n:Nat)(e:List Nat):Ba n (Dp e)=true:=by cases e<;>rfl
attribute [go_sem] Ag8 Aqc Aqd
def Wj(k:Int)(y:Option Vl)(e:List Nat)(i:Nat)(kid:Tm):List SV:=if (i:Int)=k then Ld y none else thR ⟨kid,e,false,none,none⟩
def Fy(k:Int)(y:Option Vl)(e:List Nat):Nat->List Tm->GV
 |_,[]=>[]
 |i,x::l=>Wj k y e i x::Fy k y e (i+1) l
theorem A8v(k:Int)(y:Option Vl)(e:List Nat):∀(a b:List Tm) (i:Nat),Fy k y e i (a++b)=Fy k y e i a++Fy k y e (i+a.length) b:=by
 intro a
 induction a with
 |nil=>intro b i;simp[Fy]
 |cons x a ih=>intro b i;simp only[List.cons_append,Fy,ih,List.length_cons];rw[show i+1+a.length=i+(a.length+1) by omega]
theorem A8w(k:Int)(y:Option Vl)(e:List Nat):∀(a:List Tm) (i:Nat),(Fy k y e i a).length=a.length:=by
 intro a
 induction a with
 |nil=>intro i;rfl
 |cons x a ih=>intro i;simp[Fy,ih]
theorem Aqe{a b:Int}(h:a=b):(a==b)=true:=by simpa using h
theorem A2p{G:GV}{m:Nat}(k' i' j' n':Int)(l:List Tm)(hb:l.length*56<=140737488355328)(hz:l≠[])(e:List Nat)(k:Int)(y:Option Vl)(hy:∀q:Nat,q<l.length->(q:Int)=k->∃v,y=some v) :
  Ad 111 G [.gp m 0,.agg true (tv (.mk k' i' j' n' l)),Aw e,.int .i64 k,Dg y] (.ret (vlV ⟨k',i',j',n',0,List.range' G.length l.length⟩)) (G++Fy k y e 0 l):=by
 refine Ap mixed Tryz.func111 tr111 ?_;rw[Ak];have Ag:0<l.length:=List.length_pos_iff.2 hz;have h3:l.length<=140737488355328:=by omega
 have e1:(0:Int)<=(l.length:Int):=by omega
 have e2:((l.length:Int)*8<=140737488355328):=by omega
 have e3:((l.length:Int)<=140737488355328):=by omega
 simp only[go_sem,seval,q_g,h3,decide_eq_true (show (l.length:Int) > 0 by omega),e1,e2,e3,Int.le_refl];have Hh:∀x,x<=l.length->(G++Fy k y e 0 (l.take x)).length=G.length+x:=fun x hx=>by rw[List.length_append,A8w,List.length_take,Nat.min_eq_left hx]
 have Ow:∀x,(h:x<l.length)->G++Fy k y e 0 (l.take (x+1))=(G++Fy k y e 0 (l.take x))++[Wj k y e x l[x]]:=fun x h=>by
  rw[List.take_succ_eq_append_getElem h,A8v,List.append_assoc,List.length_take,Nat.min_eq_left (by omega),Nat.zero_add];rfl
 refine Je (fun x=>⟨(.gp m 0::.J::Aw e::.int .i64 k::Dg y::.J::.ref 1 0 0 0::.J::.J::.J::.J::.ref 2 0 0 0::.J::.J::.J::.J::.J::.J::.J::.J::.J::.J::.J::.J::.J::.J::.J::.J::.J::.J::.J::.J::.J::.J::.J::.J::.dsl 5 (l.map tv)::.int .i64 l.length::.int .i64 x::.J::.J::.J::.J::.J::.J::.J::.J::.J::.J::.J::.J::.J::.J::.J::.J::.J::.J::.J::.J::.J::.J::.J::.J::.J::.J::[]),[gOb (G++Fy k y e 0 (l.take x)),⟨true,5,[[.int .i64 k',.int .i64 i',.int .i64 j',.int .i64 n',.dsl 5 (l.map tv)]],0,0,true⟩,⟨true,6,[[.int .i64 k',.int .i64 i',.int .i64 j',.int .i64 n',.int .i64 0,.osl 3 0 0 l.length]],0,0,false⟩,⟨false,1,((List.range' G.length x).map fun i=>[SV.gp i 0])++List.replicate (l.length-x) [.nilp],0,0,true⟩]⟩) l.length (fun x hx=>?_) ?_
 ·by_cases Ab:x<l.length
  ·have e0:(0:Int)<=(x:Int):=by omega
   have hg:(l.map tv)[x]?.getD []=tv l[x]:=by rw[List.getElem?_map,q_f Ab];rfl
   have hset:(((List.range' G.length x).map fun i=>[SV.gp i 0])++List.replicate (l.length-x) [SV.nilp]).set x [SV.gp (G.length+x) 0]=((List.range' G.length (x+1)).map fun i=>[SV.gp i 0])++List.replicate (l.length-(x+1)) [SV.nilp]  :=by
    rw[List.set_append_right _ _ (by simp),q_g,List.length_range',Nat.sub_self,show l.length-x=(l.length-(x+1))+1 by omega,List.replicate_succ,List.set_cons_zero,List.range'_concat,List.map_append,List.append_assoc,Nat.one_mul];rfl
   by_cases hk:(x:Int)=k
   ·obtain⟨yv,rfl⟩:=hy x Ab hk;simp only[go_sem,seval,decide_eq_true (show (x:Int)<l.length by omega),e0,q_g,Ab,hg,Ae,Aqe hk];refine⟨by omega,Ac (Adr _ yv) ?_⟩;simp only[go_sem,seval,Hh x (Nat.le_of_lt Ab),List.length_append,q_g,List.length_range',List.length_replicate,e0,hset,show (x:Int)<l.length by omega,show x<x+(l.length-x) by omega,w64 (show fit ((x:Int)+1) by unfold fit;omega)];refine⟨Ab,?_⟩;rw[Ow x Ab,Wj,if_pos hk];exact Dq 4 (by simp[An,Xg]) (by simp only[List.take_succ_cons,List.take_zero]) (by simp only[go_sem,seval,List.forall_mem_cons]) (by simp[Ba,gOb])
   ·simp only[go_sem,seval,decide_eq_true (show (x:Int)<l.length by omega),e0,q_g,Ab,hg,Ae,Ah hk];refine⟨by omega,Ac (No _ _ e) ?_⟩;simp only[go_sem,seval,Hh x (Nat.le_of_lt Ab),List.length_append,q_g,List.length_range',List.length_replicate,e0,hset,show (x:Int)<l.length by omega,show x<x+(l.length-x) by omega,w64 (show fit ((x:Int)+1) by unfold fit;omega)];refine⟨Ab,?_⟩;rw[Ow x Ab,Wj,if_neg hk];exact Dq 4 (by simp[An,Xg]) (by simp only[List.take_succ_cons,List.take_zero]) (by simp only[go_sem,seval,List.forall_mem_cons]) (by simp[Ba,gOb])
  ·have:x=l.length:=by omega
   subst this;simp only[go_sem,seval,decide_eq_false (show ¬((l.length:Nat):Int)<l.length by omega),List.take_length,Nat.sub_self,List.replicate_zero];rw[vlV,vlC,Lv (by simp[List.range'_eq_nil_iff];omega),List.take_of_length_le (by simp)]
 ·simp only[List.take_zero,Fy,List.append_nil,List.range'_zero,q_i,List.nil_append,Nat.sub_zero];exact Au (by simp[An])
theorem Cp{C:CT}{b:AC}{Q:AE->St->Prop}{n:Nat}{s s':St}(h:Wk s s')(k:vcI C b Q n s'):vcI C b Q n s:=by
 cases n with
 |zero=>exact k
 |succ n=>
  obtain⟨s0,h1,h2⟩:=k;exact⟨s0,.trans h h1,h2⟩
def EvL(G:GV)(m:Nat)(t:Tm)(e:List Nat)(out:HOut)(G':GV):Prop:=
 ∃n,vcI (Av Tryz.prog fun x G1=>out=.pan x/\G1=G') a90_54 (bk 0 (rtG [.t 6] out G')) n ⟨(.gp m 0::.J::Aw e::.J::.ref 1 0 0 0::.J::.J::.J::.J::.J::.J::.J::.J::.J::.J::.J::.J::.J::.J::.J::.J::.J::.J::.J::.J::.J::.J::.J::.J::.J::.J::.J::.J::.J::.J::.J::.J::.J::.J::.J::.J::.J::.J::.J::.J::.J::.J::.J::.J::.J::.J::.J::.J::.J::.J::.J::.J::.J::.J::.J::.J::.J::.J::.J::.J::.J::.J::.J::.J::.J::.J::.J::.J::.J::.J::.J::.J::.J::.J::.J::.J::.J::.J::.J::.J::.J::.J::.J::.J::.J::.J::.J::.J::.J::.J::.J::.J::.J::.J::.J::.J::.J::.J::.J::.J::.J::.J::.J::.J::.J::.J::.J::.J::.J::.J::.J::.J::.J::.J::.J::.J::.J::.J::.J::.J::.J::.J::.J::.J::.J::.J::.J::.J::.J::.J::.J::.J::.J::.J::.J::.J::.J::.J::.J::.J::.J::.J::.J::.J::.J::[]),[gOb G,⟨true,5,[tv t],0,0,true⟩]⟩
theorem El{G G':GV}{m:Nat}{t:Tm}{e:List Nat}{out:HOut}(h:EvL G m t e out G'):Ad 90 G [.gp m 0,.agg true (tv t),Aw e] out G':=by
 refine Ap mixed Tryz.func90 tr90 ?_;obtain⟨n,h⟩:=h;simp only[go_sem,seval,Ae];exact Ca n (Cp (Au (by simp[An])) h)
def Na:HOut->Prop
 |.ret r=>∃v,r=vlV v
 |.pan _=>True
theorem Ait{G G':GV}{m i id:Nat}{j n:Int}{l:List Tm}{e:List Nat}{out:HOut}(hf:fit i)(hi:e[i]?=some id)(h:Ad 68 G [.gp m 0,.gp id 0] out G')(ho:Na out):EvL G m (.mk 2 i j n l) e out G':=by
 refine⟨1,Aj ?_⟩;rw[Ak];simp only[go_sem,seval];refine Aa (o5 e i hf) ?_;simp only[go_sem,seval,hi];cases out with
 |ret r=>
  obtain⟨v,rfl⟩:=ho;refine Ac h ?_;simp only[go_sem,seval]
 |pan x=>exact Cn h trivial ⟨rfl,rfl⟩
theorem A0p{G:GV}{m i:Nat}{j n:Int}{l:List Tm}{e:List Nat}(hf:fit i)(hi:e[i]?=none)(he:fit e.length):EvL G m (.mk 2 i j n l) e (.ret (vlV ⟨2,0,0,0,(e.length:Int)-i-1,[]⟩)) G:=by
 have hle:e.length<=i:=List.getElem?_eq_none_iff.1 hi;refine⟨1,Aj ?_⟩;rw[Ak];simp only[go_sem,seval];refine Aa (o5 e i hf) ?_;simp only[go_sem,seval,hi];refine Aa (o7 e) ?_;unfold fit at hf he;simp only[go_sem,seval,w64 (show fit ((e.length:Int)-i) by unfold fit;omega),w64 (show fit ((e.length:Int)-i-1) by unfold fit;omega),vlV,vlC,c9]
theorem Ac0{k:Int}(h:k≠15/\k≠18/\k≠19/\k≠22):Con 92 [.int .i64 k] (.int .i64 (-1)):=by
 have:=Acz k
 rwa [if_neg (by omega),if_neg h.2.2.2] at this
theorem Jh{k:Int}(h:k=15\/k=18\/k=19):Con 92 [.int .i64 k] (.int .i64 0):=by
 have:=Acz k
 rwa [if_pos h] at this
theorem Re:Con 92 [.int .i64 22] (.int .i64 5):=Acz 22
theorem A2q{G:GV}{m:Nat}(k' i' j' n':Int)(e:List Nat)(k:Int)(y:Option Vl) :
  Ad 111 G [.gp m 0,.agg true (tv (.mk k' i' j' n' [])),Aw e,.int .i64 k,Dg y] (.ret (vlV ⟨k',i',j',n',0,[]⟩)) G:=by
 refine Ap mixed Tryz.func111 tr111 ?_;rw[Ak];simp only[go_sem,seval,q_i];refine Ca 1 (Aj ?_);simp only[go_sem,seval,vlV,vlC,c9]
def Ik(k' i' j' n':Int)(l:List Tm)(a:Nat):Vl:=⟨k',i',j',n',0,List.range' a l.length⟩
theorem Xv{G:GV}{m:Nat}(k' i' j' n':Int)(l:List Tm)(hb:l.length*56<=140737488355328)(e:List Nat)(k:Int)(y:Option Vl)(hy:∀q:Nat,q<l.length->(q:Int)=k->∃v,y=some v) :
  Ad 111 G [.gp m 0,.agg true (tv (.mk k' i' j' n' l)),Aw e,.int .i64 k,Dg y] (.ret (vlV (Ik k' i' j' n' l G.length))) (G++Fy k y e 0 l):=by
 by_cases hz:l=[]
 ·subst hz;have:=A2q (G:=G) (m:=m) k' i' j' n' e k y;simpa [Ik,Fy] using this
 ·exact A2p k' i' j' n' l hb hz e k y hy
theorem Ac7{G:GV}{m:Nat}{k i j n:Int}{l:List Tm}{e:List Nat}(hb:l.length*56<=140737488355328)(hk:k≠2)(hs:k≠15/\k≠18/\k≠19/\k≠22):EvL G m (.mk k i j n l) e (.ret (vlV (Ik k i j n l G.length))) (G++Fy (-1) none e 0 l):=by
 refine⟨1,Aj ?_⟩;have hc:=Xv (G:=G) (m:=m) k i j n l hb e (-1) none (fun q _ h=>by omega);rw[Um,Ak] at hc;rw[Ak];simp only[go_sem,seval,Ah hk];refine Aa (Ac0 hs) ?_;simp only[go_sem,seval];refine Ac hc ?_;simp only[go_sem,seval]
theorem Dn{α:Type}{l:List α}{i:Nat}{x:α}(h:l[i]?=some x):i<l.length:=by
 rcases Nat.lt_or_ge i l.length with h1|h1
 ·exact h1
 ·rw[List.getElem?_eq_none h1] at h;cases h
theorem Kg{l:List Nat}{q id:Nat}(h:l[q]?=some id):Dp l=.dsl 1 (l.map fun i=>[.gp i 0])/\(q:Int)<l.length/\q<l.length/\(l.map fun i=>[SV.gp i 0])[q]?.getD []=[.gp id 0]:=by
 have hq:q<l.length:=by
  rcases Nat.lt_or_ge q l.length with h1|h1
  ·exact h1
  ·rw[List.getElem?_eq_none h1] at h;cases h
 refine⟨Lv (by rintro rfl;simp at hq),by omega,hq,by simp[h]⟩
theorem Aik{G G1 G2 G':GV}{m id:Nat}{i' j' n':Int}{f a:Tm}{e:List Nat}{out:HOut}{y:Vl}{th:Th}(hy:Ad 90 G [.gp m 0,.agg true (tv f),Aw e] (.ret (vlV y)) G1)(yk:y.k=14)
  (Bc:y.kids[1]?=some id) (ht:Ad 93 G1 [.gp m 0] (.ret (.tup [])) G2) (Fc:G2[id]?=some (thR th)) (hb:th.bare=false) (hl:fit ((th.env.length:Int)+1))
  (h:EvL (G2++[thR ⟨a,e,false,none,none⟩]) m th.t (G2.length::th.env) out G'):EvL G m (.mk 15 i' j' n' [f,a]) e out G':=by
 obtain⟨n,h⟩:=h;refine⟨n+1,Aj ?_⟩;obtain⟨t,te,b,w,v⟩:=th;simp only at hb hl;subst hb;obtain⟨k1,k2,k3,k4⟩:=Kg Bc;rw[Ak];simp only[go_sem,seval,q_h,q_i];refine Aa (Jh (.inl rfl)) ?_;simp only[go_sem,seval,q_h,q_i,Ae];refine Ac hy ?_;simp only[go_sem,seval,vlV,yk];refine Ac ht ?_;have k2':(1:Int)<y.kids.length:=by omega
 have Ab:id<G2.length:=Dn Fc;simp only[go_sem,seval,vlV,yk,k1,k2',k3,k4,Fc,Ab,q_h,q_i,Ae,q_g];refine Ac (No _ a e) ?_;simp only[go_sem,seval,Fc,Ab];refine Aa (Vh te _ hl) ?_;simp only[go_sem,seval];exact Cp (Au (by simp[An])) h
theorem Aim{G G1 G2:GV}{m:Nat}{x:SV}{i' j' n':Int}{f a:Tm}{e:List Nat}{y:Vl}(hy:Ad 90 G [.gp m 0,.agg true (tv f),Aw e] (.ret (vlV y)) G1)(yk:y.k=14)
  (ht:Ad 93 G1 [.gp m 0] (.pan x) G2):EvL G m (.mk 15 i' j' n' [f,a]) e (.pan x) G2:=by
 refine⟨1,Aj ?_⟩;rw[Ak];simp only[go_sem,seval,q_h,q_i];refine Aa (Jh (.inl rfl)) ?_;simp only[go_sem,seval,q_h,q_i,Ae];refine Ac hy ?_;simp only[go_sem,seval,vlV,yk];exact Cn ht trivial ⟨rfl,rfl⟩
theorem Ail{G G1:GV}{m:Nat}{i' j' n':Int}{f a:Tm}{e:List Nat}{x:SV}(hy:Ad 90 G [.gp m 0,.agg true (tv f),Aw e] (.pan x) G1):EvL G m (.mk 15 i' j' n' [f,a]) e (.pan x) G1:=by
 refine⟨1,Aj ?_⟩;rw[Ak];simp only[go_sem,seval,q_h,q_i];refine Aa (Jh (.inl rfl)) ?_;simp only[go_sem,seval,q_h,q_i,Ae];exact Cn hy trivial ⟨rfl,rfl⟩
theorem A0o{G G1:GV}{m:Nat}{i' j' n':Int}{f a:Tm}{e:List Nat}{y:Vl}(hy:Ad 90 G [.gp m 0,.agg true (tv f),Aw e] (.ret (vlV y)) G1)(yk:y.k≠14):EvL G m (.mk 15 i' j' n' [f,a]) e (.ret (vlV (Ik 15 i' j' n' [f,a] G1.length))) (G1++Fy 0 (some y) e 0 [f,a]):=by
 refine⟨1,Aj ?_⟩;have hc:=Xv (G:=G1) (m:=m) 15 i' j' n' [f,a] (by simp) e 0 (some y) (fun q _ h=>⟨y,rfl⟩);rw[Jo,Ak] at hc;rw[Ak];simp only[go_sem,seval,q_h,q_i] at hc |-;refine Aa (Jh (.inl rfl)) ?_;simp only[go_sem,seval,q_h,q_i,Ae];refine Ac hy ?_;simp only[go_sem,seval,vlV,Ah yk];refine Ac hc ?_;simp only[go_sem,seval,vlV]
theorem Ain {G G1:GV}{m:Nat}{i' j' n':Int}{f:Tm}{e:List Nat}{x:SV}(hy:Ad 90 G [.gp m 0,.agg true (tv f),Aw e] (.pan x) G1):EvL G m (.mk 18 i' j' n' [f]) e (.pan x) G1:=by
 refine⟨1,Aj ?_⟩;rw[Ak];simp only[go_sem,seval,q_h,q_i];refine Aa (Jh (.inr (.inl rfl))) ?_;simp only[go_sem,seval,q_h,q_i,Ae];exact Cn hy trivial ⟨rfl,rfl⟩
theorem A0r{G G1:GV}{m:Nat}{i' j' n':Int}{f:Tm}{e:List Nat}{y:Vl}(hy:Ad 90 G [.gp m 0,.agg true (tv f),Aw e] (.ret (vlV y)) G1)(yk:y.k≠17):EvL G m (.mk 18 i' j' n' [f]) e (.ret (vlV (Ik 18 i' j' n' [f] G1.length))) (G1++Fy 0 (some y) e 0 [f]):=by
 refine⟨1,Aj ?_⟩;have hc:=Xv (G:=G1) (m:=m) 18 i' j' n' [f] (by simp) e 0 (some y) (fun q _ h=>⟨y,rfl⟩);rw[Jo,Ak] at hc;rw[Ak];simp only[go_sem,seval,q_h,q_i] at hc |-;refine Aa (Jh (.inr (.inl rfl))) ?_;simp only[go_sem,seval,q_h,q_i,Ae];refine Ac hy ?_;simp only[go_sem,seval,vlV,Ah yk];refine Ac hc ?_;simp only[go_sem,seval,vlV]
theorem Air{G G1:GV}{m:Nat}{i' j' n':Int}{f:Tm}{e:List Nat}{x:SV}(hy:Ad 90 G [.gp m 0,.agg true (tv f),Aw e] (.pan x) G1):EvL G m (.mk 19 i' j' n' [f]) e (.pan x) G1:=by
 refine⟨1,Aj ?_⟩;rw[Ak];simp only[go_sem,seval,q_h,q_i];refine Aa (Jh (.inr (.inr rfl))) ?_;simp only[go_sem,seval,q_h,q_i,Ae];exact Cn hy trivial ⟨rfl,rfl⟩
theorem A0v{G G1:GV}{m:Nat}{i' j' n':Int}{f:Tm}{e:List Nat}{y:Vl}(hy:Ad 90 G [.gp m 0,.agg true (tv f),Aw e] (.ret (vlV y)) G1)(yk:y.k≠17):EvL G m (.mk 19 i' j' n' [f]) e (.ret (vlV (Ik 19 i' j' n' [f] G1.length))) (G1++Fy 0 (some y) e 0 [f]):=by
 refine⟨1,Aj ?_⟩;have hc:=Xv (G:=G1) (m:=m) 19 i' j' n' [f] (by simp) e 0 (some y) (fun q _ h=>⟨y,rfl⟩);rw[Jo,Ak] at hc;rw[Ak];simp only[go_sem,seval,q_h,q_i] at hc |-;refine Aa (Jh (.inr (.inr rfl))) ?_;simp only[go_sem,seval,q_h,q_i,Ae];refine Ac hy ?_;simp only[go_sem,seval,vlV,Ah yk];refine Ac hc ?_;simp only[go_sem,seval,vlV]
theorem Aip{G G1:GV}{m:Nat}{i' j' n':Int}{a0 a1 a2 a3 a4 f:Tm}{e:List Nat}{x:SV}(hy:Ad 90 G [.gp m 0,.agg true (tv f),Aw e] (.pan x) G1):EvL G m (.mk 22 i' j' n' [a0,a1,a2,a3,a4,f]) e (.pan x) G1:=by
 refine⟨1,Aj ?_⟩;rw[Ak];simp only[go_sem,seval,q_h,q_i];refine Aa (Re) ?_;simp only[go_sem,seval,q_h,q_i,Ae];exact Cn hy trivial ⟨rfl,rfl⟩
theorem A0t{G G1:GV}{m:Nat}{i' j' n':Int}{a0 a1 a2 a3 a4 f:Tm}{e:List Nat}{y:Vl}(hy:Ad 90 G [.gp m 0,.agg true (tv f),Aw e] (.ret (vlV y)) G1)(yk:y.k≠21):EvL G m (.mk 22 i' j' n' [a0,a1,a2,a3,a4,f]) e (.ret (vlV (Ik 22 i' j' n' [a0,a1,a2,a3,a4,f] G1.length))) (G1++Fy 5 (some y) e 0 [a0,a1,a2,a3,a4,f]):=by
 refine⟨1,Aj ?_⟩;have hc:=Xv (G:=G1) (m:=m) 22 i' j' n' [a0,a1,a2,a3,a4,f] (by simp) e 5 (some y) (fun q _ h=>⟨y,rfl⟩);rw[Jo,Ak] at hc;rw[Ak];simp only[go_sem,seval,q_h,q_i] at hc |-;refine Aa (Re) ?_;simp only[go_sem,seval,q_h,q_i,Ae];refine Ac hy ?_;simp only[go_sem,seval,vlV,Ah yk];refine Ac hc ?_;simp only[go_sem,seval,vlV]
theorem A0q{G G1 G2 G':GV}{m id:Nat}{i' j' n':Int}{f:Tm}{e:List Nat}{out:HOut}{y:Vl}(hy:Ad 90 G [.gp m 0,.agg true (tv f),Aw e] (.ret (vlV y)) G1)(yk:y.k=17)
  (Bc:y.kids[2]?=some id) (ht:Ad 93 G1 [.gp m 0] (.ret (.tup [])) G2)
  (h:Ad 68 G2 [.gp m 0,.gp id 0] out G') (ho:Na out):EvL G m (.mk 18 i' j' n' [f]) e out G':=by
 refine⟨1,Aj ?_⟩;obtain⟨k1,k2,k3,k4⟩:=Kg Bc;have k2':(2:Int)<y.kids.length:=by omega
 rw[Ak];simp only[go_sem,seval,q_h,q_i];refine Aa (Jh (.inr (.inl rfl))) ?_;simp only[go_sem,seval,q_h,q_i,Ae];refine Ac hy ?_;simp only[go_sem,seval,vlV,yk];refine Ac ht ?_;simp only[go_sem,seval,vlV,yk,k1,k2',k3,k4,q_h,q_i,Ae,q_g];cases out with
 |ret r=>
  obtain⟨v,rfl⟩:=ho;refine Ac h ?_;simp only[go_sem,seval]
 |pan x=>exact Cn h trivial ⟨rfl,rfl⟩
theorem Aio{G G1 G2:GV}{m:Nat}{x:SV}{i' j' n':Int}{f:Tm}{e:List Nat}{y:Vl}(hy:Ad 90 G [.gp m 0,.agg true (tv f),Aw e] (.ret (vlV y)) G1)(yk:y.k=17)
  (ht:Ad 93 G1 [.gp m 0] (.pan x) G2):EvL G m (.mk 18 i' j' n' [f]) e (.pan x) G2:=by
 refine⟨1,Aj ?_⟩;rw[Ak];simp only[go_sem,seval,q_h,q_i];refine Aa (Jh (.inr (.inl rfl))) ?_;simp only[go_sem,seval,q_h,q_i,Ae];refine Ac hy ?_;simp only[go_sem,seval,vlV,yk];exact Cn ht trivial ⟨rfl,rfl⟩
theorem A0u{G G1 G2 G':GV}{m id:Nat}{i' j' n':Int}{f:Tm}{e:List Nat}{out:HOut}{y:Vl}(hy:Ad 90 G [.gp m 0,.agg true (tv f),Aw e] (.ret (vlV y)) G1)(yk:y.k=17)
  (Bc:y.kids[3]?=some id) (ht:Ad 93 G1 [.gp m 0] (.ret (.tup [])) G2)
  (h:Ad 68 G2 [.gp m 0,.gp id 0] out G') (ho:Na out):EvL G m (.mk 19 i' j' n' [f]) e out G':=by
 refine⟨1,Aj ?_⟩;obtain⟨k1,k2,k3,k4⟩:=Kg Bc;have k2':(3:Int)<y.kids.length:=by omega
 rw[Ak];simp only[go_sem,seval,q_h,q_i];refine Aa (Jh (.inr (.inr rfl))) ?_;simp only[go_sem,seval,q_h,q_i,Ae];refine Ac hy ?_;simp only[go_sem,seval,vlV,yk];refine Ac ht ?_;simp only[go_sem,seval,vlV,yk,k1,k2',k3,k4,q_h,q_i,Ae,q_g];cases out with
 |ret r=>
  obtain⟨v,rfl⟩:=ho;refine Ac h ?_;simp only[go_sem,seval]
 |pan x=>exact Cn h trivial ⟨rfl,rfl⟩
theorem Ais{G G1 G2:GV}{m:Nat}{x:SV}{i' j' n':Int}{f:Tm}{e:List Nat}{y:Vl}(hy:Ad 90 G [.gp m 0,.agg true (tv f),Aw e] (.ret (vlV y)) G1)(yk:y.k=17)
  (ht:Ad 93 G1 [.gp m 0] (.pan x) G2):EvL G m (.mk 19 i' j' n' [f]) e (.pan x) G2:=by
 refine⟨1,Aj ?_⟩;rw[Ak];simp only[go_sem,seval,q_h,q_i];refine Aa (Jh (.inr (.inr rfl))) ?_;simp only[go_sem,seval,q_h,q_i,Ae];refine Ac hy ?_;simp only[go_sem,seval,vlV,yk];exact Cn ht trivial ⟨rfl,rfl⟩
theorem A0s{G G1 G2 G':GV}{m:Nat}{i' j' n':Int}{a0 a1 a2 a3 a4 f:Tm}{e:List Nat}{out:HOut}{y:Vl}(hy:Ad 90 G [.gp m 0,.agg true (tv f),Aw e] (.ret (vlV y)) G1)(yk:y.k=21)
  (ht:Ad 93 G1 [.gp m 0] (.ret (.tup [])) G2)
  (h:EvL G2 m a3 e out G'):EvL G m (.mk 22 i' j' n' [a0,a1,a2,a3,a4,f]) e out G':=by
 obtain⟨n,h⟩:=h;refine⟨n+1,Aj ?_⟩;rw[Ak];simp only[go_sem,seval,q_h,q_i];refine Aa Re ?_;simp only[go_sem,seval,q_h,q_i,Ae];refine Ac hy ?_;simp only[go_sem,seval,vlV,yk];refine Ac ht ?_;simp only[go_sem,seval,vlV,yk,q_h,q_i,Ae,q_g];exact Cp (Au (by simp[An])) h
theorem Aiq{G G1 G2:GV}{m:Nat}{x:SV}{i' j' n':Int}{a0 a1 a2 a3 a4 f:Tm}{e:List Nat}{y:Vl}(hy:Ad 90 G [.gp m 0,.agg true (tv f),Aw e] (.ret (vlV y)) G1)(yk:y.k=21)
  (ht:Ad 93 G1 [.gp m 0] (.pan x) G2):EvL G m (.mk 22 i' j' n' [a0,a1,a2,a3,a4,f]) e (.pan x) G2:=by
 refine⟨1,Aj ?_⟩;rw[Ak];simp only[go_sem,seval,q_h,q_i];refine Aa Re ?_;simp only[go_sem,seval,q_h,q_i,Ae];refine Ac hy ?_;simp only[go_sem,seval,vlV,yk];exact Cn ht trivial ⟨rfl,rfl⟩
theorem Ao7{G:GV}{m id:Nat}{th:Th}{v:Vl}(h:G[id]?=some (thR th))(hw:th.w=some v):Ad 68 G [.gp m 0,.gp id 0] (.ret (vlV v)) G:=by
 refine Ap mixed Tryz.func68 tr68 ?_;obtain⟨t,te,b,w,x⟩:=th;simp only at hw;subst hw;simp only[go_sem,seval,h,Jo,vlV]
theorem Agg{G G1:GV}{m id:Nat}{th th1:Th}{v:Vl}(h:G[id]?=some (thR th))(hw:th.w=none)(hb:th.bare=false)(he:Ad 90 G [.gp m 0,.agg true (tv th.t),Aw th.env] (.ret (vlV v)) G1)(h1:G1[id]?=some (thR th1)) :
  Ad 68 G [.gp m 0,.gp id 0] (.ret (vlV v)) (G1.set id (thR { th1 with w:=some v })):=by
 refine Ap mixed Tryz.func68 tr68 ?_;obtain⟨t,te,b,w,x⟩:=th;simp only at hw hb he;subst hw hb;simp only[go_sem,seval,h,Um];refine Ac he ?_;have Ab:=Dn h1;simp only[go_sem,seval,h1,Aoh,Fl h1,Ke,Jo,List.getElem?_set_self Ab]
theorem Ao8{G G1:GV}{m id:Nat}{th:Th}{x:SV}(h:G[id]?=some (thR th))(hw:th.w=none)(hb:th.bare=false)(he:Ad 90 G [.gp m 0,.agg true (tv th.t),Aw th.env] (.pan x) G1) :
  Ad 68 G [.gp m 0,.gp id 0] (.pan x) G1:=by
 refine Ap mixed Tryz.func68 tr68 ?_;obtain⟨t,te,b,w,y⟩:=th;simp only at hw hb he;subst hw hb;simp only[go_sem,seval,h,Um];exact Cn he trivial ⟨rfl,rfl⟩
inductive Qz(G:GV):Vl->Prop
 |base {v:Vl} (h:v.k≠23) (hs:v.k≠15/\v.k≠18/\v.k≠19/\v.k≠22):Qz G v
 |step0 {v y:Vl} {id:Nat} {th:Th} (h:v.k=15\/v.k=18\/v.k=19) (Bc:v.kids[0]?=some id) (Fc:G[id]?=some (thR th)) (hw:th.w=some y) (hy:Qz G y):Qz G v
 |step5 {v y:Vl} {id:Nat} {th:Th} (h:v.k=22) (Bc:v.kids[5]?=some id) (Fc:G[id]?=some (thR th)) (hw:th.w=some y) (hy:Qz G y):Qz G v
def Ape(G:GV)(m:Nat)(v:Vl)(out:HOut):Prop:=
 ∃n,vcI (Av Tryz.prog fun x G1=>out=.pan x/\G1=G) a69_24 (bk 0 (rtG [.t 4] out G)) n ⟨(.gp m 0::vlV v::.J::.J::.int .i64 0::.J::.J::.J::.J::.J::.J::.J::.J::.J::.J::.J::.J::.J::.J::.J::.J::.J::.J::.J::.J::.J::.J::.J::.J::.J::.J::.J::.J::.J::.J::.J::.J::.J::.J::.J::.J::.J::.J::.J::.J::.J::.J::.J::.J::.J::.J::.J::.J::.J::.J::[]),[gOb G]⟩
theorem Bfq{G:GV}{m:Nat}{v:Vl}(h:Qz G v){out:HOut}(ho:out=.ret (.int .i64 0)):Ape G m v out:=by
 induction h with
 |base h hs=>
  refine⟨1,Aj ?_⟩;simp only[go_sem,seval,vlV,Ah h];refine Aa (Ac0 hs) ?_;subst ho;simp only[go_sem,seval]
 |@step0 v y id th h Bc Fc hw hy ih=>
  obtain⟨n,ih⟩:=ih;refine⟨n+1,Aj ?_⟩;obtain⟨k1,k2,k3,k4⟩:=Kg Bc;have k2':(0:Int)<v.kids.length:=by omega
  have Cc:v.k≠23:=by omega
  obtain⟨t,te,b,w,x⟩:=th;simp only at hw;subst hw;simp only[go_sem,seval,vlV,Ah Cc];refine Aa (Jh h) ?_;simp only[go_sem,seval,vlV,k1,k2',k3,k4,Fc,Jo,q_g];exact Cp (Au (by simp[An,vlV])) ih
 |@step5 v y id th h Bc Fc hw hy ih=>
  obtain⟨n,ih⟩:=ih;refine⟨n+1,Aj ?_⟩;obtain⟨k1,k2,k3,k4⟩:=Kg Bc;have k2':(5:Int)<v.kids.length:=by omega
  have Cc:v.k≠23:=by omega
  have h5:Con 92 [.int .i64 v.k] (.int .i64 5):=by rw[h];exact Re
  obtain⟨t,te,b,w,x⟩:=th;simp only at hw;subst hw;simp only[go_sem,seval,vlV,Ah Cc];refine Aa h5 ?_;simp only[go_sem,seval,vlV,k1,k2',k3,k4,Fc,Jo,q_g];exact Cp (Au (by simp[An,vlV])) ih
theorem A3c{G:GV}{m:Nat}{v:Vl}(h:Qz G v):Ad 69 G [.gp m 0,vlV v] (.ret (.int .i64 0)) G:=by
 obtain⟨out,ho⟩:∃out,out=HOut.ret (.int .i64 0):=⟨_,rfl⟩
 rw[<-ho];refine Ap mixed Tryz.func69 tr69 ?_;obtain⟨n,h⟩:=Bfq (m:=m) h ho;simp only[go_sem,seval];exact Ca n (Cp (Au (by simp[An])) h)
theorem A3o{G:GV}{m id:Nat}{th:Th}{v:Vl}(h:G[id]?=some (thR th))(hv:th.v=some v):Ad 46 G [.gp m 0,.gp id 0] (.ret (vlV v)) G:=by
 refine Ap mixed Tryz.func46 tr46 ?_;obtain⟨t,te,b,w,x⟩:=th;simp only at hv;subst hv;simp only[go_sem,seval,h,Jo,vlV]
theorem A3q{G G1:GV}{m id:Nat}{th th1:Th}{v:Vl}(h:G[id]?=some (thR th))(hv:th.v=none)(he:Ad 68 G [.gp m 0,.gp id 0] (.ret (vlV v)) G1)(h1:G1[id]?=some (thR th1))(hn:Qz G1 v) :
  Ad 46 G [.gp m 0,.gp id 0] (.ret (vlV v)) (G1.set id (thR { th1 with v:=some v })):=by
 refine Ap mixed Tryz.func46 tr46 ?_;obtain⟨t,te,b,w,y⟩:=th;simp only at hv;subst hv;simp only[go_sem,seval,h,Um];refine Ac he ?_;have Ab:=Dn h1;simp only[go_sem,seval];refine Ca 1 (Aj ?_);simp only[go_sem,seval];refine Ac (A3c hn) ?_;simp only[go_sem,seval,h1,Af5,Fl h1,Ke,Jo,List.getElem?_set_self Ab]
theorem Ajw{G G1:GV}{m id:Nat}{th:Th}{x:SV}(h:G[id]?=some (thR th))(hv:th.v=none)(he:Ad 68 G [.gp m 0,.gp id 0] (.pan x) G1) :
  Ad 46 G [.gp m 0,.gp id 0] (.pan x) G1:=by
 refine Ap mixed Tryz.func46 tr46 ?_;obtain⟨t,te,b,w,y⟩:=th;simp only at hv;subst hv;simp only[go_sem,seval,h,Um];exact Cn he trivial ⟨rfl,rfl⟩
theorem HContract.weaken{P:Program}{f:Nat}{G G':GV}{args:List SV}{r r':SV}(h:HContract P f G args (.ret r) G')(hl:Le r r'):HContract P f G args (.ret r') G':=by
 intro m w vs h1 h2 h3 h4;refine Calls.mono (h m w vs h1 h2 h3 h4) (fun e w' he=>?_);obtain⟨m',⟨v,a1,a2⟩,a3⟩:=he;exact⟨m',⟨v,a1,hl.rep a2⟩,a3⟩
theorem Bdh{G G':GV}{m j id:Nat}{steps most seen guess:Int}{v:Vl}{deep:Int}(hG:G[m]?=some (Bn steps most seen guess j))(hf:fit guess)(hg:guess≠1)(hs:seen<8000000)(Fw:0<=seen)
  (h:Ad 46 (G.set m (Bn steps most (seen+1) (Ng guess) j)) [.gp m 0,.gp id 0] (.ret (vlV v)) G') (hk:v.k≠2) (hl:v.kids=[]) :
  Ad 35 G [.gp m 0,.gp id 0,.int .i64 deep] (.ret (.agg true (tv (.mk v.k v.i v.j v.n [])))) G':=by
 refine (Ap (out:=.ret (.agg true [.int .i64 v.k,.int .i64 v.i,.int .i64 v.j,.int .i64 v.n,.nils])) mixed Tryz.func35 tr35 ?_).weaken (Ms _ _ _ _);simp only[go_sem,seval];refine Ac (Ajn hG hf hg Fw hs) ?_;simp only[go_sem,seval];refine Ac h ?_;simp only[go_sem,seval,vlV,Ah hk,hl,c9];refine Ca 1 (Aj ?_);simp only[go_sem,seval,q_i]
theorem Aoo{G:GV}{m:Nat}{v:Vl}{deep:Int}(hk:v.k≠2)(hl:v.kids=[]) :
  Ad 45 G [.gp m 0,vlV v,.int .i64 deep] (.ret (.agg true (tv (.mk v.k v.i v.j v.n [])))) G:=by
 refine (Ap (out:=.ret (.agg true [.int .i64 v.k,.int .i64 v.i,.int .i64 v.j,.int .i64 v.n,.nils])) mixed Tryz.func45 tr45 ?_).weaken (Ms _ _ _ _);simp only[go_sem,seval,vlV,Ah hk,hl,c9];refine Ca 1 (Aj ?_);simp only[go_sem,seval,q_i]
end Go.Proofs.YtdpigpopcbjkmaaGreatDoor.Abs
