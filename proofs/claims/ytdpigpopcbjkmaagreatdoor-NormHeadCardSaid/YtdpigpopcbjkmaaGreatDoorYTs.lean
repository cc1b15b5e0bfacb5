import Derived.Test.YtdpigpopcbjkmaaGreatDoorYDo
import Derived.Test.YtdpigpopcbjkmaaGreatDoorProg
import Derived.KernelRfl
import Derived.Test.YtdpigpopcbjkmaaGreatDoorYEv
import Derived.Test.YtdpigpopcbjkmaaGreatDoorYAfC
set_option linter.unusedSimpArgs false
set_option linter.unusedVariables false
set_option maxRecDepth 20000
set_option maxHeartbeats 4000000
namespace Go.Proofs.YtdpigpopcbjkmaaGreatDoor.Abs
open Go Go.Proofs Go.Proofs.YtdpigpopcbjkmaaGreatDoor
def af14:AF:=⟨17,[(.cell 4 true 5),(.cell 5 false 1)],(sqF [oP 2 (.box (.t 0)),oP 4 (.new [(iS 0),(iS 0),(iS 0),(iS 0),.nils]),oP 5 (.new [(iS 0)])] (.seq (sqF [oP 6 (.load true 5 (.t 2)),oP 7 (.call 30 [(.t 6)]),oP 8 (.un .not (.t 7))] (.cond (.t 8) (sqF [oP 9 (.build [(iS 0),(iS 0),(iS 0),(iS 0),.nils] []),oN (.store 5 (.t 4) (.t 9)),oN (.store 1 (.t 5) (cI 1))] .ret) .skip)) (sqF [oP 10 (.mv (cB true)),oN (.un .not (.t 10)),oP 10 (.mv (.c .J))] (sqT [oP 11 (mT 1),⟨(some 12),(.call 34 [(.t 11)]),none,1,true,[]⟩,⟨(some 13),(.hcall 33 [(.t 12)]),none,2,true,[]⟩,⟨(some 14),(.load true 5 (.t 2)),none,3,false,[1,2]⟩,⟨(some 15),(.hcall 36 [(.t 14),(.c .nilp)]),none,4,false,[4]⟩,⟨(some 16),(.hcall 35 [(.t 13),(.t 15),(cI 0)]),none,5,false,[5]⟩,oJ 6 (.store 5 (.t 4) (.t 16)),oJ 7 (.store 1 (.t 5) (cI 0))] .ret))))⟩
theorem tr14:Ab2 Tryz.prog Tryz.f14=some (af14,10,31,2):=by kernel_rfl
attribute [go_sem] af14
def af21:AF:=⟨21,[(.cell 4 true 5),(.cell 5 false 1)],(sqF [oP 2 (.box (.t 0)),oP 4 (.new [(iS 0),(iS 0),(iS 0),(iS 0),.nils]),oP 5 (.new [(iS 0)])] (.seq (sqF [oP 7 (.load true 5 (.t 2)),oP 8 (.call 30 [(.t 7)]),oP 9 (.un .not (.t 8))] (.cond (.t 9) (sqF [oP 10 (.build [(iS 0),(iS 0),(iS 0),(iS 0),.nils] []),oN (.store 5 (.t 4) (.t 10)),oN (.store 1 (.t 5) (cI 1))] .ret) .skip)) (sqF [oP 11 (.mv (cB true)),oN (.un .not (.t 11)),oP 11 (.mv (.c .J))] (sqF [oP 12 (mT 1),oP 13 (.call 34 [(.t 12)]),oP 14 (.hcall 33 [(.t 13)]),oP 6 (mT 14)] (sqF [oP 15 (mT 6),oP 16 (mT 6),oP 17 (.load true 5 (.t 2)),oP 18 (.hcall 36 [(.t 17),(.c .nilp)]),oP 19 (.hcall 46 [(.t 16),(.t 18)]),oP 20 (.hcall 45 [(.t 15),(.t 19),(cI 0)]),oN (.store 5 (.t 4) (.t 20)),oN (.store 1 (.t 5) (cI 0))] .ret)))))⟩
theorem tr21:Ab2 Tryz.prog Tryz.f21=some (af21,11,44,2):=by kernel_rfl
attribute [go_sem] af21
def af19:AF:=⟨8,[(.t 2)],(sqF [oP 1 (.box (.t 0)),oP 2 (.mv (cI 0))] (.seq (sqF [oP 3 (.load true 5 (.t 1)),oP 4 (.call 40 [(.t 3)]),oP 5 (.un .not (.t 4))] (.cond (.t 5) (sqF [oP 2 (.mv (cI 0))] .ret) .skip)) (sqF [oP 6 (.load true 5 (.t 1)),oP 7 (.call 41 [(.t 6)]),oP 2 (mT 7)] .ret)))⟩
theorem tr19:trF Tryz.prog Tryz.f19=some af19:=by kernel_rfl
attribute [go_sem] af19
def a20_21:AC:=.seq (sqF [oP 7 (mT 0),oP 8 (nkT 7),oP 9 (fdT 1 8),oP 10 (ldT 9),oP 11 (.un .not (.t 10))] (.cond (.t 11) .skip (.exit 0))) (.blk 1 (sqF [oP 13 (.load true 5 (.t 3)),oP 14 (.call 42 [(.t 13)]),oP 12 (mT 14),oP 15 (.ext (.t 12) 0),oP 16 (.ext (.t 12) 1),oP 5 (.new [(iS 0),(iS 0),(iS 0),(iS 0),.nils]),oN (.store 5 (.t 5) (.t 15)),oP 6 (mT 16)] (.seq (sqF [oP 17 (mT 6),oP 18 (.un .not (.t 17))] (.cond (.t 18) (sqF [oP 19 (.load true 5 (.t 3)),oN (.store 5 (.t 4) (.t 19))] .ret) .skip)) (sqF [oP 20 (mT 0),oP 21 (nkT 20),oP 22 (fdT 0 21),oP 23 (ldT 22),oP 24 (.bin 0 .add (.t 23) (cI 1)),oP 25 (nkT 20),oP 26 (fdT 0 25),oN (.store 1 (.t 26) (.t 24))] (.seq (sqF [oP 27 (mT 0),oP 28 (nkT 27),oP 29 (fdT 0 28),oP 30 (ldT 29),oP 31 (.bin 0 .gtr (.t 30) (cI 4000)),oP 32 (mT 31),oG 33 32 false 0 (.load true 5 (.t 5)),oG 34 32 false 0 (.call 43 [(.t 33),(cI 4000)]),oG 35 32 false 0 (.bin 0 .gtr (.t 34) (cI 4000)),oP 36 (.pick (.t 32) (cB true) (.t 35))] (.cond (.t 36) (rgF [oP 37 (mT 0),oP 38 (nkT 37),oP 39 (fdT 1 38),oN (.store 1 (.t 39) (cB true))]) .skip)) (rgF [oP 40 (.load true 5 (.t 5)),oN (.store 5 (.t 3) (.t 40))]))))))
def a20_25:AC:=sqF [oP 41 (.load true 5 (.t 3)),oN (.store 5 (.t 4) (.t 41))] .ret
def af20:AF:=⟨42,[(.cell 4 true 5)],(sqF [oP 3 (.box (.t 1)),oP 4 (.new [(iS 0),(iS 0),(iS 0),(iS 0),.nils])] (.seq (.blk 0 (.loop a20_21)) a20_25))⟩
theorem tr20:trF Tryz.prog Tryz.f20=some af20:=by kernel_rfl
attribute [go_sem] af20 a20_21 a20_25
def af22:AF:=⟨38,[(.t 4)],(sqF [oP 2 (.box (.t 0)),oP 3 (.box (.t 1)),oP 4 (.mv (cB false))] (sqF [oP 5 (fdT 0 2),oP 6 (ldT 5),oP 7 (fdT 0 3),oP 8 (ldT 7),oP 9 (.bin 0 .eql (.t 6) (.t 8)),oP 10 (mT 9),oG 11 10 true 0 (fdT 1 2),oG 12 10 true 0 (ldT 11),oG 13 10 true 0 (fdT 1 3),oG 14 10 true 0 (ldT 13),oG 15 10 true 0 (.bin 0 .eql (.t 12) (.t 14)),oP 16 (.pick (.t 10) (.t 15) (cB false)),oP 17 (mT 16),oG 18 17 true 0 (fdT 2 2),oG 19 17 true 0 (ldT 18),oG 20 17 true 0 (fdT 2 3),oG 21 17 true 0 (ldT 20),oG 22 17 true 0 (.bin 0 .eql (.t 19) (.t 21)),oP 23 (.pick (.t 17) (.t 22) (cB false)),oP 24 (mT 23),oG 25 24 true 0 (fdT 3 2),oG 26 24 true 0 (ldT 25),oG 27 24 true 0 (fdT 3 3),oG 28 24 true 0 (ldT 27),oG 29 24 true 0 (.bin 0 .eql (.t 26) (.t 28)),oP 30 (.pick (.t 24) (.t 29) (cB false)),oP 31 (mT 30),oG 32 31 true 0 (fdT 4 2),oG 33 31 true 0 (ldT 32),oG 34 31 true 0 (fdT 4 3),oG 35 31 true 0 (ldT 34),oG 36 31 true 0 (.call 47 [(.t 33),(.t 35)]),oP 37 (.pick (.t 31) (.t 36) (cB false)),oP 4 (mT 37)] .ret))⟩
theorem tr22:trF Tryz.prog Tryz.f22=some af22:=by kernel_rfl
attribute [go_sem] af22
def a24_12:AC:=.seq (sqF [oP 20 (mT 7),oP 21 (fdT 4 3),oP 22 (ldT 21),oP 23 (.len false (.t 22)),oP 24 (.bin 0 .lss (.t 20) (.t 23)),oP 25 (mT 24),oG 26 25 true 0 (mT 0),oG 27 25 true 0 (nkT 26),oG 28 25 true 0 (fdT 1 27),oG 29 25 true 0 (ldT 28),oG 30 25 true 0 (.un .not (.t 29)),oP 31 (.pick (.t 25) (.t 30) (cB false))] (.cond (.t 31) .skip (.exit 0))) (.seq (.blk 1 (rgF [oP 34 (mT 6),oP 35 (mT 0),oP 36 (fdT 4 3),oP 37 (ldT 36),oP 38 (mT 7),oP 39 (.iad 5 (.t 37) (.t 38)),oP 40 (.load true 5 (.t 39)),oP 41 (.hcall 24 [(.t 35),(.t 40)]),oP 42 (.bslice 5 [(.t 41)]),oP 43 (.app 5 56 (.t 34) (.t 42)),oP 6 (mT 43)])) (rgF [oP 32 (mT 7),oP 33 (.bin 0 .add (.t 32) (cI 1)),oP 7 (mT 33)]))
def a24_19:AC:=sqF [oP 44 (mT 6),oP 45 (fdT 4 5),oN (.store 1 (.t 45) (.t 44))] (sqF [oP 46 (.load true 5 (.t 5)),oN (.store 5 (.t 4) (.t 46))] .ret)
def af24:AF:=⟨47,[(.cell 4 true 5)],(sqF [oP 3 (.box (.t 1)),oP 4 (.new [(iS 0),(iS 0),(iS 0),(iS 0),.nils])] (sqF [oP 8 (mT 0),oP 9 (.load true 5 (.t 3)),oP 10 (.hcall 20 [(.t 8),(.t 9)]),oN (.store 5 (.t 3) (.t 10))] (sqF [oP 11 (fdT 0 3),oP 12 (ldT 11),oP 13 (fdT 1 3),oP 14 (ldT 13),oP 15 (fdT 2 3),oP 16 (ldT 15),oP 17 (fdT 3 3),oP 18 (ldT 17),oP 19 (.build [(iS 0),(iS 0),(iS 0),(iS 0),.nils] [(0,(1,(.t 12))),(1,(1,(.t 14))),(2,(1,(.t 16))),(3,(1,(.t 18)))]),oP 5 (.new [(iS 0),(iS 0),(iS 0),(iS 0),.nils]),oN (.store 5 (.t 5) (.t 19))] (sqF [oP 6 (.mv (.c .nils))] (.seq (sqF [oP 7 (.mv (cI 0))] (.blk 0 (.loop a24_12))) a24_19)))))⟩
theorem tr24:trF Tryz.prog Tryz.f24=some af24:=by kernel_rfl
attribute [go_sem] af24 a24_12 a24_19
def af40:AF:=⟨9,[(.t 2)],(sqF [oP 1 (.box (.t 0)),oP 2 (.mv (cB false))] (sqF [oP 3 (.load true 5 (.t 1)),oP 4 (.call 64 [(.t 3)]),oP 5 (mT 4),oG 6 5 false 0 (.load true 5 (.t 1)),oG 7 5 false 0 (.call 18 [(.t 6)]),oP 8 (.pick (.t 5) (cB true) (.t 7)),oP 2 (mT 8)] .ret))⟩
theorem tr40:trF Tryz.prog Tryz.f40=some af40:=by kernel_rfl
attribute [go_sem] af40
def af41:AF:=⟨32,[(.t 2)],(sqF [oP 1 (.box (.t 0)),oP 2 (.mv (cI 0))] (.seq (sqF [oP 5 (fdT 0 1),oP 6 (ldT 5),oP 7 (.bin 0 .eql (.t 6) (cI 2))] (.cond (.t 7) (sqF [oP 8 (fdT 1 1),oP 9 (ldT 8),oP 10 (.bin 0 .add (.t 9) (cI 1)),oP 2 (mT 10)] .ret) .skip)) (sqF [oP 3 (.mv (cI 0))] (.seq (sqF [oP 4 (.mv (cI 0))] (.blk 0 (.loop (.seq (sqF [oP 11 (mT 4),oP 12 (fdT 4 1),oP 13 (ldT 12),oP 14 (.len false (.t 13)),oP 15 (.bin 0 .lss (.t 11) (.t 14))] (.cond (.t 15) .skip (.exit 0))) (.seq (.blk 1 (.reg [oP 18 (mT 3),oI 19 1 (fdT 4 1),oI 20 2 (ldT 19),oI 21 3 (mT 4),oI 22 4 (.iad 5 (.t 20) (.t 21)),oI 23 5 (.load true 5 (.t 22)),⟨(some 24),(.call 41 [(.t 23)]),none,6,true,[]⟩,oI 25 7 (fdT 0 1),⟨(some 26),(ldT 25),none,8,false,[6]⟩,oI 27 9 (mT 4),oI 28 10 (.call 65 [(.t 26),(.t 27)]),oI 29 11 (.bin 0 .sub (.t 24) (.t 28)),oI 30 12 (.mnx true (.t 18) (.t 29)),oI 3 13 (mT 30)] true)) (rgF [oP 16 (mT 4),oP 17 (.bin 0 .add (.t 16) (cI 1)),oP 4 (mT 17)])))))) (sqF [oP 31 (mT 3),oP 2 (mT 31)] .ret)))))⟩
theorem tr41:trF Tryz.prog Tryz.f41=some af41:=by kernel_rfl
attribute [go_sem] af41
def af42:AF:=⟨39,[(.cell 2 true 5),(.t 3)],(sqF [oP 1 (.box (.t 0)),oP 2 (.new [(iS 0),(iS 0),(iS 0),(iS 0),.nils]),oP 3 (.mv (cB false))] (sqF [oP 8 (.load true 5 (.t 1)),oP 9 (.call 48 [(.t 8)]),oP 7 (mT 9),oP 10 (.ext (.t 7) 0),oP 11 (.ext (.t 7) 1),oP 4 (.new [(iS 0),(iS 0),(iS 0),(iS 0),.nils]),oN (.store 5 (.t 4) (.t 10)),oP 5 (mT 11)] (.seq (sqF [oP 12 (mT 5)] (.cond (.t 12) (sqF [oP 13 (.load true 5 (.t 4)),oN (.store 5 (.t 2) (.t 13)),oP 3 (.mv (cB true))] .ret) .skip)) (sqF [oP 6 (.mv (cI 0))] (.seq (sqF [oP 14 (fdT 0 1),oP 15 (ldT 14)] (.blk 0 (.seq (sqF [oP 18 (.bin 0 .eql (.t 15) (cI 15)),oP 17 (mT 18)] (.cond (.t 17) .skip (sqF [oP 19 (.bin 0 .eql (.t 15) (cI 18)),oP 17 (mT 19)] (.cond (.t 17) .skip (rgF [oP 20 (.bin 0 .eql (.t 15) (cI 19)),oP 17 (mT 20)]))))) (.cond (.t 17) .skip (sqF [oP 22 (.bin 0 .eql (.t 15) (cI 22)),oP 21 (mT 22)] (.cond (.t 21) (rgF [oP 6 (.mv (cI 5))]) (sqF [oP 16 (.load true 5 (.t 1)),oN (.store 5 (.t 2) (.t 16)),oP 3 (.mv (cB false))] .ret))))))) (sqF [oP 24 (fdT 4 1),oP 25 (ldT 24),oP 26 (mT 6),oP 27 (.iad 5 (.t 25) (.t 26)),oP 28 (.load true 5 (.t 27)),oP 29 (.call 42 [(.t 28)]),oP 23 (mT 29),oP 30 (.ext (.t 23) 0),oP 31 (.ext (.t 23) 1),oN (.store 5 (.t 4) (.t 30)),oP 5 (mT 31)] (.seq (sqF [oP 32 (mT 5),oP 33 (.un .not (.t 32))] (.cond (.t 33) (sqF [oP 34 (.load true 5 (.t 1)),oN (.store 5 (.t 2) (.t 34)),oP 3 (.mv (cB false))] .ret) .skip)) (sqF [oP 35 (.load true 5 (.t 1)),oP 36 (mT 6),oP 37 (.load true 5 (.t 4)),oP 38 (.call 49 [(.t 35),(.t 36),(.t 37)]),oN (.store 5 (.t 2) (.t 38)),oP 3 (.mv (cB true))] .ret))))))))⟩
theorem tr42:trF Tryz.prog Tryz.f42=some af42:=by kernel_rfl
attribute [go_sem] af42
def af43:AF:=⟨31,[(.t 4)],(sqF [oP 2 (.box (.t 0)),oP 4 (.mv (cI 0))] (sqF [oP 5 (.mv (cI 1))] (.seq (sqF [oP 6 (.mv (cI 0))] (.blk 0 (.loop (.seq (sqF [oP 7 (mT 6),oP 8 (fdT 4 2),oP 9 (ldT 8),oP 10 (.len false (.t 9)),oP 11 (.bin 0 .lss (.t 7) (.t 10)),oP 12 (mT 11),oG 13 12 true 0 (mT 5),oG 14 12 true 0 (mT 1),oG 15 12 true 0 (.bin 0 .leq (.t 13) (.t 14)),oP 16 (.pick (.t 12) (.t 15) (cB false))] (.cond (.t 16) .skip (.exit 0))) (.seq (.blk 1 (rgF [oP 19 (mT 5),oP 20 (fdT 4 2),oP 21 (ldT 20),oP 22 (mT 6),oP 23 (.iad 5 (.t 21) (.t 22)),oP 24 (.load true 5 (.t 23)),oP 25 (mT 1),oP 26 (mT 5),oP 27 (.bin 0 .sub (.t 25) (.t 26)),oP 28 (.call 43 [(.t 24),(.t 27)]),oP 29 (.bin 0 .add (.t 19) (.t 28)),oP 5 (mT 29)])) (rgF [oP 17 (mT 6),oP 18 (.bin 0 .add (.t 17) (cI 1)),oP 6 (mT 18)])))))) (sqF [oP 30 (mT 5),oP 4 (mT 30)] .ret))))⟩
theorem tr43:trF Tryz.prog Tryz.f43=some af43:=by kernel_rfl
attribute [go_sem] af43
def af47:AF:=⟨27,[(.t 4)],(sqF [oP 4 (.mv (cB false))] (.seq (sqF [oP 6 (mT 0),oP 7 (.len false (.t 6)),oP 8 (mT 1),oP 9 (.len false (.t 8)),oP 10 (.bin 0 .neq (.t 7) (.t 9))] (.cond (.t 10) (sqF [oP 4 (.mv (cB false))] .ret) .skip)) (.seq (sqF [oP 5 (.mv (cI 0))] (.blk 0 (.loop (.seq (sqF [oP 11 (mT 5),oP 12 (mT 0),oP 13 (.len false (.t 12)),oP 14 (.bin 0 .lss (.t 11) (.t 13))] (.cond (.t 14) .skip (.exit 0))) (.seq (.blk 1 (sqT [oP 17 (mT 0),oI 18 1 (mT 5),oI 19 2 (.iad 5 (.t 17) (.t 18)),oI 20 3 (.load true 5 (.t 19)),oI 21 4 (mT 1),oI 22 5 (mT 5),oI 23 6 (.iad 5 (.t 21) (.t 22)),oI 24 7 (.load true 5 (.t 23)),oI 25 8 (.call 22 [(.t 20),(.t 24)]),oI 26 9 (.un .not (.t 25))] (.cond (.t 26) (sqF [oP 4 (.mv (cB false))] .ret) .skip))) (rgF [oP 15 (mT 5),oP 16 (.bin 0 .add (.t 15) (cI 1)),oP 5 (mT 16)])))))) (sqF [oP 4 (.mv (cB true))] .ret))))⟩
theorem tr47:trF Tryz.prog Tryz.f47=some af47:=by kernel_rfl
attribute [go_sem] af47
def af48:AF:=⟨93,[(.cell 2 true 5),(.t 3)],(sqF [oP 1 (.box (.t 0)),oP 2 (.new [(iS 0),(iS 0),(iS 0),(iS 0),.nils]),oP 3 (.mv (cB false))] (.seq (sqF [oP 6 (fdT 0 1),oP 7 (ldT 6)] (.blk 0 (sqF [oP 9 (.bin 0 .eql (.t 7) (cI 15)),oP 8 (mT 9)] (.cond (.t 8) (sqF [oP 10 (fdT 4 1),oP 11 (ldT 10),oP 12 (.iad 5 (.t 11) (cI 0)),oP 13 (fdT 0 12),oP 14 (ldT 13),oP 15 (.bin 0 .eql (.t 14) (cI 14))] (.cond (.t 15) (sqT [oP 16 (fdT 4 1),oI 17 1 (ldT 16),oI 18 2 (.iad 5 (.t 17) (cI 0)),oI 19 3 (fdT 4 18),oI 20 4 (ldT 19),oI 21 5 (.iad 5 (.t 20) (cI 1)),oI 22 6 (.load true 5 (.t 21)),oI 23 7 (fdT 4 1),oI 24 8 (ldT 23),oI 25 9 (.iad 5 (.t 24) (cI 1)),oI 26 10 (.load true 5 (.t 25)),oI 27 11 (.call 71 [(.t 22),(.t 26)]),oJ 12 (.store 5 (.t 2) (.t 27)),oI 3 13 (.mv (cB true))] .ret) .skip)) (sqF [oP 29 (.bin 0 .eql (.t 7) (cI 18)),oP 28 (mT 29)] (.cond (.t 28) (sqF [oP 30 (fdT 4 1),oP 31 (ldT 30),oP 32 (.iad 5 (.t 31) (cI 0)),oP 33 (fdT 0 32),oP 34 (ldT 33),oP 35 (.bin 0 .eql (.t 34) (cI 17))] (.cond (.t 35) (sqF [oP 36 (fdT 4 1),oP 37 (ldT 36),oP 38 (.iad 5 (.t 37) (cI 0)),oP 39 (fdT 4 38),oP 40 (ldT 39),oP 41 (.iad 5 (.t 40) (cI 2)),oP 42 (.load true 5 (.t 41)),oN (.store 5 (.t 2) (.t 42)),oP 3 (.mv (cB true))] .ret) .skip)) (sqF [oP 44 (.bin 0 .eql (.t 7) (cI 19)),oP 43 (mT 44)] (.cond (.t 43) (sqF [oP 45 (fdT 4 1),oP 46 (ldT 45),oP 47 (.iad 5 (.t 46) (cI 0)),oP 48 (fdT 0 47),oP 49 (ldT 48),oP 50 (.bin 0 .eql (.t 49) (cI 17))] (.cond (.t 50) (sqF [oP 51 (fdT 4 1),oP 52 (ldT 51),oP 53 (.iad 5 (.t 52) (cI 0)),oP 54 (fdT 4 53),oP 55 (ldT 54),oP 56 (.iad 5 (.t 55) (cI 3)),oP 57 (.load true 5 (.t 56)),oN (.store 5 (.t 2) (.t 57)),oP 3 (.mv (cB true))] .ret) .skip)) (sqF [oP 59 (.bin 0 .eql (.t 7) (cI 22)),oP 58 (mT 59)] (.cond (.t 58) (sqF [oP 60 (fdT 4 1),oP 61 (ldT 60),oP 62 (.iad 5 (.t 61) (cI 5)),oP 63 (fdT 0 62),oP 64 (ldT 63),oP 65 (.bin 0 .eql (.t 64) (cI 21))] (.cond (.t 65) (sqF [oP 66 (fdT 4 1),oP 67 (ldT 66),oP 68 (.iad 5 (.t 67) (cI 3)),oP 69 (.load true 5 (.t 68)),oN (.store 5 (.t 2) (.t 69)),oP 3 (.mv (cB true))] .ret) .skip)) (sqF [oP 71 (.bin 0 .eql (.t 7) (cI 23)),oP 70 (mT 71)] (.cond (.t 70) (sqF [oP 73 (fdT 3 1),oP 74 (ldT 73),oP 75 (fdT 1 1),oP 76 (ldT 75),oP 77 (fdT 2 1),oP 78 (ldT 77),oP 79 (.call 72 [(.t 74),(.t 76),(.t 78)]),oP 72 (mT 79),oP 80 (.ext (.t 72) 0),oP 81 (.ext (.t 72) 1),oP 4 (.new [(.str (bs [])),.nils,(iS 0),(iS 0),(iS 0),(iS 0),.nils,(iS 0),(iS 0),(iS 0),(iS 0),.nils,(.bool false)]),oN (.store 13 (.t 4) (.t 80)),oP 5 (mT 81)] (sqF [oP 82 (mT 5),oP 83 (mT 82),oG 84 83 true 0 (fdT 12 4),oG 85 83 true 0 (ldT 84),oP 86 (.pick (.t 83) (.t 85) (cB false))] (.cond (.t 86) (sqF [oP 87 (fdT 7 4),oP 88 (.load true 5 (.t 87)),oP 89 (fdT 4 1),oP 90 (ldT 89),oP 91 (.call 73 [(.t 88),(.t 90)]),oN (.store 5 (.t 2) (.t 91)),oP 3 (.mv (cB true))] .ret) .skip))) .skip)))))))))))) (sqF [oP 92 (.load true 5 (.t 1)),oN (.store 5 (.t 2) (.t 92)),oP 3 (.mv (cB false))] .ret)))⟩
theorem tr48:trF Tryz.prog Tryz.f48=some af48:=by kernel_rfl
attribute [go_sem] af48
def af49:AF:=⟨44,[(.cell 6 true 5)],(sqF [oP 3 (.box (.t 0)),oP 5 (.box (.t 2)),oP 6 (.new [(iS 0),(iS 0),(iS 0),(iS 0),.nils])] (sqF [oP 10 (fdT 0 3),oP 11 (ldT 10),oP 12 (fdT 1 3),oP 13 (ldT 12),oP 14 (fdT 2 3),oP 15 (ldT 14),oP 16 (fdT 3 3),oP 17 (ldT 16),oP 18 (.build [(iS 0),(iS 0),(iS 0),(iS 0),.nils] [(0,(1,(.t 11))),(1,(1,(.t 13))),(2,(1,(.t 15))),(3,(1,(.t 17)))]),oP 7 (.new [(iS 0),(iS 0),(iS 0),(iS 0),.nils]),oN (.store 5 (.t 7) (.t 18))] (sqF [oP 8 (.mv (.c .nils))] (.seq (sqF [oP 9 (.mv (cI 0))] (.blk 0 (.loop (.seq (sqF [oP 19 (mT 9),oP 20 (fdT 4 3),oP 21 (ldT 20),oP 22 (.len false (.t 21)),oP 23 (.bin 0 .lss (.t 19) (.t 22))] (.cond (.t 23) .skip (.exit 0))) (.seq (.blk 1 (sqF [oP 26 (mT 9),oP 27 (mT 1),oP 28 (.bin 0 .eql (.t 26) (.t 27))] (.cond (.t 28) (rgF [oP 29 (mT 8),oP 30 (.load true 5 (.t 5)),oP 31 (.bslice 5 [(.t 30)]),oP 32 (.app 5 56 (.t 29) (.t 31)),oP 8 (mT 32)]) (rgF [oP 33 (mT 8),oP 34 (fdT 4 3),oP 35 (ldT 34),oP 36 (mT 9),oP 37 (.iad 5 (.t 35) (.t 36)),oP 38 (.load true 5 (.t 37)),oP 39 (.bslice 5 [(.t 38)]),oP 40 (.app 5 56 (.t 33) (.t 39)),oP 8 (mT 40)])))) (rgF [oP 24 (mT 9),oP 25 (.bin 0 .add (.t 24) (cI 1)),oP 9 (mT 25)])))))) (sqF [oP 41 (mT 8),oP 42 (fdT 4 7),oN (.store 1 (.t 42) (.t 41))] (sqF [oP 43 (.load true 5 (.t 7)),oN (.store 5 (.t 6) (.t 43))] .ret))))))⟩
theorem tr49:trF Tryz.prog Tryz.f49=some af49:=by kernel_rfl
attribute [go_sem] af49
def af64:AF:=⟨45,[(.t 2)],(sqF [oP 1 (.box (.t 0)),oP 2 (.mv (cB false))] (.seq (sqF [oP 4 (fdT 0 1),oP 5 (ldT 4),oP 6 (.bin 0 .lss (.t 5) (cI 1)),oP 7 (mT 6),oG 8 7 false 0 (fdT 0 1),oG 9 7 false 0 (ldT 8),oG 10 7 false 0 (.bin 0 .gtr (.t 9) (cI 12)),oP 11 (.pick (.t 7) (cB true) (.t 10)),oP 12 (mT 11),oG 13 12 false 0 (.load true 5 (.t 1)),oG 14 12 false 0 (.call 39 [(.t 13)]),oG 15 12 false 0 (.un .not (.t 14)),oP 16 (.pick (.t 12) (cB true) (.t 15))] (.cond (.t 16) (sqF [oP 2 (.mv (cB false))] .ret) .skip)) (.seq (sqF [oP 3 (.mv (cI 0))] (.blk 0 (.loop (.seq (sqF [oP 17 (mT 3),oP 18 (fdT 4 1),oP 19 (ldT 18),oP 20 (.len false (.t 19)),oP 21 (.bin 0 .lss (.t 17) (.t 20))] (.cond (.t 21) .skip (.exit 0))) (.seq (.blk 1 (sqF [oP 24 (fdT 0 1),oP 25 (ldT 24),oP 26 (.bin 0 .eql (.t 25) (cI 12)),oP 27 (mT 26),oG 28 27 true 0 (mT 3),oG 29 27 true 0 (.bin 0 .eql (.t 28) (cI 2)),oP 30 (.pick (.t 27) (.t 29) (cB false))] (.cond (.t 30) (sqF [oP 31 (fdT 4 1),oP 32 (ldT 31),oP 33 (mT 3),oP 34 (.iad 5 (.t 32) (.t 33)),oP 35 (.load true 5 (.t 34)),oP 36 (.call 18 [(.t 35)]),oP 37 (.un .not (.t 36))] (.cond (.t 37) (sqF [oP 2 (.mv (cB false))] .ret) .skip)) (sqF [oP 38 (fdT 4 1),oP 39 (ldT 38),oP 40 (mT 3),oP 41 (.iad 5 (.t 39) (.t 40)),oP 42 (.load true 5 (.t 41)),oP 43 (.call 64 [(.t 42)]),oP 44 (.un .not (.t 43))] (.cond (.t 44) (sqF [oP 2 (.mv (cB false))] .ret) .skip))))) (rgF [oP 22 (mT 3),oP 23 (.bin 0 .add (.t 22) (cI 1)),oP 3 (mT 23)])))))) (sqF [oP 2 (.mv (cB true))] .ret))))⟩
theorem tr64:trF Tryz.prog Tryz.f64=some af64:=by kernel_rfl
attribute [go_sem] af64
def af65:AF:=⟨31,[(.t 4)],(sqF [oP 4 (.mv (cI 0))] (.seq (sqF [oP 5 (mT 0)] (.blk 0 (.seq (sqF [oP 7 (.bin 0 .eql (.t 5) (cI 3)),oP 6 (mT 7)] (.cond (.t 6) .skip (sqF [oP 8 (.bin 0 .eql (.t 5) (cI 5)),oP 6 (mT 8)] (.cond (.t 6) .skip (sqF [oP 9 (.bin 0 .eql (.t 5) (cI 6)),oP 6 (mT 9)] (.cond (.t 6) .skip (sqF [oP 10 (.bin 0 .eql (.t 5) (cI 7)),oP 6 (mT 10)] (.cond (.t 6) .skip (sqF [oP 11 (.bin 0 .eql (.t 5) (cI 8)),oP 6 (mT 11)] (.cond (.t 6) .skip (sqF [oP 12 (.bin 0 .eql (.t 5) (cI 9)),oP 6 (mT 12)] (.cond (.t 6) .skip (sqF [oP 13 (.bin 0 .eql (.t 5) (cI 13)),oP 6 (mT 13)] (.cond (.t 6) .skip (sqF [oP 14 (.bin 0 .eql (.t 5) (cI 14)),oP 6 (mT 14)] (.cond (.t 6) .skip (sqF [oP 15 (.bin 0 .eql (.t 5) (cI 16)),oP 6 (mT 15)] (.cond (.t 6) .skip (rgF [oP 16 (.bin 0 .eql (.t 5) (cI 17)),oP 6 (mT 16)]))))))))))))))))))) (.cond (.t 6) (sqF [oP 17 (mT 1),oP 18 (.bin 0 .eql (.t 17) (cI 1))] (.cond (.t 18) (sqF [oP 4 (.mv (cI 1))] .ret) .skip)) (sqF [oP 20 (.bin 0 .eql (.t 5) (cI 4)),oP 19 (mT 20)] (.cond (.t 19) (sqF [oP 21 (mT 1),oP 22 (.bin 0 .eql (.t 21) (cI 1)),oP 23 (mT 22),oG 24 23 false 0 (mT 1),oG 25 23 false 0 (.bin 0 .eql (.t 24) (cI 2)),oP 26 (.pick (.t 23) (cB true) (.t 25))] (.cond (.t 26) (sqF [oP 4 (.mv (cI 1))] .ret) .skip)) (sqF [oP 28 (.bin 0 .eql (.t 5) (cI 22)),oP 27 (mT 28)] (.cond (.t 27) (sqF [oP 29 (mT 1),oP 30 (.bin 0 .eql (.t 29) (cI 2))] (.cond (.t 30) (sqF [oP 4 (.mv (cI 2))] .ret) .skip)) .skip)))))))) (sqF [oP 4 (.mv (cI 0))] .ret)))⟩
theorem tr65:trF Tryz.prog Tryz.f65=some af65:=by kernel_rfl
attribute [go_sem] af65
def af71:AF:=⟨8,[(.cell 4 true 5)],(sqF [oP 2 (.box (.t 0)),oP 3 (.box (.t 1)),oP 4 (.new [(iS 0),(iS 0),(iS 0),(iS 0),.nils])] (sqF [oP 5 (.load true 5 (.t 2)),oP 6 (.load true 5 (.t 3)),oP 7 (.call 95 [(.t 5),(.t 6)]),oN (.store 5 (.t 4) (.t 7))] .ret))⟩
theorem tr71:trF Tryz.prog Tryz.f71=some af71:=by kernel_rfl
attribute [go_sem] af71
def af73:AF:=⟨30,[(.cell 4 true 5)],(sqF [oP 2 (.box (.t 0)),oP 4 (.new [(iS 0),(iS 0),(iS 0),(iS 0),.nils])] (sqF [oP 5 (.mv (.c .nils))] (.seq (sqF [oP 9 (mT 1),oP 10 (.len false (.t 9)),oP 11 (.bin 0 .sub (.t 10) (cI 1)),oP 6 (mT 11)] (.blk 0 (.loop (.seq (sqF [oP 12 (mT 6),oP 13 (.bin 0 .geq (.t 12) (cI 0))] (.cond (.t 13) .skip (.exit 0))) (.seq (.blk 1 (rgF [oP 16 (mT 5),oP 17 (mT 1),oP 18 (mT 6),oP 19 (.iad 5 (.t 17) (.t 18)),oP 20 (.load true 5 (.t 19)),oP 21 (.bslice 5 [(.t 20)]),oP 22 (.app 5 56 (.t 16) (.t 21)),oP 5 (mT 22)])) (rgF [oP 14 (mT 6),oP 15 (.bin 0 .sub (.t 14) (cI 1)),oP 6 (mT 15)])))))) (sqF [oP 24 (.load true 5 (.t 2)),oP 25 (mT 5),oP 26 (.call 102 [(.t 24),(.t 25)]),oP 23 (mT 26),oP 27 (.ext (.t 23) 0),oP 28 (.ext (.t 23) 1),oP 7 (.new [(iS 0),(iS 0),(iS 0),(iS 0),.nils]),oN (.store 5 (.t 7) (.t 27)),oP 8 (mT 28)] (sqF [oP 29 (.load true 5 (.t 7)),oN (.store 5 (.t 4) (.t 29))] .ret)))))⟩
theorem tr73:trF Tryz.prog Tryz.f73=some af73:=by kernel_rfl
attribute [go_sem] af73
def af95:AF:=⟨27,[(.cell 4 true 5)],(sqF [oP 2 (.box (.t 0)),oP 3 (.box (.t 1)),oP 4 (.new [(iS 0),(iS 0),(iS 0),(iS 0),.nils])] (.seq (sqF [oP 7 (.load true 5 (.t 2)),oP 8 (.call 40 [(.t 7)]),oP 9 (.un .not (.t 8)),oP 10 (mT 9),oG 11 10 false 0 (.load true 5 (.t 2)),oG 12 10 false 0 (.load true 5 (.t 3)),oG 13 10 false 0 (.call 113 [(.t 11),(.t 12)]),oG 14 10 false 0 (.un .not (.t 13)),oP 15 (.pick (.t 10) (cB true) (.t 14))] (.cond (.t 15) (sqF [oP 16 (.build [(iS 0),(iS 0),(iS 0),(iS 0),.nils] []),oN (.store 5 (.t 4) (.t 16))] .ret) .skip)) (sqF [oP 18 (.load true 5 (.t 2)),oP 19 (.load true 5 (.t 3)),oP 20 (.call 114 [(.t 18),(.t 19),(cI 0),(cB false)]),oP 17 (mT 20),oP 21 (.ext (.t 17) 0),oP 22 (.ext (.t 17) 1),oP 5 (.new [(iS 0),(iS 0),(iS 0),(iS 0),.nils]),oN (.store 5 (.t 5) (.t 21)),oP 6 (mT 22)] (.seq (sqF [oP 23 (mT 6),oP 24 (.un .not (.t 23))] (.cond (.t 24) (sqF [oP 25 (.build [(iS 0),(iS 0),(iS 0),(iS 0),.nils] []),oN (.store 5 (.t 4) (.t 25))] .ret) .skip)) (sqF [oP 26 (.load true 5 (.t 5)),oN (.store 5 (.t 4) (.t 26))] .ret)))))⟩
theorem tr95:trF Tryz.prog Tryz.f95=some af95:=by kernel_rfl
attribute [go_sem] af95
def af102:AF:=⟨44,[(.cell 4 true 5),(.t 5)],(sqF [oP 2 (.box (.t 0)),oP 4 (.new [(iS 0),(iS 0),(iS 0),(iS 0),.nils]),oP 5 (.mv (cB false))] (.seq (sqF [oP 9 (.load true 5 (.t 2)),oP 10 (.call 40 [(.t 9)]),oP 11 (.un .not (.t 10)),oP 12 (mT 11),oG 13 12 false 0 (.load true 5 (.t 2)),oG 14 12 false 0 (.call 41 [(.t 13)]),oG 15 12 false 0 (mT 1),oG 16 12 false 0 (.len false (.t 15)),oG 17 12 false 0 (.bin 0 .gtr (.t 14) (.t 16)),oP 18 (.pick (.t 12) (cB true) (.t 17))] (.cond (.t 18) (sqF [oP 19 (.build [(iS 0),(iS 0),(iS 0),(iS 0),.nils] []),oN (.store 5 (.t 4) (.t 19)),oP 5 (.mv (cB false))] .ret) .skip)) (.seq (sqF [oP 6 (.mv (cI 0))] (.blk 0 (.loop (.seq (sqF [oP 20 (mT 6),oP 21 (mT 1),oP 22 (.len false (.t 21)),oP 23 (.bin 0 .lss (.t 20) (.t 22))] (.cond (.t 23) .skip (.exit 0))) (.seq (.blk 1 (sqT [oP 26 (.load true 5 (.t 2)),oI 27 1 (mT 1),oI 28 2 (mT 6),oI 29 3 (.iad 5 (.t 27) (.t 28)),oI 30 4 (.load true 5 (.t 29)),oI 31 5 (.call 113 [(.t 26),(.t 30)]),oI 32 6 (.un .not (.t 31))] (.cond (.t 32) (sqF [oP 33 (.build [(iS 0),(iS 0),(iS 0),(iS 0),.nils] []),oN (.store 5 (.t 4) (.t 33)),oP 5 (.mv (cB false))] .ret) .skip))) (rgF [oP 24 (mT 6),oP 25 (.bin 0 .add (.t 24) (cI 1)),oP 6 (mT 25)])))))) (sqF [oP 35 (.load true 5 (.t 2)),oP 36 (mT 1),oP 37 (.call 122 [(.t 35),(.t 36),(cI 0),(cB false)]),oP 34 (mT 37),oP 38 (.ext (.t 34) 0),oP 39 (.ext (.t 34) 1),oP 7 (.new [(iS 0),(iS 0),(iS 0),(iS 0),.nils]),oN (.store 5 (.t 7) (.t 38)),oP 8 (mT 39)] (.seq (sqF [oP 40 (mT 8),oP 41 (.un .not (.t 40))] (.cond (.t 41) (sqF [oP 42 (.build [(iS 0),(iS 0),(iS 0),(iS 0),.nils] []),oN (.store 5 (.t 4) (.t 42)),oP 5 (.mv (cB false))] .ret) .skip)) (sqF [oP 43 (.load true 5 (.t 7)),oN (.store 5 (.t 4) (.t 43)),oP 5 (.mv (cB true))] .ret))))))⟩
theorem tr102:trF Tryz.prog Tryz.f102=some af102:=by kernel_rfl
attribute [go_sem] af102
def af107:AF:=⟨79,[(.cell 6 true 5),(.t 7)],(sqF [oP 3 (.box (.t 0)),oP 6 (.new [(iS 0),(iS 0),(iS 0),(iS 0),.nils]),oP 7 (.mv (cB false))] (sqF [oP 14 (fdT 0 3),oP 15 (ldT 14),oP 16 (fdT 1 3),oP 17 (ldT 16),oP 18 (fdT 2 3),oP 19 (ldT 18),oP 20 (fdT 3 3),oP 21 (ldT 20),oP 22 (.build [(iS 0),(iS 0),(iS 0),(iS 0),.nils] [(0,(1,(.t 15))),(1,(1,(.t 17))),(2,(1,(.t 19))),(3,(1,(.t 21)))]),oP 8 (.new [(iS 0),(iS 0),(iS 0),(iS 0),.nils]),oN (.store 5 (.t 8) (.t 22))] (.seq (sqF [oP 23 (fdT 0 3),oP 24 (ldT 23),oP 25 (.bin 0 .eql (.t 24) (cI 2)),oP 26 (mT 25),oG 27 26 true 0 (fdT 1 3),oG 28 26 true 0 (ldT 27),oG 29 26 true 0 (mT 2),oG 30 26 true 0 (.bin 0 .geq (.t 28) (.t 29)),oP 31 (.pick (.t 26) (.t 30) (cB false))] (.cond (.t 31) (.seq (sqF [oP 32 (mT 1),oP 33 (fdT 1 3),oP 34 (ldT 33),oP 35 (.bin 0 .sub (cI 2147483647) (.t 34)),oP 36 (.bin 0 .gtr (.t 32) (.t 35))] (.cond (.t 36) (sqF [oP 37 (.build [(iS 0),(iS 0),(iS 0),(iS 0),.nils] []),oN (.store 5 (.t 6) (.t 37)),oP 7 (.mv (cB false))] .ret) .skip)) (rgF [oP 38 (fdT 1 3),oP 39 (ldT 38),oP 40 (mT 1),oP 41 (.bin 0 .add (.t 39) (.t 40)),oP 42 (fdT 1 8),oN (.store 1 (.t 42) (.t 41))])) .skip)) (sqF [oP 9 (.mv (.c .nils))] (.seq (sqF [oP 10 (.mv (cI 0))] (.blk 0 (.loop (.seq (sqF [oP 43 (mT 10),oP 44 (fdT 4 3),oP 45 (ldT 44),oP 46 (.len false (.t 45)),oP 47 (.bin 0 .lss (.t 43) (.t 46))] (.cond (.t 47) .skip (.exit 0))) (.seq (.blk 1 (sqF [oP 50 (fdT 0 3),oP 51 (ldT 50),oP 52 (mT 10),oP 53 (.call 65 [(.t 51),(.t 52)]),oP 11 (mT 53)] (.seq (sqF [oP 54 (mT 2),oP 55 (.bin 0 .gtr (.t 54) (cI 4611686018427387904))] (.cond (.t 55) (rgF [oP 11 (.mv (cI 0))]) .skip)) (sqF [oP 57 (fdT 4 3),oP 58 (ldT 57),oP 59 (mT 10),oP 60 (.iad 5 (.t 58) (.t 59)),oP 61 (.load true 5 (.t 60)),oP 62 (mT 1),oP 63 (mT 2),oP 64 (mT 11),oP 65 (.bin 0 .add (.t 63) (.t 64)),oP 66 (.call 107 [(.t 61),(.t 62),(.t 65)]),oP 56 (mT 66),oP 67 (.ext (.t 56) 0),oP 68 (.ext (.t 56) 1),oP 12 (.new [(iS 0),(iS 0),(iS 0),(iS 0),.nils]),oN (.store 5 (.t 12) (.t 67)),oP 13 (mT 68)] (.seq (sqF [oP 69 (mT 13),oP 70 (.un .not (.t 69))] (.cond (.t 70) (sqF [oP 71 (.build [(iS 0),(iS 0),(iS 0),(iS 0),.nils] []),oN (.store 5 (.t 6) (.t 71)),oP 7 (.mv (cB false))] .ret) .skip)) (rgF [oP 72 (mT 9),oP 73 (.load true 5 (.t 12)),oP 74 (.bslice 5 [(.t 73)]),oP 75 (.app 5 56 (.t 72) (.t 74)),oP 9 (mT 75)])))))) (rgF [oP 48 (mT 10),oP 49 (.bin 0 .add (.t 48) (cI 1)),oP 10 (mT 49)])))))) (sqF [oP 76 (mT 9),oP 77 (fdT 4 8),oN (.store 1 (.t 77) (.t 76))] (sqF [oP 78 (.load true 5 (.t 8)),oN (.store 5 (.t 6) (.t 78)),oP 7 (.mv (cB true))] .ret)))))))⟩
theorem tr107:trF Tryz.prog Tryz.f107=some af107:=by kernel_rfl
attribute [go_sem] af107
def af113:AF:=⟨25,[(.t 4)],(sqF [oP 2 (.box (.t 0)),oP 3 (.box (.t 1)),oP 4 (.mv (cB false))] (sqF [oP 5 (.load true 5 (.t 3)),oP 6 (.call 40 [(.t 5)]),oP 7 (mT 6),oG 8 7 true 0 (fdT 0 2),oG 9 7 true 0 (ldT 8),oG 10 7 true 0 (.bin 0 .eql (.t 9) (cI 1)),oG 11 7 true 0 (mT 10),oG 12 11 false 0 (fdT 0 2),oG 13 11 false 0 (ldT 12),oG 14 11 false 0 (.bin 0 .eql (.t 13) (cI 2)),oG 15 7 true 0 (.pick (.t 11) (cB true) (.t 14)),oG 16 7 true 0 (mT 15),oG 17 16 false 0 (.load true 5 (.t 2)),oG 18 16 false 0 (.call 18 [(.t 17)]),oG 19 7 true 0 (.pick (.t 16) (cB true) (.t 18)),oG 20 7 true 0 (mT 19),oG 21 20 false 0 (.load true 5 (.t 3)),oG 22 20 false 0 (.call 64 [(.t 21)]),oG 23 7 true 0 (.pick (.t 20) (cB true) (.t 22)),oP 24 (.pick (.t 7) (.t 23) (cB false)),oP 4 (mT 24)] .ret))⟩
theorem tr113:trF Tryz.prog Tryz.f113=some af113:=by kernel_rfl
attribute [go_sem] af113
def af114:AF:=⟨85,[(.cell 8 true 5),(.t 9)],(sqF [oP 4 (.box (.t 0)),oP 5 (.box (.t 1)),oP 8 (.new [(iS 0),(iS 0),(iS 0),(iS 0),.nils]),oP 9 (.mv (cB false))] (.seq (sqF [oP 15 (fdT 0 4),oP 16 (ldT 15),oP 17 (.bin 0 .eql (.t 16) (cI 2))] (.cond (.t 17) (.seq (sqF [oP 18 (fdT 1 4),oP 19 (ldT 18),oP 20 (mT 2),oP 21 (.bin 0 .eql (.t 19) (.t 20))] (.cond (.t 21) (sqF [oP 22 (.load true 5 (.t 5)),oP 23 (mT 2),oP 24 (mT 3),oP 25 (.call 128 [(.t 22),(.t 23),(.t 24)]),oP 26 (.ext (.t 25) 0),oP 27 (.ext (.t 25) 1),oN (.store 5 (.t 8) (.t 26)),oP 9 (mT 27)] .ret) .skip)) (.seq (sqF [oP 28 (fdT 1 4),oP 29 (ldT 28),oP 30 (mT 2),oP 31 (.bin 0 .gtr (.t 29) (.t 30))] (.cond (.t 31) (sqF [oP 32 (fdT 1 4),oP 33 (ldT 32),oP 34 (.bin 0 .sub (.t 33) (cI 1)),oP 35 (.build [(iS 0),(iS 0),(iS 0),(iS 0),.nils] [(0,(1,(cI 2))),(1,(1,(.t 34)))]),oN (.store 5 (.t 8) (.t 35)),oP 9 (.mv (cB true))] .ret) .skip)) (sqF [oP 36 (.load true 5 (.t 4)),oN (.store 5 (.t 8) (.t 36)),oP 9 (.mv (cB true))] .ret))) .skip)) (sqF [oP 37 (fdT 0 4),oP 38 (ldT 37),oP 39 (fdT 1 4),oP 40 (ldT 39),oP 41 (fdT 2 4),oP 42 (ldT 41),oP 43 (fdT 3 4),oP 44 (ldT 43),oP 45 (.build [(iS 0),(iS 0),(iS 0),(iS 0),.nils] [(0,(1,(.t 38))),(1,(1,(.t 40))),(2,(1,(.t 42))),(3,(1,(.t 44)))]),oP 10 (.new [(iS 0),(iS 0),(iS 0),(iS 0),.nils]),oN (.store 5 (.t 10) (.t 45))] (sqF [oP 11 (.mv (.c .nils))] (.seq (sqF [oP 12 (.mv (cI 0))] (.blk 0 (.loop (.seq (sqF [oP 46 (mT 12),oP 47 (fdT 4 4),oP 48 (ldT 47),oP 49 (.len false (.t 48)),oP 50 (.bin 0 .lss (.t 46) (.t 49))] (.cond (.t 50) .skip (.exit 0))) (.seq (.blk 1 (sqT [oP 54 (fdT 4 4),⟨(some 55),(ldT 54),none,1,true,[]⟩,oI 56 2 (mT 12),⟨(some 57),(.iad 5 (.t 55) (.t 56)),none,3,true,[]⟩,⟨(some 58),(.load true 5 (.t 57)),none,4,true,[]⟩,⟨(some 59),(.load true 5 (.t 5)),none,5,true,[]⟩,oI 60 6 (mT 2),oI 61 7 (fdT 0 4),⟨(some 62),(ldT 61),none,8,true,[]⟩,oI 63 9 (mT 12),⟨(some 64),(.call 65 [(.t 62),(.t 63)]),none,10,true,[1,3,4,5]⟩,oI 65 11 (.bin 0 .add (.t 60) (.t 64)),oI 66 12 (mT 3),oI 67 13 (mT 66),⟨(some 68),(.load true 5 (.t 4)),(some (67,false)),14,true,[]⟩,oG 69 67 false 15 (mT 12),⟨(some 70),(.call 129 [(.t 68),(.t 69)]),(some (67,false)),16,true,[1,3,4,5]⟩,oI 71 17 (.pick (.t 67) (cB true) (.t 70)),⟨(some 72),(.call 114 [(.t 58),(.t 59),(.t 65),(.t 71)]),none,18,true,[]⟩,oI 53 19 (mT 72),oI 73 20 (.ext (.t 53) 0),oI 74 21 (.ext (.t 53) 1),⟨(some 13),(.new [(iS 0),(iS 0),(iS 0),(iS 0),.nils]),none,22,false,[1,3,4,5,8,10,14,16,18]⟩,oJ 23 (.store 5 (.t 13) (.t 73)),oI 14 24 (mT 74)] (.seq (sqF [oP 75 (mT 14),oP 76 (.un .not (.t 75))] (.cond (.t 76) (sqF [oP 77 (.build [(iS 0),(iS 0),(iS 0),(iS 0),.nils] []),oN (.store 5 (.t 8) (.t 77)),oP 9 (.mv (cB false))] .ret) .skip)) (rgF [oP 78 (mT 11),oP 79 (.load true 5 (.t 13)),oP 80 (.bslice 5 [(.t 79)]),oP 81 (.app 5 56 (.t 78) (.t 80)),oP 11 (mT 81)])))) (rgF [oP 51 (mT 12),oP 52 (.bin 0 .add (.t 51) (cI 1)),oP 12 (mT 52)])))))) (sqF [oP 82 (mT 11),oP 83 (fdT 4 10),oN (.store 1 (.t 83) (.t 82))] (sqF [oP 84 (.load true 5 (.t 10)),oN (.store 5 (.t 8) (.t 84)),oP 9 (.mv (cB true))] .ret)))))))⟩
theorem tr114:trF Tryz.prog Tryz.f114=some af114:=by kernel_rfl
attribute [go_sem] af114
def af122:AF:=⟨84,[(.cell 8 true 5),(.t 9)],(sqF [oP 4 (.box (.t 0)),oP 8 (.new [(iS 0),(iS 0),(iS 0),(iS 0),.nils]),oP 9 (.mv (cB false))] (.seq (sqF [oP 15 (fdT 0 4),oP 16 (ldT 15),oP 17 (.bin 0 .eql (.t 16) (cI 2)),oP 18 (mT 17),oG 19 18 true 0 (fdT 1 4),oG 20 18 true 0 (ldT 19),oG 21 18 true 0 (mT 2),oG 22 18 true 0 (.bin 0 .geq (.t 20) (.t 21)),oP 23 (.pick (.t 18) (.t 22) (cB false))] (.cond (.t 23) (sqF [oP 24 (mT 1),oP 25 (fdT 1 4),oP 26 (ldT 25),oP 27 (mT 2),oP 28 (.bin 0 .sub (.t 26) (.t 27)),oP 29 (.iad 5 (.t 24) (.t 28)),oP 30 (.load true 5 (.t 29)),oP 31 (mT 2),oP 32 (mT 3),oP 33 (.call 128 [(.t 30),(.t 31),(.t 32)]),oP 34 (.ext (.t 33) 0),oP 35 (.ext (.t 33) 1),oN (.store 5 (.t 8) (.t 34)),oP 9 (mT 35)] .ret) .skip)) (sqF [oP 36 (fdT 0 4),oP 37 (ldT 36),oP 38 (fdT 1 4),oP 39 (ldT 38),oP 40 (fdT 2 4),oP 41 (ldT 40),oP 42 (fdT 3 4),oP 43 (ldT 42),oP 44 (.build [(iS 0),(iS 0),(iS 0),(iS 0),.nils] [(0,(1,(.t 37))),(1,(1,(.t 39))),(2,(1,(.t 41))),(3,(1,(.t 43)))]),oP 10 (.new [(iS 0),(iS 0),(iS 0),(iS 0),.nils]),oN (.store 5 (.t 10) (.t 44))] (sqF [oP 11 (.mv (.c .nils))] (.seq (sqF [oP 12 (.mv (cI 0))] (.blk 0 (.loop (.seq (sqF [oP 45 (mT 12),oP 46 (fdT 4 4),oP 47 (ldT 46),oP 48 (.len false (.t 47)),oP 49 (.bin 0 .lss (.t 45) (.t 48))] (.cond (.t 49) .skip (.exit 0))) (.seq (.blk 1 (sqT [oP 53 (fdT 4 4),⟨(some 54),(ldT 53),none,1,true,[]⟩,oI 55 2 (mT 12),⟨(some 56),(.iad 5 (.t 54) (.t 55)),none,3,true,[]⟩,⟨(some 57),(.load true 5 (.t 56)),none,4,true,[]⟩,oI 58 5 (mT 1),oI 59 6 (mT 2),oI 60 7 (fdT 0 4),⟨(some 61),(ldT 60),none,8,true,[]⟩,oI 62 9 (mT 12),⟨(some 63),(.call 65 [(.t 61),(.t 62)]),none,10,true,[1,3,4]⟩,oI 64 11 (.bin 0 .add (.t 59) (.t 63)),oI 65 12 (mT 3),oI 66 13 (mT 65),⟨(some 67),(.load true 5 (.t 4)),(some (66,false)),14,true,[]⟩,oG 68 66 false 15 (mT 12),⟨(some 69),(.call 129 [(.t 67),(.t 68)]),(some (66,false)),16,true,[1,3,4]⟩,oI 70 17 (.pick (.t 66) (cB true) (.t 69)),⟨(some 71),(.call 122 [(.t 57),(.t 58),(.t 64),(.t 70)]),none,18,true,[]⟩,oI 52 19 (mT 71),oI 72 20 (.ext (.t 52) 0),oI 73 21 (.ext (.t 52) 1),⟨(some 13),(.new [(iS 0),(iS 0),(iS 0),(iS 0),.nils]),none,22,false,[1,3,4,8,10,14,16,18]⟩,oJ 23 (.store 5 (.t 13) (.t 72)),oI 14 24 (mT 73)] (.seq (sqF [oP 74 (mT 14),oP 75 (.un .not (.t 74))] (.cond (.t 75) (sqF [oP 76 (.build [(iS 0),(iS 0),(iS 0),(iS 0),.nils] []),oN (.store 5 (.t 8) (.t 76)),oP 9 (.mv (cB false))] .ret) .skip)) (rgF [oP 77 (mT 11),oP 78 (.load true 5 (.t 13)),oP 79 (.bslice 5 [(.t 78)]),oP 80 (.app 5 56 (.t 77) (.t 79)),oP 11 (mT 80)])))) (rgF [oP 50 (mT 12),oP 51 (.bin 0 .add (.t 50) (cI 1)),oP 12 (mT 51)])))))) (sqF [oP 81 (mT 11),oP 82 (fdT 4 10),oN (.store 1 (.t 82) (.t 81))] (sqF [oP 83 (.load true 5 (.t 10)),oN (.store 5 (.t 8) (.t 83)),oP 9 (.mv (cB true))] .ret)))))))⟩
theorem tr122:trF Tryz.prog Tryz.f122=some af122:=by kernel_rfl
attribute [go_sem] af122
def af128:AF:=⟨16,[(.cell 6 true 5),(.t 7)],(sqF [oP 3 (.box (.t 0)),oP 6 (.new [(iS 0),(iS 0),(iS 0),(iS 0),.nils]),oP 7 (.mv (cB false))] (.seq (sqF [oP 8 (mT 2)] (.cond (.t 8) (rgF [oP 9 (.load true 5 (.t 3)),oP 10 (.call 141 [(.t 9)]),oN (.store 5 (.t 3) (.t 10))]) .skip)) (sqF [oP 11 (.load true 5 (.t 3)),oP 12 (mT 1),oP 13 (.call 107 [(.t 11),(.t 12),(cI 0)]),oP 14 (.ext (.t 13) 0),oP 15 (.ext (.t 13) 1),oN (.store 5 (.t 6) (.t 14)),oP 7 (mT 15)] .ret)))⟩
theorem tr128:trF Tryz.prog Tryz.f128=some af128:=by kernel_rfl
attribute [go_sem] af128
def af129:AF:=⟨17,[(.t 4)],(sqF [oP 2 (.box (.t 0)),oP 4 (.mv (cB false))] (sqF [oP 5 (fdT 0 2),oP 6 (ldT 5),oP 7 (.bin 0 .gtr (.t 6) (cI 12)),oP 8 (mT 7),oG 9 8 false 0 (fdT 0 2),oG 10 8 false 0 (ldT 9),oG 11 8 false 0 (.bin 0 .eql (.t 10) (cI 12)),oG 12 8 false 0 (mT 11),oG 13 12 true 0 (mT 1),oG 14 12 true 0 (.bin 0 .eql (.t 13) (cI 2)),oG 15 8 false 0 (.pick (.t 12) (.t 14) (cB false)),oP 16 (.pick (.t 8) (cB true) (.t 15)),oP 4 (mT 16)] .ret))⟩
theorem tr129:trF Tryz.prog Tryz.f129=some af129:=by kernel_rfl
attribute [go_sem] af129
def af141:AF:=⟨13,[(.cell 2 true 5)],(sqF [oP 1 (.box (.t 0)),oP 2 (.new [(iS 0),(iS 0),(iS 0),(iS 0),.nils])] (.seq (.blk 0 (sqF [oP 4 (.load true 5 (.t 1)),oP 5 (.call 18 [(.t 4)]),oP 3 (mT 5)] (.cond (.t 3) (sqF [oP 6 (.load true 5 (.t 1)),oN (.store 5 (.t 2) (.t 6))] .ret) (sqF [oP 8 (.load true 5 (.t 1)),oP 9 (.call 64 [(.t 8)]),oP 7 (mT 9)] (.cond (.t 7) (sqF [oP 10 (.load true 5 (.t 1)),oP 11 (.call 153 [(.t 10)]),oN (.store 5 (.t 2) (.t 11))] .ret) .skip))))) (sqF [oP 12 (.build [(iS 0),(iS 0),(iS 0),(iS 0),.nils] []),oN (.store 5 (.t 2) (.t 12))] .ret)))⟩
theorem tr141:trF Tryz.prog Tryz.f141=some af141:=by kernel_rfl
attribute [go_sem] af141
def af7:AF:=⟨77,[(.t 4)],(sqF [oP 2 (.box (.t 0)),oP 4 (.mv (cB false))] (sqF [oP 15 (.load true 5 (.t 2)),oP 16 (.call 13 [(.t 15)]),oP 14 (mT 16),oP 17 (.ext (.t 14) 0),oP 18 (.ext (.t 14) 1),oP 19 (.ext (.t 14) 2),oP 5 (.new [(iS 0),(iS 0),(iS 0),(iS 0),.nils]),oN (.store 5 (.t 5) (.t 17)),oP 6 (mT 18),oP 7 (mT 19)] (.seq (sqF [oP 20 (mT 7),oP 21 (.un .not (.t 20))] (.cond (.t 21) (sqF [oP 4 (.mv (cB true))] .ret) .skip)) (sqF [oP 23 (.load true 5 (.t 2)),oP 24 (mT 1),oP 25 (.call 21 [(.t 23),(.t 24)]),oP 22 (mT 25),oP 26 (.ext (.t 22) 0),oP 27 (.ext (.t 22) 1),oP 8 (.new [(iS 0),(iS 0),(iS 0),(iS 0),.nils]),oN (.store 5 (.t 8) (.t 26)),oP 9 (mT 27)] (.seq (sqF [oP 28 (mT 9),oP 29 (.bin 0 .neq (.t 28) (cI 0))] (.cond (.t 29) (sqF [oP 30 (mT 9),oP 31 (.bin 0 .eql (.t 30) (cI 6)),oP 32 (mT 31),oG 33 32 true 0 (.call 16 []),oP 34 (.pick (.t 32) (.t 33) (cB false)),oP 4 (mT 34)] .ret) .skip)) (sqF [oP 36 (.load true 5 (.t 2)),oP 37 (mT 1),oP 38 (.call 14 [(.t 36),(.t 37)]),oP 35 (mT 38),oP 39 (.ext (.t 35) 0),oP 40 (.ext (.t 35) 1),oP 10 (.new [(iS 0),(iS 0),(iS 0),(iS 0),.nils]),oN (.store 5 (.t 10) (.t 39)),oP 11 (mT 40)] (sqF [oP 42 (.load true 5 (.t 8)),oP 43 (mT 1),oP 44 (.call 14 [(.t 42),(.t 43)]),oP 41 (mT 44),oP 45 (.ext (.t 41) 0),oP 46 (.ext (.t 41) 1),oP 12 (.new [(iS 0),(iS 0),(iS 0),(iS 0),.nils]),oN (.store 5 (.t 12) (.t 45)),oP 13 (mT 46)] (sqF [oP 47 (mT 11),oP 48 (.bin 0 .eql (.t 47) (cI 0)),oP 49 (mT 48),oG 50 49 false 0 (mT 11),oG 51 49 false 0 (.bin 0 .eql (.t 50) (cI 6)),oP 52 (.pick (.t 49) (cB true) (.t 51)),oP 53 (mT 52),oG 54 53 true 0 (mT 13),oG 55 53 true 0 (.bin 0 .eql (.t 54) (cI 0)),oG 56 53 true 0 (mT 55),oG 57 56 false 0 (mT 13),oG 58 56 false 0 (.bin 0 .eql (.t 57) (cI 6)),oG 59 53 true 0 (.pick (.t 56) (cB true) (.t 58)),oP 60 (.pick (.t 53) (.t 59) (cB false)),oP 61 (mT 60),oG 62 61 true 0 (mT 11),oG 63 61 true 0 (.bin 0 .neq (.t 62) (cI 0)),oG 64 61 true 0 (mT 63),oG 65 64 false 0 (mT 13),oG 66 64 false 0 (.bin 0 .neq (.t 65) (cI 0)),oG 67 61 true 0 (.pick (.t 64) (cB true) (.t 66)),oG 68 61 true 0 (mT 67),oG 69 68 false 0 (.load true 5 (.t 10)),oG 70 68 false 0 (.load true 5 (.t 12)),oG 71 68 false 0 (.call 22 [(.t 69),(.t 70)]),oG 72 61 true 0 (.pick (.t 68) (cB true) (.t 71)),oP 73 (.pick (.t 61) (.t 72) (cB false)),oP 74 (mT 73),oG 75 74 true 0 (.call 16 []),oP 76 (.pick (.t 74) (.t 75) (cB false)),oP 4 (mT 76)] .ret))))))))⟩
theorem tr7:trF Tryz.prog Tryz.f7=some af7:=by kernel_rfl
attribute [go_sem] af7
def af13:AF:=⟨40,[(.cell 2 true 5),(.t 3),(.t 4)],(sqF [oP 1 (.box (.t 0)),oP 2 (.new [(iS 0),(iS 0),(iS 0),(iS 0),.nils]),oP 3 (.mv (cI 0)),oP 4 (.mv (cB false))] (.seq (sqF [oP 7 (.load true 5 (.t 1)),oP 8 (.call 17 [(.t 7),(cI 60)]),oP 9 (mT 8),oG 10 9 false 0 (.load true 5 (.t 1)),oG 11 9 false 0 (.call 18 [(.t 10)]),oG 12 9 false 0 (.un .not (.t 11)),oP 13 (.pick (.t 9) (cB true) (.t 12)),oP 14 (mT 13),oG 15 14 false 0 (.load true 5 (.t 1)),oG 16 14 false 0 (.call 19 [(.t 15)]),oG 17 14 false 0 (.bin 0 .geq (.t 16) (cI 1048576)),oP 18 (.pick (.t 14) (cB true) (.t 17))] (.cond (.t 18) (sqF [oP 19 (.build [(iS 0),(iS 0),(iS 0),(iS 0),.nils] []),oN (.store 5 (.t 2) (.t 19)),oP 3 (.mv (cI 0)),oP 4 (.mv (cB false))] .ret) .skip)) (sqF [oP 20 (.build [(iS 0),(.bool false)] []),oP 21 (.boxg (.t 20)),oP 5 (mT 21)] (sqF [oP 22 (mT 5),oP 23 (.load true 5 (.t 1)),oP 24 (.hcall 24 [(.t 22),(.t 23)]),oP 6 (.new [(iS 0),(iS 0),(iS 0),(iS 0),.nils]),oN (.store 5 (.t 6) (.t 24))] (sqT [⟨(some 25),(.load true 5 (.t 6)),none,0,true,[]⟩,oI 26 1 (mT 5),oI 27 2 (nkT 26),oI 28 3 (fdT 0 27),⟨(some 29),(ldT 28),none,4,true,[]⟩,oI 30 5 (mT 5),oI 31 6 (nkT 30),oI 32 7 (fdT 1 31),oI 33 8 (ldT 32),oI 34 9 (.un .not (.t 33)),oI 35 10 (mT 34),oG 36 35 true 11 (.load true 5 (.t 6)),⟨(some 37),(.call 17 [(.t 36),(cI 4000)]),(some (35,true)),12,false,[0,4]⟩,oG 38 35 true 13 (.un .not (.t 37)),oI 39 14 (.pick (.t 35) (.t 38) (cB false)),⟨none,(.store 5 (.t 2) (.t 25)),none,15,false,[4]⟩,oI 3 16 (mT 29),oI 4 17 (mT 39)] .ret)))))⟩
theorem tr13:trF Tryz.prog Tryz.f13=some af13:=by kernel_rfl
attribute [go_sem] af13
open Go Go.RowKit Go.Proofs.YtdpigpopcbjkmaaGreatDoor
theorem mixed:Tryz.prog.follows .mixedOrders=true:=by kernel_rfl
abbrev Con(f:Nat)(args:List SV)(r:SV):Prop:=Contract Tryz.prog f args r
def vr(i:Int):Tm:=.mk 2 i 0 0 []
def so(i:Int):Tm:=.mk 1 i 0 0 []
def pt(i:Int)(a x:Tm):Tm:=.mk 17 0 0 0 [so i,vr 0,a,x]
def Lu(W:List SV->Int->Int->Int)(rows:GV)(most deep:Int):Nat->Int
 |0=>1
 |x+1=>IntKind.i64.wrap (Lu W rows most deep x+W (rows[x]?.getD []) (IntKind.i64.wrap (most-Lu W rows most deep x)) deep)
theorem Av3(rows:GV)(h2:rows.length*56<=140737488355328)(h5:∀r∈rows,r.length=5)(H:∀r∈rows,Con 22 [.agg true r,.agg true r] (.bool true)) :
  Con 47 [.dsl 5 rows,.dsl 5 rows] (.bool true):=by
 refine Al mixed Tryz.func47 tr47 ?_;simp only[go_sem,seval,bne_self_eq_false];intro _ _;refine Je (fun x=>⟨[.dsl 5 rows,.dsl 5 rows,.J,.J,.bool false,.int .i64 x,.J,.J,.J,.J,.J,.J,.J,.J,.J,.J,.J,.J,.J,.J,.J,.J,.J,.J,.J,.J,.J],[]⟩) rows.length (fun x hx=>?_) ?_
 ·simp only[go_sem,seval];intro _;refine⟨fun h=>?_,fun h=>?_⟩
  ·have Zb:=of_decide_eq_true h;have Fk:x<rows.length:=by omega
   have e0:(0:Int)<=(x:Int):=by omega
   have hm:rows[x]?.getD []∈rows:=by rw[q_f Fk,Option.getD_some];exact List.getElem_mem Fk
   have Dv:=h5 _ hm;simp only[go_sem,seval,Zb,e0,Dv];refine Aa (H _ hm) ?_;simp only[go_sem,seval];refine⟨by omega,?_⟩;rw[w64 (n:=(x:Int)+1) (by unfold fit;omega)];exact Au (by simp[An])
  ·simp only[go_sem,seval,h]
 ·exact Au (by simp[An])
theorem Avw(t:Tm):TOk t->Con 22 [.agg true (tv t),.agg true (tv t)] (.bool true):=by
 induction t using Tm.ind with
 |h k i j n l ih=>
  intro hok;cases hok with
  |mk _ _ _ _ _ f1 f2 f3 f4 hb hl=>
  rw[Ak];have hT:=Av3 (l.map tv) (by simpa using hb) (fun r hr=>by obtain⟨t,_,rfl⟩:=List.mem_map.1 hr;exact Ae t) (fun r hr=>by obtain⟨t,ht,rfl⟩:=List.mem_map.1 hr;exact ih t ht (hl t ht));generalize l.map tv=rows at hT;refine Al mixed Tryz.func22 tr22 ?_;simp only[go_sem,seval];refine Aa hT ?_;simp only[go_sem,seval]
open Go Go.RowKit
abbrev By:=List UInt8
structure Tok where
 k:Nat
 w:By
 p:Nat
 deriving Inhabited
def Ex(t:Tok):List SV:=[.int .i64 t.k,.str (bs t.w),.int .i64 t.p]
def Ja(n:Nat):Bool:=(decide (97<=n) && decide (n<=122)) || (decide (65<=n) && decide (n<=90))
def Ps(n:Nat):Bool:=decide (48<=n) && decide (n<=57)
def Ly(c:UInt8):Bool:=Ja c.toNat || Ps c.toNat
def Hl:Nat->Nat->By->Option (List Tok)
 |0,_,_=>none
 |_+1,_,[]=>some []
 |f+1,p,c::r=>
  if c.toNat=32 then Hl f (p+1) r
  else if c.toNat=40 then (Hl f (p+1) r).map fun l=>⟨1,[c],p⟩::l
  else if c.toNat=41 then (Hl f (p+1) r).map fun l=>⟨2,[c],p⟩::l
  else if Ja c.toNat=true then
   if (r.takeWhile Ly).length<20 then (Hl f (p+1+(r.takeWhile Ly).length) (r.dropWhile Ly)).map fun l=>⟨3,c::r.takeWhile Ly,p⟩::l else none
  else if c.toNat=48 then
   match r with
   |[]=>some [⟨4,[c],p⟩]
   |d::_=>if Ly d=true then none else (Hl f (p+1) r).map fun l=>⟨4,[c],p⟩::l
  else none
inductive LE where
 |z|i|j|si|sj|m
 deriving DecidableEq,Inhabited
def LE.ev(i j:Nat):LE->Nat
 |.z=>0
 |.i=>i
 |.j=>j
 |.si=>i+1
 |.sj=>j+1
 |.m=>max i j
inductive LT where
 |var (n:Nat)
 |nd (k:Nat) (a b:LE) (n:Nat) (l:List LT)
 deriving Inhabited
def Jb:Tok->Option LE
 |⟨k,w,_⟩=>if k=4 then (if w==[48] then some .z else none) else if k=3 then (if w==[105] then some .i else if w==[106] then some .j else none) else none
def Oe{α:Type}(x:α):List Tok->Option (α×List Tok)
 |⟨k,_,_⟩::r=>if k=2 then some (x,r) else none
 |[]=>none
def Pb:List Tok->Option (LE×List Tok)
 |[]=>none
 |t::r=>
  if t.k=1 then
   match r with
   |u::x::r=>
    if u.k=3 then
     if u.w==[115,117,99] then (match Jb x with
      |some .i=>Oe .si r
      |some .j=>Oe .sj r
      |_=>none)
     else if u.w==[109,97,120] then (match r with
      |y::r=>(match Jb x,Jb y with
       |some .i,some .j=>Oe .m r
       |_,_=>none)
      |[]=>none)
     else none
    else none
   |_=>none
  else (Jb t).map fun e=>(e,r)
def Jt(w:By):List By->Option Nat
 |[]=>none
 |n::l=>if n==w then some 0 else (Jt w l).map (·+1)
def symsL:List By:=[[117,105,112],[102,117,110,101,120,116],[115,121,109],[116,114,97,110,115],[116,114],[104,101,116],[116,121,112],[116,114,104],[104,112],[104,50,101],[101,50,104],[114,112],[99,112,105],[99,115,105,103],[99,108,97,109],[99,97,112,112],[99,112,97,105,114],[99,102,115,116],[99,115,110,100],[99,101,113],[99,114,101,102,108]]
def arN(n:Nat):Nat:=[5,5,4,6,4,4,5,4,5,4,4,6,6,6,9,12,12,9,9,9,6].getD (n-1) 0
def Rh:List (By×Nat×By):=
 [([115,111,114,116],1,[76]),([80,105],13,[120,116,98]),([76,97,109],14,[120,116,98]),([65,112,112],15,[116,116]),([83,105,103],16,[120,116,98]),([80,97,105,114],17,[120,116,98,116,116]),([70,115,116],18,[116]),([83,110,100],19,[116]),([69,113],20,[116,116,116]),([82,101,102,108],21,[116,116]),([74],22,[116,116,121,101,80,116,116,116]),([117,115,101],23,[83,76,77])]
def Rg(w:By):List (By×Nat×By)->Option (Nat×By)
 |[]=>none
 |(v,k,s)::l=>if v==w then some (k,s) else Rg w l
abbrev TF:=List By->List Tok->Option (LT×List Tok)
def Mt(T:TF)(ns:List By):Nat->List Tok->Option (List LT×List Tok)
 |0,r=>some ([],r)
 |m+1,r=>match T ns r with
  |some (t,r)=>(match Mt T ns m r with
   |some (l,r)=>some (t::l,r)
   |none=>none)
  |none=>none
structure Acc where
 a:LE:=.z
 b:LE:=.z
 n:Nat:=0
 bd:List By:=[]
 l:List LT:=[]
 deriving Inhabited
def Kv(T:TF)(ns:List By)(k:Nat)(c:UInt8)(x:Acc)(r:List Tok):Option (Acc×List Tok):=
 if c.toNat=76 then (Pb r).map fun p=>({ x with a:=p.1 },p.2)
 else if c.toNat=77 then (match Pb r with
  |some (b,r)=>(Mt T ns (arN x.n) r).map fun p=>({ x with b:=b,l:=p.1 },p.2)
  |none=>none)
 else if c.toNat=83 then (match r with
  |⟨k,w,_⟩::r=>if k=3 then (Jt w symsL).map fun n=>({ x with n:=n+1 },r) else none
  |[]=>none)
 else if c.toNat=116 then (T ns r).map fun p=>({ x with l:=x.l++[p.1] },p.2)
 else if c.toNat=98\/c.toNat=80 then (if ns.isEmpty then none else (T (x.bd++ns) r).map fun p=>({ x with l:=x.l++[p.1] },p.2))
 else (match r with
  |⟨k,w,_⟩::r=>if k=3 then some ({ x with bd:=w::x.bd },r) else none
  |[]=>none)
def Fe(T:TF)(ns:List By)(k:Nat):By->Acc->List Tok->Option (LT×List Tok)
 |[],x,r=>Oe (.nd k x.a x.b x.n x.l) r
 |c::s,x,r=>match Kv T ns k c x r with
  |some (x,r)=>Fe T ns k s x r
  |none=>none
def Io:Nat->TF
 |0,_,_=>none
 |f+1,ns,r=>match r with
  |[]=>none
  |t::r=>if t.k=3 then (Jt t.w ns).map fun n=>(.var n,r)
   else if t.k=1 then (match r with
    |[]=>none
    |u::r=>if u.k=3 then (match Rg u.w Rh with
     |some (k,s)=>Fe (Io f) ns k s {} r
     |none=>none) else none)
   else none
structure LS where
 df:Bool
 nm:By
 ps:List LT
 ty:LT
 bd:Option LT
 deriving Inhabited
def Zo(f:Nat):Nat->List By->List LT->List Tok->Option (List By×List LT×List Tok)
 |0,_,_,_=>none
 |g+1,ns,ps,r=>match r with
  |[]=>none
  |t::r=>if t.k=1 then (match r with
    |u::r=>if u.k=3 then (match Io f ns r with
     |some (a,r)=>(match Oe () r with
      |some (_,r)=>Zo f g (u.w::ns) (ps++[a]) r
      |none=>none)
     |none=>none) else none
    |[]=>none)
   else if t.k=2 then some (ns,ps,r) else none
def Qr(tx:By):Option LS:=
 match Hl (tx.length+1) 0 tx with
 |some (a::b::c::d::r)=>
  if a.k=1/\b.k=3/\c.k=3/\d.k=1 then
   match Zo r.length r.length [] [] r with
   |some (ns,ps,r)=>(match Io r.length ns r with
    |some (ty,r)=>if b.w==[100,101,102] then (match Io r.length ns r with
      |some (bd,r)=>(match Oe () r with
       |some (_,[])=>some ⟨true,c.w,ps,ty,some bd⟩
       |_=>none)
      |none=>none)
     else (match Oe () r with
      |some (_,[])=>some ⟨false,c.w,ps,ty,none⟩
      |_=>none)
    |none=>none)
   |none=>none
  else none
 |_=>none
def Il:Nat->List Tok->Option (Nat×List Tok)
 |_,[]=>none
 |d,t::r=>
  if t.k=1 then Il (d+1) r
  else if t.k=2 then (match d with
   |0=>none
   |1=>some (t.p+t.w.length,r)
   |d+1=>Il d r)
  else if d=0 then some (t.p+t.w.length,r) else Il d r
def Abj(ns:List By)(tx:By):Option LT:=
 match Hl (tx.length+1) 0 tx with
 |some l=>(match Io l.length ns l with
  |some (t,[])=>some t
  |_=>none)
 |none=>none
def Kx(tx:By)(ns:List By):List Tok->Option (LT×List Tok)
 |[]=>none
 |t::r=>match Il 0 (t::r) with
  |some (e,r)=>if t.p<=e/\e<=tx.length then (Abj ns ((tx.drop t.p).take (e-t.p))).map fun x=>(x,r) else none
  |none=>none
def Wm(tx:By):Nat->List By->List LT->List Tok->Option (List By×List LT×List Tok)
 |0,_,_,_=>none
 |g+1,ns,ps,r=>match r with
  |[]=>none
  |t::r=>if t.k=1 then (match r with
    |u::r=>(match Kx tx ns r with
     |some (a,_::r)=>Wm tx g (u.w::ns) (ps++[a]) r
     |_=>none)
    |[]=>none)
   else some (ns,ps,r)
def Aax(tx:By):Option LS:=
 match Hl (tx.length+1) 0 tx with
 |some (_::b::c::_::r)=>
   match Wm tx r.length [] [] r with
   |some (ns,ps,r)=>(match Kx tx ns r with
    |some (ty,r)=>if b.w==[100,101,102] then (match Kx tx ns r with
      |some (bd,_)=>some ⟨true,c.w,ps,ty,some bd⟩
      |none=>none)
     else some ⟨false,c.w,ps,ty,none⟩
    |none=>none)
   |none=>none
 |_=>none
end Go.Proofs.YtdpigpopcbjkmaaGreatDoor.Abs
