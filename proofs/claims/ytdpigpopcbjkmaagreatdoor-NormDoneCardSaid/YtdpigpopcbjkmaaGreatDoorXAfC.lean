import Derived.Test.YtdpigpopcbjkmaaGreatDoorXEv
import Derived.Test.YtdpigpopcbjkmaaGreatDoorProg
import Derived.KernelRfl
set_option linter.unusedSimpArgs false
set_option linter.unusedVariables false
set_option maxRecDepth 20000
set_option maxHeartbeats 4000000
namespace Go.Proofs.YtdpigpopcbjkmaaGreatDoor.Abs
open Go Go.Proofs Go.Proofs.YtdpigpopcbjkmaaGreatDoor
def af60:AF:=⟨31,[(.t 4)],(sqF [oP 4 (.mv (cI 0))] (.seq (sqF [oP 5 (mT 0)] (.blk 0 (.seq (sqF [oP 7 (.bin 0 .eql (.t 5) (cI 3)),oP 6 (mT 7)] (.cond (.t 6) .skip (sqF [oP 8 (.bin 0 .eql (.t 5) (cI 5)),oP 6 (mT 8)] (.cond (.t 6) .skip (sqF [oP 9 (.bin 0 .eql (.t 5) (cI 6)),oP 6 (mT 9)] (.cond (.t 6) .skip (sqF [oP 10 (.bin 0 .eql (.t 5) (cI 7)),oP 6 (mT 10)] (.cond (.t 6) .skip (sqF [oP 11 (.bin 0 .eql (.t 5) (cI 8)),oP 6 (mT 11)] (.cond (.t 6) .skip (sqF [oP 12 (.bin 0 .eql (.t 5) (cI 9)),oP 6 (mT 12)] (.cond (.t 6) .skip (sqF [oP 13 (.bin 0 .eql (.t 5) (cI 13)),oP 6 (mT 13)] (.cond (.t 6) .skip (sqF [oP 14 (.bin 0 .eql (.t 5) (cI 14)),oP 6 (mT 14)] (.cond (.t 6) .skip (sqF [oP 15 (.bin 0 .eql (.t 5) (cI 16)),oP 6 (mT 15)] (.cond (.t 6) .skip (rgF [oP 16 (.bin 0 .eql (.t 5) (cI 17)),oP 6 (mT 16)]))))))))))))))))))) (.cond (.t 6) (sqF [oP 17 (mT 1),oP 18 (.bin 0 .eql (.t 17) (cI 1))] (.cond (.t 18) (sqF [oP 4 (.mv (cI 1))] .ret) .skip)) (sqF [oP 20 (.bin 0 .eql (.t 5) (cI 4)),oP 19 (mT 20)] (.cond (.t 19) (sqF [oP 21 (mT 1),oP 22 (.bin 0 .eql (.t 21) (cI 1)),oP 23 (mT 22),oG 24 23 false 0 (mT 1),oG 25 23 false 0 (.bin 0 .eql (.t 24) (cI 2)),oP 26 (.pick (.t 23) (cB true) (.t 25))] (.cond (.t 26) (sqF [oP 4 (.mv (cI 1))] .ret) .skip)) (sqF [oP 28 (.bin 0 .eql (.t 5) (cI 22)),oP 27 (mT 28)] (.cond (.t 27) (sqF [oP 29 (mT 1),oP 30 (.bin 0 .eql (.t 29) (cI 2))] (.cond (.t 30) (sqF [oP 4 (.mv (cI 2))] .ret) .skip)) .skip)))))))) (sqF [oP 4 (.mv (cI 0))] .ret)))⟩
theorem tr60:trF Tryz.prog Tryz.f60=some af60:=by kernel_rfl
attribute [go_sem] af60
end Go.Proofs.YtdpigpopcbjkmaaGreatDoor.Abs
