/- The abstract code of functions, printed by program; that it is the translation of the model's code is decided by the kernel. -/
import Derived.Test.YtdpigpopcbjkmaaDoorEv
import Derived.Test.YtdpigpopcbjkmaaDoorProg
import Derived.KernelRfl
namespace Go.Proofs.YtdpigpopcbjkmaaDoor.Abs
open Go Go.Proofs Go.Proofs.YtdpigpopcbjkmaaDoor
def a18_0 : AC := .reg [⟨(some 2), (.mv (.c .nilp)), none, 0, false, []⟩] false
def a18_1 : AC := .reg [⟨(some 3), (.mv (.t 0)), none, 0, false, []⟩,
    ⟨(some 4), .mkmap, none, 0, false, []⟩,
    ⟨(some 5), (.build [(.int .i64 0), (.int .i64 0), (.int .i64 0), (.int .i64 0), .nilm] [(1, (1, (.t 3))), (4, (1, (.t 4)))]), none, 0, false, []⟩,
    ⟨(some 6), (.boxg (.t 5)), none, 0, false, []⟩,
    ⟨(some 2), (.mv (.t 6)), none, 0, false, []⟩] false
def a18_2 : AC := .seq a18_1 .ret
def a18_3 : AC := .seq a18_0 a18_2
def af18 : AF := { ntmps := 7, res := [(.t 2)], body := a18_3 }
theorem tr18 : trF Tryd.prog Tryd.f18 = some af18 := by kernel_rfl
attribute [go_sem] af18 a18_0 a18_1 a18_2 a18_3
def a21_0 : AC := .reg [⟨(some 2), (.box (.t 0)), none, 0, false, []⟩,
    ⟨(some 4), (.mv (.c .nilp)), none, 0, false, []⟩] false
def a21_1 : AC := .reg [⟨(some 5), (.load true 5 (.t 2)), none, 0, false, []⟩,
    ⟨(some 6), (.mv (.t 1)), none, 0, false, []⟩,
    ⟨(some 7), (.build [(.int .i64 0), (.int .i64 0), (.int .i64 0), (.int .i64 0), .nils, .nilp, (.bool false), .nilp, .nilp] [(0, (5, (.t 5))), (5, (1, (.t 6)))]), none, 0, false, []⟩,
    ⟨(some 8), (.boxg (.t 7)), none, 0, false, []⟩,
    ⟨(some 4), (.mv (.t 8)), none, 0, false, []⟩] false
def a21_2 : AC := .seq a21_1 .ret
def a21_3 : AC := .seq a21_0 a21_2
def af21 : AF := { ntmps := 9, res := [(.t 4)], body := a21_3 }
theorem tr21 : trF Tryd.prog Tryd.f21 = some af21 := by kernel_rfl
attribute [go_sem] af21 a21_0 a21_1 a21_2 a21_3
def a34_0 : AC := .reg [⟨(some 2), (.mv (.t 0)), none, 0, false, []⟩,
    ⟨(some 3), (.hcall 50 [(.t 2)]), none, 0, false, []⟩] false
def a34_1 : AC := .reg [⟨(some 4), (.mv (.t 0)), none, 0, false, []⟩,
    ⟨(some 5), (.nilck (.t 4)), none, 0, false, []⟩,
    ⟨(some 6), (.fad 2 (.t 5)), none, 0, false, []⟩,
    ⟨(some 7), (.load false 1 (.t 6)), none, 0, false, []⟩,
    ⟨(some 8), (.bin 0 .add (.t 7) (.c (.int .i64 1))), none, 0, false, []⟩,
    ⟨(some 9), (.nilck (.t 4)), none, 0, false, []⟩,
    ⟨(some 10), (.fad 2 (.t 9)), none, 0, false, []⟩,
    ⟨none, (.store 1 (.t 10) (.t 8)), none, 0, false, []⟩] false
def a34_2 : AC := .reg [⟨(some 11), (.mv (.t 0)), none, 0, false, []⟩,
    ⟨(some 12), (.nilck (.t 11)), none, 0, false, []⟩,
    ⟨(some 13), (.fad 2 (.t 12)), none, 0, false, []⟩,
    ⟨(some 14), (.load false 1 (.t 13)), none, 0, false, []⟩,
    ⟨(some 15), (.bin 0 .gtr (.t 14) (.c (.int .i64 8000000))), none, 0, false, []⟩] false
def a34_3 : AC := .reg [⟨(some 16), (.build [] []), none, 0, false, []⟩,
    ⟨(some 17), (.ifc 49 (.t 16)), none, 0, false, []⟩,
    ⟨none, (.pan (.t 17)), none, 0, false, []⟩] false
def a34_4 : AC := .cond (.t 15) a34_3 .skip
def a34_5 : AC := .seq a34_2 a34_4
def a34_6 : AC := .seq a34_1 a34_5
def a34_7 : AC := .seq a34_0 a34_6
def af34 : AF := { ntmps := 18, res := [], body := a34_7 }
theorem tr34 : trF Tryd.prog Tryd.f34 = some af34 := by kernel_rfl
attribute [go_sem] af34 a34_0 a34_1 a34_2 a34_3 a34_4 a34_5 a34_6 a34_7
def a35_0 : AC := .reg [⟨(some 4), (.new [(.int .i64 0), (.int .i64 0), (.int .i64 0), (.int .i64 0), .nils]), none, 0, false, []⟩] false
def a35_1 : AC := .reg [⟨(some 5), (.mv (.t 1)), none, 0, false, []⟩,
    ⟨(some 6), (.bin 0 .sub (.t 5) (.c (.int .i64 1))), none, 0, false, []⟩,
    ⟨(some 7), (.mv (.t 0)), none, 0, false, []⟩,
    ⟨(some 8), (.bin 0 .sub (.t 6) (.t 7)), none, 0, false, []⟩,
    ⟨(some 9), (.call 51 [(.t 8)]), none, 0, false, []⟩,
    ⟨none, (.store 5 (.t 4) (.t 9)), none, 0, false, []⟩] false
def a35_2 : AC := .seq a35_1 .ret
def a35_3 : AC := .seq a35_0 a35_2
def af35 : AF := { ntmps := 10, res := [(.cell 4 true 5)], body := a35_3 }
theorem tr35 : trF Tryd.prog Tryd.f35 = some af35 := by kernel_rfl
attribute [go_sem] af35 a35_0 a35_1 a35_2 a35_3
def a37_0 : AC := .reg [⟨(some 6), (.mv (.c .nilp)), none, 0, false, []⟩] false
def a37_1 : AC := .reg [⟨(some 9), (.mv (.t 0)), none, 0, false, []⟩,
    ⟨(some 10), (.nilck (.t 9)), none, 0, false, []⟩,
    ⟨(some 11), (.fad 5 (.t 10)), none, 0, false, []⟩,
    ⟨(some 12), (.load false 1 (.t 11)), none, 0, false, []⟩,
    ⟨(some 7), (.mv (.t 12)), none, 0, false, []⟩] false
def a37_2 : AC := .reg [⟨(some 13), (.mv (.t 2)), none, 0, false, []⟩,
    ⟨(some 14), (.mv (.c (.int .i64 0))), none, 0, false, []⟩] false
def a37_3 : AC := .reg [⟨(some 15), (.bin 0 .lss (.t 14) (.t 13)), none, 0, false, []⟩] false
def a37_4 : AC := .cond (.t 15) .skip (.exit 0)
def a37_5 : AC := .reg [⟨(some 16), (.mv (.t 14)), none, 0, false, []⟩,
    ⟨(some 8), (.mv (.t 16)), none, 0, false, []⟩] false
def a37_6 : AC := .reg [⟨(some 17), (.mv (.t 7)), none, 0, false, []⟩,
    ⟨(some 18), (.mv (.t 1)), none, 0, false, []⟩,
    ⟨(some 19), (.mv (.t 8)), none, 0, false, []⟩,
    ⟨(some 20), (.bin 0 .add (.t 18) (.t 19)), none, 0, false, []⟩,
    ⟨(some 21), (.hcall 53 [(.t 20)]), none, 0, false, []⟩,
    ⟨(some 22), (.call 52 [(.t 17), (.t 21)]), none, 0, false, []⟩,
    ⟨(some 7), (.mv (.t 22)), none, 0, false, []⟩] false
def a37_7 : AC := .seq a37_5 a37_6
def a37_8 : AC := .blk 1 a37_7
def a37_9 : AC := .reg [⟨(some 23), (.bin 0 .add (.t 14) (.c (.int .i64 1))), none, 0, false, []⟩,
    ⟨(some 14), (.mv (.t 23)), none, 0, false, []⟩] false
def a37_10 : AC := .seq a37_8 a37_9
def a37_11 : AC := .seq a37_4 a37_10
def a37_12 : AC := .seq a37_3 a37_11
def a37_13 : AC := .loop a37_12
def a37_14 : AC := .blk 0 a37_13
def a37_15 : AC := .seq a37_2 a37_14
def a37_16 : AC := .reg [⟨(some 24), (.mv (.t 0)), none, 0, false, []⟩,
    ⟨(some 25), (.nilck (.t 24)), none, 0, false, []⟩,
    ⟨(some 26), (.fad 0 (.t 25)), none, 0, false, []⟩,
    ⟨(some 27), (.load true 5 (.t 26)), none, 0, false, []⟩,
    ⟨(some 28), (.mv (.t 7)), none, 0, false, []⟩,
    ⟨(some 29), (.hcall 21 [(.t 27), (.t 28)]), none, 0, false, []⟩,
    ⟨(some 6), (.mv (.t 29)), none, 0, false, []⟩] false
def a37_17 : AC := .seq a37_16 .ret
def a37_18 : AC := .seq a37_15 a37_17
def a37_19 : AC := .seq a37_1 a37_18
def a37_20 : AC := .seq a37_0 a37_19
def af37 : AF := { ntmps := 30, res := [(.t 6)], body := a37_20 }
theorem tr37 : trF Tryd.prog Tryd.f37 = some af37 := by kernel_rfl
attribute [go_sem] af37 a37_0 a37_1 a37_2 a37_3 a37_4 a37_5 a37_6 a37_7 a37_8 a37_9 a37_10 a37_11 a37_12 a37_13 a37_14 a37_15 a37_16 a37_17 a37_18 a37_19 a37_20
def a40_0 : AC := .reg [⟨(some 4), (.mv (.c .nilp)), none, 0, false, []⟩] false
def a40_1 : AC := .reg [⟨(some 5), (.mv (.t 1)), none, 0, false, []⟩,
    ⟨(some 6), (.nilck (.t 5)), none, 0, false, []⟩,
    ⟨(some 7), (.fad 7 (.t 6)), none, 0, false, []⟩,
    ⟨(some 8), (.load false 1 (.t 7)), none, 0, false, []⟩,
    ⟨(some 9), (.bin 2 .eql (.t 8) (.c .nilp)), none, 0, false, []⟩] false
def a40_2 : AC := .reg [⟨(some 10), (.mv (.t 1)), none, 0, false, []⟩,
    ⟨(some 11), (.mv (.t 0)), none, 1, false, []⟩,
    ⟨(some 12), (.mv (.t 1)), none, 2, false, []⟩,
    ⟨(some 13), (.nilck (.t 12)), none, 3, false, []⟩,
    ⟨(some 14), (.fad 0 (.t 13)), none, 4, false, []⟩,
    ⟨(some 15), (.load true 5 (.t 14)), none, 5, false, []⟩,
    ⟨(some 16), (.mv (.t 1)), none, 6, false, []⟩,
    ⟨(some 17), (.nilck (.t 16)), none, 7, false, []⟩,
    ⟨(some 18), (.fad 5 (.t 17)), none, 8, false, []⟩,
    ⟨(some 19), (.load false 1 (.t 18)), none, 9, false, []⟩,
    ⟨(some 20), (.hcall 56 [(.t 11), (.t 15), (.t 19)]), none, 10, false, [10]⟩,
    ⟨(some 21), (.nilck (.t 10)), none, 11, false, []⟩,
    ⟨(some 22), (.fad 7 (.t 21)), none, 12, false, []⟩,
    ⟨none, (.store 1 (.t 22) (.t 20)), none, 13, false, []⟩] true
def a40_3 : AC := .cond (.t 9) a40_2 .skip
def a40_4 : AC := .seq a40_1 a40_3
def a40_5 : AC := .reg [⟨(some 23), (.mv (.t 1)), none, 0, false, []⟩,
    ⟨(some 24), (.nilck (.t 23)), none, 0, false, []⟩,
    ⟨(some 25), (.fad 7 (.t 24)), none, 0, false, []⟩,
    ⟨(some 26), (.load false 1 (.t 25)), none, 0, false, []⟩,
    ⟨(some 4), (.mv (.t 26)), none, 0, false, []⟩] false
def a40_6 : AC := .seq a40_5 .ret
def a40_7 : AC := .seq a40_4 a40_6
def a40_8 : AC := .seq a40_0 a40_7
def af40 : AF := { ntmps := 27, res := [(.t 4)], body := a40_8 }
theorem tr40 : trF Tryd.prog Tryd.f40 = some af40 := by kernel_rfl
attribute [go_sem] af40 a40_0 a40_1 a40_2 a40_3 a40_4 a40_5 a40_6 a40_7 a40_8
def a44_0 : AC := .reg [⟨(some 4), (.mv (.t 0)), none, 0, false, []⟩,
    ⟨(some 5), (.mv (.t 0)), none, 0, false, []⟩,
    ⟨(some 6), (.mv (.t 0)), none, 0, false, []⟩,
    ⟨(some 7), (.mv (.t 1)), none, 0, false, []⟩,
    ⟨(some 8), (.nilck (.t 4)), none, 0, false, []⟩,
    ⟨(some 9), (.fad 0 (.t 8)), none, 0, false, []⟩,
    ⟨none, (.store 1 (.t 9) (.c (.int .i64 0))), none, 0, false, []⟩,
    ⟨(some 10), (.nilck (.t 5)), none, 0, false, []⟩,
    ⟨(some 11), (.fad 1 (.t 10)), none, 0, false, []⟩,
    ⟨none, (.store 1 (.t 11) (.t 7)), none, 0, false, []⟩,
    ⟨(some 12), (.nilck (.t 6)), none, 0, false, []⟩,
    ⟨(some 13), (.fad 2 (.t 12)), none, 0, false, []⟩,
    ⟨none, (.store 1 (.t 13) (.c (.int .i64 0))), none, 0, false, []⟩] false
def af44 : AF := { ntmps := 14, res := [], body := a44_0 }
theorem tr44 : trF Tryd.prog Tryd.f44 = some af44 := by kernel_rfl
attribute [go_sem] af44 a44_0
def a50_0 : AC := .reg [⟨(some 2), (.mv (.t 0)), none, 0, false, []⟩,
    ⟨(some 3), (.nilck (.t 2)), none, 0, false, []⟩,
    ⟨(some 4), (.fad 3 (.t 3)), none, 0, false, []⟩,
    ⟨(some 5), (.load false 1 (.t 4)), none, 0, false, []⟩,
    ⟨(some 6), (.bin 0 .gtr (.t 5) (.c (.int .i64 0))), none, 0, false, []⟩] false
def a50_1 : AC := .reg [⟨(some 7), (.mv (.t 0)), none, 0, false, []⟩,
    ⟨(some 8), (.nilck (.t 7)), none, 0, false, []⟩,
    ⟨(some 9), (.fad 3 (.t 8)), none, 0, false, []⟩,
    ⟨(some 10), (.load false 1 (.t 9)), none, 0, false, []⟩,
    ⟨(some 11), (.bin 0 .sub (.t 10) (.c (.int .i64 1))), none, 0, false, []⟩,
    ⟨(some 12), (.nilck (.t 7)), none, 0, false, []⟩,
    ⟨(some 13), (.fad 3 (.t 12)), none, 0, false, []⟩,
    ⟨none, (.store 1 (.t 13) (.t 11)), none, 0, false, []⟩] false
def a50_2 : AC := .reg [⟨(some 14), (.mv (.t 0)), none, 0, false, []⟩,
    ⟨(some 15), (.nilck (.t 14)), none, 0, false, []⟩,
    ⟨(some 16), (.fad 3 (.t 15)), none, 0, false, []⟩,
    ⟨(some 17), (.load false 1 (.t 16)), none, 0, false, []⟩,
    ⟨(some 18), (.bin 0 .eql (.t 17) (.c (.int .i64 0))), none, 0, false, []⟩] false
def a50_3 : AC := .reg [⟨(some 19), (.build [] []), none, 0, false, []⟩,
    ⟨(some 20), (.ifc 90 (.t 19)), none, 0, false, []⟩,
    ⟨none, (.pan (.t 20)), none, 0, false, []⟩] false
def a50_4 : AC := .cond (.t 18) a50_3 .skip
def a50_5 : AC := .seq a50_2 a50_4
def a50_6 : AC := .seq a50_1 a50_5
def a50_7 : AC := .cond (.t 6) a50_6 .skip
def a50_8 : AC := .seq a50_0 a50_7
def af50 : AF := { ntmps := 21, res := [], body := a50_8 }
theorem tr50 : trF Tryd.prog Tryd.f50 = some af50 := by kernel_rfl
attribute [go_sem] af50 a50_0 a50_1 a50_2 a50_3 a50_4 a50_5 a50_6 a50_7 a50_8
def a52_0 : AC := .reg [⟨(some 4), (.mv (.c .nilp)), none, 0, false, []⟩] false
def a52_1 : AC := .reg [⟨(some 5), (.mv (.t 1)), none, 0, false, []⟩,
    ⟨(some 6), (.mv (.t 0)), none, 0, false, []⟩,
    ⟨(some 7), (.mv (.t 0)), none, 0, false, []⟩,
    ⟨(some 8), (.call 55 [(.t 7)]), none, 0, false, []⟩,
    ⟨(some 9), (.bin 0 .add (.t 8) (.c (.int .i64 1))), none, 0, false, []⟩,
    ⟨(some 10), (.build [.nilp, .nilp, (.int .i64 0)] [(0, (1, (.t 5))), (1, (1, (.t 6))), (2, (1, (.t 9)))]), none, 0, false, []⟩,
    ⟨(some 11), (.box (.t 10)), none, 0, false, []⟩,
    ⟨(some 4), (.mv (.t 11)), none, 0, false, []⟩] false
def a52_2 : AC := .seq a52_1 .ret
def a52_3 : AC := .seq a52_0 a52_2
def af52 : AF := { ntmps := 12, res := [(.t 4)], body := a52_3 }
theorem tr52 : trF Tryd.prog Tryd.f52 = some af52 := by kernel_rfl
attribute [go_sem] af52 a52_0 a52_1 a52_2 a52_3
def a53_0 : AC := .reg [⟨(some 2), (.mv (.c .nilp)), none, 0, false, []⟩] false
def a53_1 : AC := .reg [⟨(some 3), (.mv (.t 0)), none, 0, false, []⟩,
    ⟨(some 4), (.build [(.int .i64 0), (.int .i64 0), (.int .i64 0), (.int .i64 0), (.int .i64 0), .nils] [(0, (1, (.c (.int .i64 2)))), (4, (1, (.t 3)))]), none, 0, false, []⟩,
    ⟨(some 5), (.box (.t 4)), none, 0, false, []⟩,
    ⟨(some 6), (.hcall 67 [(.t 5)]), none, 0, false, []⟩,
    ⟨(some 2), (.mv (.t 6)), none, 0, false, []⟩] false
def a53_2 : AC := .seq a53_1 .ret
def a53_3 : AC := .seq a53_0 a53_2
def af53 : AF := { ntmps := 7, res := [(.t 2)], body := a53_3 }
theorem tr53 : trF Tryd.prog Tryd.f53 = some af53 := by kernel_rfl
attribute [go_sem] af53 a53_0 a53_1 a53_2 a53_3
def a54_0 : AC := .reg [⟨(some 4), (.mv (.c .nilp)), none, 0, false, []⟩] false
def a54_1 : AC := .reg [⟨(some 5), (.mv (.t 1)), none, 0, false, []⟩,
    ⟨(some 6), (.mv (.t 0)), none, 0, false, []⟩,
    ⟨(some 7), (.call 55 [(.t 6)]), none, 0, false, []⟩,
    ⟨(some 8), (.bin 0 .geq (.t 5) (.t 7)), none, 0, false, []⟩] false
def a54_2 : AC := .reg [⟨(some 4), (.mv (.c .nilp)), none, 0, false, []⟩] false
def a54_3 : AC := .seq a54_2 .ret
def a54_4 : AC := .cond (.t 8) a54_3 .skip
def a54_5 : AC := .seq a54_1 a54_4
def a54_6 : AC := .reg [⟨(some 9), (.mv (.t 1)), none, 0, false, []⟩,
    ⟨(some 10), (.bin 0 .gtr (.t 9) (.c (.int .i64 0))), none, 0, false, []⟩] false
def a54_7 : AC := .cond (.t 10) .skip (.exit 0)
def a54_8 : AC := .seq a54_6 a54_7
def a54_9 : AC := .reg [⟨(some 13), (.mv (.t 0)), none, 0, false, []⟩,
    ⟨(some 14), (.nilck (.t 13)), none, 0, false, []⟩,
    ⟨(some 15), (.fad 1 (.t 14)), none, 0, false, []⟩,
    ⟨(some 16), (.load false 1 (.t 15)), none, 0, false, []⟩,
    ⟨(some 0), (.mv (.t 16)), none, 0, false, []⟩] false
def a54_10 : AC := .blk 1 a54_9
def a54_11 : AC := .reg [⟨(some 11), (.mv (.t 1)), none, 0, false, []⟩,
    ⟨(some 12), (.bin 0 .sub (.t 11) (.c (.int .i64 1))), none, 0, false, []⟩,
    ⟨(some 1), (.mv (.t 12)), none, 0, false, []⟩] false
def a54_12 : AC := .seq a54_10 a54_11
def a54_13 : AC := .seq a54_8 a54_12
def a54_14 : AC := .loop a54_13
def a54_15 : AC := .blk 0 a54_14
def a54_16 : AC := .reg [⟨(some 17), (.mv (.t 0)), none, 0, false, []⟩,
    ⟨(some 18), (.nilck (.t 17)), none, 0, false, []⟩,
    ⟨(some 19), (.fad 0 (.t 18)), none, 0, false, []⟩,
    ⟨(some 20), (.load false 1 (.t 19)), none, 0, false, []⟩,
    ⟨(some 4), (.mv (.t 20)), none, 0, false, []⟩] false
def a54_17 : AC := .seq a54_16 .ret
def a54_18 : AC := .seq a54_15 a54_17
def a54_19 : AC := .seq a54_5 a54_18
def a54_20 : AC := .seq a54_0 a54_19
def af54 : AF := { ntmps := 21, res := [(.t 4)], body := a54_20 }
theorem tr54 : trF Tryd.prog Tryd.f54 = some af54 := by kernel_rfl
attribute [go_sem] af54 a54_0 a54_1 a54_2 a54_3 a54_4 a54_5 a54_6 a54_7 a54_8 a54_9 a54_10 a54_11 a54_12 a54_13 a54_14 a54_15 a54_16 a54_17 a54_18 a54_19 a54_20
def a55_0 : AC := .reg [⟨(some 2), (.mv (.c (.int .i64 0))), none, 0, false, []⟩] false
def a55_1 : AC := .reg [⟨(some 3), (.mv (.t 0)), none, 0, false, []⟩,
    ⟨(some 4), (.bin 2 .eql (.t 3) (.c .nilp)), none, 0, false, []⟩] false
def a55_2 : AC := .reg [⟨(some 2), (.mv (.c (.int .i64 0))), none, 0, false, []⟩] false
def a55_3 : AC := .seq a55_2 .ret
def a55_4 : AC := .cond (.t 4) a55_3 .skip
def a55_5 : AC := .seq a55_1 a55_4
def a55_6 : AC := .reg [⟨(some 5), (.mv (.t 0)), none, 0, false, []⟩,
    ⟨(some 6), (.nilck (.t 5)), none, 0, false, []⟩,
    ⟨(some 7), (.fad 2 (.t 6)), none, 0, false, []⟩,
    ⟨(some 8), (.load false 1 (.t 7)), none, 0, false, []⟩,
    ⟨(some 2), (.mv (.t 8)), none, 0, false, []⟩] false
def a55_7 : AC := .seq a55_6 .ret
def a55_8 : AC := .seq a55_5 a55_7
def a55_9 : AC := .seq a55_0 a55_8
def af55 : AF := { ntmps := 9, res := [(.t 2)], body := a55_9 }
theorem tr55 : trF Tryd.prog Tryd.f55 = some af55 := by kernel_rfl
attribute [go_sem] af55 a55_0 a55_1 a55_2 a55_3 a55_4 a55_5 a55_6 a55_7 a55_8 a55_9
def a58_0 : AC := .reg [⟨(some 2), (.mv (.c (.int .i64 0))), none, 0, false, []⟩] false
def a58_1 : AC := .reg [⟨(some 3), (.mv (.t 0)), none, 0, false, []⟩] false
def a58_2 : AC := .reg [⟨(some 5), (.bin 0 .eql (.t 3) (.c (.int .i64 15))), none, 0, false, []⟩,
    ⟨(some 4), (.mv (.t 5)), none, 0, false, []⟩] false
def a58_3 : AC := .reg [⟨(some 6), (.bin 0 .eql (.t 3) (.c (.int .i64 18))), none, 0, false, []⟩,
    ⟨(some 4), (.mv (.t 6)), none, 0, false, []⟩] false
def a58_4 : AC := .reg [⟨(some 7), (.bin 0 .eql (.t 3) (.c (.int .i64 19))), none, 0, false, []⟩,
    ⟨(some 4), (.mv (.t 7)), none, 0, false, []⟩] false
def a58_5 : AC := .cond (.t 4) .skip a58_4
def a58_6 : AC := .seq a58_3 a58_5
def a58_7 : AC := .cond (.t 4) .skip a58_6
def a58_8 : AC := .seq a58_2 a58_7
def a58_9 : AC := .reg [⟨(some 2), (.mv (.c (.int .i64 0))), none, 0, false, []⟩] false
def a58_10 : AC := .seq a58_9 .ret
def a58_11 : AC := .reg [⟨(some 9), (.bin 0 .eql (.t 3) (.c (.int .i64 22))), none, 0, false, []⟩,
    ⟨(some 8), (.mv (.t 9)), none, 0, false, []⟩] false
def a58_12 : AC := .reg [⟨(some 2), (.mv (.c (.int .i64 5))), none, 0, false, []⟩] false
def a58_13 : AC := .seq a58_12 .ret
def a58_14 : AC := .cond (.t 8) a58_13 .skip
def a58_15 : AC := .seq a58_11 a58_14
def a58_16 : AC := .cond (.t 4) a58_10 a58_15
def a58_17 : AC := .seq a58_8 a58_16
def a58_18 : AC := .blk 0 a58_17
def a58_19 : AC := .seq a58_1 a58_18
def a58_20 : AC := .reg [⟨(some 2), (.mv (.c (.int .i64 (-1)))), none, 0, false, []⟩] false
def a58_21 : AC := .seq a58_20 .ret
def a58_22 : AC := .seq a58_19 a58_21
def a58_23 : AC := .seq a58_0 a58_22
def af58 : AF := { ntmps := 10, res := [(.t 2)], body := a58_23 }
theorem tr58 : trF Tryd.prog Tryd.f58 = some af58 := by kernel_rfl
attribute [go_sem] af58 a58_0 a58_1 a58_2 a58_3 a58_4 a58_5 a58_6 a58_7 a58_8 a58_9 a58_10 a58_11 a58_12 a58_13 a58_14 a58_15 a58_16 a58_17 a58_18 a58_19 a58_20 a58_21 a58_22 a58_23
def a59_0 : AC := .reg [⟨(some 2), (.mv (.t 0)), none, 0, false, []⟩,
    ⟨(some 3), (.hcall 50 [(.t 2)]), none, 0, false, []⟩] false
def a59_1 : AC := .reg [⟨(some 4), (.mv (.t 0)), none, 0, false, []⟩,
    ⟨(some 5), (.nilck (.t 4)), none, 1, false, []⟩,
    ⟨(some 6), (.fad 0 (.t 5)), none, 2, false, []⟩,
    ⟨(some 7), (.load false 1 (.t 6)), none, 3, false, []⟩,
    ⟨(some 8), (.mv (.t 0)), none, 4, false, []⟩,
    ⟨(some 9), (.nilck (.t 8)), none, 5, false, []⟩,
    ⟨(some 10), (.fad 1 (.t 9)), none, 6, false, []⟩,
    ⟨(some 11), (.load false 1 (.t 10)), none, 7, false, []⟩,
    ⟨(some 12), (.bin 0 .geq (.t 7) (.t 11)), none, 8, false, []⟩] true
def a59_2 : AC := .reg [⟨(some 13), (.build [] []), none, 0, false, []⟩,
    ⟨(some 14), (.ifc 49 (.t 13)), none, 0, false, []⟩,
    ⟨none, (.pan (.t 14)), none, 0, false, []⟩] false
def a59_3 : AC := .cond (.t 12) a59_2 .skip
def a59_4 : AC := .seq a59_1 a59_3
def a59_5 : AC := .reg [⟨(some 15), (.mv (.t 0)), none, 0, false, []⟩,
    ⟨(some 16), (.nilck (.t 15)), none, 0, false, []⟩,
    ⟨(some 17), (.fad 0 (.t 16)), none, 0, false, []⟩,
    ⟨(some 18), (.load false 1 (.t 17)), none, 0, false, []⟩,
    ⟨(some 19), (.bin 0 .add (.t 18) (.c (.int .i64 1))), none, 0, false, []⟩,
    ⟨(some 20), (.nilck (.t 15)), none, 0, false, []⟩,
    ⟨(some 21), (.fad 0 (.t 20)), none, 0, false, []⟩,
    ⟨none, (.store 1 (.t 21) (.t 19)), none, 0, false, []⟩] false
def a59_6 : AC := .seq a59_4 a59_5
def a59_7 : AC := .seq a59_0 a59_6
def af59 : AF := { ntmps := 22, res := [], body := a59_7 }
theorem tr59 : trF Tryd.prog Tryd.f59 = some af59 := by kernel_rfl
attribute [go_sem] af59 a59_0 a59_1 a59_2 a59_3 a59_4 a59_5 a59_6 a59_7
def a67_0 : AC := .reg [⟨(some 2), (.mv (.c .nilp)), none, 0, false, []⟩] false
def a67_1 : AC := .reg [⟨(some 3), (.mv (.t 0)), none, 0, false, []⟩,
    ⟨(some 4), (.build [(.int .i64 0), (.int .i64 0), (.int .i64 0), (.int .i64 0), .nils, .nilp, (.bool false), .nilp, .nilp] [(6, (1, (.c (.bool true)))), (7, (1, (.t 3)))]), none, 0, false, []⟩,
    ⟨(some 5), (.boxg (.t 4)), none, 0, false, []⟩,
    ⟨(some 2), (.mv (.t 5)), none, 0, false, []⟩] false
def a67_2 : AC := .seq a67_1 .ret
def a67_3 : AC := .seq a67_0 a67_2
def af67 : AF := { ntmps := 6, res := [(.t 2)], body := a67_3 }
theorem tr67 : trF Tryd.prog Tryd.f67 = some af67 := by kernel_rfl
attribute [go_sem] af67 a67_0 a67_1 a67_2 a67_3
def a83_0 : AC := .reg [⟨(some 4), (.mv (.c .nilp)), none, 0, false, []⟩] false
def a83_1 : AC := .reg [⟨(some 5), (.mv (.t 0)), none, 0, false, []⟩,
    ⟨(some 6), (.mv (.t 1)), none, 0, false, []⟩,
    ⟨(some 7), (.hcall 67 [(.t 6)]), none, 0, false, []⟩,
    ⟨(some 8), (.bslice 1 [(.t 7)]), none, 0, false, []⟩,
    ⟨(some 9), (.build [(.int .i64 0), (.int .i64 0), (.int .i64 0), (.int .i64 0), (.int .i64 0), .nils] [(0, (1, (.t 5))), (5, (1, (.t 8)))]), none, 0, false, []⟩,
    ⟨(some 10), (.box (.t 9)), none, 0, false, []⟩,
    ⟨(some 11), (.hcall 67 [(.t 10)]), none, 0, false, []⟩,
    ⟨(some 4), (.mv (.t 11)), none, 0, false, []⟩] false
def a83_2 : AC := .seq a83_1 .ret
def a83_3 : AC := .seq a83_0 a83_2
def af83 : AF := { ntmps := 12, res := [(.t 4)], body := a83_3 }
theorem tr83 : trF Tryd.prog Tryd.f83 = some af83 := by kernel_rfl
attribute [go_sem] af83 a83_0 a83_1 a83_2 a83_3
def a24_0 : AC := .reg [⟨(some 4), (.mv (.c .nilp)), none, 0, false, []⟩] false
def a24_1 : AC := .reg [⟨(some 6), (.mv (.t 1)), none, 0, false, []⟩,
    ⟨(some 7), (.nilck (.t 6)), none, 0, false, []⟩,
    ⟨(some 8), (.fad 8 (.t 7)), none, 0, false, []⟩,
    ⟨(some 9), (.load false 1 (.t 8)), none, 0, false, []⟩,
    ⟨(some 10), (.bin 2 .eql (.t 9) (.c .nilp)), none, 0, false, []⟩] false
def a24_2 : AC := .reg [⟨(some 11), (.mv (.t 0)), none, 0, false, []⟩,
    ⟨(some 12), (.mv (.t 1)), none, 0, false, []⟩,
    ⟨(some 13), (.hcall 40 [(.t 11), (.t 12)]), none, 0, false, []⟩,
    ⟨(some 5), (.mv (.t 13)), none, 0, false, []⟩] false
def a24_3 : AC := .reg [⟨(some 14), (.mv (.t 0)), none, 0, false, []⟩,
    ⟨(some 15), (.mv (.t 5)), none, 0, false, []⟩,
    ⟨(some 16), (.hcall 41 [(.t 14), (.t 15)]), none, 0, false, []⟩,
    ⟨(some 17), (.bin 0 .neq (.t 16) (.c (.int .i64 0))), none, 0, false, []⟩] false
def a24_4 : AC := .cond (.t 17) .skip (.exit 0)
def a24_5 : AC := .seq a24_3 a24_4
def a24_6 : AC := .reg [⟨(some 18), (.mv (.t 0)), none, 0, false, []⟩,
    ⟨(some 19), (.mv (.t 5)), none, 0, false, []⟩,
    ⟨(some 20), (.hcall 42 [(.t 18), (.t 19)]), none, 0, false, []⟩,
    ⟨(some 5), (.mv (.t 20)), none, 0, false, []⟩] false
def a24_7 : AC := .blk 1 a24_6
def a24_8 : AC := .seq a24_5 a24_7
def a24_9 : AC := .loop a24_8
def a24_10 : AC := .blk 0 a24_9
def a24_11 : AC := .reg [⟨(some 21), (.mv (.t 1)), none, 0, false, []⟩,
    ⟨(some 22), (.mv (.t 5)), none, 0, false, []⟩,
    ⟨(some 23), (.nilck (.t 21)), none, 0, false, []⟩,
    ⟨(some 24), (.fad 8 (.t 23)), none, 0, false, []⟩,
    ⟨none, (.store 1 (.t 24) (.t 22)), none, 0, false, []⟩] false
def a24_12 : AC := .seq a24_10 a24_11
def a24_13 : AC := .seq a24_2 a24_12
def a24_14 : AC := .cond (.t 10) a24_13 .skip
def a24_15 : AC := .seq a24_1 a24_14
def a24_16 : AC := .reg [⟨(some 25), (.mv (.t 1)), none, 0, false, []⟩,
    ⟨(some 26), (.nilck (.t 25)), none, 0, false, []⟩,
    ⟨(some 27), (.fad 8 (.t 26)), none, 0, false, []⟩,
    ⟨(some 28), (.load false 1 (.t 27)), none, 0, false, []⟩,
    ⟨(some 4), (.mv (.t 28)), none, 0, false, []⟩] false
def a24_17 : AC := .seq a24_16 .ret
def a24_18 : AC := .seq a24_15 a24_17
def a24_19 : AC := .seq a24_0 a24_18
def af24 : AF := { ntmps := 29, res := [(.t 4)], body := a24_19 }
theorem tr24 : trF Tryd.prog Tryd.f24 = some af24 := by kernel_rfl
attribute [go_sem] af24 a24_0 a24_1 a24_2 a24_3 a24_4 a24_5 a24_6 a24_7 a24_8 a24_9 a24_10 a24_11 a24_12 a24_13 a24_14 a24_15 a24_16 a24_17 a24_18 a24_19
def a39_0 : AC := .reg [⟨(some 6), (.new [(.int .i64 0), (.int .i64 0), (.int .i64 0), (.int .i64 0), .nils]), none, 0, false, []⟩] false
def a39_1 : AC := .reg [⟨(some 7), (.mv (.t 1)), none, 0, false, []⟩,
    ⟨(some 8), (.nilck (.t 7)), none, 0, false, []⟩,
    ⟨(some 9), (.fad 6 (.t 8)), none, 0, false, []⟩,
    ⟨(some 10), (.load false 1 (.t 9)), none, 0, false, []⟩] false
def a39_2 : AC := .reg [⟨(some 11), (.mv (.t 0)), none, 0, false, []⟩,
    ⟨(some 12), (.mv (.t 1)), none, 0, false, []⟩,
    ⟨(some 13), (.nilck (.t 12)), none, 0, false, []⟩,
    ⟨(some 14), (.fad 7 (.t 13)), none, 0, false, []⟩,
    ⟨(some 15), (.load false 1 (.t 14)), none, 0, false, []⟩,
    ⟨(some 16), (.mv (.t 2)), none, 0, false, []⟩,
    ⟨(some 17), (.hcall 23 [(.t 11), (.t 15), (.t 16)]), none, 0, false, []⟩,
    ⟨none, (.store 5 (.t 6) (.t 17)), none, 0, false, []⟩] false
def a39_3 : AC := .seq a39_2 .ret
def a39_4 : AC := .cond (.t 10) a39_3 .skip
def a39_5 : AC := .seq a39_1 a39_4
def a39_6 : AC := .reg [⟨(some 18), (.mv (.t 0)), none, 0, false, []⟩,
    ⟨(some 19), (.mv (.t 1)), none, 1, false, []⟩,
    ⟨(some 20), (.nilck (.t 19)), none, 2, false, []⟩,
    ⟨(some 21), (.fad 0 (.t 20)), none, 3, false, []⟩,
    ⟨(some 22), (.load true 5 (.t 21)), none, 4, false, []⟩,
    ⟨(some 23), (.mv (.t 1)), none, 5, false, []⟩,
    ⟨(some 24), (.nilck (.t 23)), none, 6, false, []⟩,
    ⟨(some 25), (.fad 5 (.t 24)), none, 7, false, []⟩,
    ⟨(some 26), (.load false 1 (.t 25)), none, 8, false, []⟩,
    ⟨(some 27), (.mv (.t 2)), none, 9, false, []⟩,
    ⟨(some 28), (.hcall 38 [(.t 18), (.t 22), (.t 26), (.c (.int .i64 0)), (.t 27)]), none, 10, false, [10]⟩,
    ⟨none, (.store 5 (.t 6) (.t 28)), none, 11, false, []⟩] true
def a39_7 : AC := .seq a39_6 .ret
def a39_8 : AC := .seq a39_5 a39_7
def a39_9 : AC := .seq a39_0 a39_8
def af39 : AF := { ntmps := 29, res := [(.cell 6 true 5)], body := a39_9 }
theorem tr39 : trF Tryd.prog Tryd.f39 = some af39 := by kernel_rfl
attribute [go_sem] af39 a39_0 a39_1 a39_2 a39_3 a39_4 a39_5 a39_6 a39_7 a39_8 a39_9
end Go.Proofs.YtdpigpopcbjkmaaDoor.Abs
