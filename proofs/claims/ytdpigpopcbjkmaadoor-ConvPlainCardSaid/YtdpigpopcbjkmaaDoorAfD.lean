/- The abstract code of functions, printed by program; that it is the translation of the model's code is decided by the kernel. -/
import Derived.Test.YtdpigpopcbjkmaaDoorDo
import Derived.Test.YtdpigpopcbjkmaaDoorProg
import Derived.KernelRfl
namespace Go.Proofs.YtdpigpopcbjkmaaDoor.Abs
open Go Go.Proofs Go.Proofs.YtdpigpopcbjkmaaDoor
def a7_0 : AC := .reg [⟨(some 2), (.box (.t 0)), none, 0, false, []⟩,
    ⟨(some 4), (.new [(.int .i64 0), (.int .i64 0), (.int .i64 0), (.int .i64 0), .nils]), none, 0, false, []⟩,
    ⟨(some 5), (.new [(.int .i64 0)]), none, 0, false, []⟩] false
def a7_1 : AC := .reg [⟨(some 6), (.load true 5 (.t 2)), none, 0, false, []⟩,
    ⟨(some 7), (.call 15 [(.t 6)]), none, 0, false, []⟩,
    ⟨(some 8), (.un .not (.t 7)), none, 0, false, []⟩] false
def a7_2 : AC := .reg [⟨(some 9), (.build [(.int .i64 0), (.int .i64 0), (.int .i64 0), (.int .i64 0), .nils] []), none, 0, false, []⟩,
    ⟨none, (.store 5 (.t 4) (.t 9)), none, 0, false, []⟩,
    ⟨none, (.store 1 (.t 5) (.c (.int .i64 1))), none, 0, false, []⟩] false
def a7_3 : AC := .seq a7_2 .ret
def a7_4 : AC := .cond (.t 8) a7_3 .skip
def a7_5 : AC := .seq a7_1 a7_4
def a7_6 : AC := .reg [⟨(some 10), (.mv (.c (.bool true))), none, 0, false, []⟩,
    ⟨none, (.un .not (.t 10)), none, 0, false, []⟩,
    ⟨(some 10), (.mv (.c .junk)), none, 0, false, []⟩] false
def a7_7 : AC := .reg [⟨(some 11), (.mv (.t 1)), none, 0, false, []⟩,
    ⟨(some 12), (.call 19 [(.t 11)]), none, 1, true, []⟩,
    ⟨(some 13), (.hcall 18 [(.t 12)]), none, 2, true, []⟩,
    ⟨(some 14), (.load true 5 (.t 2)), none, 3, false, [1, 2]⟩,
    ⟨(some 15), (.hcall 21 [(.t 14), (.c .nilp)]), none, 4, false, [4]⟩,
    ⟨(some 16), (.hcall 20 [(.t 13), (.t 15), (.c (.int .i64 0))]), none, 5, false, [5]⟩,
    ⟨none, (.store 5 (.t 4) (.t 16)), none, 6, false, []⟩,
    ⟨none, (.store 1 (.t 5) (.c (.int .i64 0))), none, 7, false, []⟩] true
def a7_8 : AC := .seq a7_7 .ret
def a7_9 : AC := .seq a7_6 a7_8
def a7_10 : AC := .seq a7_5 a7_9
def a7_11 : AC := .seq a7_0 a7_10
def af7 : AF := { ntmps := 17, res := [(.cell 4 true 5), (.cell 5 false 1)], body := a7_11 }
theorem tr7 : trDF Tryd.prog Tryd.f7 = some (af7, 10, 16, 2) := by kernel_rfl
attribute [go_sem] af7 a7_0 a7_1 a7_2 a7_3 a7_4 a7_5 a7_6 a7_7 a7_8 a7_9 a7_10 a7_11
def a8_0 : AC := .reg [⟨(some 2), (.box (.t 0)), none, 0, false, []⟩,
    ⟨(some 4), (.new [(.int .i64 0), (.int .i64 0), (.int .i64 0), (.int .i64 0), .nils]), none, 0, false, []⟩,
    ⟨(some 5), (.new [(.int .i64 0)]), none, 0, false, []⟩] false
def a8_1 : AC := .reg [⟨(some 7), (.load true 5 (.t 2)), none, 0, false, []⟩,
    ⟨(some 8), (.call 15 [(.t 7)]), none, 0, false, []⟩,
    ⟨(some 9), (.un .not (.t 8)), none, 0, false, []⟩] false
def a8_2 : AC := .reg [⟨(some 10), (.build [(.int .i64 0), (.int .i64 0), (.int .i64 0), (.int .i64 0), .nils] []), none, 0, false, []⟩,
    ⟨none, (.store 5 (.t 4) (.t 10)), none, 0, false, []⟩,
    ⟨none, (.store 1 (.t 5) (.c (.int .i64 1))), none, 0, false, []⟩] false
def a8_3 : AC := .seq a8_2 .ret
def a8_4 : AC := .cond (.t 9) a8_3 .skip
def a8_5 : AC := .seq a8_1 a8_4
def a8_6 : AC := .reg [⟨(some 11), (.mv (.c (.bool true))), none, 0, false, []⟩,
    ⟨none, (.un .not (.t 11)), none, 0, false, []⟩,
    ⟨(some 11), (.mv (.c .junk)), none, 0, false, []⟩] false
def a8_7 : AC := .reg [⟨(some 12), (.mv (.t 1)), none, 0, false, []⟩,
    ⟨(some 13), (.call 19 [(.t 12)]), none, 0, false, []⟩,
    ⟨(some 14), (.hcall 18 [(.t 13)]), none, 0, false, []⟩,
    ⟨(some 6), (.mv (.t 14)), none, 0, false, []⟩] false
def a8_8 : AC := .reg [⟨(some 15), (.mv (.t 6)), none, 0, false, []⟩,
    ⟨(some 16), (.mv (.t 6)), none, 0, false, []⟩,
    ⟨(some 17), (.load true 5 (.t 2)), none, 0, false, []⟩,
    ⟨(some 18), (.hcall 21 [(.t 17), (.c .nilp)]), none, 0, false, []⟩,
    ⟨(some 19), (.hcall 24 [(.t 16), (.t 18)]), none, 0, false, []⟩,
    ⟨(some 20), (.hcall 23 [(.t 15), (.t 19), (.c (.int .i64 0))]), none, 0, false, []⟩,
    ⟨none, (.store 5 (.t 4) (.t 20)), none, 0, false, []⟩,
    ⟨none, (.store 1 (.t 5) (.c (.int .i64 0))), none, 0, false, []⟩] false
def a8_9 : AC := .seq a8_8 .ret
def a8_10 : AC := .seq a8_7 a8_9
def a8_11 : AC := .seq a8_6 a8_10
def a8_12 : AC := .seq a8_5 a8_11
def a8_13 : AC := .seq a8_0 a8_12
def af8 : AF := { ntmps := 21, res := [(.cell 4 true 5), (.cell 5 false 1)], body := a8_13 }
theorem tr8 : trDF Tryd.prog Tryd.f8 = some (af8, 11, 22, 2) := by kernel_rfl
attribute [go_sem] af8 a8_0 a8_1 a8_2 a8_3 a8_4 a8_5 a8_6 a8_7 a8_8 a8_9 a8_10 a8_11 a8_12 a8_13
def a11_0 : AC := .reg [⟨(some 3), (.box (.t 0)), none, 0, false, []⟩,
    ⟨(some 4), (.box (.t 1)), none, 0, false, []⟩,
    ⟨(some 6), (.new [(.bool false)]), none, 0, false, []⟩,
    ⟨(some 7), (.new [(.int .i64 0)]), none, 0, false, []⟩] false
def a11_1 : AC := .reg [⟨(some 9), (.load true 5 (.t 3)), none, 0, false, []⟩,
    ⟨(some 10), (.call 15 [(.t 9)]), none, 0, false, []⟩,
    ⟨(some 11), (.un .not (.t 10)), none, 0, false, []⟩,
    ⟨(some 12), (.mv (.t 11)), none, 0, false, []⟩,
    ⟨(some 13), (.load true 5 (.t 4)), (some (12, false)), 0, false, []⟩,
    ⟨(some 14), (.call 15 [(.t 13)]), (some (12, false)), 0, false, []⟩,
    ⟨(some 15), (.un .not (.t 14)), (some (12, false)), 0, false, []⟩,
    ⟨(some 16), (.pick (.t 12) (.c (.bool true)) (.t 15)), none, 0, false, []⟩] false
def a11_2 : AC := .reg [⟨none, (.store 1 (.t 6) (.c (.bool false))), none, 0, false, []⟩,
    ⟨none, (.store 1 (.t 7) (.c (.int .i64 1))), none, 0, false, []⟩] false
def a11_3 : AC := .seq a11_2 .ret
def a11_4 : AC := .cond (.t 16) a11_3 .skip
def a11_5 : AC := .seq a11_1 a11_4
def a11_6 : AC := .reg [⟨(some 17), (.mv (.c (.bool true))), none, 0, false, []⟩,
    ⟨none, (.un .not (.t 17)), none, 0, false, []⟩,
    ⟨(some 17), (.mv (.c .junk)), none, 0, false, []⟩] false
def a11_7 : AC := .reg [⟨(some 18), (.mv (.t 2)), none, 0, false, []⟩,
    ⟨(some 19), (.call 19 [(.t 18)]), none, 0, false, []⟩,
    ⟨(some 8), (.mv (.t 19)), none, 0, false, []⟩] false
def a11_8 : AC := .reg [⟨(some 20), (.mv (.t 8)), none, 0, false, []⟩,
    ⟨(some 21), (.hcall 18 [(.t 20)]), none, 1, true, []⟩,
    ⟨(some 22), (.load true 5 (.t 3)), none, 2, false, [1]⟩,
    ⟨(some 23), (.hcall 21 [(.t 22), (.c .nilp)]), none, 3, true, []⟩,
    ⟨(some 24), (.load true 5 (.t 4)), none, 4, false, [1, 3]⟩,
    ⟨(some 25), (.hcall 21 [(.t 24), (.c .nilp)]), none, 5, false, []⟩,
    ⟨(some 26), (.mv (.t 8)), none, 6, false, []⟩,
    ⟨(some 27), (.hcall 27 [(.t 21), (.t 23), (.t 25), (.c (.int .i64 0)), (.t 26)]), none, 7, false, [7]⟩,
    ⟨none, (.store 1 (.t 6) (.t 27)), none, 8, false, []⟩,
    ⟨none, (.store 1 (.t 7) (.c (.int .i64 0))), none, 9, false, []⟩] true
def a11_9 : AC := .seq a11_8 .ret
def a11_10 : AC := .seq a11_7 a11_9
def a11_11 : AC := .seq a11_6 a11_10
def a11_12 : AC := .seq a11_5 a11_11
def a11_13 : AC := .seq a11_0 a11_12
def af11 : AF := { ntmps := 28, res := [(.cell 6 false 1), (.cell 7 false 1)], body := a11_13 }
theorem tr11 : trDF Tryd.prog Tryd.f11 = some (af11, 17, 26, 2) := by kernel_rfl
attribute [go_sem] af11 a11_0 a11_1 a11_2 a11_3 a11_4 a11_5 a11_6 a11_7 a11_8 a11_9 a11_10 a11_11 a11_12 a11_13
def a43_0 : AC := .reg [⟨(some 10), (.new [(.bool false)]), none, 0, false, []⟩,
    ⟨(some 11), (.new [(.bool false)]), none, 0, false, []⟩] false
def a43_1 : AC := .reg [⟨(some 12), (.mv (.c (.bool true))), none, 0, false, []⟩,
    ⟨none, (.un .not (.t 12)), none, 0, false, []⟩,
    ⟨(some 12), (.mv (.c .junk)), none, 0, false, []⟩] false
def a43_2 : AC := .reg [⟨(some 13), (.mv (.t 0)), none, 0, false, []⟩,
    ⟨(some 14), (.mv (.t 4)), none, 0, false, []⟩,
    ⟨(some 15), (.hcall 44 [(.t 13), (.t 14)]), none, 0, false, []⟩] false
def a43_3 : AC := .reg [⟨(some 16), (.mv (.t 0)), none, 0, false, []⟩,
    ⟨(some 17), (.mv (.t 1)), none, 0, false, []⟩,
    ⟨(some 18), (.mv (.t 2)), none, 0, false, []⟩,
    ⟨(some 19), (.mv (.t 3)), none, 0, false, []⟩,
    ⟨(some 20), (.hcall 62 [(.t 16), (.t 17), (.t 18), (.t 19), (.c (.bool true))]), none, 0, false, []⟩,
    ⟨none, (.store 1 (.t 10) (.t 20)), none, 0, false, []⟩,
    ⟨none, (.store 1 (.t 11) (.c (.bool true))), none, 0, false, []⟩] false
def a43_4 : AC := .seq a43_3 .ret
def a43_5 : AC := .seq a43_2 a43_4
def a43_6 : AC := .seq a43_1 a43_5
def a43_7 : AC := .seq a43_0 a43_6
def af43 : AF := { ntmps := 21, res := [(.cell 10 false 1), (.cell 11 false 1)], body := a43_7 }
theorem tr43 : trDF Tryd.prog Tryd.f43 = some (af43, 12, 61, 2) := by kernel_rfl
attribute [go_sem] af43 a43_0 a43_1 a43_2 a43_3 a43_4 a43_5 a43_6 a43_7
def a77_0 : AC := .reg [⟨(some 4), (.box (.t 0)), none, 0, false, []⟩,
    ⟨(some 8), (.new [(.bool false)]), none, 0, false, []⟩] false
def a77_1 : AC := .reg [⟨(some 9), (.load false 1 (.t 4)), none, 0, false, []⟩,
    ⟨(some 10), (.nilck (.t 9)), none, 0, false, []⟩,
    ⟨(some 11), (.fad 3 (.t 10)), none, 0, false, []⟩,
    ⟨(some 12), (.load false 1 (.t 11)), none, 0, false, []⟩,
    ⟨(some 13), (.bin 0 .gtr (.t 12) (.c (.int .i64 0))), none, 0, false, []⟩] false
def a77_2 : AC := .reg [⟨(some 14), (.load false 1 (.t 4)), none, 0, false, []⟩,
    ⟨(some 15), (.mv (.t 1)), none, 0, false, []⟩,
    ⟨(some 16), (.mv (.t 2)), none, 0, false, []⟩,
    ⟨(some 17), (.mv (.t 3)), none, 0, false, []⟩,
    ⟨(some 18), (.hcall 82 [(.t 14), (.t 15), (.t 16), (.t 17), (.c (.bool false))]), none, 0, false, []⟩,
    ⟨none, (.store 1 (.t 8) (.t 18)), none, 0, false, []⟩] false
def a77_3 : AC := .seq a77_2 .ret
def a77_4 : AC := .cond (.t 13) a77_3 .skip
def a77_5 : AC := .seq a77_1 a77_4
def a77_6 : AC := .reg [⟨(some 19), (.load false 1 (.t 4)), none, 0, false, []⟩,
    ⟨(some 20), (.nilck (.t 19)), none, 0, false, []⟩,
    ⟨(some 21), (.fad 3 (.t 20)), none, 0, false, []⟩,
    ⟨none, (.store 1 (.t 21) (.c (.int .i64 3000))), none, 0, false, []⟩] false
def a77_7 : AC := .reg [⟨(some 22), (.mv (.c (.bool true))), none, 0, false, []⟩,
    ⟨none, (.un .not (.t 22)), none, 0, false, []⟩,
    ⟨(some 22), (.mv (.c .junk)), none, 0, false, []⟩] false
def a77_8 : AC := .reg [⟨(some 23), (.load false 1 (.t 4)), none, 0, false, []⟩,
    ⟨(some 24), (.mv (.t 1)), none, 0, false, []⟩,
    ⟨(some 25), (.mv (.t 2)), none, 0, false, []⟩,
    ⟨(some 26), (.mv (.t 3)), none, 0, false, []⟩,
    ⟨(some 27), (.hcall 82 [(.t 23), (.t 24), (.t 25), (.t 26), (.c (.bool false))]), none, 0, false, []⟩,
    ⟨none, (.store 1 (.t 8) (.t 27)), none, 0, false, []⟩] false
def a77_9 : AC := .seq a77_8 .ret
def a77_10 : AC := .seq a77_7 a77_9
def a77_11 : AC := .seq a77_6 a77_10
def a77_12 : AC := .seq a77_5 a77_11
def a77_13 : AC := .seq a77_0 a77_12
def af77 : AF := { ntmps := 28, res := [(.cell 8 false 1)], body := a77_13 }
theorem tr77 : trDF Tryd.prog Tryd.f77 = some (af77, 22, 84, 2) := by kernel_rfl
attribute [go_sem] af77 a77_0 a77_1 a77_2 a77_3 a77_4 a77_5 a77_6 a77_7 a77_8 a77_9 a77_10 a77_11 a77_12 a77_13
end Go.Proofs.YtdpigpopcbjkmaaDoor.Abs
