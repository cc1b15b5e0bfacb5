/- The abstract code of functions, printed by program; that it is the translation of the model's code is decided by the kernel. -/
import Derived.Test.YtdpigpopcbjkmaaDoorEv
import Derived.Test.YtdpigpopcbjkmaaDoorProg
import Derived.KernelRfl
namespace Go.Proofs.YtdpigpopcbjkmaaDoor.Abs
open Go Go.Proofs Go.Proofs.YtdpigpopcbjkmaaDoor
def a64_0 : AC := .reg [⟨(some 10), (.new [(.int .i64 0), (.int .i64 0), (.int .i64 0), (.int .i64 0), .nils]), none, 0, false, []⟩] false
def a64_1 : AC := .reg [⟨(some 12), (.mv (.t 0)), none, 0, false, []⟩,
    ⟨(some 13), (.mv (.t 1)), none, 0, false, []⟩,
    ⟨(some 14), (.mv (.t 2)), none, 0, false, []⟩,
    ⟨(some 15), (.mv (.t 3)), none, 0, false, []⟩,
    ⟨(some 16), (.build [(.int .i64 0), (.int .i64 0), (.int .i64 0), (.int .i64 0), .nils] [(0, (1, (.t 12))), (1, (1, (.t 13))), (2, (1, (.t 14))), (3, (1, (.t 15)))]), none, 0, false, []⟩,
    ⟨(some 11), (.new [(.int .i64 0), (.int .i64 0), (.int .i64 0), (.int .i64 0), .nils]), none, 0, false, []⟩,
    ⟨none, (.store 5 (.t 11) (.t 16)), none, 0, false, []⟩] false
def a64_2 : AC := .reg [⟨(some 17), (.mv (.t 4)), none, 0, false, []⟩,
    ⟨(some 18), (.len false (.t 17)), none, 0, false, []⟩,
    ⟨(some 19), (.bin 0 .gtr (.t 18) (.c (.int .i64 0))), none, 0, false, []⟩] false
def a64_3 : AC := .reg [⟨(some 20), (.mv (.t 4)), none, 0, false, []⟩,
    ⟨(some 21), (.app 5 56 (.c .nils) (.t 20)), none, 0, false, []⟩,
    ⟨(some 22), (.fad 4 (.t 11)), none, 0, false, []⟩,
    ⟨none, (.store 1 (.t 22) (.t 21)), none, 0, false, []⟩] false
def a64_4 : AC := .cond (.t 19) a64_3 .skip
def a64_5 : AC := .seq a64_2 a64_4
def a64_6 : AC := .reg [⟨(some 23), (.load true 5 (.t 11)), none, 0, false, []⟩,
    ⟨none, (.store 5 (.t 10) (.t 23)), none, 0, false, []⟩] false
def a64_7 : AC := .seq a64_6 .ret
def a64_8 : AC := .seq a64_5 a64_7
def a64_9 : AC := .seq a64_1 a64_8
def a64_10 : AC := .seq a64_0 a64_9
def af64 : AF := { ntmps := 24, res := [(.cell 10 true 5)], body := a64_10 }
theorem tr64 : trF Tryd.prog Tryd.f64 = some af64 := by kernel_rfl
attribute [go_sem] af64 a64_0 a64_1 a64_2 a64_3 a64_4 a64_5 a64_6 a64_7 a64_8 a64_9 a64_10
def a51_0 : AC := .reg [⟨(some 2), (.new [(.int .i64 0), (.int .i64 0), (.int .i64 0), (.int .i64 0), .nils]), none, 0, false, []⟩] false
def a51_1 : AC := .reg [⟨(some 3), (.mv (.t 0)), none, 0, false, []⟩,
    ⟨(some 4), (.build [(.int .i64 0), (.int .i64 0), (.int .i64 0), (.int .i64 0), .nils] [(0, (1, (.c (.int .i64 2)))), (1, (1, (.t 3)))]), none, 0, false, []⟩,
    ⟨none, (.store 5 (.t 2) (.t 4)), none, 0, false, []⟩] false
def a51_2 : AC := .seq a51_1 .ret
def a51_3 : AC := .seq a51_0 a51_2
def af51 : AF := { ntmps := 5, res := [(.cell 2 true 5)], body := a51_3 }
theorem tr51 : trF Tryd.prog Tryd.f51 = some af51 := by kernel_rfl
attribute [go_sem] af51 a51_0 a51_1 a51_2 a51_3
def a13_0 : AC := .reg [⟨(some 3), (.box (.t 0)), none, 0, false, []⟩,
    ⟨(some 6), (.mv (.c (.int .i64 0))), none, 0, false, []⟩] false
def a13_1 : AC := .reg [⟨(some 9), (.mv (.t 2)), none, 0, false, []⟩,
    ⟨(some 10), (.bin 0 .lss (.t 9) (.c (.int .i64 0))), none, 0, false, []⟩] false
def a13_2 : AC := .reg [⟨(some 11), (.mv (.t 1)), none, 0, false, []⟩,
    ⟨(some 12), (.bin 0 .add (.t 11) (.c (.int .i64 1))), none, 0, false, []⟩,
    ⟨(some 6), (.mv (.t 12)), none, 0, false, []⟩] false
def a13_3 : AC := .seq a13_2 .ret
def a13_4 : AC := .cond (.t 10) a13_3 .skip
def a13_5 : AC := .seq a13_1 a13_4
def a13_6 : AC := .reg [⟨(some 7), (.mv (.c (.int .i64 1))), none, 0, false, []⟩] false
def a13_7 : AC := .reg [⟨(some 8), (.mv (.c (.int .i64 0))), none, 0, false, []⟩] false
def a13_8 : AC := .reg [⟨(some 13), (.mv (.t 8)), none, 0, false, []⟩,
    ⟨(some 14), (.fad 4 (.t 3)), none, 0, false, []⟩,
    ⟨(some 15), (.load false 1 (.t 14)), none, 0, false, []⟩,
    ⟨(some 16), (.len false (.t 15)), none, 0, false, []⟩,
    ⟨(some 17), (.bin 0 .lss (.t 13) (.t 16)), none, 0, false, []⟩,
    ⟨(some 18), (.mv (.t 17)), none, 0, false, []⟩,
    ⟨(some 19), (.mv (.t 7)), (some (18, true)), 0, false, []⟩,
    ⟨(some 20), (.mv (.t 1)), (some (18, true)), 0, false, []⟩,
    ⟨(some 21), (.bin 0 .leq (.t 19) (.t 20)), (some (18, true)), 0, false, []⟩,
    ⟨(some 22), (.pick (.t 18) (.t 21) (.c (.bool false))), none, 0, false, []⟩] false
def a13_9 : AC := .cond (.t 22) .skip (.exit 0)
def a13_10 : AC := .seq a13_8 a13_9
def a13_11 : AC := .reg [⟨(some 25), (.mv (.t 7)), none, 0, false, []⟩,
    ⟨(some 26), (.fad 4 (.t 3)), none, 0, false, []⟩,
    ⟨(some 27), (.load false 1 (.t 26)), none, 0, false, []⟩,
    ⟨(some 28), (.mv (.t 8)), none, 0, false, []⟩,
    ⟨(some 29), (.iad 5 (.t 27) (.t 28)), none, 0, false, []⟩,
    ⟨(some 30), (.load true 5 (.t 29)), none, 0, false, []⟩,
    ⟨(some 31), (.mv (.t 1)), none, 0, false, []⟩,
    ⟨(some 32), (.mv (.t 7)), none, 0, false, []⟩,
    ⟨(some 33), (.bin 0 .sub (.t 31) (.t 32)), none, 0, false, []⟩,
    ⟨(some 34), (.mv (.t 2)), none, 0, false, []⟩,
    ⟨(some 35), (.bin 0 .sub (.t 34) (.c (.int .i64 1))), none, 0, false, []⟩,
    ⟨(some 36), (.call 13 [(.t 30), (.t 33), (.t 35)]), none, 0, false, []⟩,
    ⟨(some 37), (.bin 0 .add (.t 25) (.t 36)), none, 0, false, []⟩,
    ⟨(some 7), (.mv (.t 37)), none, 0, false, []⟩] false
def a13_12 : AC := .blk 1 a13_11
def a13_13 : AC := .reg [⟨(some 23), (.mv (.t 8)), none, 0, false, []⟩,
    ⟨(some 24), (.bin 0 .add (.t 23) (.c (.int .i64 1))), none, 0, false, []⟩,
    ⟨(some 8), (.mv (.t 24)), none, 0, false, []⟩] false
def a13_14 : AC := .seq a13_12 a13_13
def a13_15 : AC := .seq a13_10 a13_14
def a13_16 : AC := .loop a13_15
def a13_17 : AC := .blk 0 a13_16
def a13_18 : AC := .seq a13_7 a13_17
def a13_19 : AC := .reg [⟨(some 38), (.mv (.t 7)), none, 0, false, []⟩,
    ⟨(some 6), (.mv (.t 38)), none, 0, false, []⟩] false
def a13_20 : AC := .seq a13_19 .ret
def a13_21 : AC := .seq a13_18 a13_20
def a13_22 : AC := .seq a13_6 a13_21
def a13_23 : AC := .seq a13_5 a13_22
def a13_24 : AC := .seq a13_0 a13_23
def af13 : AF := { ntmps := 39, res := [(.t 6)], body := a13_24 }
theorem tr13 : trF Tryd.prog Tryd.f13 = some af13 := by kernel_rfl
attribute [go_sem] af13 a13_0 a13_1 a13_2 a13_3 a13_4 a13_5 a13_6 a13_7 a13_8 a13_9 a13_10 a13_11 a13_12 a13_13 a13_14 a13_15 a13_16 a13_17 a13_18 a13_19 a13_20 a13_21 a13_22 a13_23 a13_24
def a5_0 : AC := .reg [⟨(some 2), (.box (.t 0)), none, 0, false, []⟩,
    ⟨(some 4), (.mv (.c (.bool false))), none, 0, false, []⟩] false
def a5_1 : AC := .reg [⟨(some 5), (.load true 5 (.t 2)), none, 0, false, []⟩,
    ⟨(some 6), (.mv (.t 1)), none, 0, false, []⟩,
    ⟨(some 7), (.call 13 [(.t 5), (.t 6), (.c (.int .i64 200))]), none, 0, false, []⟩,
    ⟨(some 8), (.mv (.t 1)), none, 0, false, []⟩,
    ⟨(some 9), (.bin 0 .gtr (.t 7) (.t 8)), none, 0, false, []⟩,
    ⟨(some 4), (.mv (.t 9)), none, 0, false, []⟩] false
def a5_2 : AC := .seq a5_1 .ret
def a5_3 : AC := .seq a5_0 a5_2
def af5 : AF := { ntmps := 10, res := [(.t 4)], body := a5_3 }
theorem tr5 : trF Tryd.prog Tryd.f5 = some af5 := by kernel_rfl
attribute [go_sem] af5 a5_0 a5_1 a5_2 a5_3
end Go.Proofs.YtdpigpopcbjkmaaDoor.Abs
