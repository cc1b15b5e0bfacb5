/- The abstract code of functions, printed by program; that it is the translation of the model's code is decided by the kernel. -/
import Derived.Test.YtdpigpopcbjkmaaDoorEv
import Derived.Test.YtdpigpopcbjkmaaDoorProg
import Derived.KernelRfl
namespace Go.Proofs.YtdpigpopcbjkmaaDoor.Abs
open Go Go.Proofs Go.Proofs.YtdpigpopcbjkmaaDoor
def a20_0 : AC := .reg [⟨(some 6), (.new [(.int .i64 0), (.int .i64 0), (.int .i64 0), (.int .i64 0), .nils]), none, 0, false, []⟩] false
def a20_1 : AC := .reg [⟨(some 12), (.mv (.t 0)), none, 0, false, []⟩,
    ⟨(some 13), (.hcall 34 [(.t 12)]), none, 0, false, []⟩] false
def a20_2 : AC := .reg [⟨(some 14), (.mv (.t 0)), none, 0, false, []⟩,
    ⟨(some 15), (.mv (.t 1)), none, 0, false, []⟩,
    ⟨(some 16), (.hcall 24 [(.t 14), (.t 15)]), none, 0, false, []⟩,
    ⟨(some 7), (.mv (.t 16)), none, 0, false, []⟩] false
def a20_3 : AC := .reg [⟨(some 17), (.mv (.t 7)), none, 0, false, []⟩,
    ⟨(some 18), (.nilck (.t 17)), none, 0, false, []⟩,
    ⟨(some 19), (.fad 0 (.t 18)), none, 0, false, []⟩,
    ⟨(some 20), (.load false 1 (.t 19)), none, 0, false, []⟩,
    ⟨(some 21), (.bin 0 .eql (.t 20) (.c (.int .i64 2))), none, 0, false, []⟩] false
def a20_4 : AC := .reg [⟨(some 22), (.mv (.t 7)), none, 0, false, []⟩,
    ⟨(some 23), (.nilck (.t 22)), none, 0, false, []⟩,
    ⟨(some 24), (.fad 4 (.t 23)), none, 0, false, []⟩,
    ⟨(some 25), (.load false 1 (.t 24)), none, 0, false, []⟩,
    ⟨(some 26), (.mv (.t 2)), none, 0, false, []⟩,
    ⟨(some 27), (.call 35 [(.t 25), (.t 26)]), none, 0, false, []⟩,
    ⟨none, (.store 5 (.t 6) (.t 27)), none, 0, false, []⟩] false
def a20_5 : AC := .seq a20_4 .ret
def a20_6 : AC := .cond (.t 21) a20_5 .skip
def a20_7 : AC := .seq a20_3 a20_6
def a20_8 : AC := .reg [⟨(some 28), (.mv (.t 7)), none, 0, false, []⟩,
    ⟨(some 29), (.nilck (.t 28)), none, 1, false, []⟩,
    ⟨(some 30), (.fad 0 (.t 29)), none, 2, false, []⟩,
    ⟨(some 31), (.load false 1 (.t 30)), none, 3, true, []⟩,
    ⟨(some 32), (.mv (.t 7)), none, 4, false, []⟩,
    ⟨(some 33), (.nilck (.t 32)), none, 5, false, []⟩,
    ⟨(some 34), (.fad 1 (.t 33)), none, 6, false, []⟩,
    ⟨(some 35), (.load false 1 (.t 34)), none, 7, true, []⟩,
    ⟨(some 36), (.mv (.t 7)), none, 8, false, []⟩,
    ⟨(some 37), (.nilck (.t 36)), none, 9, false, []⟩,
    ⟨(some 38), (.fad 2 (.t 37)), none, 10, false, []⟩,
    ⟨(some 39), (.load false 1 (.t 38)), none, 11, true, []⟩,
    ⟨(some 40), (.mv (.t 7)), none, 12, false, []⟩,
    ⟨(some 41), (.nilck (.t 40)), none, 13, false, []⟩,
    ⟨(some 42), (.fad 3 (.t 41)), none, 14, false, []⟩,
    ⟨(some 43), (.load false 1 (.t 42)), none, 15, true, []⟩,
    ⟨(some 44), (.build [(.int .i64 0), (.int .i64 0), (.int .i64 0), (.int .i64 0), .nils] [(0, (1, (.t 31))), (1, (1, (.t 35))), (2, (1, (.t 39))), (3, (1, (.t 43)))]), none, 16, false, []⟩,
    ⟨(some 8), (.new [(.int .i64 0), (.int .i64 0), (.int .i64 0), (.int .i64 0), .nils]), none, 17, false, [3, 7, 11, 15]⟩,
    ⟨none, (.store 5 (.t 8) (.t 44)), none, 18, false, []⟩] true
def a20_9 : AC := .reg [⟨(some 45), (.mv (.t 7)), none, 0, false, []⟩,
    ⟨(some 46), (.nilck (.t 45)), none, 0, false, []⟩,
    ⟨(some 47), (.fad 5 (.t 46)), none, 0, false, []⟩,
    ⟨(some 48), (.load false 1 (.t 47)), none, 0, false, []⟩,
    ⟨(some 49), (.len false (.t 48)), none, 0, false, []⟩,
    ⟨(some 50), (.mv (.c (.int .i64 0))), none, 0, false, []⟩] false
def a20_10 : AC := .reg [⟨(some 51), (.bin 0 .lss (.t 50) (.t 49)), none, 0, false, []⟩] false
def a20_11 : AC := .cond (.t 51) .skip (.exit 0)
def a20_12 : AC := .reg [⟨(some 52), (.mv (.t 50)), none, 0, false, []⟩,
    ⟨(some 53), (.iad 1 (.t 48) (.t 50)), none, 0, false, []⟩,
    ⟨(some 54), (.load false 1 (.t 53)), none, 0, false, []⟩,
    ⟨(some 9), (.mv (.t 52)), none, 0, false, []⟩,
    ⟨(some 10), (.mv (.t 54)), none, 0, false, []⟩] false
def a20_13 : AC := .reg [⟨(some 55), (.mv (.t 7)), none, 0, false, []⟩,
    ⟨(some 56), (.nilck (.t 55)), none, 0, false, []⟩,
    ⟨(some 57), (.fad 0 (.t 56)), none, 0, false, []⟩,
    ⟨(some 58), (.load false 1 (.t 57)), none, 0, false, []⟩,
    ⟨(some 59), (.mv (.t 9)), none, 0, false, []⟩,
    ⟨(some 60), (.call 36 [(.t 58), (.t 59)]), none, 0, false, []⟩,
    ⟨(some 11), (.mv (.t 60)), none, 0, false, []⟩] false
def a20_14 : AC := .reg [⟨(some 61), (.mv (.t 11)), none, 0, false, []⟩,
    ⟨(some 62), (.bin 0 .gtr (.t 61) (.c (.int .i64 0))), none, 0, false, []⟩] false
def a20_15 : AC := .reg [⟨(some 63), (.mv (.t 10)), none, 0, false, []⟩,
    ⟨(some 64), (.mv (.t 2)), none, 0, false, []⟩,
    ⟨(some 65), (.mv (.t 11)), none, 0, false, []⟩,
    ⟨(some 66), (.hcall 37 [(.t 63), (.t 64), (.t 65)]), none, 0, false, []⟩,
    ⟨(some 10), (.mv (.t 66)), none, 0, false, []⟩] false
def a20_16 : AC := .cond (.t 62) a20_15 .skip
def a20_17 : AC := .seq a20_14 a20_16
def a20_18 : AC := .reg [⟨(some 67), (.fad 4 (.t 8)), none, 0, false, []⟩,
    ⟨(some 68), (.load false 1 (.t 67)), none, 1, true, []⟩,
    ⟨(some 69), (.mv (.t 0)), none, 2, false, []⟩,
    ⟨(some 70), (.mv (.t 10)), none, 3, false, []⟩,
    ⟨(some 71), (.mv (.t 2)), none, 4, false, []⟩,
    ⟨(some 72), (.mv (.t 11)), none, 5, false, []⟩,
    ⟨(some 73), (.bin 0 .add (.t 71) (.t 72)), none, 6, false, []⟩,
    ⟨(some 74), (.hcall 20 [(.t 69), (.t 70), (.t 73)]), none, 7, false, [1, 7]⟩,
    ⟨(some 75), (.bslice 5 [(.t 74)]), none, 8, false, [1]⟩,
    ⟨(some 76), (.app 5 56 (.t 68) (.t 75)), none, 9, false, []⟩,
    ⟨(some 77), (.fad 4 (.t 8)), none, 10, false, []⟩,
    ⟨none, (.store 1 (.t 77) (.t 76)), none, 11, false, []⟩] true
def a20_19 : AC := .seq a20_17 a20_18
def a20_20 : AC := .seq a20_13 a20_19
def a20_21 : AC := .seq a20_12 a20_20
def a20_22 : AC := .blk 1 a20_21
def a20_23 : AC := .reg [⟨(some 78), (.bin 0 .add (.t 50) (.c (.int .i64 1))), none, 0, false, []⟩,
    ⟨(some 50), (.mv (.t 78)), none, 0, false, []⟩] false
def a20_24 : AC := .seq a20_22 a20_23
def a20_25 : AC := .seq a20_11 a20_24
def a20_26 : AC := .seq a20_10 a20_25
def a20_27 : AC := .loop a20_26
def a20_28 : AC := .blk 0 a20_27
def a20_29 : AC := .seq a20_9 a20_28
def a20_30 : AC := .reg [⟨(some 79), (.load true 5 (.t 8)), none, 0, false, []⟩,
    ⟨none, (.store 5 (.t 6) (.t 79)), none, 0, false, []⟩] false
def a20_31 : AC := .seq a20_30 .ret
def a20_32 : AC := .seq a20_29 a20_31
def a20_33 : AC := .seq a20_8 a20_32
def a20_34 : AC := .seq a20_7 a20_33
def a20_35 : AC := .seq a20_2 a20_34
def a20_36 : AC := .seq a20_1 a20_35
def a20_37 : AC := .seq a20_0 a20_36
def af20 : AF := { ntmps := 80, res := [(.cell 6 true 5)], body := a20_37 }
theorem tr20 : trF Tryd.prog Tryd.f20 = some af20 := by kernel_rfl
attribute [go_sem] af20 a20_0 a20_1 a20_2 a20_3 a20_4 a20_5 a20_6 a20_7 a20_8 a20_9 a20_10 a20_11 a20_12 a20_13 a20_14 a20_15 a20_16 a20_17 a20_18 a20_19 a20_20 a20_21 a20_22 a20_23 a20_24 a20_25 a20_26 a20_27 a20_28 a20_29 a20_30 a20_31 a20_32 a20_33 a20_34 a20_35 a20_36 a20_37
def a23_0 : AC := .reg [⟨(some 6), (.new [(.int .i64 0), (.int .i64 0), (.int .i64 0), (.int .i64 0), .nils]), none, 0, false, []⟩] false
def a23_1 : AC := .reg [⟨(some 11), (.mv (.t 1)), none, 0, false, []⟩,
    ⟨(some 12), (.nilck (.t 11)), none, 0, false, []⟩,
    ⟨(some 13), (.fad 0 (.t 12)), none, 0, false, []⟩,
    ⟨(some 14), (.load false 1 (.t 13)), none, 0, false, []⟩,
    ⟨(some 15), (.bin 0 .eql (.t 14) (.c (.int .i64 2))), none, 0, false, []⟩] false
def a23_2 : AC := .reg [⟨(some 16), (.mv (.t 1)), none, 0, false, []⟩,
    ⟨(some 17), (.nilck (.t 16)), none, 0, false, []⟩,
    ⟨(some 18), (.fad 4 (.t 17)), none, 0, false, []⟩,
    ⟨(some 19), (.load false 1 (.t 18)), none, 0, false, []⟩,
    ⟨(some 20), (.mv (.t 2)), none, 0, false, []⟩,
    ⟨(some 21), (.call 35 [(.t 19), (.t 20)]), none, 0, false, []⟩,
    ⟨none, (.store 5 (.t 6) (.t 21)), none, 0, false, []⟩] false
def a23_3 : AC := .seq a23_2 .ret
def a23_4 : AC := .cond (.t 15) a23_3 .skip
def a23_5 : AC := .seq a23_1 a23_4
def a23_6 : AC := .reg [⟨(some 22), (.mv (.t 1)), none, 0, false, []⟩,
    ⟨(some 23), (.nilck (.t 22)), none, 1, false, []⟩,
    ⟨(some 24), (.fad 0 (.t 23)), none, 2, false, []⟩,
    ⟨(some 25), (.load false 1 (.t 24)), none, 3, true, []⟩,
    ⟨(some 26), (.mv (.t 1)), none, 4, false, []⟩,
    ⟨(some 27), (.nilck (.t 26)), none, 5, false, []⟩,
    ⟨(some 28), (.fad 1 (.t 27)), none, 6, false, []⟩,
    ⟨(some 29), (.load false 1 (.t 28)), none, 7, true, []⟩,
    ⟨(some 30), (.mv (.t 1)), none, 8, false, []⟩,
    ⟨(some 31), (.nilck (.t 30)), none, 9, false, []⟩,
    ⟨(some 32), (.fad 2 (.t 31)), none, 10, false, []⟩,
    ⟨(some 33), (.load false 1 (.t 32)), none, 11, true, []⟩,
    ⟨(some 34), (.mv (.t 1)), none, 12, false, []⟩,
    ⟨(some 35), (.nilck (.t 34)), none, 13, false, []⟩,
    ⟨(some 36), (.fad 3 (.t 35)), none, 14, false, []⟩,
    ⟨(some 37), (.load false 1 (.t 36)), none, 15, true, []⟩,
    ⟨(some 38), (.build [(.int .i64 0), (.int .i64 0), (.int .i64 0), (.int .i64 0), .nils] [(0, (1, (.t 25))), (1, (1, (.t 29))), (2, (1, (.t 33))), (3, (1, (.t 37)))]), none, 16, false, []⟩,
    ⟨(some 7), (.new [(.int .i64 0), (.int .i64 0), (.int .i64 0), (.int .i64 0), .nils]), none, 17, false, [3, 7, 11, 15]⟩,
    ⟨none, (.store 5 (.t 7) (.t 38)), none, 18, false, []⟩] true
def a23_7 : AC := .reg [⟨(some 39), (.mv (.t 1)), none, 0, false, []⟩,
    ⟨(some 40), (.nilck (.t 39)), none, 0, false, []⟩,
    ⟨(some 41), (.fad 5 (.t 40)), none, 0, false, []⟩,
    ⟨(some 42), (.load false 1 (.t 41)), none, 0, false, []⟩,
    ⟨(some 43), (.len false (.t 42)), none, 0, false, []⟩,
    ⟨(some 44), (.mv (.c (.int .i64 0))), none, 0, false, []⟩] false
def a23_8 : AC := .reg [⟨(some 45), (.bin 0 .lss (.t 44) (.t 43)), none, 0, false, []⟩] false
def a23_9 : AC := .cond (.t 45) .skip (.exit 0)
def a23_10 : AC := .reg [⟨(some 46), (.mv (.t 44)), none, 0, false, []⟩,
    ⟨(some 47), (.iad 1 (.t 42) (.t 44)), none, 0, false, []⟩,
    ⟨(some 48), (.load false 1 (.t 47)), none, 0, false, []⟩,
    ⟨(some 8), (.mv (.t 46)), none, 0, false, []⟩,
    ⟨(some 9), (.mv (.t 48)), none, 0, false, []⟩] false
def a23_11 : AC := .reg [⟨(some 49), (.mv (.t 1)), none, 0, false, []⟩,
    ⟨(some 50), (.nilck (.t 49)), none, 0, false, []⟩,
    ⟨(some 51), (.fad 0 (.t 50)), none, 0, false, []⟩,
    ⟨(some 52), (.load false 1 (.t 51)), none, 0, false, []⟩,
    ⟨(some 53), (.mv (.t 8)), none, 0, false, []⟩,
    ⟨(some 54), (.call 36 [(.t 52), (.t 53)]), none, 0, false, []⟩,
    ⟨(some 10), (.mv (.t 54)), none, 0, false, []⟩] false
def a23_12 : AC := .reg [⟨(some 55), (.mv (.t 10)), none, 0, false, []⟩,
    ⟨(some 56), (.bin 0 .gtr (.t 55) (.c (.int .i64 0))), none, 0, false, []⟩] false
def a23_13 : AC := .reg [⟨(some 57), (.fad 4 (.t 7)), none, 0, false, []⟩,
    ⟨(some 58), (.load false 1 (.t 57)), none, 1, true, []⟩,
    ⟨(some 59), (.mv (.t 0)), none, 2, false, []⟩,
    ⟨(some 60), (.mv (.t 9)), none, 3, false, []⟩,
    ⟨(some 61), (.nilck (.t 60)), none, 4, false, []⟩,
    ⟨(some 62), (.fad 0 (.t 61)), none, 5, false, []⟩,
    ⟨(some 63), (.load true 5 (.t 62)), none, 6, false, []⟩,
    ⟨(some 64), (.mv (.t 9)), none, 7, false, []⟩,
    ⟨(some 65), (.nilck (.t 64)), none, 8, false, []⟩,
    ⟨(some 66), (.fad 5 (.t 65)), none, 9, false, []⟩,
    ⟨(some 67), (.load false 1 (.t 66)), none, 10, false, []⟩,
    ⟨(some 68), (.mv (.t 10)), none, 11, false, []⟩,
    ⟨(some 69), (.mv (.t 2)), none, 12, false, []⟩,
    ⟨(some 70), (.hcall 38 [(.t 59), (.t 63), (.t 67), (.t 68), (.t 69)]), none, 13, false, [1, 13]⟩,
    ⟨(some 71), (.bslice 5 [(.t 70)]), none, 14, false, [1]⟩,
    ⟨(some 72), (.app 5 56 (.t 58) (.t 71)), none, 15, false, []⟩,
    ⟨(some 73), (.fad 4 (.t 7)), none, 16, false, []⟩,
    ⟨none, (.store 1 (.t 73) (.t 72)), none, 17, false, []⟩] true
def a23_14 : AC := .reg [⟨(some 74), (.fad 4 (.t 7)), none, 0, false, []⟩,
    ⟨(some 75), (.load false 1 (.t 74)), none, 1, true, []⟩,
    ⟨(some 76), (.mv (.t 0)), none, 2, false, []⟩,
    ⟨(some 77), (.mv (.t 9)), none, 3, false, []⟩,
    ⟨(some 78), (.mv (.t 2)), none, 4, false, []⟩,
    ⟨(some 79), (.hcall 39 [(.t 76), (.t 77), (.t 78)]), none, 5, false, [1, 5]⟩,
    ⟨(some 80), (.bslice 5 [(.t 79)]), none, 6, false, [1]⟩,
    ⟨(some 81), (.app 5 56 (.t 75) (.t 80)), none, 7, false, []⟩,
    ⟨(some 82), (.fad 4 (.t 7)), none, 8, false, []⟩,
    ⟨none, (.store 1 (.t 82) (.t 81)), none, 9, false, []⟩] true
def a23_15 : AC := .cond (.t 56) a23_13 a23_14
def a23_16 : AC := .seq a23_12 a23_15
def a23_17 : AC := .seq a23_11 a23_16
def a23_18 : AC := .seq a23_10 a23_17
def a23_19 : AC := .blk 1 a23_18
def a23_20 : AC := .reg [⟨(some 83), (.bin 0 .add (.t 44) (.c (.int .i64 1))), none, 0, false, []⟩,
    ⟨(some 44), (.mv (.t 83)), none, 0, false, []⟩] false
def a23_21 : AC := .seq a23_19 a23_20
def a23_22 : AC := .seq a23_9 a23_21
def a23_23 : AC := .seq a23_8 a23_22
def a23_24 : AC := .loop a23_23
def a23_25 : AC := .blk 0 a23_24
def a23_26 : AC := .seq a23_7 a23_25
def a23_27 : AC := .reg [⟨(some 84), (.load true 5 (.t 7)), none, 0, false, []⟩,
    ⟨none, (.store 5 (.t 6) (.t 84)), none, 0, false, []⟩] false
def a23_28 : AC := .seq a23_27 .ret
def a23_29 : AC := .seq a23_26 a23_28
def a23_30 : AC := .seq a23_6 a23_29
def a23_31 : AC := .seq a23_5 a23_30
def a23_32 : AC := .seq a23_0 a23_31
def af23 : AF := { ntmps := 85, res := [(.cell 6 true 5)], body := a23_32 }
theorem tr23 : trF Tryd.prog Tryd.f23 = some af23 := by kernel_rfl
attribute [go_sem] af23 a23_0 a23_1 a23_2 a23_3 a23_4 a23_5 a23_6 a23_7 a23_8 a23_9 a23_10 a23_11 a23_12 a23_13 a23_14 a23_15 a23_16 a23_17 a23_18 a23_19 a23_20 a23_21 a23_22 a23_23 a23_24 a23_25 a23_26 a23_27 a23_28 a23_29 a23_30 a23_31 a23_32
def a27_0 : AC := .reg [⟨(some 10), (.mv (.c (.bool false))), none, 0, false, []⟩] false
def a27_1 : AC := .reg [⟨(some 15), (.mv (.t 0)), none, 0, false, []⟩,
    ⟨(some 16), (.mv (.t 1)), none, 0, false, []⟩,
    ⟨(some 17), (.mv (.t 2)), none, 0, false, []⟩,
    ⟨(some 18), (.mv (.t 3)), none, 0, false, []⟩,
    ⟨(some 19), (.mv (.t 4)), none, 0, false, []⟩,
    ⟨(some 20), (.mnx false (.t 19) (.c (.int .i64 300000))), none, 0, false, []⟩,
    ⟨(some 21), (.hcall 43 [(.t 15), (.t 16), (.t 17), (.t 18), (.t 20)]), none, 0, false, []⟩,
    ⟨(some 14), (.mv (.t 21)), none, 0, false, []⟩,
    ⟨(some 22), (.ext (.t 14) 0), none, 0, false, []⟩,
    ⟨(some 23), (.ext (.t 14) 1), none, 0, false, []⟩,
    ⟨(some 11), (.mv (.t 22)), none, 0, false, []⟩,
    ⟨(some 12), (.mv (.t 23)), none, 0, false, []⟩] false
def a27_2 : AC := .reg [⟨(some 24), (.mv (.t 12)), none, 0, false, []⟩] false
def a27_3 : AC := .reg [⟨(some 25), (.mv (.t 11)), none, 0, false, []⟩,
    ⟨(some 10), (.mv (.t 25)), none, 0, false, []⟩] false
def a27_4 : AC := .seq a27_3 .ret
def a27_5 : AC := .cond (.t 24) a27_4 .skip
def a27_6 : AC := .seq a27_2 a27_5
def a27_7 : AC := .reg [⟨(some 26), (.mv (.t 0)), none, 0, false, []⟩,
    ⟨(some 27), (.mv (.t 4)), none, 0, false, []⟩,
    ⟨(some 28), (.hcall 44 [(.t 26), (.t 27)]), none, 0, false, []⟩] false
def a27_8 : AC := .reg [⟨(some 29), (.mv (.t 0)), none, 0, false, []⟩,
    ⟨(some 30), (.mv (.t 1)), none, 0, false, []⟩,
    ⟨(some 31), (.mv (.t 3)), none, 0, false, []⟩,
    ⟨(some 32), (.hcall 20 [(.t 29), (.t 30), (.t 31)]), none, 0, false, []⟩,
    ⟨(some 13), (.new [(.int .i64 0), (.int .i64 0), (.int .i64 0), (.int .i64 0), .nils]), none, 0, false, []⟩,
    ⟨none, (.store 5 (.t 13) (.t 32)), none, 0, false, []⟩] false
def a27_9 : AC := .reg [⟨(some 33), (.load true 5 (.t 13)), none, 0, true, []⟩,
    ⟨(some 34), (.mv (.t 0)), none, 1, false, []⟩,
    ⟨(some 35), (.mv (.t 2)), none, 2, false, []⟩,
    ⟨(some 36), (.mv (.t 3)), none, 3, false, []⟩,
    ⟨(some 37), (.hcall 20 [(.t 34), (.t 35), (.t 36)]), none, 4, false, [0, 4]⟩,
    ⟨(some 38), (.call 45 [(.t 33), (.t 37)]), none, 5, false, []⟩,
    ⟨(some 10), (.mv (.t 38)), none, 6, false, []⟩] true
def a27_10 : AC := .seq a27_9 .ret
def a27_11 : AC := .seq a27_8 a27_10
def a27_12 : AC := .seq a27_7 a27_11
def a27_13 : AC := .seq a27_6 a27_12
def a27_14 : AC := .seq a27_1 a27_13
def a27_15 : AC := .seq a27_0 a27_14
def af27 : AF := { ntmps := 39, res := [(.t 10)], body := a27_15 }
theorem tr27 : trF Tryd.prog Tryd.f27 = some af27 := by kernel_rfl
attribute [go_sem] af27 a27_0 a27_1 a27_2 a27_3 a27_4 a27_5 a27_6 a27_7 a27_8 a27_9 a27_10 a27_11 a27_12 a27_13 a27_14 a27_15
def a38_0 : AC := .reg [⟨(some 6), (.box (.t 1)), none, 0, false, []⟩,
    ⟨(some 10), (.new [(.int .i64 0), (.int .i64 0), (.int .i64 0), (.int .i64 0), .nils]), none, 0, false, []⟩] false
def a38_1 : AC := .reg [⟨(some 15), (.mv (.t 0)), none, 0, false, []⟩,
    ⟨(some 16), (.hcall 34 [(.t 15)]), none, 0, false, []⟩] false
def a38_2 : AC := .reg [⟨(some 17), (.fad 0 (.t 6)), none, 0, false, []⟩,
    ⟨(some 18), (.load false 1 (.t 17)), none, 0, false, []⟩,
    ⟨(some 19), (.bin 0 .eql (.t 18) (.c (.int .i64 2))), none, 0, false, []⟩] false
def a38_3 : AC := .reg [⟨(some 20), (.fad 1 (.t 6)), none, 0, false, []⟩,
    ⟨(some 21), (.load false 1 (.t 20)), none, 0, false, []⟩,
    ⟨(some 22), (.mv (.t 3)), none, 0, false, []⟩,
    ⟨(some 23), (.bin 0 .lss (.t 21) (.t 22)), none, 0, false, []⟩] false
def a38_4 : AC := .reg [⟨(some 24), (.fad 1 (.t 6)), none, 0, false, []⟩,
    ⟨(some 25), (.load false 1 (.t 24)), none, 0, false, []⟩,
    ⟨(some 26), (.call 51 [(.t 25)]), none, 0, false, []⟩,
    ⟨none, (.store 5 (.t 10) (.t 26)), none, 0, false, []⟩] false
def a38_5 : AC := .seq a38_4 .ret
def a38_6 : AC := .cond (.t 23) a38_5 .skip
def a38_7 : AC := .seq a38_3 a38_6
def a38_8 : AC := .reg [⟨(some 27), (.mv (.t 2)), none, 0, false, []⟩,
    ⟨(some 28), (.fad 1 (.t 6)), none, 0, false, []⟩,
    ⟨(some 29), (.load false 1 (.t 28)), none, 0, false, []⟩,
    ⟨(some 30), (.mv (.t 3)), none, 0, false, []⟩,
    ⟨(some 31), (.bin 0 .sub (.t 29) (.t 30)), none, 0, false, []⟩,
    ⟨(some 32), (.call 54 [(.t 27), (.t 31)]), none, 0, false, []⟩,
    ⟨(some 11), (.mv (.t 32)), none, 0, false, []⟩] false
def a38_9 : AC := .reg [⟨(some 33), (.mv (.t 11)), none, 0, false, []⟩,
    ⟨(some 34), (.bin 2 .neq (.t 33) (.c .nilp)), none, 0, false, []⟩] false
def a38_10 : AC := .reg [⟨(some 35), (.mv (.t 0)), none, 0, false, []⟩,
    ⟨(some 36), (.mv (.t 11)), none, 0, false, []⟩,
    ⟨(some 37), (.mv (.t 4)), none, 0, false, []⟩,
    ⟨(some 38), (.mv (.t 3)), none, 0, false, []⟩,
    ⟨(some 39), (.bin 0 .add (.t 37) (.t 38)), none, 0, false, []⟩,
    ⟨(some 40), (.hcall 39 [(.t 35), (.t 36), (.t 39)]), none, 0, false, []⟩,
    ⟨none, (.store 5 (.t 10) (.t 40)), none, 0, false, []⟩] false
def a38_11 : AC := .seq a38_10 .ret
def a38_12 : AC := .cond (.t 34) a38_11 .skip
def a38_13 : AC := .seq a38_9 a38_12
def a38_14 : AC := .seq a38_8 a38_13
def a38_15 : AC := .reg [⟨(some 41), (.fad 1 (.t 6)), none, 0, false, []⟩,
    ⟨(some 42), (.load false 1 (.t 41)), none, 1, true, []⟩,
    ⟨(some 43), (.mv (.t 2)), none, 2, false, []⟩,
    ⟨(some 44), (.call 55 [(.t 43)]), none, 3, false, [1]⟩,
    ⟨(some 45), (.bin 0 .sub (.t 42) (.t 44)), none, 4, false, []⟩,
    ⟨(some 46), (.mv (.t 4)), none, 5, false, []⟩,
    ⟨(some 47), (.bin 0 .add (.t 45) (.t 46)), none, 6, false, []⟩,
    ⟨(some 48), (.call 51 [(.t 47)]), none, 7, false, []⟩,
    ⟨none, (.store 5 (.t 10) (.t 48)), none, 8, false, []⟩] true
def a38_16 : AC := .seq a38_15 .ret
def a38_17 : AC := .seq a38_14 a38_16
def a38_18 : AC := .seq a38_7 a38_17
def a38_19 : AC := .cond (.t 19) a38_18 .skip
def a38_20 : AC := .seq a38_2 a38_19
def a38_21 : AC := .reg [⟨(some 49), (.fad 4 (.t 6)), none, 0, false, []⟩,
    ⟨(some 50), (.load false 1 (.t 49)), none, 0, false, []⟩,
    ⟨(some 51), (.len false (.t 50)), none, 0, false, []⟩,
    ⟨(some 52), (.bin 0 .eql (.t 51) (.c (.int .i64 0))), none, 0, false, []⟩] false
def a38_22 : AC := .reg [⟨(some 53), (.fad 4 (.t 6)), none, 0, false, []⟩,
    ⟨none, (.store 1 (.t 53) (.c .nils)), none, 0, false, []⟩] false
def a38_23 : AC := .reg [⟨(some 54), (.load true 5 (.t 6)), none, 0, false, []⟩,
    ⟨none, (.store 5 (.t 10) (.t 54)), none, 0, false, []⟩] false
def a38_24 : AC := .seq a38_23 .ret
def a38_25 : AC := .seq a38_22 a38_24
def a38_26 : AC := .cond (.t 52) a38_25 .skip
def a38_27 : AC := .seq a38_21 a38_26
def a38_28 : AC := .reg [⟨(some 55), (.fad 4 (.t 6)), none, 0, false, []⟩,
    ⟨(some 56), (.load false 1 (.t 55)), none, 0, false, []⟩,
    ⟨(some 57), (.len false (.t 56)), none, 0, false, []⟩,
    ⟨(some 58), (.mk 5 56 [(.int .i64 0), (.int .i64 0), (.int .i64 0), (.int .i64 0), .nils] (.t 57) (.t 57)), none, 0, false, []⟩,
    ⟨(some 12), (.mv (.t 58)), none, 0, false, []⟩] false
def a38_29 : AC := .reg [⟨(some 59), (.fad 4 (.t 6)), none, 0, false, []⟩,
    ⟨(some 60), (.load false 1 (.t 59)), none, 0, false, []⟩,
    ⟨(some 61), (.len false (.t 60)), none, 0, false, []⟩,
    ⟨(some 62), (.mv (.c (.int .i64 0))), none, 0, false, []⟩] false
def a38_30 : AC := .reg [⟨(some 63), (.bin 0 .lss (.t 62) (.t 61)), none, 0, false, []⟩] false
def a38_31 : AC := .cond (.t 63) .skip (.exit 0)
def a38_32 : AC := .reg [⟨(some 64), (.mv (.t 62)), none, 0, false, []⟩,
    ⟨(some 65), (.iad 5 (.t 60) (.t 62)), none, 0, false, []⟩,
    ⟨(some 66), (.load true 5 (.t 65)), none, 0, false, []⟩,
    ⟨(some 14), (.new [(.int .i64 0), (.int .i64 0), (.int .i64 0), (.int .i64 0), .nils]), none, 0, false, []⟩,
    ⟨(some 13), (.mv (.t 64)), none, 0, false, []⟩,
    ⟨none, (.store 5 (.t 14) (.t 66)), none, 0, false, []⟩] false
def a38_33 : AC := .reg [⟨(some 67), (.mv (.t 12)), none, 0, false, []⟩,
    ⟨(some 68), (.mv (.t 13)), none, 1, false, []⟩,
    ⟨(some 69), (.mv (.t 0)), none, 2, false, []⟩,
    ⟨(some 70), (.load true 5 (.t 14)), none, 3, true, []⟩,
    ⟨(some 71), (.mv (.t 2)), none, 4, false, []⟩,
    ⟨(some 72), (.mv (.t 3)), none, 5, false, []⟩,
    ⟨(some 73), (.fad 0 (.t 6)), none, 6, false, []⟩,
    ⟨(some 74), (.load false 1 (.t 73)), none, 7, false, []⟩,
    ⟨(some 75), (.mv (.t 13)), none, 8, false, []⟩,
    ⟨(some 76), (.call 36 [(.t 74), (.t 75)]), none, 9, false, [3]⟩,
    ⟨(some 77), (.bin 0 .add (.t 72) (.t 76)), none, 10, false, []⟩,
    ⟨(some 78), (.mv (.t 4)), none, 11, false, []⟩,
    ⟨(some 79), (.hcall 38 [(.t 69), (.t 70), (.t 71), (.t 77), (.t 78)]), none, 12, false, [12]⟩,
    ⟨(some 80), (.iad 5 (.t 67) (.t 68)), none, 13, false, []⟩,
    ⟨none, (.store 5 (.t 80) (.t 79)), none, 14, false, []⟩] true
def a38_34 : AC := .seq a38_32 a38_33
def a38_35 : AC := .blk 1 a38_34
def a38_36 : AC := .reg [⟨(some 81), (.bin 0 .add (.t 62) (.c (.int .i64 1))), none, 0, false, []⟩,
    ⟨(some 62), (.mv (.t 81)), none, 0, false, []⟩] false
def a38_37 : AC := .seq a38_35 a38_36
def a38_38 : AC := .seq a38_31 a38_37
def a38_39 : AC := .seq a38_30 a38_38
def a38_40 : AC := .loop a38_39
def a38_41 : AC := .blk 0 a38_40
def a38_42 : AC := .seq a38_29 a38_41
def a38_43 : AC := .reg [⟨(some 82), (.mv (.t 12)), none, 0, false, []⟩,
    ⟨(some 83), (.fad 4 (.t 6)), none, 0, false, []⟩,
    ⟨none, (.store 1 (.t 83) (.t 82)), none, 0, false, []⟩] false
def a38_44 : AC := .reg [⟨(some 84), (.load true 5 (.t 6)), none, 0, false, []⟩,
    ⟨none, (.store 5 (.t 10) (.t 84)), none, 0, false, []⟩] false
def a38_45 : AC := .seq a38_44 .ret
def a38_46 : AC := .seq a38_43 a38_45
def a38_47 : AC := .seq a38_42 a38_46
def a38_48 : AC := .seq a38_28 a38_47
def a38_49 : AC := .seq a38_27 a38_48
def a38_50 : AC := .seq a38_20 a38_49
def a38_51 : AC := .seq a38_1 a38_50
def a38_52 : AC := .seq a38_0 a38_51
def af38 : AF := { ntmps := 85, res := [(.cell 10 true 5)], body := a38_52 }
theorem tr38 : trF Tryd.prog Tryd.f38 = some af38 := by kernel_rfl
attribute [go_sem] af38 a38_0 a38_1 a38_2 a38_3 a38_4 a38_5 a38_6 a38_7 a38_8 a38_9 a38_10 a38_11 a38_12 a38_13 a38_14 a38_15 a38_16 a38_17 a38_18 a38_19 a38_20 a38_21 a38_22 a38_23 a38_24 a38_25 a38_26 a38_27 a38_28 a38_29 a38_30 a38_31 a38_32 a38_33 a38_34 a38_35 a38_36 a38_37 a38_38 a38_39 a38_40 a38_41 a38_42 a38_43 a38_44 a38_45 a38_46 a38_47 a38_48 a38_49 a38_50 a38_51 a38_52
def a41_0 : AC := .reg [⟨(some 4), (.mv (.c (.int .i64 0))), none, 0, false, []⟩] false
def a41_1 : AC := .reg [⟨(some 7), (.mv (.t 1)), none, 0, false, []⟩,
    ⟨(some 8), (.nilck (.t 7)), none, 0, false, []⟩,
    ⟨(some 9), (.fad 0 (.t 8)), none, 0, false, []⟩,
    ⟨(some 10), (.load false 1 (.t 9)), none, 0, false, []⟩,
    ⟨(some 11), (.bin 0 .eql (.t 10) (.c (.int .i64 23))), none, 0, false, []⟩] false
def a41_2 : AC := .reg [⟨(some 12), (.mv (.t 0)), none, 0, false, []⟩,
    ⟨(some 13), (.mv (.t 1)), none, 1, false, []⟩,
    ⟨(some 14), (.nilck (.t 13)), none, 2, false, []⟩,
    ⟨(some 15), (.fad 3 (.t 14)), none, 3, false, []⟩,
    ⟨(some 16), (.load false 1 (.t 15)), none, 4, false, []⟩,
    ⟨(some 17), (.mv (.t 1)), none, 5, false, []⟩,
    ⟨(some 18), (.nilck (.t 17)), none, 6, false, []⟩,
    ⟨(some 19), (.fad 1 (.t 18)), none, 7, false, []⟩,
    ⟨(some 20), (.load false 1 (.t 19)), none, 8, false, []⟩,
    ⟨(some 21), (.mv (.t 1)), none, 9, false, []⟩,
    ⟨(some 22), (.nilck (.t 21)), none, 10, false, []⟩,
    ⟨(some 23), (.fad 2 (.t 22)), none, 11, false, []⟩,
    ⟨(some 24), (.load false 1 (.t 23)), none, 12, false, []⟩,
    ⟨(some 25), (.hcall 57 [(.t 12), (.t 16), (.t 20), (.t 24)]), none, 13, false, [13]⟩,
    ⟨(some 5), (.mv (.t 25)), none, 14, false, []⟩] true
def a41_3 : AC := .reg [⟨(some 26), (.mv (.t 5)), none, 0, false, []⟩,
    ⟨(some 27), (.bin 2 .neq (.t 26) (.c .nilp)), none, 0, false, []⟩,
    ⟨(some 28), (.mv (.t 27)), none, 0, false, []⟩,
    ⟨(some 29), (.mv (.t 5)), (some (28, true)), 0, false, []⟩,
    ⟨(some 30), (.nilck (.t 29)), (some (28, true)), 0, false, []⟩,
    ⟨(some 31), (.fad 12 (.t 30)), (some (28, true)), 0, false, []⟩,
    ⟨(some 32), (.load false 1 (.t 31)), (some (28, true)), 0, false, []⟩,
    ⟨(some 33), (.pick (.t 28) (.t 32) (.c (.bool false))), none, 0, false, []⟩] false
def a41_4 : AC := .reg [⟨(some 34), (.mv (.t 1)), none, 0, false, []⟩,
    ⟨(some 35), (.nilck (.t 34)), none, 0, false, []⟩,
    ⟨(some 36), (.fad 3 (.t 35)), none, 0, false, []⟩,
    ⟨(some 37), (.load false 1 (.t 36)), none, 0, false, []⟩,
    ⟨(some 4), (.mv (.t 37)), none, 0, false, []⟩] false
def a41_5 : AC := .seq a41_4 .ret
def a41_6 : AC := .cond (.t 33) a41_5 .skip
def a41_7 : AC := .seq a41_3 a41_6
def a41_8 : AC := .seq a41_2 a41_7
def a41_9 : AC := .reg [⟨(some 4), (.mv (.c (.int .i64 0))), none, 0, false, []⟩] false
def a41_10 : AC := .seq a41_9 .ret
def a41_11 : AC := .seq a41_8 a41_10
def a41_12 : AC := .cond (.t 11) a41_11 .skip
def a41_13 : AC := .seq a41_1 a41_12
def a41_14 : AC := .reg [⟨(some 38), (.mv (.t 1)), none, 0, false, []⟩,
    ⟨(some 39), (.nilck (.t 38)), none, 0, false, []⟩,
    ⟨(some 40), (.fad 0 (.t 39)), none, 0, false, []⟩,
    ⟨(some 41), (.load false 1 (.t 40)), none, 0, false, []⟩,
    ⟨(some 42), (.call 58 [(.t 41)]), none, 0, false, []⟩,
    ⟨(some 6), (.mv (.t 42)), none, 0, false, []⟩] false
def a41_15 : AC := .reg [⟨(some 43), (.mv (.t 6)), none, 0, false, []⟩,
    ⟨(some 44), (.bin 0 .lss (.t 43) (.c (.int .i64 0))), none, 0, false, []⟩] false
def a41_16 : AC := .reg [⟨(some 4), (.mv (.c (.int .i64 0))), none, 0, false, []⟩] false
def a41_17 : AC := .seq a41_16 .ret
def a41_18 : AC := .cond (.t 44) a41_17 .skip
def a41_19 : AC := .seq a41_15 a41_18
def a41_20 : AC := .reg [⟨(some 45), (.mv (.t 1)), none, 0, false, []⟩,
    ⟨(some 46), (.nilck (.t 45)), none, 0, false, []⟩,
    ⟨(some 47), (.fad 5 (.t 46)), none, 0, false, []⟩,
    ⟨(some 48), (.load false 1 (.t 47)), none, 0, false, []⟩,
    ⟨(some 49), (.mv (.t 6)), none, 0, false, []⟩,
    ⟨(some 50), (.iad 1 (.t 48) (.t 49)), none, 0, false, []⟩,
    ⟨(some 51), (.load false 1 (.t 50)), none, 0, false, []⟩,
    ⟨(some 52), (.nilck (.t 51)), none, 0, false, []⟩,
    ⟨(some 53), (.fad 7 (.t 52)), none, 0, false, []⟩,
    ⟨(some 54), (.load false 1 (.t 53)), none, 0, false, []⟩,
    ⟨(some 1), (.mv (.t 54)), none, 0, false, []⟩] false
def a41_21 : AC := .seq a41_19 a41_20
def a41_22 : AC := .seq a41_14 a41_21
def a41_23 : AC := .seq a41_13 a41_22
def a41_24 : AC := .blk 1 a41_23
def a41_25 : AC := .loop a41_24
def a41_26 : AC := .blk 0 a41_25
def a41_27 : AC := .seq a41_0 a41_26
def af41 : AF := { ntmps := 55, res := [(.t 4)], body := a41_27 }
theorem tr41 : trF Tryd.prog Tryd.f41 = some af41 := by kernel_rfl
attribute [go_sem] af41 a41_0 a41_1 a41_2 a41_3 a41_4 a41_5 a41_6 a41_7 a41_8 a41_9 a41_10 a41_11 a41_12 a41_13 a41_14 a41_15 a41_16 a41_17 a41_18 a41_19 a41_20 a41_21 a41_22 a41_23 a41_24 a41_25 a41_26 a41_27
def a42_0 : AC := .reg [⟨(some 4), (.mv (.c .nilp)), none, 0, false, []⟩] false
def a42_1 : AC := .reg [⟨(some 9), (.mv (.t 1)), none, 0, false, []⟩,
    ⟨(some 10), (.nilck (.t 9)), none, 0, false, []⟩,
    ⟨(some 11), (.fad 0 (.t 10)), none, 0, false, []⟩,
    ⟨(some 12), (.load false 1 (.t 11)), none, 0, false, []⟩,
    ⟨(some 13), (.bin 0 .eql (.t 12) (.c (.int .i64 23))), none, 0, false, []⟩] false
def a42_2 : AC := .reg [⟨(some 14), (.mv (.t 0)), none, 0, false, []⟩,
    ⟨(some 15), (.hcall 59 [(.t 14)]), none, 0, false, []⟩] false
def a42_3 : AC := .reg [⟨(some 5), (.mv (.c .nilp)), none, 0, false, []⟩] false
def a42_4 : AC := .reg [⟨(some 16), (.mv (.t 1)), none, 0, false, []⟩,
    ⟨(some 17), (.nilck (.t 16)), none, 0, false, []⟩,
    ⟨(some 18), (.fad 5 (.t 17)), none, 0, false, []⟩,
    ⟨(some 19), (.load false 1 (.t 18)), none, 0, false, []⟩,
    ⟨(some 20), (.len false (.t 19)), none, 0, false, []⟩,
    ⟨(some 21), (.mv (.c (.int .i64 0))), none, 0, false, []⟩] false
def a42_5 : AC := .reg [⟨(some 22), (.bin 0 .lss (.t 21) (.t 20)), none, 0, false, []⟩] false
def a42_6 : AC := .cond (.t 22) .skip (.exit 0)
def a42_7 : AC := .reg [⟨(some 23), (.iad 1 (.t 19) (.t 21)), none, 0, false, []⟩,
    ⟨(some 24), (.load false 1 (.t 23)), none, 0, false, []⟩,
    ⟨(some 7), (.mv (.t 24)), none, 0, false, []⟩] false
def a42_8 : AC := .reg [⟨(some 25), (.mv (.t 5)), none, 0, false, []⟩,
    ⟨(some 26), (.mv (.t 7)), none, 0, false, []⟩,
    ⟨(some 27), (.call 52 [(.t 25), (.t 26)]), none, 0, false, []⟩,
    ⟨(some 5), (.mv (.t 27)), none, 0, false, []⟩] false
def a42_9 : AC := .seq a42_7 a42_8
def a42_10 : AC := .blk 1 a42_9
def a42_11 : AC := .reg [⟨(some 28), (.bin 0 .add (.t 21) (.c (.int .i64 1))), none, 0, false, []⟩,
    ⟨(some 21), (.mv (.t 28)), none, 0, false, []⟩] false
def a42_12 : AC := .seq a42_10 a42_11
def a42_13 : AC := .seq a42_6 a42_12
def a42_14 : AC := .seq a42_5 a42_13
def a42_15 : AC := .loop a42_14
def a42_16 : AC := .blk 0 a42_15
def a42_17 : AC := .seq a42_4 a42_16
def a42_18 : AC := .reg [⟨(some 29), (.mv (.t 0)), none, 0, false, []⟩,
    ⟨(some 30), (.mv (.t 0)), none, 1, false, []⟩,
    ⟨(some 31), (.mv (.t 1)), none, 2, false, []⟩,
    ⟨(some 32), (.nilck (.t 31)), none, 3, false, []⟩,
    ⟨(some 33), (.fad 3 (.t 32)), none, 4, false, []⟩,
    ⟨(some 34), (.load false 1 (.t 33)), none, 5, false, []⟩,
    ⟨(some 35), (.mv (.t 1)), none, 6, false, []⟩,
    ⟨(some 36), (.nilck (.t 35)), none, 7, false, []⟩,
    ⟨(some 37), (.fad 1 (.t 36)), none, 8, false, []⟩,
    ⟨(some 38), (.load false 1 (.t 37)), none, 9, false, []⟩,
    ⟨(some 39), (.mv (.t 1)), none, 10, false, []⟩,
    ⟨(some 40), (.nilck (.t 39)), none, 11, false, []⟩,
    ⟨(some 41), (.fad 2 (.t 40)), none, 12, false, []⟩,
    ⟨(some 42), (.load false 1 (.t 41)), none, 13, false, []⟩,
    ⟨(some 43), (.hcall 57 [(.t 30), (.t 34), (.t 38), (.t 42)]), none, 14, false, []⟩,
    ⟨(some 44), (.nilck (.t 43)), none, 15, false, []⟩,
    ⟨(some 45), (.fad 7 (.t 44)), none, 16, false, []⟩,
    ⟨(some 46), (.load true 5 (.t 45)), none, 17, false, []⟩,
    ⟨(some 47), (.mv (.t 5)), none, 18, false, []⟩,
    ⟨(some 48), (.hcall 56 [(.t 29), (.t 46), (.t 47)]), none, 19, false, [19]⟩,
    ⟨(some 4), (.mv (.t 48)), none, 20, false, []⟩] true
def a42_19 : AC := .seq a42_18 .ret
def a42_20 : AC := .seq a42_17 a42_19
def a42_21 : AC := .seq a42_3 a42_20
def a42_22 : AC := .seq a42_2 a42_21
def a42_23 : AC := .cond (.t 13) a42_22 .skip
def a42_24 : AC := .seq a42_1 a42_23
def a42_25 : AC := .reg [⟨(some 49), (.mv (.t 1)), none, 0, false, []⟩,
    ⟨(some 50), (.nilck (.t 49)), none, 0, false, []⟩,
    ⟨(some 51), (.fad 0 (.t 50)), none, 0, false, []⟩,
    ⟨(some 52), (.load false 1 (.t 51)), none, 0, false, []⟩,
    ⟨(some 53), (.call 58 [(.t 52)]), none, 0, false, []⟩,
    ⟨(some 8), (.mv (.t 53)), none, 0, false, []⟩] false
def a42_26 : AC := .reg [⟨(some 54), (.mv (.t 0)), none, 0, false, []⟩,
    ⟨(some 55), (.mv (.t 1)), none, 0, false, []⟩,
    ⟨(some 56), (.mv (.t 8)), none, 0, false, []⟩,
    ⟨(some 57), (.mv (.t 0)), none, 0, false, []⟩,
    ⟨(some 58), (.mv (.t 1)), none, 0, false, []⟩,
    ⟨(some 59), (.nilck (.t 58)), none, 0, false, []⟩,
    ⟨(some 60), (.fad 5 (.t 59)), none, 0, false, []⟩,
    ⟨(some 61), (.load false 1 (.t 60)), none, 0, false, []⟩,
    ⟨(some 62), (.mv (.t 8)), none, 0, false, []⟩,
    ⟨(some 63), (.iad 1 (.t 61) (.t 62)), none, 0, false, []⟩,
    ⟨(some 64), (.load false 1 (.t 63)), none, 0, false, []⟩,
    ⟨(some 65), (.nilck (.t 64)), none, 0, false, []⟩,
    ⟨(some 66), (.fad 7 (.t 65)), none, 0, false, []⟩,
    ⟨(some 67), (.load false 1 (.t 66)), none, 0, false, []⟩,
    ⟨(some 68), (.hcall 42 [(.t 57), (.t 67)]), none, 0, false, []⟩,
    ⟨(some 69), (.hcall 60 [(.t 54), (.t 55), (.t 56), (.t 68)]), none, 0, false, []⟩,
    ⟨(some 4), (.mv (.t 69)), none, 0, false, []⟩] false
def a42_27 : AC := .seq a42_26 .ret
def a42_28 : AC := .seq a42_25 a42_27
def a42_29 : AC := .seq a42_24 a42_28
def a42_30 : AC := .seq a42_0 a42_29
def af42 : AF := { ntmps := 70, res := [(.t 4)], body := a42_30 }
theorem tr42 : trF Tryd.prog Tryd.f42 = some af42 := by kernel_rfl
attribute [go_sem] af42 a42_0 a42_1 a42_2 a42_3 a42_4 a42_5 a42_6 a42_7 a42_8 a42_9 a42_10 a42_11 a42_12 a42_13 a42_14 a42_15 a42_16 a42_17 a42_18 a42_19 a42_20 a42_21 a42_22 a42_23 a42_24 a42_25 a42_26 a42_27 a42_28 a42_29 a42_30
def a56_0 : AC := .reg [⟨(some 4), (.box (.t 1)), none, 0, false, []⟩,
    ⟨(some 6), (.mv (.c .nilp)), none, 0, false, []⟩] false
def a56_1 : AC := .reg [⟨(some 10), (.fad 0 (.t 4)), none, 0, false, []⟩,
    ⟨(some 11), (.load false 1 (.t 10)), none, 0, false, []⟩,
    ⟨(some 12), (.bin 0 .eql (.t 11) (.c (.int .i64 2))), none, 0, false, []⟩] false
def a56_2 : AC := .reg [⟨(some 13), (.mv (.t 2)), none, 0, false, []⟩,
    ⟨(some 14), (.fad 1 (.t 4)), none, 0, false, []⟩,
    ⟨(some 15), (.load false 1 (.t 14)), none, 0, false, []⟩,
    ⟨(some 16), (.call 54 [(.t 13), (.t 15)]), none, 0, false, []⟩,
    ⟨(some 7), (.mv (.t 16)), none, 0, false, []⟩] false
def a56_3 : AC := .reg [⟨(some 17), (.mv (.t 7)), none, 0, false, []⟩,
    ⟨(some 18), (.bin 2 .neq (.t 17) (.c .nilp)), none, 0, false, []⟩] false
def a56_4 : AC := .reg [⟨(some 19), (.mv (.t 0)), none, 0, false, []⟩,
    ⟨(some 20), (.mv (.t 7)), none, 0, false, []⟩,
    ⟨(some 21), (.hcall 40 [(.t 19), (.t 20)]), none, 0, false, []⟩,
    ⟨(some 6), (.mv (.t 21)), none, 0, false, []⟩] false
def a56_5 : AC := .seq a56_4 .ret
def a56_6 : AC := .cond (.t 18) a56_5 .skip
def a56_7 : AC := .seq a56_3 a56_6
def a56_8 : AC := .seq a56_2 a56_7
def a56_9 : AC := .reg [⟨(some 22), (.mv (.t 2)), none, 0, false, []⟩,
    ⟨(some 23), (.call 55 [(.t 22)]), none, 1, true, []⟩,
    ⟨(some 24), (.fad 1 (.t 4)), none, 2, false, []⟩,
    ⟨(some 25), (.load false 1 (.t 24)), none, 3, false, [1]⟩,
    ⟨(some 26), (.bin 0 .sub (.t 23) (.t 25)), none, 4, false, []⟩,
    ⟨(some 27), (.bin 0 .sub (.t 26) (.c (.int .i64 1))), none, 5, false, []⟩,
    ⟨(some 28), (.build [(.int .i64 0), (.int .i64 0), (.int .i64 0), (.int .i64 0), (.int .i64 0), .nils] [(0, (1, (.c (.int .i64 2)))), (4, (1, (.t 27)))]), none, 6, false, []⟩,
    ⟨(some 29), (.box (.t 28)), none, 7, false, []⟩,
    ⟨(some 6), (.mv (.t 29)), none, 8, false, []⟩] true
def a56_10 : AC := .seq a56_9 .ret
def a56_11 : AC := .seq a56_8 a56_10
def a56_12 : AC := .cond (.t 12) a56_11 .skip
def a56_13 : AC := .seq a56_1 a56_12
def a56_14 : AC := .reg [⟨(some 30), (.fad 0 (.t 4)), none, 0, false, []⟩,
    ⟨(some 31), (.load false 1 (.t 30)), none, 0, false, []⟩,
    ⟨(some 32), (.call 58 [(.t 31)]), none, 0, false, []⟩,
    ⟨(some 8), (.mv (.t 32)), none, 0, false, []⟩] false
def a56_15 : AC := .reg [⟨(some 33), (.mv (.t 8)), none, 0, false, []⟩,
    ⟨(some 34), (.bin 0 .lss (.t 33) (.c (.int .i64 0))), none, 0, false, []⟩] false
def a56_16 : AC := .reg [⟨(some 35), (.mv (.t 0)), none, 0, false, []⟩,
    ⟨(some 36), (.load true 5 (.t 4)), none, 0, false, []⟩,
    ⟨(some 37), (.mv (.t 2)), none, 0, false, []⟩,
    ⟨(some 38), (.hcall 68 [(.t 35), (.t 36), (.t 37), (.c (.int .i64 (-1))), (.c .nilp)]), none, 0, false, []⟩,
    ⟨(some 6), (.mv (.t 38)), none, 0, false, []⟩] false
def a56_17 : AC := .seq a56_16 .ret
def a56_18 : AC := .cond (.t 34) a56_17 .skip
def a56_19 : AC := .seq a56_15 a56_18
def a56_20 : AC := .reg [⟨(some 39), (.mv (.t 0)), none, 0, false, []⟩,
    ⟨(some 40), (.fad 4 (.t 4)), none, 0, false, []⟩,
    ⟨(some 41), (.load false 1 (.t 40)), none, 0, false, []⟩,
    ⟨(some 42), (.mv (.t 8)), none, 0, false, []⟩,
    ⟨(some 43), (.iad 5 (.t 41) (.t 42)), none, 0, false, []⟩,
    ⟨(some 44), (.load true 5 (.t 43)), none, 0, false, []⟩,
    ⟨(some 45), (.mv (.t 2)), none, 0, false, []⟩,
    ⟨(some 46), (.hcall 56 [(.t 39), (.t 44), (.t 45)]), none, 0, false, []⟩,
    ⟨(some 9), (.mv (.t 46)), none, 0, false, []⟩] false
def a56_21 : AC := .reg [⟨(some 54), (.fad 0 (.t 4)), none, 0, false, []⟩,
    ⟨(some 55), (.load false 1 (.t 54)), none, 0, false, []⟩,
    ⟨(some 56), (.bin 0 .eql (.t 55) (.c (.int .i64 15))), none, 0, false, []⟩,
    ⟨(some 57), (.mv (.t 56)), none, 0, false, []⟩,
    ⟨(some 58), (.mv (.t 9)), (some (57, true)), 0, false, []⟩,
    ⟨(some 59), (.nilck (.t 58)), (some (57, true)), 0, false, []⟩,
    ⟨(some 60), (.fad 0 (.t 59)), (some (57, true)), 0, false, []⟩,
    ⟨(some 61), (.load false 1 (.t 60)), (some (57, true)), 0, false, []⟩,
    ⟨(some 62), (.bin 0 .eql (.t 61) (.c (.int .i64 14))), (some (57, true)), 0, false, []⟩,
    ⟨(some 63), (.pick (.t 57) (.t 62) (.c (.bool false))), none, 0, false, []⟩,
    ⟨(some 53), (.mv (.t 63)), none, 0, false, []⟩] false
def a56_22 : AC := .reg [⟨(some 64), (.mv (.t 0)), none, 0, false, []⟩,
    ⟨(some 65), (.hcall 59 [(.t 64)]), none, 0, false, []⟩] false
def a56_23 : AC := .reg [⟨(some 66), (.mv (.t 9)), none, 0, false, []⟩,
    ⟨(some 67), (.nilck (.t 66)), none, 1, false, []⟩,
    ⟨(some 68), (.fad 5 (.t 67)), none, 2, false, []⟩,
    ⟨(some 69), (.load false 1 (.t 68)), none, 3, true, []⟩,
    ⟨(some 70), (.iad 1 (.t 69) (.c (.int .i64 1))), none, 4, true, []⟩,
    ⟨(some 71), (.load false 1 (.t 70)), none, 5, true, []⟩,
    ⟨(some 72), (.nilck (.t 71)), none, 6, false, []⟩,
    ⟨(some 73), (.fad 0 (.t 72)), none, 7, false, []⟩,
    ⟨(some 74), (.load true 5 (.t 73)), none, 8, true, []⟩,
    ⟨(some 75), (.mv (.t 9)), none, 9, false, []⟩,
    ⟨(some 76), (.nilck (.t 75)), none, 10, false, []⟩,
    ⟨(some 77), (.fad 5 (.t 76)), none, 11, false, []⟩,
    ⟨(some 78), (.load false 1 (.t 77)), none, 12, true, []⟩,
    ⟨(some 79), (.iad 1 (.t 78) (.c (.int .i64 1))), none, 13, true, []⟩,
    ⟨(some 80), (.load false 1 (.t 79)), none, 14, true, []⟩,
    ⟨(some 81), (.nilck (.t 80)), none, 15, false, []⟩,
    ⟨(some 82), (.fad 5 (.t 81)), none, 16, false, []⟩,
    ⟨(some 83), (.load false 1 (.t 82)), none, 17, true, []⟩,
    ⟨(some 84), (.fad 4 (.t 4)), none, 18, false, []⟩,
    ⟨(some 85), (.load false 1 (.t 84)), none, 19, false, []⟩,
    ⟨(some 86), (.iad 5 (.t 85) (.c (.int .i64 1))), none, 20, false, []⟩,
    ⟨(some 87), (.load true 5 (.t 86)), none, 21, false, []⟩,
    ⟨(some 88), (.mv (.t 2)), none, 22, false, []⟩,
    ⟨(some 89), (.hcall 21 [(.t 87), (.t 88)]), none, 23, false, [3, 4, 5, 8, 12, 13, 14, 17, 23]⟩,
    ⟨(some 90), (.call 52 [(.t 83), (.t 89)]), none, 24, false, [3, 4, 5, 8]⟩,
    ⟨none, (.store 5 (.t 4) (.t 74)), none, 25, false, []⟩,
    ⟨(some 2), (.mv (.t 90)), none, 26, false, []⟩] true
def a56_24 : AC := .seq a56_22 a56_23
def a56_25 : AC := .reg [⟨(some 92), (.fad 0 (.t 4)), none, 0, false, []⟩,
    ⟨(some 93), (.load false 1 (.t 92)), none, 0, false, []⟩,
    ⟨(some 94), (.bin 0 .eql (.t 93) (.c (.int .i64 18))), none, 0, false, []⟩,
    ⟨(some 95), (.mv (.t 94)), none, 0, false, []⟩,
    ⟨(some 96), (.mv (.t 9)), (some (95, true)), 0, false, []⟩,
    ⟨(some 97), (.nilck (.t 96)), (some (95, true)), 0, false, []⟩,
    ⟨(some 98), (.fad 0 (.t 97)), (some (95, true)), 0, false, []⟩,
    ⟨(some 99), (.load false 1 (.t 98)), (some (95, true)), 0, false, []⟩,
    ⟨(some 100), (.bin 0 .eql (.t 99) (.c (.int .i64 17))), (some (95, true)), 0, false, []⟩,
    ⟨(some 101), (.pick (.t 95) (.t 100) (.c (.bool false))), none, 0, false, []⟩,
    ⟨(some 91), (.mv (.t 101)), none, 0, false, []⟩] false
def a56_26 : AC := .reg [⟨(some 102), (.mv (.t 0)), none, 0, false, []⟩,
    ⟨(some 103), (.hcall 59 [(.t 102)]), none, 0, false, []⟩] false
def a56_27 : AC := .reg [⟨(some 104), (.mv (.t 0)), none, 0, false, []⟩,
    ⟨(some 105), (.mv (.t 9)), none, 0, false, []⟩,
    ⟨(some 106), (.nilck (.t 105)), none, 0, false, []⟩,
    ⟨(some 107), (.fad 5 (.t 106)), none, 0, false, []⟩,
    ⟨(some 108), (.load false 1 (.t 107)), none, 0, false, []⟩,
    ⟨(some 109), (.iad 1 (.t 108) (.c (.int .i64 2))), none, 0, false, []⟩,
    ⟨(some 110), (.load false 1 (.t 109)), none, 0, false, []⟩,
    ⟨(some 111), (.hcall 40 [(.t 104), (.t 110)]), none, 0, false, []⟩,
    ⟨(some 6), (.mv (.t 111)), none, 0, false, []⟩] false
def a56_28 : AC := .seq a56_27 .ret
def a56_29 : AC := .seq a56_26 a56_28
def a56_30 : AC := .reg [⟨(some 113), (.fad 0 (.t 4)), none, 0, false, []⟩,
    ⟨(some 114), (.load false 1 (.t 113)), none, 0, false, []⟩,
    ⟨(some 115), (.bin 0 .eql (.t 114) (.c (.int .i64 19))), none, 0, false, []⟩,
    ⟨(some 116), (.mv (.t 115)), none, 0, false, []⟩,
    ⟨(some 117), (.mv (.t 9)), (some (116, true)), 0, false, []⟩,
    ⟨(some 118), (.nilck (.t 117)), (some (116, true)), 0, false, []⟩,
    ⟨(some 119), (.fad 0 (.t 118)), (some (116, true)), 0, false, []⟩,
    ⟨(some 120), (.load false 1 (.t 119)), (some (116, true)), 0, false, []⟩,
    ⟨(some 121), (.bin 0 .eql (.t 120) (.c (.int .i64 17))), (some (116, true)), 0, false, []⟩,
    ⟨(some 122), (.pick (.t 116) (.t 121) (.c (.bool false))), none, 0, false, []⟩,
    ⟨(some 112), (.mv (.t 122)), none, 0, false, []⟩] false
def a56_31 : AC := .reg [⟨(some 123), (.mv (.t 0)), none, 0, false, []⟩,
    ⟨(some 124), (.hcall 59 [(.t 123)]), none, 0, false, []⟩] false
def a56_32 : AC := .reg [⟨(some 125), (.mv (.t 0)), none, 0, false, []⟩,
    ⟨(some 126), (.mv (.t 9)), none, 0, false, []⟩,
    ⟨(some 127), (.nilck (.t 126)), none, 0, false, []⟩,
    ⟨(some 128), (.fad 5 (.t 127)), none, 0, false, []⟩,
    ⟨(some 129), (.load false 1 (.t 128)), none, 0, false, []⟩,
    ⟨(some 130), (.iad 1 (.t 129) (.c (.int .i64 3))), none, 0, false, []⟩,
    ⟨(some 131), (.load false 1 (.t 130)), none, 0, false, []⟩,
    ⟨(some 132), (.hcall 40 [(.t 125), (.t 131)]), none, 0, false, []⟩,
    ⟨(some 6), (.mv (.t 132)), none, 0, false, []⟩] false
def a56_33 : AC := .seq a56_32 .ret
def a56_34 : AC := .seq a56_31 a56_33
def a56_35 : AC := .reg [⟨(some 134), (.fad 0 (.t 4)), none, 0, false, []⟩,
    ⟨(some 135), (.load false 1 (.t 134)), none, 0, false, []⟩,
    ⟨(some 136), (.bin 0 .eql (.t 135) (.c (.int .i64 22))), none, 0, false, []⟩,
    ⟨(some 137), (.mv (.t 136)), none, 0, false, []⟩,
    ⟨(some 138), (.mv (.t 9)), (some (137, true)), 0, false, []⟩,
    ⟨(some 139), (.nilck (.t 138)), (some (137, true)), 0, false, []⟩,
    ⟨(some 140), (.fad 0 (.t 139)), (some (137, true)), 0, false, []⟩,
    ⟨(some 141), (.load false 1 (.t 140)), (some (137, true)), 0, false, []⟩,
    ⟨(some 142), (.bin 0 .eql (.t 141) (.c (.int .i64 21))), (some (137, true)), 0, false, []⟩,
    ⟨(some 143), (.pick (.t 137) (.t 142) (.c (.bool false))), none, 0, false, []⟩,
    ⟨(some 133), (.mv (.t 143)), none, 0, false, []⟩] false
def a56_36 : AC := .reg [⟨(some 144), (.mv (.t 0)), none, 0, false, []⟩,
    ⟨(some 145), (.hcall 59 [(.t 144)]), none, 0, false, []⟩] false
def a56_37 : AC := .reg [⟨(some 146), (.fad 4 (.t 4)), none, 0, false, []⟩,
    ⟨(some 147), (.load false 1 (.t 146)), none, 0, false, []⟩,
    ⟨(some 148), (.iad 5 (.t 147) (.c (.int .i64 3))), none, 0, false, []⟩,
    ⟨(some 149), (.load true 5 (.t 148)), none, 0, false, []⟩,
    ⟨none, (.store 5 (.t 4) (.t 149)), none, 0, false, []⟩] false
def a56_38 : AC := .seq a56_36 a56_37
def a56_39 : AC := .reg [⟨(some 47), (.mv (.t 0)), none, 0, false, []⟩,
    ⟨(some 48), (.load true 5 (.t 4)), none, 0, false, []⟩,
    ⟨(some 49), (.mv (.t 2)), none, 0, false, []⟩,
    ⟨(some 50), (.mv (.t 8)), none, 0, false, []⟩,
    ⟨(some 51), (.mv (.t 9)), none, 0, false, []⟩,
    ⟨(some 52), (.hcall 68 [(.t 47), (.t 48), (.t 49), (.t 50), (.t 51)]), none, 0, false, []⟩,
    ⟨(some 6), (.mv (.t 52)), none, 0, false, []⟩] false
def a56_40 : AC := .seq a56_39 .ret
def a56_41 : AC := .cond (.t 133) a56_38 a56_40
def a56_42 : AC := .seq a56_35 a56_41
def a56_43 : AC := .cond (.t 112) a56_34 a56_42
def a56_44 : AC := .seq a56_30 a56_43
def a56_45 : AC := .cond (.t 91) a56_29 a56_44
def a56_46 : AC := .seq a56_25 a56_45
def a56_47 : AC := .cond (.t 53) a56_24 a56_46
def a56_48 : AC := .seq a56_21 a56_47
def a56_49 : AC := .blk 2 a56_48
def a56_50 : AC := .seq a56_20 a56_49
def a56_51 : AC := .seq a56_19 a56_50
def a56_52 : AC := .seq a56_14 a56_51
def a56_53 : AC := .seq a56_13 a56_52
def a56_54 : AC := .blk 1 a56_53
def a56_55 : AC := .loop a56_54
def a56_56 : AC := .blk 0 a56_55
def a56_57 : AC := .seq a56_0 a56_56
def af56 : AF := { ntmps := 150, res := [(.t 6)], body := a56_57 }
theorem tr56 : trF Tryd.prog Tryd.f56 = some af56 := by kernel_rfl
attribute [go_sem] af56 a56_0 a56_1 a56_2 a56_3 a56_4 a56_5 a56_6 a56_7 a56_8 a56_9 a56_10 a56_11 a56_12 a56_13 a56_14 a56_15 a56_16 a56_17 a56_18 a56_19 a56_20 a56_21 a56_22 a56_23 a56_24 a56_25 a56_26 a56_27 a56_28 a56_29 a56_30 a56_31 a56_32 a56_33 a56_34 a56_35 a56_36 a56_37 a56_38 a56_39 a56_40 a56_41 a56_42 a56_43 a56_44 a56_45 a56_46 a56_47 a56_48 a56_49 a56_50 a56_51 a56_52 a56_53 a56_54 a56_55 a56_56 a56_57
def a60_0 : AC := .reg [⟨(some 8), (.mv (.c .nilp)), none, 0, false, []⟩] false
def a60_1 : AC := .reg [⟨(some 11), (.mv (.t 1)), none, 0, false, []⟩,
    ⟨(some 12), (.nilck (.t 11)), none, 0, false, []⟩,
    ⟨(some 13), (.fad 0 (.t 12)), none, 0, false, []⟩,
    ⟨(some 14), (.load false 1 (.t 13)), none, 0, false, []⟩,
    ⟨(some 15), (.bin 0 .eql (.t 14) (.c (.int .i64 15))), none, 0, false, []⟩,
    ⟨(some 16), (.mv (.t 15)), none, 0, false, []⟩,
    ⟨(some 17), (.mv (.t 3)), (some (16, true)), 0, false, []⟩,
    ⟨(some 18), (.nilck (.t 17)), (some (16, true)), 0, false, []⟩,
    ⟨(some 19), (.fad 0 (.t 18)), (some (16, true)), 0, false, []⟩,
    ⟨(some 20), (.load false 1 (.t 19)), (some (16, true)), 0, false, []⟩,
    ⟨(some 21), (.bin 0 .eql (.t 20) (.c (.int .i64 14))), (some (16, true)), 0, false, []⟩,
    ⟨(some 22), (.pick (.t 16) (.t 21) (.c (.bool false))), none, 0, false, []⟩,
    ⟨(some 10), (.mv (.t 22)), none, 0, false, []⟩] false
def a60_2 : AC := .reg [⟨(some 23), (.mv (.t 0)), none, 0, false, []⟩,
    ⟨(some 24), (.hcall 59 [(.t 23)]), none, 0, false, []⟩] false
def a60_3 : AC := .reg [⟨(some 25), (.mv (.t 0)), none, 0, false, []⟩,
    ⟨(some 26), (.mv (.t 3)), none, 1, false, []⟩,
    ⟨(some 27), (.nilck (.t 26)), none, 2, false, []⟩,
    ⟨(some 28), (.fad 5 (.t 27)), none, 3, false, []⟩,
    ⟨(some 29), (.load false 1 (.t 28)), none, 4, true, []⟩,
    ⟨(some 30), (.iad 1 (.t 29) (.c (.int .i64 1))), none, 5, true, []⟩,
    ⟨(some 31), (.load false 1 (.t 30)), none, 6, true, []⟩,
    ⟨(some 32), (.nilck (.t 31)), none, 7, false, []⟩,
    ⟨(some 33), (.fad 0 (.t 32)), none, 8, false, []⟩,
    ⟨(some 34), (.load true 5 (.t 33)), none, 9, true, []⟩,
    ⟨(some 35), (.mv (.t 3)), none, 10, false, []⟩,
    ⟨(some 36), (.nilck (.t 35)), none, 11, false, []⟩,
    ⟨(some 37), (.fad 5 (.t 36)), none, 12, false, []⟩,
    ⟨(some 38), (.load false 1 (.t 37)), none, 13, false, []⟩,
    ⟨(some 39), (.iad 1 (.t 38) (.c (.int .i64 1))), none, 14, false, []⟩,
    ⟨(some 40), (.load false 1 (.t 39)), none, 15, false, []⟩,
    ⟨(some 41), (.nilck (.t 40)), none, 16, false, []⟩,
    ⟨(some 42), (.fad 5 (.t 41)), none, 17, false, []⟩,
    ⟨(some 43), (.load false 1 (.t 42)), none, 18, false, []⟩,
    ⟨(some 44), (.mv (.t 1)), none, 19, false, []⟩,
    ⟨(some 45), (.nilck (.t 44)), none, 20, false, []⟩,
    ⟨(some 46), (.fad 5 (.t 45)), none, 21, false, []⟩,
    ⟨(some 47), (.load false 1 (.t 46)), none, 22, false, []⟩,
    ⟨(some 48), (.iad 1 (.t 47) (.c (.int .i64 1))), none, 23, false, []⟩,
    ⟨(some 49), (.load false 1 (.t 48)), none, 24, false, []⟩,
    ⟨(some 50), (.call 52 [(.t 43), (.t 49)]), none, 25, false, [4, 5, 6, 9]⟩,
    ⟨(some 51), (.hcall 56 [(.t 25), (.t 34), (.t 50)]), none, 26, false, [26]⟩,
    ⟨(some 8), (.mv (.t 51)), none, 27, false, []⟩] true
def a60_4 : AC := .seq a60_3 .ret
def a60_5 : AC := .seq a60_2 a60_4
def a60_6 : AC := .reg [⟨(some 53), (.mv (.t 1)), none, 0, false, []⟩,
    ⟨(some 54), (.nilck (.t 53)), none, 0, false, []⟩,
    ⟨(some 55), (.fad 0 (.t 54)), none, 0, false, []⟩,
    ⟨(some 56), (.load false 1 (.t 55)), none, 0, false, []⟩,
    ⟨(some 57), (.bin 0 .eql (.t 56) (.c (.int .i64 18))), none, 0, false, []⟩,
    ⟨(some 58), (.mv (.t 57)), none, 0, false, []⟩,
    ⟨(some 59), (.mv (.t 3)), (some (58, true)), 0, false, []⟩,
    ⟨(some 60), (.nilck (.t 59)), (some (58, true)), 0, false, []⟩,
    ⟨(some 61), (.fad 0 (.t 60)), (some (58, true)), 0, false, []⟩,
    ⟨(some 62), (.load false 1 (.t 61)), (some (58, true)), 0, false, []⟩,
    ⟨(some 63), (.bin 0 .eql (.t 62) (.c (.int .i64 17))), (some (58, true)), 0, false, []⟩,
    ⟨(some 64), (.pick (.t 58) (.t 63) (.c (.bool false))), none, 0, false, []⟩,
    ⟨(some 52), (.mv (.t 64)), none, 0, false, []⟩] false
def a60_7 : AC := .reg [⟨(some 65), (.mv (.t 0)), none, 0, false, []⟩,
    ⟨(some 66), (.hcall 59 [(.t 65)]), none, 0, false, []⟩] false
def a60_8 : AC := .reg [⟨(some 67), (.mv (.t 0)), none, 0, false, []⟩,
    ⟨(some 68), (.mv (.t 3)), none, 0, false, []⟩,
    ⟨(some 69), (.nilck (.t 68)), none, 0, false, []⟩,
    ⟨(some 70), (.fad 5 (.t 69)), none, 0, false, []⟩,
    ⟨(some 71), (.load false 1 (.t 70)), none, 0, false, []⟩,
    ⟨(some 72), (.iad 1 (.t 71) (.c (.int .i64 2))), none, 0, false, []⟩,
    ⟨(some 73), (.load false 1 (.t 72)), none, 0, false, []⟩,
    ⟨(some 74), (.hcall 40 [(.t 67), (.t 73)]), none, 0, false, []⟩,
    ⟨(some 8), (.mv (.t 74)), none, 0, false, []⟩] false
def a60_9 : AC := .seq a60_8 .ret
def a60_10 : AC := .seq a60_7 a60_9
def a60_11 : AC := .reg [⟨(some 76), (.mv (.t 1)), none, 0, false, []⟩,
    ⟨(some 77), (.nilck (.t 76)), none, 0, false, []⟩,
    ⟨(some 78), (.fad 0 (.t 77)), none, 0, false, []⟩,
    ⟨(some 79), (.load false 1 (.t 78)), none, 0, false, []⟩,
    ⟨(some 80), (.bin 0 .eql (.t 79) (.c (.int .i64 19))), none, 0, false, []⟩,
    ⟨(some 81), (.mv (.t 80)), none, 0, false, []⟩,
    ⟨(some 82), (.mv (.t 3)), (some (81, true)), 0, false, []⟩,
    ⟨(some 83), (.nilck (.t 82)), (some (81, true)), 0, false, []⟩,
    ⟨(some 84), (.fad 0 (.t 83)), (some (81, true)), 0, false, []⟩,
    ⟨(some 85), (.load false 1 (.t 84)), (some (81, true)), 0, false, []⟩,
    ⟨(some 86), (.bin 0 .eql (.t 85) (.c (.int .i64 17))), (some (81, true)), 0, false, []⟩,
    ⟨(some 87), (.pick (.t 81) (.t 86) (.c (.bool false))), none, 0, false, []⟩,
    ⟨(some 75), (.mv (.t 87)), none, 0, false, []⟩] false
def a60_12 : AC := .reg [⟨(some 88), (.mv (.t 0)), none, 0, false, []⟩,
    ⟨(some 89), (.hcall 59 [(.t 88)]), none, 0, false, []⟩] false
def a60_13 : AC := .reg [⟨(some 90), (.mv (.t 0)), none, 0, false, []⟩,
    ⟨(some 91), (.mv (.t 3)), none, 0, false, []⟩,
    ⟨(some 92), (.nilck (.t 91)), none, 0, false, []⟩,
    ⟨(some 93), (.fad 5 (.t 92)), none, 0, false, []⟩,
    ⟨(some 94), (.load false 1 (.t 93)), none, 0, false, []⟩,
    ⟨(some 95), (.iad 1 (.t 94) (.c (.int .i64 3))), none, 0, false, []⟩,
    ⟨(some 96), (.load false 1 (.t 95)), none, 0, false, []⟩,
    ⟨(some 97), (.hcall 40 [(.t 90), (.t 96)]), none, 0, false, []⟩,
    ⟨(some 8), (.mv (.t 97)), none, 0, false, []⟩] false
def a60_14 : AC := .seq a60_13 .ret
def a60_15 : AC := .seq a60_12 a60_14
def a60_16 : AC := .reg [⟨(some 99), (.mv (.t 1)), none, 0, false, []⟩,
    ⟨(some 100), (.nilck (.t 99)), none, 0, false, []⟩,
    ⟨(some 101), (.fad 0 (.t 100)), none, 0, false, []⟩,
    ⟨(some 102), (.load false 1 (.t 101)), none, 0, false, []⟩,
    ⟨(some 103), (.bin 0 .eql (.t 102) (.c (.int .i64 22))), none, 0, false, []⟩,
    ⟨(some 104), (.mv (.t 103)), none, 0, false, []⟩,
    ⟨(some 105), (.mv (.t 3)), (some (104, true)), 0, false, []⟩,
    ⟨(some 106), (.nilck (.t 105)), (some (104, true)), 0, false, []⟩,
    ⟨(some 107), (.fad 0 (.t 106)), (some (104, true)), 0, false, []⟩,
    ⟨(some 108), (.load false 1 (.t 107)), (some (104, true)), 0, false, []⟩,
    ⟨(some 109), (.bin 0 .eql (.t 108) (.c (.int .i64 21))), (some (104, true)), 0, false, []⟩,
    ⟨(some 110), (.pick (.t 104) (.t 109) (.c (.bool false))), none, 0, false, []⟩,
    ⟨(some 98), (.mv (.t 110)), none, 0, false, []⟩] false
def a60_17 : AC := .reg [⟨(some 111), (.mv (.t 0)), none, 0, false, []⟩,
    ⟨(some 112), (.hcall 59 [(.t 111)]), none, 0, false, []⟩] false
def a60_18 : AC := .reg [⟨(some 113), (.mv (.t 0)), none, 0, false, []⟩,
    ⟨(some 114), (.mv (.t 1)), none, 0, false, []⟩,
    ⟨(some 115), (.nilck (.t 114)), none, 0, false, []⟩,
    ⟨(some 116), (.fad 5 (.t 115)), none, 0, false, []⟩,
    ⟨(some 117), (.load false 1 (.t 116)), none, 0, false, []⟩,
    ⟨(some 118), (.iad 1 (.t 117) (.c (.int .i64 3))), none, 0, false, []⟩,
    ⟨(some 119), (.load false 1 (.t 118)), none, 0, false, []⟩,
    ⟨(some 120), (.hcall 40 [(.t 113), (.t 119)]), none, 0, false, []⟩,
    ⟨(some 8), (.mv (.t 120)), none, 0, false, []⟩] false
def a60_19 : AC := .seq a60_18 .ret
def a60_20 : AC := .seq a60_17 a60_19
def a60_21 : AC := .cond (.t 98) a60_20 .skip
def a60_22 : AC := .seq a60_16 a60_21
def a60_23 : AC := .cond (.t 75) a60_15 a60_22
def a60_24 : AC := .seq a60_11 a60_23
def a60_25 : AC := .cond (.t 52) a60_10 a60_24
def a60_26 : AC := .seq a60_6 a60_25
def a60_27 : AC := .cond (.t 10) a60_5 a60_26
def a60_28 : AC := .seq a60_1 a60_27
def a60_29 : AC := .blk 0 a60_28
def a60_30 : AC := .reg [⟨(some 121), (.mv (.t 1)), none, 0, false, []⟩,
    ⟨(some 122), (.nilck (.t 121)), none, 0, false, []⟩,
    ⟨(some 123), (.load true 6 (.t 122)), none, 0, false, []⟩,
    ⟨(some 9), (.new [(.int .i64 0), (.int .i64 0), (.int .i64 0), (.int .i64 0), (.int .i64 0), .nils]), none, 0, false, []⟩,
    ⟨none, (.store 6 (.t 9) (.t 123)), none, 0, false, []⟩] false
def a60_31 : AC := .reg [⟨(some 124), (.mv (.t 1)), none, 0, false, []⟩,
    ⟨(some 125), (.nilck (.t 124)), none, 0, false, []⟩,
    ⟨(some 126), (.fad 5 (.t 125)), none, 0, false, []⟩,
    ⟨(some 127), (.load false 1 (.t 126)), none, 0, false, []⟩,
    ⟨(some 128), (.app 1 8 (.c .nils) (.t 127)), none, 0, false, []⟩,
    ⟨(some 129), (.fad 5 (.t 9)), none, 0, false, []⟩,
    ⟨none, (.store 1 (.t 129) (.t 128)), none, 0, false, []⟩] false
def a60_32 : AC := .reg [⟨(some 130), (.fad 5 (.t 9)), none, 0, false, []⟩,
    ⟨(some 131), (.load false 1 (.t 130)), none, 1, true, []⟩,
    ⟨(some 132), (.mv (.t 2)), none, 2, false, []⟩,
    ⟨(some 133), (.mv (.t 3)), none, 3, false, []⟩,
    ⟨(some 134), (.hcall 67 [(.t 133)]), none, 4, false, [1, 4]⟩,
    ⟨(some 135), (.iad 1 (.t 131) (.t 132)), none, 5, false, []⟩,
    ⟨none, (.store 1 (.t 135) (.t 134)), none, 6, false, []⟩] true
def a60_33 : AC := .reg [⟨(some 8), (.mv (.t 9)), none, 0, false, []⟩] false
def a60_34 : AC := .seq a60_33 .ret
def a60_35 : AC := .seq a60_32 a60_34
def a60_36 : AC := .seq a60_31 a60_35
def a60_37 : AC := .seq a60_30 a60_36
def a60_38 : AC := .seq a60_29 a60_37
def a60_39 : AC := .seq a60_0 a60_38
def af60 : AF := { ntmps := 136, res := [(.t 8)], body := a60_39 }
theorem tr60 : trF Tryd.prog Tryd.f60 = some af60 := by kernel_rfl
attribute [go_sem] af60 a60_0 a60_1 a60_2 a60_3 a60_4 a60_5 a60_6 a60_7 a60_8 a60_9 a60_10 a60_11 a60_12 a60_13 a60_14 a60_15 a60_16 a60_17 a60_18 a60_19 a60_20 a60_21 a60_22 a60_23 a60_24 a60_25 a60_26 a60_27 a60_28 a60_29 a60_30 a60_31 a60_32 a60_33 a60_34 a60_35 a60_36 a60_37 a60_38 a60_39
def a68_0 : AC := .reg [⟨(some 6), (.box (.t 1)), none, 0, false, []⟩,
    ⟨(some 10), (.mv (.c .nilp)), none, 0, false, []⟩] false
def a68_1 : AC := .reg [⟨(some 14), (.fad 0 (.t 6)), none, 0, false, []⟩,
    ⟨(some 15), (.load false 1 (.t 14)), none, 0, false, []⟩,
    ⟨(some 16), (.fad 1 (.t 6)), none, 0, false, []⟩,
    ⟨(some 17), (.load false 1 (.t 16)), none, 0, false, []⟩,
    ⟨(some 18), (.fad 2 (.t 6)), none, 0, false, []⟩,
    ⟨(some 19), (.load false 1 (.t 18)), none, 0, false, []⟩,
    ⟨(some 20), (.fad 3 (.t 6)), none, 0, false, []⟩,
    ⟨(some 21), (.load false 1 (.t 20)), none, 0, false, []⟩,
    ⟨(some 22), (.build [(.int .i64 0), (.int .i64 0), (.int .i64 0), (.int .i64 0), (.int .i64 0), .nils] [(0, (1, (.t 15))), (1, (1, (.t 17))), (2, (1, (.t 19))), (3, (1, (.t 21)))]), none, 0, false, []⟩,
    ⟨(some 23), (.box (.t 22)), none, 0, false, []⟩,
    ⟨(some 11), (.mv (.t 23)), none, 0, false, []⟩] false
def a68_2 : AC := .reg [⟨(some 24), (.fad 4 (.t 6)), none, 0, false, []⟩,
    ⟨(some 25), (.load false 1 (.t 24)), none, 0, false, []⟩,
    ⟨(some 26), (.len false (.t 25)), none, 0, false, []⟩,
    ⟨(some 27), (.bin 0 .gtr (.t 26) (.c (.int .i64 0))), none, 0, false, []⟩] false
def a68_3 : AC := .reg [⟨(some 28), (.mv (.t 11)), none, 0, false, []⟩,
    ⟨(some 29), (.fad 4 (.t 6)), none, 0, false, []⟩,
    ⟨(some 30), (.load false 1 (.t 29)), none, 0, false, []⟩,
    ⟨(some 31), (.len false (.t 30)), none, 0, false, []⟩,
    ⟨(some 32), (.mk 1 8 [.nilp] (.t 31) (.t 31)), none, 0, false, []⟩,
    ⟨(some 33), (.nilck (.t 28)), none, 0, false, []⟩,
    ⟨(some 34), (.fad 5 (.t 33)), none, 0, false, []⟩,
    ⟨none, (.store 1 (.t 34) (.t 32)), none, 0, false, []⟩] false
def a68_4 : AC := .cond (.t 27) a68_3 .skip
def a68_5 : AC := .seq a68_2 a68_4
def a68_6 : AC := .reg [⟨(some 35), (.fad 4 (.t 6)), none, 0, false, []⟩,
    ⟨(some 36), (.load false 1 (.t 35)), none, 0, false, []⟩,
    ⟨(some 37), (.len false (.t 36)), none, 0, false, []⟩,
    ⟨(some 38), (.mv (.c (.int .i64 0))), none, 0, false, []⟩] false
def a68_7 : AC := .reg [⟨(some 39), (.bin 0 .lss (.t 38) (.t 37)), none, 0, false, []⟩] false
def a68_8 : AC := .cond (.t 39) .skip (.exit 0)
def a68_9 : AC := .reg [⟨(some 40), (.mv (.t 38)), none, 0, false, []⟩,
    ⟨(some 41), (.iad 5 (.t 36) (.t 38)), none, 0, false, []⟩,
    ⟨(some 42), (.load true 5 (.t 41)), none, 0, false, []⟩,
    ⟨(some 13), (.new [(.int .i64 0), (.int .i64 0), (.int .i64 0), (.int .i64 0), .nils]), none, 0, false, []⟩,
    ⟨(some 12), (.mv (.t 40)), none, 0, false, []⟩,
    ⟨none, (.store 5 (.t 13) (.t 42)), none, 0, false, []⟩] false
def a68_10 : AC := .reg [⟨(some 43), (.mv (.t 12)), none, 0, false, []⟩,
    ⟨(some 44), (.mv (.t 3)), none, 0, false, []⟩,
    ⟨(some 45), (.bin 0 .eql (.t 43) (.t 44)), none, 0, false, []⟩] false
def a68_11 : AC := .reg [⟨(some 46), (.mv (.t 11)), none, 0, false, []⟩,
    ⟨(some 47), (.nilck (.t 46)), none, 1, false, []⟩,
    ⟨(some 48), (.fad 5 (.t 47)), none, 2, false, []⟩,
    ⟨(some 49), (.load false 1 (.t 48)), none, 3, true, []⟩,
    ⟨(some 50), (.mv (.t 12)), none, 4, false, []⟩,
    ⟨(some 51), (.mv (.t 4)), none, 5, false, []⟩,
    ⟨(some 52), (.hcall 67 [(.t 51)]), none, 6, false, [3, 6]⟩,
    ⟨(some 53), (.iad 1 (.t 49) (.t 50)), none, 7, false, []⟩,
    ⟨none, (.store 1 (.t 53) (.t 52)), none, 8, false, []⟩] true
def a68_12 : AC := .seq a68_11 (.exit 1)
def a68_13 : AC := .cond (.t 45) a68_12 .skip
def a68_14 : AC := .seq a68_10 a68_13
def a68_15 : AC := .reg [⟨(some 54), (.mv (.t 11)), none, 0, false, []⟩,
    ⟨(some 55), (.nilck (.t 54)), none, 1, false, []⟩,
    ⟨(some 56), (.fad 5 (.t 55)), none, 2, false, []⟩,
    ⟨(some 57), (.load false 1 (.t 56)), none, 3, true, []⟩,
    ⟨(some 58), (.mv (.t 12)), none, 4, false, []⟩,
    ⟨(some 59), (.load true 5 (.t 13)), none, 5, false, []⟩,
    ⟨(some 60), (.mv (.t 2)), none, 6, false, []⟩,
    ⟨(some 61), (.hcall 21 [(.t 59), (.t 60)]), none, 7, false, [3, 7]⟩,
    ⟨(some 62), (.iad 1 (.t 57) (.t 58)), none, 8, false, []⟩,
    ⟨none, (.store 1 (.t 62) (.t 61)), none, 9, false, []⟩] true
def a68_16 : AC := .seq a68_14 a68_15
def a68_17 : AC := .seq a68_9 a68_16
def a68_18 : AC := .blk 1 a68_17
def a68_19 : AC := .reg [⟨(some 63), (.bin 0 .add (.t 38) (.c (.int .i64 1))), none, 0, false, []⟩,
    ⟨(some 38), (.mv (.t 63)), none, 0, false, []⟩] false
def a68_20 : AC := .seq a68_18 a68_19
def a68_21 : AC := .seq a68_8 a68_20
def a68_22 : AC := .seq a68_7 a68_21
def a68_23 : AC := .loop a68_22
def a68_24 : AC := .blk 0 a68_23
def a68_25 : AC := .seq a68_6 a68_24
def a68_26 : AC := .reg [⟨(some 64), (.mv (.t 11)), none, 0, false, []⟩,
    ⟨(some 10), (.mv (.t 64)), none, 0, false, []⟩] false
def a68_27 : AC := .seq a68_26 .ret
def a68_28 : AC := .seq a68_25 a68_27
def a68_29 : AC := .seq a68_5 a68_28
def a68_30 : AC := .seq a68_1 a68_29
def a68_31 : AC := .seq a68_0 a68_30
def af68 : AF := { ntmps := 65, res := [(.t 10)], body := a68_31 }
theorem tr68 : trF Tryd.prog Tryd.f68 = some af68 := by kernel_rfl
attribute [go_sem] af68 a68_0 a68_1 a68_2 a68_3 a68_4 a68_5 a68_6 a68_7 a68_8 a68_9 a68_10 a68_11 a68_12 a68_13 a68_14 a68_15 a68_16 a68_17 a68_18 a68_19 a68_20 a68_21 a68_22 a68_23 a68_24 a68_25 a68_26 a68_27 a68_28 a68_29 a68_30 a68_31
end Go.Proofs.YtdpigpopcbjkmaaDoor.Abs
