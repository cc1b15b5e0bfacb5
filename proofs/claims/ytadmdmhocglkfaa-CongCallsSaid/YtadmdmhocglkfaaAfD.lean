/- The abstract code of functions, printed by program; that it is the translation of the model's code is decided by the kernel. -/
import Derived.Test.YtadmdmhocglkfaaEv
import Derived.Test.YtadmdmhocglkfaaProg
import Derived.KernelRfl
namespace Go.Proofs.Ytadmdmhocglkfaa.Abs
open Go Go.Proofs Go.Proofs.Ytadmdmhocglkfaa
def a10_0 : AC := .reg [⟨(some 4), (.box (.t 0)), none, 0, false, []⟩,
    ⟨(some 5), (.box (.t 1)), none, 0, false, []⟩,
    ⟨(some 6), (.box (.t 2)), none, 0, false, []⟩,
    ⟨(some 7), (.box (.t 3)), none, 0, false, []⟩,
    ⟨(some 8), (.mv (.c (.bool false))), none, 0, false, []⟩] false
def a10_1 : AC := .reg [⟨(some 10), (.load true 32 (.t 4)), none, 0, false, []⟩,
    ⟨(some 11), (.call 42 [(.t 10), (.c .nils)]), none, 0, false, []⟩,
    ⟨(some 12), (.mv (.t 11)), none, 0, false, []⟩,
    ⟨(some 13), (.load true 5 (.t 5)), (some (12, false)), 0, false, []⟩,
    ⟨(some 14), (.load true 5 (.t 6)), (some (12, false)), 0, false, []⟩,
    ⟨(some 15), (.load true 5 (.t 7)), (some (12, false)), 0, false, []⟩,
    ⟨(some 16), (.bslice 5 [(.t 13), (.t 14), (.t 15)]), (some (12, false)), 0, false, []⟩,
    ⟨(some 17), (.call 43 [(.t 16), (.c (.int .i64 120))]), (some (12, false)), 0, false, []⟩,
    ⟨(some 18), (.pick (.t 12) (.c (.bool true)) (.t 17)), none, 0, false, []⟩] false
def a10_2 : AC := .reg [⟨(some 8), (.mv (.c (.bool true))), none, 0, false, []⟩] false
def a10_3 : AC := .seq a10_2 .ret
def a10_4 : AC := .cond (.t 18) a10_3 .skip
def a10_5 : AC := .seq a10_1 a10_4
def a10_6 : AC := .reg [⟨(some 19), (.load true 32 (.t 4)), none, 0, false, []⟩,
    ⟨(some 20), (.call 44 [(.t 19)]), none, 0, false, []⟩,
    ⟨(some 9), (.new [(.int .i64 0), (.int .i64 0), (.int .i64 0), (.int .i64 0), (.int .i64 0), (.int .i64 0), .nils, (.int .i64 0), (.int .i64 0), (.int .i64 0), (.int .i64 0), .nils, (.int .i64 0), (.int .i64 0), (.int .i64 0), (.int .i64 0), .nils, (.int .i64 0), (.int .i64 0), (.int .i64 0), (.int .i64 0), .nils, (.int .i64 0), (.int .i64 0), (.int .i64 0), (.int .i64 0), .nils, (.int .i64 0), (.int .i64 0), (.int .i64 0), (.int .i64 0), .nils]), none, 0, false, []⟩,
    ⟨none, (.store 32 (.t 9) (.t 20)), none, 0, false, []⟩] false
def a10_7 : AC := .reg [⟨(some 21), (.load true 32 (.t 9)), none, 0, false, []⟩,
    ⟨(some 22), (.call 45 [(.t 21)]), none, 1, true, []⟩,
    ⟨(some 23), (.load true 32 (.t 4)), none, 2, false, [1]⟩,
    ⟨(some 24), (.call 46 [(.t 23)]), none, 3, false, []⟩,
    ⟨(some 25), (.call 30 [(.t 22), (.t 24)]), none, 4, false, []⟩,
    ⟨(some 26), (.mv (.t 25)), none, 5, false, []⟩,
    ⟨(some 27), (.load true 32 (.t 9)), (some (26, true)), 6, false, []⟩,
    ⟨(some 28), (.call 47 [(.t 27)]), (some (26, true)), 7, true, []⟩,
    ⟨(some 29), (.load true 32 (.t 4)), (some (26, true)), 8, false, [7]⟩,
    ⟨(some 30), (.call 48 [(.t 29)]), (some (26, true)), 9, false, []⟩,
    ⟨(some 31), (.call 30 [(.t 28), (.t 30)]), (some (26, true)), 10, false, []⟩,
    ⟨(some 32), (.pick (.t 26) (.t 31) (.c (.bool false))), none, 11, false, []⟩,
    ⟨(some 33), (.mv (.t 32)), none, 12, false, []⟩,
    ⟨(some 34), (.load true 32 (.t 9)), (some (33, true)), 13, false, []⟩,
    ⟨(some 35), (.load true 5 (.t 5)), (some (33, true)), 14, false, []⟩,
    ⟨(some 36), (.load true 5 (.t 6)), (some (33, true)), 15, false, []⟩,
    ⟨(some 37), (.load true 5 (.t 7)), (some (33, true)), 16, false, []⟩,
    ⟨(some 38), (.call 50 [(.t 34), (.t 35), (.t 36), (.t 37)]), (some (33, true)), 17, true, []⟩,
    ⟨(some 39), (.load true 32 (.t 4)), (some (33, true)), 18, false, [17]⟩,
    ⟨(some 40), (.load true 5 (.t 5)), (some (33, true)), 19, false, [17]⟩,
    ⟨(some 41), (.load true 5 (.t 6)), (some (33, true)), 20, false, [17]⟩,
    ⟨(some 42), (.load true 5 (.t 7)), (some (33, true)), 21, false, [17]⟩,
    ⟨(some 43), (.call 51 [(.t 39), (.t 40), (.t 41), (.t 42)]), (some (33, true)), 22, false, []⟩,
    ⟨(some 44), (.call 49 [(.t 38), (.t 43)]), (some (33, true)), 23, false, []⟩,
    ⟨(some 45), (.pick (.t 33) (.t 44) (.c (.bool false))), none, 24, false, []⟩,
    ⟨(some 46), (.mv (.t 45)), none, 25, false, []⟩,
    ⟨(some 47), (.call 52 []), (some (46, true)), 26, false, []⟩,
    ⟨(some 48), (.pick (.t 46) (.t 47) (.c (.bool false))), none, 27, false, []⟩,
    ⟨(some 8), (.mv (.t 48)), none, 28, false, []⟩] true
def a10_8 : AC := .seq a10_7 .ret
def a10_9 : AC := .seq a10_6 a10_8
def a10_10 : AC := .seq a10_5 a10_9
def a10_11 : AC := .seq a10_0 a10_10
def af10 : AF := { ntmps := 49, res := [(.t 8)], body := a10_11 }
theorem tr10 : trF Try.prog Try.f10 = some af10 := by kernel_rfl
attribute [go_sem] af10 a10_0 a10_1 a10_2 a10_3 a10_4 a10_5 a10_6 a10_7 a10_8 a10_9 a10_10 a10_11
def a14_0 : AC := .reg [⟨(some 3), (.box (.t 0)), none, 0, false, []⟩,
    ⟨(some 4), (.box (.t 1)), none, 0, false, []⟩,
    ⟨(some 5), (.box (.t 2)), none, 0, false, []⟩,
    ⟨(some 6), (.mv (.c (.bool false))), none, 0, false, []⟩] false
def a14_1 : AC := .reg [⟨(some 10), (.load true 32 (.t 3)), none, 0, false, []⟩,
    ⟨(some 11), (.load true 26 (.t 4)), none, 0, false, []⟩,
    ⟨(some 12), (.load true 26 (.t 5)), none, 0, false, []⟩,
    ⟨(some 13), (.bslice 26 [(.t 11), (.t 12)]), none, 0, false, []⟩,
    ⟨(some 14), (.call 42 [(.t 10), (.t 13)]), none, 0, false, []⟩] false
def a14_2 : AC := .reg [⟨(some 6), (.mv (.c (.bool true))), none, 0, false, []⟩] false
def a14_3 : AC := .seq a14_2 .ret
def a14_4 : AC := .cond (.t 14) a14_3 .skip
def a14_5 : AC := .seq a14_1 a14_4
def a14_6 : AC := .reg [⟨(some 15), (.load true 32 (.t 3)), none, 0, true, []⟩,
    ⟨(some 16), (.call 44 [(.t 15)]), none, 1, true, []⟩,
    ⟨(some 17), (.load true 26 (.t 4)), none, 2, true, [1]⟩,
    ⟨(some 18), (.call 54 [(.t 17)]), none, 3, true, []⟩,
    ⟨(some 19), (.load true 26 (.t 5)), none, 4, true, [1, 3]⟩,
    ⟨(some 20), (.call 54 [(.t 19)]), none, 5, true, []⟩,
    ⟨(some 7), (.new [(.int .i64 0), (.int .i64 0), (.int .i64 0), (.int .i64 0), (.int .i64 0), (.int .i64 0), .nils, (.int .i64 0), (.int .i64 0), (.int .i64 0), (.int .i64 0), .nils, (.int .i64 0), (.int .i64 0), (.int .i64 0), (.int .i64 0), .nils, (.int .i64 0), (.int .i64 0), (.int .i64 0), (.int .i64 0), .nils, (.int .i64 0), (.int .i64 0), (.int .i64 0), (.int .i64 0), .nils, (.int .i64 0), (.int .i64 0), (.int .i64 0), (.int .i64 0), .nils]), none, 6, true, [0, 1, 2, 3, 4, 5]⟩,
    ⟨(some 8), (.new [(.int .i64 0), (.int .i64 0), (.int .i64 0), (.int .i64 0), (.int .i64 0), .nils, (.int .i64 0), (.int .i64 0), (.int .i64 0), (.int .i64 0), .nils, (.int .i64 0), (.int .i64 0), (.int .i64 0), (.int .i64 0), .nils, (.int .i64 0), (.int .i64 0), (.int .i64 0), (.int .i64 0), .nils, (.int .i64 0), (.int .i64 0), (.int .i64 0), (.int .i64 0), .nils]), none, 7, true, [0, 1, 2, 3, 4, 5, 6]⟩,
    ⟨(some 9), (.new [(.int .i64 0), (.int .i64 0), (.int .i64 0), (.int .i64 0), (.int .i64 0), .nils, (.int .i64 0), (.int .i64 0), (.int .i64 0), (.int .i64 0), .nils, (.int .i64 0), (.int .i64 0), (.int .i64 0), (.int .i64 0), .nils, (.int .i64 0), (.int .i64 0), (.int .i64 0), (.int .i64 0), .nils, (.int .i64 0), (.int .i64 0), (.int .i64 0), (.int .i64 0), .nils]), none, 8, false, [0, 1, 2, 3, 4, 5, 6, 7]⟩,
    ⟨none, (.store 32 (.t 7) (.t 16)), none, 9, false, []⟩,
    ⟨none, (.store 26 (.t 8) (.t 18)), none, 10, false, []⟩,
    ⟨none, (.store 26 (.t 9) (.t 20)), none, 11, false, []⟩] true
def a14_7 : AC := .reg [⟨(some 21), (.load true 32 (.t 7)), none, 0, false, []⟩,
    ⟨(some 22), (.load true 26 (.t 8)), none, 1, false, []⟩,
    ⟨(some 23), (.load true 26 (.t 9)), none, 2, false, []⟩,
    ⟨(some 24), (.call 71 [(.t 21), (.t 22), (.t 23)]), none, 3, true, []⟩,
    ⟨(some 25), (.load true 32 (.t 3)), none, 4, false, [3]⟩,
    ⟨(some 26), (.load true 26 (.t 4)), none, 5, false, [3]⟩,
    ⟨(some 27), (.load true 26 (.t 5)), none, 6, false, [3]⟩,
    ⟨(some 28), (.call 72 [(.t 25), (.t 26), (.t 27)]), none, 7, false, []⟩,
    ⟨(some 29), (.call 49 [(.t 24), (.t 28)]), none, 8, false, []⟩,
    ⟨(some 30), (.mv (.t 29)), none, 9, false, []⟩,
    ⟨(some 31), (.load true 32 (.t 7)), (some (30, true)), 10, false, []⟩,
    ⟨(some 32), (.load true 26 (.t 8)), (some (30, true)), 11, false, []⟩,
    ⟨(some 33), (.load true 26 (.t 9)), (some (30, true)), 12, false, []⟩,
    ⟨(some 34), (.call 73 [(.t 31), (.t 32), (.t 33)]), (some (30, true)), 13, true, []⟩,
    ⟨(some 35), (.load true 32 (.t 3)), (some (30, true)), 14, false, [13]⟩,
    ⟨(some 36), (.load true 26 (.t 4)), (some (30, true)), 15, false, [13]⟩,
    ⟨(some 37), (.load true 26 (.t 5)), (some (30, true)), 16, false, [13]⟩,
    ⟨(some 38), (.call 74 [(.t 35), (.t 36), (.t 37)]), (some (30, true)), 17, false, []⟩,
    ⟨(some 39), (.call 49 [(.t 34), (.t 38)]), (some (30, true)), 18, false, []⟩,
    ⟨(some 40), (.pick (.t 30) (.t 39) (.c (.bool false))), none, 19, false, []⟩,
    ⟨(some 41), (.mv (.t 40)), none, 20, false, []⟩,
    ⟨(some 42), (.load true 32 (.t 7)), (some (41, true)), 21, false, []⟩,
    ⟨(some 43), (.load true 26 (.t 8)), (some (41, true)), 22, false, []⟩,
    ⟨(some 44), (.call 75 [(.t 42), (.t 43)]), (some (41, true)), 23, true, []⟩,
    ⟨(some 45), (.load true 32 (.t 3)), (some (41, true)), 24, false, [23]⟩,
    ⟨(some 46), (.load true 26 (.t 4)), (some (41, true)), 25, false, [23]⟩,
    ⟨(some 47), (.call 76 [(.t 45), (.t 46)]), (some (41, true)), 26, false, []⟩,
    ⟨(some 48), (.call 49 [(.t 44), (.t 47)]), (some (41, true)), 27, false, []⟩,
    ⟨(some 49), (.pick (.t 41) (.t 48) (.c (.bool false))), none, 28, false, []⟩,
    ⟨(some 50), (.mv (.t 49)), none, 29, false, []⟩,
    ⟨(some 51), (.load true 32 (.t 7)), (some (50, true)), 30, false, []⟩,
    ⟨(some 52), (.load true 26 (.t 8)), (some (50, true)), 31, false, []⟩,
    ⟨(some 53), (.call 77 [(.t 51), (.t 52)]), (some (50, true)), 32, true, []⟩,
    ⟨(some 54), (.load true 32 (.t 3)), (some (50, true)), 33, false, [32]⟩,
    ⟨(some 55), (.load true 26 (.t 4)), (some (50, true)), 34, false, [32]⟩,
    ⟨(some 56), (.call 78 [(.t 54), (.t 55)]), (some (50, true)), 35, false, []⟩,
    ⟨(some 57), (.call 49 [(.t 53), (.t 56)]), (some (50, true)), 36, false, []⟩,
    ⟨(some 58), (.pick (.t 50) (.t 57) (.c (.bool false))), none, 37, false, []⟩,
    ⟨(some 59), (.mv (.t 58)), none, 38, false, []⟩,
    ⟨(some 60), (.call 52 []), (some (59, true)), 39, false, []⟩,
    ⟨(some 61), (.pick (.t 59) (.t 60) (.c (.bool false))), none, 40, false, []⟩,
    ⟨(some 6), (.mv (.t 61)), none, 41, false, []⟩] true
def a14_8 : AC := .seq a14_7 .ret
def a14_9 : AC := .seq a14_6 a14_8
def a14_10 : AC := .seq a14_5 a14_9
def a14_11 : AC := .seq a14_0 a14_10
def af14 : AF := { ntmps := 62, res := [(.t 6)], body := a14_11 }
theorem tr14 : trF Try.prog Try.f14 = some af14 := by kernel_rfl
attribute [go_sem] af14 a14_0 a14_1 a14_2 a14_3 a14_4 a14_5 a14_6 a14_7 a14_8 a14_9 a14_10 a14_11
def a42_0 : AC := .reg [⟨(some 2), (.box (.t 0)), none, 0, false, []⟩,
    ⟨(some 4), (.mv (.c (.bool false))), none, 0, false, []⟩] false
def a42_1 : AC := .reg [⟨(some 6), (.fad 2 (.t 2)), none, 0, false, []⟩,
    ⟨(some 7), (.load true 5 (.t 6)), none, 0, false, []⟩,
    ⟨(some 8), (.fad 7 (.t 2)), none, 0, false, []⟩,
    ⟨(some 9), (.load true 5 (.t 8)), none, 0, false, []⟩,
    ⟨(some 10), (.fad 12 (.t 2)), none, 0, false, []⟩,
    ⟨(some 11), (.load true 5 (.t 10)), none, 0, false, []⟩,
    ⟨(some 12), (.fad 17 (.t 2)), none, 0, false, []⟩,
    ⟨(some 13), (.load true 5 (.t 12)), none, 0, false, []⟩,
    ⟨(some 14), (.fad 22 (.t 2)), none, 0, false, []⟩,
    ⟨(some 15), (.load true 5 (.t 14)), none, 0, false, []⟩,
    ⟨(some 16), (.fad 27 (.t 2)), none, 0, false, []⟩,
    ⟨(some 17), (.load true 5 (.t 16)), none, 0, false, []⟩,
    ⟨(some 18), (.bslice 5 [(.t 7), (.t 9), (.t 11), (.t 13), (.t 15), (.t 17)]), none, 0, false, []⟩,
    ⟨(some 19), (.call 43 [(.t 18), (.c (.int .i64 120))]), none, 0, false, []⟩] false
def a42_2 : AC := .reg [⟨(some 4), (.mv (.c (.bool true))), none, 0, false, []⟩] false
def a42_3 : AC := .seq a42_2 .ret
def a42_4 : AC := .cond (.t 19) a42_3 .skip
def a42_5 : AC := .seq a42_1 a42_4
def a42_6 : AC := .reg [⟨(some 5), (.mv (.c (.int .i64 0))), none, 0, false, []⟩] false
def a42_7 : AC := .reg [⟨(some 20), (.mv (.t 5)), none, 0, false, []⟩,
    ⟨(some 21), (.mv (.t 1)), none, 0, false, []⟩,
    ⟨(some 22), (.len false (.t 21)), none, 0, false, []⟩,
    ⟨(some 23), (.bin 0 .lss (.t 20) (.t 22)), none, 0, false, []⟩] false
def a42_8 : AC := .cond (.t 23) .skip (.exit 0)
def a42_9 : AC := .seq a42_7 a42_8
def a42_10 : AC := .reg [⟨(some 26), (.mv (.t 1)), none, 0, false, []⟩,
    ⟨(some 27), (.mv (.t 5)), none, 1, false, []⟩,
    ⟨(some 28), (.iad 26 (.t 26) (.t 27)), none, 2, false, []⟩,
    ⟨(some 29), (.fad 1 (.t 28)), none, 3, false, []⟩,
    ⟨(some 30), (.load true 5 (.t 29)), none, 4, false, []⟩,
    ⟨(some 31), (.mv (.t 1)), none, 5, false, []⟩,
    ⟨(some 32), (.mv (.t 5)), none, 6, false, []⟩,
    ⟨(some 33), (.iad 26 (.t 31) (.t 32)), none, 7, false, []⟩,
    ⟨(some 34), (.fad 6 (.t 33)), none, 8, false, []⟩,
    ⟨(some 35), (.load true 5 (.t 34)), none, 9, false, []⟩,
    ⟨(some 36), (.mv (.t 1)), none, 10, false, []⟩,
    ⟨(some 37), (.mv (.t 5)), none, 11, false, []⟩,
    ⟨(some 38), (.iad 26 (.t 36) (.t 37)), none, 12, false, []⟩,
    ⟨(some 39), (.fad 11 (.t 38)), none, 13, false, []⟩,
    ⟨(some 40), (.load true 5 (.t 39)), none, 14, false, []⟩,
    ⟨(some 41), (.mv (.t 1)), none, 15, false, []⟩,
    ⟨(some 42), (.mv (.t 5)), none, 16, false, []⟩,
    ⟨(some 43), (.iad 26 (.t 41) (.t 42)), none, 17, false, []⟩,
    ⟨(some 44), (.fad 16 (.t 43)), none, 18, false, []⟩,
    ⟨(some 45), (.load true 5 (.t 44)), none, 19, false, []⟩,
    ⟨(some 46), (.mv (.t 1)), none, 20, false, []⟩,
    ⟨(some 47), (.mv (.t 5)), none, 21, false, []⟩,
    ⟨(some 48), (.iad 26 (.t 46) (.t 47)), none, 22, false, []⟩,
    ⟨(some 49), (.fad 21 (.t 48)), none, 23, false, []⟩,
    ⟨(some 50), (.load true 5 (.t 49)), none, 24, false, []⟩,
    ⟨(some 51), (.bslice 5 [(.t 30), (.t 35), (.t 40), (.t 45), (.t 50)]), none, 25, false, []⟩,
    ⟨(some 52), (.call 43 [(.t 51), (.c (.int .i64 120))]), none, 26, false, []⟩] true
def a42_11 : AC := .reg [⟨(some 4), (.mv (.c (.bool true))), none, 0, false, []⟩] false
def a42_12 : AC := .seq a42_11 .ret
def a42_13 : AC := .cond (.t 52) a42_12 .skip
def a42_14 : AC := .seq a42_10 a42_13
def a42_15 : AC := .blk 1 a42_14
def a42_16 : AC := .reg [⟨(some 24), (.mv (.t 5)), none, 0, false, []⟩,
    ⟨(some 25), (.bin 0 .add (.t 24) (.c (.int .i64 1))), none, 0, false, []⟩,
    ⟨(some 5), (.mv (.t 25)), none, 0, false, []⟩] false
def a42_17 : AC := .seq a42_15 a42_16
def a42_18 : AC := .seq a42_9 a42_17
def a42_19 : AC := .loop a42_18
def a42_20 : AC := .blk 0 a42_19
def a42_21 : AC := .seq a42_6 a42_20
def a42_22 : AC := .reg [⟨(some 4), (.mv (.c (.bool false))), none, 0, false, []⟩] false
def a42_23 : AC := .seq a42_22 .ret
def a42_24 : AC := .seq a42_21 a42_23
def a42_25 : AC := .seq a42_5 a42_24
def a42_26 : AC := .seq a42_0 a42_25
def af42 : AF := { ntmps := 53, res := [(.t 4)], body := a42_26 }
theorem tr42 : trF Try.prog Try.f42 = some af42 := by kernel_rfl
attribute [go_sem] af42 a42_0 a42_1 a42_2 a42_3 a42_4 a42_5 a42_6 a42_7 a42_8 a42_9 a42_10 a42_11 a42_12 a42_13 a42_14 a42_15 a42_16 a42_17 a42_18 a42_19 a42_20 a42_21 a42_22 a42_23 a42_24 a42_25 a42_26
def a44_0 : AC := .reg [⟨(some 1), (.box (.t 0)), none, 0, false, []⟩,
    ⟨(some 2), (.new [(.int .i64 0), (.int .i64 0), (.int .i64 0), (.int .i64 0), (.int .i64 0), (.int .i64 0), .nils, (.int .i64 0), (.int .i64 0), (.int .i64 0), (.int .i64 0), .nils, (.int .i64 0), (.int .i64 0), (.int .i64 0), (.int .i64 0), .nils, (.int .i64 0), (.int .i64 0), (.int .i64 0), (.int .i64 0), .nils, (.int .i64 0), (.int .i64 0), (.int .i64 0), (.int .i64 0), .nils, (.int .i64 0), (.int .i64 0), (.int .i64 0), (.int .i64 0), .nils]), none, 0, false, []⟩] false
def a44_1 : AC := .reg [⟨(some 3), (.fad 0 (.t 1)), none, 0, false, []⟩,
    ⟨(some 4), (.load false 1 (.t 3)), none, 0, false, []⟩,
    ⟨(some 5), (.fad 1 (.t 1)), none, 0, false, []⟩,
    ⟨(some 6), (.load false 1 (.t 5)), none, 0, false, []⟩,
    ⟨(some 7), (.fad 2 (.t 1)), none, 0, false, []⟩,
    ⟨(some 8), (.load true 5 (.t 7)), none, 0, false, []⟩,
    ⟨(some 9), (.fad 7 (.t 1)), none, 0, false, []⟩,
    ⟨(some 10), (.load true 5 (.t 9)), none, 0, false, []⟩,
    ⟨(some 11), (.fad 12 (.t 1)), none, 0, false, []⟩,
    ⟨(some 12), (.load true 5 (.t 11)), none, 0, false, []⟩,
    ⟨(some 13), (.fad 17 (.t 1)), none, 0, false, []⟩,
    ⟨(some 14), (.load true 5 (.t 13)), none, 0, false, []⟩,
    ⟨(some 15), (.fad 22 (.t 1)), none, 0, false, []⟩,
    ⟨(some 16), (.load true 5 (.t 15)), none, 0, false, []⟩,
    ⟨(some 17), (.fad 27 (.t 1)), none, 0, false, []⟩,
    ⟨(some 18), (.load true 5 (.t 17)), none, 0, false, []⟩,
    ⟨(some 19), (.build [(.int .i64 0), (.int .i64 0), (.int .i64 0), (.int .i64 0), (.int .i64 0), (.int .i64 0), .nils, (.int .i64 0), (.int .i64 0), (.int .i64 0), (.int .i64 0), .nils, (.int .i64 0), (.int .i64 0), (.int .i64 0), (.int .i64 0), .nils, (.int .i64 0), (.int .i64 0), (.int .i64 0), (.int .i64 0), .nils, (.int .i64 0), (.int .i64 0), (.int .i64 0), (.int .i64 0), .nils, (.int .i64 0), (.int .i64 0), (.int .i64 0), (.int .i64 0), .nils] [(0, (1, (.t 4))), (1, (1, (.t 6))), (2, (5, (.t 8))), (7, (5, (.t 10))), (12, (5, (.t 12))), (17, (5, (.t 14))), (22, (5, (.t 16))), (27, (5, (.t 18)))]), none, 0, false, []⟩,
    ⟨none, (.store 32 (.t 2) (.t 19)), none, 0, false, []⟩] false
def a44_2 : AC := .seq a44_1 .ret
def a44_3 : AC := .seq a44_0 a44_2
def af44 : AF := { ntmps := 20, res := [(.cell 2 true 32)], body := a44_3 }
theorem tr44 : trF Try.prog Try.f44 = some af44 := by kernel_rfl
attribute [go_sem] af44 a44_0 a44_1 a44_2 a44_3
def a45_0 : AC := .reg [⟨(some 1), (.box (.t 0)), none, 0, false, []⟩,
    ⟨(some 2), (.new [(.int .i64 0), (.int .i64 0), (.int .i64 0), (.int .i64 0), .nils]), none, 0, false, []⟩] false
def a45_1 : AC := .reg [⟨(some 3), (.load true 32 (.t 1)), none, 0, false, []⟩,
    ⟨(some 4), (.call 105 [(.t 3)]), none, 0, false, []⟩,
    ⟨(some 5), (.un .not (.t 4)), none, 0, false, []⟩] false
def a45_2 : AC := .reg [⟨(some 6), (.build [(.int .i64 0), (.int .i64 0), (.int .i64 0), (.int .i64 0), .nils] []), none, 0, false, []⟩,
    ⟨none, (.store 5 (.t 2) (.t 6)), none, 0, false, []⟩] false
def a45_3 : AC := .seq a45_2 .ret
def a45_4 : AC := .cond (.t 5) a45_3 .skip
def a45_5 : AC := .seq a45_1 a45_4
def a45_6 : AC := .reg [⟨(some 7), (.load true 32 (.t 1)), none, 0, false, []⟩,
    ⟨(some 8), (.call 106 [(.t 7), (.c (.int .i64 13)), (.c .nils)]), none, 0, false, []⟩,
    ⟨(some 9), (.call 90 [(.t 8)]), none, 0, false, []⟩,
    ⟨none, (.store 5 (.t 2) (.t 9)), none, 0, false, []⟩] false
def a45_7 : AC := .seq a45_6 .ret
def a45_8 : AC := .seq a45_5 a45_7
def a45_9 : AC := .seq a45_0 a45_8
def af45 : AF := { ntmps := 10, res := [(.cell 2 true 5)], body := a45_9 }
theorem tr45 : trF Try.prog Try.f45 = some af45 := by kernel_rfl
attribute [go_sem] af45 a45_0 a45_1 a45_2 a45_3 a45_4 a45_5 a45_6 a45_7 a45_8 a45_9
def a46_0 : AC := .reg [⟨(some 1), (.box (.t 0)), none, 0, false, []⟩,
    ⟨(some 2), (.new [(.int .i64 0), (.int .i64 0), (.int .i64 0), (.int .i64 0), .nils]), none, 0, false, []⟩] false
def a46_1 : AC := .reg [⟨(some 3), (.load true 32 (.t 1)), none, 0, false, []⟩,
    ⟨(some 4), (.call 107 [(.t 3)]), none, 0, false, []⟩,
    ⟨(some 5), (.un .not (.t 4)), none, 0, false, []⟩] false
def a46_2 : AC := .reg [⟨(some 6), (.build [(.int .i64 0), (.int .i64 0), (.int .i64 0), (.int .i64 0), .nils] []), none, 0, false, []⟩,
    ⟨none, (.store 5 (.t 2) (.t 6)), none, 0, false, []⟩] false
def a46_3 : AC := .seq a46_2 .ret
def a46_4 : AC := .cond (.t 5) a46_3 .skip
def a46_5 : AC := .seq a46_1 a46_4
def a46_6 : AC := .reg [⟨(some 7), (.load true 32 (.t 1)), none, 0, false, []⟩,
    ⟨(some 8), (.call 108 [(.c (.int .i64 13)), (.t 7), (.c .nils)]), none, 0, false, []⟩,
    ⟨none, (.store 5 (.t 2) (.t 8)), none, 0, false, []⟩] false
def a46_7 : AC := .seq a46_6 .ret
def a46_8 : AC := .seq a46_5 a46_7
def a46_9 : AC := .seq a46_0 a46_8
def af46 : AF := { ntmps := 9, res := [(.cell 2 true 5)], body := a46_9 }
theorem tr46 : trF Try.prog Try.f46 = some af46 := by kernel_rfl
attribute [go_sem] af46 a46_0 a46_1 a46_2 a46_3 a46_4 a46_5 a46_6 a46_7 a46_8 a46_9
def a47_0 : AC := .reg [⟨(some 1), (.box (.t 0)), none, 0, false, []⟩,
    ⟨(some 2), (.new [(.int .i64 0), (.int .i64 0), (.int .i64 0), (.int .i64 0), .nils]), none, 0, false, []⟩] false
def a47_1 : AC := .reg [⟨(some 3), (.load true 32 (.t 1)), none, 0, false, []⟩,
    ⟨(some 4), (.call 105 [(.t 3)]), none, 0, false, []⟩,
    ⟨(some 5), (.un .not (.t 4)), none, 0, false, []⟩] false
def a47_2 : AC := .reg [⟨(some 6), (.build [(.int .i64 0), (.int .i64 0), (.int .i64 0), (.int .i64 0), .nils] []), none, 0, false, []⟩,
    ⟨none, (.store 5 (.t 2) (.t 6)), none, 0, false, []⟩] false
def a47_3 : AC := .seq a47_2 .ret
def a47_4 : AC := .cond (.t 5) a47_3 .skip
def a47_5 : AC := .seq a47_1 a47_4
def a47_6 : AC := .reg [⟨(some 7), (.load true 32 (.t 1)), none, 0, false, []⟩,
    ⟨(some 8), (.call 106 [(.t 7), (.c (.int .i64 14)), (.c .nils)]), none, 0, false, []⟩,
    ⟨(some 9), (.call 90 [(.t 8)]), none, 0, false, []⟩,
    ⟨none, (.store 5 (.t 2) (.t 9)), none, 0, false, []⟩] false
def a47_7 : AC := .seq a47_6 .ret
def a47_8 : AC := .seq a47_5 a47_7
def a47_9 : AC := .seq a47_0 a47_8
def af47 : AF := { ntmps := 10, res := [(.cell 2 true 5)], body := a47_9 }
theorem tr47 : trF Try.prog Try.f47 = some af47 := by kernel_rfl
attribute [go_sem] af47 a47_0 a47_1 a47_2 a47_3 a47_4 a47_5 a47_6 a47_7 a47_8 a47_9
def a48_0 : AC := .reg [⟨(some 1), (.box (.t 0)), none, 0, false, []⟩,
    ⟨(some 2), (.new [(.int .i64 0), (.int .i64 0), (.int .i64 0), (.int .i64 0), .nils]), none, 0, false, []⟩] false
def a48_1 : AC := .reg [⟨(some 3), (.load true 32 (.t 1)), none, 0, false, []⟩,
    ⟨(some 4), (.call 107 [(.t 3)]), none, 0, false, []⟩,
    ⟨(some 5), (.un .not (.t 4)), none, 0, false, []⟩] false
def a48_2 : AC := .reg [⟨(some 6), (.build [(.int .i64 0), (.int .i64 0), (.int .i64 0), (.int .i64 0), .nils] []), none, 0, false, []⟩,
    ⟨none, (.store 5 (.t 2) (.t 6)), none, 0, false, []⟩] false
def a48_3 : AC := .seq a48_2 .ret
def a48_4 : AC := .cond (.t 5) a48_3 .skip
def a48_5 : AC := .seq a48_1 a48_4
def a48_6 : AC := .reg [⟨(some 7), (.load true 32 (.t 1)), none, 0, false, []⟩,
    ⟨(some 8), (.call 108 [(.c (.int .i64 14)), (.t 7), (.c .nils)]), none, 0, false, []⟩,
    ⟨none, (.store 5 (.t 2) (.t 8)), none, 0, false, []⟩] false
def a48_7 : AC := .seq a48_6 .ret
def a48_8 : AC := .seq a48_5 a48_7
def a48_9 : AC := .seq a48_0 a48_8
def af48 : AF := { ntmps := 9, res := [(.cell 2 true 5)], body := a48_9 }
theorem tr48 : trF Try.prog Try.f48 = some af48 := by kernel_rfl
attribute [go_sem] af48 a48_0 a48_1 a48_2 a48_3 a48_4 a48_5 a48_6 a48_7 a48_8 a48_9
def a49_0 : AC := .reg [⟨(some 2), (.box (.t 0)), none, 0, false, []⟩,
    ⟨(some 3), (.box (.t 1)), none, 0, false, []⟩,
    ⟨(some 4), (.mv (.c (.bool false))), none, 0, false, []⟩] false
def a49_1 : AC := .reg [⟨(some 5), (.fad 0 (.t 2)), none, 0, false, []⟩,
    ⟨(some 6), (.load false 1 (.t 5)), none, 0, false, []⟩,
    ⟨(some 7), (.fad 0 (.t 3)), none, 0, false, []⟩,
    ⟨(some 8), (.load false 1 (.t 7)), none, 0, false, []⟩,
    ⟨(some 9), (.bin 0 .eql (.t 6) (.t 8)), none, 0, false, []⟩,
    ⟨(some 10), (.mv (.t 9)), none, 0, false, []⟩,
    ⟨(some 11), (.fad 1 (.t 2)), (some (10, true)), 0, false, []⟩,
    ⟨(some 12), (.load true 5 (.t 11)), (some (10, true)), 0, false, []⟩,
    ⟨(some 13), (.fad 1 (.t 3)), (some (10, true)), 0, false, []⟩,
    ⟨(some 14), (.load true 5 (.t 13)), (some (10, true)), 0, false, []⟩,
    ⟨(some 15), (.call 30 [(.t 12), (.t 14)]), (some (10, true)), 0, false, []⟩,
    ⟨(some 16), (.pick (.t 10) (.t 15) (.c (.bool false))), none, 0, false, []⟩,
    ⟨(some 17), (.mv (.t 16)), none, 0, false, []⟩,
    ⟨(some 18), (.fad 6 (.t 2)), (some (17, true)), 0, false, []⟩,
    ⟨(some 19), (.load true 5 (.t 18)), (some (17, true)), 0, false, []⟩,
    ⟨(some 20), (.fad 6 (.t 3)), (some (17, true)), 0, false, []⟩,
    ⟨(some 21), (.load true 5 (.t 20)), (some (17, true)), 0, false, []⟩,
    ⟨(some 22), (.call 30 [(.t 19), (.t 21)]), (some (17, true)), 0, false, []⟩,
    ⟨(some 23), (.pick (.t 17) (.t 22) (.c (.bool false))), none, 0, false, []⟩,
    ⟨(some 24), (.mv (.t 23)), none, 0, false, []⟩,
    ⟨(some 25), (.fad 11 (.t 2)), (some (24, true)), 0, false, []⟩,
    ⟨(some 26), (.load true 5 (.t 25)), (some (24, true)), 0, false, []⟩,
    ⟨(some 27), (.fad 11 (.t 3)), (some (24, true)), 0, false, []⟩,
    ⟨(some 28), (.load true 5 (.t 27)), (some (24, true)), 0, false, []⟩,
    ⟨(some 29), (.call 30 [(.t 26), (.t 28)]), (some (24, true)), 0, false, []⟩,
    ⟨(some 30), (.pick (.t 24) (.t 29) (.c (.bool false))), none, 0, false, []⟩,
    ⟨(some 31), (.mv (.t 30)), none, 0, false, []⟩,
    ⟨(some 32), (.fad 16 (.t 2)), (some (31, true)), 0, false, []⟩,
    ⟨(some 33), (.load true 5 (.t 32)), (some (31, true)), 0, false, []⟩,
    ⟨(some 34), (.fad 16 (.t 3)), (some (31, true)), 0, false, []⟩,
    ⟨(some 35), (.load true 5 (.t 34)), (some (31, true)), 0, false, []⟩,
    ⟨(some 36), (.call 30 [(.t 33), (.t 35)]), (some (31, true)), 0, false, []⟩,
    ⟨(some 37), (.pick (.t 31) (.t 36) (.c (.bool false))), none, 0, false, []⟩,
    ⟨(some 38), (.mv (.t 37)), none, 0, false, []⟩,
    ⟨(some 39), (.fad 21 (.t 2)), (some (38, true)), 0, false, []⟩,
    ⟨(some 40), (.load true 5 (.t 39)), (some (38, true)), 0, false, []⟩,
    ⟨(some 41), (.fad 21 (.t 3)), (some (38, true)), 0, false, []⟩,
    ⟨(some 42), (.load true 5 (.t 41)), (some (38, true)), 0, false, []⟩,
    ⟨(some 43), (.call 30 [(.t 40), (.t 42)]), (some (38, true)), 0, false, []⟩,
    ⟨(some 44), (.pick (.t 38) (.t 43) (.c (.bool false))), none, 0, false, []⟩,
    ⟨(some 4), (.mv (.t 44)), none, 0, false, []⟩] false
def a49_2 : AC := .seq a49_1 .ret
def a49_3 : AC := .seq a49_0 a49_2
def af49 : AF := { ntmps := 45, res := [(.t 4)], body := a49_3 }
theorem tr49 : trF Try.prog Try.f49 = some af49 := by kernel_rfl
attribute [go_sem] af49 a49_0 a49_1 a49_2 a49_3
def a50_0 : AC := .reg [⟨(some 4), (.box (.t 0)), none, 0, false, []⟩,
    ⟨(some 5), (.box (.t 1)), none, 0, false, []⟩,
    ⟨(some 6), (.box (.t 2)), none, 0, false, []⟩,
    ⟨(some 7), (.box (.t 3)), none, 0, false, []⟩,
    ⟨(some 8), (.new [(.int .i64 0), (.int .i64 0), (.int .i64 0), (.int .i64 0), (.int .i64 0), .nils, (.int .i64 0), (.int .i64 0), (.int .i64 0), (.int .i64 0), .nils, (.int .i64 0), (.int .i64 0), (.int .i64 0), (.int .i64 0), .nils, (.int .i64 0), (.int .i64 0), (.int .i64 0), (.int .i64 0), .nils, (.int .i64 0), (.int .i64 0), (.int .i64 0), (.int .i64 0), .nils]), none, 0, false, []⟩] false
def a50_1 : AC := .reg [⟨(some 11), (.load true 32 (.t 4)), none, 0, false, []⟩,
    ⟨(some 12), (.call 105 [(.t 11)]), none, 0, false, []⟩,
    ⟨(some 13), (.un .not (.t 12)), none, 0, false, []⟩,
    ⟨(some 14), (.mv (.t 13)), none, 0, false, []⟩,
    ⟨(some 15), (.load true 5 (.t 5)), (some (14, false)), 0, false, []⟩,
    ⟨(some 16), (.load true 5 (.t 6)), (some (14, false)), 0, false, []⟩,
    ⟨(some 17), (.load true 5 (.t 7)), (some (14, false)), 0, false, []⟩,
    ⟨(some 18), (.bslice 5 [(.t 15), (.t 16), (.t 17)]), (some (14, false)), 0, false, []⟩,
    ⟨(some 19), (.call 109 [(.t 18)]), (some (14, false)), 0, false, []⟩,
    ⟨(some 20), (.un .not (.t 19)), (some (14, false)), 0, false, []⟩,
    ⟨(some 21), (.pick (.t 14) (.c (.bool true)) (.t 20)), none, 0, false, []⟩] false
def a50_2 : AC := .reg [⟨(some 22), (.build [(.int .i64 0), (.int .i64 0), (.int .i64 0), (.int .i64 0), (.int .i64 0), .nils, (.int .i64 0), (.int .i64 0), (.int .i64 0), (.int .i64 0), .nils, (.int .i64 0), (.int .i64 0), (.int .i64 0), (.int .i64 0), .nils, (.int .i64 0), (.int .i64 0), (.int .i64 0), (.int .i64 0), .nils, (.int .i64 0), (.int .i64 0), (.int .i64 0), (.int .i64 0), .nils] []), none, 0, false, []⟩,
    ⟨none, (.store 26 (.t 8) (.t 22)), none, 0, false, []⟩] false
def a50_3 : AC := .seq a50_2 .ret
def a50_4 : AC := .cond (.t 21) a50_3 .skip
def a50_5 : AC := .seq a50_1 a50_4
def a50_6 : AC := .reg [⟨(some 23), (.fad 2 (.t 4)), none, 0, false, []⟩,
    ⟨(some 24), (.load true 5 (.t 23)), none, 1, true, []⟩,
    ⟨(some 25), (.load true 5 (.t 5)), none, 2, true, []⟩,
    ⟨(some 26), (.call 110 [(.t 24), (.t 25)]), none, 3, true, []⟩,
    ⟨(some 27), (.fad 7 (.t 4)), none, 4, false, []⟩,
    ⟨(some 28), (.load true 5 (.t 27)), none, 5, true, [3]⟩,
    ⟨(some 29), (.load true 5 (.t 6)), none, 6, true, [3]⟩,
    ⟨(some 30), (.call 110 [(.t 28), (.t 29)]), none, 7, true, []⟩,
    ⟨(some 9), (.new [(.int .i64 0), (.int .i64 0), (.int .i64 0), (.int .i64 0), .nils]), none, 8, true, [1, 2, 3, 5, 6, 7]⟩,
    ⟨(some 10), (.new [(.int .i64 0), (.int .i64 0), (.int .i64 0), (.int .i64 0), .nils]), none, 9, false, [1, 2, 3, 5, 6, 7, 8]⟩,
    ⟨none, (.store 5 (.t 9) (.t 26)), none, 10, false, []⟩,
    ⟨none, (.store 5 (.t 10) (.t 30)), none, 11, false, []⟩] true
def a50_7 : AC := .reg [⟨(some 31), (.fad 0 (.t 4)), none, 0, false, []⟩,
    ⟨(some 32), (.load false 1 (.t 31)), none, 1, true, []⟩,
    ⟨(some 33), (.fad 1 (.t 4)), none, 2, false, []⟩,
    ⟨(some 34), (.load false 1 (.t 33)), none, 3, true, []⟩,
    ⟨(some 35), (.mnx true (.t 32) (.t 34)), none, 4, false, []⟩,
    ⟨(some 36), (.fad 2 (.t 4)), none, 5, false, []⟩,
    ⟨(some 37), (.load true 5 (.t 36)), none, 6, true, []⟩,
    ⟨(some 38), (.fad 12 (.t 4)), none, 7, false, []⟩,
    ⟨(some 39), (.load true 5 (.t 38)), none, 8, true, []⟩,
    ⟨(some 40), (.call 112 [(.t 37), (.t 39)]), none, 9, true, [1, 3]⟩,
    ⟨(some 41), (.fad 7 (.t 4)), none, 10, false, []⟩,
    ⟨(some 42), (.load true 5 (.t 41)), none, 11, true, [9]⟩,
    ⟨(some 43), (.fad 17 (.t 4)), none, 12, false, []⟩,
    ⟨(some 44), (.load true 5 (.t 43)), none, 13, true, [9]⟩,
    ⟨(some 45), (.call 112 [(.t 42), (.t 44)]), none, 14, true, [1, 3]⟩,
    ⟨(some 46), (.load true 5 (.t 9)), none, 15, true, [9, 14]⟩,
    ⟨(some 47), (.load true 5 (.t 10)), none, 16, true, [9, 14]⟩,
    ⟨(some 48), (.load true 32 (.t 4)), none, 17, true, [9, 14]⟩,
    ⟨(some 49), (.load true 5 (.t 9)), none, 18, false, [9, 14]⟩,
    ⟨(some 50), (.load true 5 (.t 10)), none, 19, false, [9, 14]⟩,
    ⟨(some 51), (.load true 5 (.t 7)), none, 20, false, [9, 14]⟩,
    ⟨(some 52), (.bslice 5 [(.t 49), (.t 50), (.t 51)]), none, 21, false, [1, 3, 6, 8, 9, 11, 13, 14, 15, 16, 17]⟩,
    ⟨(some 53), (.call 106 [(.t 48), (.c (.int .i64 15)), (.t 52)]), none, 22, false, [1, 3, 15, 16]⟩,
    ⟨(some 54), (.call 111 [(.t 35), (.t 40), (.t 45), (.t 46), (.t 47), (.t 53)]), none, 23, false, []⟩,
    ⟨none, (.store 26 (.t 8) (.t 54)), none, 24, false, []⟩] true
def a50_8 : AC := .seq a50_7 .ret
def a50_9 : AC := .seq a50_6 a50_8
def a50_10 : AC := .seq a50_5 a50_9
def a50_11 : AC := .seq a50_0 a50_10
def af50 : AF := { ntmps := 55, res := [(.cell 8 true 26)], body := a50_11 }
theorem tr50 : trF Try.prog Try.f50 = some af50 := by kernel_rfl
attribute [go_sem] af50 a50_0 a50_1 a50_2 a50_3 a50_4 a50_5 a50_6 a50_7 a50_8 a50_9 a50_10 a50_11
def a51_0 : AC := .reg [⟨(some 4), (.box (.t 0)), none, 0, false, []⟩,
    ⟨(some 5), (.box (.t 1)), none, 0, false, []⟩,
    ⟨(some 6), (.box (.t 2)), none, 0, false, []⟩,
    ⟨(some 7), (.box (.t 3)), none, 0, false, []⟩,
    ⟨(some 8), (.new [(.int .i64 0), (.int .i64 0), (.int .i64 0), (.int .i64 0), (.int .i64 0), .nils, (.int .i64 0), (.int .i64 0), (.int .i64 0), (.int .i64 0), .nils, (.int .i64 0), (.int .i64 0), (.int .i64 0), (.int .i64 0), .nils, (.int .i64 0), (.int .i64 0), (.int .i64 0), (.int .i64 0), .nils, (.int .i64 0), (.int .i64 0), (.int .i64 0), (.int .i64 0), .nils]), none, 0, false, []⟩] false
def a51_1 : AC := .reg [⟨(some 11), (.load true 32 (.t 4)), none, 0, false, []⟩,
    ⟨(some 12), (.call 107 [(.t 11)]), none, 0, false, []⟩,
    ⟨(some 13), (.un .not (.t 12)), none, 0, false, []⟩,
    ⟨(some 14), (.mv (.t 13)), none, 0, false, []⟩,
    ⟨(some 15), (.load true 5 (.t 5)), (some (14, false)), 0, false, []⟩,
    ⟨(some 16), (.load true 5 (.t 6)), (some (14, false)), 0, false, []⟩,
    ⟨(some 17), (.load true 5 (.t 7)), (some (14, false)), 0, false, []⟩,
    ⟨(some 18), (.bslice 5 [(.t 15), (.t 16), (.t 17)]), (some (14, false)), 0, false, []⟩,
    ⟨(some 19), (.call 93 [(.t 18)]), (some (14, false)), 0, false, []⟩,
    ⟨(some 20), (.un .not (.t 19)), (some (14, false)), 0, false, []⟩,
    ⟨(some 21), (.pick (.t 14) (.c (.bool true)) (.t 20)), none, 0, false, []⟩] false
def a51_2 : AC := .reg [⟨(some 22), (.build [(.int .i64 0), (.int .i64 0), (.int .i64 0), (.int .i64 0), (.int .i64 0), .nils, (.int .i64 0), (.int .i64 0), (.int .i64 0), (.int .i64 0), .nils, (.int .i64 0), (.int .i64 0), (.int .i64 0), (.int .i64 0), .nils, (.int .i64 0), (.int .i64 0), (.int .i64 0), (.int .i64 0), .nils, (.int .i64 0), (.int .i64 0), (.int .i64 0), (.int .i64 0), .nils] []), none, 0, false, []⟩,
    ⟨none, (.store 26 (.t 8) (.t 22)), none, 0, false, []⟩] false
def a51_3 : AC := .seq a51_2 .ret
def a51_4 : AC := .cond (.t 21) a51_3 .skip
def a51_5 : AC := .seq a51_1 a51_4
def a51_6 : AC := .reg [⟨(some 23), (.fad 2 (.t 4)), none, 0, false, []⟩,
    ⟨(some 24), (.load true 5 (.t 23)), none, 1, true, []⟩,
    ⟨(some 25), (.load true 5 (.t 5)), none, 2, true, []⟩,
    ⟨(some 26), (.bslice 5 [(.t 24), (.t 25)]), none, 3, true, []⟩,
    ⟨(some 27), (.call 94 [(.c (.int .i64 14)), (.t 26)]), none, 4, true, []⟩,
    ⟨(some 28), (.fad 7 (.t 4)), none, 5, false, []⟩,
    ⟨(some 29), (.load true 5 (.t 28)), none, 6, true, [3, 4]⟩,
    ⟨(some 30), (.load true 5 (.t 6)), none, 7, true, [3, 4]⟩,
    ⟨(some 31), (.bslice 5 [(.t 29), (.t 30)]), none, 8, true, [1, 2, 3, 4]⟩,
    ⟨(some 32), (.call 94 [(.c (.int .i64 14)), (.t 31)]), none, 9, true, []⟩,
    ⟨(some 9), (.new [(.int .i64 0), (.int .i64 0), (.int .i64 0), (.int .i64 0), .nils]), none, 10, true, [1, 2, 3, 4, 6, 7, 8, 9]⟩,
    ⟨(some 10), (.new [(.int .i64 0), (.int .i64 0), (.int .i64 0), (.int .i64 0), .nils]), none, 11, false, [1, 2, 3, 4, 6, 7, 8, 9, 10]⟩,
    ⟨none, (.store 5 (.t 9) (.t 27)), none, 12, false, []⟩,
    ⟨none, (.store 5 (.t 10) (.t 32)), none, 13, false, []⟩] true
def a51_7 : AC := .reg [⟨(some 33), (.fad 0 (.t 4)), none, 0, false, []⟩,
    ⟨(some 34), (.load false 1 (.t 33)), none, 1, true, []⟩,
    ⟨(some 35), (.fad 1 (.t 4)), none, 2, false, []⟩,
    ⟨(some 36), (.load false 1 (.t 35)), none, 3, true, []⟩,
    ⟨(some 37), (.mnx true (.t 34) (.t 36)), none, 4, false, []⟩,
    ⟨(some 38), (.fad 2 (.t 4)), none, 5, false, []⟩,
    ⟨(some 39), (.load true 5 (.t 38)), none, 6, true, []⟩,
    ⟨(some 40), (.fad 12 (.t 4)), none, 7, false, []⟩,
    ⟨(some 41), (.load true 5 (.t 40)), none, 8, true, []⟩,
    ⟨(some 42), (.bslice 5 [(.t 39), (.t 41)]), none, 9, true, [1, 3]⟩,
    ⟨(some 43), (.call 94 [(.c (.int .i64 13)), (.t 42)]), none, 10, true, [1, 3]⟩,
    ⟨(some 44), (.fad 7 (.t 4)), none, 11, false, []⟩,
    ⟨(some 45), (.load true 5 (.t 44)), none, 12, true, [9, 10]⟩,
    ⟨(some 46), (.fad 17 (.t 4)), none, 13, false, []⟩,
    ⟨(some 47), (.load true 5 (.t 46)), none, 14, true, [9, 10]⟩,
    ⟨(some 48), (.bslice 5 [(.t 45), (.t 47)]), none, 15, true, [1, 3, 6, 8, 9, 10]⟩,
    ⟨(some 49), (.call 94 [(.c (.int .i64 13)), (.t 48)]), none, 16, true, [1, 3]⟩,
    ⟨(some 50), (.load true 5 (.t 9)), none, 17, true, [9, 10, 15, 16]⟩,
    ⟨(some 51), (.load true 5 (.t 10)), none, 18, true, [9, 10, 15, 16]⟩,
    ⟨(some 52), (.load true 32 (.t 4)), none, 19, true, [9, 10, 15, 16]⟩,
    ⟨(some 53), (.load true 5 (.t 9)), none, 20, false, [9, 10, 15, 16]⟩,
    ⟨(some 54), (.load true 5 (.t 10)), none, 21, false, [9, 10, 15, 16]⟩,
    ⟨(some 55), (.load true 5 (.t 7)), none, 22, false, [9, 10, 15, 16]⟩,
    ⟨(some 56), (.bslice 5 [(.t 53), (.t 54), (.t 55)]), none, 23, false, [1, 3, 6, 8, 9, 10, 12, 14, 15, 16, 17, 18, 19]⟩,
    ⟨(some 57), (.call 108 [(.c (.int .i64 15)), (.t 52), (.t 56)]), none, 24, false, [1, 3, 17, 18]⟩,
    ⟨(some 58), (.build [(.int .i64 0), (.int .i64 0), (.int .i64 0), (.int .i64 0), (.int .i64 0), .nils, (.int .i64 0), (.int .i64 0), (.int .i64 0), (.int .i64 0), .nils, (.int .i64 0), (.int .i64 0), (.int .i64 0), (.int .i64 0), .nils, (.int .i64 0), (.int .i64 0), (.int .i64 0), (.int .i64 0), .nils, (.int .i64 0), (.int .i64 0), (.int .i64 0), (.int .i64 0), .nils] [(0, (1, (.t 37))), (1, (5, (.t 43))), (6, (5, (.t 49))), (11, (5, (.t 50))), (16, (5, (.t 51))), (21, (5, (.t 57)))]), none, 25, false, []⟩,
    ⟨none, (.store 26 (.t 8) (.t 58)), none, 26, false, []⟩] true
def a51_8 : AC := .seq a51_7 .ret
def a51_9 : AC := .seq a51_6 a51_8
def a51_10 : AC := .seq a51_5 a51_9
def a51_11 : AC := .seq a51_0 a51_10
def af51 : AF := { ntmps := 59, res := [(.cell 8 true 26)], body := a51_11 }
theorem tr51 : trF Try.prog Try.f51 = some af51 := by kernel_rfl
attribute [go_sem] af51 a51_0 a51_1 a51_2 a51_3 a51_4 a51_5 a51_6 a51_7 a51_8 a51_9 a51_10 a51_11
def a52_0 : AC := .reg [⟨(some 0), (.mv (.c (.bool false))), none, 0, false, []⟩] false
def a52_1 : AC := .reg [⟨(some 3), (.call 113 [(.c (.int .i64 0))]), none, 0, false, []⟩,
    ⟨(some 4), (.call 113 [(.c (.int .i64 0))]), none, 0, false, []⟩,
    ⟨(some 5), (.call 113 [(.c (.int .i64 0))]), none, 0, false, []⟩,
    ⟨(some 6), (.call 113 [(.c (.int .i64 0))]), none, 0, false, []⟩,
    ⟨(some 7), (.call 114 [(.c (.int .i64 0))]), none, 0, false, []⟩,
    ⟨(some 8), (.call 114 [(.c (.int .i64 1))]), none, 0, false, []⟩,
    ⟨(some 9), (.build [(.int .i64 0), (.int .i64 0), (.int .i64 0), (.int .i64 0), (.int .i64 0), (.int .i64 0), .nils, (.int .i64 0), (.int .i64 0), (.int .i64 0), (.int .i64 0), .nils, (.int .i64 0), (.int .i64 0), (.int .i64 0), (.int .i64 0), .nils, (.int .i64 0), (.int .i64 0), (.int .i64 0), (.int .i64 0), .nils, (.int .i64 0), (.int .i64 0), (.int .i64 0), (.int .i64 0), .nils, (.int .i64 0), (.int .i64 0), (.int .i64 0), (.int .i64 0), .nils] [(2, (5, (.t 3))), (7, (5, (.t 4))), (12, (5, (.t 5))), (17, (5, (.t 6))), (22, (5, (.t 7))), (27, (5, (.t 8)))]), none, 0, false, []⟩,
    ⟨(some 1), (.new [(.int .i64 0), (.int .i64 0), (.int .i64 0), (.int .i64 0), (.int .i64 0), (.int .i64 0), .nils, (.int .i64 0), (.int .i64 0), (.int .i64 0), (.int .i64 0), .nils, (.int .i64 0), (.int .i64 0), (.int .i64 0), (.int .i64 0), .nils, (.int .i64 0), (.int .i64 0), (.int .i64 0), (.int .i64 0), .nils, (.int .i64 0), (.int .i64 0), (.int .i64 0), (.int .i64 0), .nils, (.int .i64 0), (.int .i64 0), (.int .i64 0), (.int .i64 0), .nils]), none, 0, false, []⟩,
    ⟨none, (.store 32 (.t 1) (.t 9)), none, 0, false, []⟩] false
def a52_2 : AC := .reg [⟨(some 10), (.load true 32 (.t 1)), none, 0, true, []⟩,
    ⟨(some 11), (.call 114 [(.c (.int .i64 2))]), none, 1, true, [0]⟩,
    ⟨(some 12), (.call 114 [(.c (.int .i64 3))]), none, 2, true, [0]⟩,
    ⟨(some 13), (.call 114 [(.c (.int .i64 4))]), none, 3, true, [0]⟩,
    ⟨(some 14), (.build [(.int .i64 0), (.int .i64 0), (.int .i64 0), (.int .i64 0), (.int .i64 0), .nils, (.int .i64 0), (.int .i64 0), (.int .i64 0), (.int .i64 0), .nils, (.int .i64 0), (.int .i64 0), (.int .i64 0), (.int .i64 0), .nils, (.int .i64 0), (.int .i64 0), (.int .i64 0), (.int .i64 0), .nils, (.int .i64 0), (.int .i64 0), (.int .i64 0), (.int .i64 0), .nils] [(11, (5, (.t 11))), (16, (5, (.t 12))), (21, (5, (.t 13)))]), none, 4, false, []⟩,
    ⟨(some 15), (.call 75 [(.t 10), (.t 14)]), none, 5, true, []⟩,
    ⟨(some 2), (.new [(.int .i64 0), (.int .i64 0), (.int .i64 0), (.int .i64 0), (.int .i64 0), .nils, (.int .i64 0), (.int .i64 0), (.int .i64 0), (.int .i64 0), .nils, (.int .i64 0), (.int .i64 0), (.int .i64 0), (.int .i64 0), .nils, (.int .i64 0), (.int .i64 0), (.int .i64 0), (.int .i64 0), .nils, (.int .i64 0), (.int .i64 0), (.int .i64 0), (.int .i64 0), .nils]), none, 6, false, [0, 1, 2, 3, 5]⟩,
    ⟨none, (.store 26 (.t 2) (.t 15)), none, 7, false, []⟩] true
def a52_3 : AC := .reg [⟨(some 16), (.fad 11 (.t 2)), none, 0, false, []⟩,
    ⟨(some 17), (.fad 0 (.t 16)), none, 0, false, []⟩,
    ⟨(some 18), (.load false 1 (.t 17)), none, 0, false, []⟩,
    ⟨(some 19), (.bin 0 .eql (.t 18) (.c (.int .i64 18))), none, 0, false, []⟩,
    ⟨(some 20), (.mv (.t 19)), none, 0, false, []⟩,
    ⟨(some 21), (.fad 21 (.t 2)), (some (20, true)), 0, false, []⟩,
    ⟨(some 22), (.fad 3 (.t 21)), (some (20, true)), 0, false, []⟩,
    ⟨(some 23), (.load false 1 (.t 22)), (some (20, true)), 0, false, []⟩,
    ⟨(some 24), (.bin 0 .eql (.t 23) (.c (.int .i64 18))), (some (20, true)), 0, false, []⟩,
    ⟨(some 25), (.pick (.t 20) (.t 24) (.c (.bool false))), none, 0, false, []⟩,
    ⟨(some 26), (.mv (.t 25)), none, 0, false, []⟩,
    ⟨(some 27), (.fad 21 (.t 2)), (some (26, true)), 0, false, []⟩,
    ⟨(some 28), (.fad 4 (.t 27)), (some (26, true)), 0, false, []⟩,
    ⟨(some 29), (.load false 1 (.t 28)), (some (26, true)), 0, false, []⟩,
    ⟨(some 30), (.len false (.t 29)), (some (26, true)), 0, false, []⟩,
    ⟨(some 31), (.bin 0 .eql (.t 30) (.c (.int .i64 9))), (some (26, true)), 0, false, []⟩,
    ⟨(some 32), (.pick (.t 26) (.t 31) (.c (.bool false))), none, 0, false, []⟩,
    ⟨(some 33), (.mv (.t 32)), none, 0, false, []⟩,
    ⟨(some 34), (.load true 32 (.t 1)), (some (33, true)), 0, false, []⟩,
    ⟨(some 35), (.call 45 [(.t 34)]), (some (33, true)), 0, false, []⟩,
    ⟨(some 36), (.fld false 3 1 (.t 35)), (some (33, true)), 0, false, []⟩,
    ⟨(some 37), (.bin 0 .eql (.t 36) (.c (.int .i64 13))), (some (33, true)), 0, false, []⟩,
    ⟨(some 38), (.pick (.t 33) (.t 37) (.c (.bool false))), none, 0, false, []⟩,
    ⟨(some 39), (.mv (.t 38)), none, 0, false, []⟩,
    ⟨(some 40), (.build [(.int .i64 0), (.int .i64 0), (.int .i64 0), (.int .i64 0), (.int .i64 0), (.int .i64 0), .nils, (.int .i64 0), (.int .i64 0), (.int .i64 0), (.int .i64 0), .nils, (.int .i64 0), (.int .i64 0), (.int .i64 0), (.int .i64 0), .nils, (.int .i64 0), (.int .i64 0), (.int .i64 0), (.int .i64 0), .nils, (.int .i64 0), (.int .i64 0), (.int .i64 0), (.int .i64 0), .nils, (.int .i64 0), (.int .i64 0), (.int .i64 0), (.int .i64 0), .nils] []), (some (39, true)), 0, false, []⟩,
    ⟨(some 41), (.call 45 [(.t 40)]), (some (39, true)), 0, false, []⟩,
    ⟨(some 42), (.fld false 0 1 (.t 41)), (some (39, true)), 0, false, []⟩,
    ⟨(some 43), (.bin 0 .eql (.t 42) (.c (.int .i64 0))), (some (39, true)), 0, false, []⟩,
    ⟨(some 44), (.pick (.t 39) (.t 43) (.c (.bool false))), none, 0, false, []⟩,
    ⟨(some 0), (.mv (.t 44)), none, 0, false, []⟩] false
def a52_4 : AC := .seq a52_3 .ret
def a52_5 : AC := .seq a52_2 a52_4
def a52_6 : AC := .seq a52_1 a52_5
def a52_7 : AC := .seq a52_0 a52_6
def af52 : AF := { ntmps := 45, res := [(.t 0)], body := a52_7 }
theorem tr52 : trF Try.prog Try.f52 = some af52 := by kernel_rfl
attribute [go_sem] af52 a52_0 a52_1 a52_2 a52_3 a52_4 a52_5 a52_6 a52_7
def a53_0 : AC := .reg [⟨(some 7), (.box (.t 1)), none, 0, false, []⟩,
    ⟨(some 8), (.box (.t 2)), none, 0, false, []⟩,
    ⟨(some 9), (.box (.t 3)), none, 0, false, []⟩,
    ⟨(some 10), (.box (.t 4)), none, 0, false, []⟩,
    ⟨(some 11), (.box (.t 5)), none, 0, false, []⟩,
    ⟨(some 12), (.new [(.int .i64 0), (.int .i64 0), (.int .i64 0), (.int .i64 0), .nils]), none, 0, false, []⟩] false
def a53_1 : AC := .reg [⟨(some 13), (.mv (.t 0)), none, 0, false, []⟩,
    ⟨(some 14), (.call 115 [(.t 13)]), none, 0, false, []⟩,
    ⟨(some 15), (.un .not (.t 14)), none, 0, false, []⟩,
    ⟨(some 16), (.mv (.t 15)), none, 0, false, []⟩,
    ⟨(some 17), (.load true 5 (.t 7)), (some (16, false)), 0, false, []⟩,
    ⟨(some 18), (.load true 5 (.t 8)), (some (16, false)), 0, false, []⟩,
    ⟨(some 19), (.load true 5 (.t 9)), (some (16, false)), 0, false, []⟩,
    ⟨(some 20), (.bslice 5 [(.t 17), (.t 18), (.t 19)]), (some (16, false)), 0, false, []⟩,
    ⟨(some 21), (.call 109 [(.t 20)]), (some (16, false)), 0, false, []⟩,
    ⟨(some 22), (.un .not (.t 21)), (some (16, false)), 0, false, []⟩,
    ⟨(some 23), (.pick (.t 16) (.c (.bool true)) (.t 22)), none, 0, false, []⟩,
    ⟨(some 24), (.mv (.t 23)), none, 0, false, []⟩,
    ⟨(some 25), (.load true 26 (.t 10)), (some (24, false)), 0, false, []⟩,
    ⟨(some 26), (.call 116 [(.t 25)]), (some (24, false)), 0, false, []⟩,
    ⟨(some 27), (.un .not (.t 26)), (some (24, false)), 0, false, []⟩,
    ⟨(some 28), (.pick (.t 24) (.c (.bool true)) (.t 27)), none, 0, false, []⟩,
    ⟨(some 29), (.mv (.t 28)), none, 0, false, []⟩,
    ⟨(some 30), (.load true 26 (.t 11)), (some (29, false)), 0, false, []⟩,
    ⟨(some 31), (.call 116 [(.t 30)]), (some (29, false)), 0, false, []⟩,
    ⟨(some 32), (.un .not (.t 31)), (some (29, false)), 0, false, []⟩,
    ⟨(some 33), (.pick (.t 29) (.c (.bool true)) (.t 32)), none, 0, false, []⟩] false
def a53_2 : AC := .reg [⟨(some 34), (.build [(.int .i64 0), (.int .i64 0), (.int .i64 0), (.int .i64 0), .nils] []), none, 0, false, []⟩,
    ⟨none, (.store 5 (.t 12) (.t 34)), none, 0, false, []⟩] false
def a53_3 : AC := .seq a53_2 .ret
def a53_4 : AC := .cond (.t 33) a53_3 .skip
def a53_5 : AC := .seq a53_1 a53_4
def a53_6 : AC := .reg [⟨(some 35), (.mv (.t 0)), none, 0, false, []⟩,
    ⟨(some 36), (.load true 5 (.t 7)), none, 0, false, []⟩,
    ⟨(some 37), (.load true 5 (.t 8)), none, 0, false, []⟩,
    ⟨(some 38), (.load true 5 (.t 9)), none, 0, false, []⟩,
    ⟨(some 39), (.fad 11 (.t 10)), none, 0, false, []⟩,
    ⟨(some 40), (.load true 5 (.t 39)), none, 0, false, []⟩,
    ⟨(some 41), (.fad 16 (.t 10)), none, 0, false, []⟩,
    ⟨(some 42), (.load true 5 (.t 41)), none, 0, false, []⟩,
    ⟨(some 43), (.fad 21 (.t 10)), none, 0, false, []⟩,
    ⟨(some 44), (.load true 5 (.t 43)), none, 0, false, []⟩,
    ⟨(some 45), (.fad 11 (.t 11)), none, 0, false, []⟩,
    ⟨(some 46), (.load true 5 (.t 45)), none, 0, false, []⟩,
    ⟨(some 47), (.fad 16 (.t 11)), none, 0, false, []⟩,
    ⟨(some 48), (.load true 5 (.t 47)), none, 0, false, []⟩,
    ⟨(some 49), (.fad 21 (.t 11)), none, 0, false, []⟩,
    ⟨(some 50), (.load true 5 (.t 49)), none, 0, false, []⟩,
    ⟨(some 51), (.bslice 5 [(.t 36), (.t 37), (.t 38), (.t 40), (.t 42), (.t 44), (.t 46), (.t 48), (.t 50)]), none, 0, false, []⟩,
    ⟨(some 52), (.call 97 [(.c (.int .i64 23)), (.t 35), (.c (.int .i64 0)), (.c (.int .i64 20)), (.t 51)]), none, 0, false, []⟩,
    ⟨(some 53), (.call 90 [(.t 52)]), none, 0, false, []⟩,
    ⟨none, (.store 5 (.t 12) (.t 53)), none, 0, false, []⟩] false
def a53_7 : AC := .seq a53_6 .ret
def a53_8 : AC := .seq a53_5 a53_7
def a53_9 : AC := .seq a53_0 a53_8
def af53 : AF := { ntmps := 54, res := [(.cell 12 true 5)], body := a53_9 }
theorem tr53 : trF Try.prog Try.f53 = some af53 := by kernel_rfl
attribute [go_sem] af53 a53_0 a53_1 a53_2 a53_3 a53_4 a53_5 a53_6 a53_7 a53_8 a53_9
def a54_0 : AC := .reg [⟨(some 1), (.box (.t 0)), none, 0, false, []⟩,
    ⟨(some 2), (.new [(.int .i64 0), (.int .i64 0), (.int .i64 0), (.int .i64 0), (.int .i64 0), .nils, (.int .i64 0), (.int .i64 0), (.int .i64 0), (.int .i64 0), .nils, (.int .i64 0), (.int .i64 0), (.int .i64 0), (.int .i64 0), .nils, (.int .i64 0), (.int .i64 0), (.int .i64 0), (.int .i64 0), .nils, (.int .i64 0), (.int .i64 0), (.int .i64 0), (.int .i64 0), .nils]), none, 0, false, []⟩] false
def a54_1 : AC := .reg [⟨(some 3), (.fad 0 (.t 1)), none, 0, false, []⟩,
    ⟨(some 4), (.load false 1 (.t 3)), none, 0, false, []⟩,
    ⟨(some 5), (.fad 1 (.t 1)), none, 0, false, []⟩,
    ⟨(some 6), (.load true 5 (.t 5)), none, 0, false, []⟩,
    ⟨(some 7), (.fad 6 (.t 1)), none, 0, false, []⟩,
    ⟨(some 8), (.load true 5 (.t 7)), none, 0, false, []⟩,
    ⟨(some 9), (.fad 11 (.t 1)), none, 0, false, []⟩,
    ⟨(some 10), (.load true 5 (.t 9)), none, 0, false, []⟩,
    ⟨(some 11), (.fad 16 (.t 1)), none, 0, false, []⟩,
    ⟨(some 12), (.load true 5 (.t 11)), none, 0, false, []⟩,
    ⟨(some 13), (.fad 21 (.t 1)), none, 0, false, []⟩,
    ⟨(some 14), (.load true 5 (.t 13)), none, 0, false, []⟩,
    ⟨(some 15), (.build [(.int .i64 0), (.int .i64 0), (.int .i64 0), (.int .i64 0), (.int .i64 0), .nils, (.int .i64 0), (.int .i64 0), (.int .i64 0), (.int .i64 0), .nils, (.int .i64 0), (.int .i64 0), (.int .i64 0), (.int .i64 0), .nils, (.int .i64 0), (.int .i64 0), (.int .i64 0), (.int .i64 0), .nils, (.int .i64 0), (.int .i64 0), (.int .i64 0), (.int .i64 0), .nils] [(0, (1, (.t 4))), (1, (5, (.t 6))), (6, (5, (.t 8))), (11, (5, (.t 10))), (16, (5, (.t 12))), (21, (5, (.t 14)))]), none, 0, false, []⟩,
    ⟨none, (.store 26 (.t 2) (.t 15)), none, 0, false, []⟩] false
def a54_2 : AC := .seq a54_1 .ret
def a54_3 : AC := .seq a54_0 a54_2
def af54 : AF := { ntmps := 16, res := [(.cell 2 true 26)], body := a54_3 }
theorem tr54 : trF Try.prog Try.f54 = some af54 := by kernel_rfl
attribute [go_sem] af54 a54_0 a54_1 a54_2 a54_3
def a55_0 : AC := .reg [⟨(some 7), (.box (.t 1)), none, 0, false, []⟩,
    ⟨(some 8), (.box (.t 2)), none, 0, false, []⟩,
    ⟨(some 9), (.box (.t 3)), none, 0, false, []⟩,
    ⟨(some 10), (.box (.t 4)), none, 0, false, []⟩,
    ⟨(some 11), (.box (.t 5)), none, 0, false, []⟩,
    ⟨(some 12), (.new [(.int .i64 0), (.int .i64 0), (.int .i64 0), (.int .i64 0), .nils]), none, 0, false, []⟩] false
def a55_1 : AC := .reg [⟨(some 13), (.mv (.t 0)), none, 0, false, []⟩,
    ⟨(some 14), (.call 92 [(.t 13), (.c (.int .i64 3))]), none, 0, false, []⟩,
    ⟨(some 15), (.un .not (.t 14)), none, 0, false, []⟩,
    ⟨(some 16), (.mv (.t 15)), none, 0, false, []⟩,
    ⟨(some 17), (.load true 5 (.t 7)), (some (16, false)), 0, false, []⟩,
    ⟨(some 18), (.load true 5 (.t 8)), (some (16, false)), 0, false, []⟩,
    ⟨(some 19), (.load true 5 (.t 9)), (some (16, false)), 0, false, []⟩,
    ⟨(some 20), (.bslice 5 [(.t 17), (.t 18), (.t 19)]), (some (16, false)), 0, false, []⟩,
    ⟨(some 21), (.call 93 [(.t 20)]), (some (16, false)), 0, false, []⟩,
    ⟨(some 22), (.un .not (.t 21)), (some (16, false)), 0, false, []⟩,
    ⟨(some 23), (.pick (.t 16) (.c (.bool true)) (.t 22)), none, 0, false, []⟩,
    ⟨(some 24), (.mv (.t 23)), none, 0, false, []⟩,
    ⟨(some 25), (.load true 26 (.t 10)), (some (24, false)), 0, false, []⟩,
    ⟨(some 26), (.call 117 [(.t 25)]), (some (24, false)), 0, false, []⟩,
    ⟨(some 27), (.un .not (.t 26)), (some (24, false)), 0, false, []⟩,
    ⟨(some 28), (.pick (.t 24) (.c (.bool true)) (.t 27)), none, 0, false, []⟩,
    ⟨(some 29), (.mv (.t 28)), none, 0, false, []⟩,
    ⟨(some 30), (.load true 26 (.t 11)), (some (29, false)), 0, false, []⟩,
    ⟨(some 31), (.call 117 [(.t 30)]), (some (29, false)), 0, false, []⟩,
    ⟨(some 32), (.un .not (.t 31)), (some (29, false)), 0, false, []⟩,
    ⟨(some 33), (.pick (.t 29) (.c (.bool true)) (.t 32)), none, 0, false, []⟩] false
def a55_2 : AC := .reg [⟨(some 34), (.build [(.int .i64 0), (.int .i64 0), (.int .i64 0), (.int .i64 0), .nils] []), none, 0, false, []⟩,
    ⟨none, (.store 5 (.t 12) (.t 34)), none, 0, false, []⟩] false
def a55_3 : AC := .seq a55_2 .ret
def a55_4 : AC := .cond (.t 33) a55_3 .skip
def a55_5 : AC := .seq a55_1 a55_4
def a55_6 : AC := .reg [⟨(some 35), (.mv (.t 0)), none, 0, false, []⟩,
    ⟨(some 36), (.load true 5 (.t 7)), none, 0, false, []⟩,
    ⟨(some 37), (.load true 5 (.t 8)), none, 0, false, []⟩,
    ⟨(some 38), (.load true 5 (.t 9)), none, 0, false, []⟩,
    ⟨(some 39), (.fad 11 (.t 10)), none, 0, false, []⟩,
    ⟨(some 40), (.load true 5 (.t 39)), none, 0, false, []⟩,
    ⟨(some 41), (.fad 16 (.t 10)), none, 0, false, []⟩,
    ⟨(some 42), (.load true 5 (.t 41)), none, 0, false, []⟩,
    ⟨(some 43), (.fad 21 (.t 10)), none, 0, false, []⟩,
    ⟨(some 44), (.load true 5 (.t 43)), none, 0, false, []⟩,
    ⟨(some 45), (.fad 11 (.t 11)), none, 0, false, []⟩,
    ⟨(some 46), (.load true 5 (.t 45)), none, 0, false, []⟩,
    ⟨(some 47), (.fad 16 (.t 11)), none, 0, false, []⟩,
    ⟨(some 48), (.load true 5 (.t 47)), none, 0, false, []⟩,
    ⟨(some 49), (.fad 21 (.t 11)), none, 0, false, []⟩,
    ⟨(some 50), (.load true 5 (.t 49)), none, 0, false, []⟩,
    ⟨(some 51), (.bslice 5 [(.t 36), (.t 37), (.t 38), (.t 40), (.t 42), (.t 44), (.t 46), (.t 48), (.t 50)]), none, 0, false, []⟩,
    ⟨(some 52), (.call 102 [(.c (.int .i64 20)), (.t 35), (.c (.int .i64 0)), (.t 51)]), none, 0, false, []⟩,
    ⟨none, (.store 5 (.t 12) (.t 52)), none, 0, false, []⟩] false
def a55_7 : AC := .seq a55_6 .ret
def a55_8 : AC := .seq a55_5 a55_7
def a55_9 : AC := .seq a55_0 a55_8
def af55 : AF := { ntmps := 53, res := [(.cell 12 true 5)], body := a55_9 }
theorem tr55 : trF Try.prog Try.f55 = some af55 := by kernel_rfl
attribute [go_sem] af55 a55_0 a55_1 a55_2 a55_3 a55_4 a55_5 a55_6 a55_7 a55_8 a55_9
def a57_0 : AC := .reg [⟨(some 6), (.box (.t 1)), none, 0, false, []⟩,
    ⟨(some 7), (.box (.t 2)), none, 0, false, []⟩,
    ⟨(some 8), (.box (.t 3)), none, 0, false, []⟩,
    ⟨(some 9), (.box (.t 4)), none, 0, false, []⟩,
    ⟨(some 10), (.new [(.int .i64 0), (.int .i64 0), (.int .i64 0), (.int .i64 0), (.int .i64 0), .nils, (.int .i64 0), (.int .i64 0), (.int .i64 0), (.int .i64 0), .nils, (.int .i64 0), (.int .i64 0), (.int .i64 0), (.int .i64 0), .nils, (.int .i64 0), (.int .i64 0), (.int .i64 0), (.int .i64 0), .nils, (.int .i64 0), (.int .i64 0), (.int .i64 0), (.int .i64 0), .nils]), none, 0, false, []⟩] false
def a57_1 : AC := .reg [⟨(some 11), (.mv (.t 0)), none, 0, false, []⟩,
    ⟨(some 12), (.call 92 [(.t 11), (.c (.int .i64 3))]), none, 0, false, []⟩,
    ⟨(some 13), (.un .not (.t 12)), none, 0, false, []⟩,
    ⟨(some 14), (.mv (.t 13)), none, 0, false, []⟩,
    ⟨(some 15), (.load true 5 (.t 6)), (some (14, false)), 0, false, []⟩,
    ⟨(some 16), (.load true 5 (.t 7)), (some (14, false)), 0, false, []⟩,
    ⟨(some 17), (.load true 5 (.t 8)), (some (14, false)), 0, false, []⟩,
    ⟨(some 18), (.bslice 5 [(.t 15), (.t 16), (.t 17)]), (some (14, false)), 0, false, []⟩,
    ⟨(some 19), (.call 93 [(.t 18)]), (some (14, false)), 0, false, []⟩,
    ⟨(some 20), (.un .not (.t 19)), (some (14, false)), 0, false, []⟩,
    ⟨(some 21), (.pick (.t 14) (.c (.bool true)) (.t 20)), none, 0, false, []⟩,
    ⟨(some 22), (.mv (.t 21)), none, 0, false, []⟩,
    ⟨(some 23), (.load true 26 (.t 9)), (some (22, false)), 0, false, []⟩,
    ⟨(some 24), (.call 117 [(.t 23)]), (some (22, false)), 0, false, []⟩,
    ⟨(some 25), (.un .not (.t 24)), (some (22, false)), 0, false, []⟩,
    ⟨(some 26), (.pick (.t 22) (.c (.bool true)) (.t 25)), none, 0, false, []⟩] false
def a57_2 : AC := .reg [⟨(some 27), (.build [(.int .i64 0), (.int .i64 0), (.int .i64 0), (.int .i64 0), (.int .i64 0), .nils, (.int .i64 0), (.int .i64 0), (.int .i64 0), (.int .i64 0), .nils, (.int .i64 0), (.int .i64 0), (.int .i64 0), (.int .i64 0), .nils, (.int .i64 0), (.int .i64 0), (.int .i64 0), (.int .i64 0), .nils, (.int .i64 0), (.int .i64 0), (.int .i64 0), (.int .i64 0), .nils] []), none, 0, false, []⟩,
    ⟨none, (.store 26 (.t 10) (.t 27)), none, 0, false, []⟩] false
def a57_3 : AC := .seq a57_2 .ret
def a57_4 : AC := .cond (.t 26) a57_3 .skip
def a57_5 : AC := .seq a57_1 a57_4
def a57_6 : AC := .reg [⟨(some 28), (.mv (.t 0)), none, 0, false, []⟩,
    ⟨(some 29), (.load true 5 (.t 6)), none, 1, true, []⟩,
    ⟨(some 30), (.fad 11 (.t 9)), none, 2, false, []⟩,
    ⟨(some 31), (.load true 5 (.t 30)), none, 3, true, []⟩,
    ⟨(some 32), (.fad 11 (.t 9)), none, 4, false, []⟩,
    ⟨(some 33), (.load true 5 (.t 32)), none, 5, true, []⟩,
    ⟨(some 34), (.bslice 5 [(.t 29), (.t 31), (.t 33)]), none, 6, true, []⟩,
    ⟨(some 35), (.call 94 [(.c (.int .i64 20)), (.t 34)]), none, 7, true, []⟩,
    ⟨(some 36), (.load true 5 (.t 7)), none, 8, true, [6, 7]⟩,
    ⟨(some 37), (.fad 16 (.t 9)), none, 9, false, []⟩,
    ⟨(some 38), (.load true 5 (.t 37)), none, 10, true, [6, 7]⟩,
    ⟨(some 39), (.fad 16 (.t 9)), none, 11, false, []⟩,
    ⟨(some 40), (.load true 5 (.t 39)), none, 12, true, [6, 7]⟩,
    ⟨(some 41), (.bslice 5 [(.t 36), (.t 38), (.t 40)]), none, 13, true, [1, 3, 5, 6, 7]⟩,
    ⟨(some 42), (.call 94 [(.c (.int .i64 20)), (.t 41)]), none, 14, true, []⟩,
    ⟨(some 43), (.load true 5 (.t 6)), none, 15, true, [6, 7, 13, 14]⟩,
    ⟨(some 44), (.fad 11 (.t 9)), none, 16, false, []⟩,
    ⟨(some 45), (.load true 5 (.t 44)), none, 17, true, [6, 7, 13, 14]⟩,
    ⟨(some 46), (.bslice 5 [(.t 43), (.t 45)]), none, 18, true, [1, 3, 5, 6, 7, 8, 10, 12, 13, 14]⟩,
    ⟨(some 47), (.call 94 [(.c (.int .i64 21)), (.t 46)]), none, 19, true, []⟩,
    ⟨(some 48), (.load true 5 (.t 7)), none, 20, true, [6, 7, 13, 14, 18, 19]⟩,
    ⟨(some 49), (.fad 16 (.t 9)), none, 21, false, []⟩,
    ⟨(some 50), (.load true 5 (.t 49)), none, 22, true, [6, 7, 13, 14, 18, 19]⟩,
    ⟨(some 51), (.bslice 5 [(.t 48), (.t 50)]), none, 23, true, [1, 3, 5, 6, 7, 8, 10, 12, 13, 14, 15, 17, 18, 19]⟩,
    ⟨(some 52), (.call 94 [(.c (.int .i64 21)), (.t 51)]), none, 24, true, []⟩,
    ⟨(some 53), (.mv (.t 0)), none, 25, false, []⟩,
    ⟨(some 54), (.load true 5 (.t 6)), none, 26, false, [6, 7, 13, 14, 18, 19, 23, 24]⟩,
    ⟨(some 55), (.load true 5 (.t 7)), none, 27, false, [6, 7, 13, 14, 18, 19, 23, 24]⟩,
    ⟨(some 56), (.load true 5 (.t 8)), none, 28, false, [6, 7, 13, 14, 18, 19, 23, 24]⟩,
    ⟨(some 57), (.fad 11 (.t 9)), none, 29, false, []⟩,
    ⟨(some 58), (.load true 5 (.t 57)), none, 30, false, [6, 7, 13, 14, 18, 19, 23, 24]⟩,
    ⟨(some 59), (.fad 16 (.t 9)), none, 31, false, []⟩,
    ⟨(some 60), (.load true 5 (.t 59)), none, 32, false, [6, 7, 13, 14, 18, 19, 23, 24]⟩,
    ⟨(some 61), (.fad 21 (.t 9)), none, 33, false, []⟩,
    ⟨(some 62), (.load true 5 (.t 61)), none, 34, false, [6, 7, 13, 14, 18, 19, 23, 24]⟩,
    ⟨(some 63), (.bslice 5 [(.t 54), (.t 55), (.t 56), (.t 58), (.t 60), (.t 62)]), none, 35, false, [1, 3, 5, 6, 7, 8, 10, 12, 13, 14, 15, 17, 18, 19, 20, 22, 23, 24]⟩,
    ⟨(some 64), (.call 102 [(.c (.int .i64 21)), (.t 53), (.c (.int .i64 0)), (.t 63)]), none, 36, false, []⟩,
    ⟨(some 65), (.build [(.int .i64 0), (.int .i64 0), (.int .i64 0), (.int .i64 0), (.int .i64 0), .nils, (.int .i64 0), (.int .i64 0), (.int .i64 0), (.int .i64 0), .nils, (.int .i64 0), (.int .i64 0), (.int .i64 0), (.int .i64 0), .nils, (.int .i64 0), (.int .i64 0), (.int .i64 0), (.int .i64 0), .nils, (.int .i64 0), (.int .i64 0), (.int .i64 0), (.int .i64 0), .nils] [(0, (1, (.t 28))), (1, (5, (.t 35))), (6, (5, (.t 42))), (11, (5, (.t 47))), (16, (5, (.t 52))), (21, (5, (.t 64)))]), none, 37, false, []⟩,
    ⟨none, (.store 26 (.t 10) (.t 65)), none, 38, false, []⟩] true
def a57_7 : AC := .seq a57_6 .ret
def a57_8 : AC := .seq a57_5 a57_7
def a57_9 : AC := .seq a57_0 a57_8
def af57 : AF := { ntmps := 66, res := [(.cell 10 true 26)], body := a57_9 }
theorem tr57 : trF Try.prog Try.f57 = some af57 := by kernel_rfl
attribute [go_sem] af57 a57_0 a57_1 a57_2 a57_3 a57_4 a57_5 a57_6 a57_7 a57_8 a57_9
def a105_0 : AC := .reg [⟨(some 1), (.box (.t 0)), none, 0, false, []⟩,
    ⟨(some 2), (.mv (.c (.bool false))), none, 0, false, []⟩] false
def a105_1 : AC := .reg [⟨(some 3), (.fad 0 (.t 1)), none, 0, false, []⟩,
    ⟨(some 4), (.load false 1 (.t 3)), none, 0, false, []⟩,
    ⟨(some 5), (.call 115 [(.t 4)]), none, 0, false, []⟩,
    ⟨(some 6), (.mv (.t 5)), none, 0, false, []⟩,
    ⟨(some 7), (.fad 1 (.t 1)), (some (6, true)), 0, false, []⟩,
    ⟨(some 8), (.load false 1 (.t 7)), (some (6, true)), 0, false, []⟩,
    ⟨(some 9), (.call 115 [(.t 8)]), (some (6, true)), 0, false, []⟩,
    ⟨(some 10), (.pick (.t 6) (.t 9) (.c (.bool false))), none, 0, false, []⟩,
    ⟨(some 11), (.mv (.t 10)), none, 0, false, []⟩,
    ⟨(some 12), (.fad 2 (.t 1)), (some (11, true)), 0, false, []⟩,
    ⟨(some 13), (.load true 5 (.t 12)), (some (11, true)), 0, false, []⟩,
    ⟨(some 14), (.fad 7 (.t 1)), (some (11, true)), 0, false, []⟩,
    ⟨(some 15), (.load true 5 (.t 14)), (some (11, true)), 0, false, []⟩,
    ⟨(some 16), (.fad 12 (.t 1)), (some (11, true)), 0, false, []⟩,
    ⟨(some 17), (.load true 5 (.t 16)), (some (11, true)), 0, false, []⟩,
    ⟨(some 18), (.fad 17 (.t 1)), (some (11, true)), 0, false, []⟩,
    ⟨(some 19), (.load true 5 (.t 18)), (some (11, true)), 0, false, []⟩,
    ⟨(some 20), (.fad 22 (.t 1)), (some (11, true)), 0, false, []⟩,
    ⟨(some 21), (.load true 5 (.t 20)), (some (11, true)), 0, false, []⟩,
    ⟨(some 22), (.fad 27 (.t 1)), (some (11, true)), 0, false, []⟩,
    ⟨(some 23), (.load true 5 (.t 22)), (some (11, true)), 0, false, []⟩,
    ⟨(some 24), (.bslice 5 [(.t 13), (.t 15), (.t 17), (.t 19), (.t 21), (.t 23)]), (some (11, true)), 0, false, []⟩,
    ⟨(some 25), (.call 109 [(.t 24)]), (some (11, true)), 0, false, []⟩,
    ⟨(some 26), (.pick (.t 11) (.t 25) (.c (.bool false))), none, 0, false, []⟩,
    ⟨(some 2), (.mv (.t 26)), none, 0, false, []⟩] false
def a105_2 : AC := .seq a105_1 .ret
def a105_3 : AC := .seq a105_0 a105_2
def af105 : AF := { ntmps := 27, res := [(.t 2)], body := a105_3 }
theorem tr105 : trF Try.prog Try.f105 = some af105 := by kernel_rfl
attribute [go_sem] af105 a105_0 a105_1 a105_2 a105_3
def a106_0 : AC := .reg [⟨(some 3), (.box (.t 0)), none, 0, false, []⟩,
    ⟨(some 6), (.new [(.int .i64 0), (.int .i64 0), (.int .i64 0), (.int .i64 0), .nils]), none, 0, false, []⟩] false
def a106_1 : AC := .reg [⟨(some 8), (.fad 2 (.t 3)), none, 0, false, []⟩,
    ⟨(some 9), (.load true 5 (.t 8)), none, 1, true, []⟩,
    ⟨(some 10), (.fad 7 (.t 3)), none, 2, false, []⟩,
    ⟨(some 11), (.load true 5 (.t 10)), none, 3, true, []⟩,
    ⟨(some 12), (.fad 22 (.t 3)), none, 4, false, []⟩,
    ⟨(some 13), (.load true 5 (.t 12)), none, 5, true, []⟩,
    ⟨(some 14), (.fad 2 (.t 3)), none, 6, false, []⟩,
    ⟨(some 15), (.load true 5 (.t 14)), none, 7, false, []⟩,
    ⟨(some 16), (.fad 12 (.t 3)), none, 8, false, []⟩,
    ⟨(some 17), (.load true 5 (.t 16)), none, 9, false, []⟩,
    ⟨(some 18), (.call 110 [(.t 15), (.t 17)]), none, 10, true, [1, 3, 5]⟩,
    ⟨(some 19), (.fad 7 (.t 3)), none, 11, false, []⟩,
    ⟨(some 20), (.load true 5 (.t 19)), none, 12, false, [10]⟩,
    ⟨(some 21), (.fad 17 (.t 3)), none, 13, false, []⟩,
    ⟨(some 22), (.load true 5 (.t 21)), none, 14, false, [10]⟩,
    ⟨(some 23), (.call 110 [(.t 20), (.t 22)]), none, 15, true, [1, 3, 5]⟩,
    ⟨(some 24), (.fad 27 (.t 3)), none, 16, false, []⟩,
    ⟨(some 25), (.load true 5 (.t 24)), none, 17, false, [10, 15]⟩,
    ⟨(some 26), (.bslice 5 [(.t 9), (.t 11), (.t 13), (.t 18), (.t 23), (.t 25)]), none, 18, false, []⟩,
    ⟨(some 27), (.mv (.t 2)), none, 19, false, []⟩,
    ⟨(some 28), (.app 5 56 (.t 26) (.t 27)), none, 20, false, []⟩,
    ⟨(some 7), (.mv (.t 28)), none, 21, false, []⟩] true
def a106_2 : AC := .reg [⟨(some 29), (.fad 0 (.t 3)), none, 0, false, []⟩,
    ⟨(some 30), (.load false 1 (.t 29)), none, 0, false, []⟩,
    ⟨(some 31), (.fad 1 (.t 3)), none, 0, false, []⟩,
    ⟨(some 32), (.load false 1 (.t 31)), none, 0, false, []⟩,
    ⟨(some 33), (.mv (.t 1)), none, 0, false, []⟩,
    ⟨(some 34), (.mv (.t 7)), none, 0, false, []⟩,
    ⟨(some 35), (.call 97 [(.c (.int .i64 23)), (.t 30), (.t 32), (.t 33), (.t 34)]), none, 0, false, []⟩,
    ⟨none, (.store 5 (.t 6) (.t 35)), none, 0, false, []⟩] false
def a106_3 : AC := .seq a106_2 .ret
def a106_4 : AC := .seq a106_1 a106_3
def a106_5 : AC := .seq a106_0 a106_4
def af106 : AF := { ntmps := 36, res := [(.cell 6 true 5)], body := a106_5 }
theorem tr106 : trF Try.prog Try.f106 = some af106 := by kernel_rfl
attribute [go_sem] af106 a106_0 a106_1 a106_2 a106_3 a106_4 a106_5
def a107_0 : AC := .reg [⟨(some 1), (.box (.t 0)), none, 0, false, []⟩,
    ⟨(some 2), (.mv (.c (.bool false))), none, 0, false, []⟩] false
def a107_1 : AC := .reg [⟨(some 3), (.fad 0 (.t 1)), none, 0, false, []⟩,
    ⟨(some 4), (.load false 1 (.t 3)), none, 0, false, []⟩,
    ⟨(some 5), (.call 92 [(.t 4), (.c (.int .i64 3))]), none, 0, false, []⟩,
    ⟨(some 6), (.mv (.t 5)), none, 0, false, []⟩,
    ⟨(some 7), (.fad 1 (.t 1)), (some (6, true)), 0, false, []⟩,
    ⟨(some 8), (.load false 1 (.t 7)), (some (6, true)), 0, false, []⟩,
    ⟨(some 9), (.call 92 [(.t 8), (.c (.int .i64 3))]), (some (6, true)), 0, false, []⟩,
    ⟨(some 10), (.pick (.t 6) (.t 9) (.c (.bool false))), none, 0, false, []⟩,
    ⟨(some 11), (.mv (.t 10)), none, 0, false, []⟩,
    ⟨(some 12), (.fad 2 (.t 1)), (some (11, true)), 0, false, []⟩,
    ⟨(some 13), (.load true 5 (.t 12)), (some (11, true)), 0, false, []⟩,
    ⟨(some 14), (.fad 7 (.t 1)), (some (11, true)), 0, false, []⟩,
    ⟨(some 15), (.load true 5 (.t 14)), (some (11, true)), 0, false, []⟩,
    ⟨(some 16), (.fad 12 (.t 1)), (some (11, true)), 0, false, []⟩,
    ⟨(some 17), (.load true 5 (.t 16)), (some (11, true)), 0, false, []⟩,
    ⟨(some 18), (.fad 17 (.t 1)), (some (11, true)), 0, false, []⟩,
    ⟨(some 19), (.load true 5 (.t 18)), (some (11, true)), 0, false, []⟩,
    ⟨(some 20), (.fad 22 (.t 1)), (some (11, true)), 0, false, []⟩,
    ⟨(some 21), (.load true 5 (.t 20)), (some (11, true)), 0, false, []⟩,
    ⟨(some 22), (.fad 27 (.t 1)), (some (11, true)), 0, false, []⟩,
    ⟨(some 23), (.load true 5 (.t 22)), (some (11, true)), 0, false, []⟩,
    ⟨(some 24), (.bslice 5 [(.t 13), (.t 15), (.t 17), (.t 19), (.t 21), (.t 23)]), (some (11, true)), 0, false, []⟩,
    ⟨(some 25), (.call 93 [(.t 24)]), (some (11, true)), 0, false, []⟩,
    ⟨(some 26), (.pick (.t 11) (.t 25) (.c (.bool false))), none, 0, false, []⟩,
    ⟨(some 2), (.mv (.t 26)), none, 0, false, []⟩] false
def a107_2 : AC := .seq a107_1 .ret
def a107_3 : AC := .seq a107_0 a107_2
def af107 : AF := { ntmps := 27, res := [(.t 2)], body := a107_3 }
theorem tr107 : trF Try.prog Try.f107 = some af107 := by kernel_rfl
attribute [go_sem] af107 a107_0 a107_1 a107_2 a107_3
def a108_0 : AC := .reg [⟨(some 4), (.box (.t 1)), none, 0, false, []⟩,
    ⟨(some 6), (.new [(.int .i64 0), (.int .i64 0), (.int .i64 0), (.int .i64 0), .nils]), none, 0, false, []⟩] false
def a108_1 : AC := .reg [⟨(some 8), (.fad 2 (.t 4)), none, 0, false, []⟩,
    ⟨(some 9), (.load true 5 (.t 8)), none, 1, true, []⟩,
    ⟨(some 10), (.fad 7 (.t 4)), none, 2, false, []⟩,
    ⟨(some 11), (.load true 5 (.t 10)), none, 3, true, []⟩,
    ⟨(some 12), (.fad 22 (.t 4)), none, 4, false, []⟩,
    ⟨(some 13), (.load true 5 (.t 12)), none, 5, true, []⟩,
    ⟨(some 14), (.fad 2 (.t 4)), none, 6, false, []⟩,
    ⟨(some 15), (.load true 5 (.t 14)), none, 7, true, []⟩,
    ⟨(some 16), (.fad 12 (.t 4)), none, 8, false, []⟩,
    ⟨(some 17), (.load true 5 (.t 16)), none, 9, true, []⟩,
    ⟨(some 18), (.bslice 5 [(.t 15), (.t 17)]), none, 10, true, [1, 3, 5]⟩,
    ⟨(some 19), (.call 94 [(.c (.int .i64 14)), (.t 18)]), none, 11, true, [1, 3, 5]⟩,
    ⟨(some 20), (.fad 7 (.t 4)), none, 12, false, []⟩,
    ⟨(some 21), (.load true 5 (.t 20)), none, 13, false, [10, 11]⟩,
    ⟨(some 22), (.fad 17 (.t 4)), none, 14, false, []⟩,
    ⟨(some 23), (.load true 5 (.t 22)), none, 15, false, [10, 11]⟩,
    ⟨(some 24), (.bslice 5 [(.t 21), (.t 23)]), none, 16, true, [1, 3, 5, 7, 9, 10, 11]⟩,
    ⟨(some 25), (.call 94 [(.c (.int .i64 14)), (.t 24)]), none, 17, true, [1, 3, 5]⟩,
    ⟨(some 26), (.fad 27 (.t 4)), none, 18, false, []⟩,
    ⟨(some 27), (.load true 5 (.t 26)), none, 19, false, [10, 11, 16, 17]⟩,
    ⟨(some 28), (.bslice 5 [(.t 9), (.t 11), (.t 13), (.t 19), (.t 25), (.t 27)]), none, 20, false, []⟩,
    ⟨(some 7), (.mv (.t 28)), none, 21, false, []⟩] true
def a108_2 : AC := .reg [⟨(some 29), (.mv (.t 0)), none, 0, false, []⟩,
    ⟨(some 30), (.fad 0 (.t 4)), none, 1, false, []⟩,
    ⟨(some 31), (.load false 1 (.t 30)), none, 2, true, []⟩,
    ⟨(some 32), (.fad 1 (.t 4)), none, 3, false, []⟩,
    ⟨(some 33), (.load false 1 (.t 32)), none, 4, true, []⟩,
    ⟨(some 34), (.mv (.t 7)), none, 5, false, []⟩,
    ⟨(some 35), (.mv (.t 2)), none, 6, false, []⟩,
    ⟨(some 36), (.app 5 56 (.t 34) (.t 35)), none, 7, false, [2, 4]⟩,
    ⟨(some 37), (.call 102 [(.t 29), (.t 31), (.t 33), (.t 36)]), none, 8, false, []⟩,
    ⟨none, (.store 5 (.t 6) (.t 37)), none, 9, false, []⟩] true
def a108_3 : AC := .seq a108_2 .ret
def a108_4 : AC := .seq a108_1 a108_3
def a108_5 : AC := .seq a108_0 a108_4
def af108 : AF := { ntmps := 38, res := [(.cell 6 true 5)], body := a108_5 }
theorem tr108 : trF Try.prog Try.f108 = some af108 := by kernel_rfl
attribute [go_sem] af108 a108_0 a108_1 a108_2 a108_3 a108_4 a108_5
def a109_0 : AC := .reg [⟨(some 2), (.mv (.c (.bool false))), none, 0, false, []⟩] false
def a109_1 : AC := .reg [⟨(some 5), (.mv (.t 0)), none, 0, false, []⟩,
    ⟨(some 6), (.len false (.t 5)), none, 0, false, []⟩,
    ⟨(some 7), (.mv (.c (.int .i64 0))), none, 0, false, []⟩] false
def a109_2 : AC := .reg [⟨(some 8), (.bin 0 .lss (.t 7) (.t 6)), none, 0, false, []⟩] false
def a109_3 : AC := .cond (.t 8) .skip (.exit 0)
def a109_4 : AC := .reg [⟨(some 9), (.iad 5 (.t 5) (.t 7)), none, 0, false, []⟩,
    ⟨(some 10), (.load true 5 (.t 9)), none, 0, false, []⟩,
    ⟨(some 4), (.new [(.int .i64 0), (.int .i64 0), (.int .i64 0), (.int .i64 0), .nils]), none, 0, false, []⟩,
    ⟨none, (.store 5 (.t 4) (.t 10)), none, 0, false, []⟩] false
def a109_5 : AC := .reg [⟨(some 11), (.load true 5 (.t 4)), none, 0, false, []⟩,
    ⟨(some 12), (.call 130 [(.t 11)]), none, 0, false, []⟩,
    ⟨(some 13), (.un .not (.t 12)), none, 0, false, []⟩] false
def a109_6 : AC := .reg [⟨(some 2), (.mv (.c (.bool false))), none, 0, false, []⟩] false
def a109_7 : AC := .seq a109_6 .ret
def a109_8 : AC := .cond (.t 13) a109_7 .skip
def a109_9 : AC := .seq a109_5 a109_8
def a109_10 : AC := .seq a109_4 a109_9
def a109_11 : AC := .blk 1 a109_10
def a109_12 : AC := .reg [⟨(some 14), (.bin 0 .add (.t 7) (.c (.int .i64 1))), none, 0, false, []⟩,
    ⟨(some 7), (.mv (.t 14)), none, 0, false, []⟩] false
def a109_13 : AC := .seq a109_11 a109_12
def a109_14 : AC := .seq a109_3 a109_13
def a109_15 : AC := .seq a109_2 a109_14
def a109_16 : AC := .loop a109_15
def a109_17 : AC := .blk 0 a109_16
def a109_18 : AC := .seq a109_1 a109_17
def a109_19 : AC := .reg [⟨(some 2), (.mv (.c (.bool true))), none, 0, false, []⟩] false
def a109_20 : AC := .seq a109_19 .ret
def a109_21 : AC := .seq a109_18 a109_20
def a109_22 : AC := .seq a109_0 a109_21
def af109 : AF := { ntmps := 15, res := [(.t 2)], body := a109_22 }
theorem tr109 : trF Try.prog Try.f109 = some af109 := by kernel_rfl
attribute [go_sem] af109 a109_0 a109_1 a109_2 a109_3 a109_4 a109_5 a109_6 a109_7 a109_8 a109_9 a109_10 a109_11 a109_12 a109_13 a109_14 a109_15 a109_16 a109_17 a109_18 a109_19 a109_20 a109_21 a109_22
def a110_0 : AC := .reg [⟨(some 2), (.box (.t 0)), none, 0, false, []⟩,
    ⟨(some 3), (.box (.t 1)), none, 0, false, []⟩,
    ⟨(some 4), (.new [(.int .i64 0), (.int .i64 0), (.int .i64 0), (.int .i64 0), .nils]), none, 0, false, []⟩] false
def a110_1 : AC := .reg [⟨(some 5), (.load true 5 (.t 2)), none, 0, false, []⟩,
    ⟨(some 6), (.load true 5 (.t 3)), none, 0, false, []⟩,
    ⟨(some 7), (.bslice 5 [(.t 5), (.t 6)]), none, 0, false, []⟩,
    ⟨(some 8), (.call 97 [(.c (.int .i64 14)), (.c (.int .i64 0)), (.c (.int .i64 0)), (.c (.int .i64 0)), (.t 7)]), none, 0, false, []⟩,
    ⟨none, (.store 5 (.t 4) (.t 8)), none, 0, false, []⟩] false
def a110_2 : AC := .seq a110_1 .ret
def a110_3 : AC := .seq a110_0 a110_2
def af110 : AF := { ntmps := 9, res := [(.cell 4 true 5)], body := a110_3 }
theorem tr110 : trF Try.prog Try.f110 = some af110 := by kernel_rfl
attribute [go_sem] af110 a110_0 a110_1 a110_2 a110_3
def a111_0 : AC := .reg [⟨(some 7), (.box (.t 1)), none, 0, false, []⟩,
    ⟨(some 8), (.box (.t 2)), none, 0, false, []⟩,
    ⟨(some 9), (.box (.t 3)), none, 0, false, []⟩,
    ⟨(some 10), (.box (.t 4)), none, 0, false, []⟩,
    ⟨(some 11), (.box (.t 5)), none, 0, false, []⟩,
    ⟨(some 12), (.new [(.int .i64 0), (.int .i64 0), (.int .i64 0), (.int .i64 0), (.int .i64 0), .nils, (.int .i64 0), (.int .i64 0), (.int .i64 0), (.int .i64 0), .nils, (.int .i64 0), (.int .i64 0), (.int .i64 0), (.int .i64 0), .nils, (.int .i64 0), (.int .i64 0), (.int .i64 0), (.int .i64 0), .nils, (.int .i64 0), (.int .i64 0), (.int .i64 0), (.int .i64 0), .nils]), none, 0, false, []⟩] false
def a111_1 : AC := .reg [⟨(some 13), (.mv (.t 0)), none, 0, false, []⟩,
    ⟨(some 14), (.load true 5 (.t 7)), none, 1, false, []⟩,
    ⟨(some 15), (.call 90 [(.t 14)]), none, 2, true, []⟩,
    ⟨(some 16), (.load true 5 (.t 8)), none, 3, false, [2]⟩,
    ⟨(some 17), (.call 90 [(.t 16)]), none, 4, true, []⟩,
    ⟨(some 18), (.load true 5 (.t 9)), none, 5, false, [2, 4]⟩,
    ⟨(some 19), (.call 90 [(.t 18)]), none, 6, true, []⟩,
    ⟨(some 20), (.load true 5 (.t 10)), none, 7, false, [2, 4, 6]⟩,
    ⟨(some 21), (.call 90 [(.t 20)]), none, 8, true, []⟩,
    ⟨(some 22), (.load true 5 (.t 11)), none, 9, false, [2, 4, 6, 8]⟩,
    ⟨(some 23), (.call 90 [(.t 22)]), none, 10, false, []⟩,
    ⟨(some 24), (.build [(.int .i64 0), (.int .i64 0), (.int .i64 0), (.int .i64 0), (.int .i64 0), .nils, (.int .i64 0), (.int .i64 0), (.int .i64 0), (.int .i64 0), .nils, (.int .i64 0), (.int .i64 0), (.int .i64 0), (.int .i64 0), .nils, (.int .i64 0), (.int .i64 0), (.int .i64 0), (.int .i64 0), .nils, (.int .i64 0), (.int .i64 0), (.int .i64 0), (.int .i64 0), .nils] [(0, (1, (.t 13))), (1, (5, (.t 15))), (6, (5, (.t 17))), (11, (5, (.t 19))), (16, (5, (.t 21))), (21, (5, (.t 23)))]), none, 11, false, []⟩,
    ⟨none, (.store 26 (.t 12) (.t 24)), none, 12, false, []⟩] true
def a111_2 : AC := .seq a111_1 .ret
def a111_3 : AC := .seq a111_0 a111_2
def af111 : AF := { ntmps := 25, res := [(.cell 12 true 26)], body := a111_3 }
theorem tr111 : trF Try.prog Try.f111 = some af111 := by kernel_rfl
attribute [go_sem] af111 a111_0 a111_1 a111_2 a111_3
def a112_0 : AC := .reg [⟨(some 2), (.box (.t 0)), none, 0, false, []⟩,
    ⟨(some 3), (.box (.t 1)), none, 0, false, []⟩,
    ⟨(some 4), (.new [(.int .i64 0), (.int .i64 0), (.int .i64 0), (.int .i64 0), .nils]), none, 0, false, []⟩] false
def a112_1 : AC := .reg [⟨(some 5), (.load true 5 (.t 2)), none, 0, false, []⟩,
    ⟨(some 6), (.load true 5 (.t 3)), none, 0, false, []⟩,
    ⟨(some 7), (.bslice 5 [(.t 5), (.t 6)]), none, 0, false, []⟩,
    ⟨(some 8), (.call 97 [(.c (.int .i64 13)), (.c (.int .i64 0)), (.c (.int .i64 0)), (.c (.int .i64 0)), (.t 7)]), none, 0, false, []⟩,
    ⟨none, (.store 5 (.t 4) (.t 8)), none, 0, false, []⟩] false
def a112_2 : AC := .seq a112_1 .ret
def a112_3 : AC := .seq a112_0 a112_2
def af112 : AF := { ntmps := 9, res := [(.cell 4 true 5)], body := a112_3 }
theorem tr112 : trF Try.prog Try.f112 = some af112 := by kernel_rfl
attribute [go_sem] af112 a112_0 a112_1 a112_2 a112_3
def a113_0 : AC := .reg [⟨(some 2), (.new [(.int .i64 0), (.int .i64 0), (.int .i64 0), (.int .i64 0), .nils]), none, 0, false, []⟩] false
def a113_1 : AC := .reg [⟨(some 3), (.mv (.t 0)), none, 0, false, []⟩,
    ⟨(some 4), (.build [(.int .i64 0), (.int .i64 0), (.int .i64 0), (.int .i64 0), .nils] [(0, (1, (.c (.int .i64 1)))), (1, (1, (.t 3)))]), none, 0, false, []⟩,
    ⟨none, (.store 5 (.t 2) (.t 4)), none, 0, false, []⟩] false
def a113_2 : AC := .seq a113_1 .ret
def a113_3 : AC := .seq a113_0 a113_2
def af113 : AF := { ntmps := 5, res := [(.cell 2 true 5)], body := a113_3 }
theorem tr113 : trF Try.prog Try.f113 = some af113 := by kernel_rfl
attribute [go_sem] af113 a113_0 a113_1 a113_2 a113_3
def a114_0 : AC := .reg [⟨(some 2), (.new [(.int .i64 0), (.int .i64 0), (.int .i64 0), (.int .i64 0), .nils]), none, 0, false, []⟩] false
def a114_1 : AC := .reg [⟨(some 3), (.mv (.t 0)), none, 0, false, []⟩,
    ⟨(some 4), (.build [(.int .i64 0), (.int .i64 0), (.int .i64 0), (.int .i64 0), .nils] [(0, (1, (.c (.int .i64 2)))), (1, (1, (.t 3)))]), none, 0, false, []⟩,
    ⟨none, (.store 5 (.t 2) (.t 4)), none, 0, false, []⟩] false
def a114_2 : AC := .seq a114_1 .ret
def a114_3 : AC := .seq a114_0 a114_2
def af114 : AF := { ntmps := 5, res := [(.cell 2 true 5)], body := a114_3 }
theorem tr114 : trF Try.prog Try.f114 = some af114 := by kernel_rfl
attribute [go_sem] af114 a114_0 a114_1 a114_2 a114_3
def a115_0 : AC := .reg [⟨(some 2), (.mv (.c (.bool false))), none, 0, false, []⟩] false
def a115_1 : AC := .reg [⟨(some 3), (.mv (.t 0)), none, 0, false, []⟩,
    ⟨(some 4), (.bin 0 .geq (.t 3) (.c (.int .i64 0))), none, 0, false, []⟩,
    ⟨(some 5), (.mv (.t 4)), none, 0, false, []⟩,
    ⟨(some 6), (.mv (.t 0)), (some (5, true)), 0, false, []⟩,
    ⟨(some 7), (.bin 0 .leq (.t 6) (.c (.int .i64 997))), (some (5, true)), 0, false, []⟩,
    ⟨(some 8), (.pick (.t 5) (.t 7) (.c (.bool false))), none, 0, false, []⟩,
    ⟨(some 2), (.mv (.t 8)), none, 0, false, []⟩] false
def a115_2 : AC := .seq a115_1 .ret
def a115_3 : AC := .seq a115_0 a115_2
def af115 : AF := { ntmps := 9, res := [(.t 2)], body := a115_3 }
theorem tr115 : trF Try.prog Try.f115 = some af115 := by kernel_rfl
attribute [go_sem] af115 a115_0 a115_1 a115_2 a115_3
def a116_0 : AC := .reg [⟨(some 1), (.box (.t 0)), none, 0, false, []⟩,
    ⟨(some 2), (.mv (.c (.bool false))), none, 0, false, []⟩] false
def a116_1 : AC := .reg [⟨(some 3), (.fad 11 (.t 1)), none, 0, false, []⟩,
    ⟨(some 4), (.load true 5 (.t 3)), none, 0, false, []⟩,
    ⟨(some 5), (.fad 16 (.t 1)), none, 0, false, []⟩,
    ⟨(some 6), (.load true 5 (.t 5)), none, 0, false, []⟩,
    ⟨(some 7), (.fad 21 (.t 1)), none, 0, false, []⟩,
    ⟨(some 8), (.load true 5 (.t 7)), none, 0, false, []⟩,
    ⟨(some 9), (.bslice 5 [(.t 4), (.t 6), (.t 8)]), none, 0, false, []⟩,
    ⟨(some 10), (.call 109 [(.t 9)]), none, 0, false, []⟩,
    ⟨(some 2), (.mv (.t 10)), none, 0, false, []⟩] false
def a116_2 : AC := .seq a116_1 .ret
def a116_3 : AC := .seq a116_0 a116_2
def af116 : AF := { ntmps := 11, res := [(.t 2)], body := a116_3 }
theorem tr116 : trF Try.prog Try.f116 = some af116 := by kernel_rfl
attribute [go_sem] af116 a116_0 a116_1 a116_2 a116_3
def a117_0 : AC := .reg [⟨(some 1), (.box (.t 0)), none, 0, false, []⟩,
    ⟨(some 2), (.mv (.c (.bool false))), none, 0, false, []⟩] false
def a117_1 : AC := .reg [⟨(some 3), (.fad 11 (.t 1)), none, 0, false, []⟩,
    ⟨(some 4), (.load true 5 (.t 3)), none, 0, false, []⟩,
    ⟨(some 5), (.fad 16 (.t 1)), none, 0, false, []⟩,
    ⟨(some 6), (.load true 5 (.t 5)), none, 0, false, []⟩,
    ⟨(some 7), (.fad 21 (.t 1)), none, 0, false, []⟩,
    ⟨(some 8), (.load true 5 (.t 7)), none, 0, false, []⟩,
    ⟨(some 9), (.bslice 5 [(.t 4), (.t 6), (.t 8)]), none, 0, false, []⟩,
    ⟨(some 10), (.call 93 [(.t 9)]), none, 0, false, []⟩,
    ⟨(some 2), (.mv (.t 10)), none, 0, false, []⟩] false
def a117_2 : AC := .seq a117_1 .ret
def a117_3 : AC := .seq a117_0 a117_2
def af117 : AF := { ntmps := 11, res := [(.t 2)], body := a117_3 }
theorem tr117 : trF Try.prog Try.f117 = some af117 := by kernel_rfl
attribute [go_sem] af117 a117_0 a117_1 a117_2 a117_3
def a124_0 : AC := .reg [⟨(some 2), (.box (.t 0)), none, 0, false, []⟩,
    ⟨(some 3), (.box (.t 1)), none, 0, false, []⟩,
    ⟨(some 4), (.new [(.int .i64 0), (.int .i64 0), (.int .i64 0), (.int .i64 0), .nils]), none, 0, false, []⟩] false
def a124_1 : AC := .reg [⟨(some 5), (.load true 5 (.t 2)), none, 0, false, []⟩,
    ⟨(some 6), (.load true 5 (.t 3)), none, 0, false, []⟩,
    ⟨(some 7), (.bslice 5 [(.t 5), (.t 6)]), none, 0, false, []⟩,
    ⟨(some 8), (.call 97 [(.c (.int .i64 16)), (.c (.int .i64 0)), (.c (.int .i64 0)), (.c (.int .i64 0)), (.t 7)]), none, 0, false, []⟩,
    ⟨none, (.store 5 (.t 4) (.t 8)), none, 0, false, []⟩] false
def a124_2 : AC := .seq a124_1 .ret
def a124_3 : AC := .seq a124_0 a124_2
def af124 : AF := { ntmps := 9, res := [(.cell 4 true 5)], body := a124_3 }
theorem tr124 : trF Try.prog Try.f124 = some af124 := by kernel_rfl
attribute [go_sem] af124 a124_0 a124_1 a124_2 a124_3
def a125_0 : AC := .reg [⟨(some 3), (.box (.t 1)), none, 0, false, []⟩,
    ⟨(some 4), (.new [(.int .i64 0), (.int .i64 0), (.int .i64 0), (.int .i64 0), .nils]), none, 0, false, []⟩] false
def a125_1 : AC := .reg [⟨(some 5), (.mv (.t 0)), none, 0, false, []⟩,
    ⟨(some 6), (.load true 5 (.t 3)), none, 0, false, []⟩,
    ⟨(some 7), (.bslice 5 [(.t 6)]), none, 0, false, []⟩,
    ⟨(some 8), (.call 97 [(.t 5), (.c (.int .i64 0)), (.c (.int .i64 0)), (.c (.int .i64 0)), (.t 7)]), none, 0, false, []⟩,
    ⟨none, (.store 5 (.t 4) (.t 8)), none, 0, false, []⟩] false
def a125_2 : AC := .seq a125_1 .ret
def a125_3 : AC := .seq a125_0 a125_2
def af125 : AF := { ntmps := 9, res := [(.cell 4 true 5)], body := a125_3 }
theorem tr125 : trF Try.prog Try.f125 = some af125 := by kernel_rfl
attribute [go_sem] af125 a125_0 a125_1 a125_2 a125_3
end Go.Proofs.Ytadmdmhocglkfaa.Abs
