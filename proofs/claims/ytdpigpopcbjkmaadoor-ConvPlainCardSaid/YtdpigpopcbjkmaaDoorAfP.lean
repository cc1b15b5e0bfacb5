/- The abstract code of functions, printed by program; that it is the translation of the model's code is decided by the kernel. -/
import Derived.Test.YtdpigpopcbjkmaaDoorEv
import Derived.Test.YtdpigpopcbjkmaaDoorProg
import Derived.KernelRfl
namespace Go.Proofs.YtdpigpopcbjkmaaDoor.Abs
open Go Go.Proofs Go.Proofs.YtdpigpopcbjkmaaDoor
def a3_0 : AC := .reg [⟨(some 2), (.box (.t 0)), none, 0, false, []⟩,
    ⟨(some 4), (.mv (.c (.bool false))), none, 0, false, []⟩] false
def a3_1 : AC := .reg [⟨(some 9), (.load true 5 (.t 2)), none, 0, false, []⟩,
    ⟨(some 10), (.call 5 [(.t 9), (.c (.int .i64 60))]), none, 0, false, []⟩,
    ⟨(some 11), (.mv (.t 10)), none, 0, false, []⟩,
    ⟨(some 12), (.load true 5 (.t 2)), (some (11, false)), 0, false, []⟩,
    ⟨(some 13), (.call 6 [(.t 12)]), (some (11, false)), 0, false, []⟩,
    ⟨(some 14), (.pick (.t 11) (.c (.bool true)) (.t 13)), none, 0, false, []⟩] false
def a3_2 : AC := .reg [⟨(some 4), (.mv (.c (.bool true))), none, 0, false, []⟩] false
def a3_3 : AC := .seq a3_2 .ret
def a3_4 : AC := .cond (.t 14) a3_3 .skip
def a3_5 : AC := .seq a3_1 a3_4
def a3_6 : AC := .reg [⟨(some 16), (.load true 5 (.t 2)), none, 0, false, []⟩,
    ⟨(some 17), (.mv (.t 1)), none, 0, false, []⟩,
    ⟨(some 18), (.call 7 [(.t 16), (.t 17)]), none, 0, false, []⟩,
    ⟨(some 15), (.mv (.t 18)), none, 0, false, []⟩,
    ⟨(some 19), (.ext (.t 15) 0), none, 0, false, []⟩,
    ⟨(some 20), (.ext (.t 15) 1), none, 0, false, []⟩,
    ⟨(some 5), (.new [(.int .i64 0), (.int .i64 0), (.int .i64 0), (.int .i64 0), .nils]), none, 0, false, []⟩,
    ⟨none, (.store 5 (.t 5) (.t 19)), none, 0, false, []⟩,
    ⟨(some 6), (.mv (.t 20)), none, 0, false, []⟩] false
def a3_7 : AC := .reg [⟨(some 22), (.load true 5 (.t 2)), none, 0, false, []⟩,
    ⟨(some 23), (.mv (.t 1)), none, 0, false, []⟩,
    ⟨(some 24), (.call 8 [(.t 22), (.t 23)]), none, 0, false, []⟩,
    ⟨(some 21), (.mv (.t 24)), none, 0, false, []⟩,
    ⟨(some 25), (.ext (.t 21) 0), none, 0, false, []⟩,
    ⟨(some 26), (.ext (.t 21) 1), none, 0, false, []⟩,
    ⟨(some 7), (.new [(.int .i64 0), (.int .i64 0), (.int .i64 0), (.int .i64 0), .nils]), none, 0, false, []⟩,
    ⟨none, (.store 5 (.t 7) (.t 25)), none, 0, false, []⟩,
    ⟨(some 8), (.mv (.t 26)), none, 0, false, []⟩] false
def a3_8 : AC := .reg [⟨(some 27), (.mv (.t 6)), none, 0, false, []⟩,
    ⟨(some 28), (.bin 0 .eql (.t 27) (.c (.int .i64 1))), none, 0, false, []⟩,
    ⟨(some 29), (.mv (.t 28)), none, 0, false, []⟩,
    ⟨(some 30), (.mv (.t 8)), (some (29, true)), 0, false, []⟩,
    ⟨(some 31), (.bin 0 .eql (.t 30) (.c (.int .i64 1))), (some (29, true)), 0, false, []⟩,
    ⟨(some 32), (.pick (.t 29) (.t 31) (.c (.bool false))), none, 0, false, []⟩,
    ⟨(some 33), (.mv (.t 32)), none, 0, false, []⟩,
    ⟨(some 34), (.load true 5 (.t 5)), (some (33, true)), 0, false, []⟩,
    ⟨(some 35), (.call 9 [(.t 34)]), (some (33, true)), 0, false, []⟩,
    ⟨(some 36), (.pick (.t 33) (.t 35) (.c (.bool false))), none, 0, false, []⟩,
    ⟨(some 37), (.mv (.t 36)), none, 0, false, []⟩,
    ⟨(some 38), (.load true 5 (.t 7)), (some (37, true)), 0, false, []⟩,
    ⟨(some 39), (.call 9 [(.t 38)]), (some (37, true)), 0, false, []⟩,
    ⟨(some 40), (.pick (.t 37) (.t 39) (.c (.bool false))), none, 0, false, []⟩,
    ⟨(some 41), (.mv (.t 40)), none, 0, false, []⟩,
    ⟨(some 42), (.call 10 []), (some (41, true)), 0, false, []⟩,
    ⟨(some 43), (.pick (.t 41) (.t 42) (.c (.bool false))), none, 0, false, []⟩,
    ⟨(some 4), (.mv (.t 43)), none, 0, false, []⟩] false
def a3_9 : AC := .seq a3_8 .ret
def a3_10 : AC := .seq a3_7 a3_9
def a3_11 : AC := .seq a3_6 a3_10
def a3_12 : AC := .seq a3_5 a3_11
def a3_13 : AC := .seq a3_0 a3_12
def af3 : AF := { ntmps := 44, res := [(.t 4)], body := a3_13 }
theorem tr3 : trF Tryd.prog Tryd.f3 = some af3 := by kernel_rfl
attribute [go_sem] af3 a3_0 a3_1 a3_2 a3_3 a3_4 a3_5 a3_6 a3_7 a3_8 a3_9 a3_10 a3_11 a3_12 a3_13
def a4_0 : AC := .reg [⟨(some 3), (.box (.t 0)), none, 0, false, []⟩,
    ⟨(some 4), (.box (.t 1)), none, 0, false, []⟩,
    ⟨(some 6), (.mv (.c (.bool false))), none, 0, false, []⟩] false
def a4_1 : AC := .reg [⟨(some 11), (.load true 5 (.t 3)), none, 0, false, []⟩,
    ⟨(some 12), (.call 5 [(.t 11), (.c (.int .i64 50))]), none, 0, false, []⟩,
    ⟨(some 13), (.mv (.t 12)), none, 0, false, []⟩,
    ⟨(some 14), (.load true 5 (.t 4)), (some (13, false)), 0, false, []⟩,
    ⟨(some 15), (.call 5 [(.t 14), (.c (.int .i64 50))]), (some (13, false)), 0, false, []⟩,
    ⟨(some 16), (.pick (.t 13) (.c (.bool true)) (.t 15)), none, 0, false, []⟩,
    ⟨(some 17), (.mv (.t 16)), none, 0, false, []⟩,
    ⟨(some 18), (.load true 5 (.t 3)), (some (17, false)), 0, false, []⟩,
    ⟨(some 19), (.call 6 [(.t 18)]), (some (17, false)), 0, false, []⟩,
    ⟨(some 20), (.mv (.t 19)), (some (17, false)), 0, false, []⟩,
    ⟨(some 21), (.load true 5 (.t 4)), (some (20, true)), 0, false, []⟩,
    ⟨(some 22), (.call 6 [(.t 21)]), (some (20, true)), 0, false, []⟩,
    ⟨(some 23), (.pick (.t 20) (.t 22) (.c (.bool false))), (some (17, false)), 0, false, []⟩,
    ⟨(some 24), (.pick (.t 17) (.c (.bool true)) (.t 23)), none, 0, false, []⟩] false
def a4_2 : AC := .reg [⟨(some 6), (.mv (.c (.bool true))), none, 0, false, []⟩] false
def a4_3 : AC := .seq a4_2 .ret
def a4_4 : AC := .cond (.t 24) a4_3 .skip
def a4_5 : AC := .seq a4_1 a4_4
def a4_6 : AC := .reg [⟨(some 26), (.load true 5 (.t 3)), none, 0, false, []⟩,
    ⟨(some 27), (.load true 5 (.t 4)), none, 0, false, []⟩,
    ⟨(some 28), (.mv (.t 2)), none, 0, false, []⟩,
    ⟨(some 29), (.call 11 [(.t 26), (.t 27), (.t 28)]), none, 0, false, []⟩,
    ⟨(some 25), (.mv (.t 29)), none, 0, false, []⟩,
    ⟨(some 30), (.ext (.t 25) 0), none, 0, false, []⟩,
    ⟨(some 31), (.ext (.t 25) 1), none, 0, false, []⟩,
    ⟨(some 7), (.mv (.t 30)), none, 0, false, []⟩,
    ⟨(some 8), (.mv (.t 31)), none, 0, false, []⟩] false
def a4_7 : AC := .reg [⟨(some 33), (.load true 5 (.t 4)), none, 0, false, []⟩,
    ⟨(some 34), (.load true 5 (.t 3)), none, 0, false, []⟩,
    ⟨(some 35), (.mv (.t 2)), none, 0, false, []⟩,
    ⟨(some 36), (.call 11 [(.t 33), (.t 34), (.t 35)]), none, 0, false, []⟩,
    ⟨(some 32), (.mv (.t 36)), none, 0, false, []⟩,
    ⟨(some 37), (.ext (.t 32) 0), none, 0, false, []⟩,
    ⟨(some 38), (.ext (.t 32) 1), none, 0, false, []⟩,
    ⟨(some 9), (.mv (.t 37)), none, 0, false, []⟩,
    ⟨(some 10), (.mv (.t 38)), none, 0, false, []⟩] false
def a4_8 : AC := .reg [⟨(some 39), (.mv (.t 7)), none, 0, false, []⟩,
    ⟨(some 40), (.un .not (.t 39)), none, 0, false, []⟩,
    ⟨(some 41), (.mv (.t 40)), none, 0, false, []⟩,
    ⟨(some 42), (.mv (.t 9)), (some (41, true)), 0, false, []⟩,
    ⟨(some 43), (.un .not (.t 42)), (some (41, true)), 0, false, []⟩,
    ⟨(some 44), (.pick (.t 41) (.t 43) (.c (.bool false))), none, 0, false, []⟩,
    ⟨(some 45), (.mv (.t 44)), none, 0, false, []⟩,
    ⟨(some 46), (.mv (.t 8)), (some (45, true)), 0, false, []⟩,
    ⟨(some 47), (.bin 0 .eql (.t 46) (.c (.int .i64 1))), (some (45, true)), 0, false, []⟩,
    ⟨(some 48), (.pick (.t 45) (.t 47) (.c (.bool false))), none, 0, false, []⟩,
    ⟨(some 49), (.mv (.t 48)), none, 0, false, []⟩,
    ⟨(some 50), (.mv (.t 10)), (some (49, true)), 0, false, []⟩,
    ⟨(some 51), (.bin 0 .eql (.t 50) (.c (.int .i64 1))), (some (49, true)), 0, false, []⟩,
    ⟨(some 52), (.pick (.t 49) (.t 51) (.c (.bool false))), none, 0, false, []⟩,
    ⟨(some 53), (.mv (.t 52)), none, 0, false, []⟩,
    ⟨(some 54), (.call 12 []), (some (53, true)), 0, false, []⟩,
    ⟨(some 55), (.pick (.t 53) (.t 54) (.c (.bool false))), none, 0, false, []⟩,
    ⟨(some 6), (.mv (.t 55)), none, 0, false, []⟩] false
def a4_9 : AC := .seq a4_8 .ret
def a4_10 : AC := .seq a4_7 a4_9
def a4_11 : AC := .seq a4_6 a4_10
def a4_12 : AC := .seq a4_5 a4_11
def a4_13 : AC := .seq a4_0 a4_12
def af4 : AF := { ntmps := 56, res := [(.t 6)], body := a4_13 }
theorem tr4 : trF Tryd.prog Tryd.f4 = some af4 := by kernel_rfl
attribute [go_sem] af4 a4_0 a4_1 a4_2 a4_3 a4_4 a4_5 a4_6 a4_7 a4_8 a4_9 a4_10 a4_11 a4_12 a4_13
def a9_0 : AC := .reg [⟨(some 1), (.box (.t 0)), none, 0, false, []⟩,
    ⟨(some 2), (.mv (.c (.bool false))), none, 0, false, []⟩] false
def a9_1 : AC := .reg [⟨(some 3), (.fad 0 (.t 1)), none, 0, false, []⟩,
    ⟨(some 4), (.load false 1 (.t 3)), none, 0, false, []⟩,
    ⟨(some 5), (.bin 0 .eql (.t 4) (.c (.int .i64 0))), none, 0, false, []⟩,
    ⟨(some 6), (.mv (.t 5)), none, 0, false, []⟩,
    ⟨(some 7), (.fad 1 (.t 1)), (some (6, true)), 0, false, []⟩,
    ⟨(some 8), (.load false 1 (.t 7)), (some (6, true)), 0, false, []⟩,
    ⟨(some 9), (.bin 0 .eql (.t 8) (.c (.int .i64 0))), (some (6, true)), 0, false, []⟩,
    ⟨(some 10), (.pick (.t 6) (.t 9) (.c (.bool false))), none, 0, false, []⟩,
    ⟨(some 11), (.mv (.t 10)), none, 0, false, []⟩,
    ⟨(some 12), (.fad 2 (.t 1)), (some (11, true)), 0, false, []⟩,
    ⟨(some 13), (.load false 1 (.t 12)), (some (11, true)), 0, false, []⟩,
    ⟨(some 14), (.bin 0 .eql (.t 13) (.c (.int .i64 0))), (some (11, true)), 0, false, []⟩,
    ⟨(some 15), (.pick (.t 11) (.t 14) (.c (.bool false))), none, 0, false, []⟩,
    ⟨(some 16), (.mv (.t 15)), none, 0, false, []⟩,
    ⟨(some 17), (.fad 3 (.t 1)), (some (16, true)), 0, false, []⟩,
    ⟨(some 18), (.load false 1 (.t 17)), (some (16, true)), 0, false, []⟩,
    ⟨(some 19), (.bin 0 .eql (.t 18) (.c (.int .i64 0))), (some (16, true)), 0, false, []⟩,
    ⟨(some 20), (.pick (.t 16) (.t 19) (.c (.bool false))), none, 0, false, []⟩,
    ⟨(some 21), (.mv (.t 20)), none, 0, false, []⟩,
    ⟨(some 22), (.fad 4 (.t 1)), (some (21, true)), 0, false, []⟩,
    ⟨(some 23), (.load false 1 (.t 22)), (some (21, true)), 0, false, []⟩,
    ⟨(some 24), (.len false (.t 23)), (some (21, true)), 0, false, []⟩,
    ⟨(some 25), (.bin 0 .eql (.t 24) (.c (.int .i64 0))), (some (21, true)), 0, false, []⟩,
    ⟨(some 26), (.pick (.t 21) (.t 25) (.c (.bool false))), none, 0, false, []⟩,
    ⟨(some 2), (.mv (.t 26)), none, 0, false, []⟩] false
def a9_2 : AC := .seq a9_1 .ret
def a9_3 : AC := .seq a9_0 a9_2
def af9 : AF := { ntmps := 27, res := [(.t 2)], body := a9_3 }
theorem tr9 : trF Tryd.prog Tryd.f9 = some af9 := by kernel_rfl
attribute [go_sem] af9 a9_0 a9_1 a9_2 a9_3
def a10_0 : AC := .reg [⟨(some 0), (.mv (.c (.bool false))), none, 0, false, []⟩] false
def a10_1 : AC := .reg [⟨(some 8), (.call 25 [(.c (.int .i64 1))]), none, 0, false, []⟩,
    ⟨(some 9), (.build [(.int .i64 0), (.int .i64 0), (.int .i64 0), (.int .i64 0), .nils] [(0, (1, (.c (.int .i64 2))))]), none, 0, false, []⟩,
    ⟨(some 10), (.bslice 5 [(.t 8), (.t 9)]), none, 0, false, []⟩,
    ⟨(some 11), (.build [(.int .i64 0), (.int .i64 0), (.int .i64 0), (.int .i64 0), .nils] [(0, (1, (.c (.int .i64 14)))), (4, (1, (.t 10)))]), none, 0, false, []⟩,
    ⟨(some 12), (.call 25 [(.c (.int .i64 0))]), none, 0, false, []⟩,
    ⟨(some 13), (.bslice 5 [(.t 11), (.t 12)]), none, 0, false, []⟩,
    ⟨(some 14), (.build [(.int .i64 0), (.int .i64 0), (.int .i64 0), (.int .i64 0), .nils] [(0, (1, (.c (.int .i64 15)))), (4, (1, (.t 13)))]), none, 0, false, []⟩,
    ⟨(some 1), (.new [(.int .i64 0), (.int .i64 0), (.int .i64 0), (.int .i64 0), .nils]), none, 0, false, []⟩,
    ⟨none, (.store 5 (.t 1) (.t 14)), none, 0, false, []⟩] false
def a10_2 : AC := .reg [⟨(some 16), (.load true 5 (.t 1)), none, 0, false, []⟩,
    ⟨(some 17), (.call 7 [(.t 16), (.c (.float .f64 4607182418800017408))]), none, 0, false, []⟩,
    ⟨(some 15), (.mv (.t 17)), none, 0, false, []⟩,
    ⟨(some 18), (.ext (.t 15) 0), none, 0, false, []⟩,
    ⟨(some 19), (.ext (.t 15) 1), none, 0, false, []⟩,
    ⟨(some 2), (.new [(.int .i64 0), (.int .i64 0), (.int .i64 0), (.int .i64 0), .nils]), none, 0, false, []⟩,
    ⟨none, (.store 5 (.t 2) (.t 18)), none, 0, false, []⟩,
    ⟨(some 3), (.mv (.t 19)), none, 0, false, []⟩] false
def a10_3 : AC := .reg [⟨(some 21), (.load true 5 (.t 1)), none, 0, false, []⟩,
    ⟨(some 22), (.call 8 [(.t 21), (.c (.float .f64 4607182418800017408))]), none, 0, false, []⟩,
    ⟨(some 20), (.mv (.t 22)), none, 0, false, []⟩,
    ⟨(some 23), (.ext (.t 20) 0), none, 0, false, []⟩,
    ⟨(some 24), (.ext (.t 20) 1), none, 0, false, []⟩,
    ⟨(some 4), (.new [(.int .i64 0), (.int .i64 0), (.int .i64 0), (.int .i64 0), .nils]), none, 0, false, []⟩,
    ⟨none, (.store 5 (.t 4) (.t 23)), none, 0, false, []⟩,
    ⟨(some 5), (.mv (.t 24)), none, 0, false, []⟩] false
def a10_4 : AC := .reg [⟨(some 26), (.build [(.int .i64 0), (.int .i64 0), (.int .i64 0), (.int .i64 0), .nils] []), none, 0, false, []⟩,
    ⟨(some 27), (.call 7 [(.t 26), (.c (.float .f64 4607182418800017408))]), none, 0, false, []⟩,
    ⟨(some 25), (.mv (.t 27)), none, 0, false, []⟩,
    ⟨(some 28), (.ext (.t 25) 0), none, 0, false, []⟩,
    ⟨(some 29), (.ext (.t 25) 1), none, 0, false, []⟩,
    ⟨(some 6), (.new [(.int .i64 0), (.int .i64 0), (.int .i64 0), (.int .i64 0), .nils]), none, 0, false, []⟩,
    ⟨none, (.store 5 (.t 6) (.t 28)), none, 0, false, []⟩,
    ⟨(some 7), (.mv (.t 29)), none, 0, false, []⟩] false
def a10_5 : AC := .reg [⟨(some 30), (.mv (.t 3)), none, 0, false, []⟩,
    ⟨(some 31), (.bin 0 .eql (.t 30) (.c (.int .i64 0))), none, 0, false, []⟩,
    ⟨(some 32), (.mv (.t 31)), none, 0, false, []⟩,
    ⟨(some 33), (.fad 0 (.t 2)), (some (32, true)), 0, false, []⟩,
    ⟨(some 34), (.load false 1 (.t 33)), (some (32, true)), 0, false, []⟩,
    ⟨(some 35), (.bin 0 .eql (.t 34) (.c (.int .i64 1))), (some (32, true)), 0, false, []⟩,
    ⟨(some 36), (.pick (.t 32) (.t 35) (.c (.bool false))), none, 0, false, []⟩,
    ⟨(some 37), (.mv (.t 36)), none, 0, false, []⟩,
    ⟨(some 38), (.fad 1 (.t 2)), (some (37, true)), 0, false, []⟩,
    ⟨(some 39), (.load false 1 (.t 38)), (some (37, true)), 0, false, []⟩,
    ⟨(some 40), (.bin 0 .eql (.t 39) (.c (.int .i64 0))), (some (37, true)), 0, false, []⟩,
    ⟨(some 41), (.pick (.t 37) (.t 40) (.c (.bool false))), none, 0, false, []⟩,
    ⟨(some 42), (.mv (.t 41)), none, 0, false, []⟩,
    ⟨(some 43), (.fad 4 (.t 2)), (some (42, true)), 0, false, []⟩,
    ⟨(some 44), (.load false 1 (.t 43)), (some (42, true)), 0, false, []⟩,
    ⟨(some 45), (.len false (.t 44)), (some (42, true)), 0, false, []⟩,
    ⟨(some 46), (.bin 0 .eql (.t 45) (.c (.int .i64 0))), (some (42, true)), 0, false, []⟩,
    ⟨(some 47), (.pick (.t 42) (.t 46) (.c (.bool false))), none, 0, false, []⟩,
    ⟨(some 48), (.mv (.t 47)), none, 0, false, []⟩,
    ⟨(some 49), (.mv (.t 5)), (some (48, true)), 0, false, []⟩,
    ⟨(some 50), (.bin 0 .eql (.t 49) (.c (.int .i64 0))), (some (48, true)), 0, false, []⟩,
    ⟨(some 51), (.pick (.t 48) (.t 50) (.c (.bool false))), none, 0, false, []⟩,
    ⟨(some 52), (.mv (.t 51)), none, 0, false, []⟩,
    ⟨(some 53), (.fad 0 (.t 4)), (some (52, true)), 0, false, []⟩,
    ⟨(some 54), (.load false 1 (.t 53)), (some (52, true)), 0, false, []⟩,
    ⟨(some 55), (.bin 0 .eql (.t 54) (.c (.int .i64 1))), (some (52, true)), 0, false, []⟩,
    ⟨(some 56), (.pick (.t 52) (.t 55) (.c (.bool false))), none, 0, false, []⟩,
    ⟨(some 57), (.mv (.t 56)), none, 0, false, []⟩,
    ⟨(some 58), (.mv (.t 7)), (some (57, true)), 0, false, []⟩,
    ⟨(some 59), (.bin 0 .eql (.t 58) (.c (.int .i64 1))), (some (57, true)), 0, false, []⟩,
    ⟨(some 60), (.pick (.t 57) (.t 59) (.c (.bool false))), none, 0, false, []⟩,
    ⟨(some 0), (.mv (.t 60)), none, 0, false, []⟩] false
def a10_6 : AC := .seq a10_5 .ret
def a10_7 : AC := .seq a10_4 a10_6
def a10_8 : AC := .seq a10_3 a10_7
def a10_9 : AC := .seq a10_2 a10_8
def a10_10 : AC := .seq a10_1 a10_9
def a10_11 : AC := .seq a10_0 a10_10
def af10 : AF := { ntmps := 61, res := [(.t 0)], body := a10_11 }
theorem tr10 : trF Tryd.prog Tryd.f10 = some af10 := by kernel_rfl
attribute [go_sem] af10 a10_0 a10_1 a10_2 a10_3 a10_4 a10_5 a10_6 a10_7 a10_8 a10_9 a10_10 a10_11
def a12_0 : AC := .reg [⟨(some 0), (.mv (.c (.bool false))), none, 0, false, []⟩] false
def a12_1 : AC := .reg [⟨(some 6), (.build [(.int .i64 0), (.int .i64 0), (.int .i64 0), (.int .i64 0), .nils] [(0, (1, (.c (.int .i64 1))))]), none, 0, false, []⟩,
    ⟨(some 7), (.call 29 [(.c (.int .i64 1))]), none, 0, false, []⟩,
    ⟨(some 8), (.call 29 [(.c (.int .i64 0))]), none, 0, false, []⟩,
    ⟨(some 9), (.bslice 5 [(.t 7), (.t 8)]), none, 0, false, []⟩,
    ⟨(some 10), (.call 28 [(.c (.int .i64 15)), (.t 9)]), none, 0, false, []⟩,
    ⟨(some 11), (.bslice 5 [(.t 6), (.t 10)]), none, 0, false, []⟩,
    ⟨(some 12), (.call 28 [(.c (.int .i64 14)), (.t 11)]), none, 0, false, []⟩,
    ⟨(some 1), (.new [(.int .i64 0), (.int .i64 0), (.int .i64 0), (.int .i64 0), .nils]), none, 0, false, []⟩,
    ⟨none, (.store 5 (.t 1) (.t 12)), none, 0, false, []⟩] false
def a12_2 : AC := .reg [⟨(some 14), (.load true 5 (.t 1)), none, 0, true, []⟩,
    ⟨(some 15), (.call 29 [(.c (.int .i64 0))]), none, 1, false, [0]⟩,
    ⟨(some 16), (.call 11 [(.t 14), (.t 15), (.c (.float .f64 0))]), none, 2, false, []⟩,
    ⟨(some 13), (.mv (.t 16)), none, 3, false, []⟩,
    ⟨(some 17), (.ext (.t 13) 0), none, 4, false, []⟩,
    ⟨(some 18), (.ext (.t 13) 1), none, 5, false, []⟩,
    ⟨(some 2), (.mv (.t 17)), none, 6, false, []⟩,
    ⟨(some 3), (.mv (.t 18)), none, 7, false, []⟩] true
def a12_3 : AC := .reg [⟨(some 20), (.call 29 [(.c (.int .i64 0))]), none, 0, false, []⟩,
    ⟨(some 21), (.call 29 [(.c (.int .i64 1))]), none, 0, false, []⟩,
    ⟨(some 22), (.call 11 [(.t 20), (.t 21), (.c (.float .f64 0))]), none, 0, false, []⟩,
    ⟨(some 19), (.mv (.t 22)), none, 0, false, []⟩,
    ⟨(some 23), (.ext (.t 19) 0), none, 0, false, []⟩,
    ⟨(some 24), (.ext (.t 19) 1), none, 0, false, []⟩,
    ⟨(some 4), (.mv (.t 23)), none, 0, false, []⟩,
    ⟨(some 5), (.mv (.t 24)), none, 0, false, []⟩] false
def a12_4 : AC := .reg [⟨(some 25), (.mv (.t 2)), none, 0, false, []⟩,
    ⟨(some 26), (.mv (.t 25)), none, 0, false, []⟩,
    ⟨(some 27), (.mv (.t 3)), (some (26, true)), 0, false, []⟩,
    ⟨(some 28), (.bin 0 .eql (.t 27) (.c (.int .i64 0))), (some (26, true)), 0, false, []⟩,
    ⟨(some 29), (.pick (.t 26) (.t 28) (.c (.bool false))), none, 0, false, []⟩,
    ⟨(some 30), (.mv (.t 29)), none, 0, false, []⟩,
    ⟨(some 31), (.mv (.t 4)), (some (30, true)), 0, false, []⟩,
    ⟨(some 32), (.un .not (.t 31)), (some (30, true)), 0, false, []⟩,
    ⟨(some 33), (.pick (.t 30) (.t 32) (.c (.bool false))), none, 0, false, []⟩,
    ⟨(some 34), (.mv (.t 33)), none, 0, false, []⟩,
    ⟨(some 35), (.mv (.t 5)), (some (34, true)), 0, false, []⟩,
    ⟨(some 36), (.bin 0 .eql (.t 35) (.c (.int .i64 0))), (some (34, true)), 0, false, []⟩,
    ⟨(some 37), (.pick (.t 34) (.t 36) (.c (.bool false))), none, 0, false, []⟩,
    ⟨(some 0), (.mv (.t 37)), none, 0, false, []⟩] false
def a12_5 : AC := .seq a12_4 .ret
def a12_6 : AC := .seq a12_3 a12_5
def a12_7 : AC := .seq a12_2 a12_6
def a12_8 : AC := .seq a12_1 a12_7
def a12_9 : AC := .seq a12_0 a12_8
def af12 : AF := { ntmps := 38, res := [(.t 0)], body := a12_9 }
theorem tr12 : trF Tryd.prog Tryd.f12 = some af12 := by kernel_rfl
attribute [go_sem] af12 a12_0 a12_1 a12_2 a12_3 a12_4 a12_5 a12_6 a12_7 a12_8 a12_9
def a25_0 : AC := .reg [⟨(some 2), (.new [(.int .i64 0), (.int .i64 0), (.int .i64 0), (.int .i64 0), .nils]), none, 0, false, []⟩] false
def a25_1 : AC := .reg [⟨(some 3), (.mv (.t 0)), none, 0, false, []⟩,
    ⟨(some 4), (.build [(.int .i64 0), (.int .i64 0), (.int .i64 0), (.int .i64 0), .nils] [(0, (1, (.c (.int .i64 1)))), (1, (1, (.t 3)))]), none, 0, false, []⟩,
    ⟨none, (.store 5 (.t 2) (.t 4)), none, 0, false, []⟩] false
def a25_2 : AC := .seq a25_1 .ret
def a25_3 : AC := .seq a25_0 a25_2
def af25 : AF := { ntmps := 5, res := [(.cell 2 true 5)], body := a25_3 }
theorem tr25 : trF Tryd.prog Tryd.f25 = some af25 := by kernel_rfl
attribute [go_sem] af25 a25_0 a25_1 a25_2 a25_3
def a28_0 : AC := .reg [⟨(some 4), (.new [(.int .i64 0), (.int .i64 0), (.int .i64 0), (.int .i64 0), .nils]), none, 0, false, []⟩] false
def a28_1 : AC := .reg [⟨(some 5), (.mv (.t 0)), none, 0, false, []⟩,
    ⟨(some 6), (.bslice 5 []), none, 0, false, []⟩,
    ⟨(some 7), (.mv (.t 1)), none, 0, false, []⟩,
    ⟨(some 8), (.app 5 56 (.t 6) (.t 7)), none, 0, false, []⟩,
    ⟨(some 9), (.build [(.int .i64 0), (.int .i64 0), (.int .i64 0), (.int .i64 0), .nils] [(0, (1, (.t 5))), (4, (1, (.t 8)))]), none, 0, false, []⟩,
    ⟨none, (.store 5 (.t 4) (.t 9)), none, 0, false, []⟩] false
def a28_2 : AC := .seq a28_1 .ret
def a28_3 : AC := .seq a28_0 a28_2
def af28 : AF := { ntmps := 10, res := [(.cell 4 true 5)], body := a28_3 }
theorem tr28 : trF Tryd.prog Tryd.f28 = some af28 := by kernel_rfl
attribute [go_sem] af28 a28_0 a28_1 a28_2 a28_3
def a29_0 : AC := .reg [⟨(some 2), (.new [(.int .i64 0), (.int .i64 0), (.int .i64 0), (.int .i64 0), .nils]), none, 0, false, []⟩] false
def a29_1 : AC := .reg [⟨(some 3), (.mv (.t 0)), none, 0, false, []⟩,
    ⟨(some 4), (.build [(.int .i64 0), (.int .i64 0), (.int .i64 0), (.int .i64 0), .nils] [(0, (1, (.c (.int .i64 2)))), (1, (1, (.t 3)))]), none, 0, false, []⟩,
    ⟨none, (.store 5 (.t 2) (.t 4)), none, 0, false, []⟩] false
def a29_2 : AC := .seq a29_1 .ret
def a29_3 : AC := .seq a29_0 a29_2
def af29 : AF := { ntmps := 5, res := [(.cell 2 true 5)], body := a29_3 }
theorem tr29 : trF Tryd.prog Tryd.f29 = some af29 := by kernel_rfl
attribute [go_sem] af29 a29_0 a29_1 a29_2 a29_3
def a33_0 : AC := .reg [⟨(some 2), (.mv (.c (.bool false))), none, 0, false, []⟩] false
def a33_1 : AC := .reg [⟨(some 3), (.mv (.t 0)), none, 0, false, []⟩,
    ⟨(some 4), (.mv (.t 0)), none, 0, false, []⟩,
    ⟨(some 5), (.bin 3 .neq (.t 3) (.t 4)), none, 0, false, []⟩,
    ⟨(some 2), (.mv (.t 5)), none, 0, false, []⟩] false
def a33_2 : AC := .seq a33_1 .ret
def a33_3 : AC := .seq a33_0 a33_2
def af33 : AF := { ntmps := 6, res := [(.t 2)], body := a33_3 }
theorem tr33 : trF Tryd.prog Tryd.f33 = some af33 := by kernel_rfl
attribute [go_sem] af33 a33_0 a33_1 a33_2 a33_3
def a70_0 : AC := .reg [⟨(some 2), (.box (.t 0)), none, 0, false, []⟩,
    ⟨(some 3), (.box (.t 1)), none, 0, false, []⟩,
    ⟨(some 4), (.mv (.c (.bool false))), none, 0, false, []⟩] false
def a70_1 : AC := .reg [⟨(some 6), (.fad 0 (.t 2)), none, 0, false, []⟩,
    ⟨(some 7), (.load false 1 (.t 6)), none, 0, false, []⟩,
    ⟨(some 8), (.fad 0 (.t 3)), none, 0, false, []⟩,
    ⟨(some 9), (.load false 1 (.t 8)), none, 0, false, []⟩,
    ⟨(some 10), (.bin 0 .neq (.t 7) (.t 9)), none, 0, false, []⟩,
    ⟨(some 11), (.mv (.t 10)), none, 0, false, []⟩,
    ⟨(some 12), (.fad 1 (.t 2)), (some (11, false)), 0, false, []⟩,
    ⟨(some 13), (.load false 1 (.t 12)), (some (11, false)), 0, false, []⟩,
    ⟨(some 14), (.fad 1 (.t 3)), (some (11, false)), 0, false, []⟩,
    ⟨(some 15), (.load false 1 (.t 14)), (some (11, false)), 0, false, []⟩,
    ⟨(some 16), (.bin 0 .neq (.t 13) (.t 15)), (some (11, false)), 0, false, []⟩,
    ⟨(some 17), (.pick (.t 11) (.c (.bool true)) (.t 16)), none, 0, false, []⟩,
    ⟨(some 18), (.mv (.t 17)), none, 0, false, []⟩,
    ⟨(some 19), (.fad 2 (.t 2)), (some (18, false)), 0, false, []⟩,
    ⟨(some 20), (.load false 1 (.t 19)), (some (18, false)), 0, false, []⟩,
    ⟨(some 21), (.fad 2 (.t 3)), (some (18, false)), 0, false, []⟩,
    ⟨(some 22), (.load false 1 (.t 21)), (some (18, false)), 0, false, []⟩,
    ⟨(some 23), (.bin 0 .neq (.t 20) (.t 22)), (some (18, false)), 0, false, []⟩,
    ⟨(some 24), (.pick (.t 18) (.c (.bool true)) (.t 23)), none, 0, false, []⟩,
    ⟨(some 25), (.mv (.t 24)), none, 0, false, []⟩,
    ⟨(some 26), (.fad 3 (.t 2)), (some (25, false)), 0, false, []⟩,
    ⟨(some 27), (.load false 1 (.t 26)), (some (25, false)), 0, false, []⟩,
    ⟨(some 28), (.fad 3 (.t 3)), (some (25, false)), 0, false, []⟩,
    ⟨(some 29), (.load false 1 (.t 28)), (some (25, false)), 0, false, []⟩,
    ⟨(some 30), (.bin 0 .neq (.t 27) (.t 29)), (some (25, false)), 0, false, []⟩,
    ⟨(some 31), (.pick (.t 25) (.c (.bool true)) (.t 30)), none, 0, false, []⟩,
    ⟨(some 32), (.mv (.t 31)), none, 0, false, []⟩,
    ⟨(some 33), (.fad 4 (.t 2)), (some (32, false)), 0, false, []⟩,
    ⟨(some 34), (.load false 1 (.t 33)), (some (32, false)), 0, false, []⟩,
    ⟨(some 35), (.len false (.t 34)), (some (32, false)), 0, false, []⟩,
    ⟨(some 36), (.fad 4 (.t 3)), (some (32, false)), 0, false, []⟩,
    ⟨(some 37), (.load false 1 (.t 36)), (some (32, false)), 0, false, []⟩,
    ⟨(some 38), (.len false (.t 37)), (some (32, false)), 0, false, []⟩,
    ⟨(some 39), (.bin 0 .neq (.t 35) (.t 38)), (some (32, false)), 0, false, []⟩,
    ⟨(some 40), (.pick (.t 32) (.c (.bool true)) (.t 39)), none, 0, false, []⟩] false
def a70_2 : AC := .reg [⟨(some 4), (.mv (.c (.bool false))), none, 0, false, []⟩] false
def a70_3 : AC := .seq a70_2 .ret
def a70_4 : AC := .cond (.t 40) a70_3 .skip
def a70_5 : AC := .seq a70_1 a70_4
def a70_6 : AC := .reg [⟨(some 41), (.fad 4 (.t 2)), none, 0, false, []⟩,
    ⟨(some 42), (.load false 1 (.t 41)), none, 0, false, []⟩,
    ⟨(some 43), (.len false (.t 42)), none, 0, false, []⟩,
    ⟨(some 44), (.mv (.c (.int .i64 0))), none, 0, false, []⟩] false
def a70_7 : AC := .reg [⟨(some 45), (.bin 0 .lss (.t 44) (.t 43)), none, 0, false, []⟩] false
def a70_8 : AC := .cond (.t 45) .skip (.exit 0)
def a70_9 : AC := .reg [⟨(some 46), (.mv (.t 44)), none, 0, false, []⟩,
    ⟨(some 5), (.mv (.t 46)), none, 0, false, []⟩] false
def a70_10 : AC := .reg [⟨(some 47), (.fad 4 (.t 2)), none, 0, false, []⟩,
    ⟨(some 48), (.load false 1 (.t 47)), none, 1, false, []⟩,
    ⟨(some 49), (.mv (.t 5)), none, 2, false, []⟩,
    ⟨(some 50), (.iad 5 (.t 48) (.t 49)), none, 3, false, []⟩,
    ⟨(some 51), (.load true 5 (.t 50)), none, 4, false, []⟩,
    ⟨(some 52), (.fad 4 (.t 3)), none, 5, false, []⟩,
    ⟨(some 53), (.load false 1 (.t 52)), none, 6, false, []⟩,
    ⟨(some 54), (.mv (.t 5)), none, 7, false, []⟩,
    ⟨(some 55), (.iad 5 (.t 53) (.t 54)), none, 8, false, []⟩,
    ⟨(some 56), (.load true 5 (.t 55)), none, 9, false, []⟩,
    ⟨(some 57), (.call 70 [(.t 51), (.t 56)]), none, 10, false, []⟩,
    ⟨(some 58), (.un .not (.t 57)), none, 11, false, []⟩] true
def a70_11 : AC := .reg [⟨(some 4), (.mv (.c (.bool false))), none, 0, false, []⟩] false
def a70_12 : AC := .seq a70_11 .ret
def a70_13 : AC := .cond (.t 58) a70_12 .skip
def a70_14 : AC := .seq a70_10 a70_13
def a70_15 : AC := .seq a70_9 a70_14
def a70_16 : AC := .blk 1 a70_15
def a70_17 : AC := .reg [⟨(some 59), (.bin 0 .add (.t 44) (.c (.int .i64 1))), none, 0, false, []⟩,
    ⟨(some 44), (.mv (.t 59)), none, 0, false, []⟩] false
def a70_18 : AC := .seq a70_16 a70_17
def a70_19 : AC := .seq a70_8 a70_18
def a70_20 : AC := .seq a70_7 a70_19
def a70_21 : AC := .loop a70_20
def a70_22 : AC := .blk 0 a70_21
def a70_23 : AC := .seq a70_6 a70_22
def a70_24 : AC := .reg [⟨(some 4), (.mv (.c (.bool true))), none, 0, false, []⟩] false
def a70_25 : AC := .seq a70_24 .ret
def a70_26 : AC := .seq a70_23 a70_25
def a70_27 : AC := .seq a70_5 a70_26
def a70_28 : AC := .seq a70_0 a70_27
def af70 : AF := { ntmps := 60, res := [(.t 4)], body := a70_28 }
theorem tr70 : trF Tryd.prog Tryd.f70 = some af70 := by kernel_rfl
attribute [go_sem] af70 a70_0 a70_1 a70_2 a70_3 a70_4 a70_5 a70_6 a70_7 a70_8 a70_9 a70_10 a70_11 a70_12 a70_13 a70_14 a70_15 a70_16 a70_17 a70_18 a70_19 a70_20 a70_21 a70_22 a70_23 a70_24 a70_25 a70_26 a70_27 a70_28
end Go.Proofs.YtdpigpopcbjkmaaDoor.Abs
