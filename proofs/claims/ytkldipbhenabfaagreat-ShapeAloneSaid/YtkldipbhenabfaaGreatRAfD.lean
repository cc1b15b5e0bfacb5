/- The abstract code of functions, printed by program; that it is the translation of the model's code is decided by the kernel. -/
import Derived.Test.YtkldipbhenabfaaGreatREv
import Derived.Test.YtkldipbhenabfaaGreatProg
import Derived.KernelRfl
namespace Go.Proofs.YtkldipbhenabfaaGreat.Abs
open Go Go.Proofs Go.Proofs.YtkldipbhenabfaaGreat
def a135_0 : AC := .reg [⟨(some 1), (.box (.t 0)), none, 0, false, []⟩,
    ⟨(some 2), (.new [(.int .i64 0), (.int .i64 0), (.int .i64 0), (.int .i64 0), .nils]), none, 0, false, []⟩] false
def a135_1 : AC := .reg [⟨(some 3), (.load true 32 (.t 1)), none, 0, false, []⟩,
    ⟨(some 4), (.call 153 [(.t 3)]), none, 0, false, []⟩,
    ⟨(some 5), (.un .not (.t 4)), none, 0, false, []⟩] false
def a135_2 : AC := .reg [⟨(some 6), (.build [(.int .i64 0), (.int .i64 0), (.int .i64 0), (.int .i64 0), .nils] []), none, 0, false, []⟩,
    ⟨none, (.store 5 (.t 2) (.t 6)), none, 0, false, []⟩] false
def a135_3 : AC := .seq a135_2 .ret
def a135_4 : AC := .cond (.t 5) a135_3 .skip
def a135_5 : AC := .seq a135_1 a135_4
def a135_6 : AC := .reg [⟨(some 7), (.load true 32 (.t 1)), none, 0, false, []⟩,
    ⟨(some 8), (.call 154 [(.t 7), (.c (.int .i64 13)), (.c .nils)]), none, 0, false, []⟩,
    ⟨(some 9), (.call 34 [(.t 8)]), none, 0, false, []⟩,
    ⟨none, (.store 5 (.t 2) (.t 9)), none, 0, false, []⟩] false
def a135_7 : AC := .seq a135_6 .ret
def a135_8 : AC := .seq a135_5 a135_7
def a135_9 : AC := .seq a135_0 a135_8
def af135 : AF := { ntmps := 10, res := [(.cell 2 true 5)], body := a135_9 }
theorem tr135 : trF Tryz.prog Tryz.f135 = some af135 := by kernel_rfl
attribute [go_sem] af135 a135_0 a135_1 a135_2 a135_3 a135_4 a135_5 a135_6 a135_7 a135_8 a135_9
def a136_0 : AC := .reg [⟨(some 1), (.box (.t 0)), none, 0, false, []⟩,
    ⟨(some 2), (.new [(.int .i64 0), (.int .i64 0), (.int .i64 0), (.int .i64 0), .nils]), none, 0, false, []⟩] false
def a136_1 : AC := .reg [⟨(some 3), (.load true 32 (.t 1)), none, 0, false, []⟩,
    ⟨(some 4), (.call 153 [(.t 3)]), none, 0, false, []⟩,
    ⟨(some 5), (.un .not (.t 4)), none, 0, false, []⟩] false
def a136_2 : AC := .reg [⟨(some 6), (.build [(.int .i64 0), (.int .i64 0), (.int .i64 0), (.int .i64 0), .nils] []), none, 0, false, []⟩,
    ⟨none, (.store 5 (.t 2) (.t 6)), none, 0, false, []⟩] false
def a136_3 : AC := .seq a136_2 .ret
def a136_4 : AC := .cond (.t 5) a136_3 .skip
def a136_5 : AC := .seq a136_1 a136_4
def a136_6 : AC := .reg [⟨(some 7), (.load true 32 (.t 1)), none, 0, false, []⟩,
    ⟨(some 8), (.call 154 [(.t 7), (.c (.int .i64 14)), (.c .nils)]), none, 0, false, []⟩,
    ⟨(some 9), (.call 34 [(.t 8)]), none, 0, false, []⟩,
    ⟨none, (.store 5 (.t 2) (.t 9)), none, 0, false, []⟩] false
def a136_7 : AC := .seq a136_6 .ret
def a136_8 : AC := .seq a136_5 a136_7
def a136_9 : AC := .seq a136_0 a136_8
def af136 : AF := { ntmps := 10, res := [(.cell 2 true 5)], body := a136_9 }
theorem tr136 : trF Tryz.prog Tryz.f136 = some af136 := by kernel_rfl
attribute [go_sem] af136 a136_0 a136_1 a136_2 a136_3 a136_4 a136_5 a136_6 a136_7 a136_8 a136_9
def a137_0 : AC := .reg [⟨(some 4), (.box (.t 0)), none, 0, false, []⟩,
    ⟨(some 5), (.box (.t 1)), none, 0, false, []⟩,
    ⟨(some 6), (.box (.t 2)), none, 0, false, []⟩,
    ⟨(some 7), (.box (.t 3)), none, 0, false, []⟩,
    ⟨(some 8), (.new [(.int .i64 0), (.int .i64 0), (.int .i64 0), (.int .i64 0), (.int .i64 0), .nils, (.int .i64 0), (.int .i64 0), (.int .i64 0), (.int .i64 0), .nils, (.int .i64 0), (.int .i64 0), (.int .i64 0), (.int .i64 0), .nils, (.int .i64 0), (.int .i64 0), (.int .i64 0), (.int .i64 0), .nils, (.int .i64 0), (.int .i64 0), (.int .i64 0), (.int .i64 0), .nils]), none, 0, false, []⟩] false
def a137_1 : AC := .reg [⟨(some 11), (.load true 32 (.t 4)), none, 0, false, []⟩,
    ⟨(some 12), (.call 153 [(.t 11)]), none, 0, false, []⟩,
    ⟨(some 13), (.un .not (.t 12)), none, 0, false, []⟩,
    ⟨(some 14), (.mv (.t 13)), none, 0, false, []⟩,
    ⟨(some 15), (.load true 5 (.t 5)), (some (14, false)), 0, false, []⟩,
    ⟨(some 16), (.load true 5 (.t 6)), (some (14, false)), 0, false, []⟩,
    ⟨(some 17), (.load true 5 (.t 7)), (some (14, false)), 0, false, []⟩,
    ⟨(some 18), (.bslice 5 [(.t 15), (.t 16), (.t 17)]), (some (14, false)), 0, false, []⟩,
    ⟨(some 19), (.call 147 [(.t 18)]), (some (14, false)), 0, false, []⟩,
    ⟨(some 20), (.un .not (.t 19)), (some (14, false)), 0, false, []⟩,
    ⟨(some 21), (.pick (.t 14) (.c (.bool true)) (.t 20)), none, 0, false, []⟩] false
def a137_2 : AC := .reg [⟨(some 22), (.build [(.int .i64 0), (.int .i64 0), (.int .i64 0), (.int .i64 0), (.int .i64 0), .nils, (.int .i64 0), (.int .i64 0), (.int .i64 0), (.int .i64 0), .nils, (.int .i64 0), (.int .i64 0), (.int .i64 0), (.int .i64 0), .nils, (.int .i64 0), (.int .i64 0), (.int .i64 0), (.int .i64 0), .nils, (.int .i64 0), (.int .i64 0), (.int .i64 0), (.int .i64 0), .nils] []), none, 0, false, []⟩,
    ⟨none, (.store 26 (.t 8) (.t 22)), none, 0, false, []⟩] false
def a137_3 : AC := .seq a137_2 .ret
def a137_4 : AC := .cond (.t 21) a137_3 .skip
def a137_5 : AC := .seq a137_1 a137_4
def a137_6 : AC := .reg [⟨(some 23), (.fad 2 (.t 4)), none, 0, false, []⟩,
    ⟨(some 24), (.load true 5 (.t 23)), none, 1, true, []⟩,
    ⟨(some 25), (.load true 5 (.t 5)), none, 2, true, []⟩,
    ⟨(some 26), (.call 155 [(.t 24), (.t 25)]), none, 3, true, []⟩,
    ⟨(some 27), (.fad 7 (.t 4)), none, 4, false, []⟩,
    ⟨(some 28), (.load true 5 (.t 27)), none, 5, true, [3]⟩,
    ⟨(some 29), (.load true 5 (.t 6)), none, 6, true, [3]⟩,
    ⟨(some 30), (.call 155 [(.t 28), (.t 29)]), none, 7, true, []⟩,
    ⟨(some 9), (.new [(.int .i64 0), (.int .i64 0), (.int .i64 0), (.int .i64 0), .nils]), none, 8, true, [1, 2, 3, 5, 6, 7]⟩,
    ⟨(some 10), (.new [(.int .i64 0), (.int .i64 0), (.int .i64 0), (.int .i64 0), .nils]), none, 9, false, [1, 2, 3, 5, 6, 7, 8]⟩,
    ⟨none, (.store 5 (.t 9) (.t 26)), none, 10, false, []⟩,
    ⟨none, (.store 5 (.t 10) (.t 30)), none, 11, false, []⟩] true
def a137_7 : AC := .reg [⟨(some 31), (.fad 0 (.t 4)), none, 0, false, []⟩,
    ⟨(some 32), (.load false 1 (.t 31)), none, 1, true, []⟩,
    ⟨(some 33), (.fad 1 (.t 4)), none, 2, false, []⟩,
    ⟨(some 34), (.load false 1 (.t 33)), none, 3, true, []⟩,
    ⟨(some 35), (.mnx true (.t 32) (.t 34)), none, 4, false, []⟩,
    ⟨(some 36), (.fad 2 (.t 4)), none, 5, false, []⟩,
    ⟨(some 37), (.load true 5 (.t 36)), none, 6, true, []⟩,
    ⟨(some 38), (.fad 12 (.t 4)), none, 7, false, []⟩,
    ⟨(some 39), (.load true 5 (.t 38)), none, 8, true, []⟩,
    ⟨(some 40), (.call 156 [(.t 37), (.t 39)]), none, 9, true, [1, 3]⟩,
    ⟨(some 41), (.fad 7 (.t 4)), none, 10, false, []⟩,
    ⟨(some 42), (.load true 5 (.t 41)), none, 11, true, [9]⟩,
    ⟨(some 43), (.fad 17 (.t 4)), none, 12, false, []⟩,
    ⟨(some 44), (.load true 5 (.t 43)), none, 13, true, [9]⟩,
    ⟨(some 45), (.call 156 [(.t 42), (.t 44)]), none, 14, true, [1, 3]⟩,
    ⟨(some 46), (.load true 5 (.t 9)), none, 15, true, [9, 14]⟩,
    ⟨(some 47), (.load true 5 (.t 10)), none, 16, true, [9, 14]⟩,
    ⟨(some 48), (.load true 32 (.t 4)), none, 17, true, [9, 14]⟩,
    ⟨(some 49), (.load true 5 (.t 9)), none, 18, false, [9, 14]⟩,
    ⟨(some 50), (.load true 5 (.t 10)), none, 19, false, [9, 14]⟩,
    ⟨(some 51), (.load true 5 (.t 7)), none, 20, false, [9, 14]⟩,
    ⟨(some 52), (.bslice 5 [(.t 49), (.t 50), (.t 51)]), none, 21, false, [1, 3, 6, 8, 9, 11, 13, 14, 15, 16, 17]⟩,
    ⟨(some 53), (.call 154 [(.t 48), (.c (.int .i64 15)), (.t 52)]), none, 22, false, [1, 3, 15, 16]⟩,
    ⟨(some 54), (.call 151 [(.t 35), (.t 40), (.t 45), (.t 46), (.t 47), (.t 53)]), none, 23, false, []⟩,
    ⟨none, (.store 26 (.t 8) (.t 54)), none, 24, false, []⟩] true
def a137_8 : AC := .seq a137_7 .ret
def a137_9 : AC := .seq a137_6 a137_8
def a137_10 : AC := .seq a137_5 a137_9
def a137_11 : AC := .seq a137_0 a137_10
def af137 : AF := { ntmps := 55, res := [(.cell 8 true 26)], body := a137_11 }
theorem tr137 : trF Tryz.prog Tryz.f137 = some af137 := by kernel_rfl
attribute [go_sem] af137 a137_0 a137_1 a137_2 a137_3 a137_4 a137_5 a137_6 a137_7 a137_8 a137_9 a137_10 a137_11
def a132_0 : AC := .reg [⟨(some 7), (.box (.t 1)), none, 0, false, []⟩,
    ⟨(some 8), (.box (.t 2)), none, 0, false, []⟩,
    ⟨(some 9), (.box (.t 3)), none, 0, false, []⟩,
    ⟨(some 10), (.box (.t 4)), none, 0, false, []⟩,
    ⟨(some 11), (.box (.t 5)), none, 0, false, []⟩,
    ⟨(some 12), (.new [(.int .i64 0), (.int .i64 0), (.int .i64 0), (.int .i64 0), .nils]), none, 0, false, []⟩] false
def a132_1 : AC := .reg [⟨(some 13), (.mv (.t 0)), none, 0, false, []⟩,
    ⟨(some 14), (.call 146 [(.t 13)]), none, 0, false, []⟩,
    ⟨(some 15), (.un .not (.t 14)), none, 0, false, []⟩,
    ⟨(some 16), (.mv (.t 15)), none, 0, false, []⟩,
    ⟨(some 17), (.load true 5 (.t 7)), (some (16, false)), 0, false, []⟩,
    ⟨(some 18), (.load true 5 (.t 8)), (some (16, false)), 0, false, []⟩,
    ⟨(some 19), (.load true 5 (.t 9)), (some (16, false)), 0, false, []⟩,
    ⟨(some 20), (.bslice 5 [(.t 17), (.t 18), (.t 19)]), (some (16, false)), 0, false, []⟩,
    ⟨(some 21), (.call 147 [(.t 20)]), (some (16, false)), 0, false, []⟩,
    ⟨(some 22), (.un .not (.t 21)), (some (16, false)), 0, false, []⟩,
    ⟨(some 23), (.pick (.t 16) (.c (.bool true)) (.t 22)), none, 0, false, []⟩,
    ⟨(some 24), (.mv (.t 23)), none, 0, false, []⟩,
    ⟨(some 25), (.load true 26 (.t 10)), (some (24, false)), 0, false, []⟩,
    ⟨(some 26), (.call 148 [(.t 25)]), (some (24, false)), 0, false, []⟩,
    ⟨(some 27), (.un .not (.t 26)), (some (24, false)), 0, false, []⟩,
    ⟨(some 28), (.pick (.t 24) (.c (.bool true)) (.t 27)), none, 0, false, []⟩,
    ⟨(some 29), (.mv (.t 28)), none, 0, false, []⟩,
    ⟨(some 30), (.load true 26 (.t 11)), (some (29, false)), 0, false, []⟩,
    ⟨(some 31), (.call 148 [(.t 30)]), (some (29, false)), 0, false, []⟩,
    ⟨(some 32), (.un .not (.t 31)), (some (29, false)), 0, false, []⟩,
    ⟨(some 33), (.pick (.t 29) (.c (.bool true)) (.t 32)), none, 0, false, []⟩] false
def a132_2 : AC := .reg [⟨(some 34), (.build [(.int .i64 0), (.int .i64 0), (.int .i64 0), (.int .i64 0), .nils] []), none, 0, false, []⟩,
    ⟨none, (.store 5 (.t 12) (.t 34)), none, 0, false, []⟩] false
def a132_3 : AC := .seq a132_2 .ret
def a132_4 : AC := .cond (.t 33) a132_3 .skip
def a132_5 : AC := .seq a132_1 a132_4
def a132_6 : AC := .reg [⟨(some 35), (.mv (.t 0)), none, 0, false, []⟩,
    ⟨(some 36), (.load true 5 (.t 7)), none, 0, false, []⟩,
    ⟨(some 37), (.load true 5 (.t 8)), none, 0, false, []⟩,
    ⟨(some 38), (.load true 5 (.t 9)), none, 0, false, []⟩,
    ⟨(some 39), (.fad 11 (.t 10)), none, 0, false, []⟩,
    ⟨(some 40), (.load true 5 (.t 39)), none, 0, false, []⟩,
    ⟨(some 41), (.fad 16 (.t 10)), none, 0, false, []⟩,
    ⟨(some 42), (.load true 5 (.t 41)), none, 0, false, []⟩,
    ⟨(some 43), (.fad 21 (.t 10)), none, 0, false, []⟩,
    ⟨(some 44), (.load true 5 (.t 43)), none, 0, false, []⟩,
    ⟨(some 45), (.fad 11 (.t 11)), none, 0, false, []⟩,
    ⟨(some 46), (.load true 5 (.t 45)), none, 0, false, []⟩,
    ⟨(some 47), (.fad 16 (.t 11)), none, 0, false, []⟩,
    ⟨(some 48), (.load true 5 (.t 47)), none, 0, false, []⟩,
    ⟨(some 49), (.fad 21 (.t 11)), none, 0, false, []⟩,
    ⟨(some 50), (.load true 5 (.t 49)), none, 0, false, []⟩,
    ⟨(some 51), (.bslice 5 [(.t 36), (.t 37), (.t 38), (.t 40), (.t 42), (.t 44), (.t 46), (.t 48), (.t 50)]), none, 0, false, []⟩,
    ⟨(some 52), (.call 58 [(.c (.int .i64 23)), (.t 35), (.c (.int .i64 0)), (.c (.int .i64 20)), (.t 51)]), none, 0, false, []⟩,
    ⟨(some 53), (.call 34 [(.t 52)]), none, 0, false, []⟩,
    ⟨none, (.store 5 (.t 12) (.t 53)), none, 0, false, []⟩] false
def a132_7 : AC := .seq a132_6 .ret
def a132_8 : AC := .seq a132_5 a132_7
def a132_9 : AC := .seq a132_0 a132_8
def af132 : AF := { ntmps := 54, res := [(.cell 12 true 5)], body := a132_9 }
theorem tr132 : trF Tryz.prog Tryz.f132 = some af132 := by kernel_rfl
attribute [go_sem] af132 a132_0 a132_1 a132_2 a132_3 a132_4 a132_5 a132_6 a132_7 a132_8 a132_9
def a153_0 : AC := .reg [⟨(some 1), (.box (.t 0)), none, 0, false, []⟩,
    ⟨(some 2), (.mv (.c (.bool false))), none, 0, false, []⟩] false
def a153_1 : AC := .reg [⟨(some 3), (.fad 0 (.t 1)), none, 0, false, []⟩,
    ⟨(some 4), (.load false 1 (.t 3)), none, 0, false, []⟩,
    ⟨(some 5), (.call 146 [(.t 4)]), none, 0, false, []⟩,
    ⟨(some 6), (.mv (.t 5)), none, 0, false, []⟩,
    ⟨(some 7), (.fad 1 (.t 1)), (some (6, true)), 0, false, []⟩,
    ⟨(some 8), (.load false 1 (.t 7)), (some (6, true)), 0, false, []⟩,
    ⟨(some 9), (.call 146 [(.t 8)]), (some (6, true)), 0, false, []⟩,
    ⟨(some 10), (.pick (.t 6) (.t 9) (.c (.bool false))), none, 0, false, []⟩,
    ⟨(some 11), (.mv (.t 10)), none, 0, false, []⟩,
    ⟨(some 12), (.fad 2 (.t 1)), (some (11, true)), 0, false, []⟩,
    ⟨(some 13), (.load true 5 (.t 12)), (some (11, true)), 0, false, []⟩,
    ⟨(some 14), (.fad 7 (.t 1)), (some (11, true)), 0, false, []⟩,
    ⟨(some 15), (.load true 5 (.t 14)), (some (11, true)), 0, false, []⟩,
    ⟨(some 16), (.fad 12 (.t 1)), (some (11, true)), 0, false, []⟩,
    ⟨(some 17), (.load true 5 (.t 16)), (some (11, true)), 0, false, []⟩,
    ⟨(some 18), (.fad 17 (.t 1)), (some (11, true)), 0, false, []⟩,
    ⟨(some 19), (.load true 5 (.t 18)), (some (11, true)), 0, false, []⟩,
    ⟨(some 20), (.fad 22 (.t 1)), (some (11, true)), 0, false, []⟩,
    ⟨(some 21), (.load true 5 (.t 20)), (some (11, true)), 0, false, []⟩,
    ⟨(some 22), (.fad 27 (.t 1)), (some (11, true)), 0, false, []⟩,
    ⟨(some 23), (.load true 5 (.t 22)), (some (11, true)), 0, false, []⟩,
    ⟨(some 24), (.bslice 5 [(.t 13), (.t 15), (.t 17), (.t 19), (.t 21), (.t 23)]), (some (11, true)), 0, false, []⟩,
    ⟨(some 25), (.call 147 [(.t 24)]), (some (11, true)), 0, false, []⟩,
    ⟨(some 26), (.pick (.t 11) (.t 25) (.c (.bool false))), none, 0, false, []⟩,
    ⟨(some 2), (.mv (.t 26)), none, 0, false, []⟩] false
def a153_2 : AC := .seq a153_1 .ret
def a153_3 : AC := .seq a153_0 a153_2
def af153 : AF := { ntmps := 27, res := [(.t 2)], body := a153_3 }
theorem tr153 : trF Tryz.prog Tryz.f153 = some af153 := by kernel_rfl
attribute [go_sem] af153 a153_0 a153_1 a153_2 a153_3
def a154_0 : AC := .reg [⟨(some 3), (.box (.t 0)), none, 0, false, []⟩,
    ⟨(some 6), (.new [(.int .i64 0), (.int .i64 0), (.int .i64 0), (.int .i64 0), .nils]), none, 0, false, []⟩] false
def a154_1 : AC := .reg [⟨(some 8), (.fad 2 (.t 3)), none, 0, false, []⟩,
    ⟨(some 9), (.load true 5 (.t 8)), none, 1, true, []⟩,
    ⟨(some 10), (.fad 7 (.t 3)), none, 2, false, []⟩,
    ⟨(some 11), (.load true 5 (.t 10)), none, 3, true, []⟩,
    ⟨(some 12), (.fad 22 (.t 3)), none, 4, false, []⟩,
    ⟨(some 13), (.load true 5 (.t 12)), none, 5, true, []⟩,
    ⟨(some 14), (.fad 2 (.t 3)), none, 6, false, []⟩,
    ⟨(some 15), (.load true 5 (.t 14)), none, 7, false, []⟩,
    ⟨(some 16), (.fad 12 (.t 3)), none, 8, false, []⟩,
    ⟨(some 17), (.load true 5 (.t 16)), none, 9, false, []⟩,
    ⟨(some 18), (.call 155 [(.t 15), (.t 17)]), none, 10, true, [1, 3, 5]⟩,
    ⟨(some 19), (.fad 7 (.t 3)), none, 11, false, []⟩,
    ⟨(some 20), (.load true 5 (.t 19)), none, 12, false, [10]⟩,
    ⟨(some 21), (.fad 17 (.t 3)), none, 13, false, []⟩,
    ⟨(some 22), (.load true 5 (.t 21)), none, 14, false, [10]⟩,
    ⟨(some 23), (.call 155 [(.t 20), (.t 22)]), none, 15, true, [1, 3, 5]⟩,
    ⟨(some 24), (.fad 27 (.t 3)), none, 16, false, []⟩,
    ⟨(some 25), (.load true 5 (.t 24)), none, 17, false, [10, 15]⟩,
    ⟨(some 26), (.bslice 5 [(.t 9), (.t 11), (.t 13), (.t 18), (.t 23), (.t 25)]), none, 18, false, []⟩,
    ⟨(some 27), (.mv (.t 2)), none, 19, false, []⟩,
    ⟨(some 28), (.app 5 56 (.t 26) (.t 27)), none, 20, false, []⟩,
    ⟨(some 7), (.mv (.t 28)), none, 21, false, []⟩] true
def a154_2 : AC := .reg [⟨(some 29), (.fad 0 (.t 3)), none, 0, false, []⟩,
    ⟨(some 30), (.load false 1 (.t 29)), none, 0, false, []⟩,
    ⟨(some 31), (.fad 1 (.t 3)), none, 0, false, []⟩,
    ⟨(some 32), (.load false 1 (.t 31)), none, 0, false, []⟩,
    ⟨(some 33), (.mv (.t 1)), none, 0, false, []⟩,
    ⟨(some 34), (.mv (.t 7)), none, 0, false, []⟩,
    ⟨(some 35), (.call 58 [(.c (.int .i64 23)), (.t 30), (.t 32), (.t 33), (.t 34)]), none, 0, false, []⟩,
    ⟨none, (.store 5 (.t 6) (.t 35)), none, 0, false, []⟩] false
def a154_3 : AC := .seq a154_2 .ret
def a154_4 : AC := .seq a154_1 a154_3
def a154_5 : AC := .seq a154_0 a154_4
def af154 : AF := { ntmps := 36, res := [(.cell 6 true 5)], body := a154_5 }
theorem tr154 : trF Tryz.prog Tryz.f154 = some af154 := by kernel_rfl
attribute [go_sem] af154 a154_0 a154_1 a154_2 a154_3 a154_4 a154_5
def a147_0 : AC := .reg [⟨(some 2), (.mv (.c (.bool false))), none, 0, false, []⟩] false
def a147_1 : AC := .reg [⟨(some 5), (.mv (.t 0)), none, 0, false, []⟩,
    ⟨(some 6), (.len false (.t 5)), none, 0, false, []⟩,
    ⟨(some 7), (.mv (.c (.int .i64 0))), none, 0, false, []⟩] false
def a147_2 : AC := .reg [⟨(some 8), (.bin 0 .lss (.t 7) (.t 6)), none, 0, false, []⟩] false
def a147_3 : AC := .cond (.t 8) .skip (.exit 0)
def a147_4 : AC := .reg [⟨(some 9), (.iad 5 (.t 5) (.t 7)), none, 0, false, []⟩,
    ⟨(some 10), (.load true 5 (.t 9)), none, 0, false, []⟩,
    ⟨(some 4), (.new [(.int .i64 0), (.int .i64 0), (.int .i64 0), (.int .i64 0), .nils]), none, 0, false, []⟩,
    ⟨none, (.store 5 (.t 4) (.t 10)), none, 0, false, []⟩] false
def a147_5 : AC := .reg [⟨(some 11), (.load true 5 (.t 4)), none, 0, false, []⟩,
    ⟨(some 12), (.call 117 [(.t 11)]), none, 0, false, []⟩,
    ⟨(some 13), (.un .not (.t 12)), none, 0, false, []⟩] false
def a147_6 : AC := .reg [⟨(some 2), (.mv (.c (.bool false))), none, 0, false, []⟩] false
def a147_7 : AC := .seq a147_6 .ret
def a147_8 : AC := .cond (.t 13) a147_7 .skip
def a147_9 : AC := .seq a147_5 a147_8
def a147_10 : AC := .seq a147_4 a147_9
def a147_11 : AC := .blk 1 a147_10
def a147_12 : AC := .reg [⟨(some 14), (.bin 0 .add (.t 7) (.c (.int .i64 1))), none, 0, false, []⟩,
    ⟨(some 7), (.mv (.t 14)), none, 0, false, []⟩] false
def a147_13 : AC := .seq a147_11 a147_12
def a147_14 : AC := .seq a147_3 a147_13
def a147_15 : AC := .seq a147_2 a147_14
def a147_16 : AC := .loop a147_15
def a147_17 : AC := .blk 0 a147_16
def a147_18 : AC := .seq a147_1 a147_17
def a147_19 : AC := .reg [⟨(some 2), (.mv (.c (.bool true))), none, 0, false, []⟩] false
def a147_20 : AC := .seq a147_19 .ret
def a147_21 : AC := .seq a147_18 a147_20
def a147_22 : AC := .seq a147_0 a147_21
def af147 : AF := { ntmps := 15, res := [(.t 2)], body := a147_22 }
theorem tr147 : trF Tryz.prog Tryz.f147 = some af147 := by kernel_rfl
attribute [go_sem] af147 a147_0 a147_1 a147_2 a147_3 a147_4 a147_5 a147_6 a147_7 a147_8 a147_9 a147_10 a147_11 a147_12 a147_13 a147_14 a147_15 a147_16 a147_17 a147_18 a147_19 a147_20 a147_21 a147_22
def a155_0 : AC := .reg [⟨(some 2), (.box (.t 0)), none, 0, false, []⟩,
    ⟨(some 3), (.box (.t 1)), none, 0, false, []⟩,
    ⟨(some 4), (.new [(.int .i64 0), (.int .i64 0), (.int .i64 0), (.int .i64 0), .nils]), none, 0, false, []⟩] false
def a155_1 : AC := .reg [⟨(some 5), (.load true 5 (.t 2)), none, 0, false, []⟩,
    ⟨(some 6), (.load true 5 (.t 3)), none, 0, false, []⟩,
    ⟨(some 7), (.bslice 5 [(.t 5), (.t 6)]), none, 0, false, []⟩,
    ⟨(some 8), (.call 58 [(.c (.int .i64 14)), (.c (.int .i64 0)), (.c (.int .i64 0)), (.c (.int .i64 0)), (.t 7)]), none, 0, false, []⟩,
    ⟨none, (.store 5 (.t 4) (.t 8)), none, 0, false, []⟩] false
def a155_2 : AC := .seq a155_1 .ret
def a155_3 : AC := .seq a155_0 a155_2
def af155 : AF := { ntmps := 9, res := [(.cell 4 true 5)], body := a155_3 }
theorem tr155 : trF Tryz.prog Tryz.f155 = some af155 := by kernel_rfl
attribute [go_sem] af155 a155_0 a155_1 a155_2 a155_3
def a151_0 : AC := .reg [⟨(some 7), (.box (.t 1)), none, 0, false, []⟩,
    ⟨(some 8), (.box (.t 2)), none, 0, false, []⟩,
    ⟨(some 9), (.box (.t 3)), none, 0, false, []⟩,
    ⟨(some 10), (.box (.t 4)), none, 0, false, []⟩,
    ⟨(some 11), (.box (.t 5)), none, 0, false, []⟩,
    ⟨(some 12), (.new [(.int .i64 0), (.int .i64 0), (.int .i64 0), (.int .i64 0), (.int .i64 0), .nils, (.int .i64 0), (.int .i64 0), (.int .i64 0), (.int .i64 0), .nils, (.int .i64 0), (.int .i64 0), (.int .i64 0), (.int .i64 0), .nils, (.int .i64 0), (.int .i64 0), (.int .i64 0), (.int .i64 0), .nils, (.int .i64 0), (.int .i64 0), (.int .i64 0), (.int .i64 0), .nils]), none, 0, false, []⟩] false
def a151_1 : AC := .reg [⟨(some 13), (.mv (.t 0)), none, 0, false, []⟩,
    ⟨(some 14), (.load true 5 (.t 7)), none, 1, false, []⟩,
    ⟨(some 15), (.call 34 [(.t 14)]), none, 2, true, []⟩,
    ⟨(some 16), (.load true 5 (.t 8)), none, 3, false, [2]⟩,
    ⟨(some 17), (.call 34 [(.t 16)]), none, 4, true, []⟩,
    ⟨(some 18), (.load true 5 (.t 9)), none, 5, false, [2, 4]⟩,
    ⟨(some 19), (.call 34 [(.t 18)]), none, 6, true, []⟩,
    ⟨(some 20), (.load true 5 (.t 10)), none, 7, false, [2, 4, 6]⟩,
    ⟨(some 21), (.call 34 [(.t 20)]), none, 8, true, []⟩,
    ⟨(some 22), (.load true 5 (.t 11)), none, 9, false, [2, 4, 6, 8]⟩,
    ⟨(some 23), (.call 34 [(.t 22)]), none, 10, false, []⟩,
    ⟨(some 24), (.build [(.int .i64 0), (.int .i64 0), (.int .i64 0), (.int .i64 0), (.int .i64 0), .nils, (.int .i64 0), (.int .i64 0), (.int .i64 0), (.int .i64 0), .nils, (.int .i64 0), (.int .i64 0), (.int .i64 0), (.int .i64 0), .nils, (.int .i64 0), (.int .i64 0), (.int .i64 0), (.int .i64 0), .nils, (.int .i64 0), (.int .i64 0), (.int .i64 0), (.int .i64 0), .nils] [(0, (1, (.t 13))), (1, (5, (.t 15))), (6, (5, (.t 17))), (11, (5, (.t 19))), (16, (5, (.t 21))), (21, (5, (.t 23)))]), none, 11, false, []⟩,
    ⟨none, (.store 26 (.t 12) (.t 24)), none, 12, false, []⟩] true
def a151_2 : AC := .seq a151_1 .ret
def a151_3 : AC := .seq a151_0 a151_2
def af151 : AF := { ntmps := 25, res := [(.cell 12 true 26)], body := a151_3 }
theorem tr151 : trF Tryz.prog Tryz.f151 = some af151 := by kernel_rfl
attribute [go_sem] af151 a151_0 a151_1 a151_2 a151_3
def a156_0 : AC := .reg [⟨(some 2), (.box (.t 0)), none, 0, false, []⟩,
    ⟨(some 3), (.box (.t 1)), none, 0, false, []⟩,
    ⟨(some 4), (.new [(.int .i64 0), (.int .i64 0), (.int .i64 0), (.int .i64 0), .nils]), none, 0, false, []⟩] false
def a156_1 : AC := .reg [⟨(some 5), (.load true 5 (.t 2)), none, 0, false, []⟩,
    ⟨(some 6), (.load true 5 (.t 3)), none, 0, false, []⟩,
    ⟨(some 7), (.bslice 5 [(.t 5), (.t 6)]), none, 0, false, []⟩,
    ⟨(some 8), (.call 58 [(.c (.int .i64 13)), (.c (.int .i64 0)), (.c (.int .i64 0)), (.c (.int .i64 0)), (.t 7)]), none, 0, false, []⟩,
    ⟨none, (.store 5 (.t 4) (.t 8)), none, 0, false, []⟩] false
def a156_2 : AC := .seq a156_1 .ret
def a156_3 : AC := .seq a156_0 a156_2
def af156 : AF := { ntmps := 9, res := [(.cell 4 true 5)], body := a156_3 }
theorem tr156 : trF Tryz.prog Tryz.f156 = some af156 := by kernel_rfl
attribute [go_sem] af156 a156_0 a156_1 a156_2 a156_3
def a146_0 : AC := .reg [⟨(some 2), (.mv (.c (.bool false))), none, 0, false, []⟩] false
def a146_1 : AC := .reg [⟨(some 3), (.mv (.t 0)), none, 0, false, []⟩,
    ⟨(some 4), (.bin 0 .geq (.t 3) (.c (.int .i64 0))), none, 0, false, []⟩,
    ⟨(some 5), (.mv (.t 4)), none, 0, false, []⟩,
    ⟨(some 6), (.mv (.t 0)), (some (5, true)), 0, false, []⟩,
    ⟨(some 7), (.bin 0 .leq (.t 6) (.c (.int .i64 997))), (some (5, true)), 0, false, []⟩,
    ⟨(some 8), (.pick (.t 5) (.t 7) (.c (.bool false))), none, 0, false, []⟩,
    ⟨(some 2), (.mv (.t 8)), none, 0, false, []⟩] false
def a146_2 : AC := .seq a146_1 .ret
def a146_3 : AC := .seq a146_0 a146_2
def af146 : AF := { ntmps := 9, res := [(.t 2)], body := a146_3 }
theorem tr146 : trF Tryz.prog Tryz.f146 = some af146 := by kernel_rfl
attribute [go_sem] af146 a146_0 a146_1 a146_2 a146_3
def a148_0 : AC := .reg [⟨(some 1), (.box (.t 0)), none, 0, false, []⟩,
    ⟨(some 2), (.mv (.c (.bool false))), none, 0, false, []⟩] false
def a148_1 : AC := .reg [⟨(some 3), (.fad 11 (.t 1)), none, 0, false, []⟩,
    ⟨(some 4), (.load true 5 (.t 3)), none, 0, false, []⟩,
    ⟨(some 5), (.fad 16 (.t 1)), none, 0, false, []⟩,
    ⟨(some 6), (.load true 5 (.t 5)), none, 0, false, []⟩,
    ⟨(some 7), (.fad 21 (.t 1)), none, 0, false, []⟩,
    ⟨(some 8), (.load true 5 (.t 7)), none, 0, false, []⟩,
    ⟨(some 9), (.bslice 5 [(.t 4), (.t 6), (.t 8)]), none, 0, false, []⟩,
    ⟨(some 10), (.call 147 [(.t 9)]), none, 0, false, []⟩,
    ⟨(some 2), (.mv (.t 10)), none, 0, false, []⟩] false
def a148_2 : AC := .seq a148_1 .ret
def a148_3 : AC := .seq a148_0 a148_2
def af148 : AF := { ntmps := 11, res := [(.t 2)], body := a148_3 }
theorem tr148 : trF Tryz.prog Tryz.f148 = some af148 := by kernel_rfl
attribute [go_sem] af148 a148_0 a148_1 a148_2 a148_3
def a159_0 : AC := .reg [⟨(some 2), (.box (.t 0)), none, 0, false, []⟩,
    ⟨(some 3), (.box (.t 1)), none, 0, false, []⟩,
    ⟨(some 4), (.new [(.int .i64 0), (.int .i64 0), (.int .i64 0), (.int .i64 0), .nils]), none, 0, false, []⟩] false
def a159_1 : AC := .reg [⟨(some 5), (.load true 5 (.t 2)), none, 0, false, []⟩,
    ⟨(some 6), (.load true 5 (.t 3)), none, 0, false, []⟩,
    ⟨(some 7), (.bslice 5 [(.t 5), (.t 6)]), none, 0, false, []⟩,
    ⟨(some 8), (.call 58 [(.c (.int .i64 16)), (.c (.int .i64 0)), (.c (.int .i64 0)), (.c (.int .i64 0)), (.t 7)]), none, 0, false, []⟩,
    ⟨none, (.store 5 (.t 4) (.t 8)), none, 0, false, []⟩] false
def a159_2 : AC := .seq a159_1 .ret
def a159_3 : AC := .seq a159_0 a159_2
def af159 : AF := { ntmps := 9, res := [(.cell 4 true 5)], body := a159_3 }
theorem tr159 : trF Tryz.prog Tryz.f159 = some af159 := by kernel_rfl
attribute [go_sem] af159 a159_0 a159_1 a159_2 a159_3
def a157_0 : AC := .reg [⟨(some 3), (.box (.t 1)), none, 0, false, []⟩,
    ⟨(some 4), (.new [(.int .i64 0), (.int .i64 0), (.int .i64 0), (.int .i64 0), .nils]), none, 0, false, []⟩] false
def a157_1 : AC := .reg [⟨(some 5), (.mv (.t 0)), none, 0, false, []⟩,
    ⟨(some 6), (.load true 5 (.t 3)), none, 0, false, []⟩,
    ⟨(some 7), (.bslice 5 [(.t 6)]), none, 0, false, []⟩,
    ⟨(some 8), (.call 58 [(.t 5), (.c (.int .i64 0)), (.c (.int .i64 0)), (.c (.int .i64 0)), (.t 7)]), none, 0, false, []⟩,
    ⟨none, (.store 5 (.t 4) (.t 8)), none, 0, false, []⟩] false
def a157_2 : AC := .seq a157_1 .ret
def a157_3 : AC := .seq a157_0 a157_2
def af157 : AF := { ntmps := 9, res := [(.cell 4 true 5)], body := a157_3 }
theorem tr157 : trF Tryz.prog Tryz.f157 = some af157 := by kernel_rfl
attribute [go_sem] af157 a157_0 a157_1 a157_2 a157_3
end Go.Proofs.YtkldipbhenabfaaGreat.Abs

