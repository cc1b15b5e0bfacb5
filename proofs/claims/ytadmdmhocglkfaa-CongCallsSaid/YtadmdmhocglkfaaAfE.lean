/- The abstract code of functions, printed by program; that it is the translation of the model's code is decided by the kernel. -/
import Derived.Test.YtadmdmhocglkfaaEv
import Derived.Test.YtadmdmhocglkfaaProg
import Derived.KernelRfl
namespace Go.Proofs.Ytadmdmhocglkfaa.Abs
open Go Go.Proofs Go.Proofs.Ytadmdmhocglkfaa
def a71_0 : AC := .reg [⟨(some 3), (.box (.t 0)), none, 0, false, []⟩,
    ⟨(some 4), (.box (.t 1)), none, 0, false, []⟩,
    ⟨(some 5), (.box (.t 2)), none, 0, false, []⟩,
    ⟨(some 6), (.new [(.int .i64 0), (.int .i64 0), (.int .i64 0), (.int .i64 0), (.int .i64 0), .nils, (.int .i64 0), (.int .i64 0), (.int .i64 0), (.int .i64 0), .nils, (.int .i64 0), (.int .i64 0), (.int .i64 0), (.int .i64 0), .nils, (.int .i64 0), (.int .i64 0), (.int .i64 0), (.int .i64 0), .nils, (.int .i64 0), (.int .i64 0), (.int .i64 0), (.int .i64 0), .nils]), none, 0, false, []⟩] false
def a71_1 : AC := .reg [⟨(some 9), (.load true 32 (.t 3)), none, 0, false, []⟩,
    ⟨(some 10), (.call 105 [(.t 9)]), none, 0, false, []⟩,
    ⟨(some 11), (.un .not (.t 10)), none, 0, false, []⟩,
    ⟨(some 12), (.mv (.t 11)), none, 0, false, []⟩,
    ⟨(some 13), (.load true 26 (.t 4)), (some (12, false)), 0, false, []⟩,
    ⟨(some 14), (.call 116 [(.t 13)]), (some (12, false)), 0, false, []⟩,
    ⟨(some 15), (.un .not (.t 14)), (some (12, false)), 0, false, []⟩,
    ⟨(some 16), (.pick (.t 12) (.c (.bool true)) (.t 15)), none, 0, false, []⟩,
    ⟨(some 17), (.mv (.t 16)), none, 0, false, []⟩,
    ⟨(some 18), (.load true 26 (.t 5)), (some (17, false)), 0, false, []⟩,
    ⟨(some 19), (.call 116 [(.t 18)]), (some (17, false)), 0, false, []⟩,
    ⟨(some 20), (.un .not (.t 19)), (some (17, false)), 0, false, []⟩,
    ⟨(some 21), (.pick (.t 17) (.c (.bool true)) (.t 20)), none, 0, false, []⟩] false
def a71_2 : AC := .reg [⟨(some 22), (.build [(.int .i64 0), (.int .i64 0), (.int .i64 0), (.int .i64 0), (.int .i64 0), .nils, (.int .i64 0), (.int .i64 0), (.int .i64 0), (.int .i64 0), .nils, (.int .i64 0), (.int .i64 0), (.int .i64 0), (.int .i64 0), .nils, (.int .i64 0), (.int .i64 0), (.int .i64 0), (.int .i64 0), .nils, (.int .i64 0), (.int .i64 0), (.int .i64 0), (.int .i64 0), .nils] []), none, 0, false, []⟩,
    ⟨none, (.store 26 (.t 6) (.t 22)), none, 0, false, []⟩] false
def a71_3 : AC := .seq a71_2 .ret
def a71_4 : AC := .cond (.t 21) a71_3 .skip
def a71_5 : AC := .seq a71_1 a71_4
def a71_6 : AC := .reg [⟨(some 23), (.fad 11 (.t 4)), none, 0, false, []⟩,
    ⟨(some 24), (.load true 5 (.t 23)), none, 1, true, []⟩,
    ⟨(some 25), (.fad 11 (.t 5)), none, 2, false, []⟩,
    ⟨(some 26), (.load true 5 (.t 25)), none, 3, true, []⟩,
    ⟨(some 27), (.bslice 5 [(.t 24), (.t 26)]), none, 4, true, []⟩,
    ⟨(some 28), (.call 97 [(.c (.int .i64 15)), (.c (.int .i64 0)), (.c (.int .i64 0)), (.c (.int .i64 0)), (.t 27)]), none, 5, true, []⟩,
    ⟨(some 29), (.fad 16 (.t 4)), none, 6, false, []⟩,
    ⟨(some 30), (.load true 5 (.t 29)), none, 7, true, [4, 5]⟩,
    ⟨(some 31), (.fad 16 (.t 5)), none, 8, false, []⟩,
    ⟨(some 32), (.load true 5 (.t 31)), none, 9, true, [4, 5]⟩,
    ⟨(some 33), (.bslice 5 [(.t 30), (.t 32)]), none, 10, true, [1, 3, 4, 5]⟩,
    ⟨(some 34), (.call 97 [(.c (.int .i64 15)), (.c (.int .i64 0)), (.c (.int .i64 0)), (.c (.int .i64 0)), (.t 33)]), none, 11, true, []⟩,
    ⟨(some 7), (.new [(.int .i64 0), (.int .i64 0), (.int .i64 0), (.int .i64 0), .nils]), none, 12, true, [1, 3, 4, 5, 7, 9, 10, 11]⟩,
    ⟨(some 8), (.new [(.int .i64 0), (.int .i64 0), (.int .i64 0), (.int .i64 0), .nils]), none, 13, false, [1, 3, 4, 5, 7, 9, 10, 11, 12]⟩,
    ⟨none, (.store 5 (.t 7) (.t 28)), none, 14, false, []⟩,
    ⟨none, (.store 5 (.t 8) (.t 34)), none, 15, false, []⟩] true
def a71_7 : AC := .reg [⟨(some 35), (.fad 1 (.t 3)), none, 0, false, []⟩,
    ⟨(some 36), (.load false 1 (.t 35)), none, 1, true, []⟩,
    ⟨(some 37), (.fad 12 (.t 3)), none, 2, false, []⟩,
    ⟨(some 38), (.load true 5 (.t 37)), none, 3, true, []⟩,
    ⟨(some 39), (.fad 11 (.t 5)), none, 4, false, []⟩,
    ⟨(some 40), (.load true 5 (.t 39)), none, 5, true, []⟩,
    ⟨(some 41), (.call 122 [(.t 38), (.t 40)]), none, 6, true, [1]⟩,
    ⟨(some 42), (.fad 17 (.t 3)), none, 7, false, []⟩,
    ⟨(some 43), (.load true 5 (.t 42)), none, 8, true, [6]⟩,
    ⟨(some 44), (.fad 16 (.t 5)), none, 9, false, []⟩,
    ⟨(some 45), (.load true 5 (.t 44)), none, 10, true, [6]⟩,
    ⟨(some 46), (.call 122 [(.t 43), (.t 45)]), none, 11, true, [1]⟩,
    ⟨(some 47), (.load true 5 (.t 7)), none, 12, true, [6, 11]⟩,
    ⟨(some 48), (.load true 5 (.t 8)), none, 13, true, [6, 11]⟩,
    ⟨(some 49), (.load true 32 (.t 3)), none, 14, true, [6, 11]⟩,
    ⟨(some 50), (.fad 11 (.t 4)), none, 15, false, []⟩,
    ⟨(some 51), (.load true 5 (.t 50)), none, 16, false, [6, 11]⟩,
    ⟨(some 52), (.fad 16 (.t 4)), none, 17, false, []⟩,
    ⟨(some 53), (.load true 5 (.t 52)), none, 18, false, [6, 11]⟩,
    ⟨(some 54), (.fad 21 (.t 4)), none, 19, false, []⟩,
    ⟨(some 55), (.load true 5 (.t 54)), none, 20, false, [6, 11]⟩,
    ⟨(some 56), (.fad 11 (.t 5)), none, 21, false, []⟩,
    ⟨(some 57), (.load true 5 (.t 56)), none, 22, false, [6, 11]⟩,
    ⟨(some 58), (.fad 16 (.t 5)), none, 23, false, []⟩,
    ⟨(some 59), (.load true 5 (.t 58)), none, 24, false, [6, 11]⟩,
    ⟨(some 60), (.fad 21 (.t 5)), none, 25, false, []⟩,
    ⟨(some 61), (.load true 5 (.t 60)), none, 26, false, [6, 11]⟩,
    ⟨(some 62), (.bslice 5 [(.t 51), (.t 53), (.t 55), (.t 57), (.t 59), (.t 61)]), none, 27, false, [1, 3, 5, 6, 8, 10, 11, 12, 13, 14]⟩,
    ⟨(some 63), (.call 106 [(.t 49), (.c (.int .i64 16)), (.t 62)]), none, 28, false, [1, 12, 13]⟩,
    ⟨(some 64), (.call 111 [(.t 36), (.t 41), (.t 46), (.t 47), (.t 48), (.t 63)]), none, 29, false, []⟩,
    ⟨none, (.store 26 (.t 6) (.t 64)), none, 30, false, []⟩] true
def a71_8 : AC := .seq a71_7 .ret
def a71_9 : AC := .seq a71_6 a71_8
def a71_10 : AC := .seq a71_5 a71_9
def a71_11 : AC := .seq a71_0 a71_10
def af71 : AF := { ntmps := 65, res := [(.cell 6 true 26)], body := a71_11 }
theorem tr71 : trF Try.prog Try.f71 = some af71 := by kernel_rfl
attribute [go_sem] af71 a71_0 a71_1 a71_2 a71_3 a71_4 a71_5 a71_6 a71_7 a71_8 a71_9 a71_10 a71_11
def a72_0 : AC := .reg [⟨(some 3), (.box (.t 0)), none, 0, false, []⟩,
    ⟨(some 4), (.box (.t 1)), none, 0, false, []⟩,
    ⟨(some 5), (.box (.t 2)), none, 0, false, []⟩,
    ⟨(some 6), (.new [(.int .i64 0), (.int .i64 0), (.int .i64 0), (.int .i64 0), (.int .i64 0), .nils, (.int .i64 0), (.int .i64 0), (.int .i64 0), (.int .i64 0), .nils, (.int .i64 0), (.int .i64 0), (.int .i64 0), (.int .i64 0), .nils, (.int .i64 0), (.int .i64 0), (.int .i64 0), (.int .i64 0), .nils, (.int .i64 0), (.int .i64 0), (.int .i64 0), (.int .i64 0), .nils]), none, 0, false, []⟩] false
def a72_1 : AC := .reg [⟨(some 7), (.load true 32 (.t 3)), none, 0, false, []⟩,
    ⟨(some 8), (.call 107 [(.t 7)]), none, 0, false, []⟩,
    ⟨(some 9), (.un .not (.t 8)), none, 0, false, []⟩,
    ⟨(some 10), (.mv (.t 9)), none, 0, false, []⟩,
    ⟨(some 11), (.load true 26 (.t 4)), (some (10, false)), 0, false, []⟩,
    ⟨(some 12), (.call 117 [(.t 11)]), (some (10, false)), 0, false, []⟩,
    ⟨(some 13), (.un .not (.t 12)), (some (10, false)), 0, false, []⟩,
    ⟨(some 14), (.pick (.t 10) (.c (.bool true)) (.t 13)), none, 0, false, []⟩,
    ⟨(some 15), (.mv (.t 14)), none, 0, false, []⟩,
    ⟨(some 16), (.load true 26 (.t 5)), (some (15, false)), 0, false, []⟩,
    ⟨(some 17), (.call 117 [(.t 16)]), (some (15, false)), 0, false, []⟩,
    ⟨(some 18), (.un .not (.t 17)), (some (15, false)), 0, false, []⟩,
    ⟨(some 19), (.pick (.t 15) (.c (.bool true)) (.t 18)), none, 0, false, []⟩] false
def a72_2 : AC := .reg [⟨(some 20), (.build [(.int .i64 0), (.int .i64 0), (.int .i64 0), (.int .i64 0), (.int .i64 0), .nils, (.int .i64 0), (.int .i64 0), (.int .i64 0), (.int .i64 0), .nils, (.int .i64 0), (.int .i64 0), (.int .i64 0), (.int .i64 0), .nils, (.int .i64 0), (.int .i64 0), (.int .i64 0), (.int .i64 0), .nils, (.int .i64 0), (.int .i64 0), (.int .i64 0), (.int .i64 0), .nils] []), none, 0, false, []⟩,
    ⟨none, (.store 26 (.t 6) (.t 20)), none, 0, false, []⟩] false
def a72_3 : AC := .seq a72_2 .ret
def a72_4 : AC := .cond (.t 19) a72_3 .skip
def a72_5 : AC := .seq a72_1 a72_4
def a72_6 : AC := .reg [⟨(some 21), (.fad 1 (.t 3)), none, 0, false, []⟩,
    ⟨(some 22), (.load false 1 (.t 21)), none, 1, true, []⟩,
    ⟨(some 23), (.fad 12 (.t 3)), none, 2, false, []⟩,
    ⟨(some 24), (.load true 5 (.t 23)), none, 3, true, []⟩,
    ⟨(some 25), (.fad 11 (.t 5)), none, 4, false, []⟩,
    ⟨(some 26), (.load true 5 (.t 25)), none, 5, true, []⟩,
    ⟨(some 27), (.call 123 [(.t 24), (.t 26)]), none, 6, true, [1]⟩,
    ⟨(some 28), (.fad 17 (.t 3)), none, 7, false, []⟩,
    ⟨(some 29), (.load true 5 (.t 28)), none, 8, true, [6]⟩,
    ⟨(some 30), (.fad 16 (.t 5)), none, 9, false, []⟩,
    ⟨(some 31), (.load true 5 (.t 30)), none, 10, true, [6]⟩,
    ⟨(some 32), (.call 123 [(.t 29), (.t 31)]), none, 11, true, [1]⟩,
    ⟨(some 33), (.fad 11 (.t 4)), none, 12, false, []⟩,
    ⟨(some 34), (.load true 5 (.t 33)), none, 13, true, [6, 11]⟩,
    ⟨(some 35), (.fad 11 (.t 5)), none, 14, false, []⟩,
    ⟨(some 36), (.load true 5 (.t 35)), none, 15, true, [6, 11]⟩,
    ⟨(some 37), (.bslice 5 [(.t 34), (.t 36)]), none, 16, true, [1, 3, 5, 6, 8, 10, 11]⟩,
    ⟨(some 38), (.call 94 [(.c (.int .i64 15)), (.t 37)]), none, 17, true, [1]⟩,
    ⟨(some 39), (.fad 16 (.t 4)), none, 18, false, []⟩,
    ⟨(some 40), (.load true 5 (.t 39)), none, 19, true, [6, 11, 16, 17]⟩,
    ⟨(some 41), (.fad 16 (.t 5)), none, 20, false, []⟩,
    ⟨(some 42), (.load true 5 (.t 41)), none, 21, true, [6, 11, 16, 17]⟩,
    ⟨(some 43), (.bslice 5 [(.t 40), (.t 42)]), none, 22, true, [1, 3, 5, 6, 8, 10, 11, 13, 15, 16, 17]⟩,
    ⟨(some 44), (.call 94 [(.c (.int .i64 15)), (.t 43)]), none, 23, true, [1]⟩,
    ⟨(some 45), (.load true 32 (.t 3)), none, 24, true, [6, 11, 16, 17, 22, 23]⟩,
    ⟨(some 46), (.fad 11 (.t 4)), none, 25, false, []⟩,
    ⟨(some 47), (.load true 5 (.t 46)), none, 26, false, [6, 11, 16, 17, 22, 23]⟩,
    ⟨(some 48), (.fad 16 (.t 4)), none, 27, false, []⟩,
    ⟨(some 49), (.load true 5 (.t 48)), none, 28, false, [6, 11, 16, 17, 22, 23]⟩,
    ⟨(some 50), (.fad 21 (.t 4)), none, 29, false, []⟩,
    ⟨(some 51), (.load true 5 (.t 50)), none, 30, false, [6, 11, 16, 17, 22, 23]⟩,
    ⟨(some 52), (.fad 11 (.t 5)), none, 31, false, []⟩,
    ⟨(some 53), (.load true 5 (.t 52)), none, 32, false, [6, 11, 16, 17, 22, 23]⟩,
    ⟨(some 54), (.fad 16 (.t 5)), none, 33, false, []⟩,
    ⟨(some 55), (.load true 5 (.t 54)), none, 34, false, [6, 11, 16, 17, 22, 23]⟩,
    ⟨(some 56), (.fad 21 (.t 5)), none, 35, false, []⟩,
    ⟨(some 57), (.load true 5 (.t 56)), none, 36, false, [6, 11, 16, 17, 22, 23]⟩,
    ⟨(some 58), (.bslice 5 [(.t 47), (.t 49), (.t 51), (.t 53), (.t 55), (.t 57)]), none, 37, false, [1, 3, 5, 6, 8, 10, 11, 13, 15, 16, 17, 19, 21, 22, 23, 24]⟩,
    ⟨(some 59), (.call 108 [(.c (.int .i64 16)), (.t 45), (.t 58)]), none, 38, false, [1]⟩,
    ⟨(some 60), (.build [(.int .i64 0), (.int .i64 0), (.int .i64 0), (.int .i64 0), (.int .i64 0), .nils, (.int .i64 0), (.int .i64 0), (.int .i64 0), (.int .i64 0), .nils, (.int .i64 0), (.int .i64 0), (.int .i64 0), (.int .i64 0), .nils, (.int .i64 0), (.int .i64 0), (.int .i64 0), (.int .i64 0), .nils, (.int .i64 0), (.int .i64 0), (.int .i64 0), (.int .i64 0), .nils] [(0, (1, (.t 22))), (1, (5, (.t 27))), (6, (5, (.t 32))), (11, (5, (.t 38))), (16, (5, (.t 44))), (21, (5, (.t 59)))]), none, 39, false, []⟩,
    ⟨none, (.store 26 (.t 6) (.t 60)), none, 40, false, []⟩] true
def a72_7 : AC := .seq a72_6 .ret
def a72_8 : AC := .seq a72_5 a72_7
def a72_9 : AC := .seq a72_0 a72_8
def af72 : AF := { ntmps := 61, res := [(.cell 6 true 26)], body := a72_9 }
theorem tr72 : trF Try.prog Try.f72 = some af72 := by kernel_rfl
attribute [go_sem] af72 a72_0 a72_1 a72_2 a72_3 a72_4 a72_5 a72_6 a72_7 a72_8 a72_9
def a73_0 : AC := .reg [⟨(some 3), (.box (.t 0)), none, 0, false, []⟩,
    ⟨(some 4), (.box (.t 1)), none, 0, false, []⟩,
    ⟨(some 5), (.box (.t 2)), none, 0, false, []⟩,
    ⟨(some 6), (.new [(.int .i64 0), (.int .i64 0), (.int .i64 0), (.int .i64 0), (.int .i64 0), .nils, (.int .i64 0), (.int .i64 0), (.int .i64 0), (.int .i64 0), .nils, (.int .i64 0), (.int .i64 0), (.int .i64 0), (.int .i64 0), .nils, (.int .i64 0), (.int .i64 0), (.int .i64 0), (.int .i64 0), .nils, (.int .i64 0), (.int .i64 0), (.int .i64 0), (.int .i64 0), .nils]), none, 0, false, []⟩] false
def a73_1 : AC := .reg [⟨(some 9), (.load true 32 (.t 3)), none, 0, false, []⟩,
    ⟨(some 10), (.call 105 [(.t 9)]), none, 0, false, []⟩,
    ⟨(some 11), (.un .not (.t 10)), none, 0, false, []⟩,
    ⟨(some 12), (.mv (.t 11)), none, 0, false, []⟩,
    ⟨(some 13), (.load true 26 (.t 5)), (some (12, false)), 0, false, []⟩,
    ⟨(some 14), (.call 116 [(.t 13)]), (some (12, false)), 0, false, []⟩,
    ⟨(some 15), (.un .not (.t 14)), (some (12, false)), 0, false, []⟩,
    ⟨(some 16), (.pick (.t 12) (.c (.bool true)) (.t 15)), none, 0, false, []⟩,
    ⟨(some 17), (.mv (.t 16)), none, 0, false, []⟩,
    ⟨(some 18), (.load true 26 (.t 4)), (some (17, false)), 0, false, []⟩,
    ⟨(some 19), (.call 116 [(.t 18)]), (some (17, false)), 0, false, []⟩,
    ⟨(some 20), (.un .not (.t 19)), (some (17, false)), 0, false, []⟩,
    ⟨(some 21), (.pick (.t 17) (.c (.bool true)) (.t 20)), none, 0, false, []⟩] false
def a73_2 : AC := .reg [⟨(some 22), (.build [(.int .i64 0), (.int .i64 0), (.int .i64 0), (.int .i64 0), (.int .i64 0), .nils, (.int .i64 0), (.int .i64 0), (.int .i64 0), (.int .i64 0), .nils, (.int .i64 0), (.int .i64 0), (.int .i64 0), (.int .i64 0), .nils, (.int .i64 0), (.int .i64 0), (.int .i64 0), (.int .i64 0), .nils, (.int .i64 0), (.int .i64 0), (.int .i64 0), (.int .i64 0), .nils] []), none, 0, false, []⟩,
    ⟨none, (.store 26 (.t 6) (.t 22)), none, 0, false, []⟩] false
def a73_3 : AC := .seq a73_2 .ret
def a73_4 : AC := .cond (.t 21) a73_3 .skip
def a73_5 : AC := .seq a73_1 a73_4
def a73_6 : AC := .reg [⟨(some 23), (.fad 2 (.t 3)), none, 0, false, []⟩,
    ⟨(some 24), (.load true 5 (.t 23)), none, 1, true, []⟩,
    ⟨(some 25), (.fad 12 (.t 3)), none, 2, false, []⟩,
    ⟨(some 26), (.load true 5 (.t 25)), none, 3, true, []⟩,
    ⟨(some 27), (.fad 11 (.t 4)), none, 4, false, []⟩,
    ⟨(some 28), (.load true 5 (.t 27)), none, 5, true, []⟩,
    ⟨(some 29), (.fad 11 (.t 5)), none, 6, false, []⟩,
    ⟨(some 30), (.load true 5 (.t 29)), none, 7, true, []⟩,
    ⟨(some 31), (.bslice 5 [(.t 24), (.t 26), (.t 28), (.t 30)]), none, 8, true, []⟩,
    ⟨(some 32), (.call 97 [(.c (.int .i64 17)), (.c (.int .i64 0)), (.c (.int .i64 0)), (.c (.int .i64 0)), (.t 31)]), none, 9, true, []⟩,
    ⟨(some 33), (.fad 7 (.t 3)), none, 10, false, []⟩,
    ⟨(some 34), (.load true 5 (.t 33)), none, 11, true, [8, 9]⟩,
    ⟨(some 35), (.fad 17 (.t 3)), none, 12, false, []⟩,
    ⟨(some 36), (.load true 5 (.t 35)), none, 13, true, [8, 9]⟩,
    ⟨(some 37), (.fad 16 (.t 4)), none, 14, false, []⟩,
    ⟨(some 38), (.load true 5 (.t 37)), none, 15, true, [8, 9]⟩,
    ⟨(some 39), (.fad 16 (.t 5)), none, 16, false, []⟩,
    ⟨(some 40), (.load true 5 (.t 39)), none, 17, true, [8, 9]⟩,
    ⟨(some 41), (.bslice 5 [(.t 34), (.t 36), (.t 38), (.t 40)]), none, 18, true, [1, 3, 5, 7, 8, 9]⟩,
    ⟨(some 42), (.call 97 [(.c (.int .i64 17)), (.c (.int .i64 0)), (.c (.int .i64 0)), (.c (.int .i64 0)), (.t 41)]), none, 19, true, []⟩,
    ⟨(some 7), (.new [(.int .i64 0), (.int .i64 0), (.int .i64 0), (.int .i64 0), .nils]), none, 20, true, [1, 3, 5, 7, 8, 9, 11, 13, 15, 17, 18, 19]⟩,
    ⟨(some 8), (.new [(.int .i64 0), (.int .i64 0), (.int .i64 0), (.int .i64 0), .nils]), none, 21, false, [1, 3, 5, 7, 8, 9, 11, 13, 15, 17, 18, 19, 20]⟩,
    ⟨none, (.store 5 (.t 7) (.t 32)), none, 22, false, []⟩,
    ⟨none, (.store 5 (.t 8) (.t 42)), none, 23, false, []⟩] true
def a73_7 : AC := .reg [⟨(some 43), (.fad 0 (.t 3)), none, 0, false, []⟩,
    ⟨(some 44), (.load false 1 (.t 43)), none, 1, true, []⟩,
    ⟨(some 45), (.fad 1 (.t 3)), none, 2, false, []⟩,
    ⟨(some 46), (.load false 1 (.t 45)), none, 3, true, []⟩,
    ⟨(some 47), (.mnx true (.t 44) (.t 46)), none, 4, false, []⟩,
    ⟨(some 48), (.fad 2 (.t 3)), none, 5, false, []⟩,
    ⟨(some 49), (.load true 5 (.t 48)), none, 6, true, []⟩,
    ⟨(some 50), (.fad 12 (.t 3)), none, 7, false, []⟩,
    ⟨(some 51), (.load true 5 (.t 50)), none, 8, true, []⟩,
    ⟨(some 52), (.call 124 [(.t 49), (.t 51)]), none, 9, true, [1, 3]⟩,
    ⟨(some 53), (.fad 7 (.t 3)), none, 10, false, []⟩,
    ⟨(some 54), (.load true 5 (.t 53)), none, 11, true, [9]⟩,
    ⟨(some 55), (.fad 17 (.t 3)), none, 12, false, []⟩,
    ⟨(some 56), (.load true 5 (.t 55)), none, 13, true, [9]⟩,
    ⟨(some 57), (.call 124 [(.t 54), (.t 56)]), none, 14, true, [1, 3]⟩,
    ⟨(some 58), (.load true 5 (.t 7)), none, 15, true, [9, 14]⟩,
    ⟨(some 59), (.load true 5 (.t 8)), none, 16, true, [9, 14]⟩,
    ⟨(some 60), (.load true 32 (.t 3)), none, 17, true, [9, 14]⟩,
    ⟨(some 61), (.fad 11 (.t 4)), none, 18, false, []⟩,
    ⟨(some 62), (.load true 5 (.t 61)), none, 19, false, [9, 14]⟩,
    ⟨(some 63), (.fad 16 (.t 4)), none, 20, false, []⟩,
    ⟨(some 64), (.load true 5 (.t 63)), none, 21, false, [9, 14]⟩,
    ⟨(some 65), (.fad 21 (.t 4)), none, 22, false, []⟩,
    ⟨(some 66), (.load true 5 (.t 65)), none, 23, false, [9, 14]⟩,
    ⟨(some 67), (.fad 11 (.t 5)), none, 24, false, []⟩,
    ⟨(some 68), (.load true 5 (.t 67)), none, 25, false, [9, 14]⟩,
    ⟨(some 69), (.fad 16 (.t 5)), none, 26, false, []⟩,
    ⟨(some 70), (.load true 5 (.t 69)), none, 27, false, [9, 14]⟩,
    ⟨(some 71), (.fad 21 (.t 5)), none, 28, false, []⟩,
    ⟨(some 72), (.load true 5 (.t 71)), none, 29, false, [9, 14]⟩,
    ⟨(some 73), (.bslice 5 [(.t 62), (.t 64), (.t 66), (.t 68), (.t 70), (.t 72)]), none, 30, false, [1, 3, 6, 8, 9, 11, 13, 14, 15, 16, 17]⟩,
    ⟨(some 74), (.call 106 [(.t 60), (.c (.int .i64 17)), (.t 73)]), none, 31, false, [1, 3, 15, 16]⟩,
    ⟨(some 75), (.call 111 [(.t 47), (.t 52), (.t 57), (.t 58), (.t 59), (.t 74)]), none, 32, false, []⟩,
    ⟨none, (.store 26 (.t 6) (.t 75)), none, 33, false, []⟩] true
def a73_8 : AC := .seq a73_7 .ret
def a73_9 : AC := .seq a73_6 a73_8
def a73_10 : AC := .seq a73_5 a73_9
def a73_11 : AC := .seq a73_0 a73_10
def af73 : AF := { ntmps := 76, res := [(.cell 6 true 26)], body := a73_11 }
theorem tr73 : trF Try.prog Try.f73 = some af73 := by kernel_rfl
attribute [go_sem] af73 a73_0 a73_1 a73_2 a73_3 a73_4 a73_5 a73_6 a73_7 a73_8 a73_9 a73_10 a73_11
def a74_0 : AC := .reg [⟨(some 3), (.box (.t 0)), none, 0, false, []⟩,
    ⟨(some 4), (.box (.t 1)), none, 0, false, []⟩,
    ⟨(some 5), (.box (.t 2)), none, 0, false, []⟩,
    ⟨(some 6), (.new [(.int .i64 0), (.int .i64 0), (.int .i64 0), (.int .i64 0), (.int .i64 0), .nils, (.int .i64 0), (.int .i64 0), (.int .i64 0), (.int .i64 0), .nils, (.int .i64 0), (.int .i64 0), (.int .i64 0), (.int .i64 0), .nils, (.int .i64 0), (.int .i64 0), (.int .i64 0), (.int .i64 0), .nils, (.int .i64 0), (.int .i64 0), (.int .i64 0), (.int .i64 0), .nils]), none, 0, false, []⟩] false
def a74_1 : AC := .reg [⟨(some 7), (.load true 32 (.t 3)), none, 0, false, []⟩,
    ⟨(some 8), (.call 107 [(.t 7)]), none, 0, false, []⟩,
    ⟨(some 9), (.un .not (.t 8)), none, 0, false, []⟩,
    ⟨(some 10), (.mv (.t 9)), none, 0, false, []⟩,
    ⟨(some 11), (.load true 26 (.t 5)), (some (10, false)), 0, false, []⟩,
    ⟨(some 12), (.call 117 [(.t 11)]), (some (10, false)), 0, false, []⟩,
    ⟨(some 13), (.un .not (.t 12)), (some (10, false)), 0, false, []⟩,
    ⟨(some 14), (.pick (.t 10) (.c (.bool true)) (.t 13)), none, 0, false, []⟩,
    ⟨(some 15), (.mv (.t 14)), none, 0, false, []⟩,
    ⟨(some 16), (.load true 26 (.t 4)), (some (15, false)), 0, false, []⟩,
    ⟨(some 17), (.call 117 [(.t 16)]), (some (15, false)), 0, false, []⟩,
    ⟨(some 18), (.un .not (.t 17)), (some (15, false)), 0, false, []⟩,
    ⟨(some 19), (.pick (.t 15) (.c (.bool true)) (.t 18)), none, 0, false, []⟩] false
def a74_2 : AC := .reg [⟨(some 20), (.build [(.int .i64 0), (.int .i64 0), (.int .i64 0), (.int .i64 0), (.int .i64 0), .nils, (.int .i64 0), (.int .i64 0), (.int .i64 0), (.int .i64 0), .nils, (.int .i64 0), (.int .i64 0), (.int .i64 0), (.int .i64 0), .nils, (.int .i64 0), (.int .i64 0), (.int .i64 0), (.int .i64 0), .nils, (.int .i64 0), (.int .i64 0), (.int .i64 0), (.int .i64 0), .nils] []), none, 0, false, []⟩,
    ⟨none, (.store 26 (.t 6) (.t 20)), none, 0, false, []⟩] false
def a74_3 : AC := .seq a74_2 .ret
def a74_4 : AC := .cond (.t 19) a74_3 .skip
def a74_5 : AC := .seq a74_1 a74_4
def a74_6 : AC := .reg [⟨(some 21), (.fad 0 (.t 3)), none, 0, false, []⟩,
    ⟨(some 22), (.load false 1 (.t 21)), none, 1, true, []⟩,
    ⟨(some 23), (.fad 1 (.t 3)), none, 2, false, []⟩,
    ⟨(some 24), (.load false 1 (.t 23)), none, 3, true, []⟩,
    ⟨(some 25), (.mnx true (.t 22) (.t 24)), none, 4, false, []⟩,
    ⟨(some 26), (.fad 2 (.t 3)), none, 5, false, []⟩,
    ⟨(some 27), (.load true 5 (.t 26)), none, 6, true, []⟩,
    ⟨(some 28), (.fad 12 (.t 3)), none, 7, false, []⟩,
    ⟨(some 29), (.load true 5 (.t 28)), none, 8, true, []⟩,
    ⟨(some 30), (.bslice 5 [(.t 27), (.t 29)]), none, 9, true, [1, 3]⟩,
    ⟨(some 31), (.call 94 [(.c (.int .i64 16)), (.t 30)]), none, 10, true, [1, 3]⟩,
    ⟨(some 32), (.fad 7 (.t 3)), none, 11, false, []⟩,
    ⟨(some 33), (.load true 5 (.t 32)), none, 12, true, [9, 10]⟩,
    ⟨(some 34), (.fad 17 (.t 3)), none, 13, false, []⟩,
    ⟨(some 35), (.load true 5 (.t 34)), none, 14, true, [9, 10]⟩,
    ⟨(some 36), (.bslice 5 [(.t 33), (.t 35)]), none, 15, true, [1, 3, 6, 8, 9, 10]⟩,
    ⟨(some 37), (.call 94 [(.c (.int .i64 16)), (.t 36)]), none, 16, true, [1, 3]⟩,
    ⟨(some 38), (.fad 2 (.t 3)), none, 17, false, []⟩,
    ⟨(some 39), (.load true 5 (.t 38)), none, 18, true, [9, 10, 15, 16]⟩,
    ⟨(some 40), (.fad 12 (.t 3)), none, 19, false, []⟩,
    ⟨(some 41), (.load true 5 (.t 40)), none, 20, true, [9, 10, 15, 16]⟩,
    ⟨(some 42), (.fad 11 (.t 4)), none, 21, false, []⟩,
    ⟨(some 43), (.load true 5 (.t 42)), none, 22, true, [9, 10, 15, 16]⟩,
    ⟨(some 44), (.fad 11 (.t 5)), none, 23, false, []⟩,
    ⟨(some 45), (.load true 5 (.t 44)), none, 24, true, [9, 10, 15, 16]⟩,
    ⟨(some 46), (.bslice 5 [(.t 39), (.t 41), (.t 43), (.t 45)]), none, 25, true, [1, 3, 6, 8, 9, 10, 12, 14, 15, 16]⟩,
    ⟨(some 47), (.call 94 [(.c (.int .i64 17)), (.t 46)]), none, 26, true, [1, 3]⟩,
    ⟨(some 48), (.fad 7 (.t 3)), none, 27, false, []⟩,
    ⟨(some 49), (.load true 5 (.t 48)), none, 28, true, [9, 10, 15, 16, 25, 26]⟩,
    ⟨(some 50), (.fad 17 (.t 3)), none, 29, false, []⟩,
    ⟨(some 51), (.load true 5 (.t 50)), none, 30, true, [9, 10, 15, 16, 25, 26]⟩,
    ⟨(some 52), (.fad 16 (.t 4)), none, 31, false, []⟩,
    ⟨(some 53), (.load true 5 (.t 52)), none, 32, true, [9, 10, 15, 16, 25, 26]⟩,
    ⟨(some 54), (.fad 16 (.t 5)), none, 33, false, []⟩,
    ⟨(some 55), (.load true 5 (.t 54)), none, 34, true, [9, 10, 15, 16, 25, 26]⟩,
    ⟨(some 56), (.bslice 5 [(.t 49), (.t 51), (.t 53), (.t 55)]), none, 35, true, [1, 3, 6, 8, 9, 10, 12, 14, 15, 16, 18, 20, 22, 24, 25, 26]⟩,
    ⟨(some 57), (.call 94 [(.c (.int .i64 17)), (.t 56)]), none, 36, true, [1, 3]⟩,
    ⟨(some 58), (.load true 32 (.t 3)), none, 37, true, [9, 10, 15, 16, 25, 26, 35, 36]⟩,
    ⟨(some 59), (.fad 11 (.t 4)), none, 38, false, []⟩,
    ⟨(some 60), (.load true 5 (.t 59)), none, 39, false, [9, 10, 15, 16, 25, 26, 35, 36]⟩,
    ⟨(some 61), (.fad 16 (.t 4)), none, 40, false, []⟩,
    ⟨(some 62), (.load true 5 (.t 61)), none, 41, false, [9, 10, 15, 16, 25, 26, 35, 36]⟩,
    ⟨(some 63), (.fad 21 (.t 4)), none, 42, false, []⟩,
    ⟨(some 64), (.load true 5 (.t 63)), none, 43, false, [9, 10, 15, 16, 25, 26, 35, 36]⟩,
    ⟨(some 65), (.fad 11 (.t 5)), none, 44, false, []⟩,
    ⟨(some 66), (.load true 5 (.t 65)), none, 45, false, [9, 10, 15, 16, 25, 26, 35, 36]⟩,
    ⟨(some 67), (.fad 16 (.t 5)), none, 46, false, []⟩,
    ⟨(some 68), (.load true 5 (.t 67)), none, 47, false, [9, 10, 15, 16, 25, 26, 35, 36]⟩,
    ⟨(some 69), (.fad 21 (.t 5)), none, 48, false, []⟩,
    ⟨(some 70), (.load true 5 (.t 69)), none, 49, false, [9, 10, 15, 16, 25, 26, 35, 36]⟩,
    ⟨(some 71), (.bslice 5 [(.t 60), (.t 62), (.t 64), (.t 66), (.t 68), (.t 70)]), none, 50, false, [1, 3, 6, 8, 9, 10, 12, 14, 15, 16, 18, 20, 22, 24, 25, 26, 28, 30, 32, 34, 35, 36, 37]⟩,
    ⟨(some 72), (.call 108 [(.c (.int .i64 17)), (.t 58), (.t 71)]), none, 51, false, [1, 3]⟩,
    ⟨(some 73), (.build [(.int .i64 0), (.int .i64 0), (.int .i64 0), (.int .i64 0), (.int .i64 0), .nils, (.int .i64 0), (.int .i64 0), (.int .i64 0), (.int .i64 0), .nils, (.int .i64 0), (.int .i64 0), (.int .i64 0), (.int .i64 0), .nils, (.int .i64 0), (.int .i64 0), (.int .i64 0), (.int .i64 0), .nils, (.int .i64 0), (.int .i64 0), (.int .i64 0), (.int .i64 0), .nils] [(0, (1, (.t 25))), (1, (5, (.t 31))), (6, (5, (.t 37))), (11, (5, (.t 47))), (16, (5, (.t 57))), (21, (5, (.t 72)))]), none, 52, false, []⟩,
    ⟨none, (.store 26 (.t 6) (.t 73)), none, 53, false, []⟩] true
def a74_7 : AC := .seq a74_6 .ret
def a74_8 : AC := .seq a74_5 a74_7
def a74_9 : AC := .seq a74_0 a74_8
def af74 : AF := { ntmps := 74, res := [(.cell 6 true 26)], body := a74_9 }
theorem tr74 : trF Try.prog Try.f74 = some af74 := by kernel_rfl
attribute [go_sem] af74 a74_0 a74_1 a74_2 a74_3 a74_4 a74_5 a74_6 a74_7 a74_8 a74_9
def a75_0 : AC := .reg [⟨(some 2), (.box (.t 0)), none, 0, false, []⟩,
    ⟨(some 3), (.box (.t 1)), none, 0, false, []⟩,
    ⟨(some 4), (.new [(.int .i64 0), (.int .i64 0), (.int .i64 0), (.int .i64 0), (.int .i64 0), .nils, (.int .i64 0), (.int .i64 0), (.int .i64 0), (.int .i64 0), .nils, (.int .i64 0), (.int .i64 0), (.int .i64 0), (.int .i64 0), .nils, (.int .i64 0), (.int .i64 0), (.int .i64 0), (.int .i64 0), .nils, (.int .i64 0), (.int .i64 0), (.int .i64 0), (.int .i64 0), .nils]), none, 0, false, []⟩] false
def a75_1 : AC := .reg [⟨(some 5), (.load true 32 (.t 2)), none, 0, false, []⟩,
    ⟨(some 6), (.call 105 [(.t 5)]), none, 0, false, []⟩,
    ⟨(some 7), (.un .not (.t 6)), none, 0, false, []⟩,
    ⟨(some 8), (.mv (.t 7)), none, 0, false, []⟩,
    ⟨(some 9), (.load true 26 (.t 3)), (some (8, false)), 0, false, []⟩,
    ⟨(some 10), (.call 116 [(.t 9)]), (some (8, false)), 0, false, []⟩,
    ⟨(some 11), (.un .not (.t 10)), (some (8, false)), 0, false, []⟩,
    ⟨(some 12), (.pick (.t 8) (.c (.bool true)) (.t 11)), none, 0, false, []⟩] false
def a75_2 : AC := .reg [⟨(some 13), (.build [(.int .i64 0), (.int .i64 0), (.int .i64 0), (.int .i64 0), (.int .i64 0), .nils, (.int .i64 0), (.int .i64 0), (.int .i64 0), (.int .i64 0), .nils, (.int .i64 0), (.int .i64 0), (.int .i64 0), (.int .i64 0), .nils, (.int .i64 0), (.int .i64 0), (.int .i64 0), (.int .i64 0), .nils, (.int .i64 0), (.int .i64 0), (.int .i64 0), (.int .i64 0), .nils] []), none, 0, false, []⟩,
    ⟨none, (.store 26 (.t 4) (.t 13)), none, 0, false, []⟩] false
def a75_3 : AC := .seq a75_2 .ret
def a75_4 : AC := .cond (.t 12) a75_3 .skip
def a75_5 : AC := .seq a75_1 a75_4
def a75_6 : AC := .reg [⟨(some 14), (.fad 0 (.t 2)), none, 0, false, []⟩,
    ⟨(some 15), (.load false 1 (.t 14)), none, 1, true, []⟩,
    ⟨(some 16), (.fad 2 (.t 2)), none, 2, false, []⟩,
    ⟨(some 17), (.load true 5 (.t 16)), none, 3, true, []⟩,
    ⟨(some 18), (.fad 7 (.t 2)), none, 4, false, []⟩,
    ⟨(some 19), (.load true 5 (.t 18)), none, 5, true, []⟩,
    ⟨(some 20), (.fad 11 (.t 3)), none, 6, false, []⟩,
    ⟨(some 21), (.load true 5 (.t 20)), none, 7, true, []⟩,
    ⟨(some 22), (.call 125 [(.c (.int .i64 18)), (.t 21)]), none, 8, true, [1, 3, 5]⟩,
    ⟨(some 23), (.fad 16 (.t 3)), none, 9, false, []⟩,
    ⟨(some 24), (.load true 5 (.t 23)), none, 10, true, [8]⟩,
    ⟨(some 25), (.call 125 [(.c (.int .i64 18)), (.t 24)]), none, 11, true, [1, 3, 5]⟩,
    ⟨(some 26), (.load true 32 (.t 2)), none, 12, true, [8, 11]⟩,
    ⟨(some 27), (.fad 11 (.t 3)), none, 13, false, []⟩,
    ⟨(some 28), (.load true 5 (.t 27)), none, 14, false, [8, 11]⟩,
    ⟨(some 29), (.fad 16 (.t 3)), none, 15, false, []⟩,
    ⟨(some 30), (.load true 5 (.t 29)), none, 16, false, [8, 11]⟩,
    ⟨(some 31), (.fad 21 (.t 3)), none, 17, false, []⟩,
    ⟨(some 32), (.load true 5 (.t 31)), none, 18, false, [8, 11]⟩,
    ⟨(some 33), (.bslice 5 [(.t 28), (.t 30), (.t 32)]), none, 19, false, [1, 3, 5, 7, 8, 10, 11, 12]⟩,
    ⟨(some 34), (.call 106 [(.t 26), (.c (.int .i64 18)), (.t 33)]), none, 20, false, [1, 3, 5]⟩,
    ⟨(some 35), (.call 111 [(.t 15), (.t 17), (.t 19), (.t 22), (.t 25), (.t 34)]), none, 21, false, []⟩,
    ⟨none, (.store 26 (.t 4) (.t 35)), none, 22, false, []⟩] true
def a75_7 : AC := .seq a75_6 .ret
def a75_8 : AC := .seq a75_5 a75_7
def a75_9 : AC := .seq a75_0 a75_8
def af75 : AF := { ntmps := 36, res := [(.cell 4 true 26)], body := a75_9 }
theorem tr75 : trF Try.prog Try.f75 = some af75 := by kernel_rfl
attribute [go_sem] af75 a75_0 a75_1 a75_2 a75_3 a75_4 a75_5 a75_6 a75_7 a75_8 a75_9
def a76_0 : AC := .reg [⟨(some 2), (.box (.t 0)), none, 0, false, []⟩,
    ⟨(some 3), (.box (.t 1)), none, 0, false, []⟩,
    ⟨(some 4), (.new [(.int .i64 0), (.int .i64 0), (.int .i64 0), (.int .i64 0), (.int .i64 0), .nils, (.int .i64 0), (.int .i64 0), (.int .i64 0), (.int .i64 0), .nils, (.int .i64 0), (.int .i64 0), (.int .i64 0), (.int .i64 0), .nils, (.int .i64 0), (.int .i64 0), (.int .i64 0), (.int .i64 0), .nils, (.int .i64 0), (.int .i64 0), (.int .i64 0), (.int .i64 0), .nils]), none, 0, false, []⟩] false
def a76_1 : AC := .reg [⟨(some 5), (.load true 32 (.t 2)), none, 0, false, []⟩,
    ⟨(some 6), (.call 107 [(.t 5)]), none, 0, false, []⟩,
    ⟨(some 7), (.un .not (.t 6)), none, 0, false, []⟩,
    ⟨(some 8), (.mv (.t 7)), none, 0, false, []⟩,
    ⟨(some 9), (.load true 26 (.t 3)), (some (8, false)), 0, false, []⟩,
    ⟨(some 10), (.call 117 [(.t 9)]), (some (8, false)), 0, false, []⟩,
    ⟨(some 11), (.un .not (.t 10)), (some (8, false)), 0, false, []⟩,
    ⟨(some 12), (.pick (.t 8) (.c (.bool true)) (.t 11)), none, 0, false, []⟩] false
def a76_2 : AC := .reg [⟨(some 13), (.build [(.int .i64 0), (.int .i64 0), (.int .i64 0), (.int .i64 0), (.int .i64 0), .nils, (.int .i64 0), (.int .i64 0), (.int .i64 0), (.int .i64 0), .nils, (.int .i64 0), (.int .i64 0), (.int .i64 0), (.int .i64 0), .nils, (.int .i64 0), (.int .i64 0), (.int .i64 0), (.int .i64 0), .nils, (.int .i64 0), (.int .i64 0), (.int .i64 0), (.int .i64 0), .nils] []), none, 0, false, []⟩,
    ⟨none, (.store 26 (.t 4) (.t 13)), none, 0, false, []⟩] false
def a76_3 : AC := .seq a76_2 .ret
def a76_4 : AC := .cond (.t 12) a76_3 .skip
def a76_5 : AC := .seq a76_1 a76_4
def a76_6 : AC := .reg [⟨(some 14), (.fad 0 (.t 2)), none, 0, false, []⟩,
    ⟨(some 15), (.load false 1 (.t 14)), none, 1, true, []⟩,
    ⟨(some 16), (.fad 2 (.t 2)), none, 2, false, []⟩,
    ⟨(some 17), (.load true 5 (.t 16)), none, 3, true, []⟩,
    ⟨(some 18), (.fad 7 (.t 2)), none, 4, false, []⟩,
    ⟨(some 19), (.load true 5 (.t 18)), none, 5, true, []⟩,
    ⟨(some 20), (.fad 11 (.t 3)), none, 6, false, []⟩,
    ⟨(some 21), (.load true 5 (.t 20)), none, 7, true, []⟩,
    ⟨(some 22), (.bslice 5 [(.t 21)]), none, 8, true, [1, 3, 5]⟩,
    ⟨(some 23), (.call 94 [(.c (.int .i64 18)), (.t 22)]), none, 9, true, [1, 3, 5]⟩,
    ⟨(some 24), (.fad 16 (.t 3)), none, 10, false, []⟩,
    ⟨(some 25), (.load true 5 (.t 24)), none, 11, true, [8, 9]⟩,
    ⟨(some 26), (.bslice 5 [(.t 25)]), none, 12, true, [1, 3, 5, 7, 8, 9]⟩,
    ⟨(some 27), (.call 94 [(.c (.int .i64 18)), (.t 26)]), none, 13, true, [1, 3, 5]⟩,
    ⟨(some 28), (.load true 32 (.t 2)), none, 14, true, [8, 9, 12, 13]⟩,
    ⟨(some 29), (.fad 11 (.t 3)), none, 15, false, []⟩,
    ⟨(some 30), (.load true 5 (.t 29)), none, 16, false, [8, 9, 12, 13]⟩,
    ⟨(some 31), (.fad 16 (.t 3)), none, 17, false, []⟩,
    ⟨(some 32), (.load true 5 (.t 31)), none, 18, false, [8, 9, 12, 13]⟩,
    ⟨(some 33), (.fad 21 (.t 3)), none, 19, false, []⟩,
    ⟨(some 34), (.load true 5 (.t 33)), none, 20, false, [8, 9, 12, 13]⟩,
    ⟨(some 35), (.bslice 5 [(.t 30), (.t 32), (.t 34)]), none, 21, false, [1, 3, 5, 7, 8, 9, 11, 12, 13, 14]⟩,
    ⟨(some 36), (.call 108 [(.c (.int .i64 18)), (.t 28), (.t 35)]), none, 22, false, [1, 3, 5]⟩,
    ⟨(some 37), (.build [(.int .i64 0), (.int .i64 0), (.int .i64 0), (.int .i64 0), (.int .i64 0), .nils, (.int .i64 0), (.int .i64 0), (.int .i64 0), (.int .i64 0), .nils, (.int .i64 0), (.int .i64 0), (.int .i64 0), (.int .i64 0), .nils, (.int .i64 0), (.int .i64 0), (.int .i64 0), (.int .i64 0), .nils, (.int .i64 0), (.int .i64 0), (.int .i64 0), (.int .i64 0), .nils] [(0, (1, (.t 15))), (1, (5, (.t 17))), (6, (5, (.t 19))), (11, (5, (.t 23))), (16, (5, (.t 27))), (21, (5, (.t 36)))]), none, 23, false, []⟩,
    ⟨none, (.store 26 (.t 4) (.t 37)), none, 24, false, []⟩] true
def a76_7 : AC := .seq a76_6 .ret
def a76_8 : AC := .seq a76_5 a76_7
def a76_9 : AC := .seq a76_0 a76_8
def af76 : AF := { ntmps := 38, res := [(.cell 4 true 26)], body := a76_9 }
theorem tr76 : trF Try.prog Try.f76 = some af76 := by kernel_rfl
attribute [go_sem] af76 a76_0 a76_1 a76_2 a76_3 a76_4 a76_5 a76_6 a76_7 a76_8 a76_9
def a77_0 : AC := .reg [⟨(some 2), (.box (.t 0)), none, 0, false, []⟩,
    ⟨(some 3), (.box (.t 1)), none, 0, false, []⟩,
    ⟨(some 4), (.new [(.int .i64 0), (.int .i64 0), (.int .i64 0), (.int .i64 0), (.int .i64 0), .nils, (.int .i64 0), (.int .i64 0), (.int .i64 0), (.int .i64 0), .nils, (.int .i64 0), (.int .i64 0), (.int .i64 0), (.int .i64 0), .nils, (.int .i64 0), (.int .i64 0), (.int .i64 0), (.int .i64 0), .nils, (.int .i64 0), (.int .i64 0), (.int .i64 0), (.int .i64 0), .nils]), none, 0, false, []⟩] false
def a77_1 : AC := .reg [⟨(some 7), (.load true 32 (.t 2)), none, 0, false, []⟩,
    ⟨(some 8), (.call 105 [(.t 7)]), none, 0, false, []⟩,
    ⟨(some 9), (.un .not (.t 8)), none, 0, false, []⟩,
    ⟨(some 10), (.mv (.t 9)), none, 0, false, []⟩,
    ⟨(some 11), (.load true 26 (.t 3)), (some (10, false)), 0, false, []⟩,
    ⟨(some 12), (.call 116 [(.t 11)]), (some (10, false)), 0, false, []⟩,
    ⟨(some 13), (.un .not (.t 12)), (some (10, false)), 0, false, []⟩,
    ⟨(some 14), (.pick (.t 10) (.c (.bool true)) (.t 13)), none, 0, false, []⟩] false
def a77_2 : AC := .reg [⟨(some 15), (.build [(.int .i64 0), (.int .i64 0), (.int .i64 0), (.int .i64 0), (.int .i64 0), .nils, (.int .i64 0), (.int .i64 0), (.int .i64 0), (.int .i64 0), .nils, (.int .i64 0), (.int .i64 0), (.int .i64 0), (.int .i64 0), .nils, (.int .i64 0), (.int .i64 0), (.int .i64 0), (.int .i64 0), .nils, (.int .i64 0), (.int .i64 0), (.int .i64 0), (.int .i64 0), .nils] []), none, 0, false, []⟩,
    ⟨none, (.store 26 (.t 4) (.t 15)), none, 0, false, []⟩] false
def a77_3 : AC := .seq a77_2 .ret
def a77_4 : AC := .cond (.t 14) a77_3 .skip
def a77_5 : AC := .seq a77_1 a77_4
def a77_6 : AC := .reg [⟨(some 16), (.fad 12 (.t 2)), none, 0, false, []⟩,
    ⟨(some 17), (.load true 5 (.t 16)), none, 1, true, []⟩,
    ⟨(some 18), (.fad 11 (.t 3)), none, 2, false, []⟩,
    ⟨(some 19), (.load true 5 (.t 18)), none, 3, true, []⟩,
    ⟨(some 20), (.call 125 [(.c (.int .i64 18)), (.t 19)]), none, 4, true, [1]⟩,
    ⟨(some 21), (.call 122 [(.t 17), (.t 20)]), none, 5, true, []⟩,
    ⟨(some 22), (.fad 17 (.t 2)), none, 6, false, []⟩,
    ⟨(some 23), (.load true 5 (.t 22)), none, 7, true, [4, 5]⟩,
    ⟨(some 24), (.fad 16 (.t 3)), none, 8, false, []⟩,
    ⟨(some 25), (.load true 5 (.t 24)), none, 9, true, [4, 5]⟩,
    ⟨(some 26), (.call 125 [(.c (.int .i64 18)), (.t 25)]), none, 10, true, [7]⟩,
    ⟨(some 27), (.call 122 [(.t 23), (.t 26)]), none, 11, true, []⟩,
    ⟨(some 5), (.new [(.int .i64 0), (.int .i64 0), (.int .i64 0), (.int .i64 0), .nils]), none, 12, true, [1, 3, 4, 5, 7, 9, 10, 11]⟩,
    ⟨(some 6), (.new [(.int .i64 0), (.int .i64 0), (.int .i64 0), (.int .i64 0), .nils]), none, 13, false, [1, 3, 4, 5, 7, 9, 10, 11, 12]⟩,
    ⟨none, (.store 5 (.t 5) (.t 21)), none, 14, false, []⟩,
    ⟨none, (.store 5 (.t 6) (.t 27)), none, 15, false, []⟩] true
def a77_7 : AC := .reg [⟨(some 28), (.fad 1 (.t 2)), none, 0, false, []⟩,
    ⟨(some 29), (.load false 1 (.t 28)), none, 1, true, []⟩,
    ⟨(some 30), (.load true 5 (.t 5)), none, 2, true, []⟩,
    ⟨(some 31), (.load true 5 (.t 6)), none, 3, true, []⟩,
    ⟨(some 32), (.fad 11 (.t 3)), none, 4, false, []⟩,
    ⟨(some 33), (.load true 5 (.t 32)), none, 5, true, []⟩,
    ⟨(some 34), (.call 125 [(.c (.int .i64 19)), (.t 33)]), none, 6, true, [1, 2, 3]⟩,
    ⟨(some 35), (.fad 16 (.t 3)), none, 7, false, []⟩,
    ⟨(some 36), (.load true 5 (.t 35)), none, 8, true, [6]⟩,
    ⟨(some 37), (.call 125 [(.c (.int .i64 19)), (.t 36)]), none, 9, true, [1, 2, 3]⟩,
    ⟨(some 38), (.load true 32 (.t 2)), none, 10, true, [6, 9]⟩,
    ⟨(some 39), (.fad 11 (.t 3)), none, 11, false, []⟩,
    ⟨(some 40), (.load true 5 (.t 39)), none, 12, false, [6, 9]⟩,
    ⟨(some 41), (.fad 16 (.t 3)), none, 13, false, []⟩,
    ⟨(some 42), (.load true 5 (.t 41)), none, 14, false, [6, 9]⟩,
    ⟨(some 43), (.fad 21 (.t 3)), none, 15, false, []⟩,
    ⟨(some 44), (.load true 5 (.t 43)), none, 16, false, [6, 9]⟩,
    ⟨(some 45), (.bslice 5 [(.t 40), (.t 42), (.t 44)]), none, 17, false, [1, 2, 3, 5, 6, 8, 9, 10]⟩,
    ⟨(some 46), (.call 106 [(.t 38), (.c (.int .i64 19)), (.t 45)]), none, 18, false, [1, 2, 3]⟩,
    ⟨(some 47), (.call 111 [(.t 29), (.t 30), (.t 31), (.t 34), (.t 37), (.t 46)]), none, 19, false, []⟩,
    ⟨none, (.store 26 (.t 4) (.t 47)), none, 20, false, []⟩] true
def a77_8 : AC := .seq a77_7 .ret
def a77_9 : AC := .seq a77_6 a77_8
def a77_10 : AC := .seq a77_5 a77_9
def a77_11 : AC := .seq a77_0 a77_10
def af77 : AF := { ntmps := 48, res := [(.cell 4 true 26)], body := a77_11 }
theorem tr77 : trF Try.prog Try.f77 = some af77 := by kernel_rfl
attribute [go_sem] af77 a77_0 a77_1 a77_2 a77_3 a77_4 a77_5 a77_6 a77_7 a77_8 a77_9 a77_10 a77_11
def a78_0 : AC := .reg [⟨(some 2), (.box (.t 0)), none, 0, false, []⟩,
    ⟨(some 3), (.box (.t 1)), none, 0, false, []⟩,
    ⟨(some 4), (.new [(.int .i64 0), (.int .i64 0), (.int .i64 0), (.int .i64 0), (.int .i64 0), .nils, (.int .i64 0), (.int .i64 0), (.int .i64 0), (.int .i64 0), .nils, (.int .i64 0), (.int .i64 0), (.int .i64 0), (.int .i64 0), .nils, (.int .i64 0), (.int .i64 0), (.int .i64 0), (.int .i64 0), .nils, (.int .i64 0), (.int .i64 0), (.int .i64 0), (.int .i64 0), .nils]), none, 0, false, []⟩] false
def a78_1 : AC := .reg [⟨(some 5), (.load true 32 (.t 2)), none, 0, false, []⟩,
    ⟨(some 6), (.call 107 [(.t 5)]), none, 0, false, []⟩,
    ⟨(some 7), (.un .not (.t 6)), none, 0, false, []⟩,
    ⟨(some 8), (.mv (.t 7)), none, 0, false, []⟩,
    ⟨(some 9), (.load true 26 (.t 3)), (some (8, false)), 0, false, []⟩,
    ⟨(some 10), (.call 117 [(.t 9)]), (some (8, false)), 0, false, []⟩,
    ⟨(some 11), (.un .not (.t 10)), (some (8, false)), 0, false, []⟩,
    ⟨(some 12), (.pick (.t 8) (.c (.bool true)) (.t 11)), none, 0, false, []⟩] false
def a78_2 : AC := .reg [⟨(some 13), (.build [(.int .i64 0), (.int .i64 0), (.int .i64 0), (.int .i64 0), (.int .i64 0), .nils, (.int .i64 0), (.int .i64 0), (.int .i64 0), (.int .i64 0), .nils, (.int .i64 0), (.int .i64 0), (.int .i64 0), (.int .i64 0), .nils, (.int .i64 0), (.int .i64 0), (.int .i64 0), (.int .i64 0), .nils, (.int .i64 0), (.int .i64 0), (.int .i64 0), (.int .i64 0), .nils] []), none, 0, false, []⟩,
    ⟨none, (.store 26 (.t 4) (.t 13)), none, 0, false, []⟩] false
def a78_3 : AC := .seq a78_2 .ret
def a78_4 : AC := .cond (.t 12) a78_3 .skip
def a78_5 : AC := .seq a78_1 a78_4
def a78_6 : AC := .reg [⟨(some 14), (.fad 1 (.t 2)), none, 0, false, []⟩,
    ⟨(some 15), (.load false 1 (.t 14)), none, 1, true, []⟩,
    ⟨(some 16), (.fad 12 (.t 2)), none, 2, false, []⟩,
    ⟨(some 17), (.load true 5 (.t 16)), none, 3, true, []⟩,
    ⟨(some 18), (.fad 11 (.t 3)), none, 4, false, []⟩,
    ⟨(some 19), (.load true 5 (.t 18)), none, 5, true, []⟩,
    ⟨(some 20), (.bslice 5 [(.t 19)]), none, 6, true, [1, 3]⟩,
    ⟨(some 21), (.call 94 [(.c (.int .i64 18)), (.t 20)]), none, 7, true, [1, 3]⟩,
    ⟨(some 22), (.call 123 [(.t 17), (.t 21)]), none, 8, true, [1]⟩,
    ⟨(some 23), (.fad 17 (.t 2)), none, 9, false, []⟩,
    ⟨(some 24), (.load true 5 (.t 23)), none, 10, true, [6, 7, 8]⟩,
    ⟨(some 25), (.fad 16 (.t 3)), none, 11, false, []⟩,
    ⟨(some 26), (.load true 5 (.t 25)), none, 12, true, [6, 7, 8]⟩,
    ⟨(some 27), (.bslice 5 [(.t 26)]), none, 13, true, [1, 3, 5, 6, 7, 8, 10]⟩,
    ⟨(some 28), (.call 94 [(.c (.int .i64 18)), (.t 27)]), none, 14, true, [1, 10]⟩,
    ⟨(some 29), (.call 123 [(.t 24), (.t 28)]), none, 15, true, [1]⟩,
    ⟨(some 30), (.fad 11 (.t 3)), none, 16, false, []⟩,
    ⟨(some 31), (.load true 5 (.t 30)), none, 17, true, [6, 7, 8, 13, 14, 15]⟩,
    ⟨(some 32), (.bslice 5 [(.t 31)]), none, 18, true, [1, 3, 5, 6, 7, 8, 10, 12, 13, 14, 15]⟩,
    ⟨(some 33), (.call 94 [(.c (.int .i64 19)), (.t 32)]), none, 19, true, [1]⟩,
    ⟨(some 34), (.fad 16 (.t 3)), none, 20, false, []⟩,
    ⟨(some 35), (.load true 5 (.t 34)), none, 21, true, [6, 7, 8, 13, 14, 15, 18, 19]⟩,
    ⟨(some 36), (.bslice 5 [(.t 35)]), none, 22, true, [1, 3, 5, 6, 7, 8, 10, 12, 13, 14, 15, 17, 18, 19]⟩,
    ⟨(some 37), (.call 94 [(.c (.int .i64 19)), (.t 36)]), none, 23, true, [1]⟩,
    ⟨(some 38), (.load true 32 (.t 2)), none, 24, true, [6, 7, 8, 13, 14, 15, 18, 19, 22, 23]⟩,
    ⟨(some 39), (.fad 11 (.t 3)), none, 25, false, []⟩,
    ⟨(some 40), (.load true 5 (.t 39)), none, 26, false, [6, 7, 8, 13, 14, 15, 18, 19, 22, 23]⟩,
    ⟨(some 41), (.fad 16 (.t 3)), none, 27, false, []⟩,
    ⟨(some 42), (.load true 5 (.t 41)), none, 28, false, [6, 7, 8, 13, 14, 15, 18, 19, 22, 23]⟩,
    ⟨(some 43), (.fad 21 (.t 3)), none, 29, false, []⟩,
    ⟨(some 44), (.load true 5 (.t 43)), none, 30, false, [6, 7, 8, 13, 14, 15, 18, 19, 22, 23]⟩,
    ⟨(some 45), (.bslice 5 [(.t 40), (.t 42), (.t 44)]), none, 31, false, [1, 3, 5, 6, 7, 8, 10, 12, 13, 14, 15, 17, 18, 19, 21, 22, 23, 24]⟩,
    ⟨(some 46), (.call 108 [(.c (.int .i64 19)), (.t 38), (.t 45)]), none, 32, false, [1]⟩,
    ⟨(some 47), (.build [(.int .i64 0), (.int .i64 0), (.int .i64 0), (.int .i64 0), (.int .i64 0), .nils, (.int .i64 0), (.int .i64 0), (.int .i64 0), (.int .i64 0), .nils, (.int .i64 0), (.int .i64 0), (.int .i64 0), (.int .i64 0), .nils, (.int .i64 0), (.int .i64 0), (.int .i64 0), (.int .i64 0), .nils, (.int .i64 0), (.int .i64 0), (.int .i64 0), (.int .i64 0), .nils] [(0, (1, (.t 15))), (1, (5, (.t 22))), (6, (5, (.t 29))), (11, (5, (.t 33))), (16, (5, (.t 37))), (21, (5, (.t 46)))]), none, 33, false, []⟩,
    ⟨none, (.store 26 (.t 4) (.t 47)), none, 34, false, []⟩] true
def a78_7 : AC := .seq a78_6 .ret
def a78_8 : AC := .seq a78_5 a78_7
def a78_9 : AC := .seq a78_0 a78_8
def af78 : AF := { ntmps := 48, res := [(.cell 4 true 26)], body := a78_9 }
theorem tr78 : trF Try.prog Try.f78 = some af78 := by kernel_rfl
attribute [go_sem] af78 a78_0 a78_1 a78_2 a78_3 a78_4 a78_5 a78_6 a78_7 a78_8 a78_9
def a122_0 : AC := .reg [⟨(some 2), (.box (.t 0)), none, 0, false, []⟩,
    ⟨(some 3), (.box (.t 1)), none, 0, false, []⟩,
    ⟨(some 4), (.new [(.int .i64 0), (.int .i64 0), (.int .i64 0), (.int .i64 0), .nils]), none, 0, false, []⟩] false
def a122_1 : AC := .reg [⟨(some 7), (.load true 5 (.t 2)), none, 0, false, []⟩,
    ⟨(some 8), (.call 132 [(.t 7)]), none, 0, false, []⟩,
    ⟨(some 9), (.un .not (.t 8)), none, 0, false, []⟩] false
def a122_2 : AC := .reg [⟨(some 10), (.build [(.int .i64 0), (.int .i64 0), (.int .i64 0), (.int .i64 0), .nils] []), none, 0, false, []⟩,
    ⟨none, (.store 5 (.t 4) (.t 10)), none, 0, false, []⟩] false
def a122_3 : AC := .seq a122_2 .ret
def a122_4 : AC := .cond (.t 9) a122_3 .skip
def a122_5 : AC := .seq a122_1 a122_4
def a122_6 : AC := .reg [⟨(some 12), (.load true 5 (.t 2)), none, 0, false, []⟩,
    ⟨(some 13), (.load true 5 (.t 3)), none, 0, false, []⟩,
    ⟨(some 14), (.bslice 5 [(.t 13)]), none, 0, false, []⟩,
    ⟨(some 15), (.call 136 [(.t 12), (.t 14), (.c (.bool true))]), none, 0, false, []⟩,
    ⟨(some 11), (.mv (.t 15)), none, 0, false, []⟩,
    ⟨(some 16), (.ext (.t 11) 0), none, 0, false, []⟩,
    ⟨(some 17), (.ext (.t 11) 1), none, 0, false, []⟩,
    ⟨(some 5), (.new [(.int .i64 0), (.int .i64 0), (.int .i64 0), (.int .i64 0), .nils]), none, 0, false, []⟩,
    ⟨none, (.store 5 (.t 5) (.t 16)), none, 0, false, []⟩,
    ⟨(some 6), (.mv (.t 17)), none, 0, false, []⟩] false
def a122_7 : AC := .reg [⟨(some 18), (.mv (.t 6)), none, 0, false, []⟩,
    ⟨(some 19), (.un .not (.t 18)), none, 0, false, []⟩] false
def a122_8 : AC := .reg [⟨(some 20), (.build [(.int .i64 0), (.int .i64 0), (.int .i64 0), (.int .i64 0), .nils] []), none, 0, false, []⟩,
    ⟨none, (.store 5 (.t 4) (.t 20)), none, 0, false, []⟩] false
def a122_9 : AC := .seq a122_8 .ret
def a122_10 : AC := .cond (.t 19) a122_9 .skip
def a122_11 : AC := .seq a122_7 a122_10
def a122_12 : AC := .reg [⟨(some 21), (.load true 5 (.t 5)), none, 0, false, []⟩,
    ⟨none, (.store 5 (.t 4) (.t 21)), none, 0, false, []⟩] false
def a122_13 : AC := .seq a122_12 .ret
def a122_14 : AC := .seq a122_11 a122_13
def a122_15 : AC := .seq a122_6 a122_14
def a122_16 : AC := .seq a122_5 a122_15
def a122_17 : AC := .seq a122_0 a122_16
def af122 : AF := { ntmps := 22, res := [(.cell 4 true 5)], body := a122_17 }
theorem tr122 : trF Try.prog Try.f122 = some af122 := by kernel_rfl
attribute [go_sem] af122 a122_0 a122_1 a122_2 a122_3 a122_4 a122_5 a122_6 a122_7 a122_8 a122_9 a122_10 a122_11 a122_12 a122_13 a122_14 a122_15 a122_16 a122_17
def a123_0 : AC := .reg [⟨(some 2), (.box (.t 0)), none, 0, false, []⟩,
    ⟨(some 3), (.box (.t 1)), none, 0, false, []⟩,
    ⟨(some 4), (.new [(.int .i64 0), (.int .i64 0), (.int .i64 0), (.int .i64 0), .nils]), none, 0, false, []⟩] false
def a123_1 : AC := .reg [⟨(some 7), (.load true 5 (.t 2)), none, 0, false, []⟩,
    ⟨(some 8), (.call 134 [(.t 7)]), none, 0, false, []⟩,
    ⟨(some 9), (.un .not (.t 8)), none, 0, false, []⟩,
    ⟨(some 10), (.mv (.t 9)), none, 0, false, []⟩,
    ⟨(some 11), (.load true 5 (.t 2)), (some (10, false)), 0, false, []⟩,
    ⟨(some 12), (.load true 5 (.t 3)), (some (10, false)), 0, false, []⟩,
    ⟨(some 13), (.call 137 [(.t 11), (.t 12)]), (some (10, false)), 0, false, []⟩,
    ⟨(some 14), (.un .not (.t 13)), (some (10, false)), 0, false, []⟩,
    ⟨(some 15), (.pick (.t 10) (.c (.bool true)) (.t 14)), none, 0, false, []⟩] false
def a123_2 : AC := .reg [⟨(some 16), (.build [(.int .i64 0), (.int .i64 0), (.int .i64 0), (.int .i64 0), .nils] []), none, 0, false, []⟩,
    ⟨none, (.store 5 (.t 4) (.t 16)), none, 0, false, []⟩] false
def a123_3 : AC := .seq a123_2 .ret
def a123_4 : AC := .cond (.t 15) a123_3 .skip
def a123_5 : AC := .seq a123_1 a123_4
def a123_6 : AC := .reg [⟨(some 18), (.load true 5 (.t 2)), none, 0, false, []⟩,
    ⟨(some 19), (.load true 5 (.t 3)), none, 0, false, []⟩,
    ⟨(some 20), (.call 138 [(.t 18), (.t 19), (.c (.int .i64 0)), (.c (.bool false))]), none, 0, false, []⟩,
    ⟨(some 17), (.mv (.t 20)), none, 0, false, []⟩,
    ⟨(some 21), (.ext (.t 17) 0), none, 0, false, []⟩,
    ⟨(some 22), (.ext (.t 17) 1), none, 0, false, []⟩,
    ⟨(some 5), (.new [(.int .i64 0), (.int .i64 0), (.int .i64 0), (.int .i64 0), .nils]), none, 0, false, []⟩,
    ⟨none, (.store 5 (.t 5) (.t 21)), none, 0, false, []⟩,
    ⟨(some 6), (.mv (.t 22)), none, 0, false, []⟩] false
def a123_7 : AC := .reg [⟨(some 23), (.mv (.t 6)), none, 0, false, []⟩,
    ⟨(some 24), (.un .not (.t 23)), none, 0, false, []⟩] false
def a123_8 : AC := .reg [⟨(some 25), (.build [(.int .i64 0), (.int .i64 0), (.int .i64 0), (.int .i64 0), .nils] []), none, 0, false, []⟩,
    ⟨none, (.store 5 (.t 4) (.t 25)), none, 0, false, []⟩] false
def a123_9 : AC := .seq a123_8 .ret
def a123_10 : AC := .cond (.t 24) a123_9 .skip
def a123_11 : AC := .seq a123_7 a123_10
def a123_12 : AC := .reg [⟨(some 26), (.load true 5 (.t 5)), none, 0, false, []⟩,
    ⟨none, (.store 5 (.t 4) (.t 26)), none, 0, false, []⟩] false
def a123_13 : AC := .seq a123_12 .ret
def a123_14 : AC := .seq a123_11 a123_13
def a123_15 : AC := .seq a123_6 a123_14
def a123_16 : AC := .seq a123_5 a123_15
def a123_17 : AC := .seq a123_0 a123_16
def af123 : AF := { ntmps := 27, res := [(.cell 4 true 5)], body := a123_17 }
theorem tr123 : trF Try.prog Try.f123 = some af123 := by kernel_rfl
attribute [go_sem] af123 a123_0 a123_1 a123_2 a123_3 a123_4 a123_5 a123_6 a123_7 a123_8 a123_9 a123_10 a123_11 a123_12 a123_13 a123_14 a123_15 a123_16 a123_17
def a136_0 : AC := .reg [⟨(some 3), (.box (.t 0)), none, 0, false, []⟩,
    ⟨(some 6), (.new [(.int .i64 0), (.int .i64 0), (.int .i64 0), (.int .i64 0), .nils]), none, 0, false, []⟩,
    ⟨(some 7), (.mv (.c (.bool false))), none, 0, false, []⟩] false
def a136_1 : AC := .reg [⟨(some 11), (.mv (.t 1)), none, 0, false, []⟩,
    ⟨(some 12), (.mv (.t 2)), none, 0, false, []⟩,
    ⟨(some 13), (.build [.nils, .nils, (.bool false)] [(0, (1, (.t 11))), (2, (1, (.t 12)))]), none, 0, false, []⟩,
    ⟨(some 14), (.box (.t 13)), none, 0, false, []⟩,
    ⟨(some 8), (.mv (.t 14)), none, 0, false, []⟩] false
def a136_2 : AC := .reg [⟨(some 15), (.mv (.t 1)), none, 0, false, []⟩,
    ⟨(some 16), (.len false (.t 15)), none, 0, false, []⟩,
    ⟨(some 17), (.mv (.c (.int .i64 0))), none, 0, false, []⟩] false
def a136_3 : AC := .reg [⟨(some 18), (.bin 0 .lss (.t 17) (.t 16)), none, 0, false, []⟩] false
def a136_4 : AC := .cond (.t 18) .skip (.exit 0)
def a136_5 : AC := .reg [⟨(some 19), (.iad 5 (.t 15) (.t 17)), none, 0, false, []⟩,
    ⟨(some 20), (.load true 5 (.t 19)), none, 0, false, []⟩,
    ⟨(some 10), (.new [(.int .i64 0), (.int .i64 0), (.int .i64 0), (.int .i64 0), .nils]), none, 0, false, []⟩,
    ⟨none, (.store 5 (.t 10) (.t 20)), none, 0, false, []⟩] false
def a136_6 : AC := .reg [⟨(some 21), (.load true 5 (.t 10)), none, 0, false, []⟩,
    ⟨(some 22), (.call 132 [(.t 21)]), none, 0, false, []⟩,
    ⟨(some 23), (.un .not (.t 22)), none, 0, false, []⟩,
    ⟨(some 24), (.mv (.t 23)), none, 0, false, []⟩,
    ⟨(some 25), (.load true 5 (.t 3)), (some (24, false)), 0, false, []⟩,
    ⟨(some 26), (.call 144 [(.t 25)]), (some (24, false)), 0, false, []⟩,
    ⟨(some 27), (.un .not (.t 26)), (some (24, false)), 0, false, []⟩,
    ⟨(some 28), (.mv (.t 27)), (some (24, false)), 0, false, []⟩,
    ⟨(some 29), (.fad 0 (.t 10)), (some (28, true)), 0, false, []⟩,
    ⟨(some 30), (.load false 1 (.t 29)), (some (28, true)), 0, false, []⟩,
    ⟨(some 31), (.bin 0 .geq (.t 30) (.c (.int .i64 13))), (some (28, true)), 0, false, []⟩,
    ⟨(some 32), (.pick (.t 28) (.t 31) (.c (.bool false))), (some (24, false)), 0, false, []⟩,
    ⟨(some 33), (.pick (.t 24) (.c (.bool true)) (.t 32)), none, 0, false, []⟩] false
def a136_7 : AC := .reg [⟨(some 34), (.build [(.int .i64 0), (.int .i64 0), (.int .i64 0), (.int .i64 0), .nils] []), none, 0, false, []⟩,
    ⟨none, (.store 5 (.t 6) (.t 34)), none, 0, false, []⟩,
    ⟨(some 7), (.mv (.c (.bool false))), none, 0, false, []⟩] false
def a136_8 : AC := .seq a136_7 .ret
def a136_9 : AC := .cond (.t 33) a136_8 .skip
def a136_10 : AC := .seq a136_6 a136_9
def a136_11 : AC := .reg [⟨(some 35), (.mv (.t 8)), none, 0, false, []⟩,
    ⟨(some 36), (.nilck (.t 35)), none, 1, false, []⟩,
    ⟨(some 37), (.fad 1 (.t 36)), none, 2, false, []⟩,
    ⟨(some 38), (.load false 1 (.t 37)), none, 3, true, []⟩,
    ⟨(some 39), (.load true 5 (.t 10)), none, 4, true, []⟩,
    ⟨(some 40), (.call 145 [(.t 39)]), none, 5, true, [3]⟩,
    ⟨(some 41), (.len false (.t 38)), none, 6, false, []⟩,
    ⟨(some 42), (.bslice 5 [(.c (.agg true [(.int .i64 0), (.int .i64 0), (.int .i64 0), (.int .i64 0), .nils]))]), none, 7, false, [3, 4, 5]⟩,
    ⟨(some 43), (.app 5 56 (.t 38) (.t 42)), none, 8, false, []⟩,
    ⟨(some 44), (.iad 5 (.t 43) (.t 41)), none, 9, true, []⟩,
    ⟨none, (.store 5 (.t 44) (.t 40)), none, 10, true, []⟩,
    ⟨(some 45), (.nilck (.t 35)), none, 11, false, []⟩,
    ⟨(some 46), (.fad 1 (.t 45)), none, 12, false, []⟩,
    ⟨none, (.store 1 (.t 46) (.t 43)), none, 13, false, [9, 10]⟩] true
def a136_12 : AC := .seq a136_10 a136_11
def a136_13 : AC := .seq a136_5 a136_12
def a136_14 : AC := .blk 1 a136_13
def a136_15 : AC := .reg [⟨(some 47), (.bin 0 .add (.t 17) (.c (.int .i64 1))), none, 0, false, []⟩,
    ⟨(some 17), (.mv (.t 47)), none, 0, false, []⟩] false
def a136_16 : AC := .seq a136_14 a136_15
def a136_17 : AC := .seq a136_4 a136_16
def a136_18 : AC := .seq a136_3 a136_17
def a136_19 : AC := .loop a136_18
def a136_20 : AC := .blk 0 a136_19
def a136_21 : AC := .seq a136_2 a136_20
def a136_22 : AC := .reg [⟨(some 48), (.mv (.t 8)), none, 0, false, []⟩,
    ⟨(some 49), (.load true 5 (.t 3)), none, 0, false, []⟩,
    ⟨(some 50), (.fad 0 (.t 3)), none, 0, false, []⟩,
    ⟨(some 51), (.load false 1 (.t 50)), none, 0, false, []⟩,
    ⟨(some 52), (.bin 0 .geq (.t 51) (.c (.int .i64 13))), none, 0, false, []⟩,
    ⟨(some 53), (.call 146 [(.t 48), (.t 49), (.c (.int .i64 0)), (.t 52)]), none, 0, false, []⟩,
    ⟨(some 54), (.ext (.t 53) 0), none, 0, false, []⟩,
    ⟨(some 55), (.ext (.t 53) 1), none, 0, false, []⟩,
    ⟨none, (.store 5 (.t 6) (.t 54)), none, 0, false, []⟩,
    ⟨(some 7), (.mv (.t 55)), none, 0, false, []⟩] false
def a136_23 : AC := .seq a136_22 .ret
def a136_24 : AC := .seq a136_21 a136_23
def a136_25 : AC := .seq a136_1 a136_24
def a136_26 : AC := .seq a136_0 a136_25
def af136 : AF := { ntmps := 56, res := [(.cell 6 true 5), (.t 7)], body := a136_26 }
theorem tr136 : trF Try.prog Try.f136 = some af136 := by kernel_rfl
attribute [go_sem] af136 a136_0 a136_1 a136_2 a136_3 a136_4 a136_5 a136_6 a136_7 a136_8 a136_9 a136_10 a136_11 a136_12 a136_13 a136_14 a136_15 a136_16 a136_17 a136_18 a136_19 a136_20 a136_21 a136_22 a136_23 a136_24 a136_25 a136_26
def a137_0 : AC := .reg [⟨(some 2), (.box (.t 0)), none, 0, false, []⟩,
    ⟨(some 3), (.box (.t 1)), none, 0, false, []⟩,
    ⟨(some 4), (.mv (.c (.bool false))), none, 0, false, []⟩] false
def a137_1 : AC := .reg [⟨(some 5), (.load true 5 (.t 3)), none, 0, false, []⟩,
    ⟨(some 6), (.call 134 [(.t 5)]), none, 0, false, []⟩,
    ⟨(some 7), (.mv (.t 6)), none, 0, false, []⟩,
    ⟨(some 8), (.fad 0 (.t 2)), (some (7, true)), 0, false, []⟩,
    ⟨(some 9), (.load false 1 (.t 8)), (some (7, true)), 0, false, []⟩,
    ⟨(some 10), (.bin 0 .eql (.t 9) (.c (.int .i64 1))), (some (7, true)), 0, false, []⟩,
    ⟨(some 11), (.mv (.t 10)), (some (7, true)), 0, false, []⟩,
    ⟨(some 12), (.fad 0 (.t 2)), (some (11, false)), 0, false, []⟩,
    ⟨(some 13), (.load false 1 (.t 12)), (some (11, false)), 0, false, []⟩,
    ⟨(some 14), (.bin 0 .eql (.t 13) (.c (.int .i64 2))), (some (11, false)), 0, false, []⟩,
    ⟨(some 15), (.pick (.t 11) (.c (.bool true)) (.t 14)), (some (7, true)), 0, false, []⟩,
    ⟨(some 16), (.mv (.t 15)), (some (7, true)), 0, false, []⟩,
    ⟨(some 17), (.load true 5 (.t 2)), (some (16, false)), 0, false, []⟩,
    ⟨(some 18), (.call 131 [(.t 17)]), (some (16, false)), 0, false, []⟩,
    ⟨(some 19), (.pick (.t 16) (.c (.bool true)) (.t 18)), (some (7, true)), 0, false, []⟩,
    ⟨(some 20), (.mv (.t 19)), (some (7, true)), 0, false, []⟩,
    ⟨(some 21), (.load true 5 (.t 3)), (some (20, false)), 0, false, []⟩,
    ⟨(some 22), (.call 142 [(.t 21)]), (some (20, false)), 0, false, []⟩,
    ⟨(some 23), (.pick (.t 20) (.c (.bool true)) (.t 22)), (some (7, true)), 0, false, []⟩,
    ⟨(some 24), (.pick (.t 7) (.t 23) (.c (.bool false))), none, 0, false, []⟩,
    ⟨(some 4), (.mv (.t 24)), none, 0, false, []⟩] false
def a137_2 : AC := .seq a137_1 .ret
def a137_3 : AC := .seq a137_0 a137_2
def af137 : AF := { ntmps := 25, res := [(.t 4)], body := a137_3 }
theorem tr137 : trF Try.prog Try.f137 = some af137 := by kernel_rfl
attribute [go_sem] af137 a137_0 a137_1 a137_2 a137_3
def a138_0 : AC := .reg [⟨(some 4), (.box (.t 0)), none, 0, false, []⟩,
    ⟨(some 5), (.box (.t 1)), none, 0, false, []⟩,
    ⟨(some 8), (.new [(.int .i64 0), (.int .i64 0), (.int .i64 0), (.int .i64 0), .nils]), none, 0, false, []⟩,
    ⟨(some 9), (.mv (.c (.bool false))), none, 0, false, []⟩] false
def a138_1 : AC := .reg [⟨(some 15), (.fad 0 (.t 4)), none, 0, false, []⟩,
    ⟨(some 16), (.load false 1 (.t 15)), none, 0, false, []⟩,
    ⟨(some 17), (.bin 0 .eql (.t 16) (.c (.int .i64 2))), none, 0, false, []⟩] false
def a138_2 : AC := .reg [⟨(some 18), (.fad 1 (.t 4)), none, 0, false, []⟩,
    ⟨(some 19), (.load false 1 (.t 18)), none, 0, false, []⟩,
    ⟨(some 20), (.mv (.t 2)), none, 0, false, []⟩,
    ⟨(some 21), (.bin 0 .eql (.t 19) (.t 20)), none, 0, false, []⟩] false
def a138_3 : AC := .reg [⟨(some 22), (.load true 5 (.t 5)), none, 0, false, []⟩,
    ⟨(some 23), (.mv (.t 2)), none, 0, false, []⟩,
    ⟨(some 24), (.mv (.t 3)), none, 0, false, []⟩,
    ⟨(some 25), (.call 147 [(.t 22), (.t 23), (.t 24)]), none, 0, false, []⟩,
    ⟨(some 26), (.ext (.t 25) 0), none, 0, false, []⟩,
    ⟨(some 27), (.ext (.t 25) 1), none, 0, false, []⟩,
    ⟨none, (.store 5 (.t 8) (.t 26)), none, 0, false, []⟩,
    ⟨(some 9), (.mv (.t 27)), none, 0, false, []⟩] false
def a138_4 : AC := .seq a138_3 .ret
def a138_5 : AC := .cond (.t 21) a138_4 .skip
def a138_6 : AC := .seq a138_2 a138_5
def a138_7 : AC := .reg [⟨(some 28), (.fad 1 (.t 4)), none, 0, false, []⟩,
    ⟨(some 29), (.load false 1 (.t 28)), none, 0, false, []⟩,
    ⟨(some 30), (.mv (.t 2)), none, 0, false, []⟩,
    ⟨(some 31), (.bin 0 .gtr (.t 29) (.t 30)), none, 0, false, []⟩] false
def a138_8 : AC := .reg [⟨(some 32), (.fad 1 (.t 4)), none, 0, false, []⟩,
    ⟨(some 33), (.load false 1 (.t 32)), none, 0, false, []⟩,
    ⟨(some 34), (.bin 0 .sub (.t 33) (.c (.int .i64 1))), none, 0, false, []⟩,
    ⟨(some 35), (.build [(.int .i64 0), (.int .i64 0), (.int .i64 0), (.int .i64 0), .nils] [(0, (1, (.c (.int .i64 2)))), (1, (1, (.t 34)))]), none, 0, false, []⟩,
    ⟨none, (.store 5 (.t 8) (.t 35)), none, 0, false, []⟩,
    ⟨(some 9), (.mv (.c (.bool true))), none, 0, false, []⟩] false
def a138_9 : AC := .seq a138_8 .ret
def a138_10 : AC := .cond (.t 31) a138_9 .skip
def a138_11 : AC := .seq a138_7 a138_10
def a138_12 : AC := .reg [⟨(some 36), (.load true 5 (.t 4)), none, 0, false, []⟩,
    ⟨none, (.store 5 (.t 8) (.t 36)), none, 0, false, []⟩,
    ⟨(some 9), (.mv (.c (.bool true))), none, 0, false, []⟩] false
def a138_13 : AC := .seq a138_12 .ret
def a138_14 : AC := .seq a138_11 a138_13
def a138_15 : AC := .seq a138_6 a138_14
def a138_16 : AC := .cond (.t 17) a138_15 .skip
def a138_17 : AC := .seq a138_1 a138_16
def a138_18 : AC := .reg [⟨(some 37), (.fad 0 (.t 4)), none, 0, false, []⟩,
    ⟨(some 38), (.load false 1 (.t 37)), none, 0, false, []⟩,
    ⟨(some 39), (.fad 1 (.t 4)), none, 0, false, []⟩,
    ⟨(some 40), (.load false 1 (.t 39)), none, 0, false, []⟩,
    ⟨(some 41), (.fad 2 (.t 4)), none, 0, false, []⟩,
    ⟨(some 42), (.load false 1 (.t 41)), none, 0, false, []⟩,
    ⟨(some 43), (.fad 3 (.t 4)), none, 0, false, []⟩,
    ⟨(some 44), (.load false 1 (.t 43)), none, 0, false, []⟩,
    ⟨(some 45), (.build [(.int .i64 0), (.int .i64 0), (.int .i64 0), (.int .i64 0), .nils] [(0, (1, (.t 38))), (1, (1, (.t 40))), (2, (1, (.t 42))), (3, (1, (.t 44)))]), none, 0, false, []⟩,
    ⟨(some 10), (.new [(.int .i64 0), (.int .i64 0), (.int .i64 0), (.int .i64 0), .nils]), none, 0, false, []⟩,
    ⟨none, (.store 5 (.t 10) (.t 45)), none, 0, false, []⟩] false
def a138_19 : AC := .reg [⟨(some 11), (.mv (.c .nils)), none, 0, false, []⟩] false
def a138_20 : AC := .reg [⟨(some 12), (.mv (.c (.int .i64 0))), none, 0, false, []⟩] false
def a138_21 : AC := .reg [⟨(some 46), (.mv (.t 12)), none, 0, false, []⟩,
    ⟨(some 47), (.fad 4 (.t 4)), none, 0, false, []⟩,
    ⟨(some 48), (.load false 1 (.t 47)), none, 0, false, []⟩,
    ⟨(some 49), (.len false (.t 48)), none, 0, false, []⟩,
    ⟨(some 50), (.bin 0 .lss (.t 46) (.t 49)), none, 0, false, []⟩] false
def a138_22 : AC := .cond (.t 50) .skip (.exit 0)
def a138_23 : AC := .seq a138_21 a138_22
def a138_24 : AC := .reg [⟨(some 54), (.fad 4 (.t 4)), none, 0, false, []⟩,
    ⟨(some 55), (.load false 1 (.t 54)), none, 1, true, []⟩,
    ⟨(some 56), (.mv (.t 12)), none, 2, false, []⟩,
    ⟨(some 57), (.iad 5 (.t 55) (.t 56)), none, 3, true, []⟩,
    ⟨(some 58), (.load true 5 (.t 57)), none, 4, true, []⟩,
    ⟨(some 59), (.load true 5 (.t 5)), none, 5, true, []⟩,
    ⟨(some 60), (.mv (.t 2)), none, 6, false, []⟩,
    ⟨(some 61), (.fad 0 (.t 4)), none, 7, false, []⟩,
    ⟨(some 62), (.load false 1 (.t 61)), none, 8, true, []⟩,
    ⟨(some 63), (.mv (.t 12)), none, 9, false, []⟩,
    ⟨(some 64), (.call 143 [(.t 62), (.t 63)]), none, 10, true, [1, 3, 4, 5]⟩,
    ⟨(some 65), (.bin 0 .add (.t 60) (.t 64)), none, 11, false, []⟩,
    ⟨(some 66), (.mv (.t 3)), none, 12, false, []⟩,
    ⟨(some 67), (.mv (.t 66)), none, 13, false, []⟩,
    ⟨(some 68), (.load true 5 (.t 4)), (some (67, false)), 14, true, []⟩,
    ⟨(some 69), (.mv (.t 12)), (some (67, false)), 15, false, []⟩,
    ⟨(some 70), (.call 148 [(.t 68), (.t 69)]), (some (67, false)), 16, true, [1, 3, 4, 5]⟩,
    ⟨(some 71), (.pick (.t 67) (.c (.bool true)) (.t 70)), none, 17, false, []⟩,
    ⟨(some 72), (.call 138 [(.t 58), (.t 59), (.t 65), (.t 71)]), none, 18, true, []⟩,
    ⟨(some 53), (.mv (.t 72)), none, 19, false, []⟩,
    ⟨(some 73), (.ext (.t 53) 0), none, 20, false, []⟩,
    ⟨(some 74), (.ext (.t 53) 1), none, 21, false, []⟩,
    ⟨(some 13), (.new [(.int .i64 0), (.int .i64 0), (.int .i64 0), (.int .i64 0), .nils]), none, 22, false, [1, 3, 4, 5, 8, 10, 14, 16, 18]⟩,
    ⟨none, (.store 5 (.t 13) (.t 73)), none, 23, false, []⟩,
    ⟨(some 14), (.mv (.t 74)), none, 24, false, []⟩] true
def a138_25 : AC := .reg [⟨(some 75), (.mv (.t 14)), none, 0, false, []⟩,
    ⟨(some 76), (.un .not (.t 75)), none, 0, false, []⟩] false
def a138_26 : AC := .reg [⟨(some 77), (.build [(.int .i64 0), (.int .i64 0), (.int .i64 0), (.int .i64 0), .nils] []), none, 0, false, []⟩,
    ⟨none, (.store 5 (.t 8) (.t 77)), none, 0, false, []⟩,
    ⟨(some 9), (.mv (.c (.bool false))), none, 0, false, []⟩] false
def a138_27 : AC := .seq a138_26 .ret
def a138_28 : AC := .cond (.t 76) a138_27 .skip
def a138_29 : AC := .seq a138_25 a138_28
def a138_30 : AC := .reg [⟨(some 78), (.mv (.t 11)), none, 0, false, []⟩,
    ⟨(some 79), (.load true 5 (.t 13)), none, 0, false, []⟩,
    ⟨(some 80), (.bslice 5 [(.t 79)]), none, 0, false, []⟩,
    ⟨(some 81), (.app 5 56 (.t 78) (.t 80)), none, 0, false, []⟩,
    ⟨(some 11), (.mv (.t 81)), none, 0, false, []⟩] false
def a138_31 : AC := .seq a138_29 a138_30
def a138_32 : AC := .seq a138_24 a138_31
def a138_33 : AC := .blk 1 a138_32
def a138_34 : AC := .reg [⟨(some 51), (.mv (.t 12)), none, 0, false, []⟩,
    ⟨(some 52), (.bin 0 .add (.t 51) (.c (.int .i64 1))), none, 0, false, []⟩,
    ⟨(some 12), (.mv (.t 52)), none, 0, false, []⟩] false
def a138_35 : AC := .seq a138_33 a138_34
def a138_36 : AC := .seq a138_23 a138_35
def a138_37 : AC := .loop a138_36
def a138_38 : AC := .blk 0 a138_37
def a138_39 : AC := .seq a138_20 a138_38
def a138_40 : AC := .reg [⟨(some 82), (.mv (.t 11)), none, 0, false, []⟩,
    ⟨(some 83), (.fad 4 (.t 10)), none, 0, false, []⟩,
    ⟨none, (.store 1 (.t 83) (.t 82)), none, 0, false, []⟩] false
def a138_41 : AC := .reg [⟨(some 84), (.load true 5 (.t 10)), none, 0, false, []⟩,
    ⟨none, (.store 5 (.t 8) (.t 84)), none, 0, false, []⟩,
    ⟨(some 9), (.mv (.c (.bool true))), none, 0, false, []⟩] false
def a138_42 : AC := .seq a138_41 .ret
def a138_43 : AC := .seq a138_40 a138_42
def a138_44 : AC := .seq a138_39 a138_43
def a138_45 : AC := .seq a138_19 a138_44
def a138_46 : AC := .seq a138_18 a138_45
def a138_47 : AC := .seq a138_17 a138_46
def a138_48 : AC := .seq a138_0 a138_47
def af138 : AF := { ntmps := 85, res := [(.cell 8 true 5), (.t 9)], body := a138_48 }
theorem tr138 : trF Try.prog Try.f138 = some af138 := by kernel_rfl
attribute [go_sem] af138 a138_0 a138_1 a138_2 a138_3 a138_4 a138_5 a138_6 a138_7 a138_8 a138_9 a138_10 a138_11 a138_12 a138_13 a138_14 a138_15 a138_16 a138_17 a138_18 a138_19 a138_20 a138_21 a138_22 a138_23 a138_24 a138_25 a138_26 a138_27 a138_28 a138_29 a138_30 a138_31 a138_32 a138_33 a138_34 a138_35 a138_36 a138_37 a138_38 a138_39 a138_40 a138_41 a138_42 a138_43 a138_44 a138_45 a138_46 a138_47 a138_48
def a144_0 : AC := .reg [⟨(some 1), (.box (.t 0)), none, 0, false, []⟩,
    ⟨(some 2), (.mv (.c (.bool false))), none, 0, false, []⟩] false
def a144_1 : AC := .reg [⟨(some 3), (.fad 0 (.t 1)), none, 0, false, []⟩,
    ⟨(some 4), (.load false 1 (.t 3)), none, 0, false, []⟩,
    ⟨(some 5), (.bin 0 .eql (.t 4) (.c (.int .i64 1))), none, 0, false, []⟩,
    ⟨(some 6), (.mv (.t 5)), none, 0, false, []⟩,
    ⟨(some 7), (.fad 0 (.t 1)), (some (6, false)), 0, false, []⟩,
    ⟨(some 8), (.load false 1 (.t 7)), (some (6, false)), 0, false, []⟩,
    ⟨(some 9), (.bin 0 .eql (.t 8) (.c (.int .i64 2))), (some (6, false)), 0, false, []⟩,
    ⟨(some 10), (.pick (.t 6) (.c (.bool true)) (.t 9)), none, 0, false, []⟩,
    ⟨(some 11), (.mv (.t 10)), none, 0, false, []⟩,
    ⟨(some 12), (.fad 0 (.t 1)), (some (11, false)), 0, false, []⟩,
    ⟨(some 13), (.load false 1 (.t 12)), (some (11, false)), 0, false, []⟩,
    ⟨(some 14), (.bin 0 .geq (.t 13) (.c (.int .i64 13))), (some (11, false)), 0, false, []⟩,
    ⟨(some 15), (.pick (.t 11) (.c (.bool true)) (.t 14)), none, 0, false, []⟩,
    ⟨(some 2), (.mv (.t 15)), none, 0, false, []⟩] false
def a144_2 : AC := .seq a144_1 .ret
def a144_3 : AC := .seq a144_0 a144_2
def af144 : AF := { ntmps := 16, res := [(.t 2)], body := a144_3 }
theorem tr144 : trF Try.prog Try.f144 = some af144 := by kernel_rfl
attribute [go_sem] af144 a144_0 a144_1 a144_2 a144_3
def a145_0 : AC := .reg [⟨(some 1), (.box (.t 0)), none, 0, false, []⟩,
    ⟨(some 2), (.new [(.int .i64 0), (.int .i64 0), (.int .i64 0), (.int .i64 0), .nils]), none, 0, false, []⟩] false
def a145_1 : AC := .reg [⟨(some 3), (.load true 5 (.t 1)), none, 0, false, []⟩,
    ⟨(some 4), (.call 132 [(.t 3)]), none, 0, false, []⟩,
    ⟨(some 5), (.un .not (.t 4)), none, 0, false, []⟩] false
def a145_2 : AC := .reg [⟨(some 6), (.build [(.int .i64 0), (.int .i64 0), (.int .i64 0), (.int .i64 0), .nils] []), none, 0, false, []⟩,
    ⟨none, (.store 5 (.t 2) (.t 6)), none, 0, false, []⟩] false
def a145_3 : AC := .seq a145_2 .ret
def a145_4 : AC := .cond (.t 5) a145_3 .skip
def a145_5 : AC := .seq a145_1 a145_4
def a145_6 : AC := .reg [⟨(some 7), (.load true 5 (.t 1)), none, 0, false, []⟩,
    ⟨(some 8), (.call 154 [(.t 7)]), none, 0, false, []⟩,
    ⟨none, (.store 5 (.t 2) (.t 8)), none, 0, false, []⟩] false
def a145_7 : AC := .seq a145_6 .ret
def a145_8 : AC := .seq a145_5 a145_7
def a145_9 : AC := .seq a145_0 a145_8
def af145 : AF := { ntmps := 9, res := [(.cell 2 true 5)], body := a145_9 }
theorem tr145 : trF Try.prog Try.f145 = some af145 := by kernel_rfl
attribute [go_sem] af145 a145_0 a145_1 a145_2 a145_3 a145_4 a145_5 a145_6 a145_7 a145_8 a145_9
def a146_0 : AC := .reg [⟨(some 5), (.box (.t 1)), none, 0, false, []⟩,
    ⟨(some 8), (.new [(.int .i64 0), (.int .i64 0), (.int .i64 0), (.int .i64 0), .nils]), none, 0, false, []⟩,
    ⟨(some 9), (.mv (.c (.bool false))), none, 0, false, []⟩] false
def a146_1 : AC := .reg [⟨(some 15), (.fad 0 (.t 5)), none, 0, false, []⟩,
    ⟨(some 16), (.load false 1 (.t 15)), none, 0, false, []⟩,
    ⟨(some 17), (.bin 0 .eql (.t 16) (.c (.int .i64 2))), none, 0, false, []⟩,
    ⟨(some 18), (.mv (.t 17)), none, 0, false, []⟩,
    ⟨(some 19), (.fad 1 (.t 5)), (some (18, true)), 0, false, []⟩,
    ⟨(some 20), (.load false 1 (.t 19)), (some (18, true)), 0, false, []⟩,
    ⟨(some 21), (.mv (.t 2)), (some (18, true)), 0, false, []⟩,
    ⟨(some 22), (.bin 0 .geq (.t 20) (.t 21)), (some (18, true)), 0, false, []⟩,
    ⟨(some 23), (.pick (.t 18) (.t 22) (.c (.bool false))), none, 0, false, []⟩] false
def a146_2 : AC := .reg [⟨(some 24), (.mv (.t 0)), none, 0, false, []⟩,
    ⟨(some 25), (.fad 1 (.t 5)), none, 0, false, []⟩,
    ⟨(some 26), (.load false 1 (.t 25)), none, 0, false, []⟩,
    ⟨(some 27), (.mv (.t 2)), none, 0, false, []⟩,
    ⟨(some 28), (.bin 0 .sub (.t 26) (.t 27)), none, 0, false, []⟩,
    ⟨(some 29), (.mv (.t 2)), none, 0, false, []⟩,
    ⟨(some 30), (.mv (.t 3)), none, 0, false, []⟩,
    ⟨(some 31), (.call 155 [(.t 24), (.t 28), (.t 29), (.t 30)]), none, 0, false, []⟩,
    ⟨(some 32), (.ext (.t 31) 0), none, 0, false, []⟩,
    ⟨(some 33), (.ext (.t 31) 1), none, 0, false, []⟩,
    ⟨none, (.store 5 (.t 8) (.t 32)), none, 0, false, []⟩,
    ⟨(some 9), (.mv (.t 33)), none, 0, false, []⟩] false
def a146_3 : AC := .seq a146_2 .ret
def a146_4 : AC := .cond (.t 23) a146_3 .skip
def a146_5 : AC := .seq a146_1 a146_4
def a146_6 : AC := .reg [⟨(some 34), (.fad 4 (.t 5)), none, 0, false, []⟩,
    ⟨(some 35), (.load false 1 (.t 34)), none, 0, false, []⟩,
    ⟨(some 36), (.len false (.t 35)), none, 0, false, []⟩,
    ⟨(some 37), (.bin 0 .eql (.t 36) (.c (.int .i64 0))), none, 0, false, []⟩] false
def a146_7 : AC := .reg [⟨(some 38), (.fad 4 (.t 5)), none, 0, false, []⟩,
    ⟨none, (.store 1 (.t 38) (.c .nils)), none, 0, false, []⟩] false
def a146_8 : AC := .reg [⟨(some 39), (.load true 5 (.t 5)), none, 0, false, []⟩,
    ⟨none, (.store 5 (.t 8) (.t 39)), none, 0, false, []⟩,
    ⟨(some 9), (.mv (.c (.bool true))), none, 0, false, []⟩] false
def a146_9 : AC := .seq a146_8 .ret
def a146_10 : AC := .seq a146_7 a146_9
def a146_11 : AC := .cond (.t 37) a146_10 .skip
def a146_12 : AC := .seq a146_6 a146_11
def a146_13 : AC := .reg [⟨(some 40), (.fad 4 (.t 5)), none, 0, false, []⟩,
    ⟨(some 41), (.load false 1 (.t 40)), none, 0, false, []⟩,
    ⟨(some 42), (.len false (.t 41)), none, 0, false, []⟩,
    ⟨(some 43), (.mk 5 56 [(.int .i64 0), (.int .i64 0), (.int .i64 0), (.int .i64 0), .nils] (.t 42) (.t 42)), none, 0, false, []⟩,
    ⟨(some 10), (.mv (.t 43)), none, 0, false, []⟩] false
def a146_14 : AC := .reg [⟨(some 44), (.fad 4 (.t 5)), none, 0, false, []⟩,
    ⟨(some 45), (.load false 1 (.t 44)), none, 0, false, []⟩,
    ⟨(some 46), (.len false (.t 45)), none, 0, false, []⟩,
    ⟨(some 47), (.mv (.c (.int .i64 0))), none, 0, false, []⟩] false
def a146_15 : AC := .reg [⟨(some 48), (.bin 0 .lss (.t 47) (.t 46)), none, 0, false, []⟩] false
def a146_16 : AC := .cond (.t 48) .skip (.exit 0)
def a146_17 : AC := .reg [⟨(some 49), (.mv (.t 47)), none, 0, false, []⟩,
    ⟨(some 50), (.iad 5 (.t 45) (.t 47)), none, 0, false, []⟩,
    ⟨(some 51), (.load true 5 (.t 50)), none, 0, false, []⟩,
    ⟨(some 12), (.new [(.int .i64 0), (.int .i64 0), (.int .i64 0), (.int .i64 0), .nils]), none, 0, false, []⟩,
    ⟨(some 11), (.mv (.t 49)), none, 0, false, []⟩,
    ⟨none, (.store 5 (.t 12) (.t 51)), none, 0, false, []⟩] false
def a146_18 : AC := .reg [⟨(some 53), (.mv (.t 0)), none, 0, false, []⟩,
    ⟨(some 54), (.load true 5 (.t 12)), none, 1, true, []⟩,
    ⟨(some 55), (.mv (.t 2)), none, 2, false, []⟩,
    ⟨(some 56), (.fad 0 (.t 5)), none, 3, false, []⟩,
    ⟨(some 57), (.load false 1 (.t 56)), none, 4, true, []⟩,
    ⟨(some 58), (.mv (.t 11)), none, 5, false, []⟩,
    ⟨(some 59), (.call 141 [(.t 57), (.t 58)]), none, 6, true, [1]⟩,
    ⟨(some 60), (.bin 0 .add (.t 55) (.t 59)), none, 7, false, []⟩,
    ⟨(some 61), (.mv (.t 3)), none, 8, false, []⟩,
    ⟨(some 62), (.mv (.t 61)), none, 9, false, []⟩,
    ⟨(some 63), (.fad 0 (.t 5)), (some (62, false)), 10, false, []⟩,
    ⟨(some 64), (.load false 1 (.t 63)), (some (62, false)), 11, true, []⟩,
    ⟨(some 65), (.bin 0 .eql (.t 64) (.c (.int .i64 12))), (some (62, false)), 12, false, []⟩,
    ⟨(some 66), (.mv (.t 65)), (some (62, false)), 13, false, []⟩,
    ⟨(some 67), (.mv (.t 11)), (some (66, true)), 14, false, []⟩,
    ⟨(some 68), (.bin 0 .eql (.t 67) (.c (.int .i64 2))), (some (66, true)), 15, false, []⟩,
    ⟨(some 69), (.pick (.t 66) (.t 68) (.c (.bool false))), (some (62, false)), 16, false, []⟩,
    ⟨(some 70), (.pick (.t 62) (.c (.bool true)) (.t 69)), none, 17, false, []⟩,
    ⟨(some 71), (.call 146 [(.t 53), (.t 54), (.t 60), (.t 70)]), none, 18, true, []⟩,
    ⟨(some 52), (.mv (.t 71)), none, 19, false, []⟩,
    ⟨(some 72), (.ext (.t 52) 0), none, 20, false, []⟩,
    ⟨(some 73), (.ext (.t 52) 1), none, 21, false, []⟩,
    ⟨(some 13), (.new [(.int .i64 0), (.int .i64 0), (.int .i64 0), (.int .i64 0), .nils]), none, 22, false, [1, 4, 6, 11, 18]⟩,
    ⟨none, (.store 5 (.t 13) (.t 72)), none, 23, false, []⟩,
    ⟨(some 14), (.mv (.t 73)), none, 24, false, []⟩] true
def a146_19 : AC := .reg [⟨(some 74), (.mv (.t 14)), none, 0, false, []⟩,
    ⟨(some 75), (.un .not (.t 74)), none, 0, false, []⟩] false
def a146_20 : AC := .reg [⟨(some 76), (.build [(.int .i64 0), (.int .i64 0), (.int .i64 0), (.int .i64 0), .nils] []), none, 0, false, []⟩,
    ⟨none, (.store 5 (.t 8) (.t 76)), none, 0, false, []⟩,
    ⟨(some 9), (.mv (.c (.bool false))), none, 0, false, []⟩] false
def a146_21 : AC := .seq a146_20 .ret
def a146_22 : AC := .cond (.t 75) a146_21 .skip
def a146_23 : AC := .seq a146_19 a146_22
def a146_24 : AC := .reg [⟨(some 77), (.mv (.t 10)), none, 0, false, []⟩,
    ⟨(some 78), (.mv (.t 11)), none, 0, false, []⟩,
    ⟨(some 79), (.load true 5 (.t 13)), none, 0, false, []⟩,
    ⟨(some 80), (.iad 5 (.t 77) (.t 78)), none, 0, false, []⟩,
    ⟨none, (.store 5 (.t 80) (.t 79)), none, 0, false, []⟩] false
def a146_25 : AC := .seq a146_23 a146_24
def a146_26 : AC := .seq a146_18 a146_25
def a146_27 : AC := .seq a146_17 a146_26
def a146_28 : AC := .blk 1 a146_27
def a146_29 : AC := .reg [⟨(some 81), (.bin 0 .add (.t 47) (.c (.int .i64 1))), none, 0, false, []⟩,
    ⟨(some 47), (.mv (.t 81)), none, 0, false, []⟩] false
def a146_30 : AC := .seq a146_28 a146_29
def a146_31 : AC := .seq a146_16 a146_30
def a146_32 : AC := .seq a146_15 a146_31
def a146_33 : AC := .loop a146_32
def a146_34 : AC := .blk 0 a146_33
def a146_35 : AC := .seq a146_14 a146_34
def a146_36 : AC := .reg [⟨(some 82), (.mv (.t 10)), none, 0, false, []⟩,
    ⟨(some 83), (.fad 4 (.t 5)), none, 0, false, []⟩,
    ⟨none, (.store 1 (.t 83) (.t 82)), none, 0, false, []⟩] false
def a146_37 : AC := .reg [⟨(some 84), (.load true 5 (.t 5)), none, 0, false, []⟩,
    ⟨none, (.store 5 (.t 8) (.t 84)), none, 0, false, []⟩,
    ⟨(some 9), (.mv (.c (.bool true))), none, 0, false, []⟩] false
def a146_38 : AC := .seq a146_37 .ret
def a146_39 : AC := .seq a146_36 a146_38
def a146_40 : AC := .seq a146_35 a146_39
def a146_41 : AC := .seq a146_13 a146_40
def a146_42 : AC := .seq a146_12 a146_41
def a146_43 : AC := .seq a146_5 a146_42
def a146_44 : AC := .seq a146_0 a146_43
def af146 : AF := { ntmps := 85, res := [(.cell 8 true 5), (.t 9)], body := a146_44 }
theorem tr146 : trF Try.prog Try.f146 = some af146 := by kernel_rfl
attribute [go_sem] af146 a146_0 a146_1 a146_2 a146_3 a146_4 a146_5 a146_6 a146_7 a146_8 a146_9 a146_10 a146_11 a146_12 a146_13 a146_14 a146_15 a146_16 a146_17 a146_18 a146_19 a146_20 a146_21 a146_22 a146_23 a146_24 a146_25 a146_26 a146_27 a146_28 a146_29 a146_30 a146_31 a146_32 a146_33 a146_34 a146_35 a146_36 a146_37 a146_38 a146_39 a146_40 a146_41 a146_42 a146_43 a146_44
def a147_0 : AC := .reg [⟨(some 3), (.box (.t 0)), none, 0, false, []⟩,
    ⟨(some 6), (.new [(.int .i64 0), (.int .i64 0), (.int .i64 0), (.int .i64 0), .nils]), none, 0, false, []⟩,
    ⟨(some 7), (.mv (.c (.bool false))), none, 0, false, []⟩] false
def a147_1 : AC := .reg [⟨(some 8), (.mv (.t 2)), none, 0, false, []⟩] false
def a147_2 : AC := .reg [⟨(some 9), (.load true 5 (.t 3)), none, 0, false, []⟩,
    ⟨(some 10), (.call 156 [(.t 9)]), none, 0, false, []⟩,
    ⟨none, (.store 5 (.t 3) (.t 10)), none, 0, false, []⟩] false
def a147_3 : AC := .cond (.t 8) a147_2 .skip
def a147_4 : AC := .seq a147_1 a147_3
def a147_5 : AC := .reg [⟨(some 11), (.load true 5 (.t 3)), none, 0, false, []⟩,
    ⟨(some 12), (.mv (.t 1)), none, 0, false, []⟩,
    ⟨(some 13), (.call 135 [(.t 11), (.t 12), (.c (.int .i64 0))]), none, 0, false, []⟩,
    ⟨(some 14), (.ext (.t 13) 0), none, 0, false, []⟩,
    ⟨(some 15), (.ext (.t 13) 1), none, 0, false, []⟩,
    ⟨none, (.store 5 (.t 6) (.t 14)), none, 0, false, []⟩,
    ⟨(some 7), (.mv (.t 15)), none, 0, false, []⟩] false
def a147_6 : AC := .seq a147_5 .ret
def a147_7 : AC := .seq a147_4 a147_6
def a147_8 : AC := .seq a147_0 a147_7
def af147 : AF := { ntmps := 16, res := [(.cell 6 true 5), (.t 7)], body := a147_8 }
theorem tr147 : trF Try.prog Try.f147 = some af147 := by kernel_rfl
attribute [go_sem] af147 a147_0 a147_1 a147_2 a147_3 a147_4 a147_5 a147_6 a147_7 a147_8
def a148_0 : AC := .reg [⟨(some 2), (.box (.t 0)), none, 0, false, []⟩,
    ⟨(some 4), (.mv (.c (.bool false))), none, 0, false, []⟩] false
def a148_1 : AC := .reg [⟨(some 5), (.fad 0 (.t 2)), none, 0, false, []⟩,
    ⟨(some 6), (.load false 1 (.t 5)), none, 0, false, []⟩,
    ⟨(some 7), (.bin 0 .gtr (.t 6) (.c (.int .i64 12))), none, 0, false, []⟩,
    ⟨(some 8), (.mv (.t 7)), none, 0, false, []⟩,
    ⟨(some 9), (.fad 0 (.t 2)), (some (8, false)), 0, false, []⟩,
    ⟨(some 10), (.load false 1 (.t 9)), (some (8, false)), 0, false, []⟩,
    ⟨(some 11), (.bin 0 .eql (.t 10) (.c (.int .i64 12))), (some (8, false)), 0, false, []⟩,
    ⟨(some 12), (.mv (.t 11)), (some (8, false)), 0, false, []⟩,
    ⟨(some 13), (.mv (.t 1)), (some (12, true)), 0, false, []⟩,
    ⟨(some 14), (.bin 0 .eql (.t 13) (.c (.int .i64 2))), (some (12, true)), 0, false, []⟩,
    ⟨(some 15), (.pick (.t 12) (.t 14) (.c (.bool false))), (some (8, false)), 0, false, []⟩,
    ⟨(some 16), (.pick (.t 8) (.c (.bool true)) (.t 15)), none, 0, false, []⟩,
    ⟨(some 4), (.mv (.t 16)), none, 0, false, []⟩] false
def a148_2 : AC := .seq a148_1 .ret
def a148_3 : AC := .seq a148_0 a148_2
def af148 : AF := { ntmps := 17, res := [(.t 4)], body := a148_3 }
theorem tr148 : trF Try.prog Try.f148 = some af148 := by kernel_rfl
attribute [go_sem] af148 a148_0 a148_1 a148_2 a148_3
def a154_0 : AC := .reg [⟨(some 1), (.box (.t 0)), none, 0, false, []⟩,
    ⟨(some 2), (.new [(.int .i64 0), (.int .i64 0), (.int .i64 0), (.int .i64 0), .nils]), none, 0, false, []⟩] false
def a154_1 : AC := .reg [⟨(some 3), (.mv (.c (.int .i64 0))), none, 0, false, []⟩,
    ⟨(some 4), (.mv (.c (.int .i64 0))), none, 0, false, []⟩] false
def a154_2 : AC := .reg [⟨(some 8), (.fad 0 (.t 1)), none, 0, false, []⟩,
    ⟨(some 9), (.load false 1 (.t 8)), none, 0, false, []⟩] false
def a154_3 : AC := .reg [⟨(some 13), (.bin 0 .eql (.t 9) (.c (.int .i64 3))), none, 0, false, []⟩,
    ⟨(some 12), (.mv (.t 13)), none, 0, false, []⟩] false
def a154_4 : AC := .reg [⟨(some 3), (.mv (.c (.int .i64 13))), none, 0, false, []⟩] false
def a154_5 : AC := .reg [⟨(some 15), (.bin 0 .eql (.t 9) (.c (.int .i64 4))), none, 0, false, []⟩,
    ⟨(some 14), (.mv (.t 15)), none, 0, false, []⟩] false
def a154_6 : AC := .reg [⟨(some 16), (.fad 4 (.t 1)), none, 0, false, []⟩,
    ⟨(some 17), (.load false 1 (.t 16)), none, 1, false, []⟩,
    ⟨(some 18), (.iad 5 (.t 17) (.c (.int .i64 0))), none, 2, false, []⟩,
    ⟨(some 19), (.load true 5 (.t 18)), none, 3, false, []⟩,
    ⟨(some 20), (.call 154 [(.t 19)]), none, 4, true, []⟩,
    ⟨(some 21), (.fad 4 (.t 1)), none, 5, false, []⟩,
    ⟨(some 22), (.load false 1 (.t 21)), none, 6, false, [4]⟩,
    ⟨(some 23), (.iad 5 (.t 22) (.c (.int .i64 2))), none, 7, false, [4]⟩,
    ⟨(some 24), (.load true 5 (.t 23)), none, 8, false, [4]⟩,
    ⟨(some 25), (.call 154 [(.t 24)]), none, 9, false, []⟩,
    ⟨(some 26), (.bslice 5 [(.t 20), (.t 25)]), none, 10, false, []⟩,
    ⟨(some 27), (.call 97 [(.c (.int .i64 14)), (.c (.int .i64 0)), (.c (.int .i64 0)), (.c (.int .i64 0)), (.t 26)]), none, 11, false, []⟩,
    ⟨none, (.store 5 (.t 2) (.t 27)), none, 12, false, []⟩] true
def a154_7 : AC := .seq a154_6 .ret
def a154_8 : AC := .reg [⟨(some 29), (.bin 0 .eql (.t 9) (.c (.int .i64 5))), none, 0, false, []⟩,
    ⟨(some 28), (.mv (.t 29)), none, 0, false, []⟩] false
def a154_9 : AC := .reg [⟨(some 3), (.mv (.c (.int .i64 15))), none, 0, false, []⟩,
    ⟨(some 4), (.mv (.c (.int .i64 2))), none, 0, false, []⟩] false
def a154_10 : AC := .reg [⟨(some 31), (.bin 0 .eql (.t 9) (.c (.int .i64 6))), none, 0, false, []⟩,
    ⟨(some 30), (.mv (.t 31)), none, 0, false, []⟩] false
def a154_11 : AC := .reg [⟨(some 3), (.mv (.c (.int .i64 16))), none, 0, false, []⟩] false
def a154_12 : AC := .reg [⟨(some 33), (.bin 0 .eql (.t 9) (.c (.int .i64 7))), none, 0, false, []⟩,
    ⟨(some 32), (.mv (.t 33)), none, 0, false, []⟩] false
def a154_13 : AC := .reg [⟨(some 3), (.mv (.c (.int .i64 17))), none, 0, false, []⟩] false
def a154_14 : AC := .reg [⟨(some 35), (.bin 0 .eql (.t 9) (.c (.int .i64 8))), none, 0, false, []⟩,
    ⟨(some 34), (.mv (.t 35)), none, 0, false, []⟩] false
def a154_15 : AC := .reg [⟨(some 3), (.mv (.c (.int .i64 18))), none, 0, false, []⟩,
    ⟨(some 4), (.mv (.c (.int .i64 2))), none, 0, false, []⟩] false
def a154_16 : AC := .reg [⟨(some 37), (.bin 0 .eql (.t 9) (.c (.int .i64 9))), none, 0, false, []⟩,
    ⟨(some 36), (.mv (.t 37)), none, 0, false, []⟩] false
def a154_17 : AC := .reg [⟨(some 3), (.mv (.c (.int .i64 19))), none, 0, false, []⟩,
    ⟨(some 4), (.mv (.c (.int .i64 2))), none, 0, false, []⟩] false
def a154_18 : AC := .reg [⟨(some 39), (.bin 0 .eql (.t 9) (.c (.int .i64 10))), none, 0, false, []⟩,
    ⟨(some 38), (.mv (.t 39)), none, 0, false, []⟩] false
def a154_19 : AC := .reg [⟨(some 3), (.mv (.c (.int .i64 20))), none, 0, false, []⟩] false
def a154_20 : AC := .reg [⟨(some 41), (.bin 0 .eql (.t 9) (.c (.int .i64 11))), none, 0, false, []⟩,
    ⟨(some 40), (.mv (.t 41)), none, 0, false, []⟩] false
def a154_21 : AC := .reg [⟨(some 3), (.mv (.c (.int .i64 21))), none, 0, false, []⟩] false
def a154_22 : AC := .reg [⟨(some 43), (.bin 0 .eql (.t 9) (.c (.int .i64 12))), none, 0, false, []⟩,
    ⟨(some 42), (.mv (.t 43)), none, 0, false, []⟩] false
def a154_23 : AC := .reg [⟨(some 44), (.fad 1 (.t 1)), none, 0, false, []⟩,
    ⟨(some 45), (.load false 1 (.t 44)), none, 1, true, []⟩,
    ⟨(some 46), (.fad 4 (.t 1)), none, 2, false, []⟩,
    ⟨(some 47), (.load false 1 (.t 46)), none, 3, false, []⟩,
    ⟨(some 48), (.iad 5 (.t 47) (.c (.int .i64 0))), none, 4, false, []⟩,
    ⟨(some 49), (.load true 5 (.t 48)), none, 5, false, []⟩,
    ⟨(some 50), (.call 154 [(.t 49)]), none, 6, true, [1]⟩,
    ⟨(some 51), (.fad 4 (.t 1)), none, 7, false, []⟩,
    ⟨(some 52), (.load false 1 (.t 51)), none, 8, false, [6]⟩,
    ⟨(some 53), (.iad 5 (.t 52) (.c (.int .i64 1))), none, 9, false, [6]⟩,
    ⟨(some 54), (.load true 5 (.t 53)), none, 10, false, [6]⟩,
    ⟨(some 55), (.call 154 [(.t 54)]), none, 11, true, [1]⟩,
    ⟨(some 56), (.fad 4 (.t 1)), none, 12, false, []⟩,
    ⟨(some 57), (.load false 1 (.t 56)), none, 13, false, [6, 11]⟩,
    ⟨(some 58), (.iad 5 (.t 57) (.c (.int .i64 2))), none, 14, false, [6, 11]⟩,
    ⟨(some 59), (.load true 5 (.t 58)), none, 15, false, [6, 11]⟩,
    ⟨(some 60), (.call 90 [(.t 59)]), none, 16, true, [1]⟩,
    ⟨(some 61), (.fad 4 (.t 1)), none, 17, false, []⟩,
    ⟨(some 62), (.load false 1 (.t 61)), none, 18, false, [6, 11, 16]⟩,
    ⟨(some 63), (.iad 5 (.t 62) (.c (.int .i64 3))), none, 19, false, [6, 11, 16]⟩,
    ⟨(some 64), (.load true 5 (.t 63)), none, 20, false, [6, 11, 16]⟩,
    ⟨(some 65), (.call 154 [(.t 64)]), none, 21, false, [1]⟩,
    ⟨(some 66), (.bslice 5 [(.t 50), (.t 55), (.t 60), (.t 65)]), none, 22, false, [1]⟩,
    ⟨(some 67), (.call 97 [(.c (.int .i64 23)), (.t 45), (.c (.int .i64 0)), (.c (.int .i64 5)), (.t 66)]), none, 23, false, []⟩,
    ⟨none, (.store 5 (.t 2) (.t 67)), none, 24, false, []⟩] true
def a154_24 : AC := .seq a154_23 .ret
def a154_25 : AC := .reg [⟨(some 10), (.load true 5 (.t 1)), none, 0, false, []⟩,
    ⟨(some 11), (.call 90 [(.t 10)]), none, 0, false, []⟩,
    ⟨none, (.store 5 (.t 2) (.t 11)), none, 0, false, []⟩] false
def a154_26 : AC := .seq a154_25 .ret
def a154_27 : AC := .cond (.t 42) a154_24 a154_26
def a154_28 : AC := .seq a154_22 a154_27
def a154_29 : AC := .cond (.t 40) a154_21 a154_28
def a154_30 : AC := .seq a154_20 a154_29
def a154_31 : AC := .cond (.t 38) a154_19 a154_30
def a154_32 : AC := .seq a154_18 a154_31
def a154_33 : AC := .cond (.t 36) a154_17 a154_32
def a154_34 : AC := .seq a154_16 a154_33
def a154_35 : AC := .cond (.t 34) a154_15 a154_34
def a154_36 : AC := .seq a154_14 a154_35
def a154_37 : AC := .cond (.t 32) a154_13 a154_36
def a154_38 : AC := .seq a154_12 a154_37
def a154_39 : AC := .cond (.t 30) a154_11 a154_38
def a154_40 : AC := .seq a154_10 a154_39
def a154_41 : AC := .cond (.t 28) a154_9 a154_40
def a154_42 : AC := .seq a154_8 a154_41
def a154_43 : AC := .cond (.t 14) a154_7 a154_42
def a154_44 : AC := .seq a154_5 a154_43
def a154_45 : AC := .cond (.t 12) a154_4 a154_44
def a154_46 : AC := .seq a154_3 a154_45
def a154_47 : AC := .blk 0 a154_46
def a154_48 : AC := .seq a154_2 a154_47
def a154_49 : AC := .reg [⟨(some 68), (.mv (.t 3)), none, 0, false, []⟩,
    ⟨(some 69), (.fad 4 (.t 1)), none, 0, false, []⟩,
    ⟨(some 70), (.load false 1 (.t 69)), none, 0, false, []⟩,
    ⟨(some 71), (.len false (.t 70)), none, 0, false, []⟩,
    ⟨(some 72), (.mv (.t 4)), none, 0, false, []⟩,
    ⟨(some 73), (.bin 0 .sub (.t 71) (.t 72)), none, 0, false, []⟩,
    ⟨(some 74), (.mk 5 56 [(.int .i64 0), (.int .i64 0), (.int .i64 0), (.int .i64 0), .nils] (.c (.int .i64 0)) (.t 73)), none, 0, false, []⟩,
    ⟨(some 75), (.build [(.int .i64 0), (.int .i64 0), (.int .i64 0), (.int .i64 0), .nils] [(0, (1, (.t 68))), (4, (1, (.t 74)))]), none, 0, false, []⟩,
    ⟨(some 5), (.new [(.int .i64 0), (.int .i64 0), (.int .i64 0), (.int .i64 0), .nils]), none, 0, false, []⟩,
    ⟨none, (.store 5 (.t 5) (.t 75)), none, 0, false, []⟩] false
def a154_50 : AC := .reg [⟨(some 76), (.fad 4 (.t 1)), none, 0, false, []⟩,
    ⟨(some 77), (.load false 1 (.t 76)), none, 0, false, []⟩,
    ⟨(some 78), (.mv (.t 4)), none, 0, false, []⟩,
    ⟨(some 79), (.slc 5 (.t 77) (some (.t 78)) none), none, 0, false, []⟩,
    ⟨(some 80), (.len false (.t 79)), none, 0, false, []⟩,
    ⟨(some 81), (.mv (.c (.int .i64 0))), none, 0, false, []⟩] false
def a154_51 : AC := .reg [⟨(some 82), (.bin 0 .lss (.t 81) (.t 80)), none, 0, false, []⟩] false
def a154_52 : AC := .cond (.t 82) .skip (.exit 1)
def a154_53 : AC := .reg [⟨(some 83), (.iad 5 (.t 79) (.t 81)), none, 0, false, []⟩,
    ⟨(some 84), (.load true 5 (.t 83)), none, 0, false, []⟩,
    ⟨(some 7), (.new [(.int .i64 0), (.int .i64 0), (.int .i64 0), (.int .i64 0), .nils]), none, 0, false, []⟩,
    ⟨none, (.store 5 (.t 7) (.t 84)), none, 0, false, []⟩] false
def a154_54 : AC := .reg [⟨(some 85), (.fad 4 (.t 5)), none, 0, false, []⟩,
    ⟨(some 86), (.load false 1 (.t 85)), none, 1, true, []⟩,
    ⟨(some 87), (.load true 5 (.t 7)), none, 2, false, []⟩,
    ⟨(some 88), (.call 154 [(.t 87)]), none, 3, false, [1]⟩,
    ⟨(some 89), (.bslice 5 [(.t 88)]), none, 4, false, [1]⟩,
    ⟨(some 90), (.app 5 56 (.t 86) (.t 89)), none, 5, false, []⟩,
    ⟨(some 91), (.fad 4 (.t 5)), none, 6, false, []⟩,
    ⟨none, (.store 1 (.t 91) (.t 90)), none, 7, false, []⟩] true
def a154_55 : AC := .seq a154_53 a154_54
def a154_56 : AC := .blk 2 a154_55
def a154_57 : AC := .reg [⟨(some 92), (.bin 0 .add (.t 81) (.c (.int .i64 1))), none, 0, false, []⟩,
    ⟨(some 81), (.mv (.t 92)), none, 0, false, []⟩] false
def a154_58 : AC := .seq a154_56 a154_57
def a154_59 : AC := .seq a154_52 a154_58
def a154_60 : AC := .seq a154_51 a154_59
def a154_61 : AC := .loop a154_60
def a154_62 : AC := .blk 1 a154_61
def a154_63 : AC := .seq a154_50 a154_62
def a154_64 : AC := .reg [⟨(some 93), (.load true 5 (.t 5)), none, 0, false, []⟩,
    ⟨none, (.store 5 (.t 2) (.t 93)), none, 0, false, []⟩] false
def a154_65 : AC := .seq a154_64 .ret
def a154_66 : AC := .seq a154_63 a154_65
def a154_67 : AC := .seq a154_49 a154_66
def a154_68 : AC := .seq a154_48 a154_67
def a154_69 : AC := .seq a154_1 a154_68
def a154_70 : AC := .seq a154_0 a154_69
def af154 : AF := { ntmps := 94, res := [(.cell 2 true 5)], body := a154_70 }
theorem tr154 : trF Try.prog Try.f154 = some af154 := by kernel_rfl
attribute [go_sem] af154 a154_0 a154_1 a154_2 a154_3 a154_4 a154_5 a154_6 a154_7 a154_8 a154_9 a154_10 a154_11 a154_12 a154_13 a154_14 a154_15 a154_16 a154_17 a154_18 a154_19 a154_20 a154_21 a154_22 a154_23 a154_24 a154_25 a154_26 a154_27 a154_28 a154_29 a154_30 a154_31 a154_32 a154_33 a154_34 a154_35 a154_36 a154_37 a154_38 a154_39 a154_40 a154_41 a154_42 a154_43 a154_44 a154_45 a154_46 a154_47 a154_48 a154_49 a154_50 a154_51 a154_52 a154_53 a154_54 a154_55 a154_56 a154_57 a154_58 a154_59 a154_60 a154_61 a154_62 a154_63 a154_64 a154_65 a154_66 a154_67 a154_68 a154_69 a154_70
def a155_0 : AC := .reg [⟨(some 8), (.new [(.int .i64 0), (.int .i64 0), (.int .i64 0), (.int .i64 0), .nils]), none, 0, false, []⟩,
    ⟨(some 9), (.mv (.c (.bool false))), none, 0, false, []⟩] false
def a155_1 : AC := .reg [⟨(some 10), (.mv (.t 1)), none, 0, false, []⟩,
    ⟨(some 11), (.mv (.t 0)), none, 0, false, []⟩,
    ⟨(some 12), (.nilck (.t 11)), none, 0, false, []⟩,
    ⟨(some 13), (.fad 0 (.t 12)), none, 0, false, []⟩,
    ⟨(some 14), (.load false 1 (.t 13)), none, 0, false, []⟩,
    ⟨(some 15), (.len false (.t 14)), none, 0, false, []⟩,
    ⟨(some 16), (.bin 0 .geq (.t 10) (.t 15)), none, 0, false, []⟩] false
def a155_2 : AC := .reg [⟨(some 17), (.mv (.t 0)), none, 0, false, []⟩,
    ⟨(some 18), (.nilck (.t 17)), none, 0, false, []⟩,
    ⟨(some 19), (.fad 2 (.t 18)), none, 0, false, []⟩,
    ⟨(some 20), (.load false 1 (.t 19)), none, 0, false, []⟩,
    ⟨(some 21), (.un .not (.t 20)), none, 0, false, []⟩] false
def a155_3 : AC := .reg [⟨(some 22), (.build [(.int .i64 0), (.int .i64 0), (.int .i64 0), (.int .i64 0), .nils] []), none, 0, false, []⟩,
    ⟨none, (.store 5 (.t 8) (.t 22)), none, 0, false, []⟩,
    ⟨(some 9), (.mv (.c (.bool false))), none, 0, false, []⟩] false
def a155_4 : AC := .seq a155_3 .ret
def a155_5 : AC := .cond (.t 21) a155_4 .skip
def a155_6 : AC := .seq a155_2 a155_5
def a155_7 : AC := .reg [⟨(some 23), (.mv (.t 1)), none, 0, false, []⟩,
    ⟨(some 24), (.mv (.t 0)), none, 0, false, []⟩,
    ⟨(some 25), (.nilck (.t 24)), none, 0, false, []⟩,
    ⟨(some 26), (.fad 0 (.t 25)), none, 0, false, []⟩,
    ⟨(some 27), (.load false 1 (.t 26)), none, 0, false, []⟩,
    ⟨(some 28), (.len false (.t 27)), none, 0, false, []⟩,
    ⟨(some 29), (.bin 0 .sub (.t 23) (.t 28)), none, 0, false, []⟩,
    ⟨(some 30), (.mv (.t 2)), none, 0, false, []⟩,
    ⟨(some 31), (.bin 0 .add (.t 29) (.t 30)), none, 0, false, []⟩,
    ⟨(some 32), (.call 99 [(.t 31)]), none, 0, false, []⟩,
    ⟨none, (.store 5 (.t 8) (.t 32)), none, 0, false, []⟩,
    ⟨(some 9), (.mv (.c (.bool true))), none, 0, false, []⟩] false
def a155_8 : AC := .seq a155_7 .ret
def a155_9 : AC := .seq a155_6 a155_8
def a155_10 : AC := .cond (.t 16) a155_9 .skip
def a155_11 : AC := .seq a155_1 a155_10
def a155_12 : AC := .reg [⟨(some 33), (.mv (.t 3)), none, 0, false, []⟩] false
def a155_13 : AC := .reg [⟨(some 34), (.mv (.t 0)), none, 0, false, []⟩,
    ⟨(some 35), (.nilck (.t 34)), none, 0, false, []⟩,
    ⟨(some 36), (.fad 1 (.t 35)), none, 0, false, []⟩,
    ⟨(some 37), (.load false 1 (.t 36)), none, 0, false, []⟩,
    ⟨(some 38), (.mv (.t 1)), none, 0, false, []⟩,
    ⟨(some 39), (.iad 5 (.t 37) (.t 38)), none, 0, false, []⟩,
    ⟨(some 40), (.load true 5 (.t 39)), none, 0, false, []⟩,
    ⟨(some 41), (.mv (.t 2)), none, 0, false, []⟩,
    ⟨(some 42), (.call 133 [(.t 40), (.t 41), (.c (.int .i64 0))]), none, 0, false, []⟩,
    ⟨(some 43), (.ext (.t 42) 0), none, 0, false, []⟩,
    ⟨(some 44), (.ext (.t 42) 1), none, 0, false, []⟩,
    ⟨none, (.store 5 (.t 8) (.t 43)), none, 0, false, []⟩,
    ⟨(some 9), (.mv (.t 44)), none, 0, false, []⟩] false
def a155_14 : AC := .seq a155_13 .ret
def a155_15 : AC := .cond (.t 33) a155_14 .skip
def a155_16 : AC := .seq a155_12 a155_15
def a155_17 : AC := .reg [⟨(some 45), (.mv (.t 0)), none, 0, false, []⟩,
    ⟨(some 46), (.nilck (.t 45)), none, 0, false, []⟩,
    ⟨(some 47), (.fad 0 (.t 46)), none, 0, false, []⟩,
    ⟨(some 48), (.load false 1 (.t 47)), none, 0, false, []⟩,
    ⟨(some 49), (.mv (.t 1)), none, 0, false, []⟩,
    ⟨(some 50), (.iad 5 (.t 48) (.t 49)), none, 0, false, []⟩,
    ⟨(some 51), (.load true 5 (.t 50)), none, 0, false, []⟩,
    ⟨(some 52), (.mv (.t 2)), none, 0, false, []⟩,
    ⟨(some 53), (.call 133 [(.t 51), (.t 52), (.c (.int .i64 0))]), none, 0, false, []⟩,
    ⟨(some 54), (.ext (.t 53) 0), none, 0, false, []⟩,
    ⟨(some 55), (.ext (.t 53) 1), none, 0, false, []⟩,
    ⟨none, (.store 5 (.t 8) (.t 54)), none, 0, false, []⟩,
    ⟨(some 9), (.mv (.t 55)), none, 0, false, []⟩] false
def a155_18 : AC := .seq a155_17 .ret
def a155_19 : AC := .seq a155_16 a155_18
def a155_20 : AC := .seq a155_11 a155_19
def a155_21 : AC := .seq a155_0 a155_20
def af155 : AF := { ntmps := 56, res := [(.cell 8 true 5), (.t 9)], body := a155_21 }
theorem tr155 : trF Try.prog Try.f155 = some af155 := by kernel_rfl
attribute [go_sem] af155 a155_0 a155_1 a155_2 a155_3 a155_4 a155_5 a155_6 a155_7 a155_8 a155_9 a155_10 a155_11 a155_12 a155_13 a155_14 a155_15 a155_16 a155_17 a155_18 a155_19 a155_20 a155_21
def a156_0 : AC := .reg [⟨(some 1), (.box (.t 0)), none, 0, false, []⟩,
    ⟨(some 2), (.new [(.int .i64 0), (.int .i64 0), (.int .i64 0), (.int .i64 0), .nils]), none, 0, false, []⟩] false
def a156_1 : AC := .reg [⟨(some 4), (.load true 5 (.t 1)), none, 0, false, []⟩,
    ⟨(some 5), (.call 131 [(.t 4)]), none, 0, false, []⟩,
    ⟨(some 3), (.mv (.t 5)), none, 0, false, []⟩] false
def a156_2 : AC := .reg [⟨(some 6), (.load true 5 (.t 1)), none, 0, false, []⟩,
    ⟨none, (.store 5 (.t 2) (.t 6)), none, 0, false, []⟩] false
def a156_3 : AC := .seq a156_2 .ret
def a156_4 : AC := .reg [⟨(some 8), (.load true 5 (.t 1)), none, 0, false, []⟩,
    ⟨(some 9), (.call 142 [(.t 8)]), none, 0, false, []⟩,
    ⟨(some 7), (.mv (.t 9)), none, 0, false, []⟩] false
def a156_5 : AC := .reg [⟨(some 10), (.load true 5 (.t 1)), none, 0, false, []⟩,
    ⟨(some 11), (.call 160 [(.t 10)]), none, 0, false, []⟩,
    ⟨none, (.store 5 (.t 2) (.t 11)), none, 0, false, []⟩] false
def a156_6 : AC := .seq a156_5 .ret
def a156_7 : AC := .cond (.t 7) a156_6 .skip
def a156_8 : AC := .seq a156_4 a156_7
def a156_9 : AC := .cond (.t 3) a156_3 a156_8
def a156_10 : AC := .seq a156_1 a156_9
def a156_11 : AC := .blk 0 a156_10
def a156_12 : AC := .reg [⟨(some 12), (.build [(.int .i64 0), (.int .i64 0), (.int .i64 0), (.int .i64 0), .nils] []), none, 0, false, []⟩,
    ⟨none, (.store 5 (.t 2) (.t 12)), none, 0, false, []⟩] false
def a156_13 : AC := .seq a156_12 .ret
def a156_14 : AC := .seq a156_11 a156_13
def a156_15 : AC := .seq a156_0 a156_14
def af156 : AF := { ntmps := 13, res := [(.cell 2 true 5)], body := a156_15 }
theorem tr156 : trF Try.prog Try.f156 = some af156 := by kernel_rfl
attribute [go_sem] af156 a156_0 a156_1 a156_2 a156_3 a156_4 a156_5 a156_6 a156_7 a156_8 a156_9 a156_10 a156_11 a156_12 a156_13 a156_14 a156_15
def a160_0 : AC := .reg [⟨(some 1), (.box (.t 0)), none, 0, false, []⟩,
    ⟨(some 2), (.new [(.int .i64 0), (.int .i64 0), (.int .i64 0), (.int .i64 0), .nils]), none, 0, false, []⟩] false
def a160_1 : AC := .reg [⟨(some 7), (.bslice 1 []), none, 0, false, []⟩,
    ⟨(some 3), (.mv (.c (.int .i64 0))), none, 0, false, []⟩,
    ⟨(some 4), (.mv (.t 7)), none, 0, false, []⟩] false
def a160_2 : AC := .reg [⟨(some 8), (.fad 0 (.t 1)), none, 0, false, []⟩,
    ⟨(some 9), (.load false 1 (.t 8)), none, 0, false, []⟩] false
def a160_3 : AC := .reg [⟨(some 12), (.bin 0 .eql (.t 9) (.c (.int .i64 3))), none, 0, false, []⟩,
    ⟨(some 11), (.mv (.t 12)), none, 0, false, []⟩] false
def a160_4 : AC := .reg [⟨(some 13), (.bslice 1 [(.c (.int .i64 0)), (.c (.int .i64 1))]), none, 0, false, []⟩,
    ⟨(some 3), (.mv (.c (.int .i64 13))), none, 0, false, []⟩,
    ⟨(some 4), (.mv (.t 13)), none, 0, false, []⟩] false
def a160_5 : AC := .reg [⟨(some 15), (.bin 0 .eql (.t 9) (.c (.int .i64 4))), none, 0, false, []⟩,
    ⟨(some 14), (.mv (.t 15)), none, 0, false, []⟩] false
def a160_6 : AC := .reg [⟨(some 16), (.bslice 1 [(.c (.int .i64 0)), (.c (.int .i64 2))]), none, 0, false, []⟩,
    ⟨(some 3), (.mv (.c (.int .i64 14))), none, 0, false, []⟩,
    ⟨(some 4), (.mv (.t 16)), none, 0, false, []⟩] false
def a160_7 : AC := .reg [⟨(some 18), (.bin 0 .eql (.t 9) (.c (.int .i64 5))), none, 0, false, []⟩,
    ⟨(some 17), (.mv (.t 18)), none, 0, false, []⟩] false
def a160_8 : AC := .reg [⟨(some 19), (.bslice 1 [(.c (.int .i64 2)), (.c (.int .i64 3))]), none, 0, false, []⟩,
    ⟨(some 3), (.mv (.c (.int .i64 15))), none, 0, false, []⟩,
    ⟨(some 4), (.mv (.t 19)), none, 0, false, []⟩] false
def a160_9 : AC := .reg [⟨(some 21), (.bin 0 .eql (.t 9) (.c (.int .i64 6))), none, 0, false, []⟩,
    ⟨(some 20), (.mv (.t 21)), none, 0, false, []⟩] false
def a160_10 : AC := .reg [⟨(some 22), (.bslice 1 [(.c (.int .i64 0)), (.c (.int .i64 1))]), none, 0, false, []⟩,
    ⟨(some 3), (.mv (.c (.int .i64 16))), none, 0, false, []⟩,
    ⟨(some 4), (.mv (.t 22)), none, 0, false, []⟩] false
def a160_11 : AC := .reg [⟨(some 24), (.bin 0 .eql (.t 9) (.c (.int .i64 7))), none, 0, false, []⟩,
    ⟨(some 23), (.mv (.t 24)), none, 0, false, []⟩] false
def a160_12 : AC := .reg [⟨(some 25), (.bslice 1 [(.c (.int .i64 0)), (.c (.int .i64 1)), (.c (.int .i64 2)), (.c (.int .i64 3))]), none, 0, false, []⟩,
    ⟨(some 3), (.mv (.c (.int .i64 17))), none, 0, false, []⟩,
    ⟨(some 4), (.mv (.t 25)), none, 0, false, []⟩] false
def a160_13 : AC := .reg [⟨(some 27), (.bin 0 .eql (.t 9) (.c (.int .i64 8))), none, 0, false, []⟩,
    ⟨(some 26), (.mv (.t 27)), none, 0, false, []⟩] false
def a160_14 : AC := .reg [⟨(some 28), (.bslice 1 [(.c (.int .i64 2))]), none, 0, false, []⟩,
    ⟨(some 3), (.mv (.c (.int .i64 18))), none, 0, false, []⟩,
    ⟨(some 4), (.mv (.t 28)), none, 0, false, []⟩] false
def a160_15 : AC := .reg [⟨(some 30), (.bin 0 .eql (.t 9) (.c (.int .i64 9))), none, 0, false, []⟩,
    ⟨(some 29), (.mv (.t 30)), none, 0, false, []⟩] false
def a160_16 : AC := .reg [⟨(some 31), (.bslice 1 [(.c (.int .i64 2))]), none, 0, false, []⟩,
    ⟨(some 3), (.mv (.c (.int .i64 19))), none, 0, false, []⟩,
    ⟨(some 4), (.mv (.t 31)), none, 0, false, []⟩] false
def a160_17 : AC := .reg [⟨(some 33), (.bin 0 .eql (.t 9) (.c (.int .i64 10))), none, 0, false, []⟩,
    ⟨(some 32), (.mv (.t 33)), none, 0, false, []⟩] false
def a160_18 : AC := .reg [⟨(some 34), (.bslice 1 [(.c (.int .i64 0)), (.c (.int .i64 1)), (.c (.int .i64 2))]), none, 0, false, []⟩,
    ⟨(some 3), (.mv (.c (.int .i64 20))), none, 0, false, []⟩,
    ⟨(some 4), (.mv (.t 34)), none, 0, false, []⟩] false
def a160_19 : AC := .reg [⟨(some 36), (.bin 0 .eql (.t 9) (.c (.int .i64 11))), none, 0, false, []⟩,
    ⟨(some 35), (.mv (.t 36)), none, 0, false, []⟩] false
def a160_20 : AC := .reg [⟨(some 37), (.bslice 1 [(.c (.int .i64 0)), (.c (.int .i64 1))]), none, 0, false, []⟩,
    ⟨(some 3), (.mv (.c (.int .i64 21))), none, 0, false, []⟩,
    ⟨(some 4), (.mv (.t 37)), none, 0, false, []⟩] false
def a160_21 : AC := .reg [⟨(some 39), (.bin 0 .eql (.t 9) (.c (.int .i64 12))), none, 0, false, []⟩,
    ⟨(some 38), (.mv (.t 39)), none, 0, false, []⟩] false
def a160_22 : AC := .reg [⟨(some 40), (.fad 1 (.t 1)), none, 0, false, []⟩,
    ⟨(some 41), (.load false 1 (.t 40)), none, 1, true, []⟩,
    ⟨(some 42), (.fad 4 (.t 1)), none, 2, false, []⟩,
    ⟨(some 43), (.load false 1 (.t 42)), none, 3, false, []⟩,
    ⟨(some 44), (.iad 5 (.t 43) (.c (.int .i64 0))), none, 4, false, []⟩,
    ⟨(some 45), (.load true 5 (.t 44)), none, 5, false, []⟩,
    ⟨(some 46), (.call 160 [(.t 45)]), none, 6, true, [1]⟩,
    ⟨(some 47), (.fad 4 (.t 1)), none, 7, false, []⟩,
    ⟨(some 48), (.load false 1 (.t 47)), none, 8, false, [6]⟩,
    ⟨(some 49), (.iad 5 (.t 48) (.c (.int .i64 1))), none, 9, false, [6]⟩,
    ⟨(some 50), (.load true 5 (.t 49)), none, 10, false, [6]⟩,
    ⟨(some 51), (.call 160 [(.t 50)]), none, 11, true, [1]⟩,
    ⟨(some 52), (.fad 4 (.t 1)), none, 12, false, []⟩,
    ⟨(some 53), (.load false 1 (.t 52)), none, 13, true, [6, 11]⟩,
    ⟨(some 54), (.iad 5 (.t 53) (.c (.int .i64 2))), none, 14, true, [6, 11]⟩,
    ⟨(some 55), (.load true 5 (.t 54)), none, 15, true, [6, 11]⟩,
    ⟨(some 56), (.fad 4 (.t 1)), none, 16, false, []⟩,
    ⟨(some 57), (.load false 1 (.t 56)), none, 17, false, [6, 11]⟩,
    ⟨(some 58), (.iad 5 (.t 57) (.c (.int .i64 3))), none, 18, false, [6, 11]⟩,
    ⟨(some 59), (.load true 5 (.t 58)), none, 19, false, [6, 11]⟩,
    ⟨(some 60), (.call 160 [(.t 59)]), none, 20, false, [1, 13, 14, 15]⟩,
    ⟨(some 61), (.bslice 5 [(.t 46), (.t 51), (.t 55), (.t 60)]), none, 21, false, [1]⟩,
    ⟨(some 62), (.build [(.int .i64 0), (.int .i64 0), (.int .i64 0), (.int .i64 0), .nils] [(0, (1, (.c (.int .i64 23)))), (1, (1, (.t 41))), (3, (1, (.c (.int .i64 5)))), (4, (1, (.t 61)))]), none, 22, false, []⟩,
    ⟨none, (.store 5 (.t 2) (.t 62)), none, 23, false, []⟩] true
def a160_23 : AC := .seq a160_22 .ret
def a160_24 : AC := .reg [⟨(some 10), (.load true 5 (.t 1)), none, 0, false, []⟩,
    ⟨none, (.store 5 (.t 2) (.t 10)), none, 0, false, []⟩] false
def a160_25 : AC := .seq a160_24 .ret
def a160_26 : AC := .cond (.t 38) a160_23 a160_25
def a160_27 : AC := .seq a160_21 a160_26
def a160_28 : AC := .cond (.t 35) a160_20 a160_27
def a160_29 : AC := .seq a160_19 a160_28
def a160_30 : AC := .cond (.t 32) a160_18 a160_29
def a160_31 : AC := .seq a160_17 a160_30
def a160_32 : AC := .cond (.t 29) a160_16 a160_31
def a160_33 : AC := .seq a160_15 a160_32
def a160_34 : AC := .cond (.t 26) a160_14 a160_33
def a160_35 : AC := .seq a160_13 a160_34
def a160_36 : AC := .cond (.t 23) a160_12 a160_35
def a160_37 : AC := .seq a160_11 a160_36
def a160_38 : AC := .cond (.t 20) a160_10 a160_37
def a160_39 : AC := .seq a160_9 a160_38
def a160_40 : AC := .cond (.t 17) a160_8 a160_39
def a160_41 : AC := .seq a160_7 a160_40
def a160_42 : AC := .cond (.t 14) a160_6 a160_41
def a160_43 : AC := .seq a160_5 a160_42
def a160_44 : AC := .cond (.t 11) a160_4 a160_43
def a160_45 : AC := .seq a160_3 a160_44
def a160_46 : AC := .blk 0 a160_45
def a160_47 : AC := .seq a160_2 a160_46
def a160_48 : AC := .reg [⟨(some 5), (.mv (.c .nils)), none, 0, false, []⟩] false
def a160_49 : AC := .reg [⟨(some 6), (.mv (.c (.int .i64 0))), none, 0, false, []⟩] false
def a160_50 : AC := .reg [⟨(some 63), (.mv (.t 6)), none, 0, false, []⟩,
    ⟨(some 64), (.mv (.t 4)), none, 0, false, []⟩,
    ⟨(some 65), (.len false (.t 64)), none, 0, false, []⟩,
    ⟨(some 66), (.bin 0 .lss (.t 63) (.t 65)), none, 0, false, []⟩] false
def a160_51 : AC := .cond (.t 66) .skip (.exit 1)
def a160_52 : AC := .seq a160_50 a160_51
def a160_53 : AC := .reg [⟨(some 69), (.mv (.t 5)), none, 0, false, []⟩,
    ⟨(some 70), (.fad 4 (.t 1)), none, 1, false, []⟩,
    ⟨(some 71), (.load false 1 (.t 70)), none, 2, false, []⟩,
    ⟨(some 72), (.mv (.t 4)), none, 3, false, []⟩,
    ⟨(some 73), (.mv (.t 6)), none, 4, false, []⟩,
    ⟨(some 74), (.iad 1 (.t 72) (.t 73)), none, 5, false, []⟩,
    ⟨(some 75), (.load false 1 (.t 74)), none, 6, false, []⟩,
    ⟨(some 76), (.iad 5 (.t 71) (.t 75)), none, 7, false, []⟩,
    ⟨(some 77), (.load true 5 (.t 76)), none, 8, false, []⟩,
    ⟨(some 78), (.call 160 [(.t 77)]), none, 9, false, []⟩,
    ⟨(some 79), (.bslice 5 [(.t 78)]), none, 10, false, []⟩,
    ⟨(some 80), (.app 5 56 (.t 69) (.t 79)), none, 11, false, []⟩,
    ⟨(some 5), (.mv (.t 80)), none, 12, false, []⟩] true
def a160_54 : AC := .blk 2 a160_53
def a160_55 : AC := .reg [⟨(some 67), (.mv (.t 6)), none, 0, false, []⟩,
    ⟨(some 68), (.bin 0 .add (.t 67) (.c (.int .i64 1))), none, 0, false, []⟩,
    ⟨(some 6), (.mv (.t 68)), none, 0, false, []⟩] false
def a160_56 : AC := .seq a160_54 a160_55
def a160_57 : AC := .seq a160_52 a160_56
def a160_58 : AC := .loop a160_57
def a160_59 : AC := .blk 1 a160_58
def a160_60 : AC := .seq a160_49 a160_59
def a160_61 : AC := .reg [⟨(some 81), (.mv (.t 3)), none, 0, false, []⟩,
    ⟨(some 82), (.mv (.t 5)), none, 0, false, []⟩,
    ⟨(some 83), (.build [(.int .i64 0), (.int .i64 0), (.int .i64 0), (.int .i64 0), .nils] [(0, (1, (.t 81))), (4, (1, (.t 82)))]), none, 0, false, []⟩,
    ⟨none, (.store 5 (.t 2) (.t 83)), none, 0, false, []⟩] false
def a160_62 : AC := .seq a160_61 .ret
def a160_63 : AC := .seq a160_60 a160_62
def a160_64 : AC := .seq a160_48 a160_63
def a160_65 : AC := .seq a160_47 a160_64
def a160_66 : AC := .seq a160_1 a160_65
def a160_67 : AC := .seq a160_0 a160_66
def af160 : AF := { ntmps := 84, res := [(.cell 2 true 5)], body := a160_67 }
theorem tr160 : trF Try.prog Try.f160 = some af160 := by kernel_rfl
attribute [go_sem] af160 a160_0 a160_1 a160_2 a160_3 a160_4 a160_5 a160_6 a160_7 a160_8 a160_9 a160_10 a160_11 a160_12 a160_13 a160_14 a160_15 a160_16 a160_17 a160_18 a160_19 a160_20 a160_21 a160_22 a160_23 a160_24 a160_25 a160_26 a160_27 a160_28 a160_29 a160_30 a160_31 a160_32 a160_33 a160_34 a160_35 a160_36 a160_37 a160_38 a160_39 a160_40 a160_41 a160_42 a160_43 a160_44 a160_45 a160_46 a160_47 a160_48 a160_49 a160_50 a160_51 a160_52 a160_53 a160_54 a160_55 a160_56 a160_57 a160_58 a160_59 a160_60 a160_61 a160_62 a160_63 a160_64 a160_65 a160_66 a160_67
end Go.Proofs.Ytadmdmhocglkfaa.Abs
