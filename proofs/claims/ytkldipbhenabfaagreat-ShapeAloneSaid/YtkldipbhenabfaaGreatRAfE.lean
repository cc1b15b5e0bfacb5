/- The abstract code of functions, printed by program; that it is the translation of the model's code is decided by the kernel. -/
import Derived.Test.YtkldipbhenabfaaGreatREv
import Derived.Test.YtkldipbhenabfaaGreatProg
import Derived.KernelRfl
namespace Go.Proofs.YtkldipbhenabfaaGreat.Abs
open Go Go.Proofs Go.Proofs.YtkldipbhenabfaaGreat
def a140_0 : AC := .reg [⟨(some 3), (.box (.t 0)), none, 0, false, []⟩,
    ⟨(some 4), (.box (.t 1)), none, 0, false, []⟩,
    ⟨(some 5), (.box (.t 2)), none, 0, false, []⟩,
    ⟨(some 6), (.new [(.int .i64 0), (.int .i64 0), (.int .i64 0), (.int .i64 0), (.int .i64 0), .nils, (.int .i64 0), (.int .i64 0), (.int .i64 0), (.int .i64 0), .nils, (.int .i64 0), (.int .i64 0), (.int .i64 0), (.int .i64 0), .nils, (.int .i64 0), (.int .i64 0), (.int .i64 0), (.int .i64 0), .nils, (.int .i64 0), (.int .i64 0), (.int .i64 0), (.int .i64 0), .nils]), none, 0, false, []⟩] false
def a140_1 : AC := .reg [⟨(some 9), (.load true 32 (.t 3)), none, 0, false, []⟩,
    ⟨(some 10), (.call 153 [(.t 9)]), none, 0, false, []⟩,
    ⟨(some 11), (.un .not (.t 10)), none, 0, false, []⟩,
    ⟨(some 12), (.mv (.t 11)), none, 0, false, []⟩,
    ⟨(some 13), (.load true 26 (.t 4)), (some (12, false)), 0, false, []⟩,
    ⟨(some 14), (.call 148 [(.t 13)]), (some (12, false)), 0, false, []⟩,
    ⟨(some 15), (.un .not (.t 14)), (some (12, false)), 0, false, []⟩,
    ⟨(some 16), (.pick (.t 12) (.c (.bool true)) (.t 15)), none, 0, false, []⟩,
    ⟨(some 17), (.mv (.t 16)), none, 0, false, []⟩,
    ⟨(some 18), (.load true 26 (.t 5)), (some (17, false)), 0, false, []⟩,
    ⟨(some 19), (.call 148 [(.t 18)]), (some (17, false)), 0, false, []⟩,
    ⟨(some 20), (.un .not (.t 19)), (some (17, false)), 0, false, []⟩,
    ⟨(some 21), (.pick (.t 17) (.c (.bool true)) (.t 20)), none, 0, false, []⟩] false
def a140_2 : AC := .reg [⟨(some 22), (.build [(.int .i64 0), (.int .i64 0), (.int .i64 0), (.int .i64 0), (.int .i64 0), .nils, (.int .i64 0), (.int .i64 0), (.int .i64 0), (.int .i64 0), .nils, (.int .i64 0), (.int .i64 0), (.int .i64 0), (.int .i64 0), .nils, (.int .i64 0), (.int .i64 0), (.int .i64 0), (.int .i64 0), .nils, (.int .i64 0), (.int .i64 0), (.int .i64 0), (.int .i64 0), .nils] []), none, 0, false, []⟩,
    ⟨none, (.store 26 (.t 6) (.t 22)), none, 0, false, []⟩] false
def a140_3 : AC := .seq a140_2 .ret
def a140_4 : AC := .cond (.t 21) a140_3 .skip
def a140_5 : AC := .seq a140_1 a140_4
def a140_6 : AC := .reg [⟨(some 23), (.fad 11 (.t 4)), none, 0, false, []⟩,
    ⟨(some 24), (.load true 5 (.t 23)), none, 1, true, []⟩,
    ⟨(some 25), (.fad 11 (.t 5)), none, 2, false, []⟩,
    ⟨(some 26), (.load true 5 (.t 25)), none, 3, true, []⟩,
    ⟨(some 27), (.bslice 5 [(.t 24), (.t 26)]), none, 4, true, []⟩,
    ⟨(some 28), (.call 58 [(.c (.int .i64 15)), (.c (.int .i64 0)), (.c (.int .i64 0)), (.c (.int .i64 0)), (.t 27)]), none, 5, true, []⟩,
    ⟨(some 29), (.fad 16 (.t 4)), none, 6, false, []⟩,
    ⟨(some 30), (.load true 5 (.t 29)), none, 7, true, [4, 5]⟩,
    ⟨(some 31), (.fad 16 (.t 5)), none, 8, false, []⟩,
    ⟨(some 32), (.load true 5 (.t 31)), none, 9, true, [4, 5]⟩,
    ⟨(some 33), (.bslice 5 [(.t 30), (.t 32)]), none, 10, true, [1, 3, 4, 5]⟩,
    ⟨(some 34), (.call 58 [(.c (.int .i64 15)), (.c (.int .i64 0)), (.c (.int .i64 0)), (.c (.int .i64 0)), (.t 33)]), none, 11, true, []⟩,
    ⟨(some 7), (.new [(.int .i64 0), (.int .i64 0), (.int .i64 0), (.int .i64 0), .nils]), none, 12, true, [1, 3, 4, 5, 7, 9, 10, 11]⟩,
    ⟨(some 8), (.new [(.int .i64 0), (.int .i64 0), (.int .i64 0), (.int .i64 0), .nils]), none, 13, false, [1, 3, 4, 5, 7, 9, 10, 11, 12]⟩,
    ⟨none, (.store 5 (.t 7) (.t 28)), none, 14, false, []⟩,
    ⟨none, (.store 5 (.t 8) (.t 34)), none, 15, false, []⟩] true
def a140_7 : AC := .reg [⟨(some 35), (.fad 1 (.t 3)), none, 0, false, []⟩,
    ⟨(some 36), (.load false 1 (.t 35)), none, 1, true, []⟩,
    ⟨(some 37), (.fad 12 (.t 3)), none, 2, false, []⟩,
    ⟨(some 38), (.load true 5 (.t 37)), none, 3, true, []⟩,
    ⟨(some 39), (.fad 11 (.t 5)), none, 4, false, []⟩,
    ⟨(some 40), (.load true 5 (.t 39)), none, 5, true, []⟩,
    ⟨(some 41), (.call 158 [(.t 38), (.t 40)]), none, 6, true, [1]⟩,
    ⟨(some 42), (.fad 17 (.t 3)), none, 7, false, []⟩,
    ⟨(some 43), (.load true 5 (.t 42)), none, 8, true, [6]⟩,
    ⟨(some 44), (.fad 16 (.t 5)), none, 9, false, []⟩,
    ⟨(some 45), (.load true 5 (.t 44)), none, 10, true, [6]⟩,
    ⟨(some 46), (.call 158 [(.t 43), (.t 45)]), none, 11, true, [1]⟩,
    ⟨(some 47), (.load true 5 (.t 7)), none, 12, true, [6, 11]⟩,
    ⟨(some 48), (.load true 5 (.t 8)), none, 13, true, [6, 11]⟩,
    ⟨(some 49), (.load true 32 (.t 3)), none, 14, true, [6, 11]⟩,
    ⟨(some 50), (.fad 11 (.t 4)), none, 15, false, []⟩,
    ⟨(some 51), (.load true 5 (.t 50)), none, 16, false, [6, 11]⟩,
    ⟨(some 52), (.fad 16 (.t 4)), none, 17, false, []⟩,
    ⟨(some 53), (.load true 5 (.t 52)), none, 18, false, [6, 11]⟩,
    ⟨(some 54), (.fad 21 (.t 4)), none, 19, false, []⟩,
    ⟨(some 55), (.load true 5 (.t 54)), none, 20, false, [6, 11]⟩,
    ⟨(some 56), (.fad 11 (.t 5)), none, 21, false, []⟩,
    ⟨(some 57), (.load true 5 (.t 56)), none, 22, false, [6, 11]⟩,
    ⟨(some 58), (.fad 16 (.t 5)), none, 23, false, []⟩,
    ⟨(some 59), (.load true 5 (.t 58)), none, 24, false, [6, 11]⟩,
    ⟨(some 60), (.fad 21 (.t 5)), none, 25, false, []⟩,
    ⟨(some 61), (.load true 5 (.t 60)), none, 26, false, [6, 11]⟩,
    ⟨(some 62), (.bslice 5 [(.t 51), (.t 53), (.t 55), (.t 57), (.t 59), (.t 61)]), none, 27, false, [1, 3, 5, 6, 8, 10, 11, 12, 13, 14]⟩,
    ⟨(some 63), (.call 154 [(.t 49), (.c (.int .i64 16)), (.t 62)]), none, 28, false, [1, 12, 13]⟩,
    ⟨(some 64), (.call 151 [(.t 36), (.t 41), (.t 46), (.t 47), (.t 48), (.t 63)]), none, 29, false, []⟩,
    ⟨none, (.store 26 (.t 6) (.t 64)), none, 30, false, []⟩] true
def a140_8 : AC := .seq a140_7 .ret
def a140_9 : AC := .seq a140_6 a140_8
def a140_10 : AC := .seq a140_5 a140_9
def a140_11 : AC := .seq a140_0 a140_10
def af140 : AF := { ntmps := 65, res := [(.cell 6 true 26)], body := a140_11 }
theorem tr140 : trF Tryz.prog Tryz.f140 = some af140 := by kernel_rfl
attribute [go_sem] af140 a140_0 a140_1 a140_2 a140_3 a140_4 a140_5 a140_6 a140_7 a140_8 a140_9 a140_10 a140_11
def a141_0 : AC := .reg [⟨(some 3), (.box (.t 0)), none, 0, false, []⟩,
    ⟨(some 4), (.box (.t 1)), none, 0, false, []⟩,
    ⟨(some 5), (.box (.t 2)), none, 0, false, []⟩,
    ⟨(some 6), (.new [(.int .i64 0), (.int .i64 0), (.int .i64 0), (.int .i64 0), (.int .i64 0), .nils, (.int .i64 0), (.int .i64 0), (.int .i64 0), (.int .i64 0), .nils, (.int .i64 0), (.int .i64 0), (.int .i64 0), (.int .i64 0), .nils, (.int .i64 0), (.int .i64 0), (.int .i64 0), (.int .i64 0), .nils, (.int .i64 0), (.int .i64 0), (.int .i64 0), (.int .i64 0), .nils]), none, 0, false, []⟩] false
def a141_1 : AC := .reg [⟨(some 9), (.load true 32 (.t 3)), none, 0, false, []⟩,
    ⟨(some 10), (.call 153 [(.t 9)]), none, 0, false, []⟩,
    ⟨(some 11), (.un .not (.t 10)), none, 0, false, []⟩,
    ⟨(some 12), (.mv (.t 11)), none, 0, false, []⟩,
    ⟨(some 13), (.load true 26 (.t 5)), (some (12, false)), 0, false, []⟩,
    ⟨(some 14), (.call 148 [(.t 13)]), (some (12, false)), 0, false, []⟩,
    ⟨(some 15), (.un .not (.t 14)), (some (12, false)), 0, false, []⟩,
    ⟨(some 16), (.pick (.t 12) (.c (.bool true)) (.t 15)), none, 0, false, []⟩,
    ⟨(some 17), (.mv (.t 16)), none, 0, false, []⟩,
    ⟨(some 18), (.load true 26 (.t 4)), (some (17, false)), 0, false, []⟩,
    ⟨(some 19), (.call 148 [(.t 18)]), (some (17, false)), 0, false, []⟩,
    ⟨(some 20), (.un .not (.t 19)), (some (17, false)), 0, false, []⟩,
    ⟨(some 21), (.pick (.t 17) (.c (.bool true)) (.t 20)), none, 0, false, []⟩] false
def a141_2 : AC := .reg [⟨(some 22), (.build [(.int .i64 0), (.int .i64 0), (.int .i64 0), (.int .i64 0), (.int .i64 0), .nils, (.int .i64 0), (.int .i64 0), (.int .i64 0), (.int .i64 0), .nils, (.int .i64 0), (.int .i64 0), (.int .i64 0), (.int .i64 0), .nils, (.int .i64 0), (.int .i64 0), (.int .i64 0), (.int .i64 0), .nils, (.int .i64 0), (.int .i64 0), (.int .i64 0), (.int .i64 0), .nils] []), none, 0, false, []⟩,
    ⟨none, (.store 26 (.t 6) (.t 22)), none, 0, false, []⟩] false
def a141_3 : AC := .seq a141_2 .ret
def a141_4 : AC := .cond (.t 21) a141_3 .skip
def a141_5 : AC := .seq a141_1 a141_4
def a141_6 : AC := .reg [⟨(some 23), (.fad 2 (.t 3)), none, 0, false, []⟩,
    ⟨(some 24), (.load true 5 (.t 23)), none, 1, true, []⟩,
    ⟨(some 25), (.fad 12 (.t 3)), none, 2, false, []⟩,
    ⟨(some 26), (.load true 5 (.t 25)), none, 3, true, []⟩,
    ⟨(some 27), (.fad 11 (.t 4)), none, 4, false, []⟩,
    ⟨(some 28), (.load true 5 (.t 27)), none, 5, true, []⟩,
    ⟨(some 29), (.fad 11 (.t 5)), none, 6, false, []⟩,
    ⟨(some 30), (.load true 5 (.t 29)), none, 7, true, []⟩,
    ⟨(some 31), (.bslice 5 [(.t 24), (.t 26), (.t 28), (.t 30)]), none, 8, true, []⟩,
    ⟨(some 32), (.call 58 [(.c (.int .i64 17)), (.c (.int .i64 0)), (.c (.int .i64 0)), (.c (.int .i64 0)), (.t 31)]), none, 9, true, []⟩,
    ⟨(some 33), (.fad 7 (.t 3)), none, 10, false, []⟩,
    ⟨(some 34), (.load true 5 (.t 33)), none, 11, true, [8, 9]⟩,
    ⟨(some 35), (.fad 17 (.t 3)), none, 12, false, []⟩,
    ⟨(some 36), (.load true 5 (.t 35)), none, 13, true, [8, 9]⟩,
    ⟨(some 37), (.fad 16 (.t 4)), none, 14, false, []⟩,
    ⟨(some 38), (.load true 5 (.t 37)), none, 15, true, [8, 9]⟩,
    ⟨(some 39), (.fad 16 (.t 5)), none, 16, false, []⟩,
    ⟨(some 40), (.load true 5 (.t 39)), none, 17, true, [8, 9]⟩,
    ⟨(some 41), (.bslice 5 [(.t 34), (.t 36), (.t 38), (.t 40)]), none, 18, true, [1, 3, 5, 7, 8, 9]⟩,
    ⟨(some 42), (.call 58 [(.c (.int .i64 17)), (.c (.int .i64 0)), (.c (.int .i64 0)), (.c (.int .i64 0)), (.t 41)]), none, 19, true, []⟩,
    ⟨(some 7), (.new [(.int .i64 0), (.int .i64 0), (.int .i64 0), (.int .i64 0), .nils]), none, 20, true, [1, 3, 5, 7, 8, 9, 11, 13, 15, 17, 18, 19]⟩,
    ⟨(some 8), (.new [(.int .i64 0), (.int .i64 0), (.int .i64 0), (.int .i64 0), .nils]), none, 21, false, [1, 3, 5, 7, 8, 9, 11, 13, 15, 17, 18, 19, 20]⟩,
    ⟨none, (.store 5 (.t 7) (.t 32)), none, 22, false, []⟩,
    ⟨none, (.store 5 (.t 8) (.t 42)), none, 23, false, []⟩] true
def a141_7 : AC := .reg [⟨(some 43), (.fad 0 (.t 3)), none, 0, false, []⟩,
    ⟨(some 44), (.load false 1 (.t 43)), none, 1, true, []⟩,
    ⟨(some 45), (.fad 1 (.t 3)), none, 2, false, []⟩,
    ⟨(some 46), (.load false 1 (.t 45)), none, 3, true, []⟩,
    ⟨(some 47), (.mnx true (.t 44) (.t 46)), none, 4, false, []⟩,
    ⟨(some 48), (.fad 2 (.t 3)), none, 5, false, []⟩,
    ⟨(some 49), (.load true 5 (.t 48)), none, 6, true, []⟩,
    ⟨(some 50), (.fad 12 (.t 3)), none, 7, false, []⟩,
    ⟨(some 51), (.load true 5 (.t 50)), none, 8, true, []⟩,
    ⟨(some 52), (.call 159 [(.t 49), (.t 51)]), none, 9, true, [1, 3]⟩,
    ⟨(some 53), (.fad 7 (.t 3)), none, 10, false, []⟩,
    ⟨(some 54), (.load true 5 (.t 53)), none, 11, true, [9]⟩,
    ⟨(some 55), (.fad 17 (.t 3)), none, 12, false, []⟩,
    ⟨(some 56), (.load true 5 (.t 55)), none, 13, true, [9]⟩,
    ⟨(some 57), (.call 159 [(.t 54), (.t 56)]), none, 14, true, [1, 3]⟩,
    ⟨(some 58), (.load true 5 (.t 7)), none, 15, true, [9, 14]⟩,
    ⟨(some 59), (.load true 5 (.t 8)), none, 16, true, [9, 14]⟩,
    ⟨(some 60), (.load true 32 (.t 3)), none, 17, true, [9, 14]⟩,
    ⟨(some 61), (.fad 11 (.t 4)), none, 18, false, []⟩,
    ⟨(some 62), (.load true 5 (.t 61)), none, 19, false, [9, 14]⟩,
    ⟨(some 63), (.fad 16 (.t 4)), none, 20, false, []⟩,
    ⟨(some 64), (.load true 5 (.t 63)), none, 21, false, [9, 14]⟩,
    ⟨(some 65), (.fad 21 (.t 4)), none, 22, false, []⟩,
    ⟨(some 66), (.load true 5 (.t 65)), none, 23, false, [9, 14]⟩,
    ⟨(some 67), (.fad 11 (.t 5)), none, 24, false, []⟩,
    ⟨(some 68), (.load true 5 (.t 67)), none, 25, false, [9, 14]⟩,
    ⟨(some 69), (.fad 16 (.t 5)), none, 26, false, []⟩,
    ⟨(some 70), (.load true 5 (.t 69)), none, 27, false, [9, 14]⟩,
    ⟨(some 71), (.fad 21 (.t 5)), none, 28, false, []⟩,
    ⟨(some 72), (.load true 5 (.t 71)), none, 29, false, [9, 14]⟩,
    ⟨(some 73), (.bslice 5 [(.t 62), (.t 64), (.t 66), (.t 68), (.t 70), (.t 72)]), none, 30, false, [1, 3, 6, 8, 9, 11, 13, 14, 15, 16, 17]⟩,
    ⟨(some 74), (.call 154 [(.t 60), (.c (.int .i64 17)), (.t 73)]), none, 31, false, [1, 3, 15, 16]⟩,
    ⟨(some 75), (.call 151 [(.t 47), (.t 52), (.t 57), (.t 58), (.t 59), (.t 74)]), none, 32, false, []⟩,
    ⟨none, (.store 26 (.t 6) (.t 75)), none, 33, false, []⟩] true
def a141_8 : AC := .seq a141_7 .ret
def a141_9 : AC := .seq a141_6 a141_8
def a141_10 : AC := .seq a141_5 a141_9
def a141_11 : AC := .seq a141_0 a141_10
def af141 : AF := { ntmps := 76, res := [(.cell 6 true 26)], body := a141_11 }
theorem tr141 : trF Tryz.prog Tryz.f141 = some af141 := by kernel_rfl
attribute [go_sem] af141 a141_0 a141_1 a141_2 a141_3 a141_4 a141_5 a141_6 a141_7 a141_8 a141_9 a141_10 a141_11
def a138_0 : AC := .reg [⟨(some 2), (.box (.t 0)), none, 0, false, []⟩,
    ⟨(some 3), (.box (.t 1)), none, 0, false, []⟩,
    ⟨(some 4), (.new [(.int .i64 0), (.int .i64 0), (.int .i64 0), (.int .i64 0), (.int .i64 0), .nils, (.int .i64 0), (.int .i64 0), (.int .i64 0), (.int .i64 0), .nils, (.int .i64 0), (.int .i64 0), (.int .i64 0), (.int .i64 0), .nils, (.int .i64 0), (.int .i64 0), (.int .i64 0), (.int .i64 0), .nils, (.int .i64 0), (.int .i64 0), (.int .i64 0), (.int .i64 0), .nils]), none, 0, false, []⟩] false
def a138_1 : AC := .reg [⟨(some 5), (.load true 32 (.t 2)), none, 0, false, []⟩,
    ⟨(some 6), (.call 153 [(.t 5)]), none, 0, false, []⟩,
    ⟨(some 7), (.un .not (.t 6)), none, 0, false, []⟩,
    ⟨(some 8), (.mv (.t 7)), none, 0, false, []⟩,
    ⟨(some 9), (.load true 26 (.t 3)), (some (8, false)), 0, false, []⟩,
    ⟨(some 10), (.call 148 [(.t 9)]), (some (8, false)), 0, false, []⟩,
    ⟨(some 11), (.un .not (.t 10)), (some (8, false)), 0, false, []⟩,
    ⟨(some 12), (.pick (.t 8) (.c (.bool true)) (.t 11)), none, 0, false, []⟩] false
def a138_2 : AC := .reg [⟨(some 13), (.build [(.int .i64 0), (.int .i64 0), (.int .i64 0), (.int .i64 0), (.int .i64 0), .nils, (.int .i64 0), (.int .i64 0), (.int .i64 0), (.int .i64 0), .nils, (.int .i64 0), (.int .i64 0), (.int .i64 0), (.int .i64 0), .nils, (.int .i64 0), (.int .i64 0), (.int .i64 0), (.int .i64 0), .nils, (.int .i64 0), (.int .i64 0), (.int .i64 0), (.int .i64 0), .nils] []), none, 0, false, []⟩,
    ⟨none, (.store 26 (.t 4) (.t 13)), none, 0, false, []⟩] false
def a138_3 : AC := .seq a138_2 .ret
def a138_4 : AC := .cond (.t 12) a138_3 .skip
def a138_5 : AC := .seq a138_1 a138_4
def a138_6 : AC := .reg [⟨(some 14), (.fad 0 (.t 2)), none, 0, false, []⟩,
    ⟨(some 15), (.load false 1 (.t 14)), none, 1, true, []⟩,
    ⟨(some 16), (.fad 2 (.t 2)), none, 2, false, []⟩,
    ⟨(some 17), (.load true 5 (.t 16)), none, 3, true, []⟩,
    ⟨(some 18), (.fad 7 (.t 2)), none, 4, false, []⟩,
    ⟨(some 19), (.load true 5 (.t 18)), none, 5, true, []⟩,
    ⟨(some 20), (.fad 11 (.t 3)), none, 6, false, []⟩,
    ⟨(some 21), (.load true 5 (.t 20)), none, 7, true, []⟩,
    ⟨(some 22), (.call 157 [(.c (.int .i64 18)), (.t 21)]), none, 8, true, [1, 3, 5]⟩,
    ⟨(some 23), (.fad 16 (.t 3)), none, 9, false, []⟩,
    ⟨(some 24), (.load true 5 (.t 23)), none, 10, true, [8]⟩,
    ⟨(some 25), (.call 157 [(.c (.int .i64 18)), (.t 24)]), none, 11, true, [1, 3, 5]⟩,
    ⟨(some 26), (.load true 32 (.t 2)), none, 12, true, [8, 11]⟩,
    ⟨(some 27), (.fad 11 (.t 3)), none, 13, false, []⟩,
    ⟨(some 28), (.load true 5 (.t 27)), none, 14, false, [8, 11]⟩,
    ⟨(some 29), (.fad 16 (.t 3)), none, 15, false, []⟩,
    ⟨(some 30), (.load true 5 (.t 29)), none, 16, false, [8, 11]⟩,
    ⟨(some 31), (.fad 21 (.t 3)), none, 17, false, []⟩,
    ⟨(some 32), (.load true 5 (.t 31)), none, 18, false, [8, 11]⟩,
    ⟨(some 33), (.bslice 5 [(.t 28), (.t 30), (.t 32)]), none, 19, false, [1, 3, 5, 7, 8, 10, 11, 12]⟩,
    ⟨(some 34), (.call 154 [(.t 26), (.c (.int .i64 18)), (.t 33)]), none, 20, false, [1, 3, 5]⟩,
    ⟨(some 35), (.call 151 [(.t 15), (.t 17), (.t 19), (.t 22), (.t 25), (.t 34)]), none, 21, false, []⟩,
    ⟨none, (.store 26 (.t 4) (.t 35)), none, 22, false, []⟩] true
def a138_7 : AC := .seq a138_6 .ret
def a138_8 : AC := .seq a138_5 a138_7
def a138_9 : AC := .seq a138_0 a138_8
def af138 : AF := { ntmps := 36, res := [(.cell 4 true 26)], body := a138_9 }
theorem tr138 : trF Tryz.prog Tryz.f138 = some af138 := by kernel_rfl
attribute [go_sem] af138 a138_0 a138_1 a138_2 a138_3 a138_4 a138_5 a138_6 a138_7 a138_8 a138_9
def a139_0 : AC := .reg [⟨(some 2), (.box (.t 0)), none, 0, false, []⟩,
    ⟨(some 3), (.box (.t 1)), none, 0, false, []⟩,
    ⟨(some 4), (.new [(.int .i64 0), (.int .i64 0), (.int .i64 0), (.int .i64 0), (.int .i64 0), .nils, (.int .i64 0), (.int .i64 0), (.int .i64 0), (.int .i64 0), .nils, (.int .i64 0), (.int .i64 0), (.int .i64 0), (.int .i64 0), .nils, (.int .i64 0), (.int .i64 0), (.int .i64 0), (.int .i64 0), .nils, (.int .i64 0), (.int .i64 0), (.int .i64 0), (.int .i64 0), .nils]), none, 0, false, []⟩] false
def a139_1 : AC := .reg [⟨(some 7), (.load true 32 (.t 2)), none, 0, false, []⟩,
    ⟨(some 8), (.call 153 [(.t 7)]), none, 0, false, []⟩,
    ⟨(some 9), (.un .not (.t 8)), none, 0, false, []⟩,
    ⟨(some 10), (.mv (.t 9)), none, 0, false, []⟩,
    ⟨(some 11), (.load true 26 (.t 3)), (some (10, false)), 0, false, []⟩,
    ⟨(some 12), (.call 148 [(.t 11)]), (some (10, false)), 0, false, []⟩,
    ⟨(some 13), (.un .not (.t 12)), (some (10, false)), 0, false, []⟩,
    ⟨(some 14), (.pick (.t 10) (.c (.bool true)) (.t 13)), none, 0, false, []⟩] false
def a139_2 : AC := .reg [⟨(some 15), (.build [(.int .i64 0), (.int .i64 0), (.int .i64 0), (.int .i64 0), (.int .i64 0), .nils, (.int .i64 0), (.int .i64 0), (.int .i64 0), (.int .i64 0), .nils, (.int .i64 0), (.int .i64 0), (.int .i64 0), (.int .i64 0), .nils, (.int .i64 0), (.int .i64 0), (.int .i64 0), (.int .i64 0), .nils, (.int .i64 0), (.int .i64 0), (.int .i64 0), (.int .i64 0), .nils] []), none, 0, false, []⟩,
    ⟨none, (.store 26 (.t 4) (.t 15)), none, 0, false, []⟩] false
def a139_3 : AC := .seq a139_2 .ret
def a139_4 : AC := .cond (.t 14) a139_3 .skip
def a139_5 : AC := .seq a139_1 a139_4
def a139_6 : AC := .reg [⟨(some 16), (.fad 12 (.t 2)), none, 0, false, []⟩,
    ⟨(some 17), (.load true 5 (.t 16)), none, 1, true, []⟩,
    ⟨(some 18), (.fad 11 (.t 3)), none, 2, false, []⟩,
    ⟨(some 19), (.load true 5 (.t 18)), none, 3, true, []⟩,
    ⟨(some 20), (.call 157 [(.c (.int .i64 18)), (.t 19)]), none, 4, true, [1]⟩,
    ⟨(some 21), (.call 158 [(.t 17), (.t 20)]), none, 5, true, []⟩,
    ⟨(some 22), (.fad 17 (.t 2)), none, 6, false, []⟩,
    ⟨(some 23), (.load true 5 (.t 22)), none, 7, true, [4, 5]⟩,
    ⟨(some 24), (.fad 16 (.t 3)), none, 8, false, []⟩,
    ⟨(some 25), (.load true 5 (.t 24)), none, 9, true, [4, 5]⟩,
    ⟨(some 26), (.call 157 [(.c (.int .i64 18)), (.t 25)]), none, 10, true, [7]⟩,
    ⟨(some 27), (.call 158 [(.t 23), (.t 26)]), none, 11, true, []⟩,
    ⟨(some 5), (.new [(.int .i64 0), (.int .i64 0), (.int .i64 0), (.int .i64 0), .nils]), none, 12, true, [1, 3, 4, 5, 7, 9, 10, 11]⟩,
    ⟨(some 6), (.new [(.int .i64 0), (.int .i64 0), (.int .i64 0), (.int .i64 0), .nils]), none, 13, false, [1, 3, 4, 5, 7, 9, 10, 11, 12]⟩,
    ⟨none, (.store 5 (.t 5) (.t 21)), none, 14, false, []⟩,
    ⟨none, (.store 5 (.t 6) (.t 27)), none, 15, false, []⟩] true
def a139_7 : AC := .reg [⟨(some 28), (.fad 1 (.t 2)), none, 0, false, []⟩,
    ⟨(some 29), (.load false 1 (.t 28)), none, 1, true, []⟩,
    ⟨(some 30), (.load true 5 (.t 5)), none, 2, true, []⟩,
    ⟨(some 31), (.load true 5 (.t 6)), none, 3, true, []⟩,
    ⟨(some 32), (.fad 11 (.t 3)), none, 4, false, []⟩,
    ⟨(some 33), (.load true 5 (.t 32)), none, 5, true, []⟩,
    ⟨(some 34), (.call 157 [(.c (.int .i64 19)), (.t 33)]), none, 6, true, [1, 2, 3]⟩,
    ⟨(some 35), (.fad 16 (.t 3)), none, 7, false, []⟩,
    ⟨(some 36), (.load true 5 (.t 35)), none, 8, true, [6]⟩,
    ⟨(some 37), (.call 157 [(.c (.int .i64 19)), (.t 36)]), none, 9, true, [1, 2, 3]⟩,
    ⟨(some 38), (.load true 32 (.t 2)), none, 10, true, [6, 9]⟩,
    ⟨(some 39), (.fad 11 (.t 3)), none, 11, false, []⟩,
    ⟨(some 40), (.load true 5 (.t 39)), none, 12, false, [6, 9]⟩,
    ⟨(some 41), (.fad 16 (.t 3)), none, 13, false, []⟩,
    ⟨(some 42), (.load true 5 (.t 41)), none, 14, false, [6, 9]⟩,
    ⟨(some 43), (.fad 21 (.t 3)), none, 15, false, []⟩,
    ⟨(some 44), (.load true 5 (.t 43)), none, 16, false, [6, 9]⟩,
    ⟨(some 45), (.bslice 5 [(.t 40), (.t 42), (.t 44)]), none, 17, false, [1, 2, 3, 5, 6, 8, 9, 10]⟩,
    ⟨(some 46), (.call 154 [(.t 38), (.c (.int .i64 19)), (.t 45)]), none, 18, false, [1, 2, 3]⟩,
    ⟨(some 47), (.call 151 [(.t 29), (.t 30), (.t 31), (.t 34), (.t 37), (.t 46)]), none, 19, false, []⟩,
    ⟨none, (.store 26 (.t 4) (.t 47)), none, 20, false, []⟩] true
def a139_8 : AC := .seq a139_7 .ret
def a139_9 : AC := .seq a139_6 a139_8
def a139_10 : AC := .seq a139_5 a139_9
def a139_11 : AC := .seq a139_0 a139_10
def af139 : AF := { ntmps := 48, res := [(.cell 4 true 26)], body := a139_11 }
theorem tr139 : trF Tryz.prog Tryz.f139 = some af139 := by kernel_rfl
attribute [go_sem] af139 a139_0 a139_1 a139_2 a139_3 a139_4 a139_5 a139_6 a139_7 a139_8 a139_9 a139_10 a139_11
def a158_0 : AC := .reg [⟨(some 2), (.box (.t 0)), none, 0, false, []⟩,
    ⟨(some 3), (.box (.t 1)), none, 0, false, []⟩,
    ⟨(some 4), (.new [(.int .i64 0), (.int .i64 0), (.int .i64 0), (.int .i64 0), .nils]), none, 0, false, []⟩] false
def a158_1 : AC := .reg [⟨(some 7), (.load true 5 (.t 2)), none, 0, false, []⟩,
    ⟨(some 8), (.call 88 [(.t 7)]), none, 0, false, []⟩,
    ⟨(some 9), (.un .not (.t 8)), none, 0, false, []⟩] false
def a158_2 : AC := .reg [⟨(some 10), (.build [(.int .i64 0), (.int .i64 0), (.int .i64 0), (.int .i64 0), .nils] []), none, 0, false, []⟩,
    ⟨none, (.store 5 (.t 4) (.t 10)), none, 0, false, []⟩] false
def a158_3 : AC := .seq a158_2 .ret
def a158_4 : AC := .cond (.t 9) a158_3 .skip
def a158_5 : AC := .seq a158_1 a158_4
def a158_6 : AC := .reg [⟨(some 12), (.load true 5 (.t 2)), none, 0, false, []⟩,
    ⟨(some 13), (.load true 5 (.t 3)), none, 0, false, []⟩,
    ⟨(some 14), (.bslice 5 [(.t 13)]), none, 0, false, []⟩,
    ⟨(some 15), (.call 124 [(.t 12), (.t 14), (.c (.bool true))]), none, 0, false, []⟩,
    ⟨(some 11), (.mv (.t 15)), none, 0, false, []⟩,
    ⟨(some 16), (.ext (.t 11) 0), none, 0, false, []⟩,
    ⟨(some 17), (.ext (.t 11) 1), none, 0, false, []⟩,
    ⟨(some 5), (.new [(.int .i64 0), (.int .i64 0), (.int .i64 0), (.int .i64 0), .nils]), none, 0, false, []⟩,
    ⟨none, (.store 5 (.t 5) (.t 16)), none, 0, false, []⟩,
    ⟨(some 6), (.mv (.t 17)), none, 0, false, []⟩] false
def a158_7 : AC := .reg [⟨(some 18), (.mv (.t 6)), none, 0, false, []⟩,
    ⟨(some 19), (.un .not (.t 18)), none, 0, false, []⟩] false
def a158_8 : AC := .reg [⟨(some 20), (.build [(.int .i64 0), (.int .i64 0), (.int .i64 0), (.int .i64 0), .nils] []), none, 0, false, []⟩,
    ⟨none, (.store 5 (.t 4) (.t 20)), none, 0, false, []⟩] false
def a158_9 : AC := .seq a158_8 .ret
def a158_10 : AC := .cond (.t 19) a158_9 .skip
def a158_11 : AC := .seq a158_7 a158_10
def a158_12 : AC := .reg [⟨(some 21), (.load true 5 (.t 5)), none, 0, false, []⟩,
    ⟨none, (.store 5 (.t 4) (.t 21)), none, 0, false, []⟩] false
def a158_13 : AC := .seq a158_12 .ret
def a158_14 : AC := .seq a158_11 a158_13
def a158_15 : AC := .seq a158_6 a158_14
def a158_16 : AC := .seq a158_5 a158_15
def a158_17 : AC := .seq a158_0 a158_16
def af158 : AF := { ntmps := 22, res := [(.cell 4 true 5)], body := a158_17 }
theorem tr158 : trF Tryz.prog Tryz.f158 = some af158 := by kernel_rfl
attribute [go_sem] af158 a158_0 a158_1 a158_2 a158_3 a158_4 a158_5 a158_6 a158_7 a158_8 a158_9 a158_10 a158_11 a158_12 a158_13 a158_14 a158_15 a158_16 a158_17
def a124_0 : AC := .reg [⟨(some 3), (.box (.t 0)), none, 0, false, []⟩,
    ⟨(some 6), (.new [(.int .i64 0), (.int .i64 0), (.int .i64 0), (.int .i64 0), .nils]), none, 0, false, []⟩,
    ⟨(some 7), (.mv (.c (.bool false))), none, 0, false, []⟩] false
def a124_1 : AC := .reg [⟨(some 11), (.mv (.t 1)), none, 0, false, []⟩,
    ⟨(some 12), (.mv (.t 2)), none, 0, false, []⟩,
    ⟨(some 13), (.build [.nils, .nils, (.bool false)] [(0, (1, (.t 11))), (2, (1, (.t 12)))]), none, 0, false, []⟩,
    ⟨(some 14), (.box (.t 13)), none, 0, false, []⟩,
    ⟨(some 8), (.mv (.t 14)), none, 0, false, []⟩] false
def a124_2 : AC := .reg [⟨(some 15), (.mv (.t 1)), none, 0, false, []⟩,
    ⟨(some 16), (.len false (.t 15)), none, 0, false, []⟩,
    ⟨(some 17), (.mv (.c (.int .i64 0))), none, 0, false, []⟩] false
def a124_3 : AC := .reg [⟨(some 18), (.bin 0 .lss (.t 17) (.t 16)), none, 0, false, []⟩] false
def a124_4 : AC := .cond (.t 18) .skip (.exit 0)
def a124_5 : AC := .reg [⟨(some 19), (.iad 5 (.t 15) (.t 17)), none, 0, false, []⟩,
    ⟨(some 20), (.load true 5 (.t 19)), none, 0, false, []⟩,
    ⟨(some 10), (.new [(.int .i64 0), (.int .i64 0), (.int .i64 0), (.int .i64 0), .nils]), none, 0, false, []⟩,
    ⟨none, (.store 5 (.t 10) (.t 20)), none, 0, false, []⟩] false
def a124_6 : AC := .reg [⟨(some 21), (.load true 5 (.t 10)), none, 0, false, []⟩,
    ⟨(some 22), (.call 88 [(.t 21)]), none, 0, false, []⟩,
    ⟨(some 23), (.un .not (.t 22)), none, 0, false, []⟩,
    ⟨(some 24), (.mv (.t 23)), none, 0, false, []⟩,
    ⟨(some 25), (.load true 5 (.t 3)), (some (24, false)), 0, false, []⟩,
    ⟨(some 26), (.call 144 [(.t 25)]), (some (24, false)), 0, false, []⟩,
    ⟨(some 27), (.un .not (.t 26)), (some (24, false)), 0, false, []⟩,
    ⟨(some 28), (.mv (.t 27)), (some (24, false)), 0, false, []⟩,
    ⟨(some 29), (.fad 0 (.t 10)), (some (28, true)), 0, false, []⟩,
    ⟨(some 30), (.load false 1 (.t 29)), (some (28, true)), 0, false, []⟩,
    ⟨(some 31), (.bin 0 .geq (.t 30) (.c (.int .i64 13))), (some (28, true)), 0, false, []⟩,
    ⟨(some 32), (.pick (.t 28) (.t 31) (.c (.bool false))), (some (24, false)), 0, false, []⟩,
    ⟨(some 33), (.pick (.t 24) (.c (.bool true)) (.t 32)), none, 0, false, []⟩] false
def a124_7 : AC := .reg [⟨(some 34), (.build [(.int .i64 0), (.int .i64 0), (.int .i64 0), (.int .i64 0), .nils] []), none, 0, false, []⟩,
    ⟨none, (.store 5 (.t 6) (.t 34)), none, 0, false, []⟩,
    ⟨(some 7), (.mv (.c (.bool false))), none, 0, false, []⟩] false
def a124_8 : AC := .seq a124_7 .ret
def a124_9 : AC := .cond (.t 33) a124_8 .skip
def a124_10 : AC := .seq a124_6 a124_9
def a124_11 : AC := .reg [⟨(some 35), (.mv (.t 8)), none, 0, false, []⟩,
    ⟨(some 36), (.nilck (.t 35)), none, 1, false, []⟩,
    ⟨(some 37), (.fad 1 (.t 36)), none, 2, false, []⟩,
    ⟨(some 38), (.load false 1 (.t 37)), none, 3, true, []⟩,
    ⟨(some 39), (.load true 5 (.t 10)), none, 4, true, []⟩,
    ⟨(some 40), (.call 49 [(.t 39)]), none, 5, true, [3]⟩,
    ⟨(some 41), (.len false (.t 38)), none, 6, false, []⟩,
    ⟨(some 42), (.bslice 5 [(.c (.agg true [(.int .i64 0), (.int .i64 0), (.int .i64 0), (.int .i64 0), .nils]))]), none, 7, false, [3, 4, 5]⟩,
    ⟨(some 43), (.app 5 56 (.t 38) (.t 42)), none, 8, false, []⟩,
    ⟨(some 44), (.iad 5 (.t 43) (.t 41)), none, 9, true, []⟩,
    ⟨none, (.store 5 (.t 44) (.t 40)), none, 10, true, []⟩,
    ⟨(some 45), (.nilck (.t 35)), none, 11, false, []⟩,
    ⟨(some 46), (.fad 1 (.t 45)), none, 12, false, []⟩,
    ⟨none, (.store 1 (.t 46) (.t 43)), none, 13, false, [9, 10]⟩] true
def a124_12 : AC := .seq a124_10 a124_11
def a124_13 : AC := .seq a124_5 a124_12
def a124_14 : AC := .blk 1 a124_13
def a124_15 : AC := .reg [⟨(some 47), (.bin 0 .add (.t 17) (.c (.int .i64 1))), none, 0, false, []⟩,
    ⟨(some 17), (.mv (.t 47)), none, 0, false, []⟩] false
def a124_16 : AC := .seq a124_14 a124_15
def a124_17 : AC := .seq a124_4 a124_16
def a124_18 : AC := .seq a124_3 a124_17
def a124_19 : AC := .loop a124_18
def a124_20 : AC := .blk 0 a124_19
def a124_21 : AC := .seq a124_2 a124_20
def a124_22 : AC := .reg [⟨(some 48), (.mv (.t 8)), none, 0, false, []⟩,
    ⟨(some 49), (.load true 5 (.t 3)), none, 0, false, []⟩,
    ⟨(some 50), (.fad 0 (.t 3)), none, 0, false, []⟩,
    ⟨(some 51), (.load false 1 (.t 50)), none, 0, false, []⟩,
    ⟨(some 52), (.bin 0 .geq (.t 51) (.c (.int .i64 13))), none, 0, false, []⟩,
    ⟨(some 53), (.call 145 [(.t 48), (.t 49), (.c (.int .i64 0)), (.t 52)]), none, 0, false, []⟩,
    ⟨(some 54), (.ext (.t 53) 0), none, 0, false, []⟩,
    ⟨(some 55), (.ext (.t 53) 1), none, 0, false, []⟩,
    ⟨none, (.store 5 (.t 6) (.t 54)), none, 0, false, []⟩,
    ⟨(some 7), (.mv (.t 55)), none, 0, false, []⟩] false
def a124_23 : AC := .seq a124_22 .ret
def a124_24 : AC := .seq a124_21 a124_23
def a124_25 : AC := .seq a124_1 a124_24
def a124_26 : AC := .seq a124_0 a124_25
def af124 : AF := { ntmps := 56, res := [(.cell 6 true 5), (.t 7)], body := a124_26 }
theorem tr124 : trF Tryz.prog Tryz.f124 = some af124 := by kernel_rfl
attribute [go_sem] af124 a124_0 a124_1 a124_2 a124_3 a124_4 a124_5 a124_6 a124_7 a124_8 a124_9 a124_10 a124_11 a124_12 a124_13 a124_14 a124_15 a124_16 a124_17 a124_18 a124_19 a124_20 a124_21 a124_22 a124_23 a124_24 a124_25 a124_26
def a144_0 : AC := .reg [⟨(some 1), (.box (.t 0)), none, 0, false, []⟩,
    ⟨(some 2), (.mv (.c (.bool false))), none, 0, false, []⟩] false
def a144_1 : AC := .reg [⟨(some 3), (.fad 0 (.t 1)), none, 0, false, []⟩,
    ⟨(some 4), (.load false 1 (.t 3)), none, 0, false, []⟩,
    ⟨(some 5), (.bin 0 .eql (.t 4) (.c (.int .i64 1))), none, 0, false, []⟩,
    ⟨(some 6), (.mv (.t 5)), none, 0, false, []⟩,
    ⟨(some 7), (.fad 0 (.t 1)), (some (6, false)), 0, false, []⟩,
    ⟨(some 8), (.load false 1 (.t 7)), (some (6, false)), 0, false, []⟩,
    ⟨(some 9), (.bin 0 .eql (.t 8) (.c (.int .i64 2))), (some (6, false)), 0, false, []⟩,
    ⟨(some 10), (.pick (.t 6) (.c (.bool true)) (.t 9)), none, 0, false, []⟩,
    ⟨(some 11), (.mv (.t 10)), none, 0, false, []⟩,
    ⟨(some 12), (.fad 0 (.t 1)), (some (11, false)), 0, false, []⟩,
    ⟨(some 13), (.load false 1 (.t 12)), (some (11, false)), 0, false, []⟩,
    ⟨(some 14), (.bin 0 .geq (.t 13) (.c (.int .i64 13))), (some (11, false)), 0, false, []⟩,
    ⟨(some 15), (.pick (.t 11) (.c (.bool true)) (.t 14)), none, 0, false, []⟩,
    ⟨(some 2), (.mv (.t 15)), none, 0, false, []⟩] false
def a144_2 : AC := .seq a144_1 .ret
def a144_3 : AC := .seq a144_0 a144_2
def af144 : AF := { ntmps := 16, res := [(.t 2)], body := a144_3 }
theorem tr144 : trF Tryz.prog Tryz.f144 = some af144 := by kernel_rfl
attribute [go_sem] af144 a144_0 a144_1 a144_2 a144_3
def a49_0 : AC := .reg [⟨(some 1), (.box (.t 0)), none, 0, false, []⟩,
    ⟨(some 2), (.new [(.int .i64 0), (.int .i64 0), (.int .i64 0), (.int .i64 0), .nils]), none, 0, false, []⟩] false
def a49_1 : AC := .reg [⟨(some 3), (.load true 5 (.t 1)), none, 0, false, []⟩,
    ⟨(some 4), (.call 88 [(.t 3)]), none, 0, false, []⟩,
    ⟨(some 5), (.un .not (.t 4)), none, 0, false, []⟩] false
def a49_2 : AC := .reg [⟨(some 6), (.build [(.int .i64 0), (.int .i64 0), (.int .i64 0), (.int .i64 0), .nils] []), none, 0, false, []⟩,
    ⟨none, (.store 5 (.t 2) (.t 6)), none, 0, false, []⟩] false
def a49_3 : AC := .seq a49_2 .ret
def a49_4 : AC := .cond (.t 5) a49_3 .skip
def a49_5 : AC := .seq a49_1 a49_4
def a49_6 : AC := .reg [⟨(some 7), (.load true 5 (.t 1)), none, 0, false, []⟩,
    ⟨(some 8), (.call 89 [(.t 7)]), none, 0, false, []⟩,
    ⟨none, (.store 5 (.t 2) (.t 8)), none, 0, false, []⟩] false
def a49_7 : AC := .seq a49_6 .ret
def a49_8 : AC := .seq a49_5 a49_7
def a49_9 : AC := .seq a49_0 a49_8
def af49 : AF := { ntmps := 9, res := [(.cell 2 true 5)], body := a49_9 }
theorem tr49 : trF Tryz.prog Tryz.f49 = some af49 := by kernel_rfl
attribute [go_sem] af49 a49_0 a49_1 a49_2 a49_3 a49_4 a49_5 a49_6 a49_7 a49_8 a49_9
def a145_0 : AC := .reg [⟨(some 5), (.box (.t 1)), none, 0, false, []⟩,
    ⟨(some 8), (.new [(.int .i64 0), (.int .i64 0), (.int .i64 0), (.int .i64 0), .nils]), none, 0, false, []⟩,
    ⟨(some 9), (.mv (.c (.bool false))), none, 0, false, []⟩] false
def a145_1 : AC := .reg [⟨(some 15), (.fad 0 (.t 5)), none, 0, false, []⟩,
    ⟨(some 16), (.load false 1 (.t 15)), none, 0, false, []⟩,
    ⟨(some 17), (.bin 0 .eql (.t 16) (.c (.int .i64 2))), none, 0, false, []⟩,
    ⟨(some 18), (.mv (.t 17)), none, 0, false, []⟩,
    ⟨(some 19), (.fad 1 (.t 5)), (some (18, true)), 0, false, []⟩,
    ⟨(some 20), (.load false 1 (.t 19)), (some (18, true)), 0, false, []⟩,
    ⟨(some 21), (.mv (.t 2)), (some (18, true)), 0, false, []⟩,
    ⟨(some 22), (.bin 0 .geq (.t 20) (.t 21)), (some (18, true)), 0, false, []⟩,
    ⟨(some 23), (.pick (.t 18) (.t 22) (.c (.bool false))), none, 0, false, []⟩] false
def a145_2 : AC := .reg [⟨(some 24), (.mv (.t 0)), none, 0, false, []⟩,
    ⟨(some 25), (.fad 1 (.t 5)), none, 0, false, []⟩,
    ⟨(some 26), (.load false 1 (.t 25)), none, 0, false, []⟩,
    ⟨(some 27), (.mv (.t 2)), none, 0, false, []⟩,
    ⟨(some 28), (.bin 0 .sub (.t 26) (.t 27)), none, 0, false, []⟩,
    ⟨(some 29), (.mv (.t 2)), none, 0, false, []⟩,
    ⟨(some 30), (.mv (.t 3)), none, 0, false, []⟩,
    ⟨(some 31), (.call 160 [(.t 24), (.t 28), (.t 29), (.t 30)]), none, 0, false, []⟩,
    ⟨(some 32), (.ext (.t 31) 0), none, 0, false, []⟩,
    ⟨(some 33), (.ext (.t 31) 1), none, 0, false, []⟩,
    ⟨none, (.store 5 (.t 8) (.t 32)), none, 0, false, []⟩,
    ⟨(some 9), (.mv (.t 33)), none, 0, false, []⟩] false
def a145_3 : AC := .seq a145_2 .ret
def a145_4 : AC := .cond (.t 23) a145_3 .skip
def a145_5 : AC := .seq a145_1 a145_4
def a145_6 : AC := .reg [⟨(some 34), (.fad 4 (.t 5)), none, 0, false, []⟩,
    ⟨(some 35), (.load false 1 (.t 34)), none, 0, false, []⟩,
    ⟨(some 36), (.len false (.t 35)), none, 0, false, []⟩,
    ⟨(some 37), (.bin 0 .eql (.t 36) (.c (.int .i64 0))), none, 0, false, []⟩] false
def a145_7 : AC := .reg [⟨(some 38), (.fad 4 (.t 5)), none, 0, false, []⟩,
    ⟨none, (.store 1 (.t 38) (.c .nils)), none, 0, false, []⟩] false
def a145_8 : AC := .reg [⟨(some 39), (.load true 5 (.t 5)), none, 0, false, []⟩,
    ⟨none, (.store 5 (.t 8) (.t 39)), none, 0, false, []⟩,
    ⟨(some 9), (.mv (.c (.bool true))), none, 0, false, []⟩] false
def a145_9 : AC := .seq a145_8 .ret
def a145_10 : AC := .seq a145_7 a145_9
def a145_11 : AC := .cond (.t 37) a145_10 .skip
def a145_12 : AC := .seq a145_6 a145_11
def a145_13 : AC := .reg [⟨(some 40), (.fad 4 (.t 5)), none, 0, false, []⟩,
    ⟨(some 41), (.load false 1 (.t 40)), none, 0, false, []⟩,
    ⟨(some 42), (.len false (.t 41)), none, 0, false, []⟩,
    ⟨(some 43), (.mk 5 56 [(.int .i64 0), (.int .i64 0), (.int .i64 0), (.int .i64 0), .nils] (.t 42) (.t 42)), none, 0, false, []⟩,
    ⟨(some 10), (.mv (.t 43)), none, 0, false, []⟩] false
def a145_14 : AC := .reg [⟨(some 44), (.fad 4 (.t 5)), none, 0, false, []⟩,
    ⟨(some 45), (.load false 1 (.t 44)), none, 0, false, []⟩,
    ⟨(some 46), (.len false (.t 45)), none, 0, false, []⟩,
    ⟨(some 47), (.mv (.c (.int .i64 0))), none, 0, false, []⟩] false
def a145_15 : AC := .reg [⟨(some 48), (.bin 0 .lss (.t 47) (.t 46)), none, 0, false, []⟩] false
def a145_16 : AC := .cond (.t 48) .skip (.exit 0)
def a145_17 : AC := .reg [⟨(some 49), (.mv (.t 47)), none, 0, false, []⟩,
    ⟨(some 50), (.iad 5 (.t 45) (.t 47)), none, 0, false, []⟩,
    ⟨(some 51), (.load true 5 (.t 50)), none, 0, false, []⟩,
    ⟨(some 12), (.new [(.int .i64 0), (.int .i64 0), (.int .i64 0), (.int .i64 0), .nils]), none, 0, false, []⟩,
    ⟨(some 11), (.mv (.t 49)), none, 0, false, []⟩,
    ⟨none, (.store 5 (.t 12) (.t 51)), none, 0, false, []⟩] false
def a145_18 : AC := .reg [⟨(some 53), (.mv (.t 0)), none, 0, false, []⟩,
    ⟨(some 54), (.load true 5 (.t 12)), none, 1, true, []⟩,
    ⟨(some 55), (.mv (.t 2)), none, 2, false, []⟩,
    ⟨(some 56), (.fad 0 (.t 5)), none, 3, false, []⟩,
    ⟨(some 57), (.load false 1 (.t 56)), none, 4, true, []⟩,
    ⟨(some 58), (.mv (.t 11)), none, 5, false, []⟩,
    ⟨(some 59), (.call 71 [(.t 57), (.t 58)]), none, 6, true, [1]⟩,
    ⟨(some 60), (.bin 0 .add (.t 55) (.t 59)), none, 7, false, []⟩,
    ⟨(some 61), (.mv (.t 3)), none, 8, false, []⟩,
    ⟨(some 62), (.mv (.t 61)), none, 9, false, []⟩,
    ⟨(some 63), (.fad 0 (.t 5)), (some (62, false)), 10, false, []⟩,
    ⟨(some 64), (.load false 1 (.t 63)), (some (62, false)), 11, true, []⟩,
    ⟨(some 65), (.bin 0 .eql (.t 64) (.c (.int .i64 12))), (some (62, false)), 12, false, []⟩,
    ⟨(some 66), (.mv (.t 65)), (some (62, false)), 13, false, []⟩,
    ⟨(some 67), (.mv (.t 11)), (some (66, true)), 14, false, []⟩,
    ⟨(some 68), (.bin 0 .eql (.t 67) (.c (.int .i64 2))), (some (66, true)), 15, false, []⟩,
    ⟨(some 69), (.pick (.t 66) (.t 68) (.c (.bool false))), (some (62, false)), 16, false, []⟩,
    ⟨(some 70), (.pick (.t 62) (.c (.bool true)) (.t 69)), none, 17, false, []⟩,
    ⟨(some 71), (.call 145 [(.t 53), (.t 54), (.t 60), (.t 70)]), none, 18, true, []⟩,
    ⟨(some 52), (.mv (.t 71)), none, 19, false, []⟩,
    ⟨(some 72), (.ext (.t 52) 0), none, 20, false, []⟩,
    ⟨(some 73), (.ext (.t 52) 1), none, 21, false, []⟩,
    ⟨(some 13), (.new [(.int .i64 0), (.int .i64 0), (.int .i64 0), (.int .i64 0), .nils]), none, 22, false, [1, 4, 6, 11, 18]⟩,
    ⟨none, (.store 5 (.t 13) (.t 72)), none, 23, false, []⟩,
    ⟨(some 14), (.mv (.t 73)), none, 24, false, []⟩] true
def a145_19 : AC := .reg [⟨(some 74), (.mv (.t 14)), none, 0, false, []⟩,
    ⟨(some 75), (.un .not (.t 74)), none, 0, false, []⟩] false
def a145_20 : AC := .reg [⟨(some 76), (.build [(.int .i64 0), (.int .i64 0), (.int .i64 0), (.int .i64 0), .nils] []), none, 0, false, []⟩,
    ⟨none, (.store 5 (.t 8) (.t 76)), none, 0, false, []⟩,
    ⟨(some 9), (.mv (.c (.bool false))), none, 0, false, []⟩] false
def a145_21 : AC := .seq a145_20 .ret
def a145_22 : AC := .cond (.t 75) a145_21 .skip
def a145_23 : AC := .seq a145_19 a145_22
def a145_24 : AC := .reg [⟨(some 77), (.mv (.t 10)), none, 0, false, []⟩,
    ⟨(some 78), (.mv (.t 11)), none, 0, false, []⟩,
    ⟨(some 79), (.load true 5 (.t 13)), none, 0, false, []⟩,
    ⟨(some 80), (.iad 5 (.t 77) (.t 78)), none, 0, false, []⟩,
    ⟨none, (.store 5 (.t 80) (.t 79)), none, 0, false, []⟩] false
def a145_25 : AC := .seq a145_23 a145_24
def a145_26 : AC := .seq a145_18 a145_25
def a145_27 : AC := .seq a145_17 a145_26
def a145_28 : AC := .blk 1 a145_27
def a145_29 : AC := .reg [⟨(some 81), (.bin 0 .add (.t 47) (.c (.int .i64 1))), none, 0, false, []⟩,
    ⟨(some 47), (.mv (.t 81)), none, 0, false, []⟩] false
def a145_30 : AC := .seq a145_28 a145_29
def a145_31 : AC := .seq a145_16 a145_30
def a145_32 : AC := .seq a145_15 a145_31
def a145_33 : AC := .loop a145_32
def a145_34 : AC := .blk 0 a145_33
def a145_35 : AC := .seq a145_14 a145_34
def a145_36 : AC := .reg [⟨(some 82), (.mv (.t 10)), none, 0, false, []⟩,
    ⟨(some 83), (.fad 4 (.t 5)), none, 0, false, []⟩,
    ⟨none, (.store 1 (.t 83) (.t 82)), none, 0, false, []⟩] false
def a145_37 : AC := .reg [⟨(some 84), (.load true 5 (.t 5)), none, 0, false, []⟩,
    ⟨none, (.store 5 (.t 8) (.t 84)), none, 0, false, []⟩,
    ⟨(some 9), (.mv (.c (.bool true))), none, 0, false, []⟩] false
def a145_38 : AC := .seq a145_37 .ret
def a145_39 : AC := .seq a145_36 a145_38
def a145_40 : AC := .seq a145_35 a145_39
def a145_41 : AC := .seq a145_13 a145_40
def a145_42 : AC := .seq a145_12 a145_41
def a145_43 : AC := .seq a145_5 a145_42
def a145_44 : AC := .seq a145_0 a145_43
def af145 : AF := { ntmps := 85, res := [(.cell 8 true 5), (.t 9)], body := a145_44 }
theorem tr145 : trF Tryz.prog Tryz.f145 = some af145 := by kernel_rfl
attribute [go_sem] af145 a145_0 a145_1 a145_2 a145_3 a145_4 a145_5 a145_6 a145_7 a145_8 a145_9 a145_10 a145_11 a145_12 a145_13 a145_14 a145_15 a145_16 a145_17 a145_18 a145_19 a145_20 a145_21 a145_22 a145_23 a145_24 a145_25 a145_26 a145_27 a145_28 a145_29 a145_30 a145_31 a145_32 a145_33 a145_34 a145_35 a145_36 a145_37 a145_38 a145_39 a145_40 a145_41 a145_42 a145_43 a145_44
def a89_0 : AC := .reg [⟨(some 1), (.box (.t 0)), none, 0, false, []⟩,
    ⟨(some 2), (.new [(.int .i64 0), (.int .i64 0), (.int .i64 0), (.int .i64 0), .nils]), none, 0, false, []⟩] false
def a89_1 : AC := .reg [⟨(some 3), (.mv (.c (.int .i64 0))), none, 0, false, []⟩,
    ⟨(some 4), (.mv (.c (.int .i64 0))), none, 0, false, []⟩] false
def a89_2 : AC := .reg [⟨(some 8), (.fad 0 (.t 1)), none, 0, false, []⟩,
    ⟨(some 9), (.load false 1 (.t 8)), none, 0, false, []⟩] false
def a89_3 : AC := .reg [⟨(some 13), (.bin 0 .eql (.t 9) (.c (.int .i64 3))), none, 0, false, []⟩,
    ⟨(some 12), (.mv (.t 13)), none, 0, false, []⟩] false
def a89_4 : AC := .reg [⟨(some 3), (.mv (.c (.int .i64 13))), none, 0, false, []⟩] false
def a89_5 : AC := .reg [⟨(some 15), (.bin 0 .eql (.t 9) (.c (.int .i64 4))), none, 0, false, []⟩,
    ⟨(some 14), (.mv (.t 15)), none, 0, false, []⟩] false
def a89_6 : AC := .reg [⟨(some 16), (.fad 4 (.t 1)), none, 0, false, []⟩,
    ⟨(some 17), (.load false 1 (.t 16)), none, 1, false, []⟩,
    ⟨(some 18), (.iad 5 (.t 17) (.c (.int .i64 0))), none, 2, false, []⟩,
    ⟨(some 19), (.load true 5 (.t 18)), none, 3, false, []⟩,
    ⟨(some 20), (.call 89 [(.t 19)]), none, 4, true, []⟩,
    ⟨(some 21), (.fad 4 (.t 1)), none, 5, false, []⟩,
    ⟨(some 22), (.load false 1 (.t 21)), none, 6, false, [4]⟩,
    ⟨(some 23), (.iad 5 (.t 22) (.c (.int .i64 2))), none, 7, false, [4]⟩,
    ⟨(some 24), (.load true 5 (.t 23)), none, 8, false, [4]⟩,
    ⟨(some 25), (.call 89 [(.t 24)]), none, 9, false, []⟩,
    ⟨(some 26), (.bslice 5 [(.t 20), (.t 25)]), none, 10, false, []⟩,
    ⟨(some 27), (.call 58 [(.c (.int .i64 14)), (.c (.int .i64 0)), (.c (.int .i64 0)), (.c (.int .i64 0)), (.t 26)]), none, 11, false, []⟩,
    ⟨none, (.store 5 (.t 2) (.t 27)), none, 12, false, []⟩] true
def a89_7 : AC := .seq a89_6 .ret
def a89_8 : AC := .reg [⟨(some 29), (.bin 0 .eql (.t 9) (.c (.int .i64 5))), none, 0, false, []⟩,
    ⟨(some 28), (.mv (.t 29)), none, 0, false, []⟩] false
def a89_9 : AC := .reg [⟨(some 3), (.mv (.c (.int .i64 15))), none, 0, false, []⟩,
    ⟨(some 4), (.mv (.c (.int .i64 2))), none, 0, false, []⟩] false
def a89_10 : AC := .reg [⟨(some 31), (.bin 0 .eql (.t 9) (.c (.int .i64 6))), none, 0, false, []⟩,
    ⟨(some 30), (.mv (.t 31)), none, 0, false, []⟩] false
def a89_11 : AC := .reg [⟨(some 3), (.mv (.c (.int .i64 16))), none, 0, false, []⟩] false
def a89_12 : AC := .reg [⟨(some 33), (.bin 0 .eql (.t 9) (.c (.int .i64 7))), none, 0, false, []⟩,
    ⟨(some 32), (.mv (.t 33)), none, 0, false, []⟩] false
def a89_13 : AC := .reg [⟨(some 3), (.mv (.c (.int .i64 17))), none, 0, false, []⟩] false
def a89_14 : AC := .reg [⟨(some 35), (.bin 0 .eql (.t 9) (.c (.int .i64 8))), none, 0, false, []⟩,
    ⟨(some 34), (.mv (.t 35)), none, 0, false, []⟩] false
def a89_15 : AC := .reg [⟨(some 3), (.mv (.c (.int .i64 18))), none, 0, false, []⟩,
    ⟨(some 4), (.mv (.c (.int .i64 2))), none, 0, false, []⟩] false
def a89_16 : AC := .reg [⟨(some 37), (.bin 0 .eql (.t 9) (.c (.int .i64 9))), none, 0, false, []⟩,
    ⟨(some 36), (.mv (.t 37)), none, 0, false, []⟩] false
def a89_17 : AC := .reg [⟨(some 3), (.mv (.c (.int .i64 19))), none, 0, false, []⟩,
    ⟨(some 4), (.mv (.c (.int .i64 2))), none, 0, false, []⟩] false
def a89_18 : AC := .reg [⟨(some 39), (.bin 0 .eql (.t 9) (.c (.int .i64 10))), none, 0, false, []⟩,
    ⟨(some 38), (.mv (.t 39)), none, 0, false, []⟩] false
def a89_19 : AC := .reg [⟨(some 3), (.mv (.c (.int .i64 20))), none, 0, false, []⟩] false
def a89_20 : AC := .reg [⟨(some 41), (.bin 0 .eql (.t 9) (.c (.int .i64 11))), none, 0, false, []⟩,
    ⟨(some 40), (.mv (.t 41)), none, 0, false, []⟩] false
def a89_21 : AC := .reg [⟨(some 3), (.mv (.c (.int .i64 21))), none, 0, false, []⟩] false
def a89_22 : AC := .reg [⟨(some 43), (.bin 0 .eql (.t 9) (.c (.int .i64 12))), none, 0, false, []⟩,
    ⟨(some 42), (.mv (.t 43)), none, 0, false, []⟩] false
def a89_23 : AC := .reg [⟨(some 44), (.fad 1 (.t 1)), none, 0, false, []⟩,
    ⟨(some 45), (.load false 1 (.t 44)), none, 1, true, []⟩,
    ⟨(some 46), (.fad 4 (.t 1)), none, 2, false, []⟩,
    ⟨(some 47), (.load false 1 (.t 46)), none, 3, false, []⟩,
    ⟨(some 48), (.iad 5 (.t 47) (.c (.int .i64 0))), none, 4, false, []⟩,
    ⟨(some 49), (.load true 5 (.t 48)), none, 5, false, []⟩,
    ⟨(some 50), (.call 89 [(.t 49)]), none, 6, true, [1]⟩,
    ⟨(some 51), (.fad 4 (.t 1)), none, 7, false, []⟩,
    ⟨(some 52), (.load false 1 (.t 51)), none, 8, false, [6]⟩,
    ⟨(some 53), (.iad 5 (.t 52) (.c (.int .i64 1))), none, 9, false, [6]⟩,
    ⟨(some 54), (.load true 5 (.t 53)), none, 10, false, [6]⟩,
    ⟨(some 55), (.call 89 [(.t 54)]), none, 11, true, [1]⟩,
    ⟨(some 56), (.fad 4 (.t 1)), none, 12, false, []⟩,
    ⟨(some 57), (.load false 1 (.t 56)), none, 13, false, [6, 11]⟩,
    ⟨(some 58), (.iad 5 (.t 57) (.c (.int .i64 2))), none, 14, false, [6, 11]⟩,
    ⟨(some 59), (.load true 5 (.t 58)), none, 15, false, [6, 11]⟩,
    ⟨(some 60), (.call 34 [(.t 59)]), none, 16, true, [1]⟩,
    ⟨(some 61), (.fad 4 (.t 1)), none, 17, false, []⟩,
    ⟨(some 62), (.load false 1 (.t 61)), none, 18, false, [6, 11, 16]⟩,
    ⟨(some 63), (.iad 5 (.t 62) (.c (.int .i64 3))), none, 19, false, [6, 11, 16]⟩,
    ⟨(some 64), (.load true 5 (.t 63)), none, 20, false, [6, 11, 16]⟩,
    ⟨(some 65), (.call 89 [(.t 64)]), none, 21, false, [1]⟩,
    ⟨(some 66), (.bslice 5 [(.t 50), (.t 55), (.t 60), (.t 65)]), none, 22, false, [1]⟩,
    ⟨(some 67), (.call 58 [(.c (.int .i64 23)), (.t 45), (.c (.int .i64 0)), (.c (.int .i64 5)), (.t 66)]), none, 23, false, []⟩,
    ⟨none, (.store 5 (.t 2) (.t 67)), none, 24, false, []⟩] true
def a89_24 : AC := .seq a89_23 .ret
def a89_25 : AC := .reg [⟨(some 10), (.load true 5 (.t 1)), none, 0, false, []⟩,
    ⟨(some 11), (.call 34 [(.t 10)]), none, 0, false, []⟩,
    ⟨none, (.store 5 (.t 2) (.t 11)), none, 0, false, []⟩] false
def a89_26 : AC := .seq a89_25 .ret
def a89_27 : AC := .cond (.t 42) a89_24 a89_26
def a89_28 : AC := .seq a89_22 a89_27
def a89_29 : AC := .cond (.t 40) a89_21 a89_28
def a89_30 : AC := .seq a89_20 a89_29
def a89_31 : AC := .cond (.t 38) a89_19 a89_30
def a89_32 : AC := .seq a89_18 a89_31
def a89_33 : AC := .cond (.t 36) a89_17 a89_32
def a89_34 : AC := .seq a89_16 a89_33
def a89_35 : AC := .cond (.t 34) a89_15 a89_34
def a89_36 : AC := .seq a89_14 a89_35
def a89_37 : AC := .cond (.t 32) a89_13 a89_36
def a89_38 : AC := .seq a89_12 a89_37
def a89_39 : AC := .cond (.t 30) a89_11 a89_38
def a89_40 : AC := .seq a89_10 a89_39
def a89_41 : AC := .cond (.t 28) a89_9 a89_40
def a89_42 : AC := .seq a89_8 a89_41
def a89_43 : AC := .cond (.t 14) a89_7 a89_42
def a89_44 : AC := .seq a89_5 a89_43
def a89_45 : AC := .cond (.t 12) a89_4 a89_44
def a89_46 : AC := .seq a89_3 a89_45
def a89_47 : AC := .blk 0 a89_46
def a89_48 : AC := .seq a89_2 a89_47
def a89_49 : AC := .reg [⟨(some 68), (.mv (.t 3)), none, 0, false, []⟩,
    ⟨(some 69), (.fad 4 (.t 1)), none, 0, false, []⟩,
    ⟨(some 70), (.load false 1 (.t 69)), none, 0, false, []⟩,
    ⟨(some 71), (.len false (.t 70)), none, 0, false, []⟩,
    ⟨(some 72), (.mv (.t 4)), none, 0, false, []⟩,
    ⟨(some 73), (.bin 0 .sub (.t 71) (.t 72)), none, 0, false, []⟩,
    ⟨(some 74), (.mk 5 56 [(.int .i64 0), (.int .i64 0), (.int .i64 0), (.int .i64 0), .nils] (.c (.int .i64 0)) (.t 73)), none, 0, false, []⟩,
    ⟨(some 75), (.build [(.int .i64 0), (.int .i64 0), (.int .i64 0), (.int .i64 0), .nils] [(0, (1, (.t 68))), (4, (1, (.t 74)))]), none, 0, false, []⟩,
    ⟨(some 5), (.new [(.int .i64 0), (.int .i64 0), (.int .i64 0), (.int .i64 0), .nils]), none, 0, false, []⟩,
    ⟨none, (.store 5 (.t 5) (.t 75)), none, 0, false, []⟩] false
def a89_50 : AC := .reg [⟨(some 76), (.fad 4 (.t 1)), none, 0, false, []⟩,
    ⟨(some 77), (.load false 1 (.t 76)), none, 0, false, []⟩,
    ⟨(some 78), (.mv (.t 4)), none, 0, false, []⟩,
    ⟨(some 79), (.slc 5 (.t 77) (some (.t 78)) none), none, 0, false, []⟩,
    ⟨(some 80), (.len false (.t 79)), none, 0, false, []⟩,
    ⟨(some 81), (.mv (.c (.int .i64 0))), none, 0, false, []⟩] false
def a89_51 : AC := .reg [⟨(some 82), (.bin 0 .lss (.t 81) (.t 80)), none, 0, false, []⟩] false
def a89_52 : AC := .cond (.t 82) .skip (.exit 1)
def a89_53 : AC := .reg [⟨(some 83), (.iad 5 (.t 79) (.t 81)), none, 0, false, []⟩,
    ⟨(some 84), (.load true 5 (.t 83)), none, 0, false, []⟩,
    ⟨(some 7), (.new [(.int .i64 0), (.int .i64 0), (.int .i64 0), (.int .i64 0), .nils]), none, 0, false, []⟩,
    ⟨none, (.store 5 (.t 7) (.t 84)), none, 0, false, []⟩] false
def a89_54 : AC := .reg [⟨(some 85), (.fad 4 (.t 5)), none, 0, false, []⟩,
    ⟨(some 86), (.load false 1 (.t 85)), none, 1, true, []⟩,
    ⟨(some 87), (.load true 5 (.t 7)), none, 2, false, []⟩,
    ⟨(some 88), (.call 89 [(.t 87)]), none, 3, false, [1]⟩,
    ⟨(some 89), (.bslice 5 [(.t 88)]), none, 4, false, [1]⟩,
    ⟨(some 90), (.app 5 56 (.t 86) (.t 89)), none, 5, false, []⟩,
    ⟨(some 91), (.fad 4 (.t 5)), none, 6, false, []⟩,
    ⟨none, (.store 1 (.t 91) (.t 90)), none, 7, false, []⟩] true
def a89_55 : AC := .seq a89_53 a89_54
def a89_56 : AC := .blk 2 a89_55
def a89_57 : AC := .reg [⟨(some 92), (.bin 0 .add (.t 81) (.c (.int .i64 1))), none, 0, false, []⟩,
    ⟨(some 81), (.mv (.t 92)), none, 0, false, []⟩] false
def a89_58 : AC := .seq a89_56 a89_57
def a89_59 : AC := .seq a89_52 a89_58
def a89_60 : AC := .seq a89_51 a89_59
def a89_61 : AC := .loop a89_60
def a89_62 : AC := .blk 1 a89_61
def a89_63 : AC := .seq a89_50 a89_62
def a89_64 : AC := .reg [⟨(some 93), (.load true 5 (.t 5)), none, 0, false, []⟩,
    ⟨none, (.store 5 (.t 2) (.t 93)), none, 0, false, []⟩] false
def a89_65 : AC := .seq a89_64 .ret
def a89_66 : AC := .seq a89_63 a89_65
def a89_67 : AC := .seq a89_49 a89_66
def a89_68 : AC := .seq a89_48 a89_67
def a89_69 : AC := .seq a89_1 a89_68
def a89_70 : AC := .seq a89_0 a89_69
def af89 : AF := { ntmps := 94, res := [(.cell 2 true 5)], body := a89_70 }
theorem tr89 : trF Tryz.prog Tryz.f89 = some af89 := by kernel_rfl
attribute [go_sem] af89 a89_0 a89_1 a89_2 a89_3 a89_4 a89_5 a89_6 a89_7 a89_8 a89_9 a89_10 a89_11 a89_12 a89_13 a89_14 a89_15 a89_16 a89_17 a89_18 a89_19 a89_20 a89_21 a89_22 a89_23 a89_24 a89_25 a89_26 a89_27 a89_28 a89_29 a89_30 a89_31 a89_32 a89_33 a89_34 a89_35 a89_36 a89_37 a89_38 a89_39 a89_40 a89_41 a89_42 a89_43 a89_44 a89_45 a89_46 a89_47 a89_48 a89_49 a89_50 a89_51 a89_52 a89_53 a89_54 a89_55 a89_56 a89_57 a89_58 a89_59 a89_60 a89_61 a89_62 a89_63 a89_64 a89_65 a89_66 a89_67 a89_68 a89_69 a89_70
def a160_0 : AC := .reg [⟨(some 8), (.new [(.int .i64 0), (.int .i64 0), (.int .i64 0), (.int .i64 0), .nils]), none, 0, false, []⟩,
    ⟨(some 9), (.mv (.c (.bool false))), none, 0, false, []⟩] false
def a160_1 : AC := .reg [⟨(some 10), (.mv (.t 1)), none, 0, false, []⟩,
    ⟨(some 11), (.mv (.t 0)), none, 0, false, []⟩,
    ⟨(some 12), (.nilck (.t 11)), none, 0, false, []⟩,
    ⟨(some 13), (.fad 0 (.t 12)), none, 0, false, []⟩,
    ⟨(some 14), (.load false 1 (.t 13)), none, 0, false, []⟩,
    ⟨(some 15), (.len false (.t 14)), none, 0, false, []⟩,
    ⟨(some 16), (.bin 0 .geq (.t 10) (.t 15)), none, 0, false, []⟩] false
def a160_2 : AC := .reg [⟨(some 17), (.mv (.t 0)), none, 0, false, []⟩,
    ⟨(some 18), (.nilck (.t 17)), none, 0, false, []⟩,
    ⟨(some 19), (.fad 2 (.t 18)), none, 0, false, []⟩,
    ⟨(some 20), (.load false 1 (.t 19)), none, 0, false, []⟩,
    ⟨(some 21), (.un .not (.t 20)), none, 0, false, []⟩] false
def a160_3 : AC := .reg [⟨(some 22), (.build [(.int .i64 0), (.int .i64 0), (.int .i64 0), (.int .i64 0), .nils] []), none, 0, false, []⟩,
    ⟨none, (.store 5 (.t 8) (.t 22)), none, 0, false, []⟩,
    ⟨(some 9), (.mv (.c (.bool false))), none, 0, false, []⟩] false
def a160_4 : AC := .seq a160_3 .ret
def a160_5 : AC := .cond (.t 21) a160_4 .skip
def a160_6 : AC := .seq a160_2 a160_5
def a160_7 : AC := .reg [⟨(some 23), (.mv (.t 1)), none, 0, false, []⟩,
    ⟨(some 24), (.mv (.t 0)), none, 0, false, []⟩,
    ⟨(some 25), (.nilck (.t 24)), none, 0, false, []⟩,
    ⟨(some 26), (.fad 0 (.t 25)), none, 0, false, []⟩,
    ⟨(some 27), (.load false 1 (.t 26)), none, 0, false, []⟩,
    ⟨(some 28), (.len false (.t 27)), none, 0, false, []⟩,
    ⟨(some 29), (.bin 0 .sub (.t 23) (.t 28)), none, 0, false, []⟩,
    ⟨(some 30), (.mv (.t 2)), none, 0, false, []⟩,
    ⟨(some 31), (.bin 0 .add (.t 29) (.t 30)), none, 0, false, []⟩,
    ⟨(some 32), (.call 50 [(.t 31)]), none, 0, false, []⟩,
    ⟨none, (.store 5 (.t 8) (.t 32)), none, 0, false, []⟩,
    ⟨(some 9), (.mv (.c (.bool true))), none, 0, false, []⟩] false
def a160_8 : AC := .seq a160_7 .ret
def a160_9 : AC := .seq a160_6 a160_8
def a160_10 : AC := .cond (.t 16) a160_9 .skip
def a160_11 : AC := .seq a160_1 a160_10
def a160_12 : AC := .reg [⟨(some 33), (.mv (.t 3)), none, 0, false, []⟩] false
def a160_13 : AC := .reg [⟨(some 34), (.mv (.t 0)), none, 0, false, []⟩,
    ⟨(some 35), (.nilck (.t 34)), none, 0, false, []⟩,
    ⟨(some 36), (.fad 1 (.t 35)), none, 0, false, []⟩,
    ⟨(some 37), (.load false 1 (.t 36)), none, 0, false, []⟩,
    ⟨(some 38), (.mv (.t 1)), none, 0, false, []⟩,
    ⟨(some 39), (.iad 5 (.t 37) (.t 38)), none, 0, false, []⟩,
    ⟨(some 40), (.load true 5 (.t 39)), none, 0, false, []⟩,
    ⟨(some 41), (.mv (.t 2)), none, 0, false, []⟩,
    ⟨(some 42), (.call 33 [(.t 40), (.t 41), (.c (.int .i64 0))]), none, 0, false, []⟩,
    ⟨(some 43), (.ext (.t 42) 0), none, 0, false, []⟩,
    ⟨(some 44), (.ext (.t 42) 1), none, 0, false, []⟩,
    ⟨none, (.store 5 (.t 8) (.t 43)), none, 0, false, []⟩,
    ⟨(some 9), (.mv (.t 44)), none, 0, false, []⟩] false
def a160_14 : AC := .seq a160_13 .ret
def a160_15 : AC := .cond (.t 33) a160_14 .skip
def a160_16 : AC := .seq a160_12 a160_15
def a160_17 : AC := .reg [⟨(some 45), (.mv (.t 0)), none, 0, false, []⟩,
    ⟨(some 46), (.nilck (.t 45)), none, 0, false, []⟩,
    ⟨(some 47), (.fad 0 (.t 46)), none, 0, false, []⟩,
    ⟨(some 48), (.load false 1 (.t 47)), none, 0, false, []⟩,
    ⟨(some 49), (.mv (.t 1)), none, 0, false, []⟩,
    ⟨(some 50), (.iad 5 (.t 48) (.t 49)), none, 0, false, []⟩,
    ⟨(some 51), (.load true 5 (.t 50)), none, 0, false, []⟩,
    ⟨(some 52), (.mv (.t 2)), none, 0, false, []⟩,
    ⟨(some 53), (.call 33 [(.t 51), (.t 52), (.c (.int .i64 0))]), none, 0, false, []⟩,
    ⟨(some 54), (.ext (.t 53) 0), none, 0, false, []⟩,
    ⟨(some 55), (.ext (.t 53) 1), none, 0, false, []⟩,
    ⟨none, (.store 5 (.t 8) (.t 54)), none, 0, false, []⟩,
    ⟨(some 9), (.mv (.t 55)), none, 0, false, []⟩] false
def a160_18 : AC := .seq a160_17 .ret
def a160_19 : AC := .seq a160_16 a160_18
def a160_20 : AC := .seq a160_11 a160_19
def a160_21 : AC := .seq a160_0 a160_20
def af160 : AF := { ntmps := 56, res := [(.cell 8 true 5), (.t 9)], body := a160_21 }
theorem tr160 : trF Tryz.prog Tryz.f160 = some af160 := by kernel_rfl
attribute [go_sem] af160 a160_0 a160_1 a160_2 a160_3 a160_4 a160_5 a160_6 a160_7 a160_8 a160_9 a160_10 a160_11 a160_12 a160_13 a160_14 a160_15 a160_16 a160_17 a160_18 a160_19 a160_20 a160_21
end Go.Proofs.YtkldipbhenabfaaGreat.Abs

