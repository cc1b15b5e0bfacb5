/- The abstract code of functions, printed by program; that it is the translation of the model's code is decided by the kernel. -/
import Derived.Test.YtdpigpopcbjkmaaDoorEv
import Derived.Test.YtdpigpopcbjkmaaDoorProg
import Derived.KernelRfl
namespace Go.Proofs.YtdpigpopcbjkmaaDoor.Abs
open Go Go.Proofs Go.Proofs.YtdpigpopcbjkmaaDoor
def a45_0 : AC := .reg [⟨(some 2), (.box (.t 0)), none, 0, false, []⟩,
    ⟨(some 3), (.box (.t 1)), none, 0, false, []⟩,
    ⟨(some 4), (.mv (.c (.bool false))), none, 0, false, []⟩] false
def a45_1 : AC := .reg [⟨(some 11), (.fad 0 (.t 2)), none, 0, false, []⟩,
    ⟨(some 12), (.load false 1 (.t 11)), none, 0, false, []⟩,
    ⟨(some 13), (.bin 0 .eql (.t 12) (.c (.int .i64 14))), none, 0, false, []⟩,
    ⟨(some 14), (.mv (.t 13)), none, 0, false, []⟩,
    ⟨(some 15), (.fad 0 (.t 3)), (some (14, true)), 0, false, []⟩,
    ⟨(some 16), (.load false 1 (.t 15)), (some (14, true)), 0, false, []⟩,
    ⟨(some 17), (.bin 0 .eql (.t 16) (.c (.int .i64 14))), (some (14, true)), 0, false, []⟩,
    ⟨(some 18), (.pick (.t 14) (.t 17) (.c (.bool false))), none, 0, false, []⟩,
    ⟨(some 10), (.mv (.t 18)), none, 0, false, []⟩] false
def a45_2 : AC := .reg [⟨(some 19), (.fad 4 (.t 2)), none, 0, false, []⟩,
    ⟨(some 20), (.load false 1 (.t 19)), none, 1, false, []⟩,
    ⟨(some 21), (.iad 5 (.t 20) (.c (.int .i64 1))), none, 2, false, []⟩,
    ⟨(some 22), (.load true 5 (.t 21)), none, 3, false, []⟩,
    ⟨(some 23), (.fad 4 (.t 3)), none, 4, false, []⟩,
    ⟨(some 24), (.load false 1 (.t 23)), none, 5, false, []⟩,
    ⟨(some 25), (.iad 5 (.t 24) (.c (.int .i64 1))), none, 6, false, []⟩,
    ⟨(some 26), (.load true 5 (.t 25)), none, 7, false, []⟩,
    ⟨(some 27), (.call 45 [(.t 22), (.t 26)]), none, 8, false, []⟩,
    ⟨(some 4), (.mv (.t 27)), none, 9, false, []⟩] true
def a45_3 : AC := .seq a45_2 .ret
def a45_4 : AC := .reg [⟨(some 29), (.fad 0 (.t 2)), none, 0, false, []⟩,
    ⟨(some 30), (.load false 1 (.t 29)), none, 0, false, []⟩,
    ⟨(some 31), (.bin 0 .eql (.t 30) (.c (.int .i64 17))), none, 0, false, []⟩,
    ⟨(some 32), (.mv (.t 31)), none, 0, false, []⟩,
    ⟨(some 33), (.fad 0 (.t 3)), (some (32, true)), 0, false, []⟩,
    ⟨(some 34), (.load false 1 (.t 33)), (some (32, true)), 0, false, []⟩,
    ⟨(some 35), (.bin 0 .eql (.t 34) (.c (.int .i64 17))), (some (32, true)), 0, false, []⟩,
    ⟨(some 36), (.pick (.t 32) (.t 35) (.c (.bool false))), none, 0, false, []⟩,
    ⟨(some 28), (.mv (.t 36)), none, 0, false, []⟩] false
def a45_5 : AC := .reg [⟨(some 37), (.fad 4 (.t 2)), none, 0, false, []⟩,
    ⟨(some 38), (.load false 1 (.t 37)), none, 1, false, []⟩,
    ⟨(some 39), (.iad 5 (.t 38) (.c (.int .i64 2))), none, 2, false, []⟩,
    ⟨(some 40), (.load true 5 (.t 39)), none, 3, false, []⟩,
    ⟨(some 41), (.fad 4 (.t 3)), none, 4, false, []⟩,
    ⟨(some 42), (.load false 1 (.t 41)), none, 5, false, []⟩,
    ⟨(some 43), (.iad 5 (.t 42) (.c (.int .i64 2))), none, 6, false, []⟩,
    ⟨(some 44), (.load true 5 (.t 43)), none, 7, false, []⟩,
    ⟨(some 45), (.call 45 [(.t 40), (.t 44)]), none, 8, false, []⟩,
    ⟨(some 46), (.mv (.t 45)), none, 9, false, []⟩,
    ⟨(some 47), (.fad 4 (.t 2)), (some (46, true)), 10, false, []⟩,
    ⟨(some 48), (.load false 1 (.t 47)), (some (46, true)), 11, false, []⟩,
    ⟨(some 49), (.iad 5 (.t 48) (.c (.int .i64 3))), (some (46, true)), 12, false, []⟩,
    ⟨(some 50), (.load true 5 (.t 49)), (some (46, true)), 13, false, []⟩,
    ⟨(some 51), (.fad 4 (.t 3)), (some (46, true)), 14, false, []⟩,
    ⟨(some 52), (.load false 1 (.t 51)), (some (46, true)), 15, false, []⟩,
    ⟨(some 53), (.iad 5 (.t 52) (.c (.int .i64 3))), (some (46, true)), 16, false, []⟩,
    ⟨(some 54), (.load true 5 (.t 53)), (some (46, true)), 17, false, []⟩,
    ⟨(some 55), (.call 45 [(.t 50), (.t 54)]), (some (46, true)), 18, false, []⟩,
    ⟨(some 56), (.pick (.t 46) (.t 55) (.c (.bool false))), none, 19, false, []⟩,
    ⟨(some 4), (.mv (.t 56)), none, 20, false, []⟩] true
def a45_6 : AC := .seq a45_5 .ret
def a45_7 : AC := .reg [⟨(some 58), (.fad 0 (.t 2)), none, 0, false, []⟩,
    ⟨(some 59), (.load false 1 (.t 58)), none, 0, false, []⟩,
    ⟨(some 60), (.bin 0 .eql (.t 59) (.c (.int .i64 14))), none, 0, false, []⟩,
    ⟨(some 57), (.mv (.t 60)), none, 0, false, []⟩] false
def a45_8 : AC := .reg [⟨(some 62), (.load true 5 (.t 3)), none, 0, false, []⟩,
    ⟨(some 63), (.call 63 [(.t 62), (.c (.int .i64 1)), (.c (.int .i64 0))]), none, 0, false, []⟩,
    ⟨(some 61), (.mv (.t 63)), none, 0, false, []⟩,
    ⟨(some 64), (.ext (.t 61) 0), none, 0, false, []⟩,
    ⟨(some 65), (.ext (.t 61) 1), none, 0, false, []⟩,
    ⟨(some 5), (.new [(.int .i64 0), (.int .i64 0), (.int .i64 0), (.int .i64 0), .nils]), none, 0, false, []⟩,
    ⟨none, (.store 5 (.t 5) (.t 64)), none, 0, false, []⟩,
    ⟨(some 6), (.mv (.t 65)), none, 0, false, []⟩] false
def a45_9 : AC := .reg [⟨(some 66), (.mv (.t 6)), none, 0, false, []⟩,
    ⟨(some 67), (.mv (.t 66)), none, 1, false, []⟩,
    ⟨(some 68), (.fad 4 (.t 2)), (some (67, true)), 2, false, []⟩,
    ⟨(some 69), (.load false 1 (.t 68)), (some (67, true)), 3, true, []⟩,
    ⟨(some 70), (.iad 5 (.t 69) (.c (.int .i64 1))), (some (67, true)), 4, true, []⟩,
    ⟨(some 71), (.load true 5 (.t 70)), (some (67, true)), 5, true, []⟩,
    ⟨(some 72), (.load true 5 (.t 5)), (some (67, true)), 6, true, []⟩,
    ⟨(some 73), (.call 51 [(.c (.int .i64 0))]), (some (67, true)), 7, false, [3, 4, 5, 6]⟩,
    ⟨(some 74), (.bslice 5 [(.t 72), (.t 73)]), (some (67, true)), 8, false, [3, 4, 5]⟩,
    ⟨(some 75), (.call 64 [(.c (.int .i64 15)), (.c (.int .i64 0)), (.c (.int .i64 0)), (.c (.int .i64 0)), (.t 74)]), (some (67, true)), 9, false, [3, 4, 5]⟩,
    ⟨(some 76), (.call 45 [(.t 71), (.t 75)]), (some (67, true)), 10, false, []⟩,
    ⟨(some 77), (.pick (.t 67) (.t 76) (.c (.bool false))), none, 11, false, []⟩,
    ⟨(some 4), (.mv (.t 77)), none, 12, false, []⟩] true
def a45_10 : AC := .seq a45_9 .ret
def a45_11 : AC := .seq a45_8 a45_10
def a45_12 : AC := .reg [⟨(some 79), (.fad 0 (.t 3)), none, 0, false, []⟩,
    ⟨(some 80), (.load false 1 (.t 79)), none, 0, false, []⟩,
    ⟨(some 81), (.bin 0 .eql (.t 80) (.c (.int .i64 14))), none, 0, false, []⟩,
    ⟨(some 78), (.mv (.t 81)), none, 0, false, []⟩] false
def a45_13 : AC := .reg [⟨(some 83), (.load true 5 (.t 2)), none, 0, false, []⟩,
    ⟨(some 84), (.call 63 [(.t 83), (.c (.int .i64 1)), (.c (.int .i64 0))]), none, 0, false, []⟩,
    ⟨(some 82), (.mv (.t 84)), none, 0, false, []⟩,
    ⟨(some 85), (.ext (.t 82) 0), none, 0, false, []⟩,
    ⟨(some 86), (.ext (.t 82) 1), none, 0, false, []⟩,
    ⟨(some 7), (.new [(.int .i64 0), (.int .i64 0), (.int .i64 0), (.int .i64 0), .nils]), none, 0, false, []⟩,
    ⟨none, (.store 5 (.t 7) (.t 85)), none, 0, false, []⟩,
    ⟨(some 8), (.mv (.t 86)), none, 0, false, []⟩] false
def a45_14 : AC := .reg [⟨(some 87), (.mv (.t 8)), none, 0, false, []⟩,
    ⟨(some 88), (.mv (.t 87)), none, 1, false, []⟩,
    ⟨(some 89), (.load true 5 (.t 7)), (some (88, true)), 2, true, []⟩,
    ⟨(some 90), (.call 51 [(.c (.int .i64 0))]), (some (88, true)), 3, true, [2]⟩,
    ⟨(some 91), (.bslice 5 [(.t 89), (.t 90)]), (some (88, true)), 4, true, []⟩,
    ⟨(some 92), (.call 64 [(.c (.int .i64 15)), (.c (.int .i64 0)), (.c (.int .i64 0)), (.c (.int .i64 0)), (.t 91)]), (some (88, true)), 5, true, []⟩,
    ⟨(some 93), (.fad 4 (.t 3)), (some (88, true)), 6, false, []⟩,
    ⟨(some 94), (.load false 1 (.t 93)), (some (88, true)), 7, false, [3, 4, 5]⟩,
    ⟨(some 95), (.iad 5 (.t 94) (.c (.int .i64 1))), (some (88, true)), 8, false, [3, 4, 5]⟩,
    ⟨(some 96), (.load true 5 (.t 95)), (some (88, true)), 9, false, [3, 4, 5]⟩,
    ⟨(some 97), (.call 45 [(.t 92), (.t 96)]), (some (88, true)), 10, false, []⟩,
    ⟨(some 98), (.pick (.t 88) (.t 97) (.c (.bool false))), none, 11, false, []⟩,
    ⟨(some 4), (.mv (.t 98)), none, 12, false, []⟩] true
def a45_15 : AC := .seq a45_14 .ret
def a45_16 : AC := .seq a45_13 a45_15
def a45_17 : AC := .reg [⟨(some 100), (.fad 0 (.t 2)), none, 0, false, []⟩,
    ⟨(some 101), (.load false 1 (.t 100)), none, 0, false, []⟩,
    ⟨(some 102), (.bin 0 .eql (.t 101) (.c (.int .i64 17))), none, 0, false, []⟩,
    ⟨(some 99), (.mv (.t 102)), none, 0, false, []⟩] false
def a45_18 : AC := .reg [⟨(some 103), (.fad 4 (.t 2)), none, 0, false, []⟩,
    ⟨(some 104), (.load false 1 (.t 103)), none, 1, true, []⟩,
    ⟨(some 105), (.iad 5 (.t 104) (.c (.int .i64 2))), none, 2, true, []⟩,
    ⟨(some 106), (.load true 5 (.t 105)), none, 3, true, []⟩,
    ⟨(some 107), (.load true 5 (.t 3)), none, 4, false, []⟩,
    ⟨(some 108), (.bslice 5 [(.t 107)]), none, 5, false, [1, 2, 3]⟩,
    ⟨(some 109), (.call 64 [(.c (.int .i64 18)), (.c (.int .i64 0)), (.c (.int .i64 0)), (.c (.int .i64 0)), (.t 108)]), none, 6, false, [1, 2, 3]⟩,
    ⟨(some 110), (.call 45 [(.t 106), (.t 109)]), none, 7, false, []⟩,
    ⟨(some 111), (.mv (.t 110)), none, 8, false, []⟩,
    ⟨(some 112), (.fad 4 (.t 2)), (some (111, true)), 9, false, []⟩,
    ⟨(some 113), (.load false 1 (.t 112)), (some (111, true)), 10, true, []⟩,
    ⟨(some 114), (.iad 5 (.t 113) (.c (.int .i64 3))), (some (111, true)), 11, true, []⟩,
    ⟨(some 115), (.load true 5 (.t 114)), (some (111, true)), 12, true, []⟩,
    ⟨(some 116), (.load true 5 (.t 3)), (some (111, true)), 13, false, []⟩,
    ⟨(some 117), (.bslice 5 [(.t 116)]), (some (111, true)), 14, false, [10, 11, 12]⟩,
    ⟨(some 118), (.call 64 [(.c (.int .i64 19)), (.c (.int .i64 0)), (.c (.int .i64 0)), (.c (.int .i64 0)), (.t 117)]), (some (111, true)), 15, false, [10, 11, 12]⟩,
    ⟨(some 119), (.call 45 [(.t 115), (.t 118)]), (some (111, true)), 16, false, []⟩,
    ⟨(some 120), (.pick (.t 111) (.t 119) (.c (.bool false))), none, 17, false, []⟩,
    ⟨(some 4), (.mv (.t 120)), none, 18, false, []⟩] true
def a45_19 : AC := .seq a45_18 .ret
def a45_20 : AC := .reg [⟨(some 122), (.fad 0 (.t 3)), none, 0, false, []⟩,
    ⟨(some 123), (.load false 1 (.t 122)), none, 0, false, []⟩,
    ⟨(some 124), (.bin 0 .eql (.t 123) (.c (.int .i64 17))), none, 0, false, []⟩,
    ⟨(some 121), (.mv (.t 124)), none, 0, false, []⟩] false
def a45_21 : AC := .reg [⟨(some 125), (.load true 5 (.t 2)), none, 0, false, []⟩,
    ⟨(some 126), (.bslice 5 [(.t 125)]), none, 1, true, []⟩,
    ⟨(some 127), (.call 64 [(.c (.int .i64 18)), (.c (.int .i64 0)), (.c (.int .i64 0)), (.c (.int .i64 0)), (.t 126)]), none, 2, true, []⟩,
    ⟨(some 128), (.fad 4 (.t 3)), none, 3, false, []⟩,
    ⟨(some 129), (.load false 1 (.t 128)), none, 4, false, [1, 2]⟩,
    ⟨(some 130), (.iad 5 (.t 129) (.c (.int .i64 2))), none, 5, false, [1, 2]⟩,
    ⟨(some 131), (.load true 5 (.t 130)), none, 6, false, [1, 2]⟩,
    ⟨(some 132), (.call 45 [(.t 127), (.t 131)]), none, 7, false, []⟩,
    ⟨(some 133), (.mv (.t 132)), none, 8, false, []⟩,
    ⟨(some 134), (.load true 5 (.t 2)), (some (133, true)), 9, false, []⟩,
    ⟨(some 135), (.bslice 5 [(.t 134)]), (some (133, true)), 10, true, []⟩,
    ⟨(some 136), (.call 64 [(.c (.int .i64 19)), (.c (.int .i64 0)), (.c (.int .i64 0)), (.c (.int .i64 0)), (.t 135)]), (some (133, true)), 11, true, []⟩,
    ⟨(some 137), (.fad 4 (.t 3)), (some (133, true)), 12, false, []⟩,
    ⟨(some 138), (.load false 1 (.t 137)), (some (133, true)), 13, false, [10, 11]⟩,
    ⟨(some 139), (.iad 5 (.t 138) (.c (.int .i64 3))), (some (133, true)), 14, false, [10, 11]⟩,
    ⟨(some 140), (.load true 5 (.t 139)), (some (133, true)), 15, false, [10, 11]⟩,
    ⟨(some 141), (.call 45 [(.t 136), (.t 140)]), (some (133, true)), 16, false, []⟩,
    ⟨(some 142), (.pick (.t 133) (.t 141) (.c (.bool false))), none, 17, false, []⟩,
    ⟨(some 4), (.mv (.t 142)), none, 18, false, []⟩] true
def a45_22 : AC := .seq a45_21 .ret
def a45_23 : AC := .cond (.t 121) a45_22 .skip
def a45_24 : AC := .seq a45_20 a45_23
def a45_25 : AC := .cond (.t 99) a45_19 a45_24
def a45_26 : AC := .seq a45_17 a45_25
def a45_27 : AC := .cond (.t 78) a45_16 a45_26
def a45_28 : AC := .seq a45_12 a45_27
def a45_29 : AC := .cond (.t 57) a45_11 a45_28
def a45_30 : AC := .seq a45_7 a45_29
def a45_31 : AC := .cond (.t 28) a45_6 a45_30
def a45_32 : AC := .seq a45_4 a45_31
def a45_33 : AC := .cond (.t 10) a45_3 a45_32
def a45_34 : AC := .seq a45_1 a45_33
def a45_35 : AC := .blk 0 a45_34
def a45_36 : AC := .reg [⟨(some 143), (.fad 0 (.t 2)), none, 0, false, []⟩,
    ⟨(some 144), (.load false 1 (.t 143)), none, 0, false, []⟩,
    ⟨(some 145), (.fad 0 (.t 3)), none, 0, false, []⟩,
    ⟨(some 146), (.load false 1 (.t 145)), none, 0, false, []⟩,
    ⟨(some 147), (.bin 0 .neq (.t 144) (.t 146)), none, 0, false, []⟩,
    ⟨(some 148), (.mv (.t 147)), none, 0, false, []⟩,
    ⟨(some 149), (.fad 1 (.t 2)), (some (148, false)), 0, false, []⟩,
    ⟨(some 150), (.load false 1 (.t 149)), (some (148, false)), 0, false, []⟩,
    ⟨(some 151), (.fad 1 (.t 3)), (some (148, false)), 0, false, []⟩,
    ⟨(some 152), (.load false 1 (.t 151)), (some (148, false)), 0, false, []⟩,
    ⟨(some 153), (.bin 0 .neq (.t 150) (.t 152)), (some (148, false)), 0, false, []⟩,
    ⟨(some 154), (.pick (.t 148) (.c (.bool true)) (.t 153)), none, 0, false, []⟩,
    ⟨(some 155), (.mv (.t 154)), none, 0, false, []⟩,
    ⟨(some 156), (.fad 2 (.t 2)), (some (155, false)), 0, false, []⟩,
    ⟨(some 157), (.load false 1 (.t 156)), (some (155, false)), 0, false, []⟩,
    ⟨(some 158), (.fad 2 (.t 3)), (some (155, false)), 0, false, []⟩,
    ⟨(some 159), (.load false 1 (.t 158)), (some (155, false)), 0, false, []⟩,
    ⟨(some 160), (.bin 0 .neq (.t 157) (.t 159)), (some (155, false)), 0, false, []⟩,
    ⟨(some 161), (.pick (.t 155) (.c (.bool true)) (.t 160)), none, 0, false, []⟩,
    ⟨(some 162), (.mv (.t 161)), none, 0, false, []⟩,
    ⟨(some 163), (.fad 3 (.t 2)), (some (162, false)), 0, false, []⟩,
    ⟨(some 164), (.load false 1 (.t 163)), (some (162, false)), 0, false, []⟩,
    ⟨(some 165), (.fad 3 (.t 3)), (some (162, false)), 0, false, []⟩,
    ⟨(some 166), (.load false 1 (.t 165)), (some (162, false)), 0, false, []⟩,
    ⟨(some 167), (.bin 0 .neq (.t 164) (.t 166)), (some (162, false)), 0, false, []⟩,
    ⟨(some 168), (.pick (.t 162) (.c (.bool true)) (.t 167)), none, 0, false, []⟩,
    ⟨(some 169), (.mv (.t 168)), none, 0, false, []⟩,
    ⟨(some 170), (.fad 4 (.t 2)), (some (169, false)), 0, false, []⟩,
    ⟨(some 171), (.load false 1 (.t 170)), (some (169, false)), 0, false, []⟩,
    ⟨(some 172), (.len false (.t 171)), (some (169, false)), 0, false, []⟩,
    ⟨(some 173), (.fad 4 (.t 3)), (some (169, false)), 0, false, []⟩,
    ⟨(some 174), (.load false 1 (.t 173)), (some (169, false)), 0, false, []⟩,
    ⟨(some 175), (.len false (.t 174)), (some (169, false)), 0, false, []⟩,
    ⟨(some 176), (.bin 0 .neq (.t 172) (.t 175)), (some (169, false)), 0, false, []⟩,
    ⟨(some 177), (.pick (.t 169) (.c (.bool true)) (.t 176)), none, 0, false, []⟩] false
def a45_37 : AC := .reg [⟨(some 4), (.mv (.c (.bool false))), none, 0, false, []⟩] false
def a45_38 : AC := .seq a45_37 .ret
def a45_39 : AC := .cond (.t 177) a45_38 .skip
def a45_40 : AC := .seq a45_36 a45_39
def a45_41 : AC := .reg [⟨(some 178), (.fad 4 (.t 2)), none, 0, false, []⟩,
    ⟨(some 179), (.load false 1 (.t 178)), none, 0, false, []⟩,
    ⟨(some 180), (.len false (.t 179)), none, 0, false, []⟩,
    ⟨(some 181), (.mv (.c (.int .i64 0))), none, 0, false, []⟩] false
def a45_42 : AC := .reg [⟨(some 182), (.bin 0 .lss (.t 181) (.t 180)), none, 0, false, []⟩] false
def a45_43 : AC := .cond (.t 182) .skip (.exit 1)
def a45_44 : AC := .reg [⟨(some 183), (.mv (.t 181)), none, 0, false, []⟩,
    ⟨(some 9), (.mv (.t 183)), none, 0, false, []⟩] false
def a45_45 : AC := .reg [⟨(some 184), (.fad 4 (.t 2)), none, 0, false, []⟩,
    ⟨(some 185), (.load false 1 (.t 184)), none, 1, false, []⟩,
    ⟨(some 186), (.mv (.t 9)), none, 2, false, []⟩,
    ⟨(some 187), (.iad 5 (.t 185) (.t 186)), none, 3, false, []⟩,
    ⟨(some 188), (.load true 5 (.t 187)), none, 4, false, []⟩,
    ⟨(some 189), (.fad 4 (.t 3)), none, 5, false, []⟩,
    ⟨(some 190), (.load false 1 (.t 189)), none, 6, false, []⟩,
    ⟨(some 191), (.mv (.t 9)), none, 7, false, []⟩,
    ⟨(some 192), (.iad 5 (.t 190) (.t 191)), none, 8, false, []⟩,
    ⟨(some 193), (.load true 5 (.t 192)), none, 9, false, []⟩,
    ⟨(some 194), (.call 45 [(.t 188), (.t 193)]), none, 10, false, []⟩,
    ⟨(some 195), (.un .not (.t 194)), none, 11, false, []⟩] true
def a45_46 : AC := .reg [⟨(some 4), (.mv (.c (.bool false))), none, 0, false, []⟩] false
def a45_47 : AC := .seq a45_46 .ret
def a45_48 : AC := .cond (.t 195) a45_47 .skip
def a45_49 : AC := .seq a45_45 a45_48
def a45_50 : AC := .seq a45_44 a45_49
def a45_51 : AC := .blk 2 a45_50
def a45_52 : AC := .reg [⟨(some 196), (.bin 0 .add (.t 181) (.c (.int .i64 1))), none, 0, false, []⟩,
    ⟨(some 181), (.mv (.t 196)), none, 0, false, []⟩] false
def a45_53 : AC := .seq a45_51 a45_52
def a45_54 : AC := .seq a45_43 a45_53
def a45_55 : AC := .seq a45_42 a45_54
def a45_56 : AC := .loop a45_55
def a45_57 : AC := .blk 1 a45_56
def a45_58 : AC := .seq a45_41 a45_57
def a45_59 : AC := .reg [⟨(some 4), (.mv (.c (.bool true))), none, 0, false, []⟩] false
def a45_60 : AC := .seq a45_59 .ret
def a45_61 : AC := .seq a45_58 a45_60
def a45_62 : AC := .seq a45_40 a45_61
def a45_63 : AC := .seq a45_35 a45_62
def a45_64 : AC := .seq a45_0 a45_63
def af45 : AF := { ntmps := 197, res := [(.t 4)], body := a45_64 }
theorem tr45 : trF Tryd.prog Tryd.f45 = some af45 := by kernel_rfl
attribute [go_sem] af45 a45_0 a45_1 a45_2 a45_3 a45_4 a45_5 a45_6 a45_7 a45_8 a45_9 a45_10 a45_11 a45_12 a45_13 a45_14 a45_15 a45_16 a45_17 a45_18 a45_19 a45_20 a45_21 a45_22 a45_23 a45_24 a45_25 a45_26 a45_27 a45_28 a45_29 a45_30 a45_31 a45_32 a45_33 a45_34 a45_35 a45_36 a45_37 a45_38 a45_39 a45_40 a45_41 a45_42 a45_43 a45_44 a45_45 a45_46 a45_47 a45_48 a45_49 a45_50 a45_51 a45_52 a45_53 a45_54 a45_55 a45_56 a45_57 a45_58 a45_59 a45_60 a45_61 a45_62 a45_63 a45_64
def a62_0 : AC := .reg [⟨(some 10), (.mv (.c (.bool false))), none, 0, false, []⟩] false
def a62_1 : AC := .reg [⟨(some 11), (.mv (.t 0)), none, 0, false, []⟩,
    ⟨(some 12), (.hcall 34 [(.t 11)]), none, 0, false, []⟩] false
def a62_2 : AC := .reg [⟨(some 13), (.mv (.t 1)), none, 0, false, []⟩,
    ⟨(some 14), (.mv (.t 2)), none, 1, false, []⟩,
    ⟨(some 15), (.bin 2 .eql (.t 13) (.t 14)), none, 2, false, []⟩,
    ⟨(some 16), (.mv (.t 15)), none, 3, false, []⟩,
    ⟨(some 17), (.mv (.t 1)), (some (16, false)), 4, false, []⟩,
    ⟨(some 18), (.nilck (.t 17)), (some (16, false)), 5, false, []⟩,
    ⟨(some 19), (.fad 6 (.t 18)), (some (16, false)), 6, false, []⟩,
    ⟨(some 20), (.load false 1 (.t 19)), (some (16, false)), 7, false, []⟩,
    ⟨(some 21), (.un .not (.t 20)), (some (16, false)), 8, false, []⟩,
    ⟨(some 22), (.mv (.t 21)), (some (16, false)), 9, false, []⟩,
    ⟨(some 23), (.mv (.t 2)), (some (22, true)), 10, false, []⟩,
    ⟨(some 24), (.nilck (.t 23)), (some (22, true)), 11, false, []⟩,
    ⟨(some 25), (.fad 6 (.t 24)), (some (22, true)), 12, false, []⟩,
    ⟨(some 26), (.load false 1 (.t 25)), (some (22, true)), 13, false, []⟩,
    ⟨(some 27), (.un .not (.t 26)), (some (22, true)), 14, false, []⟩,
    ⟨(some 28), (.pick (.t 22) (.t 27) (.c (.bool false))), (some (16, false)), 15, false, []⟩,
    ⟨(some 29), (.mv (.t 28)), (some (16, false)), 16, false, []⟩,
    ⟨(some 30), (.mv (.t 1)), (some (29, true)), 17, false, []⟩,
    ⟨(some 31), (.nilck (.t 30)), (some (29, true)), 18, false, []⟩,
    ⟨(some 32), (.fad 5 (.t 31)), (some (29, true)), 19, false, []⟩,
    ⟨(some 33), (.load false 1 (.t 32)), (some (29, true)), 20, false, []⟩,
    ⟨(some 34), (.mv (.t 2)), (some (29, true)), 21, false, []⟩,
    ⟨(some 35), (.nilck (.t 34)), (some (29, true)), 22, false, []⟩,
    ⟨(some 36), (.fad 5 (.t 35)), (some (29, true)), 23, false, []⟩,
    ⟨(some 37), (.load false 1 (.t 36)), (some (29, true)), 24, false, []⟩,
    ⟨(some 38), (.bin 2 .eql (.t 33) (.t 37)), (some (29, true)), 25, false, []⟩,
    ⟨(some 39), (.pick (.t 29) (.t 38) (.c (.bool false))), (some (16, false)), 26, false, []⟩,
    ⟨(some 40), (.mv (.t 39)), (some (16, false)), 27, false, []⟩,
    ⟨(some 41), (.mv (.t 1)), (some (40, true)), 28, false, []⟩,
    ⟨(some 42), (.nilck (.t 41)), (some (40, true)), 29, false, []⟩,
    ⟨(some 43), (.fad 0 (.t 42)), (some (40, true)), 30, false, []⟩,
    ⟨(some 44), (.load true 5 (.t 43)), (some (40, true)), 31, false, []⟩,
    ⟨(some 45), (.mv (.t 2)), (some (40, true)), 32, false, []⟩,
    ⟨(some 46), (.nilck (.t 45)), (some (40, true)), 33, false, []⟩,
    ⟨(some 47), (.fad 0 (.t 46)), (some (40, true)), 34, false, []⟩,
    ⟨(some 48), (.load true 5 (.t 47)), (some (40, true)), 35, false, []⟩,
    ⟨(some 49), (.call 70 [(.t 44), (.t 48)]), (some (40, true)), 36, false, []⟩,
    ⟨(some 50), (.pick (.t 40) (.t 49) (.c (.bool false))), (some (16, false)), 37, false, []⟩,
    ⟨(some 51), (.pick (.t 16) (.c (.bool true)) (.t 50)), none, 38, false, []⟩] true
def a62_3 : AC := .reg [⟨(some 10), (.mv (.c (.bool true))), none, 0, false, []⟩] false
def a62_4 : AC := .seq a62_3 .ret
def a62_5 : AC := .cond (.t 51) a62_4 .skip
def a62_6 : AC := .seq a62_2 a62_5
def a62_7 : AC := .reg [⟨(some 52), (.mv (.t 0)), none, 0, false, []⟩,
    ⟨(some 53), (.mv (.t 0)), none, 0, false, []⟩,
    ⟨(some 54), (.mv (.t 1)), none, 0, false, []⟩,
    ⟨(some 55), (.hcall 40 [(.t 53), (.t 54)]), none, 0, false, []⟩,
    ⟨(some 56), (.mv (.t 0)), none, 0, false, []⟩,
    ⟨(some 57), (.mv (.t 2)), none, 0, false, []⟩,
    ⟨(some 58), (.hcall 40 [(.t 56), (.t 57)]), none, 0, false, []⟩,
    ⟨(some 59), (.mv (.t 3)), none, 0, false, []⟩,
    ⟨(some 60), (.mv (.t 4)), none, 0, false, []⟩,
    ⟨(some 61), (.hcall 71 [(.t 52), (.t 55), (.t 58), (.t 59), (.t 60)]), none, 0, false, []⟩,
    ⟨(some 10), (.mv (.t 61)), none, 0, false, []⟩] false
def a62_8 : AC := .seq a62_7 .ret
def a62_9 : AC := .seq a62_6 a62_8
def a62_10 : AC := .seq a62_1 a62_9
def a62_11 : AC := .seq a62_0 a62_10
def af62 : AF := { ntmps := 62, res := [(.t 10)], body := a62_11 }
theorem tr62 : trF Tryd.prog Tryd.f62 = some af62 := by kernel_rfl
attribute [go_sem] af62 a62_0 a62_1 a62_2 a62_3 a62_4 a62_5 a62_6 a62_7 a62_8 a62_9 a62_10 a62_11
def a71_0 : AC := .reg [⟨(some 10), (.mv (.c (.bool false))), none, 0, false, []⟩] false
def a71_1 : AC := .reg [⟨(some 13), (.mv (.t 1)), none, 0, false, []⟩,
    ⟨(some 14), (.mv (.t 2)), none, 0, false, []⟩,
    ⟨(some 15), (.bin 2 .neq (.t 13) (.t 14)), none, 0, false, []⟩] false
def a71_2 : AC := .cond (.t 15) .skip (.exit 0)
def a71_3 : AC := .seq a71_1 a71_2
def a71_4 : AC := .reg [⟨(some 16), (.mv (.t 0)), none, 0, false, []⟩,
    ⟨(some 17), (.mv (.t 1)), none, 0, false, []⟩,
    ⟨(some 18), (.hcall 41 [(.t 16), (.t 17)]), none, 0, false, []⟩,
    ⟨(some 19), (.mv (.t 0)), none, 0, false, []⟩,
    ⟨(some 20), (.mv (.t 2)), none, 0, false, []⟩,
    ⟨(some 21), (.hcall 41 [(.t 19), (.t 20)]), none, 0, false, []⟩,
    ⟨(some 11), (.mv (.t 18)), none, 0, false, []⟩,
    ⟨(some 12), (.mv (.t 21)), none, 0, false, []⟩] false
def a71_5 : AC := .reg [⟨(some 26), (.mv (.t 11)), none, 0, false, []⟩,
    ⟨(some 27), (.bin 0 .eql (.t 26) (.c (.int .i64 0))), none, 0, false, []⟩,
    ⟨(some 28), (.mv (.t 27)), none, 0, false, []⟩,
    ⟨(some 29), (.mv (.t 12)), (some (28, true)), 0, false, []⟩,
    ⟨(some 30), (.bin 0 .eql (.t 29) (.c (.int .i64 0))), (some (28, true)), 0, false, []⟩,
    ⟨(some 31), (.pick (.t 28) (.t 30) (.c (.bool false))), none, 0, false, []⟩,
    ⟨(some 25), (.mv (.t 31)), none, 0, false, []⟩] false
def a71_6 : AC := .reg [⟨(some 32), (.mv (.t 0)), none, 0, false, []⟩,
    ⟨(some 33), (.mv (.t 1)), none, 0, false, []⟩,
    ⟨(some 34), (.mv (.t 2)), none, 0, false, []⟩,
    ⟨(some 35), (.mv (.t 3)), none, 0, false, []⟩,
    ⟨(some 36), (.mv (.t 4)), none, 0, false, []⟩,
    ⟨(some 37), (.hcall 76 [(.t 32), (.t 33), (.t 34), (.t 35), (.t 36)]), none, 0, false, []⟩,
    ⟨(some 10), (.mv (.t 37)), none, 0, false, []⟩] false
def a71_7 : AC := .seq a71_6 .ret
def a71_8 : AC := .reg [⟨(some 39), (.mv (.t 11)), none, 0, false, []⟩,
    ⟨(some 40), (.mv (.t 12)), none, 0, false, []⟩,
    ⟨(some 41), (.bin 0 .eql (.t 39) (.t 40)), none, 0, false, []⟩,
    ⟨(some 42), (.mv (.t 41)), none, 0, false, []⟩,
    ⟨(some 43), (.mv (.t 0)), (some (42, true)), 0, false, []⟩,
    ⟨(some 44), (.mv (.t 1)), (some (42, true)), 0, false, []⟩,
    ⟨(some 45), (.mv (.t 2)), (some (42, true)), 0, false, []⟩,
    ⟨(some 46), (.mv (.t 3)), (some (42, true)), 0, false, []⟩,
    ⟨(some 47), (.hcall 77 [(.t 43), (.t 44), (.t 45), (.t 46)]), (some (42, true)), 0, false, []⟩,
    ⟨(some 48), (.pick (.t 42) (.t 47) (.c (.bool false))), none, 0, false, []⟩,
    ⟨(some 38), (.mv (.t 48)), none, 0, false, []⟩] false
def a71_9 : AC := .reg [⟨(some 10), (.mv (.c (.bool true))), none, 0, false, []⟩] false
def a71_10 : AC := .seq a71_9 .ret
def a71_11 : AC := .reg [⟨(some 50), (.mv (.t 11)), none, 0, false, []⟩,
    ⟨(some 51), (.mv (.t 12)), none, 0, false, []⟩,
    ⟨(some 52), (.bin 0 .eql (.t 50) (.t 51)), none, 0, false, []⟩,
    ⟨(some 49), (.mv (.t 52)), none, 0, false, []⟩] false
def a71_12 : AC := .reg [⟨(some 53), (.mv (.t 0)), none, 0, false, []⟩,
    ⟨(some 54), (.mv (.t 1)), none, 0, false, []⟩,
    ⟨(some 55), (.hcall 42 [(.t 53), (.t 54)]), none, 0, false, []⟩,
    ⟨(some 56), (.mv (.t 0)), none, 0, false, []⟩,
    ⟨(some 57), (.mv (.t 2)), none, 0, false, []⟩,
    ⟨(some 58), (.hcall 42 [(.t 56), (.t 57)]), none, 0, false, []⟩,
    ⟨(some 1), (.mv (.t 55)), none, 0, false, []⟩,
    ⟨(some 2), (.mv (.t 58)), none, 0, false, []⟩] false
def a71_13 : AC := .reg [⟨(some 60), (.mv (.t 11)), none, 0, false, []⟩,
    ⟨(some 61), (.mv (.t 12)), none, 0, false, []⟩,
    ⟨(some 62), (.bin 0 .gtr (.t 60) (.t 61)), none, 0, false, []⟩,
    ⟨(some 59), (.mv (.t 62)), none, 0, false, []⟩] false
def a71_14 : AC := .reg [⟨(some 63), (.mv (.t 0)), none, 0, false, []⟩,
    ⟨(some 64), (.mv (.t 1)), none, 0, false, []⟩,
    ⟨(some 65), (.hcall 42 [(.t 63), (.t 64)]), none, 0, false, []⟩,
    ⟨(some 1), (.mv (.t 65)), none, 0, false, []⟩] false
def a71_15 : AC := .reg [⟨(some 22), (.mv (.t 0)), none, 0, false, []⟩,
    ⟨(some 23), (.mv (.t 2)), none, 0, false, []⟩,
    ⟨(some 24), (.hcall 42 [(.t 22), (.t 23)]), none, 0, false, []⟩,
    ⟨(some 2), (.mv (.t 24)), none, 0, false, []⟩] false
def a71_16 : AC := .cond (.t 59) a71_14 a71_15
def a71_17 : AC := .seq a71_13 a71_16
def a71_18 : AC := .cond (.t 49) a71_12 a71_17
def a71_19 : AC := .seq a71_11 a71_18
def a71_20 : AC := .cond (.t 38) a71_10 a71_19
def a71_21 : AC := .seq a71_8 a71_20
def a71_22 : AC := .cond (.t 25) a71_7 a71_21
def a71_23 : AC := .seq a71_5 a71_22
def a71_24 : AC := .blk 2 a71_23
def a71_25 : AC := .seq a71_4 a71_24
def a71_26 : AC := .blk 1 a71_25
def a71_27 : AC := .seq a71_3 a71_26
def a71_28 : AC := .loop a71_27
def a71_29 : AC := .blk 0 a71_28
def a71_30 : AC := .reg [⟨(some 10), (.mv (.c (.bool true))), none, 0, false, []⟩] false
def a71_31 : AC := .seq a71_30 .ret
def a71_32 : AC := .seq a71_29 a71_31
def a71_33 : AC := .seq a71_0 a71_32
def af71 : AF := { ntmps := 66, res := [(.t 10)], body := a71_33 }
theorem tr71 : trF Tryd.prog Tryd.f71 = some af71 := by kernel_rfl
attribute [go_sem] af71 a71_0 a71_1 a71_2 a71_3 a71_4 a71_5 a71_6 a71_7 a71_8 a71_9 a71_10 a71_11 a71_12 a71_13 a71_14 a71_15 a71_16 a71_17 a71_18 a71_19 a71_20 a71_21 a71_22 a71_23 a71_24 a71_25 a71_26 a71_27 a71_28 a71_29 a71_30 a71_31 a71_32 a71_33
def a76_0 : AC := .reg [⟨(some 10), (.mv (.c (.bool false))), none, 0, false, []⟩] false
def a76_1 : AC := .reg [⟨(some 11), (.mv (.t 4)), none, 0, false, []⟩,
    ⟨(some 12), (.un .not (.t 11)), none, 0, false, []⟩] false
def a76_2 : AC := .reg [⟨(some 13), (.mv (.t 0)), none, 0, false, []⟩,
    ⟨(some 14), (.mv (.t 1)), none, 0, false, []⟩,
    ⟨(some 15), (.mv (.t 2)), none, 0, false, []⟩,
    ⟨(some 16), (.mv (.t 3)), none, 0, false, []⟩,
    ⟨(some 17), (.hcall 82 [(.t 13), (.t 14), (.t 15), (.t 16), (.c (.bool false))]), none, 0, false, []⟩,
    ⟨(some 10), (.mv (.t 17)), none, 0, false, []⟩] false
def a76_3 : AC := .seq a76_2 .ret
def a76_4 : AC := .cond (.t 12) a76_3 .skip
def a76_5 : AC := .seq a76_1 a76_4
def a76_6 : AC := .reg [⟨(some 19), (.mv (.t 1)), none, 0, false, []⟩,
    ⟨(some 20), (.nilck (.t 19)), none, 0, false, []⟩,
    ⟨(some 21), (.fad 0 (.t 20)), none, 0, false, []⟩,
    ⟨(some 22), (.load false 1 (.t 21)), none, 0, false, []⟩,
    ⟨(some 23), (.bin 0 .eql (.t 22) (.c (.int .i64 14))), none, 0, false, []⟩,
    ⟨(some 24), (.mv (.t 23)), none, 0, false, []⟩,
    ⟨(some 25), (.mv (.t 2)), (some (24, true)), 0, false, []⟩,
    ⟨(some 26), (.nilck (.t 25)), (some (24, true)), 0, false, []⟩,
    ⟨(some 27), (.fad 0 (.t 26)), (some (24, true)), 0, false, []⟩,
    ⟨(some 28), (.load false 1 (.t 27)), (some (24, true)), 0, false, []⟩,
    ⟨(some 29), (.bin 0 .eql (.t 28) (.c (.int .i64 14))), (some (24, true)), 0, false, []⟩,
    ⟨(some 30), (.pick (.t 24) (.t 29) (.c (.bool false))), none, 0, false, []⟩,
    ⟨(some 18), (.mv (.t 30)), none, 0, false, []⟩] false
def a76_7 : AC := .reg [⟨(some 31), (.mv (.t 0)), none, 0, false, []⟩,
    ⟨(some 32), (.mv (.t 1)), none, 1, false, []⟩,
    ⟨(some 33), (.nilck (.t 32)), none, 2, false, []⟩,
    ⟨(some 34), (.fad 5 (.t 33)), none, 3, false, []⟩,
    ⟨(some 35), (.load false 1 (.t 34)), none, 4, false, []⟩,
    ⟨(some 36), (.iad 1 (.t 35) (.c (.int .i64 1))), none, 5, false, []⟩,
    ⟨(some 37), (.load false 1 (.t 36)), none, 6, false, []⟩,
    ⟨(some 38), (.mv (.t 3)), none, 7, false, []⟩,
    ⟨(some 39), (.hcall 37 [(.t 37), (.t 38), (.c (.int .i64 1))]), none, 8, true, []⟩,
    ⟨(some 40), (.mv (.t 2)), none, 9, false, []⟩,
    ⟨(some 41), (.nilck (.t 40)), none, 10, false, []⟩,
    ⟨(some 42), (.fad 5 (.t 41)), none, 11, false, []⟩,
    ⟨(some 43), (.load false 1 (.t 42)), none, 12, false, [8]⟩,
    ⟨(some 44), (.iad 1 (.t 43) (.c (.int .i64 1))), none, 13, false, [8]⟩,
    ⟨(some 45), (.load false 1 (.t 44)), none, 14, false, [8]⟩,
    ⟨(some 46), (.mv (.t 3)), none, 15, false, []⟩,
    ⟨(some 47), (.hcall 37 [(.t 45), (.t 46), (.c (.int .i64 1))]), none, 16, false, []⟩,
    ⟨(some 48), (.mv (.t 3)), none, 17, false, []⟩,
    ⟨(some 49), (.bin 0 .add (.t 48) (.c (.int .i64 1))), none, 18, false, []⟩,
    ⟨(some 50), (.hcall 62 [(.t 31), (.t 39), (.t 47), (.t 49), (.c (.bool true))]), none, 19, false, [19]⟩,
    ⟨(some 10), (.mv (.t 50)), none, 20, false, []⟩] true
def a76_8 : AC := .seq a76_7 .ret
def a76_9 : AC := .reg [⟨(some 52), (.mv (.t 1)), none, 0, false, []⟩,
    ⟨(some 53), (.nilck (.t 52)), none, 0, false, []⟩,
    ⟨(some 54), (.fad 0 (.t 53)), none, 0, false, []⟩,
    ⟨(some 55), (.load false 1 (.t 54)), none, 0, false, []⟩,
    ⟨(some 56), (.bin 0 .eql (.t 55) (.c (.int .i64 17))), none, 0, false, []⟩,
    ⟨(some 57), (.mv (.t 56)), none, 0, false, []⟩,
    ⟨(some 58), (.mv (.t 2)), (some (57, true)), 0, false, []⟩,
    ⟨(some 59), (.nilck (.t 58)), (some (57, true)), 0, false, []⟩,
    ⟨(some 60), (.fad 0 (.t 59)), (some (57, true)), 0, false, []⟩,
    ⟨(some 61), (.load false 1 (.t 60)), (some (57, true)), 0, false, []⟩,
    ⟨(some 62), (.bin 0 .eql (.t 61) (.c (.int .i64 17))), (some (57, true)), 0, false, []⟩,
    ⟨(some 63), (.pick (.t 57) (.t 62) (.c (.bool false))), none, 0, false, []⟩,
    ⟨(some 51), (.mv (.t 63)), none, 0, false, []⟩] false
def a76_10 : AC := .reg [⟨(some 64), (.mv (.t 0)), none, 0, false, []⟩,
    ⟨(some 65), (.mv (.t 1)), none, 1, false, []⟩,
    ⟨(some 66), (.nilck (.t 65)), none, 2, false, []⟩,
    ⟨(some 67), (.fad 5 (.t 66)), none, 3, false, []⟩,
    ⟨(some 68), (.load false 1 (.t 67)), none, 4, false, []⟩,
    ⟨(some 69), (.iad 1 (.t 68) (.c (.int .i64 2))), none, 5, false, []⟩,
    ⟨(some 70), (.load false 1 (.t 69)), none, 6, false, []⟩,
    ⟨(some 71), (.mv (.t 2)), none, 7, false, []⟩,
    ⟨(some 72), (.nilck (.t 71)), none, 8, false, []⟩,
    ⟨(some 73), (.fad 5 (.t 72)), none, 9, false, []⟩,
    ⟨(some 74), (.load false 1 (.t 73)), none, 10, false, []⟩,
    ⟨(some 75), (.iad 1 (.t 74) (.c (.int .i64 2))), none, 11, false, []⟩,
    ⟨(some 76), (.load false 1 (.t 75)), none, 12, false, []⟩,
    ⟨(some 77), (.mv (.t 3)), none, 13, false, []⟩,
    ⟨(some 78), (.hcall 62 [(.t 64), (.t 70), (.t 76), (.t 77), (.c (.bool true))]), none, 14, false, [14]⟩,
    ⟨(some 79), (.mv (.t 78)), none, 15, false, []⟩,
    ⟨(some 80), (.mv (.t 0)), (some (79, true)), 16, false, []⟩,
    ⟨(some 81), (.mv (.t 1)), (some (79, true)), 17, false, []⟩,
    ⟨(some 82), (.nilck (.t 81)), (some (79, true)), 18, false, []⟩,
    ⟨(some 83), (.fad 5 (.t 82)), (some (79, true)), 19, false, []⟩,
    ⟨(some 84), (.load false 1 (.t 83)), (some (79, true)), 20, false, []⟩,
    ⟨(some 85), (.iad 1 (.t 84) (.c (.int .i64 3))), (some (79, true)), 21, false, []⟩,
    ⟨(some 86), (.load false 1 (.t 85)), (some (79, true)), 22, false, []⟩,
    ⟨(some 87), (.mv (.t 2)), (some (79, true)), 23, false, []⟩,
    ⟨(some 88), (.nilck (.t 87)), (some (79, true)), 24, false, []⟩,
    ⟨(some 89), (.fad 5 (.t 88)), (some (79, true)), 25, false, []⟩,
    ⟨(some 90), (.load false 1 (.t 89)), (some (79, true)), 26, false, []⟩,
    ⟨(some 91), (.iad 1 (.t 90) (.c (.int .i64 3))), (some (79, true)), 27, false, []⟩,
    ⟨(some 92), (.load false 1 (.t 91)), (some (79, true)), 28, false, []⟩,
    ⟨(some 93), (.mv (.t 3)), (some (79, true)), 29, false, []⟩,
    ⟨(some 94), (.hcall 62 [(.t 80), (.t 86), (.t 92), (.t 93), (.c (.bool true))]), (some (79, true)), 30, false, [30]⟩,
    ⟨(some 95), (.pick (.t 79) (.t 94) (.c (.bool false))), none, 31, false, []⟩,
    ⟨(some 10), (.mv (.t 95)), none, 32, false, []⟩] true
def a76_11 : AC := .seq a76_10 .ret
def a76_12 : AC := .reg [⟨(some 97), (.mv (.t 1)), none, 0, false, []⟩,
    ⟨(some 98), (.nilck (.t 97)), none, 0, false, []⟩,
    ⟨(some 99), (.fad 0 (.t 98)), none, 0, false, []⟩,
    ⟨(some 100), (.load false 1 (.t 99)), none, 0, false, []⟩,
    ⟨(some 101), (.bin 0 .eql (.t 100) (.c (.int .i64 14))), none, 0, false, []⟩,
    ⟨(some 96), (.mv (.t 101)), none, 0, false, []⟩] false
def a76_13 : AC := .reg [⟨(some 102), (.mv (.t 0)), none, 0, false, []⟩,
    ⟨(some 103), (.mv (.t 1)), none, 0, false, []⟩,
    ⟨(some 104), (.nilck (.t 103)), none, 0, false, []⟩,
    ⟨(some 105), (.fad 5 (.t 104)), none, 0, false, []⟩,
    ⟨(some 106), (.load false 1 (.t 105)), none, 0, false, []⟩,
    ⟨(some 107), (.iad 1 (.t 106) (.c (.int .i64 1))), none, 0, false, []⟩,
    ⟨(some 108), (.load false 1 (.t 107)), none, 0, false, []⟩,
    ⟨(some 109), (.mv (.t 3)), none, 0, false, []⟩,
    ⟨(some 110), (.hcall 37 [(.t 108), (.t 109), (.c (.int .i64 1))]), none, 0, false, []⟩,
    ⟨(some 111), (.mv (.t 2)), none, 0, false, []⟩,
    ⟨(some 112), (.hcall 67 [(.t 111)]), none, 0, false, []⟩,
    ⟨(some 113), (.mv (.t 3)), none, 0, false, []⟩,
    ⟨(some 114), (.hcall 53 [(.t 113)]), none, 0, false, []⟩,
    ⟨(some 115), (.bslice 1 [(.t 112), (.t 114)]), none, 0, false, []⟩,
    ⟨(some 116), (.build [(.int .i64 0), (.int .i64 0), (.int .i64 0), (.int .i64 0), (.int .i64 0), .nils] [(0, (1, (.c (.int .i64 15)))), (5, (1, (.t 115)))]), none, 0, false, []⟩,
    ⟨(some 117), (.box (.t 116)), none, 0, false, []⟩,
    ⟨(some 118), (.hcall 67 [(.t 117)]), none, 0, false, []⟩,
    ⟨(some 119), (.mv (.t 3)), none, 0, false, []⟩,
    ⟨(some 120), (.bin 0 .add (.t 119) (.c (.int .i64 1))), none, 0, false, []⟩,
    ⟨(some 121), (.hcall 62 [(.t 102), (.t 110), (.t 118), (.t 120), (.c (.bool true))]), none, 0, false, []⟩,
    ⟨(some 10), (.mv (.t 121)), none, 0, false, []⟩] false
def a76_14 : AC := .seq a76_13 .ret
def a76_15 : AC := .reg [⟨(some 123), (.mv (.t 2)), none, 0, false, []⟩,
    ⟨(some 124), (.nilck (.t 123)), none, 0, false, []⟩,
    ⟨(some 125), (.fad 0 (.t 124)), none, 0, false, []⟩,
    ⟨(some 126), (.load false 1 (.t 125)), none, 0, false, []⟩,
    ⟨(some 127), (.bin 0 .eql (.t 126) (.c (.int .i64 14))), none, 0, false, []⟩,
    ⟨(some 122), (.mv (.t 127)), none, 0, false, []⟩] false
def a76_16 : AC := .reg [⟨(some 128), (.mv (.t 0)), none, 0, false, []⟩,
    ⟨(some 129), (.mv (.t 1)), none, 1, false, []⟩,
    ⟨(some 130), (.hcall 67 [(.t 129)]), none, 2, true, []⟩,
    ⟨(some 131), (.mv (.t 3)), none, 3, false, []⟩,
    ⟨(some 132), (.hcall 53 [(.t 131)]), none, 4, true, []⟩,
    ⟨(some 133), (.bslice 1 [(.t 130), (.t 132)]), none, 5, true, []⟩,
    ⟨(some 134), (.build [(.int .i64 0), (.int .i64 0), (.int .i64 0), (.int .i64 0), (.int .i64 0), .nils] [(0, (1, (.c (.int .i64 15)))), (5, (1, (.t 133)))]), none, 6, false, []⟩,
    ⟨(some 135), (.box (.t 134)), none, 7, true, []⟩,
    ⟨(some 136), (.hcall 67 [(.t 135)]), none, 8, true, []⟩,
    ⟨(some 137), (.mv (.t 2)), none, 9, false, []⟩,
    ⟨(some 138), (.nilck (.t 137)), none, 10, false, []⟩,
    ⟨(some 139), (.fad 5 (.t 138)), none, 11, false, []⟩,
    ⟨(some 140), (.load false 1 (.t 139)), none, 12, false, [2, 4, 5, 7, 8]⟩,
    ⟨(some 141), (.iad 1 (.t 140) (.c (.int .i64 1))), none, 13, false, [2, 4, 5, 7, 8]⟩,
    ⟨(some 142), (.load false 1 (.t 141)), none, 14, false, [2, 4, 5, 7, 8]⟩,
    ⟨(some 143), (.mv (.t 3)), none, 15, false, []⟩,
    ⟨(some 144), (.hcall 37 [(.t 142), (.t 143), (.c (.int .i64 1))]), none, 16, false, []⟩,
    ⟨(some 145), (.mv (.t 3)), none, 17, false, []⟩,
    ⟨(some 146), (.bin 0 .add (.t 145) (.c (.int .i64 1))), none, 18, false, []⟩,
    ⟨(some 147), (.hcall 62 [(.t 128), (.t 136), (.t 144), (.t 146), (.c (.bool true))]), none, 19, false, [19]⟩,
    ⟨(some 10), (.mv (.t 147)), none, 20, false, []⟩] true
def a76_17 : AC := .seq a76_16 .ret
def a76_18 : AC := .reg [⟨(some 149), (.mv (.t 1)), none, 0, false, []⟩,
    ⟨(some 150), (.nilck (.t 149)), none, 0, false, []⟩,
    ⟨(some 151), (.fad 0 (.t 150)), none, 0, false, []⟩,
    ⟨(some 152), (.load false 1 (.t 151)), none, 0, false, []⟩,
    ⟨(some 153), (.bin 0 .eql (.t 152) (.c (.int .i64 17))), none, 0, false, []⟩,
    ⟨(some 148), (.mv (.t 153)), none, 0, false, []⟩] false
def a76_19 : AC := .reg [⟨(some 154), (.mv (.t 0)), none, 0, false, []⟩,
    ⟨(some 155), (.mv (.t 1)), none, 1, false, []⟩,
    ⟨(some 156), (.nilck (.t 155)), none, 2, false, []⟩,
    ⟨(some 157), (.fad 5 (.t 156)), none, 3, false, []⟩,
    ⟨(some 158), (.load false 1 (.t 157)), none, 4, true, []⟩,
    ⟨(some 159), (.iad 1 (.t 158) (.c (.int .i64 2))), none, 5, true, []⟩,
    ⟨(some 160), (.load false 1 (.t 159)), none, 6, true, []⟩,
    ⟨(some 161), (.mv (.t 2)), none, 7, false, []⟩,
    ⟨(some 162), (.hcall 83 [(.c (.int .i64 18)), (.t 161)]), none, 8, false, [4, 5, 6]⟩,
    ⟨(some 163), (.mv (.t 3)), none, 9, false, []⟩,
    ⟨(some 164), (.hcall 62 [(.t 154), (.t 160), (.t 162), (.t 163), (.c (.bool true))]), none, 10, false, [10]⟩,
    ⟨(some 165), (.mv (.t 164)), none, 11, false, []⟩,
    ⟨(some 166), (.mv (.t 0)), (some (165, true)), 12, false, []⟩,
    ⟨(some 167), (.mv (.t 1)), (some (165, true)), 13, false, []⟩,
    ⟨(some 168), (.nilck (.t 167)), (some (165, true)), 14, false, []⟩,
    ⟨(some 169), (.fad 5 (.t 168)), (some (165, true)), 15, false, []⟩,
    ⟨(some 170), (.load false 1 (.t 169)), (some (165, true)), 16, true, []⟩,
    ⟨(some 171), (.iad 1 (.t 170) (.c (.int .i64 3))), (some (165, true)), 17, true, []⟩,
    ⟨(some 172), (.load false 1 (.t 171)), (some (165, true)), 18, true, []⟩,
    ⟨(some 173), (.mv (.t 2)), (some (165, true)), 19, false, []⟩,
    ⟨(some 174), (.hcall 83 [(.c (.int .i64 19)), (.t 173)]), (some (165, true)), 20, false, [16, 17, 18]⟩,
    ⟨(some 175), (.mv (.t 3)), (some (165, true)), 21, false, []⟩,
    ⟨(some 176), (.hcall 62 [(.t 166), (.t 172), (.t 174), (.t 175), (.c (.bool true))]), (some (165, true)), 22, false, [22]⟩,
    ⟨(some 177), (.pick (.t 165) (.t 176) (.c (.bool false))), none, 23, false, []⟩,
    ⟨(some 10), (.mv (.t 177)), none, 24, false, []⟩] true
def a76_20 : AC := .seq a76_19 .ret
def a76_21 : AC := .reg [⟨(some 179), (.mv (.t 2)), none, 0, false, []⟩,
    ⟨(some 180), (.nilck (.t 179)), none, 0, false, []⟩,
    ⟨(some 181), (.fad 0 (.t 180)), none, 0, false, []⟩,
    ⟨(some 182), (.load false 1 (.t 181)), none, 0, false, []⟩,
    ⟨(some 183), (.bin 0 .eql (.t 182) (.c (.int .i64 17))), none, 0, false, []⟩,
    ⟨(some 178), (.mv (.t 183)), none, 0, false, []⟩] false
def a76_22 : AC := .reg [⟨(some 184), (.mv (.t 0)), none, 0, false, []⟩,
    ⟨(some 185), (.mv (.t 1)), none, 1, false, []⟩,
    ⟨(some 186), (.hcall 83 [(.c (.int .i64 18)), (.t 185)]), none, 2, true, []⟩,
    ⟨(some 187), (.mv (.t 2)), none, 3, false, []⟩,
    ⟨(some 188), (.nilck (.t 187)), none, 4, false, []⟩,
    ⟨(some 189), (.fad 5 (.t 188)), none, 5, false, []⟩,
    ⟨(some 190), (.load false 1 (.t 189)), none, 6, false, [2]⟩,
    ⟨(some 191), (.iad 1 (.t 190) (.c (.int .i64 2))), none, 7, false, [2]⟩,
    ⟨(some 192), (.load false 1 (.t 191)), none, 8, false, [2]⟩,
    ⟨(some 193), (.mv (.t 3)), none, 9, false, []⟩,
    ⟨(some 194), (.hcall 62 [(.t 184), (.t 186), (.t 192), (.t 193), (.c (.bool true))]), none, 10, false, [10]⟩,
    ⟨(some 195), (.mv (.t 194)), none, 11, false, []⟩,
    ⟨(some 196), (.mv (.t 0)), (some (195, true)), 12, false, []⟩,
    ⟨(some 197), (.mv (.t 1)), (some (195, true)), 13, false, []⟩,
    ⟨(some 198), (.hcall 83 [(.c (.int .i64 19)), (.t 197)]), (some (195, true)), 14, true, []⟩,
    ⟨(some 199), (.mv (.t 2)), (some (195, true)), 15, false, []⟩,
    ⟨(some 200), (.nilck (.t 199)), (some (195, true)), 16, false, []⟩,
    ⟨(some 201), (.fad 5 (.t 200)), (some (195, true)), 17, false, []⟩,
    ⟨(some 202), (.load false 1 (.t 201)), (some (195, true)), 18, false, [14]⟩,
    ⟨(some 203), (.iad 1 (.t 202) (.c (.int .i64 3))), (some (195, true)), 19, false, [14]⟩,
    ⟨(some 204), (.load false 1 (.t 203)), (some (195, true)), 20, false, [14]⟩,
    ⟨(some 205), (.mv (.t 3)), (some (195, true)), 21, false, []⟩,
    ⟨(some 206), (.hcall 62 [(.t 196), (.t 198), (.t 204), (.t 205), (.c (.bool true))]), (some (195, true)), 22, false, [22]⟩,
    ⟨(some 207), (.pick (.t 195) (.t 206) (.c (.bool false))), none, 23, false, []⟩,
    ⟨(some 10), (.mv (.t 207)), none, 24, false, []⟩] true
def a76_23 : AC := .seq a76_22 .ret
def a76_24 : AC := .cond (.t 178) a76_23 .skip
def a76_25 : AC := .seq a76_21 a76_24
def a76_26 : AC := .cond (.t 148) a76_20 a76_25
def a76_27 : AC := .seq a76_18 a76_26
def a76_28 : AC := .cond (.t 122) a76_17 a76_27
def a76_29 : AC := .seq a76_15 a76_28
def a76_30 : AC := .cond (.t 96) a76_14 a76_29
def a76_31 : AC := .seq a76_12 a76_30
def a76_32 : AC := .cond (.t 51) a76_11 a76_31
def a76_33 : AC := .seq a76_9 a76_32
def a76_34 : AC := .cond (.t 18) a76_8 a76_33
def a76_35 : AC := .seq a76_6 a76_34
def a76_36 : AC := .blk 0 a76_35
def a76_37 : AC := .reg [⟨(some 208), (.mv (.t 0)), none, 0, false, []⟩,
    ⟨(some 209), (.mv (.t 1)), none, 0, false, []⟩,
    ⟨(some 210), (.mv (.t 2)), none, 0, false, []⟩,
    ⟨(some 211), (.mv (.t 3)), none, 0, false, []⟩,
    ⟨(some 212), (.hcall 82 [(.t 208), (.t 209), (.t 210), (.t 211), (.c (.bool true))]), none, 0, false, []⟩,
    ⟨(some 10), (.mv (.t 212)), none, 0, false, []⟩] false
def a76_38 : AC := .seq a76_37 .ret
def a76_39 : AC := .seq a76_36 a76_38
def a76_40 : AC := .seq a76_5 a76_39
def a76_41 : AC := .seq a76_0 a76_40
def af76 : AF := { ntmps := 213, res := [(.t 10)], body := a76_41 }
theorem tr76 : trF Tryd.prog Tryd.f76 = some af76 := by kernel_rfl
attribute [go_sem] af76 a76_0 a76_1 a76_2 a76_3 a76_4 a76_5 a76_6 a76_7 a76_8 a76_9 a76_10 a76_11 a76_12 a76_13 a76_14 a76_15 a76_16 a76_17 a76_18 a76_19 a76_20 a76_21 a76_22 a76_23 a76_24 a76_25 a76_26 a76_27 a76_28 a76_29 a76_30 a76_31 a76_32 a76_33 a76_34 a76_35 a76_36 a76_37 a76_38 a76_39 a76_40 a76_41
def a82_0 : AC := .reg [⟨(some 10), (.mv (.c (.bool false))), none, 0, false, []⟩] false
def a82_1 : AC := .reg [⟨(some 15), (.mv (.t 1)), none, 0, false, []⟩,
    ⟨(some 16), (.nilck (.t 15)), none, 1, false, []⟩,
    ⟨(some 17), (.fad 0 (.t 16)), none, 2, false, []⟩,
    ⟨(some 18), (.load false 1 (.t 17)), none, 3, false, []⟩,
    ⟨(some 19), (.mv (.t 2)), none, 4, false, []⟩,
    ⟨(some 20), (.nilck (.t 19)), none, 5, false, []⟩,
    ⟨(some 21), (.fad 0 (.t 20)), none, 6, false, []⟩,
    ⟨(some 22), (.load false 1 (.t 21)), none, 7, false, []⟩,
    ⟨(some 23), (.bin 0 .neq (.t 18) (.t 22)), none, 8, false, []⟩,
    ⟨(some 24), (.mv (.t 23)), none, 9, false, []⟩,
    ⟨(some 25), (.mv (.t 1)), (some (24, false)), 10, false, []⟩,
    ⟨(some 26), (.nilck (.t 25)), (some (24, false)), 11, false, []⟩,
    ⟨(some 27), (.fad 1 (.t 26)), (some (24, false)), 12, false, []⟩,
    ⟨(some 28), (.load false 1 (.t 27)), (some (24, false)), 13, false, []⟩,
    ⟨(some 29), (.mv (.t 2)), (some (24, false)), 14, false, []⟩,
    ⟨(some 30), (.nilck (.t 29)), (some (24, false)), 15, false, []⟩,
    ⟨(some 31), (.fad 1 (.t 30)), (some (24, false)), 16, false, []⟩,
    ⟨(some 32), (.load false 1 (.t 31)), (some (24, false)), 17, false, []⟩,
    ⟨(some 33), (.bin 0 .neq (.t 28) (.t 32)), (some (24, false)), 18, false, []⟩,
    ⟨(some 34), (.pick (.t 24) (.c (.bool true)) (.t 33)), none, 19, false, []⟩,
    ⟨(some 35), (.mv (.t 34)), none, 20, false, []⟩,
    ⟨(some 36), (.mv (.t 1)), (some (35, false)), 21, false, []⟩,
    ⟨(some 37), (.nilck (.t 36)), (some (35, false)), 22, false, []⟩,
    ⟨(some 38), (.fad 2 (.t 37)), (some (35, false)), 23, false, []⟩,
    ⟨(some 39), (.load false 1 (.t 38)), (some (35, false)), 24, false, []⟩,
    ⟨(some 40), (.mv (.t 2)), (some (35, false)), 25, false, []⟩,
    ⟨(some 41), (.nilck (.t 40)), (some (35, false)), 26, false, []⟩,
    ⟨(some 42), (.fad 2 (.t 41)), (some (35, false)), 27, false, []⟩,
    ⟨(some 43), (.load false 1 (.t 42)), (some (35, false)), 28, false, []⟩,
    ⟨(some 44), (.bin 0 .neq (.t 39) (.t 43)), (some (35, false)), 29, false, []⟩,
    ⟨(some 45), (.pick (.t 35) (.c (.bool true)) (.t 44)), none, 30, false, []⟩,
    ⟨(some 46), (.mv (.t 45)), none, 31, false, []⟩,
    ⟨(some 47), (.mv (.t 1)), (some (46, false)), 32, false, []⟩,
    ⟨(some 48), (.nilck (.t 47)), (some (46, false)), 33, false, []⟩,
    ⟨(some 49), (.fad 3 (.t 48)), (some (46, false)), 34, false, []⟩,
    ⟨(some 50), (.load false 1 (.t 49)), (some (46, false)), 35, false, []⟩,
    ⟨(some 51), (.mv (.t 2)), (some (46, false)), 36, false, []⟩,
    ⟨(some 52), (.nilck (.t 51)), (some (46, false)), 37, false, []⟩,
    ⟨(some 53), (.fad 3 (.t 52)), (some (46, false)), 38, false, []⟩,
    ⟨(some 54), (.load false 1 (.t 53)), (some (46, false)), 39, false, []⟩,
    ⟨(some 55), (.bin 0 .neq (.t 50) (.t 54)), (some (46, false)), 40, false, []⟩,
    ⟨(some 56), (.pick (.t 46) (.c (.bool true)) (.t 55)), none, 41, false, []⟩,
    ⟨(some 57), (.mv (.t 56)), none, 42, false, []⟩,
    ⟨(some 58), (.mv (.t 1)), (some (57, false)), 43, false, []⟩,
    ⟨(some 59), (.nilck (.t 58)), (some (57, false)), 44, false, []⟩,
    ⟨(some 60), (.fad 4 (.t 59)), (some (57, false)), 45, false, []⟩,
    ⟨(some 61), (.load false 1 (.t 60)), (some (57, false)), 46, false, []⟩,
    ⟨(some 62), (.mv (.t 2)), (some (57, false)), 47, false, []⟩,
    ⟨(some 63), (.nilck (.t 62)), (some (57, false)), 48, false, []⟩,
    ⟨(some 64), (.fad 4 (.t 63)), (some (57, false)), 49, false, []⟩,
    ⟨(some 65), (.load false 1 (.t 64)), (some (57, false)), 50, false, []⟩,
    ⟨(some 66), (.bin 0 .neq (.t 61) (.t 65)), (some (57, false)), 51, false, []⟩,
    ⟨(some 67), (.pick (.t 57) (.c (.bool true)) (.t 66)), none, 52, false, []⟩,
    ⟨(some 68), (.mv (.t 67)), none, 53, false, []⟩,
    ⟨(some 69), (.mv (.t 1)), (some (68, false)), 54, false, []⟩,
    ⟨(some 70), (.nilck (.t 69)), (some (68, false)), 55, false, []⟩,
    ⟨(some 71), (.fad 5 (.t 70)), (some (68, false)), 56, false, []⟩,
    ⟨(some 72), (.load false 1 (.t 71)), (some (68, false)), 57, false, []⟩,
    ⟨(some 73), (.len false (.t 72)), (some (68, false)), 58, false, []⟩,
    ⟨(some 74), (.mv (.t 2)), (some (68, false)), 59, false, []⟩,
    ⟨(some 75), (.nilck (.t 74)), (some (68, false)), 60, false, []⟩,
    ⟨(some 76), (.fad 5 (.t 75)), (some (68, false)), 61, false, []⟩,
    ⟨(some 77), (.load false 1 (.t 76)), (some (68, false)), 62, false, []⟩,
    ⟨(some 78), (.len false (.t 77)), (some (68, false)), 63, false, []⟩,
    ⟨(some 79), (.bin 0 .neq (.t 73) (.t 78)), (some (68, false)), 64, false, []⟩,
    ⟨(some 80), (.pick (.t 68) (.c (.bool true)) (.t 79)), none, 65, false, []⟩] true
def a82_2 : AC := .reg [⟨(some 10), (.mv (.c (.bool false))), none, 0, false, []⟩] false
def a82_3 : AC := .seq a82_2 .ret
def a82_4 : AC := .cond (.t 80) a82_3 .skip
def a82_5 : AC := .seq a82_1 a82_4
def a82_6 : AC := .reg [⟨(some 81), (.mv (.t 1)), none, 0, false, []⟩,
    ⟨(some 82), (.nilck (.t 81)), none, 0, false, []⟩,
    ⟨(some 83), (.fad 5 (.t 82)), none, 0, false, []⟩,
    ⟨(some 84), (.load false 1 (.t 83)), none, 0, false, []⟩,
    ⟨(some 85), (.len false (.t 84)), none, 0, false, []⟩,
    ⟨(some 86), (.mv (.c (.int .i64 0))), none, 0, false, []⟩] false
def a82_7 : AC := .reg [⟨(some 87), (.bin 0 .lss (.t 86) (.t 85)), none, 0, false, []⟩] false
def a82_8 : AC := .cond (.t 87) .skip (.exit 0)
def a82_9 : AC := .reg [⟨(some 88), (.mv (.t 86)), none, 0, false, []⟩,
    ⟨(some 11), (.mv (.t 88)), none, 0, false, []⟩] false
def a82_10 : AC := .reg [⟨(some 89), (.mv (.t 1)), none, 0, false, []⟩,
    ⟨(some 90), (.nilck (.t 89)), none, 1, false, []⟩,
    ⟨(some 91), (.fad 5 (.t 90)), none, 2, false, []⟩,
    ⟨(some 92), (.load false 1 (.t 91)), none, 3, false, []⟩,
    ⟨(some 93), (.mv (.t 11)), none, 4, false, []⟩,
    ⟨(some 94), (.iad 1 (.t 92) (.t 93)), none, 5, false, []⟩,
    ⟨(some 95), (.load false 1 (.t 94)), none, 6, false, []⟩,
    ⟨(some 96), (.mv (.t 2)), none, 7, false, []⟩,
    ⟨(some 97), (.nilck (.t 96)), none, 8, false, []⟩,
    ⟨(some 98), (.fad 5 (.t 97)), none, 9, false, []⟩,
    ⟨(some 99), (.load false 1 (.t 98)), none, 10, false, []⟩,
    ⟨(some 100), (.mv (.t 11)), none, 11, false, []⟩,
    ⟨(some 101), (.iad 1 (.t 99) (.t 100)), none, 12, false, []⟩,
    ⟨(some 102), (.load false 1 (.t 101)), none, 13, false, []⟩,
    ⟨(some 12), (.mv (.t 95)), none, 14, false, []⟩,
    ⟨(some 13), (.mv (.t 102)), none, 15, false, []⟩] true
def a82_11 : AC := .reg [⟨(some 103), (.mv (.t 1)), none, 0, false, []⟩,
    ⟨(some 104), (.nilck (.t 103)), none, 0, false, []⟩,
    ⟨(some 105), (.fad 0 (.t 104)), none, 0, false, []⟩,
    ⟨(some 106), (.load false 1 (.t 105)), none, 0, false, []⟩,
    ⟨(some 107), (.mv (.t 11)), none, 0, false, []⟩,
    ⟨(some 108), (.call 36 [(.t 106), (.t 107)]), none, 0, false, []⟩,
    ⟨(some 14), (.mv (.t 108)), none, 0, false, []⟩] false
def a82_12 : AC := .reg [⟨(some 109), (.mv (.t 14)), none, 0, false, []⟩,
    ⟨(some 110), (.bin 0 .gtr (.t 109) (.c (.int .i64 0))), none, 0, false, []⟩] false
def a82_13 : AC := .reg [⟨(some 111), (.mv (.t 12)), none, 0, false, []⟩,
    ⟨(some 112), (.mv (.t 3)), none, 0, false, []⟩,
    ⟨(some 113), (.mv (.t 14)), none, 0, false, []⟩,
    ⟨(some 114), (.hcall 37 [(.t 111), (.t 112), (.t 113)]), none, 0, false, []⟩,
    ⟨(some 115), (.mv (.t 13)), none, 0, false, []⟩,
    ⟨(some 116), (.mv (.t 3)), none, 0, false, []⟩,
    ⟨(some 117), (.mv (.t 14)), none, 0, false, []⟩,
    ⟨(some 118), (.hcall 37 [(.t 115), (.t 116), (.t 117)]), none, 0, false, []⟩,
    ⟨(some 12), (.mv (.t 114)), none, 0, false, []⟩,
    ⟨(some 13), (.mv (.t 118)), none, 0, false, []⟩] false
def a82_14 : AC := .cond (.t 110) a82_13 .skip
def a82_15 : AC := .seq a82_12 a82_14
def a82_16 : AC := .reg [⟨(some 119), (.mv (.t 0)), none, 0, false, []⟩,
    ⟨(some 120), (.mv (.t 12)), none, 0, false, []⟩,
    ⟨(some 121), (.mv (.t 13)), none, 0, false, []⟩,
    ⟨(some 122), (.mv (.t 3)), none, 0, false, []⟩,
    ⟨(some 123), (.mv (.t 14)), none, 0, false, []⟩,
    ⟨(some 124), (.bin 0 .add (.t 122) (.t 123)), none, 0, false, []⟩,
    ⟨(some 125), (.mv (.t 4)), none, 0, false, []⟩,
    ⟨(some 126), (.hcall 62 [(.t 119), (.t 120), (.t 121), (.t 124), (.t 125)]), none, 0, false, []⟩,
    ⟨(some 127), (.un .not (.t 126)), none, 0, false, []⟩] false
def a82_17 : AC := .reg [⟨(some 10), (.mv (.c (.bool false))), none, 0, false, []⟩] false
def a82_18 : AC := .seq a82_17 .ret
def a82_19 : AC := .cond (.t 127) a82_18 .skip
def a82_20 : AC := .seq a82_16 a82_19
def a82_21 : AC := .seq a82_15 a82_20
def a82_22 : AC := .seq a82_11 a82_21
def a82_23 : AC := .seq a82_10 a82_22
def a82_24 : AC := .seq a82_9 a82_23
def a82_25 : AC := .blk 1 a82_24
def a82_26 : AC := .reg [⟨(some 128), (.bin 0 .add (.t 86) (.c (.int .i64 1))), none, 0, false, []⟩,
    ⟨(some 86), (.mv (.t 128)), none, 0, false, []⟩] false
def a82_27 : AC := .seq a82_25 a82_26
def a82_28 : AC := .seq a82_8 a82_27
def a82_29 : AC := .seq a82_7 a82_28
def a82_30 : AC := .loop a82_29
def a82_31 : AC := .blk 0 a82_30
def a82_32 : AC := .seq a82_6 a82_31
def a82_33 : AC := .reg [⟨(some 10), (.mv (.c (.bool true))), none, 0, false, []⟩] false
def a82_34 : AC := .seq a82_33 .ret
def a82_35 : AC := .seq a82_32 a82_34
def a82_36 : AC := .seq a82_5 a82_35
def a82_37 : AC := .seq a82_0 a82_36
def af82 : AF := { ntmps := 129, res := [(.t 10)], body := a82_37 }
theorem tr82 : trF Tryd.prog Tryd.f82 = some af82 := by kernel_rfl
attribute [go_sem] af82 a82_0 a82_1 a82_2 a82_3 a82_4 a82_5 a82_6 a82_7 a82_8 a82_9 a82_10 a82_11 a82_12 a82_13 a82_14 a82_15 a82_16 a82_17 a82_18 a82_19 a82_20 a82_21 a82_22 a82_23 a82_24 a82_25 a82_26 a82_27 a82_28 a82_29 a82_30 a82_31 a82_32 a82_33 a82_34 a82_35 a82_36 a82_37
end Go.Proofs.YtdpigpopcbjkmaaDoor.Abs
