/- The abstract code of functions, printed by program; that it is the translation of the model's code is decided by the kernel. -/
import Derived.Test.YtadmdmhocglkfaaEv
import Derived.Test.YtadmdmhocglkfaaProg
import Derived.KernelRfl
namespace Go.Proofs.Ytadmdmhocglkfaa.Abs
open Go Go.Proofs Go.Proofs.Ytadmdmhocglkfaa
def a88_0 : AC := .reg [⟨(some 2), (.mv (.c (.bool false))), none, 0, false, []⟩] false
def a88_1 : AC := .reg [⟨(some 3), (.mv (.t 0)), none, 0, false, []⟩,
    ⟨(some 4), (.bin 0 .geq (.t 3) (.c (.int .i64 0))), none, 0, false, []⟩,
    ⟨(some 5), (.mv (.t 4)), none, 0, false, []⟩,
    ⟨(some 6), (.mv (.t 0)), (some (5, true)), 0, false, []⟩,
    ⟨(some 7), (.bin 0 .leq (.t 6) (.c (.int .i64 998))), (some (5, true)), 0, false, []⟩,
    ⟨(some 8), (.pick (.t 5) (.t 7) (.c (.bool false))), none, 0, false, []⟩,
    ⟨(some 2), (.mv (.t 8)), none, 0, false, []⟩] false
def a88_2 : AC := .seq a88_1 .ret
def a88_3 : AC := .seq a88_0 a88_2
def af88 : AF := { ntmps := 9, res := [(.t 2)], body := a88_3 }
theorem tr88 : trF Try.prog Try.f88 = some af88 := by kernel_rfl
attribute [go_sem] af88 a88_0 a88_1 a88_2 a88_3
def a89_0 : AC := .reg [⟨(some 2), (.mv (.c (.bool false))), none, 0, false, []⟩] false
def a89_1 : AC := .reg [⟨(some 5), (.mv (.t 0)), none, 0, false, []⟩,
    ⟨(some 6), (.len false (.t 5)), none, 0, false, []⟩,
    ⟨(some 7), (.mv (.c (.int .i64 0))), none, 0, false, []⟩] false
def a89_2 : AC := .reg [⟨(some 8), (.bin 0 .lss (.t 7) (.t 6)), none, 0, false, []⟩] false
def a89_3 : AC := .cond (.t 8) .skip (.exit 0)
def a89_4 : AC := .reg [⟨(some 9), (.iad 5 (.t 5) (.t 7)), none, 0, false, []⟩,
    ⟨(some 10), (.load true 5 (.t 9)), none, 0, false, []⟩,
    ⟨(some 4), (.new [(.int .i64 0), (.int .i64 0), (.int .i64 0), (.int .i64 0), .nils]), none, 0, false, []⟩,
    ⟨none, (.store 5 (.t 4) (.t 10)), none, 0, false, []⟩] false
def a89_5 : AC := .reg [⟨(some 11), (.load true 5 (.t 4)), none, 0, false, []⟩,
    ⟨(some 12), (.call 130 [(.t 11)]), none, 0, false, []⟩,
    ⟨(some 13), (.un .not (.t 12)), none, 0, false, []⟩] false
def a89_6 : AC := .reg [⟨(some 2), (.mv (.c (.bool false))), none, 0, false, []⟩] false
def a89_7 : AC := .seq a89_6 .ret
def a89_8 : AC := .cond (.t 13) a89_7 .skip
def a89_9 : AC := .seq a89_5 a89_8
def a89_10 : AC := .seq a89_4 a89_9
def a89_11 : AC := .blk 1 a89_10
def a89_12 : AC := .reg [⟨(some 14), (.bin 0 .add (.t 7) (.c (.int .i64 1))), none, 0, false, []⟩,
    ⟨(some 7), (.mv (.t 14)), none, 0, false, []⟩] false
def a89_13 : AC := .seq a89_11 a89_12
def a89_14 : AC := .seq a89_3 a89_13
def a89_15 : AC := .seq a89_2 a89_14
def a89_16 : AC := .loop a89_15
def a89_17 : AC := .blk 0 a89_16
def a89_18 : AC := .seq a89_1 a89_17
def a89_19 : AC := .reg [⟨(some 2), (.mv (.c (.bool true))), none, 0, false, []⟩] false
def a89_20 : AC := .seq a89_19 .ret
def a89_21 : AC := .seq a89_18 a89_20
def a89_22 : AC := .seq a89_0 a89_21
def af89 : AF := { ntmps := 15, res := [(.t 2)], body := a89_22 }
theorem tr89 : trF Try.prog Try.f89 = some af89 := by kernel_rfl
attribute [go_sem] af89 a89_0 a89_1 a89_2 a89_3 a89_4 a89_5 a89_6 a89_7 a89_8 a89_9 a89_10 a89_11 a89_12 a89_13 a89_14 a89_15 a89_16 a89_17 a89_18 a89_19 a89_20 a89_21 a89_22
def a90_0 : AC := .reg [⟨(some 1), (.box (.t 0)), none, 0, false, []⟩,
    ⟨(some 2), (.new [(.int .i64 0), (.int .i64 0), (.int .i64 0), (.int .i64 0), .nils]), none, 0, false, []⟩] false
def a90_1 : AC := .reg [⟨(some 6), (.fad 4 (.t 1)), none, 0, false, []⟩,
    ⟨(some 7), (.load false 1 (.t 6)), none, 0, false, []⟩,
    ⟨(some 8), (.len false (.t 7)), none, 0, false, []⟩,
    ⟨(some 9), (.bin 0 .eql (.t 8) (.c (.int .i64 0))), none, 0, false, []⟩] false
def a90_2 : AC := .reg [⟨(some 10), (.fad 4 (.t 1)), none, 0, false, []⟩,
    ⟨none, (.store 1 (.t 10) (.c .nils)), none, 0, false, []⟩] false
def a90_3 : AC := .reg [⟨(some 11), (.load true 5 (.t 1)), none, 0, false, []⟩,
    ⟨none, (.store 5 (.t 2) (.t 11)), none, 0, false, []⟩] false
def a90_4 : AC := .seq a90_3 .ret
def a90_5 : AC := .seq a90_2 a90_4
def a90_6 : AC := .cond (.t 9) a90_5 .skip
def a90_7 : AC := .seq a90_1 a90_6
def a90_8 : AC := .reg [⟨(some 12), (.fad 4 (.t 1)), none, 0, false, []⟩,
    ⟨(some 13), (.load false 1 (.t 12)), none, 0, false, []⟩,
    ⟨(some 14), (.len false (.t 13)), none, 0, false, []⟩,
    ⟨(some 15), (.mk 5 56 [(.int .i64 0), (.int .i64 0), (.int .i64 0), (.int .i64 0), .nils] (.t 14) (.t 14)), none, 0, false, []⟩,
    ⟨(some 3), (.mv (.t 15)), none, 0, false, []⟩] false
def a90_9 : AC := .reg [⟨(some 16), (.fad 4 (.t 1)), none, 0, false, []⟩,
    ⟨(some 17), (.load false 1 (.t 16)), none, 0, false, []⟩,
    ⟨(some 18), (.len false (.t 17)), none, 0, false, []⟩,
    ⟨(some 19), (.mv (.c (.int .i64 0))), none, 0, false, []⟩] false
def a90_10 : AC := .reg [⟨(some 20), (.bin 0 .lss (.t 19) (.t 18)), none, 0, false, []⟩] false
def a90_11 : AC := .cond (.t 20) .skip (.exit 0)
def a90_12 : AC := .reg [⟨(some 21), (.mv (.t 19)), none, 0, false, []⟩,
    ⟨(some 22), (.iad 5 (.t 17) (.t 19)), none, 0, false, []⟩,
    ⟨(some 23), (.load true 5 (.t 22)), none, 0, false, []⟩,
    ⟨(some 5), (.new [(.int .i64 0), (.int .i64 0), (.int .i64 0), (.int .i64 0), .nils]), none, 0, false, []⟩,
    ⟨(some 4), (.mv (.t 21)), none, 0, false, []⟩,
    ⟨none, (.store 5 (.t 5) (.t 23)), none, 0, false, []⟩] false
def a90_13 : AC := .reg [⟨(some 24), (.mv (.t 3)), none, 0, false, []⟩,
    ⟨(some 25), (.mv (.t 4)), none, 0, false, []⟩,
    ⟨(some 26), (.load true 5 (.t 5)), none, 0, false, []⟩,
    ⟨(some 27), (.call 90 [(.t 26)]), none, 0, false, []⟩,
    ⟨(some 28), (.iad 5 (.t 24) (.t 25)), none, 0, false, []⟩,
    ⟨none, (.store 5 (.t 28) (.t 27)), none, 0, false, []⟩] false
def a90_14 : AC := .seq a90_12 a90_13
def a90_15 : AC := .blk 1 a90_14
def a90_16 : AC := .reg [⟨(some 29), (.bin 0 .add (.t 19) (.c (.int .i64 1))), none, 0, false, []⟩,
    ⟨(some 19), (.mv (.t 29)), none, 0, false, []⟩] false
def a90_17 : AC := .seq a90_15 a90_16
def a90_18 : AC := .seq a90_11 a90_17
def a90_19 : AC := .seq a90_10 a90_18
def a90_20 : AC := .loop a90_19
def a90_21 : AC := .blk 0 a90_20
def a90_22 : AC := .seq a90_9 a90_21
def a90_23 : AC := .reg [⟨(some 30), (.mv (.t 3)), none, 0, false, []⟩,
    ⟨(some 31), (.fad 4 (.t 1)), none, 0, false, []⟩,
    ⟨none, (.store 1 (.t 31) (.t 30)), none, 0, false, []⟩] false
def a90_24 : AC := .reg [⟨(some 32), (.load true 5 (.t 1)), none, 0, false, []⟩,
    ⟨none, (.store 5 (.t 2) (.t 32)), none, 0, false, []⟩] false
def a90_25 : AC := .seq a90_24 .ret
def a90_26 : AC := .seq a90_23 a90_25
def a90_27 : AC := .seq a90_22 a90_26
def a90_28 : AC := .seq a90_8 a90_27
def a90_29 : AC := .seq a90_7 a90_28
def a90_30 : AC := .seq a90_0 a90_29
def af90 : AF := { ntmps := 33, res := [(.cell 2 true 5)], body := a90_30 }
theorem tr90 : trF Try.prog Try.f90 = some af90 := by kernel_rfl
attribute [go_sem] af90 a90_0 a90_1 a90_2 a90_3 a90_4 a90_5 a90_6 a90_7 a90_8 a90_9 a90_10 a90_11 a90_12 a90_13 a90_14 a90_15 a90_16 a90_17 a90_18 a90_19 a90_20 a90_21 a90_22 a90_23 a90_24 a90_25 a90_26 a90_27 a90_28 a90_29 a90_30
def a91_0 : AC := .reg [⟨(some 4), (.box (.t 1)), none, 0, false, []⟩,
    ⟨(some 5), (.box (.t 2)), none, 0, false, []⟩,
    ⟨(some 6), (.new [(.int .i64 0), (.int .i64 0), (.int .i64 0), (.int .i64 0), .nils]), none, 0, false, []⟩] false
def a91_1 : AC := .reg [⟨(some 7), (.mv (.t 0)), none, 0, false, []⟩,
    ⟨(some 8), (.call 98 [(.t 7)]), none, 1, true, []⟩,
    ⟨(some 9), (.call 99 [(.c (.int .i64 0))]), none, 2, true, []⟩,
    ⟨(some 10), (.load true 5 (.t 4)), none, 3, false, [1, 2]⟩,
    ⟨(some 11), (.load true 5 (.t 5)), none, 4, false, [1, 2]⟩,
    ⟨(some 12), (.bslice 5 [(.t 8), (.t 9), (.t 10), (.t 11)]), none, 5, false, []⟩,
    ⟨(some 13), (.call 97 [(.c (.int .i64 17)), (.c (.int .i64 0)), (.c (.int .i64 0)), (.c (.int .i64 0)), (.t 12)]), none, 6, false, []⟩,
    ⟨none, (.store 5 (.t 6) (.t 13)), none, 7, false, []⟩] true
def a91_2 : AC := .seq a91_1 .ret
def a91_3 : AC := .seq a91_0 a91_2
def af91 : AF := { ntmps := 14, res := [(.cell 6 true 5)], body := a91_3 }
theorem tr91 : trF Try.prog Try.f91 = some af91 := by kernel_rfl
attribute [go_sem] af91 a91_0 a91_1 a91_2 a91_3
def a97_0 : AC := .reg [⟨(some 10), (.new [(.int .i64 0), (.int .i64 0), (.int .i64 0), (.int .i64 0), .nils]), none, 0, false, []⟩] false
def a97_1 : AC := .reg [⟨(some 12), (.mv (.t 0)), none, 0, false, []⟩,
    ⟨(some 13), (.mv (.t 1)), none, 0, false, []⟩,
    ⟨(some 14), (.mv (.t 2)), none, 0, false, []⟩,
    ⟨(some 15), (.mv (.t 3)), none, 0, false, []⟩,
    ⟨(some 16), (.build [(.int .i64 0), (.int .i64 0), (.int .i64 0), (.int .i64 0), .nils] [(0, (1, (.t 12))), (1, (1, (.t 13))), (2, (1, (.t 14))), (3, (1, (.t 15)))]), none, 0, false, []⟩,
    ⟨(some 11), (.new [(.int .i64 0), (.int .i64 0), (.int .i64 0), (.int .i64 0), .nils]), none, 0, false, []⟩,
    ⟨none, (.store 5 (.t 11) (.t 16)), none, 0, false, []⟩] false
def a97_2 : AC := .reg [⟨(some 17), (.mv (.t 4)), none, 0, false, []⟩,
    ⟨(some 18), (.len false (.t 17)), none, 0, false, []⟩,
    ⟨(some 19), (.bin 0 .gtr (.t 18) (.c (.int .i64 0))), none, 0, false, []⟩] false
def a97_3 : AC := .reg [⟨(some 20), (.mv (.t 4)), none, 0, false, []⟩,
    ⟨(some 21), (.app 5 56 (.c .nils) (.t 20)), none, 0, false, []⟩,
    ⟨(some 22), (.fad 4 (.t 11)), none, 0, false, []⟩,
    ⟨none, (.store 1 (.t 22) (.t 21)), none, 0, false, []⟩] false
def a97_4 : AC := .cond (.t 19) a97_3 .skip
def a97_5 : AC := .seq a97_2 a97_4
def a97_6 : AC := .reg [⟨(some 23), (.load true 5 (.t 11)), none, 0, false, []⟩,
    ⟨none, (.store 5 (.t 10) (.t 23)), none, 0, false, []⟩] false
def a97_7 : AC := .seq a97_6 .ret
def a97_8 : AC := .seq a97_5 a97_7
def a97_9 : AC := .seq a97_1 a97_8
def a97_10 : AC := .seq a97_0 a97_9
def af97 : AF := { ntmps := 24, res := [(.cell 10 true 5)], body := a97_10 }
theorem tr97 : trF Try.prog Try.f97 = some af97 := by kernel_rfl
attribute [go_sem] af97 a97_0 a97_1 a97_2 a97_3 a97_4 a97_5 a97_6 a97_7 a97_8 a97_9 a97_10
def a98_0 : AC := .reg [⟨(some 2), (.new [(.int .i64 0), (.int .i64 0), (.int .i64 0), (.int .i64 0), .nils]), none, 0, false, []⟩] false
def a98_1 : AC := .reg [⟨(some 3), (.mv (.t 0)), none, 0, false, []⟩,
    ⟨(some 4), (.build [(.int .i64 0), (.int .i64 0), (.int .i64 0), (.int .i64 0), .nils] [(0, (1, (.c (.int .i64 1)))), (1, (1, (.t 3)))]), none, 0, false, []⟩,
    ⟨none, (.store 5 (.t 2) (.t 4)), none, 0, false, []⟩] false
def a98_2 : AC := .seq a98_1 .ret
def a98_3 : AC := .seq a98_0 a98_2
def af98 : AF := { ntmps := 5, res := [(.cell 2 true 5)], body := a98_3 }
theorem tr98 : trF Try.prog Try.f98 = some af98 := by kernel_rfl
attribute [go_sem] af98 a98_0 a98_1 a98_2 a98_3
def a99_0 : AC := .reg [⟨(some 2), (.new [(.int .i64 0), (.int .i64 0), (.int .i64 0), (.int .i64 0), .nils]), none, 0, false, []⟩] false
def a99_1 : AC := .reg [⟨(some 3), (.mv (.t 0)), none, 0, false, []⟩,
    ⟨(some 4), (.build [(.int .i64 0), (.int .i64 0), (.int .i64 0), (.int .i64 0), .nils] [(0, (1, (.c (.int .i64 2)))), (1, (1, (.t 3)))]), none, 0, false, []⟩,
    ⟨none, (.store 5 (.t 2) (.t 4)), none, 0, false, []⟩] false
def a99_2 : AC := .seq a99_1 .ret
def a99_3 : AC := .seq a99_0 a99_2
def af99 : AF := { ntmps := 5, res := [(.cell 2 true 5)], body := a99_3 }
theorem tr99 : trF Try.prog Try.f99 = some af99 := by kernel_rfl
attribute [go_sem] af99 a99_0 a99_1 a99_2 a99_3
def a33_0 : AC := .reg [⟨(some 2), (.new [(.int .i64 0), (.int .i64 0), (.int .i64 0), (.int .i64 0), .nils]), none, 0, false, []⟩] false
def a33_1 : AC := .reg [⟨(some 3), (.mv (.t 0)), none, 0, false, []⟩,
    ⟨(some 4), (.call 88 [(.t 3)]), none, 0, false, []⟩,
    ⟨(some 5), (.un .not (.t 4)), none, 0, false, []⟩] false
def a33_2 : AC := .reg [⟨(some 6), (.build [(.int .i64 0), (.int .i64 0), (.int .i64 0), (.int .i64 0), .nils] []), none, 0, false, []⟩,
    ⟨none, (.store 5 (.t 2) (.t 6)), none, 0, false, []⟩] false
def a33_3 : AC := .seq a33_2 .ret
def a33_4 : AC := .cond (.t 5) a33_3 .skip
def a33_5 : AC := .seq a33_1 a33_4
def a33_6 : AC := .reg [⟨(some 7), (.mv (.t 0)), none, 0, false, []⟩,
    ⟨(some 8), (.call 98 [(.t 7)]), none, 0, false, []⟩,
    ⟨(some 9), (.call 99 [(.c (.int .i64 0))]), none, 0, false, []⟩,
    ⟨(some 10), (.bslice 5 [(.t 8), (.t 9)]), none, 0, false, []⟩,
    ⟨(some 11), (.call 97 [(.c (.int .i64 16)), (.c (.int .i64 0)), (.c (.int .i64 0)), (.c (.int .i64 0)), (.t 10)]), none, 0, false, []⟩,
    ⟨none, (.store 5 (.t 2) (.t 11)), none, 0, false, []⟩] false
def a33_7 : AC := .seq a33_6 .ret
def a33_8 : AC := .seq a33_5 a33_7
def a33_9 : AC := .seq a33_0 a33_8
def af33 : AF := { ntmps := 12, res := [(.cell 2 true 5)], body := a33_9 }
theorem tr33 : trF Try.prog Try.f33 = some af33 := by kernel_rfl
attribute [go_sem] af33 a33_0 a33_1 a33_2 a33_3 a33_4 a33_5 a33_6 a33_7 a33_8 a33_9
def a101_0 : AC := .reg [⟨(some 6), (.new [(.int .i64 0), (.int .i64 0), (.int .i64 0), (.int .i64 0), .nils]), none, 0, false, []⟩] false
def a101_1 : AC := .reg [⟨(some 7), (.mv (.t 1)), none, 0, false, []⟩,
    ⟨(some 8), (.mv (.t 0)), none, 0, false, []⟩,
    ⟨(some 9), (.mv (.t 2)), none, 0, false, []⟩,
    ⟨(some 10), (.call 97 [(.c (.int .i64 23)), (.t 7), (.c (.int .i64 0)), (.t 8), (.t 9)]), none, 0, false, []⟩,
    ⟨(some 11), (.call 90 [(.t 10)]), none, 0, false, []⟩,
    ⟨none, (.store 5 (.t 6) (.t 11)), none, 0, false, []⟩] false
def a101_2 : AC := .seq a101_1 .ret
def a101_3 : AC := .seq a101_0 a101_2
def af101 : AF := { ntmps := 12, res := [(.cell 6 true 5)], body := a101_3 }
theorem tr101 : trF Try.prog Try.f101 = some af101 := by kernel_rfl
attribute [go_sem] af101 a101_0 a101_1 a101_2 a101_3
def a104_0 : AC := .reg [⟨(some 7), (.box (.t 1)), none, 0, false, []⟩,
    ⟨(some 8), (.box (.t 2)), none, 0, false, []⟩,
    ⟨(some 9), (.box (.t 3)), none, 0, false, []⟩,
    ⟨(some 10), (.box (.t 4)), none, 0, false, []⟩,
    ⟨(some 11), (.box (.t 5)), none, 0, false, []⟩,
    ⟨(some 12), (.new [(.int .i64 0), (.int .i64 0), (.int .i64 0), (.int .i64 0), (.int .i64 0), .nils, (.int .i64 0), (.int .i64 0), (.int .i64 0), (.int .i64 0), .nils, (.int .i64 0), (.int .i64 0), (.int .i64 0), (.int .i64 0), .nils, (.int .i64 0), (.int .i64 0), (.int .i64 0), (.int .i64 0), .nils, (.int .i64 0), (.int .i64 0), (.int .i64 0), (.int .i64 0), .nils]), none, 0, false, []⟩] false
def a104_1 : AC := .reg [⟨(some 13), (.mv (.t 0)), none, 0, false, []⟩,
    ⟨(some 14), (.load true 5 (.t 7)), none, 1, false, []⟩,
    ⟨(some 15), (.call 90 [(.t 14)]), none, 2, true, []⟩,
    ⟨(some 16), (.load true 5 (.t 8)), none, 3, false, [2]⟩,
    ⟨(some 17), (.call 90 [(.t 16)]), none, 4, true, []⟩,
    ⟨(some 18), (.load true 5 (.t 9)), none, 5, false, [2, 4]⟩,
    ⟨(some 19), (.call 90 [(.t 18)]), none, 6, true, []⟩,
    ⟨(some 20), (.load true 5 (.t 10)), none, 7, false, [2, 4, 6]⟩,
    ⟨(some 21), (.call 90 [(.t 20)]), none, 8, true, []⟩,
    ⟨(some 22), (.load true 5 (.t 11)), none, 9, false, [2, 4, 6, 8]⟩,
    ⟨(some 23), (.call 90 [(.t 22)]), none, 10, false, []⟩,
    ⟨(some 24), (.build [(.int .i64 0), (.int .i64 0), (.int .i64 0), (.int .i64 0), (.int .i64 0), .nils, (.int .i64 0), (.int .i64 0), (.int .i64 0), (.int .i64 0), .nils, (.int .i64 0), (.int .i64 0), (.int .i64 0), (.int .i64 0), .nils, (.int .i64 0), (.int .i64 0), (.int .i64 0), (.int .i64 0), .nils, (.int .i64 0), (.int .i64 0), (.int .i64 0), (.int .i64 0), .nils] [(0, (1, (.t 13))), (1, (5, (.t 15))), (6, (5, (.t 17))), (11, (5, (.t 19))), (16, (5, (.t 21))), (21, (5, (.t 23)))]), none, 11, false, []⟩,
    ⟨none, (.store 26 (.t 12) (.t 24)), none, 12, false, []⟩] true
def a104_2 : AC := .seq a104_1 .ret
def a104_3 : AC := .seq a104_0 a104_2
def af104 : AF := { ntmps := 25, res := [(.cell 12 true 26)], body := a104_3 }
theorem tr104 : trF Try.prog Try.f104 = some af104 := by kernel_rfl
attribute [go_sem] af104 a104_0 a104_1 a104_2 a104_3
def a100_0 : AC := .reg [⟨(some 1), (.box (.t 0)), none, 0, false, []⟩,
    ⟨(some 2), (.mv (.c (.bool false))), none, 0, false, []⟩] false
def a100_1 : AC := .reg [⟨(some 3), (.fad 0 (.t 1)), none, 0, false, []⟩,
    ⟨(some 4), (.load false 1 (.t 3)), none, 0, false, []⟩,
    ⟨(some 5), (.call 88 [(.t 4)]), none, 0, false, []⟩,
    ⟨(some 6), (.mv (.t 5)), none, 0, false, []⟩,
    ⟨(some 7), (.fad 1 (.t 1)), (some (6, true)), 0, false, []⟩,
    ⟨(some 8), (.load true 5 (.t 7)), (some (6, true)), 0, false, []⟩,
    ⟨(some 9), (.fad 6 (.t 1)), (some (6, true)), 0, false, []⟩,
    ⟨(some 10), (.load true 5 (.t 9)), (some (6, true)), 0, false, []⟩,
    ⟨(some 11), (.fad 11 (.t 1)), (some (6, true)), 0, false, []⟩,
    ⟨(some 12), (.load true 5 (.t 11)), (some (6, true)), 0, false, []⟩,
    ⟨(some 13), (.fad 16 (.t 1)), (some (6, true)), 0, false, []⟩,
    ⟨(some 14), (.load true 5 (.t 13)), (some (6, true)), 0, false, []⟩,
    ⟨(some 15), (.fad 21 (.t 1)), (some (6, true)), 0, false, []⟩,
    ⟨(some 16), (.load true 5 (.t 15)), (some (6, true)), 0, false, []⟩,
    ⟨(some 17), (.bslice 5 [(.t 8), (.t 10), (.t 12), (.t 14), (.t 16)]), (some (6, true)), 0, false, []⟩,
    ⟨(some 18), (.call 89 [(.t 17)]), (some (6, true)), 0, false, []⟩,
    ⟨(some 19), (.pick (.t 6) (.t 18) (.c (.bool false))), none, 0, false, []⟩,
    ⟨(some 2), (.mv (.t 19)), none, 0, false, []⟩] false
def a100_2 : AC := .seq a100_1 .ret
def a100_3 : AC := .seq a100_0 a100_2
def af100 : AF := { ntmps := 20, res := [(.t 2)], body := a100_3 }
theorem tr100 : trF Try.prog Try.f100 = some af100 := by kernel_rfl
attribute [go_sem] af100 a100_0 a100_1 a100_2 a100_3
def a9_0 : AC := .reg [⟨(some 2), (.box (.t 0)), none, 0, false, []⟩,
    ⟨(some 3), (.box (.t 1)), none, 0, false, []⟩,
    ⟨(some 4), (.mv (.c (.bool false))), none, 0, false, []⟩] false
def a9_1 : AC := .reg [⟨(some 5), (.load true 26 (.t 2)), none, 0, false, []⟩,
    ⟨(some 6), (.call 29 [(.t 5)]), none, 0, false, []⟩,
    ⟨(some 7), (.mv (.t 6)), none, 0, false, []⟩,
    ⟨(some 8), (.load true 26 (.t 3)), (some (7, false)), 0, false, []⟩,
    ⟨(some 9), (.call 29 [(.t 8)]), (some (7, false)), 0, false, []⟩,
    ⟨(some 10), (.pick (.t 7) (.c (.bool true)) (.t 9)), none, 0, false, []⟩] false
def a9_2 : AC := .reg [⟨(some 4), (.mv (.c (.bool true))), none, 0, false, []⟩] false
def a9_3 : AC := .seq a9_2 .ret
def a9_4 : AC := .cond (.t 10) a9_3 .skip
def a9_5 : AC := .seq a9_1 a9_4
def a9_6 : AC := .reg [⟨(some 11), (.load true 26 (.t 2)), none, 0, false, []⟩,
    ⟨(some 12), (.call 36 [(.t 11)]), none, 1, true, []⟩,
    ⟨(some 13), (.load true 26 (.t 3)), none, 2, false, [1]⟩,
    ⟨(some 14), (.call 36 [(.t 13)]), none, 3, true, []⟩,
    ⟨(some 15), (.call 40 [(.t 12), (.t 14)]), none, 4, true, []⟩,
    ⟨(some 16), (.load true 26 (.t 2)), none, 5, false, [1, 3, 4]⟩,
    ⟨(some 17), (.load true 26 (.t 3)), none, 6, false, [1, 3, 4]⟩,
    ⟨(some 18), (.call 41 [(.t 16), (.t 17)]), none, 7, false, []⟩,
    ⟨(some 19), (.call 39 [(.t 15), (.t 18)]), none, 8, false, []⟩,
    ⟨(some 20), (.mv (.t 19)), none, 9, false, []⟩,
    ⟨(some 21), (.call 38 []), (some (20, true)), 10, false, []⟩,
    ⟨(some 22), (.pick (.t 20) (.t 21) (.c (.bool false))), none, 11, false, []⟩,
    ⟨(some 4), (.mv (.t 22)), none, 12, false, []⟩] true
def a9_7 : AC := .seq a9_6 .ret
def a9_8 : AC := .seq a9_5 a9_7
def a9_9 : AC := .seq a9_0 a9_8
def af9 : AF := { ntmps := 23, res := [(.t 4)], body := a9_9 }
theorem tr9 : trF Try.prog Try.f9 = some af9 := by kernel_rfl
attribute [go_sem] af9 a9_0 a9_1 a9_2 a9_3 a9_4 a9_5 a9_6 a9_7 a9_8 a9_9
def a29_0 : AC := .reg [⟨(some 1), (.box (.t 0)), none, 0, false, []⟩,
    ⟨(some 2), (.mv (.c (.bool false))), none, 0, false, []⟩] false
def a29_1 : AC := .reg [⟨(some 3), (.fad 1 (.t 1)), none, 0, false, []⟩,
    ⟨(some 4), (.load true 5 (.t 3)), none, 0, false, []⟩,
    ⟨(some 5), (.fad 6 (.t 1)), none, 0, false, []⟩,
    ⟨(some 6), (.load true 5 (.t 5)), none, 0, false, []⟩,
    ⟨(some 7), (.fad 11 (.t 1)), none, 0, false, []⟩,
    ⟨(some 8), (.load true 5 (.t 7)), none, 0, false, []⟩,
    ⟨(some 9), (.fad 16 (.t 1)), none, 0, false, []⟩,
    ⟨(some 10), (.load true 5 (.t 9)), none, 0, false, []⟩,
    ⟨(some 11), (.fad 21 (.t 1)), none, 0, false, []⟩,
    ⟨(some 12), (.load true 5 (.t 11)), none, 0, false, []⟩,
    ⟨(some 13), (.bslice 5 [(.t 4), (.t 6), (.t 8), (.t 10), (.t 12)]), none, 0, false, []⟩,
    ⟨(some 14), (.call 43 [(.t 13), (.c (.int .i64 120))]), none, 0, false, []⟩,
    ⟨(some 2), (.mv (.t 14)), none, 0, false, []⟩] false
def a29_2 : AC := .seq a29_1 .ret
def a29_3 : AC := .seq a29_0 a29_2
def af29 : AF := { ntmps := 15, res := [(.t 2)], body := a29_3 }
theorem tr29 : trF Try.prog Try.f29 = some af29 := by kernel_rfl
attribute [go_sem] af29 a29_0 a29_1 a29_2 a29_3
def a36_0 : AC := .reg [⟨(some 1), (.box (.t 0)), none, 0, false, []⟩,
    ⟨(some 2), (.new [(.int .i64 0), (.int .i64 0), (.int .i64 0), (.int .i64 0), (.int .i64 0), .nils, (.int .i64 0), (.int .i64 0), (.int .i64 0), (.int .i64 0), .nils, (.int .i64 0), (.int .i64 0), (.int .i64 0), (.int .i64 0), .nils, (.int .i64 0), (.int .i64 0), (.int .i64 0), (.int .i64 0), .nils, (.int .i64 0), (.int .i64 0), (.int .i64 0), (.int .i64 0), .nils]), none, 0, false, []⟩] false
def a36_1 : AC := .reg [⟨(some 3), (.fad 0 (.t 1)), none, 0, false, []⟩,
    ⟨(some 4), (.load false 1 (.t 3)), none, 0, false, []⟩,
    ⟨(some 5), (.fad 1 (.t 1)), none, 0, false, []⟩,
    ⟨(some 6), (.load true 5 (.t 5)), none, 0, false, []⟩,
    ⟨(some 7), (.fad 6 (.t 1)), none, 0, false, []⟩,
    ⟨(some 8), (.load true 5 (.t 7)), none, 0, false, []⟩,
    ⟨(some 9), (.fad 11 (.t 1)), none, 0, false, []⟩,
    ⟨(some 10), (.load true 5 (.t 9)), none, 0, false, []⟩,
    ⟨(some 11), (.fad 16 (.t 1)), none, 0, false, []⟩,
    ⟨(some 12), (.load true 5 (.t 11)), none, 0, false, []⟩,
    ⟨(some 13), (.fad 21 (.t 1)), none, 0, false, []⟩,
    ⟨(some 14), (.load true 5 (.t 13)), none, 0, false, []⟩,
    ⟨(some 15), (.build [(.int .i64 0), (.int .i64 0), (.int .i64 0), (.int .i64 0), (.int .i64 0), .nils, (.int .i64 0), (.int .i64 0), (.int .i64 0), (.int .i64 0), .nils, (.int .i64 0), (.int .i64 0), (.int .i64 0), (.int .i64 0), .nils, (.int .i64 0), (.int .i64 0), (.int .i64 0), (.int .i64 0), .nils, (.int .i64 0), (.int .i64 0), (.int .i64 0), (.int .i64 0), .nils] [(0, (1, (.t 4))), (1, (5, (.t 6))), (6, (5, (.t 8))), (11, (5, (.t 10))), (16, (5, (.t 12))), (21, (5, (.t 14)))]), none, 0, false, []⟩,
    ⟨none, (.store 26 (.t 2) (.t 15)), none, 0, false, []⟩] false
def a36_2 : AC := .seq a36_1 .ret
def a36_3 : AC := .seq a36_0 a36_2
def af36 : AF := { ntmps := 16, res := [(.cell 2 true 26)], body := a36_3 }
theorem tr36 : trF Try.prog Try.f36 = some af36 := by kernel_rfl
attribute [go_sem] af36 a36_0 a36_1 a36_2 a36_3
def a39_0 : AC := .reg [⟨(some 2), (.box (.t 0)), none, 0, false, []⟩,
    ⟨(some 3), (.box (.t 1)), none, 0, false, []⟩,
    ⟨(some 4), (.mv (.c (.bool false))), none, 0, false, []⟩] false
def a39_1 : AC := .reg [⟨(some 5), (.fad 0 (.t 2)), none, 0, false, []⟩,
    ⟨(some 6), (.load false 1 (.t 5)), none, 0, false, []⟩,
    ⟨(some 7), (.fad 0 (.t 3)), none, 0, false, []⟩,
    ⟨(some 8), (.load false 1 (.t 7)), none, 0, false, []⟩,
    ⟨(some 9), (.bin 0 .eql (.t 6) (.t 8)), none, 0, false, []⟩,
    ⟨(some 10), (.mv (.t 9)), none, 0, false, []⟩,
    ⟨(some 11), (.fad 1 (.t 2)), (some (10, true)), 0, false, []⟩,
    ⟨(some 12), (.load true 5 (.t 11)), (some (10, true)), 0, false, []⟩,
    ⟨(some 13), (.fad 1 (.t 3)), (some (10, true)), 0, false, []⟩,
    ⟨(some 14), (.load true 5 (.t 13)), (some (10, true)), 0, false, []⟩,
    ⟨(some 15), (.call 30 [(.t 12), (.t 14)]), (some (10, true)), 0, false, []⟩,
    ⟨(some 16), (.pick (.t 10) (.t 15) (.c (.bool false))), none, 0, false, []⟩,
    ⟨(some 17), (.mv (.t 16)), none, 0, false, []⟩,
    ⟨(some 18), (.fad 6 (.t 2)), (some (17, true)), 0, false, []⟩,
    ⟨(some 19), (.load true 5 (.t 18)), (some (17, true)), 0, false, []⟩,
    ⟨(some 20), (.fad 6 (.t 3)), (some (17, true)), 0, false, []⟩,
    ⟨(some 21), (.load true 5 (.t 20)), (some (17, true)), 0, false, []⟩,
    ⟨(some 22), (.call 30 [(.t 19), (.t 21)]), (some (17, true)), 0, false, []⟩,
    ⟨(some 23), (.pick (.t 17) (.t 22) (.c (.bool false))), none, 0, false, []⟩,
    ⟨(some 24), (.mv (.t 23)), none, 0, false, []⟩,
    ⟨(some 25), (.fad 11 (.t 2)), (some (24, true)), 0, false, []⟩,
    ⟨(some 26), (.load true 5 (.t 25)), (some (24, true)), 0, false, []⟩,
    ⟨(some 27), (.fad 11 (.t 3)), (some (24, true)), 0, false, []⟩,
    ⟨(some 28), (.load true 5 (.t 27)), (some (24, true)), 0, false, []⟩,
    ⟨(some 29), (.call 30 [(.t 26), (.t 28)]), (some (24, true)), 0, false, []⟩,
    ⟨(some 30), (.pick (.t 24) (.t 29) (.c (.bool false))), none, 0, false, []⟩,
    ⟨(some 31), (.mv (.t 30)), none, 0, false, []⟩,
    ⟨(some 32), (.fad 16 (.t 2)), (some (31, true)), 0, false, []⟩,
    ⟨(some 33), (.load true 5 (.t 32)), (some (31, true)), 0, false, []⟩,
    ⟨(some 34), (.fad 16 (.t 3)), (some (31, true)), 0, false, []⟩,
    ⟨(some 35), (.load true 5 (.t 34)), (some (31, true)), 0, false, []⟩,
    ⟨(some 36), (.call 30 [(.t 33), (.t 35)]), (some (31, true)), 0, false, []⟩,
    ⟨(some 37), (.pick (.t 31) (.t 36) (.c (.bool false))), none, 0, false, []⟩,
    ⟨(some 38), (.mv (.t 37)), none, 0, false, []⟩,
    ⟨(some 39), (.fad 21 (.t 2)), (some (38, true)), 0, false, []⟩,
    ⟨(some 40), (.load true 5 (.t 39)), (some (38, true)), 0, false, []⟩,
    ⟨(some 41), (.fad 21 (.t 3)), (some (38, true)), 0, false, []⟩,
    ⟨(some 42), (.load true 5 (.t 41)), (some (38, true)), 0, false, []⟩,
    ⟨(some 43), (.call 30 [(.t 40), (.t 42)]), (some (38, true)), 0, false, []⟩,
    ⟨(some 44), (.pick (.t 38) (.t 43) (.c (.bool false))), none, 0, false, []⟩,
    ⟨(some 4), (.mv (.t 44)), none, 0, false, []⟩] false
def a39_2 : AC := .seq a39_1 .ret
def a39_3 : AC := .seq a39_0 a39_2
def af39 : AF := { ntmps := 45, res := [(.t 4)], body := a39_3 }
theorem tr39 : trF Try.prog Try.f39 = some af39 := by kernel_rfl
attribute [go_sem] af39 a39_0 a39_1 a39_2 a39_3
def a40_0 : AC := .reg [⟨(some 2), (.box (.t 0)), none, 0, false, []⟩,
    ⟨(some 3), (.box (.t 1)), none, 0, false, []⟩,
    ⟨(some 4), (.new [(.int .i64 0), (.int .i64 0), (.int .i64 0), (.int .i64 0), (.int .i64 0), .nils, (.int .i64 0), (.int .i64 0), (.int .i64 0), (.int .i64 0), .nils, (.int .i64 0), (.int .i64 0), (.int .i64 0), (.int .i64 0), .nils, (.int .i64 0), (.int .i64 0), (.int .i64 0), (.int .i64 0), .nils, (.int .i64 0), (.int .i64 0), (.int .i64 0), (.int .i64 0), .nils]), none, 0, false, []⟩] false
def a40_1 : AC := .reg [⟨(some 6), (.load true 26 (.t 2)), none, 0, false, []⟩,
    ⟨(some 7), (.call 100 [(.t 6)]), none, 0, false, []⟩,
    ⟨(some 8), (.un .not (.t 7)), none, 0, false, []⟩,
    ⟨(some 9), (.mv (.t 8)), none, 0, false, []⟩,
    ⟨(some 10), (.load true 26 (.t 3)), (some (9, false)), 0, false, []⟩,
    ⟨(some 11), (.call 100 [(.t 10)]), (some (9, false)), 0, false, []⟩,
    ⟨(some 12), (.un .not (.t 11)), (some (9, false)), 0, false, []⟩,
    ⟨(some 13), (.pick (.t 9) (.c (.bool true)) (.t 12)), none, 0, false, []⟩,
    ⟨(some 14), (.mv (.t 13)), none, 0, false, []⟩,
    ⟨(some 15), (.fad 0 (.t 2)), (some (14, false)), 0, false, []⟩,
    ⟨(some 16), (.load false 1 (.t 15)), (some (14, false)), 0, false, []⟩,
    ⟨(some 17), (.fad 0 (.t 3)), (some (14, false)), 0, false, []⟩,
    ⟨(some 18), (.load false 1 (.t 17)), (some (14, false)), 0, false, []⟩,
    ⟨(some 19), (.bin 0 .neq (.t 16) (.t 18)), (some (14, false)), 0, false, []⟩,
    ⟨(some 20), (.pick (.t 14) (.c (.bool true)) (.t 19)), none, 0, false, []⟩] false
def a40_2 : AC := .reg [⟨(some 21), (.build [(.int .i64 0), (.int .i64 0), (.int .i64 0), (.int .i64 0), (.int .i64 0), .nils, (.int .i64 0), (.int .i64 0), (.int .i64 0), (.int .i64 0), .nils, (.int .i64 0), (.int .i64 0), (.int .i64 0), (.int .i64 0), .nils, (.int .i64 0), (.int .i64 0), (.int .i64 0), (.int .i64 0), .nils, (.int .i64 0), (.int .i64 0), (.int .i64 0), (.int .i64 0), .nils] []), none, 0, false, []⟩,
    ⟨none, (.store 26 (.t 4) (.t 21)), none, 0, false, []⟩] false
def a40_3 : AC := .seq a40_2 .ret
def a40_4 : AC := .cond (.t 20) a40_3 .skip
def a40_5 : AC := .seq a40_1 a40_4
def a40_6 : AC := .reg [⟨(some 22), (.fad 0 (.t 2)), none, 0, false, []⟩,
    ⟨(some 23), (.load false 1 (.t 22)), none, 0, false, []⟩,
    ⟨(some 5), (.mv (.t 23)), none, 0, false, []⟩] false
def a40_7 : AC := .reg [⟨(some 24), (.mv (.t 5)), none, 0, false, []⟩,
    ⟨(some 25), (.fad 1 (.t 2)), none, 1, false, []⟩,
    ⟨(some 26), (.load true 5 (.t 25)), none, 2, true, []⟩,
    ⟨(some 27), (.fad 6 (.t 3)), none, 3, false, []⟩,
    ⟨(some 28), (.load true 5 (.t 27)), none, 4, true, []⟩,
    ⟨(some 29), (.fad 11 (.t 2)), none, 5, false, []⟩,
    ⟨(some 30), (.load true 5 (.t 29)), none, 6, true, []⟩,
    ⟨(some 31), (.fad 16 (.t 3)), none, 7, false, []⟩,
    ⟨(some 32), (.load true 5 (.t 31)), none, 8, true, []⟩,
    ⟨(some 33), (.mv (.t 5)), none, 9, false, []⟩,
    ⟨(some 34), (.bin 0 .add (.t 33) (.c (.int .i64 1))), none, 10, false, []⟩,
    ⟨(some 35), (.mv (.t 5)), none, 11, false, []⟩,
    ⟨(some 36), (.call 33 [(.t 35)]), none, 12, true, [2, 4, 6, 8]⟩,
    ⟨(some 37), (.mv (.t 5)), none, 13, false, []⟩,
    ⟨(some 38), (.fad 1 (.t 2)), none, 14, false, []⟩,
    ⟨(some 39), (.load true 5 (.t 38)), none, 15, false, [12]⟩,
    ⟨(some 40), (.fad 11 (.t 2)), none, 16, false, []⟩,
    ⟨(some 41), (.load true 5 (.t 40)), none, 17, false, [12]⟩,
    ⟨(some 42), (.call 91 [(.t 37), (.t 39), (.t 41)]), none, 18, true, [2, 4, 6, 8]⟩,
    ⟨(some 43), (.mv (.t 5)), none, 19, false, []⟩,
    ⟨(some 44), (.fad 6 (.t 2)), none, 20, false, []⟩,
    ⟨(some 45), (.load true 5 (.t 44)), none, 21, false, [12, 18]⟩,
    ⟨(some 46), (.fad 16 (.t 2)), none, 22, false, []⟩,
    ⟨(some 47), (.load true 5 (.t 46)), none, 23, false, [12, 18]⟩,
    ⟨(some 48), (.call 91 [(.t 43), (.t 45), (.t 47)]), none, 24, true, [2, 4, 6, 8]⟩,
    ⟨(some 49), (.mv (.t 5)), none, 25, false, []⟩,
    ⟨(some 50), (.fad 6 (.t 3)), none, 26, false, []⟩,
    ⟨(some 51), (.load true 5 (.t 50)), none, 27, false, [12, 18, 24]⟩,
    ⟨(some 52), (.fad 16 (.t 3)), none, 28, false, []⟩,
    ⟨(some 53), (.load true 5 (.t 52)), none, 29, false, [12, 18, 24]⟩,
    ⟨(some 54), (.call 91 [(.t 49), (.t 51), (.t 53)]), none, 30, true, [2, 4, 6, 8]⟩,
    ⟨(some 55), (.fad 21 (.t 2)), none, 31, false, []⟩,
    ⟨(some 56), (.load true 5 (.t 55)), none, 32, false, [12, 18, 24, 30]⟩,
    ⟨(some 57), (.fad 21 (.t 3)), none, 33, false, []⟩,
    ⟨(some 58), (.load true 5 (.t 57)), none, 34, false, [12, 18, 24, 30]⟩,
    ⟨(some 59), (.bslice 5 [(.t 36), (.t 42), (.t 48), (.t 54), (.t 56), (.t 58)]), none, 35, false, [2, 4, 6, 8]⟩,
    ⟨(some 60), (.call 97 [(.c (.int .i64 23)), (.t 34), (.c (.int .i64 0)), (.c (.int .i64 4)), (.t 59)]), none, 36, false, [2, 4, 6, 8]⟩,
    ⟨(some 61), (.call 104 [(.t 24), (.t 26), (.t 28), (.t 30), (.t 32), (.t 60)]), none, 37, false, []⟩,
    ⟨none, (.store 26 (.t 4) (.t 61)), none, 38, false, []⟩] true
def a40_8 : AC := .seq a40_7 .ret
def a40_9 : AC := .seq a40_6 a40_8
def a40_10 : AC := .seq a40_5 a40_9
def a40_11 : AC := .seq a40_0 a40_10
def af40 : AF := { ntmps := 62, res := [(.cell 4 true 26)], body := a40_11 }
theorem tr40 : trF Try.prog Try.f40 = some af40 := by kernel_rfl
attribute [go_sem] af40 a40_0 a40_1 a40_2 a40_3 a40_4 a40_5 a40_6 a40_7 a40_8 a40_9 a40_10 a40_11
def a43_0 : AC := .reg [⟨(some 4), (.mv (.c (.bool false))), none, 0, false, []⟩] false
def a43_1 : AC := .reg [⟨(some 7), (.mv (.t 0)), none, 0, false, []⟩,
    ⟨(some 8), (.len false (.t 7)), none, 0, false, []⟩,
    ⟨(some 9), (.mv (.t 1)), none, 0, false, []⟩,
    ⟨(some 10), (.bin 0 .gtr (.t 8) (.t 9)), none, 0, false, []⟩] false
def a43_2 : AC := .reg [⟨(some 4), (.mv (.c (.bool true))), none, 0, false, []⟩] false
def a43_3 : AC := .seq a43_2 .ret
def a43_4 : AC := .cond (.t 10) a43_3 .skip
def a43_5 : AC := .seq a43_1 a43_4
def a43_6 : AC := .reg [⟨(some 5), (.mv (.c (.int .i64 0))), none, 0, false, []⟩] false
def a43_7 : AC := .reg [⟨(some 6), (.mv (.c (.int .i64 0))), none, 0, false, []⟩] false
def a43_8 : AC := .reg [⟨(some 11), (.mv (.t 6)), none, 0, false, []⟩,
    ⟨(some 12), (.mv (.t 0)), none, 0, false, []⟩,
    ⟨(some 13), (.len false (.t 12)), none, 0, false, []⟩,
    ⟨(some 14), (.bin 0 .lss (.t 11) (.t 13)), none, 0, false, []⟩,
    ⟨(some 15), (.mv (.t 14)), none, 0, false, []⟩,
    ⟨(some 16), (.mv (.t 5)), (some (15, true)), 0, false, []⟩,
    ⟨(some 17), (.mv (.t 1)), (some (15, true)), 0, false, []⟩,
    ⟨(some 18), (.bin 0 .leq (.t 16) (.t 17)), (some (15, true)), 0, false, []⟩,
    ⟨(some 19), (.pick (.t 15) (.t 18) (.c (.bool false))), none, 0, false, []⟩] false
def a43_9 : AC := .cond (.t 19) .skip (.exit 0)
def a43_10 : AC := .seq a43_8 a43_9
def a43_11 : AC := .reg [⟨(some 22), (.mv (.t 5)), none, 0, false, []⟩,
    ⟨(some 23), (.mv (.t 0)), none, 0, false, []⟩,
    ⟨(some 24), (.mv (.t 6)), none, 0, false, []⟩,
    ⟨(some 25), (.iad 5 (.t 23) (.t 24)), none, 0, false, []⟩,
    ⟨(some 26), (.load true 5 (.t 25)), none, 0, false, []⟩,
    ⟨(some 27), (.mv (.t 1)), none, 0, false, []⟩,
    ⟨(some 28), (.mv (.t 5)), none, 0, false, []⟩,
    ⟨(some 29), (.bin 0 .sub (.t 27) (.t 28)), none, 0, false, []⟩,
    ⟨(some 30), (.call 86 [(.t 26), (.t 29), (.c (.int .i64 200))]), none, 0, false, []⟩,
    ⟨(some 31), (.bin 0 .add (.t 22) (.t 30)), none, 0, false, []⟩,
    ⟨(some 5), (.mv (.t 31)), none, 0, false, []⟩] false
def a43_12 : AC := .blk 1 a43_11
def a43_13 : AC := .reg [⟨(some 20), (.mv (.t 6)), none, 0, false, []⟩,
    ⟨(some 21), (.bin 0 .add (.t 20) (.c (.int .i64 1))), none, 0, false, []⟩,
    ⟨(some 6), (.mv (.t 21)), none, 0, false, []⟩] false
def a43_14 : AC := .seq a43_12 a43_13
def a43_15 : AC := .seq a43_10 a43_14
def a43_16 : AC := .loop a43_15
def a43_17 : AC := .blk 0 a43_16
def a43_18 : AC := .seq a43_7 a43_17
def a43_19 : AC := .reg [⟨(some 32), (.mv (.t 5)), none, 0, false, []⟩,
    ⟨(some 33), (.mv (.t 1)), none, 0, false, []⟩,
    ⟨(some 34), (.bin 0 .gtr (.t 32) (.t 33)), none, 0, false, []⟩,
    ⟨(some 4), (.mv (.t 34)), none, 0, false, []⟩] false
def a43_20 : AC := .seq a43_19 .ret
def a43_21 : AC := .seq a43_18 a43_20
def a43_22 : AC := .seq a43_6 a43_21
def a43_23 : AC := .seq a43_5 a43_22
def a43_24 : AC := .seq a43_0 a43_23
def af43 : AF := { ntmps := 35, res := [(.t 4)], body := a43_24 }
theorem tr43 : trF Try.prog Try.f43 = some af43 := by kernel_rfl
attribute [go_sem] af43 a43_0 a43_1 a43_2 a43_3 a43_4 a43_5 a43_6 a43_7 a43_8 a43_9 a43_10 a43_11 a43_12 a43_13 a43_14 a43_15 a43_16 a43_17 a43_18 a43_19 a43_20 a43_21 a43_22 a43_23 a43_24
def a86_0 : AC := .reg [⟨(some 3), (.box (.t 0)), none, 0, false, []⟩,
    ⟨(some 6), (.mv (.c (.int .i64 0))), none, 0, false, []⟩] false
def a86_1 : AC := .reg [⟨(some 9), (.mv (.t 2)), none, 0, false, []⟩,
    ⟨(some 10), (.bin 0 .lss (.t 9) (.c (.int .i64 0))), none, 0, false, []⟩] false
def a86_2 : AC := .reg [⟨(some 11), (.mv (.t 1)), none, 0, false, []⟩,
    ⟨(some 12), (.bin 0 .add (.t 11) (.c (.int .i64 1))), none, 0, false, []⟩,
    ⟨(some 6), (.mv (.t 12)), none, 0, false, []⟩] false
def a86_3 : AC := .seq a86_2 .ret
def a86_4 : AC := .cond (.t 10) a86_3 .skip
def a86_5 : AC := .seq a86_1 a86_4
def a86_6 : AC := .reg [⟨(some 7), (.mv (.c (.int .i64 1))), none, 0, false, []⟩] false
def a86_7 : AC := .reg [⟨(some 8), (.mv (.c (.int .i64 0))), none, 0, false, []⟩] false
def a86_8 : AC := .reg [⟨(some 13), (.mv (.t 8)), none, 0, false, []⟩,
    ⟨(some 14), (.fad 4 (.t 3)), none, 0, false, []⟩,
    ⟨(some 15), (.load false 1 (.t 14)), none, 0, false, []⟩,
    ⟨(some 16), (.len false (.t 15)), none, 0, false, []⟩,
    ⟨(some 17), (.bin 0 .lss (.t 13) (.t 16)), none, 0, false, []⟩,
    ⟨(some 18), (.mv (.t 17)), none, 0, false, []⟩,
    ⟨(some 19), (.mv (.t 7)), (some (18, true)), 0, false, []⟩,
    ⟨(some 20), (.mv (.t 1)), (some (18, true)), 0, false, []⟩,
    ⟨(some 21), (.bin 0 .leq (.t 19) (.t 20)), (some (18, true)), 0, false, []⟩,
    ⟨(some 22), (.pick (.t 18) (.t 21) (.c (.bool false))), none, 0, false, []⟩] false
def a86_9 : AC := .cond (.t 22) .skip (.exit 0)
def a86_10 : AC := .seq a86_8 a86_9
def a86_11 : AC := .reg [⟨(some 25), (.mv (.t 7)), none, 0, false, []⟩,
    ⟨(some 26), (.fad 4 (.t 3)), none, 0, false, []⟩,
    ⟨(some 27), (.load false 1 (.t 26)), none, 0, false, []⟩,
    ⟨(some 28), (.mv (.t 8)), none, 0, false, []⟩,
    ⟨(some 29), (.iad 5 (.t 27) (.t 28)), none, 0, false, []⟩,
    ⟨(some 30), (.load true 5 (.t 29)), none, 0, false, []⟩,
    ⟨(some 31), (.mv (.t 1)), none, 0, false, []⟩,
    ⟨(some 32), (.mv (.t 7)), none, 0, false, []⟩,
    ⟨(some 33), (.bin 0 .sub (.t 31) (.t 32)), none, 0, false, []⟩,
    ⟨(some 34), (.mv (.t 2)), none, 0, false, []⟩,
    ⟨(some 35), (.bin 0 .sub (.t 34) (.c (.int .i64 1))), none, 0, false, []⟩,
    ⟨(some 36), (.call 86 [(.t 30), (.t 33), (.t 35)]), none, 0, false, []⟩,
    ⟨(some 37), (.bin 0 .add (.t 25) (.t 36)), none, 0, false, []⟩,
    ⟨(some 7), (.mv (.t 37)), none, 0, false, []⟩] false
def a86_12 : AC := .blk 1 a86_11
def a86_13 : AC := .reg [⟨(some 23), (.mv (.t 8)), none, 0, false, []⟩,
    ⟨(some 24), (.bin 0 .add (.t 23) (.c (.int .i64 1))), none, 0, false, []⟩,
    ⟨(some 8), (.mv (.t 24)), none, 0, false, []⟩] false
def a86_14 : AC := .seq a86_12 a86_13
def a86_15 : AC := .seq a86_10 a86_14
def a86_16 : AC := .loop a86_15
def a86_17 : AC := .blk 0 a86_16
def a86_18 : AC := .seq a86_7 a86_17
def a86_19 : AC := .reg [⟨(some 38), (.mv (.t 7)), none, 0, false, []⟩,
    ⟨(some 6), (.mv (.t 38)), none, 0, false, []⟩] false
def a86_20 : AC := .seq a86_19 .ret
def a86_21 : AC := .seq a86_18 a86_20
def a86_22 : AC := .seq a86_6 a86_21
def a86_23 : AC := .seq a86_5 a86_22
def a86_24 : AC := .seq a86_0 a86_23
def af86 : AF := { ntmps := 39, res := [(.t 6)], body := a86_24 }
theorem tr86 : trF Try.prog Try.f86 = some af86 := by kernel_rfl
attribute [go_sem] af86 a86_0 a86_1 a86_2 a86_3 a86_4 a86_5 a86_6 a86_7 a86_8 a86_9 a86_10 a86_11 a86_12 a86_13 a86_14 a86_15 a86_16 a86_17 a86_18 a86_19 a86_20 a86_21 a86_22 a86_23 a86_24
def a28_0 : AC := .reg [⟨(some 2), (.box (.t 0)), none, 0, false, []⟩,
    ⟨(some 4), (.mv (.c (.bool false))), none, 0, false, []⟩] false
def a28_1 : AC := .reg [⟨(some 5), (.load true 5 (.t 2)), none, 0, false, []⟩,
    ⟨(some 6), (.mv (.t 1)), none, 0, false, []⟩,
    ⟨(some 7), (.call 86 [(.t 5), (.t 6), (.c (.int .i64 200))]), none, 0, false, []⟩,
    ⟨(some 8), (.mv (.t 1)), none, 0, false, []⟩,
    ⟨(some 9), (.bin 0 .gtr (.t 7) (.t 8)), none, 0, false, []⟩,
    ⟨(some 4), (.mv (.t 9)), none, 0, false, []⟩] false
def a28_2 : AC := .seq a28_1 .ret
def a28_3 : AC := .seq a28_0 a28_2
def af28 : AF := { ntmps := 10, res := [(.t 4)], body := a28_3 }
theorem tr28 : trF Try.prog Try.f28 = some af28 := by kernel_rfl
attribute [go_sem] af28 a28_0 a28_1 a28_2 a28_3
def a30_0 : AC := .reg [⟨(some 2), (.box (.t 0)), none, 0, false, []⟩,
    ⟨(some 3), (.box (.t 1)), none, 0, false, []⟩,
    ⟨(some 4), (.mv (.c (.bool false))), none, 0, false, []⟩] false
def a30_1 : AC := .reg [⟨(some 5), (.fad 0 (.t 2)), none, 0, false, []⟩,
    ⟨(some 6), (.load false 1 (.t 5)), none, 0, false, []⟩,
    ⟨(some 7), (.fad 0 (.t 3)), none, 0, false, []⟩,
    ⟨(some 8), (.load false 1 (.t 7)), none, 0, false, []⟩,
    ⟨(some 9), (.bin 0 .eql (.t 6) (.t 8)), none, 0, false, []⟩,
    ⟨(some 10), (.mv (.t 9)), none, 0, false, []⟩,
    ⟨(some 11), (.fad 1 (.t 2)), (some (10, true)), 0, false, []⟩,
    ⟨(some 12), (.load false 1 (.t 11)), (some (10, true)), 0, false, []⟩,
    ⟨(some 13), (.fad 1 (.t 3)), (some (10, true)), 0, false, []⟩,
    ⟨(some 14), (.load false 1 (.t 13)), (some (10, true)), 0, false, []⟩,
    ⟨(some 15), (.bin 0 .eql (.t 12) (.t 14)), (some (10, true)), 0, false, []⟩,
    ⟨(some 16), (.pick (.t 10) (.t 15) (.c (.bool false))), none, 0, false, []⟩,
    ⟨(some 17), (.mv (.t 16)), none, 0, false, []⟩,
    ⟨(some 18), (.fad 2 (.t 2)), (some (17, true)), 0, false, []⟩,
    ⟨(some 19), (.load false 1 (.t 18)), (some (17, true)), 0, false, []⟩,
    ⟨(some 20), (.fad 2 (.t 3)), (some (17, true)), 0, false, []⟩,
    ⟨(some 21), (.load false 1 (.t 20)), (some (17, true)), 0, false, []⟩,
    ⟨(some 22), (.bin 0 .eql (.t 19) (.t 21)), (some (17, true)), 0, false, []⟩,
    ⟨(some 23), (.pick (.t 17) (.t 22) (.c (.bool false))), none, 0, false, []⟩,
    ⟨(some 24), (.mv (.t 23)), none, 0, false, []⟩,
    ⟨(some 25), (.fad 3 (.t 2)), (some (24, true)), 0, false, []⟩,
    ⟨(some 26), (.load false 1 (.t 25)), (some (24, true)), 0, false, []⟩,
    ⟨(some 27), (.fad 3 (.t 3)), (some (24, true)), 0, false, []⟩,
    ⟨(some 28), (.load false 1 (.t 27)), (some (24, true)), 0, false, []⟩,
    ⟨(some 29), (.bin 0 .eql (.t 26) (.t 28)), (some (24, true)), 0, false, []⟩,
    ⟨(some 30), (.pick (.t 24) (.t 29) (.c (.bool false))), none, 0, false, []⟩,
    ⟨(some 31), (.mv (.t 30)), none, 0, false, []⟩,
    ⟨(some 32), (.fad 4 (.t 2)), (some (31, true)), 0, false, []⟩,
    ⟨(some 33), (.load false 1 (.t 32)), (some (31, true)), 0, false, []⟩,
    ⟨(some 34), (.fad 4 (.t 3)), (some (31, true)), 0, false, []⟩,
    ⟨(some 35), (.load false 1 (.t 34)), (some (31, true)), 0, false, []⟩,
    ⟨(some 36), (.call 87 [(.t 33), (.t 35)]), (some (31, true)), 0, false, []⟩,
    ⟨(some 37), (.pick (.t 31) (.t 36) (.c (.bool false))), none, 0, false, []⟩,
    ⟨(some 4), (.mv (.t 37)), none, 0, false, []⟩] false
def a30_2 : AC := .seq a30_1 .ret
def a30_3 : AC := .seq a30_0 a30_2
def af30 : AF := { ntmps := 38, res := [(.t 4)], body := a30_3 }
theorem tr30 : trF Try.prog Try.f30 = some af30 := by kernel_rfl
attribute [go_sem] af30 a30_0 a30_1 a30_2 a30_3
def a87_0 : AC := .reg [⟨(some 4), (.mv (.c (.bool false))), none, 0, false, []⟩] false
def a87_1 : AC := .reg [⟨(some 6), (.mv (.t 0)), none, 0, false, []⟩,
    ⟨(some 7), (.len false (.t 6)), none, 0, false, []⟩,
    ⟨(some 8), (.mv (.t 1)), none, 0, false, []⟩,
    ⟨(some 9), (.len false (.t 8)), none, 0, false, []⟩,
    ⟨(some 10), (.bin 0 .neq (.t 7) (.t 9)), none, 0, false, []⟩] false
def a87_2 : AC := .reg [⟨(some 4), (.mv (.c (.bool false))), none, 0, false, []⟩] false
def a87_3 : AC := .seq a87_2 .ret
def a87_4 : AC := .cond (.t 10) a87_3 .skip
def a87_5 : AC := .seq a87_1 a87_4
def a87_6 : AC := .reg [⟨(some 5), (.mv (.c (.int .i64 0))), none, 0, false, []⟩] false
def a87_7 : AC := .reg [⟨(some 11), (.mv (.t 5)), none, 0, false, []⟩,
    ⟨(some 12), (.mv (.t 0)), none, 0, false, []⟩,
    ⟨(some 13), (.len false (.t 12)), none, 0, false, []⟩,
    ⟨(some 14), (.bin 0 .lss (.t 11) (.t 13)), none, 0, false, []⟩] false
def a87_8 : AC := .cond (.t 14) .skip (.exit 0)
def a87_9 : AC := .seq a87_7 a87_8
def a87_10 : AC := .reg [⟨(some 17), (.mv (.t 0)), none, 0, false, []⟩,
    ⟨(some 18), (.mv (.t 5)), none, 1, false, []⟩,
    ⟨(some 19), (.iad 5 (.t 17) (.t 18)), none, 2, false, []⟩,
    ⟨(some 20), (.load true 5 (.t 19)), none, 3, false, []⟩,
    ⟨(some 21), (.mv (.t 1)), none, 4, false, []⟩,
    ⟨(some 22), (.mv (.t 5)), none, 5, false, []⟩,
    ⟨(some 23), (.iad 5 (.t 21) (.t 22)), none, 6, false, []⟩,
    ⟨(some 24), (.load true 5 (.t 23)), none, 7, false, []⟩,
    ⟨(some 25), (.call 30 [(.t 20), (.t 24)]), none, 8, false, []⟩,
    ⟨(some 26), (.un .not (.t 25)), none, 9, false, []⟩] true
def a87_11 : AC := .reg [⟨(some 4), (.mv (.c (.bool false))), none, 0, false, []⟩] false
def a87_12 : AC := .seq a87_11 .ret
def a87_13 : AC := .cond (.t 26) a87_12 .skip
def a87_14 : AC := .seq a87_10 a87_13
def a87_15 : AC := .blk 1 a87_14
def a87_16 : AC := .reg [⟨(some 15), (.mv (.t 5)), none, 0, false, []⟩,
    ⟨(some 16), (.bin 0 .add (.t 15) (.c (.int .i64 1))), none, 0, false, []⟩,
    ⟨(some 5), (.mv (.t 16)), none, 0, false, []⟩] false
def a87_17 : AC := .seq a87_15 a87_16
def a87_18 : AC := .seq a87_9 a87_17
def a87_19 : AC := .loop a87_18
def a87_20 : AC := .blk 0 a87_19
def a87_21 : AC := .seq a87_6 a87_20
def a87_22 : AC := .reg [⟨(some 4), (.mv (.c (.bool true))), none, 0, false, []⟩] false
def a87_23 : AC := .seq a87_22 .ret
def a87_24 : AC := .seq a87_21 a87_23
def a87_25 : AC := .seq a87_5 a87_24
def a87_26 : AC := .seq a87_0 a87_25
def af87 : AF := { ntmps := 27, res := [(.t 4)], body := a87_26 }
theorem tr87 : trF Try.prog Try.f87 = some af87 := by kernel_rfl
attribute [go_sem] af87 a87_0 a87_1 a87_2 a87_3 a87_4 a87_5 a87_6 a87_7 a87_8 a87_9 a87_10 a87_11 a87_12 a87_13 a87_14 a87_15 a87_16 a87_17 a87_18 a87_19 a87_20 a87_21 a87_22 a87_23 a87_24 a87_25 a87_26
def a103_0 : AC := .reg [⟨(some 2), (.new [(.int .i64 0), (.int .i64 0), (.int .i64 0), (.int .i64 0), .nils]), none, 0, false, []⟩] false
def a103_1 : AC := .reg [⟨(some 3), (.mv (.t 0)), none, 0, false, []⟩,
    ⟨(some 4), (.build [(.int .i64 0), (.int .i64 0), (.int .i64 0), (.int .i64 0), .nils] [(0, (1, (.c (.int .i64 2)))), (1, (1, (.t 3)))]), none, 0, false, []⟩,
    ⟨none, (.store 5 (.t 2) (.t 4)), none, 0, false, []⟩] false
def a103_2 : AC := .seq a103_1 .ret
def a103_3 : AC := .seq a103_0 a103_2
def af103 : AF := { ntmps := 5, res := [(.cell 2 true 5)], body := a103_3 }
theorem tr103 : trF Try.prog Try.f103 = some af103 := by kernel_rfl
attribute [go_sem] af103 a103_0 a103_1 a103_2 a103_3
end Go.Proofs.Ytadmdmhocglkfaa.Abs
