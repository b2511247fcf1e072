/-
  The texts of the functions that are walked, each held against the program; no condition.
-/
import Derived.Test.YtlpapgmbknkmaaaProg
import Derived.Test.YtlpapgmbknkmaaaPure
set_option linter.unusedSimpArgs false
set_option linter.unusedVariables false
set_option maxRecDepth 100000
set_option maxHeartbeats 2000000
namespace Go.Eng
open Go Go.Proofs
/-! loop.example/g00360/laws.FnExactReadMsg -/
def r7_0 : XL := .op ⟨(some 2), none, .asg (.c ⟨.one, [.bool false]⟩) false, [2, 2]⟩ <|
  .nil
def r7_1 : XL := .op ⟨(some 11), none, .mv (.s 0), []⟩ <|
  .op ⟨(some 12), none, .len true (.s 11), []⟩ <|
  .op ⟨(some 13), none, .bin .gtr (.s 12) (.c ⟨.one, [.int .i64 1048576]⟩), [11, 12]⟩ <|
  .nil
def r7_2 : XL := .op ⟨(some 2), none, .asg (.c ⟨.one, [.bool true]⟩) false, [0, 0, 13, 13]⟩ <|
  .nil
def r7_3 : XL := .op ⟨(some 15), none, .mv (.s 0), []⟩ <|
  .op ⟨(some 16), none, .call 24 [(false, .s 15)] [], []⟩ <|
  .op ⟨(some 14), none, .mv (.s 16), []⟩ <|
  .op ⟨(some 17), none, .ext 0 (.s 14), []⟩ <|
  .op ⟨(some 18), none, .ext 1 (.s 14), []⟩ <|
  .op ⟨(some 3), none, .alloc [.int .i64 0, .int .i64 0, .int .i64 0, .int .i64 0, .int .i64 0, .int .i64 0, .int .i64 0, .bool false, .own 2 [], .str ⟨#[]⟩], []⟩ <|
  .op ⟨none, none, .store 10 (.s 3) (.s 17) true, [2, 2, 13, 17]⟩ <|
  .op ⟨(some 4), none, .asg (.s 18) true, [18, 18]⟩ <|
  .nil
def r7_4 : XL := .op ⟨(some 20), none, .mv (.s 0), []⟩ <|
  .op ⟨(some 21), none, .call 25 [(false, .s 20)] [], []⟩ <|
  .op ⟨(some 19), none, .mv (.s 21), []⟩ <|
  .op ⟨(some 22), none, .ext 0 (.s 19), []⟩ <|
  .op ⟨(some 23), none, .ext 1 (.s 19), []⟩ <|
  .op ⟨(some 5), none, .alloc [.int .i64 0, .int .i64 0, .int .i64 0, .int .i64 0, .int .i64 0, .int .i64 0, .int .i64 0, .bool false, .own 2 [], .str ⟨#[]⟩], []⟩ <|
  .op ⟨none, none, .store 10 (.s 5) (.s 22) true, []⟩ <|
  .op ⟨(some 6), none, .asg (.s 23) true, [19, 23]⟩ <|
  .nil
def r7_5 : XL := .op ⟨(some 24), none, .load true 10 (.s 5), []⟩ <|
  .op ⟨(some 25), none, .load true 10 (.s 3), []⟩ <|
  .op ⟨(some 26), none, .call 16 [(false, .s 24), (false, .s 25)] [], []⟩ <|
  .op ⟨(some 27), none, .un .not (.s 26), []⟩ <|
  .op ⟨(some 28), none, .mv (.s 27), []⟩ <|
  .sc 28 false (.op ⟨(some 29), (some (28, false)), .mv (.s 6), []⟩ <|
  .op ⟨(some 30), (some (28, false)), .mv (.s 4), []⟩ <|
  .op ⟨(some 31), (some (28, false)), .binB true (.s 29) (.s 30), []⟩ <|
  .nil) [29, 30, 31] 32 none (.s 28) (.s 31) [6, 28] <|
  .nil
def r7_6 : XL := .op ⟨(some 2), none, .asg (.c ⟨.one, [.bool false]⟩) false, [0, 0, 3, 32]⟩ <|
  .nil
def r7_7 : XL := .op ⟨(some 7), none, .asg (.c ⟨.one, [.int .i64 1]⟩) false, [2, 2, 32, 32]⟩ <|
  .nil
def r7_8 : XL := .op ⟨(some 33), none, .load true 10 (.s 5), []⟩ <|
  .op ⟨(some 34), none, .mv (.s 7), []⟩ <|
  .op ⟨(some 35), none, .call 26 [(true, .s 33), (false, .s 34)] [], []⟩ <|
  .op ⟨(some 7), none, .asg (.s 35) false, [33, 35]⟩ <|
  .nil
def r7_9 : XL := .op ⟨(some 8), none, .asg (.c ⟨.one, [.int .i64 1]⟩) false, []⟩ <|
  .nil
def r7_10 : XL := .op ⟨(some 36), none, .load true 10 (.s 5), []⟩ <|
  .op ⟨(some 37), none, .mv (.s 8), []⟩ <|
  .op ⟨(some 38), none, .call 27 [(false, .s 36), (false, .s 37)] [], []⟩ <|
  .op ⟨(some 8), none, .asg (.s 38) false, [36, 38]⟩ <|
  .nil
def r7_11 : XL := .op ⟨(some 39), none, .mv (.s 8), []⟩ <|
  .op ⟨(some 40), none, .bin .lss (.s 39) (.c ⟨.one, [.int .i64 0]⟩), [39, 39]⟩ <|
  .nil
def r7_12 : XL := .op ⟨(some 2), none, .asg (.c ⟨.one, [.bool false]⟩) false, [0, 0, 3, 40]⟩ <|
  .nil
def r7_13 : XL := .op ⟨(some 41), none, .mv (.s 8), []⟩ <|
  .op ⟨(some 42), none, .mv (.s 7), []⟩ <|
  .op ⟨(some 43), none, .bin .neq (.s 41) (.s 42), [2, 2, 8, 42]⟩ <|
  .nil
def r7_14 : XL := .op ⟨(some 2), none, .asg (.c ⟨.one, [.bool false]⟩) false, [0, 0, 3, 43]⟩ <|
  .nil
def r7_15 : XL := .op ⟨(some 45), none, .mv (.s 0), []⟩ <|
  .op ⟨(some 46), none, .call 25 [(false, .s 45)] [], []⟩ <|
  .op ⟨(some 44), none, .mv (.s 46), []⟩ <|
  .op ⟨(some 47), none, .ext 0 (.s 44), []⟩ <|
  .op ⟨(some 48), none, .ext 1 (.s 44), []⟩ <|
  .op ⟨(some 9), none, .alloc [.int .i64 0, .int .i64 0, .int .i64 0, .int .i64 0, .int .i64 0, .int .i64 0, .int .i64 0, .bool false, .own 2 [], .str ⟨#[]⟩], []⟩ <|
  .op ⟨none, none, .store 10 (.s 9) (.s 47) true, [0, 2, 43, 47]⟩ <|
  .op ⟨(some 10), none, .asg (.s 48) true, [48, 48]⟩ <|
  .nil
def r7_16 : XL := .op ⟨(some 49), none, .load true 10 (.s 9), []⟩ <|
  .op ⟨(some 50), none, .load true 10 (.s 3), []⟩ <|
  .op ⟨(some 51), none, .call 16 [(false, .s 49), (false, .s 50)] [], []⟩ <|
  .op ⟨(some 52), none, .un .not (.s 51), []⟩ <|
  .op ⟨(some 53), none, .mv (.s 52), [3, 3, 9, 9, 49, 52]⟩ <|
  .sc 53 false (.op ⟨(some 54), (some (53, false)), .mv (.s 10), []⟩ <|
  .op ⟨(some 55), (some (53, false)), .mv (.s 4), []⟩ <|
  .op ⟨(some 56), (some (53, false)), .binB true (.s 54) (.s 55), []⟩ <|
  .nil) [54, 55, 56] 57 none (.s 53) (.s 56) [4, 4, 10, 53] <|
  .nil
def r7_17 : XL := .op ⟨(some 2), none, .asg (.c ⟨.one, [.bool false]⟩) false, [5, 57]⟩ <|
  .nil
def r7_18 : XL := .op ⟨(some 8), none, .asg (.c ⟨.one, [.int .i64 1]⟩) false, [2, 2, 57, 57]⟩ <|
  .nil
def r7_19 : XL := .op ⟨(some 58), none, .load true 10 (.s 5), []⟩ <|
  .op ⟨(some 59), none, .mv (.s 8), []⟩ <|
  .op ⟨(some 60), none, .call 27 [(false, .s 58), (false, .s 59)] [], []⟩ <|
  .op ⟨(some 8), none, .asg (.s 60) false, [5, 5, 58, 60]⟩ <|
  .nil
def r7_20 : XL := .op ⟨(some 61), none, .mv (.s 8), []⟩ <|
  .op ⟨(some 62), none, .bin .lss (.s 61) (.c ⟨.one, [.int .i64 0]⟩), [61, 61]⟩ <|
  .nil
def r7_21 : XL := .op ⟨(some 2), none, .asg (.c ⟨.one, [.bool false]⟩) false, [7, 62]⟩ <|
  .nil
def r7_22 : XL := .op ⟨(some 63), none, .mv (.s 8), []⟩ <|
  .op ⟨(some 64), none, .mv (.s 7), []⟩ <|
  .op ⟨(some 65), none, .bin .neq (.s 63) (.s 64), [2, 64]⟩ <|
  .nil
def r7_23 : XL := .op ⟨(some 2), none, .asg (.c ⟨.one, [.bool false]⟩) false, [65, 65]⟩ <|
  .nil
def r7_24 : XL := .op ⟨(some 2), none, .asg (.c ⟨.one, [.bool true]⟩) false, [65, 65]⟩ <|
  .nil
def x7 : XCode := .seq (.ops r7_0) (.seq (.seq (.ops r7_1) (.cond (.s 13) (.seq (.ops r7_2) (.ret)) (.skip))) (.seq (.ops r7_3) (.seq (.ops r7_4) (.seq (.seq (.ops r7_5) (.cond (.s 32) (.seq (.ops r7_6) (.ret)) (.skip))) (.seq (.ops r7_7) (.seq (.ops r7_8) (.seq (.ops r7_9) (.seq (.ops r7_10) (.seq (.seq (.ops r7_11) (.cond (.s 40) (.seq (.ops r7_12) (.ret)) (.skip))) (.seq (.seq (.ops r7_13) (.cond (.s 43) (.seq (.ops r7_14) (.ret)) (.skip))) (.seq (.ops r7_15) (.seq (.seq (.ops r7_16) (.cond (.s 57) (.seq (.ops r7_17) (.ret)) (.skip))) (.seq (.ops r7_18) (.seq (.ops r7_19) (.seq (.seq (.ops r7_20) (.cond (.s 62) (.seq (.ops r7_21) (.ret)) (.skip))) (.seq (.seq (.ops r7_22) (.cond (.s 65) (.seq (.ops r7_23) (.ret)) (.skip))) (.seq (.ops r7_24) (.ret))))))))))))))))))
theorem m7 : mFun Try.prog Try.f7 x7 [.tmp 2] 1 = true := by kernel_rfl
theorem k7 : Callable Try.prog 7 := callable_of (by kernel_rfl)

/-! loop.example/g00360/spec.MsgOk -/
def r13_0 : XL := .op ⟨(some 1), none, .box (.s 0) false, []⟩ <|
  .op ⟨(some 2), none, .asg (.c ⟨.one, [.bool false]⟩) false, [0, 0, 2, 2]⟩ <|
  .nil
def r13_1 : XL := .op ⟨(some 13), none, .fad 0 (.s 1), []⟩ <|
  .op ⟨(some 14), none, .load false 1 (.s 13), []⟩ <|
  .op ⟨(some 15), none, .fad 1 (.s 1), []⟩ <|
  .op ⟨(some 16), none, .load false 1 (.s 15), []⟩ <|
  .op ⟨(some 17), none, .fad 2 (.s 1), []⟩ <|
  .op ⟨(some 18), none, .load false 1 (.s 17), []⟩ <|
  .op ⟨(some 19), none, .build [.int .i64 0, .int .i64 0, .int .i64 0, .int .i64 0, .int .i64 0, .int .i64 0, .int .i64 0, .bool false, .own 2 [], .str ⟨#[]⟩] [(0, 1, .s 14), (1, 1, .s 16), (2, 1, .s 18)], []⟩ <|
  .op ⟨(some 3), none, .alloc [.int .i64 0, .int .i64 0, .int .i64 0, .int .i64 0, .int .i64 0, .int .i64 0, .int .i64 0, .bool false, .own 2 [], .str ⟨#[]⟩], []⟩ <|
  .op ⟨none, none, .store 10 (.s 3) (.s 19) false, [13, 19]⟩ <|
  .nil
def r13_2 : XL := .op ⟨(some 20), none, .fad 1 (.s 1), []⟩ <|
  .op ⟨(some 21), none, .load false 1 (.s 20), []⟩ <|
  .op ⟨(some 22), none, .call 34 [(false, .s 21)] [], []⟩ <|
  .op ⟨(some 23), none, .mv (.s 22), []⟩ <|
  .sc 23 true (.op ⟨(some 24), (some (23, true)), .fad 2 (.s 1), []⟩ <|
  .op ⟨(some 25), (some (23, true)), .load false 1 (.s 24), []⟩ <|
  .op ⟨(some 26), (some (23, true)), .call 34 [(false, .s 25)] [], []⟩ <|
  .nil) [24, 25, 26] 27 none (.s 23) (.s 26) [] <|
  .op ⟨(some 28), none, .mv (.s 27), []⟩ <|
  .sc 28 true (.op ⟨(some 29), (some (28, true)), .fad 1 (.s 1), []⟩ <|
  .op ⟨(some 30), (some (28, true)), .load false 1 (.s 29), []⟩ <|
  .op ⟨(some 31), (some (28, true)), .fad 2 (.s 1), []⟩ <|
  .op ⟨(some 32), (some (28, true)), .load false 1 (.s 31), []⟩ <|
  .op ⟨(some 33), (some (28, true)), .bin .neq (.s 30) (.s 32), []⟩ <|
  .nil) [29, 30, 31, 32, 33] 34 none (.s 28) (.s 33) [20, 28] <|
  .op ⟨(some 4), none, .asg (.s 34) false, [34, 34]⟩ <|
  .nil
def r13_3 : XL := .op ⟨(some 35), none, .fad 1 (.s 1), []⟩ <|
  .op ⟨(some 36), none, .load false 1 (.s 35), []⟩ <|
  .op ⟨(some 37), none, .call 35 [(false, .s 36)] [], []⟩ <|
  .op ⟨(some 38), none, .mv (.s 37), []⟩ <|
  .sc 38 true (.op ⟨(some 39), (some (38, true)), .fad 2 (.s 1), []⟩ <|
  .op ⟨(some 40), (some (38, true)), .load false 1 (.s 39), []⟩ <|
  .op ⟨(some 41), (some (38, true)), .call 34 [(false, .s 40)] [], []⟩ <|
  .nil) [39, 40, 41] 42 none (.s 38) (.s 41) [] <|
  .op ⟨(some 5), none, .asg (.s 42) false, [35, 42]⟩ <|
  .nil
def r13_4 : XL := .op ⟨(some 43), none, .fad 1 (.s 1), []⟩ <|
  .op ⟨(some 44), none, .load false 1 (.s 43), []⟩ <|
  .op ⟨(some 45), none, .call 34 [(false, .s 44)] [], []⟩ <|
  .op ⟨(some 46), none, .mv (.s 45), []⟩ <|
  .sc 46 true (.op ⟨(some 47), (some (46, true)), .fad 2 (.s 1), []⟩ <|
  .op ⟨(some 48), (some (46, true)), .load false 1 (.s 47), []⟩ <|
  .op ⟨(some 49), (some (46, true)), .call 35 [(false, .s 48)] [], []⟩ <|
  .nil) [47, 48, 49] 50 none (.s 46) (.s 49) [] <|
  .op ⟨(some 6), none, .asg (.s 50) false, [43, 50]⟩ <|
  .nil
def r13_5 : XL := .op ⟨(some 51), none, .fad 3 (.s 1), []⟩ <|
  .op ⟨(some 52), none, .load false 1 (.s 51), []⟩ <|
  .op ⟨(some 53), none, .call 36 [(false, .s 52), (false, .c ⟨.one, [.int .i64 1]⟩), (false, .c ⟨.one, [.int .i64 100000]⟩)] [], []⟩ <|
  .op ⟨(some 7), none, .asg (.s 53) false, [51, 53]⟩ <|
  .nil
def r13_6 : XL := .op ⟨(some 54), none, .mv (.s 4), []⟩ <|
  .nil
def r13_7 : XL := .op ⟨(some 55), none, .fad 3 (.s 1), []⟩ <|
  .op ⟨(some 56), none, .load false 1 (.s 55), []⟩ <|
  .op ⟨(some 57), none, .fad 3 (.s 3), []⟩ <|
  .op ⟨none, none, .store 1 (.s 57) (.s 56) false, [54, 57]⟩ <|
  .nil
def r13_8 : XL := .op ⟨(some 58), none, .fad 4 (.s 1), []⟩ <|
  .op ⟨(some 59), none, .load false 1 (.s 58), []⟩ <|
  .op ⟨(some 60), none, .fad 4 (.s 3), []⟩ <|
  .op ⟨none, none, .store 1 (.s 60) (.s 59) false, [54, 60]⟩ <|
  .nil
def r13_9 : XL := .op ⟨(some 8), none, .asg (.c ⟨.one, [.bool false]⟩) false, []⟩ <|
  .nil
def r13_10 : XL := .op ⟨(some 61), none, .fad 0 (.s 1), []⟩ <|
  .op ⟨(some 62), none, .load false 1 (.s 61), [61, 61]⟩ <|
  .nil
def r13_11 : XL := .op ⟨(some 64), none, .bin .eql (.s 62) (.c ⟨.one, [.int .i64 1]⟩), []⟩ <|
  .op ⟨(some 63), none, .asg (.s 64) false, [64, 64]⟩ <|
  .nil
def r13_12 : XL := .op ⟨(some 65), none, .fad 5 (.s 1), []⟩ <|
  .op ⟨(some 66), none, .load false 1 (.s 65), [5, 6, 8, 65]⟩ <|
  .op ⟨(some 67), none, .fad 5 (.s 3), []⟩ <|
  .op ⟨none, none, .store 1 (.s 67) (.s 66) false, [66, 67]⟩ <|
  .nil
def r13_13 : XL := .op ⟨(some 68), none, .mv (.s 4), []⟩ <|
  .op ⟨(some 69), none, .mv (.s 68), []⟩ <|
  .sc 69 true (.op ⟨(some 70), (some (69, true)), .mv (.s 7), []⟩ <|
  .nil) [70] 71 none (.s 69) (.s 70) [] <|
  .op ⟨(some 72), none, .mv (.s 71), []⟩ <|
  .sc 72 true (.op ⟨(some 73), (some (72, true)), .fad 4 (.s 1), []⟩ <|
  .op ⟨(some 74), (some (72, true)), .load false 1 (.s 73), []⟩ <|
  .op ⟨(some 75), (some (72, true)), .fad 5 (.s 1), []⟩ <|
  .op ⟨(some 76), (some (72, true)), .load false 1 (.s 75), []⟩ <|
  .op ⟨(some 77), (some (72, true)), .call 37 [(false, .s 74), (false, .s 76)] [], []⟩ <|
  .nil) [73, 74, 75, 76, 77] 78 none (.s 72) (.s 77) [4, 72] <|
  .op ⟨(some 79), none, .mv (.s 78), []⟩ <|
  .sc 79 true (.op ⟨(some 80), (some (79, true)), .fad 5 (.s 1), []⟩ <|
  .op ⟨(some 81), (some (79, true)), .load false 1 (.s 80), []⟩ <|
  .op ⟨(some 82), (some (79, true)), .fad 3 (.s 1), []⟩ <|
  .op ⟨(some 83), (some (79, true)), .load false 1 (.s 82), []⟩ <|
  .op ⟨(some 84), (some (79, true)), .bin .leq (.s 81) (.s 83), []⟩ <|
  .nil) [80, 81, 82, 83, 84] 85 none (.s 79) (.s 84) [] <|
  .op ⟨(some 8), none, .asg (.s 85) false, [78, 85]⟩ <|
  .nil
def r13_14 : XL := .op ⟨(some 87), none, .bin .eql (.s 62) (.c ⟨.one, [.int .i64 2]⟩), []⟩ <|
  .op ⟨(some 86), none, .asg (.s 87) false, [63, 63, 87, 87]⟩ <|
  .nil
def r13_15 : XL := .op ⟨(some 88), none, .fad 4 (.s 3), []⟩ <|
  .op ⟨none, none, .store 1 (.s 88) (.c ⟨.one, [.int .i64 0]⟩) false, [5, 6, 8, 88]⟩ <|
  .nil
def r13_16 : XL := .op ⟨(some 89), none, .fad 7 (.s 1), []⟩ <|
  .op ⟨(some 90), none, .load false 1 (.s 89), []⟩ <|
  .op ⟨(some 91), none, .fad 7 (.s 3), []⟩ <|
  .op ⟨none, none, .store 1 (.s 91) (.s 90) false, [89, 91]⟩ <|
  .nil
def r13_17 : XL := .op ⟨(some 92), none, .mv (.s 4), []⟩ <|
  .op ⟨(some 93), none, .mv (.s 92), []⟩ <|
  .sc 93 true (.op ⟨(some 94), (some (93, true)), .mv (.s 7), []⟩ <|
  .nil) [94] 95 none (.s 93) (.s 94) [] <|
  .op ⟨(some 8), none, .asg (.s 95) false, [4, 7, 92, 95]⟩ <|
  .nil
def r13_18 : XL := .op ⟨(some 97), none, .bin .eql (.s 62) (.c ⟨.one, [.int .i64 3]⟩), []⟩ <|
  .op ⟨(some 96), none, .asg (.s 97) false, [86, 86, 97, 97]⟩ <|
  .nil
def r13_19 : XL := .op ⟨(some 98), none, .fad 5 (.s 1), []⟩ <|
  .op ⟨(some 99), none, .load false 1 (.s 98), [5, 6, 8, 98]⟩ <|
  .op ⟨(some 100), none, .fad 5 (.s 3), []⟩ <|
  .op ⟨none, none, .store 1 (.s 100) (.s 99) false, [99, 100]⟩ <|
  .nil
def r13_20 : XL := .op ⟨(some 101), none, .fad 6 (.s 1), []⟩ <|
  .op ⟨(some 102), none, .load false 1 (.s 101), []⟩ <|
  .op ⟨(some 103), none, .fad 6 (.s 3), []⟩ <|
  .op ⟨none, none, .store 1 (.s 103) (.s 102) false, [101, 103]⟩ <|
  .nil
def r13_21 : XL := .op ⟨(some 104), none, .fad 8 (.s 1), []⟩ <|
  .op ⟨(some 105), none, .load false 1 (.s 104), []⟩ <|
  .op ⟨(some 106), none, .fad 8 (.s 3), []⟩ <|
  .op ⟨none, none, .store 1 (.s 106) (.s 105) false, [104, 106]⟩ <|
  .nil
def r13_22 : XL := .op ⟨(some 107), none, .mv (.s 4), []⟩ <|
  .op ⟨(some 108), none, .mv (.s 107), []⟩ <|
  .sc 108 true (.op ⟨(some 109), (some (108, true)), .mv (.s 7), []⟩ <|
  .nil) [109] 110 none (.s 108) (.s 109) [] <|
  .op ⟨(some 111), none, .mv (.s 110), []⟩ <|
  .sc 111 true (.op ⟨(some 112), (some (111, true)), .fad 4 (.s 1), []⟩ <|
  .op ⟨(some 113), (some (111, true)), .load false 1 (.s 112), []⟩ <|
  .op ⟨(some 114), (some (111, true)), .fad 5 (.s 1), []⟩ <|
  .op ⟨(some 115), (some (111, true)), .load false 1 (.s 114), []⟩ <|
  .op ⟨(some 116), (some (111, true)), .call 37 [(false, .s 113), (false, .s 115)] [], []⟩ <|
  .nil) [112, 113, 114, 115, 116] 117 none (.s 111) (.s 116) [4, 111] <|
  .op ⟨(some 118), none, .mv (.s 117), []⟩ <|
  .sc 118 true (.op ⟨(some 119), (some (118, true)), .fad 5 (.s 1), []⟩ <|
  .op ⟨(some 120), (some (118, true)), .load false 1 (.s 119), []⟩ <|
  .op ⟨(some 121), (some (118, true)), .fad 3 (.s 1), []⟩ <|
  .op ⟨(some 122), (some (118, true)), .load false 1 (.s 121), []⟩ <|
  .op ⟨(some 123), (some (118, true)), .bin .leq (.s 120) (.s 122), []⟩ <|
  .nil) [119, 120, 121, 122, 123] 124 none (.s 118) (.s 123) [] <|
  .op ⟨(some 125), none, .mv (.s 124), []⟩ <|
  .sc 125 true (.op ⟨(some 126), (some (125, true)), .fad 6 (.s 1), []⟩ <|
  .op ⟨(some 127), (some (125, true)), .load false 1 (.s 126), []⟩ <|
  .op ⟨(some 128), (some (125, true)), .call 36 [(false, .s 127), (false, .c ⟨.one, [.int .i64 0]⟩), (false, .c ⟨.one, [.int .i64 100000]⟩)] [], []⟩ <|
  .nil) [126, 127, 128] 129 none (.s 125) (.s 128) [] <|
  .op ⟨(some 130), none, .mv (.s 129), []⟩ <|
  .sc 130 true (.op ⟨(some 131), (some (130, true)), .fad 8 (.s 1), []⟩ <|
  .op ⟨(some 132), (some (130, true)), .load false 1 (.s 131), []⟩ <|
  .op ⟨(some 133), (some (130, true)), .len false (.s 132), []⟩ <|
  .op ⟨(some 134), (some (130, true)), .bin .leq (.s 133) (.c ⟨.one, [.int .i64 4]⟩), []⟩ <|
  .nil) [131, 132, 133, 134] 135 none (.s 130) (.s 134) [117, 130] <|
  .op ⟨(some 136), none, .mv (.s 135), []⟩ <|
  .sc 136 true (.op ⟨(some 137), (some (136, true)), .fad 8 (.s 1), []⟩ <|
  .op ⟨(some 138), (some (136, true)), .load false 1 (.s 137), []⟩ <|
  .op ⟨(some 139), (some (136, true)), .fad 5 (.s 1), []⟩ <|
  .op ⟨(some 140), (some (136, true)), .load false 1 (.s 139), []⟩ <|
  .op ⟨(some 141), (some (136, true)), .fad 3 (.s 1), []⟩ <|
  .op ⟨(some 142), (some (136, true)), .load false 1 (.s 141), []⟩ <|
  .op ⟨(some 143), (some (136, true)), .call 38 [(false, .s 138), (false, .s 140), (false, .s 142)] [], []⟩ <|
  .nil) [137, 138, 139, 140, 141, 142, 143] 144 none (.s 136) (.s 143) [] <|
  .op ⟨(some 145), none, .mv (.s 144), []⟩ <|
  .sc 145 true (.op ⟨(some 146), (some (145, true)), .fad 4 (.s 1), []⟩ <|
  .op ⟨(some 147), (some (145, true)), .load false 1 (.s 146), []⟩ <|
  .op ⟨(some 148), (some (145, true)), .fad 8 (.s 1), []⟩ <|
  .op ⟨(some 149), (some (145, true)), .load false 1 (.s 148), []⟩ <|
  .op ⟨(some 150), (some (145, true)), .len false (.s 149), []⟩ <|
  .op ⟨(some 151), (some (145, true)), .bin .add (.s 147) (.s 150), []⟩ <|
  .op ⟨(some 152), (some (145, true)), .bin .leq (.s 151) (.c ⟨.one, [.int .i64 100000]⟩), []⟩ <|
  .nil) [146, 147, 148, 149, 150, 151, 152] 153 none (.s 145) (.s 152) [] <|
  .op ⟨(some 8), none, .asg (.s 153) false, [135, 153]⟩ <|
  .nil
def r13_23 : XL := .op ⟨(some 155), none, .bin .eql (.s 62) (.c ⟨.one, [.int .i64 4]⟩), []⟩ <|
  .op ⟨(some 154), none, .asg (.s 155) false, [96, 96, 155, 155]⟩ <|
  .nil
def r13_24 : XL := .op ⟨(some 156), none, .fad 7 (.s 1), []⟩ <|
  .op ⟨(some 157), none, .load false 1 (.s 156), [5, 6, 8, 156]⟩ <|
  .op ⟨(some 158), none, .fad 7 (.s 3), []⟩ <|
  .op ⟨none, none, .store 1 (.s 158) (.s 157) false, [157, 158]⟩ <|
  .nil
def r13_25 : XL := .op ⟨(some 159), none, .mv (.s 4), []⟩ <|
  .op ⟨(some 160), none, .mv (.s 159), []⟩ <|
  .sc 160 true (.op ⟨(some 161), (some (160, true)), .mv (.s 7), []⟩ <|
  .nil) [161] 162 none (.s 160) (.s 161) [] <|
  .op ⟨(some 163), none, .mv (.s 162), []⟩ <|
  .sc 163 true (.op ⟨(some 164), (some (163, true)), .fad 4 (.s 1), []⟩ <|
  .op ⟨(some 165), (some (163, true)), .load false 1 (.s 164), []⟩ <|
  .op ⟨(some 166), (some (163, true)), .call 36 [(false, .s 165), (false, .c ⟨.one, [.int .i64 0]⟩), (false, .c ⟨.one, [.int .i64 100000]⟩)] [], []⟩ <|
  .nil) [164, 165, 166] 167 none (.s 163) (.s 166) [4, 163] <|
  .op ⟨(some 8), none, .asg (.s 167) false, [167, 167]⟩ <|
  .nil
def r13_26 : XL := .op ⟨(some 169), none, .bin .eql (.s 62) (.c ⟨.one, [.int .i64 5]⟩), []⟩ <|
  .op ⟨(some 168), none, .asg (.s 169) false, [154, 154, 169, 169]⟩ <|
  .nil
def r13_27 : XL := .op ⟨(some 170), none, .fad 5 (.s 1), []⟩ <|
  .op ⟨(some 171), none, .load false 1 (.s 170), [5, 6, 8, 170]⟩ <|
  .op ⟨(some 172), none, .fad 5 (.s 3), []⟩ <|
  .op ⟨none, none, .store 1 (.s 172) (.s 171) false, [171, 172]⟩ <|
  .nil
def r13_28 : XL := .op ⟨(some 173), none, .fad 9 (.s 1), []⟩ <|
  .op ⟨(some 174), none, .load false 1 (.s 173), []⟩ <|
  .op ⟨(some 175), none, .fad 9 (.s 3), []⟩ <|
  .op ⟨none, none, .store 1 (.s 175) (.s 174) false, [173, 175]⟩ <|
  .nil
def r13_29 : XL := .op ⟨(some 176), none, .mv (.s 4), []⟩ <|
  .op ⟨(some 177), none, .mv (.s 176), []⟩ <|
  .sc 177 true (.op ⟨(some 178), (some (177, true)), .mv (.s 7), []⟩ <|
  .nil) [178] 179 none (.s 177) (.s 178) [] <|
  .op ⟨(some 180), none, .mv (.s 179), []⟩ <|
  .sc 180 true (.op ⟨(some 181), (some (180, true)), .fad 4 (.s 1), []⟩ <|
  .op ⟨(some 182), (some (180, true)), .load false 1 (.s 181), []⟩ <|
  .op ⟨(some 183), (some (180, true)), .call 36 [(false, .s 182), (false, .c ⟨.one, [.int .i64 1]⟩), (false, .c ⟨.one, [.int .i64 100000]⟩)] [], []⟩ <|
  .nil) [181, 182, 183] 184 none (.s 180) (.s 183) [4, 180] <|
  .op ⟨(some 185), none, .mv (.s 184), []⟩ <|
  .sc 185 true (.op ⟨(some 186), (some (185, true)), .fad 5 (.s 1), []⟩ <|
  .op ⟨(some 187), (some (185, true)), .load false 1 (.s 186), []⟩ <|
  .op ⟨(some 188), (some (185, true)), .fad 3 (.s 1), []⟩ <|
  .op ⟨(some 189), (some (185, true)), .load false 1 (.s 188), []⟩ <|
  .op ⟨(some 190), (some (185, true)), .call 36 [(false, .s 187), (false, .c ⟨.one, [.int .i64 1]⟩), (false, .s 189)] [], []⟩ <|
  .nil) [186, 187, 188, 189, 190] 191 none (.s 185) (.s 190) [] <|
  .op ⟨(some 192), none, .mv (.s 191), []⟩ <|
  .sc 192 true (.op ⟨(some 193), (some (192, true)), .fad 9 (.s 1), []⟩ <|
  .op ⟨(some 194), (some (192, true)), .load false 1 (.s 193), []⟩ <|
  .op ⟨(some 195), (some (192, true)), .len true (.s 194), []⟩ <|
  .op ⟨(some 196), (some (192, true)), .bin .leq (.s 195) (.c ⟨.one, [.int .i64 30000]⟩), []⟩ <|
  .nil) [193, 194, 195, 196] 197 none (.s 192) (.s 196) [] <|
  .op ⟨(some 8), none, .asg (.s 197) false, [184, 197]⟩ <|
  .nil
def r13_30 : XL := .op ⟨(some 199), none, .bin .eql (.s 62) (.c ⟨.one, [.int .i64 6]⟩), []⟩ <|
  .op ⟨(some 198), none, .asg (.s 199) false, [4, 4, 7, 7, 168, 168, 199, 199]⟩ <|
  .nil
def r13_31 : XL := .op ⟨(some 200), none, .fad 9 (.s 1), []⟩ <|
  .op ⟨(some 201), none, .load false 1 (.s 200), []⟩ <|
  .op ⟨(some 202), none, .fad 9 (.s 3), []⟩ <|
  .op ⟨none, none, .store 1 (.s 202) (.s 201) false, [6, 202]⟩ <|
  .nil
def r13_32 : XL := .op ⟨(some 204), none, .fad 9 (.s 1), []⟩ <|
  .op ⟨(some 205), none, .load false 1 (.s 204), []⟩ <|
  .op ⟨(some 206), none, .call 39 [(false, .s 205)] [], []⟩ <|
  .op ⟨(some 203), none, .mv (.s 206), []⟩ <|
  .op ⟨(some 207), none, .ext 0 (.s 203), []⟩ <|
  .op ⟨(some 208), none, .ext 1 (.s 203), []⟩ <|
  .op ⟨(some 9), none, .alloc [.int .i64 0, .str ⟨#[]⟩, .int .i64 0, .int .i64 0, .str ⟨#[]⟩], []⟩ <|
  .op ⟨none, none, .store 5 (.s 9) (.s 207) true, [9, 207]⟩ <|
  .op ⟨(some 10), none, .asg (.s 208) true, [208, 208]⟩ <|
  .nil
def r13_33 : XL := .op ⟨(some 209), none, .mv (.s 5), []⟩ <|
  .op ⟨(some 210), none, .mv (.s 209), []⟩ <|
  .sc 210 true (.op ⟨(some 211), (some (210, true)), .fad 4 (.s 1), []⟩ <|
  .op ⟨(some 212), (some (210, true)), .load false 1 (.s 211), []⟩ <|
  .op ⟨(some 213), (some (210, true)), .call 36 [(false, .s 212), (false, .c ⟨.one, [.int .i64 1]⟩), (false, .c ⟨.one, [.int .i64 1000000]⟩)] [], []⟩ <|
  .nil) [211, 212, 213] 214 none (.s 210) (.s 213) [] <|
  .op ⟨(some 215), none, .mv (.s 214), []⟩ <|
  .sc 215 true (.op ⟨(some 216), (some (215, true)), .mv (.s 10), []⟩ <|
  .nil) [216] 217 none (.s 215) (.s 216) [5, 215] <|
  .op ⟨(some 8), none, .asg (.s 217) false, [217, 217]⟩ <|
  .nil
def r13_34 : XL := .op ⟨(some 219), none, .bin .eql (.s 62) (.c ⟨.one, [.int .i64 7]⟩), []⟩ <|
  .op ⟨(some 218), none, .asg (.s 219) false, [5, 5, 62, 198, 219, 219]⟩ <|
  .nil
def r13_35 : XL := .op ⟨(some 220), none, .fad 9 (.s 1), []⟩ <|
  .op ⟨(some 221), none, .load false 1 (.s 220), []⟩ <|
  .op ⟨(some 222), none, .fad 9 (.s 3), []⟩ <|
  .op ⟨none, none, .store 1 (.s 222) (.s 221) false, [8, 222]⟩ <|
  .nil
def r13_36 : XL := .op ⟨(some 224), none, .fad 9 (.s 1), []⟩ <|
  .op ⟨(some 225), none, .load false 1 (.s 224), []⟩ <|
  .op ⟨(some 226), none, .call 40 [(false, .s 225)] [], []⟩ <|
  .op ⟨(some 223), none, .mv (.s 226), []⟩ <|
  .op ⟨(some 227), none, .ext 0 (.s 223), []⟩ <|
  .op ⟨(some 228), none, .ext 1 (.s 223), []⟩ <|
  .op ⟨(some 11), none, .alloc [.int .i64 0, .int .i64 0, .int .i64 0, .str ⟨#[]⟩], []⟩ <|
  .op ⟨none, none, .store 4 (.s 11) (.s 227) true, [11, 227]⟩ <|
  .op ⟨(some 12), none, .asg (.s 228) true, [228, 228]⟩ <|
  .nil
def r13_37 : XL := .op ⟨(some 229), none, .mv (.s 6), []⟩ <|
  .op ⟨(some 230), none, .mv (.s 229), []⟩ <|
  .sc 230 true (.op ⟨(some 231), (some (230, true)), .fad 4 (.s 1), []⟩ <|
  .op ⟨(some 232), (some (230, true)), .load false 1 (.s 231), []⟩ <|
  .op ⟨(some 233), (some (230, true)), .call 36 [(false, .s 232), (false, .c ⟨.one, [.int .i64 1]⟩), (false, .c ⟨.one, [.int .i64 1000000]⟩)] [], []⟩ <|
  .nil) [231, 232, 233] 234 none (.s 230) (.s 233) [] <|
  .op ⟨(some 235), none, .mv (.s 234), []⟩ <|
  .sc 235 true (.op ⟨(some 236), (some (235, true)), .mv (.s 12), []⟩ <|
  .nil) [236] 237 none (.s 235) (.s 236) [6, 235] <|
  .op ⟨(some 8), none, .asg (.s 237) false, [237, 237]⟩ <|
  .nil
def r13_38 : XL := .op ⟨(some 238), none, .mv (.s 8), []⟩ <|
  .op ⟨(some 239), none, .mv (.s 238), []⟩ <|
  .sc 239 true (.op ⟨(some 240), (some (239, true)), .load true 10 (.s 1), []⟩ <|
  .op ⟨(some 241), (some (239, true)), .load true 10 (.s 3), []⟩ <|
  .op ⟨(some 242), (some (239, true)), .call 41 [(false, .s 240), (false, .s 241)] [], []⟩ <|
  .nil) [240, 241, 242] 243 none (.s 239) (.s 242) [1, 239] <|
  .op ⟨(some 2), none, .asg (.s 243) false, [243, 243]⟩ <|
  .nil
def x13 : XCode := .seq (.ops r13_0) (.seq (.ops r13_1) (.seq (.ops r13_2) (.seq (.ops r13_3) (.seq (.ops r13_4) (.seq (.ops r13_5) (.seq (.seq (.ops r13_6) (.cond (.s 54) (.ops r13_7) (.skip))) (.seq (.ops r13_8) (.seq (.ops r13_9) (.seq (.seq (.ops r13_10) (.block 0 (.seq (.ops r13_11) (.cond (.s 63) (.seq (.ops r13_12) (.ops r13_13)) (.seq (.ops r13_14) (.cond (.s 86) (.seq (.ops r13_15) (.seq (.ops r13_16) (.ops r13_17))) (.seq (.ops r13_18) (.cond (.s 96) (.seq (.ops r13_19) (.seq (.ops r13_20) (.seq (.ops r13_21) (.ops r13_22)))) (.seq (.ops r13_23) (.cond (.s 154) (.seq (.ops r13_24) (.ops r13_25)) (.seq (.ops r13_26) (.cond (.s 168) (.seq (.ops r13_27) (.seq (.ops r13_28) (.ops r13_29))) (.seq (.ops r13_30) (.cond (.s 198) (.seq (.ops r13_31) (.seq (.ops r13_32) (.ops r13_33))) (.seq (.ops r13_34) (.cond (.s 218) (.seq (.ops r13_35) (.seq (.ops r13_36) (.ops r13_37))) (.skip))))))))))))))))) (.seq (.ops r13_38) (.ret)))))))))))
theorem m13 : mFun Try.prog Try.f13 x13 [.tmp 2] 1 = true := by kernel_rfl
theorem k13 : Callable Try.prog 13 := callable_of (by kernel_rfl)

/-! loop.example/g00360/impl.MsgOk -/
def r15_0 : XL := .op ⟨(some 1), none, .box (.s 0) false, []⟩ <|
  .op ⟨(some 2), none, .asg (.c ⟨.one, [.bool false]⟩) false, [0, 0, 2, 2]⟩ <|
  .nil
def r15_1 : XL := .op ⟨(some 8), none, .fad 1 (.s 1), []⟩ <|
  .op ⟨(some 9), none, .load false 1 (.s 8), []⟩ <|
  .op ⟨(some 10), none, .call 43 [(false, .s 9)] [], []⟩ <|
  .op ⟨(some 11), none, .mv (.s 10), []⟩ <|
  .sc 11 true (.op ⟨(some 12), (some (11, true)), .fad 2 (.s 1), []⟩ <|
  .op ⟨(some 13), (some (11, true)), .load false 1 (.s 12), []⟩ <|
  .op ⟨(some 14), (some (11, true)), .call 43 [(false, .s 13)] [], []⟩ <|
  .nil) [12, 13, 14] 15 none (.s 11) (.s 14) [] <|
  .op ⟨(some 16), none, .mv (.s 15), []⟩ <|
  .sc 16 true (.op ⟨(some 17), (some (16, true)), .fad 1 (.s 1), []⟩ <|
  .op ⟨(some 18), (some (16, true)), .load false 1 (.s 17), []⟩ <|
  .op ⟨(some 19), (some (16, true)), .fad 2 (.s 1), []⟩ <|
  .op ⟨(some 20), (some (16, true)), .load false 1 (.s 19), []⟩ <|
  .op ⟨(some 21), (some (16, true)), .bin .neq (.s 18) (.s 20), []⟩ <|
  .nil) [17, 18, 19, 20, 21] 22 none (.s 16) (.s 21) [8, 16] <|
  .op ⟨(some 23), none, .mv (.s 22), []⟩ <|
  .sc 23 true (.op ⟨(some 24), (some (23, true)), .fad 3 (.s 1), []⟩ <|
  .op ⟨(some 25), (some (23, true)), .load false 1 (.s 24), []⟩ <|
  .op ⟨(some 26), (some (23, true)), .call 44 [(false, .s 25)] [], []⟩ <|
  .nil) [24, 25, 26] 27 none (.s 23) (.s 26) [] <|
  .op ⟨(some 3), none, .asg (.s 27) false, [22, 27]⟩ <|
  .nil
def r15_2 : XL := .op ⟨(some 28), none, .fad 0 (.s 1), []⟩ <|
  .op ⟨(some 29), none, .load false 1 (.s 28), [28, 28]⟩ <|
  .nil
def r15_3 : XL := .op ⟨(some 31), none, .bin .eql (.s 29) (.c ⟨.one, [.int .i64 1]⟩), []⟩ <|
  .op ⟨(some 30), none, .asg (.s 31) false, [31, 31]⟩ <|
  .nil
def r15_4 : XL := .op ⟨(some 32), none, .mv (.s 3), []⟩ <|
  .op ⟨(some 33), none, .mv (.s 32), []⟩ <|
  .sc 33 true (.op ⟨(some 34), (some (33, true)), .fad 4 (.s 1), []⟩ <|
  .op ⟨(some 35), (some (33, true)), .load false 1 (.s 34), []⟩ <|
  .op ⟨(some 36), (some (33, true)), .fad 5 (.s 1), []⟩ <|
  .op ⟨(some 37), (some (33, true)), .load false 1 (.s 36), []⟩ <|
  .op ⟨(some 38), (some (33, true)), .call 45 [(false, .s 35), (false, .s 37)] [], []⟩ <|
  .nil) [34, 35, 36, 37, 38] 39 none (.s 33) (.s 38) [] <|
  .op ⟨(some 40), none, .mv (.s 39), [3, 39]⟩ <|
  .sc 40 true (.op ⟨(some 41), (some (40, true)), .fad 5 (.s 1), []⟩ <|
  .op ⟨(some 42), (some (40, true)), .load false 1 (.s 41), []⟩ <|
  .op ⟨(some 43), (some (40, true)), .fad 3 (.s 1), []⟩ <|
  .op ⟨(some 44), (some (40, true)), .load false 1 (.s 43), []⟩ <|
  .op ⟨(some 45), (some (40, true)), .bin .leq (.s 42) (.s 44), []⟩ <|
  .nil) [41, 42, 43, 44, 45] 46 none (.s 40) (.s 45) [] <|
  .op ⟨(some 47), none, .mv (.s 46), []⟩ <|
  .sc 47 true (.op ⟨(some 48), (some (47, true)), .load true 10 (.s 1), []⟩ <|
  .op ⟨(some 49), (some (47, true)), .fad 3 (.s 1), []⟩ <|
  .op ⟨(some 50), (some (47, true)), .load false 1 (.s 49), []⟩ <|
  .op ⟨(some 51), (some (47, true)), .fad 4 (.s 1), []⟩ <|
  .op ⟨(some 52), (some (47, true)), .load false 1 (.s 51), []⟩ <|
  .op ⟨(some 53), (some (47, true)), .fad 5 (.s 1), []⟩ <|
  .op ⟨(some 54), (some (47, true)), .load false 1 (.s 53), []⟩ <|
  .op ⟨(some 55), (some (47, true)), .build [.int .i64 0, .int .i64 0, .int .i64 0, .int .i64 0, .int .i64 0, .int .i64 0, .int .i64 0, .bool false, .own 2 [], .str ⟨#[]⟩] [(3, 1, .s 50), (4, 1, .s 52), (5, 1, .s 54)], []⟩ <|
  .op ⟨(some 56), (some (47, true)), .call 46 [(false, .s 48), (false, .s 55)] [], []⟩ <|
  .nil) [48, 49, 50, 51, 52, 53, 54, 55, 56] 57 none (.s 47) (.s 56) [] <|
  .op ⟨(some 2), none, .asg (.s 57) false, [1, 1, 40, 57]⟩ <|
  .nil
def r15_5 : XL := .op ⟨(some 59), none, .bin .eql (.s 29) (.c ⟨.one, [.int .i64 2]⟩), []⟩ <|
  .op ⟨(some 58), none, .asg (.s 59) false, [30, 30, 59, 59]⟩ <|
  .nil
def r15_6 : XL := .op ⟨(some 60), none, .mv (.s 3), []⟩ <|
  .op ⟨(some 61), none, .mv (.s 60), []⟩ <|
  .sc 61 true (.op ⟨(some 62), (some (61, true)), .load true 10 (.s 1), []⟩ <|
  .op ⟨(some 63), (some (61, true)), .fad 3 (.s 1), []⟩ <|
  .op ⟨(some 64), (some (61, true)), .load false 1 (.s 63), []⟩ <|
  .op ⟨(some 65), (some (61, true)), .fad 7 (.s 1), []⟩ <|
  .op ⟨(some 66), (some (61, true)), .load false 1 (.s 65), []⟩ <|
  .op ⟨(some 67), (some (61, true)), .build [.int .i64 0, .int .i64 0, .int .i64 0, .int .i64 0, .int .i64 0, .int .i64 0, .int .i64 0, .bool false, .own 2 [], .str ⟨#[]⟩] [(3, 1, .s 64), (7, 1, .s 66)], []⟩ <|
  .op ⟨(some 68), (some (61, true)), .call 46 [(false, .s 62), (false, .s 67)] [], []⟩ <|
  .nil) [62, 63, 64, 65, 66, 67, 68] 69 none (.s 61) (.s 68) [1, 61] <|
  .op ⟨(some 2), none, .asg (.s 69) false, [69, 69]⟩ <|
  .nil
def r15_7 : XL := .op ⟨(some 71), none, .bin .eql (.s 29) (.c ⟨.one, [.int .i64 3]⟩), []⟩ <|
  .op ⟨(some 70), none, .asg (.s 71) false, [58, 58, 71, 71]⟩ <|
  .nil
def r15_8 : XL := .op ⟨(some 72), none, .mv (.s 3), []⟩ <|
  .op ⟨(some 73), none, .mv (.s 72), []⟩ <|
  .sc 73 true (.op ⟨(some 74), (some (73, true)), .load true 10 (.s 1), []⟩ <|
  .op ⟨(some 75), (some (73, true)), .call 47 [(false, .s 74)] [], []⟩ <|
  .nil) [74, 75] 76 none (.s 73) (.s 75) [] <|
  .op ⟨(some 77), none, .mv (.s 76), [3, 76]⟩ <|
  .sc 77 true (.op ⟨(some 78), (some (77, true)), .fad 7 (.s 1), []⟩ <|
  .op ⟨(some 79), (some (77, true)), .load false 1 (.s 78), []⟩ <|
  .op ⟨(some 80), (some (77, true)), .un .not (.s 79), []⟩ <|
  .nil) [78, 79, 80] 81 none (.s 77) (.s 80) [] <|
  .op ⟨(some 82), none, .mv (.s 81), []⟩ <|
  .sc 82 true (.op ⟨(some 83), (some (82, true)), .fad 9 (.s 1), []⟩ <|
  .op ⟨(some 84), (some (82, true)), .load false 1 (.s 83), []⟩ <|
  .op ⟨(some 85), (some (82, true)), .bin .eql (.s 84) (.c ⟨.one, [.str ⟨#[]⟩]⟩), []⟩ <|
  .nil) [83, 84, 85] 86 none (.s 82) (.s 85) [] <|
  .op ⟨(some 2), none, .asg (.s 86) false, [1, 1, 77, 86]⟩ <|
  .nil
def r15_9 : XL := .op ⟨(some 88), none, .bin .eql (.s 29) (.c ⟨.one, [.int .i64 4]⟩), []⟩ <|
  .op ⟨(some 87), none, .asg (.s 88) false, [70, 70, 88, 88]⟩ <|
  .nil
def r15_10 : XL := .op ⟨(some 89), none, .mv (.s 3), []⟩ <|
  .op ⟨(some 90), none, .mv (.s 89), []⟩ <|
  .sc 90 true (.op ⟨(some 91), (some (90, true)), .fad 4 (.s 1), []⟩ <|
  .op ⟨(some 92), (some (90, true)), .load false 1 (.s 91), []⟩ <|
  .op ⟨(some 93), (some (90, true)), .call 32 [(false, .s 92), (false, .c ⟨.one, [.int .i64 0]⟩), (false, .c ⟨.one, [.int .i64 100000]⟩)] [], []⟩ <|
  .nil) [91, 92, 93] 94 none (.s 90) (.s 93) [] <|
  .op ⟨(some 95), none, .mv (.s 94), [3, 94]⟩ <|
  .sc 95 true (.op ⟨(some 96), (some (95, true)), .load true 10 (.s 1), []⟩ <|
  .op ⟨(some 97), (some (95, true)), .fad 3 (.s 1), []⟩ <|
  .op ⟨(some 98), (some (95, true)), .load false 1 (.s 97), []⟩ <|
  .op ⟨(some 99), (some (95, true)), .fad 7 (.s 1), []⟩ <|
  .op ⟨(some 100), (some (95, true)), .load false 1 (.s 99), []⟩ <|
  .op ⟨(some 101), (some (95, true)), .fad 4 (.s 1), []⟩ <|
  .op ⟨(some 102), (some (95, true)), .load false 1 (.s 101), []⟩ <|
  .op ⟨(some 103), (some (95, true)), .build [.int .i64 0, .int .i64 0, .int .i64 0, .int .i64 0, .int .i64 0, .int .i64 0, .int .i64 0, .bool false, .own 2 [], .str ⟨#[]⟩] [(3, 1, .s 98), (7, 1, .s 100), (4, 1, .s 102)], []⟩ <|
  .op ⟨(some 104), (some (95, true)), .call 46 [(false, .s 96), (false, .s 103)] [], []⟩ <|
  .nil) [96, 97, 98, 99, 100, 101, 102, 103, 104] 105 none (.s 95) (.s 104) [] <|
  .op ⟨(some 2), none, .asg (.s 105) false, [1, 1, 95, 105]⟩ <|
  .nil
def r15_11 : XL := .op ⟨(some 107), none, .bin .eql (.s 29) (.c ⟨.one, [.int .i64 5]⟩), []⟩ <|
  .op ⟨(some 106), none, .asg (.s 107) false, [87, 87, 107, 107]⟩ <|
  .nil
def r15_12 : XL := .op ⟨(some 108), none, .mv (.s 3), []⟩ <|
  .op ⟨(some 109), none, .mv (.s 108), []⟩ <|
  .sc 109 true (.op ⟨(some 110), (some (109, true)), .fad 4 (.s 1), []⟩ <|
  .op ⟨(some 111), (some (109, true)), .load false 1 (.s 110), []⟩ <|
  .op ⟨(some 112), (some (109, true)), .call 32 [(false, .s 111), (false, .c ⟨.one, [.int .i64 1]⟩), (false, .c ⟨.one, [.int .i64 100000]⟩)] [], []⟩ <|
  .nil) [110, 111, 112] 113 none (.s 109) (.s 112) [] <|
  .op ⟨(some 114), none, .mv (.s 113), [3, 113]⟩ <|
  .sc 114 true (.op ⟨(some 115), (some (114, true)), .fad 5 (.s 1), []⟩ <|
  .op ⟨(some 116), (some (114, true)), .load false 1 (.s 115), []⟩ <|
  .op ⟨(some 117), (some (114, true)), .fad 3 (.s 1), []⟩ <|
  .op ⟨(some 118), (some (114, true)), .load false 1 (.s 117), []⟩ <|
  .op ⟨(some 119), (some (114, true)), .call 32 [(false, .s 116), (false, .c ⟨.one, [.int .i64 1]⟩), (false, .s 118)] [], []⟩ <|
  .nil) [115, 116, 117, 118, 119] 120 none (.s 114) (.s 119) [] <|
  .op ⟨(some 121), none, .mv (.s 120), []⟩ <|
  .sc 121 true (.op ⟨(some 122), (some (121, true)), .fad 9 (.s 1), []⟩ <|
  .op ⟨(some 123), (some (121, true)), .load false 1 (.s 122), []⟩ <|
  .op ⟨(some 124), (some (121, true)), .len true (.s 123), []⟩ <|
  .op ⟨(some 125), (some (121, true)), .bin .leq (.s 124) (.c ⟨.one, [.int .i64 30000]⟩), []⟩ <|
  .nil) [122, 123, 124, 125] 126 none (.s 121) (.s 125) [] <|
  .op ⟨(some 127), none, .mv (.s 126), []⟩ <|
  .sc 127 true (.op ⟨(some 128), (some (127, true)), .load true 10 (.s 1), []⟩ <|
  .op ⟨(some 129), (some (127, true)), .fad 3 (.s 1), []⟩ <|
  .op ⟨(some 130), (some (127, true)), .load false 1 (.s 129), []⟩ <|
  .op ⟨(some 131), (some (127, true)), .fad 4 (.s 1), []⟩ <|
  .op ⟨(some 132), (some (127, true)), .load false 1 (.s 131), []⟩ <|
  .op ⟨(some 133), (some (127, true)), .fad 5 (.s 1), []⟩ <|
  .op ⟨(some 134), (some (127, true)), .load false 1 (.s 133), []⟩ <|
  .op ⟨(some 135), (some (127, true)), .fad 9 (.s 1), []⟩ <|
  .op ⟨(some 136), (some (127, true)), .load false 1 (.s 135), []⟩ <|
  .op ⟨(some 137), (some (127, true)), .build [.int .i64 0, .int .i64 0, .int .i64 0, .int .i64 0, .int .i64 0, .int .i64 0, .int .i64 0, .bool false, .own 2 [], .str ⟨#[]⟩] [(3, 1, .s 130), (4, 1, .s 132), (5, 1, .s 134), (9, 1, .s 136)], []⟩ <|
  .op ⟨(some 138), (some (127, true)), .call 46 [(false, .s 128), (false, .s 137)] [], []⟩ <|
  .nil) [128, 129, 130, 131, 132, 133, 134, 135, 136, 137, 138] 139 none (.s 127) (.s 138) [1, 127] <|
  .op ⟨(some 2), none, .asg (.s 139) false, [139, 139]⟩ <|
  .nil
def r15_13 : XL := .op ⟨(some 141), none, .bin .eql (.s 29) (.c ⟨.one, [.int .i64 6]⟩), []⟩ <|
  .op ⟨(some 140), none, .asg (.s 141) false, [3, 3, 106, 106, 141, 141]⟩ <|
  .nil
def r15_14 : XL := .op ⟨(some 143), none, .fad 9 (.s 1), []⟩ <|
  .op ⟨(some 144), none, .load false 1 (.s 143), []⟩ <|
  .op ⟨(some 145), none, .call 48 [(false, .s 144)] [], []⟩ <|
  .op ⟨(some 142), none, .mv (.s 145), []⟩ <|
  .op ⟨(some 146), none, .ext 0 (.s 142), []⟩ <|
  .op ⟨(some 147), none, .ext 1 (.s 142), [29, 145]⟩ <|
  .op ⟨(some 4), none, .alloc [.int .i64 0, .str ⟨#[]⟩, .int .i64 0, .int .i64 0, .str ⟨#[]⟩], []⟩ <|
  .op ⟨none, none, .store 5 (.s 4) (.s 146) true, []⟩ <|
  .op ⟨(some 5), none, .asg (.s 147) true, [4, 4, 146, 147]⟩ <|
  .nil
def r15_15 : XL := .op ⟨(some 148), none, .mv (.s 5), []⟩ <|
  .op ⟨(some 149), none, .mv (.s 148), []⟩ <|
  .sc 149 true (.op ⟨(some 150), (some (149, true)), .fad 1 (.s 1), []⟩ <|
  .op ⟨(some 151), (some (149, true)), .load false 1 (.s 150), []⟩ <|
  .op ⟨(some 152), (some (149, true)), .call 49 [(false, .s 151)] [], []⟩ <|
  .nil) [150, 151, 152] 153 none (.s 149) (.s 152) [] <|
  .op ⟨(some 154), none, .mv (.s 153), []⟩ <|
  .sc 154 true (.op ⟨(some 155), (some (154, true)), .fad 2 (.s 1), []⟩ <|
  .op ⟨(some 156), (some (154, true)), .load false 1 (.s 155), []⟩ <|
  .op ⟨(some 157), (some (154, true)), .call 43 [(false, .s 156)] [], []⟩ <|
  .nil) [155, 156, 157] 158 none (.s 154) (.s 157) [] <|
  .op ⟨(some 159), none, .mv (.s 158), [5, 158]⟩ <|
  .sc 159 true (.op ⟨(some 160), (some (159, true)), .fad 4 (.s 1), []⟩ <|
  .op ⟨(some 161), (some (159, true)), .load false 1 (.s 160), []⟩ <|
  .op ⟨(some 162), (some (159, true)), .call 50 [(false, .s 161)] [], []⟩ <|
  .nil) [160, 161, 162] 163 none (.s 159) (.s 162) [] <|
  .op ⟨(some 164), none, .mv (.s 163), []⟩ <|
  .sc 164 true (.op ⟨(some 165), (some (164, true)), .load true 10 (.s 1), []⟩ <|
  .op ⟨(some 166), (some (164, true)), .fad 4 (.s 1), []⟩ <|
  .op ⟨(some 167), (some (164, true)), .load false 1 (.s 166), []⟩ <|
  .op ⟨(some 168), (some (164, true)), .fad 9 (.s 1), []⟩ <|
  .op ⟨(some 169), (some (164, true)), .load false 1 (.s 168), []⟩ <|
  .op ⟨(some 170), (some (164, true)), .build [.int .i64 0, .int .i64 0, .int .i64 0, .int .i64 0, .int .i64 0, .int .i64 0, .int .i64 0, .bool false, .own 2 [], .str ⟨#[]⟩] [(4, 1, .s 167), (9, 1, .s 169)], []⟩ <|
  .op ⟨(some 171), (some (164, true)), .call 46 [(false, .s 165), (false, .s 170)] [], []⟩ <|
  .nil) [165, 166, 167, 168, 169, 170, 171] 172 none (.s 164) (.s 171) [] <|
  .op ⟨(some 2), none, .asg (.s 172) false, [1, 1, 159, 172]⟩ <|
  .nil
def r15_16 : XL := .op ⟨(some 174), none, .bin .eql (.s 29) (.c ⟨.one, [.int .i64 7]⟩), []⟩ <|
  .op ⟨(some 173), none, .asg (.s 174) false, [29, 140, 174, 174]⟩ <|
  .nil
def r15_17 : XL := .op ⟨(some 176), none, .fad 9 (.s 1), []⟩ <|
  .op ⟨(some 177), none, .load false 1 (.s 176), []⟩ <|
  .op ⟨(some 178), none, .call 51 [(false, .s 177)] [], []⟩ <|
  .op ⟨(some 175), none, .mv (.s 178), []⟩ <|
  .op ⟨(some 179), none, .ext 0 (.s 175), []⟩ <|
  .op ⟨(some 180), none, .ext 1 (.s 175), []⟩ <|
  .op ⟨(some 6), none, .alloc [.int .i64 0, .int .i64 0, .int .i64 0, .str ⟨#[]⟩], []⟩ <|
  .op ⟨none, none, .store 4 (.s 6) (.s 179) true, [6, 179]⟩ <|
  .op ⟨(some 7), none, .asg (.s 180) true, [180, 180]⟩ <|
  .nil
def r15_18 : XL := .op ⟨(some 181), none, .mv (.s 7), []⟩ <|
  .op ⟨(some 182), none, .mv (.s 181), []⟩ <|
  .sc 182 true (.op ⟨(some 183), (some (182, true)), .fad 1 (.s 1), []⟩ <|
  .op ⟨(some 184), (some (182, true)), .load false 1 (.s 183), []⟩ <|
  .op ⟨(some 185), (some (182, true)), .call 43 [(false, .s 184)] [], []⟩ <|
  .nil) [183, 184, 185] 186 none (.s 182) (.s 185) [] <|
  .op ⟨(some 187), none, .mv (.s 186), []⟩ <|
  .sc 187 true (.op ⟨(some 188), (some (187, true)), .fad 2 (.s 1), []⟩ <|
  .op ⟨(some 189), (some (187, true)), .load false 1 (.s 188), []⟩ <|
  .op ⟨(some 190), (some (187, true)), .call 49 [(false, .s 189)] [], []⟩ <|
  .nil) [188, 189, 190] 191 none (.s 187) (.s 190) [] <|
  .op ⟨(some 192), none, .mv (.s 191), [7, 191]⟩ <|
  .sc 192 true (.op ⟨(some 193), (some (192, true)), .fad 4 (.s 1), []⟩ <|
  .op ⟨(some 194), (some (192, true)), .load false 1 (.s 193), []⟩ <|
  .op ⟨(some 195), (some (192, true)), .call 50 [(false, .s 194)] [], []⟩ <|
  .nil) [193, 194, 195] 196 none (.s 192) (.s 195) [] <|
  .op ⟨(some 197), none, .mv (.s 196), []⟩ <|
  .sc 197 true (.op ⟨(some 198), (some (197, true)), .load true 10 (.s 1), []⟩ <|
  .op ⟨(some 199), (some (197, true)), .fad 4 (.s 1), []⟩ <|
  .op ⟨(some 200), (some (197, true)), .load false 1 (.s 199), []⟩ <|
  .op ⟨(some 201), (some (197, true)), .fad 9 (.s 1), []⟩ <|
  .op ⟨(some 202), (some (197, true)), .load false 1 (.s 201), []⟩ <|
  .op ⟨(some 203), (some (197, true)), .build [.int .i64 0, .int .i64 0, .int .i64 0, .int .i64 0, .int .i64 0, .int .i64 0, .int .i64 0, .bool false, .own 2 [], .str ⟨#[]⟩] [(4, 1, .s 200), (9, 1, .s 202)], []⟩ <|
  .op ⟨(some 204), (some (197, true)), .call 46 [(false, .s 198), (false, .s 203)] [], []⟩ <|
  .nil) [198, 199, 200, 201, 202, 203, 204] 205 none (.s 197) (.s 204) [] <|
  .op ⟨(some 2), none, .asg (.s 205) false, [1, 1, 192, 205]⟩ <|
  .nil
def r15_19 : XL := .op ⟨(some 2), none, .asg (.c ⟨.one, [.bool false]⟩) false, [1, 1, 173, 173]⟩ <|
  .nil
def x15 : XCode := .seq (.ops r15_0) (.seq (.ops r15_1) (.seq (.seq (.ops r15_2) (.block 0 (.seq (.ops r15_3) (.cond (.s 30) (.seq (.ops r15_4) (.ret)) (.seq (.ops r15_5) (.cond (.s 58) (.seq (.ops r15_6) (.ret)) (.seq (.ops r15_7) (.cond (.s 70) (.seq (.ops r15_8) (.ret)) (.seq (.ops r15_9) (.cond (.s 87) (.seq (.ops r15_10) (.ret)) (.seq (.ops r15_11) (.cond (.s 106) (.seq (.ops r15_12) (.ret)) (.seq (.ops r15_13) (.cond (.s 140) (.seq (.ops r15_14) (.seq (.ops r15_15) (.ret))) (.seq (.ops r15_16) (.cond (.s 173) (.seq (.ops r15_17) (.seq (.ops r15_18) (.ret))) (.skip))))))))))))))))) (.seq (.ops r15_19) (.ret))))
theorem m15 : mFun Try.prog Try.f15 x15 [.tmp 2] 1 = true := by kernel_rfl
theorem k15 : Callable Try.prog 15 := callable_of (by kernel_rfl)

/-! loop.example/g00360/laws.eqMsg -/
def r16_0 : XL := .op ⟨(some 2), none, .box (.s 0) false, []⟩ <|
  .op ⟨(some 3), none, .box (.s 1) false, []⟩ <|
  .op ⟨(some 4), none, .asg (.c ⟨.one, [.bool false]⟩) false, [0, 1, 4, 4]⟩ <|
  .nil
def r16_1 : XL := .op ⟨(some 5), none, .fad 0 (.s 2), []⟩ <|
  .op ⟨(some 6), none, .load false 1 (.s 5), []⟩ <|
  .op ⟨(some 7), none, .fad 0 (.s 3), []⟩ <|
  .op ⟨(some 8), none, .load false 1 (.s 7), []⟩ <|
  .op ⟨(some 9), none, .bin .neq (.s 6) (.s 8), [5, 8]⟩ <|
  .nil
def r16_2 : XL := .op ⟨(some 4), none, .asg (.c ⟨.one, [.bool false]⟩) false, [2, 3, 9, 9]⟩ <|
  .nil
def r16_3 : XL := .op ⟨(some 10), none, .fad 1 (.s 2), []⟩ <|
  .op ⟨(some 11), none, .load false 1 (.s 10), []⟩ <|
  .op ⟨(some 12), none, .fad 1 (.s 3), []⟩ <|
  .op ⟨(some 13), none, .load false 1 (.s 12), []⟩ <|
  .op ⟨(some 14), none, .bin .neq (.s 11) (.s 13), [4, 13]⟩ <|
  .nil
def r16_4 : XL := .op ⟨(some 4), none, .asg (.c ⟨.one, [.bool false]⟩) false, [2, 3, 14, 14]⟩ <|
  .nil
def r16_5 : XL := .op ⟨(some 15), none, .fad 2 (.s 2), []⟩ <|
  .op ⟨(some 16), none, .load false 1 (.s 15), []⟩ <|
  .op ⟨(some 17), none, .fad 2 (.s 3), []⟩ <|
  .op ⟨(some 18), none, .load false 1 (.s 17), []⟩ <|
  .op ⟨(some 19), none, .bin .neq (.s 16) (.s 18), [4, 18]⟩ <|
  .nil
def r16_6 : XL := .op ⟨(some 4), none, .asg (.c ⟨.one, [.bool false]⟩) false, [2, 3, 19, 19]⟩ <|
  .nil
def r16_7 : XL := .op ⟨(some 20), none, .fad 3 (.s 2), []⟩ <|
  .op ⟨(some 21), none, .load false 1 (.s 20), []⟩ <|
  .op ⟨(some 22), none, .fad 3 (.s 3), []⟩ <|
  .op ⟨(some 23), none, .load false 1 (.s 22), []⟩ <|
  .op ⟨(some 24), none, .bin .neq (.s 21) (.s 23), [4, 23]⟩ <|
  .nil
def r16_8 : XL := .op ⟨(some 4), none, .asg (.c ⟨.one, [.bool false]⟩) false, [2, 3, 24, 24]⟩ <|
  .nil
def r16_9 : XL := .op ⟨(some 25), none, .fad 4 (.s 2), []⟩ <|
  .op ⟨(some 26), none, .load false 1 (.s 25), []⟩ <|
  .op ⟨(some 27), none, .fad 4 (.s 3), []⟩ <|
  .op ⟨(some 28), none, .load false 1 (.s 27), []⟩ <|
  .op ⟨(some 29), none, .bin .neq (.s 26) (.s 28), [4, 28]⟩ <|
  .nil
def r16_10 : XL := .op ⟨(some 4), none, .asg (.c ⟨.one, [.bool false]⟩) false, [2, 3, 29, 29]⟩ <|
  .nil
def r16_11 : XL := .op ⟨(some 30), none, .fad 5 (.s 2), []⟩ <|
  .op ⟨(some 31), none, .load false 1 (.s 30), []⟩ <|
  .op ⟨(some 32), none, .fad 5 (.s 3), []⟩ <|
  .op ⟨(some 33), none, .load false 1 (.s 32), []⟩ <|
  .op ⟨(some 34), none, .bin .neq (.s 31) (.s 33), [4, 33]⟩ <|
  .nil
def r16_12 : XL := .op ⟨(some 4), none, .asg (.c ⟨.one, [.bool false]⟩) false, [2, 3, 34, 34]⟩ <|
  .nil
def r16_13 : XL := .op ⟨(some 35), none, .fad 6 (.s 2), []⟩ <|
  .op ⟨(some 36), none, .load false 1 (.s 35), []⟩ <|
  .op ⟨(some 37), none, .fad 6 (.s 3), []⟩ <|
  .op ⟨(some 38), none, .load false 1 (.s 37), []⟩ <|
  .op ⟨(some 39), none, .bin .neq (.s 36) (.s 38), [4, 38]⟩ <|
  .nil
def r16_14 : XL := .op ⟨(some 4), none, .asg (.c ⟨.one, [.bool false]⟩) false, [2, 3, 39, 39]⟩ <|
  .nil
def r16_15 : XL := .op ⟨(some 40), none, .fad 7 (.s 2), []⟩ <|
  .op ⟨(some 41), none, .load false 1 (.s 40), []⟩ <|
  .op ⟨(some 42), none, .fad 7 (.s 3), []⟩ <|
  .op ⟨(some 43), none, .load false 1 (.s 42), []⟩ <|
  .op ⟨(some 44), none, .binB true (.s 41) (.s 43), [4, 43]⟩ <|
  .nil
def r16_16 : XL := .op ⟨(some 4), none, .asg (.c ⟨.one, [.bool false]⟩) false, [2, 3, 44, 44]⟩ <|
  .nil
def r16_17 : XL := .op ⟨(some 45), none, .fad 8 (.s 2), []⟩ <|
  .op ⟨(some 46), none, .load false 1 (.s 45), []⟩ <|
  .op ⟨(some 47), none, .fad 8 (.s 3), []⟩ <|
  .op ⟨(some 48), none, .load false 1 (.s 47), []⟩ <|
  .op ⟨(some 49), none, .call 52 [(false, .s 46), (false, .s 48)] [], [4, 48]⟩ <|
  .op ⟨(some 50), none, .un .not (.s 49), [49, 49]⟩ <|
  .nil
def r16_18 : XL := .op ⟨(some 4), none, .asg (.c ⟨.one, [.bool false]⟩) false, [2, 3, 50, 50]⟩ <|
  .nil
def r16_19 : XL := .op ⟨(some 51), none, .fad 9 (.s 2), []⟩ <|
  .op ⟨(some 52), none, .load false 1 (.s 51), []⟩ <|
  .op ⟨(some 53), none, .fad 9 (.s 3), []⟩ <|
  .op ⟨(some 54), none, .load false 1 (.s 53), [2, 51, 53, 53]⟩ <|
  .op ⟨(some 55), none, .bin .neq (.s 52) (.s 54), [52, 54]⟩ <|
  .nil
def r16_20 : XL := .op ⟨(some 4), none, .asg (.c ⟨.one, [.bool false]⟩) false, [55, 55]⟩ <|
  .nil
def r16_21 : XL := .op ⟨(some 4), none, .asg (.c ⟨.one, [.bool true]⟩) false, [55, 55]⟩ <|
  .nil
def x16 : XCode := .seq (.ops r16_0) (.seq (.seq (.ops r16_1) (.cond (.s 9) (.seq (.ops r16_2) (.ret)) (.skip))) (.seq (.seq (.ops r16_3) (.cond (.s 14) (.seq (.ops r16_4) (.ret)) (.skip))) (.seq (.seq (.ops r16_5) (.cond (.s 19) (.seq (.ops r16_6) (.ret)) (.skip))) (.seq (.seq (.ops r16_7) (.cond (.s 24) (.seq (.ops r16_8) (.ret)) (.skip))) (.seq (.seq (.ops r16_9) (.cond (.s 29) (.seq (.ops r16_10) (.ret)) (.skip))) (.seq (.seq (.ops r16_11) (.cond (.s 34) (.seq (.ops r16_12) (.ret)) (.skip))) (.seq (.seq (.ops r16_13) (.cond (.s 39) (.seq (.ops r16_14) (.ret)) (.skip))) (.seq (.seq (.ops r16_15) (.cond (.s 44) (.seq (.ops r16_16) (.ret)) (.skip))) (.seq (.seq (.ops r16_17) (.cond (.s 50) (.seq (.ops r16_18) (.ret)) (.skip))) (.seq (.seq (.ops r16_19) (.cond (.s 55) (.seq (.ops r16_20) (.ret)) (.skip))) (.seq (.ops r16_21) (.ret))))))))))))
theorem m16 : mFun Try.prog Try.f16 x16 [.tmp 4] 2 = true := by kernel_rfl
theorem k16 : Callable Try.prog 16 := callable_of (by kernel_rfl)

/-! loop.example/g00360/spec.ShowMsg -/
def r17_0 : XL := .op ⟨(some 1), none, .box (.s 0) false, []⟩ <|
  .op ⟨(some 2), none, .asg (.c ⟨.one, [.str ⟨#[]⟩]⟩) false, [0, 0, 2, 2]⟩ <|
  .nil
def r17_1 : XL := .op ⟨(some 5), none, .load true 10 (.s 1), []⟩ <|
  .op ⟨(some 6), none, .call 13 [(false, .s 5)] [], []⟩ <|
  .op ⟨(some 7), none, .un .not (.s 6), [5, 6]⟩ <|
  .nil
def r17_2 : XL := .op ⟨(some 2), none, .asg (.c ⟨.one, [.str ⟨#[]⟩]⟩) false, [1, 1, 7, 7]⟩ <|
  .nil
def r17_3v : List XD := [⟨⟨(some 8), none, .fad 0 (.s 1), []⟩, [], []⟩,
  ⟨⟨(some 9), none, .load false 1 (.s 8), []⟩, [0], []⟩,
  ⟨⟨(some 10), none, .call 53 [(false, .s 9)] [], []⟩, [0, 1], []⟩,
  ⟨⟨(some 11), none, .fad 1 (.s 1), []⟩, [], [8, 9, 10]⟩,
  ⟨⟨(some 12), none, .load false 1 (.s 11), []⟩, [3], [8, 9, 10]⟩,
  ⟨⟨(some 13), none, .call 53 [(false, .s 12)] [], []⟩, [0, 1, 2, 3, 4], []⟩,
  ⟨⟨(some 14), none, .bin .add (.s 10) (.s 13), []⟩, [0, 1, 2, 3, 4, 5], []⟩,
  ⟨⟨(some 15), none, .fad 2 (.s 1), []⟩, [], [8, 9, 10, 11, 12, 13, 14]⟩,
  ⟨⟨(some 16), none, .load false 1 (.s 15), []⟩, [7], [8, 9, 10, 11, 12, 13, 14]⟩,
  ⟨⟨(some 17), none, .call 53 [(false, .s 16)] [], []⟩, [0, 1, 2, 3, 4, 5, 7, 8], [14]⟩,
  ⟨⟨(some 18), none, .bin .add (.s 14) (.s 17), []⟩, [0, 1, 2, 3, 4, 5, 6, 7, 8, 9], []⟩,
  ⟨⟨(some 19), none, .fad 3 (.s 1), []⟩, [], [8, 9, 10, 11, 12, 13, 14, 15, 16, 17, 18]⟩,
  ⟨⟨(some 20), none, .load false 1 (.s 19), []⟩, [11], [8, 9, 10, 11, 12, 13, 14, 15, 16, 17, 18]⟩,
  ⟨⟨(some 21), none, .call 53 [(false, .s 20)] [], []⟩, [0, 1, 2, 3, 4, 5, 7, 8, 9, 11, 12], [14, 18]⟩,
  ⟨⟨(some 22), none, .bin .add (.s 18) (.s 21), []⟩, [0, 1, 2, 3, 4, 5, 6, 7, 8, 9, 10, 11, 12, 13], []⟩,
  ⟨⟨(some 23), none, .fad 4 (.s 1), []⟩, [], [8, 9, 10, 11, 12, 13, 14, 15, 16, 17, 18, 19, 20, 21, 22]⟩,
  ⟨⟨(some 24), none, .load false 1 (.s 23), []⟩, [15], [8, 9, 10, 11, 12, 13, 14, 15, 16, 17, 18, 19, 20, 21, 22]⟩,
  ⟨⟨(some 25), none, .call 53 [(false, .s 24)] [], []⟩, [0, 1, 2, 3, 4, 5, 7, 8, 9, 11, 12, 13, 15, 16], [14, 18, 22]⟩,
  ⟨⟨(some 26), none, .bin .add (.s 22) (.s 25), []⟩, [0, 1, 2, 3, 4, 5, 6, 7, 8, 9, 10, 11, 12, 13, 14, 15, 16, 17], []⟩,
  ⟨⟨(some 27), none, .fad 5 (.s 1), []⟩, [], [8, 9, 10, 11, 12, 13, 14, 15, 16, 17, 18, 19, 20, 21, 22, 23, 24, 25, 26]⟩,
  ⟨⟨(some 28), none, .load false 1 (.s 27), []⟩, [19], [8, 9, 10, 11, 12, 13, 14, 15, 16, 17, 18, 19, 20, 21, 22, 23, 24, 25, 26]⟩,
  ⟨⟨(some 29), none, .call 53 [(false, .s 28)] [], []⟩, [0, 1, 2, 3, 4, 5, 7, 8, 9, 11, 12, 13, 15, 16, 17, 19, 20], [14, 18, 22, 26]⟩,
  ⟨⟨(some 30), none, .bin .add (.s 26) (.s 29), []⟩, [0, 1, 2, 3, 4, 5, 6, 7, 8, 9, 10, 11, 12, 13, 14, 15, 16, 17, 18, 19, 20, 21], []⟩,
  ⟨⟨(some 31), none, .fad 6 (.s 1), []⟩, [], [8, 9, 10, 11, 12, 13, 14, 15, 16, 17, 18, 19, 20, 21, 22, 23, 24, 25, 26, 27, 28, 29, 30]⟩,
  ⟨⟨(some 32), none, .load false 1 (.s 31), []⟩, [23], [8, 9, 10, 11, 12, 13, 14, 15, 16, 17, 18, 19, 20, 21, 22, 23, 24, 25, 26, 27, 28, 29, 30]⟩,
  ⟨⟨(some 33), none, .call 53 [(false, .s 32)] [], []⟩, [0, 1, 2, 3, 4, 5, 7, 8, 9, 11, 12, 13, 15, 16, 17, 19, 20, 21, 23, 24], [14, 18, 22, 26, 30]⟩,
  ⟨⟨(some 34), none, .bin .add (.s 30) (.s 33), []⟩, [0, 1, 2, 3, 4, 5, 6, 7, 8, 9, 10, 11, 12, 13, 14, 15, 16, 17, 18, 19, 20, 21, 22, 23, 24, 25], []⟩,
  ⟨⟨(some 35), none, .fad 7 (.s 1), []⟩, [], [8, 9, 10, 11, 12, 13, 14, 15, 16, 17, 18, 19, 20, 21, 22, 23, 24, 25, 26, 27, 28, 29, 30, 31, 32, 33, 34]⟩,
  ⟨⟨(some 36), none, .load false 1 (.s 35), []⟩, [27], [8, 9, 10, 11, 12, 13, 14, 15, 16, 17, 18, 19, 20, 21, 22, 23, 24, 25, 26, 27, 28, 29, 30, 31, 32, 33, 34]⟩,
  ⟨⟨(some 37), none, .call 54 [(false, .s 36)] [], []⟩, [0, 1, 2, 3, 4, 5, 7, 8, 9, 11, 12, 13, 15, 16, 17, 19, 20, 21, 23, 24, 25, 27, 28], [14, 18, 22, 26, 30, 34]⟩,
  ⟨⟨(some 38), none, .call 53 [(false, .s 37)] [], []⟩, [0, 1, 2, 3, 4, 5, 7, 8, 9, 11, 12, 13, 15, 16, 17, 19, 20, 21, 23, 24, 25, 27, 28, 29], [14, 18, 22, 26, 30, 34]⟩,
  ⟨⟨(some 39), none, .bin .add (.s 34) (.s 38), []⟩, [0, 1, 2, 3, 4, 5, 6, 7, 8, 9, 10, 11, 12, 13, 14, 15, 16, 17, 18, 19, 20, 21, 22, 23, 24, 25, 26, 27, 28, 29, 30], []⟩,
  ⟨⟨(some 40), none, .fad 8 (.s 1), []⟩, [], [8, 9, 10, 11, 12, 13, 14, 15, 16, 17, 18, 19, 20, 21, 22, 23, 24, 25, 26, 27, 28, 29, 30, 31, 32, 33, 34, 35, 36, 37, 38, 39]⟩,
  ⟨⟨(some 41), none, .load false 1 (.s 40), []⟩, [32], [8, 9, 10, 11, 12, 13, 14, 15, 16, 17, 18, 19, 20, 21, 22, 23, 24, 25, 26, 27, 28, 29, 30, 31, 32, 33, 34, 35, 36, 37, 38, 39]⟩,
  ⟨⟨(some 42), none, .len false (.s 41), []⟩, [32, 33], [8, 9, 10, 11, 12, 13, 14, 15, 16, 17, 18, 19, 20, 21, 22, 23, 24, 25, 26, 27, 28, 29, 30, 31, 32, 33, 34, 35, 36, 37, 38, 39]⟩,
  ⟨⟨(some 43), none, .call 53 [(false, .s 42)] [], []⟩, [0, 1, 2, 3, 4, 5, 7, 8, 9, 11, 12, 13, 15, 16, 17, 19, 20, 21, 23, 24, 25, 27, 28, 29, 30, 32, 33, 34], [14, 18, 22, 26, 30, 34, 39]⟩]
def r17_3t : List XD := [⟨⟨(some 44), none, .bin .add (.s 39) (.s 43), []⟩, [0, 1, 2, 3, 4, 5, 6, 7, 8, 9, 10, 11, 12, 13, 14, 15, 16, 17, 18, 19, 20, 21, 22, 23, 24, 25, 26, 27, 28, 29, 30, 31, 32, 33, 34, 35], []⟩,
  ⟨⟨(some 3), none, .asg (.s 44) false, [2, 2, 7, 44]⟩, [0, 1, 2, 3, 4, 5, 6, 7, 8, 9, 10, 11, 12, 13, 14, 15, 16, 17, 18, 19, 20, 21, 22, 23, 24, 25, 26, 27, 28, 29, 30, 31, 32, 33, 34, 35, 36], []⟩]
def r17_4 : XL := .op ⟨(some 4), none, .asg (.c ⟨.one, [.int .i64 0]⟩) false, []⟩ <|
  .nil
def r17_5 : XL := .op ⟨(some 45), none, .mv (.s 4), []⟩ <|
  .op ⟨(some 46), none, .fad 8 (.s 1), []⟩ <|
  .op ⟨(some 47), none, .load false 1 (.s 46), []⟩ <|
  .op ⟨(some 48), none, .len false (.s 47), []⟩ <|
  .op ⟨(some 49), none, .bin .lss (.s 45) (.s 48), [45, 48]⟩ <|
  .nil
def r17_7v : List XD := [⟨⟨(some 52), none, .mv (.s 3), []⟩, [], []⟩,
  ⟨⟨(some 53), none, .fad 8 (.s 1), []⟩, [], [52]⟩,
  ⟨⟨(some 54), none, .load false 1 (.s 53), []⟩, [1], [52]⟩,
  ⟨⟨(some 55), none, .mv (.s 4), []⟩, [], [52, 53, 54]⟩,
  ⟨⟨(some 56), none, .iad 2 (.s 54) (.s 55), []⟩, [1, 2, 3], [52]⟩,
  ⟨⟨(some 57), none, .fad 0 (.s 56), []⟩, [1, 2, 3, 4], [52]⟩,
  ⟨⟨(some 58), none, .load false 1 (.s 57), []⟩, [1, 2, 3, 4, 5], [52]⟩,
  ⟨⟨(some 59), none, .call 53 [(false, .s 58)] [], []⟩, [1, 2, 3, 4, 5, 6], [52]⟩,
  ⟨⟨(some 60), none, .bin .add (.s 52) (.s 59), []⟩, [0, 1, 2, 3, 4, 5, 6, 7], []⟩,
  ⟨⟨(some 61), none, .fad 8 (.s 1), []⟩, [], [52, 53, 54, 55, 56, 57, 58, 59, 60]⟩,
  ⟨⟨(some 62), none, .load false 1 (.s 61), []⟩, [9], [52, 53, 54, 55, 56, 57, 58, 59, 60]⟩,
  ⟨⟨(some 63), none, .mv (.s 4), []⟩, [], [52, 53, 54, 55, 56, 57, 58, 59, 60, 61, 62]⟩,
  ⟨⟨(some 64), none, .iad 2 (.s 62) (.s 63), []⟩, [9, 10, 11], [52, 53, 54, 55, 56, 57, 58, 59, 60]⟩,
  ⟨⟨(some 65), none, .fad 1 (.s 64), []⟩, [9, 10, 11, 12], [52, 53, 54, 55, 56, 57, 58, 59, 60]⟩,
  ⟨⟨(some 66), none, .load false 1 (.s 65), []⟩, [9, 10, 11, 12, 13], [52, 53, 54, 55, 56, 57, 58, 59, 60]⟩,
  ⟨⟨(some 67), none, .len true (.s 66), []⟩, [9, 10, 11, 12, 13, 14], [52, 53, 54, 55, 56, 57, 58, 59, 60]⟩,
  ⟨⟨(some 68), none, .call 53 [(false, .s 67)] [], []⟩, [1, 2, 3, 4, 5, 6, 7, 9, 10, 11, 12, 13, 14, 15], [52, 60]⟩,
  ⟨⟨(some 69), none, .bin .add (.s 60) (.s 68), []⟩, [0, 1, 2, 3, 4, 5, 6, 7, 8, 9, 10, 11, 12, 13, 14, 15, 16], []⟩,
  ⟨⟨(some 70), none, .fad 8 (.s 1), []⟩, [], [52, 53, 54, 55, 56, 57, 58, 59, 60, 61, 62, 63, 64, 65, 66, 67, 68, 69]⟩,
  ⟨⟨(some 71), none, .load false 1 (.s 70), []⟩, [18], [52, 53, 54, 55, 56, 57, 58, 59, 60, 61, 62, 63, 64, 65, 66, 67, 68, 69]⟩,
  ⟨⟨(some 72), none, .mv (.s 4), []⟩, [], [52, 53, 54, 55, 56, 57, 58, 59, 60, 61, 62, 63, 64, 65, 66, 67, 68, 69, 70, 71]⟩,
  ⟨⟨(some 73), none, .iad 2 (.s 71) (.s 72), []⟩, [18, 19, 20], [52, 53, 54, 55, 56, 57, 58, 59, 60, 61, 62, 63, 64, 65, 66, 67, 68, 69]⟩,
  ⟨⟨(some 74), none, .fad 1 (.s 73), []⟩, [18, 19, 20, 21], [52, 53, 54, 55, 56, 57, 58, 59, 60, 61, 62, 63, 64, 65, 66, 67, 68, 69]⟩,
  ⟨⟨(some 75), none, .load false 1 (.s 74), []⟩, [18, 19, 20, 21, 22], [52, 53, 54, 55, 56, 57, 58, 59, 60, 61, 62, 63, 64, 65, 66, 67, 68, 69]⟩]
def r17_7t : List XD := [⟨⟨(some 76), none, .bin .add (.s 69) (.s 75), []⟩, [0, 1, 2, 3, 4, 5, 6, 7, 8, 9, 10, 11, 12, 13, 14, 15, 16, 17, 18, 19, 20, 21, 22, 23], []⟩,
  ⟨⟨(some 3), none, .asg (.s 76) false, [49, 76]⟩, [0, 1, 2, 3, 4, 5, 6, 7, 8, 9, 10, 11, 12, 13, 14, 15, 16, 17, 18, 19, 20, 21, 22, 23, 24], []⟩]
def r17_6 : XL := .op ⟨(some 50), none, .mv (.s 4), []⟩ <|
  .op ⟨(some 51), none, .bin .add (.s 50) (.c ⟨.one, [.int .i64 1]⟩), []⟩ <|
  .op ⟨(some 4), none, .asg (.s 51) false, [50, 51]⟩ <|
  .nil
def l17_0 : XCode := .keep [1, 3, 4] [1] (.seq (.seq (.ops r17_5) (.cond (.s 49) (.skip) (.exit 0))) (.seq (.block 1 (.any r17_7v r17_7t)) (.ops r17_6)))
def r17_8 : XL := .op ⟨(some 77), none, .mv (.s 3), []⟩ <|
  .op ⟨(some 78), none, .fad 9 (.s 1), []⟩ <|
  .op ⟨(some 79), none, .load false 1 (.s 78), []⟩ <|
  .op ⟨(some 80), none, .bin .add (.s 77) (.s 79), [1, 79]⟩ <|
  .op ⟨(some 3), none, .asg (.s 80) false, [80, 80]⟩ <|
  .nil
def r17_9 : XL := .op ⟨(some 81), none, .mv (.s 3), []⟩ <|
  .op ⟨(some 82), none, .call 56 [(false, .s 81)] [], []⟩ <|
  .op ⟨(some 83), none, .call 55 [(false, .s 82), (false, .c ⟨.one, [.int .i64 4]⟩)] [], []⟩ <|
  .op ⟨(some 84), none, .mv (.s 3), []⟩ <|
  .op ⟨(some 85), none, .bin .add (.s 83) (.s 84), []⟩ <|
  .op ⟨(some 2), none, .asg (.s 85) false, [3, 85]⟩ <|
  .nil
def x17 : XCode := .seq (.ops r17_0) (.seq (.seq (.ops r17_1) (.cond (.s 7) (.seq (.ops r17_2) (.ret)) (.skip))) (.seq (.any r17_3v r17_3t) (.seq (.seq (.ops r17_4) (.block 0 (.loop l17_0))) (.seq (.ops r17_8) (.seq (.ops r17_9) (.ret))))))
theorem m17 : mFun Try.prog Try.f17 x17 [.tmp 2] 1 = true := by kernel_rfl
theorem k17 : Callable Try.prog 17 := callable_of (by kernel_rfl)

/-! loop.example/g00360/impl.ShowMsg -/
def r18_0 : XL := .op ⟨(some 1), none, .box (.s 0) false, []⟩ <|
  .op ⟨(some 2), none, .asg (.c ⟨.one, [.str ⟨#[]⟩]⟩) false, [0, 0, 2, 2]⟩ <|
  .nil
def r18_1 : XL := .op ⟨(some 9), none, .load true 10 (.s 1), []⟩ <|
  .op ⟨(some 10), none, .call 15 [(false, .s 9)] [], []⟩ <|
  .op ⟨(some 11), none, .un .not (.s 10), [9, 10]⟩ <|
  .nil
def r18_2 : XL := .op ⟨(some 2), none, .asg (.c ⟨.one, [.str ⟨#[]⟩]⟩) false, [1, 1, 11, 11]⟩ <|
  .nil
def r18_3 : XL := .op ⟨(some 3), none, .asg (.c ⟨.one, [.int .i64 0]⟩) false, [2, 2, 11, 11]⟩ <|
  .nil
def r18_4 : XL := .op ⟨(some 12), none, .fad 7 (.s 1), []⟩ <|
  .op ⟨(some 13), none, .load false 1 (.s 12), [12, 12]⟩ <|
  .nil
def r18_5 : XL := .op ⟨(some 3), none, .asg (.c ⟨.one, [.int .i64 1]⟩) false, [13, 13]⟩ <|
  .nil
def r18_6 : XL := .op ⟨(some 4), none, .asg (.c ⟨.one, [.str ⟨#[]⟩]⟩) false, [13, 13]⟩ <|
  .nil
def r18_7 : XL := .op ⟨(some 14), none, .fad 0 (.s 1), []⟩ <|
  .op ⟨(some 15), none, .load false 1 (.s 14), []⟩ <|
  .op ⟨(some 16), none, .fad 1 (.s 1), []⟩ <|
  .op ⟨(some 17), none, .load false 1 (.s 16), []⟩ <|
  .op ⟨(some 18), none, .fad 2 (.s 1), []⟩ <|
  .op ⟨(some 19), none, .load false 1 (.s 18), []⟩ <|
  .op ⟨(some 20), none, .fad 3 (.s 1), []⟩ <|
  .op ⟨(some 21), none, .load false 1 (.s 20), []⟩ <|
  .op ⟨(some 22), none, .fad 4 (.s 1), []⟩ <|
  .op ⟨(some 23), none, .load false 1 (.s 22), []⟩ <|
  .op ⟨(some 24), none, .fad 5 (.s 1), []⟩ <|
  .op ⟨(some 25), none, .load false 1 (.s 24), [14, 14, 16, 16, 18, 18, 20, 20, 22, 22, 24, 24]⟩ <|
  .op ⟨(some 26), none, .fad 6 (.s 1), []⟩ <|
  .op ⟨(some 27), none, .load false 1 (.s 26), []⟩ <|
  .op ⟨(some 28), none, .mv (.s 3), []⟩ <|
  .op ⟨(some 29), none, .fad 8 (.s 1), []⟩ <|
  .op ⟨(some 30), none, .load false 1 (.s 29), []⟩ <|
  .op ⟨(some 31), none, .len false (.s 30), []⟩ <|
  .op ⟨(some 32), none, .bslice 1 [.s 15, .s 17, .s 19, .s 21, .s 23, .s 25, .s 27, .s 28, .s 31], [3, 3, 15, 31]⟩ <|
  .op ⟨(some 33), none, .len false (.s 32), []⟩ <|
  .op ⟨(some 34), none, .mv (.c ⟨.one, [.int .i64 0]⟩), []⟩ <|
  .nil
def r18_8 : XL := .op ⟨(some 35), none, .bin .lss (.s 34) (.s 33), []⟩ <|
  .nil
def r18_9 : XL := .op ⟨(some 36), none, .iad 1 (.s 32) (.s 34), []⟩ <|
  .op ⟨(some 37), none, .load false 1 (.s 36), []⟩ <|
  .op ⟨(some 6), none, .asg (.s 37) false, [35, 37]⟩ <|
  .nil
def r18_10 : XL := .op ⟨(some 38), none, .mv (.s 4), []⟩ <|
  .op ⟨(some 39), none, .mv (.s 6), []⟩ <|
  .op ⟨(some 40), none, .call 57 [(false, .s 39)] [], []⟩ <|
  .op ⟨(some 41), none, .bin .add (.s 38) (.s 40), []⟩ <|
  .op ⟨(some 4), none, .asg (.s 41) false, [6, 6, 38, 41]⟩ <|
  .nil
def r18_11 : XL := .op ⟨(some 42), none, .bin .add (.s 34) (.c ⟨.one, [.int .i64 1]⟩), []⟩ <|
  .op ⟨(some 34), none, .mv (.s 42), [42, 42]⟩ <|
  .nil
def l18_0 : XCode := .keep [1, 4, 32, 33, 34] [1] (.seq (.ops r18_8) (.seq (.cond (.s 35) (.skip) (.exit 0)) (.seq (.block 1 (.seq (.ops r18_9) (.ops r18_10))) (.ops r18_11))))
def r18_12 : XL := .op ⟨(some 43), none, .fad 8 (.s 1), []⟩ <|
  .op ⟨(some 44), none, .load false 1 (.s 43), []⟩ <|
  .op ⟨(some 45), none, .len false (.s 44), []⟩ <|
  .op ⟨(some 46), none, .mv (.c ⟨.one, [.int .i64 0]⟩), [32, 34]⟩ <|
  .nil
def r18_13 : XL := .op ⟨(some 47), none, .bin .lss (.s 46) (.s 45), []⟩ <|
  .nil
def r18_14 : XL := .op ⟨(some 48), none, .iad 2 (.s 44) (.s 46), []⟩ <|
  .op ⟨(some 49), none, .load true 2 (.s 48), []⟩ <|
  .op ⟨(some 8), none, .alloc [.int .i64 0, .str ⟨#[]⟩], []⟩ <|
  .op ⟨none, none, .store 2 (.s 8) (.s 49) false, [47, 49]⟩ <|
  .nil
def r18_15v : List XD := [⟨⟨(some 50), none, .mv (.s 4), []⟩, [], []⟩,
  ⟨⟨(some 51), none, .fad 0 (.s 8), []⟩, [], [50]⟩,
  ⟨⟨(some 52), none, .load false 1 (.s 51), []⟩, [1], [50]⟩,
  ⟨⟨(some 53), none, .call 57 [(false, .s 52)] [], []⟩, [1, 2], [50]⟩,
  ⟨⟨(some 54), none, .fad 1 (.s 8), []⟩, [], [50, 51, 52, 53]⟩,
  ⟨⟨(some 55), none, .load false 1 (.s 54), []⟩, [4], [50, 51, 52, 53]⟩,
  ⟨⟨(some 56), none, .call 58 [(false, .s 55)] [], []⟩, [1, 2, 3, 4, 5], [50]⟩,
  ⟨⟨(some 57), none, .bin .add (.s 53) (.s 56), []⟩, [1, 2, 3, 4, 5, 6], [50]⟩]
def r18_15t : List XD := [⟨⟨(some 58), none, .bin .add (.s 50) (.s 57), []⟩, [0, 1, 2, 3, 4, 5, 6, 7], []⟩,
  ⟨⟨(some 4), none, .asg (.s 58) false, [8, 8, 50, 58]⟩, [0, 1, 2, 3, 4, 5, 6, 7, 8], []⟩]
def r18_16 : XL := .op ⟨(some 59), none, .bin .add (.s 46) (.c ⟨.one, [.int .i64 1]⟩), []⟩ <|
  .op ⟨(some 46), none, .mv (.s 59), [59, 59]⟩ <|
  .nil
def l18_1 : XCode := .keep [1, 4, 43, 44, 45, 46] [1] (.seq (.ops r18_13) (.seq (.cond (.s 47) (.skip) (.exit 2)) (.seq (.block 3 (.seq (.ops r18_14) (.any r18_15v r18_15t))) (.ops r18_16))))
def r18_17 : XL := .op ⟨(some 60), none, .mv (.s 4), []⟩ <|
  .op ⟨(some 61), none, .fad 9 (.s 1), []⟩ <|
  .op ⟨(some 62), none, .load false 1 (.s 61), [1, 46, 61, 61]⟩ <|
  .op ⟨(some 63), none, .bin .add (.s 60) (.s 62), []⟩ <|
  .op ⟨(some 4), none, .asg (.s 63) false, [60, 63]⟩ <|
  .nil
def r18_18 : XL := .op ⟨(some 64), none, .mv (.s 4), []⟩ <|
  .op ⟨(some 65), none, .call 60 [(false, .s 64)] [], []⟩ <|
  .op ⟨(some 66), none, .call 59 [(false, .s 65), (false, .c ⟨.one, [.int .i64 4]⟩)] [], []⟩ <|
  .op ⟨(some 67), none, .mv (.s 4), []⟩ <|
  .op ⟨(some 68), none, .bin .add (.s 66) (.s 67), []⟩ <|
  .op ⟨(some 2), none, .asg (.s 68) false, [4, 68]⟩ <|
  .nil
def x18 : XCode := .seq (.ops r18_0) (.seq (.seq (.ops r18_1) (.cond (.s 11) (.seq (.ops r18_2) (.ret)) (.skip))) (.seq (.ops r18_3) (.seq (.seq (.ops r18_4) (.cond (.s 13) (.ops r18_5) (.skip))) (.seq (.ops r18_6) (.seq (.seq (.ops r18_7) (.block 0 (.loop l18_0))) (.seq (.seq (.ops r18_12) (.block 2 (.loop l18_1))) (.seq (.ops r18_17) (.seq (.ops r18_18) (.ret)))))))))
theorem m18 : mFun Try.prog Try.f18 x18 [.tmp 2] 1 = true := by kernel_rfl
theorem k18 : Callable Try.prog 18 := callable_of (by kernel_rfl)

/-! loop.example/g00360/spec.ReadMsg -/
def r24_0 : XL := .op ⟨(some 2), none, .alloc [.int .i64 0, .int .i64 0, .int .i64 0, .int .i64 0, .int .i64 0, .int .i64 0, .int .i64 0, .bool false, .own 2 [], .str ⟨#[]⟩], []⟩ <|
  .op ⟨(some 3), none, .asg (.c ⟨.one, [.bool false]⟩) false, [3, 3]⟩ <|
  .nil
def r24_1 : XL := .op ⟨(some 13), none, .mv (.s 0), []⟩ <|
  .op ⟨(some 14), none, .call 79 [(false, .s 13), (false, .c ⟨.one, [.int .i64 4]⟩), (false, .c ⟨.one, [.int .i64 9]⟩)] [], []⟩ <|
  .op ⟨(some 12), none, .mv (.s 14), []⟩ <|
  .op ⟨(some 15), none, .ext 0 (.s 12), []⟩ <|
  .op ⟨(some 16), none, .ext 1 (.s 12), []⟩ <|
  .op ⟨(some 4), none, .asg (.s 15) true, []⟩ <|
  .op ⟨(some 5), none, .asg (.s 16) true, [12, 16]⟩ <|
  .nil
def r24_2 : XL := .op ⟨(some 17), none, .mv (.s 5), []⟩ <|
  .op ⟨(some 18), none, .bin .lss (.s 17) (.c ⟨.one, [.int .i64 0]⟩), []⟩ <|
  .op ⟨(some 19), none, .mv (.s 18), []⟩ <|
  .sc 19 false (.op ⟨(some 20), (some (19, false)), .mv (.s 4), []⟩ <|
  .op ⟨(some 21), (some (19, false)), .iad 1 (.s 20) (.c ⟨.one, [.int .i64 8]⟩), []⟩ <|
  .op ⟨(some 22), (some (19, false)), .load false 1 (.s 21), []⟩ <|
  .op ⟨(some 23), (some (19, false)), .bin .gtr (.s 22) (.c ⟨.one, [.int .i64 4]⟩), []⟩ <|
  .nil) [20, 21, 22, 23] 24 none (.s 19) (.s 23) [17, 19] <|
  .nil
def r24_3 : XL := .op ⟨(some 25), none, .build [.int .i64 0, .int .i64 0, .int .i64 0, .int .i64 0, .int .i64 0, .int .i64 0, .int .i64 0, .bool false, .own 2 [], .str ⟨#[]⟩] [], []⟩ <|
  .op ⟨none, none, .store 10 (.s 2) (.s 25) false, []⟩ <|
  .op ⟨(some 3), none, .asg (.c ⟨.one, [.bool false]⟩) false, [0, 0, 4, 25]⟩ <|
  .nil
def r24_4v : List XD := [⟨⟨(some 26), none, .mv (.s 4), []⟩, [], []⟩,
  ⟨⟨(some 27), none, .iad 1 (.s 26) (.c ⟨.one, [.int .i64 0]⟩), []⟩, [0], []⟩,
  ⟨⟨(some 28), none, .load false 1 (.s 27), []⟩, [0, 1], []⟩,
  ⟨⟨(some 29), none, .mv (.s 4), []⟩, [], [26, 27, 28]⟩,
  ⟨⟨(some 30), none, .iad 1 (.s 29) (.c ⟨.one, [.int .i64 1]⟩), []⟩, [3], [26, 27, 28]⟩,
  ⟨⟨(some 31), none, .load false 1 (.s 30), []⟩, [3, 4], [26, 27, 28]⟩,
  ⟨⟨(some 32), none, .mv (.s 4), []⟩, [], [26, 27, 28, 29, 30, 31]⟩,
  ⟨⟨(some 33), none, .iad 1 (.s 32) (.c ⟨.one, [.int .i64 2]⟩), []⟩, [6], [26, 27, 28, 29, 30, 31]⟩,
  ⟨⟨(some 34), none, .load false 1 (.s 33), []⟩, [6, 7], [26, 27, 28, 29, 30, 31]⟩,
  ⟨⟨(some 35), none, .mv (.s 4), []⟩, [], [26, 27, 28, 29, 30, 31, 32, 33, 34]⟩,
  ⟨⟨(some 36), none, .iad 1 (.s 35) (.c ⟨.one, [.int .i64 3]⟩), []⟩, [9], [26, 27, 28, 29, 30, 31, 32, 33, 34]⟩,
  ⟨⟨(some 37), none, .load false 1 (.s 36), []⟩, [9, 10], [26, 27, 28, 29, 30, 31, 32, 33, 34]⟩,
  ⟨⟨(some 38), none, .mv (.s 4), []⟩, [], [26, 27, 28, 29, 30, 31, 32, 33, 34, 35, 36, 37]⟩,
  ⟨⟨(some 39), none, .iad 1 (.s 38) (.c ⟨.one, [.int .i64 4]⟩), []⟩, [12], [26, 27, 28, 29, 30, 31, 32, 33, 34, 35, 36, 37]⟩,
  ⟨⟨(some 40), none, .load false 1 (.s 39), []⟩, [12, 13], [26, 27, 28, 29, 30, 31, 32, 33, 34, 35, 36, 37]⟩,
  ⟨⟨(some 41), none, .mv (.s 4), []⟩, [], [26, 27, 28, 29, 30, 31, 32, 33, 34, 35, 36, 37, 38, 39, 40]⟩,
  ⟨⟨(some 42), none, .iad 1 (.s 41) (.c ⟨.one, [.int .i64 5]⟩), []⟩, [15], [26, 27, 28, 29, 30, 31, 32, 33, 34, 35, 36, 37, 38, 39, 40]⟩,
  ⟨⟨(some 43), none, .load false 1 (.s 42), []⟩, [15, 16], [26, 27, 28, 29, 30, 31, 32, 33, 34, 35, 36, 37, 38, 39, 40]⟩,
  ⟨⟨(some 44), none, .mv (.s 4), []⟩, [], [26, 27, 28, 29, 30, 31, 32, 33, 34, 35, 36, 37, 38, 39, 40, 41, 42, 43]⟩,
  ⟨⟨(some 45), none, .iad 1 (.s 44) (.c ⟨.one, [.int .i64 6]⟩), []⟩, [18], [26, 27, 28, 29, 30, 31, 32, 33, 34, 35, 36, 37, 38, 39, 40, 41, 42, 43]⟩,
  ⟨⟨(some 46), none, .load false 1 (.s 45), []⟩, [18, 19], [26, 27, 28, 29, 30, 31, 32, 33, 34, 35, 36, 37, 38, 39, 40, 41, 42, 43]⟩,
  ⟨⟨(some 47), none, .mv (.s 4), []⟩, [], [26, 27, 28, 29, 30, 31, 32, 33, 34, 35, 36, 37, 38, 39, 40, 41, 42, 43, 44, 45, 46]⟩,
  ⟨⟨(some 48), none, .iad 1 (.s 47) (.c ⟨.one, [.int .i64 7]⟩), []⟩, [21], [26, 27, 28, 29, 30, 31, 32, 33, 34, 35, 36, 37, 38, 39, 40, 41, 42, 43, 44, 45, 46]⟩,
  ⟨⟨(some 49), none, .load false 1 (.s 48), []⟩, [21, 22], [26, 27, 28, 29, 30, 31, 32, 33, 34, 35, 36, 37, 38, 39, 40, 41, 42, 43, 44, 45, 46]⟩,
  ⟨⟨(some 50), none, .bin .eql (.s 49) (.c ⟨.one, [.int .i64 1]⟩), []⟩, [21, 22, 23], [26, 27, 28, 29, 30, 31, 32, 33, 34, 35, 36, 37, 38, 39, 40, 41, 42, 43, 44, 45, 46]⟩,
  ⟨⟨(some 51), none, .build [.int .i64 0, .int .i64 0, .int .i64 0, .int .i64 0, .int .i64 0, .int .i64 0, .int .i64 0, .bool false, .own 2 [], .str ⟨#[]⟩] [(0, 1, .s 28), (1, 1, .s 31), (2, 1, .s 34), (3, 1, .s 37), (4, 1, .s 40), (5, 1, .s 43), (6, 1, .s 46), (7, 1, .s 50)], []⟩, [0, 1, 2, 3, 4, 5, 6, 7, 8, 9, 10, 11, 12, 13, 14, 15, 16, 17, 18, 19, 20, 21, 22, 23, 24], []⟩,
  ⟨⟨(some 6), none, .alloc [.int .i64 0, .int .i64 0, .int .i64 0, .int .i64 0, .int .i64 0, .int .i64 0, .int .i64 0, .bool false, .own 2 [], .str ⟨#[]⟩], []⟩, [], [26, 27, 28, 29, 30, 31, 32, 33, 34, 35, 36, 37, 38, 39, 40, 41, 42, 43, 44, 45, 46, 47, 48, 49, 50, 51]⟩]
def r24_4t : List XD := [⟨⟨none, none, .store 10 (.s 6) (.s 51) false, [3, 3, 24, 51]⟩, [0, 1, 2, 3, 4, 5, 6, 7, 8, 9, 10, 11, 12, 13, 14, 15, 16, 17, 18, 19, 20, 21, 22, 23, 24, 25, 26], []⟩]
def r24_5 : XL := .op ⟨(some 52), none, .mv (.s 4), []⟩ <|
  .op ⟨(some 53), none, .iad 1 (.s 52) (.c ⟨.one, [.int .i64 8]⟩), []⟩ <|
  .op ⟨(some 54), none, .load false 1 (.s 53), []⟩ <|
  .op ⟨(some 7), none, .asg (.s 54) false, [4, 4, 52, 54]⟩ <|
  .nil
def r24_6 : XL := .op ⟨(some 55), none, .mv (.s 7), []⟩ <|
  .op ⟨(some 56), none, .bin .gtr (.s 55) (.c ⟨.one, [.int .i64 0]⟩), [55, 55]⟩ <|
  .nil
def r24_8 : XL := .op ⟨(some 60), none, .mv (.s 0), []⟩ <|
  .op ⟨(some 61), none, .mv (.s 5), []⟩ <|
  .op ⟨(some 62), none, .call 79 [(false, .s 60), (false, .s 61), (false, .c ⟨.one, [.int .i64 1]⟩)] [], []⟩ <|
  .op ⟨(some 59), none, .mv (.s 62), []⟩ <|
  .op ⟨(some 63), none, .ext 0 (.s 59), []⟩ <|
  .op ⟨(some 64), none, .ext 1 (.s 59), []⟩ <|
  .op ⟨(some 8), none, .asg (.s 63) true, [5, 5, 56, 63]⟩ <|
  .op ⟨(some 9), none, .asg (.s 64) true, [64, 64]⟩ <|
  .nil
def r24_9 : XL := .op ⟨(some 65), none, .mv (.s 9), []⟩ <|
  .op ⟨(some 66), none, .bin .lss (.s 65) (.c ⟨.one, [.int .i64 0]⟩), [65, 65]⟩ <|
  .nil
def r24_10 : XL := .op ⟨(some 67), none, .build [.int .i64 0, .int .i64 0, .int .i64 0, .int .i64 0, .int .i64 0, .int .i64 0, .int .i64 0, .bool false, .own 2 [], .str ⟨#[]⟩] [], [0, 0, 6, 66]⟩ <|
  .op ⟨none, none, .store 10 (.s 2) (.s 67) false, []⟩ <|
  .op ⟨(some 3), none, .asg (.c ⟨.one, [.bool false]⟩) false, [67, 67]⟩ <|
  .nil
def r24_11 : XL := .op ⟨(some 69), none, .mv (.s 0), []⟩ <|
  .op ⟨(some 70), none, .mv (.s 9), []⟩ <|
  .op ⟨(some 71), none, .call 80 [(false, .s 69), (false, .s 70)] [], []⟩ <|
  .op ⟨(some 68), none, .mv (.s 71), []⟩ <|
  .op ⟨(some 72), none, .ext 0 (.s 68), []⟩ <|
  .op ⟨(some 73), none, .ext 1 (.s 68), [3, 3, 9, 71]⟩ <|
  .op ⟨(some 10), none, .asg (.s 72) true, []⟩ <|
  .op ⟨(some 11), none, .asg (.s 73) true, [72, 73]⟩ <|
  .nil
def r24_12 : XL := .op ⟨(some 74), none, .mv (.s 11), []⟩ <|
  .op ⟨(some 75), none, .bin .lss (.s 74) (.c ⟨.one, [.int .i64 0]⟩), [74, 74]⟩ <|
  .nil
def r24_13 : XL := .op ⟨(some 76), none, .build [.int .i64 0, .int .i64 0, .int .i64 0, .int .i64 0, .int .i64 0, .int .i64 0, .int .i64 0, .bool false, .own 2 [], .str ⟨#[]⟩] [], [0, 0, 6, 75]⟩ <|
  .op ⟨none, none, .store 10 (.s 2) (.s 76) false, []⟩ <|
  .op ⟨(some 3), none, .asg (.c ⟨.one, [.bool false]⟩) false, [76, 76]⟩ <|
  .nil
def r24_14v : List XD := [⟨⟨(some 77), none, .fad 8 (.s 6), []⟩, [], []⟩,
  ⟨⟨(some 78), none, .load false 1 (.s 77), []⟩, [0], []⟩,
  ⟨⟨(some 79), none, .mv (.s 8), []⟩, [], [77, 78]⟩,
  ⟨⟨(some 80), none, .iad 1 (.s 79) (.c ⟨.one, [.int .i64 0]⟩), []⟩, [2], [77, 78]⟩,
  ⟨⟨(some 81), none, .load false 1 (.s 80), []⟩, [2, 3], [77, 78]⟩,
  ⟨⟨(some 82), none, .mv (.s 10), []⟩, [], [77, 78, 79, 80, 81]⟩,
  ⟨⟨(some 83), none, .build [.int .i64 0, .str ⟨#[]⟩] [(0, 1, .s 81), (1, 1, .s 82)], []⟩, [2, 3, 4, 5], [77, 78]⟩,
  ⟨⟨(some 84), none, .bslice 2 [.s 83], []⟩, [2, 3, 4, 5, 6], [77, 78]⟩]
def r24_14t : List XD := [⟨⟨(some 85), none, .app 2 24 (.s 78) (.s 84) false, []⟩, [0, 1, 2, 3, 4, 5, 6, 7], []⟩,
  ⟨⟨(some 86), none, .fad 8 (.s 6), []⟩, [0, 1, 2, 3, 4, 5, 6, 7, 8], []⟩,
  ⟨⟨none, none, .store 1 (.s 86) (.s 85) false, [3, 3, 8, 10, 75, 86]⟩, [0, 1, 2, 3, 4, 5, 6, 7, 8, 9], []⟩]
def r24_15 : XL := .op ⟨(some 87), none, .mv (.s 11), []⟩ <|
  .op ⟨(some 5), none, .asg (.s 87) true, [11, 87]⟩ <|
  .nil
def r24_7 : XL := .op ⟨(some 57), none, .mv (.s 7), []⟩ <|
  .op ⟨(some 58), none, .bin .sub (.s 57) (.c ⟨.one, [.int .i64 1]⟩), []⟩ <|
  .op ⟨(some 7), none, .asg (.s 58) false, [57, 58]⟩ <|
  .nil
def l24_0 : XCode := .keep [0, 2, 5, 6, 7] [2, 6] (.seq (.seq (.ops r24_6) (.cond (.s 56) (.skip) (.exit 0))) (.seq (.block 1 (.seq (.ops r24_8) (.seq (.seq (.ops r24_9) (.cond (.s 66) (.seq (.ops r24_10) (.ret)) (.skip))) (.seq (.ops r24_11) (.seq (.seq (.ops r24_12) (.cond (.s 75) (.seq (.ops r24_13) (.ret)) (.skip))) (.seq (.any r24_14v r24_14t) (.ops r24_15))))))) (.ops r24_7)))
def r24_16 : XL := .op ⟨(some 88), none, .mv (.s 0), []⟩ <|
  .op ⟨(some 89), none, .mv (.s 5), []⟩ <|
  .op ⟨(some 90), none, .slcS (.s 88) (some (.s 89)) none, []⟩ <|
  .op ⟨(some 91), none, .fad 9 (.s 6), []⟩ <|
  .op ⟨none, none, .store 1 (.s 91) (.s 90) false, [5, 5, 7, 91]⟩ <|
  .nil
def r24_17 : XL := .op ⟨(some 92), none, .load true 10 (.s 6), []⟩ <|
  .op ⟨(some 93), none, .call 17 [(false, .s 92)] [], []⟩ <|
  .op ⟨(some 94), none, .mv (.s 0), []⟩ <|
  .op ⟨(some 95), none, .bin .neq (.s 93) (.s 94), [0, 0, 92, 94]⟩ <|
  .nil
def r24_18 : XL := .op ⟨(some 96), none, .build [.int .i64 0, .int .i64 0, .int .i64 0, .int .i64 0, .int .i64 0, .int .i64 0, .int .i64 0, .bool false, .own 2 [], .str ⟨#[]⟩] [], []⟩ <|
  .op ⟨none, none, .store 10 (.s 2) (.s 96) false, []⟩ <|
  .op ⟨(some 3), none, .asg (.c ⟨.one, [.bool false]⟩) false, [6, 96]⟩ <|
  .nil
def r24_19 : XL := .op ⟨(some 97), none, .load true 10 (.s 6), []⟩ <|
  .op ⟨none, none, .store 10 (.s 2) (.s 97) false, []⟩ <|
  .op ⟨(some 3), none, .asg (.c ⟨.one, [.bool true]⟩) false, [6, 97]⟩ <|
  .nil
def x24 : XCode := .seq (.ops r24_0) (.seq (.ops r24_1) (.seq (.seq (.ops r24_2) (.cond (.s 24) (.seq (.ops r24_3) (.ret)) (.skip))) (.seq (.any r24_4v r24_4t) (.seq (.seq (.ops r24_5) (.block 0 (.loop l24_0))) (.seq (.ops r24_16) (.seq (.seq (.ops r24_17) (.cond (.s 95) (.seq (.ops r24_18) (.ret)) (.skip))) (.seq (.ops r24_19) (.ret))))))))
theorem m24 : mFun Try.prog Try.f24 x24 [.cell 2 10 true, .tmp 3] 1 = true := by kernel_rfl
theorem k24 : Callable Try.prog 24 := callable_of (by kernel_rfl)

/-! loop.example/g00360/impl.ReadMsg -/
def r25_0 : XL := .op ⟨(some 2), none, .alloc [.int .i64 0, .int .i64 0, .int .i64 0, .int .i64 0, .int .i64 0, .int .i64 0, .int .i64 0, .bool false, .own 2 [], .str ⟨#[]⟩], []⟩ <|
  .op ⟨(some 3), none, .asg (.c ⟨.one, [.bool false]⟩) false, [3, 3]⟩ <|
  .nil
def r25_1 : XL := .op ⟨(some 7), none, .mv (.s 0), []⟩ <|
  .op ⟨(some 8), none, .len true (.s 7), []⟩ <|
  .op ⟨(some 9), none, .bin .lss (.s 8) (.c ⟨.one, [.int .i64 4]⟩), [7, 8]⟩ <|
  .nil
def r25_2 : XL := .op ⟨(some 10), none, .build [.int .i64 0, .int .i64 0, .int .i64 0, .int .i64 0, .int .i64 0, .int .i64 0, .int .i64 0, .bool false, .own 2 [], .str ⟨#[]⟩] [], []⟩ <|
  .op ⟨none, none, .store 10 (.s 2) (.s 10) false, []⟩ <|
  .op ⟨(some 3), none, .asg (.c ⟨.one, [.bool false]⟩) false, [0, 0, 9, 10]⟩ <|
  .nil
def r25_3 : XL := .op ⟨(some 11), none, .mv (.s 0), []⟩ <|
  .op ⟨(some 12), none, .slcS (.s 11) (some (.c ⟨.one, [.int .i64 4]⟩)) none, []⟩ <|
  .op ⟨(some 13), none, .build [.str ⟨#[]⟩, .bool false] [(0, 1, .s 12), (1, 1, .c ⟨.one, [.bool true]⟩)], []⟩ <|
  .op ⟨(some 14), none, .box (.s 13) false, []⟩ <|
  .op ⟨(some 4), none, .asg (.s 14) false, [3, 3, 9, 14]⟩ <|
  .nil
def r25_4 : XL := .op ⟨(some 15), none, .build [.int .i64 0, .int .i64 0, .int .i64 0, .int .i64 0, .int .i64 0, .int .i64 0, .int .i64 0, .bool false, .own 2 [], .str ⟨#[]⟩] [], []⟩ <|
  .op ⟨(some 5), none, .alloc [.int .i64 0, .int .i64 0, .int .i64 0, .int .i64 0, .int .i64 0, .int .i64 0, .int .i64 0, .bool false, .own 2 [], .str ⟨#[]⟩], []⟩ <|
  .op ⟨none, none, .store 10 (.s 5) (.s 15) false, [15, 15]⟩ <|
  .nil
def r25_5 : XL := .op ⟨(some 16), none, .mv (.s 4), []⟩ <|
  .op ⟨(some 17), none, .call 81 [(false, .s 16)] [14], []⟩ <|
  .op ⟨(some 18), none, .fad 0 (.s 5), []⟩ <|
  .op ⟨none, none, .store 1 (.s 18) (.s 17) false, [16, 18]⟩ <|
  .nil
def r25_6 : XL := .op ⟨(some 19), none, .mv (.s 4), []⟩ <|
  .op ⟨(some 20), none, .call 81 [(false, .s 19)] [14], []⟩ <|
  .op ⟨(some 21), none, .fad 1 (.s 5), []⟩ <|
  .op ⟨none, none, .store 1 (.s 21) (.s 20) false, [19, 21]⟩ <|
  .nil
def r25_7 : XL := .op ⟨(some 22), none, .mv (.s 4), []⟩ <|
  .op ⟨(some 23), none, .call 81 [(false, .s 22)] [14], []⟩ <|
  .op ⟨(some 24), none, .fad 2 (.s 5), []⟩ <|
  .op ⟨none, none, .store 1 (.s 24) (.s 23) false, [22, 24]⟩ <|
  .nil
def r25_8 : XL := .op ⟨(some 25), none, .mv (.s 4), []⟩ <|
  .op ⟨(some 26), none, .call 81 [(false, .s 25)] [14], []⟩ <|
  .op ⟨(some 27), none, .fad 3 (.s 5), []⟩ <|
  .op ⟨none, none, .store 1 (.s 27) (.s 26) false, [25, 27]⟩ <|
  .nil
def r25_9 : XL := .op ⟨(some 28), none, .mv (.s 4), []⟩ <|
  .op ⟨(some 29), none, .call 81 [(false, .s 28)] [14], []⟩ <|
  .op ⟨(some 30), none, .fad 4 (.s 5), []⟩ <|
  .op ⟨none, none, .store 1 (.s 30) (.s 29) false, [28, 30]⟩ <|
  .nil
def r25_10 : XL := .op ⟨(some 31), none, .mv (.s 4), []⟩ <|
  .op ⟨(some 32), none, .call 81 [(false, .s 31)] [14], []⟩ <|
  .op ⟨(some 33), none, .fad 5 (.s 5), []⟩ <|
  .op ⟨none, none, .store 1 (.s 33) (.s 32) false, [31, 33]⟩ <|
  .nil
def r25_11 : XL := .op ⟨(some 34), none, .mv (.s 4), []⟩ <|
  .op ⟨(some 35), none, .call 81 [(false, .s 34)] [14], []⟩ <|
  .op ⟨(some 36), none, .fad 6 (.s 5), []⟩ <|
  .op ⟨none, none, .store 1 (.s 36) (.s 35) false, [34, 36]⟩ <|
  .nil
def r25_12 : XL := .op ⟨(some 37), none, .mv (.s 4), []⟩ <|
  .op ⟨(some 38), none, .call 81 [(false, .s 37)] [14], []⟩ <|
  .op ⟨(some 39), none, .bin .eql (.s 38) (.c ⟨.one, [.int .i64 1]⟩), []⟩ <|
  .op ⟨(some 40), none, .fad 7 (.s 5), []⟩ <|
  .op ⟨none, none, .store 1 (.s 40) (.s 39) false, [37, 40]⟩ <|
  .nil
def r25_13 : XL := .op ⟨(some 41), none, .mv (.s 4), []⟩ <|
  .op ⟨(some 42), none, .call 82 [(false, .s 41), (false, .c ⟨.one, [.int .i64 4]⟩)] [14], []⟩ <|
  .op ⟨(some 43), none, .mv (.c ⟨.one, [.int .i64 0]⟩), [41, 41]⟩ <|
  .nil
def r25_14 : XL := .op ⟨(some 44), none, .bin .lss (.s 43) (.s 42), []⟩ <|
  .nil
def r25_15 : XL := .op ⟨(some 45), none, .build [.int .i64 0, .str ⟨#[]⟩] [], []⟩ <|
  .op ⟨(some 6), none, .alloc [.int .i64 0, .str ⟨#[]⟩], []⟩ <|
  .op ⟨none, none, .store 2 (.s 6) (.s 45) false, [44, 45]⟩ <|
  .nil
def r25_16 : XL := .op ⟨(some 46), none, .mv (.s 4), []⟩ <|
  .op ⟨(some 47), none, .call 81 [(false, .s 46)] [14], []⟩ <|
  .op ⟨(some 48), none, .fad 0 (.s 6), []⟩ <|
  .op ⟨none, none, .store 1 (.s 48) (.s 47) false, [46, 48]⟩ <|
  .nil
def r25_17 : XL := .op ⟨(some 49), none, .mv (.s 4), []⟩ <|
  .op ⟨(some 50), none, .call 83 [(false, .s 49)] [14], []⟩ <|
  .op ⟨(some 51), none, .fad 1 (.s 6), []⟩ <|
  .op ⟨none, none, .store 1 (.s 51) (.s 50) false, [49, 51]⟩ <|
  .nil
def r25_18 : XL := .op ⟨(some 52), none, .fad 8 (.s 5), []⟩ <|
  .op ⟨(some 53), none, .load false 1 (.s 52), []⟩ <|
  .op ⟨(some 54), none, .load true 2 (.s 6), []⟩ <|
  .op ⟨(some 55), none, .bslice 2 [.s 54], []⟩ <|
  .op ⟨(some 56), none, .app 2 24 (.s 53) (.s 55) false, []⟩ <|
  .op ⟨(some 57), none, .fad 8 (.s 5), []⟩ <|
  .op ⟨none, none, .store 1 (.s 57) (.s 56) false, [6, 6, 52, 57]⟩ <|
  .nil
def r25_19 : XL := .op ⟨(some 58), none, .bin .add (.s 43) (.c ⟨.one, [.int .i64 1]⟩), []⟩ <|
  .op ⟨(some 43), none, .mv (.s 58), [58, 58]⟩ <|
  .nil
def l25_0 : XCode := .keep [0, 2, 4, 5, 42, 43] [2, 5, 14] (.seq (.ops r25_14) (.seq (.cond (.s 44) (.skip) (.exit 0)) (.seq (.block 1 (.seq (.ops r25_15) (.seq (.ops r25_16) (.seq (.ops r25_17) (.ops r25_18))))) (.ops r25_19))))
def r25_20 : XL := .op ⟨(some 59), none, .mv (.s 4), []⟩ <|
  .op ⟨(some 60), none, .nilc (.s 59), []⟩ <|
  .op ⟨(some 61), none, .fad 0 (.s 60), []⟩ <|
  .op ⟨(some 62), none, .load false 1 (.s 61), []⟩ <|
  .op ⟨(some 63), none, .fad 9 (.s 5), []⟩ <|
  .op ⟨none, none, .store 1 (.s 63) (.s 62) false, [42, 63]⟩ <|
  .nil
def r25_21 : XL := .op ⟨(some 64), none, .mv (.s 4), []⟩ <|
  .op ⟨(some 65), none, .nilc (.s 64), []⟩ <|
  .op ⟨(some 66), none, .fad 1 (.s 65), []⟩ <|
  .op ⟨(some 67), none, .load false 1 (.s 66), []⟩ <|
  .op ⟨(some 68), none, .un .not (.s 67), []⟩ <|
  .op ⟨(some 69), none, .mv (.s 68), [4, 4, 64, 68]⟩ <|
  .sc 69 false (.op ⟨(some 70), (some (69, false)), .load true 10 (.s 5), []⟩ <|
  .op ⟨(some 71), (some (69, false)), .call 18 [(false, .s 70)] [], []⟩ <|
  .op ⟨(some 72), (some (69, false)), .mv (.s 0), []⟩ <|
  .op ⟨(some 73), (some (69, false)), .bin .neq (.s 71) (.s 72), []⟩ <|
  .nil) [70, 71, 72, 73] 74 none (.s 69) (.s 73) [0, 0, 69, 69] <|
  .nil
def r25_22 : XL := .op ⟨(some 75), none, .build [.int .i64 0, .int .i64 0, .int .i64 0, .int .i64 0, .int .i64 0, .int .i64 0, .int .i64 0, .bool false, .own 2 [], .str ⟨#[]⟩] [], []⟩ <|
  .op ⟨none, none, .store 10 (.s 2) (.s 75) false, []⟩ <|
  .op ⟨(some 3), none, .asg (.c ⟨.one, [.bool false]⟩) false, [5, 75]⟩ <|
  .nil
def r25_23 : XL := .op ⟨(some 76), none, .load true 10 (.s 5), []⟩ <|
  .op ⟨none, none, .store 10 (.s 2) (.s 76) false, []⟩ <|
  .op ⟨(some 3), none, .asg (.c ⟨.one, [.bool true]⟩) false, [5, 76]⟩ <|
  .nil
def x25 : XCode := .seq (.ops r25_0) (.seq (.seq (.ops r25_1) (.cond (.s 9) (.seq (.ops r25_2) (.ret)) (.skip))) (.seq (.ops r25_3) (.seq (.ops r25_4) (.seq (.ops r25_5) (.seq (.ops r25_6) (.seq (.ops r25_7) (.seq (.ops r25_8) (.seq (.ops r25_9) (.seq (.ops r25_10) (.seq (.ops r25_11) (.seq (.ops r25_12) (.seq (.seq (.ops r25_13) (.block 0 (.loop l25_0))) (.seq (.ops r25_20) (.seq (.seq (.ops r25_21) (.cond (.s 74) (.seq (.ops r25_22) (.ret)) (.skip))) (.seq (.ops r25_23) (.ret))))))))))))))))
theorem m25 : mFun Try.prog Try.f25 x25 [.cell 2 10 true, .tmp 3] 1 = true := by kernel_rfl
theorem k25 : Callable Try.prog 25 := callable_of (by kernel_rfl)

/-! loop.example/g00360/laws.markMsg -/
def r26_0 : XL := .op ⟨(some 2), none, .box (.s 0) false, []⟩ <|
  .op ⟨(some 4), none, .asg (.c ⟨.one, [.int .i64 0]⟩) false, [0, 0, 4, 4]⟩ <|
  .nil
def r26_1 : XL := .op ⟨(some 5), none, .fad 8 (.s 2), []⟩ <|
  .op ⟨(some 6), none, .load false 1 (.s 5), []⟩ <|
  .op ⟨(some 7), none, .mv (.s 1), []⟩ <|
  .op ⟨(some 8), none, .call 84 [(true, .s 6), (false, .s 7)] [], []⟩ <|
  .op ⟨(some 1), none, .asg (.s 8) false, [2, 8]⟩ <|
  .nil
def r26_2 : XL := .op ⟨(some 9), none, .mv (.s 1), []⟩ <|
  .op ⟨(some 4), none, .asg (.s 9) false, [1, 1, 9, 9]⟩ <|
  .nil
def x26 : XCode := .seq (.ops r26_0) (.seq (.ops r26_1) (.seq (.ops r26_2) (.ret)))
theorem m26 : mFun Try.prog Try.f26 x26 [.tmp 4] 2 = true := by kernel_rfl
theorem k26 : Callable Try.prog 26 := callable_of (by kernel_rfl)

/-! loop.example/g00360/laws.heldMsg -/
def r27_0 : XL := .op ⟨(some 2), none, .box (.s 0) false, []⟩ <|
  .op ⟨(some 4), none, .asg (.c ⟨.one, [.int .i64 0]⟩) false, [0, 0, 4, 4]⟩ <|
  .nil
def r27_1 : XL := .op ⟨(some 5), none, .fad 8 (.s 2), []⟩ <|
  .op ⟨(some 6), none, .load false 1 (.s 5), []⟩ <|
  .op ⟨(some 7), none, .mv (.s 1), []⟩ <|
  .op ⟨(some 8), none, .call 85 [(false, .s 6), (false, .s 7)] [], []⟩ <|
  .op ⟨(some 1), none, .asg (.s 8) false, [2, 8]⟩ <|
  .nil
def r27_2 : XL := .op ⟨(some 9), none, .mv (.s 1), []⟩ <|
  .op ⟨(some 10), none, .bin .lss (.s 9) (.c ⟨.one, [.int .i64 0]⟩), [9, 9]⟩ <|
  .nil
def r27_3 : XL := .op ⟨(some 4), none, .asg (.c ⟨.one, [.int .i64 (-1)]⟩) false, [1, 1, 10, 10]⟩ <|
  .nil
def r27_4 : XL := .op ⟨(some 11), none, .mv (.s 1), []⟩ <|
  .op ⟨(some 4), none, .asg (.s 11) false, [1, 1, 10, 11]⟩ <|
  .nil
def x27 : XCode := .seq (.ops r27_0) (.seq (.ops r27_1) (.seq (.seq (.ops r27_2) (.cond (.s 10) (.seq (.ops r27_3) (.ret)) (.skip))) (.seq (.ops r27_4) (.ret))))
theorem m27 : mFun Try.prog Try.f27 x27 [.tmp 4] 2 = true := by kernel_rfl
theorem k27 : Callable Try.prog 27 := callable_of (by kernel_rfl)

/-! loop.example/g00360/spec.OpOk -/
def r28_0 : XL := .op ⟨(some 1), none, .box (.s 0) false, []⟩ <|
  .op ⟨(some 2), none, .asg (.c ⟨.one, [.bool false]⟩) false, [0, 0, 2, 2]⟩ <|
  .nil
def r28_1 : XL := .op ⟨(some 8), none, .fad 2 (.s 1), []⟩ <|
  .op ⟨(some 9), none, .load false 1 (.s 8), []⟩ <|
  .op ⟨(some 10), none, .bin .geq (.s 9) (.c ⟨.one, [.int .i64 0]⟩), []⟩ <|
  .op ⟨(some 11), none, .mv (.s 10), []⟩ <|
  .sc 11 true (.op ⟨(some 12), (some (11, true)), .fad 2 (.s 1), []⟩ <|
  .op ⟨(some 13), (some (11, true)), .load false 1 (.s 12), []⟩ <|
  .op ⟨(some 14), (some (11, true)), .fad 3 (.s 1), []⟩ <|
  .op ⟨(some 15), (some (11, true)), .load false 1 (.s 14), []⟩ <|
  .op ⟨(some 16), (some (11, true)), .bin .lss (.s 13) (.s 15), []⟩ <|
  .nil) [12, 13, 14, 15, 16] 17 none (.s 11) (.s 16) [] <|
  .op ⟨(some 18), none, .mv (.s 17), []⟩ <|
  .sc 18 true (.op ⟨(some 19), (some (18, true)), .fad 3 (.s 1), []⟩ <|
  .op ⟨(some 20), (some (18, true)), .load false 1 (.s 19), []⟩ <|
  .op ⟨(some 21), (some (18, true)), .bin .leq (.s 20) (.c ⟨.one, [.int .i64 1099511627776]⟩), []⟩ <|
  .nil) [19, 20, 21] 22 none (.s 18) (.s 21) [8, 18] <|
  .op ⟨(some 3), none, .asg (.s 22) false, [22, 22]⟩ <|
  .nil
def r28_2 : XL := .op ⟨(some 23), none, .fad 0 (.s 1), []⟩ <|
  .op ⟨(some 24), none, .load false 1 (.s 23), []⟩ <|
  .op ⟨(some 25), none, .build [.int .i64 0, .str ⟨#[]⟩, .int .i64 0, .int .i64 0, .str ⟨#[]⟩] [(0, 1, .s 24)], []⟩ <|
  .op ⟨(some 4), none, .alloc [.int .i64 0, .str ⟨#[]⟩, .int .i64 0, .int .i64 0, .str ⟨#[]⟩], []⟩ <|
  .op ⟨none, none, .store 5 (.s 4) (.s 25) false, [23, 25]⟩ <|
  .nil
def r28_3 : XL := .op ⟨(some 5), none, .asg (.c ⟨.one, [.bool false]⟩) false, []⟩ <|
  .nil
def r28_4 : XL := .op ⟨(some 26), none, .fad 0 (.s 1), []⟩ <|
  .op ⟨(some 27), none, .load false 1 (.s 26), [26, 26]⟩ <|
  .nil
def r28_5 : XL := .op ⟨(some 29), none, .bin .eql (.s 27) (.c ⟨.one, [.int .i64 1]⟩), []⟩ <|
  .op ⟨(some 28), none, .asg (.s 29) false, [29, 29]⟩ <|
  .nil
def r28_6 : XL := .op ⟨(some 30), none, .fad 2 (.s 1), []⟩ <|
  .op ⟨(some 31), none, .load false 1 (.s 30), []⟩ <|
  .op ⟨(some 32), none, .fad 2 (.s 4), []⟩ <|
  .op ⟨none, none, .store 1 (.s 32) (.s 31) false, [5, 32]⟩ <|
  .nil
def r28_7 : XL := .op ⟨(some 33), none, .fad 3 (.s 1), []⟩ <|
  .op ⟨(some 34), none, .load false 1 (.s 33), []⟩ <|
  .op ⟨(some 35), none, .fad 3 (.s 4), []⟩ <|
  .op ⟨none, none, .store 1 (.s 35) (.s 34) false, [33, 35]⟩ <|
  .nil
def r28_8 : XL := .op ⟨(some 36), none, .mv (.s 3), []⟩ <|
  .op ⟨(some 5), none, .asg (.s 36) true, [3, 3, 36, 36]⟩ <|
  .nil
def r28_9 : XL := .op ⟨(some 38), none, .bin .eql (.s 27) (.c ⟨.one, [.int .i64 2]⟩), []⟩ <|
  .op ⟨(some 37), none, .asg (.s 38) false, [28, 28, 38, 38]⟩ <|
  .nil
def r28_10 : XL := .op ⟨(some 39), none, .bin .eql (.s 27) (.c ⟨.one, [.int .i64 6]⟩), []⟩ <|
  .op ⟨(some 37), none, .asg (.s 39) false, [39, 39]⟩ <|
  .nil
def r28_11 : XL := .op ⟨(some 40), none, .fad 2 (.s 1), []⟩ <|
  .op ⟨(some 41), none, .load false 1 (.s 40), []⟩ <|
  .op ⟨(some 42), none, .fad 2 (.s 4), []⟩ <|
  .op ⟨none, none, .store 1 (.s 42) (.s 41) false, [3, 3, 5, 42]⟩ <|
  .nil
def r28_12 : XL := .op ⟨(some 43), none, .fad 2 (.s 1), []⟩ <|
  .op ⟨(some 44), none, .load false 1 (.s 43), []⟩ <|
  .op ⟨(some 45), none, .call 36 [(false, .s 44), (false, .c ⟨.one, [.int .i64 0]⟩), (false, .c ⟨.one, [.int .i64 1099511627776]⟩)] [], []⟩ <|
  .op ⟨(some 5), none, .asg (.s 45) false, [43, 45]⟩ <|
  .nil
def r28_13 : XL := .op ⟨(some 47), none, .bin .eql (.s 27) (.c ⟨.one, [.int .i64 3]⟩), []⟩ <|
  .op ⟨(some 46), none, .asg (.s 47) false, [37, 37, 47, 47]⟩ <|
  .nil
def r28_14 : XL := .op ⟨(some 48), none, .fad 2 (.s 1), []⟩ <|
  .op ⟨(some 49), none, .load false 1 (.s 48), []⟩ <|
  .op ⟨(some 50), none, .fad 2 (.s 4), []⟩ <|
  .op ⟨none, none, .store 1 (.s 50) (.s 49) false, [3, 3, 5, 50]⟩ <|
  .nil
def r28_15 : XL := .op ⟨(some 51), none, .fad 2 (.s 1), []⟩ <|
  .op ⟨(some 52), none, .load false 1 (.s 51), []⟩ <|
  .op ⟨(some 53), none, .call 36 [(false, .s 52), (false, .c ⟨.one, [.int .i64 0]⟩), (false, .c ⟨.one, [.int .i64 100000]⟩)] [], []⟩ <|
  .op ⟨(some 5), none, .asg (.s 53) false, [51, 53]⟩ <|
  .nil
def r28_16 : XL := .op ⟨(some 55), none, .bin .eql (.s 27) (.c ⟨.one, [.int .i64 4]⟩), []⟩ <|
  .op ⟨(some 54), none, .asg (.s 55) false, [46, 46, 55, 55]⟩ <|
  .nil
def r28_17 : XL := .op ⟨(some 56), none, .fad 1 (.s 1), []⟩ <|
  .op ⟨(some 57), none, .load false 1 (.s 56), []⟩ <|
  .op ⟨(some 58), none, .fad 1 (.s 4), []⟩ <|
  .op ⟨none, none, .store 1 (.s 58) (.s 57) false, [3, 3, 5, 58]⟩ <|
  .nil
def r28_18 : XL := .op ⟨(some 59), none, .fad 4 (.s 1), []⟩ <|
  .op ⟨(some 60), none, .load false 1 (.s 59), []⟩ <|
  .op ⟨(some 61), none, .fad 4 (.s 4), []⟩ <|
  .op ⟨none, none, .store 1 (.s 61) (.s 60) false, [59, 61]⟩ <|
  .nil
def r28_19 : XL := .op ⟨(some 63), none, .fad 4 (.s 1), []⟩ <|
  .op ⟨(some 64), none, .load false 1 (.s 63), []⟩ <|
  .op ⟨(some 65), none, .call 86 [(false, .s 64)] [], []⟩ <|
  .op ⟨(some 62), none, .mv (.s 65), []⟩ <|
  .op ⟨(some 66), none, .ext 0 (.s 62), []⟩ <|
  .op ⟨(some 67), none, .ext 1 (.s 62), []⟩ <|
  .op ⟨(some 6), none, .asg (.s 66) true, [6, 66]⟩ <|
  .op ⟨(some 7), none, .asg (.s 67) true, [67, 67]⟩ <|
  .nil
def r28_20 : XL := .op ⟨(some 68), none, .fad 1 (.s 1), []⟩ <|
  .op ⟨(some 69), none, .load false 1 (.s 68), []⟩ <|
  .op ⟨(some 70), none, .call 87 [(false, .s 69)] [], []⟩ <|
  .op ⟨(some 71), none, .mv (.s 70), []⟩ <|
  .sc 71 true (.op ⟨(some 72), (some (71, true)), .mv (.s 7), []⟩ <|
  .nil) [72] 73 none (.s 71) (.s 72) [] <|
  .op ⟨(some 5), none, .asg (.s 73) false, [7, 73]⟩ <|
  .nil
def r28_21 : XL := .op ⟨(some 75), none, .bin .eql (.s 27) (.c ⟨.one, [.int .i64 5]⟩), []⟩ <|
  .op ⟨(some 74), none, .asg (.s 75) false, [54, 54, 75, 75]⟩ <|
  .nil
def r28_22 : XL := .op ⟨(some 76), none, .fad 1 (.s 1), []⟩ <|
  .op ⟨(some 77), none, .load false 1 (.s 76), []⟩ <|
  .op ⟨(some 78), none, .fad 1 (.s 4), []⟩ <|
  .op ⟨none, none, .store 1 (.s 78) (.s 77) false, [5, 78]⟩ <|
  .nil
def r28_23 : XL := .op ⟨(some 79), none, .fad 2 (.s 1), []⟩ <|
  .op ⟨(some 80), none, .load false 1 (.s 79), []⟩ <|
  .op ⟨(some 81), none, .fad 2 (.s 4), []⟩ <|
  .op ⟨none, none, .store 1 (.s 81) (.s 80) false, [79, 81]⟩ <|
  .nil
def r28_24 : XL := .op ⟨(some 82), none, .fad 3 (.s 1), []⟩ <|
  .op ⟨(some 83), none, .load false 1 (.s 82), []⟩ <|
  .op ⟨(some 84), none, .fad 3 (.s 4), []⟩ <|
  .op ⟨none, none, .store 1 (.s 84) (.s 83) false, [82, 84]⟩ <|
  .nil
def r28_25 : XL := .op ⟨(some 85), none, .fad 1 (.s 1), []⟩ <|
  .op ⟨(some 86), none, .load false 1 (.s 85), []⟩ <|
  .op ⟨(some 87), none, .call 87 [(false, .s 86)] [], []⟩ <|
  .op ⟨(some 88), none, .mv (.s 87), []⟩ <|
  .sc 88 true (.op ⟨(some 89), (some (88, true)), .mv (.s 3), []⟩ <|
  .nil) [89] 90 none (.s 88) (.s 89) [] <|
  .op ⟨(some 5), none, .asg (.s 90) false, [3, 3, 85, 90]⟩ <|
  .nil
def r28_26 : XL := .op ⟨(some 92), none, .bin .eql (.s 27) (.c ⟨.one, [.int .i64 7]⟩), []⟩ <|
  .op ⟨(some 91), none, .asg (.s 92) false, [3, 3, 27, 74, 92, 92]⟩ <|
  .nil
def r28_27 : XL := .op ⟨(some 5), none, .asg (.c ⟨.one, [.bool true]⟩) false, [91, 91]⟩ <|
  .nil
def r28_28 : XL := .op ⟨(some 93), none, .mv (.s 5), []⟩ <|
  .op ⟨(some 94), none, .mv (.s 93), []⟩ <|
  .sc 94 true (.op ⟨(some 95), (some (94, true)), .load true 5 (.s 4), []⟩ <|
  .op ⟨(some 96), (some (94, true)), .load true 5 (.s 1), []⟩ <|
  .op ⟨(some 97), (some (94, true)), .eqs false [0, 2, 0, 0, 2] (.s 95) (.s 96), []⟩ <|
  .nil) [95, 96, 97] 98 none (.s 94) (.s 97) [1, 94] <|
  .op ⟨(some 2), none, .asg (.s 98) false, [98, 98]⟩ <|
  .nil
def x28 : XCode := .seq (.ops r28_0) (.seq (.ops r28_1) (.seq (.ops r28_2) (.seq (.ops r28_3) (.seq (.seq (.ops r28_4) (.block 0 (.seq (.ops r28_5) (.cond (.s 28) (.seq (.ops r28_6) (.seq (.ops r28_7) (.ops r28_8))) (.seq (.seq (.ops r28_9) (.cond (.s 37) (.skip) (.ops r28_10))) (.cond (.s 37) (.seq (.ops r28_11) (.ops r28_12)) (.seq (.ops r28_13) (.cond (.s 46) (.seq (.ops r28_14) (.ops r28_15)) (.seq (.ops r28_16) (.cond (.s 54) (.seq (.ops r28_17) (.seq (.ops r28_18) (.seq (.ops r28_19) (.ops r28_20)))) (.seq (.ops r28_21) (.cond (.s 74) (.seq (.ops r28_22) (.seq (.ops r28_23) (.seq (.ops r28_24) (.ops r28_25)))) (.seq (.ops r28_26) (.cond (.s 91) (.ops r28_27) (.skip))))))))))))))) (.seq (.ops r28_28) (.ret))))))
theorem m28 : mFun Try.prog Try.f28 x28 [.tmp 2] 1 = true := by kernel_rfl
theorem k28 : Callable Try.prog 28 := callable_of (by kernel_rfl)

/-! loop.example/g00360/impl.ReadBlock -/
def r29_0 : XL := .op ⟨(some 2), none, .asg (.c ⟨.one, [.own 2 []]⟩) false, []⟩ <|
  .op ⟨(some 3), none, .asg (.c ⟨.one, [.bool false]⟩) false, [2, 3]⟩ <|
  .nil
def r29_1 : XL := .op ⟨(some 17), none, .mv (.s 0), []⟩ <|
  .op ⟨(some 18), none, .call 88 [(false, .s 17)] [], []⟩ <|
  .op ⟨(some 16), none, .mv (.s 18), []⟩ <|
  .op ⟨(some 19), none, .ext 0 (.s 16), []⟩ <|
  .op ⟨(some 20), none, .ext 1 (.s 16), []⟩ <|
  .op ⟨(some 21), none, .ext 2 (.s 16), []⟩ <|
  .op ⟨(some 4), none, .asg (.s 19) true, []⟩ <|
  .op ⟨(some 5), none, .asg (.s 20) true, [5, 20]⟩ <|
  .op ⟨(some 6), none, .asg (.s 21) true, [21, 21]⟩ <|
  .nil
def r29_2 : XL := .op ⟨(some 23), none, .mv (.s 4), []⟩ <|
  .op ⟨(some 24), none, .call 89 [(false, .s 23)] [], []⟩ <|
  .op ⟨(some 22), none, .mv (.s 24), []⟩ <|
  .op ⟨(some 25), none, .ext 0 (.s 22), []⟩ <|
  .op ⟨(some 26), none, .ext 1 (.s 22), []⟩ <|
  .op ⟨(some 7), none, .asg (.s 25) true, []⟩ <|
  .op ⟨(some 8), none, .asg (.s 26) true, [22, 26]⟩ <|
  .nil
def r29_3 : XL := .op ⟨(some 27), none, .mv (.s 6), []⟩ <|
  .op ⟨(some 28), none, .bin .neq (.s 27) (.c ⟨.one, [.int .i64 0]⟩), []⟩ <|
  .op ⟨(some 29), none, .mv (.s 28), []⟩ <|
  .sc 29 false (.op ⟨(some 30), (some (29, false)), .mv (.s 8), []⟩ <|
  .op ⟨(some 31), (some (29, false)), .bin .eql (.s 30) (.c ⟨.one, [.int .i64 0]⟩), []⟩ <|
  .nil) [30, 31] 32 none (.s 29) (.s 31) [6, 6, 27, 29] <|
  .nil
def r29_4 : XL := .op ⟨(some 2), none, .asg (.c ⟨.one, [.own 2 []]⟩) false, []⟩ <|
  .op ⟨(some 3), none, .asg (.c ⟨.one, [.bool false]⟩) false, [0, 0, 4, 32]⟩ <|
  .nil
def r29_5 : XL := .op ⟨(some 34), none, .mv (.s 4), []⟩ <|
  .op ⟨(some 35), none, .mv (.s 8), []⟩ <|
  .op ⟨(some 36), none, .slcS (.s 34) (some (.s 35)) none, []⟩ <|
  .op ⟨(some 37), none, .mv (.s 7), []⟩ <|
  .op ⟨(some 38), none, .call 90 [(false, .s 36), (false, .s 37)] [], [2, 3, 32, 37]⟩ <|
  .op ⟨(some 33), none, .mv (.s 38), []⟩ <|
  .op ⟨(some 39), none, .ext 0 (.s 33), []⟩ <|
  .op ⟨(some 40), none, .ext 1 (.s 33), []⟩ <|
  .op ⟨(some 9), none, .asg (.s 39) true, []⟩ <|
  .op ⟨(some 10), none, .asg (.s 40) true, [33, 40]⟩ <|
  .nil
def r29_6 : XL := .op ⟨(some 42), none, .mv (.s 4), []⟩ <|
  .op ⟨(some 43), none, .mv (.s 8), []⟩ <|
  .op ⟨(some 44), none, .mv (.s 10), []⟩ <|
  .op ⟨(some 45), none, .bin .add (.s 43) (.s 44), []⟩ <|
  .op ⟨(some 46), none, .slcS (.s 42) (some (.s 45)) none, [4, 4, 8, 8, 10, 45]⟩ <|
  .op ⟨(some 47), none, .mv (.s 7), []⟩ <|
  .op ⟨(some 48), none, .call 91 [(false, .s 46), (false, .s 47)] [], []⟩ <|
  .op ⟨(some 41), none, .mv (.s 48), []⟩ <|
  .op ⟨(some 49), none, .ext 0 (.s 41), []⟩ <|
  .op ⟨(some 50), none, .ext 1 (.s 41), []⟩ <|
  .op ⟨(some 11), none, .asg (.s 49) true, []⟩ <|
  .op ⟨(some 12), none, .asg (.s 50) true, [12, 50]⟩ <|
  .nil
def r29_7 : XL := .op ⟨(some 51), none, .mv (.s 9), []⟩ <|
  .op ⟨(some 52), none, .len false (.s 51), []⟩ <|
  .op ⟨(some 53), none, .mv (.s 7), []⟩ <|
  .op ⟨(some 54), none, .bin .neq (.s 52) (.s 53), []⟩ <|
  .op ⟨(some 55), none, .mv (.s 54), []⟩ <|
  .sc 55 false (.op ⟨(some 56), (some (55, false)), .mv (.s 11), []⟩ <|
  .op ⟨(some 57), (some (55, false)), .len false (.s 56), []⟩ <|
  .op ⟨(some 58), (some (55, false)), .mv (.s 7), []⟩ <|
  .op ⟨(some 59), (some (55, false)), .bin .neq (.s 57) (.s 58), []⟩ <|
  .nil) [56, 57, 58, 59] 60 none (.s 55) (.s 59) [7, 7, 51, 55] <|
  .nil
def r29_8 : XL := .op ⟨(some 2), none, .asg (.c ⟨.one, [.own 2 []]⟩) false, []⟩ <|
  .op ⟨(some 3), none, .asg (.c ⟨.one, [.bool false]⟩) false, [0, 0, 9, 60]⟩ <|
  .nil
def r29_9 : XL := .op ⟨(some 61), none, .bslice 2 [], []⟩ <|
  .op ⟨(some 13), none, .asg (.s 61) false, [2, 3, 60, 61]⟩ <|
  .nil
def r29_10 : XL := .op ⟨(some 62), none, .mv (.s 9), []⟩ <|
  .op ⟨(some 63), none, .len false (.s 62), []⟩ <|
  .op ⟨(some 64), none, .mv (.c ⟨.one, [.int .i64 0]⟩), []⟩ <|
  .nil
def r29_11 : XL := .op ⟨(some 65), none, .bin .lss (.s 64) (.s 63), []⟩ <|
  .nil
def r29_12 : XL := .op ⟨(some 66), none, .mv (.s 64), []⟩ <|
  .op ⟨(some 67), none, .iad 1 (.s 62) (.s 64), []⟩ <|
  .op ⟨(some 68), none, .load false 1 (.s 67), []⟩ <|
  .op ⟨(some 14), none, .asg (.s 66) false, []⟩ <|
  .op ⟨(some 15), none, .asg (.s 68) false, [65, 68]⟩ <|
  .nil
def r29_13 : XL := .op ⟨(some 69), none, .mv (.s 13), []⟩ <|
  .op ⟨(some 70), none, .mv (.s 15), []⟩ <|
  .op ⟨(some 71), none, .mv (.s 11), []⟩ <|
  .op ⟨(some 72), none, .mv (.s 14), []⟩ <|
  .op ⟨(some 73), none, .iad 1 (.s 71) (.s 72), []⟩ <|
  .op ⟨(some 74), none, .load false 1 (.s 73), []⟩ <|
  .op ⟨(some 75), none, .build [.int .i64 0, .int .i64 0] [(0, 1, .s 70), (1, 1, .s 74)], [14, 15, 70, 74]⟩ <|
  .op ⟨(some 76), none, .bslice 2 [.s 75], []⟩ <|
  .op ⟨(some 77), none, .app 2 16 (.s 69) (.s 76) false, []⟩ <|
  .op ⟨(some 13), none, .asg (.s 77) false, [69, 77]⟩ <|
  .nil
def r29_14 : XL := .op ⟨(some 78), none, .bin .add (.s 64) (.c ⟨.one, [.int .i64 1]⟩), []⟩ <|
  .op ⟨(some 64), none, .mv (.s 78), [78, 78]⟩ <|
  .nil
def l29_0 : XCode := .keep [0, 9, 11, 13, 62, 63, 64] [] (.seq (.ops r29_11) (.seq (.cond (.s 65) (.skip) (.exit 0)) (.seq (.block 1 (.seq (.ops r29_12) (.ops r29_13))) (.ops r29_14))))
def r29_15 : XL := .op ⟨(some 79), none, .mv (.s 13), []⟩ <|
  .op ⟨(some 80), none, .call 92 [(false, .s 79)] [], [9, 11, 62, 79]⟩ <|
  .op ⟨(some 81), none, .mv (.s 0), []⟩ <|
  .op ⟨(some 82), none, .bin .neq (.s 80) (.s 81), [0, 0, 80, 81]⟩ <|
  .nil
def r29_16 : XL := .op ⟨(some 2), none, .asg (.c ⟨.one, [.own 2 []]⟩) false, []⟩ <|
  .op ⟨(some 3), none, .asg (.c ⟨.one, [.bool false]⟩) false, [13, 82]⟩ <|
  .nil
def r29_17 : XL := .op ⟨(some 83), none, .mv (.s 13), []⟩ <|
  .op ⟨(some 2), none, .asg (.s 83) true, []⟩ <|
  .op ⟨(some 3), none, .asg (.c ⟨.one, [.bool true]⟩) false, [13, 83]⟩ <|
  .nil
def x29 : XCode := .seq (.ops r29_0) (.seq (.ops r29_1) (.seq (.ops r29_2) (.seq (.seq (.ops r29_3) (.cond (.s 32) (.seq (.ops r29_4) (.ret)) (.skip))) (.seq (.ops r29_5) (.seq (.ops r29_6) (.seq (.seq (.ops r29_7) (.cond (.s 60) (.seq (.ops r29_8) (.ret)) (.skip))) (.seq (.ops r29_9) (.seq (.seq (.ops r29_10) (.block 0 (.loop l29_0))) (.seq (.seq (.ops r29_15) (.cond (.s 82) (.seq (.ops r29_16) (.ret)) (.skip))) (.seq (.ops r29_17) (.ret)))))))))))
theorem m29 : mFun Try.prog Try.f29 x29 [.tmp 2, .tmp 3] 1 = true := by kernel_rfl
theorem k29 : Callable Try.prog 29 := callable_of (by kernel_rfl)

/-! loop.example/g00360/impl.keyOk -/
def r30_0 : XL := .op ⟨(some 2), none, .asg (.c ⟨.one, [.bool false]⟩) false, [2, 2]⟩ <|
  .nil
def r30_1 : XL := .op ⟨(some 4), none, .mv (.s 0), []⟩ <|
  .op ⟨(some 5), none, .len true (.s 4), []⟩ <|
  .op ⟨(some 6), none, .mv (.c ⟨.one, [.int .i64 0]⟩), [4, 4]⟩ <|
  .nil
def r30_2 : XL := .op ⟨(some 7), none, .bin .lss (.s 6) (.s 5), []⟩ <|
  .nil
def r30_3 : XL := .op ⟨(some 8), none, .mv (.s 6), []⟩ <|
  .op ⟨(some 3), none, .asg (.s 8) false, [7, 8]⟩ <|
  .nil
def r30_4 : XL := .op ⟨(some 9), none, .mv (.s 0), []⟩ <|
  .op ⟨(some 10), none, .mv (.s 3), []⟩ <|
  .op ⟨(some 11), none, .idx (.s 9) (.s 10), []⟩ <|
  .op ⟨(some 12), none, .bin .lss (.s 11) (.c ⟨.one, [.int .u8 97]⟩), []⟩ <|
  .op ⟨(some 13), none, .mv (.s 12), []⟩ <|
  .sc 13 false (.op ⟨(some 14), (some (13, false)), .mv (.s 0), []⟩ <|
  .op ⟨(some 15), (some (13, false)), .mv (.s 3), []⟩ <|
  .op ⟨(some 16), (some (13, false)), .idx (.s 14) (.s 15), []⟩ <|
  .op ⟨(some 17), (some (13, false)), .bin .gtr (.s 16) (.c ⟨.one, [.int .u8 122]⟩), []⟩ <|
  .nil) [14, 15, 16, 17] 18 none (.s 13) (.s 17) [3, 3, 9, 13] <|
  .nil
def r30_5 : XL := .op ⟨(some 2), none, .asg (.c ⟨.one, [.bool false]⟩) false, [0, 0, 5, 18]⟩ <|
  .nil
def r30_6 : XL := .op ⟨(some 19), none, .bin .add (.s 6) (.c ⟨.one, [.int .i64 1]⟩), []⟩ <|
  .op ⟨(some 6), none, .mv (.s 19), [2, 2, 18, 19]⟩ <|
  .nil
def l30_0 : XCode := .keep [0, 5, 6] [] (.seq (.ops r30_2) (.seq (.cond (.s 7) (.skip) (.exit 0)) (.seq (.block 1 (.seq (.ops r30_3) (.seq (.ops r30_4) (.cond (.s 18) (.seq (.ops r30_5) (.ret)) (.skip))))) (.ops r30_6))))
def r30_7 : XL := .op ⟨(some 20), none, .mv (.s 0), []⟩ <|
  .op ⟨(some 21), none, .len true (.s 20), []⟩ <|
  .op ⟨(some 22), none, .call 32 [(false, .s 21), (false, .c ⟨.one, [.int .i64 1]⟩), (false, .c ⟨.one, [.int .i64 8]⟩)] [], []⟩ <|
  .op ⟨(some 2), none, .asg (.s 22) false, [0, 0, 5, 22]⟩ <|
  .nil
def x30 : XCode := .seq (.ops r30_0) (.seq (.seq (.ops r30_1) (.block 0 (.loop l30_0))) (.seq (.ops r30_7) (.ret)))
theorem m30 : mFun Try.prog Try.f30 x30 [.tmp 2] 1 = true := by kernel_rfl
theorem k30 : Callable Try.prog 30 := callable_of (by kernel_rfl)

/-! loop.example/g00360/impl.isTime -/
def r31_0 : XL := .op ⟨(some 2), none, .asg (.c ⟨.one, [.bool false]⟩) false, [2, 2]⟩ <|
  .nil
def r31_1 : XL := .op ⟨(some 3), none, .mv (.s 0), []⟩ <|
  .op ⟨(some 4), none, .call 32 [(false, .s 3), (false, .c ⟨.one, [.int .i64 0]⟩), (false, .c ⟨.one, [.int .i64 1099511627776]⟩)] [], []⟩ <|
  .op ⟨(some 2), none, .asg (.s 4) false, [0, 0, 3, 4]⟩ <|
  .nil
def x31 : XCode := .seq (.ops r31_0) (.seq (.ops r31_1) (.ret))
theorem m31 : mFun Try.prog Try.f31 x31 [.tmp 2] 1 = true := by kernel_rfl
theorem k31 : Callable Try.prog 31 := callable_of (by kernel_rfl)

/-! loop.example/g00360/impl.from -/
def r32_0 : XL := .op ⟨(some 6), none, .asg (.c ⟨.one, [.bool false]⟩) false, [6, 6]⟩ <|
  .nil
def r32_1 : XL := .op ⟨(some 7), none, .mv (.s 0), []⟩ <|
  .op ⟨(some 8), none, .mv (.s 1), []⟩ <|
  .op ⟨(some 9), none, .bin .geq (.s 7) (.s 8), []⟩ <|
  .op ⟨(some 10), none, .mv (.s 9), []⟩ <|
  .sc 10 true (.op ⟨(some 11), (some (10, true)), .mv (.s 0), []⟩ <|
  .op ⟨(some 12), (some (10, true)), .mv (.s 2), []⟩ <|
  .op ⟨(some 13), (some (10, true)), .bin .leq (.s 11) (.s 12), []⟩ <|
  .nil) [11, 12, 13] 14 none (.s 10) (.s 13) [0, 10] <|
  .op ⟨(some 6), none, .asg (.s 14) false, [14, 14]⟩ <|
  .nil
def x32 : XCode := .seq (.ops r32_0) (.seq (.ops r32_1) (.ret))
theorem m32 : mFun Try.prog Try.f32 x32 [.tmp 6] 3 = true := by kernel_rfl
theorem k32 : Callable Try.prog 32 := callable_of (by kernel_rfl)

/-! loop.example/g00360/spec.l15Server -/
def r34_0 : XL := .op ⟨(some 2), none, .asg (.c ⟨.one, [.bool false]⟩) false, [2, 2]⟩ <|
  .nil
def r34_1 : XL := .op ⟨(some 3), none, .mv (.s 0), []⟩ <|
  .op ⟨(some 4), none, .call 36 [(false, .s 3), (false, .c ⟨.one, [.int .i64 0]⟩), (false, .c ⟨.one, [.int .i64 4]⟩)] [], []⟩ <|
  .op ⟨(some 2), none, .asg (.s 4) false, [0, 0, 3, 4]⟩ <|
  .nil
def x34 : XCode := .seq (.ops r34_0) (.seq (.ops r34_1) (.ret))
theorem m34 : mFun Try.prog Try.f34 x34 [.tmp 2] 1 = true := by kernel_rfl
theorem k34 : Callable Try.prog 34 := callable_of (by kernel_rfl)

/-! loop.example/g00360/spec.l15Client -/
def r35_0 : XL := .op ⟨(some 2), none, .asg (.c ⟨.one, [.bool false]⟩) false, [2, 2]⟩ <|
  .nil
def r35_1 : XL := .op ⟨(some 3), none, .mv (.s 0), []⟩ <|
  .op ⟨(some 4), none, .call 36 [(false, .s 3), (false, .c ⟨.one, [.int .i64 11]⟩), (false, .c ⟨.one, [.int .i64 14]⟩)] [], []⟩ <|
  .op ⟨(some 2), none, .asg (.s 4) false, [0, 0, 3, 4]⟩ <|
  .nil
def x35 : XCode := .seq (.ops r35_0) (.seq (.ops r35_1) (.ret))
theorem m35 : mFun Try.prog Try.f35 x35 [.tmp 2] 1 = true := by kernel_rfl
theorem k35 : Callable Try.prog 35 := callable_of (by kernel_rfl)

/-! loop.example/g00360/spec.l1In -/
def r36_0 : XL := .op ⟨(some 6), none, .asg (.c ⟨.one, [.bool false]⟩) false, [6, 6]⟩ <|
  .nil
def r36_1 : XL := .op ⟨(some 7), none, .mv (.s 0), []⟩ <|
  .op ⟨(some 8), none, .mv (.s 1), []⟩ <|
  .op ⟨(some 9), none, .bin .geq (.s 7) (.s 8), []⟩ <|
  .op ⟨(some 10), none, .mv (.s 9), []⟩ <|
  .sc 10 true (.op ⟨(some 11), (some (10, true)), .mv (.s 0), []⟩ <|
  .op ⟨(some 12), (some (10, true)), .mv (.s 2), []⟩ <|
  .op ⟨(some 13), (some (10, true)), .bin .leq (.s 11) (.s 12), []⟩ <|
  .nil) [11, 12, 13] 14 none (.s 10) (.s 13) [0, 10] <|
  .op ⟨(some 6), none, .asg (.s 14) false, [14, 14]⟩ <|
  .nil
def x36 : XCode := .seq (.ops r36_0) (.seq (.ops r36_1) (.ret))
theorem m36 : mFun Try.prog Try.f36 x36 [.tmp 6] 3 = true := by kernel_rfl
theorem k36 : Callable Try.prog 36 := callable_of (by kernel_rfl)

/-! loop.example/g00360/spec.l5Based -/
def r37_0 : XL := .op ⟨(some 4), none, .asg (.c ⟨.one, [.bool false]⟩) false, [4, 4]⟩ <|
  .nil
def r37_1 : XL := .op ⟨(some 5), none, .mv (.s 0), []⟩ <|
  .op ⟨(some 6), none, .bin .eql (.s 5) (.c ⟨.one, [.int .i64 0]⟩), [5, 5]⟩ <|
  .nil
def r37_2 : XL := .op ⟨(some 7), none, .mv (.s 1), []⟩ <|
  .op ⟨(some 8), none, .bin .eql (.s 7) (.c ⟨.one, [.int .i64 0]⟩), []⟩ <|
  .op ⟨(some 4), none, .asg (.s 8) false, [0, 1, 6, 8]⟩ <|
  .nil
def r37_3 : XL := .op ⟨(some 9), none, .mv (.s 0), []⟩ <|
  .op ⟨(some 10), none, .call 36 [(false, .s 9), (false, .c ⟨.one, [.int .i64 1]⟩), (false, .c ⟨.one, [.int .i64 100000]⟩)] [], []⟩ <|
  .op ⟨(some 11), none, .mv (.s 10), []⟩ <|
  .sc 11 true (.op ⟨(some 12), (some (11, true)), .mv (.s 1), []⟩ <|
  .op ⟨(some 13), (some (11, true)), .call 36 [(false, .s 12), (false, .c ⟨.one, [.int .i64 1]⟩), (false, .c ⟨.one, [.int .i64 100000]⟩)] [], []⟩ <|
  .nil) [12, 13] 14 none (.s 11) (.s 13) [0, 11] <|
  .op ⟨(some 4), none, .asg (.s 14) false, [14, 14]⟩ <|
  .nil
def x37 : XCode := .seq (.ops r37_0) (.seq (.seq (.ops r37_1) (.cond (.s 6) (.seq (.ops r37_2) (.ret)) (.skip))) (.seq (.ops r37_3) (.ret)))
theorem m37 : mFun Try.prog Try.f37 x37 [.tmp 4] 2 = true := by kernel_rfl
theorem k37 : Callable Try.prog 37 := callable_of (by kernel_rfl)

/-! loop.example/g00360/spec.l15Run -/
def r38_0 : XL := .op ⟨(some 6), none, .asg (.c ⟨.one, [.bool false]⟩) false, [6, 6]⟩ <|
  .nil
def r38_1 : XL := .op ⟨(some 8), none, .mv (.s 1), []⟩ <|
  .op ⟨(some 9), none, .bin .lss (.s 8) (.c ⟨.one, [.int .i64 1]⟩), [8, 8]⟩ <|
  .nil
def r38_2 : XL := .op ⟨(some 1), none, .asg (.c ⟨.one, [.int .i64 1]⟩) false, [9, 9]⟩ <|
  .nil
def r38_3 : XL := .op ⟨(some 7), none, .asg (.c ⟨.one, [.int .i64 0]⟩) false, [9, 9]⟩ <|
  .nil
def r38_4 : XL := .op ⟨(some 10), none, .mv (.s 7), []⟩ <|
  .op ⟨(some 11), none, .mv (.s 0), []⟩ <|
  .op ⟨(some 12), none, .len false (.s 11), []⟩ <|
  .op ⟨(some 13), none, .bin .lss (.s 10) (.s 12), [10, 12]⟩ <|
  .nil
def r38_6 : XL := .op ⟨(some 16), none, .mv (.s 0), []⟩ <|
  .op ⟨(some 17), none, .mv (.s 7), []⟩ <|
  .op ⟨(some 18), none, .iad 2 (.s 16) (.s 17), []⟩ <|
  .op ⟨(some 19), none, .fad 0 (.s 18), []⟩ <|
  .op ⟨(some 20), none, .load false 1 (.s 19), []⟩ <|
  .op ⟨(some 21), none, .mv (.s 1), [1, 1, 13, 19]⟩ <|
  .op ⟨(some 22), none, .mv (.s 2), []⟩ <|
  .op ⟨(some 23), none, .call 36 [(false, .s 20), (false, .s 21), (false, .s 22)] [], []⟩ <|
  .op ⟨(some 24), none, .un .not (.s 23), []⟩ <|
  .op ⟨(some 25), none, .mv (.s 24), []⟩ <|
  .sc 25 false (.op ⟨(some 26), (some (25, false)), .mv (.s 0), []⟩ <|
  .op ⟨(some 27), (some (25, false)), .mv (.s 7), []⟩ <|
  .op ⟨(some 28), (some (25, false)), .iad 2 (.s 26) (.s 27), []⟩ <|
  .op ⟨(some 29), (some (25, false)), .fad 1 (.s 28), []⟩ <|
  .op ⟨(some 30), (some (25, false)), .load false 1 (.s 29), []⟩ <|
  .op ⟨(some 31), (some (25, false)), .len true (.s 30), []⟩ <|
  .op ⟨(some 32), (some (25, false)), .bin .gtr (.s 31) (.c ⟨.one, [.int .i64 900]⟩), []⟩ <|
  .nil) [26, 27, 28, 29, 30, 31, 32] 33 none (.s 25) (.s 32) [20, 25] <|
  .nil
def r38_7 : XL := .op ⟨(some 6), none, .asg (.c ⟨.one, [.bool false]⟩) false, [0, 2, 7, 33]⟩ <|
  .nil
def r38_8 : XL := .op ⟨(some 34), none, .mv (.s 0), []⟩ <|
  .op ⟨(some 35), none, .mv (.s 7), []⟩ <|
  .op ⟨(some 36), none, .iad 2 (.s 34) (.s 35), []⟩ <|
  .op ⟨(some 37), none, .fad 0 (.s 36), []⟩ <|
  .op ⟨(some 38), none, .load false 1 (.s 37), [6, 6, 33, 37]⟩ <|
  .op ⟨(some 1), none, .asg (.s 38) false, [38, 38]⟩ <|
  .nil
def r38_5 : XL := .op ⟨(some 14), none, .mv (.s 7), []⟩ <|
  .op ⟨(some 15), none, .bin .add (.s 14) (.c ⟨.one, [.int .i64 1]⟩), []⟩ <|
  .op ⟨(some 7), none, .asg (.s 15) false, [14, 15]⟩ <|
  .nil
def l38_0 : XCode := .keep [0, 1, 2, 7] [] (.seq (.seq (.ops r38_4) (.cond (.s 13) (.skip) (.exit 0))) (.seq (.block 1 (.seq (.seq (.ops r38_6) (.cond (.s 33) (.seq (.ops r38_7) (.ret)) (.skip))) (.ops r38_8))) (.ops r38_5)))
def r38_9 : XL := .op ⟨(some 6), none, .asg (.c ⟨.one, [.bool true]⟩) false, [0, 2, 7, 7]⟩ <|
  .nil
def x38 : XCode := .seq (.ops r38_0) (.seq (.seq (.ops r38_1) (.cond (.s 9) (.ops r38_2) (.skip))) (.seq (.seq (.ops r38_3) (.block 0 (.loop l38_0))) (.seq (.ops r38_9) (.ret))))
theorem m38 : mFun Try.prog Try.f38 x38 [.tmp 6] 3 = true := by kernel_rfl
theorem k38 : Callable Try.prog 38 := callable_of (by kernel_rfl)

/-! loop.example/g00360/spec.ReadOp -/
def r39_0 : XL := .op ⟨(some 2), none, .alloc [.int .i64 0, .str ⟨#[]⟩, .int .i64 0, .int .i64 0, .str ⟨#[]⟩], []⟩ <|
  .op ⟨(some 3), none, .asg (.c ⟨.one, [.bool false]⟩) false, [3, 3]⟩ <|
  .nil
def r39_1 : XL := .op ⟨(some 10), none, .mv (.s 0), []⟩ <|
  .op ⟨(some 11), none, .call 79 [(false, .s 10), (false, .c ⟨.one, [.int .i64 1]⟩), (false, .c ⟨.one, [.int .i64 1]⟩)] [], []⟩ <|
  .op ⟨(some 9), none, .mv (.s 11), []⟩ <|
  .op ⟨(some 12), none, .ext 0 (.s 9), []⟩ <|
  .op ⟨(some 13), none, .ext 1 (.s 9), []⟩ <|
  .op ⟨(some 4), none, .asg (.s 12) true, []⟩ <|
  .op ⟨(some 5), none, .asg (.s 13) true, [9, 13]⟩ <|
  .nil
def r39_2 : XL := .op ⟨(some 14), none, .mv (.s 5), []⟩ <|
  .op ⟨(some 15), none, .bin .lss (.s 14) (.c ⟨.one, [.int .i64 0]⟩), []⟩ <|
  .op ⟨(some 16), none, .mv (.s 15), []⟩ <|
  .sc 16 false (.op ⟨(some 17), (some (16, false)), .mv (.s 4), []⟩ <|
  .op ⟨(some 18), (some (16, false)), .iad 1 (.s 17) (.c ⟨.one, [.int .i64 0]⟩), []⟩ <|
  .op ⟨(some 19), (some (16, false)), .load false 1 (.s 18), []⟩ <|
  .op ⟨(some 20), (some (16, false)), .bin .gtr (.s 19) (.c ⟨.one, [.int .i64 8]⟩), []⟩ <|
  .nil) [17, 18, 19, 20] 21 none (.s 16) (.s 20) [] <|
  .op ⟨(some 22), none, .mv (.s 21), []⟩ <|
  .sc 22 false (.op ⟨(some 23), (some (22, false)), .mv (.s 4), []⟩ <|
  .op ⟨(some 24), (some (22, false)), .iad 1 (.s 23) (.c ⟨.one, [.int .i64 0]⟩), []⟩ <|
  .op ⟨(some 25), (some (22, false)), .load false 1 (.s 24), []⟩ <|
  .op ⟨(some 26), (some (22, false)), .mv (.s 0), []⟩ <|
  .op ⟨(some 27), (some (22, false)), .len true (.s 26), []⟩ <|
  .op ⟨(some 28), (some (22, false)), .mv (.s 5), []⟩ <|
  .op ⟨(some 29), (some (22, false)), .bin .sub (.s 27) (.s 28), []⟩ <|
  .op ⟨(some 30), (some (22, false)), .bin .gtr (.s 25) (.s 29), []⟩ <|
  .nil) [23, 24, 25, 26, 27, 28, 29, 30] 31 none (.s 22) (.s 30) [14, 22] <|
  .nil
def r39_3 : XL := .op ⟨(some 32), none, .build [.int .i64 0, .str ⟨#[]⟩, .int .i64 0, .int .i64 0, .str ⟨#[]⟩] [], []⟩ <|
  .op ⟨none, none, .store 5 (.s 2) (.s 32) false, []⟩ <|
  .op ⟨(some 3), none, .asg (.c ⟨.one, [.bool false]⟩) false, [0, 0, 4, 32]⟩ <|
  .nil
def r39_4 : XL := .op ⟨(some 34), none, .mv (.s 0), []⟩ <|
  .op ⟨(some 35), none, .mv (.s 5), []⟩ <|
  .op ⟨(some 36), none, .mv (.s 4), []⟩ <|
  .op ⟨(some 37), none, .iad 1 (.s 36) (.c ⟨.one, [.int .i64 0]⟩), []⟩ <|
  .op ⟨(some 38), none, .load false 1 (.s 37), []⟩ <|
  .op ⟨(some 39), none, .bin .add (.s 35) (.s 38), [3, 3, 31, 31, 35, 38]⟩ <|
  .op ⟨(some 40), none, .call 79 [(false, .s 34), (false, .s 39), (false, .c ⟨.one, [.int .i64 2]⟩)] [], []⟩ <|
  .op ⟨(some 33), none, .mv (.s 40), []⟩ <|
  .op ⟨(some 41), none, .ext 0 (.s 33), []⟩ <|
  .op ⟨(some 42), none, .ext 1 (.s 33), []⟩ <|
  .op ⟨(some 6), none, .asg (.s 41) true, []⟩ <|
  .op ⟨(some 7), none, .asg (.s 42) true, [33, 42]⟩ <|
  .nil
def r39_5 : XL := .op ⟨(some 43), none, .mv (.s 7), []⟩ <|
  .op ⟨(some 44), none, .bin .lss (.s 43) (.c ⟨.one, [.int .i64 0]⟩), [43, 43]⟩ <|
  .nil
def r39_6 : XL := .op ⟨(some 45), none, .build [.int .i64 0, .str ⟨#[]⟩, .int .i64 0, .int .i64 0, .str ⟨#[]⟩] [], [0, 0, 4, 44]⟩ <|
  .op ⟨none, none, .store 5 (.s 2) (.s 45) false, []⟩ <|
  .op ⟨(some 3), none, .asg (.c ⟨.one, [.bool false]⟩) false, [45, 45]⟩ <|
  .nil
def r39_7v : List XD := [⟨⟨(some 46), none, .mv (.s 0), []⟩, [], []⟩,
  ⟨⟨(some 47), none, .idx (.s 46) (.c ⟨.one, [.int .i64 0]⟩), []⟩, [0], []⟩,
  ⟨⟨(some 48), none, .convI .i64 (.s 47), []⟩, [0, 1], []⟩,
  ⟨⟨(some 49), none, .mv (.s 0), []⟩, [], [46, 47, 48]⟩,
  ⟨⟨(some 50), none, .mv (.s 5), []⟩, [], [46, 47, 48, 49]⟩,
  ⟨⟨(some 51), none, .mv (.s 5), []⟩, [], [46, 47, 48, 49, 50]⟩,
  ⟨⟨(some 52), none, .mv (.s 4), []⟩, [], [46, 47, 48, 49, 50, 51]⟩,
  ⟨⟨(some 53), none, .iad 1 (.s 52) (.c ⟨.one, [.int .i64 0]⟩), []⟩, [6], [46, 47, 48, 49, 50, 51]⟩,
  ⟨⟨(some 54), none, .load false 1 (.s 53), []⟩, [6, 7], [46, 47, 48, 49, 50, 51]⟩,
  ⟨⟨(some 55), none, .bin .add (.s 51) (.s 54), []⟩, [5, 6, 7, 8], [46, 47, 48, 49, 50]⟩,
  ⟨⟨(some 56), none, .slcS (.s 49) (some (.s 50)) (some (.s 55)), []⟩, [3, 4, 5, 6, 7, 8, 9], [46, 47, 48]⟩,
  ⟨⟨(some 57), none, .mv (.s 6), []⟩, [], [46, 47, 48, 49, 50, 51, 52, 53, 54, 55, 56]⟩,
  ⟨⟨(some 58), none, .iad 1 (.s 57) (.c ⟨.one, [.int .i64 0]⟩), []⟩, [11], [46, 47, 48, 49, 50, 51, 52, 53, 54, 55, 56]⟩,
  ⟨⟨(some 59), none, .load false 1 (.s 58), []⟩, [11, 12], [46, 47, 48, 49, 50, 51, 52, 53, 54, 55, 56]⟩,
  ⟨⟨(some 60), none, .mv (.s 6), []⟩, [], [46, 47, 48, 49, 50, 51, 52, 53, 54, 55, 56, 57, 58, 59]⟩,
  ⟨⟨(some 61), none, .iad 1 (.s 60) (.c ⟨.one, [.int .i64 1]⟩), []⟩, [14], [46, 47, 48, 49, 50, 51, 52, 53, 54, 55, 56, 57, 58, 59]⟩,
  ⟨⟨(some 62), none, .load false 1 (.s 61), []⟩, [14, 15], [46, 47, 48, 49, 50, 51, 52, 53, 54, 55, 56, 57, 58, 59]⟩,
  ⟨⟨(some 63), none, .mv (.s 0), []⟩, [], [46, 47, 48, 49, 50, 51, 52, 53, 54, 55, 56, 57, 58, 59, 60, 61, 62]⟩,
  ⟨⟨(some 64), none, .mv (.s 7), []⟩, [], [46, 47, 48, 49, 50, 51, 52, 53, 54, 55, 56, 57, 58, 59, 60, 61, 62, 63]⟩,
  ⟨⟨(some 65), none, .slcS (.s 63) (some (.s 64)) none, []⟩, [17, 18], [46, 47, 48, 49, 50, 51, 52, 53, 54, 55, 56, 57, 58, 59, 60, 61, 62]⟩,
  ⟨⟨(some 66), none, .build [.int .i64 0, .str ⟨#[]⟩, .int .i64 0, .int .i64 0, .str ⟨#[]⟩] [(0, 1, .s 48), (1, 1, .s 56), (2, 1, .s 59), (3, 1, .s 62), (4, 1, .s 65)], []⟩, [0, 1, 2, 3, 4, 5, 6, 7, 8, 9, 10, 11, 12, 13, 14, 15, 16, 17, 18, 19], []⟩,
  ⟨⟨(some 8), none, .alloc [.int .i64 0, .str ⟨#[]⟩, .int .i64 0, .int .i64 0, .str ⟨#[]⟩], []⟩, [], [46, 47, 48, 49, 50, 51, 52, 53, 54, 55, 56, 57, 58, 59, 60, 61, 62, 63, 64, 65, 66]⟩]
def r39_7t : List XD := [⟨⟨none, none, .store 5 (.s 8) (.s 66) false, [3, 7, 44, 66]⟩, [0, 1, 2, 3, 4, 5, 6, 7, 8, 9, 10, 11, 12, 13, 14, 15, 16, 17, 18, 19, 20, 21], []⟩]
def r39_8 : XL := .op ⟨(some 67), none, .load true 5 (.s 8), []⟩ <|
  .op ⟨(some 68), none, .call 94 [(false, .s 67)] [], []⟩ <|
  .op ⟨(some 69), none, .mv (.s 0), []⟩ <|
  .op ⟨(some 70), none, .bin .neq (.s 68) (.s 69), [0, 0, 67, 69]⟩ <|
  .nil
def r39_9 : XL := .op ⟨(some 71), none, .build [.int .i64 0, .str ⟨#[]⟩, .int .i64 0, .int .i64 0, .str ⟨#[]⟩] [], []⟩ <|
  .op ⟨none, none, .store 5 (.s 2) (.s 71) false, []⟩ <|
  .op ⟨(some 3), none, .asg (.c ⟨.one, [.bool false]⟩) false, [8, 71]⟩ <|
  .nil
def r39_10 : XL := .op ⟨(some 72), none, .load true 5 (.s 8), []⟩ <|
  .op ⟨none, none, .store 5 (.s 2) (.s 72) false, []⟩ <|
  .op ⟨(some 3), none, .asg (.c ⟨.one, [.bool true]⟩) false, [8, 72]⟩ <|
  .nil
def x39 : XCode := .seq (.ops r39_0) (.seq (.ops r39_1) (.seq (.seq (.ops r39_2) (.cond (.s 31) (.seq (.ops r39_3) (.ret)) (.skip))) (.seq (.ops r39_4) (.seq (.seq (.ops r39_5) (.cond (.s 44) (.seq (.ops r39_6) (.ret)) (.skip))) (.seq (.any r39_7v r39_7t) (.seq (.seq (.ops r39_8) (.cond (.s 70) (.seq (.ops r39_9) (.ret)) (.skip))) (.seq (.ops r39_10) (.ret))))))))
theorem m39 : mFun Try.prog Try.f39 x39 [.cell 2 5 true, .tmp 3] 1 = true := by kernel_rfl
theorem k39 : Callable Try.prog 39 := callable_of (by kernel_rfl)

/-! loop.example/g00360/spec.ReadAnswer -/
def r40_0 : XL := .op ⟨(some 2), none, .alloc [.int .i64 0, .int .i64 0, .int .i64 0, .str ⟨#[]⟩], []⟩ <|
  .op ⟨(some 3), none, .asg (.c ⟨.one, [.bool false]⟩) false, [3, 3]⟩ <|
  .nil
def r40_1 : XL := .op ⟨(some 8), none, .mv (.s 0), []⟩ <|
  .op ⟨(some 9), none, .call 79 [(false, .s 8), (false, .c ⟨.one, [.int .i64 0]⟩), (false, .c ⟨.one, [.int .i64 3]⟩)] [], []⟩ <|
  .op ⟨(some 7), none, .mv (.s 9), []⟩ <|
  .op ⟨(some 10), none, .ext 0 (.s 7), []⟩ <|
  .op ⟨(some 11), none, .ext 1 (.s 7), []⟩ <|
  .op ⟨(some 4), none, .asg (.s 10) true, []⟩ <|
  .op ⟨(some 5), none, .asg (.s 11) true, [7, 11]⟩ <|
  .nil
def r40_2 : XL := .op ⟨(some 12), none, .mv (.s 5), []⟩ <|
  .op ⟨(some 13), none, .bin .lss (.s 12) (.c ⟨.one, [.int .i64 0]⟩), [12, 12]⟩ <|
  .nil
def r40_3 : XL := .op ⟨(some 14), none, .build [.int .i64 0, .int .i64 0, .int .i64 0, .str ⟨#[]⟩] [], []⟩ <|
  .op ⟨none, none, .store 4 (.s 2) (.s 14) false, []⟩ <|
  .op ⟨(some 3), none, .asg (.c ⟨.one, [.bool false]⟩) false, [0, 0, 4, 14]⟩ <|
  .nil
def r40_4v : List XD := [⟨⟨(some 15), none, .mv (.s 4), []⟩, [], []⟩,
  ⟨⟨(some 16), none, .iad 1 (.s 15) (.c ⟨.one, [.int .i64 0]⟩), []⟩, [0], []⟩,
  ⟨⟨(some 17), none, .load false 1 (.s 16), []⟩, [0, 1], []⟩,
  ⟨⟨(some 18), none, .mv (.s 4), []⟩, [], [15, 16, 17]⟩,
  ⟨⟨(some 19), none, .iad 1 (.s 18) (.c ⟨.one, [.int .i64 1]⟩), []⟩, [3], [15, 16, 17]⟩,
  ⟨⟨(some 20), none, .load false 1 (.s 19), []⟩, [3, 4], [15, 16, 17]⟩,
  ⟨⟨(some 21), none, .mv (.s 4), []⟩, [], [15, 16, 17, 18, 19, 20]⟩,
  ⟨⟨(some 22), none, .iad 1 (.s 21) (.c ⟨.one, [.int .i64 2]⟩), []⟩, [6], [15, 16, 17, 18, 19, 20]⟩,
  ⟨⟨(some 23), none, .load false 1 (.s 22), []⟩, [6, 7], [15, 16, 17, 18, 19, 20]⟩,
  ⟨⟨(some 24), none, .mv (.s 0), []⟩, [], [15, 16, 17, 18, 19, 20, 21, 22, 23]⟩,
  ⟨⟨(some 25), none, .mv (.s 5), []⟩, [], [15, 16, 17, 18, 19, 20, 21, 22, 23, 24]⟩,
  ⟨⟨(some 26), none, .slcS (.s 24) (some (.s 25)) none, []⟩, [9, 10], [15, 16, 17, 18, 19, 20, 21, 22, 23]⟩,
  ⟨⟨(some 27), none, .build [.int .i64 0, .int .i64 0, .int .i64 0, .str ⟨#[]⟩] [(0, 1, .s 17), (1, 1, .s 20), (2, 1, .s 23), (3, 1, .s 26)], []⟩, [0, 1, 2, 3, 4, 5, 6, 7, 8, 9, 10, 11], []⟩,
  ⟨⟨(some 6), none, .alloc [.int .i64 0, .int .i64 0, .int .i64 0, .str ⟨#[]⟩], []⟩, [], [15, 16, 17, 18, 19, 20, 21, 22, 23, 24, 25, 26, 27]⟩]
def r40_4t : List XD := [⟨⟨none, none, .store 4 (.s 6) (.s 27) false, [3, 5, 13, 27]⟩, [0, 1, 2, 3, 4, 5, 6, 7, 8, 9, 10, 11, 12, 13], []⟩]
def r40_5 : XL := .op ⟨(some 28), none, .load true 4 (.s 6), []⟩ <|
  .op ⟨(some 29), none, .call 95 [(false, .s 28)] [], []⟩ <|
  .op ⟨(some 30), none, .mv (.s 0), []⟩ <|
  .op ⟨(some 31), none, .bin .neq (.s 29) (.s 30), [0, 0, 28, 30]⟩ <|
  .nil
def r40_6 : XL := .op ⟨(some 32), none, .build [.int .i64 0, .int .i64 0, .int .i64 0, .str ⟨#[]⟩] [], []⟩ <|
  .op ⟨none, none, .store 4 (.s 2) (.s 32) false, []⟩ <|
  .op ⟨(some 3), none, .asg (.c ⟨.one, [.bool false]⟩) false, [6, 32]⟩ <|
  .nil
def r40_7 : XL := .op ⟨(some 33), none, .load true 4 (.s 6), []⟩ <|
  .op ⟨none, none, .store 4 (.s 2) (.s 33) false, []⟩ <|
  .op ⟨(some 3), none, .asg (.c ⟨.one, [.bool true]⟩) false, [6, 33]⟩ <|
  .nil
def x40 : XCode := .seq (.ops r40_0) (.seq (.ops r40_1) (.seq (.seq (.ops r40_2) (.cond (.s 13) (.seq (.ops r40_3) (.ret)) (.skip))) (.seq (.any r40_4v r40_4t) (.seq (.seq (.ops r40_5) (.cond (.s 31) (.seq (.ops r40_6) (.ret)) (.skip))) (.seq (.ops r40_7) (.ret))))))
theorem m40 : mFun Try.prog Try.f40 x40 [.cell 2 4 true, .tmp 3] 1 = true := by kernel_rfl
theorem k40 : Callable Try.prog 40 := callable_of (by kernel_rfl)

/-! loop.example/g00360/spec.l15Same -/
def r41_0 : XL := .op ⟨(some 2), none, .box (.s 0) false, []⟩ <|
  .op ⟨(some 3), none, .box (.s 1) false, []⟩ <|
  .op ⟨(some 4), none, .asg (.c ⟨.one, [.bool false]⟩) false, [0, 1, 4, 4]⟩ <|
  .nil
def r41_1 : XL := .op ⟨(some 5), none, .fad 0 (.s 2), []⟩ <|
  .op ⟨(some 6), none, .load false 1 (.s 5), []⟩ <|
  .op ⟨(some 7), none, .fad 0 (.s 3), []⟩ <|
  .op ⟨(some 8), none, .load false 1 (.s 7), []⟩ <|
  .op ⟨(some 9), none, .bin .neq (.s 6) (.s 8), []⟩ <|
  .op ⟨(some 10), none, .mv (.s 9), []⟩ <|
  .sc 10 false (.op ⟨(some 11), (some (10, false)), .fad 1 (.s 2), []⟩ <|
  .op ⟨(some 12), (some (10, false)), .load false 1 (.s 11), []⟩ <|
  .op ⟨(some 13), (some (10, false)), .fad 1 (.s 3), []⟩ <|
  .op ⟨(some 14), (some (10, false)), .load false 1 (.s 13), []⟩ <|
  .op ⟨(some 15), (some (10, false)), .bin .neq (.s 12) (.s 14), []⟩ <|
  .nil) [11, 12, 13, 14, 15] 16 none (.s 10) (.s 15) [5, 10] <|
  .op ⟨(some 17), none, .mv (.s 16), []⟩ <|
  .sc 17 false (.op ⟨(some 18), (some (17, false)), .fad 2 (.s 2), []⟩ <|
  .op ⟨(some 19), (some (17, false)), .load false 1 (.s 18), []⟩ <|
  .op ⟨(some 20), (some (17, false)), .fad 2 (.s 3), []⟩ <|
  .op ⟨(some 21), (some (17, false)), .load false 1 (.s 20), []⟩ <|
  .op ⟨(some 22), (some (17, false)), .bin .neq (.s 19) (.s 21), []⟩ <|
  .nil) [18, 19, 20, 21, 22] 23 none (.s 17) (.s 22) [] <|
  .op ⟨(some 24), none, .mv (.s 23), []⟩ <|
  .sc 24 false (.op ⟨(some 25), (some (24, false)), .fad 3 (.s 2), []⟩ <|
  .op ⟨(some 26), (some (24, false)), .load false 1 (.s 25), []⟩ <|
  .op ⟨(some 27), (some (24, false)), .fad 3 (.s 3), []⟩ <|
  .op ⟨(some 28), (some (24, false)), .load false 1 (.s 27), []⟩ <|
  .op ⟨(some 29), (some (24, false)), .bin .neq (.s 26) (.s 28), []⟩ <|
  .nil) [25, 26, 27, 28, 29] 30 none (.s 24) (.s 29) [] <|
  .op ⟨(some 31), none, .mv (.s 30), []⟩ <|
  .sc 31 false (.op ⟨(some 32), (some (31, false)), .fad 4 (.s 2), []⟩ <|
  .op ⟨(some 33), (some (31, false)), .load false 1 (.s 32), []⟩ <|
  .op ⟨(some 34), (some (31, false)), .fad 4 (.s 3), []⟩ <|
  .op ⟨(some 35), (some (31, false)), .load false 1 (.s 34), []⟩ <|
  .op ⟨(some 36), (some (31, false)), .bin .neq (.s 33) (.s 35), []⟩ <|
  .nil) [32, 33, 34, 35, 36] 37 none (.s 31) (.s 36) [16, 31] <|
  .op ⟨(some 38), none, .mv (.s 37), []⟩ <|
  .sc 38 false (.op ⟨(some 39), (some (38, false)), .fad 5 (.s 2), []⟩ <|
  .op ⟨(some 40), (some (38, false)), .load false 1 (.s 39), []⟩ <|
  .op ⟨(some 41), (some (38, false)), .fad 5 (.s 3), []⟩ <|
  .op ⟨(some 42), (some (38, false)), .load false 1 (.s 41), []⟩ <|
  .op ⟨(some 43), (some (38, false)), .bin .neq (.s 40) (.s 42), []⟩ <|
  .nil) [39, 40, 41, 42, 43] 44 none (.s 38) (.s 43) [] <|
  .op ⟨(some 45), none, .mv (.s 44), []⟩ <|
  .sc 45 false (.op ⟨(some 46), (some (45, false)), .fad 6 (.s 2), []⟩ <|
  .op ⟨(some 47), (some (45, false)), .load false 1 (.s 46), []⟩ <|
  .op ⟨(some 48), (some (45, false)), .fad 6 (.s 3), []⟩ <|
  .op ⟨(some 49), (some (45, false)), .load false 1 (.s 48), []⟩ <|
  .op ⟨(some 50), (some (45, false)), .bin .neq (.s 47) (.s 49), []⟩ <|
  .nil) [46, 47, 48, 49, 50] 51 none (.s 45) (.s 50) [] <|
  .op ⟨(some 52), none, .mv (.s 51), []⟩ <|
  .sc 52 false (.op ⟨(some 53), (some (52, false)), .fad 7 (.s 2), []⟩ <|
  .op ⟨(some 54), (some (52, false)), .load false 1 (.s 53), []⟩ <|
  .op ⟨(some 55), (some (52, false)), .fad 7 (.s 3), []⟩ <|
  .op ⟨(some 56), (some (52, false)), .load false 1 (.s 55), []⟩ <|
  .op ⟨(some 57), (some (52, false)), .binB true (.s 54) (.s 56), []⟩ <|
  .nil) [53, 54, 55, 56, 57] 58 none (.s 52) (.s 57) [37, 52] <|
  .op ⟨(some 59), none, .mv (.s 58), []⟩ <|
  .sc 59 false (.op ⟨(some 60), (some (59, false)), .fad 9 (.s 2), []⟩ <|
  .op ⟨(some 61), (some (59, false)), .load false 1 (.s 60), []⟩ <|
  .op ⟨(some 62), (some (59, false)), .fad 9 (.s 3), []⟩ <|
  .op ⟨(some 63), (some (59, false)), .load false 1 (.s 62), []⟩ <|
  .op ⟨(some 64), (some (59, false)), .bin .neq (.s 61) (.s 63), []⟩ <|
  .nil) [60, 61, 62, 63, 64] 65 none (.s 59) (.s 64) [58, 59] <|
  .nil
def r41_2 : XL := .op ⟨(some 4), none, .asg (.c ⟨.one, [.bool false]⟩) false, [2, 3, 65, 65]⟩ <|
  .nil
def r41_3 : XL := .op ⟨(some 66), none, .fad 8 (.s 2), []⟩ <|
  .op ⟨(some 67), none, .load false 1 (.s 66), []⟩ <|
  .op ⟨(some 68), none, .fad 8 (.s 3), []⟩ <|
  .op ⟨(some 69), none, .load false 1 (.s 68), []⟩ <|
  .op ⟨(some 70), none, .call 96 [(false, .s 67), (false, .s 69)] [], [2, 69]⟩ <|
  .op ⟨(some 4), none, .asg (.s 70) false, [70, 70]⟩ <|
  .nil
def x41 : XCode := .seq (.ops r41_0) (.seq (.seq (.ops r41_1) (.cond (.s 65) (.seq (.ops r41_2) (.ret)) (.skip))) (.seq (.ops r41_3) (.ret)))
theorem m41 : mFun Try.prog Try.f41 x41 [.tmp 4] 2 = true := by kernel_rfl
theorem k41 : Callable Try.prog 41 := callable_of (by kernel_rfl)

/-! loop.example/g00360/impl.isServer -/
def r43_0 : XL := .op ⟨(some 2), none, .asg (.c ⟨.one, [.bool false]⟩) false, [2, 2]⟩ <|
  .nil
def r43_1 : XL := .op ⟨(some 3), none, .mv (.s 0), []⟩ <|
  .op ⟨(some 4), none, .call 32 [(false, .s 3), (false, .c ⟨.one, [.int .i64 0]⟩), (false, .c ⟨.one, [.int .i64 4]⟩)] [], []⟩ <|
  .op ⟨(some 2), none, .asg (.s 4) false, [0, 0, 3, 4]⟩ <|
  .nil
def x43 : XCode := .seq (.ops r43_0) (.seq (.ops r43_1) (.ret))
theorem m43 : mFun Try.prog Try.f43 x43 [.tmp 2] 1 = true := by kernel_rfl
theorem k43 : Callable Try.prog 43 := callable_of (by kernel_rfl)

/-! loop.example/g00360/impl.isTerm -/
def r44_0 : XL := .op ⟨(some 2), none, .asg (.c ⟨.one, [.bool false]⟩) false, [2, 2]⟩ <|
  .nil
def r44_1 : XL := .op ⟨(some 3), none, .mv (.s 0), []⟩ <|
  .op ⟨(some 4), none, .call 32 [(false, .s 3), (false, .c ⟨.one, [.int .i64 1]⟩), (false, .c ⟨.one, [.int .i64 100000]⟩)] [], []⟩ <|
  .op ⟨(some 2), none, .asg (.s 4) false, [0, 0, 3, 4]⟩ <|
  .nil
def x44 : XCode := .seq (.ops r44_0) (.seq (.ops r44_1) (.ret))
theorem m44 : mFun Try.prog Try.f44 x44 [.tmp 2] 1 = true := by kernel_rfl
theorem k44 : Callable Try.prog 44 := callable_of (by kernel_rfl)

/-! loop.example/g00360/impl.isPlace -/
def r45_0 : XL := .op ⟨(some 4), none, .asg (.c ⟨.one, [.bool false]⟩) false, [4, 4]⟩ <|
  .nil
def r45_1 : XL := .op ⟨(some 5), none, .mv (.s 0), []⟩ <|
  .op ⟨(some 6), none, .bin .eql (.s 5) (.c ⟨.one, [.int .i64 0]⟩), []⟩ <|
  .op ⟨(some 7), none, .mv (.s 6), []⟩ <|
  .sc 7 true (.op ⟨(some 8), (some (7, true)), .mv (.s 1), []⟩ <|
  .op ⟨(some 9), (some (7, true)), .bin .eql (.s 8) (.c ⟨.one, [.int .i64 0]⟩), []⟩ <|
  .nil) [8, 9] 10 none (.s 7) (.s 9) [] <|
  .op ⟨(some 11), none, .mv (.s 10), []⟩ <|
  .sc 11 false (.op ⟨(some 12), (some (11, false)), .mv (.s 0), []⟩ <|
  .op ⟨(some 13), (some (11, false)), .call 32 [(false, .s 12), (false, .c ⟨.one, [.int .i64 1]⟩), (false, .c ⟨.one, [.int .i64 100000]⟩)] [], []⟩ <|
  .op ⟨(some 14), (some (11, false)), .mv (.s 13), []⟩ <|
  .sc 14 true (.op ⟨(some 15), (some (14, true)), .mv (.s 1), []⟩ <|
  .op ⟨(some 16), (some (14, true)), .call 44 [(false, .s 15)] [], []⟩ <|
  .nil) [15, 16] 17 (some (11, false)) (.s 14) (.s 16) [] <|
  .nil) [12, 13, 14, 15, 16, 17] 18 none (.s 11) (.s 17) [0, 11] <|
  .op ⟨(some 4), none, .asg (.s 18) false, [18, 18]⟩ <|
  .nil
def x45 : XCode := .seq (.ops r45_0) (.seq (.ops r45_1) (.ret))
theorem m45 : mFun Try.prog Try.f45 x45 [.tmp 4] 2 = true := by kernel_rfl
theorem k45 : Callable Try.prog 45 := callable_of (by kernel_rfl)

/-! loop.example/g00360/impl.bare -/
def r46_0 : XL := .op ⟨(some 2), none, .box (.s 0) false, []⟩ <|
  .op ⟨(some 3), none, .box (.s 1) false, []⟩ <|
  .op ⟨(some 4), none, .asg (.c ⟨.one, [.bool false]⟩) false, [0, 1, 4, 4]⟩ <|
  .nil
def r46_1 : XL := .op ⟨(some 5), none, .fad 3 (.s 2), []⟩ <|
  .op ⟨(some 6), none, .load false 1 (.s 5), []⟩ <|
  .op ⟨(some 7), none, .fad 3 (.s 3), []⟩ <|
  .op ⟨(some 8), none, .load false 1 (.s 7), []⟩ <|
  .op ⟨(some 9), none, .bin .eql (.s 6) (.s 8), []⟩ <|
  .op ⟨(some 10), none, .mv (.s 9), []⟩ <|
  .sc 10 true (.op ⟨(some 11), (some (10, true)), .fad 4 (.s 2), []⟩ <|
  .op ⟨(some 12), (some (10, true)), .load false 1 (.s 11), []⟩ <|
  .op ⟨(some 13), (some (10, true)), .fad 4 (.s 3), []⟩ <|
  .op ⟨(some 14), (some (10, true)), .load false 1 (.s 13), []⟩ <|
  .op ⟨(some 15), (some (10, true)), .bin .eql (.s 12) (.s 14), []⟩ <|
  .nil) [11, 12, 13, 14, 15] 16 none (.s 10) (.s 15) [5, 10] <|
  .op ⟨(some 17), none, .mv (.s 16), []⟩ <|
  .sc 17 true (.op ⟨(some 18), (some (17, true)), .fad 5 (.s 2), []⟩ <|
  .op ⟨(some 19), (some (17, true)), .load false 1 (.s 18), []⟩ <|
  .op ⟨(some 20), (some (17, true)), .fad 5 (.s 3), []⟩ <|
  .op ⟨(some 21), (some (17, true)), .load false 1 (.s 20), []⟩ <|
  .op ⟨(some 22), (some (17, true)), .bin .eql (.s 19) (.s 21), []⟩ <|
  .nil) [18, 19, 20, 21, 22] 23 none (.s 17) (.s 22) [] <|
  .op ⟨(some 24), none, .mv (.s 23), []⟩ <|
  .sc 24 true (.op ⟨(some 25), (some (24, true)), .fad 6 (.s 2), []⟩ <|
  .op ⟨(some 26), (some (24, true)), .load false 1 (.s 25), []⟩ <|
  .op ⟨(some 27), (some (24, true)), .fad 6 (.s 3), []⟩ <|
  .op ⟨(some 28), (some (24, true)), .load false 1 (.s 27), []⟩ <|
  .op ⟨(some 29), (some (24, true)), .bin .eql (.s 26) (.s 28), []⟩ <|
  .nil) [25, 26, 27, 28, 29] 30 none (.s 24) (.s 29) [] <|
  .op ⟨(some 31), none, .mv (.s 30), []⟩ <|
  .sc 31 true (.op ⟨(some 32), (some (31, true)), .fad 7 (.s 2), []⟩ <|
  .op ⟨(some 33), (some (31, true)), .load false 1 (.s 32), []⟩ <|
  .op ⟨(some 34), (some (31, true)), .fad 7 (.s 3), []⟩ <|
  .op ⟨(some 35), (some (31, true)), .load false 1 (.s 34), []⟩ <|
  .op ⟨(some 36), (some (31, true)), .binB false (.s 33) (.s 35), []⟩ <|
  .nil) [32, 33, 34, 35, 36] 37 none (.s 31) (.s 36) [16, 31] <|
  .op ⟨(some 38), none, .mv (.s 37), []⟩ <|
  .sc 38 true (.op ⟨(some 39), (some (38, true)), .fad 8 (.s 2), []⟩ <|
  .op ⟨(some 40), (some (38, true)), .load false 1 (.s 39), []⟩ <|
  .op ⟨(some 41), (some (38, true)), .len false (.s 40), []⟩ <|
  .op ⟨(some 42), (some (38, true)), .fad 8 (.s 3), []⟩ <|
  .op ⟨(some 43), (some (38, true)), .load false 1 (.s 42), []⟩ <|
  .op ⟨(some 44), (some (38, true)), .len false (.s 43), []⟩ <|
  .op ⟨(some 45), (some (38, true)), .bin .eql (.s 41) (.s 44), []⟩ <|
  .nil) [39, 40, 41, 42, 43, 44, 45] 46 none (.s 38) (.s 45) [] <|
  .op ⟨(some 47), none, .mv (.s 46), []⟩ <|
  .sc 47 true (.op ⟨(some 48), (some (47, true)), .fad 9 (.s 2), []⟩ <|
  .op ⟨(some 49), (some (47, true)), .load false 1 (.s 48), []⟩ <|
  .op ⟨(some 50), (some (47, true)), .fad 9 (.s 3), []⟩ <|
  .op ⟨(some 51), (some (47, true)), .load false 1 (.s 50), []⟩ <|
  .op ⟨(some 52), (some (47, true)), .bin .eql (.s 49) (.s 51), []⟩ <|
  .nil) [48, 49, 50, 51, 52] 53 none (.s 47) (.s 52) [2, 47] <|
  .op ⟨(some 4), none, .asg (.s 53) false, [53, 53]⟩ <|
  .nil
def x46 : XCode := .seq (.ops r46_0) (.seq (.ops r46_1) (.ret))
theorem m46 : mFun Try.prog Try.f46 x46 [.tmp 4] 2 = true := by kernel_rfl
theorem k46 : Callable Try.prog 46 := callable_of (by kernel_rfl)

/-! loop.example/g00360/impl.appOk -/
def r47_0 : XL := .op ⟨(some 1), none, .box (.s 0) false, []⟩ <|
  .op ⟨(some 2), none, .asg (.c ⟨.one, [.bool false]⟩) false, [0, 0, 2, 2]⟩ <|
  .nil
def r47_1 : XL := .op ⟨(some 3), none, .fad 4 (.s 1), []⟩ <|
  .op ⟨(some 4), none, .load false 1 (.s 3), []⟩ <|
  .op ⟨(some 5), none, .fad 5 (.s 1), []⟩ <|
  .op ⟨(some 6), none, .load false 1 (.s 5), []⟩ <|
  .op ⟨(some 7), none, .call 45 [(false, .s 4), (false, .s 6)] [], []⟩ <|
  .op ⟨(some 8), none, .mv (.s 7), []⟩ <|
  .sc 8 true (.op ⟨(some 9), (some (8, true)), .fad 5 (.s 1), []⟩ <|
  .op ⟨(some 10), (some (8, true)), .load false 1 (.s 9), []⟩ <|
  .op ⟨(some 11), (some (8, true)), .fad 3 (.s 1), []⟩ <|
  .op ⟨(some 12), (some (8, true)), .load false 1 (.s 11), []⟩ <|
  .op ⟨(some 13), (some (8, true)), .bin .leq (.s 10) (.s 12), []⟩ <|
  .nil) [9, 10, 11, 12, 13] 14 none (.s 8) (.s 13) [3, 8] <|
  .op ⟨(some 15), none, .mv (.s 14), []⟩ <|
  .sc 15 true (.op ⟨(some 16), (some (15, true)), .fad 6 (.s 1), []⟩ <|
  .op ⟨(some 17), (some (15, true)), .load false 1 (.s 16), []⟩ <|
  .op ⟨(some 18), (some (15, true)), .call 32 [(false, .s 17), (false, .c ⟨.one, [.int .i64 0]⟩), (false, .c ⟨.one, [.int .i64 100000]⟩)] [], []⟩ <|
  .nil) [16, 17, 18] 19 none (.s 15) (.s 18) [] <|
  .op ⟨(some 20), none, .mv (.s 19), []⟩ <|
  .sc 20 true (.op ⟨(some 21), (some (20, true)), .fad 8 (.s 1), []⟩ <|
  .op ⟨(some 22), (some (20, true)), .load false 1 (.s 21), []⟩ <|
  .op ⟨(some 23), (some (20, true)), .len false (.s 22), []⟩ <|
  .op ⟨(some 24), (some (20, true)), .bin .leq (.s 23) (.c ⟨.one, [.int .i64 4]⟩), []⟩ <|
  .nil) [21, 22, 23, 24] 25 none (.s 20) (.s 24) [] <|
  .op ⟨(some 26), none, .mv (.s 25), []⟩ <|
  .sc 26 true (.op ⟨(some 27), (some (26, true)), .fad 8 (.s 1), []⟩ <|
  .op ⟨(some 28), (some (26, true)), .load false 1 (.s 27), []⟩ <|
  .op ⟨(some 29), (some (26, true)), .fad 5 (.s 1), []⟩ <|
  .op ⟨(some 30), (some (26, true)), .load false 1 (.s 29), []⟩ <|
  .op ⟨(some 31), (some (26, true)), .fad 3 (.s 1), []⟩ <|
  .op ⟨(some 32), (some (26, true)), .load false 1 (.s 31), []⟩ <|
  .op ⟨(some 33), (some (26, true)), .call 98 [(false, .s 28), (false, .s 30), (false, .s 32)] [], []⟩ <|
  .nil) [27, 28, 29, 30, 31, 32, 33] 34 none (.s 26) (.s 33) [14, 26] <|
  .op ⟨(some 35), none, .mv (.s 34), []⟩ <|
  .sc 35 true (.op ⟨(some 36), (some (35, true)), .fad 4 (.s 1), []⟩ <|
  .op ⟨(some 37), (some (35, true)), .load false 1 (.s 36), []⟩ <|
  .op ⟨(some 38), (some (35, true)), .fad 8 (.s 1), []⟩ <|
  .op ⟨(some 39), (some (35, true)), .load false 1 (.s 38), []⟩ <|
  .op ⟨(some 40), (some (35, true)), .len false (.s 39), []⟩ <|
  .op ⟨(some 41), (some (35, true)), .bin .add (.s 37) (.s 40), []⟩ <|
  .op ⟨(some 42), (some (35, true)), .bin .leq (.s 41) (.c ⟨.one, [.int .i64 100000]⟩), []⟩ <|
  .nil) [36, 37, 38, 39, 40, 41, 42] 43 none (.s 35) (.s 42) [] <|
  .op ⟨(some 2), none, .asg (.s 43) false, [1, 1, 34, 43]⟩ <|
  .nil
def x47 : XCode := .seq (.ops r47_0) (.seq (.ops r47_1) (.ret))
theorem m47 : mFun Try.prog Try.f47 x47 [.tmp 2] 1 = true := by kernel_rfl
theorem k47 : Callable Try.prog 47 := callable_of (by kernel_rfl)

/-! loop.example/g00360/impl.ReadOp -/
def r48_0 : XL := .op ⟨(some 2), none, .alloc [.int .i64 0, .str ⟨#[]⟩, .int .i64 0, .int .i64 0, .str ⟨#[]⟩], []⟩ <|
  .op ⟨(some 3), none, .asg (.c ⟨.one, [.bool false]⟩) false, [3, 3]⟩ <|
  .nil
def r48_1 : XL := .op ⟨(some 6), none, .mv (.s 0), []⟩ <|
  .op ⟨(some 7), none, .build [.str ⟨#[]⟩, .bool false] [(0, 1, .s 6), (1, 1, .c ⟨.one, [.bool true]⟩)], []⟩ <|
  .op ⟨(some 8), none, .box (.s 7) false, []⟩ <|
  .op ⟨(some 4), none, .asg (.s 8) false, [6, 8]⟩ <|
  .nil
def r48_2 : XL := .op ⟨(some 9), none, .mv (.s 4), []⟩ <|
  .op ⟨(some 10), none, .call 99 [(false, .s 9)] [8], []⟩ <|
  .op ⟨(some 5), none, .alloc [.int .i64 0, .str ⟨#[]⟩, .int .i64 0, .int .i64 0, .str ⟨#[]⟩], []⟩ <|
  .op ⟨none, none, .store 5 (.s 5) (.s 10) false, [9, 10]⟩ <|
  .nil
def r48_3 : XL := .op ⟨(some 11), none, .mv (.s 4), []⟩ <|
  .op ⟨(some 12), none, .nilc (.s 11), []⟩ <|
  .op ⟨(some 13), none, .fad 1 (.s 12), []⟩ <|
  .op ⟨(some 14), none, .load false 1 (.s 13), []⟩ <|
  .op ⟨(some 15), none, .un .not (.s 14), []⟩ <|
  .op ⟨(some 16), none, .mv (.s 15), [4, 4, 11, 15]⟩ <|
  .sc 16 false (.op ⟨(some 17), (some (16, false)), .load true 5 (.s 5), []⟩ <|
  .op ⟨(some 18), (some (16, false)), .call 100 [(false, .s 17)] [], []⟩ <|
  .op ⟨(some 19), (some (16, false)), .mv (.s 0), []⟩ <|
  .op ⟨(some 20), (some (16, false)), .bin .neq (.s 18) (.s 19), []⟩ <|
  .nil) [17, 18, 19, 20] 21 none (.s 16) (.s 20) [0, 0, 16, 16] <|
  .nil
def r48_4 : XL := .op ⟨(some 22), none, .build [.int .i64 0, .str ⟨#[]⟩, .int .i64 0, .int .i64 0, .str ⟨#[]⟩] [], []⟩ <|
  .op ⟨none, none, .store 5 (.s 2) (.s 22) false, []⟩ <|
  .op ⟨(some 3), none, .asg (.c ⟨.one, [.bool false]⟩) false, [5, 22]⟩ <|
  .nil
def r48_5 : XL := .op ⟨(some 23), none, .load true 5 (.s 5), []⟩ <|
  .op ⟨none, none, .store 5 (.s 2) (.s 23) false, []⟩ <|
  .op ⟨(some 3), none, .asg (.c ⟨.one, [.bool true]⟩) false, [5, 23]⟩ <|
  .nil
def x48 : XCode := .seq (.ops r48_0) (.seq (.ops r48_1) (.seq (.ops r48_2) (.seq (.seq (.ops r48_3) (.cond (.s 21) (.seq (.ops r48_4) (.ret)) (.skip))) (.seq (.ops r48_5) (.ret)))))
theorem m48 : mFun Try.prog Try.f48 x48 [.cell 2 5 true, .tmp 3] 1 = true := by kernel_rfl
theorem k48 : Callable Try.prog 48 := callable_of (by kernel_rfl)

/-! loop.example/g00360/impl.isAddress -/
def r49_0 : XL := .op ⟨(some 2), none, .asg (.c ⟨.one, [.bool false]⟩) false, [2, 2]⟩ <|
  .nil
def r49_1 : XL := .op ⟨(some 3), none, .mv (.s 0), []⟩ <|
  .op ⟨(some 4), none, .bin .sub (.s 3) (.c ⟨.one, [.int .i64 10]⟩), []⟩ <|
  .op ⟨(some 5), none, .call 69 [(false, .s 4)] [], []⟩ <|
  .op ⟨(some 2), none, .asg (.s 5) false, [0, 0, 3, 5]⟩ <|
  .nil
def x49 : XCode := .seq (.ops r49_0) (.seq (.ops r49_1) (.ret))
theorem m49 : mFun Try.prog Try.f49 x49 [.tmp 2] 1 = true := by kernel_rfl
theorem k49 : Callable Try.prog 49 := callable_of (by kernel_rfl)

/-! loop.example/g00360/impl.isSerial -/
def r50_0 : XL := .op ⟨(some 2), none, .asg (.c ⟨.one, [.bool false]⟩) false, [2, 2]⟩ <|
  .nil
def r50_1 : XL := .op ⟨(some 3), none, .mv (.s 0), []⟩ <|
  .op ⟨(some 4), none, .call 32 [(false, .s 3), (false, .c ⟨.one, [.int .i64 1]⟩), (false, .c ⟨.one, [.int .i64 1000000]⟩)] [], []⟩ <|
  .op ⟨(some 2), none, .asg (.s 4) false, [0, 0, 3, 4]⟩ <|
  .nil
def x50 : XCode := .seq (.ops r50_0) (.seq (.ops r50_1) (.ret))
theorem m50 : mFun Try.prog Try.f50 x50 [.tmp 2] 1 = true := by kernel_rfl
theorem k50 : Callable Try.prog 50 := callable_of (by kernel_rfl)

/-! loop.example/g00360/impl.ReadAnswer -/
def r51_0 : XL := .op ⟨(some 2), none, .alloc [.int .i64 0, .int .i64 0, .int .i64 0, .str ⟨#[]⟩], []⟩ <|
  .op ⟨(some 3), none, .asg (.c ⟨.one, [.bool false]⟩) false, [3, 3]⟩ <|
  .nil
def r51_1 : XL := .op ⟨(some 6), none, .mv (.s 0), []⟩ <|
  .op ⟨(some 7), none, .build [.str ⟨#[]⟩, .bool false] [(0, 1, .s 6), (1, 1, .c ⟨.one, [.bool true]⟩)], []⟩ <|
  .op ⟨(some 8), none, .box (.s 7) false, []⟩ <|
  .op ⟨(some 4), none, .asg (.s 8) false, [6, 8]⟩ <|
  .nil
def r51_2 : XL := .op ⟨(some 9), none, .build [.int .i64 0, .int .i64 0, .int .i64 0, .str ⟨#[]⟩] [], []⟩ <|
  .op ⟨(some 5), none, .alloc [.int .i64 0, .int .i64 0, .int .i64 0, .str ⟨#[]⟩], []⟩ <|
  .op ⟨none, none, .store 4 (.s 5) (.s 9) false, [9, 9]⟩ <|
  .nil
def r51_3 : XL := .op ⟨(some 10), none, .mv (.s 4), []⟩ <|
  .op ⟨(some 11), none, .call 81 [(false, .s 10)] [8], []⟩ <|
  .op ⟨(some 12), none, .fad 0 (.s 5), []⟩ <|
  .op ⟨none, none, .store 1 (.s 12) (.s 11) false, [10, 12]⟩ <|
  .nil
def r51_4 : XL := .op ⟨(some 13), none, .mv (.s 4), []⟩ <|
  .op ⟨(some 14), none, .call 81 [(false, .s 13)] [8], []⟩ <|
  .op ⟨(some 15), none, .fad 1 (.s 5), []⟩ <|
  .op ⟨none, none, .store 1 (.s 15) (.s 14) false, [13, 15]⟩ <|
  .nil
def r51_5 : XL := .op ⟨(some 16), none, .mv (.s 4), []⟩ <|
  .op ⟨(some 17), none, .call 81 [(false, .s 16)] [8], []⟩ <|
  .op ⟨(some 18), none, .fad 2 (.s 5), []⟩ <|
  .op ⟨none, none, .store 1 (.s 18) (.s 17) false, [16, 18]⟩ <|
  .nil
def r51_6 : XL := .op ⟨(some 19), none, .mv (.s 4), []⟩ <|
  .op ⟨(some 20), none, .nilc (.s 19), []⟩ <|
  .op ⟨(some 21), none, .fad 0 (.s 20), []⟩ <|
  .op ⟨(some 22), none, .load false 1 (.s 21), []⟩ <|
  .op ⟨(some 23), none, .fad 3 (.s 5), []⟩ <|
  .op ⟨none, none, .store 1 (.s 23) (.s 22) false, [19, 23]⟩ <|
  .nil
def r51_7 : XL := .op ⟨(some 24), none, .mv (.s 4), []⟩ <|
  .op ⟨(some 25), none, .nilc (.s 24), []⟩ <|
  .op ⟨(some 26), none, .fad 1 (.s 25), []⟩ <|
  .op ⟨(some 27), none, .load false 1 (.s 26), []⟩ <|
  .op ⟨(some 28), none, .un .not (.s 27), []⟩ <|
  .op ⟨(some 29), none, .mv (.s 28), [4, 4, 24, 28]⟩ <|
  .sc 29 false (.op ⟨(some 30), (some (29, false)), .load true 4 (.s 5), []⟩ <|
  .op ⟨(some 31), (some (29, false)), .call 101 [(false, .s 30)] [], []⟩ <|
  .op ⟨(some 32), (some (29, false)), .mv (.s 0), []⟩ <|
  .op ⟨(some 33), (some (29, false)), .bin .neq (.s 31) (.s 32), []⟩ <|
  .nil) [30, 31, 32, 33] 34 none (.s 29) (.s 33) [0, 0, 29, 29] <|
  .nil
def r51_8 : XL := .op ⟨(some 35), none, .build [.int .i64 0, .int .i64 0, .int .i64 0, .str ⟨#[]⟩] [], []⟩ <|
  .op ⟨none, none, .store 4 (.s 2) (.s 35) false, []⟩ <|
  .op ⟨(some 3), none, .asg (.c ⟨.one, [.bool false]⟩) false, [5, 35]⟩ <|
  .nil
def r51_9 : XL := .op ⟨(some 36), none, .load true 4 (.s 5), []⟩ <|
  .op ⟨none, none, .store 4 (.s 2) (.s 36) false, []⟩ <|
  .op ⟨(some 3), none, .asg (.c ⟨.one, [.bool true]⟩) false, [5, 36]⟩ <|
  .nil
def x51 : XCode := .seq (.ops r51_0) (.seq (.ops r51_1) (.seq (.ops r51_2) (.seq (.ops r51_3) (.seq (.ops r51_4) (.seq (.ops r51_5) (.seq (.ops r51_6) (.seq (.seq (.ops r51_7) (.cond (.s 34) (.seq (.ops r51_8) (.ret)) (.skip))) (.seq (.ops r51_9) (.ret)))))))))
theorem m51 : mFun Try.prog Try.f51 x51 [.cell 2 4 true, .tmp 3] 1 = true := by kernel_rfl
theorem k51 : Callable Try.prog 51 := callable_of (by kernel_rfl)

/-! loop.example/g00360/laws.eqEntryS -/
def r52_0 : XL := .op ⟨(some 4), none, .asg (.c ⟨.one, [.bool false]⟩) false, [4, 4]⟩ <|
  .nil
def r52_1 : XL := .op ⟨(some 6), none, .mv (.s 0), []⟩ <|
  .op ⟨(some 7), none, .len false (.s 6), []⟩ <|
  .op ⟨(some 8), none, .mv (.s 1), []⟩ <|
  .op ⟨(some 9), none, .len false (.s 8), []⟩ <|
  .op ⟨(some 10), none, .bin .neq (.s 7) (.s 9), [6, 9]⟩ <|
  .nil
def r52_2 : XL := .op ⟨(some 4), none, .asg (.c ⟨.one, [.bool false]⟩) false, [0, 1, 10, 10]⟩ <|
  .nil
def r52_3 : XL := .op ⟨(some 5), none, .asg (.c ⟨.one, [.int .i64 0]⟩) false, [4, 4, 10, 10]⟩ <|
  .nil
def r52_4 : XL := .op ⟨(some 11), none, .mv (.s 5), []⟩ <|
  .op ⟨(some 12), none, .mv (.s 0), []⟩ <|
  .op ⟨(some 13), none, .len false (.s 12), []⟩ <|
  .op ⟨(some 14), none, .bin .lss (.s 11) (.s 13), [11, 13]⟩ <|
  .nil
def r52_6v : List XD := [⟨⟨(some 17), none, .mv (.s 0), []⟩, [], []⟩,
  ⟨⟨(some 18), none, .mv (.s 5), []⟩, [], [17]⟩,
  ⟨⟨(some 19), none, .iad 2 (.s 17) (.s 18), []⟩, [0, 1], []⟩,
  ⟨⟨(some 20), none, .load true 2 (.s 19), []⟩, [0, 1, 2], []⟩,
  ⟨⟨(some 21), none, .mv (.s 1), []⟩, [], [17, 18, 19, 20]⟩,
  ⟨⟨(some 22), none, .mv (.s 5), []⟩, [], [17, 18, 19, 20, 21]⟩,
  ⟨⟨(some 23), none, .iad 2 (.s 21) (.s 22), []⟩, [4, 5], [17, 18, 19, 20]⟩,
  ⟨⟨(some 24), none, .load true 2 (.s 23), []⟩, [4, 5, 6], [17, 18, 19, 20]⟩]
def r52_6t : List XD := [⟨⟨(some 25), none, .call 102 [(false, .s 20), (false, .s 24)] [], []⟩, [0, 1, 2, 3, 4, 5, 6, 7], []⟩,
  ⟨⟨(some 26), none, .un .not (.s 25), [14, 25]⟩, [0, 1, 2, 3, 4, 5, 6, 7, 8], []⟩]
def r52_7 : XL := .op ⟨(some 4), none, .asg (.c ⟨.one, [.bool false]⟩) false, [0, 1, 5, 26]⟩ <|
  .nil
def r52_5 : XL := .op ⟨(some 15), none, .mv (.s 5), []⟩ <|
  .op ⟨(some 16), none, .bin .add (.s 15) (.c ⟨.one, [.int .i64 1]⟩), []⟩ <|
  .op ⟨(some 5), none, .asg (.s 16) false, [4, 4, 15, 26]⟩ <|
  .nil
def l52_0 : XCode := .keep [0, 1, 5] [] (.seq (.seq (.ops r52_4) (.cond (.s 14) (.skip) (.exit 0))) (.seq (.block 1 (.seq (.any r52_6v r52_6t) (.cond (.s 26) (.seq (.ops r52_7) (.ret)) (.skip)))) (.ops r52_5)))
def r52_8 : XL := .op ⟨(some 4), none, .asg (.c ⟨.one, [.bool true]⟩) false, [0, 1, 5, 5]⟩ <|
  .nil
def x52 : XCode := .seq (.ops r52_0) (.seq (.seq (.ops r52_1) (.cond (.s 10) (.seq (.ops r52_2) (.ret)) (.skip))) (.seq (.seq (.ops r52_3) (.block 0 (.loop l52_0))) (.seq (.ops r52_8) (.ret))))
theorem m52 : mFun Try.prog Try.f52 x52 [.tmp 4] 2 = true := by kernel_rfl
theorem k52 : Callable Try.prog 52 := callable_of (by kernel_rfl)

/-! loop.example/g00360/spec.Var -/
def r53_0 : XL := .op ⟨(some 2), none, .asg (.c ⟨.one, [.str ⟨#[]⟩]⟩) false, [2, 2]⟩ <|
  .nil
def r53_1 : XL := .op ⟨(some 4), none, .mv (.s 0), []⟩ <|
  .op ⟨(some 5), none, .call 36 [(false, .s 4), (false, .c ⟨.one, [.int .i64 0]⟩), (false, .c ⟨.one, [.int .i64 562949953421311]⟩)] [], []⟩ <|
  .op ⟨(some 6), none, .un .not (.s 5), [4, 5]⟩ <|
  .nil
def r53_2 : XL := .op ⟨(some 2), none, .asg (.c ⟨.one, [.str ⟨#[]⟩]⟩) false, [0, 0, 6, 6]⟩ <|
  .nil
def r53_3 : XL := .op ⟨(some 7), none, .bslice 1 [], []⟩ <|
  .op ⟨(some 3), none, .asg (.s 7) false, [2, 2, 6, 7]⟩ <|
  .nil
def r53_4 : XL := .op ⟨(some 8), none, .mv (.s 0), []⟩ <|
  .op ⟨(some 9), none, .bin .geq (.s 8) (.c ⟨.one, [.int .i64 128]⟩), [8, 8]⟩ <|
  .nil
def r53_5 : XL := .op ⟨(some 10), none, .mv (.s 3), []⟩ <|
  .op ⟨(some 11), none, .mv (.s 0), []⟩ <|
  .op ⟨(some 12), none, .bin .rem (.s 11) (.c ⟨.one, [.int .i64 128]⟩), []⟩ <|
  .op ⟨(some 13), none, .bin .add (.c ⟨.one, [.int .i64 128]⟩) (.s 12), []⟩ <|
  .op ⟨(some 14), none, .convI .u8 (.s 13), []⟩ <|
  .op ⟨(some 15), none, .bslice 1 [.s 14], []⟩ <|
  .op ⟨(some 16), none, .app 1 1 (.s 10) (.s 15) false, [3, 15]⟩ <|
  .op ⟨(some 3), none, .asg (.s 16) false, [16, 16]⟩ <|
  .nil
def r53_6 : XL := .op ⟨(some 17), none, .mv (.s 0), []⟩ <|
  .op ⟨(some 18), none, .bin .quo (.s 17) (.c ⟨.one, [.int .i64 128]⟩), []⟩ <|
  .op ⟨(some 0), none, .asg (.s 18) false, [17, 18]⟩ <|
  .nil
def l53_0 : XCode := .keep [0, 3] [] (.seq (.seq (.ops r53_4) (.cond (.s 9) (.skip) (.exit 0))) (.block 1 (.seq (.ops r53_5) (.ops r53_6))))
def r53_7 : XL := .op ⟨(some 19), none, .mv (.s 3), []⟩ <|
  .op ⟨(some 20), none, .mv (.s 0), []⟩ <|
  .op ⟨(some 21), none, .convI .u8 (.s 20), []⟩ <|
  .op ⟨(some 22), none, .bslice 1 [.s 21], []⟩ <|
  .op ⟨(some 23), none, .app 1 1 (.s 19) (.s 22) false, [0, 22]⟩ <|
  .op ⟨(some 24), none, .b2s (.s 23), []⟩ <|
  .op ⟨(some 2), none, .asg (.s 24) false, [23, 24]⟩ <|
  .nil
def x53 : XCode := .seq (.ops r53_0) (.seq (.seq (.ops r53_1) (.cond (.s 6) (.seq (.ops r53_2) (.ret)) (.skip))) (.seq (.ops r53_3) (.seq (.block 0 (.loop l53_0)) (.seq (.ops r53_7) (.ret)))))
theorem m53 : mFun Try.prog Try.f53 x53 [.tmp 2] 1 = true := by kernel_rfl
theorem k53 : Callable Try.prog 53 := callable_of (by kernel_rfl)

/-! loop.example/g00360/spec.l15Yes -/
def r54_0 : XL := .op ⟨(some 2), none, .asg (.c ⟨.one, [.int .i64 0]⟩) false, [2, 2]⟩ <|
  .nil
def r54_1 : XL := .op ⟨(some 3), none, .mv (.s 0), [0, 0]⟩ <|
  .nil
def r54_2 : XL := .op ⟨(some 2), none, .asg (.c ⟨.one, [.int .i64 1]⟩) false, [3, 3]⟩ <|
  .nil
def r54_3 : XL := .op ⟨(some 2), none, .asg (.c ⟨.one, [.int .i64 0]⟩) false, [3, 3]⟩ <|
  .nil
def x54 : XCode := .seq (.ops r54_0) (.seq (.seq (.ops r54_1) (.cond (.s 3) (.seq (.ops r54_2) (.ret)) (.skip))) (.seq (.ops r54_3) (.ret)))
theorem m54 : mFun Try.prog Try.f54 x54 [.tmp 2] 1 = true := by kernel_rfl
theorem k54 : Callable Try.prog 54 := callable_of (by kernel_rfl)

/-! loop.example/g00360/spec.Fixed -/
def r55_0 : XL := .op ⟨(some 4), none, .asg (.c ⟨.one, [.str ⟨#[]⟩]⟩) false, [4, 4]⟩ <|
  .nil
def r55_1 : XL := .op ⟨(some 7), none, .mv (.s 1), []⟩ <|
  .op ⟨(some 8), none, .call 36 [(false, .s 7), (false, .c ⟨.one, [.int .i64 1]⟩), (false, .c ⟨.one, [.int .i64 7]⟩)] [], []⟩ <|
  .op ⟨(some 9), none, .un .not (.s 8), []⟩ <|
  .op ⟨(some 10), none, .mv (.s 9), []⟩ <|
  .sc 10 false (.op ⟨(some 11), (some (10, false)), .mv (.s 0), []⟩ <|
  .op ⟨(some 12), (some (10, false)), .bin .lss (.s 11) (.c ⟨.one, [.int .i64 0]⟩), []⟩ <|
  .nil) [11, 12] 13 none (.s 10) (.s 12) [7, 10] <|
  .nil
def r55_2 : XL := .op ⟨(some 4), none, .asg (.c ⟨.one, [.str ⟨#[]⟩]⟩) false, [0, 1, 13, 13]⟩ <|
  .nil
def r55_3 : XL := .op ⟨(some 5), none, .asg (.c ⟨.one, [.str ⟨#[]⟩]⟩) false, [4, 4, 13, 13]⟩ <|
  .nil
def r55_4 : XL := .op ⟨(some 6), none, .asg (.c ⟨.one, [.int .i64 0]⟩) false, []⟩ <|
  .nil
def r55_5 : XL := .op ⟨(some 14), none, .mv (.s 6), []⟩ <|
  .op ⟨(some 15), none, .mv (.s 1), []⟩ <|
  .op ⟨(some 16), none, .bin .lss (.s 14) (.s 15), [14, 15]⟩ <|
  .nil
def r55_7 : XL := .op ⟨(some 19), none, .mv (.s 0), []⟩ <|
  .op ⟨(some 20), none, .bin .rem (.s 19) (.c ⟨.one, [.int .i64 256]⟩), []⟩ <|
  .op ⟨(some 21), none, .convI .u8 (.s 20), []⟩ <|
  .op ⟨(some 22), none, .bslice 1 [.s 21], []⟩ <|
  .op ⟨(some 23), none, .b2s (.s 22), []⟩ <|
  .op ⟨(some 24), none, .mv (.s 5), [5, 5, 16, 22]⟩ <|
  .op ⟨(some 25), none, .bin .add (.s 23) (.s 24), []⟩ <|
  .op ⟨(some 5), none, .asg (.s 25) false, [23, 25]⟩ <|
  .nil
def r55_8 : XL := .op ⟨(some 26), none, .mv (.s 0), []⟩ <|
  .op ⟨(some 27), none, .bin .quo (.s 26) (.c ⟨.one, [.int .i64 256]⟩), []⟩ <|
  .op ⟨(some 0), none, .asg (.s 27) false, [26, 27]⟩ <|
  .nil
def r55_6 : XL := .op ⟨(some 17), none, .mv (.s 6), []⟩ <|
  .op ⟨(some 18), none, .bin .add (.s 17) (.c ⟨.one, [.int .i64 1]⟩), []⟩ <|
  .op ⟨(some 6), none, .asg (.s 18) false, [17, 18]⟩ <|
  .nil
def l55_0 : XCode := .keep [0, 1, 5, 6] [] (.seq (.seq (.ops r55_5) (.cond (.s 16) (.skip) (.exit 0))) (.seq (.block 1 (.seq (.ops r55_7) (.ops r55_8))) (.ops r55_6)))
def r55_9 : XL := .op ⟨(some 28), none, .mv (.s 0), []⟩ <|
  .op ⟨(some 29), none, .bin .gtr (.s 28) (.c ⟨.one, [.int .i64 0]⟩), [0, 1, 6, 28]⟩ <|
  .nil
def r55_10 : XL := .op ⟨(some 4), none, .asg (.c ⟨.one, [.str ⟨#[]⟩]⟩) false, [5, 29]⟩ <|
  .nil
def r55_11 : XL := .op ⟨(some 30), none, .mv (.s 5), []⟩ <|
  .op ⟨(some 4), none, .asg (.s 30) true, [5, 30]⟩ <|
  .nil
def x55 : XCode := .seq (.ops r55_0) (.seq (.seq (.ops r55_1) (.cond (.s 13) (.seq (.ops r55_2) (.ret)) (.skip))) (.seq (.ops r55_3) (.seq (.seq (.ops r55_4) (.block 0 (.loop l55_0))) (.seq (.seq (.ops r55_9) (.cond (.s 29) (.seq (.ops r55_10) (.ret)) (.skip))) (.seq (.ops r55_11) (.ret))))))
theorem m55 : mFun Try.prog Try.f55 x55 [.tmp 4] 2 = true := by kernel_rfl
theorem k55 : Callable Try.prog 55 := callable_of (by kernel_rfl)

/-! loop.example/g00360/spec.Crc -/
def r56_0 : XL := .op ⟨(some 2), none, .asg (.c ⟨.one, [.int .i64 0]⟩) false, [2, 2]⟩ <|
  .nil
def r56_1 : XL := .op ⟨(some 3), none, .asg (.c ⟨.one, [.int .i64 4294967295]⟩) false, []⟩ <|
  .nil
def r56_2 : XL := .op ⟨(some 4), none, .asg (.c ⟨.one, [.int .i64 0]⟩) false, []⟩ <|
  .nil
def r56_3 : XL := .op ⟨(some 7), none, .mv (.s 4), []⟩ <|
  .op ⟨(some 8), none, .mv (.s 0), []⟩ <|
  .op ⟨(some 9), none, .len true (.s 8), []⟩ <|
  .op ⟨(some 10), none, .bin .lss (.s 7) (.s 9), [7, 9]⟩ <|
  .nil
def r56_5 : XL := .op ⟨(some 13), none, .mv (.s 3), []⟩ <|
  .op ⟨(some 14), none, .mv (.s 0), []⟩ <|
  .op ⟨(some 15), none, .mv (.s 4), []⟩ <|
  .op ⟨(some 16), none, .idx (.s 14) (.s 15), []⟩ <|
  .op ⟨(some 17), none, .convI .i64 (.s 16), []⟩ <|
  .op ⟨(some 18), none, .bin .xor (.s 13) (.s 17), [3, 3, 10, 17]⟩ <|
  .op ⟨(some 3), none, .asg (.s 18) false, [18, 18]⟩ <|
  .nil
def r56_6 : XL := .op ⟨(some 5), none, .asg (.c ⟨.one, [.int .i64 0]⟩) false, []⟩ <|
  .nil
def r56_7 : XL := .op ⟨(some 19), none, .mv (.s 5), []⟩ <|
  .op ⟨(some 20), none, .bin .lss (.s 19) (.c ⟨.one, [.int .i64 8]⟩), [19, 19]⟩ <|
  .nil
def r56_9 : XL := .op ⟨(some 23), none, .mv (.s 3), []⟩ <|
  .op ⟨(some 24), none, .bin .rem (.s 23) (.c ⟨.one, [.int .i64 2]⟩), []⟩ <|
  .op ⟨(some 6), none, .asg (.s 24) false, [20, 24]⟩ <|
  .nil
def r56_10 : XL := .op ⟨(some 25), none, .mv (.s 3), []⟩ <|
  .op ⟨(some 26), none, .bin .quo (.s 25) (.c ⟨.one, [.int .i64 2]⟩), []⟩ <|
  .op ⟨(some 3), none, .asg (.s 26) false, [25, 26]⟩ <|
  .nil
def r56_11 : XL := .op ⟨(some 27), none, .mv (.s 6), []⟩ <|
  .op ⟨(some 28), none, .bin .eql (.s 27) (.c ⟨.one, [.int .i64 1]⟩), [6, 27]⟩ <|
  .nil
def r56_12 : XL := .op ⟨(some 29), none, .mv (.s 3), []⟩ <|
  .op ⟨(some 30), none, .bin .xor (.s 29) (.c ⟨.one, [.int .i64 2197175160]⟩), []⟩ <|
  .op ⟨(some 3), none, .asg (.s 30) false, [28, 30]⟩ <|
  .nil
def r56_8 : XL := .op ⟨(some 21), none, .mv (.s 5), []⟩ <|
  .op ⟨(some 22), none, .bin .add (.s 21) (.c ⟨.one, [.int .i64 1]⟩), []⟩ <|
  .op ⟨(some 5), none, .asg (.s 22) false, [21, 28]⟩ <|
  .nil
def l56_0 : XCode := .keep [0, 3, 4, 5] [] (.seq (.seq (.ops r56_7) (.cond (.s 20) (.skip) (.exit 2))) (.seq (.block 3 (.seq (.ops r56_9) (.seq (.ops r56_10) (.seq (.ops r56_11) (.cond (.s 28) (.ops r56_12) (.skip)))))) (.ops r56_8)))
def r56_4 : XL := .op ⟨(some 11), none, .mv (.s 4), []⟩ <|
  .op ⟨(some 12), none, .bin .add (.s 11) (.c ⟨.one, [.int .i64 1]⟩), []⟩ <|
  .op ⟨(some 4), none, .asg (.s 12) false, [5, 12]⟩ <|
  .nil
def l56_1 : XCode := .keep [0, 3, 4] [] (.seq (.seq (.ops r56_3) (.cond (.s 10) (.skip) (.exit 0))) (.seq (.block 1 (.seq (.ops r56_5) (.seq (.ops r56_6) (.block 2 (.loop l56_0))))) (.ops r56_4)))
def r56_13 : XL := .op ⟨(some 31), none, .mv (.s 3), []⟩ <|
  .op ⟨(some 32), none, .bin .sub (.c ⟨.one, [.int .i64 4294967295]⟩) (.s 31), []⟩ <|
  .op ⟨(some 2), none, .asg (.s 32) false, [0, 0, 3, 32]⟩ <|
  .nil
def x56 : XCode := .seq (.ops r56_0) (.seq (.ops r56_1) (.seq (.seq (.ops r56_2) (.block 0 (.loop l56_1))) (.seq (.ops r56_13) (.ret))))
theorem m56 : mFun Try.prog Try.f56 x56 [.tmp 2] 1 = true := by kernel_rfl
theorem k56 : Callable Try.prog 56 := callable_of (by kernel_rfl)

/-! loop.example/g00360/impl.Var -/
def r57_0 : XL := .op ⟨(some 2), none, .asg (.c ⟨.one, [.str ⟨#[]⟩]⟩) false, [2, 2]⟩ <|
  .nil
def r57_1 : XL := .op ⟨(some 4), none, .mv (.s 0), []⟩ <|
  .op ⟨(some 5), none, .call 32 [(false, .s 4), (false, .c ⟨.one, [.int .i64 0]⟩), (false, .c ⟨.one, [.int .i64 562949953421311]⟩)] [], []⟩ <|
  .op ⟨(some 6), none, .un .not (.s 5), [4, 5]⟩ <|
  .nil
def r57_2 : XL := .op ⟨(some 2), none, .asg (.c ⟨.one, [.str ⟨#[]⟩]⟩) false, [0, 0, 6, 6]⟩ <|
  .nil
def r57_3 : XL := .op ⟨(some 7), none, .bslice 1 [], []⟩ <|
  .op ⟨(some 3), none, .asg (.s 7) false, [2, 2, 6, 7]⟩ <|
  .nil
def r57_4 : XL := .op ⟨(some 8), none, .mv (.s 0), []⟩ <|
  .op ⟨(some 9), none, .bin .gtr (.s 8) (.c ⟨.one, [.int .i64 127]⟩), [8, 8]⟩ <|
  .nil
def r57_5 : XL := .op ⟨(some 10), none, .mv (.s 3), []⟩ <|
  .op ⟨(some 11), none, .mv (.s 0), []⟩ <|
  .op ⟨(some 12), none, .bin .rem (.s 11) (.c ⟨.one, [.int .i64 128]⟩), []⟩ <|
  .op ⟨(some 13), none, .bin .add (.s 12) (.c ⟨.one, [.int .i64 128]⟩), []⟩ <|
  .op ⟨(some 14), none, .convI .u8 (.s 13), []⟩ <|
  .op ⟨(some 15), none, .bslice 1 [.s 14], []⟩ <|
  .op ⟨(some 16), none, .app 1 1 (.s 10) (.s 15) false, [3, 15]⟩ <|
  .op ⟨(some 3), none, .asg (.s 16) false, [16, 16]⟩ <|
  .nil
def r57_6 : XL := .op ⟨(some 17), none, .mv (.s 0), []⟩ <|
  .op ⟨(some 18), none, .bin .quo (.s 17) (.c ⟨.one, [.int .i64 128]⟩), []⟩ <|
  .op ⟨(some 0), none, .asg (.s 18) false, [17, 18]⟩ <|
  .nil
def l57_0 : XCode := .keep [0, 3] [] (.seq (.seq (.ops r57_4) (.cond (.s 9) (.skip) (.exit 0))) (.block 1 (.seq (.ops r57_5) (.ops r57_6))))
def r57_7 : XL := .op ⟨(some 19), none, .mv (.s 3), []⟩ <|
  .op ⟨(some 20), none, .mv (.s 0), []⟩ <|
  .op ⟨(some 21), none, .convI .u8 (.s 20), []⟩ <|
  .op ⟨(some 22), none, .bslice 1 [.s 21], []⟩ <|
  .op ⟨(some 23), none, .app 1 1 (.s 19) (.s 22) false, [0, 22]⟩ <|
  .op ⟨(some 24), none, .b2s (.s 23), []⟩ <|
  .op ⟨(some 2), none, .asg (.s 24) false, [23, 24]⟩ <|
  .nil
def x57 : XCode := .seq (.ops r57_0) (.seq (.seq (.ops r57_1) (.cond (.s 6) (.seq (.ops r57_2) (.ret)) (.skip))) (.seq (.ops r57_3) (.seq (.block 0 (.loop l57_0)) (.seq (.ops r57_7) (.ret)))))
theorem m57 : mFun Try.prog Try.f57 x57 [.tmp 2] 1 = true := by kernel_rfl
theorem k57 : Callable Try.prog 57 := callable_of (by kernel_rfl)

/-! loop.example/g00360/impl.pieced -/
def r58_0 : XL := .op ⟨(some 2), none, .asg (.c ⟨.one, [.str ⟨#[]⟩]⟩) false, [2, 2]⟩ <|
  .nil
def r58_1 : XL := .op ⟨(some 3), none, .mv (.s 0), []⟩ <|
  .op ⟨(some 4), none, .len true (.s 3), []⟩ <|
  .op ⟨(some 5), none, .call 57 [(false, .s 4)] [], []⟩ <|
  .op ⟨(some 6), none, .mv (.s 0), []⟩ <|
  .op ⟨(some 7), none, .bin .add (.s 5) (.s 6), []⟩ <|
  .op ⟨(some 2), none, .asg (.s 7) false, [0, 0, 3, 7]⟩ <|
  .nil
def x58 : XCode := .seq (.ops r58_0) (.seq (.ops r58_1) (.ret))
theorem m58 : mFun Try.prog Try.f58 x58 [.tmp 2] 1 = true := by kernel_rfl
theorem k58 : Callable Try.prog 58 := callable_of (by kernel_rfl)

/-! loop.example/g00360/impl.Fixed -/
def r59_0 : XL := .op ⟨(some 4), none, .asg (.c ⟨.one, [.str ⟨#[]⟩]⟩) false, [4, 4]⟩ <|
  .nil
def r59_1 : XL := .op ⟨(some 7), none, .mv (.s 1), []⟩ <|
  .op ⟨(some 8), none, .call 32 [(false, .s 7), (false, .c ⟨.one, [.int .i64 1]⟩), (false, .c ⟨.one, [.int .i64 7]⟩)] [], []⟩ <|
  .op ⟨(some 9), none, .un .not (.s 8), []⟩ <|
  .op ⟨(some 10), none, .mv (.s 9), []⟩ <|
  .sc 10 false (.op ⟨(some 11), (some (10, false)), .mv (.s 0), []⟩ <|
  .op ⟨(some 12), (some (10, false)), .bin .lss (.s 11) (.c ⟨.one, [.int .i64 0]⟩), []⟩ <|
  .nil) [11, 12] 13 none (.s 10) (.s 12) [] <|
  .op ⟨(some 14), none, .mv (.s 13), []⟩ <|
  .sc 14 false (.op ⟨(some 15), (some (14, false)), .mv (.s 0), []⟩ <|
  .op ⟨(some 16), (some (14, false)), .mv (.s 1), []⟩ <|
  .op ⟨(some 17), (some (14, false)), .bin .mul (.c ⟨.one, [.int .i64 8]⟩) (.s 16), []⟩ <|
  .op ⟨(some 18), (some (14, false)), .bin .shr (.s 15) (.s 17), []⟩ <|
  .op ⟨(some 19), (some (14, false)), .bin .neq (.s 18) (.c ⟨.one, [.int .i64 0]⟩), []⟩ <|
  .nil) [15, 16, 17, 18, 19] 20 none (.s 14) (.s 19) [7, 14] <|
  .nil
def r59_2 : XL := .op ⟨(some 4), none, .asg (.c ⟨.one, [.str ⟨#[]⟩]⟩) false, [0, 1, 20, 20]⟩ <|
  .nil
def r59_3 : XL := .op ⟨(some 21), none, .bslice 1 [], []⟩ <|
  .op ⟨(some 5), none, .asg (.s 21) false, [4, 4, 20, 21]⟩ <|
  .nil
def r59_4 : XL := .op ⟨(some 22), none, .mv (.s 1), []⟩ <|
  .op ⟨(some 23), none, .bin .sub (.s 22) (.c ⟨.one, [.int .i64 1]⟩), []⟩ <|
  .op ⟨(some 6), none, .asg (.s 23) false, [1, 1, 22, 23]⟩ <|
  .nil
def r59_5 : XL := .op ⟨(some 24), none, .mv (.s 6), []⟩ <|
  .op ⟨(some 25), none, .bin .geq (.s 24) (.c ⟨.one, [.int .i64 0]⟩), [24, 24]⟩ <|
  .nil
def r59_7 : XL := .op ⟨(some 28), none, .mv (.s 5), []⟩ <|
  .op ⟨(some 29), none, .mv (.s 0), []⟩ <|
  .op ⟨(some 30), none, .mv (.s 6), []⟩ <|
  .op ⟨(some 31), none, .bin .mul (.c ⟨.one, [.int .i64 8]⟩) (.s 30), []⟩ <|
  .op ⟨(some 32), none, .bin .shr (.s 29) (.s 31), []⟩ <|
  .op ⟨(some 33), none, .convI .u8 (.s 32), []⟩ <|
  .op ⟨(some 34), none, .bslice 1 [.s 33], [25, 25, 29, 33]⟩ <|
  .op ⟨(some 35), none, .app 1 1 (.s 28) (.s 34) false, []⟩ <|
  .op ⟨(some 5), none, .asg (.s 35) false, [28, 35]⟩ <|
  .nil
def r59_6 : XL := .op ⟨(some 26), none, .mv (.s 6), []⟩ <|
  .op ⟨(some 27), none, .bin .sub (.s 26) (.c ⟨.one, [.int .i64 1]⟩), []⟩ <|
  .op ⟨(some 6), none, .asg (.s 27) false, [26, 27]⟩ <|
  .nil
def l59_0 : XCode := .keep [0, 5, 6] [] (.seq (.seq (.ops r59_5) (.cond (.s 25) (.skip) (.exit 0))) (.seq (.block 1 (.ops r59_7)) (.ops r59_6)))
def r59_8 : XL := .op ⟨(some 36), none, .mv (.s 5), []⟩ <|
  .op ⟨(some 37), none, .b2s (.s 36), []⟩ <|
  .op ⟨(some 4), none, .asg (.s 37) false, [0, 0, 5, 37]⟩ <|
  .nil
def x59 : XCode := .seq (.ops r59_0) (.seq (.seq (.ops r59_1) (.cond (.s 20) (.seq (.ops r59_2) (.ret)) (.skip))) (.seq (.ops r59_3) (.seq (.seq (.ops r59_4) (.block 0 (.loop l59_0))) (.seq (.ops r59_8) (.ret)))))
theorem m59 : mFun Try.prog Try.f59 x59 [.tmp 4] 2 = true := by kernel_rfl
theorem k59 : Callable Try.prog 59 := callable_of (by kernel_rfl)

/-! loop.example/g00360/impl.Crc -/
def r60_0 : XL := .op ⟨(some 2), none, .asg (.c ⟨.one, [.int .i64 0]⟩) false, [2, 2]⟩ <|
  .nil
def r60_1 : XL := .op ⟨(some 3), none, .asg (.c ⟨.one, [.int .u32 4294967295]⟩) false, []⟩ <|
  .nil
def r60_2 : XL := .op ⟨(some 6), none, .mv (.s 0), []⟩ <|
  .op ⟨(some 7), none, .len true (.s 6), []⟩ <|
  .op ⟨(some 8), none, .mv (.c ⟨.one, [.int .i64 0]⟩), [6, 6]⟩ <|
  .nil
def r60_3 : XL := .op ⟨(some 9), none, .bin .lss (.s 8) (.s 7), []⟩ <|
  .nil
def r60_4 : XL := .op ⟨(some 10), none, .mv (.s 8), []⟩ <|
  .op ⟨(some 4), none, .asg (.s 10) false, [9, 10]⟩ <|
  .nil
def r60_5 : XL := .op ⟨(some 11), none, .mv (.s 3), []⟩ <|
  .op ⟨(some 12), none, .mv (.s 0), []⟩ <|
  .op ⟨(some 13), none, .mv (.s 4), []⟩ <|
  .op ⟨(some 14), none, .idx (.s 12) (.s 13), []⟩ <|
  .op ⟨(some 15), none, .convI .u32 (.s 14), []⟩ <|
  .op ⟨(some 16), none, .bin .xor (.s 11) (.s 15), [3, 4, 11, 15]⟩ <|
  .op ⟨(some 3), none, .asg (.s 16) false, [16, 16]⟩ <|
  .nil
def r60_6 : XL := .op ⟨(some 17), none, .mv (.c ⟨.one, [.int .i64 0]⟩), []⟩ <|
  .nil
def r60_7 : XL := .op ⟨(some 18), none, .bin .lss (.s 17) (.c ⟨.one, [.int .i64 8]⟩), []⟩ <|
  .nil
def r60_8 : XL := .op ⟨(some 19), none, .mv (.s 3), []⟩ <|
  .op ⟨(some 20), none, .bin .and (.s 19) (.c ⟨.one, [.int .u32 1]⟩), []⟩ <|
  .op ⟨(some 5), none, .asg (.s 20) false, [18, 20]⟩ <|
  .nil
def r60_9 : XL := .op ⟨(some 21), none, .mv (.s 3), []⟩ <|
  .op ⟨(some 22), none, .bin .shr (.s 21) (.c ⟨.one, [.int .u64 1]⟩), []⟩ <|
  .op ⟨(some 3), none, .asg (.s 22) false, [21, 22]⟩ <|
  .nil
def r60_10 : XL := .op ⟨(some 23), none, .mv (.s 5), []⟩ <|
  .op ⟨(some 24), none, .bin .eql (.s 23) (.c ⟨.one, [.int .u32 1]⟩), [5, 5, 23, 23]⟩ <|
  .nil
def r60_11 : XL := .op ⟨(some 25), none, .mv (.s 3), []⟩ <|
  .op ⟨(some 26), none, .bin .xor (.s 25) (.c ⟨.one, [.int .u32 2197175160]⟩), []⟩ <|
  .op ⟨(some 3), none, .asg (.s 26) false, [24, 26]⟩ <|
  .nil
def r60_12 : XL := .op ⟨(some 27), none, .bin .add (.s 17) (.c ⟨.one, [.int .i64 1]⟩), []⟩ <|
  .op ⟨(some 17), none, .mv (.s 27), [24, 27]⟩ <|
  .nil
def l60_0 : XCode := .keep [0, 3, 7, 8, 17] [] (.seq (.ops r60_7) (.seq (.cond (.s 18) (.skip) (.exit 2)) (.seq (.block 3 (.seq (.ops r60_8) (.seq (.ops r60_9) (.seq (.ops r60_10) (.cond (.s 24) (.ops r60_11) (.skip)))))) (.ops r60_12))))
def r60_13 : XL := .op ⟨(some 28), none, .bin .add (.s 8) (.c ⟨.one, [.int .i64 1]⟩), []⟩ <|
  .op ⟨(some 8), none, .mv (.s 28), [17, 28]⟩ <|
  .nil
def l60_1 : XCode := .keep [0, 3, 7, 8] [] (.seq (.ops r60_3) (.seq (.cond (.s 9) (.skip) (.exit 0)) (.seq (.block 1 (.seq (.ops r60_4) (.seq (.ops r60_5) (.seq (.ops r60_6) (.block 2 (.loop l60_0)))))) (.ops r60_13))))
def r60_14 : XL := .op ⟨(some 29), none, .mv (.s 3), []⟩ <|
  .op ⟨(some 30), none, .un .xor (.s 29), []⟩ <|
  .op ⟨(some 31), none, .convI .i64 (.s 30), [0, 30]⟩ <|
  .op ⟨(some 2), none, .asg (.s 31) false, [31, 31]⟩ <|
  .nil
def x60 : XCode := .seq (.ops r60_0) (.seq (.ops r60_1) (.seq (.seq (.ops r60_2) (.block 0 (.loop l60_1))) (.seq (.ops r60_14) (.ret))))
theorem m60 : mFun Try.prog Try.f60 x60 [.tmp 2] 1 = true := by kernel_rfl
theorem k60 : Callable Try.prog 60 := callable_of (by kernel_rfl)

/-! loop.example/g00360/impl.isClient -/
def r69_0 : XL := .op ⟨(some 2), none, .asg (.c ⟨.one, [.bool false]⟩) false, [2, 2]⟩ <|
  .nil
def r69_1 : XL := .op ⟨(some 3), none, .mv (.s 0), []⟩ <|
  .op ⟨(some 4), none, .call 32 [(false, .s 3), (false, .c ⟨.one, [.int .i64 1]⟩), (false, .c ⟨.one, [.int .i64 4]⟩)] [], []⟩ <|
  .op ⟨(some 2), none, .asg (.s 4) false, [0, 0, 3, 4]⟩ <|
  .nil
def x69 : XCode := .seq (.ops r69_0) (.seq (.ops r69_1) (.ret))
theorem m69 : mFun Try.prog Try.f69 x69 [.tmp 2] 1 = true := by kernel_rfl
theorem k69 : Callable Try.prog 69 := callable_of (by kernel_rfl)

/-! loop.example/g00360/spec.l13Vars -/
def r79_0 : XL := .op ⟨(some 6), none, .asg (.c ⟨.one, [.own 1 []]⟩) false, []⟩ <|
  .op ⟨(some 7), none, .asg (.c ⟨.one, [.int .i64 0]⟩) false, [6, 7]⟩ <|
  .nil
def r79_1 : XL := .op ⟨(some 12), none, .bslice 1 [], []⟩ <|
  .op ⟨(some 8), none, .asg (.s 12) false, [12, 12]⟩ <|
  .nil
def r79_2 : XL := .op ⟨(some 9), none, .asg (.c ⟨.one, [.int .i64 0]⟩) false, []⟩ <|
  .nil
def r79_3 : XL := .op ⟨(some 13), none, .mv (.s 9), []⟩ <|
  .op ⟨(some 14), none, .mv (.s 2), []⟩ <|
  .op ⟨(some 15), none, .bin .lss (.s 13) (.s 14), [13, 14]⟩ <|
  .nil
def r79_5 : XL := .op ⟨(some 18), none, .mv (.s 1), []⟩ <|
  .op ⟨(some 19), none, .mv (.s 0), []⟩ <|
  .op ⟨(some 20), none, .len true (.s 19), []⟩ <|
  .op ⟨(some 21), none, .bin .gtr (.s 18) (.s 20), [15, 20]⟩ <|
  .nil
def r79_6 : XL := .op ⟨(some 22), none, .mv (.s 8), []⟩ <|
  .op ⟨(some 6), none, .asg (.s 22) true, [0, 2, 8, 22]⟩ <|
  .op ⟨(some 7), none, .asg (.c ⟨.one, [.int .i64 (-1)]⟩) false, []⟩ <|
  .nil
def r79_7 : XL := .op ⟨(some 24), none, .mv (.s 0), []⟩ <|
  .op ⟨(some 25), none, .mv (.s 1), []⟩ <|
  .op ⟨(some 26), none, .slcS (.s 24) (some (.s 25)) none, []⟩ <|
  .op ⟨(some 27), none, .call 116 [(false, .s 26)] [], [6, 7, 21, 26]⟩ <|
  .op ⟨(some 23), none, .mv (.s 27), []⟩ <|
  .op ⟨(some 28), none, .ext 0 (.s 23), []⟩ <|
  .op ⟨(some 29), none, .ext 1 (.s 23), []⟩ <|
  .op ⟨(some 10), none, .asg (.s 28) true, []⟩ <|
  .op ⟨(some 11), none, .asg (.s 29) true, [23, 29]⟩ <|
  .nil
def r79_8 : XL := .op ⟨(some 30), none, .mv (.s 11), []⟩ <|
  .op ⟨(some 31), none, .bin .eql (.s 30) (.c ⟨.one, [.int .i64 0]⟩), [30, 30]⟩ <|
  .nil
def r79_9 : XL := .op ⟨(some 32), none, .mv (.s 8), [0, 2, 9, 31]⟩ <|
  .op ⟨(some 6), none, .asg (.s 32) true, []⟩ <|
  .op ⟨(some 7), none, .asg (.c ⟨.one, [.int .i64 (-1)]⟩) false, [8, 32]⟩ <|
  .nil
def r79_10 : XL := .op ⟨(some 33), none, .mv (.s 8), []⟩ <|
  .op ⟨(some 34), none, .mv (.s 10), []⟩ <|
  .op ⟨(some 35), none, .bslice 1 [.s 34], []⟩ <|
  .op ⟨(some 36), none, .app 1 8 (.s 33) (.s 35) false, [6, 8, 10, 10, 31, 35]⟩ <|
  .op ⟨(some 8), none, .asg (.s 36) false, [36, 36]⟩ <|
  .nil
def r79_11 : XL := .op ⟨(some 37), none, .mv (.s 1), []⟩ <|
  .op ⟨(some 38), none, .mv (.s 11), []⟩ <|
  .op ⟨(some 39), none, .bin .add (.s 37) (.s 38), []⟩ <|
  .op ⟨(some 1), none, .asg (.s 39) false, [11, 39]⟩ <|
  .nil
def r79_4 : XL := .op ⟨(some 16), none, .mv (.s 9), []⟩ <|
  .op ⟨(some 17), none, .bin .add (.s 16) (.c ⟨.one, [.int .i64 1]⟩), []⟩ <|
  .op ⟨(some 9), none, .asg (.s 17) false, [16, 17]⟩ <|
  .nil
def l79_0 : XCode := .keep [0, 1, 2, 8, 9] [] (.seq (.seq (.ops r79_3) (.cond (.s 15) (.skip) (.exit 0))) (.seq (.block 1 (.seq (.seq (.ops r79_5) (.cond (.s 21) (.seq (.ops r79_6) (.ret)) (.skip))) (.seq (.ops r79_7) (.seq (.seq (.ops r79_8) (.cond (.s 31) (.seq (.ops r79_9) (.ret)) (.skip))) (.seq (.ops r79_10) (.ops r79_11)))))) (.ops r79_4)))
def r79_12 : XL := .op ⟨(some 40), none, .mv (.s 8), []⟩ <|
  .op ⟨(some 41), none, .mv (.s 1), []⟩ <|
  .op ⟨(some 6), none, .asg (.s 40) true, [0, 2, 8, 40]⟩ <|
  .op ⟨(some 7), none, .asg (.s 41) false, [41, 41]⟩ <|
  .nil
def x79 : XCode := .seq (.ops r79_0) (.seq (.ops r79_1) (.seq (.seq (.ops r79_2) (.block 0 (.loop l79_0))) (.seq (.ops r79_12) (.ret))))
theorem m79 : mFun Try.prog Try.f79 x79 [.tmp 6, .tmp 7] 3 = true := by kernel_rfl
theorem k79 : Callable Try.prog 79 := callable_of (by kernel_rfl)

/-! loop.example/g00360/spec.l14Piece -/
def r80_0 : XL := .op ⟨(some 4), none, .asg (.c ⟨.one, [.str ⟨#[]⟩]⟩) false, []⟩ <|
  .op ⟨(some 5), none, .asg (.c ⟨.one, [.int .i64 0]⟩) false, [4, 5]⟩ <|
  .nil
def r80_1 : XL := .op ⟨(some 9), none, .mv (.s 0), []⟩ <|
  .op ⟨(some 10), none, .mv (.s 1), []⟩ <|
  .op ⟨(some 11), none, .call 79 [(false, .s 9), (false, .s 10), (false, .c ⟨.one, [.int .i64 1]⟩)] [], []⟩ <|
  .op ⟨(some 8), none, .mv (.s 11), []⟩ <|
  .op ⟨(some 12), none, .ext 0 (.s 8), []⟩ <|
  .op ⟨(some 13), none, .ext 1 (.s 8), []⟩ <|
  .op ⟨(some 6), none, .asg (.s 12) true, [1, 1, 8, 12]⟩ <|
  .op ⟨(some 7), none, .asg (.s 13) true, [13, 13]⟩ <|
  .nil
def r80_2 : XL := .op ⟨(some 14), none, .mv (.s 7), []⟩ <|
  .op ⟨(some 15), none, .bin .lss (.s 14) (.c ⟨.one, [.int .i64 0]⟩), []⟩ <|
  .op ⟨(some 16), none, .mv (.s 15), []⟩ <|
  .sc 16 false (.op ⟨(some 17), (some (16, false)), .mv (.s 6), []⟩ <|
  .op ⟨(some 18), (some (16, false)), .iad 1 (.s 17) (.c ⟨.one, [.int .i64 0]⟩), []⟩ <|
  .op ⟨(some 19), (some (16, false)), .load false 1 (.s 18), []⟩ <|
  .op ⟨(some 20), (some (16, false)), .mv (.s 0), []⟩ <|
  .op ⟨(some 21), (some (16, false)), .len true (.s 20), []⟩ <|
  .op ⟨(some 22), (some (16, false)), .mv (.s 7), []⟩ <|
  .op ⟨(some 23), (some (16, false)), .bin .sub (.s 21) (.s 22), []⟩ <|
  .op ⟨(some 24), (some (16, false)), .bin .gtr (.s 19) (.s 23), []⟩ <|
  .nil) [17, 18, 19, 20, 21, 22, 23, 24] 25 none (.s 16) (.s 24) [14, 16] <|
  .nil
def r80_3 : XL := .op ⟨(some 4), none, .asg (.c ⟨.one, [.str ⟨#[]⟩]⟩) false, []⟩ <|
  .op ⟨(some 5), none, .asg (.c ⟨.one, [.int .i64 (-1)]⟩) false, [0, 0, 6, 25]⟩ <|
  .nil
def r80_4v : List XD := [⟨⟨(some 26), none, .mv (.s 0), []⟩, [], []⟩,
  ⟨⟨(some 27), none, .mv (.s 7), []⟩, [], [26]⟩,
  ⟨⟨(some 28), none, .mv (.s 7), []⟩, [], [26, 27]⟩,
  ⟨⟨(some 29), none, .mv (.s 6), []⟩, [], [26, 27, 28]⟩,
  ⟨⟨(some 30), none, .iad 1 (.s 29) (.c ⟨.one, [.int .i64 0]⟩), []⟩, [3], [26, 27, 28]⟩,
  ⟨⟨(some 31), none, .load false 1 (.s 30), []⟩, [3, 4], [26, 27, 28]⟩,
  ⟨⟨(some 32), none, .bin .add (.s 28) (.s 31), []⟩, [2, 3, 4, 5], [26, 27]⟩,
  ⟨⟨(some 33), none, .slcS (.s 26) (some (.s 27)) (some (.s 32)), []⟩, [0, 1, 2, 3, 4, 5, 6], []⟩,
  ⟨⟨(some 34), none, .mv (.s 7), []⟩, [], [26, 27, 28, 29, 30, 31, 32, 33]⟩,
  ⟨⟨(some 35), none, .mv (.s 6), []⟩, [], [26, 27, 28, 29, 30, 31, 32, 33, 34]⟩,
  ⟨⟨(some 36), none, .iad 1 (.s 35) (.c ⟨.one, [.int .i64 0]⟩), []⟩, [9], [26, 27, 28, 29, 30, 31, 32, 33, 34]⟩,
  ⟨⟨(some 37), none, .load false 1 (.s 36), []⟩, [9, 10], [26, 27, 28, 29, 30, 31, 32, 33, 34]⟩,
  ⟨⟨(some 38), none, .bin .add (.s 34) (.s 37), []⟩, [8, 9, 10, 11], [26, 27, 28, 29, 30, 31, 32, 33]⟩,
  ⟨⟨(some 4), none, .asg (.s 33) false, []⟩, [0, 1, 2, 3, 4, 5, 6, 7], [34, 35, 36, 37, 38]⟩]
def r80_4t : List XD := [⟨⟨(some 5), none, .asg (.s 38) false, [0, 0, 6, 38]⟩, [0, 1, 2, 3, 4, 5, 6, 7, 8, 9, 10, 11, 12, 13], []⟩]
def x80 : XCode := .seq (.ops r80_0) (.seq (.ops r80_1) (.seq (.seq (.ops r80_2) (.cond (.s 25) (.seq (.ops r80_3) (.ret)) (.skip))) (.seq (.any r80_4v r80_4t) (.ret))))
theorem m80 : mFun Try.prog Try.f80 x80 [.tmp 4, .tmp 5] 2 = true := by kernel_rfl
theorem k80 : Callable Try.prog 80 := callable_of (by kernel_rfl)

/-! (*loop.example/g00360/impl.reader).num -/
def r81_0 : XL := .op ⟨(some 2), none, .asg (.c ⟨.one, [.int .i64 0]⟩) false, [2, 2]⟩ <|
  .nil
def r81_1 : XL := .op ⟨(some 6), none, .mv (.s 0), []⟩ <|
  .op ⟨(some 7), none, .nilc (.s 6), []⟩ <|
  .op ⟨(some 8), none, .fad 0 (.s 7), []⟩ <|
  .op ⟨(some 9), none, .load false 1 (.s 8), []⟩ <|
  .op ⟨(some 10), none, .call 89 [(false, .s 9)] [], []⟩ <|
  .op ⟨(some 5), none, .mv (.s 10), []⟩ <|
  .op ⟨(some 11), none, .ext 0 (.s 5), []⟩ <|
  .op ⟨(some 12), none, .ext 1 (.s 5), [5, 10]⟩ <|
  .op ⟨(some 3), none, .asg (.s 11) true, []⟩ <|
  .op ⟨(some 4), none, .asg (.s 12) true, [11, 12]⟩ <|
  .nil
def r81_2 : XL := .op ⟨(some 13), none, .mv (.s 0), []⟩ <|
  .op ⟨(some 14), none, .mv (.s 0), []⟩ <|
  .op ⟨(some 15), none, .nilc (.s 14), []⟩ <|
  .op ⟨(some 16), none, .fad 1 (.s 15), []⟩ <|
  .op ⟨(some 17), none, .load false 1 (.s 16), []⟩ <|
  .op ⟨(some 18), none, .mv (.s 17), []⟩ <|
  .sc 18 true (.op ⟨(some 19), (some (18, true)), .mv (.s 4), []⟩ <|
  .op ⟨(some 20), (some (18, true)), .bin .gtr (.s 19) (.c ⟨.one, [.int .i64 0]⟩), []⟩ <|
  .nil) [19, 20] 21 none (.s 18) (.s 20) [] <|
  .op ⟨(some 22), none, .nilc (.s 13), []⟩ <|
  .op ⟨(some 23), none, .fad 1 (.s 22), []⟩ <|
  .op ⟨none, none, .store 1 (.s 23) (.s 21) false, [13, 23]⟩ <|
  .nil
def r81_3 : XL := .op ⟨(some 24), none, .mv (.s 0), []⟩ <|
  .op ⟨(some 25), none, .nilc (.s 24), []⟩ <|
  .op ⟨(some 26), none, .fad 1 (.s 25), []⟩ <|
  .op ⟨(some 27), none, .load false 1 (.s 26), []⟩ <|
  .op ⟨(some 28), none, .un .not (.s 27), [24, 27]⟩ <|
  .nil
def r81_4 : XL := .op ⟨(some 2), none, .asg (.c ⟨.one, [.int .i64 0]⟩) false, [0, 0, 3, 28]⟩ <|
  .nil
def r81_5 : XL := .op ⟨(some 29), none, .mv (.s 0), []⟩ <|
  .op ⟨(some 30), none, .mv (.s 0), []⟩ <|
  .op ⟨(some 31), none, .nilc (.s 30), []⟩ <|
  .op ⟨(some 32), none, .fad 0 (.s 31), []⟩ <|
  .op ⟨(some 33), none, .load false 1 (.s 32), []⟩ <|
  .op ⟨(some 34), none, .mv (.s 4), [2, 2, 4, 28, 30, 32]⟩ <|
  .op ⟨(some 35), none, .slcS (.s 33) (some (.s 34)) none, []⟩ <|
  .op ⟨(some 36), none, .nilc (.s 29), []⟩ <|
  .op ⟨(some 37), none, .fad 0 (.s 36), []⟩ <|
  .op ⟨none, none, .store 1 (.s 37) (.s 35) false, [0, 0, 29, 37]⟩ <|
  .nil
def r81_6 : XL := .op ⟨(some 38), none, .mv (.s 3), []⟩ <|
  .op ⟨(some 2), none, .asg (.s 38) true, [3, 38]⟩ <|
  .nil
def x81 : XCode := .seq (.ops r81_0) (.seq (.ops r81_1) (.seq (.ops r81_2) (.seq (.seq (.ops r81_3) (.cond (.s 28) (.seq (.ops r81_4) (.ret)) (.skip))) (.seq (.ops r81_5) (.seq (.ops r81_6) (.ret))))))
theorem m81 : mFun Try.prog Try.f81 x81 [.tmp 2] 1 = true := by kernel_rfl
theorem k81 : Callable Try.prog 81 := callable_of (by kernel_rfl)

/-! (*loop.example/g00360/impl.reader).count -/
def r82_0 : XL := .op ⟨(some 4), none, .asg (.c ⟨.one, [.int .i64 0]⟩) false, [4, 4]⟩ <|
  .nil
def r82_1 : XL := .op ⟨(some 6), none, .mv (.s 0), []⟩ <|
  .op ⟨(some 7), none, .call 81 [(false, .s 6)] [1000000], []⟩ <|
  .op ⟨(some 5), none, .asg (.s 7) false, [6, 7]⟩ <|
  .nil
def r82_2 : XL := .op ⟨(some 8), none, .mv (.s 0), []⟩ <|
  .op ⟨(some 9), none, .mv (.s 0), []⟩ <|
  .op ⟨(some 10), none, .nilc (.s 9), []⟩ <|
  .op ⟨(some 11), none, .fad 1 (.s 10), []⟩ <|
  .op ⟨(some 12), none, .load false 1 (.s 11), []⟩ <|
  .op ⟨(some 13), none, .mv (.s 12), []⟩ <|
  .sc 13 true (.op ⟨(some 14), (some (13, true)), .mv (.s 5), []⟩ <|
  .op ⟨(some 15), (some (13, true)), .mv (.s 1), []⟩ <|
  .op ⟨(some 16), (some (13, true)), .bin .leq (.s 14) (.s 15), []⟩ <|
  .nil) [14, 15, 16] 17 none (.s 13) (.s 16) [1, 1, 9, 13] <|
  .op ⟨(some 18), none, .nilc (.s 8), []⟩ <|
  .op ⟨(some 19), none, .fad 1 (.s 18), []⟩ <|
  .op ⟨none, none, .store 1 (.s 19) (.s 17) false, [8, 19]⟩ <|
  .nil
def r82_3 : XL := .op ⟨(some 20), none, .mv (.s 0), []⟩ <|
  .op ⟨(some 21), none, .nilc (.s 20), []⟩ <|
  .op ⟨(some 22), none, .fad 1 (.s 21), []⟩ <|
  .op ⟨(some 23), none, .load false 1 (.s 22), []⟩ <|
  .op ⟨(some 24), none, .un .not (.s 23), [0, 0, 20, 23]⟩ <|
  .nil
def r82_4 : XL := .op ⟨(some 4), none, .asg (.c ⟨.one, [.int .i64 0]⟩) false, [5, 24]⟩ <|
  .nil
def r82_5 : XL := .op ⟨(some 25), none, .mv (.s 5), []⟩ <|
  .op ⟨(some 4), none, .asg (.s 25) true, [5, 25]⟩ <|
  .nil
def x82 : XCode := .seq (.ops r82_0) (.seq (.ops r82_1) (.seq (.ops r82_2) (.seq (.seq (.ops r82_3) (.cond (.s 24) (.seq (.ops r82_4) (.ret)) (.skip))) (.seq (.ops r82_5) (.ret)))))
theorem m82 : mFun Try.prog Try.f82 x82 [.tmp 4] 2 = true := by kernel_rfl
theorem k82 : Callable Try.prog 82 := callable_of (by kernel_rfl)

/-! (*loop.example/g00360/impl.reader).piece -/
def r83_0 : XL := .op ⟨(some 2), none, .asg (.c ⟨.one, [.str ⟨#[]⟩]⟩) false, [2, 2]⟩ <|
  .nil
def r83_1 : XL := .op ⟨(some 4), none, .mv (.s 0), []⟩ <|
  .op ⟨(some 5), none, .call 81 [(false, .s 4)] [1000000], []⟩ <|
  .op ⟨(some 3), none, .asg (.s 5) false, [4, 5]⟩ <|
  .nil
def r83_2 : XL := .op ⟨(some 6), none, .mv (.s 0), []⟩ <|
  .op ⟨(some 7), none, .mv (.s 3), []⟩ <|
  .op ⟨(some 8), none, .call 117 [(false, .s 6), (false, .s 7)] [1000000], []⟩ <|
  .op ⟨(some 2), none, .asg (.s 8) false, [0, 0, 3, 8]⟩ <|
  .nil
def x83 : XCode := .seq (.ops r83_0) (.seq (.ops r83_1) (.seq (.ops r83_2) (.ret)))
theorem m83 : mFun Try.prog Try.f83 x83 [.tmp 2] 1 = true := by kernel_rfl
theorem k83 : Callable Try.prog 83 := callable_of (by kernel_rfl)

/-! loop.example/g00360/laws.markEntryS -/
def r84_0 : XL := .op ⟨(some 4), none, .asg (.c ⟨.one, [.int .i64 0]⟩) false, [4, 4]⟩ <|
  .nil
def r84_1 : XL := .op ⟨(some 5), none, .asg (.c ⟨.one, [.int .i64 0]⟩) false, []⟩ <|
  .nil
def r84_2 : XL := .op ⟨(some 6), none, .mv (.s 5), []⟩ <|
  .op ⟨(some 7), none, .mv (.s 0), []⟩ <|
  .op ⟨(some 8), none, .len false (.s 7), []⟩ <|
  .op ⟨(some 9), none, .bin .lss (.s 6) (.s 8), [6, 8]⟩ <|
  .nil
def r84_4 : XL := .op ⟨(some 12), none, .mv (.s 0), []⟩ <|
  .op ⟨(some 13), none, .mv (.s 5), []⟩ <|
  .op ⟨(some 14), none, .mv (.s 1), []⟩ <|
  .op ⟨(some 15), none, .iad 2 (.s 12) (.s 13), []⟩ <|
  .op ⟨(some 16), none, .fad 0 (.s 15), []⟩ <|
  .op ⟨none, none, .store 1 (.s 16) (.s 14) false, [9, 16]⟩ <|
  .nil
def r84_5 : XL := .op ⟨(some 17), none, .mv (.s 1), []⟩ <|
  .op ⟨(some 18), none, .bin .add (.s 17) (.c ⟨.one, [.int .i64 1]⟩), []⟩ <|
  .op ⟨(some 1), none, .asg (.s 18) false, [17, 18]⟩ <|
  .nil
def r84_6 : XL := .op ⟨(some 19), none, .mv (.s 0), []⟩ <|
  .op ⟨(some 20), none, .mv (.s 5), []⟩ <|
  .op ⟨(some 21), none, .mv (.s 1), []⟩ <|
  .op ⟨(some 22), none, .call 118 [(false, .s 21)] [], []⟩ <|
  .op ⟨(some 23), none, .iad 2 (.s 19) (.s 20), []⟩ <|
  .op ⟨(some 24), none, .fad 1 (.s 23), []⟩ <|
  .op ⟨none, none, .store 1 (.s 24) (.s 22) false, [19, 24]⟩ <|
  .nil
def r84_7 : XL := .op ⟨(some 25), none, .mv (.s 1), []⟩ <|
  .op ⟨(some 26), none, .bin .add (.s 25) (.c ⟨.one, [.int .i64 1]⟩), []⟩ <|
  .op ⟨(some 1), none, .asg (.s 26) false, [25, 26]⟩ <|
  .nil
def r84_3 : XL := .op ⟨(some 10), none, .mv (.s 5), []⟩ <|
  .op ⟨(some 11), none, .bin .add (.s 10) (.c ⟨.one, [.int .i64 1]⟩), []⟩ <|
  .op ⟨(some 5), none, .asg (.s 11) false, [10, 11]⟩ <|
  .nil
def l84_0 : XCode := .keep [0, 1, 5] [] (.seq (.seq (.ops r84_2) (.cond (.s 9) (.skip) (.exit 0))) (.seq (.block 1 (.seq (.ops r84_4) (.seq (.ops r84_5) (.seq (.ops r84_6) (.ops r84_7))))) (.ops r84_3)))
def r84_8 : XL := .op ⟨(some 27), none, .mv (.s 1), []⟩ <|
  .op ⟨(some 4), none, .asg (.s 27) false, [0, 1, 5, 27]⟩ <|
  .nil
def x84 : XCode := .seq (.ops r84_0) (.seq (.seq (.ops r84_1) (.block 0 (.loop l84_0))) (.seq (.ops r84_8) (.ret)))
theorem m84 : mFun Try.prog Try.f84 x84 [.tmp 4] 2 = true := by kernel_rfl
theorem k84 : Callable Try.prog 84 := callable_of (by kernel_rfl)

/-! loop.example/g00360/laws.heldEntryS -/
def r85_0 : XL := .op ⟨(some 4), none, .asg (.c ⟨.one, [.int .i64 0]⟩) false, [4, 4]⟩ <|
  .nil
def r85_1 : XL := .op ⟨(some 5), none, .asg (.c ⟨.one, [.int .i64 0]⟩) false, []⟩ <|
  .nil
def r85_2 : XL := .op ⟨(some 6), none, .mv (.s 5), []⟩ <|
  .op ⟨(some 7), none, .mv (.s 0), []⟩ <|
  .op ⟨(some 8), none, .len false (.s 7), []⟩ <|
  .op ⟨(some 9), none, .bin .lss (.s 6) (.s 8), [6, 8]⟩ <|
  .nil
def r85_4 : XL := .op ⟨(some 12), none, .mv (.s 0), []⟩ <|
  .op ⟨(some 13), none, .mv (.s 5), []⟩ <|
  .op ⟨(some 14), none, .iad 2 (.s 12) (.s 13), []⟩ <|
  .op ⟨(some 15), none, .fad 0 (.s 14), []⟩ <|
  .op ⟨(some 16), none, .load false 1 (.s 15), []⟩ <|
  .op ⟨(some 17), none, .mv (.s 1), []⟩ <|
  .op ⟨(some 18), none, .bin .neq (.s 16) (.s 17), [9, 17]⟩ <|
  .nil
def r85_5 : XL := .op ⟨(some 4), none, .asg (.c ⟨.one, [.int .i64 (-1)]⟩) false, [0, 1, 5, 18]⟩ <|
  .nil
def r85_6 : XL := .op ⟨(some 19), none, .mv (.s 1), []⟩ <|
  .op ⟨(some 20), none, .bin .add (.s 19) (.c ⟨.one, [.int .i64 1]⟩), []⟩ <|
  .op ⟨(some 1), none, .asg (.s 20) false, [4, 4, 18, 20]⟩ <|
  .nil
def r85_7v : List XD := [⟨⟨(some 21), none, .mv (.s 0), []⟩, [], []⟩,
  ⟨⟨(some 22), none, .mv (.s 5), []⟩, [], [21]⟩,
  ⟨⟨(some 23), none, .iad 2 (.s 21) (.s 22), []⟩, [0, 1], []⟩,
  ⟨⟨(some 24), none, .fad 1 (.s 23), []⟩, [0, 1, 2], []⟩,
  ⟨⟨(some 25), none, .load false 1 (.s 24), []⟩, [0, 1, 2, 3], []⟩,
  ⟨⟨(some 26), none, .mv (.s 1), []⟩, [], [21, 22, 23, 24, 25]⟩,
  ⟨⟨(some 27), none, .call 118 [(false, .s 26)] [], []⟩, [5], [21, 22, 23, 24, 25]⟩]
def r85_7t : List XD := [⟨⟨(some 28), none, .bin .neq (.s 25) (.s 27), [21, 27]⟩, [0, 1, 2, 3, 4, 5, 6], []⟩]
def r85_8 : XL := .op ⟨(some 4), none, .asg (.c ⟨.one, [.int .i64 (-1)]⟩) false, [0, 1, 5, 28]⟩ <|
  .nil
def r85_9 : XL := .op ⟨(some 29), none, .mv (.s 1), []⟩ <|
  .op ⟨(some 30), none, .bin .add (.s 29) (.c ⟨.one, [.int .i64 1]⟩), []⟩ <|
  .op ⟨(some 1), none, .asg (.s 30) false, [4, 4, 28, 30]⟩ <|
  .nil
def r85_3 : XL := .op ⟨(some 10), none, .mv (.s 5), []⟩ <|
  .op ⟨(some 11), none, .bin .add (.s 10) (.c ⟨.one, [.int .i64 1]⟩), []⟩ <|
  .op ⟨(some 5), none, .asg (.s 11) false, [10, 11]⟩ <|
  .nil
def l85_0 : XCode := .keep [0, 1, 5] [] (.seq (.seq (.ops r85_2) (.cond (.s 9) (.skip) (.exit 0))) (.seq (.block 1 (.seq (.seq (.ops r85_4) (.cond (.s 18) (.seq (.ops r85_5) (.ret)) (.skip))) (.seq (.ops r85_6) (.seq (.seq (.any r85_7v r85_7t) (.cond (.s 28) (.seq (.ops r85_8) (.ret)) (.skip))) (.ops r85_9))))) (.ops r85_3)))
def r85_10 : XL := .op ⟨(some 31), none, .mv (.s 1), []⟩ <|
  .op ⟨(some 4), none, .asg (.s 31) false, [0, 1, 5, 31]⟩ <|
  .nil
def x85 : XCode := .seq (.ops r85_0) (.seq (.seq (.ops r85_1) (.block 0 (.loop l85_0))) (.seq (.ops r85_10) (.ret)))
theorem m85 : mFun Try.prog Try.f85 x85 [.tmp 4] 2 = true := by kernel_rfl
theorem k85 : Callable Try.prog 85 := callable_of (by kernel_rfl)

/-! loop.example/g00360/spec.ReadBlock -/
def r86_0 : XL := .op ⟨(some 2), none, .asg (.c ⟨.one, [.own 2 []]⟩) false, []⟩ <|
  .op ⟨(some 3), none, .asg (.c ⟨.one, [.bool false]⟩) false, [2, 3]⟩ <|
  .nil
def r86_1 : XL := .op ⟨(some 16), none, .bslice 2 [], []⟩ <|
  .op ⟨(some 4), none, .asg (.s 16) false, [16, 16]⟩ <|
  .nil
def r86_2 : XL := .op ⟨(some 18), none, .mv (.s 0), []⟩ <|
  .op ⟨(some 19), none, .call 119 [(false, .s 18)] [], []⟩ <|
  .op ⟨(some 17), none, .mv (.s 19), []⟩ <|
  .op ⟨(some 20), none, .ext 0 (.s 17), []⟩ <|
  .op ⟨(some 21), none, .ext 1 (.s 17), []⟩ <|
  .op ⟨(some 22), none, .ext 2 (.s 17), []⟩ <|
  .op ⟨(some 5), none, .asg (.s 20) true, []⟩ <|
  .op ⟨(some 6), none, .asg (.s 21) true, []⟩ <|
  .op ⟨(some 7), none, .asg (.s 22) true, [7, 22]⟩ <|
  .nil
def r86_3 : XL := .op ⟨(some 24), none, .mv (.s 5), []⟩ <|
  .op ⟨(some 25), none, .call 116 [(false, .s 24)] [], []⟩ <|
  .op ⟨(some 23), none, .mv (.s 25), []⟩ <|
  .op ⟨(some 26), none, .ext 0 (.s 23), []⟩ <|
  .op ⟨(some 27), none, .ext 1 (.s 23), []⟩ <|
  .op ⟨(some 8), none, .asg (.s 26) true, []⟩ <|
  .op ⟨(some 9), none, .asg (.s 27) true, [23, 27]⟩ <|
  .nil
def r86_4 : XL := .op ⟨(some 28), none, .mv (.s 9), []⟩ <|
  .op ⟨(some 29), none, .bin .eql (.s 28) (.c ⟨.one, [.int .i64 0]⟩), []⟩ <|
  .op ⟨(some 30), none, .mv (.s 29), []⟩ <|
  .sc 30 false (.op ⟨(some 31), (some (30, false)), .mv (.s 6), []⟩ <|
  .op ⟨(some 32), (some (30, false)), .mv (.s 0), []⟩ <|
  .op ⟨(some 33), (some (30, false)), .len true (.s 32), []⟩ <|
  .op ⟨(some 34), (some (30, false)), .bin .neq (.s 31) (.s 33), []⟩ <|
  .nil) [31, 32, 33, 34] 35 none (.s 30) (.s 34) [0, 0, 6, 6, 28, 30] <|
  .nil
def r86_5 : XL := .op ⟨(some 36), none, .mv (.s 4), []⟩ <|
  .op ⟨(some 2), none, .asg (.s 36) true, [4, 36]⟩ <|
  .op ⟨(some 3), none, .asg (.c ⟨.one, [.bool false]⟩) false, []⟩ <|
  .nil
def r86_6 : XL := .op ⟨(some 38), none, .mv (.s 5), []⟩ <|
  .op ⟨(some 39), none, .mv (.s 9), []⟩ <|
  .op ⟨(some 40), none, .slcS (.s 38) (some (.s 39)) none, []⟩ <|
  .op ⟨(some 41), none, .mv (.s 8), []⟩ <|
  .op ⟨(some 42), none, .call 120 [(false, .s 40), (false, .s 41)] [], [2, 3, 35, 41]⟩ <|
  .op ⟨(some 37), none, .mv (.s 42), []⟩ <|
  .op ⟨(some 43), none, .ext 0 (.s 37), []⟩ <|
  .op ⟨(some 44), none, .ext 1 (.s 37), []⟩ <|
  .op ⟨(some 10), none, .asg (.s 43) true, []⟩ <|
  .op ⟨(some 11), none, .asg (.s 44) true, [37, 44]⟩ <|
  .nil
def r86_7 : XL := .op ⟨(some 45), none, .mv (.s 11), []⟩ <|
  .op ⟨(some 46), none, .bin .eql (.s 45) (.c ⟨.one, [.int .i64 0]⟩), [45, 45]⟩ <|
  .nil
def r86_8 : XL := .op ⟨(some 47), none, .mv (.s 4), [5, 46]⟩ <|
  .op ⟨(some 2), none, .asg (.s 47) true, []⟩ <|
  .op ⟨(some 3), none, .asg (.c ⟨.one, [.bool false]⟩) false, [4, 47]⟩ <|
  .nil
def r86_9 : XL := .op ⟨(some 49), none, .mv (.s 5), []⟩ <|
  .op ⟨(some 50), none, .mv (.s 9), []⟩ <|
  .op ⟨(some 51), none, .mv (.s 11), []⟩ <|
  .op ⟨(some 52), none, .bin .add (.s 50) (.s 51), []⟩ <|
  .op ⟨(some 53), none, .slcS (.s 49) (some (.s 52)) none, [2, 3, 46, 52]⟩ <|
  .op ⟨(some 54), none, .mv (.s 8), []⟩ <|
  .op ⟨(some 55), none, .call 121 [(false, .s 53), (false, .s 54)] [], []⟩ <|
  .op ⟨(some 48), none, .mv (.s 55), []⟩ <|
  .op ⟨(some 56), none, .ext 0 (.s 48), []⟩ <|
  .op ⟨(some 57), none, .ext 1 (.s 48), []⟩ <|
  .op ⟨(some 12), none, .asg (.s 56) true, []⟩ <|
  .op ⟨(some 13), none, .asg (.s 57) true, [48, 57]⟩ <|
  .nil
def r86_10 : XL := .op ⟨(some 58), none, .mv (.s 13), []⟩ <|
  .op ⟨(some 59), none, .bin .eql (.s 58) (.c ⟨.one, [.int .i64 0]⟩), []⟩ <|
  .op ⟨(some 60), none, .mv (.s 59), []⟩ <|
  .sc 60 false (.op ⟨(some 61), (some (60, false)), .mv (.s 9), []⟩ <|
  .op ⟨(some 62), (some (60, false)), .mv (.s 11), []⟩ <|
  .op ⟨(some 63), (some (60, false)), .bin .add (.s 61) (.s 62), []⟩ <|
  .op ⟨(some 64), (some (60, false)), .mv (.s 13), []⟩ <|
  .op ⟨(some 65), (some (60, false)), .bin .add (.s 63) (.s 64), []⟩ <|
  .op ⟨(some 66), (some (60, false)), .mv (.s 5), []⟩ <|
  .op ⟨(some 67), (some (60, false)), .len true (.s 66), []⟩ <|
  .op ⟨(some 68), (some (60, false)), .bin .neq (.s 65) (.s 67), []⟩ <|
  .nil) [61, 62, 63, 64, 65, 66, 67, 68] 69 none (.s 60) (.s 68) [5, 5, 9, 9, 11, 11, 13, 60] <|
  .nil
def r86_11 : XL := .op ⟨(some 70), none, .mv (.s 4), []⟩ <|
  .op ⟨(some 2), none, .asg (.s 70) true, [4, 70]⟩ <|
  .op ⟨(some 3), none, .asg (.c ⟨.one, [.bool false]⟩) false, []⟩ <|
  .nil
def r86_12 : XL := .op ⟨(some 71), none, .bslice 2 [], []⟩ <|
  .op ⟨(some 14), none, .asg (.s 71) false, [2, 4, 69, 71]⟩ <|
  .nil
def r86_13 : XL := .op ⟨(some 15), none, .asg (.c ⟨.one, [.int .i64 0]⟩) false, []⟩ <|
  .nil
def r86_14 : XL := .op ⟨(some 72), none, .mv (.s 15), []⟩ <|
  .op ⟨(some 73), none, .mv (.s 8), []⟩ <|
  .op ⟨(some 74), none, .bin .lss (.s 72) (.s 73), [72, 73]⟩ <|
  .nil
def r86_16v : List XD := [⟨⟨(some 77), none, .mv (.s 14), []⟩, [], []⟩,
  ⟨⟨(some 78), none, .mv (.s 10), []⟩, [], [77]⟩,
  ⟨⟨(some 79), none, .mv (.s 15), []⟩, [], [77, 78]⟩,
  ⟨⟨(some 80), none, .iad 1 (.s 78) (.s 79), []⟩, [1, 2], [77]⟩,
  ⟨⟨(some 81), none, .load false 1 (.s 80), []⟩, [1, 2, 3], [77]⟩,
  ⟨⟨(some 82), none, .mv (.s 12), []⟩, [], [77, 78, 79, 80, 81]⟩,
  ⟨⟨(some 83), none, .mv (.s 15), []⟩, [], [77, 78, 79, 80, 81, 82]⟩,
  ⟨⟨(some 84), none, .iad 1 (.s 82) (.s 83), []⟩, [5, 6], [77, 78, 79, 80, 81]⟩,
  ⟨⟨(some 85), none, .load false 1 (.s 84), []⟩, [5, 6, 7], [77, 78, 79, 80, 81]⟩,
  ⟨⟨(some 86), none, .build [.int .i64 0, .int .i64 0] [(0, 1, .s 81), (1, 1, .s 85)], []⟩, [1, 2, 3, 4, 5, 6, 7, 8], [77]⟩,
  ⟨⟨(some 87), none, .bslice 2 [.s 86], []⟩, [1, 2, 3, 4, 5, 6, 7, 8, 9], [77]⟩]
def r86_16t : List XD := [⟨⟨(some 88), none, .app 2 16 (.s 77) (.s 87) false, []⟩, [0, 1, 2, 3, 4, 5, 6, 7, 8, 9, 10], []⟩,
  ⟨⟨(some 14), none, .asg (.s 88) false, [74, 88]⟩, [0, 1, 2, 3, 4, 5, 6, 7, 8, 9, 10, 11], []⟩]
def r86_15 : XL := .op ⟨(some 75), none, .mv (.s 15), []⟩ <|
  .op ⟨(some 76), none, .bin .add (.s 75) (.c ⟨.one, [.int .i64 1]⟩), []⟩ <|
  .op ⟨(some 15), none, .asg (.s 76) false, [75, 76]⟩ <|
  .nil
def l86_0 : XCode := .keep [8, 10, 12, 14, 15] [] (.seq (.seq (.ops r86_14) (.cond (.s 74) (.skip) (.exit 0))) (.seq (.block 1 (.any r86_16v r86_16t)) (.ops r86_15)))
def r86_17 : XL := .op ⟨(some 89), none, .mv (.s 14), []⟩ <|
  .op ⟨(some 2), none, .asg (.s 89) true, [8, 89]⟩ <|
  .op ⟨(some 3), none, .asg (.c ⟨.one, [.bool true]⟩) false, []⟩ <|
  .nil
def x86 : XCode := .seq (.ops r86_0) (.seq (.ops r86_1) (.seq (.ops r86_2) (.seq (.ops r86_3) (.seq (.seq (.ops r86_4) (.cond (.s 35) (.seq (.ops r86_5) (.ret)) (.skip))) (.seq (.ops r86_6) (.seq (.seq (.ops r86_7) (.cond (.s 46) (.seq (.ops r86_8) (.ret)) (.skip))) (.seq (.ops r86_9) (.seq (.seq (.ops r86_10) (.cond (.s 69) (.seq (.ops r86_11) (.ret)) (.skip))) (.seq (.ops r86_12) (.seq (.seq (.ops r86_13) (.block 0 (.loop l86_0))) (.seq (.ops r86_17) (.ret))))))))))))
theorem m86 : mFun Try.prog Try.f86 x86 [.tmp 2, .tmp 3] 1 = true := by kernel_rfl
theorem k86 : Callable Try.prog 86 := callable_of (by kernel_rfl)

/-! loop.example/g00360/spec.l9Key -/
def r87_0 : XL := .op ⟨(some 2), none, .asg (.c ⟨.one, [.bool false]⟩) false, [2, 2]⟩ <|
  .nil
def r87_1 : XL := .op ⟨(some 4), none, .mv (.s 0), []⟩ <|
  .op ⟨(some 5), none, .len true (.s 4), []⟩ <|
  .op ⟨(some 6), none, .call 36 [(false, .s 5), (false, .c ⟨.one, [.int .i64 1]⟩), (false, .c ⟨.one, [.int .i64 8]⟩)] [], []⟩ <|
  .op ⟨(some 7), none, .un .not (.s 6), [4, 6]⟩ <|
  .nil
def r87_2 : XL := .op ⟨(some 2), none, .asg (.c ⟨.one, [.bool false]⟩) false, [0, 0, 7, 7]⟩ <|
  .nil
def r87_3 : XL := .op ⟨(some 3), none, .asg (.c ⟨.one, [.int .i64 0]⟩) false, [2, 2, 7, 7]⟩ <|
  .nil
def r87_4 : XL := .op ⟨(some 8), none, .mv (.s 3), []⟩ <|
  .op ⟨(some 9), none, .mv (.s 0), []⟩ <|
  .op ⟨(some 10), none, .len true (.s 9), []⟩ <|
  .op ⟨(some 11), none, .bin .lss (.s 8) (.s 10), [8, 10]⟩ <|
  .nil
def r87_6 : XL := .op ⟨(some 14), none, .mv (.s 0), []⟩ <|
  .op ⟨(some 15), none, .mv (.s 3), []⟩ <|
  .op ⟨(some 16), none, .idx (.s 14) (.s 15), []⟩ <|
  .op ⟨(some 17), none, .bin .lss (.s 16) (.c ⟨.one, [.int .u8 97]⟩), []⟩ <|
  .op ⟨(some 18), none, .mv (.s 17), []⟩ <|
  .sc 18 false (.op ⟨(some 19), (some (18, false)), .mv (.s 0), []⟩ <|
  .op ⟨(some 20), (some (18, false)), .mv (.s 3), []⟩ <|
  .op ⟨(some 21), (some (18, false)), .idx (.s 19) (.s 20), []⟩ <|
  .op ⟨(some 22), (some (18, false)), .bin .gtr (.s 21) (.c ⟨.one, [.int .u8 122]⟩), []⟩ <|
  .nil) [19, 20, 21, 22] 23 none (.s 18) (.s 22) [11, 18] <|
  .nil
def r87_7 : XL := .op ⟨(some 2), none, .asg (.c ⟨.one, [.bool false]⟩) false, [0, 0, 3, 23]⟩ <|
  .nil
def r87_5 : XL := .op ⟨(some 12), none, .mv (.s 3), []⟩ <|
  .op ⟨(some 13), none, .bin .add (.s 12) (.c ⟨.one, [.int .i64 1]⟩), []⟩ <|
  .op ⟨(some 3), none, .asg (.s 13) false, [2, 2, 12, 23]⟩ <|
  .nil
def l87_0 : XCode := .keep [0, 3] [] (.seq (.seq (.ops r87_4) (.cond (.s 11) (.skip) (.exit 0))) (.seq (.block 1 (.seq (.ops r87_6) (.cond (.s 23) (.seq (.ops r87_7) (.ret)) (.skip)))) (.ops r87_5)))
def r87_8 : XL := .op ⟨(some 2), none, .asg (.c ⟨.one, [.bool true]⟩) false, [0, 0, 3, 3]⟩ <|
  .nil
def x87 : XCode := .seq (.ops r87_0) (.seq (.seq (.ops r87_1) (.cond (.s 7) (.seq (.ops r87_2) (.ret)) (.skip))) (.seq (.seq (.ops r87_3) (.block 0 (.loop l87_0))) (.seq (.ops r87_8) (.ret))))
theorem m87 : mFun Try.prog Try.f87 x87 [.tmp 2] 1 = true := by kernel_rfl
theorem k87 : Callable Try.prog 87 := callable_of (by kernel_rfl)

/-! loop.example/g00360/impl.Unframe -/
def r88_0 : XL := .op ⟨(some 2), none, .asg (.c ⟨.one, [.str ⟨#[]⟩]⟩) false, []⟩ <|
  .op ⟨(some 3), none, .asg (.c ⟨.one, [.int .i64 0]⟩) false, []⟩ <|
  .op ⟨(some 4), none, .asg (.c ⟨.one, [.int .i64 0]⟩) false, [2, 4]⟩ <|
  .nil
def r88_1 : XL := .op ⟨(some 9), none, .mv (.s 0), []⟩ <|
  .op ⟨(some 10), none, .call 122 [(false, .s 9), (false, .c ⟨.one, [.int .i64 4]⟩)] [], []⟩ <|
  .op ⟨(some 8), none, .mv (.s 10), []⟩ <|
  .op ⟨(some 11), none, .ext 0 (.s 8), []⟩ <|
  .op ⟨(some 12), none, .ext 1 (.s 8), []⟩ <|
  .op ⟨(some 5), none, .asg (.s 11) true, []⟩ <|
  .op ⟨(some 6), none, .asg (.s 12) true, [8, 12]⟩ <|
  .nil
def r88_2 : XL := .op ⟨(some 14), none, .mv (.s 6), []⟩ <|
  .op ⟨(some 15), none, .un .not (.s 14), []⟩ <|
  .op ⟨(some 13), none, .asg (.s 15) false, [6, 6, 14, 15]⟩ <|
  .nil
def r88_3 : XL := .op ⟨(some 2), none, .asg (.c ⟨.one, [.str ⟨#[]⟩]⟩) false, []⟩ <|
  .op ⟨(some 3), none, .asg (.c ⟨.one, [.int .i64 0]⟩) false, []⟩ <|
  .op ⟨(some 4), none, .asg (.c ⟨.one, [.int .i64 1]⟩) false, [0, 0, 5, 13]⟩ <|
  .nil
def r88_4 : XL := .op ⟨(some 17), none, .mv (.s 5), []⟩ <|
  .op ⟨(some 18), none, .call 32 [(false, .s 17), (false, .c ⟨.one, [.int .i64 1]⟩), (false, .c ⟨.one, [.int .i64 2000]⟩)] [], []⟩ <|
  .op ⟨(some 19), none, .un .not (.s 18), []⟩ <|
  .op ⟨(some 16), none, .asg (.s 19) false, [13, 13, 17, 19]⟩ <|
  .nil
def r88_5 : XL := .op ⟨(some 2), none, .asg (.c ⟨.one, [.str ⟨#[]⟩]⟩) false, []⟩ <|
  .op ⟨(some 3), none, .asg (.c ⟨.one, [.int .i64 0]⟩) false, []⟩ <|
  .op ⟨(some 4), none, .asg (.c ⟨.one, [.int .i64 2]⟩) false, [0, 0, 5, 16]⟩ <|
  .nil
def r88_6 : XL := .op ⟨(some 21), none, .mv (.s 0), []⟩ <|
  .op ⟨(some 22), none, .len true (.s 21), []⟩ <|
  .op ⟨(some 23), none, .mv (.s 5), []⟩ <|
  .op ⟨(some 24), none, .bin .add (.s 23) (.c ⟨.one, [.int .i64 8]⟩), []⟩ <|
  .op ⟨(some 25), none, .bin .lss (.s 22) (.s 24), []⟩ <|
  .op ⟨(some 20), none, .asg (.s 25) false, [16, 16, 21, 25]⟩ <|
  .nil
def r88_7 : XL := .op ⟨(some 2), none, .asg (.c ⟨.one, [.str ⟨#[]⟩]⟩) false, []⟩ <|
  .op ⟨(some 3), none, .asg (.c ⟨.one, [.int .i64 0]⟩) false, []⟩ <|
  .op ⟨(some 4), none, .asg (.c ⟨.one, [.int .i64 1]⟩) false, [0, 0, 5, 20]⟩ <|
  .nil
def r88_8 : XL := .op ⟨(some 26), none, .mv (.s 0), []⟩ <|
  .op ⟨(some 27), none, .mv (.s 5), []⟩ <|
  .op ⟨(some 28), none, .bin .add (.s 27) (.c ⟨.one, [.int .i64 8]⟩), []⟩ <|
  .op ⟨(some 29), none, .slcS (.s 26) (some (.c ⟨.one, [.int .i64 8]⟩)) (some (.s 28)), [2, 4, 20, 28]⟩ <|
  .op ⟨(some 7), none, .asg (.s 29) false, [29, 29]⟩ <|
  .nil
def r88_9v : List XD := [⟨⟨(some 30), none, .mv (.s 7), []⟩, [], []⟩,
  ⟨⟨(some 31), none, .call 123 [(false, .s 30)] [], []⟩, [0], []⟩,
  ⟨⟨(some 32), none, .mv (.s 0), []⟩, [], [30, 31]⟩,
  ⟨⟨(some 33), none, .mv (.s 5), []⟩, [], [30, 31, 32]⟩,
  ⟨⟨(some 34), none, .bin .add (.s 33) (.c ⟨.one, [.int .i64 8]⟩), []⟩, [3], [30, 31, 32]⟩,
  ⟨⟨(some 35), none, .slcS (.s 32) none (some (.s 34)), []⟩, [2, 3, 4], [30, 31]⟩]
def r88_9t : List XD := [⟨⟨(some 36), none, .bin .neq (.s 31) (.s 35), [0, 0, 30, 35]⟩, [0, 1, 2, 3, 4, 5], []⟩]
def r88_10 : XL := .op ⟨(some 2), none, .asg (.c ⟨.one, [.str ⟨#[]⟩]⟩) false, []⟩ <|
  .op ⟨(some 3), none, .asg (.c ⟨.one, [.int .i64 0]⟩) false, []⟩ <|
  .op ⟨(some 4), none, .asg (.c ⟨.one, [.int .i64 2]⟩) false, [5, 36]⟩ <|
  .nil
def r88_11 : XL := .op ⟨(some 37), none, .mv (.s 7), []⟩ <|
  .op ⟨(some 38), none, .mv (.s 5), [2, 36]⟩ <|
  .op ⟨(some 39), none, .bin .add (.s 38) (.c ⟨.one, [.int .i64 8]⟩), []⟩ <|
  .op ⟨(some 2), none, .asg (.s 37) true, []⟩ <|
  .op ⟨(some 3), none, .asg (.s 39) false, []⟩ <|
  .op ⟨(some 4), none, .asg (.c ⟨.one, [.int .i64 0]⟩) false, [37, 39]⟩ <|
  .nil
def x88 : XCode := .seq (.ops r88_0) (.seq (.ops r88_1) (.seq (.block 0 (.seq (.ops r88_2) (.cond (.s 13) (.seq (.ops r88_3) (.ret)) (.seq (.ops r88_4) (.cond (.s 16) (.seq (.ops r88_5) (.ret)) (.seq (.ops r88_6) (.cond (.s 20) (.seq (.ops r88_7) (.ret)) (.skip)))))))) (.seq (.ops r88_8) (.seq (.seq (.any r88_9v r88_9t) (.cond (.s 36) (.seq (.ops r88_10) (.ret)) (.skip))) (.seq (.ops r88_11) (.ret))))))
theorem m88 : mFun Try.prog Try.f88 x88 [.tmp 2, .tmp 3, .tmp 4] 1 = true := by kernel_rfl
theorem k88 : Callable Try.prog 88 := callable_of (by kernel_rfl)

/-! loop.example/g00360/impl.ReadVar -/
def r89_0 : XL := .op ⟨(some 2), none, .asg (.c ⟨.one, [.int .i64 0]⟩) false, []⟩ <|
  .op ⟨(some 3), none, .asg (.c ⟨.one, [.int .i64 0]⟩) false, [2, 3]⟩ <|
  .nil
def r89_1 : XL := .op ⟨(some 4), none, .asg (.c ⟨.one, [.int .i64 0]⟩) false, []⟩ <|
  .nil
def r89_2 : XL := .op ⟨(some 5), none, .asg (.c ⟨.one, [.int .i64 0]⟩) false, []⟩ <|
  .nil
def r89_3 : XL := .op ⟨(some 6), none, .mv (.s 5), []⟩ <|
  .op ⟨(some 7), none, .bin .lss (.s 6) (.c ⟨.one, [.int .i64 7]⟩), []⟩ <|
  .op ⟨(some 8), none, .mv (.s 7), []⟩ <|
  .sc 8 true (.op ⟨(some 9), (some (8, true)), .mv (.s 5), []⟩ <|
  .op ⟨(some 10), (some (8, true)), .mv (.s 0), []⟩ <|
  .op ⟨(some 11), (some (8, true)), .len true (.s 10), []⟩ <|
  .op ⟨(some 12), (some (8, true)), .bin .lss (.s 9) (.s 11), []⟩ <|
  .nil) [9, 10, 11, 12] 13 none (.s 8) (.s 12) [6, 8] <|
  .nil
def r89_5 : XL := .op ⟨(some 16), none, .mv (.s 4), []⟩ <|
  .op ⟨(some 17), none, .mv (.s 0), []⟩ <|
  .op ⟨(some 18), none, .mv (.s 5), []⟩ <|
  .op ⟨(some 19), none, .idx (.s 17) (.s 18), []⟩ <|
  .op ⟨(some 20), none, .bin .rem (.s 19) (.c ⟨.one, [.int .u8 128]⟩), []⟩ <|
  .op ⟨(some 21), none, .convI .i64 (.s 20), [4, 4, 13, 13, 17, 20]⟩ <|
  .op ⟨(some 22), none, .mv (.s 5), []⟩ <|
  .op ⟨(some 23), none, .bin .mul (.c ⟨.one, [.int .i64 7]⟩) (.s 22), []⟩ <|
  .op ⟨(some 24), none, .bin .shl (.s 21) (.s 23), []⟩ <|
  .op ⟨(some 25), none, .bin .add (.s 16) (.s 24), []⟩ <|
  .op ⟨(some 4), none, .asg (.s 25) false, [16, 25]⟩ <|
  .nil
def r89_6 : XL := .op ⟨(some 26), none, .mv (.s 0), []⟩ <|
  .op ⟨(some 27), none, .mv (.s 5), []⟩ <|
  .op ⟨(some 28), none, .idx (.s 26) (.s 27), []⟩ <|
  .op ⟨(some 29), none, .bin .geq (.s 28) (.c ⟨.one, [.int .u8 128]⟩), [26, 28]⟩ <|
  .nil
def r89_7 : XL := .op ⟨(some 30), none, .mv (.s 0), []⟩ <|
  .op ⟨(some 31), none, .mv (.s 5), []⟩ <|
  .op ⟨(some 32), none, .idx (.s 30) (.s 31), []⟩ <|
  .op ⟨(some 33), none, .bin .eql (.s 32) (.c ⟨.one, [.int .u8 0]⟩), []⟩ <|
  .op ⟨(some 34), none, .mv (.s 33), [0, 0, 29, 33]⟩ <|
  .sc 34 true (.op ⟨(some 35), (some (34, true)), .mv (.s 5), []⟩ <|
  .op ⟨(some 36), (some (34, true)), .bin .gtr (.s 35) (.c ⟨.one, [.int .i64 0]⟩), []⟩ <|
  .nil) [35, 36] 37 none (.s 34) (.s 36) [34, 34] <|
  .nil
def r89_8 : XL := .op ⟨(some 38), none, .mv (.s 4), []⟩ <|
  .op ⟨(some 39), none, .mv (.s 5), []⟩ <|
  .op ⟨(some 40), none, .bin .add (.s 39) (.c ⟨.one, [.int .i64 1]⟩), []⟩ <|
  .op ⟨(some 2), none, .asg (.s 38) true, []⟩ <|
  .op ⟨(some 3), none, .asg (.s 40) false, [4, 40]⟩ <|
  .nil
def r89_4 : XL := .op ⟨(some 14), none, .mv (.s 5), []⟩ <|
  .op ⟨(some 15), none, .bin .add (.s 14) (.c ⟨.one, [.int .i64 1]⟩), []⟩ <|
  .op ⟨(some 5), none, .asg (.s 15) false, [2, 3, 14, 15]⟩ <|
  .nil
def l89_0 : XCode := .keep [0, 4, 5] [] (.seq (.seq (.ops r89_3) (.cond (.s 13) (.skip) (.exit 0))) (.seq (.block 1 (.seq (.ops r89_5) (.seq (.seq (.ops r89_6) (.cond (.s 29) (.exit 1) (.skip))) (.seq (.seq (.ops r89_7) (.cond (.s 37) (.exit 0) (.skip))) (.seq (.ops r89_8) (.ret)))))) (.ops r89_4)))
def r89_9 : XL := .op ⟨(some 2), none, .asg (.c ⟨.one, [.int .i64 0]⟩) false, []⟩ <|
  .op ⟨(some 3), none, .asg (.c ⟨.one, [.int .i64 0]⟩) false, [5, 5]⟩ <|
  .nil
def x89 : XCode := .seq (.ops r89_0) (.seq (.ops r89_1) (.seq (.seq (.ops r89_2) (.block 0 (.loop l89_0))) (.seq (.ops r89_9) (.ret))))
theorem m89 : mFun Try.prog Try.f89 x89 [.tmp 2, .tmp 3] 1 = true := by kernel_rfl
theorem k89 : Callable Try.prog 89 := callable_of (by kernel_rfl)

/-! loop.example/g00360/impl.ReadTimes -/
def r90_0 : XL := .op ⟨(some 4), none, .asg (.c ⟨.one, [.own 1 []]⟩) false, []⟩ <|
  .op ⟨(some 5), none, .asg (.c ⟨.one, [.int .i64 0]⟩) false, [4, 5]⟩ <|
  .nil
def r90_1 : XL := .op ⟨(some 13), none, .mv (.s 1), []⟩ <|
  .op ⟨(some 14), none, .call 32 [(false, .s 13), (false, .c ⟨.one, [.int .i64 1]⟩), (false, .c ⟨.one, [.int .i64 60]⟩)] [], []⟩ <|
  .op ⟨(some 15), none, .un .not (.s 14), [13, 14]⟩ <|
  .nil
def r90_2 : XL := .op ⟨(some 4), none, .asg (.c ⟨.one, [.own 1 []]⟩) false, []⟩ <|
  .op ⟨(some 5), none, .asg (.c ⟨.one, [.int .i64 0]⟩) false, [0, 1, 15, 15]⟩ <|
  .nil
def r90_3 : XL := .op ⟨(some 16), none, .mv (.s 0), []⟩ <|
  .op ⟨(some 17), none, .build [.str ⟨#[]⟩, .bool false] [(0, 1, .s 16), (1, 1, .c ⟨.one, [.bool true]⟩)], []⟩ <|
  .op ⟨(some 18), none, .box (.s 17) false, []⟩ <|
  .op ⟨(some 6), none, .asg (.s 18) false, [4, 5, 15, 18]⟩ <|
  .nil
def r90_4 : XL := .op ⟨(some 19), none, .bslice 1 [], []⟩ <|
  .op ⟨(some 7), none, .asg (.s 19) false, [19, 19]⟩ <|
  .nil
def r90_5 : XL := .op ⟨(some 8), none, .asg (.c ⟨.one, [.int .i64 0]⟩) false, []⟩ <|
  .nil
def r90_6 : XL := .op ⟨(some 9), none, .asg (.c ⟨.one, [.int .i64 0]⟩) false, []⟩ <|
  .nil
def r90_7 : XL := .op ⟨(some 20), none, .mv (.s 1), []⟩ <|
  .op ⟨(some 21), none, .mv (.c ⟨.one, [.int .i64 0]⟩), [1, 1]⟩ <|
  .nil
def r90_8 : XL := .op ⟨(some 22), none, .bin .lss (.s 21) (.s 20), []⟩ <|
  .nil
def r90_9 : XL := .op ⟨(some 23), none, .mv (.s 21), []⟩ <|
  .op ⟨(some 10), none, .asg (.s 23) false, [22, 23]⟩ <|
  .nil
def r90_11 : XL := .op ⟨(some 29), none, .mv (.s 10), []⟩ <|
  .op ⟨(some 30), none, .bin .lss (.s 29) (.c ⟨.one, [.int .i64 2]⟩), []⟩ <|
  .op ⟨(some 28), none, .asg (.s 30) false, [10, 10, 29, 30]⟩ <|
  .nil
def r90_12 : XL := .op ⟨(some 31), none, .mv (.s 6), []⟩ <|
  .op ⟨(some 32), none, .call 81 [(false, .s 31)] [18], []⟩ <|
  .op ⟨(some 8), none, .asg (.s 32) false, [28, 32]⟩ <|
  .nil
def r90_10 : XL := .op ⟨(some 24), none, .mv (.s 8), []⟩ <|
  .op ⟨(some 25), none, .mv (.s 6), []⟩ <|
  .op ⟨(some 26), none, .call 124 [(false, .s 25)] [18], []⟩ <|
  .op ⟨(some 27), none, .bin .add (.s 24) (.s 26), []⟩ <|
  .op ⟨(some 8), none, .asg (.s 27) false, [24, 28]⟩ <|
  .nil
def r90_13 : XL := .op ⟨(some 33), none, .mv (.s 9), []⟩ <|
  .op ⟨(some 34), none, .mv (.s 8), []⟩ <|
  .op ⟨(some 35), none, .bin .add (.s 33) (.s 34), []⟩ <|
  .op ⟨(some 9), none, .asg (.s 35) false, [33, 35]⟩ <|
  .nil
def r90_14 : XL := .op ⟨(some 36), none, .mv (.s 7), []⟩ <|
  .op ⟨(some 37), none, .mv (.s 9), []⟩ <|
  .op ⟨(some 38), none, .bslice 1 [.s 37], []⟩ <|
  .op ⟨(some 39), none, .app 1 8 (.s 36) (.s 38) false, []⟩ <|
  .op ⟨(some 7), none, .asg (.s 39) false, [36, 39]⟩ <|
  .nil
def r90_15 : XL := .op ⟨(some 40), none, .bin .add (.s 21) (.c ⟨.one, [.int .i64 1]⟩), []⟩ <|
  .op ⟨(some 21), none, .mv (.s 40), [40, 40]⟩ <|
  .nil
def l90_0 : XCode := .keep [0, 6, 7, 8, 9, 20, 21] [18] (.seq (.ops r90_8) (.seq (.cond (.s 22) (.skip) (.exit 0)) (.seq (.block 1 (.seq (.ops r90_9) (.seq (.block 2 (.seq (.ops r90_11) (.cond (.s 28) (.ops r90_12) (.ops r90_10)))) (.seq (.ops r90_13) (.ops r90_14))))) (.ops r90_15))))
def r90_16 : XL := .op ⟨(some 42), none, .mv (.s 0), []⟩ <|
  .op ⟨(some 43), none, .mv (.s 7), []⟩ <|
  .op ⟨(some 44), none, .call 126 [(false, .s 43)] [], [0, 0, 8, 21, 43, 43]⟩ <|
  .op ⟨(some 45), none, .call 125 [(false, .s 42), (false, .s 44)] [], []⟩ <|
  .op ⟨(some 41), none, .mv (.s 45), []⟩ <|
  .op ⟨(some 46), none, .ext 0 (.s 41), []⟩ <|
  .op ⟨(some 47), none, .ext 1 (.s 41), []⟩ <|
  .op ⟨(some 11), none, .asg (.s 46) true, []⟩ <|
  .op ⟨(some 12), none, .asg (.s 47) true, [41, 47]⟩ <|
  .nil
def r90_17 : XL := .op ⟨(some 48), none, .mv (.s 6), []⟩ <|
  .op ⟨(some 49), none, .nilc (.s 48), []⟩ <|
  .op ⟨(some 50), none, .fad 1 (.s 49), []⟩ <|
  .op ⟨(some 51), none, .load false 1 (.s 50), []⟩ <|
  .op ⟨(some 52), none, .un .not (.s 51), []⟩ <|
  .op ⟨(some 53), none, .mv (.s 52), [6, 6, 48, 52]⟩ <|
  .sc 53 false (.op ⟨(some 54), (some (53, false)), .mv (.s 12), []⟩ <|
  .op ⟨(some 55), (some (53, false)), .un .not (.s 54), []⟩ <|
  .nil) [54, 55] 56 none (.s 53) (.s 55) [12, 53] <|
  .nil
def r90_18 : XL := .op ⟨(some 4), none, .asg (.c ⟨.one, [.own 1 []]⟩) false, []⟩ <|
  .op ⟨(some 5), none, .asg (.c ⟨.one, [.int .i64 0]⟩) false, [7, 56]⟩ <|
  .nil
def r90_19 : XL := .op ⟨(some 57), none, .mv (.s 7), []⟩ <|
  .op ⟨(some 58), none, .mv (.s 11), []⟩ <|
  .op ⟨(some 4), none, .asg (.s 57) true, []⟩ <|
  .op ⟨(some 5), none, .asg (.s 58) true, [7, 58]⟩ <|
  .nil
def x90 : XCode := .seq (.ops r90_0) (.seq (.seq (.ops r90_1) (.cond (.s 15) (.seq (.ops r90_2) (.ret)) (.skip))) (.seq (.ops r90_3) (.seq (.ops r90_4) (.seq (.ops r90_5) (.seq (.ops r90_6) (.seq (.seq (.ops r90_7) (.block 0 (.loop l90_0))) (.seq (.ops r90_16) (.seq (.seq (.ops r90_17) (.cond (.s 56) (.seq (.ops r90_18) (.ret)) (.skip))) (.seq (.ops r90_19) (.ret))))))))))
theorem m90 : mFun Try.prog Try.f90 x90 [.tmp 4, .tmp 5] 2 = true := by kernel_rfl
theorem k90 : Callable Try.prog 90 := callable_of (by kernel_rfl)

/-! loop.example/g00360/impl.ReadValues -/
def r91_0 : XL := .op ⟨(some 4), none, .asg (.c ⟨.one, [.own 1 []]⟩) false, []⟩ <|
  .op ⟨(some 5), none, .asg (.c ⟨.one, [.int .i64 0]⟩) false, [4, 5]⟩ <|
  .nil
def r91_1 : XL := .op ⟨(some 11), none, .mv (.s 1), []⟩ <|
  .op ⟨(some 12), none, .call 32 [(false, .s 11), (false, .c ⟨.one, [.int .i64 1]⟩), (false, .c ⟨.one, [.int .i64 60]⟩)] [], []⟩ <|
  .op ⟨(some 13), none, .un .not (.s 12), [11, 12]⟩ <|
  .nil
def r91_2 : XL := .op ⟨(some 4), none, .asg (.c ⟨.one, [.own 1 []]⟩) false, []⟩ <|
  .op ⟨(some 5), none, .asg (.c ⟨.one, [.int .i64 0]⟩) false, [0, 1, 13, 13]⟩ <|
  .nil
def r91_3 : XL := .op ⟨(some 14), none, .mv (.s 0), []⟩ <|
  .op ⟨(some 15), none, .build [.str ⟨#[]⟩, .bool false] [(0, 1, .s 14), (1, 1, .c ⟨.one, [.bool true]⟩)], []⟩ <|
  .op ⟨(some 16), none, .box (.s 15) false, []⟩ <|
  .op ⟨(some 6), none, .asg (.s 16) false, [4, 5, 13, 16]⟩ <|
  .nil
def r91_4 : XL := .op ⟨(some 17), none, .bslice 1 [], []⟩ <|
  .op ⟨(some 7), none, .asg (.s 17) false, [17, 17]⟩ <|
  .nil
def r91_5 : XL := .op ⟨(some 8), none, .asg (.c ⟨.one, [.int .i64 0]⟩) false, []⟩ <|
  .nil
def r91_6 : XL := .op ⟨(some 18), none, .mv (.s 1), []⟩ <|
  .op ⟨(some 19), none, .mv (.c ⟨.one, [.int .i64 0]⟩), [1, 1]⟩ <|
  .nil
def r91_7 : XL := .op ⟨(some 20), none, .bin .lss (.s 19) (.s 18), []⟩ <|
  .nil
def r91_8 : XL := .op ⟨(some 21), none, .mv (.s 8), []⟩ <|
  .op ⟨(some 22), none, .mv (.s 6), []⟩ <|
  .op ⟨(some 23), none, .call 124 [(false, .s 22)] [16], []⟩ <|
  .op ⟨(some 24), none, .bin .add (.s 21) (.s 23), []⟩ <|
  .op ⟨(some 8), none, .asg (.s 24) false, [20, 24]⟩ <|
  .nil
def r91_9 : XL := .op ⟨(some 25), none, .mv (.s 7), []⟩ <|
  .op ⟨(some 26), none, .mv (.s 8), []⟩ <|
  .op ⟨(some 27), none, .bslice 1 [.s 26], []⟩ <|
  .op ⟨(some 28), none, .app 1 8 (.s 25) (.s 27) false, []⟩ <|
  .op ⟨(some 7), none, .asg (.s 28) false, [25, 28]⟩ <|
  .nil
def r91_10 : XL := .op ⟨(some 29), none, .bin .add (.s 19) (.c ⟨.one, [.int .i64 1]⟩), []⟩ <|
  .op ⟨(some 19), none, .mv (.s 29), [29, 29]⟩ <|
  .nil
def l91_0 : XCode := .keep [0, 6, 7, 8, 18, 19] [16] (.seq (.ops r91_7) (.seq (.cond (.s 20) (.skip) (.exit 0)) (.seq (.block 1 (.seq (.ops r91_8) (.ops r91_9))) (.ops r91_10))))
def r91_11 : XL := .op ⟨(some 31), none, .mv (.s 0), []⟩ <|
  .op ⟨(some 32), none, .mv (.s 7), []⟩ <|
  .op ⟨(some 33), none, .call 127 [(false, .s 32)] [], []⟩ <|
  .op ⟨(some 34), none, .call 125 [(false, .s 31), (false, .s 33)] [], [0, 0, 8, 33]⟩ <|
  .op ⟨(some 30), none, .mv (.s 34), []⟩ <|
  .op ⟨(some 35), none, .ext 0 (.s 30), []⟩ <|
  .op ⟨(some 36), none, .ext 1 (.s 30), []⟩ <|
  .op ⟨(some 9), none, .asg (.s 35) true, []⟩ <|
  .op ⟨(some 10), none, .asg (.s 36) true, [30, 36]⟩ <|
  .nil
def r91_12 : XL := .op ⟨(some 37), none, .mv (.s 6), []⟩ <|
  .op ⟨(some 38), none, .nilc (.s 37), []⟩ <|
  .op ⟨(some 39), none, .fad 1 (.s 38), []⟩ <|
  .op ⟨(some 40), none, .load false 1 (.s 39), []⟩ <|
  .op ⟨(some 41), none, .un .not (.s 40), []⟩ <|
  .op ⟨(some 42), none, .mv (.s 41), [6, 6, 37, 41]⟩ <|
  .sc 42 false (.op ⟨(some 43), (some (42, false)), .mv (.s 10), []⟩ <|
  .op ⟨(some 44), (some (42, false)), .un .not (.s 43), []⟩ <|
  .nil) [43, 44] 45 none (.s 42) (.s 44) [10, 42] <|
  .nil
def r91_13 : XL := .op ⟨(some 4), none, .asg (.c ⟨.one, [.own 1 []]⟩) false, []⟩ <|
  .op ⟨(some 5), none, .asg (.c ⟨.one, [.int .i64 0]⟩) false, [7, 45]⟩ <|
  .nil
def r91_14 : XL := .op ⟨(some 46), none, .mv (.s 7), []⟩ <|
  .op ⟨(some 47), none, .mv (.s 9), []⟩ <|
  .op ⟨(some 4), none, .asg (.s 46) true, []⟩ <|
  .op ⟨(some 5), none, .asg (.s 47) true, [7, 47]⟩ <|
  .nil
def x91 : XCode := .seq (.ops r91_0) (.seq (.seq (.ops r91_1) (.cond (.s 13) (.seq (.ops r91_2) (.ret)) (.skip))) (.seq (.ops r91_3) (.seq (.ops r91_4) (.seq (.ops r91_5) (.seq (.seq (.ops r91_6) (.block 0 (.loop l91_0))) (.seq (.ops r91_11) (.seq (.seq (.ops r91_12) (.cond (.s 45) (.seq (.ops r91_13) (.ret)) (.skip))) (.seq (.ops r91_14) (.ret)))))))))
theorem m91 : mFun Try.prog Try.f91 x91 [.tmp 4, .tmp 5] 2 = true := by kernel_rfl
theorem k91 : Callable Try.prog 91 := callable_of (by kernel_rfl)

/-! loop.example/g00360/impl.ShowBlock -/
def r92_0 : XL := .op ⟨(some 2), none, .asg (.c ⟨.one, [.str ⟨#[]⟩]⟩) false, [2, 2]⟩ <|
  .nil
def r92_1 : XL := .op ⟨(some 7), none, .mv (.s 0), []⟩ <|
  .op ⟨(some 8), none, .call 128 [(false, .s 7)] [], []⟩ <|
  .op ⟨(some 9), none, .un .not (.s 8), []⟩ <|
  .op ⟨(some 10), none, .mv (.s 9), []⟩ <|
  .sc 10 false (.op ⟨(some 11), (some (10, false)), .mv (.s 0), []⟩ <|
  .op ⟨(some 12), (some (10, false)), .len false (.s 11), []⟩ <|
  .op ⟨(some 13), (some (10, false)), .bin .eql (.s 12) (.c ⟨.one, [.int .i64 0]⟩), []⟩ <|
  .nil) [11, 12, 13] 14 none (.s 10) (.s 13) [7, 10] <|
  .nil
def r92_2 : XL := .op ⟨(some 2), none, .asg (.c ⟨.one, [.str ⟨#[]⟩]⟩) false, [0, 0, 14, 14]⟩ <|
  .nil
def r92_3 : XL := .op ⟨(some 15), none, .bslice 1 [], []⟩ <|
  .op ⟨(some 16), none, .bslice 1 [], []⟩ <|
  .op ⟨(some 3), none, .asg (.s 15) false, []⟩ <|
  .op ⟨(some 4), none, .asg (.s 16) false, [2, 2, 14, 16]⟩ <|
  .nil
def r92_4 : XL := .op ⟨(some 17), none, .mv (.s 0), []⟩ <|
  .op ⟨(some 18), none, .len false (.s 17), []⟩ <|
  .op ⟨(some 19), none, .mv (.c ⟨.one, [.int .i64 0]⟩), []⟩ <|
  .nil
def r92_5 : XL := .op ⟨(some 20), none, .bin .lss (.s 19) (.s 18), []⟩ <|
  .nil
def r92_6 : XL := .op ⟨(some 21), none, .iad 2 (.s 17) (.s 19), []⟩ <|
  .op ⟨(some 22), none, .load true 2 (.s 21), []⟩ <|
  .op ⟨(some 6), none, .alloc [.int .i64 0, .int .i64 0], []⟩ <|
  .op ⟨none, none, .store 2 (.s 6) (.s 22) false, [20, 22]⟩ <|
  .nil
def r92_7 : XL := .op ⟨(some 23), none, .mv (.s 3), []⟩ <|
  .op ⟨(some 24), none, .fad 0 (.s 6), []⟩ <|
  .op ⟨(some 25), none, .load false 1 (.s 24), []⟩ <|
  .op ⟨(some 26), none, .bslice 1 [.s 25], []⟩ <|
  .op ⟨(some 27), none, .app 1 8 (.s 23) (.s 26) false, []⟩ <|
  .op ⟨(some 3), none, .asg (.s 27) false, [23, 27]⟩ <|
  .nil
def r92_8 : XL := .op ⟨(some 28), none, .mv (.s 4), []⟩ <|
  .op ⟨(some 29), none, .fad 1 (.s 6), []⟩ <|
  .op ⟨(some 30), none, .load false 1 (.s 29), []⟩ <|
  .op ⟨(some 31), none, .bslice 1 [.s 30], []⟩ <|
  .op ⟨(some 32), none, .app 1 8 (.s 28) (.s 31) false, [4, 6, 28, 31]⟩ <|
  .op ⟨(some 4), none, .asg (.s 32) false, [32, 32]⟩ <|
  .nil
def r92_9 : XL := .op ⟨(some 33), none, .bin .add (.s 19) (.c ⟨.one, [.int .i64 1]⟩), []⟩ <|
  .op ⟨(some 19), none, .mv (.s 33), [33, 33]⟩ <|
  .nil
def l92_0 : XCode := .keep [0, 3, 4, 17, 18, 19] [] (.seq (.ops r92_5) (.seq (.cond (.s 20) (.skip) (.exit 0)) (.seq (.block 1 (.seq (.ops r92_6) (.seq (.ops r92_7) (.ops r92_8)))) (.ops r92_9))))
def r92_10 : XL := .op ⟨(some 34), none, .mv (.s 0), []⟩ <|
  .op ⟨(some 35), none, .len false (.s 34), []⟩ <|
  .op ⟨(some 36), none, .call 57 [(false, .s 35)] [], [0, 0, 17, 35]⟩ <|
  .op ⟨(some 37), none, .mv (.s 3), []⟩ <|
  .op ⟨(some 38), none, .call 126 [(false, .s 37)] [], []⟩ <|
  .op ⟨(some 39), none, .bin .add (.s 36) (.s 38), []⟩ <|
  .op ⟨(some 40), none, .mv (.s 4), []⟩ <|
  .op ⟨(some 41), none, .call 127 [(false, .s 40)] [], [3, 38, 40, 40]⟩ <|
  .op ⟨(some 42), none, .bin .add (.s 39) (.s 41), []⟩ <|
  .op ⟨(some 43), none, .call 123 [(false, .s 42)] [], []⟩ <|
  .op ⟨(some 2), none, .asg (.s 43) false, [39, 43]⟩ <|
  .nil
def x92 : XCode := .seq (.ops r92_0) (.seq (.seq (.ops r92_1) (.cond (.s 14) (.seq (.ops r92_2) (.ret)) (.skip))) (.seq (.ops r92_3) (.seq (.seq (.ops r92_4) (.block 0 (.loop l92_0))) (.seq (.ops r92_10) (.ret)))))
theorem m92 : mFun Try.prog Try.f92 x92 [.tmp 2] 1 = true := by kernel_rfl
theorem k92 : Callable Try.prog 92 := callable_of (by kernel_rfl)

/-! loop.example/g00360/spec.ShowOp -/
def r94_0 : XL := .op ⟨(some 1), none, .box (.s 0) false, []⟩ <|
  .op ⟨(some 2), none, .asg (.c ⟨.one, [.str ⟨#[]⟩]⟩) false, [0, 0, 2, 2]⟩ <|
  .nil
def r94_1 : XL := .op ⟨(some 3), none, .load true 5 (.s 1), []⟩ <|
  .op ⟨(some 4), none, .call 28 [(false, .s 3)] [], []⟩ <|
  .op ⟨(some 5), none, .un .not (.s 4), [3, 4]⟩ <|
  .nil
def r94_2 : XL := .op ⟨(some 2), none, .asg (.c ⟨.one, [.str ⟨#[]⟩]⟩) false, [1, 1, 5, 5]⟩ <|
  .nil
def r94_3v : List XD := [⟨⟨(some 6), none, .fad 0 (.s 1), []⟩, [], []⟩,
  ⟨⟨(some 7), none, .load false 1 (.s 6), []⟩, [0], []⟩,
  ⟨⟨(some 8), none, .convI .u8 (.s 7), []⟩, [0, 1], []⟩,
  ⟨⟨(some 9), none, .bslice 1 [.s 8], []⟩, [0, 1, 2], []⟩,
  ⟨⟨(some 10), none, .b2s (.s 9), []⟩, [0, 1, 2, 3], []⟩,
  ⟨⟨(some 11), none, .fad 1 (.s 1), []⟩, [], [6, 7, 8, 9, 10]⟩,
  ⟨⟨(some 12), none, .load false 1 (.s 11), []⟩, [5], [6, 7, 8, 9, 10]⟩,
  ⟨⟨(some 13), none, .len true (.s 12), []⟩, [5, 6], [6, 7, 8, 9, 10]⟩,
  ⟨⟨(some 14), none, .call 53 [(false, .s 13)] [], []⟩, [5, 6, 7], [6, 7, 8, 9, 10]⟩,
  ⟨⟨(some 15), none, .bin .add (.s 10) (.s 14), []⟩, [0, 1, 2, 3, 4, 5, 6, 7, 8], []⟩,
  ⟨⟨(some 16), none, .fad 1 (.s 1), []⟩, [], [6, 7, 8, 9, 10, 11, 12, 13, 14, 15]⟩,
  ⟨⟨(some 17), none, .load false 1 (.s 16), []⟩, [10], [6, 7, 8, 9, 10, 11, 12, 13, 14, 15]⟩,
  ⟨⟨(some 18), none, .bin .add (.s 15) (.s 17), []⟩, [0, 1, 2, 3, 4, 5, 6, 7, 8, 9, 10, 11], []⟩,
  ⟨⟨(some 19), none, .fad 2 (.s 1), []⟩, [], [6, 7, 8, 9, 10, 11, 12, 13, 14, 15, 16, 17, 18]⟩,
  ⟨⟨(some 20), none, .load false 1 (.s 19), []⟩, [13], [6, 7, 8, 9, 10, 11, 12, 13, 14, 15, 16, 17, 18]⟩,
  ⟨⟨(some 21), none, .call 53 [(false, .s 20)] [], []⟩, [5, 6, 7, 8, 13, 14], [6, 7, 8, 9, 10, 15, 16, 17, 18]⟩,
  ⟨⟨(some 22), none, .bin .add (.s 18) (.s 21), []⟩, [0, 1, 2, 3, 4, 5, 6, 7, 8, 9, 10, 11, 12, 13, 14, 15], []⟩,
  ⟨⟨(some 23), none, .fad 3 (.s 1), []⟩, [], [6, 7, 8, 9, 10, 11, 12, 13, 14, 15, 16, 17, 18, 19, 20, 21, 22]⟩,
  ⟨⟨(some 24), none, .load false 1 (.s 23), []⟩, [17], [6, 7, 8, 9, 10, 11, 12, 13, 14, 15, 16, 17, 18, 19, 20, 21, 22]⟩,
  ⟨⟨(some 25), none, .call 53 [(false, .s 24)] [], []⟩, [5, 6, 7, 8, 13, 14, 15, 17, 18], [6, 7, 8, 9, 10, 15, 16, 17, 18, 22]⟩,
  ⟨⟨(some 26), none, .bin .add (.s 22) (.s 25), []⟩, [0, 1, 2, 3, 4, 5, 6, 7, 8, 9, 10, 11, 12, 13, 14, 15, 16, 17, 18, 19], []⟩,
  ⟨⟨(some 27), none, .fad 4 (.s 1), []⟩, [], [6, 7, 8, 9, 10, 11, 12, 13, 14, 15, 16, 17, 18, 19, 20, 21, 22, 23, 24, 25, 26]⟩,
  ⟨⟨(some 28), none, .load false 1 (.s 27), []⟩, [21], [6, 7, 8, 9, 10, 11, 12, 13, 14, 15, 16, 17, 18, 19, 20, 21, 22, 23, 24, 25, 26]⟩]
def r94_3t : List XD := [⟨⟨(some 29), none, .bin .add (.s 26) (.s 28), []⟩, [0, 1, 2, 3, 4, 5, 6, 7, 8, 9, 10, 11, 12, 13, 14, 15, 16, 17, 18, 19, 20, 21, 22], []⟩,
  ⟨⟨(some 2), none, .asg (.s 29) false, [1, 1, 5, 29]⟩, [0, 1, 2, 3, 4, 5, 6, 7, 8, 9, 10, 11, 12, 13, 14, 15, 16, 17, 18, 19, 20, 21, 22, 23], []⟩]
def x94 : XCode := .seq (.ops r94_0) (.seq (.seq (.ops r94_1) (.cond (.s 5) (.seq (.ops r94_2) (.ret)) (.skip))) (.seq (.any r94_3v r94_3t) (.ret)))
theorem m94 : mFun Try.prog Try.f94 x94 [.tmp 2] 1 = true := by kernel_rfl
theorem k94 : Callable Try.prog 94 := callable_of (by kernel_rfl)

/-! loop.example/g00360/spec.ShowAnswer -/
def r95_0 : XL := .op ⟨(some 1), none, .box (.s 0) false, []⟩ <|
  .op ⟨(some 2), none, .asg (.c ⟨.one, [.str ⟨#[]⟩]⟩) false, [0, 0, 2, 2]⟩ <|
  .nil
def r95_1 : XL := .op ⟨(some 3), none, .load true 4 (.s 1), []⟩ <|
  .op ⟨(some 4), none, .call 105 [(false, .s 3)] [], []⟩ <|
  .op ⟨(some 5), none, .un .not (.s 4), [3, 4]⟩ <|
  .nil
def r95_2 : XL := .op ⟨(some 2), none, .asg (.c ⟨.one, [.str ⟨#[]⟩]⟩) false, [1, 1, 5, 5]⟩ <|
  .nil
def r95_3v : List XD := [⟨⟨(some 6), none, .fad 0 (.s 1), []⟩, [], []⟩,
  ⟨⟨(some 7), none, .load false 1 (.s 6), []⟩, [0], []⟩,
  ⟨⟨(some 8), none, .call 53 [(false, .s 7)] [], []⟩, [0, 1], []⟩,
  ⟨⟨(some 9), none, .fad 1 (.s 1), []⟩, [], [6, 7, 8]⟩,
  ⟨⟨(some 10), none, .load false 1 (.s 9), []⟩, [3], [6, 7, 8]⟩,
  ⟨⟨(some 11), none, .call 53 [(false, .s 10)] [], []⟩, [0, 1, 2, 3, 4], []⟩,
  ⟨⟨(some 12), none, .bin .add (.s 8) (.s 11), []⟩, [0, 1, 2, 3, 4, 5], []⟩,
  ⟨⟨(some 13), none, .fad 2 (.s 1), []⟩, [], [6, 7, 8, 9, 10, 11, 12]⟩,
  ⟨⟨(some 14), none, .load false 1 (.s 13), []⟩, [7], [6, 7, 8, 9, 10, 11, 12]⟩,
  ⟨⟨(some 15), none, .call 53 [(false, .s 14)] [], []⟩, [0, 1, 2, 3, 4, 5, 7, 8], [12]⟩,
  ⟨⟨(some 16), none, .bin .add (.s 12) (.s 15), []⟩, [0, 1, 2, 3, 4, 5, 6, 7, 8, 9], []⟩,
  ⟨⟨(some 17), none, .fad 3 (.s 1), []⟩, [], [6, 7, 8, 9, 10, 11, 12, 13, 14, 15, 16]⟩,
  ⟨⟨(some 18), none, .load false 1 (.s 17), []⟩, [11], [6, 7, 8, 9, 10, 11, 12, 13, 14, 15, 16]⟩]
def r95_3t : List XD := [⟨⟨(some 19), none, .bin .add (.s 16) (.s 18), []⟩, [0, 1, 2, 3, 4, 5, 6, 7, 8, 9, 10, 11, 12], []⟩,
  ⟨⟨(some 2), none, .asg (.s 19) false, [1, 1, 5, 19]⟩, [0, 1, 2, 3, 4, 5, 6, 7, 8, 9, 10, 11, 12, 13], []⟩]
def x95 : XCode := .seq (.ops r95_0) (.seq (.seq (.ops r95_1) (.cond (.s 5) (.seq (.ops r95_2) (.ret)) (.skip))) (.seq (.any r95_3v r95_3t) (.ret)))
theorem m95 : mFun Try.prog Try.f95 x95 [.tmp 2] 1 = true := by kernel_rfl
theorem k95 : Callable Try.prog 95 := callable_of (by kernel_rfl)

/-! loop.example/g00360/spec.l15SameEntries -/
def r96_0 : XL := .op ⟨(some 4), none, .asg (.c ⟨.one, [.bool false]⟩) false, [4, 4]⟩ <|
  .nil
def r96_1 : XL := .op ⟨(some 6), none, .mv (.s 0), []⟩ <|
  .op ⟨(some 7), none, .len false (.s 6), []⟩ <|
  .op ⟨(some 8), none, .mv (.s 1), []⟩ <|
  .op ⟨(some 9), none, .len false (.s 8), []⟩ <|
  .op ⟨(some 10), none, .bin .neq (.s 7) (.s 9), [6, 9]⟩ <|
  .nil
def r96_2 : XL := .op ⟨(some 4), none, .asg (.c ⟨.one, [.bool false]⟩) false, [0, 1, 10, 10]⟩ <|
  .nil
def r96_3 : XL := .op ⟨(some 5), none, .asg (.c ⟨.one, [.int .i64 0]⟩) false, [4, 4, 10, 10]⟩ <|
  .nil
def r96_4 : XL := .op ⟨(some 11), none, .mv (.s 5), []⟩ <|
  .op ⟨(some 12), none, .mv (.s 0), []⟩ <|
  .op ⟨(some 13), none, .len false (.s 12), []⟩ <|
  .op ⟨(some 14), none, .bin .lss (.s 11) (.s 13), [11, 13]⟩ <|
  .nil
def r96_6v : List XD := [⟨⟨(some 17), none, .mv (.s 0), []⟩, [], []⟩,
  ⟨⟨(some 18), none, .mv (.s 5), []⟩, [], [17]⟩,
  ⟨⟨(some 19), none, .iad 2 (.s 17) (.s 18), []⟩, [0, 1], []⟩,
  ⟨⟨(some 20), none, .load true 2 (.s 19), []⟩, [0, 1, 2], []⟩,
  ⟨⟨(some 21), none, .mv (.s 1), []⟩, [], [17, 18, 19, 20]⟩,
  ⟨⟨(some 22), none, .mv (.s 5), []⟩, [], [17, 18, 19, 20, 21]⟩,
  ⟨⟨(some 23), none, .iad 2 (.s 21) (.s 22), []⟩, [4, 5], [17, 18, 19, 20]⟩,
  ⟨⟨(some 24), none, .load true 2 (.s 23), []⟩, [4, 5, 6], [17, 18, 19, 20]⟩]
def r96_6t : List XD := [⟨⟨(some 25), none, .eqs true [0, 2] (.s 20) (.s 24), [14, 24]⟩, [0, 1, 2, 3, 4, 5, 6, 7], []⟩]
def r96_7 : XL := .op ⟨(some 4), none, .asg (.c ⟨.one, [.bool false]⟩) false, [0, 1, 5, 25]⟩ <|
  .nil
def r96_5 : XL := .op ⟨(some 15), none, .mv (.s 5), []⟩ <|
  .op ⟨(some 16), none, .bin .add (.s 15) (.c ⟨.one, [.int .i64 1]⟩), []⟩ <|
  .op ⟨(some 5), none, .asg (.s 16) false, [4, 4, 15, 25]⟩ <|
  .nil
def l96_0 : XCode := .keep [0, 1, 5] [] (.seq (.seq (.ops r96_4) (.cond (.s 14) (.skip) (.exit 0))) (.seq (.block 1 (.seq (.any r96_6v r96_6t) (.cond (.s 25) (.seq (.ops r96_7) (.ret)) (.skip)))) (.ops r96_5)))
def r96_8 : XL := .op ⟨(some 4), none, .asg (.c ⟨.one, [.bool true]⟩) false, [0, 1, 5, 5]⟩ <|
  .nil
def x96 : XCode := .seq (.ops r96_0) (.seq (.seq (.ops r96_1) (.cond (.s 10) (.seq (.ops r96_2) (.ret)) (.skip))) (.seq (.seq (.ops r96_3) (.block 0 (.loop l96_0))) (.seq (.ops r96_8) (.ret))))
theorem m96 : mFun Try.prog Try.f96 x96 [.tmp 4] 2 = true := by kernel_rfl
theorem k96 : Callable Try.prog 96 := callable_of (by kernel_rfl)

/-! loop.example/g00360/impl.termsOk -/
def r98_0 : XL := .op ⟨(some 6), none, .asg (.c ⟨.one, [.bool false]⟩) false, [6, 6]⟩ <|
  .nil
def r98_1 : XL := .op ⟨(some 9), none, .mv (.s 0), []⟩ <|
  .op ⟨(some 10), none, .len false (.s 9), []⟩ <|
  .op ⟨(some 11), none, .mv (.c ⟨.one, [.int .i64 0]⟩), []⟩ <|
  .nil
def r98_2 : XL := .op ⟨(some 12), none, .bin .lss (.s 11) (.s 10), []⟩ <|
  .nil
def r98_3 : XL := .op ⟨(some 13), none, .iad 2 (.s 9) (.s 11), []⟩ <|
  .op ⟨(some 14), none, .load true 2 (.s 13), []⟩ <|
  .op ⟨(some 8), none, .alloc [.int .i64 0, .str ⟨#[]⟩], []⟩ <|
  .op ⟨none, none, .store 2 (.s 8) (.s 14) false, [12, 14]⟩ <|
  .nil
def r98_4 : XL := .op ⟨(some 15), none, .fad 0 (.s 8), []⟩ <|
  .op ⟨(some 16), none, .load false 1 (.s 15), []⟩ <|
  .op ⟨(some 17), none, .bin .lss (.s 16) (.c ⟨.one, [.int .i64 1]⟩), []⟩ <|
  .op ⟨(some 18), none, .mv (.s 17), []⟩ <|
  .sc 18 false (.op ⟨(some 19), (some (18, false)), .fad 0 (.s 8), []⟩ <|
  .op ⟨(some 20), (some (18, false)), .load false 1 (.s 19), []⟩ <|
  .op ⟨(some 21), (some (18, false)), .mv (.s 1), []⟩ <|
  .op ⟨(some 22), (some (18, false)), .mv (.s 2), []⟩ <|
  .op ⟨(some 23), (some (18, false)), .call 32 [(false, .s 20), (false, .s 21), (false, .s 22)] [], []⟩ <|
  .op ⟨(some 24), (some (18, false)), .un .not (.s 23), []⟩ <|
  .nil) [19, 20, 21, 22, 23, 24] 25 none (.s 18) (.s 24) [] <|
  .op ⟨(some 26), none, .mv (.s 25), [1, 1, 15, 25]⟩ <|
  .sc 26 false (.op ⟨(some 27), (some (26, false)), .fad 1 (.s 8), []⟩ <|
  .op ⟨(some 28), (some (26, false)), .load false 1 (.s 27), []⟩ <|
  .op ⟨(some 29), (some (26, false)), .len true (.s 28), []⟩ <|
  .op ⟨(some 30), (some (26, false)), .bin .gtr (.s 29) (.c ⟨.one, [.int .i64 900]⟩), []⟩ <|
  .nil) [27, 28, 29, 30] 31 none (.s 26) (.s 30) [26, 26] <|
  .nil
def r98_5 : XL := .op ⟨(some 6), none, .asg (.c ⟨.one, [.bool false]⟩) false, [0, 2, 8, 31]⟩ <|
  .nil
def r98_6 : XL := .op ⟨(some 32), none, .fad 0 (.s 8), []⟩ <|
  .op ⟨(some 33), none, .load false 1 (.s 32), []⟩ <|
  .op ⟨(some 1), none, .asg (.s 33) false, [6, 6, 31, 33]⟩ <|
  .nil
def r98_7 : XL := .op ⟨(some 34), none, .bin .add (.s 11) (.c ⟨.one, [.int .i64 1]⟩), []⟩ <|
  .op ⟨(some 11), none, .mv (.s 34), [34, 34]⟩ <|
  .nil
def l98_0 : XCode := .keep [0, 1, 2, 9, 10, 11] [] (.seq (.ops r98_2) (.seq (.cond (.s 12) (.skip) (.exit 0)) (.seq (.block 1 (.seq (.ops r98_3) (.seq (.seq (.ops r98_4) (.cond (.s 31) (.seq (.ops r98_5) (.ret)) (.skip))) (.ops r98_6)))) (.ops r98_7))))
def r98_8 : XL := .op ⟨(some 6), none, .asg (.c ⟨.one, [.bool true]⟩) false, [0, 2, 8, 11]⟩ <|
  .nil
def x98 : XCode := .seq (.ops r98_0) (.seq (.seq (.ops r98_1) (.block 0 (.loop l98_0))) (.seq (.ops r98_8) (.ret)))
theorem m98 : mFun Try.prog Try.f98 x98 [.tmp 6] 3 = true := by kernel_rfl
theorem k98 : Callable Try.prog 98 := callable_of (by kernel_rfl)

/-! (*loop.example/g00360/impl.reader).op -/
def r99_0 : XL := .op ⟨(some 2), none, .alloc [.int .i64 0, .str ⟨#[]⟩, .int .i64 0, .int .i64 0, .str ⟨#[]⟩], []⟩ <|
  .nil
def r99_1 : XL := .op ⟨(some 4), none, .build [.int .i64 0, .str ⟨#[]⟩, .int .i64 0, .int .i64 0, .str ⟨#[]⟩] [], []⟩ <|
  .op ⟨(some 3), none, .alloc [.int .i64 0, .str ⟨#[]⟩, .int .i64 0, .int .i64 0, .str ⟨#[]⟩], []⟩ <|
  .op ⟨none, none, .store 5 (.s 3) (.s 4) false, [4, 4]⟩ <|
  .nil
def r99_2 : XL := .op ⟨(some 5), none, .mv (.s 0), []⟩ <|
  .op ⟨(some 6), none, .call 129 [(false, .s 5)] [1000000], []⟩ <|
  .op ⟨(some 7), none, .fad 0 (.s 3), []⟩ <|
  .op ⟨none, none, .store 1 (.s 7) (.s 6) false, [5, 7]⟩ <|
  .nil
def r99_3 : XL := .op ⟨(some 8), none, .mv (.s 0), []⟩ <|
  .op ⟨(some 9), none, .call 83 [(false, .s 8)] [1000000], []⟩ <|
  .op ⟨(some 10), none, .fad 1 (.s 3), []⟩ <|
  .op ⟨none, none, .store 1 (.s 10) (.s 9) false, [8, 10]⟩ <|
  .nil
def r99_4 : XL := .op ⟨(some 11), none, .mv (.s 0), []⟩ <|
  .op ⟨(some 12), none, .call 81 [(false, .s 11)] [1000000], []⟩ <|
  .op ⟨(some 13), none, .fad 2 (.s 3), []⟩ <|
  .op ⟨none, none, .store 1 (.s 13) (.s 12) false, [11, 13]⟩ <|
  .nil
def r99_5 : XL := .op ⟨(some 14), none, .mv (.s 0), []⟩ <|
  .op ⟨(some 15), none, .call 81 [(false, .s 14)] [1000000], []⟩ <|
  .op ⟨(some 16), none, .fad 3 (.s 3), []⟩ <|
  .op ⟨none, none, .store 1 (.s 16) (.s 15) false, [14, 16]⟩ <|
  .nil
def r99_6 : XL := .op ⟨(some 17), none, .mv (.s 0), []⟩ <|
  .op ⟨(some 18), none, .nilc (.s 17), []⟩ <|
  .op ⟨(some 19), none, .fad 0 (.s 18), []⟩ <|
  .op ⟨(some 20), none, .load false 1 (.s 19), []⟩ <|
  .op ⟨(some 21), none, .fad 4 (.s 3), []⟩ <|
  .op ⟨none, none, .store 1 (.s 21) (.s 20) false, [0, 0, 17, 21]⟩ <|
  .nil
def r99_7 : XL := .op ⟨(some 22), none, .load true 5 (.s 3), []⟩ <|
  .op ⟨none, none, .store 5 (.s 2) (.s 22) false, [3, 22]⟩ <|
  .nil
def x99 : XCode := .seq (.ops r99_0) (.seq (.ops r99_1) (.seq (.ops r99_2) (.seq (.ops r99_3) (.seq (.ops r99_4) (.seq (.ops r99_5) (.seq (.ops r99_6) (.seq (.ops r99_7) (.ret))))))))
theorem m99 : mFun Try.prog Try.f99 x99 [.cell 2 5 true] 1 = true := by kernel_rfl
theorem k99 : Callable Try.prog 99 := callable_of (by kernel_rfl)

/-! loop.example/g00360/impl.ShowOp -/
def r100_0 : XL := .op ⟨(some 1), none, .box (.s 0) false, []⟩ <|
  .op ⟨(some 2), none, .asg (.c ⟨.one, [.str ⟨#[]⟩]⟩) false, [0, 0, 2, 2]⟩ <|
  .nil
def r100_1 : XL := .op ⟨(some 3), none, .load true 5 (.s 1), []⟩ <|
  .op ⟨(some 4), none, .call 112 [(false, .s 3)] [], []⟩ <|
  .op ⟨(some 5), none, .un .not (.s 4), [3, 4]⟩ <|
  .nil
def r100_2 : XL := .op ⟨(some 2), none, .asg (.c ⟨.one, [.str ⟨#[]⟩]⟩) false, [1, 1, 5, 5]⟩ <|
  .nil
def r100_3v : List XD := [⟨⟨(some 6), none, .fad 0 (.s 1), []⟩, [], []⟩,
  ⟨⟨(some 7), none, .load false 1 (.s 6), []⟩, [0], []⟩,
  ⟨⟨(some 8), none, .convI .u8 (.s 7), []⟩, [0, 1], []⟩,
  ⟨⟨(some 9), none, .bslice 1 [.s 8], []⟩, [0, 1, 2], []⟩,
  ⟨⟨(some 10), none, .b2s (.s 9), []⟩, [0, 1, 2, 3], []⟩,
  ⟨⟨(some 11), none, .fad 1 (.s 1), []⟩, [], [6, 7, 8, 9, 10]⟩,
  ⟨⟨(some 12), none, .load false 1 (.s 11), []⟩, [5], [6, 7, 8, 9, 10]⟩,
  ⟨⟨(some 13), none, .len true (.s 12), []⟩, [5, 6], [6, 7, 8, 9, 10]⟩,
  ⟨⟨(some 14), none, .call 57 [(false, .s 13)] [], []⟩, [5, 6, 7], [6, 7, 8, 9, 10]⟩,
  ⟨⟨(some 15), none, .bin .add (.s 10) (.s 14), []⟩, [0, 1, 2, 3, 4, 5, 6, 7, 8], []⟩,
  ⟨⟨(some 16), none, .fad 1 (.s 1), []⟩, [], [6, 7, 8, 9, 10, 11, 12, 13, 14, 15]⟩,
  ⟨⟨(some 17), none, .load false 1 (.s 16), []⟩, [10], [6, 7, 8, 9, 10, 11, 12, 13, 14, 15]⟩,
  ⟨⟨(some 18), none, .bin .add (.s 15) (.s 17), []⟩, [0, 1, 2, 3, 4, 5, 6, 7, 8, 9, 10, 11], []⟩,
  ⟨⟨(some 19), none, .fad 2 (.s 1), []⟩, [], [6, 7, 8, 9, 10, 11, 12, 13, 14, 15, 16, 17, 18]⟩,
  ⟨⟨(some 20), none, .load false 1 (.s 19), []⟩, [13], [6, 7, 8, 9, 10, 11, 12, 13, 14, 15, 16, 17, 18]⟩,
  ⟨⟨(some 21), none, .call 57 [(false, .s 20)] [], []⟩, [5, 6, 7, 8, 13, 14], [6, 7, 8, 9, 10, 15, 16, 17, 18]⟩,
  ⟨⟨(some 22), none, .bin .add (.s 18) (.s 21), []⟩, [0, 1, 2, 3, 4, 5, 6, 7, 8, 9, 10, 11, 12, 13, 14, 15], []⟩,
  ⟨⟨(some 23), none, .fad 3 (.s 1), []⟩, [], [6, 7, 8, 9, 10, 11, 12, 13, 14, 15, 16, 17, 18, 19, 20, 21, 22]⟩,
  ⟨⟨(some 24), none, .load false 1 (.s 23), []⟩, [17], [6, 7, 8, 9, 10, 11, 12, 13, 14, 15, 16, 17, 18, 19, 20, 21, 22]⟩,
  ⟨⟨(some 25), none, .call 57 [(false, .s 24)] [], []⟩, [5, 6, 7, 8, 13, 14, 15, 17, 18], [6, 7, 8, 9, 10, 15, 16, 17, 18, 22]⟩,
  ⟨⟨(some 26), none, .bin .add (.s 22) (.s 25), []⟩, [0, 1, 2, 3, 4, 5, 6, 7, 8, 9, 10, 11, 12, 13, 14, 15, 16, 17, 18, 19], []⟩,
  ⟨⟨(some 27), none, .fad 4 (.s 1), []⟩, [], [6, 7, 8, 9, 10, 11, 12, 13, 14, 15, 16, 17, 18, 19, 20, 21, 22, 23, 24, 25, 26]⟩,
  ⟨⟨(some 28), none, .load false 1 (.s 27), []⟩, [21], [6, 7, 8, 9, 10, 11, 12, 13, 14, 15, 16, 17, 18, 19, 20, 21, 22, 23, 24, 25, 26]⟩]
def r100_3t : List XD := [⟨⟨(some 29), none, .bin .add (.s 26) (.s 28), []⟩, [0, 1, 2, 3, 4, 5, 6, 7, 8, 9, 10, 11, 12, 13, 14, 15, 16, 17, 18, 19, 20, 21, 22], []⟩,
  ⟨⟨(some 2), none, .asg (.s 29) false, [1, 1, 5, 29]⟩, [0, 1, 2, 3, 4, 5, 6, 7, 8, 9, 10, 11, 12, 13, 14, 15, 16, 17, 18, 19, 20, 21, 22, 23], []⟩]
def x100 : XCode := .seq (.ops r100_0) (.seq (.seq (.ops r100_1) (.cond (.s 5) (.seq (.ops r100_2) (.ret)) (.skip))) (.seq (.any r100_3v r100_3t) (.ret)))
theorem m100 : mFun Try.prog Try.f100 x100 [.tmp 2] 1 = true := by kernel_rfl
theorem k100 : Callable Try.prog 100 := callable_of (by kernel_rfl)

/-! loop.example/g00360/impl.ShowAnswer -/
def r101_0 : XL := .op ⟨(some 1), none, .box (.s 0) false, []⟩ <|
  .op ⟨(some 2), none, .asg (.c ⟨.one, [.str ⟨#[]⟩]⟩) false, [0, 0, 2, 2]⟩ <|
  .nil
def r101_1 : XL := .op ⟨(some 3), none, .load true 4 (.s 1), []⟩ <|
  .op ⟨(some 4), none, .call 113 [(false, .s 3)] [], []⟩ <|
  .op ⟨(some 5), none, .un .not (.s 4), [3, 4]⟩ <|
  .nil
def r101_2 : XL := .op ⟨(some 2), none, .asg (.c ⟨.one, [.str ⟨#[]⟩]⟩) false, [1, 1, 5, 5]⟩ <|
  .nil
def r101_3v : List XD := [⟨⟨(some 6), none, .fad 0 (.s 1), []⟩, [], []⟩,
  ⟨⟨(some 7), none, .load false 1 (.s 6), []⟩, [0], []⟩,
  ⟨⟨(some 8), none, .call 57 [(false, .s 7)] [], []⟩, [0, 1], []⟩,
  ⟨⟨(some 9), none, .fad 1 (.s 1), []⟩, [], [6, 7, 8]⟩,
  ⟨⟨(some 10), none, .load false 1 (.s 9), []⟩, [3], [6, 7, 8]⟩,
  ⟨⟨(some 11), none, .call 57 [(false, .s 10)] [], []⟩, [0, 1, 2, 3, 4], []⟩,
  ⟨⟨(some 12), none, .bin .add (.s 8) (.s 11), []⟩, [0, 1, 2, 3, 4, 5], []⟩,
  ⟨⟨(some 13), none, .fad 2 (.s 1), []⟩, [], [6, 7, 8, 9, 10, 11, 12]⟩,
  ⟨⟨(some 14), none, .load false 1 (.s 13), []⟩, [7], [6, 7, 8, 9, 10, 11, 12]⟩,
  ⟨⟨(some 15), none, .call 57 [(false, .s 14)] [], []⟩, [0, 1, 2, 3, 4, 5, 7, 8], [12]⟩,
  ⟨⟨(some 16), none, .bin .add (.s 12) (.s 15), []⟩, [0, 1, 2, 3, 4, 5, 6, 7, 8, 9], []⟩,
  ⟨⟨(some 17), none, .fad 3 (.s 1), []⟩, [], [6, 7, 8, 9, 10, 11, 12, 13, 14, 15, 16]⟩,
  ⟨⟨(some 18), none, .load false 1 (.s 17), []⟩, [11], [6, 7, 8, 9, 10, 11, 12, 13, 14, 15, 16]⟩]
def r101_3t : List XD := [⟨⟨(some 19), none, .bin .add (.s 16) (.s 18), []⟩, [0, 1, 2, 3, 4, 5, 6, 7, 8, 9, 10, 11, 12], []⟩,
  ⟨⟨(some 2), none, .asg (.s 19) false, [1, 1, 5, 19]⟩, [0, 1, 2, 3, 4, 5, 6, 7, 8, 9, 10, 11, 12, 13], []⟩]
def x101 : XCode := .seq (.ops r101_0) (.seq (.seq (.ops r101_1) (.cond (.s 5) (.seq (.ops r101_2) (.ret)) (.skip))) (.seq (.any r101_3v r101_3t) (.ret)))
theorem m101 : mFun Try.prog Try.f101 x101 [.tmp 2] 1 = true := by kernel_rfl
theorem k101 : Callable Try.prog 101 := callable_of (by kernel_rfl)

/-! loop.example/g00360/laws.eqEntry -/
def r102_0 : XL := .op ⟨(some 2), none, .box (.s 0) false, []⟩ <|
  .op ⟨(some 3), none, .box (.s 1) false, []⟩ <|
  .op ⟨(some 4), none, .asg (.c ⟨.one, [.bool false]⟩) false, [0, 1, 4, 4]⟩ <|
  .nil
def r102_1 : XL := .op ⟨(some 5), none, .fad 0 (.s 2), []⟩ <|
  .op ⟨(some 6), none, .load false 1 (.s 5), []⟩ <|
  .op ⟨(some 7), none, .fad 0 (.s 3), []⟩ <|
  .op ⟨(some 8), none, .load false 1 (.s 7), []⟩ <|
  .op ⟨(some 9), none, .bin .neq (.s 6) (.s 8), [5, 8]⟩ <|
  .nil
def r102_2 : XL := .op ⟨(some 4), none, .asg (.c ⟨.one, [.bool false]⟩) false, [2, 3, 9, 9]⟩ <|
  .nil
def r102_3 : XL := .op ⟨(some 10), none, .fad 1 (.s 2), []⟩ <|
  .op ⟨(some 11), none, .load false 1 (.s 10), []⟩ <|
  .op ⟨(some 12), none, .fad 1 (.s 3), []⟩ <|
  .op ⟨(some 13), none, .load false 1 (.s 12), [2, 10, 12, 12]⟩ <|
  .op ⟨(some 14), none, .bin .neq (.s 11) (.s 13), [11, 13]⟩ <|
  .nil
def r102_4 : XL := .op ⟨(some 4), none, .asg (.c ⟨.one, [.bool false]⟩) false, [14, 14]⟩ <|
  .nil
def r102_5 : XL := .op ⟨(some 4), none, .asg (.c ⟨.one, [.bool true]⟩) false, [14, 14]⟩ <|
  .nil
def x102 : XCode := .seq (.ops r102_0) (.seq (.seq (.ops r102_1) (.cond (.s 9) (.seq (.ops r102_2) (.ret)) (.skip))) (.seq (.seq (.ops r102_3) (.cond (.s 14) (.seq (.ops r102_4) (.ret)) (.skip))) (.seq (.ops r102_5) (.ret))))
theorem m102 : mFun Try.prog Try.f102 x102 [.tmp 4] 2 = true := by kernel_rfl
theorem k102 : Callable Try.prog 102 := callable_of (by kernel_rfl)

/-! loop.example/g00360/spec.AnswerOk -/
def r105_0 : XL := .op ⟨(some 1), none, .box (.s 0) false, []⟩ <|
  .op ⟨(some 2), none, .asg (.c ⟨.one, [.bool false]⟩) false, [0, 0, 2, 2]⟩ <|
  .nil
def r105_1 : XL := .op ⟨(some 3), none, .fad 0 (.s 1), []⟩ <|
  .op ⟨(some 4), none, .load false 1 (.s 3), []⟩ <|
  .op ⟨(some 5), none, .call 36 [(false, .s 4), (false, .c ⟨.one, [.int .i64 0]⟩), (false, .c ⟨.one, [.int .i64 4]⟩)] [], []⟩ <|
  .op ⟨(some 6), none, .mv (.s 5), []⟩ <|
  .sc 6 true (.op ⟨(some 7), (some (6, true)), .fad 1 (.s 1), []⟩ <|
  .op ⟨(some 8), (some (6, true)), .load false 1 (.s 7), []⟩ <|
  .op ⟨(some 9), (some (6, true)), .call 36 [(false, .s 8), (false, .c ⟨.one, [.int .i64 0]⟩), (false, .c ⟨.one, [.int .i64 100000]⟩)] [], []⟩ <|
  .nil) [7, 8, 9] 10 none (.s 6) (.s 9) [] <|
  .op ⟨(some 11), none, .mv (.s 10), []⟩ <|
  .sc 11 true (.op ⟨(some 12), (some (11, true)), .fad 2 (.s 1), []⟩ <|
  .op ⟨(some 13), (some (11, true)), .load false 1 (.s 12), []⟩ <|
  .op ⟨(some 14), (some (11, true)), .call 36 [(false, .s 13), (false, .c ⟨.one, [.int .i64 0]⟩), (false, .c ⟨.one, [.int .i64 1099511627776]⟩)] [], []⟩ <|
  .nil) [12, 13, 14] 15 none (.s 11) (.s 14) [3, 11] <|
  .op ⟨(some 16), none, .mv (.s 15), []⟩ <|
  .sc 16 true (.op ⟨(some 17), (some (16, true)), .fad 3 (.s 1), []⟩ <|
  .op ⟨(some 18), (some (16, true)), .load false 1 (.s 17), []⟩ <|
  .op ⟨(some 19), (some (16, true)), .len true (.s 18), []⟩ <|
  .op ⟨(some 20), (some (16, true)), .bin .leq (.s 19) (.c ⟨.one, [.int .i64 900]⟩), []⟩ <|
  .nil) [17, 18, 19, 20] 21 none (.s 16) (.s 20) [] <|
  .op ⟨(some 2), none, .asg (.s 21) false, [1, 1, 15, 21]⟩ <|
  .nil
def x105 : XCode := .seq (.ops r105_0) (.seq (.ops r105_1) (.ret))
theorem m105 : mFun Try.prog Try.f105 x105 [.tmp 2] 1 = true := by kernel_rfl
theorem k105 : Callable Try.prog 105 := callable_of (by kernel_rfl)

end Go.Eng
