/-
  The texts of the functions that are walked, each held against the program; no condition.
-/
import Derived.Test.YtlpapgmbknkmaaaLitA
import Derived.Test.YtlpapgmbknkmaaaProg
set_option linter.unusedSimpArgs false
set_option linter.unusedVariables false
set_option maxRecDepth 100000
set_option maxHeartbeats 2000000
namespace Go.Eng
open Go Go.Proofs
/-! loop.example/g00360/impl.OpOk -/
def r112_0 : XL := .op ⟨(some 1), none, .box (.s 0) false, []⟩ <|
  .op ⟨(some 2), none, .asg (.c ⟨.one, [.bool false]⟩) false, [0, 0, 2, 2]⟩ <|
  .nil
def r112_1 : XL := .op ⟨(some 5), none, .load true 5 (.s 1), []⟩ <|
  .op ⟨(some 3), none, .alloc [.int .i64 0, .str ⟨#[]⟩, .int .i64 0, .int .i64 0, .str ⟨#[]⟩], []⟩ <|
  .op ⟨none, none, .store 5 (.s 3) (.s 5) false, [5, 5]⟩ <|
  .nil
def r112_2 : XL := .op ⟨(some 6), none, .fad 0 (.s 3), []⟩ <|
  .op ⟨none, none, .store 1 (.s 6) (.c ⟨.one, [.int .i64 0]⟩) false, [6, 6]⟩ <|
  .nil
def r112_3 : XL := .op ⟨(some 4), none, .asg (.c ⟨.one, [.bool false]⟩) false, []⟩ <|
  .nil
def r112_4 : XL := .op ⟨(some 7), none, .fad 0 (.s 1), []⟩ <|
  .op ⟨(some 8), none, .load false 1 (.s 7), [7, 7]⟩ <|
  .nil
def r112_5 : XL := .op ⟨(some 10), none, .bin .eql (.s 8) (.c ⟨.one, [.int .i64 1]⟩), []⟩ <|
  .op ⟨(some 9), none, .asg (.s 10) false, [10, 10]⟩ <|
  .nil
def r112_6 : XL := .op ⟨(some 11), none, .load true 5 (.s 1), []⟩ <|
  .op ⟨(some 12), none, .call 135 [(false, .s 11)] [], []⟩ <|
  .op ⟨(some 4), none, .asg (.s 12) false, [1, 1, 8, 12]⟩ <|
  .nil
def r112_7 : XL := .op ⟨(some 13), none, .fad 2 (.s 3), []⟩ <|
  .op ⟨none, none, .store 1 (.s 13) (.c ⟨.one, [.int .i64 0]⟩) false, []⟩ <|
  .op ⟨(some 14), none, .fad 3 (.s 3), []⟩ <|
  .op ⟨none, none, .store 1 (.s 14) (.c ⟨.one, [.int .i64 0]⟩) false, [13, 14]⟩ <|
  .nil
def r112_8 : XL := .op ⟨(some 16), none, .bin .eql (.s 8) (.c ⟨.one, [.int .i64 2]⟩), []⟩ <|
  .op ⟨(some 15), none, .asg (.s 16) false, [9, 9, 16, 16]⟩ <|
  .nil
def r112_9 : XL := .op ⟨(some 17), none, .bin .eql (.s 8) (.c ⟨.one, [.int .i64 6]⟩), []⟩ <|
  .op ⟨(some 15), none, .asg (.s 17) false, [17, 17]⟩ <|
  .nil
def r112_10 : XL := .op ⟨(some 18), none, .fad 2 (.s 1), []⟩ <|
  .op ⟨(some 19), none, .load false 1 (.s 18), []⟩ <|
  .op ⟨(some 20), none, .call 31 [(false, .s 19)] [], [1, 1, 4, 19]⟩ <|
  .op ⟨(some 4), none, .asg (.s 20) false, [20, 20]⟩ <|
  .nil
def r112_11 : XL := .op ⟨(some 21), none, .fad 2 (.s 3), []⟩ <|
  .op ⟨none, none, .store 1 (.s 21) (.c ⟨.one, [.int .i64 0]⟩) false, [21, 21]⟩ <|
  .nil
def r112_12 : XL := .op ⟨(some 23), none, .bin .eql (.s 8) (.c ⟨.one, [.int .i64 3]⟩), []⟩ <|
  .op ⟨(some 22), none, .asg (.s 23) false, [15, 15, 23, 23]⟩ <|
  .nil
def r112_13 : XL := .op ⟨(some 24), none, .fad 2 (.s 1), []⟩ <|
  .op ⟨(some 25), none, .load false 1 (.s 24), []⟩ <|
  .op ⟨(some 26), none, .call 32 [(false, .s 25), (false, .c ⟨.one, [.int .i64 0]⟩), (false, .c ⟨.one, [.int .i64 100000]⟩)] [], [1, 1, 4, 25]⟩ <|
  .op ⟨(some 4), none, .asg (.s 26) false, [26, 26]⟩ <|
  .nil
def r112_14 : XL := .op ⟨(some 27), none, .fad 2 (.s 3), []⟩ <|
  .op ⟨none, none, .store 1 (.s 27) (.c ⟨.one, [.int .i64 0]⟩) false, [27, 27]⟩ <|
  .nil
def r112_15 : XL := .op ⟨(some 29), none, .bin .eql (.s 8) (.c ⟨.one, [.int .i64 4]⟩), []⟩ <|
  .op ⟨(some 28), none, .asg (.s 29) false, [22, 22, 29, 29]⟩ <|
  .nil
def r112_16 : XL := .op ⟨(some 31), none, .fad 4 (.s 1), []⟩ <|
  .op ⟨(some 32), none, .load false 1 (.s 31), []⟩ <|
  .op ⟨(some 33), none, .call 29 [(false, .s 32)] [], []⟩ <|
  .op ⟨(some 30), none, .mv (.s 33), []⟩ <|
  .op ⟨(some 34), none, .ext 0 (.s 30), [4, 28, 31, 32, 34, 34]⟩ <|
  .op ⟨(some 35), none, .ext 1 (.s 30), []⟩ <|
  .op ⟨(some 4), none, .asg (.s 35) true, [30, 35]⟩ <|
  .nil
def r112_17 : XL := .op ⟨(some 36), none, .mv (.s 4), []⟩ <|
  .op ⟨(some 37), none, .mv (.s 36), []⟩ <|
  .sc 37 true (.op ⟨(some 38), (some (37, true)), .fad 1 (.s 1), []⟩ <|
  .op ⟨(some 39), (some (37, true)), .load false 1 (.s 38), []⟩ <|
  .op ⟨(some 40), (some (37, true)), .call 30 [(false, .s 39)] [], []⟩ <|
  .nil) [38, 39, 40] 41 none (.s 37) (.s 40) [] <|
  .op ⟨(some 4), none, .asg (.s 41) false, [1, 1, 36, 41]⟩ <|
  .nil
def r112_18 : XL := .op ⟨(some 42), none, .fad 1 (.s 3), []⟩ <|
  .op ⟨none, none, .store 1 (.s 42) (.c ⟨.one, [.str ⟨#[]⟩]⟩) false, []⟩ <|
  .op ⟨(some 43), none, .fad 4 (.s 3), []⟩ <|
  .op ⟨none, none, .store 1 (.s 43) (.c ⟨.one, [.str ⟨#[]⟩]⟩) false, [42, 43]⟩ <|
  .nil
def r112_19 : XL := .op ⟨(some 45), none, .bin .eql (.s 8) (.c ⟨.one, [.int .i64 5]⟩), []⟩ <|
  .op ⟨(some 44), none, .asg (.s 45) false, [28, 28, 45, 45]⟩ <|
  .nil
def r112_20 : XL := .op ⟨(some 46), none, .fad 1 (.s 1), []⟩ <|
  .op ⟨(some 47), none, .load false 1 (.s 46), []⟩ <|
  .op ⟨(some 48), none, .call 30 [(false, .s 47)] [], []⟩ <|
  .op ⟨(some 49), none, .mv (.s 48), [4, 48]⟩ <|
  .sc 49 true (.op ⟨(some 50), (some (49, true)), .load true 5 (.s 1), []⟩ <|
  .op ⟨(some 51), (some (49, true)), .call 135 [(false, .s 50)] [], []⟩ <|
  .nil) [50, 51] 52 none (.s 49) (.s 51) [] <|
  .op ⟨(some 4), none, .asg (.s 52) false, [1, 1, 49, 52]⟩ <|
  .nil
def r112_21 : XL := .op ⟨(some 53), none, .fad 1 (.s 3), []⟩ <|
  .op ⟨none, none, .store 1 (.s 53) (.c ⟨.one, [.str ⟨#[]⟩]⟩) false, []⟩ <|
  .op ⟨(some 54), none, .fad 2 (.s 3), []⟩ <|
  .op ⟨none, none, .store 1 (.s 54) (.c ⟨.one, [.int .i64 0]⟩) false, []⟩ <|
  .op ⟨(some 55), none, .fad 3 (.s 3), []⟩ <|
  .op ⟨none, none, .store 1 (.s 55) (.c ⟨.one, [.int .i64 0]⟩) false, [53, 55]⟩ <|
  .nil
def r112_22 : XL := .op ⟨(some 57), none, .bin .eql (.s 8) (.c ⟨.one, [.int .i64 7]⟩), []⟩ <|
  .op ⟨(some 56), none, .asg (.s 57) false, [1, 1, 8, 44, 57, 57]⟩ <|
  .nil
def r112_23 : XL := .op ⟨(some 4), none, .asg (.c ⟨.one, [.bool true]⟩) false, [56, 56]⟩ <|
  .nil
def r112_24 : XL := .op ⟨(some 58), none, .mv (.s 4), []⟩ <|
  .op ⟨(some 59), none, .mv (.s 58), []⟩ <|
  .sc 59 true (.op ⟨(some 60), (some (59, true)), .load true 5 (.s 3), []⟩ <|
  .op ⟨(some 61), (some (59, true)), .build [.int .i64 0, .str ⟨#[]⟩, .int .i64 0, .int .i64 0, .str ⟨#[]⟩] [], []⟩ <|
  .op ⟨(some 62), (some (59, true)), .eqs false [0, 2, 0, 0, 2] (.s 60) (.s 61), []⟩ <|
  .nil) [60, 61, 62] 63 none (.s 59) (.s 62) [] <|
  .op ⟨(some 2), none, .asg (.s 63) false, [3, 63]⟩ <|
  .nil
def x112 : XCode := .seq (.ops r112_0) (.seq (.ops r112_1) (.seq (.ops r112_2) (.seq (.ops r112_3) (.seq (.seq (.ops r112_4) (.block 0 (.seq (.ops r112_5) (.cond (.s 9) (.seq (.ops r112_6) (.ops r112_7)) (.seq (.seq (.ops r112_8) (.cond (.s 15) (.skip) (.ops r112_9))) (.cond (.s 15) (.seq (.ops r112_10) (.ops r112_11)) (.seq (.ops r112_12) (.cond (.s 22) (.seq (.ops r112_13) (.ops r112_14)) (.seq (.ops r112_15) (.cond (.s 28) (.seq (.ops r112_16) (.seq (.ops r112_17) (.ops r112_18))) (.seq (.ops r112_19) (.cond (.s 44) (.seq (.ops r112_20) (.ops r112_21)) (.seq (.ops r112_22) (.cond (.s 56) (.ops r112_23) (.skip))))))))))))))) (.seq (.ops r112_24) (.ret))))))
theorem m112 : mFun Try.prog Try.f112 x112 [.tmp 2] 1 = true := by kernel_rfl
theorem k112 : Callable Try.prog 112 := callable_of (by kernel_rfl)

/-! loop.example/g00360/impl.AnswerOk -/
def r113_0 : XL := .op ⟨(some 1), none, .box (.s 0) false, []⟩ <|
  .op ⟨(some 2), none, .asg (.c ⟨.one, [.bool false]⟩) false, [0, 0, 2, 2]⟩ <|
  .nil
def r113_1 : XL := .op ⟨(some 3), none, .fad 0 (.s 1), []⟩ <|
  .op ⟨(some 4), none, .load false 1 (.s 3), []⟩ <|
  .op ⟨(some 5), none, .call 32 [(false, .s 4), (false, .c ⟨.one, [.int .i64 0]⟩), (false, .c ⟨.one, [.int .i64 4]⟩)] [], []⟩ <|
  .op ⟨(some 6), none, .mv (.s 5), []⟩ <|
  .sc 6 true (.op ⟨(some 7), (some (6, true)), .fad 1 (.s 1), []⟩ <|
  .op ⟨(some 8), (some (6, true)), .load false 1 (.s 7), []⟩ <|
  .op ⟨(some 9), (some (6, true)), .call 32 [(false, .s 8), (false, .c ⟨.one, [.int .i64 0]⟩), (false, .c ⟨.one, [.int .i64 100000]⟩)] [], []⟩ <|
  .nil) [7, 8, 9] 10 none (.s 6) (.s 9) [] <|
  .op ⟨(some 11), none, .mv (.s 10), []⟩ <|
  .sc 11 true (.op ⟨(some 12), (some (11, true)), .fad 2 (.s 1), []⟩ <|
  .op ⟨(some 13), (some (11, true)), .load false 1 (.s 12), []⟩ <|
  .op ⟨(some 14), (some (11, true)), .call 31 [(false, .s 13)] [], []⟩ <|
  .nil) [12, 13, 14] 15 none (.s 11) (.s 14) [3, 11] <|
  .op ⟨(some 16), none, .mv (.s 15), []⟩ <|
  .sc 16 true (.op ⟨(some 17), (some (16, true)), .fad 3 (.s 1), []⟩ <|
  .op ⟨(some 18), (some (16, true)), .load false 1 (.s 17), []⟩ <|
  .op ⟨(some 19), (some (16, true)), .len true (.s 18), []⟩ <|
  .op ⟨(some 20), (some (16, true)), .bin .leq (.s 19) (.c ⟨.one, [.int .i64 900]⟩), []⟩ <|
  .nil) [17, 18, 19, 20] 21 none (.s 16) (.s 20) [] <|
  .op ⟨(some 2), none, .asg (.s 21) false, [1, 1, 15, 21]⟩ <|
  .nil
def x113 : XCode := .seq (.ops r113_0) (.seq (.ops r113_1) (.ret))
theorem m113 : mFun Try.prog Try.f113 x113 [.tmp 2] 1 = true := by kernel_rfl
theorem k113 : Callable Try.prog 113 := callable_of (by kernel_rfl)

/-! loop.example/g00360/spec.ReadVar -/
def r116_0 : XL := .op ⟨(some 2), none, .asg (.c ⟨.one, [.int .i64 0]⟩) false, []⟩ <|
  .op ⟨(some 3), none, .asg (.c ⟨.one, [.int .i64 0]⟩) false, [2, 3]⟩ <|
  .nil
def r116_1 : XL := .op ⟨(some 4), none, .asg (.c ⟨.one, [.int .i64 1]⟩) false, []⟩ <|
  .nil
def r116_2 : XL := .op ⟨(some 7), none, .mv (.s 4), []⟩ <|
  .op ⟨(some 8), none, .bin .leq (.s 7) (.c ⟨.one, [.int .i64 7]⟩), []⟩ <|
  .op ⟨(some 9), none, .mv (.s 8), []⟩ <|
  .sc 9 true (.op ⟨(some 10), (some (9, true)), .mv (.s 4), []⟩ <|
  .op ⟨(some 11), (some (9, true)), .mv (.s 0), []⟩ <|
  .op ⟨(some 12), (some (9, true)), .len true (.s 11), []⟩ <|
  .op ⟨(some 13), (some (9, true)), .bin .leq (.s 10) (.s 12), []⟩ <|
  .nil) [10, 11, 12, 13] 14 none (.s 9) (.s 13) [7, 9] <|
  .nil
def r116_4 : XL := .op ⟨(some 5), none, .asg (.c ⟨.one, [.int .i64 0]⟩) false, [14, 14]⟩ <|
  .nil
def r116_5 : XL := .op ⟨(some 17), none, .mv (.s 4), []⟩ <|
  .op ⟨(some 18), none, .bin .sub (.s 17) (.c ⟨.one, [.int .i64 1]⟩), []⟩ <|
  .op ⟨(some 6), none, .asg (.s 18) false, [17, 18]⟩ <|
  .nil
def r116_6 : XL := .op ⟨(some 19), none, .mv (.s 6), []⟩ <|
  .op ⟨(some 20), none, .bin .geq (.s 19) (.c ⟨.one, [.int .i64 0]⟩), [19, 19]⟩ <|
  .nil
def r116_8 : XL := .op ⟨(some 23), none, .mv (.s 5), []⟩ <|
  .op ⟨(some 24), none, .bin .mul (.s 23) (.c ⟨.one, [.int .i64 128]⟩), []⟩ <|
  .op ⟨(some 25), none, .mv (.s 0), []⟩ <|
  .op ⟨(some 26), none, .mv (.s 6), []⟩ <|
  .op ⟨(some 27), none, .idx (.s 25) (.s 26), []⟩ <|
  .op ⟨(some 28), none, .convI .i64 (.s 27), [5, 5, 20, 23, 25, 27]⟩ <|
  .op ⟨(some 29), none, .bin .rem (.s 28) (.c ⟨.one, [.int .i64 128]⟩), []⟩ <|
  .op ⟨(some 30), none, .bin .add (.s 24) (.s 29), []⟩ <|
  .op ⟨(some 5), none, .asg (.s 30) false, [24, 30]⟩ <|
  .nil
def r116_7 : XL := .op ⟨(some 21), none, .mv (.s 6), []⟩ <|
  .op ⟨(some 22), none, .bin .sub (.s 21) (.c ⟨.one, [.int .i64 1]⟩), []⟩ <|
  .op ⟨(some 6), none, .asg (.s 22) false, [21, 22]⟩ <|
  .nil
def l116_0 : XCode := .keep [0, 4, 5, 6] [] (.seq (.seq (.ops r116_6) (.cond (.s 20) (.skip) (.exit 2))) (.seq (.block 3 (.ops r116_8)) (.ops r116_7)))
def r116_9v : List XD := [⟨⟨(some 31), none, .mv (.s 5), []⟩, [], []⟩,
  ⟨⟨(some 32), none, .call 53 [(false, .s 31)] [], []⟩, [0], []⟩,
  ⟨⟨(some 33), none, .mv (.s 0), []⟩, [], [31, 32]⟩,
  ⟨⟨(some 34), none, .mv (.s 4), []⟩, [], [31, 32, 33]⟩,
  ⟨⟨(some 35), none, .slcS (.s 33) none (some (.s 34)), []⟩, [2, 3], [31, 32]⟩]
def r116_9t : List XD := [⟨⟨(some 36), none, .bin .eql (.s 32) (.s 35), [6, 35]⟩, [0, 1, 2, 3, 4], []⟩]
def r116_10 : XL := .op ⟨(some 37), none, .mv (.s 5), []⟩ <|
  .op ⟨(some 38), none, .mv (.s 4), []⟩ <|
  .op ⟨(some 2), none, .asg (.s 37) true, []⟩ <|
  .op ⟨(some 3), none, .asg (.s 38) true, [0, 0, 4, 38]⟩ <|
  .nil
def r116_3 : XL := .op ⟨(some 15), none, .mv (.s 4), []⟩ <|
  .op ⟨(some 16), none, .bin .add (.s 15) (.c ⟨.one, [.int .i64 1]⟩), [2, 15, 36, 36]⟩ <|
  .op ⟨(some 4), none, .asg (.s 16) false, [16, 16]⟩ <|
  .nil
def l116_1 : XCode := .keep [0, 4] [] (.seq (.seq (.ops r116_2) (.cond (.s 14) (.skip) (.exit 0))) (.seq (.block 1 (.seq (.ops r116_4) (.seq (.seq (.ops r116_5) (.block 2 (.loop l116_0))) (.seq (.any r116_9v r116_9t) (.cond (.s 36) (.seq (.ops r116_10) (.ret)) (.skip)))))) (.ops r116_3)))
def r116_11 : XL := .op ⟨(some 2), none, .asg (.c ⟨.one, [.int .i64 0]⟩) false, []⟩ <|
  .op ⟨(some 3), none, .asg (.c ⟨.one, [.int .i64 0]⟩) false, [0, 0, 4, 4]⟩ <|
  .nil
def x116 : XCode := .seq (.ops r116_0) (.seq (.seq (.ops r116_1) (.block 0 (.loop l116_1))) (.seq (.ops r116_11) (.ret)))
theorem m116 : mFun Try.prog Try.f116 x116 [.tmp 2, .tmp 3] 1 = true := by kernel_rfl
theorem k116 : Callable Try.prog 116 := callable_of (by kernel_rfl)

/-! (*loop.example/g00360/impl.reader).bytes -/
def r117_0 : XL := .op ⟨(some 4), none, .asg (.c ⟨.one, [.str ⟨#[]⟩]⟩) false, [4, 4]⟩ <|
  .nil
def r117_1 : XL := .op ⟨(some 6), none, .mv (.s 0), []⟩ <|
  .op ⟨(some 7), none, .nilc (.s 6), []⟩ <|
  .op ⟨(some 8), none, .fad 1 (.s 7), []⟩ <|
  .op ⟨(some 9), none, .load false 1 (.s 8), []⟩ <|
  .op ⟨(some 10), none, .un .not (.s 9), []⟩ <|
  .op ⟨(some 11), none, .mv (.s 10), []⟩ <|
  .sc 11 false (.op ⟨(some 12), (some (11, false)), .mv (.s 1), []⟩ <|
  .op ⟨(some 13), (some (11, false)), .mv (.s 0), []⟩ <|
  .op ⟨(some 14), (some (11, false)), .nilc (.s 13), []⟩ <|
  .op ⟨(some 15), (some (11, false)), .fad 0 (.s 14), []⟩ <|
  .op ⟨(some 16), (some (11, false)), .load false 1 (.s 15), []⟩ <|
  .op ⟨(some 17), (some (11, false)), .len true (.s 16), []⟩ <|
  .op ⟨(some 18), (some (11, false)), .bin .gtr (.s 12) (.s 17), []⟩ <|
  .nil) [12, 13, 14, 15, 16, 17, 18] 19 none (.s 11) (.s 18) [6, 11] <|
  .nil
def r117_2 : XL := .op ⟨(some 20), none, .mv (.s 0), []⟩ <|
  .op ⟨(some 21), none, .nilc (.s 20), []⟩ <|
  .op ⟨(some 22), none, .fad 1 (.s 21), []⟩ <|
  .op ⟨none, none, .store 1 (.s 22) (.c ⟨.one, [.bool false]⟩) false, [0, 22]⟩ <|
  .nil
def r117_3 : XL := .op ⟨(some 4), none, .asg (.c ⟨.one, [.str ⟨#[]⟩]⟩) false, []⟩ <|
  .nil
def r117_4 : XL := .op ⟨(some 23), none, .mv (.s 0), []⟩ <|
  .op ⟨(some 24), none, .nilc (.s 23), []⟩ <|
  .op ⟨(some 25), none, .fad 0 (.s 24), []⟩ <|
  .op ⟨(some 26), none, .load false 1 (.s 25), []⟩ <|
  .op ⟨(some 27), none, .mv (.s 1), []⟩ <|
  .op ⟨(some 28), none, .slcS (.s 26) none (some (.s 27)), [4, 27]⟩ <|
  .op ⟨(some 5), none, .asg (.s 28) false, [28, 28]⟩ <|
  .nil
def r117_5 : XL := .op ⟨(some 29), none, .mv (.s 0), []⟩ <|
  .op ⟨(some 30), none, .mv (.s 0), []⟩ <|
  .op ⟨(some 31), none, .nilc (.s 30), []⟩ <|
  .op ⟨(some 32), none, .fad 0 (.s 31), []⟩ <|
  .op ⟨(some 33), none, .load false 1 (.s 32), []⟩ <|
  .op ⟨(some 34), none, .mv (.s 1), []⟩ <|
  .op ⟨(some 35), none, .slcS (.s 33) (some (.s 34)) none, [1, 1, 30, 34]⟩ <|
  .op ⟨(some 36), none, .nilc (.s 29), []⟩ <|
  .op ⟨(some 37), none, .fad 0 (.s 36), []⟩ <|
  .op ⟨none, none, .store 1 (.s 37) (.s 35) false, [0, 0, 29, 37]⟩ <|
  .nil
def r117_6 : XL := .op ⟨(some 38), none, .mv (.s 5), []⟩ <|
  .op ⟨(some 4), none, .asg (.s 38) true, [5, 38]⟩ <|
  .nil
def x117 : XCode := .seq (.ops r117_0) (.seq (.seq (.ops r117_1) (.cond (.s 19) (.seq (.ops r117_2) (.seq (.ops r117_3) (.ret))) (.skip))) (.seq (.ops r117_4) (.seq (.ops r117_5) (.seq (.ops r117_6) (.ret)))))
theorem m117 : mFun Try.prog Try.f117 x117 [.tmp 4] 2 = true := by kernel_rfl
theorem k117 : Callable Try.prog 117 := callable_of (by kernel_rfl)

/-! loop.example/g00360/laws.markText -/
def r118_0 : XL := .op ⟨(some 2), none, .asg (.c ⟨.one, [.str ⟨#[]⟩]⟩) false, [2, 2]⟩ <|
  .nil
def r118_1 : XL := .op ⟨(some 4), none, .mv (.s 0), []⟩ <|
  .op ⟨(some 5), none, .bin .leq (.s 4) (.c ⟨.one, [.int .i64 0]⟩), [4, 4]⟩ <|
  .nil
def r118_2 : XL := .op ⟨(some 2), none, .asg (.c ⟨.one, [.str ⟨#[109, 48]⟩]⟩) false, [0, 0, 5, 5]⟩ <|
  .nil
def r118_3 : XL := .op ⟨(some 3), none, .asg (.c ⟨.one, [.str ⟨#[]⟩]⟩) false, [2, 2, 5, 5]⟩ <|
  .nil
def r118_4 : XL := .op ⟨(some 6), none, .mv (.s 0), []⟩ <|
  .op ⟨(some 7), none, .bin .gtr (.s 6) (.c ⟨.one, [.int .i64 0]⟩), [6, 6]⟩ <|
  .nil
def r118_5 : XL := .op ⟨(some 8), none, .mv (.s 0), []⟩ <|
  .op ⟨(some 9), none, .bin .rem (.s 8) (.c ⟨.one, [.int .i64 10]⟩), []⟩ <|
  .op ⟨(some 10), none, .bin .add (.c ⟨.one, [.int .i64 48]⟩) (.s 9), []⟩ <|
  .op ⟨(some 11), none, .convI .u8 (.s 10), []⟩ <|
  .op ⟨(some 12), none, .bslice 1 [.s 11], []⟩ <|
  .op ⟨(some 13), none, .b2s (.s 12), [7, 12]⟩ <|
  .op ⟨(some 14), none, .mv (.s 3), []⟩ <|
  .op ⟨(some 15), none, .bin .add (.s 13) (.s 14), []⟩ <|
  .op ⟨(some 3), none, .asg (.s 15) false, [13, 15]⟩ <|
  .nil
def r118_6 : XL := .op ⟨(some 16), none, .mv (.s 0), []⟩ <|
  .op ⟨(some 17), none, .bin .quo (.s 16) (.c ⟨.one, [.int .i64 10]⟩), []⟩ <|
  .op ⟨(some 0), none, .asg (.s 17) false, [16, 17]⟩ <|
  .nil
def l118_0 : XCode := .keep [0, 3] [] (.seq (.seq (.ops r118_4) (.cond (.s 7) (.skip) (.exit 0))) (.block 1 (.seq (.ops r118_5) (.ops r118_6))))
def r118_7 : XL := .op ⟨(some 18), none, .mv (.s 3), []⟩ <|
  .op ⟨(some 19), none, .bin .add (.c ⟨.one, [.str ⟨#[109]⟩]⟩) (.s 18), []⟩ <|
  .op ⟨(some 2), none, .asg (.s 19) false, [0, 0, 3, 19]⟩ <|
  .nil
def x118 : XCode := .seq (.ops r118_0) (.seq (.seq (.ops r118_1) (.cond (.s 5) (.seq (.ops r118_2) (.ret)) (.skip))) (.seq (.ops r118_3) (.seq (.block 0 (.loop l118_0)) (.seq (.ops r118_7) (.ret)))))
theorem m118 : mFun Try.prog Try.f118 x118 [.tmp 2] 1 = true := by kernel_rfl
theorem k118 : Callable Try.prog 118 := callable_of (by kernel_rfl)

/-! loop.example/g00360/spec.Unframe -/
def r119_0 : XL := .op ⟨(some 2), none, .asg (.c ⟨.one, [.str ⟨#[]⟩]⟩) false, []⟩ <|
  .op ⟨(some 3), none, .asg (.c ⟨.one, [.int .i64 0]⟩) false, []⟩ <|
  .op ⟨(some 4), none, .asg (.c ⟨.one, [.int .i64 0]⟩) false, [2, 4]⟩ <|
  .nil
def r119_1 : XL := .op ⟨(some 9), none, .mv (.s 0), []⟩ <|
  .op ⟨(some 10), none, .call 138 [(false, .s 9), (false, .c ⟨.one, [.int .i64 4]⟩)] [], []⟩ <|
  .op ⟨(some 8), none, .mv (.s 10), []⟩ <|
  .op ⟨(some 11), none, .ext 0 (.s 8), []⟩ <|
  .op ⟨(some 12), none, .ext 1 (.s 8), []⟩ <|
  .op ⟨(some 5), none, .asg (.s 11) true, []⟩ <|
  .op ⟨(some 6), none, .asg (.s 12) true, [8, 12]⟩ <|
  .nil
def r119_2 : XL := .op ⟨(some 13), none, .mv (.s 6), []⟩ <|
  .op ⟨(some 14), none, .un .not (.s 13), [6, 13]⟩ <|
  .nil
def r119_3 : XL := .op ⟨(some 2), none, .asg (.c ⟨.one, [.str ⟨#[]⟩]⟩) false, []⟩ <|
  .op ⟨(some 3), none, .asg (.c ⟨.one, [.int .i64 0]⟩) false, []⟩ <|
  .op ⟨(some 4), none, .asg (.c ⟨.one, [.int .i64 1]⟩) false, [0, 0, 5, 14]⟩ <|
  .nil
def r119_4 : XL := .op ⟨(some 15), none, .mv (.s 5), []⟩ <|
  .op ⟨(some 16), none, .bin .eql (.s 15) (.c ⟨.one, [.int .i64 0]⟩), []⟩ <|
  .op ⟨(some 17), none, .mv (.s 16), [2, 4, 14, 16]⟩ <|
  .sc 17 false (.op ⟨(some 18), (some (17, false)), .mv (.s 5), []⟩ <|
  .op ⟨(some 19), (some (17, false)), .bin .gtr (.s 18) (.c ⟨.one, [.int .i64 2000]⟩), []⟩ <|
  .nil) [18, 19] 20 none (.s 17) (.s 19) [17, 17] <|
  .nil
def r119_5 : XL := .op ⟨(some 2), none, .asg (.c ⟨.one, [.str ⟨#[]⟩]⟩) false, []⟩ <|
  .op ⟨(some 3), none, .asg (.c ⟨.one, [.int .i64 0]⟩) false, []⟩ <|
  .op ⟨(some 4), none, .asg (.c ⟨.one, [.int .i64 2]⟩) false, [0, 0, 5, 20]⟩ <|
  .nil
def r119_6 : XL := .op ⟨(some 21), none, .mv (.s 0), []⟩ <|
  .op ⟨(some 22), none, .len true (.s 21), []⟩ <|
  .op ⟨(some 23), none, .mv (.s 5), []⟩ <|
  .op ⟨(some 24), none, .bin .add (.c ⟨.one, [.int .i64 8]⟩) (.s 23), [2, 4, 20, 21, 23, 23]⟩ <|
  .op ⟨(some 25), none, .bin .lss (.s 22) (.s 24), [22, 24]⟩ <|
  .nil
def r119_7 : XL := .op ⟨(some 2), none, .asg (.c ⟨.one, [.str ⟨#[]⟩]⟩) false, []⟩ <|
  .op ⟨(some 3), none, .asg (.c ⟨.one, [.int .i64 0]⟩) false, []⟩ <|
  .op ⟨(some 4), none, .asg (.c ⟨.one, [.int .i64 1]⟩) false, [0, 0, 5, 25]⟩ <|
  .nil
def r119_8 : XL := .op ⟨(some 26), none, .mv (.s 0), []⟩ <|
  .op ⟨(some 27), none, .mv (.s 5), []⟩ <|
  .op ⟨(some 28), none, .bin .add (.c ⟨.one, [.int .i64 8]⟩) (.s 27), []⟩ <|
  .op ⟨(some 29), none, .slcS (.s 26) (some (.c ⟨.one, [.int .i64 8]⟩)) (some (.s 28)), [2, 4, 25, 28]⟩ <|
  .op ⟨(some 7), none, .asg (.s 29) false, [29, 29]⟩ <|
  .nil
def r119_9v : List XD := [⟨⟨(some 30), none, .mv (.s 7), []⟩, [], []⟩,
  ⟨⟨(some 31), none, .call 139 [(false, .s 30)] [], []⟩, [0], []⟩,
  ⟨⟨(some 32), none, .mv (.s 0), []⟩, [], [30, 31]⟩,
  ⟨⟨(some 33), none, .mv (.s 5), []⟩, [], [30, 31, 32]⟩,
  ⟨⟨(some 34), none, .bin .add (.c ⟨.one, [.int .i64 8]⟩) (.s 33), []⟩, [3], [30, 31, 32]⟩,
  ⟨⟨(some 35), none, .slcS (.s 32) none (some (.s 34)), []⟩, [2, 3, 4], [30, 31]⟩]
def r119_9t : List XD := [⟨⟨(some 36), none, .bin .neq (.s 31) (.s 35), [0, 0, 30, 35]⟩, [0, 1, 2, 3, 4, 5], []⟩]
def r119_10 : XL := .op ⟨(some 2), none, .asg (.c ⟨.one, [.str ⟨#[]⟩]⟩) false, []⟩ <|
  .op ⟨(some 3), none, .asg (.c ⟨.one, [.int .i64 0]⟩) false, []⟩ <|
  .op ⟨(some 4), none, .asg (.c ⟨.one, [.int .i64 2]⟩) false, [5, 36]⟩ <|
  .nil
def r119_11 : XL := .op ⟨(some 37), none, .mv (.s 7), []⟩ <|
  .op ⟨(some 38), none, .mv (.s 5), [2, 36]⟩ <|
  .op ⟨(some 39), none, .bin .add (.c ⟨.one, [.int .i64 8]⟩) (.s 38), []⟩ <|
  .op ⟨(some 2), none, .asg (.s 37) true, []⟩ <|
  .op ⟨(some 3), none, .asg (.s 39) false, []⟩ <|
  .op ⟨(some 4), none, .asg (.c ⟨.one, [.int .i64 0]⟩) false, [37, 39]⟩ <|
  .nil
def x119 : XCode := .seq (.ops r119_0) (.seq (.ops r119_1) (.seq (.seq (.ops r119_2) (.cond (.s 14) (.seq (.ops r119_3) (.ret)) (.skip))) (.seq (.seq (.ops r119_4) (.cond (.s 20) (.seq (.ops r119_5) (.ret)) (.skip))) (.seq (.seq (.ops r119_6) (.cond (.s 25) (.seq (.ops r119_7) (.ret)) (.skip))) (.seq (.ops r119_8) (.seq (.seq (.any r119_9v r119_9t) (.cond (.s 36) (.seq (.ops r119_10) (.ret)) (.skip))) (.seq (.ops r119_11) (.ret))))))))
theorem m119 : mFun Try.prog Try.f119 x119 [.tmp 2, .tmp 3, .tmp 4] 1 = true := by kernel_rfl
theorem k119 : Callable Try.prog 119 := callable_of (by kernel_rfl)

/-! loop.example/g00360/spec.ReadTimes -/
def r120_0 : XL := .op ⟨(some 4), none, .asg (.c ⟨.one, [.own 1 []]⟩) false, []⟩ <|
  .op ⟨(some 5), none, .asg (.c ⟨.one, [.int .i64 0]⟩) false, [4, 5]⟩ <|
  .nil
def r120_1 : XL := .op ⟨(some 13), none, .bslice 1 [], []⟩ <|
  .op ⟨(some 6), none, .asg (.s 13) false, [13, 13]⟩ <|
  .nil
def r120_2 : XL := .op ⟨(some 14), none, .mv (.s 1), []⟩ <|
  .op ⟨(some 15), none, .call 36 [(false, .s 14), (false, .c ⟨.one, [.int .i64 1]⟩), (false, .c ⟨.one, [.int .i64 60]⟩)] [], []⟩ <|
  .op ⟨(some 16), none, .un .not (.s 15), [14, 15]⟩ <|
  .nil
def r120_3 : XL := .op ⟨(some 17), none, .mv (.s 6), []⟩ <|
  .op ⟨(some 4), none, .asg (.s 17) true, []⟩ <|
  .op ⟨(some 5), none, .asg (.c ⟨.one, [.int .i64 0]⟩) false, [0, 1, 6, 17]⟩ <|
  .nil
def r120_4 : XL := .op ⟨(some 19), none, .mv (.s 0), []⟩ <|
  .op ⟨(some 20), none, .mv (.s 1), []⟩ <|
  .op ⟨(some 21), none, .call 140 [(false, .s 19), (false, .s 20)] [], []⟩ <|
  .op ⟨(some 18), none, .mv (.s 21), []⟩ <|
  .op ⟨(some 22), none, .ext 0 (.s 18), []⟩ <|
  .op ⟨(some 23), none, .ext 1 (.s 18), []⟩ <|
  .op ⟨(some 7), none, .asg (.s 22) true, [4, 5, 16, 22]⟩ <|
  .op ⟨(some 8), none, .asg (.s 23) true, [23, 23]⟩ <|
  .nil
def r120_5 : XL := .op ⟨(some 24), none, .mv (.s 8), []⟩ <|
  .op ⟨(some 25), none, .bin .lss (.s 24) (.c ⟨.one, [.int .i64 0]⟩), [24, 24]⟩ <|
  .nil
def r120_6 : XL := .op ⟨(some 26), none, .mv (.s 6), []⟩ <|
  .op ⟨(some 4), none, .asg (.s 26) true, [0, 1, 6, 26]⟩ <|
  .op ⟨(some 5), none, .asg (.c ⟨.one, [.int .i64 0]⟩) false, []⟩ <|
  .nil
def r120_7 : XL := .op ⟨(some 27), none, .mv (.s 7), []⟩ <|
  .op ⟨(some 28), none, .iad 1 (.s 27) (.c ⟨.one, [.int .i64 0]⟩), []⟩ <|
  .op ⟨(some 29), none, .load false 1 (.s 28), []⟩ <|
  .op ⟨(some 30), none, .bslice 1 [.s 29], [4, 5, 25, 29]⟩ <|
  .op ⟨(some 9), none, .asg (.s 30) false, [30, 30]⟩ <|
  .nil
def r120_8 : XL := .op ⟨(some 10), none, .asg (.c ⟨.one, [.int .i64 1]⟩) false, []⟩ <|
  .nil
def r120_9 : XL := .op ⟨(some 31), none, .mv (.s 10), []⟩ <|
  .op ⟨(some 32), none, .mv (.s 1), []⟩ <|
  .op ⟨(some 33), none, .bin .lss (.s 31) (.s 32), [31, 32]⟩ <|
  .nil
def r120_11 : XL := .op ⟨(some 36), none, .mv (.s 7), []⟩ <|
  .op ⟨(some 37), none, .mv (.s 10), []⟩ <|
  .op ⟨(some 38), none, .iad 1 (.s 36) (.s 37), []⟩ <|
  .op ⟨(some 39), none, .load false 1 (.s 38), []⟩ <|
  .op ⟨(some 11), none, .asg (.s 39) false, [33, 39]⟩ <|
  .nil
def r120_12 : XL := .op ⟨(some 40), none, .mv (.s 10), []⟩ <|
  .op ⟨(some 41), none, .bin .gtr (.s 40) (.c ⟨.one, [.int .i64 1]⟩), [40, 40]⟩ <|
  .nil
def r120_13v : List XD := [⟨⟨(some 42), none, .mv (.s 9), []⟩, [], []⟩,
  ⟨⟨(some 43), none, .mv (.s 10), []⟩, [], [42]⟩,
  ⟨⟨(some 44), none, .bin .sub (.s 43) (.c ⟨.one, [.int .i64 1]⟩), []⟩, [1], [42]⟩,
  ⟨⟨(some 45), none, .iad 1 (.s 42) (.s 44), []⟩, [0, 1, 2], []⟩,
  ⟨⟨(some 46), none, .load false 1 (.s 45), []⟩, [0, 1, 2, 3], []⟩,
  ⟨⟨(some 47), none, .mv (.s 9), []⟩, [], [42, 43, 44, 45, 46]⟩,
  ⟨⟨(some 48), none, .mv (.s 10), []⟩, [], [42, 43, 44, 45, 46, 47]⟩,
  ⟨⟨(some 49), none, .bin .sub (.s 48) (.c ⟨.one, [.int .i64 2]⟩), []⟩, [6], [42, 43, 44, 45, 46, 47]⟩,
  ⟨⟨(some 50), none, .iad 1 (.s 47) (.s 49), []⟩, [5, 6, 7], [42, 43, 44, 45, 46]⟩,
  ⟨⟨(some 51), none, .load false 1 (.s 50), []⟩, [5, 6, 7, 8], [42, 43, 44, 45, 46]⟩,
  ⟨⟨(some 52), none, .bin .sub (.s 46) (.s 51), []⟩, [0, 1, 2, 3, 4, 5, 6, 7, 8, 9], []⟩,
  ⟨⟨(some 53), none, .mv (.s 7), []⟩, [], [42, 43, 44, 45, 46, 47, 48, 49, 50, 51, 52]⟩,
  ⟨⟨(some 54), none, .mv (.s 10), []⟩, [], [42, 43, 44, 45, 46, 47, 48, 49, 50, 51, 52, 53]⟩,
  ⟨⟨(some 55), none, .iad 1 (.s 53) (.s 54), []⟩, [11, 12], [42, 43, 44, 45, 46, 47, 48, 49, 50, 51, 52]⟩,
  ⟨⟨(some 56), none, .load false 1 (.s 55), []⟩, [11, 12, 13], [42, 43, 44, 45, 46, 47, 48, 49, 50, 51, 52]⟩,
  ⟨⟨(some 57), none, .call 141 [(false, .s 56)] [], []⟩, [11, 12, 13, 14], [42, 43, 44, 45, 46, 47, 48, 49, 50, 51, 52]⟩]
def r120_13t : List XD := [⟨⟨(some 58), none, .bin .add (.s 52) (.s 57), []⟩, [0, 1, 2, 3, 4, 5, 6, 7, 8, 9, 10, 11, 12, 13, 14, 15], []⟩,
  ⟨⟨(some 11), none, .asg (.s 58) false, [41, 58]⟩, [0, 1, 2, 3, 4, 5, 6, 7, 8, 9, 10, 11, 12, 13, 14, 15, 16], []⟩]
def r120_14 : XL := .op ⟨(some 59), none, .mv (.s 9), []⟩ <|
  .op ⟨(some 60), none, .mv (.s 10), []⟩ <|
  .op ⟨(some 61), none, .bin .sub (.s 60) (.c ⟨.one, [.int .i64 1]⟩), []⟩ <|
  .op ⟨(some 62), none, .iad 1 (.s 59) (.s 61), []⟩ <|
  .op ⟨(some 63), none, .load false 1 (.s 62), []⟩ <|
  .op ⟨(some 64), none, .mv (.s 11), [11, 62]⟩ <|
  .op ⟨(some 65), none, .bin .add (.s 63) (.s 64), []⟩ <|
  .op ⟨(some 12), none, .asg (.s 65) false, [63, 65]⟩ <|
  .nil
def r120_15 : XL := .op ⟨(some 66), none, .mv (.s 12), []⟩ <|
  .op ⟨(some 67), none, .call 36 [(false, .s 66), (false, .c ⟨.one, [.int .i64 0]⟩), (false, .c ⟨.one, [.int .i64 1099511627776]⟩)] [], []⟩ <|
  .op ⟨(some 68), none, .un .not (.s 67), [66, 67]⟩ <|
  .nil
def r120_16 : XL := .op ⟨(some 69), none, .mv (.s 6), [0, 1, 7, 68]⟩ <|
  .op ⟨(some 4), none, .asg (.s 69) true, []⟩ <|
  .op ⟨(some 5), none, .asg (.c ⟨.one, [.int .i64 0]⟩) false, [6, 69]⟩ <|
  .nil
def r120_17 : XL := .op ⟨(some 70), none, .mv (.s 9), []⟩ <|
  .op ⟨(some 71), none, .mv (.s 12), []⟩ <|
  .op ⟨(some 72), none, .bslice 1 [.s 71], []⟩ <|
  .op ⟨(some 73), none, .app 1 8 (.s 70) (.s 72) false, [4, 5, 9, 9, 12, 72]⟩ <|
  .op ⟨(some 9), none, .asg (.s 73) false, [73, 73]⟩ <|
  .nil
def r120_10 : XL := .op ⟨(some 34), none, .mv (.s 10), []⟩ <|
  .op ⟨(some 35), none, .bin .add (.s 34) (.c ⟨.one, [.int .i64 1]⟩), []⟩ <|
  .op ⟨(some 10), none, .asg (.s 35) false, [34, 35]⟩ <|
  .nil
def l120_0 : XCode := .keep [0, 1, 6, 7, 8, 9, 10] [] (.seq (.seq (.ops r120_9) (.cond (.s 33) (.skip) (.exit 0))) (.seq (.block 1 (.seq (.ops r120_11) (.seq (.seq (.ops r120_12) (.cond (.s 41) (.any r120_13v r120_13t) (.skip))) (.seq (.ops r120_14) (.seq (.seq (.ops r120_15) (.cond (.s 68) (.seq (.ops r120_16) (.ret)) (.skip))) (.ops r120_17)))))) (.ops r120_10)))
def r120_18v : List XD := [⟨⟨(some 74), none, .mv (.s 9), []⟩, [], []⟩,
  ⟨⟨(some 75), none, .call 142 [(false, .s 74)] [], []⟩, [0], []⟩,
  ⟨⟨(some 76), none, .mv (.s 0), []⟩, [], [74, 75]⟩,
  ⟨⟨(some 77), none, .mv (.s 8), []⟩, [], [74, 75, 76]⟩,
  ⟨⟨(some 78), none, .slcS (.s 76) none (some (.s 77)), []⟩, [2, 3], [74, 75]⟩]
def r120_18t : List XD := [⟨⟨(some 79), none, .bin .neq (.s 75) (.s 78), [0, 1, 7, 7, 10, 78]⟩, [0, 1, 2, 3, 4], []⟩]
def r120_19 : XL := .op ⟨(some 80), none, .mv (.s 6), []⟩ <|
  .op ⟨(some 4), none, .asg (.s 80) true, []⟩ <|
  .op ⟨(some 5), none, .asg (.c ⟨.one, [.int .i64 0]⟩) false, [6, 80]⟩ <|
  .nil
def r120_20 : XL := .op ⟨(some 81), none, .mv (.s 9), []⟩ <|
  .op ⟨(some 82), none, .mv (.s 8), []⟩ <|
  .op ⟨(some 4), none, .asg (.s 81) true, [5, 81]⟩ <|
  .op ⟨(some 5), none, .asg (.s 82) true, [82, 82]⟩ <|
  .nil
def x120 : XCode := .seq (.ops r120_0) (.seq (.ops r120_1) (.seq (.seq (.ops r120_2) (.cond (.s 16) (.seq (.ops r120_3) (.ret)) (.skip))) (.seq (.ops r120_4) (.seq (.seq (.ops r120_5) (.cond (.s 25) (.seq (.ops r120_6) (.ret)) (.skip))) (.seq (.ops r120_7) (.seq (.seq (.ops r120_8) (.block 0 (.loop l120_0))) (.seq (.seq (.any r120_18v r120_18t) (.cond (.s 79) (.seq (.ops r120_19) (.ret)) (.skip))) (.seq (.ops r120_20) (.ret)))))))))
theorem m120 : mFun Try.prog Try.f120 x120 [.tmp 4, .tmp 5] 2 = true := by kernel_rfl
theorem k120 : Callable Try.prog 120 := callable_of (by kernel_rfl)

/-! loop.example/g00360/spec.ReadValues -/
def r121_0 : XL := .op ⟨(some 4), none, .asg (.c ⟨.one, [.own 1 []]⟩) false, []⟩ <|
  .op ⟨(some 5), none, .asg (.c ⟨.one, [.int .i64 0]⟩) false, [4, 5]⟩ <|
  .nil
def r121_1 : XL := .op ⟨(some 12), none, .bslice 1 [], []⟩ <|
  .op ⟨(some 6), none, .asg (.s 12) false, [12, 12]⟩ <|
  .nil
def r121_2 : XL := .op ⟨(some 13), none, .mv (.s 1), []⟩ <|
  .op ⟨(some 14), none, .call 36 [(false, .s 13), (false, .c ⟨.one, [.int .i64 1]⟩), (false, .c ⟨.one, [.int .i64 60]⟩)] [], []⟩ <|
  .op ⟨(some 15), none, .un .not (.s 14), [13, 14]⟩ <|
  .nil
def r121_3 : XL := .op ⟨(some 16), none, .mv (.s 6), []⟩ <|
  .op ⟨(some 4), none, .asg (.s 16) true, []⟩ <|
  .op ⟨(some 5), none, .asg (.c ⟨.one, [.int .i64 0]⟩) false, [0, 1, 6, 16]⟩ <|
  .nil
def r121_4 : XL := .op ⟨(some 18), none, .mv (.s 0), []⟩ <|
  .op ⟨(some 19), none, .mv (.s 1), []⟩ <|
  .op ⟨(some 20), none, .call 140 [(false, .s 18), (false, .s 19)] [], []⟩ <|
  .op ⟨(some 17), none, .mv (.s 20), []⟩ <|
  .op ⟨(some 21), none, .ext 0 (.s 17), []⟩ <|
  .op ⟨(some 22), none, .ext 1 (.s 17), []⟩ <|
  .op ⟨(some 7), none, .asg (.s 21) true, [4, 5, 15, 21]⟩ <|
  .op ⟨(some 8), none, .asg (.s 22) true, [22, 22]⟩ <|
  .nil
def r121_5 : XL := .op ⟨(some 23), none, .mv (.s 8), []⟩ <|
  .op ⟨(some 24), none, .bin .lss (.s 23) (.c ⟨.one, [.int .i64 0]⟩), [23, 23]⟩ <|
  .nil
def r121_6 : XL := .op ⟨(some 25), none, .mv (.s 6), []⟩ <|
  .op ⟨(some 4), none, .asg (.s 25) true, [0, 1, 6, 25]⟩ <|
  .op ⟨(some 5), none, .asg (.c ⟨.one, [.int .i64 0]⟩) false, []⟩ <|
  .nil
def r121_7 : XL := .op ⟨(some 26), none, .bslice 1 [], []⟩ <|
  .op ⟨(some 9), none, .asg (.s 26) false, [4, 5, 24, 26]⟩ <|
  .nil
def r121_8 : XL := .op ⟨(some 10), none, .asg (.c ⟨.one, [.int .i64 0]⟩) false, []⟩ <|
  .nil
def r121_9 : XL := .op ⟨(some 11), none, .asg (.c ⟨.one, [.int .i64 0]⟩) false, []⟩ <|
  .nil
def r121_10 : XL := .op ⟨(some 27), none, .mv (.s 11), []⟩ <|
  .op ⟨(some 28), none, .mv (.s 1), []⟩ <|
  .op ⟨(some 29), none, .bin .lss (.s 27) (.s 28), [27, 28]⟩ <|
  .nil
def r121_12 : XL := .op ⟨(some 32), none, .mv (.s 10), []⟩ <|
  .op ⟨(some 33), none, .mv (.s 7), []⟩ <|
  .op ⟨(some 34), none, .mv (.s 11), []⟩ <|
  .op ⟨(some 35), none, .iad 1 (.s 33) (.s 34), []⟩ <|
  .op ⟨(some 36), none, .load false 1 (.s 35), []⟩ <|
  .op ⟨(some 37), none, .call 141 [(false, .s 36)] [], [10, 10, 29, 29, 33, 36]⟩ <|
  .op ⟨(some 38), none, .bin .add (.s 32) (.s 37), []⟩ <|
  .op ⟨(some 10), none, .asg (.s 38) false, [32, 38]⟩ <|
  .nil
def r121_13 : XL := .op ⟨(some 39), none, .mv (.s 10), []⟩ <|
  .op ⟨(some 40), none, .call 36 [(false, .s 39), (false, .c ⟨.one, [.int .i64 (-1099511627776)]⟩), (false, .c ⟨.one, [.int .i64 1099511627776]⟩)] [], []⟩ <|
  .op ⟨(some 41), none, .un .not (.s 40), [39, 40]⟩ <|
  .nil
def r121_14 : XL := .op ⟨(some 42), none, .mv (.s 6), [0, 1, 7, 41]⟩ <|
  .op ⟨(some 4), none, .asg (.s 42) true, []⟩ <|
  .op ⟨(some 5), none, .asg (.c ⟨.one, [.int .i64 0]⟩) false, [6, 42]⟩ <|
  .nil
def r121_15 : XL := .op ⟨(some 43), none, .mv (.s 9), []⟩ <|
  .op ⟨(some 44), none, .mv (.s 10), []⟩ <|
  .op ⟨(some 45), none, .bslice 1 [.s 44], []⟩ <|
  .op ⟨(some 46), none, .app 1 8 (.s 43) (.s 45) false, [4, 5, 9, 9, 41, 45]⟩ <|
  .op ⟨(some 9), none, .asg (.s 46) false, [46, 46]⟩ <|
  .nil
def r121_11 : XL := .op ⟨(some 30), none, .mv (.s 11), []⟩ <|
  .op ⟨(some 31), none, .bin .add (.s 30) (.c ⟨.one, [.int .i64 1]⟩), []⟩ <|
  .op ⟨(some 11), none, .asg (.s 31) false, [30, 31]⟩ <|
  .nil
def l121_0 : XCode := .keep [0, 1, 6, 7, 8, 9, 10, 11] [] (.seq (.seq (.ops r121_10) (.cond (.s 29) (.skip) (.exit 0))) (.seq (.block 1 (.seq (.ops r121_12) (.seq (.seq (.ops r121_13) (.cond (.s 41) (.seq (.ops r121_14) (.ret)) (.skip))) (.ops r121_15)))) (.ops r121_11)))
def r121_16v : List XD := [⟨⟨(some 47), none, .mv (.s 9), []⟩, [], []⟩,
  ⟨⟨(some 48), none, .call 143 [(false, .s 47)] [], []⟩, [0], []⟩,
  ⟨⟨(some 49), none, .mv (.s 0), []⟩, [], [47, 48]⟩,
  ⟨⟨(some 50), none, .mv (.s 8), []⟩, [], [47, 48, 49]⟩,
  ⟨⟨(some 51), none, .slcS (.s 49) none (some (.s 50)), []⟩, [2, 3], [47, 48]⟩]
def r121_16t : List XD := [⟨⟨(some 52), none, .bin .neq (.s 48) (.s 51), [0, 1, 7, 7, 10, 51]⟩, [0, 1, 2, 3, 4], []⟩]
def r121_17 : XL := .op ⟨(some 53), none, .mv (.s 6), []⟩ <|
  .op ⟨(some 4), none, .asg (.s 53) true, []⟩ <|
  .op ⟨(some 5), none, .asg (.c ⟨.one, [.int .i64 0]⟩) false, [6, 53]⟩ <|
  .nil
def r121_18 : XL := .op ⟨(some 54), none, .mv (.s 9), []⟩ <|
  .op ⟨(some 55), none, .mv (.s 8), []⟩ <|
  .op ⟨(some 4), none, .asg (.s 54) true, [5, 54]⟩ <|
  .op ⟨(some 5), none, .asg (.s 55) true, [55, 55]⟩ <|
  .nil
def x121 : XCode := .seq (.ops r121_0) (.seq (.ops r121_1) (.seq (.seq (.ops r121_2) (.cond (.s 15) (.seq (.ops r121_3) (.ret)) (.skip))) (.seq (.ops r121_4) (.seq (.seq (.ops r121_5) (.cond (.s 24) (.seq (.ops r121_6) (.ret)) (.skip))) (.seq (.ops r121_7) (.seq (.ops r121_8) (.seq (.seq (.ops r121_9) (.block 0 (.loop l121_0))) (.seq (.seq (.any r121_16v r121_16t) (.cond (.s 52) (.seq (.ops r121_17) (.ret)) (.skip))) (.seq (.ops r121_18) (.ret))))))))))
theorem m121 : mFun Try.prog Try.f121 x121 [.tmp 4, .tmp 5] 2 = true := by kernel_rfl
theorem k121 : Callable Try.prog 121 := callable_of (by kernel_rfl)

/-! loop.example/g00360/impl.ReadFixed -/
def r122_0 : XL := .op ⟨(some 4), none, .asg (.c ⟨.one, [.int .i64 0]⟩) false, []⟩ <|
  .op ⟨(some 5), none, .asg (.c ⟨.one, [.bool false]⟩) false, [4, 5]⟩ <|
  .nil
def r122_1 : XL := .op ⟨(some 8), none, .mv (.s 1), []⟩ <|
  .op ⟨(some 9), none, .call 32 [(false, .s 8), (false, .c ⟨.one, [.int .i64 1]⟩), (false, .c ⟨.one, [.int .i64 7]⟩)] [], []⟩ <|
  .op ⟨(some 10), none, .un .not (.s 9), []⟩ <|
  .op ⟨(some 11), none, .mv (.s 10), []⟩ <|
  .sc 11 false (.op ⟨(some 12), (some (11, false)), .mv (.s 0), []⟩ <|
  .op ⟨(some 13), (some (11, false)), .len true (.s 12), []⟩ <|
  .op ⟨(some 14), (some (11, false)), .mv (.s 1), []⟩ <|
  .op ⟨(some 15), (some (11, false)), .bin .lss (.s 13) (.s 14), []⟩ <|
  .nil) [12, 13, 14, 15] 16 none (.s 11) (.s 15) [8, 11] <|
  .nil
def r122_2 : XL := .op ⟨(some 4), none, .asg (.c ⟨.one, [.int .i64 0]⟩) false, []⟩ <|
  .op ⟨(some 5), none, .asg (.c ⟨.one, [.bool false]⟩) false, [0, 1, 16, 16]⟩ <|
  .nil
def r122_3 : XL := .op ⟨(some 6), none, .asg (.c ⟨.one, [.int .i64 0]⟩) false, [4, 5, 16, 16]⟩ <|
  .nil
def r122_4 : XL := .op ⟨(some 17), none, .mv (.s 1), []⟩ <|
  .op ⟨(some 18), none, .mv (.c ⟨.one, [.int .i64 0]⟩), [1, 1]⟩ <|
  .nil
def r122_5 : XL := .op ⟨(some 19), none, .bin .lss (.s 18) (.s 17), []⟩ <|
  .nil
def r122_6 : XL := .op ⟨(some 20), none, .mv (.s 18), []⟩ <|
  .op ⟨(some 7), none, .asg (.s 20) false, [19, 20]⟩ <|
  .nil
def r122_7 : XL := .op ⟨(some 21), none, .mv (.s 6), []⟩ <|
  .op ⟨(some 22), none, .bin .shl (.s 21) (.c ⟨.one, [.int .u64 8]⟩), []⟩ <|
  .op ⟨(some 23), none, .mv (.s 0), []⟩ <|
  .op ⟨(some 24), none, .mv (.s 7), []⟩ <|
  .op ⟨(some 25), none, .idx (.s 23) (.s 24), []⟩ <|
  .op ⟨(some 26), none, .convI .i64 (.s 25), [6, 7, 21, 21, 23, 25]⟩ <|
  .op ⟨(some 27), none, .bin .or (.s 22) (.s 26), []⟩ <|
  .op ⟨(some 6), none, .asg (.s 27) false, [22, 27]⟩ <|
  .nil
def r122_8 : XL := .op ⟨(some 28), none, .bin .add (.s 18) (.c ⟨.one, [.int .i64 1]⟩), []⟩ <|
  .op ⟨(some 18), none, .mv (.s 28), [28, 28]⟩ <|
  .nil
def l122_0 : XCode := .keep [0, 6, 17, 18] [] (.seq (.ops r122_5) (.seq (.cond (.s 19) (.skip) (.exit 0)) (.seq (.block 1 (.seq (.ops r122_6) (.ops r122_7))) (.ops r122_8))))
def r122_9 : XL := .op ⟨(some 29), none, .mv (.s 6), []⟩ <|
  .op ⟨(some 4), none, .asg (.s 29) true, []⟩ <|
  .op ⟨(some 5), none, .asg (.c ⟨.one, [.bool true]⟩) false, [0, 0, 6, 29]⟩ <|
  .nil
def x122 : XCode := .seq (.ops r122_0) (.seq (.seq (.ops r122_1) (.cond (.s 16) (.seq (.ops r122_2) (.ret)) (.skip))) (.seq (.ops r122_3) (.seq (.seq (.ops r122_4) (.block 0 (.loop l122_0))) (.seq (.ops r122_9) (.ret)))))
theorem m122 : mFun Try.prog Try.f122 x122 [.tmp 4, .tmp 5] 2 = true := by kernel_rfl
theorem k122 : Callable Try.prog 122 := callable_of (by kernel_rfl)

/-! loop.example/g00360/impl.Frame -/
def r123_0 : XL := .op ⟨(some 2), none, .asg (.c ⟨.one, [.str ⟨#[]⟩]⟩) false, [2, 2]⟩ <|
  .nil
def r123_1 : XL := .op ⟨(some 4), none, .mv (.s 0), []⟩ <|
  .op ⟨(some 5), none, .len true (.s 4), []⟩ <|
  .op ⟨(some 6), none, .call 32 [(false, .s 5), (false, .c ⟨.one, [.int .i64 1]⟩), (false, .c ⟨.one, [.int .i64 2000]⟩)] [], []⟩ <|
  .op ⟨(some 7), none, .un .not (.s 6), [4, 6]⟩ <|
  .nil
def r123_2 : XL := .op ⟨(some 2), none, .asg (.c ⟨.one, [.str ⟨#[]⟩]⟩) false, [0, 0, 7, 7]⟩ <|
  .nil
def r123_3 : XL := .op ⟨(some 8), none, .mv (.s 0), []⟩ <|
  .op ⟨(some 9), none, .len true (.s 8), []⟩ <|
  .op ⟨(some 10), none, .call 59 [(false, .s 9), (false, .c ⟨.one, [.int .i64 4]⟩)] [], []⟩ <|
  .op ⟨(some 3), none, .asg (.s 10) false, [2, 2, 7, 10]⟩ <|
  .nil
def r123_4 : XL := .op ⟨(some 11), none, .mv (.s 3), []⟩ <|
  .op ⟨(some 12), none, .mv (.s 3), []⟩ <|
  .op ⟨(some 13), none, .mv (.s 0), []⟩ <|
  .op ⟨(some 14), none, .bin .add (.s 12) (.s 13), []⟩ <|
  .op ⟨(some 15), none, .call 60 [(false, .s 14)] [], []⟩ <|
  .op ⟨(some 16), none, .call 59 [(false, .s 15), (false, .c ⟨.one, [.int .i64 4]⟩)] [], []⟩ <|
  .op ⟨(some 17), none, .bin .add (.s 11) (.s 16), [3, 16]⟩ <|
  .op ⟨(some 18), none, .mv (.s 0), []⟩ <|
  .op ⟨(some 19), none, .bin .add (.s 17) (.s 18), []⟩ <|
  .op ⟨(some 2), none, .asg (.s 19) false, [0, 0, 17, 19]⟩ <|
  .nil
def x123 : XCode := .seq (.ops r123_0) (.seq (.seq (.ops r123_1) (.cond (.s 7) (.seq (.ops r123_2) (.ret)) (.skip))) (.seq (.ops r123_3) (.seq (.ops r123_4) (.ret))))
theorem m123 : mFun Try.prog Try.f123 x123 [.tmp 2] 1 = true := by kernel_rfl
theorem k123 : Callable Try.prog 123 := callable_of (by kernel_rfl)

/-! (*loop.example/g00360/impl.reader).zag -/
def r124_0 : XL := .op ⟨(some 2), none, .asg (.c ⟨.one, [.int .i64 0]⟩) false, [2, 2]⟩ <|
  .nil
def r124_1 : XL := .op ⟨(some 6), none, .mv (.s 0), []⟩ <|
  .op ⟨(some 7), none, .call 81 [(false, .s 6)] [1000000], []⟩ <|
  .op ⟨(some 3), none, .asg (.s 7) false, [6, 7]⟩ <|
  .nil
def r124_2 : XL := .op ⟨(some 9), none, .mv (.s 3), []⟩ <|
  .op ⟨(some 10), none, .call 144 [(false, .s 9)] [], []⟩ <|
  .op ⟨(some 8), none, .mv (.s 10), []⟩ <|
  .op ⟨(some 11), none, .ext 0 (.s 8), []⟩ <|
  .op ⟨(some 12), none, .ext 1 (.s 8), []⟩ <|
  .op ⟨(some 4), none, .asg (.s 11) true, []⟩ <|
  .op ⟨(some 5), none, .asg (.s 12) true, [3, 3, 8, 12]⟩ <|
  .nil
def r124_3 : XL := .op ⟨(some 13), none, .mv (.s 0), []⟩ <|
  .op ⟨(some 14), none, .mv (.s 0), []⟩ <|
  .op ⟨(some 15), none, .nilc (.s 14), []⟩ <|
  .op ⟨(some 16), none, .fad 1 (.s 15), []⟩ <|
  .op ⟨(some 17), none, .load false 1 (.s 16), []⟩ <|
  .op ⟨(some 18), none, .mv (.s 17), []⟩ <|
  .sc 18 true (.op ⟨(some 19), (some (18, true)), .mv (.s 5), []⟩ <|
  .nil) [19] 20 none (.s 18) (.s 19) [5, 5, 14, 18] <|
  .op ⟨(some 21), none, .nilc (.s 13), []⟩ <|
  .op ⟨(some 22), none, .fad 1 (.s 21), []⟩ <|
  .op ⟨none, none, .store 1 (.s 22) (.s 20) false, [0, 0, 13, 22]⟩ <|
  .nil
def r124_4 : XL := .op ⟨(some 23), none, .mv (.s 4), []⟩ <|
  .op ⟨(some 2), none, .asg (.s 23) true, [4, 23]⟩ <|
  .nil
def x124 : XCode := .seq (.ops r124_0) (.seq (.ops r124_1) (.seq (.ops r124_2) (.seq (.ops r124_3) (.seq (.ops r124_4) (.ret)))))
theorem m124 : mFun Try.prog Try.f124 x124 [.tmp 2] 1 = true := by kernel_rfl
theorem k124 : Callable Try.prog 124 := callable_of (by kernel_rfl)

/-! loop.example/g00360/impl.began -/
def r125_0 : XL := .op ⟨(some 4), none, .asg (.c ⟨.one, [.int .i64 0]⟩) false, []⟩ <|
  .op ⟨(some 5), none, .asg (.c ⟨.one, [.bool false]⟩) false, [4, 5]⟩ <|
  .nil
def r125_1 : XL := .op ⟨(some 6), none, .mv (.s 1), []⟩ <|
  .op ⟨(some 7), none, .len true (.s 6), []⟩ <|
  .op ⟨(some 8), none, .mv (.s 1), []⟩ <|
  .op ⟨(some 9), none, .bin .neq (.s 8) (.c ⟨.one, [.str ⟨#[]⟩]⟩), []⟩ <|
  .op ⟨(some 10), none, .mv (.s 9), []⟩ <|
  .sc 10 true (.op ⟨(some 11), (some (10, true)), .mv (.s 0), []⟩ <|
  .op ⟨(some 12), (some (10, true)), .mv (.s 1), []⟩ <|
  .op ⟨(some 13), (some (10, true)), .call 145 [(false, .s 11), (false, .s 12)] [], []⟩ <|
  .nil) [11, 12, 13] 14 none (.s 10) (.s 13) [0, 6, 8, 10] <|
  .op ⟨(some 4), none, .asg (.s 7) false, []⟩ <|
  .op ⟨(some 5), none, .asg (.s 14) false, [7, 14]⟩ <|
  .nil
def x125 : XCode := .seq (.ops r125_0) (.seq (.ops r125_1) (.ret))
theorem m125 : mFun Try.prog Try.f125 x125 [.tmp 4, .tmp 5] 2 = true := by kernel_rfl
theorem k125 : Callable Try.prog 125 := callable_of (by kernel_rfl)

/-! loop.example/g00360/impl.ShowTimes -/
def r126_0 : XL := .op ⟨(some 2), none, .asg (.c ⟨.one, [.str ⟨#[]⟩]⟩) false, [2, 2]⟩ <|
  .nil
def r126_1 : XL := .op ⟨(some 3), none, .asg (.c ⟨.one, [.str ⟨#[]⟩]⟩) false, []⟩ <|
  .nil
def r126_2 : XL := .op ⟨(some 6), none, .mv (.s 0), []⟩ <|
  .op ⟨(some 7), none, .len false (.s 6), []⟩ <|
  .op ⟨(some 8), none, .mv (.c ⟨.one, [.int .i64 0]⟩), []⟩ <|
  .nil
def r126_3 : XL := .op ⟨(some 9), none, .bin .lss (.s 8) (.s 7), []⟩ <|
  .nil
def r126_4 : XL := .op ⟨(some 10), none, .mv (.s 8), []⟩ <|
  .op ⟨(some 11), none, .iad 1 (.s 6) (.s 8), []⟩ <|
  .op ⟨(some 12), none, .load false 1 (.s 11), []⟩ <|
  .op ⟨(some 4), none, .asg (.s 10) false, []⟩ <|
  .op ⟨(some 5), none, .asg (.s 12) false, [9, 12]⟩ <|
  .nil
def r126_5 : XL := .op ⟨(some 13), none, .mv (.s 5), []⟩ <|
  .op ⟨(some 14), none, .call 32 [(false, .s 13), (false, .c ⟨.one, [.int .i64 0]⟩), (false, .c ⟨.one, [.int .i64 1099511627776]⟩)] [], []⟩ <|
  .op ⟨(some 15), none, .un .not (.s 14), []⟩ <|
  .op ⟨(some 16), none, .mv (.s 15), []⟩ <|
  .sc 16 false (.op ⟨(some 17), (some (16, false)), .mv (.s 4), []⟩ <|
  .op ⟨(some 18), (some (16, false)), .bin .gtr (.s 17) (.c ⟨.one, [.int .i64 0]⟩), []⟩ <|
  .op ⟨(some 19), (some (16, false)), .mv (.s 18), []⟩ <|
  .sc 19 true (.op ⟨(some 20), (some (19, true)), .mv (.s 0), []⟩ <|
  .op ⟨(some 21), (some (19, true)), .mv (.s 4), []⟩ <|
  .op ⟨(some 22), (some (19, true)), .bin .sub (.s 21) (.c ⟨.one, [.int .i64 1]⟩), []⟩ <|
  .op ⟨(some 23), (some (19, true)), .iad 1 (.s 20) (.s 22), []⟩ <|
  .op ⟨(some 24), (some (19, true)), .load false 1 (.s 23), []⟩ <|
  .op ⟨(some 25), (some (19, true)), .mv (.s 5), []⟩ <|
  .op ⟨(some 26), (some (19, true)), .bin .geq (.s 24) (.s 25), []⟩ <|
  .nil) [20, 21, 22, 23, 24, 25, 26] 27 (some (16, false)) (.s 19) (.s 26) [] <|
  .nil) [17, 18, 19, 20, 21, 22, 23, 24, 25, 26, 27] 28 none (.s 16) (.s 27) [13, 16] <|
  .nil
def r126_6 : XL := .op ⟨(some 2), none, .asg (.c ⟨.one, [.str ⟨#[]⟩]⟩) false, [0, 0, 3, 28]⟩ <|
  .nil
def r126_7 : XL := .op ⟨(some 29), none, .mv (.s 4), [2, 2, 28, 28]⟩ <|
  .nil
def r126_9 : XL := .op ⟨(some 53), none, .bin .eql (.s 29) (.c ⟨.one, [.int .i64 0]⟩), []⟩ <|
  .op ⟨(some 52), none, .asg (.s 53) false, [53, 53]⟩ <|
  .nil
def r126_10 : XL := .op ⟨(some 54), none, .mv (.s 3), []⟩ <|
  .op ⟨(some 55), none, .mv (.s 5), []⟩ <|
  .op ⟨(some 56), none, .call 57 [(false, .s 55)] [], [3, 5, 29, 52, 55, 55]⟩ <|
  .op ⟨(some 57), none, .bin .add (.s 54) (.s 56), []⟩ <|
  .op ⟨(some 3), none, .asg (.s 57) false, [54, 57]⟩ <|
  .nil
def r126_11 : XL := .op ⟨(some 59), none, .bin .eql (.s 29) (.c ⟨.one, [.int .i64 1]⟩), []⟩ <|
  .op ⟨(some 58), none, .asg (.s 59) false, [29, 52, 59, 59]⟩ <|
  .nil
def r126_12 : XL := .op ⟨(some 60), none, .mv (.s 3), []⟩ <|
  .op ⟨(some 61), none, .mv (.s 5), []⟩ <|
  .op ⟨(some 62), none, .mv (.s 0), []⟩ <|
  .op ⟨(some 63), none, .iad 1 (.s 62) (.c ⟨.one, [.int .i64 0]⟩), []⟩ <|
  .op ⟨(some 64), none, .load false 1 (.s 63), [3, 5, 58, 58, 62, 63]⟩ <|
  .op ⟨(some 65), none, .bin .sub (.s 61) (.s 64), []⟩ <|
  .op ⟨(some 66), none, .call 57 [(false, .s 65)] [], []⟩ <|
  .op ⟨(some 67), none, .bin .add (.s 60) (.s 66), []⟩ <|
  .op ⟨(some 3), none, .asg (.s 67) false, [60, 67]⟩ <|
  .nil
def r126_8v : List XD := [⟨⟨(some 30), none, .mv (.s 3), []⟩, [], []⟩,
  ⟨⟨(some 31), none, .mv (.s 5), []⟩, [], [30]⟩,
  ⟨⟨(some 32), none, .mv (.s 0), []⟩, [], [30, 31]⟩,
  ⟨⟨(some 33), none, .mv (.s 4), []⟩, [], [30, 31, 32]⟩,
  ⟨⟨(some 34), none, .bin .sub (.s 33) (.c ⟨.one, [.int .i64 1]⟩), []⟩, [3], [30, 31, 32]⟩,
  ⟨⟨(some 35), none, .iad 1 (.s 32) (.s 34), []⟩, [2, 3, 4], [30, 31]⟩,
  ⟨⟨(some 36), none, .load false 1 (.s 35), []⟩, [2, 3, 4, 5], [30, 31]⟩,
  ⟨⟨(some 37), none, .bin .sub (.s 31) (.s 36), []⟩, [1, 2, 3, 4, 5, 6], [30]⟩,
  ⟨⟨(some 38), none, .mv (.s 0), []⟩, [], [30, 31, 32, 33, 34, 35, 36, 37]⟩,
  ⟨⟨(some 39), none, .mv (.s 4), []⟩, [], [30, 31, 32, 33, 34, 35, 36, 37, 38]⟩,
  ⟨⟨(some 40), none, .bin .sub (.s 39) (.c ⟨.one, [.int .i64 1]⟩), []⟩, [9], [30, 31, 32, 33, 34, 35, 36, 37, 38]⟩,
  ⟨⟨(some 41), none, .iad 1 (.s 38) (.s 40), []⟩, [8, 9, 10], [30, 31, 32, 33, 34, 35, 36, 37]⟩,
  ⟨⟨(some 42), none, .load false 1 (.s 41), []⟩, [8, 9, 10, 11], [30, 31, 32, 33, 34, 35, 36, 37]⟩,
  ⟨⟨(some 43), none, .mv (.s 0), []⟩, [], [30, 31, 32, 33, 34, 35, 36, 37, 38, 39, 40, 41, 42]⟩,
  ⟨⟨(some 44), none, .mv (.s 4), []⟩, [], [30, 31, 32, 33, 34, 35, 36, 37, 38, 39, 40, 41, 42, 43]⟩,
  ⟨⟨(some 45), none, .bin .sub (.s 44) (.c ⟨.one, [.int .i64 2]⟩), []⟩, [14], [30, 31, 32, 33, 34, 35, 36, 37, 38, 39, 40, 41, 42, 43]⟩,
  ⟨⟨(some 46), none, .iad 1 (.s 43) (.s 45), []⟩, [13, 14, 15], [30, 31, 32, 33, 34, 35, 36, 37, 38, 39, 40, 41, 42]⟩,
  ⟨⟨(some 47), none, .load false 1 (.s 46), []⟩, [13, 14, 15, 16], [30, 31, 32, 33, 34, 35, 36, 37, 38, 39, 40, 41, 42]⟩,
  ⟨⟨(some 48), none, .bin .sub (.s 42) (.s 47), []⟩, [8, 9, 10, 11, 12, 13, 14, 15, 16, 17], [30, 31, 32, 33, 34, 35, 36, 37]⟩,
  ⟨⟨(some 49), none, .bin .sub (.s 37) (.s 48), []⟩, [1, 2, 3, 4, 5, 6, 7, 8, 9, 10, 11, 12, 13, 14, 15, 16, 17, 18], [30]⟩,
  ⟨⟨(some 50), none, .call 146 [(false, .s 49)] [], []⟩, [1, 2, 3, 4, 5, 6, 7, 8, 9, 10, 11, 12, 13, 14, 15, 16, 17, 18, 19], [30]⟩]
def r126_8t : List XD := [⟨⟨(some 51), none, .bin .add (.s 30) (.s 50), []⟩, [0, 1, 2, 3, 4, 5, 6, 7, 8, 9, 10, 11, 12, 13, 14, 15, 16, 17, 18, 19, 20], []⟩,
  ⟨⟨(some 3), none, .asg (.s 51) false, [4, 5, 30, 58]⟩, [0, 1, 2, 3, 4, 5, 6, 7, 8, 9, 10, 11, 12, 13, 14, 15, 16, 17, 18, 19, 20, 21], []⟩]
def r126_13 : XL := .op ⟨(some 68), none, .bin .add (.s 8) (.c ⟨.one, [.int .i64 1]⟩), []⟩ <|
  .op ⟨(some 8), none, .mv (.s 68), [68, 68]⟩ <|
  .nil
def l126_0 : XCode := .keep [0, 3, 6, 7, 8] [] (.seq (.ops r126_3) (.seq (.cond (.s 9) (.skip) (.exit 0)) (.seq (.block 1 (.seq (.ops r126_4) (.seq (.seq (.ops r126_5) (.cond (.s 28) (.seq (.ops r126_6) (.ret)) (.skip))) (.seq (.ops r126_7) (.block 2 (.seq (.ops r126_9) (.cond (.s 52) (.ops r126_10) (.seq (.ops r126_11) (.cond (.s 58) (.ops r126_12) (.any r126_8v r126_8t)))))))))) (.ops r126_13))))
def r126_14 : XL := .op ⟨(some 69), none, .mv (.s 0), []⟩ <|
  .op ⟨(some 70), none, .len false (.s 69), []⟩ <|
  .op ⟨(some 71), none, .call 32 [(false, .s 70), (false, .c ⟨.one, [.int .i64 1]⟩), (false, .c ⟨.one, [.int .i64 60]⟩)] [], [0, 0, 6, 70]⟩ <|
  .op ⟨(some 72), none, .un .not (.s 71), [71, 71]⟩ <|
  .nil
def r126_15 : XL := .op ⟨(some 2), none, .asg (.c ⟨.one, [.str ⟨#[]⟩]⟩) false, [3, 72]⟩ <|
  .nil
def r126_16 : XL := .op ⟨(some 73), none, .mv (.s 3), []⟩ <|
  .op ⟨(some 2), none, .asg (.s 73) true, [3, 73]⟩ <|
  .nil
def x126 : XCode := .seq (.ops r126_0) (.seq (.ops r126_1) (.seq (.seq (.ops r126_2) (.block 0 (.loop l126_0))) (.seq (.seq (.ops r126_14) (.cond (.s 72) (.seq (.ops r126_15) (.ret)) (.skip))) (.seq (.ops r126_16) (.ret)))))
theorem m126 : mFun Try.prog Try.f126 x126 [.tmp 2] 1 = true := by kernel_rfl
theorem k126 : Callable Try.prog 126 := callable_of (by kernel_rfl)

/-! loop.example/g00360/impl.ShowValues -/
def r127_0 : XL := .op ⟨(some 2), none, .asg (.c ⟨.one, [.str ⟨#[]⟩]⟩) false, [2, 2]⟩ <|
  .nil
def r127_1 : XL := .op ⟨(some 3), none, .asg (.c ⟨.one, [.str ⟨#[]⟩]⟩) false, []⟩ <|
  .nil
def r127_2 : XL := .op ⟨(some 4), none, .asg (.c ⟨.one, [.int .i64 0]⟩) false, []⟩ <|
  .nil
def r127_3 : XL := .op ⟨(some 7), none, .mv (.s 0), []⟩ <|
  .op ⟨(some 8), none, .len false (.s 7), []⟩ <|
  .op ⟨(some 9), none, .mv (.c ⟨.one, [.int .i64 0]⟩), []⟩ <|
  .nil
def r127_4 : XL := .op ⟨(some 10), none, .bin .lss (.s 9) (.s 8), []⟩ <|
  .nil
def r127_5 : XL := .op ⟨(some 11), none, .iad 1 (.s 7) (.s 9), []⟩ <|
  .op ⟨(some 12), none, .load false 1 (.s 11), []⟩ <|
  .op ⟨(some 6), none, .asg (.s 12) false, [10, 12]⟩ <|
  .nil
def r127_6 : XL := .op ⟨(some 13), none, .mv (.s 6), []⟩ <|
  .op ⟨(some 14), none, .call 32 [(false, .s 13), (false, .c ⟨.one, [.int .i64 (-1099511627776)]⟩), (false, .c ⟨.one, [.int .i64 1099511627776]⟩)] [], []⟩ <|
  .op ⟨(some 15), none, .un .not (.s 14), [13, 14]⟩ <|
  .nil
def r127_7 : XL := .op ⟨(some 2), none, .asg (.c ⟨.one, [.str ⟨#[]⟩]⟩) false, [0, 0, 3, 15]⟩ <|
  .nil
def r127_8 : XL := .op ⟨(some 16), none, .mv (.s 3), []⟩ <|
  .op ⟨(some 17), none, .mv (.s 6), []⟩ <|
  .op ⟨(some 18), none, .mv (.s 4), []⟩ <|
  .op ⟨(some 19), none, .bin .sub (.s 17) (.s 18), [2, 4, 15, 15, 17, 18]⟩ <|
  .op ⟨(some 20), none, .call 146 [(false, .s 19)] [], []⟩ <|
  .op ⟨(some 21), none, .bin .add (.s 16) (.s 20), []⟩ <|
  .op ⟨(some 3), none, .asg (.s 21) false, [16, 21]⟩ <|
  .nil
def r127_9 : XL := .op ⟨(some 22), none, .mv (.s 6), []⟩ <|
  .op ⟨(some 4), none, .asg (.s 22) true, [6, 6, 22, 22]⟩ <|
  .nil
def r127_10 : XL := .op ⟨(some 23), none, .bin .add (.s 9) (.c ⟨.one, [.int .i64 1]⟩), []⟩ <|
  .op ⟨(some 9), none, .mv (.s 23), [23, 23]⟩ <|
  .nil
def l127_0 : XCode := .keep [0, 3, 4, 7, 8, 9] [] (.seq (.ops r127_4) (.seq (.cond (.s 10) (.skip) (.exit 0)) (.seq (.block 1 (.seq (.ops r127_5) (.seq (.seq (.ops r127_6) (.cond (.s 15) (.seq (.ops r127_7) (.ret)) (.skip))) (.seq (.ops r127_8) (.ops r127_9))))) (.ops r127_10))))
def r127_11 : XL := .op ⟨(some 24), none, .mv (.s 0), []⟩ <|
  .op ⟨(some 25), none, .len false (.s 24), [0, 0, 4, 24]⟩ <|
  .op ⟨(some 26), none, .call 32 [(false, .s 25), (false, .c ⟨.one, [.int .i64 1]⟩), (false, .c ⟨.one, [.int .i64 60]⟩)] [], []⟩ <|
  .op ⟨(some 27), none, .un .not (.s 26), [25, 26]⟩ <|
  .nil
def r127_12 : XL := .op ⟨(some 2), none, .asg (.c ⟨.one, [.str ⟨#[]⟩]⟩) false, [3, 27]⟩ <|
  .nil
def r127_13 : XL := .op ⟨(some 28), none, .mv (.s 3), []⟩ <|
  .op ⟨(some 2), none, .asg (.s 28) true, [3, 28]⟩ <|
  .nil
def x127 : XCode := .seq (.ops r127_0) (.seq (.ops r127_1) (.seq (.ops r127_2) (.seq (.seq (.ops r127_3) (.block 0 (.loop l127_0))) (.seq (.seq (.ops r127_11) (.cond (.s 27) (.seq (.ops r127_12) (.ret)) (.skip))) (.seq (.ops r127_13) (.ret))))))
theorem m127 : mFun Try.prog Try.f127 x127 [.tmp 2] 1 = true := by kernel_rfl
theorem k127 : Callable Try.prog 127 := callable_of (by kernel_rfl)

/-! loop.example/g00360/impl.PointsOk -/
def r128_0 : XL := .op ⟨(some 2), none, .asg (.c ⟨.one, [.bool false]⟩) false, [2, 2]⟩ <|
  .nil
def r128_1 : XL := .op ⟨(some 5), none, .mv (.s 0), []⟩ <|
  .op ⟨(some 6), none, .len false (.s 5), []⟩ <|
  .op ⟨(some 7), none, .mv (.c ⟨.one, [.int .i64 0]⟩), []⟩ <|
  .nil
def r128_2 : XL := .op ⟨(some 8), none, .bin .lss (.s 7) (.s 6), []⟩ <|
  .nil
def r128_3 : XL := .op ⟨(some 9), none, .mv (.s 7), []⟩ <|
  .op ⟨(some 10), none, .iad 2 (.s 5) (.s 7), []⟩ <|
  .op ⟨(some 11), none, .load true 2 (.s 10), []⟩ <|
  .op ⟨(some 4), none, .alloc [.int .i64 0, .int .i64 0], []⟩ <|
  .op ⟨(some 3), none, .asg (.s 9) false, []⟩ <|
  .op ⟨none, none, .store 2 (.s 4) (.s 11) false, [8, 11]⟩ <|
  .nil
def r128_4v : List XD := [⟨⟨(some 12), none, .fad 0 (.s 4), []⟩, [], []⟩,
  ⟨⟨(some 13), none, .load false 1 (.s 12), []⟩, [0], []⟩,
  ⟨⟨(some 14), none, .call 32 [(false, .s 13), (false, .c ⟨.one, [.int .i64 0]⟩), (false, .c ⟨.one, [.int .i64 1099511627776]⟩)] [], []⟩, [0, 1], []⟩,
  ⟨⟨(some 15), none, .un .not (.s 14), []⟩, [0, 1, 2], []⟩,
  ⟨⟨(some 16), none, .mv (.s 15), []⟩, [0, 1, 2, 3], []⟩,
  ⟨⟨(some 17), (some (16, false)), .fad 1 (.s 4), []⟩, [0, 1, 2, 3, 4], []⟩,
  ⟨⟨(some 18), (some (16, false)), .load false 1 (.s 17), []⟩, [0, 1, 2, 3, 4, 5], []⟩,
  ⟨⟨(some 19), (some (16, false)), .call 32 [(false, .s 18), (false, .c ⟨.one, [.int .i64 (-1099511627776)]⟩), (false, .c ⟨.one, [.int .i64 1099511627776]⟩)] [], []⟩, [0, 1, 2, 3, 4, 5, 6], []⟩,
  ⟨⟨(some 20), (some (16, false)), .un .not (.s 19), []⟩, [0, 1, 2, 3, 4, 5, 6, 7], []⟩,
  ⟨⟨(some 21), none, .pick (.s 16) (.c ⟨.one, [.bool true]⟩) (.s 20), []⟩, [0, 1, 2, 3, 4, 5, 6, 7, 8], []⟩,
  ⟨⟨(some 22), none, .mv (.s 21), []⟩, [0, 1, 2, 3, 4, 5, 6, 7, 8, 9], []⟩,
  ⟨⟨(some 23), (some (22, false)), .mv (.s 3), []⟩, [0, 1, 2, 3, 4, 5, 6, 7, 8, 9, 10], []⟩,
  ⟨⟨(some 24), (some (22, false)), .bin .gtr (.s 23) (.c ⟨.one, [.int .i64 0]⟩), []⟩, [0, 1, 2, 3, 4, 5, 6, 7, 8, 9, 10, 11], []⟩,
  ⟨⟨(some 25), (some (22, false)), .mv (.s 24), []⟩, [0, 1, 2, 3, 4, 5, 6, 7, 8, 9, 10, 11, 12], []⟩,
  ⟨⟨(some 26), (some (25, true)), .mv (.s 0), []⟩, [0, 1, 2, 3, 4, 5, 6, 7, 8, 9, 10, 11, 12, 13], []⟩,
  ⟨⟨(some 27), (some (25, true)), .mv (.s 3), []⟩, [0, 1, 2, 3, 4, 5, 6, 7, 8, 9, 10, 11, 12, 13], [26]⟩,
  ⟨⟨(some 28), (some (25, true)), .bin .sub (.s 27) (.c ⟨.one, [.int .i64 1]⟩), []⟩, [0, 1, 2, 3, 4, 5, 6, 7, 8, 9, 10, 11, 12, 13, 15], [26]⟩,
  ⟨⟨(some 29), (some (25, true)), .iad 2 (.s 26) (.s 28), []⟩, [0, 1, 2, 3, 4, 5, 6, 7, 8, 9, 10, 11, 12, 13, 14, 15, 16], []⟩,
  ⟨⟨(some 30), (some (25, true)), .fad 0 (.s 29), []⟩, [0, 1, 2, 3, 4, 5, 6, 7, 8, 9, 10, 11, 12, 13, 14, 15, 16, 17], []⟩,
  ⟨⟨(some 31), (some (25, true)), .load false 1 (.s 30), []⟩, [0, 1, 2, 3, 4, 5, 6, 7, 8, 9, 10, 11, 12, 13, 14, 15, 16, 17, 18], []⟩,
  ⟨⟨(some 32), (some (25, true)), .fad 0 (.s 4), []⟩, [0, 1, 2, 3, 4, 5, 6, 7, 8, 9, 10, 11, 12, 13], [26, 27, 28, 29, 30, 31]⟩,
  ⟨⟨(some 33), (some (25, true)), .load false 1 (.s 32), []⟩, [0, 1, 2, 3, 4, 5, 6, 7, 8, 9, 10, 11, 12, 13, 20], [26, 27, 28, 29, 30, 31]⟩,
  ⟨⟨(some 34), (some (25, true)), .bin .geq (.s 31) (.s 33), []⟩, [0, 1, 2, 3, 4, 5, 6, 7, 8, 9, 10, 11, 12, 13, 14, 15, 16, 17, 18, 19, 20, 21], []⟩,
  ⟨⟨(some 35), (some (22, false)), .pick (.s 25) (.s 34) (.c ⟨.one, [.bool false]⟩), []⟩, [0, 1, 2, 3, 4, 5, 6, 7, 8, 9, 10, 11, 12, 13, 14, 15, 16, 17, 18, 19, 20, 21, 22], []⟩]
def r128_4t : List XD := [⟨⟨(some 36), none, .pick (.s 22) (.c ⟨.one, [.bool true]⟩) (.s 35), [3, 3, 12, 16, 21, 22]⟩, [0, 1, 2, 3, 4, 5, 6, 7, 8, 9, 10, 11, 12, 13, 14, 15, 16, 17, 18, 19, 20, 21, 22, 23], []⟩]
def r128_5 : XL := .op ⟨(some 2), none, .asg (.c ⟨.one, [.bool false]⟩) false, [0, 0, 4, 36]⟩ <|
  .nil
def r128_6 : XL := .op ⟨(some 37), none, .bin .add (.s 7) (.c ⟨.one, [.int .i64 1]⟩), []⟩ <|
  .op ⟨(some 7), none, .mv (.s 37), [2, 2, 36, 37]⟩ <|
  .nil
def l128_0 : XCode := .keep [0, 5, 6, 7] [] (.seq (.ops r128_2) (.seq (.cond (.s 8) (.skip) (.exit 0)) (.seq (.block 1 (.seq (.ops r128_3) (.seq (.any r128_4v r128_4t) (.cond (.s 36) (.seq (.ops r128_5) (.ret)) (.skip))))) (.ops r128_6))))
def r128_7 : XL := .op ⟨(some 38), none, .mv (.s 0), [4, 35]⟩ <|
  .op ⟨(some 39), none, .len false (.s 38), []⟩ <|
  .op ⟨(some 40), none, .bin .leq (.s 39) (.c ⟨.one, [.int .i64 60]⟩), []⟩ <|
  .op ⟨(some 2), none, .asg (.s 40) false, [0, 0, 38, 40]⟩ <|
  .nil
def x128 : XCode := .seq (.ops r128_0) (.seq (.seq (.ops r128_1) (.block 0 (.loop l128_0))) (.seq (.ops r128_7) (.ret)))
theorem m128 : mFun Try.prog Try.f128 x128 [.tmp 2] 1 = true := by kernel_rfl
theorem k128 : Callable Try.prog 128 := callable_of (by kernel_rfl)

/-! (*loop.example/g00360/impl.reader).kind -/
def r129_0 : XL := .op ⟨(some 2), none, .asg (.c ⟨.one, [.int .i64 0]⟩) false, [2, 2]⟩ <|
  .nil
def r129_1 : XL := .op ⟨(some 4), none, .mv (.s 0), []⟩ <|
  .op ⟨(some 5), none, .call 117 [(false, .s 4), (false, .c ⟨.one, [.int .i64 1]⟩)] [1000000], []⟩ <|
  .op ⟨(some 3), none, .asg (.s 5) false, [0, 0, 4, 5]⟩ <|
  .nil
def r129_2 : XL := .op ⟨(some 6), none, .mv (.s 3), []⟩ <|
  .op ⟨(some 7), none, .bin .eql (.s 6) (.c ⟨.one, [.str ⟨#[]⟩]⟩), [6, 6]⟩ <|
  .nil
def r129_3 : XL := .op ⟨(some 2), none, .asg (.c ⟨.one, [.int .i64 0]⟩) false, [3, 7]⟩ <|
  .nil
def r129_4 : XL := .op ⟨(some 8), none, .mv (.s 3), []⟩ <|
  .op ⟨(some 9), none, .idx (.s 8) (.c ⟨.one, [.int .i64 0]⟩), []⟩ <|
  .op ⟨(some 10), none, .convI .i64 (.s 9), []⟩ <|
  .op ⟨(some 2), none, .asg (.s 10) false, [3, 10]⟩ <|
  .nil
def x129 : XCode := .seq (.ops r129_0) (.seq (.ops r129_1) (.seq (.seq (.ops r129_2) (.cond (.s 7) (.seq (.ops r129_3) (.ret)) (.skip))) (.seq (.ops r129_4) (.ret))))
theorem m129 : mFun Try.prog Try.f129 x129 [.tmp 2] 1 = true := by kernel_rfl
theorem k129 : Callable Try.prog 129 := callable_of (by kernel_rfl)

/-! loop.example/g00360/impl.spanOk -/
def r135_0 : XL := .op ⟨(some 1), none, .box (.s 0) false, []⟩ <|
  .op ⟨(some 2), none, .asg (.c ⟨.one, [.bool false]⟩) false, [0, 0, 2, 2]⟩ <|
  .nil
def r135_1 : XL := .op ⟨(some 3), none, .fad 2 (.s 1), []⟩ <|
  .op ⟨(some 4), none, .load false 1 (.s 3), []⟩ <|
  .op ⟨(some 5), none, .bin .geq (.s 4) (.c ⟨.one, [.int .i64 0]⟩), []⟩ <|
  .op ⟨(some 6), none, .mv (.s 5), []⟩ <|
  .sc 6 true (.op ⟨(some 7), (some (6, true)), .fad 2 (.s 1), []⟩ <|
  .op ⟨(some 8), (some (6, true)), .load false 1 (.s 7), []⟩ <|
  .op ⟨(some 9), (some (6, true)), .fad 3 (.s 1), []⟩ <|
  .op ⟨(some 10), (some (6, true)), .load false 1 (.s 9), []⟩ <|
  .op ⟨(some 11), (some (6, true)), .bin .lss (.s 8) (.s 10), []⟩ <|
  .nil) [7, 8, 9, 10, 11] 12 none (.s 6) (.s 11) [] <|
  .op ⟨(some 13), none, .mv (.s 12), []⟩ <|
  .sc 13 true (.op ⟨(some 14), (some (13, true)), .fad 3 (.s 1), []⟩ <|
  .op ⟨(some 15), (some (13, true)), .load false 1 (.s 14), []⟩ <|
  .op ⟨(some 16), (some (13, true)), .bin .leq (.s 15) (.c ⟨.one, [.int .i64 1099511627776]⟩), []⟩ <|
  .nil) [14, 15, 16] 17 none (.s 13) (.s 16) [1, 13] <|
  .op ⟨(some 2), none, .asg (.s 17) false, [17, 17]⟩ <|
  .nil
def x135 : XCode := .seq (.ops r135_0) (.seq (.ops r135_1) (.ret))
theorem m135 : mFun Try.prog Try.f135 x135 [.tmp 2] 1 = true := by kernel_rfl
theorem k135 : Callable Try.prog 135 := callable_of (by kernel_rfl)

/-! loop.example/g00360/spec.ReadFixed -/
def r138_0 : XL := .op ⟨(some 4), none, .asg (.c ⟨.one, [.int .i64 0]⟩) false, []⟩ <|
  .op ⟨(some 5), none, .asg (.c ⟨.one, [.bool false]⟩) false, [4, 5]⟩ <|
  .nil
def r138_1 : XL := .op ⟨(some 8), none, .mv (.s 1), []⟩ <|
  .op ⟨(some 9), none, .call 36 [(false, .s 8), (false, .c ⟨.one, [.int .i64 1]⟩), (false, .c ⟨.one, [.int .i64 7]⟩)] [], []⟩ <|
  .op ⟨(some 10), none, .un .not (.s 9), []⟩ <|
  .op ⟨(some 11), none, .mv (.s 10), []⟩ <|
  .sc 11 false (.op ⟨(some 12), (some (11, false)), .mv (.s 0), []⟩ <|
  .op ⟨(some 13), (some (11, false)), .len true (.s 12), []⟩ <|
  .op ⟨(some 14), (some (11, false)), .mv (.s 1), []⟩ <|
  .op ⟨(some 15), (some (11, false)), .bin .lss (.s 13) (.s 14), []⟩ <|
  .nil) [12, 13, 14, 15] 16 none (.s 11) (.s 15) [8, 11] <|
  .nil
def r138_2 : XL := .op ⟨(some 4), none, .asg (.c ⟨.one, [.int .i64 0]⟩) false, []⟩ <|
  .op ⟨(some 5), none, .asg (.c ⟨.one, [.bool false]⟩) false, [0, 1, 16, 16]⟩ <|
  .nil
def r138_3 : XL := .op ⟨(some 6), none, .asg (.c ⟨.one, [.int .i64 0]⟩) false, [4, 5, 16, 16]⟩ <|
  .nil
def r138_4 : XL := .op ⟨(some 7), none, .asg (.c ⟨.one, [.int .i64 0]⟩) false, []⟩ <|
  .nil
def r138_5 : XL := .op ⟨(some 17), none, .mv (.s 7), []⟩ <|
  .op ⟨(some 18), none, .mv (.s 1), []⟩ <|
  .op ⟨(some 19), none, .bin .lss (.s 17) (.s 18), [17, 18]⟩ <|
  .nil
def r138_7 : XL := .op ⟨(some 22), none, .mv (.s 6), []⟩ <|
  .op ⟨(some 23), none, .bin .mul (.s 22) (.c ⟨.one, [.int .i64 256]⟩), []⟩ <|
  .op ⟨(some 24), none, .mv (.s 0), []⟩ <|
  .op ⟨(some 25), none, .mv (.s 7), []⟩ <|
  .op ⟨(some 26), none, .idx (.s 24) (.s 25), []⟩ <|
  .op ⟨(some 27), none, .convI .i64 (.s 26), [6, 6, 19, 22, 24, 26]⟩ <|
  .op ⟨(some 28), none, .bin .add (.s 23) (.s 27), []⟩ <|
  .op ⟨(some 6), none, .asg (.s 28) false, [23, 28]⟩ <|
  .nil
def r138_6 : XL := .op ⟨(some 20), none, .mv (.s 7), []⟩ <|
  .op ⟨(some 21), none, .bin .add (.s 20) (.c ⟨.one, [.int .i64 1]⟩), []⟩ <|
  .op ⟨(some 7), none, .asg (.s 21) false, [20, 21]⟩ <|
  .nil
def l138_0 : XCode := .keep [0, 1, 6, 7] [] (.seq (.seq (.ops r138_5) (.cond (.s 19) (.skip) (.exit 0))) (.seq (.block 1 (.ops r138_7)) (.ops r138_6)))
def r138_8 : XL := .op ⟨(some 29), none, .mv (.s 6), []⟩ <|
  .op ⟨(some 4), none, .asg (.s 29) true, []⟩ <|
  .op ⟨(some 5), none, .asg (.c ⟨.one, [.bool true]⟩) false, [0, 1, 6, 29]⟩ <|
  .nil
def x138 : XCode := .seq (.ops r138_0) (.seq (.seq (.ops r138_1) (.cond (.s 16) (.seq (.ops r138_2) (.ret)) (.skip))) (.seq (.ops r138_3) (.seq (.seq (.ops r138_4) (.block 0 (.loop l138_0))) (.seq (.ops r138_8) (.ret)))))
theorem m138 : mFun Try.prog Try.f138 x138 [.tmp 4, .tmp 5] 2 = true := by kernel_rfl
theorem k138 : Callable Try.prog 138 := callable_of (by kernel_rfl)

/-! loop.example/g00360/spec.Frame -/
def r139_0 : XL := .op ⟨(some 2), none, .asg (.c ⟨.one, [.str ⟨#[]⟩]⟩) false, [2, 2]⟩ <|
  .nil
def r139_1 : XL := .op ⟨(some 4), none, .mv (.s 0), []⟩ <|
  .op ⟨(some 5), none, .len true (.s 4), []⟩ <|
  .op ⟨(some 6), none, .bin .eql (.s 5) (.c ⟨.one, [.int .i64 0]⟩), []⟩ <|
  .op ⟨(some 7), none, .mv (.s 6), []⟩ <|
  .sc 7 false (.op ⟨(some 8), (some (7, false)), .mv (.s 0), []⟩ <|
  .op ⟨(some 9), (some (7, false)), .len true (.s 8), []⟩ <|
  .op ⟨(some 10), (some (7, false)), .bin .gtr (.s 9) (.c ⟨.one, [.int .i64 2000]⟩), []⟩ <|
  .nil) [8, 9, 10] 11 none (.s 7) (.s 10) [4, 7] <|
  .nil
def r139_2 : XL := .op ⟨(some 2), none, .asg (.c ⟨.one, [.str ⟨#[]⟩]⟩) false, [0, 0, 11, 11]⟩ <|
  .nil
def r139_3 : XL := .op ⟨(some 12), none, .mv (.s 0), []⟩ <|
  .op ⟨(some 13), none, .len true (.s 12), []⟩ <|
  .op ⟨(some 14), none, .call 55 [(false, .s 13), (false, .c ⟨.one, [.int .i64 4]⟩)] [], []⟩ <|
  .op ⟨(some 3), none, .asg (.s 14) false, [2, 2, 11, 14]⟩ <|
  .nil
def r139_4 : XL := .op ⟨(some 15), none, .mv (.s 3), []⟩ <|
  .op ⟨(some 16), none, .mv (.s 3), []⟩ <|
  .op ⟨(some 17), none, .mv (.s 0), []⟩ <|
  .op ⟨(some 18), none, .bin .add (.s 16) (.s 17), []⟩ <|
  .op ⟨(some 19), none, .call 56 [(false, .s 18)] [], []⟩ <|
  .op ⟨(some 20), none, .call 55 [(false, .s 19), (false, .c ⟨.one, [.int .i64 4]⟩)] [], []⟩ <|
  .op ⟨(some 21), none, .bin .add (.s 15) (.s 20), [3, 20]⟩ <|
  .op ⟨(some 22), none, .mv (.s 0), []⟩ <|
  .op ⟨(some 23), none, .bin .add (.s 21) (.s 22), []⟩ <|
  .op ⟨(some 2), none, .asg (.s 23) false, [0, 0, 21, 23]⟩ <|
  .nil
def x139 : XCode := .seq (.ops r139_0) (.seq (.seq (.ops r139_1) (.cond (.s 11) (.seq (.ops r139_2) (.ret)) (.skip))) (.seq (.ops r139_3) (.seq (.ops r139_4) (.ret))))
theorem m139 : mFun Try.prog Try.f139 x139 [.tmp 2] 1 = true := by kernel_rfl
theorem k139 : Callable Try.prog 139 := callable_of (by kernel_rfl)

/-! loop.example/g00360/spec.l7Vars -/
def r140_0 : XL := .op ⟨(some 4), none, .asg (.c ⟨.one, [.own 1 []]⟩) false, []⟩ <|
  .op ⟨(some 5), none, .asg (.c ⟨.one, [.int .i64 0]⟩) false, [4, 5]⟩ <|
  .nil
def r140_1 : XL := .op ⟨(some 11), none, .bslice 1 [], []⟩ <|
  .op ⟨(some 6), none, .asg (.s 11) false, [11, 11]⟩ <|
  .nil
def r140_2 : XL := .op ⟨(some 7), none, .asg (.c ⟨.one, [.int .i64 0]⟩) false, []⟩ <|
  .nil
def r140_3 : XL := .op ⟨(some 8), none, .asg (.c ⟨.one, [.int .i64 0]⟩) false, []⟩ <|
  .nil
def r140_4 : XL := .op ⟨(some 12), none, .mv (.s 8), []⟩ <|
  .op ⟨(some 13), none, .mv (.s 1), []⟩ <|
  .op ⟨(some 14), none, .bin .lss (.s 12) (.s 13), [12, 13]⟩ <|
  .nil
def r140_6 : XL := .op ⟨(some 18), none, .mv (.s 0), []⟩ <|
  .op ⟨(some 19), none, .mv (.s 7), []⟩ <|
  .op ⟨(some 20), none, .slcS (.s 18) (some (.s 19)) none, []⟩ <|
  .op ⟨(some 21), none, .call 116 [(false, .s 20)] [], []⟩ <|
  .op ⟨(some 17), none, .mv (.s 21), []⟩ <|
  .op ⟨(some 22), none, .ext 0 (.s 17), []⟩ <|
  .op ⟨(some 23), none, .ext 1 (.s 17), [14, 21]⟩ <|
  .op ⟨(some 9), none, .asg (.s 22) true, []⟩ <|
  .op ⟨(some 10), none, .asg (.s 23) true, [22, 23]⟩ <|
  .nil
def r140_7 : XL := .op ⟨(some 24), none, .mv (.s 10), []⟩ <|
  .op ⟨(some 25), none, .bin .eql (.s 24) (.c ⟨.one, [.int .i64 0]⟩), [24, 24]⟩ <|
  .nil
def r140_8 : XL := .op ⟨(some 26), none, .mv (.s 6), [0, 1, 7, 25]⟩ <|
  .op ⟨(some 4), none, .asg (.s 26) true, []⟩ <|
  .op ⟨(some 5), none, .asg (.c ⟨.one, [.int .i64 (-1)]⟩) false, [6, 26]⟩ <|
  .nil
def r140_9 : XL := .op ⟨(some 27), none, .mv (.s 6), []⟩ <|
  .op ⟨(some 28), none, .mv (.s 9), []⟩ <|
  .op ⟨(some 29), none, .bslice 1 [.s 28], []⟩ <|
  .op ⟨(some 30), none, .app 1 8 (.s 27) (.s 29) false, [4, 6, 9, 9, 25, 29]⟩ <|
  .op ⟨(some 6), none, .asg (.s 30) false, [30, 30]⟩ <|
  .nil
def r140_10 : XL := .op ⟨(some 31), none, .mv (.s 7), []⟩ <|
  .op ⟨(some 32), none, .mv (.s 10), []⟩ <|
  .op ⟨(some 33), none, .bin .add (.s 31) (.s 32), []⟩ <|
  .op ⟨(some 7), none, .asg (.s 33) false, [10, 33]⟩ <|
  .nil
def r140_5 : XL := .op ⟨(some 15), none, .mv (.s 8), []⟩ <|
  .op ⟨(some 16), none, .bin .add (.s 15) (.c ⟨.one, [.int .i64 1]⟩), []⟩ <|
  .op ⟨(some 8), none, .asg (.s 16) false, [15, 16]⟩ <|
  .nil
def l140_0 : XCode := .keep [0, 1, 6, 7, 8] [] (.seq (.seq (.ops r140_4) (.cond (.s 14) (.skip) (.exit 0))) (.seq (.block 1 (.seq (.ops r140_6) (.seq (.seq (.ops r140_7) (.cond (.s 25) (.seq (.ops r140_8) (.ret)) (.skip))) (.seq (.ops r140_9) (.ops r140_10))))) (.ops r140_5)))
def r140_11 : XL := .op ⟨(some 34), none, .mv (.s 6), []⟩ <|
  .op ⟨(some 35), none, .mv (.s 7), []⟩ <|
  .op ⟨(some 4), none, .asg (.s 34) true, [0, 1, 6, 34]⟩ <|
  .op ⟨(some 5), none, .asg (.s 35) true, [35, 35]⟩ <|
  .nil
def x140 : XCode := .seq (.ops r140_0) (.seq (.ops r140_1) (.seq (.ops r140_2) (.seq (.seq (.ops r140_3) (.block 0 (.loop l140_0))) (.seq (.ops r140_11) (.ret)))))
theorem m140 : mFun Try.prog Try.f140 x140 [.tmp 4, .tmp 5] 2 = true := by kernel_rfl
theorem k140 : Callable Try.prog 140 := callable_of (by kernel_rfl)

/-! loop.example/g00360/spec.l7Un -/
def r141_0 : XL := .op ⟨(some 2), none, .asg (.c ⟨.one, [.int .i64 0]⟩) false, [2, 2]⟩ <|
  .nil
def r141_1 : XL := .op ⟨(some 6), none, .mv (.s 0), []⟩ <|
  .op ⟨(some 7), none, .call 147 [(false, .s 6)] [], []⟩ <|
  .op ⟨(some 5), none, .mv (.s 7), []⟩ <|
  .op ⟨(some 8), none, .ext 0 (.s 5), []⟩ <|
  .op ⟨(some 9), none, .ext 1 (.s 5), []⟩ <|
  .op ⟨(some 3), none, .asg (.s 8) true, []⟩ <|
  .op ⟨(some 4), none, .asg (.s 9) true, [0, 0, 4, 9]⟩ <|
  .nil
def r141_2 : XL := .op ⟨(some 10), none, .mv (.s 3), []⟩ <|
  .op ⟨(some 2), none, .asg (.s 10) true, [3, 10]⟩ <|
  .nil
def x141 : XCode := .seq (.ops r141_0) (.seq (.ops r141_1) (.seq (.ops r141_2) (.ret)))
theorem m141 : mFun Try.prog Try.f141 x141 [.tmp 2] 1 = true := by kernel_rfl
theorem k141 : Callable Try.prog 141 := callable_of (by kernel_rfl)

/-! loop.example/g00360/spec.ShowTimes -/
def r142_0 : XL := .op ⟨(some 2), none, .asg (.c ⟨.one, [.str ⟨#[]⟩]⟩) false, [2, 2]⟩ <|
  .nil
def r142_1 : XL := .op ⟨(some 6), none, .mv (.s 0), []⟩ <|
  .op ⟨(some 7), none, .call 148 [(false, .s 6)] [], []⟩ <|
  .op ⟨(some 8), none, .un .not (.s 7), [6, 7]⟩ <|
  .nil
def r142_2 : XL := .op ⟨(some 2), none, .asg (.c ⟨.one, [.str ⟨#[]⟩]⟩) false, [0, 0, 8, 8]⟩ <|
  .nil
def r142_3 : XL := .op ⟨(some 9), none, .mv (.s 0), []⟩ <|
  .op ⟨(some 10), none, .iad 1 (.s 9) (.c ⟨.one, [.int .i64 0]⟩), []⟩ <|
  .op ⟨(some 11), none, .load false 1 (.s 10), []⟩ <|
  .op ⟨(some 12), none, .call 53 [(false, .s 11)] [], []⟩ <|
  .op ⟨(some 3), none, .asg (.s 12) false, [2, 2, 8, 12]⟩ <|
  .nil
def r142_4 : XL := .op ⟨(some 4), none, .asg (.c ⟨.one, [.int .i64 1]⟩) false, []⟩ <|
  .nil
def r142_5 : XL := .op ⟨(some 13), none, .mv (.s 4), []⟩ <|
  .op ⟨(some 14), none, .mv (.s 0), []⟩ <|
  .op ⟨(some 15), none, .len false (.s 14), []⟩ <|
  .op ⟨(some 16), none, .bin .lss (.s 13) (.s 15), [13, 15]⟩ <|
  .nil
def r142_7v : List XD := [⟨⟨(some 19), none, .mv (.s 0), []⟩, [], []⟩,
  ⟨⟨(some 20), none, .mv (.s 4), []⟩, [], [19]⟩,
  ⟨⟨(some 21), none, .iad 1 (.s 19) (.s 20), []⟩, [0, 1], []⟩,
  ⟨⟨(some 22), none, .load false 1 (.s 21), []⟩, [0, 1, 2], []⟩,
  ⟨⟨(some 23), none, .mv (.s 0), []⟩, [], [19, 20, 21, 22]⟩,
  ⟨⟨(some 24), none, .mv (.s 4), []⟩, [], [19, 20, 21, 22, 23]⟩,
  ⟨⟨(some 25), none, .bin .sub (.s 24) (.c ⟨.one, [.int .i64 1]⟩), []⟩, [5], [19, 20, 21, 22, 23]⟩,
  ⟨⟨(some 26), none, .iad 1 (.s 23) (.s 25), []⟩, [4, 5, 6], [19, 20, 21, 22]⟩,
  ⟨⟨(some 27), none, .load false 1 (.s 26), []⟩, [4, 5, 6, 7], [19, 20, 21, 22]⟩]
def r142_7t : List XD := [⟨⟨(some 28), none, .bin .sub (.s 22) (.s 27), []⟩, [0, 1, 2, 3, 4, 5, 6, 7, 8], []⟩,
  ⟨⟨(some 5), none, .asg (.s 28) false, [16, 28]⟩, [0, 1, 2, 3, 4, 5, 6, 7, 8, 9], []⟩]
def r142_8 : XL := .op ⟨(some 29), none, .mv (.s 4), []⟩ <|
  .op ⟨(some 30), none, .bin .eql (.s 29) (.c ⟨.one, [.int .i64 1]⟩), [29, 29]⟩ <|
  .nil
def r142_9 : XL := .op ⟨(some 31), none, .mv (.s 3), []⟩ <|
  .op ⟨(some 32), none, .mv (.s 5), []⟩ <|
  .op ⟨(some 33), none, .call 53 [(false, .s 32)] [], []⟩ <|
  .op ⟨(some 34), none, .bin .add (.s 31) (.s 33), [3, 3, 5, 33]⟩ <|
  .op ⟨(some 3), none, .asg (.s 34) false, [34, 34]⟩ <|
  .nil
def r142_10v : List XD := [⟨⟨(some 35), none, .mv (.s 3), []⟩, [], []⟩,
  ⟨⟨(some 36), none, .mv (.s 5), []⟩, [], [35]⟩,
  ⟨⟨(some 37), none, .mv (.s 0), []⟩, [], [35, 36]⟩,
  ⟨⟨(some 38), none, .mv (.s 4), []⟩, [], [35, 36, 37]⟩,
  ⟨⟨(some 39), none, .bin .sub (.s 38) (.c ⟨.one, [.int .i64 1]⟩), []⟩, [3], [35, 36, 37]⟩,
  ⟨⟨(some 40), none, .iad 1 (.s 37) (.s 39), []⟩, [2, 3, 4], [35, 36]⟩,
  ⟨⟨(some 41), none, .load false 1 (.s 40), []⟩, [2, 3, 4, 5], [35, 36]⟩,
  ⟨⟨(some 42), none, .mv (.s 0), []⟩, [], [35, 36, 37, 38, 39, 40, 41]⟩,
  ⟨⟨(some 43), none, .mv (.s 4), []⟩, [], [35, 36, 37, 38, 39, 40, 41, 42]⟩,
  ⟨⟨(some 44), none, .bin .sub (.s 43) (.c ⟨.one, [.int .i64 2]⟩), []⟩, [8], [35, 36, 37, 38, 39, 40, 41, 42]⟩,
  ⟨⟨(some 45), none, .iad 1 (.s 42) (.s 44), []⟩, [7, 8, 9], [35, 36, 37, 38, 39, 40, 41]⟩,
  ⟨⟨(some 46), none, .load false 1 (.s 45), []⟩, [7, 8, 9, 10], [35, 36, 37, 38, 39, 40, 41]⟩,
  ⟨⟨(some 47), none, .bin .sub (.s 41) (.s 46), []⟩, [2, 3, 4, 5, 6, 7, 8, 9, 10, 11], [35, 36]⟩,
  ⟨⟨(some 48), none, .bin .sub (.s 36) (.s 47), []⟩, [1, 2, 3, 4, 5, 6, 7, 8, 9, 10, 11, 12], [35]⟩,
  ⟨⟨(some 49), none, .call 149 [(false, .s 48)] [], []⟩, [1, 2, 3, 4, 5, 6, 7, 8, 9, 10, 11, 12, 13], [35]⟩,
  ⟨⟨(some 50), none, .call 53 [(false, .s 49)] [], []⟩, [1, 2, 3, 4, 5, 6, 7, 8, 9, 10, 11, 12, 13, 14], [35]⟩]
def r142_10t : List XD := [⟨⟨(some 51), none, .bin .add (.s 35) (.s 50), []⟩, [0, 1, 2, 3, 4, 5, 6, 7, 8, 9, 10, 11, 12, 13, 14, 15], []⟩,
  ⟨⟨(some 3), none, .asg (.s 51) false, [5, 51]⟩, [0, 1, 2, 3, 4, 5, 6, 7, 8, 9, 10, 11, 12, 13, 14, 15, 16], []⟩]
def r142_6 : XL := .op ⟨(some 17), none, .mv (.s 4), []⟩ <|
  .op ⟨(some 18), none, .bin .add (.s 17) (.c ⟨.one, [.int .i64 1]⟩), []⟩ <|
  .op ⟨(some 4), none, .asg (.s 18) false, [17, 18]⟩ <|
  .nil
def l142_0 : XCode := .keep [0, 3, 4] [] (.seq (.seq (.ops r142_5) (.cond (.s 16) (.skip) (.exit 0))) (.seq (.block 1 (.seq (.any r142_7v r142_7t) (.seq (.ops r142_8) (.cond (.s 30) (.ops r142_9) (.any r142_10v r142_10t))))) (.ops r142_6)))
def r142_11 : XL := .op ⟨(some 52), none, .mv (.s 3), []⟩ <|
  .op ⟨(some 2), none, .asg (.s 52) true, [0, 0, 3, 52]⟩ <|
  .nil
def x142 : XCode := .seq (.ops r142_0) (.seq (.seq (.ops r142_1) (.cond (.s 8) (.seq (.ops r142_2) (.ret)) (.skip))) (.seq (.ops r142_3) (.seq (.seq (.ops r142_4) (.block 0 (.loop l142_0))) (.seq (.ops r142_11) (.ret)))))
theorem m142 : mFun Try.prog Try.f142 x142 [.tmp 2] 1 = true := by kernel_rfl
theorem k142 : Callable Try.prog 142 := callable_of (by kernel_rfl)

/-! loop.example/g00360/spec.ShowValues -/
def r143_0 : XL := .op ⟨(some 2), none, .asg (.c ⟨.one, [.str ⟨#[]⟩]⟩) false, [2, 2]⟩ <|
  .nil
def r143_1 : XL := .op ⟨(some 6), none, .mv (.s 0), []⟩ <|
  .op ⟨(some 7), none, .call 150 [(false, .s 6)] [], []⟩ <|
  .op ⟨(some 8), none, .un .not (.s 7), [6, 7]⟩ <|
  .nil
def r143_2 : XL := .op ⟨(some 2), none, .asg (.c ⟨.one, [.str ⟨#[]⟩]⟩) false, [0, 0, 8, 8]⟩ <|
  .nil
def r143_3 : XL := .op ⟨(some 3), none, .asg (.c ⟨.one, [.str ⟨#[]⟩]⟩) false, [2, 2, 8, 8]⟩ <|
  .nil
def r143_4 : XL := .op ⟨(some 4), none, .asg (.c ⟨.one, [.int .i64 0]⟩) false, []⟩ <|
  .nil
def r143_5 : XL := .op ⟨(some 5), none, .asg (.c ⟨.one, [.int .i64 0]⟩) false, []⟩ <|
  .nil
def r143_6 : XL := .op ⟨(some 9), none, .mv (.s 5), []⟩ <|
  .op ⟨(some 10), none, .mv (.s 0), []⟩ <|
  .op ⟨(some 11), none, .len false (.s 10), []⟩ <|
  .op ⟨(some 12), none, .bin .lss (.s 9) (.s 11), [9, 11]⟩ <|
  .nil
def r143_8 : XL := .op ⟨(some 15), none, .mv (.s 3), []⟩ <|
  .op ⟨(some 16), none, .mv (.s 0), []⟩ <|
  .op ⟨(some 17), none, .mv (.s 5), []⟩ <|
  .op ⟨(some 18), none, .iad 1 (.s 16) (.s 17), []⟩ <|
  .op ⟨(some 19), none, .load false 1 (.s 18), []⟩ <|
  .op ⟨(some 20), none, .mv (.s 4), [3, 4, 12, 12, 16, 18]⟩ <|
  .op ⟨(some 21), none, .bin .sub (.s 19) (.s 20), []⟩ <|
  .op ⟨(some 22), none, .call 149 [(false, .s 21)] [], []⟩ <|
  .op ⟨(some 23), none, .call 53 [(false, .s 22)] [], []⟩ <|
  .op ⟨(some 24), none, .bin .add (.s 15) (.s 23), [15, 23]⟩ <|
  .op ⟨(some 3), none, .asg (.s 24) false, [24, 24]⟩ <|
  .nil
def r143_9 : XL := .op ⟨(some 25), none, .mv (.s 0), []⟩ <|
  .op ⟨(some 26), none, .mv (.s 5), []⟩ <|
  .op ⟨(some 27), none, .iad 1 (.s 25) (.s 26), []⟩ <|
  .op ⟨(some 28), none, .load false 1 (.s 27), []⟩ <|
  .op ⟨(some 4), none, .asg (.s 28) false, [25, 28]⟩ <|
  .nil
def r143_7 : XL := .op ⟨(some 13), none, .mv (.s 5), []⟩ <|
  .op ⟨(some 14), none, .bin .add (.s 13) (.c ⟨.one, [.int .i64 1]⟩), []⟩ <|
  .op ⟨(some 5), none, .asg (.s 14) false, [13, 14]⟩ <|
  .nil
def l143_0 : XCode := .keep [0, 3, 4, 5] [] (.seq (.seq (.ops r143_6) (.cond (.s 12) (.skip) (.exit 0))) (.seq (.block 1 (.seq (.ops r143_8) (.ops r143_9))) (.ops r143_7)))
def r143_10 : XL := .op ⟨(some 29), none, .mv (.s 3), []⟩ <|
  .op ⟨(some 2), none, .asg (.s 29) true, [0, 0, 3, 29]⟩ <|
  .nil
def x143 : XCode := .seq (.ops r143_0) (.seq (.seq (.ops r143_1) (.cond (.s 8) (.seq (.ops r143_2) (.ret)) (.skip))) (.seq (.ops r143_3) (.seq (.ops r143_4) (.seq (.seq (.ops r143_5) (.block 0 (.loop l143_0))) (.seq (.ops r143_10) (.ret))))))
theorem m143 : mFun Try.prog Try.f143 x143 [.tmp 2] 1 = true := by kernel_rfl
theorem k143 : Callable Try.prog 143 := callable_of (by kernel_rfl)

/-! loop.example/g00360/impl.UnZig -/
def r144_0 : XL := .op ⟨(some 2), none, .asg (.c ⟨.one, [.int .i64 0]⟩) false, []⟩ <|
  .op ⟨(some 3), none, .asg (.c ⟨.one, [.bool false]⟩) false, [2, 3]⟩ <|
  .nil
def r144_1 : XL := .op ⟨(some 4), none, .mv (.s 0), []⟩ <|
  .op ⟨(some 5), none, .call 32 [(false, .s 4), (false, .c ⟨.one, [.int .i64 0]⟩), (false, .c ⟨.one, [.int .i64 281474976710656]⟩)] [], []⟩ <|
  .op ⟨(some 6), none, .un .not (.s 5), [4, 5]⟩ <|
  .nil
def r144_2 : XL := .op ⟨(some 2), none, .asg (.c ⟨.one, [.int .i64 0]⟩) false, []⟩ <|
  .op ⟨(some 3), none, .asg (.c ⟨.one, [.bool false]⟩) false, [0, 0, 6, 6]⟩ <|
  .nil
def r144_3 : XL := .op ⟨(some 7), none, .mv (.s 0), []⟩ <|
  .op ⟨(some 8), none, .bin .rem (.s 7) (.c ⟨.one, [.int .i64 2]⟩), []⟩ <|
  .op ⟨(some 9), none, .bin .eql (.s 8) (.c ⟨.one, [.int .i64 1]⟩), [2, 8]⟩ <|
  .nil
def r144_4 : XL := .op ⟨(some 10), none, .mv (.s 0), []⟩ <|
  .op ⟨(some 11), none, .bin .add (.s 10) (.c ⟨.one, [.int .i64 1]⟩), []⟩ <|
  .op ⟨(some 12), none, .un .neg (.s 11), []⟩ <|
  .op ⟨(some 13), none, .bin .quo (.s 12) (.c ⟨.one, [.int .i64 2]⟩), []⟩ <|
  .op ⟨(some 2), none, .asg (.s 13) false, [0, 0, 9, 13]⟩ <|
  .op ⟨(some 3), none, .asg (.c ⟨.one, [.bool true]⟩) false, []⟩ <|
  .nil
def r144_5 : XL := .op ⟨(some 14), none, .mv (.s 0), []⟩ <|
  .op ⟨(some 15), none, .bin .quo (.s 14) (.c ⟨.one, [.int .i64 2]⟩), []⟩ <|
  .op ⟨(some 2), none, .asg (.s 15) false, []⟩ <|
  .op ⟨(some 3), none, .asg (.c ⟨.one, [.bool true]⟩) false, [0, 0, 9, 15]⟩ <|
  .nil
def x144 : XCode := .seq (.ops r144_0) (.seq (.seq (.ops r144_1) (.cond (.s 6) (.seq (.ops r144_2) (.ret)) (.skip))) (.seq (.seq (.ops r144_3) (.cond (.s 9) (.seq (.ops r144_4) (.ret)) (.skip))) (.seq (.ops r144_5) (.ret))))
theorem m144 : mFun Try.prog Try.f144 x144 [.tmp 2, .tmp 3] 1 = true := by kernel_rfl
theorem k144 : Callable Try.prog 144 := callable_of (by kernel_rfl)

/-! strings.HasPrefix -/
def r145_0 : XL := .op ⟨(some 4), none, .asg (.c ⟨.one, [.bool false]⟩) false, [4, 4]⟩ <|
  .nil
def r145_1 : XL := .op ⟨(some 5), none, .mv (.s 0), []⟩ <|
  .op ⟨(some 6), none, .mv (.s 1), []⟩ <|
  .op ⟨(some 7), none, .call 151 [(false, .s 5), (false, .s 6)] [], []⟩ <|
  .op ⟨(some 4), none, .asg (.s 7) false, [0, 1, 5, 7]⟩ <|
  .nil
def x145 : XCode := .seq (.ops r145_0) (.seq (.ops r145_1) (.ret))
theorem m145 : mFun Try.prog Try.f145 x145 [.tmp 4] 2 = true := by kernel_rfl
theorem k145 : Callable Try.prog 145 := callable_of (by kernel_rfl)

/-! loop.example/g00360/impl.zig -/
def r146_0 : XL := .op ⟨(some 2), none, .asg (.c ⟨.one, [.str ⟨#[]⟩]⟩) false, [2, 2]⟩ <|
  .nil
def r146_1 : XL := .op ⟨(some 3), none, .mv (.s 0), []⟩ <|
  .op ⟨(some 4), none, .call 152 [(false, .s 3)] [], []⟩ <|
  .op ⟨(some 5), none, .call 57 [(false, .s 4)] [], []⟩ <|
  .op ⟨(some 2), none, .asg (.s 5) false, [0, 0, 3, 5]⟩ <|
  .nil
def x146 : XCode := .seq (.ops r146_0) (.seq (.ops r146_1) (.ret))
theorem m146 : mFun Try.prog Try.f146 x146 [.tmp 2] 1 = true := by kernel_rfl
theorem k146 : Callable Try.prog 146 := callable_of (by kernel_rfl)

/-! loop.example/g00360/spec.UnZig -/
def r147_0 : XL := .op ⟨(some 2), none, .asg (.c ⟨.one, [.int .i64 0]⟩) false, []⟩ <|
  .op ⟨(some 3), none, .asg (.c ⟨.one, [.bool false]⟩) false, [2, 3]⟩ <|
  .nil
def r147_1 : XL := .op ⟨(some 5), none, .mv (.s 0), []⟩ <|
  .op ⟨(some 6), none, .bin .lss (.s 5) (.c ⟨.one, [.int .i64 0]⟩), []⟩ <|
  .op ⟨(some 7), none, .mv (.s 6), []⟩ <|
  .sc 7 false (.op ⟨(some 8), (some (7, false)), .mv (.s 0), []⟩ <|
  .op ⟨(some 9), (some (7, false)), .bin .gtr (.s 8) (.c ⟨.one, [.int .i64 281474976710656]⟩), []⟩ <|
  .nil) [8, 9] 10 none (.s 7) (.s 9) [5, 7] <|
  .nil
def r147_2 : XL := .op ⟨(some 2), none, .asg (.c ⟨.one, [.int .i64 0]⟩) false, []⟩ <|
  .op ⟨(some 3), none, .asg (.c ⟨.one, [.bool false]⟩) false, [0, 0, 10, 10]⟩ <|
  .nil
def r147_3 : XL := .op ⟨(some 11), none, .mv (.s 0), []⟩ <|
  .op ⟨(some 12), none, .bin .quo (.s 11) (.c ⟨.one, [.int .i64 2]⟩), []⟩ <|
  .op ⟨(some 4), none, .asg (.s 12) false, [2, 3, 10, 12]⟩ <|
  .nil
def r147_4 : XL := .op ⟨(some 13), none, .mv (.s 0), []⟩ <|
  .op ⟨(some 14), none, .bin .rem (.s 13) (.c ⟨.one, [.int .i64 2]⟩), []⟩ <|
  .op ⟨(some 15), none, .bin .eql (.s 14) (.c ⟨.one, [.int .i64 1]⟩), [13, 14]⟩ <|
  .nil
def r147_5 : XL := .op ⟨(some 16), none, .mv (.s 4), []⟩ <|
  .op ⟨(some 17), none, .un .neg (.s 16), []⟩ <|
  .op ⟨(some 18), none, .bin .sub (.s 17) (.c ⟨.one, [.int .i64 1]⟩), []⟩ <|
  .op ⟨(some 4), none, .asg (.s 18) false, [15, 18]⟩ <|
  .nil
def r147_6 : XL := .op ⟨(some 19), none, .mv (.s 4), []⟩ <|
  .op ⟨(some 20), none, .mv (.s 4), []⟩ <|
  .op ⟨(some 21), none, .call 149 [(false, .s 20)] [], []⟩ <|
  .op ⟨(some 22), none, .mv (.s 0), []⟩ <|
  .op ⟨(some 23), none, .bin .eql (.s 21) (.s 22), [0, 15, 20, 22]⟩ <|
  .op ⟨(some 2), none, .asg (.s 19) true, []⟩ <|
  .op ⟨(some 3), none, .asg (.s 23) false, [19, 23]⟩ <|
  .nil
def x147 : XCode := .seq (.ops r147_0) (.seq (.seq (.ops r147_1) (.cond (.s 10) (.seq (.ops r147_2) (.ret)) (.skip))) (.seq (.ops r147_3) (.seq (.seq (.ops r147_4) (.cond (.s 15) (.ops r147_5) (.skip))) (.seq (.ops r147_6) (.ret)))))
theorem m147 : mFun Try.prog Try.f147 x147 [.tmp 2, .tmp 3] 1 = true := by kernel_rfl
theorem k147 : Callable Try.prog 147 := callable_of (by kernel_rfl)

/-! loop.example/g00360/spec.l7Rise -/
def r148_0 : XL := .op ⟨(some 2), none, .asg (.c ⟨.one, [.bool false]⟩) false, [2, 2]⟩ <|
  .nil
def r148_1 : XL := .op ⟨(some 4), none, .mv (.s 0), []⟩ <|
  .op ⟨(some 5), none, .len false (.s 4), []⟩ <|
  .op ⟨(some 6), none, .call 36 [(false, .s 5), (false, .c ⟨.one, [.int .i64 1]⟩), (false, .c ⟨.one, [.int .i64 60]⟩)] [], []⟩ <|
  .op ⟨(some 7), none, .un .not (.s 6), [4, 6]⟩ <|
  .nil
def r148_2 : XL := .op ⟨(some 2), none, .asg (.c ⟨.one, [.bool false]⟩) false, [0, 0, 7, 7]⟩ <|
  .nil
def r148_3 : XL := .op ⟨(some 3), none, .asg (.c ⟨.one, [.int .i64 0]⟩) false, [2, 2, 7, 7]⟩ <|
  .nil
def r148_4 : XL := .op ⟨(some 8), none, .mv (.s 3), []⟩ <|
  .op ⟨(some 9), none, .mv (.s 0), []⟩ <|
  .op ⟨(some 10), none, .len false (.s 9), []⟩ <|
  .op ⟨(some 11), none, .bin .lss (.s 8) (.s 10), [8, 10]⟩ <|
  .nil
def r148_6v : List XD := [⟨⟨(some 14), none, .mv (.s 0), []⟩, [], []⟩,
  ⟨⟨(some 15), none, .mv (.s 3), []⟩, [], [14]⟩,
  ⟨⟨(some 16), none, .iad 1 (.s 14) (.s 15), []⟩, [0, 1], []⟩,
  ⟨⟨(some 17), none, .load false 1 (.s 16), []⟩, [0, 1, 2], []⟩,
  ⟨⟨(some 18), none, .call 36 [(false, .s 17), (false, .c ⟨.one, [.int .i64 0]⟩), (false, .c ⟨.one, [.int .i64 1099511627776]⟩)] [], []⟩, [0, 1, 2, 3], []⟩,
  ⟨⟨(some 19), none, .un .not (.s 18), []⟩, [0, 1, 2, 3, 4], []⟩,
  ⟨⟨(some 20), none, .mv (.s 19), []⟩, [0, 1, 2, 3, 4, 5], []⟩,
  ⟨⟨(some 21), (some (20, false)), .mv (.s 3), []⟩, [0, 1, 2, 3, 4, 5, 6], []⟩,
  ⟨⟨(some 22), (some (20, false)), .bin .gtr (.s 21) (.c ⟨.one, [.int .i64 0]⟩), []⟩, [0, 1, 2, 3, 4, 5, 6, 7], []⟩,
  ⟨⟨(some 23), (some (20, false)), .mv (.s 22), []⟩, [0, 1, 2, 3, 4, 5, 6, 7, 8], []⟩,
  ⟨⟨(some 24), (some (23, true)), .mv (.s 0), []⟩, [0, 1, 2, 3, 4, 5, 6, 7, 8, 9], []⟩,
  ⟨⟨(some 25), (some (23, true)), .mv (.s 3), []⟩, [0, 1, 2, 3, 4, 5, 6, 7, 8, 9], [24]⟩,
  ⟨⟨(some 26), (some (23, true)), .bin .sub (.s 25) (.c ⟨.one, [.int .i64 1]⟩), []⟩, [0, 1, 2, 3, 4, 5, 6, 7, 8, 9, 11], [24]⟩,
  ⟨⟨(some 27), (some (23, true)), .iad 1 (.s 24) (.s 26), []⟩, [0, 1, 2, 3, 4, 5, 6, 7, 8, 9, 10, 11, 12], []⟩,
  ⟨⟨(some 28), (some (23, true)), .load false 1 (.s 27), []⟩, [0, 1, 2, 3, 4, 5, 6, 7, 8, 9, 10, 11, 12, 13], []⟩,
  ⟨⟨(some 29), (some (23, true)), .mv (.s 0), []⟩, [0, 1, 2, 3, 4, 5, 6, 7, 8, 9], [24, 25, 26, 27, 28]⟩,
  ⟨⟨(some 30), (some (23, true)), .mv (.s 3), []⟩, [0, 1, 2, 3, 4, 5, 6, 7, 8, 9], [24, 25, 26, 27, 28, 29]⟩,
  ⟨⟨(some 31), (some (23, true)), .iad 1 (.s 29) (.s 30), []⟩, [0, 1, 2, 3, 4, 5, 6, 7, 8, 9, 15, 16], [24, 25, 26, 27, 28]⟩,
  ⟨⟨(some 32), (some (23, true)), .load false 1 (.s 31), []⟩, [0, 1, 2, 3, 4, 5, 6, 7, 8, 9, 15, 16, 17], [24, 25, 26, 27, 28]⟩,
  ⟨⟨(some 33), (some (23, true)), .bin .geq (.s 28) (.s 32), []⟩, [0, 1, 2, 3, 4, 5, 6, 7, 8, 9, 10, 11, 12, 13, 14, 15, 16, 17, 18], []⟩,
  ⟨⟨(some 34), (some (20, false)), .pick (.s 23) (.s 33) (.c ⟨.one, [.bool false]⟩), []⟩, [0, 1, 2, 3, 4, 5, 6, 7, 8, 9, 10, 11, 12, 13, 14, 15, 16, 17, 18, 19], []⟩]
def r148_6t : List XD := [⟨⟨(some 35), none, .pick (.s 20) (.c ⟨.one, [.bool true]⟩) (.s 34), [11, 20]⟩, [0, 1, 2, 3, 4, 5, 6, 7, 8, 9, 10, 11, 12, 13, 14, 15, 16, 17, 18, 19, 20], []⟩]
def r148_7 : XL := .op ⟨(some 2), none, .asg (.c ⟨.one, [.bool false]⟩) false, [0, 0, 3, 35]⟩ <|
  .nil
def r148_5 : XL := .op ⟨(some 12), none, .mv (.s 3), []⟩ <|
  .op ⟨(some 13), none, .bin .add (.s 12) (.c ⟨.one, [.int .i64 1]⟩), []⟩ <|
  .op ⟨(some 3), none, .asg (.s 13) false, [2, 2, 12, 13, 35, 35]⟩ <|
  .nil
def l148_0 : XCode := .keep [0, 3] [] (.seq (.seq (.ops r148_4) (.cond (.s 11) (.skip) (.exit 0))) (.seq (.block 1 (.seq (.any r148_6v r148_6t) (.cond (.s 35) (.seq (.ops r148_7) (.ret)) (.skip)))) (.ops r148_5)))
def r148_8 : XL := .op ⟨(some 2), none, .asg (.c ⟨.one, [.bool true]⟩) false, [0, 0, 3, 34]⟩ <|
  .nil
def x148 : XCode := .seq (.ops r148_0) (.seq (.seq (.ops r148_1) (.cond (.s 7) (.seq (.ops r148_2) (.ret)) (.skip))) (.seq (.seq (.ops r148_3) (.block 0 (.loop l148_0))) (.seq (.ops r148_8) (.ret))))
theorem m148 : mFun Try.prog Try.f148 x148 [.tmp 2] 1 = true := by kernel_rfl
theorem k148 : Callable Try.prog 148 := callable_of (by kernel_rfl)

/-! loop.example/g00360/spec.ZigZag -/
def r149_0 : XL := .op ⟨(some 2), none, .asg (.c ⟨.one, [.int .i64 0]⟩) false, [2, 2]⟩ <|
  .nil
def r149_1 : XL := .op ⟨(some 3), none, .mv (.s 0), []⟩ <|
  .op ⟨(some 4), none, .call 36 [(false, .s 3), (false, .c ⟨.one, [.int .i64 (-140737488355328)]⟩), (false, .c ⟨.one, [.int .i64 140737488355328]⟩)] [], []⟩ <|
  .op ⟨(some 5), none, .un .not (.s 4), [3, 4]⟩ <|
  .nil
def r149_2 : XL := .op ⟨(some 2), none, .asg (.c ⟨.one, [.int .i64 (-1)]⟩) false, [0, 0, 5, 5]⟩ <|
  .nil
def r149_3 : XL := .op ⟨(some 6), none, .mv (.s 0), []⟩ <|
  .op ⟨(some 7), none, .bin .lss (.s 6) (.c ⟨.one, [.int .i64 0]⟩), [2, 6]⟩ <|
  .nil
def r149_4 : XL := .op ⟨(some 8), none, .mv (.s 0), []⟩ <|
  .op ⟨(some 9), none, .bin .mul (.c ⟨.one, [.int .i64 (-2)]⟩) (.s 8), []⟩ <|
  .op ⟨(some 10), none, .bin .sub (.s 9) (.c ⟨.one, [.int .i64 1]⟩), []⟩ <|
  .op ⟨(some 2), none, .asg (.s 10) false, [0, 0, 7, 10]⟩ <|
  .nil
def r149_5 : XL := .op ⟨(some 11), none, .mv (.s 0), []⟩ <|
  .op ⟨(some 12), none, .bin .mul (.c ⟨.one, [.int .i64 2]⟩) (.s 11), []⟩ <|
  .op ⟨(some 2), none, .asg (.s 12) false, [0, 0, 7, 12]⟩ <|
  .nil
def x149 : XCode := .seq (.ops r149_0) (.seq (.seq (.ops r149_1) (.cond (.s 5) (.seq (.ops r149_2) (.ret)) (.skip))) (.seq (.seq (.ops r149_3) (.cond (.s 7) (.seq (.ops r149_4) (.ret)) (.skip))) (.seq (.ops r149_5) (.ret))))
theorem m149 : mFun Try.prog Try.f149 x149 [.tmp 2] 1 = true := by kernel_rfl
theorem k149 : Callable Try.prog 149 := callable_of (by kernel_rfl)

/-! loop.example/g00360/spec.l7Values -/
def r150_0 : XL := .op ⟨(some 2), none, .asg (.c ⟨.one, [.bool false]⟩) false, [2, 2]⟩ <|
  .nil
def r150_1 : XL := .op ⟨(some 4), none, .mv (.s 0), []⟩ <|
  .op ⟨(some 5), none, .len false (.s 4), []⟩ <|
  .op ⟨(some 6), none, .call 36 [(false, .s 5), (false, .c ⟨.one, [.int .i64 1]⟩), (false, .c ⟨.one, [.int .i64 60]⟩)] [], []⟩ <|
  .op ⟨(some 7), none, .un .not (.s 6), [4, 6]⟩ <|
  .nil
def r150_2 : XL := .op ⟨(some 2), none, .asg (.c ⟨.one, [.bool false]⟩) false, [0, 0, 7, 7]⟩ <|
  .nil
def r150_3 : XL := .op ⟨(some 3), none, .asg (.c ⟨.one, [.int .i64 0]⟩) false, [2, 2, 7, 7]⟩ <|
  .nil
def r150_4 : XL := .op ⟨(some 8), none, .mv (.s 3), []⟩ <|
  .op ⟨(some 9), none, .mv (.s 0), []⟩ <|
  .op ⟨(some 10), none, .len false (.s 9), []⟩ <|
  .op ⟨(some 11), none, .bin .lss (.s 8) (.s 10), [8, 10]⟩ <|
  .nil
def r150_6 : XL := .op ⟨(some 14), none, .mv (.s 0), []⟩ <|
  .op ⟨(some 15), none, .mv (.s 3), []⟩ <|
  .op ⟨(some 16), none, .iad 1 (.s 14) (.s 15), []⟩ <|
  .op ⟨(some 17), none, .load false 1 (.s 16), []⟩ <|
  .op ⟨(some 18), none, .call 36 [(false, .s 17), (false, .c ⟨.one, [.int .i64 (-1099511627776)]⟩), (false, .c ⟨.one, [.int .i64 1099511627776]⟩)] [], []⟩ <|
  .op ⟨(some 19), none, .un .not (.s 18), [11, 18]⟩ <|
  .nil
def r150_7 : XL := .op ⟨(some 2), none, .asg (.c ⟨.one, [.bool false]⟩) false, [0, 0, 3, 19]⟩ <|
  .nil
def r150_5 : XL := .op ⟨(some 12), none, .mv (.s 3), []⟩ <|
  .op ⟨(some 13), none, .bin .add (.s 12) (.c ⟨.one, [.int .i64 1]⟩), []⟩ <|
  .op ⟨(some 3), none, .asg (.s 13) false, [2, 2, 12, 19]⟩ <|
  .nil
def l150_0 : XCode := .keep [0, 3] [] (.seq (.seq (.ops r150_4) (.cond (.s 11) (.skip) (.exit 0))) (.seq (.block 1 (.seq (.ops r150_6) (.cond (.s 19) (.seq (.ops r150_7) (.ret)) (.skip)))) (.ops r150_5)))
def r150_8 : XL := .op ⟨(some 2), none, .asg (.c ⟨.one, [.bool true]⟩) false, [0, 0, 3, 3]⟩ <|
  .nil
def x150 : XCode := .seq (.ops r150_0) (.seq (.seq (.ops r150_1) (.cond (.s 7) (.seq (.ops r150_2) (.ret)) (.skip))) (.seq (.seq (.ops r150_3) (.block 0 (.loop l150_0))) (.seq (.ops r150_8) (.ret))))
theorem m150 : mFun Try.prog Try.f150 x150 [.tmp 2] 1 = true := by kernel_rfl
theorem k150 : Callable Try.prog 150 := callable_of (by kernel_rfl)

/-! internal/stringslite.HasPrefix -/
def r151_0 : XL := .op ⟨(some 4), none, .asg (.c ⟨.one, [.bool false]⟩) false, [4, 4]⟩ <|
  .nil
def r151_1 : XL := .op ⟨(some 5), none, .mv (.s 0), []⟩ <|
  .op ⟨(some 6), none, .len true (.s 5), []⟩ <|
  .op ⟨(some 7), none, .mv (.s 1), []⟩ <|
  .op ⟨(some 8), none, .len true (.s 7), []⟩ <|
  .op ⟨(some 9), none, .bin .geq (.s 6) (.s 8), []⟩ <|
  .op ⟨(some 10), none, .mv (.s 9), []⟩ <|
  .sc 10 true (.op ⟨(some 11), (some (10, true)), .mv (.s 0), []⟩ <|
  .op ⟨(some 12), (some (10, true)), .mv (.s 1), []⟩ <|
  .op ⟨(some 13), (some (10, true)), .len true (.s 12), []⟩ <|
  .op ⟨(some 14), (some (10, true)), .slcS (.s 11) none (some (.s 13)), []⟩ <|
  .op ⟨(some 15), (some (10, true)), .mv (.s 1), []⟩ <|
  .op ⟨(some 16), (some (10, true)), .bin .eql (.s 14) (.s 15), []⟩ <|
  .nil) [11, 12, 13, 14, 15, 16] 17 none (.s 10) (.s 16) [0, 10] <|
  .op ⟨(some 4), none, .asg (.s 17) false, [17, 17]⟩ <|
  .nil
def x151 : XCode := .seq (.ops r151_0) (.seq (.ops r151_1) (.ret))
theorem m151 : mFun Try.prog Try.f151 x151 [.tmp 4] 2 = true := by kernel_rfl
theorem k151 : Callable Try.prog 151 := callable_of (by kernel_rfl)

/-! loop.example/g00360/impl.ZigZag -/
def r152_0 : XL := .op ⟨(some 2), none, .asg (.c ⟨.one, [.int .i64 0]⟩) false, [2, 2]⟩ <|
  .nil
def r152_1 : XL := .op ⟨(some 4), none, .mv (.s 0), []⟩ <|
  .op ⟨(some 5), none, .call 32 [(false, .s 4), (false, .c ⟨.one, [.int .i64 0]⟩), (false, .c ⟨.one, [.int .i64 140737488355328]⟩)] [], []⟩ <|
  .op ⟨(some 3), none, .asg (.s 5) false, [4, 5]⟩ <|
  .nil
def r152_2 : XL := .op ⟨(some 6), none, .mv (.s 0), []⟩ <|
  .op ⟨(some 7), none, .bin .mul (.c ⟨.one, [.int .i64 2]⟩) (.s 6), []⟩ <|
  .op ⟨(some 2), none, .asg (.s 7) false, [0, 0, 3, 7]⟩ <|
  .nil
def r152_3 : XL := .op ⟨(some 9), none, .mv (.s 0), []⟩ <|
  .op ⟨(some 10), none, .call 32 [(false, .s 9), (false, .c ⟨.one, [.int .i64 (-140737488355328)]⟩), (false, .c ⟨.one, [.int .i64 (-1)]⟩)] [], []⟩ <|
  .op ⟨(some 8), none, .asg (.s 10) false, [3, 3, 9, 10]⟩ <|
  .nil
def r152_4 : XL := .op ⟨(some 11), none, .mv (.s 0), []⟩ <|
  .op ⟨(some 12), none, .bin .mul (.c ⟨.one, [.int .i64 (-2)]⟩) (.s 11), []⟩ <|
  .op ⟨(some 13), none, .bin .sub (.s 12) (.c ⟨.one, [.int .i64 1]⟩), []⟩ <|
  .op ⟨(some 2), none, .asg (.s 13) false, [0, 0, 8, 13]⟩ <|
  .nil
def r152_5 : XL := .op ⟨(some 2), none, .asg (.c ⟨.one, [.int .i64 (-1)]⟩) false, [0, 0, 8, 8]⟩ <|
  .nil
def x152 : XCode := .seq (.ops r152_0) (.seq (.block 0 (.seq (.ops r152_1) (.cond (.s 3) (.seq (.ops r152_2) (.ret)) (.seq (.ops r152_3) (.cond (.s 8) (.seq (.ops r152_4) (.ret)) (.skip)))))) (.seq (.ops r152_5) (.ret)))
theorem m152 : mFun Try.prog Try.f152 x152 [.tmp 2] 1 = true := by kernel_rfl
theorem k152 : Callable Try.prog 152 := callable_of (by kernel_rfl)

end Go.Eng
