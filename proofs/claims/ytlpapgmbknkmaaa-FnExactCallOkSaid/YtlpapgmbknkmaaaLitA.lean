/-
  The texts of the functions that are walked, each held against the program; no condition.
-/
import Derived.Test.YtlpapgmbknkmaaaProg
import Derived.Test.YtlpapgmbknkmaaaPure
set_option linter.unusedSimpArgs false
set_option linter.unusedVariables false
set_option maxRecDepth 100000
set_option maxHeartbeats 2000000
namespace Go.Eng
open Go Go.Proofs
/-! loop.example/g00360/laws.FnExactCallOk -/
def r3_0 : XL := .op ⟨(some 1), none, .box (.s 0) false, []⟩ <|
  .op ⟨(some 2), none, .asg (.c ⟨.one, [.bool false]⟩) false, [0, 2]⟩ <|
  .nil
def r3_1 : XL := .op ⟨(some 3), none, .asg (.c ⟨.one, [.int .i64 1048576]⟩) false, []⟩ <|
  .nil
def r3_2 : XL := .op ⟨(some 6), none, .load true 5 (.s 1), []⟩ <|
  .op ⟨(some 7), none, .mv (.s 3), []⟩ <|
  .op ⟨(some 8), none, .call 8 [(false, .s 6), (false, .s 7)] [], []⟩ <|
  .op ⟨(some 3), none, .asg (.s 8) false, [6, 7, 8]⟩ <|
  .nil
def r3_3 : XL := .op ⟨(some 9), none, .mv (.s 3), []⟩ <|
  .op ⟨(some 10), none, .bin .lss (.s 9) (.c ⟨.one, [.int .i64 0]⟩), [3, 9]⟩ <|
  .nil
def r3_4 : XL := .op ⟨(some 2), none, .asg (.c ⟨.one, [.bool true]⟩) false, [1, 10]⟩ <|
  .nil
def r3_5 : XL := .op ⟨(some 11), none, .load true 5 (.s 1), []⟩ <|
  .op ⟨(some 12), none, .call 10 [(false, .s 11)] [], []⟩ <|
  .op ⟨(some 13), none, .call 9 [(false, .s 12)] [], []⟩ <|
  .op ⟨(some 4), none, .asg (.s 13) false, [2, 10, 11, 12, 13]⟩ <|
  .nil
def r3_6 : XL := .op ⟨(some 14), none, .load true 5 (.s 1), []⟩ <|
  .op ⟨(some 15), none, .call 10 [(false, .s 14)] [], []⟩ <|
  .op ⟨(some 16), none, .call 11 [(false, .s 15)] [], []⟩ <|
  .op ⟨(some 5), none, .asg (.s 16) false, [1, 14, 15, 16]⟩ <|
  .nil
def r3_7 : XL := .op ⟨(some 17), none, .mv (.s 5), []⟩ <|
  .op ⟨(some 18), none, .mv (.s 4), []⟩ <|
  .op ⟨(some 19), none, .binB true (.s 17) (.s 18), [4, 5, 17, 18]⟩ <|
  .nil
def r3_8 : XL := .op ⟨(some 2), none, .asg (.c ⟨.one, [.bool false]⟩) false, [19]⟩ <|
  .nil
def r3_9 : XL := .op ⟨(some 2), none, .asg (.c ⟨.one, [.bool true]⟩) false, [19]⟩ <|
  .nil
def x3 : XCode := .seq (.ops r3_0) (.seq (.ops r3_1) (.seq (.ops r3_2) (.seq (.seq (.ops r3_3) (.cond (.s 10) (.seq (.ops r3_4) (.ret)) (.skip))) (.seq (.ops r3_5) (.seq (.ops r3_6) (.seq (.seq (.ops r3_7) (.cond (.s 19) (.seq (.ops r3_8) (.ret)) (.skip))) (.seq (.ops r3_9) (.ret))))))))
theorem m3 : mFun Try.prog Try.f3 x3 [.tmp 2] 1 = true := by kernel_rfl
theorem k3 : Callable Try.prog 3 := callable_of (by kernel_rfl)

/-! loop.example/g00360/laws.szCall -/
def r8_0 : XL := .op ⟨(some 2), none, .box (.s 0) false, []⟩ <|
  .op ⟨(some 4), none, .asg (.c ⟨.one, [.int .i64 0]⟩) false, [0, 4]⟩ <|
  .nil
def r8_1 : XL := .op ⟨(some 5), none, .mv (.s 1), []⟩ <|
  .op ⟨(some 6), none, .fad 1 (.s 2), []⟩ <|
  .op ⟨(some 7), none, .load false 1 (.s 6), []⟩ <|
  .op ⟨(some 8), none, .len true (.s 7), []⟩ <|
  .op ⟨(some 9), none, .bin .sub (.s 5) (.s 8), []⟩ <|
  .op ⟨(some 1), none, .asg (.s 9) false, [5, 6, 7, 8, 9]⟩ <|
  .nil
def r8_2 : XL := .op ⟨(some 10), none, .mv (.s 1), []⟩ <|
  .op ⟨(some 11), none, .bin .lss (.s 10) (.c ⟨.one, [.int .i64 0]⟩), [10]⟩ <|
  .nil
def r8_3 : XL := .op ⟨(some 4), none, .asg (.c ⟨.one, [.int .i64 (-1)]⟩) false, [1, 2, 11]⟩ <|
  .nil
def r8_4 : XL := .op ⟨(some 12), none, .mv (.s 1), []⟩ <|
  .op ⟨(some 13), none, .fad 4 (.s 2), []⟩ <|
  .op ⟨(some 14), none, .load false 1 (.s 13), []⟩ <|
  .op ⟨(some 15), none, .len true (.s 14), []⟩ <|
  .op ⟨(some 16), none, .bin .sub (.s 12) (.s 15), []⟩ <|
  .op ⟨(some 1), none, .asg (.s 16) false, [2, 4, 11, 12, 13, 14, 15, 16]⟩ <|
  .nil
def r8_5 : XL := .op ⟨(some 17), none, .mv (.s 1), []⟩ <|
  .op ⟨(some 18), none, .bin .lss (.s 17) (.c ⟨.one, [.int .i64 0]⟩), [17]⟩ <|
  .nil
def r8_6 : XL := .op ⟨(some 4), none, .asg (.c ⟨.one, [.int .i64 (-1)]⟩) false, [1, 18]⟩ <|
  .nil
def r8_7 : XL := .op ⟨(some 19), none, .mv (.s 1), []⟩ <|
  .op ⟨(some 4), none, .asg (.s 19) false, [1, 18, 19]⟩ <|
  .nil
def x8 : XCode := .seq (.ops r8_0) (.seq (.ops r8_1) (.seq (.seq (.ops r8_2) (.cond (.s 11) (.seq (.ops r8_3) (.ret)) (.skip))) (.seq (.ops r8_4) (.seq (.seq (.ops r8_5) (.cond (.s 18) (.seq (.ops r8_6) (.ret)) (.skip))) (.seq (.ops r8_7) (.ret))))))
theorem m8 : mFun Try.prog Try.f8 x8 [.tmp 4] 2 = true := by kernel_rfl
theorem k8 : Callable Try.prog 8 := callable_of (by kernel_rfl)

/-! loop.example/g00360/spec.CallOk -/
def r9_0 : XL := .op ⟨(some 1), none, .box (.s 0) false, []⟩ <|
  .op ⟨(some 2), none, .asg (.c ⟨.one, [.bool false]⟩) false, [0, 2]⟩ <|
  .nil
def r9_1 : XL := .op ⟨(some 4), none, .fad 1 (.s 1), []⟩ <|
  .op ⟨(some 5), none, .load false 1 (.s 4), []⟩ <|
  .op ⟨(some 6), none, .fad 2 (.s 1), []⟩ <|
  .op ⟨(some 7), none, .load false 1 (.s 6), []⟩ <|
  .op ⟨(some 8), none, .fad 3 (.s 1), []⟩ <|
  .op ⟨(some 9), none, .load false 1 (.s 8), []⟩ <|
  .op ⟨(some 10), none, .fad 4 (.s 1), []⟩ <|
  .op ⟨(some 11), none, .load false 1 (.s 10), []⟩ <|
  .op ⟨(some 12), none, .build [.int .i64 0, .str ⟨#[]⟩, .int .i64 0, .int .i64 0, .str ⟨#[]⟩] [(1, 1, .s 5), (2, 1, .s 7), (3, 1, .s 9), (4, 1, .s 11)], []⟩ <|
  .op ⟨(some 3), none, .alloc [.int .i64 0, .str ⟨#[]⟩, .int .i64 0, .int .i64 0, .str ⟨#[]⟩], []⟩ <|
  .op ⟨none, none, .store 5 (.s 3) (.s 12) false, [4, 5, 6, 7, 8, 9, 10, 11, 12]⟩ <|
  .nil
def r9_2 : XL := .op ⟨(some 13), none, .fad 0 (.s 1), []⟩ <|
  .op ⟨(some 14), none, .load false 1 (.s 13), [1, 13]⟩ <|
  .nil
def r9_3 : XL := .op ⟨(some 16), none, .bin .eql (.s 14) (.c ⟨.one, [.int .i64 1]⟩), []⟩ <|
  .op ⟨(some 15), none, .asg (.s 16) false, [16]⟩ <|
  .nil
def r9_4 : XL := .op ⟨(some 17), none, .fad 0 (.s 3), []⟩ <|
  .op ⟨none, none, .store 1 (.s 17) (.c ⟨.one, [.int .i64 4]⟩) false, [14, 15, 17]⟩ <|
  .nil
def r9_5 : XL := .op ⟨(some 19), none, .bin .eql (.s 14) (.c ⟨.one, [.int .i64 2]⟩), []⟩ <|
  .op ⟨(some 18), none, .asg (.s 19) false, [15, 19]⟩ <|
  .nil
def r9_6 : XL := .op ⟨(some 20), none, .fad 0 (.s 3), []⟩ <|
  .op ⟨none, none, .store 1 (.s 20) (.c ⟨.one, [.int .i64 5]⟩) false, [14, 18, 20]⟩ <|
  .nil
def r9_7 : XL := .op ⟨(some 22), none, .bin .eql (.s 14) (.c ⟨.one, [.int .i64 3]⟩), []⟩ <|
  .op ⟨(some 21), none, .asg (.s 22) false, [18, 22]⟩ <|
  .nil
def r9_8 : XL := .op ⟨(some 23), none, .fad 0 (.s 3), []⟩ <|
  .op ⟨none, none, .store 1 (.s 23) (.c ⟨.one, [.int .i64 2]⟩) false, [14, 21, 23]⟩ <|
  .nil
def r9_9 : XL := .op ⟨(some 25), none, .bin .eql (.s 14) (.c ⟨.one, [.int .i64 4]⟩), []⟩ <|
  .op ⟨(some 24), none, .asg (.s 25) false, [14, 21, 25]⟩ <|
  .nil
def r9_10 : XL := .op ⟨(some 26), none, .fad 0 (.s 3), []⟩ <|
  .op ⟨none, none, .store 1 (.s 26) (.c ⟨.one, [.int .i64 3]⟩) false, [24, 26]⟩ <|
  .nil
def r9_11 : XL := .op ⟨(some 27), none, .load true 5 (.s 3), []⟩ <|
  .op ⟨(some 28), none, .call 28 [(false, .s 27)] [], []⟩ <|
  .op ⟨(some 2), none, .asg (.s 28) false, [3, 24, 27, 28]⟩ <|
  .nil
def x9 : XCode := .seq (.ops r9_0) (.seq (.ops r9_1) (.seq (.seq (.ops r9_2) (.block 0 (.seq (.ops r9_3) (.cond (.s 15) (.ops r9_4) (.seq (.ops r9_5) (.cond (.s 18) (.ops r9_6) (.seq (.ops r9_7) (.cond (.s 21) (.ops r9_8) (.seq (.ops r9_9) (.cond (.s 24) (.ops r9_10) (.skip))))))))))) (.seq (.ops r9_11) (.ret))))
theorem m9 : mFun Try.prog Try.f9 x9 [.tmp 2] 1 = true := by kernel_rfl
theorem k9 : Callable Try.prog 9 := callable_of (by kernel_rfl)

/-! loop.example/g00360/laws.toCall -/
def r10_0 : XL := .op ⟨(some 1), none, .box (.s 0) false, []⟩ <|
  .op ⟨(some 2), none, .alloc [.int .i64 0, .str ⟨#[]⟩, .int .i64 0, .int .i64 0, .str ⟨#[]⟩], [0]⟩ <|
  .nil
def r10_1 : XL := .op ⟨(some 3), none, .alloc [.int .i64 0, .str ⟨#[]⟩, .int .i64 0, .int .i64 0, .str ⟨#[]⟩], []⟩ <|
  .nil
def r10_2 : XL := .op ⟨(some 4), none, .fad 0 (.s 1), []⟩ <|
  .op ⟨(some 5), none, .load false 1 (.s 4), []⟩ <|
  .op ⟨(some 6), none, .fad 0 (.s 3), []⟩ <|
  .op ⟨none, none, .store 1 (.s 6) (.s 5) false, [4, 5, 6]⟩ <|
  .nil
def r10_3 : XL := .op ⟨(some 7), none, .fad 1 (.s 1), []⟩ <|
  .op ⟨(some 8), none, .load false 1 (.s 7), []⟩ <|
  .op ⟨(some 9), none, .fad 1 (.s 3), []⟩ <|
  .op ⟨none, none, .store 1 (.s 9) (.s 8) false, [7, 8, 9]⟩ <|
  .nil
def r10_4 : XL := .op ⟨(some 10), none, .fad 2 (.s 1), []⟩ <|
  .op ⟨(some 11), none, .load false 1 (.s 10), []⟩ <|
  .op ⟨(some 12), none, .fad 2 (.s 3), []⟩ <|
  .op ⟨none, none, .store 1 (.s 12) (.s 11) false, [10, 11, 12]⟩ <|
  .nil
def r10_5 : XL := .op ⟨(some 13), none, .fad 3 (.s 1), []⟩ <|
  .op ⟨(some 14), none, .load false 1 (.s 13), []⟩ <|
  .op ⟨(some 15), none, .fad 3 (.s 3), []⟩ <|
  .op ⟨none, none, .store 1 (.s 15) (.s 14) false, [13, 14, 15]⟩ <|
  .nil
def r10_6 : XL := .op ⟨(some 16), none, .fad 4 (.s 1), []⟩ <|
  .op ⟨(some 17), none, .load false 1 (.s 16), []⟩ <|
  .op ⟨(some 18), none, .fad 4 (.s 3), []⟩ <|
  .op ⟨none, none, .store 1 (.s 18) (.s 17) false, [1, 16, 17, 18]⟩ <|
  .nil
def r10_7 : XL := .op ⟨(some 19), none, .load true 5 (.s 3), []⟩ <|
  .op ⟨none, none, .store 5 (.s 2) (.s 19) false, [3, 19]⟩ <|
  .nil
def x10 : XCode := .seq (.ops r10_0) (.seq (.ops r10_1) (.seq (.ops r10_2) (.seq (.ops r10_3) (.seq (.ops r10_4) (.seq (.ops r10_5) (.seq (.ops r10_6) (.seq (.ops r10_7) (.ret))))))))
theorem m10 : mFun Try.prog Try.f10 x10 [.cell 2 5 true] 1 = true := by kernel_rfl
theorem k10 : Callable Try.prog 10 := callable_of (by kernel_rfl)

/-! loop.example/g00360/impl.CallOk -/
def r11_0 : XL := .op ⟨(some 1), none, .box (.s 0) false, []⟩ <|
  .op ⟨(some 2), none, .asg (.c ⟨.one, [.bool false]⟩) false, [0, 2]⟩ <|
  .nil
def r11_1 : XL := .op ⟨(some 5), none, .load true 5 (.s 1), []⟩ <|
  .op ⟨(some 3), none, .alloc [.int .i64 0, .str ⟨#[]⟩, .int .i64 0, .int .i64 0, .str ⟨#[]⟩], []⟩ <|
  .op ⟨none, none, .store 5 (.s 3) (.s 5) false, [5]⟩ <|
  .nil
def r11_2 : XL := .op ⟨(some 6), none, .fad 0 (.s 3), []⟩ <|
  .op ⟨none, none, .store 1 (.s 6) (.c ⟨.one, [.int .i64 0]⟩) false, [6]⟩ <|
  .nil
def r11_3 : XL := .op ⟨(some 4), none, .asg (.c ⟨.one, [.bool false]⟩) false, []⟩ <|
  .nil
def r11_4 : XL := .op ⟨(some 7), none, .fad 0 (.s 1), []⟩ <|
  .op ⟨(some 8), none, .load false 1 (.s 7), [7]⟩ <|
  .nil
def r11_5 : XL := .op ⟨(some 10), none, .bin .eql (.s 8) (.c ⟨.one, [.int .i64 1]⟩), []⟩ <|
  .op ⟨(some 9), none, .asg (.s 10) false, [10]⟩ <|
  .nil
def r11_6 : XL := .op ⟨(some 12), none, .fad 4 (.s 1), []⟩ <|
  .op ⟨(some 13), none, .load false 1 (.s 12), []⟩ <|
  .op ⟨(some 14), none, .call 29 [(false, .s 13)] [], []⟩ <|
  .op ⟨(some 11), none, .mv (.s 14), []⟩ <|
  .op ⟨(some 15), none, .ext 0 (.s 11), []⟩ <|
  .op ⟨(some 16), none, .ext 1 (.s 11), []⟩ <|
  .op ⟨(some 4), none, .asg (.s 16) true, [8, 9, 11, 12, 13, 14, 15, 16]⟩ <|
  .nil
def r11_7 : XL := .op ⟨(some 17), none, .mv (.s 4), []⟩ <|
  .op ⟨(some 18), none, .mv (.s 17), []⟩ <|
  .sc 18 true (.op ⟨(some 19), (some (18, true)), .fad 1 (.s 1), []⟩ <|
  .op ⟨(some 20), (some (18, true)), .load false 1 (.s 19), []⟩ <|
  .op ⟨(some 21), (some (18, true)), .call 30 [(false, .s 20)] [], []⟩ <|
  .nil) [19, 20, 21] 22 none (.s 18) (.s 21) [] <|
  .op ⟨(some 4), none, .asg (.s 22) false, [1, 17, 18, 22]⟩ <|
  .nil
def r11_8 : XL := .op ⟨(some 23), none, .fad 1 (.s 3), []⟩ <|
  .op ⟨none, none, .store 1 (.s 23) (.c ⟨.one, [.str ⟨#[]⟩]⟩) false, []⟩ <|
  .op ⟨(some 24), none, .fad 4 (.s 3), []⟩ <|
  .op ⟨none, none, .store 1 (.s 24) (.c ⟨.one, [.str ⟨#[]⟩]⟩) false, [23, 24]⟩ <|
  .nil
def r11_9 : XL := .op ⟨(some 26), none, .bin .eql (.s 8) (.c ⟨.one, [.int .i64 2]⟩), []⟩ <|
  .op ⟨(some 25), none, .asg (.s 26) false, [9, 26]⟩ <|
  .nil
def r11_10 : XL := .op ⟨(some 27), none, .fad 1 (.s 1), []⟩ <|
  .op ⟨(some 28), none, .load false 1 (.s 27), []⟩ <|
  .op ⟨(some 29), none, .call 30 [(false, .s 28)] [], []⟩ <|
  .op ⟨(some 30), none, .mv (.s 29), []⟩ <|
  .sc 30 true (.op ⟨(some 31), (some (30, true)), .fad 2 (.s 1), []⟩ <|
  .op ⟨(some 32), (some (30, true)), .load false 1 (.s 31), []⟩ <|
  .op ⟨(some 33), (some (30, true)), .bin .geq (.s 32) (.c ⟨.one, [.int .i64 0]⟩), []⟩ <|
  .nil) [31, 32, 33] 34 none (.s 30) (.s 33) [] <|
  .op ⟨(some 35), none, .mv (.s 34), []⟩ <|
  .sc 35 true (.op ⟨(some 36), (some (35, true)), .fad 2 (.s 1), []⟩ <|
  .op ⟨(some 37), (some (35, true)), .load false 1 (.s 36), []⟩ <|
  .op ⟨(some 38), (some (35, true)), .fad 3 (.s 1), []⟩ <|
  .op ⟨(some 39), (some (35, true)), .load false 1 (.s 38), []⟩ <|
  .op ⟨(some 40), (some (35, true)), .bin .lss (.s 37) (.s 39), []⟩ <|
  .nil) [36, 37, 38, 39, 40] 41 none (.s 35) (.s 40) [] <|
  .op ⟨(some 42), none, .mv (.s 41), []⟩ <|
  .sc 42 true (.op ⟨(some 43), (some (42, true)), .fad 3 (.s 1), []⟩ <|
  .op ⟨(some 44), (some (42, true)), .load false 1 (.s 43), []⟩ <|
  .op ⟨(some 45), (some (42, true)), .bin .leq (.s 44) (.c ⟨.one, [.int .i64 1099511627776]⟩), []⟩ <|
  .nil) [43, 44, 45] 46 none (.s 42) (.s 45) [] <|
  .op ⟨(some 4), none, .asg (.s 46) false, [1, 8, 25, 27, 28, 29, 30, 34, 35, 41, 42, 46]⟩ <|
  .nil
def r11_11 : XL := .op ⟨(some 47), none, .fad 1 (.s 3), []⟩ <|
  .op ⟨none, none, .store 1 (.s 47) (.c ⟨.one, [.str ⟨#[]⟩]⟩) false, []⟩ <|
  .op ⟨(some 48), none, .fad 2 (.s 3), []⟩ <|
  .op ⟨none, none, .store 1 (.s 48) (.c ⟨.one, [.int .i64 0]⟩) false, []⟩ <|
  .op ⟨(some 49), none, .fad 3 (.s 3), []⟩ <|
  .op ⟨none, none, .store 1 (.s 49) (.c ⟨.one, [.int .i64 0]⟩) false, [47, 48, 49]⟩ <|
  .nil
def r11_12 : XL := .op ⟨(some 51), none, .bin .eql (.s 8) (.c ⟨.one, [.int .i64 3]⟩), []⟩ <|
  .op ⟨(some 50), none, .asg (.s 51) false, [25, 51]⟩ <|
  .nil
def r11_13 : XL := .op ⟨(some 52), none, .fad 2 (.s 1), []⟩ <|
  .op ⟨(some 53), none, .load false 1 (.s 52), []⟩ <|
  .op ⟨(some 54), none, .call 31 [(false, .s 53)] [], []⟩ <|
  .op ⟨(some 4), none, .asg (.s 54) false, [1, 8, 50, 52, 53, 54]⟩ <|
  .nil
def r11_14 : XL := .op ⟨(some 55), none, .fad 2 (.s 3), []⟩ <|
  .op ⟨none, none, .store 1 (.s 55) (.c ⟨.one, [.int .i64 0]⟩) false, [55]⟩ <|
  .nil
def r11_15 : XL := .op ⟨(some 57), none, .bin .eql (.s 8) (.c ⟨.one, [.int .i64 4]⟩), []⟩ <|
  .op ⟨(some 56), none, .asg (.s 57) false, [8, 50, 57]⟩ <|
  .nil
def r11_16 : XL := .op ⟨(some 58), none, .fad 2 (.s 1), []⟩ <|
  .op ⟨(some 59), none, .load false 1 (.s 58), []⟩ <|
  .op ⟨(some 60), none, .call 32 [(false, .s 59), (false, .c ⟨.one, [.int .i64 0]⟩), (false, .c ⟨.one, [.int .i64 100000]⟩)] [], []⟩ <|
  .op ⟨(some 4), none, .asg (.s 60) false, [1, 56, 58, 59, 60]⟩ <|
  .nil
def r11_17 : XL := .op ⟨(some 61), none, .fad 2 (.s 3), []⟩ <|
  .op ⟨none, none, .store 1 (.s 61) (.c ⟨.one, [.int .i64 0]⟩) false, [61]⟩ <|
  .nil
def r11_18 : XL := .op ⟨(some 62), none, .mv (.s 4), []⟩ <|
  .op ⟨(some 63), none, .mv (.s 62), []⟩ <|
  .sc 63 true (.op ⟨(some 64), (some (63, true)), .load true 5 (.s 3), []⟩ <|
  .op ⟨(some 65), (some (63, true)), .build [.int .i64 0, .str ⟨#[]⟩, .int .i64 0, .int .i64 0, .str ⟨#[]⟩] [], []⟩ <|
  .op ⟨(some 66), (some (63, true)), .eqs false [0, 2, 0, 0, 2] (.s 64) (.s 65), []⟩ <|
  .nil) [64, 65, 66] 67 none (.s 63) (.s 66) [] <|
  .op ⟨(some 2), none, .asg (.s 67) false, [1, 3, 4, 56, 62, 63, 67]⟩ <|
  .nil
def x11 : XCode := .seq (.ops r11_0) (.seq (.ops r11_1) (.seq (.ops r11_2) (.seq (.ops r11_3) (.seq (.seq (.ops r11_4) (.block 0 (.seq (.ops r11_5) (.cond (.s 9) (.seq (.ops r11_6) (.seq (.ops r11_7) (.ops r11_8))) (.seq (.ops r11_9) (.cond (.s 25) (.seq (.ops r11_10) (.ops r11_11)) (.seq (.ops r11_12) (.cond (.s 50) (.seq (.ops r11_13) (.ops r11_14)) (.seq (.ops r11_15) (.cond (.s 56) (.seq (.ops r11_16) (.ops r11_17)) (.skip))))))))))) (.seq (.ops r11_18) (.ret))))))
theorem m11 : mFun Try.prog Try.f11 x11 [.tmp 2] 1 = true := by kernel_rfl
theorem k11 : Callable Try.prog 11 := callable_of (by kernel_rfl)

/-! loop.example/g00360/spec.OpOk -/
def r28_0 : XL := .op ⟨(some 1), none, .box (.s 0) false, []⟩ <|
  .op ⟨(some 2), none, .asg (.c ⟨.one, [.bool false]⟩) false, [0, 2]⟩ <|
  .nil
def r28_1 : XL := .op ⟨(some 8), none, .fad 2 (.s 1), []⟩ <|
  .op ⟨(some 9), none, .load false 1 (.s 8), []⟩ <|
  .op ⟨(some 10), none, .bin .geq (.s 9) (.c ⟨.one, [.int .i64 0]⟩), []⟩ <|
  .op ⟨(some 11), none, .mv (.s 10), []⟩ <|
  .sc 11 true (.op ⟨(some 12), (some (11, true)), .fad 2 (.s 1), []⟩ <|
  .op ⟨(some 13), (some (11, true)), .load false 1 (.s 12), []⟩ <|
  .op ⟨(some 14), (some (11, true)), .fad 3 (.s 1), []⟩ <|
  .op ⟨(some 15), (some (11, true)), .load false 1 (.s 14), []⟩ <|
  .op ⟨(some 16), (some (11, true)), .bin .lss (.s 13) (.s 15), []⟩ <|
  .nil) [12, 13, 14, 15, 16] 17 none (.s 11) (.s 16) [] <|
  .op ⟨(some 18), none, .mv (.s 17), []⟩ <|
  .sc 18 true (.op ⟨(some 19), (some (18, true)), .fad 3 (.s 1), []⟩ <|
  .op ⟨(some 20), (some (18, true)), .load false 1 (.s 19), []⟩ <|
  .op ⟨(some 21), (some (18, true)), .bin .leq (.s 20) (.c ⟨.one, [.int .i64 1099511627776]⟩), []⟩ <|
  .nil) [19, 20, 21] 22 none (.s 18) (.s 21) [] <|
  .op ⟨(some 3), none, .asg (.s 22) false, [8, 9, 10, 11, 17, 18, 22]⟩ <|
  .nil
def r28_2 : XL := .op ⟨(some 23), none, .fad 0 (.s 1), []⟩ <|
  .op ⟨(some 24), none, .load false 1 (.s 23), []⟩ <|
  .op ⟨(some 25), none, .build [.int .i64 0, .str ⟨#[]⟩, .int .i64 0, .int .i64 0, .str ⟨#[]⟩] [(0, 1, .s 24)], []⟩ <|
  .op ⟨(some 4), none, .alloc [.int .i64 0, .str ⟨#[]⟩, .int .i64 0, .int .i64 0, .str ⟨#[]⟩], []⟩ <|
  .op ⟨none, none, .store 5 (.s 4) (.s 25) false, [23, 24, 25]⟩ <|
  .nil
def r28_3 : XL := .op ⟨(some 5), none, .asg (.c ⟨.one, [.bool false]⟩) false, []⟩ <|
  .nil
def r28_4 : XL := .op ⟨(some 26), none, .fad 0 (.s 1), []⟩ <|
  .op ⟨(some 27), none, .load false 1 (.s 26), [26]⟩ <|
  .nil
def r28_5 : XL := .op ⟨(some 29), none, .bin .eql (.s 27) (.c ⟨.one, [.int .i64 1]⟩), []⟩ <|
  .op ⟨(some 28), none, .asg (.s 29) false, [29]⟩ <|
  .nil
def r28_6 : XL := .op ⟨(some 30), none, .fad 2 (.s 1), []⟩ <|
  .op ⟨(some 31), none, .load false 1 (.s 30), []⟩ <|
  .op ⟨(some 32), none, .fad 2 (.s 4), []⟩ <|
  .op ⟨none, none, .store 1 (.s 32) (.s 31) false, [5, 27, 28, 30, 31, 32]⟩ <|
  .nil
def r28_7 : XL := .op ⟨(some 33), none, .fad 3 (.s 1), []⟩ <|
  .op ⟨(some 34), none, .load false 1 (.s 33), []⟩ <|
  .op ⟨(some 35), none, .fad 3 (.s 4), []⟩ <|
  .op ⟨none, none, .store 1 (.s 35) (.s 34) false, [33, 34, 35]⟩ <|
  .nil
def r28_8 : XL := .op ⟨(some 36), none, .mv (.s 3), []⟩ <|
  .op ⟨(some 5), none, .asg (.s 36) true, [3, 36]⟩ <|
  .nil
def r28_9 : XL := .op ⟨(some 38), none, .bin .eql (.s 27) (.c ⟨.one, [.int .i64 2]⟩), []⟩ <|
  .op ⟨(some 37), none, .asg (.s 38) false, [28, 38]⟩ <|
  .nil
def r28_10 : XL := .op ⟨(some 39), none, .bin .eql (.s 27) (.c ⟨.one, [.int .i64 6]⟩), []⟩ <|
  .op ⟨(some 37), none, .asg (.s 39) false, [39]⟩ <|
  .nil
def r28_11 : XL := .op ⟨(some 40), none, .fad 2 (.s 1), []⟩ <|
  .op ⟨(some 41), none, .load false 1 (.s 40), []⟩ <|
  .op ⟨(some 42), none, .fad 2 (.s 4), []⟩ <|
  .op ⟨none, none, .store 1 (.s 42) (.s 41) false, [3, 5, 27, 37, 40, 41, 42]⟩ <|
  .nil
def r28_12 : XL := .op ⟨(some 43), none, .fad 2 (.s 1), []⟩ <|
  .op ⟨(some 44), none, .load false 1 (.s 43), []⟩ <|
  .op ⟨(some 45), none, .call 36 [(false, .s 44), (false, .c ⟨.one, [.int .i64 0]⟩), (false, .c ⟨.one, [.int .i64 1099511627776]⟩)] [], []⟩ <|
  .op ⟨(some 5), none, .asg (.s 45) false, [43, 44, 45]⟩ <|
  .nil
def r28_13 : XL := .op ⟨(some 47), none, .bin .eql (.s 27) (.c ⟨.one, [.int .i64 3]⟩), []⟩ <|
  .op ⟨(some 46), none, .asg (.s 47) false, [37, 47]⟩ <|
  .nil
def r28_14 : XL := .op ⟨(some 48), none, .fad 2 (.s 1), []⟩ <|
  .op ⟨(some 49), none, .load false 1 (.s 48), []⟩ <|
  .op ⟨(some 50), none, .fad 2 (.s 4), []⟩ <|
  .op ⟨none, none, .store 1 (.s 50) (.s 49) false, [3, 5, 27, 46, 48, 49, 50]⟩ <|
  .nil
def r28_15 : XL := .op ⟨(some 51), none, .fad 2 (.s 1), []⟩ <|
  .op ⟨(some 52), none, .load false 1 (.s 51), []⟩ <|
  .op ⟨(some 53), none, .call 36 [(false, .s 52), (false, .c ⟨.one, [.int .i64 0]⟩), (false, .c ⟨.one, [.int .i64 100000]⟩)] [], []⟩ <|
  .op ⟨(some 5), none, .asg (.s 53) false, [51, 52, 53]⟩ <|
  .nil
def r28_16 : XL := .op ⟨(some 55), none, .bin .eql (.s 27) (.c ⟨.one, [.int .i64 4]⟩), []⟩ <|
  .op ⟨(some 54), none, .asg (.s 55) false, [46, 55]⟩ <|
  .nil
def r28_17 : XL := .op ⟨(some 56), none, .fad 1 (.s 1), []⟩ <|
  .op ⟨(some 57), none, .load false 1 (.s 56), []⟩ <|
  .op ⟨(some 58), none, .fad 1 (.s 4), []⟩ <|
  .op ⟨none, none, .store 1 (.s 58) (.s 57) false, [3, 5, 27, 54, 56, 57, 58]⟩ <|
  .nil
def r28_18 : XL := .op ⟨(some 59), none, .fad 4 (.s 1), []⟩ <|
  .op ⟨(some 60), none, .load false 1 (.s 59), []⟩ <|
  .op ⟨(some 61), none, .fad 4 (.s 4), []⟩ <|
  .op ⟨none, none, .store 1 (.s 61) (.s 60) false, [59, 60, 61]⟩ <|
  .nil
def r28_19 : XL := .op ⟨(some 63), none, .fad 4 (.s 1), []⟩ <|
  .op ⟨(some 64), none, .load false 1 (.s 63), []⟩ <|
  .op ⟨(some 65), none, .call 86 [(false, .s 64)] [], []⟩ <|
  .op ⟨(some 62), none, .mv (.s 65), []⟩ <|
  .op ⟨(some 66), none, .ext 0 (.s 62), []⟩ <|
  .op ⟨(some 67), none, .ext 1 (.s 62), []⟩ <|
  .op ⟨(some 6), none, .asg (.s 66) true, []⟩ <|
  .op ⟨(some 7), none, .asg (.s 67) true, [6, 62, 63, 64, 65, 66, 67]⟩ <|
  .nil
def r28_20 : XL := .op ⟨(some 68), none, .fad 1 (.s 1), []⟩ <|
  .op ⟨(some 69), none, .load false 1 (.s 68), []⟩ <|
  .op ⟨(some 70), none, .call 87 [(false, .s 69)] [], []⟩ <|
  .op ⟨(some 71), none, .mv (.s 70), []⟩ <|
  .sc 71 true (.op ⟨(some 72), (some (71, true)), .mv (.s 7), []⟩ <|
  .nil) [72] 73 none (.s 71) (.s 72) [] <|
  .op ⟨(some 5), none, .asg (.s 73) false, [7, 68, 69, 70, 71, 73]⟩ <|
  .nil
def r28_21 : XL := .op ⟨(some 75), none, .bin .eql (.s 27) (.c ⟨.one, [.int .i64 5]⟩), []⟩ <|
  .op ⟨(some 74), none, .asg (.s 75) false, [54, 75]⟩ <|
  .nil
def r28_22 : XL := .op ⟨(some 76), none, .fad 1 (.s 1), []⟩ <|
  .op ⟨(some 77), none, .load false 1 (.s 76), []⟩ <|
  .op ⟨(some 78), none, .fad 1 (.s 4), []⟩ <|
  .op ⟨none, none, .store 1 (.s 78) (.s 77) false, [5, 27, 74, 76, 77, 78]⟩ <|
  .nil
def r28_23 : XL := .op ⟨(some 79), none, .fad 2 (.s 1), []⟩ <|
  .op ⟨(some 80), none, .load false 1 (.s 79), []⟩ <|
  .op ⟨(some 81), none, .fad 2 (.s 4), []⟩ <|
  .op ⟨none, none, .store 1 (.s 81) (.s 80) false, [79, 80, 81]⟩ <|
  .nil
def r28_24 : XL := .op ⟨(some 82), none, .fad 3 (.s 1), []⟩ <|
  .op ⟨(some 83), none, .load false 1 (.s 82), []⟩ <|
  .op ⟨(some 84), none, .fad 3 (.s 4), []⟩ <|
  .op ⟨none, none, .store 1 (.s 84) (.s 83) false, [82, 83, 84]⟩ <|
  .nil
def r28_25 : XL := .op ⟨(some 85), none, .fad 1 (.s 1), []⟩ <|
  .op ⟨(some 86), none, .load false 1 (.s 85), []⟩ <|
  .op ⟨(some 87), none, .call 87 [(false, .s 86)] [], []⟩ <|
  .op ⟨(some 88), none, .mv (.s 87), []⟩ <|
  .sc 88 true (.op ⟨(some 89), (some (88, true)), .mv (.s 3), []⟩ <|
  .nil) [89] 90 none (.s 88) (.s 89) [] <|
  .op ⟨(some 5), none, .asg (.s 90) false, [3, 85, 86, 87, 88, 90]⟩ <|
  .nil
def r28_26 : XL := .op ⟨(some 92), none, .bin .eql (.s 27) (.c ⟨.one, [.int .i64 7]⟩), []⟩ <|
  .op ⟨(some 91), none, .asg (.s 92) false, [3, 27, 74, 92]⟩ <|
  .nil
def r28_27 : XL := .op ⟨(some 5), none, .asg (.c ⟨.one, [.bool true]⟩) false, [91]⟩ <|
  .nil
def r28_28 : XL := .op ⟨(some 93), none, .mv (.s 5), []⟩ <|
  .op ⟨(some 94), none, .mv (.s 93), []⟩ <|
  .sc 94 true (.op ⟨(some 95), (some (94, true)), .load true 5 (.s 4), []⟩ <|
  .op ⟨(some 96), (some (94, true)), .load true 5 (.s 1), []⟩ <|
  .op ⟨(some 97), (some (94, true)), .eqs false [0, 2, 0, 0, 2] (.s 95) (.s 96), []⟩ <|
  .nil) [95, 96, 97] 98 none (.s 94) (.s 97) [] <|
  .op ⟨(some 2), none, .asg (.s 98) false, [1, 4, 5, 91, 93, 94, 98]⟩ <|
  .nil
def x28 : XCode := .seq (.ops r28_0) (.seq (.ops r28_1) (.seq (.ops r28_2) (.seq (.ops r28_3) (.seq (.seq (.ops r28_4) (.block 0 (.seq (.ops r28_5) (.cond (.s 28) (.seq (.ops r28_6) (.seq (.ops r28_7) (.ops r28_8))) (.seq (.seq (.ops r28_9) (.cond (.s 37) (.skip) (.ops r28_10))) (.cond (.s 37) (.seq (.ops r28_11) (.ops r28_12)) (.seq (.ops r28_13) (.cond (.s 46) (.seq (.ops r28_14) (.ops r28_15)) (.seq (.ops r28_16) (.cond (.s 54) (.seq (.ops r28_17) (.seq (.ops r28_18) (.seq (.ops r28_19) (.ops r28_20)))) (.seq (.ops r28_21) (.cond (.s 74) (.seq (.ops r28_22) (.seq (.ops r28_23) (.seq (.ops r28_24) (.ops r28_25)))) (.seq (.ops r28_26) (.cond (.s 91) (.ops r28_27) (.skip))))))))))))))) (.seq (.ops r28_28) (.ret))))))
theorem m28 : mFun Try.prog Try.f28 x28 [.tmp 2] 1 = true := by kernel_rfl
theorem k28 : Callable Try.prog 28 := callable_of (by kernel_rfl)

/-! loop.example/g00360/impl.ReadBlock -/
def r29_0 : XL := .op ⟨(some 2), none, .asg (.c ⟨.one, [.own 2 []]⟩) false, []⟩ <|
  .op ⟨(some 3), none, .asg (.c ⟨.one, [.bool false]⟩) false, [2, 3]⟩ <|
  .nil
def r29_1 : XL := .op ⟨(some 17), none, .mv (.s 0), []⟩ <|
  .op ⟨(some 18), none, .call 88 [(false, .s 17)] [], []⟩ <|
  .op ⟨(some 16), none, .mv (.s 18), []⟩ <|
  .op ⟨(some 19), none, .ext 0 (.s 16), []⟩ <|
  .op ⟨(some 20), none, .ext 1 (.s 16), []⟩ <|
  .op ⟨(some 21), none, .ext 2 (.s 16), []⟩ <|
  .op ⟨(some 4), none, .asg (.s 19) true, []⟩ <|
  .op ⟨(some 5), none, .asg (.s 20) true, []⟩ <|
  .op ⟨(some 6), none, .asg (.s 21) true, [5, 16, 17, 18, 19, 20, 21]⟩ <|
  .nil
def r29_2 : XL := .op ⟨(some 23), none, .mv (.s 4), []⟩ <|
  .op ⟨(some 24), none, .call 89 [(false, .s 23)] [], []⟩ <|
  .op ⟨(some 22), none, .mv (.s 24), []⟩ <|
  .op ⟨(some 25), none, .ext 0 (.s 22), []⟩ <|
  .op ⟨(some 26), none, .ext 1 (.s 22), []⟩ <|
  .op ⟨(some 7), none, .asg (.s 25) true, []⟩ <|
  .op ⟨(some 8), none, .asg (.s 26) true, [22, 23, 24, 25, 26]⟩ <|
  .nil
def r29_3 : XL := .op ⟨(some 27), none, .mv (.s 6), []⟩ <|
  .op ⟨(some 28), none, .bin .neq (.s 27) (.c ⟨.one, [.int .i64 0]⟩), []⟩ <|
  .op ⟨(some 29), none, .mv (.s 28), []⟩ <|
  .sc 29 false (.op ⟨(some 30), (some (29, false)), .mv (.s 8), []⟩ <|
  .op ⟨(some 31), (some (29, false)), .bin .eql (.s 30) (.c ⟨.one, [.int .i64 0]⟩), []⟩ <|
  .nil) [30, 31] 32 none (.s 29) (.s 31) [6, 27, 28, 29] <|
  .nil
def r29_4 : XL := .op ⟨(some 2), none, .asg (.c ⟨.one, [.own 2 []]⟩) false, []⟩ <|
  .op ⟨(some 3), none, .asg (.c ⟨.one, [.bool false]⟩) false, [0, 4, 7, 8, 32]⟩ <|
  .nil
def r29_5 : XL := .op ⟨(some 34), none, .mv (.s 4), []⟩ <|
  .op ⟨(some 35), none, .mv (.s 8), []⟩ <|
  .op ⟨(some 36), none, .slcS (.s 34) (some (.s 35)) none, []⟩ <|
  .op ⟨(some 37), none, .mv (.s 7), []⟩ <|
  .op ⟨(some 38), none, .call 90 [(false, .s 36), (false, .s 37)] [], []⟩ <|
  .op ⟨(some 33), none, .mv (.s 38), []⟩ <|
  .op ⟨(some 39), none, .ext 0 (.s 33), []⟩ <|
  .op ⟨(some 40), none, .ext 1 (.s 33), []⟩ <|
  .op ⟨(some 9), none, .asg (.s 39) true, []⟩ <|
  .op ⟨(some 10), none, .asg (.s 40) true, [2, 3, 32, 33, 34, 35, 36, 37, 38, 39, 40]⟩ <|
  .nil
def r29_6 : XL := .op ⟨(some 42), none, .mv (.s 4), []⟩ <|
  .op ⟨(some 43), none, .mv (.s 8), []⟩ <|
  .op ⟨(some 44), none, .mv (.s 10), []⟩ <|
  .op ⟨(some 45), none, .bin .add (.s 43) (.s 44), []⟩ <|
  .op ⟨(some 46), none, .slcS (.s 42) (some (.s 45)) none, []⟩ <|
  .op ⟨(some 47), none, .mv (.s 7), []⟩ <|
  .op ⟨(some 48), none, .call 91 [(false, .s 46), (false, .s 47)] [], []⟩ <|
  .op ⟨(some 41), none, .mv (.s 48), []⟩ <|
  .op ⟨(some 49), none, .ext 0 (.s 41), []⟩ <|
  .op ⟨(some 50), none, .ext 1 (.s 41), []⟩ <|
  .op ⟨(some 11), none, .asg (.s 49) true, []⟩ <|
  .op ⟨(some 12), none, .asg (.s 50) true, [4, 8, 10, 12, 41, 42, 43, 44, 45, 46, 47, 48, 49, 50]⟩ <|
  .nil
def r29_7 : XL := .op ⟨(some 51), none, .mv (.s 9), []⟩ <|
  .op ⟨(some 52), none, .len false (.s 51), []⟩ <|
  .op ⟨(some 53), none, .mv (.s 7), []⟩ <|
  .op ⟨(some 54), none, .bin .neq (.s 52) (.s 53), []⟩ <|
  .op ⟨(some 55), none, .mv (.s 54), []⟩ <|
  .sc 55 false (.op ⟨(some 56), (some (55, false)), .mv (.s 11), []⟩ <|
  .op ⟨(some 57), (some (55, false)), .len false (.s 56), []⟩ <|
  .op ⟨(some 58), (some (55, false)), .mv (.s 7), []⟩ <|
  .op ⟨(some 59), (some (55, false)), .bin .neq (.s 57) (.s 58), []⟩ <|
  .nil) [56, 57, 58, 59] 60 none (.s 55) (.s 59) [7, 51, 52, 53, 54, 55] <|
  .nil
def r29_8 : XL := .op ⟨(some 2), none, .asg (.c ⟨.one, [.own 2 []]⟩) false, []⟩ <|
  .op ⟨(some 3), none, .asg (.c ⟨.one, [.bool false]⟩) false, [0, 9, 11, 60]⟩ <|
  .nil
def r29_9 : XL := .op ⟨(some 61), none, .bslice 2 [], []⟩ <|
  .op ⟨(some 13), none, .asg (.s 61) false, [2, 3, 60, 61]⟩ <|
  .nil
def r29_10 : XL := .op ⟨(some 62), none, .mv (.s 9), []⟩ <|
  .op ⟨(some 63), none, .len false (.s 62), []⟩ <|
  .op ⟨(some 64), none, .mv (.c ⟨.one, [.int .i64 0]⟩), []⟩ <|
  .nil
def r29_11 : XL := .op ⟨(some 65), none, .bin .lss (.s 64) (.s 63), []⟩ <|
  .nil
def r29_12 : XL := .op ⟨(some 66), none, .mv (.s 64), []⟩ <|
  .op ⟨(some 67), none, .iad 1 (.s 62) (.s 64), []⟩ <|
  .op ⟨(some 68), none, .load false 1 (.s 67), []⟩ <|
  .op ⟨(some 14), none, .asg (.s 66) false, []⟩ <|
  .op ⟨(some 15), none, .asg (.s 68) false, [65, 66, 67, 68]⟩ <|
  .nil
def r29_13 : XL := .op ⟨(some 69), none, .mv (.s 13), []⟩ <|
  .op ⟨(some 70), none, .mv (.s 15), []⟩ <|
  .op ⟨(some 71), none, .mv (.s 11), []⟩ <|
  .op ⟨(some 72), none, .mv (.s 14), []⟩ <|
  .op ⟨(some 73), none, .iad 1 (.s 71) (.s 72), []⟩ <|
  .op ⟨(some 74), none, .load false 1 (.s 73), []⟩ <|
  .op ⟨(some 75), none, .build [.int .i64 0, .int .i64 0] [(0, 1, .s 70), (1, 1, .s 74)], []⟩ <|
  .op ⟨(some 76), none, .bslice 2 [.s 75], []⟩ <|
  .op ⟨(some 77), none, .app 2 16 (.s 69) (.s 76) false, []⟩ <|
  .op ⟨(some 13), none, .asg (.s 77) false, [14, 15, 69, 70, 71, 72, 73, 74, 75, 76, 77]⟩ <|
  .nil
def r29_14 : XL := .op ⟨(some 78), none, .bin .add (.s 64) (.c ⟨.one, [.int .i64 1]⟩), []⟩ <|
  .op ⟨(some 64), none, .mv (.s 78), [78]⟩ <|
  .nil
def l29_0 : XCode := .keep [0, 9, 11, 13, 62, 63, 64] [] (.seq (.ops r29_11) (.seq (.cond (.s 65) (.skip) (.exit 0)) (.seq (.block 1 (.seq (.ops r29_12) (.ops r29_13))) (.ops r29_14))))
def r29_15 : XL := .op ⟨(some 79), none, .mv (.s 13), []⟩ <|
  .op ⟨(some 80), none, .call 92 [(false, .s 79)] [], []⟩ <|
  .op ⟨(some 81), none, .mv (.s 0), []⟩ <|
  .op ⟨(some 82), none, .bin .neq (.s 80) (.s 81), [0, 9, 11, 62, 63, 64, 79, 80, 81]⟩ <|
  .nil
def r29_16 : XL := .op ⟨(some 2), none, .asg (.c ⟨.one, [.own 2 []]⟩) false, []⟩ <|
  .op ⟨(some 3), none, .asg (.c ⟨.one, [.bool false]⟩) false, [13, 82]⟩ <|
  .nil
def r29_17 : XL := .op ⟨(some 83), none, .mv (.s 13), []⟩ <|
  .op ⟨(some 2), none, .asg (.s 83) true, []⟩ <|
  .op ⟨(some 3), none, .asg (.c ⟨.one, [.bool true]⟩) false, [13, 82, 83]⟩ <|
  .nil
def x29 : XCode := .seq (.ops r29_0) (.seq (.ops r29_1) (.seq (.ops r29_2) (.seq (.seq (.ops r29_3) (.cond (.s 32) (.seq (.ops r29_4) (.ret)) (.skip))) (.seq (.ops r29_5) (.seq (.ops r29_6) (.seq (.seq (.ops r29_7) (.cond (.s 60) (.seq (.ops r29_8) (.ret)) (.skip))) (.seq (.ops r29_9) (.seq (.seq (.ops r29_10) (.block 0 (.loop l29_0))) (.seq (.seq (.ops r29_15) (.cond (.s 82) (.seq (.ops r29_16) (.ret)) (.skip))) (.seq (.ops r29_17) (.ret)))))))))))
theorem m29 : mFun Try.prog Try.f29 x29 [.tmp 2, .tmp 3] 1 = true := by kernel_rfl
theorem k29 : Callable Try.prog 29 := callable_of (by kernel_rfl)

/-! loop.example/g00360/impl.keyOk -/
def r30_0 : XL := .op ⟨(some 2), none, .asg (.c ⟨.one, [.bool false]⟩) false, [2]⟩ <|
  .nil
def r30_1 : XL := .op ⟨(some 4), none, .mv (.s 0), []⟩ <|
  .op ⟨(some 5), none, .len true (.s 4), []⟩ <|
  .op ⟨(some 6), none, .mv (.c ⟨.one, [.int .i64 0]⟩), [4]⟩ <|
  .nil
def r30_2 : XL := .op ⟨(some 7), none, .bin .lss (.s 6) (.s 5), []⟩ <|
  .nil
def r30_3 : XL := .op ⟨(some 8), none, .mv (.s 6), []⟩ <|
  .op ⟨(some 3), none, .asg (.s 8) false, [7, 8]⟩ <|
  .nil
def r30_4 : XL := .op ⟨(some 9), none, .mv (.s 0), []⟩ <|
  .op ⟨(some 10), none, .mv (.s 3), []⟩ <|
  .op ⟨(some 11), none, .idx (.s 9) (.s 10), []⟩ <|
  .op ⟨(some 12), none, .bin .lss (.s 11) (.c ⟨.one, [.int .u8 97]⟩), []⟩ <|
  .op ⟨(some 13), none, .mv (.s 12), []⟩ <|
  .sc 13 false (.op ⟨(some 14), (some (13, false)), .mv (.s 0), []⟩ <|
  .op ⟨(some 15), (some (13, false)), .mv (.s 3), []⟩ <|
  .op ⟨(some 16), (some (13, false)), .idx (.s 14) (.s 15), []⟩ <|
  .op ⟨(some 17), (some (13, false)), .bin .gtr (.s 16) (.c ⟨.one, [.int .u8 122]⟩), []⟩ <|
  .nil) [14, 15, 16, 17] 18 none (.s 13) (.s 17) [3, 9, 10, 11, 12, 13] <|
  .nil
def r30_5 : XL := .op ⟨(some 2), none, .asg (.c ⟨.one, [.bool false]⟩) false, [0, 5, 6, 18]⟩ <|
  .nil
def r30_6 : XL := .op ⟨(some 19), none, .bin .add (.s 6) (.c ⟨.one, [.int .i64 1]⟩), []⟩ <|
  .op ⟨(some 6), none, .mv (.s 19), [2, 18, 19]⟩ <|
  .nil
def l30_0 : XCode := .keep [0, 5, 6] [] (.seq (.ops r30_2) (.seq (.cond (.s 7) (.skip) (.exit 0)) (.seq (.block 1 (.seq (.ops r30_3) (.seq (.ops r30_4) (.cond (.s 18) (.seq (.ops r30_5) (.ret)) (.skip))))) (.ops r30_6))))
def r30_7 : XL := .op ⟨(some 20), none, .mv (.s 0), []⟩ <|
  .op ⟨(some 21), none, .len true (.s 20), []⟩ <|
  .op ⟨(some 22), none, .call 32 [(false, .s 21), (false, .c ⟨.one, [.int .i64 1]⟩), (false, .c ⟨.one, [.int .i64 8]⟩)] [], []⟩ <|
  .op ⟨(some 2), none, .asg (.s 22) false, [0, 5, 6, 20, 21, 22]⟩ <|
  .nil
def x30 : XCode := .seq (.ops r30_0) (.seq (.seq (.ops r30_1) (.block 0 (.loop l30_0))) (.seq (.ops r30_7) (.ret)))
theorem m30 : mFun Try.prog Try.f30 x30 [.tmp 2] 1 = true := by kernel_rfl
theorem k30 : Callable Try.prog 30 := callable_of (by kernel_rfl)

/-! loop.example/g00360/impl.isTime -/
def r31_0 : XL := .op ⟨(some 2), none, .asg (.c ⟨.one, [.bool false]⟩) false, [2]⟩ <|
  .nil
def r31_1 : XL := .op ⟨(some 3), none, .mv (.s 0), []⟩ <|
  .op ⟨(some 4), none, .call 32 [(false, .s 3), (false, .c ⟨.one, [.int .i64 0]⟩), (false, .c ⟨.one, [.int .i64 1099511627776]⟩)] [], []⟩ <|
  .op ⟨(some 2), none, .asg (.s 4) false, [0, 3, 4]⟩ <|
  .nil
def x31 : XCode := .seq (.ops r31_0) (.seq (.ops r31_1) (.ret))
theorem m31 : mFun Try.prog Try.f31 x31 [.tmp 2] 1 = true := by kernel_rfl
theorem k31 : Callable Try.prog 31 := callable_of (by kernel_rfl)

/-! loop.example/g00360/impl.from -/
def r32_0 : XL := .op ⟨(some 6), none, .asg (.c ⟨.one, [.bool false]⟩) false, [6]⟩ <|
  .nil
def r32_1 : XL := .op ⟨(some 7), none, .mv (.s 0), []⟩ <|
  .op ⟨(some 8), none, .mv (.s 1), []⟩ <|
  .op ⟨(some 9), none, .bin .geq (.s 7) (.s 8), []⟩ <|
  .op ⟨(some 10), none, .mv (.s 9), []⟩ <|
  .sc 10 true (.op ⟨(some 11), (some (10, true)), .mv (.s 0), []⟩ <|
  .op ⟨(some 12), (some (10, true)), .mv (.s 2), []⟩ <|
  .op ⟨(some 13), (some (10, true)), .bin .leq (.s 11) (.s 12), []⟩ <|
  .nil) [11, 12, 13] 14 none (.s 10) (.s 13) [] <|
  .op ⟨(some 6), none, .asg (.s 14) false, [0, 1, 2, 7, 8, 9, 10, 14]⟩ <|
  .nil
def x32 : XCode := .seq (.ops r32_0) (.seq (.ops r32_1) (.ret))
theorem m32 : mFun Try.prog Try.f32 x32 [.tmp 6] 3 = true := by kernel_rfl
theorem k32 : Callable Try.prog 32 := callable_of (by kernel_rfl)

/-! loop.example/g00360/spec.l15Server -/
def r34_0 : XL := .op ⟨(some 2), none, .asg (.c ⟨.one, [.bool false]⟩) false, [2]⟩ <|
  .nil
def r34_1 : XL := .op ⟨(some 3), none, .mv (.s 0), []⟩ <|
  .op ⟨(some 4), none, .call 36 [(false, .s 3), (false, .c ⟨.one, [.int .i64 0]⟩), (false, .c ⟨.one, [.int .i64 4]⟩)] [], []⟩ <|
  .op ⟨(some 2), none, .asg (.s 4) false, [0, 3, 4]⟩ <|
  .nil
def x34 : XCode := .seq (.ops r34_0) (.seq (.ops r34_1) (.ret))
theorem m34 : mFun Try.prog Try.f34 x34 [.tmp 2] 1 = true := by kernel_rfl
theorem k34 : Callable Try.prog 34 := callable_of (by kernel_rfl)

/-! loop.example/g00360/spec.l15Client -/
def r35_0 : XL := .op ⟨(some 2), none, .asg (.c ⟨.one, [.bool false]⟩) false, [2]⟩ <|
  .nil
def r35_1 : XL := .op ⟨(some 3), none, .mv (.s 0), []⟩ <|
  .op ⟨(some 4), none, .call 36 [(false, .s 3), (false, .c ⟨.one, [.int .i64 11]⟩), (false, .c ⟨.one, [.int .i64 14]⟩)] [], []⟩ <|
  .op ⟨(some 2), none, .asg (.s 4) false, [0, 3, 4]⟩ <|
  .nil
def x35 : XCode := .seq (.ops r35_0) (.seq (.ops r35_1) (.ret))
theorem m35 : mFun Try.prog Try.f35 x35 [.tmp 2] 1 = true := by kernel_rfl
theorem k35 : Callable Try.prog 35 := callable_of (by kernel_rfl)

/-! loop.example/g00360/spec.l1In -/
def r36_0 : XL := .op ⟨(some 6), none, .asg (.c ⟨.one, [.bool false]⟩) false, [6]⟩ <|
  .nil
def r36_1 : XL := .op ⟨(some 7), none, .mv (.s 0), []⟩ <|
  .op ⟨(some 8), none, .mv (.s 1), []⟩ <|
  .op ⟨(some 9), none, .bin .geq (.s 7) (.s 8), []⟩ <|
  .op ⟨(some 10), none, .mv (.s 9), []⟩ <|
  .sc 10 true (.op ⟨(some 11), (some (10, true)), .mv (.s 0), []⟩ <|
  .op ⟨(some 12), (some (10, true)), .mv (.s 2), []⟩ <|
  .op ⟨(some 13), (some (10, true)), .bin .leq (.s 11) (.s 12), []⟩ <|
  .nil) [11, 12, 13] 14 none (.s 10) (.s 13) [] <|
  .op ⟨(some 6), none, .asg (.s 14) false, [0, 1, 2, 7, 8, 9, 10, 14]⟩ <|
  .nil
def x36 : XCode := .seq (.ops r36_0) (.seq (.ops r36_1) (.ret))
theorem m36 : mFun Try.prog Try.f36 x36 [.tmp 6] 3 = true := by kernel_rfl
theorem k36 : Callable Try.prog 36 := callable_of (by kernel_rfl)

/-! loop.example/g00360/impl.isServer -/
def r43_0 : XL := .op ⟨(some 2), none, .asg (.c ⟨.one, [.bool false]⟩) false, [2]⟩ <|
  .nil
def r43_1 : XL := .op ⟨(some 3), none, .mv (.s 0), []⟩ <|
  .op ⟨(some 4), none, .call 32 [(false, .s 3), (false, .c ⟨.one, [.int .i64 0]⟩), (false, .c ⟨.one, [.int .i64 4]⟩)] [], []⟩ <|
  .op ⟨(some 2), none, .asg (.s 4) false, [0, 3, 4]⟩ <|
  .nil
def x43 : XCode := .seq (.ops r43_0) (.seq (.ops r43_1) (.ret))
theorem m43 : mFun Try.prog Try.f43 x43 [.tmp 2] 1 = true := by kernel_rfl
theorem k43 : Callable Try.prog 43 := callable_of (by kernel_rfl)

/-! loop.example/g00360/impl.isTerm -/
def r44_0 : XL := .op ⟨(some 2), none, .asg (.c ⟨.one, [.bool false]⟩) false, [2]⟩ <|
  .nil
def r44_1 : XL := .op ⟨(some 3), none, .mv (.s 0), []⟩ <|
  .op ⟨(some 4), none, .call 32 [(false, .s 3), (false, .c ⟨.one, [.int .i64 1]⟩), (false, .c ⟨.one, [.int .i64 100000]⟩)] [], []⟩ <|
  .op ⟨(some 2), none, .asg (.s 4) false, [0, 3, 4]⟩ <|
  .nil
def x44 : XCode := .seq (.ops r44_0) (.seq (.ops r44_1) (.ret))
theorem m44 : mFun Try.prog Try.f44 x44 [.tmp 2] 1 = true := by kernel_rfl
theorem k44 : Callable Try.prog 44 := callable_of (by kernel_rfl)

/-! loop.example/g00360/impl.isSerial -/
def r50_0 : XL := .op ⟨(some 2), none, .asg (.c ⟨.one, [.bool false]⟩) false, [2]⟩ <|
  .nil
def r50_1 : XL := .op ⟨(some 3), none, .mv (.s 0), []⟩ <|
  .op ⟨(some 4), none, .call 32 [(false, .s 3), (false, .c ⟨.one, [.int .i64 1]⟩), (false, .c ⟨.one, [.int .i64 1000000]⟩)] [], []⟩ <|
  .op ⟨(some 2), none, .asg (.s 4) false, [0, 3, 4]⟩ <|
  .nil
def x50 : XCode := .seq (.ops r50_0) (.seq (.ops r50_1) (.ret))
theorem m50 : mFun Try.prog Try.f50 x50 [.tmp 2] 1 = true := by kernel_rfl
theorem k50 : Callable Try.prog 50 := callable_of (by kernel_rfl)

/-! loop.example/g00360/spec.Var -/
def r53_0 : XL := .op ⟨(some 2), none, .asg (.c ⟨.one, [.str ⟨#[]⟩]⟩) false, [2]⟩ <|
  .nil
def r53_1 : XL := .op ⟨(some 4), none, .mv (.s 0), []⟩ <|
  .op ⟨(some 5), none, .call 36 [(false, .s 4), (false, .c ⟨.one, [.int .i64 0]⟩), (false, .c ⟨.one, [.int .i64 562949953421311]⟩)] [], []⟩ <|
  .op ⟨(some 6), none, .un .not (.s 5), [4, 5]⟩ <|
  .nil
def r53_2 : XL := .op ⟨(some 2), none, .asg (.c ⟨.one, [.str ⟨#[]⟩]⟩) false, [0, 6]⟩ <|
  .nil
def r53_3 : XL := .op ⟨(some 7), none, .bslice 1 [], []⟩ <|
  .op ⟨(some 3), none, .asg (.s 7) false, [2, 6, 7]⟩ <|
  .nil
def r53_4 : XL := .op ⟨(some 8), none, .mv (.s 0), []⟩ <|
  .op ⟨(some 9), none, .bin .geq (.s 8) (.c ⟨.one, [.int .i64 128]⟩), [8]⟩ <|
  .nil
def r53_5 : XL := .op ⟨(some 10), none, .mv (.s 3), []⟩ <|
  .op ⟨(some 11), none, .mv (.s 0), []⟩ <|
  .op ⟨(some 12), none, .bin .rem (.s 11) (.c ⟨.one, [.int .i64 128]⟩), []⟩ <|
  .op ⟨(some 13), none, .bin .add (.c ⟨.one, [.int .i64 128]⟩) (.s 12), []⟩ <|
  .op ⟨(some 14), none, .convI .u8 (.s 13), []⟩ <|
  .op ⟨(some 15), none, .bslice 1 [.s 14], []⟩ <|
  .op ⟨(some 16), none, .app 1 1 (.s 10) (.s 15) false, []⟩ <|
  .op ⟨(some 3), none, .asg (.s 16) false, [9, 10, 11, 12, 13, 14, 15, 16]⟩ <|
  .nil
def r53_6 : XL := .op ⟨(some 17), none, .mv (.s 0), []⟩ <|
  .op ⟨(some 18), none, .bin .quo (.s 17) (.c ⟨.one, [.int .i64 128]⟩), []⟩ <|
  .op ⟨(some 0), none, .asg (.s 18) false, [17, 18]⟩ <|
  .nil
def l53_0 : XCode := .keep [0, 3] [] (.seq (.seq (.ops r53_4) (.cond (.s 9) (.skip) (.exit 0))) (.block 1 (.seq (.ops r53_5) (.ops r53_6))))
def r53_7 : XL := .op ⟨(some 19), none, .mv (.s 3), []⟩ <|
  .op ⟨(some 20), none, .mv (.s 0), []⟩ <|
  .op ⟨(some 21), none, .convI .u8 (.s 20), []⟩ <|
  .op ⟨(some 22), none, .bslice 1 [.s 21], []⟩ <|
  .op ⟨(some 23), none, .app 1 1 (.s 19) (.s 22) false, []⟩ <|
  .op ⟨(some 24), none, .b2s (.s 23), []⟩ <|
  .op ⟨(some 2), none, .asg (.s 24) false, [0, 3, 19, 20, 21, 22, 23, 24]⟩ <|
  .nil
def x53 : XCode := .seq (.ops r53_0) (.seq (.seq (.ops r53_1) (.cond (.s 6) (.seq (.ops r53_2) (.ret)) (.skip))) (.seq (.ops r53_3) (.seq (.block 0 (.loop l53_0)) (.seq (.ops r53_7) (.ret)))))
theorem m53 : mFun Try.prog Try.f53 x53 [.tmp 2] 1 = true := by kernel_rfl
theorem k53 : Callable Try.prog 53 := callable_of (by kernel_rfl)

/-! loop.example/g00360/spec.Fixed -/
def r55_0 : XL := .op ⟨(some 4), none, .asg (.c ⟨.one, [.str ⟨#[]⟩]⟩) false, [4]⟩ <|
  .nil
def r55_1 : XL := .op ⟨(some 7), none, .mv (.s 1), []⟩ <|
  .op ⟨(some 8), none, .call 36 [(false, .s 7), (false, .c ⟨.one, [.int .i64 1]⟩), (false, .c ⟨.one, [.int .i64 7]⟩)] [], []⟩ <|
  .op ⟨(some 9), none, .un .not (.s 8), []⟩ <|
  .op ⟨(some 10), none, .mv (.s 9), []⟩ <|
  .sc 10 false (.op ⟨(some 11), (some (10, false)), .mv (.s 0), []⟩ <|
  .op ⟨(some 12), (some (10, false)), .bin .lss (.s 11) (.c ⟨.one, [.int .i64 0]⟩), []⟩ <|
  .nil) [11, 12] 13 none (.s 10) (.s 12) [7, 8, 9, 10] <|
  .nil
def r55_2 : XL := .op ⟨(some 4), none, .asg (.c ⟨.one, [.str ⟨#[]⟩]⟩) false, [0, 1, 13]⟩ <|
  .nil
def r55_3 : XL := .op ⟨(some 5), none, .asg (.c ⟨.one, [.str ⟨#[]⟩]⟩) false, [4, 13]⟩ <|
  .nil
def r55_4 : XL := .op ⟨(some 6), none, .asg (.c ⟨.one, [.int .i64 0]⟩) false, []⟩ <|
  .nil
def r55_5 : XL := .op ⟨(some 14), none, .mv (.s 6), []⟩ <|
  .op ⟨(some 15), none, .mv (.s 1), []⟩ <|
  .op ⟨(some 16), none, .bin .lss (.s 14) (.s 15), [14, 15]⟩ <|
  .nil
def r55_7 : XL := .op ⟨(some 19), none, .mv (.s 0), []⟩ <|
  .op ⟨(some 20), none, .bin .rem (.s 19) (.c ⟨.one, [.int .i64 256]⟩), []⟩ <|
  .op ⟨(some 21), none, .convI .u8 (.s 20), []⟩ <|
  .op ⟨(some 22), none, .bslice 1 [.s 21], []⟩ <|
  .op ⟨(some 23), none, .b2s (.s 22), []⟩ <|
  .op ⟨(some 24), none, .mv (.s 5), []⟩ <|
  .op ⟨(some 25), none, .bin .add (.s 23) (.s 24), []⟩ <|
  .op ⟨(some 5), none, .asg (.s 25) false, [16, 19, 20, 21, 22, 23, 24, 25]⟩ <|
  .nil
def r55_8 : XL := .op ⟨(some 26), none, .mv (.s 0), []⟩ <|
  .op ⟨(some 27), none, .bin .quo (.s 26) (.c ⟨.one, [.int .i64 256]⟩), []⟩ <|
  .op ⟨(some 0), none, .asg (.s 27) false, [26, 27]⟩ <|
  .nil
def r55_6 : XL := .op ⟨(some 17), none, .mv (.s 6), []⟩ <|
  .op ⟨(some 18), none, .bin .add (.s 17) (.c ⟨.one, [.int .i64 1]⟩), []⟩ <|
  .op ⟨(some 6), none, .asg (.s 18) false, [17, 18]⟩ <|
  .nil
def l55_0 : XCode := .keep [0, 1, 5, 6] [] (.seq (.seq (.ops r55_5) (.cond (.s 16) (.skip) (.exit 0))) (.seq (.block 1 (.seq (.ops r55_7) (.ops r55_8))) (.ops r55_6)))
def r55_9 : XL := .op ⟨(some 28), none, .mv (.s 0), []⟩ <|
  .op ⟨(some 29), none, .bin .gtr (.s 28) (.c ⟨.one, [.int .i64 0]⟩), [0, 1, 6, 28]⟩ <|
  .nil
def r55_10 : XL := .op ⟨(some 4), none, .asg (.c ⟨.one, [.str ⟨#[]⟩]⟩) false, [5, 29]⟩ <|
  .nil
def r55_11 : XL := .op ⟨(some 30), none, .mv (.s 5), []⟩ <|
  .op ⟨(some 4), none, .asg (.s 30) true, [5, 29, 30]⟩ <|
  .nil
def x55 : XCode := .seq (.ops r55_0) (.seq (.seq (.ops r55_1) (.cond (.s 13) (.seq (.ops r55_2) (.ret)) (.skip))) (.seq (.ops r55_3) (.seq (.seq (.ops r55_4) (.block 0 (.loop l55_0))) (.seq (.seq (.ops r55_9) (.cond (.s 29) (.seq (.ops r55_10) (.ret)) (.skip))) (.seq (.ops r55_11) (.ret))))))
theorem m55 : mFun Try.prog Try.f55 x55 [.tmp 4] 2 = true := by kernel_rfl
theorem k55 : Callable Try.prog 55 := callable_of (by kernel_rfl)

/-! loop.example/g00360/spec.Crc -/
def r56_0 : XL := .op ⟨(some 2), none, .asg (.c ⟨.one, [.int .i64 0]⟩) false, [2]⟩ <|
  .nil
def r56_1 : XL := .op ⟨(some 3), none, .asg (.c ⟨.one, [.int .i64 4294967295]⟩) false, []⟩ <|
  .nil
def r56_2 : XL := .op ⟨(some 4), none, .asg (.c ⟨.one, [.int .i64 0]⟩) false, []⟩ <|
  .nil
def r56_3 : XL := .op ⟨(some 7), none, .mv (.s 4), []⟩ <|
  .op ⟨(some 8), none, .mv (.s 0), []⟩ <|
  .op ⟨(some 9), none, .len true (.s 8), []⟩ <|
  .op ⟨(some 10), none, .bin .lss (.s 7) (.s 9), [7, 8, 9]⟩ <|
  .nil
def r56_5 : XL := .op ⟨(some 13), none, .mv (.s 3), []⟩ <|
  .op ⟨(some 14), none, .mv (.s 0), []⟩ <|
  .op ⟨(some 15), none, .mv (.s 4), []⟩ <|
  .op ⟨(some 16), none, .idx (.s 14) (.s 15), []⟩ <|
  .op ⟨(some 17), none, .convI .i64 (.s 16), []⟩ <|
  .op ⟨(some 18), none, .bin .xor (.s 13) (.s 17), []⟩ <|
  .op ⟨(some 3), none, .asg (.s 18) false, [10, 13, 14, 15, 16, 17, 18]⟩ <|
  .nil
def r56_6 : XL := .op ⟨(some 5), none, .asg (.c ⟨.one, [.int .i64 0]⟩) false, []⟩ <|
  .nil
def r56_7 : XL := .op ⟨(some 19), none, .mv (.s 5), []⟩ <|
  .op ⟨(some 20), none, .bin .lss (.s 19) (.c ⟨.one, [.int .i64 8]⟩), [19]⟩ <|
  .nil
def r56_9 : XL := .op ⟨(some 23), none, .mv (.s 3), []⟩ <|
  .op ⟨(some 24), none, .bin .rem (.s 23) (.c ⟨.one, [.int .i64 2]⟩), []⟩ <|
  .op ⟨(some 6), none, .asg (.s 24) false, [20, 23, 24]⟩ <|
  .nil
def r56_10 : XL := .op ⟨(some 25), none, .mv (.s 3), []⟩ <|
  .op ⟨(some 26), none, .bin .quo (.s 25) (.c ⟨.one, [.int .i64 2]⟩), []⟩ <|
  .op ⟨(some 3), none, .asg (.s 26) false, [25, 26]⟩ <|
  .nil
def r56_11 : XL := .op ⟨(some 27), none, .mv (.s 6), []⟩ <|
  .op ⟨(some 28), none, .bin .eql (.s 27) (.c ⟨.one, [.int .i64 1]⟩), [6, 27]⟩ <|
  .nil
def r56_12 : XL := .op ⟨(some 29), none, .mv (.s 3), []⟩ <|
  .op ⟨(some 30), none, .bin .xor (.s 29) (.c ⟨.one, [.int .i64 2197175160]⟩), []⟩ <|
  .op ⟨(some 3), none, .asg (.s 30) false, [28, 29, 30]⟩ <|
  .nil
def r56_8 : XL := .op ⟨(some 21), none, .mv (.s 5), []⟩ <|
  .op ⟨(some 22), none, .bin .add (.s 21) (.c ⟨.one, [.int .i64 1]⟩), []⟩ <|
  .op ⟨(some 5), none, .asg (.s 22) false, [21, 22, 28]⟩ <|
  .nil
def l56_0 : XCode := .keep [0, 3, 4, 5] [] (.seq (.seq (.ops r56_7) (.cond (.s 20) (.skip) (.exit 2))) (.seq (.block 3 (.seq (.ops r56_9) (.seq (.ops r56_10) (.seq (.ops r56_11) (.cond (.s 28) (.ops r56_12) (.skip)))))) (.ops r56_8)))
def r56_4 : XL := .op ⟨(some 11), none, .mv (.s 4), []⟩ <|
  .op ⟨(some 12), none, .bin .add (.s 11) (.c ⟨.one, [.int .i64 1]⟩), []⟩ <|
  .op ⟨(some 4), none, .asg (.s 12) false, [5, 11, 12]⟩ <|
  .nil
def l56_1 : XCode := .keep [0, 3, 4] [] (.seq (.seq (.ops r56_3) (.cond (.s 10) (.skip) (.exit 0))) (.seq (.block 1 (.seq (.ops r56_5) (.seq (.ops r56_6) (.block 2 (.loop l56_0))))) (.ops r56_4)))
def r56_13 : XL := .op ⟨(some 31), none, .mv (.s 3), []⟩ <|
  .op ⟨(some 32), none, .bin .sub (.c ⟨.one, [.int .i64 4294967295]⟩) (.s 31), []⟩ <|
  .op ⟨(some 2), none, .asg (.s 32) false, [0, 3, 4, 31, 32]⟩ <|
  .nil
def x56 : XCode := .seq (.ops r56_0) (.seq (.ops r56_1) (.seq (.seq (.ops r56_2) (.block 0 (.loop l56_1))) (.seq (.ops r56_13) (.ret))))
theorem m56 : mFun Try.prog Try.f56 x56 [.tmp 2] 1 = true := by kernel_rfl
theorem k56 : Callable Try.prog 56 := callable_of (by kernel_rfl)

/-! loop.example/g00360/impl.Var -/
def r57_0 : XL := .op ⟨(some 2), none, .asg (.c ⟨.one, [.str ⟨#[]⟩]⟩) false, [2]⟩ <|
  .nil
def r57_1 : XL := .op ⟨(some 4), none, .mv (.s 0), []⟩ <|
  .op ⟨(some 5), none, .call 32 [(false, .s 4), (false, .c ⟨.one, [.int .i64 0]⟩), (false, .c ⟨.one, [.int .i64 562949953421311]⟩)] [], []⟩ <|
  .op ⟨(some 6), none, .un .not (.s 5), [4, 5]⟩ <|
  .nil
def r57_2 : XL := .op ⟨(some 2), none, .asg (.c ⟨.one, [.str ⟨#[]⟩]⟩) false, [0, 6]⟩ <|
  .nil
def r57_3 : XL := .op ⟨(some 7), none, .bslice 1 [], []⟩ <|
  .op ⟨(some 3), none, .asg (.s 7) false, [2, 6, 7]⟩ <|
  .nil
def r57_4 : XL := .op ⟨(some 8), none, .mv (.s 0), []⟩ <|
  .op ⟨(some 9), none, .bin .gtr (.s 8) (.c ⟨.one, [.int .i64 127]⟩), [8]⟩ <|
  .nil
def r57_5 : XL := .op ⟨(some 10), none, .mv (.s 3), []⟩ <|
  .op ⟨(some 11), none, .mv (.s 0), []⟩ <|
  .op ⟨(some 12), none, .bin .rem (.s 11) (.c ⟨.one, [.int .i64 128]⟩), []⟩ <|
  .op ⟨(some 13), none, .bin .add (.s 12) (.c ⟨.one, [.int .i64 128]⟩), []⟩ <|
  .op ⟨(some 14), none, .convI .u8 (.s 13), []⟩ <|
  .op ⟨(some 15), none, .bslice 1 [.s 14], []⟩ <|
  .op ⟨(some 16), none, .app 1 1 (.s 10) (.s 15) false, []⟩ <|
  .op ⟨(some 3), none, .asg (.s 16) false, [9, 10, 11, 12, 13, 14, 15, 16]⟩ <|
  .nil
def r57_6 : XL := .op ⟨(some 17), none, .mv (.s 0), []⟩ <|
  .op ⟨(some 18), none, .bin .quo (.s 17) (.c ⟨.one, [.int .i64 128]⟩), []⟩ <|
  .op ⟨(some 0), none, .asg (.s 18) false, [17, 18]⟩ <|
  .nil
def l57_0 : XCode := .keep [0, 3] [] (.seq (.seq (.ops r57_4) (.cond (.s 9) (.skip) (.exit 0))) (.block 1 (.seq (.ops r57_5) (.ops r57_6))))
def r57_7 : XL := .op ⟨(some 19), none, .mv (.s 3), []⟩ <|
  .op ⟨(some 20), none, .mv (.s 0), []⟩ <|
  .op ⟨(some 21), none, .convI .u8 (.s 20), []⟩ <|
  .op ⟨(some 22), none, .bslice 1 [.s 21], []⟩ <|
  .op ⟨(some 23), none, .app 1 1 (.s 19) (.s 22) false, []⟩ <|
  .op ⟨(some 24), none, .b2s (.s 23), []⟩ <|
  .op ⟨(some 2), none, .asg (.s 24) false, [0, 3, 19, 20, 21, 22, 23, 24]⟩ <|
  .nil
def x57 : XCode := .seq (.ops r57_0) (.seq (.seq (.ops r57_1) (.cond (.s 6) (.seq (.ops r57_2) (.ret)) (.skip))) (.seq (.ops r57_3) (.seq (.block 0 (.loop l57_0)) (.seq (.ops r57_7) (.ret)))))
theorem m57 : mFun Try.prog Try.f57 x57 [.tmp 2] 1 = true := by kernel_rfl
theorem k57 : Callable Try.prog 57 := callable_of (by kernel_rfl)

/-! loop.example/g00360/impl.Fixed -/
def r59_0 : XL := .op ⟨(some 4), none, .asg (.c ⟨.one, [.str ⟨#[]⟩]⟩) false, [4]⟩ <|
  .nil
def r59_1 : XL := .op ⟨(some 7), none, .mv (.s 1), []⟩ <|
  .op ⟨(some 8), none, .call 32 [(false, .s 7), (false, .c ⟨.one, [.int .i64 1]⟩), (false, .c ⟨.one, [.int .i64 7]⟩)] [], []⟩ <|
  .op ⟨(some 9), none, .un .not (.s 8), []⟩ <|
  .op ⟨(some 10), none, .mv (.s 9), []⟩ <|
  .sc 10 false (.op ⟨(some 11), (some (10, false)), .mv (.s 0), []⟩ <|
  .op ⟨(some 12), (some (10, false)), .bin .lss (.s 11) (.c ⟨.one, [.int .i64 0]⟩), []⟩ <|
  .nil) [11, 12] 13 none (.s 10) (.s 12) [] <|
  .op ⟨(some 14), none, .mv (.s 13), []⟩ <|
  .sc 14 false (.op ⟨(some 15), (some (14, false)), .mv (.s 0), []⟩ <|
  .op ⟨(some 16), (some (14, false)), .mv (.s 1), []⟩ <|
  .op ⟨(some 17), (some (14, false)), .bin .mul (.c ⟨.one, [.int .i64 8]⟩) (.s 16), []⟩ <|
  .op ⟨(some 18), (some (14, false)), .bin .shr (.s 15) (.s 17), []⟩ <|
  .op ⟨(some 19), (some (14, false)), .bin .neq (.s 18) (.c ⟨.one, [.int .i64 0]⟩), []⟩ <|
  .nil) [15, 16, 17, 18, 19] 20 none (.s 14) (.s 19) [7, 8, 9, 10, 13, 14] <|
  .nil
def r59_2 : XL := .op ⟨(some 4), none, .asg (.c ⟨.one, [.str ⟨#[]⟩]⟩) false, [0, 1, 20]⟩ <|
  .nil
def r59_3 : XL := .op ⟨(some 21), none, .bslice 1 [], []⟩ <|
  .op ⟨(some 5), none, .asg (.s 21) false, [4, 20, 21]⟩ <|
  .nil
def r59_4 : XL := .op ⟨(some 22), none, .mv (.s 1), []⟩ <|
  .op ⟨(some 23), none, .bin .sub (.s 22) (.c ⟨.one, [.int .i64 1]⟩), []⟩ <|
  .op ⟨(some 6), none, .asg (.s 23) false, [1, 22, 23]⟩ <|
  .nil
def r59_5 : XL := .op ⟨(some 24), none, .mv (.s 6), []⟩ <|
  .op ⟨(some 25), none, .bin .geq (.s 24) (.c ⟨.one, [.int .i64 0]⟩), [24]⟩ <|
  .nil
def r59_7 : XL := .op ⟨(some 28), none, .mv (.s 5), []⟩ <|
  .op ⟨(some 29), none, .mv (.s 0), []⟩ <|
  .op ⟨(some 30), none, .mv (.s 6), []⟩ <|
  .op ⟨(some 31), none, .bin .mul (.c ⟨.one, [.int .i64 8]⟩) (.s 30), []⟩ <|
  .op ⟨(some 32), none, .bin .shr (.s 29) (.s 31), []⟩ <|
  .op ⟨(some 33), none, .convI .u8 (.s 32), []⟩ <|
  .op ⟨(some 34), none, .bslice 1 [.s 33], []⟩ <|
  .op ⟨(some 35), none, .app 1 1 (.s 28) (.s 34) false, []⟩ <|
  .op ⟨(some 5), none, .asg (.s 35) false, [25, 28, 29, 30, 31, 32, 33, 34, 35]⟩ <|
  .nil
def r59_6 : XL := .op ⟨(some 26), none, .mv (.s 6), []⟩ <|
  .op ⟨(some 27), none, .bin .sub (.s 26) (.c ⟨.one, [.int .i64 1]⟩), []⟩ <|
  .op ⟨(some 6), none, .asg (.s 27) false, [26, 27]⟩ <|
  .nil
def l59_0 : XCode := .keep [0, 5, 6] [] (.seq (.seq (.ops r59_5) (.cond (.s 25) (.skip) (.exit 0))) (.seq (.block 1 (.ops r59_7)) (.ops r59_6)))
def r59_8 : XL := .op ⟨(some 36), none, .mv (.s 5), []⟩ <|
  .op ⟨(some 37), none, .b2s (.s 36), []⟩ <|
  .op ⟨(some 4), none, .asg (.s 37) false, [0, 5, 6, 36, 37]⟩ <|
  .nil
def x59 : XCode := .seq (.ops r59_0) (.seq (.seq (.ops r59_1) (.cond (.s 20) (.seq (.ops r59_2) (.ret)) (.skip))) (.seq (.ops r59_3) (.seq (.seq (.ops r59_4) (.block 0 (.loop l59_0))) (.seq (.ops r59_8) (.ret)))))
theorem m59 : mFun Try.prog Try.f59 x59 [.tmp 4] 2 = true := by kernel_rfl
theorem k59 : Callable Try.prog 59 := callable_of (by kernel_rfl)

/-! loop.example/g00360/impl.Crc -/
def r60_0 : XL := .op ⟨(some 2), none, .asg (.c ⟨.one, [.int .i64 0]⟩) false, [2]⟩ <|
  .nil
def r60_1 : XL := .op ⟨(some 3), none, .asg (.c ⟨.one, [.int .u32 4294967295]⟩) false, []⟩ <|
  .nil
def r60_2 : XL := .op ⟨(some 6), none, .mv (.s 0), []⟩ <|
  .op ⟨(some 7), none, .len true (.s 6), []⟩ <|
  .op ⟨(some 8), none, .mv (.c ⟨.one, [.int .i64 0]⟩), [6]⟩ <|
  .nil
def r60_3 : XL := .op ⟨(some 9), none, .bin .lss (.s 8) (.s 7), []⟩ <|
  .nil
def r60_4 : XL := .op ⟨(some 10), none, .mv (.s 8), []⟩ <|
  .op ⟨(some 4), none, .asg (.s 10) false, [9, 10]⟩ <|
  .nil
def r60_5 : XL := .op ⟨(some 11), none, .mv (.s 3), []⟩ <|
  .op ⟨(some 12), none, .mv (.s 0), []⟩ <|
  .op ⟨(some 13), none, .mv (.s 4), []⟩ <|
  .op ⟨(some 14), none, .idx (.s 12) (.s 13), []⟩ <|
  .op ⟨(some 15), none, .convI .u32 (.s 14), []⟩ <|
  .op ⟨(some 16), none, .bin .xor (.s 11) (.s 15), []⟩ <|
  .op ⟨(some 3), none, .asg (.s 16) false, [4, 11, 12, 13, 14, 15, 16]⟩ <|
  .nil
def r60_6 : XL := .op ⟨(some 17), none, .mv (.c ⟨.one, [.int .i64 0]⟩), []⟩ <|
  .nil
def r60_7 : XL := .op ⟨(some 18), none, .bin .lss (.s 17) (.c ⟨.one, [.int .i64 8]⟩), []⟩ <|
  .nil
def r60_8 : XL := .op ⟨(some 19), none, .mv (.s 3), []⟩ <|
  .op ⟨(some 20), none, .bin .and (.s 19) (.c ⟨.one, [.int .u32 1]⟩), []⟩ <|
  .op ⟨(some 5), none, .asg (.s 20) false, [18, 19, 20]⟩ <|
  .nil
def r60_9 : XL := .op ⟨(some 21), none, .mv (.s 3), []⟩ <|
  .op ⟨(some 22), none, .bin .shr (.s 21) (.c ⟨.one, [.int .u64 1]⟩), []⟩ <|
  .op ⟨(some 3), none, .asg (.s 22) false, [21, 22]⟩ <|
  .nil
def r60_10 : XL := .op ⟨(some 23), none, .mv (.s 5), []⟩ <|
  .op ⟨(some 24), none, .bin .eql (.s 23) (.c ⟨.one, [.int .u32 1]⟩), [5, 23]⟩ <|
  .nil
def r60_11 : XL := .op ⟨(some 25), none, .mv (.s 3), []⟩ <|
  .op ⟨(some 26), none, .bin .xor (.s 25) (.c ⟨.one, [.int .u32 2197175160]⟩), []⟩ <|
  .op ⟨(some 3), none, .asg (.s 26) false, [24, 25, 26]⟩ <|
  .nil
def r60_12 : XL := .op ⟨(some 27), none, .bin .add (.s 17) (.c ⟨.one, [.int .i64 1]⟩), []⟩ <|
  .op ⟨(some 17), none, .mv (.s 27), [24, 27]⟩ <|
  .nil
def l60_0 : XCode := .keep [0, 3, 7, 8, 17] [] (.seq (.ops r60_7) (.seq (.cond (.s 18) (.skip) (.exit 2)) (.seq (.block 3 (.seq (.ops r60_8) (.seq (.ops r60_9) (.seq (.ops r60_10) (.cond (.s 24) (.ops r60_11) (.skip)))))) (.ops r60_12))))
def r60_13 : XL := .op ⟨(some 28), none, .bin .add (.s 8) (.c ⟨.one, [.int .i64 1]⟩), []⟩ <|
  .op ⟨(some 8), none, .mv (.s 28), [17, 28]⟩ <|
  .nil
def l60_1 : XCode := .keep [0, 3, 7, 8] [] (.seq (.ops r60_3) (.seq (.cond (.s 9) (.skip) (.exit 0)) (.seq (.block 1 (.seq (.ops r60_4) (.seq (.ops r60_5) (.seq (.ops r60_6) (.block 2 (.loop l60_0)))))) (.ops r60_13))))
def r60_14 : XL := .op ⟨(some 29), none, .mv (.s 3), []⟩ <|
  .op ⟨(some 30), none, .un .xor (.s 29), []⟩ <|
  .op ⟨(some 31), none, .convI .i64 (.s 30), []⟩ <|
  .op ⟨(some 2), none, .asg (.s 31) false, [0, 3, 7, 8, 29, 30, 31]⟩ <|
  .nil
def x60 : XCode := .seq (.ops r60_0) (.seq (.ops r60_1) (.seq (.seq (.ops r60_2) (.block 0 (.loop l60_1))) (.seq (.ops r60_14) (.ret))))
theorem m60 : mFun Try.prog Try.f60 x60 [.tmp 2] 1 = true := by kernel_rfl
theorem k60 : Callable Try.prog 60 := callable_of (by kernel_rfl)

/-! loop.example/g00360/spec.l19Group -/
def r64_0 : XL := .op ⟨(some 2), none, .asg (.c ⟨.one, [.bool false]⟩) false, [2]⟩ <|
  .nil
def r64_1 : XL := .op ⟨(some 3), none, .mv (.s 0), []⟩ <|
  .op ⟨(some 4), none, .call 36 [(false, .s 3), (false, .c ⟨.one, [.int .i64 0]⟩), (false, .c ⟨.one, [.int .i64 2]⟩)] [], []⟩ <|
  .op ⟨(some 2), none, .asg (.s 4) false, [0, 3, 4]⟩ <|
  .nil
def x64 : XCode := .seq (.ops r64_0) (.seq (.ops r64_1) (.ret))
theorem m64 : mFun Try.prog Try.f64 x64 [.tmp 2] 1 = true := by kernel_rfl
theorem k64 : Callable Try.prog 64 := callable_of (by kernel_rfl)

/-! loop.example/g00360/impl.isClient -/
def r69_0 : XL := .op ⟨(some 2), none, .asg (.c ⟨.one, [.bool false]⟩) false, [2]⟩ <|
  .nil
def r69_1 : XL := .op ⟨(some 3), none, .mv (.s 0), []⟩ <|
  .op ⟨(some 4), none, .call 32 [(false, .s 3), (false, .c ⟨.one, [.int .i64 1]⟩), (false, .c ⟨.one, [.int .i64 4]⟩)] [], []⟩ <|
  .op ⟨(some 2), none, .asg (.s 4) false, [0, 3, 4]⟩ <|
  .nil
def x69 : XCode := .seq (.ops r69_0) (.seq (.ops r69_1) (.ret))
theorem m69 : mFun Try.prog Try.f69 x69 [.tmp 2] 1 = true := by kernel_rfl
theorem k69 : Callable Try.prog 69 := callable_of (by kernel_rfl)

/-! loop.example/g00360/impl.isNow -/
def r72_0 : XL := .op ⟨(some 2), none, .asg (.c ⟨.one, [.bool false]⟩) false, [2]⟩ <|
  .nil
def r72_1 : XL := .op ⟨(some 3), none, .mv (.s 0), []⟩ <|
  .op ⟨(some 4), none, .call 32 [(false, .s 3), (false, .c ⟨.one, [.int .i64 0]⟩), (false, .c ⟨.one, [.int .i64 1000000]⟩)] [], []⟩ <|
  .op ⟨(some 2), none, .asg (.s 4) false, [0, 3, 4]⟩ <|
  .nil
def x72 : XCode := .seq (.ops r72_0) (.seq (.ops r72_1) (.ret))
theorem m72 : mFun Try.prog Try.f72 x72 [.tmp 2] 1 = true := by kernel_rfl
theorem k72 : Callable Try.prog 72 := callable_of (by kernel_rfl)

/-! (*loop.example/g00360/impl.reader).num -/
def r81_0 : XL := .op ⟨(some 2), none, .asg (.c ⟨.one, [.int .i64 0]⟩) false, [2]⟩ <|
  .nil
def r81_1 : XL := .op ⟨(some 6), none, .mv (.s 0), []⟩ <|
  .op ⟨(some 7), none, .nilc (.s 6), []⟩ <|
  .op ⟨(some 8), none, .fad 0 (.s 7), []⟩ <|
  .op ⟨(some 9), none, .load false 1 (.s 8), []⟩ <|
  .op ⟨(some 10), none, .call 89 [(false, .s 9)] [], []⟩ <|
  .op ⟨(some 5), none, .mv (.s 10), []⟩ <|
  .op ⟨(some 11), none, .ext 0 (.s 5), []⟩ <|
  .op ⟨(some 12), none, .ext 1 (.s 5), []⟩ <|
  .op ⟨(some 3), none, .asg (.s 11) true, []⟩ <|
  .op ⟨(some 4), none, .asg (.s 12) true, [5, 6, 7, 8, 9, 10, 11, 12]⟩ <|
  .nil
def r81_2 : XL := .op ⟨(some 13), none, .mv (.s 0), []⟩ <|
  .op ⟨(some 14), none, .mv (.s 0), []⟩ <|
  .op ⟨(some 15), none, .nilc (.s 14), []⟩ <|
  .op ⟨(some 16), none, .fad 1 (.s 15), []⟩ <|
  .op ⟨(some 17), none, .load false 1 (.s 16), []⟩ <|
  .op ⟨(some 18), none, .mv (.s 17), []⟩ <|
  .sc 18 true (.op ⟨(some 19), (some (18, true)), .mv (.s 4), []⟩ <|
  .op ⟨(some 20), (some (18, true)), .bin .gtr (.s 19) (.c ⟨.one, [.int .i64 0]⟩), []⟩ <|
  .nil) [19, 20] 21 none (.s 18) (.s 20) [] <|
  .op ⟨(some 22), none, .nilc (.s 13), []⟩ <|
  .op ⟨(some 23), none, .fad 1 (.s 22), []⟩ <|
  .op ⟨none, none, .store 1 (.s 23) (.s 21) false, [13, 14, 15, 16, 17, 18, 21, 22, 23]⟩ <|
  .nil
def r81_3 : XL := .op ⟨(some 24), none, .mv (.s 0), []⟩ <|
  .op ⟨(some 25), none, .nilc (.s 24), []⟩ <|
  .op ⟨(some 26), none, .fad 1 (.s 25), []⟩ <|
  .op ⟨(some 27), none, .load false 1 (.s 26), []⟩ <|
  .op ⟨(some 28), none, .un .not (.s 27), [24, 25, 26, 27]⟩ <|
  .nil
def r81_4 : XL := .op ⟨(some 2), none, .asg (.c ⟨.one, [.int .i64 0]⟩) false, [0, 3, 4, 28]⟩ <|
  .nil
def r81_5 : XL := .op ⟨(some 29), none, .mv (.s 0), []⟩ <|
  .op ⟨(some 30), none, .mv (.s 0), []⟩ <|
  .op ⟨(some 31), none, .nilc (.s 30), []⟩ <|
  .op ⟨(some 32), none, .fad 0 (.s 31), []⟩ <|
  .op ⟨(some 33), none, .load false 1 (.s 32), []⟩ <|
  .op ⟨(some 34), none, .mv (.s 4), []⟩ <|
  .op ⟨(some 35), none, .slcS (.s 33) (some (.s 34)) none, []⟩ <|
  .op ⟨(some 36), none, .nilc (.s 29), []⟩ <|
  .op ⟨(some 37), none, .fad 0 (.s 36), []⟩ <|
  .op ⟨none, none, .store 1 (.s 37) (.s 35) false, [0, 2, 4, 28, 29, 30, 31, 32, 33, 34, 35, 36, 37]⟩ <|
  .nil
def r81_6 : XL := .op ⟨(some 38), none, .mv (.s 3), []⟩ <|
  .op ⟨(some 2), none, .asg (.s 38) true, [3, 38]⟩ <|
  .nil
def x81 : XCode := .seq (.ops r81_0) (.seq (.ops r81_1) (.seq (.ops r81_2) (.seq (.seq (.ops r81_3) (.cond (.s 28) (.seq (.ops r81_4) (.ret)) (.skip))) (.seq (.ops r81_5) (.seq (.ops r81_6) (.ret))))))
theorem m81 : mFun Try.prog Try.f81 x81 [.tmp 2] 1 = true := by kernel_rfl
theorem k81 : Callable Try.prog 81 := callable_of (by kernel_rfl)

/-! (*loop.example/g00360/impl.reader).piece -/
def r83_0 : XL := .op ⟨(some 2), none, .asg (.c ⟨.one, [.str ⟨#[]⟩]⟩) false, [2]⟩ <|
  .nil
def r83_1 : XL := .op ⟨(some 4), none, .mv (.s 0), []⟩ <|
  .op ⟨(some 5), none, .call 81 [(false, .s 4)] [1000000], []⟩ <|
  .op ⟨(some 3), none, .asg (.s 5) false, [4, 5]⟩ <|
  .nil
def r83_2 : XL := .op ⟨(some 6), none, .mv (.s 0), []⟩ <|
  .op ⟨(some 7), none, .mv (.s 3), []⟩ <|
  .op ⟨(some 8), none, .call 117 [(false, .s 6), (false, .s 7)] [1000000], []⟩ <|
  .op ⟨(some 2), none, .asg (.s 8) false, [0, 3, 6, 7, 8]⟩ <|
  .nil
def x83 : XCode := .seq (.ops r83_0) (.seq (.ops r83_1) (.seq (.ops r83_2) (.ret)))
theorem m83 : mFun Try.prog Try.f83 x83 [.tmp 2] 1 = true := by kernel_rfl
theorem k83 : Callable Try.prog 83 := callable_of (by kernel_rfl)

/-! loop.example/g00360/spec.ReadBlock -/
def r86_0 : XL := .op ⟨(some 2), none, .asg (.c ⟨.one, [.own 2 []]⟩) false, []⟩ <|
  .op ⟨(some 3), none, .asg (.c ⟨.one, [.bool false]⟩) false, [2, 3]⟩ <|
  .nil
def r86_1 : XL := .op ⟨(some 16), none, .bslice 2 [], []⟩ <|
  .op ⟨(some 4), none, .asg (.s 16) false, [16]⟩ <|
  .nil
def r86_2 : XL := .op ⟨(some 18), none, .mv (.s 0), []⟩ <|
  .op ⟨(some 19), none, .call 119 [(false, .s 18)] [], []⟩ <|
  .op ⟨(some 17), none, .mv (.s 19), []⟩ <|
  .op ⟨(some 20), none, .ext 0 (.s 17), []⟩ <|
  .op ⟨(some 21), none, .ext 1 (.s 17), []⟩ <|
  .op ⟨(some 22), none, .ext 2 (.s 17), []⟩ <|
  .op ⟨(some 5), none, .asg (.s 20) true, []⟩ <|
  .op ⟨(some 6), none, .asg (.s 21) true, []⟩ <|
  .op ⟨(some 7), none, .asg (.s 22) true, [7, 17, 18, 19, 20, 21, 22]⟩ <|
  .nil
def r86_3 : XL := .op ⟨(some 24), none, .mv (.s 5), []⟩ <|
  .op ⟨(some 25), none, .call 116 [(false, .s 24)] [], []⟩ <|
  .op ⟨(some 23), none, .mv (.s 25), []⟩ <|
  .op ⟨(some 26), none, .ext 0 (.s 23), []⟩ <|
  .op ⟨(some 27), none, .ext 1 (.s 23), []⟩ <|
  .op ⟨(some 8), none, .asg (.s 26) true, []⟩ <|
  .op ⟨(some 9), none, .asg (.s 27) true, [23, 24, 25, 26, 27]⟩ <|
  .nil
def r86_4 : XL := .op ⟨(some 28), none, .mv (.s 9), []⟩ <|
  .op ⟨(some 29), none, .bin .eql (.s 28) (.c ⟨.one, [.int .i64 0]⟩), []⟩ <|
  .op ⟨(some 30), none, .mv (.s 29), []⟩ <|
  .sc 30 false (.op ⟨(some 31), (some (30, false)), .mv (.s 6), []⟩ <|
  .op ⟨(some 32), (some (30, false)), .mv (.s 0), []⟩ <|
  .op ⟨(some 33), (some (30, false)), .len true (.s 32), []⟩ <|
  .op ⟨(some 34), (some (30, false)), .bin .neq (.s 31) (.s 33), []⟩ <|
  .nil) [31, 32, 33, 34] 35 none (.s 30) (.s 34) [0, 6, 28, 29, 30] <|
  .nil
def r86_5 : XL := .op ⟨(some 36), none, .mv (.s 4), []⟩ <|
  .op ⟨(some 2), none, .asg (.s 36) true, []⟩ <|
  .op ⟨(some 3), none, .asg (.c ⟨.one, [.bool false]⟩) false, [4, 5, 8, 9, 35, 36]⟩ <|
  .nil
def r86_6 : XL := .op ⟨(some 38), none, .mv (.s 5), []⟩ <|
  .op ⟨(some 39), none, .mv (.s 9), []⟩ <|
  .op ⟨(some 40), none, .slcS (.s 38) (some (.s 39)) none, []⟩ <|
  .op ⟨(some 41), none, .mv (.s 8), []⟩ <|
  .op ⟨(some 42), none, .call 120 [(false, .s 40), (false, .s 41)] [], []⟩ <|
  .op ⟨(some 37), none, .mv (.s 42), []⟩ <|
  .op ⟨(some 43), none, .ext 0 (.s 37), []⟩ <|
  .op ⟨(some 44), none, .ext 1 (.s 37), []⟩ <|
  .op ⟨(some 10), none, .asg (.s 43) true, []⟩ <|
  .op ⟨(some 11), none, .asg (.s 44) true, [2, 3, 35, 37, 38, 39, 40, 41, 42, 43, 44]⟩ <|
  .nil
def r86_7 : XL := .op ⟨(some 45), none, .mv (.s 11), []⟩ <|
  .op ⟨(some 46), none, .bin .eql (.s 45) (.c ⟨.one, [.int .i64 0]⟩), [45]⟩ <|
  .nil
def r86_8 : XL := .op ⟨(some 47), none, .mv (.s 4), []⟩ <|
  .op ⟨(some 2), none, .asg (.s 47) true, []⟩ <|
  .op ⟨(some 3), none, .asg (.c ⟨.one, [.bool false]⟩) false, [4, 5, 8, 9, 10, 11, 46, 47]⟩ <|
  .nil
def r86_9 : XL := .op ⟨(some 49), none, .mv (.s 5), []⟩ <|
  .op ⟨(some 50), none, .mv (.s 9), []⟩ <|
  .op ⟨(some 51), none, .mv (.s 11), []⟩ <|
  .op ⟨(some 52), none, .bin .add (.s 50) (.s 51), []⟩ <|
  .op ⟨(some 53), none, .slcS (.s 49) (some (.s 52)) none, []⟩ <|
  .op ⟨(some 54), none, .mv (.s 8), []⟩ <|
  .op ⟨(some 55), none, .call 121 [(false, .s 53), (false, .s 54)] [], []⟩ <|
  .op ⟨(some 48), none, .mv (.s 55), []⟩ <|
  .op ⟨(some 56), none, .ext 0 (.s 48), []⟩ <|
  .op ⟨(some 57), none, .ext 1 (.s 48), []⟩ <|
  .op ⟨(some 12), none, .asg (.s 56) true, []⟩ <|
  .op ⟨(some 13), none, .asg (.s 57) true, [2, 3, 46, 48, 49, 50, 51, 52, 53, 54, 55, 56, 57]⟩ <|
  .nil
def r86_10 : XL := .op ⟨(some 58), none, .mv (.s 13), []⟩ <|
  .op ⟨(some 59), none, .bin .eql (.s 58) (.c ⟨.one, [.int .i64 0]⟩), []⟩ <|
  .op ⟨(some 60), none, .mv (.s 59), []⟩ <|
  .sc 60 false (.op ⟨(some 61), (some (60, false)), .mv (.s 9), []⟩ <|
  .op ⟨(some 62), (some (60, false)), .mv (.s 11), []⟩ <|
  .op ⟨(some 63), (some (60, false)), .bin .add (.s 61) (.s 62), []⟩ <|
  .op ⟨(some 64), (some (60, false)), .mv (.s 13), []⟩ <|
  .op ⟨(some 65), (some (60, false)), .bin .add (.s 63) (.s 64), []⟩ <|
  .op ⟨(some 66), (some (60, false)), .mv (.s 5), []⟩ <|
  .op ⟨(some 67), (some (60, false)), .len true (.s 66), []⟩ <|
  .op ⟨(some 68), (some (60, false)), .bin .neq (.s 65) (.s 67), []⟩ <|
  .nil) [61, 62, 63, 64, 65, 66, 67, 68] 69 none (.s 60) (.s 68) [5, 9, 11, 13, 58, 59, 60] <|
  .nil
def r86_11 : XL := .op ⟨(some 70), none, .mv (.s 4), []⟩ <|
  .op ⟨(some 2), none, .asg (.s 70) true, []⟩ <|
  .op ⟨(some 3), none, .asg (.c ⟨.one, [.bool false]⟩) false, [4, 8, 10, 12, 69, 70]⟩ <|
  .nil
def r86_12 : XL := .op ⟨(some 71), none, .bslice 2 [], []⟩ <|
  .op ⟨(some 14), none, .asg (.s 71) false, [2, 3, 4, 69, 71]⟩ <|
  .nil
def r86_13 : XL := .op ⟨(some 15), none, .asg (.c ⟨.one, [.int .i64 0]⟩) false, []⟩ <|
  .nil
def r86_14 : XL := .op ⟨(some 72), none, .mv (.s 15), []⟩ <|
  .op ⟨(some 73), none, .mv (.s 8), []⟩ <|
  .op ⟨(some 74), none, .bin .lss (.s 72) (.s 73), [72, 73]⟩ <|
  .nil
def r86_16v : List XD := [⟨⟨(some 77), none, .mv (.s 14), []⟩, [], []⟩,
  ⟨⟨(some 78), none, .mv (.s 10), []⟩, [], [77]⟩,
  ⟨⟨(some 79), none, .mv (.s 15), []⟩, [], [77, 78]⟩,
  ⟨⟨(some 80), none, .iad 1 (.s 78) (.s 79), []⟩, [1, 2], [77]⟩,
  ⟨⟨(some 81), none, .load false 1 (.s 80), []⟩, [1, 2, 3], [77]⟩,
  ⟨⟨(some 82), none, .mv (.s 12), []⟩, [], [77, 78, 79, 80, 81]⟩,
  ⟨⟨(some 83), none, .mv (.s 15), []⟩, [], [77, 78, 79, 80, 81, 82]⟩,
  ⟨⟨(some 84), none, .iad 1 (.s 82) (.s 83), []⟩, [5, 6], [77, 78, 79, 80, 81]⟩,
  ⟨⟨(some 85), none, .load false 1 (.s 84), []⟩, [5, 6, 7], [77, 78, 79, 80, 81]⟩,
  ⟨⟨(some 86), none, .build [.int .i64 0, .int .i64 0] [(0, 1, .s 81), (1, 1, .s 85)], []⟩, [1, 2, 3, 4, 5, 6, 7, 8], [77]⟩,
  ⟨⟨(some 87), none, .bslice 2 [.s 86], []⟩, [1, 2, 3, 4, 5, 6, 7, 8, 9], [77]⟩]
def r86_16t : List XD := [⟨⟨(some 88), none, .app 2 16 (.s 77) (.s 87) false, []⟩, [0, 1, 2, 3, 4, 5, 6, 7, 8, 9, 10], []⟩,
  ⟨⟨(some 14), none, .asg (.s 88) false, [74, 77, 78, 79, 80, 81, 82, 83, 84, 85, 86, 87, 88]⟩, [0, 1, 2, 3, 4, 5, 6, 7, 8, 9, 10, 11], []⟩]
def r86_15 : XL := .op ⟨(some 75), none, .mv (.s 15), []⟩ <|
  .op ⟨(some 76), none, .bin .add (.s 75) (.c ⟨.one, [.int .i64 1]⟩), []⟩ <|
  .op ⟨(some 15), none, .asg (.s 76) false, [75, 76]⟩ <|
  .nil
def l86_0 : XCode := .keep [8, 10, 12, 14, 15] [] (.seq (.seq (.ops r86_14) (.cond (.s 74) (.skip) (.exit 0))) (.seq (.block 1 (.any r86_16v r86_16t)) (.ops r86_15)))
def r86_17 : XL := .op ⟨(some 89), none, .mv (.s 14), []⟩ <|
  .op ⟨(some 2), none, .asg (.s 89) true, []⟩ <|
  .op ⟨(some 3), none, .asg (.c ⟨.one, [.bool true]⟩) false, [8, 10, 12, 14, 15, 89]⟩ <|
  .nil
def x86 : XCode := .seq (.ops r86_0) (.seq (.ops r86_1) (.seq (.ops r86_2) (.seq (.ops r86_3) (.seq (.seq (.ops r86_4) (.cond (.s 35) (.seq (.ops r86_5) (.ret)) (.skip))) (.seq (.ops r86_6) (.seq (.seq (.ops r86_7) (.cond (.s 46) (.seq (.ops r86_8) (.ret)) (.skip))) (.seq (.ops r86_9) (.seq (.seq (.ops r86_10) (.cond (.s 69) (.seq (.ops r86_11) (.ret)) (.skip))) (.seq (.ops r86_12) (.seq (.seq (.ops r86_13) (.block 0 (.loop l86_0))) (.seq (.ops r86_17) (.ret))))))))))))
theorem m86 : mFun Try.prog Try.f86 x86 [.tmp 2, .tmp 3] 1 = true := by kernel_rfl
theorem k86 : Callable Try.prog 86 := callable_of (by kernel_rfl)

/-! loop.example/g00360/spec.l9Key -/
def r87_0 : XL := .op ⟨(some 2), none, .asg (.c ⟨.one, [.bool false]⟩) false, [2]⟩ <|
  .nil
def r87_1 : XL := .op ⟨(some 4), none, .mv (.s 0), []⟩ <|
  .op ⟨(some 5), none, .len true (.s 4), []⟩ <|
  .op ⟨(some 6), none, .call 36 [(false, .s 5), (false, .c ⟨.one, [.int .i64 1]⟩), (false, .c ⟨.one, [.int .i64 8]⟩)] [], []⟩ <|
  .op ⟨(some 7), none, .un .not (.s 6), [4, 5, 6]⟩ <|
  .nil
def r87_2 : XL := .op ⟨(some 2), none, .asg (.c ⟨.one, [.bool false]⟩) false, [0, 7]⟩ <|
  .nil
def r87_3 : XL := .op ⟨(some 3), none, .asg (.c ⟨.one, [.int .i64 0]⟩) false, [2, 7]⟩ <|
  .nil
def r87_4 : XL := .op ⟨(some 8), none, .mv (.s 3), []⟩ <|
  .op ⟨(some 9), none, .mv (.s 0), []⟩ <|
  .op ⟨(some 10), none, .len true (.s 9), []⟩ <|
  .op ⟨(some 11), none, .bin .lss (.s 8) (.s 10), [8, 9, 10]⟩ <|
  .nil
def r87_6 : XL := .op ⟨(some 14), none, .mv (.s 0), []⟩ <|
  .op ⟨(some 15), none, .mv (.s 3), []⟩ <|
  .op ⟨(some 16), none, .idx (.s 14) (.s 15), []⟩ <|
  .op ⟨(some 17), none, .bin .lss (.s 16) (.c ⟨.one, [.int .u8 97]⟩), []⟩ <|
  .op ⟨(some 18), none, .mv (.s 17), []⟩ <|
  .sc 18 false (.op ⟨(some 19), (some (18, false)), .mv (.s 0), []⟩ <|
  .op ⟨(some 20), (some (18, false)), .mv (.s 3), []⟩ <|
  .op ⟨(some 21), (some (18, false)), .idx (.s 19) (.s 20), []⟩ <|
  .op ⟨(some 22), (some (18, false)), .bin .gtr (.s 21) (.c ⟨.one, [.int .u8 122]⟩), []⟩ <|
  .nil) [19, 20, 21, 22] 23 none (.s 18) (.s 22) [11, 14, 15, 16, 17, 18] <|
  .nil
def r87_7 : XL := .op ⟨(some 2), none, .asg (.c ⟨.one, [.bool false]⟩) false, [0, 3, 23]⟩ <|
  .nil
def r87_5 : XL := .op ⟨(some 12), none, .mv (.s 3), []⟩ <|
  .op ⟨(some 13), none, .bin .add (.s 12) (.c ⟨.one, [.int .i64 1]⟩), []⟩ <|
  .op ⟨(some 3), none, .asg (.s 13) false, [2, 12, 13, 23]⟩ <|
  .nil
def l87_0 : XCode := .keep [0, 3] [] (.seq (.seq (.ops r87_4) (.cond (.s 11) (.skip) (.exit 0))) (.seq (.block 1 (.seq (.ops r87_6) (.cond (.s 23) (.seq (.ops r87_7) (.ret)) (.skip)))) (.ops r87_5)))
def r87_8 : XL := .op ⟨(some 2), none, .asg (.c ⟨.one, [.bool true]⟩) false, [0, 3]⟩ <|
  .nil
def x87 : XCode := .seq (.ops r87_0) (.seq (.seq (.ops r87_1) (.cond (.s 7) (.seq (.ops r87_2) (.ret)) (.skip))) (.seq (.seq (.ops r87_3) (.block 0 (.loop l87_0))) (.seq (.ops r87_8) (.ret))))
theorem m87 : mFun Try.prog Try.f87 x87 [.tmp 2] 1 = true := by kernel_rfl
theorem k87 : Callable Try.prog 87 := callable_of (by kernel_rfl)

/-! loop.example/g00360/impl.Unframe -/
def r88_0 : XL := .op ⟨(some 2), none, .asg (.c ⟨.one, [.str ⟨#[]⟩]⟩) false, []⟩ <|
  .op ⟨(some 3), none, .asg (.c ⟨.one, [.int .i64 0]⟩) false, []⟩ <|
  .op ⟨(some 4), none, .asg (.c ⟨.one, [.int .i64 0]⟩) false, [2, 3, 4]⟩ <|
  .nil
def r88_1 : XL := .op ⟨(some 9), none, .mv (.s 0), []⟩ <|
  .op ⟨(some 10), none, .call 122 [(false, .s 9), (false, .c ⟨.one, [.int .i64 4]⟩)] [], []⟩ <|
  .op ⟨(some 8), none, .mv (.s 10), []⟩ <|
  .op ⟨(some 11), none, .ext 0 (.s 8), []⟩ <|
  .op ⟨(some 12), none, .ext 1 (.s 8), []⟩ <|
  .op ⟨(some 5), none, .asg (.s 11) true, []⟩ <|
  .op ⟨(some 6), none, .asg (.s 12) true, [8, 9, 10, 11, 12]⟩ <|
  .nil
def r88_2 : XL := .op ⟨(some 14), none, .mv (.s 6), []⟩ <|
  .op ⟨(some 15), none, .un .not (.s 14), []⟩ <|
  .op ⟨(some 13), none, .asg (.s 15) false, [6, 14, 15]⟩ <|
  .nil
def r88_3 : XL := .op ⟨(some 2), none, .asg (.c ⟨.one, [.str ⟨#[]⟩]⟩) false, []⟩ <|
  .op ⟨(some 3), none, .asg (.c ⟨.one, [.int .i64 0]⟩) false, []⟩ <|
  .op ⟨(some 4), none, .asg (.c ⟨.one, [.int .i64 1]⟩) false, [0, 5, 13]⟩ <|
  .nil
def r88_4 : XL := .op ⟨(some 17), none, .mv (.s 5), []⟩ <|
  .op ⟨(some 18), none, .call 32 [(false, .s 17), (false, .c ⟨.one, [.int .i64 1]⟩), (false, .c ⟨.one, [.int .i64 2000]⟩)] [], []⟩ <|
  .op ⟨(some 19), none, .un .not (.s 18), []⟩ <|
  .op ⟨(some 16), none, .asg (.s 19) false, [13, 17, 18, 19]⟩ <|
  .nil
def r88_5 : XL := .op ⟨(some 2), none, .asg (.c ⟨.one, [.str ⟨#[]⟩]⟩) false, []⟩ <|
  .op ⟨(some 3), none, .asg (.c ⟨.one, [.int .i64 0]⟩) false, []⟩ <|
  .op ⟨(some 4), none, .asg (.c ⟨.one, [.int .i64 2]⟩) false, [0, 5, 16]⟩ <|
  .nil
def r88_6 : XL := .op ⟨(some 21), none, .mv (.s 0), []⟩ <|
  .op ⟨(some 22), none, .len true (.s 21), []⟩ <|
  .op ⟨(some 23), none, .mv (.s 5), []⟩ <|
  .op ⟨(some 24), none, .bin .add (.s 23) (.c ⟨.one, [.int .i64 8]⟩), []⟩ <|
  .op ⟨(some 25), none, .bin .lss (.s 22) (.s 24), []⟩ <|
  .op ⟨(some 20), none, .asg (.s 25) false, [16, 21, 22, 23, 24, 25]⟩ <|
  .nil
def r88_7 : XL := .op ⟨(some 2), none, .asg (.c ⟨.one, [.str ⟨#[]⟩]⟩) false, []⟩ <|
  .op ⟨(some 3), none, .asg (.c ⟨.one, [.int .i64 0]⟩) false, []⟩ <|
  .op ⟨(some 4), none, .asg (.c ⟨.one, [.int .i64 1]⟩) false, [0, 5, 20]⟩ <|
  .nil
def r88_8 : XL := .op ⟨(some 26), none, .mv (.s 0), []⟩ <|
  .op ⟨(some 27), none, .mv (.s 5), []⟩ <|
  .op ⟨(some 28), none, .bin .add (.s 27) (.c ⟨.one, [.int .i64 8]⟩), []⟩ <|
  .op ⟨(some 29), none, .slcS (.s 26) (some (.c ⟨.one, [.int .i64 8]⟩)) (some (.s 28)), []⟩ <|
  .op ⟨(some 7), none, .asg (.s 29) false, [2, 3, 4, 20, 26, 27, 28, 29]⟩ <|
  .nil
def r88_9v : List XD := [⟨⟨(some 30), none, .mv (.s 7), []⟩, [], []⟩,
  ⟨⟨(some 31), none, .call 123 [(false, .s 30)] [], []⟩, [0], []⟩,
  ⟨⟨(some 32), none, .mv (.s 0), []⟩, [], [30, 31]⟩,
  ⟨⟨(some 33), none, .mv (.s 5), []⟩, [], [30, 31, 32]⟩,
  ⟨⟨(some 34), none, .bin .add (.s 33) (.c ⟨.one, [.int .i64 8]⟩), []⟩, [3], [30, 31, 32]⟩,
  ⟨⟨(some 35), none, .slcS (.s 32) none (some (.s 34)), []⟩, [2, 3, 4], [30, 31]⟩]
def r88_9t : List XD := [⟨⟨(some 36), none, .bin .neq (.s 31) (.s 35), [0, 30, 31, 32, 33, 34, 35]⟩, [0, 1, 2, 3, 4, 5], []⟩]
def r88_10 : XL := .op ⟨(some 2), none, .asg (.c ⟨.one, [.str ⟨#[]⟩]⟩) false, []⟩ <|
  .op ⟨(some 3), none, .asg (.c ⟨.one, [.int .i64 0]⟩) false, []⟩ <|
  .op ⟨(some 4), none, .asg (.c ⟨.one, [.int .i64 2]⟩) false, [5, 7, 36]⟩ <|
  .nil
def r88_11 : XL := .op ⟨(some 37), none, .mv (.s 7), []⟩ <|
  .op ⟨(some 38), none, .mv (.s 5), []⟩ <|
  .op ⟨(some 39), none, .bin .add (.s 38) (.c ⟨.one, [.int .i64 8]⟩), []⟩ <|
  .op ⟨(some 2), none, .asg (.s 37) true, []⟩ <|
  .op ⟨(some 3), none, .asg (.s 39) false, []⟩ <|
  .op ⟨(some 4), none, .asg (.c ⟨.one, [.int .i64 0]⟩) false, [5, 7, 36, 37, 38, 39]⟩ <|
  .nil
def x88 : XCode := .seq (.ops r88_0) (.seq (.ops r88_1) (.seq (.block 0 (.seq (.ops r88_2) (.cond (.s 13) (.seq (.ops r88_3) (.ret)) (.seq (.ops r88_4) (.cond (.s 16) (.seq (.ops r88_5) (.ret)) (.seq (.ops r88_6) (.cond (.s 20) (.seq (.ops r88_7) (.ret)) (.skip)))))))) (.seq (.ops r88_8) (.seq (.seq (.any r88_9v r88_9t) (.cond (.s 36) (.seq (.ops r88_10) (.ret)) (.skip))) (.seq (.ops r88_11) (.ret))))))
theorem m88 : mFun Try.prog Try.f88 x88 [.tmp 2, .tmp 3, .tmp 4] 1 = true := by kernel_rfl
theorem k88 : Callable Try.prog 88 := callable_of (by kernel_rfl)

/-! loop.example/g00360/impl.ReadVar -/
def r89_0 : XL := .op ⟨(some 2), none, .asg (.c ⟨.one, [.int .i64 0]⟩) false, []⟩ <|
  .op ⟨(some 3), none, .asg (.c ⟨.one, [.int .i64 0]⟩) false, [2, 3]⟩ <|
  .nil
def r89_1 : XL := .op ⟨(some 4), none, .asg (.c ⟨.one, [.int .i64 0]⟩) false, []⟩ <|
  .nil
def r89_2 : XL := .op ⟨(some 5), none, .asg (.c ⟨.one, [.int .i64 0]⟩) false, []⟩ <|
  .nil
def r89_3 : XL := .op ⟨(some 6), none, .mv (.s 5), []⟩ <|
  .op ⟨(some 7), none, .bin .lss (.s 6) (.c ⟨.one, [.int .i64 7]⟩), []⟩ <|
  .op ⟨(some 8), none, .mv (.s 7), []⟩ <|
  .sc 8 true (.op ⟨(some 9), (some (8, true)), .mv (.s 5), []⟩ <|
  .op ⟨(some 10), (some (8, true)), .mv (.s 0), []⟩ <|
  .op ⟨(some 11), (some (8, true)), .len true (.s 10), []⟩ <|
  .op ⟨(some 12), (some (8, true)), .bin .lss (.s 9) (.s 11), []⟩ <|
  .nil) [9, 10, 11, 12] 13 none (.s 8) (.s 12) [6, 7, 8] <|
  .nil
def r89_5 : XL := .op ⟨(some 16), none, .mv (.s 4), []⟩ <|
  .op ⟨(some 17), none, .mv (.s 0), []⟩ <|
  .op ⟨(some 18), none, .mv (.s 5), []⟩ <|
  .op ⟨(some 19), none, .idx (.s 17) (.s 18), []⟩ <|
  .op ⟨(some 20), none, .bin .rem (.s 19) (.c ⟨.one, [.int .u8 128]⟩), []⟩ <|
  .op ⟨(some 21), none, .convI .i64 (.s 20), []⟩ <|
  .op ⟨(some 22), none, .mv (.s 5), []⟩ <|
  .op ⟨(some 23), none, .bin .mul (.c ⟨.one, [.int .i64 7]⟩) (.s 22), []⟩ <|
  .op ⟨(some 24), none, .bin .shl (.s 21) (.s 23), []⟩ <|
  .op ⟨(some 25), none, .bin .add (.s 16) (.s 24), []⟩ <|
  .op ⟨(some 4), none, .asg (.s 25) false, [13, 16, 17, 18, 19, 20, 21, 22, 23, 24, 25]⟩ <|
  .nil
def r89_6 : XL := .op ⟨(some 26), none, .mv (.s 0), []⟩ <|
  .op ⟨(some 27), none, .mv (.s 5), []⟩ <|
  .op ⟨(some 28), none, .idx (.s 26) (.s 27), []⟩ <|
  .op ⟨(some 29), none, .bin .geq (.s 28) (.c ⟨.one, [.int .u8 128]⟩), [26, 27, 28]⟩ <|
  .nil
def r89_7 : XL := .op ⟨(some 30), none, .mv (.s 0), []⟩ <|
  .op ⟨(some 31), none, .mv (.s 5), []⟩ <|
  .op ⟨(some 32), none, .idx (.s 30) (.s 31), []⟩ <|
  .op ⟨(some 33), none, .bin .eql (.s 32) (.c ⟨.one, [.int .u8 0]⟩), []⟩ <|
  .op ⟨(some 34), none, .mv (.s 33), []⟩ <|
  .sc 34 true (.op ⟨(some 35), (some (34, true)), .mv (.s 5), []⟩ <|
  .op ⟨(some 36), (some (34, true)), .bin .gtr (.s 35) (.c ⟨.one, [.int .i64 0]⟩), []⟩ <|
  .nil) [35, 36] 37 none (.s 34) (.s 36) [0, 29, 30, 31, 32, 33, 34] <|
  .nil
def r89_8 : XL := .op ⟨(some 38), none, .mv (.s 4), []⟩ <|
  .op ⟨(some 39), none, .mv (.s 5), []⟩ <|
  .op ⟨(some 40), none, .bin .add (.s 39) (.c ⟨.one, [.int .i64 1]⟩), []⟩ <|
  .op ⟨(some 2), none, .asg (.s 38) true, []⟩ <|
  .op ⟨(some 3), none, .asg (.s 40) false, [4, 5, 37, 38, 39, 40]⟩ <|
  .nil
def r89_4 : XL := .op ⟨(some 14), none, .mv (.s 5), []⟩ <|
  .op ⟨(some 15), none, .bin .add (.s 14) (.c ⟨.one, [.int .i64 1]⟩), []⟩ <|
  .op ⟨(some 5), none, .asg (.s 15) false, [2, 3, 14, 15]⟩ <|
  .nil
def l89_0 : XCode := .keep [0, 4, 5] [] (.seq (.seq (.ops r89_3) (.cond (.s 13) (.skip) (.exit 0))) (.seq (.block 1 (.seq (.ops r89_5) (.seq (.seq (.ops r89_6) (.cond (.s 29) (.exit 1) (.skip))) (.seq (.seq (.ops r89_7) (.cond (.s 37) (.exit 0) (.skip))) (.seq (.ops r89_8) (.ret)))))) (.ops r89_4)))
def r89_9 : XL := .op ⟨(some 2), none, .asg (.c ⟨.one, [.int .i64 0]⟩) false, []⟩ <|
  .op ⟨(some 3), none, .asg (.c ⟨.one, [.int .i64 0]⟩) false, [5]⟩ <|
  .nil
def x89 : XCode := .seq (.ops r89_0) (.seq (.ops r89_1) (.seq (.seq (.ops r89_2) (.block 0 (.loop l89_0))) (.seq (.ops r89_9) (.ret))))
theorem m89 : mFun Try.prog Try.f89 x89 [.tmp 2, .tmp 3] 1 = true := by kernel_rfl
theorem k89 : Callable Try.prog 89 := callable_of (by kernel_rfl)

/-! loop.example/g00360/impl.ReadTimes -/
def r90_0 : XL := .op ⟨(some 4), none, .asg (.c ⟨.one, [.own 1 []]⟩) false, []⟩ <|
  .op ⟨(some 5), none, .asg (.c ⟨.one, [.int .i64 0]⟩) false, [4, 5]⟩ <|
  .nil
def r90_1 : XL := .op ⟨(some 13), none, .mv (.s 1), []⟩ <|
  .op ⟨(some 14), none, .call 32 [(false, .s 13), (false, .c ⟨.one, [.int .i64 1]⟩), (false, .c ⟨.one, [.int .i64 60]⟩)] [], []⟩ <|
  .op ⟨(some 15), none, .un .not (.s 14), [13, 14]⟩ <|
  .nil
def r90_2 : XL := .op ⟨(some 4), none, .asg (.c ⟨.one, [.own 1 []]⟩) false, []⟩ <|
  .op ⟨(some 5), none, .asg (.c ⟨.one, [.int .i64 0]⟩) false, [0, 1, 15]⟩ <|
  .nil
def r90_3 : XL := .op ⟨(some 16), none, .mv (.s 0), []⟩ <|
  .op ⟨(some 17), none, .build [.str ⟨#[]⟩, .bool false] [(0, 1, .s 16), (1, 1, .c ⟨.one, [.bool true]⟩)], []⟩ <|
  .op ⟨(some 18), none, .box (.s 17) false, []⟩ <|
  .op ⟨(some 6), none, .asg (.s 18) false, [4, 5, 15, 16, 17, 18]⟩ <|
  .nil
def r90_4 : XL := .op ⟨(some 19), none, .bslice 1 [], []⟩ <|
  .op ⟨(some 7), none, .asg (.s 19) false, [19]⟩ <|
  .nil
def r90_5 : XL := .op ⟨(some 8), none, .asg (.c ⟨.one, [.int .i64 0]⟩) false, []⟩ <|
  .nil
def r90_6 : XL := .op ⟨(some 9), none, .asg (.c ⟨.one, [.int .i64 0]⟩) false, []⟩ <|
  .nil
def r90_7 : XL := .op ⟨(some 20), none, .mv (.s 1), []⟩ <|
  .op ⟨(some 21), none, .mv (.c ⟨.one, [.int .i64 0]⟩), [1]⟩ <|
  .nil
def r90_8 : XL := .op ⟨(some 22), none, .bin .lss (.s 21) (.s 20), []⟩ <|
  .nil
def r90_9 : XL := .op ⟨(some 23), none, .mv (.s 21), []⟩ <|
  .op ⟨(some 10), none, .asg (.s 23) false, [22, 23]⟩ <|
  .nil
def r90_11 : XL := .op ⟨(some 29), none, .mv (.s 10), []⟩ <|
  .op ⟨(some 30), none, .bin .lss (.s 29) (.c ⟨.one, [.int .i64 2]⟩), []⟩ <|
  .op ⟨(some 28), none, .asg (.s 30) false, [10, 29, 30]⟩ <|
  .nil
def r90_12 : XL := .op ⟨(some 31), none, .mv (.s 6), []⟩ <|
  .op ⟨(some 32), none, .call 81 [(false, .s 31)] [18], []⟩ <|
  .op ⟨(some 8), none, .asg (.s 32) false, [28, 31, 32]⟩ <|
  .nil
def r90_10 : XL := .op ⟨(some 24), none, .mv (.s 8), []⟩ <|
  .op ⟨(some 25), none, .mv (.s 6), []⟩ <|
  .op ⟨(some 26), none, .call 124 [(false, .s 25)] [18], []⟩ <|
  .op ⟨(some 27), none, .bin .add (.s 24) (.s 26), []⟩ <|
  .op ⟨(some 8), none, .asg (.s 27) false, [24, 25, 26, 27, 28]⟩ <|
  .nil
def r90_13 : XL := .op ⟨(some 33), none, .mv (.s 9), []⟩ <|
  .op ⟨(some 34), none, .mv (.s 8), []⟩ <|
  .op ⟨(some 35), none, .bin .add (.s 33) (.s 34), []⟩ <|
  .op ⟨(some 9), none, .asg (.s 35) false, [33, 34, 35]⟩ <|
  .nil
def r90_14 : XL := .op ⟨(some 36), none, .mv (.s 7), []⟩ <|
  .op ⟨(some 37), none, .mv (.s 9), []⟩ <|
  .op ⟨(some 38), none, .bslice 1 [.s 37], []⟩ <|
  .op ⟨(some 39), none, .app 1 8 (.s 36) (.s 38) false, []⟩ <|
  .op ⟨(some 7), none, .asg (.s 39) false, [36, 37, 38, 39]⟩ <|
  .nil
def r90_15 : XL := .op ⟨(some 40), none, .bin .add (.s 21) (.c ⟨.one, [.int .i64 1]⟩), []⟩ <|
  .op ⟨(some 21), none, .mv (.s 40), [40]⟩ <|
  .nil
def l90_0 : XCode := .keep [0, 6, 7, 8, 9, 20, 21] [18] (.seq (.ops r90_8) (.seq (.cond (.s 22) (.skip) (.exit 0)) (.seq (.block 1 (.seq (.ops r90_9) (.seq (.block 2 (.seq (.ops r90_11) (.cond (.s 28) (.ops r90_12) (.ops r90_10)))) (.seq (.ops r90_13) (.ops r90_14))))) (.ops r90_15))))
def r90_16 : XL := .op ⟨(some 42), none, .mv (.s 0), []⟩ <|
  .op ⟨(some 43), none, .mv (.s 7), []⟩ <|
  .op ⟨(some 44), none, .call 126 [(false, .s 43)] [], []⟩ <|
  .op ⟨(some 45), none, .call 125 [(false, .s 42), (false, .s 44)] [], []⟩ <|
  .op ⟨(some 41), none, .mv (.s 45), []⟩ <|
  .op ⟨(some 46), none, .ext 0 (.s 41), []⟩ <|
  .op ⟨(some 47), none, .ext 1 (.s 41), []⟩ <|
  .op ⟨(some 11), none, .asg (.s 46) true, []⟩ <|
  .op ⟨(some 12), none, .asg (.s 47) true, [0, 8, 9, 20, 21, 41, 42, 43, 44, 45, 46, 47]⟩ <|
  .nil
def r90_17 : XL := .op ⟨(some 48), none, .mv (.s 6), []⟩ <|
  .op ⟨(some 49), none, .nilc (.s 48), []⟩ <|
  .op ⟨(some 50), none, .fad 1 (.s 49), []⟩ <|
  .op ⟨(some 51), none, .load false 1 (.s 50), []⟩ <|
  .op ⟨(some 52), none, .un .not (.s 51), []⟩ <|
  .op ⟨(some 53), none, .mv (.s 52), []⟩ <|
  .sc 53 false (.op ⟨(some 54), (some (53, false)), .mv (.s 12), []⟩ <|
  .op ⟨(some 55), (some (53, false)), .un .not (.s 54), []⟩ <|
  .nil) [54, 55] 56 none (.s 53) (.s 55) [6, 12, 48, 49, 50, 51, 52, 53] <|
  .nil
def r90_18 : XL := .op ⟨(some 4), none, .asg (.c ⟨.one, [.own 1 []]⟩) false, []⟩ <|
  .op ⟨(some 5), none, .asg (.c ⟨.one, [.int .i64 0]⟩) false, [7, 11, 56]⟩ <|
  .nil
def r90_19 : XL := .op ⟨(some 57), none, .mv (.s 7), []⟩ <|
  .op ⟨(some 58), none, .mv (.s 11), []⟩ <|
  .op ⟨(some 4), none, .asg (.s 57) true, []⟩ <|
  .op ⟨(some 5), none, .asg (.s 58) true, [7, 11, 56, 57, 58]⟩ <|
  .nil
def x90 : XCode := .seq (.ops r90_0) (.seq (.seq (.ops r90_1) (.cond (.s 15) (.seq (.ops r90_2) (.ret)) (.skip))) (.seq (.ops r90_3) (.seq (.ops r90_4) (.seq (.ops r90_5) (.seq (.ops r90_6) (.seq (.seq (.ops r90_7) (.block 0 (.loop l90_0))) (.seq (.ops r90_16) (.seq (.seq (.ops r90_17) (.cond (.s 56) (.seq (.ops r90_18) (.ret)) (.skip))) (.seq (.ops r90_19) (.ret))))))))))
theorem m90 : mFun Try.prog Try.f90 x90 [.tmp 4, .tmp 5] 2 = true := by kernel_rfl
theorem k90 : Callable Try.prog 90 := callable_of (by kernel_rfl)

/-! loop.example/g00360/impl.ReadValues -/
def r91_0 : XL := .op ⟨(some 4), none, .asg (.c ⟨.one, [.own 1 []]⟩) false, []⟩ <|
  .op ⟨(some 5), none, .asg (.c ⟨.one, [.int .i64 0]⟩) false, [4, 5]⟩ <|
  .nil
def r91_1 : XL := .op ⟨(some 11), none, .mv (.s 1), []⟩ <|
  .op ⟨(some 12), none, .call 32 [(false, .s 11), (false, .c ⟨.one, [.int .i64 1]⟩), (false, .c ⟨.one, [.int .i64 60]⟩)] [], []⟩ <|
  .op ⟨(some 13), none, .un .not (.s 12), [11, 12]⟩ <|
  .nil
def r91_2 : XL := .op ⟨(some 4), none, .asg (.c ⟨.one, [.own 1 []]⟩) false, []⟩ <|
  .op ⟨(some 5), none, .asg (.c ⟨.one, [.int .i64 0]⟩) false, [0, 1, 13]⟩ <|
  .nil
def r91_3 : XL := .op ⟨(some 14), none, .mv (.s 0), []⟩ <|
  .op ⟨(some 15), none, .build [.str ⟨#[]⟩, .bool false] [(0, 1, .s 14), (1, 1, .c ⟨.one, [.bool true]⟩)], []⟩ <|
  .op ⟨(some 16), none, .box (.s 15) false, []⟩ <|
  .op ⟨(some 6), none, .asg (.s 16) false, [4, 5, 13, 14, 15, 16]⟩ <|
  .nil
def r91_4 : XL := .op ⟨(some 17), none, .bslice 1 [], []⟩ <|
  .op ⟨(some 7), none, .asg (.s 17) false, [17]⟩ <|
  .nil
def r91_5 : XL := .op ⟨(some 8), none, .asg (.c ⟨.one, [.int .i64 0]⟩) false, []⟩ <|
  .nil
def r91_6 : XL := .op ⟨(some 18), none, .mv (.s 1), []⟩ <|
  .op ⟨(some 19), none, .mv (.c ⟨.one, [.int .i64 0]⟩), [1]⟩ <|
  .nil
def r91_7 : XL := .op ⟨(some 20), none, .bin .lss (.s 19) (.s 18), []⟩ <|
  .nil
def r91_8 : XL := .op ⟨(some 21), none, .mv (.s 8), []⟩ <|
  .op ⟨(some 22), none, .mv (.s 6), []⟩ <|
  .op ⟨(some 23), none, .call 124 [(false, .s 22)] [16], []⟩ <|
  .op ⟨(some 24), none, .bin .add (.s 21) (.s 23), []⟩ <|
  .op ⟨(some 8), none, .asg (.s 24) false, [20, 21, 22, 23, 24]⟩ <|
  .nil
def r91_9 : XL := .op ⟨(some 25), none, .mv (.s 7), []⟩ <|
  .op ⟨(some 26), none, .mv (.s 8), []⟩ <|
  .op ⟨(some 27), none, .bslice 1 [.s 26], []⟩ <|
  .op ⟨(some 28), none, .app 1 8 (.s 25) (.s 27) false, []⟩ <|
  .op ⟨(some 7), none, .asg (.s 28) false, [25, 26, 27, 28]⟩ <|
  .nil
def r91_10 : XL := .op ⟨(some 29), none, .bin .add (.s 19) (.c ⟨.one, [.int .i64 1]⟩), []⟩ <|
  .op ⟨(some 19), none, .mv (.s 29), [29]⟩ <|
  .nil
def l91_0 : XCode := .keep [0, 6, 7, 8, 18, 19] [16] (.seq (.ops r91_7) (.seq (.cond (.s 20) (.skip) (.exit 0)) (.seq (.block 1 (.seq (.ops r91_8) (.ops r91_9))) (.ops r91_10))))
def r91_11 : XL := .op ⟨(some 31), none, .mv (.s 0), []⟩ <|
  .op ⟨(some 32), none, .mv (.s 7), []⟩ <|
  .op ⟨(some 33), none, .call 127 [(false, .s 32)] [], []⟩ <|
  .op ⟨(some 34), none, .call 125 [(false, .s 31), (false, .s 33)] [], []⟩ <|
  .op ⟨(some 30), none, .mv (.s 34), []⟩ <|
  .op ⟨(some 35), none, .ext 0 (.s 30), []⟩ <|
  .op ⟨(some 36), none, .ext 1 (.s 30), []⟩ <|
  .op ⟨(some 9), none, .asg (.s 35) true, []⟩ <|
  .op ⟨(some 10), none, .asg (.s 36) true, [0, 8, 18, 19, 30, 31, 32, 33, 34, 35, 36]⟩ <|
  .nil
def r91_12 : XL := .op ⟨(some 37), none, .mv (.s 6), []⟩ <|
  .op ⟨(some 38), none, .nilc (.s 37), []⟩ <|
  .op ⟨(some 39), none, .fad 1 (.s 38), []⟩ <|
  .op ⟨(some 40), none, .load false 1 (.s 39), []⟩ <|
  .op ⟨(some 41), none, .un .not (.s 40), []⟩ <|
  .op ⟨(some 42), none, .mv (.s 41), []⟩ <|
  .sc 42 false (.op ⟨(some 43), (some (42, false)), .mv (.s 10), []⟩ <|
  .op ⟨(some 44), (some (42, false)), .un .not (.s 43), []⟩ <|
  .nil) [43, 44] 45 none (.s 42) (.s 44) [6, 10, 37, 38, 39, 40, 41, 42] <|
  .nil
def r91_13 : XL := .op ⟨(some 4), none, .asg (.c ⟨.one, [.own 1 []]⟩) false, []⟩ <|
  .op ⟨(some 5), none, .asg (.c ⟨.one, [.int .i64 0]⟩) false, [7, 9, 45]⟩ <|
  .nil
def r91_14 : XL := .op ⟨(some 46), none, .mv (.s 7), []⟩ <|
  .op ⟨(some 47), none, .mv (.s 9), []⟩ <|
  .op ⟨(some 4), none, .asg (.s 46) true, []⟩ <|
  .op ⟨(some 5), none, .asg (.s 47) true, [7, 9, 45, 46, 47]⟩ <|
  .nil
def x91 : XCode := .seq (.ops r91_0) (.seq (.seq (.ops r91_1) (.cond (.s 13) (.seq (.ops r91_2) (.ret)) (.skip))) (.seq (.ops r91_3) (.seq (.ops r91_4) (.seq (.ops r91_5) (.seq (.seq (.ops r91_6) (.block 0 (.loop l91_0))) (.seq (.ops r91_11) (.seq (.seq (.ops r91_12) (.cond (.s 45) (.seq (.ops r91_13) (.ret)) (.skip))) (.seq (.ops r91_14) (.ret)))))))))
theorem m91 : mFun Try.prog Try.f91 x91 [.tmp 4, .tmp 5] 2 = true := by kernel_rfl
theorem k91 : Callable Try.prog 91 := callable_of (by kernel_rfl)

/-! loop.example/g00360/impl.ShowBlock -/
def r92_0 : XL := .op ⟨(some 2), none, .asg (.c ⟨.one, [.str ⟨#[]⟩]⟩) false, [2]⟩ <|
  .nil
def r92_1 : XL := .op ⟨(some 7), none, .mv (.s 0), []⟩ <|
  .op ⟨(some 8), none, .call 128 [(false, .s 7)] [], []⟩ <|
  .op ⟨(some 9), none, .un .not (.s 8), []⟩ <|
  .op ⟨(some 10), none, .mv (.s 9), []⟩ <|
  .sc 10 false (.op ⟨(some 11), (some (10, false)), .mv (.s 0), []⟩ <|
  .op ⟨(some 12), (some (10, false)), .len false (.s 11), []⟩ <|
  .op ⟨(some 13), (some (10, false)), .bin .eql (.s 12) (.c ⟨.one, [.int .i64 0]⟩), []⟩ <|
  .nil) [11, 12, 13] 14 none (.s 10) (.s 13) [7, 8, 9, 10] <|
  .nil
def r92_2 : XL := .op ⟨(some 2), none, .asg (.c ⟨.one, [.str ⟨#[]⟩]⟩) false, [0, 14]⟩ <|
  .nil
def r92_3 : XL := .op ⟨(some 15), none, .bslice 1 [], []⟩ <|
  .op ⟨(some 16), none, .bslice 1 [], []⟩ <|
  .op ⟨(some 3), none, .asg (.s 15) false, []⟩ <|
  .op ⟨(some 4), none, .asg (.s 16) false, [2, 14, 15, 16]⟩ <|
  .nil
def r92_4 : XL := .op ⟨(some 17), none, .mv (.s 0), []⟩ <|
  .op ⟨(some 18), none, .len false (.s 17), []⟩ <|
  .op ⟨(some 19), none, .mv (.c ⟨.one, [.int .i64 0]⟩), []⟩ <|
  .nil
def r92_5 : XL := .op ⟨(some 20), none, .bin .lss (.s 19) (.s 18), []⟩ <|
  .nil
def r92_6 : XL := .op ⟨(some 21), none, .iad 2 (.s 17) (.s 19), []⟩ <|
  .op ⟨(some 22), none, .load true 2 (.s 21), []⟩ <|
  .op ⟨(some 6), none, .alloc [.int .i64 0, .int .i64 0], []⟩ <|
  .op ⟨none, none, .store 2 (.s 6) (.s 22) false, [20, 21, 22]⟩ <|
  .nil
def r92_7 : XL := .op ⟨(some 23), none, .mv (.s 3), []⟩ <|
  .op ⟨(some 24), none, .fad 0 (.s 6), []⟩ <|
  .op ⟨(some 25), none, .load false 1 (.s 24), []⟩ <|
  .op ⟨(some 26), none, .bslice 1 [.s 25], []⟩ <|
  .op ⟨(some 27), none, .app 1 8 (.s 23) (.s 26) false, []⟩ <|
  .op ⟨(some 3), none, .asg (.s 27) false, [23, 24, 25, 26, 27]⟩ <|
  .nil
def r92_8 : XL := .op ⟨(some 28), none, .mv (.s 4), []⟩ <|
  .op ⟨(some 29), none, .fad 1 (.s 6), []⟩ <|
  .op ⟨(some 30), none, .load false 1 (.s 29), []⟩ <|
  .op ⟨(some 31), none, .bslice 1 [.s 30], []⟩ <|
  .op ⟨(some 32), none, .app 1 8 (.s 28) (.s 31) false, []⟩ <|
  .op ⟨(some 4), none, .asg (.s 32) false, [6, 28, 29, 30, 31, 32]⟩ <|
  .nil
def r92_9 : XL := .op ⟨(some 33), none, .bin .add (.s 19) (.c ⟨.one, [.int .i64 1]⟩), []⟩ <|
  .op ⟨(some 19), none, .mv (.s 33), [33]⟩ <|
  .nil
def l92_0 : XCode := .keep [0, 3, 4, 17, 18, 19] [] (.seq (.ops r92_5) (.seq (.cond (.s 20) (.skip) (.exit 0)) (.seq (.block 1 (.seq (.ops r92_6) (.seq (.ops r92_7) (.ops r92_8)))) (.ops r92_9))))
def r92_10 : XL := .op ⟨(some 34), none, .mv (.s 0), []⟩ <|
  .op ⟨(some 35), none, .len false (.s 34), []⟩ <|
  .op ⟨(some 36), none, .call 57 [(false, .s 35)] [], []⟩ <|
  .op ⟨(some 37), none, .mv (.s 3), []⟩ <|
  .op ⟨(some 38), none, .call 126 [(false, .s 37)] [], []⟩ <|
  .op ⟨(some 39), none, .bin .add (.s 36) (.s 38), []⟩ <|
  .op ⟨(some 40), none, .mv (.s 4), []⟩ <|
  .op ⟨(some 41), none, .call 127 [(false, .s 40)] [], []⟩ <|
  .op ⟨(some 42), none, .bin .add (.s 39) (.s 41), []⟩ <|
  .op ⟨(some 43), none, .call 123 [(false, .s 42)] [], []⟩ <|
  .op ⟨(some 2), none, .asg (.s 43) false, [0, 3, 4, 17, 18, 19, 34, 35, 36, 37, 38, 39, 40, 41, 42, 43]⟩ <|
  .nil
def x92 : XCode := .seq (.ops r92_0) (.seq (.seq (.ops r92_1) (.cond (.s 14) (.seq (.ops r92_2) (.ret)) (.skip))) (.seq (.ops r92_3) (.seq (.seq (.ops r92_4) (.block 0 (.loop l92_0))) (.seq (.ops r92_10) (.ret)))))
theorem m92 : mFun Try.prog Try.f92 x92 [.tmp 2] 1 = true := by kernel_rfl
theorem k92 : Callable Try.prog 92 := callable_of (by kernel_rfl)

/-! loop.example/g00360/impl.isGroup -/
def r111_0 : XL := .op ⟨(some 2), none, .asg (.c ⟨.one, [.bool false]⟩) false, [2]⟩ <|
  .nil
def r111_1 : XL := .op ⟨(some 3), none, .mv (.s 0), []⟩ <|
  .op ⟨(some 4), none, .call 32 [(false, .s 3), (false, .c ⟨.one, [.int .i64 0]⟩), (false, .c ⟨.one, [.int .i64 2]⟩)] [], []⟩ <|
  .op ⟨(some 2), none, .asg (.s 4) false, [0, 3, 4]⟩ <|
  .nil
def x111 : XCode := .seq (.ops r111_0) (.seq (.ops r111_1) (.ret))
theorem m111 : mFun Try.prog Try.f111 x111 [.tmp 2] 1 = true := by kernel_rfl
theorem k111 : Callable Try.prog 111 := callable_of (by kernel_rfl)

/-! loop.example/g00360/impl.OpOk -/
def r112_0 : XL := .op ⟨(some 1), none, .box (.s 0) false, []⟩ <|
  .op ⟨(some 2), none, .asg (.c ⟨.one, [.bool false]⟩) false, [0, 2]⟩ <|
  .nil
def r112_1 : XL := .op ⟨(some 5), none, .load true 5 (.s 1), []⟩ <|
  .op ⟨(some 3), none, .alloc [.int .i64 0, .str ⟨#[]⟩, .int .i64 0, .int .i64 0, .str ⟨#[]⟩], []⟩ <|
  .op ⟨none, none, .store 5 (.s 3) (.s 5) false, [5]⟩ <|
  .nil
def r112_2 : XL := .op ⟨(some 6), none, .fad 0 (.s 3), []⟩ <|
  .op ⟨none, none, .store 1 (.s 6) (.c ⟨.one, [.int .i64 0]⟩) false, [6]⟩ <|
  .nil
def r112_3 : XL := .op ⟨(some 4), none, .asg (.c ⟨.one, [.bool false]⟩) false, []⟩ <|
  .nil
def r112_4 : XL := .op ⟨(some 7), none, .fad 0 (.s 1), []⟩ <|
  .op ⟨(some 8), none, .load false 1 (.s 7), [7]⟩ <|
  .nil
def r112_5 : XL := .op ⟨(some 10), none, .bin .eql (.s 8) (.c ⟨.one, [.int .i64 1]⟩), []⟩ <|
  .op ⟨(some 9), none, .asg (.s 10) false, [10]⟩ <|
  .nil
def r112_6 : XL := .op ⟨(some 11), none, .load true 5 (.s 1), []⟩ <|
  .op ⟨(some 12), none, .call 135 [(false, .s 11)] [], []⟩ <|
  .op ⟨(some 4), none, .asg (.s 12) false, [1, 8, 9, 11, 12]⟩ <|
  .nil
def r112_7 : XL := .op ⟨(some 13), none, .fad 2 (.s 3), []⟩ <|
  .op ⟨none, none, .store 1 (.s 13) (.c ⟨.one, [.int .i64 0]⟩) false, []⟩ <|
  .op ⟨(some 14), none, .fad 3 (.s 3), []⟩ <|
  .op ⟨none, none, .store 1 (.s 14) (.c ⟨.one, [.int .i64 0]⟩) false, [13, 14]⟩ <|
  .nil
def r112_8 : XL := .op ⟨(some 16), none, .bin .eql (.s 8) (.c ⟨.one, [.int .i64 2]⟩), []⟩ <|
  .op ⟨(some 15), none, .asg (.s 16) false, [9, 16]⟩ <|
  .nil
def r112_9 : XL := .op ⟨(some 17), none, .bin .eql (.s 8) (.c ⟨.one, [.int .i64 6]⟩), []⟩ <|
  .op ⟨(some 15), none, .asg (.s 17) false, [17]⟩ <|
  .nil
def r112_10 : XL := .op ⟨(some 18), none, .fad 2 (.s 1), []⟩ <|
  .op ⟨(some 19), none, .load false 1 (.s 18), []⟩ <|
  .op ⟨(some 20), none, .call 31 [(false, .s 19)] [], []⟩ <|
  .op ⟨(some 4), none, .asg (.s 20) false, [1, 8, 15, 18, 19, 20]⟩ <|
  .nil
def r112_11 : XL := .op ⟨(some 21), none, .fad 2 (.s 3), []⟩ <|
  .op ⟨none, none, .store 1 (.s 21) (.c ⟨.one, [.int .i64 0]⟩) false, [21]⟩ <|
  .nil
def r112_12 : XL := .op ⟨(some 23), none, .bin .eql (.s 8) (.c ⟨.one, [.int .i64 3]⟩), []⟩ <|
  .op ⟨(some 22), none, .asg (.s 23) false, [15, 23]⟩ <|
  .nil
def r112_13 : XL := .op ⟨(some 24), none, .fad 2 (.s 1), []⟩ <|
  .op ⟨(some 25), none, .load false 1 (.s 24), []⟩ <|
  .op ⟨(some 26), none, .call 32 [(false, .s 25), (false, .c ⟨.one, [.int .i64 0]⟩), (false, .c ⟨.one, [.int .i64 100000]⟩)] [], []⟩ <|
  .op ⟨(some 4), none, .asg (.s 26) false, [1, 8, 22, 24, 25, 26]⟩ <|
  .nil
def r112_14 : XL := .op ⟨(some 27), none, .fad 2 (.s 3), []⟩ <|
  .op ⟨none, none, .store 1 (.s 27) (.c ⟨.one, [.int .i64 0]⟩) false, [27]⟩ <|
  .nil
def r112_15 : XL := .op ⟨(some 29), none, .bin .eql (.s 8) (.c ⟨.one, [.int .i64 4]⟩), []⟩ <|
  .op ⟨(some 28), none, .asg (.s 29) false, [22, 29]⟩ <|
  .nil
def r112_16 : XL := .op ⟨(some 31), none, .fad 4 (.s 1), []⟩ <|
  .op ⟨(some 32), none, .load false 1 (.s 31), []⟩ <|
  .op ⟨(some 33), none, .call 29 [(false, .s 32)] [], []⟩ <|
  .op ⟨(some 30), none, .mv (.s 33), []⟩ <|
  .op ⟨(some 34), none, .ext 0 (.s 30), []⟩ <|
  .op ⟨(some 35), none, .ext 1 (.s 30), []⟩ <|
  .op ⟨(some 4), none, .asg (.s 35) true, [8, 28, 30, 31, 32, 33, 34, 35]⟩ <|
  .nil
def r112_17 : XL := .op ⟨(some 36), none, .mv (.s 4), []⟩ <|
  .op ⟨(some 37), none, .mv (.s 36), []⟩ <|
  .sc 37 true (.op ⟨(some 38), (some (37, true)), .fad 1 (.s 1), []⟩ <|
  .op ⟨(some 39), (some (37, true)), .load false 1 (.s 38), []⟩ <|
  .op ⟨(some 40), (some (37, true)), .call 30 [(false, .s 39)] [], []⟩ <|
  .nil) [38, 39, 40] 41 none (.s 37) (.s 40) [] <|
  .op ⟨(some 4), none, .asg (.s 41) false, [1, 36, 37, 41]⟩ <|
  .nil
def r112_18 : XL := .op ⟨(some 42), none, .fad 1 (.s 3), []⟩ <|
  .op ⟨none, none, .store 1 (.s 42) (.c ⟨.one, [.str ⟨#[]⟩]⟩) false, []⟩ <|
  .op ⟨(some 43), none, .fad 4 (.s 3), []⟩ <|
  .op ⟨none, none, .store 1 (.s 43) (.c ⟨.one, [.str ⟨#[]⟩]⟩) false, [42, 43]⟩ <|
  .nil
def r112_19 : XL := .op ⟨(some 45), none, .bin .eql (.s 8) (.c ⟨.one, [.int .i64 5]⟩), []⟩ <|
  .op ⟨(some 44), none, .asg (.s 45) false, [28, 45]⟩ <|
  .nil
def r112_20 : XL := .op ⟨(some 46), none, .fad 1 (.s 1), []⟩ <|
  .op ⟨(some 47), none, .load false 1 (.s 46), []⟩ <|
  .op ⟨(some 48), none, .call 30 [(false, .s 47)] [], []⟩ <|
  .op ⟨(some 49), none, .mv (.s 48), []⟩ <|
  .sc 49 true (.op ⟨(some 50), (some (49, true)), .load true 5 (.s 1), []⟩ <|
  .op ⟨(some 51), (some (49, true)), .call 135 [(false, .s 50)] [], []⟩ <|
  .nil) [50, 51] 52 none (.s 49) (.s 51) [] <|
  .op ⟨(some 4), none, .asg (.s 52) false, [1, 8, 44, 46, 47, 48, 49, 52]⟩ <|
  .nil
def r112_21 : XL := .op ⟨(some 53), none, .fad 1 (.s 3), []⟩ <|
  .op ⟨none, none, .store 1 (.s 53) (.c ⟨.one, [.str ⟨#[]⟩]⟩) false, []⟩ <|
  .op ⟨(some 54), none, .fad 2 (.s 3), []⟩ <|
  .op ⟨none, none, .store 1 (.s 54) (.c ⟨.one, [.int .i64 0]⟩) false, []⟩ <|
  .op ⟨(some 55), none, .fad 3 (.s 3), []⟩ <|
  .op ⟨none, none, .store 1 (.s 55) (.c ⟨.one, [.int .i64 0]⟩) false, [53, 54, 55]⟩ <|
  .nil
def r112_22 : XL := .op ⟨(some 57), none, .bin .eql (.s 8) (.c ⟨.one, [.int .i64 7]⟩), []⟩ <|
  .op ⟨(some 56), none, .asg (.s 57) false, [1, 8, 44, 57]⟩ <|
  .nil
def r112_23 : XL := .op ⟨(some 4), none, .asg (.c ⟨.one, [.bool true]⟩) false, [56]⟩ <|
  .nil
def r112_24 : XL := .op ⟨(some 58), none, .mv (.s 4), []⟩ <|
  .op ⟨(some 59), none, .mv (.s 58), []⟩ <|
  .sc 59 true (.op ⟨(some 60), (some (59, true)), .load true 5 (.s 3), []⟩ <|
  .op ⟨(some 61), (some (59, true)), .build [.int .i64 0, .str ⟨#[]⟩, .int .i64 0, .int .i64 0, .str ⟨#[]⟩] [], []⟩ <|
  .op ⟨(some 62), (some (59, true)), .eqs false [0, 2, 0, 0, 2] (.s 60) (.s 61), []⟩ <|
  .nil) [60, 61, 62] 63 none (.s 59) (.s 62) [] <|
  .op ⟨(some 2), none, .asg (.s 63) false, [3, 4, 56, 58, 59, 63]⟩ <|
  .nil
def x112 : XCode := .seq (.ops r112_0) (.seq (.ops r112_1) (.seq (.ops r112_2) (.seq (.ops r112_3) (.seq (.seq (.ops r112_4) (.block 0 (.seq (.ops r112_5) (.cond (.s 9) (.seq (.ops r112_6) (.ops r112_7)) (.seq (.seq (.ops r112_8) (.cond (.s 15) (.skip) (.ops r112_9))) (.cond (.s 15) (.seq (.ops r112_10) (.ops r112_11)) (.seq (.ops r112_12) (.cond (.s 22) (.seq (.ops r112_13) (.ops r112_14)) (.seq (.ops r112_15) (.cond (.s 28) (.seq (.ops r112_16) (.seq (.ops r112_17) (.ops r112_18))) (.seq (.ops r112_19) (.cond (.s 44) (.seq (.ops r112_20) (.ops r112_21)) (.seq (.ops r112_22) (.cond (.s 56) (.ops r112_23) (.skip))))))))))))))) (.seq (.ops r112_24) (.ret))))))
theorem m112 : mFun Try.prog Try.f112 x112 [.tmp 2] 1 = true := by kernel_rfl
theorem k112 : Callable Try.prog 112 := callable_of (by kernel_rfl)

/-! loop.example/g00360/spec.ReadVar -/
def r116_0 : XL := .op ⟨(some 2), none, .asg (.c ⟨.one, [.int .i64 0]⟩) false, []⟩ <|
  .op ⟨(some 3), none, .asg (.c ⟨.one, [.int .i64 0]⟩) false, [2, 3]⟩ <|
  .nil
def r116_1 : XL := .op ⟨(some 4), none, .asg (.c ⟨.one, [.int .i64 1]⟩) false, []⟩ <|
  .nil
def r116_2 : XL := .op ⟨(some 7), none, .mv (.s 4), []⟩ <|
  .op ⟨(some 8), none, .bin .leq (.s 7) (.c ⟨.one, [.int .i64 7]⟩), []⟩ <|
  .op ⟨(some 9), none, .mv (.s 8), []⟩ <|
  .sc 9 true (.op ⟨(some 10), (some (9, true)), .mv (.s 4), []⟩ <|
  .op ⟨(some 11), (some (9, true)), .mv (.s 0), []⟩ <|
  .op ⟨(some 12), (some (9, true)), .len true (.s 11), []⟩ <|
  .op ⟨(some 13), (some (9, true)), .bin .leq (.s 10) (.s 12), []⟩ <|
  .nil) [10, 11, 12, 13] 14 none (.s 9) (.s 13) [7, 8, 9] <|
  .nil
def r116_4 : XL := .op ⟨(some 5), none, .asg (.c ⟨.one, [.int .i64 0]⟩) false, [14]⟩ <|
  .nil
def r116_5 : XL := .op ⟨(some 17), none, .mv (.s 4), []⟩ <|
  .op ⟨(some 18), none, .bin .sub (.s 17) (.c ⟨.one, [.int .i64 1]⟩), []⟩ <|
  .op ⟨(some 6), none, .asg (.s 18) false, [17, 18]⟩ <|
  .nil
def r116_6 : XL := .op ⟨(some 19), none, .mv (.s 6), []⟩ <|
  .op ⟨(some 20), none, .bin .geq (.s 19) (.c ⟨.one, [.int .i64 0]⟩), [19]⟩ <|
  .nil
def r116_8 : XL := .op ⟨(some 23), none, .mv (.s 5), []⟩ <|
  .op ⟨(some 24), none, .bin .mul (.s 23) (.c ⟨.one, [.int .i64 128]⟩), []⟩ <|
  .op ⟨(some 25), none, .mv (.s 0), []⟩ <|
  .op ⟨(some 26), none, .mv (.s 6), []⟩ <|
  .op ⟨(some 27), none, .idx (.s 25) (.s 26), []⟩ <|
  .op ⟨(some 28), none, .convI .i64 (.s 27), []⟩ <|
  .op ⟨(some 29), none, .bin .rem (.s 28) (.c ⟨.one, [.int .i64 128]⟩), []⟩ <|
  .op ⟨(some 30), none, .bin .add (.s 24) (.s 29), []⟩ <|
  .op ⟨(some 5), none, .asg (.s 30) false, [20, 23, 24, 25, 26, 27, 28, 29, 30]⟩ <|
  .nil
def r116_7 : XL := .op ⟨(some 21), none, .mv (.s 6), []⟩ <|
  .op ⟨(some 22), none, .bin .sub (.s 21) (.c ⟨.one, [.int .i64 1]⟩), []⟩ <|
  .op ⟨(some 6), none, .asg (.s 22) false, [21, 22]⟩ <|
  .nil
def l116_0 : XCode := .keep [0, 4, 5, 6] [] (.seq (.seq (.ops r116_6) (.cond (.s 20) (.skip) (.exit 2))) (.seq (.block 3 (.ops r116_8)) (.ops r116_7)))
def r116_9v : List XD := [⟨⟨(some 31), none, .mv (.s 5), []⟩, [], []⟩,
  ⟨⟨(some 32), none, .call 53 [(false, .s 31)] [], []⟩, [0], []⟩,
  ⟨⟨(some 33), none, .mv (.s 0), []⟩, [], [31, 32]⟩,
  ⟨⟨(some 34), none, .mv (.s 4), []⟩, [], [31, 32, 33]⟩,
  ⟨⟨(some 35), none, .slcS (.s 33) none (some (.s 34)), []⟩, [2, 3], [31, 32]⟩]
def r116_9t : List XD := [⟨⟨(some 36), none, .bin .eql (.s 32) (.s 35), [6, 31, 32, 33, 34, 35]⟩, [0, 1, 2, 3, 4], []⟩]
def r116_10 : XL := .op ⟨(some 37), none, .mv (.s 5), []⟩ <|
  .op ⟨(some 38), none, .mv (.s 4), []⟩ <|
  .op ⟨(some 2), none, .asg (.s 37) true, []⟩ <|
  .op ⟨(some 3), none, .asg (.s 38) true, [0, 4, 5, 36, 37, 38]⟩ <|
  .nil
def r116_3 : XL := .op ⟨(some 15), none, .mv (.s 4), []⟩ <|
  .op ⟨(some 16), none, .bin .add (.s 15) (.c ⟨.one, [.int .i64 1]⟩), []⟩ <|
  .op ⟨(some 4), none, .asg (.s 16) false, [2, 3, 5, 15, 16, 36]⟩ <|
  .nil
def l116_1 : XCode := .keep [0, 4] [] (.seq (.seq (.ops r116_2) (.cond (.s 14) (.skip) (.exit 0))) (.seq (.block 1 (.seq (.ops r116_4) (.seq (.seq (.ops r116_5) (.block 2 (.loop l116_0))) (.seq (.any r116_9v r116_9t) (.cond (.s 36) (.seq (.ops r116_10) (.ret)) (.skip)))))) (.ops r116_3)))
def r116_11 : XL := .op ⟨(some 2), none, .asg (.c ⟨.one, [.int .i64 0]⟩) false, []⟩ <|
  .op ⟨(some 3), none, .asg (.c ⟨.one, [.int .i64 0]⟩) false, [0, 4]⟩ <|
  .nil
def x116 : XCode := .seq (.ops r116_0) (.seq (.seq (.ops r116_1) (.block 0 (.loop l116_1))) (.seq (.ops r116_11) (.ret)))
theorem m116 : mFun Try.prog Try.f116 x116 [.tmp 2, .tmp 3] 1 = true := by kernel_rfl
theorem k116 : Callable Try.prog 116 := callable_of (by kernel_rfl)

/-! (*loop.example/g00360/impl.reader).bytes -/
def r117_0 : XL := .op ⟨(some 4), none, .asg (.c ⟨.one, [.str ⟨#[]⟩]⟩) false, [4]⟩ <|
  .nil
def r117_1 : XL := .op ⟨(some 6), none, .mv (.s 0), []⟩ <|
  .op ⟨(some 7), none, .nilc (.s 6), []⟩ <|
  .op ⟨(some 8), none, .fad 1 (.s 7), []⟩ <|
  .op ⟨(some 9), none, .load false 1 (.s 8), []⟩ <|
  .op ⟨(some 10), none, .un .not (.s 9), []⟩ <|
  .op ⟨(some 11), none, .mv (.s 10), []⟩ <|
  .sc 11 false (.op ⟨(some 12), (some (11, false)), .mv (.s 1), []⟩ <|
  .op ⟨(some 13), (some (11, false)), .mv (.s 0), []⟩ <|
  .op ⟨(some 14), (some (11, false)), .nilc (.s 13), []⟩ <|
  .op ⟨(some 15), (some (11, false)), .fad 0 (.s 14), []⟩ <|
  .op ⟨(some 16), (some (11, false)), .load false 1 (.s 15), []⟩ <|
  .op ⟨(some 17), (some (11, false)), .len true (.s 16), []⟩ <|
  .op ⟨(some 18), (some (11, false)), .bin .gtr (.s 12) (.s 17), []⟩ <|
  .nil) [12, 13, 14, 15, 16, 17, 18] 19 none (.s 11) (.s 18) [6, 7, 8, 9, 10, 11] <|
  .nil
def r117_2 : XL := .op ⟨(some 20), none, .mv (.s 0), []⟩ <|
  .op ⟨(some 21), none, .nilc (.s 20), []⟩ <|
  .op ⟨(some 22), none, .fad 1 (.s 21), []⟩ <|
  .op ⟨none, none, .store 1 (.s 22) (.c ⟨.one, [.bool false]⟩) false, [0, 1, 19, 20, 21, 22]⟩ <|
  .nil
def r117_3 : XL := .op ⟨(some 4), none, .asg (.c ⟨.one, [.str ⟨#[]⟩]⟩) false, []⟩ <|
  .nil
def r117_4 : XL := .op ⟨(some 23), none, .mv (.s 0), []⟩ <|
  .op ⟨(some 24), none, .nilc (.s 23), []⟩ <|
  .op ⟨(some 25), none, .fad 0 (.s 24), []⟩ <|
  .op ⟨(some 26), none, .load false 1 (.s 25), []⟩ <|
  .op ⟨(some 27), none, .mv (.s 1), []⟩ <|
  .op ⟨(some 28), none, .slcS (.s 26) none (some (.s 27)), []⟩ <|
  .op ⟨(some 5), none, .asg (.s 28) false, [4, 19, 23, 24, 25, 26, 27, 28]⟩ <|
  .nil
def r117_5 : XL := .op ⟨(some 29), none, .mv (.s 0), []⟩ <|
  .op ⟨(some 30), none, .mv (.s 0), []⟩ <|
  .op ⟨(some 31), none, .nilc (.s 30), []⟩ <|
  .op ⟨(some 32), none, .fad 0 (.s 31), []⟩ <|
  .op ⟨(some 33), none, .load false 1 (.s 32), []⟩ <|
  .op ⟨(some 34), none, .mv (.s 1), []⟩ <|
  .op ⟨(some 35), none, .slcS (.s 33) (some (.s 34)) none, []⟩ <|
  .op ⟨(some 36), none, .nilc (.s 29), []⟩ <|
  .op ⟨(some 37), none, .fad 0 (.s 36), []⟩ <|
  .op ⟨none, none, .store 1 (.s 37) (.s 35) false, [0, 1, 29, 30, 31, 32, 33, 34, 35, 36, 37]⟩ <|
  .nil
def r117_6 : XL := .op ⟨(some 38), none, .mv (.s 5), []⟩ <|
  .op ⟨(some 4), none, .asg (.s 38) true, [5, 38]⟩ <|
  .nil
def x117 : XCode := .seq (.ops r117_0) (.seq (.seq (.ops r117_1) (.cond (.s 19) (.seq (.ops r117_2) (.seq (.ops r117_3) (.ret))) (.skip))) (.seq (.ops r117_4) (.seq (.ops r117_5) (.seq (.ops r117_6) (.ret)))))
theorem m117 : mFun Try.prog Try.f117 x117 [.tmp 4] 2 = true := by kernel_rfl
theorem k117 : Callable Try.prog 117 := callable_of (by kernel_rfl)

/-! loop.example/g00360/spec.Unframe -/
def r119_0 : XL := .op ⟨(some 2), none, .asg (.c ⟨.one, [.str ⟨#[]⟩]⟩) false, []⟩ <|
  .op ⟨(some 3), none, .asg (.c ⟨.one, [.int .i64 0]⟩) false, []⟩ <|
  .op ⟨(some 4), none, .asg (.c ⟨.one, [.int .i64 0]⟩) false, [2, 3, 4]⟩ <|
  .nil
def r119_1 : XL := .op ⟨(some 9), none, .mv (.s 0), []⟩ <|
  .op ⟨(some 10), none, .call 138 [(false, .s 9), (false, .c ⟨.one, [.int .i64 4]⟩)] [], []⟩ <|
  .op ⟨(some 8), none, .mv (.s 10), []⟩ <|
  .op ⟨(some 11), none, .ext 0 (.s 8), []⟩ <|
  .op ⟨(some 12), none, .ext 1 (.s 8), []⟩ <|
  .op ⟨(some 5), none, .asg (.s 11) true, []⟩ <|
  .op ⟨(some 6), none, .asg (.s 12) true, [8, 9, 10, 11, 12]⟩ <|
  .nil
def r119_2 : XL := .op ⟨(some 13), none, .mv (.s 6), []⟩ <|
  .op ⟨(some 14), none, .un .not (.s 13), [6, 13]⟩ <|
  .nil
def r119_3 : XL := .op ⟨(some 2), none, .asg (.c ⟨.one, [.str ⟨#[]⟩]⟩) false, []⟩ <|
  .op ⟨(some 3), none, .asg (.c ⟨.one, [.int .i64 0]⟩) false, []⟩ <|
  .op ⟨(some 4), none, .asg (.c ⟨.one, [.int .i64 1]⟩) false, [0, 5, 14]⟩ <|
  .nil
def r119_4 : XL := .op ⟨(some 15), none, .mv (.s 5), []⟩ <|
  .op ⟨(some 16), none, .bin .eql (.s 15) (.c ⟨.one, [.int .i64 0]⟩), []⟩ <|
  .op ⟨(some 17), none, .mv (.s 16), []⟩ <|
  .sc 17 false (.op ⟨(some 18), (some (17, false)), .mv (.s 5), []⟩ <|
  .op ⟨(some 19), (some (17, false)), .bin .gtr (.s 18) (.c ⟨.one, [.int .i64 2000]⟩), []⟩ <|
  .nil) [18, 19] 20 none (.s 17) (.s 19) [2, 3, 4, 14, 15, 16, 17] <|
  .nil
def r119_5 : XL := .op ⟨(some 2), none, .asg (.c ⟨.one, [.str ⟨#[]⟩]⟩) false, []⟩ <|
  .op ⟨(some 3), none, .asg (.c ⟨.one, [.int .i64 0]⟩) false, []⟩ <|
  .op ⟨(some 4), none, .asg (.c ⟨.one, [.int .i64 2]⟩) false, [0, 5, 20]⟩ <|
  .nil
def r119_6 : XL := .op ⟨(some 21), none, .mv (.s 0), []⟩ <|
  .op ⟨(some 22), none, .len true (.s 21), []⟩ <|
  .op ⟨(some 23), none, .mv (.s 5), []⟩ <|
  .op ⟨(some 24), none, .bin .add (.c ⟨.one, [.int .i64 8]⟩) (.s 23), []⟩ <|
  .op ⟨(some 25), none, .bin .lss (.s 22) (.s 24), [2, 3, 4, 20, 21, 22, 23, 24]⟩ <|
  .nil
def r119_7 : XL := .op ⟨(some 2), none, .asg (.c ⟨.one, [.str ⟨#[]⟩]⟩) false, []⟩ <|
  .op ⟨(some 3), none, .asg (.c ⟨.one, [.int .i64 0]⟩) false, []⟩ <|
  .op ⟨(some 4), none, .asg (.c ⟨.one, [.int .i64 1]⟩) false, [0, 5, 25]⟩ <|
  .nil
def r119_8 : XL := .op ⟨(some 26), none, .mv (.s 0), []⟩ <|
  .op ⟨(some 27), none, .mv (.s 5), []⟩ <|
  .op ⟨(some 28), none, .bin .add (.c ⟨.one, [.int .i64 8]⟩) (.s 27), []⟩ <|
  .op ⟨(some 29), none, .slcS (.s 26) (some (.c ⟨.one, [.int .i64 8]⟩)) (some (.s 28)), []⟩ <|
  .op ⟨(some 7), none, .asg (.s 29) false, [2, 3, 4, 25, 26, 27, 28, 29]⟩ <|
  .nil
def r119_9v : List XD := [⟨⟨(some 30), none, .mv (.s 7), []⟩, [], []⟩,
  ⟨⟨(some 31), none, .call 139 [(false, .s 30)] [], []⟩, [0], []⟩,
  ⟨⟨(some 32), none, .mv (.s 0), []⟩, [], [30, 31]⟩,
  ⟨⟨(some 33), none, .mv (.s 5), []⟩, [], [30, 31, 32]⟩,
  ⟨⟨(some 34), none, .bin .add (.c ⟨.one, [.int .i64 8]⟩) (.s 33), []⟩, [3], [30, 31, 32]⟩,
  ⟨⟨(some 35), none, .slcS (.s 32) none (some (.s 34)), []⟩, [2, 3, 4], [30, 31]⟩]
def r119_9t : List XD := [⟨⟨(some 36), none, .bin .neq (.s 31) (.s 35), [0, 30, 31, 32, 33, 34, 35]⟩, [0, 1, 2, 3, 4, 5], []⟩]
def r119_10 : XL := .op ⟨(some 2), none, .asg (.c ⟨.one, [.str ⟨#[]⟩]⟩) false, []⟩ <|
  .op ⟨(some 3), none, .asg (.c ⟨.one, [.int .i64 0]⟩) false, []⟩ <|
  .op ⟨(some 4), none, .asg (.c ⟨.one, [.int .i64 2]⟩) false, [5, 7, 36]⟩ <|
  .nil
def r119_11 : XL := .op ⟨(some 37), none, .mv (.s 7), []⟩ <|
  .op ⟨(some 38), none, .mv (.s 5), []⟩ <|
  .op ⟨(some 39), none, .bin .add (.c ⟨.one, [.int .i64 8]⟩) (.s 38), []⟩ <|
  .op ⟨(some 2), none, .asg (.s 37) true, []⟩ <|
  .op ⟨(some 3), none, .asg (.s 39) false, []⟩ <|
  .op ⟨(some 4), none, .asg (.c ⟨.one, [.int .i64 0]⟩) false, [5, 7, 36, 37, 38, 39]⟩ <|
  .nil
def x119 : XCode := .seq (.ops r119_0) (.seq (.ops r119_1) (.seq (.seq (.ops r119_2) (.cond (.s 14) (.seq (.ops r119_3) (.ret)) (.skip))) (.seq (.seq (.ops r119_4) (.cond (.s 20) (.seq (.ops r119_5) (.ret)) (.skip))) (.seq (.seq (.ops r119_6) (.cond (.s 25) (.seq (.ops r119_7) (.ret)) (.skip))) (.seq (.ops r119_8) (.seq (.seq (.any r119_9v r119_9t) (.cond (.s 36) (.seq (.ops r119_10) (.ret)) (.skip))) (.seq (.ops r119_11) (.ret))))))))
theorem m119 : mFun Try.prog Try.f119 x119 [.tmp 2, .tmp 3, .tmp 4] 1 = true := by kernel_rfl
theorem k119 : Callable Try.prog 119 := callable_of (by kernel_rfl)

/-! loop.example/g00360/spec.ReadTimes -/
def r120_0 : XL := .op ⟨(some 4), none, .asg (.c ⟨.one, [.own 1 []]⟩) false, []⟩ <|
  .op ⟨(some 5), none, .asg (.c ⟨.one, [.int .i64 0]⟩) false, [4, 5]⟩ <|
  .nil
def r120_1 : XL := .op ⟨(some 13), none, .bslice 1 [], []⟩ <|
  .op ⟨(some 6), none, .asg (.s 13) false, [13]⟩ <|
  .nil
def r120_2 : XL := .op ⟨(some 14), none, .mv (.s 1), []⟩ <|
  .op ⟨(some 15), none, .call 36 [(false, .s 14), (false, .c ⟨.one, [.int .i64 1]⟩), (false, .c ⟨.one, [.int .i64 60]⟩)] [], []⟩ <|
  .op ⟨(some 16), none, .un .not (.s 15), [14, 15]⟩ <|
  .nil
def r120_3 : XL := .op ⟨(some 17), none, .mv (.s 6), []⟩ <|
  .op ⟨(some 4), none, .asg (.s 17) true, []⟩ <|
  .op ⟨(some 5), none, .asg (.c ⟨.one, [.int .i64 0]⟩) false, [0, 1, 6, 16, 17]⟩ <|
  .nil
def r120_4 : XL := .op ⟨(some 19), none, .mv (.s 0), []⟩ <|
  .op ⟨(some 20), none, .mv (.s 1), []⟩ <|
  .op ⟨(some 21), none, .call 140 [(false, .s 19), (false, .s 20)] [], []⟩ <|
  .op ⟨(some 18), none, .mv (.s 21), []⟩ <|
  .op ⟨(some 22), none, .ext 0 (.s 18), []⟩ <|
  .op ⟨(some 23), none, .ext 1 (.s 18), []⟩ <|
  .op ⟨(some 7), none, .asg (.s 22) true, []⟩ <|
  .op ⟨(some 8), none, .asg (.s 23) true, [4, 5, 16, 18, 19, 20, 21, 22, 23]⟩ <|
  .nil
def r120_5 : XL := .op ⟨(some 24), none, .mv (.s 8), []⟩ <|
  .op ⟨(some 25), none, .bin .lss (.s 24) (.c ⟨.one, [.int .i64 0]⟩), [24]⟩ <|
  .nil
def r120_6 : XL := .op ⟨(some 26), none, .mv (.s 6), []⟩ <|
  .op ⟨(some 4), none, .asg (.s 26) true, []⟩ <|
  .op ⟨(some 5), none, .asg (.c ⟨.one, [.int .i64 0]⟩) false, [0, 1, 6, 7, 8, 25, 26]⟩ <|
  .nil
def r120_7 : XL := .op ⟨(some 27), none, .mv (.s 7), []⟩ <|
  .op ⟨(some 28), none, .iad 1 (.s 27) (.c ⟨.one, [.int .i64 0]⟩), []⟩ <|
  .op ⟨(some 29), none, .load false 1 (.s 28), []⟩ <|
  .op ⟨(some 30), none, .bslice 1 [.s 29], []⟩ <|
  .op ⟨(some 9), none, .asg (.s 30) false, [4, 5, 25, 27, 28, 29, 30]⟩ <|
  .nil
def r120_8 : XL := .op ⟨(some 10), none, .asg (.c ⟨.one, [.int .i64 1]⟩) false, []⟩ <|
  .nil
def r120_9 : XL := .op ⟨(some 31), none, .mv (.s 10), []⟩ <|
  .op ⟨(some 32), none, .mv (.s 1), []⟩ <|
  .op ⟨(some 33), none, .bin .lss (.s 31) (.s 32), [31, 32]⟩ <|
  .nil
def r120_11 : XL := .op ⟨(some 36), none, .mv (.s 7), []⟩ <|
  .op ⟨(some 37), none, .mv (.s 10), []⟩ <|
  .op ⟨(some 38), none, .iad 1 (.s 36) (.s 37), []⟩ <|
  .op ⟨(some 39), none, .load false 1 (.s 38), []⟩ <|
  .op ⟨(some 11), none, .asg (.s 39) false, [33, 36, 37, 38, 39]⟩ <|
  .nil
def r120_12 : XL := .op ⟨(some 40), none, .mv (.s 10), []⟩ <|
  .op ⟨(some 41), none, .bin .gtr (.s 40) (.c ⟨.one, [.int .i64 1]⟩), [40]⟩ <|
  .nil
def r120_13v : List XD := [⟨⟨(some 42), none, .mv (.s 9), []⟩, [], []⟩,
  ⟨⟨(some 43), none, .mv (.s 10), []⟩, [], [42]⟩,
  ⟨⟨(some 44), none, .bin .sub (.s 43) (.c ⟨.one, [.int .i64 1]⟩), []⟩, [1], [42]⟩,
  ⟨⟨(some 45), none, .iad 1 (.s 42) (.s 44), []⟩, [0, 1, 2], []⟩,
  ⟨⟨(some 46), none, .load false 1 (.s 45), []⟩, [0, 1, 2, 3], []⟩,
  ⟨⟨(some 47), none, .mv (.s 9), []⟩, [], [42, 43, 44, 45, 46]⟩,
  ⟨⟨(some 48), none, .mv (.s 10), []⟩, [], [42, 43, 44, 45, 46, 47]⟩,
  ⟨⟨(some 49), none, .bin .sub (.s 48) (.c ⟨.one, [.int .i64 2]⟩), []⟩, [6], [42, 43, 44, 45, 46, 47]⟩,
  ⟨⟨(some 50), none, .iad 1 (.s 47) (.s 49), []⟩, [5, 6, 7], [42, 43, 44, 45, 46]⟩,
  ⟨⟨(some 51), none, .load false 1 (.s 50), []⟩, [5, 6, 7, 8], [42, 43, 44, 45, 46]⟩,
  ⟨⟨(some 52), none, .bin .sub (.s 46) (.s 51), []⟩, [0, 1, 2, 3, 4, 5, 6, 7, 8, 9], []⟩,
  ⟨⟨(some 53), none, .mv (.s 7), []⟩, [], [42, 43, 44, 45, 46, 47, 48, 49, 50, 51, 52]⟩,
  ⟨⟨(some 54), none, .mv (.s 10), []⟩, [], [42, 43, 44, 45, 46, 47, 48, 49, 50, 51, 52, 53]⟩,
  ⟨⟨(some 55), none, .iad 1 (.s 53) (.s 54), []⟩, [11, 12], [42, 43, 44, 45, 46, 47, 48, 49, 50, 51, 52]⟩,
  ⟨⟨(some 56), none, .load false 1 (.s 55), []⟩, [11, 12, 13], [42, 43, 44, 45, 46, 47, 48, 49, 50, 51, 52]⟩,
  ⟨⟨(some 57), none, .call 141 [(false, .s 56)] [], []⟩, [11, 12, 13, 14], [42, 43, 44, 45, 46, 47, 48, 49, 50, 51, 52]⟩]
def r120_13t : List XD := [⟨⟨(some 58), none, .bin .add (.s 52) (.s 57), []⟩, [0, 1, 2, 3, 4, 5, 6, 7, 8, 9, 10, 11, 12, 13, 14, 15], []⟩,
  ⟨⟨(some 11), none, .asg (.s 58) false, [41, 42, 43, 44, 45, 46, 47, 48, 49, 50, 51, 52, 53, 54, 55, 56, 57, 58]⟩, [0, 1, 2, 3, 4, 5, 6, 7, 8, 9, 10, 11, 12, 13, 14, 15, 16], []⟩]
def r120_14 : XL := .op ⟨(some 59), none, .mv (.s 9), []⟩ <|
  .op ⟨(some 60), none, .mv (.s 10), []⟩ <|
  .op ⟨(some 61), none, .bin .sub (.s 60) (.c ⟨.one, [.int .i64 1]⟩), []⟩ <|
  .op ⟨(some 62), none, .iad 1 (.s 59) (.s 61), []⟩ <|
  .op ⟨(some 63), none, .load false 1 (.s 62), []⟩ <|
  .op ⟨(some 64), none, .mv (.s 11), []⟩ <|
  .op ⟨(some 65), none, .bin .add (.s 63) (.s 64), []⟩ <|
  .op ⟨(some 12), none, .asg (.s 65) false, [11, 41, 59, 60, 61, 62, 63, 64, 65]⟩ <|
  .nil
def r120_15 : XL := .op ⟨(some 66), none, .mv (.s 12), []⟩ <|
  .op ⟨(some 67), none, .call 36 [(false, .s 66), (false, .c ⟨.one, [.int .i64 0]⟩), (false, .c ⟨.one, [.int .i64 1099511627776]⟩)] [], []⟩ <|
  .op ⟨(some 68), none, .un .not (.s 67), [66, 67]⟩ <|
  .nil
def r120_16 : XL := .op ⟨(some 69), none, .mv (.s 6), []⟩ <|
  .op ⟨(some 4), none, .asg (.s 69) true, []⟩ <|
  .op ⟨(some 5), none, .asg (.c ⟨.one, [.int .i64 0]⟩) false, [0, 1, 6, 7, 8, 9, 10, 12, 68, 69]⟩ <|
  .nil
def r120_17 : XL := .op ⟨(some 70), none, .mv (.s 9), []⟩ <|
  .op ⟨(some 71), none, .mv (.s 12), []⟩ <|
  .op ⟨(some 72), none, .bslice 1 [.s 71], []⟩ <|
  .op ⟨(some 73), none, .app 1 8 (.s 70) (.s 72) false, []⟩ <|
  .op ⟨(some 9), none, .asg (.s 73) false, [4, 5, 12, 68, 70, 71, 72, 73]⟩ <|
  .nil
def r120_10 : XL := .op ⟨(some 34), none, .mv (.s 10), []⟩ <|
  .op ⟨(some 35), none, .bin .add (.s 34) (.c ⟨.one, [.int .i64 1]⟩), []⟩ <|
  .op ⟨(some 10), none, .asg (.s 35) false, [34, 35]⟩ <|
  .nil
def l120_0 : XCode := .keep [0, 1, 6, 7, 8, 9, 10] [] (.seq (.seq (.ops r120_9) (.cond (.s 33) (.skip) (.exit 0))) (.seq (.block 1 (.seq (.ops r120_11) (.seq (.seq (.ops r120_12) (.cond (.s 41) (.any r120_13v r120_13t) (.skip))) (.seq (.ops r120_14) (.seq (.seq (.ops r120_15) (.cond (.s 68) (.seq (.ops r120_16) (.ret)) (.skip))) (.ops r120_17)))))) (.ops r120_10)))
def r120_18v : List XD := [⟨⟨(some 74), none, .mv (.s 9), []⟩, [], []⟩,
  ⟨⟨(some 75), none, .call 142 [(false, .s 74)] [], []⟩, [0], []⟩,
  ⟨⟨(some 76), none, .mv (.s 0), []⟩, [], [74, 75]⟩,
  ⟨⟨(some 77), none, .mv (.s 8), []⟩, [], [74, 75, 76]⟩,
  ⟨⟨(some 78), none, .slcS (.s 76) none (some (.s 77)), []⟩, [2, 3], [74, 75]⟩]
def r120_18t : List XD := [⟨⟨(some 79), none, .bin .neq (.s 75) (.s 78), [0, 1, 7, 10, 74, 75, 76, 77, 78]⟩, [0, 1, 2, 3, 4], []⟩]
def r120_19 : XL := .op ⟨(some 80), none, .mv (.s 6), []⟩ <|
  .op ⟨(some 4), none, .asg (.s 80) true, []⟩ <|
  .op ⟨(some 5), none, .asg (.c ⟨.one, [.int .i64 0]⟩) false, [6, 8, 9, 79, 80]⟩ <|
  .nil
def r120_20 : XL := .op ⟨(some 81), none, .mv (.s 9), []⟩ <|
  .op ⟨(some 82), none, .mv (.s 8), []⟩ <|
  .op ⟨(some 4), none, .asg (.s 81) true, []⟩ <|
  .op ⟨(some 5), none, .asg (.s 82) true, [6, 8, 9, 79, 81, 82]⟩ <|
  .nil
def x120 : XCode := .seq (.ops r120_0) (.seq (.ops r120_1) (.seq (.seq (.ops r120_2) (.cond (.s 16) (.seq (.ops r120_3) (.ret)) (.skip))) (.seq (.ops r120_4) (.seq (.seq (.ops r120_5) (.cond (.s 25) (.seq (.ops r120_6) (.ret)) (.skip))) (.seq (.ops r120_7) (.seq (.seq (.ops r120_8) (.block 0 (.loop l120_0))) (.seq (.seq (.any r120_18v r120_18t) (.cond (.s 79) (.seq (.ops r120_19) (.ret)) (.skip))) (.seq (.ops r120_20) (.ret)))))))))
theorem m120 : mFun Try.prog Try.f120 x120 [.tmp 4, .tmp 5] 2 = true := by kernel_rfl
theorem k120 : Callable Try.prog 120 := callable_of (by kernel_rfl)

/-! loop.example/g00360/spec.ReadValues -/
def r121_0 : XL := .op ⟨(some 4), none, .asg (.c ⟨.one, [.own 1 []]⟩) false, []⟩ <|
  .op ⟨(some 5), none, .asg (.c ⟨.one, [.int .i64 0]⟩) false, [4, 5]⟩ <|
  .nil
def r121_1 : XL := .op ⟨(some 12), none, .bslice 1 [], []⟩ <|
  .op ⟨(some 6), none, .asg (.s 12) false, [12]⟩ <|
  .nil
def r121_2 : XL := .op ⟨(some 13), none, .mv (.s 1), []⟩ <|
  .op ⟨(some 14), none, .call 36 [(false, .s 13), (false, .c ⟨.one, [.int .i64 1]⟩), (false, .c ⟨.one, [.int .i64 60]⟩)] [], []⟩ <|
  .op ⟨(some 15), none, .un .not (.s 14), [13, 14]⟩ <|
  .nil
def r121_3 : XL := .op ⟨(some 16), none, .mv (.s 6), []⟩ <|
  .op ⟨(some 4), none, .asg (.s 16) true, []⟩ <|
  .op ⟨(some 5), none, .asg (.c ⟨.one, [.int .i64 0]⟩) false, [0, 1, 6, 15, 16]⟩ <|
  .nil
def r121_4 : XL := .op ⟨(some 18), none, .mv (.s 0), []⟩ <|
  .op ⟨(some 19), none, .mv (.s 1), []⟩ <|
  .op ⟨(some 20), none, .call 140 [(false, .s 18), (false, .s 19)] [], []⟩ <|
  .op ⟨(some 17), none, .mv (.s 20), []⟩ <|
  .op ⟨(some 21), none, .ext 0 (.s 17), []⟩ <|
  .op ⟨(some 22), none, .ext 1 (.s 17), []⟩ <|
  .op ⟨(some 7), none, .asg (.s 21) true, []⟩ <|
  .op ⟨(some 8), none, .asg (.s 22) true, [4, 5, 15, 17, 18, 19, 20, 21, 22]⟩ <|
  .nil
def r121_5 : XL := .op ⟨(some 23), none, .mv (.s 8), []⟩ <|
  .op ⟨(some 24), none, .bin .lss (.s 23) (.c ⟨.one, [.int .i64 0]⟩), [23]⟩ <|
  .nil
def r121_6 : XL := .op ⟨(some 25), none, .mv (.s 6), []⟩ <|
  .op ⟨(some 4), none, .asg (.s 25) true, []⟩ <|
  .op ⟨(some 5), none, .asg (.c ⟨.one, [.int .i64 0]⟩) false, [0, 1, 6, 7, 8, 24, 25]⟩ <|
  .nil
def r121_7 : XL := .op ⟨(some 26), none, .bslice 1 [], []⟩ <|
  .op ⟨(some 9), none, .asg (.s 26) false, [4, 5, 24, 26]⟩ <|
  .nil
def r121_8 : XL := .op ⟨(some 10), none, .asg (.c ⟨.one, [.int .i64 0]⟩) false, []⟩ <|
  .nil
def r121_9 : XL := .op ⟨(some 11), none, .asg (.c ⟨.one, [.int .i64 0]⟩) false, []⟩ <|
  .nil
def r121_10 : XL := .op ⟨(some 27), none, .mv (.s 11), []⟩ <|
  .op ⟨(some 28), none, .mv (.s 1), []⟩ <|
  .op ⟨(some 29), none, .bin .lss (.s 27) (.s 28), [27, 28]⟩ <|
  .nil
def r121_12 : XL := .op ⟨(some 32), none, .mv (.s 10), []⟩ <|
  .op ⟨(some 33), none, .mv (.s 7), []⟩ <|
  .op ⟨(some 34), none, .mv (.s 11), []⟩ <|
  .op ⟨(some 35), none, .iad 1 (.s 33) (.s 34), []⟩ <|
  .op ⟨(some 36), none, .load false 1 (.s 35), []⟩ <|
  .op ⟨(some 37), none, .call 141 [(false, .s 36)] [], []⟩ <|
  .op ⟨(some 38), none, .bin .add (.s 32) (.s 37), []⟩ <|
  .op ⟨(some 10), none, .asg (.s 38) false, [29, 32, 33, 34, 35, 36, 37, 38]⟩ <|
  .nil
def r121_13 : XL := .op ⟨(some 39), none, .mv (.s 10), []⟩ <|
  .op ⟨(some 40), none, .call 36 [(false, .s 39), (false, .c ⟨.one, [.int .i64 (-1099511627776)]⟩), (false, .c ⟨.one, [.int .i64 1099511627776]⟩)] [], []⟩ <|
  .op ⟨(some 41), none, .un .not (.s 40), [39, 40]⟩ <|
  .nil
def r121_14 : XL := .op ⟨(some 42), none, .mv (.s 6), []⟩ <|
  .op ⟨(some 4), none, .asg (.s 42) true, []⟩ <|
  .op ⟨(some 5), none, .asg (.c ⟨.one, [.int .i64 0]⟩) false, [0, 1, 6, 7, 8, 9, 10, 11, 41, 42]⟩ <|
  .nil
def r121_15 : XL := .op ⟨(some 43), none, .mv (.s 9), []⟩ <|
  .op ⟨(some 44), none, .mv (.s 10), []⟩ <|
  .op ⟨(some 45), none, .bslice 1 [.s 44], []⟩ <|
  .op ⟨(some 46), none, .app 1 8 (.s 43) (.s 45) false, []⟩ <|
  .op ⟨(some 9), none, .asg (.s 46) false, [4, 5, 41, 43, 44, 45, 46]⟩ <|
  .nil
def r121_11 : XL := .op ⟨(some 30), none, .mv (.s 11), []⟩ <|
  .op ⟨(some 31), none, .bin .add (.s 30) (.c ⟨.one, [.int .i64 1]⟩), []⟩ <|
  .op ⟨(some 11), none, .asg (.s 31) false, [30, 31]⟩ <|
  .nil
def l121_0 : XCode := .keep [0, 1, 6, 7, 8, 9, 10, 11] [] (.seq (.seq (.ops r121_10) (.cond (.s 29) (.skip) (.exit 0))) (.seq (.block 1 (.seq (.ops r121_12) (.seq (.seq (.ops r121_13) (.cond (.s 41) (.seq (.ops r121_14) (.ret)) (.skip))) (.ops r121_15)))) (.ops r121_11)))
def r121_16v : List XD := [⟨⟨(some 47), none, .mv (.s 9), []⟩, [], []⟩,
  ⟨⟨(some 48), none, .call 143 [(false, .s 47)] [], []⟩, [0], []⟩,
  ⟨⟨(some 49), none, .mv (.s 0), []⟩, [], [47, 48]⟩,
  ⟨⟨(some 50), none, .mv (.s 8), []⟩, [], [47, 48, 49]⟩,
  ⟨⟨(some 51), none, .slcS (.s 49) none (some (.s 50)), []⟩, [2, 3], [47, 48]⟩]
def r121_16t : List XD := [⟨⟨(some 52), none, .bin .neq (.s 48) (.s 51), [0, 1, 7, 10, 11, 47, 48, 49, 50, 51]⟩, [0, 1, 2, 3, 4], []⟩]
def r121_17 : XL := .op ⟨(some 53), none, .mv (.s 6), []⟩ <|
  .op ⟨(some 4), none, .asg (.s 53) true, []⟩ <|
  .op ⟨(some 5), none, .asg (.c ⟨.one, [.int .i64 0]⟩) false, [6, 8, 9, 52, 53]⟩ <|
  .nil
def r121_18 : XL := .op ⟨(some 54), none, .mv (.s 9), []⟩ <|
  .op ⟨(some 55), none, .mv (.s 8), []⟩ <|
  .op ⟨(some 4), none, .asg (.s 54) true, []⟩ <|
  .op ⟨(some 5), none, .asg (.s 55) true, [6, 8, 9, 52, 54, 55]⟩ <|
  .nil
def x121 : XCode := .seq (.ops r121_0) (.seq (.ops r121_1) (.seq (.seq (.ops r121_2) (.cond (.s 15) (.seq (.ops r121_3) (.ret)) (.skip))) (.seq (.ops r121_4) (.seq (.seq (.ops r121_5) (.cond (.s 24) (.seq (.ops r121_6) (.ret)) (.skip))) (.seq (.ops r121_7) (.seq (.ops r121_8) (.seq (.seq (.ops r121_9) (.block 0 (.loop l121_0))) (.seq (.seq (.any r121_16v r121_16t) (.cond (.s 52) (.seq (.ops r121_17) (.ret)) (.skip))) (.seq (.ops r121_18) (.ret))))))))))
theorem m121 : mFun Try.prog Try.f121 x121 [.tmp 4, .tmp 5] 2 = true := by kernel_rfl
theorem k121 : Callable Try.prog 121 := callable_of (by kernel_rfl)

/-! loop.example/g00360/impl.ReadFixed -/
def r122_0 : XL := .op ⟨(some 4), none, .asg (.c ⟨.one, [.int .i64 0]⟩) false, []⟩ <|
  .op ⟨(some 5), none, .asg (.c ⟨.one, [.bool false]⟩) false, [4, 5]⟩ <|
  .nil
def r122_1 : XL := .op ⟨(some 8), none, .mv (.s 1), []⟩ <|
  .op ⟨(some 9), none, .call 32 [(false, .s 8), (false, .c ⟨.one, [.int .i64 1]⟩), (false, .c ⟨.one, [.int .i64 7]⟩)] [], []⟩ <|
  .op ⟨(some 10), none, .un .not (.s 9), []⟩ <|
  .op ⟨(some 11), none, .mv (.s 10), []⟩ <|
  .sc 11 false (.op ⟨(some 12), (some (11, false)), .mv (.s 0), []⟩ <|
  .op ⟨(some 13), (some (11, false)), .len true (.s 12), []⟩ <|
  .op ⟨(some 14), (some (11, false)), .mv (.s 1), []⟩ <|
  .op ⟨(some 15), (some (11, false)), .bin .lss (.s 13) (.s 14), []⟩ <|
  .nil) [12, 13, 14, 15] 16 none (.s 11) (.s 15) [8, 9, 10, 11] <|
  .nil
def r122_2 : XL := .op ⟨(some 4), none, .asg (.c ⟨.one, [.int .i64 0]⟩) false, []⟩ <|
  .op ⟨(some 5), none, .asg (.c ⟨.one, [.bool false]⟩) false, [0, 1, 16]⟩ <|
  .nil
def r122_3 : XL := .op ⟨(some 6), none, .asg (.c ⟨.one, [.int .i64 0]⟩) false, [4, 5, 16]⟩ <|
  .nil
def r122_4 : XL := .op ⟨(some 17), none, .mv (.s 1), []⟩ <|
  .op ⟨(some 18), none, .mv (.c ⟨.one, [.int .i64 0]⟩), [1]⟩ <|
  .nil
def r122_5 : XL := .op ⟨(some 19), none, .bin .lss (.s 18) (.s 17), []⟩ <|
  .nil
def r122_6 : XL := .op ⟨(some 20), none, .mv (.s 18), []⟩ <|
  .op ⟨(some 7), none, .asg (.s 20) false, [19, 20]⟩ <|
  .nil
def r122_7 : XL := .op ⟨(some 21), none, .mv (.s 6), []⟩ <|
  .op ⟨(some 22), none, .bin .shl (.s 21) (.c ⟨.one, [.int .u64 8]⟩), []⟩ <|
  .op ⟨(some 23), none, .mv (.s 0), []⟩ <|
  .op ⟨(some 24), none, .mv (.s 7), []⟩ <|
  .op ⟨(some 25), none, .idx (.s 23) (.s 24), []⟩ <|
  .op ⟨(some 26), none, .convI .i64 (.s 25), []⟩ <|
  .op ⟨(some 27), none, .bin .or (.s 22) (.s 26), []⟩ <|
  .op ⟨(some 6), none, .asg (.s 27) false, [7, 21, 22, 23, 24, 25, 26, 27]⟩ <|
  .nil
def r122_8 : XL := .op ⟨(some 28), none, .bin .add (.s 18) (.c ⟨.one, [.int .i64 1]⟩), []⟩ <|
  .op ⟨(some 18), none, .mv (.s 28), [28]⟩ <|
  .nil
def l122_0 : XCode := .keep [0, 6, 17, 18] [] (.seq (.ops r122_5) (.seq (.cond (.s 19) (.skip) (.exit 0)) (.seq (.block 1 (.seq (.ops r122_6) (.ops r122_7))) (.ops r122_8))))
def r122_9 : XL := .op ⟨(some 29), none, .mv (.s 6), []⟩ <|
  .op ⟨(some 4), none, .asg (.s 29) true, []⟩ <|
  .op ⟨(some 5), none, .asg (.c ⟨.one, [.bool true]⟩) false, [0, 6, 17, 18, 29]⟩ <|
  .nil
def x122 : XCode := .seq (.ops r122_0) (.seq (.seq (.ops r122_1) (.cond (.s 16) (.seq (.ops r122_2) (.ret)) (.skip))) (.seq (.ops r122_3) (.seq (.seq (.ops r122_4) (.block 0 (.loop l122_0))) (.seq (.ops r122_9) (.ret)))))
theorem m122 : mFun Try.prog Try.f122 x122 [.tmp 4, .tmp 5] 2 = true := by kernel_rfl
theorem k122 : Callable Try.prog 122 := callable_of (by kernel_rfl)

/-! loop.example/g00360/impl.Frame -/
def r123_0 : XL := .op ⟨(some 2), none, .asg (.c ⟨.one, [.str ⟨#[]⟩]⟩) false, [2]⟩ <|
  .nil
def r123_1 : XL := .op ⟨(some 4), none, .mv (.s 0), []⟩ <|
  .op ⟨(some 5), none, .len true (.s 4), []⟩ <|
  .op ⟨(some 6), none, .call 32 [(false, .s 5), (false, .c ⟨.one, [.int .i64 1]⟩), (false, .c ⟨.one, [.int .i64 2000]⟩)] [], []⟩ <|
  .op ⟨(some 7), none, .un .not (.s 6), [4, 5, 6]⟩ <|
  .nil
def r123_2 : XL := .op ⟨(some 2), none, .asg (.c ⟨.one, [.str ⟨#[]⟩]⟩) false, [0, 7]⟩ <|
  .nil
def r123_3 : XL := .op ⟨(some 8), none, .mv (.s 0), []⟩ <|
  .op ⟨(some 9), none, .len true (.s 8), []⟩ <|
  .op ⟨(some 10), none, .call 59 [(false, .s 9), (false, .c ⟨.one, [.int .i64 4]⟩)] [], []⟩ <|
  .op ⟨(some 3), none, .asg (.s 10) false, [2, 7, 8, 9, 10]⟩ <|
  .nil
def r123_4 : XL := .op ⟨(some 11), none, .mv (.s 3), []⟩ <|
  .op ⟨(some 12), none, .mv (.s 3), []⟩ <|
  .op ⟨(some 13), none, .mv (.s 0), []⟩ <|
  .op ⟨(some 14), none, .bin .add (.s 12) (.s 13), []⟩ <|
  .op ⟨(some 15), none, .call 60 [(false, .s 14)] [], []⟩ <|
  .op ⟨(some 16), none, .call 59 [(false, .s 15), (false, .c ⟨.one, [.int .i64 4]⟩)] [], []⟩ <|
  .op ⟨(some 17), none, .bin .add (.s 11) (.s 16), []⟩ <|
  .op ⟨(some 18), none, .mv (.s 0), []⟩ <|
  .op ⟨(some 19), none, .bin .add (.s 17) (.s 18), []⟩ <|
  .op ⟨(some 2), none, .asg (.s 19) false, [0, 3, 11, 12, 13, 14, 15, 16, 17, 18, 19]⟩ <|
  .nil
def x123 : XCode := .seq (.ops r123_0) (.seq (.seq (.ops r123_1) (.cond (.s 7) (.seq (.ops r123_2) (.ret)) (.skip))) (.seq (.ops r123_3) (.seq (.ops r123_4) (.ret))))
theorem m123 : mFun Try.prog Try.f123 x123 [.tmp 2] 1 = true := by kernel_rfl
theorem k123 : Callable Try.prog 123 := callable_of (by kernel_rfl)

/-! (*loop.example/g00360/impl.reader).zag -/
def r124_0 : XL := .op ⟨(some 2), none, .asg (.c ⟨.one, [.int .i64 0]⟩) false, [2]⟩ <|
  .nil
def r124_1 : XL := .op ⟨(some 6), none, .mv (.s 0), []⟩ <|
  .op ⟨(some 7), none, .call 81 [(false, .s 6)] [1000000], []⟩ <|
  .op ⟨(some 3), none, .asg (.s 7) false, [6, 7]⟩ <|
  .nil
def r124_2 : XL := .op ⟨(some 9), none, .mv (.s 3), []⟩ <|
  .op ⟨(some 10), none, .call 144 [(false, .s 9)] [], []⟩ <|
  .op ⟨(some 8), none, .mv (.s 10), []⟩ <|
  .op ⟨(some 11), none, .ext 0 (.s 8), []⟩ <|
  .op ⟨(some 12), none, .ext 1 (.s 8), []⟩ <|
  .op ⟨(some 4), none, .asg (.s 11) true, []⟩ <|
  .op ⟨(some 5), none, .asg (.s 12) true, [3, 8, 9, 10, 11, 12]⟩ <|
  .nil
def r124_3 : XL := .op ⟨(some 13), none, .mv (.s 0), []⟩ <|
  .op ⟨(some 14), none, .mv (.s 0), []⟩ <|
  .op ⟨(some 15), none, .nilc (.s 14), []⟩ <|
  .op ⟨(some 16), none, .fad 1 (.s 15), []⟩ <|
  .op ⟨(some 17), none, .load false 1 (.s 16), []⟩ <|
  .op ⟨(some 18), none, .mv (.s 17), []⟩ <|
  .sc 18 true (.op ⟨(some 19), (some (18, true)), .mv (.s 5), []⟩ <|
  .nil) [19] 20 none (.s 18) (.s 19) [] <|
  .op ⟨(some 21), none, .nilc (.s 13), []⟩ <|
  .op ⟨(some 22), none, .fad 1 (.s 21), []⟩ <|
  .op ⟨none, none, .store 1 (.s 22) (.s 20) false, [0, 5, 13, 14, 15, 16, 17, 18, 20, 21, 22]⟩ <|
  .nil
def r124_4 : XL := .op ⟨(some 23), none, .mv (.s 4), []⟩ <|
  .op ⟨(some 2), none, .asg (.s 23) true, [4, 23]⟩ <|
  .nil
def x124 : XCode := .seq (.ops r124_0) (.seq (.ops r124_1) (.seq (.ops r124_2) (.seq (.ops r124_3) (.seq (.ops r124_4) (.ret)))))
theorem m124 : mFun Try.prog Try.f124 x124 [.tmp 2] 1 = true := by kernel_rfl
theorem k124 : Callable Try.prog 124 := callable_of (by kernel_rfl)

/-! loop.example/g00360/impl.began -/
def r125_0 : XL := .op ⟨(some 4), none, .asg (.c ⟨.one, [.int .i64 0]⟩) false, []⟩ <|
  .op ⟨(some 5), none, .asg (.c ⟨.one, [.bool false]⟩) false, [4, 5]⟩ <|
  .nil
def r125_1 : XL := .op ⟨(some 6), none, .mv (.s 1), []⟩ <|
  .op ⟨(some 7), none, .len true (.s 6), []⟩ <|
  .op ⟨(some 8), none, .mv (.s 1), []⟩ <|
  .op ⟨(some 9), none, .bin .neq (.s 8) (.c ⟨.one, [.str ⟨#[]⟩]⟩), []⟩ <|
  .op ⟨(some 10), none, .mv (.s 9), []⟩ <|
  .sc 10 true (.op ⟨(some 11), (some (10, true)), .mv (.s 0), []⟩ <|
  .op ⟨(some 12), (some (10, true)), .mv (.s 1), []⟩ <|
  .op ⟨(some 13), (some (10, true)), .call 145 [(false, .s 11), (false, .s 12)] [], []⟩ <|
  .nil) [11, 12, 13] 14 none (.s 10) (.s 13) [] <|
  .op ⟨(some 4), none, .asg (.s 7) false, []⟩ <|
  .op ⟨(some 5), none, .asg (.s 14) false, [0, 1, 6, 7, 8, 9, 10, 14]⟩ <|
  .nil
def x125 : XCode := .seq (.ops r125_0) (.seq (.ops r125_1) (.ret))
theorem m125 : mFun Try.prog Try.f125 x125 [.tmp 4, .tmp 5] 2 = true := by kernel_rfl
theorem k125 : Callable Try.prog 125 := callable_of (by kernel_rfl)

/-! loop.example/g00360/impl.ShowTimes -/
def r126_0 : XL := .op ⟨(some 2), none, .asg (.c ⟨.one, [.str ⟨#[]⟩]⟩) false, [2]⟩ <|
  .nil
def r126_1 : XL := .op ⟨(some 3), none, .asg (.c ⟨.one, [.str ⟨#[]⟩]⟩) false, []⟩ <|
  .nil
def r126_2 : XL := .op ⟨(some 6), none, .mv (.s 0), []⟩ <|
  .op ⟨(some 7), none, .len false (.s 6), []⟩ <|
  .op ⟨(some 8), none, .mv (.c ⟨.one, [.int .i64 0]⟩), []⟩ <|
  .nil
def r126_3 : XL := .op ⟨(some 9), none, .bin .lss (.s 8) (.s 7), []⟩ <|
  .nil
def r126_4 : XL := .op ⟨(some 10), none, .mv (.s 8), []⟩ <|
  .op ⟨(some 11), none, .iad 1 (.s 6) (.s 8), []⟩ <|
  .op ⟨(some 12), none, .load false 1 (.s 11), []⟩ <|
  .op ⟨(some 4), none, .asg (.s 10) false, []⟩ <|
  .op ⟨(some 5), none, .asg (.s 12) false, [9, 10, 11, 12]⟩ <|
  .nil
def r126_5 : XL := .op ⟨(some 13), none, .mv (.s 5), []⟩ <|
  .op ⟨(some 14), none, .call 32 [(false, .s 13), (false, .c ⟨.one, [.int .i64 0]⟩), (false, .c ⟨.one, [.int .i64 1099511627776]⟩)] [], []⟩ <|
  .op ⟨(some 15), none, .un .not (.s 14), []⟩ <|
  .op ⟨(some 16), none, .mv (.s 15), []⟩ <|
  .sc 16 false (.op ⟨(some 17), (some (16, false)), .mv (.s 4), []⟩ <|
  .op ⟨(some 18), (some (16, false)), .bin .gtr (.s 17) (.c ⟨.one, [.int .i64 0]⟩), []⟩ <|
  .op ⟨(some 19), (some (16, false)), .mv (.s 18), []⟩ <|
  .sc 19 true (.op ⟨(some 20), (some (19, true)), .mv (.s 0), []⟩ <|
  .op ⟨(some 21), (some (19, true)), .mv (.s 4), []⟩ <|
  .op ⟨(some 22), (some (19, true)), .bin .sub (.s 21) (.c ⟨.one, [.int .i64 1]⟩), []⟩ <|
  .op ⟨(some 23), (some (19, true)), .iad 1 (.s 20) (.s 22), []⟩ <|
  .op ⟨(some 24), (some (19, true)), .load false 1 (.s 23), []⟩ <|
  .op ⟨(some 25), (some (19, true)), .mv (.s 5), []⟩ <|
  .op ⟨(some 26), (some (19, true)), .bin .geq (.s 24) (.s 25), []⟩ <|
  .nil) [20, 21, 22, 23, 24, 25, 26] 27 (some (16, false)) (.s 19) (.s 26) [] <|
  .nil) [17, 18, 19, 20, 21, 22, 23, 24, 25, 26, 27] 28 none (.s 16) (.s 27) [13, 14, 15, 16] <|
  .nil
def r126_6 : XL := .op ⟨(some 2), none, .asg (.c ⟨.one, [.str ⟨#[]⟩]⟩) false, [0, 3, 4, 5, 6, 7, 8, 28]⟩ <|
  .nil
def r126_7 : XL := .op ⟨(some 29), none, .mv (.s 4), [2, 28]⟩ <|
  .nil
def r126_9 : XL := .op ⟨(some 53), none, .bin .eql (.s 29) (.c ⟨.one, [.int .i64 0]⟩), []⟩ <|
  .op ⟨(some 52), none, .asg (.s 53) false, [53]⟩ <|
  .nil
def r126_10 : XL := .op ⟨(some 54), none, .mv (.s 3), []⟩ <|
  .op ⟨(some 55), none, .mv (.s 5), []⟩ <|
  .op ⟨(some 56), none, .call 57 [(false, .s 55)] [], []⟩ <|
  .op ⟨(some 57), none, .bin .add (.s 54) (.s 56), []⟩ <|
  .op ⟨(some 3), none, .asg (.s 57) false, [4, 5, 29, 52, 54, 55, 56, 57]⟩ <|
  .nil
def r126_11 : XL := .op ⟨(some 59), none, .bin .eql (.s 29) (.c ⟨.one, [.int .i64 1]⟩), []⟩ <|
  .op ⟨(some 58), none, .asg (.s 59) false, [29, 52, 59]⟩ <|
  .nil
def r126_12 : XL := .op ⟨(some 60), none, .mv (.s 3), []⟩ <|
  .op ⟨(some 61), none, .mv (.s 5), []⟩ <|
  .op ⟨(some 62), none, .mv (.s 0), []⟩ <|
  .op ⟨(some 63), none, .iad 1 (.s 62) (.c ⟨.one, [.int .i64 0]⟩), []⟩ <|
  .op ⟨(some 64), none, .load false 1 (.s 63), []⟩ <|
  .op ⟨(some 65), none, .bin .sub (.s 61) (.s 64), []⟩ <|
  .op ⟨(some 66), none, .call 57 [(false, .s 65)] [], []⟩ <|
  .op ⟨(some 67), none, .bin .add (.s 60) (.s 66), []⟩ <|
  .op ⟨(some 3), none, .asg (.s 67) false, [4, 5, 58, 60, 61, 62, 63, 64, 65, 66, 67]⟩ <|
  .nil
def r126_8v : List XD := [⟨⟨(some 30), none, .mv (.s 3), []⟩, [], []⟩,
  ⟨⟨(some 31), none, .mv (.s 5), []⟩, [], [30]⟩,
  ⟨⟨(some 32), none, .mv (.s 0), []⟩, [], [30, 31]⟩,
  ⟨⟨(some 33), none, .mv (.s 4), []⟩, [], [30, 31, 32]⟩,
  ⟨⟨(some 34), none, .bin .sub (.s 33) (.c ⟨.one, [.int .i64 1]⟩), []⟩, [3], [30, 31, 32]⟩,
  ⟨⟨(some 35), none, .iad 1 (.s 32) (.s 34), []⟩, [2, 3, 4], [30, 31]⟩,
  ⟨⟨(some 36), none, .load false 1 (.s 35), []⟩, [2, 3, 4, 5], [30, 31]⟩,
  ⟨⟨(some 37), none, .bin .sub (.s 31) (.s 36), []⟩, [1, 2, 3, 4, 5, 6], [30]⟩,
  ⟨⟨(some 38), none, .mv (.s 0), []⟩, [], [30, 31, 32, 33, 34, 35, 36, 37]⟩,
  ⟨⟨(some 39), none, .mv (.s 4), []⟩, [], [30, 31, 32, 33, 34, 35, 36, 37, 38]⟩,
  ⟨⟨(some 40), none, .bin .sub (.s 39) (.c ⟨.one, [.int .i64 1]⟩), []⟩, [9], [30, 31, 32, 33, 34, 35, 36, 37, 38]⟩,
  ⟨⟨(some 41), none, .iad 1 (.s 38) (.s 40), []⟩, [8, 9, 10], [30, 31, 32, 33, 34, 35, 36, 37]⟩,
  ⟨⟨(some 42), none, .load false 1 (.s 41), []⟩, [8, 9, 10, 11], [30, 31, 32, 33, 34, 35, 36, 37]⟩,
  ⟨⟨(some 43), none, .mv (.s 0), []⟩, [], [30, 31, 32, 33, 34, 35, 36, 37, 38, 39, 40, 41, 42]⟩,
  ⟨⟨(some 44), none, .mv (.s 4), []⟩, [], [30, 31, 32, 33, 34, 35, 36, 37, 38, 39, 40, 41, 42, 43]⟩,
  ⟨⟨(some 45), none, .bin .sub (.s 44) (.c ⟨.one, [.int .i64 2]⟩), []⟩, [14], [30, 31, 32, 33, 34, 35, 36, 37, 38, 39, 40, 41, 42, 43]⟩,
  ⟨⟨(some 46), none, .iad 1 (.s 43) (.s 45), []⟩, [13, 14, 15], [30, 31, 32, 33, 34, 35, 36, 37, 38, 39, 40, 41, 42]⟩,
  ⟨⟨(some 47), none, .load false 1 (.s 46), []⟩, [13, 14, 15, 16], [30, 31, 32, 33, 34, 35, 36, 37, 38, 39, 40, 41, 42]⟩,
  ⟨⟨(some 48), none, .bin .sub (.s 42) (.s 47), []⟩, [8, 9, 10, 11, 12, 13, 14, 15, 16, 17], [30, 31, 32, 33, 34, 35, 36, 37]⟩,
  ⟨⟨(some 49), none, .bin .sub (.s 37) (.s 48), []⟩, [1, 2, 3, 4, 5, 6, 7, 8, 9, 10, 11, 12, 13, 14, 15, 16, 17, 18], [30]⟩,
  ⟨⟨(some 50), none, .call 146 [(false, .s 49)] [], []⟩, [1, 2, 3, 4, 5, 6, 7, 8, 9, 10, 11, 12, 13, 14, 15, 16, 17, 18, 19], [30]⟩]
def r126_8t : List XD := [⟨⟨(some 51), none, .bin .add (.s 30) (.s 50), []⟩, [0, 1, 2, 3, 4, 5, 6, 7, 8, 9, 10, 11, 12, 13, 14, 15, 16, 17, 18, 19, 20], []⟩,
  ⟨⟨(some 3), none, .asg (.s 51) false, [4, 5, 30, 31, 32, 33, 34, 35, 36, 37, 38, 39, 40, 41, 42, 43, 44, 45, 46, 47, 48, 49, 50, 51, 58]⟩, [0, 1, 2, 3, 4, 5, 6, 7, 8, 9, 10, 11, 12, 13, 14, 15, 16, 17, 18, 19, 20, 21], []⟩]
def r126_13 : XL := .op ⟨(some 68), none, .bin .add (.s 8) (.c ⟨.one, [.int .i64 1]⟩), []⟩ <|
  .op ⟨(some 8), none, .mv (.s 68), [68]⟩ <|
  .nil
def l126_0 : XCode := .keep [0, 3, 6, 7, 8] [] (.seq (.ops r126_3) (.seq (.cond (.s 9) (.skip) (.exit 0)) (.seq (.block 1 (.seq (.ops r126_4) (.seq (.seq (.ops r126_5) (.cond (.s 28) (.seq (.ops r126_6) (.ret)) (.skip))) (.seq (.ops r126_7) (.block 2 (.seq (.ops r126_9) (.cond (.s 52) (.ops r126_10) (.seq (.ops r126_11) (.cond (.s 58) (.ops r126_12) (.any r126_8v r126_8t)))))))))) (.ops r126_13))))
def r126_14 : XL := .op ⟨(some 69), none, .mv (.s 0), []⟩ <|
  .op ⟨(some 70), none, .len false (.s 69), []⟩ <|
  .op ⟨(some 71), none, .call 32 [(false, .s 70), (false, .c ⟨.one, [.int .i64 1]⟩), (false, .c ⟨.one, [.int .i64 60]⟩)] [], []⟩ <|
  .op ⟨(some 72), none, .un .not (.s 71), [0, 6, 7, 8, 69, 70, 71]⟩ <|
  .nil
def r126_15 : XL := .op ⟨(some 2), none, .asg (.c ⟨.one, [.str ⟨#[]⟩]⟩) false, [3, 72]⟩ <|
  .nil
def r126_16 : XL := .op ⟨(some 73), none, .mv (.s 3), []⟩ <|
  .op ⟨(some 2), none, .asg (.s 73) true, [3, 72, 73]⟩ <|
  .nil
def x126 : XCode := .seq (.ops r126_0) (.seq (.ops r126_1) (.seq (.seq (.ops r126_2) (.block 0 (.loop l126_0))) (.seq (.seq (.ops r126_14) (.cond (.s 72) (.seq (.ops r126_15) (.ret)) (.skip))) (.seq (.ops r126_16) (.ret)))))
theorem m126 : mFun Try.prog Try.f126 x126 [.tmp 2] 1 = true := by kernel_rfl
theorem k126 : Callable Try.prog 126 := callable_of (by kernel_rfl)

/-! loop.example/g00360/impl.ShowValues -/
def r127_0 : XL := .op ⟨(some 2), none, .asg (.c ⟨.one, [.str ⟨#[]⟩]⟩) false, [2]⟩ <|
  .nil
def r127_1 : XL := .op ⟨(some 3), none, .asg (.c ⟨.one, [.str ⟨#[]⟩]⟩) false, []⟩ <|
  .nil
def r127_2 : XL := .op ⟨(some 4), none, .asg (.c ⟨.one, [.int .i64 0]⟩) false, []⟩ <|
  .nil
def r127_3 : XL := .op ⟨(some 7), none, .mv (.s 0), []⟩ <|
  .op ⟨(some 8), none, .len false (.s 7), []⟩ <|
  .op ⟨(some 9), none, .mv (.c ⟨.one, [.int .i64 0]⟩), []⟩ <|
  .nil
def r127_4 : XL := .op ⟨(some 10), none, .bin .lss (.s 9) (.s 8), []⟩ <|
  .nil
def r127_5 : XL := .op ⟨(some 11), none, .iad 1 (.s 7) (.s 9), []⟩ <|
  .op ⟨(some 12), none, .load false 1 (.s 11), []⟩ <|
  .op ⟨(some 6), none, .asg (.s 12) false, [10, 11, 12]⟩ <|
  .nil
def r127_6 : XL := .op ⟨(some 13), none, .mv (.s 6), []⟩ <|
  .op ⟨(some 14), none, .call 32 [(false, .s 13), (false, .c ⟨.one, [.int .i64 (-1099511627776)]⟩), (false, .c ⟨.one, [.int .i64 1099511627776]⟩)] [], []⟩ <|
  .op ⟨(some 15), none, .un .not (.s 14), [13, 14]⟩ <|
  .nil
def r127_7 : XL := .op ⟨(some 2), none, .asg (.c ⟨.one, [.str ⟨#[]⟩]⟩) false, [0, 3, 4, 6, 7, 8, 9, 15]⟩ <|
  .nil
def r127_8 : XL := .op ⟨(some 16), none, .mv (.s 3), []⟩ <|
  .op ⟨(some 17), none, .mv (.s 6), []⟩ <|
  .op ⟨(some 18), none, .mv (.s 4), []⟩ <|
  .op ⟨(some 19), none, .bin .sub (.s 17) (.s 18), []⟩ <|
  .op ⟨(some 20), none, .call 146 [(false, .s 19)] [], []⟩ <|
  .op ⟨(some 21), none, .bin .add (.s 16) (.s 20), []⟩ <|
  .op ⟨(some 3), none, .asg (.s 21) false, [2, 4, 15, 16, 17, 18, 19, 20, 21]⟩ <|
  .nil
def r127_9 : XL := .op ⟨(some 22), none, .mv (.s 6), []⟩ <|
  .op ⟨(some 4), none, .asg (.s 22) true, [6, 22]⟩ <|
  .nil
def r127_10 : XL := .op ⟨(some 23), none, .bin .add (.s 9) (.c ⟨.one, [.int .i64 1]⟩), []⟩ <|
  .op ⟨(some 9), none, .mv (.s 23), [23]⟩ <|
  .nil
def l127_0 : XCode := .keep [0, 3, 4, 7, 8, 9] [] (.seq (.ops r127_4) (.seq (.cond (.s 10) (.skip) (.exit 0)) (.seq (.block 1 (.seq (.ops r127_5) (.seq (.seq (.ops r127_6) (.cond (.s 15) (.seq (.ops r127_7) (.ret)) (.skip))) (.seq (.ops r127_8) (.ops r127_9))))) (.ops r127_10))))
def r127_11 : XL := .op ⟨(some 24), none, .mv (.s 0), []⟩ <|
  .op ⟨(some 25), none, .len false (.s 24), []⟩ <|
  .op ⟨(some 26), none, .call 32 [(false, .s 25), (false, .c ⟨.one, [.int .i64 1]⟩), (false, .c ⟨.one, [.int .i64 60]⟩)] [], []⟩ <|
  .op ⟨(some 27), none, .un .not (.s 26), [0, 4, 7, 8, 9, 24, 25, 26]⟩ <|
  .nil
def r127_12 : XL := .op ⟨(some 2), none, .asg (.c ⟨.one, [.str ⟨#[]⟩]⟩) false, [3, 27]⟩ <|
  .nil
def r127_13 : XL := .op ⟨(some 28), none, .mv (.s 3), []⟩ <|
  .op ⟨(some 2), none, .asg (.s 28) true, [3, 27, 28]⟩ <|
  .nil
def x127 : XCode := .seq (.ops r127_0) (.seq (.ops r127_1) (.seq (.ops r127_2) (.seq (.seq (.ops r127_3) (.block 0 (.loop l127_0))) (.seq (.seq (.ops r127_11) (.cond (.s 27) (.seq (.ops r127_12) (.ret)) (.skip))) (.seq (.ops r127_13) (.ret))))))
theorem m127 : mFun Try.prog Try.f127 x127 [.tmp 2] 1 = true := by kernel_rfl
theorem k127 : Callable Try.prog 127 := callable_of (by kernel_rfl)

/-! loop.example/g00360/impl.PointsOk -/
def r128_0 : XL := .op ⟨(some 2), none, .asg (.c ⟨.one, [.bool false]⟩) false, [2]⟩ <|
  .nil
def r128_1 : XL := .op ⟨(some 5), none, .mv (.s 0), []⟩ <|
  .op ⟨(some 6), none, .len false (.s 5), []⟩ <|
  .op ⟨(some 7), none, .mv (.c ⟨.one, [.int .i64 0]⟩), []⟩ <|
  .nil
def r128_2 : XL := .op ⟨(some 8), none, .bin .lss (.s 7) (.s 6), []⟩ <|
  .nil
def r128_3 : XL := .op ⟨(some 9), none, .mv (.s 7), []⟩ <|
  .op ⟨(some 10), none, .iad 2 (.s 5) (.s 7), []⟩ <|
  .op ⟨(some 11), none, .load true 2 (.s 10), []⟩ <|
  .op ⟨(some 4), none, .alloc [.int .i64 0, .int .i64 0], []⟩ <|
  .op ⟨(some 3), none, .asg (.s 9) false, []⟩ <|
  .op ⟨none, none, .store 2 (.s 4) (.s 11) false, [8, 9, 10, 11]⟩ <|
  .nil
def r128_4v : List XD := [⟨⟨(some 12), none, .fad 0 (.s 4), []⟩, [], []⟩,
  ⟨⟨(some 13), none, .load false 1 (.s 12), []⟩, [0], []⟩,
  ⟨⟨(some 14), none, .call 32 [(false, .s 13), (false, .c ⟨.one, [.int .i64 0]⟩), (false, .c ⟨.one, [.int .i64 1099511627776]⟩)] [], []⟩, [0, 1], []⟩,
  ⟨⟨(some 15), none, .un .not (.s 14), []⟩, [0, 1, 2], []⟩,
  ⟨⟨(some 16), none, .mv (.s 15), []⟩, [0, 1, 2, 3], []⟩,
  ⟨⟨(some 17), (some (16, false)), .fad 1 (.s 4), []⟩, [0, 1, 2, 3, 4], []⟩,
  ⟨⟨(some 18), (some (16, false)), .load false 1 (.s 17), []⟩, [0, 1, 2, 3, 4, 5], []⟩,
  ⟨⟨(some 19), (some (16, false)), .call 32 [(false, .s 18), (false, .c ⟨.one, [.int .i64 (-1099511627776)]⟩), (false, .c ⟨.one, [.int .i64 1099511627776]⟩)] [], []⟩, [0, 1, 2, 3, 4, 5, 6], []⟩,
  ⟨⟨(some 20), (some (16, false)), .un .not (.s 19), []⟩, [0, 1, 2, 3, 4, 5, 6, 7], []⟩,
  ⟨⟨(some 21), none, .pick (.s 16) (.c ⟨.one, [.bool true]⟩) (.s 20), []⟩, [0, 1, 2, 3, 4, 5, 6, 7, 8], []⟩,
  ⟨⟨(some 22), none, .mv (.s 21), []⟩, [0, 1, 2, 3, 4, 5, 6, 7, 8, 9], []⟩,
  ⟨⟨(some 23), (some (22, false)), .mv (.s 3), []⟩, [0, 1, 2, 3, 4, 5, 6, 7, 8, 9, 10], []⟩,
  ⟨⟨(some 24), (some (22, false)), .bin .gtr (.s 23) (.c ⟨.one, [.int .i64 0]⟩), []⟩, [0, 1, 2, 3, 4, 5, 6, 7, 8, 9, 10, 11], []⟩,
  ⟨⟨(some 25), (some (22, false)), .mv (.s 24), []⟩, [0, 1, 2, 3, 4, 5, 6, 7, 8, 9, 10, 11, 12], []⟩,
  ⟨⟨(some 26), (some (25, true)), .mv (.s 0), []⟩, [0, 1, 2, 3, 4, 5, 6, 7, 8, 9, 10, 11, 12, 13], []⟩,
  ⟨⟨(some 27), (some (25, true)), .mv (.s 3), []⟩, [0, 1, 2, 3, 4, 5, 6, 7, 8, 9, 10, 11, 12, 13], [26]⟩,
  ⟨⟨(some 28), (some (25, true)), .bin .sub (.s 27) (.c ⟨.one, [.int .i64 1]⟩), []⟩, [0, 1, 2, 3, 4, 5, 6, 7, 8, 9, 10, 11, 12, 13, 15], [26]⟩,
  ⟨⟨(some 29), (some (25, true)), .iad 2 (.s 26) (.s 28), []⟩, [0, 1, 2, 3, 4, 5, 6, 7, 8, 9, 10, 11, 12, 13, 14, 15, 16], []⟩,
  ⟨⟨(some 30), (some (25, true)), .fad 0 (.s 29), []⟩, [0, 1, 2, 3, 4, 5, 6, 7, 8, 9, 10, 11, 12, 13, 14, 15, 16, 17], []⟩,
  ⟨⟨(some 31), (some (25, true)), .load false 1 (.s 30), []⟩, [0, 1, 2, 3, 4, 5, 6, 7, 8, 9, 10, 11, 12, 13, 14, 15, 16, 17, 18], []⟩,
  ⟨⟨(some 32), (some (25, true)), .fad 0 (.s 4), []⟩, [0, 1, 2, 3, 4, 5, 6, 7, 8, 9, 10, 11, 12, 13], [26, 27, 28, 29, 30, 31]⟩,
  ⟨⟨(some 33), (some (25, true)), .load false 1 (.s 32), []⟩, [0, 1, 2, 3, 4, 5, 6, 7, 8, 9, 10, 11, 12, 13, 20], [26, 27, 28, 29, 30, 31]⟩,
  ⟨⟨(some 34), (some (25, true)), .bin .geq (.s 31) (.s 33), []⟩, [0, 1, 2, 3, 4, 5, 6, 7, 8, 9, 10, 11, 12, 13, 14, 15, 16, 17, 18, 19, 20, 21], []⟩,
  ⟨⟨(some 35), (some (22, false)), .pick (.s 25) (.s 34) (.c ⟨.one, [.bool false]⟩), []⟩, [0, 1, 2, 3, 4, 5, 6, 7, 8, 9, 10, 11, 12, 13, 14, 15, 16, 17, 18, 19, 20, 21, 22], []⟩]
def r128_4t : List XD := [⟨⟨(some 36), none, .pick (.s 22) (.c ⟨.one, [.bool true]⟩) (.s 35), [3, 12, 13, 14, 15, 16, 21, 22]⟩, [0, 1, 2, 3, 4, 5, 6, 7, 8, 9, 10, 11, 12, 13, 14, 15, 16, 17, 18, 19, 20, 21, 22, 23], []⟩]
def r128_5 : XL := .op ⟨(some 2), none, .asg (.c ⟨.one, [.bool false]⟩) false, [0, 4, 5, 6, 7, 17, 18, 19, 20, 23, 24, 25, 26, 27, 28, 29, 30, 31, 32, 33, 34, 35, 36]⟩ <|
  .nil
def r128_6 : XL := .op ⟨(some 37), none, .bin .add (.s 7) (.c ⟨.one, [.int .i64 1]⟩), []⟩ <|
  .op ⟨(some 7), none, .mv (.s 37), [2, 36, 37]⟩ <|
  .nil
def l128_0 : XCode := .keep [0, 5, 6, 7] [] (.seq (.ops r128_2) (.seq (.cond (.s 8) (.skip) (.exit 0)) (.seq (.block 1 (.seq (.ops r128_3) (.seq (.any r128_4v r128_4t) (.cond (.s 36) (.seq (.ops r128_5) (.ret)) (.skip))))) (.ops r128_6))))
def r128_7 : XL := .op ⟨(some 38), none, .mv (.s 0), []⟩ <|
  .op ⟨(some 39), none, .len false (.s 38), []⟩ <|
  .op ⟨(some 40), none, .bin .leq (.s 39) (.c ⟨.one, [.int .i64 60]⟩), []⟩ <|
  .op ⟨(some 2), none, .asg (.s 40) false, [0, 4, 5, 6, 7, 17, 18, 19, 20, 23, 24, 25, 26, 27, 28, 29, 30, 31, 32, 33, 34, 35, 38, 39, 40]⟩ <|
  .nil
def x128 : XCode := .seq (.ops r128_0) (.seq (.seq (.ops r128_1) (.block 0 (.loop l128_0))) (.seq (.ops r128_7) (.ret)))
theorem m128 : mFun Try.prog Try.f128 x128 [.tmp 2] 1 = true := by kernel_rfl
theorem k128 : Callable Try.prog 128 := callable_of (by kernel_rfl)

/-! (*loop.example/g00360/impl.reader).kind -/
def r129_0 : XL := .op ⟨(some 2), none, .asg (.c ⟨.one, [.int .i64 0]⟩) false, [2]⟩ <|
  .nil
def r129_1 : XL := .op ⟨(some 4), none, .mv (.s 0), []⟩ <|
  .op ⟨(some 5), none, .call 117 [(false, .s 4), (false, .c ⟨.one, [.int .i64 1]⟩)] [1000000], []⟩ <|
  .op ⟨(some 3), none, .asg (.s 5) false, [0, 4, 5]⟩ <|
  .nil
def r129_2 : XL := .op ⟨(some 6), none, .mv (.s 3), []⟩ <|
  .op ⟨(some 7), none, .bin .eql (.s 6) (.c ⟨.one, [.str ⟨#[]⟩]⟩), [6]⟩ <|
  .nil
def r129_3 : XL := .op ⟨(some 2), none, .asg (.c ⟨.one, [.int .i64 0]⟩) false, [3, 7]⟩ <|
  .nil
def r129_4 : XL := .op ⟨(some 8), none, .mv (.s 3), []⟩ <|
  .op ⟨(some 9), none, .idx (.s 8) (.c ⟨.one, [.int .i64 0]⟩), []⟩ <|
  .op ⟨(some 10), none, .convI .i64 (.s 9), []⟩ <|
  .op ⟨(some 2), none, .asg (.s 10) false, [3, 7, 8, 9, 10]⟩ <|
  .nil
def x129 : XCode := .seq (.ops r129_0) (.seq (.ops r129_1) (.seq (.seq (.ops r129_2) (.cond (.s 7) (.seq (.ops r129_3) (.ret)) (.skip))) (.seq (.ops r129_4) (.ret))))
theorem m129 : mFun Try.prog Try.f129 x129 [.tmp 2] 1 = true := by kernel_rfl
theorem k129 : Callable Try.prog 129 := callable_of (by kernel_rfl)

/-! loop.example/g00360/impl.spanOk -/
def r135_0 : XL := .op ⟨(some 1), none, .box (.s 0) false, []⟩ <|
  .op ⟨(some 2), none, .asg (.c ⟨.one, [.bool false]⟩) false, [0, 2]⟩ <|
  .nil
def r135_1 : XL := .op ⟨(some 3), none, .fad 2 (.s 1), []⟩ <|
  .op ⟨(some 4), none, .load false 1 (.s 3), []⟩ <|
  .op ⟨(some 5), none, .bin .geq (.s 4) (.c ⟨.one, [.int .i64 0]⟩), []⟩ <|
  .op ⟨(some 6), none, .mv (.s 5), []⟩ <|
  .sc 6 true (.op ⟨(some 7), (some (6, true)), .fad 2 (.s 1), []⟩ <|
  .op ⟨(some 8), (some (6, true)), .load false 1 (.s 7), []⟩ <|
  .op ⟨(some 9), (some (6, true)), .fad 3 (.s 1), []⟩ <|
  .op ⟨(some 10), (some (6, true)), .load false 1 (.s 9), []⟩ <|
  .op ⟨(some 11), (some (6, true)), .bin .lss (.s 8) (.s 10), []⟩ <|
  .nil) [7, 8, 9, 10, 11] 12 none (.s 6) (.s 11) [] <|
  .op ⟨(some 13), none, .mv (.s 12), []⟩ <|
  .sc 13 true (.op ⟨(some 14), (some (13, true)), .fad 3 (.s 1), []⟩ <|
  .op ⟨(some 15), (some (13, true)), .load false 1 (.s 14), []⟩ <|
  .op ⟨(some 16), (some (13, true)), .bin .leq (.s 15) (.c ⟨.one, [.int .i64 1099511627776]⟩), []⟩ <|
  .nil) [14, 15, 16] 17 none (.s 13) (.s 16) [] <|
  .op ⟨(some 2), none, .asg (.s 17) false, [1, 3, 4, 5, 6, 12, 13, 17]⟩ <|
  .nil
def x135 : XCode := .seq (.ops r135_0) (.seq (.ops r135_1) (.ret))
theorem m135 : mFun Try.prog Try.f135 x135 [.tmp 2] 1 = true := by kernel_rfl
theorem k135 : Callable Try.prog 135 := callable_of (by kernel_rfl)

/-! loop.example/g00360/spec.ReadFixed -/
def r138_0 : XL := .op ⟨(some 4), none, .asg (.c ⟨.one, [.int .i64 0]⟩) false, []⟩ <|
  .op ⟨(some 5), none, .asg (.c ⟨.one, [.bool false]⟩) false, [4, 5]⟩ <|
  .nil
def r138_1 : XL := .op ⟨(some 8), none, .mv (.s 1), []⟩ <|
  .op ⟨(some 9), none, .call 36 [(false, .s 8), (false, .c ⟨.one, [.int .i64 1]⟩), (false, .c ⟨.one, [.int .i64 7]⟩)] [], []⟩ <|
  .op ⟨(some 10), none, .un .not (.s 9), []⟩ <|
  .op ⟨(some 11), none, .mv (.s 10), []⟩ <|
  .sc 11 false (.op ⟨(some 12), (some (11, false)), .mv (.s 0), []⟩ <|
  .op ⟨(some 13), (some (11, false)), .len true (.s 12), []⟩ <|
  .op ⟨(some 14), (some (11, false)), .mv (.s 1), []⟩ <|
  .op ⟨(some 15), (some (11, false)), .bin .lss (.s 13) (.s 14), []⟩ <|
  .nil) [12, 13, 14, 15] 16 none (.s 11) (.s 15) [8, 9, 10, 11] <|
  .nil
def r138_2 : XL := .op ⟨(some 4), none, .asg (.c ⟨.one, [.int .i64 0]⟩) false, []⟩ <|
  .op ⟨(some 5), none, .asg (.c ⟨.one, [.bool false]⟩) false, [0, 1, 16]⟩ <|
  .nil
def r138_3 : XL := .op ⟨(some 6), none, .asg (.c ⟨.one, [.int .i64 0]⟩) false, [4, 5, 16]⟩ <|
  .nil
def r138_4 : XL := .op ⟨(some 7), none, .asg (.c ⟨.one, [.int .i64 0]⟩) false, []⟩ <|
  .nil
def r138_5 : XL := .op ⟨(some 17), none, .mv (.s 7), []⟩ <|
  .op ⟨(some 18), none, .mv (.s 1), []⟩ <|
  .op ⟨(some 19), none, .bin .lss (.s 17) (.s 18), [17, 18]⟩ <|
  .nil
def r138_7 : XL := .op ⟨(some 22), none, .mv (.s 6), []⟩ <|
  .op ⟨(some 23), none, .bin .mul (.s 22) (.c ⟨.one, [.int .i64 256]⟩), []⟩ <|
  .op ⟨(some 24), none, .mv (.s 0), []⟩ <|
  .op ⟨(some 25), none, .mv (.s 7), []⟩ <|
  .op ⟨(some 26), none, .idx (.s 24) (.s 25), []⟩ <|
  .op ⟨(some 27), none, .convI .i64 (.s 26), []⟩ <|
  .op ⟨(some 28), none, .bin .add (.s 23) (.s 27), []⟩ <|
  .op ⟨(some 6), none, .asg (.s 28) false, [19, 22, 23, 24, 25, 26, 27, 28]⟩ <|
  .nil
def r138_6 : XL := .op ⟨(some 20), none, .mv (.s 7), []⟩ <|
  .op ⟨(some 21), none, .bin .add (.s 20) (.c ⟨.one, [.int .i64 1]⟩), []⟩ <|
  .op ⟨(some 7), none, .asg (.s 21) false, [20, 21]⟩ <|
  .nil
def l138_0 : XCode := .keep [0, 1, 6, 7] [] (.seq (.seq (.ops r138_5) (.cond (.s 19) (.skip) (.exit 0))) (.seq (.block 1 (.ops r138_7)) (.ops r138_6)))
def r138_8 : XL := .op ⟨(some 29), none, .mv (.s 6), []⟩ <|
  .op ⟨(some 4), none, .asg (.s 29) true, []⟩ <|
  .op ⟨(some 5), none, .asg (.c ⟨.one, [.bool true]⟩) false, [0, 1, 6, 7, 29]⟩ <|
  .nil
def x138 : XCode := .seq (.ops r138_0) (.seq (.seq (.ops r138_1) (.cond (.s 16) (.seq (.ops r138_2) (.ret)) (.skip))) (.seq (.ops r138_3) (.seq (.seq (.ops r138_4) (.block 0 (.loop l138_0))) (.seq (.ops r138_8) (.ret)))))
theorem m138 : mFun Try.prog Try.f138 x138 [.tmp 4, .tmp 5] 2 = true := by kernel_rfl
theorem k138 : Callable Try.prog 138 := callable_of (by kernel_rfl)

/-! loop.example/g00360/spec.Frame -/
def r139_0 : XL := .op ⟨(some 2), none, .asg (.c ⟨.one, [.str ⟨#[]⟩]⟩) false, [2]⟩ <|
  .nil
def r139_1 : XL := .op ⟨(some 4), none, .mv (.s 0), []⟩ <|
  .op ⟨(some 5), none, .len true (.s 4), []⟩ <|
  .op ⟨(some 6), none, .bin .eql (.s 5) (.c ⟨.one, [.int .i64 0]⟩), []⟩ <|
  .op ⟨(some 7), none, .mv (.s 6), []⟩ <|
  .sc 7 false (.op ⟨(some 8), (some (7, false)), .mv (.s 0), []⟩ <|
  .op ⟨(some 9), (some (7, false)), .len true (.s 8), []⟩ <|
  .op ⟨(some 10), (some (7, false)), .bin .gtr (.s 9) (.c ⟨.one, [.int .i64 2000]⟩), []⟩ <|
  .nil) [8, 9, 10] 11 none (.s 7) (.s 10) [4, 5, 6, 7] <|
  .nil
def r139_2 : XL := .op ⟨(some 2), none, .asg (.c ⟨.one, [.str ⟨#[]⟩]⟩) false, [0, 11]⟩ <|
  .nil
def r139_3 : XL := .op ⟨(some 12), none, .mv (.s 0), []⟩ <|
  .op ⟨(some 13), none, .len true (.s 12), []⟩ <|
  .op ⟨(some 14), none, .call 55 [(false, .s 13), (false, .c ⟨.one, [.int .i64 4]⟩)] [], []⟩ <|
  .op ⟨(some 3), none, .asg (.s 14) false, [2, 11, 12, 13, 14]⟩ <|
  .nil
def r139_4 : XL := .op ⟨(some 15), none, .mv (.s 3), []⟩ <|
  .op ⟨(some 16), none, .mv (.s 3), []⟩ <|
  .op ⟨(some 17), none, .mv (.s 0), []⟩ <|
  .op ⟨(some 18), none, .bin .add (.s 16) (.s 17), []⟩ <|
  .op ⟨(some 19), none, .call 56 [(false, .s 18)] [], []⟩ <|
  .op ⟨(some 20), none, .call 55 [(false, .s 19), (false, .c ⟨.one, [.int .i64 4]⟩)] [], []⟩ <|
  .op ⟨(some 21), none, .bin .add (.s 15) (.s 20), []⟩ <|
  .op ⟨(some 22), none, .mv (.s 0), []⟩ <|
  .op ⟨(some 23), none, .bin .add (.s 21) (.s 22), []⟩ <|
  .op ⟨(some 2), none, .asg (.s 23) false, [0, 3, 15, 16, 17, 18, 19, 20, 21, 22, 23]⟩ <|
  .nil
def x139 : XCode := .seq (.ops r139_0) (.seq (.seq (.ops r139_1) (.cond (.s 11) (.seq (.ops r139_2) (.ret)) (.skip))) (.seq (.ops r139_3) (.seq (.ops r139_4) (.ret))))
theorem m139 : mFun Try.prog Try.f139 x139 [.tmp 2] 1 = true := by kernel_rfl
theorem k139 : Callable Try.prog 139 := callable_of (by kernel_rfl)

/-! loop.example/g00360/spec.l7Vars -/
def r140_0 : XL := .op ⟨(some 4), none, .asg (.c ⟨.one, [.own 1 []]⟩) false, []⟩ <|
  .op ⟨(some 5), none, .asg (.c ⟨.one, [.int .i64 0]⟩) false, [4, 5]⟩ <|
  .nil
def r140_1 : XL := .op ⟨(some 11), none, .bslice 1 [], []⟩ <|
  .op ⟨(some 6), none, .asg (.s 11) false, [11]⟩ <|
  .nil
def r140_2 : XL := .op ⟨(some 7), none, .asg (.c ⟨.one, [.int .i64 0]⟩) false, []⟩ <|
  .nil
def r140_3 : XL := .op ⟨(some 8), none, .asg (.c ⟨.one, [.int .i64 0]⟩) false, []⟩ <|
  .nil
def r140_4 : XL := .op ⟨(some 12), none, .mv (.s 8), []⟩ <|
  .op ⟨(some 13), none, .mv (.s 1), []⟩ <|
  .op ⟨(some 14), none, .bin .lss (.s 12) (.s 13), [12, 13]⟩ <|
  .nil
def r140_6 : XL := .op ⟨(some 18), none, .mv (.s 0), []⟩ <|
  .op ⟨(some 19), none, .mv (.s 7), []⟩ <|
  .op ⟨(some 20), none, .slcS (.s 18) (some (.s 19)) none, []⟩ <|
  .op ⟨(some 21), none, .call 116 [(false, .s 20)] [], []⟩ <|
  .op ⟨(some 17), none, .mv (.s 21), []⟩ <|
  .op ⟨(some 22), none, .ext 0 (.s 17), []⟩ <|
  .op ⟨(some 23), none, .ext 1 (.s 17), []⟩ <|
  .op ⟨(some 9), none, .asg (.s 22) true, []⟩ <|
  .op ⟨(some 10), none, .asg (.s 23) true, [14, 17, 18, 19, 20, 21, 22, 23]⟩ <|
  .nil
def r140_7 : XL := .op ⟨(some 24), none, .mv (.s 10), []⟩ <|
  .op ⟨(some 25), none, .bin .eql (.s 24) (.c ⟨.one, [.int .i64 0]⟩), [24]⟩ <|
  .nil
def r140_8 : XL := .op ⟨(some 26), none, .mv (.s 6), []⟩ <|
  .op ⟨(some 4), none, .asg (.s 26) true, []⟩ <|
  .op ⟨(some 5), none, .asg (.c ⟨.one, [.int .i64 (-1)]⟩) false, [0, 1, 6, 7, 8, 9, 10, 25, 26]⟩ <|
  .nil
def r140_9 : XL := .op ⟨(some 27), none, .mv (.s 6), []⟩ <|
  .op ⟨(some 28), none, .mv (.s 9), []⟩ <|
  .op ⟨(some 29), none, .bslice 1 [.s 28], []⟩ <|
  .op ⟨(some 30), none, .app 1 8 (.s 27) (.s 29) false, []⟩ <|
  .op ⟨(some 6), none, .asg (.s 30) false, [4, 5, 9, 25, 27, 28, 29, 30]⟩ <|
  .nil
def r140_10 : XL := .op ⟨(some 31), none, .mv (.s 7), []⟩ <|
  .op ⟨(some 32), none, .mv (.s 10), []⟩ <|
  .op ⟨(some 33), none, .bin .add (.s 31) (.s 32), []⟩ <|
  .op ⟨(some 7), none, .asg (.s 33) false, [10, 31, 32, 33]⟩ <|
  .nil
def r140_5 : XL := .op ⟨(some 15), none, .mv (.s 8), []⟩ <|
  .op ⟨(some 16), none, .bin .add (.s 15) (.c ⟨.one, [.int .i64 1]⟩), []⟩ <|
  .op ⟨(some 8), none, .asg (.s 16) false, [15, 16]⟩ <|
  .nil
def l140_0 : XCode := .keep [0, 1, 6, 7, 8] [] (.seq (.seq (.ops r140_4) (.cond (.s 14) (.skip) (.exit 0))) (.seq (.block 1 (.seq (.ops r140_6) (.seq (.seq (.ops r140_7) (.cond (.s 25) (.seq (.ops r140_8) (.ret)) (.skip))) (.seq (.ops r140_9) (.ops r140_10))))) (.ops r140_5)))
def r140_11 : XL := .op ⟨(some 34), none, .mv (.s 6), []⟩ <|
  .op ⟨(some 35), none, .mv (.s 7), []⟩ <|
  .op ⟨(some 4), none, .asg (.s 34) true, []⟩ <|
  .op ⟨(some 5), none, .asg (.s 35) true, [0, 1, 6, 7, 8, 34, 35]⟩ <|
  .nil
def x140 : XCode := .seq (.ops r140_0) (.seq (.ops r140_1) (.seq (.ops r140_2) (.seq (.seq (.ops r140_3) (.block 0 (.loop l140_0))) (.seq (.ops r140_11) (.ret)))))
theorem m140 : mFun Try.prog Try.f140 x140 [.tmp 4, .tmp 5] 2 = true := by kernel_rfl
theorem k140 : Callable Try.prog 140 := callable_of (by kernel_rfl)

/-! loop.example/g00360/spec.l7Un -/
def r141_0 : XL := .op ⟨(some 2), none, .asg (.c ⟨.one, [.int .i64 0]⟩) false, [2]⟩ <|
  .nil
def r141_1 : XL := .op ⟨(some 6), none, .mv (.s 0), []⟩ <|
  .op ⟨(some 7), none, .call 147 [(false, .s 6)] [], []⟩ <|
  .op ⟨(some 5), none, .mv (.s 7), []⟩ <|
  .op ⟨(some 8), none, .ext 0 (.s 5), []⟩ <|
  .op ⟨(some 9), none, .ext 1 (.s 5), []⟩ <|
  .op ⟨(some 3), none, .asg (.s 8) true, []⟩ <|
  .op ⟨(some 4), none, .asg (.s 9) true, [0, 4, 5, 6, 7, 8, 9]⟩ <|
  .nil
def r141_2 : XL := .op ⟨(some 10), none, .mv (.s 3), []⟩ <|
  .op ⟨(some 2), none, .asg (.s 10) true, [3, 10]⟩ <|
  .nil
def x141 : XCode := .seq (.ops r141_0) (.seq (.ops r141_1) (.seq (.ops r141_2) (.ret)))
theorem m141 : mFun Try.prog Try.f141 x141 [.tmp 2] 1 = true := by kernel_rfl
theorem k141 : Callable Try.prog 141 := callable_of (by kernel_rfl)

/-! loop.example/g00360/spec.ShowTimes -/
def r142_0 : XL := .op ⟨(some 2), none, .asg (.c ⟨.one, [.str ⟨#[]⟩]⟩) false, [2]⟩ <|
  .nil
def r142_1 : XL := .op ⟨(some 6), none, .mv (.s 0), []⟩ <|
  .op ⟨(some 7), none, .call 148 [(false, .s 6)] [], []⟩ <|
  .op ⟨(some 8), none, .un .not (.s 7), [6, 7]⟩ <|
  .nil
def r142_2 : XL := .op ⟨(some 2), none, .asg (.c ⟨.one, [.str ⟨#[]⟩]⟩) false, [0, 8]⟩ <|
  .nil
def r142_3 : XL := .op ⟨(some 9), none, .mv (.s 0), []⟩ <|
  .op ⟨(some 10), none, .iad 1 (.s 9) (.c ⟨.one, [.int .i64 0]⟩), []⟩ <|
  .op ⟨(some 11), none, .load false 1 (.s 10), []⟩ <|
  .op ⟨(some 12), none, .call 53 [(false, .s 11)] [], []⟩ <|
  .op ⟨(some 3), none, .asg (.s 12) false, [2, 8, 9, 10, 11, 12]⟩ <|
  .nil
def r142_4 : XL := .op ⟨(some 4), none, .asg (.c ⟨.one, [.int .i64 1]⟩) false, []⟩ <|
  .nil
def r142_5 : XL := .op ⟨(some 13), none, .mv (.s 4), []⟩ <|
  .op ⟨(some 14), none, .mv (.s 0), []⟩ <|
  .op ⟨(some 15), none, .len false (.s 14), []⟩ <|
  .op ⟨(some 16), none, .bin .lss (.s 13) (.s 15), [13, 14, 15]⟩ <|
  .nil
def r142_7v : List XD := [⟨⟨(some 19), none, .mv (.s 0), []⟩, [], []⟩,
  ⟨⟨(some 20), none, .mv (.s 4), []⟩, [], [19]⟩,
  ⟨⟨(some 21), none, .iad 1 (.s 19) (.s 20), []⟩, [0, 1], []⟩,
  ⟨⟨(some 22), none, .load false 1 (.s 21), []⟩, [0, 1, 2], []⟩,
  ⟨⟨(some 23), none, .mv (.s 0), []⟩, [], [19, 20, 21, 22]⟩,
  ⟨⟨(some 24), none, .mv (.s 4), []⟩, [], [19, 20, 21, 22, 23]⟩,
  ⟨⟨(some 25), none, .bin .sub (.s 24) (.c ⟨.one, [.int .i64 1]⟩), []⟩, [5], [19, 20, 21, 22, 23]⟩,
  ⟨⟨(some 26), none, .iad 1 (.s 23) (.s 25), []⟩, [4, 5, 6], [19, 20, 21, 22]⟩,
  ⟨⟨(some 27), none, .load false 1 (.s 26), []⟩, [4, 5, 6, 7], [19, 20, 21, 22]⟩]
def r142_7t : List XD := [⟨⟨(some 28), none, .bin .sub (.s 22) (.s 27), []⟩, [0, 1, 2, 3, 4, 5, 6, 7, 8], []⟩,
  ⟨⟨(some 5), none, .asg (.s 28) false, [16, 19, 20, 21, 22, 23, 24, 25, 26, 27, 28]⟩, [0, 1, 2, 3, 4, 5, 6, 7, 8, 9], []⟩]
def r142_8 : XL := .op ⟨(some 29), none, .mv (.s 4), []⟩ <|
  .op ⟨(some 30), none, .bin .eql (.s 29) (.c ⟨.one, [.int .i64 1]⟩), [29]⟩ <|
  .nil
def r142_9 : XL := .op ⟨(some 31), none, .mv (.s 3), []⟩ <|
  .op ⟨(some 32), none, .mv (.s 5), []⟩ <|
  .op ⟨(some 33), none, .call 53 [(false, .s 32)] [], []⟩ <|
  .op ⟨(some 34), none, .bin .add (.s 31) (.s 33), []⟩ <|
  .op ⟨(some 3), none, .asg (.s 34) false, [5, 30, 31, 32, 33, 34]⟩ <|
  .nil
def r142_10v : List XD := [⟨⟨(some 35), none, .mv (.s 3), []⟩, [], []⟩,
  ⟨⟨(some 36), none, .mv (.s 5), []⟩, [], [35]⟩,
  ⟨⟨(some 37), none, .mv (.s 0), []⟩, [], [35, 36]⟩,
  ⟨⟨(some 38), none, .mv (.s 4), []⟩, [], [35, 36, 37]⟩,
  ⟨⟨(some 39), none, .bin .sub (.s 38) (.c ⟨.one, [.int .i64 1]⟩), []⟩, [3], [35, 36, 37]⟩,
  ⟨⟨(some 40), none, .iad 1 (.s 37) (.s 39), []⟩, [2, 3, 4], [35, 36]⟩,
  ⟨⟨(some 41), none, .load false 1 (.s 40), []⟩, [2, 3, 4, 5], [35, 36]⟩,
  ⟨⟨(some 42), none, .mv (.s 0), []⟩, [], [35, 36, 37, 38, 39, 40, 41]⟩,
  ⟨⟨(some 43), none, .mv (.s 4), []⟩, [], [35, 36, 37, 38, 39, 40, 41, 42]⟩,
  ⟨⟨(some 44), none, .bin .sub (.s 43) (.c ⟨.one, [.int .i64 2]⟩), []⟩, [8], [35, 36, 37, 38, 39, 40, 41, 42]⟩,
  ⟨⟨(some 45), none, .iad 1 (.s 42) (.s 44), []⟩, [7, 8, 9], [35, 36, 37, 38, 39, 40, 41]⟩,
  ⟨⟨(some 46), none, .load false 1 (.s 45), []⟩, [7, 8, 9, 10], [35, 36, 37, 38, 39, 40, 41]⟩,
  ⟨⟨(some 47), none, .bin .sub (.s 41) (.s 46), []⟩, [2, 3, 4, 5, 6, 7, 8, 9, 10, 11], [35, 36]⟩,
  ⟨⟨(some 48), none, .bin .sub (.s 36) (.s 47), []⟩, [1, 2, 3, 4, 5, 6, 7, 8, 9, 10, 11, 12], [35]⟩,
  ⟨⟨(some 49), none, .call 149 [(false, .s 48)] [], []⟩, [1, 2, 3, 4, 5, 6, 7, 8, 9, 10, 11, 12, 13], [35]⟩,
  ⟨⟨(some 50), none, .call 53 [(false, .s 49)] [], []⟩, [1, 2, 3, 4, 5, 6, 7, 8, 9, 10, 11, 12, 13, 14], [35]⟩]
def r142_10t : List XD := [⟨⟨(some 51), none, .bin .add (.s 35) (.s 50), []⟩, [0, 1, 2, 3, 4, 5, 6, 7, 8, 9, 10, 11, 12, 13, 14, 15], []⟩,
  ⟨⟨(some 3), none, .asg (.s 51) false, [5, 30, 35, 36, 37, 38, 39, 40, 41, 42, 43, 44, 45, 46, 47, 48, 49, 50, 51]⟩, [0, 1, 2, 3, 4, 5, 6, 7, 8, 9, 10, 11, 12, 13, 14, 15, 16], []⟩]
def r142_6 : XL := .op ⟨(some 17), none, .mv (.s 4), []⟩ <|
  .op ⟨(some 18), none, .bin .add (.s 17) (.c ⟨.one, [.int .i64 1]⟩), []⟩ <|
  .op ⟨(some 4), none, .asg (.s 18) false, [17, 18]⟩ <|
  .nil
def l142_0 : XCode := .keep [0, 3, 4] [] (.seq (.seq (.ops r142_5) (.cond (.s 16) (.skip) (.exit 0))) (.seq (.block 1 (.seq (.any r142_7v r142_7t) (.seq (.ops r142_8) (.cond (.s 30) (.ops r142_9) (.any r142_10v r142_10t))))) (.ops r142_6)))
def r142_11 : XL := .op ⟨(some 52), none, .mv (.s 3), []⟩ <|
  .op ⟨(some 2), none, .asg (.s 52) true, [0, 3, 4, 52]⟩ <|
  .nil
def x142 : XCode := .seq (.ops r142_0) (.seq (.seq (.ops r142_1) (.cond (.s 8) (.seq (.ops r142_2) (.ret)) (.skip))) (.seq (.ops r142_3) (.seq (.seq (.ops r142_4) (.block 0 (.loop l142_0))) (.seq (.ops r142_11) (.ret)))))
theorem m142 : mFun Try.prog Try.f142 x142 [.tmp 2] 1 = true := by kernel_rfl
theorem k142 : Callable Try.prog 142 := callable_of (by kernel_rfl)

/-! loop.example/g00360/spec.ShowValues -/
def r143_0 : XL := .op ⟨(some 2), none, .asg (.c ⟨.one, [.str ⟨#[]⟩]⟩) false, [2]⟩ <|
  .nil
def r143_1 : XL := .op ⟨(some 6), none, .mv (.s 0), []⟩ <|
  .op ⟨(some 7), none, .call 150 [(false, .s 6)] [], []⟩ <|
  .op ⟨(some 8), none, .un .not (.s 7), [6, 7]⟩ <|
  .nil
def r143_2 : XL := .op ⟨(some 2), none, .asg (.c ⟨.one, [.str ⟨#[]⟩]⟩) false, [0, 8]⟩ <|
  .nil
def r143_3 : XL := .op ⟨(some 3), none, .asg (.c ⟨.one, [.str ⟨#[]⟩]⟩) false, [2, 8]⟩ <|
  .nil
def r143_4 : XL := .op ⟨(some 4), none, .asg (.c ⟨.one, [.int .i64 0]⟩) false, []⟩ <|
  .nil
def r143_5 : XL := .op ⟨(some 5), none, .asg (.c ⟨.one, [.int .i64 0]⟩) false, []⟩ <|
  .nil
def r143_6 : XL := .op ⟨(some 9), none, .mv (.s 5), []⟩ <|
  .op ⟨(some 10), none, .mv (.s 0), []⟩ <|
  .op ⟨(some 11), none, .len false (.s 10), []⟩ <|
  .op ⟨(some 12), none, .bin .lss (.s 9) (.s 11), [9, 10, 11]⟩ <|
  .nil
def r143_8 : XL := .op ⟨(some 15), none, .mv (.s 3), []⟩ <|
  .op ⟨(some 16), none, .mv (.s 0), []⟩ <|
  .op ⟨(some 17), none, .mv (.s 5), []⟩ <|
  .op ⟨(some 18), none, .iad 1 (.s 16) (.s 17), []⟩ <|
  .op ⟨(some 19), none, .load false 1 (.s 18), []⟩ <|
  .op ⟨(some 20), none, .mv (.s 4), []⟩ <|
  .op ⟨(some 21), none, .bin .sub (.s 19) (.s 20), []⟩ <|
  .op ⟨(some 22), none, .call 149 [(false, .s 21)] [], []⟩ <|
  .op ⟨(some 23), none, .call 53 [(false, .s 22)] [], []⟩ <|
  .op ⟨(some 24), none, .bin .add (.s 15) (.s 23), []⟩ <|
  .op ⟨(some 3), none, .asg (.s 24) false, [4, 12, 15, 16, 17, 18, 19, 20, 21, 22, 23, 24]⟩ <|
  .nil
def r143_9 : XL := .op ⟨(some 25), none, .mv (.s 0), []⟩ <|
  .op ⟨(some 26), none, .mv (.s 5), []⟩ <|
  .op ⟨(some 27), none, .iad 1 (.s 25) (.s 26), []⟩ <|
  .op ⟨(some 28), none, .load false 1 (.s 27), []⟩ <|
  .op ⟨(some 4), none, .asg (.s 28) false, [25, 26, 27, 28]⟩ <|
  .nil
def r143_7 : XL := .op ⟨(some 13), none, .mv (.s 5), []⟩ <|
  .op ⟨(some 14), none, .bin .add (.s 13) (.c ⟨.one, [.int .i64 1]⟩), []⟩ <|
  .op ⟨(some 5), none, .asg (.s 14) false, [13, 14]⟩ <|
  .nil
def l143_0 : XCode := .keep [0, 3, 4, 5] [] (.seq (.seq (.ops r143_6) (.cond (.s 12) (.skip) (.exit 0))) (.seq (.block 1 (.seq (.ops r143_8) (.ops r143_9))) (.ops r143_7)))
def r143_10 : XL := .op ⟨(some 29), none, .mv (.s 3), []⟩ <|
  .op ⟨(some 2), none, .asg (.s 29) true, [0, 3, 4, 5, 29]⟩ <|
  .nil
def x143 : XCode := .seq (.ops r143_0) (.seq (.seq (.ops r143_1) (.cond (.s 8) (.seq (.ops r143_2) (.ret)) (.skip))) (.seq (.ops r143_3) (.seq (.ops r143_4) (.seq (.seq (.ops r143_5) (.block 0 (.loop l143_0))) (.seq (.ops r143_10) (.ret))))))
theorem m143 : mFun Try.prog Try.f143 x143 [.tmp 2] 1 = true := by kernel_rfl
theorem k143 : Callable Try.prog 143 := callable_of (by kernel_rfl)

/-! loop.example/g00360/impl.UnZig -/
def r144_0 : XL := .op ⟨(some 2), none, .asg (.c ⟨.one, [.int .i64 0]⟩) false, []⟩ <|
  .op ⟨(some 3), none, .asg (.c ⟨.one, [.bool false]⟩) false, [2, 3]⟩ <|
  .nil
def r144_1 : XL := .op ⟨(some 4), none, .mv (.s 0), []⟩ <|
  .op ⟨(some 5), none, .call 32 [(false, .s 4), (false, .c ⟨.one, [.int .i64 0]⟩), (false, .c ⟨.one, [.int .i64 281474976710656]⟩)] [], []⟩ <|
  .op ⟨(some 6), none, .un .not (.s 5), [4, 5]⟩ <|
  .nil
def r144_2 : XL := .op ⟨(some 2), none, .asg (.c ⟨.one, [.int .i64 0]⟩) false, []⟩ <|
  .op ⟨(some 3), none, .asg (.c ⟨.one, [.bool false]⟩) false, [0, 6]⟩ <|
  .nil
def r144_3 : XL := .op ⟨(some 7), none, .mv (.s 0), []⟩ <|
  .op ⟨(some 8), none, .bin .rem (.s 7) (.c ⟨.one, [.int .i64 2]⟩), []⟩ <|
  .op ⟨(some 9), none, .bin .eql (.s 8) (.c ⟨.one, [.int .i64 1]⟩), [2, 3, 6, 7, 8]⟩ <|
  .nil
def r144_4 : XL := .op ⟨(some 10), none, .mv (.s 0), []⟩ <|
  .op ⟨(some 11), none, .bin .add (.s 10) (.c ⟨.one, [.int .i64 1]⟩), []⟩ <|
  .op ⟨(some 12), none, .un .neg (.s 11), []⟩ <|
  .op ⟨(some 13), none, .bin .quo (.s 12) (.c ⟨.one, [.int .i64 2]⟩), []⟩ <|
  .op ⟨(some 2), none, .asg (.s 13) false, []⟩ <|
  .op ⟨(some 3), none, .asg (.c ⟨.one, [.bool true]⟩) false, [0, 9, 10, 11, 12, 13]⟩ <|
  .nil
def r144_5 : XL := .op ⟨(some 14), none, .mv (.s 0), []⟩ <|
  .op ⟨(some 15), none, .bin .quo (.s 14) (.c ⟨.one, [.int .i64 2]⟩), []⟩ <|
  .op ⟨(some 2), none, .asg (.s 15) false, []⟩ <|
  .op ⟨(some 3), none, .asg (.c ⟨.one, [.bool true]⟩) false, [0, 9, 14, 15]⟩ <|
  .nil
def x144 : XCode := .seq (.ops r144_0) (.seq (.seq (.ops r144_1) (.cond (.s 6) (.seq (.ops r144_2) (.ret)) (.skip))) (.seq (.seq (.ops r144_3) (.cond (.s 9) (.seq (.ops r144_4) (.ret)) (.skip))) (.seq (.ops r144_5) (.ret))))
theorem m144 : mFun Try.prog Try.f144 x144 [.tmp 2, .tmp 3] 1 = true := by kernel_rfl
theorem k144 : Callable Try.prog 144 := callable_of (by kernel_rfl)

/-! strings.HasPrefix -/
def r145_0 : XL := .op ⟨(some 4), none, .asg (.c ⟨.one, [.bool false]⟩) false, [4]⟩ <|
  .nil
def r145_1 : XL := .op ⟨(some 5), none, .mv (.s 0), []⟩ <|
  .op ⟨(some 6), none, .mv (.s 1), []⟩ <|
  .op ⟨(some 7), none, .call 151 [(false, .s 5), (false, .s 6)] [], []⟩ <|
  .op ⟨(some 4), none, .asg (.s 7) false, [0, 1, 5, 6, 7]⟩ <|
  .nil
def x145 : XCode := .seq (.ops r145_0) (.seq (.ops r145_1) (.ret))
theorem m145 : mFun Try.prog Try.f145 x145 [.tmp 4] 2 = true := by kernel_rfl
theorem k145 : Callable Try.prog 145 := callable_of (by kernel_rfl)

/-! loop.example/g00360/impl.zig -/
def r146_0 : XL := .op ⟨(some 2), none, .asg (.c ⟨.one, [.str ⟨#[]⟩]⟩) false, [2]⟩ <|
  .nil
def r146_1 : XL := .op ⟨(some 3), none, .mv (.s 0), []⟩ <|
  .op ⟨(some 4), none, .call 152 [(false, .s 3)] [], []⟩ <|
  .op ⟨(some 5), none, .call 57 [(false, .s 4)] [], []⟩ <|
  .op ⟨(some 2), none, .asg (.s 5) false, [0, 3, 4, 5]⟩ <|
  .nil
def x146 : XCode := .seq (.ops r146_0) (.seq (.ops r146_1) (.ret))
theorem m146 : mFun Try.prog Try.f146 x146 [.tmp 2] 1 = true := by kernel_rfl
theorem k146 : Callable Try.prog 146 := callable_of (by kernel_rfl)

/-! loop.example/g00360/spec.UnZig -/
def r147_0 : XL := .op ⟨(some 2), none, .asg (.c ⟨.one, [.int .i64 0]⟩) false, []⟩ <|
  .op ⟨(some 3), none, .asg (.c ⟨.one, [.bool false]⟩) false, [2, 3]⟩ <|
  .nil
def r147_1 : XL := .op ⟨(some 5), none, .mv (.s 0), []⟩ <|
  .op ⟨(some 6), none, .bin .lss (.s 5) (.c ⟨.one, [.int .i64 0]⟩), []⟩ <|
  .op ⟨(some 7), none, .mv (.s 6), []⟩ <|
  .sc 7 false (.op ⟨(some 8), (some (7, false)), .mv (.s 0), []⟩ <|
  .op ⟨(some 9), (some (7, false)), .bin .gtr (.s 8) (.c ⟨.one, [.int .i64 281474976710656]⟩), []⟩ <|
  .nil) [8, 9] 10 none (.s 7) (.s 9) [5, 6, 7] <|
  .nil
def r147_2 : XL := .op ⟨(some 2), none, .asg (.c ⟨.one, [.int .i64 0]⟩) false, []⟩ <|
  .op ⟨(some 3), none, .asg (.c ⟨.one, [.bool false]⟩) false, [0, 10]⟩ <|
  .nil
def r147_3 : XL := .op ⟨(some 11), none, .mv (.s 0), []⟩ <|
  .op ⟨(some 12), none, .bin .quo (.s 11) (.c ⟨.one, [.int .i64 2]⟩), []⟩ <|
  .op ⟨(some 4), none, .asg (.s 12) false, [2, 3, 10, 11, 12]⟩ <|
  .nil
def r147_4 : XL := .op ⟨(some 13), none, .mv (.s 0), []⟩ <|
  .op ⟨(some 14), none, .bin .rem (.s 13) (.c ⟨.one, [.int .i64 2]⟩), []⟩ <|
  .op ⟨(some 15), none, .bin .eql (.s 14) (.c ⟨.one, [.int .i64 1]⟩), [13, 14]⟩ <|
  .nil
def r147_5 : XL := .op ⟨(some 16), none, .mv (.s 4), []⟩ <|
  .op ⟨(some 17), none, .un .neg (.s 16), []⟩ <|
  .op ⟨(some 18), none, .bin .sub (.s 17) (.c ⟨.one, [.int .i64 1]⟩), []⟩ <|
  .op ⟨(some 4), none, .asg (.s 18) false, [15, 16, 17, 18]⟩ <|
  .nil
def r147_6 : XL := .op ⟨(some 19), none, .mv (.s 4), []⟩ <|
  .op ⟨(some 20), none, .mv (.s 4), []⟩ <|
  .op ⟨(some 21), none, .call 149 [(false, .s 20)] [], []⟩ <|
  .op ⟨(some 22), none, .mv (.s 0), []⟩ <|
  .op ⟨(some 23), none, .bin .eql (.s 21) (.s 22), []⟩ <|
  .op ⟨(some 2), none, .asg (.s 19) true, []⟩ <|
  .op ⟨(some 3), none, .asg (.s 23) false, [0, 4, 15, 19, 20, 21, 22, 23]⟩ <|
  .nil
def x147 : XCode := .seq (.ops r147_0) (.seq (.seq (.ops r147_1) (.cond (.s 10) (.seq (.ops r147_2) (.ret)) (.skip))) (.seq (.ops r147_3) (.seq (.seq (.ops r147_4) (.cond (.s 15) (.ops r147_5) (.skip))) (.seq (.ops r147_6) (.ret)))))
theorem m147 : mFun Try.prog Try.f147 x147 [.tmp 2, .tmp 3] 1 = true := by kernel_rfl
theorem k147 : Callable Try.prog 147 := callable_of (by kernel_rfl)

/-! loop.example/g00360/spec.l7Rise -/
def r148_0 : XL := .op ⟨(some 2), none, .asg (.c ⟨.one, [.bool false]⟩) false, [2]⟩ <|
  .nil
def r148_1 : XL := .op ⟨(some 4), none, .mv (.s 0), []⟩ <|
  .op ⟨(some 5), none, .len false (.s 4), []⟩ <|
  .op ⟨(some 6), none, .call 36 [(false, .s 5), (false, .c ⟨.one, [.int .i64 1]⟩), (false, .c ⟨.one, [.int .i64 60]⟩)] [], []⟩ <|
  .op ⟨(some 7), none, .un .not (.s 6), [4, 5, 6]⟩ <|
  .nil
def r148_2 : XL := .op ⟨(some 2), none, .asg (.c ⟨.one, [.bool false]⟩) false, [0, 7]⟩ <|
  .nil
def r148_3 : XL := .op ⟨(some 3), none, .asg (.c ⟨.one, [.int .i64 0]⟩) false, [2, 7]⟩ <|
  .nil
def r148_4 : XL := .op ⟨(some 8), none, .mv (.s 3), []⟩ <|
  .op ⟨(some 9), none, .mv (.s 0), []⟩ <|
  .op ⟨(some 10), none, .len false (.s 9), []⟩ <|
  .op ⟨(some 11), none, .bin .lss (.s 8) (.s 10), [8, 9, 10]⟩ <|
  .nil
def r148_6v : List XD := [⟨⟨(some 14), none, .mv (.s 0), []⟩, [], []⟩,
  ⟨⟨(some 15), none, .mv (.s 3), []⟩, [], [14]⟩,
  ⟨⟨(some 16), none, .iad 1 (.s 14) (.s 15), []⟩, [0, 1], []⟩,
  ⟨⟨(some 17), none, .load false 1 (.s 16), []⟩, [0, 1, 2], []⟩,
  ⟨⟨(some 18), none, .call 36 [(false, .s 17), (false, .c ⟨.one, [.int .i64 0]⟩), (false, .c ⟨.one, [.int .i64 1099511627776]⟩)] [], []⟩, [0, 1, 2, 3], []⟩,
  ⟨⟨(some 19), none, .un .not (.s 18), []⟩, [0, 1, 2, 3, 4], []⟩,
  ⟨⟨(some 20), none, .mv (.s 19), []⟩, [0, 1, 2, 3, 4, 5], []⟩,
  ⟨⟨(some 21), (some (20, false)), .mv (.s 3), []⟩, [0, 1, 2, 3, 4, 5, 6], []⟩,
  ⟨⟨(some 22), (some (20, false)), .bin .gtr (.s 21) (.c ⟨.one, [.int .i64 0]⟩), []⟩, [0, 1, 2, 3, 4, 5, 6, 7], []⟩,
  ⟨⟨(some 23), (some (20, false)), .mv (.s 22), []⟩, [0, 1, 2, 3, 4, 5, 6, 7, 8], []⟩,
  ⟨⟨(some 24), (some (23, true)), .mv (.s 0), []⟩, [0, 1, 2, 3, 4, 5, 6, 7, 8, 9], []⟩,
  ⟨⟨(some 25), (some (23, true)), .mv (.s 3), []⟩, [0, 1, 2, 3, 4, 5, 6, 7, 8, 9], [24]⟩,
  ⟨⟨(some 26), (some (23, true)), .bin .sub (.s 25) (.c ⟨.one, [.int .i64 1]⟩), []⟩, [0, 1, 2, 3, 4, 5, 6, 7, 8, 9, 11], [24]⟩,
  ⟨⟨(some 27), (some (23, true)), .iad 1 (.s 24) (.s 26), []⟩, [0, 1, 2, 3, 4, 5, 6, 7, 8, 9, 10, 11, 12], []⟩,
  ⟨⟨(some 28), (some (23, true)), .load false 1 (.s 27), []⟩, [0, 1, 2, 3, 4, 5, 6, 7, 8, 9, 10, 11, 12, 13], []⟩,
  ⟨⟨(some 29), (some (23, true)), .mv (.s 0), []⟩, [0, 1, 2, 3, 4, 5, 6, 7, 8, 9], [24, 25, 26, 27, 28]⟩,
  ⟨⟨(some 30), (some (23, true)), .mv (.s 3), []⟩, [0, 1, 2, 3, 4, 5, 6, 7, 8, 9], [24, 25, 26, 27, 28, 29]⟩,
  ⟨⟨(some 31), (some (23, true)), .iad 1 (.s 29) (.s 30), []⟩, [0, 1, 2, 3, 4, 5, 6, 7, 8, 9, 15, 16], [24, 25, 26, 27, 28]⟩,
  ⟨⟨(some 32), (some (23, true)), .load false 1 (.s 31), []⟩, [0, 1, 2, 3, 4, 5, 6, 7, 8, 9, 15, 16, 17], [24, 25, 26, 27, 28]⟩,
  ⟨⟨(some 33), (some (23, true)), .bin .geq (.s 28) (.s 32), []⟩, [0, 1, 2, 3, 4, 5, 6, 7, 8, 9, 10, 11, 12, 13, 14, 15, 16, 17, 18], []⟩,
  ⟨⟨(some 34), (some (20, false)), .pick (.s 23) (.s 33) (.c ⟨.one, [.bool false]⟩), []⟩, [0, 1, 2, 3, 4, 5, 6, 7, 8, 9, 10, 11, 12, 13, 14, 15, 16, 17, 18, 19], []⟩]
def r148_6t : List XD := [⟨⟨(some 35), none, .pick (.s 20) (.c ⟨.one, [.bool true]⟩) (.s 34), [11, 14, 15, 16, 17, 18, 19, 20]⟩, [0, 1, 2, 3, 4, 5, 6, 7, 8, 9, 10, 11, 12, 13, 14, 15, 16, 17, 18, 19, 20], []⟩]
def r148_7 : XL := .op ⟨(some 2), none, .asg (.c ⟨.one, [.bool false]⟩) false, [0, 3, 21, 22, 23, 24, 25, 26, 27, 28, 29, 30, 31, 32, 33, 34, 35]⟩ <|
  .nil
def r148_5 : XL := .op ⟨(some 12), none, .mv (.s 3), []⟩ <|
  .op ⟨(some 13), none, .bin .add (.s 12) (.c ⟨.one, [.int .i64 1]⟩), []⟩ <|
  .op ⟨(some 3), none, .asg (.s 13) false, [2, 12, 13, 35]⟩ <|
  .nil
def l148_0 : XCode := .keep [0, 3] [] (.seq (.seq (.ops r148_4) (.cond (.s 11) (.skip) (.exit 0))) (.seq (.block 1 (.seq (.any r148_6v r148_6t) (.cond (.s 35) (.seq (.ops r148_7) (.ret)) (.skip)))) (.ops r148_5)))
def r148_8 : XL := .op ⟨(some 2), none, .asg (.c ⟨.one, [.bool true]⟩) false, [0, 3, 21, 22, 23, 24, 25, 26, 27, 28, 29, 30, 31, 32, 33, 34]⟩ <|
  .nil
def x148 : XCode := .seq (.ops r148_0) (.seq (.seq (.ops r148_1) (.cond (.s 7) (.seq (.ops r148_2) (.ret)) (.skip))) (.seq (.seq (.ops r148_3) (.block 0 (.loop l148_0))) (.seq (.ops r148_8) (.ret))))
theorem m148 : mFun Try.prog Try.f148 x148 [.tmp 2] 1 = true := by kernel_rfl
theorem k148 : Callable Try.prog 148 := callable_of (by kernel_rfl)

/-! loop.example/g00360/spec.ZigZag -/
def r149_0 : XL := .op ⟨(some 2), none, .asg (.c ⟨.one, [.int .i64 0]⟩) false, [2]⟩ <|
  .nil
def r149_1 : XL := .op ⟨(some 3), none, .mv (.s 0), []⟩ <|
  .op ⟨(some 4), none, .call 36 [(false, .s 3), (false, .c ⟨.one, [.int .i64 (-140737488355328)]⟩), (false, .c ⟨.one, [.int .i64 140737488355328]⟩)] [], []⟩ <|
  .op ⟨(some 5), none, .un .not (.s 4), [3, 4]⟩ <|
  .nil
def r149_2 : XL := .op ⟨(some 2), none, .asg (.c ⟨.one, [.int .i64 (-1)]⟩) false, [0, 5]⟩ <|
  .nil
def r149_3 : XL := .op ⟨(some 6), none, .mv (.s 0), []⟩ <|
  .op ⟨(some 7), none, .bin .lss (.s 6) (.c ⟨.one, [.int .i64 0]⟩), [2, 5, 6]⟩ <|
  .nil
def r149_4 : XL := .op ⟨(some 8), none, .mv (.s 0), []⟩ <|
  .op ⟨(some 9), none, .bin .mul (.c ⟨.one, [.int .i64 (-2)]⟩) (.s 8), []⟩ <|
  .op ⟨(some 10), none, .bin .sub (.s 9) (.c ⟨.one, [.int .i64 1]⟩), []⟩ <|
  .op ⟨(some 2), none, .asg (.s 10) false, [0, 7, 8, 9, 10]⟩ <|
  .nil
def r149_5 : XL := .op ⟨(some 11), none, .mv (.s 0), []⟩ <|
  .op ⟨(some 12), none, .bin .mul (.c ⟨.one, [.int .i64 2]⟩) (.s 11), []⟩ <|
  .op ⟨(some 2), none, .asg (.s 12) false, [0, 7, 11, 12]⟩ <|
  .nil
def x149 : XCode := .seq (.ops r149_0) (.seq (.seq (.ops r149_1) (.cond (.s 5) (.seq (.ops r149_2) (.ret)) (.skip))) (.seq (.seq (.ops r149_3) (.cond (.s 7) (.seq (.ops r149_4) (.ret)) (.skip))) (.seq (.ops r149_5) (.ret))))
theorem m149 : mFun Try.prog Try.f149 x149 [.tmp 2] 1 = true := by kernel_rfl
theorem k149 : Callable Try.prog 149 := callable_of (by kernel_rfl)

/-! loop.example/g00360/spec.l7Values -/
def r150_0 : XL := .op ⟨(some 2), none, .asg (.c ⟨.one, [.bool false]⟩) false, [2]⟩ <|
  .nil
def r150_1 : XL := .op ⟨(some 4), none, .mv (.s 0), []⟩ <|
  .op ⟨(some 5), none, .len false (.s 4), []⟩ <|
  .op ⟨(some 6), none, .call 36 [(false, .s 5), (false, .c ⟨.one, [.int .i64 1]⟩), (false, .c ⟨.one, [.int .i64 60]⟩)] [], []⟩ <|
  .op ⟨(some 7), none, .un .not (.s 6), [4, 5, 6]⟩ <|
  .nil
def r150_2 : XL := .op ⟨(some 2), none, .asg (.c ⟨.one, [.bool false]⟩) false, [0, 7]⟩ <|
  .nil
def r150_3 : XL := .op ⟨(some 3), none, .asg (.c ⟨.one, [.int .i64 0]⟩) false, [2, 7]⟩ <|
  .nil
def r150_4 : XL := .op ⟨(some 8), none, .mv (.s 3), []⟩ <|
  .op ⟨(some 9), none, .mv (.s 0), []⟩ <|
  .op ⟨(some 10), none, .len false (.s 9), []⟩ <|
  .op ⟨(some 11), none, .bin .lss (.s 8) (.s 10), [8, 9, 10]⟩ <|
  .nil
def r150_6 : XL := .op ⟨(some 14), none, .mv (.s 0), []⟩ <|
  .op ⟨(some 15), none, .mv (.s 3), []⟩ <|
  .op ⟨(some 16), none, .iad 1 (.s 14) (.s 15), []⟩ <|
  .op ⟨(some 17), none, .load false 1 (.s 16), []⟩ <|
  .op ⟨(some 18), none, .call 36 [(false, .s 17), (false, .c ⟨.one, [.int .i64 (-1099511627776)]⟩), (false, .c ⟨.one, [.int .i64 1099511627776]⟩)] [], []⟩ <|
  .op ⟨(some 19), none, .un .not (.s 18), [11, 14, 15, 16, 17, 18]⟩ <|
  .nil
def r150_7 : XL := .op ⟨(some 2), none, .asg (.c ⟨.one, [.bool false]⟩) false, [0, 3, 19]⟩ <|
  .nil
def r150_5 : XL := .op ⟨(some 12), none, .mv (.s 3), []⟩ <|
  .op ⟨(some 13), none, .bin .add (.s 12) (.c ⟨.one, [.int .i64 1]⟩), []⟩ <|
  .op ⟨(some 3), none, .asg (.s 13) false, [2, 12, 13, 19]⟩ <|
  .nil
def l150_0 : XCode := .keep [0, 3] [] (.seq (.seq (.ops r150_4) (.cond (.s 11) (.skip) (.exit 0))) (.seq (.block 1 (.seq (.ops r150_6) (.cond (.s 19) (.seq (.ops r150_7) (.ret)) (.skip)))) (.ops r150_5)))
def r150_8 : XL := .op ⟨(some 2), none, .asg (.c ⟨.one, [.bool true]⟩) false, [0, 3]⟩ <|
  .nil
def x150 : XCode := .seq (.ops r150_0) (.seq (.seq (.ops r150_1) (.cond (.s 7) (.seq (.ops r150_2) (.ret)) (.skip))) (.seq (.seq (.ops r150_3) (.block 0 (.loop l150_0))) (.seq (.ops r150_8) (.ret))))
theorem m150 : mFun Try.prog Try.f150 x150 [.tmp 2] 1 = true := by kernel_rfl
theorem k150 : Callable Try.prog 150 := callable_of (by kernel_rfl)

/-! internal/stringslite.HasPrefix -/
def r151_0 : XL := .op ⟨(some 4), none, .asg (.c ⟨.one, [.bool false]⟩) false, [4]⟩ <|
  .nil
def r151_1 : XL := .op ⟨(some 5), none, .mv (.s 0), []⟩ <|
  .op ⟨(some 6), none, .len true (.s 5), []⟩ <|
  .op ⟨(some 7), none, .mv (.s 1), []⟩ <|
  .op ⟨(some 8), none, .len true (.s 7), []⟩ <|
  .op ⟨(some 9), none, .bin .geq (.s 6) (.s 8), []⟩ <|
  .op ⟨(some 10), none, .mv (.s 9), []⟩ <|
  .sc 10 true (.op ⟨(some 11), (some (10, true)), .mv (.s 0), []⟩ <|
  .op ⟨(some 12), (some (10, true)), .mv (.s 1), []⟩ <|
  .op ⟨(some 13), (some (10, true)), .len true (.s 12), []⟩ <|
  .op ⟨(some 14), (some (10, true)), .slcS (.s 11) none (some (.s 13)), []⟩ <|
  .op ⟨(some 15), (some (10, true)), .mv (.s 1), []⟩ <|
  .op ⟨(some 16), (some (10, true)), .bin .eql (.s 14) (.s 15), []⟩ <|
  .nil) [11, 12, 13, 14, 15, 16] 17 none (.s 10) (.s 16) [] <|
  .op ⟨(some 4), none, .asg (.s 17) false, [0, 1, 5, 6, 7, 8, 9, 10, 17]⟩ <|
  .nil
def x151 : XCode := .seq (.ops r151_0) (.seq (.ops r151_1) (.ret))
theorem m151 : mFun Try.prog Try.f151 x151 [.tmp 4] 2 = true := by kernel_rfl
theorem k151 : Callable Try.prog 151 := callable_of (by kernel_rfl)

/-! loop.example/g00360/impl.ZigZag -/
def r152_0 : XL := .op ⟨(some 2), none, .asg (.c ⟨.one, [.int .i64 0]⟩) false, [2]⟩ <|
  .nil
def r152_1 : XL := .op ⟨(some 4), none, .mv (.s 0), []⟩ <|
  .op ⟨(some 5), none, .call 32 [(false, .s 4), (false, .c ⟨.one, [.int .i64 0]⟩), (false, .c ⟨.one, [.int .i64 140737488355328]⟩)] [], []⟩ <|
  .op ⟨(some 3), none, .asg (.s 5) false, [4, 5]⟩ <|
  .nil
def r152_2 : XL := .op ⟨(some 6), none, .mv (.s 0), []⟩ <|
  .op ⟨(some 7), none, .bin .mul (.c ⟨.one, [.int .i64 2]⟩) (.s 6), []⟩ <|
  .op ⟨(some 2), none, .asg (.s 7) false, [0, 3, 6, 7]⟩ <|
  .nil
def r152_3 : XL := .op ⟨(some 9), none, .mv (.s 0), []⟩ <|
  .op ⟨(some 10), none, .call 32 [(false, .s 9), (false, .c ⟨.one, [.int .i64 (-140737488355328)]⟩), (false, .c ⟨.one, [.int .i64 (-1)]⟩)] [], []⟩ <|
  .op ⟨(some 8), none, .asg (.s 10) false, [3, 9, 10]⟩ <|
  .nil
def r152_4 : XL := .op ⟨(some 11), none, .mv (.s 0), []⟩ <|
  .op ⟨(some 12), none, .bin .mul (.c ⟨.one, [.int .i64 (-2)]⟩) (.s 11), []⟩ <|
  .op ⟨(some 13), none, .bin .sub (.s 12) (.c ⟨.one, [.int .i64 1]⟩), []⟩ <|
  .op ⟨(some 2), none, .asg (.s 13) false, [0, 8, 11, 12, 13]⟩ <|
  .nil
def r152_5 : XL := .op ⟨(some 2), none, .asg (.c ⟨.one, [.int .i64 (-1)]⟩) false, [0, 8]⟩ <|
  .nil
def x152 : XCode := .seq (.ops r152_0) (.seq (.block 0 (.seq (.ops r152_1) (.cond (.s 3) (.seq (.ops r152_2) (.ret)) (.seq (.ops r152_3) (.cond (.s 8) (.seq (.ops r152_4) (.ret)) (.skip)))))) (.seq (.ops r152_5) (.ret)))
theorem m152 : mFun Try.prog Try.f152 x152 [.tmp 2] 1 = true := by kernel_rfl
theorem k152 : Callable Try.prog 152 := callable_of (by kernel_rfl)

end Go.Eng
