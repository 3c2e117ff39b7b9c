/- Tl2None: for every deed, every values and number the law returns true, and each argument reads as it did; by an evaluator of the compiled code that is proved sound for the model. Part 4 of 11. -/
import Derived.Test.YtfncjdkfedlnaaaGreatNone3
set_option linter.unusedSimpArgs false
set_option linter.unusedVariables false

/- Compiled functions. -/
namespace Ev
open Go

def m132 : MFn := ⟨25, [(2, none)], (.seq (.region 1 [
  ⟨(some 2), none, .mv (.const (.slice none 0 0)), 0, [], true⟩])
 (.seq (.region 1 [
  ⟨(some 3), none, .mv (.const (.slice none 0 0)), 0, [], true⟩])
 (.seq (.seq (.region 1 [
  ⟨(some 4), none, .mv (.const (.int .i64 0)), 0, [], true⟩])
 (.block 0 (.loop (.seq (.seq (.region 2 [
  ⟨(some 7), none, .mv (.tmp 4), 0, [], true⟩,
  ⟨(some 8), none, .bin .lss (.tmp 7) (.const (.int .i64 12)), 1, [], true⟩])
 (.cond (.tmp 8) .skip (.exit 0)))
 (.seq (.block 1 (.seq (.region 8 [
  ⟨(some 12), none, .mv (.tmp 0), 0, [], true⟩,
  ⟨(some 13), none, .mv (.tmp 4), 1, [], true⟩,
  ⟨(some 14), none, .call (.func 170) [(.tmp 12), (.tmp 13)], 2, [], true⟩,
  ⟨(some 11), none, .mv (.tmp 14), 3, [], true⟩,
  ⟨(some 15), none, .extract (.tmp 11) 0, 4, [], true⟩,
  ⟨(some 16), none, .extract (.tmp 11) 1, 5, [], true⟩,
  ⟨(some 5), none, .mv (.tmp 15), 6, [], true⟩,
  ⟨(some 6), none, .mv (.tmp 16), 7, [], true⟩])
 (.seq (.region 1 [
  ⟨(some 17), none, .mv (.tmp 6), 0, [], true⟩])
 (.cond (.tmp 17) (.region 7 [
  ⟨(some 18), none, .mv (.tmp 3), 0, [], true⟩,
  ⟨(some 19), none, .mv (.tmp 4), 1, [], true⟩,
  ⟨(some 20), none, .mv (.tmp 5), 2, [], true⟩,
  ⟨(some 21), none, .build [(.int .i64 0), (.int .u64 0)] [(0, 1, (.tmp 19)), (1, 1, (.tmp 20))], 3, [], true⟩,
  ⟨(some 22), none, .buildSl 138 2 1 [(.int .i64 0), (.int .u64 0)] [(0, 2, (.tmp 21))], 4, [], true⟩,
  ⟨(some 23), none, .append 138 2 16 (.tmp 18) (.tmp 22), 5, [], true⟩,
  ⟨(some 3), none, .mv (.tmp 23), 6, [], true⟩]) .skip))))
 (.region 3 [
  ⟨(some 9), none, .mv (.tmp 4), 0, [], true⟩,
  ⟨(some 10), none, .bin .add (.tmp 9) (.const (.int .i64 1)), 1, [], true⟩,
  ⟨(some 4), none, .mv (.tmp 10), 2, [], true⟩]))))))
 (.seq (.region 2 [
  ⟨(some 24), none, .mv (.tmp 3), 0, [], true⟩,
  ⟨(some 2), none, .mv (.tmp 24), 1, [], true⟩])
 .ret))))⟩

def m133 : MFn := ⟨32, [(4, none)], (.seq (.region 1 [
  ⟨(some 4), none, .mv (.const (.slice none 0 0)), 0, [], true⟩])
 (.seq (.region 1 [
  ⟨(some 5), none, .mv (.const (.slice none 0 0)), 0, [], true⟩])
 (.seq (.seq (.region 1 [
  ⟨(some 6), none, .mv (.const (.int .i64 0)), 0, [], true⟩])
 (.block 0 (.loop (.seq (.seq (.region 4 [
  ⟨(some 9), none, .mv (.tmp 0), 0, [], true⟩,
  ⟨(some 10), none, .mv (.tmp 6), 1, [], true⟩,
  ⟨(some 11), none, .call (.func 184) [(.tmp 9), (.tmp 10)], 2, [], true⟩,
  ⟨(some 12), none, .bin .eql (.tmp 11) (.const (.int .i64 0)), 3, [], true⟩])
 (.cond (.tmp 12) .skip (.exit 0)))
 (.seq (.block 1 (.seq (.region 8 [
  ⟨(some 16), none, .mv (.tmp 0), 0, [], true⟩,
  ⟨(some 17), none, .mv (.tmp 6), 1, [], true⟩,
  ⟨(some 18), none, .call (.func 185) [(.tmp 16), (.tmp 17)], 2, [], true⟩,
  ⟨(some 15), none, .mv (.tmp 18), 3, [], true⟩,
  ⟨(some 19), none, .extract (.tmp 15) 0, 4, [], true⟩,
  ⟨(some 20), none, .extract (.tmp 15) 1, 5, [], true⟩,
  ⟨(some 7), none, .mv (.tmp 19), 6, [], true⟩,
  ⟨(some 8), none, .mv (.tmp 20), 7, [], true⟩])
 (.seq (.region 6 [
  ⟨(some 21), none, .mv (.tmp 8), 0, [], true⟩,
  ⟨(some 22), none, .mv (.tmp 21), 1, [], true⟩,
  ⟨(some 23), (some (22, true)), .mv (.tmp 7), 2, [], true⟩,
  ⟨(some 24), (some (22, true)), .mv (.tmp 1), 3, [], true⟩,
  ⟨(some 25), (some (22, true)), .bin .eql (.tmp 23) (.tmp 24), 4, [], true⟩,
  ⟨(some 26), none, .pick (.tmp 22) (.tmp 25) (.const (.bool false)), 5, [], true⟩])
 (.cond (.tmp 26) (.region 5 [
  ⟨(some 27), none, .mv (.tmp 5), 0, [], true⟩,
  ⟨(some 28), none, .mv (.tmp 6), 1, [], true⟩,
  ⟨(some 29), none, .buildSl 3 1 1 [(.int .i64 0)] [(0, 1, (.tmp 28))], 2, [], true⟩,
  ⟨(some 30), none, .append 3 1 8 (.tmp 27) (.tmp 29), 3, [], true⟩,
  ⟨(some 5), none, .mv (.tmp 30), 4, [], true⟩]) .skip))))
 (.region 3 [
  ⟨(some 13), none, .mv (.tmp 6), 0, [], true⟩,
  ⟨(some 14), none, .bin .add (.tmp 13) (.const (.int .i64 1)), 1, [], true⟩,
  ⟨(some 6), none, .mv (.tmp 14), 2, [], true⟩]))))))
 (.seq (.region 2 [
  ⟨(some 31), none, .mv (.tmp 5), 0, [], true⟩,
  ⟨(some 4), none, .mv (.tmp 31), 1, [], true⟩])
 .ret))))⟩

def m134 : MFn := ⟨20, [(4, none), (5, none)], (.seq (.region 2 [
  ⟨(some 4), none, .mv (.const (.int .u64 0)), 0, [], true⟩,
  ⟨(some 5), none, .mv (.const (.int .i64 0)), 1, [], true⟩])
 (.seq (.seq (.region 4 [
  ⟨(some 7), none, .mv (.tmp 0), 0, [], true⟩,
  ⟨(some 8), none, .mv (.tmp 1), 1, [], true⟩,
  ⟨(some 9), none, .call (.func 184) [(.tmp 7), (.tmp 8)], 2, [], true⟩,
  ⟨(some 6), none, .mv (.tmp 9), 3, [], true⟩])
 (.seq (.region 2 [
  ⟨(some 10), none, .mv (.tmp 6), 0, [], true⟩,
  ⟨(some 11), none, .bin .neq (.tmp 10) (.const (.int .i64 0)), 1, [], true⟩])
 (.cond (.tmp 11) (.seq (.region 3 [
  ⟨(some 12), none, .mv (.tmp 6), 0, [], true⟩,
  ⟨(some 4), none, .mv (.const (.int .u64 0)), 1, [], true⟩,
  ⟨(some 5), none, .mv (.tmp 12), 2, [], true⟩])
 .ret) .skip)))
 (.seq (.region 9 [
  ⟨(some 13), none, .mv (.tmp 0), 0, [], true⟩,
  ⟨(some 14), none, .nilCheck (.tmp 13), 1, [], true⟩,
  ⟨(some 15), none, .fieldAddr 0 (.tmp 14), 2, [], true⟩,
  ⟨(some 16), none, .load 1 false (.tmp 15), 3, [], true⟩,
  ⟨(some 17), none, .mv (.tmp 1), 4, [], true⟩,
  ⟨(some 18), none, .adSl 1 (.tmp 16) (.tmp 17), 5, [], true⟩,
  ⟨(some 19), none, .load 1 false (.tmp 18), 6, [], true⟩,
  ⟨(some 4), none, .mv (.tmp 19), 7, [], true⟩,
  ⟨(some 5), none, .mv (.const (.int .i64 0)), 8, [], true⟩])
 .ret)))⟩

def m135 : MFn := ⟨24, [(4, none)], (.seq (.region 1 [
  ⟨(some 4), none, .mv (.const (.int .i64 0)), 0, [], true⟩])
 (.seq (.seq (.region 10 [
  ⟨(some 5), none, .mv (.tmp 0), 0, [], true⟩,
  ⟨(some 6), none, .eq false .ptr (.tmp 5) (.const (.pointer none)), 1, [], true⟩,
  ⟨(some 7), none, .mv (.tmp 6), 2, [], true⟩,
  ⟨(some 8), (some (7, false)), .mv (.tmp 1), 3, [], true⟩,
  ⟨(some 9), (some (7, false)), .bin .lss (.tmp 8) (.const (.int .i64 0)), 4, [], true⟩,
  ⟨(some 10), none, .pick (.tmp 7) (.const (.bool true)) (.tmp 9), 5, [], true⟩,
  ⟨(some 11), none, .mv (.tmp 10), 6, [], true⟩,
  ⟨(some 12), (some (11, false)), .mv (.tmp 1), 7, [], true⟩,
  ⟨(some 13), (some (11, false)), .bin .geq (.tmp 12) (.const (.int .i64 12)), 8, [], true⟩,
  ⟨(some 14), none, .pick (.tmp 11) (.const (.bool true)) (.tmp 13), 9, [], true⟩])
 (.cond (.tmp 14) (.seq (.region 1 [
  ⟨(some 4), none, .mv (.const (.int .i64 (-1))), 0, [], true⟩])
 .ret) .skip))
 (.seq (.region 10 [
  ⟨(some 15), none, .mv (.tmp 1), 0, [], true⟩,
  ⟨(some 16), none, .bin .mul (.tmp 15) (.const (.int .i64 5)), 1, [], true⟩,
  ⟨(some 17), none, .bin .add (.tmp 16) (.const (.int .i64 3)), 2, [], true⟩,
  ⟨(some 18), none, .mv (.tmp 0), 3, [], true⟩,
  ⟨(some 19), none, .nilCheck (.tmp 18), 4, [], true⟩,
  ⟨(some 20), none, .fieldAddr 0 (.tmp 19), 5, [], true⟩,
  ⟨(some 21), none, .load 1 false (.tmp 20), 6, [], true⟩,
  ⟨(some 22), none, .len false (.tmp 21), 7, [], true⟩,
  ⟨(some 23), none, .bin .rem (.tmp 17) (.tmp 22), 8, [], true⟩,
  ⟨(some 4), none, .mv (.tmp 23), 9, [], true⟩])
 .ret)))⟩

def m136 : MFn := ⟨32, [(6, none)], (.seq (.region 1 [
  ⟨(some 6), none, .mv (.const (.bool false)), 0, [], true⟩])
 (.seq (.region 9 [
  ⟨(some 11), none, .mv (.tmp 0), 0, [], true⟩,
  ⟨(some 12), none, .call (.func 186) [(.tmp 11)], 1, [], true⟩,
  ⟨(some 10), none, .mv (.tmp 12), 2, [], true⟩,
  ⟨(some 13), none, .extract (.tmp 10) 0, 3, [], true⟩,
  ⟨(some 14), none, .extract (.tmp 10) 1, 4, [], true⟩,
  ⟨(some 15), none, .extract (.tmp 10) 2, 5, [], true⟩,
  ⟨(some 7), none, .mv (.tmp 13), 6, [], true⟩,
  ⟨(some 8), none, .mv (.tmp 14), 7, [], true⟩,
  ⟨(some 9), none, .mv (.tmp 15), 8, [], true⟩])
 (.seq (.region 17 [
  ⟨(some 16), none, .mv (.tmp 9), 0, [], true⟩,
  ⟨(some 17), none, .bin .eql (.tmp 16) (.const (.int .i64 0)), 1, [], true⟩,
  ⟨(some 18), none, .mv (.tmp 17), 2, [], true⟩,
  ⟨(some 19), (some (18, true)), .mv (.tmp 7), 3, [], true⟩,
  ⟨(some 20), (some (18, true)), .bin .lss (.tmp 19) (.const (.int .i64 0)), 4, [], true⟩,
  ⟨(some 21), (some (18, true)), .mv (.tmp 20), 5, [], true⟩,
  ⟨(some 22), (some (21, false)), .mv (.tmp 7), 6, [], true⟩,
  ⟨(some 23), (some (21, false)), .mv (.tmp 1), 7, [], true⟩,
  ⟨(some 24), (some (21, false)), .bin .eql (.tmp 22) (.tmp 23), 8, [], true⟩,
  ⟨(some 25), (some (18, true)), .pick (.tmp 21) (.const (.bool true)) (.tmp 24), 9, [], true⟩,
  ⟨(some 26), none, .pick (.tmp 18) (.tmp 25) (.const (.bool false)), 10, [], true⟩,
  ⟨(some 27), none, .mv (.tmp 26), 11, [], true⟩,
  ⟨(some 28), (some (27, true)), .mv (.tmp 8), 12, [], true⟩,
  ⟨(some 29), (some (27, true)), .mv (.tmp 2), 13, [], true⟩,
  ⟨(some 30), (some (27, true)), .bin .leq (.tmp 28) (.tmp 29), 14, [], true⟩,
  ⟨(some 31), none, .pick (.tmp 27) (.tmp 30) (.const (.bool false)), 15, [], true⟩,
  ⟨(some 6), none, .mv (.tmp 31), 16, [], true⟩])
 .ret)))⟩

def m137 : MFn := ⟨9, [(4, none)], (.seq (.region 1 [
  ⟨(some 4), none, .mv (.const (.pointer none)), 0, [], true⟩])
 (.seq (.region 5 [
  ⟨(some 5), none, .mv (.tmp 1), 0, [], true⟩,
  ⟨(some 6), none, .mv (.tmp 0), 1, [], true⟩,
  ⟨(some 7), none, .build [(.slice none 0 0), (.pointer none)] [(0, 1, (.tmp 5)), (1, 1, (.tmp 6))], 2, [], true⟩,
  ⟨(some 8), none, .box 244 (.tmp 7), 3, [], true⟩,
  ⟨(some 4), none, .mv (.tmp 8), 4, [], true⟩])
 .ret))⟩

def m139 : MFn := ⟨152, [(6, (some (7, true)))], (.seq (.region 1 [
  ⟨(some 6), none, .alloc [(.bool false), (.int .u64 0), (.bool false), (.int .i64 0), (.bool false), (.int .u8 0), (.int .i64 0)] 70, 0, [], true⟩])
 (.seq (.region 6 [
  ⟨(some 15), none, .mv (.tmp 2), 0, [], true⟩,
  ⟨(some 16), none, .nilCheck (.tmp 15), 1, [], true⟩,
  ⟨(some 17), none, .fieldAddr 5 (.tmp 16), 2, [], true⟩,
  ⟨(some 18), none, .fieldAddr 1 (.tmp 17), 3, [], true⟩,
  ⟨(some 19), none, .load 1 false (.tmp 18), 4, [], true⟩,
  ⟨(some 7), none, .mv (.tmp 19), 5, [], true⟩])
 (.seq (.seq (.region 11 [
  ⟨(some 21), none, .mv (.tmp 2), 0, [], true⟩,
  ⟨(some 22), none, .nilCheck (.tmp 21), 1, [], true⟩,
  ⟨(some 23), none, .fieldAddr 1 (.tmp 22), 2, [], true⟩,
  ⟨(some 24), none, .load 1 false (.tmp 23), 3, [], true⟩,
  ⟨(some 25), none, .mv (.tmp 7), 4, [], true⟩,
  ⟨(some 26), none, .call (.func 143) [(.tmp 24), (.tmp 25)], 5, [], true⟩,
  ⟨(some 20), none, .mv (.tmp 26), 6, [], true⟩,
  ⟨(some 27), none, .extract (.tmp 20) 0, 7, [], true⟩,
  ⟨(some 28), none, .extract (.tmp 20) 1, 8, [], true⟩,
  ⟨(some 8), none, .mv (.tmp 27), 9, [], true⟩,
  ⟨(some 9), none, .mv (.tmp 28), 10, [], true⟩])
 (.seq (.region 1 [
  ⟨(some 29), none, .mv (.tmp 9), 0, [], true⟩])
 (.cond (.tmp 29) (.seq (.region 5 [
  ⟨(some 30), none, .mv (.tmp 0), 0, [], true⟩,
  ⟨(some 31), none, .mv (.tmp 2), 1, [], true⟩,
  ⟨(some 32), none, .mv (.tmp 8), 2, [], true⟩,
  ⟨(some 33), none, .call (.func 187) [(.tmp 30), (.tmp 31), (.tmp 32)], 3, [], true⟩,
  ⟨none, none, .store 7 (.tmp 6) (.tmp 33), 4, [], true⟩])
 .ret) .skip)))
 (.seq (.region 7 [
  ⟨(some 34), none, .mv (.tmp 0), 0, [], true⟩,
  ⟨(some 35), none, .nilCheck (.tmp 34), 1, [], true⟩,
  ⟨(some 36), none, .fieldAddr 0 (.tmp 35), 2, [], true⟩,
  ⟨(some 37), none, .load 1 false (.tmp 36), 3, [], true⟩,
  ⟨(some 38), none, .mv (.tmp 7), 4, [], true⟩,
  ⟨(some 39), none, .call (.func 97) [(.tmp 37), (.tmp 38)], 5, [], true⟩,
  ⟨(some 10), none, .mv (.tmp 39), 6, [], true⟩])
 (.seq (.region 11 [
  ⟨(some 41), none, .mv (.tmp 0), 0, [], true⟩,
  ⟨(some 42), none, .nilCheck (.tmp 41), 1, [], true⟩,
  ⟨(some 43), none, .fieldAddr 0 (.tmp 42), 2, [], true⟩,
  ⟨(some 44), none, .load 1 false (.tmp 43), 3, [], true⟩,
  ⟨(some 45), none, .mv (.tmp 10), 4, [], true⟩,
  ⟨(some 46), none, .call (.func 96) [(.tmp 44), (.tmp 45)], 5, [], true⟩,
  ⟨(some 40), none, .mv (.tmp 46), 6, [], true⟩,
  ⟨(some 47), none, .extract (.tmp 40) 0, 7, [], true⟩,
  ⟨(some 48), none, .extract (.tmp 40) 1, 8, [], true⟩,
  ⟨(some 11), none, .mv (.tmp 47), 9, [], true⟩,
  ⟨(some 12), none, .mv (.tmp 48), 10, [], true⟩])
 (.seq (.region 10 [
  ⟨(some 49), none, .mv (.tmp 2), 0, [], true⟩,
  ⟨(some 50), none, .nilCheck (.tmp 49), 1, [], true⟩,
  ⟨(some 51), none, .fieldAddr 10 (.tmp 50), 2, [], true⟩,
  ⟨(some 52), none, .fieldAddr 2 (.tmp 51), 3, [], true⟩,
  ⟨(some 53), none, .load 1 false (.tmp 52), 4, [], true⟩,
  ⟨(some 54), none, .bin .add (.tmp 53) (.const (.int .i64 1)), 5, [], true⟩,
  ⟨(some 55), none, .nilCheck (.tmp 49), 6, [], true⟩,
  ⟨(some 56), none, .fieldAddr 10 (.tmp 55), 7, [], true⟩,
  ⟨(some 57), none, .fieldAddr 2 (.tmp 56), 8, [], true⟩,
  ⟨none, none, .store 1 (.tmp 57) (.tmp 54), 9, [], true⟩])
 (.seq (.seq (.region 5 [
  ⟨(some 58), none, .mv (.tmp 2), 0, [], true⟩,
  ⟨(some 59), none, .nilCheck (.tmp 58), 1, [], true⟩,
  ⟨(some 60), none, .fieldAddr 10 (.tmp 59), 2, [], true⟩,
  ⟨(some 61), none, .fieldAddr 2 (.tmp 60), 3, [], true⟩,
  ⟨(some 62), none, .load 1 false (.tmp 61), 4, [], true⟩])
 (.block 0 (.seq (.region 2 [
  ⟨(some 64), none, .bin .eql (.tmp 62) (.const (.int .i64 1)), 0, [], true⟩,
  ⟨(some 63), none, .mv (.tmp 64), 1, [], true⟩])
 (.cond (.tmp 63) (.seq (.seq (.region 10 [
  ⟨(some 66), none, .mv (.tmp 0), 0, [], true⟩,
  ⟨(some 67), none, .mv (.tmp 1), 1, [], true⟩,
  ⟨(some 68), none, .mv (.tmp 10), 2, [], true⟩,
  ⟨(some 69), none, .call (.func 188) [(.tmp 66), (.tmp 67), (.tmp 68)], 3, [], true⟩,
  ⟨(some 65), none, .mv (.tmp 69), 4, [], true⟩,
  ⟨(some 70), none, .extract (.tmp 65) 0, 5, [], true⟩,
  ⟨(some 71), none, .extract (.tmp 65) 1, 6, [], true⟩,
  ⟨(some 13), none, .alloc [(.bool false), (.int .u64 0), (.bool false), (.int .i64 0), (.bool false), (.int .u8 0), (.int .i64 0)] 70, 7, [], true⟩,
  ⟨none, none, .store 7 (.tmp 13) (.tmp 70), 8, [], true⟩,
  ⟨(some 14), none, .mv (.tmp 71), 9, [], true⟩])
 (.seq (.region 1 [
  ⟨(some 72), none, .mv (.tmp 14), 0, [], true⟩])
 (.cond (.tmp 72) (.seq (.region 5 [
  ⟨(some 73), none, .mv (.tmp 2), 0, [], true⟩,
  ⟨(some 74), none, .nilCheck (.tmp 73), 1, [], true⟩,
  ⟨(some 75), none, .fieldAddr 10 (.tmp 74), 2, [], true⟩,
  ⟨(some 76), none, .fieldAddr 2 (.tmp 75), 3, [], true⟩,
  ⟨none, none, .store 1 (.tmp 76) (.const (.int .i64 0)), 4, [], true⟩])
 (.seq (.region 2 [
  ⟨(some 77), none, .load 7 true (.tmp 13), 0, [], true⟩,
  ⟨none, none, .store 7 (.tmp 6) (.tmp 77), 1, [], true⟩])
 .ret)) .skip)))
 (.seq (.seq (.region 11 [
  ⟨(some 78), none, .mv (.tmp 0), 0, [], true⟩,
  ⟨(some 79), none, .nilCheck (.tmp 78), 1, [], true⟩,
  ⟨(some 80), none, .fieldAddr 0 (.tmp 79), 2, [], true⟩,
  ⟨(some 81), none, .load 1 false (.tmp 80), 3, [], true⟩,
  ⟨(some 82), none, .mv (.tmp 10), 4, [], false⟩,
  ⟨(some 84), none, .mv (.tmp 2), 6, [], false⟩,
  ⟨(some 85), none, .nilCheck (.tmp 84), 7, [], false⟩,
  ⟨(some 86), none, .fieldAddr 3 (.tmp 85), 8, [], false⟩,
  ⟨(some 87), none, .load 1 false (.tmp 86), 9, [], false⟩,
  ⟨(some 83), none, .call (.func 189) [(.tmp 81), (.tmp 82)], 5, [(false, none, none, 9, .load 1 false (.tmp 86))], false⟩,
  ⟨(some 88), none, .bin .gtr (.tmp 83) (.tmp 87), 10, [], true⟩])
 (.cond (.tmp 88) (.seq (.region 4 [
  ⟨(some 89), none, .mv (.tmp 0), 0, [], true⟩,
  ⟨(some 90), none, .mv (.tmp 1), 1, [], true⟩,
  ⟨(some 91), none, .call (.func 42) [(.tmp 89), (.tmp 90), (.const (.int .u8 1))], 2, [], true⟩,
  ⟨none, none, .store 7 (.tmp 6) (.tmp 91), 3, [], true⟩])
 .ret) .skip))
 (.seq (.region 6 [
  ⟨(some 92), none, .mv (.tmp 2), 0, [], true⟩,
  ⟨(some 93), none, .mv (.tmp 11), 1, [], true⟩,
  ⟨(some 94), none, .nilCheck (.tmp 92), 2, [], true⟩,
  ⟨(some 95), none, .fieldAddr 10 (.tmp 94), 3, [], true⟩,
  ⟨(some 96), none, .fieldAddr 0 (.tmp 95), 4, [], true⟩,
  ⟨none, none, .store 1 (.tmp 96) (.tmp 93), 5, [], true⟩])
 (.seq (.region 2 [
  ⟨(some 97), none, .build [(.bool false), (.int .u64 0), (.bool false), (.int .i64 0), (.bool false), (.int .u8 0), (.int .i64 0)] [], 0, [], true⟩,
  ⟨none, none, .store 7 (.tmp 6) (.tmp 97), 1, [], true⟩])
 .ret)))) (.seq (.region 2 [
  ⟨(some 99), none, .bin .eql (.tmp 62) (.const (.int .i64 2)), 0, [], true⟩,
  ⟨(some 98), none, .mv (.tmp 99), 1, [], true⟩])
 (.cond (.tmp 98) (.seq (.region 12 [
  ⟨(some 100), none, .mv (.tmp 2), 0, [], true⟩,
  ⟨(some 101), none, .mv (.tmp 0), 1, [], true⟩,
  ⟨(some 102), none, .nilCheck (.tmp 101), 2, [], true⟩,
  ⟨(some 103), none, .fieldAddr 1 (.tmp 102), 3, [], true⟩,
  ⟨(some 104), none, .load 1 false (.tmp 103), 4, [], true⟩,
  ⟨(some 105), none, .mv (.tmp 7), 5, [], true⟩,
  ⟨(some 106), none, .adSl 1 (.tmp 104) (.tmp 105), 6, [], true⟩,
  ⟨(some 107), none, .load 1 false (.tmp 106), 7, [], true⟩,
  ⟨(some 108), none, .nilCheck (.tmp 100), 8, [], true⟩,
  ⟨(some 109), none, .fieldAddr 10 (.tmp 108), 9, [], true⟩,
  ⟨(some 110), none, .fieldAddr 1 (.tmp 109), 10, [], true⟩,
  ⟨none, none, .store 1 (.tmp 110) (.tmp 107), 11, [], true⟩])
 (.seq (.region 2 [
  ⟨(some 111), none, .build [(.bool false), (.int .u64 0), (.bool false), (.int .i64 0), (.bool false), (.int .u8 0), (.int .i64 0)] [], 0, [], true⟩,
  ⟨none, none, .store 7 (.tmp 6) (.tmp 111), 1, [], true⟩])
 .ret)) .skip))))))
 (.seq (.seq (.region 7 [
  ⟨(some 112), none, .mv (.tmp 11), 0, [], true⟩,
  ⟨(some 113), none, .mv (.tmp 2), 1, [], true⟩,
  ⟨(some 114), none, .nilCheck (.tmp 113), 2, [], true⟩,
  ⟨(some 115), none, .fieldAddr 10 (.tmp 114), 3, [], true⟩,
  ⟨(some 116), none, .fieldAddr 0 (.tmp 115), 4, [], true⟩,
  ⟨(some 117), none, .load 1 false (.tmp 116), 5, [], true⟩,
  ⟨(some 118), none, .bin .neq (.tmp 112) (.tmp 117), 6, [], true⟩])
 (.cond (.tmp 118) (.seq (.region 4 [
  ⟨(some 119), none, .mv (.tmp 0), 0, [], true⟩,
  ⟨(some 120), none, .mv (.tmp 1), 1, [], true⟩,
  ⟨(some 121), none, .call (.func 42) [(.tmp 119), (.tmp 120), (.const (.int .u8 1))], 2, [], true⟩,
  ⟨none, none, .store 7 (.tmp 6) (.tmp 121), 3, [], true⟩])
 .ret) .skip))
 (.seq (.seq (.region 19 [
  ⟨(some 122), none, .mv (.tmp 2), 0, [], true⟩,
  ⟨(some 123), none, .nilCheck (.tmp 122), 1, [], true⟩,
  ⟨(some 124), none, .fieldAddr 0 (.tmp 123), 2, [], true⟩,
  ⟨(some 125), none, .load 1 false (.tmp 124), 3, [], true⟩,
  ⟨(some 126), none, .mv (.tmp 7), 4, [], false⟩,
  ⟨(some 127), none, .mv (.tmp 2), 5, [], false⟩,
  ⟨(some 128), none, .nilCheck (.tmp 127), 6, [], false⟩,
  ⟨(some 129), none, .fieldAddr 10 (.tmp 128), 7, [], false⟩,
  ⟨(some 130), none, .fieldAddr 1 (.tmp 129), 8, [], false⟩,
  ⟨(some 131), none, .load 1 false (.tmp 130), 9, [], false⟩,
  ⟨(some 132), none, .mv (.tmp 0), 10, [], false⟩,
  ⟨(some 133), none, .nilCheck (.tmp 132), 11, [], false⟩,
  ⟨(some 134), none, .fieldAddr 0 (.tmp 133), 12, [], false⟩,
  ⟨(some 135), none, .load 1 false (.tmp 134), 13, [], false⟩,
  ⟨(some 136), none, .mv (.tmp 10), 14, [], false⟩,
  ⟨(some 137), none, .call (.func 189) [(.tmp 135), (.tmp 136)], 15, [(false, none, none, 3, .load 1 false (.tmp 124)), (false, none, none, 9, .load 1 false (.tmp 130))], false⟩,
  ⟨(some 138), none, .build [(.int .i64 0), (.int .u64 0), (.int .u64 0)] [(0, 1, (.tmp 126)), (1, 1, (.tmp 131)), (2, 1, (.tmp 137))], 16, [], false⟩,
  ⟨(some 139), none, .call (.func 190) [(.tmp 125), (.tmp 138)], 17, [], true⟩,
  ⟨(some 140), none, .bin .neq (.tmp 139) (.const (.int .i64 0)), 18, [], true⟩])
 (.cond (.tmp 140) (.seq (.region 4 [
  ⟨(some 141), none, .mv (.tmp 0), 0, [], true⟩,
  ⟨(some 142), none, .mv (.tmp 1), 1, [], true⟩,
  ⟨(some 143), none, .call (.func 42) [(.tmp 141), (.tmp 142), (.const (.int .u8 2))], 2, [], true⟩,
  ⟨none, none, .store 7 (.tmp 6) (.tmp 143), 3, [], true⟩])
 .ret) .skip))
 (.seq (.region 9 [
  ⟨(some 144), none, .mv (.tmp 0), 0, [], true⟩,
  ⟨(some 145), none, .mv (.tmp 2), 1, [], true⟩,
  ⟨(some 146), none, .mv (.tmp 2), 2, [], true⟩,
  ⟨(some 147), none, .nilCheck (.tmp 146), 3, [], true⟩,
  ⟨(some 148), none, .fieldAddr 10 (.tmp 147), 4, [], true⟩,
  ⟨(some 149), none, .fieldAddr 1 (.tmp 148), 5, [], true⟩,
  ⟨(some 150), none, .load 1 false (.tmp 149), 6, [], true⟩,
  ⟨(some 151), none, .call (.func 187) [(.tmp 144), (.tmp 145), (.tmp 150)], 7, [], true⟩,
  ⟨none, none, .store 7 (.tmp 6) (.tmp 151), 8, [], true⟩])
 .ret))))))))))⟩

def m140 : MFn := ⟨117, [(6, (some (7, true)))], (.seq (.region 1 [
  ⟨(some 6), none, .alloc [(.bool false), (.int .u64 0), (.bool false), (.int .i64 0), (.bool false), (.int .u8 0), (.int .i64 0)] 70, 0, [], true⟩])
 (.seq (.seq (.region 4 [
  ⟨(some 9), none, .mv (.tmp 2), 0, [], true⟩,
  ⟨(some 10), none, .nilCheck (.tmp 9), 1, [], true⟩,
  ⟨(some 11), none, .fieldAddr 8 (.tmp 10), 2, [], true⟩,
  ⟨(some 12), none, .load 1 false (.tmp 11), 3, [], true⟩])
 (.block 0 (.seq (.region 2 [
  ⟨(some 14), none, .bin .eql (.tmp 12) (.const (.int .i64 1)), 0, [], true⟩,
  ⟨(some 13), none, .mv (.tmp 14), 1, [], true⟩])
 (.cond (.tmp 13) (.seq (.region 5 [
  ⟨(some 15), none, .mv (.tmp 0), 0, [], true⟩,
  ⟨(some 16), none, .mv (.tmp 1), 1, [], true⟩,
  ⟨(some 17), none, .mv (.tmp 2), 2, [], true⟩,
  ⟨(some 18), none, .call (.func 191) [(.tmp 15), (.tmp 16), (.tmp 17)], 3, [], true⟩,
  ⟨none, none, .store 7 (.tmp 6) (.tmp 18), 4, [], true⟩])
 .ret) (.seq (.region 2 [
  ⟨(some 20), none, .bin .eql (.tmp 12) (.const (.int .i64 2)), 0, [], true⟩,
  ⟨(some 19), none, .mv (.tmp 20), 1, [], true⟩])
 (.cond (.tmp 19) (.seq (.region 5 [
  ⟨(some 21), none, .mv (.tmp 0), 0, [], true⟩,
  ⟨(some 22), none, .mv (.tmp 1), 1, [], true⟩,
  ⟨(some 23), none, .mv (.tmp 2), 2, [], true⟩,
  ⟨(some 24), none, .call (.func 192) [(.tmp 21), (.tmp 22), (.tmp 23)], 3, [], true⟩,
  ⟨none, none, .store 7 (.tmp 6) (.tmp 24), 4, [], true⟩])
 .ret) (.seq (.region 2 [
  ⟨(some 26), none, .bin .eql (.tmp 12) (.const (.int .i64 3)), 0, [], true⟩,
  ⟨(some 25), none, .mv (.tmp 26), 1, [], true⟩])
 (.cond (.tmp 25) (.seq (.region 6 [
  ⟨(some 27), none, .mv (.tmp 2), 0, [], true⟩,
  ⟨(some 28), none, .nilCheck (.tmp 27), 1, [], true⟩,
  ⟨(some 29), none, .fieldAddr 1 (.tmp 28), 2, [], true⟩,
  ⟨(some 30), none, .load 1 false (.tmp 29), 3, [], true⟩,
  ⟨(some 31), none, .call (.func 92) [(.tmp 30)], 4, [], true⟩,
  ⟨(some 7), none, .mv (.tmp 31), 5, [], true⟩])
 (.seq (.region 22 [
  ⟨(some 32), none, .mv (.tmp 0), 0, [], true⟩,
  ⟨(some 33), none, .nilCheck (.tmp 32), 1, [], true⟩,
  ⟨(some 34), none, .fieldAddr 1 (.tmp 33), 2, [], true⟩,
  ⟨(some 35), none, .load 1 false (.tmp 34), 3, [], true⟩,
  ⟨(some 36), none, .mv (.tmp 7), 4, [], false⟩,
  ⟨(some 37), none, .mv (.tmp 2), 5, [], false⟩,
  ⟨(some 38), none, .nilCheck (.tmp 37), 6, [], false⟩,
  ⟨(some 39), none, .fieldAddr 9 (.tmp 38), 7, [], false⟩,
  ⟨(some 40), none, .load 1 false (.tmp 39), 8, [], false⟩,
  ⟨(some 41), none, .adSl 2 (.tmp 36) (.tmp 40), 9, [], false⟩,
  ⟨(some 42), none, .fieldAddr 0 (.tmp 41), 10, [], false⟩,
  ⟨(some 43), none, .load 1 false (.tmp 42), 11, [], false⟩,
  ⟨(some 44), none, .mv (.tmp 7), 12, [], false⟩,
  ⟨(some 45), none, .mv (.tmp 2), 13, [], false⟩,
  ⟨(some 46), none, .nilCheck (.tmp 45), 14, [], false⟩,
  ⟨(some 47), none, .fieldAddr 9 (.tmp 46), 15, [], false⟩,
  ⟨(some 48), none, .load 1 false (.tmp 47), 16, [], false⟩,
  ⟨(some 49), none, .adSl 2 (.tmp 44) (.tmp 48), 17, [], false⟩,
  ⟨(some 50), none, .fieldAddr 1 (.tmp 49), 18, [], false⟩,
  ⟨(some 51), none, .load 1 false (.tmp 50), 19, [], false⟩,
  ⟨(some 52), none, .adSl 1 (.tmp 35) (.tmp 43), 20, [], true⟩,
  ⟨none, none, .store 1 (.tmp 52) (.tmp 51), 21, [], true⟩])
 (.seq (.seq (.region 8 [
  ⟨(some 53), none, .mv (.tmp 2), 0, [], true⟩,
  ⟨(some 54), none, .nilCheck (.tmp 53), 1, [], true⟩,
  ⟨(some 55), none, .fieldAddr 9 (.tmp 54), 2, [], true⟩,
  ⟨(some 56), none, .load 1 false (.tmp 55), 3, [], true⟩,
  ⟨(some 57), none, .bin .add (.tmp 56) (.const (.int .i64 1)), 4, [], true⟩,
  ⟨(some 58), none, .nilCheck (.tmp 53), 5, [], true⟩,
  ⟨(some 59), none, .fieldAddr 9 (.tmp 58), 6, [], true⟩,
  ⟨none, none, .store 1 (.tmp 59) (.tmp 57), 7, [], true⟩])
 (.seq (.region 7 [
  ⟨(some 60), none, .mv (.tmp 2), 0, [], true⟩,
  ⟨(some 61), none, .nilCheck (.tmp 60), 1, [], true⟩,
  ⟨(some 62), none, .fieldAddr 9 (.tmp 61), 2, [], true⟩,
  ⟨(some 63), none, .load 1 false (.tmp 62), 3, [], true⟩,
  ⟨(some 64), none, .mv (.tmp 7), 4, [], true⟩,
  ⟨(some 65), none, .len false (.tmp 64), 5, [], true⟩,
  ⟨(some 66), none, .bin .eql (.tmp 63) (.tmp 65), 6, [], true⟩])
 (.cond (.tmp 66) (.region 4 [
  ⟨(some 67), none, .mv (.tmp 2), 0, [], true⟩,
  ⟨(some 68), none, .nilCheck (.tmp 67), 1, [], true⟩,
  ⟨(some 69), none, .fieldAddr 8 (.tmp 68), 2, [], true⟩,
  ⟨none, none, .store 1 (.tmp 69) (.const (.int .i64 4)), 3, [], true⟩]) .skip)))
 (.seq (.region 2 [
  ⟨(some 70), none, .build [(.bool false), (.int .u64 0), (.bool false), (.int .i64 0), (.bool false), (.int .u8 0), (.int .i64 0)] [], 0, [], true⟩,
  ⟨none, none, .store 7 (.tmp 6) (.tmp 70), 1, [], true⟩])
 .ret)))) (.seq (.region 2 [
  ⟨(some 72), none, .bin .eql (.tmp 12) (.const (.int .i64 4)), 0, [], true⟩,
  ⟨(some 71), none, .mv (.tmp 72), 1, [], true⟩])
 (.cond (.tmp 71) (.seq (.region 7 [
  ⟨(some 73), none, .mv (.tmp 0), 0, [], true⟩,
  ⟨(some 74), none, .nilCheck (.tmp 73), 1, [], true⟩,
  ⟨(some 75), none, .fieldAddr 0 (.tmp 74), 2, [], true⟩,
  ⟨(some 76), none, .load 1 false (.tmp 75), 3, [], true⟩,
  ⟨(some 77), none, .mv (.tmp 1), 4, [], true⟩,
  ⟨(some 78), none, .call (.func 44) [(.tmp 76), (.tmp 77)], 5, [], true⟩,
  ⟨(some 8), none, .mv (.tmp 78), 6, [], true⟩])
 (.seq (.region 13 [
  ⟨(some 79), none, .mv (.tmp 0), 0, [], true⟩,
  ⟨(some 80), none, .nilCheck (.tmp 79), 1, [], true⟩,
  ⟨(some 81), none, .fieldAddr 0 (.tmp 80), 2, [], true⟩,
  ⟨(some 82), none, .load 1 false (.tmp 81), 3, [], true⟩,
  ⟨(some 83), none, .mv (.tmp 1), 4, [], false⟩,
  ⟨(some 84), none, .mv (.tmp 8), 5, [], false⟩,
  ⟨(some 85), none, .adSl 1 (.tmp 84) (.const (.int .i64 0)), 6, [], false⟩,
  ⟨(some 86), none, .load 1 false (.tmp 85), 7, [], false⟩,
  ⟨(some 87), none, .mv (.tmp 2), 8, [], false⟩,
  ⟨(some 88), none, .nilCheck (.tmp 87), 9, [], false⟩,
  ⟨(some 89), none, .fieldAddr 4 (.tmp 88), 10, [], false⟩,
  ⟨(some 90), none, .load 1 false (.tmp 89), 11, [], false⟩,
  ⟨(some 91), none, .call (.func 193) [(.tmp 82), (.tmp 83), (.tmp 86), (.tmp 90)], 12, [], true⟩])
 (.seq (.seq (.region 3 [
  ⟨(some 92), none, .mv (.tmp 8), 0, [], true⟩,
  ⟨(some 93), none, .len false (.tmp 92), 1, [], true⟩,
  ⟨(some 94), none, .bin .eql (.tmp 93) (.const (.int .i64 1)), 2, [], true⟩])
 (.cond (.tmp 94) (.seq (.region 4 [
  ⟨(some 95), none, .mv (.tmp 0), 0, [], true⟩,
  ⟨(some 96), none, .mv (.tmp 1), 1, [], true⟩,
  ⟨(some 97), none, .call (.func 194) [(.tmp 95), (.tmp 96)], 2, [], true⟩,
  ⟨none, none, .store 7 (.tmp 6) (.tmp 97), 3, [], true⟩])
 .ret) .skip))
 (.seq (.region 2 [
  ⟨(some 98), none, .build [(.bool false), (.int .u64 0), (.bool false), (.int .i64 0), (.bool false), (.int .u8 0), (.int .i64 0)] [], 0, [], true⟩,
  ⟨none, none, .store 7 (.tmp 6) (.tmp 98), 1, [], true⟩])
 .ret)))) .skip))))))))))
 (.seq (.region 4 [
  ⟨(some 99), none, .mv (.tmp 0), 0, [], true⟩,
  ⟨(some 100), none, .mv (.tmp 2), 1, [], true⟩,
  ⟨(some 101), none, .build [(.int .i64 0), (.int .u64 0)] [], 2, [], true⟩,
  ⟨(some 102), none, .call (.func 88) [(.tmp 99), (.const (.int .u8 7)), (.tmp 100), (.tmp 101)], 3, [], true⟩])
 (.seq (.seq (.region 7 [
  ⟨(some 103), none, .mv (.tmp 2), 0, [], true⟩,
  ⟨(some 104), none, .nilCheck (.tmp 103), 1, [], true⟩,
  ⟨(some 105), none, .fieldAddr 1 (.tmp 104), 2, [], true⟩,
  ⟨(some 106), none, .load 1 false (.tmp 105), 3, [], true⟩,
  ⟨(some 107), none, .call (.func 92) [(.tmp 106)], 4, [], true⟩,
  ⟨(some 108), none, .len false (.tmp 107), 5, [], true⟩,
  ⟨(some 109), none, .bin .eql (.tmp 108) (.const (.int .i64 0)), 6, [], true⟩])
 (.cond (.tmp 109) (.seq (.region 4 [
  ⟨(some 110), none, .mv (.tmp 0), 0, [], true⟩,
  ⟨(some 111), none, .mv (.tmp 1), 1, [], true⟩,
  ⟨(some 112), none, .call (.func 194) [(.tmp 110), (.tmp 111)], 2, [], true⟩,
  ⟨none, none, .store 7 (.tmp 6) (.tmp 112), 3, [], true⟩])
 .ret) .skip))
 (.seq (.region 4 [
  ⟨(some 113), none, .mv (.tmp 2), 0, [], true⟩,
  ⟨(some 114), none, .nilCheck (.tmp 113), 1, [], true⟩,
  ⟨(some 115), none, .fieldAddr 8 (.tmp 114), 2, [], true⟩,
  ⟨none, none, .store 1 (.tmp 115) (.const (.int .i64 1)), 3, [], true⟩])
 (.seq (.region 2 [
  ⟨(some 116), none, .build [(.bool false), (.int .u64 0), (.bool false), (.int .i64 0), (.bool false), (.int .u8 0), (.int .i64 0)] [], 0, [], true⟩,
  ⟨none, none, .store 7 (.tmp 6) (.tmp 116), 1, [], true⟩])
 .ret))))))⟩

def m141 : MFn := ⟨10, [(6, (some (7, true)))], (.seq (.region 1 [
  ⟨(some 6), none, .alloc [(.bool false), (.int .u64 0), (.bool false), (.int .i64 0), (.bool false), (.int .u8 0), (.int .i64 0)] 70, 0, [], true⟩])
 (.seq (.region 4 [
  ⟨(some 7), none, .mv (.tmp 0), 0, [], true⟩,
  ⟨(some 8), none, .mv (.tmp 1), 1, [], true⟩,
  ⟨(some 9), none, .call (.func 42) [(.tmp 7), (.tmp 8), (.const (.int .u8 4))], 2, [], true⟩,
  ⟨none, none, .store 7 (.tmp 6) (.tmp 9), 3, [], true⟩])
 .ret))⟩

def m142 : MFn := ⟨68, [(6, (some (7, true)))], (.seq (.region 1 [
  ⟨(some 6), none, .alloc [(.bool false), (.int .u64 0), (.bool false), (.int .i64 0), (.bool false), (.int .u8 0), (.int .i64 0)] 70, 0, [], true⟩])
 (.seq (.region 3 [
  ⟨(some 9), none, .build [(.int .i64 0), (.int .u64 0)] [], 0, [], true⟩,
  ⟨(some 7), none, .alloc [(.int .i64 0), (.int .u64 0)] 138, 1, [], true⟩,
  ⟨none, none, .store 2 (.tmp 7) (.tmp 9), 2, [], true⟩])
 (.seq (.region 1 [
  ⟨(some 8), none, .mv (.const (.int .u8 3)), 0, [], true⟩])
 (.seq (.seq (.region 5 [
  ⟨(some 10), none, .mv (.tmp 2), 0, [], true⟩,
  ⟨(some 11), none, .nilCheck (.tmp 10), 1, [], true⟩,
  ⟨(some 12), none, .fieldAddr 5 (.tmp 11), 2, [], true⟩,
  ⟨(some 13), none, .fieldAddr 0 (.tmp 12), 3, [], true⟩,
  ⟨(some 14), none, .load 1 false (.tmp 13), 4, [], true⟩])
 (.block 0 (.seq (.region 2 [
  ⟨(some 40), none, .bin .eql (.tmp 14) (.const (.int .u8 3)), 0, [], true⟩,
  ⟨(some 39), none, .mv (.tmp 40), 1, [], true⟩])
 (.cond (.tmp 39) (.seq (.region 5 [
  ⟨(some 41), none, .mv (.tmp 2), 0, [], true⟩,
  ⟨(some 42), none, .nilCheck (.tmp 41), 1, [], true⟩,
  ⟨(some 43), none, .fieldAddr 1 (.tmp 42), 2, [], true⟩,
  ⟨(some 44), none, .load 1 false (.tmp 43), 3, [], true⟩,
  ⟨(some 45), none, .call (.func 195) [(.tmp 44)], 4, [], true⟩])
 (.region 1 [
  ⟨(some 8), none, .mv (.const (.int .u8 4)), 0, [], true⟩])) (.seq (.region 2 [
  ⟨(some 47), none, .bin .eql (.tmp 14) (.const (.int .u8 4)), 0, [], true⟩,
  ⟨(some 46), none, .mv (.tmp 47), 1, [], true⟩])
 (.cond (.tmp 46) (.seq (.region 5 [
  ⟨(some 48), none, .mv (.tmp 2), 0, [], true⟩,
  ⟨(some 49), none, .nilCheck (.tmp 48), 1, [], true⟩,
  ⟨(some 50), none, .fieldAddr 1 (.tmp 49), 2, [], true⟩,
  ⟨(some 51), none, .load 1 false (.tmp 50), 3, [], true⟩,
  ⟨(some 52), none, .call (.func 196) [(.tmp 51)], 4, [], true⟩])
 (.region 1 [
  ⟨(some 8), none, .mv (.const (.int .u8 5)), 0, [], true⟩])) (.seq (.region 2 [
  ⟨(some 54), none, .bin .eql (.tmp 14) (.const (.int .u8 5)), 0, [], true⟩,
  ⟨(some 53), none, .mv (.tmp 54), 1, [], true⟩])
 (.cond (.tmp 53) (.seq (.region 5 [
  ⟨(some 55), none, .mv (.tmp 2), 0, [], true⟩,
  ⟨(some 56), none, .nilCheck (.tmp 55), 1, [], true⟩,
  ⟨(some 57), none, .fieldAddr 1 (.tmp 56), 2, [], true⟩,
  ⟨(some 58), none, .load 1 false (.tmp 57), 3, [], true⟩,
  ⟨(some 59), none, .call (.func 197) [(.tmp 58)], 4, [], true⟩])
 (.region 1 [
  ⟨(some 8), none, .mv (.const (.int .u8 6)), 0, [], true⟩])) (.seq (.region 12 [
  ⟨(some 15), none, .mv (.tmp 2), 0, [], true⟩,
  ⟨(some 16), none, .nilCheck (.tmp 15), 1, [], true⟩,
  ⟨(some 17), none, .fieldAddr 5 (.tmp 16), 2, [], true⟩,
  ⟨(some 18), none, .fieldAddr 1 (.tmp 17), 3, [], true⟩,
  ⟨(some 19), none, .load 1 false (.tmp 18), 4, [], true⟩,
  ⟨(some 20), none, .mv (.tmp 2), 5, [], false⟩,
  ⟨(some 21), none, .nilCheck (.tmp 20), 6, [], false⟩,
  ⟨(some 22), none, .fieldAddr 5 (.tmp 21), 7, [], false⟩,
  ⟨(some 23), none, .fieldAddr 2 (.tmp 22), 8, [], false⟩,
  ⟨(some 24), none, .load 1 false (.tmp 23), 9, [], false⟩,
  ⟨(some 25), none, .build [(.int .i64 0), (.int .u64 0)] [(0, 1, (.tmp 19)), (1, 1, (.tmp 24))], 10, [], true⟩,
  ⟨none, none, .store 2 (.tmp 7) (.tmp 25), 11, [], true⟩])
 (.seq (.region 10 [
  ⟨(some 26), none, .mv (.tmp 2), 0, [], true⟩,
  ⟨(some 27), none, .nilCheck (.tmp 26), 1, [], true⟩,
  ⟨(some 28), none, .fieldAddr 1 (.tmp 27), 2, [], true⟩,
  ⟨(some 29), none, .load 1 false (.tmp 28), 3, [], true⟩,
  ⟨(some 30), none, .fieldAddr 0 (.tmp 7), 4, [], false⟩,
  ⟨(some 31), none, .load 1 false (.tmp 30), 5, [], false⟩,
  ⟨(some 32), none, .fieldAddr 1 (.tmp 7), 6, [], false⟩,
  ⟨(some 33), none, .load 1 false (.tmp 32), 7, [], false⟩,
  ⟨(some 34), none, .call (.func 198) [(.tmp 29), (.tmp 31), (.tmp 33)], 8, [], true⟩,
  ⟨(some 35), none, .bin .neq (.tmp 34) (.const (.int .i64 0)), 9, [], true⟩])
 (.cond (.tmp 35) (.seq (.region 4 [
  ⟨(some 36), none, .mv (.tmp 0), 0, [], true⟩,
  ⟨(some 37), none, .mv (.tmp 1), 1, [], true⟩,
  ⟨(some 38), none, .call (.func 42) [(.tmp 36), (.tmp 37), (.const (.int .u8 2))], 2, [], true⟩,
  ⟨none, none, .store 7 (.tmp 6) (.tmp 38), 3, [], true⟩])
 .ret) .skip)))))))))))
 (.seq (.region 5 [
  ⟨(some 60), none, .mv (.tmp 0), 0, [], true⟩,
  ⟨(some 61), none, .mv (.tmp 8), 1, [], true⟩,
  ⟨(some 62), none, .mv (.tmp 2), 2, [], true⟩,
  ⟨(some 63), none, .load 2 true (.tmp 7), 3, [], true⟩,
  ⟨(some 64), none, .call (.func 88) [(.tmp 60), (.tmp 61), (.tmp 62), (.tmp 63)], 4, [], true⟩])
 (.seq (.region 2 [
  ⟨(some 65), none, .mv (.tmp 2), 0, [], true⟩,
  ⟨(some 66), none, .call (.func 199) [(.tmp 65)], 1, [], true⟩])
 (.seq (.region 2 [
  ⟨(some 67), none, .build [(.bool false), (.int .u64 0), (.bool false), (.int .i64 0), (.bool false), (.int .u8 0), (.int .i64 0)] [(0, 1, (.const (.bool true)))], 0, [], true⟩,
  ⟨none, none, .store 7 (.tmp 6) (.tmp 67), 1, [], true⟩])
 .ret)))))))⟩

def m143 : MFn := ⟨25, [(4, (some (1, false))), (5, (some (1, false)))], (.seq (.region 3 [
  ⟨(some 3), none, .box 3 (.tmp 1), 0, [], true⟩,
  ⟨(some 4), none, .alloc [(.int .u64 0)] 42, 1, [], true⟩,
  ⟨(some 5), none, .alloc [(.bool false)] 4, 2, [], true⟩])
 (.seq (.seq (.region 2 [
  ⟨(some 9), none, .mv (.tmp 0), 0, [], true⟩,
  ⟨(some 10), none, .eq false .ptr (.tmp 9) (.const (.pointer none)), 1, [], true⟩])
 (.cond (.tmp 10) (.seq (.region 2 [
  ⟨none, none, .store 1 (.tmp 4) (.const (.int .u64 0)), 0, [], true⟩,
  ⟨none, none, .store 1 (.tmp 5) (.const (.bool false)), 1, [], true⟩])
 .ret) .skip))
 (.seq (.seq (.region 5 [
  ⟨(some 11), none, .mv (.tmp 0), 0, [], true⟩,
  ⟨(some 12), none, .nilCheck (.tmp 11), 1, [], true⟩,
  ⟨(some 13), none, .fieldAddr 0 (.tmp 12), 2, [], true⟩,
  ⟨(some 14), none, .load 1 false (.tmp 13), 3, [], true⟩,
  ⟨(some 15), none, .call (.func 200) [(.tmp 14)], 4, [], true⟩])
 (.block 0 (.rangeF (.tmp 15) [16] (.region 1 [
  ⟨(some 6), none, .mv (.tmp 16), 0, [], true⟩]) (.block 1 (.seq (.region 8 [
  ⟨(some 18), none, .mv (.tmp 6), 0, [], true⟩,
  ⟨(some 19), none, .load 1 false (.tmp 3), 1, [], true⟩,
  ⟨(some 20), none, .call (.func 201) [(.tmp 18), (.tmp 19)], 2, [], true⟩,
  ⟨(some 17), none, .mv (.tmp 20), 3, [], true⟩,
  ⟨(some 21), none, .extract (.tmp 17) 0, 4, [], true⟩,
  ⟨(some 22), none, .extract (.tmp 17) 1, 5, [], true⟩,
  ⟨(some 7), none, .mv (.tmp 21), 6, [], true⟩,
  ⟨(some 8), none, .mv (.tmp 22), 7, [], true⟩])
 (.seq (.region 1 [
  ⟨(some 23), none, .mv (.tmp 8), 0, [], true⟩])
 (.cond (.tmp 23) (.seq (.region 3 [
  ⟨(some 24), none, .mv (.tmp 7), 0, [], true⟩,
  ⟨none, none, .store 1 (.tmp 4) (.tmp 24), 1, [], true⟩,
  ⟨none, none, .store 1 (.tmp 5) (.const (.bool true)), 2, [], true⟩])
 .ret) .skip)))))))
 (.seq (.region 2 [
  ⟨none, none, .store 1 (.tmp 4) (.const (.int .u64 0)), 0, [], true⟩,
  ⟨none, none, .store 1 (.tmp 5) (.const (.bool false)), 1, [], true⟩])
 .ret))))⟩

def m144 : MFn := ⟨19, [(4, none)], (.seq (.region 1 [
  ⟨(some 4), none, .mv (.const (.int .i64 0)), 0, [], true⟩])
 (.seq (.seq (.region 3 [
  ⟨(some 6), none, .mv (.tmp 0), 0, [], true⟩,
  ⟨(some 7), none, .len false (.tmp 6), 1, [], true⟩,
  ⟨(some 8), none, .mv (.const (.int .i64 0)), 2, [], true⟩])
 (.block 0 (.loop (.seq (.region 1 [
  ⟨(some 9), none, .bin .lss (.tmp 8) (.tmp 7), 0, [], true⟩])
 (.seq (.cond (.tmp 9) .skip (.exit 0))
 (.seq (.block 1 (.seq (.region 2 [
  ⟨(some 10), none, .mv (.tmp 8), 0, [], true⟩,
  ⟨(some 5), none, .mv (.tmp 10), 1, [], true⟩])
 (.seq (.region 6 [
  ⟨(some 11), none, .mv (.tmp 1), 0, [], true⟩,
  ⟨(some 12), none, .mv (.tmp 0), 1, [], true⟩,
  ⟨(some 13), none, .mv (.tmp 5), 2, [], true⟩,
  ⟨(some 14), none, .adSl 1 (.tmp 12) (.tmp 13), 3, [], true⟩,
  ⟨(some 15), none, .load 1 false (.tmp 14), 4, [], true⟩,
  ⟨(some 16), none, .call (.tmp 11) [(.tmp 15)], 5, [], true⟩])
 (.cond (.tmp 16) (.seq (.region 2 [
  ⟨(some 17), none, .mv (.tmp 5), 0, [], true⟩,
  ⟨(some 4), none, .mv (.tmp 17), 1, [], true⟩])
 .ret) .skip))))
 (.region 2 [
  ⟨(some 18), none, .bin .add (.tmp 8) (.const (.int .i64 1)), 0, [], true⟩,
  ⟨(some 8), none, .mv (.tmp 18), 1, [], true⟩])))))))
 (.seq (.region 1 [
  ⟨(some 4), none, .mv (.const (.int .i64 (-1))), 0, [], true⟩])
 .ret)))⟩

def m145 : MFn := ⟨20, [(4, none)], (.seq (.region 1 [
  ⟨(some 4), none, .mv (.const (.int .i64 0)), 0, [], true⟩])
 (.seq (.block 0 (.seq (.region 3 [
  ⟨(some 6), none, .mv (.tmp 0), 0, [], true⟩,
  ⟨(some 7), none, .eq false .ptr (.tmp 6) (.const (.pointer none)), 1, [], true⟩,
  ⟨(some 5), none, .mv (.tmp 7), 2, [], true⟩])
 (.cond (.tmp 5) (.seq (.region 1 [
  ⟨(some 4), none, .mv (.const (.int .i64 1)), 0, [], true⟩])
 .ret) (.seq (.region 12 [
  ⟨(some 9), none, .mv (.tmp 1), 0, [], true⟩,
  ⟨(some 10), none, .bin .lss (.tmp 9) (.const (.int .i64 0)), 1, [], true⟩,
  ⟨(some 11), none, .mv (.tmp 10), 2, [], true⟩,
  ⟨(some 12), (some (11, false)), .mv (.tmp 1), 3, [], true⟩,
  ⟨(some 13), (some (11, false)), .mv (.tmp 0), 4, [], true⟩,
  ⟨(some 14), (some (11, false)), .nilCheck (.tmp 13), 5, [], true⟩,
  ⟨(some 15), (some (11, false)), .fieldAddr 1 (.tmp 14), 6, [], true⟩,
  ⟨(some 16), (some (11, false)), .load 1 false (.tmp 15), 7, [], true⟩,
  ⟨(some 17), (some (11, false)), .len false (.tmp 16), 8, [], true⟩,
  ⟨(some 18), (some (11, false)), .bin .geq (.tmp 12) (.tmp 17), 9, [], true⟩,
  ⟨(some 19), none, .pick (.tmp 11) (.const (.bool true)) (.tmp 18), 10, [], true⟩,
  ⟨(some 8), none, .mv (.tmp 19), 11, [], true⟩])
 (.cond (.tmp 8) (.seq (.region 1 [
  ⟨(some 4), none, .mv (.const (.int .i64 2)), 0, [], true⟩])
 .ret) .skip)))))
 (.seq (.region 1 [
  ⟨(some 4), none, .mv (.const (.int .i64 0)), 0, [], true⟩])
 .ret)))⟩

def m146 : MFn := ⟨37, [(2, (some (2, true))), (3, none)], (.seq (.region 2 [
  ⟨(some 2), none, .alloc [(.int .i64 0), (.int .u64 0)] 207, 0, [], true⟩,
  ⟨(some 3), none, .mv (.const (.bool false)), 1, [], true⟩])
 (.seq (.region 4 [
  ⟨(some 7), none, .mv (.tmp 0), 0, [], true⟩,
  ⟨(some 8), none, .call (.func 202) [(.tmp 7)], 1, [], true⟩,
  ⟨(some 4), none, .alloc [(.bool false), (.bool false), (.bool false), (.bool false), (.bool false)] 249, 2, [], true⟩,
  ⟨none, none, .store 5 (.tmp 4) (.tmp 8), 3, [], true⟩])
 (.seq (.region 5 [
  ⟨(some 9), none, .mv (.tmp 0), 0, [], true⟩,
  ⟨(some 10), none, .bin .shr (.tmp 9) (.const (.int .u64 5)), 1, [], true⟩,
  ⟨(some 11), none, .build [(.int .i64 0), (.int .u64 0)] [(0, 1, (.const (.int .i64 (-1)))), (1, 1, (.tmp 10))], 2, [], true⟩,
  ⟨(some 5), none, .alloc [(.int .i64 0), (.int .u64 0)] 207, 3, [], true⟩,
  ⟨none, none, .store 2 (.tmp 5) (.tmp 11), 4, [], true⟩])
 (.seq (.seq (.region 3 [
  ⟨(some 12), none, .load 5 true (.tmp 4), 0, [], true⟩,
  ⟨(some 13), none, .build [(.bool false), (.bool false), (.bool false), (.bool false), (.bool false)] [], 1, [], true⟩,
  ⟨(some 14), none, .eq true (.st [(0, 1, false, .bool), (1, 1, false, .bool), (2, 1, false, .bool), (3, 1, false, .bool), (4, 1, false, .bool)]) (.tmp 12) (.tmp 13), 2, [], true⟩])
 (.cond (.tmp 14) (.seq (.region 2 [
  ⟨(some 15), none, .fieldAddr 0 (.tmp 5), 0, [], true⟩,
  ⟨none, none, .store 1 (.tmp 15) (.const (.int .i64 0)), 1, [], true⟩])
 (.seq (.seq (.region 1 [
  ⟨(some 16), none, .mv (.const (.int .i64 0)), 0, [], true⟩])
 (.block 0 (.loop (.seq (.region 1 [
  ⟨(some 17), none, .bin .lss (.tmp 16) (.const (.int .i64 4)), 0, [], true⟩])
 (.seq (.cond (.tmp 17) .skip (.exit 0))
 (.seq (.block 1 (.seq (.region 2 [
  ⟨(some 18), none, .mv (.tmp 16), 0, [], true⟩,
  ⟨(some 6), none, .mv (.tmp 18), 1, [], true⟩])
 (.seq (.region 4 [
  ⟨(some 19), none, .mv (.tmp 6), 0, [], true⟩,
  ⟨(some 20), none, .bin .add (.tmp 19) (.const (.int .i64 1)), 1, [], true⟩,
  ⟨(some 21), none, .adArr 5 1 (.tmp 4) (.tmp 20), 2, [], true⟩,
  ⟨(some 22), none, .load 1 false (.tmp 21), 3, [], true⟩])
 (.cond (.tmp 22) (.region 7 [
  ⟨(some 23), none, .fieldAddr 0 (.tmp 5), 0, [], true⟩,
  ⟨(some 24), none, .load 1 false (.tmp 23), 1, [], true⟩,
  ⟨(some 25), none, .mv (.tmp 6), 2, [], false⟩,
  ⟨(some 26), none, .bin .shl (.const (.int .i64 1)) (.tmp 25), 3, [], false⟩,
  ⟨(some 27), none, .bin .or (.tmp 24) (.tmp 26), 4, [], true⟩,
  ⟨(some 28), none, .fieldAddr 0 (.tmp 5), 5, [], true⟩,
  ⟨none, none, .store 1 (.tmp 28) (.tmp 27), 6, [], true⟩]) .skip))))
 (.region 2 [
  ⟨(some 29), none, .bin .add (.tmp 16) (.const (.int .i64 1)), 0, [], true⟩,
  ⟨(some 16), none, .mv (.tmp 29), 1, [], true⟩])))))))
 (.seq (.region 3 [
  ⟨(some 30), none, .adArr 5 1 (.tmp 4) (.const (.int .i64 0)), 0, [], true⟩,
  ⟨(some 31), none, .load 1 false (.tmp 30), 1, [], true⟩,
  ⟨(some 32), none, .un .not (.tmp 31), 2, [], true⟩])
 (.cond (.tmp 32) (.seq (.region 3 [
  ⟨(some 33), none, .build [(.int .i64 0), (.int .u64 0)] [], 0, [], true⟩,
  ⟨none, none, .store 2 (.tmp 2) (.tmp 33), 1, [], true⟩,
  ⟨(some 3), none, .mv (.const (.bool false)), 2, [], true⟩])
 .ret) .skip)))) .skip))
 (.seq (.region 5 [
  ⟨(some 34), none, .load 2 true (.tmp 5), 0, [], true⟩,
  ⟨(some 35), none, .load 2 true (.tmp 5), 1, [], false⟩,
  ⟨(some 36), none, .call (.func 203) [(.tmp 35)], 2, [(false, none, none, 0, .load 2 true (.tmp 5))], false⟩,
  ⟨none, none, .store 2 (.tmp 2) (.tmp 34), 3, [], true⟩,
  ⟨(some 3), none, .mv (.tmp 36), 4, [], true⟩])
 .ret)))))⟩

def m147 : MFn := ⟨19, [(4, none)], (.seq (.region 1 [
  ⟨(some 4), none, .mv (.const (.int .i64 0)), 0, [], true⟩])
 (.seq (.seq (.region 3 [
  ⟨(some 6), none, .mv (.tmp 0), 0, [], true⟩,
  ⟨(some 7), none, .len false (.tmp 6), 1, [], true⟩,
  ⟨(some 8), none, .mv (.const (.int .i64 0)), 2, [], true⟩])
 (.block 0 (.loop (.seq (.region 1 [
  ⟨(some 9), none, .bin .lss (.tmp 8) (.tmp 7), 0, [], true⟩])
 (.seq (.cond (.tmp 9) .skip (.exit 0))
 (.seq (.block 1 (.seq (.region 2 [
  ⟨(some 10), none, .mv (.tmp 8), 0, [], true⟩,
  ⟨(some 5), none, .mv (.tmp 10), 1, [], true⟩])
 (.seq (.region 6 [
  ⟨(some 11), none, .mv (.tmp 1), 0, [], true⟩,
  ⟨(some 12), none, .mv (.tmp 0), 1, [], true⟩,
  ⟨(some 13), none, .mv (.tmp 5), 2, [], true⟩,
  ⟨(some 14), none, .adSl 1 (.tmp 12) (.tmp 13), 3, [], true⟩,
  ⟨(some 15), none, .load 1 false (.tmp 14), 4, [], true⟩,
  ⟨(some 16), none, .call (.tmp 11) [(.tmp 15)], 5, [], true⟩])
 (.cond (.tmp 16) (.seq (.region 2 [
  ⟨(some 17), none, .mv (.tmp 5), 0, [], true⟩,
  ⟨(some 4), none, .mv (.tmp 17), 1, [], true⟩])
 .ret) .skip))))
 (.region 2 [
  ⟨(some 18), none, .bin .add (.tmp 8) (.const (.int .i64 1)), 0, [], true⟩,
  ⟨(some 8), none, .mv (.tmp 18), 1, [], true⟩])))))))
 (.seq (.region 1 [
  ⟨(some 4), none, .mv (.const (.int .i64 (-1))), 0, [], true⟩])
 .ret)))⟩

def m148 : MFn := ⟨11, [(6, none)], (.seq (.region 2 [
  ⟨(some 4), none, .box 3 (.tmp 1), 0, [], true⟩,
  ⟨(some 6), none, .mv (.const (.int .i64 0)), 1, [], true⟩])
 (.seq (.region 5 [
  ⟨(some 7), none, .mv (.tmp 0), 0, [], true⟩,
  ⟨(some 8), none, .mv (.tmp 2), 1, [], true⟩,
  ⟨(some 9), none, .func (.func 205) [] [(.tmp 4)], 2, [], true⟩,
  ⟨(some 10), none, .call (.func 204) [(.tmp 7), (.tmp 8), (.tmp 9)], 3, [], true⟩,
  ⟨(some 6), none, .mv (.tmp 10), 4, [], true⟩])
 .ret))⟩

def m149 : MFn := ⟨49, [], (.seq (.region 3 [
  ⟨(some 8), none, .mv (.tmp 1), 0, [], true⟩,
  ⟨(some 9), none, .bin .add (.tmp 8) (.const (.int .i64 1)), 1, [], true⟩,
  ⟨(some 6), none, .mv (.tmp 9), 2, [], true⟩])
 (.block 0 (.loop (.seq (.seq (.region 3 [
  ⟨(some 10), none, .mv (.tmp 6), 0, [], true⟩,
  ⟨(some 11), none, .mv (.tmp 2), 1, [], true⟩,
  ⟨(some 12), none, .bin .lss (.tmp 10) (.tmp 11), 2, [], true⟩])
 (.cond (.tmp 12) .skip (.exit 0)))
 (.seq (.block 1 (.seq (.region 2 [
  ⟨(some 15), none, .mv (.tmp 6), 0, [], true⟩,
  ⟨(some 7), none, .mv (.tmp 15), 1, [], true⟩])
 (.block 2 (.loop (.seq (.seq (.region 15 [
  ⟨(some 16), none, .mv (.tmp 7), 0, [], true⟩,
  ⟨(some 17), none, .mv (.tmp 1), 1, [], false⟩,
  ⟨(some 18), none, .bin .gtr (.tmp 16) (.tmp 17), 2, [], true⟩,
  ⟨(some 19), none, .mv (.tmp 18), 3, [], true⟩,
  ⟨(some 20), (some (19, true)), .mv (.tmp 0), 4, [], true⟩,
  ⟨(some 21), (some (19, true)), .mv (.tmp 7), 5, [], false⟩,
  ⟨(some 22), (some (19, true)), .adSl 1 (.tmp 20) (.tmp 21), 6, [], true⟩,
  ⟨(some 23), (some (19, true)), .load 1 false (.tmp 22), 7, [], true⟩,
  ⟨(some 24), (some (19, true)), .mv (.tmp 0), 8, [], false⟩,
  ⟨(some 25), (some (19, true)), .mv (.tmp 7), 9, [], false⟩,
  ⟨(some 26), (some (19, true)), .bin .sub (.tmp 25) (.const (.int .i64 1)), 10, [], false⟩,
  ⟨(some 27), (some (19, true)), .adSl 1 (.tmp 24) (.tmp 26), 11, [], false⟩,
  ⟨(some 28), (some (19, true)), .load 1 false (.tmp 27), 12, [], false⟩,
  ⟨(some 29), (some (19, true)), .call (.func 155) [(.tmp 23), (.tmp 28)], 13, [], true⟩,
  ⟨(some 30), none, .pick (.tmp 19) (.tmp 29) (.const (.bool false)), 14, [], true⟩])
 (.cond (.tmp 30) .skip (.exit 2)))
 (.seq (.block 3 (.region 18 [
  ⟨(some 33), none, .mv (.tmp 0), 0, [], true⟩,
  ⟨(some 34), none, .mv (.tmp 7), 1, [], false⟩,
  ⟨(some 35), none, .mv (.tmp 0), 2, [], false⟩,
  ⟨(some 36), none, .mv (.tmp 7), 3, [], false⟩,
  ⟨(some 37), none, .bin .sub (.tmp 36) (.const (.int .i64 1)), 4, [], false⟩,
  ⟨(some 38), none, .mv (.tmp 0), 5, [], false⟩,
  ⟨(some 39), none, .mv (.tmp 7), 6, [], false⟩,
  ⟨(some 40), none, .bin .sub (.tmp 39) (.const (.int .i64 1)), 7, [], false⟩,
  ⟨(some 41), none, .adSl 1 (.tmp 38) (.tmp 40), 8, [], false⟩,
  ⟨(some 42), none, .load 1 false (.tmp 41), 9, [], false⟩,
  ⟨(some 43), none, .mv (.tmp 0), 10, [], false⟩,
  ⟨(some 44), none, .mv (.tmp 7), 11, [], false⟩,
  ⟨(some 45), none, .adSl 1 (.tmp 43) (.tmp 44), 12, [], false⟩,
  ⟨(some 46), none, .load 1 false (.tmp 45), 13, [], false⟩,
  ⟨(some 47), none, .adSl 1 (.tmp 33) (.tmp 34), 14, [], false⟩,
  ⟨none, none, .store 1 (.tmp 47) (.tmp 42), 15, [], false⟩,
  ⟨(some 48), none, .adSl 1 (.tmp 35) (.tmp 37), 16, [], true⟩,
  ⟨none, none, .store 1 (.tmp 48) (.tmp 46), 17, [], true⟩]))
 (.region 3 [
  ⟨(some 31), none, .mv (.tmp 7), 0, [], true⟩,
  ⟨(some 32), none, .bin .sub (.tmp 31) (.const (.int .i64 1)), 1, [], true⟩,
  ⟨(some 7), none, .mv (.tmp 32), 2, [], true⟩])))))))
 (.region 3 [
  ⟨(some 13), none, .mv (.tmp 6), 0, [], true⟩,
  ⟨(some 14), none, .bin .add (.tmp 13) (.const (.int .i64 1)), 1, [], true⟩,
  ⟨(some 6), none, .mv (.tmp 14), 2, [], true⟩]))))))⟩

def m150 : MFn := ⟨56, [], (.seq (.region 2 [
  ⟨(some 11), none, .mv (.tmp 1), 0, [], true⟩,
  ⟨(some 6), none, .mv (.tmp 11), 1, [], true⟩])
 (.seq (.region 1 [
  ⟨(some 7), none, .mv (.const (.int .i64 0)), 0, [], true⟩])
 (.seq (.region 4 [
  ⟨(some 12), none, .mv (.tmp 2), 0, [], true⟩,
  ⟨(some 13), none, .mv (.tmp 1), 1, [], true⟩,
  ⟨(some 14), none, .bin .sub (.tmp 12) (.tmp 13), 2, [], true⟩,
  ⟨(some 8), none, .mv (.tmp 14), 3, [], true⟩])
 (.seq (.seq (.region 4 [
  ⟨(some 15), none, .mv (.tmp 8), 0, [], true⟩,
  ⟨(some 16), none, .bin .sub (.tmp 15) (.const (.int .i64 1)), 1, [], true⟩,
  ⟨(some 17), none, .bin .quo (.tmp 16) (.const (.int .i64 2)), 2, [], true⟩,
  ⟨(some 9), none, .mv (.tmp 17), 3, [], true⟩])
 (.block 0 (.loop (.seq (.seq (.region 2 [
  ⟨(some 18), none, .mv (.tmp 9), 0, [], true⟩,
  ⟨(some 19), none, .bin .geq (.tmp 18) (.const (.int .i64 0)), 1, [], true⟩])
 (.cond (.tmp 19) .skip (.exit 0)))
 (.seq (.block 1 (.region 5 [
  ⟨(some 22), none, .mv (.tmp 0), 0, [], true⟩,
  ⟨(some 23), none, .mv (.tmp 9), 1, [], true⟩,
  ⟨(some 24), none, .mv (.tmp 8), 2, [], true⟩,
  ⟨(some 25), none, .mv (.tmp 6), 3, [], true⟩,
  ⟨(some 26), none, .call (.func 207) [(.tmp 22), (.tmp 23), (.tmp 24), (.tmp 25)], 4, [], true⟩]))
 (.region 3 [
  ⟨(some 20), none, .mv (.tmp 9), 0, [], true⟩,
  ⟨(some 21), none, .bin .sub (.tmp 20) (.const (.int .i64 1)), 1, [], true⟩,
  ⟨(some 9), none, .mv (.tmp 21), 2, [], true⟩]))))))
 (.seq (.region 3 [
  ⟨(some 27), none, .mv (.tmp 8), 0, [], true⟩,
  ⟨(some 28), none, .bin .sub (.tmp 27) (.const (.int .i64 1)), 1, [], true⟩,
  ⟨(some 10), none, .mv (.tmp 28), 2, [], true⟩])
 (.block 2 (.loop (.seq (.seq (.region 2 [
  ⟨(some 29), none, .mv (.tmp 10), 0, [], true⟩,
  ⟨(some 30), none, .bin .geq (.tmp 29) (.const (.int .i64 0)), 1, [], true⟩])
 (.cond (.tmp 30) .skip (.exit 2)))
 (.seq (.block 3 (.seq (.region 20 [
  ⟨(some 33), none, .mv (.tmp 0), 0, [], true⟩,
  ⟨(some 34), none, .mv (.tmp 6), 1, [], false⟩,
  ⟨(some 35), none, .mv (.tmp 0), 2, [], false⟩,
  ⟨(some 36), none, .mv (.tmp 6), 3, [], false⟩,
  ⟨(some 37), none, .mv (.tmp 10), 4, [], false⟩,
  ⟨(some 38), none, .bin .add (.tmp 36) (.tmp 37), 5, [], false⟩,
  ⟨(some 39), none, .mv (.tmp 0), 6, [], false⟩,
  ⟨(some 40), none, .mv (.tmp 6), 7, [], false⟩,
  ⟨(some 41), none, .mv (.tmp 10), 8, [], false⟩,
  ⟨(some 42), none, .bin .add (.tmp 40) (.tmp 41), 9, [], false⟩,
  ⟨(some 43), none, .adSl 1 (.tmp 39) (.tmp 42), 10, [], false⟩,
  ⟨(some 44), none, .load 1 false (.tmp 43), 11, [], false⟩,
  ⟨(some 45), none, .mv (.tmp 0), 12, [], false⟩,
  ⟨(some 46), none, .mv (.tmp 6), 13, [], false⟩,
  ⟨(some 47), none, .adSl 1 (.tmp 45) (.tmp 46), 14, [], false⟩,
  ⟨(some 48), none, .load 1 false (.tmp 47), 15, [], false⟩,
  ⟨(some 49), none, .adSl 1 (.tmp 33) (.tmp 34), 16, [], false⟩,
  ⟨none, none, .store 1 (.tmp 49) (.tmp 44), 17, [], false⟩,
  ⟨(some 50), none, .adSl 1 (.tmp 35) (.tmp 38), 18, [], true⟩,
  ⟨none, none, .store 1 (.tmp 50) (.tmp 48), 19, [], true⟩])
 (.region 5 [
  ⟨(some 51), none, .mv (.tmp 0), 0, [], true⟩,
  ⟨(some 52), none, .mv (.tmp 7), 1, [], true⟩,
  ⟨(some 53), none, .mv (.tmp 10), 2, [], true⟩,
  ⟨(some 54), none, .mv (.tmp 6), 3, [], true⟩,
  ⟨(some 55), none, .call (.func 207) [(.tmp 51), (.tmp 52), (.tmp 53), (.tmp 54)], 4, [], true⟩])))
 (.region 3 [
  ⟨(some 31), none, .mv (.tmp 10), 0, [], true⟩,
  ⟨(some 32), none, .bin .sub (.tmp 31) (.const (.int .i64 1)), 1, [], true⟩,
  ⟨(some 10), none, .mv (.tmp 32), 2, [], true⟩]))))))))))⟩

def m151 : MFn := ⟨65, [], (.seq (.region 4 [
  ⟨(some 11), none, .mv (.tmp 2), 0, [], true⟩,
  ⟨(some 12), none, .mv (.tmp 1), 1, [], true⟩,
  ⟨(some 13), none, .bin .sub (.tmp 11) (.tmp 12), 2, [], true⟩,
  ⟨(some 6), none, .mv (.tmp 13), 3, [], true⟩])
 (.seq (.region 2 [
  ⟨(some 14), none, .mv (.tmp 6), 0, [], true⟩,
  ⟨(some 15), none, .bin .geq (.tmp 14) (.const (.int .i64 8)), 1, [], true⟩])
 (.cond (.tmp 15) (.seq (.region 4 [
  ⟨(some 16), none, .mv (.tmp 6), 0, [], true⟩,
  ⟨(some 17), none, .conv .u64 (.tmp 16), 1, [], true⟩,
  ⟨(some 7), none, .alloc [(.int .u64 0)] 254, 2, [], true⟩,
  ⟨none, none, .store 1 (.tmp 7) (.tmp 17), 3, [], true⟩])
 (.seq (.region 3 [
  ⟨(some 18), none, .mv (.tmp 6), 0, [], true⟩,
  ⟨(some 19), none, .call (.func 208) [(.tmp 18)], 1, [], true⟩,
  ⟨(some 8), none, .mv (.tmp 19), 2, [], true⟩])
 (.seq (.region 7 [
  ⟨(some 20), none, .mv (.tmp 1), 0, [], true⟩,
  ⟨(some 21), none, .mv (.tmp 6), 1, [], true⟩,
  ⟨(some 22), none, .bin .quo (.tmp 21) (.const (.int .i64 4)), 2, [], true⟩,
  ⟨(some 23), none, .bin .mul (.tmp 22) (.const (.int .i64 2)), 3, [], true⟩,
  ⟨(some 24), none, .bin .add (.tmp 20) (.tmp 23), 4, [], true⟩,
  ⟨(some 25), none, .bin .sub (.tmp 24) (.const (.int .i64 1)), 5, [], true⟩,
  ⟨(some 9), none, .mv (.tmp 25), 6, [], true⟩])
 (.block 0 (.loop (.seq (.seq (.region 8 [
  ⟨(some 26), none, .mv (.tmp 9), 0, [], true⟩,
  ⟨(some 27), none, .mv (.tmp 1), 1, [], true⟩,
  ⟨(some 28), none, .mv (.tmp 6), 2, [], true⟩,
  ⟨(some 29), none, .bin .quo (.tmp 28) (.const (.int .i64 4)), 3, [], true⟩,
  ⟨(some 30), none, .bin .mul (.tmp 29) (.const (.int .i64 2)), 4, [], true⟩,
  ⟨(some 31), none, .bin .add (.tmp 27) (.tmp 30), 5, [], true⟩,
  ⟨(some 32), none, .bin .add (.tmp 31) (.const (.int .i64 1)), 6, [], true⟩,
  ⟨(some 33), none, .bin .leq (.tmp 26) (.tmp 32), 7, [], true⟩])
 (.cond (.tmp 33) .skip (.exit 0)))
 (.seq (.block 1 (.seq (.region 6 [
  ⟨(some 36), none, .call (.func 209) [(.tmp 7)], 0, [], true⟩,
  ⟨(some 37), none, .mv (.tmp 8), 1, [], true⟩,
  ⟨(some 38), none, .bin .sub (.tmp 37) (.const (.int .u64 1)), 2, [], true⟩,
  ⟨(some 39), none, .bin .and (.tmp 36) (.tmp 38), 3, [], true⟩,
  ⟨(some 40), none, .conv .i64 (.tmp 39), 4, [], true⟩,
  ⟨(some 10), none, .mv (.tmp 40), 5, [], true⟩])
 (.seq (.seq (.region 3 [
  ⟨(some 41), none, .mv (.tmp 10), 0, [], true⟩,
  ⟨(some 42), none, .mv (.tmp 6), 1, [], true⟩,
  ⟨(some 43), none, .bin .geq (.tmp 41) (.tmp 42), 2, [], true⟩])
 (.cond (.tmp 43) (.region 4 [
  ⟨(some 44), none, .mv (.tmp 10), 0, [], true⟩,
  ⟨(some 45), none, .mv (.tmp 6), 1, [], true⟩,
  ⟨(some 46), none, .bin .sub (.tmp 44) (.tmp 45), 2, [], true⟩,
  ⟨(some 10), none, .mv (.tmp 46), 3, [], true⟩]) .skip))
 (.region 20 [
  ⟨(some 47), none, .mv (.tmp 0), 0, [], true⟩,
  ⟨(some 48), none, .mv (.tmp 9), 1, [], false⟩,
  ⟨(some 49), none, .mv (.tmp 0), 2, [], false⟩,
  ⟨(some 50), none, .mv (.tmp 1), 3, [], false⟩,
  ⟨(some 51), none, .mv (.tmp 10), 4, [], false⟩,
  ⟨(some 52), none, .bin .add (.tmp 50) (.tmp 51), 5, [], false⟩,
  ⟨(some 53), none, .mv (.tmp 0), 6, [], false⟩,
  ⟨(some 54), none, .mv (.tmp 1), 7, [], false⟩,
  ⟨(some 55), none, .mv (.tmp 10), 8, [], false⟩,
  ⟨(some 56), none, .bin .add (.tmp 54) (.tmp 55), 9, [], false⟩,
  ⟨(some 57), none, .adSl 1 (.tmp 53) (.tmp 56), 10, [], false⟩,
  ⟨(some 58), none, .load 1 false (.tmp 57), 11, [], false⟩,
  ⟨(some 59), none, .mv (.tmp 0), 12, [], false⟩,
  ⟨(some 60), none, .mv (.tmp 9), 13, [], false⟩,
  ⟨(some 61), none, .adSl 1 (.tmp 59) (.tmp 60), 14, [], false⟩,
  ⟨(some 62), none, .load 1 false (.tmp 61), 15, [], false⟩,
  ⟨(some 63), none, .adSl 1 (.tmp 47) (.tmp 48), 16, [], false⟩,
  ⟨none, none, .store 1 (.tmp 63) (.tmp 58), 17, [], false⟩,
  ⟨(some 64), none, .adSl 1 (.tmp 49) (.tmp 52), 18, [], true⟩,
  ⟨none, none, .store 1 (.tmp 64) (.tmp 62), 19, [], true⟩]))))
 (.region 3 [
  ⟨(some 34), none, .mv (.tmp 9), 0, [], true⟩,
  ⟨(some 35), none, .bin .add (.tmp 34) (.const (.int .i64 1)), 1, [], true⟩,
  ⟨(some 9), none, .mv (.tmp 35), 2, [], true⟩])))))))) .skip)))⟩

def m152 : MFn := ⟨57, [(6, none), (7, none)], (.seq (.region 2 [
  ⟨(some 6), none, .mv (.const (.int .i64 0)), 0, [], true⟩,
  ⟨(some 7), none, .mv (.const (.int .i64 0)), 1, [], true⟩])
 (.seq (.region 4 [
  ⟨(some 13), none, .mv (.tmp 2), 0, [], true⟩,
  ⟨(some 14), none, .mv (.tmp 1), 1, [], true⟩,
  ⟨(some 15), none, .bin .sub (.tmp 13) (.tmp 14), 2, [], true⟩,
  ⟨(some 8), none, .mv (.tmp 15), 3, [], true⟩])
 (.seq (.region 1 [
  ⟨(some 9), none, .alloc [(.int .i64 0)] 3, 0, [], true⟩])
 (.seq (.region 6 [
  ⟨(some 16), none, .mv (.tmp 1), 0, [], true⟩,
  ⟨(some 17), none, .mv (.tmp 8), 1, [], true⟩,
  ⟨(some 18), none, .bin .quo (.tmp 17) (.const (.int .i64 4)), 2, [], true⟩,
  ⟨(some 19), none, .bin .mul (.tmp 18) (.const (.int .i64 1)), 3, [], true⟩,
  ⟨(some 20), none, .bin .add (.tmp 16) (.tmp 19), 4, [], true⟩,
  ⟨(some 10), none, .mv (.tmp 20), 5, [], true⟩])
 (.seq (.region 6 [
  ⟨(some 21), none, .mv (.tmp 1), 0, [], true⟩,
  ⟨(some 22), none, .mv (.tmp 8), 1, [], true⟩,
  ⟨(some 23), none, .bin .quo (.tmp 22) (.const (.int .i64 4)), 2, [], true⟩,
  ⟨(some 24), none, .bin .mul (.tmp 23) (.const (.int .i64 2)), 3, [], true⟩,
  ⟨(some 25), none, .bin .add (.tmp 21) (.tmp 24), 4, [], true⟩,
  ⟨(some 11), none, .mv (.tmp 25), 5, [], true⟩])
 (.seq (.region 6 [
  ⟨(some 26), none, .mv (.tmp 1), 0, [], true⟩,
  ⟨(some 27), none, .mv (.tmp 8), 1, [], true⟩,
  ⟨(some 28), none, .bin .quo (.tmp 27) (.const (.int .i64 4)), 2, [], true⟩,
  ⟨(some 29), none, .bin .mul (.tmp 28) (.const (.int .i64 3)), 3, [], true⟩,
  ⟨(some 30), none, .bin .add (.tmp 26) (.tmp 29), 4, [], true⟩,
  ⟨(some 12), none, .mv (.tmp 30), 5, [], true⟩])
 (.seq (.seq (.region 2 [
  ⟨(some 31), none, .mv (.tmp 8), 0, [], true⟩,
  ⟨(some 32), none, .bin .geq (.tmp 31) (.const (.int .i64 8)), 1, [], true⟩])
 (.cond (.tmp 32) (.seq (.seq (.region 2 [
  ⟨(some 33), none, .mv (.tmp 8), 0, [], true⟩,
  ⟨(some 34), none, .bin .geq (.tmp 33) (.const (.int .i64 50)), 1, [], true⟩])
 (.cond (.tmp 34) (.seq (.region 4 [
  ⟨(some 35), none, .mv (.tmp 0), 0, [], true⟩,
  ⟨(some 36), none, .mv (.tmp 10), 1, [], true⟩,
  ⟨(some 37), none, .call (.func 210) [(.tmp 35), (.tmp 36), (.tmp 9)], 2, [], true⟩,
  ⟨(some 10), none, .mv (.tmp 37), 3, [], true⟩])
 (.seq (.region 4 [
  ⟨(some 38), none, .mv (.tmp 0), 0, [], true⟩,
  ⟨(some 39), none, .mv (.tmp 11), 1, [], true⟩,
  ⟨(some 40), none, .call (.func 210) [(.tmp 38), (.tmp 39), (.tmp 9)], 2, [], true⟩,
  ⟨(some 11), none, .mv (.tmp 40), 3, [], true⟩])
 (.region 4 [
  ⟨(some 41), none, .mv (.tmp 0), 0, [], true⟩,
  ⟨(some 42), none, .mv (.tmp 12), 1, [], true⟩,
  ⟨(some 43), none, .call (.func 210) [(.tmp 41), (.tmp 42), (.tmp 9)], 2, [], true⟩,
  ⟨(some 12), none, .mv (.tmp 43), 3, [], true⟩]))) .skip))
 (.region 6 [
  ⟨(some 44), none, .mv (.tmp 0), 0, [], true⟩,
  ⟨(some 45), none, .mv (.tmp 10), 1, [], true⟩,
  ⟨(some 46), none, .mv (.tmp 11), 2, [], true⟩,
  ⟨(some 47), none, .mv (.tmp 12), 3, [], true⟩,
  ⟨(some 48), none, .call (.func 211) [(.tmp 44), (.tmp 45), (.tmp 46), (.tmp 47), (.tmp 9)], 4, [], true⟩,
  ⟨(some 11), none, .mv (.tmp 48), 5, [], true⟩])) .skip))
 (.seq (.region 1 [
  ⟨(some 49), none, .load 1 false (.tmp 9), 0, [], true⟩])
 (.block 0 (.seq (.region 2 [
  ⟨(some 52), none, .bin .eql (.tmp 49) (.const (.int .i64 0)), 0, [], true⟩,
  ⟨(some 51), none, .mv (.tmp 52), 1, [], true⟩])
 (.cond (.tmp 51) (.seq (.region 3 [
  ⟨(some 53), none, .mv (.tmp 11), 0, [], true⟩,
  ⟨(some 6), none, .mv (.tmp 53), 1, [], true⟩,
  ⟨(some 7), none, .mv (.const (.int .i64 1)), 2, [], true⟩])
 .ret) (.seq (.region 2 [
  ⟨(some 55), none, .bin .eql (.tmp 49) (.const (.int .i64 12)), 0, [], true⟩,
  ⟨(some 54), none, .mv (.tmp 55), 1, [], true⟩])
 (.cond (.tmp 54) (.seq (.region 3 [
  ⟨(some 56), none, .mv (.tmp 11), 0, [], true⟩,
  ⟨(some 6), none, .mv (.tmp 56), 1, [], true⟩,
  ⟨(some 7), none, .mv (.const (.int .i64 2)), 2, [], true⟩])
 .ret) (.seq (.region 3 [
  ⟨(some 50), none, .mv (.tmp 11), 0, [], true⟩,
  ⟨(some 6), none, .mv (.tmp 50), 1, [], true⟩,
  ⟨(some 7), none, .mv (.const (.int .i64 0)), 2, [], true⟩])
 .ret))))))))))))))⟩

def m153 : MFn := ⟨32, [], (.seq (.region 2 [
  ⟨(some 8), none, .mv (.tmp 1), 0, [], true⟩,
  ⟨(some 6), none, .mv (.tmp 8), 1, [], true⟩])
 (.seq (.region 3 [
  ⟨(some 9), none, .mv (.tmp 2), 0, [], true⟩,
  ⟨(some 10), none, .bin .sub (.tmp 9) (.const (.int .i64 1)), 1, [], true⟩,
  ⟨(some 7), none, .mv (.tmp 10), 2, [], true⟩])
 (.block 0 (.loop (.seq (.seq (.region 3 [
  ⟨(some 11), none, .mv (.tmp 6), 0, [], true⟩,
  ⟨(some 12), none, .mv (.tmp 7), 1, [], true⟩,
  ⟨(some 13), none, .bin .lss (.tmp 11) (.tmp 12), 2, [], true⟩])
 (.cond (.tmp 13) .skip (.exit 0)))
 (.block 1 (.seq (.region 16 [
  ⟨(some 14), none, .mv (.tmp 0), 0, [], true⟩,
  ⟨(some 15), none, .mv (.tmp 6), 1, [], false⟩,
  ⟨(some 16), none, .mv (.tmp 0), 2, [], false⟩,
  ⟨(some 17), none, .mv (.tmp 7), 3, [], false⟩,
  ⟨(some 18), none, .mv (.tmp 0), 4, [], false⟩,
  ⟨(some 19), none, .mv (.tmp 7), 5, [], false⟩,
  ⟨(some 20), none, .adSl 1 (.tmp 18) (.tmp 19), 6, [], false⟩,
  ⟨(some 21), none, .load 1 false (.tmp 20), 7, [], false⟩,
  ⟨(some 22), none, .mv (.tmp 0), 8, [], false⟩,
  ⟨(some 23), none, .mv (.tmp 6), 9, [], false⟩,
  ⟨(some 24), none, .adSl 1 (.tmp 22) (.tmp 23), 10, [], false⟩,
  ⟨(some 25), none, .load 1 false (.tmp 24), 11, [], false⟩,
  ⟨(some 26), none, .adSl 1 (.tmp 14) (.tmp 15), 12, [], false⟩,
  ⟨none, none, .store 1 (.tmp 26) (.tmp 21), 13, [], false⟩,
  ⟨(some 27), none, .adSl 1 (.tmp 16) (.tmp 17), 14, [], true⟩,
  ⟨none, none, .store 1 (.tmp 27) (.tmp 25), 15, [], true⟩])
 (.seq (.region 3 [
  ⟨(some 28), none, .mv (.tmp 6), 0, [], true⟩,
  ⟨(some 29), none, .bin .add (.tmp 28) (.const (.int .i64 1)), 1, [], true⟩,
  ⟨(some 6), none, .mv (.tmp 29), 2, [], true⟩])
 (.region 3 [
  ⟨(some 30), none, .mv (.tmp 7), 0, [], true⟩,
  ⟨(some 31), none, .bin .sub (.tmp 30) (.const (.int .i64 1)), 1, [], true⟩,
  ⟨(some 7), none, .mv (.tmp 31), 2, [], true⟩])))))))))⟩

def m154 : MFn := ⟨133, [(6, none)], (.seq (.region 1 [
  ⟨(some 6), none, .mv (.const (.bool false)), 0, [], true⟩])
 (.seq (.region 3 [
  ⟨(some 11), none, .mv (.tmp 1), 0, [], true⟩,
  ⟨(some 12), none, .bin .add (.tmp 11) (.const (.int .i64 1)), 1, [], true⟩,
  ⟨(some 7), none, .mv (.tmp 12), 2, [], true⟩])
 (.seq (.seq (.region 1 [
  ⟨(some 8), none, .mv (.const (.int .i64 0)), 0, [], true⟩])
 (.block 0 (.loop (.seq (.seq (.region 2 [
  ⟨(some 13), none, .mv (.tmp 8), 0, [], true⟩,
  ⟨(some 14), none, .bin .lss (.tmp 13) (.const (.int .i64 5)), 1, [], true⟩])
 (.cond (.tmp 14) .skip (.exit 0)))
 (.seq (.block 1 (.seq (.block 2 (.loop (.seq (.seq (.region 16 [
  ⟨(some 17), none, .mv (.tmp 7), 0, [], true⟩,
  ⟨(some 18), none, .mv (.tmp 2), 1, [], false⟩,
  ⟨(some 19), none, .bin .lss (.tmp 17) (.tmp 18), 2, [], true⟩,
  ⟨(some 20), none, .mv (.tmp 19), 3, [], true⟩,
  ⟨(some 21), (some (20, true)), .mv (.tmp 0), 4, [], true⟩,
  ⟨(some 22), (some (20, true)), .mv (.tmp 7), 5, [], false⟩,
  ⟨(some 23), (some (20, true)), .adSl 1 (.tmp 21) (.tmp 22), 6, [], true⟩,
  ⟨(some 24), (some (20, true)), .load 1 false (.tmp 23), 7, [], true⟩,
  ⟨(some 25), (some (20, true)), .mv (.tmp 0), 8, [], false⟩,
  ⟨(some 26), (some (20, true)), .mv (.tmp 7), 9, [], false⟩,
  ⟨(some 27), (some (20, true)), .bin .sub (.tmp 26) (.const (.int .i64 1)), 10, [], false⟩,
  ⟨(some 28), (some (20, true)), .adSl 1 (.tmp 25) (.tmp 27), 11, [], false⟩,
  ⟨(some 29), (some (20, true)), .load 1 false (.tmp 28), 12, [], false⟩,
  ⟨(some 30), (some (20, true)), .call (.func 155) [(.tmp 24), (.tmp 29)], 13, [], true⟩,
  ⟨(some 31), (some (20, true)), .un .not (.tmp 30), 14, [], true⟩,
  ⟨(some 32), none, .pick (.tmp 20) (.tmp 31) (.const (.bool false)), 15, [], true⟩])
 (.cond (.tmp 32) .skip (.exit 2)))
 (.block 3 (.region 3 [
  ⟨(some 33), none, .mv (.tmp 7), 0, [], true⟩,
  ⟨(some 34), none, .bin .add (.tmp 33) (.const (.int .i64 1)), 1, [], true⟩,
  ⟨(some 7), none, .mv (.tmp 34), 2, [], true⟩])))))
 (.seq (.seq (.region 3 [
  ⟨(some 35), none, .mv (.tmp 7), 0, [], true⟩,
  ⟨(some 36), none, .mv (.tmp 2), 1, [], true⟩,
  ⟨(some 37), none, .bin .eql (.tmp 35) (.tmp 36), 2, [], true⟩])
 (.cond (.tmp 37) (.seq (.region 1 [
  ⟨(some 6), none, .mv (.const (.bool true)), 0, [], true⟩])
 .ret) .skip))
 (.seq (.seq (.region 4 [
  ⟨(some 38), none, .mv (.tmp 2), 0, [], true⟩,
  ⟨(some 39), none, .mv (.tmp 1), 1, [], true⟩,
  ⟨(some 40), none, .bin .sub (.tmp 38) (.tmp 39), 2, [], true⟩,
  ⟨(some 41), none, .bin .lss (.tmp 40) (.const (.int .i64 50)), 3, [], true⟩])
 (.cond (.tmp 41) (.seq (.region 1 [
  ⟨(some 6), none, .mv (.const (.bool false)), 0, [], true⟩])
 .ret) .skip))
 (.seq (.region 18 [
  ⟨(some 42), none, .mv (.tmp 0), 0, [], true⟩,
  ⟨(some 43), none, .mv (.tmp 7), 1, [], false⟩,
  ⟨(some 44), none, .mv (.tmp 0), 2, [], false⟩,
  ⟨(some 45), none, .mv (.tmp 7), 3, [], false⟩,
  ⟨(some 46), none, .bin .sub (.tmp 45) (.const (.int .i64 1)), 4, [], false⟩,
  ⟨(some 47), none, .mv (.tmp 0), 5, [], false⟩,
  ⟨(some 48), none, .mv (.tmp 7), 6, [], false⟩,
  ⟨(some 49), none, .bin .sub (.tmp 48) (.const (.int .i64 1)), 7, [], false⟩,
  ⟨(some 50), none, .adSl 1 (.tmp 47) (.tmp 49), 8, [], false⟩,
  ⟨(some 51), none, .load 1 false (.tmp 50), 9, [], false⟩,
  ⟨(some 52), none, .mv (.tmp 0), 10, [], false⟩,
  ⟨(some 53), none, .mv (.tmp 7), 11, [], false⟩,
  ⟨(some 54), none, .adSl 1 (.tmp 52) (.tmp 53), 12, [], false⟩,
  ⟨(some 55), none, .load 1 false (.tmp 54), 13, [], false⟩,
  ⟨(some 56), none, .adSl 1 (.tmp 42) (.tmp 43), 14, [], false⟩,
  ⟨none, none, .store 1 (.tmp 56) (.tmp 51), 15, [], false⟩,
  ⟨(some 57), none, .adSl 1 (.tmp 44) (.tmp 46), 16, [], true⟩,
  ⟨none, none, .store 1 (.tmp 57) (.tmp 55), 17, [], true⟩])
 (.seq (.seq (.region 4 [
  ⟨(some 58), none, .mv (.tmp 7), 0, [], true⟩,
  ⟨(some 59), none, .mv (.tmp 1), 1, [], true⟩,
  ⟨(some 60), none, .bin .sub (.tmp 58) (.tmp 59), 2, [], true⟩,
  ⟨(some 61), none, .bin .geq (.tmp 60) (.const (.int .i64 2)), 3, [], true⟩])
 (.cond (.tmp 61) (.seq (.region 3 [
  ⟨(some 62), none, .mv (.tmp 7), 0, [], true⟩,
  ⟨(some 63), none, .bin .sub (.tmp 62) (.const (.int .i64 1)), 1, [], true⟩,
  ⟨(some 9), none, .mv (.tmp 63), 2, [], true⟩])
 (.block 4 (.loop (.seq (.seq (.region 2 [
  ⟨(some 64), none, .mv (.tmp 9), 0, [], true⟩,
  ⟨(some 65), none, .bin .geq (.tmp 64) (.const (.int .i64 1)), 1, [], true⟩])
 (.cond (.tmp 65) .skip (.exit 4)))
 (.seq (.block 5 (.seq (.seq (.region 11 [
  ⟨(some 68), none, .mv (.tmp 0), 0, [], true⟩,
  ⟨(some 69), none, .mv (.tmp 9), 1, [], false⟩,
  ⟨(some 70), none, .adSl 1 (.tmp 68) (.tmp 69), 2, [], true⟩,
  ⟨(some 71), none, .load 1 false (.tmp 70), 3, [], true⟩,
  ⟨(some 72), none, .mv (.tmp 0), 4, [], false⟩,
  ⟨(some 73), none, .mv (.tmp 9), 5, [], false⟩,
  ⟨(some 74), none, .bin .sub (.tmp 73) (.const (.int .i64 1)), 6, [], false⟩,
  ⟨(some 75), none, .adSl 1 (.tmp 72) (.tmp 74), 7, [], false⟩,
  ⟨(some 76), none, .load 1 false (.tmp 75), 8, [], false⟩,
  ⟨(some 77), none, .call (.func 155) [(.tmp 71), (.tmp 76)], 9, [], true⟩,
  ⟨(some 78), none, .un .not (.tmp 77), 10, [], true⟩])
 (.cond (.tmp 78) (.exit 4) .skip))
 (.region 18 [
  ⟨(some 79), none, .mv (.tmp 0), 0, [], true⟩,
  ⟨(some 80), none, .mv (.tmp 9), 1, [], false⟩,
  ⟨(some 81), none, .mv (.tmp 0), 2, [], false⟩,
  ⟨(some 82), none, .mv (.tmp 9), 3, [], false⟩,
  ⟨(some 83), none, .bin .sub (.tmp 82) (.const (.int .i64 1)), 4, [], false⟩,
  ⟨(some 84), none, .mv (.tmp 0), 5, [], false⟩,
  ⟨(some 85), none, .mv (.tmp 9), 6, [], false⟩,
  ⟨(some 86), none, .bin .sub (.tmp 85) (.const (.int .i64 1)), 7, [], false⟩,
  ⟨(some 87), none, .adSl 1 (.tmp 84) (.tmp 86), 8, [], false⟩,
  ⟨(some 88), none, .load 1 false (.tmp 87), 9, [], false⟩,
  ⟨(some 89), none, .mv (.tmp 0), 10, [], false⟩,
  ⟨(some 90), none, .mv (.tmp 9), 11, [], false⟩,
  ⟨(some 91), none, .adSl 1 (.tmp 89) (.tmp 90), 12, [], false⟩,
  ⟨(some 92), none, .load 1 false (.tmp 91), 13, [], false⟩,
  ⟨(some 93), none, .adSl 1 (.tmp 79) (.tmp 80), 14, [], false⟩,
  ⟨none, none, .store 1 (.tmp 93) (.tmp 88), 15, [], false⟩,
  ⟨(some 94), none, .adSl 1 (.tmp 81) (.tmp 83), 16, [], true⟩,
  ⟨none, none, .store 1 (.tmp 94) (.tmp 92), 17, [], true⟩])))
 (.region 3 [
  ⟨(some 66), none, .mv (.tmp 9), 0, [], true⟩,
  ⟨(some 67), none, .bin .sub (.tmp 66) (.const (.int .i64 1)), 1, [], true⟩,
  ⟨(some 9), none, .mv (.tmp 67), 2, [], true⟩])))))) .skip))
 (.seq (.region 4 [
  ⟨(some 95), none, .mv (.tmp 2), 0, [], true⟩,
  ⟨(some 96), none, .mv (.tmp 7), 1, [], true⟩,
  ⟨(some 97), none, .bin .sub (.tmp 95) (.tmp 96), 2, [], true⟩,
  ⟨(some 98), none, .bin .geq (.tmp 97) (.const (.int .i64 2)), 3, [], true⟩])
 (.cond (.tmp 98) (.seq (.region 3 [
  ⟨(some 99), none, .mv (.tmp 7), 0, [], true⟩,
  ⟨(some 100), none, .bin .add (.tmp 99) (.const (.int .i64 1)), 1, [], true⟩,
  ⟨(some 10), none, .mv (.tmp 100), 2, [], true⟩])
 (.block 6 (.loop (.seq (.seq (.region 3 [
  ⟨(some 101), none, .mv (.tmp 10), 0, [], true⟩,
  ⟨(some 102), none, .mv (.tmp 2), 1, [], true⟩,
  ⟨(some 103), none, .bin .lss (.tmp 101) (.tmp 102), 2, [], true⟩])
 (.cond (.tmp 103) .skip (.exit 6)))
 (.seq (.block 7 (.seq (.seq (.region 11 [
  ⟨(some 106), none, .mv (.tmp 0), 0, [], true⟩,
  ⟨(some 107), none, .mv (.tmp 10), 1, [], false⟩,
  ⟨(some 108), none, .adSl 1 (.tmp 106) (.tmp 107), 2, [], true⟩,
  ⟨(some 109), none, .load 1 false (.tmp 108), 3, [], true⟩,
  ⟨(some 110), none, .mv (.tmp 0), 4, [], false⟩,
  ⟨(some 111), none, .mv (.tmp 10), 5, [], false⟩,
  ⟨(some 112), none, .bin .sub (.tmp 111) (.const (.int .i64 1)), 6, [], false⟩,
  ⟨(some 113), none, .adSl 1 (.tmp 110) (.tmp 112), 7, [], false⟩,
  ⟨(some 114), none, .load 1 false (.tmp 113), 8, [], false⟩,
  ⟨(some 115), none, .call (.func 155) [(.tmp 109), (.tmp 114)], 9, [], true⟩,
  ⟨(some 116), none, .un .not (.tmp 115), 10, [], true⟩])
 (.cond (.tmp 116) (.exit 6) .skip))
 (.region 18 [
  ⟨(some 117), none, .mv (.tmp 0), 0, [], true⟩,
  ⟨(some 118), none, .mv (.tmp 10), 1, [], false⟩,
  ⟨(some 119), none, .mv (.tmp 0), 2, [], false⟩,
  ⟨(some 120), none, .mv (.tmp 10), 3, [], false⟩,
  ⟨(some 121), none, .bin .sub (.tmp 120) (.const (.int .i64 1)), 4, [], false⟩,
  ⟨(some 122), none, .mv (.tmp 0), 5, [], false⟩,
  ⟨(some 123), none, .mv (.tmp 10), 6, [], false⟩,
  ⟨(some 124), none, .bin .sub (.tmp 123) (.const (.int .i64 1)), 7, [], false⟩,
  ⟨(some 125), none, .adSl 1 (.tmp 122) (.tmp 124), 8, [], false⟩,
  ⟨(some 126), none, .load 1 false (.tmp 125), 9, [], false⟩,
  ⟨(some 127), none, .mv (.tmp 0), 10, [], false⟩,
  ⟨(some 128), none, .mv (.tmp 10), 11, [], false⟩,
  ⟨(some 129), none, .adSl 1 (.tmp 127) (.tmp 128), 12, [], false⟩,
  ⟨(some 130), none, .load 1 false (.tmp 129), 13, [], false⟩,
  ⟨(some 131), none, .adSl 1 (.tmp 117) (.tmp 118), 14, [], false⟩,
  ⟨none, none, .store 1 (.tmp 131) (.tmp 126), 15, [], false⟩,
  ⟨(some 132), none, .adSl 1 (.tmp 119) (.tmp 121), 16, [], true⟩,
  ⟨none, none, .store 1 (.tmp 132) (.tmp 130), 17, [], true⟩])))
 (.region 3 [
  ⟨(some 104), none, .mv (.tmp 10), 0, [], true⟩,
  ⟨(some 105), none, .bin .add (.tmp 104) (.const (.int .i64 1)), 1, [], true⟩,
  ⟨(some 10), none, .mv (.tmp 105), 2, [], true⟩])))))) .skip))))))))
 (.region 3 [
  ⟨(some 15), none, .mv (.tmp 8), 0, [], true⟩,
  ⟨(some 16), none, .bin .add (.tmp 15) (.const (.int .i64 1)), 1, [], true⟩,
  ⟨(some 8), none, .mv (.tmp 16), 2, [], true⟩]))))))
 (.seq (.region 1 [
  ⟨(some 6), none, .mv (.const (.bool false)), 0, [], true⟩])
 .ret))))⟩

def m155 : MFn := ⟨17, [(4, none)], (.seq (.region 1 [
  ⟨(some 4), none, .mv (.const (.bool false)), 0, [], true⟩])
 (.seq (.region 13 [
  ⟨(some 5), none, .mv (.tmp 0), 0, [], true⟩,
  ⟨(some 6), none, .call (.func 212) [(.tmp 5)], 1, [], true⟩,
  ⟨(some 7), none, .mv (.tmp 6), 2, [], true⟩,
  ⟨(some 8), (some (7, true)), .mv (.tmp 1), 3, [], true⟩,
  ⟨(some 9), (some (7, true)), .call (.func 212) [(.tmp 8)], 4, [], true⟩,
  ⟨(some 10), (some (7, true)), .un .not (.tmp 9), 5, [], true⟩,
  ⟨(some 11), none, .pick (.tmp 7) (.tmp 10) (.const (.bool false)), 6, [], true⟩,
  ⟨(some 12), none, .mv (.tmp 11), 7, [], true⟩,
  ⟨(some 13), (some (12, false)), .mv (.tmp 0), 8, [], true⟩,
  ⟨(some 14), (some (12, false)), .mv (.tmp 1), 9, [], true⟩,
  ⟨(some 15), (some (12, false)), .bin .lss (.tmp 13) (.tmp 14), 10, [], true⟩,
  ⟨(some 16), none, .pick (.tmp 12) (.const (.bool true)) (.tmp 15), 11, [], true⟩,
  ⟨(some 4), none, .mv (.tmp 16), 12, [], true⟩])
 .ret))⟩

def m156 : MFn := ⟨84, [(8, none)], (.seq (.region 1 [
  ⟨(some 8), none, .mv (.const (.int .i64 0)), 0, [], true⟩])
 (.seq (.region 16 [
  ⟨(some 11), none, .mv (.tmp 0), 0, [], true⟩,
  ⟨(some 12), none, .mv (.tmp 1), 1, [], false⟩,
  ⟨(some 13), none, .mv (.tmp 0), 2, [], false⟩,
  ⟨(some 14), none, .mv (.tmp 3), 3, [], false⟩,
  ⟨(some 15), none, .mv (.tmp 0), 4, [], false⟩,
  ⟨(some 16), none, .mv (.tmp 3), 5, [], false⟩,
  ⟨(some 17), none, .adSl 1 (.tmp 15) (.tmp 16), 6, [], false⟩,
  ⟨(some 18), none, .load 1 false (.tmp 17), 7, [], false⟩,
  ⟨(some 19), none, .mv (.tmp 0), 8, [], false⟩,
  ⟨(some 20), none, .mv (.tmp 1), 9, [], false⟩,
  ⟨(some 21), none, .adSl 1 (.tmp 19) (.tmp 20), 10, [], false⟩,
  ⟨(some 22), none, .load 1 false (.tmp 21), 11, [], false⟩,
  ⟨(some 23), none, .adSl 1 (.tmp 11) (.tmp 12), 12, [], false⟩,
  ⟨none, none, .store 1 (.tmp 23) (.tmp 18), 13, [], false⟩,
  ⟨(some 24), none, .adSl 1 (.tmp 13) (.tmp 14), 14, [], true⟩,
  ⟨none, none, .store 1 (.tmp 24) (.tmp 22), 15, [], true⟩])
 (.seq (.region 6 [
  ⟨(some 25), none, .mv (.tmp 1), 0, [], true⟩,
  ⟨(some 26), none, .bin .add (.tmp 25) (.const (.int .i64 1)), 1, [], true⟩,
  ⟨(some 27), none, .mv (.tmp 2), 2, [], true⟩,
  ⟨(some 28), none, .bin .sub (.tmp 27) (.const (.int .i64 1)), 3, [], true⟩,
  ⟨(some 9), none, .mv (.tmp 26), 4, [], true⟩,
  ⟨(some 10), none, .mv (.tmp 28), 5, [], true⟩])
 (.seq (.block 0 (.loop (.block 1 (.seq (.block 2 (.loop (.seq (.seq (.region 15 [
  ⟨(some 29), none, .mv (.tmp 9), 0, [], true⟩,
  ⟨(some 30), none, .mv (.tmp 10), 1, [], false⟩,
  ⟨(some 31), none, .bin .leq (.tmp 29) (.tmp 30), 2, [], true⟩,
  ⟨(some 32), none, .mv (.tmp 31), 3, [], true⟩,
  ⟨(some 33), (some (32, true)), .mv (.tmp 0), 4, [], true⟩,
  ⟨(some 34), (some (32, true)), .mv (.tmp 1), 5, [], false⟩,
  ⟨(some 35), (some (32, true)), .adSl 1 (.tmp 33) (.tmp 34), 6, [], true⟩,
  ⟨(some 36), (some (32, true)), .load 1 false (.tmp 35), 7, [], true⟩,
  ⟨(some 37), (some (32, true)), .mv (.tmp 0), 8, [], false⟩,
  ⟨(some 38), (some (32, true)), .mv (.tmp 9), 9, [], false⟩,
  ⟨(some 39), (some (32, true)), .adSl 1 (.tmp 37) (.tmp 38), 10, [], false⟩,
  ⟨(some 40), (some (32, true)), .load 1 false (.tmp 39), 11, [], false⟩,
  ⟨(some 41), (some (32, true)), .call (.func 155) [(.tmp 36), (.tmp 40)], 12, [], true⟩,
  ⟨(some 42), (some (32, true)), .un .not (.tmp 41), 13, [], true⟩,
  ⟨(some 43), none, .pick (.tmp 32) (.tmp 42) (.const (.bool false)), 14, [], true⟩])
 (.cond (.tmp 43) .skip (.exit 2)))
 (.block 3 (.region 3 [
  ⟨(some 44), none, .mv (.tmp 9), 0, [], true⟩,
  ⟨(some 45), none, .bin .add (.tmp 44) (.const (.int .i64 1)), 1, [], true⟩,
  ⟨(some 9), none, .mv (.tmp 45), 2, [], true⟩])))))
 (.seq (.block 4 (.loop (.seq (.seq (.region 14 [
  ⟨(some 46), none, .mv (.tmp 9), 0, [], true⟩,
  ⟨(some 47), none, .mv (.tmp 10), 1, [], false⟩,
  ⟨(some 48), none, .bin .leq (.tmp 46) (.tmp 47), 2, [], true⟩,
  ⟨(some 49), none, .mv (.tmp 48), 3, [], true⟩,
  ⟨(some 50), (some (49, true)), .mv (.tmp 0), 4, [], true⟩,
  ⟨(some 51), (some (49, true)), .mv (.tmp 1), 5, [], false⟩,
  ⟨(some 52), (some (49, true)), .adSl 1 (.tmp 50) (.tmp 51), 6, [], true⟩,
  ⟨(some 53), (some (49, true)), .load 1 false (.tmp 52), 7, [], true⟩,
  ⟨(some 54), (some (49, true)), .mv (.tmp 0), 8, [], false⟩,
  ⟨(some 55), (some (49, true)), .mv (.tmp 10), 9, [], false⟩,
  ⟨(some 56), (some (49, true)), .adSl 1 (.tmp 54) (.tmp 55), 10, [], false⟩,
  ⟨(some 57), (some (49, true)), .load 1 false (.tmp 56), 11, [], false⟩,
  ⟨(some 58), (some (49, true)), .call (.func 155) [(.tmp 53), (.tmp 57)], 12, [], true⟩,
  ⟨(some 59), none, .pick (.tmp 49) (.tmp 58) (.const (.bool false)), 13, [], true⟩])
 (.cond (.tmp 59) .skip (.exit 4)))
 (.block 5 (.region 3 [
  ⟨(some 60), none, .mv (.tmp 10), 0, [], true⟩,
  ⟨(some 61), none, .bin .sub (.tmp 60) (.const (.int .i64 1)), 1, [], true⟩,
  ⟨(some 10), none, .mv (.tmp 61), 2, [], true⟩])))))
 (.seq (.seq (.region 3 [
  ⟨(some 62), none, .mv (.tmp 9), 0, [], true⟩,
  ⟨(some 63), none, .mv (.tmp 10), 1, [], true⟩,
  ⟨(some 64), none, .bin .gtr (.tmp 62) (.tmp 63), 2, [], true⟩])
 (.cond (.tmp 64) (.exit 0) .skip))
 (.seq (.region 16 [
  ⟨(some 65), none, .mv (.tmp 0), 0, [], true⟩,
  ⟨(some 66), none, .mv (.tmp 9), 1, [], false⟩,
  ⟨(some 67), none, .mv (.tmp 0), 2, [], false⟩,
  ⟨(some 68), none, .mv (.tmp 10), 3, [], false⟩,
  ⟨(some 69), none, .mv (.tmp 0), 4, [], false⟩,
  ⟨(some 70), none, .mv (.tmp 10), 5, [], false⟩,
  ⟨(some 71), none, .adSl 1 (.tmp 69) (.tmp 70), 6, [], false⟩,
  ⟨(some 72), none, .load 1 false (.tmp 71), 7, [], false⟩,
  ⟨(some 73), none, .mv (.tmp 0), 8, [], false⟩,
  ⟨(some 74), none, .mv (.tmp 9), 9, [], false⟩,
  ⟨(some 75), none, .adSl 1 (.tmp 73) (.tmp 74), 10, [], false⟩,
  ⟨(some 76), none, .load 1 false (.tmp 75), 11, [], false⟩,
  ⟨(some 77), none, .adSl 1 (.tmp 65) (.tmp 66), 12, [], false⟩,
  ⟨none, none, .store 1 (.tmp 77) (.tmp 72), 13, [], false⟩,
  ⟨(some 78), none, .adSl 1 (.tmp 67) (.tmp 68), 14, [], true⟩,
  ⟨none, none, .store 1 (.tmp 78) (.tmp 76), 15, [], true⟩])
 (.seq (.region 3 [
  ⟨(some 79), none, .mv (.tmp 9), 0, [], true⟩,
  ⟨(some 80), none, .bin .add (.tmp 79) (.const (.int .i64 1)), 1, [], true⟩,
  ⟨(some 9), none, .mv (.tmp 80), 2, [], true⟩])
 (.region 3 [
  ⟨(some 81), none, .mv (.tmp 10), 0, [], true⟩,
  ⟨(some 82), none, .bin .sub (.tmp 81) (.const (.int .i64 1)), 1, [], true⟩,
  ⟨(some 10), none, .mv (.tmp 82), 2, [], true⟩])))))))))
 (.seq (.region 2 [
  ⟨(some 83), none, .mv (.tmp 9), 0, [], true⟩,
  ⟨(some 8), none, .mv (.tmp 83), 1, [], true⟩])
 .ret)))))⟩

def m157 : MFn := ⟨168, [(8, none), (9, none)], (.seq (.region 2 [
  ⟨(some 8), none, .mv (.const (.int .i64 0)), 0, [], true⟩,
  ⟨(some 9), none, .mv (.const (.bool false)), 1, [], true⟩])
 (.seq (.region 16 [
  ⟨(some 12), none, .mv (.tmp 0), 0, [], true⟩,
  ⟨(some 13), none, .mv (.tmp 1), 1, [], false⟩,
  ⟨(some 14), none, .mv (.tmp 0), 2, [], false⟩,
  ⟨(some 15), none, .mv (.tmp 3), 3, [], false⟩,
  ⟨(some 16), none, .mv (.tmp 0), 4, [], false⟩,
  ⟨(some 17), none, .mv (.tmp 3), 5, [], false⟩,
  ⟨(some 18), none, .adSl 1 (.tmp 16) (.tmp 17), 6, [], false⟩,
  ⟨(some 19), none, .load 1 false (.tmp 18), 7, [], false⟩,
  ⟨(some 20), none, .mv (.tmp 0), 8, [], false⟩,
  ⟨(some 21), none, .mv (.tmp 1), 9, [], false⟩,
  ⟨(some 22), none, .adSl 1 (.tmp 20) (.tmp 21), 10, [], false⟩,
  ⟨(some 23), none, .load 1 false (.tmp 22), 11, [], false⟩,
  ⟨(some 24), none, .adSl 1 (.tmp 12) (.tmp 13), 12, [], false⟩,
  ⟨none, none, .store 1 (.tmp 24) (.tmp 19), 13, [], false⟩,
  ⟨(some 25), none, .adSl 1 (.tmp 14) (.tmp 15), 14, [], true⟩,
  ⟨none, none, .store 1 (.tmp 25) (.tmp 23), 15, [], true⟩])
 (.seq (.region 6 [
  ⟨(some 26), none, .mv (.tmp 1), 0, [], true⟩,
  ⟨(some 27), none, .bin .add (.tmp 26) (.const (.int .i64 1)), 1, [], true⟩,
  ⟨(some 28), none, .mv (.tmp 2), 2, [], true⟩,
  ⟨(some 29), none, .bin .sub (.tmp 28) (.const (.int .i64 1)), 3, [], true⟩,
  ⟨(some 10), none, .mv (.tmp 27), 4, [], true⟩,
  ⟨(some 11), none, .mv (.tmp 29), 5, [], true⟩])
 (.seq (.block 0 (.loop (.seq (.seq (.region 14 [
  ⟨(some 30), none, .mv (.tmp 10), 0, [], true⟩,
  ⟨(some 31), none, .mv (.tmp 11), 1, [], false⟩,
  ⟨(some 32), none, .bin .leq (.tmp 30) (.tmp 31), 2, [], true⟩,
  ⟨(some 33), none, .mv (.tmp 32), 3, [], true⟩,
  ⟨(some 34), (some (33, true)), .mv (.tmp 0), 4, [], true⟩,
  ⟨(some 35), (some (33, true)), .mv (.tmp 10), 5, [], false⟩,
  ⟨(some 36), (some (33, true)), .adSl 1 (.tmp 34) (.tmp 35), 6, [], true⟩,
  ⟨(some 37), (some (33, true)), .load 1 false (.tmp 36), 7, [], true⟩,
  ⟨(some 38), (some (33, true)), .mv (.tmp 0), 8, [], false⟩,
  ⟨(some 39), (some (33, true)), .mv (.tmp 1), 9, [], false⟩,
  ⟨(some 40), (some (33, true)), .adSl 1 (.tmp 38) (.tmp 39), 10, [], false⟩,
  ⟨(some 41), (some (33, true)), .load 1 false (.tmp 40), 11, [], false⟩,
  ⟨(some 42), (some (33, true)), .call (.func 155) [(.tmp 37), (.tmp 41)], 12, [], true⟩,
  ⟨(some 43), none, .pick (.tmp 33) (.tmp 42) (.const (.bool false)), 13, [], true⟩])
 (.cond (.tmp 43) .skip (.exit 0)))
 (.block 1 (.region 3 [
  ⟨(some 44), none, .mv (.tmp 10), 0, [], true⟩,
  ⟨(some 45), none, .bin .add (.tmp 44) (.const (.int .i64 1)), 1, [], true⟩,
  ⟨(some 10), none, .mv (.tmp 45), 2, [], true⟩])))))
 (.seq (.block 2 (.loop (.seq (.seq (.region 15 [
  ⟨(some 46), none, .mv (.tmp 10), 0, [], true⟩,
  ⟨(some 47), none, .mv (.tmp 11), 1, [], false⟩,
  ⟨(some 48), none, .bin .leq (.tmp 46) (.tmp 47), 2, [], true⟩,
  ⟨(some 49), none, .mv (.tmp 48), 3, [], true⟩,
  ⟨(some 50), (some (49, true)), .mv (.tmp 0), 4, [], true⟩,
  ⟨(some 51), (some (49, true)), .mv (.tmp 11), 5, [], false⟩,
  ⟨(some 52), (some (49, true)), .adSl 1 (.tmp 50) (.tmp 51), 6, [], true⟩,
  ⟨(some 53), (some (49, true)), .load 1 false (.tmp 52), 7, [], true⟩,
  ⟨(some 54), (some (49, true)), .mv (.tmp 0), 8, [], false⟩,
  ⟨(some 55), (some (49, true)), .mv (.tmp 1), 9, [], false⟩,
  ⟨(some 56), (some (49, true)), .adSl 1 (.tmp 54) (.tmp 55), 10, [], false⟩,
  ⟨(some 57), (some (49, true)), .load 1 false (.tmp 56), 11, [], false⟩,
  ⟨(some 58), (some (49, true)), .call (.func 155) [(.tmp 53), (.tmp 57)], 12, [], true⟩,
  ⟨(some 59), (some (49, true)), .un .not (.tmp 58), 13, [], true⟩,
  ⟨(some 60), none, .pick (.tmp 49) (.tmp 59) (.const (.bool false)), 14, [], true⟩])
 (.cond (.tmp 60) .skip (.exit 2)))
 (.block 3 (.region 3 [
  ⟨(some 61), none, .mv (.tmp 11), 0, [], true⟩,
  ⟨(some 62), none, .bin .sub (.tmp 61) (.const (.int .i64 1)), 1, [], true⟩,
  ⟨(some 11), none, .mv (.tmp 62), 2, [], true⟩])))))
 (.seq (.seq (.region 3 [
  ⟨(some 63), none, .mv (.tmp 10), 0, [], true⟩,
  ⟨(some 64), none, .mv (.tmp 11), 1, [], true⟩,
  ⟨(some 65), none, .bin .gtr (.tmp 63) (.tmp 64), 2, [], true⟩])
 (.cond (.tmp 65) (.seq (.region 16 [
  ⟨(some 66), none, .mv (.tmp 0), 0, [], true⟩,
  ⟨(some 67), none, .mv (.tmp 11), 1, [], false⟩,
  ⟨(some 68), none, .mv (.tmp 0), 2, [], false⟩,
  ⟨(some 69), none, .mv (.tmp 1), 3, [], false⟩,
  ⟨(some 70), none, .mv (.tmp 0), 4, [], false⟩,
  ⟨(some 71), none, .mv (.tmp 1), 5, [], false⟩,
  ⟨(some 72), none, .adSl 1 (.tmp 70) (.tmp 71), 6, [], false⟩,
  ⟨(some 73), none, .load 1 false (.tmp 72), 7, [], false⟩,
  ⟨(some 74), none, .mv (.tmp 0), 8, [], false⟩,
  ⟨(some 75), none, .mv (.tmp 11), 9, [], false⟩,
  ⟨(some 76), none, .adSl 1 (.tmp 74) (.tmp 75), 10, [], false⟩,
  ⟨(some 77), none, .load 1 false (.tmp 76), 11, [], false⟩,
  ⟨(some 78), none, .adSl 1 (.tmp 66) (.tmp 67), 12, [], false⟩,
  ⟨none, none, .store 1 (.tmp 78) (.tmp 73), 13, [], false⟩,
  ⟨(some 79), none, .adSl 1 (.tmp 68) (.tmp 69), 14, [], true⟩,
  ⟨none, none, .store 1 (.tmp 79) (.tmp 77), 15, [], true⟩])
 (.seq (.region 3 [
  ⟨(some 80), none, .mv (.tmp 11), 0, [], true⟩,
  ⟨(some 8), none, .mv (.tmp 80), 1, [], true⟩,
  ⟨(some 9), none, .mv (.const (.bool true)), 2, [], true⟩])
 .ret)) .skip))
 (.seq (.region 16 [
  ⟨(some 81), none, .mv (.tmp 0), 0, [], true⟩,
  ⟨(some 82), none, .mv (.tmp 10), 1, [], false⟩,
  ⟨(some 83), none, .mv (.tmp 0), 2, [], false⟩,
  ⟨(some 84), none, .mv (.tmp 11), 3, [], false⟩,
  ⟨(some 85), none, .mv (.tmp 0), 4, [], false⟩,
  ⟨(some 86), none, .mv (.tmp 11), 5, [], false⟩,
  ⟨(some 87), none, .adSl 1 (.tmp 85) (.tmp 86), 6, [], false⟩,
  ⟨(some 88), none, .load 1 false (.tmp 87), 7, [], false⟩,
  ⟨(some 89), none, .mv (.tmp 0), 8, [], false⟩,
  ⟨(some 90), none, .mv (.tmp 10), 9, [], false⟩,
  ⟨(some 91), none, .adSl 1 (.tmp 89) (.tmp 90), 10, [], false⟩,
  ⟨(some 92), none, .load 1 false (.tmp 91), 11, [], false⟩,
  ⟨(some 93), none, .adSl 1 (.tmp 81) (.tmp 82), 12, [], false⟩,
  ⟨none, none, .store 1 (.tmp 93) (.tmp 88), 13, [], false⟩,
  ⟨(some 94), none, .adSl 1 (.tmp 83) (.tmp 84), 14, [], true⟩,
  ⟨none, none, .store 1 (.tmp 94) (.tmp 92), 15, [], true⟩])
 (.seq (.region 3 [
  ⟨(some 95), none, .mv (.tmp 10), 0, [], true⟩,
  ⟨(some 96), none, .bin .add (.tmp 95) (.const (.int .i64 1)), 1, [], true⟩,
  ⟨(some 10), none, .mv (.tmp 96), 2, [], true⟩])
 (.seq (.region 3 [
  ⟨(some 97), none, .mv (.tmp 11), 0, [], true⟩,
  ⟨(some 98), none, .bin .sub (.tmp 97) (.const (.int .i64 1)), 1, [], true⟩,
  ⟨(some 11), none, .mv (.tmp 98), 2, [], true⟩])
 (.seq (.block 4 (.loop (.block 5 (.seq (.block 6 (.loop (.seq (.seq (.region 14 [
  ⟨(some 99), none, .mv (.tmp 10), 0, [], true⟩,
  ⟨(some 100), none, .mv (.tmp 11), 1, [], false⟩,
  ⟨(some 101), none, .bin .leq (.tmp 99) (.tmp 100), 2, [], true⟩,
  ⟨(some 102), none, .mv (.tmp 101), 3, [], true⟩,
  ⟨(some 103), (some (102, true)), .mv (.tmp 0), 4, [], true⟩,
  ⟨(some 104), (some (102, true)), .mv (.tmp 10), 5, [], false⟩,
  ⟨(some 105), (some (102, true)), .adSl 1 (.tmp 103) (.tmp 104), 6, [], true⟩,
  ⟨(some 106), (some (102, true)), .load 1 false (.tmp 105), 7, [], true⟩,
  ⟨(some 107), (some (102, true)), .mv (.tmp 0), 8, [], false⟩,
  ⟨(some 108), (some (102, true)), .mv (.tmp 1), 9, [], false⟩,
  ⟨(some 109), (some (102, true)), .adSl 1 (.tmp 107) (.tmp 108), 10, [], false⟩,
  ⟨(some 110), (some (102, true)), .load 1 false (.tmp 109), 11, [], false⟩,
  ⟨(some 111), (some (102, true)), .call (.func 155) [(.tmp 106), (.tmp 110)], 12, [], true⟩,
  ⟨(some 112), none, .pick (.tmp 102) (.tmp 111) (.const (.bool false)), 13, [], true⟩])
 (.cond (.tmp 112) .skip (.exit 6)))
 (.block 7 (.region 3 [
  ⟨(some 113), none, .mv (.tmp 10), 0, [], true⟩,
  ⟨(some 114), none, .bin .add (.tmp 113) (.const (.int .i64 1)), 1, [], true⟩,
  ⟨(some 10), none, .mv (.tmp 114), 2, [], true⟩])))))
 (.seq (.block 8 (.loop (.seq (.seq (.region 15 [
  ⟨(some 115), none, .mv (.tmp 10), 0, [], true⟩,
  ⟨(some 116), none, .mv (.tmp 11), 1, [], false⟩,
  ⟨(some 117), none, .bin .leq (.tmp 115) (.tmp 116), 2, [], true⟩,
  ⟨(some 118), none, .mv (.tmp 117), 3, [], true⟩,
  ⟨(some 119), (some (118, true)), .mv (.tmp 0), 4, [], true⟩,
  ⟨(some 120), (some (118, true)), .mv (.tmp 11), 5, [], false⟩,
  ⟨(some 121), (some (118, true)), .adSl 1 (.tmp 119) (.tmp 120), 6, [], true⟩,
  ⟨(some 122), (some (118, true)), .load 1 false (.tmp 121), 7, [], true⟩,
  ⟨(some 123), (some (118, true)), .mv (.tmp 0), 8, [], false⟩,
  ⟨(some 124), (some (118, true)), .mv (.tmp 1), 9, [], false⟩,
  ⟨(some 125), (some (118, true)), .adSl 1 (.tmp 123) (.tmp 124), 10, [], false⟩,
  ⟨(some 126), (some (118, true)), .load 1 false (.tmp 125), 11, [], false⟩,
  ⟨(some 127), (some (118, true)), .call (.func 155) [(.tmp 122), (.tmp 126)], 12, [], true⟩,
  ⟨(some 128), (some (118, true)), .un .not (.tmp 127), 13, [], true⟩,
  ⟨(some 129), none, .pick (.tmp 118) (.tmp 128) (.const (.bool false)), 14, [], true⟩])
 (.cond (.tmp 129) .skip (.exit 8)))
 (.block 9 (.region 3 [
  ⟨(some 130), none, .mv (.tmp 11), 0, [], true⟩,
  ⟨(some 131), none, .bin .sub (.tmp 130) (.const (.int .i64 1)), 1, [], true⟩,
  ⟨(some 11), none, .mv (.tmp 131), 2, [], true⟩])))))
 (.seq (.seq (.region 3 [
  ⟨(some 132), none, .mv (.tmp 10), 0, [], true⟩,
  ⟨(some 133), none, .mv (.tmp 11), 1, [], true⟩,
  ⟨(some 134), none, .bin .gtr (.tmp 132) (.tmp 133), 2, [], true⟩])
 (.cond (.tmp 134) (.exit 4) .skip))
 (.seq (.region 16 [
  ⟨(some 135), none, .mv (.tmp 0), 0, [], true⟩,
  ⟨(some 136), none, .mv (.tmp 10), 1, [], false⟩,
  ⟨(some 137), none, .mv (.tmp 0), 2, [], false⟩,
  ⟨(some 138), none, .mv (.tmp 11), 3, [], false⟩,
  ⟨(some 139), none, .mv (.tmp 0), 4, [], false⟩,
  ⟨(some 140), none, .mv (.tmp 11), 5, [], false⟩,
  ⟨(some 141), none, .adSl 1 (.tmp 139) (.tmp 140), 6, [], false⟩,
  ⟨(some 142), none, .load 1 false (.tmp 141), 7, [], false⟩,
  ⟨(some 143), none, .mv (.tmp 0), 8, [], false⟩,
  ⟨(some 144), none, .mv (.tmp 10), 9, [], false⟩,
  ⟨(some 145), none, .adSl 1 (.tmp 143) (.tmp 144), 10, [], false⟩,
  ⟨(some 146), none, .load 1 false (.tmp 145), 11, [], false⟩,
  ⟨(some 147), none, .adSl 1 (.tmp 135) (.tmp 136), 12, [], false⟩,
  ⟨none, none, .store 1 (.tmp 147) (.tmp 142), 13, [], false⟩,
  ⟨(some 148), none, .adSl 1 (.tmp 137) (.tmp 138), 14, [], true⟩,
  ⟨none, none, .store 1 (.tmp 148) (.tmp 146), 15, [], true⟩])
 (.seq (.region 3 [
  ⟨(some 149), none, .mv (.tmp 10), 0, [], true⟩,
  ⟨(some 150), none, .bin .add (.tmp 149) (.const (.int .i64 1)), 1, [], true⟩,
  ⟨(some 10), none, .mv (.tmp 150), 2, [], true⟩])
 (.region 3 [
  ⟨(some 151), none, .mv (.tmp 11), 0, [], true⟩,
  ⟨(some 152), none, .bin .sub (.tmp 151) (.const (.int .i64 1)), 1, [], true⟩,
  ⟨(some 11), none, .mv (.tmp 152), 2, [], true⟩])))))))))
 (.seq (.region 16 [
  ⟨(some 153), none, .mv (.tmp 0), 0, [], true⟩,
  ⟨(some 154), none, .mv (.tmp 11), 1, [], false⟩,
  ⟨(some 155), none, .mv (.tmp 0), 2, [], false⟩,
  ⟨(some 156), none, .mv (.tmp 1), 3, [], false⟩,
  ⟨(some 157), none, .mv (.tmp 0), 4, [], false⟩,
  ⟨(some 158), none, .mv (.tmp 1), 5, [], false⟩,
  ⟨(some 159), none, .adSl 1 (.tmp 157) (.tmp 158), 6, [], false⟩,
  ⟨(some 160), none, .load 1 false (.tmp 159), 7, [], false⟩,
  ⟨(some 161), none, .mv (.tmp 0), 8, [], false⟩,
  ⟨(some 162), none, .mv (.tmp 11), 9, [], false⟩,
  ⟨(some 163), none, .adSl 1 (.tmp 161) (.tmp 162), 10, [], false⟩,
  ⟨(some 164), none, .load 1 false (.tmp 163), 11, [], false⟩,
  ⟨(some 165), none, .adSl 1 (.tmp 153) (.tmp 154), 12, [], false⟩,
  ⟨none, none, .store 1 (.tmp 165) (.tmp 160), 13, [], false⟩,
  ⟨(some 166), none, .adSl 1 (.tmp 155) (.tmp 156), 14, [], true⟩,
  ⟨none, none, .store 1 (.tmp 166) (.tmp 164), 15, [], true⟩])
 (.seq (.region 3 [
  ⟨(some 167), none, .mv (.tmp 11), 0, [], true⟩,
  ⟨(some 8), none, .mv (.tmp 167), 1, [], true⟩,
  ⟨(some 9), none, .mv (.const (.bool false)), 2, [], true⟩])
 .ret))))))))))))⟩

def m158 : MFn := ⟨19, [(2, none)], (.seq (.region 1 [
  ⟨(some 2), none, .mv (.const (.int .i64 0)), 0, [], true⟩])
 (.seq (.seq (.region 2 [
  ⟨(some 3), none, .mv (.tmp 0), 0, [], true⟩,
  ⟨(some 4), none, .bin .geq (.tmp 3) (.const (.int .u32 65536)), 1, [], true⟩])
 (.cond (.tmp 4) (.seq (.region 3 [
  ⟨(some 5), none, .mv (.tmp 0), 0, [], true⟩,
  ⟨(some 6), none, .bin .shr (.tmp 5) (.const (.int .u64 16)), 1, [], true⟩,
  ⟨(some 0), none, .mv (.tmp 6), 2, [], true⟩])
 (.region 1 [
  ⟨(some 2), none, .mv (.const (.int .i64 16)), 0, [], true⟩])) .skip))
 (.seq (.seq (.region 2 [
  ⟨(some 7), none, .mv (.tmp 0), 0, [], true⟩,
  ⟨(some 8), none, .bin .geq (.tmp 7) (.const (.int .u32 256)), 1, [], true⟩])
 (.cond (.tmp 8) (.seq (.region 3 [
  ⟨(some 9), none, .mv (.tmp 0), 0, [], true⟩,
  ⟨(some 10), none, .bin .shr (.tmp 9) (.const (.int .u64 8)), 1, [], true⟩,
  ⟨(some 0), none, .mv (.tmp 10), 2, [], true⟩])
 (.region 3 [
  ⟨(some 11), none, .mv (.tmp 2), 0, [], true⟩,
  ⟨(some 12), none, .bin .add (.tmp 11) (.const (.int .i64 8)), 1, [], true⟩,
  ⟨(some 2), none, .mv (.tmp 12), 2, [], true⟩])) .skip))
 (.seq (.region 7 [
  ⟨(some 13), none, .mv (.tmp 2), 0, [], true⟩,
  ⟨(some 14), none, .mv (.tmp 0), 1, [], true⟩,
  ⟨(some 15), none, .conv .u8 (.tmp 14), 2, [], true⟩,
  ⟨(some 16), none, .idxStr (.const (.string ⟨#[0, 1, 2, 2, 3, 3, 3, 3, 4, 4, 4, 4, 4, 4, 4, 4, 5, 5, 5, 5, 5, 5, 5, 5, 5, 5, 5, 5, 5, 5, 5, 5, 6, 6, 6, 6, 6, 6, 6, 6, 6, 6, 6, 6, 6, 6, 6, 6, 6, 6, 6, 6, 6, 6, 6, 6, 6, 6, 6, 6, 6, 6, 6, 6, 7, 7, 7, 7, 7, 7, 7, 7, 7, 7, 7, 7, 7, 7, 7, 7, 7, 7, 7, 7, 7, 7, 7, 7, 7, 7, 7, 7, 7, 7, 7, 7, 7, 7, 7, 7, 7, 7, 7, 7, 7, 7, 7, 7, 7, 7, 7, 7, 7, 7, 7, 7, 7, 7, 7, 7, 7, 7, 7, 7, 7, 7, 7, 7, 8, 8, 8, 8, 8, 8, 8, 8, 8, 8, 8, 8, 8, 8, 8, 8, 8, 8, 8, 8, 8, 8, 8, 8, 8, 8, 8, 8, 8, 8, 8, 8, 8, 8, 8, 8, 8, 8, 8, 8, 8, 8, 8, 8, 8, 8, 8, 8, 8, 8, 8, 8, 8, 8, 8, 8, 8, 8, 8, 8, 8, 8, 8, 8, 8, 8, 8, 8, 8, 8, 8, 8, 8, 8, 8, 8, 8, 8, 8, 8, 8, 8, 8, 8, 8, 8, 8, 8, 8, 8, 8, 8, 8, 8, 8, 8, 8, 8, 8, 8, 8, 8, 8, 8, 8, 8, 8, 8, 8, 8, 8, 8, 8, 8, 8, 8, 8, 8, 8, 8, 8, 8, 8, 8, 8, 8, 8, 8]⟩)) (.tmp 15), 3, [], true⟩,
  ⟨(some 17), none, .conv .i64 (.tmp 16), 4, [], true⟩,
  ⟨(some 18), none, .bin .add (.tmp 13) (.tmp 17), 5, [], true⟩,
  ⟨(some 2), none, .mv (.tmp 18), 6, [], true⟩])
 .ret))))⟩

def m159 : MFn := ⟨25, [(2, none)], (.seq (.region 1 [
  ⟨(some 2), none, .mv (.const (.int .i64 0)), 0, [], true⟩])
 (.seq (.seq (.region 2 [
  ⟨(some 3), none, .mv (.tmp 0), 0, [], true⟩,
  ⟨(some 4), none, .bin .geq (.tmp 3) (.const (.int .u64 4294967296)), 1, [], true⟩])
 (.cond (.tmp 4) (.seq (.region 3 [
  ⟨(some 5), none, .mv (.tmp 0), 0, [], true⟩,
  ⟨(some 6), none, .bin .shr (.tmp 5) (.const (.int .u64 32)), 1, [], true⟩,
  ⟨(some 0), none, .mv (.tmp 6), 2, [], true⟩])
 (.region 1 [
  ⟨(some 2), none, .mv (.const (.int .i64 32)), 0, [], true⟩])) .skip))
 (.seq (.seq (.region 2 [
  ⟨(some 7), none, .mv (.tmp 0), 0, [], true⟩,
  ⟨(some 8), none, .bin .geq (.tmp 7) (.const (.int .u64 65536)), 1, [], true⟩])
 (.cond (.tmp 8) (.seq (.region 3 [
  ⟨(some 9), none, .mv (.tmp 0), 0, [], true⟩,
  ⟨(some 10), none, .bin .shr (.tmp 9) (.const (.int .u64 16)), 1, [], true⟩,
  ⟨(some 0), none, .mv (.tmp 10), 2, [], true⟩])
 (.region 3 [
  ⟨(some 11), none, .mv (.tmp 2), 0, [], true⟩,
  ⟨(some 12), none, .bin .add (.tmp 11) (.const (.int .i64 16)), 1, [], true⟩,
  ⟨(some 2), none, .mv (.tmp 12), 2, [], true⟩])) .skip))
 (.seq (.seq (.region 2 [
  ⟨(some 13), none, .mv (.tmp 0), 0, [], true⟩,
  ⟨(some 14), none, .bin .geq (.tmp 13) (.const (.int .u64 256)), 1, [], true⟩])
 (.cond (.tmp 14) (.seq (.region 3 [
  ⟨(some 15), none, .mv (.tmp 0), 0, [], true⟩,
  ⟨(some 16), none, .bin .shr (.tmp 15) (.const (.int .u64 8)), 1, [], true⟩,
  ⟨(some 0), none, .mv (.tmp 16), 2, [], true⟩])
 (.region 3 [
  ⟨(some 17), none, .mv (.tmp 2), 0, [], true⟩,
  ⟨(some 18), none, .bin .add (.tmp 17) (.const (.int .i64 8)), 1, [], true⟩,
  ⟨(some 2), none, .mv (.tmp 18), 2, [], true⟩])) .skip))
 (.seq (.region 7 [
  ⟨(some 19), none, .mv (.tmp 2), 0, [], true⟩,
  ⟨(some 20), none, .mv (.tmp 0), 1, [], true⟩,
  ⟨(some 21), none, .conv .u8 (.tmp 20), 2, [], true⟩,
  ⟨(some 22), none, .idxStr (.const (.string ⟨#[0, 1, 2, 2, 3, 3, 3, 3, 4, 4, 4, 4, 4, 4, 4, 4, 5, 5, 5, 5, 5, 5, 5, 5, 5, 5, 5, 5, 5, 5, 5, 5, 6, 6, 6, 6, 6, 6, 6, 6, 6, 6, 6, 6, 6, 6, 6, 6, 6, 6, 6, 6, 6, 6, 6, 6, 6, 6, 6, 6, 6, 6, 6, 6, 7, 7, 7, 7, 7, 7, 7, 7, 7, 7, 7, 7, 7, 7, 7, 7, 7, 7, 7, 7, 7, 7, 7, 7, 7, 7, 7, 7, 7, 7, 7, 7, 7, 7, 7, 7, 7, 7, 7, 7, 7, 7, 7, 7, 7, 7, 7, 7, 7, 7, 7, 7, 7, 7, 7, 7, 7, 7, 7, 7, 7, 7, 7, 7, 8, 8, 8, 8, 8, 8, 8, 8, 8, 8, 8, 8, 8, 8, 8, 8, 8, 8, 8, 8, 8, 8, 8, 8, 8, 8, 8, 8, 8, 8, 8, 8, 8, 8, 8, 8, 8, 8, 8, 8, 8, 8, 8, 8, 8, 8, 8, 8, 8, 8, 8, 8, 8, 8, 8, 8, 8, 8, 8, 8, 8, 8, 8, 8, 8, 8, 8, 8, 8, 8, 8, 8, 8, 8, 8, 8, 8, 8, 8, 8, 8, 8, 8, 8, 8, 8, 8, 8, 8, 8, 8, 8, 8, 8, 8, 8, 8, 8, 8, 8, 8, 8, 8, 8, 8, 8, 8, 8, 8, 8, 8, 8, 8, 8, 8, 8, 8, 8, 8, 8, 8, 8, 8, 8, 8, 8, 8, 8]⟩)) (.tmp 21), 3, [], true⟩,
  ⟨(some 23), none, .conv .i64 (.tmp 22), 4, [], true⟩,
  ⟨(some 24), none, .bin .add (.tmp 19) (.tmp 23), 5, [], true⟩,
  ⟨(some 2), none, .mv (.tmp 24), 6, [], true⟩])
 .ret)))))⟩

def m160 : MFn := ⟨41, [], (.seq (.seq (.region 2 [
  ⟨(some 9), none, .load 1 false (.tmp 1), 0, [], true⟩,
  ⟨(some 10), none, .eq false .ptr (.tmp 9) (.const (.pointer none)), 1, [], true⟩])
 (.cond (.tmp 10) .ret .skip))
 (.seq (.region 6 [
  ⟨(some 11), none, .load 1 false (.tmp 1), 0, [], true⟩,
  ⟨(some 12), none, .nilCheck (.tmp 11), 1, [], true⟩,
  ⟨(some 13), none, .fieldAddr 1 (.tmp 12), 2, [], true⟩,
  ⟨(some 14), none, .load 1 false (.tmp 13), 3, [], true⟩,
  ⟨(some 15), none, .len false (.tmp 14), 4, [], true⟩,
  ⟨(some 16), none, .mv (.const (.int .i64 0)), 5, [], true⟩])
 (.block 0 (.loop (.seq (.region 1 [
  ⟨(some 17), none, .bin .lss (.tmp 16) (.tmp 15), 0, [], true⟩])
 (.seq (.cond (.tmp 17) .skip (.exit 0))
 (.seq (.block 1 (.seq (.region 5 [
  ⟨(some 18), none, .mv (.tmp 16), 0, [], true⟩,
  ⟨(some 19), none, .adSl 1 (.tmp 14) (.tmp 16), 1, [], true⟩,
  ⟨(some 20), none, .load 1 false (.tmp 19), 2, [], true⟩,
  ⟨(some 4), none, .mv (.tmp 18), 3, [], true⟩,
  ⟨(some 5), none, .mv (.tmp 20), 4, [], true⟩])
 (.seq (.region 9 [
  ⟨(some 22), none, .mv (.tmp 5), 0, [], true⟩,
  ⟨(some 23), none, .call (.func 161) [(.tmp 22)], 1, [], true⟩,
  ⟨(some 21), none, .mv (.tmp 23), 2, [], true⟩,
  ⟨(some 24), none, .extract (.tmp 21) 0, 3, [], true⟩,
  ⟨(some 25), none, .extract (.tmp 21) 1, 4, [], true⟩,
  ⟨(some 26), none, .extract (.tmp 21) 2, 5, [], true⟩,
  ⟨(some 6), none, .mv (.tmp 24), 6, [], true⟩,
  ⟨(some 7), none, .mv (.tmp 25), 7, [], true⟩,
  ⟨(some 8), none, .mv (.tmp 26), 8, [], true⟩])
 (.seq (.region 13 [
  ⟨(some 27), none, .mv (.tmp 6), 0, [], true⟩,
  ⟨(some 28), none, .load 1 false (.tmp 2), 1, [], true⟩,
  ⟨(some 29), none, .bin .eql (.tmp 27) (.tmp 28), 2, [], true⟩,
  ⟨(some 30), none, .mv (.tmp 29), 3, [], true⟩,
  ⟨(some 31), (some (30, true)), .mv (.tmp 6), 4, [], true⟩,
  ⟨(some 32), (some (30, true)), .bin .geq (.tmp 31) (.const (.int .i64 0)), 5, [], true⟩,
  ⟨(some 33), none, .pick (.tmp 30) (.tmp 32) (.const (.bool false)), 6, [], true⟩,
  ⟨(some 34), none, .mv (.tmp 33), 7, [], true⟩,
  ⟨(some 35), (some (34, true)), .mv (.tmp 0), 8, [], true⟩,
  ⟨(some 36), (some (34, true)), .mv (.tmp 4), 9, [], true⟩,
  ⟨(some 37), (some (34, true)), .call (.tmp 35) [(.tmp 36)], 10, [], true⟩,
  ⟨(some 38), (some (34, true)), .un .not (.tmp 37), 11, [], true⟩,
  ⟨(some 39), none, .pick (.tmp 34) (.tmp 38) (.const (.bool false)), 12, [], true⟩])
 (.cond (.tmp 39) .ret .skip)))))
 (.region 2 [
  ⟨(some 40), none, .bin .add (.tmp 16) (.const (.int .i64 1)), 0, [], true⟩,
  ⟨(some 16), none, .mv (.tmp 40), 1, [], true⟩]))))))))⟩

def m161 : MFn := ⟨18, [(2, none), (3, none), (4, none)], (.seq (.region 3 [
  ⟨(some 2), none, .mv (.const (.int .i64 0)), 0, [], true⟩,
  ⟨(some 3), none, .mv (.const (.int .u64 0)), 1, [], true⟩,
  ⟨(some 4), none, .mv (.const (.int .i64 0)), 2, [], true⟩])
 (.seq (.region 8 [
  ⟨(some 8), none, .mv (.tmp 0), 0, [], true⟩,
  ⟨(some 9), none, .call (.func 146) [(.tmp 8)], 1, [], true⟩,
  ⟨(some 7), none, .mv (.tmp 9), 2, [], true⟩,
  ⟨(some 10), none, .extract (.tmp 7) 0, 3, [], true⟩,
  ⟨(some 11), none, .extract (.tmp 7) 1, 4, [], true⟩,
  ⟨(some 5), none, .alloc [(.int .i64 0), (.int .u64 0)] 207, 5, [], true⟩,
  ⟨none, none, .store 2 (.tmp 5) (.tmp 10), 6, [], true⟩,
  ⟨(some 6), none, .mv (.tmp 11), 7, [], true⟩])
 (.seq (.seq (.region 2 [
  ⟨(some 12), none, .mv (.tmp 6), 0, [], true⟩,
  ⟨(some 13), none, .un .not (.tmp 12), 1, [], true⟩])
 (.cond (.tmp 13) (.seq (.region 3 [
  ⟨(some 2), none, .mv (.const (.int .i64 0)), 0, [], true⟩,
  ⟨(some 3), none, .mv (.const (.int .u64 0)), 1, [], true⟩,
  ⟨(some 4), none, .mv (.const (.int .i64 3)), 2, [], true⟩])
 .ret) .skip))
 (.seq (.region 7 [
  ⟨(some 14), none, .fieldAddr 0 (.tmp 5), 0, [], true⟩,
  ⟨(some 15), none, .load 1 false (.tmp 14), 1, [], true⟩,
  ⟨(some 16), none, .fieldAddr 1 (.tmp 5), 2, [], false⟩,
  ⟨(some 17), none, .load 1 false (.tmp 16), 3, [], false⟩,
  ⟨(some 2), none, .mv (.tmp 15), 4, [], false⟩,
  ⟨(some 3), none, .mv (.tmp 17), 5, [], true⟩,
  ⟨(some 4), none, .mv (.const (.int .i64 0)), 6, [], true⟩])
 .ret))))⟩

end Ev
