/- Tl2None: for every deed, every values and number the law returns true, and each argument reads as it did; by an evaluator of the compiled code that is proved sound for the model. Part 2 of 11. -/
import Derived.Test.YtfncjdkfedlnaaaGreatNone1
set_option linter.unusedSimpArgs false
set_option linter.unusedVariables false

/- Compiled functions. -/
namespace Ev
open Go

def m31 : MFn := ⟨24, [(2, none)], (.seq (.region 1 [
  ⟨(some 2), none, .mv (.const (.bool false)), 0, [], true⟩])
 (.seq (.seq (.region 8 [
  ⟨(some 4), none, .mv (.tmp 0), 0, [], true⟩,
  ⟨(some 5), none, .len false (.tmp 4), 1, [], true⟩,
  ⟨(some 6), none, .bin .lss (.tmp 5) (.const (.int .i64 1)), 2, [], true⟩,
  ⟨(some 7), none, .mv (.tmp 6), 3, [], true⟩,
  ⟨(some 8), (some (7, false)), .mv (.tmp 0), 4, [], true⟩,
  ⟨(some 9), (some (7, false)), .len false (.tmp 8), 5, [], true⟩,
  ⟨(some 10), (some (7, false)), .bin .gtr (.tmp 9) (.const (.int .i64 12)), 6, [], true⟩,
  ⟨(some 11), none, .pick (.tmp 7) (.const (.bool true)) (.tmp 10), 7, [], true⟩])
 (.cond (.tmp 11) (.seq (.region 1 [
  ⟨(some 2), none, .mv (.const (.bool false)), 0, [], true⟩])
 .ret) .skip))
 (.seq (.seq (.region 1 [
  ⟨(some 3), none, .mv (.const (.int .i64 0)), 0, [], true⟩])
 (.block 0 (.loop (.seq (.seq (.region 4 [
  ⟨(some 12), none, .mv (.tmp 3), 0, [], true⟩,
  ⟨(some 13), none, .mv (.tmp 0), 1, [], true⟩,
  ⟨(some 14), none, .len false (.tmp 13), 2, [], true⟩,
  ⟨(some 15), none, .bin .lss (.tmp 12) (.tmp 14), 3, [], true⟩])
 (.cond (.tmp 15) .skip (.exit 0)))
 (.seq (.block 1 (.seq (.region 6 [
  ⟨(some 18), none, .mv (.tmp 0), 0, [], true⟩,
  ⟨(some 19), none, .mv (.tmp 3), 1, [], true⟩,
  ⟨(some 20), none, .adSl 1 (.tmp 18) (.tmp 19), 2, [], true⟩,
  ⟨(some 21), none, .load 1 false (.tmp 20), 3, [], true⟩,
  ⟨(some 22), none, .call (.func 89) [(.tmp 21)], 4, [], true⟩,
  ⟨(some 23), none, .un .not (.tmp 22), 5, [], true⟩])
 (.cond (.tmp 23) (.seq (.region 1 [
  ⟨(some 2), none, .mv (.const (.bool false)), 0, [], true⟩])
 .ret) .skip)))
 (.region 3 [
  ⟨(some 16), none, .mv (.tmp 3), 0, [], true⟩,
  ⟨(some 17), none, .bin .add (.tmp 16) (.const (.int .i64 1)), 1, [], true⟩,
  ⟨(some 3), none, .mv (.tmp 17), 2, [], true⟩]))))))
 (.seq (.region 1 [
  ⟨(some 2), none, .mv (.const (.bool true)), 0, [], true⟩])
 .ret))))⟩

def m32 : MFn := ⟨13, [(2, none)], (.seq (.region 1 [
  ⟨(some 2), none, .mv (.const (.pointer none)), 0, [], true⟩])
 (.seq (.seq (.region 6 [
  ⟨(some 3), none, .mv (.tmp 0), 0, [], true⟩,
  ⟨(some 4), none, .bin .lss (.tmp 3) (.const (.int .i64 1)), 1, [], true⟩,
  ⟨(some 5), none, .mv (.tmp 4), 2, [], true⟩,
  ⟨(some 6), (some (5, false)), .mv (.tmp 0), 3, [], true⟩,
  ⟨(some 7), (some (5, false)), .bin .gtr (.tmp 6) (.const (.int .i64 8)), 4, [], true⟩,
  ⟨(some 8), none, .pick (.tmp 5) (.const (.bool true)) (.tmp 7), 5, [], true⟩])
 (.cond (.tmp 8) (.seq (.region 1 [
  ⟨(some 2), none, .mv (.const (.pointer none)), 0, [], true⟩])
 .ret) .skip))
 (.seq (.region 5 [
  ⟨(some 9), none, .mv (.tmp 0), 0, [], true⟩,
  ⟨(some 10), none, .makeSl 41 8 [(.int .u64 0)] (.tmp 9) (.tmp 9), 1, [], true⟩,
  ⟨(some 11), none, .build [(.slice none 0 0), (.int .u64 0)] [(0, 1, (.tmp 10))], 2, [], true⟩,
  ⟨(some 12), none, .box 142 (.tmp 11), 3, [], true⟩,
  ⟨(some 2), none, .mv (.tmp 12), 4, [], true⟩])
 .ret)))⟩

def m33 : MFn := ⟨37, [(4, (some (7, true)))], (.seq (.region 1 [
  ⟨(some 4), none, .alloc [(.bool false), (.int .u64 0), (.bool false), (.int .i64 0), (.bool false), (.int .u8 0), (.int .i64 0)] 70, 0, [], true⟩])
 (.seq (.seq (.region 4 [
  ⟨(some 7), none, .mv (.tmp 0), 0, [], true⟩,
  ⟨(some 8), none, .mv (.tmp 1), 1, [], true⟩,
  ⟨(some 9), none, .call (.func 41) [(.tmp 7), (.tmp 8)], 2, [], true⟩,
  ⟨(some 5), none, .mv (.tmp 9), 3, [], true⟩])
 (.seq (.region 2 [
  ⟨(some 10), none, .mv (.tmp 5), 0, [], true⟩,
  ⟨(some 11), none, .bin .neq (.tmp 10) (.const (.int .i64 0)), 1, [], true⟩])
 (.cond (.tmp 11) (.seq (.region 3 [
  ⟨(some 12), none, .mv (.tmp 5), 0, [], true⟩,
  ⟨(some 13), none, .build [(.bool false), (.int .u64 0), (.bool false), (.int .i64 0), (.bool false), (.int .u8 0), (.int .i64 0)] [(6, 1, (.tmp 12))], 1, [], true⟩,
  ⟨none, none, .store 7 (.tmp 4) (.tmp 13), 2, [], true⟩])
 .ret) .skip)))
 (.seq (.region 7 [
  ⟨(some 14), none, .mv (.tmp 0), 0, [], true⟩,
  ⟨(some 15), none, .mv (.tmp 1), 1, [], true⟩,
  ⟨(some 16), none, .nilCheck (.tmp 14), 2, [], true⟩,
  ⟨(some 17), none, .fieldAddr 2 (.tmp 16), 3, [], true⟩,
  ⟨(some 18), none, .adArr 4 1 (.tmp 17) (.tmp 15), 4, [], true⟩,
  ⟨(some 19), none, .load 1 false (.tmp 18), 5, [], true⟩,
  ⟨(some 6), none, .mv (.tmp 19), 6, [], true⟩])
 (.seq (.seq (.region 6 [
  ⟨(some 20), none, .mv (.tmp 6), 0, [], true⟩,
  ⟨(some 21), none, .eq false .ptr (.tmp 20) (.const (.pointer none)), 1, [], true⟩,
  ⟨(some 22), none, .mv (.tmp 21), 2, [], true⟩,
  ⟨(some 23), (some (22, false)), .mv (.tmp 6), 3, [], true⟩,
  ⟨(some 24), (some (22, false)), .call (.func 45) [(.tmp 23)], 4, [], true⟩,
  ⟨(some 25), none, .pick (.tmp 22) (.const (.bool true)) (.tmp 24), 5, [], true⟩])
 (.cond (.tmp 25) (.seq (.region 2 [
  ⟨(some 26), none, .build [(.bool false), (.int .u64 0), (.bool false), (.int .i64 0), (.bool false), (.int .u8 0), (.int .i64 0)] [(6, 1, (.const (.int .i64 8)))], 0, [], true⟩,
  ⟨none, none, .store 7 (.tmp 4) (.tmp 26), 1, [], true⟩])
 .ret) .skip))
 (.seq (.region 11 [
  ⟨(some 27), none, .mv (.tmp 0), 0, [], true⟩,
  ⟨(some 28), none, .mv (.tmp 6), 1, [], true⟩,
  ⟨(some 29), none, .nilCheck (.tmp 28), 2, [], true⟩,
  ⟨(some 30), none, .fieldAddr 5 (.tmp 29), 3, [], true⟩,
  ⟨(some 31), none, .fieldAddr 0 (.tmp 30), 4, [], true⟩,
  ⟨(some 32), none, .load 1 false (.tmp 31), 5, [], true⟩,
  ⟨(some 33), none, .call (.func 90) [(.tmp 27), (.tmp 32)], 6, [], true⟩,
  ⟨(some 34), none, .mv (.tmp 1), 7, [], true⟩,
  ⟨(some 35), none, .mv (.tmp 6), 8, [], true⟩,
  ⟨(some 36), none, .call (.tmp 33) [(.tmp 34), (.tmp 35)], 9, [], true⟩,
  ⟨none, none, .store 7 (.tmp 4) (.tmp 36), 10, [], true⟩])
 .ret)))))⟩

def m34 : MFn := ⟨16, [(4, none)], (.seq (.region 1 [
  ⟨(some 4), none, .mv (.const (.slice none 0 0)), 0, [], true⟩])
 (.seq (.region 4 [
  ⟨(some 6), none, .mv (.tmp 0), 0, [], true⟩,
  ⟨(some 7), none, .mv (.tmp 1), 1, [], true⟩,
  ⟨(some 8), none, .call (.func 39) [(.tmp 6), (.tmp 7)], 2, [], true⟩,
  ⟨(some 5), none, .mv (.tmp 8), 3, [], true⟩])
 (.seq (.seq (.region 2 [
  ⟨(some 9), none, .mv (.tmp 5), 0, [], true⟩,
  ⟨(some 10), none, .eq false .ptr (.tmp 9) (.const (.pointer none)), 1, [], true⟩])
 (.cond (.tmp 10) (.seq (.region 1 [
  ⟨(some 4), none, .mv (.const (.slice none 0 0)), 0, [], true⟩])
 .ret) .skip))
 (.seq (.region 6 [
  ⟨(some 11), none, .mv (.tmp 5), 0, [], true⟩,
  ⟨(some 12), none, .nilCheck (.tmp 11), 1, [], true⟩,
  ⟨(some 13), none, .fieldAddr 0 (.tmp 12), 2, [], true⟩,
  ⟨(some 14), none, .load 1 false (.tmp 13), 3, [], true⟩,
  ⟨(some 15), none, .call (.func 91) [(.tmp 14)], 4, [], true⟩,
  ⟨(some 4), none, .mv (.tmp 15), 5, [], true⟩])
 .ret))))⟩

def m35 : MFn := ⟨16, [(4, none)], (.seq (.region 1 [
  ⟨(some 4), none, .mv (.const (.slice none 0 0)), 0, [], true⟩])
 (.seq (.region 4 [
  ⟨(some 6), none, .mv (.tmp 0), 0, [], true⟩,
  ⟨(some 7), none, .mv (.tmp 1), 1, [], true⟩,
  ⟨(some 8), none, .call (.func 39) [(.tmp 6), (.tmp 7)], 2, [], true⟩,
  ⟨(some 5), none, .mv (.tmp 8), 3, [], true⟩])
 (.seq (.seq (.region 2 [
  ⟨(some 9), none, .mv (.tmp 5), 0, [], true⟩,
  ⟨(some 10), none, .eq false .ptr (.tmp 9) (.const (.pointer none)), 1, [], true⟩])
 (.cond (.tmp 10) (.seq (.region 1 [
  ⟨(some 4), none, .mv (.const (.slice none 0 0)), 0, [], true⟩])
 .ret) .skip))
 (.seq (.region 6 [
  ⟨(some 11), none, .mv (.tmp 5), 0, [], true⟩,
  ⟨(some 12), none, .nilCheck (.tmp 11), 1, [], true⟩,
  ⟨(some 13), none, .fieldAddr 1 (.tmp 12), 2, [], true⟩,
  ⟨(some 14), none, .load 1 false (.tmp 13), 3, [], true⟩,
  ⟨(some 15), none, .call (.func 92) [(.tmp 14)], 4, [], true⟩,
  ⟨(some 4), none, .mv (.tmp 15), 5, [], true⟩])
 .ret))))⟩

def m36 : MFn := ⟨19, [(4, none)], (.seq (.region 3 [
  ⟨(some 2), none, .box 23 (.tmp 0), 0, [], true⟩,
  ⟨(some 3), none, .box 3 (.tmp 1), 1, [], true⟩,
  ⟨(some 4), none, .mv (.const (.bool false)), 2, [], true⟩])
 (.seq (.region 5 [
  ⟨(some 6), none, .load 1 false (.tmp 2), 0, [], true⟩,
  ⟨(some 7), none, .load 1 false (.tmp 3), 1, [], true⟩,
  ⟨(some 8), none, .call (.func 39) [(.tmp 6), (.tmp 7)], 2, [], true⟩,
  ⟨(some 5), none, .alloc [(.pointer none)] 79, 3, [], true⟩,
  ⟨none, none, .store 1 (.tmp 5) (.tmp 8), 4, [], true⟩])
 (.seq (.seq (.region 2 [
  ⟨(some 9), none, .load 1 false (.tmp 5), 0, [], true⟩,
  ⟨(some 10), none, .eq false .ptr (.tmp 9) (.const (.pointer none)), 1, [], true⟩])
 (.cond (.tmp 10) (.seq (.region 1 [
  ⟨(some 4), none, .mv (.const (.bool false)), 0, [], true⟩])
 .ret) .skip))
 (.seq (.region 9 [
  ⟨(some 11), none, .load 1 false (.tmp 5), 0, [], true⟩,
  ⟨(some 12), none, .nilCheck (.tmp 11), 1, [], true⟩,
  ⟨(some 13), none, .fieldAddr 0 (.tmp 12), 2, [], true⟩,
  ⟨(some 14), none, .load 1 false (.tmp 13), 3, [], true⟩,
  ⟨(some 15), none, .call (.func 94) [(.tmp 14)], 4, [], true⟩,
  ⟨(some 16), none, .func (.func 95) [] [(.tmp 2), (.tmp 3), (.tmp 5)], 5, [], true⟩,
  ⟨(some 17), none, .call (.func 93) [(.tmp 15), (.tmp 16)], 6, [], true⟩,
  ⟨(some 18), none, .un .not (.tmp 17), 7, [], true⟩,
  ⟨(some 4), none, .mv (.tmp 18), 8, [], true⟩])
 .ret))))⟩

def m37 : MFn := ⟨10, [(2, none)], (.seq (.region 1 [
  ⟨(some 2), none, .mv (.const (.int .u64 0)), 0, [], true⟩])
 (.seq (.seq (.region 2 [
  ⟨(some 3), none, .mv (.tmp 0), 0, [], true⟩,
  ⟨(some 4), none, .eq false .ptr (.tmp 3) (.const (.pointer none)), 1, [], true⟩])
 (.cond (.tmp 4) (.seq (.region 1 [
  ⟨(some 2), none, .mv (.const (.int .u64 0)), 0, [], true⟩])
 .ret) .skip))
 (.seq (.region 6 [
  ⟨(some 5), none, .mv (.tmp 0), 0, [], true⟩,
  ⟨(some 6), none, .nilCheck (.tmp 5), 1, [], true⟩,
  ⟨(some 7), none, .fieldAddr 0 (.tmp 6), 2, [], true⟩,
  ⟨(some 8), none, .load 1 false (.tmp 7), 3, [], true⟩,
  ⟨(some 9), none, .call (.func 87) [(.tmp 8)], 4, [], true⟩,
  ⟨(some 2), none, .mv (.tmp 9), 5, [], true⟩])
 .ret)))⟩

def m38 : MFn := ⟨31, [(4, none)], (.seq (.region 1 [
  ⟨(some 4), none, .mv (.const (.pointer none)), 0, [], true⟩])
 (.seq (.region 3 [
  ⟨(some 7), none, .mv (.tmp 1), 0, [], true⟩,
  ⟨(some 8), none, .call (.func 99) [(.tmp 7)], 1, [], true⟩,
  ⟨(some 5), none, .mv (.tmp 8), 2, [], true⟩])
 (.seq (.region 1 [
  ⟨(some 6), none, .mv (.func 100), 0, [], true⟩])
 (.seq (.seq (.region 17 [
  ⟨(some 9), none, .mv (.tmp 0), 0, [], true⟩,
  ⟨(some 10), none, .len false (.tmp 9), 1, [], true⟩,
  ⟨(some 11), none, .bin .lss (.tmp 10) (.const (.int .i64 1)), 2, [], true⟩,
  ⟨(some 12), none, .mv (.tmp 11), 3, [], true⟩,
  ⟨(some 13), (some (12, false)), .mv (.tmp 0), 4, [], true⟩,
  ⟨(some 14), (some (12, false)), .len false (.tmp 13), 5, [], true⟩,
  ⟨(some 15), (some (12, false)), .bin .gtr (.tmp 14) (.const (.int .i64 12)), 6, [], true⟩,
  ⟨(some 16), none, .pick (.tmp 12) (.const (.bool true)) (.tmp 15), 7, [], true⟩,
  ⟨(some 17), none, .mv (.tmp 16), 8, [], true⟩,
  ⟨(some 18), (some (17, false)), .mv (.tmp 0), 9, [], true⟩,
  ⟨(some 19), (some (17, false)), .mv (.tmp 6), 10, [], true⟩,
  ⟨(some 20), (some (17, false)), .call (.func 102) [(.tmp 18), (.tmp 19)], 11, [], true⟩,
  ⟨(some 21), none, .pick (.tmp 17) (.const (.bool true)) (.tmp 20), 12, [], true⟩,
  ⟨(some 22), none, .mv (.tmp 21), 13, [], true⟩,
  ⟨(some 23), (some (22, false)), .mv (.tmp 5), 14, [], true⟩,
  ⟨(some 24), (some (22, false)), .eq false .ptr (.tmp 23) (.const (.pointer none)), 15, [], true⟩,
  ⟨(some 25), none, .pick (.tmp 22) (.const (.bool true)) (.tmp 24), 16, [], true⟩])
 (.cond (.tmp 25) (.seq (.region 1 [
  ⟨(some 4), none, .mv (.const (.pointer none)), 0, [], true⟩])
 .ret) .skip))
 (.seq (.region 6 [
  ⟨(some 26), none, .mv (.tmp 5), 0, [], true⟩,
  ⟨(some 27), none, .mv (.tmp 0), 1, [], true⟩,
  ⟨(some 28), none, .call (.func 40) [(.tmp 27)], 2, [], true⟩,
  ⟨(some 29), none, .build [(.pointer none), (.slice none 0 0), (.pointer none), (.pointer none), (.pointer none), (.pointer none), (.slice none 0 0), (.slice none 0 0)] [(0, 1, (.tmp 26)), (1, 1, (.tmp 28))], 3, [], true⟩,
  ⟨(some 30), none, .box 93 (.tmp 29), 4, [], true⟩,
  ⟨(some 4), none, .mv (.tmp 30), 5, [], true⟩])
 .ret)))))⟩

def m39 : MFn := ⟨15, [(4, none)], (.seq (.region 1 [
  ⟨(some 4), none, .mv (.const (.pointer none)), 0, [], true⟩])
 (.seq (.seq (.region 4 [
  ⟨(some 5), none, .mv (.tmp 0), 0, [], true⟩,
  ⟨(some 6), none, .mv (.tmp 1), 1, [], true⟩,
  ⟨(some 7), none, .call (.func 41) [(.tmp 5), (.tmp 6)], 2, [], true⟩,
  ⟨(some 8), none, .bin .neq (.tmp 7) (.const (.int .i64 0)), 3, [], true⟩])
 (.cond (.tmp 8) (.seq (.region 1 [
  ⟨(some 4), none, .mv (.const (.pointer none)), 0, [], true⟩])
 .ret) .skip))
 (.seq (.region 7 [
  ⟨(some 9), none, .mv (.tmp 0), 0, [], true⟩,
  ⟨(some 10), none, .mv (.tmp 1), 1, [], true⟩,
  ⟨(some 11), none, .nilCheck (.tmp 9), 2, [], true⟩,
  ⟨(some 12), none, .fieldAddr 2 (.tmp 11), 3, [], true⟩,
  ⟨(some 13), none, .adArr 4 1 (.tmp 12) (.tmp 10), 4, [], true⟩,
  ⟨(some 14), none, .load 1 false (.tmp 13), 5, [], true⟩,
  ⟨(some 4), none, .mv (.tmp 14), 6, [], true⟩])
 .ret)))⟩

def m40 : MFn := ⟨8, [(2, none)], (.seq (.region 1 [
  ⟨(some 2), none, .mv (.const (.slice none 0 0)), 0, [], true⟩])
 (.seq (.seq (.region 2 [
  ⟨(some 3), none, .mv (.tmp 0), 0, [], true⟩,
  ⟨(some 4), none, .eq false .slice (.tmp 3) (.const (.slice none 0 0)), 1, [], true⟩])
 (.cond (.tmp 4) (.seq (.region 1 [
  ⟨(some 2), none, .mv (.const (.slice none 0 0)), 0, [], true⟩])
 .ret) .skip))
 (.seq (.region 4 [
  ⟨(some 5), none, .buildSl 42 1 0 [] [], 0, [], true⟩,
  ⟨(some 6), none, .mv (.tmp 0), 1, [], true⟩,
  ⟨(some 7), none, .append 42 1 8 (.tmp 5) (.tmp 6), 2, [], true⟩,
  ⟨(some 2), none, .mv (.tmp 7), 3, [], true⟩])
 .ret)))⟩

def m41 : MFn := ⟨15, [(4, none)], (.seq (.region 1 [
  ⟨(some 4), none, .mv (.const (.int .i64 0)), 0, [], true⟩])
 (.seq (.block 0 (.seq (.region 3 [
  ⟨(some 6), none, .mv (.tmp 0), 0, [], true⟩,
  ⟨(some 7), none, .eq false .ptr (.tmp 6) (.const (.pointer none)), 1, [], true⟩,
  ⟨(some 5), none, .mv (.tmp 7), 2, [], true⟩])
 (.cond (.tmp 5) (.seq (.region 1 [
  ⟨(some 4), none, .mv (.const (.int .i64 1)), 0, [], true⟩])
 .ret) (.seq (.region 7 [
  ⟨(some 9), none, .mv (.tmp 1), 0, [], true⟩,
  ⟨(some 10), none, .bin .lss (.tmp 9) (.const (.int .i64 0)), 1, [], true⟩,
  ⟨(some 11), none, .mv (.tmp 10), 2, [], true⟩,
  ⟨(some 12), (some (11, false)), .mv (.tmp 1), 3, [], true⟩,
  ⟨(some 13), (some (11, false)), .bin .geq (.tmp 12) (.const (.int .i64 4)), 4, [], true⟩,
  ⟨(some 14), none, .pick (.tmp 11) (.const (.bool true)) (.tmp 13), 5, [], true⟩,
  ⟨(some 8), none, .mv (.tmp 14), 6, [], true⟩])
 (.cond (.tmp 8) (.seq (.region 1 [
  ⟨(some 4), none, .mv (.const (.int .i64 2)), 0, [], true⟩])
 .ret) .skip)))))
 (.seq (.region 1 [
  ⟨(some 4), none, .mv (.const (.int .i64 0)), 0, [], true⟩])
 .ret)))⟩

def m42 : MFn := ⟨42, [(6, (some (7, true)))], (.seq (.region 1 [
  ⟨(some 6), none, .alloc [(.bool false), (.int .u64 0), (.bool false), (.int .i64 0), (.bool false), (.int .u8 0), (.int .i64 0)] 70, 0, [], true⟩])
 (.seq (.region 7 [
  ⟨(some 8), none, .mv (.tmp 0), 0, [], true⟩,
  ⟨(some 9), none, .mv (.tmp 1), 1, [], true⟩,
  ⟨(some 10), none, .nilCheck (.tmp 8), 2, [], true⟩,
  ⟨(some 11), none, .fieldAddr 2 (.tmp 10), 3, [], true⟩,
  ⟨(some 12), none, .adArr 4 1 (.tmp 11) (.tmp 9), 4, [], true⟩,
  ⟨(some 13), none, .load 1 false (.tmp 12), 5, [], true⟩,
  ⟨(some 7), none, .mv (.tmp 13), 6, [], true⟩])
 (.seq (.region 6 [
  ⟨(some 14), none, .mv (.tmp 0), 0, [], true⟩,
  ⟨(some 15), none, .nilCheck (.tmp 14), 1, [], true⟩,
  ⟨(some 16), none, .fieldAddr 0 (.tmp 15), 2, [], true⟩,
  ⟨(some 17), none, .load 1 false (.tmp 16), 3, [], true⟩,
  ⟨(some 18), none, .mv (.tmp 1), 4, [], true⟩,
  ⟨(some 19), none, .call (.func 103) [(.tmp 17), (.tmp 18)], 5, [], true⟩])
 (.seq (.region 12 [
  ⟨(some 20), none, .mv (.tmp 0), 0, [], true⟩,
  ⟨(some 21), none, .nilCheck (.tmp 20), 1, [], true⟩,
  ⟨(some 22), none, .fieldAddr 7 (.tmp 21), 2, [], true⟩,
  ⟨(some 23), none, .load 1 false (.tmp 22), 3, [], true⟩,
  ⟨(some 24), none, .mv (.tmp 7), 4, [], false⟩,
  ⟨(some 25), none, .nilCheck (.tmp 24), 5, [], false⟩,
  ⟨(some 26), none, .fieldAddr 2 (.tmp 25), 6, [], false⟩,
  ⟨(some 27), none, .load 1 false (.tmp 26), 7, [], false⟩,
  ⟨(some 28), none, .mv (.tmp 2), 8, [], false⟩,
  ⟨(some 29), none, .adSl 3 (.tmp 23) (.tmp 27), 9, [], true⟩,
  ⟨(some 30), none, .fieldAddr 2 (.tmp 29), 10, [], true⟩,
  ⟨none, none, .store 1 (.tmp 30) (.tmp 28), 11, [], true⟩])
 (.seq (.region 6 [
  ⟨(some 31), none, .mv (.tmp 0), 0, [], true⟩,
  ⟨(some 32), none, .mv (.tmp 1), 1, [], true⟩,
  ⟨(some 33), none, .nilCheck (.tmp 31), 2, [], true⟩,
  ⟨(some 34), none, .fieldAddr 2 (.tmp 33), 3, [], true⟩,
  ⟨(some 35), none, .adArr 4 1 (.tmp 34) (.tmp 32), 4, [], true⟩,
  ⟨none, none, .store 1 (.tmp 35) (.const (.pointer none)), 5, [], true⟩])
 (.seq (.region 4 [
  ⟨(some 36), none, .mv (.tmp 0), 0, [], true⟩,
  ⟨(some 37), none, .mv (.tmp 7), 1, [], true⟩,
  ⟨(some 38), none, .build [(.int .i64 0), (.int .u64 0)] [], 2, [], true⟩,
  ⟨(some 39), none, .call (.func 88) [(.tmp 36), (.const (.int .u8 9)), (.tmp 37), (.tmp 38)], 3, [], true⟩])
 (.seq (.region 3 [
  ⟨(some 40), none, .mv (.tmp 2), 0, [], true⟩,
  ⟨(some 41), none, .build [(.bool false), (.int .u64 0), (.bool false), (.int .i64 0), (.bool false), (.int .u8 0), (.int .i64 0)] [(0, 1, (.const (.bool true))), (4, 1, (.const (.bool true))), (5, 1, (.tmp 40))], 1, [], true⟩,
  ⟨none, none, .store 7 (.tmp 6) (.tmp 41), 2, [], true⟩])
 .ret)))))))⟩

def m43 : MFn := ⟨11, [], (.seq (.region 3 [
  ⟨(some 3), none, .mv (.tmp 0), 0, [], true⟩,
  ⟨(some 4), none, .len false (.tmp 3), 1, [], true⟩,
  ⟨(some 2), none, .mv (.tmp 4), 2, [], true⟩])
 (.region 6 [
  ⟨(some 5), none, .mv (.tmp 0), 0, [], true⟩,
  ⟨(some 6), none, .mv (.tmp 2), 1, [], true⟩,
  ⟨(some 7), none, .mv (.tmp 2), 2, [], true⟩,
  ⟨(some 8), none, .conv .u64 (.tmp 7), 3, [], true⟩,
  ⟨(some 9), none, .call (.func 105) [(.tmp 8)], 4, [], true⟩,
  ⟨(some 10), none, .call (.func 104) [(.tmp 5), (.const (.int .i64 0)), (.tmp 6), (.tmp 9)], 5, [], true⟩]))⟩

def m44 : MFn := ⟨16, [(4, none)], (.seq (.region 1 [
  ⟨(some 4), none, .mv (.const (.slice none 0 0)), 0, [], true⟩])
 (.seq (.region 1 [
  ⟨(some 5), none, .alloc [(.slice none 0 0)] 33, 0, [], true⟩])
 (.seq (.seq (.region 3 [
  ⟨(some 7), none, .mv (.tmp 0), 0, [], true⟩,
  ⟨(some 8), none, .mv (.tmp 1), 1, [], true⟩,
  ⟨(some 9), none, .call (.func 106) [(.tmp 7), (.tmp 8)], 2, [], true⟩])
 (.block 0 (.rangeF (.tmp 9) [10] (.region 1 [
  ⟨(some 6), none, .mv (.tmp 10), 0, [], true⟩]) (.block 1 (.region 5 [
  ⟨(some 11), none, .load 1 false (.tmp 5), 0, [], true⟩,
  ⟨(some 12), none, .mv (.tmp 6), 1, [], true⟩,
  ⟨(some 13), none, .buildSl 3 1 1 [(.int .i64 0)] [(0, 1, (.tmp 12))], 2, [], true⟩,
  ⟨(some 14), none, .append 3 1 8 (.tmp 11) (.tmp 13), 3, [], true⟩,
  ⟨none, none, .store 1 (.tmp 5) (.tmp 14), 4, [], true⟩])))))
 (.seq (.region 2 [
  ⟨(some 15), none, .load 1 false (.tmp 5), 0, [], true⟩,
  ⟨(some 4), none, .mv (.tmp 15), 1, [], true⟩])
 .ret))))⟩

def m45 : MFn := ⟨9, [(2, none)], (.seq (.region 1 [
  ⟨(some 2), none, .mv (.const (.bool false)), 0, [], true⟩])
 (.seq (.region 7 [
  ⟨(some 3), none, .mv (.tmp 0), 0, [], true⟩,
  ⟨(some 4), none, .nilCheck (.tmp 3), 1, [], true⟩,
  ⟨(some 5), none, .fieldAddr 5 (.tmp 4), 2, [], true⟩,
  ⟨(some 6), none, .fieldAddr 0 (.tmp 5), 3, [], true⟩,
  ⟨(some 7), none, .load 1 false (.tmp 6), 4, [], true⟩,
  ⟨(some 8), none, .bin .eql (.tmp 7) (.const (.int .u8 0)), 5, [], true⟩,
  ⟨(some 2), none, .mv (.tmp 8), 6, [], true⟩])
 .ret))⟩

def m46 : MFn := ⟨55, [(6, none)], (.seq (.region 2 [
  ⟨(some 5), none, .box 44 (.tmp 2), 0, [], true⟩,
  ⟨(some 6), none, .mv (.const (.int .i64 0)), 1, [], true⟩])
 (.seq (.region 6 [
  ⟨(some 8), none, .mv (.tmp 1), 0, [], true⟩,
  ⟨(some 9), none, .nilCheck (.tmp 8), 1, [], true⟩,
  ⟨(some 10), none, .fieldAddr 1 (.tmp 9), 2, [], true⟩,
  ⟨(some 11), none, .load 1 false (.tmp 10), 3, [], true⟩,
  ⟨(some 12), none, .call (.func 107) [(.tmp 11)], 4, [], true⟩,
  ⟨(some 7), none, .mv (.tmp 12), 5, [], true⟩])
 (.seq (.seq (.region 2 [
  ⟨(some 13), none, .fieldAddr 0 (.tmp 5), 0, [], true⟩,
  ⟨(some 14), none, .load 1 false (.tmp 13), 1, [], true⟩])
 (.block 0 (.seq (.seq (.region 2 [
  ⟨(some 16), none, .bin .eql (.tmp 14) (.const (.int .u8 1)), 0, [], true⟩,
  ⟨(some 15), none, .mv (.tmp 16), 1, [], true⟩])
 (.cond (.tmp 15) .skip (.region 2 [
  ⟨(some 17), none, .bin .eql (.tmp 14) (.const (.int .u8 2)), 0, [], true⟩,
  ⟨(some 15), none, .mv (.tmp 17), 1, [], true⟩])))
 (.cond (.tmp 15) (.seq (.seq (.region 13 [
  ⟨(some 18), none, .fieldAddr 1 (.tmp 5), 0, [], true⟩,
  ⟨(some 19), none, .load 1 false (.tmp 18), 1, [], true⟩,
  ⟨(some 20), none, .bin .lss (.tmp 19) (.const (.int .i64 0)), 2, [], true⟩,
  ⟨(some 21), none, .mv (.tmp 20), 3, [], true⟩,
  ⟨(some 22), (some (21, false)), .fieldAddr 1 (.tmp 5), 4, [], true⟩,
  ⟨(some 23), (some (21, false)), .load 1 false (.tmp 22), 5, [], true⟩,
  ⟨(some 24), (some (21, false)), .mv (.tmp 0), 6, [], false⟩,
  ⟨(some 25), (some (21, false)), .nilCheck (.tmp 24), 7, [], false⟩,
  ⟨(some 26), (some (21, false)), .fieldAddr 1 (.tmp 25), 8, [], false⟩,
  ⟨(some 27), (some (21, false)), .load 1 false (.tmp 26), 9, [], false⟩,
  ⟨(some 28), (some (21, false)), .len false (.tmp 27), 10, [], false⟩,
  ⟨(some 29), (some (21, false)), .bin .geq (.tmp 23) (.tmp 28), 11, [], true⟩,
  ⟨(some 30), none, .pick (.tmp 21) (.const (.bool true)) (.tmp 29), 12, [], true⟩])
 (.cond (.tmp 30) (.seq (.region 1 [
  ⟨(some 6), none, .mv (.const (.int .i64 2)), 0, [], true⟩])
 .ret) .skip))
 (.seq (.region 9 [
  ⟨(some 31), none, .fieldAddr 0 (.tmp 5), 0, [], true⟩,
  ⟨(some 32), none, .load 1 false (.tmp 31), 1, [], true⟩,
  ⟨(some 33), none, .bin .eql (.tmp 32) (.const (.int .u8 2)), 2, [], true⟩,
  ⟨(some 34), none, .mv (.tmp 33), 3, [], true⟩,
  ⟨(some 35), (some (34, true)), .fieldAddr 2 (.tmp 5), 4, [], true⟩,
  ⟨(some 36), (some (34, true)), .load 1 false (.tmp 35), 5, [], true⟩,
  ⟨(some 37), (some (34, true)), .call (.func 101) [(.tmp 36)], 6, [], true⟩,
  ⟨(some 38), (some (34, true)), .un .not (.tmp 37), 7, [], true⟩,
  ⟨(some 39), none, .pick (.tmp 34) (.tmp 38) (.const (.bool false)), 8, [], true⟩])
 (.cond (.tmp 39) (.seq (.region 1 [
  ⟨(some 6), none, .mv (.const (.int .i64 3)), 0, [], true⟩])
 .ret) .skip))) (.seq (.region 2 [
  ⟨(some 41), none, .bin .eql (.tmp 14) (.const (.int .u8 3)), 0, [], true⟩,
  ⟨(some 40), none, .mv (.tmp 41), 1, [], true⟩])
 (.cond (.tmp 40) (.seq (.region 2 [
  ⟨(some 42), none, .mv (.tmp 7), 0, [], true⟩,
  ⟨(some 43), none, .bin .geq (.tmp 42) (.const (.int .i64 4)), 1, [], true⟩])
 (.cond (.tmp 43) (.seq (.region 1 [
  ⟨(some 6), none, .mv (.const (.int .i64 4)), 0, [], true⟩])
 .ret) .skip)) (.seq (.seq (.region 2 [
  ⟨(some 45), none, .bin .eql (.tmp 14) (.const (.int .u8 4)), 0, [], true⟩,
  ⟨(some 44), none, .mv (.tmp 45), 1, [], true⟩])
 (.cond (.tmp 44) .skip (.region 2 [
  ⟨(some 46), none, .bin .eql (.tmp 14) (.const (.int .u8 5)), 0, [], true⟩,
  ⟨(some 44), none, .mv (.tmp 46), 1, [], true⟩])))
 (.cond (.tmp 44) (.seq (.region 2 [
  ⟨(some 47), none, .mv (.tmp 7), 0, [], true⟩,
  ⟨(some 48), none, .bin .eql (.tmp 47) (.const (.int .i64 0)), 1, [], true⟩])
 (.cond (.tmp 48) (.seq (.region 1 [
  ⟨(some 6), none, .mv (.const (.int .i64 8)), 0, [], true⟩])
 .ret) .skip)) (.seq (.region 2 [
  ⟨(some 50), none, .bin .eql (.tmp 14) (.const (.int .u8 6)), 0, [], true⟩,
  ⟨(some 49), none, .mv (.tmp 50), 1, [], true⟩])
 (.cond (.tmp 49) (.seq (.region 2 [
  ⟨(some 51), none, .mv (.tmp 7), 0, [], true⟩,
  ⟨(some 52), none, .bin .gtr (.tmp 51) (.const (.int .i64 0)), 1, [], true⟩])
 (.cond (.tmp 52) (.seq (.region 1 [
  ⟨(some 6), none, .mv (.const (.int .i64 8)), 0, [], true⟩])
 .ret) .skip)) (.seq (.region 2 [
  ⟨(some 54), none, .bin .eql (.tmp 14) (.const (.int .u8 7)), 0, [], true⟩,
  ⟨(some 53), none, .mv (.tmp 54), 1, [], true⟩])
 (.cond (.tmp 53) .skip (.seq (.region 1 [
  ⟨(some 6), none, .mv (.const (.int .i64 2)), 0, [], true⟩])
 .ret)))))))))))))
 (.seq (.region 1 [
  ⟨(some 6), none, .mv (.const (.int .i64 0)), 0, [], true⟩])
 .ret))))⟩

def m47 : MFn := ⟨52, [(6, none)], (.seq (.region 1 [
  ⟨(some 6), none, .mv (.const (.int .i64 0)), 0, [], true⟩])
 (.seq (.seq (.region 8 [
  ⟨(some 9), none, .mv (.tmp 0), 0, [], true⟩,
  ⟨(some 10), none, .call (.func 108) [(.tmp 9)], 1, [], true⟩,
  ⟨(some 11), none, .un .not (.tmp 10), 2, [], true⟩,
  ⟨(some 12), none, .mv (.tmp 11), 3, [], true⟩,
  ⟨(some 13), (some (12, false)), .mv (.tmp 1), 4, [], true⟩,
  ⟨(some 14), (some (12, false)), .len false (.tmp 13), 5, [], true⟩,
  ⟨(some 15), (some (12, false)), .bin .gtr (.tmp 14) (.const (.int .i64 12)), 6, [], true⟩,
  ⟨(some 16), none, .pick (.tmp 12) (.const (.bool true)) (.tmp 15), 7, [], true⟩])
 (.cond (.tmp 16) (.seq (.region 1 [
  ⟨(some 6), none, .mv (.const (.int .i64 3)), 0, [], true⟩])
 .ret) .skip))
 (.seq (.seq (.region 1 [
  ⟨(some 7), none, .mv (.const (.int .i64 0)), 0, [], true⟩])
 (.block 0 (.loop (.seq (.seq (.region 4 [
  ⟨(some 17), none, .mv (.tmp 7), 0, [], true⟩,
  ⟨(some 18), none, .mv (.tmp 1), 1, [], true⟩,
  ⟨(some 19), none, .len false (.tmp 18), 2, [], true⟩,
  ⟨(some 20), none, .bin .lss (.tmp 17) (.tmp 19), 3, [], true⟩])
 (.cond (.tmp 20) .skip (.exit 0)))
 (.seq (.block 1 (.seq (.region 6 [
  ⟨(some 23), none, .mv (.tmp 1), 0, [], true⟩,
  ⟨(some 24), none, .mv (.tmp 7), 1, [], true⟩,
  ⟨(some 25), none, .adSl 1 (.tmp 23) (.tmp 24), 2, [], true⟩,
  ⟨(some 26), none, .load 1 false (.tmp 25), 3, [], true⟩,
  ⟨(some 27), none, .call (.func 89) [(.tmp 26)], 4, [], true⟩,
  ⟨(some 28), none, .un .not (.tmp 27), 5, [], true⟩])
 (.cond (.tmp 28) (.seq (.region 1 [
  ⟨(some 6), none, .mv (.const (.int .i64 3)), 0, [], true⟩])
 .ret) .skip)))
 (.region 3 [
  ⟨(some 21), none, .mv (.tmp 7), 0, [], true⟩,
  ⟨(some 22), none, .bin .add (.tmp 21) (.const (.int .i64 1)), 1, [], true⟩,
  ⟨(some 7), none, .mv (.tmp 22), 2, [], true⟩]))))))
 (.seq (.seq (.region 1 [
  ⟨(some 8), none, .mv (.const (.int .i64 0)), 0, [], true⟩])
 (.block 2 (.loop (.seq (.seq (.region 4 [
  ⟨(some 29), none, .mv (.tmp 8), 0, [], true⟩,
  ⟨(some 30), none, .mv (.tmp 2), 1, [], true⟩,
  ⟨(some 31), none, .len false (.tmp 30), 2, [], true⟩,
  ⟨(some 32), none, .bin .lss (.tmp 29) (.tmp 31), 3, [], true⟩])
 (.cond (.tmp 32) .skip (.exit 2)))
 (.seq (.block 3 (.seq (.region 17 [
  ⟨(some 35), none, .mv (.tmp 0), 0, [], true⟩,
  ⟨(some 36), none, .mv (.tmp 2), 1, [], false⟩,
  ⟨(some 37), none, .mv (.tmp 8), 2, [], false⟩,
  ⟨(some 38), none, .adSl 1 (.tmp 36) (.tmp 37), 3, [], false⟩,
  ⟨(some 39), none, .load 1 false (.tmp 38), 4, [], false⟩,
  ⟨(some 40), none, .call (.func 109) [(.tmp 35), (.tmp 39)], 5, [], true⟩,
  ⟨(some 41), none, .bin .neq (.tmp 40) (.const (.int .u8 2)), 6, [], true⟩,
  ⟨(some 42), none, .mv (.tmp 41), 7, [], true⟩,
  ⟨(some 43), (some (42, false)), .mv (.tmp 2), 8, [], true⟩,
  ⟨(some 44), (some (42, false)), .mv (.tmp 8), 9, [], false⟩,
  ⟨(some 45), (some (42, false)), .slSl 1 (.tmp 43) none (some (.tmp 44)) none, 10, [], true⟩,
  ⟨(some 46), (some (42, false)), .mv (.tmp 2), 11, [], false⟩,
  ⟨(some 47), (some (42, false)), .mv (.tmp 8), 12, [], false⟩,
  ⟨(some 48), (some (42, false)), .adSl 1 (.tmp 46) (.tmp 47), 13, [], false⟩,
  ⟨(some 49), (some (42, false)), .load 1 false (.tmp 48), 14, [], false⟩,
  ⟨(some 50), (some (42, false)), .call (.func 50) [(.tmp 45), (.tmp 49)], 15, [], true⟩,
  ⟨(some 51), none, .pick (.tmp 42) (.const (.bool true)) (.tmp 50), 16, [], true⟩])
 (.cond (.tmp 51) (.seq (.region 1 [
  ⟨(some 6), none, .mv (.const (.int .i64 2)), 0, [], true⟩])
 .ret) .skip)))
 (.region 3 [
  ⟨(some 33), none, .mv (.tmp 8), 0, [], true⟩,
  ⟨(some 34), none, .bin .add (.tmp 33) (.const (.int .i64 1)), 1, [], true⟩,
  ⟨(some 8), none, .mv (.tmp 34), 2, [], true⟩]))))))
 (.seq (.region 1 [
  ⟨(some 6), none, .mv (.const (.int .i64 0)), 0, [], true⟩])
 .ret)))))⟩

def m48 : MFn := ⟨37, [(2, none)], (.seq (.region 1 [
  ⟨(some 2), none, .mv (.const (.slice none 0 0)), 0, [], true⟩])
 (.seq (.region 1 [
  ⟨(some 3), none, .mv (.const (.slice none 0 0)), 0, [], true⟩])
 (.seq (.seq (.region 1 [
  ⟨(some 4), none, .mv (.const (.int .i64 0)), 0, [], true⟩])
 (.block 0 (.loop (.seq (.seq (.region 4 [
  ⟨(some 5), none, .mv (.tmp 4), 0, [], true⟩,
  ⟨(some 6), none, .mv (.tmp 0), 1, [], true⟩,
  ⟨(some 7), none, .len false (.tmp 6), 2, [], true⟩,
  ⟨(some 8), none, .bin .lss (.tmp 5) (.tmp 7), 3, [], true⟩])
 (.cond (.tmp 8) .skip (.exit 0)))
 (.seq (.block 1 (.seq (.region 17 [
  ⟨(some 11), none, .mv (.tmp 0), 0, [], true⟩,
  ⟨(some 12), none, .mv (.tmp 4), 1, [], true⟩,
  ⟨(some 13), none, .adSl 4 (.tmp 11) (.tmp 12), 2, [], true⟩,
  ⟨(some 14), none, .fieldAddr 0 (.tmp 13), 3, [], true⟩,
  ⟨(some 15), none, .load 1 false (.tmp 14), 4, [], true⟩,
  ⟨(some 16), none, .bin .eql (.tmp 15) (.const (.int .u8 1)), 5, [], true⟩,
  ⟨(some 17), none, .mv (.tmp 16), 6, [], true⟩,
  ⟨(some 18), (some (17, true)), .mv (.tmp 0), 7, [], true⟩,
  ⟨(some 19), (some (17, true)), .mv (.tmp 4), 8, [], true⟩,
  ⟨(some 20), (some (17, true)), .mv (.tmp 0), 9, [], true⟩,
  ⟨(some 21), (some (17, true)), .mv (.tmp 4), 10, [], true⟩,
  ⟨(some 22), (some (17, true)), .adSl 4 (.tmp 20) (.tmp 21), 11, [], true⟩,
  ⟨(some 23), (some (17, true)), .fieldAddr 1 (.tmp 22), 12, [], true⟩,
  ⟨(some 24), (some (17, true)), .load 1 false (.tmp 23), 13, [], true⟩,
  ⟨(some 25), (some (17, true)), .call (.func 110) [(.tmp 18), (.tmp 19), (.tmp 24), (.const (.int .u8 1))], 14, [], true⟩,
  ⟨(some 26), (some (17, true)), .un .not (.tmp 25), 15, [], true⟩,
  ⟨(some 27), none, .pick (.tmp 17) (.tmp 26) (.const (.bool false)), 16, [], true⟩])
 (.cond (.tmp 27) (.region 9 [
  ⟨(some 28), none, .mv (.tmp 3), 0, [], true⟩,
  ⟨(some 29), none, .mv (.tmp 0), 1, [], true⟩,
  ⟨(some 30), none, .mv (.tmp 4), 2, [], true⟩,
  ⟨(some 31), none, .adSl 4 (.tmp 29) (.tmp 30), 3, [], true⟩,
  ⟨(some 32), none, .fieldAddr 1 (.tmp 31), 4, [], true⟩,
  ⟨(some 33), none, .load 1 false (.tmp 32), 5, [], true⟩,
  ⟨(some 34), none, .buildSl 3 1 1 [(.int .i64 0)] [(0, 1, (.tmp 33))], 6, [], true⟩,
  ⟨(some 35), none, .append 3 1 8 (.tmp 28) (.tmp 34), 7, [], true⟩,
  ⟨(some 3), none, .mv (.tmp 35), 8, [], true⟩]) .skip)))
 (.region 3 [
  ⟨(some 9), none, .mv (.tmp 4), 0, [], true⟩,
  ⟨(some 10), none, .bin .add (.tmp 9) (.const (.int .i64 1)), 1, [], true⟩,
  ⟨(some 4), none, .mv (.tmp 10), 2, [], true⟩]))))))
 (.seq (.region 2 [
  ⟨(some 36), none, .mv (.tmp 3), 0, [], true⟩,
  ⟨(some 2), none, .mv (.tmp 36), 1, [], true⟩])
 .ret))))⟩

def m49 : MFn := ⟨18, [(2, none)], (.seq (.region 1 [
  ⟨(some 2), none, .mv (.const (.bool false)), 0, [], true⟩])
 (.seq (.seq (.region 1 [
  ⟨(some 3), none, .mv (.const (.int .i64 0)), 0, [], true⟩])
 (.block 0 (.loop (.seq (.seq (.region 4 [
  ⟨(some 4), none, .mv (.tmp 3), 0, [], true⟩,
  ⟨(some 5), none, .mv (.tmp 0), 1, [], true⟩,
  ⟨(some 6), none, .len false (.tmp 5), 2, [], true⟩,
  ⟨(some 7), none, .bin .lss (.tmp 4) (.tmp 6), 3, [], true⟩])
 (.cond (.tmp 7) .skip (.exit 0)))
 (.seq (.block 1 (.seq (.region 8 [
  ⟨(some 10), none, .mv (.tmp 0), 0, [], true⟩,
  ⟨(some 11), none, .mv (.tmp 3), 1, [], false⟩,
  ⟨(some 12), none, .slSl 1 (.tmp 10) none (some (.tmp 11)) none, 2, [], true⟩,
  ⟨(some 13), none, .mv (.tmp 0), 3, [], false⟩,
  ⟨(some 14), none, .mv (.tmp 3), 4, [], false⟩,
  ⟨(some 15), none, .adSl 1 (.tmp 13) (.tmp 14), 5, [], false⟩,
  ⟨(some 16), none, .load 1 false (.tmp 15), 6, [], false⟩,
  ⟨(some 17), none, .call (.func 50) [(.tmp 12), (.tmp 16)], 7, [], true⟩])
 (.cond (.tmp 17) (.seq (.region 1 [
  ⟨(some 2), none, .mv (.const (.bool false)), 0, [], true⟩])
 .ret) .skip)))
 (.region 3 [
  ⟨(some 8), none, .mv (.tmp 3), 0, [], true⟩,
  ⟨(some 9), none, .bin .add (.tmp 8) (.const (.int .i64 1)), 1, [], true⟩,
  ⟨(some 3), none, .mv (.tmp 9), 2, [], true⟩]))))))
 (.seq (.region 1 [
  ⟨(some 2), none, .mv (.const (.bool true)), 0, [], true⟩])
 .ret)))⟩

def m50 : MFn := ⟨18, [(4, none)], (.seq (.region 1 [
  ⟨(some 4), none, .mv (.const (.bool false)), 0, [], true⟩])
 (.seq (.seq (.region 1 [
  ⟨(some 5), none, .mv (.const (.int .i64 0)), 0, [], true⟩])
 (.block 0 (.loop (.seq (.seq (.region 4 [
  ⟨(some 6), none, .mv (.tmp 5), 0, [], true⟩,
  ⟨(some 7), none, .mv (.tmp 0), 1, [], true⟩,
  ⟨(some 8), none, .len false (.tmp 7), 2, [], true⟩,
  ⟨(some 9), none, .bin .lss (.tmp 6) (.tmp 8), 3, [], true⟩])
 (.cond (.tmp 9) .skip (.exit 0)))
 (.seq (.block 1 (.seq (.region 6 [
  ⟨(some 12), none, .mv (.tmp 0), 0, [], true⟩,
  ⟨(some 13), none, .mv (.tmp 5), 1, [], true⟩,
  ⟨(some 14), none, .adSl 1 (.tmp 12) (.tmp 13), 2, [], true⟩,
  ⟨(some 15), none, .load 1 false (.tmp 14), 3, [], true⟩,
  ⟨(some 16), none, .mv (.tmp 1), 4, [], true⟩,
  ⟨(some 17), none, .bin .eql (.tmp 15) (.tmp 16), 5, [], true⟩])
 (.cond (.tmp 17) (.seq (.region 1 [
  ⟨(some 4), none, .mv (.const (.bool true)), 0, [], true⟩])
 .ret) .skip)))
 (.region 3 [
  ⟨(some 10), none, .mv (.tmp 5), 0, [], true⟩,
  ⟨(some 11), none, .bin .add (.tmp 10) (.const (.int .i64 1)), 1, [], true⟩,
  ⟨(some 5), none, .mv (.tmp 11), 2, [], true⟩]))))))
 (.seq (.region 1 [
  ⟨(some 4), none, .mv (.const (.bool false)), 0, [], true⟩])
 .ret)))⟩

def m51 : MFn := ⟨69, [(8, none), (9, none), (10, none)], (.seq (.region 3 [
  ⟨(some 8), none, .mv (.const (.int .i64 0)), 0, [], true⟩,
  ⟨(some 9), none, .mv (.const (.int .i64 0)), 1, [], true⟩,
  ⟨(some 10), none, .mv (.const (.slice none 0 0)), 2, [], true⟩])
 (.seq (.region 4 [
  ⟨(some 15), none, .buildSl 42 1 0 [] [], 0, [], true⟩,
  ⟨(some 16), none, .mv (.tmp 1), 1, [], true⟩,
  ⟨(some 17), none, .append 42 1 8 (.tmp 15) (.tmp 16), 2, [], true⟩,
  ⟨(some 11), none, .mv (.tmp 17), 3, [], true⟩])
 (.seq (.seq (.region 1 [
  ⟨(some 12), none, .mv (.const (.int .i64 0)), 0, [], true⟩])
 (.block 0 (.loop (.seq (.seq (.region 4 [
  ⟨(some 18), none, .mv (.tmp 12), 0, [], true⟩,
  ⟨(some 19), none, .mv (.tmp 2), 1, [], true⟩,
  ⟨(some 20), none, .len false (.tmp 19), 2, [], true⟩,
  ⟨(some 21), none, .bin .lss (.tmp 18) (.tmp 20), 3, [], true⟩])
 (.cond (.tmp 21) .skip (.exit 0)))
 (.seq (.block 1 (.seq (.seq (.region 3 [
  ⟨(some 24), none, .mv (.tmp 12), 0, [], true⟩,
  ⟨(some 25), none, .bin .add (.tmp 24) (.const (.int .i64 1)), 1, [], true⟩,
  ⟨(some 13), none, .mv (.tmp 25), 2, [], true⟩])
 (.block 2 (.loop (.seq (.seq (.region 4 [
  ⟨(some 26), none, .mv (.tmp 13), 0, [], true⟩,
  ⟨(some 27), none, .mv (.tmp 2), 1, [], true⟩,
  ⟨(some 28), none, .len false (.tmp 27), 2, [], true⟩,
  ⟨(some 29), none, .bin .lss (.tmp 26) (.tmp 28), 3, [], true⟩])
 (.cond (.tmp 29) .skip (.exit 2)))
 (.seq (.block 3 (.seq (.region 10 [
  ⟨(some 32), none, .mv (.tmp 0), 0, [], true⟩,
  ⟨(some 33), none, .mv (.tmp 2), 1, [], false⟩,
  ⟨(some 34), none, .mv (.tmp 13), 2, [], false⟩,
  ⟨(some 35), none, .adSl 1 (.tmp 33) (.tmp 34), 3, [], false⟩,
  ⟨(some 36), none, .load 1 false (.tmp 35), 4, [], false⟩,
  ⟨(some 37), none, .mv (.tmp 2), 5, [], false⟩,
  ⟨(some 38), none, .mv (.tmp 12), 6, [], false⟩,
  ⟨(some 39), none, .adSl 1 (.tmp 37) (.tmp 38), 7, [], false⟩,
  ⟨(some 40), none, .load 1 false (.tmp 39), 8, [], false⟩,
  ⟨(some 41), none, .call (.func 111) [(.tmp 32), (.tmp 36), (.tmp 40)], 9, [], true⟩])
 (.cond (.tmp 41) (.seq (.region 4 [
  ⟨(some 42), none, .mv (.tmp 12), 0, [], true⟩,
  ⟨(some 8), none, .mv (.tmp 42), 1, [], true⟩,
  ⟨(some 9), none, .mv (.const (.int .i64 8)), 2, [], true⟩,
  ⟨(some 10), none, .mv (.const (.slice none 0 0)), 3, [], true⟩])
 .ret) .skip)))
 (.region 3 [
  ⟨(some 30), none, .mv (.tmp 13), 0, [], true⟩,
  ⟨(some 31), none, .bin .add (.tmp 30) (.const (.int .i64 1)), 1, [], true⟩,
  ⟨(some 13), none, .mv (.tmp 31), 2, [], true⟩]))))))
 (.seq (.region 16 [
  ⟨(some 43), none, .mv (.tmp 0), 0, [], true⟩,
  ⟨(some 44), none, .mv (.tmp 2), 1, [], true⟩,
  ⟨(some 45), none, .mv (.tmp 12), 2, [], true⟩,
  ⟨(some 46), none, .adSl 1 (.tmp 44) (.tmp 45), 3, [], true⟩,
  ⟨(some 47), none, .load 1 false (.tmp 46), 4, [], true⟩,
  ⟨(some 48), none, .call (.func 109) [(.tmp 43), (.tmp 47)], 5, [], true⟩,
  ⟨(some 49), none, .bin .eql (.tmp 48) (.const (.int .u8 3)), 6, [], true⟩,
  ⟨(some 50), none, .mv (.tmp 49), 7, [], true⟩,
  ⟨(some 51), (some (50, false)), .mv (.tmp 3), 8, [], true⟩,
  ⟨(some 52), (some (50, false)), .mv (.tmp 2), 9, [], true⟩,
  ⟨(some 53), (some (50, false)), .mv (.tmp 12), 10, [], true⟩,
  ⟨(some 54), (some (50, false)), .adSl 1 (.tmp 52) (.tmp 53), 11, [], true⟩,
  ⟨(some 55), (some (50, false)), .load 1 false (.tmp 54), 12, [], true⟩,
  ⟨(some 56), (some (50, false)), .call (.func 50) [(.tmp 51), (.tmp 55)], 13, [], true⟩,
  ⟨(some 57), none, .pick (.tmp 50) (.const (.bool true)) (.tmp 56), 14, [], true⟩,
  ⟨(some 14), none, .mv (.tmp 57), 15, [], true⟩])
 (.seq (.region 9 [
  ⟨(some 58), none, .mv (.tmp 0), 0, [], true⟩,
  ⟨(some 59), none, .mv (.tmp 11), 1, [], true⟩,
  ⟨(some 60), none, .mv (.tmp 2), 2, [], true⟩,
  ⟨(some 61), none, .mv (.tmp 12), 3, [], true⟩,
  ⟨(some 62), none, .adSl 1 (.tmp 60) (.tmp 61), 4, [], true⟩,
  ⟨(some 63), none, .load 1 false (.tmp 62), 5, [], true⟩,
  ⟨(some 64), none, .mv (.tmp 14), 6, [], true⟩,
  ⟨(some 65), none, .call (.func 112) [(.tmp 58), (.tmp 59), (.tmp 63), (.tmp 64)], 7, [], true⟩,
  ⟨(some 66), none, .un .not (.tmp 65), 8, [], true⟩])
 (.cond (.tmp 66) (.seq (.region 4 [
  ⟨(some 67), none, .mv (.tmp 12), 0, [], true⟩,
  ⟨(some 8), none, .mv (.tmp 67), 1, [], true⟩,
  ⟨(some 9), none, .mv (.const (.int .i64 9)), 2, [], true⟩,
  ⟨(some 10), none, .mv (.const (.slice none 0 0)), 3, [], true⟩])
 .ret) .skip)))))
 (.region 3 [
  ⟨(some 22), none, .mv (.tmp 12), 0, [], true⟩,
  ⟨(some 23), none, .bin .add (.tmp 22) (.const (.int .i64 1)), 1, [], true⟩,
  ⟨(some 12), none, .mv (.tmp 23), 2, [], true⟩]))))))
 (.seq (.region 4 [
  ⟨(some 68), none, .mv (.tmp 11), 0, [], true⟩,
  ⟨(some 8), none, .mv (.const (.int .i64 0)), 1, [], true⟩,
  ⟨(some 9), none, .mv (.const (.int .i64 0)), 2, [], true⟩,
  ⟨(some 10), none, .mv (.tmp 68), 3, [], true⟩])
 .ret))))⟩

def m52 : MFn := ⟨8, [(2, none)], (.seq (.region 1 [
  ⟨(some 2), none, .mv (.const (.slice none 0 0)), 0, [], true⟩])
 (.seq (.seq (.region 2 [
  ⟨(some 3), none, .mv (.tmp 0), 0, [], true⟩,
  ⟨(some 4), none, .eq false .slice (.tmp 3) (.const (.slice none 0 0)), 1, [], true⟩])
 (.cond (.tmp 4) (.seq (.region 1 [
  ⟨(some 2), none, .mv (.const (.slice none 0 0)), 0, [], true⟩])
 .ret) .skip))
 (.seq (.region 4 [
  ⟨(some 5), none, .buildSl 108 4 0 [] [], 0, [], true⟩,
  ⟨(some 6), none, .mv (.tmp 0), 1, [], true⟩,
  ⟨(some 7), none, .append 108 4 32 (.tmp 5) (.tmp 6), 2, [], true⟩,
  ⟨(some 2), none, .mv (.tmp 7), 3, [], true⟩])
 .ret)))⟩

def m53 : MFn := ⟨12, [(4, none)], (.seq (.region 1 [
  ⟨(some 4), none, .mv (.const (.slice none 0 0)), 0, [], true⟩])
 (.seq (.region 3 [
  ⟨(some 6), none, .mv (.tmp 0), 0, [], true⟩,
  ⟨(some 7), none, .call (.func 113) [(.tmp 6)], 1, [], true⟩,
  ⟨(some 5), none, .mv (.tmp 7), 2, [], true⟩])
 (.seq (.region 3 [
  ⟨(some 8), none, .mv (.tmp 5), 0, [], true⟩,
  ⟨(some 9), none, .mv (.tmp 1), 1, [], true⟩,
  ⟨(some 10), none, .call (.func 114) [(.tmp 8), (.tmp 9)], 2, [], true⟩])
 (.seq (.region 2 [
  ⟨(some 11), none, .mv (.tmp 5), 0, [], true⟩,
  ⟨(some 4), none, .mv (.tmp 11), 1, [], true⟩])
 .ret))))⟩

def m54 : MFn := ⟨4, [(2, none)], (.seq (.region 2 [
  ⟨(some 1), none, .box 91 (.tmp 0), 0, [], true⟩,
  ⟨(some 2), none, .mv (.const .nilFunc), 1, [], true⟩])
 (.seq (.region 2 [
  ⟨(some 3), none, .func (.func 115) [] [(.tmp 1)], 0, [], true⟩,
  ⟨(some 2), none, .mv (.tmp 3), 1, [], true⟩])
 .ret))⟩

def m55 : MFn := ⟨10, [(4, none)], (.seq (.region 3 [
  ⟨(some 2), none, .box 98 (.tmp 0), 0, [], true⟩,
  ⟨(some 3), none, .box 98 (.tmp 1), 1, [], true⟩,
  ⟨(some 4), none, .mv (.const (.int .i64 0)), 2, [], true⟩])
 (.seq (.region 6 [
  ⟨(some 5), none, .fieldAddr 1 (.tmp 2), 0, [], true⟩,
  ⟨(some 6), none, .load 1 false (.tmp 5), 1, [], true⟩,
  ⟨(some 7), none, .fieldAddr 1 (.tmp 3), 2, [], true⟩,
  ⟨(some 8), none, .load 1 false (.tmp 7), 3, [], true⟩,
  ⟨(some 9), none, .call (.func 56) [(.tmp 6), (.tmp 8)], 4, [], true⟩,
  ⟨(some 4), none, .mv (.tmp 9), 5, [], true⟩])
 .ret))⟩

def m56 : MFn := ⟨20, [(4, none)], (.seq (.region 1 [
  ⟨(some 4), none, .mv (.const (.int .i64 0)), 0, [], true⟩])
 (.seq (.region 3 [
  ⟨(some 7), none, .mv (.tmp 0), 0, [], true⟩,
  ⟨(some 8), none, .call (.func 116) [(.tmp 7)], 1, [], true⟩,
  ⟨(some 5), none, .mv (.tmp 8), 2, [], true⟩])
 (.seq (.region 3 [
  ⟨(some 9), none, .mv (.tmp 1), 0, [], true⟩,
  ⟨(some 10), none, .call (.func 116) [(.tmp 9)], 1, [], true⟩,
  ⟨(some 6), none, .mv (.tmp 10), 2, [], true⟩])
 (.seq (.seq (.region 1 [
  ⟨(some 11), none, .mv (.tmp 5), 0, [], true⟩])
 (.cond (.tmp 11) (.seq (.seq (.region 1 [
  ⟨(some 12), none, .mv (.tmp 6), 0, [], true⟩])
 (.cond (.tmp 12) (.seq (.region 1 [
  ⟨(some 4), none, .mv (.const (.int .i64 0)), 0, [], true⟩])
 .ret) .skip))
 (.seq (.region 1 [
  ⟨(some 4), none, .mv (.const (.int .i64 (-1))), 0, [], true⟩])
 .ret)) .skip))
 (.seq (.seq (.region 1 [
  ⟨(some 13), none, .mv (.tmp 6), 0, [], true⟩])
 (.cond (.tmp 13) (.seq (.region 1 [
  ⟨(some 4), none, .mv (.const (.int .i64 1)), 0, [], true⟩])
 .ret) .skip))
 (.seq (.seq (.region 3 [
  ⟨(some 14), none, .mv (.tmp 0), 0, [], true⟩,
  ⟨(some 15), none, .mv (.tmp 1), 1, [], true⟩,
  ⟨(some 16), none, .bin .lss (.tmp 14) (.tmp 15), 2, [], true⟩])
 (.cond (.tmp 16) (.seq (.region 1 [
  ⟨(some 4), none, .mv (.const (.int .i64 (-1))), 0, [], true⟩])
 .ret) .skip))
 (.seq (.seq (.region 3 [
  ⟨(some 17), none, .mv (.tmp 0), 0, [], true⟩,
  ⟨(some 18), none, .mv (.tmp 1), 1, [], true⟩,
  ⟨(some 19), none, .bin .gtr (.tmp 17) (.tmp 18), 2, [], true⟩])
 (.cond (.tmp 19) (.seq (.region 1 [
  ⟨(some 4), none, .mv (.const (.int .i64 1)), 0, [], true⟩])
 .ret) .skip))
 (.seq (.region 1 [
  ⟨(some 4), none, .mv (.const (.int .i64 0)), 0, [], true⟩])
 .ret))))))))⟩

def m57 : MFn := ⟨21, [(4, none)], (.seq (.region 1 [
  ⟨(some 4), none, .mv (.const (.pointer none)), 0, [], true⟩])
 (.seq (.region 3 [
  ⟨(some 6), none, .mv (.tmp 1), 0, [], true⟩,
  ⟨(some 7), none, .call (.func 32) [(.tmp 6)], 1, [], true⟩,
  ⟨(some 5), none, .mv (.tmp 7), 2, [], true⟩])
 (.seq (.seq (.region 7 [
  ⟨(some 8), none, .mv (.tmp 0), 0, [], true⟩,
  ⟨(some 9), none, .call (.func 31) [(.tmp 8)], 1, [], true⟩,
  ⟨(some 10), none, .un .not (.tmp 9), 2, [], true⟩,
  ⟨(some 11), none, .mv (.tmp 10), 3, [], true⟩,
  ⟨(some 12), (some (11, false)), .mv (.tmp 5), 4, [], true⟩,
  ⟨(some 13), (some (11, false)), .eq false .ptr (.tmp 12) (.const (.pointer none)), 5, [], true⟩,
  ⟨(some 14), none, .pick (.tmp 11) (.const (.bool true)) (.tmp 13), 6, [], true⟩])
 (.cond (.tmp 14) (.seq (.region 1 [
  ⟨(some 4), none, .mv (.const (.pointer none)), 0, [], true⟩])
 .ret) .skip))
 (.seq (.region 7 [
  ⟨(some 15), none, .buildSl 42 1 0 [] [], 0, [], true⟩,
  ⟨(some 16), none, .mv (.tmp 0), 1, [], true⟩,
  ⟨(some 17), none, .append 42 1 8 (.tmp 15) (.tmp 16), 2, [], true⟩,
  ⟨(some 18), none, .mv (.tmp 5), 3, [], true⟩,
  ⟨(some 19), none, .build [(.slice none 0 0), (.pointer none), (.pointer none), (.pointer none), (.pointer none), (.pointer none), (.slice none 0 0), (.slice none 0 0)] [(0, 1, (.tmp 17)), (1, 1, (.tmp 18))], 4, [], true⟩,
  ⟨(some 20), none, .box 124 (.tmp 19), 5, [], true⟩,
  ⟨(some 4), none, .mv (.tmp 20), 6, [], true⟩])
 .ret))))⟩

def m58 : MFn := ⟨16, [(2, none)], (.seq (.region 1 [
  ⟨(some 2), none, .mv (.const (.pointer none)), 0, [], true⟩])
 (.seq (.seq (.region 2 [
  ⟨(some 3), none, .mv (.tmp 0), 0, [], true⟩,
  ⟨(some 4), none, .eq false .ptr (.tmp 3) (.const (.pointer none)), 1, [], true⟩])
 (.cond (.tmp 4) (.seq (.region 1 [
  ⟨(some 2), none, .mv (.const (.pointer none)), 0, [], true⟩])
 .ret) .skip))
 (.seq (.region 12 [
  ⟨(some 5), none, .mv (.tmp 0), 0, [], true⟩,
  ⟨(some 6), none, .nilCheck (.tmp 5), 1, [], true⟩,
  ⟨(some 7), none, .fieldAddr 0 (.tmp 6), 2, [], true⟩,
  ⟨(some 8), none, .load 1 true (.tmp 7), 3, [], true⟩,
  ⟨(some 9), none, .mv (.tmp 0), 4, [], false⟩,
  ⟨(some 10), none, .nilCheck (.tmp 9), 5, [], false⟩,
  ⟨(some 11), none, .fieldAddr 1 (.tmp 10), 6, [], false⟩,
  ⟨(some 12), none, .load 1 false (.tmp 11), 7, [], false⟩,
  ⟨(some 13), none, .call (.func 117) [(.tmp 12)], 8, [(false, none, none, 3, .load 1 true (.tmp 7))], false⟩,
  ⟨(some 14), none, .build [(.int .u64 0), (.slice none 0 0)] [(0, 1, (.tmp 8)), (1, 1, (.tmp 13))], 9, [], true⟩,
  ⟨(some 15), none, .box 175 (.tmp 14), 10, [], true⟩,
  ⟨(some 2), none, .mv (.tmp 15), 11, [], true⟩])
 .ret)))⟩

def m59 : MFn := ⟨8, [(2, none)], (.seq (.region 1 [
  ⟨(some 2), none, .mv (.const (.slice none 0 0)), 0, [], true⟩])
 (.seq (.seq (.region 2 [
  ⟨(some 3), none, .mv (.tmp 0), 0, [], true⟩,
  ⟨(some 4), none, .eq false .slice (.tmp 3) (.const (.slice none 0 0)), 1, [], true⟩])
 (.cond (.tmp 4) (.seq (.region 1 [
  ⟨(some 2), none, .mv (.const (.slice none 0 0)), 0, [], true⟩])
 .ret) .skip))
 (.seq (.region 4 [
  ⟨(some 5), none, .buildSl 98 3 0 [] [], 0, [], true⟩,
  ⟨(some 6), none, .mv (.tmp 0), 1, [], true⟩,
  ⟨(some 7), none, .append 98 3 24 (.tmp 5) (.tmp 6), 2, [], true⟩,
  ⟨(some 2), none, .mv (.tmp 7), 3, [], true⟩])
 .ret)))⟩

def m60 : MFn := ⟨34, [(2, none)], (.seq (.region 1 [
  ⟨(some 2), none, .mv (.const (.pointer none)), 0, [], true⟩])
 (.seq (.seq (.region 2 [
  ⟨(some 6), none, .mv (.tmp 0), 0, [], true⟩,
  ⟨(some 7), none, .eq false .ptr (.tmp 6) (.const (.pointer none)), 1, [], true⟩])
 (.cond (.tmp 7) (.seq (.region 1 [
  ⟨(some 2), none, .mv (.const (.pointer none)), 0, [], true⟩])
 .ret) .skip))
 (.seq (.region 2 [
  ⟨(some 8), none, .call (.func 85) [], 0, [], true⟩,
  ⟨(some 3), none, .mv (.tmp 8), 1, [], true⟩])
 (.seq (.region 9 [
  ⟨(some 9), none, .mv (.tmp 3), 0, [], true⟩,
  ⟨(some 10), none, .mv (.tmp 0), 1, [], true⟩,
  ⟨(some 11), none, .nilCheck (.tmp 10), 2, [], true⟩,
  ⟨(some 12), none, .fieldAddr 0 (.tmp 11), 3, [], true⟩,
  ⟨(some 13), none, .load 1 false (.tmp 12), 4, [], true⟩,
  ⟨(some 14), none, .call (.func 118) [(.tmp 13)], 5, [], true⟩,
  ⟨(some 15), none, .nilCheck (.tmp 9), 6, [], true⟩,
  ⟨(some 16), none, .fieldAddr 0 (.tmp 15), 7, [], true⟩,
  ⟨none, none, .store 1 (.tmp 16) (.tmp 14), 8, [], true⟩])
 (.seq (.seq (.region 5 [
  ⟨(some 17), none, .mv (.tmp 0), 0, [], true⟩,
  ⟨(some 18), none, .nilCheck (.tmp 17), 1, [], true⟩,
  ⟨(some 19), none, .fieldAddr 1 (.tmp 18), 2, [], true⟩,
  ⟨(some 20), none, .load 1 false (.tmp 19), 3, [], true⟩,
  ⟨(some 21), none, .rangeMap (.tmp 20), 4, [], true⟩])
 (.block 0 (.loop (.seq (.region 2 [
  ⟨(some 22), none, .nextMap (.tmp 21), 0, [], true⟩,
  ⟨(some 23), none, .extract (.tmp 22) 0, 1, [], true⟩])
 (.seq (.cond (.tmp 23) .skip (.exit 0))
 (.block 1 (.seq (.region 6 [
  ⟨(some 24), none, .entry (.tmp 21), 0, [], true⟩,
  ⟨(some 25), none, .extract (.tmp 24) 0, 1, [], true⟩,
  ⟨(some 26), none, .extract (.tmp 24) 1, 2, [], true⟩,
  ⟨(some 5), none, .alloc [(.int .i64 0), (.int .u64 0), (.int .u64 0)] 182, 3, [], true⟩,
  ⟨(some 4), none, .mv (.tmp 25), 4, [], true⟩,
  ⟨none, none, .store 3 (.tmp 5) (.tmp 26), 5, [], true⟩])
 (.region 7 [
  ⟨(some 27), none, .mv (.tmp 3), 0, [], true⟩,
  ⟨(some 28), none, .nilCheck (.tmp 27), 1, [], true⟩,
  ⟨(some 29), none, .fieldAddr 1 (.tmp 28), 2, [], true⟩,
  ⟨(some 30), none, .load 1 false (.tmp 29), 3, [], true⟩,
  ⟨(some 31), none, .mv (.tmp 4), 4, [], false⟩,
  ⟨(some 32), none, .load 3 true (.tmp 5), 5, [], false⟩,
  ⟨none, none, .mapSet .int (.tmp 30) (.tmp 31) (.tmp 32), 6, [], true⟩]))))))))
 (.seq (.region 2 [
  ⟨(some 33), none, .mv (.tmp 3), 0, [], true⟩,
  ⟨(some 2), none, .mv (.tmp 33), 1, [], true⟩])
 .ret))))))⟩

def m61 : MFn := ⟨9, [(2, none)], (.seq (.region 1 [
  ⟨(some 2), none, .mv (.const (.pointer none)), 0, [], true⟩])
 (.seq (.seq (.region 2 [
  ⟨(some 4), none, .mv (.tmp 0), 0, [], true⟩,
  ⟨(some 5), none, .eq false .ptr (.tmp 4) (.const (.pointer none)), 1, [], true⟩])
 (.cond (.tmp 5) (.seq (.region 1 [
  ⟨(some 2), none, .mv (.const (.pointer none)), 0, [], true⟩])
 .ret) .skip))
 (.seq (.region 5 [
  ⟨(some 6), none, .mv (.tmp 0), 0, [], true⟩,
  ⟨(some 7), none, .nilCheck (.tmp 6), 1, [], true⟩,
  ⟨(some 8), none, .load 2 true (.tmp 7), 2, [], true⟩,
  ⟨(some 3), none, .alloc [(.pointer none), (.int .i64 0)] 185, 3, [], true⟩,
  ⟨none, none, .store 2 (.tmp 3) (.tmp 8), 4, [], true⟩])
 (.seq (.region 1 [
  ⟨(some 2), none, .mv (.tmp 3), 0, [], true⟩])
 .ret))))⟩

def m62 : MFn := ⟨11, [(2, none)], (.seq (.region 1 [
  ⟨(some 2), none, .mv (.const (.slice none 0 0)), 0, [], true⟩])
 (.seq (.seq (.region 2 [
  ⟨(some 3), none, .mv (.tmp 0), 0, [], true⟩,
  ⟨(some 4), none, .eq false .ptr (.tmp 3) (.const (.pointer none)), 1, [], true⟩])
 (.cond (.tmp 4) (.seq (.region 1 [
  ⟨(some 2), none, .mv (.const (.slice none 0 0)), 0, [], true⟩])
 .ret) .skip))
 (.seq (.region 7 [
  ⟨(some 5), none, .buildSl 42 1 0 [] [], 0, [], true⟩,
  ⟨(some 6), none, .mv (.tmp 0), 1, [], true⟩,
  ⟨(some 7), none, .nilCheck (.tmp 6), 2, [], true⟩,
  ⟨(some 8), none, .fieldAddr 0 (.tmp 7), 3, [], true⟩,
  ⟨(some 9), none, .load 1 false (.tmp 8), 4, [], true⟩,
  ⟨(some 10), none, .append 42 1 8 (.tmp 5) (.tmp 9), 5, [], true⟩,
  ⟨(some 2), none, .mv (.tmp 10), 6, [], true⟩])
 .ret)))⟩

def m63 : MFn := ⟨17, [(2, none)], (.seq (.region 1 [
  ⟨(some 2), none, .mv (.const (.pointer none)), 0, [], true⟩])
 (.seq (.seq (.region 2 [
  ⟨(some 3), none, .mv (.tmp 0), 0, [], true⟩,
  ⟨(some 4), none, .eq false .ptr (.tmp 3) (.const (.pointer none)), 1, [], true⟩])
 (.cond (.tmp 4) (.seq (.region 1 [
  ⟨(some 2), none, .mv (.const (.pointer none)), 0, [], true⟩])
 .ret) .skip))
 (.seq (.region 13 [
  ⟨(some 5), none, .buildSl 41 1 0 [] [], 0, [], true⟩,
  ⟨(some 6), none, .mv (.tmp 0), 1, [], false⟩,
  ⟨(some 7), none, .nilCheck (.tmp 6), 2, [], false⟩,
  ⟨(some 8), none, .fieldAddr 0 (.tmp 7), 3, [], false⟩,
  ⟨(some 9), none, .load 1 false (.tmp 8), 4, [], false⟩,
  ⟨(some 11), none, .mv (.tmp 0), 6, [], false⟩,
  ⟨(some 12), none, .nilCheck (.tmp 11), 7, [], false⟩,
  ⟨(some 13), none, .fieldAddr 1 (.tmp 12), 8, [], false⟩,
  ⟨(some 14), none, .load 1 false (.tmp 13), 9, [], false⟩,
  ⟨(some 10), none, .append 41 1 8 (.tmp 5) (.tmp 9), 5, [(false, none, none, 9, .load 1 false (.tmp 13))], false⟩,
  ⟨(some 15), none, .build [(.slice none 0 0), (.int .u64 0)] [(0, 1, (.tmp 10)), (1, 1, (.tmp 14))], 10, [], true⟩,
  ⟨(some 16), none, .box 142 (.tmp 15), 11, [], true⟩,
  ⟨(some 2), none, .mv (.tmp 16), 12, [], true⟩])
 .ret)))⟩

def m64 : MFn := ⟨11, [(2, none)], (.seq (.region 1 [
  ⟨(some 2), none, .mv (.const (.slice none 0 0)), 0, [], true⟩])
 (.seq (.seq (.region 2 [
  ⟨(some 3), none, .mv (.tmp 0), 0, [], true⟩,
  ⟨(some 4), none, .eq false .ptr (.tmp 3) (.const (.pointer none)), 1, [], true⟩])
 (.cond (.tmp 4) (.seq (.region 1 [
  ⟨(some 2), none, .mv (.const (.slice none 0 0)), 0, [], true⟩])
 .ret) .skip))
 (.seq (.region 7 [
  ⟨(some 5), none, .buildSl 108 4 0 [] [], 0, [], true⟩,
  ⟨(some 6), none, .mv (.tmp 0), 1, [], true⟩,
  ⟨(some 7), none, .nilCheck (.tmp 6), 2, [], true⟩,
  ⟨(some 8), none, .fieldAddr 6 (.tmp 7), 3, [], true⟩,
  ⟨(some 9), none, .load 1 false (.tmp 8), 4, [], true⟩,
  ⟨(some 10), none, .append 108 4 32 (.tmp 5) (.tmp 9), 5, [], true⟩,
  ⟨(some 2), none, .mv (.tmp 10), 6, [], true⟩])
 .ret)))⟩

def m65 : MFn := ⟨9, [(2, none)], (.seq (.region 1 [
  ⟨(some 2), none, .mv (.const (.pointer none)), 0, [], true⟩])
 (.seq (.seq (.region 2 [
  ⟨(some 3), none, .mv (.tmp 0), 0, [], true⟩,
  ⟨(some 4), none, .eq false .ptr (.tmp 3) (.const (.pointer none)), 1, [], true⟩])
 (.cond (.tmp 4) (.seq (.region 1 [
  ⟨(some 2), none, .mv (.const (.pointer none)), 0, [], true⟩])
 .ret) .skip))
 (.seq (.region 5 [
  ⟨(some 5), none, .mv (.tmp 0), 0, [], true⟩,
  ⟨(some 6), none, .call (.func 119) [(.tmp 5)], 1, [], true⟩,
  ⟨(some 7), none, .build [(.slice none 0 0)] [(0, 1, (.tmp 6))], 2, [], true⟩,
  ⟨(some 8), none, .box 187 (.tmp 7), 3, [], true⟩,
  ⟨(some 2), none, .mv (.tmp 8), 4, [], true⟩])
 .ret)))⟩

def m66 : MFn := ⟨13, [(2, none)], (.seq (.region 1 [
  ⟨(some 2), none, .mv (.const (.pointer none)), 0, [], true⟩])
 (.seq (.seq (.region 2 [
  ⟨(some 3), none, .mv (.tmp 0), 0, [], true⟩,
  ⟨(some 4), none, .eq false .ptr (.tmp 3) (.const (.pointer none)), 1, [], true⟩])
 (.cond (.tmp 4) (.seq (.region 1 [
  ⟨(some 2), none, .mv (.const (.pointer none)), 0, [], true⟩])
 .ret) .skip))
 (.seq (.region 9 [
  ⟨(some 5), none, .buildSl 232 24 0 [] [], 0, [], true⟩,
  ⟨(some 6), none, .mv (.tmp 0), 1, [], true⟩,
  ⟨(some 7), none, .nilCheck (.tmp 6), 2, [], true⟩,
  ⟨(some 8), none, .fieldAddr 0 (.tmp 7), 3, [], true⟩,
  ⟨(some 9), none, .load 1 false (.tmp 8), 4, [], true⟩,
  ⟨(some 10), none, .append 232 24 112 (.tmp 5) (.tmp 9), 5, [], true⟩,
  ⟨(some 11), none, .build [(.slice none 0 0)] [(0, 1, (.tmp 10))], 6, [], true⟩,
  ⟨(some 12), none, .box 190 (.tmp 11), 7, [], true⟩,
  ⟨(some 2), none, .mv (.tmp 12), 8, [], true⟩])
 .ret)))⟩

def m67 : MFn := ⟨71, [(4, none), (5, none)], (.seq (.region 2 [
  ⟨(some 4), none, .mv (.const (.int .i64 0)), 0, [], true⟩,
  ⟨(some 5), none, .mv (.const (.int .i64 0)), 1, [], true⟩])
 (.seq (.block 0 (.seq (.region 3 [
  ⟨(some 9), none, .mv (.tmp 0), 0, [], true⟩,
  ⟨(some 10), none, .eq false .ptr (.tmp 9) (.const (.pointer none)), 1, [], true⟩,
  ⟨(some 8), none, .mv (.tmp 10), 2, [], true⟩])
 (.cond (.tmp 8) (.seq (.region 2 [
  ⟨(some 4), none, .mv (.const (.int .i64 0)), 0, [], true⟩,
  ⟨(some 5), none, .mv (.const (.int .i64 1)), 1, [], true⟩])
 .ret) (.seq (.region 4 [
  ⟨(some 12), none, .mv (.tmp 1), 0, [], true⟩,
  ⟨(some 13), none, .call (.func 120) [(.tmp 12)], 1, [], true⟩,
  ⟨(some 14), none, .bin .neq (.tmp 13) (.const (.int .i64 0)), 2, [], true⟩,
  ⟨(some 11), none, .mv (.tmp 14), 3, [], true⟩])
 (.cond (.tmp 11) (.seq (.region 2 [
  ⟨(some 4), none, .mv (.const (.int .i64 0)), 0, [], true⟩,
  ⟨(some 5), none, .mv (.const (.int .i64 2)), 1, [], true⟩])
 .ret) (.seq (.region 8 [
  ⟨(some 16), none, .mv (.tmp 0), 0, [], true⟩,
  ⟨(some 17), none, .mv (.tmp 1), 1, [], true⟩,
  ⟨(some 18), none, .nilCheck (.tmp 16), 2, [], true⟩,
  ⟨(some 19), none, .fieldAddr 2 (.tmp 18), 3, [], true⟩,
  ⟨(some 20), none, .adArr 4 1 (.tmp 19) (.tmp 17), 4, [], true⟩,
  ⟨(some 21), none, .load 1 false (.tmp 20), 5, [], true⟩,
  ⟨(some 22), none, .eq true .ptr (.tmp 21) (.const (.pointer none)), 6, [], true⟩,
  ⟨(some 15), none, .mv (.tmp 22), 7, [], true⟩])
 (.cond (.tmp 15) (.seq (.region 2 [
  ⟨(some 4), none, .mv (.const (.int .i64 0)), 0, [], true⟩,
  ⟨(some 5), none, .mv (.const (.int .i64 8)), 1, [], true⟩])
 .ret) (.seq (.region 7 [
  ⟨(some 24), none, .mv (.tmp 0), 0, [], true⟩,
  ⟨(some 25), none, .nilCheck (.tmp 24), 1, [], true⟩,
  ⟨(some 26), none, .fieldAddr 7 (.tmp 25), 2, [], true⟩,
  ⟨(some 27), none, .load 1 false (.tmp 26), 3, [], true⟩,
  ⟨(some 28), none, .len false (.tmp 27), 4, [], true⟩,
  ⟨(some 29), none, .bin .geq (.tmp 28) (.const (.int .i64 64)), 5, [], true⟩,
  ⟨(some 23), none, .mv (.tmp 29), 6, [], true⟩])
 (.cond (.tmp 23) (.seq (.region 2 [
  ⟨(some 4), none, .mv (.const (.int .i64 0)), 0, [], true⟩,
  ⟨(some 5), none, .mv (.const (.int .i64 4)), 1, [], true⟩])
 .ret) .skip)))))))))
 (.seq (.region 6 [
  ⟨(some 30), none, .mv (.tmp 0), 0, [], true⟩,
  ⟨(some 31), none, .nilCheck (.tmp 30), 1, [], true⟩,
  ⟨(some 32), none, .fieldAddr 7 (.tmp 31), 2, [], true⟩,
  ⟨(some 33), none, .load 1 false (.tmp 32), 3, [], true⟩,
  ⟨(some 34), none, .len false (.tmp 33), 4, [], true⟩,
  ⟨(some 6), none, .mv (.tmp 34), 5, [], true⟩])
 (.seq (.region 6 [
  ⟨(some 35), none, .mv (.tmp 0), 0, [], true⟩,
  ⟨(some 36), none, .nilCheck (.tmp 35), 1, [], true⟩,
  ⟨(some 37), none, .fieldAddr 1 (.tmp 36), 2, [], true⟩,
  ⟨(some 38), none, .load 1 false (.tmp 37), 3, [], true⟩,
  ⟨(some 39), none, .call (.func 121) [(.tmp 38)], 4, [], true⟩,
  ⟨(some 7), none, .mv (.tmp 39), 5, [], true⟩])
 (.seq (.region 12 [
  ⟨(some 40), none, .mv (.tmp 0), 0, [], true⟩,
  ⟨(some 41), none, .mv (.tmp 1), 1, [], false⟩,
  ⟨(some 42), none, .mv (.tmp 6), 2, [], false⟩,
  ⟨(some 43), none, .mv (.tmp 7), 3, [], false⟩,
  ⟨(some 48), none, .nilCheck (.tmp 40), 8, [], false⟩,
  ⟨(some 49), none, .fieldAddr 2 (.tmp 48), 9, [], false⟩,
  ⟨(some 44), none, .call (.func 122) [], 4, [], false⟩,
  ⟨(some 45), none, .call (.func 123) [], 5, [], false⟩,
  ⟨(some 46), none, .build [(.int .i64 0), (.int .u64 0), (.int .u64 0), (.pointer none), (.pointer none), (.bool false), (.int .u8 0), (.int .i64 0), (.int .u64 0), (.int .i64 0), (.int .i64 0), (.int .u64 0), (.int .u64 0), (.bool false)] [(0, 1, (.tmp 42)), (1, 1, (.tmp 43)), (3, 1, (.tmp 44)), (4, 1, (.tmp 45))], 6, [], false⟩,
  ⟨(some 47), none, .box 129 (.tmp 46), 7, [], false⟩,
  ⟨(some 50), none, .adArr 4 1 (.tmp 49) (.tmp 41), 10, [], true⟩,
  ⟨none, none, .store 1 (.tmp 50) (.tmp 47), 11, [], true⟩])
 (.seq (.region 16 [
  ⟨(some 51), none, .mv (.tmp 0), 0, [], true⟩,
  ⟨(some 52), none, .buildSl 192 2 0 [] [], 1, [], true⟩,
  ⟨(some 53), none, .mv (.tmp 0), 2, [], true⟩,
  ⟨(some 54), none, .nilCheck (.tmp 53), 3, [], true⟩,
  ⟨(some 55), none, .fieldAddr 7 (.tmp 54), 4, [], true⟩,
  ⟨(some 56), none, .load 1 false (.tmp 55), 5, [], true⟩,
  ⟨(some 57), none, .append 192 2 16 (.tmp 52) (.tmp 56), 6, [], true⟩,
  ⟨(some 58), none, .mv (.tmp 7), 7, [], true⟩,
  ⟨(some 59), none, .bin .mul (.const (.int .u64 2)) (.tmp 58), 8, [], true⟩,
  ⟨(some 60), none, .bin .add (.tmp 59) (.const (.int .u64 1)), 9, [], true⟩,
  ⟨(some 61), none, .build [(.int .u64 0), (.int .u8 0)] [(0, 1, (.tmp 60))], 10, [], true⟩,
  ⟨(some 62), none, .buildSl 192 2 1 [(.int .u64 0), (.int .u8 0)] [(0, 2, (.tmp 61))], 11, [], true⟩,
  ⟨(some 63), none, .append 192 2 16 (.tmp 57) (.tmp 62), 12, [], true⟩,
  ⟨(some 64), none, .nilCheck (.tmp 51), 13, [], true⟩,
  ⟨(some 65), none, .fieldAddr 7 (.tmp 64), 14, [], true⟩,
  ⟨none, none, .store 1 (.tmp 65) (.tmp 63), 15, [], true⟩])
 (.seq (.region 4 [
  ⟨(some 66), none, .mv (.tmp 0), 0, [], true⟩,
  ⟨(some 67), none, .mv (.tmp 6), 1, [], true⟩,
  ⟨(some 68), none, .build [(.int .u8 0), (.int .i64 0), (.int .i64 0), (.int .u64 0)] [(0, 1, (.const (.int .u8 1))), (1, 1, (.tmp 67))], 2, [], true⟩,
  ⟨(some 69), none, .call (.func 124) [(.tmp 66), (.tmp 68)], 3, [], true⟩])
 (.seq (.region 3 [
  ⟨(some 70), none, .mv (.tmp 6), 0, [], true⟩,
  ⟨(some 4), none, .mv (.tmp 70), 1, [], true⟩,
  ⟨(some 5), none, .mv (.const (.int .i64 0)), 2, [], true⟩])
 .ret))))))))⟩

def m68 : MFn := ⟨67, [(6, none)], (.seq (.region 2 [
  ⟨(some 5), none, .box 44 (.tmp 2), 0, [], true⟩,
  ⟨(some 6), none, .mv (.const (.int .i64 0)), 1, [], true⟩])
 (.seq (.block 0 (.seq (.region 3 [
  ⟨(some 10), none, .mv (.tmp 0), 0, [], true⟩,
  ⟨(some 11), none, .eq false .ptr (.tmp 10) (.const (.pointer none)), 1, [], true⟩,
  ⟨(some 9), none, .mv (.tmp 11), 2, [], true⟩])
 (.cond (.tmp 9) (.seq (.region 1 [
  ⟨(some 6), none, .mv (.const (.int .i64 1)), 0, [], true⟩])
 .ret) (.seq (.region 4 [
  ⟨(some 13), none, .mv (.tmp 1), 0, [], true⟩,
  ⟨(some 14), none, .call (.func 120) [(.tmp 13)], 1, [], true⟩,
  ⟨(some 15), none, .bin .neq (.tmp 14) (.const (.int .i64 0)), 2, [], true⟩,
  ⟨(some 12), none, .mv (.tmp 15), 3, [], true⟩])
 (.cond (.tmp 12) (.seq (.region 1 [
  ⟨(some 6), none, .mv (.const (.int .i64 2)), 0, [], true⟩])
 .ret) (.seq (.region 8 [
  ⟨(some 17), none, .mv (.tmp 0), 0, [], true⟩,
  ⟨(some 18), none, .mv (.tmp 1), 1, [], true⟩,
  ⟨(some 19), none, .nilCheck (.tmp 17), 2, [], true⟩,
  ⟨(some 20), none, .fieldAddr 2 (.tmp 19), 3, [], true⟩,
  ⟨(some 21), none, .adArr 4 1 (.tmp 20) (.tmp 18), 4, [], true⟩,
  ⟨(some 22), none, .load 1 false (.tmp 21), 5, [], true⟩,
  ⟨(some 23), none, .eq false .ptr (.tmp 22) (.const (.pointer none)), 6, [], true⟩,
  ⟨(some 16), none, .mv (.tmp 23), 7, [], true⟩])
 (.cond (.tmp 16) (.seq (.region 1 [
  ⟨(some 6), none, .mv (.const (.int .i64 8)), 0, [], true⟩])
 .ret) (.seq (.region 10 [
  ⟨(some 25), none, .mv (.tmp 0), 0, [], true⟩,
  ⟨(some 26), none, .mv (.tmp 1), 1, [], true⟩,
  ⟨(some 27), none, .nilCheck (.tmp 25), 2, [], true⟩,
  ⟨(some 28), none, .fieldAddr 2 (.tmp 27), 3, [], true⟩,
  ⟨(some 29), none, .adArr 4 1 (.tmp 28) (.tmp 26), 4, [], true⟩,
  ⟨(some 30), none, .load 1 false (.tmp 29), 5, [], true⟩,
  ⟨(some 31), none, .nilCheck (.tmp 30), 6, [], true⟩,
  ⟨(some 32), none, .fieldAddr 5 (.tmp 31), 7, [], true⟩,
  ⟨(some 33), none, .load 1 false (.tmp 32), 8, [], true⟩,
  ⟨(some 24), none, .mv (.tmp 33), 9, [], true⟩])
 (.cond (.tmp 24) (.seq (.region 1 [
  ⟨(some 6), none, .mv (.const (.int .i64 7)), 0, [], true⟩])
 .ret) .skip)))))))))
 (.seq (.region 7 [
  ⟨(some 34), none, .mv (.tmp 0), 0, [], true⟩,
  ⟨(some 35), none, .mv (.tmp 1), 1, [], true⟩,
  ⟨(some 36), none, .nilCheck (.tmp 34), 2, [], true⟩,
  ⟨(some 37), none, .fieldAddr 2 (.tmp 36), 3, [], true⟩,
  ⟨(some 38), none, .adArr 4 1 (.tmp 37) (.tmp 35), 4, [], true⟩,
  ⟨(some 39), none, .load 1 false (.tmp 38), 5, [], true⟩,
  ⟨(some 7), none, .mv (.tmp 39), 6, [], true⟩])
 (.seq (.seq (.region 12 [
  ⟨(some 40), none, .load 3 true (.tmp 5), 0, [], true⟩,
  ⟨(some 41), none, .mv (.tmp 0), 1, [], false⟩,
  ⟨(some 42), none, .nilCheck (.tmp 41), 2, [], false⟩,
  ⟨(some 43), none, .fieldAddr 0 (.tmp 42), 3, [], false⟩,
  ⟨(some 44), none, .load 1 false (.tmp 43), 4, [], false⟩,
  ⟨(some 45), none, .len false (.tmp 44), 5, [], false⟩,
  ⟨(some 46), none, .mv (.tmp 7), 6, [], false⟩,
  ⟨(some 47), none, .nilCheck (.tmp 46), 7, [], false⟩,
  ⟨(some 48), none, .fieldAddr 4 (.tmp 47), 8, [], false⟩,
  ⟨(some 49), none, .load 1 false (.tmp 48), 9, [], false⟩,
  ⟨(some 50), none, .call (.func 125) [(.tmp 40), (.tmp 45), (.tmp 49)], 10, [], true⟩,
  ⟨(some 8), none, .mv (.tmp 50), 11, [], true⟩])
 (.seq (.region 2 [
  ⟨(some 51), none, .mv (.tmp 8), 0, [], true⟩,
  ⟨(some 52), none, .bin .neq (.tmp 51) (.const (.int .i64 0)), 1, [], true⟩])
 (.cond (.tmp 52) (.seq (.region 2 [
  ⟨(some 53), none, .mv (.tmp 8), 0, [], true⟩,
  ⟨(some 6), none, .mv (.tmp 53), 1, [], true⟩])
 .ret) .skip)))
 (.seq (.region 17 [
  ⟨(some 54), none, .mv (.tmp 7), 0, [], true⟩,
  ⟨(some 55), none, .mv (.tmp 7), 1, [], false⟩,
  ⟨(some 56), none, .mv (.tmp 7), 2, [], false⟩,
  ⟨(some 57), none, .mv (.tmp 7), 3, [], false⟩,
  ⟨(some 58), none, .load 3 true (.tmp 5), 4, [], false⟩,
  ⟨(some 59), none, .nilCheck (.tmp 54), 5, [], false⟩,
  ⟨(some 60), none, .fieldAddr 5 (.tmp 59), 6, [], false⟩,
  ⟨none, none, .store 1 (.tmp 60) (.const (.bool true)), 7, [(false, none, none, 4, .load 3 true (.tmp 5))], false⟩,
  ⟨(some 61), none, .nilCheck (.tmp 55), 8, [], false⟩,
  ⟨(some 62), none, .fieldAddr 6 (.tmp 61), 9, [], false⟩,
  ⟨none, none, .store 3 (.tmp 62) (.tmp 58), 10, [], false⟩,
  ⟨(some 63), none, .nilCheck (.tmp 56), 11, [], false⟩,
  ⟨(some 64), none, .fieldAddr 9 (.tmp 63), 12, [], false⟩,
  ⟨none, none, .store 1 (.tmp 64) (.const (.int .i64 0)), 13, [], false⟩,
  ⟨(some 65), none, .nilCheck (.tmp 57), 14, [], true⟩,
  ⟨(some 66), none, .fieldAddr 10 (.tmp 65), 15, [], true⟩,
  ⟨none, none, .store 1 (.tmp 66) (.const (.int .i64 0)), 16, [], true⟩])
 (.seq (.region 1 [
  ⟨(some 6), none, .mv (.const (.int .i64 0)), 0, [], true⟩])
 .ret))))))⟩

def m69 : MFn := ⟨92, [(4, (some (7, true)))], (.seq (.region 1 [
  ⟨(some 4), none, .alloc [(.bool false), (.int .u64 0), (.bool false), (.int .i64 0), (.bool false), (.int .u8 0), (.int .i64 0)] 70, 0, [], true⟩])
 (.seq (.block 0 (.seq (.region 3 [
  ⟨(some 7), none, .mv (.tmp 0), 0, [], true⟩,
  ⟨(some 8), none, .eq false .ptr (.tmp 7) (.const (.pointer none)), 1, [], true⟩,
  ⟨(some 6), none, .mv (.tmp 8), 2, [], true⟩])
 (.cond (.tmp 6) (.seq (.region 2 [
  ⟨(some 9), none, .build [(.bool false), (.int .u64 0), (.bool false), (.int .i64 0), (.bool false), (.int .u8 0), (.int .i64 0)] [(6, 1, (.const (.int .i64 1)))], 0, [], true⟩,
  ⟨none, none, .store 7 (.tmp 4) (.tmp 9), 1, [], true⟩])
 .ret) (.seq (.region 4 [
  ⟨(some 11), none, .mv (.tmp 1), 0, [], true⟩,
  ⟨(some 12), none, .call (.func 120) [(.tmp 11)], 1, [], true⟩,
  ⟨(some 13), none, .bin .neq (.tmp 12) (.const (.int .i64 0)), 2, [], true⟩,
  ⟨(some 10), none, .mv (.tmp 13), 3, [], true⟩])
 (.cond (.tmp 10) (.seq (.region 2 [
  ⟨(some 14), none, .build [(.bool false), (.int .u64 0), (.bool false), (.int .i64 0), (.bool false), (.int .u8 0), (.int .i64 0)] [(6, 1, (.const (.int .i64 2)))], 0, [], true⟩,
  ⟨none, none, .store 7 (.tmp 4) (.tmp 14), 1, [], true⟩])
 .ret) (.seq (.region 20 [
  ⟨(some 16), none, .mv (.tmp 0), 0, [], true⟩,
  ⟨(some 17), none, .mv (.tmp 1), 1, [], true⟩,
  ⟨(some 18), none, .nilCheck (.tmp 16), 2, [], true⟩,
  ⟨(some 19), none, .fieldAddr 2 (.tmp 18), 3, [], true⟩,
  ⟨(some 20), none, .adArr 4 1 (.tmp 19) (.tmp 17), 4, [], true⟩,
  ⟨(some 21), none, .load 1 false (.tmp 20), 5, [], true⟩,
  ⟨(some 22), none, .eq false .ptr (.tmp 21) (.const (.pointer none)), 6, [], true⟩,
  ⟨(some 23), none, .mv (.tmp 22), 7, [], true⟩,
  ⟨(some 24), (some (23, false)), .mv (.tmp 0), 8, [], true⟩,
  ⟨(some 25), (some (23, false)), .mv (.tmp 1), 9, [], true⟩,
  ⟨(some 26), (some (23, false)), .nilCheck (.tmp 24), 10, [], true⟩,
  ⟨(some 27), (some (23, false)), .fieldAddr 2 (.tmp 26), 11, [], true⟩,
  ⟨(some 28), (some (23, false)), .adArr 4 1 (.tmp 27) (.tmp 25), 12, [], true⟩,
  ⟨(some 29), (some (23, false)), .load 1 false (.tmp 28), 13, [], true⟩,
  ⟨(some 30), (some (23, false)), .nilCheck (.tmp 29), 14, [], true⟩,
  ⟨(some 31), (some (23, false)), .fieldAddr 5 (.tmp 30), 15, [], true⟩,
  ⟨(some 32), (some (23, false)), .load 1 false (.tmp 31), 16, [], true⟩,
  ⟨(some 33), (some (23, false)), .un .not (.tmp 32), 17, [], true⟩,
  ⟨(some 34), none, .pick (.tmp 23) (.const (.bool true)) (.tmp 33), 18, [], true⟩,
  ⟨(some 15), none, .mv (.tmp 34), 19, [], true⟩])
 (.cond (.tmp 15) (.seq (.region 2 [
  ⟨(some 35), none, .build [(.bool false), (.int .u64 0), (.bool false), (.int .i64 0), (.bool false), (.int .u8 0), (.int .i64 0)] [(6, 1, (.const (.int .i64 8)))], 0, [], true⟩,
  ⟨none, none, .store 7 (.tmp 4) (.tmp 35), 1, [], true⟩])
 .ret) .skip)))))))
 (.seq (.region 7 [
  ⟨(some 36), none, .mv (.tmp 0), 0, [], true⟩,
  ⟨(some 37), none, .mv (.tmp 1), 1, [], true⟩,
  ⟨(some 38), none, .nilCheck (.tmp 36), 2, [], true⟩,
  ⟨(some 39), none, .fieldAddr 2 (.tmp 38), 3, [], true⟩,
  ⟨(some 40), none, .adArr 4 1 (.tmp 39) (.tmp 37), 4, [], true⟩,
  ⟨(some 41), none, .load 1 false (.tmp 40), 5, [], true⟩,
  ⟨(some 5), none, .mv (.tmp 41), 6, [], true⟩])
 (.seq (.seq (.region 5 [
  ⟨(some 42), none, .mv (.tmp 5), 0, [], true⟩,
  ⟨(some 43), none, .nilCheck (.tmp 42), 1, [], true⟩,
  ⟨(some 44), none, .fieldAddr 6 (.tmp 43), 2, [], true⟩,
  ⟨(some 45), none, .fieldAddr 0 (.tmp 44), 3, [], true⟩,
  ⟨(some 46), none, .load 1 false (.tmp 45), 4, [], true⟩])
 (.block 1 (.seq (.region 2 [
  ⟨(some 48), none, .bin .eql (.tmp 46) (.const (.int .u8 7)), 0, [], true⟩,
  ⟨(some 47), none, .mv (.tmp 48), 1, [], true⟩])
 (.cond (.tmp 47) (.seq (.region 4 [
  ⟨(some 49), none, .mv (.tmp 0), 0, [], true⟩,
  ⟨(some 50), none, .mv (.tmp 1), 1, [], true⟩,
  ⟨(some 51), none, .call (.func 126) [(.tmp 49), (.tmp 50), (.const (.int .u8 4))], 2, [], true⟩,
  ⟨none, none, .store 7 (.tmp 4) (.tmp 51), 3, [], true⟩])
 .ret) (.seq (.region 2 [
  ⟨(some 53), none, .bin .eql (.tmp 46) (.const (.int .u8 1)), 0, [], true⟩,
  ⟨(some 52), none, .mv (.tmp 53), 1, [], true⟩])
 (.cond (.tmp 52) (.seq (.region 5 [
  ⟨(some 54), none, .mv (.tmp 0), 0, [], true⟩,
  ⟨(some 55), none, .mv (.tmp 1), 1, [], true⟩,
  ⟨(some 56), none, .mv (.tmp 5), 2, [], true⟩,
  ⟨(some 57), none, .call (.func 127) [(.tmp 54), (.tmp 55), (.tmp 56)], 3, [], true⟩,
  ⟨none, none, .store 7 (.tmp 4) (.tmp 57), 4, [], true⟩])
 .ret) (.seq (.region 2 [
  ⟨(some 59), none, .bin .eql (.tmp 46) (.const (.int .u8 6)), 0, [], true⟩,
  ⟨(some 58), none, .mv (.tmp 59), 1, [], true⟩])
 (.cond (.tmp 58) (.seq (.region 5 [
  ⟨(some 60), none, .mv (.tmp 0), 0, [], true⟩,
  ⟨(some 61), none, .mv (.tmp 1), 1, [], true⟩,
  ⟨(some 62), none, .mv (.tmp 5), 2, [], true⟩,
  ⟨(some 63), none, .call (.func 128) [(.tmp 60), (.tmp 61), (.tmp 62)], 3, [], true⟩,
  ⟨none, none, .store 7 (.tmp 4) (.tmp 63), 4, [], true⟩])
 .ret) .skip))))))))
 (.seq (.seq (.region 10 [
  ⟨(some 64), none, .mv (.tmp 5), 0, [], true⟩,
  ⟨(some 65), none, .nilCheck (.tmp 64), 1, [], true⟩,
  ⟨(some 66), none, .fieldAddr 4 (.tmp 65), 2, [], true⟩,
  ⟨(some 67), none, .load 1 false (.tmp 66), 3, [], true⟩,
  ⟨(some 68), none, .mv (.tmp 5), 4, [], false⟩,
  ⟨(some 69), none, .nilCheck (.tmp 68), 5, [], false⟩,
  ⟨(some 70), none, .fieldAddr 6 (.tmp 69), 6, [], false⟩,
  ⟨(some 71), none, .load 3 true (.tmp 70), 7, [], false⟩,
  ⟨(some 72), none, .call (.func 129) [(.tmp 67), (.tmp 71)], 8, [], true⟩,
  ⟨(some 73), none, .un .not (.tmp 72), 9, [], true⟩])
 (.cond (.tmp 73) (.seq (.region 4 [
  ⟨(some 74), none, .mv (.tmp 0), 0, [], true⟩,
  ⟨(some 75), none, .mv (.tmp 1), 1, [], true⟩,
  ⟨(some 76), none, .call (.func 126) [(.tmp 74), (.tmp 75), (.const (.int .u8 2))], 2, [], true⟩,
  ⟨none, none, .store 7 (.tmp 4) (.tmp 76), 3, [], true⟩])
 .ret) .skip))
 (.seq (.region 4 [
  ⟨(some 77), none, .mv (.tmp 5), 0, [], true⟩,
  ⟨(some 78), none, .nilCheck (.tmp 77), 1, [], true⟩,
  ⟨(some 79), none, .fieldAddr 5 (.tmp 78), 2, [], true⟩,
  ⟨none, none, .store 1 (.tmp 79) (.const (.bool false)), 3, [], true⟩])
 (.seq (.region 11 [
  ⟨(some 80), none, .mv (.tmp 0), 0, [], true⟩,
  ⟨(some 81), none, .mv (.tmp 5), 1, [], false⟩,
  ⟨(some 82), none, .nilCheck (.tmp 81), 2, [], false⟩,
  ⟨(some 83), none, .fieldAddr 0 (.tmp 82), 3, [], false⟩,
  ⟨(some 84), none, .load 1 false (.tmp 83), 4, [], false⟩,
  ⟨(some 85), none, .mv (.tmp 5), 5, [], false⟩,
  ⟨(some 86), none, .nilCheck (.tmp 85), 6, [], false⟩,
  ⟨(some 87), none, .fieldAddr 6 (.tmp 86), 7, [], false⟩,
  ⟨(some 88), none, .load 3 true (.tmp 87), 8, [], false⟩,
  ⟨(some 89), none, .call (.func 130) [(.tmp 84), (.tmp 88)], 9, [], false⟩,
  ⟨(some 90), none, .call (.func 124) [(.tmp 80), (.tmp 89)], 10, [], true⟩])
 (.seq (.region 2 [
  ⟨(some 91), none, .build [(.bool false), (.int .u64 0), (.bool false), (.int .i64 0), (.bool false), (.int .u8 0), (.int .i64 0)] [(0, 1, (.const (.bool true)))], 0, [], true⟩,
  ⟨none, none, .store 7 (.tmp 4) (.tmp 91), 1, [], true⟩])
 .ret))))))))⟩

def m70 : MFn := ⟨34, [(4, none)], (.seq (.region 1 [
  ⟨(some 4), none, .mv (.const (.int .i64 0)), 0, [], true⟩])
 (.seq (.block 0 (.seq (.region 3 [
  ⟨(some 6), none, .mv (.tmp 0), 0, [], true⟩,
  ⟨(some 7), none, .eq false .ptr (.tmp 6) (.const (.pointer none)), 1, [], true⟩,
  ⟨(some 5), none, .mv (.tmp 7), 2, [], true⟩])
 (.cond (.tmp 5) (.seq (.region 1 [
  ⟨(some 4), none, .mv (.const (.int .i64 1)), 0, [], true⟩])
 .ret) (.seq (.region 4 [
  ⟨(some 9), none, .mv (.tmp 1), 0, [], true⟩,
  ⟨(some 10), none, .call (.func 120) [(.tmp 9)], 1, [], true⟩,
  ⟨(some 11), none, .bin .neq (.tmp 10) (.const (.int .i64 0)), 2, [], true⟩,
  ⟨(some 8), none, .mv (.tmp 11), 3, [], true⟩])
 (.cond (.tmp 8) (.seq (.region 1 [
  ⟨(some 4), none, .mv (.const (.int .i64 2)), 0, [], true⟩])
 .ret) (.seq (.region 19 [
  ⟨(some 13), none, .mv (.tmp 0), 0, [], true⟩,
  ⟨(some 14), none, .mv (.tmp 1), 1, [], true⟩,
  ⟨(some 15), none, .nilCheck (.tmp 13), 2, [], true⟩,
  ⟨(some 16), none, .fieldAddr 2 (.tmp 15), 3, [], true⟩,
  ⟨(some 17), none, .adArr 4 1 (.tmp 16) (.tmp 14), 4, [], true⟩,
  ⟨(some 18), none, .load 1 false (.tmp 17), 5, [], true⟩,
  ⟨(some 19), none, .eq false .ptr (.tmp 18) (.const (.pointer none)), 6, [], true⟩,
  ⟨(some 20), none, .mv (.tmp 19), 7, [], true⟩,
  ⟨(some 21), (some (20, false)), .mv (.tmp 0), 8, [], true⟩,
  ⟨(some 22), (some (20, false)), .mv (.tmp 1), 9, [], true⟩,
  ⟨(some 23), (some (20, false)), .nilCheck (.tmp 21), 10, [], true⟩,
  ⟨(some 24), (some (20, false)), .fieldAddr 2 (.tmp 23), 11, [], true⟩,
  ⟨(some 25), (some (20, false)), .adArr 4 1 (.tmp 24) (.tmp 22), 12, [], true⟩,
  ⟨(some 26), (some (20, false)), .load 1 false (.tmp 25), 13, [], true⟩,
  ⟨(some 27), (some (20, false)), .nilCheck (.tmp 26), 14, [], true⟩,
  ⟨(some 28), (some (20, false)), .fieldAddr 13 (.tmp 27), 15, [], true⟩,
  ⟨(some 29), (some (20, false)), .load 1 false (.tmp 28), 16, [], true⟩,
  ⟨(some 30), none, .pick (.tmp 20) (.const (.bool true)) (.tmp 29), 17, [], true⟩,
  ⟨(some 12), none, .mv (.tmp 30), 18, [], true⟩])
 (.cond (.tmp 12) (.seq (.region 1 [
  ⟨(some 4), none, .mv (.const (.int .i64 8)), 0, [], true⟩])
 .ret) .skip)))))))
 (.seq (.region 3 [
  ⟨(some 31), none, .mv (.tmp 0), 0, [], true⟩,
  ⟨(some 32), none, .mv (.tmp 1), 1, [], true⟩,
  ⟨(some 33), none, .call (.func 126) [(.tmp 31), (.tmp 32), (.const (.int .u8 3))], 2, [], true⟩])
 (.seq (.region 1 [
  ⟨(some 4), none, .mv (.const (.int .i64 0)), 0, [], true⟩])
 .ret))))⟩

def m71 : MFn := ⟨16, [(4, none), (5, none)], (.seq (.region 2 [
  ⟨(some 4), none, .mv (.const (.int .i64 0)), 0, [], true⟩,
  ⟨(some 5), none, .mv (.const (.bool false)), 1, [], true⟩])
 (.seq (.seq (.region 4 [
  ⟨(some 7), none, .mv (.tmp 0), 0, [], true⟩,
  ⟨(some 8), none, .mv (.tmp 1), 1, [], true⟩,
  ⟨(some 9), none, .call (.func 131) [(.tmp 7), (.tmp 8)], 2, [], true⟩,
  ⟨(some 6), none, .mv (.tmp 9), 3, [], true⟩])
 (.seq (.region 2 [
  ⟨(some 10), none, .mv (.tmp 6), 0, [], true⟩,
  ⟨(some 11), none, .eq true .ptr (.tmp 10) (.const (.pointer none)), 1, [], true⟩])
 (.cond (.tmp 11) (.seq (.region 6 [
  ⟨(some 12), none, .mv (.tmp 6), 0, [], true⟩,
  ⟨(some 13), none, .nilCheck (.tmp 12), 1, [], true⟩,
  ⟨(some 14), none, .fieldAddr 0 (.tmp 13), 2, [], true⟩,
  ⟨(some 15), none, .load 1 false (.tmp 14), 3, [], true⟩,
  ⟨(some 4), none, .mv (.tmp 15), 4, [], true⟩,
  ⟨(some 5), none, .mv (.const (.bool true)), 5, [], true⟩])
 .ret) .skip)))
 (.seq (.region 2 [
  ⟨(some 4), none, .mv (.const (.int .i64 0)), 0, [], true⟩,
  ⟨(some 5), none, .mv (.const (.bool false)), 1, [], true⟩])
 .ret)))⟩

def m72 : MFn := ⟨23, [(4, (some (3, true))), (5, none)], (.seq (.region 2 [
  ⟨(some 4), none, .alloc [(.int .u8 0), (.int .i64 0), (.int .u64 0)] 44, 0, [], true⟩,
  ⟨(some 5), none, .mv (.const (.bool false)), 1, [], true⟩])
 (.seq (.seq (.region 4 [
  ⟨(some 7), none, .mv (.tmp 0), 0, [], true⟩,
  ⟨(some 8), none, .mv (.tmp 1), 1, [], true⟩,
  ⟨(some 9), none, .call (.func 131) [(.tmp 7), (.tmp 8)], 2, [], true⟩,
  ⟨(some 6), none, .mv (.tmp 9), 3, [], true⟩])
 (.seq (.region 8 [
  ⟨(some 10), none, .mv (.tmp 6), 0, [], true⟩,
  ⟨(some 11), none, .eq true .ptr (.tmp 10) (.const (.pointer none)), 1, [], true⟩,
  ⟨(some 12), none, .mv (.tmp 11), 2, [], true⟩,
  ⟨(some 13), (some (12, true)), .mv (.tmp 6), 3, [], true⟩,
  ⟨(some 14), (some (12, true)), .nilCheck (.tmp 13), 4, [], true⟩,
  ⟨(some 15), (some (12, true)), .fieldAddr 5 (.tmp 14), 5, [], true⟩,
  ⟨(some 16), (some (12, true)), .load 1 false (.tmp 15), 6, [], true⟩,
  ⟨(some 17), none, .pick (.tmp 12) (.tmp 16) (.const (.bool false)), 7, [], true⟩])
 (.cond (.tmp 17) (.seq (.region 6 [
  ⟨(some 18), none, .mv (.tmp 6), 0, [], true⟩,
  ⟨(some 19), none, .nilCheck (.tmp 18), 1, [], true⟩,
  ⟨(some 20), none, .fieldAddr 6 (.tmp 19), 2, [], true⟩,
  ⟨(some 21), none, .load 3 true (.tmp 20), 3, [], true⟩,
  ⟨none, none, .store 3 (.tmp 4) (.tmp 21), 4, [], true⟩,
  ⟨(some 5), none, .mv (.const (.bool true)), 5, [], true⟩])
 .ret) .skip)))
 (.seq (.region 3 [
  ⟨(some 22), none, .build [(.int .u8 0), (.int .i64 0), (.int .u64 0)] [], 0, [], true⟩,
  ⟨none, none, .store 3 (.tmp 4) (.tmp 22), 1, [], true⟩,
  ⟨(some 5), none, .mv (.const (.bool false)), 2, [], true⟩])
 .ret)))⟩

def m73 : MFn := ⟨26, [(4, none)], (.seq (.region 1 [
  ⟨(some 4), none, .mv (.const (.bool false)), 0, [], true⟩])
 (.seq (.seq (.region 5 [
  ⟨(some 6), none, .mv (.tmp 0), 0, [], true⟩,
  ⟨(some 7), none, .len false (.tmp 6), 1, [], true⟩,
  ⟨(some 8), none, .mv (.tmp 1), 2, [], true⟩,
  ⟨(some 9), none, .len false (.tmp 8), 3, [], true⟩,
  ⟨(some 10), none, .bin .neq (.tmp 7) (.tmp 9), 4, [], true⟩])
 (.cond (.tmp 10) (.seq (.region 1 [
  ⟨(some 4), none, .mv (.const (.bool false)), 0, [], true⟩])
 .ret) .skip))
 (.seq (.seq (.region 1 [
  ⟨(some 5), none, .mv (.const (.int .i64 0)), 0, [], true⟩])
 (.block 0 (.loop (.seq (.seq (.region 4 [
  ⟨(some 11), none, .mv (.tmp 5), 0, [], true⟩,
  ⟨(some 12), none, .mv (.tmp 0), 1, [], true⟩,
  ⟨(some 13), none, .len false (.tmp 12), 2, [], true⟩,
  ⟨(some 14), none, .bin .lss (.tmp 11) (.tmp 13), 3, [], true⟩])
 (.cond (.tmp 14) .skip (.exit 0)))
 (.seq (.block 1 (.seq (.region 9 [
  ⟨(some 17), none, .mv (.tmp 0), 0, [], true⟩,
  ⟨(some 18), none, .mv (.tmp 5), 1, [], false⟩,
  ⟨(some 19), none, .adSl 3 (.tmp 17) (.tmp 18), 2, [], true⟩,
  ⟨(some 20), none, .load 3 true (.tmp 19), 3, [], true⟩,
  ⟨(some 21), none, .mv (.tmp 1), 4, [], false⟩,
  ⟨(some 22), none, .mv (.tmp 5), 5, [], false⟩,
  ⟨(some 23), none, .adSl 3 (.tmp 21) (.tmp 22), 6, [], false⟩,
  ⟨(some 24), none, .load 3 true (.tmp 23), 7, [], false⟩,
  ⟨(some 25), none, .eq true (.st [(0, 1, false, .int), (1, 1, false, .int), (2, 1, false, .int)]) (.tmp 20) (.tmp 24), 8, [], true⟩])
 (.cond (.tmp 25) (.seq (.region 1 [
  ⟨(some 4), none, .mv (.const (.bool false)), 0, [], true⟩])
 .ret) .skip)))
 (.region 3 [
  ⟨(some 15), none, .mv (.tmp 5), 0, [], true⟩,
  ⟨(some 16), none, .bin .add (.tmp 15) (.const (.int .i64 1)), 1, [], true⟩,
  ⟨(some 5), none, .mv (.tmp 16), 2, [], true⟩]))))))
 (.seq (.region 1 [
  ⟨(some 4), none, .mv (.const (.bool true)), 0, [], true⟩])
 .ret))))⟩

def m74 : MFn := ⟨16, [(4, none)], (.seq (.region 1 [
  ⟨(some 4), none, .mv (.const (.slice none 0 0)), 0, [], true⟩])
 (.seq (.seq (.region 4 [
  ⟨(some 6), none, .mv (.tmp 0), 0, [], true⟩,
  ⟨(some 7), none, .mv (.tmp 1), 1, [], true⟩,
  ⟨(some 8), none, .call (.func 131) [(.tmp 6), (.tmp 7)], 2, [], true⟩,
  ⟨(some 5), none, .mv (.tmp 8), 3, [], true⟩])
 (.seq (.region 2 [
  ⟨(some 9), none, .mv (.tmp 5), 0, [], true⟩,
  ⟨(some 10), none, .eq true .ptr (.tmp 9) (.const (.pointer none)), 1, [], true⟩])
 (.cond (.tmp 10) (.seq (.region 6 [
  ⟨(some 11), none, .mv (.tmp 5), 0, [], true⟩,
  ⟨(some 12), none, .nilCheck (.tmp 11), 1, [], true⟩,
  ⟨(some 13), none, .fieldAddr 3 (.tmp 12), 2, [], true⟩,
  ⟨(some 14), none, .load 1 false (.tmp 13), 3, [], true⟩,
  ⟨(some 15), none, .call (.func 119) [(.tmp 14)], 4, [], true⟩,
  ⟨(some 4), none, .mv (.tmp 15), 5, [], true⟩])
 .ret) .skip)))
 (.seq (.region 1 [
  ⟨(some 4), none, .mv (.const (.slice none 0 0)), 0, [], true⟩])
 .ret)))⟩

def m75 : MFn := ⟨26, [(4, none)], (.seq (.region 1 [
  ⟨(some 4), none, .mv (.const (.bool false)), 0, [], true⟩])
 (.seq (.seq (.region 5 [
  ⟨(some 6), none, .mv (.tmp 0), 0, [], true⟩,
  ⟨(some 7), none, .len false (.tmp 6), 1, [], true⟩,
  ⟨(some 8), none, .mv (.tmp 1), 2, [], true⟩,
  ⟨(some 9), none, .len false (.tmp 8), 3, [], true⟩,
  ⟨(some 10), none, .bin .neq (.tmp 7) (.tmp 9), 4, [], true⟩])
 (.cond (.tmp 10) (.seq (.region 1 [
  ⟨(some 4), none, .mv (.const (.bool false)), 0, [], true⟩])
 .ret) .skip))
 (.seq (.seq (.region 1 [
  ⟨(some 5), none, .mv (.const (.int .i64 0)), 0, [], true⟩])
 (.block 0 (.loop (.seq (.seq (.region 4 [
  ⟨(some 11), none, .mv (.tmp 5), 0, [], true⟩,
  ⟨(some 12), none, .mv (.tmp 0), 1, [], true⟩,
  ⟨(some 13), none, .len false (.tmp 12), 2, [], true⟩,
  ⟨(some 14), none, .bin .lss (.tmp 11) (.tmp 13), 3, [], true⟩])
 (.cond (.tmp 14) .skip (.exit 0)))
 (.seq (.block 1 (.seq (.region 9 [
  ⟨(some 17), none, .mv (.tmp 0), 0, [], true⟩,
  ⟨(some 18), none, .mv (.tmp 5), 1, [], false⟩,
  ⟨(some 19), none, .adSl 2 (.tmp 17) (.tmp 18), 2, [], true⟩,
  ⟨(some 20), none, .load 2 true (.tmp 19), 3, [], true⟩,
  ⟨(some 21), none, .mv (.tmp 1), 4, [], false⟩,
  ⟨(some 22), none, .mv (.tmp 5), 5, [], false⟩,
  ⟨(some 23), none, .adSl 2 (.tmp 21) (.tmp 22), 6, [], false⟩,
  ⟨(some 24), none, .load 2 true (.tmp 23), 7, [], false⟩,
  ⟨(some 25), none, .eq true (.st [(0, 1, false, .int), (1, 1, false, .int)]) (.tmp 20) (.tmp 24), 8, [], true⟩])
 (.cond (.tmp 25) (.seq (.region 1 [
  ⟨(some 4), none, .mv (.const (.bool false)), 0, [], true⟩])
 .ret) .skip)))
 (.region 3 [
  ⟨(some 15), none, .mv (.tmp 5), 0, [], true⟩,
  ⟨(some 16), none, .bin .add (.tmp 15) (.const (.int .i64 1)), 1, [], true⟩,
  ⟨(some 5), none, .mv (.tmp 16), 2, [], true⟩]))))))
 (.seq (.region 1 [
  ⟨(some 4), none, .mv (.const (.bool true)), 0, [], true⟩])
 .ret))))⟩

def m76 : MFn := ⟨16, [(4, none)], (.seq (.region 1 [
  ⟨(some 4), none, .mv (.const (.slice none 0 0)), 0, [], true⟩])
 (.seq (.seq (.region 4 [
  ⟨(some 6), none, .mv (.tmp 0), 0, [], true⟩,
  ⟨(some 7), none, .mv (.tmp 1), 1, [], true⟩,
  ⟨(some 8), none, .call (.func 131) [(.tmp 6), (.tmp 7)], 2, [], true⟩,
  ⟨(some 5), none, .mv (.tmp 8), 3, [], true⟩])
 (.seq (.region 2 [
  ⟨(some 9), none, .mv (.tmp 5), 0, [], true⟩,
  ⟨(some 10), none, .eq true .ptr (.tmp 9) (.const (.pointer none)), 1, [], true⟩])
 (.cond (.tmp 10) (.seq (.region 6 [
  ⟨(some 11), none, .mv (.tmp 5), 0, [], true⟩,
  ⟨(some 12), none, .nilCheck (.tmp 11), 1, [], true⟩,
  ⟨(some 13), none, .fieldAddr 4 (.tmp 12), 2, [], true⟩,
  ⟨(some 14), none, .load 1 false (.tmp 13), 3, [], true⟩,
  ⟨(some 15), none, .call (.func 132) [(.tmp 14)], 4, [], true⟩,
  ⟨(some 4), none, .mv (.tmp 15), 5, [], true⟩])
 .ret) .skip)))
 (.seq (.region 1 [
  ⟨(some 4), none, .mv (.const (.slice none 0 0)), 0, [], true⟩])
 .ret)))⟩

def m77 : MFn := ⟨17, [(4, none)], (.seq (.region 1 [
  ⟨(some 4), none, .mv (.const (.bool false)), 0, [], true⟩])
 (.seq (.region 13 [
  ⟨(some 5), none, .mv (.tmp 0), 0, [], true⟩,
  ⟨(some 6), none, .eq true .ptr (.tmp 5) (.const (.pointer none)), 1, [], true⟩,
  ⟨(some 7), none, .mv (.tmp 6), 2, [], true⟩,
  ⟨(some 8), (some (7, true)), .mv (.tmp 0), 3, [], true⟩,
  ⟨(some 9), (some (7, true)), .nilCheck (.tmp 8), 4, [], true⟩,
  ⟨(some 10), (some (7, true)), .fieldAddr 1 (.tmp 9), 5, [], true⟩,
  ⟨(some 11), (some (7, true)), .load 1 false (.tmp 10), 6, [], true⟩,
  ⟨(some 12), (some (7, true)), .mv (.tmp 1), 7, [], true⟩,
  ⟨(some 13), (some (7, true)), .call (.func 133) [(.tmp 11), (.tmp 12)], 8, [], true⟩,
  ⟨(some 14), (some (7, true)), .len false (.tmp 13), 9, [], true⟩,
  ⟨(some 15), (some (7, true)), .bin .gtr (.tmp 14) (.const (.int .i64 0)), 10, [], true⟩,
  ⟨(some 16), none, .pick (.tmp 7) (.tmp 15) (.const (.bool false)), 11, [], true⟩,
  ⟨(some 4), none, .mv (.tmp 16), 12, [], true⟩])
 .ret))⟩

def m78 : MFn := ⟨52, [(4, none)], (.seq (.region 1 [
  ⟨(some 4), none, .mv (.const (.bool false)), 0, [], true⟩])
 (.seq (.region 4 [
  ⟨(some 10), none, .mv (.tmp 0), 0, [], true⟩,
  ⟨(some 11), none, .mv (.tmp 1), 1, [], true⟩,
  ⟨(some 12), none, .call (.func 131) [(.tmp 10), (.tmp 11)], 2, [], true⟩,
  ⟨(some 5), none, .mv (.tmp 12), 3, [], true⟩])
 (.seq (.seq (.region 2 [
  ⟨(some 13), none, .mv (.tmp 5), 0, [], true⟩,
  ⟨(some 14), none, .eq false .ptr (.tmp 13) (.const (.pointer none)), 1, [], true⟩])
 (.cond (.tmp 14) (.seq (.region 1 [
  ⟨(some 4), none, .mv (.const (.bool false)), 0, [], true⟩])
 .ret) .skip))
 (.seq (.region 6 [
  ⟨(some 15), none, .mv (.tmp 5), 0, [], true⟩,
  ⟨(some 16), none, .nilCheck (.tmp 15), 1, [], true⟩,
  ⟨(some 17), none, .fieldAddr 3 (.tmp 16), 2, [], true⟩,
  ⟨(some 18), none, .load 1 false (.tmp 17), 3, [], true⟩,
  ⟨(some 19), none, .call (.func 119) [(.tmp 18)], 4, [], true⟩,
  ⟨(some 6), none, .mv (.tmp 19), 5, [], true⟩])
 (.seq (.seq (.region 1 [
  ⟨(some 7), none, .mv (.const (.int .i64 0)), 0, [], true⟩])
 (.block 0 (.loop (.seq (.seq (.region 4 [
  ⟨(some 20), none, .mv (.tmp 7), 0, [], true⟩,
  ⟨(some 21), none, .mv (.tmp 6), 1, [], true⟩,
  ⟨(some 22), none, .len false (.tmp 21), 2, [], true⟩,
  ⟨(some 23), none, .bin .lss (.tmp 20) (.tmp 22), 3, [], true⟩])
 (.cond (.tmp 23) .skip (.exit 0)))
 (.seq (.block 1 (.seq (.region 20 [
  ⟨(some 27), none, .mv (.tmp 0), 0, [], true⟩,
  ⟨(some 28), none, .nilCheck (.tmp 27), 1, [], true⟩,
  ⟨(some 29), none, .fieldAddr 1 (.tmp 28), 2, [], true⟩,
  ⟨(some 30), none, .load 1 false (.tmp 29), 3, [], true⟩,
  ⟨(some 31), none, .mv (.tmp 0), 4, [], false⟩,
  ⟨(some 32), none, .nilCheck (.tmp 31), 5, [], false⟩,
  ⟨(some 33), none, .fieldAddr 1 (.tmp 32), 6, [], false⟩,
  ⟨(some 34), none, .load 1 false (.tmp 33), 7, [], false⟩,
  ⟨(some 35), none, .mv (.tmp 6), 8, [], false⟩,
  ⟨(some 36), none, .mv (.tmp 7), 9, [], false⟩,
  ⟨(some 37), none, .adSl 3 (.tmp 35) (.tmp 36), 10, [], false⟩,
  ⟨(some 38), none, .fieldAddr 0 (.tmp 37), 11, [], false⟩,
  ⟨(some 39), none, .load 1 false (.tmp 38), 12, [], false⟩,
  ⟨(some 40), none, .call (.func 135) [(.tmp 34), (.tmp 39)], 13, [(false, none, none, 3, .load 1 false (.tmp 29))], false⟩,
  ⟨(some 41), none, .call (.func 134) [(.tmp 30), (.tmp 40)], 14, [], true⟩,
  ⟨(some 26), none, .mv (.tmp 41), 15, [], true⟩,
  ⟨(some 42), none, .extract (.tmp 26) 0, 16, [], true⟩,
  ⟨(some 43), none, .extract (.tmp 26) 1, 17, [], false⟩,
  ⟨(some 8), none, .mv (.tmp 42), 18, [], false⟩,
  ⟨(some 9), none, .mv (.tmp 43), 19, [], true⟩])
 (.seq (.region 8 [
  ⟨(some 44), none, .mv (.tmp 8), 0, [], true⟩,
  ⟨(some 45), none, .mv (.tmp 1), 1, [], true⟩,
  ⟨(some 46), none, .mv (.tmp 5), 2, [], true⟩,
  ⟨(some 47), none, .nilCheck (.tmp 46), 3, [], true⟩,
  ⟨(some 48), none, .fieldAddr 1 (.tmp 47), 4, [], true⟩,
  ⟨(some 49), none, .load 1 false (.tmp 48), 5, [], true⟩,
  ⟨(some 50), none, .call (.func 136) [(.tmp 44), (.tmp 45), (.tmp 49)], 6, [], true⟩,
  ⟨(some 51), none, .un .not (.tmp 50), 7, [], true⟩])
 (.cond (.tmp 51) (.seq (.region 1 [
  ⟨(some 4), none, .mv (.const (.bool false)), 0, [], true⟩])
 .ret) .skip))))
 (.region 3 [
  ⟨(some 24), none, .mv (.tmp 7), 0, [], true⟩,
  ⟨(some 25), none, .bin .add (.tmp 24) (.const (.int .i64 1)), 1, [], true⟩,
  ⟨(some 7), none, .mv (.tmp 25), 2, [], true⟩]))))))
 (.seq (.region 1 [
  ⟨(some 4), none, .mv (.const (.bool true)), 0, [], true⟩])
 .ret))))))⟩

def m79 : MFn := ⟨28, [(4, none)], (.seq (.region 1 [
  ⟨(some 4), none, .mv (.const (.int .u8 0)), 0, [], true⟩])
 (.seq (.seq (.region 15 [
  ⟨(some 5), none, .mv (.tmp 0), 0, [], true⟩,
  ⟨(some 6), none, .eq false .ptr (.tmp 5) (.const (.pointer none)), 1, [], true⟩,
  ⟨(some 7), none, .mv (.tmp 6), 2, [], true⟩,
  ⟨(some 8), (some (7, false)), .mv (.tmp 1), 3, [], true⟩,
  ⟨(some 9), (some (7, false)), .bin .lss (.tmp 8) (.const (.int .i64 0)), 4, [], true⟩,
  ⟨(some 10), none, .pick (.tmp 7) (.const (.bool true)) (.tmp 9), 5, [], true⟩,
  ⟨(some 11), none, .mv (.tmp 10), 6, [], true⟩,
  ⟨(some 12), (some (11, false)), .mv (.tmp 1), 7, [], true⟩,
  ⟨(some 13), (some (11, false)), .mv (.tmp 0), 8, [], true⟩,
  ⟨(some 14), (some (11, false)), .nilCheck (.tmp 13), 9, [], true⟩,
  ⟨(some 15), (some (11, false)), .fieldAddr 7 (.tmp 14), 10, [], true⟩,
  ⟨(some 16), (some (11, false)), .load 1 false (.tmp 15), 11, [], true⟩,
  ⟨(some 17), (some (11, false)), .len false (.tmp 16), 12, [], true⟩,
  ⟨(some 18), (some (11, false)), .bin .geq (.tmp 12) (.tmp 17), 13, [], true⟩,
  ⟨(some 19), none, .pick (.tmp 11) (.const (.bool true)) (.tmp 18), 14, [], true⟩])
 (.cond (.tmp 19) (.seq (.region 1 [
  ⟨(some 4), none, .mv (.const (.int .u8 0)), 0, [], true⟩])
 .ret) .skip))
 (.seq (.region 9 [
  ⟨(some 20), none, .mv (.tmp 0), 0, [], true⟩,
  ⟨(some 21), none, .nilCheck (.tmp 20), 1, [], true⟩,
  ⟨(some 22), none, .fieldAddr 7 (.tmp 21), 2, [], true⟩,
  ⟨(some 23), none, .load 1 false (.tmp 22), 3, [], true⟩,
  ⟨(some 24), none, .mv (.tmp 1), 4, [], true⟩,
  ⟨(some 25), none, .adSl 2 (.tmp 23) (.tmp 24), 5, [], true⟩,
  ⟨(some 26), none, .fieldAddr 1 (.tmp 25), 6, [], true⟩,
  ⟨(some 27), none, .load 1 false (.tmp 26), 7, [], true⟩,
  ⟨(some 4), none, .mv (.tmp 27), 8, [], true⟩])
 .ret)))⟩

def m80 : MFn := ⟨26, [(4, none)], (.seq (.region 1 [
  ⟨(some 4), none, .mv (.const (.bool false)), 0, [], true⟩])
 (.seq (.seq (.region 5 [
  ⟨(some 6), none, .mv (.tmp 0), 0, [], true⟩,
  ⟨(some 7), none, .len false (.tmp 6), 1, [], true⟩,
  ⟨(some 8), none, .mv (.tmp 1), 2, [], true⟩,
  ⟨(some 9), none, .len false (.tmp 8), 3, [], true⟩,
  ⟨(some 10), none, .bin .neq (.tmp 7) (.tmp 9), 4, [], true⟩])
 (.cond (.tmp 10) (.seq (.region 1 [
  ⟨(some 4), none, .mv (.const (.bool false)), 0, [], true⟩])
 .ret) .skip))
 (.seq (.seq (.region 1 [
  ⟨(some 5), none, .mv (.const (.int .i64 0)), 0, [], true⟩])
 (.block 0 (.loop (.seq (.seq (.region 4 [
  ⟨(some 11), none, .mv (.tmp 5), 0, [], true⟩,
  ⟨(some 12), none, .mv (.tmp 0), 1, [], true⟩,
  ⟨(some 13), none, .len false (.tmp 12), 2, [], true⟩,
  ⟨(some 14), none, .bin .lss (.tmp 11) (.tmp 13), 3, [], true⟩])
 (.cond (.tmp 14) .skip (.exit 0)))
 (.seq (.block 1 (.seq (.region 9 [
  ⟨(some 17), none, .mv (.tmp 0), 0, [], true⟩,
  ⟨(some 18), none, .mv (.tmp 5), 1, [], false⟩,
  ⟨(some 19), none, .adSl 4 (.tmp 17) (.tmp 18), 2, [], true⟩,
  ⟨(some 20), none, .load 4 true (.tmp 19), 3, [], true⟩,
  ⟨(some 21), none, .mv (.tmp 1), 4, [], false⟩,
  ⟨(some 22), none, .mv (.tmp 5), 5, [], false⟩,
  ⟨(some 23), none, .adSl 4 (.tmp 21) (.tmp 22), 6, [], false⟩,
  ⟨(some 24), none, .load 4 true (.tmp 23), 7, [], false⟩,
  ⟨(some 25), none, .eq true (.st [(0, 1, false, .int), (1, 1, false, .int), (2, 1, false, .int), (3, 1, false, .int)]) (.tmp 20) (.tmp 24), 8, [], true⟩])
 (.cond (.tmp 25) (.seq (.region 1 [
  ⟨(some 4), none, .mv (.const (.bool false)), 0, [], true⟩])
 .ret) .skip)))
 (.region 3 [
  ⟨(some 15), none, .mv (.tmp 5), 0, [], true⟩,
  ⟨(some 16), none, .bin .add (.tmp 15) (.const (.int .i64 1)), 1, [], true⟩,
  ⟨(some 5), none, .mv (.tmp 16), 2, [], true⟩]))))))
 (.seq (.region 1 [
  ⟨(some 4), none, .mv (.const (.bool true)), 0, [], true⟩])
 .ret))))⟩

def m81 : MFn := ⟨26, [(4, none)], (.seq (.region 1 [
  ⟨(some 4), none, .mv (.const (.bool false)), 0, [], true⟩])
 (.seq (.seq (.region 5 [
  ⟨(some 6), none, .mv (.tmp 0), 0, [], true⟩,
  ⟨(some 7), none, .len false (.tmp 6), 1, [], true⟩,
  ⟨(some 8), none, .mv (.tmp 1), 2, [], true⟩,
  ⟨(some 9), none, .len false (.tmp 8), 3, [], true⟩,
  ⟨(some 10), none, .bin .neq (.tmp 7) (.tmp 9), 4, [], true⟩])
 (.cond (.tmp 10) (.seq (.region 1 [
  ⟨(some 4), none, .mv (.const (.bool false)), 0, [], true⟩])
 .ret) .skip))
 (.seq (.seq (.region 1 [
  ⟨(some 5), none, .mv (.const (.int .i64 0)), 0, [], true⟩])
 (.block 0 (.loop (.seq (.seq (.region 4 [
  ⟨(some 11), none, .mv (.tmp 5), 0, [], true⟩,
  ⟨(some 12), none, .mv (.tmp 0), 1, [], true⟩,
  ⟨(some 13), none, .len false (.tmp 12), 2, [], true⟩,
  ⟨(some 14), none, .bin .lss (.tmp 11) (.tmp 13), 3, [], true⟩])
 (.cond (.tmp 14) .skip (.exit 0)))
 (.seq (.block 1 (.seq (.region 9 [
  ⟨(some 17), none, .mv (.tmp 0), 0, [], true⟩,
  ⟨(some 18), none, .mv (.tmp 5), 1, [], false⟩,
  ⟨(some 19), none, .adSl 1 (.tmp 17) (.tmp 18), 2, [], true⟩,
  ⟨(some 20), none, .load 1 false (.tmp 19), 3, [], true⟩,
  ⟨(some 21), none, .mv (.tmp 1), 4, [], false⟩,
  ⟨(some 22), none, .mv (.tmp 5), 5, [], false⟩,
  ⟨(some 23), none, .adSl 1 (.tmp 21) (.tmp 22), 6, [], false⟩,
  ⟨(some 24), none, .load 1 false (.tmp 23), 7, [], false⟩,
  ⟨(some 25), none, .bin .neq (.tmp 20) (.tmp 24), 8, [], true⟩])
 (.cond (.tmp 25) (.seq (.region 1 [
  ⟨(some 4), none, .mv (.const (.bool false)), 0, [], true⟩])
 .ret) .skip)))
 (.region 3 [
  ⟨(some 15), none, .mv (.tmp 5), 0, [], true⟩,
  ⟨(some 16), none, .bin .add (.tmp 15) (.const (.int .i64 1)), 1, [], true⟩,
  ⟨(some 5), none, .mv (.tmp 16), 2, [], true⟩]))))))
 (.seq (.region 1 [
  ⟨(some 4), none, .mv (.const (.bool true)), 0, [], true⟩])
 .ret))))⟩

def m82 : MFn := ⟨59, [(2, none)], (.seq (.region 1 [
  ⟨(some 2), none, .mv (.const (.slice none 0 0)), 0, [], true⟩])
 (.seq (.region 1 [
  ⟨(some 3), none, .mv (.const (.slice none 0 0)), 0, [], true⟩])
 (.seq (.seq (.region 1 [
  ⟨(some 4), none, .mv (.const (.int .i64 0)), 0, [], true⟩])
 (.block 0 (.loop (.seq (.seq (.region 11 [
  ⟨(some 6), none, .mv (.tmp 0), 0, [], true⟩,
  ⟨(some 7), none, .eq true .ptr (.tmp 6) (.const (.pointer none)), 1, [], true⟩,
  ⟨(some 8), none, .mv (.tmp 7), 2, [], true⟩,
  ⟨(some 9), (some (8, true)), .mv (.tmp 4), 3, [], true⟩,
  ⟨(some 10), (some (8, true)), .mv (.tmp 0), 4, [], true⟩,
  ⟨(some 11), (some (8, true)), .nilCheck (.tmp 10), 5, [], true⟩,
  ⟨(some 12), (some (8, true)), .fieldAddr 7 (.tmp 11), 6, [], true⟩,
  ⟨(some 13), (some (8, true)), .load 1 false (.tmp 12), 7, [], true⟩,
  ⟨(some 14), (some (8, true)), .len false (.tmp 13), 8, [], true⟩,
  ⟨(some 15), (some (8, true)), .bin .lss (.tmp 9) (.tmp 14), 9, [], true⟩,
  ⟨(some 16), none, .pick (.tmp 8) (.tmp 15) (.const (.bool false)), 10, [], true⟩])
 (.cond (.tmp 16) .skip (.exit 0)))
 (.seq (.block 1 (.seq (.region 1 [
  ⟨(some 5), none, .mv (.const (.int .i64 0)), 0, [], true⟩])
 (.seq (.block 2 (.loop (.seq (.seq (.region 26 [
  ⟨(some 19), none, .mv (.tmp 5), 0, [], true⟩,
  ⟨(some 20), none, .mv (.tmp 3), 1, [], false⟩,
  ⟨(some 21), none, .len false (.tmp 20), 2, [], false⟩,
  ⟨(some 22), none, .bin .lss (.tmp 19) (.tmp 21), 3, [], true⟩,
  ⟨(some 23), none, .mv (.tmp 22), 4, [], true⟩,
  ⟨(some 24), (some (23, true)), .mv (.tmp 0), 5, [], true⟩,
  ⟨(some 25), (some (23, true)), .nilCheck (.tmp 24), 6, [], true⟩,
  ⟨(some 26), (some (23, true)), .fieldAddr 7 (.tmp 25), 7, [], true⟩,
  ⟨(some 27), (some (23, true)), .load 1 false (.tmp 26), 8, [], true⟩,
  ⟨(some 28), (some (23, true)), .mv (.tmp 3), 9, [], false⟩,
  ⟨(some 29), (some (23, true)), .mv (.tmp 5), 10, [], false⟩,
  ⟨(some 30), (some (23, true)), .adSl 1 (.tmp 28) (.tmp 29), 11, [], false⟩,
  ⟨(some 31), (some (23, true)), .load 1 false (.tmp 30), 12, [], false⟩,
  ⟨(some 32), (some (23, true)), .adSl 2 (.tmp 27) (.tmp 31), 13, [], true⟩,
  ⟨(some 33), (some (23, true)), .fieldAddr 0 (.tmp 32), 14, [], true⟩,
  ⟨(some 34), (some (23, true)), .load 1 false (.tmp 33), 15, [], true⟩,
  ⟨(some 35), (some (23, true)), .mv (.tmp 0), 16, [], false⟩,
  ⟨(some 36), (some (23, true)), .nilCheck (.tmp 35), 17, [], false⟩,
  ⟨(some 37), (some (23, true)), .fieldAddr 7 (.tmp 36), 18, [], false⟩,
  ⟨(some 38), (some (23, true)), .load 1 false (.tmp 37), 19, [], false⟩,
  ⟨(some 39), (some (23, true)), .mv (.tmp 4), 20, [], false⟩,
  ⟨(some 40), (some (23, true)), .adSl 2 (.tmp 38) (.tmp 39), 21, [], false⟩,
  ⟨(some 41), (some (23, true)), .fieldAddr 0 (.tmp 40), 22, [], false⟩,
  ⟨(some 42), (some (23, true)), .load 1 false (.tmp 41), 23, [], false⟩,
  ⟨(some 43), (some (23, true)), .bin .leq (.tmp 34) (.tmp 42), 24, [], true⟩,
  ⟨(some 44), none, .pick (.tmp 23) (.tmp 43) (.const (.bool false)), 25, [], true⟩])
 (.cond (.tmp 44) .skip (.exit 2)))
 (.block 3 (.region 3 [
  ⟨(some 45), none, .mv (.tmp 5), 0, [], true⟩,
  ⟨(some 46), none, .bin .add (.tmp 45) (.const (.int .i64 1)), 1, [], true⟩,
  ⟨(some 5), none, .mv (.tmp 46), 2, [], true⟩])))))
 (.region 12 [
  ⟨(some 47), none, .mv (.tmp 3), 0, [], true⟩,
  ⟨(some 48), none, .mv (.tmp 5), 1, [], false⟩,
  ⟨(some 49), none, .mv (.tmp 5), 2, [], false⟩,
  ⟨(some 50), none, .slSl 1 (.tmp 47) none (some (.tmp 48)) (some (.tmp 49)), 3, [], true⟩,
  ⟨(some 51), none, .mv (.tmp 4), 4, [], false⟩,
  ⟨(some 52), none, .buildSl 3 1 1 [(.int .i64 0)] [(0, 1, (.tmp 51))], 5, [], false⟩,
  ⟨(some 53), none, .mv (.tmp 3), 6, [], false⟩,
  ⟨(some 54), none, .mv (.tmp 5), 7, [], false⟩,
  ⟨(some 55), none, .slSl 1 (.tmp 53) (some (.tmp 54)) none none, 8, [], false⟩,
  ⟨(some 56), none, .append 3 1 8 (.tmp 52) (.tmp 55), 9, [], false⟩,
  ⟨(some 57), none, .append 3 1 8 (.tmp 50) (.tmp 56), 10, [], true⟩,
  ⟨(some 3), none, .mv (.tmp 57), 11, [], true⟩]))))
 (.region 3 [
  ⟨(some 17), none, .mv (.tmp 4), 0, [], true⟩,
  ⟨(some 18), none, .bin .add (.tmp 17) (.const (.int .i64 1)), 1, [], true⟩,
  ⟨(some 4), none, .mv (.tmp 18), 2, [], true⟩]))))))
 (.seq (.region 2 [
  ⟨(some 58), none, .mv (.tmp 3), 0, [], true⟩,
  ⟨(some 2), none, .mv (.tmp 58), 1, [], true⟩])
 .ret))))⟩

end Ev
