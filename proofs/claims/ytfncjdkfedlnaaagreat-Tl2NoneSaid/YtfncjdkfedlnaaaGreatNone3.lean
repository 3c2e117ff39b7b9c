/- Tl2None: for every deed, every values and number the law returns true, and each argument reads as it did; by an evaluator of the compiled code that is proved sound for the model. Part 3 of 11. -/
import Derived.Test.YtfncjdkfedlnaaaGreatNone2
set_option linter.unusedSimpArgs false
set_option linter.unusedVariables false

/- Compiled functions. -/
namespace Ev
open Go

def m83 : MFn := ⟨59, [(2, none)], (.seq (.region 1 [
  ⟨(some 2), none, .mv (.const (.slice none 0 0)), 0, [], true⟩])
 (.seq (.region 1 [
  ⟨(some 3), none, .mv (.const (.slice none 0 0)), 0, [], true⟩])
 (.seq (.seq (.region 1 [
  ⟨(some 4), none, .mv (.const (.int .i64 0)), 0, [], true⟩])
 (.block 0 (.loop (.seq (.seq (.region 11 [
  ⟨(some 6), none, .mv (.tmp 0), 0, [], true⟩,
  ⟨(some 7), none, .eq true .ptr (.tmp 6) (.const (.pointer none)), 1, [], true⟩,
  ⟨(some 8), none, .mv (.tmp 7), 2, [], true⟩,
  ⟨(some 9), (some (8, true)), .mv (.tmp 4), 3, [], true⟩,
  ⟨(some 10), (some (8, true)), .mv (.tmp 0), 4, [], true⟩,
  ⟨(some 11), (some (8, true)), .nilCheck (.tmp 10), 5, [], true⟩,
  ⟨(some 12), (some (8, true)), .fieldAddr 7 (.tmp 11), 6, [], true⟩,
  ⟨(some 13), (some (8, true)), .load 1 false (.tmp 12), 7, [], true⟩,
  ⟨(some 14), (some (8, true)), .len false (.tmp 13), 8, [], true⟩,
  ⟨(some 15), (some (8, true)), .bin .lss (.tmp 9) (.tmp 14), 9, [], true⟩,
  ⟨(some 16), none, .pick (.tmp 8) (.tmp 15) (.const (.bool false)), 10, [], true⟩])
 (.cond (.tmp 16) .skip (.exit 0)))
 (.seq (.block 1 (.seq (.region 1 [
  ⟨(some 5), none, .mv (.const (.int .i64 0)), 0, [], true⟩])
 (.block 2 (.loop (.seq (.seq (.region 2 [
  ⟨(some 19), none, .mv (.tmp 5), 0, [], true⟩,
  ⟨(some 20), none, .bin .lss (.tmp 19) (.const (.int .i64 4)), 1, [], true⟩])
 (.cond (.tmp 20) .skip (.exit 2)))
 (.seq (.block 3 (.seq (.region 31 [
  ⟨(some 23), none, .mv (.tmp 0), 0, [], true⟩,
  ⟨(some 24), none, .mv (.tmp 5), 1, [], true⟩,
  ⟨(some 25), none, .nilCheck (.tmp 23), 2, [], true⟩,
  ⟨(some 26), none, .fieldAddr 2 (.tmp 25), 3, [], true⟩,
  ⟨(some 27), none, .adArr 4 1 (.tmp 26) (.tmp 24), 4, [], true⟩,
  ⟨(some 28), none, .load 1 false (.tmp 27), 5, [], true⟩,
  ⟨(some 29), none, .eq true .ptr (.tmp 28) (.const (.pointer none)), 6, [], true⟩,
  ⟨(some 30), none, .mv (.tmp 29), 7, [], true⟩,
  ⟨(some 31), (some (30, true)), .mv (.tmp 0), 8, [], true⟩,
  ⟨(some 32), (some (30, true)), .mv (.tmp 5), 9, [], true⟩,
  ⟨(some 33), (some (30, true)), .nilCheck (.tmp 31), 10, [], true⟩,
  ⟨(some 34), (some (30, true)), .fieldAddr 2 (.tmp 33), 11, [], true⟩,
  ⟨(some 35), (some (30, true)), .adArr 4 1 (.tmp 34) (.tmp 32), 12, [], true⟩,
  ⟨(some 36), (some (30, true)), .load 1 false (.tmp 35), 13, [], true⟩,
  ⟨(some 37), (some (30, true)), .nilCheck (.tmp 36), 14, [], true⟩,
  ⟨(some 38), (some (30, true)), .fieldAddr 0 (.tmp 37), 15, [], true⟩,
  ⟨(some 39), (some (30, true)), .load 1 false (.tmp 38), 16, [], true⟩,
  ⟨(some 40), (some (30, true)), .mv (.tmp 4), 17, [], true⟩,
  ⟨(some 41), (some (30, true)), .bin .eql (.tmp 39) (.tmp 40), 18, [], true⟩,
  ⟨(some 42), none, .pick (.tmp 30) (.tmp 41) (.const (.bool false)), 19, [], true⟩,
  ⟨(some 43), none, .mv (.tmp 42), 20, [], true⟩,
  ⟨(some 44), (some (43, true)), .mv (.tmp 0), 21, [], true⟩,
  ⟨(some 45), (some (43, true)), .mv (.tmp 5), 22, [], true⟩,
  ⟨(some 46), (some (43, true)), .nilCheck (.tmp 44), 23, [], true⟩,
  ⟨(some 47), (some (43, true)), .fieldAddr 2 (.tmp 46), 24, [], true⟩,
  ⟨(some 48), (some (43, true)), .adArr 4 1 (.tmp 47) (.tmp 45), 25, [], true⟩,
  ⟨(some 49), (some (43, true)), .load 1 false (.tmp 48), 26, [], true⟩,
  ⟨(some 50), (some (43, true)), .nilCheck (.tmp 49), 27, [], true⟩,
  ⟨(some 51), (some (43, true)), .fieldAddr 13 (.tmp 50), 28, [], true⟩,
  ⟨(some 52), (some (43, true)), .load 1 false (.tmp 51), 29, [], true⟩,
  ⟨(some 53), none, .pick (.tmp 43) (.tmp 52) (.const (.bool false)), 30, [], true⟩])
 (.cond (.tmp 53) (.region 5 [
  ⟨(some 54), none, .mv (.tmp 3), 0, [], true⟩,
  ⟨(some 55), none, .mv (.tmp 4), 1, [], true⟩,
  ⟨(some 56), none, .buildSl 3 1 1 [(.int .i64 0)] [(0, 1, (.tmp 55))], 2, [], true⟩,
  ⟨(some 57), none, .append 3 1 8 (.tmp 54) (.tmp 56), 3, [], true⟩,
  ⟨(some 3), none, .mv (.tmp 57), 4, [], true⟩]) .skip)))
 (.region 3 [
  ⟨(some 21), none, .mv (.tmp 5), 0, [], true⟩,
  ⟨(some 22), none, .bin .add (.tmp 21) (.const (.int .i64 1)), 1, [], true⟩,
  ⟨(some 5), none, .mv (.tmp 22), 2, [], true⟩])))))))
 (.region 3 [
  ⟨(some 17), none, .mv (.tmp 4), 0, [], true⟩,
  ⟨(some 18), none, .bin .add (.tmp 17) (.const (.int .i64 1)), 1, [], true⟩,
  ⟨(some 4), none, .mv (.tmp 18), 2, [], true⟩]))))))
 (.seq (.region 2 [
  ⟨(some 58), none, .mv (.tmp 3), 0, [], true⟩,
  ⟨(some 2), none, .mv (.tmp 58), 1, [], true⟩])
 .ret))))⟩

def m84 : MFn := ⟨10, [(2, none)], (.seq (.region 1 [
  ⟨(some 2), none, .mv (.const (.int .u64 0)), 0, [], true⟩])
 (.seq (.seq (.region 2 [
  ⟨(some 3), none, .mv (.tmp 0), 0, [], true⟩,
  ⟨(some 4), none, .eq false .ptr (.tmp 3) (.const (.pointer none)), 1, [], true⟩])
 (.cond (.tmp 4) (.seq (.region 1 [
  ⟨(some 2), none, .mv (.const (.int .u64 0)), 0, [], true⟩])
 .ret) .skip))
 (.seq (.region 6 [
  ⟨(some 5), none, .mv (.tmp 0), 0, [], true⟩,
  ⟨(some 6), none, .nilCheck (.tmp 5), 1, [], true⟩,
  ⟨(some 7), none, .fieldAddr 1 (.tmp 6), 2, [], true⟩,
  ⟨(some 8), none, .load 1 false (.tmp 7), 3, [], true⟩,
  ⟨(some 9), none, .call (.func 121) [(.tmp 8)], 4, [], true⟩,
  ⟨(some 2), none, .mv (.tmp 9), 5, [], true⟩])
 .ret)))⟩

def m85 : MFn := ⟨4, [(0, none)], (.seq (.region 1 [
  ⟨(some 0), none, .mv (.const (.pointer none)), 0, [], true⟩])
 (.seq (.region 4 [
  ⟨(some 1), none, .makeMap, 0, [], true⟩,
  ⟨(some 2), none, .build [(.slice none 0 0), (.map none)] [(1, 1, (.tmp 1))], 1, [], true⟩,
  ⟨(some 3), none, .box 180 (.tmp 2), 2, [], true⟩,
  ⟨(some 0), none, .mv (.tmp 3), 3, [], true⟩])
 .ret))⟩

def m86 : MFn := ⟨6, [(0, none)], (.seq (.region 1 [
  ⟨(some 0), none, .mv (.const (.pointer none)), 0, [], true⟩])
 (.seq (.region 1 [
  ⟨(some 1), none, .mv (.const (.pointer none)), 0, [], true⟩])
 (.seq (.region 5 [
  ⟨(some 2), none, .mv (.tmp 1), 0, [], true⟩,
  ⟨(some 3), none, .call (.func 137) [(.tmp 2), (.const (.slice none 0 0))], 1, [], true⟩,
  ⟨(some 4), none, .build [(.pointer none), (.int .i64 0)] [(0, 1, (.tmp 3))], 2, [], true⟩,
  ⟨(some 5), none, .box 185 (.tmp 4), 3, [], true⟩,
  ⟨(some 0), none, .mv (.tmp 5), 4, [], true⟩])
 .ret)))⟩

def m87 : MFn := ⟨10, [(2, none)], (.seq (.region 1 [
  ⟨(some 2), none, .mv (.const (.int .u64 0)), 0, [], true⟩])
 (.seq (.seq (.region 2 [
  ⟨(some 3), none, .mv (.tmp 0), 0, [], true⟩,
  ⟨(some 4), none, .eq false .ptr (.tmp 3) (.const (.pointer none)), 1, [], true⟩])
 (.cond (.tmp 4) (.seq (.region 1 [
  ⟨(some 2), none, .mv (.const (.int .u64 0)), 0, [], true⟩])
 .ret) .skip))
 (.seq (.region 6 [
  ⟨(some 5), none, .mv (.tmp 0), 0, [], true⟩,
  ⟨(some 6), none, .nilCheck (.tmp 5), 1, [], true⟩,
  ⟨(some 7), none, .fieldAddr 0 (.tmp 6), 2, [], true⟩,
  ⟨(some 8), none, .fieldAddr 0 (.tmp 7), 3, [], true⟩,
  ⟨(some 9), none, .load 1 false (.tmp 8), 4, [], true⟩,
  ⟨(some 2), none, .mv (.tmp 9), 5, [], true⟩])
 .ret)))⟩

def m88 : MFn := ⟨27, [], (.seq (.region 1 [
  ⟨(some 7), none, .box 138 (.tmp 3), 0, [], true⟩])
 (.region 20 [
  ⟨(some 8), none, .mv (.tmp 0), 0, [], true⟩,
  ⟨(some 9), none, .mv (.tmp 0), 1, [], false⟩,
  ⟨(some 10), none, .nilCheck (.tmp 9), 2, [], false⟩,
  ⟨(some 11), none, .fieldAddr 6 (.tmp 10), 3, [], false⟩,
  ⟨(some 12), none, .load 1 false (.tmp 11), 4, [], false⟩,
  ⟨(some 13), none, .mv (.tmp 1), 5, [], false⟩,
  ⟨(some 14), none, .mv (.tmp 2), 6, [], false⟩,
  ⟨(some 15), none, .nilCheck (.tmp 14), 7, [], false⟩,
  ⟨(some 16), none, .fieldAddr 2 (.tmp 15), 8, [], false⟩,
  ⟨(some 17), none, .load 1 false (.tmp 16), 9, [], false⟩,
  ⟨(some 18), none, .fieldAddr 0 (.tmp 7), 10, [], false⟩,
  ⟨(some 19), none, .load 1 false (.tmp 18), 11, [], false⟩,
  ⟨(some 20), none, .fieldAddr 1 (.tmp 7), 12, [], false⟩,
  ⟨(some 21), none, .load 1 false (.tmp 20), 13, [], false⟩,
  ⟨(some 22), none, .build [(.int .u8 0), (.int .i64 0), (.int .i64 0), (.int .u64 0)] [(0, 1, (.tmp 13)), (1, 1, (.tmp 17)), (2, 1, (.tmp 19)), (3, 1, (.tmp 21))], 14, [], false⟩,
  ⟨(some 23), none, .buildSl 108 4 1 [(.int .u8 0), (.int .i64 0), (.int .i64 0), (.int .u64 0)] [(0, 4, (.tmp 22))], 15, [], false⟩,
  ⟨(some 24), none, .append 108 4 32 (.tmp 12) (.tmp 23), 16, [], false⟩,
  ⟨(some 25), none, .nilCheck (.tmp 8), 17, [], true⟩,
  ⟨(some 26), none, .fieldAddr 6 (.tmp 25), 18, [], true⟩,
  ⟨none, none, .store 1 (.tmp 26) (.tmp 24), 19, [], true⟩]))⟩

def m89 : MFn := ⟨13, [(2, none)], (.seq (.region 1 [
  ⟨(some 2), none, .mv (.const (.bool false)), 0, [], true⟩])
 (.seq (.region 3 [
  ⟨(some 4), none, .mv (.tmp 0), 0, [], true⟩,
  ⟨(some 5), none, .call (.func 138) [(.tmp 4)], 1, [], true⟩,
  ⟨(some 3), none, .mv (.tmp 5), 2, [], true⟩])
 (.seq (.region 8 [
  ⟨(some 6), none, .mv (.tmp 3), 0, [], true⟩,
  ⟨(some 7), none, .mv (.tmp 3), 1, [], true⟩,
  ⟨(some 8), none, .bin .eql (.tmp 6) (.tmp 7), 2, [], true⟩,
  ⟨(some 9), none, .mv (.tmp 8), 3, [], true⟩,
  ⟨(some 10), (some (9, false)), .mv (.tmp 0), 4, [], true⟩,
  ⟨(some 11), (some (9, false)), .bin .eql (.tmp 10) (.const (.int .u64 9221120237041090560)), 5, [], true⟩,
  ⟨(some 12), none, .pick (.tmp 9) (.const (.bool true)) (.tmp 11), 6, [], true⟩,
  ⟨(some 2), none, .mv (.tmp 12), 7, [], true⟩])
 .ret)))⟩

def m90 : MFn := ⟨20, [(4, none)], (.seq (.region 1 [
  ⟨(some 4), none, .mv (.const .nilFunc), 0, [], true⟩])
 (.seq (.seq (.region 1 [
  ⟨(some 5), none, .mv (.tmp 1), 0, [], true⟩])
 (.block 0 (.seq (.region 2 [
  ⟨(some 7), none, .bin .eql (.tmp 5) (.const (.int .u8 1)), 0, [], true⟩,
  ⟨(some 6), none, .mv (.tmp 7), 1, [], true⟩])
 (.cond (.tmp 6) (.seq (.region 3 [
  ⟨(some 8), none, .mv (.tmp 0), 0, [], true⟩,
  ⟨(some 9), none, .func (.func 139) [(.tmp 8)] [], 1, [], true⟩,
  ⟨(some 4), none, .mv (.tmp 9), 2, [], true⟩])
 .ret) (.seq (.region 2 [
  ⟨(some 11), none, .bin .eql (.tmp 5) (.const (.int .u8 6)), 0, [], true⟩,
  ⟨(some 10), none, .mv (.tmp 11), 1, [], true⟩])
 (.cond (.tmp 10) (.seq (.region 3 [
  ⟨(some 12), none, .mv (.tmp 0), 0, [], true⟩,
  ⟨(some 13), none, .func (.func 140) [(.tmp 12)] [], 1, [], true⟩,
  ⟨(some 4), none, .mv (.tmp 13), 2, [], true⟩])
 .ret) (.seq (.region 2 [
  ⟨(some 15), none, .bin .eql (.tmp 5) (.const (.int .u8 7)), 0, [], true⟩,
  ⟨(some 14), none, .mv (.tmp 15), 1, [], true⟩])
 (.cond (.tmp 14) (.seq (.region 3 [
  ⟨(some 16), none, .mv (.tmp 0), 0, [], true⟩,
  ⟨(some 17), none, .func (.func 141) [(.tmp 16)] [], 1, [], true⟩,
  ⟨(some 4), none, .mv (.tmp 17), 2, [], true⟩])
 .ret) .skip))))))))
 (.seq (.region 3 [
  ⟨(some 18), none, .mv (.tmp 0), 0, [], true⟩,
  ⟨(some 19), none, .func (.func 142) [(.tmp 18)] [], 1, [], true⟩,
  ⟨(some 4), none, .mv (.tmp 19), 2, [], true⟩])
 .ret)))⟩

def m91 : MFn := ⟨28, [(2, none)], (.seq (.region 1 [
  ⟨(some 2), none, .mv (.const (.slice none 0 0)), 0, [], true⟩])
 (.seq (.seq (.region 2 [
  ⟨(some 6), none, .mv (.tmp 0), 0, [], true⟩,
  ⟨(some 7), none, .eq false .ptr (.tmp 6) (.const (.pointer none)), 1, [], true⟩])
 (.cond (.tmp 7) (.seq (.region 1 [
  ⟨(some 2), none, .mv (.const (.slice none 0 0)), 0, [], true⟩])
 .ret) .skip))
 (.seq (.region 1 [
  ⟨(some 3), none, .mv (.const (.slice none 0 0)), 0, [], true⟩])
 (.seq (.seq (.region 6 [
  ⟨(some 8), none, .mv (.tmp 0), 0, [], true⟩,
  ⟨(some 9), none, .nilCheck (.tmp 8), 1, [], true⟩,
  ⟨(some 10), none, .fieldAddr 0 (.tmp 9), 2, [], true⟩,
  ⟨(some 11), none, .load 1 false (.tmp 10), 3, [], true⟩,
  ⟨(some 12), none, .len false (.tmp 11), 4, [], true⟩,
  ⟨(some 13), none, .mv (.const (.int .i64 0)), 5, [], true⟩])
 (.block 0 (.loop (.seq (.region 1 [
  ⟨(some 14), none, .bin .lss (.tmp 13) (.tmp 12), 0, [], true⟩])
 (.seq (.cond (.tmp 14) .skip (.exit 0))
 (.seq (.block 1 (.seq (.region 3 [
  ⟨(some 15), none, .adSl 1 (.tmp 11) (.tmp 13), 0, [], true⟩,
  ⟨(some 16), none, .load 1 false (.tmp 15), 1, [], true⟩,
  ⟨(some 5), none, .mv (.tmp 16), 2, [], true⟩])
 (.region 10 [
  ⟨(some 17), none, .mv (.tmp 3), 0, [], true⟩,
  ⟨(some 18), none, .mv (.tmp 0), 1, [], true⟩,
  ⟨(some 19), none, .nilCheck (.tmp 18), 2, [], true⟩,
  ⟨(some 20), none, .fieldAddr 1 (.tmp 19), 3, [], true⟩,
  ⟨(some 21), none, .load 1 false (.tmp 20), 4, [], true⟩,
  ⟨(some 22), none, .mv (.tmp 5), 5, [], true⟩,
  ⟨(some 23), none, .lookup .int (.agg #[(.int .i64 0), (.int .u64 0), (.int .u64 0)]) false (.tmp 21) (.tmp 22), 6, [], true⟩,
  ⟨(some 24), none, .buildSl 182 3 1 [(.int .i64 0), (.int .u64 0), (.int .u64 0)] [(0, 3, (.tmp 23))], 7, [], true⟩,
  ⟨(some 25), none, .append 182 3 24 (.tmp 17) (.tmp 24), 8, [], true⟩,
  ⟨(some 3), none, .mv (.tmp 25), 9, [], true⟩])))
 (.region 2 [
  ⟨(some 26), none, .bin .add (.tmp 13) (.const (.int .i64 1)), 0, [], true⟩,
  ⟨(some 13), none, .mv (.tmp 26), 1, [], true⟩])))))))
 (.seq (.region 2 [
  ⟨(some 27), none, .mv (.tmp 3), 0, [], true⟩,
  ⟨(some 2), none, .mv (.tmp 27), 1, [], true⟩])
 .ret)))))⟩

def m92 : MFn := ⟨25, [(2, none)], (.seq (.region 1 [
  ⟨(some 2), none, .mv (.const (.slice none 0 0)), 0, [], true⟩])
 (.seq (.region 1 [
  ⟨(some 3), none, .mv (.const (.slice none 0 0)), 0, [], true⟩])
 (.seq (.seq (.region 1 [
  ⟨(some 7), none, .mv (.const (.int .i64 0)), 0, [], true⟩])
 (.block 0 (.loop (.seq (.region 1 [
  ⟨(some 8), none, .bin .lss (.tmp 7) (.const (.int .i64 12)), 0, [], true⟩])
 (.seq (.cond (.tmp 8) .skip (.exit 0))
 (.seq (.block 1 (.seq (.region 2 [
  ⟨(some 9), none, .mv (.tmp 7), 0, [], true⟩,
  ⟨(some 4), none, .mv (.tmp 9), 1, [], true⟩])
 (.seq (.region 8 [
  ⟨(some 11), none, .mv (.tmp 0), 0, [], true⟩,
  ⟨(some 12), none, .mv (.tmp 4), 1, [], true⟩,
  ⟨(some 13), none, .call (.func 143) [(.tmp 11), (.tmp 12)], 2, [], true⟩,
  ⟨(some 10), none, .mv (.tmp 13), 3, [], true⟩,
  ⟨(some 14), none, .extract (.tmp 10) 0, 4, [], true⟩,
  ⟨(some 15), none, .extract (.tmp 10) 1, 5, [], true⟩,
  ⟨(some 5), none, .mv (.tmp 14), 6, [], true⟩,
  ⟨(some 6), none, .mv (.tmp 15), 7, [], true⟩])
 (.seq (.region 1 [
  ⟨(some 16), none, .mv (.tmp 6), 0, [], true⟩])
 (.cond (.tmp 16) (.region 7 [
  ⟨(some 17), none, .mv (.tmp 3), 0, [], true⟩,
  ⟨(some 18), none, .mv (.tmp 4), 1, [], true⟩,
  ⟨(some 19), none, .mv (.tmp 5), 2, [], true⟩,
  ⟨(some 20), none, .build [(.int .i64 0), (.int .u64 0)] [(0, 1, (.tmp 18)), (1, 1, (.tmp 19))], 3, [], true⟩,
  ⟨(some 21), none, .buildSl 138 2 1 [(.int .i64 0), (.int .u64 0)] [(0, 2, (.tmp 20))], 4, [], true⟩,
  ⟨(some 22), none, .append 138 2 16 (.tmp 17) (.tmp 21), 5, [], true⟩,
  ⟨(some 3), none, .mv (.tmp 22), 6, [], true⟩]) .skip)))))
 (.region 2 [
  ⟨(some 23), none, .bin .add (.tmp 7) (.const (.int .i64 1)), 0, [], true⟩,
  ⟨(some 7), none, .mv (.tmp 23), 1, [], true⟩])))))))
 (.seq (.region 2 [
  ⟨(some 24), none, .mv (.tmp 3), 0, [], true⟩,
  ⟨(some 2), none, .mv (.tmp 24), 1, [], true⟩])
 .ret))))⟩

def m93 : MFn := ⟨9, [(4, none)], (.seq (.region 1 [
  ⟨(some 4), none, .mv (.const (.bool false)), 0, [], true⟩])
 (.seq (.region 5 [
  ⟨(some 5), none, .mv (.tmp 0), 0, [], true⟩,
  ⟨(some 6), none, .mv (.tmp 1), 1, [], true⟩,
  ⟨(some 7), none, .call (.func 144) [(.tmp 5), (.tmp 6)], 2, [], true⟩,
  ⟨(some 8), none, .bin .geq (.tmp 7) (.const (.int .i64 0)), 3, [], true⟩,
  ⟨(some 4), none, .mv (.tmp 8), 4, [], true⟩])
 .ret))⟩

def m94 : MFn := ⟨14, [(2, none)], (.seq (.region 1 [
  ⟨(some 2), none, .mv (.const (.slice none 0 0)), 0, [], true⟩])
 (.seq (.seq (.region 2 [
  ⟨(some 4), none, .mv (.tmp 0), 0, [], true⟩,
  ⟨(some 5), none, .eq false .ptr (.tmp 4) (.const (.pointer none)), 1, [], true⟩])
 (.cond (.tmp 5) (.seq (.region 1 [
  ⟨(some 2), none, .mv (.const (.slice none 0 0)), 0, [], true⟩])
 .ret) .skip))
 (.seq (.region 6 [
  ⟨(some 6), none, .mv (.tmp 0), 0, [], true⟩,
  ⟨(some 7), none, .nilCheck (.tmp 6), 1, [], true⟩,
  ⟨(some 8), none, .fieldAddr 0 (.tmp 7), 2, [], true⟩,
  ⟨(some 9), none, .load 1 false (.tmp 8), 3, [], true⟩,
  ⟨(some 10), none, .call (.func 118) [(.tmp 9)], 4, [], true⟩,
  ⟨(some 3), none, .mv (.tmp 10), 5, [], true⟩])
 (.seq (.region 2 [
  ⟨(some 11), none, .mv (.tmp 3), 0, [], true⟩,
  ⟨(some 12), none, .call (.func 43) [(.tmp 11)], 1, [], true⟩])
 (.seq (.region 2 [
  ⟨(some 13), none, .mv (.tmp 3), 0, [], true⟩,
  ⟨(some 2), none, .mv (.tmp 13), 1, [], true⟩])
 .ret)))))⟩

def m95 : MFn := ⟨30, [(5, none)], (.seq (.region 1 [
  ⟨(some 5), none, .mv (.const (.bool false)), 0, [], true⟩])
 (.seq (.region 16 [
  ⟨(some 9), none, .load 1 false (.tmp 1), 0, [], true⟩,
  ⟨(some 10), none, .nilCheck (.tmp 9), 1, [], true⟩,
  ⟨(some 11), none, .fieldAddr 0 (.tmp 10), 2, [], true⟩,
  ⟨(some 12), none, .load 1 false (.tmp 11), 3, [], true⟩,
  ⟨(some 13), none, .load 1 false (.tmp 1), 4, [], false⟩,
  ⟨(some 14), none, .nilCheck (.tmp 13), 5, [], false⟩,
  ⟨(some 15), none, .fieldAddr 0 (.tmp 14), 6, [], false⟩,
  ⟨(some 16), none, .load 1 false (.tmp 15), 7, [], false⟩,
  ⟨(some 17), none, .mv (.tmp 0), 8, [], false⟩,
  ⟨(some 18), none, .call (.func 97) [(.tmp 16), (.tmp 17)], 9, [(false, none, none, 0, .load 1 false (.tmp 1)), (false, none, none, 3, .load 1 false (.tmp 11))], false⟩,
  ⟨(some 19), none, .call (.func 96) [(.tmp 12), (.tmp 18)], 10, [], true⟩,
  ⟨(some 8), none, .mv (.tmp 19), 11, [], true⟩,
  ⟨(some 20), none, .extract (.tmp 8) 0, 12, [], true⟩,
  ⟨(some 21), none, .extract (.tmp 8) 1, 13, [], false⟩,
  ⟨(some 6), none, .mv (.tmp 20), 14, [], false⟩,
  ⟨(some 7), none, .mv (.tmp 21), 15, [], true⟩])
 (.seq (.region 9 [
  ⟨(some 22), none, .mv (.tmp 6), 0, [], true⟩,
  ⟨(some 23), none, .load 1 false (.tmp 2), 1, [], false⟩,
  ⟨(some 24), none, .load 1 false (.tmp 3), 2, [], false⟩,
  ⟨(some 25), none, .nilCheck (.tmp 24), 3, [], false⟩,
  ⟨(some 26), none, .fieldAddr 3 (.tmp 25), 4, [], false⟩,
  ⟨(some 27), none, .load 1 false (.tmp 26), 5, [], false⟩,
  ⟨(some 28), none, .call (.func 98) [(.tmp 22), (.tmp 23), (.tmp 27)], 6, [], true⟩,
  ⟨(some 29), none, .un .not (.tmp 28), 7, [], true⟩,
  ⟨(some 5), none, .mv (.tmp 29), 8, [], true⟩])
 .ret)))⟩

def m96 : MFn := ⟨20, [(4, none), (5, none)], (.seq (.region 2 [
  ⟨(some 4), none, .mv (.const (.int .u64 0)), 0, [], true⟩,
  ⟨(some 5), none, .mv (.const (.int .i64 0)), 1, [], true⟩])
 (.seq (.seq (.region 4 [
  ⟨(some 7), none, .mv (.tmp 0), 0, [], true⟩,
  ⟨(some 8), none, .mv (.tmp 1), 1, [], true⟩,
  ⟨(some 9), none, .call (.func 145) [(.tmp 7), (.tmp 8)], 2, [], true⟩,
  ⟨(some 6), none, .mv (.tmp 9), 3, [], true⟩])
 (.seq (.region 2 [
  ⟨(some 10), none, .mv (.tmp 6), 0, [], true⟩,
  ⟨(some 11), none, .bin .neq (.tmp 10) (.const (.int .i64 0)), 1, [], true⟩])
 (.cond (.tmp 11) (.seq (.region 3 [
  ⟨(some 12), none, .mv (.tmp 6), 0, [], true⟩,
  ⟨(some 4), none, .mv (.const (.int .u64 0)), 1, [], true⟩,
  ⟨(some 5), none, .mv (.tmp 12), 2, [], true⟩])
 .ret) .skip)))
 (.seq (.region 9 [
  ⟨(some 13), none, .mv (.tmp 0), 0, [], true⟩,
  ⟨(some 14), none, .nilCheck (.tmp 13), 1, [], true⟩,
  ⟨(some 15), none, .fieldAddr 1 (.tmp 14), 2, [], true⟩,
  ⟨(some 16), none, .load 1 false (.tmp 15), 3, [], true⟩,
  ⟨(some 17), none, .mv (.tmp 1), 4, [], true⟩,
  ⟨(some 18), none, .adSl 1 (.tmp 16) (.tmp 17), 5, [], true⟩,
  ⟨(some 19), none, .load 1 false (.tmp 18), 6, [], true⟩,
  ⟨(some 4), none, .mv (.tmp 19), 7, [], true⟩,
  ⟨(some 5), none, .mv (.const (.int .i64 0)), 8, [], true⟩])
 .ret)))⟩

def m97 : MFn := ⟨24, [(4, none)], (.seq (.region 1 [
  ⟨(some 4), none, .mv (.const (.int .i64 0)), 0, [], true⟩])
 (.seq (.seq (.region 10 [
  ⟨(some 5), none, .mv (.tmp 0), 0, [], true⟩,
  ⟨(some 6), none, .eq false .ptr (.tmp 5) (.const (.pointer none)), 1, [], true⟩,
  ⟨(some 7), none, .mv (.tmp 6), 2, [], true⟩,
  ⟨(some 8), (some (7, false)), .mv (.tmp 1), 3, [], true⟩,
  ⟨(some 9), (some (7, false)), .bin .lss (.tmp 8) (.const (.int .i64 0)), 4, [], true⟩,
  ⟨(some 10), none, .pick (.tmp 7) (.const (.bool true)) (.tmp 9), 5, [], true⟩,
  ⟨(some 11), none, .mv (.tmp 10), 6, [], true⟩,
  ⟨(some 12), (some (11, false)), .mv (.tmp 1), 7, [], true⟩,
  ⟨(some 13), (some (11, false)), .bin .geq (.tmp 12) (.const (.int .i64 12)), 8, [], true⟩,
  ⟨(some 14), none, .pick (.tmp 11) (.const (.bool true)) (.tmp 13), 9, [], true⟩])
 (.cond (.tmp 14) (.seq (.region 1 [
  ⟨(some 4), none, .mv (.const (.int .i64 (-1))), 0, [], true⟩])
 .ret) .skip))
 (.seq (.region 10 [
  ⟨(some 15), none, .mv (.tmp 1), 0, [], true⟩,
  ⟨(some 16), none, .bin .mul (.tmp 15) (.const (.int .i64 5)), 1, [], true⟩,
  ⟨(some 17), none, .bin .add (.tmp 16) (.const (.int .i64 3)), 2, [], true⟩,
  ⟨(some 18), none, .mv (.tmp 0), 3, [], true⟩,
  ⟨(some 19), none, .nilCheck (.tmp 18), 4, [], true⟩,
  ⟨(some 20), none, .fieldAddr 1 (.tmp 19), 5, [], true⟩,
  ⟨(some 21), none, .load 1 false (.tmp 20), 6, [], true⟩,
  ⟨(some 22), none, .len false (.tmp 21), 7, [], true⟩,
  ⟨(some 23), none, .bin .rem (.tmp 17) (.tmp 22), 8, [], true⟩,
  ⟨(some 4), none, .mv (.tmp 23), 9, [], true⟩])
 .ret)))⟩

def m98 : MFn := ⟨32, [(6, none)], (.seq (.region 1 [
  ⟨(some 6), none, .mv (.const (.bool false)), 0, [], true⟩])
 (.seq (.region 8 [
  ⟨(some 10), none, .mv (.tmp 0), 0, [], true⟩,
  ⟨(some 11), none, .call (.func 146) [(.tmp 10)], 1, [], true⟩,
  ⟨(some 9), none, .mv (.tmp 11), 2, [], true⟩,
  ⟨(some 12), none, .extract (.tmp 9) 0, 3, [], true⟩,
  ⟨(some 13), none, .extract (.tmp 9) 1, 4, [], true⟩,
  ⟨(some 7), none, .alloc [(.int .i64 0), (.int .u64 0)] 207, 5, [], true⟩,
  ⟨none, none, .store 2 (.tmp 7) (.tmp 12), 6, [], true⟩,
  ⟨(some 8), none, .mv (.tmp 13), 7, [], true⟩])
 (.seq (.region 19 [
  ⟨(some 14), none, .mv (.tmp 8), 0, [], true⟩,
  ⟨(some 15), none, .mv (.tmp 14), 1, [], true⟩,
  ⟨(some 16), (some (15, true)), .fieldAddr 0 (.tmp 7), 2, [], true⟩,
  ⟨(some 17), (some (15, true)), .load 1 false (.tmp 16), 3, [], true⟩,
  ⟨(some 18), (some (15, true)), .bin .eql (.tmp 17) (.const (.int .i64 (-1))), 4, [], true⟩,
  ⟨(some 19), (some (15, true)), .mv (.tmp 18), 5, [], true⟩,
  ⟨(some 20), (some (19, false)), .fieldAddr 0 (.tmp 7), 6, [], true⟩,
  ⟨(some 21), (some (19, false)), .load 1 false (.tmp 20), 7, [], true⟩,
  ⟨(some 22), (some (19, false)), .mv (.tmp 1), 8, [], true⟩,
  ⟨(some 23), (some (19, false)), .bin .eql (.tmp 21) (.tmp 22), 9, [], true⟩,
  ⟨(some 24), (some (15, true)), .pick (.tmp 19) (.const (.bool true)) (.tmp 23), 10, [], true⟩,
  ⟨(some 25), none, .pick (.tmp 15) (.tmp 24) (.const (.bool false)), 11, [], true⟩,
  ⟨(some 26), none, .mv (.tmp 25), 12, [], true⟩,
  ⟨(some 27), (some (26, true)), .fieldAddr 1 (.tmp 7), 13, [], true⟩,
  ⟨(some 28), (some (26, true)), .load 1 false (.tmp 27), 14, [], true⟩,
  ⟨(some 29), (some (26, true)), .mv (.tmp 2), 15, [], true⟩,
  ⟨(some 30), (some (26, true)), .bin .leq (.tmp 28) (.tmp 29), 16, [], true⟩,
  ⟨(some 31), none, .pick (.tmp 26) (.tmp 30) (.const (.bool false)), 17, [], true⟩,
  ⟨(some 6), none, .mv (.tmp 31), 18, [], true⟩])
 .ret)))⟩

def m99 : MFn := ⟨13, [(2, none)], (.seq (.region 1 [
  ⟨(some 2), none, .mv (.const (.pointer none)), 0, [], true⟩])
 (.seq (.seq (.region 6 [
  ⟨(some 3), none, .mv (.tmp 0), 0, [], true⟩,
  ⟨(some 4), none, .bin .lss (.tmp 3) (.const (.int .i64 1)), 1, [], true⟩,
  ⟨(some 5), none, .mv (.tmp 4), 2, [], true⟩,
  ⟨(some 6), (some (5, false)), .mv (.tmp 0), 3, [], true⟩,
  ⟨(some 7), (some (5, false)), .bin .gtr (.tmp 6) (.const (.int .i64 8)), 4, [], true⟩,
  ⟨(some 8), none, .pick (.tmp 5) (.const (.bool true)) (.tmp 7), 5, [], true⟩])
 (.cond (.tmp 8) (.seq (.region 1 [
  ⟨(some 2), none, .mv (.const (.pointer none)), 0, [], true⟩])
 .ret) .skip))
 (.seq (.region 5 [
  ⟨(some 9), none, .mv (.tmp 0), 0, [], true⟩,
  ⟨(some 10), none, .makeSl 41 8 [(.int .u64 0)] (.tmp 9) (.tmp 9), 1, [], true⟩,
  ⟨(some 11), none, .build [(.int .u64 0), (.slice none 0 0)] [(1, 1, (.tmp 10))], 2, [], true⟩,
  ⟨(some 12), none, .box 175 (.tmp 11), 3, [], true⟩,
  ⟨(some 2), none, .mv (.tmp 12), 4, [], true⟩])
 .ret)))⟩

def m100 : MFn := ⟨6, [(2, none)], (.seq (.region 1 [
  ⟨(some 2), none, .mv (.const (.bool false)), 0, [], true⟩])
 (.seq (.region 4 [
  ⟨(some 3), none, .mv (.tmp 0), 0, [], true⟩,
  ⟨(some 4), none, .call (.func 101) [(.tmp 3)], 1, [], true⟩,
  ⟨(some 5), none, .un .not (.tmp 4), 2, [], true⟩,
  ⟨(some 2), none, .mv (.tmp 5), 3, [], true⟩])
 .ret))⟩

def m101 : MFn := ⟨10, [(2, none)], (.seq (.region 1 [
  ⟨(some 2), none, .mv (.const (.bool false)), 0, [], true⟩])
 (.seq (.region 8 [
  ⟨(some 3), none, .mv (.tmp 0), 0, [], true⟩,
  ⟨(some 4), none, .bin .andNot (.tmp 3) (.const (.int .u64 9223372036854775808)), 1, [], true⟩,
  ⟨(some 5), none, .bin .leq (.tmp 4) (.const (.int .u64 9218868437227405312)), 2, [], true⟩,
  ⟨(some 6), none, .mv (.tmp 5), 3, [], true⟩,
  ⟨(some 7), (some (6, false)), .mv (.tmp 0), 4, [], true⟩,
  ⟨(some 8), (some (6, false)), .bin .eql (.tmp 7) (.const (.int .u64 9221120237041090560)), 5, [], true⟩,
  ⟨(some 9), none, .pick (.tmp 6) (.const (.bool true)) (.tmp 8), 6, [], true⟩,
  ⟨(some 2), none, .mv (.tmp 9), 7, [], true⟩])
 .ret))⟩

def m102 : MFn := ⟨9, [(4, none)], (.seq (.region 1 [
  ⟨(some 4), none, .mv (.const (.bool false)), 0, [], true⟩])
 (.seq (.region 5 [
  ⟨(some 5), none, .mv (.tmp 0), 0, [], true⟩,
  ⟨(some 6), none, .mv (.tmp 1), 1, [], true⟩,
  ⟨(some 7), none, .call (.func 147) [(.tmp 5), (.tmp 6)], 2, [], true⟩,
  ⟨(some 8), none, .bin .geq (.tmp 7) (.const (.int .i64 0)), 3, [], true⟩,
  ⟨(some 4), none, .mv (.tmp 8), 4, [], true⟩])
 .ret))⟩

def m103 : MFn := ⟨24, [(4, none)], (.seq (.region 1 [
  ⟨(some 4), none, .mv (.const (.int .i64 0)), 0, [], true⟩])
 (.seq (.region 4 [
  ⟨(some 8), none, .mv (.tmp 0), 0, [], true⟩,
  ⟨(some 9), none, .mv (.tmp 1), 1, [], true⟩,
  ⟨(some 10), none, .call (.func 44) [(.tmp 8), (.tmp 9)], 2, [], true⟩,
  ⟨(some 5), none, .mv (.tmp 10), 3, [], true⟩])
 (.seq (.seq (.region 3 [
  ⟨(some 11), none, .mv (.tmp 5), 0, [], true⟩,
  ⟨(some 12), none, .len false (.tmp 11), 1, [], true⟩,
  ⟨(some 13), none, .mv (.const (.int .i64 0)), 2, [], true⟩])
 (.block 0 (.loop (.seq (.region 1 [
  ⟨(some 14), none, .bin .lss (.tmp 13) (.tmp 12), 0, [], true⟩])
 (.seq (.cond (.tmp 14) .skip (.exit 0))
 (.seq (.block 1 (.seq (.region 3 [
  ⟨(some 15), none, .adSl 1 (.tmp 11) (.tmp 13), 0, [], true⟩,
  ⟨(some 16), none, .load 1 false (.tmp 15), 1, [], true⟩,
  ⟨(some 7), none, .mv (.tmp 16), 2, [], true⟩])
 (.region 4 [
  ⟨(some 17), none, .mv (.tmp 0), 0, [], true⟩,
  ⟨(some 18), none, .mv (.tmp 1), 1, [], true⟩,
  ⟨(some 19), none, .mv (.tmp 7), 2, [], true⟩,
  ⟨(some 20), none, .call (.func 148) [(.tmp 17), (.tmp 18), (.tmp 19)], 3, [], true⟩])))
 (.region 2 [
  ⟨(some 21), none, .bin .add (.tmp 13) (.const (.int .i64 1)), 0, [], true⟩,
  ⟨(some 13), none, .mv (.tmp 21), 1, [], true⟩])))))))
 (.seq (.region 3 [
  ⟨(some 22), none, .mv (.tmp 5), 0, [], true⟩,
  ⟨(some 23), none, .len false (.tmp 22), 1, [], true⟩,
  ⟨(some 4), none, .mv (.tmp 23), 2, [], true⟩])
 .ret))))⟩

def m104 : MFn := ⟨134, [], (.seq (.region 1 [
  ⟨(some 8), none, .mv (.const (.bool true)), 0, [], true⟩])
 (.seq (.region 1 [
  ⟨(some 9), none, .mv (.const (.bool true)), 0, [], true⟩])
 (.block 0 (.loop (.block 1 (.seq (.region 4 [
  ⟨(some 19), none, .mv (.tmp 2), 0, [], true⟩,
  ⟨(some 20), none, .mv (.tmp 1), 1, [], true⟩,
  ⟨(some 21), none, .bin .sub (.tmp 19) (.tmp 20), 2, [], true⟩,
  ⟨(some 10), none, .mv (.tmp 21), 3, [], true⟩])
 (.seq (.seq (.region 2 [
  ⟨(some 22), none, .mv (.tmp 10), 0, [], true⟩,
  ⟨(some 23), none, .bin .leq (.tmp 22) (.const (.int .i64 12)), 1, [], true⟩])
 (.cond (.tmp 23) (.seq (.region 4 [
  ⟨(some 24), none, .mv (.tmp 0), 0, [], true⟩,
  ⟨(some 25), none, .mv (.tmp 1), 1, [], true⟩,
  ⟨(some 26), none, .mv (.tmp 2), 2, [], true⟩,
  ⟨(some 27), none, .call (.func 149) [(.tmp 24), (.tmp 25), (.tmp 26)], 3, [], true⟩])
 .ret) .skip))
 (.seq (.seq (.region 2 [
  ⟨(some 28), none, .mv (.tmp 3), 0, [], true⟩,
  ⟨(some 29), none, .bin .eql (.tmp 28) (.const (.int .i64 0)), 1, [], true⟩])
 (.cond (.tmp 29) (.seq (.region 4 [
  ⟨(some 30), none, .mv (.tmp 0), 0, [], true⟩,
  ⟨(some 31), none, .mv (.tmp 1), 1, [], true⟩,
  ⟨(some 32), none, .mv (.tmp 2), 2, [], true⟩,
  ⟨(some 33), none, .call (.func 150) [(.tmp 30), (.tmp 31), (.tmp 32)], 3, [], true⟩])
 .ret) .skip))
 (.seq (.seq (.region 2 [
  ⟨(some 34), none, .mv (.tmp 8), 0, [], true⟩,
  ⟨(some 35), none, .un .not (.tmp 34), 1, [], true⟩])
 (.cond (.tmp 35) (.seq (.region 4 [
  ⟨(some 36), none, .mv (.tmp 0), 0, [], true⟩,
  ⟨(some 37), none, .mv (.tmp 1), 1, [], true⟩,
  ⟨(some 38), none, .mv (.tmp 2), 2, [], true⟩,
  ⟨(some 39), none, .call (.func 151) [(.tmp 36), (.tmp 37), (.tmp 38)], 3, [], true⟩])
 (.region 3 [
  ⟨(some 40), none, .mv (.tmp 3), 0, [], true⟩,
  ⟨(some 41), none, .bin .sub (.tmp 40) (.const (.int .i64 1)), 1, [], true⟩,
  ⟨(some 3), none, .mv (.tmp 41), 2, [], true⟩])) .skip))
 (.seq (.region 9 [
  ⟨(some 43), none, .mv (.tmp 0), 0, [], true⟩,
  ⟨(some 44), none, .mv (.tmp 1), 1, [], true⟩,
  ⟨(some 45), none, .mv (.tmp 2), 2, [], true⟩,
  ⟨(some 46), none, .call (.func 152) [(.tmp 43), (.tmp 44), (.tmp 45)], 3, [], true⟩,
  ⟨(some 42), none, .mv (.tmp 46), 4, [], true⟩,
  ⟨(some 47), none, .extract (.tmp 42) 0, 5, [], true⟩,
  ⟨(some 48), none, .extract (.tmp 42) 1, 6, [], true⟩,
  ⟨(some 11), none, .mv (.tmp 47), 7, [], true⟩,
  ⟨(some 12), none, .mv (.tmp 48), 8, [], true⟩])
 (.seq (.seq (.region 2 [
  ⟨(some 49), none, .mv (.tmp 12), 0, [], true⟩,
  ⟨(some 50), none, .bin .eql (.tmp 49) (.const (.int .i64 2)), 1, [], true⟩])
 (.cond (.tmp 50) (.seq (.region 4 [
  ⟨(some 51), none, .mv (.tmp 0), 0, [], true⟩,
  ⟨(some 52), none, .mv (.tmp 1), 1, [], true⟩,
  ⟨(some 53), none, .mv (.tmp 2), 2, [], true⟩,
  ⟨(some 54), none, .call (.func 153) [(.tmp 51), (.tmp 52), (.tmp 53)], 3, [], true⟩])
 (.seq (.region 7 [
  ⟨(some 55), none, .mv (.tmp 2), 0, [], true⟩,
  ⟨(some 56), none, .bin .sub (.tmp 55) (.const (.int .i64 1)), 1, [], true⟩,
  ⟨(some 57), none, .mv (.tmp 11), 2, [], true⟩,
  ⟨(some 58), none, .mv (.tmp 1), 3, [], true⟩,
  ⟨(some 59), none, .bin .sub (.tmp 57) (.tmp 58), 4, [], true⟩,
  ⟨(some 60), none, .bin .sub (.tmp 56) (.tmp 59), 5, [], true⟩,
  ⟨(some 11), none, .mv (.tmp 60), 6, [], true⟩])
 (.region 1 [
  ⟨(some 12), none, .mv (.const (.int .i64 1)), 0, [], true⟩]))) .skip))
 (.seq (.seq (.region 8 [
  ⟨(some 61), none, .mv (.tmp 8), 0, [], true⟩,
  ⟨(some 62), none, .mv (.tmp 61), 1, [], true⟩,
  ⟨(some 63), (some (62, true)), .mv (.tmp 9), 2, [], true⟩,
  ⟨(some 64), none, .pick (.tmp 62) (.tmp 63) (.const (.bool false)), 3, [], true⟩,
  ⟨(some 65), none, .mv (.tmp 64), 4, [], true⟩,
  ⟨(some 66), (some (65, true)), .mv (.tmp 12), 5, [], true⟩,
  ⟨(some 67), (some (65, true)), .bin .eql (.tmp 66) (.const (.int .i64 1)), 6, [], true⟩,
  ⟨(some 68), none, .pick (.tmp 65) (.tmp 67) (.const (.bool false)), 7, [], true⟩])
 (.cond (.tmp 68) (.seq (.region 4 [
  ⟨(some 69), none, .mv (.tmp 0), 0, [], true⟩,
  ⟨(some 70), none, .mv (.tmp 1), 1, [], true⟩,
  ⟨(some 71), none, .mv (.tmp 2), 2, [], true⟩,
  ⟨(some 72), none, .call (.func 154) [(.tmp 69), (.tmp 70), (.tmp 71)], 3, [], true⟩])
 (.cond (.tmp 72) .ret .skip)) .skip))
 (.seq (.seq (.region 15 [
  ⟨(some 73), none, .mv (.tmp 1), 0, [], true⟩,
  ⟨(some 74), none, .bin .gtr (.tmp 73) (.const (.int .i64 0)), 1, [], true⟩,
  ⟨(some 75), none, .mv (.tmp 74), 2, [], true⟩,
  ⟨(some 76), (some (75, true)), .mv (.tmp 0), 3, [], true⟩,
  ⟨(some 77), (some (75, true)), .mv (.tmp 1), 4, [], false⟩,
  ⟨(some 78), (some (75, true)), .bin .sub (.tmp 77) (.const (.int .i64 1)), 5, [], false⟩,
  ⟨(some 79), (some (75, true)), .adSl 1 (.tmp 76) (.tmp 78), 6, [], true⟩,
  ⟨(some 80), (some (75, true)), .load 1 false (.tmp 79), 7, [], true⟩,
  ⟨(some 81), (some (75, true)), .mv (.tmp 0), 8, [], false⟩,
  ⟨(some 82), (some (75, true)), .mv (.tmp 11), 9, [], false⟩,
  ⟨(some 83), (some (75, true)), .adSl 1 (.tmp 81) (.tmp 82), 10, [], false⟩,
  ⟨(some 84), (some (75, true)), .load 1 false (.tmp 83), 11, [], false⟩,
  ⟨(some 85), (some (75, true)), .call (.func 155) [(.tmp 80), (.tmp 84)], 12, [], true⟩,
  ⟨(some 86), (some (75, true)), .un .not (.tmp 85), 13, [], true⟩,
  ⟨(some 87), none, .pick (.tmp 75) (.tmp 86) (.const (.bool false)), 14, [], true⟩])
 (.cond (.tmp 87) (.seq (.region 6 [
  ⟨(some 88), none, .mv (.tmp 0), 0, [], true⟩,
  ⟨(some 89), none, .mv (.tmp 1), 1, [], true⟩,
  ⟨(some 90), none, .mv (.tmp 2), 2, [], true⟩,
  ⟨(some 91), none, .mv (.tmp 11), 3, [], true⟩,
  ⟨(some 92), none, .call (.func 156) [(.tmp 88), (.tmp 89), (.tmp 90), (.tmp 91)], 4, [], true⟩,
  ⟨(some 13), none, .mv (.tmp 92), 5, [], true⟩])
 (.seq (.region 2 [
  ⟨(some 93), none, .mv (.tmp 13), 0, [], true⟩,
  ⟨(some 1), none, .mv (.tmp 93), 1, [], true⟩])
 (.exit 1))) .skip))
 (.seq (.region 10 [
  ⟨(some 95), none, .mv (.tmp 0), 0, [], true⟩,
  ⟨(some 96), none, .mv (.tmp 1), 1, [], true⟩,
  ⟨(some 97), none, .mv (.tmp 2), 2, [], true⟩,
  ⟨(some 98), none, .mv (.tmp 11), 3, [], true⟩,
  ⟨(some 99), none, .call (.func 157) [(.tmp 95), (.tmp 96), (.tmp 97), (.tmp 98)], 4, [], true⟩,
  ⟨(some 94), none, .mv (.tmp 99), 5, [], true⟩,
  ⟨(some 100), none, .extract (.tmp 94) 0, 6, [], true⟩,
  ⟨(some 101), none, .extract (.tmp 94) 1, 7, [], true⟩,
  ⟨(some 14), none, .mv (.tmp 100), 8, [], true⟩,
  ⟨(some 15), none, .mv (.tmp 101), 9, [], true⟩])
 (.seq (.region 2 [
  ⟨(some 102), none, .mv (.tmp 15), 0, [], true⟩,
  ⟨(some 9), none, .mv (.tmp 102), 1, [], true⟩])
 (.seq (.region 8 [
  ⟨(some 103), none, .mv (.tmp 14), 0, [], true⟩,
  ⟨(some 104), none, .mv (.tmp 1), 1, [], true⟩,
  ⟨(some 105), none, .bin .sub (.tmp 103) (.tmp 104), 2, [], true⟩,
  ⟨(some 106), none, .mv (.tmp 2), 3, [], true⟩,
  ⟨(some 107), none, .mv (.tmp 14), 4, [], true⟩,
  ⟨(some 108), none, .bin .sub (.tmp 106) (.tmp 107), 5, [], true⟩,
  ⟨(some 16), none, .mv (.tmp 105), 6, [], true⟩,
  ⟨(some 17), none, .mv (.tmp 108), 7, [], true⟩])
 (.seq (.region 3 [
  ⟨(some 109), none, .mv (.tmp 10), 0, [], true⟩,
  ⟨(some 110), none, .bin .quo (.tmp 109) (.const (.int .i64 8)), 1, [], true⟩,
  ⟨(some 18), none, .mv (.tmp 110), 2, [], true⟩])
 (.seq (.region 3 [
  ⟨(some 111), none, .mv (.tmp 16), 0, [], true⟩,
  ⟨(some 112), none, .mv (.tmp 17), 1, [], true⟩,
  ⟨(some 113), none, .bin .lss (.tmp 111) (.tmp 112), 2, [], true⟩])
 (.cond (.tmp 113) (.seq (.region 4 [
  ⟨(some 114), none, .mv (.tmp 16), 0, [], true⟩,
  ⟨(some 115), none, .mv (.tmp 18), 1, [], true⟩,
  ⟨(some 116), none, .bin .geq (.tmp 114) (.tmp 115), 2, [], true⟩,
  ⟨(some 8), none, .mv (.tmp 116), 3, [], true⟩])
 (.seq (.region 5 [
  ⟨(some 117), none, .mv (.tmp 0), 0, [], true⟩,
  ⟨(some 118), none, .mv (.tmp 1), 1, [], true⟩,
  ⟨(some 119), none, .mv (.tmp 14), 2, [], true⟩,
  ⟨(some 120), none, .mv (.tmp 3), 3, [], true⟩,
  ⟨(some 121), none, .call (.func 104) [(.tmp 117), (.tmp 118), (.tmp 119), (.tmp 120)], 4, [], true⟩])
 (.region 3 [
  ⟨(some 122), none, .mv (.tmp 14), 0, [], true⟩,
  ⟨(some 123), none, .bin .add (.tmp 122) (.const (.int .i64 1)), 1, [], true⟩,
  ⟨(some 1), none, .mv (.tmp 123), 2, [], true⟩]))) (.seq (.region 4 [
  ⟨(some 124), none, .mv (.tmp 17), 0, [], true⟩,
  ⟨(some 125), none, .mv (.tmp 18), 1, [], true⟩,
  ⟨(some 126), none, .bin .geq (.tmp 124) (.tmp 125), 2, [], true⟩,
  ⟨(some 8), none, .mv (.tmp 126), 3, [], true⟩])
 (.seq (.region 6 [
  ⟨(some 127), none, .mv (.tmp 0), 0, [], true⟩,
  ⟨(some 128), none, .mv (.tmp 14), 1, [], true⟩,
  ⟨(some 129), none, .bin .add (.tmp 128) (.const (.int .i64 1)), 2, [], true⟩,
  ⟨(some 130), none, .mv (.tmp 2), 3, [], true⟩,
  ⟨(some 131), none, .mv (.tmp 3), 4, [], true⟩,
  ⟨(some 132), none, .call (.func 104) [(.tmp 127), (.tmp 129), (.tmp 130), (.tmp 131)], 5, [], true⟩])
 (.region 2 [
  ⟨(some 133), none, .mv (.tmp 14), 0, [], true⟩,
  ⟨(some 2), none, .mv (.tmp 133), 1, [], true⟩]))))))))))))))))))))))⟩

def m105 : MFn := ⟨8, [(2, none)], (.seq (.region 1 [
  ⟨(some 2), none, .mv (.const (.int .i64 0)), 0, [], true⟩])
 (.seq (.cond (.const (.bool false)) (.seq (.region 4 [
  ⟨(some 3), none, .mv (.tmp 0), 0, [], true⟩,
  ⟨(some 4), none, .conv .u32 (.tmp 3), 1, [], true⟩,
  ⟨(some 5), none, .call (.func 158) [(.tmp 4)], 2, [], true⟩,
  ⟨(some 2), none, .mv (.tmp 5), 3, [], true⟩])
 .ret) .skip)
 (.seq (.region 3 [
  ⟨(some 6), none, .mv (.tmp 0), 0, [], true⟩,
  ⟨(some 7), none, .call (.func 159) [(.tmp 6)], 1, [], true⟩,
  ⟨(some 2), none, .mv (.tmp 7), 2, [], true⟩])
 .ret)))⟩

def m106 : MFn := ⟨6, [(4, none)], (.seq (.region 3 [
  ⟨(some 2), none, .box 89 (.tmp 0), 0, [], true⟩,
  ⟨(some 3), none, .box 3 (.tmp 1), 1, [], true⟩,
  ⟨(some 4), none, .mv (.const .nilFunc), 2, [], true⟩])
 (.seq (.region 2 [
  ⟨(some 5), none, .func (.func 160) [] [(.tmp 2), (.tmp 3)], 0, [], true⟩,
  ⟨(some 4), none, .mv (.tmp 5), 1, [], true⟩])
 .ret))⟩

def m107 : MFn := ⟨9, [(2, none)], (.seq (.region 1 [
  ⟨(some 2), none, .mv (.const (.int .i64 0)), 0, [], true⟩])
 (.seq (.seq (.region 2 [
  ⟨(some 3), none, .mv (.tmp 0), 0, [], true⟩,
  ⟨(some 4), none, .eq false .ptr (.tmp 3) (.const (.pointer none)), 1, [], true⟩])
 (.cond (.tmp 4) (.seq (.region 1 [
  ⟨(some 2), none, .mv (.const (.int .i64 0)), 0, [], true⟩])
 .ret) .skip))
 (.seq (.region 5 [
  ⟨(some 5), none, .mv (.tmp 0), 0, [], true⟩,
  ⟨(some 6), none, .nilCheck (.tmp 5), 1, [], true⟩,
  ⟨(some 7), none, .fieldAddr 1 (.tmp 6), 2, [], true⟩,
  ⟨(some 8), none, .load 1 false (.tmp 7), 3, [], true⟩,
  ⟨(some 2), none, .mv (.tmp 8), 4, [], true⟩])
 .ret)))⟩

def m108 : MFn := ⟨17, [(2, none)], (.seq (.region 1 [
  ⟨(some 2), none, .mv (.const (.bool false)), 0, [], true⟩])
 (.seq (.seq (.region 3 [
  ⟨(some 4), none, .mv (.tmp 0), 0, [], true⟩,
  ⟨(some 5), none, .len false (.tmp 4), 1, [], true⟩,
  ⟨(some 6), none, .bin .gtr (.tmp 5) (.const (.int .i64 400)), 2, [], true⟩])
 (.cond (.tmp 6) (.seq (.region 1 [
  ⟨(some 2), none, .mv (.const (.bool false)), 0, [], true⟩])
 .ret) .skip))
 (.seq (.seq (.region 1 [
  ⟨(some 3), none, .mv (.const (.int .i64 0)), 0, [], true⟩])
 (.block 0 (.loop (.seq (.seq (.region 4 [
  ⟨(some 7), none, .mv (.tmp 3), 0, [], true⟩,
  ⟨(some 8), none, .mv (.tmp 0), 1, [], true⟩,
  ⟨(some 9), none, .len false (.tmp 8), 2, [], true⟩,
  ⟨(some 10), none, .bin .lss (.tmp 7) (.tmp 9), 3, [], true⟩])
 (.cond (.tmp 10) .skip (.exit 0)))
 (.seq (.block 1 (.seq (.region 4 [
  ⟨(some 13), none, .mv (.tmp 0), 0, [], true⟩,
  ⟨(some 14), none, .mv (.tmp 3), 1, [], true⟩,
  ⟨(some 15), none, .call (.func 162) [(.tmp 13), (.tmp 14)], 2, [], true⟩,
  ⟨(some 16), none, .un .not (.tmp 15), 3, [], true⟩])
 (.cond (.tmp 16) (.seq (.region 1 [
  ⟨(some 2), none, .mv (.const (.bool false)), 0, [], true⟩])
 .ret) .skip)))
 (.region 3 [
  ⟨(some 11), none, .mv (.tmp 3), 0, [], true⟩,
  ⟨(some 12), none, .bin .add (.tmp 11) (.const (.int .i64 1)), 1, [], true⟩,
  ⟨(some 3), none, .mv (.tmp 12), 2, [], true⟩]))))))
 (.seq (.region 1 [
  ⟨(some 2), none, .mv (.const (.bool true)), 0, [], true⟩])
 .ret))))⟩

def m109 : MFn := ⟨38, [(4, none)], (.seq (.region 1 [
  ⟨(some 4), none, .mv (.const (.int .u8 0)), 0, [], true⟩])
 (.seq (.seq (.region 6 [
  ⟨(some 7), none, .mv (.tmp 0), 0, [], true⟩,
  ⟨(some 8), none, .mv (.tmp 0), 1, [], true⟩,
  ⟨(some 9), none, .len false (.tmp 8), 2, [], true⟩,
  ⟨(some 10), none, .mv (.tmp 1), 3, [], true⟩,
  ⟨(some 11), none, .call (.func 110) [(.tmp 7), (.tmp 9), (.tmp 10), (.const (.int .u8 1))], 4, [], true⟩,
  ⟨(some 12), none, .un .not (.tmp 11), 5, [], true⟩])
 (.cond (.tmp 12) (.seq (.region 1 [
  ⟨(some 4), none, .mv (.const (.int .u8 0)), 0, [], true⟩])
 .ret) .skip))
 (.seq (.region 1 [
  ⟨(some 5), none, .mv (.const (.int .u8 1)), 0, [], true⟩])
 (.seq (.seq (.region 1 [
  ⟨(some 6), none, .mv (.const (.int .i64 0)), 0, [], true⟩])
 (.block 0 (.loop (.seq (.seq (.region 4 [
  ⟨(some 13), none, .mv (.tmp 6), 0, [], true⟩,
  ⟨(some 14), none, .mv (.tmp 0), 1, [], true⟩,
  ⟨(some 15), none, .len false (.tmp 14), 2, [], true⟩,
  ⟨(some 16), none, .bin .lss (.tmp 13) (.tmp 15), 3, [], true⟩])
 (.cond (.tmp 16) .skip (.exit 0)))
 (.seq (.block 1 (.seq (.seq (.region 7 [
  ⟨(some 19), none, .mv (.tmp 0), 0, [], true⟩,
  ⟨(some 20), none, .mv (.tmp 6), 1, [], true⟩,
  ⟨(some 21), none, .adSl 4 (.tmp 19) (.tmp 20), 2, [], true⟩,
  ⟨(some 22), none, .fieldAddr 1 (.tmp 21), 3, [], true⟩,
  ⟨(some 23), none, .load 1 false (.tmp 22), 4, [], true⟩,
  ⟨(some 24), none, .mv (.tmp 1), 5, [], true⟩,
  ⟨(some 25), none, .bin .neq (.tmp 23) (.tmp 24), 6, [], true⟩])
 (.cond (.tmp 25) (.exit 1) .skip))
 (.seq (.region 5 [
  ⟨(some 26), none, .mv (.tmp 0), 0, [], true⟩,
  ⟨(some 27), none, .mv (.tmp 6), 1, [], true⟩,
  ⟨(some 28), none, .adSl 4 (.tmp 26) (.tmp 27), 2, [], true⟩,
  ⟨(some 29), none, .fieldAddr 0 (.tmp 28), 3, [], true⟩,
  ⟨(some 30), none, .load 1 false (.tmp 29), 4, [], true⟩])
 (.block 2 (.seq (.region 2 [
  ⟨(some 32), none, .bin .eql (.tmp 30) (.const (.int .u8 7)), 0, [], true⟩,
  ⟨(some 31), none, .mv (.tmp 32), 1, [], true⟩])
 (.cond (.tmp 31) (.region 1 [
  ⟨(some 5), none, .mv (.const (.int .u8 2)), 0, [], true⟩]) (.seq (.region 2 [
  ⟨(some 34), none, .bin .eql (.tmp 30) (.const (.int .u8 8)), 0, [], true⟩,
  ⟨(some 33), none, .mv (.tmp 34), 1, [], true⟩])
 (.cond (.tmp 33) (.region 1 [
  ⟨(some 5), none, .mv (.const (.int .u8 3)), 0, [], true⟩]) (.seq (.region 2 [
  ⟨(some 36), none, .bin .eql (.tmp 30) (.const (.int .u8 9)), 0, [], true⟩,
  ⟨(some 35), none, .mv (.tmp 36), 1, [], true⟩])
 (.cond (.tmp 35) (.region 1 [
  ⟨(some 5), none, .mv (.const (.int .u8 4)), 0, [], true⟩]) .skip))))))))))
 (.region 3 [
  ⟨(some 17), none, .mv (.tmp 6), 0, [], true⟩,
  ⟨(some 18), none, .bin .add (.tmp 17) (.const (.int .i64 1)), 1, [], true⟩,
  ⟨(some 6), none, .mv (.tmp 18), 2, [], true⟩]))))))
 (.seq (.region 2 [
  ⟨(some 37), none, .mv (.tmp 5), 0, [], true⟩,
  ⟨(some 4), none, .mv (.tmp 37), 1, [], true⟩])
 .ret)))))⟩

def m110 : MFn := ⟨31, [(8, none)], (.seq (.region 1 [
  ⟨(some 8), none, .mv (.const (.bool false)), 0, [], true⟩])
 (.seq (.seq (.region 1 [
  ⟨(some 9), none, .mv (.const (.int .i64 0)), 0, [], true⟩])
 (.block 0 (.loop (.seq (.seq (.region 3 [
  ⟨(some 10), none, .mv (.tmp 9), 0, [], true⟩,
  ⟨(some 11), none, .mv (.tmp 1), 1, [], true⟩,
  ⟨(some 12), none, .bin .lss (.tmp 10) (.tmp 11), 2, [], true⟩])
 (.cond (.tmp 12) .skip (.exit 0)))
 (.seq (.block 1 (.seq (.region 16 [
  ⟨(some 15), none, .mv (.tmp 0), 0, [], true⟩,
  ⟨(some 16), none, .mv (.tmp 9), 1, [], true⟩,
  ⟨(some 17), none, .adSl 4 (.tmp 15) (.tmp 16), 2, [], true⟩,
  ⟨(some 18), none, .fieldAddr 1 (.tmp 17), 3, [], true⟩,
  ⟨(some 19), none, .load 1 false (.tmp 18), 4, [], true⟩,
  ⟨(some 20), none, .mv (.tmp 2), 5, [], true⟩,
  ⟨(some 21), none, .bin .eql (.tmp 19) (.tmp 20), 6, [], true⟩,
  ⟨(some 22), none, .mv (.tmp 21), 7, [], true⟩,
  ⟨(some 23), (some (22, true)), .mv (.tmp 0), 8, [], true⟩,
  ⟨(some 24), (some (22, true)), .mv (.tmp 9), 9, [], true⟩,
  ⟨(some 25), (some (22, true)), .adSl 4 (.tmp 23) (.tmp 24), 10, [], true⟩,
  ⟨(some 26), (some (22, true)), .fieldAddr 0 (.tmp 25), 11, [], true⟩,
  ⟨(some 27), (some (22, true)), .load 1 false (.tmp 26), 12, [], true⟩,
  ⟨(some 28), (some (22, true)), .mv (.tmp 3), 13, [], true⟩,
  ⟨(some 29), (some (22, true)), .bin .eql (.tmp 27) (.tmp 28), 14, [], true⟩,
  ⟨(some 30), none, .pick (.tmp 22) (.tmp 29) (.const (.bool false)), 15, [], true⟩])
 (.cond (.tmp 30) (.seq (.region 1 [
  ⟨(some 8), none, .mv (.const (.bool true)), 0, [], true⟩])
 .ret) .skip)))
 (.region 3 [
  ⟨(some 13), none, .mv (.tmp 9), 0, [], true⟩,
  ⟨(some 14), none, .bin .add (.tmp 13) (.const (.int .i64 1)), 1, [], true⟩,
  ⟨(some 9), none, .mv (.tmp 14), 2, [], true⟩]))))))
 (.seq (.region 1 [
  ⟨(some 8), none, .mv (.const (.bool false)), 0, [], true⟩])
 .ret)))⟩

def m111 : MFn := ⟨39, [(6, none)], (.seq (.region 1 [
  ⟨(some 6), none, .mv (.const (.bool false)), 0, [], true⟩])
 (.seq (.seq (.region 1 [
  ⟨(some 7), none, .mv (.const (.int .i64 0)), 0, [], true⟩])
 (.block 0 (.loop (.seq (.seq (.region 4 [
  ⟨(some 8), none, .mv (.tmp 7), 0, [], true⟩,
  ⟨(some 9), none, .mv (.tmp 0), 1, [], true⟩,
  ⟨(some 10), none, .len false (.tmp 9), 2, [], true⟩,
  ⟨(some 11), none, .bin .lss (.tmp 8) (.tmp 10), 3, [], true⟩])
 (.cond (.tmp 11) .skip (.exit 0)))
 (.seq (.block 1 (.seq (.region 15 [
  ⟨(some 14), none, .mv (.tmp 0), 0, [], true⟩,
  ⟨(some 15), none, .mv (.tmp 7), 1, [], true⟩,
  ⟨(some 16), none, .adSl 4 (.tmp 14) (.tmp 15), 2, [], true⟩,
  ⟨(some 17), none, .fieldAddr 0 (.tmp 16), 3, [], true⟩,
  ⟨(some 18), none, .load 1 false (.tmp 17), 4, [], true⟩,
  ⟨(some 19), none, .bin .eql (.tmp 18) (.const (.int .u8 1)), 5, [], true⟩,
  ⟨(some 20), none, .mv (.tmp 19), 6, [], true⟩,
  ⟨(some 21), (some (20, true)), .mv (.tmp 0), 7, [], true⟩,
  ⟨(some 22), (some (20, true)), .mv (.tmp 7), 8, [], true⟩,
  ⟨(some 23), (some (20, true)), .adSl 4 (.tmp 21) (.tmp 22), 9, [], true⟩,
  ⟨(some 24), (some (20, true)), .fieldAddr 1 (.tmp 23), 10, [], true⟩,
  ⟨(some 25), (some (20, true)), .load 1 false (.tmp 24), 11, [], true⟩,
  ⟨(some 26), (some (20, true)), .mv (.tmp 2), 12, [], true⟩,
  ⟨(some 27), (some (20, true)), .bin .eql (.tmp 25) (.tmp 26), 13, [], true⟩,
  ⟨(some 28), none, .pick (.tmp 20) (.tmp 27) (.const (.bool false)), 14, [], true⟩])
 (.cond (.tmp 28) (.seq (.region 11 [
  ⟨(some 29), none, .mv (.tmp 0), 0, [], true⟩,
  ⟨(some 30), none, .mv (.tmp 7), 1, [], true⟩,
  ⟨(some 31), none, .mv (.tmp 1), 2, [], true⟩,
  ⟨(some 32), none, .call (.func 110) [(.tmp 29), (.tmp 30), (.tmp 31), (.const (.int .u8 8))], 3, [], true⟩,
  ⟨(some 33), none, .mv (.tmp 32), 4, [], true⟩,
  ⟨(some 34), (some (33, false)), .mv (.tmp 0), 5, [], true⟩,
  ⟨(some 35), (some (33, false)), .mv (.tmp 7), 6, [], true⟩,
  ⟨(some 36), (some (33, false)), .mv (.tmp 1), 7, [], true⟩,
  ⟨(some 37), (some (33, false)), .call (.func 110) [(.tmp 34), (.tmp 35), (.tmp 36), (.const (.int .u8 9))], 8, [], true⟩,
  ⟨(some 38), none, .pick (.tmp 33) (.const (.bool true)) (.tmp 37), 9, [], true⟩,
  ⟨(some 6), none, .mv (.tmp 38), 10, [], true⟩])
 .ret) .skip)))
 (.region 3 [
  ⟨(some 12), none, .mv (.tmp 7), 0, [], true⟩,
  ⟨(some 13), none, .bin .add (.tmp 12) (.const (.int .i64 1)), 1, [], true⟩,
  ⟨(some 7), none, .mv (.tmp 13), 2, [], true⟩]))))))
 (.seq (.region 1 [
  ⟨(some 6), none, .mv (.const (.bool false)), 0, [], true⟩])
 .ret)))⟩

def m112 : MFn := ⟨88, [(8, none)], (.seq (.region 1 [
  ⟨(some 8), none, .mv (.const (.bool false)), 0, [], true⟩])
 (.seq (.region 8 [
  ⟨(some 14), none, .mv (.tmp 0), 0, [], true⟩,
  ⟨(some 15), none, .mv (.tmp 2), 1, [], true⟩,
  ⟨(some 16), none, .call (.func 163) [(.tmp 14), (.tmp 15)], 2, [], true⟩,
  ⟨(some 17), none, .mv (.tmp 0), 3, [], true⟩,
  ⟨(some 18), none, .mv (.tmp 2), 4, [], true⟩,
  ⟨(some 19), none, .call (.func 164) [(.tmp 17), (.tmp 18)], 5, [], true⟩,
  ⟨(some 9), none, .mv (.tmp 16), 6, [], true⟩,
  ⟨(some 10), none, .mv (.tmp 19), 7, [], true⟩])
 (.seq (.seq (.region 1 [
  ⟨(some 11), none, .mv (.const (.int .i64 0)), 0, [], true⟩])
 (.block 0 (.loop (.seq (.seq (.region 4 [
  ⟨(some 20), none, .mv (.tmp 11), 0, [], true⟩,
  ⟨(some 21), none, .mv (.tmp 9), 1, [], true⟩,
  ⟨(some 22), none, .len false (.tmp 21), 2, [], true⟩,
  ⟨(some 23), none, .bin .lss (.tmp 20) (.tmp 22), 3, [], true⟩])
 (.cond (.tmp 23) .skip (.exit 0)))
 (.seq (.block 1 (.seq (.region 24 [
  ⟨(some 26), none, .mv (.tmp 9), 0, [], true⟩,
  ⟨(some 27), none, .mv (.tmp 11), 1, [], false⟩,
  ⟨(some 28), none, .adSl 2 (.tmp 26) (.tmp 27), 2, [], true⟩,
  ⟨(some 29), none, .fieldAddr 0 (.tmp 28), 3, [], true⟩,
  ⟨(some 30), none, .load 1 false (.tmp 29), 4, [], true⟩,
  ⟨(some 31), none, .mv (.tmp 1), 5, [], false⟩,
  ⟨(some 32), none, .len false (.tmp 31), 6, [], false⟩,
  ⟨(some 33), none, .bin .geq (.tmp 30) (.tmp 32), 7, [], true⟩,
  ⟨(some 34), none, .mv (.tmp 33), 8, [], true⟩,
  ⟨(some 35), (some (34, false)), .mv (.tmp 1), 9, [], true⟩,
  ⟨(some 36), (some (34, false)), .mv (.tmp 9), 10, [], false⟩,
  ⟨(some 37), (some (34, false)), .mv (.tmp 11), 11, [], false⟩,
  ⟨(some 38), (some (34, false)), .adSl 2 (.tmp 36) (.tmp 37), 12, [], false⟩,
  ⟨(some 39), (some (34, false)), .fieldAddr 0 (.tmp 38), 13, [], false⟩,
  ⟨(some 40), (some (34, false)), .load 1 false (.tmp 39), 14, [], false⟩,
  ⟨(some 41), (some (34, false)), .adSl 1 (.tmp 35) (.tmp 40), 15, [], true⟩,
  ⟨(some 42), (some (34, false)), .load 1 false (.tmp 41), 16, [], true⟩,
  ⟨(some 43), (some (34, false)), .mv (.tmp 9), 17, [], false⟩,
  ⟨(some 44), (some (34, false)), .mv (.tmp 11), 18, [], false⟩,
  ⟨(some 45), (some (34, false)), .adSl 2 (.tmp 43) (.tmp 44), 19, [], false⟩,
  ⟨(some 46), (some (34, false)), .fieldAddr 1 (.tmp 45), 20, [], false⟩,
  ⟨(some 47), (some (34, false)), .load 1 false (.tmp 46), 21, [], false⟩,
  ⟨(some 48), (some (34, false)), .bin .neq (.tmp 42) (.tmp 47), 22, [], true⟩,
  ⟨(some 49), none, .pick (.tmp 34) (.const (.bool true)) (.tmp 48), 23, [], true⟩])
 (.cond (.tmp 49) (.seq (.region 1 [
  ⟨(some 8), none, .mv (.const (.bool false)), 0, [], true⟩])
 .ret) .skip)))
 (.region 3 [
  ⟨(some 24), none, .mv (.tmp 11), 0, [], true⟩,
  ⟨(some 25), none, .bin .add (.tmp 24) (.const (.int .i64 1)), 1, [], true⟩,
  ⟨(some 11), none, .mv (.tmp 25), 2, [], true⟩]))))))
 (.seq (.seq (.region 1 [
  ⟨(some 12), none, .mv (.const (.int .i64 0)), 0, [], true⟩])
 (.block 2 (.loop (.seq (.seq (.region 4 [
  ⟨(some 50), none, .mv (.tmp 12), 0, [], true⟩,
  ⟨(some 51), none, .mv (.tmp 10), 1, [], true⟩,
  ⟨(some 52), none, .len false (.tmp 51), 2, [], true⟩,
  ⟨(some 53), none, .bin .lss (.tmp 50) (.tmp 52), 3, [], true⟩])
 (.cond (.tmp 53) .skip (.exit 2)))
 (.seq (.block 3 (.seq (.region 8 [
  ⟨(some 56), none, .mv (.tmp 10), 0, [], true⟩,
  ⟨(some 57), none, .mv (.tmp 12), 1, [], true⟩,
  ⟨(some 58), none, .adSl 2 (.tmp 56) (.tmp 57), 2, [], true⟩,
  ⟨(some 59), none, .fieldAddr 0 (.tmp 58), 3, [], true⟩,
  ⟨(some 60), none, .load 1 false (.tmp 59), 4, [], true⟩,
  ⟨(some 61), none, .mv (.tmp 1), 5, [], true⟩,
  ⟨(some 62), none, .len false (.tmp 61), 6, [], true⟩,
  ⟨(some 63), none, .bin .geq (.tmp 60) (.tmp 62), 7, [], true⟩])
 (.cond (.tmp 63) (.seq (.region 1 [
  ⟨(some 8), none, .mv (.const (.bool false)), 0, [], true⟩])
 .ret) .skip)))
 (.region 3 [
  ⟨(some 54), none, .mv (.tmp 12), 0, [], true⟩,
  ⟨(some 55), none, .bin .add (.tmp 54) (.const (.int .i64 1)), 1, [], true⟩,
  ⟨(some 12), none, .mv (.tmp 55), 2, [], true⟩]))))))
 (.seq (.seq (.region 1 [
  ⟨(some 13), none, .mv (.const (.int .i64 0)), 0, [], true⟩])
 (.block 4 (.loop (.seq (.seq (.region 7 [
  ⟨(some 64), none, .mv (.tmp 13), 0, [], true⟩,
  ⟨(some 65), none, .mv (.tmp 10), 1, [], true⟩,
  ⟨(some 66), none, .len false (.tmp 65), 2, [], true⟩,
  ⟨(some 67), none, .bin .lss (.tmp 64) (.tmp 66), 3, [], true⟩,
  ⟨(some 68), none, .mv (.tmp 67), 4, [], true⟩,
  ⟨(some 69), (some (68, true)), .mv (.tmp 3), 5, [], true⟩,
  ⟨(some 70), none, .pick (.tmp 68) (.tmp 69) (.const (.bool false)), 6, [], true⟩])
 (.cond (.tmp 70) .skip (.exit 4)))
 (.seq (.block 5 (.region 13 [
  ⟨(some 73), none, .mv (.tmp 1), 0, [], true⟩,
  ⟨(some 74), none, .mv (.tmp 10), 1, [], false⟩,
  ⟨(some 75), none, .mv (.tmp 13), 2, [], false⟩,
  ⟨(some 76), none, .adSl 2 (.tmp 74) (.tmp 75), 3, [], false⟩,
  ⟨(some 77), none, .fieldAddr 0 (.tmp 76), 4, [], false⟩,
  ⟨(some 78), none, .load 1 false (.tmp 77), 5, [], false⟩,
  ⟨(some 79), none, .mv (.tmp 10), 6, [], false⟩,
  ⟨(some 80), none, .mv (.tmp 13), 7, [], false⟩,
  ⟨(some 81), none, .adSl 2 (.tmp 79) (.tmp 80), 8, [], false⟩,
  ⟨(some 82), none, .fieldAddr 1 (.tmp 81), 9, [], false⟩,
  ⟨(some 83), none, .load 1 false (.tmp 82), 10, [], false⟩,
  ⟨(some 84), none, .adSl 1 (.tmp 73) (.tmp 78), 11, [], true⟩,
  ⟨none, none, .store 1 (.tmp 84) (.tmp 83), 12, [], true⟩]))
 (.region 3 [
  ⟨(some 71), none, .mv (.tmp 13), 0, [], true⟩,
  ⟨(some 72), none, .bin .add (.tmp 71) (.const (.int .i64 1)), 1, [], true⟩,
  ⟨(some 13), none, .mv (.tmp 72), 2, [], true⟩]))))))
 (.seq (.region 4 [
  ⟨(some 85), none, .mv (.tmp 0), 0, [], true⟩,
  ⟨(some 86), none, .mv (.tmp 2), 1, [], true⟩,
  ⟨(some 87), none, .call (.func 165) [(.tmp 85), (.tmp 86)], 2, [], true⟩,
  ⟨(some 8), none, .mv (.tmp 87), 3, [], true⟩])
 .ret))))))⟩

def m113 : MFn := ⟨5, [(2, none)], (.seq (.region 1 [
  ⟨(some 2), none, .mv (.const (.slice none 0 0)), 0, [], true⟩])
 (.seq (.region 3 [
  ⟨(some 3), none, .mv (.tmp 0), 0, [], true⟩,
  ⟨(some 4), none, .call (.func 166) [(.const (.slice none 0 0)), (.tmp 3)], 1, [], true⟩,
  ⟨(some 2), none, .mv (.tmp 4), 2, [], true⟩])
 .ret))⟩

def m114 : MFn := ⟨9, [], (.region 5 [
  ⟨(some 4), none, .mv (.tmp 0), 0, [], true⟩,
  ⟨(some 5), none, .mv (.tmp 0), 1, [], true⟩,
  ⟨(some 6), none, .len false (.tmp 5), 2, [], true⟩,
  ⟨(some 7), none, .mv (.tmp 1), 3, [], true⟩,
  ⟨(some 8), none, .call (.func 167) [(.tmp 4), (.tmp 6), (.tmp 7)], 4, [], true⟩])⟩

def m115 : MFn := ⟨16, [], (.seq (.region 3 [
  ⟨(some 5), none, .load 1 false (.tmp 1), 0, [], true⟩,
  ⟨(some 6), none, .len false (.tmp 5), 1, [], true⟩,
  ⟨(some 7), none, .mv (.const (.int .i64 0)), 2, [], true⟩])
 (.block 0 (.loop (.seq (.region 1 [
  ⟨(some 8), none, .bin .lss (.tmp 7) (.tmp 6), 0, [], true⟩])
 (.seq (.cond (.tmp 8) .skip (.exit 0))
 (.seq (.block 1 (.seq (.region 4 [
  ⟨(some 9), none, .adSl 3 (.tmp 5) (.tmp 7), 0, [], true⟩,
  ⟨(some 10), none, .load 3 true (.tmp 9), 1, [], true⟩,
  ⟨(some 4), none, .alloc [(.int .i64 0), (.int .u64 0), (.int .u8 0)] 98, 2, [], true⟩,
  ⟨none, none, .store 3 (.tmp 4) (.tmp 10), 3, [], true⟩])
 (.seq (.region 4 [
  ⟨(some 11), none, .mv (.tmp 0), 0, [], true⟩,
  ⟨(some 12), none, .load 3 true (.tmp 4), 1, [], true⟩,
  ⟨(some 13), none, .call (.tmp 11) [(.tmp 12)], 2, [], true⟩,
  ⟨(some 14), none, .un .not (.tmp 13), 3, [], true⟩])
 (.cond (.tmp 14) .ret .skip))))
 (.region 2 [
  ⟨(some 15), none, .bin .add (.tmp 7) (.const (.int .i64 1)), 0, [], true⟩,
  ⟨(some 7), none, .mv (.tmp 15), 1, [], true⟩])))))))⟩

def m116 : MFn := ⟨6, [(2, none)], (.seq (.region 1 [
  ⟨(some 2), none, .mv (.const (.bool false)), 0, [], true⟩])
 (.seq (.region 4 [
  ⟨(some 3), none, .mv (.tmp 0), 0, [], true⟩,
  ⟨(some 4), none, .mv (.tmp 0), 1, [], true⟩,
  ⟨(some 5), none, .bin .neq (.tmp 3) (.tmp 4), 2, [], true⟩,
  ⟨(some 2), none, .mv (.tmp 5), 3, [], true⟩])
 .ret))⟩

def m117 : MFn := ⟨8, [(2, none)], (.seq (.region 1 [
  ⟨(some 2), none, .mv (.const (.slice none 0 0)), 0, [], true⟩])
 (.seq (.seq (.region 2 [
  ⟨(some 3), none, .mv (.tmp 0), 0, [], true⟩,
  ⟨(some 4), none, .eq false .slice (.tmp 3) (.const (.slice none 0 0)), 1, [], true⟩])
 (.cond (.tmp 4) (.seq (.region 1 [
  ⟨(some 2), none, .mv (.const (.slice none 0 0)), 0, [], true⟩])
 .ret) .skip))
 (.seq (.region 4 [
  ⟨(some 5), none, .buildSl 41 1 0 [] [], 0, [], true⟩,
  ⟨(some 6), none, .mv (.tmp 0), 1, [], true⟩,
  ⟨(some 7), none, .append 41 1 8 (.tmp 5) (.tmp 6), 2, [], true⟩,
  ⟨(some 2), none, .mv (.tmp 7), 3, [], true⟩])
 .ret)))⟩

def m118 : MFn := ⟨8, [(2, none)], (.seq (.region 1 [
  ⟨(some 2), none, .mv (.const (.slice none 0 0)), 0, [], true⟩])
 (.seq (.seq (.region 2 [
  ⟨(some 3), none, .mv (.tmp 0), 0, [], true⟩,
  ⟨(some 4), none, .eq false .slice (.tmp 3) (.const (.slice none 0 0)), 1, [], true⟩])
 (.cond (.tmp 4) (.seq (.region 1 [
  ⟨(some 2), none, .mv (.const (.slice none 0 0)), 0, [], true⟩])
 .ret) .skip))
 (.seq (.region 4 [
  ⟨(some 5), none, .buildSl 3 1 0 [] [], 0, [], true⟩,
  ⟨(some 6), none, .mv (.tmp 0), 1, [], true⟩,
  ⟨(some 7), none, .append 3 1 8 (.tmp 5) (.tmp 6), 2, [], true⟩,
  ⟨(some 2), none, .mv (.tmp 7), 3, [], true⟩])
 .ret)))⟩

def m119 : MFn := ⟨11, [(2, none)], (.seq (.region 1 [
  ⟨(some 2), none, .mv (.const (.slice none 0 0)), 0, [], true⟩])
 (.seq (.seq (.region 2 [
  ⟨(some 3), none, .mv (.tmp 0), 0, [], true⟩,
  ⟨(some 4), none, .eq false .ptr (.tmp 3) (.const (.pointer none)), 1, [], true⟩])
 (.cond (.tmp 4) (.seq (.region 1 [
  ⟨(some 2), none, .mv (.const (.slice none 0 0)), 0, [], true⟩])
 .ret) .skip))
 (.seq (.region 7 [
  ⟨(some 5), none, .buildSl 182 3 0 [] [], 0, [], true⟩,
  ⟨(some 6), none, .mv (.tmp 0), 1, [], true⟩,
  ⟨(some 7), none, .nilCheck (.tmp 6), 2, [], true⟩,
  ⟨(some 8), none, .fieldAddr 0 (.tmp 7), 3, [], true⟩,
  ⟨(some 9), none, .load 1 false (.tmp 8), 4, [], true⟩,
  ⟨(some 10), none, .append 182 3 24 (.tmp 5) (.tmp 9), 5, [], true⟩,
  ⟨(some 2), none, .mv (.tmp 10), 6, [], true⟩])
 .ret)))⟩

def m120 : MFn := ⟨9, [(2, none)], (.seq (.region 1 [
  ⟨(some 2), none, .mv (.const (.int .i64 0)), 0, [], true⟩])
 (.seq (.seq (.region 6 [
  ⟨(some 3), none, .mv (.tmp 0), 0, [], true⟩,
  ⟨(some 4), none, .bin .lss (.tmp 3) (.const (.int .i64 0)), 1, [], true⟩,
  ⟨(some 5), none, .mv (.tmp 4), 2, [], true⟩,
  ⟨(some 6), (some (5, false)), .mv (.tmp 0), 3, [], true⟩,
  ⟨(some 7), (some (5, false)), .bin .geq (.tmp 6) (.const (.int .i64 4)), 4, [], true⟩,
  ⟨(some 8), none, .pick (.tmp 5) (.const (.bool true)) (.tmp 7), 5, [], true⟩])
 (.cond (.tmp 8) (.seq (.region 1 [
  ⟨(some 2), none, .mv (.const (.int .i64 2)), 0, [], true⟩])
 .ret) .skip))
 (.seq (.region 1 [
  ⟨(some 2), none, .mv (.const (.int .i64 0)), 0, [], true⟩])
 .ret)))⟩

def m121 : MFn := ⟨9, [(2, none)], (.seq (.region 1 [
  ⟨(some 2), none, .mv (.const (.int .u64 0)), 0, [], true⟩])
 (.seq (.seq (.region 2 [
  ⟨(some 3), none, .mv (.tmp 0), 0, [], true⟩,
  ⟨(some 4), none, .eq false .ptr (.tmp 3) (.const (.pointer none)), 1, [], true⟩])
 (.cond (.tmp 4) (.seq (.region 1 [
  ⟨(some 2), none, .mv (.const (.int .u64 0)), 0, [], true⟩])
 .ret) .skip))
 (.seq (.region 5 [
  ⟨(some 5), none, .mv (.tmp 0), 0, [], true⟩,
  ⟨(some 6), none, .nilCheck (.tmp 5), 1, [], true⟩,
  ⟨(some 7), none, .fieldAddr 1 (.tmp 6), 2, [], true⟩,
  ⟨(some 8), none, .load 1 false (.tmp 7), 3, [], true⟩,
  ⟨(some 2), none, .mv (.tmp 8), 4, [], true⟩])
 .ret)))⟩

def m122 : MFn := ⟨3, [(0, none)], (.seq (.region 1 [
  ⟨(some 0), none, .mv (.const (.pointer none)), 0, [], true⟩])
 (.seq (.region 3 [
  ⟨(some 1), none, .build [(.slice none 0 0)] [], 0, [], true⟩,
  ⟨(some 2), none, .box 187 (.tmp 1), 1, [], true⟩,
  ⟨(some 0), none, .mv (.tmp 2), 2, [], true⟩])
 .ret))⟩

def m123 : MFn := ⟨5, [(0, none)], (.seq (.region 1 [
  ⟨(some 0), none, .mv (.const (.pointer none)), 0, [], true⟩])
 (.seq (.region 5 [
  ⟨(some 1), none, .build [(.bool false), (.bool false), (.bool false), (.bool false), (.bool false), (.bool false), (.bool false), (.bool false), (.bool false), (.bool false), (.bool false), (.bool false), (.int .u64 0), (.int .u64 0), (.int .u64 0), (.int .u64 0), (.int .u64 0), (.int .u64 0), (.int .u64 0), (.int .u64 0), (.int .u64 0), (.int .u64 0), (.int .u64 0), (.int .u64 0)] [], 0, [], true⟩,
  ⟨(some 2), none, .buildSl 232 24 1 [(.bool false), (.bool false), (.bool false), (.bool false), (.bool false), (.bool false), (.bool false), (.bool false), (.bool false), (.bool false), (.bool false), (.bool false), (.int .u64 0), (.int .u64 0), (.int .u64 0), (.int .u64 0), (.int .u64 0), (.int .u64 0), (.int .u64 0), (.int .u64 0), (.int .u64 0), (.int .u64 0), (.int .u64 0), (.int .u64 0)] [(0, 24, (.tmp 1))], 1, [], true⟩,
  ⟨(some 3), none, .build [(.slice none 0 0)] [(0, 1, (.tmp 2))], 2, [], true⟩,
  ⟨(some 4), none, .box 190 (.tmp 3), 3, [], true⟩,
  ⟨(some 0), none, .mv (.tmp 4), 4, [], true⟩])
 .ret))⟩

def m124 : MFn := ⟨16, [], (.seq (.region 1 [
  ⟨(some 3), none, .box 108 (.tmp 1), 0, [], true⟩])
 (.region 13 [
  ⟨(some 4), none, .mv (.tmp 0), 0, [], true⟩,
  ⟨(some 5), none, .buildSl 108 4 0 [] [], 1, [], false⟩,
  ⟨(some 6), none, .mv (.tmp 0), 2, [], false⟩,
  ⟨(some 7), none, .nilCheck (.tmp 6), 3, [], false⟩,
  ⟨(some 8), none, .fieldAddr 6 (.tmp 7), 4, [], false⟩,
  ⟨(some 9), none, .load 1 false (.tmp 8), 5, [], false⟩,
  ⟨(some 11), none, .load 4 true (.tmp 3), 7, [], false⟩,
  ⟨(some 12), none, .buildSl 108 4 1 [(.int .u8 0), (.int .i64 0), (.int .i64 0), (.int .u64 0)] [(0, 4, (.tmp 11))], 8, [], false⟩,
  ⟨(some 10), none, .append 108 4 32 (.tmp 5) (.tmp 9), 6, [(false, none, none, 7, .load 4 true (.tmp 3)), (true, none, none, 8, .buildSl 108 4 1 [(.int .u8 0), (.int .i64 0), (.int .i64 0), (.int .u64 0)] [(0, 4, (.tmp 11))])], false⟩,
  ⟨(some 13), none, .append 108 4 32 (.tmp 10) (.tmp 12), 9, [], false⟩,
  ⟨(some 14), none, .nilCheck (.tmp 4), 10, [], true⟩,
  ⟨(some 15), none, .fieldAddr 6 (.tmp 14), 11, [], true⟩,
  ⟨none, none, .store 1 (.tmp 15) (.tmp 13), 12, [], true⟩]))⟩

def m125 : MFn := ⟨81, [(6, none)], (.seq (.region 2 [
  ⟨(some 3), none, .box 44 (.tmp 0), 0, [], true⟩,
  ⟨(some 6), none, .mv (.const (.int .i64 0)), 1, [], true⟩])
 (.seq (.region 9 [
  ⟨(some 8), none, .fieldAddr 0 (.tmp 3), 0, [], true⟩,
  ⟨(some 9), none, .load 1 false (.tmp 8), 1, [], true⟩,
  ⟨(some 10), none, .bin .eql (.tmp 9) (.const (.int .u8 1)), 2, [], true⟩,
  ⟨(some 11), none, .mv (.tmp 10), 3, [], true⟩,
  ⟨(some 12), (some (11, false)), .fieldAddr 0 (.tmp 3), 4, [], true⟩,
  ⟨(some 13), (some (11, false)), .load 1 false (.tmp 12), 5, [], true⟩,
  ⟨(some 14), (some (11, false)), .bin .eql (.tmp 13) (.const (.int .u8 2)), 6, [], true⟩,
  ⟨(some 15), none, .pick (.tmp 11) (.const (.bool true)) (.tmp 14), 7, [], true⟩,
  ⟨(some 7), none, .mv (.tmp 15), 8, [], true⟩])
 (.seq (.block 0 (.seq (.region 23 [
  ⟨(some 17), none, .fieldAddr 0 (.tmp 3), 0, [], true⟩,
  ⟨(some 18), none, .load 1 false (.tmp 17), 1, [], true⟩,
  ⟨(some 19), none, .bin .eql (.tmp 18) (.const (.int .u8 0)), 2, [], true⟩,
  ⟨(some 20), none, .mv (.tmp 19), 3, [], true⟩,
  ⟨(some 21), (some (20, false)), .fieldAddr 0 (.tmp 3), 4, [], true⟩,
  ⟨(some 22), (some (20, false)), .load 1 false (.tmp 21), 5, [], true⟩,
  ⟨(some 23), (some (20, false)), .bin .gtr (.tmp 22) (.const (.int .u8 7)), 6, [], true⟩,
  ⟨(some 24), none, .pick (.tmp 20) (.const (.bool true)) (.tmp 23), 7, [], true⟩,
  ⟨(some 25), none, .mv (.tmp 24), 8, [], true⟩,
  ⟨(some 26), (some (25, false)), .mv (.tmp 7), 9, [], true⟩,
  ⟨(some 27), (some (25, false)), .mv (.tmp 26), 10, [], true⟩,
  ⟨(some 28), (some (27, true)), .fieldAddr 1 (.tmp 3), 11, [], true⟩,
  ⟨(some 29), (some (27, true)), .load 1 false (.tmp 28), 12, [], true⟩,
  ⟨(some 30), (some (27, true)), .bin .lss (.tmp 29) (.const (.int .i64 0)), 13, [], true⟩,
  ⟨(some 31), (some (27, true)), .mv (.tmp 30), 14, [], true⟩,
  ⟨(some 32), (some (31, false)), .fieldAddr 1 (.tmp 3), 15, [], true⟩,
  ⟨(some 33), (some (31, false)), .load 1 false (.tmp 32), 16, [], true⟩,
  ⟨(some 34), (some (31, false)), .mv (.tmp 1), 17, [], true⟩,
  ⟨(some 35), (some (31, false)), .bin .geq (.tmp 33) (.tmp 34), 18, [], true⟩,
  ⟨(some 36), (some (27, true)), .pick (.tmp 31) (.const (.bool true)) (.tmp 35), 19, [], true⟩,
  ⟨(some 37), (some (25, false)), .pick (.tmp 27) (.tmp 36) (.const (.bool false)), 20, [], true⟩,
  ⟨(some 38), none, .pick (.tmp 25) (.const (.bool true)) (.tmp 37), 21, [], true⟩,
  ⟨(some 16), none, .mv (.tmp 38), 22, [], true⟩])
 (.cond (.tmp 16) (.seq (.region 1 [
  ⟨(some 6), none, .mv (.const (.int .i64 2)), 0, [], true⟩])
 .ret) (.seq (.region 10 [
  ⟨(some 40), none, .fieldAddr 0 (.tmp 3), 0, [], true⟩,
  ⟨(some 41), none, .load 1 false (.tmp 40), 1, [], true⟩,
  ⟨(some 42), none, .bin .eql (.tmp 41) (.const (.int .u8 2)), 2, [], true⟩,
  ⟨(some 43), none, .mv (.tmp 42), 3, [], true⟩,
  ⟨(some 44), (some (43, true)), .fieldAddr 2 (.tmp 3), 4, [], true⟩,
  ⟨(some 45), (some (43, true)), .load 1 false (.tmp 44), 5, [], true⟩,
  ⟨(some 46), (some (43, true)), .call (.func 89) [(.tmp 45)], 6, [], true⟩,
  ⟨(some 47), (some (43, true)), .un .not (.tmp 46), 7, [], true⟩,
  ⟨(some 48), none, .pick (.tmp 43) (.tmp 47) (.const (.bool false)), 8, [], true⟩,
  ⟨(some 39), none, .mv (.tmp 48), 9, [], true⟩])
 (.cond (.tmp 39) (.seq (.region 1 [
  ⟨(some 6), none, .mv (.const (.int .i64 3)), 0, [], true⟩])
 .ret) (.seq (.region 14 [
  ⟨(some 50), none, .fieldAddr 0 (.tmp 3), 0, [], true⟩,
  ⟨(some 51), none, .load 1 false (.tmp 50), 1, [], true⟩,
  ⟨(some 52), none, .bin .eql (.tmp 51) (.const (.int .u8 4)), 2, [], true⟩,
  ⟨(some 53), none, .mv (.tmp 52), 3, [], true⟩,
  ⟨(some 54), (some (53, false)), .fieldAddr 0 (.tmp 3), 4, [], true⟩,
  ⟨(some 55), (some (53, false)), .load 1 false (.tmp 54), 5, [], true⟩,
  ⟨(some 56), (some (53, false)), .bin .eql (.tmp 55) (.const (.int .u8 5)), 6, [], true⟩,
  ⟨(some 57), none, .pick (.tmp 53) (.const (.bool true)) (.tmp 56), 7, [], true⟩,
  ⟨(some 58), none, .mv (.tmp 57), 8, [], true⟩,
  ⟨(some 59), (some (58, true)), .mv (.tmp 2), 9, [], true⟩,
  ⟨(some 60), (some (58, true)), .call (.func 168) [(.tmp 59)], 10, [], true⟩,
  ⟨(some 61), (some (58, true)), .bin .eql (.tmp 60) (.const (.int .i64 0)), 11, [], true⟩,
  ⟨(some 62), none, .pick (.tmp 58) (.tmp 61) (.const (.bool false)), 12, [], true⟩,
  ⟨(some 49), none, .mv (.tmp 62), 13, [], true⟩])
 (.cond (.tmp 49) (.seq (.region 1 [
  ⟨(some 6), none, .mv (.const (.int .i64 8)), 0, [], true⟩])
 .ret) (.seq (.region 9 [
  ⟨(some 64), none, .fieldAddr 0 (.tmp 3), 0, [], true⟩,
  ⟨(some 65), none, .load 1 false (.tmp 64), 1, [], true⟩,
  ⟨(some 66), none, .bin .eql (.tmp 65) (.const (.int .u8 6)), 2, [], true⟩,
  ⟨(some 67), none, .mv (.tmp 66), 3, [], true⟩,
  ⟨(some 68), (some (67, true)), .mv (.tmp 2), 4, [], true⟩,
  ⟨(some 69), (some (67, true)), .call (.func 168) [(.tmp 68)], 5, [], true⟩,
  ⟨(some 70), (some (67, true)), .bin .gtr (.tmp 69) (.const (.int .i64 0)), 6, [], true⟩,
  ⟨(some 71), none, .pick (.tmp 67) (.tmp 70) (.const (.bool false)), 7, [], true⟩,
  ⟨(some 63), none, .mv (.tmp 71), 8, [], true⟩])
 (.cond (.tmp 63) (.seq (.region 1 [
  ⟨(some 6), none, .mv (.const (.int .i64 8)), 0, [], true⟩])
 .ret) (.seq (.region 9 [
  ⟨(some 73), none, .fieldAddr 0 (.tmp 3), 0, [], true⟩,
  ⟨(some 74), none, .load 1 false (.tmp 73), 1, [], true⟩,
  ⟨(some 75), none, .bin .eql (.tmp 74) (.const (.int .u8 3)), 2, [], true⟩,
  ⟨(some 76), none, .mv (.tmp 75), 3, [], true⟩,
  ⟨(some 77), (some (76, true)), .mv (.tmp 2), 4, [], true⟩,
  ⟨(some 78), (some (76, true)), .call (.func 168) [(.tmp 77)], 5, [], true⟩,
  ⟨(some 79), (some (76, true)), .bin .geq (.tmp 78) (.const (.int .i64 4)), 6, [], true⟩,
  ⟨(some 80), none, .pick (.tmp 76) (.tmp 79) (.const (.bool false)), 7, [], true⟩,
  ⟨(some 72), none, .mv (.tmp 80), 8, [], true⟩])
 (.cond (.tmp 72) (.seq (.region 1 [
  ⟨(some 6), none, .mv (.const (.int .i64 4)), 0, [], true⟩])
 .ret) .skip)))))))))))
 (.seq (.region 1 [
  ⟨(some 6), none, .mv (.const (.int .i64 0)), 0, [], true⟩])
 .ret))))⟩

def m126 : MFn := ⟨42, [(6, (some (7, true)))], (.seq (.region 1 [
  ⟨(some 6), none, .alloc [(.bool false), (.int .u64 0), (.bool false), (.int .i64 0), (.bool false), (.int .u8 0), (.int .i64 0)] 70, 0, [], true⟩])
 (.seq (.region 10 [
  ⟨(some 8), none, .mv (.tmp 0), 0, [], true⟩,
  ⟨(some 9), none, .mv (.tmp 1), 1, [], true⟩,
  ⟨(some 10), none, .nilCheck (.tmp 8), 2, [], true⟩,
  ⟨(some 11), none, .fieldAddr 2 (.tmp 10), 3, [], true⟩,
  ⟨(some 12), none, .adArr 4 1 (.tmp 11) (.tmp 9), 4, [], true⟩,
  ⟨(some 13), none, .load 1 false (.tmp 12), 5, [], true⟩,
  ⟨(some 14), none, .nilCheck (.tmp 13), 6, [], true⟩,
  ⟨(some 15), none, .fieldAddr 0 (.tmp 14), 7, [], true⟩,
  ⟨(some 16), none, .load 1 false (.tmp 15), 8, [], true⟩,
  ⟨(some 7), none, .mv (.tmp 16), 9, [], true⟩])
 (.seq (.region 6 [
  ⟨(some 17), none, .mv (.tmp 0), 0, [], true⟩,
  ⟨(some 18), none, .nilCheck (.tmp 17), 1, [], true⟩,
  ⟨(some 19), none, .fieldAddr 1 (.tmp 18), 2, [], true⟩,
  ⟨(some 20), none, .load 1 false (.tmp 19), 3, [], true⟩,
  ⟨(some 21), none, .mv (.tmp 1), 4, [], true⟩,
  ⟨(some 22), none, .call (.func 169) [(.tmp 20), (.tmp 21)], 5, [], true⟩])
 (.seq (.region 9 [
  ⟨(some 23), none, .mv (.tmp 0), 0, [], true⟩,
  ⟨(some 24), none, .nilCheck (.tmp 23), 1, [], true⟩,
  ⟨(some 25), none, .fieldAddr 7 (.tmp 24), 2, [], true⟩,
  ⟨(some 26), none, .load 1 false (.tmp 25), 3, [], true⟩,
  ⟨(some 27), none, .mv (.tmp 7), 4, [], true⟩,
  ⟨(some 28), none, .mv (.tmp 2), 5, [], true⟩,
  ⟨(some 29), none, .adSl 2 (.tmp 26) (.tmp 27), 6, [], true⟩,
  ⟨(some 30), none, .fieldAddr 1 (.tmp 29), 7, [], true⟩,
  ⟨none, none, .store 1 (.tmp 30) (.tmp 28), 8, [], true⟩])
 (.seq (.region 6 [
  ⟨(some 31), none, .mv (.tmp 0), 0, [], true⟩,
  ⟨(some 32), none, .mv (.tmp 1), 1, [], true⟩,
  ⟨(some 33), none, .nilCheck (.tmp 31), 2, [], true⟩,
  ⟨(some 34), none, .fieldAddr 2 (.tmp 33), 3, [], true⟩,
  ⟨(some 35), none, .adArr 4 1 (.tmp 34) (.tmp 32), 4, [], true⟩,
  ⟨none, none, .store 1 (.tmp 35) (.const (.pointer none)), 5, [], true⟩])
 (.seq (.region 4 [
  ⟨(some 36), none, .mv (.tmp 0), 0, [], true⟩,
  ⟨(some 37), none, .mv (.tmp 7), 1, [], true⟩,
  ⟨(some 38), none, .build [(.int .u8 0), (.int .i64 0), (.int .i64 0), (.int .u64 0)] [(0, 1, (.const (.int .u8 9))), (1, 1, (.tmp 37))], 2, [], true⟩,
  ⟨(some 39), none, .call (.func 124) [(.tmp 36), (.tmp 38)], 3, [], true⟩])
 (.seq (.region 3 [
  ⟨(some 40), none, .mv (.tmp 2), 0, [], true⟩,
  ⟨(some 41), none, .build [(.bool false), (.int .u64 0), (.bool false), (.int .i64 0), (.bool false), (.int .u8 0), (.int .i64 0)] [(0, 1, (.const (.bool true))), (4, 1, (.const (.bool true))), (5, 1, (.tmp 40))], 1, [], true⟩,
  ⟨none, none, .store 7 (.tmp 6) (.tmp 41), 2, [], true⟩])
 .ret)))))))⟩

def m127 : MFn := ⟨149, [(6, (some (7, true)))], (.seq (.region 1 [
  ⟨(some 6), none, .alloc [(.bool false), (.int .u64 0), (.bool false), (.int .i64 0), (.bool false), (.int .u8 0), (.int .i64 0)] 70, 0, [], true⟩])
 (.seq (.seq (.region 15 [
  ⟨(some 15), none, .mv (.tmp 2), 0, [], true⟩,
  ⟨(some 16), none, .nilCheck (.tmp 15), 1, [], true⟩,
  ⟨(some 17), none, .fieldAddr 4 (.tmp 16), 2, [], true⟩,
  ⟨(some 18), none, .load 1 false (.tmp 17), 3, [], true⟩,
  ⟨(some 19), none, .mv (.tmp 2), 4, [], false⟩,
  ⟨(some 20), none, .nilCheck (.tmp 19), 5, [], false⟩,
  ⟨(some 21), none, .fieldAddr 6 (.tmp 20), 6, [], false⟩,
  ⟨(some 22), none, .fieldAddr 1 (.tmp 21), 7, [], false⟩,
  ⟨(some 23), none, .load 1 false (.tmp 22), 8, [], false⟩,
  ⟨(some 24), none, .call (.func 170) [(.tmp 18), (.tmp 23)], 9, [], true⟩,
  ⟨(some 14), none, .mv (.tmp 24), 10, [], true⟩,
  ⟨(some 25), none, .extract (.tmp 14) 0, 11, [], true⟩,
  ⟨(some 26), none, .extract (.tmp 14) 1, 12, [], false⟩,
  ⟨(some 7), none, .mv (.tmp 25), 13, [], false⟩,
  ⟨(some 8), none, .mv (.tmp 26), 14, [], true⟩])
 (.seq (.region 1 [
  ⟨(some 27), none, .mv (.tmp 8), 0, [], true⟩])
 (.cond (.tmp 27) (.seq (.region 5 [
  ⟨(some 28), none, .mv (.tmp 0), 0, [], true⟩,
  ⟨(some 29), none, .mv (.tmp 2), 1, [], true⟩,
  ⟨(some 30), none, .mv (.tmp 7), 2, [], true⟩,
  ⟨(some 31), none, .call (.func 171) [(.tmp 28), (.tmp 29), (.tmp 30)], 3, [], true⟩,
  ⟨none, none, .store 7 (.tmp 6) (.tmp 31), 4, [], true⟩])
 .ret) .skip)))
 (.seq (.region 11 [
  ⟨(some 32), none, .mv (.tmp 0), 0, [], true⟩,
  ⟨(some 33), none, .nilCheck (.tmp 32), 1, [], true⟩,
  ⟨(some 34), none, .fieldAddr 1 (.tmp 33), 2, [], true⟩,
  ⟨(some 35), none, .load 1 false (.tmp 34), 3, [], true⟩,
  ⟨(some 36), none, .mv (.tmp 2), 4, [], false⟩,
  ⟨(some 37), none, .nilCheck (.tmp 36), 5, [], false⟩,
  ⟨(some 38), none, .fieldAddr 6 (.tmp 37), 6, [], false⟩,
  ⟨(some 39), none, .fieldAddr 1 (.tmp 38), 7, [], false⟩,
  ⟨(some 40), none, .load 1 false (.tmp 39), 8, [], false⟩,
  ⟨(some 41), none, .call (.func 135) [(.tmp 35), (.tmp 40)], 9, [], true⟩,
  ⟨(some 9), none, .mv (.tmp 41), 10, [], true⟩])
 (.seq (.region 11 [
  ⟨(some 43), none, .mv (.tmp 0), 0, [], true⟩,
  ⟨(some 44), none, .nilCheck (.tmp 43), 1, [], true⟩,
  ⟨(some 45), none, .fieldAddr 1 (.tmp 44), 2, [], true⟩,
  ⟨(some 46), none, .load 1 false (.tmp 45), 3, [], true⟩,
  ⟨(some 47), none, .mv (.tmp 9), 4, [], true⟩,
  ⟨(some 48), none, .call (.func 134) [(.tmp 46), (.tmp 47)], 5, [], true⟩,
  ⟨(some 42), none, .mv (.tmp 48), 6, [], true⟩,
  ⟨(some 49), none, .extract (.tmp 42) 0, 7, [], true⟩,
  ⟨(some 50), none, .extract (.tmp 42) 1, 8, [], true⟩,
  ⟨(some 10), none, .mv (.tmp 49), 9, [], true⟩,
  ⟨(some 11), none, .mv (.tmp 50), 10, [], true⟩])
 (.seq (.seq (.region 4 [
  ⟨(some 51), none, .mv (.tmp 2), 0, [], true⟩,
  ⟨(some 52), none, .nilCheck (.tmp 51), 1, [], true⟩,
  ⟨(some 53), none, .fieldAddr 9 (.tmp 52), 2, [], true⟩,
  ⟨(some 54), none, .load 1 false (.tmp 53), 3, [], true⟩])
 (.block 0 (.seq (.region 2 [
  ⟨(some 56), none, .bin .eql (.tmp 54) (.const (.int .i64 0)), 0, [], true⟩,
  ⟨(some 55), none, .mv (.tmp 56), 1, [], true⟩])
 (.cond (.tmp 55) (.seq (.seq (.region 10 [
  ⟨(some 58), none, .mv (.tmp 0), 0, [], true⟩,
  ⟨(some 59), none, .mv (.tmp 1), 1, [], true⟩,
  ⟨(some 60), none, .mv (.tmp 9), 2, [], true⟩,
  ⟨(some 61), none, .call (.func 172) [(.tmp 58), (.tmp 59), (.tmp 60)], 3, [], true⟩,
  ⟨(some 57), none, .mv (.tmp 61), 4, [], true⟩,
  ⟨(some 62), none, .extract (.tmp 57) 0, 5, [], true⟩,
  ⟨(some 63), none, .extract (.tmp 57) 1, 6, [], true⟩,
  ⟨(some 12), none, .alloc [(.bool false), (.int .u64 0), (.bool false), (.int .i64 0), (.bool false), (.int .u8 0), (.int .i64 0)] 70, 7, [], true⟩,
  ⟨none, none, .store 7 (.tmp 12) (.tmp 62), 8, [], true⟩,
  ⟨(some 13), none, .mv (.tmp 63), 9, [], true⟩])
 (.seq (.region 1 [
  ⟨(some 64), none, .mv (.tmp 13), 0, [], true⟩])
 (.cond (.tmp 64) (.seq (.region 2 [
  ⟨(some 65), none, .load 7 true (.tmp 12), 0, [], true⟩,
  ⟨none, none, .store 7 (.tmp 6) (.tmp 65), 1, [], true⟩])
 .ret) .skip)))
 (.seq (.seq (.region 11 [
  ⟨(some 66), none, .mv (.tmp 0), 0, [], true⟩,
  ⟨(some 67), none, .nilCheck (.tmp 66), 1, [], true⟩,
  ⟨(some 68), none, .fieldAddr 1 (.tmp 67), 2, [], true⟩,
  ⟨(some 69), none, .load 1 false (.tmp 68), 3, [], true⟩,
  ⟨(some 70), none, .mv (.tmp 9), 4, [], false⟩,
  ⟨(some 72), none, .mv (.tmp 2), 6, [], false⟩,
  ⟨(some 73), none, .nilCheck (.tmp 72), 7, [], false⟩,
  ⟨(some 74), none, .fieldAddr 1 (.tmp 73), 8, [], false⟩,
  ⟨(some 75), none, .load 1 false (.tmp 74), 9, [], false⟩,
  ⟨(some 71), none, .call (.func 173) [(.tmp 69), (.tmp 70)], 5, [(false, none, none, 9, .load 1 false (.tmp 74))], false⟩,
  ⟨(some 76), none, .bin .gtr (.tmp 71) (.tmp 75), 10, [], true⟩])
 (.cond (.tmp 76) (.seq (.region 4 [
  ⟨(some 77), none, .mv (.tmp 0), 0, [], true⟩,
  ⟨(some 78), none, .mv (.tmp 1), 1, [], true⟩,
  ⟨(some 79), none, .call (.func 126) [(.tmp 77), (.tmp 78), (.const (.int .u8 1))], 2, [], true⟩,
  ⟨none, none, .store 7 (.tmp 6) (.tmp 79), 3, [], true⟩])
 .ret) .skip))
 (.seq (.region 9 [
  ⟨(some 80), none, .mv (.tmp 2), 0, [], true⟩,
  ⟨(some 81), none, .mv (.tmp 2), 1, [], true⟩,
  ⟨(some 82), none, .mv (.tmp 10), 2, [], true⟩,
  ⟨(some 83), none, .nilCheck (.tmp 80), 3, [], true⟩,
  ⟨(some 84), none, .fieldAddr 11 (.tmp 83), 4, [], true⟩,
  ⟨none, none, .store 1 (.tmp 84) (.tmp 82), 5, [], true⟩,
  ⟨(some 85), none, .nilCheck (.tmp 81), 6, [], true⟩,
  ⟨(some 86), none, .fieldAddr 9 (.tmp 85), 7, [], true⟩,
  ⟨none, none, .store 1 (.tmp 86) (.const (.int .i64 1)), 8, [], true⟩])
 (.seq (.region 2 [
  ⟨(some 87), none, .build [(.bool false), (.int .u64 0), (.bool false), (.int .i64 0), (.bool false), (.int .u8 0), (.int .i64 0)] [], 0, [], true⟩,
  ⟨none, none, .store 7 (.tmp 6) (.tmp 87), 1, [], true⟩])
 .ret)))) (.seq (.region 2 [
  ⟨(some 89), none, .bin .eql (.tmp 54) (.const (.int .i64 1)), 0, [], true⟩,
  ⟨(some 88), none, .mv (.tmp 89), 1, [], true⟩])
 (.cond (.tmp 88) (.seq (.region 19 [
  ⟨(some 90), none, .mv (.tmp 2), 0, [], true⟩,
  ⟨(some 91), none, .mv (.tmp 2), 1, [], false⟩,
  ⟨(some 92), none, .mv (.tmp 0), 2, [], false⟩,
  ⟨(some 93), none, .nilCheck (.tmp 92), 3, [], false⟩,
  ⟨(some 94), none, .fieldAddr 0 (.tmp 93), 4, [], false⟩,
  ⟨(some 95), none, .load 1 false (.tmp 94), 5, [], false⟩,
  ⟨(some 96), none, .mv (.tmp 2), 6, [], false⟩,
  ⟨(some 97), none, .nilCheck (.tmp 96), 7, [], false⟩,
  ⟨(some 98), none, .fieldAddr 6 (.tmp 97), 8, [], false⟩,
  ⟨(some 99), none, .fieldAddr 1 (.tmp 98), 9, [], false⟩,
  ⟨(some 100), none, .load 1 false (.tmp 99), 10, [], false⟩,
  ⟨(some 101), none, .adSl 1 (.tmp 95) (.tmp 100), 11, [], false⟩,
  ⟨(some 102), none, .load 1 false (.tmp 101), 12, [], false⟩,
  ⟨(some 103), none, .nilCheck (.tmp 90), 13, [], false⟩,
  ⟨(some 104), none, .fieldAddr 12 (.tmp 103), 14, [], false⟩,
  ⟨none, none, .store 1 (.tmp 104) (.tmp 102), 15, [], false⟩,
  ⟨(some 105), none, .nilCheck (.tmp 91), 16, [], true⟩,
  ⟨(some 106), none, .fieldAddr 9 (.tmp 105), 17, [], true⟩,
  ⟨none, none, .store 1 (.tmp 106) (.const (.int .i64 2)), 18, [], true⟩])
 (.seq (.region 2 [
  ⟨(some 107), none, .build [(.bool false), (.int .u64 0), (.bool false), (.int .i64 0), (.bool false), (.int .u8 0), (.int .i64 0)] [], 0, [], true⟩,
  ⟨none, none, .store 7 (.tmp 6) (.tmp 107), 1, [], true⟩])
 .ret)) .skip))))))
 (.seq (.seq (.region 6 [
  ⟨(some 108), none, .mv (.tmp 10), 0, [], true⟩,
  ⟨(some 109), none, .mv (.tmp 2), 1, [], true⟩,
  ⟨(some 110), none, .nilCheck (.tmp 109), 2, [], true⟩,
  ⟨(some 111), none, .fieldAddr 11 (.tmp 110), 3, [], true⟩,
  ⟨(some 112), none, .load 1 false (.tmp 111), 4, [], true⟩,
  ⟨(some 113), none, .bin .neq (.tmp 108) (.tmp 112), 5, [], true⟩])
 (.cond (.tmp 113) (.seq (.region 4 [
  ⟨(some 114), none, .mv (.tmp 0), 0, [], true⟩,
  ⟨(some 115), none, .mv (.tmp 1), 1, [], true⟩,
  ⟨(some 116), none, .call (.func 126) [(.tmp 114), (.tmp 115), (.const (.int .u8 1))], 2, [], true⟩,
  ⟨none, none, .store 7 (.tmp 6) (.tmp 116), 3, [], true⟩])
 .ret) .skip))
 (.seq (.seq (.region 22 [
  ⟨(some 117), none, .mv (.tmp 2), 0, [], true⟩,
  ⟨(some 118), none, .nilCheck (.tmp 117), 1, [], true⟩,
  ⟨(some 119), none, .fieldAddr 3 (.tmp 118), 2, [], true⟩,
  ⟨(some 120), none, .load 1 false (.tmp 119), 3, [], true⟩,
  ⟨(some 121), none, .mv (.tmp 2), 4, [], false⟩,
  ⟨(some 122), none, .nilCheck (.tmp 121), 5, [], false⟩,
  ⟨(some 123), none, .fieldAddr 6 (.tmp 122), 6, [], false⟩,
  ⟨(some 124), none, .fieldAddr 1 (.tmp 123), 7, [], false⟩,
  ⟨(some 125), none, .load 1 false (.tmp 124), 8, [], false⟩,
  ⟨(some 126), none, .mv (.tmp 2), 9, [], false⟩,
  ⟨(some 127), none, .nilCheck (.tmp 126), 10, [], false⟩,
  ⟨(some 128), none, .fieldAddr 12 (.tmp 127), 11, [], false⟩,
  ⟨(some 129), none, .load 1 false (.tmp 128), 12, [], false⟩,
  ⟨(some 130), none, .mv (.tmp 0), 13, [], false⟩,
  ⟨(some 131), none, .nilCheck (.tmp 130), 14, [], false⟩,
  ⟨(some 132), none, .fieldAddr 1 (.tmp 131), 15, [], false⟩,
  ⟨(some 133), none, .load 1 false (.tmp 132), 16, [], false⟩,
  ⟨(some 134), none, .mv (.tmp 9), 17, [], false⟩,
  ⟨(some 135), none, .call (.func 173) [(.tmp 133), (.tmp 134)], 18, [(false, none, none, 3, .load 1 false (.tmp 119)), (false, none, none, 8, .load 1 false (.tmp 124)), (false, none, none, 12, .load 1 false (.tmp 128))], false⟩,
  ⟨(some 136), none, .build [(.int .i64 0), (.int .u64 0), (.int .u64 0)] [(0, 1, (.tmp 125)), (1, 1, (.tmp 129)), (2, 1, (.tmp 135))], 19, [], false⟩,
  ⟨(some 137), none, .call (.func 174) [(.tmp 120), (.tmp 136)], 20, [], true⟩,
  ⟨(some 138), none, .bin .neq (.tmp 137) (.const (.int .i64 0)), 21, [], true⟩])
 (.cond (.tmp 138) (.seq (.region 4 [
  ⟨(some 139), none, .mv (.tmp 0), 0, [], true⟩,
  ⟨(some 140), none, .mv (.tmp 1), 1, [], true⟩,
  ⟨(some 141), none, .call (.func 126) [(.tmp 139), (.tmp 140), (.const (.int .u8 2))], 2, [], true⟩,
  ⟨none, none, .store 7 (.tmp 6) (.tmp 141), 3, [], true⟩])
 .ret) .skip))
 (.seq (.region 8 [
  ⟨(some 142), none, .mv (.tmp 0), 0, [], true⟩,
  ⟨(some 143), none, .mv (.tmp 2), 1, [], true⟩,
  ⟨(some 144), none, .mv (.tmp 2), 2, [], true⟩,
  ⟨(some 145), none, .nilCheck (.tmp 144), 3, [], true⟩,
  ⟨(some 146), none, .fieldAddr 12 (.tmp 145), 4, [], true⟩,
  ⟨(some 147), none, .load 1 false (.tmp 146), 5, [], true⟩,
  ⟨(some 148), none, .call (.func 171) [(.tmp 142), (.tmp 143), (.tmp 147)], 6, [], true⟩,
  ⟨none, none, .store 7 (.tmp 6) (.tmp 148), 7, [], true⟩])
 .ret))))))))⟩

def m128 : MFn := ⟨202, [(6, (some (7, true)))], (.seq (.region 1 [
  ⟨(some 6), none, .alloc [(.bool false), (.int .u64 0), (.bool false), (.int .i64 0), (.bool false), (.int .u8 0), (.int .i64 0)] 70, 0, [], true⟩])
 (.seq (.region 6 [
  ⟨(some 11), none, .mv (.tmp 2), 0, [], true⟩,
  ⟨(some 12), none, .nilCheck (.tmp 11), 1, [], true⟩,
  ⟨(some 13), none, .fieldAddr 4 (.tmp 12), 2, [], true⟩,
  ⟨(some 14), none, .load 1 false (.tmp 13), 3, [], true⟩,
  ⟨(some 15), none, .call (.func 132) [(.tmp 14)], 4, [], true⟩,
  ⟨(some 7), none, .mv (.tmp 15), 5, [], true⟩])
 (.seq (.seq (.region 4 [
  ⟨(some 16), none, .mv (.tmp 2), 0, [], true⟩,
  ⟨(some 17), none, .nilCheck (.tmp 16), 1, [], true⟩,
  ⟨(some 18), none, .fieldAddr 9 (.tmp 17), 2, [], true⟩,
  ⟨(some 19), none, .load 1 false (.tmp 18), 3, [], true⟩])
 (.block 0 (.seq (.region 2 [
  ⟨(some 21), none, .bin .eql (.tmp 19) (.const (.int .i64 0)), 0, [], true⟩,
  ⟨(some 20), none, .mv (.tmp 21), 1, [], true⟩])
 (.cond (.tmp 20) (.seq (.region 7 [
  ⟨(some 22), none, .mv (.tmp 0), 0, [], true⟩,
  ⟨(some 23), none, .mv (.tmp 2), 1, [], true⟩,
  ⟨(some 24), none, .nilCheck (.tmp 23), 2, [], true⟩,
  ⟨(some 25), none, .fieldAddr 0 (.tmp 24), 3, [], true⟩,
  ⟨(some 26), none, .load 1 false (.tmp 25), 4, [], true⟩,
  ⟨(some 27), none, .build [(.int .u8 0), (.int .i64 0), (.int .i64 0), (.int .u64 0)] [(0, 1, (.const (.int .u8 7))), (1, 1, (.tmp 26))], 5, [], true⟩,
  ⟨(some 28), none, .call (.func 124) [(.tmp 22), (.tmp 27)], 6, [], true⟩])
 (.seq (.seq (.region 3 [
  ⟨(some 29), none, .mv (.tmp 7), 0, [], true⟩,
  ⟨(some 30), none, .len false (.tmp 29), 1, [], true⟩,
  ⟨(some 31), none, .bin .eql (.tmp 30) (.const (.int .i64 0)), 2, [], true⟩])
 (.cond (.tmp 31) (.seq (.region 4 [
  ⟨(some 32), none, .mv (.tmp 0), 0, [], true⟩,
  ⟨(some 33), none, .mv (.tmp 1), 1, [], true⟩,
  ⟨(some 34), none, .call (.func 175) [(.tmp 32), (.tmp 33)], 2, [], true⟩,
  ⟨none, none, .store 7 (.tmp 6) (.tmp 34), 3, [], true⟩])
 .ret) .skip))
 (.seq (.region 4 [
  ⟨(some 35), none, .mv (.tmp 2), 0, [], true⟩,
  ⟨(some 36), none, .nilCheck (.tmp 35), 1, [], true⟩,
  ⟨(some 37), none, .fieldAddr 9 (.tmp 36), 2, [], true⟩,
  ⟨none, none, .store 1 (.tmp 37) (.const (.int .i64 1)), 3, [], true⟩])
 (.seq (.region 2 [
  ⟨(some 38), none, .build [(.bool false), (.int .u64 0), (.bool false), (.int .i64 0), (.bool false), (.int .u8 0), (.int .i64 0)] [], 0, [], true⟩,
  ⟨none, none, .store 7 (.tmp 6) (.tmp 38), 1, [], true⟩])
 .ret)))) (.seq (.region 2 [
  ⟨(some 40), none, .bin .eql (.tmp 19) (.const (.int .i64 1)), 0, [], true⟩,
  ⟨(some 39), none, .mv (.tmp 40), 1, [], true⟩])
 (.cond (.tmp 39) (.seq (.region 12 [
  ⟨(some 41), none, .mv (.tmp 0), 0, [], true⟩,
  ⟨(some 42), none, .mv (.tmp 1), 1, [], false⟩,
  ⟨(some 43), none, .mv (.tmp 2), 2, [], false⟩,
  ⟨(some 44), none, .mv (.tmp 0), 3, [], false⟩,
  ⟨(some 45), none, .nilCheck (.tmp 44), 4, [], false⟩,
  ⟨(some 46), none, .fieldAddr 1 (.tmp 45), 5, [], false⟩,
  ⟨(some 47), none, .load 1 false (.tmp 46), 6, [], false⟩,
  ⟨(some 48), none, .mv (.tmp 7), 7, [], false⟩,
  ⟨(some 49), none, .call (.func 178) [(.tmp 48)], 8, [(false, none, none, 6, .load 1 false (.tmp 46))], false⟩,
  ⟨(some 50), none, .call (.func 177) [(.tmp 47), (.tmp 49)], 9, [], false⟩,
  ⟨(some 51), none, .call (.func 176) [(.tmp 41), (.tmp 42), (.tmp 43), (.tmp 50)], 10, [], true⟩,
  ⟨none, none, .store 7 (.tmp 6) (.tmp 51), 11, [], true⟩])
 .ret) (.seq (.region 2 [
  ⟨(some 53), none, .bin .eql (.tmp 19) (.const (.int .i64 2)), 0, [], true⟩,
  ⟨(some 52), none, .mv (.tmp 53), 1, [], true⟩])
 (.cond (.tmp 52) (.seq (.region 6 [
  ⟨(some 54), none, .mv (.tmp 2), 0, [], true⟩,
  ⟨(some 55), none, .nilCheck (.tmp 54), 1, [], true⟩,
  ⟨(some 56), none, .fieldAddr 3 (.tmp 55), 2, [], true⟩,
  ⟨(some 57), none, .load 1 false (.tmp 56), 3, [], true⟩,
  ⟨(some 58), none, .call (.func 119) [(.tmp 57)], 4, [], true⟩,
  ⟨(some 8), none, .mv (.tmp 58), 5, [], true⟩])
 (.seq (.seq (.region 7 [
  ⟨(some 59), none, .mv (.tmp 2), 0, [], true⟩,
  ⟨(some 60), none, .nilCheck (.tmp 59), 1, [], true⟩,
  ⟨(some 61), none, .fieldAddr 10 (.tmp 60), 2, [], true⟩,
  ⟨(some 62), none, .load 1 false (.tmp 61), 3, [], true⟩,
  ⟨(some 63), none, .mv (.tmp 8), 4, [], true⟩,
  ⟨(some 64), none, .len false (.tmp 63), 5, [], true⟩,
  ⟨(some 65), none, .bin .geq (.tmp 62) (.tmp 64), 6, [], true⟩])
 (.cond (.tmp 65) (.seq (.region 12 [
  ⟨(some 66), none, .mv (.tmp 2), 0, [], true⟩,
  ⟨(some 67), none, .mv (.tmp 2), 1, [], true⟩,
  ⟨(some 68), none, .mv (.tmp 2), 2, [], true⟩,
  ⟨(some 69), none, .nilCheck (.tmp 66), 3, [], true⟩,
  ⟨(some 70), none, .fieldAddr 13 (.tmp 69), 4, [], true⟩,
  ⟨none, none, .store 1 (.tmp 70) (.const (.bool true)), 5, [], true⟩,
  ⟨(some 71), none, .nilCheck (.tmp 67), 6, [], true⟩,
  ⟨(some 72), none, .fieldAddr 9 (.tmp 71), 7, [], true⟩,
  ⟨none, none, .store 1 (.tmp 72) (.const (.int .i64 3)), 8, [], true⟩,
  ⟨(some 73), none, .nilCheck (.tmp 68), 9, [], true⟩,
  ⟨(some 74), none, .fieldAddr 10 (.tmp 73), 10, [], true⟩,
  ⟨none, none, .store 1 (.tmp 74) (.const (.int .i64 0)), 11, [], true⟩])
 (.seq (.region 16 [
  ⟨(some 75), none, .mv (.tmp 0), 0, [], true⟩,
  ⟨(some 76), none, .nilCheck (.tmp 75), 1, [], true⟩,
  ⟨(some 77), none, .fieldAddr 7 (.tmp 76), 2, [], true⟩,
  ⟨(some 78), none, .load 1 false (.tmp 77), 3, [], true⟩,
  ⟨(some 79), none, .mv (.tmp 2), 4, [], false⟩,
  ⟨(some 80), none, .nilCheck (.tmp 79), 5, [], false⟩,
  ⟨(some 81), none, .fieldAddr 0 (.tmp 80), 6, [], false⟩,
  ⟨(some 82), none, .load 1 false (.tmp 81), 7, [], false⟩,
  ⟨(some 83), none, .mv (.tmp 2), 8, [], false⟩,
  ⟨(some 84), none, .nilCheck (.tmp 83), 9, [], false⟩,
  ⟨(some 85), none, .fieldAddr 2 (.tmp 84), 10, [], false⟩,
  ⟨(some 86), none, .load 1 false (.tmp 85), 11, [], false⟩,
  ⟨(some 87), none, .bin .mul (.const (.int .u64 2)) (.tmp 86), 12, [], false⟩,
  ⟨(some 88), none, .adSl 2 (.tmp 78) (.tmp 82), 13, [], true⟩,
  ⟨(some 89), none, .fieldAddr 0 (.tmp 88), 14, [], true⟩,
  ⟨none, none, .store 1 (.tmp 89) (.tmp 87), 15, [], true⟩])
 (.seq (.region 2 [
  ⟨(some 90), none, .build [(.bool false), (.int .u64 0), (.bool false), (.int .i64 0), (.bool false), (.int .u8 0), (.int .i64 0)] [], 0, [], true⟩,
  ⟨none, none, .store 7 (.tmp 6) (.tmp 90), 1, [], true⟩])
 .ret))) .skip))
 (.seq (.region 23 [
  ⟨(some 92), none, .mv (.tmp 0), 0, [], true⟩,
  ⟨(some 93), none, .nilCheck (.tmp 92), 1, [], true⟩,
  ⟨(some 94), none, .fieldAddr 1 (.tmp 93), 2, [], true⟩,
  ⟨(some 95), none, .load 1 false (.tmp 94), 3, [], true⟩,
  ⟨(some 96), none, .mv (.tmp 0), 4, [], false⟩,
  ⟨(some 97), none, .nilCheck (.tmp 96), 5, [], false⟩,
  ⟨(some 98), none, .fieldAddr 1 (.tmp 97), 6, [], false⟩,
  ⟨(some 99), none, .load 1 false (.tmp 98), 7, [], false⟩,
  ⟨(some 100), none, .mv (.tmp 8), 8, [], false⟩,
  ⟨(some 101), none, .mv (.tmp 2), 9, [], false⟩,
  ⟨(some 102), none, .nilCheck (.tmp 101), 10, [], false⟩,
  ⟨(some 103), none, .fieldAddr 10 (.tmp 102), 11, [], false⟩,
  ⟨(some 104), none, .load 1 false (.tmp 103), 12, [], false⟩,
  ⟨(some 105), none, .adSl 3 (.tmp 100) (.tmp 104), 13, [], false⟩,
  ⟨(some 106), none, .fieldAddr 0 (.tmp 105), 14, [], false⟩,
  ⟨(some 107), none, .load 1 false (.tmp 106), 15, [], false⟩,
  ⟨(some 108), none, .call (.func 135) [(.tmp 99), (.tmp 107)], 16, [(false, none, none, 3, .load 1 false (.tmp 94))], false⟩,
  ⟨(some 109), none, .call (.func 134) [(.tmp 95), (.tmp 108)], 17, [], true⟩,
  ⟨(some 91), none, .mv (.tmp 109), 18, [], true⟩,
  ⟨(some 110), none, .extract (.tmp 91) 0, 19, [], true⟩,
  ⟨(some 111), none, .extract (.tmp 91) 1, 20, [], false⟩,
  ⟨(some 9), none, .mv (.tmp 110), 21, [], false⟩,
  ⟨(some 10), none, .mv (.tmp 111), 22, [], true⟩])
 (.seq (.seq (.region 8 [
  ⟨(some 112), none, .mv (.tmp 9), 0, [], true⟩,
  ⟨(some 113), none, .mv (.tmp 1), 1, [], true⟩,
  ⟨(some 114), none, .mv (.tmp 2), 2, [], true⟩,
  ⟨(some 115), none, .nilCheck (.tmp 114), 3, [], true⟩,
  ⟨(some 116), none, .fieldAddr 1 (.tmp 115), 4, [], true⟩,
  ⟨(some 117), none, .load 1 false (.tmp 116), 5, [], true⟩,
  ⟨(some 118), none, .call (.func 136) [(.tmp 112), (.tmp 113), (.tmp 117)], 6, [], true⟩,
  ⟨(some 119), none, .un .not (.tmp 118), 7, [], true⟩])
 (.cond (.tmp 119) (.seq (.region 4 [
  ⟨(some 120), none, .mv (.tmp 0), 0, [], true⟩,
  ⟨(some 121), none, .mv (.tmp 1), 1, [], true⟩,
  ⟨(some 122), none, .call (.func 126) [(.tmp 120), (.tmp 121), (.const (.int .u8 1))], 2, [], true⟩,
  ⟨none, none, .store 7 (.tmp 6) (.tmp 122), 3, [], true⟩])
 .ret) .skip))
 (.seq (.region 8 [
  ⟨(some 123), none, .mv (.tmp 2), 0, [], true⟩,
  ⟨(some 124), none, .nilCheck (.tmp 123), 1, [], true⟩,
  ⟨(some 125), none, .fieldAddr 10 (.tmp 124), 2, [], true⟩,
  ⟨(some 126), none, .load 1 false (.tmp 125), 3, [], true⟩,
  ⟨(some 127), none, .bin .add (.tmp 126) (.const (.int .i64 1)), 4, [], true⟩,
  ⟨(some 128), none, .nilCheck (.tmp 123), 5, [], true⟩,
  ⟨(some 129), none, .fieldAddr 10 (.tmp 128), 6, [], true⟩,
  ⟨none, none, .store 1 (.tmp 129) (.tmp 127), 7, [], true⟩])
 (.seq (.region 2 [
  ⟨(some 130), none, .build [(.bool false), (.int .u64 0), (.bool false), (.int .i64 0), (.bool false), (.int .u8 0), (.int .i64 0)] [], 0, [], true⟩,
  ⟨none, none, .store 7 (.tmp 6) (.tmp 130), 1, [], true⟩])
 .ret)))))) (.seq (.region 2 [
  ⟨(some 132), none, .bin .eql (.tmp 19) (.const (.int .i64 3)), 0, [], true⟩,
  ⟨(some 131), none, .mv (.tmp 132), 1, [], true⟩])
 (.cond (.tmp 131) (.seq (.region 22 [
  ⟨(some 133), none, .mv (.tmp 0), 0, [], true⟩,
  ⟨(some 134), none, .nilCheck (.tmp 133), 1, [], true⟩,
  ⟨(some 135), none, .fieldAddr 0 (.tmp 134), 2, [], true⟩,
  ⟨(some 136), none, .load 1 false (.tmp 135), 3, [], true⟩,
  ⟨(some 137), none, .mv (.tmp 7), 4, [], false⟩,
  ⟨(some 138), none, .mv (.tmp 2), 5, [], false⟩,
  ⟨(some 139), none, .nilCheck (.tmp 138), 6, [], false⟩,
  ⟨(some 140), none, .fieldAddr 10 (.tmp 139), 7, [], false⟩,
  ⟨(some 141), none, .load 1 false (.tmp 140), 8, [], false⟩,
  ⟨(some 142), none, .adSl 2 (.tmp 137) (.tmp 141), 9, [], false⟩,
  ⟨(some 143), none, .fieldAddr 0 (.tmp 142), 10, [], false⟩,
  ⟨(some 144), none, .load 1 false (.tmp 143), 11, [], false⟩,
  ⟨(some 145), none, .mv (.tmp 7), 12, [], false⟩,
  ⟨(some 146), none, .mv (.tmp 2), 13, [], false⟩,
  ⟨(some 147), none, .nilCheck (.tmp 146), 14, [], false⟩,
  ⟨(some 148), none, .fieldAddr 10 (.tmp 147), 15, [], false⟩,
  ⟨(some 149), none, .load 1 false (.tmp 148), 16, [], false⟩,
  ⟨(some 150), none, .adSl 2 (.tmp 145) (.tmp 149), 17, [], false⟩,
  ⟨(some 151), none, .fieldAddr 1 (.tmp 150), 18, [], false⟩,
  ⟨(some 152), none, .load 1 false (.tmp 151), 19, [], false⟩,
  ⟨(some 153), none, .adSl 1 (.tmp 136) (.tmp 144), 20, [], true⟩,
  ⟨none, none, .store 1 (.tmp 153) (.tmp 152), 21, [], true⟩])
 (.seq (.region 8 [
  ⟨(some 154), none, .mv (.tmp 2), 0, [], true⟩,
  ⟨(some 155), none, .nilCheck (.tmp 154), 1, [], true⟩,
  ⟨(some 156), none, .fieldAddr 10 (.tmp 155), 2, [], true⟩,
  ⟨(some 157), none, .load 1 false (.tmp 156), 3, [], true⟩,
  ⟨(some 158), none, .bin .add (.tmp 157) (.const (.int .i64 1)), 4, [], true⟩,
  ⟨(some 159), none, .nilCheck (.tmp 154), 5, [], true⟩,
  ⟨(some 160), none, .fieldAddr 10 (.tmp 159), 6, [], true⟩,
  ⟨none, none, .store 1 (.tmp 160) (.tmp 158), 7, [], true⟩])
 (.seq (.seq (.region 7 [
  ⟨(some 161), none, .mv (.tmp 2), 0, [], true⟩,
  ⟨(some 162), none, .nilCheck (.tmp 161), 1, [], true⟩,
  ⟨(some 163), none, .fieldAddr 10 (.tmp 162), 2, [], true⟩,
  ⟨(some 164), none, .load 1 false (.tmp 163), 3, [], true⟩,
  ⟨(some 165), none, .mv (.tmp 7), 4, [], true⟩,
  ⟨(some 166), none, .len false (.tmp 165), 5, [], true⟩,
  ⟨(some 167), none, .bin .eql (.tmp 164) (.tmp 166), 6, [], true⟩])
 (.cond (.tmp 167) (.region 4 [
  ⟨(some 168), none, .mv (.tmp 2), 0, [], true⟩,
  ⟨(some 169), none, .nilCheck (.tmp 168), 1, [], true⟩,
  ⟨(some 170), none, .fieldAddr 9 (.tmp 169), 2, [], true⟩,
  ⟨none, none, .store 1 (.tmp 170) (.const (.int .i64 4)), 3, [], true⟩]) .skip))
 (.seq (.region 2 [
  ⟨(some 171), none, .build [(.bool false), (.int .u64 0), (.bool false), (.int .i64 0), (.bool false), (.int .u8 0), (.int .i64 0)] [], 0, [], true⟩,
  ⟨none, none, .store 7 (.tmp 6) (.tmp 171), 1, [], true⟩])
 .ret)))) .skip))))))))))
 (.seq (.region 18 [
  ⟨(some 172), none, .mv (.tmp 0), 0, [], true⟩,
  ⟨(some 173), none, .nilCheck (.tmp 172), 1, [], true⟩,
  ⟨(some 174), none, .fieldAddr 1 (.tmp 173), 2, [], true⟩,
  ⟨(some 175), none, .load 1 false (.tmp 174), 3, [], true⟩,
  ⟨(some 176), none, .mv (.tmp 1), 4, [], false⟩,
  ⟨(some 177), none, .mv (.tmp 0), 5, [], false⟩,
  ⟨(some 178), none, .nilCheck (.tmp 177), 6, [], false⟩,
  ⟨(some 179), none, .fieldAddr 1 (.tmp 178), 7, [], false⟩,
  ⟨(some 180), none, .load 1 false (.tmp 179), 8, [], false⟩,
  ⟨(some 181), none, .mv (.tmp 1), 9, [], false⟩,
  ⟨(some 185), none, .mv (.tmp 2), 13, [], false⟩,
  ⟨(some 186), none, .nilCheck (.tmp 185), 14, [], false⟩,
  ⟨(some 187), none, .fieldAddr 2 (.tmp 186), 15, [], false⟩,
  ⟨(some 188), none, .load 1 false (.tmp 187), 16, [], false⟩,
  ⟨(some 182), none, .call (.func 133) [(.tmp 180), (.tmp 181)], 10, [(false, none, none, 3, .load 1 false (.tmp 174)), (false, none, none, 16, .load 1 false (.tmp 187))], false⟩,
  ⟨(some 183), none, .adSl 1 (.tmp 182) (.const (.int .i64 0)), 11, [], false⟩,
  ⟨(some 184), none, .load 1 false (.tmp 183), 12, [], false⟩,
  ⟨(some 189), none, .call (.func 179) [(.tmp 175), (.tmp 176), (.tmp 184), (.tmp 188)], 17, [], true⟩])
 (.seq (.seq (.region 8 [
  ⟨(some 190), none, .mv (.tmp 0), 0, [], true⟩,
  ⟨(some 191), none, .nilCheck (.tmp 190), 1, [], true⟩,
  ⟨(some 192), none, .fieldAddr 1 (.tmp 191), 2, [], true⟩,
  ⟨(some 193), none, .load 1 false (.tmp 192), 3, [], true⟩,
  ⟨(some 194), none, .mv (.tmp 1), 4, [], true⟩,
  ⟨(some 195), none, .call (.func 133) [(.tmp 193), (.tmp 194)], 5, [], true⟩,
  ⟨(some 196), none, .len false (.tmp 195), 6, [], true⟩,
  ⟨(some 197), none, .bin .eql (.tmp 196) (.const (.int .i64 0)), 7, [], true⟩])
 (.cond (.tmp 197) (.seq (.region 4 [
  ⟨(some 198), none, .mv (.tmp 0), 0, [], true⟩,
  ⟨(some 199), none, .mv (.tmp 1), 1, [], true⟩,
  ⟨(some 200), none, .call (.func 175) [(.tmp 198), (.tmp 199)], 2, [], true⟩,
  ⟨none, none, .store 7 (.tmp 6) (.tmp 200), 3, [], true⟩])
 .ret) .skip))
 (.seq (.region 2 [
  ⟨(some 201), none, .build [(.bool false), (.int .u64 0), (.bool false), (.int .i64 0), (.bool false), (.int .u8 0), (.int .i64 0)] [], 0, [], true⟩,
  ⟨none, none, .store 7 (.tmp 6) (.tmp 201), 1, [], true⟩])
 .ret))))))⟩

def m129 : MFn := ⟨28, [(4, none)], (.seq (.region 2 [
  ⟨(some 3), none, .box 44 (.tmp 1), 0, [], true⟩,
  ⟨(some 4), none, .mv (.const (.bool false)), 1, [], true⟩])
 (.seq (.seq (.region 2 [
  ⟨(some 5), none, .fieldAddr 0 (.tmp 3), 0, [], true⟩,
  ⟨(some 6), none, .load 1 false (.tmp 5), 1, [], true⟩])
 (.block 0 (.seq (.region 2 [
  ⟨(some 8), none, .bin .eql (.tmp 6) (.const (.int .u8 3)), 0, [], true⟩,
  ⟨(some 7), none, .mv (.tmp 8), 1, [], true⟩])
 (.cond (.tmp 7) (.region 2 [
  ⟨(some 9), none, .mv (.tmp 0), 0, [], true⟩,
  ⟨(some 10), none, .call (.func 180) [(.tmp 9)], 1, [], true⟩]) (.seq (.region 2 [
  ⟨(some 12), none, .bin .eql (.tmp 6) (.const (.int .u8 4)), 0, [], true⟩,
  ⟨(some 11), none, .mv (.tmp 12), 1, [], true⟩])
 (.cond (.tmp 11) (.region 2 [
  ⟨(some 13), none, .mv (.tmp 0), 0, [], true⟩,
  ⟨(some 14), none, .call (.func 181) [(.tmp 13)], 1, [], true⟩]) (.seq (.region 2 [
  ⟨(some 16), none, .bin .eql (.tmp 6) (.const (.int .u8 5)), 0, [], true⟩,
  ⟨(some 15), none, .mv (.tmp 16), 1, [], true⟩])
 (.cond (.tmp 15) (.region 2 [
  ⟨(some 17), none, .mv (.tmp 0), 0, [], true⟩,
  ⟨(some 18), none, .call (.func 182) [(.tmp 17)], 1, [], true⟩]) (.seq (.region 2 [
  ⟨(some 20), none, .bin .eql (.tmp 6) (.const (.int .u8 2)), 0, [], true⟩,
  ⟨(some 19), none, .mv (.tmp 20), 1, [], true⟩])
 (.cond (.tmp 19) (.seq (.region 8 [
  ⟨(some 21), none, .mv (.tmp 0), 0, [], true⟩,
  ⟨(some 22), none, .fieldAddr 1 (.tmp 3), 1, [], true⟩,
  ⟨(some 23), none, .load 1 false (.tmp 22), 2, [], true⟩,
  ⟨(some 24), none, .fieldAddr 2 (.tmp 3), 3, [], true⟩,
  ⟨(some 25), none, .load 1 false (.tmp 24), 4, [], true⟩,
  ⟨(some 26), none, .call (.func 183) [(.tmp 21), (.tmp 23), (.tmp 25)], 5, [], true⟩,
  ⟨(some 27), none, .bin .eql (.tmp 26) (.const (.int .i64 0)), 6, [], true⟩,
  ⟨(some 4), none, .mv (.tmp 27), 7, [], true⟩])
 .ret) .skip))))))))))
 (.seq (.region 1 [
  ⟨(some 4), none, .mv (.const (.bool true)), 0, [], true⟩])
 .ret)))⟩

def m130 : MFn := ⟨25, [(4, (some (4, true)))], (.seq (.region 2 [
  ⟨(some 3), none, .box 44 (.tmp 1), 0, [], true⟩,
  ⟨(some 4), none, .alloc [(.int .u8 0), (.int .i64 0), (.int .i64 0), (.int .u64 0)] 108, 1, [], true⟩])
 (.seq (.seq (.region 2 [
  ⟨(some 5), none, .fieldAddr 0 (.tmp 3), 0, [], true⟩,
  ⟨(some 6), none, .load 1 false (.tmp 5), 1, [], true⟩])
 (.block 0 (.seq (.region 2 [
  ⟨(some 8), none, .bin .eql (.tmp 6) (.const (.int .u8 3)), 0, [], true⟩,
  ⟨(some 7), none, .mv (.tmp 8), 1, [], true⟩])
 (.cond (.tmp 7) (.seq (.region 3 [
  ⟨(some 9), none, .mv (.tmp 0), 0, [], true⟩,
  ⟨(some 10), none, .build [(.int .u8 0), (.int .i64 0), (.int .i64 0), (.int .u64 0)] [(0, 1, (.const (.int .u8 4))), (1, 1, (.tmp 9))], 1, [], true⟩,
  ⟨none, none, .store 4 (.tmp 4) (.tmp 10), 2, [], true⟩])
 .ret) (.seq (.region 2 [
  ⟨(some 12), none, .bin .eql (.tmp 6) (.const (.int .u8 4)), 0, [], true⟩,
  ⟨(some 11), none, .mv (.tmp 12), 1, [], true⟩])
 (.cond (.tmp 11) (.seq (.region 3 [
  ⟨(some 13), none, .mv (.tmp 0), 0, [], true⟩,
  ⟨(some 14), none, .build [(.int .u8 0), (.int .i64 0), (.int .i64 0), (.int .u64 0)] [(0, 1, (.const (.int .u8 5))), (1, 1, (.tmp 13))], 1, [], true⟩,
  ⟨none, none, .store 4 (.tmp 4) (.tmp 14), 2, [], true⟩])
 .ret) (.seq (.region 2 [
  ⟨(some 16), none, .bin .eql (.tmp 6) (.const (.int .u8 5)), 0, [], true⟩,
  ⟨(some 15), none, .mv (.tmp 16), 1, [], true⟩])
 (.cond (.tmp 15) (.seq (.region 3 [
  ⟨(some 17), none, .mv (.tmp 0), 0, [], true⟩,
  ⟨(some 18), none, .build [(.int .u8 0), (.int .i64 0), (.int .i64 0), (.int .u64 0)] [(0, 1, (.const (.int .u8 6))), (1, 1, (.tmp 17))], 1, [], true⟩,
  ⟨none, none, .store 4 (.tmp 4) (.tmp 18), 2, [], true⟩])
 .ret) .skip))))))))
 (.seq (.region 7 [
  ⟨(some 19), none, .mv (.tmp 0), 0, [], true⟩,
  ⟨(some 20), none, .fieldAddr 1 (.tmp 3), 1, [], true⟩,
  ⟨(some 21), none, .load 1 false (.tmp 20), 2, [], true⟩,
  ⟨(some 22), none, .fieldAddr 2 (.tmp 3), 3, [], true⟩,
  ⟨(some 23), none, .load 1 false (.tmp 22), 4, [], true⟩,
  ⟨(some 24), none, .build [(.int .u8 0), (.int .i64 0), (.int .i64 0), (.int .u64 0)] [(0, 1, (.const (.int .u8 3))), (1, 1, (.tmp 19)), (2, 1, (.tmp 21)), (3, 1, (.tmp 23))], 5, [], true⟩,
  ⟨none, none, .store 4 (.tmp 4) (.tmp 24), 6, [], true⟩])
 .ret)))⟩

def m131 : MFn := ⟨18, [(4, none)], (.seq (.region 1 [
  ⟨(some 4), none, .mv (.const (.pointer none)), 0, [], true⟩])
 (.seq (.seq (.region 7 [
  ⟨(some 5), none, .mv (.tmp 0), 0, [], true⟩,
  ⟨(some 6), none, .eq false .ptr (.tmp 5) (.const (.pointer none)), 1, [], true⟩,
  ⟨(some 7), none, .mv (.tmp 6), 2, [], true⟩,
  ⟨(some 8), (some (7, false)), .mv (.tmp 1), 3, [], true⟩,
  ⟨(some 9), (some (7, false)), .call (.func 120) [(.tmp 8)], 4, [], true⟩,
  ⟨(some 10), (some (7, false)), .bin .neq (.tmp 9) (.const (.int .i64 0)), 5, [], true⟩,
  ⟨(some 11), none, .pick (.tmp 7) (.const (.bool true)) (.tmp 10), 6, [], true⟩])
 (.cond (.tmp 11) (.seq (.region 1 [
  ⟨(some 4), none, .mv (.const (.pointer none)), 0, [], true⟩])
 .ret) .skip))
 (.seq (.region 7 [
  ⟨(some 12), none, .mv (.tmp 0), 0, [], true⟩,
  ⟨(some 13), none, .mv (.tmp 1), 1, [], true⟩,
  ⟨(some 14), none, .nilCheck (.tmp 12), 2, [], true⟩,
  ⟨(some 15), none, .fieldAddr 2 (.tmp 14), 3, [], true⟩,
  ⟨(some 16), none, .adArr 4 1 (.tmp 15) (.tmp 13), 4, [], true⟩,
  ⟨(some 17), none, .load 1 false (.tmp 16), 5, [], true⟩,
  ⟨(some 4), none, .mv (.tmp 17), 6, [], true⟩])
 .ret)))⟩

end Ev
