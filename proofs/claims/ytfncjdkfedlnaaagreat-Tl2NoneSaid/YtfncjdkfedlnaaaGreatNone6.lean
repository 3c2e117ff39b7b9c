/- Tl2None: for every deed, every values and number the law returns true, and each argument reads as it did; by an evaluator of the compiled code that is proved sound for the model. Part 6 of 11. -/
import Derived.Test.YtfncjdkfedlnaaaGreatNone5
set_option linter.unusedSimpArgs false
set_option linter.unusedVariables false

/- Compiled functions. -/
namespace Ev
open Go

def m196 : MFn := ⟨11, [(2, none)], (.seq (.region 1 [
  ⟨(some 2), none, .mv (.const (.int .i64 0)), 0, [], true⟩])
 (.seq (.region 7 [
  ⟨(some 6), none, .mv (.tmp 0), 0, [], true⟩,
  ⟨(some 7), none, .call (.func 232) [(.tmp 6)], 1, [], true⟩,
  ⟨(some 5), none, .mv (.tmp 7), 2, [], true⟩,
  ⟨(some 8), none, .extract (.tmp 5) 0, 3, [], true⟩,
  ⟨(some 9), none, .extract (.tmp 5) 1, 4, [], true⟩,
  ⟨(some 3), none, .mv (.tmp 8), 5, [], true⟩,
  ⟨(some 4), none, .mv (.tmp 9), 6, [], true⟩])
 (.seq (.region 2 [
  ⟨(some 10), none, .mv (.tmp 4), 0, [], true⟩,
  ⟨(some 2), none, .mv (.tmp 10), 1, [], true⟩])
 .ret)))⟩

def m197 : MFn := ⟨45, [(2, none)], (.seq (.region 1 [
  ⟨(some 2), none, .mv (.const (.int .i64 0)), 0, [], true⟩])
 (.seq (.region 7 [
  ⟨(some 9), none, .mv (.tmp 0), 0, [], true⟩,
  ⟨(some 10), none, .call (.func 232) [(.tmp 9)], 1, [], true⟩,
  ⟨(some 8), none, .mv (.tmp 10), 2, [], true⟩,
  ⟨(some 11), none, .extract (.tmp 8) 0, 3, [], true⟩,
  ⟨(some 12), none, .extract (.tmp 8) 1, 4, [], true⟩,
  ⟨(some 3), none, .mv (.tmp 11), 5, [], true⟩,
  ⟨(some 4), none, .mv (.tmp 12), 6, [], true⟩])
 (.seq (.seq (.region 2 [
  ⟨(some 13), none, .mv (.tmp 4), 0, [], true⟩,
  ⟨(some 14), none, .bin .neq (.tmp 13) (.const (.int .i64 0)), 1, [], true⟩])
 (.cond (.tmp 14) (.seq (.region 2 [
  ⟨(some 15), none, .mv (.tmp 4), 0, [], true⟩,
  ⟨(some 2), none, .mv (.tmp 15), 1, [], true⟩])
 .ret) .skip))
 (.seq (.region 8 [
  ⟨(some 16), none, .mv (.tmp 0), 0, [], true⟩,
  ⟨(some 17), none, .nilCheck (.tmp 16), 1, [], true⟩,
  ⟨(some 18), none, .fieldAddr 0 (.tmp 17), 2, [], true⟩,
  ⟨(some 19), none, .load 1 false (.tmp 18), 3, [], true⟩,
  ⟨(some 20), none, .nilCheck (.tmp 19), 4, [], true⟩,
  ⟨(some 21), none, .fieldAddr 0 (.tmp 20), 5, [], true⟩,
  ⟨(some 22), none, .load 1 false (.tmp 21), 6, [], true⟩,
  ⟨(some 5), none, .mv (.tmp 22), 7, [], true⟩])
 (.seq (.seq (.region 3 [
  ⟨(some 23), none, .mv (.tmp 3), 0, [], true⟩,
  ⟨(some 24), none, .len false (.tmp 23), 1, [], true⟩,
  ⟨(some 25), none, .mv (.const (.int .i64 0)), 2, [], true⟩])
 (.block 0 (.loop (.seq (.region 1 [
  ⟨(some 26), none, .bin .lss (.tmp 25) (.tmp 24), 0, [], true⟩])
 (.seq (.cond (.tmp 26) .skip (.exit 0))
 (.seq (.block 1 (.seq (.region 4 [
  ⟨(some 27), none, .adSl 2 (.tmp 23) (.tmp 25), 0, [], true⟩,
  ⟨(some 28), none, .load 2 true (.tmp 27), 1, [], true⟩,
  ⟨(some 7), none, .alloc [(.int .i64 0), (.int .u64 0)] 138, 2, [], true⟩,
  ⟨none, none, .store 2 (.tmp 7) (.tmp 28), 3, [], true⟩])
 (.region 4 [
  ⟨(some 29), none, .mv (.tmp 5), 0, [], true⟩,
  ⟨(some 30), none, .load 2 true (.tmp 7), 1, [], true⟩,
  ⟨(some 31), none, .call (.func 233) [(.tmp 29), (.tmp 30)], 2, [], true⟩,
  ⟨(some 5), none, .mv (.tmp 31), 3, [], true⟩])))
 (.region 2 [
  ⟨(some 32), none, .bin .add (.tmp 25) (.const (.int .i64 1)), 0, [], true⟩,
  ⟨(some 25), none, .mv (.tmp 32), 1, [], true⟩])))))))
 (.seq (.region 13 [
  ⟨(some 33), none, .mv (.tmp 0), 0, [], true⟩,
  ⟨(some 34), none, .mv (.tmp 0), 1, [], true⟩,
  ⟨(some 35), none, .nilCheck (.tmp 34), 2, [], true⟩,
  ⟨(some 36), none, .fieldAddr 0 (.tmp 35), 3, [], true⟩,
  ⟨(some 37), none, .load 1 false (.tmp 36), 4, [], true⟩,
  ⟨(some 38), none, .nilCheck (.tmp 37), 5, [], true⟩,
  ⟨(some 39), none, .fieldAddr 1 (.tmp 38), 6, [], true⟩,
  ⟨(some 40), none, .load 1 false (.tmp 39), 7, [], true⟩,
  ⟨(some 41), none, .mv (.tmp 5), 8, [], true⟩,
  ⟨(some 42), none, .call (.func 137) [(.tmp 40), (.tmp 41)], 9, [], true⟩,
  ⟨(some 43), none, .nilCheck (.tmp 33), 10, [], true⟩,
  ⟨(some 44), none, .fieldAddr 0 (.tmp 43), 11, [], true⟩,
  ⟨none, none, .store 1 (.tmp 44) (.tmp 42), 12, [], true⟩])
 (.seq (.region 1 [
  ⟨(some 2), none, .mv (.const (.int .i64 0)), 0, [], true⟩])
 .ret)))))))⟩

def m198 : MFn := ⟨64, [(6, none)], (.seq (.region 1 [
  ⟨(some 6), none, .mv (.const (.int .i64 0)), 0, [], true⟩])
 (.seq (.block 0 (.seq (.region 3 [
  ⟨(some 10), none, .mv (.tmp 0), 0, [], true⟩,
  ⟨(some 11), none, .eq false .ptr (.tmp 10) (.const (.pointer none)), 1, [], true⟩,
  ⟨(some 9), none, .mv (.tmp 11), 2, [], true⟩])
 (.cond (.tmp 9) (.seq (.region 1 [
  ⟨(some 6), none, .mv (.const (.int .i64 1)), 0, [], true⟩])
 .ret) (.seq (.region 7 [
  ⟨(some 13), none, .mv (.tmp 1), 0, [], true⟩,
  ⟨(some 14), none, .bin .lss (.tmp 13) (.const (.int .i64 0)), 1, [], true⟩,
  ⟨(some 15), none, .mv (.tmp 14), 2, [], true⟩,
  ⟨(some 16), (some (15, false)), .mv (.tmp 1), 3, [], true⟩,
  ⟨(some 17), (some (15, false)), .bin .geq (.tmp 16) (.const (.int .i64 12)), 4, [], true⟩,
  ⟨(some 18), none, .pick (.tmp 15) (.const (.bool true)) (.tmp 17), 5, [], true⟩,
  ⟨(some 12), none, .mv (.tmp 18), 6, [], true⟩])
 (.cond (.tmp 12) (.seq (.region 1 [
  ⟨(some 6), none, .mv (.const (.int .i64 2)), 0, [], true⟩])
 .ret) (.seq (.region 4 [
  ⟨(some 20), none, .mv (.tmp 2), 0, [], true⟩,
  ⟨(some 21), none, .call (.func 101) [(.tmp 20)], 1, [], true⟩,
  ⟨(some 22), none, .un .not (.tmp 21), 2, [], true⟩,
  ⟨(some 19), none, .mv (.tmp 22), 3, [], true⟩])
 (.cond (.tmp 19) (.seq (.region 1 [
  ⟨(some 6), none, .mv (.const (.int .i64 3)), 0, [], true⟩])
 .ret) .skip)))))))
 (.seq (.seq (.region 14 [
  ⟨(some 24), none, .mv (.tmp 0), 0, [], true⟩,
  ⟨(some 25), none, .nilCheck (.tmp 24), 1, [], true⟩,
  ⟨(some 26), none, .fieldAddr 0 (.tmp 25), 2, [], true⟩,
  ⟨(some 27), none, .load 1 false (.tmp 26), 3, [], true⟩,
  ⟨(some 28), none, .nilCheck (.tmp 27), 4, [], true⟩,
  ⟨(some 29), none, .fieldAddr 0 (.tmp 28), 5, [], true⟩,
  ⟨(some 30), none, .load 1 false (.tmp 29), 6, [], true⟩,
  ⟨(some 31), none, .mv (.tmp 1), 7, [], true⟩,
  ⟨(some 32), none, .call (.func 201) [(.tmp 30), (.tmp 31)], 8, [], true⟩,
  ⟨(some 23), none, .mv (.tmp 32), 9, [], true⟩,
  ⟨(some 33), none, .extract (.tmp 23) 0, 10, [], true⟩,
  ⟨(some 34), none, .extract (.tmp 23) 1, 11, [], true⟩,
  ⟨(some 7), none, .mv (.tmp 33), 12, [], true⟩,
  ⟨(some 8), none, .mv (.tmp 34), 13, [], true⟩])
 (.seq (.region 7 [
  ⟨(some 35), none, .mv (.tmp 8), 0, [], true⟩,
  ⟨(some 36), none, .un .not (.tmp 35), 1, [], true⟩,
  ⟨(some 37), none, .mv (.tmp 36), 2, [], true⟩,
  ⟨(some 38), (some (37, true)), .mv (.tmp 0), 3, [], true⟩,
  ⟨(some 39), (some (37, true)), .call (.func 234) [(.tmp 38)], 4, [], true⟩,
  ⟨(some 40), (some (37, true)), .bin .geq (.tmp 39) (.const (.int .i64 16)), 5, [], true⟩,
  ⟨(some 41), none, .pick (.tmp 37) (.tmp 40) (.const (.bool false)), 6, [], true⟩])
 (.cond (.tmp 41) (.seq (.region 1 [
  ⟨(some 6), none, .mv (.const (.int .i64 4)), 0, [], true⟩])
 .ret) .skip)))
 (.seq (.region 23 [
  ⟨(some 42), none, .mv (.tmp 0), 0, [], true⟩,
  ⟨(some 43), none, .mv (.tmp 0), 1, [], false⟩,
  ⟨(some 44), none, .nilCheck (.tmp 43), 2, [], false⟩,
  ⟨(some 45), none, .fieldAddr 0 (.tmp 44), 3, [], false⟩,
  ⟨(some 46), none, .load 1 false (.tmp 45), 4, [], false⟩,
  ⟨(some 47), none, .nilCheck (.tmp 46), 5, [], false⟩,
  ⟨(some 48), none, .fieldAddr 1 (.tmp 47), 6, [], false⟩,
  ⟨(some 49), none, .load 1 false (.tmp 48), 7, [], false⟩,
  ⟨(some 50), none, .mv (.tmp 0), 8, [], false⟩,
  ⟨(some 51), none, .nilCheck (.tmp 50), 9, [], false⟩,
  ⟨(some 52), none, .fieldAddr 0 (.tmp 51), 10, [], false⟩,
  ⟨(some 53), none, .load 1 false (.tmp 52), 11, [], false⟩,
  ⟨(some 54), none, .nilCheck (.tmp 53), 12, [], false⟩,
  ⟨(some 55), none, .fieldAddr 0 (.tmp 54), 13, [], false⟩,
  ⟨(some 56), none, .load 1 false (.tmp 55), 14, [], false⟩,
  ⟨(some 57), none, .mv (.tmp 1), 15, [], false⟩,
  ⟨(some 58), none, .mv (.tmp 2), 16, [], false⟩,
  ⟨(some 59), none, .build [(.int .i64 0), (.int .u64 0)] [(0, 1, (.tmp 57)), (1, 1, (.tmp 58))], 17, [], false⟩,
  ⟨(some 60), none, .call (.func 233) [(.tmp 56), (.tmp 59)], 18, [(false, none, none, 4, .load 1 false (.tmp 45)), (false, none, none, 7, .load 1 false (.tmp 48))], false⟩,
  ⟨(some 61), none, .call (.func 137) [(.tmp 49), (.tmp 60)], 19, [], false⟩,
  ⟨(some 62), none, .nilCheck (.tmp 42), 20, [], true⟩,
  ⟨(some 63), none, .fieldAddr 0 (.tmp 62), 21, [], true⟩,
  ⟨none, none, .store 1 (.tmp 63) (.tmp 61), 22, [], true⟩])
 (.seq (.region 1 [
  ⟨(some 6), none, .mv (.const (.int .i64 0)), 0, [], true⟩])
 .ret)))))⟩

def m199 : MFn := ⟨6, [], (.region 5 [
  ⟨(some 2), none, .mv (.tmp 0), 0, [], true⟩,
  ⟨(some 3), none, .build [(.int .u8 0), (.int .i64 0), (.int .u64 0)] [], 1, [], true⟩,
  ⟨(some 4), none, .nilCheck (.tmp 2), 2, [], true⟩,
  ⟨(some 5), none, .fieldAddr 5 (.tmp 4), 3, [], true⟩,
  ⟨none, none, .store 3 (.tmp 5) (.tmp 3), 4, [], true⟩])⟩

def m200 : MFn := ⟨4, [(2, none)], (.seq (.region 2 [
  ⟨(some 1), none, .box 183 (.tmp 0), 0, [], true⟩,
  ⟨(some 2), none, .mv (.const .nilFunc), 1, [], true⟩])
 (.seq (.region 2 [
  ⟨(some 3), none, .func (.func 235) [] [(.tmp 1)], 0, [], true⟩,
  ⟨(some 2), none, .mv (.tmp 3), 1, [], true⟩])
 .ret))⟩

def m201 : MFn := ⟨21, [(4, none), (5, none)], (.seq (.region 2 [
  ⟨(some 4), none, .mv (.const (.int .u64 0)), 0, [], true⟩,
  ⟨(some 5), none, .mv (.const (.bool false)), 1, [], true⟩])
 (.seq (.seq (.region 3 [
  ⟨(some 8), none, .mv (.tmp 0), 0, [], true⟩,
  ⟨(some 9), none, .len false (.tmp 8), 1, [], true⟩,
  ⟨(some 10), none, .mv (.const (.int .i64 0)), 2, [], true⟩])
 (.block 0 (.loop (.seq (.region 1 [
  ⟨(some 11), none, .bin .lss (.tmp 10) (.tmp 9), 0, [], true⟩])
 (.seq (.cond (.tmp 11) .skip (.exit 0))
 (.seq (.block 1 (.seq (.region 4 [
  ⟨(some 12), none, .adSl 2 (.tmp 8) (.tmp 10), 0, [], true⟩,
  ⟨(some 13), none, .load 2 true (.tmp 12), 1, [], true⟩,
  ⟨(some 7), none, .alloc [(.int .i64 0), (.int .u64 0)] 138, 2, [], true⟩,
  ⟨none, none, .store 2 (.tmp 7) (.tmp 13), 3, [], true⟩])
 (.seq (.region 4 [
  ⟨(some 14), none, .fieldAddr 0 (.tmp 7), 0, [], true⟩,
  ⟨(some 15), none, .load 1 false (.tmp 14), 1, [], true⟩,
  ⟨(some 16), none, .mv (.tmp 1), 2, [], true⟩,
  ⟨(some 17), none, .bin .eql (.tmp 15) (.tmp 16), 3, [], true⟩])
 (.cond (.tmp 17) (.seq (.region 4 [
  ⟨(some 18), none, .fieldAddr 1 (.tmp 7), 0, [], true⟩,
  ⟨(some 19), none, .load 1 false (.tmp 18), 1, [], true⟩,
  ⟨(some 4), none, .mv (.tmp 19), 2, [], true⟩,
  ⟨(some 5), none, .mv (.const (.bool true)), 3, [], true⟩])
 .ret) .skip))))
 (.region 2 [
  ⟨(some 20), none, .bin .add (.tmp 10) (.const (.int .i64 1)), 0, [], true⟩,
  ⟨(some 10), none, .mv (.tmp 20), 1, [], true⟩])))))))
 (.seq (.region 2 [
  ⟨(some 4), none, .mv (.const (.int .u64 0)), 0, [], true⟩,
  ⟨(some 5), none, .mv (.const (.bool false)), 1, [], true⟩])
 .ret)))⟩

def m202 : MFn := ⟨17, [(2, (some (5, true)))], (.seq (.region 1 [
  ⟨(some 2), none, .alloc [(.bool false), (.bool false), (.bool false), (.bool false), (.bool false)] 249, 0, [], true⟩])
 (.seq (.region 1 [
  ⟨(some 3), none, .alloc [(.bool false), (.bool false), (.bool false), (.bool false), (.bool false)] 249, 0, [], true⟩])
 (.seq (.seq (.region 1 [
  ⟨(some 5), none, .mv (.const (.int .i64 0)), 0, [], true⟩])
 (.block 0 (.loop (.seq (.region 1 [
  ⟨(some 6), none, .bin .lss (.tmp 5) (.const (.int .i64 5)), 0, [], true⟩])
 (.seq (.cond (.tmp 6) .skip (.exit 0))
 (.seq (.block 1 (.seq (.region 2 [
  ⟨(some 7), none, .mv (.tmp 5), 0, [], true⟩,
  ⟨(some 4), none, .mv (.tmp 7), 1, [], true⟩])
 (.region 8 [
  ⟨(some 8), none, .mv (.tmp 4), 0, [], true⟩,
  ⟨(some 9), none, .mv (.tmp 0), 1, [], true⟩,
  ⟨(some 10), none, .mv (.tmp 4), 2, [], true⟩,
  ⟨(some 11), none, .bin .shr (.tmp 9) (.tmp 10), 3, [], true⟩,
  ⟨(some 12), none, .bin .and (.tmp 11) (.const (.int .u64 1)), 4, [], true⟩,
  ⟨(some 13), none, .bin .eql (.tmp 12) (.const (.int .u64 1)), 5, [], true⟩,
  ⟨(some 14), none, .adArr 5 1 (.tmp 3) (.tmp 8), 6, [], true⟩,
  ⟨none, none, .store 1 (.tmp 14) (.tmp 13), 7, [], true⟩])))
 (.region 2 [
  ⟨(some 15), none, .bin .add (.tmp 5) (.const (.int .i64 1)), 0, [], true⟩,
  ⟨(some 5), none, .mv (.tmp 15), 1, [], true⟩])))))))
 (.seq (.region 2 [
  ⟨(some 16), none, .load 5 true (.tmp 3), 0, [], true⟩,
  ⟨none, none, .store 5 (.tmp 2) (.tmp 16), 1, [], true⟩])
 .ret))))⟩

def m203 : MFn := ⟨16, [(2, none)], (.seq (.region 2 [
  ⟨(some 1), none, .box 207 (.tmp 0), 0, [], true⟩,
  ⟨(some 2), none, .mv (.const (.bool false)), 1, [], true⟩])
 (.seq (.region 14 [
  ⟨(some 3), none, .fieldAddr 1 (.tmp 1), 0, [], true⟩,
  ⟨(some 4), none, .load 1 false (.tmp 3), 1, [], true⟩,
  ⟨(some 5), none, .bin .leq (.tmp 4) (.const (.int .u64 1099511627776)), 2, [], true⟩,
  ⟨(some 6), none, .mv (.tmp 5), 3, [], true⟩,
  ⟨(some 7), (some (6, true)), .fieldAddr 0 (.tmp 1), 4, [], true⟩,
  ⟨(some 8), (some (6, true)), .load 1 false (.tmp 7), 5, [], true⟩,
  ⟨(some 9), (some (6, true)), .bin .eql (.tmp 8) (.const (.int .i64 (-1))), 6, [], true⟩,
  ⟨(some 10), (some (6, true)), .mv (.tmp 9), 7, [], true⟩,
  ⟨(some 11), (some (10, false)), .fieldAddr 0 (.tmp 1), 8, [], true⟩,
  ⟨(some 12), (some (10, false)), .load 1 false (.tmp 11), 9, [], true⟩,
  ⟨(some 13), (some (10, false)), .call (.func 236) [(.tmp 12)], 10, [], true⟩,
  ⟨(some 14), (some (6, true)), .pick (.tmp 10) (.const (.bool true)) (.tmp 13), 11, [], true⟩,
  ⟨(some 15), none, .pick (.tmp 6) (.tmp 14) (.const (.bool false)), 12, [], true⟩,
  ⟨(some 2), none, .mv (.tmp 15), 13, [], true⟩])
 .ret))⟩

def m204 : MFn := ⟨38, [(6, none)], (.seq (.region 1 [
  ⟨(some 6), none, .mv (.const (.int .i64 0)), 0, [], true⟩])
 (.seq (.seq (.region 4 [
  ⟨(some 10), none, .mv (.tmp 0), 0, [], true⟩,
  ⟨(some 11), none, .mv (.tmp 1), 1, [], true⟩,
  ⟨(some 12), none, .call (.func 145) [(.tmp 10), (.tmp 11)], 2, [], true⟩,
  ⟨(some 7), none, .mv (.tmp 12), 3, [], true⟩])
 (.seq (.region 2 [
  ⟨(some 13), none, .mv (.tmp 7), 0, [], true⟩,
  ⟨(some 14), none, .bin .neq (.tmp 13) (.const (.int .i64 0)), 1, [], true⟩])
 (.cond (.tmp 14) (.seq (.region 2 [
  ⟨(some 15), none, .mv (.tmp 7), 0, [], true⟩,
  ⟨(some 6), none, .mv (.tmp 15), 1, [], true⟩])
 .ret) .skip)))
 (.seq (.region 14 [
  ⟨(some 17), none, .mv (.tmp 2), 0, [], true⟩,
  ⟨(some 18), none, .mv (.tmp 0), 1, [], true⟩,
  ⟨(some 19), none, .nilCheck (.tmp 18), 2, [], true⟩,
  ⟨(some 20), none, .fieldAddr 1 (.tmp 19), 3, [], true⟩,
  ⟨(some 21), none, .load 1 false (.tmp 20), 4, [], true⟩,
  ⟨(some 22), none, .mv (.tmp 1), 5, [], true⟩,
  ⟨(some 23), none, .adSl 1 (.tmp 21) (.tmp 22), 6, [], true⟩,
  ⟨(some 24), none, .load 1 false (.tmp 23), 7, [], true⟩,
  ⟨(some 25), none, .call (.tmp 17) [(.tmp 24)], 8, [], true⟩,
  ⟨(some 16), none, .mv (.tmp 25), 9, [], true⟩,
  ⟨(some 26), none, .extract (.tmp 16) 0, 10, [], true⟩,
  ⟨(some 27), none, .extract (.tmp 16) 1, 11, [], true⟩,
  ⟨(some 8), none, .mv (.tmp 26), 12, [], true⟩,
  ⟨(some 9), none, .mv (.tmp 27), 13, [], true⟩])
 (.seq (.seq (.region 2 [
  ⟨(some 28), none, .mv (.tmp 9), 0, [], true⟩,
  ⟨(some 29), none, .bin .eql (.tmp 28) (.const (.int .i64 0)), 1, [], true⟩])
 (.cond (.tmp 29) (.region 8 [
  ⟨(some 30), none, .mv (.tmp 0), 0, [], true⟩,
  ⟨(some 31), none, .nilCheck (.tmp 30), 1, [], true⟩,
  ⟨(some 32), none, .fieldAddr 1 (.tmp 31), 2, [], true⟩,
  ⟨(some 33), none, .load 1 false (.tmp 32), 3, [], true⟩,
  ⟨(some 34), none, .mv (.tmp 1), 4, [], true⟩,
  ⟨(some 35), none, .mv (.tmp 8), 5, [], true⟩,
  ⟨(some 36), none, .adSl 1 (.tmp 33) (.tmp 34), 6, [], true⟩,
  ⟨none, none, .store 1 (.tmp 36) (.tmp 35), 7, [], true⟩]) .skip))
 (.seq (.region 2 [
  ⟨(some 37), none, .mv (.tmp 9), 0, [], true⟩,
  ⟨(some 6), none, .mv (.tmp 37), 1, [], true⟩])
 .ret)))))⟩

def m205 : MFn := ⟨10, [(3, none), (4, none)], (.seq (.region 2 [
  ⟨(some 3), none, .mv (.const (.int .u64 0)), 0, [], true⟩,
  ⟨(some 4), none, .mv (.const (.int .i64 0)), 1, [], true⟩])
 (.seq (.region 7 [
  ⟨(some 5), none, .mv (.tmp 0), 0, [], true⟩,
  ⟨(some 6), none, .load 1 false (.tmp 1), 1, [], true⟩,
  ⟨(some 7), none, .call (.func 206) [(.tmp 5), (.tmp 6)], 2, [], true⟩,
  ⟨(some 8), none, .extract (.tmp 7) 0, 3, [], true⟩,
  ⟨(some 9), none, .extract (.tmp 7) 1, 4, [], true⟩,
  ⟨(some 3), none, .mv (.tmp 8), 5, [], true⟩,
  ⟨(some 4), none, .mv (.tmp 9), 6, [], true⟩])
 .ret))⟩

def m206 : MFn := ⟨28, [(4, none), (5, none)], (.seq (.region 2 [
  ⟨(some 4), none, .mv (.const (.int .u64 0)), 0, [], true⟩,
  ⟨(some 5), none, .mv (.const (.int .i64 0)), 1, [], true⟩])
 (.seq (.region 9 [
  ⟨(some 9), none, .mv (.tmp 0), 0, [], true⟩,
  ⟨(some 10), none, .mv (.tmp 1), 1, [], true⟩,
  ⟨(some 11), none, .call (.func 237) [(.tmp 9), (.tmp 10)], 2, [], true⟩,
  ⟨(some 8), none, .mv (.tmp 11), 3, [], true⟩,
  ⟨(some 12), none, .extract (.tmp 8) 0, 4, [], true⟩,
  ⟨(some 13), none, .extract (.tmp 8) 1, 5, [], true⟩,
  ⟨(some 6), none, .alloc [(.int .i64 0), (.int .u64 0)] 207, 6, [], true⟩,
  ⟨none, none, .store 2 (.tmp 6) (.tmp 12), 7, [], true⟩,
  ⟨(some 7), none, .mv (.tmp 13), 8, [], true⟩])
 (.seq (.block 0 (.seq (.region 3 [
  ⟨(some 15), none, .mv (.tmp 7), 0, [], true⟩,
  ⟨(some 16), none, .bin .neq (.tmp 15) (.const (.int .i64 0)), 1, [], true⟩,
  ⟨(some 14), none, .mv (.tmp 16), 2, [], true⟩])
 (.cond (.tmp 14) (.seq (.region 3 [
  ⟨(some 17), none, .mv (.tmp 7), 0, [], true⟩,
  ⟨(some 4), none, .mv (.const (.int .u64 0)), 1, [], true⟩,
  ⟨(some 5), none, .mv (.tmp 17), 2, [], true⟩])
 .ret) (.seq (.region 5 [
  ⟨(some 19), none, .fieldAddr 0 (.tmp 6), 0, [], true⟩,
  ⟨(some 20), none, .load 1 false (.tmp 19), 1, [], true⟩,
  ⟨(some 21), none, .mv (.tmp 1), 2, [], true⟩,
  ⟨(some 22), none, .bin .neq (.tmp 20) (.tmp 21), 3, [], true⟩,
  ⟨(some 18), none, .mv (.tmp 22), 4, [], true⟩])
 (.cond (.tmp 18) (.seq (.region 2 [
  ⟨(some 4), none, .mv (.const (.int .u64 0)), 0, [], true⟩,
  ⟨(some 5), none, .mv (.const (.int .i64 8)), 1, [], true⟩])
 .ret) .skip)))))
 (.seq (.region 7 [
  ⟨(some 23), none, .fieldAddr 1 (.tmp 6), 0, [], true⟩,
  ⟨(some 24), none, .load 1 false (.tmp 23), 1, [], true⟩,
  ⟨(some 25), none, .call (.func 238) [(.tmp 24)], 2, [], true⟩,
  ⟨(some 26), none, .extract (.tmp 25) 0, 3, [], true⟩,
  ⟨(some 27), none, .extract (.tmp 25) 1, 4, [], true⟩,
  ⟨(some 4), none, .mv (.tmp 26), 5, [], true⟩,
  ⟨(some 5), none, .mv (.tmp 27), 6, [], true⟩])
 .ret))))⟩

def m207 : MFn := ⟨76, [], (.seq (.region 2 [
  ⟨(some 10), none, .mv (.tmp 1), 0, [], true⟩,
  ⟨(some 8), none, .mv (.tmp 10), 1, [], true⟩])
 (.block 0 (.loop (.block 1 (.seq (.region 4 [
  ⟨(some 11), none, .mv (.tmp 8), 0, [], true⟩,
  ⟨(some 12), none, .bin .mul (.const (.int .i64 2)) (.tmp 11), 1, [], true⟩,
  ⟨(some 13), none, .bin .add (.tmp 12) (.const (.int .i64 1)), 2, [], true⟩,
  ⟨(some 9), none, .mv (.tmp 13), 3, [], true⟩])
 (.seq (.seq (.region 3 [
  ⟨(some 14), none, .mv (.tmp 9), 0, [], true⟩,
  ⟨(some 15), none, .mv (.tmp 2), 1, [], true⟩,
  ⟨(some 16), none, .bin .geq (.tmp 14) (.tmp 15), 2, [], true⟩])
 (.cond (.tmp 16) (.exit 0) .skip))
 (.seq (.seq (.region 20 [
  ⟨(some 17), none, .mv (.tmp 9), 0, [], true⟩,
  ⟨(some 18), none, .bin .add (.tmp 17) (.const (.int .i64 1)), 1, [], true⟩,
  ⟨(some 19), none, .mv (.tmp 2), 2, [], false⟩,
  ⟨(some 20), none, .bin .lss (.tmp 18) (.tmp 19), 3, [], true⟩,
  ⟨(some 21), none, .mv (.tmp 20), 4, [], true⟩,
  ⟨(some 22), (some (21, true)), .mv (.tmp 0), 5, [], true⟩,
  ⟨(some 23), (some (21, true)), .mv (.tmp 3), 6, [], false⟩,
  ⟨(some 24), (some (21, true)), .mv (.tmp 9), 7, [], false⟩,
  ⟨(some 25), (some (21, true)), .bin .add (.tmp 23) (.tmp 24), 8, [], false⟩,
  ⟨(some 26), (some (21, true)), .adSl 1 (.tmp 22) (.tmp 25), 9, [], true⟩,
  ⟨(some 27), (some (21, true)), .load 1 false (.tmp 26), 10, [], true⟩,
  ⟨(some 28), (some (21, true)), .mv (.tmp 0), 11, [], false⟩,
  ⟨(some 29), (some (21, true)), .mv (.tmp 3), 12, [], false⟩,
  ⟨(some 30), (some (21, true)), .mv (.tmp 9), 13, [], false⟩,
  ⟨(some 31), (some (21, true)), .bin .add (.tmp 29) (.tmp 30), 14, [], false⟩,
  ⟨(some 32), (some (21, true)), .bin .add (.tmp 31) (.const (.int .i64 1)), 15, [], false⟩,
  ⟨(some 33), (some (21, true)), .adSl 1 (.tmp 28) (.tmp 32), 16, [], false⟩,
  ⟨(some 34), (some (21, true)), .load 1 false (.tmp 33), 17, [], false⟩,
  ⟨(some 35), (some (21, true)), .call (.func 155) [(.tmp 27), (.tmp 34)], 18, [], true⟩,
  ⟨(some 36), none, .pick (.tmp 21) (.tmp 35) (.const (.bool false)), 19, [], true⟩])
 (.cond (.tmp 36) (.region 3 [
  ⟨(some 37), none, .mv (.tmp 9), 0, [], true⟩,
  ⟨(some 38), none, .bin .add (.tmp 37) (.const (.int .i64 1)), 1, [], true⟩,
  ⟨(some 9), none, .mv (.tmp 38), 2, [], true⟩]) .skip))
 (.seq (.seq (.region 14 [
  ⟨(some 39), none, .mv (.tmp 0), 0, [], true⟩,
  ⟨(some 40), none, .mv (.tmp 3), 1, [], false⟩,
  ⟨(some 41), none, .mv (.tmp 8), 2, [], false⟩,
  ⟨(some 42), none, .bin .add (.tmp 40) (.tmp 41), 3, [], false⟩,
  ⟨(some 43), none, .adSl 1 (.tmp 39) (.tmp 42), 4, [], true⟩,
  ⟨(some 44), none, .load 1 false (.tmp 43), 5, [], true⟩,
  ⟨(some 45), none, .mv (.tmp 0), 6, [], false⟩,
  ⟨(some 46), none, .mv (.tmp 3), 7, [], false⟩,
  ⟨(some 47), none, .mv (.tmp 9), 8, [], false⟩,
  ⟨(some 48), none, .bin .add (.tmp 46) (.tmp 47), 9, [], false⟩,
  ⟨(some 49), none, .adSl 1 (.tmp 45) (.tmp 48), 10, [], false⟩,
  ⟨(some 50), none, .load 1 false (.tmp 49), 11, [], false⟩,
  ⟨(some 51), none, .call (.func 155) [(.tmp 44), (.tmp 50)], 12, [], true⟩,
  ⟨(some 52), none, .un .not (.tmp 51), 13, [], true⟩])
 (.cond (.tmp 52) .ret .skip))
 (.seq (.region 24 [
  ⟨(some 53), none, .mv (.tmp 0), 0, [], true⟩,
  ⟨(some 54), none, .mv (.tmp 3), 1, [], false⟩,
  ⟨(some 55), none, .mv (.tmp 8), 2, [], false⟩,
  ⟨(some 56), none, .bin .add (.tmp 54) (.tmp 55), 3, [], false⟩,
  ⟨(some 57), none, .mv (.tmp 0), 4, [], false⟩,
  ⟨(some 58), none, .mv (.tmp 3), 5, [], false⟩,
  ⟨(some 59), none, .mv (.tmp 9), 6, [], false⟩,
  ⟨(some 60), none, .bin .add (.tmp 58) (.tmp 59), 7, [], false⟩,
  ⟨(some 61), none, .mv (.tmp 0), 8, [], false⟩,
  ⟨(some 62), none, .mv (.tmp 3), 9, [], false⟩,
  ⟨(some 63), none, .mv (.tmp 9), 10, [], false⟩,
  ⟨(some 64), none, .bin .add (.tmp 62) (.tmp 63), 11, [], false⟩,
  ⟨(some 65), none, .adSl 1 (.tmp 61) (.tmp 64), 12, [], false⟩,
  ⟨(some 66), none, .load 1 false (.tmp 65), 13, [], false⟩,
  ⟨(some 67), none, .mv (.tmp 0), 14, [], false⟩,
  ⟨(some 68), none, .mv (.tmp 3), 15, [], false⟩,
  ⟨(some 69), none, .mv (.tmp 8), 16, [], false⟩,
  ⟨(some 70), none, .bin .add (.tmp 68) (.tmp 69), 17, [], false⟩,
  ⟨(some 71), none, .adSl 1 (.tmp 67) (.tmp 70), 18, [], false⟩,
  ⟨(some 72), none, .load 1 false (.tmp 71), 19, [], false⟩,
  ⟨(some 73), none, .adSl 1 (.tmp 53) (.tmp 56), 20, [], false⟩,
  ⟨none, none, .store 1 (.tmp 73) (.tmp 66), 21, [], false⟩,
  ⟨(some 74), none, .adSl 1 (.tmp 57) (.tmp 60), 22, [], true⟩,
  ⟨none, none, .store 1 (.tmp 74) (.tmp 72), 23, [], true⟩])
 (.region 2 [
  ⟨(some 75), none, .mv (.tmp 9), 0, [], true⟩,
  ⟨(some 8), none, .mv (.tmp 75), 1, [], true⟩]))))))))))⟩

def m208 : MFn := ⟨7, [(2, none)], (.seq (.region 1 [
  ⟨(some 2), none, .mv (.const (.int .u64 0)), 0, [], true⟩])
 (.seq (.region 5 [
  ⟨(some 3), none, .mv (.tmp 0), 0, [], true⟩,
  ⟨(some 4), none, .conv .u64 (.tmp 3), 1, [], true⟩,
  ⟨(some 5), none, .call (.func 105) [(.tmp 4)], 2, [], true⟩,
  ⟨(some 6), none, .bin .shl (.const (.int .u64 1)) (.tmp 5), 3, [], true⟩,
  ⟨(some 2), none, .mv (.tmp 6), 4, [], true⟩])
 .ret))⟩

def m209 : MFn := ⟨33, [(2, none)], (.seq (.region 1 [
  ⟨(some 2), none, .mv (.const (.int .u64 0)), 0, [], true⟩])
 (.seq (.region 10 [
  ⟨(some 3), none, .mv (.tmp 0), 0, [], true⟩,
  ⟨(some 4), none, .nilCheck (.tmp 3), 1, [], true⟩,
  ⟨(some 5), none, .load 1 false (.tmp 4), 2, [], true⟩,
  ⟨(some 6), none, .mv (.tmp 0), 3, [], false⟩,
  ⟨(some 7), none, .nilCheck (.tmp 6), 4, [], false⟩,
  ⟨(some 8), none, .load 1 false (.tmp 7), 5, [], false⟩,
  ⟨(some 9), none, .bin .shl (.tmp 8) (.const (.int .u64 13)), 6, [], false⟩,
  ⟨(some 10), none, .bin .xor (.tmp 5) (.tmp 9), 7, [], true⟩,
  ⟨(some 11), none, .nilCheck (.tmp 3), 8, [], true⟩,
  ⟨none, none, .store 1 (.tmp 11) (.tmp 10), 9, [], true⟩])
 (.seq (.region 10 [
  ⟨(some 12), none, .mv (.tmp 0), 0, [], true⟩,
  ⟨(some 13), none, .nilCheck (.tmp 12), 1, [], true⟩,
  ⟨(some 14), none, .load 1 false (.tmp 13), 2, [], true⟩,
  ⟨(some 15), none, .mv (.tmp 0), 3, [], false⟩,
  ⟨(some 16), none, .nilCheck (.tmp 15), 4, [], false⟩,
  ⟨(some 17), none, .load 1 false (.tmp 16), 5, [], false⟩,
  ⟨(some 18), none, .bin .shr (.tmp 17) (.const (.int .u64 7)), 6, [], false⟩,
  ⟨(some 19), none, .bin .xor (.tmp 14) (.tmp 18), 7, [], true⟩,
  ⟨(some 20), none, .nilCheck (.tmp 12), 8, [], true⟩,
  ⟨none, none, .store 1 (.tmp 20) (.tmp 19), 9, [], true⟩])
 (.seq (.region 10 [
  ⟨(some 21), none, .mv (.tmp 0), 0, [], true⟩,
  ⟨(some 22), none, .nilCheck (.tmp 21), 1, [], true⟩,
  ⟨(some 23), none, .load 1 false (.tmp 22), 2, [], true⟩,
  ⟨(some 24), none, .mv (.tmp 0), 3, [], false⟩,
  ⟨(some 25), none, .nilCheck (.tmp 24), 4, [], false⟩,
  ⟨(some 26), none, .load 1 false (.tmp 25), 5, [], false⟩,
  ⟨(some 27), none, .bin .shl (.tmp 26) (.const (.int .u64 17)), 6, [], false⟩,
  ⟨(some 28), none, .bin .xor (.tmp 23) (.tmp 27), 7, [], true⟩,
  ⟨(some 29), none, .nilCheck (.tmp 21), 8, [], true⟩,
  ⟨none, none, .store 1 (.tmp 29) (.tmp 28), 9, [], true⟩])
 (.seq (.region 4 [
  ⟨(some 30), none, .mv (.tmp 0), 0, [], true⟩,
  ⟨(some 31), none, .nilCheck (.tmp 30), 1, [], true⟩,
  ⟨(some 32), none, .load 1 false (.tmp 31), 2, [], true⟩,
  ⟨(some 2), none, .mv (.tmp 32), 3, [], true⟩])
 .ret)))))⟩

def m210 : MFn := ⟨15, [(6, none)], (.seq (.region 1 [
  ⟨(some 6), none, .mv (.const (.int .i64 0)), 0, [], true⟩])
 (.seq (.region 9 [
  ⟨(some 7), none, .mv (.tmp 0), 0, [], true⟩,
  ⟨(some 8), none, .mv (.tmp 1), 1, [], true⟩,
  ⟨(some 9), none, .bin .sub (.tmp 8) (.const (.int .i64 1)), 2, [], true⟩,
  ⟨(some 10), none, .mv (.tmp 1), 3, [], true⟩,
  ⟨(some 11), none, .mv (.tmp 1), 4, [], true⟩,
  ⟨(some 12), none, .bin .add (.tmp 11) (.const (.int .i64 1)), 5, [], true⟩,
  ⟨(some 13), none, .mv (.tmp 2), 6, [], true⟩,
  ⟨(some 14), none, .call (.func 211) [(.tmp 7), (.tmp 9), (.tmp 10), (.tmp 12), (.tmp 13)], 7, [], true⟩,
  ⟨(some 6), none, .mv (.tmp 14), 8, [], true⟩])
 .ret))⟩

def m211 : MFn := ⟨36, [(10, none)], (.seq (.region 1 [
  ⟨(some 10), none, .mv (.const (.int .i64 0)), 0, [], true⟩])
 (.seq (.region 10 [
  ⟨(some 12), none, .mv (.tmp 0), 0, [], true⟩,
  ⟨(some 13), none, .mv (.tmp 1), 1, [], true⟩,
  ⟨(some 14), none, .mv (.tmp 2), 2, [], true⟩,
  ⟨(some 15), none, .mv (.tmp 4), 3, [], true⟩,
  ⟨(some 16), none, .call (.func 239) [(.tmp 12), (.tmp 13), (.tmp 14), (.tmp 15)], 4, [], true⟩,
  ⟨(some 11), none, .mv (.tmp 16), 5, [], true⟩,
  ⟨(some 17), none, .extract (.tmp 11) 0, 6, [], true⟩,
  ⟨(some 18), none, .extract (.tmp 11) 1, 7, [], true⟩,
  ⟨(some 1), none, .mv (.tmp 17), 8, [], true⟩,
  ⟨(some 2), none, .mv (.tmp 18), 9, [], true⟩])
 (.seq (.region 10 [
  ⟨(some 20), none, .mv (.tmp 0), 0, [], true⟩,
  ⟨(some 21), none, .mv (.tmp 2), 1, [], true⟩,
  ⟨(some 22), none, .mv (.tmp 3), 2, [], true⟩,
  ⟨(some 23), none, .mv (.tmp 4), 3, [], true⟩,
  ⟨(some 24), none, .call (.func 239) [(.tmp 20), (.tmp 21), (.tmp 22), (.tmp 23)], 4, [], true⟩,
  ⟨(some 19), none, .mv (.tmp 24), 5, [], true⟩,
  ⟨(some 25), none, .extract (.tmp 19) 0, 6, [], true⟩,
  ⟨(some 26), none, .extract (.tmp 19) 1, 7, [], true⟩,
  ⟨(some 2), none, .mv (.tmp 25), 8, [], true⟩,
  ⟨(some 3), none, .mv (.tmp 26), 9, [], true⟩])
 (.seq (.region 10 [
  ⟨(some 28), none, .mv (.tmp 0), 0, [], true⟩,
  ⟨(some 29), none, .mv (.tmp 1), 1, [], true⟩,
  ⟨(some 30), none, .mv (.tmp 2), 2, [], true⟩,
  ⟨(some 31), none, .mv (.tmp 4), 3, [], true⟩,
  ⟨(some 32), none, .call (.func 239) [(.tmp 28), (.tmp 29), (.tmp 30), (.tmp 31)], 4, [], true⟩,
  ⟨(some 27), none, .mv (.tmp 32), 5, [], true⟩,
  ⟨(some 33), none, .extract (.tmp 27) 0, 6, [], true⟩,
  ⟨(some 34), none, .extract (.tmp 27) 1, 7, [], true⟩,
  ⟨(some 1), none, .mv (.tmp 33), 8, [], true⟩,
  ⟨(some 2), none, .mv (.tmp 34), 9, [], true⟩])
 (.seq (.region 2 [
  ⟨(some 35), none, .mv (.tmp 2), 0, [], true⟩,
  ⟨(some 10), none, .mv (.tmp 35), 1, [], true⟩])
 .ret)))))⟩

def m212 : MFn := ⟨6, [(2, none)], (.seq (.region 1 [
  ⟨(some 2), none, .mv (.const (.bool false)), 0, [], true⟩])
 (.seq (.region 4 [
  ⟨(some 3), none, .mv (.tmp 0), 0, [], true⟩,
  ⟨(some 4), none, .mv (.tmp 0), 1, [], true⟩,
  ⟨(some 5), none, .bin .neq (.tmp 3) (.tmp 4), 2, [], true⟩,
  ⟨(some 2), none, .mv (.tmp 5), 3, [], true⟩])
 .ret))⟩

def m213 : MFn := ⟨29, [(6, none)], (.seq (.region 1 [
  ⟨(some 6), none, .mv (.const (.pointer none)), 0, [], true⟩])
 (.seq (.region 2 [
  ⟨(some 9), none, .call (.func 123) [], 0, [], true⟩,
  ⟨(some 7), none, .mv (.tmp 9), 1, [], true⟩])
 (.seq (.seq (.region 1 [
  ⟨(some 8), none, .mv (.const (.int .i64 0)), 0, [], true⟩])
 (.block 0 (.loop (.seq (.seq (.region 3 [
  ⟨(some 10), none, .mv (.tmp 8), 0, [], true⟩,
  ⟨(some 11), none, .mv (.tmp 1), 1, [], true⟩,
  ⟨(some 12), none, .bin .lss (.tmp 10) (.tmp 11), 2, [], true⟩])
 (.cond (.tmp 12) .skip (.exit 0)))
 (.seq (.block 1 (.seq (.region 7 [
  ⟨(some 15), none, .mv (.tmp 0), 0, [], true⟩,
  ⟨(some 16), none, .mv (.tmp 8), 1, [], true⟩,
  ⟨(some 17), none, .adSl 4 (.tmp 15) (.tmp 16), 2, [], true⟩,
  ⟨(some 18), none, .fieldAddr 1 (.tmp 17), 3, [], true⟩,
  ⟨(some 19), none, .load 1 false (.tmp 18), 4, [], true⟩,
  ⟨(some 20), none, .mv (.tmp 2), 5, [], true⟩,
  ⟨(some 21), none, .bin .eql (.tmp 19) (.tmp 20), 6, [], true⟩])
 (.cond (.tmp 21) (.region 6 [
  ⟨(some 22), none, .mv (.tmp 7), 0, [], true⟩,
  ⟨(some 23), none, .mv (.tmp 0), 1, [], true⟩,
  ⟨(some 24), none, .mv (.tmp 8), 2, [], true⟩,
  ⟨(some 25), none, .adSl 4 (.tmp 23) (.tmp 24), 3, [], true⟩,
  ⟨(some 26), none, .load 4 true (.tmp 25), 4, [], true⟩,
  ⟨(some 27), none, .call (.func 214) [(.tmp 22), (.tmp 26)], 5, [], true⟩]) .skip)))
 (.region 3 [
  ⟨(some 13), none, .mv (.tmp 8), 0, [], true⟩,
  ⟨(some 14), none, .bin .add (.tmp 13) (.const (.int .i64 1)), 1, [], true⟩,
  ⟨(some 8), none, .mv (.tmp 14), 2, [], true⟩]))))))
 (.seq (.region 2 [
  ⟨(some 28), none, .mv (.tmp 7), 0, [], true⟩,
  ⟨(some 6), none, .mv (.tmp 28), 1, [], true⟩])
 .ret))))⟩

def m214 : MFn := ⟨27, [(4, none)], (.seq (.region 2 [
  ⟨(some 3), none, .box 108 (.tmp 1), 0, [], true⟩,
  ⟨(some 4), none, .mv (.const (.int .i64 0)), 1, [], true⟩])
 (.seq (.seq (.region 2 [
  ⟨(some 5), none, .fieldAddr 0 (.tmp 3), 0, [], true⟩,
  ⟨(some 6), none, .load 1 false (.tmp 5), 1, [], true⟩])
 (.block 0 (.seq (.region 2 [
  ⟨(some 8), none, .bin .eql (.tmp 6) (.const (.int .u8 3)), 0, [], true⟩,
  ⟨(some 7), none, .mv (.tmp 8), 1, [], true⟩])
 (.cond (.tmp 7) (.seq (.region 7 [
  ⟨(some 9), none, .mv (.tmp 0), 0, [], true⟩,
  ⟨(some 10), none, .fieldAddr 2 (.tmp 3), 1, [], true⟩,
  ⟨(some 11), none, .load 1 false (.tmp 10), 2, [], true⟩,
  ⟨(some 12), none, .fieldAddr 3 (.tmp 3), 3, [], true⟩,
  ⟨(some 13), none, .load 1 false (.tmp 12), 4, [], true⟩,
  ⟨(some 14), none, .call (.func 183) [(.tmp 9), (.tmp 11), (.tmp 13)], 5, [], true⟩,
  ⟨(some 4), none, .mv (.tmp 14), 6, [], true⟩])
 .ret) (.seq (.region 2 [
  ⟨(some 16), none, .bin .eql (.tmp 6) (.const (.int .u8 4)), 0, [], true⟩,
  ⟨(some 15), none, .mv (.tmp 16), 1, [], true⟩])
 (.cond (.tmp 15) (.seq (.region 3 [
  ⟨(some 17), none, .mv (.tmp 0), 0, [], true⟩,
  ⟨(some 18), none, .call (.func 180) [(.tmp 17)], 1, [], true⟩,
  ⟨(some 4), none, .mv (.tmp 18), 2, [], true⟩])
 .ret) (.seq (.region 2 [
  ⟨(some 20), none, .bin .eql (.tmp 6) (.const (.int .u8 5)), 0, [], true⟩,
  ⟨(some 19), none, .mv (.tmp 20), 1, [], true⟩])
 (.cond (.tmp 19) (.seq (.region 3 [
  ⟨(some 21), none, .mv (.tmp 0), 0, [], true⟩,
  ⟨(some 22), none, .call (.func 181) [(.tmp 21)], 1, [], true⟩,
  ⟨(some 4), none, .mv (.tmp 22), 2, [], true⟩])
 .ret) (.seq (.region 2 [
  ⟨(some 24), none, .bin .eql (.tmp 6) (.const (.int .u8 6)), 0, [], true⟩,
  ⟨(some 23), none, .mv (.tmp 24), 1, [], true⟩])
 (.cond (.tmp 23) (.seq (.region 3 [
  ⟨(some 25), none, .mv (.tmp 0), 0, [], true⟩,
  ⟨(some 26), none, .call (.func 182) [(.tmp 25)], 1, [], true⟩,
  ⟨(some 4), none, .mv (.tmp 26), 2, [], true⟩])
 .ret) .skip))))))))))
 (.seq (.region 1 [
  ⟨(some 4), none, .mv (.const (.int .i64 0)), 0, [], true⟩])
 .ret)))⟩

def m215 : MFn := ⟨53, [], (.seq (.region 3 [
  ⟨(some 10), none, .mv (.tmp 1), 0, [], true⟩,
  ⟨(some 11), none, .bin .add (.tmp 10) (.const (.int .i64 1)), 1, [], true⟩,
  ⟨(some 8), none, .mv (.tmp 11), 2, [], true⟩])
 (.block 0 (.loop (.seq (.seq (.region 3 [
  ⟨(some 12), none, .mv (.tmp 8), 0, [], true⟩,
  ⟨(some 13), none, .mv (.tmp 2), 1, [], true⟩,
  ⟨(some 14), none, .bin .lss (.tmp 12) (.tmp 13), 2, [], true⟩])
 (.cond (.tmp 14) .skip (.exit 0)))
 (.seq (.block 1 (.seq (.region 2 [
  ⟨(some 17), none, .mv (.tmp 8), 0, [], true⟩,
  ⟨(some 9), none, .mv (.tmp 17), 1, [], true⟩])
 (.block 2 (.loop (.seq (.seq (.region 17 [
  ⟨(some 18), none, .mv (.tmp 9), 0, [], true⟩,
  ⟨(some 19), none, .mv (.tmp 1), 1, [], false⟩,
  ⟨(some 20), none, .bin .gtr (.tmp 18) (.tmp 19), 2, [], true⟩,
  ⟨(some 21), none, .mv (.tmp 20), 3, [], true⟩,
  ⟨(some 22), (some (21, true)), .mv (.tmp 3), 4, [], true⟩,
  ⟨(some 23), (some (21, true)), .mv (.tmp 0), 5, [], false⟩,
  ⟨(some 24), (some (21, true)), .mv (.tmp 9), 6, [], false⟩,
  ⟨(some 25), (some (21, true)), .adSl 3 (.tmp 23) (.tmp 24), 7, [], false⟩,
  ⟨(some 26), (some (21, true)), .load 3 true (.tmp 25), 8, [], false⟩,
  ⟨(some 27), (some (21, true)), .mv (.tmp 0), 9, [], false⟩,
  ⟨(some 28), (some (21, true)), .mv (.tmp 9), 10, [], false⟩,
  ⟨(some 29), (some (21, true)), .bin .sub (.tmp 28) (.const (.int .i64 1)), 11, [], false⟩,
  ⟨(some 30), (some (21, true)), .adSl 3 (.tmp 27) (.tmp 29), 12, [], false⟩,
  ⟨(some 31), (some (21, true)), .load 3 true (.tmp 30), 13, [], false⟩,
  ⟨(some 32), (some (21, true)), .call (.tmp 22) [(.tmp 26), (.tmp 31)], 14, [], true⟩,
  ⟨(some 33), (some (21, true)), .bin .lss (.tmp 32) (.const (.int .i64 0)), 15, [], true⟩,
  ⟨(some 34), none, .pick (.tmp 21) (.tmp 33) (.const (.bool false)), 16, [], true⟩])
 (.cond (.tmp 34) .skip (.exit 2)))
 (.seq (.block 3 (.region 18 [
  ⟨(some 37), none, .mv (.tmp 0), 0, [], true⟩,
  ⟨(some 38), none, .mv (.tmp 9), 1, [], false⟩,
  ⟨(some 39), none, .mv (.tmp 0), 2, [], false⟩,
  ⟨(some 40), none, .mv (.tmp 9), 3, [], false⟩,
  ⟨(some 41), none, .bin .sub (.tmp 40) (.const (.int .i64 1)), 4, [], false⟩,
  ⟨(some 42), none, .mv (.tmp 0), 5, [], false⟩,
  ⟨(some 43), none, .mv (.tmp 9), 6, [], false⟩,
  ⟨(some 44), none, .bin .sub (.tmp 43) (.const (.int .i64 1)), 7, [], false⟩,
  ⟨(some 45), none, .adSl 3 (.tmp 42) (.tmp 44), 8, [], false⟩,
  ⟨(some 46), none, .load 3 true (.tmp 45), 9, [], false⟩,
  ⟨(some 47), none, .mv (.tmp 0), 10, [], false⟩,
  ⟨(some 48), none, .mv (.tmp 9), 11, [], false⟩,
  ⟨(some 49), none, .adSl 3 (.tmp 47) (.tmp 48), 12, [], false⟩,
  ⟨(some 50), none, .load 3 true (.tmp 49), 13, [], false⟩,
  ⟨(some 51), none, .adSl 3 (.tmp 37) (.tmp 38), 14, [], false⟩,
  ⟨none, none, .store 3 (.tmp 51) (.tmp 46), 15, [], false⟩,
  ⟨(some 52), none, .adSl 3 (.tmp 39) (.tmp 41), 16, [], true⟩,
  ⟨none, none, .store 3 (.tmp 52) (.tmp 50), 17, [], true⟩]))
 (.region 3 [
  ⟨(some 35), none, .mv (.tmp 9), 0, [], true⟩,
  ⟨(some 36), none, .bin .sub (.tmp 35) (.const (.int .i64 1)), 1, [], true⟩,
  ⟨(some 9), none, .mv (.tmp 36), 2, [], true⟩])))))))
 (.region 3 [
  ⟨(some 15), none, .mv (.tmp 8), 0, [], true⟩,
  ⟨(some 16), none, .bin .add (.tmp 15) (.const (.int .i64 1)), 1, [], true⟩,
  ⟨(some 8), none, .mv (.tmp 16), 2, [], true⟩]))))))⟩

def m216 : MFn := ⟨220, [], (.seq (.seq (.region 4 [
  ⟨(some 25), none, .mv (.tmp 2), 0, [], true⟩,
  ⟨(some 26), none, .mv (.tmp 1), 1, [], true⟩,
  ⟨(some 27), none, .bin .sub (.tmp 25) (.tmp 26), 2, [], true⟩,
  ⟨(some 28), none, .bin .eql (.tmp 27) (.const (.int .i64 1)), 3, [], true⟩])
 (.cond (.tmp 28) (.seq (.region 2 [
  ⟨(some 29), none, .mv (.tmp 2), 0, [], true⟩,
  ⟨(some 10), none, .mv (.tmp 29), 1, [], true⟩])
 (.seq (.region 2 [
  ⟨(some 30), none, .mv (.tmp 3), 0, [], true⟩,
  ⟨(some 11), none, .mv (.tmp 30), 1, [], true⟩])
 (.seq (.block 0 (.loop (.seq (.seq (.region 3 [
  ⟨(some 31), none, .mv (.tmp 10), 0, [], true⟩,
  ⟨(some 32), none, .mv (.tmp 11), 1, [], true⟩,
  ⟨(some 33), none, .bin .lss (.tmp 31) (.tmp 32), 2, [], true⟩])
 (.cond (.tmp 33) .skip (.exit 0)))
 (.block 1 (.seq (.region 7 [
  ⟨(some 34), none, .mv (.tmp 10), 0, [], true⟩,
  ⟨(some 35), none, .mv (.tmp 11), 1, [], true⟩,
  ⟨(some 36), none, .bin .add (.tmp 34) (.tmp 35), 2, [], true⟩,
  ⟨(some 37), none, .conv .u64 (.tmp 36), 3, [], true⟩,
  ⟨(some 38), none, .bin .shr (.tmp 37) (.const (.int .u64 1)), 4, [], true⟩,
  ⟨(some 39), none, .conv .i64 (.tmp 38), 5, [], true⟩,
  ⟨(some 12), none, .mv (.tmp 39), 6, [], true⟩])
 (.seq (.region 11 [
  ⟨(some 40), none, .mv (.tmp 4), 0, [], true⟩,
  ⟨(some 41), none, .mv (.tmp 0), 1, [], false⟩,
  ⟨(some 42), none, .mv (.tmp 12), 2, [], false⟩,
  ⟨(some 43), none, .adSl 3 (.tmp 41) (.tmp 42), 3, [], false⟩,
  ⟨(some 44), none, .load 3 true (.tmp 43), 4, [], false⟩,
  ⟨(some 45), none, .mv (.tmp 0), 5, [], false⟩,
  ⟨(some 46), none, .mv (.tmp 1), 6, [], false⟩,
  ⟨(some 47), none, .adSl 3 (.tmp 45) (.tmp 46), 7, [], false⟩,
  ⟨(some 48), none, .load 3 true (.tmp 47), 8, [], false⟩,
  ⟨(some 49), none, .call (.tmp 40) [(.tmp 44), (.tmp 48)], 9, [], true⟩,
  ⟨(some 50), none, .bin .lss (.tmp 49) (.const (.int .i64 0)), 10, [], true⟩])
 (.cond (.tmp 50) (.region 3 [
  ⟨(some 51), none, .mv (.tmp 12), 0, [], true⟩,
  ⟨(some 52), none, .bin .add (.tmp 51) (.const (.int .i64 1)), 1, [], true⟩,
  ⟨(some 10), none, .mv (.tmp 52), 2, [], true⟩]) (.region 2 [
  ⟨(some 53), none, .mv (.tmp 12), 0, [], true⟩,
  ⟨(some 11), none, .mv (.tmp 53), 1, [], true⟩]))))))))
 (.seq (.seq (.region 2 [
  ⟨(some 54), none, .mv (.tmp 1), 0, [], true⟩,
  ⟨(some 13), none, .mv (.tmp 54), 1, [], true⟩])
 (.block 2 (.loop (.seq (.seq (.region 4 [
  ⟨(some 55), none, .mv (.tmp 13), 0, [], true⟩,
  ⟨(some 56), none, .mv (.tmp 10), 1, [], true⟩,
  ⟨(some 57), none, .bin .sub (.tmp 56) (.const (.int .i64 1)), 2, [], true⟩,
  ⟨(some 58), none, .bin .lss (.tmp 55) (.tmp 57), 3, [], true⟩])
 (.cond (.tmp 58) .skip (.exit 2)))
 (.seq (.block 3 (.region 18 [
  ⟨(some 61), none, .mv (.tmp 0), 0, [], true⟩,
  ⟨(some 62), none, .mv (.tmp 13), 1, [], false⟩,
  ⟨(some 63), none, .mv (.tmp 0), 2, [], false⟩,
  ⟨(some 64), none, .mv (.tmp 13), 3, [], false⟩,
  ⟨(some 65), none, .bin .add (.tmp 64) (.const (.int .i64 1)), 4, [], false⟩,
  ⟨(some 66), none, .mv (.tmp 0), 5, [], false⟩,
  ⟨(some 67), none, .mv (.tmp 13), 6, [], false⟩,
  ⟨(some 68), none, .bin .add (.tmp 67) (.const (.int .i64 1)), 7, [], false⟩,
  ⟨(some 69), none, .adSl 3 (.tmp 66) (.tmp 68), 8, [], false⟩,
  ⟨(some 70), none, .load 3 true (.tmp 69), 9, [], false⟩,
  ⟨(some 71), none, .mv (.tmp 0), 10, [], false⟩,
  ⟨(some 72), none, .mv (.tmp 13), 11, [], false⟩,
  ⟨(some 73), none, .adSl 3 (.tmp 71) (.tmp 72), 12, [], false⟩,
  ⟨(some 74), none, .load 3 true (.tmp 73), 13, [], false⟩,
  ⟨(some 75), none, .adSl 3 (.tmp 61) (.tmp 62), 14, [], false⟩,
  ⟨none, none, .store 3 (.tmp 75) (.tmp 70), 15, [], false⟩,
  ⟨(some 76), none, .adSl 3 (.tmp 63) (.tmp 65), 16, [], true⟩,
  ⟨none, none, .store 3 (.tmp 76) (.tmp 74), 17, [], true⟩]))
 (.region 3 [
  ⟨(some 59), none, .mv (.tmp 13), 0, [], true⟩,
  ⟨(some 60), none, .bin .add (.tmp 59) (.const (.int .i64 1)), 1, [], true⟩,
  ⟨(some 13), none, .mv (.tmp 60), 2, [], true⟩]))))))
 .ret)))) .skip))
 (.seq (.seq (.region 4 [
  ⟨(some 77), none, .mv (.tmp 3), 0, [], true⟩,
  ⟨(some 78), none, .mv (.tmp 2), 1, [], true⟩,
  ⟨(some 79), none, .bin .sub (.tmp 77) (.tmp 78), 2, [], true⟩,
  ⟨(some 80), none, .bin .eql (.tmp 79) (.const (.int .i64 1)), 3, [], true⟩])
 (.cond (.tmp 80) (.seq (.region 2 [
  ⟨(some 81), none, .mv (.tmp 1), 0, [], true⟩,
  ⟨(some 14), none, .mv (.tmp 81), 1, [], true⟩])
 (.seq (.region 2 [
  ⟨(some 82), none, .mv (.tmp 2), 0, [], true⟩,
  ⟨(some 15), none, .mv (.tmp 82), 1, [], true⟩])
 (.seq (.block 4 (.loop (.seq (.seq (.region 3 [
  ⟨(some 83), none, .mv (.tmp 14), 0, [], true⟩,
  ⟨(some 84), none, .mv (.tmp 15), 1, [], true⟩,
  ⟨(some 85), none, .bin .lss (.tmp 83) (.tmp 84), 2, [], true⟩])
 (.cond (.tmp 85) .skip (.exit 4)))
 (.block 5 (.seq (.region 7 [
  ⟨(some 86), none, .mv (.tmp 14), 0, [], true⟩,
  ⟨(some 87), none, .mv (.tmp 15), 1, [], true⟩,
  ⟨(some 88), none, .bin .add (.tmp 86) (.tmp 87), 2, [], true⟩,
  ⟨(some 89), none, .conv .u64 (.tmp 88), 3, [], true⟩,
  ⟨(some 90), none, .bin .shr (.tmp 89) (.const (.int .u64 1)), 4, [], true⟩,
  ⟨(some 91), none, .conv .i64 (.tmp 90), 5, [], true⟩,
  ⟨(some 16), none, .mv (.tmp 91), 6, [], true⟩])
 (.seq (.region 12 [
  ⟨(some 92), none, .mv (.tmp 4), 0, [], true⟩,
  ⟨(some 93), none, .mv (.tmp 0), 1, [], false⟩,
  ⟨(some 94), none, .mv (.tmp 2), 2, [], false⟩,
  ⟨(some 95), none, .adSl 3 (.tmp 93) (.tmp 94), 3, [], false⟩,
  ⟨(some 96), none, .load 3 true (.tmp 95), 4, [], false⟩,
  ⟨(some 97), none, .mv (.tmp 0), 5, [], false⟩,
  ⟨(some 98), none, .mv (.tmp 16), 6, [], false⟩,
  ⟨(some 99), none, .adSl 3 (.tmp 97) (.tmp 98), 7, [], false⟩,
  ⟨(some 100), none, .load 3 true (.tmp 99), 8, [], false⟩,
  ⟨(some 101), none, .call (.tmp 92) [(.tmp 96), (.tmp 100)], 9, [], true⟩,
  ⟨(some 102), none, .bin .lss (.tmp 101) (.const (.int .i64 0)), 10, [], true⟩,
  ⟨(some 103), none, .un .not (.tmp 102), 11, [], true⟩])
 (.cond (.tmp 103) (.region 3 [
  ⟨(some 104), none, .mv (.tmp 16), 0, [], true⟩,
  ⟨(some 105), none, .bin .add (.tmp 104) (.const (.int .i64 1)), 1, [], true⟩,
  ⟨(some 14), none, .mv (.tmp 105), 2, [], true⟩]) (.region 2 [
  ⟨(some 106), none, .mv (.tmp 16), 0, [], true⟩,
  ⟨(some 15), none, .mv (.tmp 106), 1, [], true⟩]))))))))
 (.seq (.seq (.region 2 [
  ⟨(some 107), none, .mv (.tmp 2), 0, [], true⟩,
  ⟨(some 17), none, .mv (.tmp 107), 1, [], true⟩])
 (.block 6 (.loop (.seq (.seq (.region 3 [
  ⟨(some 108), none, .mv (.tmp 17), 0, [], true⟩,
  ⟨(some 109), none, .mv (.tmp 14), 1, [], true⟩,
  ⟨(some 110), none, .bin .gtr (.tmp 108) (.tmp 109), 2, [], true⟩])
 (.cond (.tmp 110) .skip (.exit 6)))
 (.seq (.block 7 (.region 18 [
  ⟨(some 113), none, .mv (.tmp 0), 0, [], true⟩,
  ⟨(some 114), none, .mv (.tmp 17), 1, [], false⟩,
  ⟨(some 115), none, .mv (.tmp 0), 2, [], false⟩,
  ⟨(some 116), none, .mv (.tmp 17), 3, [], false⟩,
  ⟨(some 117), none, .bin .sub (.tmp 116) (.const (.int .i64 1)), 4, [], false⟩,
  ⟨(some 118), none, .mv (.tmp 0), 5, [], false⟩,
  ⟨(some 119), none, .mv (.tmp 17), 6, [], false⟩,
  ⟨(some 120), none, .bin .sub (.tmp 119) (.const (.int .i64 1)), 7, [], false⟩,
  ⟨(some 121), none, .adSl 3 (.tmp 118) (.tmp 120), 8, [], false⟩,
  ⟨(some 122), none, .load 3 true (.tmp 121), 9, [], false⟩,
  ⟨(some 123), none, .mv (.tmp 0), 10, [], false⟩,
  ⟨(some 124), none, .mv (.tmp 17), 11, [], false⟩,
  ⟨(some 125), none, .adSl 3 (.tmp 123) (.tmp 124), 12, [], false⟩,
  ⟨(some 126), none, .load 3 true (.tmp 125), 13, [], false⟩,
  ⟨(some 127), none, .adSl 3 (.tmp 113) (.tmp 114), 14, [], false⟩,
  ⟨none, none, .store 3 (.tmp 127) (.tmp 122), 15, [], false⟩,
  ⟨(some 128), none, .adSl 3 (.tmp 115) (.tmp 117), 16, [], true⟩,
  ⟨none, none, .store 3 (.tmp 128) (.tmp 126), 17, [], true⟩]))
 (.region 3 [
  ⟨(some 111), none, .mv (.tmp 17), 0, [], true⟩,
  ⟨(some 112), none, .bin .sub (.tmp 111) (.const (.int .i64 1)), 1, [], true⟩,
  ⟨(some 17), none, .mv (.tmp 112), 2, [], true⟩]))))))
 .ret)))) .skip))
 (.seq (.region 7 [
  ⟨(some 129), none, .mv (.tmp 1), 0, [], true⟩,
  ⟨(some 130), none, .mv (.tmp 3), 1, [], true⟩,
  ⟨(some 131), none, .bin .add (.tmp 129) (.tmp 130), 2, [], true⟩,
  ⟨(some 132), none, .conv .u64 (.tmp 131), 3, [], true⟩,
  ⟨(some 133), none, .bin .shr (.tmp 132) (.const (.int .u64 1)), 4, [], true⟩,
  ⟨(some 134), none, .conv .i64 (.tmp 133), 5, [], true⟩,
  ⟨(some 18), none, .mv (.tmp 134), 6, [], true⟩])
 (.seq (.region 4 [
  ⟨(some 135), none, .mv (.tmp 18), 0, [], true⟩,
  ⟨(some 136), none, .mv (.tmp 2), 1, [], true⟩,
  ⟨(some 137), none, .bin .add (.tmp 135) (.tmp 136), 2, [], true⟩,
  ⟨(some 19), none, .mv (.tmp 137), 3, [], true⟩])
 (.seq (.region 2 [
  ⟨(some 20), none, .mv (.const (.int .i64 0)), 0, [], true⟩,
  ⟨(some 21), none, .mv (.const (.int .i64 0)), 1, [], true⟩])
 (.seq (.seq (.region 3 [
  ⟨(some 138), none, .mv (.tmp 2), 0, [], true⟩,
  ⟨(some 139), none, .mv (.tmp 18), 1, [], true⟩,
  ⟨(some 140), none, .bin .gtr (.tmp 138) (.tmp 139), 2, [], true⟩])
 (.cond (.tmp 140) (.seq (.region 4 [
  ⟨(some 141), none, .mv (.tmp 19), 0, [], true⟩,
  ⟨(some 142), none, .mv (.tmp 3), 1, [], true⟩,
  ⟨(some 143), none, .bin .sub (.tmp 141) (.tmp 142), 2, [], true⟩,
  ⟨(some 20), none, .mv (.tmp 143), 3, [], true⟩])
 (.region 2 [
  ⟨(some 144), none, .mv (.tmp 18), 0, [], true⟩,
  ⟨(some 21), none, .mv (.tmp 144), 1, [], true⟩])) (.seq (.region 2 [
  ⟨(some 145), none, .mv (.tmp 1), 0, [], true⟩,
  ⟨(some 20), none, .mv (.tmp 145), 1, [], true⟩])
 (.region 2 [
  ⟨(some 146), none, .mv (.tmp 2), 0, [], true⟩,
  ⟨(some 21), none, .mv (.tmp 146), 1, [], true⟩]))))
 (.seq (.region 3 [
  ⟨(some 147), none, .mv (.tmp 19), 0, [], true⟩,
  ⟨(some 148), none, .bin .sub (.tmp 147) (.const (.int .i64 1)), 1, [], true⟩,
  ⟨(some 22), none, .mv (.tmp 148), 2, [], true⟩])
 (.seq (.block 8 (.loop (.seq (.seq (.region 3 [
  ⟨(some 149), none, .mv (.tmp 20), 0, [], true⟩,
  ⟨(some 150), none, .mv (.tmp 21), 1, [], true⟩,
  ⟨(some 151), none, .bin .lss (.tmp 149) (.tmp 150), 2, [], true⟩])
 (.cond (.tmp 151) .skip (.exit 8)))
 (.block 9 (.seq (.region 7 [
  ⟨(some 152), none, .mv (.tmp 20), 0, [], true⟩,
  ⟨(some 153), none, .mv (.tmp 21), 1, [], true⟩,
  ⟨(some 154), none, .bin .add (.tmp 152) (.tmp 153), 2, [], true⟩,
  ⟨(some 155), none, .conv .u64 (.tmp 154), 3, [], true⟩,
  ⟨(some 156), none, .bin .shr (.tmp 155) (.const (.int .u64 1)), 4, [], true⟩,
  ⟨(some 157), none, .conv .i64 (.tmp 156), 5, [], true⟩,
  ⟨(some 23), none, .mv (.tmp 157), 6, [], true⟩])
 (.seq (.region 14 [
  ⟨(some 158), none, .mv (.tmp 4), 0, [], true⟩,
  ⟨(some 159), none, .mv (.tmp 0), 1, [], false⟩,
  ⟨(some 160), none, .mv (.tmp 22), 2, [], false⟩,
  ⟨(some 161), none, .mv (.tmp 23), 3, [], false⟩,
  ⟨(some 162), none, .bin .sub (.tmp 160) (.tmp 161), 4, [], false⟩,
  ⟨(some 163), none, .adSl 3 (.tmp 159) (.tmp 162), 5, [], false⟩,
  ⟨(some 164), none, .load 3 true (.tmp 163), 6, [], false⟩,
  ⟨(some 165), none, .mv (.tmp 0), 7, [], false⟩,
  ⟨(some 166), none, .mv (.tmp 23), 8, [], false⟩,
  ⟨(some 167), none, .adSl 3 (.tmp 165) (.tmp 166), 9, [], false⟩,
  ⟨(some 168), none, .load 3 true (.tmp 167), 10, [], false⟩,
  ⟨(some 169), none, .call (.tmp 158) [(.tmp 164), (.tmp 168)], 11, [], true⟩,
  ⟨(some 170), none, .bin .lss (.tmp 169) (.const (.int .i64 0)), 12, [], true⟩,
  ⟨(some 171), none, .un .not (.tmp 170), 13, [], true⟩])
 (.cond (.tmp 171) (.region 3 [
  ⟨(some 172), none, .mv (.tmp 23), 0, [], true⟩,
  ⟨(some 173), none, .bin .add (.tmp 172) (.const (.int .i64 1)), 1, [], true⟩,
  ⟨(some 20), none, .mv (.tmp 173), 2, [], true⟩]) (.region 2 [
  ⟨(some 174), none, .mv (.tmp 23), 0, [], true⟩,
  ⟨(some 21), none, .mv (.tmp 174), 1, [], true⟩]))))))))
 (.seq (.region 4 [
  ⟨(some 175), none, .mv (.tmp 19), 0, [], true⟩,
  ⟨(some 176), none, .mv (.tmp 20), 1, [], true⟩,
  ⟨(some 177), none, .bin .sub (.tmp 175) (.tmp 176), 2, [], true⟩,
  ⟨(some 24), none, .mv (.tmp 177), 3, [], true⟩])
 (.seq (.seq (.region 8 [
  ⟨(some 178), none, .mv (.tmp 20), 0, [], true⟩,
  ⟨(some 179), none, .mv (.tmp 2), 1, [], true⟩,
  ⟨(some 180), none, .bin .lss (.tmp 178) (.tmp 179), 2, [], true⟩,
  ⟨(some 181), none, .mv (.tmp 180), 3, [], true⟩,
  ⟨(some 182), (some (181, true)), .mv (.tmp 2), 4, [], true⟩,
  ⟨(some 183), (some (181, true)), .mv (.tmp 24), 5, [], true⟩,
  ⟨(some 184), (some (181, true)), .bin .lss (.tmp 182) (.tmp 183), 6, [], true⟩,
  ⟨(some 185), none, .pick (.tmp 181) (.tmp 184) (.const (.bool false)), 7, [], true⟩])
 (.cond (.tmp 185) (.region 6 [
  ⟨(some 186), none, .mv (.tmp 0), 0, [], true⟩,
  ⟨(some 187), none, .mv (.tmp 20), 1, [], true⟩,
  ⟨(some 188), none, .mv (.tmp 2), 2, [], true⟩,
  ⟨(some 189), none, .mv (.tmp 24), 3, [], true⟩,
  ⟨(some 190), none, .mv (.tmp 4), 4, [], true⟩,
  ⟨(some 191), none, .call (.func 240) [(.tmp 186), (.tmp 187), (.tmp 188), (.tmp 189), (.tmp 190)], 5, [], true⟩]) .skip))
 (.seq (.seq (.region 8 [
  ⟨(some 192), none, .mv (.tmp 1), 0, [], true⟩,
  ⟨(some 193), none, .mv (.tmp 20), 1, [], true⟩,
  ⟨(some 194), none, .bin .lss (.tmp 192) (.tmp 193), 2, [], true⟩,
  ⟨(some 195), none, .mv (.tmp 194), 3, [], true⟩,
  ⟨(some 196), (some (195, true)), .mv (.tmp 20), 4, [], true⟩,
  ⟨(some 197), (some (195, true)), .mv (.tmp 18), 5, [], true⟩,
  ⟨(some 198), (some (195, true)), .bin .lss (.tmp 196) (.tmp 197), 6, [], true⟩,
  ⟨(some 199), none, .pick (.tmp 195) (.tmp 198) (.const (.bool false)), 7, [], true⟩])
 (.cond (.tmp 199) (.region 6 [
  ⟨(some 200), none, .mv (.tmp 0), 0, [], true⟩,
  ⟨(some 201), none, .mv (.tmp 1), 1, [], true⟩,
  ⟨(some 202), none, .mv (.tmp 20), 2, [], true⟩,
  ⟨(some 203), none, .mv (.tmp 18), 3, [], true⟩,
  ⟨(some 204), none, .mv (.tmp 4), 4, [], true⟩,
  ⟨(some 205), none, .call (.func 216) [(.tmp 200), (.tmp 201), (.tmp 202), (.tmp 203), (.tmp 204)], 5, [], true⟩]) .skip))
 (.seq (.region 8 [
  ⟨(some 206), none, .mv (.tmp 18), 0, [], true⟩,
  ⟨(some 207), none, .mv (.tmp 24), 1, [], true⟩,
  ⟨(some 208), none, .bin .lss (.tmp 206) (.tmp 207), 2, [], true⟩,
  ⟨(some 209), none, .mv (.tmp 208), 3, [], true⟩,
  ⟨(some 210), (some (209, true)), .mv (.tmp 24), 4, [], true⟩,
  ⟨(some 211), (some (209, true)), .mv (.tmp 3), 5, [], true⟩,
  ⟨(some 212), (some (209, true)), .bin .lss (.tmp 210) (.tmp 211), 6, [], true⟩,
  ⟨(some 213), none, .pick (.tmp 209) (.tmp 212) (.const (.bool false)), 7, [], true⟩])
 (.cond (.tmp 213) (.region 6 [
  ⟨(some 214), none, .mv (.tmp 0), 0, [], true⟩,
  ⟨(some 215), none, .mv (.tmp 18), 1, [], true⟩,
  ⟨(some 216), none, .mv (.tmp 24), 2, [], true⟩,
  ⟨(some 217), none, .mv (.tmp 3), 3, [], true⟩,
  ⟨(some 218), none, .mv (.tmp 4), 4, [], true⟩,
  ⟨(some 219), none, .call (.func 216) [(.tmp 214), (.tmp 215), (.tmp 216), (.tmp 217), (.tmp 218)], 5, [], true⟩]) .skip)))))))))))))⟩

def m217 : MFn := ⟨38, [(6, none)], (.seq (.region 1 [
  ⟨(some 6), none, .mv (.const (.int .i64 0)), 0, [], true⟩])
 (.seq (.seq (.region 4 [
  ⟨(some 10), none, .mv (.tmp 0), 0, [], true⟩,
  ⟨(some 11), none, .mv (.tmp 2), 1, [], true⟩,
  ⟨(some 12), none, .call (.func 184) [(.tmp 10), (.tmp 11)], 2, [], true⟩,
  ⟨(some 7), none, .mv (.tmp 12), 3, [], true⟩])
 (.seq (.region 2 [
  ⟨(some 13), none, .mv (.tmp 7), 0, [], true⟩,
  ⟨(some 14), none, .bin .neq (.tmp 13) (.const (.int .i64 0)), 1, [], true⟩])
 (.cond (.tmp 14) (.seq (.region 2 [
  ⟨(some 15), none, .mv (.tmp 7), 0, [], true⟩,
  ⟨(some 6), none, .mv (.tmp 15), 1, [], true⟩])
 .ret) .skip)))
 (.seq (.region 14 [
  ⟨(some 17), none, .mv (.tmp 0), 0, [], true⟩,
  ⟨(some 18), none, .nilCheck (.tmp 17), 1, [], true⟩,
  ⟨(some 19), none, .fieldAddr 0 (.tmp 18), 2, [], true⟩,
  ⟨(some 20), none, .load 1 false (.tmp 19), 3, [], true⟩,
  ⟨(some 21), none, .mv (.tmp 2), 4, [], true⟩,
  ⟨(some 22), none, .adSl 1 (.tmp 20) (.tmp 21), 5, [], true⟩,
  ⟨(some 23), none, .load 1 false (.tmp 22), 6, [], true⟩,
  ⟨(some 24), none, .mv (.tmp 1), 7, [], true⟩,
  ⟨(some 25), none, .call (.func 241) [(.tmp 23), (.tmp 24)], 8, [], true⟩,
  ⟨(some 16), none, .mv (.tmp 25), 9, [], true⟩,
  ⟨(some 26), none, .extract (.tmp 16) 0, 10, [], true⟩,
  ⟨(some 27), none, .extract (.tmp 16) 1, 11, [], true⟩,
  ⟨(some 8), none, .mv (.tmp 26), 12, [], true⟩,
  ⟨(some 9), none, .mv (.tmp 27), 13, [], true⟩])
 (.seq (.seq (.region 2 [
  ⟨(some 28), none, .mv (.tmp 9), 0, [], true⟩,
  ⟨(some 29), none, .bin .eql (.tmp 28) (.const (.int .i64 0)), 1, [], true⟩])
 (.cond (.tmp 29) (.region 8 [
  ⟨(some 30), none, .mv (.tmp 0), 0, [], true⟩,
  ⟨(some 31), none, .nilCheck (.tmp 30), 1, [], true⟩,
  ⟨(some 32), none, .fieldAddr 0 (.tmp 31), 2, [], true⟩,
  ⟨(some 33), none, .load 1 false (.tmp 32), 3, [], true⟩,
  ⟨(some 34), none, .mv (.tmp 2), 4, [], true⟩,
  ⟨(some 35), none, .mv (.tmp 8), 5, [], true⟩,
  ⟨(some 36), none, .adSl 1 (.tmp 33) (.tmp 34), 6, [], true⟩,
  ⟨none, none, .store 1 (.tmp 36) (.tmp 35), 7, [], true⟩]) .skip))
 (.seq (.region 2 [
  ⟨(some 37), none, .mv (.tmp 9), 0, [], true⟩,
  ⟨(some 6), none, .mv (.tmp 37), 1, [], true⟩])
 .ret)))))⟩

def m218 : MFn := ⟨38, [(4, (some (3, true))), (5, none)], (.seq (.region 2 [
  ⟨(some 4), none, .alloc [(.int .i64 0), (.int .u64 0), (.int .u64 0)] 182, 0, [], true⟩,
  ⟨(some 5), none, .mv (.const (.bool false)), 1, [], true⟩])
 (.seq (.seq (.region 1 [
  ⟨(some 6), none, .mv (.const (.int .i64 0)), 0, [], true⟩])
 (.block 0 (.loop (.seq (.seq (.region 11 [
  ⟨(some 7), none, .mv (.tmp 0), 0, [], true⟩,
  ⟨(some 8), none, .eq true .ptr (.tmp 7) (.const (.pointer none)), 1, [], true⟩,
  ⟨(some 9), none, .mv (.tmp 8), 2, [], true⟩,
  ⟨(some 10), (some (9, true)), .mv (.tmp 6), 3, [], true⟩,
  ⟨(some 11), (some (9, true)), .mv (.tmp 0), 4, [], true⟩,
  ⟨(some 12), (some (9, true)), .nilCheck (.tmp 11), 5, [], true⟩,
  ⟨(some 13), (some (9, true)), .fieldAddr 0 (.tmp 12), 6, [], true⟩,
  ⟨(some 14), (some (9, true)), .load 1 false (.tmp 13), 7, [], true⟩,
  ⟨(some 15), (some (9, true)), .len false (.tmp 14), 8, [], true⟩,
  ⟨(some 16), (some (9, true)), .bin .lss (.tmp 10) (.tmp 15), 9, [], true⟩,
  ⟨(some 17), none, .pick (.tmp 9) (.tmp 16) (.const (.bool false)), 10, [], true⟩])
 (.cond (.tmp 17) .skip (.exit 0)))
 (.seq (.block 1 (.seq (.region 10 [
  ⟨(some 20), none, .mv (.tmp 0), 0, [], true⟩,
  ⟨(some 21), none, .nilCheck (.tmp 20), 1, [], true⟩,
  ⟨(some 22), none, .fieldAddr 0 (.tmp 21), 2, [], true⟩,
  ⟨(some 23), none, .load 1 false (.tmp 22), 3, [], true⟩,
  ⟨(some 24), none, .mv (.tmp 6), 4, [], true⟩,
  ⟨(some 25), none, .adSl 3 (.tmp 23) (.tmp 24), 5, [], true⟩,
  ⟨(some 26), none, .fieldAddr 0 (.tmp 25), 6, [], true⟩,
  ⟨(some 27), none, .load 1 false (.tmp 26), 7, [], true⟩,
  ⟨(some 28), none, .mv (.tmp 1), 8, [], true⟩,
  ⟨(some 29), none, .bin .eql (.tmp 27) (.tmp 28), 9, [], true⟩])
 (.cond (.tmp 29) (.seq (.region 9 [
  ⟨(some 30), none, .mv (.tmp 0), 0, [], true⟩,
  ⟨(some 31), none, .nilCheck (.tmp 30), 1, [], true⟩,
  ⟨(some 32), none, .fieldAddr 0 (.tmp 31), 2, [], true⟩,
  ⟨(some 33), none, .load 1 false (.tmp 32), 3, [], true⟩,
  ⟨(some 34), none, .mv (.tmp 6), 4, [], true⟩,
  ⟨(some 35), none, .adSl 3 (.tmp 33) (.tmp 34), 5, [], true⟩,
  ⟨(some 36), none, .load 3 true (.tmp 35), 6, [], true⟩,
  ⟨none, none, .store 3 (.tmp 4) (.tmp 36), 7, [], true⟩,
  ⟨(some 5), none, .mv (.const (.bool true)), 8, [], true⟩])
 .ret) .skip)))
 (.region 3 [
  ⟨(some 18), none, .mv (.tmp 6), 0, [], true⟩,
  ⟨(some 19), none, .bin .add (.tmp 18) (.const (.int .i64 1)), 1, [], true⟩,
  ⟨(some 6), none, .mv (.tmp 19), 2, [], true⟩]))))))
 (.seq (.region 3 [
  ⟨(some 37), none, .build [(.int .i64 0), (.int .u64 0), (.int .u64 0)] [], 0, [], true⟩,
  ⟨none, none, .store 3 (.tmp 4) (.tmp 37), 1, [], true⟩,
  ⟨(some 5), none, .mv (.const (.bool false)), 2, [], true⟩])
 .ret)))⟩

def m219 : MFn := ⟨38, [(6, none)], (.seq (.region 1 [
  ⟨(some 6), none, .mv (.const (.int .i64 0)), 0, [], true⟩])
 (.seq (.seq (.region 4 [
  ⟨(some 10), none, .mv (.tmp 0), 0, [], true⟩,
  ⟨(some 11), none, .mv (.tmp 2), 1, [], true⟩,
  ⟨(some 12), none, .call (.func 184) [(.tmp 10), (.tmp 11)], 2, [], true⟩,
  ⟨(some 7), none, .mv (.tmp 12), 3, [], true⟩])
 (.seq (.region 2 [
  ⟨(some 13), none, .mv (.tmp 7), 0, [], true⟩,
  ⟨(some 14), none, .bin .neq (.tmp 13) (.const (.int .i64 0)), 1, [], true⟩])
 (.cond (.tmp 14) (.seq (.region 2 [
  ⟨(some 15), none, .mv (.tmp 7), 0, [], true⟩,
  ⟨(some 6), none, .mv (.tmp 15), 1, [], true⟩])
 .ret) .skip)))
 (.seq (.region 14 [
  ⟨(some 17), none, .mv (.tmp 0), 0, [], true⟩,
  ⟨(some 18), none, .nilCheck (.tmp 17), 1, [], true⟩,
  ⟨(some 19), none, .fieldAddr 0 (.tmp 18), 2, [], true⟩,
  ⟨(some 20), none, .load 1 false (.tmp 19), 3, [], true⟩,
  ⟨(some 21), none, .mv (.tmp 2), 4, [], true⟩,
  ⟨(some 22), none, .adSl 1 (.tmp 20) (.tmp 21), 5, [], true⟩,
  ⟨(some 23), none, .load 1 false (.tmp 22), 6, [], true⟩,
  ⟨(some 24), none, .mv (.tmp 1), 7, [], true⟩,
  ⟨(some 25), none, .call (.func 242) [(.tmp 23), (.tmp 24)], 8, [], true⟩,
  ⟨(some 16), none, .mv (.tmp 25), 9, [], true⟩,
  ⟨(some 26), none, .extract (.tmp 16) 0, 10, [], true⟩,
  ⟨(some 27), none, .extract (.tmp 16) 1, 11, [], true⟩,
  ⟨(some 8), none, .mv (.tmp 26), 12, [], true⟩,
  ⟨(some 9), none, .mv (.tmp 27), 13, [], true⟩])
 (.seq (.seq (.region 2 [
  ⟨(some 28), none, .mv (.tmp 9), 0, [], true⟩,
  ⟨(some 29), none, .bin .eql (.tmp 28) (.const (.int .i64 0)), 1, [], true⟩])
 (.cond (.tmp 29) (.region 8 [
  ⟨(some 30), none, .mv (.tmp 0), 0, [], true⟩,
  ⟨(some 31), none, .nilCheck (.tmp 30), 1, [], true⟩,
  ⟨(some 32), none, .fieldAddr 0 (.tmp 31), 2, [], true⟩,
  ⟨(some 33), none, .load 1 false (.tmp 32), 3, [], true⟩,
  ⟨(some 34), none, .mv (.tmp 2), 4, [], true⟩,
  ⟨(some 35), none, .mv (.tmp 8), 5, [], true⟩,
  ⟨(some 36), none, .adSl 1 (.tmp 33) (.tmp 34), 6, [], true⟩,
  ⟨none, none, .store 1 (.tmp 36) (.tmp 35), 7, [], true⟩]) .skip))
 (.seq (.region 2 [
  ⟨(some 37), none, .mv (.tmp 9), 0, [], true⟩,
  ⟨(some 6), none, .mv (.tmp 37), 1, [], true⟩])
 .ret)))))⟩

def m220 : MFn := ⟨24, [(2, none), (3, none)], (.seq (.region 2 [
  ⟨(some 2), none, .mv (.const (.int .u64 0)), 0, [], true⟩,
  ⟨(some 3), none, .mv (.const (.int .i64 0)), 1, [], true⟩])
 (.seq (.seq (.region 2 [
  ⟨(some 6), none, .mv (.tmp 0), 0, [], true⟩,
  ⟨(some 7), none, .eq false .ptr (.tmp 6) (.const (.pointer none)), 1, [], true⟩])
 (.cond (.tmp 7) (.seq (.region 2 [
  ⟨(some 2), none, .mv (.const (.int .u64 0)), 0, [], true⟩,
  ⟨(some 3), none, .mv (.const (.int .i64 1)), 1, [], true⟩])
 .ret) .skip))
 (.seq (.region 10 [
  ⟨(some 9), none, .mv (.tmp 0), 0, [], true⟩,
  ⟨(some 10), none, .nilCheck (.tmp 9), 1, [], true⟩,
  ⟨(some 11), none, .fieldAddr 1 (.tmp 10), 2, [], true⟩,
  ⟨(some 12), none, .load 1 false (.tmp 11), 3, [], true⟩,
  ⟨(some 13), none, .call (.func 243) [(.tmp 12)], 4, [], true⟩,
  ⟨(some 8), none, .mv (.tmp 13), 5, [], true⟩,
  ⟨(some 14), none, .extract (.tmp 8) 0, 6, [], true⟩,
  ⟨(some 15), none, .extract (.tmp 8) 1, 7, [], true⟩,
  ⟨(some 4), none, .mv (.tmp 14), 8, [], true⟩,
  ⟨(some 5), none, .mv (.tmp 15), 9, [], true⟩])
 (.seq (.seq (.region 2 [
  ⟨(some 16), none, .mv (.tmp 5), 0, [], true⟩,
  ⟨(some 17), none, .bin .eql (.tmp 16) (.const (.int .i64 0)), 1, [], true⟩])
 (.cond (.tmp 17) (.region 5 [
  ⟨(some 18), none, .mv (.tmp 0), 0, [], true⟩,
  ⟨(some 19), none, .mv (.tmp 4), 1, [], true⟩,
  ⟨(some 20), none, .nilCheck (.tmp 18), 2, [], true⟩,
  ⟨(some 21), none, .fieldAddr 1 (.tmp 20), 3, [], true⟩,
  ⟨none, none, .store 1 (.tmp 21) (.tmp 19), 4, [], true⟩]) .skip))
 (.seq (.region 4 [
  ⟨(some 22), none, .mv (.tmp 4), 0, [], true⟩,
  ⟨(some 23), none, .mv (.tmp 5), 1, [], true⟩,
  ⟨(some 2), none, .mv (.tmp 22), 2, [], true⟩,
  ⟨(some 3), none, .mv (.tmp 23), 3, [], true⟩])
 .ret)))))⟩

def m221 : MFn := ⟨42, [(6, none), (7, none)], (.seq (.region 2 [
  ⟨(some 6), none, .mv (.const (.int .u64 0)), 0, [], true⟩,
  ⟨(some 7), none, .mv (.const (.int .i64 0)), 1, [], true⟩])
 (.seq (.region 9 [
  ⟨(some 12), none, .mv (.tmp 0), 0, [], true⟩,
  ⟨(some 13), none, .call (.func 186) [(.tmp 12)], 1, [], true⟩,
  ⟨(some 11), none, .mv (.tmp 13), 2, [], true⟩,
  ⟨(some 14), none, .extract (.tmp 11) 0, 3, [], true⟩,
  ⟨(some 15), none, .extract (.tmp 11) 1, 4, [], true⟩,
  ⟨(some 16), none, .extract (.tmp 11) 2, 5, [], true⟩,
  ⟨(some 8), none, .mv (.tmp 14), 6, [], true⟩,
  ⟨(some 9), none, .mv (.tmp 15), 7, [], true⟩,
  ⟨(some 10), none, .mv (.tmp 16), 8, [], true⟩])
 (.seq (.block 0 (.seq (.region 3 [
  ⟨(some 18), none, .mv (.tmp 10), 0, [], true⟩,
  ⟨(some 19), none, .bin .neq (.tmp 18) (.const (.int .i64 0)), 1, [], true⟩,
  ⟨(some 17), none, .mv (.tmp 19), 2, [], true⟩])
 (.cond (.tmp 17) (.seq (.region 3 [
  ⟨(some 20), none, .mv (.tmp 10), 0, [], true⟩,
  ⟨(some 6), none, .mv (.const (.int .u64 0)), 1, [], true⟩,
  ⟨(some 7), none, .mv (.tmp 20), 2, [], true⟩])
 .ret) (.seq (.region 8 [
  ⟨(some 22), none, .mv (.tmp 1), 0, [], true⟩,
  ⟨(some 23), none, .call (.func 244) [(.tmp 22)], 1, [], true⟩,
  ⟨(some 24), none, .un .not (.tmp 23), 2, [], true⟩,
  ⟨(some 25), none, .mv (.tmp 24), 3, [], true⟩,
  ⟨(some 26), (some (25, false)), .mv (.tmp 2), 4, [], true⟩,
  ⟨(some 27), (some (25, false)), .bin .gtr (.tmp 26) (.const (.int .u64 1099511627776)), 5, [], true⟩,
  ⟨(some 28), none, .pick (.tmp 25) (.const (.bool true)) (.tmp 27), 6, [], true⟩,
  ⟨(some 21), none, .mv (.tmp 28), 7, [], true⟩])
 (.cond (.tmp 21) (.seq (.region 2 [
  ⟨(some 6), none, .mv (.const (.int .u64 0)), 0, [], true⟩,
  ⟨(some 7), none, .mv (.const (.int .i64 2)), 1, [], true⟩])
 .ret) (.seq (.region 9 [
  ⟨(some 30), none, .mv (.tmp 8), 0, [], true⟩,
  ⟨(some 31), none, .mv (.tmp 1), 1, [], true⟩,
  ⟨(some 32), none, .bin .neq (.tmp 30) (.tmp 31), 2, [], true⟩,
  ⟨(some 33), none, .mv (.tmp 32), 3, [], true⟩,
  ⟨(some 34), (some (33, false)), .mv (.tmp 2), 4, [], true⟩,
  ⟨(some 35), (some (33, false)), .mv (.tmp 9), 5, [], true⟩,
  ⟨(some 36), (some (33, false)), .bin .lss (.tmp 34) (.tmp 35), 6, [], true⟩,
  ⟨(some 37), none, .pick (.tmp 33) (.const (.bool true)) (.tmp 36), 7, [], true⟩,
  ⟨(some 29), none, .mv (.tmp 37), 8, [], true⟩])
 (.cond (.tmp 29) (.seq (.region 2 [
  ⟨(some 6), none, .mv (.const (.int .u64 0)), 0, [], true⟩,
  ⟨(some 7), none, .mv (.const (.int .i64 8)), 1, [], true⟩])
 .ret) .skip)))))))
 (.seq (.region 6 [
  ⟨(some 38), none, .mv (.tmp 2), 0, [], true⟩,
  ⟨(some 39), none, .call (.func 245) [(.tmp 38)], 1, [], true⟩,
  ⟨(some 40), none, .extract (.tmp 39) 0, 2, [], true⟩,
  ⟨(some 41), none, .extract (.tmp 39) 1, 3, [], true⟩,
  ⟨(some 6), none, .mv (.tmp 40), 4, [], true⟩,
  ⟨(some 7), none, .mv (.tmp 41), 5, [], true⟩])
 .ret))))⟩

def m222 : MFn := ⟨21, [], (.seq (.region 1 [
  ⟨(some 5), none, .box 232 (.tmp 2), 0, [], true⟩])
 (.seq (.region 7 [
  ⟨(some 7), none, .buildSl 232 24 0 [] [], 0, [], true⟩,
  ⟨(some 8), none, .mv (.tmp 0), 1, [], true⟩,
  ⟨(some 9), none, .nilCheck (.tmp 8), 2, [], true⟩,
  ⟨(some 10), none, .fieldAddr 0 (.tmp 9), 3, [], true⟩,
  ⟨(some 11), none, .load 1 false (.tmp 10), 4, [], true⟩,
  ⟨(some 12), none, .append 232 24 112 (.tmp 7) (.tmp 11), 5, [], true⟩,
  ⟨(some 6), none, .mv (.tmp 12), 6, [], true⟩])
 (.seq (.region 5 [
  ⟨(some 13), none, .mv (.tmp 6), 0, [], true⟩,
  ⟨(some 14), none, .mv (.tmp 1), 1, [], true⟩,
  ⟨(some 15), none, .load 24 true (.tmp 5), 2, [], true⟩,
  ⟨(some 16), none, .adSl 24 (.tmp 13) (.tmp 14), 3, [], true⟩,
  ⟨none, none, .store 24 (.tmp 16) (.tmp 15), 4, [], true⟩])
 (.region 5 [
  ⟨(some 17), none, .mv (.tmp 0), 0, [], true⟩,
  ⟨(some 18), none, .mv (.tmp 6), 1, [], true⟩,
  ⟨(some 19), none, .nilCheck (.tmp 17), 2, [], true⟩,
  ⟨(some 20), none, .fieldAddr 0 (.tmp 19), 3, [], true⟩,
  ⟨none, none, .store 1 (.tmp 20) (.tmp 18), 4, [], true⟩]))))⟩

def m223 : MFn := ⟨36, [(2, none)], (.seq (.region 1 [
  ⟨(some 2), none, .mv (.const (.int .i64 0)), 0, [], true⟩])
 (.seq (.region 1 [
  ⟨(some 3), none, .mv (.const (.int .i64 0)), 0, [], true⟩])
 (.seq (.seq (.region 1 [
  ⟨(some 4), none, .mv (.const (.int .i64 0)), 0, [], true⟩])
 (.block 0 (.loop (.seq (.seq (.region 11 [
  ⟨(some 6), none, .mv (.tmp 0), 0, [], true⟩,
  ⟨(some 7), none, .eq true .ptr (.tmp 6) (.const (.pointer none)), 1, [], true⟩,
  ⟨(some 8), none, .mv (.tmp 7), 2, [], true⟩,
  ⟨(some 9), (some (8, true)), .mv (.tmp 4), 3, [], true⟩,
  ⟨(some 10), (some (8, true)), .mv (.tmp 0), 4, [], true⟩,
  ⟨(some 11), (some (8, true)), .nilCheck (.tmp 10), 5, [], true⟩,
  ⟨(some 12), (some (8, true)), .fieldAddr 0 (.tmp 11), 6, [], true⟩,
  ⟨(some 13), (some (8, true)), .load 1 false (.tmp 12), 7, [], true⟩,
  ⟨(some 14), (some (8, true)), .len false (.tmp 13), 8, [], true⟩,
  ⟨(some 15), (some (8, true)), .bin .lss (.tmp 9) (.tmp 14), 9, [], true⟩,
  ⟨(some 16), none, .pick (.tmp 8) (.tmp 15) (.const (.bool false)), 10, [], true⟩])
 (.cond (.tmp 16) .skip (.exit 0)))
 (.seq (.block 1 (.seq (.region 1 [
  ⟨(some 5), none, .mv (.const (.int .i64 0)), 0, [], true⟩])
 (.block 2 (.loop (.seq (.seq (.region 2 [
  ⟨(some 19), none, .mv (.tmp 5), 0, [], true⟩,
  ⟨(some 20), none, .bin .lss (.tmp 19) (.const (.int .i64 12)), 1, [], true⟩])
 (.cond (.tmp 20) .skip (.exit 2)))
 (.seq (.block 3 (.seq (.region 10 [
  ⟨(some 23), none, .mv (.tmp 0), 0, [], true⟩,
  ⟨(some 24), none, .nilCheck (.tmp 23), 1, [], true⟩,
  ⟨(some 25), none, .fieldAddr 0 (.tmp 24), 2, [], true⟩,
  ⟨(some 26), none, .load 1 false (.tmp 25), 3, [], true⟩,
  ⟨(some 27), none, .mv (.tmp 4), 4, [], true⟩,
  ⟨(some 28), none, .mv (.tmp 5), 5, [], true⟩,
  ⟨(some 29), none, .adSl 24 (.tmp 26) (.tmp 27), 6, [], true⟩,
  ⟨(some 30), none, .fieldAddr 0 (.tmp 29), 7, [], true⟩,
  ⟨(some 31), none, .adArr 12 1 (.tmp 30) (.tmp 28), 8, [], true⟩,
  ⟨(some 32), none, .load 1 false (.tmp 31), 9, [], true⟩])
 (.cond (.tmp 32) (.region 3 [
  ⟨(some 33), none, .mv (.tmp 3), 0, [], true⟩,
  ⟨(some 34), none, .bin .add (.tmp 33) (.const (.int .i64 1)), 1, [], true⟩,
  ⟨(some 3), none, .mv (.tmp 34), 2, [], true⟩]) .skip)))
 (.region 3 [
  ⟨(some 21), none, .mv (.tmp 5), 0, [], true⟩,
  ⟨(some 22), none, .bin .add (.tmp 21) (.const (.int .i64 1)), 1, [], true⟩,
  ⟨(some 5), none, .mv (.tmp 22), 2, [], true⟩])))))))
 (.region 3 [
  ⟨(some 17), none, .mv (.tmp 4), 0, [], true⟩,
  ⟨(some 18), none, .bin .add (.tmp 17) (.const (.int .i64 1)), 1, [], true⟩,
  ⟨(some 4), none, .mv (.tmp 18), 2, [], true⟩]))))))
 (.seq (.region 2 [
  ⟨(some 35), none, .mv (.tmp 3), 0, [], true⟩,
  ⟨(some 2), none, .mv (.tmp 35), 1, [], true⟩])
 .ret))))⟩

def m224 : MFn := ⟨20, [(4, none), (5, none)], (.seq (.region 2 [
  ⟨(some 4), none, .mv (.const (.int .u64 0)), 0, [], true⟩,
  ⟨(some 5), none, .mv (.const (.int .i64 0)), 1, [], true⟩])
 (.seq (.seq (.region 7 [
  ⟨(some 6), none, .mv (.tmp 0), 0, [], true⟩,
  ⟨(some 7), none, .call (.func 244) [(.tmp 6)], 1, [], true⟩,
  ⟨(some 8), none, .un .not (.tmp 7), 2, [], true⟩,
  ⟨(some 9), none, .mv (.tmp 8), 3, [], true⟩,
  ⟨(some 10), (some (9, false)), .mv (.tmp 1), 4, [], true⟩,
  ⟨(some 11), (some (9, false)), .bin .gtr (.tmp 10) (.const (.int .u64 1099511627776)), 5, [], true⟩,
  ⟨(some 12), none, .pick (.tmp 9) (.const (.bool true)) (.tmp 11), 6, [], true⟩])
 (.cond (.tmp 12) (.seq (.region 2 [
  ⟨(some 4), none, .mv (.const (.int .u64 0)), 0, [], true⟩,
  ⟨(some 5), none, .mv (.const (.int .i64 2)), 1, [], true⟩])
 .ret) .skip))
 (.seq (.region 9 [
  ⟨(some 13), none, .mv (.tmp 1), 0, [], true⟩,
  ⟨(some 14), none, .bin .mul (.tmp 13) (.const (.int .u64 32)), 1, [], true⟩,
  ⟨(some 15), none, .mv (.tmp 0), 2, [], true⟩,
  ⟨(some 16), none, .conv .u64 (.tmp 15), 3, [], true⟩,
  ⟨(some 17), none, .bin .mul (.tmp 16) (.const (.int .u64 2)), 4, [], true⟩,
  ⟨(some 18), none, .bin .add (.tmp 14) (.tmp 17), 5, [], true⟩,
  ⟨(some 19), none, .bin .add (.tmp 18) (.const (.int .u64 1)), 6, [], true⟩,
  ⟨(some 4), none, .mv (.tmp 19), 7, [], true⟩,
  ⟨(some 5), none, .mv (.const (.int .i64 0)), 8, [], true⟩])
 .ret)))⟩

def m225 : MFn := ⟨29, [(4, none), (5, none)], (.seq (.region 2 [
  ⟨(some 4), none, .mv (.const (.int .i64 0)), 0, [], true⟩,
  ⟨(some 5), none, .mv (.const (.bool false)), 1, [], true⟩])
 (.seq (.seq (.region 4 [
  ⟨(some 9), none, .mv (.tmp 0), 0, [], true⟩,
  ⟨(some 10), none, .mv (.tmp 1), 1, [], true⟩,
  ⟨(some 11), none, .call (.func 145) [(.tmp 9), (.tmp 10)], 2, [], true⟩,
  ⟨(some 12), none, .bin .neq (.tmp 11) (.const (.int .i64 0)), 3, [], true⟩])
 (.cond (.tmp 12) (.seq (.region 2 [
  ⟨(some 4), none, .mv (.const (.int .i64 0)), 0, [], true⟩,
  ⟨(some 5), none, .mv (.const (.bool false)), 1, [], true⟩])
 .ret) .skip))
 (.seq (.region 15 [
  ⟨(some 14), none, .mv (.tmp 0), 0, [], true⟩,
  ⟨(some 15), none, .nilCheck (.tmp 14), 1, [], true⟩,
  ⟨(some 16), none, .fieldAddr 1 (.tmp 15), 2, [], true⟩,
  ⟨(some 17), none, .load 1 false (.tmp 16), 3, [], true⟩,
  ⟨(some 18), none, .mv (.tmp 1), 4, [], true⟩,
  ⟨(some 19), none, .adSl 1 (.tmp 17) (.tmp 18), 5, [], true⟩,
  ⟨(some 20), none, .load 1 false (.tmp 19), 6, [], true⟩,
  ⟨(some 21), none, .call (.func 161) [(.tmp 20)], 7, [], true⟩,
  ⟨(some 13), none, .mv (.tmp 21), 8, [], true⟩,
  ⟨(some 22), none, .extract (.tmp 13) 0, 9, [], true⟩,
  ⟨(some 23), none, .extract (.tmp 13) 1, 10, [], true⟩,
  ⟨(some 24), none, .extract (.tmp 13) 2, 11, [], true⟩,
  ⟨(some 6), none, .mv (.tmp 22), 12, [], true⟩,
  ⟨(some 7), none, .mv (.tmp 23), 13, [], true⟩,
  ⟨(some 8), none, .mv (.tmp 24), 14, [], true⟩])
 (.seq (.region 6 [
  ⟨(some 25), none, .mv (.tmp 6), 0, [], true⟩,
  ⟨(some 26), none, .mm true (.tmp 25) (.const (.int .i64 0)), 1, [], true⟩,
  ⟨(some 27), none, .mv (.tmp 6), 2, [], true⟩,
  ⟨(some 28), none, .bin .geq (.tmp 27) (.const (.int .i64 0)), 3, [], true⟩,
  ⟨(some 4), none, .mv (.tmp 26), 4, [], true⟩,
  ⟨(some 5), none, .mv (.tmp 28), 5, [], true⟩])
 .ret))))⟩

def m226 : MFn := ⟨30, [(4, none)], (.seq (.region 1 [
  ⟨(some 4), none, .mv (.const (.slice none 0 0)), 0, [], true⟩])
 (.seq (.region 1 [
  ⟨(some 5), none, .mv (.const (.slice none 0 0)), 0, [], true⟩])
 (.seq (.seq (.region 7 [
  ⟨(some 8), none, .mv (.tmp 1), 0, [], true⟩,
  ⟨(some 9), none, .nilCheck (.tmp 8), 1, [], true⟩,
  ⟨(some 10), none, .fieldAddr 1 (.tmp 9), 2, [], true⟩,
  ⟨(some 11), none, .load 1 false (.tmp 10), 3, [], true⟩,
  ⟨(some 12), none, .call (.func 92) [(.tmp 11)], 4, [], true⟩,
  ⟨(some 13), none, .len false (.tmp 12), 5, [], true⟩,
  ⟨(some 14), none, .mv (.const (.int .i64 0)), 6, [], true⟩])
 (.block 0 (.loop (.seq (.region 1 [
  ⟨(some 15), none, .bin .lss (.tmp 14) (.tmp 13), 0, [], true⟩])
 (.seq (.cond (.tmp 15) .skip (.exit 0))
 (.seq (.block 1 (.seq (.region 4 [
  ⟨(some 16), none, .adSl 2 (.tmp 12) (.tmp 14), 0, [], true⟩,
  ⟨(some 17), none, .load 2 true (.tmp 16), 1, [], true⟩,
  ⟨(some 7), none, .alloc [(.int .i64 0), (.int .u64 0)] 138, 2, [], true⟩,
  ⟨none, none, .store 2 (.tmp 7) (.tmp 17), 3, [], true⟩])
 (.region 6 [
  ⟨(some 18), none, .mv (.tmp 5), 0, [], true⟩,
  ⟨(some 19), none, .fieldAddr 0 (.tmp 7), 1, [], true⟩,
  ⟨(some 20), none, .load 1 false (.tmp 19), 2, [], true⟩,
  ⟨(some 21), none, .buildSl 3 1 1 [(.int .i64 0)] [(0, 1, (.tmp 20))], 3, [], true⟩,
  ⟨(some 22), none, .append 3 1 8 (.tmp 18) (.tmp 21), 4, [], true⟩,
  ⟨(some 5), none, .mv (.tmp 22), 5, [], true⟩])))
 (.region 2 [
  ⟨(some 23), none, .bin .add (.tmp 14) (.const (.int .i64 1)), 0, [], true⟩,
  ⟨(some 14), none, .mv (.tmp 23), 1, [], true⟩])))))))
 (.seq (.region 7 [
  ⟨(some 24), none, .mv (.tmp 0), 0, [], true⟩,
  ⟨(some 25), none, .nilCheck (.tmp 24), 1, [], true⟩,
  ⟨(some 26), none, .fieldAddr 0 (.tmp 25), 2, [], true⟩,
  ⟨(some 27), none, .load 1 false (.tmp 26), 3, [], true⟩,
  ⟨(some 28), none, .mv (.tmp 5), 4, [], true⟩,
  ⟨(some 29), none, .call (.func 246) [(.tmp 27), (.tmp 28)], 5, [], true⟩,
  ⟨(some 4), none, .mv (.tmp 29), 6, [], true⟩])
 .ret))))⟩

def m227 : MFn := ⟨9, [(4, none)], (.seq (.region 1 [
  ⟨(some 4), none, .mv (.const (.bool false)), 0, [], true⟩])
 (.seq (.region 5 [
  ⟨(some 5), none, .mv (.tmp 0), 0, [], true⟩,
  ⟨(some 6), none, .mv (.tmp 1), 1, [], true⟩,
  ⟨(some 7), none, .call (.func 247) [(.tmp 5), (.tmp 6)], 2, [], true⟩,
  ⟨(some 8), none, .bin .geq (.tmp 7) (.const (.int .i64 0)), 3, [], true⟩,
  ⟨(some 4), none, .mv (.tmp 8), 4, [], true⟩])
 .ret))⟩

def m228 : MFn := ⟨11, [(6, none)], (.seq (.region 2 [
  ⟨(some 4), none, .box 3 (.tmp 1), 0, [], true⟩,
  ⟨(some 6), none, .mv (.const (.int .i64 0)), 1, [], true⟩])
 (.seq (.region 5 [
  ⟨(some 7), none, .mv (.tmp 0), 0, [], true⟩,
  ⟨(some 8), none, .mv (.tmp 2), 1, [], true⟩,
  ⟨(some 9), none, .func (.func 248) [] [(.tmp 4)], 2, [], true⟩,
  ⟨(some 10), none, .call (.func 204) [(.tmp 7), (.tmp 8), (.tmp 9)], 3, [], true⟩,
  ⟨(some 6), none, .mv (.tmp 10), 4, [], true⟩])
 .ret))⟩

def m229 : MFn := ⟨12, [(2, none), (3, none)], (.seq (.region 2 [
  ⟨(some 2), none, .mv (.const (.int .u64 0)), 0, [], true⟩,
  ⟨(some 3), none, .mv (.const (.int .i64 0)), 1, [], true⟩])
 (.seq (.seq (.region 2 [
  ⟨(some 4), none, .mv (.tmp 0), 0, [], true⟩,
  ⟨(some 5), none, .eq false .ptr (.tmp 4) (.const (.pointer none)), 1, [], true⟩])
 (.cond (.tmp 5) (.seq (.region 2 [
  ⟨(some 2), none, .mv (.const (.int .u64 0)), 0, [], true⟩,
  ⟨(some 3), none, .mv (.const (.int .i64 1)), 1, [], true⟩])
 .ret) .skip))
 (.seq (.region 8 [
  ⟨(some 6), none, .mv (.tmp 0), 0, [], true⟩,
  ⟨(some 7), none, .nilCheck (.tmp 6), 1, [], true⟩,
  ⟨(some 8), none, .fieldAddr 0 (.tmp 7), 2, [], true⟩,
  ⟨(some 9), none, .call (.func 250) [(.tmp 8)], 3, [], true⟩,
  ⟨(some 10), none, .extract (.tmp 9) 0, 4, [], true⟩,
  ⟨(some 11), none, .extract (.tmp 9) 1, 5, [], true⟩,
  ⟨(some 2), none, .mv (.tmp 10), 6, [], true⟩,
  ⟨(some 3), none, .mv (.tmp 11), 7, [], true⟩])
 .ret)))⟩

def m230 : MFn := ⟨20, [(5, none), (6, none)], (.seq (.region 2 [
  ⟨(some 5), none, .mv (.const (.int .u64 0)), 0, [], true⟩,
  ⟨(some 6), none, .mv (.const (.int .i64 0)), 1, [], true⟩])
 (.seq (.seq (.region 7 [
  ⟨(some 7), none, .load 1 false (.tmp 1), 0, [], true⟩,
  ⟨(some 8), none, .load 1 false (.tmp 2), 1, [], false⟩,
  ⟨(some 9), none, .nilCheck (.tmp 8), 2, [], false⟩,
  ⟨(some 10), none, .fieldAddr 0 (.tmp 9), 3, [], false⟩,
  ⟨(some 11), none, .fieldAddr 0 (.tmp 10), 4, [], false⟩,
  ⟨(some 12), none, .load 1 false (.tmp 11), 5, [], false⟩,
  ⟨(some 13), none, .bin .gtr (.tmp 7) (.tmp 12), 6, [], true⟩])
 (.cond (.tmp 13) (.seq (.region 2 [
  ⟨(some 5), none, .mv (.const (.int .u64 0)), 0, [], true⟩,
  ⟨(some 6), none, .mv (.const (.int .i64 2)), 1, [], true⟩])
 .ret) .skip))
 (.seq (.region 8 [
  ⟨(some 14), none, .mv (.tmp 0), 0, [], true⟩,
  ⟨(some 15), none, .load 1 false (.tmp 3), 1, [], true⟩,
  ⟨(some 16), none, .load 1 false (.tmp 1), 2, [], true⟩,
  ⟨(some 17), none, .call (.func 231) [(.tmp 14), (.tmp 15), (.tmp 16)], 3, [], true⟩,
  ⟨(some 18), none, .extract (.tmp 17) 0, 4, [], true⟩,
  ⟨(some 19), none, .extract (.tmp 17) 1, 5, [], true⟩,
  ⟨(some 5), none, .mv (.tmp 18), 6, [], true⟩,
  ⟨(some 6), none, .mv (.tmp 19), 7, [], true⟩])
 .ret)))⟩

def m231 : MFn := ⟨38, [(6, none), (7, none)], (.seq (.region 2 [
  ⟨(some 6), none, .mv (.const (.int .u64 0)), 0, [], true⟩,
  ⟨(some 7), none, .mv (.const (.int .i64 0)), 1, [], true⟩])
 (.seq (.region 9 [
  ⟨(some 11), none, .mv (.tmp 0), 0, [], true⟩,
  ⟨(some 12), none, .mv (.tmp 1), 1, [], true⟩,
  ⟨(some 13), none, .call (.func 237) [(.tmp 11), (.tmp 12)], 2, [], true⟩,
  ⟨(some 10), none, .mv (.tmp 13), 3, [], true⟩,
  ⟨(some 14), none, .extract (.tmp 10) 0, 4, [], true⟩,
  ⟨(some 15), none, .extract (.tmp 10) 1, 5, [], true⟩,
  ⟨(some 8), none, .alloc [(.int .i64 0), (.int .u64 0)] 207, 6, [], true⟩,
  ⟨none, none, .store 2 (.tmp 8) (.tmp 14), 7, [], true⟩,
  ⟨(some 9), none, .mv (.tmp 15), 8, [], true⟩])
 (.seq (.block 0 (.seq (.region 3 [
  ⟨(some 17), none, .mv (.tmp 9), 0, [], true⟩,
  ⟨(some 18), none, .bin .neq (.tmp 17) (.const (.int .i64 0)), 1, [], true⟩,
  ⟨(some 16), none, .mv (.tmp 18), 2, [], true⟩])
 (.cond (.tmp 16) (.seq (.region 3 [
  ⟨(some 19), none, .mv (.tmp 9), 0, [], true⟩,
  ⟨(some 6), none, .mv (.const (.int .u64 0)), 1, [], true⟩,
  ⟨(some 7), none, .mv (.tmp 19), 2, [], true⟩])
 .ret) (.seq (.region 3 [
  ⟨(some 21), none, .mv (.tmp 2), 0, [], true⟩,
  ⟨(some 22), none, .bin .gtr (.tmp 21) (.const (.int .u64 1099511627776)), 1, [], true⟩,
  ⟨(some 20), none, .mv (.tmp 22), 2, [], true⟩])
 (.cond (.tmp 20) (.seq (.region 2 [
  ⟨(some 6), none, .mv (.const (.int .u64 0)), 0, [], true⟩,
  ⟨(some 7), none, .mv (.const (.int .i64 2)), 1, [], true⟩])
 .ret) (.seq (.region 11 [
  ⟨(some 24), none, .fieldAddr 0 (.tmp 8), 0, [], true⟩,
  ⟨(some 25), none, .load 1 false (.tmp 24), 1, [], true⟩,
  ⟨(some 26), none, .mv (.tmp 1), 2, [], true⟩,
  ⟨(some 27), none, .bin .neq (.tmp 25) (.tmp 26), 3, [], true⟩,
  ⟨(some 28), none, .mv (.tmp 27), 4, [], true⟩,
  ⟨(some 29), (some (28, false)), .mv (.tmp 2), 5, [], true⟩,
  ⟨(some 30), (some (28, false)), .fieldAddr 1 (.tmp 8), 6, [], true⟩,
  ⟨(some 31), (some (28, false)), .load 1 false (.tmp 30), 7, [], true⟩,
  ⟨(some 32), (some (28, false)), .bin .lss (.tmp 29) (.tmp 31), 8, [], true⟩,
  ⟨(some 33), none, .pick (.tmp 28) (.const (.bool true)) (.tmp 32), 9, [], true⟩,
  ⟨(some 23), none, .mv (.tmp 33), 10, [], true⟩])
 (.cond (.tmp 23) (.seq (.region 2 [
  ⟨(some 6), none, .mv (.const (.int .u64 0)), 0, [], true⟩,
  ⟨(some 7), none, .mv (.const (.int .i64 8)), 1, [], true⟩])
 .ret) .skip)))))))
 (.seq (.region 6 [
  ⟨(some 34), none, .mv (.tmp 2), 0, [], true⟩,
  ⟨(some 35), none, .call (.func 238) [(.tmp 34)], 1, [], true⟩,
  ⟨(some 36), none, .extract (.tmp 35) 0, 2, [], true⟩,
  ⟨(some 37), none, .extract (.tmp 35) 1, 3, [], true⟩,
  ⟨(some 6), none, .mv (.tmp 36), 4, [], true⟩,
  ⟨(some 7), none, .mv (.tmp 37), 5, [], true⟩])
 .ret))))⟩

def m232 : MFn := ⟨39, [(2, none), (3, none)], (.seq (.region 2 [
  ⟨(some 2), none, .mv (.const (.slice none 0 0)), 0, [], true⟩,
  ⟨(some 3), none, .mv (.const (.int .i64 0)), 1, [], true⟩])
 (.seq (.block 0 (.seq (.region 3 [
  ⟨(some 6), none, .mv (.tmp 0), 0, [], true⟩,
  ⟨(some 7), none, .eq false .ptr (.tmp 6) (.const (.pointer none)), 1, [], true⟩,
  ⟨(some 5), none, .mv (.tmp 7), 2, [], true⟩])
 (.cond (.tmp 5) (.seq (.region 2 [
  ⟨(some 2), none, .mv (.const (.slice none 0 0)), 0, [], true⟩,
  ⟨(some 3), none, .mv (.const (.int .i64 1)), 1, [], true⟩])
 .ret) (.seq (.region 6 [
  ⟨(some 9), none, .mv (.tmp 0), 0, [], true⟩,
  ⟨(some 10), none, .nilCheck (.tmp 9), 1, [], true⟩,
  ⟨(some 11), none, .fieldAddr 1 (.tmp 10), 2, [], true⟩,
  ⟨(some 12), none, .load 1 false (.tmp 11), 3, [], true⟩,
  ⟨(some 13), none, .bin .eql (.tmp 12) (.const (.int .i64 0)), 4, [], true⟩,
  ⟨(some 8), none, .mv (.tmp 13), 5, [], true⟩])
 (.cond (.tmp 8) (.seq (.region 2 [
  ⟨(some 2), none, .mv (.const (.slice none 0 0)), 0, [], true⟩,
  ⟨(some 3), none, .mv (.const (.int .i64 8)), 1, [], true⟩])
 .ret) .skip)))))
 (.seq (.region 8 [
  ⟨(some 14), none, .mv (.tmp 0), 0, [], true⟩,
  ⟨(some 15), none, .nilCheck (.tmp 14), 1, [], true⟩,
  ⟨(some 16), none, .fieldAddr 0 (.tmp 15), 2, [], true⟩,
  ⟨(some 17), none, .load 1 false (.tmp 16), 3, [], true⟩,
  ⟨(some 18), none, .nilCheck (.tmp 17), 4, [], true⟩,
  ⟨(some 19), none, .fieldAddr 0 (.tmp 18), 5, [], true⟩,
  ⟨(some 20), none, .load 1 false (.tmp 19), 6, [], true⟩,
  ⟨(some 4), none, .mv (.tmp 20), 7, [], true⟩])
 (.seq (.region 11 [
  ⟨(some 21), none, .mv (.tmp 0), 0, [], true⟩,
  ⟨(some 22), none, .mv (.tmp 0), 1, [], true⟩,
  ⟨(some 23), none, .nilCheck (.tmp 22), 2, [], true⟩,
  ⟨(some 24), none, .fieldAddr 0 (.tmp 23), 3, [], true⟩,
  ⟨(some 25), none, .load 1 false (.tmp 24), 4, [], true⟩,
  ⟨(some 26), none, .nilCheck (.tmp 25), 5, [], true⟩,
  ⟨(some 27), none, .fieldAddr 1 (.tmp 26), 6, [], true⟩,
  ⟨(some 28), none, .load 1 false (.tmp 27), 7, [], true⟩,
  ⟨(some 29), none, .nilCheck (.tmp 21), 8, [], true⟩,
  ⟨(some 30), none, .fieldAddr 0 (.tmp 29), 9, [], true⟩,
  ⟨none, none, .store 1 (.tmp 30) (.tmp 28), 10, [], true⟩])
 (.seq (.region 8 [
  ⟨(some 31), none, .mv (.tmp 0), 0, [], true⟩,
  ⟨(some 32), none, .nilCheck (.tmp 31), 1, [], true⟩,
  ⟨(some 33), none, .fieldAddr 1 (.tmp 32), 2, [], true⟩,
  ⟨(some 34), none, .load 1 false (.tmp 33), 3, [], true⟩,
  ⟨(some 35), none, .bin .sub (.tmp 34) (.const (.int .i64 1)), 4, [], true⟩,
  ⟨(some 36), none, .nilCheck (.tmp 31), 5, [], true⟩,
  ⟨(some 37), none, .fieldAddr 1 (.tmp 36), 6, [], true⟩,
  ⟨none, none, .store 1 (.tmp 37) (.tmp 35), 7, [], true⟩])
 (.seq (.region 3 [
  ⟨(some 38), none, .mv (.tmp 4), 0, [], true⟩,
  ⟨(some 2), none, .mv (.tmp 38), 1, [], true⟩,
  ⟨(some 3), none, .mv (.const (.int .i64 0)), 2, [], true⟩])
 .ret))))))⟩

def m233 : MFn := ⟨34, [(4, none)], (.seq (.region 2 [
  ⟨(some 3), none, .box 138 (.tmp 1), 0, [], true⟩,
  ⟨(some 4), none, .mv (.const (.slice none 0 0)), 1, [], true⟩])
 (.seq (.region 3 [
  ⟨(some 7), none, .mv (.tmp 0), 0, [], true⟩,
  ⟨(some 8), none, .call (.func 251) [(.tmp 7)], 1, [], true⟩,
  ⟨(some 5), none, .mv (.tmp 8), 2, [], true⟩])
 (.seq (.seq (.region 3 [
  ⟨(some 9), none, .mv (.tmp 5), 0, [], true⟩,
  ⟨(some 10), none, .len false (.tmp 9), 1, [], true⟩,
  ⟨(some 11), none, .mv (.const (.int .i64 0)), 2, [], true⟩])
 (.block 0 (.loop (.seq (.region 1 [
  ⟨(some 12), none, .bin .lss (.tmp 11) (.tmp 10), 0, [], true⟩])
 (.seq (.cond (.tmp 12) .skip (.exit 0))
 (.seq (.block 1 (.seq (.region 2 [
  ⟨(some 13), none, .mv (.tmp 11), 0, [], true⟩,
  ⟨(some 6), none, .mv (.tmp 13), 1, [], true⟩])
 (.seq (.region 8 [
  ⟨(some 14), none, .mv (.tmp 5), 0, [], true⟩,
  ⟨(some 15), none, .mv (.tmp 6), 1, [], false⟩,
  ⟨(some 16), none, .adSl 2 (.tmp 14) (.tmp 15), 2, [], true⟩,
  ⟨(some 17), none, .fieldAddr 0 (.tmp 16), 3, [], true⟩,
  ⟨(some 18), none, .load 1 false (.tmp 17), 4, [], true⟩,
  ⟨(some 19), none, .fieldAddr 0 (.tmp 3), 5, [], false⟩,
  ⟨(some 20), none, .load 1 false (.tmp 19), 6, [], false⟩,
  ⟨(some 21), none, .bin .eql (.tmp 18) (.tmp 20), 7, [], true⟩])
 (.cond (.tmp 21) (.seq (.region 7 [
  ⟨(some 22), none, .mv (.tmp 5), 0, [], true⟩,
  ⟨(some 23), none, .mv (.tmp 6), 1, [], true⟩,
  ⟨(some 24), none, .fieldAddr 1 (.tmp 3), 2, [], true⟩,
  ⟨(some 25), none, .load 1 false (.tmp 24), 3, [], true⟩,
  ⟨(some 26), none, .adSl 2 (.tmp 22) (.tmp 23), 4, [], true⟩,
  ⟨(some 27), none, .fieldAddr 1 (.tmp 26), 5, [], true⟩,
  ⟨none, none, .store 1 (.tmp 27) (.tmp 25), 6, [], true⟩])
 (.seq (.region 2 [
  ⟨(some 28), none, .mv (.tmp 5), 0, [], true⟩,
  ⟨(some 4), none, .mv (.tmp 28), 1, [], true⟩])
 .ret)) .skip))))
 (.region 2 [
  ⟨(some 29), none, .bin .add (.tmp 11) (.const (.int .i64 1)), 0, [], true⟩,
  ⟨(some 11), none, .mv (.tmp 29), 1, [], true⟩])))))))
 (.seq (.region 5 [
  ⟨(some 30), none, .mv (.tmp 5), 0, [], true⟩,
  ⟨(some 31), none, .load 2 true (.tmp 3), 1, [], true⟩,
  ⟨(some 32), none, .buildSl 138 2 1 [(.int .i64 0), (.int .u64 0)] [(0, 2, (.tmp 31))], 2, [], true⟩,
  ⟨(some 33), none, .append 138 2 16 (.tmp 30) (.tmp 32), 3, [], true⟩,
  ⟨(some 4), none, .mv (.tmp 33), 4, [], true⟩])
 .ret))))⟩

def m234 : MFn := ⟨18, [(2, none)], (.seq (.region 1 [
  ⟨(some 2), none, .mv (.const (.int .i64 0)), 0, [], true⟩])
 (.seq (.seq (.region 2 [
  ⟨(some 5), none, .mv (.tmp 0), 0, [], true⟩,
  ⟨(some 6), none, .eq false .ptr (.tmp 5) (.const (.pointer none)), 1, [], true⟩])
 (.cond (.tmp 6) (.seq (.region 1 [
  ⟨(some 2), none, .mv (.const (.int .i64 0)), 0, [], true⟩])
 .ret) .skip))
 (.seq (.region 2 [
  ⟨(some 3), none, .alloc [(.int .i64 0)] 3, 0, [], true⟩,
  ⟨none, none, .store 1 (.tmp 3) (.const (.int .i64 0)), 1, [], true⟩])
 (.seq (.seq (.region 5 [
  ⟨(some 7), none, .mv (.tmp 0), 0, [], true⟩,
  ⟨(some 8), none, .nilCheck (.tmp 7), 1, [], true⟩,
  ⟨(some 9), none, .fieldAddr 0 (.tmp 8), 2, [], true⟩,
  ⟨(some 10), none, .load 1 false (.tmp 9), 3, [], true⟩,
  ⟨(some 11), none, .call (.func 200) [(.tmp 10)], 4, [], true⟩])
 (.block 0 (.rangeF (.tmp 11) [12] (.region 1 [
  ⟨(some 4), none, .mv (.tmp 12), 0, [], true⟩]) (.block 1 (.region 5 [
  ⟨(some 13), none, .load 1 false (.tmp 3), 0, [], true⟩,
  ⟨(some 14), none, .mv (.tmp 4), 1, [], true⟩,
  ⟨(some 15), none, .len false (.tmp 14), 2, [], true⟩,
  ⟨(some 16), none, .bin .add (.tmp 13) (.tmp 15), 3, [], true⟩,
  ⟨none, none, .store 1 (.tmp 3) (.tmp 16), 4, [], true⟩])))))
 (.seq (.region 2 [
  ⟨(some 17), none, .load 1 false (.tmp 3), 0, [], true⟩,
  ⟨(some 2), none, .mv (.tmp 17), 1, [], true⟩])
 .ret)))))⟩

def m235 : MFn := ⟨16, [], (.block 0 (.loop (.seq (.seq (.region 2 [
  ⟨(some 3), none, .load 1 false (.tmp 1), 0, [], true⟩,
  ⟨(some 4), none, .eq true .ptr (.tmp 3) (.const (.pointer none)), 1, [], true⟩])
 (.cond (.tmp 4) .skip (.exit 0)))
 (.seq (.block 1 (.seq (.region 7 [
  ⟨(some 9), none, .mv (.tmp 0), 0, [], true⟩,
  ⟨(some 10), none, .load 1 false (.tmp 1), 1, [], true⟩,
  ⟨(some 11), none, .nilCheck (.tmp 10), 2, [], true⟩,
  ⟨(some 12), none, .fieldAddr 0 (.tmp 11), 3, [], true⟩,
  ⟨(some 13), none, .load 1 false (.tmp 12), 4, [], true⟩,
  ⟨(some 14), none, .call (.tmp 9) [(.tmp 13)], 5, [], true⟩,
  ⟨(some 15), none, .un .not (.tmp 14), 6, [], true⟩])
 (.cond (.tmp 15) .ret .skip)))
 (.region 5 [
  ⟨(some 5), none, .load 1 false (.tmp 1), 0, [], true⟩,
  ⟨(some 6), none, .nilCheck (.tmp 5), 1, [], true⟩,
  ⟨(some 7), none, .fieldAddr 1 (.tmp 6), 2, [], true⟩,
  ⟨(some 8), none, .load 1 false (.tmp 7), 3, [], true⟩,
  ⟨none, none, .store 1 (.tmp 1) (.tmp 8), 4, [], true⟩])))))⟩

def m236 : MFn := ⟨9, [(2, none)], (.seq (.region 1 [
  ⟨(some 2), none, .mv (.const (.bool false)), 0, [], true⟩])
 (.seq (.region 7 [
  ⟨(some 3), none, .mv (.tmp 0), 0, [], true⟩,
  ⟨(some 4), none, .bin .geq (.tmp 3) (.const (.int .i64 0)), 1, [], true⟩,
  ⟨(some 5), none, .mv (.tmp 4), 2, [], true⟩,
  ⟨(some 6), (some (5, true)), .mv (.tmp 0), 3, [], true⟩,
  ⟨(some 7), (some (5, true)), .bin .lss (.tmp 6) (.const (.int .i64 4)), 4, [], true⟩,
  ⟨(some 8), none, .pick (.tmp 5) (.tmp 7) (.const (.bool false)), 5, [], true⟩,
  ⟨(some 2), none, .mv (.tmp 8), 6, [], true⟩])
 .ret))⟩

def m237 : MFn := ⟨23, [(4, (some (2, true))), (5, none)], (.seq (.region 2 [
  ⟨(some 4), none, .alloc [(.int .i64 0), (.int .u64 0)] 207, 0, [], true⟩,
  ⟨(some 5), none, .mv (.const (.int .i64 0)), 1, [], true⟩])
 (.seq (.region 8 [
  ⟨(some 9), none, .mv (.tmp 0), 0, [], true⟩,
  ⟨(some 10), none, .call (.func 146) [(.tmp 9)], 1, [], true⟩,
  ⟨(some 8), none, .mv (.tmp 10), 2, [], true⟩,
  ⟨(some 11), none, .extract (.tmp 8) 0, 3, [], true⟩,
  ⟨(some 12), none, .extract (.tmp 8) 1, 4, [], true⟩,
  ⟨(some 6), none, .alloc [(.int .i64 0), (.int .u64 0)] 207, 5, [], true⟩,
  ⟨none, none, .store 2 (.tmp 6) (.tmp 11), 6, [], true⟩,
  ⟨(some 7), none, .mv (.tmp 12), 7, [], true⟩])
 (.seq (.block 0 (.seq (.region 3 [
  ⟨(some 14), none, .mv (.tmp 7), 0, [], true⟩,
  ⟨(some 15), none, .un .not (.tmp 14), 1, [], true⟩,
  ⟨(some 13), none, .mv (.tmp 15), 2, [], true⟩])
 (.cond (.tmp 13) (.seq (.region 3 [
  ⟨(some 16), none, .build [(.int .i64 0), (.int .u64 0)] [], 0, [], true⟩,
  ⟨none, none, .store 2 (.tmp 4) (.tmp 16), 1, [], true⟩,
  ⟨(some 5), none, .mv (.const (.int .i64 3)), 2, [], true⟩])
 .ret) (.seq (.region 4 [
  ⟨(some 18), none, .mv (.tmp 1), 0, [], true⟩,
  ⟨(some 19), none, .call (.func 236) [(.tmp 18)], 1, [], true⟩,
  ⟨(some 20), none, .un .not (.tmp 19), 2, [], true⟩,
  ⟨(some 17), none, .mv (.tmp 20), 3, [], true⟩])
 (.cond (.tmp 17) (.seq (.region 3 [
  ⟨(some 21), none, .build [(.int .i64 0), (.int .u64 0)] [], 0, [], true⟩,
  ⟨none, none, .store 2 (.tmp 4) (.tmp 21), 1, [], true⟩,
  ⟨(some 5), none, .mv (.const (.int .i64 2)), 2, [], true⟩])
 .ret) .skip)))))
 (.seq (.region 3 [
  ⟨(some 22), none, .load 2 true (.tmp 6), 0, [], true⟩,
  ⟨none, none, .store 2 (.tmp 4) (.tmp 22), 1, [], true⟩,
  ⟨(some 5), none, .mv (.const (.int .i64 0)), 2, [], true⟩])
 .ret))))⟩

def m238 : MFn := ⟨9, [(2, none), (3, none)], (.seq (.region 2 [
  ⟨(some 2), none, .mv (.const (.int .u64 0)), 0, [], true⟩,
  ⟨(some 3), none, .mv (.const (.int .i64 0)), 1, [], true⟩])
 (.seq (.region 7 [
  ⟨(some 4), none, .mv (.tmp 0), 0, [], true⟩,
  ⟨(some 5), none, .build [(.int .i64 0), (.int .u64 0)] [(0, 1, (.const (.int .i64 (-1)))), (1, 1, (.tmp 4))], 1, [], true⟩,
  ⟨(some 6), none, .call (.func 252) [(.tmp 5)], 2, [], true⟩,
  ⟨(some 7), none, .extract (.tmp 6) 0, 3, [], true⟩,
  ⟨(some 8), none, .extract (.tmp 6) 1, 4, [], true⟩,
  ⟨(some 2), none, .mv (.tmp 7), 5, [], true⟩,
  ⟨(some 3), none, .mv (.tmp 8), 6, [], true⟩])
 .ret))⟩

def m239 : MFn := ⟨28, [(8, none), (9, none)], (.seq (.region 2 [
  ⟨(some 8), none, .mv (.const (.int .i64 0)), 0, [], true⟩,
  ⟨(some 9), none, .mv (.const (.int .i64 0)), 1, [], true⟩])
 (.seq (.seq (.region 9 [
  ⟨(some 10), none, .mv (.tmp 0), 0, [], true⟩,
  ⟨(some 11), none, .mv (.tmp 2), 1, [], false⟩,
  ⟨(some 12), none, .adSl 1 (.tmp 10) (.tmp 11), 2, [], true⟩,
  ⟨(some 13), none, .load 1 false (.tmp 12), 3, [], true⟩,
  ⟨(some 14), none, .mv (.tmp 0), 4, [], false⟩,
  ⟨(some 15), none, .mv (.tmp 1), 5, [], false⟩,
  ⟨(some 16), none, .adSl 1 (.tmp 14) (.tmp 15), 6, [], false⟩,
  ⟨(some 17), none, .load 1 false (.tmp 16), 7, [], false⟩,
  ⟨(some 18), none, .call (.func 155) [(.tmp 13), (.tmp 17)], 8, [], true⟩])
 (.cond (.tmp 18) (.seq (.region 6 [
  ⟨(some 19), none, .mv (.tmp 3), 0, [], true⟩,
  ⟨(some 20), none, .nilCheck (.tmp 19), 1, [], true⟩,
  ⟨(some 21), none, .load 1 false (.tmp 20), 2, [], true⟩,
  ⟨(some 22), none, .bin .add (.tmp 21) (.const (.int .i64 1)), 3, [], true⟩,
  ⟨(some 23), none, .nilCheck (.tmp 19), 4, [], true⟩,
  ⟨none, none, .store 1 (.tmp 23) (.tmp 22), 5, [], true⟩])
 (.seq (.region 4 [
  ⟨(some 24), none, .mv (.tmp 2), 0, [], true⟩,
  ⟨(some 25), none, .mv (.tmp 1), 1, [], true⟩,
  ⟨(some 8), none, .mv (.tmp 24), 2, [], true⟩,
  ⟨(some 9), none, .mv (.tmp 25), 3, [], true⟩])
 .ret)) .skip))
 (.seq (.region 4 [
  ⟨(some 26), none, .mv (.tmp 1), 0, [], true⟩,
  ⟨(some 27), none, .mv (.tmp 2), 1, [], true⟩,
  ⟨(some 8), none, .mv (.tmp 26), 2, [], true⟩,
  ⟨(some 9), none, .mv (.tmp 27), 3, [], true⟩])
 .ret)))⟩

def m240 : MFn := ⟨58, [], (.seq (.region 4 [
  ⟨(some 12), none, .mv (.tmp 2), 0, [], true⟩,
  ⟨(some 13), none, .mv (.tmp 1), 1, [], true⟩,
  ⟨(some 14), none, .bin .sub (.tmp 12) (.tmp 13), 2, [], true⟩,
  ⟨(some 10), none, .mv (.tmp 14), 3, [], true⟩])
 (.seq (.region 4 [
  ⟨(some 15), none, .mv (.tmp 3), 0, [], true⟩,
  ⟨(some 16), none, .mv (.tmp 2), 1, [], true⟩,
  ⟨(some 17), none, .bin .sub (.tmp 15) (.tmp 16), 2, [], true⟩,
  ⟨(some 11), none, .mv (.tmp 17), 3, [], true⟩])
 (.seq (.block 0 (.loop (.seq (.seq (.region 3 [
  ⟨(some 18), none, .mv (.tmp 10), 0, [], true⟩,
  ⟨(some 19), none, .mv (.tmp 11), 1, [], true⟩,
  ⟨(some 20), none, .bin .neq (.tmp 18) (.tmp 19), 2, [], true⟩])
 (.cond (.tmp 20) .skip (.exit 0)))
 (.block 1 (.seq (.region 3 [
  ⟨(some 21), none, .mv (.tmp 10), 0, [], true⟩,
  ⟨(some 22), none, .mv (.tmp 11), 1, [], true⟩,
  ⟨(some 23), none, .bin .gtr (.tmp 21) (.tmp 22), 2, [], true⟩])
 (.cond (.tmp 23) (.seq (.region 8 [
  ⟨(some 24), none, .mv (.tmp 0), 0, [], true⟩,
  ⟨(some 25), none, .mv (.tmp 2), 1, [], true⟩,
  ⟨(some 26), none, .mv (.tmp 10), 2, [], true⟩,
  ⟨(some 27), none, .bin .sub (.tmp 25) (.tmp 26), 3, [], true⟩,
  ⟨(some 28), none, .mv (.tmp 2), 4, [], true⟩,
  ⟨(some 29), none, .mv (.tmp 11), 5, [], true⟩,
  ⟨(some 30), none, .mv (.tmp 4), 6, [], true⟩,
  ⟨(some 31), none, .call (.func 253) [(.tmp 24), (.tmp 27), (.tmp 28), (.tmp 29), (.tmp 30)], 7, [], true⟩])
 (.region 4 [
  ⟨(some 32), none, .mv (.tmp 10), 0, [], true⟩,
  ⟨(some 33), none, .mv (.tmp 11), 1, [], true⟩,
  ⟨(some 34), none, .bin .sub (.tmp 32) (.tmp 33), 2, [], true⟩,
  ⟨(some 10), none, .mv (.tmp 34), 3, [], true⟩])) (.seq (.region 12 [
  ⟨(some 35), none, .mv (.tmp 0), 0, [], true⟩,
  ⟨(some 36), none, .mv (.tmp 2), 1, [], true⟩,
  ⟨(some 37), none, .mv (.tmp 10), 2, [], true⟩,
  ⟨(some 38), none, .bin .sub (.tmp 36) (.tmp 37), 3, [], true⟩,
  ⟨(some 39), none, .mv (.tmp 2), 4, [], true⟩,
  ⟨(some 40), none, .mv (.tmp 11), 5, [], true⟩,
  ⟨(some 41), none, .bin .add (.tmp 39) (.tmp 40), 6, [], true⟩,
  ⟨(some 42), none, .mv (.tmp 10), 7, [], true⟩,
  ⟨(some 43), none, .bin .sub (.tmp 41) (.tmp 42), 8, [], true⟩,
  ⟨(some 44), none, .mv (.tmp 10), 9, [], true⟩,
  ⟨(some 45), none, .mv (.tmp 4), 10, [], true⟩,
  ⟨(some 46), none, .call (.func 253) [(.tmp 35), (.tmp 38), (.tmp 43), (.tmp 44), (.tmp 45)], 11, [], true⟩])
 (.region 4 [
  ⟨(some 47), none, .mv (.tmp 11), 0, [], true⟩,
  ⟨(some 48), none, .mv (.tmp 10), 1, [], true⟩,
  ⟨(some 49), none, .bin .sub (.tmp 47) (.tmp 48), 2, [], true⟩,
  ⟨(some 11), none, .mv (.tmp 49), 3, [], true⟩]))))))))
 (.region 8 [
  ⟨(some 50), none, .mv (.tmp 0), 0, [], true⟩,
  ⟨(some 51), none, .mv (.tmp 2), 1, [], true⟩,
  ⟨(some 52), none, .mv (.tmp 10), 2, [], true⟩,
  ⟨(some 53), none, .bin .sub (.tmp 51) (.tmp 52), 3, [], true⟩,
  ⟨(some 54), none, .mv (.tmp 2), 4, [], true⟩,
  ⟨(some 55), none, .mv (.tmp 10), 5, [], true⟩,
  ⟨(some 56), none, .mv (.tmp 4), 6, [], true⟩,
  ⟨(some 57), none, .call (.func 253) [(.tmp 50), (.tmp 53), (.tmp 54), (.tmp 55), (.tmp 56)], 7, [], true⟩]))))⟩

def m241 : MFn := ⟨31, [(4, none), (5, none)], (.seq (.region 2 [
  ⟨(some 4), none, .mv (.const (.int .u64 0)), 0, [], true⟩,
  ⟨(some 5), none, .mv (.const (.int .i64 0)), 1, [], true⟩])
 (.seq (.region 9 [
  ⟨(some 10), none, .mv (.tmp 0), 0, [], true⟩,
  ⟨(some 11), none, .call (.func 186) [(.tmp 10)], 1, [], true⟩,
  ⟨(some 9), none, .mv (.tmp 11), 2, [], true⟩,
  ⟨(some 12), none, .extract (.tmp 9) 0, 3, [], true⟩,
  ⟨(some 13), none, .extract (.tmp 9) 1, 4, [], true⟩,
  ⟨(some 14), none, .extract (.tmp 9) 2, 5, [], true⟩,
  ⟨(some 6), none, .mv (.tmp 12), 6, [], true⟩,
  ⟨(some 7), none, .mv (.tmp 13), 7, [], true⟩,
  ⟨(some 8), none, .mv (.tmp 14), 8, [], true⟩])
 (.seq (.block 0 (.seq (.region 3 [
  ⟨(some 16), none, .mv (.tmp 8), 0, [], true⟩,
  ⟨(some 17), none, .bin .neq (.tmp 16) (.const (.int .i64 0)), 1, [], true⟩,
  ⟨(some 15), none, .mv (.tmp 17), 2, [], true⟩])
 (.cond (.tmp 15) (.seq (.region 3 [
  ⟨(some 18), none, .mv (.tmp 8), 0, [], true⟩,
  ⟨(some 4), none, .mv (.const (.int .u64 0)), 1, [], true⟩,
  ⟨(some 5), none, .mv (.tmp 18), 2, [], true⟩])
 .ret) (.seq (.region 4 [
  ⟨(some 20), none, .mv (.tmp 1), 0, [], true⟩,
  ⟨(some 21), none, .call (.func 244) [(.tmp 20)], 1, [], true⟩,
  ⟨(some 22), none, .un .not (.tmp 21), 2, [], true⟩,
  ⟨(some 19), none, .mv (.tmp 22), 3, [], true⟩])
 (.cond (.tmp 19) (.seq (.region 2 [
  ⟨(some 4), none, .mv (.const (.int .u64 0)), 0, [], true⟩,
  ⟨(some 5), none, .mv (.const (.int .i64 2)), 1, [], true⟩])
 .ret) (.seq (.region 4 [
  ⟨(some 24), none, .mv (.tmp 6), 0, [], true⟩,
  ⟨(some 25), none, .mv (.tmp 1), 1, [], true⟩,
  ⟨(some 26), none, .bin .neq (.tmp 24) (.tmp 25), 2, [], true⟩,
  ⟨(some 23), none, .mv (.tmp 26), 3, [], true⟩])
 (.cond (.tmp 23) (.seq (.region 2 [
  ⟨(some 4), none, .mv (.const (.int .u64 0)), 0, [], true⟩,
  ⟨(some 5), none, .mv (.const (.int .i64 8)), 1, [], true⟩])
 .ret) .skip)))))))
 (.seq (.region 6 [
  ⟨(some 27), none, .mv (.tmp 7), 0, [], true⟩,
  ⟨(some 28), none, .call (.func 245) [(.tmp 27)], 1, [], true⟩,
  ⟨(some 29), none, .extract (.tmp 28) 0, 2, [], true⟩,
  ⟨(some 30), none, .extract (.tmp 28) 1, 3, [], true⟩,
  ⟨(some 4), none, .mv (.tmp 29), 4, [], true⟩,
  ⟨(some 5), none, .mv (.tmp 30), 5, [], true⟩])
 .ret))))⟩

def m242 : MFn := ⟨35, [(4, none), (5, none)], (.seq (.region 2 [
  ⟨(some 4), none, .mv (.const (.int .u64 0)), 0, [], true⟩,
  ⟨(some 5), none, .mv (.const (.int .i64 0)), 1, [], true⟩])
 (.seq (.region 9 [
  ⟨(some 10), none, .mv (.tmp 0), 0, [], true⟩,
  ⟨(some 11), none, .call (.func 186) [(.tmp 10)], 1, [], true⟩,
  ⟨(some 9), none, .mv (.tmp 11), 2, [], true⟩,
  ⟨(some 12), none, .extract (.tmp 9) 0, 3, [], true⟩,
  ⟨(some 13), none, .extract (.tmp 9) 1, 4, [], true⟩,
  ⟨(some 14), none, .extract (.tmp 9) 2, 5, [], true⟩,
  ⟨(some 6), none, .mv (.tmp 12), 6, [], true⟩,
  ⟨(some 7), none, .mv (.tmp 13), 7, [], true⟩,
  ⟨(some 8), none, .mv (.tmp 14), 8, [], true⟩])
 (.seq (.block 0 (.seq (.region 3 [
  ⟨(some 16), none, .mv (.tmp 8), 0, [], true⟩,
  ⟨(some 17), none, .bin .neq (.tmp 16) (.const (.int .i64 0)), 1, [], true⟩,
  ⟨(some 15), none, .mv (.tmp 17), 2, [], true⟩])
 (.cond (.tmp 15) (.seq (.region 3 [
  ⟨(some 18), none, .mv (.tmp 8), 0, [], true⟩,
  ⟨(some 4), none, .mv (.const (.int .u64 0)), 1, [], true⟩,
  ⟨(some 5), none, .mv (.tmp 18), 2, [], true⟩])
 .ret) (.seq (.region 4 [
  ⟨(some 20), none, .mv (.tmp 1), 0, [], true⟩,
  ⟨(some 21), none, .call (.func 244) [(.tmp 20)], 1, [], true⟩,
  ⟨(some 22), none, .un .not (.tmp 21), 2, [], true⟩,
  ⟨(some 19), none, .mv (.tmp 22), 3, [], true⟩])
 (.cond (.tmp 19) (.seq (.region 2 [
  ⟨(some 4), none, .mv (.const (.int .u64 0)), 0, [], true⟩,
  ⟨(some 5), none, .mv (.const (.int .i64 2)), 1, [], true⟩])
 .ret) (.seq (.region 4 [
  ⟨(some 24), none, .mv (.tmp 6), 0, [], true⟩,
  ⟨(some 25), none, .mv (.tmp 1), 1, [], true⟩,
  ⟨(some 26), none, .bin .eql (.tmp 24) (.tmp 25), 2, [], true⟩,
  ⟨(some 23), none, .mv (.tmp 26), 3, [], true⟩])
 (.cond (.tmp 23) (.seq (.region 2 [
  ⟨(some 4), none, .mv (.const (.int .u64 0)), 0, [], true⟩,
  ⟨(some 5), none, .mv (.const (.int .i64 6)), 1, [], true⟩])
 .ret) (.seq (.region 3 [
  ⟨(some 28), none, .mv (.tmp 6), 0, [], true⟩,
  ⟨(some 29), none, .bin .geq (.tmp 28) (.const (.int .i64 0)), 1, [], true⟩,
  ⟨(some 27), none, .mv (.tmp 29), 2, [], true⟩])
 (.cond (.tmp 27) (.seq (.region 2 [
  ⟨(some 4), none, .mv (.const (.int .u64 0)), 0, [], true⟩,
  ⟨(some 5), none, .mv (.const (.int .i64 7)), 1, [], true⟩])
 .ret) .skip)))))))))
 (.seq (.region 7 [
  ⟨(some 30), none, .mv (.tmp 1), 0, [], true⟩,
  ⟨(some 31), none, .mv (.tmp 7), 1, [], true⟩,
  ⟨(some 32), none, .call (.func 224) [(.tmp 30), (.tmp 31)], 2, [], true⟩,
  ⟨(some 33), none, .extract (.tmp 32) 0, 3, [], true⟩,
  ⟨(some 34), none, .extract (.tmp 32) 1, 4, [], true⟩,
  ⟨(some 4), none, .mv (.tmp 33), 5, [], true⟩,
  ⟨(some 5), none, .mv (.tmp 34), 6, [], true⟩])
 .ret))))⟩

def m243 : MFn := ⟨12, [(2, none), (3, none)], (.seq (.region 2 [
  ⟨(some 2), none, .mv (.const (.int .u64 0)), 0, [], true⟩,
  ⟨(some 3), none, .mv (.const (.int .i64 0)), 1, [], true⟩])
 (.seq (.block 0 (.seq (.region 3 [
  ⟨(some 5), none, .mv (.tmp 0), 0, [], true⟩,
  ⟨(some 6), none, .bin .gtr (.tmp 5) (.const (.int .u64 1099511627776)), 1, [], true⟩,
  ⟨(some 4), none, .mv (.tmp 6), 2, [], true⟩])
 (.cond (.tmp 4) (.seq (.region 2 [
  ⟨(some 2), none, .mv (.const (.int .u64 0)), 0, [], true⟩,
  ⟨(some 3), none, .mv (.const (.int .i64 2)), 1, [], true⟩])
 .ret) (.seq (.region 3 [
  ⟨(some 8), none, .mv (.tmp 0), 0, [], true⟩,
  ⟨(some 9), none, .bin .eql (.tmp 8) (.const (.int .u64 1099511627776)), 1, [], true⟩,
  ⟨(some 7), none, .mv (.tmp 9), 2, [], true⟩])
 (.cond (.tmp 7) (.seq (.region 2 [
  ⟨(some 2), none, .mv (.const (.int .u64 0)), 0, [], true⟩,
  ⟨(some 3), none, .mv (.const (.int .i64 4)), 1, [], true⟩])
 .ret) .skip)))))
 (.seq (.region 4 [
  ⟨(some 10), none, .mv (.tmp 0), 0, [], true⟩,
  ⟨(some 11), none, .bin .add (.tmp 10) (.const (.int .u64 1)), 1, [], true⟩,
  ⟨(some 2), none, .mv (.tmp 11), 2, [], true⟩,
  ⟨(some 3), none, .mv (.const (.int .i64 0)), 3, [], true⟩])
 .ret)))⟩

def m244 : MFn := ⟨9, [(2, none)], (.seq (.region 1 [
  ⟨(some 2), none, .mv (.const (.bool false)), 0, [], true⟩])
 (.seq (.region 7 [
  ⟨(some 3), none, .mv (.tmp 0), 0, [], true⟩,
  ⟨(some 4), none, .bin .geq (.tmp 3) (.const (.int .i64 0)), 1, [], true⟩,
  ⟨(some 5), none, .mv (.tmp 4), 2, [], true⟩,
  ⟨(some 6), (some (5, true)), .mv (.tmp 0), 3, [], true⟩,
  ⟨(some 7), (some (5, true)), .bin .lss (.tmp 6) (.const (.int .i64 4)), 4, [], true⟩,
  ⟨(some 8), none, .pick (.tmp 5) (.tmp 7) (.const (.bool false)), 5, [], true⟩,
  ⟨(some 2), none, .mv (.tmp 8), 6, [], true⟩])
 .ret))⟩

end Ev

/- Compiled functions. -/
namespace Ev
open Go

def m245 : MFn := ⟨8, [(2, none), (3, none)], (.seq (.region 2 [
  ⟨(some 2), none, .mv (.const (.int .u64 0)), 0, [], true⟩,
  ⟨(some 3), none, .mv (.const (.int .i64 0)), 1, [], true⟩])
 (.seq (.seq (.region 2 [
  ⟨(some 4), none, .mv (.tmp 0), 0, [], true⟩,
  ⟨(some 5), none, .bin .gtr (.tmp 4) (.const (.int .u64 1099511627776)), 1, [], true⟩])
 (.cond (.tmp 5) (.seq (.region 2 [
  ⟨(some 2), none, .mv (.const (.int .u64 0)), 0, [], true⟩,
  ⟨(some 3), none, .mv (.const (.int .i64 2)), 1, [], true⟩])
 .ret) .skip))
 (.seq (.region 4 [
  ⟨(some 6), none, .mv (.tmp 0), 0, [], true⟩,
  ⟨(some 7), none, .bin .mul (.tmp 6) (.const (.int .u64 32)), 1, [], true⟩,
  ⟨(some 2), none, .mv (.tmp 7), 2, [], true⟩,
  ⟨(some 3), none, .mv (.const (.int .i64 0)), 3, [], true⟩])
 .ret)))⟩

def m246 : MFn := ⟨29, [(4, none)], (.seq (.region 1 [
  ⟨(some 4), none, .mv (.const (.slice none 0 0)), 0, [], true⟩])
 (.seq (.region 1 [
  ⟨(some 5), none, .mv (.const (.slice none 0 0)), 0, [], true⟩])
 (.seq (.seq (.region 3 [
  ⟨(some 9), none, .mv (.tmp 1), 0, [], true⟩,
  ⟨(some 10), none, .len false (.tmp 9), 1, [], true⟩,
  ⟨(some 11), none, .mv (.const (.int .i64 0)), 2, [], true⟩])
 (.block 0 (.loop (.seq (.region 1 [
  ⟨(some 12), none, .bin .lss (.tmp 11) (.tmp 10), 0, [], true⟩])
 (.seq (.cond (.tmp 12) .skip (.exit 0))
 (.seq (.block 1 (.seq (.region 3 [
  ⟨(some 13), none, .adSl 1 (.tmp 9) (.tmp 11), 0, [], true⟩,
  ⟨(some 14), none, .load 1 false (.tmp 13), 1, [], true⟩,
  ⟨(some 7), none, .mv (.tmp 14), 2, [], true⟩])
 (.seq (.region 4 [
  ⟨(some 15), none, .mv (.tmp 0), 0, [], true⟩,
  ⟨(some 16), none, .mv (.tmp 7), 1, [], true⟩,
  ⟨(some 17), none, .call (.func 97) [(.tmp 15), (.tmp 16)], 2, [], true⟩,
  ⟨(some 8), none, .mv (.tmp 17), 3, [], true⟩])
 (.seq (.region 2 [
  ⟨(some 18), none, .mv (.tmp 8), 0, [], true⟩,
  ⟨(some 19), none, .bin .geq (.tmp 18) (.const (.int .i64 0)), 1, [], true⟩])
 (.cond (.tmp 19) (.region 5 [
  ⟨(some 20), none, .mv (.tmp 5), 0, [], true⟩,
  ⟨(some 21), none, .mv (.tmp 8), 1, [], true⟩,
  ⟨(some 22), none, .buildSl 3 1 1 [(.int .i64 0)] [(0, 1, (.tmp 21))], 2, [], true⟩,
  ⟨(some 23), none, .append 3 1 8 (.tmp 20) (.tmp 22), 3, [], true⟩,
  ⟨(some 5), none, .mv (.tmp 23), 4, [], true⟩]) .skip)))))
 (.region 2 [
  ⟨(some 24), none, .bin .add (.tmp 11) (.const (.int .i64 1)), 0, [], true⟩,
  ⟨(some 11), none, .mv (.tmp 24), 1, [], true⟩])))))))
 (.seq (.region 2 [
  ⟨(some 25), none, .mv (.tmp 5), 0, [], true⟩,
  ⟨(some 26), none, .call (.func 43) [(.tmp 25)], 1, [], true⟩])
 (.seq (.region 3 [
  ⟨(some 27), none, .mv (.tmp 5), 0, [], true⟩,
  ⟨(some 28), none, .call (.func 254) [(.tmp 27)], 1, [], true⟩,
  ⟨(some 4), none, .mv (.tmp 28), 2, [], true⟩])
 .ret)))))⟩

def m247 : MFn := ⟨19, [(4, none)], (.seq (.region 1 [
  ⟨(some 4), none, .mv (.const (.int .i64 0)), 0, [], true⟩])
 (.seq (.seq (.region 3 [
  ⟨(some 6), none, .mv (.tmp 0), 0, [], true⟩,
  ⟨(some 7), none, .len false (.tmp 6), 1, [], true⟩,
  ⟨(some 8), none, .mv (.const (.int .i64 0)), 2, [], true⟩])
 (.block 0 (.loop (.seq (.region 1 [
  ⟨(some 9), none, .bin .lss (.tmp 8) (.tmp 7), 0, [], true⟩])
 (.seq (.cond (.tmp 9) .skip (.exit 0))
 (.seq (.block 1 (.seq (.region 2 [
  ⟨(some 10), none, .mv (.tmp 8), 0, [], true⟩,
  ⟨(some 5), none, .mv (.tmp 10), 1, [], true⟩])
 (.seq (.region 6 [
  ⟨(some 11), none, .mv (.tmp 1), 0, [], true⟩,
  ⟨(some 12), none, .mv (.tmp 0), 1, [], true⟩,
  ⟨(some 13), none, .mv (.tmp 5), 2, [], true⟩,
  ⟨(some 14), none, .adSl 1 (.tmp 12) (.tmp 13), 3, [], true⟩,
  ⟨(some 15), none, .load 1 false (.tmp 14), 4, [], true⟩,
  ⟨(some 16), none, .bin .eql (.tmp 11) (.tmp 15), 5, [], true⟩])
 (.cond (.tmp 16) (.seq (.region 2 [
  ⟨(some 17), none, .mv (.tmp 5), 0, [], true⟩,
  ⟨(some 4), none, .mv (.tmp 17), 1, [], true⟩])
 .ret) .skip))))
 (.region 2 [
  ⟨(some 18), none, .bin .add (.tmp 8) (.const (.int .i64 1)), 0, [], true⟩,
  ⟨(some 8), none, .mv (.tmp 18), 1, [], true⟩])))))))
 (.seq (.region 1 [
  ⟨(some 4), none, .mv (.const (.int .i64 (-1))), 0, [], true⟩])
 .ret)))⟩

def m248 : MFn := ⟨10, [(3, none), (4, none)], (.seq (.region 2 [
  ⟨(some 3), none, .mv (.const (.int .u64 0)), 0, [], true⟩,
  ⟨(some 4), none, .mv (.const (.int .i64 0)), 1, [], true⟩])
 (.seq (.region 7 [
  ⟨(some 5), none, .mv (.tmp 0), 0, [], true⟩,
  ⟨(some 6), none, .load 1 false (.tmp 1), 1, [], true⟩,
  ⟨(some 7), none, .call (.func 249) [(.tmp 5), (.tmp 6)], 2, [], true⟩,
  ⟨(some 8), none, .extract (.tmp 7) 0, 3, [], true⟩,
  ⟨(some 9), none, .extract (.tmp 7) 1, 4, [], true⟩,
  ⟨(some 3), none, .mv (.tmp 8), 5, [], true⟩,
  ⟨(some 4), none, .mv (.tmp 9), 6, [], true⟩])
 .ret))⟩

def m249 : MFn := ⟨34, [(4, none), (5, none)], (.seq (.region 2 [
  ⟨(some 4), none, .mv (.const (.int .u64 0)), 0, [], true⟩,
  ⟨(some 5), none, .mv (.const (.int .i64 0)), 1, [], true⟩])
 (.seq (.region 9 [
  ⟨(some 9), none, .mv (.tmp 0), 0, [], true⟩,
  ⟨(some 10), none, .mv (.tmp 1), 1, [], true⟩,
  ⟨(some 11), none, .call (.func 237) [(.tmp 9), (.tmp 10)], 2, [], true⟩,
  ⟨(some 8), none, .mv (.tmp 11), 3, [], true⟩,
  ⟨(some 12), none, .extract (.tmp 8) 0, 4, [], true⟩,
  ⟨(some 13), none, .extract (.tmp 8) 1, 5, [], true⟩,
  ⟨(some 6), none, .alloc [(.int .i64 0), (.int .u64 0)] 207, 6, [], true⟩,
  ⟨none, none, .store 2 (.tmp 6) (.tmp 12), 7, [], true⟩,
  ⟨(some 7), none, .mv (.tmp 13), 8, [], true⟩])
 (.seq (.block 0 (.seq (.region 3 [
  ⟨(some 15), none, .mv (.tmp 7), 0, [], true⟩,
  ⟨(some 16), none, .bin .neq (.tmp 15) (.const (.int .i64 0)), 1, [], true⟩,
  ⟨(some 14), none, .mv (.tmp 16), 2, [], true⟩])
 (.cond (.tmp 14) (.seq (.region 3 [
  ⟨(some 17), none, .mv (.tmp 7), 0, [], true⟩,
  ⟨(some 4), none, .mv (.const (.int .u64 0)), 1, [], true⟩,
  ⟨(some 5), none, .mv (.tmp 17), 2, [], true⟩])
 .ret) (.seq (.region 5 [
  ⟨(some 19), none, .fieldAddr 0 (.tmp 6), 0, [], true⟩,
  ⟨(some 20), none, .load 1 false (.tmp 19), 1, [], true⟩,
  ⟨(some 21), none, .mv (.tmp 1), 2, [], true⟩,
  ⟨(some 22), none, .bin .eql (.tmp 20) (.tmp 21), 3, [], true⟩,
  ⟨(some 18), none, .mv (.tmp 22), 4, [], true⟩])
 (.cond (.tmp 18) (.seq (.region 2 [
  ⟨(some 4), none, .mv (.const (.int .u64 0)), 0, [], true⟩,
  ⟨(some 5), none, .mv (.const (.int .i64 6)), 1, [], true⟩])
 .ret) (.seq (.region 4 [
  ⟨(some 24), none, .fieldAddr 0 (.tmp 6), 0, [], true⟩,
  ⟨(some 25), none, .load 1 false (.tmp 24), 1, [], true⟩,
  ⟨(some 26), none, .bin .neq (.tmp 25) (.const (.int .i64 (-1))), 2, [], true⟩,
  ⟨(some 23), none, .mv (.tmp 26), 3, [], true⟩])
 (.cond (.tmp 23) (.seq (.region 2 [
  ⟨(some 4), none, .mv (.const (.int .u64 0)), 0, [], true⟩,
  ⟨(some 5), none, .mv (.const (.int .i64 7)), 1, [], true⟩])
 .ret) .skip)))))))
 (.seq (.region 9 [
  ⟨(some 27), none, .mv (.tmp 1), 0, [], true⟩,
  ⟨(some 28), none, .fieldAddr 1 (.tmp 6), 1, [], true⟩,
  ⟨(some 29), none, .load 1 false (.tmp 28), 2, [], true⟩,
  ⟨(some 30), none, .build [(.int .i64 0), (.int .u64 0)] [(0, 1, (.tmp 27)), (1, 1, (.tmp 29))], 3, [], true⟩,
  ⟨(some 31), none, .call (.func 252) [(.tmp 30)], 4, [], true⟩,
  ⟨(some 32), none, .extract (.tmp 31) 0, 5, [], true⟩,
  ⟨(some 33), none, .extract (.tmp 31) 1, 6, [], true⟩,
  ⟨(some 4), none, .mv (.tmp 32), 7, [], true⟩,
  ⟨(some 5), none, .mv (.tmp 33), 8, [], true⟩])
 .ret))))⟩

def m250 : MFn := ⟨22, [(2, none), (3, none)], (.seq (.region 2 [
  ⟨(some 2), none, .mv (.const (.int .u64 0)), 0, [], true⟩,
  ⟨(some 3), none, .mv (.const (.int .i64 0)), 1, [], true⟩])
 (.seq (.region 10 [
  ⟨(some 7), none, .mv (.tmp 0), 0, [], true⟩,
  ⟨(some 8), none, .nilCheck (.tmp 7), 1, [], true⟩,
  ⟨(some 9), none, .fieldAddr 0 (.tmp 8), 2, [], true⟩,
  ⟨(some 10), none, .load 1 false (.tmp 9), 3, [], true⟩,
  ⟨(some 11), none, .call (.func 255) [(.tmp 10)], 4, [], true⟩,
  ⟨(some 6), none, .mv (.tmp 11), 5, [], true⟩,
  ⟨(some 12), none, .extract (.tmp 6) 0, 6, [], true⟩,
  ⟨(some 13), none, .extract (.tmp 6) 1, 7, [], true⟩,
  ⟨(some 4), none, .mv (.tmp 12), 8, [], true⟩,
  ⟨(some 5), none, .mv (.tmp 13), 9, [], true⟩])
 (.seq (.seq (.region 2 [
  ⟨(some 14), none, .mv (.tmp 5), 0, [], true⟩,
  ⟨(some 15), none, .bin .neq (.tmp 14) (.const (.int .i64 0)), 1, [], true⟩])
 (.cond (.tmp 15) (.seq (.region 3 [
  ⟨(some 16), none, .mv (.tmp 5), 0, [], true⟩,
  ⟨(some 2), none, .mv (.const (.int .u64 0)), 1, [], true⟩,
  ⟨(some 3), none, .mv (.tmp 16), 2, [], true⟩])
 .ret) .skip))
 (.seq (.region 5 [
  ⟨(some 17), none, .mv (.tmp 0), 0, [], true⟩,
  ⟨(some 18), none, .mv (.tmp 4), 1, [], true⟩,
  ⟨(some 19), none, .nilCheck (.tmp 17), 2, [], true⟩,
  ⟨(some 20), none, .fieldAddr 0 (.tmp 19), 3, [], true⟩,
  ⟨none, none, .store 1 (.tmp 20) (.tmp 18), 4, [], true⟩])
 (.seq (.region 3 [
  ⟨(some 21), none, .mv (.tmp 4), 0, [], true⟩,
  ⟨(some 2), none, .mv (.tmp 21), 1, [], true⟩,
  ⟨(some 3), none, .mv (.const (.int .i64 0)), 2, [], true⟩])
 .ret)))))⟩

def m251 : MFn := ⟨8, [(2, none)], (.seq (.region 1 [
  ⟨(some 2), none, .mv (.const (.slice none 0 0)), 0, [], true⟩])
 (.seq (.seq (.region 2 [
  ⟨(some 3), none, .mv (.tmp 0), 0, [], true⟩,
  ⟨(some 4), none, .eq false .slice (.tmp 3) (.const (.slice none 0 0)), 1, [], true⟩])
 (.cond (.tmp 4) (.seq (.region 1 [
  ⟨(some 2), none, .mv (.const (.slice none 0 0)), 0, [], true⟩])
 .ret) .skip))
 (.seq (.region 4 [
  ⟨(some 5), none, .buildSl 138 2 0 [] [], 0, [], true⟩,
  ⟨(some 6), none, .mv (.tmp 0), 1, [], true⟩,
  ⟨(some 7), none, .append 138 2 16 (.tmp 5) (.tmp 6), 2, [], true⟩,
  ⟨(some 2), none, .mv (.tmp 7), 3, [], true⟩])
 .ret)))⟩

def m252 : MFn := ⟨9, [(2, none), (3, none)], (.seq (.region 3 [
  ⟨(some 1), none, .box 207 (.tmp 0), 0, [], true⟩,
  ⟨(some 2), none, .mv (.const (.int .u64 0)), 1, [], true⟩,
  ⟨(some 3), none, .mv (.const (.int .i64 0)), 2, [], true⟩])
 (.seq (.seq (.region 3 [
  ⟨(some 4), none, .load 2 true (.tmp 1), 0, [], true⟩,
  ⟨(some 5), none, .call (.func 203) [(.tmp 4)], 1, [], true⟩,
  ⟨(some 6), none, .un .not (.tmp 5), 2, [], true⟩])
 (.cond (.tmp 6) (.seq (.region 2 [
  ⟨(some 2), none, .mv (.const (.int .u64 0)), 0, [], true⟩,
  ⟨(some 3), none, .mv (.const (.int .i64 2)), 1, [], true⟩])
 .ret) .skip))
 (.seq (.region 4 [
  ⟨(some 7), none, .load 2 true (.tmp 1), 0, [], true⟩,
  ⟨(some 8), none, .call (.func 256) [(.tmp 7)], 1, [], true⟩,
  ⟨(some 2), none, .mv (.tmp 8), 2, [], true⟩,
  ⟨(some 3), none, .mv (.const (.int .i64 0)), 3, [], true⟩])
 .ret)))⟩

def m253 : MFn := ⟨38, [], (.seq (.region 1 [
  ⟨(some 10), none, .mv (.const (.int .i64 0)), 0, [], true⟩])
 (.block 0 (.loop (.seq (.seq (.region 3 [
  ⟨(some 11), none, .mv (.tmp 10), 0, [], true⟩,
  ⟨(some 12), none, .mv (.tmp 3), 1, [], true⟩,
  ⟨(some 13), none, .bin .lss (.tmp 11) (.tmp 12), 2, [], true⟩])
 (.cond (.tmp 13) .skip (.exit 0)))
 (.seq (.block 1 (.region 24 [
  ⟨(some 16), none, .mv (.tmp 0), 0, [], true⟩,
  ⟨(some 17), none, .mv (.tmp 1), 1, [], false⟩,
  ⟨(some 18), none, .mv (.tmp 10), 2, [], false⟩,
  ⟨(some 19), none, .bin .add (.tmp 17) (.tmp 18), 3, [], false⟩,
  ⟨(some 20), none, .mv (.tmp 0), 4, [], false⟩,
  ⟨(some 21), none, .mv (.tmp 2), 5, [], false⟩,
  ⟨(some 22), none, .mv (.tmp 10), 6, [], false⟩,
  ⟨(some 23), none, .bin .add (.tmp 21) (.tmp 22), 7, [], false⟩,
  ⟨(some 24), none, .mv (.tmp 0), 8, [], false⟩,
  ⟨(some 25), none, .mv (.tmp 2), 9, [], false⟩,
  ⟨(some 26), none, .mv (.tmp 10), 10, [], false⟩,
  ⟨(some 27), none, .bin .add (.tmp 25) (.tmp 26), 11, [], false⟩,
  ⟨(some 28), none, .adSl 3 (.tmp 24) (.tmp 27), 12, [], false⟩,
  ⟨(some 29), none, .load 3 true (.tmp 28), 13, [], false⟩,
  ⟨(some 30), none, .mv (.tmp 0), 14, [], false⟩,
  ⟨(some 31), none, .mv (.tmp 1), 15, [], false⟩,
  ⟨(some 32), none, .mv (.tmp 10), 16, [], false⟩,
  ⟨(some 33), none, .bin .add (.tmp 31) (.tmp 32), 17, [], false⟩,
  ⟨(some 34), none, .adSl 3 (.tmp 30) (.tmp 33), 18, [], false⟩,
  ⟨(some 35), none, .load 3 true (.tmp 34), 19, [], false⟩,
  ⟨(some 36), none, .adSl 3 (.tmp 16) (.tmp 19), 20, [], false⟩,
  ⟨none, none, .store 3 (.tmp 36) (.tmp 29), 21, [], false⟩,
  ⟨(some 37), none, .adSl 3 (.tmp 20) (.tmp 23), 22, [], true⟩,
  ⟨none, none, .store 3 (.tmp 37) (.tmp 35), 23, [], true⟩]))
 (.region 3 [
  ⟨(some 14), none, .mv (.tmp 10), 0, [], true⟩,
  ⟨(some 15), none, .bin .add (.tmp 14) (.const (.int .i64 1)), 1, [], true⟩,
  ⟨(some 10), none, .mv (.tmp 15), 2, [], true⟩]))))))⟩

def m255 : MFn := ⟨10, [(2, none), (3, none)], (.seq (.region 2 [
  ⟨(some 2), none, .mv (.const (.int .u64 0)), 0, [], true⟩,
  ⟨(some 3), none, .mv (.const (.int .i64 0)), 1, [], true⟩])
 (.seq (.seq (.region 2 [
  ⟨(some 4), none, .mv (.tmp 0), 0, [], true⟩,
  ⟨(some 5), none, .bin .gtr (.tmp 4) (.const (.int .u64 1099511627776)), 1, [], true⟩])
 (.cond (.tmp 5) (.seq (.region 2 [
  ⟨(some 2), none, .mv (.const (.int .u64 0)), 0, [], true⟩,
  ⟨(some 3), none, .mv (.const (.int .i64 2)), 1, [], true⟩])
 .ret) .skip))
 (.seq (.seq (.region 2 [
  ⟨(some 6), none, .mv (.tmp 0), 0, [], true⟩,
  ⟨(some 7), none, .bin .eql (.tmp 6) (.const (.int .u64 1099511627776)), 1, [], true⟩])
 (.cond (.tmp 7) (.seq (.region 2 [
  ⟨(some 2), none, .mv (.const (.int .u64 0)), 0, [], true⟩,
  ⟨(some 3), none, .mv (.const (.int .i64 4)), 1, [], true⟩])
 .ret) .skip))
 (.seq (.region 4 [
  ⟨(some 8), none, .mv (.tmp 0), 0, [], true⟩,
  ⟨(some 9), none, .bin .add (.tmp 8) (.const (.int .u64 1)), 1, [], true⟩,
  ⟨(some 2), none, .mv (.tmp 9), 2, [], true⟩,
  ⟨(some 3), none, .mv (.const (.int .i64 0)), 3, [], true⟩])
 .ret))))⟩

def m256 : MFn := ⟨18, [(2, none)], (.seq (.region 2 [
  ⟨(some 1), none, .box 207 (.tmp 0), 0, [], true⟩,
  ⟨(some 2), none, .mv (.const (.int .u64 0)), 1, [], true⟩])
 (.seq (.region 4 [
  ⟨(some 4), none, .fieldAddr 1 (.tmp 1), 0, [], true⟩,
  ⟨(some 5), none, .load 1 false (.tmp 4), 1, [], true⟩,
  ⟨(some 6), none, .bin .shl (.tmp 5) (.const (.int .u64 5)), 2, [], true⟩,
  ⟨(some 3), none, .mv (.tmp 6), 3, [], true⟩])
 (.seq (.seq (.region 3 [
  ⟨(some 7), none, .fieldAddr 0 (.tmp 1), 0, [], true⟩,
  ⟨(some 8), none, .load 1 false (.tmp 7), 1, [], true⟩,
  ⟨(some 9), none, .bin .neq (.tmp 8) (.const (.int .i64 (-1))), 2, [], true⟩])
 (.cond (.tmp 9) (.region 8 [
  ⟨(some 10), none, .mv (.tmp 3), 0, [], true⟩,
  ⟨(some 11), none, .fieldAddr 0 (.tmp 1), 1, [], true⟩,
  ⟨(some 12), none, .load 1 false (.tmp 11), 2, [], true⟩,
  ⟨(some 13), none, .conv .u64 (.tmp 12), 3, [], true⟩,
  ⟨(some 14), none, .bin .shl (.tmp 13) (.const (.int .u64 1)), 4, [], true⟩,
  ⟨(some 15), none, .bin .or (.tmp 14) (.const (.int .u64 1)), 5, [], true⟩,
  ⟨(some 16), none, .bin .or (.tmp 10) (.tmp 15), 6, [], true⟩,
  ⟨(some 3), none, .mv (.tmp 16), 7, [], true⟩]) .skip))
 (.seq (.region 2 [
  ⟨(some 17), none, .mv (.tmp 3), 0, [], true⟩,
  ⟨(some 2), none, .mv (.tmp 17), 1, [], true⟩])
 .ret))))⟩

end Ev

/- The predicate transformer over compiled code, calls as a least fixed point, and an executable run that is sound for it. -/
namespace Ev
open Go

inductive Tgt where
  | fn (f : FuncId)
  | yield (l : Id)

inductive Res where
  | ret (v : Value)
  | panic (ch : Chain)

structure CA where
  tgt : Tgt
  args : List Value
  m : Option AMode
  s : S
  Q : Res → Option AMode → S → Prop

/-- The compiled program: functions, and methods by dynamic types. -/
structure Pg where
  fn : FuncId → Option MFn
  meth : TypeId → String → Option FuncId
  ext : FuncId → Option (List Value → Option Value)
  sem : CA → Prop

/-- A function without a body of its own. -/
def extOf (G : Pg) : Tgt → Option (List Value → Option Value)
  | .fn f => G.ext f
  | .yield _ => none

abbrev KV := Value → F → S → Prop
abbrev KX := Ex → F → S → Prop

def tgtOf (v : Value) (args : List Value) : Option (Tgt × List Value) :=
  match v with
  | .func (.func g) first cap => some (.fn g, first.toList ++ args ++ cap.toList)
  | .func (.yield l) first _ => some (.yield l, first.toList ++ args)
  | _ => none

def F.put (fr : F) (d : Option Nat) (v : Value) : F :=
  match d with
  | some d => { fr with t := upd fr.t d v }
  | none => fr

def wantedM (g : Option (Nat × Bool)) (t : List Value) : Bool :=
  match g with
  | none => true
  | some (n, want) => match nth t n with
    | some (.bool b) => b == want
    | _ => false

def again : List (Bool × Option Nat × Option (Nat × Bool) × Nat × MK) → List Value → Nat → Heap → Heap → Prop
  | [], _, _, _, _ => True
  | (isA, _, g, at_, k) :: l, t, c0, h, h' =>
    (wantedM g t = true → if isA then h'.get (c0 + at_) = h.get (c0 + at_) else evR k t h' = evR k t h) ∧ again l t c0 h h'

def settleA : AMode → AMode
  | .pan ((_, true) :: _) => .ret
  | m => m

def raisedA (u : AMode) (ch : Chain) : AMode :=
  match u with
  | .pan old => .pan (ch ++ old)
  | .ret => .pan ch

def resK (tight : Bool) (fr : F) (K : KV) (Q : KX) : Res → Option AMode → S → Prop := fun r _ s =>
  match r with
  | .ret v => K v fr s
  | .panic ch => tight = true ∧ Q (.panic ch) fr s

section
variable (G : Pg) (C : CA → Prop)

/-- A call, a defer, a recover, a panic, the next entry of a map. -/
def wpCtl (k : MK) (tight : Bool) (fr : F) (s : S) (K : KV) (Q : KX) : Prop :=
  match k with
  | .call f xs => match eval fr.t f, evals fr.t xs with
    | some fv, some vs => match tgtOf fv vs with
      | some (tg, as) => match extOf G tg with
        | some e => match e as with
          | some v => K v fr s
          | none => False
        | none => C ⟨tg, as, none, s, resK tight fr K Q⟩
      | none => False
    | _, _ => False
  | .invoke x name xs => match eval fr.t x, evals fr.t xs with
    | some (.iface t v), some vs => match G.meth t name with
      | some f => C ⟨.fn f, v :: vs, none, s, resK tight fr K Q⟩
      | none => False
    | _, _ => False
  | .defer f xs => match eval fr.t f, evals fr.t xs with
    | some fv, some vs => match tgtOf fv vs, fr.r with
      | some (.fn g, as), none => K undef { fr with d := .fn g as :: fr.d } s
      | _, _ => False
    | _, _ => False
  | .recover => match fr.r with
    | some _ => False
    | none => match fr.m with
      | some (.pan ((v, false) :: older)) => K v { fr with m := some (.pan ((v, true) :: older)) } s
      | _ => K .nilIface fr s
  | .panic x => match eval fr.t x with
    | some (.iface t v) => tight = true ∧ Q (.panic [(.iface t v, false)]) fr s
    | _ => False
  | .nextMap it => match eval fr.t it with
    | some (.pointer (some ⟨r, 0, _⟩)) => match s.h.get r with
      | some (.mapIter none _ _ _) => K (.tuple #[.bool false]) fr s
      | some (.mapIter (some m) since seen last) => match s.h.get m with
        | some (.map es clock) =>
          (!seen.isEmpty && !es.isEmpty && es.all (fun e => Nat.ble last e.born)) = false ∧
          (((es.filter fun e => !seen.contains e.born).filter fun e => Nat.blt e.born since) = [] → K (.tuple #[.bool false]) fr s) ∧
          ∀ e ∈ es, seen.contains e.born = false → K (.tuple #[.bool true, e.key, e.val]) fr { s with h := s.h.set r (some (.mapIter (some m) since (seen ++ [e.born]) clock)) }
        | _ => False
      | _ => False
    | _ => False
  | _ => False

/-- One operation; 'slot': the number of what it makes. -/
def wpM (k : MK) (slot : Id) (tight : Bool) (fr : F) (s : S) (K : KV) (Q : KX) : Prop :=
  match cls k with
  | .p => match evP k fr.t with
    | some v => K v fr s
    | none => False
  | .r => match evR k fr.t s.h with
    | some v => K v fr s
    | none => False
  | .a => match evA k fr.t with
    | some (o, g) => K (g slot) fr { s with h := s.h.set slot (some o) }
    | none => False
  | .w => match evS k fr.t s with
    | some (v, s') => K v fr s'
    | none => False
  | .c => wpCtl G C k tight fr s K Q

def wpOps (c0 : Nat) (Q : KX) : List MO → F → S → Prop
  | [], fr, s => Q .normal fr s
  | o :: os, fr, s => match wantedM o.guard fr.t with
    | true => wpM G C o.k (c0 + o.at_) o.tight fr s (fun v fr' s' => again o.re fr.t c0 s.h s'.h ∧ wpOps c0 Q os (fr'.put o.dst v) s') Q
    | false => wpOps c0 Q os (fr.put o.dst undef) s

def thenQ (K : F → S → Prop) (Q : KX) : KX := fun x fr s =>
  match x with
  | .normal => K fr s
  | x => Q x fr s

def blockQ (id : Nat) (Q : KX) : KX := fun x fr s =>
  match x with
  | .exit i => bif Nat.beq i id then Q .normal fr s else Q (.exit i) fr s
  | x => Q x fr s

/-- What stands behind a loop over a function, when the function has returned. -/
def endLoop (l : Id) (fr : F) (Q : KX) : Res → Option AMode → S → Prop := fun r _ s =>
  match r with
  | .ret _ => match s.h.get l with
    | some (.loop st pend t ps asg body dfr) => match st with
      | .busy => False
      | _ => match pend with
        | none => Q .normal fr { s with h := s.h.set l (some (.loop .exhausted pend t ps asg body dfr)) }
        | some x => Q x fr { s with h := s.h.set l (some (.loop .exhausted pend t ps asg body dfr)) }
    | _ => False
  | .panic ch => Q (.panic ch) fr s

def wpC : MC → KX → F → S → Prop
  | .skip, Q, fr, s => Q .normal fr s
  | .region n ops, Q, fr, s => wpOps G C s.c Q ops fr { s with c := s.c + n }
  | .seq a b, Q, fr, s => wpC a (thenQ (wpC b Q) Q) fr s
  | .cond c a b, Q, fr, s => match eval fr.t c with
    | some (.bool true) => wpC a Q fr s
    | some (.bool false) => wpC b Q fr s
    | _ => False
  | .block id a, Q, fr, s => wpC a (blockQ id Q) fr s
  | .loop a, Q, fr, s => ∀ I : F → S → Prop, (∀ fr s, wpC a (thenQ I Q) fr s → I fr s) → I fr s
  | .exit id, Q, fr, s => Q (.exit id) fr s
  | .ret, Q, fr, s => Q .ret fr s
  | .rangeF f ps asg body, Q, fr, s => match eval fr.t f with
    | some fv =>
      match fr.r with
      | none => match tgtOf fv [.func (.yield (s.c + 1)) #[] #[]] with
        | some (.fn tg, as) => C ⟨.fn tg, as, none,
            { h := (s.h.set s.c (some (.dfr true))).set (s.c + 1) (some (.loop .ready none fr.t ps asg body s.c)), c := s.c + 2 },
            endLoop (s.c + 1) { fr with d := .col s.c :: fr.d } Q⟩
        | _ => False
      | some l => match s.h.get l with
        | some (.loop _ _ _ _ _ _ dfr) => match tgtOf fv [.func (.yield s.c) #[] #[]] with
          | some (.fn tg, as) => C ⟨.fn tg, as, none, { h := s.h.set s.c (some (.loop .ready none fr.t ps asg body dfr)), c := s.c + 1 }, endLoop s.c fr Q⟩
          | _ => False
        | _ => False
    | none => False

def resultsV (h : Heap) (t : List Value) : List (Nat × Option (Nat × Bool)) → Option (List Value)
  | [] => some []
  | (n, k) :: rs => match nth t n with
    | some v => match (match k with | none => some v | some (size, agg) => loadV h size agg v) with
      | some v => match resultsV h t rs with
        | some vs => some (v :: vs)
        | none => none
      | none => none
    | none => none

def retV : List Value → Value
  | [v] => v
  | vs => .tuple vs.toArray

def unwindQ (rs : List (Nat × Option (Nat × Bool))) (t : List Value) (Q : Res → Option AMode → S → Prop) (m : Option AMode) : List ADef → AMode → S → Prop
  | [], .ret, s => match resultsV s.h t rs with
    | some vs => Q (.ret (retV vs)) m s
    | none => False
  | [], .pan ch, s => Q (.panic ch) m s
  | .col b :: ds, u, s => match s.h.get b with
    | some (.dfr true) => unwindQ rs t Q m ds u { s with h := s.h.set b (some (.dfr false)) }
    | _ => False
  | .fn f args :: ds, u, s => C ⟨.fn f, args, some u, s, fun r u' s' => match r, u' with
    | .ret _, some u' => unwindQ rs t Q m ds (settleA u') s'
    | .panic ch, some u' => unwindQ rs t Q m ds (raisedA u' ch) s'
    | _, none => False⟩

def bodyQ (fn : MFn) (Q : Res → Option AMode → S → Prop) : KX := fun x fr s =>
  match x with
  | .normal => unwindQ C fn.results fr.t Q fr.m fr.d .ret s
  | .ret => unwindQ C fn.results fr.t Q fr.m fr.d .ret s
  | .panic ch => unwindQ C fn.results fr.t Q fr.m fr.d (.pan ch) s
  | .exit _ => False

/-- The end of a round of a loop over a function. -/
def roundQ (l : Id) (Q : Res → Option AMode → S → Prop) : KX := fun x fr s =>
  match fr.d with
  | [] => match x with
    | .panic ch => Q (.panic ch) none s
    | x => match s.h.get l with
      | some (.loop _ _ t ps asg body dfr) => match x with
        | .normal => Q (.ret (.bool true)) none { s with h := s.h.set l (some (.loop .ready none t ps asg body dfr)) }
        | x => Q (.ret (.bool false)) none { s with h := s.h.set l (some (.loop .done (some x) t ps asg body dfr)) }
      | _ => False
  | _ :: _ => False

def updA : List Value → List Nat → List Value → List Value
  | t, p :: ps, v :: vs => updA (upd t p v) ps vs
  | t, _, _ => t

def Fn (x : CA) : Prop :=
  match x.tgt with
  | .fn f => match G.fn f with
    | some m => wpC G C m.code (bodyQ C m x.Q) { t := x.args ++ List.replicate (m.ntmps - x.args.length) undef, d := [], m := x.m, r := none } x.s
    | none => False
  | .yield l => match x.s.h.get l, x.m with
    | some (.loop _ _ t ps asg body _), none =>
      x.args.length = ps.length ∧
      wpC G C asg (fun e fr s => match e with
        | .normal => match s.h.get l with
          | some (.loop .ready pend t' ps' asg' body' dfr') =>
            wpC G C body (roundQ l x.Q) fr { s with h := s.h.set l (some (.loop .busy pend t' ps' asg' body' dfr')) }
          | _ => False
        | _ => False) { t := updA t ps x.args, d := [], m := none, r := some l } x.s
    | _, _ => False
end


/-- Closed upwards in what is promised. -/
def Up (C : CA → Prop) : Prop := ∀ (x : CA) (Q' : Res → Option AMode → S → Prop), C x → (∀ r m s, x.Q r m s → Q' r m s) → C { x with Q := Q' }

/-- The least predicate on calls that is closed: what a call comes to, in whatever way it goes. -/
def Cl (G : Pg) (x : CA) : Prop := ∀ C : CA → Prop, Up C → (∀ y, Fn G C y → C y) → (∀ y, G.sem y → C y) → C x

/-! monotony -/
section
variable {G : Pg} {C C' : CA → Prop} (hC : ∀ (x : CA) (Q' : Res → Option AMode → S → Prop), C x → (∀ r m s, x.Q r m s → Q' r m s) → C' { x with Q := Q' })
theorem resK_mono {tight : Bool} {fr : F} {K K' : KV} {Q Q' : KX} (hK : ∀ v fr s, K v fr s → K' v fr s)
    (hQ : ∀ x fr s, Q x fr s → Q' x fr s) (r : Res) (m : Option AMode) (s : S) (h : resK tight fr K Q r m s) : resK tight fr K' Q' r m s := by
  cases r with
  | ret v => exact hK _ _ _ h
  | panic ch => exact ⟨h.1, hQ _ _ _ h.2⟩

include hC in
theorem wpCtl_mono {k : MK} {tight : Bool} {fr : F} {s : S} {K K' : KV} {Q Q' : KX} (hK : ∀ v fr s, K v fr s → K' v fr s)
    (hQ : ∀ x fr s, Q x fr s → Q' x fr s) (h : wpCtl G C k tight fr s K Q) : wpCtl G C' k tight fr s K' Q' := by
  cases k <;> simp only [wpCtl] at h ⊢ <;> first
    | exact h.elim
    | skip
  case call f xs =>
    split at h <;> first | exact h.elim | skip
    split at h <;> first | exact h.elim | skip
    split at h
    · split at h <;> first | exact h.elim | exact hK _ _ _ h
    · exact hC ⟨_, _, _, _, _⟩ _ h (resK_mono hK hQ)
  case invoke f n xs =>
    split at h <;> first | exact h.elim | skip
    split at h <;> first | exact h.elim | skip
    exact hC ⟨_, _, _, _, _⟩ _ h (resK_mono hK hQ)
  case defer f xs =>
    split at h <;> first | exact h.elim | skip
    split at h <;> first | exact h.elim | skip
    exact hK _ _ _ h
  case recover =>
    split at h <;> first | exact h.elim | skip
    split at h <;> exact hK _ _ _ h
  case panic x =>
    split at h <;> first | exact h.elim | skip
    exact ⟨h.1, hQ _ _ _ h.2⟩
  case nextMap it =>
    split at h <;> first | exact h.elim | skip
    split at h <;> first | exact h.elim | skip
    · exact hK _ _ _ h
    · split at h <;> first | exact h.elim | skip
      exact ⟨h.1, fun e => hK _ _ _ (h.2.1 e), fun e he hs => hK _ _ _ (h.2.2 e he hs)⟩

include hC in
theorem wpM_mono {k : MK} {slot : Id} {tight : Bool} {fr : F} {s : S} {K K' : KV} {Q Q' : KX} (hK : ∀ v fr s, K v fr s → K' v fr s)
    (hQ : ∀ x fr s, Q x fr s → Q' x fr s) (h : wpM G C k slot tight fr s K Q) : wpM G C' k slot tight fr s K' Q' := by
  unfold wpM at h ⊢
  split at h <;> first
    | exact wpCtl_mono hC hK hQ h
    | (split at h <;> first | exact h.elim | exact hK _ _ _ h)

include hC in
theorem wpOps_mono {c0 : Nat} {Q Q' : KX} (hQ : ∀ x fr s, Q x fr s → Q' x fr s) : ∀ (os : List MO) (fr : F) (s : S),
    wpOps G C c0 Q os fr s → wpOps G C' c0 Q' os fr s := by
  intro os
  induction os with
  | nil => exact fun fr s h => hQ _ _ _ h
  | cons o os ih =>
    intro fr s h
    simp only [wpOps] at h ⊢
    split at h
    · exact wpM_mono hC (fun v fr' s' h => ⟨h.1, ih _ _ h.2⟩) hQ h
    · exact ih _ _ h

theorem endLoop_mono {l : Id} {fr : F} {Q Q' : KX} (hQ : ∀ x fr s, Q x fr s → Q' x fr s) (r : Res) (m : Option AMode) (s : S)
    (h : endLoop l fr Q r m s) : endLoop l fr Q' r m s := by
  cases r with
  | panic ch => exact hQ _ _ _ h
  | ret v =>
    simp only [endLoop] at h ⊢
    split at h <;> first | exact h.elim | skip
    split at h <;> first | exact h.elim | skip
    split at h <;> exact hQ _ _ _ h

theorem thenQ_mono {K K' : F → S → Prop} {Q Q' : KX} (hK : ∀ fr s, K fr s → K' fr s) (hQ : ∀ x fr s, Q x fr s → Q' x fr s) :
    ∀ x fr s, thenQ K Q x fr s → thenQ K' Q' x fr s := by
  intro x fr s h
  cases x <;> first | exact hK _ _ h | exact hQ _ _ _ h

theorem blockQ_mono {id : Nat} {Q Q' : KX} (hQ : ∀ x fr s, Q x fr s → Q' x fr s) : ∀ x fr s, blockQ id Q x fr s → blockQ id Q' x fr s := by
  intro x fr s h
  cases x with
  | exit i =>
    simp only [blockQ] at h ⊢
    cases hb : Nat.beq i id <;> simp only [hb, cond_true, cond_false] at h ⊢ <;> exact hQ _ _ _ h
  | _ => exact hQ _ _ _ h

include hC in
theorem wpC_mono : ∀ (c : MC) {Q Q' : KX} (_ : ∀ x fr s, Q x fr s → Q' x fr s) (fr : F) (s : S), wpC G C c Q fr s → wpC G C' c Q' fr s := by
  intro c
  induction c with
  | skip => intro Q Q' hQ fr s h; exact hQ _ _ _ h
  | region n ops => intro Q Q' hQ fr s h; exact wpOps_mono hC hQ _ _ _ h
  | seq a b iha ihb => intro Q Q' hQ fr s h; exact iha (thenQ_mono (fun fr s h => ihb hQ fr s h) hQ) fr s h
  | cond c a b iha ihb =>
    intro Q Q' hQ fr s h
    simp only [wpC] at h ⊢
    split at h <;> first | exact h.elim | skip
    · exact iha hQ _ _ h
    · exact ihb hQ _ _ h
  | block id a iha => intro Q Q' hQ fr s h; exact iha (blockQ_mono hQ) fr s h
  | loop a iha =>
    intro Q Q' hQ fr s h
    simp only [wpC] at h ⊢
    intro I hI
    exact h I fun fr s h' => hI fr s (iha (thenQ_mono (fun _ _ h => h) hQ) fr s h')
  | exit id => intro Q Q' hQ fr s h; exact hQ _ _ _ h
  | ret => intro Q Q' hQ fr s h; exact hQ _ _ _ h
  | rangeF f ps asg body _ _ =>
    intro Q Q' hQ fr s h
    simp only [wpC] at h ⊢
    split at h <;> first | exact h.elim | skip
    split at h
    · split at h <;> first | exact h.elim | skip
      exact hC ⟨_, _, _, _, _⟩ _ h (endLoop_mono hQ)
    · split at h <;> first | exact h.elim | skip
      split at h <;> first | exact h.elim | skip
      exact hC ⟨_, _, _, _, _⟩ _ h (endLoop_mono hQ)

include hC in
theorem unwindQ_mono {rs : List (Nat × Option (Nat × Bool))} {t : List Value} {Q Q' : Res → Option AMode → S → Prop} {m : Option AMode}
    (hQ : ∀ r m s, Q r m s → Q' r m s) : ∀ (ds : List ADef) (u : AMode) (s : S), unwindQ C rs t Q m ds u s → unwindQ C' rs t Q' m ds u s := by
  intro ds
  induction ds with
  | nil =>
    intro u s h
    cases u with
    | ret => simp only [unwindQ] at h ⊢; split at h <;> first | exact h.elim | exact hQ _ _ _ h
    | pan ch => exact hQ _ _ _ h
  | cons d ds ih =>
    intro u s h
    cases d with
    | col b => simp only [unwindQ] at h ⊢; split at h <;> first | exact h.elim | exact ih _ _ h
    | fn f args =>
      simp only [unwindQ] at h ⊢
      refine hC ⟨_, _, _, _, _⟩ _ h fun r u' s' h' => ?_
      cases r <;> cases u' <;> simp only [] at h' ⊢ <;> first | exact h'.elim | exact ih _ _ h'

include hC in
theorem bodyQ_mono {fn : MFn} {Q Q' : Res → Option AMode → S → Prop} (hQ : ∀ r m s, Q r m s → Q' r m s) :
    ∀ x fr s, bodyQ C fn Q x fr s → bodyQ C' fn Q' x fr s := by
  intro x fr s h
  cases x <;> first | exact h.elim | exact unwindQ_mono hC hQ _ _ _ h

theorem roundQ_mono {l : Id} {Q Q' : Res → Option AMode → S → Prop} (hQ : ∀ r m s, Q r m s → Q' r m s) :
    ∀ x fr s, roundQ l Q x fr s → roundQ l Q' x fr s := by
  intro x fr s h
  simp only [roundQ] at h ⊢
  split at h <;> first | exact h.elim | skip
  cases x <;> simp only at h ⊢ <;> first
    | exact hQ _ _ _ h
    | (split at h <;> first | exact h.elim | exact hQ _ _ _ h)

include hC in
theorem Fn_mono (x : CA) (Q' : Res → Option AMode → S → Prop) (h : Fn G C x) (hQ : ∀ r m s, x.Q r m s → Q' r m s) : Fn G C' { x with Q := Q' } := by
  obtain ⟨tgt, args, m, s, Q⟩ := x
  cases tgt with
  | fn f =>
    simp only [Fn] at h ⊢
    split at h <;> first | exact h.elim | skip
    exact wpC_mono hC _ (bodyQ_mono hC hQ) _ _ h
  | yield l =>
    simp only [Fn] at h ⊢
    split at h <;> first | exact h.elim | skip
    refine ⟨h.1, wpC_mono hC _ (fun e fr s h => ?_) _ _ h.2⟩
    split at h <;> first | exact h.elim | skip
    split at h <;> first | exact h.elim | skip
    exact wpC_mono hC _ (roundQ_mono hQ) _ _ h
end

theorem Cl.up {G : Pg} : Up (Cl G) := fun x Q' h hQ C hU hC hL => hU x Q' (h C hU hC hL) hQ

theorem Cl.closed {G : Pg} (x : CA) (h : Fn G (Cl G) x) : Cl G x := fun C hU hC hL =>
  hC x (Fn_mono (fun y Q' hy hq => hU y Q' (hy C hU hC hL) hq) x x.Q h fun _ _ _ h => h)

theorem Cl.sem {G : Pg} {x : CA} (h : G.sem x) : Cl G x := fun _ _ _ hL => hL _ h

theorem Cl.mono {G : Pg} {tg : Tgt} {as : List Value} {m : Option AMode} {s : S} {Q Q' : Res → Option AMode → S → Prop}
    (h : Cl G ⟨tg, as, m, s, Q⟩) (hQ : ∀ r m s, Q r m s → Q' r m s) : Cl G ⟨tg, as, m, s, Q'⟩ := Cl.up _ Q' h hQ
end Ev

/- From the model's code to compiled code, with the checks on which the soundness of a region leans. -/
namespace Ev
open Go

def closedF : Nat → Value → Bool
  | 0, _ => false
  | n + 1, v => match v with
    | .bool _ | .int _ _ | .float _ _ | .string _ | .pointer none | .map none | .nilFunc | .nilIface => true
    | .slice none _ c => Nat.blt c unk
    | .iface _ v => closedF n v
    | .agg cs => cs.toList.all (closedF n)
    | .tuple cs => cs.toList.all (closedF n)
    | .func (.func _) a b => a.toList.all (closedF n) && b.toList.all (closedF n)
    | _ => false

def closed (v : Value) : Bool := closedF 6 v

def okOpd : Operand → Bool
  | .const v => closed v
  | .global _ => false
  | _ => true

section
variable (P : Program)

def sizeT (t : TypeId) : Option Nat := (P.info? t).map (·.size)

def aggT (t : TypeId) : Option Bool := match P.underlying t with
  | some (.struct _) => some true
  | some (.array _ _) => some true
  | some _ => some false
  | none => none

def zeroT (t : TypeId) : Option Value := (P.info? t).bind (·.zero)

/-- Size, and whether it is a struct or an array: what 'loadVar' and 'part' ask. (Of no aggregate the size is 1.) -/
def shapeT (t : TypeId) : Option (Nat × Bool) := match aggT P t, sizeT P t with
  | some true, some n => some (n, true)
  | some false, some 1 => some (1, false)
  | _, _ => none

def cEqFs (r : TypeId → Option EqK) : List Field → Option (List (Nat × Nat × Bool × EqK))
  | [] => some []
  | f :: fs => if f.name = "_" then none else match shapeT P f.type, r f.type, cEqFs r fs with
    | some (n, g), some e, some l => some ((f.offset, n, g, e) :: l)
    | _, _, _ => none

def cEq : Nat → TypeId → Option EqK
  | 0, _ => none
  | d + 1, t => match P.underlying t with
    | some .bool => some .bool
    | some (.int _) => some .int
    | some .string => some .str
    | some (.pointer e) => match sizeT P e with
      | some (_ + 1) => some .ptr
      | _ => none
    | some (.interface _) => some .iface
    | some (.slice _) => some .slice
    | some (.map _ _) => some .map
    | some (.func _ _ _) => some .func
    | some (.struct fields) => if P.stoodInHeld t then none else match cEqFs P (cEq d) fields.toList with
      | some l => some (.st l)
      | none => none
    | some (.array n el) => match shapeT P el, cEq d el with
      | some (sz, g), some e => some (.st ((List.range n).map fun i => (i * sz, sz, g, e)))
      | _, _ => none
    | _ => none

def isConstO : Operand → Bool
  | .const _ => true
  | _ => false

/-- '==' and '!=' on what is neither an integer, nor a float, nor a string. -/
def cEqOp (neg : Bool) (t : TypeId) (x y : Operand) : Option MK := match cEq P 4 t with
  | some .iface => if isConstO x || isConstO y then some (.eq neg .iface x y) else none
  | some (.st fs) => if P.eqGuardType P.depth t then none else some (.eq neg (.st fs) x y)
  | some e => some (.eq neg e x y)
  | none => none

def cBin (op : BinOp) (t : TypeId) (x y : Operand) : Option MK := match P.underlying t with
  | some (.int _) => some (.bin op x y)
  | some (.float _) => match op with
    | .eql | .neq | .lss | .leq | .gtr | .geq => some (.bin op x y)
    | _ => none
  | some .string => some (.bin op x y)
  | _ => match op with
    | .eql => cEqOp P false t x y
    | .neq => cEqOp P true t x y
    | _ => none

def cKey (t : TypeId) : Option KK := match P.underlying t with
  | some (.int _) => some .int
  | some .string => some .str
  | _ => none

def cParts (place : Nat → Option (Nat × Nat)) : List (Nat × Operand) → Option (List (Nat × Nat × Operand))
  | [] => some []
  | (i, x) :: ps => match place i, cParts place ps with
    | some (o, n), some l => some ((o, n, x) :: l)
    | _, _ => none

def placesOf (fields : List Field) : Option (List (Nat × Nat)) := match fields with
  | [] => some []
  | f :: fs => match sizeT P f.type, placesOf fs with
    | some n, some l => some ((f.offset, n) :: l)
    | _, _ => none

def cCall (c : Call) : Option MK := match c.callee with
  | .value f => some (.call f c.args.toList)
  | .invoke r name => some (.invoke r name c.args.toList)
  | .builtin b => match b, c.argTypes.toList, c.args.toList with
    | .len, [t], [x] => match P.underlying t with
      | some .string => some (.len true x)
      | some (.slice _) => some (.len false x)
      | some (.array n _) => some (.lenC n)
      | some (.map _ _) => some (.lenMap x)
      | _ => none
    | .cap, [t], [x] => match P.underlying t with
      | some (.slice _) => some (.cap x)
      | _ => none
    | .append, [t, u], [s, x] => match P.underlying t, P.underlying u with
      | some (.slice e), some (.slice _) => match P.info? e with
        | some i => match i.zero with
          | some z => if z.cells.size = i.size then some (.append e i.size i.bytes s x) else none
          | none => none
        | none => none
      | some (.slice e), some .string => match P.info? e with
        | some i => match i.zero with
          | some z => if z.cells.size = i.size then some (.append e i.size i.bytes s x) else none
          | none => none
        | none => none
      | _, _ => none
    | .copy, [t, _], [d, x] => match P.underlying t with
      | some (.slice e) => match sizeT P e with
        | some n => some (.copy n d x)
        | none => none
      | _ => none
    | .delete, t :: _, [m, x] => match P.underlying t with
      | some (.map k _) => match cKey P k with
        | some kk => some (.delete kk m x)
        | none => none
      | _ => none
    | .clear, [t], [m] => match P.underlying t with
      | some (.map _ _) => some (.clearMap m)
      | _ => none
    | .recover, _, [] => some .recover
    | .min, _, [x, y] => some (.mm false x y)
    | .max, _, [x, y] => some (.mm true x y)
    | _, _, _ => none

def cOp0 (o : Oper) : Option MK := match o.op with
  | .move x | .assign x => some (.mv x)
  | .pick c a b => some (.pick c a b)
  | .alloc t => match zeroT P t with
    | some z => some (.alloc z.cells.toList t)
    | none => none
  | .box t x => some (.box t x)
  | .build t parts => match zeroT P t, P.underlying t with
    | some z, some (.struct fields) => match placesOf P fields.toList with
      | some pl => match cParts (nth pl) parts.toList with
        | some ps => some (.build z.cells.toList ps)
        | none => none
      | none => none
    | some z, some (.array _ e) => match sizeT P e with
      | some n => match cParts (fun i => some (i * n, n)) parts.toList with
        | some ps => some (.build z.cells.toList ps)
        | none => none
      | none => none
    | _, _ => none
  | .buildSlice t len parts => match P.underlying t with
    | some (.slice e) => match sizeT P e with
      | some n => if len * n > 16777216 ∨ len > 16777216 then none else
        match (if len * n = 0 then some #[] else (zeroT P e).map (·.cells)) with
        | some z => match cParts (fun i => some (i * n, n)) parts.toList with
          | some ps => some (.buildSl e n len ((Array.range (len * n)).map (z[· % z.size]!)).toList ps)
          | none => none
        | none => none
      | none => none
    | _ => none
  | .load t a => match shapeT P t with
    | some (n, g) => some (.load n g a)
    | none => none
  | .store t a x => match sizeT P t with
    | some n => some (.store n a x)
    | none => none
  | .nilCheck x => some (.nilCheck x)
  | .binOp op t x y _ => cBin P op t x y
  | .unOp op _ x => some (.un op x)
  | .convert src dst x => match P.underlying src, P.underlying dst with
    | some (.int _), some (.int k) => some (.conv k x)
    | some (.int _), some (.float k) => some (.convF k x)
    | some .string, some .string => some (.same x)
    | some (.slice e), some .string => match P.underlying e with
      | some (.int .u8) => some (.toStr x)
      | _ => none
    | some .string, some (.slice e) => match P.underlying e with
      | some (.int .u8) => some (.toBytes e x)
      | _ => none
    | _, _ => none
  | .makeInterface t x => match P.underlying t with
    | some (.interface _) => none
    | some _ => some (.iface t x)
    | none => none
  | .makeFunc (.func f) first captured => some (.func (.func f) first.toList captured.toList)
  | .makeMap _ none => some .makeMap
  | .makeSlice t l c => match P.underlying t with
    | some (.slice e) => match P.info? e with
      | some i => match i.zero with
        | some z => if z.cells.size = i.size ∧ 0 < i.size then some (.makeSl e i.bytes z.cells.toList l c) else none
        | none => none
      | none => none
    | _ => none
  | .slice t x lo hi mx => if mx.isSome && hi.isNone then none else match P.underlying t with
    | some .string => match mx with
      | none => some (.slStr x lo hi)
      | some _ => none
    | some (.slice e) => match sizeT P e with
      | some n => some (.slSl n x lo hi mx)
      | none => none
    | some (.array m e) => match sizeT P e with
      | some n => if m < unk then some (.slArr m n x lo hi mx) else none
      | none => none
    | _ => none
  | .fieldAddr s x f => match P.underlying s with
    | some (.struct fields) => match fields[f]? with
      | some fd => match sizeT P fd.type with
        | some (_ + 1) => some (.fieldAddr fd.offset x)
        | _ => none
      | none => none
    | _ => none
  | .field t x f => match P.underlying t with
    | some (.struct fields) => match fields[f]? with
      | some fd => match shapeT P fd.type with
        | some (n, g) => some (.field fd.offset n g x)
        | none => none
      | none => none
    | _ => none
  | .indexAddr t x ix => match P.underlying t with
    | some (.array len e) => match sizeT P e with
      | some n => some (.adArr len n x ix)
      | none => none
    | some (.slice e) => match sizeT P e with
      | some n => some (.adSl n x ix)
      | none => none
    | _ => none
  | .index t x ix => match P.underlying t with
    | some (.array len e) => match shapeT P e with
      | some (n, g) => some (.idxArr len n g x ix)
      | none => none
    | some .string => some (.idxStr x ix)
    | _ => none
  | .lookup t m ix ok => match P.underlying t with
    | some (.map k e) => match cKey P k, zeroT P e with
      | some kk, some z => if closed z then some (.lookup kk z ok m ix) else none
      | _, _ => none
    | _ => none
  | .mapUpdate t m k x => match P.underlying t with
    | some (.map kt _) => match cKey P kt with
      | some kk => some (.mapSet kk m k x)
      | none => none
    | _ => none
  | .mapEntry t m k => match P.underlying t with
    | some (.map kt e) => match cKey P kt, zeroT P e with
      | some kk, some z => if closed z then some (.mapEntry kk z m k) else none
      | _, _ => none
    | _ => none
  | .entryStore _ m s x => some (.entrySet m s x)
  | .range t x => match P.underlying t with
    | some .string => some (.rangeStr x)
    | some (.map _ _) => some (.rangeMap x)
    | _ => none
  | .next it isStr => if isStr then some (.nextStr it) else some (.nextMap it)
  | .entry it => some (.entry it)
  | .typeAssert x _ u ok => match ok, P.underlying u, zeroT P u with
    | true, some (.interface _), _ => none
    | true, some _, some z => if closed z then some (.assertT u z x) else none
    | _, _, _ => none
  | .extract t i => some (.extract t i)
  | .call c => cCall P c
  | .defer c => match c.callee with
    | .value f => some (.defer f c.args.toList)
    | _ => none
  | .panic x => some (.panic x)
  | _ => none

def opds (o : Oper) : List Operand := o.op.operands.toList

def closedAll (k : MK) : Bool := match k with
  | .alloc z _ => z.all closed
  | .build z _ => z.all closed
  | .buildSl _ _ _ z _ => z.all closed
  | .makeSl _ _ z _ _ => z.all closed
  | _ => true

def cOp (o : Oper) : Option MK := if (opds o).all okOpd then (match cOp0 P o with
  | some k => if closedAll k then some k else none
  | none => none) else none

def guardOf (ops : Array Oper) (o : Oper) : Option (Option (Nat × Bool)) := match o.guard with
  | none => some none
  | some (j, want) => match (ops[j]?).bind (·.dst) with
    | some d => some (some (d, want))
    | none => none

/-- Kinds and guards of a region's operations. -/
def cKinds (ops : Array Oper) : List Oper → Option (List (MK × Option (Nat × Bool)))
  | [] => some []
  | o :: os => match cOp P o, guardOf ops o, cKinds ops os with
    | some k, some g, some l => some ((k, g) :: l)
    | _, _, _ => none

def plainMOs : List Oper → List (MK × Option (Nat × Bool)) → Nat → List MO
  | o :: os, (k, g) :: ks, i => { dst := o.dst, guard := g, k := k, at_ := i, re := [], tight := true } :: plainMOs os ks (i + 1)
  | _, _, _ => []
end

/-! a region that draws its order -/
def osl : Operand → List Nat
  | .tmp n => [n]
  | _ => []

def osls (xs : List Operand) : List Nat := xs.flatMap osl
def oslo (x : Option Operand) : List Nat := match x with
  | some x => osl x
  | none => []
def oslp (ps : List (Nat × Nat × Operand)) : List Nat := ps.flatMap fun p => osl p.2.2

/-- The slots that an operation reads. -/
def ksl : MK → List Nat
  | .mv x | .nilCheck x | .un _ x | .conv _ x | .convF _ x | .same x | .field _ _ _ x | .fieldAddr _ x | .extract x _ | .iface _ x | .assertT _ _ x | .len _ x | .cap x
  | .load _ _ x | .lenMap x | .entry x | .toStr x | .box _ x | .toBytes _ x | .rangeStr x | .rangeMap x | .nextStr x | .nextMap x | .clearMap x | .panic x => osl x
  | .bin _ x y | .eq _ _ x y | .idxArr _ _ _ x y | .idxStr x y | .adArr _ _ x y | .adSl _ x y | .mm _ x y | .lookup _ _ _ x y | .makeSl _ _ _ x y | .store _ x y | .mapEntry _ _ x y
  | .append _ _ _ x y | .copy _ x y | .delete _ x y => osl x ++ osl y
  | .pick x y z | .mapSet _ x y z | .entrySet x y z => osl x ++ osl y ++ osl z
  | .slStr x lo hi => osl x ++ oslo lo ++ oslo hi
  | .slSl _ x lo hi mx | .slArr _ _ x lo hi mx => osl x ++ oslo lo ++ oslo hi ++ oslo mx
  | .build _ ps | .buildSl _ _ _ _ ps => oslp ps
  | .func _ a b => osls a ++ osls b
  | .call f xs | .defer f xs | .invoke f _ xs => osl f ++ osls xs
  | .lenC _ | .alloc _ _ | .makeMap | .recover => []

/-- The slots that an operation and its guard read. -/
def slotsK (kg : MK × Option (Nat × Bool)) : List Nat := ksl kg.1 ++ (match kg.2 with
  | some (n, _) => [n]
  | none => [])

def actor (k : MK) : Bool := match cls k with
  | .w | .c => true
  | _ => false

def holder (k : MK) : Bool := match cls k with
  | .r | .a => true
  | _ => false

def ready (anc : List Nat) (n done : Nat) : List Nat :=
  (List.range n).filter fun i => !done.testBit i && Nat.beq ((nth anc i).getD 0 &&& done) ((nth anc i).getD 0)

def orderF (anc : List Nat) (act : List Bool) (n : Nat) : Nat → Nat → List Nat
  | 0, _ => []
  | f + 1, done =>
    let rs := ready anc n done
    match (match rs.find? (fun i => !((nth act i).getD true)) with | some i => some i | none => rs.head?) with
    | some i => i :: orderF anc act n f (done ||| 2 ^ i)
    | none => []

def directs (o : Oper) : List Nat := (o.after.toList.filter (Region.binds .any ·)).map (·.on)

def ancOf (anc : List Nat) (i : Nat) : Nat := (nth anc i).getD 0

def dstOf (ops : Array Oper) (i : Nat) : Option Nat := (ops[i]?).bind (·.dst)

/-- What must be looked at again behind an operation. -/
def reOf (ks : List (MK × Option (Nat × Bool))) (a : Nat) (pre : List Nat) : List (Bool × Option Nat × Option (Nat × Bool) × Nat × MK) :=
  (pre.reverse.filter fun j => !a.testBit j).filterMap fun j => match nth ks j with
    | some (kj, gj) => if holder kj then some (cls kj == .a, none, gj, j, kj) else none
    | none => none

/-- Nothing that has come up has written what a pending operation reads. -/
def okPend (ops : Array Oper) (ks : List (MK × Option (Nat × Bool))) (anc : List Nat) (a : Nat) (pre : List Nat) : Bool :=
  pre.all fun i => a.testBit i || (match nth ks i with
    | some kg => !holder kg.1 || pre.all (fun j => (ancOf anc i).testBit j || (match dstOf ops j with
      | some n => !(slotsK kg).contains n
      | none => true))
    | none => false)

/-- The checks on an order: 'pre' has come up. -/
def okOrder (ops : Array Oper) (ks : List (MK × Option (Nat × Bool))) (anc : List Nat) : List Nat → List Nat → Bool
  | _, [] => true
  | pre, i :: rest =>
    (match ops[i]?, nth ks i with
      | some o, some (k, _) =>
        !pre.contains i &&
        (directs o).all pre.contains &&
        pre.all (fun j => (match nth ks j with | some (kj, _) => !actor kj | none => false) || (ancOf anc i).testBit j) &&
        (!actor k || okPend ops ks anc (ancOf anc i) pre)
      | _, _ => false) && okOrder ops ks anc (i :: pre) rest

def okAnc (ops : Array Oper) (anc : List Nat) : Bool :=
  ops.toList.zipIdx.all fun (o, i) => (List.range ops.size).all fun j =>
    !(ancOf anc i).testBit j || (directs o).any fun e => e == j || (ancOf anc e).testBit j

def okSlots (ops : Array Oper) (ks : List (MK × Option (Nat × Bool))) (anc : List Nat) : Bool :=
  (List.range ops.size).all fun i => match dstOf ops i with
    | none => true
    | some d => (List.range ops.size).all fun j => i == j ||
      (dstOf ops j != some d && (match nth ks j with
        | some kg => !(slotsK kg).contains d || (ancOf anc j).testBit i || (ancOf anc i).testBit j
        | none => false))

/-- No predecessor beyond the region, and none of an operation itself. -/
def okBits (ops : Array Oper) (anc : List Nat) : Bool :=
  (List.range ops.size).all fun i => decide (ancOf anc i < 2 ^ ops.size)

def drawMOs (ops : Array Oper) (ks : List (MK × Option (Nat × Bool))) (anc : List Nat) : List Nat → List Nat → List MO
  | _, [] => []
  | pre, i :: rest =>
    match nth ks i with
    | some (k, g) =>
      { dst := dstOf ops i, guard := g, k := k, at_ := i, re := if actor k then reOf ks (ancOf anc i) pre else [], tight := pre.all fun j => (ancOf anc i).testBit j } ::
        drawMOs ops ks anc (i :: pre) rest
    | none => []

section
variable (P : Program)
def cRegion (ops : Array Oper) (draw : Bool) : Option MC :=
  match cKinds P ops ops.toList with
  | none => none
  | some ks =>
    if draw then
      let anc := (Region.before ops).toList
      let order := orderF anc (ks.map fun x => actor x.1) ops.size ops.size 0
      if Nat.beq order.length ops.size && okOrder ops ks anc [] order && okAnc ops anc && okSlots ops ks anc && okBits ops anc && (List.range ops.size).all order.contains then
        some (.region ops.size (drawMOs ops ks anc [] order))
      else none
    else some (.region ops.size (plainMOs ops.toList ks 0))

def cCode : Code → Option MC
  | .skip => some .skip
  | .label _ => some .skip
  | .region _ ops draw => cRegion P ops draw
  | .seq a b => match cCode a, cCode b with
    | some x, some y => some (.seq x y)
    | _, _ => none
  | .cond c a b => if okOpd c then (match cCode a, cCode b with
    | some x, some y => some (.cond c x y)
    | _, _ => none) else none
  | .block id a => match cCode a with
    | some x => some (.block id x)
    | none => none
  | .loop a => match cCode a with
    | some x => some (.loop x)
    | none => none
  | .scope a => cCode a
  | .exit id => some (.exit id)
  | .ret => some .ret
  | .rangeFunc f ps a b => if okOpd f then (match cCode a, cCode b with
    | some x, some y => some (.rangeF f ps.toList x y)
    | _, _ => none) else none
  | _ => none

def cResults : List ResultVar → Option (List (Nat × Option (Nat × Bool)))
  | [] => some []
  | .tmp t :: rs => match cResults rs with
    | some l => some ((t, none) :: l)
    | none => none
  | .cell a t :: rs => match shapeT P t, cResults rs with
    | some (n, g), some l => some ((a, some (n, g)) :: l)
    | _, _ => none

def cFn (f : Func) : Option MFn :=
  if f.name == "runtime.NumGoroutine" then none else
  match f.body with
  | none => none
  | some c => match cCode P c, cResults P f.results.toList with
    | some m, some rs => some { ntmps := f.ntmps, results := rs, code := m }
    | _, _ => none
end
end Ev

/- The relation between abstract values, blocks, states and the model's own. -/
namespace Ev
open Go

/-- Of an abstract block's number: the real block's, and how many cells it has. -/
abbrev Rho := Nat → Option (Nat × Nat)

inductive L2 {α β : Type} (R : α → β → Prop) : List α → List β → Prop where
  | nil : L2 R [] []
  | cons {a : α} {b : β} {l : List α} {m : List β} : R a b → L2 R l m → L2 R (a :: l) (b :: m)

/-- Values that may stand behind one of which nothing is known. -/
def topOk : Value → Bool
  | .agg _ | .tuple _ | .bool _ => false
  | _ => true

mutual
inductive VR (ρ : Rho) : Value → Value → Prop where
  | top {v' : Value} (h : topOk v' = true) : VR ρ (.chan none) v'
  | bool (b : Bool) : VR ρ (.bool b) (.bool b)
  | int (k : IntKind) (n : Int) : VR ρ (.int k n) (.int k n)
  | float (k : FloatKind) (b : Nat) : VR ρ (.float k b) (.float k b)
  | string (s : ByteArray) : VR ρ (.string s) (.string s)
  | ptrN : VR ρ (.pointer none) (.pointer none)
  | ptr {b o b' r : Nat} {sp : Option Nat} (h : ρ b = some (b', r)) : VR ρ (.pointer (some ⟨b, o, sp⟩)) (.pointer (some ⟨b', o, none⟩))
  | sliceN (n c : Nat) (h : c < unk) : VR ρ (.slice none n c) (.slice none n c)
  | slice {b o b' r n c : Nat} {sp : Option Nat} (h : ρ b = some (b', r)) (hc : c < unk) : VR ρ (.slice (some ⟨b, o, sp⟩) n c) (.slice (some ⟨b', o, none⟩) n c)
  | sliceU {b o b' r n c e : Nat} {sp : Option Nat} (h : ρ b = some (b', r)) (hc : n ≤ c) (hr : o + c * e ≤ r) (he : 0 < e) :
      VR ρ (.slice (some ⟨b, o, sp⟩) n (unk + e)) (.slice (some ⟨b', o, none⟩) n c)
  | sliceE (a : Option Addr) (c : Nat) : VR ρ (.slice none 0 emp) (.slice a 0 c)
  | mapN : VR ρ (.map none) (.map none)
  | map {m m' r : Nat} (h : ρ m = some (m', r)) : VR ρ (.map (some m)) (.map (some m'))
  | func (f : FuncId) {a a' c c' : Array Value} (ha : VRL ρ a.toList a'.toList) (hc : VRL ρ c.toList c'.toList) : VR ρ (.func (.func f) a c) (.func (.func f) a' c')
  | yield {l l' r : Nat} (h : ρ l = some (l', r)) {a a' c c' : Array Value} (ha : VRL ρ a.toList a'.toList) (hc : VRL ρ c.toList c'.toList) :
      VR ρ (.func (.yield l) a c) (.func (.yield l') a' c')
  | nilFunc : VR ρ .nilFunc .nilFunc
  | nilIface : VR ρ .nilIface .nilIface
  | iface (t : TypeId) {v v' : Value} (h : VR ρ v v') : VR ρ (.iface t v) (.iface t v')
  | agg {a a' : Array Value} (h : VRL ρ a.toList a'.toList) : VR ρ (.agg a) (.agg a')
  | tuple {a a' : Array Value} (h : VRL ρ a.toList a'.toList) : VR ρ (.tuple a) (.tuple a')
inductive VRL (ρ : Rho) : List Value → List Value → Prop where
  | nil : VRL ρ [] []
  | cons {v v' : Value} {l l' : List Value} (h : VR ρ v v') (t : VRL ρ l l') : VRL ρ (v :: l) (v' :: l')
end

def Sub (ρ ρ' : Rho) : Prop := ∀ i x, ρ i = some x → ρ' i = some x

theorem Sub.refl (ρ : Rho) : Sub ρ ρ := fun _ _ h => h
theorem Sub.trans {ρ ρ' ρ'' : Rho} (h : Sub ρ ρ') (h' : Sub ρ' ρ'') : Sub ρ ρ'' := fun i x hx => h' i x (h i x hx)

mutual
theorem VR.mono {ρ ρ' : Rho} (hs : Sub ρ ρ') {v v' : Value} : VR ρ v v' → VR ρ' v v'
  | .top h => .top h
  | .bool b => .bool b
  | .int k n => .int k n
  | .float k b => .float k b
  | .string s => .string s
  | .ptrN => .ptrN
  | .ptr h => .ptr (hs _ _ h)
  | .sliceN n c h => .sliceN n c h
  | .slice h hc => .slice (hs _ _ h) hc
  | .sliceU h hc hr he => .sliceU (hs _ _ h) hc hr he
  | .sliceE a c => .sliceE a c
  | .mapN => .mapN
  | .map h => .map (hs _ _ h)
  | .func f ha hc => .func f (VRL.mono hs ha) (VRL.mono hs hc)
  | .yield h ha hc => .yield (hs _ _ h) (VRL.mono hs ha) (VRL.mono hs hc)
  | .nilFunc => .nilFunc
  | .nilIface => .nilIface
  | .iface t h => .iface t (VR.mono hs h)
  | .agg h => .agg (VRL.mono hs h)
  | .tuple h => .tuple (VRL.mono hs h)
theorem VRL.mono {ρ ρ' : Rho} (hs : Sub ρ ρ') {l l' : List Value} : VRL ρ l l' → VRL ρ' l l'
  | .nil => .nil
  | .cons h t => .cons (VR.mono hs h) (VRL.mono hs t)
end

section
variable {ρ : Rho}
theorem VRL.length {l l' : List Value} (h : VRL ρ l l') : l.length = l'.length := by
  induction l generalizing l' with
  | nil => cases h; rfl
  | cons a l ih => cases h with | cons h t => simp [ih t]

theorem VRL.nth {l l' : List Value} (h : VRL ρ l l') {i : Nat} {v : Value} (hv : Ev.nth l i = some v) : ∃ v', l'[i]? = some v' ∧ VR ρ v v' := by
  induction l generalizing l' i with
  | nil => simp [Ev.nth] at hv
  | cons a l ih =>
    cases h with
    | cons h t =>
      cases i with
      | zero => simp [Ev.nth] at hv; subst hv; exact ⟨_, rfl, h⟩
      | succ i => simp only [Ev.nth] at hv; obtain ⟨v', h1, h2⟩ := ih t hv; exact ⟨v', by simpa using h1, h2⟩

theorem VRL.append {l l' m m' : List Value} (h : VRL ρ l l') (h' : VRL ρ m m') : VRL ρ (l ++ m) (l' ++ m') := by
  induction l generalizing l' with
  | nil => cases h; exact h'
  | cons a l ih => cases h with | cons h t => exact .cons h (ih t)

theorem VRL.upd {l l' : List Value} (h : VRL ρ l l') (i : Nat) {v v' : Value} (hv : VR ρ v v') : VRL ρ (Ev.upd l i v) (l'.set i v') := by
  induction l generalizing l' i with
  | nil => cases h; simpa [Ev.upd] using VRL.nil
  | cons a l ih =>
    cases h with
    | cons h t =>
      cases i with
      | zero => exact .cons hv t
      | succ i => exact .cons h (ih t i)

theorem VRL.replicate (n : Nat) {v v' : Value} (h : VR ρ v v') : VRL ρ (List.replicate n v) (List.replicate n v') := by
  induction n with
  | zero => exact .nil
  | succ n ih => exact .cons h ih

theorem VRL.of_nth {l l' : List Value} (hl : l.length = l'.length) (h : ∀ i v, Ev.nth l i = some v → ∃ v', l'[i]? = some v' ∧ VR ρ v v') : VRL ρ l l' := by
  induction l generalizing l' with
  | nil => cases l' with | nil => exact .nil | cons _ _ => simp at hl
  | cons a l ih =>
    cases l' with
    | nil => simp at hl
    | cons a' l' =>
      obtain ⟨v', h1, h2⟩ := h 0 a rfl
      simp at h1; subst h1
      exact .cons h2 (ih (by simpa using hl) fun i v hv => by simpa using h (i + 1) v hv)

theorem nth_eq {α : Type} (l : List α) (i : Nat) : Ev.nth l i = l[i]? := by
  induction l generalizing i with
  | nil => rfl
  | cons a l ih => cases i with | zero => rfl | succ i => simpa [Ev.nth] using ih i

theorem upd_eq {α : Type} (l : List α) (i : Nat) (v : α) : Ev.upd l i v = l.set i v := by
  induction l generalizing i with
  | nil => rfl
  | cons a l ih => cases i with | zero => rfl | succ i => simp [Ev.upd, ih]

theorem closedF_VR : ∀ (n : Nat) (v : Value), closedF n v = true → VR ρ v v := by
  intro n
  induction n with
  | zero => intro v h; simp [closedF] at h
  | succ n ih =>
    have hl : ∀ l : List Value, l.all (closedF n) = true → VRL ρ l l := by
      intro l h
      induction l with
      | nil => exact .nil
      | cons a l ihl => simp only [List.all_cons, Bool.and_eq_true] at h; exact .cons (ih a h.1) (ihl h.2)
    intro v h
    cases v with
    | bool b => exact .bool b
    | int k n => exact .int k n
    | float k b => exact .float k b
    | string s => exact .string s
    | pointer a => cases a with | none => exact .ptrN | some a => simp [closedF] at h
    | slice a m c => cases a with
      | none => simp only [closedF] at h; exact .sliceN m c (by simpa [Nat.blt_eq] using h)
      | some a => simp [closedF] at h
    | map r => cases r with | none => exact .mapN | some r => simp [closedF] at h
    | chan r => simp [closedF] at h
    | complex k a b => simp [closedF] at h
    | func fn a b =>
      cases fn <;> simp [closedF] at h
      exact .func _ (hl _ (by simpa using h.1)) (hl _ (by simpa using h.2))
    | nilFunc => exact .nilFunc
    | nilIface => exact .nilIface
    | iface t v => exact .iface t (ih v h)
    | agg cs => exact .agg (hl _ h)
    | tuple cs => exact .tuple (hl _ h)

theorem closed_VR {v : Value} (h : closed v = true) : VR ρ v v := closedF_VR 6 v h
theorem closed_VRL : ∀ {l : List Value}, l.all closed = true → VRL ρ l l
  | [], _ => .nil
  | a :: l, h => by simp only [List.all_cons, Bool.and_eq_true] at h; exact .cons (closed_VR h.1) (closed_VRL h.2)
end

/-! blocks -/
def PR (ρ : Rho) (x : Value × Bool) (y : PanicEntry) : Prop := VR ρ x.1 y.v ∧ y.recovered = x.2 ∧ y.goexit = false

inductive MR (ρ : Rho) : AMode → FrameMode → Prop where
  | ret : MR ρ .ret .returning
  | pan {ch : Chain} {ch' : List PanicEntry} (h : L2 (PR ρ) ch ch') : MR ρ (.pan ch) (.panicking ch')

/-- Where a round of a loop over a function wants to go. -/
inductive JR : Option Ex → Option Code → Prop where
  | none : JR none none
  | exit (id : Nat) : JR (some (.exit id)) (some (.exit id))
  | ret : JR (some .ret) (some .ret)

def ER (ρ : Rho) (e e' : MapEntry) : Prop := VR ρ e.key e'.key ∧ VR ρ e.val e'.val ∧ e'.born = e.born

inductive OR (P : Program) (ρ : Rho) (r : Nat) : AObj → Obj → Prop where
  | cells {c : List Value} {c' : Array Value} {t : TypeId} {lo hi : Nat} {f : Nat × Nat} (hr : r = c'.size) (hl : c.length ≤ c'.size)
      (hv : ∀ i v, nth c i = some v → ∃ v', c'[i]? = some v' ∧ VR ρ v v') (hf : ∀ i, f.1 ≤ i → i < f.2 → i < c'.size → lo ≤ i ∧ i < hi) :
      OR P ρ r (.cells c t lo hi) (.cells c' t f)
  | map {es : List MapEntry} {es' : Array MapEntry} {clock : Nat} (h : L2 (ER ρ) es es'.toList) : OR P ρ r (.map es clock) (.map es' clock)
  | strIter (s : ByteArray) (pos : Nat) : OR P ρ r (.strIter s pos) (.stringIter s pos)
  | mapIterN (a : Nat) (l : List Nat) (b : Nat) : OR P ρ r (.mapIter none a l b) (.mapIter none a l.toArray b)
  | mapIter {m m' x : Nat} (h : ρ m = some (m', x)) (a : Nat) (l : List Nat) (b : Nat) : OR P ρ r (.mapIter (some m) a l b) (.mapIter (some m') a l.toArray b)
  | loop {st : LoopState} {pend : Option Ex} {t : List Value} {ps : List Nat} {asg body : MC} {d d' x : Nat} {pend' : Option Code} {fn : FuncId}
      {g : Func} {t' : Array Value} {ps' : Array Tmp} {asg' body' : Code} (hj : JR pend pend') (ht : VRL ρ t t'.toList) (hp : ps'.toList = ps)
      (ha : cCode P asg' = some asg) (hb : cCode P body' = some body) (hd : ρ d = some (d', x)) (hg : P.funcs[fn]? = some g) :
      OR P ρ r (.loop st pend t ps asg body d) (.loop { state := st, pending := pend', fn := fn, tmps := t', params := ps', assign := asg', body := body', defers := d' })
  | dfrO : OR P ρ r (.dfr true) (.deferred (some []))
  | dfrC : OR P ρ r (.dfr false) (.deferred none)

theorem L2.mono {α β : Type} {R R' : α → β → Prop} (h : ∀ a b, R a b → R' a b) {l : List α} {m : List β} (hl : L2 R l m) : L2 R' l m := by
  induction hl with
  | nil => exact .nil
  | cons a _ ih => exact .cons (h _ _ a) ih

theorem PR.mono {ρ ρ' : Rho} (hs : Sub ρ ρ') {x : Value × Bool} {y : PanicEntry} (h : PR ρ x y) : PR ρ' x y := ⟨h.1.mono hs, h.2⟩
theorem MR.mono {ρ ρ' : Rho} (hs : Sub ρ ρ') {x : AMode} {y : FrameMode} (h : MR ρ x y) : MR ρ' x y := by
  cases h with
  | ret => exact .ret
  | pan h => exact .pan (h.mono fun _ _ h => h.mono hs)
theorem ER.mono {ρ ρ' : Rho} (hs : Sub ρ ρ') {x y : MapEntry} (h : ER ρ x y) : ER ρ' x y := ⟨h.1.mono hs, h.2.1.mono hs, h.2.2⟩

theorem OR.mono {P : Program} {ρ ρ' : Rho} (hs : Sub ρ ρ') {r : Nat} {o : AObj} {o' : Obj} (h : OR P ρ r o o') : OR P ρ' r o o' := by
  cases h with
  | cells hr hl hv hf => exact .cells hr hl (fun i v h => let ⟨v', h1, h2⟩ := hv i v h; ⟨v', h1, h2.mono hs⟩) hf
  | map h => exact .map (h.mono fun _ _ h => h.mono hs)
  | strIter s pos => exact .strIter s pos
  | mapIterN a l b => exact .mapIterN a l b
  | mapIter h a l b => exact .mapIter (hs _ _ h) a l b
  | loop hj ht hp ha hb hd hg => exact .loop hj (ht.mono hs) hp ha hb (hs _ _ hd) hg
  | dfrO => exact .dfrO
  | dfrC => exact .dfrC

/-! states -/
structure Rel (P : Program) (ρ : Rho) (s : S) (w : World) : Prop where
  obj : ∀ i o b r, s.h.get i = some o → ρ i = some (b, r) → ∃ o', w.heap[b]? = some o' ∧ OR P ρ r o o'
  inj : ∀ i j o o' b r r', s.h.get i = some o → s.h.get j = some o' → ρ i = some (b, r) → ρ j = some (b, r') → i = j
  fresh : ∀ i, s.c ≤ i → ρ i = none
  blk : ∀ i b r, ρ i = some (b, r) → b < w.heap.size
  wf : ∀ i, s.c ≤ i → s.h.get i = none

/-- Cells keep their type, their frozen range and their number; nothing is frozen anew. -/
structure Keep (w w' : World) : Prop where
  cells : ∀ (b : Nat) (c : Array Value) (t : TypeId) (f : Nat × Nat), w.heap[b]? = some (.cells c t f) → ∃ c', w'.heap[b]? = some (.cells c' t f) ∧ c'.size = c.size
  size : w.heap.size ≤ w'.heap.size
  fz : ∀ a, a.block < w.heap.size → w'.frozen? a = w.frozen? a

theorem Keep.refl (w : World) : Keep w w := ⟨fun b c t f h => ⟨c, h, rfl⟩, Nat.le_refl _, fun _ _ => rfl⟩
theorem Keep.trans {w w1 w2 : World} (h : Keep w w1) (h' : Keep w1 w2) : Keep w w2 :=
  ⟨fun b c t f e => by
    obtain ⟨c1, h1, h2⟩ := h.cells b c t f e
    obtain ⟨c2, h3, h4⟩ := h'.cells b c1 t f h1
    exact ⟨c2, h3, h4.trans h2⟩, Nat.le_trans h.size h'.size, fun a ha => (h'.fz a (Nat.lt_of_lt_of_le ha h.size)).trans (h.fz a ha)⟩
theorem Keep.heap {w w' : World} (h : w'.heap = w.heap) : Keep w w' :=
  ⟨fun b c t f e => ⟨c, by rw [h]; exact e, rfl⟩, by rw [h]; exact Nat.le_refl _, fun a _ => by simp only [World.frozen?, h]⟩

/-- From one state to a later one: nothing else has changed; what is new has a number of 'N', or one that was not given out yet. -/
structure Ext (N : Nat → Prop) (ρ : Rho) (s : S) (w : World) (ρ' : Rho) (s' : S) (w' : World) : Prop where
  sub : Sub ρ ρ'
  new : ∀ i, ρ i = none → ρ' i ≠ none → (N i ∨ s.c ≤ i) ∧ i < s'.c
  dead : ∀ i, i < s.c → ¬ N i → s.h.get i = none → s'.h.get i = none
  cle : s.c ≤ s'.c
  size : w.heap.size ≤ w'.heap.size
  frame : ∀ b, b < w.heap.size → (∀ i o r, s.h.get i = some o → ρ i = some (b, r) → o.ro = true) → w'.heap[b]? = w.heap[b]?
  img : ∀ i o b r, s'.h.get i = some o → ρ' i = some (b, r) → b < w.heap.size → ∃ j o' r', s.h.get j = some o' ∧ ρ j = some (b, r') ∧ (o'.ro = true → o.ro = true)
  tape : w'.tape = w.tape
  os : w'.os = w.os
  output : w'.output = w.output
  keep : Keep w w'

def No : Nat → Prop := fun _ => False

theorem Ext.refl (N : Nat → Prop) (ρ : Rho) (s : S) (w : World) : Ext N ρ s w ρ s w where
  sub := Sub.refl ρ
  new := fun _ h h' => absurd h h'
  dead := fun _ _ _ h => h
  cle := Nat.le_refl _
  size := Nat.le_refl _
  frame := fun _ _ _ => rfl
  img := fun i o b r h h' _ => ⟨i, o, r, h, h', id⟩
  tape := rfl
  os := rfl
  output := rfl
  keep := Keep.refl w

theorem Ext.trans {N N' : Nat → Prop} {ρ ρ' ρ'' : Rho} {s s' s'' : S} {w w' w'' : World} (h : Ext N ρ s w ρ' s' w') (h' : Ext N' ρ' s' w' ρ'' s'' w'')
    (hl : ∀ i, N' i → N i ∨ s.c ≤ i) : Ext N ρ s w ρ'' s'' w'' where
  sub := h.sub.trans h'.sub
  new := fun i h0 h2 => by
    cases h1 : ρ' i with
    | none =>
      have := h'.new i h1 h2
      exact ⟨this.1.elim (hl i) (fun h3 => .inr (Nat.le_trans h.cle h3)), this.2⟩
    | some x => have := h.new i h0 (by simp [h1]); exact ⟨this.1, by have := h'.cle; omega⟩
  dead := fun i h1 h2 h3 => h'.dead i (Nat.lt_of_lt_of_le h1 h.cle) (fun h4 => (hl i h4).elim h2 (fun h5 => absurd h1 (by omega))) (h.dead i h1 h2 h3)
  cle := Nat.le_trans h.cle h'.cle
  size := Nat.le_trans h.size h'.size
  frame := fun b hb hn => by
    rw [h'.frame b (Nat.lt_of_lt_of_le hb h.size) fun i o r ho hr => ?_, h.frame b hb hn]
    obtain ⟨j, o', r', hj, hr', hq⟩ := h.img i o b r ho hr hb
    exact hq (hn j o' r' hj hr')
  img := fun i o b r ho hr hb => by
    obtain ⟨j, o', r', hj, hr', hq⟩ := h'.img i o b r ho hr (Nat.lt_of_lt_of_le hb h.size)
    obtain ⟨j2, o2, r2, hj2, hr2, hq2⟩ := h.img j o' b r' hj hr' hb
    exact ⟨j2, o2, r2, hj2, hr2, fun h => hq (hq2 h)⟩
  tape := h'.tape.trans h.tape
  os := h'.os.trans h.os
  output := h'.output.trans h.output
  keep := h.keep.trans h'.keep
end Ev

/- Soundness of the operations that touch no memory. -/
namespace Ev
open Go

section runs
variable {P : Program} {w : World}
theorem run_pure {α : Type} (a : α) : (pure a : Sem α).run P w = .ok a w := rfl
theorem run_pure' {α : Type} (a : α) : (Sem.pure a : Sem α).run P w = .ok a w := rfl
theorem run_bind {α β : Type} (x : Sem α) (f : α → Sem β) : (x >>= f).run P w = match x.run P w with
    | .ok a w' => (f a).run P w'
    | .halt h w' => .halt h w' := by
  show (Sem.bind x f).run P w = _
  induction x generalizing w with
  | pure a => rfl
  | load m a k ih => simp only [Sem.bind, Sem.run]; (repeat' split) <;> simp_all
  | store m a v k ih =>
    cases v <;> simp only [Sem.bind, Sem.run] <;> first
      | rfl
      | ((repeat' split) <;> simp_all)
  | new o k ih => simp only [Sem.bind, Sem.run]; exact ih _
  | shape r k ih => simp only [Sem.bind, Sem.run]; exact ih _
  | freeze a n k ih => simp only [Sem.bind, Sem.run]; exact ih
  | frozen a k ih => simp only [Sem.bind, Sem.run]; exact ih _
  | getObj r k ih => simp only [Sem.bind, Sem.run]; split <;> first | rfl | exact ih _
  | setObj r o k ih => simp only [Sem.bind, Sem.run]; split <;> first | rfl | exact ih
  | choose q k ih => simp only [Sem.bind, Sem.run]; split <;> exact ih _
  | sys c k ih => simp only [Sem.bind, Sem.run]; exact ih _
  | program k ih => simp only [Sem.bind, Sem.run]; exact ih _
  | mark m k ih => simp only [Sem.bind, Sem.run]; exact ih
  | halt h => rfl

theorem run_bind_ok {α β : Type} {x : Sem α} {f : α → Sem β} {a : α} {w' : World} (h : x.run P w = .ok a w') : (x >>= f).run P w = (f a).run P w' := by
  rw [run_bind, h]

theorem run_under {t : TypeId} {d : TypeDesc} (h : P.underlying t = some d) : (underlying t).run P w = .ok d w := by
  simp [underlying, program, run_bind, Sem.run, h, run_pure]
theorem run_info {t : TypeId} {i : TypeInfo} (h : P.info? t = some i) : (typeInfo t).run P w = .ok i w := by
  simp [typeInfo, program, run_bind, Sem.run, h, run_pure]
theorem run_size {t : TypeId} {n : Nat} (h : sizeT P t = some n) : (Go.sizeOf t).run P w = .ok n w := by
  unfold sizeT at h
  cases hi : P.info? t with
  | none => simp [hi] at h
  | some i => simp [hi] at h; simp [Go.sizeOf, run_bind, run_info hi, run_pure, h]
theorem run_zero {t : TypeId} {z : Value} (h : zeroT P t = some z) : (zeroValue t).run P w = .ok z w := by
  unfold zeroT at h
  cases hi : P.info? t with
  | none => simp [hi] at h
  | some i => simp [hi] at h; simp [zeroValue, run_bind, run_info hi, run_pure, h]
theorem run_isAgg {t : TypeId} {b : Bool} (h : aggT P t = some b) : (isAgg t).run P w = .ok b w := by
  unfold aggT at h
  cases hu : P.underlying t with
  | none => simp [hu] at h
  | some d => simp only [isAgg, run_bind, run_under hu]; cases d <;> simp_all [run_pure]
theorem shapeT_some {t : TypeId} {n : Nat} {g : Bool} (h : shapeT P t = some (n, g)) : aggT P t = some g ∧ sizeT P t = some n ∧ (g = false → n = 1) := by
  unfold shapeT at h
  split at h <;> simp_all
end runs

section
variable {P : Program} {ρ : Rho} {t : List Value} {a : Act} {w : World} (hT : VRL ρ t a.tmps.toList)
include hT

theorem eval_sound {x : Operand} {v : Value} (hx : okOpd x = true) (h : eval t x = some v) : VR ρ v (a.eval x) := by
  cases x with
  | tmp n =>
    obtain ⟨v', h1, h2⟩ := hT.nth h
    have : a.tmps.getD n undef = v' := by
      have h1' : a.tmps[n]? = some v' := by simpa using h1
      simp [h1']
    simp only [Act.eval]; rw [this]; exact h2
  | const c => simp only [eval, Option.some.injEq] at h; subst h; exact closed_VR hx
  | global g => simp [eval] at h
  | func f => simp only [eval, Option.some.injEq] at h; subst h; exact .func f .nil .nil

theorem evals_sound {xs : List Operand} {vs : List Value} (hx : xs.all okOpd = true) (h : evals t xs = some vs) : VRL ρ vs (xs.map a.eval) := by
  induction xs generalizing vs with
  | nil => simp [evals] at h; subst h; exact .nil
  | cons x xs ih =>
    simp only [List.all_cons, Bool.and_eq_true] at hx
    simp only [evals] at h
    split at h <;> first | simp at h; done | skip
    rename_i v hv
    split at h <;> first | simp at h; done | skip
    rename_i vs' hvs
    simp only [Option.some.injEq] at h; subst h
    exact .cons (eval_sound hT hx.1 hv) (ih hx.2 hvs)

theorem evalO_sound {x : Option Operand} {v : Option Value} (hx : ∀ y, x = some y → okOpd y = true) (h : evalO t x = some v) :
    match v with
    | none => x = none
    | some v => ∃ y, x = some y ∧ VR ρ v (a.eval y) := by
  cases x with
  | none => simp [evalO] at h; subst h; rfl
  | some y =>
    simp only [evalO] at h
    split at h <;> first | simp at h; done | skip
    rename_i v' hv
    simp only [Option.some.injEq] at h; subst h
    exact ⟨y, rfl, eval_sound hT (hx y rfl) hv⟩
end

/-! values -/
theorem pv_run {P : Program} {w : World} {s : Sem Value} {v : Value} (h : pv s = some v) : s.run P w = .ok v w := by
  cases s <;> simp [pv] at h
  subst h; rfl

/-- A value with no number of a block in it. -/
def Plain : Value → Prop
  | .bool _ | .int _ _ | .float _ _ | .string _ => True
  | _ => False

theorem intBin_run {P : Program} {w : World} {op : BinOp} {k k' : IntKind} {x y : Int} {v : Value} (t : TypeId) (h : intBin op k x k' y = some v) :
    (binOp op t (.int k x) (.int k' y)).run P w = .ok v w ∧ Plain v := by
  cases op <;> simp only [intBin] at h
  case shl =>
    have h0 := h
    simp only [Op.shift] at h
    split at h
    · simp [runtimePanic, pv, bind, Sem.bind, program] at h
    · simp [pv, pure] at h; subst h
      exact ⟨pv_run (s := Op.shift .shl k x k' y) h0, trivial⟩
  case shr =>
    have h0 := h
    simp only [Op.shift] at h
    split at h
    · simp [runtimePanic, pv, bind, Sem.bind, program] at h
    · simp [pv, pure] at h; subst h
      exact ⟨pv_run (s := Op.shift .shr k x k' y) h0, trivial⟩
  all_goals
    split at h <;> first | simp at h; done | skip
    rename_i hk
    subst hk
  case quo =>
    split at h <;> first | simp at h; done | skip
    rename_i h0
    simp only [Option.some.injEq] at h; subst h
    simp [binOp, Op.intDiv, h0, run_pure, Plain]
  case rem =>
    split at h <;> first | simp at h; done | skip
    rename_i h0
    simp only [Option.some.injEq] at h; subst h
    simp [binOp, Op.intDiv, h0, run_pure, Plain]
  all_goals
    first
      | (simp only [Option.some.injEq] at h; subst h; simp [binOp, Op.intArith, Op.intCmp, run_pure, Plain]; done)
      | (have h0 := h
         simp only [Op.intBits, pv, pure, Option.some.injEq] at h; subst h
         exact ⟨by simp only [binOp]; simpa using pv_run h0, trivial⟩)

theorem Plain.VR {ρ : Rho} {v : Value} (h : Plain v) : VR ρ v v := by
  cases v <;> simp [Plain] at h
  · exact .bool _
  · exact .int _ _
  · exact .float _ _
  · exact .string _

theorem strOp_plain {op : BinOp} {x y : ByteArray} {v : Value} (h : pv (Op.stringOp op x y) = some v) : Plain v := by
  cases op <;> simp only [Op.stringOp] at h <;> first
    | (simp [pv, stuck] at h; done)
    | (simp only [pv, pure, Option.some.injEq] at h; subst h; trivial)
    | (split at h <;> simp [pv, pure, unsupported] at h; subst h; trivial)

theorem binV_run {P : Program} {ρ : Rho} {w : World} {op : BinOp} {x y x' y' v : Value} (t : TypeId) (hx : VR ρ x x') (hy : VR ρ y y')
    (h : binV op x y = some v) : (binOp op t x' y').run P w = .ok v w ∧ Plain v ∧ Plain x' := by
  unfold binV at h
  split at h <;> first | simp at h; done | skip
  · cases hx; cases hy; exact ⟨(intBin_run t h).1, (intBin_run (P := P) (w := w) t h).2, trivial⟩
  · cases hx; cases hy
    refine ⟨?_, strOp_plain h, trivial⟩
    have := pv_run (P := P) (w := w) h
    cases op <;> simpa [binOp] using this
  · rename_i k b k' b'
    cases hx; cases hy
    split at h <;> first | simp at h; done | skip
    rename_i hc
    have h0 := pv_run (P := P) (w := w) h
    cases op <;> simp [cmpOp] at hc <;> simp only [binOp] at h h0 ⊢ <;> (split at h <;> first | (simp [pv, stuck] at h; done) | skip) <;>
      (rename_i hk; simp only [hk, if_false, not_true_eq_false] at h0 ⊢; simp only [Op.floatCmp, pv, pure, Option.some.injEq] at h; subst h; exact ⟨h0, trivial, trivial⟩)
end Ev

/- Soundness of the operations that touch no memory: parts, comparisons, slices, and all of them together. -/
namespace Ev
open Go

section
variable {ρ : Rho}

theorem cut_length {α : Type} : ∀ (n : Nat) (l : List α) (o : Nat) (m : List α), cut l o n = some m → m.length = n := by
  intro n
  induction n with
  | zero => intro l o m h; simp [cut] at h; subst h; rfl
  | succ n ih =>
    intro l o m h
    simp only [cut] at h
    split at h <;> first | simp at h; done | skip
    split at h <;> first | simp at h; done | skip
    rename_i h2
    simp only [Option.some.injEq] at h; subst h
    simp [ih _ _ _ h2]

theorem cut_nth {α : Type} : ∀ (n : Nat) (l : List α) (o : Nat) (m : List α), cut l o n = some m → ∀ i, i < n → m[i]? = l[o + i]? ∧ (l[o + i]?).isSome := by
  intro n
  induction n with
  | zero => intro l o m h i hi; omega
  | succ n ih =>
    intro l o m h i hi
    simp only [cut] at h
    split at h <;> first | simp at h; done | skip
    rename_i v h1
    split at h <;> first | simp at h; done | skip
    rename_i vs h2
    simp only [Option.some.injEq] at h; subst h
    rw [nth_eq] at h1
    cases i with
    | zero => simp [h1]
    | succ i => have := ih _ _ _ h2 i (by omega); rw [show o + (i + 1) = o + 1 + i from by omega]; simpa using this

/-- A piece of a list whose elements are related where the first list has any. -/
theorem cut_rel {c : List Value} {c' : Array Value} (hv : ∀ i v, nth c i = some v → ∃ v', c'[i]? = some v' ∧ VR ρ v v') :
    ∀ (n o : Nat) (m : List Value), cut c o n = some m → o + n ≤ c'.size ∧ VRL ρ m (c'.extract o (o + n)).toList ∨ n = 0 ∧ m = [] := by
  intro n
  induction n with
  | zero => intro o m h; simp [cut] at h; exact .inr ⟨rfl, h⟩
  | succ n ih =>
    intro o m h
    simp only [cut] at h
    split at h <;> first | simp at h; done | skip
    rename_i v h1
    split at h <;> first | simp at h; done | skip
    rename_i vs h2
    simp only [Option.some.injEq] at h; subst h
    obtain ⟨v', h3, h4⟩ := hv _ _ h1
    have hlt : o < c'.size := (Array.getElem?_eq_some_iff.1 h3).1
    have hge : c'[o] = v' := (Array.getElem?_eq_some_iff.1 h3).2
    left
    have hex : (c'.extract o (o + (n + 1))).toList = v' :: (c'.extract (o + 1) (o + 1 + n)).toList := by
      simp only [Array.toList_extract, List.extract_eq_take_drop]
      rw [show o + (n + 1) - o = n + 1 from by omega, show o + 1 + n - (o + 1) = n from by omega]
      rw [List.drop_eq_getElem_cons (by simpa using hlt)]
      simp [hge]
    rw [hex]
    rcases ih _ _ h2 with ⟨h5, h6⟩ | ⟨rfl, rfl⟩
    · exact ⟨by omega, .cons h4 h6⟩
    · exact ⟨by omega, .cons h4 (by simp; exact .nil)⟩

theorem extract_nil {c' : Array Value} (o : Nat) : (c'.extract o (o + 0)).toList = [] := by simp

theorem part_run {P : Program} {w : World} {t : TypeId} {n : Nat} {g : Bool} {c : List Value} {c' : Array Value} {o : Nat} {v : Value}
    (hs : shapeT P t = some (n, g)) (hv : VRL ρ c c'.toList) (h : partV c o n g = some v) :
    ∃ v', (part t c' o).run P w = .ok v' w ∧ VR ρ v v' := by
  obtain ⟨ha, hz, h1⟩ := shapeT_some hs
  have hn : ∀ i v, nth c i = some v → ∃ v', c'[i]? = some v' ∧ VR ρ v v' := fun i v h => by simpa using hv.nth h
  unfold part
  cases g with
  | true =>
    simp only [partV] at h
    split at h <;> first | simp at h; done | skip
    rename_i m hm
    simp only [Option.some.injEq] at h; subst h
    refine ⟨.agg (c'.extract o (o + n)), ?_, .agg ?_⟩
    · simp [run_bind, run_isAgg ha, run_size hz, run_pure]
    · rcases cut_rel hn _ _ _ hm with ⟨_, h2⟩ | ⟨rfl, rfl⟩
      · exact h2
      · simp; exact .nil
  | false =>
    simp only [partV] at h
    obtain ⟨v', h2, h3⟩ := hn _ _ h
    exact ⟨v', by simp [run_bind, run_isAgg ha, h2, run_pure], h3⟩

theorem cellsOf_rel {v v' : Value} (h : VR ρ v v') : VRL ρ (cellsOf v) v'.cells.toList := by
  cases h <;> first
    | (simp only [cellsOf, Value.cells]; assumption)
    | (rename_i hs; cases v' <;> simp only [topOk, Bool.false_eq_true] at hs <;> exact .cons (.top rfl) .nil)
    | (simp only [cellsOf, Value.cells]; exact .cons (by first | exact .bool _ | exact .int _ _ | exact .float _ _ | exact .string _ | exact .ptrN | exact .ptr ‹_› | exact .sliceN _ _ ‹_› | exact .slice ‹_› ‹_› | exact .sliceU ‹_› ‹_› ‹_› ‹_› | exact .sliceE _ _ | exact .mapN | exact .map ‹_› | exact .func _ ‹_› ‹_› | exact .yield ‹_› ‹_› ‹_› | exact .nilFunc | exact .nilIface | exact .iface _ ‹_› | exact .tuple ‹_›) .nil)

theorem single_rel {v v' : Value} (h : VR ρ v v') : single v = true → single v' = true := by
  intro hs
  cases h <;> first
    | (rename_i h; cases v' <;> simp [topOk, single] at h ⊢; done)
    | (simp [single] at hs; done)
    | (simp [single]; done)

theorem updL_rel {vs : List Value} {l : List Value} {l' : Array Value} {vs' : List Value} : ∀ (o : Nat), VRL ρ l l'.toList → VRL ρ vs vs' →
    VRL ρ (updL l o vs) ((vs'.zipIdx o).foldl (fun (cs : Array Value) (c : Value × Nat) => cs.setIfInBounds c.2 c.1) l').toList := by
  induction vs generalizing l l' vs' with
  | nil => intro o h hv; cases hv; simpa [updL] using h
  | cons v vs ih =>
    intro o h hv
    cases hv with
    | cons h1 h2 =>
      simp only [updL, List.zipIdx_cons, List.foldl_cons]
      exact ih _ (by simpa using h.upd o h1) h2

theorem fill_rel {place : Nat → Option (Nat × Nat)} {ps : List (Nat × Operand)} {qs : List (Nat × Nat × Operand)} {t : List Value} {a : Act}
    (hT : VRL ρ t a.tmps.toList) (hq : cParts place ps = some qs) (hok : ps.all (fun p => okOpd p.2) = true) :
    ∀ {vs : List (Nat × Nat × Value)} {z cs : List Value} {z' : Array Value}, partsV t qs = some vs → fillV z vs = some cs → VRL ρ z z'.toList →
      ∃ cs', Instr.fill place z' (ps.map fun p => (p.1, a.eval p.2)) = some cs' ∧ VRL ρ cs cs'.toList := by
  induction ps generalizing qs with
  | nil =>
    intro vs z cs z' hv hf hz
    simp [cParts] at hq; subst hq
    simp [partsV] at hv; subst hv
    simp [fillV] at hf; subst hf
    exact ⟨z', rfl, hz⟩
  | cons p ps ih =>
    obtain ⟨i, x⟩ := p
    intro vs z cs z' hv hf hz
    simp only [List.all_cons, Bool.and_eq_true] at hok
    simp only [cParts] at hq
    split at hq <;> first | simp at hq; done | skip
    rename_i o n l hp hl
    simp only [Option.some.injEq] at hq; subst hq
    simp only [partsV] at hv
    split at hv <;> first | simp at hv; done | skip
    rename_i v hev
    split at hv <;> first | simp at hv; done | skip
    rename_i l' hl'
    simp only [Option.some.injEq] at hv; subst hv
    simp only [fillV] at hf
    split at hf <;> first | simp at hf; done | skip
    rename_i hc
    have hvr := eval_sound hT hok.1 hev
    have hcl := cellsOf_rel hvr
    have h1 : (a.eval x).cells.size = n := by have := hcl.length; simp at this; omega
    have h2 : ¬ (n > z'.size - o ∧ False) := by simp
    have h3 : o + n ≤ z'.size := by have := hz.length; simp at this; omega
    obtain ⟨cs', h4, h5⟩ := ih hl hok.2 (z := updL z o (cellsOf v)) (z' := ((a.eval x).cells.toList.zipIdx o).foldl (fun (cs : Array Value) (c : Value × Nat) => cs.setIfInBounds c.2 c.1) z') hl' hf (updL_rel _ hz hcl)
    refine ⟨cs', ?_, h5⟩
    simp only [List.map_cons, Instr.fill, hp]
    rw [if_neg (by simp only [h1, ne_eq, not_true_eq_false, false_or, Bool.or_eq_true, decide_eq_true_eq]; omega)]
    rw [← h4]
    congr 1
    rw [← Array.foldl_toList]
    simp only [Array.toList_zipIdx]
    generalize (a.eval x).cells.toList = q
    clear h4 h5 hcl h1
    have key : ∀ (q : List Value) (k : Nat) (z' : Array Value), List.foldl (fun (cs : Array Value) (c : Value × Nat) => cs.setIfInBounds (o + c.2) c.1) z' (q.zipIdx k) =
        List.foldl (fun (cs : Array Value) (c : Value × Nat) => cs.setIfInBounds c.2 c.1) z' (q.zipIdx (o + k)) := by
      intro q
      induction q with
      | nil => intro k z'; rfl
      | cons b q ihq => intro k z'; simp only [List.zipIdx_cons, List.foldl_cons]; rw [ihq]; rfl
    simpa using key q 0 z'
end
end Ev
