/- NorecNone: for every deed, every values and number the law returns true, and each argument reads as it did; by an evaluator of the compiled code that is proved sound for the model. Part 3 of 8. -/
import Derived.Test.YtmdkdjoifafifaaGreatNone2
set_option linter.unusedSimpArgs false
set_option linter.unusedVariables false

/- Compiled functions. -/
namespace Ev
open Go

def m76 : MFn := ⟨75, [(6, (some (7, true)))], (.seq (.region 1 [
  ⟨(some 6), none, .alloc [(.bool false), (.int .u64 0), (.bool false), (.int .i64 0), (.bool false), (.int .u8 0), (.int .i64 0)] 52, 0, [], true⟩])
 (.seq (.region 7 [
  ⟨(some 8), none, .mv (.tmp 2), 0, [], true⟩,
  ⟨(some 9), none, .nilCheck (.tmp 8), 1, [], true⟩,
  ⟨(some 10), none, .fieldAddr 2 (.tmp 9), 2, [], true⟩,
  ⟨(some 11), none, .load 1 false (.tmp 10), 3, [], true⟩,
  ⟨(some 12), none, .build [(.int .u8 0), (.int .i64 0), (.int .i64 0), (.int .u64 0)] [(1, 1, (.tmp 11))], 4, [], true⟩,
  ⟨(some 7), none, .alloc [(.int .u8 0), (.int .i64 0), (.int .i64 0), (.int .u64 0)] 87, 5, [], true⟩,
  ⟨none, none, .store 4 (.tmp 7) (.tmp 12), 6, [], true⟩])
 (.seq (.seq (.region 5 [
  ⟨(some 13), none, .mv (.tmp 2), 0, [], true⟩,
  ⟨(some 14), none, .nilCheck (.tmp 13), 1, [], true⟩,
  ⟨(some 15), none, .fieldAddr 4 (.tmp 14), 2, [], true⟩,
  ⟨(some 16), none, .fieldAddr 0 (.tmp 15), 3, [], true⟩,
  ⟨(some 17), none, .load 1 false (.tmp 16), 4, [], true⟩])
 (.block 0 (.seq (.block 5 (.block 4 (.seq (.block 3 (.seq (.block 2 (.seq (.block 1 (.seq (.seq (.seq (.region 2 [
  ⟨(some 19), none, .bin .eql (.tmp 17) (.const (.int .u8 3)), 0, [], true⟩,
  ⟨(some 18), none, .mv (.tmp 19), 1, [], true⟩])
 (.cond (.tmp 18) (.exit 1) .skip))
 (.seq (.seq (.region 2 [
  ⟨(some 21), none, .bin .eql (.tmp 17) (.const (.int .u8 4)), 0, [], true⟩,
  ⟨(some 20), none, .mv (.tmp 21), 1, [], true⟩])
 (.cond (.tmp 20) (.exit 2) .skip))
 (.seq (.seq (.region 2 [
  ⟨(some 23), none, .bin .eql (.tmp 17) (.const (.int .u8 5)), 0, [], true⟩,
  ⟨(some 22), none, .mv (.tmp 23), 1, [], true⟩])
 (.cond (.tmp 22) (.exit 3) .skip))
 (.seq (.region 2 [
  ⟨(some 25), none, .bin .eql (.tmp 17) (.const (.int .u8 2)), 0, [], true⟩,
  ⟨(some 24), none, .mv (.tmp 25), 1, [], true⟩])
 (.cond (.tmp 24) (.exit 4) .skip)))))
 (.exit 5)))
 (.seq (.seq (.region 2 [
  ⟨(some 26), none, .fieldAddr 0 (.tmp 7), 0, [], true⟩,
  ⟨none, none, .store 1 (.tmp 26) (.const (.int .u8 4)), 1, [], true⟩])
 (.region 5 [
  ⟨(some 27), none, .mv (.tmp 2), 0, [], true⟩,
  ⟨(some 28), none, .nilCheck (.tmp 27), 1, [], true⟩,
  ⟨(some 29), none, .fieldAddr 1 (.tmp 28), 2, [], true⟩,
  ⟨(some 30), none, .load 1 false (.tmp 29), 3, [], true⟩,
  ⟨(some 31), none, .call (.func 125) [(.tmp 30)], 4, [], true⟩]))
 (.exit 0))))
 (.seq (.seq (.region 2 [
  ⟨(some 32), none, .fieldAddr 0 (.tmp 7), 0, [], true⟩,
  ⟨none, none, .store 1 (.tmp 32) (.const (.int .u8 5)), 1, [], true⟩])
 (.region 5 [
  ⟨(some 33), none, .mv (.tmp 2), 0, [], true⟩,
  ⟨(some 34), none, .nilCheck (.tmp 33), 1, [], true⟩,
  ⟨(some 35), none, .fieldAddr 1 (.tmp 34), 2, [], true⟩,
  ⟨(some 36), none, .load 1 false (.tmp 35), 3, [], true⟩,
  ⟨(some 37), none, .call (.func 126) [(.tmp 36)], 4, [], true⟩]))
 (.exit 0))))
 (.seq (.seq (.region 2 [
  ⟨(some 38), none, .fieldAddr 0 (.tmp 7), 0, [], true⟩,
  ⟨none, none, .store 1 (.tmp 38) (.const (.int .u8 6)), 1, [], true⟩])
 (.region 5 [
  ⟨(some 39), none, .mv (.tmp 2), 0, [], true⟩,
  ⟨(some 40), none, .nilCheck (.tmp 39), 1, [], true⟩,
  ⟨(some 41), none, .fieldAddr 1 (.tmp 40), 2, [], true⟩,
  ⟨(some 42), none, .load 1 false (.tmp 41), 3, [], true⟩,
  ⟨(some 43), none, .call (.func 127) [(.tmp 42)], 4, [], true⟩]))
 (.exit 0)))))
 (.seq (.seq (.region 16 [
  ⟨(some 44), none, .mv (.tmp 2), 0, [], true⟩,
  ⟨(some 45), none, .nilCheck (.tmp 44), 1, [], true⟩,
  ⟨(some 46), none, .fieldAddr 4 (.tmp 45), 2, [], true⟩,
  ⟨(some 47), none, .fieldAddr 1 (.tmp 46), 3, [], true⟩,
  ⟨(some 48), none, .load 1 false (.tmp 47), 4, [], true⟩,
  ⟨(some 49), none, .mv (.tmp 2), 5, [], false⟩,
  ⟨(some 50), none, .nilCheck (.tmp 49), 6, [], false⟩,
  ⟨(some 51), none, .fieldAddr 4 (.tmp 50), 7, [], false⟩,
  ⟨(some 52), none, .fieldAddr 2 (.tmp 51), 8, [], false⟩,
  ⟨(some 53), none, .load 1 false (.tmp 52), 9, [], false⟩,
  ⟨(some 54), none, .fieldAddr 0 (.tmp 7), 10, [], false⟩,
  ⟨none, none, .store 1 (.tmp 54) (.const (.int .u8 3)), 11, [(false, none, none, 4, .load 1 false (.tmp 47)), (false, none, none, 9, .load 1 false (.tmp 52))], false⟩,
  ⟨(some 55), none, .fieldAddr 2 (.tmp 7), 12, [], false⟩,
  ⟨none, none, .store 1 (.tmp 55) (.tmp 48), 13, [(false, none, none, 9, .load 1 false (.tmp 52))], false⟩,
  ⟨(some 56), none, .fieldAddr 3 (.tmp 7), 14, [], true⟩,
  ⟨none, none, .store 1 (.tmp 56) (.tmp 53), 15, [], true⟩])
 (.seq (.region 10 [
  ⟨(some 57), none, .mv (.tmp 2), 0, [], true⟩,
  ⟨(some 58), none, .nilCheck (.tmp 57), 1, [], true⟩,
  ⟨(some 59), none, .fieldAddr 1 (.tmp 58), 2, [], true⟩,
  ⟨(some 60), none, .load 1 false (.tmp 59), 3, [], true⟩,
  ⟨(some 61), none, .fieldAddr 2 (.tmp 7), 4, [], false⟩,
  ⟨(some 62), none, .load 1 false (.tmp 61), 5, [], false⟩,
  ⟨(some 63), none, .fieldAddr 3 (.tmp 7), 6, [], false⟩,
  ⟨(some 64), none, .load 1 false (.tmp 63), 7, [], false⟩,
  ⟨(some 65), none, .call (.func 128) [(.tmp 60), (.tmp 62), (.tmp 64)], 8, [], true⟩,
  ⟨(some 66), none, .bin .neq (.tmp 65) (.const (.int .i64 0)), 9, [], true⟩])
 (.cond (.tmp 66) (.seq (.region 4 [
  ⟨(some 67), none, .mv (.tmp 0), 0, [], true⟩,
  ⟨(some 68), none, .mv (.tmp 1), 1, [], true⟩,
  ⟨(some 69), none, .call (.func 71) [(.tmp 67), (.tmp 68), (.const (.int .u8 2))], 2, [], true⟩,
  ⟨none, none, .store 7 (.tmp 6) (.tmp 69), 3, [], true⟩])
 .ret) .skip)))
 (.exit 0)))))
 (.seq (.region 3 [
  ⟨(some 70), none, .mv (.tmp 0), 0, [], true⟩,
  ⟨(some 71), none, .load 4 true (.tmp 7), 1, [], true⟩,
  ⟨(some 72), none, .call (.func 67) [(.tmp 70), (.tmp 71)], 2, [], true⟩])
 (.seq (.region 3 [
  ⟨(some 73), none, .mv (.tmp 2), 0, [], true⟩,
  ⟨(some 74), none, .call (.func 123) [(.tmp 73), (.const (.int .u64 0))], 1, [], true⟩,
  ⟨none, none, .store 7 (.tmp 6) (.tmp 74), 2, [], true⟩])
 .ret)))))⟩

def m77 : MFn := ⟨9, [], (.region 5 [
  ⟨(some 4), none, .mv (.tmp 0), 0, [], true⟩,
  ⟨(some 5), none, .mv (.tmp 0), 1, [], true⟩,
  ⟨(some 6), none, .len false (.tmp 5), 2, [], true⟩,
  ⟨(some 7), none, .mv (.tmp 1), 3, [], true⟩,
  ⟨(some 8), none, .call (.func 129) [(.tmp 4), (.tmp 6), (.tmp 7)], 4, [], true⟩])⟩

def m78 : MFn := ⟨21, [(5, none)], (.seq (.region 1 [
  ⟨(some 5), none, .mv (.const (.int .i64 0)), 0, [], true⟩])
 (.seq (.region 16 [
  ⟨(some 6), none, .load 1 false (.tmp 2), 0, [], true⟩,
  ⟨(some 7), none, .nilCheck (.tmp 6), 1, [], true⟩,
  ⟨(some 8), none, .fieldAddr 4 (.tmp 7), 2, [], true⟩,
  ⟨(some 9), none, .load 1 false (.tmp 8), 3, [], true⟩,
  ⟨(some 10), none, .mv (.tmp 0), 4, [], false⟩,
  ⟨(some 11), none, .adSl 1 (.tmp 9) (.tmp 10), 5, [], true⟩,
  ⟨(some 12), none, .load 1 false (.tmp 11), 6, [], true⟩,
  ⟨(some 13), none, .load 1 false (.tmp 2), 7, [], false⟩,
  ⟨(some 14), none, .nilCheck (.tmp 13), 8, [], false⟩,
  ⟨(some 15), none, .fieldAddr 4 (.tmp 14), 9, [], false⟩,
  ⟨(some 16), none, .load 1 false (.tmp 15), 10, [], false⟩,
  ⟨(some 17), none, .mv (.tmp 1), 11, [], false⟩,
  ⟨(some 18), none, .adSl 1 (.tmp 16) (.tmp 17), 12, [], false⟩,
  ⟨(some 19), none, .load 1 false (.tmp 18), 13, [], false⟩,
  ⟨(some 20), none, .call (.func 79) [(.tmp 12), (.tmp 19)], 14, [], true⟩,
  ⟨(some 5), none, .mv (.tmp 20), 15, [], true⟩])
 .ret))⟩

def m79 : MFn := ⟨20, [(4, none)], (.seq (.region 1 [
  ⟨(some 4), none, .mv (.const (.int .i64 0)), 0, [], true⟩])
 (.seq (.region 3 [
  ⟨(some 7), none, .mv (.tmp 0), 0, [], true⟩,
  ⟨(some 8), none, .call (.func 130) [(.tmp 7)], 1, [], true⟩,
  ⟨(some 5), none, .mv (.tmp 8), 2, [], true⟩])
 (.seq (.region 3 [
  ⟨(some 9), none, .mv (.tmp 1), 0, [], true⟩,
  ⟨(some 10), none, .call (.func 130) [(.tmp 9)], 1, [], true⟩,
  ⟨(some 6), none, .mv (.tmp 10), 2, [], true⟩])
 (.seq (.seq (.region 1 [
  ⟨(some 11), none, .mv (.tmp 5), 0, [], true⟩])
 (.cond (.tmp 11) (.seq (.seq (.region 1 [
  ⟨(some 12), none, .mv (.tmp 6), 0, [], true⟩])
 (.cond (.tmp 12) (.seq (.region 1 [
  ⟨(some 4), none, .mv (.const (.int .i64 0)), 0, [], true⟩])
 .ret) .skip))
 (.seq (.region 1 [
  ⟨(some 4), none, .mv (.const (.int .i64 (-1))), 0, [], true⟩])
 .ret)) .skip))
 (.seq (.seq (.region 1 [
  ⟨(some 13), none, .mv (.tmp 6), 0, [], true⟩])
 (.cond (.tmp 13) (.seq (.region 1 [
  ⟨(some 4), none, .mv (.const (.int .i64 1)), 0, [], true⟩])
 .ret) .skip))
 (.seq (.seq (.region 3 [
  ⟨(some 14), none, .mv (.tmp 0), 0, [], true⟩,
  ⟨(some 15), none, .mv (.tmp 1), 1, [], true⟩,
  ⟨(some 16), none, .bin .lss (.tmp 14) (.tmp 15), 2, [], true⟩])
 (.cond (.tmp 16) (.seq (.region 1 [
  ⟨(some 4), none, .mv (.const (.int .i64 (-1))), 0, [], true⟩])
 .ret) .skip))
 (.seq (.seq (.region 3 [
  ⟨(some 17), none, .mv (.tmp 0), 0, [], true⟩,
  ⟨(some 18), none, .mv (.tmp 1), 1, [], true⟩,
  ⟨(some 19), none, .bin .gtr (.tmp 17) (.tmp 18), 2, [], true⟩])
 (.cond (.tmp 19) (.seq (.region 1 [
  ⟨(some 4), none, .mv (.const (.int .i64 1)), 0, [], true⟩])
 .ret) .skip))
 (.seq (.region 1 [
  ⟨(some 4), none, .mv (.const (.int .i64 0)), 0, [], true⟩])
 .ret))))))))⟩

def m80 : MFn := ⟨11, [], (.seq (.region 3 [
  ⟨(some 3), none, .mv (.tmp 0), 0, [], true⟩,
  ⟨(some 4), none, .len false (.tmp 3), 1, [], true⟩,
  ⟨(some 2), none, .mv (.tmp 4), 2, [], true⟩])
 (.region 6 [
  ⟨(some 5), none, .mv (.tmp 0), 0, [], true⟩,
  ⟨(some 6), none, .mv (.tmp 2), 1, [], true⟩,
  ⟨(some 7), none, .mv (.tmp 2), 2, [], true⟩,
  ⟨(some 8), none, .conv .u64 (.tmp 7), 3, [], true⟩,
  ⟨(some 9), none, .call (.func 132) [(.tmp 8)], 4, [], true⟩,
  ⟨(some 10), none, .call (.func 131) [(.tmp 5), (.const (.int .i64 0)), (.tmp 6), (.tmp 9)], 5, [], true⟩]))⟩

def m81 : MFn := ⟨28, [(2, none)], (.seq (.region 1 [
  ⟨(some 2), none, .mv (.const (.slice none 0 0)), 0, [], true⟩])
 (.seq (.seq (.region 2 [
  ⟨(some 6), none, .mv (.tmp 0), 0, [], true⟩,
  ⟨(some 7), none, .eq false .ptr (.tmp 6) (.const (.pointer none)), 1, [], true⟩])
 (.cond (.tmp 7) (.seq (.region 1 [
  ⟨(some 2), none, .mv (.const (.slice none 0 0)), 0, [], true⟩])
 .ret) .skip))
 (.seq (.region 1 [
  ⟨(some 3), none, .mv (.const (.slice none 0 0)), 0, [], true⟩])
 (.seq (.seq (.region 6 [
  ⟨(some 8), none, .mv (.tmp 0), 0, [], true⟩,
  ⟨(some 9), none, .nilCheck (.tmp 8), 1, [], true⟩,
  ⟨(some 10), none, .fieldAddr 0 (.tmp 9), 2, [], true⟩,
  ⟨(some 11), none, .load 1 false (.tmp 10), 3, [], true⟩,
  ⟨(some 12), none, .len false (.tmp 11), 4, [], true⟩,
  ⟨(some 13), none, .mv (.const (.int .i64 0)), 5, [], true⟩])
 (.block 0 (.loop (.seq (.region 1 [
  ⟨(some 14), none, .bin .lss (.tmp 13) (.tmp 12), 0, [], true⟩])
 (.seq (.cond (.tmp 14) .skip (.exit 0))
 (.seq (.block 1 (.seq (.region 3 [
  ⟨(some 15), none, .adSl 1 (.tmp 11) (.tmp 13), 0, [], true⟩,
  ⟨(some 16), none, .load 1 false (.tmp 15), 1, [], true⟩,
  ⟨(some 5), none, .mv (.tmp 16), 2, [], true⟩])
 (.region 10 [
  ⟨(some 17), none, .mv (.tmp 3), 0, [], true⟩,
  ⟨(some 18), none, .mv (.tmp 0), 1, [], true⟩,
  ⟨(some 19), none, .nilCheck (.tmp 18), 2, [], true⟩,
  ⟨(some 20), none, .fieldAddr 1 (.tmp 19), 3, [], true⟩,
  ⟨(some 21), none, .load 1 false (.tmp 20), 4, [], true⟩,
  ⟨(some 22), none, .mv (.tmp 5), 5, [], true⟩,
  ⟨(some 23), none, .lookup .int (.agg #[(.int .i64 0), (.int .u64 0), (.int .u64 0)]) false (.tmp 21) (.tmp 22), 6, [], true⟩,
  ⟨(some 24), none, .buildSl 131 3 1 [(.int .i64 0), (.int .u64 0), (.int .u64 0)] [(0, 3, (.tmp 23))], 7, [], true⟩,
  ⟨(some 25), none, .append 131 3 24 (.tmp 17) (.tmp 24), 8, [], true⟩,
  ⟨(some 3), none, .mv (.tmp 25), 9, [], true⟩])))
 (.region 2 [
  ⟨(some 26), none, .bin .add (.tmp 13) (.const (.int .i64 1)), 0, [], true⟩,
  ⟨(some 13), none, .mv (.tmp 26), 1, [], true⟩])))))))
 (.seq (.region 2 [
  ⟨(some 27), none, .mv (.tmp 3), 0, [], true⟩,
  ⟨(some 2), none, .mv (.tmp 27), 1, [], true⟩])
 .ret)))))⟩

def m82 : MFn := ⟨25, [(2, none)], (.seq (.region 1 [
  ⟨(some 2), none, .mv (.const (.slice none 0 0)), 0, [], true⟩])
 (.seq (.region 1 [
  ⟨(some 3), none, .mv (.const (.slice none 0 0)), 0, [], true⟩])
 (.seq (.seq (.region 1 [
  ⟨(some 7), none, .mv (.const (.int .i64 0)), 0, [], true⟩])
 (.block 0 (.loop (.seq (.region 1 [
  ⟨(some 8), none, .bin .lss (.tmp 7) (.const (.int .i64 12)), 0, [], true⟩])
 (.seq (.cond (.tmp 8) .skip (.exit 0))
 (.seq (.block 1 (.seq (.region 2 [
  ⟨(some 9), none, .mv (.tmp 7), 0, [], true⟩,
  ⟨(some 4), none, .mv (.tmp 9), 1, [], true⟩])
 (.seq (.region 8 [
  ⟨(some 11), none, .mv (.tmp 0), 0, [], true⟩,
  ⟨(some 12), none, .mv (.tmp 4), 1, [], true⟩,
  ⟨(some 13), none, .call (.func 73) [(.tmp 11), (.tmp 12)], 2, [], true⟩,
  ⟨(some 10), none, .mv (.tmp 13), 3, [], true⟩,
  ⟨(some 14), none, .extract (.tmp 10) 0, 4, [], true⟩,
  ⟨(some 15), none, .extract (.tmp 10) 1, 5, [], true⟩,
  ⟨(some 5), none, .mv (.tmp 14), 6, [], true⟩,
  ⟨(some 6), none, .mv (.tmp 15), 7, [], true⟩])
 (.seq (.region 1 [
  ⟨(some 16), none, .mv (.tmp 6), 0, [], true⟩])
 (.cond (.tmp 16) (.region 7 [
  ⟨(some 17), none, .mv (.tmp 3), 0, [], true⟩,
  ⟨(some 18), none, .mv (.tmp 4), 1, [], true⟩,
  ⟨(some 19), none, .mv (.tmp 5), 2, [], true⟩,
  ⟨(some 20), none, .build [(.int .i64 0), (.int .u64 0)] [(0, 1, (.tmp 18)), (1, 1, (.tmp 19))], 3, [], true⟩,
  ⟨(some 21), none, .buildSl 133 2 1 [(.int .i64 0), (.int .u64 0)] [(0, 2, (.tmp 20))], 4, [], true⟩,
  ⟨(some 22), none, .append 133 2 16 (.tmp 17) (.tmp 21), 5, [], true⟩,
  ⟨(some 3), none, .mv (.tmp 22), 6, [], true⟩]) .skip)))))
 (.region 2 [
  ⟨(some 23), none, .bin .add (.tmp 7) (.const (.int .i64 1)), 0, [], true⟩,
  ⟨(some 7), none, .mv (.tmp 23), 1, [], true⟩])))))))
 (.seq (.region 2 [
  ⟨(some 24), none, .mv (.tmp 3), 0, [], true⟩,
  ⟨(some 2), none, .mv (.tmp 24), 1, [], true⟩])
 .ret))))⟩

def m83 : MFn := ⟨19, [(2, none), (3, none)], (.seq (.region 2 [
  ⟨(some 2), none, .mv (.const (.int .i64 0)), 0, [], true⟩,
  ⟨(some 3), none, .mv (.const (.bool false)), 1, [], true⟩])
 (.seq (.seq (.region 9 [
  ⟨(some 4), none, .mv (.tmp 0), 0, [], true⟩,
  ⟨(some 5), none, .eq false .ptr (.tmp 4) (.const (.pointer none)), 1, [], true⟩,
  ⟨(some 6), none, .mv (.tmp 5), 2, [], true⟩,
  ⟨(some 7), (some (6, false)), .mv (.tmp 0), 3, [], true⟩,
  ⟨(some 8), (some (6, false)), .nilCheck (.tmp 7), 4, [], true⟩,
  ⟨(some 9), (some (6, false)), .fieldAddr 0 (.tmp 8), 5, [], true⟩,
  ⟨(some 10), (some (6, false)), .load 1 false (.tmp 9), 6, [], true⟩,
  ⟨(some 11), (some (6, false)), .eq false .ptr (.tmp 10) (.const (.pointer none)), 7, [], true⟩,
  ⟨(some 12), none, .pick (.tmp 6) (.const (.bool true)) (.tmp 11), 8, [], true⟩])
 (.cond (.tmp 12) (.seq (.region 2 [
  ⟨(some 2), none, .mv (.const (.int .i64 0)), 0, [], true⟩,
  ⟨(some 3), none, .mv (.const (.bool false)), 1, [], true⟩])
 .ret) .skip))
 (.seq (.region 8 [
  ⟨(some 13), none, .mv (.tmp 0), 0, [], true⟩,
  ⟨(some 14), none, .nilCheck (.tmp 13), 1, [], true⟩,
  ⟨(some 15), none, .fieldAddr 0 (.tmp 14), 2, [], true⟩,
  ⟨(some 16), none, .load 1 false (.tmp 15), 3, [], true⟩,
  ⟨(some 17), none, .nilCheck (.tmp 16), 4, [], true⟩,
  ⟨(some 18), none, .load 1 false (.tmp 17), 5, [], true⟩,
  ⟨(some 2), none, .mv (.tmp 18), 6, [], true⟩,
  ⟨(some 3), none, .mv (.const (.bool true)), 7, [], true⟩])
 .ret)))⟩

def m84 : MFn := ⟨19, [(4, none)], (.seq (.region 1 [
  ⟨(some 4), none, .mv (.const (.bool false)), 0, [], true⟩])
 (.seq (.region 8 [
  ⟨(some 8), none, .mv (.tmp 0), 0, [], true⟩,
  ⟨(some 9), none, .mv (.tmp 1), 1, [], true⟩,
  ⟨(some 10), none, .call (.func 133) [(.tmp 8), (.tmp 9)], 2, [], true⟩,
  ⟨(some 7), none, .mv (.tmp 10), 3, [], true⟩,
  ⟨(some 11), none, .extract (.tmp 7) 0, 4, [], true⟩,
  ⟨(some 12), none, .extract (.tmp 7) 1, 5, [], true⟩,
  ⟨(some 5), none, .mv (.tmp 11), 6, [], true⟩,
  ⟨(some 6), none, .mv (.tmp 12), 7, [], true⟩])
 (.seq (.region 7 [
  ⟨(some 13), none, .mv (.tmp 0), 0, [], true⟩,
  ⟨(some 14), none, .eq true .ptr (.tmp 13) (.const (.pointer none)), 1, [], true⟩,
  ⟨(some 15), none, .mv (.tmp 14), 2, [], true⟩,
  ⟨(some 16), (some (15, true)), .mv (.tmp 6), 3, [], true⟩,
  ⟨(some 17), (some (15, true)), .un .not (.tmp 16), 4, [], true⟩,
  ⟨(some 18), none, .pick (.tmp 15) (.tmp 17) (.const (.bool false)), 5, [], true⟩,
  ⟨(some 4), none, .mv (.tmp 18), 6, [], true⟩])
 .ret)))⟩

def m85 : MFn := ⟨9, [(2, none)], (.seq (.region 1 [
  ⟨(some 2), none, .mv (.const (.int .u64 0)), 0, [], true⟩])
 (.seq (.seq (.region 2 [
  ⟨(some 3), none, .mv (.tmp 0), 0, [], true⟩,
  ⟨(some 4), none, .eq false .ptr (.tmp 3) (.const (.pointer none)), 1, [], true⟩])
 (.cond (.tmp 4) (.seq (.region 1 [
  ⟨(some 2), none, .mv (.const (.int .u64 0)), 0, [], true⟩])
 .ret) .skip))
 (.seq (.region 5 [
  ⟨(some 5), none, .mv (.tmp 0), 0, [], true⟩,
  ⟨(some 6), none, .nilCheck (.tmp 5), 1, [], true⟩,
  ⟨(some 7), none, .fieldAddr 1 (.tmp 6), 2, [], true⟩,
  ⟨(some 8), none, .load 1 false (.tmp 7), 3, [], true⟩,
  ⟨(some 2), none, .mv (.tmp 8), 4, [], true⟩])
 .ret)))⟩

def m86 : MFn := ⟨10, [(2, none)], (.seq (.region 1 [
  ⟨(some 2), none, .mv (.const (.bool false)), 0, [], true⟩])
 (.seq (.region 8 [
  ⟨(some 3), none, .mv (.tmp 0), 0, [], true⟩,
  ⟨(some 4), none, .bin .andNot (.tmp 3) (.const (.int .u64 9223372036854775808)), 1, [], true⟩,
  ⟨(some 5), none, .bin .leq (.tmp 4) (.const (.int .u64 9218868437227405312)), 2, [], true⟩,
  ⟨(some 6), none, .mv (.tmp 5), 3, [], true⟩,
  ⟨(some 7), (some (6, false)), .mv (.tmp 0), 4, [], true⟩,
  ⟨(some 8), (some (6, false)), .bin .eql (.tmp 7) (.const (.int .u64 9221120237041090560)), 5, [], true⟩,
  ⟨(some 9), none, .pick (.tmp 6) (.const (.bool true)) (.tmp 8), 6, [], true⟩,
  ⟨(some 2), none, .mv (.tmp 9), 7, [], true⟩])
 .ret))⟩

def m87 : MFn := ⟨3, [(0, none)], (.seq (.region 1 [
  ⟨(some 0), none, .mv (.const (.pointer none)), 0, [], true⟩])
 (.seq (.region 3 [
  ⟨(some 1), none, .build [(.pointer none), (.int .u64 0)] [], 0, [], true⟩,
  ⟨(some 2), none, .box 138 (.tmp 1), 1, [], true⟩,
  ⟨(some 0), none, .mv (.tmp 2), 2, [], true⟩])
 .ret))⟩

def m88 : MFn := ⟨13, [(2, none)], (.seq (.region 1 [
  ⟨(some 2), none, .mv (.const (.bool false)), 0, [], true⟩])
 (.seq (.region 3 [
  ⟨(some 4), none, .mv (.tmp 0), 0, [], true⟩,
  ⟨(some 5), none, .call (.func 134) [(.tmp 4)], 1, [], true⟩,
  ⟨(some 3), none, .mv (.tmp 5), 2, [], true⟩])
 (.seq (.region 8 [
  ⟨(some 6), none, .mv (.tmp 3), 0, [], true⟩,
  ⟨(some 7), none, .mv (.tmp 3), 1, [], true⟩,
  ⟨(some 8), none, .bin .eql (.tmp 6) (.tmp 7), 2, [], true⟩,
  ⟨(some 9), none, .mv (.tmp 8), 3, [], true⟩,
  ⟨(some 10), (some (9, false)), .mv (.tmp 0), 4, [], true⟩,
  ⟨(some 11), (some (9, false)), .bin .eql (.tmp 10) (.const (.int .u64 9221120237041090560)), 5, [], true⟩,
  ⟨(some 12), none, .pick (.tmp 9) (.const (.bool true)) (.tmp 11), 6, [], true⟩,
  ⟨(some 2), none, .mv (.tmp 12), 7, [], true⟩])
 .ret)))⟩

def m89 : MFn := ⟨3, [(0, none)], (.seq (.region 1 [
  ⟨(some 0), none, .mv (.const (.pointer none)), 0, [], true⟩])
 (.seq (.region 3 [
  ⟨(some 1), none, .build [(.int .u64 0), (.bool false), (.int .i64 0)] [], 0, [], true⟩,
  ⟨(some 2), none, .box 147 (.tmp 1), 1, [], true⟩,
  ⟨(some 0), none, .mv (.tmp 2), 2, [], true⟩])
 .ret))⟩

def m90 : MFn := ⟨18, [(4, none)], (.seq (.region 1 [
  ⟨(some 4), none, .mv (.const (.pointer none)), 0, [], true⟩])
 (.seq (.seq (.region 7 [
  ⟨(some 5), none, .mv (.tmp 0), 0, [], true⟩,
  ⟨(some 6), none, .eq false .ptr (.tmp 5) (.const (.pointer none)), 1, [], true⟩,
  ⟨(some 7), none, .mv (.tmp 6), 2, [], true⟩,
  ⟨(some 8), (some (7, false)), .mv (.tmp 1), 3, [], true⟩,
  ⟨(some 9), (some (7, false)), .call (.func 97) [(.tmp 8)], 4, [], true⟩,
  ⟨(some 10), (some (7, false)), .bin .neq (.tmp 9) (.const (.int .i64 0)), 5, [], true⟩,
  ⟨(some 11), none, .pick (.tmp 7) (.const (.bool true)) (.tmp 10), 6, [], true⟩])
 (.cond (.tmp 11) (.seq (.region 1 [
  ⟨(some 4), none, .mv (.const (.pointer none)), 0, [], true⟩])
 .ret) .skip))
 (.seq (.region 7 [
  ⟨(some 12), none, .mv (.tmp 0), 0, [], true⟩,
  ⟨(some 13), none, .mv (.tmp 1), 1, [], true⟩,
  ⟨(some 14), none, .nilCheck (.tmp 12), 2, [], true⟩,
  ⟨(some 15), none, .fieldAddr 2 (.tmp 14), 3, [], true⟩,
  ⟨(some 16), none, .adArr 4 1 (.tmp 15) (.tmp 13), 4, [], true⟩,
  ⟨(some 17), none, .load 1 false (.tmp 16), 5, [], true⟩,
  ⟨(some 4), none, .mv (.tmp 17), 6, [], true⟩])
 .ret)))⟩

def m91 : MFn := ⟨11, [(2, none)], (.seq (.region 1 [
  ⟨(some 2), none, .mv (.const (.slice none 0 0)), 0, [], true⟩])
 (.seq (.seq (.region 2 [
  ⟨(some 3), none, .mv (.tmp 0), 0, [], true⟩,
  ⟨(some 4), none, .eq false .ptr (.tmp 3) (.const (.pointer none)), 1, [], true⟩])
 (.cond (.tmp 4) (.seq (.region 1 [
  ⟨(some 2), none, .mv (.const (.slice none 0 0)), 0, [], true⟩])
 .ret) .skip))
 (.seq (.region 7 [
  ⟨(some 5), none, .buildSl 131 3 0 [] [], 0, [], true⟩,
  ⟨(some 6), none, .mv (.tmp 0), 1, [], true⟩,
  ⟨(some 7), none, .nilCheck (.tmp 6), 2, [], true⟩,
  ⟨(some 8), none, .fieldAddr 0 (.tmp 7), 3, [], true⟩,
  ⟨(some 9), none, .load 1 false (.tmp 8), 4, [], true⟩,
  ⟨(some 10), none, .append 131 3 24 (.tmp 5) (.tmp 9), 5, [], true⟩,
  ⟨(some 2), none, .mv (.tmp 10), 6, [], true⟩])
 .ret)))⟩

def m92 : MFn := ⟨25, [(2, none)], (.seq (.region 1 [
  ⟨(some 2), none, .mv (.const (.slice none 0 0)), 0, [], true⟩])
 (.seq (.region 1 [
  ⟨(some 3), none, .mv (.const (.slice none 0 0)), 0, [], true⟩])
 (.seq (.seq (.region 1 [
  ⟨(some 4), none, .mv (.const (.int .i64 0)), 0, [], true⟩])
 (.block 0 (.loop (.seq (.seq (.region 2 [
  ⟨(some 7), none, .mv (.tmp 4), 0, [], true⟩,
  ⟨(some 8), none, .bin .lss (.tmp 7) (.const (.int .i64 12)), 1, [], true⟩])
 (.cond (.tmp 8) .skip (.exit 0)))
 (.seq (.block 1 (.seq (.region 8 [
  ⟨(some 12), none, .mv (.tmp 0), 0, [], true⟩,
  ⟨(some 13), none, .mv (.tmp 4), 1, [], true⟩,
  ⟨(some 14), none, .call (.func 135) [(.tmp 12), (.tmp 13)], 2, [], true⟩,
  ⟨(some 11), none, .mv (.tmp 14), 3, [], true⟩,
  ⟨(some 15), none, .extract (.tmp 11) 0, 4, [], true⟩,
  ⟨(some 16), none, .extract (.tmp 11) 1, 5, [], true⟩,
  ⟨(some 5), none, .mv (.tmp 15), 6, [], true⟩,
  ⟨(some 6), none, .mv (.tmp 16), 7, [], true⟩])
 (.seq (.region 1 [
  ⟨(some 17), none, .mv (.tmp 6), 0, [], true⟩])
 (.cond (.tmp 17) (.region 7 [
  ⟨(some 18), none, .mv (.tmp 3), 0, [], true⟩,
  ⟨(some 19), none, .mv (.tmp 4), 1, [], true⟩,
  ⟨(some 20), none, .mv (.tmp 5), 2, [], true⟩,
  ⟨(some 21), none, .build [(.int .i64 0), (.int .u64 0)] [(0, 1, (.tmp 19)), (1, 1, (.tmp 20))], 3, [], true⟩,
  ⟨(some 22), none, .buildSl 133 2 1 [(.int .i64 0), (.int .u64 0)] [(0, 2, (.tmp 21))], 4, [], true⟩,
  ⟨(some 23), none, .append 133 2 16 (.tmp 18) (.tmp 22), 5, [], true⟩,
  ⟨(some 3), none, .mv (.tmp 23), 6, [], true⟩]) .skip))))
 (.region 3 [
  ⟨(some 9), none, .mv (.tmp 4), 0, [], true⟩,
  ⟨(some 10), none, .bin .add (.tmp 9) (.const (.int .i64 1)), 1, [], true⟩,
  ⟨(some 4), none, .mv (.tmp 10), 2, [], true⟩]))))))
 (.seq (.region 2 [
  ⟨(some 24), none, .mv (.tmp 3), 0, [], true⟩,
  ⟨(some 2), none, .mv (.tmp 24), 1, [], true⟩])
 .ret))))⟩

def m93 : MFn := ⟨17, [(2, none), (3, none)], (.seq (.region 2 [
  ⟨(some 2), none, .mv (.const (.int .i64 0)), 0, [], true⟩,
  ⟨(some 3), none, .mv (.const (.bool false)), 1, [], true⟩])
 (.seq (.seq (.region 9 [
  ⟨(some 4), none, .mv (.tmp 0), 0, [], true⟩,
  ⟨(some 5), none, .eq false .ptr (.tmp 4) (.const (.pointer none)), 1, [], true⟩,
  ⟨(some 6), none, .mv (.tmp 5), 2, [], true⟩,
  ⟨(some 7), (some (6, false)), .mv (.tmp 0), 3, [], true⟩,
  ⟨(some 8), (some (6, false)), .nilCheck (.tmp 7), 4, [], true⟩,
  ⟨(some 9), (some (6, false)), .fieldAddr 1 (.tmp 8), 5, [], true⟩,
  ⟨(some 10), (some (6, false)), .load 1 false (.tmp 9), 6, [], true⟩,
  ⟨(some 11), (some (6, false)), .un .not (.tmp 10), 7, [], true⟩,
  ⟨(some 12), none, .pick (.tmp 6) (.const (.bool true)) (.tmp 11), 8, [], true⟩])
 (.cond (.tmp 12) (.seq (.region 2 [
  ⟨(some 2), none, .mv (.const (.int .i64 0)), 0, [], true⟩,
  ⟨(some 3), none, .mv (.const (.bool false)), 1, [], true⟩])
 .ret) .skip))
 (.seq (.region 6 [
  ⟨(some 13), none, .mv (.tmp 0), 0, [], true⟩,
  ⟨(some 14), none, .nilCheck (.tmp 13), 1, [], true⟩,
  ⟨(some 15), none, .fieldAddr 2 (.tmp 14), 2, [], true⟩,
  ⟨(some 16), none, .load 1 false (.tmp 15), 3, [], true⟩,
  ⟨(some 2), none, .mv (.tmp 16), 4, [], true⟩,
  ⟨(some 3), none, .mv (.const (.bool true)), 5, [], true⟩])
 .ret)))⟩

def m94 : MFn := ⟨19, [(4, none)], (.seq (.region 1 [
  ⟨(some 4), none, .mv (.const (.bool false)), 0, [], true⟩])
 (.seq (.region 8 [
  ⟨(some 8), none, .mv (.tmp 0), 0, [], true⟩,
  ⟨(some 9), none, .mv (.tmp 1), 1, [], true⟩,
  ⟨(some 10), none, .call (.func 136) [(.tmp 8), (.tmp 9)], 2, [], true⟩,
  ⟨(some 7), none, .mv (.tmp 10), 3, [], true⟩,
  ⟨(some 11), none, .extract (.tmp 7) 0, 4, [], true⟩,
  ⟨(some 12), none, .extract (.tmp 7) 1, 5, [], true⟩,
  ⟨(some 5), none, .mv (.tmp 11), 6, [], true⟩,
  ⟨(some 6), none, .mv (.tmp 12), 7, [], true⟩])
 (.seq (.region 7 [
  ⟨(some 13), none, .mv (.tmp 0), 0, [], true⟩,
  ⟨(some 14), none, .eq true .ptr (.tmp 13) (.const (.pointer none)), 1, [], true⟩,
  ⟨(some 15), none, .mv (.tmp 14), 2, [], true⟩,
  ⟨(some 16), (some (15, true)), .mv (.tmp 6), 3, [], true⟩,
  ⟨(some 17), (some (15, true)), .un .not (.tmp 16), 4, [], true⟩,
  ⟨(some 18), none, .pick (.tmp 15) (.tmp 17) (.const (.bool false)), 5, [], true⟩,
  ⟨(some 4), none, .mv (.tmp 18), 6, [], true⟩])
 .ret)))⟩

def m95 : MFn := ⟨9, [(2, none)], (.seq (.region 1 [
  ⟨(some 2), none, .mv (.const (.int .u64 0)), 0, [], true⟩])
 (.seq (.seq (.region 2 [
  ⟨(some 3), none, .mv (.tmp 0), 0, [], true⟩,
  ⟨(some 4), none, .eq false .ptr (.tmp 3) (.const (.pointer none)), 1, [], true⟩])
 (.cond (.tmp 4) (.seq (.region 1 [
  ⟨(some 2), none, .mv (.const (.int .u64 0)), 0, [], true⟩])
 .ret) .skip))
 (.seq (.region 5 [
  ⟨(some 5), none, .mv (.tmp 0), 0, [], true⟩,
  ⟨(some 6), none, .nilCheck (.tmp 5), 1, [], true⟩,
  ⟨(some 7), none, .fieldAddr 0 (.tmp 6), 2, [], true⟩,
  ⟨(some 8), none, .load 1 false (.tmp 7), 3, [], true⟩,
  ⟨(some 2), none, .mv (.tmp 8), 4, [], true⟩])
 .ret)))⟩

def m96 : MFn := ⟨8, [(2, none)], (.seq (.region 1 [
  ⟨(some 2), none, .mv (.const (.slice none 0 0)), 0, [], true⟩])
 (.seq (.seq (.region 2 [
  ⟨(some 3), none, .mv (.tmp 0), 0, [], true⟩,
  ⟨(some 4), none, .eq false .slice (.tmp 3) (.const (.slice none 0 0)), 1, [], true⟩])
 (.cond (.tmp 4) (.seq (.region 1 [
  ⟨(some 2), none, .mv (.const (.slice none 0 0)), 0, [], true⟩])
 .ret) .skip))
 (.seq (.region 4 [
  ⟨(some 5), none, .buildSl 3 1 0 [] [], 0, [], true⟩,
  ⟨(some 6), none, .mv (.tmp 0), 1, [], true⟩,
  ⟨(some 7), none, .append 3 1 8 (.tmp 5) (.tmp 6), 2, [], true⟩,
  ⟨(some 2), none, .mv (.tmp 7), 3, [], true⟩])
 .ret)))⟩

def m97 : MFn := ⟨9, [(2, none)], (.seq (.region 1 [
  ⟨(some 2), none, .mv (.const (.int .i64 0)), 0, [], true⟩])
 (.seq (.seq (.region 6 [
  ⟨(some 3), none, .mv (.tmp 0), 0, [], true⟩,
  ⟨(some 4), none, .bin .lss (.tmp 3) (.const (.int .i64 0)), 1, [], true⟩,
  ⟨(some 5), none, .mv (.tmp 4), 2, [], true⟩,
  ⟨(some 6), (some (5, false)), .mv (.tmp 0), 3, [], true⟩,
  ⟨(some 7), (some (5, false)), .bin .geq (.tmp 6) (.const (.int .i64 4)), 4, [], true⟩,
  ⟨(some 8), none, .pick (.tmp 5) (.const (.bool true)) (.tmp 7), 5, [], true⟩])
 (.cond (.tmp 8) (.seq (.region 1 [
  ⟨(some 2), none, .mv (.const (.int .i64 2)), 0, [], true⟩])
 .ret) .skip))
 (.seq (.region 1 [
  ⟨(some 2), none, .mv (.const (.int .i64 0)), 0, [], true⟩])
 .ret)))⟩

def m98 : MFn := ⟨16, [(2, none), (3, none)], (.seq (.region 2 [
  ⟨(some 2), none, .mv (.const (.int .u64 0)), 0, [], true⟩,
  ⟨(some 3), none, .mv (.const (.int .i64 0)), 1, [], true⟩])
 (.seq (.block 0 (.seq (.region 3 [
  ⟨(some 5), none, .mv (.tmp 0), 0, [], true⟩,
  ⟨(some 6), none, .eq false .ptr (.tmp 5) (.const (.pointer none)), 1, [], true⟩,
  ⟨(some 4), none, .mv (.tmp 6), 2, [], true⟩])
 (.cond (.tmp 4) (.seq (.region 2 [
  ⟨(some 2), none, .mv (.const (.int .u64 0)), 0, [], true⟩,
  ⟨(some 3), none, .mv (.const (.int .i64 1)), 1, [], true⟩])
 .ret) (.seq (.region 5 [
  ⟨(some 8), none, .mv (.tmp 0), 0, [], true⟩,
  ⟨(some 9), none, .nilCheck (.tmp 8), 1, [], true⟩,
  ⟨(some 10), none, .fieldAddr 1 (.tmp 9), 2, [], true⟩,
  ⟨(some 11), none, .load 1 false (.tmp 10), 3, [], true⟩,
  ⟨(some 7), none, .mv (.tmp 11), 4, [], true⟩])
 (.cond (.tmp 7) (.seq (.region 2 [
  ⟨(some 2), none, .mv (.const (.int .u64 0)), 0, [], true⟩,
  ⟨(some 3), none, .mv (.const (.int .i64 7)), 1, [], true⟩])
 .ret) .skip)))))
 (.seq (.region 6 [
  ⟨(some 12), none, .mv (.tmp 0), 0, [], true⟩,
  ⟨(some 13), none, .nilCheck (.tmp 12), 1, [], true⟩,
  ⟨(some 14), none, .fieldAddr 0 (.tmp 13), 2, [], true⟩,
  ⟨(some 15), none, .load 1 false (.tmp 14), 3, [], true⟩,
  ⟨(some 2), none, .mv (.tmp 15), 4, [], true⟩,
  ⟨(some 3), none, .mv (.const (.int .i64 0)), 5, [], true⟩])
 .ret)))⟩

def m99 : MFn := ⟨3, [(0, none)], (.seq (.region 1 [
  ⟨(some 0), none, .mv (.const (.pointer none)), 0, [], true⟩])
 (.seq (.region 3 [
  ⟨(some 1), none, .build [(.slice none 0 0)] [], 0, [], true⟩,
  ⟨(some 2), none, .box 149 (.tmp 1), 1, [], true⟩,
  ⟨(some 0), none, .mv (.tmp 2), 2, [], true⟩])
 .ret))⟩

def m100 : MFn := ⟨5, [(0, none)], (.seq (.region 1 [
  ⟨(some 0), none, .mv (.const (.pointer none)), 0, [], true⟩])
 (.seq (.region 5 [
  ⟨(some 1), none, .build [(.bool false), (.bool false), (.bool false), (.bool false), (.bool false), (.bool false), (.bool false), (.bool false), (.bool false), (.bool false), (.bool false), (.bool false), (.int .u64 0), (.int .u64 0), (.int .u64 0), (.int .u64 0), (.int .u64 0), (.int .u64 0), (.int .u64 0), (.int .u64 0), (.int .u64 0), (.int .u64 0), (.int .u64 0), (.int .u64 0)] [], 0, [], true⟩,
  ⟨(some 2), none, .buildSl 183 24 1 [(.bool false), (.bool false), (.bool false), (.bool false), (.bool false), (.bool false), (.bool false), (.bool false), (.bool false), (.bool false), (.bool false), (.bool false), (.int .u64 0), (.int .u64 0), (.int .u64 0), (.int .u64 0), (.int .u64 0), (.int .u64 0), (.int .u64 0), (.int .u64 0), (.int .u64 0), (.int .u64 0), (.int .u64 0), (.int .u64 0)] [(0, 24, (.tmp 1))], 1, [], true⟩,
  ⟨(some 3), none, .build [(.slice none 0 0)] [(0, 1, (.tmp 2))], 2, [], true⟩,
  ⟨(some 4), none, .box 152 (.tmp 3), 3, [], true⟩,
  ⟨(some 0), none, .mv (.tmp 4), 4, [], true⟩])
 .ret))⟩

def m101 : MFn := ⟨16, [], (.seq (.region 1 [
  ⟨(some 3), none, .box 87 (.tmp 1), 0, [], true⟩])
 (.region 13 [
  ⟨(some 4), none, .mv (.tmp 0), 0, [], true⟩,
  ⟨(some 5), none, .buildSl 87 4 0 [] [], 1, [], false⟩,
  ⟨(some 6), none, .mv (.tmp 0), 2, [], false⟩,
  ⟨(some 7), none, .nilCheck (.tmp 6), 3, [], false⟩,
  ⟨(some 8), none, .fieldAddr 6 (.tmp 7), 4, [], false⟩,
  ⟨(some 9), none, .load 1 false (.tmp 8), 5, [], false⟩,
  ⟨(some 11), none, .load 4 true (.tmp 3), 7, [], false⟩,
  ⟨(some 12), none, .buildSl 87 4 1 [(.int .u8 0), (.int .i64 0), (.int .i64 0), (.int .u64 0)] [(0, 4, (.tmp 11))], 8, [], false⟩,
  ⟨(some 10), none, .append 87 4 32 (.tmp 5) (.tmp 9), 6, [(false, none, none, 7, .load 4 true (.tmp 3)), (true, none, none, 8, .buildSl 87 4 1 [(.int .u8 0), (.int .i64 0), (.int .i64 0), (.int .u64 0)] [(0, 4, (.tmp 11))])], false⟩,
  ⟨(some 13), none, .append 87 4 32 (.tmp 10) (.tmp 12), 9, [], false⟩,
  ⟨(some 14), none, .nilCheck (.tmp 4), 10, [], true⟩,
  ⟨(some 15), none, .fieldAddr 6 (.tmp 14), 11, [], true⟩,
  ⟨none, none, .store 1 (.tmp 15) (.tmp 13), 12, [], true⟩]))⟩

def m102 : MFn := ⟨81, [(6, none)], (.seq (.region 2 [
  ⟨(some 3), none, .box 37 (.tmp 0), 0, [], true⟩,
  ⟨(some 6), none, .mv (.const (.int .i64 0)), 1, [], true⟩])
 (.seq (.region 9 [
  ⟨(some 8), none, .fieldAddr 0 (.tmp 3), 0, [], true⟩,
  ⟨(some 9), none, .load 1 false (.tmp 8), 1, [], true⟩,
  ⟨(some 10), none, .bin .eql (.tmp 9) (.const (.int .u8 1)), 2, [], true⟩,
  ⟨(some 11), none, .mv (.tmp 10), 3, [], true⟩,
  ⟨(some 12), (some (11, false)), .fieldAddr 0 (.tmp 3), 4, [], true⟩,
  ⟨(some 13), (some (11, false)), .load 1 false (.tmp 12), 5, [], true⟩,
  ⟨(some 14), (some (11, false)), .bin .eql (.tmp 13) (.const (.int .u8 2)), 6, [], true⟩,
  ⟨(some 15), none, .pick (.tmp 11) (.const (.bool true)) (.tmp 14), 7, [], true⟩,
  ⟨(some 7), none, .mv (.tmp 15), 8, [], true⟩])
 (.seq (.block 0 (.seq (.region 23 [
  ⟨(some 17), none, .fieldAddr 0 (.tmp 3), 0, [], true⟩,
  ⟨(some 18), none, .load 1 false (.tmp 17), 1, [], true⟩,
  ⟨(some 19), none, .bin .eql (.tmp 18) (.const (.int .u8 0)), 2, [], true⟩,
  ⟨(some 20), none, .mv (.tmp 19), 3, [], true⟩,
  ⟨(some 21), (some (20, false)), .fieldAddr 0 (.tmp 3), 4, [], true⟩,
  ⟨(some 22), (some (20, false)), .load 1 false (.tmp 21), 5, [], true⟩,
  ⟨(some 23), (some (20, false)), .bin .gtr (.tmp 22) (.const (.int .u8 7)), 6, [], true⟩,
  ⟨(some 24), none, .pick (.tmp 20) (.const (.bool true)) (.tmp 23), 7, [], true⟩,
  ⟨(some 25), none, .mv (.tmp 24), 8, [], true⟩,
  ⟨(some 26), (some (25, false)), .mv (.tmp 7), 9, [], true⟩,
  ⟨(some 27), (some (25, false)), .mv (.tmp 26), 10, [], true⟩,
  ⟨(some 28), (some (27, true)), .fieldAddr 1 (.tmp 3), 11, [], true⟩,
  ⟨(some 29), (some (27, true)), .load 1 false (.tmp 28), 12, [], true⟩,
  ⟨(some 30), (some (27, true)), .bin .lss (.tmp 29) (.const (.int .i64 0)), 13, [], true⟩,
  ⟨(some 31), (some (27, true)), .mv (.tmp 30), 14, [], true⟩,
  ⟨(some 32), (some (31, false)), .fieldAddr 1 (.tmp 3), 15, [], true⟩,
  ⟨(some 33), (some (31, false)), .load 1 false (.tmp 32), 16, [], true⟩,
  ⟨(some 34), (some (31, false)), .mv (.tmp 1), 17, [], true⟩,
  ⟨(some 35), (some (31, false)), .bin .geq (.tmp 33) (.tmp 34), 18, [], true⟩,
  ⟨(some 36), (some (27, true)), .pick (.tmp 31) (.const (.bool true)) (.tmp 35), 19, [], true⟩,
  ⟨(some 37), (some (25, false)), .pick (.tmp 27) (.tmp 36) (.const (.bool false)), 20, [], true⟩,
  ⟨(some 38), none, .pick (.tmp 25) (.const (.bool true)) (.tmp 37), 21, [], true⟩,
  ⟨(some 16), none, .mv (.tmp 38), 22, [], true⟩])
 (.cond (.tmp 16) (.seq (.region 1 [
  ⟨(some 6), none, .mv (.const (.int .i64 2)), 0, [], true⟩])
 .ret) (.seq (.region 10 [
  ⟨(some 40), none, .fieldAddr 0 (.tmp 3), 0, [], true⟩,
  ⟨(some 41), none, .load 1 false (.tmp 40), 1, [], true⟩,
  ⟨(some 42), none, .bin .eql (.tmp 41) (.const (.int .u8 2)), 2, [], true⟩,
  ⟨(some 43), none, .mv (.tmp 42), 3, [], true⟩,
  ⟨(some 44), (some (43, true)), .fieldAddr 2 (.tmp 3), 4, [], true⟩,
  ⟨(some 45), (some (43, true)), .load 1 false (.tmp 44), 5, [], true⟩,
  ⟨(some 46), (some (43, true)), .call (.func 88) [(.tmp 45)], 6, [], true⟩,
  ⟨(some 47), (some (43, true)), .un .not (.tmp 46), 7, [], true⟩,
  ⟨(some 48), none, .pick (.tmp 43) (.tmp 47) (.const (.bool false)), 8, [], true⟩,
  ⟨(some 39), none, .mv (.tmp 48), 9, [], true⟩])
 (.cond (.tmp 39) (.seq (.region 1 [
  ⟨(some 6), none, .mv (.const (.int .i64 3)), 0, [], true⟩])
 .ret) (.seq (.region 14 [
  ⟨(some 50), none, .fieldAddr 0 (.tmp 3), 0, [], true⟩,
  ⟨(some 51), none, .load 1 false (.tmp 50), 1, [], true⟩,
  ⟨(some 52), none, .bin .eql (.tmp 51) (.const (.int .u8 4)), 2, [], true⟩,
  ⟨(some 53), none, .mv (.tmp 52), 3, [], true⟩,
  ⟨(some 54), (some (53, false)), .fieldAddr 0 (.tmp 3), 4, [], true⟩,
  ⟨(some 55), (some (53, false)), .load 1 false (.tmp 54), 5, [], true⟩,
  ⟨(some 56), (some (53, false)), .bin .eql (.tmp 55) (.const (.int .u8 5)), 6, [], true⟩,
  ⟨(some 57), none, .pick (.tmp 53) (.const (.bool true)) (.tmp 56), 7, [], true⟩,
  ⟨(some 58), none, .mv (.tmp 57), 8, [], true⟩,
  ⟨(some 59), (some (58, true)), .mv (.tmp 2), 9, [], true⟩,
  ⟨(some 60), (some (58, true)), .call (.func 137) [(.tmp 59)], 10, [], true⟩,
  ⟨(some 61), (some (58, true)), .bin .eql (.tmp 60) (.const (.int .i64 0)), 11, [], true⟩,
  ⟨(some 62), none, .pick (.tmp 58) (.tmp 61) (.const (.bool false)), 12, [], true⟩,
  ⟨(some 49), none, .mv (.tmp 62), 13, [], true⟩])
 (.cond (.tmp 49) (.seq (.region 1 [
  ⟨(some 6), none, .mv (.const (.int .i64 8)), 0, [], true⟩])
 .ret) (.seq (.region 9 [
  ⟨(some 64), none, .fieldAddr 0 (.tmp 3), 0, [], true⟩,
  ⟨(some 65), none, .load 1 false (.tmp 64), 1, [], true⟩,
  ⟨(some 66), none, .bin .eql (.tmp 65) (.const (.int .u8 6)), 2, [], true⟩,
  ⟨(some 67), none, .mv (.tmp 66), 3, [], true⟩,
  ⟨(some 68), (some (67, true)), .mv (.tmp 2), 4, [], true⟩,
  ⟨(some 69), (some (67, true)), .call (.func 137) [(.tmp 68)], 5, [], true⟩,
  ⟨(some 70), (some (67, true)), .bin .gtr (.tmp 69) (.const (.int .i64 0)), 6, [], true⟩,
  ⟨(some 71), none, .pick (.tmp 67) (.tmp 70) (.const (.bool false)), 7, [], true⟩,
  ⟨(some 63), none, .mv (.tmp 71), 8, [], true⟩])
 (.cond (.tmp 63) (.seq (.region 1 [
  ⟨(some 6), none, .mv (.const (.int .i64 8)), 0, [], true⟩])
 .ret) (.seq (.region 9 [
  ⟨(some 73), none, .fieldAddr 0 (.tmp 3), 0, [], true⟩,
  ⟨(some 74), none, .load 1 false (.tmp 73), 1, [], true⟩,
  ⟨(some 75), none, .bin .eql (.tmp 74) (.const (.int .u8 3)), 2, [], true⟩,
  ⟨(some 76), none, .mv (.tmp 75), 3, [], true⟩,
  ⟨(some 77), (some (76, true)), .mv (.tmp 2), 4, [], true⟩,
  ⟨(some 78), (some (76, true)), .call (.func 137) [(.tmp 77)], 5, [], true⟩,
  ⟨(some 79), (some (76, true)), .bin .geq (.tmp 78) (.const (.int .i64 4)), 6, [], true⟩,
  ⟨(some 80), none, .pick (.tmp 76) (.tmp 79) (.const (.bool false)), 7, [], true⟩,
  ⟨(some 72), none, .mv (.tmp 80), 8, [], true⟩])
 (.cond (.tmp 72) (.seq (.region 1 [
  ⟨(some 6), none, .mv (.const (.int .i64 4)), 0, [], true⟩])
 .ret) .skip)))))))))))
 (.seq (.region 1 [
  ⟨(some 6), none, .mv (.const (.int .i64 0)), 0, [], true⟩])
 .ret))))⟩

def m103 : MFn := ⟨146, [(6, (some (7, true)))], (.seq (.region 1 [
  ⟨(some 6), none, .alloc [(.bool false), (.int .u64 0), (.bool false), (.int .i64 0), (.bool false), (.int .u8 0), (.int .i64 0)] 52, 0, [], true⟩])
 (.seq (.seq (.region 4 [
  ⟨(some 12), none, .mv (.tmp 2), 0, [], true⟩,
  ⟨(some 13), none, .nilCheck (.tmp 12), 1, [], true⟩,
  ⟨(some 14), none, .fieldAddr 8 (.tmp 13), 2, [], true⟩,
  ⟨(some 15), none, .load 1 false (.tmp 14), 3, [], true⟩])
 (.block 0 (.seq (.region 2 [
  ⟨(some 17), none, .bin .eql (.tmp 15) (.const (.int .i64 10)), 0, [], true⟩,
  ⟨(some 16), none, .mv (.tmp 17), 1, [], true⟩])
 (.cond (.tmp 16) (.seq (.region 10 [
  ⟨(some 19), none, .mv (.tmp 0), 0, [], true⟩,
  ⟨(some 20), none, .nilCheck (.tmp 19), 1, [], true⟩,
  ⟨(some 21), none, .fieldAddr 1 (.tmp 20), 2, [], true⟩,
  ⟨(some 22), none, .load 1 false (.tmp 21), 3, [], true⟩,
  ⟨(some 23), none, .call (.func 98) [(.tmp 22)], 4, [], true⟩,
  ⟨(some 18), none, .mv (.tmp 23), 5, [], true⟩,
  ⟨(some 24), none, .extract (.tmp 18) 0, 6, [], true⟩,
  ⟨(some 25), none, .extract (.tmp 18) 1, 7, [], true⟩,
  ⟨(some 7), none, .mv (.tmp 24), 8, [], true⟩,
  ⟨(some 8), none, .mv (.tmp 25), 9, [], true⟩])
 (.seq (.seq (.region 2 [
  ⟨(some 26), none, .mv (.tmp 8), 0, [], true⟩,
  ⟨(some 27), none, .bin .neq (.tmp 26) (.const (.int .i64 0)), 1, [], true⟩])
 (.cond (.tmp 27) (.seq (.region 10 [
  ⟨(some 29), none, .mv (.tmp 0), 0, [], true⟩,
  ⟨(some 30), none, .nilCheck (.tmp 29), 1, [], true⟩,
  ⟨(some 31), none, .fieldAddr 1 (.tmp 30), 2, [], true⟩,
  ⟨(some 32), none, .load 1 false (.tmp 31), 3, [], true⟩,
  ⟨(some 33), none, .call (.func 93) [(.tmp 32)], 4, [], true⟩,
  ⟨(some 28), none, .mv (.tmp 33), 5, [], true⟩,
  ⟨(some 34), none, .extract (.tmp 28) 0, 6, [], true⟩,
  ⟨(some 35), none, .extract (.tmp 28) 1, 7, [], true⟩,
  ⟨(some 9), none, .mv (.tmp 34), 8, [], true⟩,
  ⟨(some 10), none, .mv (.tmp 35), 9, [], true⟩])
 (.seq (.region 3 [
  ⟨(some 36), none, .mv (.tmp 9), 0, [], true⟩,
  ⟨(some 37), none, .build [(.bool false), (.int .u64 0), (.bool false), (.int .i64 0), (.bool false), (.int .u8 0), (.int .i64 0)] [(2, 1, (.const (.bool true))), (3, 1, (.tmp 36))], 1, [], true⟩,
  ⟨none, none, .store 7 (.tmp 6) (.tmp 37), 2, [], true⟩])
 .ret)) .skip))
 (.seq (.region 13 [
  ⟨(some 38), none, .mv (.tmp 2), 0, [], true⟩,
  ⟨(some 39), none, .mv (.tmp 2), 1, [], true⟩,
  ⟨(some 40), none, .mv (.tmp 2), 2, [], true⟩,
  ⟨(some 41), none, .mv (.tmp 7), 3, [], true⟩,
  ⟨(some 42), none, .nilCheck (.tmp 38), 4, [], true⟩,
  ⟨(some 43), none, .fieldAddr 11 (.tmp 42), 5, [], true⟩,
  ⟨none, none, .store 1 (.tmp 43) (.tmp 41), 6, [], true⟩,
  ⟨(some 44), none, .nilCheck (.tmp 39), 7, [], true⟩,
  ⟨(some 45), none, .fieldAddr 8 (.tmp 44), 8, [], true⟩,
  ⟨none, none, .store 1 (.tmp 45) (.const (.int .i64 11)), 9, [], true⟩,
  ⟨(some 46), none, .nilCheck (.tmp 40), 10, [], true⟩,
  ⟨(some 47), none, .fieldAddr 10 (.tmp 46), 11, [], true⟩,
  ⟨none, none, .store 1 (.tmp 47) (.const (.int .i64 0)), 12, [], true⟩])
 (.seq (.region 2 [
  ⟨(some 48), none, .build [(.bool false), (.int .u64 0), (.bool false), (.int .i64 0), (.bool false), (.int .u8 0), (.int .i64 0)] [], 0, [], true⟩,
  ⟨none, none, .store 7 (.tmp 6) (.tmp 48), 1, [], true⟩])
 .ret)))) (.seq (.region 2 [
  ⟨(some 50), none, .bin .eql (.tmp 15) (.const (.int .i64 11)), 0, [], true⟩,
  ⟨(some 49), none, .mv (.tmp 50), 1, [], true⟩])
 (.cond (.tmp 49) (.seq (.region 6 [
  ⟨(some 51), none, .mv (.tmp 2), 0, [], true⟩,
  ⟨(some 52), none, .nilCheck (.tmp 51), 1, [], true⟩,
  ⟨(some 53), none, .fieldAddr 2 (.tmp 52), 2, [], true⟩,
  ⟨(some 54), none, .load 1 false (.tmp 53), 3, [], true⟩,
  ⟨(some 55), none, .call (.func 91) [(.tmp 54)], 4, [], true⟩,
  ⟨(some 11), none, .mv (.tmp 55), 5, [], true⟩])
 (.seq (.seq (.region 7 [
  ⟨(some 56), none, .mv (.tmp 2), 0, [], true⟩,
  ⟨(some 57), none, .nilCheck (.tmp 56), 1, [], true⟩,
  ⟨(some 58), none, .fieldAddr 10 (.tmp 57), 2, [], true⟩,
  ⟨(some 59), none, .load 1 false (.tmp 58), 3, [], true⟩,
  ⟨(some 60), none, .mv (.tmp 11), 4, [], true⟩,
  ⟨(some 61), none, .len false (.tmp 60), 5, [], true⟩,
  ⟨(some 62), none, .bin .geq (.tmp 59) (.tmp 61), 6, [], true⟩])
 (.cond (.tmp 62) (.seq (.region 4 [
  ⟨(some 63), none, .mv (.tmp 2), 0, [], true⟩,
  ⟨(some 64), none, .nilCheck (.tmp 63), 1, [], true⟩,
  ⟨(some 65), none, .fieldAddr 8 (.tmp 64), 2, [], true⟩,
  ⟨none, none, .store 1 (.tmp 65) (.const (.int .i64 12)), 3, [], true⟩])
 (.seq (.region 2 [
  ⟨(some 66), none, .build [(.bool false), (.int .u64 0), (.bool false), (.int .i64 0), (.bool false), (.int .u8 0), (.int .i64 0)] [], 0, [], true⟩,
  ⟨none, none, .store 7 (.tmp 6) (.tmp 66), 1, [], true⟩])
 .ret)) .skip))
 (.seq (.seq (.region 24 [
  ⟨(some 67), none, .mv (.tmp 0), 0, [], true⟩,
  ⟨(some 68), none, .nilCheck (.tmp 67), 1, [], true⟩,
  ⟨(some 69), none, .fieldAddr 0 (.tmp 68), 2, [], true⟩,
  ⟨(some 70), none, .load 1 false (.tmp 69), 3, [], true⟩,
  ⟨(some 71), none, .mv (.tmp 11), 4, [], false⟩,
  ⟨(some 72), none, .mv (.tmp 2), 5, [], false⟩,
  ⟨(some 73), none, .nilCheck (.tmp 72), 6, [], false⟩,
  ⟨(some 74), none, .fieldAddr 10 (.tmp 73), 7, [], false⟩,
  ⟨(some 75), none, .load 1 false (.tmp 74), 8, [], false⟩,
  ⟨(some 76), none, .adSl 3 (.tmp 71) (.tmp 75), 9, [], false⟩,
  ⟨(some 77), none, .fieldAddr 0 (.tmp 76), 10, [], false⟩,
  ⟨(some 78), none, .load 1 false (.tmp 77), 11, [], false⟩,
  ⟨(some 79), none, .adSl 1 (.tmp 70) (.tmp 78), 12, [], true⟩,
  ⟨(some 80), none, .load 1 false (.tmp 79), 13, [], true⟩,
  ⟨(some 81), none, .mv (.tmp 11), 14, [], false⟩,
  ⟨(some 82), none, .mv (.tmp 2), 15, [], false⟩,
  ⟨(some 83), none, .nilCheck (.tmp 82), 16, [], false⟩,
  ⟨(some 84), none, .fieldAddr 10 (.tmp 83), 17, [], false⟩,
  ⟨(some 85), none, .load 1 false (.tmp 84), 18, [], false⟩,
  ⟨(some 86), none, .adSl 3 (.tmp 81) (.tmp 85), 19, [], false⟩,
  ⟨(some 87), none, .fieldAddr 1 (.tmp 86), 20, [], false⟩,
  ⟨(some 88), none, .load 1 false (.tmp 87), 21, [], false⟩,
  ⟨(some 89), none, .call (.func 138) [(.tmp 80), (.tmp 88)], 22, [], true⟩,
  ⟨(some 90), none, .un .not (.tmp 89), 23, [], true⟩])
 (.cond (.tmp 90) (.seq (.region 4 [
  ⟨(some 91), none, .mv (.tmp 0), 0, [], true⟩,
  ⟨(some 92), none, .mv (.tmp 1), 1, [], true⟩,
  ⟨(some 93), none, .call (.func 104) [(.tmp 91), (.tmp 92), (.const (.int .u8 1))], 2, [], true⟩,
  ⟨none, none, .store 7 (.tmp 6) (.tmp 93), 3, [], true⟩])
 .ret) .skip))
 (.seq (.region 8 [
  ⟨(some 94), none, .mv (.tmp 2), 0, [], true⟩,
  ⟨(some 95), none, .nilCheck (.tmp 94), 1, [], true⟩,
  ⟨(some 96), none, .fieldAddr 10 (.tmp 95), 2, [], true⟩,
  ⟨(some 97), none, .load 1 false (.tmp 96), 3, [], true⟩,
  ⟨(some 98), none, .bin .add (.tmp 97) (.const (.int .i64 1)), 4, [], true⟩,
  ⟨(some 99), none, .nilCheck (.tmp 94), 5, [], true⟩,
  ⟨(some 100), none, .fieldAddr 10 (.tmp 99), 6, [], true⟩,
  ⟨none, none, .store 1 (.tmp 100) (.tmp 98), 7, [], true⟩])
 (.seq (.region 2 [
  ⟨(some 101), none, .build [(.bool false), (.int .u64 0), (.bool false), (.int .i64 0), (.bool false), (.int .u8 0), (.int .i64 0)] [], 0, [], true⟩,
  ⟨none, none, .store 7 (.tmp 6) (.tmp 101), 1, [], true⟩])
 .ret))))) .skip))))))
 (.seq (.seq (.region 10 [
  ⟨(some 102), none, .mv (.tmp 0), 0, [], true⟩,
  ⟨(some 103), none, .nilCheck (.tmp 102), 1, [], true⟩,
  ⟨(some 104), none, .fieldAddr 1 (.tmp 103), 2, [], true⟩,
  ⟨(some 105), none, .load 1 false (.tmp 104), 3, [], true⟩,
  ⟨(some 106), none, .mv (.tmp 2), 4, [], false⟩,
  ⟨(some 107), none, .nilCheck (.tmp 106), 5, [], false⟩,
  ⟨(some 108), none, .fieldAddr 11 (.tmp 107), 6, [], false⟩,
  ⟨(some 109), none, .load 1 false (.tmp 108), 7, [], false⟩,
  ⟨(some 110), none, .call (.func 139) [(.tmp 105), (.tmp 109)], 8, [], true⟩,
  ⟨(some 111), none, .un .not (.tmp 110), 9, [], true⟩])
 (.cond (.tmp 111) (.seq (.region 4 [
  ⟨(some 112), none, .mv (.tmp 2), 0, [], true⟩,
  ⟨(some 113), none, .nilCheck (.tmp 112), 1, [], true⟩,
  ⟨(some 114), none, .fieldAddr 8 (.tmp 113), 2, [], true⟩,
  ⟨none, none, .store 1 (.tmp 114) (.const (.int .i64 10)), 3, [], true⟩])
 (.seq (.region 2 [
  ⟨(some 115), none, .build [(.bool false), (.int .u64 0), (.bool false), (.int .i64 0), (.bool false), (.int .u8 0), (.int .i64 0)] [], 0, [], true⟩,
  ⟨none, none, .store 7 (.tmp 6) (.tmp 115), 1, [], true⟩])
 .ret)) .skip))
 (.seq (.region 16 [
  ⟨(some 116), none, .mv (.tmp 2), 0, [], true⟩,
  ⟨(some 117), none, .mv (.tmp 2), 1, [], false⟩,
  ⟨(some 118), none, .mv (.tmp 2), 2, [], false⟩,
  ⟨(some 119), none, .nilCheck (.tmp 118), 3, [], false⟩,
  ⟨(some 120), none, .fieldAddr 11 (.tmp 119), 4, [], false⟩,
  ⟨(some 121), none, .load 1 false (.tmp 120), 5, [], false⟩,
  ⟨(some 122), none, .mv (.tmp 2), 6, [], false⟩,
  ⟨(some 123), none, .nilCheck (.tmp 122), 7, [], false⟩,
  ⟨(some 124), none, .fieldAddr 9 (.tmp 123), 8, [], false⟩,
  ⟨(some 125), none, .load 1 false (.tmp 124), 9, [], false⟩,
  ⟨(some 126), none, .nilCheck (.tmp 116), 10, [], false⟩,
  ⟨(some 127), none, .fieldAddr 1 (.tmp 126), 11, [], false⟩,
  ⟨none, none, .store 1 (.tmp 127) (.tmp 121), 12, [], false⟩,
  ⟨(some 128), none, .nilCheck (.tmp 117), 13, [], true⟩,
  ⟨(some 129), none, .fieldAddr 8 (.tmp 128), 14, [], true⟩,
  ⟨none, none, .store 1 (.tmp 129) (.tmp 125), 15, [], true⟩])
 (.seq (.region 16 [
  ⟨(some 130), none, .mv (.tmp 0), 0, [], true⟩,
  ⟨(some 131), none, .nilCheck (.tmp 130), 1, [], true⟩,
  ⟨(some 132), none, .fieldAddr 7 (.tmp 131), 2, [], true⟩,
  ⟨(some 133), none, .load 1 false (.tmp 132), 3, [], true⟩,
  ⟨(some 134), none, .mv (.tmp 2), 4, [], false⟩,
  ⟨(some 135), none, .nilCheck (.tmp 134), 5, [], false⟩,
  ⟨(some 136), none, .fieldAddr 0 (.tmp 135), 6, [], false⟩,
  ⟨(some 137), none, .load 1 false (.tmp 136), 7, [], false⟩,
  ⟨(some 138), none, .mv (.tmp 2), 8, [], false⟩,
  ⟨(some 139), none, .nilCheck (.tmp 138), 9, [], false⟩,
  ⟨(some 140), none, .fieldAddr 1 (.tmp 139), 10, [], false⟩,
  ⟨(some 141), none, .load 1 false (.tmp 140), 11, [], false⟩,
  ⟨(some 142), none, .bin .add (.tmp 141) (.const (.int .u64 1)), 12, [], false⟩,
  ⟨(some 143), none, .adSl 2 (.tmp 133) (.tmp 137), 13, [], true⟩,
  ⟨(some 144), none, .fieldAddr 0 (.tmp 143), 14, [], true⟩,
  ⟨none, none, .store 1 (.tmp 144) (.tmp 142), 15, [], true⟩])
 (.seq (.region 2 [
  ⟨(some 145), none, .build [(.bool false), (.int .u64 0), (.bool false), (.int .i64 0), (.bool false), (.int .u8 0), (.int .i64 0)] [], 0, [], true⟩,
  ⟨none, none, .store 7 (.tmp 6) (.tmp 145), 1, [], true⟩])
 .ret))))))⟩

def m104 : MFn := ⟨42, [(6, (some (7, true)))], (.seq (.region 1 [
  ⟨(some 6), none, .alloc [(.bool false), (.int .u64 0), (.bool false), (.int .i64 0), (.bool false), (.int .u8 0), (.int .i64 0)] 52, 0, [], true⟩])
 (.seq (.region 10 [
  ⟨(some 8), none, .mv (.tmp 0), 0, [], true⟩,
  ⟨(some 9), none, .mv (.tmp 1), 1, [], true⟩,
  ⟨(some 10), none, .nilCheck (.tmp 8), 2, [], true⟩,
  ⟨(some 11), none, .fieldAddr 2 (.tmp 10), 3, [], true⟩,
  ⟨(some 12), none, .adArr 4 1 (.tmp 11) (.tmp 9), 4, [], true⟩,
  ⟨(some 13), none, .load 1 false (.tmp 12), 5, [], true⟩,
  ⟨(some 14), none, .nilCheck (.tmp 13), 6, [], true⟩,
  ⟨(some 15), none, .fieldAddr 0 (.tmp 14), 7, [], true⟩,
  ⟨(some 16), none, .load 1 false (.tmp 15), 8, [], true⟩,
  ⟨(some 7), none, .mv (.tmp 16), 9, [], true⟩])
 (.seq (.region 6 [
  ⟨(some 17), none, .mv (.tmp 0), 0, [], true⟩,
  ⟨(some 18), none, .nilCheck (.tmp 17), 1, [], true⟩,
  ⟨(some 19), none, .fieldAddr 1 (.tmp 18), 2, [], true⟩,
  ⟨(some 20), none, .load 1 false (.tmp 19), 3, [], true⟩,
  ⟨(some 21), none, .mv (.tmp 1), 4, [], true⟩,
  ⟨(some 22), none, .call (.func 140) [(.tmp 20), (.tmp 21)], 5, [], true⟩])
 (.seq (.region 9 [
  ⟨(some 23), none, .mv (.tmp 0), 0, [], true⟩,
  ⟨(some 24), none, .nilCheck (.tmp 23), 1, [], true⟩,
  ⟨(some 25), none, .fieldAddr 7 (.tmp 24), 2, [], true⟩,
  ⟨(some 26), none, .load 1 false (.tmp 25), 3, [], true⟩,
  ⟨(some 27), none, .mv (.tmp 7), 4, [], true⟩,
  ⟨(some 28), none, .mv (.tmp 2), 5, [], true⟩,
  ⟨(some 29), none, .adSl 2 (.tmp 26) (.tmp 27), 6, [], true⟩,
  ⟨(some 30), none, .fieldAddr 1 (.tmp 29), 7, [], true⟩,
  ⟨none, none, .store 1 (.tmp 30) (.tmp 28), 8, [], true⟩])
 (.seq (.region 6 [
  ⟨(some 31), none, .mv (.tmp 0), 0, [], true⟩,
  ⟨(some 32), none, .mv (.tmp 1), 1, [], true⟩,
  ⟨(some 33), none, .nilCheck (.tmp 31), 2, [], true⟩,
  ⟨(some 34), none, .fieldAddr 2 (.tmp 33), 3, [], true⟩,
  ⟨(some 35), none, .adArr 4 1 (.tmp 34) (.tmp 32), 4, [], true⟩,
  ⟨none, none, .store 1 (.tmp 35) (.const (.pointer none)), 5, [], true⟩])
 (.seq (.region 4 [
  ⟨(some 36), none, .mv (.tmp 0), 0, [], true⟩,
  ⟨(some 37), none, .mv (.tmp 7), 1, [], true⟩,
  ⟨(some 38), none, .build [(.int .u8 0), (.int .i64 0), (.int .i64 0), (.int .u64 0)] [(0, 1, (.const (.int .u8 9))), (1, 1, (.tmp 37))], 2, [], true⟩,
  ⟨(some 39), none, .call (.func 101) [(.tmp 36), (.tmp 38)], 3, [], true⟩])
 (.seq (.region 3 [
  ⟨(some 40), none, .mv (.tmp 2), 0, [], true⟩,
  ⟨(some 41), none, .build [(.bool false), (.int .u64 0), (.bool false), (.int .i64 0), (.bool false), (.int .u8 0), (.int .i64 0)] [(0, 1, (.const (.bool true))), (4, 1, (.const (.bool true))), (5, 1, (.tmp 40))], 1, [], true⟩,
  ⟨none, none, .store 7 (.tmp 6) (.tmp 41), 2, [], true⟩])
 .ret)))))))⟩

def m105 : MFn := ⟨88, [(6, (some (7, true)))], (.seq (.region 1 [
  ⟨(some 6), none, .alloc [(.bool false), (.int .u64 0), (.bool false), (.int .i64 0), (.bool false), (.int .u8 0), (.int .i64 0)] 52, 0, [], true⟩])
 (.seq (.seq (.region 15 [
  ⟨(some 10), none, .mv (.tmp 2), 0, [], true⟩,
  ⟨(some 11), none, .nilCheck (.tmp 10), 1, [], true⟩,
  ⟨(some 12), none, .fieldAddr 3 (.tmp 11), 2, [], true⟩,
  ⟨(some 13), none, .load 1 false (.tmp 12), 3, [], true⟩,
  ⟨(some 14), none, .mv (.tmp 2), 4, [], false⟩,
  ⟨(some 15), none, .nilCheck (.tmp 14), 5, [], false⟩,
  ⟨(some 16), none, .fieldAddr 5 (.tmp 15), 6, [], false⟩,
  ⟨(some 17), none, .fieldAddr 1 (.tmp 16), 7, [], false⟩,
  ⟨(some 18), none, .load 1 false (.tmp 17), 8, [], false⟩,
  ⟨(some 19), none, .call (.func 135) [(.tmp 13), (.tmp 18)], 9, [], true⟩,
  ⟨(some 9), none, .mv (.tmp 19), 10, [], true⟩,
  ⟨(some 20), none, .extract (.tmp 9) 0, 11, [], true⟩,
  ⟨(some 21), none, .extract (.tmp 9) 1, 12, [], false⟩,
  ⟨(some 7), none, .mv (.tmp 20), 13, [], false⟩,
  ⟨(some 8), none, .mv (.tmp 21), 14, [], true⟩])
 (.seq (.region 1 [
  ⟨(some 22), none, .mv (.tmp 8), 0, [], true⟩])
 (.cond (.tmp 22) (.seq (.region 5 [
  ⟨(some 23), none, .mv (.tmp 0), 0, [], true⟩,
  ⟨(some 24), none, .mv (.tmp 2), 1, [], true⟩,
  ⟨(some 25), none, .mv (.tmp 7), 2, [], true⟩,
  ⟨(some 26), none, .call (.func 141) [(.tmp 23), (.tmp 24), (.tmp 25)], 3, [], true⟩,
  ⟨none, none, .store 7 (.tmp 6) (.tmp 26), 4, [], true⟩])
 .ret) .skip)))
 (.seq (.seq (.region 5 [
  ⟨(some 27), none, .mv (.tmp 2), 0, [], true⟩,
  ⟨(some 28), none, .nilCheck (.tmp 27), 1, [], true⟩,
  ⟨(some 29), none, .fieldAddr 8 (.tmp 28), 2, [], true⟩,
  ⟨(some 30), none, .load 1 false (.tmp 29), 3, [], true⟩,
  ⟨(some 31), none, .bin .eql (.tmp 30) (.const (.int .i64 0)), 4, [], true⟩])
 (.cond (.tmp 31) (.seq (.region 19 [
  ⟨(some 32), none, .mv (.tmp 2), 0, [], true⟩,
  ⟨(some 33), none, .mv (.tmp 2), 1, [], false⟩,
  ⟨(some 34), none, .mv (.tmp 0), 2, [], false⟩,
  ⟨(some 35), none, .nilCheck (.tmp 34), 3, [], false⟩,
  ⟨(some 36), none, .fieldAddr 0 (.tmp 35), 4, [], false⟩,
  ⟨(some 37), none, .load 1 false (.tmp 36), 5, [], false⟩,
  ⟨(some 38), none, .mv (.tmp 2), 6, [], false⟩,
  ⟨(some 39), none, .nilCheck (.tmp 38), 7, [], false⟩,
  ⟨(some 40), none, .fieldAddr 5 (.tmp 39), 8, [], false⟩,
  ⟨(some 41), none, .fieldAddr 1 (.tmp 40), 9, [], false⟩,
  ⟨(some 42), none, .load 1 false (.tmp 41), 10, [], false⟩,
  ⟨(some 43), none, .adSl 1 (.tmp 37) (.tmp 42), 11, [], false⟩,
  ⟨(some 44), none, .load 1 false (.tmp 43), 12, [], false⟩,
  ⟨(some 45), none, .nilCheck (.tmp 32), 13, [], false⟩,
  ⟨(some 46), none, .fieldAddr 12 (.tmp 45), 14, [], false⟩,
  ⟨none, none, .store 1 (.tmp 46) (.tmp 44), 15, [], false⟩,
  ⟨(some 47), none, .nilCheck (.tmp 33), 16, [], true⟩,
  ⟨(some 48), none, .fieldAddr 8 (.tmp 47), 17, [], true⟩,
  ⟨none, none, .store 1 (.tmp 48) (.const (.int .i64 1)), 18, [], true⟩])
 (.seq (.region 2 [
  ⟨(some 49), none, .build [(.bool false), (.int .u64 0), (.bool false), (.int .i64 0), (.bool false), (.int .u8 0), (.int .i64 0)] [], 0, [], true⟩,
  ⟨none, none, .store 7 (.tmp 6) (.tmp 49), 1, [], true⟩])
 .ret)) .skip))
 (.seq (.seq (.region 10 [
  ⟨(some 50), none, .mv (.tmp 0), 0, [], true⟩,
  ⟨(some 51), none, .nilCheck (.tmp 50), 1, [], true⟩,
  ⟨(some 52), none, .fieldAddr 1 (.tmp 51), 2, [], true⟩,
  ⟨(some 53), none, .load 1 false (.tmp 52), 3, [], true⟩,
  ⟨(some 54), none, .mv (.tmp 2), 4, [], false⟩,
  ⟨(some 55), none, .nilCheck (.tmp 54), 5, [], false⟩,
  ⟨(some 56), none, .fieldAddr 1 (.tmp 55), 6, [], false⟩,
  ⟨(some 57), none, .load 1 false (.tmp 56), 7, [], false⟩,
  ⟨(some 58), none, .call (.func 139) [(.tmp 53), (.tmp 57)], 8, [], true⟩,
  ⟨(some 59), none, .un .not (.tmp 58), 9, [], true⟩])
 (.cond (.tmp 59) (.seq (.region 3 [
  ⟨(some 60), none, .mv (.tmp 2), 0, [], true⟩,
  ⟨(some 61), none, .call (.func 142) [(.tmp 60), (.const (.int .i64 0))], 1, [], true⟩,
  ⟨none, none, .store 7 (.tmp 6) (.tmp 61), 2, [], true⟩])
 .ret) .skip))
 (.seq (.seq (.region 16 [
  ⟨(some 62), none, .mv (.tmp 2), 0, [], true⟩,
  ⟨(some 63), none, .nilCheck (.tmp 62), 1, [], true⟩,
  ⟨(some 64), none, .fieldAddr 2 (.tmp 63), 2, [], true⟩,
  ⟨(some 65), none, .load 1 false (.tmp 64), 3, [], true⟩,
  ⟨(some 66), none, .mv (.tmp 2), 4, [], false⟩,
  ⟨(some 67), none, .nilCheck (.tmp 66), 5, [], false⟩,
  ⟨(some 68), none, .fieldAddr 5 (.tmp 67), 6, [], false⟩,
  ⟨(some 69), none, .fieldAddr 1 (.tmp 68), 7, [], false⟩,
  ⟨(some 70), none, .load 1 false (.tmp 69), 8, [], false⟩,
  ⟨(some 71), none, .mv (.tmp 2), 9, [], false⟩,
  ⟨(some 72), none, .nilCheck (.tmp 71), 10, [], false⟩,
  ⟨(some 73), none, .fieldAddr 12 (.tmp 72), 11, [], false⟩,
  ⟨(some 74), none, .load 1 false (.tmp 73), 12, [], false⟩,
  ⟨(some 75), none, .build [(.int .i64 0), (.int .u64 0), (.int .u64 0)] [(0, 1, (.tmp 70)), (1, 1, (.tmp 74))], 13, [], false⟩,
  ⟨(some 76), none, .call (.func 143) [(.tmp 65), (.tmp 75)], 14, [], true⟩,
  ⟨(some 77), none, .bin .neq (.tmp 76) (.const (.int .i64 0)), 15, [], true⟩])
 (.cond (.tmp 77) (.seq (.region 4 [
  ⟨(some 78), none, .mv (.tmp 0), 0, [], true⟩,
  ⟨(some 79), none, .mv (.tmp 1), 1, [], true⟩,
  ⟨(some 80), none, .call (.func 104) [(.tmp 78), (.tmp 79), (.const (.int .u8 2))], 2, [], true⟩,
  ⟨none, none, .store 7 (.tmp 6) (.tmp 80), 3, [], true⟩])
 .ret) .skip))
 (.seq (.region 8 [
  ⟨(some 81), none, .mv (.tmp 0), 0, [], true⟩,
  ⟨(some 82), none, .mv (.tmp 2), 1, [], true⟩,
  ⟨(some 83), none, .mv (.tmp 2), 2, [], true⟩,
  ⟨(some 84), none, .nilCheck (.tmp 83), 3, [], true⟩,
  ⟨(some 85), none, .fieldAddr 12 (.tmp 84), 4, [], true⟩,
  ⟨(some 86), none, .load 1 false (.tmp 85), 5, [], true⟩,
  ⟨(some 87), none, .call (.func 141) [(.tmp 81), (.tmp 82), (.tmp 86)], 6, [], true⟩,
  ⟨none, none, .store 7 (.tmp 6) (.tmp 87), 7, [], true⟩])
 .ret))))))⟩

def m106 : MFn := ⟨132, [(6, (some (7, true)))], (.seq (.region 1 [
  ⟨(some 6), none, .alloc [(.bool false), (.int .u64 0), (.bool false), (.int .i64 0), (.bool false), (.int .u8 0), (.int .i64 0)] 52, 0, [], true⟩])
 (.seq (.region 6 [
  ⟨(some 8), none, .mv (.tmp 2), 0, [], true⟩,
  ⟨(some 9), none, .nilCheck (.tmp 8), 1, [], true⟩,
  ⟨(some 10), none, .fieldAddr 3 (.tmp 9), 2, [], true⟩,
  ⟨(some 11), none, .load 1 false (.tmp 10), 3, [], true⟩,
  ⟨(some 12), none, .call (.func 92) [(.tmp 11)], 4, [], true⟩,
  ⟨(some 7), none, .mv (.tmp 12), 5, [], true⟩])
 (.seq (.seq (.region 4 [
  ⟨(some 13), none, .mv (.tmp 2), 0, [], true⟩,
  ⟨(some 14), none, .nilCheck (.tmp 13), 1, [], true⟩,
  ⟨(some 15), none, .fieldAddr 8 (.tmp 14), 2, [], true⟩,
  ⟨(some 16), none, .load 1 false (.tmp 15), 3, [], true⟩])
 (.block 0 (.seq (.region 2 [
  ⟨(some 18), none, .bin .eql (.tmp 16) (.const (.int .i64 0)), 0, [], true⟩,
  ⟨(some 17), none, .mv (.tmp 18), 1, [], true⟩])
 (.cond (.tmp 17) (.seq (.region 7 [
  ⟨(some 19), none, .mv (.tmp 0), 0, [], true⟩,
  ⟨(some 20), none, .mv (.tmp 2), 1, [], true⟩,
  ⟨(some 21), none, .nilCheck (.tmp 20), 2, [], true⟩,
  ⟨(some 22), none, .fieldAddr 0 (.tmp 21), 3, [], true⟩,
  ⟨(some 23), none, .load 1 false (.tmp 22), 4, [], true⟩,
  ⟨(some 24), none, .build [(.int .u8 0), (.int .i64 0), (.int .i64 0), (.int .u64 0)] [(0, 1, (.const (.int .u8 7))), (1, 1, (.tmp 23))], 5, [], true⟩,
  ⟨(some 25), none, .call (.func 101) [(.tmp 19), (.tmp 24)], 6, [], true⟩])
 (.seq (.seq (.region 3 [
  ⟨(some 26), none, .mv (.tmp 7), 0, [], true⟩,
  ⟨(some 27), none, .len false (.tmp 26), 1, [], true⟩,
  ⟨(some 28), none, .bin .eql (.tmp 27) (.const (.int .i64 0)), 2, [], true⟩])
 (.cond (.tmp 28) (.seq (.region 4 [
  ⟨(some 29), none, .mv (.tmp 0), 0, [], true⟩,
  ⟨(some 30), none, .mv (.tmp 1), 1, [], true⟩,
  ⟨(some 31), none, .call (.func 144) [(.tmp 29), (.tmp 30)], 2, [], true⟩,
  ⟨none, none, .store 7 (.tmp 6) (.tmp 31), 3, [], true⟩])
 .ret) .skip))
 (.seq (.region 4 [
  ⟨(some 32), none, .mv (.tmp 2), 0, [], true⟩,
  ⟨(some 33), none, .nilCheck (.tmp 32), 1, [], true⟩,
  ⟨(some 34), none, .fieldAddr 8 (.tmp 33), 2, [], true⟩,
  ⟨none, none, .store 1 (.tmp 34) (.const (.int .i64 1)), 3, [], true⟩])
 (.seq (.region 2 [
  ⟨(some 35), none, .build [(.bool false), (.int .u64 0), (.bool false), (.int .i64 0), (.bool false), (.int .u8 0), (.int .i64 0)] [], 0, [], true⟩,
  ⟨none, none, .store 7 (.tmp 6) (.tmp 35), 1, [], true⟩])
 .ret)))) (.seq (.region 2 [
  ⟨(some 37), none, .bin .eql (.tmp 16) (.const (.int .i64 1)), 0, [], true⟩,
  ⟨(some 36), none, .mv (.tmp 37), 1, [], true⟩])
 (.cond (.tmp 36) (.seq (.region 10 [
  ⟨(some 38), none, .mv (.tmp 0), 0, [], true⟩,
  ⟨(some 39), none, .nilCheck (.tmp 38), 1, [], true⟩,
  ⟨(some 40), none, .fieldAddr 1 (.tmp 39), 2, [], true⟩,
  ⟨(some 41), none, .load 1 false (.tmp 40), 3, [], true⟩,
  ⟨(some 42), none, .mv (.tmp 1), 4, [], false⟩,
  ⟨(some 43), none, .mv (.tmp 2), 5, [], false⟩,
  ⟨(some 44), none, .nilCheck (.tmp 43), 6, [], false⟩,
  ⟨(some 45), none, .fieldAddr 1 (.tmp 44), 7, [], false⟩,
  ⟨(some 46), none, .load 1 false (.tmp 45), 8, [], false⟩,
  ⟨(some 47), none, .call (.func 145) [(.tmp 41), (.tmp 42), (.tmp 46)], 9, [], true⟩])
 (.block 1 (.seq (.region 2 [
  ⟨(some 51), none, .bin .eql (.tmp 47) (.const (.int .i64 0)), 0, [], true⟩,
  ⟨(some 50), none, .mv (.tmp 51), 1, [], true⟩])
 (.cond (.tmp 50) (.seq (.region 12 [
  ⟨(some 52), none, .mv (.tmp 2), 0, [], true⟩,
  ⟨(some 53), none, .mv (.tmp 2), 1, [], true⟩,
  ⟨(some 54), none, .mv (.tmp 2), 2, [], true⟩,
  ⟨(some 55), none, .nilCheck (.tmp 52), 3, [], true⟩,
  ⟨(some 56), none, .fieldAddr 13 (.tmp 55), 4, [], true⟩,
  ⟨none, none, .store 1 (.tmp 56) (.const (.bool true)), 5, [], true⟩,
  ⟨(some 57), none, .nilCheck (.tmp 53), 6, [], true⟩,
  ⟨(some 58), none, .fieldAddr 8 (.tmp 57), 7, [], true⟩,
  ⟨none, none, .store 1 (.tmp 58) (.const (.int .i64 2)), 8, [], true⟩,
  ⟨(some 59), none, .nilCheck (.tmp 54), 9, [], true⟩,
  ⟨(some 60), none, .fieldAddr 10 (.tmp 59), 10, [], true⟩,
  ⟨none, none, .store 1 (.tmp 60) (.const (.int .i64 0)), 11, [], true⟩])
 (.seq (.region 16 [
  ⟨(some 61), none, .mv (.tmp 0), 0, [], true⟩,
  ⟨(some 62), none, .nilCheck (.tmp 61), 1, [], true⟩,
  ⟨(some 63), none, .fieldAddr 7 (.tmp 62), 2, [], true⟩,
  ⟨(some 64), none, .load 1 false (.tmp 63), 3, [], true⟩,
  ⟨(some 65), none, .mv (.tmp 2), 4, [], false⟩,
  ⟨(some 66), none, .nilCheck (.tmp 65), 5, [], false⟩,
  ⟨(some 67), none, .fieldAddr 0 (.tmp 66), 6, [], false⟩,
  ⟨(some 68), none, .load 1 false (.tmp 67), 7, [], false⟩,
  ⟨(some 69), none, .mv (.tmp 2), 8, [], false⟩,
  ⟨(some 70), none, .nilCheck (.tmp 69), 9, [], false⟩,
  ⟨(some 71), none, .fieldAddr 1 (.tmp 70), 10, [], false⟩,
  ⟨(some 72), none, .load 1 false (.tmp 71), 11, [], false⟩,
  ⟨(some 73), none, .bin .add (.tmp 72) (.const (.int .u64 2)), 12, [], false⟩,
  ⟨(some 74), none, .adSl 2 (.tmp 64) (.tmp 68), 13, [], true⟩,
  ⟨(some 75), none, .fieldAddr 0 (.tmp 74), 14, [], true⟩,
  ⟨none, none, .store 1 (.tmp 75) (.tmp 73), 15, [], true⟩])
 (.seq (.region 2 [
  ⟨(some 76), none, .build [(.bool false), (.int .u64 0), (.bool false), (.int .i64 0), (.bool false), (.int .u8 0), (.int .i64 0)] [], 0, [], true⟩,
  ⟨none, none, .store 7 (.tmp 6) (.tmp 76), 1, [], true⟩])
 .ret))) (.seq (.region 2 [
  ⟨(some 78), none, .bin .eql (.tmp 47) (.const (.int .i64 4)), 0, [], true⟩,
  ⟨(some 77), none, .mv (.tmp 78), 1, [], true⟩])
 (.cond (.tmp 77) (.seq (.region 4 [
  ⟨(some 79), none, .mv (.tmp 0), 0, [], true⟩,
  ⟨(some 80), none, .mv (.tmp 1), 1, [], true⟩,
  ⟨(some 81), none, .call (.func 104) [(.tmp 79), (.tmp 80), (.const (.int .u8 2))], 2, [], true⟩,
  ⟨none, none, .store 7 (.tmp 6) (.tmp 81), 3, [], true⟩])
 .ret) (.seq (.region 3 [
  ⟨(some 48), none, .mv (.tmp 2), 0, [], true⟩,
  ⟨(some 49), none, .call (.func 142) [(.tmp 48), (.const (.int .i64 1))], 1, [], true⟩,
  ⟨none, none, .store 7 (.tmp 6) (.tmp 49), 2, [], true⟩])
 .ret))))))) (.seq (.region 2 [
  ⟨(some 83), none, .bin .eql (.tmp 16) (.const (.int .i64 2)), 0, [], true⟩,
  ⟨(some 82), none, .mv (.tmp 83), 1, [], true⟩])
 (.cond (.tmp 82) (.seq (.region 22 [
  ⟨(some 84), none, .mv (.tmp 0), 0, [], true⟩,
  ⟨(some 85), none, .nilCheck (.tmp 84), 1, [], true⟩,
  ⟨(some 86), none, .fieldAddr 0 (.tmp 85), 2, [], true⟩,
  ⟨(some 87), none, .load 1 false (.tmp 86), 3, [], true⟩,
  ⟨(some 88), none, .mv (.tmp 7), 4, [], false⟩,
  ⟨(some 89), none, .mv (.tmp 2), 5, [], false⟩,
  ⟨(some 90), none, .nilCheck (.tmp 89), 6, [], false⟩,
  ⟨(some 91), none, .fieldAddr 10 (.tmp 90), 7, [], false⟩,
  ⟨(some 92), none, .load 1 false (.tmp 91), 8, [], false⟩,
  ⟨(some 93), none, .adSl 2 (.tmp 88) (.tmp 92), 9, [], false⟩,
  ⟨(some 94), none, .fieldAddr 0 (.tmp 93), 10, [], false⟩,
  ⟨(some 95), none, .load 1 false (.tmp 94), 11, [], false⟩,
  ⟨(some 96), none, .mv (.tmp 7), 12, [], false⟩,
  ⟨(some 97), none, .mv (.tmp 2), 13, [], false⟩,
  ⟨(some 98), none, .nilCheck (.tmp 97), 14, [], false⟩,
  ⟨(some 99), none, .fieldAddr 10 (.tmp 98), 15, [], false⟩,
  ⟨(some 100), none, .load 1 false (.tmp 99), 16, [], false⟩,
  ⟨(some 101), none, .adSl 2 (.tmp 96) (.tmp 100), 17, [], false⟩,
  ⟨(some 102), none, .fieldAddr 1 (.tmp 101), 18, [], false⟩,
  ⟨(some 103), none, .load 1 false (.tmp 102), 19, [], false⟩,
  ⟨(some 104), none, .adSl 1 (.tmp 87) (.tmp 95), 20, [], true⟩,
  ⟨none, none, .store 1 (.tmp 104) (.tmp 103), 21, [], true⟩])
 (.seq (.region 8 [
  ⟨(some 105), none, .mv (.tmp 2), 0, [], true⟩,
  ⟨(some 106), none, .nilCheck (.tmp 105), 1, [], true⟩,
  ⟨(some 107), none, .fieldAddr 10 (.tmp 106), 2, [], true⟩,
  ⟨(some 108), none, .load 1 false (.tmp 107), 3, [], true⟩,
  ⟨(some 109), none, .bin .add (.tmp 108) (.const (.int .i64 1)), 4, [], true⟩,
  ⟨(some 110), none, .nilCheck (.tmp 105), 5, [], true⟩,
  ⟨(some 111), none, .fieldAddr 10 (.tmp 110), 6, [], true⟩,
  ⟨none, none, .store 1 (.tmp 111) (.tmp 109), 7, [], true⟩])
 (.seq (.seq (.region 7 [
  ⟨(some 112), none, .mv (.tmp 2), 0, [], true⟩,
  ⟨(some 113), none, .nilCheck (.tmp 112), 1, [], true⟩,
  ⟨(some 114), none, .fieldAddr 10 (.tmp 113), 2, [], true⟩,
  ⟨(some 115), none, .load 1 false (.tmp 114), 3, [], true⟩,
  ⟨(some 116), none, .mv (.tmp 7), 4, [], true⟩,
  ⟨(some 117), none, .len false (.tmp 116), 5, [], true⟩,
  ⟨(some 118), none, .bin .eql (.tmp 115) (.tmp 117), 6, [], true⟩])
 (.cond (.tmp 118) (.region 4 [
  ⟨(some 119), none, .mv (.tmp 2), 0, [], true⟩,
  ⟨(some 120), none, .nilCheck (.tmp 119), 1, [], true⟩,
  ⟨(some 121), none, .fieldAddr 8 (.tmp 120), 2, [], true⟩,
  ⟨none, none, .store 1 (.tmp 121) (.const (.int .i64 3)), 3, [], true⟩]) .skip))
 (.seq (.region 2 [
  ⟨(some 122), none, .build [(.bool false), (.int .u64 0), (.bool false), (.int .i64 0), (.bool false), (.int .u8 0), (.int .i64 0)] [], 0, [], true⟩,
  ⟨none, none, .store 7 (.tmp 6) (.tmp 122), 1, [], true⟩])
 .ret)))) .skip))))))))
 (.seq (.region 6 [
  ⟨(some 123), none, .mv (.tmp 0), 0, [], true⟩,
  ⟨(some 124), none, .nilCheck (.tmp 123), 1, [], true⟩,
  ⟨(some 125), none, .fieldAddr 1 (.tmp 124), 2, [], true⟩,
  ⟨(some 126), none, .load 1 false (.tmp 125), 3, [], true⟩,
  ⟨(some 127), none, .mv (.tmp 1), 4, [], true⟩,
  ⟨(some 128), none, .call (.func 146) [(.tmp 126), (.tmp 127)], 5, [], true⟩])
 (.seq (.region 4 [
  ⟨(some 129), none, .mv (.tmp 0), 0, [], true⟩,
  ⟨(some 130), none, .mv (.tmp 1), 1, [], true⟩,
  ⟨(some 131), none, .call (.func 144) [(.tmp 129), (.tmp 130)], 2, [], true⟩,
  ⟨none, none, .store 7 (.tmp 6) (.tmp 131), 3, [], true⟩])
 .ret)))))⟩

def m107 : MFn := ⟨28, [(4, none)], (.seq (.region 2 [
  ⟨(some 3), none, .box 37 (.tmp 1), 0, [], true⟩,
  ⟨(some 4), none, .mv (.const (.bool false)), 1, [], true⟩])
 (.seq (.seq (.region 2 [
  ⟨(some 5), none, .fieldAddr 0 (.tmp 3), 0, [], true⟩,
  ⟨(some 6), none, .load 1 false (.tmp 5), 1, [], true⟩])
 (.block 0 (.seq (.region 2 [
  ⟨(some 8), none, .bin .eql (.tmp 6) (.const (.int .u8 3)), 0, [], true⟩,
  ⟨(some 7), none, .mv (.tmp 8), 1, [], true⟩])
 (.cond (.tmp 7) (.region 2 [
  ⟨(some 9), none, .mv (.tmp 0), 0, [], true⟩,
  ⟨(some 10), none, .call (.func 147) [(.tmp 9)], 1, [], true⟩]) (.seq (.region 2 [
  ⟨(some 12), none, .bin .eql (.tmp 6) (.const (.int .u8 4)), 0, [], true⟩,
  ⟨(some 11), none, .mv (.tmp 12), 1, [], true⟩])
 (.cond (.tmp 11) (.region 2 [
  ⟨(some 13), none, .mv (.tmp 0), 0, [], true⟩,
  ⟨(some 14), none, .call (.func 148) [(.tmp 13)], 1, [], true⟩]) (.seq (.region 2 [
  ⟨(some 16), none, .bin .eql (.tmp 6) (.const (.int .u8 5)), 0, [], true⟩,
  ⟨(some 15), none, .mv (.tmp 16), 1, [], true⟩])
 (.cond (.tmp 15) (.region 2 [
  ⟨(some 17), none, .mv (.tmp 0), 0, [], true⟩,
  ⟨(some 18), none, .call (.func 149) [(.tmp 17)], 1, [], true⟩]) (.seq (.region 2 [
  ⟨(some 20), none, .bin .eql (.tmp 6) (.const (.int .u8 2)), 0, [], true⟩,
  ⟨(some 19), none, .mv (.tmp 20), 1, [], true⟩])
 (.cond (.tmp 19) (.seq (.region 8 [
  ⟨(some 21), none, .mv (.tmp 0), 0, [], true⟩,
  ⟨(some 22), none, .fieldAddr 1 (.tmp 3), 1, [], true⟩,
  ⟨(some 23), none, .load 1 false (.tmp 22), 2, [], true⟩,
  ⟨(some 24), none, .fieldAddr 2 (.tmp 3), 3, [], true⟩,
  ⟨(some 25), none, .load 1 false (.tmp 24), 4, [], true⟩,
  ⟨(some 26), none, .call (.func 150) [(.tmp 21), (.tmp 23), (.tmp 25)], 5, [], true⟩,
  ⟨(some 27), none, .bin .eql (.tmp 26) (.const (.int .i64 0)), 6, [], true⟩,
  ⟨(some 4), none, .mv (.tmp 27), 7, [], true⟩])
 .ret) .skip))))))))))
 (.seq (.region 1 [
  ⟨(some 4), none, .mv (.const (.bool true)), 0, [], true⟩])
 .ret)))⟩

def m108 : MFn := ⟨25, [(4, (some (4, true)))], (.seq (.region 2 [
  ⟨(some 3), none, .box 37 (.tmp 1), 0, [], true⟩,
  ⟨(some 4), none, .alloc [(.int .u8 0), (.int .i64 0), (.int .i64 0), (.int .u64 0)] 87, 1, [], true⟩])
 (.seq (.seq (.region 2 [
  ⟨(some 5), none, .fieldAddr 0 (.tmp 3), 0, [], true⟩,
  ⟨(some 6), none, .load 1 false (.tmp 5), 1, [], true⟩])
 (.block 0 (.seq (.region 2 [
  ⟨(some 8), none, .bin .eql (.tmp 6) (.const (.int .u8 3)), 0, [], true⟩,
  ⟨(some 7), none, .mv (.tmp 8), 1, [], true⟩])
 (.cond (.tmp 7) (.seq (.region 3 [
  ⟨(some 9), none, .mv (.tmp 0), 0, [], true⟩,
  ⟨(some 10), none, .build [(.int .u8 0), (.int .i64 0), (.int .i64 0), (.int .u64 0)] [(0, 1, (.const (.int .u8 4))), (1, 1, (.tmp 9))], 1, [], true⟩,
  ⟨none, none, .store 4 (.tmp 4) (.tmp 10), 2, [], true⟩])
 .ret) (.seq (.region 2 [
  ⟨(some 12), none, .bin .eql (.tmp 6) (.const (.int .u8 4)), 0, [], true⟩,
  ⟨(some 11), none, .mv (.tmp 12), 1, [], true⟩])
 (.cond (.tmp 11) (.seq (.region 3 [
  ⟨(some 13), none, .mv (.tmp 0), 0, [], true⟩,
  ⟨(some 14), none, .build [(.int .u8 0), (.int .i64 0), (.int .i64 0), (.int .u64 0)] [(0, 1, (.const (.int .u8 5))), (1, 1, (.tmp 13))], 1, [], true⟩,
  ⟨none, none, .store 4 (.tmp 4) (.tmp 14), 2, [], true⟩])
 .ret) (.seq (.region 2 [
  ⟨(some 16), none, .bin .eql (.tmp 6) (.const (.int .u8 5)), 0, [], true⟩,
  ⟨(some 15), none, .mv (.tmp 16), 1, [], true⟩])
 (.cond (.tmp 15) (.seq (.region 3 [
  ⟨(some 17), none, .mv (.tmp 0), 0, [], true⟩,
  ⟨(some 18), none, .build [(.int .u8 0), (.int .i64 0), (.int .i64 0), (.int .u64 0)] [(0, 1, (.const (.int .u8 6))), (1, 1, (.tmp 17))], 1, [], true⟩,
  ⟨none, none, .store 4 (.tmp 4) (.tmp 18), 2, [], true⟩])
 .ret) .skip))))))))
 (.seq (.region 7 [
  ⟨(some 19), none, .mv (.tmp 0), 0, [], true⟩,
  ⟨(some 20), none, .fieldAddr 1 (.tmp 3), 1, [], true⟩,
  ⟨(some 21), none, .load 1 false (.tmp 20), 2, [], true⟩,
  ⟨(some 22), none, .fieldAddr 2 (.tmp 3), 3, [], true⟩,
  ⟨(some 23), none, .load 1 false (.tmp 22), 4, [], true⟩,
  ⟨(some 24), none, .build [(.int .u8 0), (.int .i64 0), (.int .i64 0), (.int .u64 0)] [(0, 1, (.const (.int .u8 3))), (1, 1, (.tmp 19)), (2, 1, (.tmp 21)), (3, 1, (.tmp 23))], 5, [], true⟩,
  ⟨none, none, .store 4 (.tmp 4) (.tmp 24), 6, [], true⟩])
 .ret)))⟩

def m109 : MFn := ⟨6, [(2, (some (1, false)))], (.seq (.region 1 [
  ⟨(some 2), none, .alloc [(.int .i64 0)] 42, 0, [], true⟩])
 (.seq (.region 2 [
  ⟨(some 3), none, .func (.func 151) [] [(.tmp 2)], 0, [], true⟩,
  ⟨none, none, .defer (.tmp 3) [], 1, [], true⟩])
 (.seq (.region 2 [
  ⟨(some 4), none, .mv (.tmp 0), 0, [], true⟩,
  ⟨(some 5), none, .call (.tmp 4) [], 1, [], true⟩])
 (.seq (.region 1 [
  ⟨none, none, .store 1 (.tmp 2) (.const (.int .i64 0)), 0, [], true⟩])
 .ret))))⟩

def m110 : MFn := ⟨15, [], (.seq (.region 3 [
  ⟨(some 2), none, .load 1 false (.tmp 0), 0, [], true⟩,
  ⟨(some 3), none, .eq true .ptr (.tmp 2) (.const (.pointer none)), 1, [], true⟩,
  ⟨(some 4), none, .call (.func 111) [(.tmp 3), (.const (.int .i64 1))], 2, [], true⟩])
 (.seq (.region 6 [
  ⟨(some 5), none, .load 1 false (.tmp 0), 0, [], true⟩,
  ⟨(some 6), none, .nilCheck (.tmp 5), 1, [], true⟩,
  ⟨(some 7), none, .fieldAddr 0 (.tmp 6), 2, [], true⟩,
  ⟨(some 8), none, .load 1 false (.tmp 7), 3, [], true⟩,
  ⟨(some 9), none, .eq false .ptr (.tmp 8) (.const (.pointer none)), 4, [], true⟩,
  ⟨(some 10), none, .call (.func 111) [(.tmp 9), (.const (.int .i64 7))], 5, [], true⟩])
 (.region 5 [
  ⟨(some 11), none, .load 1 false (.tmp 0), 0, [], true⟩,
  ⟨(some 12), none, .nilCheck (.tmp 11), 1, [], true⟩,
  ⟨(some 13), none, .fieldAddr 1 (.tmp 12), 2, [], true⟩,
  ⟨(some 14), none, .load 1 false (.tmp 13), 3, [], true⟩,
  ⟨none, none, .store 1 (.tmp 1) (.tmp 14), 4, [], true⟩])))⟩

def m111 : MFn := ⟨9, [], (.seq (.region 2 [
  ⟨(some 4), none, .mv (.tmp 0), 0, [], true⟩,
  ⟨(some 5), none, .un .not (.tmp 4), 1, [], true⟩])
 (.cond (.tmp 5) (.region 4 [
  ⟨(some 6), none, .mv (.tmp 1), 0, [], true⟩,
  ⟨(some 7), none, .build [(.int .i64 0)] [(0, 1, (.tmp 6))], 1, [], true⟩,
  ⟨(some 8), none, .iface 187 (.tmp 7), 2, [], true⟩,
  ⟨none, none, .panic (.tmp 8), 3, [], true⟩]) .skip))⟩

def m112 : MFn := ⟨9, [(4, none)], (.seq (.region 1 [
  ⟨(some 4), none, .mv (.const (.pointer none)), 0, [], true⟩])
 (.seq (.region 5 [
  ⟨(some 5), none, .mv (.tmp 1), 0, [], true⟩,
  ⟨(some 6), none, .mv (.tmp 0), 1, [], true⟩,
  ⟨(some 7), none, .build [(.slice none 0 0), (.pointer none)] [(0, 1, (.tmp 5)), (1, 1, (.tmp 6))], 2, [], true⟩,
  ⟨(some 8), none, .box 189 (.tmp 7), 3, [], true⟩,
  ⟨(some 4), none, .mv (.tmp 8), 4, [], true⟩])
 .ret))⟩

def m113 : MFn := ⟨9, [(2, none)], (.seq (.region 1 [
  ⟨(some 2), none, .mv (.const (.int .i64 0)), 0, [], true⟩])
 (.seq (.seq (.region 2 [
  ⟨(some 3), none, .mv (.tmp 0), 0, [], true⟩,
  ⟨(some 4), none, .eq false .ptr (.tmp 3) (.const (.pointer none)), 1, [], true⟩])
 (.cond (.tmp 4) (.seq (.region 1 [
  ⟨(some 2), none, .mv (.const (.int .i64 0)), 0, [], true⟩])
 .ret) .skip))
 (.seq (.region 5 [
  ⟨(some 5), none, .mv (.tmp 0), 0, [], true⟩,
  ⟨(some 6), none, .nilCheck (.tmp 5), 1, [], true⟩,
  ⟨(some 7), none, .fieldAddr 1 (.tmp 6), 2, [], true⟩,
  ⟨(some 8), none, .load 1 false (.tmp 7), 3, [], true⟩,
  ⟨(some 2), none, .mv (.tmp 8), 4, [], true⟩])
 .ret)))⟩

def m114 : MFn := ⟨10, [(4, none)], (.seq (.region 1 [
  ⟨(some 4), none, .mv (.const (.bool false)), 0, [], true⟩])
 (.seq (.region 6 [
  ⟨(some 5), none, .mv (.tmp 0), 0, [], true⟩,
  ⟨(some 6), none, .call (.func 152) [(.tmp 5)], 1, [], true⟩,
  ⟨(some 7), none, .mv (.tmp 1), 2, [], true⟩,
  ⟨(some 8), none, .call (.func 152) [(.tmp 7)], 3, [], true⟩,
  ⟨(some 9), none, .bin .eql (.tmp 6) (.tmp 8), 4, [], true⟩,
  ⟨(some 4), none, .mv (.tmp 9), 5, [], true⟩])
 .ret))⟩

def m115 : MFn := ⟨15, [(4, none)], (.seq (.region 1 [
  ⟨(some 4), none, .mv (.const (.bool false)), 0, [], true⟩])
 (.seq (.region 11 [
  ⟨(some 5), none, .mv (.tmp 0), 0, [], true⟩,
  ⟨(some 6), none, .eq true .ptr (.tmp 5) (.const (.pointer none)), 1, [], true⟩,
  ⟨(some 7), none, .mv (.tmp 6), 2, [], true⟩,
  ⟨(some 8), (some (7, true)), .mv (.tmp 0), 3, [], true⟩,
  ⟨(some 9), (some (7, true)), .nilCheck (.tmp 8), 4, [], true⟩,
  ⟨(some 10), (some (7, true)), .fieldAddr 1 (.tmp 9), 5, [], true⟩,
  ⟨(some 11), (some (7, true)), .load 1 false (.tmp 10), 6, [], true⟩,
  ⟨(some 12), (some (7, true)), .mv (.tmp 1), 7, [], true⟩,
  ⟨(some 13), (some (7, true)), .bin .eql (.tmp 11) (.tmp 12), 8, [], true⟩,
  ⟨(some 14), none, .pick (.tmp 7) (.tmp 13) (.const (.bool false)), 9, [], true⟩,
  ⟨(some 4), none, .mv (.tmp 14), 10, [], true⟩])
 .ret))⟩

def m116 : MFn := ⟨8, [(4, none)], (.seq (.region 1 [
  ⟨(some 4), none, .mv (.const (.int .i64 0)), 0, [], true⟩])
 (.seq (.region 4 [
  ⟨(some 5), none, .mv (.tmp 0), 0, [], true⟩,
  ⟨(some 6), none, .mv (.tmp 1), 1, [], true⟩,
  ⟨(some 7), none, .call (.func 153) [(.tmp 5), (.tmp 6), (.func 154)], 2, [], true⟩,
  ⟨(some 4), none, .mv (.tmp 7), 3, [], true⟩])
 .ret))⟩

def m117 : MFn := ⟨23, [(4, (some (7, true)))], (.seq (.region 1 [
  ⟨(some 4), none, .alloc [(.bool false), (.int .u64 0), (.bool false), (.int .i64 0), (.bool false), (.int .u8 0), (.int .i64 0)] 52, 0, [], true⟩])
 (.seq (.region 12 [
  ⟨(some 5), none, .mv (.tmp 0), 0, [], true⟩,
  ⟨(some 6), none, .mv (.tmp 0), 1, [], true⟩,
  ⟨(some 7), none, .nilCheck (.tmp 6), 2, [], true⟩,
  ⟨(some 8), none, .fieldAddr 2 (.tmp 7), 3, [], true⟩,
  ⟨(some 9), none, .load 1 false (.tmp 8), 4, [], true⟩,
  ⟨(some 10), none, .mv (.tmp 1), 5, [], true⟩,
  ⟨(some 11), none, .lookup .int (.pointer none) false (.tmp 9) (.tmp 10), 6, [], true⟩,
  ⟨(some 12), none, .nilCheck (.tmp 11), 7, [], true⟩,
  ⟨(some 13), none, .fieldAddr 2 (.tmp 12), 8, [], true⟩,
  ⟨(some 14), none, .load 1 false (.tmp 13), 9, [], true⟩,
  ⟨(some 15), none, .build [(.int .u8 0), (.int .i64 0), (.int .i64 0), (.int .u64 0)] [(0, 1, (.const (.int .u8 8))), (1, 1, (.tmp 14))], 10, [], true⟩,
  ⟨(some 16), none, .call (.func 67) [(.tmp 5), (.tmp 15)], 11, [], true⟩])
 (.seq (.region 6 [
  ⟨(some 17), none, .mv (.tmp 0), 0, [], true⟩,
  ⟨(some 18), none, .nilCheck (.tmp 17), 1, [], true⟩,
  ⟨(some 19), none, .fieldAddr 2 (.tmp 18), 2, [], true⟩,
  ⟨(some 20), none, .load 1 false (.tmp 19), 3, [], true⟩,
  ⟨(some 21), none, .mv (.tmp 1), 4, [], true⟩,
  ⟨none, none, .delete .int (.tmp 20) (.tmp 21), 5, [], true⟩])
 (.seq (.region 2 [
  ⟨(some 22), none, .build [(.bool false), (.int .u64 0), (.bool false), (.int .i64 0), (.bool false), (.int .u8 0), (.int .i64 0)] [(0, 1, (.const (.bool true))), (4, 1, (.const (.bool true)))], 0, [], true⟩,
  ⟨none, none, .store 7 (.tmp 4) (.tmp 22), 1, [], true⟩])
 .ret))))⟩

def m118 : MFn := ⟨9, [(6, none)], (.seq (.region 4 [
  ⟨(some 3), none, .box 76 (.tmp 0), 0, [], true⟩,
  ⟨(some 4), none, .box 3 (.tmp 1), 1, [], true⟩,
  ⟨(some 5), none, .box 34 (.tmp 2), 2, [], true⟩,
  ⟨(some 6), none, .mv (.const (.int .i64 0)), 3, [], true⟩])
 (.seq (.region 3 [
  ⟨(some 7), none, .func (.func 155) [] [(.tmp 3), (.tmp 4), (.tmp 5)], 0, [], true⟩,
  ⟨(some 8), none, .call (.func 109) [(.tmp 7)], 1, [], true⟩,
  ⟨(some 6), none, .mv (.tmp 8), 2, [], true⟩])
 .ret))⟩

def m119 : MFn := ⟨13, [(4, (some (7, true)))], (.seq (.region 1 [
  ⟨(some 4), none, .alloc [(.bool false), (.int .u64 0), (.bool false), (.int .i64 0), (.bool false), (.int .u8 0), (.int .i64 0)] 52, 0, [], true⟩])
 (.seq (.region 9 [
  ⟨(some 5), none, .mv (.tmp 0), 0, [], true⟩,
  ⟨(some 6), none, .mv (.tmp 0), 1, [], true⟩,
  ⟨(some 7), none, .mv (.tmp 1), 2, [], true⟩,
  ⟨(some 8), none, .nilCheck (.tmp 5), 3, [], true⟩,
  ⟨(some 9), none, .fieldAddr 7 (.tmp 8), 4, [], true⟩,
  ⟨none, none, .store 1 (.tmp 9) (.const (.int .i64 4)), 5, [], true⟩,
  ⟨(some 10), none, .nilCheck (.tmp 6), 6, [], true⟩,
  ⟨(some 11), none, .fieldAddr 8 (.tmp 10), 7, [], true⟩,
  ⟨none, none, .store 1 (.tmp 11) (.tmp 7), 8, [], true⟩])
 (.seq (.region 2 [
  ⟨(some 12), none, .build [(.bool false), (.int .u64 0), (.bool false), (.int .i64 0), (.bool false), (.int .u8 0), (.int .i64 0)] [], 0, [], true⟩,
  ⟨none, none, .store 7 (.tmp 4) (.tmp 12), 1, [], true⟩])
 .ret)))⟩

def m120 : MFn := ⟨8, [(4, none)], (.seq (.region 1 [
  ⟨(some 4), none, .mv (.const (.int .i64 0)), 0, [], true⟩])
 (.seq (.region 4 [
  ⟨(some 5), none, .mv (.tmp 0), 0, [], true⟩,
  ⟨(some 6), none, .mv (.tmp 1), 1, [], true⟩,
  ⟨(some 7), none, .call (.func 153) [(.tmp 5), (.tmp 6), (.func 156)], 2, [], true⟩,
  ⟨(some 4), none, .mv (.tmp 7), 3, [], true⟩])
 .ret))⟩

def m121 : MFn := ⟨4, [(2, none)], (.seq (.region 2 [
  ⟨(some 1), none, .box 143 (.tmp 0), 0, [], true⟩,
  ⟨(some 2), none, .mv (.const .nilFunc), 1, [], true⟩])
 (.seq (.region 2 [
  ⟨(some 3), none, .func (.func 157) [] [(.tmp 1)], 0, [], true⟩,
  ⟨(some 2), none, .mv (.tmp 3), 1, [], true⟩])
 .ret))⟩

def m122 : MFn := ⟨21, [(4, none), (5, none)], (.seq (.region 2 [
  ⟨(some 4), none, .mv (.const (.int .u64 0)), 0, [], true⟩,
  ⟨(some 5), none, .mv (.const (.bool false)), 1, [], true⟩])
 (.seq (.seq (.region 3 [
  ⟨(some 8), none, .mv (.tmp 0), 0, [], true⟩,
  ⟨(some 9), none, .len false (.tmp 8), 1, [], true⟩,
  ⟨(some 10), none, .mv (.const (.int .i64 0)), 2, [], true⟩])
 (.block 0 (.loop (.seq (.region 1 [
  ⟨(some 11), none, .bin .lss (.tmp 10) (.tmp 9), 0, [], true⟩])
 (.seq (.cond (.tmp 11) .skip (.exit 0))
 (.seq (.block 1 (.seq (.region 4 [
  ⟨(some 12), none, .adSl 2 (.tmp 8) (.tmp 10), 0, [], true⟩,
  ⟨(some 13), none, .load 2 true (.tmp 12), 1, [], true⟩,
  ⟨(some 7), none, .alloc [(.int .i64 0), (.int .u64 0)] 133, 2, [], true⟩,
  ⟨none, none, .store 2 (.tmp 7) (.tmp 13), 3, [], true⟩])
 (.seq (.region 4 [
  ⟨(some 14), none, .fieldAddr 0 (.tmp 7), 0, [], true⟩,
  ⟨(some 15), none, .load 1 false (.tmp 14), 1, [], true⟩,
  ⟨(some 16), none, .mv (.tmp 1), 2, [], true⟩,
  ⟨(some 17), none, .bin .eql (.tmp 15) (.tmp 16), 3, [], true⟩])
 (.cond (.tmp 17) (.seq (.region 4 [
  ⟨(some 18), none, .fieldAddr 1 (.tmp 7), 0, [], true⟩,
  ⟨(some 19), none, .load 1 false (.tmp 18), 1, [], true⟩,
  ⟨(some 4), none, .mv (.tmp 19), 2, [], true⟩,
  ⟨(some 5), none, .mv (.const (.bool true)), 3, [], true⟩])
 .ret) .skip))))
 (.region 2 [
  ⟨(some 20), none, .bin .add (.tmp 10) (.const (.int .i64 1)), 0, [], true⟩,
  ⟨(some 10), none, .mv (.tmp 20), 1, [], true⟩])))))))
 (.seq (.region 2 [
  ⟨(some 4), none, .mv (.const (.int .u64 0)), 0, [], true⟩,
  ⟨(some 5), none, .mv (.const (.bool false)), 1, [], true⟩])
 .ret)))⟩

def m123 : MFn := ⟨11, [(4, (some (7, true)))], (.seq (.region 1 [
  ⟨(some 4), none, .alloc [(.bool false), (.int .u64 0), (.bool false), (.int .i64 0), (.bool false), (.int .u8 0), (.int .i64 0)] 52, 0, [], true⟩])
 (.seq (.region 5 [
  ⟨(some 5), none, .mv (.tmp 0), 0, [], true⟩,
  ⟨(some 6), none, .build [(.int .u8 0), (.int .i64 0), (.int .u64 0)] [], 1, [], true⟩,
  ⟨(some 7), none, .nilCheck (.tmp 5), 2, [], true⟩,
  ⟨(some 8), none, .fieldAddr 4 (.tmp 7), 3, [], true⟩,
  ⟨none, none, .store 3 (.tmp 8) (.tmp 6), 4, [], true⟩])
 (.seq (.region 3 [
  ⟨(some 9), none, .mv (.tmp 1), 0, [], true⟩,
  ⟨(some 10), none, .build [(.bool false), (.int .u64 0), (.bool false), (.int .i64 0), (.bool false), (.int .u8 0), (.int .i64 0)] [(0, 1, (.const (.bool true))), (1, 1, (.tmp 9))], 1, [], true⟩,
  ⟨none, none, .store 7 (.tmp 4) (.tmp 10), 2, [], true⟩])
 .ret)))⟩

def m124 : MFn := ⟨64, [(4, none)], (.seq (.region 2 [
  ⟨(some 3), none, .box 131 (.tmp 1), 0, [], true⟩,
  ⟨(some 4), none, .mv (.const (.int .i64 0)), 1, [], true⟩])
 (.seq (.block 0 (.seq (.region 3 [
  ⟨(some 8), none, .mv (.tmp 0), 0, [], true⟩,
  ⟨(some 9), none, .eq false .ptr (.tmp 8) (.const (.pointer none)), 1, [], true⟩,
  ⟨(some 7), none, .mv (.tmp 9), 2, [], true⟩])
 (.cond (.tmp 7) (.seq (.region 1 [
  ⟨(some 4), none, .mv (.const (.int .i64 1)), 0, [], true⟩])
 .ret) (.seq (.region 14 [
  ⟨(some 11), none, .fieldAddr 0 (.tmp 3), 0, [], true⟩,
  ⟨(some 12), none, .load 1 false (.tmp 11), 1, [], true⟩,
  ⟨(some 13), none, .bin .lss (.tmp 12) (.const (.int .i64 0)), 2, [], true⟩,
  ⟨(some 14), none, .mv (.tmp 13), 3, [], true⟩,
  ⟨(some 15), (some (14, false)), .fieldAddr 0 (.tmp 3), 4, [], true⟩,
  ⟨(some 16), (some (14, false)), .load 1 false (.tmp 15), 5, [], true⟩,
  ⟨(some 17), (some (14, false)), .bin .geq (.tmp 16) (.const (.int .i64 12)), 6, [], true⟩,
  ⟨(some 18), none, .pick (.tmp 14) (.const (.bool true)) (.tmp 17), 7, [], true⟩,
  ⟨(some 19), none, .mv (.tmp 18), 8, [], true⟩,
  ⟨(some 20), (some (19, false)), .fieldAddr 2 (.tmp 3), 9, [], true⟩,
  ⟨(some 21), (some (19, false)), .load 1 false (.tmp 20), 10, [], true⟩,
  ⟨(some 22), (some (19, false)), .bin .gtr (.tmp 21) (.const (.int .u64 1099511627776)), 11, [], true⟩,
  ⟨(some 23), none, .pick (.tmp 19) (.const (.bool true)) (.tmp 22), 12, [], true⟩,
  ⟨(some 10), none, .mv (.tmp 23), 13, [], true⟩])
 (.cond (.tmp 10) (.seq (.region 1 [
  ⟨(some 4), none, .mv (.const (.int .i64 2)), 0, [], true⟩])
 .ret) (.seq (.region 5 [
  ⟨(some 25), none, .fieldAddr 1 (.tmp 3), 0, [], true⟩,
  ⟨(some 26), none, .load 1 false (.tmp 25), 1, [], true⟩,
  ⟨(some 27), none, .call (.func 86) [(.tmp 26)], 2, [], true⟩,
  ⟨(some 28), none, .un .not (.tmp 27), 3, [], true⟩,
  ⟨(some 24), none, .mv (.tmp 28), 4, [], true⟩])
 (.cond (.tmp 24) (.seq (.region 1 [
  ⟨(some 4), none, .mv (.const (.int .i64 3)), 0, [], true⟩])
 .ret) .skip)))))))
 (.seq (.seq (.region 13 [
  ⟨(some 30), none, .mv (.tmp 0), 0, [], true⟩,
  ⟨(some 31), none, .nilCheck (.tmp 30), 1, [], true⟩,
  ⟨(some 32), none, .fieldAddr 1 (.tmp 31), 2, [], true⟩,
  ⟨(some 33), none, .load 1 false (.tmp 32), 3, [], true⟩,
  ⟨(some 34), none, .fieldAddr 0 (.tmp 3), 4, [], false⟩,
  ⟨(some 35), none, .load 1 false (.tmp 34), 5, [], false⟩,
  ⟨(some 36), none, .lookup .int (.agg #[(.int .i64 0), (.int .u64 0), (.int .u64 0)]) true (.tmp 33) (.tmp 35), 6, [], true⟩,
  ⟨(some 29), none, .mv (.tmp 36), 7, [], true⟩,
  ⟨(some 37), none, .extract (.tmp 29) 0, 8, [], true⟩,
  ⟨(some 38), none, .extract (.tmp 29) 1, 9, [], false⟩,
  ⟨(some 5), none, .alloc [(.int .i64 0), (.int .u64 0), (.int .u64 0)] 131, 10, [], false⟩,
  ⟨none, none, .store 3 (.tmp 5) (.tmp 37), 11, [], false⟩,
  ⟨(some 6), none, .mv (.tmp 38), 12, [], true⟩])
 (.seq (.region 1 [
  ⟨(some 39), none, .mv (.tmp 6), 0, [], true⟩])
 (.cond (.tmp 39) (.seq (.region 1 [
  ⟨(some 4), none, .mv (.const (.int .i64 0)), 0, [], true⟩])
 .ret) .skip)))
 (.seq (.seq (.region 6 [
  ⟨(some 40), none, .mv (.tmp 0), 0, [], true⟩,
  ⟨(some 41), none, .nilCheck (.tmp 40), 1, [], true⟩,
  ⟨(some 42), none, .fieldAddr 0 (.tmp 41), 2, [], true⟩,
  ⟨(some 43), none, .load 1 false (.tmp 42), 3, [], true⟩,
  ⟨(some 44), none, .len false (.tmp 43), 4, [], true⟩,
  ⟨(some 45), none, .bin .geq (.tmp 44) (.const (.int .i64 8)), 5, [], true⟩])
 (.cond (.tmp 45) (.seq (.region 1 [
  ⟨(some 4), none, .mv (.const (.int .i64 4)), 0, [], true⟩])
 .ret) .skip))
 (.seq (.region 12 [
  ⟨(some 46), none, .mv (.tmp 0), 0, [], true⟩,
  ⟨(some 47), none, .mv (.tmp 0), 1, [], false⟩,
  ⟨(some 48), none, .nilCheck (.tmp 47), 2, [], false⟩,
  ⟨(some 49), none, .fieldAddr 0 (.tmp 48), 3, [], false⟩,
  ⟨(some 50), none, .load 1 false (.tmp 49), 4, [], false⟩,
  ⟨(some 51), none, .fieldAddr 0 (.tmp 3), 5, [], false⟩,
  ⟨(some 52), none, .load 1 false (.tmp 51), 6, [], false⟩,
  ⟨(some 53), none, .buildSl 3 1 1 [(.int .i64 0)] [(0, 1, (.tmp 52))], 7, [], false⟩,
  ⟨(some 54), none, .append 3 1 8 (.tmp 50) (.tmp 53), 8, [], false⟩,
  ⟨(some 55), none, .nilCheck (.tmp 46), 9, [], true⟩,
  ⟨(some 56), none, .fieldAddr 0 (.tmp 55), 10, [], true⟩,
  ⟨none, none, .store 1 (.tmp 56) (.tmp 54), 11, [], true⟩])
 (.seq (.region 8 [
  ⟨(some 57), none, .mv (.tmp 0), 0, [], true⟩,
  ⟨(some 58), none, .nilCheck (.tmp 57), 1, [], true⟩,
  ⟨(some 59), none, .fieldAddr 1 (.tmp 58), 2, [], true⟩,
  ⟨(some 60), none, .load 1 false (.tmp 59), 3, [], true⟩,
  ⟨(some 61), none, .fieldAddr 0 (.tmp 3), 4, [], false⟩,
  ⟨(some 62), none, .load 1 false (.tmp 61), 5, [], false⟩,
  ⟨(some 63), none, .load 3 true (.tmp 3), 6, [], false⟩,
  ⟨none, none, .mapSet .int (.tmp 60) (.tmp 62) (.tmp 63), 7, [], true⟩])
 (.seq (.region 1 [
  ⟨(some 4), none, .mv (.const (.int .i64 0)), 0, [], true⟩])
 .ret)))))))⟩

def m125 : MFn := ⟨27, [(2, none)], (.seq (.region 1 [
  ⟨(some 2), none, .mv (.const (.int .i64 0)), 0, [], true⟩])
 (.seq (.block 0 (.seq (.region 3 [
  ⟨(some 4), none, .mv (.tmp 0), 0, [], true⟩,
  ⟨(some 5), none, .eq false .ptr (.tmp 4) (.const (.pointer none)), 1, [], true⟩,
  ⟨(some 3), none, .mv (.tmp 5), 2, [], true⟩])
 (.cond (.tmp 3) (.seq (.region 1 [
  ⟨(some 2), none, .mv (.const (.int .i64 1)), 0, [], true⟩])
 .ret) (.seq (.region 6 [
  ⟨(some 7), none, .mv (.tmp 0), 0, [], true⟩,
  ⟨(some 8), none, .nilCheck (.tmp 7), 1, [], true⟩,
  ⟨(some 9), none, .fieldAddr 1 (.tmp 8), 2, [], true⟩,
  ⟨(some 10), none, .load 1 false (.tmp 9), 3, [], true⟩,
  ⟨(some 11), none, .bin .geq (.tmp 10) (.const (.int .i64 4)), 4, [], true⟩,
  ⟨(some 6), none, .mv (.tmp 11), 5, [], true⟩])
 (.cond (.tmp 6) (.seq (.region 1 [
  ⟨(some 2), none, .mv (.const (.int .i64 4)), 0, [], true⟩])
 .ret) .skip)))))
 (.seq (.region 9 [
  ⟨(some 12), none, .mv (.tmp 0), 0, [], true⟩,
  ⟨(some 13), none, .mv (.tmp 0), 1, [], true⟩,
  ⟨(some 14), none, .nilCheck (.tmp 13), 2, [], true⟩,
  ⟨(some 15), none, .fieldAddr 0 (.tmp 14), 3, [], true⟩,
  ⟨(some 16), none, .load 1 false (.tmp 15), 4, [], true⟩,
  ⟨(some 17), none, .call (.func 112) [(.tmp 16), (.const (.slice none 0 0))], 5, [], true⟩,
  ⟨(some 18), none, .nilCheck (.tmp 12), 6, [], true⟩,
  ⟨(some 19), none, .fieldAddr 0 (.tmp 18), 7, [], true⟩,
  ⟨none, none, .store 1 (.tmp 19) (.tmp 17), 8, [], true⟩])
 (.seq (.region 8 [
  ⟨(some 20), none, .mv (.tmp 0), 0, [], true⟩,
  ⟨(some 21), none, .nilCheck (.tmp 20), 1, [], true⟩,
  ⟨(some 22), none, .fieldAddr 1 (.tmp 21), 2, [], true⟩,
  ⟨(some 23), none, .load 1 false (.tmp 22), 3, [], true⟩,
  ⟨(some 24), none, .bin .add (.tmp 23) (.const (.int .i64 1)), 4, [], true⟩,
  ⟨(some 25), none, .nilCheck (.tmp 20), 5, [], true⟩,
  ⟨(some 26), none, .fieldAddr 1 (.tmp 25), 6, [], true⟩,
  ⟨none, none, .store 1 (.tmp 26) (.tmp 24), 7, [], true⟩])
 (.seq (.region 1 [
  ⟨(some 2), none, .mv (.const (.int .i64 0)), 0, [], true⟩])
 .ret)))))⟩

def m126 : MFn := ⟨11, [(2, none)], (.seq (.region 1 [
  ⟨(some 2), none, .mv (.const (.int .i64 0)), 0, [], true⟩])
 (.seq (.region 7 [
  ⟨(some 6), none, .mv (.tmp 0), 0, [], true⟩,
  ⟨(some 7), none, .call (.func 158) [(.tmp 6)], 1, [], true⟩,
  ⟨(some 5), none, .mv (.tmp 7), 2, [], true⟩,
  ⟨(some 8), none, .extract (.tmp 5) 0, 3, [], true⟩,
  ⟨(some 9), none, .extract (.tmp 5) 1, 4, [], true⟩,
  ⟨(some 3), none, .mv (.tmp 8), 5, [], true⟩,
  ⟨(some 4), none, .mv (.tmp 9), 6, [], true⟩])
 (.seq (.region 2 [
  ⟨(some 10), none, .mv (.tmp 4), 0, [], true⟩,
  ⟨(some 2), none, .mv (.tmp 10), 1, [], true⟩])
 .ret)))⟩

def m127 : MFn := ⟨45, [(2, none)], (.seq (.region 1 [
  ⟨(some 2), none, .mv (.const (.int .i64 0)), 0, [], true⟩])
 (.seq (.region 7 [
  ⟨(some 9), none, .mv (.tmp 0), 0, [], true⟩,
  ⟨(some 10), none, .call (.func 158) [(.tmp 9)], 1, [], true⟩,
  ⟨(some 8), none, .mv (.tmp 10), 2, [], true⟩,
  ⟨(some 11), none, .extract (.tmp 8) 0, 3, [], true⟩,
  ⟨(some 12), none, .extract (.tmp 8) 1, 4, [], true⟩,
  ⟨(some 3), none, .mv (.tmp 11), 5, [], true⟩,
  ⟨(some 4), none, .mv (.tmp 12), 6, [], true⟩])
 (.seq (.seq (.region 2 [
  ⟨(some 13), none, .mv (.tmp 4), 0, [], true⟩,
  ⟨(some 14), none, .bin .neq (.tmp 13) (.const (.int .i64 0)), 1, [], true⟩])
 (.cond (.tmp 14) (.seq (.region 2 [
  ⟨(some 15), none, .mv (.tmp 4), 0, [], true⟩,
  ⟨(some 2), none, .mv (.tmp 15), 1, [], true⟩])
 .ret) .skip))
 (.seq (.region 8 [
  ⟨(some 16), none, .mv (.tmp 0), 0, [], true⟩,
  ⟨(some 17), none, .nilCheck (.tmp 16), 1, [], true⟩,
  ⟨(some 18), none, .fieldAddr 0 (.tmp 17), 2, [], true⟩,
  ⟨(some 19), none, .load 1 false (.tmp 18), 3, [], true⟩,
  ⟨(some 20), none, .nilCheck (.tmp 19), 4, [], true⟩,
  ⟨(some 21), none, .fieldAddr 0 (.tmp 20), 5, [], true⟩,
  ⟨(some 22), none, .load 1 false (.tmp 21), 6, [], true⟩,
  ⟨(some 5), none, .mv (.tmp 22), 7, [], true⟩])
 (.seq (.seq (.region 3 [
  ⟨(some 23), none, .mv (.tmp 3), 0, [], true⟩,
  ⟨(some 24), none, .len false (.tmp 23), 1, [], true⟩,
  ⟨(some 25), none, .mv (.const (.int .i64 0)), 2, [], true⟩])
 (.block 0 (.loop (.seq (.region 1 [
  ⟨(some 26), none, .bin .lss (.tmp 25) (.tmp 24), 0, [], true⟩])
 (.seq (.cond (.tmp 26) .skip (.exit 0))
 (.seq (.block 1 (.seq (.region 4 [
  ⟨(some 27), none, .adSl 2 (.tmp 23) (.tmp 25), 0, [], true⟩,
  ⟨(some 28), none, .load 2 true (.tmp 27), 1, [], true⟩,
  ⟨(some 7), none, .alloc [(.int .i64 0), (.int .u64 0)] 133, 2, [], true⟩,
  ⟨none, none, .store 2 (.tmp 7) (.tmp 28), 3, [], true⟩])
 (.region 4 [
  ⟨(some 29), none, .mv (.tmp 5), 0, [], true⟩,
  ⟨(some 30), none, .load 2 true (.tmp 7), 1, [], true⟩,
  ⟨(some 31), none, .call (.func 159) [(.tmp 29), (.tmp 30)], 2, [], true⟩,
  ⟨(some 5), none, .mv (.tmp 31), 3, [], true⟩])))
 (.region 2 [
  ⟨(some 32), none, .bin .add (.tmp 25) (.const (.int .i64 1)), 0, [], true⟩,
  ⟨(some 25), none, .mv (.tmp 32), 1, [], true⟩])))))))
 (.seq (.region 13 [
  ⟨(some 33), none, .mv (.tmp 0), 0, [], true⟩,
  ⟨(some 34), none, .mv (.tmp 0), 1, [], true⟩,
  ⟨(some 35), none, .nilCheck (.tmp 34), 2, [], true⟩,
  ⟨(some 36), none, .fieldAddr 0 (.tmp 35), 3, [], true⟩,
  ⟨(some 37), none, .load 1 false (.tmp 36), 4, [], true⟩,
  ⟨(some 38), none, .nilCheck (.tmp 37), 5, [], true⟩,
  ⟨(some 39), none, .fieldAddr 1 (.tmp 38), 6, [], true⟩,
  ⟨(some 40), none, .load 1 false (.tmp 39), 7, [], true⟩,
  ⟨(some 41), none, .mv (.tmp 5), 8, [], true⟩,
  ⟨(some 42), none, .call (.func 112) [(.tmp 40), (.tmp 41)], 9, [], true⟩,
  ⟨(some 43), none, .nilCheck (.tmp 33), 10, [], true⟩,
  ⟨(some 44), none, .fieldAddr 0 (.tmp 43), 11, [], true⟩,
  ⟨none, none, .store 1 (.tmp 44) (.tmp 42), 12, [], true⟩])
 (.seq (.region 1 [
  ⟨(some 2), none, .mv (.const (.int .i64 0)), 0, [], true⟩])
 .ret)))))))⟩

def m128 : MFn := ⟨64, [(6, none)], (.seq (.region 1 [
  ⟨(some 6), none, .mv (.const (.int .i64 0)), 0, [], true⟩])
 (.seq (.block 0 (.seq (.region 3 [
  ⟨(some 10), none, .mv (.tmp 0), 0, [], true⟩,
  ⟨(some 11), none, .eq false .ptr (.tmp 10) (.const (.pointer none)), 1, [], true⟩,
  ⟨(some 9), none, .mv (.tmp 11), 2, [], true⟩])
 (.cond (.tmp 9) (.seq (.region 1 [
  ⟨(some 6), none, .mv (.const (.int .i64 1)), 0, [], true⟩])
 .ret) (.seq (.region 7 [
  ⟨(some 13), none, .mv (.tmp 1), 0, [], true⟩,
  ⟨(some 14), none, .bin .lss (.tmp 13) (.const (.int .i64 0)), 1, [], true⟩,
  ⟨(some 15), none, .mv (.tmp 14), 2, [], true⟩,
  ⟨(some 16), (some (15, false)), .mv (.tmp 1), 3, [], true⟩,
  ⟨(some 17), (some (15, false)), .bin .geq (.tmp 16) (.const (.int .i64 12)), 4, [], true⟩,
  ⟨(some 18), none, .pick (.tmp 15) (.const (.bool true)) (.tmp 17), 5, [], true⟩,
  ⟨(some 12), none, .mv (.tmp 18), 6, [], true⟩])
 (.cond (.tmp 12) (.seq (.region 1 [
  ⟨(some 6), none, .mv (.const (.int .i64 2)), 0, [], true⟩])
 .ret) (.seq (.region 4 [
  ⟨(some 20), none, .mv (.tmp 2), 0, [], true⟩,
  ⟨(some 21), none, .call (.func 86) [(.tmp 20)], 1, [], true⟩,
  ⟨(some 22), none, .un .not (.tmp 21), 2, [], true⟩,
  ⟨(some 19), none, .mv (.tmp 22), 3, [], true⟩])
 (.cond (.tmp 19) (.seq (.region 1 [
  ⟨(some 6), none, .mv (.const (.int .i64 3)), 0, [], true⟩])
 .ret) .skip)))))))
 (.seq (.seq (.region 14 [
  ⟨(some 24), none, .mv (.tmp 0), 0, [], true⟩,
  ⟨(some 25), none, .nilCheck (.tmp 24), 1, [], true⟩,
  ⟨(some 26), none, .fieldAddr 0 (.tmp 25), 2, [], true⟩,
  ⟨(some 27), none, .load 1 false (.tmp 26), 3, [], true⟩,
  ⟨(some 28), none, .nilCheck (.tmp 27), 4, [], true⟩,
  ⟨(some 29), none, .fieldAddr 0 (.tmp 28), 5, [], true⟩,
  ⟨(some 30), none, .load 1 false (.tmp 29), 6, [], true⟩,
  ⟨(some 31), none, .mv (.tmp 1), 7, [], true⟩,
  ⟨(some 32), none, .call (.func 122) [(.tmp 30), (.tmp 31)], 8, [], true⟩,
  ⟨(some 23), none, .mv (.tmp 32), 9, [], true⟩,
  ⟨(some 33), none, .extract (.tmp 23) 0, 10, [], true⟩,
  ⟨(some 34), none, .extract (.tmp 23) 1, 11, [], true⟩,
  ⟨(some 7), none, .mv (.tmp 33), 12, [], true⟩,
  ⟨(some 8), none, .mv (.tmp 34), 13, [], true⟩])
 (.seq (.region 7 [
  ⟨(some 35), none, .mv (.tmp 8), 0, [], true⟩,
  ⟨(some 36), none, .un .not (.tmp 35), 1, [], true⟩,
  ⟨(some 37), none, .mv (.tmp 36), 2, [], true⟩,
  ⟨(some 38), (some (37, true)), .mv (.tmp 0), 3, [], true⟩,
  ⟨(some 39), (some (37, true)), .call (.func 160) [(.tmp 38)], 4, [], true⟩,
  ⟨(some 40), (some (37, true)), .bin .geq (.tmp 39) (.const (.int .i64 16)), 5, [], true⟩,
  ⟨(some 41), none, .pick (.tmp 37) (.tmp 40) (.const (.bool false)), 6, [], true⟩])
 (.cond (.tmp 41) (.seq (.region 1 [
  ⟨(some 6), none, .mv (.const (.int .i64 4)), 0, [], true⟩])
 .ret) .skip)))
 (.seq (.region 23 [
  ⟨(some 42), none, .mv (.tmp 0), 0, [], true⟩,
  ⟨(some 43), none, .mv (.tmp 0), 1, [], false⟩,
  ⟨(some 44), none, .nilCheck (.tmp 43), 2, [], false⟩,
  ⟨(some 45), none, .fieldAddr 0 (.tmp 44), 3, [], false⟩,
  ⟨(some 46), none, .load 1 false (.tmp 45), 4, [], false⟩,
  ⟨(some 47), none, .nilCheck (.tmp 46), 5, [], false⟩,
  ⟨(some 48), none, .fieldAddr 1 (.tmp 47), 6, [], false⟩,
  ⟨(some 49), none, .load 1 false (.tmp 48), 7, [], false⟩,
  ⟨(some 50), none, .mv (.tmp 0), 8, [], false⟩,
  ⟨(some 51), none, .nilCheck (.tmp 50), 9, [], false⟩,
  ⟨(some 52), none, .fieldAddr 0 (.tmp 51), 10, [], false⟩,
  ⟨(some 53), none, .load 1 false (.tmp 52), 11, [], false⟩,
  ⟨(some 54), none, .nilCheck (.tmp 53), 12, [], false⟩,
  ⟨(some 55), none, .fieldAddr 0 (.tmp 54), 13, [], false⟩,
  ⟨(some 56), none, .load 1 false (.tmp 55), 14, [], false⟩,
  ⟨(some 57), none, .mv (.tmp 1), 15, [], false⟩,
  ⟨(some 58), none, .mv (.tmp 2), 16, [], false⟩,
  ⟨(some 59), none, .build [(.int .i64 0), (.int .u64 0)] [(0, 1, (.tmp 57)), (1, 1, (.tmp 58))], 17, [], false⟩,
  ⟨(some 60), none, .call (.func 159) [(.tmp 56), (.tmp 59)], 18, [(false, none, none, 4, .load 1 false (.tmp 45)), (false, none, none, 7, .load 1 false (.tmp 48))], false⟩,
  ⟨(some 61), none, .call (.func 112) [(.tmp 49), (.tmp 60)], 19, [], false⟩,
  ⟨(some 62), none, .nilCheck (.tmp 42), 20, [], true⟩,
  ⟨(some 63), none, .fieldAddr 0 (.tmp 62), 21, [], true⟩,
  ⟨none, none, .store 1 (.tmp 63) (.tmp 61), 22, [], true⟩])
 (.seq (.region 1 [
  ⟨(some 6), none, .mv (.const (.int .i64 0)), 0, [], true⟩])
 .ret)))))⟩

end Ev
