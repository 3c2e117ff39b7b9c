/- NorecNone: for every deed, every values and number the law returns true, and each argument reads as it did; by an evaluator of the compiled code that is proved sound for the model. Part 4 of 8. -/
import Derived.Test.YtmdkdjoifafifaaGreatNone3
set_option linter.unusedSimpArgs false
set_option linter.unusedVariables false

/- Compiled functions. -/
namespace Ev
open Go

def m129 : MFn := ⟨63, [], (.seq (.region 1 [
  ⟨(some 6), none, .mv (.const (.int .i64 20)), 0, [], true⟩])
 (.seq (.region 3 [
  ⟨(some 10), none, .mv (.tmp 6), 0, [], true⟩,
  ⟨(some 7), none, .mv (.const (.int .i64 0)), 1, [], true⟩,
  ⟨(some 8), none, .mv (.tmp 10), 2, [], true⟩])
 (.seq (.block 0 (.loop (.seq (.seq (.region 3 [
  ⟨(some 11), none, .mv (.tmp 8), 0, [], true⟩,
  ⟨(some 12), none, .mv (.tmp 1), 1, [], true⟩,
  ⟨(some 13), none, .bin .leq (.tmp 11) (.tmp 12), 2, [], true⟩])
 (.cond (.tmp 13) .skip (.exit 0)))
 (.block 1 (.seq (.region 5 [
  ⟨(some 14), none, .mv (.tmp 0), 0, [], true⟩,
  ⟨(some 15), none, .mv (.tmp 7), 1, [], true⟩,
  ⟨(some 16), none, .mv (.tmp 8), 2, [], true⟩,
  ⟨(some 17), none, .mv (.tmp 2), 3, [], true⟩,
  ⟨(some 18), none, .call (.func 161) [(.tmp 14), (.tmp 15), (.tmp 16), (.tmp 17)], 4, [], true⟩])
 (.seq (.region 2 [
  ⟨(some 19), none, .mv (.tmp 8), 0, [], true⟩,
  ⟨(some 7), none, .mv (.tmp 19), 1, [], true⟩])
 (.region 4 [
  ⟨(some 20), none, .mv (.tmp 8), 0, [], true⟩,
  ⟨(some 21), none, .mv (.tmp 6), 1, [], true⟩,
  ⟨(some 22), none, .bin .add (.tmp 20) (.tmp 21), 2, [], true⟩,
  ⟨(some 8), none, .mv (.tmp 22), 3, [], true⟩])))))))
 (.seq (.region 5 [
  ⟨(some 23), none, .mv (.tmp 0), 0, [], true⟩,
  ⟨(some 24), none, .mv (.tmp 7), 1, [], true⟩,
  ⟨(some 25), none, .mv (.tmp 1), 2, [], true⟩,
  ⟨(some 26), none, .mv (.tmp 2), 3, [], true⟩,
  ⟨(some 27), none, .call (.func 161) [(.tmp 23), (.tmp 24), (.tmp 25), (.tmp 26)], 4, [], true⟩])
 (.block 2 (.loop (.seq (.seq (.region 3 [
  ⟨(some 28), none, .mv (.tmp 6), 0, [], true⟩,
  ⟨(some 29), none, .mv (.tmp 1), 1, [], true⟩,
  ⟨(some 30), none, .bin .lss (.tmp 28) (.tmp 29), 2, [], true⟩])
 (.cond (.tmp 30) .skip (.exit 2)))
 (.block 3 (.seq (.region 4 [
  ⟨(some 31), none, .mv (.tmp 6), 0, [], true⟩,
  ⟨(some 32), none, .bin .mul (.const (.int .i64 2)) (.tmp 31), 1, [], true⟩,
  ⟨(some 7), none, .mv (.const (.int .i64 0)), 2, [], true⟩,
  ⟨(some 8), none, .mv (.tmp 32), 3, [], true⟩])
 (.seq (.block 4 (.loop (.seq (.seq (.region 3 [
  ⟨(some 33), none, .mv (.tmp 8), 0, [], true⟩,
  ⟨(some 34), none, .mv (.tmp 1), 1, [], true⟩,
  ⟨(some 35), none, .bin .leq (.tmp 33) (.tmp 34), 2, [], true⟩])
 (.cond (.tmp 35) .skip (.exit 4)))
 (.block 5 (.seq (.region 8 [
  ⟨(some 36), none, .mv (.tmp 0), 0, [], true⟩,
  ⟨(some 37), none, .mv (.tmp 7), 1, [], true⟩,
  ⟨(some 38), none, .mv (.tmp 7), 2, [], true⟩,
  ⟨(some 39), none, .mv (.tmp 6), 3, [], true⟩,
  ⟨(some 40), none, .bin .add (.tmp 38) (.tmp 39), 4, [], true⟩,
  ⟨(some 41), none, .mv (.tmp 8), 5, [], true⟩,
  ⟨(some 42), none, .mv (.tmp 2), 6, [], true⟩,
  ⟨(some 43), none, .call (.func 162) [(.tmp 36), (.tmp 37), (.tmp 40), (.tmp 41), (.tmp 42)], 7, [], true⟩])
 (.seq (.region 2 [
  ⟨(some 44), none, .mv (.tmp 8), 0, [], true⟩,
  ⟨(some 7), none, .mv (.tmp 44), 1, [], true⟩])
 (.region 5 [
  ⟨(some 45), none, .mv (.tmp 8), 0, [], true⟩,
  ⟨(some 46), none, .mv (.tmp 6), 1, [], true⟩,
  ⟨(some 47), none, .bin .mul (.const (.int .i64 2)) (.tmp 46), 2, [], true⟩,
  ⟨(some 48), none, .bin .add (.tmp 45) (.tmp 47), 3, [], true⟩,
  ⟨(some 8), none, .mv (.tmp 48), 4, [], true⟩])))))))
 (.seq (.seq (.region 4 [
  ⟨(some 49), none, .mv (.tmp 7), 0, [], true⟩,
  ⟨(some 50), none, .mv (.tmp 6), 1, [], true⟩,
  ⟨(some 51), none, .bin .add (.tmp 49) (.tmp 50), 2, [], true⟩,
  ⟨(some 9), none, .mv (.tmp 51), 3, [], true⟩])
 (.seq (.region 3 [
  ⟨(some 52), none, .mv (.tmp 9), 0, [], true⟩,
  ⟨(some 53), none, .mv (.tmp 1), 1, [], true⟩,
  ⟨(some 54), none, .bin .lss (.tmp 52) (.tmp 53), 2, [], true⟩])
 (.cond (.tmp 54) (.region 6 [
  ⟨(some 55), none, .mv (.tmp 0), 0, [], true⟩,
  ⟨(some 56), none, .mv (.tmp 7), 1, [], true⟩,
  ⟨(some 57), none, .mv (.tmp 9), 2, [], true⟩,
  ⟨(some 58), none, .mv (.tmp 1), 3, [], true⟩,
  ⟨(some 59), none, .mv (.tmp 2), 4, [], true⟩,
  ⟨(some 60), none, .call (.func 162) [(.tmp 55), (.tmp 56), (.tmp 57), (.tmp 58), (.tmp 59)], 5, [], true⟩]) .skip)))
 (.region 3 [
  ⟨(some 61), none, .mv (.tmp 6), 0, [], true⟩,
  ⟨(some 62), none, .bin .mul (.tmp 61) (.const (.int .i64 2)), 1, [], true⟩,
  ⟨(some 6), none, .mv (.tmp 62), 2, [], true⟩]))))))))))))⟩

def m130 : MFn := ⟨6, [(2, none)], (.seq (.region 1 [
  ⟨(some 2), none, .mv (.const (.bool false)), 0, [], true⟩])
 (.seq (.region 4 [
  ⟨(some 3), none, .mv (.tmp 0), 0, [], true⟩,
  ⟨(some 4), none, .mv (.tmp 0), 1, [], true⟩,
  ⟨(some 5), none, .bin .neq (.tmp 3) (.tmp 4), 2, [], true⟩,
  ⟨(some 2), none, .mv (.tmp 5), 3, [], true⟩])
 .ret))⟩

def m131 : MFn := ⟨134, [], (.seq (.region 1 [
  ⟨(some 8), none, .mv (.const (.bool true)), 0, [], true⟩])
 (.seq (.region 1 [
  ⟨(some 9), none, .mv (.const (.bool true)), 0, [], true⟩])
 (.block 0 (.loop (.block 1 (.seq (.region 4 [
  ⟨(some 19), none, .mv (.tmp 2), 0, [], true⟩,
  ⟨(some 20), none, .mv (.tmp 1), 1, [], true⟩,
  ⟨(some 21), none, .bin .sub (.tmp 19) (.tmp 20), 2, [], true⟩,
  ⟨(some 10), none, .mv (.tmp 21), 3, [], true⟩])
 (.seq (.seq (.region 2 [
  ⟨(some 22), none, .mv (.tmp 10), 0, [], true⟩,
  ⟨(some 23), none, .bin .leq (.tmp 22) (.const (.int .i64 12)), 1, [], true⟩])
 (.cond (.tmp 23) (.seq (.region 4 [
  ⟨(some 24), none, .mv (.tmp 0), 0, [], true⟩,
  ⟨(some 25), none, .mv (.tmp 1), 1, [], true⟩,
  ⟨(some 26), none, .mv (.tmp 2), 2, [], true⟩,
  ⟨(some 27), none, .call (.func 163) [(.tmp 24), (.tmp 25), (.tmp 26)], 3, [], true⟩])
 .ret) .skip))
 (.seq (.seq (.region 2 [
  ⟨(some 28), none, .mv (.tmp 3), 0, [], true⟩,
  ⟨(some 29), none, .bin .eql (.tmp 28) (.const (.int .i64 0)), 1, [], true⟩])
 (.cond (.tmp 29) (.seq (.region 4 [
  ⟨(some 30), none, .mv (.tmp 0), 0, [], true⟩,
  ⟨(some 31), none, .mv (.tmp 1), 1, [], true⟩,
  ⟨(some 32), none, .mv (.tmp 2), 2, [], true⟩,
  ⟨(some 33), none, .call (.func 164) [(.tmp 30), (.tmp 31), (.tmp 32)], 3, [], true⟩])
 .ret) .skip))
 (.seq (.seq (.region 2 [
  ⟨(some 34), none, .mv (.tmp 8), 0, [], true⟩,
  ⟨(some 35), none, .un .not (.tmp 34), 1, [], true⟩])
 (.cond (.tmp 35) (.seq (.region 4 [
  ⟨(some 36), none, .mv (.tmp 0), 0, [], true⟩,
  ⟨(some 37), none, .mv (.tmp 1), 1, [], true⟩,
  ⟨(some 38), none, .mv (.tmp 2), 2, [], true⟩,
  ⟨(some 39), none, .call (.func 165) [(.tmp 36), (.tmp 37), (.tmp 38)], 3, [], true⟩])
 (.region 3 [
  ⟨(some 40), none, .mv (.tmp 3), 0, [], true⟩,
  ⟨(some 41), none, .bin .sub (.tmp 40) (.const (.int .i64 1)), 1, [], true⟩,
  ⟨(some 3), none, .mv (.tmp 41), 2, [], true⟩])) .skip))
 (.seq (.region 9 [
  ⟨(some 43), none, .mv (.tmp 0), 0, [], true⟩,
  ⟨(some 44), none, .mv (.tmp 1), 1, [], true⟩,
  ⟨(some 45), none, .mv (.tmp 2), 2, [], true⟩,
  ⟨(some 46), none, .call (.func 166) [(.tmp 43), (.tmp 44), (.tmp 45)], 3, [], true⟩,
  ⟨(some 42), none, .mv (.tmp 46), 4, [], true⟩,
  ⟨(some 47), none, .extract (.tmp 42) 0, 5, [], true⟩,
  ⟨(some 48), none, .extract (.tmp 42) 1, 6, [], true⟩,
  ⟨(some 11), none, .mv (.tmp 47), 7, [], true⟩,
  ⟨(some 12), none, .mv (.tmp 48), 8, [], true⟩])
 (.seq (.seq (.region 2 [
  ⟨(some 49), none, .mv (.tmp 12), 0, [], true⟩,
  ⟨(some 50), none, .bin .eql (.tmp 49) (.const (.int .i64 2)), 1, [], true⟩])
 (.cond (.tmp 50) (.seq (.region 4 [
  ⟨(some 51), none, .mv (.tmp 0), 0, [], true⟩,
  ⟨(some 52), none, .mv (.tmp 1), 1, [], true⟩,
  ⟨(some 53), none, .mv (.tmp 2), 2, [], true⟩,
  ⟨(some 54), none, .call (.func 167) [(.tmp 51), (.tmp 52), (.tmp 53)], 3, [], true⟩])
 (.seq (.region 7 [
  ⟨(some 55), none, .mv (.tmp 2), 0, [], true⟩,
  ⟨(some 56), none, .bin .sub (.tmp 55) (.const (.int .i64 1)), 1, [], true⟩,
  ⟨(some 57), none, .mv (.tmp 11), 2, [], true⟩,
  ⟨(some 58), none, .mv (.tmp 1), 3, [], true⟩,
  ⟨(some 59), none, .bin .sub (.tmp 57) (.tmp 58), 4, [], true⟩,
  ⟨(some 60), none, .bin .sub (.tmp 56) (.tmp 59), 5, [], true⟩,
  ⟨(some 11), none, .mv (.tmp 60), 6, [], true⟩])
 (.region 1 [
  ⟨(some 12), none, .mv (.const (.int .i64 1)), 0, [], true⟩]))) .skip))
 (.seq (.seq (.region 8 [
  ⟨(some 61), none, .mv (.tmp 8), 0, [], true⟩,
  ⟨(some 62), none, .mv (.tmp 61), 1, [], true⟩,
  ⟨(some 63), (some (62, true)), .mv (.tmp 9), 2, [], true⟩,
  ⟨(some 64), none, .pick (.tmp 62) (.tmp 63) (.const (.bool false)), 3, [], true⟩,
  ⟨(some 65), none, .mv (.tmp 64), 4, [], true⟩,
  ⟨(some 66), (some (65, true)), .mv (.tmp 12), 5, [], true⟩,
  ⟨(some 67), (some (65, true)), .bin .eql (.tmp 66) (.const (.int .i64 1)), 6, [], true⟩,
  ⟨(some 68), none, .pick (.tmp 65) (.tmp 67) (.const (.bool false)), 7, [], true⟩])
 (.cond (.tmp 68) (.seq (.region 4 [
  ⟨(some 69), none, .mv (.tmp 0), 0, [], true⟩,
  ⟨(some 70), none, .mv (.tmp 1), 1, [], true⟩,
  ⟨(some 71), none, .mv (.tmp 2), 2, [], true⟩,
  ⟨(some 72), none, .call (.func 168) [(.tmp 69), (.tmp 70), (.tmp 71)], 3, [], true⟩])
 (.cond (.tmp 72) .ret .skip)) .skip))
 (.seq (.seq (.region 15 [
  ⟨(some 73), none, .mv (.tmp 1), 0, [], true⟩,
  ⟨(some 74), none, .bin .gtr (.tmp 73) (.const (.int .i64 0)), 1, [], true⟩,
  ⟨(some 75), none, .mv (.tmp 74), 2, [], true⟩,
  ⟨(some 76), (some (75, true)), .mv (.tmp 0), 3, [], true⟩,
  ⟨(some 77), (some (75, true)), .mv (.tmp 1), 4, [], false⟩,
  ⟨(some 78), (some (75, true)), .bin .sub (.tmp 77) (.const (.int .i64 1)), 5, [], false⟩,
  ⟨(some 79), (some (75, true)), .adSl 1 (.tmp 76) (.tmp 78), 6, [], true⟩,
  ⟨(some 80), (some (75, true)), .load 1 false (.tmp 79), 7, [], true⟩,
  ⟨(some 81), (some (75, true)), .mv (.tmp 0), 8, [], false⟩,
  ⟨(some 82), (some (75, true)), .mv (.tmp 11), 9, [], false⟩,
  ⟨(some 83), (some (75, true)), .adSl 1 (.tmp 81) (.tmp 82), 10, [], false⟩,
  ⟨(some 84), (some (75, true)), .load 1 false (.tmp 83), 11, [], false⟩,
  ⟨(some 85), (some (75, true)), .call (.func 169) [(.tmp 80), (.tmp 84)], 12, [], true⟩,
  ⟨(some 86), (some (75, true)), .un .not (.tmp 85), 13, [], true⟩,
  ⟨(some 87), none, .pick (.tmp 75) (.tmp 86) (.const (.bool false)), 14, [], true⟩])
 (.cond (.tmp 87) (.seq (.region 6 [
  ⟨(some 88), none, .mv (.tmp 0), 0, [], true⟩,
  ⟨(some 89), none, .mv (.tmp 1), 1, [], true⟩,
  ⟨(some 90), none, .mv (.tmp 2), 2, [], true⟩,
  ⟨(some 91), none, .mv (.tmp 11), 3, [], true⟩,
  ⟨(some 92), none, .call (.func 170) [(.tmp 88), (.tmp 89), (.tmp 90), (.tmp 91)], 4, [], true⟩,
  ⟨(some 13), none, .mv (.tmp 92), 5, [], true⟩])
 (.seq (.region 2 [
  ⟨(some 93), none, .mv (.tmp 13), 0, [], true⟩,
  ⟨(some 1), none, .mv (.tmp 93), 1, [], true⟩])
 (.exit 1))) .skip))
 (.seq (.region 10 [
  ⟨(some 95), none, .mv (.tmp 0), 0, [], true⟩,
  ⟨(some 96), none, .mv (.tmp 1), 1, [], true⟩,
  ⟨(some 97), none, .mv (.tmp 2), 2, [], true⟩,
  ⟨(some 98), none, .mv (.tmp 11), 3, [], true⟩,
  ⟨(some 99), none, .call (.func 171) [(.tmp 95), (.tmp 96), (.tmp 97), (.tmp 98)], 4, [], true⟩,
  ⟨(some 94), none, .mv (.tmp 99), 5, [], true⟩,
  ⟨(some 100), none, .extract (.tmp 94) 0, 6, [], true⟩,
  ⟨(some 101), none, .extract (.tmp 94) 1, 7, [], true⟩,
  ⟨(some 14), none, .mv (.tmp 100), 8, [], true⟩,
  ⟨(some 15), none, .mv (.tmp 101), 9, [], true⟩])
 (.seq (.region 2 [
  ⟨(some 102), none, .mv (.tmp 15), 0, [], true⟩,
  ⟨(some 9), none, .mv (.tmp 102), 1, [], true⟩])
 (.seq (.region 8 [
  ⟨(some 103), none, .mv (.tmp 14), 0, [], true⟩,
  ⟨(some 104), none, .mv (.tmp 1), 1, [], true⟩,
  ⟨(some 105), none, .bin .sub (.tmp 103) (.tmp 104), 2, [], true⟩,
  ⟨(some 106), none, .mv (.tmp 2), 3, [], true⟩,
  ⟨(some 107), none, .mv (.tmp 14), 4, [], true⟩,
  ⟨(some 108), none, .bin .sub (.tmp 106) (.tmp 107), 5, [], true⟩,
  ⟨(some 16), none, .mv (.tmp 105), 6, [], true⟩,
  ⟨(some 17), none, .mv (.tmp 108), 7, [], true⟩])
 (.seq (.region 3 [
  ⟨(some 109), none, .mv (.tmp 10), 0, [], true⟩,
  ⟨(some 110), none, .bin .quo (.tmp 109) (.const (.int .i64 8)), 1, [], true⟩,
  ⟨(some 18), none, .mv (.tmp 110), 2, [], true⟩])
 (.seq (.region 3 [
  ⟨(some 111), none, .mv (.tmp 16), 0, [], true⟩,
  ⟨(some 112), none, .mv (.tmp 17), 1, [], true⟩,
  ⟨(some 113), none, .bin .lss (.tmp 111) (.tmp 112), 2, [], true⟩])
 (.cond (.tmp 113) (.seq (.region 4 [
  ⟨(some 114), none, .mv (.tmp 16), 0, [], true⟩,
  ⟨(some 115), none, .mv (.tmp 18), 1, [], true⟩,
  ⟨(some 116), none, .bin .geq (.tmp 114) (.tmp 115), 2, [], true⟩,
  ⟨(some 8), none, .mv (.tmp 116), 3, [], true⟩])
 (.seq (.region 5 [
  ⟨(some 117), none, .mv (.tmp 0), 0, [], true⟩,
  ⟨(some 118), none, .mv (.tmp 1), 1, [], true⟩,
  ⟨(some 119), none, .mv (.tmp 14), 2, [], true⟩,
  ⟨(some 120), none, .mv (.tmp 3), 3, [], true⟩,
  ⟨(some 121), none, .call (.func 131) [(.tmp 117), (.tmp 118), (.tmp 119), (.tmp 120)], 4, [], true⟩])
 (.region 3 [
  ⟨(some 122), none, .mv (.tmp 14), 0, [], true⟩,
  ⟨(some 123), none, .bin .add (.tmp 122) (.const (.int .i64 1)), 1, [], true⟩,
  ⟨(some 1), none, .mv (.tmp 123), 2, [], true⟩]))) (.seq (.region 4 [
  ⟨(some 124), none, .mv (.tmp 17), 0, [], true⟩,
  ⟨(some 125), none, .mv (.tmp 18), 1, [], true⟩,
  ⟨(some 126), none, .bin .geq (.tmp 124) (.tmp 125), 2, [], true⟩,
  ⟨(some 8), none, .mv (.tmp 126), 3, [], true⟩])
 (.seq (.region 6 [
  ⟨(some 127), none, .mv (.tmp 0), 0, [], true⟩,
  ⟨(some 128), none, .mv (.tmp 14), 1, [], true⟩,
  ⟨(some 129), none, .bin .add (.tmp 128) (.const (.int .i64 1)), 2, [], true⟩,
  ⟨(some 130), none, .mv (.tmp 2), 3, [], true⟩,
  ⟨(some 131), none, .mv (.tmp 3), 4, [], true⟩,
  ⟨(some 132), none, .call (.func 131) [(.tmp 127), (.tmp 129), (.tmp 130), (.tmp 131)], 5, [], true⟩])
 (.region 2 [
  ⟨(some 133), none, .mv (.tmp 14), 0, [], true⟩,
  ⟨(some 2), none, .mv (.tmp 133), 1, [], true⟩]))))))))))))))))))))))⟩

def m132 : MFn := ⟨8, [(2, none)], (.seq (.region 1 [
  ⟨(some 2), none, .mv (.const (.int .i64 0)), 0, [], true⟩])
 (.seq (.cond (.const (.bool false)) (.seq (.region 4 [
  ⟨(some 3), none, .mv (.tmp 0), 0, [], true⟩,
  ⟨(some 4), none, .conv .u32 (.tmp 3), 1, [], true⟩,
  ⟨(some 5), none, .call (.func 172) [(.tmp 4)], 2, [], true⟩,
  ⟨(some 2), none, .mv (.tmp 5), 3, [], true⟩])
 .ret) .skip)
 (.seq (.region 3 [
  ⟨(some 6), none, .mv (.tmp 0), 0, [], true⟩,
  ⟨(some 7), none, .call (.func 173) [(.tmp 6)], 1, [], true⟩,
  ⟨(some 2), none, .mv (.tmp 7), 2, [], true⟩])
 .ret)))⟩

def m133 : MFn := ⟨34, [(4, none), (5, none)], (.seq (.region 2 [
  ⟨(some 4), none, .mv (.const (.int .i64 0)), 0, [], true⟩,
  ⟨(some 5), none, .mv (.const (.bool false)), 1, [], true⟩])
 (.seq (.seq (.region 4 [
  ⟨(some 8), none, .mv (.tmp 0), 0, [], true⟩,
  ⟨(some 9), none, .call (.func 81) [(.tmp 8)], 1, [], true⟩,
  ⟨(some 10), none, .len false (.tmp 9), 2, [], true⟩,
  ⟨(some 11), none, .mv (.const (.int .i64 0)), 3, [], true⟩])
 (.block 0 (.loop (.seq (.region 1 [
  ⟨(some 12), none, .bin .lss (.tmp 11) (.tmp 10), 0, [], true⟩])
 (.seq (.cond (.tmp 12) .skip (.exit 0))
 (.seq (.block 1 (.seq (.region 4 [
  ⟨(some 13), none, .adSl 3 (.tmp 9) (.tmp 11), 0, [], true⟩,
  ⟨(some 14), none, .load 3 true (.tmp 13), 1, [], true⟩,
  ⟨(some 7), none, .alloc [(.int .i64 0), (.int .u64 0), (.int .u64 0)] 131, 2, [], true⟩,
  ⟨none, none, .store 3 (.tmp 7) (.tmp 14), 3, [], true⟩])
 (.seq (.region 16 [
  ⟨(some 15), none, .fieldAddr 0 (.tmp 7), 0, [], true⟩,
  ⟨(some 16), none, .load 1 false (.tmp 15), 1, [], true⟩,
  ⟨(some 17), none, .mv (.tmp 1), 2, [], false⟩,
  ⟨(some 18), none, .len false (.tmp 17), 3, [], false⟩,
  ⟨(some 19), none, .bin .geq (.tmp 16) (.tmp 18), 4, [], true⟩,
  ⟨(some 20), none, .mv (.tmp 19), 5, [], true⟩,
  ⟨(some 21), (some (20, false)), .mv (.tmp 1), 6, [], true⟩,
  ⟨(some 22), (some (20, false)), .fieldAddr 0 (.tmp 7), 7, [], false⟩,
  ⟨(some 23), (some (20, false)), .load 1 false (.tmp 22), 8, [], false⟩,
  ⟨(some 24), (some (20, false)), .adSl 1 (.tmp 21) (.tmp 23), 9, [], true⟩,
  ⟨(some 25), (some (20, false)), .load 1 false (.tmp 24), 10, [], true⟩,
  ⟨(some 26), (some (20, false)), .fieldAddr 1 (.tmp 7), 11, [], false⟩,
  ⟨(some 27), (some (20, false)), .load 1 false (.tmp 26), 12, [], false⟩,
  ⟨(some 28), (some (20, false)), .call (.func 114) [(.tmp 25), (.tmp 27)], 13, [], true⟩,
  ⟨(some 29), (some (20, false)), .un .not (.tmp 28), 14, [], true⟩,
  ⟨(some 30), none, .pick (.tmp 20) (.const (.bool true)) (.tmp 29), 15, [], true⟩])
 (.cond (.tmp 30) (.seq (.region 4 [
  ⟨(some 31), none, .fieldAddr 0 (.tmp 7), 0, [], true⟩,
  ⟨(some 32), none, .load 1 false (.tmp 31), 1, [], true⟩,
  ⟨(some 4), none, .mv (.tmp 32), 2, [], true⟩,
  ⟨(some 5), none, .mv (.const (.bool true)), 3, [], true⟩])
 .ret) .skip))))
 (.region 2 [
  ⟨(some 33), none, .bin .add (.tmp 11) (.const (.int .i64 1)), 0, [], true⟩,
  ⟨(some 11), none, .mv (.tmp 33), 1, [], true⟩])))))))
 (.seq (.region 2 [
  ⟨(some 4), none, .mv (.const (.int .i64 0)), 0, [], true⟩,
  ⟨(some 5), none, .mv (.const (.bool false)), 1, [], true⟩])
 .ret)))⟩

def m135 : MFn := ⟨47, [(4, none), (5, none)], (.seq (.region 2 [
  ⟨(some 4), none, .mv (.const (.int .u64 0)), 0, [], true⟩,
  ⟨(some 5), none, .mv (.const (.bool false)), 1, [], true⟩])
 (.seq (.seq (.region 10 [
  ⟨(some 7), none, .mv (.tmp 0), 0, [], true⟩,
  ⟨(some 8), none, .eq false .ptr (.tmp 7) (.const (.pointer none)), 1, [], true⟩,
  ⟨(some 9), none, .mv (.tmp 8), 2, [], true⟩,
  ⟨(some 10), (some (9, false)), .mv (.tmp 1), 3, [], true⟩,
  ⟨(some 11), (some (9, false)), .bin .lss (.tmp 10) (.const (.int .i64 0)), 4, [], true⟩,
  ⟨(some 12), none, .pick (.tmp 9) (.const (.bool true)) (.tmp 11), 5, [], true⟩,
  ⟨(some 13), none, .mv (.tmp 12), 6, [], true⟩,
  ⟨(some 14), (some (13, false)), .mv (.tmp 1), 7, [], true⟩,
  ⟨(some 15), (some (13, false)), .bin .geq (.tmp 14) (.const (.int .i64 12)), 8, [], true⟩,
  ⟨(some 16), none, .pick (.tmp 13) (.const (.bool true)) (.tmp 15), 9, [], true⟩])
 (.cond (.tmp 16) (.seq (.region 2 [
  ⟨(some 4), none, .mv (.const (.int .u64 0)), 0, [], true⟩,
  ⟨(some 5), none, .mv (.const (.bool false)), 1, [], true⟩])
 .ret) .skip))
 (.seq (.seq (.region 7 [
  ⟨(some 17), none, .mv (.tmp 0), 0, [], true⟩,
  ⟨(some 18), none, .nilCheck (.tmp 17), 1, [], true⟩,
  ⟨(some 19), none, .fieldAddr 0 (.tmp 18), 2, [], true⟩,
  ⟨(some 20), none, .load 1 false (.tmp 19), 3, [], true⟩,
  ⟨(some 21), none, .len false (.tmp 20), 4, [], true⟩,
  ⟨(some 22), none, .bin .sub (.tmp 21) (.const (.int .i64 1)), 5, [], true⟩,
  ⟨(some 6), none, .mv (.tmp 22), 6, [], true⟩])
 (.block 0 (.loop (.seq (.seq (.region 2 [
  ⟨(some 23), none, .mv (.tmp 6), 0, [], true⟩,
  ⟨(some 24), none, .bin .geq (.tmp 23) (.const (.int .i64 0)), 1, [], true⟩])
 (.cond (.tmp 24) .skip (.exit 0)))
 (.seq (.block 1 (.seq (.region 10 [
  ⟨(some 27), none, .mv (.tmp 0), 0, [], true⟩,
  ⟨(some 28), none, .nilCheck (.tmp 27), 1, [], true⟩,
  ⟨(some 29), none, .fieldAddr 0 (.tmp 28), 2, [], true⟩,
  ⟨(some 30), none, .load 1 false (.tmp 29), 3, [], true⟩,
  ⟨(some 31), none, .mv (.tmp 6), 4, [], true⟩,
  ⟨(some 32), none, .mv (.tmp 1), 5, [], true⟩,
  ⟨(some 33), none, .adSl 24 (.tmp 30) (.tmp 31), 6, [], true⟩,
  ⟨(some 34), none, .fieldAddr 0 (.tmp 33), 7, [], true⟩,
  ⟨(some 35), none, .adArr 12 1 (.tmp 34) (.tmp 32), 8, [], true⟩,
  ⟨(some 36), none, .load 1 false (.tmp 35), 9, [], true⟩])
 (.cond (.tmp 36) (.seq (.region 12 [
  ⟨(some 37), none, .mv (.tmp 0), 0, [], true⟩,
  ⟨(some 38), none, .nilCheck (.tmp 37), 1, [], true⟩,
  ⟨(some 39), none, .fieldAddr 0 (.tmp 38), 2, [], true⟩,
  ⟨(some 40), none, .load 1 false (.tmp 39), 3, [], true⟩,
  ⟨(some 41), none, .mv (.tmp 6), 4, [], true⟩,
  ⟨(some 42), none, .mv (.tmp 1), 5, [], true⟩,
  ⟨(some 43), none, .adSl 24 (.tmp 40) (.tmp 41), 6, [], true⟩,
  ⟨(some 44), none, .fieldAddr 12 (.tmp 43), 7, [], true⟩,
  ⟨(some 45), none, .adArr 12 1 (.tmp 44) (.tmp 42), 8, [], true⟩,
  ⟨(some 46), none, .load 1 false (.tmp 45), 9, [], true⟩,
  ⟨(some 4), none, .mv (.tmp 46), 10, [], true⟩,
  ⟨(some 5), none, .mv (.const (.bool true)), 11, [], true⟩])
 .ret) .skip)))
 (.region 3 [
  ⟨(some 25), none, .mv (.tmp 6), 0, [], true⟩,
  ⟨(some 26), none, .bin .sub (.tmp 25) (.const (.int .i64 1)), 1, [], true⟩,
  ⟨(some 6), none, .mv (.tmp 26), 2, [], true⟩]))))))
 (.seq (.region 2 [
  ⟨(some 4), none, .mv (.const (.int .u64 0)), 0, [], true⟩,
  ⟨(some 5), none, .mv (.const (.bool false)), 1, [], true⟩])
 .ret))))⟩

def m136 : MFn := ⟨50, [(4, none), (5, none)], (.seq (.region 2 [
  ⟨(some 4), none, .mv (.const (.int .i64 0)), 0, [], true⟩,
  ⟨(some 5), none, .mv (.const (.bool false)), 1, [], true⟩])
 (.seq (.seq (.region 1 [
  ⟨(some 6), none, .mv (.const (.int .i64 0)), 0, [], true⟩])
 (.block 0 (.loop (.seq (.seq (.region 11 [
  ⟨(some 8), none, .mv (.tmp 0), 0, [], true⟩,
  ⟨(some 9), none, .eq true .ptr (.tmp 8) (.const (.pointer none)), 1, [], true⟩,
  ⟨(some 10), none, .mv (.tmp 9), 2, [], true⟩,
  ⟨(some 11), (some (10, true)), .mv (.tmp 6), 3, [], true⟩,
  ⟨(some 12), (some (10, true)), .mv (.tmp 0), 4, [], true⟩,
  ⟨(some 13), (some (10, true)), .nilCheck (.tmp 12), 5, [], true⟩,
  ⟨(some 14), (some (10, true)), .fieldAddr 0 (.tmp 13), 6, [], true⟩,
  ⟨(some 15), (some (10, true)), .load 1 false (.tmp 14), 7, [], true⟩,
  ⟨(some 16), (some (10, true)), .len false (.tmp 15), 8, [], true⟩,
  ⟨(some 17), (some (10, true)), .bin .lss (.tmp 11) (.tmp 16), 9, [], true⟩,
  ⟨(some 18), none, .pick (.tmp 10) (.tmp 17) (.const (.bool false)), 10, [], true⟩])
 (.cond (.tmp 18) .skip (.exit 0)))
 (.seq (.block 1 (.seq (.region 9 [
  ⟨(some 21), none, .mv (.tmp 0), 0, [], true⟩,
  ⟨(some 22), none, .nilCheck (.tmp 21), 1, [], true⟩,
  ⟨(some 23), none, .fieldAddr 0 (.tmp 22), 2, [], true⟩,
  ⟨(some 24), none, .load 1 false (.tmp 23), 3, [], true⟩,
  ⟨(some 25), none, .mv (.tmp 6), 4, [], true⟩,
  ⟨(some 26), none, .adSl 3 (.tmp 24) (.tmp 25), 5, [], true⟩,
  ⟨(some 27), none, .fieldAddr 0 (.tmp 26), 6, [], true⟩,
  ⟨(some 28), none, .load 1 false (.tmp 27), 7, [], true⟩,
  ⟨(some 7), none, .mv (.tmp 28), 8, [], true⟩])
 (.seq (.region 20 [
  ⟨(some 29), none, .mv (.tmp 7), 0, [], true⟩,
  ⟨(some 30), none, .mv (.tmp 1), 1, [], false⟩,
  ⟨(some 31), none, .len false (.tmp 30), 2, [], false⟩,
  ⟨(some 32), none, .bin .geq (.tmp 29) (.tmp 31), 3, [], true⟩,
  ⟨(some 33), none, .mv (.tmp 32), 4, [], true⟩,
  ⟨(some 34), (some (33, false)), .mv (.tmp 1), 5, [], true⟩,
  ⟨(some 35), (some (33, false)), .mv (.tmp 7), 6, [], false⟩,
  ⟨(some 36), (some (33, false)), .adSl 1 (.tmp 34) (.tmp 35), 7, [], true⟩,
  ⟨(some 37), (some (33, false)), .load 1 false (.tmp 36), 8, [], true⟩,
  ⟨(some 38), (some (33, false)), .mv (.tmp 0), 9, [], false⟩,
  ⟨(some 39), (some (33, false)), .nilCheck (.tmp 38), 10, [], false⟩,
  ⟨(some 40), (some (33, false)), .fieldAddr 0 (.tmp 39), 11, [], false⟩,
  ⟨(some 41), (some (33, false)), .load 1 false (.tmp 40), 12, [], false⟩,
  ⟨(some 42), (some (33, false)), .mv (.tmp 6), 13, [], false⟩,
  ⟨(some 43), (some (33, false)), .adSl 3 (.tmp 41) (.tmp 42), 14, [], false⟩,
  ⟨(some 44), (some (33, false)), .fieldAddr 1 (.tmp 43), 15, [], false⟩,
  ⟨(some 45), (some (33, false)), .load 1 false (.tmp 44), 16, [], false⟩,
  ⟨(some 46), (some (33, false)), .call (.func 138) [(.tmp 37), (.tmp 45)], 17, [], true⟩,
  ⟨(some 47), (some (33, false)), .un .not (.tmp 46), 18, [], true⟩,
  ⟨(some 48), none, .pick (.tmp 33) (.const (.bool true)) (.tmp 47), 19, [], true⟩])
 (.cond (.tmp 48) (.seq (.region 3 [
  ⟨(some 49), none, .mv (.tmp 7), 0, [], true⟩,
  ⟨(some 4), none, .mv (.tmp 49), 1, [], true⟩,
  ⟨(some 5), none, .mv (.const (.bool true)), 2, [], true⟩])
 .ret) .skip))))
 (.region 3 [
  ⟨(some 19), none, .mv (.tmp 6), 0, [], true⟩,
  ⟨(some 20), none, .bin .add (.tmp 19) (.const (.int .i64 1)), 1, [], true⟩,
  ⟨(some 6), none, .mv (.tmp 20), 2, [], true⟩]))))))
 (.seq (.region 2 [
  ⟨(some 4), none, .mv (.const (.int .i64 0)), 0, [], true⟩,
  ⟨(some 5), none, .mv (.const (.bool false)), 1, [], true⟩])
 .ret)))⟩

def m137 : MFn := ⟨11, [(2, none)], (.seq (.region 1 [
  ⟨(some 2), none, .mv (.const (.int .i64 0)), 0, [], true⟩])
 (.seq (.seq (.region 2 [
  ⟨(some 3), none, .mv (.tmp 0), 0, [], true⟩,
  ⟨(some 4), none, .eq false .ptr (.tmp 3) (.const (.pointer none)), 1, [], true⟩])
 (.cond (.tmp 4) (.seq (.region 1 [
  ⟨(some 2), none, .mv (.const (.int .i64 0)), 0, [], true⟩])
 .ret) .skip))
 (.seq (.region 7 [
  ⟨(some 5), none, .mv (.tmp 0), 0, [], true⟩,
  ⟨(some 6), none, .nilCheck (.tmp 5), 1, [], true⟩,
  ⟨(some 7), none, .fieldAddr 0 (.tmp 6), 2, [], true⟩,
  ⟨(some 8), none, .load 1 false (.tmp 7), 3, [], true⟩,
  ⟨(some 9), none, .len false (.tmp 8), 4, [], true⟩,
  ⟨(some 10), none, .bin .sub (.tmp 9) (.const (.int .i64 1)), 5, [], true⟩,
  ⟨(some 2), none, .mv (.tmp 10), 6, [], true⟩])
 .ret)))⟩

def m138 : MFn := ⟨10, [(4, none)], (.seq (.region 1 [
  ⟨(some 4), none, .mv (.const (.bool false)), 0, [], true⟩])
 (.seq (.region 6 [
  ⟨(some 5), none, .mv (.tmp 0), 0, [], true⟩,
  ⟨(some 6), none, .call (.func 174) [(.tmp 5)], 1, [], true⟩,
  ⟨(some 7), none, .mv (.tmp 1), 2, [], true⟩,
  ⟨(some 8), none, .call (.func 174) [(.tmp 7)], 3, [], true⟩,
  ⟨(some 9), none, .bin .eql (.tmp 6) (.tmp 8), 4, [], true⟩,
  ⟨(some 4), none, .mv (.tmp 9), 5, [], true⟩])
 .ret))⟩

def m139 : MFn := ⟨15, [(4, none)], (.seq (.region 1 [
  ⟨(some 4), none, .mv (.const (.bool false)), 0, [], true⟩])
 (.seq (.region 11 [
  ⟨(some 5), none, .mv (.tmp 0), 0, [], true⟩,
  ⟨(some 6), none, .eq true .ptr (.tmp 5) (.const (.pointer none)), 1, [], true⟩,
  ⟨(some 7), none, .mv (.tmp 6), 2, [], true⟩,
  ⟨(some 8), (some (7, true)), .mv (.tmp 0), 3, [], true⟩,
  ⟨(some 9), (some (7, true)), .nilCheck (.tmp 8), 4, [], true⟩,
  ⟨(some 10), (some (7, true)), .fieldAddr 0 (.tmp 9), 5, [], true⟩,
  ⟨(some 11), (some (7, true)), .load 1 false (.tmp 10), 6, [], true⟩,
  ⟨(some 12), (some (7, true)), .mv (.tmp 1), 7, [], true⟩,
  ⟨(some 13), (some (7, true)), .bin .eql (.tmp 11) (.tmp 12), 8, [], true⟩,
  ⟨(some 14), none, .pick (.tmp 7) (.tmp 13) (.const (.bool false)), 9, [], true⟩,
  ⟨(some 4), none, .mv (.tmp 14), 10, [], true⟩])
 .ret))⟩

def m140 : MFn := ⟨25, [(4, none)], (.seq (.region 1 [
  ⟨(some 4), none, .mv (.const (.int .i64 0)), 0, [], true⟩])
 (.seq (.region 4 [
  ⟨(some 6), none, .mv (.tmp 0), 0, [], true⟩,
  ⟨(some 7), none, .mv (.tmp 1), 1, [], true⟩,
  ⟨(some 8), none, .call (.func 175) [(.tmp 6), (.tmp 7)], 2, [], true⟩,
  ⟨(some 5), none, .mv (.tmp 8), 3, [], true⟩])
 (.seq (.seq (.region 2 [
  ⟨(some 9), none, .mv (.tmp 5), 0, [], true⟩,
  ⟨(some 10), none, .bin .eql (.tmp 9) (.const (.int .i64 0)), 1, [], true⟩])
 (.cond (.tmp 10) (.seq (.region 8 [
  ⟨(some 11), none, .mv (.tmp 0), 0, [], true⟩,
  ⟨(some 12), none, .mv (.tmp 0), 1, [], true⟩,
  ⟨(some 13), none, .nilCheck (.tmp 11), 2, [], true⟩,
  ⟨(some 14), none, .fieldAddr 1 (.tmp 13), 3, [], true⟩,
  ⟨none, none, .store 1 (.tmp 14) (.const (.bool false)), 4, [], true⟩,
  ⟨(some 15), none, .nilCheck (.tmp 12), 5, [], true⟩,
  ⟨(some 16), none, .fieldAddr 2 (.tmp 15), 6, [], true⟩,
  ⟨none, none, .store 1 (.tmp 16) (.const (.int .i64 0)), 7, [], true⟩])
 (.region 8 [
  ⟨(some 17), none, .mv (.tmp 0), 0, [], true⟩,
  ⟨(some 18), none, .nilCheck (.tmp 17), 1, [], true⟩,
  ⟨(some 19), none, .fieldAddr 0 (.tmp 18), 2, [], true⟩,
  ⟨(some 20), none, .load 1 false (.tmp 19), 3, [], true⟩,
  ⟨(some 21), none, .bin .sub (.tmp 20) (.const (.int .u64 1)), 4, [], true⟩,
  ⟨(some 22), none, .nilCheck (.tmp 17), 5, [], true⟩,
  ⟨(some 23), none, .fieldAddr 0 (.tmp 22), 6, [], true⟩,
  ⟨none, none, .store 1 (.tmp 23) (.tmp 21), 7, [], true⟩])) .skip))
 (.seq (.region 2 [
  ⟨(some 24), none, .mv (.tmp 5), 0, [], true⟩,
  ⟨(some 4), none, .mv (.tmp 24), 1, [], true⟩])
 .ret))))⟩

def m141 : MFn := ⟨25, [(6, (some (7, true)))], (.seq (.region 1 [
  ⟨(some 6), none, .alloc [(.bool false), (.int .u64 0), (.bool false), (.int .i64 0), (.bool false), (.int .u8 0), (.int .i64 0)] 52, 0, [], true⟩])
 (.seq (.region 4 [
  ⟨(some 7), none, .mv (.tmp 1), 0, [], true⟩,
  ⟨(some 8), none, .nilCheck (.tmp 7), 1, [], true⟩,
  ⟨(some 9), none, .fieldAddr 4 (.tmp 8), 2, [], true⟩,
  ⟨none, none, .store 1 (.tmp 9) (.const (.bool false)), 3, [], true⟩])
 (.seq (.region 13 [
  ⟨(some 10), none, .mv (.tmp 0), 0, [], true⟩,
  ⟨(some 11), none, .mv (.tmp 1), 1, [], false⟩,
  ⟨(some 12), none, .nilCheck (.tmp 11), 2, [], false⟩,
  ⟨(some 13), none, .fieldAddr 0 (.tmp 12), 3, [], false⟩,
  ⟨(some 14), none, .load 1 false (.tmp 13), 4, [], false⟩,
  ⟨(some 15), none, .mv (.tmp 1), 5, [], false⟩,
  ⟨(some 16), none, .nilCheck (.tmp 15), 6, [], false⟩,
  ⟨(some 17), none, .fieldAddr 5 (.tmp 16), 7, [], false⟩,
  ⟨(some 18), none, .fieldAddr 1 (.tmp 17), 8, [], false⟩,
  ⟨(some 19), none, .load 1 false (.tmp 18), 9, [], false⟩,
  ⟨(some 20), none, .mv (.tmp 2), 10, [], false⟩,
  ⟨(some 21), none, .build [(.int .u8 0), (.int .i64 0), (.int .i64 0), (.int .u64 0)] [(0, 1, (.const (.int .u8 2))), (1, 1, (.tmp 14)), (2, 1, (.tmp 19)), (3, 1, (.tmp 20))], 11, [], false⟩,
  ⟨(some 22), none, .call (.func 101) [(.tmp 10), (.tmp 21)], 12, [], true⟩])
 (.seq (.region 3 [
  ⟨(some 23), none, .mv (.tmp 2), 0, [], true⟩,
  ⟨(some 24), none, .build [(.bool false), (.int .u64 0), (.bool false), (.int .i64 0), (.bool false), (.int .u8 0), (.int .i64 0)] [(0, 1, (.const (.bool true))), (1, 1, (.tmp 23))], 1, [], true⟩,
  ⟨none, none, .store 7 (.tmp 6) (.tmp 24), 2, [], true⟩])
 .ret))))⟩

def m142 : MFn := ⟨13, [(4, (some (7, true)))], (.seq (.region 1 [
  ⟨(some 4), none, .alloc [(.bool false), (.int .u64 0), (.bool false), (.int .i64 0), (.bool false), (.int .u8 0), (.int .i64 0)] 52, 0, [], true⟩])
 (.seq (.region 9 [
  ⟨(some 5), none, .mv (.tmp 0), 0, [], true⟩,
  ⟨(some 6), none, .mv (.tmp 0), 1, [], true⟩,
  ⟨(some 7), none, .mv (.tmp 1), 2, [], true⟩,
  ⟨(some 8), none, .nilCheck (.tmp 5), 3, [], true⟩,
  ⟨(some 9), none, .fieldAddr 8 (.tmp 8), 4, [], true⟩,
  ⟨none, none, .store 1 (.tmp 9) (.const (.int .i64 10)), 5, [], true⟩,
  ⟨(some 10), none, .nilCheck (.tmp 6), 6, [], true⟩,
  ⟨(some 11), none, .fieldAddr 9 (.tmp 10), 7, [], true⟩,
  ⟨none, none, .store 1 (.tmp 11) (.tmp 7), 8, [], true⟩])
 (.seq (.region 2 [
  ⟨(some 12), none, .build [(.bool false), (.int .u64 0), (.bool false), (.int .i64 0), (.bool false), (.int .u8 0), (.int .i64 0)] [], 0, [], true⟩,
  ⟨none, none, .store 7 (.tmp 4) (.tmp 12), 1, [], true⟩])
 .ret)))⟩

def m143 : MFn := ⟨55, [(4, none)], (.seq (.region 2 [
  ⟨(some 3), none, .box 131 (.tmp 1), 0, [], true⟩,
  ⟨(some 4), none, .mv (.const (.int .i64 0)), 1, [], true⟩])
 (.seq (.block 0 (.seq (.region 3 [
  ⟨(some 8), none, .mv (.tmp 0), 0, [], true⟩,
  ⟨(some 9), none, .eq false .ptr (.tmp 8) (.const (.pointer none)), 1, [], true⟩,
  ⟨(some 7), none, .mv (.tmp 9), 2, [], true⟩])
 (.cond (.tmp 7) (.seq (.region 1 [
  ⟨(some 4), none, .mv (.const (.int .i64 1)), 0, [], true⟩])
 .ret) (.seq (.region 14 [
  ⟨(some 11), none, .fieldAddr 0 (.tmp 3), 0, [], true⟩,
  ⟨(some 12), none, .load 1 false (.tmp 11), 1, [], true⟩,
  ⟨(some 13), none, .bin .lss (.tmp 12) (.const (.int .i64 0)), 2, [], true⟩,
  ⟨(some 14), none, .mv (.tmp 13), 3, [], true⟩,
  ⟨(some 15), (some (14, false)), .fieldAddr 0 (.tmp 3), 4, [], true⟩,
  ⟨(some 16), (some (14, false)), .load 1 false (.tmp 15), 5, [], true⟩,
  ⟨(some 17), (some (14, false)), .bin .geq (.tmp 16) (.const (.int .i64 12)), 6, [], true⟩,
  ⟨(some 18), none, .pick (.tmp 14) (.const (.bool true)) (.tmp 17), 7, [], true⟩,
  ⟨(some 19), none, .mv (.tmp 18), 8, [], true⟩,
  ⟨(some 20), (some (19, false)), .fieldAddr 2 (.tmp 3), 9, [], true⟩,
  ⟨(some 21), (some (19, false)), .load 1 false (.tmp 20), 10, [], true⟩,
  ⟨(some 22), (some (19, false)), .bin .gtr (.tmp 21) (.const (.int .u64 1099511627776)), 11, [], true⟩,
  ⟨(some 23), none, .pick (.tmp 19) (.const (.bool true)) (.tmp 22), 12, [], true⟩,
  ⟨(some 10), none, .mv (.tmp 23), 13, [], true⟩])
 (.cond (.tmp 10) (.seq (.region 1 [
  ⟨(some 4), none, .mv (.const (.int .i64 2)), 0, [], true⟩])
 .ret) (.seq (.region 5 [
  ⟨(some 25), none, .fieldAddr 1 (.tmp 3), 0, [], true⟩,
  ⟨(some 26), none, .load 1 false (.tmp 25), 1, [], true⟩,
  ⟨(some 27), none, .call (.func 88) [(.tmp 26)], 2, [], true⟩,
  ⟨(some 28), none, .un .not (.tmp 27), 3, [], true⟩,
  ⟨(some 24), none, .mv (.tmp 28), 4, [], true⟩])
 (.cond (.tmp 24) (.seq (.region 1 [
  ⟨(some 4), none, .mv (.const (.int .i64 3)), 0, [], true⟩])
 .ret) .skip)))))))
 (.seq (.seq (.region 10 [
  ⟨(some 30), none, .mv (.tmp 0), 0, [], true⟩,
  ⟨(some 31), none, .fieldAddr 0 (.tmp 3), 1, [], true⟩,
  ⟨(some 32), none, .load 1 false (.tmp 31), 2, [], true⟩,
  ⟨(some 33), none, .call (.func 176) [(.tmp 30), (.tmp 32)], 3, [], true⟩,
  ⟨(some 29), none, .mv (.tmp 33), 4, [], true⟩,
  ⟨(some 34), none, .extract (.tmp 29) 0, 5, [], true⟩,
  ⟨(some 35), none, .extract (.tmp 29) 1, 6, [], true⟩,
  ⟨(some 5), none, .alloc [(.int .i64 0), (.int .u64 0), (.int .u64 0)] 131, 7, [], true⟩,
  ⟨none, none, .store 3 (.tmp 5) (.tmp 34), 8, [], true⟩,
  ⟨(some 6), none, .mv (.tmp 35), 9, [], true⟩])
 (.seq (.region 1 [
  ⟨(some 36), none, .mv (.tmp 6), 0, [], true⟩])
 (.cond (.tmp 36) (.seq (.region 1 [
  ⟨(some 4), none, .mv (.const (.int .i64 0)), 0, [], true⟩])
 .ret) .skip)))
 (.seq (.seq (.region 6 [
  ⟨(some 37), none, .mv (.tmp 0), 0, [], true⟩,
  ⟨(some 38), none, .nilCheck (.tmp 37), 1, [], true⟩,
  ⟨(some 39), none, .fieldAddr 0 (.tmp 38), 2, [], true⟩,
  ⟨(some 40), none, .load 1 false (.tmp 39), 3, [], true⟩,
  ⟨(some 41), none, .len false (.tmp 40), 4, [], true⟩,
  ⟨(some 42), none, .bin .geq (.tmp 41) (.const (.int .i64 8)), 5, [], true⟩])
 (.cond (.tmp 42) (.seq (.region 1 [
  ⟨(some 4), none, .mv (.const (.int .i64 4)), 0, [], true⟩])
 .ret) .skip))
 (.seq (.region 13 [
  ⟨(some 43), none, .mv (.tmp 0), 0, [], true⟩,
  ⟨(some 44), none, .buildSl 131 3 0 [] [], 1, [], false⟩,
  ⟨(some 45), none, .mv (.tmp 0), 2, [], false⟩,
  ⟨(some 46), none, .nilCheck (.tmp 45), 3, [], false⟩,
  ⟨(some 47), none, .fieldAddr 0 (.tmp 46), 4, [], false⟩,
  ⟨(some 48), none, .load 1 false (.tmp 47), 5, [], false⟩,
  ⟨(some 50), none, .load 3 true (.tmp 3), 7, [], false⟩,
  ⟨(some 51), none, .buildSl 131 3 1 [(.int .i64 0), (.int .u64 0), (.int .u64 0)] [(0, 3, (.tmp 50))], 8, [], false⟩,
  ⟨(some 49), none, .append 131 3 24 (.tmp 44) (.tmp 48), 6, [(false, none, none, 7, .load 3 true (.tmp 3)), (true, none, none, 8, .buildSl 131 3 1 [(.int .i64 0), (.int .u64 0), (.int .u64 0)] [(0, 3, (.tmp 50))])], false⟩,
  ⟨(some 52), none, .append 131 3 24 (.tmp 49) (.tmp 51), 9, [], false⟩,
  ⟨(some 53), none, .nilCheck (.tmp 43), 10, [], true⟩,
  ⟨(some 54), none, .fieldAddr 0 (.tmp 53), 11, [], true⟩,
  ⟨none, none, .store 1 (.tmp 54) (.tmp 52), 12, [], true⟩])
 (.seq (.region 1 [
  ⟨(some 4), none, .mv (.const (.int .i64 0)), 0, [], true⟩])
 .ret))))))⟩

def m144 : MFn := ⟨23, [(4, (some (7, true)))], (.seq (.region 1 [
  ⟨(some 4), none, .alloc [(.bool false), (.int .u64 0), (.bool false), (.int .i64 0), (.bool false), (.int .u8 0), (.int .i64 0)] 52, 0, [], true⟩])
 (.seq (.region 12 [
  ⟨(some 5), none, .mv (.tmp 0), 0, [], true⟩,
  ⟨(some 6), none, .mv (.tmp 0), 1, [], true⟩,
  ⟨(some 7), none, .mv (.tmp 1), 2, [], true⟩,
  ⟨(some 8), none, .nilCheck (.tmp 6), 3, [], true⟩,
  ⟨(some 9), none, .fieldAddr 2 (.tmp 8), 4, [], true⟩,
  ⟨(some 10), none, .adArr 4 1 (.tmp 9) (.tmp 7), 5, [], true⟩,
  ⟨(some 11), none, .load 1 false (.tmp 10), 6, [], true⟩,
  ⟨(some 12), none, .nilCheck (.tmp 11), 7, [], true⟩,
  ⟨(some 13), none, .fieldAddr 0 (.tmp 12), 8, [], true⟩,
  ⟨(some 14), none, .load 1 false (.tmp 13), 9, [], true⟩,
  ⟨(some 15), none, .build [(.int .u8 0), (.int .i64 0), (.int .i64 0), (.int .u64 0)] [(0, 1, (.const (.int .u8 8))), (1, 1, (.tmp 14))], 10, [], true⟩,
  ⟨(some 16), none, .call (.func 101) [(.tmp 5), (.tmp 15)], 11, [], true⟩])
 (.seq (.region 6 [
  ⟨(some 17), none, .mv (.tmp 0), 0, [], true⟩,
  ⟨(some 18), none, .mv (.tmp 1), 1, [], true⟩,
  ⟨(some 19), none, .nilCheck (.tmp 17), 2, [], true⟩,
  ⟨(some 20), none, .fieldAddr 2 (.tmp 19), 3, [], true⟩,
  ⟨(some 21), none, .adArr 4 1 (.tmp 20) (.tmp 18), 4, [], true⟩,
  ⟨none, none, .store 1 (.tmp 21) (.const (.pointer none)), 5, [], true⟩])
 (.seq (.region 2 [
  ⟨(some 22), none, .build [(.bool false), (.int .u64 0), (.bool false), (.int .i64 0), (.bool false), (.int .u8 0), (.int .i64 0)] [(0, 1, (.const (.bool true))), (4, 1, (.const (.bool true)))], 0, [], true⟩,
  ⟨none, none, .store 7 (.tmp 4) (.tmp 22), 1, [], true⟩])
 .ret))))⟩

def m145 : MFn := ⟨49, [(6, none)], (.seq (.region 1 [
  ⟨(some 6), none, .mv (.const (.int .i64 0)), 0, [], true⟩])
 (.seq (.block 0 (.seq (.region 3 [
  ⟨(some 8), none, .mv (.tmp 0), 0, [], true⟩,
  ⟨(some 9), none, .eq false .ptr (.tmp 8) (.const (.pointer none)), 1, [], true⟩,
  ⟨(some 7), none, .mv (.tmp 9), 2, [], true⟩])
 (.cond (.tmp 7) (.seq (.region 1 [
  ⟨(some 6), none, .mv (.const (.int .i64 1)), 0, [], true⟩])
 .ret) (.seq (.region 7 [
  ⟨(some 11), none, .mv (.tmp 1), 0, [], true⟩,
  ⟨(some 12), none, .bin .lss (.tmp 11) (.const (.int .i64 0)), 1, [], true⟩,
  ⟨(some 13), none, .mv (.tmp 12), 2, [], true⟩,
  ⟨(some 14), (some (13, false)), .mv (.tmp 1), 3, [], true⟩,
  ⟨(some 15), (some (13, false)), .bin .geq (.tmp 14) (.const (.int .i64 4)), 4, [], true⟩,
  ⟨(some 16), none, .pick (.tmp 13) (.const (.bool true)) (.tmp 15), 5, [], true⟩,
  ⟨(some 10), none, .mv (.tmp 16), 6, [], true⟩])
 (.cond (.tmp 10) (.seq (.region 1 [
  ⟨(some 6), none, .mv (.const (.int .i64 2)), 0, [], true⟩])
 .ret) (.seq (.region 5 [
  ⟨(some 18), none, .mv (.tmp 0), 0, [], true⟩,
  ⟨(some 19), none, .nilCheck (.tmp 18), 1, [], true⟩,
  ⟨(some 20), none, .fieldAddr 1 (.tmp 19), 2, [], true⟩,
  ⟨(some 21), none, .load 1 false (.tmp 20), 3, [], true⟩,
  ⟨(some 17), none, .mv (.tmp 21), 4, [], true⟩])
 (.cond (.tmp 17) (.seq (.region 1 [
  ⟨(some 6), none, .mv (.const (.int .i64 7)), 0, [], true⟩])
 .ret) (.seq (.region 7 [
  ⟨(some 23), none, .mv (.tmp 0), 0, [], true⟩,
  ⟨(some 24), none, .nilCheck (.tmp 23), 1, [], true⟩,
  ⟨(some 25), none, .fieldAddr 0 (.tmp 24), 2, [], true⟩,
  ⟨(some 26), none, .load 1 false (.tmp 25), 3, [], true⟩,
  ⟨(some 27), none, .mv (.tmp 2), 4, [], true⟩,
  ⟨(some 28), none, .bin .neq (.tmp 26) (.tmp 27), 5, [], true⟩,
  ⟨(some 22), none, .mv (.tmp 28), 6, [], true⟩])
 (.cond (.tmp 22) (.seq (.region 1 [
  ⟨(some 6), none, .mv (.const (.int .i64 8)), 0, [], true⟩])
 .ret) (.seq (.region 6 [
  ⟨(some 30), none, .mv (.tmp 0), 0, [], true⟩,
  ⟨(some 31), none, .nilCheck (.tmp 30), 1, [], true⟩,
  ⟨(some 32), none, .fieldAddr 0 (.tmp 31), 2, [], true⟩,
  ⟨(some 33), none, .load 1 false (.tmp 32), 3, [], true⟩,
  ⟨(some 34), none, .bin .geq (.tmp 33) (.const (.int .u64 1099511627775)), 4, [], true⟩,
  ⟨(some 29), none, .mv (.tmp 34), 5, [], true⟩])
 (.cond (.tmp 29) (.seq (.region 1 [
  ⟨(some 6), none, .mv (.const (.int .i64 4)), 0, [], true⟩])
 .ret) .skip)))))))))))
 (.seq (.region 9 [
  ⟨(some 35), none, .mv (.tmp 0), 0, [], true⟩,
  ⟨(some 36), none, .mv (.tmp 0), 1, [], true⟩,
  ⟨(some 37), none, .mv (.tmp 1), 2, [], true⟩,
  ⟨(some 38), none, .nilCheck (.tmp 35), 3, [], true⟩,
  ⟨(some 39), none, .fieldAddr 1 (.tmp 38), 4, [], true⟩,
  ⟨none, none, .store 1 (.tmp 39) (.const (.bool true)), 5, [], true⟩,
  ⟨(some 40), none, .nilCheck (.tmp 36), 6, [], true⟩,
  ⟨(some 41), none, .fieldAddr 2 (.tmp 40), 7, [], true⟩,
  ⟨none, none, .store 1 (.tmp 41) (.tmp 37), 8, [], true⟩])
 (.seq (.region 8 [
  ⟨(some 42), none, .mv (.tmp 0), 0, [], true⟩,
  ⟨(some 43), none, .nilCheck (.tmp 42), 1, [], true⟩,
  ⟨(some 44), none, .fieldAddr 0 (.tmp 43), 2, [], true⟩,
  ⟨(some 45), none, .load 1 false (.tmp 44), 3, [], true⟩,
  ⟨(some 46), none, .bin .add (.tmp 45) (.const (.int .u64 1)), 4, [], true⟩,
  ⟨(some 47), none, .nilCheck (.tmp 42), 5, [], true⟩,
  ⟨(some 48), none, .fieldAddr 0 (.tmp 47), 6, [], true⟩,
  ⟨none, none, .store 1 (.tmp 48) (.tmp 46), 7, [], true⟩])
 (.seq (.region 1 [
  ⟨(some 6), none, .mv (.const (.int .i64 0)), 0, [], true⟩])
 .ret)))))⟩

def m146 : MFn := ⟨25, [(4, none)], (.seq (.region 1 [
  ⟨(some 4), none, .mv (.const (.int .i64 0)), 0, [], true⟩])
 (.seq (.region 4 [
  ⟨(some 6), none, .mv (.tmp 0), 0, [], true⟩,
  ⟨(some 7), none, .mv (.tmp 1), 1, [], true⟩,
  ⟨(some 8), none, .call (.func 175) [(.tmp 6), (.tmp 7)], 2, [], true⟩,
  ⟨(some 5), none, .mv (.tmp 8), 3, [], true⟩])
 (.seq (.seq (.region 2 [
  ⟨(some 9), none, .mv (.tmp 5), 0, [], true⟩,
  ⟨(some 10), none, .bin .eql (.tmp 9) (.const (.int .i64 0)), 1, [], true⟩])
 (.cond (.tmp 10) (.seq (.region 8 [
  ⟨(some 11), none, .mv (.tmp 0), 0, [], true⟩,
  ⟨(some 12), none, .mv (.tmp 0), 1, [], true⟩,
  ⟨(some 13), none, .nilCheck (.tmp 11), 2, [], true⟩,
  ⟨(some 14), none, .fieldAddr 1 (.tmp 13), 3, [], true⟩,
  ⟨none, none, .store 1 (.tmp 14) (.const (.bool false)), 4, [], true⟩,
  ⟨(some 15), none, .nilCheck (.tmp 12), 5, [], true⟩,
  ⟨(some 16), none, .fieldAddr 2 (.tmp 15), 6, [], true⟩,
  ⟨none, none, .store 1 (.tmp 16) (.const (.int .i64 0)), 7, [], true⟩])
 (.region 8 [
  ⟨(some 17), none, .mv (.tmp 0), 0, [], true⟩,
  ⟨(some 18), none, .nilCheck (.tmp 17), 1, [], true⟩,
  ⟨(some 19), none, .fieldAddr 0 (.tmp 18), 2, [], true⟩,
  ⟨(some 20), none, .load 1 false (.tmp 19), 3, [], true⟩,
  ⟨(some 21), none, .bin .add (.tmp 20) (.const (.int .u64 1)), 4, [], true⟩,
  ⟨(some 22), none, .nilCheck (.tmp 17), 5, [], true⟩,
  ⟨(some 23), none, .fieldAddr 0 (.tmp 22), 6, [], true⟩,
  ⟨none, none, .store 1 (.tmp 23) (.tmp 21), 7, [], true⟩])) .skip))
 (.seq (.region 2 [
  ⟨(some 24), none, .mv (.tmp 5), 0, [], true⟩,
  ⟨(some 4), none, .mv (.tmp 24), 1, [], true⟩])
 .ret))))⟩

def m147 : MFn := ⟨22, [(2, none)], (.seq (.region 1 [
  ⟨(some 2), none, .mv (.const (.int .i64 0)), 0, [], true⟩])
 (.seq (.block 0 (.seq (.region 3 [
  ⟨(some 4), none, .mv (.tmp 0), 0, [], true⟩,
  ⟨(some 5), none, .eq false .ptr (.tmp 4) (.const (.pointer none)), 1, [], true⟩,
  ⟨(some 3), none, .mv (.tmp 5), 2, [], true⟩])
 (.cond (.tmp 3) (.seq (.region 1 [
  ⟨(some 2), none, .mv (.const (.int .i64 1)), 0, [], true⟩])
 .ret) (.seq (.region 4 [
  ⟨(some 7), none, .mv (.tmp 0), 0, [], true⟩,
  ⟨(some 8), none, .call (.func 137) [(.tmp 7)], 1, [], true⟩,
  ⟨(some 9), none, .bin .geq (.tmp 8) (.const (.int .i64 4)), 2, [], true⟩,
  ⟨(some 6), none, .mv (.tmp 9), 3, [], true⟩])
 (.cond (.tmp 6) (.seq (.region 1 [
  ⟨(some 2), none, .mv (.const (.int .i64 4)), 0, [], true⟩])
 .ret) .skip)))))
 (.seq (.region 13 [
  ⟨(some 10), none, .mv (.tmp 0), 0, [], true⟩,
  ⟨(some 11), none, .buildSl 183 24 0 [] [], 1, [], true⟩,
  ⟨(some 12), none, .mv (.tmp 0), 2, [], true⟩,
  ⟨(some 13), none, .nilCheck (.tmp 12), 3, [], true⟩,
  ⟨(some 14), none, .fieldAddr 0 (.tmp 13), 4, [], true⟩,
  ⟨(some 15), none, .load 1 false (.tmp 14), 5, [], true⟩,
  ⟨(some 16), none, .append 183 24 112 (.tmp 11) (.tmp 15), 6, [], true⟩,
  ⟨(some 17), none, .build [(.bool false), (.bool false), (.bool false), (.bool false), (.bool false), (.bool false), (.bool false), (.bool false), (.bool false), (.bool false), (.bool false), (.bool false), (.int .u64 0), (.int .u64 0), (.int .u64 0), (.int .u64 0), (.int .u64 0), (.int .u64 0), (.int .u64 0), (.int .u64 0), (.int .u64 0), (.int .u64 0), (.int .u64 0), (.int .u64 0)] [], 7, [], true⟩,
  ⟨(some 18), none, .buildSl 183 24 1 [(.bool false), (.bool false), (.bool false), (.bool false), (.bool false), (.bool false), (.bool false), (.bool false), (.bool false), (.bool false), (.bool false), (.bool false), (.int .u64 0), (.int .u64 0), (.int .u64 0), (.int .u64 0), (.int .u64 0), (.int .u64 0), (.int .u64 0), (.int .u64 0), (.int .u64 0), (.int .u64 0), (.int .u64 0), (.int .u64 0)] [(0, 24, (.tmp 17))], 8, [], true⟩,
  ⟨(some 19), none, .append 183 24 112 (.tmp 16) (.tmp 18), 9, [], true⟩,
  ⟨(some 20), none, .nilCheck (.tmp 10), 10, [], true⟩,
  ⟨(some 21), none, .fieldAddr 0 (.tmp 20), 11, [], true⟩,
  ⟨none, none, .store 1 (.tmp 21) (.tmp 19), 12, [], true⟩])
 (.seq (.region 1 [
  ⟨(some 2), none, .mv (.const (.int .i64 0)), 0, [], true⟩])
 .ret))))⟩

def m148 : MFn := ⟨26, [(2, none)], (.seq (.region 1 [
  ⟨(some 2), none, .mv (.const (.int .i64 0)), 0, [], true⟩])
 (.seq (.block 0 (.seq (.region 3 [
  ⟨(some 4), none, .mv (.tmp 0), 0, [], true⟩,
  ⟨(some 5), none, .eq false .ptr (.tmp 4) (.const (.pointer none)), 1, [], true⟩,
  ⟨(some 3), none, .mv (.tmp 5), 2, [], true⟩])
 (.cond (.tmp 3) (.seq (.region 1 [
  ⟨(some 2), none, .mv (.const (.int .i64 1)), 0, [], true⟩])
 .ret) (.seq (.region 4 [
  ⟨(some 7), none, .mv (.tmp 0), 0, [], true⟩,
  ⟨(some 8), none, .call (.func 137) [(.tmp 7)], 1, [], true⟩,
  ⟨(some 9), none, .bin .eql (.tmp 8) (.const (.int .i64 0)), 2, [], true⟩,
  ⟨(some 6), none, .mv (.tmp 9), 3, [], true⟩])
 (.cond (.tmp 6) (.seq (.region 1 [
  ⟨(some 2), none, .mv (.const (.int .i64 8)), 0, [], true⟩])
 .ret) .skip)))))
 (.seq (.region 17 [
  ⟨(some 10), none, .mv (.tmp 0), 0, [], true⟩,
  ⟨(some 11), none, .buildSl 183 24 0 [] [], 1, [], false⟩,
  ⟨(some 12), none, .mv (.tmp 0), 2, [], false⟩,
  ⟨(some 13), none, .nilCheck (.tmp 12), 3, [], false⟩,
  ⟨(some 14), none, .fieldAddr 0 (.tmp 13), 4, [], false⟩,
  ⟨(some 15), none, .load 1 false (.tmp 14), 5, [], false⟩,
  ⟨(some 16), none, .mv (.tmp 0), 6, [], false⟩,
  ⟨(some 17), none, .nilCheck (.tmp 16), 7, [], false⟩,
  ⟨(some 18), none, .fieldAddr 0 (.tmp 17), 8, [], false⟩,
  ⟨(some 19), none, .load 1 false (.tmp 18), 9, [], false⟩,
  ⟨(some 20), none, .len false (.tmp 19), 10, [], false⟩,
  ⟨(some 21), none, .bin .sub (.tmp 20) (.const (.int .i64 1)), 11, [], false⟩,
  ⟨(some 22), none, .slSl 24 (.tmp 15) none (some (.tmp 21)) none, 12, [], false⟩,
  ⟨(some 23), none, .append 183 24 112 (.tmp 11) (.tmp 22), 13, [], false⟩,
  ⟨(some 24), none, .nilCheck (.tmp 10), 14, [], true⟩,
  ⟨(some 25), none, .fieldAddr 0 (.tmp 24), 15, [], true⟩,
  ⟨none, none, .store 1 (.tmp 25) (.tmp 23), 16, [], true⟩])
 (.seq (.region 1 [
  ⟨(some 2), none, .mv (.const (.int .i64 0)), 0, [], true⟩])
 .ret))))⟩

def m149 : MFn := ⟨60, [(2, none)], (.seq (.region 1 [
  ⟨(some 2), none, .mv (.const (.int .i64 0)), 0, [], true⟩])
 (.seq (.block 0 (.seq (.region 3 [
  ⟨(some 8), none, .mv (.tmp 0), 0, [], true⟩,
  ⟨(some 9), none, .eq false .ptr (.tmp 8) (.const (.pointer none)), 1, [], true⟩,
  ⟨(some 7), none, .mv (.tmp 9), 2, [], true⟩])
 (.cond (.tmp 7) (.seq (.region 1 [
  ⟨(some 2), none, .mv (.const (.int .i64 1)), 0, [], true⟩])
 .ret) (.seq (.region 4 [
  ⟨(some 11), none, .mv (.tmp 0), 0, [], true⟩,
  ⟨(some 12), none, .call (.func 137) [(.tmp 11)], 1, [], true⟩,
  ⟨(some 13), none, .bin .eql (.tmp 12) (.const (.int .i64 0)), 2, [], true⟩,
  ⟨(some 10), none, .mv (.tmp 13), 3, [], true⟩])
 (.cond (.tmp 10) (.seq (.region 1 [
  ⟨(some 2), none, .mv (.const (.int .i64 8)), 0, [], true⟩])
 .ret) .skip)))))
 (.seq (.region 6 [
  ⟨(some 14), none, .mv (.tmp 0), 0, [], true⟩,
  ⟨(some 15), none, .nilCheck (.tmp 14), 1, [], true⟩,
  ⟨(some 16), none, .fieldAddr 0 (.tmp 15), 2, [], true⟩,
  ⟨(some 17), none, .load 1 false (.tmp 16), 3, [], true⟩,
  ⟨(some 18), none, .len false (.tmp 17), 4, [], true⟩,
  ⟨(some 3), none, .mv (.tmp 18), 5, [], true⟩])
 (.seq (.region 20 [
  ⟨(some 19), none, .mv (.tmp 0), 0, [], true⟩,
  ⟨(some 20), none, .nilCheck (.tmp 19), 1, [], true⟩,
  ⟨(some 21), none, .fieldAddr 0 (.tmp 20), 2, [], true⟩,
  ⟨(some 22), none, .load 1 false (.tmp 21), 3, [], true⟩,
  ⟨(some 23), none, .mv (.tmp 3), 4, [], false⟩,
  ⟨(some 24), none, .bin .sub (.tmp 23) (.const (.int .i64 1)), 5, [], false⟩,
  ⟨(some 25), none, .adSl 24 (.tmp 22) (.tmp 24), 6, [], true⟩,
  ⟨(some 26), none, .load 24 true (.tmp 25), 7, [], true⟩,
  ⟨(some 27), none, .mv (.tmp 0), 8, [], false⟩,
  ⟨(some 28), none, .nilCheck (.tmp 27), 9, [], false⟩,
  ⟨(some 29), none, .fieldAddr 0 (.tmp 28), 10, [], false⟩,
  ⟨(some 30), none, .load 1 false (.tmp 29), 11, [], false⟩,
  ⟨(some 31), none, .mv (.tmp 3), 12, [], false⟩,
  ⟨(some 32), none, .bin .sub (.tmp 31) (.const (.int .i64 2)), 13, [], false⟩,
  ⟨(some 33), none, .adSl 24 (.tmp 30) (.tmp 32), 14, [], false⟩,
  ⟨(some 34), none, .load 24 true (.tmp 33), 15, [], false⟩,
  ⟨(some 4), none, .alloc [(.bool false), (.bool false), (.bool false), (.bool false), (.bool false), (.bool false), (.bool false), (.bool false), (.bool false), (.bool false), (.bool false), (.bool false), (.int .u64 0), (.int .u64 0), (.int .u64 0), (.int .u64 0), (.int .u64 0), (.int .u64 0), (.int .u64 0), (.int .u64 0), (.int .u64 0), (.int .u64 0), (.int .u64 0), (.int .u64 0)] 183, 16, [], false⟩,
  ⟨(some 5), none, .alloc [(.bool false), (.bool false), (.bool false), (.bool false), (.bool false), (.bool false), (.bool false), (.bool false), (.bool false), (.bool false), (.bool false), (.bool false), (.int .u64 0), (.int .u64 0), (.int .u64 0), (.int .u64 0), (.int .u64 0), (.int .u64 0), (.int .u64 0), (.int .u64 0), (.int .u64 0), (.int .u64 0), (.int .u64 0), (.int .u64 0)] 183, 17, [], false⟩,
  ⟨none, none, .store 24 (.tmp 4) (.tmp 26), 18, [(false, none, none, 11, .load 1 false (.tmp 29)), (false, none, none, 15, .load 24 true (.tmp 33))], false⟩,
  ⟨none, none, .store 24 (.tmp 5) (.tmp 34), 19, [], true⟩])
 (.seq (.seq (.region 1 [
  ⟨(some 6), none, .mv (.const (.int .i64 0)), 0, [], true⟩])
 (.block 1 (.loop (.seq (.seq (.region 2 [
  ⟨(some 35), none, .mv (.tmp 6), 0, [], true⟩,
  ⟨(some 36), none, .bin .lss (.tmp 35) (.const (.int .i64 12)), 1, [], true⟩])
 (.cond (.tmp 36) .skip (.exit 1)))
 (.seq (.block 2 (.seq (.region 4 [
  ⟨(some 39), none, .mv (.tmp 6), 0, [], true⟩,
  ⟨(some 40), none, .fieldAddr 0 (.tmp 4), 1, [], true⟩,
  ⟨(some 41), none, .adArr 12 1 (.tmp 40) (.tmp 39), 2, [], true⟩,
  ⟨(some 42), none, .load 1 false (.tmp 41), 3, [], true⟩])
 (.cond (.tmp 42) (.region 12 [
  ⟨(some 43), none, .mv (.tmp 6), 0, [], true⟩,
  ⟨(some 44), none, .mv (.tmp 6), 1, [], false⟩,
  ⟨(some 45), none, .mv (.tmp 6), 2, [], false⟩,
  ⟨(some 46), none, .fieldAddr 12 (.tmp 4), 3, [], false⟩,
  ⟨(some 47), none, .adArr 12 1 (.tmp 46) (.tmp 45), 4, [], false⟩,
  ⟨(some 48), none, .load 1 false (.tmp 47), 5, [], false⟩,
  ⟨(some 49), none, .fieldAddr 0 (.tmp 5), 6, [], false⟩,
  ⟨(some 50), none, .adArr 12 1 (.tmp 49) (.tmp 43), 7, [], false⟩,
  ⟨(some 51), none, .fieldAddr 12 (.tmp 5), 9, [], false⟩,
  ⟨none, none, .store 1 (.tmp 50) (.const (.bool true)), 8, [(false, none, none, 5, .load 1 false (.tmp 47))], false⟩,
  ⟨(some 52), none, .adArr 12 1 (.tmp 51) (.tmp 44), 10, [], true⟩,
  ⟨none, none, .store 1 (.tmp 52) (.tmp 48), 11, [], true⟩]) .skip)))
 (.region 3 [
  ⟨(some 37), none, .mv (.tmp 6), 0, [], true⟩,
  ⟨(some 38), none, .bin .add (.tmp 37) (.const (.int .i64 1)), 1, [], true⟩,
  ⟨(some 6), none, .mv (.tmp 38), 2, [], true⟩]))))))
 (.seq (.region 2 [
  ⟨(some 53), none, .mv (.tmp 0), 0, [], true⟩,
  ⟨(some 54), none, .call (.func 148) [(.tmp 53)], 1, [], true⟩])
 (.seq (.region 5 [
  ⟨(some 55), none, .mv (.tmp 0), 0, [], true⟩,
  ⟨(some 56), none, .mv (.tmp 3), 1, [], true⟩,
  ⟨(some 57), none, .bin .sub (.tmp 56) (.const (.int .i64 2)), 2, [], true⟩,
  ⟨(some 58), none, .load 24 true (.tmp 5), 3, [], true⟩,
  ⟨(some 59), none, .call (.func 177) [(.tmp 55), (.tmp 57), (.tmp 58)], 4, [], true⟩])
 (.seq (.region 1 [
  ⟨(some 2), none, .mv (.const (.int .i64 0)), 0, [], true⟩])
 .ret))))))))⟩

def m150 : MFn := ⟨60, [(6, none)], (.seq (.region 1 [
  ⟨(some 6), none, .mv (.const (.int .i64 0)), 0, [], true⟩])
 (.seq (.block 0 (.seq (.region 3 [
  ⟨(some 9), none, .mv (.tmp 0), 0, [], true⟩,
  ⟨(some 10), none, .eq false .ptr (.tmp 9) (.const (.pointer none)), 1, [], true⟩,
  ⟨(some 8), none, .mv (.tmp 10), 2, [], true⟩])
 (.cond (.tmp 8) (.seq (.region 1 [
  ⟨(some 6), none, .mv (.const (.int .i64 1)), 0, [], true⟩])
 .ret) (.seq (.region 7 [
  ⟨(some 12), none, .mv (.tmp 1), 0, [], true⟩,
  ⟨(some 13), none, .bin .lss (.tmp 12) (.const (.int .i64 0)), 1, [], true⟩,
  ⟨(some 14), none, .mv (.tmp 13), 2, [], true⟩,
  ⟨(some 15), (some (14, false)), .mv (.tmp 1), 3, [], true⟩,
  ⟨(some 16), (some (14, false)), .bin .geq (.tmp 15) (.const (.int .i64 12)), 4, [], true⟩,
  ⟨(some 17), none, .pick (.tmp 14) (.const (.bool true)) (.tmp 16), 5, [], true⟩,
  ⟨(some 11), none, .mv (.tmp 17), 6, [], true⟩])
 (.cond (.tmp 11) (.seq (.region 1 [
  ⟨(some 6), none, .mv (.const (.int .i64 2)), 0, [], true⟩])
 .ret) (.seq (.region 4 [
  ⟨(some 19), none, .mv (.tmp 2), 0, [], true⟩,
  ⟨(some 20), none, .call (.func 88) [(.tmp 19)], 1, [], true⟩,
  ⟨(some 21), none, .un .not (.tmp 20), 2, [], true⟩,
  ⟨(some 18), none, .mv (.tmp 21), 3, [], true⟩])
 (.cond (.tmp 18) (.seq (.region 1 [
  ⟨(some 6), none, .mv (.const (.int .i64 3)), 0, [], true⟩])
 .ret) .skip)))))))
 (.seq (.region 14 [
  ⟨(some 22), none, .mv (.tmp 0), 0, [], true⟩,
  ⟨(some 23), none, .nilCheck (.tmp 22), 1, [], true⟩,
  ⟨(some 24), none, .fieldAddr 0 (.tmp 23), 2, [], true⟩,
  ⟨(some 25), none, .load 1 false (.tmp 24), 3, [], true⟩,
  ⟨(some 26), none, .mv (.tmp 0), 4, [], false⟩,
  ⟨(some 27), none, .nilCheck (.tmp 26), 5, [], false⟩,
  ⟨(some 28), none, .fieldAddr 0 (.tmp 27), 6, [], false⟩,
  ⟨(some 29), none, .load 1 false (.tmp 28), 7, [], false⟩,
  ⟨(some 30), none, .len false (.tmp 29), 8, [], false⟩,
  ⟨(some 31), none, .bin .sub (.tmp 30) (.const (.int .i64 1)), 9, [], false⟩,
  ⟨(some 32), none, .adSl 24 (.tmp 25) (.tmp 31), 10, [], true⟩,
  ⟨(some 33), none, .load 24 true (.tmp 32), 11, [], true⟩,
  ⟨(some 7), none, .alloc [(.bool false), (.bool false), (.bool false), (.bool false), (.bool false), (.bool false), (.bool false), (.bool false), (.bool false), (.bool false), (.bool false), (.bool false), (.int .u64 0), (.int .u64 0), (.int .u64 0), (.int .u64 0), (.int .u64 0), (.int .u64 0), (.int .u64 0), (.int .u64 0), (.int .u64 0), (.int .u64 0), (.int .u64 0), (.int .u64 0)] 183, 12, [], false⟩,
  ⟨none, none, .store 24 (.tmp 7) (.tmp 33), 13, [], true⟩])
 (.seq (.seq (.region 10 [
  ⟨(some 34), none, .mv (.tmp 1), 0, [], true⟩,
  ⟨(some 35), none, .fieldAddr 0 (.tmp 7), 1, [], true⟩,
  ⟨(some 36), none, .adArr 12 1 (.tmp 35) (.tmp 34), 2, [], true⟩,
  ⟨(some 37), none, .load 1 false (.tmp 36), 3, [], true⟩,
  ⟨(some 38), none, .un .not (.tmp 37), 4, [], true⟩,
  ⟨(some 39), none, .mv (.tmp 38), 5, [], true⟩,
  ⟨(some 40), (some (39, true)), .mv (.tmp 0), 6, [], true⟩,
  ⟨(some 41), (some (39, true)), .call (.func 178) [(.tmp 40)], 7, [], true⟩,
  ⟨(some 42), (some (39, true)), .bin .geq (.tmp 41) (.const (.int .i64 16)), 8, [], true⟩,
  ⟨(some 43), none, .pick (.tmp 39) (.tmp 42) (.const (.bool false)), 9, [], true⟩])
 (.cond (.tmp 43) (.seq (.region 1 [
  ⟨(some 6), none, .mv (.const (.int .i64 4)), 0, [], true⟩])
 .ret) .skip))
 (.seq (.region 9 [
  ⟨(some 44), none, .mv (.tmp 1), 0, [], true⟩,
  ⟨(some 45), none, .mv (.tmp 1), 1, [], true⟩,
  ⟨(some 46), none, .mv (.tmp 2), 2, [], true⟩,
  ⟨(some 47), none, .fieldAddr 0 (.tmp 7), 3, [], true⟩,
  ⟨(some 48), none, .adArr 12 1 (.tmp 47) (.tmp 44), 4, [], true⟩,
  ⟨none, none, .store 1 (.tmp 48) (.const (.bool true)), 5, [], true⟩,
  ⟨(some 49), none, .fieldAddr 12 (.tmp 7), 6, [], true⟩,
  ⟨(some 50), none, .adArr 12 1 (.tmp 49) (.tmp 45), 7, [], true⟩,
  ⟨none, none, .store 1 (.tmp 50) (.tmp 46), 8, [], true⟩])
 (.seq (.region 9 [
  ⟨(some 51), none, .mv (.tmp 0), 0, [], true⟩,
  ⟨(some 52), none, .mv (.tmp 0), 1, [], false⟩,
  ⟨(some 53), none, .nilCheck (.tmp 52), 2, [], false⟩,
  ⟨(some 54), none, .fieldAddr 0 (.tmp 53), 3, [], false⟩,
  ⟨(some 55), none, .load 1 false (.tmp 54), 4, [], false⟩,
  ⟨(some 56), none, .len false (.tmp 55), 5, [], false⟩,
  ⟨(some 57), none, .bin .sub (.tmp 56) (.const (.int .i64 1)), 6, [], false⟩,
  ⟨(some 58), none, .load 24 true (.tmp 7), 7, [], false⟩,
  ⟨(some 59), none, .call (.func 177) [(.tmp 51), (.tmp 57), (.tmp 58)], 8, [], true⟩])
 (.seq (.region 1 [
  ⟨(some 6), none, .mv (.const (.int .i64 0)), 0, [], true⟩])
 .ret)))))))⟩

def m151 : MFn := ⟨12, [], (.seq (.region 1 [
  ⟨(some 4), none, .recover, 0, [], true⟩])
 (.block 0 (.seq (.region 1 [
  ⟨(some 6), none, .eq false .iface (.tmp 4) (.const .nilIface), 0, [], true⟩])
 (.cond (.tmp 6) (.region 1 [
  ⟨(some 1), none, .mv (.tmp 4), 0, [], true⟩]) (.seq (.region 3 [
  ⟨(some 7), none, .assertT 187 (.agg #[(.int .i64 0)]) (.tmp 4), 0, [], true⟩,
  ⟨(some 8), none, .extract (.tmp 7) 1, 1, [], true⟩,
  ⟨(some 9), none, .extract (.tmp 7) 0, 2, [], true⟩])
 (.cond (.tmp 8) (.seq (.region 2 [
  ⟨(some 2), none, .alloc [(.int .i64 0)] 187, 0, [], true⟩,
  ⟨none, none, .store 1 (.tmp 2) (.tmp 9), 1, [], true⟩])
 (.region 3 [
  ⟨(some 10), none, .fieldAddr 0 (.tmp 2), 0, [], true⟩,
  ⟨(some 11), none, .load 1 false (.tmp 10), 1, [], true⟩,
  ⟨none, none, .store 1 (.tmp 0) (.tmp 11), 2, [], true⟩])) (.seq (.region 1 [
  ⟨(some 3), none, .mv (.tmp 4), 0, [], true⟩])
 (.region 2 [
  ⟨(some 5), none, .mv (.tmp 3), 0, [], true⟩,
  ⟨none, none, .panic (.tmp 5), 1, [], true⟩]))))))))⟩

def m152 : MFn := ⟨6, [(2, none)], (.seq (.region 1 [
  ⟨(some 2), none, .mv (.const (.int .u64 0)), 0, [], true⟩])
 (.seq (.seq (.region 2 [
  ⟨(some 3), none, .mv (.tmp 0), 0, [], true⟩,
  ⟨(some 4), none, .call (.func 86) [(.tmp 3)], 1, [], true⟩])
 (.cond (.tmp 4) (.seq (.region 2 [
  ⟨(some 5), none, .mv (.tmp 0), 0, [], true⟩,
  ⟨(some 2), none, .mv (.tmp 5), 1, [], true⟩])
 .ret) .skip))
 (.seq (.region 1 [
  ⟨(some 2), none, .mv (.const (.int .u64 9221120237041090560)), 0, [], true⟩])
 .ret)))⟩

def m153 : MFn := ⟨9, [(6, none)], (.seq (.region 4 [
  ⟨(some 3), none, .box 76 (.tmp 0), 0, [], true⟩,
  ⟨(some 4), none, .box 3 (.tmp 1), 1, [], true⟩,
  ⟨(some 5), none, .box 192 (.tmp 2), 2, [], true⟩,
  ⟨(some 6), none, .mv (.const (.int .i64 0)), 3, [], true⟩])
 (.seq (.region 3 [
  ⟨(some 7), none, .func (.func 179) [] [(.tmp 3), (.tmp 4), (.tmp 5)], 0, [], true⟩,
  ⟨(some 8), none, .call (.func 109) [(.tmp 7)], 1, [], true⟩,
  ⟨(some 6), none, .mv (.tmp 8), 2, [], true⟩])
 .ret))⟩

def m154 : MFn := ⟨5, [(2, none)], (.seq (.region 1 [
  ⟨(some 2), none, .mv (.const (.int .u64 0)), 0, [], true⟩])
 (.seq (.region 3 [
  ⟨(some 3), none, .mv (.tmp 0), 0, [], true⟩,
  ⟨(some 4), none, .bin .sub (.tmp 3) (.const (.int .u64 1)), 1, [], true⟩,
  ⟨(some 2), none, .mv (.tmp 4), 2, [], true⟩])
 .ret))⟩

def m155 : MFn := ⟨42, [], (.seq (.region 3 [
  ⟨(some 3), none, .load 1 false (.tmp 0), 0, [], true⟩,
  ⟨(some 4), none, .eq true .ptr (.tmp 3) (.const (.pointer none)), 1, [], true⟩,
  ⟨(some 5), none, .call (.func 111) [(.tmp 4), (.const (.int .i64 1))], 2, [], true⟩])
 (.seq (.region 7 [
  ⟨(some 6), none, .load 1 false (.tmp 1), 0, [], true⟩,
  ⟨(some 7), none, .bin .geq (.tmp 6) (.const (.int .i64 0)), 1, [], true⟩,
  ⟨(some 8), none, .mv (.tmp 7), 2, [], true⟩,
  ⟨(some 9), (some (8, true)), .load 1 false (.tmp 1), 3, [], true⟩,
  ⟨(some 10), (some (8, true)), .bin .lss (.tmp 9) (.const (.int .i64 4)), 4, [], true⟩,
  ⟨(some 11), none, .pick (.tmp 8) (.tmp 10) (.const (.bool false)), 5, [], true⟩,
  ⟨(some 12), none, .call (.func 111) [(.tmp 11), (.const (.int .i64 2))], 6, [], true⟩])
 (.seq (.region 6 [
  ⟨(some 13), none, .load 1 false (.tmp 0), 0, [], true⟩,
  ⟨(some 14), none, .nilCheck (.tmp 13), 1, [], true⟩,
  ⟨(some 15), none, .fieldAddr 0 (.tmp 14), 2, [], true⟩,
  ⟨(some 16), none, .load 1 false (.tmp 15), 3, [], true⟩,
  ⟨(some 17), none, .eq false .ptr (.tmp 16) (.const (.pointer none)), 4, [], true⟩,
  ⟨(some 18), none, .call (.func 111) [(.tmp 17), (.const (.int .i64 7))], 5, [], true⟩])
 (.seq (.region 7 [
  ⟨(some 19), none, .load 1 false (.tmp 0), 0, [], true⟩,
  ⟨(some 20), none, .nilCheck (.tmp 19), 1, [], true⟩,
  ⟨(some 21), none, .fieldAddr 1 (.tmp 20), 2, [], true⟩,
  ⟨(some 22), none, .load 1 false (.tmp 21), 3, [], true⟩,
  ⟨(some 23), none, .load 1 false (.tmp 2), 4, [], false⟩,
  ⟨(some 24), none, .bin .eql (.tmp 22) (.tmp 23), 5, [], true⟩,
  ⟨(some 25), none, .call (.func 111) [(.tmp 24), (.const (.int .i64 8))], 6, [], true⟩])
 (.seq (.region 6 [
  ⟨(some 26), none, .load 1 false (.tmp 0), 0, [], true⟩,
  ⟨(some 27), none, .nilCheck (.tmp 26), 1, [], true⟩,
  ⟨(some 28), none, .fieldAddr 1 (.tmp 27), 2, [], true⟩,
  ⟨(some 29), none, .load 1 false (.tmp 28), 3, [], true⟩,
  ⟨(some 30), none, .bin .lss (.tmp 29) (.const (.int .u64 1099511627775)), 4, [], true⟩,
  ⟨(some 31), none, .call (.func 111) [(.tmp 30), (.const (.int .i64 4))], 5, [], true⟩])
 (.seq (.region 4 [
  ⟨(some 32), none, .load 1 false (.tmp 0), 0, [], true⟩,
  ⟨(some 33), none, .nilCheck (.tmp 32), 1, [], true⟩,
  ⟨(some 34), none, .fieldAddr 0 (.tmp 33), 2, [], true⟩,
  ⟨none, none, .store 1 (.tmp 34) (.tmp 1), 3, [], true⟩])
 (.region 8 [
  ⟨(some 35), none, .load 1 false (.tmp 0), 0, [], true⟩,
  ⟨(some 36), none, .nilCheck (.tmp 35), 1, [], true⟩,
  ⟨(some 37), none, .fieldAddr 1 (.tmp 36), 2, [], true⟩,
  ⟨(some 38), none, .load 1 false (.tmp 37), 3, [], true⟩,
  ⟨(some 39), none, .bin .add (.tmp 38) (.const (.int .u64 1)), 4, [], true⟩,
  ⟨(some 40), none, .nilCheck (.tmp 35), 5, [], true⟩,
  ⟨(some 41), none, .fieldAddr 1 (.tmp 40), 6, [], true⟩,
  ⟨none, none, .store 1 (.tmp 41) (.tmp 39), 7, [], true⟩])))))))⟩

def m156 : MFn := ⟨5, [(2, none)], (.seq (.region 1 [
  ⟨(some 2), none, .mv (.const (.int .u64 0)), 0, [], true⟩])
 (.seq (.region 3 [
  ⟨(some 3), none, .mv (.tmp 0), 0, [], true⟩,
  ⟨(some 4), none, .bin .add (.tmp 3) (.const (.int .u64 1)), 1, [], true⟩,
  ⟨(some 2), none, .mv (.tmp 4), 2, [], true⟩])
 .ret))⟩

def m157 : MFn := ⟨16, [], (.block 0 (.loop (.seq (.seq (.region 2 [
  ⟨(some 3), none, .load 1 false (.tmp 1), 0, [], true⟩,
  ⟨(some 4), none, .eq true .ptr (.tmp 3) (.const (.pointer none)), 1, [], true⟩])
 (.cond (.tmp 4) .skip (.exit 0)))
 (.seq (.block 1 (.seq (.region 7 [
  ⟨(some 9), none, .mv (.tmp 0), 0, [], true⟩,
  ⟨(some 10), none, .load 1 false (.tmp 1), 1, [], true⟩,
  ⟨(some 11), none, .nilCheck (.tmp 10), 2, [], true⟩,
  ⟨(some 12), none, .fieldAddr 0 (.tmp 11), 3, [], true⟩,
  ⟨(some 13), none, .load 1 false (.tmp 12), 4, [], true⟩,
  ⟨(some 14), none, .call (.tmp 9) [(.tmp 13)], 5, [], true⟩,
  ⟨(some 15), none, .un .not (.tmp 14), 6, [], true⟩])
 (.cond (.tmp 15) .ret .skip)))
 (.region 5 [
  ⟨(some 5), none, .load 1 false (.tmp 1), 0, [], true⟩,
  ⟨(some 6), none, .nilCheck (.tmp 5), 1, [], true⟩,
  ⟨(some 7), none, .fieldAddr 1 (.tmp 6), 2, [], true⟩,
  ⟨(some 8), none, .load 1 false (.tmp 7), 3, [], true⟩,
  ⟨none, none, .store 1 (.tmp 1) (.tmp 8), 4, [], true⟩])))))⟩

def m158 : MFn := ⟨39, [(2, none), (3, none)], (.seq (.region 2 [
  ⟨(some 2), none, .mv (.const (.slice none 0 0)), 0, [], true⟩,
  ⟨(some 3), none, .mv (.const (.int .i64 0)), 1, [], true⟩])
 (.seq (.block 0 (.seq (.region 3 [
  ⟨(some 6), none, .mv (.tmp 0), 0, [], true⟩,
  ⟨(some 7), none, .eq false .ptr (.tmp 6) (.const (.pointer none)), 1, [], true⟩,
  ⟨(some 5), none, .mv (.tmp 7), 2, [], true⟩])
 (.cond (.tmp 5) (.seq (.region 2 [
  ⟨(some 2), none, .mv (.const (.slice none 0 0)), 0, [], true⟩,
  ⟨(some 3), none, .mv (.const (.int .i64 1)), 1, [], true⟩])
 .ret) (.seq (.region 6 [
  ⟨(some 9), none, .mv (.tmp 0), 0, [], true⟩,
  ⟨(some 10), none, .nilCheck (.tmp 9), 1, [], true⟩,
  ⟨(some 11), none, .fieldAddr 1 (.tmp 10), 2, [], true⟩,
  ⟨(some 12), none, .load 1 false (.tmp 11), 3, [], true⟩,
  ⟨(some 13), none, .bin .eql (.tmp 12) (.const (.int .i64 0)), 4, [], true⟩,
  ⟨(some 8), none, .mv (.tmp 13), 5, [], true⟩])
 (.cond (.tmp 8) (.seq (.region 2 [
  ⟨(some 2), none, .mv (.const (.slice none 0 0)), 0, [], true⟩,
  ⟨(some 3), none, .mv (.const (.int .i64 8)), 1, [], true⟩])
 .ret) .skip)))))
 (.seq (.region 8 [
  ⟨(some 14), none, .mv (.tmp 0), 0, [], true⟩,
  ⟨(some 15), none, .nilCheck (.tmp 14), 1, [], true⟩,
  ⟨(some 16), none, .fieldAddr 0 (.tmp 15), 2, [], true⟩,
  ⟨(some 17), none, .load 1 false (.tmp 16), 3, [], true⟩,
  ⟨(some 18), none, .nilCheck (.tmp 17), 4, [], true⟩,
  ⟨(some 19), none, .fieldAddr 0 (.tmp 18), 5, [], true⟩,
  ⟨(some 20), none, .load 1 false (.tmp 19), 6, [], true⟩,
  ⟨(some 4), none, .mv (.tmp 20), 7, [], true⟩])
 (.seq (.region 11 [
  ⟨(some 21), none, .mv (.tmp 0), 0, [], true⟩,
  ⟨(some 22), none, .mv (.tmp 0), 1, [], true⟩,
  ⟨(some 23), none, .nilCheck (.tmp 22), 2, [], true⟩,
  ⟨(some 24), none, .fieldAddr 0 (.tmp 23), 3, [], true⟩,
  ⟨(some 25), none, .load 1 false (.tmp 24), 4, [], true⟩,
  ⟨(some 26), none, .nilCheck (.tmp 25), 5, [], true⟩,
  ⟨(some 27), none, .fieldAddr 1 (.tmp 26), 6, [], true⟩,
  ⟨(some 28), none, .load 1 false (.tmp 27), 7, [], true⟩,
  ⟨(some 29), none, .nilCheck (.tmp 21), 8, [], true⟩,
  ⟨(some 30), none, .fieldAddr 0 (.tmp 29), 9, [], true⟩,
  ⟨none, none, .store 1 (.tmp 30) (.tmp 28), 10, [], true⟩])
 (.seq (.region 8 [
  ⟨(some 31), none, .mv (.tmp 0), 0, [], true⟩,
  ⟨(some 32), none, .nilCheck (.tmp 31), 1, [], true⟩,
  ⟨(some 33), none, .fieldAddr 1 (.tmp 32), 2, [], true⟩,
  ⟨(some 34), none, .load 1 false (.tmp 33), 3, [], true⟩,
  ⟨(some 35), none, .bin .sub (.tmp 34) (.const (.int .i64 1)), 4, [], true⟩,
  ⟨(some 36), none, .nilCheck (.tmp 31), 5, [], true⟩,
  ⟨(some 37), none, .fieldAddr 1 (.tmp 36), 6, [], true⟩,
  ⟨none, none, .store 1 (.tmp 37) (.tmp 35), 7, [], true⟩])
 (.seq (.region 3 [
  ⟨(some 38), none, .mv (.tmp 4), 0, [], true⟩,
  ⟨(some 2), none, .mv (.tmp 38), 1, [], true⟩,
  ⟨(some 3), none, .mv (.const (.int .i64 0)), 2, [], true⟩])
 .ret))))))⟩

def m159 : MFn := ⟨34, [(4, none)], (.seq (.region 2 [
  ⟨(some 3), none, .box 133 (.tmp 1), 0, [], true⟩,
  ⟨(some 4), none, .mv (.const (.slice none 0 0)), 1, [], true⟩])
 (.seq (.region 3 [
  ⟨(some 7), none, .mv (.tmp 0), 0, [], true⟩,
  ⟨(some 8), none, .call (.func 180) [(.tmp 7)], 1, [], true⟩,
  ⟨(some 5), none, .mv (.tmp 8), 2, [], true⟩])
 (.seq (.seq (.region 3 [
  ⟨(some 9), none, .mv (.tmp 5), 0, [], true⟩,
  ⟨(some 10), none, .len false (.tmp 9), 1, [], true⟩,
  ⟨(some 11), none, .mv (.const (.int .i64 0)), 2, [], true⟩])
 (.block 0 (.loop (.seq (.region 1 [
  ⟨(some 12), none, .bin .lss (.tmp 11) (.tmp 10), 0, [], true⟩])
 (.seq (.cond (.tmp 12) .skip (.exit 0))
 (.seq (.block 1 (.seq (.region 2 [
  ⟨(some 13), none, .mv (.tmp 11), 0, [], true⟩,
  ⟨(some 6), none, .mv (.tmp 13), 1, [], true⟩])
 (.seq (.region 8 [
  ⟨(some 14), none, .mv (.tmp 5), 0, [], true⟩,
  ⟨(some 15), none, .mv (.tmp 6), 1, [], false⟩,
  ⟨(some 16), none, .adSl 2 (.tmp 14) (.tmp 15), 2, [], true⟩,
  ⟨(some 17), none, .fieldAddr 0 (.tmp 16), 3, [], true⟩,
  ⟨(some 18), none, .load 1 false (.tmp 17), 4, [], true⟩,
  ⟨(some 19), none, .fieldAddr 0 (.tmp 3), 5, [], false⟩,
  ⟨(some 20), none, .load 1 false (.tmp 19), 6, [], false⟩,
  ⟨(some 21), none, .bin .eql (.tmp 18) (.tmp 20), 7, [], true⟩])
 (.cond (.tmp 21) (.seq (.region 7 [
  ⟨(some 22), none, .mv (.tmp 5), 0, [], true⟩,
  ⟨(some 23), none, .mv (.tmp 6), 1, [], true⟩,
  ⟨(some 24), none, .fieldAddr 1 (.tmp 3), 2, [], true⟩,
  ⟨(some 25), none, .load 1 false (.tmp 24), 3, [], true⟩,
  ⟨(some 26), none, .adSl 2 (.tmp 22) (.tmp 23), 4, [], true⟩,
  ⟨(some 27), none, .fieldAddr 1 (.tmp 26), 5, [], true⟩,
  ⟨none, none, .store 1 (.tmp 27) (.tmp 25), 6, [], true⟩])
 (.seq (.region 2 [
  ⟨(some 28), none, .mv (.tmp 5), 0, [], true⟩,
  ⟨(some 4), none, .mv (.tmp 28), 1, [], true⟩])
 .ret)) .skip))))
 (.region 2 [
  ⟨(some 29), none, .bin .add (.tmp 11) (.const (.int .i64 1)), 0, [], true⟩,
  ⟨(some 11), none, .mv (.tmp 29), 1, [], true⟩])))))))
 (.seq (.region 5 [
  ⟨(some 30), none, .mv (.tmp 5), 0, [], true⟩,
  ⟨(some 31), none, .load 2 true (.tmp 3), 1, [], true⟩,
  ⟨(some 32), none, .buildSl 133 2 1 [(.int .i64 0), (.int .u64 0)] [(0, 2, (.tmp 31))], 2, [], true⟩,
  ⟨(some 33), none, .append 133 2 16 (.tmp 30) (.tmp 32), 3, [], true⟩,
  ⟨(some 4), none, .mv (.tmp 33), 4, [], true⟩])
 .ret))))⟩

def m160 : MFn := ⟨18, [(2, none)], (.seq (.region 1 [
  ⟨(some 2), none, .mv (.const (.int .i64 0)), 0, [], true⟩])
 (.seq (.seq (.region 2 [
  ⟨(some 5), none, .mv (.tmp 0), 0, [], true⟩,
  ⟨(some 6), none, .eq false .ptr (.tmp 5) (.const (.pointer none)), 1, [], true⟩])
 (.cond (.tmp 6) (.seq (.region 1 [
  ⟨(some 2), none, .mv (.const (.int .i64 0)), 0, [], true⟩])
 .ret) .skip))
 (.seq (.region 2 [
  ⟨(some 3), none, .alloc [(.int .i64 0)] 3, 0, [], true⟩,
  ⟨none, none, .store 1 (.tmp 3) (.const (.int .i64 0)), 1, [], true⟩])
 (.seq (.seq (.region 5 [
  ⟨(some 7), none, .mv (.tmp 0), 0, [], true⟩,
  ⟨(some 8), none, .nilCheck (.tmp 7), 1, [], true⟩,
  ⟨(some 9), none, .fieldAddr 0 (.tmp 8), 2, [], true⟩,
  ⟨(some 10), none, .load 1 false (.tmp 9), 3, [], true⟩,
  ⟨(some 11), none, .call (.func 121) [(.tmp 10)], 4, [], true⟩])
 (.block 0 (.rangeF (.tmp 11) [12] (.region 1 [
  ⟨(some 4), none, .mv (.tmp 12), 0, [], true⟩]) (.block 1 (.region 5 [
  ⟨(some 13), none, .load 1 false (.tmp 3), 0, [], true⟩,
  ⟨(some 14), none, .mv (.tmp 4), 1, [], true⟩,
  ⟨(some 15), none, .len false (.tmp 14), 2, [], true⟩,
  ⟨(some 16), none, .bin .add (.tmp 13) (.tmp 15), 3, [], true⟩,
  ⟨none, none, .store 1 (.tmp 3) (.tmp 16), 4, [], true⟩])))))
 (.seq (.region 2 [
  ⟨(some 17), none, .load 1 false (.tmp 3), 0, [], true⟩,
  ⟨(some 2), none, .mv (.tmp 17), 1, [], true⟩])
 .ret)))))⟩

def m161 : MFn := ⟨53, [], (.seq (.region 3 [
  ⟨(some 10), none, .mv (.tmp 1), 0, [], true⟩,
  ⟨(some 11), none, .bin .add (.tmp 10) (.const (.int .i64 1)), 1, [], true⟩,
  ⟨(some 8), none, .mv (.tmp 11), 2, [], true⟩])
 (.block 0 (.loop (.seq (.seq (.region 3 [
  ⟨(some 12), none, .mv (.tmp 8), 0, [], true⟩,
  ⟨(some 13), none, .mv (.tmp 2), 1, [], true⟩,
  ⟨(some 14), none, .bin .lss (.tmp 12) (.tmp 13), 2, [], true⟩])
 (.cond (.tmp 14) .skip (.exit 0)))
 (.seq (.block 1 (.seq (.region 2 [
  ⟨(some 17), none, .mv (.tmp 8), 0, [], true⟩,
  ⟨(some 9), none, .mv (.tmp 17), 1, [], true⟩])
 (.block 2 (.loop (.seq (.seq (.region 17 [
  ⟨(some 18), none, .mv (.tmp 9), 0, [], true⟩,
  ⟨(some 19), none, .mv (.tmp 1), 1, [], false⟩,
  ⟨(some 20), none, .bin .gtr (.tmp 18) (.tmp 19), 2, [], true⟩,
  ⟨(some 21), none, .mv (.tmp 20), 3, [], true⟩,
  ⟨(some 22), (some (21, true)), .mv (.tmp 3), 4, [], true⟩,
  ⟨(some 23), (some (21, true)), .mv (.tmp 0), 5, [], false⟩,
  ⟨(some 24), (some (21, true)), .mv (.tmp 9), 6, [], false⟩,
  ⟨(some 25), (some (21, true)), .adSl 1 (.tmp 23) (.tmp 24), 7, [], false⟩,
  ⟨(some 26), (some (21, true)), .load 1 false (.tmp 25), 8, [], false⟩,
  ⟨(some 27), (some (21, true)), .mv (.tmp 0), 9, [], false⟩,
  ⟨(some 28), (some (21, true)), .mv (.tmp 9), 10, [], false⟩,
  ⟨(some 29), (some (21, true)), .bin .sub (.tmp 28) (.const (.int .i64 1)), 11, [], false⟩,
  ⟨(some 30), (some (21, true)), .adSl 1 (.tmp 27) (.tmp 29), 12, [], false⟩,
  ⟨(some 31), (some (21, true)), .load 1 false (.tmp 30), 13, [], false⟩,
  ⟨(some 32), (some (21, true)), .call (.tmp 22) [(.tmp 26), (.tmp 31)], 14, [], true⟩,
  ⟨(some 33), (some (21, true)), .bin .lss (.tmp 32) (.const (.int .i64 0)), 15, [], true⟩,
  ⟨(some 34), none, .pick (.tmp 21) (.tmp 33) (.const (.bool false)), 16, [], true⟩])
 (.cond (.tmp 34) .skip (.exit 2)))
 (.seq (.block 3 (.region 18 [
  ⟨(some 37), none, .mv (.tmp 0), 0, [], true⟩,
  ⟨(some 38), none, .mv (.tmp 9), 1, [], false⟩,
  ⟨(some 39), none, .mv (.tmp 0), 2, [], false⟩,
  ⟨(some 40), none, .mv (.tmp 9), 3, [], false⟩,
  ⟨(some 41), none, .bin .sub (.tmp 40) (.const (.int .i64 1)), 4, [], false⟩,
  ⟨(some 42), none, .mv (.tmp 0), 5, [], false⟩,
  ⟨(some 43), none, .mv (.tmp 9), 6, [], false⟩,
  ⟨(some 44), none, .bin .sub (.tmp 43) (.const (.int .i64 1)), 7, [], false⟩,
  ⟨(some 45), none, .adSl 1 (.tmp 42) (.tmp 44), 8, [], false⟩,
  ⟨(some 46), none, .load 1 false (.tmp 45), 9, [], false⟩,
  ⟨(some 47), none, .mv (.tmp 0), 10, [], false⟩,
  ⟨(some 48), none, .mv (.tmp 9), 11, [], false⟩,
  ⟨(some 49), none, .adSl 1 (.tmp 47) (.tmp 48), 12, [], false⟩,
  ⟨(some 50), none, .load 1 false (.tmp 49), 13, [], false⟩,
  ⟨(some 51), none, .adSl 1 (.tmp 37) (.tmp 38), 14, [], false⟩,
  ⟨none, none, .store 1 (.tmp 51) (.tmp 46), 15, [], false⟩,
  ⟨(some 52), none, .adSl 1 (.tmp 39) (.tmp 41), 16, [], true⟩,
  ⟨none, none, .store 1 (.tmp 52) (.tmp 50), 17, [], true⟩]))
 (.region 3 [
  ⟨(some 35), none, .mv (.tmp 9), 0, [], true⟩,
  ⟨(some 36), none, .bin .sub (.tmp 35) (.const (.int .i64 1)), 1, [], true⟩,
  ⟨(some 9), none, .mv (.tmp 36), 2, [], true⟩])))))))
 (.region 3 [
  ⟨(some 15), none, .mv (.tmp 8), 0, [], true⟩,
  ⟨(some 16), none, .bin .add (.tmp 15) (.const (.int .i64 1)), 1, [], true⟩,
  ⟨(some 8), none, .mv (.tmp 16), 2, [], true⟩]))))))⟩

def m162 : MFn := ⟨220, [], (.seq (.seq (.region 4 [
  ⟨(some 25), none, .mv (.tmp 2), 0, [], true⟩,
  ⟨(some 26), none, .mv (.tmp 1), 1, [], true⟩,
  ⟨(some 27), none, .bin .sub (.tmp 25) (.tmp 26), 2, [], true⟩,
  ⟨(some 28), none, .bin .eql (.tmp 27) (.const (.int .i64 1)), 3, [], true⟩])
 (.cond (.tmp 28) (.seq (.region 2 [
  ⟨(some 29), none, .mv (.tmp 2), 0, [], true⟩,
  ⟨(some 10), none, .mv (.tmp 29), 1, [], true⟩])
 (.seq (.region 2 [
  ⟨(some 30), none, .mv (.tmp 3), 0, [], true⟩,
  ⟨(some 11), none, .mv (.tmp 30), 1, [], true⟩])
 (.seq (.block 0 (.loop (.seq (.seq (.region 3 [
  ⟨(some 31), none, .mv (.tmp 10), 0, [], true⟩,
  ⟨(some 32), none, .mv (.tmp 11), 1, [], true⟩,
  ⟨(some 33), none, .bin .lss (.tmp 31) (.tmp 32), 2, [], true⟩])
 (.cond (.tmp 33) .skip (.exit 0)))
 (.block 1 (.seq (.region 7 [
  ⟨(some 34), none, .mv (.tmp 10), 0, [], true⟩,
  ⟨(some 35), none, .mv (.tmp 11), 1, [], true⟩,
  ⟨(some 36), none, .bin .add (.tmp 34) (.tmp 35), 2, [], true⟩,
  ⟨(some 37), none, .conv .u64 (.tmp 36), 3, [], true⟩,
  ⟨(some 38), none, .bin .shr (.tmp 37) (.const (.int .u64 1)), 4, [], true⟩,
  ⟨(some 39), none, .conv .i64 (.tmp 38), 5, [], true⟩,
  ⟨(some 12), none, .mv (.tmp 39), 6, [], true⟩])
 (.seq (.region 11 [
  ⟨(some 40), none, .mv (.tmp 4), 0, [], true⟩,
  ⟨(some 41), none, .mv (.tmp 0), 1, [], false⟩,
  ⟨(some 42), none, .mv (.tmp 12), 2, [], false⟩,
  ⟨(some 43), none, .adSl 1 (.tmp 41) (.tmp 42), 3, [], false⟩,
  ⟨(some 44), none, .load 1 false (.tmp 43), 4, [], false⟩,
  ⟨(some 45), none, .mv (.tmp 0), 5, [], false⟩,
  ⟨(some 46), none, .mv (.tmp 1), 6, [], false⟩,
  ⟨(some 47), none, .adSl 1 (.tmp 45) (.tmp 46), 7, [], false⟩,
  ⟨(some 48), none, .load 1 false (.tmp 47), 8, [], false⟩,
  ⟨(some 49), none, .call (.tmp 40) [(.tmp 44), (.tmp 48)], 9, [], true⟩,
  ⟨(some 50), none, .bin .lss (.tmp 49) (.const (.int .i64 0)), 10, [], true⟩])
 (.cond (.tmp 50) (.region 3 [
  ⟨(some 51), none, .mv (.tmp 12), 0, [], true⟩,
  ⟨(some 52), none, .bin .add (.tmp 51) (.const (.int .i64 1)), 1, [], true⟩,
  ⟨(some 10), none, .mv (.tmp 52), 2, [], true⟩]) (.region 2 [
  ⟨(some 53), none, .mv (.tmp 12), 0, [], true⟩,
  ⟨(some 11), none, .mv (.tmp 53), 1, [], true⟩]))))))))
 (.seq (.seq (.region 2 [
  ⟨(some 54), none, .mv (.tmp 1), 0, [], true⟩,
  ⟨(some 13), none, .mv (.tmp 54), 1, [], true⟩])
 (.block 2 (.loop (.seq (.seq (.region 4 [
  ⟨(some 55), none, .mv (.tmp 13), 0, [], true⟩,
  ⟨(some 56), none, .mv (.tmp 10), 1, [], true⟩,
  ⟨(some 57), none, .bin .sub (.tmp 56) (.const (.int .i64 1)), 2, [], true⟩,
  ⟨(some 58), none, .bin .lss (.tmp 55) (.tmp 57), 3, [], true⟩])
 (.cond (.tmp 58) .skip (.exit 2)))
 (.seq (.block 3 (.region 18 [
  ⟨(some 61), none, .mv (.tmp 0), 0, [], true⟩,
  ⟨(some 62), none, .mv (.tmp 13), 1, [], false⟩,
  ⟨(some 63), none, .mv (.tmp 0), 2, [], false⟩,
  ⟨(some 64), none, .mv (.tmp 13), 3, [], false⟩,
  ⟨(some 65), none, .bin .add (.tmp 64) (.const (.int .i64 1)), 4, [], false⟩,
  ⟨(some 66), none, .mv (.tmp 0), 5, [], false⟩,
  ⟨(some 67), none, .mv (.tmp 13), 6, [], false⟩,
  ⟨(some 68), none, .bin .add (.tmp 67) (.const (.int .i64 1)), 7, [], false⟩,
  ⟨(some 69), none, .adSl 1 (.tmp 66) (.tmp 68), 8, [], false⟩,
  ⟨(some 70), none, .load 1 false (.tmp 69), 9, [], false⟩,
  ⟨(some 71), none, .mv (.tmp 0), 10, [], false⟩,
  ⟨(some 72), none, .mv (.tmp 13), 11, [], false⟩,
  ⟨(some 73), none, .adSl 1 (.tmp 71) (.tmp 72), 12, [], false⟩,
  ⟨(some 74), none, .load 1 false (.tmp 73), 13, [], false⟩,
  ⟨(some 75), none, .adSl 1 (.tmp 61) (.tmp 62), 14, [], false⟩,
  ⟨none, none, .store 1 (.tmp 75) (.tmp 70), 15, [], false⟩,
  ⟨(some 76), none, .adSl 1 (.tmp 63) (.tmp 65), 16, [], true⟩,
  ⟨none, none, .store 1 (.tmp 76) (.tmp 74), 17, [], true⟩]))
 (.region 3 [
  ⟨(some 59), none, .mv (.tmp 13), 0, [], true⟩,
  ⟨(some 60), none, .bin .add (.tmp 59) (.const (.int .i64 1)), 1, [], true⟩,
  ⟨(some 13), none, .mv (.tmp 60), 2, [], true⟩]))))))
 .ret)))) .skip))
 (.seq (.seq (.region 4 [
  ⟨(some 77), none, .mv (.tmp 3), 0, [], true⟩,
  ⟨(some 78), none, .mv (.tmp 2), 1, [], true⟩,
  ⟨(some 79), none, .bin .sub (.tmp 77) (.tmp 78), 2, [], true⟩,
  ⟨(some 80), none, .bin .eql (.tmp 79) (.const (.int .i64 1)), 3, [], true⟩])
 (.cond (.tmp 80) (.seq (.region 2 [
  ⟨(some 81), none, .mv (.tmp 1), 0, [], true⟩,
  ⟨(some 14), none, .mv (.tmp 81), 1, [], true⟩])
 (.seq (.region 2 [
  ⟨(some 82), none, .mv (.tmp 2), 0, [], true⟩,
  ⟨(some 15), none, .mv (.tmp 82), 1, [], true⟩])
 (.seq (.block 4 (.loop (.seq (.seq (.region 3 [
  ⟨(some 83), none, .mv (.tmp 14), 0, [], true⟩,
  ⟨(some 84), none, .mv (.tmp 15), 1, [], true⟩,
  ⟨(some 85), none, .bin .lss (.tmp 83) (.tmp 84), 2, [], true⟩])
 (.cond (.tmp 85) .skip (.exit 4)))
 (.block 5 (.seq (.region 7 [
  ⟨(some 86), none, .mv (.tmp 14), 0, [], true⟩,
  ⟨(some 87), none, .mv (.tmp 15), 1, [], true⟩,
  ⟨(some 88), none, .bin .add (.tmp 86) (.tmp 87), 2, [], true⟩,
  ⟨(some 89), none, .conv .u64 (.tmp 88), 3, [], true⟩,
  ⟨(some 90), none, .bin .shr (.tmp 89) (.const (.int .u64 1)), 4, [], true⟩,
  ⟨(some 91), none, .conv .i64 (.tmp 90), 5, [], true⟩,
  ⟨(some 16), none, .mv (.tmp 91), 6, [], true⟩])
 (.seq (.region 12 [
  ⟨(some 92), none, .mv (.tmp 4), 0, [], true⟩,
  ⟨(some 93), none, .mv (.tmp 0), 1, [], false⟩,
  ⟨(some 94), none, .mv (.tmp 2), 2, [], false⟩,
  ⟨(some 95), none, .adSl 1 (.tmp 93) (.tmp 94), 3, [], false⟩,
  ⟨(some 96), none, .load 1 false (.tmp 95), 4, [], false⟩,
  ⟨(some 97), none, .mv (.tmp 0), 5, [], false⟩,
  ⟨(some 98), none, .mv (.tmp 16), 6, [], false⟩,
  ⟨(some 99), none, .adSl 1 (.tmp 97) (.tmp 98), 7, [], false⟩,
  ⟨(some 100), none, .load 1 false (.tmp 99), 8, [], false⟩,
  ⟨(some 101), none, .call (.tmp 92) [(.tmp 96), (.tmp 100)], 9, [], true⟩,
  ⟨(some 102), none, .bin .lss (.tmp 101) (.const (.int .i64 0)), 10, [], true⟩,
  ⟨(some 103), none, .un .not (.tmp 102), 11, [], true⟩])
 (.cond (.tmp 103) (.region 3 [
  ⟨(some 104), none, .mv (.tmp 16), 0, [], true⟩,
  ⟨(some 105), none, .bin .add (.tmp 104) (.const (.int .i64 1)), 1, [], true⟩,
  ⟨(some 14), none, .mv (.tmp 105), 2, [], true⟩]) (.region 2 [
  ⟨(some 106), none, .mv (.tmp 16), 0, [], true⟩,
  ⟨(some 15), none, .mv (.tmp 106), 1, [], true⟩]))))))))
 (.seq (.seq (.region 2 [
  ⟨(some 107), none, .mv (.tmp 2), 0, [], true⟩,
  ⟨(some 17), none, .mv (.tmp 107), 1, [], true⟩])
 (.block 6 (.loop (.seq (.seq (.region 3 [
  ⟨(some 108), none, .mv (.tmp 17), 0, [], true⟩,
  ⟨(some 109), none, .mv (.tmp 14), 1, [], true⟩,
  ⟨(some 110), none, .bin .gtr (.tmp 108) (.tmp 109), 2, [], true⟩])
 (.cond (.tmp 110) .skip (.exit 6)))
 (.seq (.block 7 (.region 18 [
  ⟨(some 113), none, .mv (.tmp 0), 0, [], true⟩,
  ⟨(some 114), none, .mv (.tmp 17), 1, [], false⟩,
  ⟨(some 115), none, .mv (.tmp 0), 2, [], false⟩,
  ⟨(some 116), none, .mv (.tmp 17), 3, [], false⟩,
  ⟨(some 117), none, .bin .sub (.tmp 116) (.const (.int .i64 1)), 4, [], false⟩,
  ⟨(some 118), none, .mv (.tmp 0), 5, [], false⟩,
  ⟨(some 119), none, .mv (.tmp 17), 6, [], false⟩,
  ⟨(some 120), none, .bin .sub (.tmp 119) (.const (.int .i64 1)), 7, [], false⟩,
  ⟨(some 121), none, .adSl 1 (.tmp 118) (.tmp 120), 8, [], false⟩,
  ⟨(some 122), none, .load 1 false (.tmp 121), 9, [], false⟩,
  ⟨(some 123), none, .mv (.tmp 0), 10, [], false⟩,
  ⟨(some 124), none, .mv (.tmp 17), 11, [], false⟩,
  ⟨(some 125), none, .adSl 1 (.tmp 123) (.tmp 124), 12, [], false⟩,
  ⟨(some 126), none, .load 1 false (.tmp 125), 13, [], false⟩,
  ⟨(some 127), none, .adSl 1 (.tmp 113) (.tmp 114), 14, [], false⟩,
  ⟨none, none, .store 1 (.tmp 127) (.tmp 122), 15, [], false⟩,
  ⟨(some 128), none, .adSl 1 (.tmp 115) (.tmp 117), 16, [], true⟩,
  ⟨none, none, .store 1 (.tmp 128) (.tmp 126), 17, [], true⟩]))
 (.region 3 [
  ⟨(some 111), none, .mv (.tmp 17), 0, [], true⟩,
  ⟨(some 112), none, .bin .sub (.tmp 111) (.const (.int .i64 1)), 1, [], true⟩,
  ⟨(some 17), none, .mv (.tmp 112), 2, [], true⟩]))))))
 .ret)))) .skip))
 (.seq (.region 7 [
  ⟨(some 129), none, .mv (.tmp 1), 0, [], true⟩,
  ⟨(some 130), none, .mv (.tmp 3), 1, [], true⟩,
  ⟨(some 131), none, .bin .add (.tmp 129) (.tmp 130), 2, [], true⟩,
  ⟨(some 132), none, .conv .u64 (.tmp 131), 3, [], true⟩,
  ⟨(some 133), none, .bin .shr (.tmp 132) (.const (.int .u64 1)), 4, [], true⟩,
  ⟨(some 134), none, .conv .i64 (.tmp 133), 5, [], true⟩,
  ⟨(some 18), none, .mv (.tmp 134), 6, [], true⟩])
 (.seq (.region 4 [
  ⟨(some 135), none, .mv (.tmp 18), 0, [], true⟩,
  ⟨(some 136), none, .mv (.tmp 2), 1, [], true⟩,
  ⟨(some 137), none, .bin .add (.tmp 135) (.tmp 136), 2, [], true⟩,
  ⟨(some 19), none, .mv (.tmp 137), 3, [], true⟩])
 (.seq (.region 2 [
  ⟨(some 20), none, .mv (.const (.int .i64 0)), 0, [], true⟩,
  ⟨(some 21), none, .mv (.const (.int .i64 0)), 1, [], true⟩])
 (.seq (.seq (.region 3 [
  ⟨(some 138), none, .mv (.tmp 2), 0, [], true⟩,
  ⟨(some 139), none, .mv (.tmp 18), 1, [], true⟩,
  ⟨(some 140), none, .bin .gtr (.tmp 138) (.tmp 139), 2, [], true⟩])
 (.cond (.tmp 140) (.seq (.region 4 [
  ⟨(some 141), none, .mv (.tmp 19), 0, [], true⟩,
  ⟨(some 142), none, .mv (.tmp 3), 1, [], true⟩,
  ⟨(some 143), none, .bin .sub (.tmp 141) (.tmp 142), 2, [], true⟩,
  ⟨(some 20), none, .mv (.tmp 143), 3, [], true⟩])
 (.region 2 [
  ⟨(some 144), none, .mv (.tmp 18), 0, [], true⟩,
  ⟨(some 21), none, .mv (.tmp 144), 1, [], true⟩])) (.seq (.region 2 [
  ⟨(some 145), none, .mv (.tmp 1), 0, [], true⟩,
  ⟨(some 20), none, .mv (.tmp 145), 1, [], true⟩])
 (.region 2 [
  ⟨(some 146), none, .mv (.tmp 2), 0, [], true⟩,
  ⟨(some 21), none, .mv (.tmp 146), 1, [], true⟩]))))
 (.seq (.region 3 [
  ⟨(some 147), none, .mv (.tmp 19), 0, [], true⟩,
  ⟨(some 148), none, .bin .sub (.tmp 147) (.const (.int .i64 1)), 1, [], true⟩,
  ⟨(some 22), none, .mv (.tmp 148), 2, [], true⟩])
 (.seq (.block 8 (.loop (.seq (.seq (.region 3 [
  ⟨(some 149), none, .mv (.tmp 20), 0, [], true⟩,
  ⟨(some 150), none, .mv (.tmp 21), 1, [], true⟩,
  ⟨(some 151), none, .bin .lss (.tmp 149) (.tmp 150), 2, [], true⟩])
 (.cond (.tmp 151) .skip (.exit 8)))
 (.block 9 (.seq (.region 7 [
  ⟨(some 152), none, .mv (.tmp 20), 0, [], true⟩,
  ⟨(some 153), none, .mv (.tmp 21), 1, [], true⟩,
  ⟨(some 154), none, .bin .add (.tmp 152) (.tmp 153), 2, [], true⟩,
  ⟨(some 155), none, .conv .u64 (.tmp 154), 3, [], true⟩,
  ⟨(some 156), none, .bin .shr (.tmp 155) (.const (.int .u64 1)), 4, [], true⟩,
  ⟨(some 157), none, .conv .i64 (.tmp 156), 5, [], true⟩,
  ⟨(some 23), none, .mv (.tmp 157), 6, [], true⟩])
 (.seq (.region 14 [
  ⟨(some 158), none, .mv (.tmp 4), 0, [], true⟩,
  ⟨(some 159), none, .mv (.tmp 0), 1, [], false⟩,
  ⟨(some 160), none, .mv (.tmp 22), 2, [], false⟩,
  ⟨(some 161), none, .mv (.tmp 23), 3, [], false⟩,
  ⟨(some 162), none, .bin .sub (.tmp 160) (.tmp 161), 4, [], false⟩,
  ⟨(some 163), none, .adSl 1 (.tmp 159) (.tmp 162), 5, [], false⟩,
  ⟨(some 164), none, .load 1 false (.tmp 163), 6, [], false⟩,
  ⟨(some 165), none, .mv (.tmp 0), 7, [], false⟩,
  ⟨(some 166), none, .mv (.tmp 23), 8, [], false⟩,
  ⟨(some 167), none, .adSl 1 (.tmp 165) (.tmp 166), 9, [], false⟩,
  ⟨(some 168), none, .load 1 false (.tmp 167), 10, [], false⟩,
  ⟨(some 169), none, .call (.tmp 158) [(.tmp 164), (.tmp 168)], 11, [], true⟩,
  ⟨(some 170), none, .bin .lss (.tmp 169) (.const (.int .i64 0)), 12, [], true⟩,
  ⟨(some 171), none, .un .not (.tmp 170), 13, [], true⟩])
 (.cond (.tmp 171) (.region 3 [
  ⟨(some 172), none, .mv (.tmp 23), 0, [], true⟩,
  ⟨(some 173), none, .bin .add (.tmp 172) (.const (.int .i64 1)), 1, [], true⟩,
  ⟨(some 20), none, .mv (.tmp 173), 2, [], true⟩]) (.region 2 [
  ⟨(some 174), none, .mv (.tmp 23), 0, [], true⟩,
  ⟨(some 21), none, .mv (.tmp 174), 1, [], true⟩]))))))))
 (.seq (.region 4 [
  ⟨(some 175), none, .mv (.tmp 19), 0, [], true⟩,
  ⟨(some 176), none, .mv (.tmp 20), 1, [], true⟩,
  ⟨(some 177), none, .bin .sub (.tmp 175) (.tmp 176), 2, [], true⟩,
  ⟨(some 24), none, .mv (.tmp 177), 3, [], true⟩])
 (.seq (.seq (.region 8 [
  ⟨(some 178), none, .mv (.tmp 20), 0, [], true⟩,
  ⟨(some 179), none, .mv (.tmp 2), 1, [], true⟩,
  ⟨(some 180), none, .bin .lss (.tmp 178) (.tmp 179), 2, [], true⟩,
  ⟨(some 181), none, .mv (.tmp 180), 3, [], true⟩,
  ⟨(some 182), (some (181, true)), .mv (.tmp 2), 4, [], true⟩,
  ⟨(some 183), (some (181, true)), .mv (.tmp 24), 5, [], true⟩,
  ⟨(some 184), (some (181, true)), .bin .lss (.tmp 182) (.tmp 183), 6, [], true⟩,
  ⟨(some 185), none, .pick (.tmp 181) (.tmp 184) (.const (.bool false)), 7, [], true⟩])
 (.cond (.tmp 185) (.region 6 [
  ⟨(some 186), none, .mv (.tmp 0), 0, [], true⟩,
  ⟨(some 187), none, .mv (.tmp 20), 1, [], true⟩,
  ⟨(some 188), none, .mv (.tmp 2), 2, [], true⟩,
  ⟨(some 189), none, .mv (.tmp 24), 3, [], true⟩,
  ⟨(some 190), none, .mv (.tmp 4), 4, [], true⟩,
  ⟨(some 191), none, .call (.func 181) [(.tmp 186), (.tmp 187), (.tmp 188), (.tmp 189), (.tmp 190)], 5, [], true⟩]) .skip))
 (.seq (.seq (.region 8 [
  ⟨(some 192), none, .mv (.tmp 1), 0, [], true⟩,
  ⟨(some 193), none, .mv (.tmp 20), 1, [], true⟩,
  ⟨(some 194), none, .bin .lss (.tmp 192) (.tmp 193), 2, [], true⟩,
  ⟨(some 195), none, .mv (.tmp 194), 3, [], true⟩,
  ⟨(some 196), (some (195, true)), .mv (.tmp 20), 4, [], true⟩,
  ⟨(some 197), (some (195, true)), .mv (.tmp 18), 5, [], true⟩,
  ⟨(some 198), (some (195, true)), .bin .lss (.tmp 196) (.tmp 197), 6, [], true⟩,
  ⟨(some 199), none, .pick (.tmp 195) (.tmp 198) (.const (.bool false)), 7, [], true⟩])
 (.cond (.tmp 199) (.region 6 [
  ⟨(some 200), none, .mv (.tmp 0), 0, [], true⟩,
  ⟨(some 201), none, .mv (.tmp 1), 1, [], true⟩,
  ⟨(some 202), none, .mv (.tmp 20), 2, [], true⟩,
  ⟨(some 203), none, .mv (.tmp 18), 3, [], true⟩,
  ⟨(some 204), none, .mv (.tmp 4), 4, [], true⟩,
  ⟨(some 205), none, .call (.func 162) [(.tmp 200), (.tmp 201), (.tmp 202), (.tmp 203), (.tmp 204)], 5, [], true⟩]) .skip))
 (.seq (.region 8 [
  ⟨(some 206), none, .mv (.tmp 18), 0, [], true⟩,
  ⟨(some 207), none, .mv (.tmp 24), 1, [], true⟩,
  ⟨(some 208), none, .bin .lss (.tmp 206) (.tmp 207), 2, [], true⟩,
  ⟨(some 209), none, .mv (.tmp 208), 3, [], true⟩,
  ⟨(some 210), (some (209, true)), .mv (.tmp 24), 4, [], true⟩,
  ⟨(some 211), (some (209, true)), .mv (.tmp 3), 5, [], true⟩,
  ⟨(some 212), (some (209, true)), .bin .lss (.tmp 210) (.tmp 211), 6, [], true⟩,
  ⟨(some 213), none, .pick (.tmp 209) (.tmp 212) (.const (.bool false)), 7, [], true⟩])
 (.cond (.tmp 213) (.region 6 [
  ⟨(some 214), none, .mv (.tmp 0), 0, [], true⟩,
  ⟨(some 215), none, .mv (.tmp 18), 1, [], true⟩,
  ⟨(some 216), none, .mv (.tmp 24), 2, [], true⟩,
  ⟨(some 217), none, .mv (.tmp 3), 3, [], true⟩,
  ⟨(some 218), none, .mv (.tmp 4), 4, [], true⟩,
  ⟨(some 219), none, .call (.func 162) [(.tmp 214), (.tmp 215), (.tmp 216), (.tmp 217), (.tmp 218)], 5, [], true⟩]) .skip)))))))))))))⟩

def m163 : MFn := ⟨49, [], (.seq (.region 3 [
  ⟨(some 8), none, .mv (.tmp 1), 0, [], true⟩,
  ⟨(some 9), none, .bin .add (.tmp 8) (.const (.int .i64 1)), 1, [], true⟩,
  ⟨(some 6), none, .mv (.tmp 9), 2, [], true⟩])
 (.block 0 (.loop (.seq (.seq (.region 3 [
  ⟨(some 10), none, .mv (.tmp 6), 0, [], true⟩,
  ⟨(some 11), none, .mv (.tmp 2), 1, [], true⟩,
  ⟨(some 12), none, .bin .lss (.tmp 10) (.tmp 11), 2, [], true⟩])
 (.cond (.tmp 12) .skip (.exit 0)))
 (.seq (.block 1 (.seq (.region 2 [
  ⟨(some 15), none, .mv (.tmp 6), 0, [], true⟩,
  ⟨(some 7), none, .mv (.tmp 15), 1, [], true⟩])
 (.block 2 (.loop (.seq (.seq (.region 15 [
  ⟨(some 16), none, .mv (.tmp 7), 0, [], true⟩,
  ⟨(some 17), none, .mv (.tmp 1), 1, [], false⟩,
  ⟨(some 18), none, .bin .gtr (.tmp 16) (.tmp 17), 2, [], true⟩,
  ⟨(some 19), none, .mv (.tmp 18), 3, [], true⟩,
  ⟨(some 20), (some (19, true)), .mv (.tmp 0), 4, [], true⟩,
  ⟨(some 21), (some (19, true)), .mv (.tmp 7), 5, [], false⟩,
  ⟨(some 22), (some (19, true)), .adSl 1 (.tmp 20) (.tmp 21), 6, [], true⟩,
  ⟨(some 23), (some (19, true)), .load 1 false (.tmp 22), 7, [], true⟩,
  ⟨(some 24), (some (19, true)), .mv (.tmp 0), 8, [], false⟩,
  ⟨(some 25), (some (19, true)), .mv (.tmp 7), 9, [], false⟩,
  ⟨(some 26), (some (19, true)), .bin .sub (.tmp 25) (.const (.int .i64 1)), 10, [], false⟩,
  ⟨(some 27), (some (19, true)), .adSl 1 (.tmp 24) (.tmp 26), 11, [], false⟩,
  ⟨(some 28), (some (19, true)), .load 1 false (.tmp 27), 12, [], false⟩,
  ⟨(some 29), (some (19, true)), .call (.func 169) [(.tmp 23), (.tmp 28)], 13, [], true⟩,
  ⟨(some 30), none, .pick (.tmp 19) (.tmp 29) (.const (.bool false)), 14, [], true⟩])
 (.cond (.tmp 30) .skip (.exit 2)))
 (.seq (.block 3 (.region 18 [
  ⟨(some 33), none, .mv (.tmp 0), 0, [], true⟩,
  ⟨(some 34), none, .mv (.tmp 7), 1, [], false⟩,
  ⟨(some 35), none, .mv (.tmp 0), 2, [], false⟩,
  ⟨(some 36), none, .mv (.tmp 7), 3, [], false⟩,
  ⟨(some 37), none, .bin .sub (.tmp 36) (.const (.int .i64 1)), 4, [], false⟩,
  ⟨(some 38), none, .mv (.tmp 0), 5, [], false⟩,
  ⟨(some 39), none, .mv (.tmp 7), 6, [], false⟩,
  ⟨(some 40), none, .bin .sub (.tmp 39) (.const (.int .i64 1)), 7, [], false⟩,
  ⟨(some 41), none, .adSl 1 (.tmp 38) (.tmp 40), 8, [], false⟩,
  ⟨(some 42), none, .load 1 false (.tmp 41), 9, [], false⟩,
  ⟨(some 43), none, .mv (.tmp 0), 10, [], false⟩,
  ⟨(some 44), none, .mv (.tmp 7), 11, [], false⟩,
  ⟨(some 45), none, .adSl 1 (.tmp 43) (.tmp 44), 12, [], false⟩,
  ⟨(some 46), none, .load 1 false (.tmp 45), 13, [], false⟩,
  ⟨(some 47), none, .adSl 1 (.tmp 33) (.tmp 34), 14, [], false⟩,
  ⟨none, none, .store 1 (.tmp 47) (.tmp 42), 15, [], false⟩,
  ⟨(some 48), none, .adSl 1 (.tmp 35) (.tmp 37), 16, [], true⟩,
  ⟨none, none, .store 1 (.tmp 48) (.tmp 46), 17, [], true⟩]))
 (.region 3 [
  ⟨(some 31), none, .mv (.tmp 7), 0, [], true⟩,
  ⟨(some 32), none, .bin .sub (.tmp 31) (.const (.int .i64 1)), 1, [], true⟩,
  ⟨(some 7), none, .mv (.tmp 32), 2, [], true⟩])))))))
 (.region 3 [
  ⟨(some 13), none, .mv (.tmp 6), 0, [], true⟩,
  ⟨(some 14), none, .bin .add (.tmp 13) (.const (.int .i64 1)), 1, [], true⟩,
  ⟨(some 6), none, .mv (.tmp 14), 2, [], true⟩]))))))⟩

def m164 : MFn := ⟨56, [], (.seq (.region 2 [
  ⟨(some 11), none, .mv (.tmp 1), 0, [], true⟩,
  ⟨(some 6), none, .mv (.tmp 11), 1, [], true⟩])
 (.seq (.region 1 [
  ⟨(some 7), none, .mv (.const (.int .i64 0)), 0, [], true⟩])
 (.seq (.region 4 [
  ⟨(some 12), none, .mv (.tmp 2), 0, [], true⟩,
  ⟨(some 13), none, .mv (.tmp 1), 1, [], true⟩,
  ⟨(some 14), none, .bin .sub (.tmp 12) (.tmp 13), 2, [], true⟩,
  ⟨(some 8), none, .mv (.tmp 14), 3, [], true⟩])
 (.seq (.seq (.region 4 [
  ⟨(some 15), none, .mv (.tmp 8), 0, [], true⟩,
  ⟨(some 16), none, .bin .sub (.tmp 15) (.const (.int .i64 1)), 1, [], true⟩,
  ⟨(some 17), none, .bin .quo (.tmp 16) (.const (.int .i64 2)), 2, [], true⟩,
  ⟨(some 9), none, .mv (.tmp 17), 3, [], true⟩])
 (.block 0 (.loop (.seq (.seq (.region 2 [
  ⟨(some 18), none, .mv (.tmp 9), 0, [], true⟩,
  ⟨(some 19), none, .bin .geq (.tmp 18) (.const (.int .i64 0)), 1, [], true⟩])
 (.cond (.tmp 19) .skip (.exit 0)))
 (.seq (.block 1 (.region 5 [
  ⟨(some 22), none, .mv (.tmp 0), 0, [], true⟩,
  ⟨(some 23), none, .mv (.tmp 9), 1, [], true⟩,
  ⟨(some 24), none, .mv (.tmp 8), 2, [], true⟩,
  ⟨(some 25), none, .mv (.tmp 6), 3, [], true⟩,
  ⟨(some 26), none, .call (.func 182) [(.tmp 22), (.tmp 23), (.tmp 24), (.tmp 25)], 4, [], true⟩]))
 (.region 3 [
  ⟨(some 20), none, .mv (.tmp 9), 0, [], true⟩,
  ⟨(some 21), none, .bin .sub (.tmp 20) (.const (.int .i64 1)), 1, [], true⟩,
  ⟨(some 9), none, .mv (.tmp 21), 2, [], true⟩]))))))
 (.seq (.region 3 [
  ⟨(some 27), none, .mv (.tmp 8), 0, [], true⟩,
  ⟨(some 28), none, .bin .sub (.tmp 27) (.const (.int .i64 1)), 1, [], true⟩,
  ⟨(some 10), none, .mv (.tmp 28), 2, [], true⟩])
 (.block 2 (.loop (.seq (.seq (.region 2 [
  ⟨(some 29), none, .mv (.tmp 10), 0, [], true⟩,
  ⟨(some 30), none, .bin .geq (.tmp 29) (.const (.int .i64 0)), 1, [], true⟩])
 (.cond (.tmp 30) .skip (.exit 2)))
 (.seq (.block 3 (.seq (.region 20 [
  ⟨(some 33), none, .mv (.tmp 0), 0, [], true⟩,
  ⟨(some 34), none, .mv (.tmp 6), 1, [], false⟩,
  ⟨(some 35), none, .mv (.tmp 0), 2, [], false⟩,
  ⟨(some 36), none, .mv (.tmp 6), 3, [], false⟩,
  ⟨(some 37), none, .mv (.tmp 10), 4, [], false⟩,
  ⟨(some 38), none, .bin .add (.tmp 36) (.tmp 37), 5, [], false⟩,
  ⟨(some 39), none, .mv (.tmp 0), 6, [], false⟩,
  ⟨(some 40), none, .mv (.tmp 6), 7, [], false⟩,
  ⟨(some 41), none, .mv (.tmp 10), 8, [], false⟩,
  ⟨(some 42), none, .bin .add (.tmp 40) (.tmp 41), 9, [], false⟩,
  ⟨(some 43), none, .adSl 1 (.tmp 39) (.tmp 42), 10, [], false⟩,
  ⟨(some 44), none, .load 1 false (.tmp 43), 11, [], false⟩,
  ⟨(some 45), none, .mv (.tmp 0), 12, [], false⟩,
  ⟨(some 46), none, .mv (.tmp 6), 13, [], false⟩,
  ⟨(some 47), none, .adSl 1 (.tmp 45) (.tmp 46), 14, [], false⟩,
  ⟨(some 48), none, .load 1 false (.tmp 47), 15, [], false⟩,
  ⟨(some 49), none, .adSl 1 (.tmp 33) (.tmp 34), 16, [], false⟩,
  ⟨none, none, .store 1 (.tmp 49) (.tmp 44), 17, [], false⟩,
  ⟨(some 50), none, .adSl 1 (.tmp 35) (.tmp 38), 18, [], true⟩,
  ⟨none, none, .store 1 (.tmp 50) (.tmp 48), 19, [], true⟩])
 (.region 5 [
  ⟨(some 51), none, .mv (.tmp 0), 0, [], true⟩,
  ⟨(some 52), none, .mv (.tmp 7), 1, [], true⟩,
  ⟨(some 53), none, .mv (.tmp 10), 2, [], true⟩,
  ⟨(some 54), none, .mv (.tmp 6), 3, [], true⟩,
  ⟨(some 55), none, .call (.func 182) [(.tmp 51), (.tmp 52), (.tmp 53), (.tmp 54)], 4, [], true⟩])))
 (.region 3 [
  ⟨(some 31), none, .mv (.tmp 10), 0, [], true⟩,
  ⟨(some 32), none, .bin .sub (.tmp 31) (.const (.int .i64 1)), 1, [], true⟩,
  ⟨(some 10), none, .mv (.tmp 32), 2, [], true⟩]))))))))))⟩

def m165 : MFn := ⟨65, [], (.seq (.region 4 [
  ⟨(some 11), none, .mv (.tmp 2), 0, [], true⟩,
  ⟨(some 12), none, .mv (.tmp 1), 1, [], true⟩,
  ⟨(some 13), none, .bin .sub (.tmp 11) (.tmp 12), 2, [], true⟩,
  ⟨(some 6), none, .mv (.tmp 13), 3, [], true⟩])
 (.seq (.region 2 [
  ⟨(some 14), none, .mv (.tmp 6), 0, [], true⟩,
  ⟨(some 15), none, .bin .geq (.tmp 14) (.const (.int .i64 8)), 1, [], true⟩])
 (.cond (.tmp 15) (.seq (.region 4 [
  ⟨(some 16), none, .mv (.tmp 6), 0, [], true⟩,
  ⟨(some 17), none, .conv .u64 (.tmp 16), 1, [], true⟩,
  ⟨(some 7), none, .alloc [(.int .u64 0)] 214, 2, [], true⟩,
  ⟨none, none, .store 1 (.tmp 7) (.tmp 17), 3, [], true⟩])
 (.seq (.region 3 [
  ⟨(some 18), none, .mv (.tmp 6), 0, [], true⟩,
  ⟨(some 19), none, .call (.func 183) [(.tmp 18)], 1, [], true⟩,
  ⟨(some 8), none, .mv (.tmp 19), 2, [], true⟩])
 (.seq (.region 7 [
  ⟨(some 20), none, .mv (.tmp 1), 0, [], true⟩,
  ⟨(some 21), none, .mv (.tmp 6), 1, [], true⟩,
  ⟨(some 22), none, .bin .quo (.tmp 21) (.const (.int .i64 4)), 2, [], true⟩,
  ⟨(some 23), none, .bin .mul (.tmp 22) (.const (.int .i64 2)), 3, [], true⟩,
  ⟨(some 24), none, .bin .add (.tmp 20) (.tmp 23), 4, [], true⟩,
  ⟨(some 25), none, .bin .sub (.tmp 24) (.const (.int .i64 1)), 5, [], true⟩,
  ⟨(some 9), none, .mv (.tmp 25), 6, [], true⟩])
 (.block 0 (.loop (.seq (.seq (.region 8 [
  ⟨(some 26), none, .mv (.tmp 9), 0, [], true⟩,
  ⟨(some 27), none, .mv (.tmp 1), 1, [], true⟩,
  ⟨(some 28), none, .mv (.tmp 6), 2, [], true⟩,
  ⟨(some 29), none, .bin .quo (.tmp 28) (.const (.int .i64 4)), 3, [], true⟩,
  ⟨(some 30), none, .bin .mul (.tmp 29) (.const (.int .i64 2)), 4, [], true⟩,
  ⟨(some 31), none, .bin .add (.tmp 27) (.tmp 30), 5, [], true⟩,
  ⟨(some 32), none, .bin .add (.tmp 31) (.const (.int .i64 1)), 6, [], true⟩,
  ⟨(some 33), none, .bin .leq (.tmp 26) (.tmp 32), 7, [], true⟩])
 (.cond (.tmp 33) .skip (.exit 0)))
 (.seq (.block 1 (.seq (.region 6 [
  ⟨(some 36), none, .call (.func 184) [(.tmp 7)], 0, [], true⟩,
  ⟨(some 37), none, .mv (.tmp 8), 1, [], true⟩,
  ⟨(some 38), none, .bin .sub (.tmp 37) (.const (.int .u64 1)), 2, [], true⟩,
  ⟨(some 39), none, .bin .and (.tmp 36) (.tmp 38), 3, [], true⟩,
  ⟨(some 40), none, .conv .i64 (.tmp 39), 4, [], true⟩,
  ⟨(some 10), none, .mv (.tmp 40), 5, [], true⟩])
 (.seq (.seq (.region 3 [
  ⟨(some 41), none, .mv (.tmp 10), 0, [], true⟩,
  ⟨(some 42), none, .mv (.tmp 6), 1, [], true⟩,
  ⟨(some 43), none, .bin .geq (.tmp 41) (.tmp 42), 2, [], true⟩])
 (.cond (.tmp 43) (.region 4 [
  ⟨(some 44), none, .mv (.tmp 10), 0, [], true⟩,
  ⟨(some 45), none, .mv (.tmp 6), 1, [], true⟩,
  ⟨(some 46), none, .bin .sub (.tmp 44) (.tmp 45), 2, [], true⟩,
  ⟨(some 10), none, .mv (.tmp 46), 3, [], true⟩]) .skip))
 (.region 20 [
  ⟨(some 47), none, .mv (.tmp 0), 0, [], true⟩,
  ⟨(some 48), none, .mv (.tmp 9), 1, [], false⟩,
  ⟨(some 49), none, .mv (.tmp 0), 2, [], false⟩,
  ⟨(some 50), none, .mv (.tmp 1), 3, [], false⟩,
  ⟨(some 51), none, .mv (.tmp 10), 4, [], false⟩,
  ⟨(some 52), none, .bin .add (.tmp 50) (.tmp 51), 5, [], false⟩,
  ⟨(some 53), none, .mv (.tmp 0), 6, [], false⟩,
  ⟨(some 54), none, .mv (.tmp 1), 7, [], false⟩,
  ⟨(some 55), none, .mv (.tmp 10), 8, [], false⟩,
  ⟨(some 56), none, .bin .add (.tmp 54) (.tmp 55), 9, [], false⟩,
  ⟨(some 57), none, .adSl 1 (.tmp 53) (.tmp 56), 10, [], false⟩,
  ⟨(some 58), none, .load 1 false (.tmp 57), 11, [], false⟩,
  ⟨(some 59), none, .mv (.tmp 0), 12, [], false⟩,
  ⟨(some 60), none, .mv (.tmp 9), 13, [], false⟩,
  ⟨(some 61), none, .adSl 1 (.tmp 59) (.tmp 60), 14, [], false⟩,
  ⟨(some 62), none, .load 1 false (.tmp 61), 15, [], false⟩,
  ⟨(some 63), none, .adSl 1 (.tmp 47) (.tmp 48), 16, [], false⟩,
  ⟨none, none, .store 1 (.tmp 63) (.tmp 58), 17, [], false⟩,
  ⟨(some 64), none, .adSl 1 (.tmp 49) (.tmp 52), 18, [], true⟩,
  ⟨none, none, .store 1 (.tmp 64) (.tmp 62), 19, [], true⟩]))))
 (.region 3 [
  ⟨(some 34), none, .mv (.tmp 9), 0, [], true⟩,
  ⟨(some 35), none, .bin .add (.tmp 34) (.const (.int .i64 1)), 1, [], true⟩,
  ⟨(some 9), none, .mv (.tmp 35), 2, [], true⟩])))))))) .skip)))⟩

end Ev

/- Compiled functions. -/
namespace Ev
open Go

def m166 : MFn := ⟨57, [(6, none), (7, none)], (.seq (.region 2 [
  ⟨(some 6), none, .mv (.const (.int .i64 0)), 0, [], true⟩,
  ⟨(some 7), none, .mv (.const (.int .i64 0)), 1, [], true⟩])
 (.seq (.region 4 [
  ⟨(some 13), none, .mv (.tmp 2), 0, [], true⟩,
  ⟨(some 14), none, .mv (.tmp 1), 1, [], true⟩,
  ⟨(some 15), none, .bin .sub (.tmp 13) (.tmp 14), 2, [], true⟩,
  ⟨(some 8), none, .mv (.tmp 15), 3, [], true⟩])
 (.seq (.region 1 [
  ⟨(some 9), none, .alloc [(.int .i64 0)] 3, 0, [], true⟩])
 (.seq (.region 6 [
  ⟨(some 16), none, .mv (.tmp 1), 0, [], true⟩,
  ⟨(some 17), none, .mv (.tmp 8), 1, [], true⟩,
  ⟨(some 18), none, .bin .quo (.tmp 17) (.const (.int .i64 4)), 2, [], true⟩,
  ⟨(some 19), none, .bin .mul (.tmp 18) (.const (.int .i64 1)), 3, [], true⟩,
  ⟨(some 20), none, .bin .add (.tmp 16) (.tmp 19), 4, [], true⟩,
  ⟨(some 10), none, .mv (.tmp 20), 5, [], true⟩])
 (.seq (.region 6 [
  ⟨(some 21), none, .mv (.tmp 1), 0, [], true⟩,
  ⟨(some 22), none, .mv (.tmp 8), 1, [], true⟩,
  ⟨(some 23), none, .bin .quo (.tmp 22) (.const (.int .i64 4)), 2, [], true⟩,
  ⟨(some 24), none, .bin .mul (.tmp 23) (.const (.int .i64 2)), 3, [], true⟩,
  ⟨(some 25), none, .bin .add (.tmp 21) (.tmp 24), 4, [], true⟩,
  ⟨(some 11), none, .mv (.tmp 25), 5, [], true⟩])
 (.seq (.region 6 [
  ⟨(some 26), none, .mv (.tmp 1), 0, [], true⟩,
  ⟨(some 27), none, .mv (.tmp 8), 1, [], true⟩,
  ⟨(some 28), none, .bin .quo (.tmp 27) (.const (.int .i64 4)), 2, [], true⟩,
  ⟨(some 29), none, .bin .mul (.tmp 28) (.const (.int .i64 3)), 3, [], true⟩,
  ⟨(some 30), none, .bin .add (.tmp 26) (.tmp 29), 4, [], true⟩,
  ⟨(some 12), none, .mv (.tmp 30), 5, [], true⟩])
 (.seq (.seq (.region 2 [
  ⟨(some 31), none, .mv (.tmp 8), 0, [], true⟩,
  ⟨(some 32), none, .bin .geq (.tmp 31) (.const (.int .i64 8)), 1, [], true⟩])
 (.cond (.tmp 32) (.seq (.seq (.region 2 [
  ⟨(some 33), none, .mv (.tmp 8), 0, [], true⟩,
  ⟨(some 34), none, .bin .geq (.tmp 33) (.const (.int .i64 50)), 1, [], true⟩])
 (.cond (.tmp 34) (.seq (.region 4 [
  ⟨(some 35), none, .mv (.tmp 0), 0, [], true⟩,
  ⟨(some 36), none, .mv (.tmp 10), 1, [], true⟩,
  ⟨(some 37), none, .call (.func 185) [(.tmp 35), (.tmp 36), (.tmp 9)], 2, [], true⟩,
  ⟨(some 10), none, .mv (.tmp 37), 3, [], true⟩])
 (.seq (.region 4 [
  ⟨(some 38), none, .mv (.tmp 0), 0, [], true⟩,
  ⟨(some 39), none, .mv (.tmp 11), 1, [], true⟩,
  ⟨(some 40), none, .call (.func 185) [(.tmp 38), (.tmp 39), (.tmp 9)], 2, [], true⟩,
  ⟨(some 11), none, .mv (.tmp 40), 3, [], true⟩])
 (.region 4 [
  ⟨(some 41), none, .mv (.tmp 0), 0, [], true⟩,
  ⟨(some 42), none, .mv (.tmp 12), 1, [], true⟩,
  ⟨(some 43), none, .call (.func 185) [(.tmp 41), (.tmp 42), (.tmp 9)], 2, [], true⟩,
  ⟨(some 12), none, .mv (.tmp 43), 3, [], true⟩]))) .skip))
 (.region 6 [
  ⟨(some 44), none, .mv (.tmp 0), 0, [], true⟩,
  ⟨(some 45), none, .mv (.tmp 10), 1, [], true⟩,
  ⟨(some 46), none, .mv (.tmp 11), 2, [], true⟩,
  ⟨(some 47), none, .mv (.tmp 12), 3, [], true⟩,
  ⟨(some 48), none, .call (.func 186) [(.tmp 44), (.tmp 45), (.tmp 46), (.tmp 47), (.tmp 9)], 4, [], true⟩,
  ⟨(some 11), none, .mv (.tmp 48), 5, [], true⟩])) .skip))
 (.seq (.region 1 [
  ⟨(some 49), none, .load 1 false (.tmp 9), 0, [], true⟩])
 (.block 0 (.seq (.region 2 [
  ⟨(some 52), none, .bin .eql (.tmp 49) (.const (.int .i64 0)), 0, [], true⟩,
  ⟨(some 51), none, .mv (.tmp 52), 1, [], true⟩])
 (.cond (.tmp 51) (.seq (.region 3 [
  ⟨(some 53), none, .mv (.tmp 11), 0, [], true⟩,
  ⟨(some 6), none, .mv (.tmp 53), 1, [], true⟩,
  ⟨(some 7), none, .mv (.const (.int .i64 1)), 2, [], true⟩])
 .ret) (.seq (.region 2 [
  ⟨(some 55), none, .bin .eql (.tmp 49) (.const (.int .i64 12)), 0, [], true⟩,
  ⟨(some 54), none, .mv (.tmp 55), 1, [], true⟩])
 (.cond (.tmp 54) (.seq (.region 3 [
  ⟨(some 56), none, .mv (.tmp 11), 0, [], true⟩,
  ⟨(some 6), none, .mv (.tmp 56), 1, [], true⟩,
  ⟨(some 7), none, .mv (.const (.int .i64 2)), 2, [], true⟩])
 .ret) (.seq (.region 3 [
  ⟨(some 50), none, .mv (.tmp 11), 0, [], true⟩,
  ⟨(some 6), none, .mv (.tmp 50), 1, [], true⟩,
  ⟨(some 7), none, .mv (.const (.int .i64 0)), 2, [], true⟩])
 .ret))))))))))))))⟩

def m167 : MFn := ⟨32, [], (.seq (.region 2 [
  ⟨(some 8), none, .mv (.tmp 1), 0, [], true⟩,
  ⟨(some 6), none, .mv (.tmp 8), 1, [], true⟩])
 (.seq (.region 3 [
  ⟨(some 9), none, .mv (.tmp 2), 0, [], true⟩,
  ⟨(some 10), none, .bin .sub (.tmp 9) (.const (.int .i64 1)), 1, [], true⟩,
  ⟨(some 7), none, .mv (.tmp 10), 2, [], true⟩])
 (.block 0 (.loop (.seq (.seq (.region 3 [
  ⟨(some 11), none, .mv (.tmp 6), 0, [], true⟩,
  ⟨(some 12), none, .mv (.tmp 7), 1, [], true⟩,
  ⟨(some 13), none, .bin .lss (.tmp 11) (.tmp 12), 2, [], true⟩])
 (.cond (.tmp 13) .skip (.exit 0)))
 (.block 1 (.seq (.region 16 [
  ⟨(some 14), none, .mv (.tmp 0), 0, [], true⟩,
  ⟨(some 15), none, .mv (.tmp 6), 1, [], false⟩,
  ⟨(some 16), none, .mv (.tmp 0), 2, [], false⟩,
  ⟨(some 17), none, .mv (.tmp 7), 3, [], false⟩,
  ⟨(some 18), none, .mv (.tmp 0), 4, [], false⟩,
  ⟨(some 19), none, .mv (.tmp 7), 5, [], false⟩,
  ⟨(some 20), none, .adSl 1 (.tmp 18) (.tmp 19), 6, [], false⟩,
  ⟨(some 21), none, .load 1 false (.tmp 20), 7, [], false⟩,
  ⟨(some 22), none, .mv (.tmp 0), 8, [], false⟩,
  ⟨(some 23), none, .mv (.tmp 6), 9, [], false⟩,
  ⟨(some 24), none, .adSl 1 (.tmp 22) (.tmp 23), 10, [], false⟩,
  ⟨(some 25), none, .load 1 false (.tmp 24), 11, [], false⟩,
  ⟨(some 26), none, .adSl 1 (.tmp 14) (.tmp 15), 12, [], false⟩,
  ⟨none, none, .store 1 (.tmp 26) (.tmp 21), 13, [], false⟩,
  ⟨(some 27), none, .adSl 1 (.tmp 16) (.tmp 17), 14, [], true⟩,
  ⟨none, none, .store 1 (.tmp 27) (.tmp 25), 15, [], true⟩])
 (.seq (.region 3 [
  ⟨(some 28), none, .mv (.tmp 6), 0, [], true⟩,
  ⟨(some 29), none, .bin .add (.tmp 28) (.const (.int .i64 1)), 1, [], true⟩,
  ⟨(some 6), none, .mv (.tmp 29), 2, [], true⟩])
 (.region 3 [
  ⟨(some 30), none, .mv (.tmp 7), 0, [], true⟩,
  ⟨(some 31), none, .bin .sub (.tmp 30) (.const (.int .i64 1)), 1, [], true⟩,
  ⟨(some 7), none, .mv (.tmp 31), 2, [], true⟩])))))))))⟩

def m168 : MFn := ⟨133, [(6, none)], (.seq (.region 1 [
  ⟨(some 6), none, .mv (.const (.bool false)), 0, [], true⟩])
 (.seq (.region 3 [
  ⟨(some 11), none, .mv (.tmp 1), 0, [], true⟩,
  ⟨(some 12), none, .bin .add (.tmp 11) (.const (.int .i64 1)), 1, [], true⟩,
  ⟨(some 7), none, .mv (.tmp 12), 2, [], true⟩])
 (.seq (.seq (.region 1 [
  ⟨(some 8), none, .mv (.const (.int .i64 0)), 0, [], true⟩])
 (.block 0 (.loop (.seq (.seq (.region 2 [
  ⟨(some 13), none, .mv (.tmp 8), 0, [], true⟩,
  ⟨(some 14), none, .bin .lss (.tmp 13) (.const (.int .i64 5)), 1, [], true⟩])
 (.cond (.tmp 14) .skip (.exit 0)))
 (.seq (.block 1 (.seq (.block 2 (.loop (.seq (.seq (.region 16 [
  ⟨(some 17), none, .mv (.tmp 7), 0, [], true⟩,
  ⟨(some 18), none, .mv (.tmp 2), 1, [], false⟩,
  ⟨(some 19), none, .bin .lss (.tmp 17) (.tmp 18), 2, [], true⟩,
  ⟨(some 20), none, .mv (.tmp 19), 3, [], true⟩,
  ⟨(some 21), (some (20, true)), .mv (.tmp 0), 4, [], true⟩,
  ⟨(some 22), (some (20, true)), .mv (.tmp 7), 5, [], false⟩,
  ⟨(some 23), (some (20, true)), .adSl 1 (.tmp 21) (.tmp 22), 6, [], true⟩,
  ⟨(some 24), (some (20, true)), .load 1 false (.tmp 23), 7, [], true⟩,
  ⟨(some 25), (some (20, true)), .mv (.tmp 0), 8, [], false⟩,
  ⟨(some 26), (some (20, true)), .mv (.tmp 7), 9, [], false⟩,
  ⟨(some 27), (some (20, true)), .bin .sub (.tmp 26) (.const (.int .i64 1)), 10, [], false⟩,
  ⟨(some 28), (some (20, true)), .adSl 1 (.tmp 25) (.tmp 27), 11, [], false⟩,
  ⟨(some 29), (some (20, true)), .load 1 false (.tmp 28), 12, [], false⟩,
  ⟨(some 30), (some (20, true)), .call (.func 169) [(.tmp 24), (.tmp 29)], 13, [], true⟩,
  ⟨(some 31), (some (20, true)), .un .not (.tmp 30), 14, [], true⟩,
  ⟨(some 32), none, .pick (.tmp 20) (.tmp 31) (.const (.bool false)), 15, [], true⟩])
 (.cond (.tmp 32) .skip (.exit 2)))
 (.block 3 (.region 3 [
  ⟨(some 33), none, .mv (.tmp 7), 0, [], true⟩,
  ⟨(some 34), none, .bin .add (.tmp 33) (.const (.int .i64 1)), 1, [], true⟩,
  ⟨(some 7), none, .mv (.tmp 34), 2, [], true⟩])))))
 (.seq (.seq (.region 3 [
  ⟨(some 35), none, .mv (.tmp 7), 0, [], true⟩,
  ⟨(some 36), none, .mv (.tmp 2), 1, [], true⟩,
  ⟨(some 37), none, .bin .eql (.tmp 35) (.tmp 36), 2, [], true⟩])
 (.cond (.tmp 37) (.seq (.region 1 [
  ⟨(some 6), none, .mv (.const (.bool true)), 0, [], true⟩])
 .ret) .skip))
 (.seq (.seq (.region 4 [
  ⟨(some 38), none, .mv (.tmp 2), 0, [], true⟩,
  ⟨(some 39), none, .mv (.tmp 1), 1, [], true⟩,
  ⟨(some 40), none, .bin .sub (.tmp 38) (.tmp 39), 2, [], true⟩,
  ⟨(some 41), none, .bin .lss (.tmp 40) (.const (.int .i64 50)), 3, [], true⟩])
 (.cond (.tmp 41) (.seq (.region 1 [
  ⟨(some 6), none, .mv (.const (.bool false)), 0, [], true⟩])
 .ret) .skip))
 (.seq (.region 18 [
  ⟨(some 42), none, .mv (.tmp 0), 0, [], true⟩,
  ⟨(some 43), none, .mv (.tmp 7), 1, [], false⟩,
  ⟨(some 44), none, .mv (.tmp 0), 2, [], false⟩,
  ⟨(some 45), none, .mv (.tmp 7), 3, [], false⟩,
  ⟨(some 46), none, .bin .sub (.tmp 45) (.const (.int .i64 1)), 4, [], false⟩,
  ⟨(some 47), none, .mv (.tmp 0), 5, [], false⟩,
  ⟨(some 48), none, .mv (.tmp 7), 6, [], false⟩,
  ⟨(some 49), none, .bin .sub (.tmp 48) (.const (.int .i64 1)), 7, [], false⟩,
  ⟨(some 50), none, .adSl 1 (.tmp 47) (.tmp 49), 8, [], false⟩,
  ⟨(some 51), none, .load 1 false (.tmp 50), 9, [], false⟩,
  ⟨(some 52), none, .mv (.tmp 0), 10, [], false⟩,
  ⟨(some 53), none, .mv (.tmp 7), 11, [], false⟩,
  ⟨(some 54), none, .adSl 1 (.tmp 52) (.tmp 53), 12, [], false⟩,
  ⟨(some 55), none, .load 1 false (.tmp 54), 13, [], false⟩,
  ⟨(some 56), none, .adSl 1 (.tmp 42) (.tmp 43), 14, [], false⟩,
  ⟨none, none, .store 1 (.tmp 56) (.tmp 51), 15, [], false⟩,
  ⟨(some 57), none, .adSl 1 (.tmp 44) (.tmp 46), 16, [], true⟩,
  ⟨none, none, .store 1 (.tmp 57) (.tmp 55), 17, [], true⟩])
 (.seq (.seq (.region 4 [
  ⟨(some 58), none, .mv (.tmp 7), 0, [], true⟩,
  ⟨(some 59), none, .mv (.tmp 1), 1, [], true⟩,
  ⟨(some 60), none, .bin .sub (.tmp 58) (.tmp 59), 2, [], true⟩,
  ⟨(some 61), none, .bin .geq (.tmp 60) (.const (.int .i64 2)), 3, [], true⟩])
 (.cond (.tmp 61) (.seq (.region 3 [
  ⟨(some 62), none, .mv (.tmp 7), 0, [], true⟩,
  ⟨(some 63), none, .bin .sub (.tmp 62) (.const (.int .i64 1)), 1, [], true⟩,
  ⟨(some 9), none, .mv (.tmp 63), 2, [], true⟩])
 (.block 4 (.loop (.seq (.seq (.region 2 [
  ⟨(some 64), none, .mv (.tmp 9), 0, [], true⟩,
  ⟨(some 65), none, .bin .geq (.tmp 64) (.const (.int .i64 1)), 1, [], true⟩])
 (.cond (.tmp 65) .skip (.exit 4)))
 (.seq (.block 5 (.seq (.seq (.region 11 [
  ⟨(some 68), none, .mv (.tmp 0), 0, [], true⟩,
  ⟨(some 69), none, .mv (.tmp 9), 1, [], false⟩,
  ⟨(some 70), none, .adSl 1 (.tmp 68) (.tmp 69), 2, [], true⟩,
  ⟨(some 71), none, .load 1 false (.tmp 70), 3, [], true⟩,
  ⟨(some 72), none, .mv (.tmp 0), 4, [], false⟩,
  ⟨(some 73), none, .mv (.tmp 9), 5, [], false⟩,
  ⟨(some 74), none, .bin .sub (.tmp 73) (.const (.int .i64 1)), 6, [], false⟩,
  ⟨(some 75), none, .adSl 1 (.tmp 72) (.tmp 74), 7, [], false⟩,
  ⟨(some 76), none, .load 1 false (.tmp 75), 8, [], false⟩,
  ⟨(some 77), none, .call (.func 169) [(.tmp 71), (.tmp 76)], 9, [], true⟩,
  ⟨(some 78), none, .un .not (.tmp 77), 10, [], true⟩])
 (.cond (.tmp 78) (.exit 4) .skip))
 (.region 18 [
  ⟨(some 79), none, .mv (.tmp 0), 0, [], true⟩,
  ⟨(some 80), none, .mv (.tmp 9), 1, [], false⟩,
  ⟨(some 81), none, .mv (.tmp 0), 2, [], false⟩,
  ⟨(some 82), none, .mv (.tmp 9), 3, [], false⟩,
  ⟨(some 83), none, .bin .sub (.tmp 82) (.const (.int .i64 1)), 4, [], false⟩,
  ⟨(some 84), none, .mv (.tmp 0), 5, [], false⟩,
  ⟨(some 85), none, .mv (.tmp 9), 6, [], false⟩,
  ⟨(some 86), none, .bin .sub (.tmp 85) (.const (.int .i64 1)), 7, [], false⟩,
  ⟨(some 87), none, .adSl 1 (.tmp 84) (.tmp 86), 8, [], false⟩,
  ⟨(some 88), none, .load 1 false (.tmp 87), 9, [], false⟩,
  ⟨(some 89), none, .mv (.tmp 0), 10, [], false⟩,
  ⟨(some 90), none, .mv (.tmp 9), 11, [], false⟩,
  ⟨(some 91), none, .adSl 1 (.tmp 89) (.tmp 90), 12, [], false⟩,
  ⟨(some 92), none, .load 1 false (.tmp 91), 13, [], false⟩,
  ⟨(some 93), none, .adSl 1 (.tmp 79) (.tmp 80), 14, [], false⟩,
  ⟨none, none, .store 1 (.tmp 93) (.tmp 88), 15, [], false⟩,
  ⟨(some 94), none, .adSl 1 (.tmp 81) (.tmp 83), 16, [], true⟩,
  ⟨none, none, .store 1 (.tmp 94) (.tmp 92), 17, [], true⟩])))
 (.region 3 [
  ⟨(some 66), none, .mv (.tmp 9), 0, [], true⟩,
  ⟨(some 67), none, .bin .sub (.tmp 66) (.const (.int .i64 1)), 1, [], true⟩,
  ⟨(some 9), none, .mv (.tmp 67), 2, [], true⟩])))))) .skip))
 (.seq (.region 4 [
  ⟨(some 95), none, .mv (.tmp 2), 0, [], true⟩,
  ⟨(some 96), none, .mv (.tmp 7), 1, [], true⟩,
  ⟨(some 97), none, .bin .sub (.tmp 95) (.tmp 96), 2, [], true⟩,
  ⟨(some 98), none, .bin .geq (.tmp 97) (.const (.int .i64 2)), 3, [], true⟩])
 (.cond (.tmp 98) (.seq (.region 3 [
  ⟨(some 99), none, .mv (.tmp 7), 0, [], true⟩,
  ⟨(some 100), none, .bin .add (.tmp 99) (.const (.int .i64 1)), 1, [], true⟩,
  ⟨(some 10), none, .mv (.tmp 100), 2, [], true⟩])
 (.block 6 (.loop (.seq (.seq (.region 3 [
  ⟨(some 101), none, .mv (.tmp 10), 0, [], true⟩,
  ⟨(some 102), none, .mv (.tmp 2), 1, [], true⟩,
  ⟨(some 103), none, .bin .lss (.tmp 101) (.tmp 102), 2, [], true⟩])
 (.cond (.tmp 103) .skip (.exit 6)))
 (.seq (.block 7 (.seq (.seq (.region 11 [
  ⟨(some 106), none, .mv (.tmp 0), 0, [], true⟩,
  ⟨(some 107), none, .mv (.tmp 10), 1, [], false⟩,
  ⟨(some 108), none, .adSl 1 (.tmp 106) (.tmp 107), 2, [], true⟩,
  ⟨(some 109), none, .load 1 false (.tmp 108), 3, [], true⟩,
  ⟨(some 110), none, .mv (.tmp 0), 4, [], false⟩,
  ⟨(some 111), none, .mv (.tmp 10), 5, [], false⟩,
  ⟨(some 112), none, .bin .sub (.tmp 111) (.const (.int .i64 1)), 6, [], false⟩,
  ⟨(some 113), none, .adSl 1 (.tmp 110) (.tmp 112), 7, [], false⟩,
  ⟨(some 114), none, .load 1 false (.tmp 113), 8, [], false⟩,
  ⟨(some 115), none, .call (.func 169) [(.tmp 109), (.tmp 114)], 9, [], true⟩,
  ⟨(some 116), none, .un .not (.tmp 115), 10, [], true⟩])
 (.cond (.tmp 116) (.exit 6) .skip))
 (.region 18 [
  ⟨(some 117), none, .mv (.tmp 0), 0, [], true⟩,
  ⟨(some 118), none, .mv (.tmp 10), 1, [], false⟩,
  ⟨(some 119), none, .mv (.tmp 0), 2, [], false⟩,
  ⟨(some 120), none, .mv (.tmp 10), 3, [], false⟩,
  ⟨(some 121), none, .bin .sub (.tmp 120) (.const (.int .i64 1)), 4, [], false⟩,
  ⟨(some 122), none, .mv (.tmp 0), 5, [], false⟩,
  ⟨(some 123), none, .mv (.tmp 10), 6, [], false⟩,
  ⟨(some 124), none, .bin .sub (.tmp 123) (.const (.int .i64 1)), 7, [], false⟩,
  ⟨(some 125), none, .adSl 1 (.tmp 122) (.tmp 124), 8, [], false⟩,
  ⟨(some 126), none, .load 1 false (.tmp 125), 9, [], false⟩,
  ⟨(some 127), none, .mv (.tmp 0), 10, [], false⟩,
  ⟨(some 128), none, .mv (.tmp 10), 11, [], false⟩,
  ⟨(some 129), none, .adSl 1 (.tmp 127) (.tmp 128), 12, [], false⟩,
  ⟨(some 130), none, .load 1 false (.tmp 129), 13, [], false⟩,
  ⟨(some 131), none, .adSl 1 (.tmp 117) (.tmp 118), 14, [], false⟩,
  ⟨none, none, .store 1 (.tmp 131) (.tmp 126), 15, [], false⟩,
  ⟨(some 132), none, .adSl 1 (.tmp 119) (.tmp 121), 16, [], true⟩,
  ⟨none, none, .store 1 (.tmp 132) (.tmp 130), 17, [], true⟩])))
 (.region 3 [
  ⟨(some 104), none, .mv (.tmp 10), 0, [], true⟩,
  ⟨(some 105), none, .bin .add (.tmp 104) (.const (.int .i64 1)), 1, [], true⟩,
  ⟨(some 10), none, .mv (.tmp 105), 2, [], true⟩])))))) .skip))))))))
 (.region 3 [
  ⟨(some 15), none, .mv (.tmp 8), 0, [], true⟩,
  ⟨(some 16), none, .bin .add (.tmp 15) (.const (.int .i64 1)), 1, [], true⟩,
  ⟨(some 8), none, .mv (.tmp 16), 2, [], true⟩]))))))
 (.seq (.region 1 [
  ⟨(some 6), none, .mv (.const (.bool false)), 0, [], true⟩])
 .ret))))⟩

def m169 : MFn := ⟨17, [(4, none)], (.seq (.region 1 [
  ⟨(some 4), none, .mv (.const (.bool false)), 0, [], true⟩])
 (.seq (.region 13 [
  ⟨(some 5), none, .mv (.tmp 0), 0, [], true⟩,
  ⟨(some 6), none, .call (.func 187) [(.tmp 5)], 1, [], true⟩,
  ⟨(some 7), none, .mv (.tmp 6), 2, [], true⟩,
  ⟨(some 8), (some (7, true)), .mv (.tmp 1), 3, [], true⟩,
  ⟨(some 9), (some (7, true)), .call (.func 187) [(.tmp 8)], 4, [], true⟩,
  ⟨(some 10), (some (7, true)), .un .not (.tmp 9), 5, [], true⟩,
  ⟨(some 11), none, .pick (.tmp 7) (.tmp 10) (.const (.bool false)), 6, [], true⟩,
  ⟨(some 12), none, .mv (.tmp 11), 7, [], true⟩,
  ⟨(some 13), (some (12, false)), .mv (.tmp 0), 8, [], true⟩,
  ⟨(some 14), (some (12, false)), .mv (.tmp 1), 9, [], true⟩,
  ⟨(some 15), (some (12, false)), .bin .lss (.tmp 13) (.tmp 14), 10, [], true⟩,
  ⟨(some 16), none, .pick (.tmp 12) (.const (.bool true)) (.tmp 15), 11, [], true⟩,
  ⟨(some 4), none, .mv (.tmp 16), 12, [], true⟩])
 .ret))⟩

def m170 : MFn := ⟨84, [(8, none)], (.seq (.region 1 [
  ⟨(some 8), none, .mv (.const (.int .i64 0)), 0, [], true⟩])
 (.seq (.region 16 [
  ⟨(some 11), none, .mv (.tmp 0), 0, [], true⟩,
  ⟨(some 12), none, .mv (.tmp 1), 1, [], false⟩,
  ⟨(some 13), none, .mv (.tmp 0), 2, [], false⟩,
  ⟨(some 14), none, .mv (.tmp 3), 3, [], false⟩,
  ⟨(some 15), none, .mv (.tmp 0), 4, [], false⟩,
  ⟨(some 16), none, .mv (.tmp 3), 5, [], false⟩,
  ⟨(some 17), none, .adSl 1 (.tmp 15) (.tmp 16), 6, [], false⟩,
  ⟨(some 18), none, .load 1 false (.tmp 17), 7, [], false⟩,
  ⟨(some 19), none, .mv (.tmp 0), 8, [], false⟩,
  ⟨(some 20), none, .mv (.tmp 1), 9, [], false⟩,
  ⟨(some 21), none, .adSl 1 (.tmp 19) (.tmp 20), 10, [], false⟩,
  ⟨(some 22), none, .load 1 false (.tmp 21), 11, [], false⟩,
  ⟨(some 23), none, .adSl 1 (.tmp 11) (.tmp 12), 12, [], false⟩,
  ⟨none, none, .store 1 (.tmp 23) (.tmp 18), 13, [], false⟩,
  ⟨(some 24), none, .adSl 1 (.tmp 13) (.tmp 14), 14, [], true⟩,
  ⟨none, none, .store 1 (.tmp 24) (.tmp 22), 15, [], true⟩])
 (.seq (.region 6 [
  ⟨(some 25), none, .mv (.tmp 1), 0, [], true⟩,
  ⟨(some 26), none, .bin .add (.tmp 25) (.const (.int .i64 1)), 1, [], true⟩,
  ⟨(some 27), none, .mv (.tmp 2), 2, [], true⟩,
  ⟨(some 28), none, .bin .sub (.tmp 27) (.const (.int .i64 1)), 3, [], true⟩,
  ⟨(some 9), none, .mv (.tmp 26), 4, [], true⟩,
  ⟨(some 10), none, .mv (.tmp 28), 5, [], true⟩])
 (.seq (.block 0 (.loop (.block 1 (.seq (.block 2 (.loop (.seq (.seq (.region 15 [
  ⟨(some 29), none, .mv (.tmp 9), 0, [], true⟩,
  ⟨(some 30), none, .mv (.tmp 10), 1, [], false⟩,
  ⟨(some 31), none, .bin .leq (.tmp 29) (.tmp 30), 2, [], true⟩,
  ⟨(some 32), none, .mv (.tmp 31), 3, [], true⟩,
  ⟨(some 33), (some (32, true)), .mv (.tmp 0), 4, [], true⟩,
  ⟨(some 34), (some (32, true)), .mv (.tmp 1), 5, [], false⟩,
  ⟨(some 35), (some (32, true)), .adSl 1 (.tmp 33) (.tmp 34), 6, [], true⟩,
  ⟨(some 36), (some (32, true)), .load 1 false (.tmp 35), 7, [], true⟩,
  ⟨(some 37), (some (32, true)), .mv (.tmp 0), 8, [], false⟩,
  ⟨(some 38), (some (32, true)), .mv (.tmp 9), 9, [], false⟩,
  ⟨(some 39), (some (32, true)), .adSl 1 (.tmp 37) (.tmp 38), 10, [], false⟩,
  ⟨(some 40), (some (32, true)), .load 1 false (.tmp 39), 11, [], false⟩,
  ⟨(some 41), (some (32, true)), .call (.func 169) [(.tmp 36), (.tmp 40)], 12, [], true⟩,
  ⟨(some 42), (some (32, true)), .un .not (.tmp 41), 13, [], true⟩,
  ⟨(some 43), none, .pick (.tmp 32) (.tmp 42) (.const (.bool false)), 14, [], true⟩])
 (.cond (.tmp 43) .skip (.exit 2)))
 (.block 3 (.region 3 [
  ⟨(some 44), none, .mv (.tmp 9), 0, [], true⟩,
  ⟨(some 45), none, .bin .add (.tmp 44) (.const (.int .i64 1)), 1, [], true⟩,
  ⟨(some 9), none, .mv (.tmp 45), 2, [], true⟩])))))
 (.seq (.block 4 (.loop (.seq (.seq (.region 14 [
  ⟨(some 46), none, .mv (.tmp 9), 0, [], true⟩,
  ⟨(some 47), none, .mv (.tmp 10), 1, [], false⟩,
  ⟨(some 48), none, .bin .leq (.tmp 46) (.tmp 47), 2, [], true⟩,
  ⟨(some 49), none, .mv (.tmp 48), 3, [], true⟩,
  ⟨(some 50), (some (49, true)), .mv (.tmp 0), 4, [], true⟩,
  ⟨(some 51), (some (49, true)), .mv (.tmp 1), 5, [], false⟩,
  ⟨(some 52), (some (49, true)), .adSl 1 (.tmp 50) (.tmp 51), 6, [], true⟩,
  ⟨(some 53), (some (49, true)), .load 1 false (.tmp 52), 7, [], true⟩,
  ⟨(some 54), (some (49, true)), .mv (.tmp 0), 8, [], false⟩,
  ⟨(some 55), (some (49, true)), .mv (.tmp 10), 9, [], false⟩,
  ⟨(some 56), (some (49, true)), .adSl 1 (.tmp 54) (.tmp 55), 10, [], false⟩,
  ⟨(some 57), (some (49, true)), .load 1 false (.tmp 56), 11, [], false⟩,
  ⟨(some 58), (some (49, true)), .call (.func 169) [(.tmp 53), (.tmp 57)], 12, [], true⟩,
  ⟨(some 59), none, .pick (.tmp 49) (.tmp 58) (.const (.bool false)), 13, [], true⟩])
 (.cond (.tmp 59) .skip (.exit 4)))
 (.block 5 (.region 3 [
  ⟨(some 60), none, .mv (.tmp 10), 0, [], true⟩,
  ⟨(some 61), none, .bin .sub (.tmp 60) (.const (.int .i64 1)), 1, [], true⟩,
  ⟨(some 10), none, .mv (.tmp 61), 2, [], true⟩])))))
 (.seq (.seq (.region 3 [
  ⟨(some 62), none, .mv (.tmp 9), 0, [], true⟩,
  ⟨(some 63), none, .mv (.tmp 10), 1, [], true⟩,
  ⟨(some 64), none, .bin .gtr (.tmp 62) (.tmp 63), 2, [], true⟩])
 (.cond (.tmp 64) (.exit 0) .skip))
 (.seq (.region 16 [
  ⟨(some 65), none, .mv (.tmp 0), 0, [], true⟩,
  ⟨(some 66), none, .mv (.tmp 9), 1, [], false⟩,
  ⟨(some 67), none, .mv (.tmp 0), 2, [], false⟩,
  ⟨(some 68), none, .mv (.tmp 10), 3, [], false⟩,
  ⟨(some 69), none, .mv (.tmp 0), 4, [], false⟩,
  ⟨(some 70), none, .mv (.tmp 10), 5, [], false⟩,
  ⟨(some 71), none, .adSl 1 (.tmp 69) (.tmp 70), 6, [], false⟩,
  ⟨(some 72), none, .load 1 false (.tmp 71), 7, [], false⟩,
  ⟨(some 73), none, .mv (.tmp 0), 8, [], false⟩,
  ⟨(some 74), none, .mv (.tmp 9), 9, [], false⟩,
  ⟨(some 75), none, .adSl 1 (.tmp 73) (.tmp 74), 10, [], false⟩,
  ⟨(some 76), none, .load 1 false (.tmp 75), 11, [], false⟩,
  ⟨(some 77), none, .adSl 1 (.tmp 65) (.tmp 66), 12, [], false⟩,
  ⟨none, none, .store 1 (.tmp 77) (.tmp 72), 13, [], false⟩,
  ⟨(some 78), none, .adSl 1 (.tmp 67) (.tmp 68), 14, [], true⟩,
  ⟨none, none, .store 1 (.tmp 78) (.tmp 76), 15, [], true⟩])
 (.seq (.region 3 [
  ⟨(some 79), none, .mv (.tmp 9), 0, [], true⟩,
  ⟨(some 80), none, .bin .add (.tmp 79) (.const (.int .i64 1)), 1, [], true⟩,
  ⟨(some 9), none, .mv (.tmp 80), 2, [], true⟩])
 (.region 3 [
  ⟨(some 81), none, .mv (.tmp 10), 0, [], true⟩,
  ⟨(some 82), none, .bin .sub (.tmp 81) (.const (.int .i64 1)), 1, [], true⟩,
  ⟨(some 10), none, .mv (.tmp 82), 2, [], true⟩])))))))))
 (.seq (.region 2 [
  ⟨(some 83), none, .mv (.tmp 9), 0, [], true⟩,
  ⟨(some 8), none, .mv (.tmp 83), 1, [], true⟩])
 .ret)))))⟩

def m171 : MFn := ⟨168, [(8, none), (9, none)], (.seq (.region 2 [
  ⟨(some 8), none, .mv (.const (.int .i64 0)), 0, [], true⟩,
  ⟨(some 9), none, .mv (.const (.bool false)), 1, [], true⟩])
 (.seq (.region 16 [
  ⟨(some 12), none, .mv (.tmp 0), 0, [], true⟩,
  ⟨(some 13), none, .mv (.tmp 1), 1, [], false⟩,
  ⟨(some 14), none, .mv (.tmp 0), 2, [], false⟩,
  ⟨(some 15), none, .mv (.tmp 3), 3, [], false⟩,
  ⟨(some 16), none, .mv (.tmp 0), 4, [], false⟩,
  ⟨(some 17), none, .mv (.tmp 3), 5, [], false⟩,
  ⟨(some 18), none, .adSl 1 (.tmp 16) (.tmp 17), 6, [], false⟩,
  ⟨(some 19), none, .load 1 false (.tmp 18), 7, [], false⟩,
  ⟨(some 20), none, .mv (.tmp 0), 8, [], false⟩,
  ⟨(some 21), none, .mv (.tmp 1), 9, [], false⟩,
  ⟨(some 22), none, .adSl 1 (.tmp 20) (.tmp 21), 10, [], false⟩,
  ⟨(some 23), none, .load 1 false (.tmp 22), 11, [], false⟩,
  ⟨(some 24), none, .adSl 1 (.tmp 12) (.tmp 13), 12, [], false⟩,
  ⟨none, none, .store 1 (.tmp 24) (.tmp 19), 13, [], false⟩,
  ⟨(some 25), none, .adSl 1 (.tmp 14) (.tmp 15), 14, [], true⟩,
  ⟨none, none, .store 1 (.tmp 25) (.tmp 23), 15, [], true⟩])
 (.seq (.region 6 [
  ⟨(some 26), none, .mv (.tmp 1), 0, [], true⟩,
  ⟨(some 27), none, .bin .add (.tmp 26) (.const (.int .i64 1)), 1, [], true⟩,
  ⟨(some 28), none, .mv (.tmp 2), 2, [], true⟩,
  ⟨(some 29), none, .bin .sub (.tmp 28) (.const (.int .i64 1)), 3, [], true⟩,
  ⟨(some 10), none, .mv (.tmp 27), 4, [], true⟩,
  ⟨(some 11), none, .mv (.tmp 29), 5, [], true⟩])
 (.seq (.block 0 (.loop (.seq (.seq (.region 14 [
  ⟨(some 30), none, .mv (.tmp 10), 0, [], true⟩,
  ⟨(some 31), none, .mv (.tmp 11), 1, [], false⟩,
  ⟨(some 32), none, .bin .leq (.tmp 30) (.tmp 31), 2, [], true⟩,
  ⟨(some 33), none, .mv (.tmp 32), 3, [], true⟩,
  ⟨(some 34), (some (33, true)), .mv (.tmp 0), 4, [], true⟩,
  ⟨(some 35), (some (33, true)), .mv (.tmp 10), 5, [], false⟩,
  ⟨(some 36), (some (33, true)), .adSl 1 (.tmp 34) (.tmp 35), 6, [], true⟩,
  ⟨(some 37), (some (33, true)), .load 1 false (.tmp 36), 7, [], true⟩,
  ⟨(some 38), (some (33, true)), .mv (.tmp 0), 8, [], false⟩,
  ⟨(some 39), (some (33, true)), .mv (.tmp 1), 9, [], false⟩,
  ⟨(some 40), (some (33, true)), .adSl 1 (.tmp 38) (.tmp 39), 10, [], false⟩,
  ⟨(some 41), (some (33, true)), .load 1 false (.tmp 40), 11, [], false⟩,
  ⟨(some 42), (some (33, true)), .call (.func 169) [(.tmp 37), (.tmp 41)], 12, [], true⟩,
  ⟨(some 43), none, .pick (.tmp 33) (.tmp 42) (.const (.bool false)), 13, [], true⟩])
 (.cond (.tmp 43) .skip (.exit 0)))
 (.block 1 (.region 3 [
  ⟨(some 44), none, .mv (.tmp 10), 0, [], true⟩,
  ⟨(some 45), none, .bin .add (.tmp 44) (.const (.int .i64 1)), 1, [], true⟩,
  ⟨(some 10), none, .mv (.tmp 45), 2, [], true⟩])))))
 (.seq (.block 2 (.loop (.seq (.seq (.region 15 [
  ⟨(some 46), none, .mv (.tmp 10), 0, [], true⟩,
  ⟨(some 47), none, .mv (.tmp 11), 1, [], false⟩,
  ⟨(some 48), none, .bin .leq (.tmp 46) (.tmp 47), 2, [], true⟩,
  ⟨(some 49), none, .mv (.tmp 48), 3, [], true⟩,
  ⟨(some 50), (some (49, true)), .mv (.tmp 0), 4, [], true⟩,
  ⟨(some 51), (some (49, true)), .mv (.tmp 11), 5, [], false⟩,
  ⟨(some 52), (some (49, true)), .adSl 1 (.tmp 50) (.tmp 51), 6, [], true⟩,
  ⟨(some 53), (some (49, true)), .load 1 false (.tmp 52), 7, [], true⟩,
  ⟨(some 54), (some (49, true)), .mv (.tmp 0), 8, [], false⟩,
  ⟨(some 55), (some (49, true)), .mv (.tmp 1), 9, [], false⟩,
  ⟨(some 56), (some (49, true)), .adSl 1 (.tmp 54) (.tmp 55), 10, [], false⟩,
  ⟨(some 57), (some (49, true)), .load 1 false (.tmp 56), 11, [], false⟩,
  ⟨(some 58), (some (49, true)), .call (.func 169) [(.tmp 53), (.tmp 57)], 12, [], true⟩,
  ⟨(some 59), (some (49, true)), .un .not (.tmp 58), 13, [], true⟩,
  ⟨(some 60), none, .pick (.tmp 49) (.tmp 59) (.const (.bool false)), 14, [], true⟩])
 (.cond (.tmp 60) .skip (.exit 2)))
 (.block 3 (.region 3 [
  ⟨(some 61), none, .mv (.tmp 11), 0, [], true⟩,
  ⟨(some 62), none, .bin .sub (.tmp 61) (.const (.int .i64 1)), 1, [], true⟩,
  ⟨(some 11), none, .mv (.tmp 62), 2, [], true⟩])))))
 (.seq (.seq (.region 3 [
  ⟨(some 63), none, .mv (.tmp 10), 0, [], true⟩,
  ⟨(some 64), none, .mv (.tmp 11), 1, [], true⟩,
  ⟨(some 65), none, .bin .gtr (.tmp 63) (.tmp 64), 2, [], true⟩])
 (.cond (.tmp 65) (.seq (.region 16 [
  ⟨(some 66), none, .mv (.tmp 0), 0, [], true⟩,
  ⟨(some 67), none, .mv (.tmp 11), 1, [], false⟩,
  ⟨(some 68), none, .mv (.tmp 0), 2, [], false⟩,
  ⟨(some 69), none, .mv (.tmp 1), 3, [], false⟩,
  ⟨(some 70), none, .mv (.tmp 0), 4, [], false⟩,
  ⟨(some 71), none, .mv (.tmp 1), 5, [], false⟩,
  ⟨(some 72), none, .adSl 1 (.tmp 70) (.tmp 71), 6, [], false⟩,
  ⟨(some 73), none, .load 1 false (.tmp 72), 7, [], false⟩,
  ⟨(some 74), none, .mv (.tmp 0), 8, [], false⟩,
  ⟨(some 75), none, .mv (.tmp 11), 9, [], false⟩,
  ⟨(some 76), none, .adSl 1 (.tmp 74) (.tmp 75), 10, [], false⟩,
  ⟨(some 77), none, .load 1 false (.tmp 76), 11, [], false⟩,
  ⟨(some 78), none, .adSl 1 (.tmp 66) (.tmp 67), 12, [], false⟩,
  ⟨none, none, .store 1 (.tmp 78) (.tmp 73), 13, [], false⟩,
  ⟨(some 79), none, .adSl 1 (.tmp 68) (.tmp 69), 14, [], true⟩,
  ⟨none, none, .store 1 (.tmp 79) (.tmp 77), 15, [], true⟩])
 (.seq (.region 3 [
  ⟨(some 80), none, .mv (.tmp 11), 0, [], true⟩,
  ⟨(some 8), none, .mv (.tmp 80), 1, [], true⟩,
  ⟨(some 9), none, .mv (.const (.bool true)), 2, [], true⟩])
 .ret)) .skip))
 (.seq (.region 16 [
  ⟨(some 81), none, .mv (.tmp 0), 0, [], true⟩,
  ⟨(some 82), none, .mv (.tmp 10), 1, [], false⟩,
  ⟨(some 83), none, .mv (.tmp 0), 2, [], false⟩,
  ⟨(some 84), none, .mv (.tmp 11), 3, [], false⟩,
  ⟨(some 85), none, .mv (.tmp 0), 4, [], false⟩,
  ⟨(some 86), none, .mv (.tmp 11), 5, [], false⟩,
  ⟨(some 87), none, .adSl 1 (.tmp 85) (.tmp 86), 6, [], false⟩,
  ⟨(some 88), none, .load 1 false (.tmp 87), 7, [], false⟩,
  ⟨(some 89), none, .mv (.tmp 0), 8, [], false⟩,
  ⟨(some 90), none, .mv (.tmp 10), 9, [], false⟩,
  ⟨(some 91), none, .adSl 1 (.tmp 89) (.tmp 90), 10, [], false⟩,
  ⟨(some 92), none, .load 1 false (.tmp 91), 11, [], false⟩,
  ⟨(some 93), none, .adSl 1 (.tmp 81) (.tmp 82), 12, [], false⟩,
  ⟨none, none, .store 1 (.tmp 93) (.tmp 88), 13, [], false⟩,
  ⟨(some 94), none, .adSl 1 (.tmp 83) (.tmp 84), 14, [], true⟩,
  ⟨none, none, .store 1 (.tmp 94) (.tmp 92), 15, [], true⟩])
 (.seq (.region 3 [
  ⟨(some 95), none, .mv (.tmp 10), 0, [], true⟩,
  ⟨(some 96), none, .bin .add (.tmp 95) (.const (.int .i64 1)), 1, [], true⟩,
  ⟨(some 10), none, .mv (.tmp 96), 2, [], true⟩])
 (.seq (.region 3 [
  ⟨(some 97), none, .mv (.tmp 11), 0, [], true⟩,
  ⟨(some 98), none, .bin .sub (.tmp 97) (.const (.int .i64 1)), 1, [], true⟩,
  ⟨(some 11), none, .mv (.tmp 98), 2, [], true⟩])
 (.seq (.block 4 (.loop (.block 5 (.seq (.block 6 (.loop (.seq (.seq (.region 14 [
  ⟨(some 99), none, .mv (.tmp 10), 0, [], true⟩,
  ⟨(some 100), none, .mv (.tmp 11), 1, [], false⟩,
  ⟨(some 101), none, .bin .leq (.tmp 99) (.tmp 100), 2, [], true⟩,
  ⟨(some 102), none, .mv (.tmp 101), 3, [], true⟩,
  ⟨(some 103), (some (102, true)), .mv (.tmp 0), 4, [], true⟩,
  ⟨(some 104), (some (102, true)), .mv (.tmp 10), 5, [], false⟩,
  ⟨(some 105), (some (102, true)), .adSl 1 (.tmp 103) (.tmp 104), 6, [], true⟩,
  ⟨(some 106), (some (102, true)), .load 1 false (.tmp 105), 7, [], true⟩,
  ⟨(some 107), (some (102, true)), .mv (.tmp 0), 8, [], false⟩,
  ⟨(some 108), (some (102, true)), .mv (.tmp 1), 9, [], false⟩,
  ⟨(some 109), (some (102, true)), .adSl 1 (.tmp 107) (.tmp 108), 10, [], false⟩,
  ⟨(some 110), (some (102, true)), .load 1 false (.tmp 109), 11, [], false⟩,
  ⟨(some 111), (some (102, true)), .call (.func 169) [(.tmp 106), (.tmp 110)], 12, [], true⟩,
  ⟨(some 112), none, .pick (.tmp 102) (.tmp 111) (.const (.bool false)), 13, [], true⟩])
 (.cond (.tmp 112) .skip (.exit 6)))
 (.block 7 (.region 3 [
  ⟨(some 113), none, .mv (.tmp 10), 0, [], true⟩,
  ⟨(some 114), none, .bin .add (.tmp 113) (.const (.int .i64 1)), 1, [], true⟩,
  ⟨(some 10), none, .mv (.tmp 114), 2, [], true⟩])))))
 (.seq (.block 8 (.loop (.seq (.seq (.region 15 [
  ⟨(some 115), none, .mv (.tmp 10), 0, [], true⟩,
  ⟨(some 116), none, .mv (.tmp 11), 1, [], false⟩,
  ⟨(some 117), none, .bin .leq (.tmp 115) (.tmp 116), 2, [], true⟩,
  ⟨(some 118), none, .mv (.tmp 117), 3, [], true⟩,
  ⟨(some 119), (some (118, true)), .mv (.tmp 0), 4, [], true⟩,
  ⟨(some 120), (some (118, true)), .mv (.tmp 11), 5, [], false⟩,
  ⟨(some 121), (some (118, true)), .adSl 1 (.tmp 119) (.tmp 120), 6, [], true⟩,
  ⟨(some 122), (some (118, true)), .load 1 false (.tmp 121), 7, [], true⟩,
  ⟨(some 123), (some (118, true)), .mv (.tmp 0), 8, [], false⟩,
  ⟨(some 124), (some (118, true)), .mv (.tmp 1), 9, [], false⟩,
  ⟨(some 125), (some (118, true)), .adSl 1 (.tmp 123) (.tmp 124), 10, [], false⟩,
  ⟨(some 126), (some (118, true)), .load 1 false (.tmp 125), 11, [], false⟩,
  ⟨(some 127), (some (118, true)), .call (.func 169) [(.tmp 122), (.tmp 126)], 12, [], true⟩,
  ⟨(some 128), (some (118, true)), .un .not (.tmp 127), 13, [], true⟩,
  ⟨(some 129), none, .pick (.tmp 118) (.tmp 128) (.const (.bool false)), 14, [], true⟩])
 (.cond (.tmp 129) .skip (.exit 8)))
 (.block 9 (.region 3 [
  ⟨(some 130), none, .mv (.tmp 11), 0, [], true⟩,
  ⟨(some 131), none, .bin .sub (.tmp 130) (.const (.int .i64 1)), 1, [], true⟩,
  ⟨(some 11), none, .mv (.tmp 131), 2, [], true⟩])))))
 (.seq (.seq (.region 3 [
  ⟨(some 132), none, .mv (.tmp 10), 0, [], true⟩,
  ⟨(some 133), none, .mv (.tmp 11), 1, [], true⟩,
  ⟨(some 134), none, .bin .gtr (.tmp 132) (.tmp 133), 2, [], true⟩])
 (.cond (.tmp 134) (.exit 4) .skip))
 (.seq (.region 16 [
  ⟨(some 135), none, .mv (.tmp 0), 0, [], true⟩,
  ⟨(some 136), none, .mv (.tmp 10), 1, [], false⟩,
  ⟨(some 137), none, .mv (.tmp 0), 2, [], false⟩,
  ⟨(some 138), none, .mv (.tmp 11), 3, [], false⟩,
  ⟨(some 139), none, .mv (.tmp 0), 4, [], false⟩,
  ⟨(some 140), none, .mv (.tmp 11), 5, [], false⟩,
  ⟨(some 141), none, .adSl 1 (.tmp 139) (.tmp 140), 6, [], false⟩,
  ⟨(some 142), none, .load 1 false (.tmp 141), 7, [], false⟩,
  ⟨(some 143), none, .mv (.tmp 0), 8, [], false⟩,
  ⟨(some 144), none, .mv (.tmp 10), 9, [], false⟩,
  ⟨(some 145), none, .adSl 1 (.tmp 143) (.tmp 144), 10, [], false⟩,
  ⟨(some 146), none, .load 1 false (.tmp 145), 11, [], false⟩,
  ⟨(some 147), none, .adSl 1 (.tmp 135) (.tmp 136), 12, [], false⟩,
  ⟨none, none, .store 1 (.tmp 147) (.tmp 142), 13, [], false⟩,
  ⟨(some 148), none, .adSl 1 (.tmp 137) (.tmp 138), 14, [], true⟩,
  ⟨none, none, .store 1 (.tmp 148) (.tmp 146), 15, [], true⟩])
 (.seq (.region 3 [
  ⟨(some 149), none, .mv (.tmp 10), 0, [], true⟩,
  ⟨(some 150), none, .bin .add (.tmp 149) (.const (.int .i64 1)), 1, [], true⟩,
  ⟨(some 10), none, .mv (.tmp 150), 2, [], true⟩])
 (.region 3 [
  ⟨(some 151), none, .mv (.tmp 11), 0, [], true⟩,
  ⟨(some 152), none, .bin .sub (.tmp 151) (.const (.int .i64 1)), 1, [], true⟩,
  ⟨(some 11), none, .mv (.tmp 152), 2, [], true⟩])))))))))
 (.seq (.region 16 [
  ⟨(some 153), none, .mv (.tmp 0), 0, [], true⟩,
  ⟨(some 154), none, .mv (.tmp 11), 1, [], false⟩,
  ⟨(some 155), none, .mv (.tmp 0), 2, [], false⟩,
  ⟨(some 156), none, .mv (.tmp 1), 3, [], false⟩,
  ⟨(some 157), none, .mv (.tmp 0), 4, [], false⟩,
  ⟨(some 158), none, .mv (.tmp 1), 5, [], false⟩,
  ⟨(some 159), none, .adSl 1 (.tmp 157) (.tmp 158), 6, [], false⟩,
  ⟨(some 160), none, .load 1 false (.tmp 159), 7, [], false⟩,
  ⟨(some 161), none, .mv (.tmp 0), 8, [], false⟩,
  ⟨(some 162), none, .mv (.tmp 11), 9, [], false⟩,
  ⟨(some 163), none, .adSl 1 (.tmp 161) (.tmp 162), 10, [], false⟩,
  ⟨(some 164), none, .load 1 false (.tmp 163), 11, [], false⟩,
  ⟨(some 165), none, .adSl 1 (.tmp 153) (.tmp 154), 12, [], false⟩,
  ⟨none, none, .store 1 (.tmp 165) (.tmp 160), 13, [], false⟩,
  ⟨(some 166), none, .adSl 1 (.tmp 155) (.tmp 156), 14, [], true⟩,
  ⟨none, none, .store 1 (.tmp 166) (.tmp 164), 15, [], true⟩])
 (.seq (.region 3 [
  ⟨(some 167), none, .mv (.tmp 11), 0, [], true⟩,
  ⟨(some 8), none, .mv (.tmp 167), 1, [], true⟩,
  ⟨(some 9), none, .mv (.const (.bool false)), 2, [], true⟩])
 .ret))))))))))))⟩

def m172 : MFn := ⟨19, [(2, none)], (.seq (.region 1 [
  ⟨(some 2), none, .mv (.const (.int .i64 0)), 0, [], true⟩])
 (.seq (.seq (.region 2 [
  ⟨(some 3), none, .mv (.tmp 0), 0, [], true⟩,
  ⟨(some 4), none, .bin .geq (.tmp 3) (.const (.int .u32 65536)), 1, [], true⟩])
 (.cond (.tmp 4) (.seq (.region 3 [
  ⟨(some 5), none, .mv (.tmp 0), 0, [], true⟩,
  ⟨(some 6), none, .bin .shr (.tmp 5) (.const (.int .u64 16)), 1, [], true⟩,
  ⟨(some 0), none, .mv (.tmp 6), 2, [], true⟩])
 (.region 1 [
  ⟨(some 2), none, .mv (.const (.int .i64 16)), 0, [], true⟩])) .skip))
 (.seq (.seq (.region 2 [
  ⟨(some 7), none, .mv (.tmp 0), 0, [], true⟩,
  ⟨(some 8), none, .bin .geq (.tmp 7) (.const (.int .u32 256)), 1, [], true⟩])
 (.cond (.tmp 8) (.seq (.region 3 [
  ⟨(some 9), none, .mv (.tmp 0), 0, [], true⟩,
  ⟨(some 10), none, .bin .shr (.tmp 9) (.const (.int .u64 8)), 1, [], true⟩,
  ⟨(some 0), none, .mv (.tmp 10), 2, [], true⟩])
 (.region 3 [
  ⟨(some 11), none, .mv (.tmp 2), 0, [], true⟩,
  ⟨(some 12), none, .bin .add (.tmp 11) (.const (.int .i64 8)), 1, [], true⟩,
  ⟨(some 2), none, .mv (.tmp 12), 2, [], true⟩])) .skip))
 (.seq (.region 7 [
  ⟨(some 13), none, .mv (.tmp 2), 0, [], true⟩,
  ⟨(some 14), none, .mv (.tmp 0), 1, [], true⟩,
  ⟨(some 15), none, .conv .u8 (.tmp 14), 2, [], true⟩,
  ⟨(some 16), none, .idxStr (.const (.string ⟨#[0, 1, 2, 2, 3, 3, 3, 3, 4, 4, 4, 4, 4, 4, 4, 4, 5, 5, 5, 5, 5, 5, 5, 5, 5, 5, 5, 5, 5, 5, 5, 5, 6, 6, 6, 6, 6, 6, 6, 6, 6, 6, 6, 6, 6, 6, 6, 6, 6, 6, 6, 6, 6, 6, 6, 6, 6, 6, 6, 6, 6, 6, 6, 6, 7, 7, 7, 7, 7, 7, 7, 7, 7, 7, 7, 7, 7, 7, 7, 7, 7, 7, 7, 7, 7, 7, 7, 7, 7, 7, 7, 7, 7, 7, 7, 7, 7, 7, 7, 7, 7, 7, 7, 7, 7, 7, 7, 7, 7, 7, 7, 7, 7, 7, 7, 7, 7, 7, 7, 7, 7, 7, 7, 7, 7, 7, 7, 7, 8, 8, 8, 8, 8, 8, 8, 8, 8, 8, 8, 8, 8, 8, 8, 8, 8, 8, 8, 8, 8, 8, 8, 8, 8, 8, 8, 8, 8, 8, 8, 8, 8, 8, 8, 8, 8, 8, 8, 8, 8, 8, 8, 8, 8, 8, 8, 8, 8, 8, 8, 8, 8, 8, 8, 8, 8, 8, 8, 8, 8, 8, 8, 8, 8, 8, 8, 8, 8, 8, 8, 8, 8, 8, 8, 8, 8, 8, 8, 8, 8, 8, 8, 8, 8, 8, 8, 8, 8, 8, 8, 8, 8, 8, 8, 8, 8, 8, 8, 8, 8, 8, 8, 8, 8, 8, 8, 8, 8, 8, 8, 8, 8, 8, 8, 8, 8, 8, 8, 8, 8, 8, 8, 8, 8, 8, 8, 8]⟩)) (.tmp 15), 3, [], true⟩,
  ⟨(some 17), none, .conv .i64 (.tmp 16), 4, [], true⟩,
  ⟨(some 18), none, .bin .add (.tmp 13) (.tmp 17), 5, [], true⟩,
  ⟨(some 2), none, .mv (.tmp 18), 6, [], true⟩])
 .ret))))⟩

def m173 : MFn := ⟨25, [(2, none)], (.seq (.region 1 [
  ⟨(some 2), none, .mv (.const (.int .i64 0)), 0, [], true⟩])
 (.seq (.seq (.region 2 [
  ⟨(some 3), none, .mv (.tmp 0), 0, [], true⟩,
  ⟨(some 4), none, .bin .geq (.tmp 3) (.const (.int .u64 4294967296)), 1, [], true⟩])
 (.cond (.tmp 4) (.seq (.region 3 [
  ⟨(some 5), none, .mv (.tmp 0), 0, [], true⟩,
  ⟨(some 6), none, .bin .shr (.tmp 5) (.const (.int .u64 32)), 1, [], true⟩,
  ⟨(some 0), none, .mv (.tmp 6), 2, [], true⟩])
 (.region 1 [
  ⟨(some 2), none, .mv (.const (.int .i64 32)), 0, [], true⟩])) .skip))
 (.seq (.seq (.region 2 [
  ⟨(some 7), none, .mv (.tmp 0), 0, [], true⟩,
  ⟨(some 8), none, .bin .geq (.tmp 7) (.const (.int .u64 65536)), 1, [], true⟩])
 (.cond (.tmp 8) (.seq (.region 3 [
  ⟨(some 9), none, .mv (.tmp 0), 0, [], true⟩,
  ⟨(some 10), none, .bin .shr (.tmp 9) (.const (.int .u64 16)), 1, [], true⟩,
  ⟨(some 0), none, .mv (.tmp 10), 2, [], true⟩])
 (.region 3 [
  ⟨(some 11), none, .mv (.tmp 2), 0, [], true⟩,
  ⟨(some 12), none, .bin .add (.tmp 11) (.const (.int .i64 16)), 1, [], true⟩,
  ⟨(some 2), none, .mv (.tmp 12), 2, [], true⟩])) .skip))
 (.seq (.seq (.region 2 [
  ⟨(some 13), none, .mv (.tmp 0), 0, [], true⟩,
  ⟨(some 14), none, .bin .geq (.tmp 13) (.const (.int .u64 256)), 1, [], true⟩])
 (.cond (.tmp 14) (.seq (.region 3 [
  ⟨(some 15), none, .mv (.tmp 0), 0, [], true⟩,
  ⟨(some 16), none, .bin .shr (.tmp 15) (.const (.int .u64 8)), 1, [], true⟩,
  ⟨(some 0), none, .mv (.tmp 16), 2, [], true⟩])
 (.region 3 [
  ⟨(some 17), none, .mv (.tmp 2), 0, [], true⟩,
  ⟨(some 18), none, .bin .add (.tmp 17) (.const (.int .i64 8)), 1, [], true⟩,
  ⟨(some 2), none, .mv (.tmp 18), 2, [], true⟩])) .skip))
 (.seq (.region 7 [
  ⟨(some 19), none, .mv (.tmp 2), 0, [], true⟩,
  ⟨(some 20), none, .mv (.tmp 0), 1, [], true⟩,
  ⟨(some 21), none, .conv .u8 (.tmp 20), 2, [], true⟩,
  ⟨(some 22), none, .idxStr (.const (.string ⟨#[0, 1, 2, 2, 3, 3, 3, 3, 4, 4, 4, 4, 4, 4, 4, 4, 5, 5, 5, 5, 5, 5, 5, 5, 5, 5, 5, 5, 5, 5, 5, 5, 6, 6, 6, 6, 6, 6, 6, 6, 6, 6, 6, 6, 6, 6, 6, 6, 6, 6, 6, 6, 6, 6, 6, 6, 6, 6, 6, 6, 6, 6, 6, 6, 7, 7, 7, 7, 7, 7, 7, 7, 7, 7, 7, 7, 7, 7, 7, 7, 7, 7, 7, 7, 7, 7, 7, 7, 7, 7, 7, 7, 7, 7, 7, 7, 7, 7, 7, 7, 7, 7, 7, 7, 7, 7, 7, 7, 7, 7, 7, 7, 7, 7, 7, 7, 7, 7, 7, 7, 7, 7, 7, 7, 7, 7, 7, 7, 8, 8, 8, 8, 8, 8, 8, 8, 8, 8, 8, 8, 8, 8, 8, 8, 8, 8, 8, 8, 8, 8, 8, 8, 8, 8, 8, 8, 8, 8, 8, 8, 8, 8, 8, 8, 8, 8, 8, 8, 8, 8, 8, 8, 8, 8, 8, 8, 8, 8, 8, 8, 8, 8, 8, 8, 8, 8, 8, 8, 8, 8, 8, 8, 8, 8, 8, 8, 8, 8, 8, 8, 8, 8, 8, 8, 8, 8, 8, 8, 8, 8, 8, 8, 8, 8, 8, 8, 8, 8, 8, 8, 8, 8, 8, 8, 8, 8, 8, 8, 8, 8, 8, 8, 8, 8, 8, 8, 8, 8, 8, 8, 8, 8, 8, 8, 8, 8, 8, 8, 8, 8, 8, 8, 8, 8, 8, 8]⟩)) (.tmp 21), 3, [], true⟩,
  ⟨(some 23), none, .conv .i64 (.tmp 22), 4, [], true⟩,
  ⟨(some 24), none, .bin .add (.tmp 19) (.tmp 23), 5, [], true⟩,
  ⟨(some 2), none, .mv (.tmp 24), 6, [], true⟩])
 .ret)))))⟩

def m174 : MFn := ⟨7, [(2, none)], (.seq (.region 1 [
  ⟨(some 2), none, .mv (.const (.int .u64 0)), 0, [], true⟩])
 (.seq (.seq (.region 3 [
  ⟨(some 3), none, .mv (.tmp 0), 0, [], true⟩,
  ⟨(some 4), none, .call (.func 88) [(.tmp 3)], 1, [], true⟩,
  ⟨(some 5), none, .un .not (.tmp 4), 2, [], true⟩])
 (.cond (.tmp 5) (.seq (.region 1 [
  ⟨(some 2), none, .mv (.const (.int .u64 9221120237041090560)), 0, [], true⟩])
 .ret) .skip))
 (.seq (.region 2 [
  ⟨(some 6), none, .mv (.tmp 0), 0, [], true⟩,
  ⟨(some 2), none, .mv (.tmp 6), 1, [], true⟩])
 .ret)))⟩

def m175 : MFn := ⟨22, [(4, none)], (.seq (.region 1 [
  ⟨(some 4), none, .mv (.const (.int .i64 0)), 0, [], true⟩])
 (.seq (.block 0 (.seq (.region 3 [
  ⟨(some 6), none, .mv (.tmp 0), 0, [], true⟩,
  ⟨(some 7), none, .eq false .ptr (.tmp 6) (.const (.pointer none)), 1, [], true⟩,
  ⟨(some 5), none, .mv (.tmp 7), 2, [], true⟩])
 (.cond (.tmp 5) (.seq (.region 1 [
  ⟨(some 4), none, .mv (.const (.int .i64 1)), 0, [], true⟩])
 .ret) (.seq (.region 14 [
  ⟨(some 9), none, .mv (.tmp 0), 0, [], true⟩,
  ⟨(some 10), none, .nilCheck (.tmp 9), 1, [], true⟩,
  ⟨(some 11), none, .fieldAddr 1 (.tmp 10), 2, [], true⟩,
  ⟨(some 12), none, .load 1 false (.tmp 11), 3, [], true⟩,
  ⟨(some 13), none, .un .not (.tmp 12), 4, [], true⟩,
  ⟨(some 14), none, .mv (.tmp 13), 5, [], true⟩,
  ⟨(some 15), (some (14, false)), .mv (.tmp 0), 6, [], true⟩,
  ⟨(some 16), (some (14, false)), .nilCheck (.tmp 15), 7, [], true⟩,
  ⟨(some 17), (some (14, false)), .fieldAddr 2 (.tmp 16), 8, [], true⟩,
  ⟨(some 18), (some (14, false)), .load 1 false (.tmp 17), 9, [], true⟩,
  ⟨(some 19), (some (14, false)), .mv (.tmp 1), 10, [], true⟩,
  ⟨(some 20), (some (14, false)), .bin .neq (.tmp 18) (.tmp 19), 11, [], true⟩,
  ⟨(some 21), none, .pick (.tmp 14) (.const (.bool true)) (.tmp 20), 12, [], true⟩,
  ⟨(some 8), none, .mv (.tmp 21), 13, [], true⟩])
 (.cond (.tmp 8) (.seq (.region 1 [
  ⟨(some 4), none, .mv (.const (.int .i64 8)), 0, [], true⟩])
 .ret) .skip)))))
 (.seq (.region 1 [
  ⟨(some 4), none, .mv (.const (.int .i64 0)), 0, [], true⟩])
 .ret)))⟩

def m176 : MFn := ⟨38, [(4, (some (3, true))), (5, none)], (.seq (.region 2 [
  ⟨(some 4), none, .alloc [(.int .i64 0), (.int .u64 0), (.int .u64 0)] 131, 0, [], true⟩,
  ⟨(some 5), none, .mv (.const (.bool false)), 1, [], true⟩])
 (.seq (.seq (.region 1 [
  ⟨(some 6), none, .mv (.const (.int .i64 0)), 0, [], true⟩])
 (.block 0 (.loop (.seq (.seq (.region 11 [
  ⟨(some 7), none, .mv (.tmp 0), 0, [], true⟩,
  ⟨(some 8), none, .eq true .ptr (.tmp 7) (.const (.pointer none)), 1, [], true⟩,
  ⟨(some 9), none, .mv (.tmp 8), 2, [], true⟩,
  ⟨(some 10), (some (9, true)), .mv (.tmp 6), 3, [], true⟩,
  ⟨(some 11), (some (9, true)), .mv (.tmp 0), 4, [], true⟩,
  ⟨(some 12), (some (9, true)), .nilCheck (.tmp 11), 5, [], true⟩,
  ⟨(some 13), (some (9, true)), .fieldAddr 0 (.tmp 12), 6, [], true⟩,
  ⟨(some 14), (some (9, true)), .load 1 false (.tmp 13), 7, [], true⟩,
  ⟨(some 15), (some (9, true)), .len false (.tmp 14), 8, [], true⟩,
  ⟨(some 16), (some (9, true)), .bin .lss (.tmp 10) (.tmp 15), 9, [], true⟩,
  ⟨(some 17), none, .pick (.tmp 9) (.tmp 16) (.const (.bool false)), 10, [], true⟩])
 (.cond (.tmp 17) .skip (.exit 0)))
 (.seq (.block 1 (.seq (.region 10 [
  ⟨(some 20), none, .mv (.tmp 0), 0, [], true⟩,
  ⟨(some 21), none, .nilCheck (.tmp 20), 1, [], true⟩,
  ⟨(some 22), none, .fieldAddr 0 (.tmp 21), 2, [], true⟩,
  ⟨(some 23), none, .load 1 false (.tmp 22), 3, [], true⟩,
  ⟨(some 24), none, .mv (.tmp 6), 4, [], true⟩,
  ⟨(some 25), none, .adSl 3 (.tmp 23) (.tmp 24), 5, [], true⟩,
  ⟨(some 26), none, .fieldAddr 0 (.tmp 25), 6, [], true⟩,
  ⟨(some 27), none, .load 1 false (.tmp 26), 7, [], true⟩,
  ⟨(some 28), none, .mv (.tmp 1), 8, [], true⟩,
  ⟨(some 29), none, .bin .eql (.tmp 27) (.tmp 28), 9, [], true⟩])
 (.cond (.tmp 29) (.seq (.region 9 [
  ⟨(some 30), none, .mv (.tmp 0), 0, [], true⟩,
  ⟨(some 31), none, .nilCheck (.tmp 30), 1, [], true⟩,
  ⟨(some 32), none, .fieldAddr 0 (.tmp 31), 2, [], true⟩,
  ⟨(some 33), none, .load 1 false (.tmp 32), 3, [], true⟩,
  ⟨(some 34), none, .mv (.tmp 6), 4, [], true⟩,
  ⟨(some 35), none, .adSl 3 (.tmp 33) (.tmp 34), 5, [], true⟩,
  ⟨(some 36), none, .load 3 true (.tmp 35), 6, [], true⟩,
  ⟨none, none, .store 3 (.tmp 4) (.tmp 36), 7, [], true⟩,
  ⟨(some 5), none, .mv (.const (.bool true)), 8, [], true⟩])
 .ret) .skip)))
 (.region 3 [
  ⟨(some 18), none, .mv (.tmp 6), 0, [], true⟩,
  ⟨(some 19), none, .bin .add (.tmp 18) (.const (.int .i64 1)), 1, [], true⟩,
  ⟨(some 6), none, .mv (.tmp 19), 2, [], true⟩]))))))
 (.seq (.region 3 [
  ⟨(some 37), none, .build [(.int .i64 0), (.int .u64 0), (.int .u64 0)] [], 0, [], true⟩,
  ⟨none, none, .store 3 (.tmp 4) (.tmp 37), 1, [], true⟩,
  ⟨(some 5), none, .mv (.const (.bool false)), 2, [], true⟩])
 .ret)))⟩

def m177 : MFn := ⟨21, [], (.seq (.region 1 [
  ⟨(some 5), none, .box 183 (.tmp 2), 0, [], true⟩])
 (.seq (.region 7 [
  ⟨(some 7), none, .buildSl 183 24 0 [] [], 0, [], true⟩,
  ⟨(some 8), none, .mv (.tmp 0), 1, [], true⟩,
  ⟨(some 9), none, .nilCheck (.tmp 8), 2, [], true⟩,
  ⟨(some 10), none, .fieldAddr 0 (.tmp 9), 3, [], true⟩,
  ⟨(some 11), none, .load 1 false (.tmp 10), 4, [], true⟩,
  ⟨(some 12), none, .append 183 24 112 (.tmp 7) (.tmp 11), 5, [], true⟩,
  ⟨(some 6), none, .mv (.tmp 12), 6, [], true⟩])
 (.seq (.region 5 [
  ⟨(some 13), none, .mv (.tmp 6), 0, [], true⟩,
  ⟨(some 14), none, .mv (.tmp 1), 1, [], true⟩,
  ⟨(some 15), none, .load 24 true (.tmp 5), 2, [], true⟩,
  ⟨(some 16), none, .adSl 24 (.tmp 13) (.tmp 14), 3, [], true⟩,
  ⟨none, none, .store 24 (.tmp 16) (.tmp 15), 4, [], true⟩])
 (.region 5 [
  ⟨(some 17), none, .mv (.tmp 0), 0, [], true⟩,
  ⟨(some 18), none, .mv (.tmp 6), 1, [], true⟩,
  ⟨(some 19), none, .nilCheck (.tmp 17), 2, [], true⟩,
  ⟨(some 20), none, .fieldAddr 0 (.tmp 19), 3, [], true⟩,
  ⟨none, none, .store 1 (.tmp 20) (.tmp 18), 4, [], true⟩]))))⟩

def m178 : MFn := ⟨36, [(2, none)], (.seq (.region 1 [
  ⟨(some 2), none, .mv (.const (.int .i64 0)), 0, [], true⟩])
 (.seq (.region 1 [
  ⟨(some 3), none, .mv (.const (.int .i64 0)), 0, [], true⟩])
 (.seq (.seq (.region 1 [
  ⟨(some 4), none, .mv (.const (.int .i64 0)), 0, [], true⟩])
 (.block 0 (.loop (.seq (.seq (.region 11 [
  ⟨(some 6), none, .mv (.tmp 0), 0, [], true⟩,
  ⟨(some 7), none, .eq true .ptr (.tmp 6) (.const (.pointer none)), 1, [], true⟩,
  ⟨(some 8), none, .mv (.tmp 7), 2, [], true⟩,
  ⟨(some 9), (some (8, true)), .mv (.tmp 4), 3, [], true⟩,
  ⟨(some 10), (some (8, true)), .mv (.tmp 0), 4, [], true⟩,
  ⟨(some 11), (some (8, true)), .nilCheck (.tmp 10), 5, [], true⟩,
  ⟨(some 12), (some (8, true)), .fieldAddr 0 (.tmp 11), 6, [], true⟩,
  ⟨(some 13), (some (8, true)), .load 1 false (.tmp 12), 7, [], true⟩,
  ⟨(some 14), (some (8, true)), .len false (.tmp 13), 8, [], true⟩,
  ⟨(some 15), (some (8, true)), .bin .lss (.tmp 9) (.tmp 14), 9, [], true⟩,
  ⟨(some 16), none, .pick (.tmp 8) (.tmp 15) (.const (.bool false)), 10, [], true⟩])
 (.cond (.tmp 16) .skip (.exit 0)))
 (.seq (.block 1 (.seq (.region 1 [
  ⟨(some 5), none, .mv (.const (.int .i64 0)), 0, [], true⟩])
 (.block 2 (.loop (.seq (.seq (.region 2 [
  ⟨(some 19), none, .mv (.tmp 5), 0, [], true⟩,
  ⟨(some 20), none, .bin .lss (.tmp 19) (.const (.int .i64 12)), 1, [], true⟩])
 (.cond (.tmp 20) .skip (.exit 2)))
 (.seq (.block 3 (.seq (.region 10 [
  ⟨(some 23), none, .mv (.tmp 0), 0, [], true⟩,
  ⟨(some 24), none, .nilCheck (.tmp 23), 1, [], true⟩,
  ⟨(some 25), none, .fieldAddr 0 (.tmp 24), 2, [], true⟩,
  ⟨(some 26), none, .load 1 false (.tmp 25), 3, [], true⟩,
  ⟨(some 27), none, .mv (.tmp 4), 4, [], true⟩,
  ⟨(some 28), none, .mv (.tmp 5), 5, [], true⟩,
  ⟨(some 29), none, .adSl 24 (.tmp 26) (.tmp 27), 6, [], true⟩,
  ⟨(some 30), none, .fieldAddr 0 (.tmp 29), 7, [], true⟩,
  ⟨(some 31), none, .adArr 12 1 (.tmp 30) (.tmp 28), 8, [], true⟩,
  ⟨(some 32), none, .load 1 false (.tmp 31), 9, [], true⟩])
 (.cond (.tmp 32) (.region 3 [
  ⟨(some 33), none, .mv (.tmp 3), 0, [], true⟩,
  ⟨(some 34), none, .bin .add (.tmp 33) (.const (.int .i64 1)), 1, [], true⟩,
  ⟨(some 3), none, .mv (.tmp 34), 2, [], true⟩]) .skip)))
 (.region 3 [
  ⟨(some 21), none, .mv (.tmp 5), 0, [], true⟩,
  ⟨(some 22), none, .bin .add (.tmp 21) (.const (.int .i64 1)), 1, [], true⟩,
  ⟨(some 5), none, .mv (.tmp 22), 2, [], true⟩])))))))
 (.region 3 [
  ⟨(some 17), none, .mv (.tmp 4), 0, [], true⟩,
  ⟨(some 18), none, .bin .add (.tmp 17) (.const (.int .i64 1)), 1, [], true⟩,
  ⟨(some 4), none, .mv (.tmp 18), 2, [], true⟩]))))))
 (.seq (.region 2 [
  ⟨(some 35), none, .mv (.tmp 3), 0, [], true⟩,
  ⟨(some 2), none, .mv (.tmp 35), 1, [], true⟩])
 .ret))))⟩

def m179 : MFn := ⟨34, [], (.seq (.region 3 [
  ⟨(some 3), none, .load 1 false (.tmp 0), 0, [], true⟩,
  ⟨(some 4), none, .eq true .ptr (.tmp 3) (.const (.pointer none)), 1, [], true⟩,
  ⟨(some 5), none, .call (.func 111) [(.tmp 4), (.const (.int .i64 1))], 2, [], true⟩])
 (.seq (.region 16 [
  ⟨(some 6), none, .load 1 false (.tmp 0), 0, [], true⟩,
  ⟨(some 7), none, .nilCheck (.tmp 6), 1, [], true⟩,
  ⟨(some 8), none, .fieldAddr 0 (.tmp 7), 2, [], true⟩,
  ⟨(some 9), none, .load 1 false (.tmp 8), 3, [], true⟩,
  ⟨(some 10), none, .eq true .ptr (.tmp 9) (.const (.pointer none)), 4, [], true⟩,
  ⟨(some 11), none, .mv (.tmp 10), 5, [], true⟩,
  ⟨(some 12), (some (11, true)), .load 1 false (.tmp 0), 6, [], true⟩,
  ⟨(some 13), (some (11, true)), .nilCheck (.tmp 12), 7, [], true⟩,
  ⟨(some 14), (some (11, true)), .fieldAddr 0 (.tmp 13), 8, [], true⟩,
  ⟨(some 15), (some (11, true)), .load 1 false (.tmp 14), 9, [], true⟩,
  ⟨(some 16), (some (11, true)), .nilCheck (.tmp 15), 10, [], true⟩,
  ⟨(some 17), (some (11, true)), .load 1 false (.tmp 16), 11, [], true⟩,
  ⟨(some 18), (some (11, true)), .load 1 false (.tmp 1), 12, [], false⟩,
  ⟨(some 19), (some (11, true)), .bin .eql (.tmp 17) (.tmp 18), 13, [], true⟩,
  ⟨(some 20), none, .pick (.tmp 11) (.tmp 19) (.const (.bool false)), 14, [], true⟩,
  ⟨(some 21), none, .call (.func 111) [(.tmp 20), (.const (.int .i64 8))], 15, [], true⟩])
 (.seq (.region 4 [
  ⟨(some 22), none, .load 1 false (.tmp 0), 0, [], true⟩,
  ⟨(some 23), none, .nilCheck (.tmp 22), 1, [], true⟩,
  ⟨(some 24), none, .fieldAddr 0 (.tmp 23), 2, [], true⟩,
  ⟨none, none, .store 1 (.tmp 24) (.const (.pointer none)), 3, [], true⟩])
 (.region 10 [
  ⟨(some 25), none, .load 1 false (.tmp 0), 0, [], true⟩,
  ⟨(some 26), none, .load 1 false (.tmp 2), 1, [], false⟩,
  ⟨(some 27), none, .load 1 false (.tmp 0), 2, [], false⟩,
  ⟨(some 28), none, .nilCheck (.tmp 27), 3, [], false⟩,
  ⟨(some 29), none, .fieldAddr 1 (.tmp 28), 4, [], false⟩,
  ⟨(some 30), none, .load 1 false (.tmp 29), 5, [], false⟩,
  ⟨(some 31), none, .call (.tmp 26) [(.tmp 30)], 6, [(false, none, none, 0, .load 1 false (.tmp 0))], false⟩,
  ⟨(some 32), none, .nilCheck (.tmp 25), 7, [], true⟩,
  ⟨(some 33), none, .fieldAddr 1 (.tmp 32), 8, [], true⟩,
  ⟨none, none, .store 1 (.tmp 33) (.tmp 31), 9, [], true⟩]))))⟩

def m180 : MFn := ⟨8, [(2, none)], (.seq (.region 1 [
  ⟨(some 2), none, .mv (.const (.slice none 0 0)), 0, [], true⟩])
 (.seq (.seq (.region 2 [
  ⟨(some 3), none, .mv (.tmp 0), 0, [], true⟩,
  ⟨(some 4), none, .eq false .slice (.tmp 3) (.const (.slice none 0 0)), 1, [], true⟩])
 (.cond (.tmp 4) (.seq (.region 1 [
  ⟨(some 2), none, .mv (.const (.slice none 0 0)), 0, [], true⟩])
 .ret) .skip))
 (.seq (.region 4 [
  ⟨(some 5), none, .buildSl 133 2 0 [] [], 0, [], true⟩,
  ⟨(some 6), none, .mv (.tmp 0), 1, [], true⟩,
  ⟨(some 7), none, .append 133 2 16 (.tmp 5) (.tmp 6), 2, [], true⟩,
  ⟨(some 2), none, .mv (.tmp 7), 3, [], true⟩])
 .ret)))⟩

def m181 : MFn := ⟨58, [], (.seq (.region 4 [
  ⟨(some 12), none, .mv (.tmp 2), 0, [], true⟩,
  ⟨(some 13), none, .mv (.tmp 1), 1, [], true⟩,
  ⟨(some 14), none, .bin .sub (.tmp 12) (.tmp 13), 2, [], true⟩,
  ⟨(some 10), none, .mv (.tmp 14), 3, [], true⟩])
 (.seq (.region 4 [
  ⟨(some 15), none, .mv (.tmp 3), 0, [], true⟩,
  ⟨(some 16), none, .mv (.tmp 2), 1, [], true⟩,
  ⟨(some 17), none, .bin .sub (.tmp 15) (.tmp 16), 2, [], true⟩,
  ⟨(some 11), none, .mv (.tmp 17), 3, [], true⟩])
 (.seq (.block 0 (.loop (.seq (.seq (.region 3 [
  ⟨(some 18), none, .mv (.tmp 10), 0, [], true⟩,
  ⟨(some 19), none, .mv (.tmp 11), 1, [], true⟩,
  ⟨(some 20), none, .bin .neq (.tmp 18) (.tmp 19), 2, [], true⟩])
 (.cond (.tmp 20) .skip (.exit 0)))
 (.block 1 (.seq (.region 3 [
  ⟨(some 21), none, .mv (.tmp 10), 0, [], true⟩,
  ⟨(some 22), none, .mv (.tmp 11), 1, [], true⟩,
  ⟨(some 23), none, .bin .gtr (.tmp 21) (.tmp 22), 2, [], true⟩])
 (.cond (.tmp 23) (.seq (.region 8 [
  ⟨(some 24), none, .mv (.tmp 0), 0, [], true⟩,
  ⟨(some 25), none, .mv (.tmp 2), 1, [], true⟩,
  ⟨(some 26), none, .mv (.tmp 10), 2, [], true⟩,
  ⟨(some 27), none, .bin .sub (.tmp 25) (.tmp 26), 3, [], true⟩,
  ⟨(some 28), none, .mv (.tmp 2), 4, [], true⟩,
  ⟨(some 29), none, .mv (.tmp 11), 5, [], true⟩,
  ⟨(some 30), none, .mv (.tmp 4), 6, [], true⟩,
  ⟨(some 31), none, .call (.func 188) [(.tmp 24), (.tmp 27), (.tmp 28), (.tmp 29), (.tmp 30)], 7, [], true⟩])
 (.region 4 [
  ⟨(some 32), none, .mv (.tmp 10), 0, [], true⟩,
  ⟨(some 33), none, .mv (.tmp 11), 1, [], true⟩,
  ⟨(some 34), none, .bin .sub (.tmp 32) (.tmp 33), 2, [], true⟩,
  ⟨(some 10), none, .mv (.tmp 34), 3, [], true⟩])) (.seq (.region 12 [
  ⟨(some 35), none, .mv (.tmp 0), 0, [], true⟩,
  ⟨(some 36), none, .mv (.tmp 2), 1, [], true⟩,
  ⟨(some 37), none, .mv (.tmp 10), 2, [], true⟩,
  ⟨(some 38), none, .bin .sub (.tmp 36) (.tmp 37), 3, [], true⟩,
  ⟨(some 39), none, .mv (.tmp 2), 4, [], true⟩,
  ⟨(some 40), none, .mv (.tmp 11), 5, [], true⟩,
  ⟨(some 41), none, .bin .add (.tmp 39) (.tmp 40), 6, [], true⟩,
  ⟨(some 42), none, .mv (.tmp 10), 7, [], true⟩,
  ⟨(some 43), none, .bin .sub (.tmp 41) (.tmp 42), 8, [], true⟩,
  ⟨(some 44), none, .mv (.tmp 10), 9, [], true⟩,
  ⟨(some 45), none, .mv (.tmp 4), 10, [], true⟩,
  ⟨(some 46), none, .call (.func 188) [(.tmp 35), (.tmp 38), (.tmp 43), (.tmp 44), (.tmp 45)], 11, [], true⟩])
 (.region 4 [
  ⟨(some 47), none, .mv (.tmp 11), 0, [], true⟩,
  ⟨(some 48), none, .mv (.tmp 10), 1, [], true⟩,
  ⟨(some 49), none, .bin .sub (.tmp 47) (.tmp 48), 2, [], true⟩,
  ⟨(some 11), none, .mv (.tmp 49), 3, [], true⟩]))))))))
 (.region 8 [
  ⟨(some 50), none, .mv (.tmp 0), 0, [], true⟩,
  ⟨(some 51), none, .mv (.tmp 2), 1, [], true⟩,
  ⟨(some 52), none, .mv (.tmp 10), 2, [], true⟩,
  ⟨(some 53), none, .bin .sub (.tmp 51) (.tmp 52), 3, [], true⟩,
  ⟨(some 54), none, .mv (.tmp 2), 4, [], true⟩,
  ⟨(some 55), none, .mv (.tmp 10), 5, [], true⟩,
  ⟨(some 56), none, .mv (.tmp 4), 6, [], true⟩,
  ⟨(some 57), none, .call (.func 188) [(.tmp 50), (.tmp 53), (.tmp 54), (.tmp 55), (.tmp 56)], 7, [], true⟩]))))⟩

def m182 : MFn := ⟨76, [], (.seq (.region 2 [
  ⟨(some 10), none, .mv (.tmp 1), 0, [], true⟩,
  ⟨(some 8), none, .mv (.tmp 10), 1, [], true⟩])
 (.block 0 (.loop (.block 1 (.seq (.region 4 [
  ⟨(some 11), none, .mv (.tmp 8), 0, [], true⟩,
  ⟨(some 12), none, .bin .mul (.const (.int .i64 2)) (.tmp 11), 1, [], true⟩,
  ⟨(some 13), none, .bin .add (.tmp 12) (.const (.int .i64 1)), 2, [], true⟩,
  ⟨(some 9), none, .mv (.tmp 13), 3, [], true⟩])
 (.seq (.seq (.region 3 [
  ⟨(some 14), none, .mv (.tmp 9), 0, [], true⟩,
  ⟨(some 15), none, .mv (.tmp 2), 1, [], true⟩,
  ⟨(some 16), none, .bin .geq (.tmp 14) (.tmp 15), 2, [], true⟩])
 (.cond (.tmp 16) (.exit 0) .skip))
 (.seq (.seq (.region 20 [
  ⟨(some 17), none, .mv (.tmp 9), 0, [], true⟩,
  ⟨(some 18), none, .bin .add (.tmp 17) (.const (.int .i64 1)), 1, [], true⟩,
  ⟨(some 19), none, .mv (.tmp 2), 2, [], false⟩,
  ⟨(some 20), none, .bin .lss (.tmp 18) (.tmp 19), 3, [], true⟩,
  ⟨(some 21), none, .mv (.tmp 20), 4, [], true⟩,
  ⟨(some 22), (some (21, true)), .mv (.tmp 0), 5, [], true⟩,
  ⟨(some 23), (some (21, true)), .mv (.tmp 3), 6, [], false⟩,
  ⟨(some 24), (some (21, true)), .mv (.tmp 9), 7, [], false⟩,
  ⟨(some 25), (some (21, true)), .bin .add (.tmp 23) (.tmp 24), 8, [], false⟩,
  ⟨(some 26), (some (21, true)), .adSl 1 (.tmp 22) (.tmp 25), 9, [], true⟩,
  ⟨(some 27), (some (21, true)), .load 1 false (.tmp 26), 10, [], true⟩,
  ⟨(some 28), (some (21, true)), .mv (.tmp 0), 11, [], false⟩,
  ⟨(some 29), (some (21, true)), .mv (.tmp 3), 12, [], false⟩,
  ⟨(some 30), (some (21, true)), .mv (.tmp 9), 13, [], false⟩,
  ⟨(some 31), (some (21, true)), .bin .add (.tmp 29) (.tmp 30), 14, [], false⟩,
  ⟨(some 32), (some (21, true)), .bin .add (.tmp 31) (.const (.int .i64 1)), 15, [], false⟩,
  ⟨(some 33), (some (21, true)), .adSl 1 (.tmp 28) (.tmp 32), 16, [], false⟩,
  ⟨(some 34), (some (21, true)), .load 1 false (.tmp 33), 17, [], false⟩,
  ⟨(some 35), (some (21, true)), .call (.func 169) [(.tmp 27), (.tmp 34)], 18, [], true⟩,
  ⟨(some 36), none, .pick (.tmp 21) (.tmp 35) (.const (.bool false)), 19, [], true⟩])
 (.cond (.tmp 36) (.region 3 [
  ⟨(some 37), none, .mv (.tmp 9), 0, [], true⟩,
  ⟨(some 38), none, .bin .add (.tmp 37) (.const (.int .i64 1)), 1, [], true⟩,
  ⟨(some 9), none, .mv (.tmp 38), 2, [], true⟩]) .skip))
 (.seq (.seq (.region 14 [
  ⟨(some 39), none, .mv (.tmp 0), 0, [], true⟩,
  ⟨(some 40), none, .mv (.tmp 3), 1, [], false⟩,
  ⟨(some 41), none, .mv (.tmp 8), 2, [], false⟩,
  ⟨(some 42), none, .bin .add (.tmp 40) (.tmp 41), 3, [], false⟩,
  ⟨(some 43), none, .adSl 1 (.tmp 39) (.tmp 42), 4, [], true⟩,
  ⟨(some 44), none, .load 1 false (.tmp 43), 5, [], true⟩,
  ⟨(some 45), none, .mv (.tmp 0), 6, [], false⟩,
  ⟨(some 46), none, .mv (.tmp 3), 7, [], false⟩,
  ⟨(some 47), none, .mv (.tmp 9), 8, [], false⟩,
  ⟨(some 48), none, .bin .add (.tmp 46) (.tmp 47), 9, [], false⟩,
  ⟨(some 49), none, .adSl 1 (.tmp 45) (.tmp 48), 10, [], false⟩,
  ⟨(some 50), none, .load 1 false (.tmp 49), 11, [], false⟩,
  ⟨(some 51), none, .call (.func 169) [(.tmp 44), (.tmp 50)], 12, [], true⟩,
  ⟨(some 52), none, .un .not (.tmp 51), 13, [], true⟩])
 (.cond (.tmp 52) .ret .skip))
 (.seq (.region 24 [
  ⟨(some 53), none, .mv (.tmp 0), 0, [], true⟩,
  ⟨(some 54), none, .mv (.tmp 3), 1, [], false⟩,
  ⟨(some 55), none, .mv (.tmp 8), 2, [], false⟩,
  ⟨(some 56), none, .bin .add (.tmp 54) (.tmp 55), 3, [], false⟩,
  ⟨(some 57), none, .mv (.tmp 0), 4, [], false⟩,
  ⟨(some 58), none, .mv (.tmp 3), 5, [], false⟩,
  ⟨(some 59), none, .mv (.tmp 9), 6, [], false⟩,
  ⟨(some 60), none, .bin .add (.tmp 58) (.tmp 59), 7, [], false⟩,
  ⟨(some 61), none, .mv (.tmp 0), 8, [], false⟩,
  ⟨(some 62), none, .mv (.tmp 3), 9, [], false⟩,
  ⟨(some 63), none, .mv (.tmp 9), 10, [], false⟩,
  ⟨(some 64), none, .bin .add (.tmp 62) (.tmp 63), 11, [], false⟩,
  ⟨(some 65), none, .adSl 1 (.tmp 61) (.tmp 64), 12, [], false⟩,
  ⟨(some 66), none, .load 1 false (.tmp 65), 13, [], false⟩,
  ⟨(some 67), none, .mv (.tmp 0), 14, [], false⟩,
  ⟨(some 68), none, .mv (.tmp 3), 15, [], false⟩,
  ⟨(some 69), none, .mv (.tmp 8), 16, [], false⟩,
  ⟨(some 70), none, .bin .add (.tmp 68) (.tmp 69), 17, [], false⟩,
  ⟨(some 71), none, .adSl 1 (.tmp 67) (.tmp 70), 18, [], false⟩,
  ⟨(some 72), none, .load 1 false (.tmp 71), 19, [], false⟩,
  ⟨(some 73), none, .adSl 1 (.tmp 53) (.tmp 56), 20, [], false⟩,
  ⟨none, none, .store 1 (.tmp 73) (.tmp 66), 21, [], false⟩,
  ⟨(some 74), none, .adSl 1 (.tmp 57) (.tmp 60), 22, [], true⟩,
  ⟨none, none, .store 1 (.tmp 74) (.tmp 72), 23, [], true⟩])
 (.region 2 [
  ⟨(some 75), none, .mv (.tmp 9), 0, [], true⟩,
  ⟨(some 8), none, .mv (.tmp 75), 1, [], true⟩]))))))))))⟩

def m183 : MFn := ⟨7, [(2, none)], (.seq (.region 1 [
  ⟨(some 2), none, .mv (.const (.int .u64 0)), 0, [], true⟩])
 (.seq (.region 5 [
  ⟨(some 3), none, .mv (.tmp 0), 0, [], true⟩,
  ⟨(some 4), none, .conv .u64 (.tmp 3), 1, [], true⟩,
  ⟨(some 5), none, .call (.func 132) [(.tmp 4)], 2, [], true⟩,
  ⟨(some 6), none, .bin .shl (.const (.int .u64 1)) (.tmp 5), 3, [], true⟩,
  ⟨(some 2), none, .mv (.tmp 6), 4, [], true⟩])
 .ret))⟩

def m184 : MFn := ⟨33, [(2, none)], (.seq (.region 1 [
  ⟨(some 2), none, .mv (.const (.int .u64 0)), 0, [], true⟩])
 (.seq (.region 10 [
  ⟨(some 3), none, .mv (.tmp 0), 0, [], true⟩,
  ⟨(some 4), none, .nilCheck (.tmp 3), 1, [], true⟩,
  ⟨(some 5), none, .load 1 false (.tmp 4), 2, [], true⟩,
  ⟨(some 6), none, .mv (.tmp 0), 3, [], false⟩,
  ⟨(some 7), none, .nilCheck (.tmp 6), 4, [], false⟩,
  ⟨(some 8), none, .load 1 false (.tmp 7), 5, [], false⟩,
  ⟨(some 9), none, .bin .shl (.tmp 8) (.const (.int .u64 13)), 6, [], false⟩,
  ⟨(some 10), none, .bin .xor (.tmp 5) (.tmp 9), 7, [], true⟩,
  ⟨(some 11), none, .nilCheck (.tmp 3), 8, [], true⟩,
  ⟨none, none, .store 1 (.tmp 11) (.tmp 10), 9, [], true⟩])
 (.seq (.region 10 [
  ⟨(some 12), none, .mv (.tmp 0), 0, [], true⟩,
  ⟨(some 13), none, .nilCheck (.tmp 12), 1, [], true⟩,
  ⟨(some 14), none, .load 1 false (.tmp 13), 2, [], true⟩,
  ⟨(some 15), none, .mv (.tmp 0), 3, [], false⟩,
  ⟨(some 16), none, .nilCheck (.tmp 15), 4, [], false⟩,
  ⟨(some 17), none, .load 1 false (.tmp 16), 5, [], false⟩,
  ⟨(some 18), none, .bin .shr (.tmp 17) (.const (.int .u64 7)), 6, [], false⟩,
  ⟨(some 19), none, .bin .xor (.tmp 14) (.tmp 18), 7, [], true⟩,
  ⟨(some 20), none, .nilCheck (.tmp 12), 8, [], true⟩,
  ⟨none, none, .store 1 (.tmp 20) (.tmp 19), 9, [], true⟩])
 (.seq (.region 10 [
  ⟨(some 21), none, .mv (.tmp 0), 0, [], true⟩,
  ⟨(some 22), none, .nilCheck (.tmp 21), 1, [], true⟩,
  ⟨(some 23), none, .load 1 false (.tmp 22), 2, [], true⟩,
  ⟨(some 24), none, .mv (.tmp 0), 3, [], false⟩,
  ⟨(some 25), none, .nilCheck (.tmp 24), 4, [], false⟩,
  ⟨(some 26), none, .load 1 false (.tmp 25), 5, [], false⟩,
  ⟨(some 27), none, .bin .shl (.tmp 26) (.const (.int .u64 17)), 6, [], false⟩,
  ⟨(some 28), none, .bin .xor (.tmp 23) (.tmp 27), 7, [], true⟩,
  ⟨(some 29), none, .nilCheck (.tmp 21), 8, [], true⟩,
  ⟨none, none, .store 1 (.tmp 29) (.tmp 28), 9, [], true⟩])
 (.seq (.region 4 [
  ⟨(some 30), none, .mv (.tmp 0), 0, [], true⟩,
  ⟨(some 31), none, .nilCheck (.tmp 30), 1, [], true⟩,
  ⟨(some 32), none, .load 1 false (.tmp 31), 2, [], true⟩,
  ⟨(some 2), none, .mv (.tmp 32), 3, [], true⟩])
 .ret)))))⟩

def m185 : MFn := ⟨15, [(6, none)], (.seq (.region 1 [
  ⟨(some 6), none, .mv (.const (.int .i64 0)), 0, [], true⟩])
 (.seq (.region 9 [
  ⟨(some 7), none, .mv (.tmp 0), 0, [], true⟩,
  ⟨(some 8), none, .mv (.tmp 1), 1, [], true⟩,
  ⟨(some 9), none, .bin .sub (.tmp 8) (.const (.int .i64 1)), 2, [], true⟩,
  ⟨(some 10), none, .mv (.tmp 1), 3, [], true⟩,
  ⟨(some 11), none, .mv (.tmp 1), 4, [], true⟩,
  ⟨(some 12), none, .bin .add (.tmp 11) (.const (.int .i64 1)), 5, [], true⟩,
  ⟨(some 13), none, .mv (.tmp 2), 6, [], true⟩,
  ⟨(some 14), none, .call (.func 186) [(.tmp 7), (.tmp 9), (.tmp 10), (.tmp 12), (.tmp 13)], 7, [], true⟩,
  ⟨(some 6), none, .mv (.tmp 14), 8, [], true⟩])
 .ret))⟩

def m186 : MFn := ⟨36, [(10, none)], (.seq (.region 1 [
  ⟨(some 10), none, .mv (.const (.int .i64 0)), 0, [], true⟩])
 (.seq (.region 10 [
  ⟨(some 12), none, .mv (.tmp 0), 0, [], true⟩,
  ⟨(some 13), none, .mv (.tmp 1), 1, [], true⟩,
  ⟨(some 14), none, .mv (.tmp 2), 2, [], true⟩,
  ⟨(some 15), none, .mv (.tmp 4), 3, [], true⟩,
  ⟨(some 16), none, .call (.func 189) [(.tmp 12), (.tmp 13), (.tmp 14), (.tmp 15)], 4, [], true⟩,
  ⟨(some 11), none, .mv (.tmp 16), 5, [], true⟩,
  ⟨(some 17), none, .extract (.tmp 11) 0, 6, [], true⟩,
  ⟨(some 18), none, .extract (.tmp 11) 1, 7, [], true⟩,
  ⟨(some 1), none, .mv (.tmp 17), 8, [], true⟩,
  ⟨(some 2), none, .mv (.tmp 18), 9, [], true⟩])
 (.seq (.region 10 [
  ⟨(some 20), none, .mv (.tmp 0), 0, [], true⟩,
  ⟨(some 21), none, .mv (.tmp 2), 1, [], true⟩,
  ⟨(some 22), none, .mv (.tmp 3), 2, [], true⟩,
  ⟨(some 23), none, .mv (.tmp 4), 3, [], true⟩,
  ⟨(some 24), none, .call (.func 189) [(.tmp 20), (.tmp 21), (.tmp 22), (.tmp 23)], 4, [], true⟩,
  ⟨(some 19), none, .mv (.tmp 24), 5, [], true⟩,
  ⟨(some 25), none, .extract (.tmp 19) 0, 6, [], true⟩,
  ⟨(some 26), none, .extract (.tmp 19) 1, 7, [], true⟩,
  ⟨(some 2), none, .mv (.tmp 25), 8, [], true⟩,
  ⟨(some 3), none, .mv (.tmp 26), 9, [], true⟩])
 (.seq (.region 10 [
  ⟨(some 28), none, .mv (.tmp 0), 0, [], true⟩,
  ⟨(some 29), none, .mv (.tmp 1), 1, [], true⟩,
  ⟨(some 30), none, .mv (.tmp 2), 2, [], true⟩,
  ⟨(some 31), none, .mv (.tmp 4), 3, [], true⟩,
  ⟨(some 32), none, .call (.func 189) [(.tmp 28), (.tmp 29), (.tmp 30), (.tmp 31)], 4, [], true⟩,
  ⟨(some 27), none, .mv (.tmp 32), 5, [], true⟩,
  ⟨(some 33), none, .extract (.tmp 27) 0, 6, [], true⟩,
  ⟨(some 34), none, .extract (.tmp 27) 1, 7, [], true⟩,
  ⟨(some 1), none, .mv (.tmp 33), 8, [], true⟩,
  ⟨(some 2), none, .mv (.tmp 34), 9, [], true⟩])
 (.seq (.region 2 [
  ⟨(some 35), none, .mv (.tmp 2), 0, [], true⟩,
  ⟨(some 10), none, .mv (.tmp 35), 1, [], true⟩])
 .ret)))))⟩

def m187 : MFn := ⟨6, [(2, none)], (.seq (.region 1 [
  ⟨(some 2), none, .mv (.const (.bool false)), 0, [], true⟩])
 (.seq (.region 4 [
  ⟨(some 3), none, .mv (.tmp 0), 0, [], true⟩,
  ⟨(some 4), none, .mv (.tmp 0), 1, [], true⟩,
  ⟨(some 5), none, .bin .neq (.tmp 3) (.tmp 4), 2, [], true⟩,
  ⟨(some 2), none, .mv (.tmp 5), 3, [], true⟩])
 .ret))⟩

def m188 : MFn := ⟨38, [], (.seq (.region 1 [
  ⟨(some 10), none, .mv (.const (.int .i64 0)), 0, [], true⟩])
 (.block 0 (.loop (.seq (.seq (.region 3 [
  ⟨(some 11), none, .mv (.tmp 10), 0, [], true⟩,
  ⟨(some 12), none, .mv (.tmp 3), 1, [], true⟩,
  ⟨(some 13), none, .bin .lss (.tmp 11) (.tmp 12), 2, [], true⟩])
 (.cond (.tmp 13) .skip (.exit 0)))
 (.seq (.block 1 (.region 24 [
  ⟨(some 16), none, .mv (.tmp 0), 0, [], true⟩,
  ⟨(some 17), none, .mv (.tmp 1), 1, [], false⟩,
  ⟨(some 18), none, .mv (.tmp 10), 2, [], false⟩,
  ⟨(some 19), none, .bin .add (.tmp 17) (.tmp 18), 3, [], false⟩,
  ⟨(some 20), none, .mv (.tmp 0), 4, [], false⟩,
  ⟨(some 21), none, .mv (.tmp 2), 5, [], false⟩,
  ⟨(some 22), none, .mv (.tmp 10), 6, [], false⟩,
  ⟨(some 23), none, .bin .add (.tmp 21) (.tmp 22), 7, [], false⟩,
  ⟨(some 24), none, .mv (.tmp 0), 8, [], false⟩,
  ⟨(some 25), none, .mv (.tmp 2), 9, [], false⟩,
  ⟨(some 26), none, .mv (.tmp 10), 10, [], false⟩,
  ⟨(some 27), none, .bin .add (.tmp 25) (.tmp 26), 11, [], false⟩,
  ⟨(some 28), none, .adSl 1 (.tmp 24) (.tmp 27), 12, [], false⟩,
  ⟨(some 29), none, .load 1 false (.tmp 28), 13, [], false⟩,
  ⟨(some 30), none, .mv (.tmp 0), 14, [], false⟩,
  ⟨(some 31), none, .mv (.tmp 1), 15, [], false⟩,
  ⟨(some 32), none, .mv (.tmp 10), 16, [], false⟩,
  ⟨(some 33), none, .bin .add (.tmp 31) (.tmp 32), 17, [], false⟩,
  ⟨(some 34), none, .adSl 1 (.tmp 30) (.tmp 33), 18, [], false⟩,
  ⟨(some 35), none, .load 1 false (.tmp 34), 19, [], false⟩,
  ⟨(some 36), none, .adSl 1 (.tmp 16) (.tmp 19), 20, [], false⟩,
  ⟨none, none, .store 1 (.tmp 36) (.tmp 29), 21, [], false⟩,
  ⟨(some 37), none, .adSl 1 (.tmp 20) (.tmp 23), 22, [], true⟩,
  ⟨none, none, .store 1 (.tmp 37) (.tmp 35), 23, [], true⟩]))
 (.region 3 [
  ⟨(some 14), none, .mv (.tmp 10), 0, [], true⟩,
  ⟨(some 15), none, .bin .add (.tmp 14) (.const (.int .i64 1)), 1, [], true⟩,
  ⟨(some 10), none, .mv (.tmp 15), 2, [], true⟩]))))))⟩

def m189 : MFn := ⟨28, [(8, none), (9, none)], (.seq (.region 2 [
  ⟨(some 8), none, .mv (.const (.int .i64 0)), 0, [], true⟩,
  ⟨(some 9), none, .mv (.const (.int .i64 0)), 1, [], true⟩])
 (.seq (.seq (.region 9 [
  ⟨(some 10), none, .mv (.tmp 0), 0, [], true⟩,
  ⟨(some 11), none, .mv (.tmp 2), 1, [], false⟩,
  ⟨(some 12), none, .adSl 1 (.tmp 10) (.tmp 11), 2, [], true⟩,
  ⟨(some 13), none, .load 1 false (.tmp 12), 3, [], true⟩,
  ⟨(some 14), none, .mv (.tmp 0), 4, [], false⟩,
  ⟨(some 15), none, .mv (.tmp 1), 5, [], false⟩,
  ⟨(some 16), none, .adSl 1 (.tmp 14) (.tmp 15), 6, [], false⟩,
  ⟨(some 17), none, .load 1 false (.tmp 16), 7, [], false⟩,
  ⟨(some 18), none, .call (.func 169) [(.tmp 13), (.tmp 17)], 8, [], true⟩])
 (.cond (.tmp 18) (.seq (.region 6 [
  ⟨(some 19), none, .mv (.tmp 3), 0, [], true⟩,
  ⟨(some 20), none, .nilCheck (.tmp 19), 1, [], true⟩,
  ⟨(some 21), none, .load 1 false (.tmp 20), 2, [], true⟩,
  ⟨(some 22), none, .bin .add (.tmp 21) (.const (.int .i64 1)), 3, [], true⟩,
  ⟨(some 23), none, .nilCheck (.tmp 19), 4, [], true⟩,
  ⟨none, none, .store 1 (.tmp 23) (.tmp 22), 5, [], true⟩])
 (.seq (.region 4 [
  ⟨(some 24), none, .mv (.tmp 2), 0, [], true⟩,
  ⟨(some 25), none, .mv (.tmp 1), 1, [], true⟩,
  ⟨(some 8), none, .mv (.tmp 24), 2, [], true⟩,
  ⟨(some 9), none, .mv (.tmp 25), 3, [], true⟩])
 .ret)) .skip))
 (.seq (.region 4 [
  ⟨(some 26), none, .mv (.tmp 1), 0, [], true⟩,
  ⟨(some 27), none, .mv (.tmp 2), 1, [], true⟩,
  ⟨(some 8), none, .mv (.tmp 26), 2, [], true⟩,
  ⟨(some 9), none, .mv (.tmp 27), 3, [], true⟩])
 .ret)))⟩

end Ev

/- The predicate transformer over compiled code, calls as a least fixed point, and an executable run that is sound for it. -/
namespace Ev
open Go

inductive Tgt where
  | fn (f : FuncId)
  | yield (l : Id)

inductive Res where
  | ret (v : Value)
  | panic (ch : Chain)

structure CA where
  tgt : Tgt
  args : List Value
  m : Option AMode
  s : S
  Q : Res → Option AMode → S → Prop

/-- The compiled program: functions, and methods by dynamic types. -/
structure Pg where
  fn : FuncId → Option MFn
  meth : TypeId → String → Option FuncId
  ext : FuncId → Option (List Value → Option Value)
  sem : CA → Prop

/-- A function without a body of its own. -/
def extOf (G : Pg) : Tgt → Option (List Value → Option Value)
  | .fn f => G.ext f
  | .yield _ => none

abbrev KV := Value → F → S → Prop
abbrev KX := Ex → F → S → Prop

def tgtOf (v : Value) (args : List Value) : Option (Tgt × List Value) :=
  match v with
  | .func (.func g) first cap => some (.fn g, first.toList ++ args ++ cap.toList)
  | .func (.yield l) first _ => some (.yield l, first.toList ++ args)
  | _ => none

def F.put (fr : F) (d : Option Nat) (v : Value) : F :=
  match d with
  | some d => { fr with t := upd fr.t d v }
  | none => fr

def wantedM (g : Option (Nat × Bool)) (t : List Value) : Bool :=
  match g with
  | none => true
  | some (n, want) => match nth t n with
    | some (.bool b) => b == want
    | _ => false

def again : List (Bool × Option Nat × Option (Nat × Bool) × Nat × MK) → List Value → Nat → Heap → Heap → Prop
  | [], _, _, _, _ => True
  | (isA, _, g, at_, k) :: l, t, c0, h, h' =>
    (wantedM g t = true → if isA then h'.get (c0 + at_) = h.get (c0 + at_) else evR k t h' = evR k t h) ∧ again l t c0 h h'

def settleA : AMode → AMode
  | .pan ((_, true) :: _) => .ret
  | m => m

def raisedA (u : AMode) (ch : Chain) : AMode :=
  match u with
  | .pan old => .pan (ch ++ old)
  | .ret => .pan ch

def resK (tight : Bool) (fr : F) (K : KV) (Q : KX) : Res → Option AMode → S → Prop := fun r _ s =>
  match r with
  | .ret v => K v fr s
  | .panic ch => tight = true ∧ Q (.panic ch) fr s

section
variable (G : Pg) (C : CA → Prop)

/-- A call, a defer, a recover, a panic, the next entry of a map. -/
def wpCtl (k : MK) (tight : Bool) (fr : F) (s : S) (K : KV) (Q : KX) : Prop :=
  match k with
  | .call f xs => match eval fr.t f, evals fr.t xs with
    | some fv, some vs => match tgtOf fv vs with
      | some (tg, as) => match extOf G tg with
        | some e => match e as with
          | some v => K v fr s
          | none => False
        | none => C ⟨tg, as, none, s, resK tight fr K Q⟩
      | none => False
    | _, _ => False
  | .invoke x name xs => match eval fr.t x, evals fr.t xs with
    | some (.iface t v), some vs => match G.meth t name with
      | some f => C ⟨.fn f, v :: vs, none, s, resK tight fr K Q⟩
      | none => False
    | _, _ => False
  | .defer f xs => match eval fr.t f, evals fr.t xs with
    | some fv, some vs => match tgtOf fv vs, fr.r with
      | some (.fn g, as), none => K undef { fr with d := .fn g as :: fr.d } s
      | _, _ => False
    | _, _ => False
  | .recover => match fr.r with
    | some _ => False
    | none => match fr.m with
      | some (.pan ((v, false) :: older)) => K v { fr with m := some (.pan ((v, true) :: older)) } s
      | _ => K .nilIface fr s
  | .panic x => match eval fr.t x with
    | some (.iface t v) => tight = true ∧ Q (.panic [(.iface t v, false)]) fr s
    | _ => False
  | .nextMap it => match eval fr.t it with
    | some (.pointer (some ⟨r, 0, _⟩)) => match s.h.get r with
      | some (.mapIter none _ _ _) => K (.tuple #[.bool false]) fr s
      | some (.mapIter (some m) since seen last) => match s.h.get m with
        | some (.map es clock) =>
          (!seen.isEmpty && !es.isEmpty && es.all (fun e => Nat.ble last e.born)) = false ∧
          (((es.filter fun e => !seen.contains e.born).filter fun e => Nat.blt e.born since) = [] → K (.tuple #[.bool false]) fr s) ∧
          ∀ e ∈ es, seen.contains e.born = false → K (.tuple #[.bool true, e.key, e.val]) fr { s with h := s.h.set r (some (.mapIter (some m) since (seen ++ [e.born]) clock)) }
        | _ => False
      | _ => False
    | _ => False
  | _ => False

/-- One operation; 'slot': the number of what it makes. -/
def wpM (k : MK) (slot : Id) (tight : Bool) (fr : F) (s : S) (K : KV) (Q : KX) : Prop :=
  match cls k with
  | .p => match evP k fr.t with
    | some v => K v fr s
    | none => False
  | .r => match evR k fr.t s.h with
    | some v => K v fr s
    | none => False
  | .a => match evA k fr.t with
    | some (o, g) => K (g slot) fr { s with h := s.h.set slot (some o) }
    | none => False
  | .w => match evS k fr.t s with
    | some (v, s') => K v fr s'
    | none => False
  | .c => wpCtl G C k tight fr s K Q

def wpOps (c0 : Nat) (Q : KX) : List MO → F → S → Prop
  | [], fr, s => Q .normal fr s
  | o :: os, fr, s => match wantedM o.guard fr.t with
    | true => wpM G C o.k (c0 + o.at_) o.tight fr s (fun v fr' s' => again o.re fr.t c0 s.h s'.h ∧ wpOps c0 Q os (fr'.put o.dst v) s') Q
    | false => wpOps c0 Q os (fr.put o.dst undef) s

def thenQ (K : F → S → Prop) (Q : KX) : KX := fun x fr s =>
  match x with
  | .normal => K fr s
  | x => Q x fr s

def blockQ (id : Nat) (Q : KX) : KX := fun x fr s =>
  match x with
  | .exit i => bif Nat.beq i id then Q .normal fr s else Q (.exit i) fr s
  | x => Q x fr s

/-- What stands behind a loop over a function, when the function has returned. -/
def endLoop (l : Id) (fr : F) (Q : KX) : Res → Option AMode → S → Prop := fun r _ s =>
  match r with
  | .ret _ => match s.h.get l with
    | some (.loop st pend t ps asg body dfr) => match st with
      | .busy => False
      | _ => match pend with
        | none => Q .normal fr { s with h := s.h.set l (some (.loop .exhausted pend t ps asg body dfr)) }
        | some x => Q x fr { s with h := s.h.set l (some (.loop .exhausted pend t ps asg body dfr)) }
    | _ => False
  | .panic ch => Q (.panic ch) fr s

def wpC : MC → KX → F → S → Prop
  | .skip, Q, fr, s => Q .normal fr s
  | .region n ops, Q, fr, s => wpOps G C s.c Q ops fr { s with c := s.c + n }
  | .seq a b, Q, fr, s => wpC a (thenQ (wpC b Q) Q) fr s
  | .cond c a b, Q, fr, s => match eval fr.t c with
    | some (.bool true) => wpC a Q fr s
    | some (.bool false) => wpC b Q fr s
    | _ => False
  | .block id a, Q, fr, s => wpC a (blockQ id Q) fr s
  | .loop a, Q, fr, s => ∀ I : F → S → Prop, (∀ fr s, wpC a (thenQ I Q) fr s → I fr s) → I fr s
  | .exit id, Q, fr, s => Q (.exit id) fr s
  | .ret, Q, fr, s => Q .ret fr s
  | .rangeF f ps asg body, Q, fr, s => match eval fr.t f with
    | some fv =>
      match fr.r with
      | none => match tgtOf fv [.func (.yield (s.c + 1)) #[] #[]] with
        | some (.fn tg, as) => C ⟨.fn tg, as, none,
            { h := (s.h.set s.c (some (.dfr true))).set (s.c + 1) (some (.loop .ready none fr.t ps asg body s.c)), c := s.c + 2 },
            endLoop (s.c + 1) { fr with d := .col s.c :: fr.d } Q⟩
        | _ => False
      | some l => match s.h.get l with
        | some (.loop _ _ _ _ _ _ dfr) => match tgtOf fv [.func (.yield s.c) #[] #[]] with
          | some (.fn tg, as) => C ⟨.fn tg, as, none, { h := s.h.set s.c (some (.loop .ready none fr.t ps asg body dfr)), c := s.c + 1 }, endLoop s.c fr Q⟩
          | _ => False
        | _ => False
    | none => False

def resultsV (h : Heap) (t : List Value) : List (Nat × Option (Nat × Bool)) → Option (List Value)
  | [] => some []
  | (n, k) :: rs => match nth t n with
    | some v => match (match k with | none => some v | some (size, agg) => loadV h size agg v) with
      | some v => match resultsV h t rs with
        | some vs => some (v :: vs)
        | none => none
      | none => none
    | none => none

def retV : List Value → Value
  | [v] => v
  | vs => .tuple vs.toArray

def unwindQ (rs : List (Nat × Option (Nat × Bool))) (t : List Value) (Q : Res → Option AMode → S → Prop) (m : Option AMode) : List ADef → AMode → S → Prop
  | [], .ret, s => match resultsV s.h t rs with
    | some vs => Q (.ret (retV vs)) m s
    | none => False
  | [], .pan ch, s => Q (.panic ch) m s
  | .col b :: ds, u, s => match s.h.get b with
    | some (.dfr true) => unwindQ rs t Q m ds u { s with h := s.h.set b (some (.dfr false)) }
    | _ => False
  | .fn f args :: ds, u, s => C ⟨.fn f, args, some u, s, fun r u' s' => match r, u' with
    | .ret _, some u' => unwindQ rs t Q m ds (settleA u') s'
    | .panic ch, some u' => unwindQ rs t Q m ds (raisedA u' ch) s'
    | _, none => False⟩

def bodyQ (fn : MFn) (Q : Res → Option AMode → S → Prop) : KX := fun x fr s =>
  match x with
  | .normal => unwindQ C fn.results fr.t Q fr.m fr.d .ret s
  | .ret => unwindQ C fn.results fr.t Q fr.m fr.d .ret s
  | .panic ch => unwindQ C fn.results fr.t Q fr.m fr.d (.pan ch) s
  | .exit _ => False

/-- The end of a round of a loop over a function. -/
def roundQ (l : Id) (Q : Res → Option AMode → S → Prop) : KX := fun x fr s =>
  match fr.d with
  | [] => match x with
    | .panic ch => Q (.panic ch) none s
    | x => match s.h.get l with
      | some (.loop _ _ t ps asg body dfr) => match x with
        | .normal => Q (.ret (.bool true)) none { s with h := s.h.set l (some (.loop .ready none t ps asg body dfr)) }
        | x => Q (.ret (.bool false)) none { s with h := s.h.set l (some (.loop .done (some x) t ps asg body dfr)) }
      | _ => False
  | _ :: _ => False

def updA : List Value → List Nat → List Value → List Value
  | t, p :: ps, v :: vs => updA (upd t p v) ps vs
  | t, _, _ => t

def Fn (x : CA) : Prop :=
  match x.tgt with
  | .fn f => match G.fn f with
    | some m => wpC G C m.code (bodyQ C m x.Q) { t := x.args ++ List.replicate (m.ntmps - x.args.length) undef, d := [], m := x.m, r := none } x.s
    | none => False
  | .yield l => match x.s.h.get l, x.m with
    | some (.loop _ _ t ps asg body _), none =>
      x.args.length = ps.length ∧
      wpC G C asg (fun e fr s => match e with
        | .normal => match s.h.get l with
          | some (.loop .ready pend t' ps' asg' body' dfr') =>
            wpC G C body (roundQ l x.Q) fr { s with h := s.h.set l (some (.loop .busy pend t' ps' asg' body' dfr')) }
          | _ => False
        | _ => False) { t := updA t ps x.args, d := [], m := none, r := some l } x.s
    | _, _ => False
end


/-- Closed upwards in what is promised. -/
def Up (C : CA → Prop) : Prop := ∀ (x : CA) (Q' : Res → Option AMode → S → Prop), C x → (∀ r m s, x.Q r m s → Q' r m s) → C { x with Q := Q' }

/-- The least predicate on calls that is closed: what a call comes to, in whatever way it goes. -/
def Cl (G : Pg) (x : CA) : Prop := ∀ C : CA → Prop, Up C → (∀ y, Fn G C y → C y) → (∀ y, G.sem y → C y) → C x

/-! monotony -/
section
variable {G : Pg} {C C' : CA → Prop} (hC : ∀ (x : CA) (Q' : Res → Option AMode → S → Prop), C x → (∀ r m s, x.Q r m s → Q' r m s) → C' { x with Q := Q' })
theorem resK_mono {tight : Bool} {fr : F} {K K' : KV} {Q Q' : KX} (hK : ∀ v fr s, K v fr s → K' v fr s)
    (hQ : ∀ x fr s, Q x fr s → Q' x fr s) (r : Res) (m : Option AMode) (s : S) (h : resK tight fr K Q r m s) : resK tight fr K' Q' r m s := by
  cases r with
  | ret v => exact hK _ _ _ h
  | panic ch => exact ⟨h.1, hQ _ _ _ h.2⟩

include hC in
theorem wpCtl_mono {k : MK} {tight : Bool} {fr : F} {s : S} {K K' : KV} {Q Q' : KX} (hK : ∀ v fr s, K v fr s → K' v fr s)
    (hQ : ∀ x fr s, Q x fr s → Q' x fr s) (h : wpCtl G C k tight fr s K Q) : wpCtl G C' k tight fr s K' Q' := by
  cases k <;> simp only [wpCtl] at h ⊢ <;> first
    | exact h.elim
    | skip
  case call f xs =>
    split at h <;> first | exact h.elim | skip
    split at h <;> first | exact h.elim | skip
    split at h
    · split at h <;> first | exact h.elim | exact hK _ _ _ h
    · exact hC ⟨_, _, _, _, _⟩ _ h (resK_mono hK hQ)
  case invoke f n xs =>
    split at h <;> first | exact h.elim | skip
    split at h <;> first | exact h.elim | skip
    exact hC ⟨_, _, _, _, _⟩ _ h (resK_mono hK hQ)
  case defer f xs =>
    split at h <;> first | exact h.elim | skip
    split at h <;> first | exact h.elim | skip
    exact hK _ _ _ h
  case recover =>
    split at h <;> first | exact h.elim | skip
    split at h <;> exact hK _ _ _ h
  case panic x =>
    split at h <;> first | exact h.elim | skip
    exact ⟨h.1, hQ _ _ _ h.2⟩
  case nextMap it =>
    split at h <;> first | exact h.elim | skip
    split at h <;> first | exact h.elim | skip
    · exact hK _ _ _ h
    · split at h <;> first | exact h.elim | skip
      exact ⟨h.1, fun e => hK _ _ _ (h.2.1 e), fun e he hs => hK _ _ _ (h.2.2 e he hs)⟩

include hC in
theorem wpM_mono {k : MK} {slot : Id} {tight : Bool} {fr : F} {s : S} {K K' : KV} {Q Q' : KX} (hK : ∀ v fr s, K v fr s → K' v fr s)
    (hQ : ∀ x fr s, Q x fr s → Q' x fr s) (h : wpM G C k slot tight fr s K Q) : wpM G C' k slot tight fr s K' Q' := by
  unfold wpM at h ⊢
  split at h <;> first
    | exact wpCtl_mono hC hK hQ h
    | (split at h <;> first | exact h.elim | exact hK _ _ _ h)

include hC in
theorem wpOps_mono {c0 : Nat} {Q Q' : KX} (hQ : ∀ x fr s, Q x fr s → Q' x fr s) : ∀ (os : List MO) (fr : F) (s : S),
    wpOps G C c0 Q os fr s → wpOps G C' c0 Q' os fr s := by
  intro os
  induction os with
  | nil => exact fun fr s h => hQ _ _ _ h
  | cons o os ih =>
    intro fr s h
    simp only [wpOps] at h ⊢
    split at h
    · exact wpM_mono hC (fun v fr' s' h => ⟨h.1, ih _ _ h.2⟩) hQ h
    · exact ih _ _ h

theorem endLoop_mono {l : Id} {fr : F} {Q Q' : KX} (hQ : ∀ x fr s, Q x fr s → Q' x fr s) (r : Res) (m : Option AMode) (s : S)
    (h : endLoop l fr Q r m s) : endLoop l fr Q' r m s := by
  cases r with
  | panic ch => exact hQ _ _ _ h
  | ret v =>
    simp only [endLoop] at h ⊢
    split at h <;> first | exact h.elim | skip
    split at h <;> first | exact h.elim | skip
    split at h <;> exact hQ _ _ _ h

theorem thenQ_mono {K K' : F → S → Prop} {Q Q' : KX} (hK : ∀ fr s, K fr s → K' fr s) (hQ : ∀ x fr s, Q x fr s → Q' x fr s) :
    ∀ x fr s, thenQ K Q x fr s → thenQ K' Q' x fr s := by
  intro x fr s h
  cases x <;> first | exact hK _ _ h | exact hQ _ _ _ h

theorem blockQ_mono {id : Nat} {Q Q' : KX} (hQ : ∀ x fr s, Q x fr s → Q' x fr s) : ∀ x fr s, blockQ id Q x fr s → blockQ id Q' x fr s := by
  intro x fr s h
  cases x with
  | exit i =>
    simp only [blockQ] at h ⊢
    cases hb : Nat.beq i id <;> simp only [hb, cond_true, cond_false] at h ⊢ <;> exact hQ _ _ _ h
  | _ => exact hQ _ _ _ h

include hC in
theorem wpC_mono : ∀ (c : MC) {Q Q' : KX} (_ : ∀ x fr s, Q x fr s → Q' x fr s) (fr : F) (s : S), wpC G C c Q fr s → wpC G C' c Q' fr s := by
  intro c
  induction c with
  | skip => intro Q Q' hQ fr s h; exact hQ _ _ _ h
  | region n ops => intro Q Q' hQ fr s h; exact wpOps_mono hC hQ _ _ _ h
  | seq a b iha ihb => intro Q Q' hQ fr s h; exact iha (thenQ_mono (fun fr s h => ihb hQ fr s h) hQ) fr s h
  | cond c a b iha ihb =>
    intro Q Q' hQ fr s h
    simp only [wpC] at h ⊢
    split at h <;> first | exact h.elim | skip
    · exact iha hQ _ _ h
    · exact ihb hQ _ _ h
  | block id a iha => intro Q Q' hQ fr s h; exact iha (blockQ_mono hQ) fr s h
  | loop a iha =>
    intro Q Q' hQ fr s h
    simp only [wpC] at h ⊢
    intro I hI
    exact h I fun fr s h' => hI fr s (iha (thenQ_mono (fun _ _ h => h) hQ) fr s h')
  | exit id => intro Q Q' hQ fr s h; exact hQ _ _ _ h
  | ret => intro Q Q' hQ fr s h; exact hQ _ _ _ h
  | rangeF f ps asg body _ _ =>
    intro Q Q' hQ fr s h
    simp only [wpC] at h ⊢
    split at h <;> first | exact h.elim | skip
    split at h
    · split at h <;> first | exact h.elim | skip
      exact hC ⟨_, _, _, _, _⟩ _ h (endLoop_mono hQ)
    · split at h <;> first | exact h.elim | skip
      split at h <;> first | exact h.elim | skip
      exact hC ⟨_, _, _, _, _⟩ _ h (endLoop_mono hQ)

include hC in
theorem unwindQ_mono {rs : List (Nat × Option (Nat × Bool))} {t : List Value} {Q Q' : Res → Option AMode → S → Prop} {m : Option AMode}
    (hQ : ∀ r m s, Q r m s → Q' r m s) : ∀ (ds : List ADef) (u : AMode) (s : S), unwindQ C rs t Q m ds u s → unwindQ C' rs t Q' m ds u s := by
  intro ds
  induction ds with
  | nil =>
    intro u s h
    cases u with
    | ret => simp only [unwindQ] at h ⊢; split at h <;> first | exact h.elim | exact hQ _ _ _ h
    | pan ch => exact hQ _ _ _ h
  | cons d ds ih =>
    intro u s h
    cases d with
    | col b => simp only [unwindQ] at h ⊢; split at h <;> first | exact h.elim | exact ih _ _ h
    | fn f args =>
      simp only [unwindQ] at h ⊢
      refine hC ⟨_, _, _, _, _⟩ _ h fun r u' s' h' => ?_
      cases r <;> cases u' <;> simp only [] at h' ⊢ <;> first | exact h'.elim | exact ih _ _ h'

include hC in
theorem bodyQ_mono {fn : MFn} {Q Q' : Res → Option AMode → S → Prop} (hQ : ∀ r m s, Q r m s → Q' r m s) :
    ∀ x fr s, bodyQ C fn Q x fr s → bodyQ C' fn Q' x fr s := by
  intro x fr s h
  cases x <;> first | exact h.elim | exact unwindQ_mono hC hQ _ _ _ h

theorem roundQ_mono {l : Id} {Q Q' : Res → Option AMode → S → Prop} (hQ : ∀ r m s, Q r m s → Q' r m s) :
    ∀ x fr s, roundQ l Q x fr s → roundQ l Q' x fr s := by
  intro x fr s h
  simp only [roundQ] at h ⊢
  split at h <;> first | exact h.elim | skip
  cases x <;> simp only at h ⊢ <;> first
    | exact hQ _ _ _ h
    | (split at h <;> first | exact h.elim | exact hQ _ _ _ h)

include hC in
theorem Fn_mono (x : CA) (Q' : Res → Option AMode → S → Prop) (h : Fn G C x) (hQ : ∀ r m s, x.Q r m s → Q' r m s) : Fn G C' { x with Q := Q' } := by
  obtain ⟨tgt, args, m, s, Q⟩ := x
  cases tgt with
  | fn f =>
    simp only [Fn] at h ⊢
    split at h <;> first | exact h.elim | skip
    exact wpC_mono hC _ (bodyQ_mono hC hQ) _ _ h
  | yield l =>
    simp only [Fn] at h ⊢
    split at h <;> first | exact h.elim | skip
    refine ⟨h.1, wpC_mono hC _ (fun e fr s h => ?_) _ _ h.2⟩
    split at h <;> first | exact h.elim | skip
    split at h <;> first | exact h.elim | skip
    exact wpC_mono hC _ (roundQ_mono hQ) _ _ h
end

theorem Cl.up {G : Pg} : Up (Cl G) := fun x Q' h hQ C hU hC hL => hU x Q' (h C hU hC hL) hQ

theorem Cl.closed {G : Pg} (x : CA) (h : Fn G (Cl G) x) : Cl G x := fun C hU hC hL =>
  hC x (Fn_mono (fun y Q' hy hq => hU y Q' (hy C hU hC hL) hq) x x.Q h fun _ _ _ h => h)

theorem Cl.sem {G : Pg} {x : CA} (h : G.sem x) : Cl G x := fun _ _ _ hL => hL _ h

theorem Cl.mono {G : Pg} {tg : Tgt} {as : List Value} {m : Option AMode} {s : S} {Q Q' : Res → Option AMode → S → Prop}
    (h : Cl G ⟨tg, as, m, s, Q⟩) (hQ : ∀ r m s, Q r m s → Q' r m s) : Cl G ⟨tg, as, m, s, Q'⟩ := Cl.up _ Q' h hQ
end Ev
