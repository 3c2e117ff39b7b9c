/- Tl2None: for every deed, every values and number the law returns true, and each argument reads as it did; by an evaluator of the compiled code that is proved sound for the model. Part 5 of 11. -/
import Derived.Test.YtfncjdkfedlnaaaGreatNone4
set_option linter.unusedSimpArgs false
set_option linter.unusedVariables false

/- Compiled functions. -/
namespace Ev
open Go

def m162 : MFn := ⟨138, [(4, none)], (.seq (.region 1 [
  ⟨(some 4), none, .mv (.const (.bool false)), 0, [], true⟩])
 (.seq (.region 6 [
  ⟨(some 11), none, .mv (.tmp 0), 0, [], true⟩,
  ⟨(some 12), none, .mv (.tmp 1), 1, [], true⟩,
  ⟨(some 13), none, .adSl 4 (.tmp 11) (.tmp 12), 2, [], true⟩,
  ⟨(some 14), none, .load 4 true (.tmp 13), 3, [], true⟩,
  ⟨(some 5), none, .alloc [(.int .u8 0), (.int .i64 0), (.int .i64 0), (.int .u64 0)] 108, 4, [], true⟩,
  ⟨none, none, .store 4 (.tmp 5) (.tmp 14), 5, [], true⟩])
 (.seq (.seq (.region 8 [
  ⟨(some 15), none, .fieldAddr 1 (.tmp 5), 0, [], true⟩,
  ⟨(some 16), none, .load 1 false (.tmp 15), 1, [], true⟩,
  ⟨(some 17), none, .bin .lss (.tmp 16) (.const (.int .i64 0)), 2, [], true⟩,
  ⟨(some 18), none, .mv (.tmp 17), 3, [], true⟩,
  ⟨(some 19), (some (18, false)), .fieldAddr 1 (.tmp 5), 4, [], true⟩,
  ⟨(some 20), (some (18, false)), .load 1 false (.tmp 19), 5, [], true⟩,
  ⟨(some 21), (some (18, false)), .bin .geq (.tmp 20) (.const (.int .i64 64)), 6, [], true⟩,
  ⟨(some 22), none, .pick (.tmp 18) (.const (.bool true)) (.tmp 21), 7, [], true⟩])
 (.cond (.tmp 22) (.seq (.region 1 [
  ⟨(some 4), none, .mv (.const (.bool false)), 0, [], true⟩])
 .ret) .skip))
 (.seq (.region 9 [
  ⟨(some 23), none, .fieldAddr 2 (.tmp 5), 0, [], true⟩,
  ⟨(some 24), none, .load 1 false (.tmp 23), 1, [], true⟩,
  ⟨(some 25), none, .bin .eql (.tmp 24) (.const (.int .i64 0)), 2, [], true⟩,
  ⟨(some 26), none, .mv (.tmp 25), 3, [], true⟩,
  ⟨(some 27), (some (26, true)), .fieldAddr 3 (.tmp 5), 4, [], true⟩,
  ⟨(some 28), (some (26, true)), .load 1 false (.tmp 27), 5, [], true⟩,
  ⟨(some 29), (some (26, true)), .bin .eql (.tmp 28) (.const (.int .u64 0)), 6, [], true⟩,
  ⟨(some 30), none, .pick (.tmp 26) (.tmp 29) (.const (.bool false)), 7, [], true⟩,
  ⟨(some 6), none, .mv (.tmp 30), 8, [], true⟩])
 (.seq (.region 6 [
  ⟨(some 31), none, .mv (.tmp 0), 0, [], true⟩,
  ⟨(some 32), none, .mv (.tmp 1), 1, [], true⟩,
  ⟨(some 33), none, .fieldAddr 1 (.tmp 5), 2, [], true⟩,
  ⟨(some 34), none, .load 1 false (.tmp 33), 3, [], true⟩,
  ⟨(some 35), none, .call (.func 110) [(.tmp 31), (.tmp 32), (.tmp 34), (.const (.int .u8 1))], 4, [], true⟩,
  ⟨(some 7), none, .mv (.tmp 35), 5, [], true⟩])
 (.seq (.region 6 [
  ⟨(some 36), none, .mv (.tmp 0), 0, [], true⟩,
  ⟨(some 37), none, .mv (.tmp 1), 1, [], true⟩,
  ⟨(some 38), none, .fieldAddr 1 (.tmp 5), 2, [], true⟩,
  ⟨(some 39), none, .load 1 false (.tmp 38), 3, [], true⟩,
  ⟨(some 40), none, .call (.func 110) [(.tmp 36), (.tmp 37), (.tmp 39), (.const (.int .u8 7))], 4, [], true⟩,
  ⟨(some 8), none, .mv (.tmp 40), 5, [], true⟩])
 (.seq (.region 13 [
  ⟨(some 41), none, .mv (.tmp 0), 0, [], true⟩,
  ⟨(some 42), none, .mv (.tmp 1), 1, [], true⟩,
  ⟨(some 43), none, .fieldAddr 1 (.tmp 5), 2, [], true⟩,
  ⟨(some 44), none, .load 1 false (.tmp 43), 3, [], true⟩,
  ⟨(some 45), none, .call (.func 110) [(.tmp 41), (.tmp 42), (.tmp 44), (.const (.int .u8 8))], 4, [], true⟩,
  ⟨(some 46), none, .mv (.tmp 45), 5, [], true⟩,
  ⟨(some 47), (some (46, false)), .mv (.tmp 0), 6, [], true⟩,
  ⟨(some 48), (some (46, false)), .mv (.tmp 1), 7, [], true⟩,
  ⟨(some 49), (some (46, false)), .fieldAddr 1 (.tmp 5), 8, [], true⟩,
  ⟨(some 50), (some (46, false)), .load 1 false (.tmp 49), 9, [], true⟩,
  ⟨(some 51), (some (46, false)), .call (.func 110) [(.tmp 47), (.tmp 48), (.tmp 50), (.const (.int .u8 9))], 10, [], true⟩,
  ⟨(some 52), none, .pick (.tmp 46) (.const (.bool true)) (.tmp 51), 11, [], true⟩,
  ⟨(some 9), none, .mv (.tmp 52), 12, [], true⟩])
 (.seq (.seq (.region 3 [
  ⟨(some 53), none, .fieldAddr 0 (.tmp 5), 0, [], true⟩,
  ⟨(some 54), none, .load 1 false (.tmp 53), 1, [], true⟩,
  ⟨(some 55), none, .bin .eql (.tmp 54) (.const (.int .u8 1)), 2, [], true⟩])
 (.cond (.tmp 55) (.seq (.region 6 [
  ⟨(some 56), none, .mv (.tmp 6), 0, [], true⟩,
  ⟨(some 57), none, .mv (.tmp 56), 1, [], true⟩,
  ⟨(some 58), (some (57, true)), .mv (.tmp 7), 2, [], true⟩,
  ⟨(some 59), (some (57, true)), .un .not (.tmp 58), 3, [], true⟩,
  ⟨(some 60), none, .pick (.tmp 57) (.tmp 59) (.const (.bool false)), 4, [], true⟩,
  ⟨(some 4), none, .mv (.tmp 60), 5, [], true⟩])
 .ret) .skip))
 (.seq (.seq (.region 5 [
  ⟨(some 61), none, .mv (.tmp 7), 0, [], true⟩,
  ⟨(some 62), none, .un .not (.tmp 61), 1, [], true⟩,
  ⟨(some 63), none, .mv (.tmp 62), 2, [], true⟩,
  ⟨(some 64), (some (63, false)), .mv (.tmp 9), 3, [], true⟩,
  ⟨(some 65), none, .pick (.tmp 63) (.const (.bool true)) (.tmp 64), 4, [], true⟩])
 (.cond (.tmp 65) (.seq (.region 1 [
  ⟨(some 4), none, .mv (.const (.bool false)), 0, [], true⟩])
 .ret) .skip))
 (.seq (.region 6 [
  ⟨(some 66), none, .mv (.tmp 0), 0, [], true⟩,
  ⟨(some 67), none, .mv (.tmp 1), 1, [], true⟩,
  ⟨(some 68), none, .fieldAddr 1 (.tmp 5), 2, [], true⟩,
  ⟨(some 69), none, .load 1 false (.tmp 68), 3, [], true⟩,
  ⟨(some 70), none, .call (.func 213) [(.tmp 66), (.tmp 67), (.tmp 69)], 4, [], true⟩,
  ⟨(some 10), none, .mv (.tmp 70), 5, [], true⟩])
 (.seq (.seq (.region 2 [
  ⟨(some 71), none, .fieldAddr 0 (.tmp 5), 0, [], true⟩,
  ⟨(some 72), none, .load 1 false (.tmp 71), 1, [], true⟩])
 (.block 0 (.seq (.region 2 [
  ⟨(some 74), none, .bin .eql (.tmp 72) (.const (.int .u8 8)), 0, [], true⟩,
  ⟨(some 73), none, .mv (.tmp 74), 1, [], true⟩])
 (.cond (.tmp 73) (.seq (.region 5 [
  ⟨(some 75), none, .mv (.tmp 6), 0, [], true⟩,
  ⟨(some 76), none, .mv (.tmp 75), 1, [], true⟩,
  ⟨(some 77), (some (76, true)), .mv (.tmp 8), 2, [], true⟩,
  ⟨(some 78), none, .pick (.tmp 76) (.tmp 77) (.const (.bool false)), 3, [], true⟩,
  ⟨(some 4), none, .mv (.tmp 78), 4, [], true⟩])
 .ret) (.seq (.region 2 [
  ⟨(some 80), none, .bin .eql (.tmp 72) (.const (.int .u8 9)), 0, [], true⟩,
  ⟨(some 79), none, .mv (.tmp 80), 1, [], true⟩])
 (.cond (.tmp 79) (.seq (.region 2 [
  ⟨(some 81), none, .mv (.tmp 6), 0, [], true⟩,
  ⟨(some 4), none, .mv (.tmp 81), 1, [], true⟩])
 .ret) (.seq (.region 2 [
  ⟨(some 83), none, .bin .eql (.tmp 72) (.const (.int .u8 2)), 0, [], true⟩,
  ⟨(some 82), none, .mv (.tmp 83), 1, [], true⟩])
 (.cond (.tmp 82) (.seq (.region 18 [
  ⟨(some 84), none, .mv (.tmp 8), 0, [], true⟩,
  ⟨(some 85), none, .un .not (.tmp 84), 1, [], true⟩,
  ⟨(some 86), none, .mv (.tmp 85), 2, [], true⟩,
  ⟨(some 87), (some (86, true)), .fieldAddr 2 (.tmp 5), 3, [], true⟩,
  ⟨(some 88), (some (86, true)), .load 1 false (.tmp 87), 4, [], true⟩,
  ⟨(some 89), (some (86, true)), .bin .geq (.tmp 88) (.const (.int .i64 0)), 5, [], true⟩,
  ⟨(some 90), none, .pick (.tmp 86) (.tmp 89) (.const (.bool false)), 6, [], true⟩,
  ⟨(some 91), none, .mv (.tmp 90), 7, [], true⟩,
  ⟨(some 92), (some (91, true)), .fieldAddr 2 (.tmp 5), 8, [], true⟩,
  ⟨(some 93), (some (91, true)), .load 1 false (.tmp 92), 9, [], true⟩,
  ⟨(some 94), (some (91, true)), .bin .lss (.tmp 93) (.const (.int .i64 12)), 10, [], true⟩,
  ⟨(some 95), none, .pick (.tmp 91) (.tmp 94) (.const (.bool false)), 11, [], true⟩,
  ⟨(some 96), none, .mv (.tmp 95), 12, [], true⟩,
  ⟨(some 97), (some (96, true)), .fieldAddr 3 (.tmp 5), 13, [], true⟩,
  ⟨(some 98), (some (96, true)), .load 1 false (.tmp 97), 14, [], true⟩,
  ⟨(some 99), (some (96, true)), .call (.func 89) [(.tmp 98)], 15, [], true⟩,
  ⟨(some 100), none, .pick (.tmp 96) (.tmp 99) (.const (.bool false)), 16, [], true⟩,
  ⟨(some 4), none, .mv (.tmp 100), 17, [], true⟩])
 .ret) (.seq (.region 2 [
  ⟨(some 102), none, .bin .eql (.tmp 72) (.const (.int .u8 3)), 0, [], true⟩,
  ⟨(some 101), none, .mv (.tmp 102), 1, [], true⟩])
 (.cond (.tmp 101) (.seq (.region 9 [
  ⟨(some 103), none, .mv (.tmp 8), 0, [], true⟩,
  ⟨(some 104), none, .un .not (.tmp 103), 1, [], true⟩,
  ⟨(some 105), none, .mv (.tmp 104), 2, [], true⟩,
  ⟨(some 106), (some (105, true)), .mv (.tmp 10), 3, [], true⟩,
  ⟨(some 107), (some (105, true)), .load 4 true (.tmp 5), 4, [], true⟩,
  ⟨(some 108), (some (105, true)), .call (.func 214) [(.tmp 106), (.tmp 107)], 5, [], true⟩,
  ⟨(some 109), (some (105, true)), .bin .eql (.tmp 108) (.const (.int .i64 0)), 6, [], true⟩,
  ⟨(some 110), none, .pick (.tmp 105) (.tmp 109) (.const (.bool false)), 7, [], true⟩,
  ⟨(some 4), none, .mv (.tmp 110), 8, [], true⟩])
 .ret) (.seq (.seq (.region 2 [
  ⟨(some 112), none, .bin .eql (.tmp 72) (.const (.int .u8 4)), 0, [], true⟩,
  ⟨(some 111), none, .mv (.tmp 112), 1, [], true⟩])
 (.cond (.tmp 111) .skip (.seq (.region 2 [
  ⟨(some 113), none, .bin .eql (.tmp 72) (.const (.int .u8 5)), 0, [], true⟩,
  ⟨(some 111), none, .mv (.tmp 113), 1, [], true⟩])
 (.cond (.tmp 111) .skip (.region 2 [
  ⟨(some 114), none, .bin .eql (.tmp 72) (.const (.int .u8 6)), 0, [], true⟩,
  ⟨(some 111), none, .mv (.tmp 114), 1, [], true⟩])))))
 (.cond (.tmp 111) (.seq (.region 12 [
  ⟨(some 115), none, .mv (.tmp 8), 0, [], true⟩,
  ⟨(some 116), none, .un .not (.tmp 115), 1, [], true⟩,
  ⟨(some 117), none, .mv (.tmp 116), 2, [], true⟩,
  ⟨(some 118), (some (117, true)), .mv (.tmp 6), 3, [], true⟩,
  ⟨(some 119), none, .pick (.tmp 117) (.tmp 118) (.const (.bool false)), 4, [], true⟩,
  ⟨(some 120), none, .mv (.tmp 119), 5, [], true⟩,
  ⟨(some 121), (some (120, true)), .mv (.tmp 10), 6, [], true⟩,
  ⟨(some 122), (some (120, true)), .load 4 true (.tmp 5), 7, [], true⟩,
  ⟨(some 123), (some (120, true)), .call (.func 214) [(.tmp 121), (.tmp 122)], 8, [], true⟩,
  ⟨(some 124), (some (120, true)), .bin .eql (.tmp 123) (.const (.int .i64 0)), 9, [], true⟩,
  ⟨(some 125), none, .pick (.tmp 120) (.tmp 124) (.const (.bool false)), 10, [], true⟩,
  ⟨(some 4), none, .mv (.tmp 125), 11, [], true⟩])
 .ret) (.seq (.region 2 [
  ⟨(some 127), none, .bin .eql (.tmp 72) (.const (.int .u8 7)), 0, [], true⟩,
  ⟨(some 126), none, .mv (.tmp 127), 1, [], true⟩])
 (.cond (.tmp 126) (.seq (.region 11 [
  ⟨(some 128), none, .mv (.tmp 8), 0, [], true⟩,
  ⟨(some 129), none, .un .not (.tmp 128), 1, [], true⟩,
  ⟨(some 130), none, .mv (.tmp 129), 2, [], true⟩,
  ⟨(some 131), (some (130, true)), .mv (.tmp 6), 3, [], true⟩,
  ⟨(some 132), none, .pick (.tmp 130) (.tmp 131) (.const (.bool false)), 4, [], true⟩,
  ⟨(some 133), none, .mv (.tmp 132), 5, [], true⟩,
  ⟨(some 134), (some (133, true)), .mv (.tmp 10), 6, [], true⟩,
  ⟨(some 135), (some (133, true)), .call (.func 168) [(.tmp 134)], 7, [], true⟩,
  ⟨(some 136), (some (133, true)), .bin .eql (.tmp 135) (.const (.int .i64 0)), 8, [], true⟩,
  ⟨(some 137), none, .pick (.tmp 133) (.tmp 136) (.const (.bool false)), 9, [], true⟩,
  ⟨(some 4), none, .mv (.tmp 137), 10, [], true⟩])
 .ret) .skip))))))))))))))
 (.seq (.region 1 [
  ⟨(some 4), none, .mv (.const (.bool false)), 0, [], true⟩])
 .ret))))))))))))⟩

def m163 : MFn := ⟨60, [(4, none)], (.seq (.region 1 [
  ⟨(some 4), none, .mv (.const (.slice none 0 0)), 0, [], true⟩])
 (.seq (.region 1 [
  ⟨(some 5), none, .mv (.const (.slice none 0 0)), 0, [], true⟩])
 (.seq (.seq (.region 1 [
  ⟨(some 6), none, .mv (.const (.int .i64 0)), 0, [], true⟩])
 (.block 0 (.loop (.seq (.seq (.region 4 [
  ⟨(some 9), none, .mv (.tmp 6), 0, [], true⟩,
  ⟨(some 10), none, .mv (.tmp 0), 1, [], true⟩,
  ⟨(some 11), none, .len false (.tmp 10), 2, [], true⟩,
  ⟨(some 12), none, .bin .lss (.tmp 9) (.tmp 11), 3, [], true⟩])
 (.cond (.tmp 12) .skip (.exit 0)))
 (.seq (.block 1 (.seq (.seq (.region 15 [
  ⟨(some 15), none, .mv (.tmp 0), 0, [], true⟩,
  ⟨(some 16), none, .mv (.tmp 6), 1, [], true⟩,
  ⟨(some 17), none, .adSl 4 (.tmp 15) (.tmp 16), 2, [], true⟩,
  ⟨(some 18), none, .fieldAddr 1 (.tmp 17), 3, [], true⟩,
  ⟨(some 19), none, .load 1 false (.tmp 18), 4, [], true⟩,
  ⟨(some 20), none, .mv (.tmp 1), 5, [], true⟩,
  ⟨(some 21), none, .bin .neq (.tmp 19) (.tmp 20), 6, [], true⟩,
  ⟨(some 22), none, .mv (.tmp 21), 7, [], true⟩,
  ⟨(some 23), (some (22, false)), .mv (.tmp 0), 8, [], true⟩,
  ⟨(some 24), (some (22, false)), .mv (.tmp 6), 9, [], true⟩,
  ⟨(some 25), (some (22, false)), .adSl 4 (.tmp 23) (.tmp 24), 10, [], true⟩,
  ⟨(some 26), (some (22, false)), .fieldAddr 0 (.tmp 25), 11, [], true⟩,
  ⟨(some 27), (some (22, false)), .load 1 false (.tmp 26), 12, [], true⟩,
  ⟨(some 28), (some (22, false)), .bin .neq (.tmp 27) (.const (.int .u8 2)), 13, [], true⟩,
  ⟨(some 29), none, .pick (.tmp 22) (.const (.bool true)) (.tmp 28), 14, [], true⟩])
 (.cond (.tmp 29) (.exit 1) .skip))
 (.seq (.region 15 [
  ⟨(some 31), none, .mv (.tmp 0), 0, [], true⟩,
  ⟨(some 32), none, .mv (.tmp 6), 1, [], false⟩,
  ⟨(some 33), none, .mv (.tmp 1), 2, [], false⟩,
  ⟨(some 35), none, .mv (.tmp 0), 4, [], false⟩,
  ⟨(some 36), none, .mv (.tmp 6), 5, [], false⟩,
  ⟨(some 37), none, .adSl 4 (.tmp 35) (.tmp 36), 6, [], false⟩,
  ⟨(some 38), none, .fieldAddr 2 (.tmp 37), 7, [], false⟩,
  ⟨(some 39), none, .load 1 false (.tmp 38), 8, [], false⟩,
  ⟨(some 34), none, .call (.func 213) [(.tmp 31), (.tmp 32), (.tmp 33)], 3, [(false, none, none, 8, .load 1 false (.tmp 38))], false⟩,
  ⟨(some 40), none, .call (.func 170) [(.tmp 34), (.tmp 39)], 9, [], true⟩,
  ⟨(some 30), none, .mv (.tmp 40), 10, [], true⟩,
  ⟨(some 41), none, .extract (.tmp 30) 0, 11, [], true⟩,
  ⟨(some 42), none, .extract (.tmp 30) 1, 12, [], false⟩,
  ⟨(some 7), none, .mv (.tmp 41), 13, [], false⟩,
  ⟨(some 8), none, .mv (.tmp 42), 14, [], true⟩])
 (.seq (.region 2 [
  ⟨(some 43), none, .mv (.tmp 8), 0, [], true⟩,
  ⟨(some 44), none, .un .not (.tmp 43), 1, [], true⟩])
 (.cond (.tmp 44) (.region 15 [
  ⟨(some 45), none, .mv (.tmp 5), 0, [], true⟩,
  ⟨(some 46), none, .mv (.tmp 0), 1, [], false⟩,
  ⟨(some 47), none, .mv (.tmp 6), 2, [], false⟩,
  ⟨(some 48), none, .adSl 4 (.tmp 46) (.tmp 47), 3, [], false⟩,
  ⟨(some 49), none, .fieldAddr 2 (.tmp 48), 4, [], false⟩,
  ⟨(some 50), none, .load 1 false (.tmp 49), 5, [], false⟩,
  ⟨(some 51), none, .mv (.tmp 0), 6, [], false⟩,
  ⟨(some 52), none, .mv (.tmp 6), 7, [], false⟩,
  ⟨(some 53), none, .adSl 4 (.tmp 51) (.tmp 52), 8, [], false⟩,
  ⟨(some 54), none, .fieldAddr 3 (.tmp 53), 9, [], false⟩,
  ⟨(some 55), none, .load 1 false (.tmp 54), 10, [], false⟩,
  ⟨(some 56), none, .build [(.int .i64 0), (.int .u64 0)] [(0, 1, (.tmp 50)), (1, 1, (.tmp 55))], 11, [], false⟩,
  ⟨(some 57), none, .buildSl 138 2 1 [(.int .i64 0), (.int .u64 0)] [(0, 2, (.tmp 56))], 12, [], false⟩,
  ⟨(some 58), none, .append 138 2 16 (.tmp 45) (.tmp 57), 13, [], true⟩,
  ⟨(some 5), none, .mv (.tmp 58), 14, [], true⟩]) .skip)))))
 (.region 3 [
  ⟨(some 13), none, .mv (.tmp 6), 0, [], true⟩,
  ⟨(some 14), none, .bin .add (.tmp 13) (.const (.int .i64 1)), 1, [], true⟩,
  ⟨(some 6), none, .mv (.tmp 14), 2, [], true⟩]))))))
 (.seq (.region 2 [
  ⟨(some 59), none, .mv (.tmp 5), 0, [], true⟩,
  ⟨(some 4), none, .mv (.tmp 59), 1, [], true⟩])
 .ret))))⟩

def m164 : MFn := ⟨11, [(4, none)], (.seq (.region 1 [
  ⟨(some 4), none, .mv (.const (.slice none 0 0)), 0, [], true⟩])
 (.seq (.region 7 [
  ⟨(some 5), none, .mv (.tmp 0), 0, [], true⟩,
  ⟨(some 6), none, .mv (.tmp 0), 1, [], true⟩,
  ⟨(some 7), none, .len false (.tmp 6), 2, [], true⟩,
  ⟨(some 8), none, .mv (.tmp 1), 3, [], true⟩,
  ⟨(some 9), none, .call (.func 213) [(.tmp 5), (.tmp 7), (.tmp 8)], 4, [], true⟩,
  ⟨(some 10), none, .call (.func 132) [(.tmp 9)], 5, [], true⟩,
  ⟨(some 4), none, .mv (.tmp 10), 6, [], true⟩])
 .ret))⟩

def m165 : MFn := ⟨52, [(4, none)], (.seq (.region 1 [
  ⟨(some 4), none, .mv (.const (.bool false)), 0, [], true⟩])
 (.seq (.seq (.region 1 [
  ⟨(some 5), none, .mv (.const (.int .i64 0)), 0, [], true⟩])
 (.block 0 (.loop (.seq (.seq (.region 4 [
  ⟨(some 8), none, .mv (.tmp 5), 0, [], true⟩,
  ⟨(some 9), none, .mv (.tmp 0), 1, [], true⟩,
  ⟨(some 10), none, .len false (.tmp 9), 2, [], true⟩,
  ⟨(some 11), none, .bin .lss (.tmp 8) (.tmp 10), 3, [], true⟩])
 (.cond (.tmp 11) .skip (.exit 0)))
 (.seq (.block 1 (.seq (.seq (.region 15 [
  ⟨(some 14), none, .mv (.tmp 0), 0, [], true⟩,
  ⟨(some 15), none, .mv (.tmp 5), 1, [], true⟩,
  ⟨(some 16), none, .adSl 4 (.tmp 14) (.tmp 15), 2, [], true⟩,
  ⟨(some 17), none, .fieldAddr 1 (.tmp 16), 3, [], true⟩,
  ⟨(some 18), none, .load 1 false (.tmp 17), 4, [], true⟩,
  ⟨(some 19), none, .mv (.tmp 1), 5, [], true⟩,
  ⟨(some 20), none, .bin .neq (.tmp 18) (.tmp 19), 6, [], true⟩,
  ⟨(some 21), none, .mv (.tmp 20), 7, [], true⟩,
  ⟨(some 22), (some (21, false)), .mv (.tmp 0), 8, [], true⟩,
  ⟨(some 23), (some (21, false)), .mv (.tmp 5), 9, [], true⟩,
  ⟨(some 24), (some (21, false)), .adSl 4 (.tmp 22) (.tmp 23), 10, [], true⟩,
  ⟨(some 25), (some (21, false)), .fieldAddr 0 (.tmp 24), 11, [], true⟩,
  ⟨(some 26), (some (21, false)), .load 1 false (.tmp 25), 12, [], true⟩,
  ⟨(some 27), (some (21, false)), .bin .neq (.tmp 26) (.const (.int .u8 2)), 13, [], true⟩,
  ⟨(some 28), none, .pick (.tmp 21) (.const (.bool true)) (.tmp 27), 14, [], true⟩])
 (.cond (.tmp 28) (.exit 1) .skip))
 (.seq (.region 15 [
  ⟨(some 30), none, .mv (.tmp 0), 0, [], true⟩,
  ⟨(some 31), none, .mv (.tmp 5), 1, [], false⟩,
  ⟨(some 32), none, .mv (.tmp 1), 2, [], false⟩,
  ⟨(some 34), none, .mv (.tmp 0), 4, [], false⟩,
  ⟨(some 35), none, .mv (.tmp 5), 5, [], false⟩,
  ⟨(some 36), none, .adSl 4 (.tmp 34) (.tmp 35), 6, [], false⟩,
  ⟨(some 37), none, .fieldAddr 2 (.tmp 36), 7, [], false⟩,
  ⟨(some 38), none, .load 1 false (.tmp 37), 8, [], false⟩,
  ⟨(some 33), none, .call (.func 213) [(.tmp 30), (.tmp 31), (.tmp 32)], 3, [(false, none, none, 8, .load 1 false (.tmp 37))], false⟩,
  ⟨(some 39), none, .call (.func 170) [(.tmp 33), (.tmp 38)], 9, [], true⟩,
  ⟨(some 29), none, .mv (.tmp 39), 10, [], true⟩,
  ⟨(some 40), none, .extract (.tmp 29) 0, 11, [], true⟩,
  ⟨(some 41), none, .extract (.tmp 29) 1, 12, [], false⟩,
  ⟨(some 6), none, .mv (.tmp 40), 13, [], false⟩,
  ⟨(some 7), none, .mv (.tmp 41), 14, [], true⟩])
 (.seq (.region 10 [
  ⟨(some 42), none, .mv (.tmp 7), 0, [], true⟩,
  ⟨(some 43), none, .mv (.tmp 42), 1, [], true⟩,
  ⟨(some 44), (some (43, true)), .mv (.tmp 6), 2, [], true⟩,
  ⟨(some 45), (some (43, true)), .mv (.tmp 0), 3, [], true⟩,
  ⟨(some 46), (some (43, true)), .mv (.tmp 5), 4, [], true⟩,
  ⟨(some 47), (some (43, true)), .adSl 4 (.tmp 45) (.tmp 46), 5, [], true⟩,
  ⟨(some 48), (some (43, true)), .fieldAddr 3 (.tmp 47), 6, [], true⟩,
  ⟨(some 49), (some (43, true)), .load 1 false (.tmp 48), 7, [], true⟩,
  ⟨(some 50), (some (43, true)), .bin .neq (.tmp 44) (.tmp 49), 8, [], true⟩,
  ⟨(some 51), none, .pick (.tmp 43) (.tmp 50) (.const (.bool false)), 9, [], true⟩])
 (.cond (.tmp 51) (.seq (.region 1 [
  ⟨(some 4), none, .mv (.const (.bool false)), 0, [], true⟩])
 .ret) .skip)))))
 (.region 3 [
  ⟨(some 12), none, .mv (.tmp 5), 0, [], true⟩,
  ⟨(some 13), none, .bin .add (.tmp 12) (.const (.int .i64 1)), 1, [], true⟩,
  ⟨(some 5), none, .mv (.tmp 13), 2, [], true⟩]))))))
 (.seq (.region 1 [
  ⟨(some 4), none, .mv (.const (.bool true)), 0, [], true⟩])
 .ret)))⟩

def m166 : MFn := ⟨13, [(4, none)], (.seq (.region 2 [
  ⟨(some 2), none, .box 91 (.tmp 0), 0, [], true⟩,
  ⟨(some 4), none, .mv (.const (.slice none 0 0)), 1, [], true⟩])
 (.seq (.seq (.region 1 [
  ⟨(some 6), none, .mv (.tmp 1), 0, [], true⟩])
 (.block 0 (.rangeF (.tmp 6) [7] (.region 2 [
  ⟨(some 5), none, .alloc [(.int .i64 0), (.int .u64 0), (.int .u8 0)] 98, 0, [], true⟩,
  ⟨none, none, .store 3 (.tmp 5) (.tmp 7), 1, [], true⟩]) (.block 1 (.region 5 [
  ⟨(some 8), none, .load 1 false (.tmp 2), 0, [], true⟩,
  ⟨(some 9), none, .load 3 true (.tmp 5), 1, [], true⟩,
  ⟨(some 10), none, .buildSl 98 3 1 [(.int .i64 0), (.int .u64 0), (.int .u8 0)] [(0, 3, (.tmp 9))], 2, [], true⟩,
  ⟨(some 11), none, .append 98 3 24 (.tmp 8) (.tmp 10), 3, [], true⟩,
  ⟨none, none, .store 1 (.tmp 2) (.tmp 11), 4, [], true⟩])))))
 (.seq (.region 2 [
  ⟨(some 12), none, .load 1 false (.tmp 2), 0, [], true⟩,
  ⟨(some 4), none, .mv (.tmp 12), 1, [], true⟩])
 .ret)))⟩

def m167 : MFn := ⟨63, [], (.seq (.region 1 [
  ⟨(some 6), none, .mv (.const (.int .i64 20)), 0, [], true⟩])
 (.seq (.region 3 [
  ⟨(some 10), none, .mv (.tmp 6), 0, [], true⟩,
  ⟨(some 7), none, .mv (.const (.int .i64 0)), 1, [], true⟩,
  ⟨(some 8), none, .mv (.tmp 10), 2, [], true⟩])
 (.seq (.block 0 (.loop (.seq (.seq (.region 3 [
  ⟨(some 11), none, .mv (.tmp 8), 0, [], true⟩,
  ⟨(some 12), none, .mv (.tmp 1), 1, [], true⟩,
  ⟨(some 13), none, .bin .leq (.tmp 11) (.tmp 12), 2, [], true⟩])
 (.cond (.tmp 13) .skip (.exit 0)))
 (.block 1 (.seq (.region 5 [
  ⟨(some 14), none, .mv (.tmp 0), 0, [], true⟩,
  ⟨(some 15), none, .mv (.tmp 7), 1, [], true⟩,
  ⟨(some 16), none, .mv (.tmp 8), 2, [], true⟩,
  ⟨(some 17), none, .mv (.tmp 2), 3, [], true⟩,
  ⟨(some 18), none, .call (.func 215) [(.tmp 14), (.tmp 15), (.tmp 16), (.tmp 17)], 4, [], true⟩])
 (.seq (.region 2 [
  ⟨(some 19), none, .mv (.tmp 8), 0, [], true⟩,
  ⟨(some 7), none, .mv (.tmp 19), 1, [], true⟩])
 (.region 4 [
  ⟨(some 20), none, .mv (.tmp 8), 0, [], true⟩,
  ⟨(some 21), none, .mv (.tmp 6), 1, [], true⟩,
  ⟨(some 22), none, .bin .add (.tmp 20) (.tmp 21), 2, [], true⟩,
  ⟨(some 8), none, .mv (.tmp 22), 3, [], true⟩])))))))
 (.seq (.region 5 [
  ⟨(some 23), none, .mv (.tmp 0), 0, [], true⟩,
  ⟨(some 24), none, .mv (.tmp 7), 1, [], true⟩,
  ⟨(some 25), none, .mv (.tmp 1), 2, [], true⟩,
  ⟨(some 26), none, .mv (.tmp 2), 3, [], true⟩,
  ⟨(some 27), none, .call (.func 215) [(.tmp 23), (.tmp 24), (.tmp 25), (.tmp 26)], 4, [], true⟩])
 (.block 2 (.loop (.seq (.seq (.region 3 [
  ⟨(some 28), none, .mv (.tmp 6), 0, [], true⟩,
  ⟨(some 29), none, .mv (.tmp 1), 1, [], true⟩,
  ⟨(some 30), none, .bin .lss (.tmp 28) (.tmp 29), 2, [], true⟩])
 (.cond (.tmp 30) .skip (.exit 2)))
 (.block 3 (.seq (.region 4 [
  ⟨(some 31), none, .mv (.tmp 6), 0, [], true⟩,
  ⟨(some 32), none, .bin .mul (.const (.int .i64 2)) (.tmp 31), 1, [], true⟩,
  ⟨(some 7), none, .mv (.const (.int .i64 0)), 2, [], true⟩,
  ⟨(some 8), none, .mv (.tmp 32), 3, [], true⟩])
 (.seq (.block 4 (.loop (.seq (.seq (.region 3 [
  ⟨(some 33), none, .mv (.tmp 8), 0, [], true⟩,
  ⟨(some 34), none, .mv (.tmp 1), 1, [], true⟩,
  ⟨(some 35), none, .bin .leq (.tmp 33) (.tmp 34), 2, [], true⟩])
 (.cond (.tmp 35) .skip (.exit 4)))
 (.block 5 (.seq (.region 8 [
  ⟨(some 36), none, .mv (.tmp 0), 0, [], true⟩,
  ⟨(some 37), none, .mv (.tmp 7), 1, [], true⟩,
  ⟨(some 38), none, .mv (.tmp 7), 2, [], true⟩,
  ⟨(some 39), none, .mv (.tmp 6), 3, [], true⟩,
  ⟨(some 40), none, .bin .add (.tmp 38) (.tmp 39), 4, [], true⟩,
  ⟨(some 41), none, .mv (.tmp 8), 5, [], true⟩,
  ⟨(some 42), none, .mv (.tmp 2), 6, [], true⟩,
  ⟨(some 43), none, .call (.func 216) [(.tmp 36), (.tmp 37), (.tmp 40), (.tmp 41), (.tmp 42)], 7, [], true⟩])
 (.seq (.region 2 [
  ⟨(some 44), none, .mv (.tmp 8), 0, [], true⟩,
  ⟨(some 7), none, .mv (.tmp 44), 1, [], true⟩])
 (.region 5 [
  ⟨(some 45), none, .mv (.tmp 8), 0, [], true⟩,
  ⟨(some 46), none, .mv (.tmp 6), 1, [], true⟩,
  ⟨(some 47), none, .bin .mul (.const (.int .i64 2)) (.tmp 46), 2, [], true⟩,
  ⟨(some 48), none, .bin .add (.tmp 45) (.tmp 47), 3, [], true⟩,
  ⟨(some 8), none, .mv (.tmp 48), 4, [], true⟩])))))))
 (.seq (.seq (.region 4 [
  ⟨(some 49), none, .mv (.tmp 7), 0, [], true⟩,
  ⟨(some 50), none, .mv (.tmp 6), 1, [], true⟩,
  ⟨(some 51), none, .bin .add (.tmp 49) (.tmp 50), 2, [], true⟩,
  ⟨(some 9), none, .mv (.tmp 51), 3, [], true⟩])
 (.seq (.region 3 [
  ⟨(some 52), none, .mv (.tmp 9), 0, [], true⟩,
  ⟨(some 53), none, .mv (.tmp 1), 1, [], true⟩,
  ⟨(some 54), none, .bin .lss (.tmp 52) (.tmp 53), 2, [], true⟩])
 (.cond (.tmp 54) (.region 6 [
  ⟨(some 55), none, .mv (.tmp 0), 0, [], true⟩,
  ⟨(some 56), none, .mv (.tmp 7), 1, [], true⟩,
  ⟨(some 57), none, .mv (.tmp 9), 2, [], true⟩,
  ⟨(some 58), none, .mv (.tmp 1), 3, [], true⟩,
  ⟨(some 59), none, .mv (.tmp 2), 4, [], true⟩,
  ⟨(some 60), none, .call (.func 216) [(.tmp 55), (.tmp 56), (.tmp 57), (.tmp 58), (.tmp 59)], 5, [], true⟩]) .skip)))
 (.region 3 [
  ⟨(some 61), none, .mv (.tmp 6), 0, [], true⟩,
  ⟨(some 62), none, .bin .mul (.tmp 61) (.const (.int .i64 2)), 1, [], true⟩,
  ⟨(some 6), none, .mv (.tmp 62), 2, [], true⟩]))))))))))))⟩

def m168 : MFn := ⟨11, [(2, none)], (.seq (.region 1 [
  ⟨(some 2), none, .mv (.const (.int .i64 0)), 0, [], true⟩])
 (.seq (.seq (.region 2 [
  ⟨(some 3), none, .mv (.tmp 0), 0, [], true⟩,
  ⟨(some 4), none, .eq false .ptr (.tmp 3) (.const (.pointer none)), 1, [], true⟩])
 (.cond (.tmp 4) (.seq (.region 1 [
  ⟨(some 2), none, .mv (.const (.int .i64 0)), 0, [], true⟩])
 .ret) .skip))
 (.seq (.region 7 [
  ⟨(some 5), none, .mv (.tmp 0), 0, [], true⟩,
  ⟨(some 6), none, .nilCheck (.tmp 5), 1, [], true⟩,
  ⟨(some 7), none, .fieldAddr 0 (.tmp 6), 2, [], true⟩,
  ⟨(some 8), none, .load 1 false (.tmp 7), 3, [], true⟩,
  ⟨(some 9), none, .len false (.tmp 8), 4, [], true⟩,
  ⟨(some 10), none, .bin .sub (.tmp 9) (.const (.int .i64 1)), 5, [], true⟩,
  ⟨(some 2), none, .mv (.tmp 10), 6, [], true⟩])
 .ret)))⟩

def m169 : MFn := ⟨21, [(4, none)], (.seq (.region 1 [
  ⟨(some 4), none, .mv (.const (.int .i64 0)), 0, [], true⟩])
 (.seq (.region 1 [
  ⟨(some 5), none, .mv (.const (.int .i64 0)), 0, [], true⟩])
 (.seq (.seq (.region 1 [
  ⟨(some 6), none, .mv (.const (.int .i64 0)), 0, [], true⟩])
 (.block 0 (.loop (.seq (.seq (.region 4 [
  ⟨(some 7), none, .mv (.tmp 0), 0, [], true⟩,
  ⟨(some 8), none, .mv (.tmp 6), 1, [], true⟩,
  ⟨(some 9), none, .call (.func 184) [(.tmp 7), (.tmp 8)], 2, [], true⟩,
  ⟨(some 10), none, .bin .eql (.tmp 9) (.const (.int .i64 0)), 3, [], true⟩])
 (.cond (.tmp 10) .skip (.exit 0)))
 (.seq (.block 1 (.seq (.region 5 [
  ⟨(some 13), none, .mv (.tmp 0), 0, [], true⟩,
  ⟨(some 14), none, .mv (.tmp 1), 1, [], true⟩,
  ⟨(some 15), none, .mv (.tmp 6), 2, [], true⟩,
  ⟨(some 16), none, .call (.func 217) [(.tmp 13), (.tmp 14), (.tmp 15)], 3, [], true⟩,
  ⟨(some 17), none, .bin .eql (.tmp 16) (.const (.int .i64 0)), 4, [], true⟩])
 (.cond (.tmp 17) (.region 3 [
  ⟨(some 18), none, .mv (.tmp 5), 0, [], true⟩,
  ⟨(some 19), none, .bin .add (.tmp 18) (.const (.int .i64 1)), 1, [], true⟩,
  ⟨(some 5), none, .mv (.tmp 19), 2, [], true⟩]) .skip)))
 (.region 3 [
  ⟨(some 11), none, .mv (.tmp 6), 0, [], true⟩,
  ⟨(some 12), none, .bin .add (.tmp 11) (.const (.int .i64 1)), 1, [], true⟩,
  ⟨(some 6), none, .mv (.tmp 12), 2, [], true⟩]))))))
 (.seq (.region 2 [
  ⟨(some 20), none, .mv (.tmp 5), 0, [], true⟩,
  ⟨(some 4), none, .mv (.tmp 20), 1, [], true⟩])
 .ret))))⟩

def m170 : MFn := ⟨47, [(4, none), (5, none)], (.seq (.region 2 [
  ⟨(some 4), none, .mv (.const (.int .u64 0)), 0, [], true⟩,
  ⟨(some 5), none, .mv (.const (.bool false)), 1, [], true⟩])
 (.seq (.seq (.region 10 [
  ⟨(some 7), none, .mv (.tmp 0), 0, [], true⟩,
  ⟨(some 8), none, .eq false .ptr (.tmp 7) (.const (.pointer none)), 1, [], true⟩,
  ⟨(some 9), none, .mv (.tmp 8), 2, [], true⟩,
  ⟨(some 10), (some (9, false)), .mv (.tmp 1), 3, [], true⟩,
  ⟨(some 11), (some (9, false)), .bin .lss (.tmp 10) (.const (.int .i64 0)), 4, [], true⟩,
  ⟨(some 12), none, .pick (.tmp 9) (.const (.bool true)) (.tmp 11), 5, [], true⟩,
  ⟨(some 13), none, .mv (.tmp 12), 6, [], true⟩,
  ⟨(some 14), (some (13, false)), .mv (.tmp 1), 7, [], true⟩,
  ⟨(some 15), (some (13, false)), .bin .geq (.tmp 14) (.const (.int .i64 12)), 8, [], true⟩,
  ⟨(some 16), none, .pick (.tmp 13) (.const (.bool true)) (.tmp 15), 9, [], true⟩])
 (.cond (.tmp 16) (.seq (.region 2 [
  ⟨(some 4), none, .mv (.const (.int .u64 0)), 0, [], true⟩,
  ⟨(some 5), none, .mv (.const (.bool false)), 1, [], true⟩])
 .ret) .skip))
 (.seq (.seq (.region 7 [
  ⟨(some 17), none, .mv (.tmp 0), 0, [], true⟩,
  ⟨(some 18), none, .nilCheck (.tmp 17), 1, [], true⟩,
  ⟨(some 19), none, .fieldAddr 0 (.tmp 18), 2, [], true⟩,
  ⟨(some 20), none, .load 1 false (.tmp 19), 3, [], true⟩,
  ⟨(some 21), none, .len false (.tmp 20), 4, [], true⟩,
  ⟨(some 22), none, .bin .sub (.tmp 21) (.const (.int .i64 1)), 5, [], true⟩,
  ⟨(some 6), none, .mv (.tmp 22), 6, [], true⟩])
 (.block 0 (.loop (.seq (.seq (.region 2 [
  ⟨(some 23), none, .mv (.tmp 6), 0, [], true⟩,
  ⟨(some 24), none, .bin .geq (.tmp 23) (.const (.int .i64 0)), 1, [], true⟩])
 (.cond (.tmp 24) .skip (.exit 0)))
 (.seq (.block 1 (.seq (.region 10 [
  ⟨(some 27), none, .mv (.tmp 0), 0, [], true⟩,
  ⟨(some 28), none, .nilCheck (.tmp 27), 1, [], true⟩,
  ⟨(some 29), none, .fieldAddr 0 (.tmp 28), 2, [], true⟩,
  ⟨(some 30), none, .load 1 false (.tmp 29), 3, [], true⟩,
  ⟨(some 31), none, .mv (.tmp 6), 4, [], true⟩,
  ⟨(some 32), none, .mv (.tmp 1), 5, [], true⟩,
  ⟨(some 33), none, .adSl 24 (.tmp 30) (.tmp 31), 6, [], true⟩,
  ⟨(some 34), none, .fieldAddr 0 (.tmp 33), 7, [], true⟩,
  ⟨(some 35), none, .adArr 12 1 (.tmp 34) (.tmp 32), 8, [], true⟩,
  ⟨(some 36), none, .load 1 false (.tmp 35), 9, [], true⟩])
 (.cond (.tmp 36) (.seq (.region 12 [
  ⟨(some 37), none, .mv (.tmp 0), 0, [], true⟩,
  ⟨(some 38), none, .nilCheck (.tmp 37), 1, [], true⟩,
  ⟨(some 39), none, .fieldAddr 0 (.tmp 38), 2, [], true⟩,
  ⟨(some 40), none, .load 1 false (.tmp 39), 3, [], true⟩,
  ⟨(some 41), none, .mv (.tmp 6), 4, [], true⟩,
  ⟨(some 42), none, .mv (.tmp 1), 5, [], true⟩,
  ⟨(some 43), none, .adSl 24 (.tmp 40) (.tmp 41), 6, [], true⟩,
  ⟨(some 44), none, .fieldAddr 12 (.tmp 43), 7, [], true⟩,
  ⟨(some 45), none, .adArr 12 1 (.tmp 44) (.tmp 42), 8, [], true⟩,
  ⟨(some 46), none, .load 1 false (.tmp 45), 9, [], true⟩,
  ⟨(some 4), none, .mv (.tmp 46), 10, [], true⟩,
  ⟨(some 5), none, .mv (.const (.bool true)), 11, [], true⟩])
 .ret) .skip)))
 (.region 3 [
  ⟨(some 25), none, .mv (.tmp 6), 0, [], true⟩,
  ⟨(some 26), none, .bin .sub (.tmp 25) (.const (.int .i64 1)), 1, [], true⟩,
  ⟨(some 6), none, .mv (.tmp 26), 2, [], true⟩]))))))
 (.seq (.region 2 [
  ⟨(some 4), none, .mv (.const (.int .u64 0)), 0, [], true⟩,
  ⟨(some 5), none, .mv (.const (.bool false)), 1, [], true⟩])
 .ret))))⟩

def m171 : MFn := ⟨25, [(6, (some (7, true)))], (.seq (.region 1 [
  ⟨(some 6), none, .alloc [(.bool false), (.int .u64 0), (.bool false), (.int .i64 0), (.bool false), (.int .u8 0), (.int .i64 0)] 70, 0, [], true⟩])
 (.seq (.region 4 [
  ⟨(some 7), none, .mv (.tmp 1), 0, [], true⟩,
  ⟨(some 8), none, .nilCheck (.tmp 7), 1, [], true⟩,
  ⟨(some 9), none, .fieldAddr 5 (.tmp 8), 2, [], true⟩,
  ⟨none, none, .store 1 (.tmp 9) (.const (.bool false)), 3, [], true⟩])
 (.seq (.region 13 [
  ⟨(some 10), none, .mv (.tmp 0), 0, [], true⟩,
  ⟨(some 11), none, .mv (.tmp 1), 1, [], false⟩,
  ⟨(some 12), none, .nilCheck (.tmp 11), 2, [], false⟩,
  ⟨(some 13), none, .fieldAddr 0 (.tmp 12), 3, [], false⟩,
  ⟨(some 14), none, .load 1 false (.tmp 13), 4, [], false⟩,
  ⟨(some 15), none, .mv (.tmp 1), 5, [], false⟩,
  ⟨(some 16), none, .nilCheck (.tmp 15), 6, [], false⟩,
  ⟨(some 17), none, .fieldAddr 6 (.tmp 16), 7, [], false⟩,
  ⟨(some 18), none, .fieldAddr 1 (.tmp 17), 8, [], false⟩,
  ⟨(some 19), none, .load 1 false (.tmp 18), 9, [], false⟩,
  ⟨(some 20), none, .mv (.tmp 2), 10, [], false⟩,
  ⟨(some 21), none, .build [(.int .u8 0), (.int .i64 0), (.int .i64 0), (.int .u64 0)] [(0, 1, (.const (.int .u8 2))), (1, 1, (.tmp 14)), (2, 1, (.tmp 19)), (3, 1, (.tmp 20))], 11, [], false⟩,
  ⟨(some 22), none, .call (.func 124) [(.tmp 10), (.tmp 21)], 12, [], true⟩])
 (.seq (.region 3 [
  ⟨(some 23), none, .mv (.tmp 2), 0, [], true⟩,
  ⟨(some 24), none, .build [(.bool false), (.int .u64 0), (.bool false), (.int .i64 0), (.bool false), (.int .u8 0), (.int .i64 0)] [(0, 1, (.const (.bool true))), (1, 1, (.tmp 23))], 1, [], true⟩,
  ⟨none, none, .store 7 (.tmp 6) (.tmp 24), 2, [], true⟩])
 .ret))))⟩

def m172 : MFn := ⟨29, [(6, (some (7, true))), (7, none)], (.seq (.region 2 [
  ⟨(some 6), none, .alloc [(.bool false), (.int .u64 0), (.bool false), (.int .i64 0), (.bool false), (.int .u8 0), (.int .i64 0)] 70, 0, [], true⟩,
  ⟨(some 7), none, .mv (.const (.bool false)), 1, [], true⟩])
 (.seq (.region 11 [
  ⟨(some 11), none, .mv (.tmp 0), 0, [], true⟩,
  ⟨(some 12), none, .nilCheck (.tmp 11), 1, [], true⟩,
  ⟨(some 13), none, .fieldAddr 1 (.tmp 12), 2, [], true⟩,
  ⟨(some 14), none, .load 1 false (.tmp 13), 3, [], true⟩,
  ⟨(some 15), none, .mv (.tmp 2), 4, [], true⟩,
  ⟨(some 16), none, .call (.func 185) [(.tmp 14), (.tmp 15)], 5, [], true⟩,
  ⟨(some 10), none, .mv (.tmp 16), 6, [], true⟩,
  ⟨(some 17), none, .extract (.tmp 10) 0, 7, [], true⟩,
  ⟨(some 18), none, .extract (.tmp 10) 1, 8, [], true⟩,
  ⟨(some 8), none, .mv (.tmp 17), 9, [], true⟩,
  ⟨(some 9), none, .mv (.tmp 18), 10, [], true⟩])
 (.seq (.seq (.region 7 [
  ⟨(some 19), none, .mv (.tmp 9), 0, [], true⟩,
  ⟨(some 20), none, .un .not (.tmp 19), 1, [], true⟩,
  ⟨(some 21), none, .mv (.tmp 20), 2, [], true⟩,
  ⟨(some 22), (some (21, false)), .mv (.tmp 8), 3, [], true⟩,
  ⟨(some 23), (some (21, false)), .mv (.tmp 1), 4, [], true⟩,
  ⟨(some 24), (some (21, false)), .bin .eql (.tmp 22) (.tmp 23), 5, [], true⟩,
  ⟨(some 25), none, .pick (.tmp 21) (.const (.bool true)) (.tmp 24), 6, [], true⟩])
 (.cond (.tmp 25) (.seq (.region 3 [
  ⟨(some 26), none, .build [(.bool false), (.int .u64 0), (.bool false), (.int .i64 0), (.bool false), (.int .u8 0), (.int .i64 0)] [], 0, [], true⟩,
  ⟨none, none, .store 7 (.tmp 6) (.tmp 26), 1, [], true⟩,
  ⟨(some 7), none, .mv (.const (.bool false)), 2, [], true⟩])
 .ret) .skip))
 (.seq (.region 4 [
  ⟨(some 27), none, .mv (.tmp 8), 0, [], true⟩,
  ⟨(some 28), none, .build [(.bool false), (.int .u64 0), (.bool false), (.int .i64 0), (.bool false), (.int .u8 0), (.int .i64 0)] [(2, 1, (.const (.bool true))), (3, 1, (.tmp 27))], 1, [], true⟩,
  ⟨none, none, .store 7 (.tmp 6) (.tmp 28), 2, [], true⟩,
  ⟨(some 7), none, .mv (.const (.bool true)), 3, [], true⟩])
 .ret))))⟩

def m173 : MFn := ⟨25, [(4, none)], (.seq (.region 1 [
  ⟨(some 4), none, .mv (.const (.int .u64 0)), 0, [], true⟩])
 (.seq (.seq (.region 4 [
  ⟨(some 8), none, .mv (.tmp 0), 0, [], true⟩,
  ⟨(some 9), none, .mv (.tmp 1), 1, [], true⟩,
  ⟨(some 10), none, .call (.func 184) [(.tmp 8), (.tmp 9)], 2, [], true⟩,
  ⟨(some 11), none, .bin .neq (.tmp 10) (.const (.int .i64 0)), 3, [], true⟩])
 (.cond (.tmp 11) (.seq (.region 1 [
  ⟨(some 4), none, .mv (.const (.int .u64 0)), 0, [], true⟩])
 .ret) .skip))
 (.seq (.region 15 [
  ⟨(some 13), none, .mv (.tmp 0), 0, [], true⟩,
  ⟨(some 14), none, .nilCheck (.tmp 13), 1, [], true⟩,
  ⟨(some 15), none, .fieldAddr 0 (.tmp 14), 2, [], true⟩,
  ⟨(some 16), none, .load 1 false (.tmp 15), 3, [], true⟩,
  ⟨(some 17), none, .mv (.tmp 1), 4, [], true⟩,
  ⟨(some 18), none, .adSl 1 (.tmp 16) (.tmp 17), 5, [], true⟩,
  ⟨(some 19), none, .load 1 false (.tmp 18), 6, [], true⟩,
  ⟨(some 20), none, .call (.func 186) [(.tmp 19)], 7, [], true⟩,
  ⟨(some 12), none, .mv (.tmp 20), 8, [], true⟩,
  ⟨(some 21), none, .extract (.tmp 12) 0, 9, [], true⟩,
  ⟨(some 22), none, .extract (.tmp 12) 1, 10, [], true⟩,
  ⟨(some 23), none, .extract (.tmp 12) 2, 11, [], true⟩,
  ⟨(some 5), none, .mv (.tmp 21), 12, [], true⟩,
  ⟨(some 6), none, .mv (.tmp 22), 13, [], true⟩,
  ⟨(some 7), none, .mv (.tmp 23), 14, [], true⟩])
 (.seq (.region 2 [
  ⟨(some 24), none, .mv (.tmp 6), 0, [], true⟩,
  ⟨(some 4), none, .mv (.tmp 24), 1, [], true⟩])
 .ret))))⟩

def m174 : MFn := ⟨55, [(4, none)], (.seq (.region 2 [
  ⟨(some 3), none, .box 182 (.tmp 1), 0, [], true⟩,
  ⟨(some 4), none, .mv (.const (.int .i64 0)), 1, [], true⟩])
 (.seq (.block 0 (.seq (.region 3 [
  ⟨(some 8), none, .mv (.tmp 0), 0, [], true⟩,
  ⟨(some 9), none, .eq false .ptr (.tmp 8) (.const (.pointer none)), 1, [], true⟩,
  ⟨(some 7), none, .mv (.tmp 9), 2, [], true⟩])
 (.cond (.tmp 7) (.seq (.region 1 [
  ⟨(some 4), none, .mv (.const (.int .i64 1)), 0, [], true⟩])
 .ret) (.seq (.region 14 [
  ⟨(some 11), none, .fieldAddr 0 (.tmp 3), 0, [], true⟩,
  ⟨(some 12), none, .load 1 false (.tmp 11), 1, [], true⟩,
  ⟨(some 13), none, .bin .lss (.tmp 12) (.const (.int .i64 0)), 2, [], true⟩,
  ⟨(some 14), none, .mv (.tmp 13), 3, [], true⟩,
  ⟨(some 15), (some (14, false)), .fieldAddr 0 (.tmp 3), 4, [], true⟩,
  ⟨(some 16), (some (14, false)), .load 1 false (.tmp 15), 5, [], true⟩,
  ⟨(some 17), (some (14, false)), .bin .geq (.tmp 16) (.const (.int .i64 12)), 6, [], true⟩,
  ⟨(some 18), none, .pick (.tmp 14) (.const (.bool true)) (.tmp 17), 7, [], true⟩,
  ⟨(some 19), none, .mv (.tmp 18), 8, [], true⟩,
  ⟨(some 20), (some (19, false)), .fieldAddr 2 (.tmp 3), 9, [], true⟩,
  ⟨(some 21), (some (19, false)), .load 1 false (.tmp 20), 10, [], true⟩,
  ⟨(some 22), (some (19, false)), .bin .gtr (.tmp 21) (.const (.int .u64 1099511627776)), 11, [], true⟩,
  ⟨(some 23), none, .pick (.tmp 19) (.const (.bool true)) (.tmp 22), 12, [], true⟩,
  ⟨(some 10), none, .mv (.tmp 23), 13, [], true⟩])
 (.cond (.tmp 10) (.seq (.region 1 [
  ⟨(some 4), none, .mv (.const (.int .i64 2)), 0, [], true⟩])
 .ret) (.seq (.region 5 [
  ⟨(some 25), none, .fieldAddr 1 (.tmp 3), 0, [], true⟩,
  ⟨(some 26), none, .load 1 false (.tmp 25), 1, [], true⟩,
  ⟨(some 27), none, .call (.func 89) [(.tmp 26)], 2, [], true⟩,
  ⟨(some 28), none, .un .not (.tmp 27), 3, [], true⟩,
  ⟨(some 24), none, .mv (.tmp 28), 4, [], true⟩])
 (.cond (.tmp 24) (.seq (.region 1 [
  ⟨(some 4), none, .mv (.const (.int .i64 3)), 0, [], true⟩])
 .ret) .skip)))))))
 (.seq (.seq (.region 10 [
  ⟨(some 30), none, .mv (.tmp 0), 0, [], true⟩,
  ⟨(some 31), none, .fieldAddr 0 (.tmp 3), 1, [], true⟩,
  ⟨(some 32), none, .load 1 false (.tmp 31), 2, [], true⟩,
  ⟨(some 33), none, .call (.func 218) [(.tmp 30), (.tmp 32)], 3, [], true⟩,
  ⟨(some 29), none, .mv (.tmp 33), 4, [], true⟩,
  ⟨(some 34), none, .extract (.tmp 29) 0, 5, [], true⟩,
  ⟨(some 35), none, .extract (.tmp 29) 1, 6, [], true⟩,
  ⟨(some 5), none, .alloc [(.int .i64 0), (.int .u64 0), (.int .u64 0)] 182, 7, [], true⟩,
  ⟨none, none, .store 3 (.tmp 5) (.tmp 34), 8, [], true⟩,
  ⟨(some 6), none, .mv (.tmp 35), 9, [], true⟩])
 (.seq (.region 1 [
  ⟨(some 36), none, .mv (.tmp 6), 0, [], true⟩])
 (.cond (.tmp 36) (.seq (.region 1 [
  ⟨(some 4), none, .mv (.const (.int .i64 0)), 0, [], true⟩])
 .ret) .skip)))
 (.seq (.seq (.region 6 [
  ⟨(some 37), none, .mv (.tmp 0), 0, [], true⟩,
  ⟨(some 38), none, .nilCheck (.tmp 37), 1, [], true⟩,
  ⟨(some 39), none, .fieldAddr 0 (.tmp 38), 2, [], true⟩,
  ⟨(some 40), none, .load 1 false (.tmp 39), 3, [], true⟩,
  ⟨(some 41), none, .len false (.tmp 40), 4, [], true⟩,
  ⟨(some 42), none, .bin .geq (.tmp 41) (.const (.int .i64 8)), 5, [], true⟩])
 (.cond (.tmp 42) (.seq (.region 1 [
  ⟨(some 4), none, .mv (.const (.int .i64 4)), 0, [], true⟩])
 .ret) .skip))
 (.seq (.region 13 [
  ⟨(some 43), none, .mv (.tmp 0), 0, [], true⟩,
  ⟨(some 44), none, .buildSl 182 3 0 [] [], 1, [], false⟩,
  ⟨(some 45), none, .mv (.tmp 0), 2, [], false⟩,
  ⟨(some 46), none, .nilCheck (.tmp 45), 3, [], false⟩,
  ⟨(some 47), none, .fieldAddr 0 (.tmp 46), 4, [], false⟩,
  ⟨(some 48), none, .load 1 false (.tmp 47), 5, [], false⟩,
  ⟨(some 50), none, .load 3 true (.tmp 3), 7, [], false⟩,
  ⟨(some 51), none, .buildSl 182 3 1 [(.int .i64 0), (.int .u64 0), (.int .u64 0)] [(0, 3, (.tmp 50))], 8, [], false⟩,
  ⟨(some 49), none, .append 182 3 24 (.tmp 44) (.tmp 48), 6, [(false, none, none, 7, .load 3 true (.tmp 3)), (true, none, none, 8, .buildSl 182 3 1 [(.int .i64 0), (.int .u64 0), (.int .u64 0)] [(0, 3, (.tmp 50))])], false⟩,
  ⟨(some 52), none, .append 182 3 24 (.tmp 49) (.tmp 51), 9, [], false⟩,
  ⟨(some 53), none, .nilCheck (.tmp 43), 10, [], true⟩,
  ⟨(some 54), none, .fieldAddr 0 (.tmp 53), 11, [], true⟩,
  ⟨none, none, .store 1 (.tmp 54) (.tmp 52), 12, [], true⟩])
 (.seq (.region 1 [
  ⟨(some 4), none, .mv (.const (.int .i64 0)), 0, [], true⟩])
 .ret))))))⟩

def m175 : MFn := ⟨23, [(4, (some (7, true)))], (.seq (.region 1 [
  ⟨(some 4), none, .alloc [(.bool false), (.int .u64 0), (.bool false), (.int .i64 0), (.bool false), (.int .u8 0), (.int .i64 0)] 70, 0, [], true⟩])
 (.seq (.region 12 [
  ⟨(some 5), none, .mv (.tmp 0), 0, [], true⟩,
  ⟨(some 6), none, .mv (.tmp 0), 1, [], true⟩,
  ⟨(some 7), none, .mv (.tmp 1), 2, [], true⟩,
  ⟨(some 8), none, .nilCheck (.tmp 6), 3, [], true⟩,
  ⟨(some 9), none, .fieldAddr 2 (.tmp 8), 4, [], true⟩,
  ⟨(some 10), none, .adArr 4 1 (.tmp 9) (.tmp 7), 5, [], true⟩,
  ⟨(some 11), none, .load 1 false (.tmp 10), 6, [], true⟩,
  ⟨(some 12), none, .nilCheck (.tmp 11), 7, [], true⟩,
  ⟨(some 13), none, .fieldAddr 0 (.tmp 12), 8, [], true⟩,
  ⟨(some 14), none, .load 1 false (.tmp 13), 9, [], true⟩,
  ⟨(some 15), none, .build [(.int .u8 0), (.int .i64 0), (.int .i64 0), (.int .u64 0)] [(0, 1, (.const (.int .u8 8))), (1, 1, (.tmp 14))], 10, [], true⟩,
  ⟨(some 16), none, .call (.func 124) [(.tmp 5), (.tmp 15)], 11, [], true⟩])
 (.seq (.region 6 [
  ⟨(some 17), none, .mv (.tmp 0), 0, [], true⟩,
  ⟨(some 18), none, .mv (.tmp 1), 1, [], true⟩,
  ⟨(some 19), none, .nilCheck (.tmp 17), 2, [], true⟩,
  ⟨(some 20), none, .fieldAddr 2 (.tmp 19), 3, [], true⟩,
  ⟨(some 21), none, .adArr 4 1 (.tmp 20) (.tmp 18), 4, [], true⟩,
  ⟨none, none, .store 1 (.tmp 21) (.const (.pointer none)), 5, [], true⟩])
 (.seq (.region 2 [
  ⟨(some 22), none, .build [(.bool false), (.int .u64 0), (.bool false), (.int .i64 0), (.bool false), (.int .u8 0), (.int .i64 0)] [(0, 1, (.const (.bool true))), (4, 1, (.const (.bool true)))], 0, [], true⟩,
  ⟨none, none, .store 7 (.tmp 4) (.tmp 22), 1, [], true⟩])
 .ret))))⟩

def m176 : MFn := ⟨87, [(8, (some (7, true)))], (.seq (.region 1 [
  ⟨(some 8), none, .alloc [(.bool false), (.int .u64 0), (.bool false), (.int .i64 0), (.bool false), (.int .u8 0), (.int .i64 0)] 70, 0, [], true⟩])
 (.seq (.seq (.region 1 [
  ⟨(some 9), none, .mv (.const (.int .i64 0)), 0, [], true⟩])
 (.block 0 (.loop (.seq (.seq (.region 4 [
  ⟨(some 16), none, .mv (.tmp 9), 0, [], true⟩,
  ⟨(some 17), none, .mv (.tmp 3), 1, [], true⟩,
  ⟨(some 18), none, .len false (.tmp 17), 2, [], true⟩,
  ⟨(some 19), none, .bin .lss (.tmp 16) (.tmp 18), 3, [], true⟩])
 (.cond (.tmp 19) .skip (.exit 0)))
 (.seq (.block 1 (.seq (.region 14 [
  ⟨(some 23), none, .mv (.tmp 0), 0, [], true⟩,
  ⟨(some 24), none, .nilCheck (.tmp 23), 1, [], true⟩,
  ⟨(some 25), none, .fieldAddr 1 (.tmp 24), 2, [], true⟩,
  ⟨(some 26), none, .load 1 false (.tmp 25), 3, [], true⟩,
  ⟨(some 27), none, .mv (.tmp 3), 4, [], false⟩,
  ⟨(some 28), none, .mv (.tmp 9), 5, [], false⟩,
  ⟨(some 29), none, .adSl 1 (.tmp 27) (.tmp 28), 6, [], false⟩,
  ⟨(some 30), none, .load 1 false (.tmp 29), 7, [], false⟩,
  ⟨(some 31), none, .call (.func 185) [(.tmp 26), (.tmp 30)], 8, [], true⟩,
  ⟨(some 22), none, .mv (.tmp 31), 9, [], true⟩,
  ⟨(some 32), none, .extract (.tmp 22) 0, 10, [], true⟩,
  ⟨(some 33), none, .extract (.tmp 22) 1, 11, [], false⟩,
  ⟨(some 10), none, .mv (.tmp 32), 12, [], false⟩,
  ⟨(some 11), none, .mv (.tmp 33), 13, [], true⟩])
 (.seq (.seq (.region 6 [
  ⟨(some 34), none, .mv (.tmp 11), 0, [], true⟩,
  ⟨(some 35), none, .mv (.tmp 34), 1, [], true⟩,
  ⟨(some 36), (some (35, true)), .mv (.tmp 10), 2, [], true⟩,
  ⟨(some 37), (some (35, true)), .mv (.tmp 1), 3, [], true⟩,
  ⟨(some 38), (some (35, true)), .bin .eql (.tmp 36) (.tmp 37), 4, [], true⟩,
  ⟨(some 39), none, .pick (.tmp 35) (.tmp 38) (.const (.bool false)), 5, [], true⟩])
 (.cond (.tmp 39) (.exit 1) .skip))
 (.seq (.seq (.region 13 [
  ⟨(some 41), none, .mv (.tmp 0), 0, [], true⟩,
  ⟨(some 42), none, .mv (.tmp 1), 1, [], true⟩,
  ⟨(some 43), none, .mv (.tmp 3), 2, [], true⟩,
  ⟨(some 44), none, .mv (.tmp 9), 3, [], true⟩,
  ⟨(some 45), none, .adSl 1 (.tmp 43) (.tmp 44), 4, [], true⟩,
  ⟨(some 46), none, .load 1 false (.tmp 45), 5, [], true⟩,
  ⟨(some 47), none, .call (.func 172) [(.tmp 41), (.tmp 42), (.tmp 46)], 6, [], true⟩,
  ⟨(some 40), none, .mv (.tmp 47), 7, [], true⟩,
  ⟨(some 48), none, .extract (.tmp 40) 0, 8, [], true⟩,
  ⟨(some 49), none, .extract (.tmp 40) 1, 9, [], true⟩,
  ⟨(some 12), none, .alloc [(.bool false), (.int .u64 0), (.bool false), (.int .i64 0), (.bool false), (.int .u8 0), (.int .i64 0)] 70, 10, [], true⟩,
  ⟨none, none, .store 7 (.tmp 12) (.tmp 48), 11, [], true⟩,
  ⟨(some 13), none, .mv (.tmp 49), 12, [], true⟩])
 (.seq (.region 1 [
  ⟨(some 50), none, .mv (.tmp 13), 0, [], true⟩])
 (.cond (.tmp 50) (.seq (.region 2 [
  ⟨(some 51), none, .load 7 true (.tmp 12), 0, [], true⟩,
  ⟨none, none, .store 7 (.tmp 8) (.tmp 51), 1, [], true⟩])
 .ret) .skip)))
 (.seq (.region 10 [
  ⟨(some 52), none, .mv (.tmp 0), 0, [], true⟩,
  ⟨(some 53), none, .nilCheck (.tmp 52), 1, [], true⟩,
  ⟨(some 54), none, .fieldAddr 1 (.tmp 53), 2, [], true⟩,
  ⟨(some 55), none, .load 1 false (.tmp 54), 3, [], true⟩,
  ⟨(some 56), none, .mv (.tmp 1), 4, [], false⟩,
  ⟨(some 57), none, .mv (.tmp 3), 5, [], false⟩,
  ⟨(some 58), none, .mv (.tmp 9), 6, [], false⟩,
  ⟨(some 59), none, .adSl 1 (.tmp 57) (.tmp 58), 7, [], false⟩,
  ⟨(some 60), none, .load 1 false (.tmp 59), 8, [], false⟩,
  ⟨(some 61), none, .call (.func 219) [(.tmp 55), (.tmp 56), (.tmp 60)], 9, [], true⟩])
 (.seq (.region 2 [
  ⟨(some 62), none, .build [(.bool false), (.int .u64 0), (.bool false), (.int .i64 0), (.bool false), (.int .u8 0), (.int .i64 0)] [], 0, [], true⟩,
  ⟨none, none, .store 7 (.tmp 8) (.tmp 62), 1, [], true⟩])
 .ret))))))
 (.region 3 [
  ⟨(some 20), none, .mv (.tmp 9), 0, [], true⟩,
  ⟨(some 21), none, .bin .add (.tmp 20) (.const (.int .i64 1)), 1, [], true⟩,
  ⟨(some 9), none, .mv (.tmp 21), 2, [], true⟩]))))))
 (.seq (.region 10 [
  ⟨(some 64), none, .mv (.tmp 0), 0, [], true⟩,
  ⟨(some 65), none, .nilCheck (.tmp 64), 1, [], true⟩,
  ⟨(some 66), none, .fieldAddr 1 (.tmp 65), 2, [], true⟩,
  ⟨(some 67), none, .load 1 false (.tmp 66), 3, [], true⟩,
  ⟨(some 68), none, .call (.func 220) [(.tmp 67)], 4, [], true⟩,
  ⟨(some 63), none, .mv (.tmp 68), 5, [], true⟩,
  ⟨(some 69), none, .extract (.tmp 63) 0, 6, [], true⟩,
  ⟨(some 70), none, .extract (.tmp 63) 1, 7, [], true⟩,
  ⟨(some 14), none, .mv (.tmp 69), 8, [], true⟩,
  ⟨(some 15), none, .mv (.tmp 70), 9, [], true⟩])
 (.seq (.seq (.region 2 [
  ⟨(some 71), none, .mv (.tmp 15), 0, [], true⟩,
  ⟨(some 72), none, .bin .neq (.tmp 71) (.const (.int .i64 0)), 1, [], true⟩])
 (.cond (.tmp 72) (.seq (.region 4 [
  ⟨(some 73), none, .mv (.tmp 0), 0, [], true⟩,
  ⟨(some 74), none, .mv (.tmp 1), 1, [], true⟩,
  ⟨(some 75), none, .call (.func 126) [(.tmp 73), (.tmp 74), (.const (.int .u8 2))], 2, [], true⟩,
  ⟨none, none, .store 7 (.tmp 8) (.tmp 75), 3, [], true⟩])
 .ret) .skip))
 (.seq (.region 13 [
  ⟨(some 76), none, .mv (.tmp 2), 0, [], true⟩,
  ⟨(some 77), none, .mv (.tmp 2), 1, [], true⟩,
  ⟨(some 78), none, .mv (.tmp 2), 2, [], true⟩,
  ⟨(some 79), none, .mv (.tmp 14), 3, [], true⟩,
  ⟨(some 80), none, .nilCheck (.tmp 76), 4, [], true⟩,
  ⟨(some 81), none, .fieldAddr 2 (.tmp 80), 5, [], true⟩,
  ⟨none, none, .store 1 (.tmp 81) (.tmp 79), 6, [], true⟩,
  ⟨(some 82), none, .nilCheck (.tmp 77), 7, [], true⟩,
  ⟨(some 83), none, .fieldAddr 9 (.tmp 82), 8, [], true⟩,
  ⟨none, none, .store 1 (.tmp 83) (.const (.int .i64 2)), 9, [], true⟩,
  ⟨(some 84), none, .nilCheck (.tmp 78), 10, [], true⟩,
  ⟨(some 85), none, .fieldAddr 10 (.tmp 84), 11, [], true⟩,
  ⟨none, none, .store 1 (.tmp 85) (.const (.int .i64 0)), 12, [], true⟩])
 (.seq (.region 2 [
  ⟨(some 86), none, .build [(.bool false), (.int .u64 0), (.bool false), (.int .i64 0), (.bool false), (.int .u8 0), (.int .i64 0)] [], 0, [], true⟩,
  ⟨none, none, .store 7 (.tmp 8) (.tmp 86), 1, [], true⟩])
 .ret))))))⟩

def m177 : MFn := ⟨38, [(4, none)], (.seq (.region 1 [
  ⟨(some 4), none, .mv (.const (.slice none 0 0)), 0, [], true⟩])
 (.seq (.region 1 [
  ⟨(some 5), none, .mv (.const (.slice none 0 0)), 0, [], true⟩])
 (.seq (.seq (.region 1 [
  ⟨(some 6), none, .mv (.const (.int .i64 0)), 0, [], true⟩])
 (.block 0 (.loop (.seq (.seq (.region 4 [
  ⟨(some 9), none, .mv (.tmp 0), 0, [], true⟩,
  ⟨(some 10), none, .mv (.tmp 6), 1, [], true⟩,
  ⟨(some 11), none, .call (.func 184) [(.tmp 9), (.tmp 10)], 2, [], true⟩,
  ⟨(some 12), none, .bin .eql (.tmp 11) (.const (.int .i64 0)), 3, [], true⟩])
 (.cond (.tmp 12) .skip (.exit 0)))
 (.seq (.block 1 (.seq (.region 1 [
  ⟨(some 7), none, .mv (.const (.bool false)), 0, [], true⟩])
 (.seq (.seq (.region 1 [
  ⟨(some 8), none, .mv (.const (.int .i64 0)), 0, [], true⟩])
 (.block 2 (.loop (.seq (.seq (.region 4 [
  ⟨(some 15), none, .mv (.tmp 8), 0, [], true⟩,
  ⟨(some 16), none, .mv (.tmp 1), 1, [], true⟩,
  ⟨(some 17), none, .len false (.tmp 16), 2, [], true⟩,
  ⟨(some 18), none, .bin .lss (.tmp 15) (.tmp 17), 3, [], true⟩])
 (.cond (.tmp 18) .skip (.exit 2)))
 (.seq (.block 3 (.region 12 [
  ⟨(some 21), none, .mv (.tmp 7), 0, [], true⟩,
  ⟨(some 22), none, .mv (.tmp 21), 1, [], true⟩,
  ⟨(some 23), (some (22, false)), .mv (.tmp 0), 2, [], true⟩,
  ⟨(some 24), (some (22, false)), .mv (.tmp 1), 3, [], true⟩,
  ⟨(some 25), (some (22, false)), .mv (.tmp 8), 4, [], true⟩,
  ⟨(some 26), (some (22, false)), .adSl 1 (.tmp 24) (.tmp 25), 5, [], true⟩,
  ⟨(some 27), (some (22, false)), .load 1 false (.tmp 26), 6, [], true⟩,
  ⟨(some 28), (some (22, false)), .call (.func 135) [(.tmp 23), (.tmp 27)], 7, [], true⟩,
  ⟨(some 29), (some (22, false)), .mv (.tmp 6), 8, [], true⟩,
  ⟨(some 30), (some (22, false)), .bin .eql (.tmp 28) (.tmp 29), 9, [], true⟩,
  ⟨(some 31), none, .pick (.tmp 22) (.const (.bool true)) (.tmp 30), 10, [], true⟩,
  ⟨(some 7), none, .mv (.tmp 31), 11, [], true⟩]))
 (.region 3 [
  ⟨(some 19), none, .mv (.tmp 8), 0, [], true⟩,
  ⟨(some 20), none, .bin .add (.tmp 19) (.const (.int .i64 1)), 1, [], true⟩,
  ⟨(some 8), none, .mv (.tmp 20), 2, [], true⟩]))))))
 (.seq (.region 1 [
  ⟨(some 32), none, .mv (.tmp 7), 0, [], true⟩])
 (.cond (.tmp 32) (.region 5 [
  ⟨(some 33), none, .mv (.tmp 5), 0, [], true⟩,
  ⟨(some 34), none, .mv (.tmp 6), 1, [], true⟩,
  ⟨(some 35), none, .buildSl 3 1 1 [(.int .i64 0)] [(0, 1, (.tmp 34))], 2, [], true⟩,
  ⟨(some 36), none, .append 3 1 8 (.tmp 33) (.tmp 35), 3, [], true⟩,
  ⟨(some 5), none, .mv (.tmp 36), 4, [], true⟩]) .skip)))))
 (.region 3 [
  ⟨(some 13), none, .mv (.tmp 6), 0, [], true⟩,
  ⟨(some 14), none, .bin .add (.tmp 13) (.const (.int .i64 1)), 1, [], true⟩,
  ⟨(some 6), none, .mv (.tmp 14), 2, [], true⟩]))))))
 (.seq (.region 2 [
  ⟨(some 37), none, .mv (.tmp 5), 0, [], true⟩,
  ⟨(some 4), none, .mv (.tmp 37), 1, [], true⟩])
 .ret))))⟩

def m178 : MFn := ⟨20, [(2, none)], (.seq (.region 1 [
  ⟨(some 2), none, .mv (.const (.slice none 0 0)), 0, [], true⟩])
 (.seq (.region 1 [
  ⟨(some 3), none, .mv (.const (.slice none 0 0)), 0, [], true⟩])
 (.seq (.seq (.region 1 [
  ⟨(some 4), none, .mv (.const (.int .i64 0)), 0, [], true⟩])
 (.block 0 (.loop (.seq (.seq (.region 4 [
  ⟨(some 5), none, .mv (.tmp 4), 0, [], true⟩,
  ⟨(some 6), none, .mv (.tmp 0), 1, [], true⟩,
  ⟨(some 7), none, .len false (.tmp 6), 2, [], true⟩,
  ⟨(some 8), none, .bin .lss (.tmp 5) (.tmp 7), 3, [], true⟩])
 (.cond (.tmp 8) .skip (.exit 0)))
 (.seq (.block 1 (.region 9 [
  ⟨(some 11), none, .mv (.tmp 3), 0, [], true⟩,
  ⟨(some 12), none, .mv (.tmp 0), 1, [], true⟩,
  ⟨(some 13), none, .mv (.tmp 4), 2, [], true⟩,
  ⟨(some 14), none, .adSl 2 (.tmp 12) (.tmp 13), 3, [], true⟩,
  ⟨(some 15), none, .fieldAddr 0 (.tmp 14), 4, [], true⟩,
  ⟨(some 16), none, .load 1 false (.tmp 15), 5, [], true⟩,
  ⟨(some 17), none, .buildSl 3 1 1 [(.int .i64 0)] [(0, 1, (.tmp 16))], 6, [], true⟩,
  ⟨(some 18), none, .append 3 1 8 (.tmp 11) (.tmp 17), 7, [], true⟩,
  ⟨(some 3), none, .mv (.tmp 18), 8, [], true⟩]))
 (.region 3 [
  ⟨(some 9), none, .mv (.tmp 4), 0, [], true⟩,
  ⟨(some 10), none, .bin .add (.tmp 9) (.const (.int .i64 1)), 1, [], true⟩,
  ⟨(some 4), none, .mv (.tmp 10), 2, [], true⟩]))))))
 (.seq (.region 2 [
  ⟨(some 19), none, .mv (.tmp 3), 0, [], true⟩,
  ⟨(some 2), none, .mv (.tmp 19), 1, [], true⟩])
 .ret))))⟩

def m179 : MFn := ⟨47, [(8, none)], (.seq (.region 1 [
  ⟨(some 8), none, .mv (.const (.int .i64 0)), 0, [], true⟩])
 (.seq (.seq (.region 4 [
  ⟨(some 12), none, .mv (.tmp 0), 0, [], true⟩,
  ⟨(some 13), none, .mv (.tmp 2), 1, [], true⟩,
  ⟨(some 14), none, .call (.func 184) [(.tmp 12), (.tmp 13)], 2, [], true⟩,
  ⟨(some 9), none, .mv (.tmp 14), 3, [], true⟩])
 (.seq (.region 2 [
  ⟨(some 15), none, .mv (.tmp 9), 0, [], true⟩,
  ⟨(some 16), none, .bin .neq (.tmp 15) (.const (.int .i64 0)), 1, [], true⟩])
 (.cond (.tmp 16) (.seq (.region 2 [
  ⟨(some 17), none, .mv (.tmp 9), 0, [], true⟩,
  ⟨(some 8), none, .mv (.tmp 17), 1, [], true⟩])
 .ret) .skip)))
 (.seq (.seq (.region 6 [
  ⟨(some 18), none, .mv (.tmp 3), 0, [], true⟩,
  ⟨(some 19), none, .mv (.tmp 0), 1, [], true⟩,
  ⟨(some 20), none, .nilCheck (.tmp 19), 2, [], true⟩,
  ⟨(some 21), none, .fieldAddr 1 (.tmp 20), 3, [], true⟩,
  ⟨(some 22), none, .load 1 false (.tmp 21), 4, [], true⟩,
  ⟨(some 23), none, .bin .gtr (.tmp 18) (.tmp 22), 5, [], true⟩])
 (.cond (.tmp 23) (.seq (.region 1 [
  ⟨(some 8), none, .mv (.const (.int .i64 2)), 0, [], true⟩])
 .ret) .skip))
 (.seq (.region 15 [
  ⟨(some 25), none, .mv (.tmp 0), 0, [], true⟩,
  ⟨(some 26), none, .nilCheck (.tmp 25), 1, [], true⟩,
  ⟨(some 27), none, .fieldAddr 0 (.tmp 26), 2, [], true⟩,
  ⟨(some 28), none, .load 1 false (.tmp 27), 3, [], true⟩,
  ⟨(some 29), none, .mv (.tmp 2), 4, [], true⟩,
  ⟨(some 30), none, .adSl 1 (.tmp 28) (.tmp 29), 5, [], true⟩,
  ⟨(some 31), none, .load 1 false (.tmp 30), 6, [], true⟩,
  ⟨(some 32), none, .mv (.tmp 1), 7, [], true⟩,
  ⟨(some 33), none, .mv (.tmp 3), 8, [], true⟩,
  ⟨(some 34), none, .call (.func 221) [(.tmp 31), (.tmp 32), (.tmp 33)], 9, [], true⟩,
  ⟨(some 24), none, .mv (.tmp 34), 10, [], true⟩,
  ⟨(some 35), none, .extract (.tmp 24) 0, 11, [], true⟩,
  ⟨(some 36), none, .extract (.tmp 24) 1, 12, [], true⟩,
  ⟨(some 10), none, .mv (.tmp 35), 13, [], true⟩,
  ⟨(some 11), none, .mv (.tmp 36), 14, [], true⟩])
 (.seq (.seq (.region 2 [
  ⟨(some 37), none, .mv (.tmp 11), 0, [], true⟩,
  ⟨(some 38), none, .bin .eql (.tmp 37) (.const (.int .i64 0)), 1, [], true⟩])
 (.cond (.tmp 38) (.region 8 [
  ⟨(some 39), none, .mv (.tmp 0), 0, [], true⟩,
  ⟨(some 40), none, .nilCheck (.tmp 39), 1, [], true⟩,
  ⟨(some 41), none, .fieldAddr 0 (.tmp 40), 2, [], true⟩,
  ⟨(some 42), none, .load 1 false (.tmp 41), 3, [], true⟩,
  ⟨(some 43), none, .mv (.tmp 2), 4, [], true⟩,
  ⟨(some 44), none, .mv (.tmp 10), 5, [], true⟩,
  ⟨(some 45), none, .adSl 1 (.tmp 42) (.tmp 43), 6, [], true⟩,
  ⟨none, none, .store 1 (.tmp 45) (.tmp 44), 7, [], true⟩]) .skip))
 (.seq (.region 2 [
  ⟨(some 46), none, .mv (.tmp 11), 0, [], true⟩,
  ⟨(some 8), none, .mv (.tmp 46), 1, [], true⟩])
 .ret))))))⟩

def m180 : MFn := ⟨22, [(2, none)], (.seq (.region 1 [
  ⟨(some 2), none, .mv (.const (.int .i64 0)), 0, [], true⟩])
 (.seq (.block 0 (.seq (.region 3 [
  ⟨(some 4), none, .mv (.tmp 0), 0, [], true⟩,
  ⟨(some 5), none, .eq false .ptr (.tmp 4) (.const (.pointer none)), 1, [], true⟩,
  ⟨(some 3), none, .mv (.tmp 5), 2, [], true⟩])
 (.cond (.tmp 3) (.seq (.region 1 [
  ⟨(some 2), none, .mv (.const (.int .i64 1)), 0, [], true⟩])
 .ret) (.seq (.region 4 [
  ⟨(some 7), none, .mv (.tmp 0), 0, [], true⟩,
  ⟨(some 8), none, .call (.func 168) [(.tmp 7)], 1, [], true⟩,
  ⟨(some 9), none, .bin .geq (.tmp 8) (.const (.int .i64 4)), 2, [], true⟩,
  ⟨(some 6), none, .mv (.tmp 9), 3, [], true⟩])
 (.cond (.tmp 6) (.seq (.region 1 [
  ⟨(some 2), none, .mv (.const (.int .i64 4)), 0, [], true⟩])
 .ret) .skip)))))
 (.seq (.region 13 [
  ⟨(some 10), none, .mv (.tmp 0), 0, [], true⟩,
  ⟨(some 11), none, .buildSl 232 24 0 [] [], 1, [], true⟩,
  ⟨(some 12), none, .mv (.tmp 0), 2, [], true⟩,
  ⟨(some 13), none, .nilCheck (.tmp 12), 3, [], true⟩,
  ⟨(some 14), none, .fieldAddr 0 (.tmp 13), 4, [], true⟩,
  ⟨(some 15), none, .load 1 false (.tmp 14), 5, [], true⟩,
  ⟨(some 16), none, .append 232 24 112 (.tmp 11) (.tmp 15), 6, [], true⟩,
  ⟨(some 17), none, .build [(.bool false), (.bool false), (.bool false), (.bool false), (.bool false), (.bool false), (.bool false), (.bool false), (.bool false), (.bool false), (.bool false), (.bool false), (.int .u64 0), (.int .u64 0), (.int .u64 0), (.int .u64 0), (.int .u64 0), (.int .u64 0), (.int .u64 0), (.int .u64 0), (.int .u64 0), (.int .u64 0), (.int .u64 0), (.int .u64 0)] [], 7, [], true⟩,
  ⟨(some 18), none, .buildSl 232 24 1 [(.bool false), (.bool false), (.bool false), (.bool false), (.bool false), (.bool false), (.bool false), (.bool false), (.bool false), (.bool false), (.bool false), (.bool false), (.int .u64 0), (.int .u64 0), (.int .u64 0), (.int .u64 0), (.int .u64 0), (.int .u64 0), (.int .u64 0), (.int .u64 0), (.int .u64 0), (.int .u64 0), (.int .u64 0), (.int .u64 0)] [(0, 24, (.tmp 17))], 8, [], true⟩,
  ⟨(some 19), none, .append 232 24 112 (.tmp 16) (.tmp 18), 9, [], true⟩,
  ⟨(some 20), none, .nilCheck (.tmp 10), 10, [], true⟩,
  ⟨(some 21), none, .fieldAddr 0 (.tmp 20), 11, [], true⟩,
  ⟨none, none, .store 1 (.tmp 21) (.tmp 19), 12, [], true⟩])
 (.seq (.region 1 [
  ⟨(some 2), none, .mv (.const (.int .i64 0)), 0, [], true⟩])
 .ret))))⟩

def m181 : MFn := ⟨26, [(2, none)], (.seq (.region 1 [
  ⟨(some 2), none, .mv (.const (.int .i64 0)), 0, [], true⟩])
 (.seq (.block 0 (.seq (.region 3 [
  ⟨(some 4), none, .mv (.tmp 0), 0, [], true⟩,
  ⟨(some 5), none, .eq false .ptr (.tmp 4) (.const (.pointer none)), 1, [], true⟩,
  ⟨(some 3), none, .mv (.tmp 5), 2, [], true⟩])
 (.cond (.tmp 3) (.seq (.region 1 [
  ⟨(some 2), none, .mv (.const (.int .i64 1)), 0, [], true⟩])
 .ret) (.seq (.region 4 [
  ⟨(some 7), none, .mv (.tmp 0), 0, [], true⟩,
  ⟨(some 8), none, .call (.func 168) [(.tmp 7)], 1, [], true⟩,
  ⟨(some 9), none, .bin .eql (.tmp 8) (.const (.int .i64 0)), 2, [], true⟩,
  ⟨(some 6), none, .mv (.tmp 9), 3, [], true⟩])
 (.cond (.tmp 6) (.seq (.region 1 [
  ⟨(some 2), none, .mv (.const (.int .i64 8)), 0, [], true⟩])
 .ret) .skip)))))
 (.seq (.region 17 [
  ⟨(some 10), none, .mv (.tmp 0), 0, [], true⟩,
  ⟨(some 11), none, .buildSl 232 24 0 [] [], 1, [], false⟩,
  ⟨(some 12), none, .mv (.tmp 0), 2, [], false⟩,
  ⟨(some 13), none, .nilCheck (.tmp 12), 3, [], false⟩,
  ⟨(some 14), none, .fieldAddr 0 (.tmp 13), 4, [], false⟩,
  ⟨(some 15), none, .load 1 false (.tmp 14), 5, [], false⟩,
  ⟨(some 16), none, .mv (.tmp 0), 6, [], false⟩,
  ⟨(some 17), none, .nilCheck (.tmp 16), 7, [], false⟩,
  ⟨(some 18), none, .fieldAddr 0 (.tmp 17), 8, [], false⟩,
  ⟨(some 19), none, .load 1 false (.tmp 18), 9, [], false⟩,
  ⟨(some 20), none, .len false (.tmp 19), 10, [], false⟩,
  ⟨(some 21), none, .bin .sub (.tmp 20) (.const (.int .i64 1)), 11, [], false⟩,
  ⟨(some 22), none, .slSl 24 (.tmp 15) none (some (.tmp 21)) none, 12, [], false⟩,
  ⟨(some 23), none, .append 232 24 112 (.tmp 11) (.tmp 22), 13, [], false⟩,
  ⟨(some 24), none, .nilCheck (.tmp 10), 14, [], true⟩,
  ⟨(some 25), none, .fieldAddr 0 (.tmp 24), 15, [], true⟩,
  ⟨none, none, .store 1 (.tmp 25) (.tmp 23), 16, [], true⟩])
 (.seq (.region 1 [
  ⟨(some 2), none, .mv (.const (.int .i64 0)), 0, [], true⟩])
 .ret))))⟩

def m182 : MFn := ⟨60, [(2, none)], (.seq (.region 1 [
  ⟨(some 2), none, .mv (.const (.int .i64 0)), 0, [], true⟩])
 (.seq (.block 0 (.seq (.region 3 [
  ⟨(some 8), none, .mv (.tmp 0), 0, [], true⟩,
  ⟨(some 9), none, .eq false .ptr (.tmp 8) (.const (.pointer none)), 1, [], true⟩,
  ⟨(some 7), none, .mv (.tmp 9), 2, [], true⟩])
 (.cond (.tmp 7) (.seq (.region 1 [
  ⟨(some 2), none, .mv (.const (.int .i64 1)), 0, [], true⟩])
 .ret) (.seq (.region 4 [
  ⟨(some 11), none, .mv (.tmp 0), 0, [], true⟩,
  ⟨(some 12), none, .call (.func 168) [(.tmp 11)], 1, [], true⟩,
  ⟨(some 13), none, .bin .eql (.tmp 12) (.const (.int .i64 0)), 2, [], true⟩,
  ⟨(some 10), none, .mv (.tmp 13), 3, [], true⟩])
 (.cond (.tmp 10) (.seq (.region 1 [
  ⟨(some 2), none, .mv (.const (.int .i64 8)), 0, [], true⟩])
 .ret) .skip)))))
 (.seq (.region 6 [
  ⟨(some 14), none, .mv (.tmp 0), 0, [], true⟩,
  ⟨(some 15), none, .nilCheck (.tmp 14), 1, [], true⟩,
  ⟨(some 16), none, .fieldAddr 0 (.tmp 15), 2, [], true⟩,
  ⟨(some 17), none, .load 1 false (.tmp 16), 3, [], true⟩,
  ⟨(some 18), none, .len false (.tmp 17), 4, [], true⟩,
  ⟨(some 3), none, .mv (.tmp 18), 5, [], true⟩])
 (.seq (.region 20 [
  ⟨(some 19), none, .mv (.tmp 0), 0, [], true⟩,
  ⟨(some 20), none, .nilCheck (.tmp 19), 1, [], true⟩,
  ⟨(some 21), none, .fieldAddr 0 (.tmp 20), 2, [], true⟩,
  ⟨(some 22), none, .load 1 false (.tmp 21), 3, [], true⟩,
  ⟨(some 23), none, .mv (.tmp 3), 4, [], false⟩,
  ⟨(some 24), none, .bin .sub (.tmp 23) (.const (.int .i64 1)), 5, [], false⟩,
  ⟨(some 25), none, .adSl 24 (.tmp 22) (.tmp 24), 6, [], true⟩,
  ⟨(some 26), none, .load 24 true (.tmp 25), 7, [], true⟩,
  ⟨(some 27), none, .mv (.tmp 0), 8, [], false⟩,
  ⟨(some 28), none, .nilCheck (.tmp 27), 9, [], false⟩,
  ⟨(some 29), none, .fieldAddr 0 (.tmp 28), 10, [], false⟩,
  ⟨(some 30), none, .load 1 false (.tmp 29), 11, [], false⟩,
  ⟨(some 31), none, .mv (.tmp 3), 12, [], false⟩,
  ⟨(some 32), none, .bin .sub (.tmp 31) (.const (.int .i64 2)), 13, [], false⟩,
  ⟨(some 33), none, .adSl 24 (.tmp 30) (.tmp 32), 14, [], false⟩,
  ⟨(some 34), none, .load 24 true (.tmp 33), 15, [], false⟩,
  ⟨(some 4), none, .alloc [(.bool false), (.bool false), (.bool false), (.bool false), (.bool false), (.bool false), (.bool false), (.bool false), (.bool false), (.bool false), (.bool false), (.bool false), (.int .u64 0), (.int .u64 0), (.int .u64 0), (.int .u64 0), (.int .u64 0), (.int .u64 0), (.int .u64 0), (.int .u64 0), (.int .u64 0), (.int .u64 0), (.int .u64 0), (.int .u64 0)] 232, 16, [], false⟩,
  ⟨(some 5), none, .alloc [(.bool false), (.bool false), (.bool false), (.bool false), (.bool false), (.bool false), (.bool false), (.bool false), (.bool false), (.bool false), (.bool false), (.bool false), (.int .u64 0), (.int .u64 0), (.int .u64 0), (.int .u64 0), (.int .u64 0), (.int .u64 0), (.int .u64 0), (.int .u64 0), (.int .u64 0), (.int .u64 0), (.int .u64 0), (.int .u64 0)] 232, 17, [], false⟩,
  ⟨none, none, .store 24 (.tmp 4) (.tmp 26), 18, [(false, none, none, 11, .load 1 false (.tmp 29)), (false, none, none, 15, .load 24 true (.tmp 33))], false⟩,
  ⟨none, none, .store 24 (.tmp 5) (.tmp 34), 19, [], true⟩])
 (.seq (.seq (.region 1 [
  ⟨(some 6), none, .mv (.const (.int .i64 0)), 0, [], true⟩])
 (.block 1 (.loop (.seq (.seq (.region 2 [
  ⟨(some 35), none, .mv (.tmp 6), 0, [], true⟩,
  ⟨(some 36), none, .bin .lss (.tmp 35) (.const (.int .i64 12)), 1, [], true⟩])
 (.cond (.tmp 36) .skip (.exit 1)))
 (.seq (.block 2 (.seq (.region 4 [
  ⟨(some 39), none, .mv (.tmp 6), 0, [], true⟩,
  ⟨(some 40), none, .fieldAddr 0 (.tmp 4), 1, [], true⟩,
  ⟨(some 41), none, .adArr 12 1 (.tmp 40) (.tmp 39), 2, [], true⟩,
  ⟨(some 42), none, .load 1 false (.tmp 41), 3, [], true⟩])
 (.cond (.tmp 42) (.region 12 [
  ⟨(some 43), none, .mv (.tmp 6), 0, [], true⟩,
  ⟨(some 44), none, .mv (.tmp 6), 1, [], false⟩,
  ⟨(some 45), none, .mv (.tmp 6), 2, [], false⟩,
  ⟨(some 46), none, .fieldAddr 12 (.tmp 4), 3, [], false⟩,
  ⟨(some 47), none, .adArr 12 1 (.tmp 46) (.tmp 45), 4, [], false⟩,
  ⟨(some 48), none, .load 1 false (.tmp 47), 5, [], false⟩,
  ⟨(some 49), none, .fieldAddr 0 (.tmp 5), 6, [], false⟩,
  ⟨(some 50), none, .adArr 12 1 (.tmp 49) (.tmp 43), 7, [], false⟩,
  ⟨(some 51), none, .fieldAddr 12 (.tmp 5), 9, [], false⟩,
  ⟨none, none, .store 1 (.tmp 50) (.const (.bool true)), 8, [(false, none, none, 5, .load 1 false (.tmp 47))], false⟩,
  ⟨(some 52), none, .adArr 12 1 (.tmp 51) (.tmp 44), 10, [], true⟩,
  ⟨none, none, .store 1 (.tmp 52) (.tmp 48), 11, [], true⟩]) .skip)))
 (.region 3 [
  ⟨(some 37), none, .mv (.tmp 6), 0, [], true⟩,
  ⟨(some 38), none, .bin .add (.tmp 37) (.const (.int .i64 1)), 1, [], true⟩,
  ⟨(some 6), none, .mv (.tmp 38), 2, [], true⟩]))))))
 (.seq (.region 2 [
  ⟨(some 53), none, .mv (.tmp 0), 0, [], true⟩,
  ⟨(some 54), none, .call (.func 181) [(.tmp 53)], 1, [], true⟩])
 (.seq (.region 5 [
  ⟨(some 55), none, .mv (.tmp 0), 0, [], true⟩,
  ⟨(some 56), none, .mv (.tmp 3), 1, [], true⟩,
  ⟨(some 57), none, .bin .sub (.tmp 56) (.const (.int .i64 2)), 2, [], true⟩,
  ⟨(some 58), none, .load 24 true (.tmp 5), 3, [], true⟩,
  ⟨(some 59), none, .call (.func 222) [(.tmp 55), (.tmp 57), (.tmp 58)], 4, [], true⟩])
 (.seq (.region 1 [
  ⟨(some 2), none, .mv (.const (.int .i64 0)), 0, [], true⟩])
 .ret))))))))⟩

def m183 : MFn := ⟨60, [(6, none)], (.seq (.region 1 [
  ⟨(some 6), none, .mv (.const (.int .i64 0)), 0, [], true⟩])
 (.seq (.block 0 (.seq (.region 3 [
  ⟨(some 9), none, .mv (.tmp 0), 0, [], true⟩,
  ⟨(some 10), none, .eq false .ptr (.tmp 9) (.const (.pointer none)), 1, [], true⟩,
  ⟨(some 8), none, .mv (.tmp 10), 2, [], true⟩])
 (.cond (.tmp 8) (.seq (.region 1 [
  ⟨(some 6), none, .mv (.const (.int .i64 1)), 0, [], true⟩])
 .ret) (.seq (.region 7 [
  ⟨(some 12), none, .mv (.tmp 1), 0, [], true⟩,
  ⟨(some 13), none, .bin .lss (.tmp 12) (.const (.int .i64 0)), 1, [], true⟩,
  ⟨(some 14), none, .mv (.tmp 13), 2, [], true⟩,
  ⟨(some 15), (some (14, false)), .mv (.tmp 1), 3, [], true⟩,
  ⟨(some 16), (some (14, false)), .bin .geq (.tmp 15) (.const (.int .i64 12)), 4, [], true⟩,
  ⟨(some 17), none, .pick (.tmp 14) (.const (.bool true)) (.tmp 16), 5, [], true⟩,
  ⟨(some 11), none, .mv (.tmp 17), 6, [], true⟩])
 (.cond (.tmp 11) (.seq (.region 1 [
  ⟨(some 6), none, .mv (.const (.int .i64 2)), 0, [], true⟩])
 .ret) (.seq (.region 4 [
  ⟨(some 19), none, .mv (.tmp 2), 0, [], true⟩,
  ⟨(some 20), none, .call (.func 89) [(.tmp 19)], 1, [], true⟩,
  ⟨(some 21), none, .un .not (.tmp 20), 2, [], true⟩,
  ⟨(some 18), none, .mv (.tmp 21), 3, [], true⟩])
 (.cond (.tmp 18) (.seq (.region 1 [
  ⟨(some 6), none, .mv (.const (.int .i64 3)), 0, [], true⟩])
 .ret) .skip)))))))
 (.seq (.region 14 [
  ⟨(some 22), none, .mv (.tmp 0), 0, [], true⟩,
  ⟨(some 23), none, .nilCheck (.tmp 22), 1, [], true⟩,
  ⟨(some 24), none, .fieldAddr 0 (.tmp 23), 2, [], true⟩,
  ⟨(some 25), none, .load 1 false (.tmp 24), 3, [], true⟩,
  ⟨(some 26), none, .mv (.tmp 0), 4, [], false⟩,
  ⟨(some 27), none, .nilCheck (.tmp 26), 5, [], false⟩,
  ⟨(some 28), none, .fieldAddr 0 (.tmp 27), 6, [], false⟩,
  ⟨(some 29), none, .load 1 false (.tmp 28), 7, [], false⟩,
  ⟨(some 30), none, .len false (.tmp 29), 8, [], false⟩,
  ⟨(some 31), none, .bin .sub (.tmp 30) (.const (.int .i64 1)), 9, [], false⟩,
  ⟨(some 32), none, .adSl 24 (.tmp 25) (.tmp 31), 10, [], true⟩,
  ⟨(some 33), none, .load 24 true (.tmp 32), 11, [], true⟩,
  ⟨(some 7), none, .alloc [(.bool false), (.bool false), (.bool false), (.bool false), (.bool false), (.bool false), (.bool false), (.bool false), (.bool false), (.bool false), (.bool false), (.bool false), (.int .u64 0), (.int .u64 0), (.int .u64 0), (.int .u64 0), (.int .u64 0), (.int .u64 0), (.int .u64 0), (.int .u64 0), (.int .u64 0), (.int .u64 0), (.int .u64 0), (.int .u64 0)] 232, 12, [], false⟩,
  ⟨none, none, .store 24 (.tmp 7) (.tmp 33), 13, [], true⟩])
 (.seq (.seq (.region 10 [
  ⟨(some 34), none, .mv (.tmp 1), 0, [], true⟩,
  ⟨(some 35), none, .fieldAddr 0 (.tmp 7), 1, [], true⟩,
  ⟨(some 36), none, .adArr 12 1 (.tmp 35) (.tmp 34), 2, [], true⟩,
  ⟨(some 37), none, .load 1 false (.tmp 36), 3, [], true⟩,
  ⟨(some 38), none, .un .not (.tmp 37), 4, [], true⟩,
  ⟨(some 39), none, .mv (.tmp 38), 5, [], true⟩,
  ⟨(some 40), (some (39, true)), .mv (.tmp 0), 6, [], true⟩,
  ⟨(some 41), (some (39, true)), .call (.func 223) [(.tmp 40)], 7, [], true⟩,
  ⟨(some 42), (some (39, true)), .bin .geq (.tmp 41) (.const (.int .i64 16)), 8, [], true⟩,
  ⟨(some 43), none, .pick (.tmp 39) (.tmp 42) (.const (.bool false)), 9, [], true⟩])
 (.cond (.tmp 43) (.seq (.region 1 [
  ⟨(some 6), none, .mv (.const (.int .i64 4)), 0, [], true⟩])
 .ret) .skip))
 (.seq (.region 9 [
  ⟨(some 44), none, .mv (.tmp 1), 0, [], true⟩,
  ⟨(some 45), none, .mv (.tmp 1), 1, [], true⟩,
  ⟨(some 46), none, .mv (.tmp 2), 2, [], true⟩,
  ⟨(some 47), none, .fieldAddr 0 (.tmp 7), 3, [], true⟩,
  ⟨(some 48), none, .adArr 12 1 (.tmp 47) (.tmp 44), 4, [], true⟩,
  ⟨none, none, .store 1 (.tmp 48) (.const (.bool true)), 5, [], true⟩,
  ⟨(some 49), none, .fieldAddr 12 (.tmp 7), 6, [], true⟩,
  ⟨(some 50), none, .adArr 12 1 (.tmp 49) (.tmp 45), 7, [], true⟩,
  ⟨none, none, .store 1 (.tmp 50) (.tmp 46), 8, [], true⟩])
 (.seq (.region 9 [
  ⟨(some 51), none, .mv (.tmp 0), 0, [], true⟩,
  ⟨(some 52), none, .mv (.tmp 0), 1, [], false⟩,
  ⟨(some 53), none, .nilCheck (.tmp 52), 2, [], false⟩,
  ⟨(some 54), none, .fieldAddr 0 (.tmp 53), 3, [], false⟩,
  ⟨(some 55), none, .load 1 false (.tmp 54), 4, [], false⟩,
  ⟨(some 56), none, .len false (.tmp 55), 5, [], false⟩,
  ⟨(some 57), none, .bin .sub (.tmp 56) (.const (.int .i64 1)), 6, [], false⟩,
  ⟨(some 58), none, .load 24 true (.tmp 7), 7, [], false⟩,
  ⟨(some 59), none, .call (.func 222) [(.tmp 51), (.tmp 57), (.tmp 58)], 8, [], true⟩])
 (.seq (.region 1 [
  ⟨(some 6), none, .mv (.const (.int .i64 0)), 0, [], true⟩])
 .ret)))))))⟩

def m184 : MFn := ⟨20, [(4, none)], (.seq (.region 1 [
  ⟨(some 4), none, .mv (.const (.int .i64 0)), 0, [], true⟩])
 (.seq (.block 0 (.seq (.region 3 [
  ⟨(some 6), none, .mv (.tmp 0), 0, [], true⟩,
  ⟨(some 7), none, .eq false .ptr (.tmp 6) (.const (.pointer none)), 1, [], true⟩,
  ⟨(some 5), none, .mv (.tmp 7), 2, [], true⟩])
 (.cond (.tmp 5) (.seq (.region 1 [
  ⟨(some 4), none, .mv (.const (.int .i64 1)), 0, [], true⟩])
 .ret) (.seq (.region 12 [
  ⟨(some 9), none, .mv (.tmp 1), 0, [], true⟩,
  ⟨(some 10), none, .bin .lss (.tmp 9) (.const (.int .i64 0)), 1, [], true⟩,
  ⟨(some 11), none, .mv (.tmp 10), 2, [], true⟩,
  ⟨(some 12), (some (11, false)), .mv (.tmp 1), 3, [], true⟩,
  ⟨(some 13), (some (11, false)), .mv (.tmp 0), 4, [], true⟩,
  ⟨(some 14), (some (11, false)), .nilCheck (.tmp 13), 5, [], true⟩,
  ⟨(some 15), (some (11, false)), .fieldAddr 0 (.tmp 14), 6, [], true⟩,
  ⟨(some 16), (some (11, false)), .load 1 false (.tmp 15), 7, [], true⟩,
  ⟨(some 17), (some (11, false)), .len false (.tmp 16), 8, [], true⟩,
  ⟨(some 18), (some (11, false)), .bin .geq (.tmp 12) (.tmp 17), 9, [], true⟩,
  ⟨(some 19), none, .pick (.tmp 11) (.const (.bool true)) (.tmp 18), 10, [], true⟩,
  ⟨(some 8), none, .mv (.tmp 19), 11, [], true⟩])
 (.cond (.tmp 8) (.seq (.region 1 [
  ⟨(some 4), none, .mv (.const (.int .i64 2)), 0, [], true⟩])
 .ret) .skip)))))
 (.seq (.region 1 [
  ⟨(some 4), none, .mv (.const (.int .i64 0)), 0, [], true⟩])
 .ret)))⟩

def m185 : MFn := ⟨28, [(4, none), (5, none)], (.seq (.region 2 [
  ⟨(some 4), none, .mv (.const (.int .i64 0)), 0, [], true⟩,
  ⟨(some 5), none, .mv (.const (.bool false)), 1, [], true⟩])
 (.seq (.seq (.region 4 [
  ⟨(some 9), none, .mv (.tmp 0), 0, [], true⟩,
  ⟨(some 10), none, .mv (.tmp 1), 1, [], true⟩,
  ⟨(some 11), none, .call (.func 184) [(.tmp 9), (.tmp 10)], 2, [], true⟩,
  ⟨(some 12), none, .bin .neq (.tmp 11) (.const (.int .i64 0)), 3, [], true⟩])
 (.cond (.tmp 12) (.seq (.region 2 [
  ⟨(some 4), none, .mv (.const (.int .i64 0)), 0, [], true⟩,
  ⟨(some 5), none, .mv (.const (.bool false)), 1, [], true⟩])
 .ret) .skip))
 (.seq (.region 15 [
  ⟨(some 14), none, .mv (.tmp 0), 0, [], true⟩,
  ⟨(some 15), none, .nilCheck (.tmp 14), 1, [], true⟩,
  ⟨(some 16), none, .fieldAddr 0 (.tmp 15), 2, [], true⟩,
  ⟨(some 17), none, .load 1 false (.tmp 16), 3, [], true⟩,
  ⟨(some 18), none, .mv (.tmp 1), 4, [], true⟩,
  ⟨(some 19), none, .adSl 1 (.tmp 17) (.tmp 18), 5, [], true⟩,
  ⟨(some 20), none, .load 1 false (.tmp 19), 6, [], true⟩,
  ⟨(some 21), none, .call (.func 186) [(.tmp 20)], 7, [], true⟩,
  ⟨(some 13), none, .mv (.tmp 21), 8, [], true⟩,
  ⟨(some 22), none, .extract (.tmp 13) 0, 9, [], true⟩,
  ⟨(some 23), none, .extract (.tmp 13) 1, 10, [], true⟩,
  ⟨(some 24), none, .extract (.tmp 13) 2, 11, [], true⟩,
  ⟨(some 6), none, .mv (.tmp 22), 12, [], true⟩,
  ⟨(some 7), none, .mv (.tmp 23), 13, [], true⟩,
  ⟨(some 8), none, .mv (.tmp 24), 14, [], true⟩])
 (.seq (.seq (.region 2 [
  ⟨(some 25), none, .mv (.tmp 6), 0, [], true⟩,
  ⟨(some 26), none, .bin .lss (.tmp 25) (.const (.int .i64 0)), 1, [], true⟩])
 (.cond (.tmp 26) (.seq (.region 2 [
  ⟨(some 4), none, .mv (.const (.int .i64 0)), 0, [], true⟩,
  ⟨(some 5), none, .mv (.const (.bool false)), 1, [], true⟩])
 .ret) .skip))
 (.seq (.region 3 [
  ⟨(some 27), none, .mv (.tmp 6), 0, [], true⟩,
  ⟨(some 4), none, .mv (.tmp 27), 1, [], true⟩,
  ⟨(some 5), none, .mv (.const (.bool true)), 2, [], true⟩])
 .ret)))))⟩

def m186 : MFn := ⟨32, [(2, none), (3, none), (4, none)], (.seq (.region 3 [
  ⟨(some 2), none, .mv (.const (.int .i64 0)), 0, [], true⟩,
  ⟨(some 3), none, .mv (.const (.int .u64 0)), 1, [], true⟩,
  ⟨(some 4), none, .mv (.const (.int .i64 0)), 2, [], true⟩])
 (.seq (.region 3 [
  ⟨(some 9), none, .mv (.tmp 0), 0, [], true⟩,
  ⟨(some 10), none, .bin .quo (.tmp 9) (.const (.int .u64 32)), 1, [], true⟩,
  ⟨(some 5), none, .mv (.tmp 10), 2, [], true⟩])
 (.seq (.seq (.region 2 [
  ⟨(some 11), none, .mv (.tmp 5), 0, [], true⟩,
  ⟨(some 12), none, .bin .gtr (.tmp 11) (.const (.int .u64 1099511627776)), 1, [], true⟩])
 (.cond (.tmp 12) (.seq (.region 3 [
  ⟨(some 2), none, .mv (.const (.int .i64 0)), 0, [], true⟩,
  ⟨(some 3), none, .mv (.const (.int .u64 0)), 1, [], true⟩,
  ⟨(some 4), none, .mv (.const (.int .i64 3)), 2, [], true⟩])
 .ret) .skip))
 (.seq (.seq (.region 3 [
  ⟨(some 13), none, .mv (.tmp 0), 0, [], true⟩,
  ⟨(some 14), none, .bin .rem (.tmp 13) (.const (.int .u64 32)), 1, [], true⟩,
  ⟨(some 15), none, .bin .eql (.tmp 14) (.const (.int .u64 0)), 2, [], true⟩])
 (.cond (.tmp 15) (.seq (.region 4 [
  ⟨(some 16), none, .mv (.tmp 5), 0, [], true⟩,
  ⟨(some 2), none, .mv (.const (.int .i64 (-1))), 1, [], true⟩,
  ⟨(some 3), none, .mv (.tmp 16), 2, [], true⟩,
  ⟨(some 4), none, .mv (.const (.int .i64 0)), 3, [], true⟩])
 .ret) .skip))
 (.seq (.seq (.region 1 [
  ⟨(some 6), none, .mv (.const (.int .i64 0)), 0, [], true⟩])
 (.block 0 (.loop (.seq (.seq (.region 2 [
  ⟨(some 17), none, .mv (.tmp 6), 0, [], true⟩,
  ⟨(some 18), none, .bin .lss (.tmp 17) (.const (.int .i64 4)), 1, [], true⟩])
 (.cond (.tmp 18) .skip (.exit 0)))
 (.seq (.block 1 (.seq (.region 8 [
  ⟨(some 22), none, .mv (.tmp 6), 0, [], true⟩,
  ⟨(some 23), none, .mv (.tmp 5), 1, [], true⟩,
  ⟨(some 24), none, .call (.func 224) [(.tmp 22), (.tmp 23)], 2, [], true⟩,
  ⟨(some 21), none, .mv (.tmp 24), 3, [], true⟩,
  ⟨(some 25), none, .extract (.tmp 21) 0, 4, [], true⟩,
  ⟨(some 26), none, .extract (.tmp 21) 1, 5, [], true⟩,
  ⟨(some 7), none, .mv (.tmp 25), 6, [], true⟩,
  ⟨(some 8), none, .mv (.tmp 26), 7, [], true⟩])
 (.seq (.region 3 [
  ⟨(some 27), none, .mv (.tmp 7), 0, [], true⟩,
  ⟨(some 28), none, .mv (.tmp 0), 1, [], true⟩,
  ⟨(some 29), none, .bin .eql (.tmp 27) (.tmp 28), 2, [], true⟩])
 (.cond (.tmp 29) (.seq (.region 5 [
  ⟨(some 30), none, .mv (.tmp 6), 0, [], true⟩,
  ⟨(some 31), none, .mv (.tmp 5), 1, [], true⟩,
  ⟨(some 2), none, .mv (.tmp 30), 2, [], true⟩,
  ⟨(some 3), none, .mv (.tmp 31), 3, [], true⟩,
  ⟨(some 4), none, .mv (.const (.int .i64 0)), 4, [], true⟩])
 .ret) .skip))))
 (.region 3 [
  ⟨(some 19), none, .mv (.tmp 6), 0, [], true⟩,
  ⟨(some 20), none, .bin .add (.tmp 19) (.const (.int .i64 1)), 1, [], true⟩,
  ⟨(some 6), none, .mv (.tmp 20), 2, [], true⟩]))))))
 (.seq (.region 3 [
  ⟨(some 2), none, .mv (.const (.int .i64 0)), 0, [], true⟩,
  ⟨(some 3), none, .mv (.const (.int .u64 0)), 1, [], true⟩,
  ⟨(some 4), none, .mv (.const (.int .i64 3)), 2, [], true⟩])
 .ret))))))⟩

def m187 : MFn := ⟨21, [(6, (some (7, true)))], (.seq (.region 1 [
  ⟨(some 6), none, .alloc [(.bool false), (.int .u64 0), (.bool false), (.int .i64 0), (.bool false), (.int .u8 0), (.int .i64 0)] 70, 0, [], true⟩])
 (.seq (.region 10 [
  ⟨(some 7), none, .mv (.tmp 0), 0, [], true⟩,
  ⟨(some 8), none, .mv (.tmp 1), 1, [], true⟩,
  ⟨(some 9), none, .mv (.tmp 1), 2, [], true⟩,
  ⟨(some 10), none, .nilCheck (.tmp 9), 3, [], true⟩,
  ⟨(some 11), none, .fieldAddr 5 (.tmp 10), 4, [], true⟩,
  ⟨(some 12), none, .fieldAddr 1 (.tmp 11), 5, [], true⟩,
  ⟨(some 13), none, .load 1 false (.tmp 12), 6, [], true⟩,
  ⟨(some 14), none, .mv (.tmp 2), 7, [], true⟩,
  ⟨(some 15), none, .build [(.int .i64 0), (.int .u64 0)] [(0, 1, (.tmp 13)), (1, 1, (.tmp 14))], 8, [], true⟩,
  ⟨(some 16), none, .call (.func 88) [(.tmp 7), (.const (.int .u8 2)), (.tmp 8), (.tmp 15)], 9, [], true⟩])
 (.seq (.region 2 [
  ⟨(some 17), none, .mv (.tmp 1), 0, [], true⟩,
  ⟨(some 18), none, .call (.func 199) [(.tmp 17)], 1, [], true⟩])
 (.seq (.region 3 [
  ⟨(some 19), none, .mv (.tmp 2), 0, [], true⟩,
  ⟨(some 20), none, .build [(.bool false), (.int .u64 0), (.bool false), (.int .i64 0), (.bool false), (.int .u8 0), (.int .i64 0)] [(0, 1, (.const (.bool true))), (1, 1, (.tmp 19))], 1, [], true⟩,
  ⟨none, none, .store 7 (.tmp 6) (.tmp 20), 2, [], true⟩])
 .ret))))⟩

def m188 : MFn := ⟨29, [(6, (some (7, true))), (7, none)], (.seq (.region 2 [
  ⟨(some 6), none, .alloc [(.bool false), (.int .u64 0), (.bool false), (.int .i64 0), (.bool false), (.int .u8 0), (.int .i64 0)] 70, 0, [], true⟩,
  ⟨(some 7), none, .mv (.const (.bool false)), 1, [], true⟩])
 (.seq (.region 11 [
  ⟨(some 11), none, .mv (.tmp 0), 0, [], true⟩,
  ⟨(some 12), none, .nilCheck (.tmp 11), 1, [], true⟩,
  ⟨(some 13), none, .fieldAddr 0 (.tmp 12), 2, [], true⟩,
  ⟨(some 14), none, .load 1 false (.tmp 13), 3, [], true⟩,
  ⟨(some 15), none, .mv (.tmp 2), 4, [], true⟩,
  ⟨(some 16), none, .call (.func 225) [(.tmp 14), (.tmp 15)], 5, [], true⟩,
  ⟨(some 10), none, .mv (.tmp 16), 6, [], true⟩,
  ⟨(some 17), none, .extract (.tmp 10) 0, 7, [], true⟩,
  ⟨(some 18), none, .extract (.tmp 10) 1, 8, [], true⟩,
  ⟨(some 8), none, .mv (.tmp 17), 9, [], true⟩,
  ⟨(some 9), none, .mv (.tmp 18), 10, [], true⟩])
 (.seq (.seq (.region 7 [
  ⟨(some 19), none, .mv (.tmp 9), 0, [], true⟩,
  ⟨(some 20), none, .un .not (.tmp 19), 1, [], true⟩,
  ⟨(some 21), none, .mv (.tmp 20), 2, [], true⟩,
  ⟨(some 22), (some (21, false)), .mv (.tmp 8), 3, [], true⟩,
  ⟨(some 23), (some (21, false)), .mv (.tmp 1), 4, [], true⟩,
  ⟨(some 24), (some (21, false)), .bin .eql (.tmp 22) (.tmp 23), 5, [], true⟩,
  ⟨(some 25), none, .pick (.tmp 21) (.const (.bool true)) (.tmp 24), 6, [], true⟩])
 (.cond (.tmp 25) (.seq (.region 3 [
  ⟨(some 26), none, .build [(.bool false), (.int .u64 0), (.bool false), (.int .i64 0), (.bool false), (.int .u8 0), (.int .i64 0)] [], 0, [], true⟩,
  ⟨none, none, .store 7 (.tmp 6) (.tmp 26), 1, [], true⟩,
  ⟨(some 7), none, .mv (.const (.bool false)), 2, [], true⟩])
 .ret) .skip))
 (.seq (.region 4 [
  ⟨(some 27), none, .mv (.tmp 8), 0, [], true⟩,
  ⟨(some 28), none, .build [(.bool false), (.int .u64 0), (.bool false), (.int .i64 0), (.bool false), (.int .u8 0), (.int .i64 0)] [(2, 1, (.const (.bool true))), (3, 1, (.tmp 27))], 1, [], true⟩,
  ⟨none, none, .store 7 (.tmp 6) (.tmp 28), 2, [], true⟩,
  ⟨(some 7), none, .mv (.const (.bool true)), 3, [], true⟩])
 .ret))))⟩

def m189 : MFn := ⟨25, [(4, none)], (.seq (.region 1 [
  ⟨(some 4), none, .mv (.const (.int .u64 0)), 0, [], true⟩])
 (.seq (.seq (.region 4 [
  ⟨(some 8), none, .mv (.tmp 0), 0, [], true⟩,
  ⟨(some 9), none, .mv (.tmp 1), 1, [], true⟩,
  ⟨(some 10), none, .call (.func 145) [(.tmp 8), (.tmp 9)], 2, [], true⟩,
  ⟨(some 11), none, .bin .neq (.tmp 10) (.const (.int .i64 0)), 3, [], true⟩])
 (.cond (.tmp 11) (.seq (.region 1 [
  ⟨(some 4), none, .mv (.const (.int .u64 0)), 0, [], true⟩])
 .ret) .skip))
 (.seq (.region 15 [
  ⟨(some 13), none, .mv (.tmp 0), 0, [], true⟩,
  ⟨(some 14), none, .nilCheck (.tmp 13), 1, [], true⟩,
  ⟨(some 15), none, .fieldAddr 1 (.tmp 14), 2, [], true⟩,
  ⟨(some 16), none, .load 1 false (.tmp 15), 3, [], true⟩,
  ⟨(some 17), none, .mv (.tmp 1), 4, [], true⟩,
  ⟨(some 18), none, .adSl 1 (.tmp 16) (.tmp 17), 5, [], true⟩,
  ⟨(some 19), none, .load 1 false (.tmp 18), 6, [], true⟩,
  ⟨(some 20), none, .call (.func 161) [(.tmp 19)], 7, [], true⟩,
  ⟨(some 12), none, .mv (.tmp 20), 8, [], true⟩,
  ⟨(some 21), none, .extract (.tmp 12) 0, 9, [], true⟩,
  ⟨(some 22), none, .extract (.tmp 12) 1, 10, [], true⟩,
  ⟨(some 23), none, .extract (.tmp 12) 2, 11, [], true⟩,
  ⟨(some 5), none, .mv (.tmp 21), 12, [], true⟩,
  ⟨(some 6), none, .mv (.tmp 22), 13, [], true⟩,
  ⟨(some 7), none, .mv (.tmp 23), 14, [], true⟩])
 (.seq (.region 2 [
  ⟨(some 24), none, .mv (.tmp 6), 0, [], true⟩,
  ⟨(some 4), none, .mv (.tmp 24), 1, [], true⟩])
 .ret))))⟩

def m190 : MFn := ⟨64, [(4, none)], (.seq (.region 2 [
  ⟨(some 3), none, .box 182 (.tmp 1), 0, [], true⟩,
  ⟨(some 4), none, .mv (.const (.int .i64 0)), 1, [], true⟩])
 (.seq (.block 0 (.seq (.region 3 [
  ⟨(some 8), none, .mv (.tmp 0), 0, [], true⟩,
  ⟨(some 9), none, .eq false .ptr (.tmp 8) (.const (.pointer none)), 1, [], true⟩,
  ⟨(some 7), none, .mv (.tmp 9), 2, [], true⟩])
 (.cond (.tmp 7) (.seq (.region 1 [
  ⟨(some 4), none, .mv (.const (.int .i64 1)), 0, [], true⟩])
 .ret) (.seq (.region 14 [
  ⟨(some 11), none, .fieldAddr 0 (.tmp 3), 0, [], true⟩,
  ⟨(some 12), none, .load 1 false (.tmp 11), 1, [], true⟩,
  ⟨(some 13), none, .bin .lss (.tmp 12) (.const (.int .i64 0)), 2, [], true⟩,
  ⟨(some 14), none, .mv (.tmp 13), 3, [], true⟩,
  ⟨(some 15), (some (14, false)), .fieldAddr 0 (.tmp 3), 4, [], true⟩,
  ⟨(some 16), (some (14, false)), .load 1 false (.tmp 15), 5, [], true⟩,
  ⟨(some 17), (some (14, false)), .bin .geq (.tmp 16) (.const (.int .i64 12)), 6, [], true⟩,
  ⟨(some 18), none, .pick (.tmp 14) (.const (.bool true)) (.tmp 17), 7, [], true⟩,
  ⟨(some 19), none, .mv (.tmp 18), 8, [], true⟩,
  ⟨(some 20), (some (19, false)), .fieldAddr 2 (.tmp 3), 9, [], true⟩,
  ⟨(some 21), (some (19, false)), .load 1 false (.tmp 20), 10, [], true⟩,
  ⟨(some 22), (some (19, false)), .bin .gtr (.tmp 21) (.const (.int .u64 1099511627776)), 11, [], true⟩,
  ⟨(some 23), none, .pick (.tmp 19) (.const (.bool true)) (.tmp 22), 12, [], true⟩,
  ⟨(some 10), none, .mv (.tmp 23), 13, [], true⟩])
 (.cond (.tmp 10) (.seq (.region 1 [
  ⟨(some 4), none, .mv (.const (.int .i64 2)), 0, [], true⟩])
 .ret) (.seq (.region 5 [
  ⟨(some 25), none, .fieldAddr 1 (.tmp 3), 0, [], true⟩,
  ⟨(some 26), none, .load 1 false (.tmp 25), 1, [], true⟩,
  ⟨(some 27), none, .call (.func 101) [(.tmp 26)], 2, [], true⟩,
  ⟨(some 28), none, .un .not (.tmp 27), 3, [], true⟩,
  ⟨(some 24), none, .mv (.tmp 28), 4, [], true⟩])
 (.cond (.tmp 24) (.seq (.region 1 [
  ⟨(some 4), none, .mv (.const (.int .i64 3)), 0, [], true⟩])
 .ret) .skip)))))))
 (.seq (.seq (.region 13 [
  ⟨(some 30), none, .mv (.tmp 0), 0, [], true⟩,
  ⟨(some 31), none, .nilCheck (.tmp 30), 1, [], true⟩,
  ⟨(some 32), none, .fieldAddr 1 (.tmp 31), 2, [], true⟩,
  ⟨(some 33), none, .load 1 false (.tmp 32), 3, [], true⟩,
  ⟨(some 34), none, .fieldAddr 0 (.tmp 3), 4, [], false⟩,
  ⟨(some 35), none, .load 1 false (.tmp 34), 5, [], false⟩,
  ⟨(some 36), none, .lookup .int (.agg #[(.int .i64 0), (.int .u64 0), (.int .u64 0)]) true (.tmp 33) (.tmp 35), 6, [], true⟩,
  ⟨(some 29), none, .mv (.tmp 36), 7, [], true⟩,
  ⟨(some 37), none, .extract (.tmp 29) 0, 8, [], true⟩,
  ⟨(some 38), none, .extract (.tmp 29) 1, 9, [], false⟩,
  ⟨(some 5), none, .alloc [(.int .i64 0), (.int .u64 0), (.int .u64 0)] 182, 10, [], false⟩,
  ⟨none, none, .store 3 (.tmp 5) (.tmp 37), 11, [], false⟩,
  ⟨(some 6), none, .mv (.tmp 38), 12, [], true⟩])
 (.seq (.region 1 [
  ⟨(some 39), none, .mv (.tmp 6), 0, [], true⟩])
 (.cond (.tmp 39) (.seq (.region 1 [
  ⟨(some 4), none, .mv (.const (.int .i64 0)), 0, [], true⟩])
 .ret) .skip)))
 (.seq (.seq (.region 6 [
  ⟨(some 40), none, .mv (.tmp 0), 0, [], true⟩,
  ⟨(some 41), none, .nilCheck (.tmp 40), 1, [], true⟩,
  ⟨(some 42), none, .fieldAddr 0 (.tmp 41), 2, [], true⟩,
  ⟨(some 43), none, .load 1 false (.tmp 42), 3, [], true⟩,
  ⟨(some 44), none, .len false (.tmp 43), 4, [], true⟩,
  ⟨(some 45), none, .bin .geq (.tmp 44) (.const (.int .i64 8)), 5, [], true⟩])
 (.cond (.tmp 45) (.seq (.region 1 [
  ⟨(some 4), none, .mv (.const (.int .i64 4)), 0, [], true⟩])
 .ret) .skip))
 (.seq (.region 12 [
  ⟨(some 46), none, .mv (.tmp 0), 0, [], true⟩,
  ⟨(some 47), none, .mv (.tmp 0), 1, [], false⟩,
  ⟨(some 48), none, .nilCheck (.tmp 47), 2, [], false⟩,
  ⟨(some 49), none, .fieldAddr 0 (.tmp 48), 3, [], false⟩,
  ⟨(some 50), none, .load 1 false (.tmp 49), 4, [], false⟩,
  ⟨(some 51), none, .fieldAddr 0 (.tmp 3), 5, [], false⟩,
  ⟨(some 52), none, .load 1 false (.tmp 51), 6, [], false⟩,
  ⟨(some 53), none, .buildSl 3 1 1 [(.int .i64 0)] [(0, 1, (.tmp 52))], 7, [], false⟩,
  ⟨(some 54), none, .append 3 1 8 (.tmp 50) (.tmp 53), 8, [], false⟩,
  ⟨(some 55), none, .nilCheck (.tmp 46), 9, [], true⟩,
  ⟨(some 56), none, .fieldAddr 0 (.tmp 55), 10, [], true⟩,
  ⟨none, none, .store 1 (.tmp 56) (.tmp 54), 11, [], true⟩])
 (.seq (.region 8 [
  ⟨(some 57), none, .mv (.tmp 0), 0, [], true⟩,
  ⟨(some 58), none, .nilCheck (.tmp 57), 1, [], true⟩,
  ⟨(some 59), none, .fieldAddr 1 (.tmp 58), 2, [], true⟩,
  ⟨(some 60), none, .load 1 false (.tmp 59), 3, [], true⟩,
  ⟨(some 61), none, .fieldAddr 0 (.tmp 3), 4, [], false⟩,
  ⟨(some 62), none, .load 1 false (.tmp 61), 5, [], false⟩,
  ⟨(some 63), none, .load 3 true (.tmp 3), 6, [], false⟩,
  ⟨none, none, .mapSet .int (.tmp 60) (.tmp 62) (.tmp 63), 7, [], true⟩])
 (.seq (.region 1 [
  ⟨(some 4), none, .mv (.const (.int .i64 0)), 0, [], true⟩])
 .ret)))))))⟩

def m191 : MFn := ⟨73, [(6, (some (7, true)))], (.seq (.region 1 [
  ⟨(some 6), none, .alloc [(.bool false), (.int .u64 0), (.bool false), (.int .i64 0), (.bool false), (.int .u8 0), (.int .i64 0)] 70, 0, [], true⟩])
 (.seq (.region 7 [
  ⟨(some 14), none, .mv (.tmp 0), 0, [], true⟩,
  ⟨(some 15), none, .nilCheck (.tmp 14), 1, [], true⟩,
  ⟨(some 16), none, .fieldAddr 0 (.tmp 15), 2, [], true⟩,
  ⟨(some 17), none, .load 1 false (.tmp 16), 3, [], true⟩,
  ⟨(some 18), none, .mv (.tmp 1), 4, [], true⟩,
  ⟨(some 19), none, .call (.func 44) [(.tmp 17), (.tmp 18)], 5, [], true⟩,
  ⟨(some 7), none, .mv (.tmp 19), 6, [], true⟩])
 (.seq (.seq (.region 5 [
  ⟨(some 20), none, .mv (.tmp 0), 0, [], true⟩,
  ⟨(some 21), none, .mv (.tmp 2), 1, [], true⟩,
  ⟨(some 22), none, .call (.func 226) [(.tmp 20), (.tmp 21)], 2, [], true⟩,
  ⟨(some 23), none, .len false (.tmp 22), 3, [], true⟩,
  ⟨(some 24), none, .mv (.const (.int .i64 0)), 4, [], true⟩])
 (.block 0 (.loop (.seq (.region 1 [
  ⟨(some 25), none, .bin .lss (.tmp 24) (.tmp 23), 0, [], true⟩])
 (.seq (.cond (.tmp 25) .skip (.exit 0))
 (.seq (.block 1 (.seq (.region 3 [
  ⟨(some 26), none, .adSl 1 (.tmp 22) (.tmp 24), 0, [], true⟩,
  ⟨(some 27), none, .load 1 false (.tmp 26), 1, [], true⟩,
  ⟨(some 9), none, .mv (.tmp 27), 2, [], true⟩])
 (.seq (.seq (.region 3 [
  ⟨(some 28), none, .mv (.tmp 7), 0, [], true⟩,
  ⟨(some 29), none, .mv (.tmp 9), 1, [], true⟩,
  ⟨(some 30), none, .call (.func 227) [(.tmp 28), (.tmp 29)], 2, [], true⟩])
 (.cond (.tmp 30) (.exit 1) .skip))
 (.seq (.region 10 [
  ⟨(some 32), none, .mv (.tmp 0), 0, [], true⟩,
  ⟨(some 33), none, .mv (.tmp 1), 1, [], true⟩,
  ⟨(some 34), none, .mv (.tmp 9), 2, [], true⟩,
  ⟨(some 35), none, .call (.func 188) [(.tmp 32), (.tmp 33), (.tmp 34)], 3, [], true⟩,
  ⟨(some 31), none, .mv (.tmp 35), 4, [], true⟩,
  ⟨(some 36), none, .extract (.tmp 31) 0, 5, [], true⟩,
  ⟨(some 37), none, .extract (.tmp 31) 1, 6, [], true⟩,
  ⟨(some 10), none, .alloc [(.bool false), (.int .u64 0), (.bool false), (.int .i64 0), (.bool false), (.int .u8 0), (.int .i64 0)] 70, 7, [], true⟩,
  ⟨none, none, .store 7 (.tmp 10) (.tmp 36), 8, [], true⟩,
  ⟨(some 11), none, .mv (.tmp 37), 9, [], true⟩])
 (.seq (.seq (.region 2 [
  ⟨(some 38), none, .mv (.tmp 11), 0, [], true⟩,
  ⟨(some 39), none, .un .not (.tmp 38), 1, [], true⟩])
 (.cond (.tmp 39) (.region 7 [
  ⟨(some 40), none, .mv (.tmp 0), 0, [], true⟩,
  ⟨(some 41), none, .nilCheck (.tmp 40), 1, [], true⟩,
  ⟨(some 42), none, .fieldAddr 0 (.tmp 41), 2, [], true⟩,
  ⟨(some 43), none, .load 1 false (.tmp 42), 3, [], true⟩,
  ⟨(some 44), none, .mv (.tmp 1), 4, [], true⟩,
  ⟨(some 45), none, .mv (.tmp 9), 5, [], true⟩,
  ⟨(some 46), none, .call (.func 228) [(.tmp 43), (.tmp 44), (.tmp 45)], 6, [], true⟩]) .skip))
 (.seq (.region 2 [
  ⟨(some 47), none, .load 7 true (.tmp 10), 0, [], true⟩,
  ⟨none, none, .store 7 (.tmp 6) (.tmp 47), 1, [], true⟩])
 .ret))))))
 (.region 2 [
  ⟨(some 48), none, .bin .add (.tmp 24) (.const (.int .i64 1)), 0, [], true⟩,
  ⟨(some 24), none, .mv (.tmp 48), 1, [], true⟩])))))))
 (.seq (.region 10 [
  ⟨(some 50), none, .mv (.tmp 0), 0, [], true⟩,
  ⟨(some 51), none, .nilCheck (.tmp 50), 1, [], true⟩,
  ⟨(some 52), none, .fieldAddr 0 (.tmp 51), 2, [], true⟩,
  ⟨(some 53), none, .load 1 false (.tmp 52), 3, [], true⟩,
  ⟨(some 54), none, .call (.func 229) [(.tmp 53)], 4, [], true⟩,
  ⟨(some 49), none, .mv (.tmp 54), 5, [], true⟩,
  ⟨(some 55), none, .extract (.tmp 49) 0, 6, [], true⟩,
  ⟨(some 56), none, .extract (.tmp 49) 1, 7, [], true⟩,
  ⟨(some 12), none, .mv (.tmp 55), 8, [], true⟩,
  ⟨(some 13), none, .mv (.tmp 56), 9, [], true⟩])
 (.seq (.seq (.region 2 [
  ⟨(some 57), none, .mv (.tmp 13), 0, [], true⟩,
  ⟨(some 58), none, .bin .neq (.tmp 57) (.const (.int .i64 0)), 1, [], true⟩])
 (.cond (.tmp 58) (.seq (.region 4 [
  ⟨(some 59), none, .mv (.tmp 0), 0, [], true⟩,
  ⟨(some 60), none, .mv (.tmp 1), 1, [], true⟩,
  ⟨(some 61), none, .call (.func 42) [(.tmp 59), (.tmp 60), (.const (.int .u8 2))], 2, [], true⟩,
  ⟨none, none, .store 7 (.tmp 6) (.tmp 61), 3, [], true⟩])
 .ret) .skip))
 (.seq (.region 13 [
  ⟨(some 62), none, .mv (.tmp 2), 0, [], true⟩,
  ⟨(some 63), none, .mv (.tmp 2), 1, [], true⟩,
  ⟨(some 64), none, .mv (.tmp 2), 2, [], true⟩,
  ⟨(some 65), none, .mv (.tmp 12), 3, [], true⟩,
  ⟨(some 66), none, .nilCheck (.tmp 62), 4, [], true⟩,
  ⟨(some 67), none, .fieldAddr 4 (.tmp 66), 5, [], true⟩,
  ⟨none, none, .store 1 (.tmp 67) (.tmp 65), 6, [], true⟩,
  ⟨(some 68), none, .nilCheck (.tmp 63), 7, [], true⟩,
  ⟨(some 69), none, .fieldAddr 8 (.tmp 68), 8, [], true⟩,
  ⟨none, none, .store 1 (.tmp 69) (.const (.int .i64 2)), 9, [], true⟩,
  ⟨(some 70), none, .nilCheck (.tmp 64), 10, [], true⟩,
  ⟨(some 71), none, .fieldAddr 9 (.tmp 70), 11, [], true⟩,
  ⟨none, none, .store 1 (.tmp 71) (.const (.int .i64 0)), 12, [], true⟩])
 (.seq (.region 2 [
  ⟨(some 72), none, .build [(.bool false), (.int .u64 0), (.bool false), (.int .i64 0), (.bool false), (.int .u8 0), (.int .i64 0)] [], 0, [], true⟩,
  ⟨none, none, .store 7 (.tmp 6) (.tmp 72), 1, [], true⟩])
 .ret)))))))⟩

def m192 : MFn := ⟨87, [(6, (some (7, true)))], (.seq (.region 1 [
  ⟨(some 6), none, .alloc [(.bool false), (.int .u64 0), (.bool false), (.int .i64 0), (.bool false), (.int .u8 0), (.int .i64 0)] 70, 0, [], true⟩])
 (.seq (.region 6 [
  ⟨(some 10), none, .mv (.tmp 2), 0, [], true⟩,
  ⟨(some 11), none, .nilCheck (.tmp 10), 1, [], true⟩,
  ⟨(some 12), none, .fieldAddr 0 (.tmp 11), 2, [], true⟩,
  ⟨(some 13), none, .load 1 false (.tmp 12), 3, [], true⟩,
  ⟨(some 14), none, .call (.func 91) [(.tmp 13)], 4, [], true⟩,
  ⟨(some 7), none, .mv (.tmp 14), 5, [], true⟩])
 (.seq (.seq (.region 7 [
  ⟨(some 15), none, .mv (.tmp 2), 0, [], true⟩,
  ⟨(some 16), none, .nilCheck (.tmp 15), 1, [], true⟩,
  ⟨(some 17), none, .fieldAddr 9 (.tmp 16), 2, [], true⟩,
  ⟨(some 18), none, .load 1 false (.tmp 17), 3, [], true⟩,
  ⟨(some 19), none, .mv (.tmp 7), 4, [], true⟩,
  ⟨(some 20), none, .len false (.tmp 19), 5, [], true⟩,
  ⟨(some 21), none, .bin .eql (.tmp 18) (.tmp 20), 6, [], true⟩])
 (.cond (.tmp 21) (.seq (.region 12 [
  ⟨(some 22), none, .mv (.tmp 2), 0, [], true⟩,
  ⟨(some 23), none, .mv (.tmp 2), 1, [], true⟩,
  ⟨(some 24), none, .mv (.tmp 2), 2, [], true⟩,
  ⟨(some 25), none, .nilCheck (.tmp 22), 3, [], true⟩,
  ⟨(some 26), none, .fieldAddr 13 (.tmp 25), 4, [], true⟩,
  ⟨none, none, .store 1 (.tmp 26) (.const (.bool true)), 5, [], true⟩,
  ⟨(some 27), none, .nilCheck (.tmp 23), 6, [], true⟩,
  ⟨(some 28), none, .fieldAddr 8 (.tmp 27), 7, [], true⟩,
  ⟨none, none, .store 1 (.tmp 28) (.const (.int .i64 3)), 8, [], true⟩,
  ⟨(some 29), none, .nilCheck (.tmp 24), 9, [], true⟩,
  ⟨(some 30), none, .fieldAddr 9 (.tmp 29), 10, [], true⟩,
  ⟨none, none, .store 1 (.tmp 30) (.const (.int .i64 0)), 11, [], true⟩])
 (.seq (.region 16 [
  ⟨(some 31), none, .mv (.tmp 0), 0, [], true⟩,
  ⟨(some 32), none, .nilCheck (.tmp 31), 1, [], true⟩,
  ⟨(some 33), none, .fieldAddr 7 (.tmp 32), 2, [], true⟩,
  ⟨(some 34), none, .load 1 false (.tmp 33), 3, [], true⟩,
  ⟨(some 35), none, .mv (.tmp 2), 4, [], false⟩,
  ⟨(some 36), none, .nilCheck (.tmp 35), 5, [], false⟩,
  ⟨(some 37), none, .fieldAddr 2 (.tmp 36), 6, [], false⟩,
  ⟨(some 38), none, .load 1 false (.tmp 37), 7, [], false⟩,
  ⟨(some 39), none, .mv (.tmp 2), 8, [], false⟩,
  ⟨(some 40), none, .nilCheck (.tmp 39), 9, [], false⟩,
  ⟨(some 41), none, .fieldAddr 4 (.tmp 40), 10, [], false⟩,
  ⟨(some 42), none, .load 1 false (.tmp 41), 11, [], false⟩,
  ⟨(some 43), none, .bin .mul (.const (.int .u64 2)) (.tmp 42), 12, [], false⟩,
  ⟨(some 44), none, .adSl 3 (.tmp 34) (.tmp 38), 13, [], true⟩,
  ⟨(some 45), none, .fieldAddr 1 (.tmp 44), 14, [], true⟩,
  ⟨none, none, .store 1 (.tmp 45) (.tmp 43), 15, [], true⟩])
 (.seq (.region 2 [
  ⟨(some 46), none, .build [(.bool false), (.int .u64 0), (.bool false), (.int .i64 0), (.bool false), (.int .u8 0), (.int .i64 0)] [], 0, [], true⟩,
  ⟨none, none, .store 7 (.tmp 6) (.tmp 46), 1, [], true⟩])
 .ret))) .skip))
 (.seq (.region 23 [
  ⟨(some 48), none, .mv (.tmp 0), 0, [], true⟩,
  ⟨(some 49), none, .nilCheck (.tmp 48), 1, [], true⟩,
  ⟨(some 50), none, .fieldAddr 0 (.tmp 49), 2, [], true⟩,
  ⟨(some 51), none, .load 1 false (.tmp 50), 3, [], true⟩,
  ⟨(some 52), none, .mv (.tmp 0), 4, [], false⟩,
  ⟨(some 53), none, .nilCheck (.tmp 52), 5, [], false⟩,
  ⟨(some 54), none, .fieldAddr 0 (.tmp 53), 6, [], false⟩,
  ⟨(some 55), none, .load 1 false (.tmp 54), 7, [], false⟩,
  ⟨(some 56), none, .mv (.tmp 7), 8, [], false⟩,
  ⟨(some 57), none, .mv (.tmp 2), 9, [], false⟩,
  ⟨(some 58), none, .nilCheck (.tmp 57), 10, [], false⟩,
  ⟨(some 59), none, .fieldAddr 9 (.tmp 58), 11, [], false⟩,
  ⟨(some 60), none, .load 1 false (.tmp 59), 12, [], false⟩,
  ⟨(some 61), none, .adSl 3 (.tmp 56) (.tmp 60), 13, [], false⟩,
  ⟨(some 62), none, .fieldAddr 0 (.tmp 61), 14, [], false⟩,
  ⟨(some 63), none, .load 1 false (.tmp 62), 15, [], false⟩,
  ⟨(some 64), none, .call (.func 97) [(.tmp 55), (.tmp 63)], 16, [(false, none, none, 3, .load 1 false (.tmp 50))], false⟩,
  ⟨(some 65), none, .call (.func 96) [(.tmp 51), (.tmp 64)], 17, [], true⟩,
  ⟨(some 47), none, .mv (.tmp 65), 18, [], true⟩,
  ⟨(some 66), none, .extract (.tmp 47) 0, 19, [], true⟩,
  ⟨(some 67), none, .extract (.tmp 47) 1, 20, [], false⟩,
  ⟨(some 8), none, .mv (.tmp 66), 21, [], false⟩,
  ⟨(some 9), none, .mv (.tmp 67), 22, [], true⟩])
 (.seq (.seq (.region 8 [
  ⟨(some 68), none, .mv (.tmp 8), 0, [], true⟩,
  ⟨(some 69), none, .mv (.tmp 1), 1, [], true⟩,
  ⟨(some 70), none, .mv (.tmp 2), 2, [], true⟩,
  ⟨(some 71), none, .nilCheck (.tmp 70), 3, [], true⟩,
  ⟨(some 72), none, .fieldAddr 3 (.tmp 71), 4, [], true⟩,
  ⟨(some 73), none, .load 1 false (.tmp 72), 5, [], true⟩,
  ⟨(some 74), none, .call (.func 98) [(.tmp 68), (.tmp 69), (.tmp 73)], 6, [], true⟩,
  ⟨(some 75), none, .un .not (.tmp 74), 7, [], true⟩])
 (.cond (.tmp 75) (.seq (.region 4 [
  ⟨(some 76), none, .mv (.tmp 0), 0, [], true⟩,
  ⟨(some 77), none, .mv (.tmp 1), 1, [], true⟩,
  ⟨(some 78), none, .call (.func 42) [(.tmp 76), (.tmp 77), (.const (.int .u8 1))], 2, [], true⟩,
  ⟨none, none, .store 7 (.tmp 6) (.tmp 78), 3, [], true⟩])
 .ret) .skip))
 (.seq (.region 8 [
  ⟨(some 79), none, .mv (.tmp 2), 0, [], true⟩,
  ⟨(some 80), none, .nilCheck (.tmp 79), 1, [], true⟩,
  ⟨(some 81), none, .fieldAddr 9 (.tmp 80), 2, [], true⟩,
  ⟨(some 82), none, .load 1 false (.tmp 81), 3, [], true⟩,
  ⟨(some 83), none, .bin .add (.tmp 82) (.const (.int .i64 1)), 4, [], true⟩,
  ⟨(some 84), none, .nilCheck (.tmp 79), 5, [], true⟩,
  ⟨(some 85), none, .fieldAddr 9 (.tmp 84), 6, [], true⟩,
  ⟨none, none, .store 1 (.tmp 85) (.tmp 83), 7, [], true⟩])
 (.seq (.region 2 [
  ⟨(some 86), none, .build [(.bool false), (.int .u64 0), (.bool false), (.int .i64 0), (.bool false), (.int .u8 0), (.int .i64 0)] [], 0, [], true⟩,
  ⟨none, none, .store 7 (.tmp 6) (.tmp 86), 1, [], true⟩])
 .ret)))))))⟩

def m193 : MFn := ⟨13, [(8, none)], (.seq (.region 4 [
  ⟨(some 4), none, .box 89 (.tmp 0), 0, [], true⟩,
  ⟨(some 5), none, .box 3 (.tmp 1), 1, [], true⟩,
  ⟨(some 7), none, .box 41 (.tmp 3), 2, [], true⟩,
  ⟨(some 8), none, .mv (.const (.int .i64 0)), 3, [], true⟩])
 (.seq (.region 5 [
  ⟨(some 9), none, .load 1 false (.tmp 4), 0, [], true⟩,
  ⟨(some 10), none, .mv (.tmp 2), 1, [], true⟩,
  ⟨(some 11), none, .func (.func 230) [] [(.tmp 7), (.tmp 4), (.tmp 5)], 2, [], true⟩,
  ⟨(some 12), none, .call (.func 204) [(.tmp 9), (.tmp 10), (.tmp 11)], 3, [], true⟩,
  ⟨(some 8), none, .mv (.tmp 12), 4, [], true⟩])
 .ret))⟩

def m194 : MFn := ⟨20, [(4, (some (7, true)))], (.seq (.region 1 [
  ⟨(some 4), none, .alloc [(.bool false), (.int .u64 0), (.bool false), (.int .i64 0), (.bool false), (.int .u8 0), (.int .i64 0)] 70, 0, [], true⟩])
 (.seq (.region 9 [
  ⟨(some 5), none, .mv (.tmp 0), 0, [], true⟩,
  ⟨(some 6), none, .mv (.tmp 0), 1, [], true⟩,
  ⟨(some 7), none, .mv (.tmp 1), 2, [], true⟩,
  ⟨(some 8), none, .nilCheck (.tmp 6), 3, [], true⟩,
  ⟨(some 9), none, .fieldAddr 2 (.tmp 8), 4, [], true⟩,
  ⟨(some 10), none, .adArr 4 1 (.tmp 9) (.tmp 7), 5, [], true⟩,
  ⟨(some 11), none, .load 1 false (.tmp 10), 6, [], true⟩,
  ⟨(some 12), none, .build [(.int .i64 0), (.int .u64 0)] [], 7, [], true⟩,
  ⟨(some 13), none, .call (.func 88) [(.tmp 5), (.const (.int .u8 8)), (.tmp 11), (.tmp 12)], 8, [], true⟩])
 (.seq (.region 6 [
  ⟨(some 14), none, .mv (.tmp 0), 0, [], true⟩,
  ⟨(some 15), none, .mv (.tmp 1), 1, [], true⟩,
  ⟨(some 16), none, .nilCheck (.tmp 14), 2, [], true⟩,
  ⟨(some 17), none, .fieldAddr 2 (.tmp 16), 3, [], true⟩,
  ⟨(some 18), none, .adArr 4 1 (.tmp 17) (.tmp 15), 4, [], true⟩,
  ⟨none, none, .store 1 (.tmp 18) (.const (.pointer none)), 5, [], true⟩])
 (.seq (.region 2 [
  ⟨(some 19), none, .build [(.bool false), (.int .u64 0), (.bool false), (.int .i64 0), (.bool false), (.int .u8 0), (.int .i64 0)] [(0, 1, (.const (.bool true))), (4, 1, (.const (.bool true)))], 0, [], true⟩,
  ⟨none, none, .store 7 (.tmp 4) (.tmp 19), 1, [], true⟩])
 .ret))))⟩

def m195 : MFn := ⟨27, [(2, none)], (.seq (.region 1 [
  ⟨(some 2), none, .mv (.const (.int .i64 0)), 0, [], true⟩])
 (.seq (.block 0 (.seq (.region 3 [
  ⟨(some 4), none, .mv (.tmp 0), 0, [], true⟩,
  ⟨(some 5), none, .eq false .ptr (.tmp 4) (.const (.pointer none)), 1, [], true⟩,
  ⟨(some 3), none, .mv (.tmp 5), 2, [], true⟩])
 (.cond (.tmp 3) (.seq (.region 1 [
  ⟨(some 2), none, .mv (.const (.int .i64 1)), 0, [], true⟩])
 .ret) (.seq (.region 6 [
  ⟨(some 7), none, .mv (.tmp 0), 0, [], true⟩,
  ⟨(some 8), none, .nilCheck (.tmp 7), 1, [], true⟩,
  ⟨(some 9), none, .fieldAddr 1 (.tmp 8), 2, [], true⟩,
  ⟨(some 10), none, .load 1 false (.tmp 9), 3, [], true⟩,
  ⟨(some 11), none, .bin .geq (.tmp 10) (.const (.int .i64 4)), 4, [], true⟩,
  ⟨(some 6), none, .mv (.tmp 11), 5, [], true⟩])
 (.cond (.tmp 6) (.seq (.region 1 [
  ⟨(some 2), none, .mv (.const (.int .i64 4)), 0, [], true⟩])
 .ret) .skip)))))
 (.seq (.region 9 [
  ⟨(some 12), none, .mv (.tmp 0), 0, [], true⟩,
  ⟨(some 13), none, .mv (.tmp 0), 1, [], true⟩,
  ⟨(some 14), none, .nilCheck (.tmp 13), 2, [], true⟩,
  ⟨(some 15), none, .fieldAddr 0 (.tmp 14), 3, [], true⟩,
  ⟨(some 16), none, .load 1 false (.tmp 15), 4, [], true⟩,
  ⟨(some 17), none, .call (.func 137) [(.tmp 16), (.const (.slice none 0 0))], 5, [], true⟩,
  ⟨(some 18), none, .nilCheck (.tmp 12), 6, [], true⟩,
  ⟨(some 19), none, .fieldAddr 0 (.tmp 18), 7, [], true⟩,
  ⟨none, none, .store 1 (.tmp 19) (.tmp 17), 8, [], true⟩])
 (.seq (.region 8 [
  ⟨(some 20), none, .mv (.tmp 0), 0, [], true⟩,
  ⟨(some 21), none, .nilCheck (.tmp 20), 1, [], true⟩,
  ⟨(some 22), none, .fieldAddr 1 (.tmp 21), 2, [], true⟩,
  ⟨(some 23), none, .load 1 false (.tmp 22), 3, [], true⟩,
  ⟨(some 24), none, .bin .add (.tmp 23) (.const (.int .i64 1)), 4, [], true⟩,
  ⟨(some 25), none, .nilCheck (.tmp 20), 5, [], true⟩,
  ⟨(some 26), none, .fieldAddr 1 (.tmp 25), 6, [], true⟩,
  ⟨none, none, .store 1 (.tmp 26) (.tmp 24), 7, [], true⟩])
 (.seq (.region 1 [
  ⟨(some 2), none, .mv (.const (.int .i64 0)), 0, [], true⟩])
 .ret)))))⟩

end Ev
