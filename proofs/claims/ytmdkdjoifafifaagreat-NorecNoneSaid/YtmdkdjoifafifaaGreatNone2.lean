/- NorecNone: for every deed, every values and number the law returns true, and each argument reads as it did; by an evaluator of the compiled code that is proved sound for the model. Part 2 of 8. -/
import Derived.Test.YtmdkdjoifafifaaGreatNone1
set_option linter.unusedSimpArgs false
set_option linter.unusedVariables false

/- Compiled functions. -/
namespace Ev
open Go

def m36 : MFn := ⟨26, [(4, none)], (.seq (.region 1 [
  ⟨(some 4), none, .mv (.const (.bool false)), 0, [], true⟩])
 (.seq (.seq (.region 5 [
  ⟨(some 6), none, .mv (.tmp 0), 0, [], true⟩,
  ⟨(some 7), none, .len false (.tmp 6), 1, [], true⟩,
  ⟨(some 8), none, .mv (.tmp 1), 2, [], true⟩,
  ⟨(some 9), none, .len false (.tmp 8), 3, [], true⟩,
  ⟨(some 10), none, .bin .neq (.tmp 7) (.tmp 9), 4, [], true⟩])
 (.cond (.tmp 10) (.seq (.region 1 [
  ⟨(some 4), none, .mv (.const (.bool false)), 0, [], true⟩])
 .ret) .skip))
 (.seq (.seq (.region 1 [
  ⟨(some 5), none, .mv (.const (.int .i64 0)), 0, [], true⟩])
 (.block 0 (.loop (.seq (.seq (.region 4 [
  ⟨(some 11), none, .mv (.tmp 5), 0, [], true⟩,
  ⟨(some 12), none, .mv (.tmp 0), 1, [], true⟩,
  ⟨(some 13), none, .len false (.tmp 12), 2, [], true⟩,
  ⟨(some 14), none, .bin .lss (.tmp 11) (.tmp 13), 3, [], true⟩])
 (.cond (.tmp 14) .skip (.exit 0)))
 (.seq (.block 1 (.seq (.region 9 [
  ⟨(some 17), none, .mv (.tmp 0), 0, [], true⟩,
  ⟨(some 18), none, .mv (.tmp 5), 1, [], false⟩,
  ⟨(some 19), none, .adSl 2 (.tmp 17) (.tmp 18), 2, [], true⟩,
  ⟨(some 20), none, .load 2 true (.tmp 19), 3, [], true⟩,
  ⟨(some 21), none, .mv (.tmp 1), 4, [], false⟩,
  ⟨(some 22), none, .mv (.tmp 5), 5, [], false⟩,
  ⟨(some 23), none, .adSl 2 (.tmp 21) (.tmp 22), 6, [], false⟩,
  ⟨(some 24), none, .load 2 true (.tmp 23), 7, [], false⟩,
  ⟨(some 25), none, .eq true (.st [(0, 1, false, .int), (1, 1, false, .int)]) (.tmp 20) (.tmp 24), 8, [], true⟩])
 (.cond (.tmp 25) (.seq (.region 1 [
  ⟨(some 4), none, .mv (.const (.bool false)), 0, [], true⟩])
 .ret) .skip)))
 (.region 3 [
  ⟨(some 15), none, .mv (.tmp 5), 0, [], true⟩,
  ⟨(some 16), none, .bin .add (.tmp 15) (.const (.int .i64 1)), 1, [], true⟩,
  ⟨(some 5), none, .mv (.tmp 16), 2, [], true⟩]))))))
 (.seq (.region 1 [
  ⟨(some 4), none, .mv (.const (.bool true)), 0, [], true⟩])
 .ret))))⟩

def m37 : MFn := ⟨16, [(4, none)], (.seq (.region 1 [
  ⟨(some 4), none, .mv (.const (.slice none 0 0)), 0, [], true⟩])
 (.seq (.seq (.region 4 [
  ⟨(some 6), none, .mv (.tmp 0), 0, [], true⟩,
  ⟨(some 7), none, .mv (.tmp 1), 1, [], true⟩,
  ⟨(some 8), none, .call (.func 90) [(.tmp 6), (.tmp 7)], 2, [], true⟩,
  ⟨(some 5), none, .mv (.tmp 8), 3, [], true⟩])
 (.seq (.region 2 [
  ⟨(some 9), none, .mv (.tmp 5), 0, [], true⟩,
  ⟨(some 10), none, .eq true .ptr (.tmp 9) (.const (.pointer none)), 1, [], true⟩])
 (.cond (.tmp 10) (.seq (.region 6 [
  ⟨(some 11), none, .mv (.tmp 5), 0, [], true⟩,
  ⟨(some 12), none, .nilCheck (.tmp 11), 1, [], true⟩,
  ⟨(some 13), none, .fieldAddr 3 (.tmp 12), 2, [], true⟩,
  ⟨(some 14), none, .load 1 false (.tmp 13), 3, [], true⟩,
  ⟨(some 15), none, .call (.func 92) [(.tmp 14)], 4, [], true⟩,
  ⟨(some 4), none, .mv (.tmp 15), 5, [], true⟩])
 .ret) .skip)))
 (.seq (.region 1 [
  ⟨(some 4), none, .mv (.const (.slice none 0 0)), 0, [], true⟩])
 .ret)))⟩

def m38 : MFn := ⟨23, [(4, none)], (.seq (.region 1 [
  ⟨(some 4), none, .mv (.const (.bool false)), 0, [], true⟩])
 (.seq (.seq (.region 2 [
  ⟨(some 7), none, .mv (.tmp 0), 0, [], true⟩,
  ⟨(some 8), none, .eq false .ptr (.tmp 7) (.const (.pointer none)), 1, [], true⟩])
 (.cond (.tmp 8) (.seq (.region 1 [
  ⟨(some 4), none, .mv (.const (.bool false)), 0, [], true⟩])
 .ret) .skip))
 (.seq (.region 10 [
  ⟨(some 10), none, .mv (.tmp 0), 0, [], true⟩,
  ⟨(some 11), none, .nilCheck (.tmp 10), 1, [], true⟩,
  ⟨(some 12), none, .fieldAddr 1 (.tmp 11), 2, [], true⟩,
  ⟨(some 13), none, .load 1 false (.tmp 12), 3, [], true⟩,
  ⟨(some 14), none, .call (.func 93) [(.tmp 13)], 4, [], true⟩,
  ⟨(some 9), none, .mv (.tmp 14), 5, [], true⟩,
  ⟨(some 15), none, .extract (.tmp 9) 0, 6, [], true⟩,
  ⟨(some 16), none, .extract (.tmp 9) 1, 7, [], true⟩,
  ⟨(some 5), none, .mv (.tmp 15), 8, [], true⟩,
  ⟨(some 6), none, .mv (.tmp 16), 9, [], true⟩])
 (.seq (.region 7 [
  ⟨(some 17), none, .mv (.tmp 6), 0, [], true⟩,
  ⟨(some 18), none, .mv (.tmp 17), 1, [], true⟩,
  ⟨(some 19), (some (18, true)), .mv (.tmp 5), 2, [], true⟩,
  ⟨(some 20), (some (18, true)), .mv (.tmp 1), 3, [], true⟩,
  ⟨(some 21), (some (18, true)), .bin .eql (.tmp 19) (.tmp 20), 4, [], true⟩,
  ⟨(some 22), none, .pick (.tmp 18) (.tmp 21) (.const (.bool false)), 5, [], true⟩,
  ⟨(some 4), none, .mv (.tmp 22), 6, [], true⟩])
 .ret))))⟩

def m39 : MFn := ⟨34, [(4, none)], (.seq (.region 1 [
  ⟨(some 4), none, .mv (.const (.bool false)), 0, [], true⟩])
 (.seq (.region 4 [
  ⟨(some 8), none, .mv (.tmp 0), 0, [], true⟩,
  ⟨(some 9), none, .mv (.tmp 1), 1, [], true⟩,
  ⟨(some 10), none, .call (.func 90) [(.tmp 8), (.tmp 9)], 2, [], true⟩,
  ⟨(some 5), none, .mv (.tmp 10), 3, [], true⟩])
 (.seq (.seq (.region 2 [
  ⟨(some 11), none, .mv (.tmp 5), 0, [], true⟩,
  ⟨(some 12), none, .eq false .ptr (.tmp 11) (.const (.pointer none)), 1, [], true⟩])
 (.cond (.tmp 12) (.seq (.region 1 [
  ⟨(some 4), none, .mv (.const (.bool false)), 0, [], true⟩])
 .ret) .skip))
 (.seq (.region 10 [
  ⟨(some 14), none, .mv (.tmp 0), 0, [], true⟩,
  ⟨(some 15), none, .nilCheck (.tmp 14), 1, [], true⟩,
  ⟨(some 16), none, .fieldAddr 1 (.tmp 15), 2, [], true⟩,
  ⟨(some 17), none, .load 1 false (.tmp 16), 3, [], true⟩,
  ⟨(some 18), none, .call (.func 93) [(.tmp 17)], 4, [], true⟩,
  ⟨(some 13), none, .mv (.tmp 18), 5, [], true⟩,
  ⟨(some 19), none, .extract (.tmp 13) 0, 6, [], true⟩,
  ⟨(some 20), none, .extract (.tmp 13) 1, 7, [], true⟩,
  ⟨(some 6), none, .mv (.tmp 19), 8, [], true⟩,
  ⟨(some 7), none, .mv (.tmp 20), 9, [], true⟩])
 (.seq (.region 14 [
  ⟨(some 21), none, .mv (.tmp 7), 0, [], true⟩,
  ⟨(some 22), none, .un .not (.tmp 21), 1, [], true⟩,
  ⟨(some 23), none, .mv (.tmp 22), 2, [], true⟩,
  ⟨(some 24), (some (23, true)), .mv (.tmp 5), 3, [], true⟩,
  ⟨(some 25), (some (23, true)), .nilCheck (.tmp 24), 4, [], true⟩,
  ⟨(some 26), (some (23, true)), .fieldAddr 2 (.tmp 25), 5, [], true⟩,
  ⟨(some 27), (some (23, true)), .load 1 false (.tmp 26), 6, [], true⟩,
  ⟨(some 28), (some (23, true)), .mv (.tmp 0), 7, [], false⟩,
  ⟨(some 29), (some (23, true)), .nilCheck (.tmp 28), 8, [], false⟩,
  ⟨(some 30), (some (23, true)), .fieldAddr 0 (.tmp 29), 9, [], false⟩,
  ⟨(some 31), (some (23, true)), .load 1 false (.tmp 30), 10, [], false⟩,
  ⟨(some 32), (some (23, true)), .call (.func 94) [(.tmp 27), (.tmp 31)], 11, [], true⟩,
  ⟨(some 33), none, .pick (.tmp 23) (.tmp 32) (.const (.bool false)), 12, [], true⟩,
  ⟨(some 4), none, .mv (.tmp 33), 13, [], true⟩])
 .ret)))))⟩

def m40 : MFn := ⟨28, [(4, none)], (.seq (.region 1 [
  ⟨(some 4), none, .mv (.const (.int .u8 0)), 0, [], true⟩])
 (.seq (.seq (.region 15 [
  ⟨(some 5), none, .mv (.tmp 0), 0, [], true⟩,
  ⟨(some 6), none, .eq false .ptr (.tmp 5) (.const (.pointer none)), 1, [], true⟩,
  ⟨(some 7), none, .mv (.tmp 6), 2, [], true⟩,
  ⟨(some 8), (some (7, false)), .mv (.tmp 1), 3, [], true⟩,
  ⟨(some 9), (some (7, false)), .bin .lss (.tmp 8) (.const (.int .i64 0)), 4, [], true⟩,
  ⟨(some 10), none, .pick (.tmp 7) (.const (.bool true)) (.tmp 9), 5, [], true⟩,
  ⟨(some 11), none, .mv (.tmp 10), 6, [], true⟩,
  ⟨(some 12), (some (11, false)), .mv (.tmp 1), 7, [], true⟩,
  ⟨(some 13), (some (11, false)), .mv (.tmp 0), 8, [], true⟩,
  ⟨(some 14), (some (11, false)), .nilCheck (.tmp 13), 9, [], true⟩,
  ⟨(some 15), (some (11, false)), .fieldAddr 7 (.tmp 14), 10, [], true⟩,
  ⟨(some 16), (some (11, false)), .load 1 false (.tmp 15), 11, [], true⟩,
  ⟨(some 17), (some (11, false)), .len false (.tmp 16), 12, [], true⟩,
  ⟨(some 18), (some (11, false)), .bin .geq (.tmp 12) (.tmp 17), 13, [], true⟩,
  ⟨(some 19), none, .pick (.tmp 11) (.const (.bool true)) (.tmp 18), 14, [], true⟩])
 (.cond (.tmp 19) (.seq (.region 1 [
  ⟨(some 4), none, .mv (.const (.int .u8 0)), 0, [], true⟩])
 .ret) .skip))
 (.seq (.region 9 [
  ⟨(some 20), none, .mv (.tmp 0), 0, [], true⟩,
  ⟨(some 21), none, .nilCheck (.tmp 20), 1, [], true⟩,
  ⟨(some 22), none, .fieldAddr 7 (.tmp 21), 2, [], true⟩,
  ⟨(some 23), none, .load 1 false (.tmp 22), 3, [], true⟩,
  ⟨(some 24), none, .mv (.tmp 1), 4, [], true⟩,
  ⟨(some 25), none, .adSl 2 (.tmp 23) (.tmp 24), 5, [], true⟩,
  ⟨(some 26), none, .fieldAddr 1 (.tmp 25), 6, [], true⟩,
  ⟨(some 27), none, .load 1 false (.tmp 26), 7, [], true⟩,
  ⟨(some 4), none, .mv (.tmp 27), 8, [], true⟩])
 .ret)))⟩

def m41 : MFn := ⟨26, [(4, none)], (.seq (.region 1 [
  ⟨(some 4), none, .mv (.const (.bool false)), 0, [], true⟩])
 (.seq (.seq (.region 5 [
  ⟨(some 6), none, .mv (.tmp 0), 0, [], true⟩,
  ⟨(some 7), none, .len false (.tmp 6), 1, [], true⟩,
  ⟨(some 8), none, .mv (.tmp 1), 2, [], true⟩,
  ⟨(some 9), none, .len false (.tmp 8), 3, [], true⟩,
  ⟨(some 10), none, .bin .neq (.tmp 7) (.tmp 9), 4, [], true⟩])
 (.cond (.tmp 10) (.seq (.region 1 [
  ⟨(some 4), none, .mv (.const (.bool false)), 0, [], true⟩])
 .ret) .skip))
 (.seq (.seq (.region 1 [
  ⟨(some 5), none, .mv (.const (.int .i64 0)), 0, [], true⟩])
 (.block 0 (.loop (.seq (.seq (.region 4 [
  ⟨(some 11), none, .mv (.tmp 5), 0, [], true⟩,
  ⟨(some 12), none, .mv (.tmp 0), 1, [], true⟩,
  ⟨(some 13), none, .len false (.tmp 12), 2, [], true⟩,
  ⟨(some 14), none, .bin .lss (.tmp 11) (.tmp 13), 3, [], true⟩])
 (.cond (.tmp 14) .skip (.exit 0)))
 (.seq (.block 1 (.seq (.region 9 [
  ⟨(some 17), none, .mv (.tmp 0), 0, [], true⟩,
  ⟨(some 18), none, .mv (.tmp 5), 1, [], false⟩,
  ⟨(some 19), none, .adSl 1 (.tmp 17) (.tmp 18), 2, [], true⟩,
  ⟨(some 20), none, .load 1 false (.tmp 19), 3, [], true⟩,
  ⟨(some 21), none, .mv (.tmp 1), 4, [], false⟩,
  ⟨(some 22), none, .mv (.tmp 5), 5, [], false⟩,
  ⟨(some 23), none, .adSl 1 (.tmp 21) (.tmp 22), 6, [], false⟩,
  ⟨(some 24), none, .load 1 false (.tmp 23), 7, [], false⟩,
  ⟨(some 25), none, .bin .neq (.tmp 20) (.tmp 24), 8, [], true⟩])
 (.cond (.tmp 25) (.seq (.region 1 [
  ⟨(some 4), none, .mv (.const (.bool false)), 0, [], true⟩])
 .ret) .skip)))
 (.region 3 [
  ⟨(some 15), none, .mv (.tmp 5), 0, [], true⟩,
  ⟨(some 16), none, .bin .add (.tmp 15) (.const (.int .i64 1)), 1, [], true⟩,
  ⟨(some 5), none, .mv (.tmp 16), 2, [], true⟩]))))))
 (.seq (.region 1 [
  ⟨(some 4), none, .mv (.const (.bool true)), 0, [], true⟩])
 .ret))))⟩

def m42 : MFn := ⟨11, [(2, none)], (.seq (.region 1 [
  ⟨(some 2), none, .mv (.const (.slice none 0 0)), 0, [], true⟩])
 (.seq (.seq (.region 2 [
  ⟨(some 3), none, .mv (.tmp 0), 0, [], true⟩,
  ⟨(some 4), none, .eq false .ptr (.tmp 3) (.const (.pointer none)), 1, [], true⟩])
 (.cond (.tmp 4) (.seq (.region 1 [
  ⟨(some 2), none, .mv (.const (.slice none 0 0)), 0, [], true⟩])
 .ret) .skip))
 (.seq (.region 7 [
  ⟨(some 5), none, .buildSl 35 1 0 [] [], 0, [], true⟩,
  ⟨(some 6), none, .mv (.tmp 0), 1, [], true⟩,
  ⟨(some 7), none, .nilCheck (.tmp 6), 2, [], true⟩,
  ⟨(some 8), none, .fieldAddr 0 (.tmp 7), 3, [], true⟩,
  ⟨(some 9), none, .load 1 false (.tmp 8), 4, [], true⟩,
  ⟨(some 10), none, .append 35 1 8 (.tmp 5) (.tmp 9), 5, [], true⟩,
  ⟨(some 2), none, .mv (.tmp 10), 6, [], true⟩])
 .ret)))⟩

def m43 : MFn := ⟨26, [(4, none)], (.seq (.region 1 [
  ⟨(some 4), none, .mv (.const (.bool false)), 0, [], true⟩])
 (.seq (.seq (.region 5 [
  ⟨(some 6), none, .mv (.tmp 0), 0, [], true⟩,
  ⟨(some 7), none, .len false (.tmp 6), 1, [], true⟩,
  ⟨(some 8), none, .mv (.tmp 1), 2, [], true⟩,
  ⟨(some 9), none, .len false (.tmp 8), 3, [], true⟩,
  ⟨(some 10), none, .bin .neq (.tmp 7) (.tmp 9), 4, [], true⟩])
 (.cond (.tmp 10) (.seq (.region 1 [
  ⟨(some 4), none, .mv (.const (.bool false)), 0, [], true⟩])
 .ret) .skip))
 (.seq (.seq (.region 1 [
  ⟨(some 5), none, .mv (.const (.int .i64 0)), 0, [], true⟩])
 (.block 0 (.loop (.seq (.seq (.region 4 [
  ⟨(some 11), none, .mv (.tmp 5), 0, [], true⟩,
  ⟨(some 12), none, .mv (.tmp 0), 1, [], true⟩,
  ⟨(some 13), none, .len false (.tmp 12), 2, [], true⟩,
  ⟨(some 14), none, .bin .lss (.tmp 11) (.tmp 13), 3, [], true⟩])
 (.cond (.tmp 14) .skip (.exit 0)))
 (.seq (.block 1 (.seq (.region 9 [
  ⟨(some 17), none, .mv (.tmp 0), 0, [], true⟩,
  ⟨(some 18), none, .mv (.tmp 5), 1, [], false⟩,
  ⟨(some 19), none, .adSl 4 (.tmp 17) (.tmp 18), 2, [], true⟩,
  ⟨(some 20), none, .load 4 true (.tmp 19), 3, [], true⟩,
  ⟨(some 21), none, .mv (.tmp 1), 4, [], false⟩,
  ⟨(some 22), none, .mv (.tmp 5), 5, [], false⟩,
  ⟨(some 23), none, .adSl 4 (.tmp 21) (.tmp 22), 6, [], false⟩,
  ⟨(some 24), none, .load 4 true (.tmp 23), 7, [], false⟩,
  ⟨(some 25), none, .eq true (.st [(0, 1, false, .int), (1, 1, false, .int), (2, 1, false, .int), (3, 1, false, .int)]) (.tmp 20) (.tmp 24), 8, [], true⟩])
 (.cond (.tmp 25) (.seq (.region 1 [
  ⟨(some 4), none, .mv (.const (.bool false)), 0, [], true⟩])
 .ret) .skip)))
 (.region 3 [
  ⟨(some 15), none, .mv (.tmp 5), 0, [], true⟩,
  ⟨(some 16), none, .bin .add (.tmp 15) (.const (.int .i64 1)), 1, [], true⟩,
  ⟨(some 5), none, .mv (.tmp 16), 2, [], true⟩]))))))
 (.seq (.region 1 [
  ⟨(some 4), none, .mv (.const (.bool true)), 0, [], true⟩])
 .ret))))⟩

def m44 : MFn := ⟨11, [(2, none)], (.seq (.region 1 [
  ⟨(some 2), none, .mv (.const (.slice none 0 0)), 0, [], true⟩])
 (.seq (.seq (.region 2 [
  ⟨(some 3), none, .mv (.tmp 0), 0, [], true⟩,
  ⟨(some 4), none, .eq false .ptr (.tmp 3) (.const (.pointer none)), 1, [], true⟩])
 (.cond (.tmp 4) (.seq (.region 1 [
  ⟨(some 2), none, .mv (.const (.slice none 0 0)), 0, [], true⟩])
 .ret) .skip))
 (.seq (.region 7 [
  ⟨(some 5), none, .buildSl 87 4 0 [] [], 0, [], true⟩,
  ⟨(some 6), none, .mv (.tmp 0), 1, [], true⟩,
  ⟨(some 7), none, .nilCheck (.tmp 6), 2, [], true⟩,
  ⟨(some 8), none, .fieldAddr 6 (.tmp 7), 3, [], true⟩,
  ⟨(some 9), none, .load 1 false (.tmp 8), 4, [], true⟩,
  ⟨(some 10), none, .append 87 4 32 (.tmp 5) (.tmp 9), 5, [], true⟩,
  ⟨(some 2), none, .mv (.tmp 10), 6, [], true⟩])
 .ret)))⟩

def m45 : MFn := ⟨26, [(4, none)], (.seq (.region 1 [
  ⟨(some 4), none, .mv (.const (.bool false)), 0, [], true⟩])
 (.seq (.seq (.region 5 [
  ⟨(some 6), none, .mv (.tmp 0), 0, [], true⟩,
  ⟨(some 7), none, .len false (.tmp 6), 1, [], true⟩,
  ⟨(some 8), none, .mv (.tmp 1), 2, [], true⟩,
  ⟨(some 9), none, .len false (.tmp 8), 3, [], true⟩,
  ⟨(some 10), none, .bin .neq (.tmp 7) (.tmp 9), 4, [], true⟩])
 (.cond (.tmp 10) (.seq (.region 1 [
  ⟨(some 4), none, .mv (.const (.bool false)), 0, [], true⟩])
 .ret) .skip))
 (.seq (.seq (.region 1 [
  ⟨(some 5), none, .mv (.const (.int .i64 0)), 0, [], true⟩])
 (.block 0 (.loop (.seq (.seq (.region 4 [
  ⟨(some 11), none, .mv (.tmp 5), 0, [], true⟩,
  ⟨(some 12), none, .mv (.tmp 0), 1, [], true⟩,
  ⟨(some 13), none, .len false (.tmp 12), 2, [], true⟩,
  ⟨(some 14), none, .bin .lss (.tmp 11) (.tmp 13), 3, [], true⟩])
 (.cond (.tmp 14) .skip (.exit 0)))
 (.seq (.block 1 (.seq (.region 9 [
  ⟨(some 17), none, .mv (.tmp 0), 0, [], true⟩,
  ⟨(some 18), none, .mv (.tmp 5), 1, [], false⟩,
  ⟨(some 19), none, .adSl 1 (.tmp 17) (.tmp 18), 2, [], true⟩,
  ⟨(some 20), none, .load 1 false (.tmp 19), 3, [], true⟩,
  ⟨(some 21), none, .mv (.tmp 1), 4, [], false⟩,
  ⟨(some 22), none, .mv (.tmp 5), 5, [], false⟩,
  ⟨(some 23), none, .adSl 1 (.tmp 21) (.tmp 22), 6, [], false⟩,
  ⟨(some 24), none, .load 1 false (.tmp 23), 7, [], false⟩,
  ⟨(some 25), none, .bin .neq (.tmp 20) (.tmp 24), 8, [], true⟩])
 (.cond (.tmp 25) (.seq (.region 1 [
  ⟨(some 4), none, .mv (.const (.bool false)), 0, [], true⟩])
 .ret) .skip)))
 (.region 3 [
  ⟨(some 15), none, .mv (.tmp 5), 0, [], true⟩,
  ⟨(some 16), none, .bin .add (.tmp 15) (.const (.int .i64 1)), 1, [], true⟩,
  ⟨(some 5), none, .mv (.tmp 16), 2, [], true⟩]))))))
 (.seq (.region 1 [
  ⟨(some 4), none, .mv (.const (.bool true)), 0, [], true⟩])
 .ret))))⟩

def m46 : MFn := ⟨59, [(2, none)], (.seq (.region 1 [
  ⟨(some 2), none, .mv (.const (.slice none 0 0)), 0, [], true⟩])
 (.seq (.region 1 [
  ⟨(some 3), none, .mv (.const (.slice none 0 0)), 0, [], true⟩])
 (.seq (.seq (.region 1 [
  ⟨(some 4), none, .mv (.const (.int .i64 0)), 0, [], true⟩])
 (.block 0 (.loop (.seq (.seq (.region 11 [
  ⟨(some 6), none, .mv (.tmp 0), 0, [], true⟩,
  ⟨(some 7), none, .eq true .ptr (.tmp 6) (.const (.pointer none)), 1, [], true⟩,
  ⟨(some 8), none, .mv (.tmp 7), 2, [], true⟩,
  ⟨(some 9), (some (8, true)), .mv (.tmp 4), 3, [], true⟩,
  ⟨(some 10), (some (8, true)), .mv (.tmp 0), 4, [], true⟩,
  ⟨(some 11), (some (8, true)), .nilCheck (.tmp 10), 5, [], true⟩,
  ⟨(some 12), (some (8, true)), .fieldAddr 7 (.tmp 11), 6, [], true⟩,
  ⟨(some 13), (some (8, true)), .load 1 false (.tmp 12), 7, [], true⟩,
  ⟨(some 14), (some (8, true)), .len false (.tmp 13), 8, [], true⟩,
  ⟨(some 15), (some (8, true)), .bin .lss (.tmp 9) (.tmp 14), 9, [], true⟩,
  ⟨(some 16), none, .pick (.tmp 8) (.tmp 15) (.const (.bool false)), 10, [], true⟩])
 (.cond (.tmp 16) .skip (.exit 0)))
 (.seq (.block 1 (.seq (.region 1 [
  ⟨(some 5), none, .mv (.const (.int .i64 0)), 0, [], true⟩])
 (.seq (.block 2 (.loop (.seq (.seq (.region 26 [
  ⟨(some 19), none, .mv (.tmp 5), 0, [], true⟩,
  ⟨(some 20), none, .mv (.tmp 3), 1, [], false⟩,
  ⟨(some 21), none, .len false (.tmp 20), 2, [], false⟩,
  ⟨(some 22), none, .bin .lss (.tmp 19) (.tmp 21), 3, [], true⟩,
  ⟨(some 23), none, .mv (.tmp 22), 4, [], true⟩,
  ⟨(some 24), (some (23, true)), .mv (.tmp 0), 5, [], true⟩,
  ⟨(some 25), (some (23, true)), .nilCheck (.tmp 24), 6, [], true⟩,
  ⟨(some 26), (some (23, true)), .fieldAddr 7 (.tmp 25), 7, [], true⟩,
  ⟨(some 27), (some (23, true)), .load 1 false (.tmp 26), 8, [], true⟩,
  ⟨(some 28), (some (23, true)), .mv (.tmp 3), 9, [], false⟩,
  ⟨(some 29), (some (23, true)), .mv (.tmp 5), 10, [], false⟩,
  ⟨(some 30), (some (23, true)), .adSl 1 (.tmp 28) (.tmp 29), 11, [], false⟩,
  ⟨(some 31), (some (23, true)), .load 1 false (.tmp 30), 12, [], false⟩,
  ⟨(some 32), (some (23, true)), .adSl 2 (.tmp 27) (.tmp 31), 13, [], true⟩,
  ⟨(some 33), (some (23, true)), .fieldAddr 0 (.tmp 32), 14, [], true⟩,
  ⟨(some 34), (some (23, true)), .load 1 false (.tmp 33), 15, [], true⟩,
  ⟨(some 35), (some (23, true)), .mv (.tmp 0), 16, [], false⟩,
  ⟨(some 36), (some (23, true)), .nilCheck (.tmp 35), 17, [], false⟩,
  ⟨(some 37), (some (23, true)), .fieldAddr 7 (.tmp 36), 18, [], false⟩,
  ⟨(some 38), (some (23, true)), .load 1 false (.tmp 37), 19, [], false⟩,
  ⟨(some 39), (some (23, true)), .mv (.tmp 4), 20, [], false⟩,
  ⟨(some 40), (some (23, true)), .adSl 2 (.tmp 38) (.tmp 39), 21, [], false⟩,
  ⟨(some 41), (some (23, true)), .fieldAddr 0 (.tmp 40), 22, [], false⟩,
  ⟨(some 42), (some (23, true)), .load 1 false (.tmp 41), 23, [], false⟩,
  ⟨(some 43), (some (23, true)), .bin .leq (.tmp 34) (.tmp 42), 24, [], true⟩,
  ⟨(some 44), none, .pick (.tmp 23) (.tmp 43) (.const (.bool false)), 25, [], true⟩])
 (.cond (.tmp 44) .skip (.exit 2)))
 (.block 3 (.region 3 [
  ⟨(some 45), none, .mv (.tmp 5), 0, [], true⟩,
  ⟨(some 46), none, .bin .add (.tmp 45) (.const (.int .i64 1)), 1, [], true⟩,
  ⟨(some 5), none, .mv (.tmp 46), 2, [], true⟩])))))
 (.region 12 [
  ⟨(some 47), none, .mv (.tmp 3), 0, [], true⟩,
  ⟨(some 48), none, .mv (.tmp 5), 1, [], false⟩,
  ⟨(some 49), none, .mv (.tmp 5), 2, [], false⟩,
  ⟨(some 50), none, .slSl 1 (.tmp 47) none (some (.tmp 48)) (some (.tmp 49)), 3, [], true⟩,
  ⟨(some 51), none, .mv (.tmp 4), 4, [], false⟩,
  ⟨(some 52), none, .buildSl 3 1 1 [(.int .i64 0)] [(0, 1, (.tmp 51))], 5, [], false⟩,
  ⟨(some 53), none, .mv (.tmp 3), 6, [], false⟩,
  ⟨(some 54), none, .mv (.tmp 5), 7, [], false⟩,
  ⟨(some 55), none, .slSl 1 (.tmp 53) (some (.tmp 54)) none none, 8, [], false⟩,
  ⟨(some 56), none, .append 3 1 8 (.tmp 52) (.tmp 55), 9, [], false⟩,
  ⟨(some 57), none, .append 3 1 8 (.tmp 50) (.tmp 56), 10, [], true⟩,
  ⟨(some 3), none, .mv (.tmp 57), 11, [], true⟩]))))
 (.region 3 [
  ⟨(some 17), none, .mv (.tmp 4), 0, [], true⟩,
  ⟨(some 18), none, .bin .add (.tmp 17) (.const (.int .i64 1)), 1, [], true⟩,
  ⟨(some 4), none, .mv (.tmp 18), 2, [], true⟩]))))))
 (.seq (.region 2 [
  ⟨(some 58), none, .mv (.tmp 3), 0, [], true⟩,
  ⟨(some 2), none, .mv (.tmp 58), 1, [], true⟩])
 .ret))))⟩

def m47 : MFn := ⟨59, [(2, none)], (.seq (.region 1 [
  ⟨(some 2), none, .mv (.const (.slice none 0 0)), 0, [], true⟩])
 (.seq (.region 1 [
  ⟨(some 3), none, .mv (.const (.slice none 0 0)), 0, [], true⟩])
 (.seq (.seq (.region 1 [
  ⟨(some 4), none, .mv (.const (.int .i64 0)), 0, [], true⟩])
 (.block 0 (.loop (.seq (.seq (.region 11 [
  ⟨(some 6), none, .mv (.tmp 0), 0, [], true⟩,
  ⟨(some 7), none, .eq true .ptr (.tmp 6) (.const (.pointer none)), 1, [], true⟩,
  ⟨(some 8), none, .mv (.tmp 7), 2, [], true⟩,
  ⟨(some 9), (some (8, true)), .mv (.tmp 4), 3, [], true⟩,
  ⟨(some 10), (some (8, true)), .mv (.tmp 0), 4, [], true⟩,
  ⟨(some 11), (some (8, true)), .nilCheck (.tmp 10), 5, [], true⟩,
  ⟨(some 12), (some (8, true)), .fieldAddr 7 (.tmp 11), 6, [], true⟩,
  ⟨(some 13), (some (8, true)), .load 1 false (.tmp 12), 7, [], true⟩,
  ⟨(some 14), (some (8, true)), .len false (.tmp 13), 8, [], true⟩,
  ⟨(some 15), (some (8, true)), .bin .lss (.tmp 9) (.tmp 14), 9, [], true⟩,
  ⟨(some 16), none, .pick (.tmp 8) (.tmp 15) (.const (.bool false)), 10, [], true⟩])
 (.cond (.tmp 16) .skip (.exit 0)))
 (.seq (.block 1 (.seq (.region 1 [
  ⟨(some 5), none, .mv (.const (.int .i64 0)), 0, [], true⟩])
 (.block 2 (.loop (.seq (.seq (.region 2 [
  ⟨(some 19), none, .mv (.tmp 5), 0, [], true⟩,
  ⟨(some 20), none, .bin .lss (.tmp 19) (.const (.int .i64 4)), 1, [], true⟩])
 (.cond (.tmp 20) .skip (.exit 2)))
 (.seq (.block 3 (.seq (.region 31 [
  ⟨(some 23), none, .mv (.tmp 0), 0, [], true⟩,
  ⟨(some 24), none, .mv (.tmp 5), 1, [], true⟩,
  ⟨(some 25), none, .nilCheck (.tmp 23), 2, [], true⟩,
  ⟨(some 26), none, .fieldAddr 2 (.tmp 25), 3, [], true⟩,
  ⟨(some 27), none, .adArr 4 1 (.tmp 26) (.tmp 24), 4, [], true⟩,
  ⟨(some 28), none, .load 1 false (.tmp 27), 5, [], true⟩,
  ⟨(some 29), none, .eq true .ptr (.tmp 28) (.const (.pointer none)), 6, [], true⟩,
  ⟨(some 30), none, .mv (.tmp 29), 7, [], true⟩,
  ⟨(some 31), (some (30, true)), .mv (.tmp 0), 8, [], true⟩,
  ⟨(some 32), (some (30, true)), .mv (.tmp 5), 9, [], true⟩,
  ⟨(some 33), (some (30, true)), .nilCheck (.tmp 31), 10, [], true⟩,
  ⟨(some 34), (some (30, true)), .fieldAddr 2 (.tmp 33), 11, [], true⟩,
  ⟨(some 35), (some (30, true)), .adArr 4 1 (.tmp 34) (.tmp 32), 12, [], true⟩,
  ⟨(some 36), (some (30, true)), .load 1 false (.tmp 35), 13, [], true⟩,
  ⟨(some 37), (some (30, true)), .nilCheck (.tmp 36), 14, [], true⟩,
  ⟨(some 38), (some (30, true)), .fieldAddr 0 (.tmp 37), 15, [], true⟩,
  ⟨(some 39), (some (30, true)), .load 1 false (.tmp 38), 16, [], true⟩,
  ⟨(some 40), (some (30, true)), .mv (.tmp 4), 17, [], true⟩,
  ⟨(some 41), (some (30, true)), .bin .eql (.tmp 39) (.tmp 40), 18, [], true⟩,
  ⟨(some 42), none, .pick (.tmp 30) (.tmp 41) (.const (.bool false)), 19, [], true⟩,
  ⟨(some 43), none, .mv (.tmp 42), 20, [], true⟩,
  ⟨(some 44), (some (43, true)), .mv (.tmp 0), 21, [], true⟩,
  ⟨(some 45), (some (43, true)), .mv (.tmp 5), 22, [], true⟩,
  ⟨(some 46), (some (43, true)), .nilCheck (.tmp 44), 23, [], true⟩,
  ⟨(some 47), (some (43, true)), .fieldAddr 2 (.tmp 46), 24, [], true⟩,
  ⟨(some 48), (some (43, true)), .adArr 4 1 (.tmp 47) (.tmp 45), 25, [], true⟩,
  ⟨(some 49), (some (43, true)), .load 1 false (.tmp 48), 26, [], true⟩,
  ⟨(some 50), (some (43, true)), .nilCheck (.tmp 49), 27, [], true⟩,
  ⟨(some 51), (some (43, true)), .fieldAddr 13 (.tmp 50), 28, [], true⟩,
  ⟨(some 52), (some (43, true)), .load 1 false (.tmp 51), 29, [], true⟩,
  ⟨(some 53), none, .pick (.tmp 43) (.tmp 52) (.const (.bool false)), 30, [], true⟩])
 (.cond (.tmp 53) (.region 5 [
  ⟨(some 54), none, .mv (.tmp 3), 0, [], true⟩,
  ⟨(some 55), none, .mv (.tmp 4), 1, [], true⟩,
  ⟨(some 56), none, .buildSl 3 1 1 [(.int .i64 0)] [(0, 1, (.tmp 55))], 2, [], true⟩,
  ⟨(some 57), none, .append 3 1 8 (.tmp 54) (.tmp 56), 3, [], true⟩,
  ⟨(some 3), none, .mv (.tmp 57), 4, [], true⟩]) .skip)))
 (.region 3 [
  ⟨(some 21), none, .mv (.tmp 5), 0, [], true⟩,
  ⟨(some 22), none, .bin .add (.tmp 21) (.const (.int .i64 1)), 1, [], true⟩,
  ⟨(some 5), none, .mv (.tmp 22), 2, [], true⟩])))))))
 (.region 3 [
  ⟨(some 17), none, .mv (.tmp 4), 0, [], true⟩,
  ⟨(some 18), none, .bin .add (.tmp 17) (.const (.int .i64 1)), 1, [], true⟩,
  ⟨(some 4), none, .mv (.tmp 18), 2, [], true⟩]))))))
 (.seq (.region 2 [
  ⟨(some 58), none, .mv (.tmp 3), 0, [], true⟩,
  ⟨(some 2), none, .mv (.tmp 58), 1, [], true⟩])
 .ret))))⟩

def m48 : MFn := ⟨10, [(2, none)], (.seq (.region 1 [
  ⟨(some 2), none, .mv (.const (.int .u64 0)), 0, [], true⟩])
 (.seq (.seq (.region 2 [
  ⟨(some 3), none, .mv (.tmp 0), 0, [], true⟩,
  ⟨(some 4), none, .eq false .ptr (.tmp 3) (.const (.pointer none)), 1, [], true⟩])
 (.cond (.tmp 4) (.seq (.region 1 [
  ⟨(some 2), none, .mv (.const (.int .u64 0)), 0, [], true⟩])
 .ret) .skip))
 (.seq (.region 6 [
  ⟨(some 5), none, .mv (.tmp 0), 0, [], true⟩,
  ⟨(some 6), none, .nilCheck (.tmp 5), 1, [], true⟩,
  ⟨(some 7), none, .fieldAddr 1 (.tmp 6), 2, [], true⟩,
  ⟨(some 8), none, .load 1 false (.tmp 7), 3, [], true⟩,
  ⟨(some 9), none, .call (.func 95) [(.tmp 8)], 4, [], true⟩,
  ⟨(some 2), none, .mv (.tmp 9), 5, [], true⟩])
 .ret)))⟩

def m49 : MFn := ⟨9, [(2, none)], (.seq (.region 1 [
  ⟨(some 2), none, .mv (.const (.pointer none)), 0, [], true⟩])
 (.seq (.seq (.region 2 [
  ⟨(some 4), none, .mv (.tmp 0), 0, [], true⟩,
  ⟨(some 5), none, .eq false .ptr (.tmp 4) (.const (.pointer none)), 1, [], true⟩])
 (.cond (.tmp 5) (.seq (.region 1 [
  ⟨(some 2), none, .mv (.const (.pointer none)), 0, [], true⟩])
 .ret) .skip))
 (.seq (.region 5 [
  ⟨(some 6), none, .mv (.tmp 0), 0, [], true⟩,
  ⟨(some 7), none, .nilCheck (.tmp 6), 1, [], true⟩,
  ⟨(some 8), none, .load 2 true (.tmp 7), 2, [], true⟩,
  ⟨(some 3), none, .alloc [(.pointer none), (.int .u64 0)] 138, 3, [], true⟩,
  ⟨none, none, .store 2 (.tmp 3) (.tmp 8), 4, [], true⟩])
 (.seq (.region 1 [
  ⟨(some 2), none, .mv (.tmp 3), 0, [], true⟩])
 .ret))))⟩

def m50 : MFn := ⟨8, [(2, none)], (.seq (.region 1 [
  ⟨(some 2), none, .mv (.const (.slice none 0 0)), 0, [], true⟩])
 (.seq (.seq (.region 2 [
  ⟨(some 3), none, .mv (.tmp 0), 0, [], true⟩,
  ⟨(some 4), none, .eq false .slice (.tmp 3) (.const (.slice none 0 0)), 1, [], true⟩])
 (.cond (.tmp 4) (.seq (.region 1 [
  ⟨(some 2), none, .mv (.const (.slice none 0 0)), 0, [], true⟩])
 .ret) .skip))
 (.seq (.region 4 [
  ⟨(some 5), none, .buildSl 35 1 0 [] [], 0, [], true⟩,
  ⟨(some 6), none, .mv (.tmp 0), 1, [], true⟩,
  ⟨(some 7), none, .append 35 1 8 (.tmp 5) (.tmp 6), 2, [], true⟩,
  ⟨(some 2), none, .mv (.tmp 7), 3, [], true⟩])
 .ret)))⟩

def m51 : MFn := ⟨8, [(2, none)], (.seq (.region 1 [
  ⟨(some 2), none, .mv (.const (.slice none 0 0)), 0, [], true⟩])
 (.seq (.seq (.region 2 [
  ⟨(some 3), none, .mv (.tmp 0), 0, [], true⟩,
  ⟨(some 4), none, .eq false .slice (.tmp 3) (.const (.slice none 0 0)), 1, [], true⟩])
 (.cond (.tmp 4) (.seq (.region 1 [
  ⟨(some 2), none, .mv (.const (.slice none 0 0)), 0, [], true⟩])
 .ret) .skip))
 (.seq (.region 4 [
  ⟨(some 5), none, .buildSl 87 4 0 [] [], 0, [], true⟩,
  ⟨(some 6), none, .mv (.tmp 0), 1, [], true⟩,
  ⟨(some 7), none, .append 87 4 32 (.tmp 5) (.tmp 6), 2, [], true⟩,
  ⟨(some 2), none, .mv (.tmp 7), 3, [], true⟩])
 .ret)))⟩

def m52 : MFn := ⟨8, [(2, none)], (.seq (.region 1 [
  ⟨(some 2), none, .mv (.const (.slice none 0 0)), 0, [], true⟩])
 (.seq (.seq (.region 2 [
  ⟨(some 3), none, .mv (.tmp 0), 0, [], true⟩,
  ⟨(some 4), none, .eq false .slice (.tmp 3) (.const (.slice none 0 0)), 1, [], true⟩])
 (.cond (.tmp 4) (.seq (.region 1 [
  ⟨(some 2), none, .mv (.const (.slice none 0 0)), 0, [], true⟩])
 .ret) .skip))
 (.seq (.region 4 [
  ⟨(some 5), none, .buildSl 34 1 0 [] [], 0, [], true⟩,
  ⟨(some 6), none, .mv (.tmp 0), 1, [], true⟩,
  ⟨(some 7), none, .append 34 1 8 (.tmp 5) (.tmp 6), 2, [], true⟩,
  ⟨(some 2), none, .mv (.tmp 7), 3, [], true⟩])
 .ret)))⟩

def m53 : MFn := ⟨8, [(2, none)], (.seq (.region 1 [
  ⟨(some 2), none, .mv (.const (.slice none 0 0)), 0, [], true⟩])
 (.seq (.seq (.region 2 [
  ⟨(some 3), none, .mv (.tmp 0), 0, [], true⟩,
  ⟨(some 4), none, .eq false .slice (.tmp 3) (.const (.slice none 0 0)), 1, [], true⟩])
 (.cond (.tmp 4) (.seq (.region 1 [
  ⟨(some 2), none, .mv (.const (.slice none 0 0)), 0, [], true⟩])
 .ret) .skip))
 (.seq (.region 4 [
  ⟨(some 5), none, .buildSl 50 1 0 [] [], 0, [], true⟩,
  ⟨(some 6), none, .mv (.tmp 0), 1, [], true⟩,
  ⟨(some 7), none, .append 50 1 1 (.tmp 5) (.tmp 6), 2, [], true⟩,
  ⟨(some 2), none, .mv (.tmp 7), 3, [], true⟩])
 .ret)))⟩

def m54 : MFn := ⟨34, [(2, none)], (.seq (.region 1 [
  ⟨(some 2), none, .mv (.const (.pointer none)), 0, [], true⟩])
 (.seq (.seq (.region 2 [
  ⟨(some 6), none, .mv (.tmp 0), 0, [], true⟩,
  ⟨(some 7), none, .eq false .ptr (.tmp 6) (.const (.pointer none)), 1, [], true⟩])
 (.cond (.tmp 7) (.seq (.region 1 [
  ⟨(some 2), none, .mv (.const (.pointer none)), 0, [], true⟩])
 .ret) .skip))
 (.seq (.region 2 [
  ⟨(some 8), none, .call (.func 65) [], 0, [], true⟩,
  ⟨(some 3), none, .mv (.tmp 8), 1, [], true⟩])
 (.seq (.region 9 [
  ⟨(some 9), none, .mv (.tmp 3), 0, [], true⟩,
  ⟨(some 10), none, .mv (.tmp 0), 1, [], true⟩,
  ⟨(some 11), none, .nilCheck (.tmp 10), 2, [], true⟩,
  ⟨(some 12), none, .fieldAddr 0 (.tmp 11), 3, [], true⟩,
  ⟨(some 13), none, .load 1 false (.tmp 12), 4, [], true⟩,
  ⟨(some 14), none, .call (.func 96) [(.tmp 13)], 5, [], true⟩,
  ⟨(some 15), none, .nilCheck (.tmp 9), 6, [], true⟩,
  ⟨(some 16), none, .fieldAddr 0 (.tmp 15), 7, [], true⟩,
  ⟨none, none, .store 1 (.tmp 16) (.tmp 14), 8, [], true⟩])
 (.seq (.seq (.region 5 [
  ⟨(some 17), none, .mv (.tmp 0), 0, [], true⟩,
  ⟨(some 18), none, .nilCheck (.tmp 17), 1, [], true⟩,
  ⟨(some 19), none, .fieldAddr 1 (.tmp 18), 2, [], true⟩,
  ⟨(some 20), none, .load 1 false (.tmp 19), 3, [], true⟩,
  ⟨(some 21), none, .rangeMap (.tmp 20), 4, [], true⟩])
 (.block 0 (.loop (.seq (.region 2 [
  ⟨(some 22), none, .nextMap (.tmp 21), 0, [], true⟩,
  ⟨(some 23), none, .extract (.tmp 22) 0, 1, [], true⟩])
 (.seq (.cond (.tmp 23) .skip (.exit 0))
 (.block 1 (.seq (.region 6 [
  ⟨(some 24), none, .entry (.tmp 21), 0, [], true⟩,
  ⟨(some 25), none, .extract (.tmp 24) 0, 1, [], true⟩,
  ⟨(some 26), none, .extract (.tmp 24) 1, 2, [], true⟩,
  ⟨(some 5), none, .alloc [(.int .i64 0), (.int .u64 0), (.int .u64 0)] 131, 3, [], true⟩,
  ⟨(some 4), none, .mv (.tmp 25), 4, [], true⟩,
  ⟨none, none, .store 3 (.tmp 5) (.tmp 26), 5, [], true⟩])
 (.region 7 [
  ⟨(some 27), none, .mv (.tmp 3), 0, [], true⟩,
  ⟨(some 28), none, .nilCheck (.tmp 27), 1, [], true⟩,
  ⟨(some 29), none, .fieldAddr 1 (.tmp 28), 2, [], true⟩,
  ⟨(some 30), none, .load 1 false (.tmp 29), 3, [], true⟩,
  ⟨(some 31), none, .mv (.tmp 4), 4, [], false⟩,
  ⟨(some 32), none, .load 3 true (.tmp 5), 5, [], false⟩,
  ⟨none, none, .mapSet .int (.tmp 30) (.tmp 31) (.tmp 32), 6, [], true⟩]))))))))
 (.seq (.region 2 [
  ⟨(some 33), none, .mv (.tmp 3), 0, [], true⟩,
  ⟨(some 2), none, .mv (.tmp 33), 1, [], true⟩])
 .ret))))))⟩

def m55 : MFn := ⟨9, [(2, none)], (.seq (.region 1 [
  ⟨(some 2), none, .mv (.const (.pointer none)), 0, [], true⟩])
 (.seq (.seq (.region 2 [
  ⟨(some 4), none, .mv (.tmp 0), 0, [], true⟩,
  ⟨(some 5), none, .eq false .ptr (.tmp 4) (.const (.pointer none)), 1, [], true⟩])
 (.cond (.tmp 5) (.seq (.region 1 [
  ⟨(some 2), none, .mv (.const (.pointer none)), 0, [], true⟩])
 .ret) .skip))
 (.seq (.region 5 [
  ⟨(some 6), none, .mv (.tmp 0), 0, [], true⟩,
  ⟨(some 7), none, .nilCheck (.tmp 6), 1, [], true⟩,
  ⟨(some 8), none, .load 2 true (.tmp 7), 2, [], true⟩,
  ⟨(some 3), none, .alloc [(.pointer none), (.int .i64 0)] 145, 3, [], true⟩,
  ⟨none, none, .store 2 (.tmp 3) (.tmp 8), 4, [], true⟩])
 (.seq (.region 1 [
  ⟨(some 2), none, .mv (.tmp 3), 0, [], true⟩])
 .ret))))⟩

def m56 : MFn := ⟨9, [(2, none)], (.seq (.region 1 [
  ⟨(some 2), none, .mv (.const (.pointer none)), 0, [], true⟩])
 (.seq (.seq (.region 2 [
  ⟨(some 4), none, .mv (.tmp 0), 0, [], true⟩,
  ⟨(some 5), none, .eq false .ptr (.tmp 4) (.const (.pointer none)), 1, [], true⟩])
 (.cond (.tmp 5) (.seq (.region 1 [
  ⟨(some 2), none, .mv (.const (.pointer none)), 0, [], true⟩])
 .ret) .skip))
 (.seq (.region 5 [
  ⟨(some 6), none, .mv (.tmp 0), 0, [], true⟩,
  ⟨(some 7), none, .nilCheck (.tmp 6), 1, [], true⟩,
  ⟨(some 8), none, .load 3 true (.tmp 7), 2, [], true⟩,
  ⟨(some 3), none, .alloc [(.int .u64 0), (.bool false), (.int .i64 0)] 147, 3, [], true⟩,
  ⟨none, none, .store 3 (.tmp 3) (.tmp 8), 4, [], true⟩])
 (.seq (.region 1 [
  ⟨(some 2), none, .mv (.tmp 3), 0, [], true⟩])
 .ret))))⟩

def m57 : MFn := ⟨9, [(2, none)], (.seq (.region 1 [
  ⟨(some 2), none, .mv (.const (.pointer none)), 0, [], true⟩])
 (.seq (.seq (.region 2 [
  ⟨(some 3), none, .mv (.tmp 0), 0, [], true⟩,
  ⟨(some 4), none, .eq false .ptr (.tmp 3) (.const (.pointer none)), 1, [], true⟩])
 (.cond (.tmp 4) (.seq (.region 1 [
  ⟨(some 2), none, .mv (.const (.pointer none)), 0, [], true⟩])
 .ret) .skip))
 (.seq (.region 5 [
  ⟨(some 5), none, .mv (.tmp 0), 0, [], true⟩,
  ⟨(some 6), none, .call (.func 91) [(.tmp 5)], 1, [], true⟩,
  ⟨(some 7), none, .build [(.slice none 0 0)] [(0, 1, (.tmp 6))], 2, [], true⟩,
  ⟨(some 8), none, .box 149 (.tmp 7), 3, [], true⟩,
  ⟨(some 2), none, .mv (.tmp 8), 4, [], true⟩])
 .ret)))⟩

def m58 : MFn := ⟨13, [(2, none)], (.seq (.region 1 [
  ⟨(some 2), none, .mv (.const (.pointer none)), 0, [], true⟩])
 (.seq (.seq (.region 2 [
  ⟨(some 3), none, .mv (.tmp 0), 0, [], true⟩,
  ⟨(some 4), none, .eq false .ptr (.tmp 3) (.const (.pointer none)), 1, [], true⟩])
 (.cond (.tmp 4) (.seq (.region 1 [
  ⟨(some 2), none, .mv (.const (.pointer none)), 0, [], true⟩])
 .ret) .skip))
 (.seq (.region 9 [
  ⟨(some 5), none, .buildSl 183 24 0 [] [], 0, [], true⟩,
  ⟨(some 6), none, .mv (.tmp 0), 1, [], true⟩,
  ⟨(some 7), none, .nilCheck (.tmp 6), 2, [], true⟩,
  ⟨(some 8), none, .fieldAddr 0 (.tmp 7), 3, [], true⟩,
  ⟨(some 9), none, .load 1 false (.tmp 8), 4, [], true⟩,
  ⟨(some 10), none, .append 183 24 112 (.tmp 5) (.tmp 9), 5, [], true⟩,
  ⟨(some 11), none, .build [(.slice none 0 0)] [(0, 1, (.tmp 10))], 6, [], true⟩,
  ⟨(some 12), none, .box 152 (.tmp 11), 7, [], true⟩,
  ⟨(some 2), none, .mv (.tmp 12), 8, [], true⟩])
 .ret)))⟩

def m59 : MFn := ⟨77, [(4, none), (5, none)], (.seq (.region 2 [
  ⟨(some 4), none, .mv (.const (.int .i64 0)), 0, [], true⟩,
  ⟨(some 5), none, .mv (.const (.int .i64 0)), 1, [], true⟩])
 (.seq (.block 0 (.seq (.region 3 [
  ⟨(some 10), none, .mv (.tmp 0), 0, [], true⟩,
  ⟨(some 11), none, .eq false .ptr (.tmp 10) (.const (.pointer none)), 1, [], true⟩,
  ⟨(some 9), none, .mv (.tmp 11), 2, [], true⟩])
 (.cond (.tmp 9) (.seq (.region 2 [
  ⟨(some 4), none, .mv (.const (.int .i64 0)), 0, [], true⟩,
  ⟨(some 5), none, .mv (.const (.int .i64 1)), 1, [], true⟩])
 .ret) (.seq (.region 4 [
  ⟨(some 13), none, .mv (.tmp 1), 0, [], true⟩,
  ⟨(some 14), none, .call (.func 97) [(.tmp 13)], 1, [], true⟩,
  ⟨(some 15), none, .bin .neq (.tmp 14) (.const (.int .i64 0)), 2, [], true⟩,
  ⟨(some 12), none, .mv (.tmp 15), 3, [], true⟩])
 (.cond (.tmp 12) (.seq (.region 2 [
  ⟨(some 4), none, .mv (.const (.int .i64 0)), 0, [], true⟩,
  ⟨(some 5), none, .mv (.const (.int .i64 2)), 1, [], true⟩])
 .ret) (.seq (.region 8 [
  ⟨(some 17), none, .mv (.tmp 0), 0, [], true⟩,
  ⟨(some 18), none, .mv (.tmp 1), 1, [], true⟩,
  ⟨(some 19), none, .nilCheck (.tmp 17), 2, [], true⟩,
  ⟨(some 20), none, .fieldAddr 2 (.tmp 19), 3, [], true⟩,
  ⟨(some 21), none, .adArr 4 1 (.tmp 20) (.tmp 18), 4, [], true⟩,
  ⟨(some 22), none, .load 1 false (.tmp 21), 5, [], true⟩,
  ⟨(some 23), none, .eq true .ptr (.tmp 22) (.const (.pointer none)), 6, [], true⟩,
  ⟨(some 16), none, .mv (.tmp 23), 7, [], true⟩])
 (.cond (.tmp 16) (.seq (.region 2 [
  ⟨(some 4), none, .mv (.const (.int .i64 0)), 0, [], true⟩,
  ⟨(some 5), none, .mv (.const (.int .i64 8)), 1, [], true⟩])
 .ret) (.seq (.region 7 [
  ⟨(some 25), none, .mv (.tmp 0), 0, [], true⟩,
  ⟨(some 26), none, .nilCheck (.tmp 25), 1, [], true⟩,
  ⟨(some 27), none, .fieldAddr 7 (.tmp 26), 2, [], true⟩,
  ⟨(some 28), none, .load 1 false (.tmp 27), 3, [], true⟩,
  ⟨(some 29), none, .len false (.tmp 28), 4, [], true⟩,
  ⟨(some 30), none, .bin .geq (.tmp 29) (.const (.int .i64 64)), 5, [], true⟩,
  ⟨(some 24), none, .mv (.tmp 30), 6, [], true⟩])
 (.cond (.tmp 24) (.seq (.region 2 [
  ⟨(some 4), none, .mv (.const (.int .i64 0)), 0, [], true⟩,
  ⟨(some 5), none, .mv (.const (.int .i64 4)), 1, [], true⟩])
 .ret) .skip)))))))))
 (.seq (.region 10 [
  ⟨(some 32), none, .mv (.tmp 0), 0, [], true⟩,
  ⟨(some 33), none, .nilCheck (.tmp 32), 1, [], true⟩,
  ⟨(some 34), none, .fieldAddr 1 (.tmp 33), 2, [], true⟩,
  ⟨(some 35), none, .load 1 false (.tmp 34), 3, [], true⟩,
  ⟨(some 36), none, .call (.func 98) [(.tmp 35)], 4, [], true⟩,
  ⟨(some 31), none, .mv (.tmp 36), 5, [], true⟩,
  ⟨(some 37), none, .extract (.tmp 31) 0, 6, [], true⟩,
  ⟨(some 38), none, .extract (.tmp 31) 1, 7, [], true⟩,
  ⟨(some 6), none, .mv (.tmp 37), 8, [], true⟩,
  ⟨(some 7), none, .mv (.tmp 38), 9, [], true⟩])
 (.seq (.seq (.region 2 [
  ⟨(some 39), none, .mv (.tmp 7), 0, [], true⟩,
  ⟨(some 40), none, .bin .neq (.tmp 39) (.const (.int .i64 0)), 1, [], true⟩])
 (.cond (.tmp 40) (.seq (.region 3 [
  ⟨(some 41), none, .mv (.tmp 7), 0, [], true⟩,
  ⟨(some 4), none, .mv (.const (.int .i64 0)), 1, [], true⟩,
  ⟨(some 5), none, .mv (.tmp 41), 2, [], true⟩])
 .ret) .skip))
 (.seq (.region 6 [
  ⟨(some 42), none, .mv (.tmp 0), 0, [], true⟩,
  ⟨(some 43), none, .nilCheck (.tmp 42), 1, [], true⟩,
  ⟨(some 44), none, .fieldAddr 7 (.tmp 43), 2, [], true⟩,
  ⟨(some 45), none, .load 1 false (.tmp 44), 3, [], true⟩,
  ⟨(some 46), none, .len false (.tmp 45), 4, [], true⟩,
  ⟨(some 8), none, .mv (.tmp 46), 5, [], true⟩])
 (.seq (.region 12 [
  ⟨(some 47), none, .mv (.tmp 0), 0, [], true⟩,
  ⟨(some 48), none, .mv (.tmp 1), 1, [], false⟩,
  ⟨(some 49), none, .mv (.tmp 8), 2, [], false⟩,
  ⟨(some 50), none, .mv (.tmp 6), 3, [], false⟩,
  ⟨(some 55), none, .nilCheck (.tmp 47), 8, [], false⟩,
  ⟨(some 56), none, .fieldAddr 2 (.tmp 55), 9, [], false⟩,
  ⟨(some 51), none, .call (.func 99) [], 4, [], false⟩,
  ⟨(some 52), none, .call (.func 100) [], 5, [], false⟩,
  ⟨(some 53), none, .build [(.int .i64 0), (.int .u64 0), (.pointer none), (.pointer none), (.bool false), (.int .u8 0), (.int .i64 0), (.int .u64 0), (.int .i64 0), (.int .i64 0), (.int .i64 0), (.int .u64 0), (.int .u64 0), (.bool false)] [(0, 1, (.tmp 49)), (1, 1, (.tmp 50)), (2, 1, (.tmp 51)), (3, 1, (.tmp 52))], 6, [], false⟩,
  ⟨(some 54), none, .box 108 (.tmp 53), 7, [], false⟩,
  ⟨(some 57), none, .adArr 4 1 (.tmp 56) (.tmp 48), 10, [], true⟩,
  ⟨none, none, .store 1 (.tmp 57) (.tmp 54), 11, [], true⟩])
 (.seq (.region 15 [
  ⟨(some 58), none, .mv (.tmp 0), 0, [], true⟩,
  ⟨(some 59), none, .buildSl 135 2 0 [] [], 1, [], true⟩,
  ⟨(some 60), none, .mv (.tmp 0), 2, [], true⟩,
  ⟨(some 61), none, .nilCheck (.tmp 60), 3, [], true⟩,
  ⟨(some 62), none, .fieldAddr 7 (.tmp 61), 4, [], true⟩,
  ⟨(some 63), none, .load 1 false (.tmp 62), 5, [], true⟩,
  ⟨(some 64), none, .append 135 2 16 (.tmp 59) (.tmp 63), 6, [], true⟩,
  ⟨(some 65), none, .mv (.tmp 6), 7, [], true⟩,
  ⟨(some 66), none, .bin .add (.tmp 65) (.const (.int .u64 1)), 8, [], true⟩,
  ⟨(some 67), none, .build [(.int .u64 0), (.int .u8 0)] [(0, 1, (.tmp 66))], 9, [], true⟩,
  ⟨(some 68), none, .buildSl 135 2 1 [(.int .u64 0), (.int .u8 0)] [(0, 2, (.tmp 67))], 10, [], true⟩,
  ⟨(some 69), none, .append 135 2 16 (.tmp 64) (.tmp 68), 11, [], true⟩,
  ⟨(some 70), none, .nilCheck (.tmp 58), 12, [], true⟩,
  ⟨(some 71), none, .fieldAddr 7 (.tmp 70), 13, [], true⟩,
  ⟨none, none, .store 1 (.tmp 71) (.tmp 69), 14, [], true⟩])
 (.seq (.region 4 [
  ⟨(some 72), none, .mv (.tmp 0), 0, [], true⟩,
  ⟨(some 73), none, .mv (.tmp 8), 1, [], true⟩,
  ⟨(some 74), none, .build [(.int .u8 0), (.int .i64 0), (.int .i64 0), (.int .u64 0)] [(0, 1, (.const (.int .u8 1))), (1, 1, (.tmp 73))], 2, [], true⟩,
  ⟨(some 75), none, .call (.func 101) [(.tmp 72), (.tmp 74)], 3, [], true⟩])
 (.seq (.region 3 [
  ⟨(some 76), none, .mv (.tmp 8), 0, [], true⟩,
  ⟨(some 4), none, .mv (.tmp 76), 1, [], true⟩,
  ⟨(some 5), none, .mv (.const (.int .i64 0)), 2, [], true⟩])
 .ret)))))))))⟩

def m60 : MFn := ⟨67, [(6, none)], (.seq (.region 2 [
  ⟨(some 5), none, .box 37 (.tmp 2), 0, [], true⟩,
  ⟨(some 6), none, .mv (.const (.int .i64 0)), 1, [], true⟩])
 (.seq (.block 0 (.seq (.region 3 [
  ⟨(some 10), none, .mv (.tmp 0), 0, [], true⟩,
  ⟨(some 11), none, .eq false .ptr (.tmp 10) (.const (.pointer none)), 1, [], true⟩,
  ⟨(some 9), none, .mv (.tmp 11), 2, [], true⟩])
 (.cond (.tmp 9) (.seq (.region 1 [
  ⟨(some 6), none, .mv (.const (.int .i64 1)), 0, [], true⟩])
 .ret) (.seq (.region 4 [
  ⟨(some 13), none, .mv (.tmp 1), 0, [], true⟩,
  ⟨(some 14), none, .call (.func 97) [(.tmp 13)], 1, [], true⟩,
  ⟨(some 15), none, .bin .neq (.tmp 14) (.const (.int .i64 0)), 2, [], true⟩,
  ⟨(some 12), none, .mv (.tmp 15), 3, [], true⟩])
 (.cond (.tmp 12) (.seq (.region 1 [
  ⟨(some 6), none, .mv (.const (.int .i64 2)), 0, [], true⟩])
 .ret) (.seq (.region 8 [
  ⟨(some 17), none, .mv (.tmp 0), 0, [], true⟩,
  ⟨(some 18), none, .mv (.tmp 1), 1, [], true⟩,
  ⟨(some 19), none, .nilCheck (.tmp 17), 2, [], true⟩,
  ⟨(some 20), none, .fieldAddr 2 (.tmp 19), 3, [], true⟩,
  ⟨(some 21), none, .adArr 4 1 (.tmp 20) (.tmp 18), 4, [], true⟩,
  ⟨(some 22), none, .load 1 false (.tmp 21), 5, [], true⟩,
  ⟨(some 23), none, .eq false .ptr (.tmp 22) (.const (.pointer none)), 6, [], true⟩,
  ⟨(some 16), none, .mv (.tmp 23), 7, [], true⟩])
 (.cond (.tmp 16) (.seq (.region 1 [
  ⟨(some 6), none, .mv (.const (.int .i64 8)), 0, [], true⟩])
 .ret) (.seq (.region 10 [
  ⟨(some 25), none, .mv (.tmp 0), 0, [], true⟩,
  ⟨(some 26), none, .mv (.tmp 1), 1, [], true⟩,
  ⟨(some 27), none, .nilCheck (.tmp 25), 2, [], true⟩,
  ⟨(some 28), none, .fieldAddr 2 (.tmp 27), 3, [], true⟩,
  ⟨(some 29), none, .adArr 4 1 (.tmp 28) (.tmp 26), 4, [], true⟩,
  ⟨(some 30), none, .load 1 false (.tmp 29), 5, [], true⟩,
  ⟨(some 31), none, .nilCheck (.tmp 30), 6, [], true⟩,
  ⟨(some 32), none, .fieldAddr 4 (.tmp 31), 7, [], true⟩,
  ⟨(some 33), none, .load 1 false (.tmp 32), 8, [], true⟩,
  ⟨(some 24), none, .mv (.tmp 33), 9, [], true⟩])
 (.cond (.tmp 24) (.seq (.region 1 [
  ⟨(some 6), none, .mv (.const (.int .i64 7)), 0, [], true⟩])
 .ret) .skip)))))))))
 (.seq (.region 7 [
  ⟨(some 34), none, .mv (.tmp 0), 0, [], true⟩,
  ⟨(some 35), none, .mv (.tmp 1), 1, [], true⟩,
  ⟨(some 36), none, .nilCheck (.tmp 34), 2, [], true⟩,
  ⟨(some 37), none, .fieldAddr 2 (.tmp 36), 3, [], true⟩,
  ⟨(some 38), none, .adArr 4 1 (.tmp 37) (.tmp 35), 4, [], true⟩,
  ⟨(some 39), none, .load 1 false (.tmp 38), 5, [], true⟩,
  ⟨(some 7), none, .mv (.tmp 39), 6, [], true⟩])
 (.seq (.seq (.region 12 [
  ⟨(some 40), none, .load 3 true (.tmp 5), 0, [], true⟩,
  ⟨(some 41), none, .mv (.tmp 0), 1, [], false⟩,
  ⟨(some 42), none, .nilCheck (.tmp 41), 2, [], false⟩,
  ⟨(some 43), none, .fieldAddr 0 (.tmp 42), 3, [], false⟩,
  ⟨(some 44), none, .load 1 false (.tmp 43), 4, [], false⟩,
  ⟨(some 45), none, .len false (.tmp 44), 5, [], false⟩,
  ⟨(some 46), none, .mv (.tmp 7), 6, [], false⟩,
  ⟨(some 47), none, .nilCheck (.tmp 46), 7, [], false⟩,
  ⟨(some 48), none, .fieldAddr 3 (.tmp 47), 8, [], false⟩,
  ⟨(some 49), none, .load 1 false (.tmp 48), 9, [], false⟩,
  ⟨(some 50), none, .call (.func 102) [(.tmp 40), (.tmp 45), (.tmp 49)], 10, [], true⟩,
  ⟨(some 8), none, .mv (.tmp 50), 11, [], true⟩])
 (.seq (.region 2 [
  ⟨(some 51), none, .mv (.tmp 8), 0, [], true⟩,
  ⟨(some 52), none, .bin .neq (.tmp 51) (.const (.int .i64 0)), 1, [], true⟩])
 (.cond (.tmp 52) (.seq (.region 2 [
  ⟨(some 53), none, .mv (.tmp 8), 0, [], true⟩,
  ⟨(some 6), none, .mv (.tmp 53), 1, [], true⟩])
 .ret) .skip)))
 (.seq (.region 17 [
  ⟨(some 54), none, .mv (.tmp 7), 0, [], true⟩,
  ⟨(some 55), none, .mv (.tmp 7), 1, [], false⟩,
  ⟨(some 56), none, .mv (.tmp 7), 2, [], false⟩,
  ⟨(some 57), none, .mv (.tmp 7), 3, [], false⟩,
  ⟨(some 58), none, .load 3 true (.tmp 5), 4, [], false⟩,
  ⟨(some 59), none, .nilCheck (.tmp 54), 5, [], false⟩,
  ⟨(some 60), none, .fieldAddr 4 (.tmp 59), 6, [], false⟩,
  ⟨none, none, .store 1 (.tmp 60) (.const (.bool true)), 7, [(false, none, none, 4, .load 3 true (.tmp 5))], false⟩,
  ⟨(some 61), none, .nilCheck (.tmp 55), 8, [], false⟩,
  ⟨(some 62), none, .fieldAddr 5 (.tmp 61), 9, [], false⟩,
  ⟨none, none, .store 3 (.tmp 62) (.tmp 58), 10, [], false⟩,
  ⟨(some 63), none, .nilCheck (.tmp 56), 11, [], false⟩,
  ⟨(some 64), none, .fieldAddr 8 (.tmp 63), 12, [], false⟩,
  ⟨none, none, .store 1 (.tmp 64) (.const (.int .i64 0)), 13, [], false⟩,
  ⟨(some 65), none, .nilCheck (.tmp 57), 14, [], true⟩,
  ⟨(some 66), none, .fieldAddr 10 (.tmp 65), 15, [], true⟩,
  ⟨none, none, .store 1 (.tmp 66) (.const (.int .i64 0)), 16, [], true⟩])
 (.seq (.region 1 [
  ⟨(some 6), none, .mv (.const (.int .i64 0)), 0, [], true⟩])
 .ret))))))⟩

def m61 : MFn := ⟨113, [(4, (some (7, true)))], (.seq (.region 1 [
  ⟨(some 4), none, .alloc [(.bool false), (.int .u64 0), (.bool false), (.int .i64 0), (.bool false), (.int .u8 0), (.int .i64 0)] 52, 0, [], true⟩])
 (.seq (.block 0 (.seq (.region 3 [
  ⟨(some 7), none, .mv (.tmp 0), 0, [], true⟩,
  ⟨(some 8), none, .eq false .ptr (.tmp 7) (.const (.pointer none)), 1, [], true⟩,
  ⟨(some 6), none, .mv (.tmp 8), 2, [], true⟩])
 (.cond (.tmp 6) (.seq (.region 2 [
  ⟨(some 9), none, .build [(.bool false), (.int .u64 0), (.bool false), (.int .i64 0), (.bool false), (.int .u8 0), (.int .i64 0)] [(6, 1, (.const (.int .i64 1)))], 0, [], true⟩,
  ⟨none, none, .store 7 (.tmp 4) (.tmp 9), 1, [], true⟩])
 .ret) (.seq (.region 4 [
  ⟨(some 11), none, .mv (.tmp 1), 0, [], true⟩,
  ⟨(some 12), none, .call (.func 97) [(.tmp 11)], 1, [], true⟩,
  ⟨(some 13), none, .bin .neq (.tmp 12) (.const (.int .i64 0)), 2, [], true⟩,
  ⟨(some 10), none, .mv (.tmp 13), 3, [], true⟩])
 (.cond (.tmp 10) (.seq (.region 2 [
  ⟨(some 14), none, .build [(.bool false), (.int .u64 0), (.bool false), (.int .i64 0), (.bool false), (.int .u8 0), (.int .i64 0)] [(6, 1, (.const (.int .i64 2)))], 0, [], true⟩,
  ⟨none, none, .store 7 (.tmp 4) (.tmp 14), 1, [], true⟩])
 .ret) (.seq (.region 20 [
  ⟨(some 16), none, .mv (.tmp 0), 0, [], true⟩,
  ⟨(some 17), none, .mv (.tmp 1), 1, [], true⟩,
  ⟨(some 18), none, .nilCheck (.tmp 16), 2, [], true⟩,
  ⟨(some 19), none, .fieldAddr 2 (.tmp 18), 3, [], true⟩,
  ⟨(some 20), none, .adArr 4 1 (.tmp 19) (.tmp 17), 4, [], true⟩,
  ⟨(some 21), none, .load 1 false (.tmp 20), 5, [], true⟩,
  ⟨(some 22), none, .eq false .ptr (.tmp 21) (.const (.pointer none)), 6, [], true⟩,
  ⟨(some 23), none, .mv (.tmp 22), 7, [], true⟩,
  ⟨(some 24), (some (23, false)), .mv (.tmp 0), 8, [], true⟩,
  ⟨(some 25), (some (23, false)), .mv (.tmp 1), 9, [], true⟩,
  ⟨(some 26), (some (23, false)), .nilCheck (.tmp 24), 10, [], true⟩,
  ⟨(some 27), (some (23, false)), .fieldAddr 2 (.tmp 26), 11, [], true⟩,
  ⟨(some 28), (some (23, false)), .adArr 4 1 (.tmp 27) (.tmp 25), 12, [], true⟩,
  ⟨(some 29), (some (23, false)), .load 1 false (.tmp 28), 13, [], true⟩,
  ⟨(some 30), (some (23, false)), .nilCheck (.tmp 29), 14, [], true⟩,
  ⟨(some 31), (some (23, false)), .fieldAddr 4 (.tmp 30), 15, [], true⟩,
  ⟨(some 32), (some (23, false)), .load 1 false (.tmp 31), 16, [], true⟩,
  ⟨(some 33), (some (23, false)), .un .not (.tmp 32), 17, [], true⟩,
  ⟨(some 34), none, .pick (.tmp 23) (.const (.bool true)) (.tmp 33), 18, [], true⟩,
  ⟨(some 15), none, .mv (.tmp 34), 19, [], true⟩])
 (.cond (.tmp 15) (.seq (.region 2 [
  ⟨(some 35), none, .build [(.bool false), (.int .u64 0), (.bool false), (.int .i64 0), (.bool false), (.int .u8 0), (.int .i64 0)] [(6, 1, (.const (.int .i64 8)))], 0, [], true⟩,
  ⟨none, none, .store 7 (.tmp 4) (.tmp 35), 1, [], true⟩])
 .ret) .skip)))))))
 (.seq (.region 7 [
  ⟨(some 36), none, .mv (.tmp 0), 0, [], true⟩,
  ⟨(some 37), none, .mv (.tmp 1), 1, [], true⟩,
  ⟨(some 38), none, .nilCheck (.tmp 36), 2, [], true⟩,
  ⟨(some 39), none, .fieldAddr 2 (.tmp 38), 3, [], true⟩,
  ⟨(some 40), none, .adArr 4 1 (.tmp 39) (.tmp 37), 4, [], true⟩,
  ⟨(some 41), none, .load 1 false (.tmp 40), 5, [], true⟩,
  ⟨(some 5), none, .mv (.tmp 41), 6, [], true⟩])
 (.seq (.block 1 (.seq (.region 6 [
  ⟨(some 43), none, .mv (.tmp 5), 0, [], true⟩,
  ⟨(some 44), none, .nilCheck (.tmp 43), 1, [], true⟩,
  ⟨(some 45), none, .fieldAddr 8 (.tmp 44), 2, [], true⟩,
  ⟨(some 46), none, .load 1 false (.tmp 45), 3, [], true⟩,
  ⟨(some 47), none, .bin .geq (.tmp 46) (.const (.int .i64 10)), 4, [], true⟩,
  ⟨(some 42), none, .mv (.tmp 47), 5, [], true⟩])
 (.cond (.tmp 42) (.seq (.region 5 [
  ⟨(some 48), none, .mv (.tmp 0), 0, [], true⟩,
  ⟨(some 49), none, .mv (.tmp 1), 1, [], true⟩,
  ⟨(some 50), none, .mv (.tmp 5), 2, [], true⟩,
  ⟨(some 51), none, .call (.func 103) [(.tmp 48), (.tmp 49), (.tmp 50)], 3, [], true⟩,
  ⟨none, none, .store 7 (.tmp 4) (.tmp 51), 4, [], true⟩])
 .ret) (.seq (.region 7 [
  ⟨(some 53), none, .mv (.tmp 5), 0, [], true⟩,
  ⟨(some 54), none, .nilCheck (.tmp 53), 1, [], true⟩,
  ⟨(some 55), none, .fieldAddr 5 (.tmp 54), 2, [], true⟩,
  ⟨(some 56), none, .fieldAddr 0 (.tmp 55), 3, [], true⟩,
  ⟨(some 57), none, .load 1 false (.tmp 56), 4, [], true⟩,
  ⟨(some 58), none, .bin .eql (.tmp 57) (.const (.int .u8 7)), 5, [], true⟩,
  ⟨(some 52), none, .mv (.tmp 58), 6, [], true⟩])
 (.cond (.tmp 52) (.seq (.region 4 [
  ⟨(some 59), none, .mv (.tmp 0), 0, [], true⟩,
  ⟨(some 60), none, .mv (.tmp 1), 1, [], true⟩,
  ⟨(some 61), none, .call (.func 104) [(.tmp 59), (.tmp 60), (.const (.int .u8 4))], 2, [], true⟩,
  ⟨none, none, .store 7 (.tmp 4) (.tmp 61), 3, [], true⟩])
 .ret) (.seq (.region 7 [
  ⟨(some 63), none, .mv (.tmp 5), 0, [], true⟩,
  ⟨(some 64), none, .nilCheck (.tmp 63), 1, [], true⟩,
  ⟨(some 65), none, .fieldAddr 5 (.tmp 64), 2, [], true⟩,
  ⟨(some 66), none, .fieldAddr 0 (.tmp 65), 3, [], true⟩,
  ⟨(some 67), none, .load 1 false (.tmp 66), 4, [], true⟩,
  ⟨(some 68), none, .bin .eql (.tmp 67) (.const (.int .u8 1)), 5, [], true⟩,
  ⟨(some 62), none, .mv (.tmp 68), 6, [], true⟩])
 (.cond (.tmp 62) (.seq (.region 5 [
  ⟨(some 69), none, .mv (.tmp 0), 0, [], true⟩,
  ⟨(some 70), none, .mv (.tmp 1), 1, [], true⟩,
  ⟨(some 71), none, .mv (.tmp 5), 2, [], true⟩,
  ⟨(some 72), none, .call (.func 105) [(.tmp 69), (.tmp 70), (.tmp 71)], 3, [], true⟩,
  ⟨none, none, .store 7 (.tmp 4) (.tmp 72), 4, [], true⟩])
 .ret) (.seq (.region 7 [
  ⟨(some 74), none, .mv (.tmp 5), 0, [], true⟩,
  ⟨(some 75), none, .nilCheck (.tmp 74), 1, [], true⟩,
  ⟨(some 76), none, .fieldAddr 5 (.tmp 75), 2, [], true⟩,
  ⟨(some 77), none, .fieldAddr 0 (.tmp 76), 3, [], true⟩,
  ⟨(some 78), none, .load 1 false (.tmp 77), 4, [], true⟩,
  ⟨(some 79), none, .bin .eql (.tmp 78) (.const (.int .u8 6)), 5, [], true⟩,
  ⟨(some 73), none, .mv (.tmp 79), 6, [], true⟩])
 (.cond (.tmp 73) (.seq (.region 5 [
  ⟨(some 80), none, .mv (.tmp 0), 0, [], true⟩,
  ⟨(some 81), none, .mv (.tmp 1), 1, [], true⟩,
  ⟨(some 82), none, .mv (.tmp 5), 2, [], true⟩,
  ⟨(some 83), none, .call (.func 106) [(.tmp 80), (.tmp 81), (.tmp 82)], 3, [], true⟩,
  ⟨none, none, .store 7 (.tmp 4) (.tmp 83), 4, [], true⟩])
 .ret) (.seq (.region 11 [
  ⟨(some 85), none, .mv (.tmp 5), 0, [], true⟩,
  ⟨(some 86), none, .nilCheck (.tmp 85), 1, [], true⟩,
  ⟨(some 87), none, .fieldAddr 3 (.tmp 86), 2, [], true⟩,
  ⟨(some 88), none, .load 1 false (.tmp 87), 3, [], true⟩,
  ⟨(some 89), none, .mv (.tmp 5), 4, [], false⟩,
  ⟨(some 90), none, .nilCheck (.tmp 89), 5, [], false⟩,
  ⟨(some 91), none, .fieldAddr 5 (.tmp 90), 6, [], false⟩,
  ⟨(some 92), none, .load 3 true (.tmp 91), 7, [], false⟩,
  ⟨(some 93), none, .call (.func 107) [(.tmp 88), (.tmp 92)], 8, [], true⟩,
  ⟨(some 94), none, .un .not (.tmp 93), 9, [], true⟩,
  ⟨(some 84), none, .mv (.tmp 94), 10, [], true⟩])
 (.cond (.tmp 84) (.seq (.region 4 [
  ⟨(some 95), none, .mv (.tmp 0), 0, [], true⟩,
  ⟨(some 96), none, .mv (.tmp 1), 1, [], true⟩,
  ⟨(some 97), none, .call (.func 104) [(.tmp 95), (.tmp 96), (.const (.int .u8 2))], 2, [], true⟩,
  ⟨none, none, .store 7 (.tmp 4) (.tmp 97), 3, [], true⟩])
 .ret) .skip)))))))))))
 (.seq (.region 4 [
  ⟨(some 98), none, .mv (.tmp 5), 0, [], true⟩,
  ⟨(some 99), none, .nilCheck (.tmp 98), 1, [], true⟩,
  ⟨(some 100), none, .fieldAddr 4 (.tmp 99), 2, [], true⟩,
  ⟨none, none, .store 1 (.tmp 100) (.const (.bool false)), 3, [], true⟩])
 (.seq (.region 11 [
  ⟨(some 101), none, .mv (.tmp 0), 0, [], true⟩,
  ⟨(some 102), none, .mv (.tmp 5), 1, [], false⟩,
  ⟨(some 103), none, .nilCheck (.tmp 102), 2, [], false⟩,
  ⟨(some 104), none, .fieldAddr 0 (.tmp 103), 3, [], false⟩,
  ⟨(some 105), none, .load 1 false (.tmp 104), 4, [], false⟩,
  ⟨(some 106), none, .mv (.tmp 5), 5, [], false⟩,
  ⟨(some 107), none, .nilCheck (.tmp 106), 6, [], false⟩,
  ⟨(some 108), none, .fieldAddr 5 (.tmp 107), 7, [], false⟩,
  ⟨(some 109), none, .load 3 true (.tmp 108), 8, [], false⟩,
  ⟨(some 110), none, .call (.func 108) [(.tmp 105), (.tmp 109)], 9, [], false⟩,
  ⟨(some 111), none, .call (.func 101) [(.tmp 101), (.tmp 110)], 10, [], true⟩])
 (.seq (.region 2 [
  ⟨(some 112), none, .build [(.bool false), (.int .u64 0), (.bool false), (.int .i64 0), (.bool false), (.int .u8 0), (.int .i64 0)] [(0, 1, (.const (.bool true)))], 0, [], true⟩,
  ⟨none, none, .store 7 (.tmp 4) (.tmp 112), 1, [], true⟩])
 .ret)))))))⟩

def m62 : MFn := ⟨34, [(4, none)], (.seq (.region 1 [
  ⟨(some 4), none, .mv (.const (.int .i64 0)), 0, [], true⟩])
 (.seq (.block 0 (.seq (.region 3 [
  ⟨(some 6), none, .mv (.tmp 0), 0, [], true⟩,
  ⟨(some 7), none, .eq false .ptr (.tmp 6) (.const (.pointer none)), 1, [], true⟩,
  ⟨(some 5), none, .mv (.tmp 7), 2, [], true⟩])
 (.cond (.tmp 5) (.seq (.region 1 [
  ⟨(some 4), none, .mv (.const (.int .i64 1)), 0, [], true⟩])
 .ret) (.seq (.region 4 [
  ⟨(some 9), none, .mv (.tmp 1), 0, [], true⟩,
  ⟨(some 10), none, .call (.func 97) [(.tmp 9)], 1, [], true⟩,
  ⟨(some 11), none, .bin .neq (.tmp 10) (.const (.int .i64 0)), 2, [], true⟩,
  ⟨(some 8), none, .mv (.tmp 11), 3, [], true⟩])
 (.cond (.tmp 8) (.seq (.region 1 [
  ⟨(some 4), none, .mv (.const (.int .i64 2)), 0, [], true⟩])
 .ret) (.seq (.region 19 [
  ⟨(some 13), none, .mv (.tmp 0), 0, [], true⟩,
  ⟨(some 14), none, .mv (.tmp 1), 1, [], true⟩,
  ⟨(some 15), none, .nilCheck (.tmp 13), 2, [], true⟩,
  ⟨(some 16), none, .fieldAddr 2 (.tmp 15), 3, [], true⟩,
  ⟨(some 17), none, .adArr 4 1 (.tmp 16) (.tmp 14), 4, [], true⟩,
  ⟨(some 18), none, .load 1 false (.tmp 17), 5, [], true⟩,
  ⟨(some 19), none, .eq false .ptr (.tmp 18) (.const (.pointer none)), 6, [], true⟩,
  ⟨(some 20), none, .mv (.tmp 19), 7, [], true⟩,
  ⟨(some 21), (some (20, false)), .mv (.tmp 0), 8, [], true⟩,
  ⟨(some 22), (some (20, false)), .mv (.tmp 1), 9, [], true⟩,
  ⟨(some 23), (some (20, false)), .nilCheck (.tmp 21), 10, [], true⟩,
  ⟨(some 24), (some (20, false)), .fieldAddr 2 (.tmp 23), 11, [], true⟩,
  ⟨(some 25), (some (20, false)), .adArr 4 1 (.tmp 24) (.tmp 22), 12, [], true⟩,
  ⟨(some 26), (some (20, false)), .load 1 false (.tmp 25), 13, [], true⟩,
  ⟨(some 27), (some (20, false)), .nilCheck (.tmp 26), 14, [], true⟩,
  ⟨(some 28), (some (20, false)), .fieldAddr 13 (.tmp 27), 15, [], true⟩,
  ⟨(some 29), (some (20, false)), .load 1 false (.tmp 28), 16, [], true⟩,
  ⟨(some 30), none, .pick (.tmp 20) (.const (.bool true)) (.tmp 29), 17, [], true⟩,
  ⟨(some 12), none, .mv (.tmp 30), 18, [], true⟩])
 (.cond (.tmp 12) (.seq (.region 1 [
  ⟨(some 4), none, .mv (.const (.int .i64 8)), 0, [], true⟩])
 .ret) .skip)))))))
 (.seq (.region 3 [
  ⟨(some 31), none, .mv (.tmp 0), 0, [], true⟩,
  ⟨(some 32), none, .mv (.tmp 1), 1, [], true⟩,
  ⟨(some 33), none, .call (.func 104) [(.tmp 31), (.tmp 32), (.const (.int .u8 3))], 2, [], true⟩])
 (.seq (.region 1 [
  ⟨(some 4), none, .mv (.const (.int .i64 0)), 0, [], true⟩])
 .ret))))⟩

def m63 : MFn := ⟨15, [(4, none)], (.seq (.region 1 [
  ⟨(some 4), none, .mv (.const (.int .i64 0)), 0, [], true⟩])
 (.seq (.block 0 (.seq (.region 3 [
  ⟨(some 6), none, .mv (.tmp 0), 0, [], true⟩,
  ⟨(some 7), none, .eq false .ptr (.tmp 6) (.const (.pointer none)), 1, [], true⟩,
  ⟨(some 5), none, .mv (.tmp 7), 2, [], true⟩])
 (.cond (.tmp 5) (.seq (.region 1 [
  ⟨(some 4), none, .mv (.const (.int .i64 1)), 0, [], true⟩])
 .ret) (.seq (.region 7 [
  ⟨(some 9), none, .mv (.tmp 1), 0, [], true⟩,
  ⟨(some 10), none, .bin .lss (.tmp 9) (.const (.int .i64 0)), 1, [], true⟩,
  ⟨(some 11), none, .mv (.tmp 10), 2, [], true⟩,
  ⟨(some 12), (some (11, false)), .mv (.tmp 1), 3, [], true⟩,
  ⟨(some 13), (some (11, false)), .bin .geq (.tmp 12) (.const (.int .i64 4)), 4, [], true⟩,
  ⟨(some 14), none, .pick (.tmp 11) (.const (.bool true)) (.tmp 13), 5, [], true⟩,
  ⟨(some 8), none, .mv (.tmp 14), 6, [], true⟩])
 (.cond (.tmp 8) (.seq (.region 1 [
  ⟨(some 4), none, .mv (.const (.int .i64 2)), 0, [], true⟩])
 .ret) .skip)))))
 (.seq (.region 1 [
  ⟨(some 4), none, .mv (.const (.int .i64 0)), 0, [], true⟩])
 .ret)))⟩

def m64 : MFn := ⟨8, [(2, (some (1, false))), (3, none)], (.seq (.region 3 [
  ⟨(some 1), none, .box 76 (.tmp 0), 0, [], true⟩,
  ⟨(some 2), none, .alloc [(.int .u64 0)] 34, 1, [], true⟩,
  ⟨(some 3), none, .mv (.const (.int .i64 0)), 2, [], true⟩])
 (.seq (.region 3 [
  ⟨(some 4), none, .func (.func 110) [] [(.tmp 1), (.tmp 2)], 0, [], true⟩,
  ⟨(some 5), none, .call (.func 109) [(.tmp 4)], 1, [], true⟩,
  ⟨(some 3), none, .mv (.tmp 5), 2, [], true⟩])
 (.seq (.region 4 [
  ⟨(some 6), none, .load 1 false (.tmp 2), 0, [], true⟩,
  ⟨(some 7), none, .mv (.tmp 3), 1, [], true⟩,
  ⟨none, none, .store 1 (.tmp 2) (.tmp 6), 2, [], true⟩,
  ⟨(some 3), none, .mv (.tmp 7), 3, [], true⟩])
 .ret)))⟩

def m65 : MFn := ⟨4, [(0, none)], (.seq (.region 1 [
  ⟨(some 0), none, .mv (.const (.pointer none)), 0, [], true⟩])
 (.seq (.region 4 [
  ⟨(some 1), none, .makeMap, 0, [], true⟩,
  ⟨(some 2), none, .build [(.slice none 0 0), (.map none)] [(1, 1, (.tmp 1))], 1, [], true⟩,
  ⟨(some 3), none, .box 142 (.tmp 2), 2, [], true⟩,
  ⟨(some 0), none, .mv (.tmp 3), 3, [], true⟩])
 .ret))⟩

def m66 : MFn := ⟨6, [(0, none)], (.seq (.region 1 [
  ⟨(some 0), none, .mv (.const (.pointer none)), 0, [], true⟩])
 (.seq (.region 1 [
  ⟨(some 1), none, .mv (.const (.pointer none)), 0, [], true⟩])
 (.seq (.region 5 [
  ⟨(some 2), none, .mv (.tmp 1), 0, [], true⟩,
  ⟨(some 3), none, .call (.func 112) [(.tmp 2), (.const (.slice none 0 0))], 1, [], true⟩,
  ⟨(some 4), none, .build [(.pointer none), (.int .i64 0)] [(0, 1, (.tmp 3))], 2, [], true⟩,
  ⟨(some 5), none, .box 145 (.tmp 4), 3, [], true⟩,
  ⟨(some 0), none, .mv (.tmp 5), 4, [], true⟩])
 .ret)))⟩

def m67 : MFn := ⟨14, [], (.seq (.region 1 [
  ⟨(some 3), none, .box 87 (.tmp 1), 0, [], true⟩])
 (.region 11 [
  ⟨(some 4), none, .mv (.tmp 0), 0, [], true⟩,
  ⟨(some 5), none, .mv (.tmp 0), 1, [], false⟩,
  ⟨(some 6), none, .nilCheck (.tmp 5), 2, [], false⟩,
  ⟨(some 7), none, .fieldAddr 3 (.tmp 6), 3, [], false⟩,
  ⟨(some 8), none, .load 1 false (.tmp 7), 4, [], false⟩,
  ⟨(some 9), none, .load 4 true (.tmp 3), 5, [], false⟩,
  ⟨(some 10), none, .buildSl 87 4 1 [(.int .u8 0), (.int .i64 0), (.int .i64 0), (.int .u64 0)] [(0, 4, (.tmp 9))], 6, [], false⟩,
  ⟨(some 11), none, .append 87 4 32 (.tmp 8) (.tmp 10), 7, [], false⟩,
  ⟨(some 12), none, .nilCheck (.tmp 4), 8, [], true⟩,
  ⟨(some 13), none, .fieldAddr 3 (.tmp 12), 9, [], true⟩,
  ⟨none, none, .store 1 (.tmp 13) (.tmp 11), 10, [], true⟩]))⟩

def m68 : MFn := ⟨13, [(4, none)], (.seq (.region 1 [
  ⟨(some 4), none, .mv (.const (.pointer none)), 0, [], true⟩])
 (.seq (.seq (.region 2 [
  ⟨(some 5), none, .mv (.tmp 0), 0, [], true⟩,
  ⟨(some 6), none, .eq false .ptr (.tmp 5) (.const (.pointer none)), 1, [], true⟩])
 (.cond (.tmp 6) (.seq (.region 1 [
  ⟨(some 4), none, .mv (.const (.pointer none)), 0, [], true⟩])
 .ret) .skip))
 (.seq (.region 7 [
  ⟨(some 7), none, .mv (.tmp 0), 0, [], true⟩,
  ⟨(some 8), none, .nilCheck (.tmp 7), 1, [], true⟩,
  ⟨(some 9), none, .fieldAddr 2 (.tmp 8), 2, [], true⟩,
  ⟨(some 10), none, .load 1 false (.tmp 9), 3, [], true⟩,
  ⟨(some 11), none, .mv (.tmp 1), 4, [], true⟩,
  ⟨(some 12), none, .lookup .int (.pointer none) false (.tmp 10) (.tmp 11), 5, [], true⟩,
  ⟨(some 4), none, .mv (.tmp 12), 6, [], true⟩])
 .ret)))⟩

def m69 : MFn := ⟨87, [(6, none)], (.seq (.region 2 [
  ⟨(some 5), none, .box 37 (.tmp 2), 0, [], true⟩,
  ⟨(some 6), none, .mv (.const (.int .i64 0)), 1, [], true⟩])
 (.seq (.region 9 [
  ⟨(some 9), none, .fieldAddr 0 (.tmp 5), 0, [], true⟩,
  ⟨(some 10), none, .load 1 false (.tmp 9), 1, [], true⟩,
  ⟨(some 11), none, .bin .eql (.tmp 10) (.const (.int .u8 1)), 2, [], true⟩,
  ⟨(some 12), none, .mv (.tmp 11), 3, [], true⟩,
  ⟨(some 13), (some (12, false)), .fieldAddr 0 (.tmp 5), 4, [], true⟩,
  ⟨(some 14), (some (12, false)), .load 1 false (.tmp 13), 5, [], true⟩,
  ⟨(some 15), (some (12, false)), .bin .eql (.tmp 14) (.const (.int .u8 2)), 6, [], true⟩,
  ⟨(some 16), none, .pick (.tmp 12) (.const (.bool true)) (.tmp 15), 7, [], true⟩,
  ⟨(some 7), none, .mv (.tmp 16), 8, [], true⟩])
 (.seq (.region 6 [
  ⟨(some 17), none, .mv (.tmp 1), 0, [], true⟩,
  ⟨(some 18), none, .nilCheck (.tmp 17), 1, [], true⟩,
  ⟨(some 19), none, .fieldAddr 1 (.tmp 18), 2, [], true⟩,
  ⟨(some 20), none, .load 1 false (.tmp 19), 3, [], true⟩,
  ⟨(some 21), none, .call (.func 113) [(.tmp 20)], 4, [], true⟩,
  ⟨(some 8), none, .mv (.tmp 21), 5, [], true⟩])
 (.seq (.block 0 (.seq (.region 9 [
  ⟨(some 23), none, .fieldAddr 0 (.tmp 5), 0, [], true⟩,
  ⟨(some 24), none, .load 1 false (.tmp 23), 1, [], true⟩,
  ⟨(some 25), none, .bin .eql (.tmp 24) (.const (.int .u8 0)), 2, [], true⟩,
  ⟨(some 26), none, .mv (.tmp 25), 3, [], true⟩,
  ⟨(some 27), (some (26, false)), .fieldAddr 0 (.tmp 5), 4, [], true⟩,
  ⟨(some 28), (some (26, false)), .load 1 false (.tmp 27), 5, [], true⟩,
  ⟨(some 29), (some (26, false)), .bin .gtr (.tmp 28) (.const (.int .u8 7)), 6, [], true⟩,
  ⟨(some 30), none, .pick (.tmp 26) (.const (.bool true)) (.tmp 29), 7, [], true⟩,
  ⟨(some 22), none, .mv (.tmp 30), 8, [], true⟩])
 (.cond (.tmp 22) (.seq (.region 1 [
  ⟨(some 6), none, .mv (.const (.int .i64 2)), 0, [], true⟩])
 .ret) (.seq (.region 17 [
  ⟨(some 32), none, .mv (.tmp 7), 0, [], true⟩,
  ⟨(some 33), none, .mv (.tmp 32), 1, [], true⟩,
  ⟨(some 34), (some (33, true)), .fieldAddr 1 (.tmp 5), 2, [], true⟩,
  ⟨(some 35), (some (33, true)), .load 1 false (.tmp 34), 3, [], true⟩,
  ⟨(some 36), (some (33, true)), .bin .lss (.tmp 35) (.const (.int .i64 0)), 4, [], true⟩,
  ⟨(some 37), (some (33, true)), .mv (.tmp 36), 5, [], true⟩,
  ⟨(some 38), (some (37, false)), .fieldAddr 1 (.tmp 5), 6, [], true⟩,
  ⟨(some 39), (some (37, false)), .load 1 false (.tmp 38), 7, [], true⟩,
  ⟨(some 40), (some (37, false)), .mv (.tmp 0), 8, [], false⟩,
  ⟨(some 41), (some (37, false)), .nilCheck (.tmp 40), 9, [], false⟩,
  ⟨(some 42), (some (37, false)), .fieldAddr 1 (.tmp 41), 10, [], false⟩,
  ⟨(some 43), (some (37, false)), .load 1 false (.tmp 42), 11, [], false⟩,
  ⟨(some 44), (some (37, false)), .len false (.tmp 43), 12, [], false⟩,
  ⟨(some 45), (some (37, false)), .bin .geq (.tmp 39) (.tmp 44), 13, [], true⟩,
  ⟨(some 46), (some (33, true)), .pick (.tmp 37) (.const (.bool true)) (.tmp 45), 14, [], true⟩,
  ⟨(some 47), none, .pick (.tmp 33) (.tmp 46) (.const (.bool false)), 15, [], true⟩,
  ⟨(some 31), none, .mv (.tmp 47), 16, [], true⟩])
 (.cond (.tmp 31) (.seq (.region 1 [
  ⟨(some 6), none, .mv (.const (.int .i64 2)), 0, [], true⟩])
 .ret) (.seq (.region 10 [
  ⟨(some 49), none, .fieldAddr 0 (.tmp 5), 0, [], true⟩,
  ⟨(some 50), none, .load 1 false (.tmp 49), 1, [], true⟩,
  ⟨(some 51), none, .bin .eql (.tmp 50) (.const (.int .u8 2)), 2, [], true⟩,
  ⟨(some 52), none, .mv (.tmp 51), 3, [], true⟩,
  ⟨(some 53), (some (52, true)), .fieldAddr 2 (.tmp 5), 4, [], true⟩,
  ⟨(some 54), (some (52, true)), .load 1 false (.tmp 53), 5, [], true⟩,
  ⟨(some 55), (some (52, true)), .call (.func 86) [(.tmp 54)], 6, [], true⟩,
  ⟨(some 56), (some (52, true)), .un .not (.tmp 55), 7, [], true⟩,
  ⟨(some 57), none, .pick (.tmp 52) (.tmp 56) (.const (.bool false)), 8, [], true⟩,
  ⟨(some 48), none, .mv (.tmp 57), 9, [], true⟩])
 (.cond (.tmp 48) (.seq (.region 1 [
  ⟨(some 6), none, .mv (.const (.int .i64 3)), 0, [], true⟩])
 .ret) (.seq (.region 13 [
  ⟨(some 59), none, .mv (.tmp 8), 0, [], true⟩,
  ⟨(some 60), none, .bin .eql (.tmp 59) (.const (.int .i64 0)), 1, [], true⟩,
  ⟨(some 61), none, .mv (.tmp 60), 2, [], true⟩,
  ⟨(some 62), (some (61, true)), .fieldAddr 0 (.tmp 5), 3, [], true⟩,
  ⟨(some 63), (some (61, true)), .load 1 false (.tmp 62), 4, [], true⟩,
  ⟨(some 64), (some (61, true)), .bin .eql (.tmp 63) (.const (.int .u8 4)), 5, [], true⟩,
  ⟨(some 65), (some (61, true)), .mv (.tmp 64), 6, [], true⟩,
  ⟨(some 66), (some (65, false)), .fieldAddr 0 (.tmp 5), 7, [], true⟩,
  ⟨(some 67), (some (65, false)), .load 1 false (.tmp 66), 8, [], true⟩,
  ⟨(some 68), (some (65, false)), .bin .eql (.tmp 67) (.const (.int .u8 5)), 9, [], true⟩,
  ⟨(some 69), (some (61, true)), .pick (.tmp 65) (.const (.bool true)) (.tmp 68), 10, [], true⟩,
  ⟨(some 70), none, .pick (.tmp 61) (.tmp 69) (.const (.bool false)), 11, [], true⟩,
  ⟨(some 58), none, .mv (.tmp 70), 12, [], true⟩])
 (.cond (.tmp 58) (.seq (.region 1 [
  ⟨(some 6), none, .mv (.const (.int .i64 8)), 0, [], true⟩])
 .ret) (.seq (.region 8 [
  ⟨(some 72), none, .mv (.tmp 8), 0, [], true⟩,
  ⟨(some 73), none, .bin .gtr (.tmp 72) (.const (.int .i64 0)), 1, [], true⟩,
  ⟨(some 74), none, .mv (.tmp 73), 2, [], true⟩,
  ⟨(some 75), (some (74, true)), .fieldAddr 0 (.tmp 5), 3, [], true⟩,
  ⟨(some 76), (some (74, true)), .load 1 false (.tmp 75), 4, [], true⟩,
  ⟨(some 77), (some (74, true)), .bin .eql (.tmp 76) (.const (.int .u8 6)), 5, [], true⟩,
  ⟨(some 78), none, .pick (.tmp 74) (.tmp 77) (.const (.bool false)), 6, [], true⟩,
  ⟨(some 71), none, .mv (.tmp 78), 7, [], true⟩])
 (.cond (.tmp 71) (.seq (.region 1 [
  ⟨(some 6), none, .mv (.const (.int .i64 8)), 0, [], true⟩])
 .ret) (.seq (.region 8 [
  ⟨(some 80), none, .mv (.tmp 8), 0, [], true⟩,
  ⟨(some 81), none, .bin .geq (.tmp 80) (.const (.int .i64 4)), 1, [], true⟩,
  ⟨(some 82), none, .mv (.tmp 81), 2, [], true⟩,
  ⟨(some 83), (some (82, true)), .fieldAddr 0 (.tmp 5), 3, [], true⟩,
  ⟨(some 84), (some (82, true)), .load 1 false (.tmp 83), 4, [], true⟩,
  ⟨(some 85), (some (82, true)), .bin .eql (.tmp 84) (.const (.int .u8 3)), 5, [], true⟩,
  ⟨(some 86), none, .pick (.tmp 82) (.tmp 85) (.const (.bool false)), 6, [], true⟩,
  ⟨(some 79), none, .mv (.tmp 86), 7, [], true⟩])
 (.cond (.tmp 79) (.seq (.region 1 [
  ⟨(some 6), none, .mv (.const (.int .i64 4)), 0, [], true⟩])
 .ret) .skip)))))))))))))
 (.seq (.region 1 [
  ⟨(some 6), none, .mv (.const (.int .i64 0)), 0, [], true⟩])
 .ret)))))⟩

def m70 : MFn := ⟨140, [(6, (some (7, true)))], (.seq (.region 1 [
  ⟨(some 6), none, .alloc [(.bool false), (.int .u64 0), (.bool false), (.int .i64 0), (.bool false), (.int .u8 0), (.int .i64 0)] 52, 0, [], true⟩])
 (.seq (.seq (.region 4 [
  ⟨(some 12), none, .mv (.tmp 2), 0, [], true⟩,
  ⟨(some 13), none, .nilCheck (.tmp 12), 1, [], true⟩,
  ⟨(some 14), none, .fieldAddr 7 (.tmp 13), 2, [], true⟩,
  ⟨(some 15), none, .load 1 false (.tmp 14), 3, [], true⟩])
 (.block 0 (.seq (.region 2 [
  ⟨(some 57), none, .bin .eql (.tmp 15) (.const (.int .i64 4)), 0, [], true⟩,
  ⟨(some 56), none, .mv (.tmp 57), 1, [], true⟩])
 (.cond (.tmp 56) (.seq (.region 10 [
  ⟨(some 59), none, .mv (.tmp 0), 0, [], true⟩,
  ⟨(some 60), none, .nilCheck (.tmp 59), 1, [], true⟩,
  ⟨(some 61), none, .fieldAddr 0 (.tmp 60), 2, [], true⟩,
  ⟨(some 62), none, .load 1 false (.tmp 61), 3, [], true⟩,
  ⟨(some 63), none, .call (.func 64) [(.tmp 62)], 4, [], true⟩,
  ⟨(some 58), none, .mv (.tmp 63), 5, [], true⟩,
  ⟨(some 64), none, .extract (.tmp 58) 0, 6, [], true⟩,
  ⟨(some 65), none, .extract (.tmp 58) 1, 7, [], true⟩,
  ⟨(some 7), none, .mv (.tmp 64), 8, [], true⟩,
  ⟨(some 8), none, .mv (.tmp 65), 9, [], true⟩])
 (.seq (.seq (.region 2 [
  ⟨(some 66), none, .mv (.tmp 8), 0, [], true⟩,
  ⟨(some 67), none, .bin .neq (.tmp 66) (.const (.int .i64 0)), 1, [], true⟩])
 (.cond (.tmp 67) (.seq (.region 10 [
  ⟨(some 69), none, .mv (.tmp 0), 0, [], true⟩,
  ⟨(some 70), none, .nilCheck (.tmp 69), 1, [], true⟩,
  ⟨(some 71), none, .fieldAddr 0 (.tmp 70), 2, [], true⟩,
  ⟨(some 72), none, .load 1 false (.tmp 71), 3, [], true⟩,
  ⟨(some 73), none, .call (.func 83) [(.tmp 72)], 4, [], true⟩,
  ⟨(some 68), none, .mv (.tmp 73), 5, [], true⟩,
  ⟨(some 74), none, .extract (.tmp 68) 0, 6, [], true⟩,
  ⟨(some 75), none, .extract (.tmp 68) 1, 7, [], true⟩,
  ⟨(some 9), none, .mv (.tmp 74), 8, [], true⟩,
  ⟨(some 10), none, .mv (.tmp 75), 9, [], true⟩])
 (.seq (.region 3 [
  ⟨(some 76), none, .mv (.tmp 9), 0, [], true⟩,
  ⟨(some 77), none, .build [(.bool false), (.int .u64 0), (.bool false), (.int .i64 0), (.bool false), (.int .u8 0), (.int .i64 0)] [(2, 1, (.const (.bool true))), (3, 1, (.tmp 76))], 1, [], true⟩,
  ⟨none, none, .store 7 (.tmp 6) (.tmp 77), 2, [], true⟩])
 .ret)) .skip))
 (.region 13 [
  ⟨(some 78), none, .mv (.tmp 2), 0, [], true⟩,
  ⟨(some 79), none, .mv (.tmp 2), 1, [], true⟩,
  ⟨(some 80), none, .mv (.tmp 2), 2, [], true⟩,
  ⟨(some 81), none, .mv (.tmp 7), 3, [], true⟩,
  ⟨(some 82), none, .nilCheck (.tmp 78), 4, [], true⟩,
  ⟨(some 83), none, .fieldAddr 10 (.tmp 82), 5, [], true⟩,
  ⟨none, none, .store 1 (.tmp 83) (.tmp 81), 6, [], true⟩,
  ⟨(some 84), none, .nilCheck (.tmp 79), 7, [], true⟩,
  ⟨(some 85), none, .fieldAddr 7 (.tmp 84), 8, [], true⟩,
  ⟨none, none, .store 1 (.tmp 85) (.const (.int .i64 5)), 9, [], true⟩,
  ⟨(some 86), none, .nilCheck (.tmp 80), 10, [], true⟩,
  ⟨(some 87), none, .fieldAddr 9 (.tmp 86), 11, [], true⟩,
  ⟨none, none, .store 1 (.tmp 87) (.const (.int .i64 0)), 12, [], true⟩]))) (.seq (.region 2 [
  ⟨(some 89), none, .bin .eql (.tmp 15) (.const (.int .i64 5)), 0, [], true⟩,
  ⟨(some 88), none, .mv (.tmp 89), 1, [], true⟩])
 (.cond (.tmp 88) (.seq (.region 6 [
  ⟨(some 90), none, .mv (.tmp 2), 0, [], true⟩,
  ⟨(some 91), none, .nilCheck (.tmp 90), 1, [], true⟩,
  ⟨(some 92), none, .fieldAddr 0 (.tmp 91), 2, [], true⟩,
  ⟨(some 93), none, .load 1 false (.tmp 92), 3, [], true⟩,
  ⟨(some 94), none, .call (.func 81) [(.tmp 93)], 4, [], true⟩,
  ⟨(some 11), none, .mv (.tmp 94), 5, [], true⟩])
 (.seq (.seq (.region 7 [
  ⟨(some 95), none, .mv (.tmp 2), 0, [], true⟩,
  ⟨(some 96), none, .nilCheck (.tmp 95), 1, [], true⟩,
  ⟨(some 97), none, .fieldAddr 9 (.tmp 96), 2, [], true⟩,
  ⟨(some 98), none, .load 1 false (.tmp 97), 3, [], true⟩,
  ⟨(some 99), none, .mv (.tmp 11), 4, [], true⟩,
  ⟨(some 100), none, .len false (.tmp 99), 5, [], true⟩,
  ⟨(some 101), none, .bin .eql (.tmp 98) (.tmp 100), 6, [], true⟩])
 (.cond (.tmp 101) (.seq (.region 4 [
  ⟨(some 102), none, .mv (.tmp 2), 0, [], true⟩,
  ⟨(some 103), none, .nilCheck (.tmp 102), 1, [], true⟩,
  ⟨(some 104), none, .fieldAddr 7 (.tmp 103), 2, [], true⟩,
  ⟨none, none, .store 1 (.tmp 104) (.const (.int .i64 6)), 3, [], true⟩])
 (.exit 0)) .skip))
 (.seq (.seq (.region 24 [
  ⟨(some 105), none, .mv (.tmp 0), 0, [], true⟩,
  ⟨(some 106), none, .nilCheck (.tmp 105), 1, [], true⟩,
  ⟨(some 107), none, .fieldAddr 1 (.tmp 106), 2, [], true⟩,
  ⟨(some 108), none, .load 1 false (.tmp 107), 3, [], true⟩,
  ⟨(some 109), none, .mv (.tmp 11), 4, [], false⟩,
  ⟨(some 110), none, .mv (.tmp 2), 5, [], false⟩,
  ⟨(some 111), none, .nilCheck (.tmp 110), 6, [], false⟩,
  ⟨(some 112), none, .fieldAddr 9 (.tmp 111), 7, [], false⟩,
  ⟨(some 113), none, .load 1 false (.tmp 112), 8, [], false⟩,
  ⟨(some 114), none, .adSl 3 (.tmp 109) (.tmp 113), 9, [], false⟩,
  ⟨(some 115), none, .fieldAddr 0 (.tmp 114), 10, [], false⟩,
  ⟨(some 116), none, .load 1 false (.tmp 115), 11, [], false⟩,
  ⟨(some 117), none, .adSl 1 (.tmp 108) (.tmp 116), 12, [], true⟩,
  ⟨(some 118), none, .load 1 false (.tmp 117), 13, [], true⟩,
  ⟨(some 119), none, .mv (.tmp 11), 14, [], false⟩,
  ⟨(some 120), none, .mv (.tmp 2), 15, [], false⟩,
  ⟨(some 121), none, .nilCheck (.tmp 120), 16, [], false⟩,
  ⟨(some 122), none, .fieldAddr 9 (.tmp 121), 17, [], false⟩,
  ⟨(some 123), none, .load 1 false (.tmp 122), 18, [], false⟩,
  ⟨(some 124), none, .adSl 3 (.tmp 119) (.tmp 123), 19, [], false⟩,
  ⟨(some 125), none, .fieldAddr 1 (.tmp 124), 20, [], false⟩,
  ⟨(some 126), none, .load 1 false (.tmp 125), 21, [], false⟩,
  ⟨(some 127), none, .call (.func 114) [(.tmp 118), (.tmp 126)], 22, [], true⟩,
  ⟨(some 128), none, .un .not (.tmp 127), 23, [], true⟩])
 (.cond (.tmp 128) (.seq (.region 4 [
  ⟨(some 129), none, .mv (.tmp 0), 0, [], true⟩,
  ⟨(some 130), none, .mv (.tmp 1), 1, [], true⟩,
  ⟨(some 131), none, .call (.func 71) [(.tmp 129), (.tmp 130), (.const (.int .u8 1))], 2, [], true⟩,
  ⟨none, none, .store 7 (.tmp 6) (.tmp 131), 3, [], true⟩])
 .ret) .skip))
 (.region 8 [
  ⟨(some 132), none, .mv (.tmp 2), 0, [], true⟩,
  ⟨(some 133), none, .nilCheck (.tmp 132), 1, [], true⟩,
  ⟨(some 134), none, .fieldAddr 9 (.tmp 133), 2, [], true⟩,
  ⟨(some 135), none, .load 1 false (.tmp 134), 3, [], true⟩,
  ⟨(some 136), none, .bin .add (.tmp 135) (.const (.int .i64 1)), 4, [], true⟩,
  ⟨(some 137), none, .nilCheck (.tmp 132), 5, [], true⟩,
  ⟨(some 138), none, .fieldAddr 9 (.tmp 137), 6, [], true⟩,
  ⟨none, none, .store 1 (.tmp 138) (.tmp 136), 7, [], true⟩])))) (.seq (.region 4 [
  ⟨(some 16), none, .mv (.tmp 2), 0, [], true⟩,
  ⟨(some 17), none, .nilCheck (.tmp 16), 1, [], true⟩,
  ⟨(some 18), none, .fieldAddr 7 (.tmp 17), 2, [], true⟩,
  ⟨none, none, .store 1 (.tmp 18) (.const (.int .i64 4)), 3, [], true⟩])
 (.seq (.region 9 [
  ⟨(some 19), none, .mv (.tmp 0), 0, [], true⟩,
  ⟨(some 20), none, .nilCheck (.tmp 19), 1, [], true⟩,
  ⟨(some 21), none, .fieldAddr 0 (.tmp 20), 2, [], true⟩,
  ⟨(some 22), none, .load 1 false (.tmp 21), 3, [], true⟩,
  ⟨(some 23), none, .mv (.tmp 2), 4, [], false⟩,
  ⟨(some 24), none, .nilCheck (.tmp 23), 5, [], false⟩,
  ⟨(some 25), none, .fieldAddr 10 (.tmp 24), 6, [], false⟩,
  ⟨(some 26), none, .load 1 false (.tmp 25), 7, [], false⟩,
  ⟨(some 27), none, .call (.func 115) [(.tmp 22), (.tmp 26)], 8, [], true⟩])
 (.cond (.tmp 27) (.seq (.region 16 [
  ⟨(some 28), none, .mv (.tmp 2), 0, [], true⟩,
  ⟨(some 29), none, .mv (.tmp 2), 1, [], false⟩,
  ⟨(some 30), none, .mv (.tmp 2), 2, [], false⟩,
  ⟨(some 31), none, .nilCheck (.tmp 30), 3, [], false⟩,
  ⟨(some 32), none, .fieldAddr 10 (.tmp 31), 4, [], false⟩,
  ⟨(some 33), none, .load 1 false (.tmp 32), 5, [], false⟩,
  ⟨(some 34), none, .mv (.tmp 2), 6, [], false⟩,
  ⟨(some 35), none, .nilCheck (.tmp 34), 7, [], false⟩,
  ⟨(some 36), none, .fieldAddr 8 (.tmp 35), 8, [], false⟩,
  ⟨(some 37), none, .load 1 false (.tmp 36), 9, [], false⟩,
  ⟨(some 38), none, .nilCheck (.tmp 28), 10, [], false⟩,
  ⟨(some 39), none, .fieldAddr 3 (.tmp 38), 11, [], false⟩,
  ⟨none, none, .store 1 (.tmp 39) (.tmp 33), 12, [], false⟩,
  ⟨(some 40), none, .nilCheck (.tmp 29), 13, [], true⟩,
  ⟨(some 41), none, .fieldAddr 7 (.tmp 40), 14, [], true⟩,
  ⟨none, none, .store 1 (.tmp 41) (.tmp 37), 15, [], true⟩])
 (.region 15 [
  ⟨(some 42), none, .mv (.tmp 0), 0, [], true⟩,
  ⟨(some 43), none, .nilCheck (.tmp 42), 1, [], true⟩,
  ⟨(some 44), none, .fieldAddr 4 (.tmp 43), 2, [], true⟩,
  ⟨(some 45), none, .load 1 false (.tmp 44), 3, [], true⟩,
  ⟨(some 46), none, .mv (.tmp 2), 4, [], false⟩,
  ⟨(some 47), none, .nilCheck (.tmp 46), 5, [], false⟩,
  ⟨(some 48), none, .fieldAddr 2 (.tmp 47), 6, [], false⟩,
  ⟨(some 49), none, .load 1 false (.tmp 48), 7, [], false⟩,
  ⟨(some 50), none, .mv (.tmp 2), 8, [], false⟩,
  ⟨(some 51), none, .nilCheck (.tmp 50), 9, [], false⟩,
  ⟨(some 52), none, .fieldAddr 10 (.tmp 51), 10, [], false⟩,
  ⟨(some 53), none, .load 1 false (.tmp 52), 11, [], false⟩,
  ⟨(some 54), none, .bin .add (.tmp 53) (.const (.int .u64 1)), 12, [], false⟩,
  ⟨(some 55), none, .adSl 1 (.tmp 45) (.tmp 49), 13, [], true⟩,
  ⟨none, none, .store 1 (.tmp 55) (.tmp 54), 14, [], true⟩])) .skip)))))))))
 (.seq (.region 2 [
  ⟨(some 139), none, .build [(.bool false), (.int .u64 0), (.bool false), (.int .i64 0), (.bool false), (.int .u8 0), (.int .i64 0)] [], 0, [], true⟩,
  ⟨none, none, .store 7 (.tmp 6) (.tmp 139), 1, [], true⟩])
 .ret)))⟩

def m71 : MFn := ⟨44, [(6, (some (7, true)))], (.seq (.region 1 [
  ⟨(some 6), none, .alloc [(.bool false), (.int .u64 0), (.bool false), (.int .i64 0), (.bool false), (.int .u8 0), (.int .i64 0)] 52, 0, [], true⟩])
 (.seq (.region 7 [
  ⟨(some 8), none, .mv (.tmp 0), 0, [], true⟩,
  ⟨(some 9), none, .nilCheck (.tmp 8), 1, [], true⟩,
  ⟨(some 10), none, .fieldAddr 2 (.tmp 9), 2, [], true⟩,
  ⟨(some 11), none, .load 1 false (.tmp 10), 3, [], true⟩,
  ⟨(some 12), none, .mv (.tmp 1), 4, [], true⟩,
  ⟨(some 13), none, .lookup .int (.pointer none) false (.tmp 11) (.tmp 12), 5, [], true⟩,
  ⟨(some 7), none, .mv (.tmp 13), 6, [], true⟩])
 (.seq (.region 6 [
  ⟨(some 14), none, .mv (.tmp 0), 0, [], true⟩,
  ⟨(some 15), none, .nilCheck (.tmp 14), 1, [], true⟩,
  ⟨(some 16), none, .fieldAddr 2 (.tmp 15), 2, [], true⟩,
  ⟨(some 17), none, .load 1 false (.tmp 16), 3, [], true⟩,
  ⟨(some 18), none, .mv (.tmp 1), 4, [], true⟩,
  ⟨none, none, .delete .int (.tmp 17) (.tmp 18), 5, [], true⟩])
 (.seq (.region 6 [
  ⟨(some 19), none, .mv (.tmp 0), 0, [], true⟩,
  ⟨(some 20), none, .nilCheck (.tmp 19), 1, [], true⟩,
  ⟨(some 21), none, .fieldAddr 0 (.tmp 20), 2, [], true⟩,
  ⟨(some 22), none, .load 1 false (.tmp 21), 3, [], true⟩,
  ⟨(some 23), none, .mv (.tmp 1), 4, [], true⟩,
  ⟨(some 24), none, .call (.func 116) [(.tmp 22), (.tmp 23)], 5, [], true⟩])
 (.seq (.region 11 [
  ⟨(some 25), none, .mv (.tmp 0), 0, [], true⟩,
  ⟨(some 26), none, .nilCheck (.tmp 25), 1, [], true⟩,
  ⟨(some 27), none, .fieldAddr 5 (.tmp 26), 2, [], true⟩,
  ⟨(some 28), none, .load 1 false (.tmp 27), 3, [], true⟩,
  ⟨(some 29), none, .mv (.tmp 7), 4, [], false⟩,
  ⟨(some 30), none, .nilCheck (.tmp 29), 5, [], false⟩,
  ⟨(some 31), none, .fieldAddr 2 (.tmp 30), 6, [], false⟩,
  ⟨(some 32), none, .load 1 false (.tmp 31), 7, [], false⟩,
  ⟨(some 33), none, .mv (.tmp 2), 8, [], false⟩,
  ⟨(some 34), none, .adSl 1 (.tmp 28) (.tmp 32), 9, [], true⟩,
  ⟨none, none, .store 1 (.tmp 34) (.tmp 33), 10, [], true⟩])
 (.seq (.region 7 [
  ⟨(some 35), none, .mv (.tmp 0), 0, [], true⟩,
  ⟨(some 36), none, .mv (.tmp 7), 1, [], true⟩,
  ⟨(some 37), none, .nilCheck (.tmp 36), 2, [], true⟩,
  ⟨(some 38), none, .fieldAddr 2 (.tmp 37), 3, [], true⟩,
  ⟨(some 39), none, .load 1 false (.tmp 38), 4, [], true⟩,
  ⟨(some 40), none, .build [(.int .u8 0), (.int .i64 0), (.int .i64 0), (.int .u64 0)] [(0, 1, (.const (.int .u8 9))), (1, 1, (.tmp 39))], 5, [], true⟩,
  ⟨(some 41), none, .call (.func 67) [(.tmp 35), (.tmp 40)], 6, [], true⟩])
 (.seq (.region 3 [
  ⟨(some 42), none, .mv (.tmp 2), 0, [], true⟩,
  ⟨(some 43), none, .build [(.bool false), (.int .u64 0), (.bool false), (.int .i64 0), (.bool false), (.int .u8 0), (.int .i64 0)] [(0, 1, (.const (.bool true))), (4, 1, (.const (.bool true))), (5, 1, (.tmp 42))], 1, [], true⟩,
  ⟨none, none, .store 7 (.tmp 6) (.tmp 43), 2, [], true⟩])
 .ret)))))))⟩

def m72 : MFn := ⟨129, [(6, (some (7, true)))], (.seq (.region 1 [
  ⟨(some 6), none, .alloc [(.bool false), (.int .u64 0), (.bool false), (.int .i64 0), (.bool false), (.int .u8 0), (.int .i64 0)] 52, 0, [], true⟩])
 (.seq (.region 6 [
  ⟨(some 8), none, .mv (.tmp 2), 0, [], true⟩,
  ⟨(some 9), none, .nilCheck (.tmp 8), 1, [], true⟩,
  ⟨(some 10), none, .fieldAddr 1 (.tmp 9), 2, [], true⟩,
  ⟨(some 11), none, .load 1 false (.tmp 10), 3, [], true⟩,
  ⟨(some 12), none, .call (.func 82) [(.tmp 11)], 4, [], true⟩,
  ⟨(some 7), none, .mv (.tmp 12), 5, [], true⟩])
 (.seq (.seq (.region 4 [
  ⟨(some 13), none, .mv (.tmp 2), 0, [], true⟩,
  ⟨(some 14), none, .nilCheck (.tmp 13), 1, [], true⟩,
  ⟨(some 15), none, .fieldAddr 7 (.tmp 14), 2, [], true⟩,
  ⟨(some 16), none, .load 1 false (.tmp 15), 3, [], true⟩])
 (.block 0 (.seq (.region 2 [
  ⟨(some 27), none, .bin .eql (.tmp 16) (.const (.int .i64 0)), 0, [], true⟩,
  ⟨(some 26), none, .mv (.tmp 27), 1, [], true⟩])
 (.cond (.tmp 26) (.seq (.region 7 [
  ⟨(some 28), none, .mv (.tmp 0), 0, [], true⟩,
  ⟨(some 29), none, .mv (.tmp 2), 1, [], true⟩,
  ⟨(some 30), none, .nilCheck (.tmp 29), 2, [], true⟩,
  ⟨(some 31), none, .fieldAddr 2 (.tmp 30), 3, [], true⟩,
  ⟨(some 32), none, .load 1 false (.tmp 31), 4, [], true⟩,
  ⟨(some 33), none, .build [(.int .u8 0), (.int .i64 0), (.int .i64 0), (.int .u64 0)] [(0, 1, (.const (.int .u8 7))), (1, 1, (.tmp 32))], 5, [], true⟩,
  ⟨(some 34), none, .call (.func 67) [(.tmp 28), (.tmp 33)], 6, [], true⟩])
 (.seq (.seq (.region 3 [
  ⟨(some 35), none, .mv (.tmp 7), 0, [], true⟩,
  ⟨(some 36), none, .len false (.tmp 35), 1, [], true⟩,
  ⟨(some 37), none, .bin .eql (.tmp 36) (.const (.int .i64 0)), 2, [], true⟩])
 (.cond (.tmp 37) (.seq (.region 4 [
  ⟨(some 38), none, .mv (.tmp 0), 0, [], true⟩,
  ⟨(some 39), none, .mv (.tmp 1), 1, [], true⟩,
  ⟨(some 40), none, .call (.func 117) [(.tmp 38), (.tmp 39)], 2, [], true⟩,
  ⟨none, none, .store 7 (.tmp 6) (.tmp 40), 3, [], true⟩])
 .ret) .skip))
 (.region 4 [
  ⟨(some 41), none, .mv (.tmp 2), 0, [], true⟩,
  ⟨(some 42), none, .nilCheck (.tmp 41), 1, [], true⟩,
  ⟨(some 43), none, .fieldAddr 7 (.tmp 42), 2, [], true⟩,
  ⟨none, none, .store 1 (.tmp 43) (.const (.int .i64 1)), 3, [], true⟩]))) (.seq (.region 2 [
  ⟨(some 45), none, .bin .eql (.tmp 16) (.const (.int .i64 1)), 0, [], true⟩,
  ⟨(some 44), none, .mv (.tmp 45), 1, [], true⟩])
 (.cond (.tmp 44) (.seq (.region 10 [
  ⟨(some 46), none, .mv (.tmp 0), 0, [], true⟩,
  ⟨(some 47), none, .nilCheck (.tmp 46), 1, [], true⟩,
  ⟨(some 48), none, .fieldAddr 0 (.tmp 47), 2, [], true⟩,
  ⟨(some 49), none, .load 1 false (.tmp 48), 3, [], true⟩,
  ⟨(some 50), none, .mv (.tmp 1), 4, [], false⟩,
  ⟨(some 51), none, .mv (.tmp 2), 5, [], false⟩,
  ⟨(some 52), none, .nilCheck (.tmp 51), 6, [], false⟩,
  ⟨(some 53), none, .fieldAddr 3 (.tmp 52), 7, [], false⟩,
  ⟨(some 54), none, .load 1 false (.tmp 53), 8, [], false⟩,
  ⟨(some 55), none, .call (.func 118) [(.tmp 49), (.tmp 50), (.tmp 54)], 9, [], true⟩])
 (.block 1 (.seq (.region 2 [
  ⟨(some 59), none, .bin .eql (.tmp 55) (.const (.int .i64 0)), 0, [], true⟩,
  ⟨(some 58), none, .mv (.tmp 59), 1, [], true⟩])
 (.cond (.tmp 58) (.seq (.region 12 [
  ⟨(some 60), none, .mv (.tmp 2), 0, [], true⟩,
  ⟨(some 61), none, .mv (.tmp 2), 1, [], true⟩,
  ⟨(some 62), none, .mv (.tmp 2), 2, [], true⟩,
  ⟨(some 63), none, .nilCheck (.tmp 60), 3, [], true⟩,
  ⟨(some 64), none, .fieldAddr 12 (.tmp 63), 4, [], true⟩,
  ⟨none, none, .store 1 (.tmp 64) (.const (.bool true)), 5, [], true⟩,
  ⟨(some 65), none, .nilCheck (.tmp 61), 6, [], true⟩,
  ⟨(some 66), none, .fieldAddr 7 (.tmp 65), 7, [], true⟩,
  ⟨none, none, .store 1 (.tmp 66) (.const (.int .i64 2)), 8, [], true⟩,
  ⟨(some 67), none, .nilCheck (.tmp 62), 9, [], true⟩,
  ⟨(some 68), none, .fieldAddr 9 (.tmp 67), 10, [], true⟩,
  ⟨none, none, .store 1 (.tmp 68) (.const (.int .i64 0)), 11, [], true⟩])
 (.region 15 [
  ⟨(some 69), none, .mv (.tmp 0), 0, [], true⟩,
  ⟨(some 70), none, .nilCheck (.tmp 69), 1, [], true⟩,
  ⟨(some 71), none, .fieldAddr 4 (.tmp 70), 2, [], true⟩,
  ⟨(some 72), none, .load 1 false (.tmp 71), 3, [], true⟩,
  ⟨(some 73), none, .mv (.tmp 2), 4, [], false⟩,
  ⟨(some 74), none, .nilCheck (.tmp 73), 5, [], false⟩,
  ⟨(some 75), none, .fieldAddr 2 (.tmp 74), 6, [], false⟩,
  ⟨(some 76), none, .load 1 false (.tmp 75), 7, [], false⟩,
  ⟨(some 77), none, .mv (.tmp 2), 8, [], false⟩,
  ⟨(some 78), none, .nilCheck (.tmp 77), 9, [], false⟩,
  ⟨(some 79), none, .fieldAddr 3 (.tmp 78), 10, [], false⟩,
  ⟨(some 80), none, .load 1 false (.tmp 79), 11, [], false⟩,
  ⟨(some 81), none, .bin .add (.tmp 80) (.const (.int .u64 2)), 12, [], false⟩,
  ⟨(some 82), none, .adSl 1 (.tmp 72) (.tmp 76), 13, [], true⟩,
  ⟨none, none, .store 1 (.tmp 82) (.tmp 81), 14, [], true⟩])) (.seq (.region 2 [
  ⟨(some 84), none, .bin .eql (.tmp 55) (.const (.int .i64 4)), 0, [], true⟩,
  ⟨(some 83), none, .mv (.tmp 84), 1, [], true⟩])
 (.cond (.tmp 83) (.seq (.region 4 [
  ⟨(some 85), none, .mv (.tmp 0), 0, [], true⟩,
  ⟨(some 86), none, .mv (.tmp 1), 1, [], true⟩,
  ⟨(some 87), none, .call (.func 71) [(.tmp 85), (.tmp 86), (.const (.int .u8 2))], 2, [], true⟩,
  ⟨none, none, .store 7 (.tmp 6) (.tmp 87), 3, [], true⟩])
 .ret) (.seq (.region 3 [
  ⟨(some 56), none, .mv (.tmp 2), 0, [], true⟩,
  ⟨(some 57), none, .call (.func 119) [(.tmp 56), (.const (.int .i64 1))], 1, [], true⟩,
  ⟨none, none, .store 7 (.tmp 6) (.tmp 57), 2, [], true⟩])
 .ret))))))) (.seq (.region 2 [
  ⟨(some 89), none, .bin .eql (.tmp 16) (.const (.int .i64 2)), 0, [], true⟩,
  ⟨(some 88), none, .mv (.tmp 89), 1, [], true⟩])
 (.cond (.tmp 88) (.seq (.region 22 [
  ⟨(some 90), none, .mv (.tmp 0), 0, [], true⟩,
  ⟨(some 91), none, .nilCheck (.tmp 90), 1, [], true⟩,
  ⟨(some 92), none, .fieldAddr 1 (.tmp 91), 2, [], true⟩,
  ⟨(some 93), none, .load 1 false (.tmp 92), 3, [], true⟩,
  ⟨(some 94), none, .mv (.tmp 7), 4, [], false⟩,
  ⟨(some 95), none, .mv (.tmp 2), 5, [], false⟩,
  ⟨(some 96), none, .nilCheck (.tmp 95), 6, [], false⟩,
  ⟨(some 97), none, .fieldAddr 9 (.tmp 96), 7, [], false⟩,
  ⟨(some 98), none, .load 1 false (.tmp 97), 8, [], false⟩,
  ⟨(some 99), none, .adSl 2 (.tmp 94) (.tmp 98), 9, [], false⟩,
  ⟨(some 100), none, .fieldAddr 0 (.tmp 99), 10, [], false⟩,
  ⟨(some 101), none, .load 1 false (.tmp 100), 11, [], false⟩,
  ⟨(some 102), none, .mv (.tmp 7), 12, [], false⟩,
  ⟨(some 103), none, .mv (.tmp 2), 13, [], false⟩,
  ⟨(some 104), none, .nilCheck (.tmp 103), 14, [], false⟩,
  ⟨(some 105), none, .fieldAddr 9 (.tmp 104), 15, [], false⟩,
  ⟨(some 106), none, .load 1 false (.tmp 105), 16, [], false⟩,
  ⟨(some 107), none, .adSl 2 (.tmp 102) (.tmp 106), 17, [], false⟩,
  ⟨(some 108), none, .fieldAddr 1 (.tmp 107), 18, [], false⟩,
  ⟨(some 109), none, .load 1 false (.tmp 108), 19, [], false⟩,
  ⟨(some 110), none, .adSl 1 (.tmp 93) (.tmp 101), 20, [], true⟩,
  ⟨none, none, .store 1 (.tmp 110) (.tmp 109), 21, [], true⟩])
 (.seq (.region 8 [
  ⟨(some 111), none, .mv (.tmp 2), 0, [], true⟩,
  ⟨(some 112), none, .nilCheck (.tmp 111), 1, [], true⟩,
  ⟨(some 113), none, .fieldAddr 9 (.tmp 112), 2, [], true⟩,
  ⟨(some 114), none, .load 1 false (.tmp 113), 3, [], true⟩,
  ⟨(some 115), none, .bin .add (.tmp 114) (.const (.int .i64 1)), 4, [], true⟩,
  ⟨(some 116), none, .nilCheck (.tmp 111), 5, [], true⟩,
  ⟨(some 117), none, .fieldAddr 9 (.tmp 116), 6, [], true⟩,
  ⟨none, none, .store 1 (.tmp 117) (.tmp 115), 7, [], true⟩])
 (.seq (.region 7 [
  ⟨(some 118), none, .mv (.tmp 2), 0, [], true⟩,
  ⟨(some 119), none, .nilCheck (.tmp 118), 1, [], true⟩,
  ⟨(some 120), none, .fieldAddr 9 (.tmp 119), 2, [], true⟩,
  ⟨(some 121), none, .load 1 false (.tmp 120), 3, [], true⟩,
  ⟨(some 122), none, .mv (.tmp 7), 4, [], true⟩,
  ⟨(some 123), none, .len false (.tmp 122), 5, [], true⟩,
  ⟨(some 124), none, .bin .eql (.tmp 121) (.tmp 123), 6, [], true⟩])
 (.cond (.tmp 124) (.region 4 [
  ⟨(some 125), none, .mv (.tmp 2), 0, [], true⟩,
  ⟨(some 126), none, .nilCheck (.tmp 125), 1, [], true⟩,
  ⟨(some 127), none, .fieldAddr 7 (.tmp 126), 2, [], true⟩,
  ⟨none, none, .store 1 (.tmp 127) (.const (.int .i64 3)), 3, [], true⟩]) .skip)))) (.seq (.region 6 [
  ⟨(some 17), none, .mv (.tmp 0), 0, [], true⟩,
  ⟨(some 18), none, .nilCheck (.tmp 17), 1, [], true⟩,
  ⟨(some 19), none, .fieldAddr 0 (.tmp 18), 2, [], true⟩,
  ⟨(some 20), none, .load 1 false (.tmp 19), 3, [], true⟩,
  ⟨(some 21), none, .mv (.tmp 1), 4, [], true⟩,
  ⟨(some 22), none, .call (.func 120) [(.tmp 20), (.tmp 21)], 5, [], true⟩])
 (.seq (.region 4 [
  ⟨(some 23), none, .mv (.tmp 0), 0, [], true⟩,
  ⟨(some 24), none, .mv (.tmp 1), 1, [], true⟩,
  ⟨(some 25), none, .call (.func 117) [(.tmp 23), (.tmp 24)], 2, [], true⟩,
  ⟨none, none, .store 7 (.tmp 6) (.tmp 25), 3, [], true⟩])
 .ret))))))))))
 (.seq (.region 2 [
  ⟨(some 128), none, .build [(.bool false), (.int .u64 0), (.bool false), (.int .i64 0), (.bool false), (.int .u8 0), (.int .i64 0)] [], 0, [], true⟩,
  ⟨none, none, .store 7 (.tmp 6) (.tmp 128), 1, [], true⟩])
 .ret))))⟩

def m73 : MFn := ⟨25, [(4, (some (1, false))), (5, (some (1, false)))], (.seq (.region 3 [
  ⟨(some 3), none, .box 3 (.tmp 1), 0, [], true⟩,
  ⟨(some 4), none, .alloc [(.int .u64 0)] 35, 1, [], true⟩,
  ⟨(some 5), none, .alloc [(.bool false)] 4, 2, [], true⟩])
 (.seq (.seq (.region 2 [
  ⟨(some 9), none, .mv (.tmp 0), 0, [], true⟩,
  ⟨(some 10), none, .eq false .ptr (.tmp 9) (.const (.pointer none)), 1, [], true⟩])
 (.cond (.tmp 10) (.seq (.region 2 [
  ⟨none, none, .store 1 (.tmp 4) (.const (.int .u64 0)), 0, [], true⟩,
  ⟨none, none, .store 1 (.tmp 5) (.const (.bool false)), 1, [], true⟩])
 .ret) .skip))
 (.seq (.seq (.region 5 [
  ⟨(some 11), none, .mv (.tmp 0), 0, [], true⟩,
  ⟨(some 12), none, .nilCheck (.tmp 11), 1, [], true⟩,
  ⟨(some 13), none, .fieldAddr 0 (.tmp 12), 2, [], true⟩,
  ⟨(some 14), none, .load 1 false (.tmp 13), 3, [], true⟩,
  ⟨(some 15), none, .call (.func 121) [(.tmp 14)], 4, [], true⟩])
 (.block 0 (.rangeF (.tmp 15) [16] (.region 1 [
  ⟨(some 6), none, .mv (.tmp 16), 0, [], true⟩]) (.block 1 (.seq (.region 8 [
  ⟨(some 18), none, .mv (.tmp 6), 0, [], true⟩,
  ⟨(some 19), none, .load 1 false (.tmp 3), 1, [], true⟩,
  ⟨(some 20), none, .call (.func 122) [(.tmp 18), (.tmp 19)], 2, [], true⟩,
  ⟨(some 17), none, .mv (.tmp 20), 3, [], true⟩,
  ⟨(some 21), none, .extract (.tmp 17) 0, 4, [], true⟩,
  ⟨(some 22), none, .extract (.tmp 17) 1, 5, [], true⟩,
  ⟨(some 7), none, .mv (.tmp 21), 6, [], true⟩,
  ⟨(some 8), none, .mv (.tmp 22), 7, [], true⟩])
 (.seq (.region 1 [
  ⟨(some 23), none, .mv (.tmp 8), 0, [], true⟩])
 (.cond (.tmp 23) (.seq (.region 3 [
  ⟨(some 24), none, .mv (.tmp 7), 0, [], true⟩,
  ⟨none, none, .store 1 (.tmp 4) (.tmp 24), 1, [], true⟩,
  ⟨none, none, .store 1 (.tmp 5) (.const (.bool true)), 2, [], true⟩])
 .ret) .skip)))))))
 (.seq (.region 2 [
  ⟨none, none, .store 1 (.tmp 4) (.const (.int .u64 0)), 0, [], true⟩,
  ⟨none, none, .store 1 (.tmp 5) (.const (.bool false)), 1, [], true⟩])
 .ret))))⟩

def m74 : MFn := ⟨23, [(6, (some (7, true)))], (.seq (.region 1 [
  ⟨(some 6), none, .alloc [(.bool false), (.int .u64 0), (.bool false), (.int .i64 0), (.bool false), (.int .u8 0), (.int .i64 0)] 52, 0, [], true⟩])
 (.seq (.region 13 [
  ⟨(some 7), none, .mv (.tmp 0), 0, [], true⟩,
  ⟨(some 8), none, .mv (.tmp 1), 1, [], false⟩,
  ⟨(some 9), none, .nilCheck (.tmp 8), 2, [], false⟩,
  ⟨(some 10), none, .fieldAddr 2 (.tmp 9), 3, [], false⟩,
  ⟨(some 11), none, .load 1 false (.tmp 10), 4, [], false⟩,
  ⟨(some 12), none, .mv (.tmp 1), 5, [], false⟩,
  ⟨(some 13), none, .nilCheck (.tmp 12), 6, [], false⟩,
  ⟨(some 14), none, .fieldAddr 4 (.tmp 13), 7, [], false⟩,
  ⟨(some 15), none, .fieldAddr 1 (.tmp 14), 8, [], false⟩,
  ⟨(some 16), none, .load 1 false (.tmp 15), 9, [], false⟩,
  ⟨(some 17), none, .mv (.tmp 2), 10, [], false⟩,
  ⟨(some 18), none, .build [(.int .u8 0), (.int .i64 0), (.int .i64 0), (.int .u64 0)] [(0, 1, (.const (.int .u8 2))), (1, 1, (.tmp 11)), (2, 1, (.tmp 16)), (3, 1, (.tmp 17))], 11, [], false⟩,
  ⟨(some 19), none, .call (.func 67) [(.tmp 7), (.tmp 18)], 12, [], true⟩])
 (.seq (.region 4 [
  ⟨(some 20), none, .mv (.tmp 1), 0, [], true⟩,
  ⟨(some 21), none, .mv (.tmp 2), 1, [], true⟩,
  ⟨(some 22), none, .call (.func 123) [(.tmp 20), (.tmp 21)], 2, [], true⟩,
  ⟨none, none, .store 7 (.tmp 6) (.tmp 22), 3, [], true⟩])
 .ret)))⟩

def m75 : MFn := ⟨69, [(6, (some (7, true)))], (.seq (.region 1 [
  ⟨(some 6), none, .alloc [(.bool false), (.int .u64 0), (.bool false), (.int .i64 0), (.bool false), (.int .u8 0), (.int .i64 0)] 52, 0, [], true⟩])
 (.seq (.region 6 [
  ⟨(some 8), none, .mv (.tmp 2), 0, [], true⟩,
  ⟨(some 9), none, .nilCheck (.tmp 8), 1, [], true⟩,
  ⟨(some 10), none, .fieldAddr 4 (.tmp 9), 2, [], true⟩,
  ⟨(some 11), none, .fieldAddr 1 (.tmp 10), 3, [], true⟩,
  ⟨(some 12), none, .load 1 false (.tmp 11), 4, [], true⟩,
  ⟨(some 7), none, .mv (.tmp 12), 5, [], true⟩])
 (.seq (.block 0 (.seq (.region 6 [
  ⟨(some 14), none, .mv (.tmp 2), 0, [], true⟩,
  ⟨(some 15), none, .nilCheck (.tmp 14), 1, [], true⟩,
  ⟨(some 16), none, .fieldAddr 7 (.tmp 15), 2, [], true⟩,
  ⟨(some 17), none, .load 1 false (.tmp 16), 3, [], true⟩,
  ⟨(some 18), none, .bin .eql (.tmp 17) (.const (.int .i64 0)), 4, [], true⟩,
  ⟨(some 13), none, .mv (.tmp 18), 5, [], true⟩])
 (.cond (.tmp 13) (.seq (.region 15 [
  ⟨(some 19), none, .mv (.tmp 2), 0, [], true⟩,
  ⟨(some 20), none, .mv (.tmp 2), 1, [], true⟩,
  ⟨(some 21), none, .mv (.tmp 0), 2, [], true⟩,
  ⟨(some 22), none, .nilCheck (.tmp 21), 3, [], true⟩,
  ⟨(some 23), none, .fieldAddr 1 (.tmp 22), 4, [], true⟩,
  ⟨(some 24), none, .load 1 false (.tmp 23), 5, [], true⟩,
  ⟨(some 25), none, .mv (.tmp 7), 6, [], true⟩,
  ⟨(some 26), none, .adSl 1 (.tmp 24) (.tmp 25), 7, [], true⟩,
  ⟨(some 27), none, .load 1 false (.tmp 26), 8, [], true⟩,
  ⟨(some 28), none, .nilCheck (.tmp 19), 9, [], true⟩,
  ⟨(some 29), none, .fieldAddr 11 (.tmp 28), 10, [], true⟩,
  ⟨none, none, .store 1 (.tmp 29) (.tmp 27), 11, [], true⟩,
  ⟨(some 30), none, .nilCheck (.tmp 20), 12, [], true⟩,
  ⟨(some 31), none, .fieldAddr 7 (.tmp 30), 13, [], true⟩,
  ⟨none, none, .store 1 (.tmp 31) (.const (.int .i64 1)), 14, [], true⟩])
 (.seq (.region 2 [
  ⟨(some 32), none, .build [(.bool false), (.int .u64 0), (.bool false), (.int .i64 0), (.bool false), (.int .u8 0), (.int .i64 0)] [], 0, [], true⟩,
  ⟨none, none, .store 7 (.tmp 6) (.tmp 32), 1, [], true⟩])
 .ret)) (.seq (.region 11 [
  ⟨(some 34), none, .mv (.tmp 0), 0, [], true⟩,
  ⟨(some 35), none, .nilCheck (.tmp 34), 1, [], true⟩,
  ⟨(some 36), none, .fieldAddr 0 (.tmp 35), 2, [], true⟩,
  ⟨(some 37), none, .load 1 false (.tmp 36), 3, [], true⟩,
  ⟨(some 38), none, .mv (.tmp 2), 4, [], false⟩,
  ⟨(some 39), none, .nilCheck (.tmp 38), 5, [], false⟩,
  ⟨(some 40), none, .fieldAddr 3 (.tmp 39), 6, [], false⟩,
  ⟨(some 41), none, .load 1 false (.tmp 40), 7, [], false⟩,
  ⟨(some 42), none, .call (.func 115) [(.tmp 37), (.tmp 41)], 8, [], true⟩,
  ⟨(some 43), none, .un .not (.tmp 42), 9, [], true⟩,
  ⟨(some 33), none, .mv (.tmp 43), 10, [], true⟩])
 (.cond (.tmp 33) (.seq (.region 3 [
  ⟨(some 44), none, .mv (.tmp 2), 0, [], true⟩,
  ⟨(some 45), none, .call (.func 119) [(.tmp 44), (.const (.int .i64 0))], 1, [], true⟩,
  ⟨none, none, .store 7 (.tmp 6) (.tmp 45), 2, [], true⟩])
 .ret) (.seq (.region 13 [
  ⟨(some 47), none, .mv (.tmp 2), 0, [], true⟩,
  ⟨(some 48), none, .nilCheck (.tmp 47), 1, [], true⟩,
  ⟨(some 49), none, .fieldAddr 0 (.tmp 48), 2, [], true⟩,
  ⟨(some 50), none, .load 1 false (.tmp 49), 3, [], true⟩,
  ⟨(some 51), none, .mv (.tmp 7), 4, [], false⟩,
  ⟨(some 52), none, .mv (.tmp 2), 5, [], false⟩,
  ⟨(some 53), none, .nilCheck (.tmp 52), 6, [], false⟩,
  ⟨(some 54), none, .fieldAddr 11 (.tmp 53), 7, [], false⟩,
  ⟨(some 55), none, .load 1 false (.tmp 54), 8, [], false⟩,
  ⟨(some 56), none, .build [(.int .i64 0), (.int .u64 0), (.int .u64 0)] [(0, 1, (.tmp 51)), (1, 1, (.tmp 55))], 9, [], false⟩,
  ⟨(some 57), none, .call (.func 124) [(.tmp 50), (.tmp 56)], 10, [], true⟩,
  ⟨(some 58), none, .bin .neq (.tmp 57) (.const (.int .i64 0)), 11, [], true⟩,
  ⟨(some 46), none, .mv (.tmp 58), 12, [], true⟩])
 (.cond (.tmp 46) (.seq (.region 4 [
  ⟨(some 59), none, .mv (.tmp 0), 0, [], true⟩,
  ⟨(some 60), none, .mv (.tmp 1), 1, [], true⟩,
  ⟨(some 61), none, .call (.func 71) [(.tmp 59), (.tmp 60), (.const (.int .u8 2))], 2, [], true⟩,
  ⟨none, none, .store 7 (.tmp 6) (.tmp 61), 3, [], true⟩])
 .ret) .skip)))))))
 (.seq (.region 8 [
  ⟨(some 62), none, .mv (.tmp 0), 0, [], true⟩,
  ⟨(some 63), none, .mv (.tmp 2), 1, [], true⟩,
  ⟨(some 64), none, .mv (.tmp 2), 2, [], true⟩,
  ⟨(some 65), none, .nilCheck (.tmp 64), 3, [], true⟩,
  ⟨(some 66), none, .fieldAddr 11 (.tmp 65), 4, [], true⟩,
  ⟨(some 67), none, .load 1 false (.tmp 66), 5, [], true⟩,
  ⟨(some 68), none, .call (.func 74) [(.tmp 62), (.tmp 63), (.tmp 67)], 6, [], true⟩,
  ⟨none, none, .store 7 (.tmp 6) (.tmp 68), 7, [], true⟩])
 .ret))))⟩

end Ev
