import Derived.Test.YtekkbhmlocageaaG4
namespace Go.Proofs.Ytekkbhmlocageaa.Own
open Go Go.Proofs.Ytekkbhmlocageaa.GD

def tyL : List (Nat × Vk) := [(3, ⟨false, [.int .i64]⟩), (5, ⟨false, [.int .u8]⟩), (30, ⟨false, [.int .u32]⟩), (39, ⟨true, [.int .u8, .int .u64, .int .u64, .int .i64, .sl 30, .int .u8, .int .u32, .int .u32, .int .u32, .int .u8, .int .u64, .int .u64, .int .i64, .sl 85, .int .u8, .int .u8, .int .u8]⟩), (78, ⟨true, [.int .u8, .int .u8, .int .u8, .int .u8, .int .u8, .int .u8, .int .u8, .int .u8, .int .u8, .int .u8, .int .u8, .int .u8, .int .u8, .int .u8, .int .u8, .int .u8]⟩), (85, ⟨true, [.int .u32, .int .u8, .int .u8, .int .u32, .int .u8, .int .u8, .int .u8, .int .u8, .int .u8, .int .u8, .int .u8, .int .u8, .int .u8, .int .u8, .int .u8, .int .u8, .int .u8, .int .u8, .int .u8, .int .u8, .int .i64, .int .i64, .sl 78, .sl 78]⟩), (91, ⟨false, [.fn]⟩)]
def ty (e : Nat) : Option Vk := tyL.lookup e

/- 35: gatepath/gatepathref07.Great -/
def c_gatepathref07_Great : DFun := ⟨13, 2, [.p], [.p ⟨false, [.bool]⟩], [.t 2],
  .seq (.region false [
    ⟨some 1, .box 1, [(.t 0)], [], none⟩,
    ⟨some 2, .mv, [(.c (D.bool false))], [], none⟩])
  (.seq (.region false [
    ⟨some 3, .fld 1, [(.t 1)], [], none⟩,
    ⟨some 4, .load ⟨false, [.sl 78]⟩, [(.t 3)], [0], none⟩,
    ⟨some 5, .len, [(.t 4)], [1], none⟩,
    ⟨some 6, .bin .gtr, [(.t 5), (.c (D.int .i64 100))], [2], none⟩,
    ⟨some 7, .mv, [(.t 6)], [3], none⟩,
    ⟨some 8, .fld 2, [(.t 1)], [4], some (7, false)⟩,
    ⟨some 9, .load ⟨false, [.sl 78]⟩, [(.t 8)], [5, 4], some (7, false)⟩,
    ⟨some 10, .len, [(.t 9)], [6, 4], some (7, false)⟩,
    ⟨some 11, .bin .gtr, [(.t 10), (.c (D.int .i64 100))], [7, 4], some (7, false)⟩,
    ⟨some 12, .pick, [(.t 7), (.c (D.bool true)), (.t 11)], [4, 8], none⟩,
    ⟨some 2, .mv, [(.t 12)], [9, 4, 0, 1, 2, 3, 4, 5, 6, 7, 8, 9], none⟩])
  (.ret))⟩

/- 18: gatepath/gatepathref42.Great -/
def c_gatepathref42_Great : DFun := ⟨34, 3, [.p], [.p ⟨false, [.bool]⟩], [.t 2],
  .seq (.region false [
    ⟨some 1, .box 1, [(.t 0)], [], none⟩,
    ⟨some 2, .mv, [(.c (D.bool false))], [], none⟩])
  (.seq (.seq (.region false [
    ⟨some 4, .fld 4, [(.t 1)], [], none⟩,
    ⟨some 5, .load ⟨false, [.sl 85]⟩, [(.t 4)], [0], none⟩,
    ⟨some 6, .len, [(.t 5)], [1], none⟩,
    ⟨some 7, .bin .gtr, [(.t 6), (.c (D.int .i64 4))], [2], none⟩,
    ⟨some 8, .mv, [(.t 7)], [3], none⟩,
    ⟨some 9, .fld 4, [(.t 1)], [4], some (8, true)⟩,
    ⟨some 10, .load ⟨false, [.sl 85]⟩, [(.t 9)], [5, 4], some (8, true)⟩,
    ⟨some 11, .len, [(.t 10)], [6, 4], some (8, true)⟩,
    ⟨some 12, .bin .leq, [(.t 11), (.c (D.int .i64 30))], [7, 4], some (8, true)⟩,
    ⟨some 13, .pick, [(.t 8), (.t 12), (.c (D.bool false))], [4, 8], none⟩,
    ⟨some 14, .mv, [(.t 13)], [9, 4], none⟩,
    ⟨some 15, .fld 4, [(.t 1)], [10], some (14, false)⟩,
    ⟨some 16, .load ⟨false, [.sl 85]⟩, [(.t 15)], [11, 10], some (14, false)⟩,
    ⟨some 17, .len, [(.t 16)], [12, 10], some (14, false)⟩,
    ⟨some 18, .bin .gtr, [(.t 17), (.c (D.int .i64 35))], [13, 10], some (14, false)⟩,
    ⟨some 19, .pick, [(.t 14), (.c (D.bool true)), (.t 18)], [10, 14], none⟩])
  (.cond (.t 19) (.seq (.region false [
    ⟨some 2, .mv, [(.c (D.bool true))], [], none⟩])
  (.ret)) (.skip)))
  (.seq (.seq (.region false [
    ⟨some 3, .mv, [(.c (D.int .i64 0))], [], none⟩])
  (.block 0 (.loop ⟨[1], [(3, .p ⟨false, [.int .i64]⟩)], [(1, .v [.p (.int .u8), .p (.int .u64), .p (.int .u64), .p (.int .i64), .p (.sl 85)])]⟩ (.seq (.seq (.region false [
    ⟨some 20, .mv, [(.t 3)], [], none⟩,
    ⟨some 21, .fld 4, [(.t 1)], [], none⟩,
    ⟨some 22, .load ⟨false, [.sl 85]⟩, [(.t 21)], [1], none⟩,
    ⟨some 23, .len, [(.t 22)], [2], none⟩,
    ⟨some 24, .bin .lss, [(.t 20), (.t 23)], [0, 3], none⟩])
  (.cond (.t 24) (.skip) (.exit 0)))
  (.seq (.block 1 (.seq (.region false [
    ⟨some 27, .fld 4, [(.t 1)], [], none⟩,
    ⟨some 28, .load ⟨false, [.sl 85]⟩, [(.t 27)], [0], none⟩,
    ⟨some 29, .mv, [(.t 3)], [], none⟩,
    ⟨some 30, .idxA 85, [(.t 28), (.t 29)], [1, 2], none⟩,
    ⟨some 31, .fld 21, [(.t 30)], [3], none⟩,
    ⟨some 32, .load ⟨true, [.int .i64, .sl 78, .sl 78]⟩, [(.t 31)], [4], none⟩,
    ⟨some 33, .call [2], [(.c (D.fn 35 [])), (.t 32)], [5], none⟩])
  (.cond (.t 33) (.seq (.region false [
    ⟨some 2, .mv, [(.c (D.bool true))], [], none⟩])
  (.ret)) (.skip))))
  (.region false [
    ⟨some 25, .mv, [(.t 3)], [], none⟩,
    ⟨some 26, .bin .add, [(.t 25), (.c (D.int .i64 1))], [0], none⟩,
    ⟨some 3, .mv, [(.t 26)], [1, 0, 1], none⟩]))))))
  (.seq (.region false [
    ⟨some 2, .mv, [(.c (D.bool false))], [], none⟩])
  (.ret))))⟩

/- 7: gatepath/gatepathref44.GreatRoute -/
def c_gatepathref44_GreatRoute : DFun := ⟨12, 3, [.p], [.p ⟨false, [.bool]⟩], [.t 2],
  .seq (.region false [
    ⟨some 1, .box 1, [(.t 0)], [], none⟩,
    ⟨some 2, .mv, [(.c (D.bool false))], [], none⟩])
  (.seq (.region false [
    ⟨some 3, .fld 4, [(.t 1)], [], none⟩,
    ⟨some 4, .load ⟨false, [.sl 30]⟩, [(.t 3)], [0], none⟩,
    ⟨some 5, .len, [(.t 4)], [1], none⟩,
    ⟨some 6, .bin .gtr, [(.t 5), (.c (D.int .i64 100))], [2], none⟩,
    ⟨some 7, .mv, [(.t 6)], [3], none⟩,
    ⟨some 8, .fld 9, [(.t 1)], [4], some (7, false)⟩,
    ⟨some 9, .load ⟨true, [.int .u8, .int .u64, .int .u64, .int .i64, .sl 85]⟩, [(.t 8)], [5, 4], some (7, false)⟩,
    ⟨some 10, .call [2], [(.c (D.fn 18 [])), (.t 9)], [6, 4, 4], some (7, false)⟩,
    ⟨some 11, .pick, [(.t 7), (.c (D.bool true)), (.t 10)], [4, 7], none⟩,
    ⟨some 2, .mv, [(.t 11)], [8, 7, 0, 1, 2, 3, 4, 5, 6, 7, 8], none⟩])
  (.ret))⟩

/- 37: gatepath/policy.parts -/
def c_policy_parts : DFun := ⟨10, 3, [.p], [.p ⟨true, [.int .u8, .int .u8, .int .u8]⟩], [.c 2],
  .seq (.region false [
    ⟨some 1, .box 1, [(.t 0)], [], none⟩,
    ⟨some 2, .alloc 2 [(D.int .u8 0), (D.int .u8 0), (D.int .u8 0)], [], [], none⟩])
  (.seq (.region false [
    ⟨some 3, .fld 0, [(.t 1)], [], none⟩,
    ⟨some 4, .load ⟨false, [.int .u8]⟩, [(.t 3)], [0], none⟩,
    ⟨some 5, .fld 1, [(.t 1)], [], none⟩,
    ⟨some 6, .load ⟨false, [.int .u8]⟩, [(.t 5)], [2], none⟩,
    ⟨some 7, .fld 2, [(.t 1)], [], none⟩,
    ⟨some 8, .load ⟨false, [.int .u8]⟩, [(.t 7)], [4], none⟩,
    ⟨some 9, .build [(D.int .u8 0), (D.int .u8 0), (D.int .u8 0)] [(0, 1), (1, 1), (2, 1)], [(.t 4), (.t 6), (.t 8)], [1, 3, 5], none⟩,
    ⟨none, .store ⟨true, [.int .u8, .int .u8, .int .u8]⟩, [(.t 2), (.t 9)], [6, 0, 1, 2, 3, 4, 5, 6], none⟩])
  (.ret))⟩

/- 36: gatepath/policy.count -/
def c_policy_count : DFun := ⟨20, 4, [.p, .p], [.p ⟨false, [.int .i64]⟩], [.t 4],
  .seq (.region false [
    ⟨some 2, .box 2, [(.t 0)], [], none⟩,
    ⟨some 4, .mv, [(.c (D.int .i64 0))], [], none⟩])
  (.seq (.region false [
    ⟨some 5, .mv, [(.c (D.int .i64 0))], [], none⟩])
  (.seq (.seq (.region false [
    ⟨some 8, .load ⟨true, [.int .u8, .int .u8, .int .u8]⟩, [(.t 2)], [], none⟩,
    ⟨some 9, .call [3], [(.c (D.fn 37 [])), (.t 8)], [0], none⟩,
    ⟨some 10, .mv, [(.c (D.int .i64 0))], [], none⟩])
  (.block 0 (.loop ⟨[1, 9], [(5, .p ⟨false, [.int .i64]⟩), (10, .p ⟨false, [.int .i64]⟩)], []⟩ (.seq (.region false [
    ⟨some 11, .bin .lss, [(.t 10), (.c (D.int .i64 3))], [], none⟩])
  (.seq (.cond (.t 11) (.skip) (.exit 0))
  (.seq (.block 1 (.seq (.region false [
    ⟨some 12, .idxV ⟨false, [.int .u8]⟩ 3, [(.t 9), (.t 10)], [], none⟩,
    ⟨some 7, .mv, [(.t 12)], [0, 0], none⟩])
  (.seq (.region false [
    ⟨some 13, .mv, [(.t 7)], [], none⟩,
    ⟨some 14, .mv, [(.t 1)], [], none⟩,
    ⟨some 15, .bin .eql, [(.t 13), (.t 14)], [0, 1], none⟩])
  (.cond (.t 15) (.region false [
    ⟨some 16, .mv, [(.t 5)], [], none⟩,
    ⟨some 17, .bin .add, [(.t 16), (.c (D.int .i64 1))], [0], none⟩,
    ⟨some 5, .mv, [(.t 17)], [1, 0, 1], none⟩]) (.skip)))))
  (.region false [
    ⟨some 18, .bin .add, [(.t 10), (.c (D.int .i64 1))], [], none⟩,
    ⟨some 10, .mv, [(.t 18)], [0], none⟩])))))))
  (.seq (.region false [
    ⟨some 19, .mv, [(.t 5)], [], none⟩,
    ⟨some 4, .mv, [(.t 19)], [0, 0], none⟩])
  (.ret))))⟩

/- 19: gatepath/policy.known -/
def c_policy_known : DFun := ⟨12, 5, [.p], [.p ⟨false, [.bool]⟩], [.t 2],
  .seq (.region false [
    ⟨some 1, .box 1, [(.t 0)], [], none⟩,
    ⟨some 2, .mv, [(.c (D.bool false))], [], none⟩])
  (.seq (.region true [
    ⟨some 3, .load ⟨true, [.int .u8, .int .u8, .int .u8]⟩, [(.t 1)], [], none⟩,
    ⟨some 4, .call [2], [(.c (D.fn 36 [])), (.t 3), (.c (D.int .u8 0))], [0], none⟩,
    ⟨some 5, .load ⟨true, [.int .u8, .int .u8, .int .u8]⟩, [(.t 1)], [], none⟩,
    ⟨some 6, .call [3], [(.c (D.fn 36 [])), (.t 5), (.c (D.int .u8 1))], [2, 1], none⟩,
    ⟨some 7, .bin .add, [(.t 4), (.t 6)], [1, 3], none⟩,
    ⟨some 8, .load ⟨true, [.int .u8, .int .u8, .int .u8]⟩, [(.t 1)], [], none⟩,
    ⟨some 9, .call [4], [(.c (D.fn 36 [])), (.t 8), (.c (D.int .u8 2))], [5, 3], none⟩,
    ⟨some 10, .bin .add, [(.t 7), (.t 9)], [4, 6], none⟩,
    ⟨some 11, .bin .eql, [(.t 10), (.c (D.int .i64 3))], [7], none⟩,
    ⟨some 2, .mv, [(.t 11)], [8, 6, 0, 1, 2, 3, 4, 5, 6, 7, 8], none⟩])
  (.ret))⟩

/- 20: gatepath/policy.takes -/
def c_policy_takes : DFun := ⟨38, 5, [.p, .p], [.p ⟨false, [.bool]⟩], [.t 4],
  .seq (.region false [
    ⟨some 2, .box 2, [(.t 0)], [], none⟩,
    ⟨some 3, .box 3, [(.t 1)], [], none⟩,
    ⟨some 4, .mv, [(.c (D.bool false))], [], none⟩])
  (.seq (.seq (.region false [
    ⟨some 8, .load ⟨true, [.int .u8, .int .u8, .int .u8]⟩, [(.t 3)], [], none⟩,
    ⟨some 9, .call [4], [(.c (D.fn 37 [])), (.t 8)], [0], none⟩,
    ⟨some 10, .mv, [(.c (D.int .i64 0))], [], none⟩])
  (.block 0 (.loop ⟨[2, 9], [(10, .p ⟨false, [.int .i64]⟩)], [(2, .v [.p (.int .u8), .p (.int .u8)])]⟩ (.seq (.region false [
    ⟨some 11, .bin .lss, [(.t 10), (.c (D.int .i64 3))], [], none⟩])
  (.seq (.cond (.t 11) (.skip) (.exit 0))
  (.seq (.block 1 (.seq (.region false [
    ⟨some 12, .mv, [(.t 10)], [], none⟩,
    ⟨some 13, .idxV ⟨false, [.int .u8]⟩ 3, [(.t 9), (.t 10)], [], none⟩,
    ⟨some 5, .mv, [(.t 12)], [0, 0, 1], none⟩,
    ⟨some 6, .mv, [(.t 13)], [1, 2, 0, 1, 2], none⟩])
  (.seq (.region false [
    ⟨some 14, .mv, [(.t 5)], [], none⟩,
    ⟨some 15, .conv .u64, [(.t 14)], [0], none⟩,
    ⟨some 16, .bin .shl, [(.c (D.int .u8 1)), (.t 15)], [1], none⟩,
    ⟨some 7, .mv, [(.t 16)], [2, 0, 1, 2], none⟩])
  (.seq (.region false [
    ⟨some 17, .fld 0, [(.t 2)], [], none⟩,
    ⟨some 18, .load ⟨false, [.int .u8]⟩, [(.t 17)], [0], none⟩,
    ⟨some 19, .mv, [(.t 7)], [], none⟩,
    ⟨some 20, .bin .and, [(.t 18), (.t 19)], [1, 2], none⟩,
    ⟨some 21, .bin .neq, [(.t 20), (.c (D.int .u8 0))], [3], none⟩,
    ⟨some 22, .mv, [(.t 21)], [4], none⟩,
    ⟨some 23, .mv, [(.t 6)], [5], some (22, true)⟩,
    ⟨some 24, .bin .eql, [(.t 23), (.c (D.int .u8 2))], [6, 5], some (22, true)⟩,
    ⟨some 25, .pick, [(.t 22), (.t 24), (.c (D.bool false))], [5, 7], none⟩,
    ⟨some 26, .mv, [(.t 25)], [8, 5], none⟩,
    ⟨some 27, .fld 1, [(.t 2)], [9], some (26, false)⟩,
    ⟨some 28, .load ⟨false, [.int .u8]⟩, [(.t 27)], [10, 9], some (26, false)⟩,
    ⟨some 29, .mv, [(.t 7)], [9], some (26, false)⟩,
    ⟨some 30, .bin .and, [(.t 28), (.t 29)], [11, 12, 9], some (26, false)⟩,
    ⟨some 31, .bin .neq, [(.t 30), (.c (D.int .u8 0))], [13, 9], some (26, false)⟩,
    ⟨some 32, .mv, [(.t 31)], [14, 9, 9], some (26, false)⟩,
    ⟨some 33, .mv, [(.t 6)], [15], some (32, true)⟩,
    ⟨some 34, .bin .neq, [(.t 33), (.c (D.int .u8 1))], [16, 15], some (32, true)⟩,
    ⟨some 35, .pick, [(.t 32), (.t 34), (.c (D.bool false))], [15, 17, 9], some (26, false)⟩,
    ⟨some 36, .pick, [(.t 26), (.c (D.bool true)), (.t 35)], [9, 18], none⟩])
  (.cond (.t 36) (.seq (.region false [
    ⟨some 4, .mv, [(.c (D.bool false))], [], none⟩])
  (.ret)) (.skip))))))
  (.region false [
    ⟨some 37, .bin .add, [(.t 10), (.c (D.int .i64 1))], [], none⟩,
    ⟨some 10, .mv, [(.t 37)], [0], none⟩])))))))
  (.seq (.region false [
    ⟨some 4, .mv, [(.c (D.bool true))], [], none⟩])
  (.ret)))⟩

/- 8: gatepath/policy.Accepts -/
def c_policy_Accepts : DFun := ⟨22, 6, [.p, .p], [.p ⟨false, [.bool]⟩, .p ⟨false, [.int .i64]⟩], [.t 4, .t 5],
  .seq (.region false [
    ⟨some 2, .box 2, [(.t 0)], [], none⟩,
    ⟨some 3, .box 3, [(.t 1)], [], none⟩,
    ⟨some 4, .mv, [(.c (D.bool false))], [], none⟩,
    ⟨some 5, .mv, [(.c (D.int .i64 0))], [2], none⟩])
  (.seq (.seq (.region false [
    ⟨some 6, .fld 0, [(.t 2)], [], none⟩,
    ⟨some 7, .load ⟨false, [.int .u8]⟩, [(.t 6)], [0], none⟩,
    ⟨some 8, .bin .gtr, [(.t 7), (.c (D.int .u8 7))], [1], none⟩,
    ⟨some 9, .mv, [(.t 8)], [2], none⟩,
    ⟨some 10, .fld 1, [(.t 2)], [3], some (9, false)⟩,
    ⟨some 11, .load ⟨false, [.int .u8]⟩, [(.t 10)], [4, 3], some (9, false)⟩,
    ⟨some 12, .bin .gtr, [(.t 11), (.c (D.int .u8 7))], [5, 3], some (9, false)⟩,
    ⟨some 13, .pick, [(.t 9), (.c (D.bool true)), (.t 12)], [3, 6], none⟩,
    ⟨some 14, .mv, [(.t 13)], [7, 3], none⟩,
    ⟨some 15, .load ⟨true, [.int .u8, .int .u8, .int .u8]⟩, [(.t 3)], [8], some (14, false)⟩,
    ⟨some 16, .call [4], [(.c (D.fn 19 [])), (.t 15)], [9, 8, 8], some (14, false)⟩,
    ⟨some 17, .not, [(.t 16)], [10, 8], some (14, false)⟩,
    ⟨some 18, .pick, [(.t 14), (.c (D.bool true)), (.t 17)], [8, 11], none⟩])
  (.cond (.t 18) (.seq (.region false [
    ⟨some 4, .mv, [(.c (D.bool false))], [], none⟩,
    ⟨some 5, .mv, [(.c (D.int .i64 8))], [0, 0], none⟩])
  (.ret)) (.skip)))
  (.seq (.region false [
    ⟨some 19, .load ⟨true, [.int .u8, .int .u8]⟩, [(.t 2)], [], none⟩,
    ⟨some 20, .load ⟨true, [.int .u8, .int .u8, .int .u8]⟩, [(.t 3)], [], none⟩,
    ⟨some 21, .call [5], [(.c (D.fn 20 [])), (.t 19), (.t 20)], [0, 1], none⟩,
    ⟨some 4, .mv, [(.t 21)], [2, 2, 0, 1, 2], none⟩,
    ⟨some 5, .mv, [(.c (D.int .i64 0))], [3, 0, 1, 2, 3], none⟩])
  (.ret)))⟩

/- 21: gatepath/gatepathref44.verdict -/
def c_gatepathref44_verdict : DFun := ⟨16, 2, [.p], [.p ⟨false, [.bool]⟩], [.t 2],
  .seq (.region false [
    ⟨some 1, .box 1, [(.t 0)], [], none⟩,
    ⟨some 2, .mv, [(.c (D.bool false))], [], none⟩])
  (.seq (.region false [
    ⟨some 3, .fld 0, [(.t 1)], [], none⟩,
    ⟨some 4, .load ⟨false, [.int .u8]⟩, [(.t 3)], [0], none⟩,
    ⟨some 5, .bin .leq, [(.t 4), (.c (D.int .u8 2))], [1], none⟩,
    ⟨some 6, .mv, [(.t 5)], [2], none⟩,
    ⟨some 7, .fld 1, [(.t 1)], [3], some (6, true)⟩,
    ⟨some 8, .load ⟨false, [.int .u8]⟩, [(.t 7)], [4, 3], some (6, true)⟩,
    ⟨some 9, .bin .leq, [(.t 8), (.c (D.int .u8 2))], [5, 3], some (6, true)⟩,
    ⟨some 10, .pick, [(.t 6), (.t 9), (.c (D.bool false))], [3, 6], none⟩,
    ⟨some 11, .mv, [(.t 10)], [7, 3], none⟩,
    ⟨some 12, .fld 2, [(.t 1)], [8], some (11, true)⟩,
    ⟨some 13, .load ⟨false, [.int .u8]⟩, [(.t 12)], [9, 8], some (11, true)⟩,
    ⟨some 14, .bin .leq, [(.t 13), (.c (D.int .u8 2))], [10, 8], some (11, true)⟩,
    ⟨some 15, .pick, [(.t 11), (.t 14), (.c (D.bool false))], [8, 11], none⟩,
    ⟨some 2, .mv, [(.t 15)], [12, 8, 0, 1, 2, 3, 4, 5, 6, 7, 8, 9, 10, 11, 12], none⟩])
  (.ret))⟩

/- 22: gatepath/gatepathref44.takes -/
def c_gatepathref44_takes : DFun := ⟨48, 6, [.p, .p], [.p ⟨false, [.bool]⟩], [.t 4],
  .seq (.region false [
    ⟨some 2, .box 2, [(.t 0)], [], none⟩,
    ⟨some 3, .box 3, [(.t 1)], [], none⟩,
    ⟨some 4, .mv, [(.c (D.bool false))], [], none⟩])
  (.seq (.region false [
    ⟨some 8, .fld 0, [(.t 3)], [], none⟩,
    ⟨some 9, .load ⟨false, [.int .u8]⟩, [(.t 8)], [0], none⟩,
    ⟨some 10, .fld 1, [(.t 3)], [], none⟩,
    ⟨some 11, .load ⟨false, [.int .u8]⟩, [(.t 10)], [2], none⟩,
    ⟨some 12, .fld 2, [(.t 3)], [], none⟩,
    ⟨some 13, .load ⟨false, [.int .u8]⟩, [(.t 12)], [4], none⟩,
    ⟨some 14, .build [(D.int .u8 0), (D.int .u8 0), (D.int .u8 0)] [(0, 1), (1, 1), (2, 1)], [(.t 9), (.t 11), (.t 13)], [1, 3, 5], none⟩,
    ⟨some 15, .build [(D.int .u8 0), (D.int .u8 0), (D.int .u8 0)] [(0, 1), (1, 1), (2, 1)], [(.c (D.int .u8 1)), (.c (D.int .u8 2)), (.c (D.int .u8 4))], [], none⟩,
    ⟨some 5, .alloc 4 [(D.int .u8 0), (D.int .u8 0), (D.int .u8 0)], [], [], none⟩,
    ⟨some 6, .alloc 5 [(D.int .u8 0), (D.int .u8 0), (D.int .u8 0)], [], [], none⟩,
    ⟨none, .store ⟨true, [.int .u8, .int .u8, .int .u8]⟩, [(.t 5), (.t 14)], [8, 6, 0, 1, 2, 3, 4, 5, 6, 8, 9], none⟩,
    ⟨none, .store ⟨true, [.int .u8, .int .u8, .int .u8]⟩, [(.t 6), (.t 15)], [9, 7, 10, 0, 1, 2, 3, 4, 5, 6, 7, 8, 9, 10], none⟩])
  (.seq (.seq (.region false [
    ⟨some 7, .mv, [(.c (D.int .i64 0))], [], none⟩])
  (.block 0 (.loop ⟨[2, 5, 6], [(7, .p ⟨false, [.int .i64]⟩)], [(2, .v [.p (.int .u8), .p (.int .u8)]), (4, .v [.p (.int .u8), .p (.int .u8), .p (.int .u8)]), (5, .v [.p (.int .u8), .p (.int .u8), .p (.int .u8)])]⟩ (.seq (.seq (.region false [
    ⟨some 16, .mv, [(.t 7)], [], none⟩,
    ⟨some 17, .bin .lss, [(.t 16), (.c (D.int .i64 3))], [0], none⟩])
  (.cond (.t 17) (.skip) (.exit 0)))
  (.seq (.block 1 (.seq (.region true [
    ⟨some 20, .fld 0, [(.t 2)], [], none⟩,
    ⟨some 21, .load ⟨false, [.int .u8]⟩, [(.t 20)], [0], none⟩,
    ⟨some 22, .mv, [(.t 7)], [], none⟩,
    ⟨some 23, .idxP 3, [(.t 6), (.t 22)], [2], none⟩,
    ⟨some 24, .load ⟨false, [.int .u8]⟩, [(.t 23)], [3], none⟩,
    ⟨some 25, .bin .and, [(.t 21), (.t 24)], [1, 4], none⟩,
    ⟨some 26, .bin .gtr, [(.t 25), (.c (D.int .u8 0))], [5], none⟩,
    ⟨some 27, .mv, [(.t 26)], [6], none⟩,
    ⟨some 28, .mv, [(.t 7)], [7], some (27, true)⟩,
    ⟨some 29, .idxP 3, [(.t 5), (.t 28)], [8, 7], some (27, true)⟩,
    ⟨some 30, .load ⟨false, [.int .u8]⟩, [(.t 29)], [9, 7], some (27, true)⟩,
    ⟨some 31, .bin .eql, [(.t 30), (.c (D.int .u8 2))], [10, 7], some (27, true)⟩,
    ⟨some 32, .pick, [(.t 27), (.t 31), (.c (D.bool false))], [7, 11], none⟩,
    ⟨some 33, .mv, [(.t 32)], [12, 7], none⟩,
    ⟨some 34, .fld 1, [(.t 2)], [13], some (33, false)⟩,
    ⟨some 35, .load ⟨false, [.int .u8]⟩, [(.t 34)], [14, 13], some (33, false)⟩,
    ⟨some 36, .mv, [(.t 7)], [13], some (33, false)⟩,
    ⟨some 37, .idxP 3, [(.t 6), (.t 36)], [16, 13], some (33, false)⟩,
    ⟨some 38, .load ⟨false, [.int .u8]⟩, [(.t 37)], [17, 13], some (33, false)⟩,
    ⟨some 39, .bin .and, [(.t 35), (.t 38)], [15, 18, 13], some (33, false)⟩,
    ⟨some 40, .bin .gtr, [(.t 39), (.c (D.int .u8 0))], [19, 13], some (33, false)⟩,
    ⟨some 41, .mv, [(.t 40)], [20, 13, 13], some (33, false)⟩,
    ⟨some 42, .mv, [(.t 7)], [21], some (41, true)⟩,
    ⟨some 43, .idxP 3, [(.t 5), (.t 42)], [22, 21], some (41, true)⟩,
    ⟨some 44, .load ⟨false, [.int .u8]⟩, [(.t 43)], [23, 21], some (41, true)⟩,
    ⟨some 45, .bin .neq, [(.t 44), (.c (D.int .u8 1))], [24, 21], some (41, true)⟩,
    ⟨some 46, .pick, [(.t 41), (.t 45), (.c (D.bool false))], [21, 25, 13], some (33, false)⟩,
    ⟨some 47, .pick, [(.t 33), (.c (D.bool true)), (.t 46)], [13, 26], none⟩])
  (.cond (.t 47) (.seq (.region false [
    ⟨some 4, .mv, [(.c (D.bool false))], [], none⟩])
  (.ret)) (.skip))))
  (.region false [
    ⟨some 18, .mv, [(.t 7)], [], none⟩,
    ⟨some 19, .bin .add, [(.t 18), (.c (D.int .i64 1))], [0], none⟩,
    ⟨some 7, .mv, [(.t 19)], [1, 0, 1], none⟩]))))))
  (.seq (.region false [
    ⟨some 4, .mv, [(.c (D.bool true))], [], none⟩])
  (.ret))))⟩

/- 9: gatepath/gatepathref44.Accepts -/
def c_gatepathref44_Accepts : DFun := ⟨22, 6, [.p, .p], [.p ⟨false, [.bool]⟩, .p ⟨false, [.int .i64]⟩], [.t 4, .t 5],
  .seq (.region false [
    ⟨some 2, .box 2, [(.t 0)], [], none⟩,
    ⟨some 3, .box 3, [(.t 1)], [], none⟩,
    ⟨some 4, .mv, [(.c (D.bool false))], [], none⟩,
    ⟨some 5, .mv, [(.c (D.int .i64 0))], [2], none⟩])
  (.seq (.seq (.region false [
    ⟨some 6, .fld 0, [(.t 2)], [], none⟩,
    ⟨some 7, .load ⟨false, [.int .u8]⟩, [(.t 6)], [0], none⟩,
    ⟨some 8, .bin .gtr, [(.t 7), (.c (D.int .u8 7))], [1], none⟩,
    ⟨some 9, .mv, [(.t 8)], [2], none⟩,
    ⟨some 10, .fld 1, [(.t 2)], [3], some (9, false)⟩,
    ⟨some 11, .load ⟨false, [.int .u8]⟩, [(.t 10)], [4, 3], some (9, false)⟩,
    ⟨some 12, .bin .gtr, [(.t 11), (.c (D.int .u8 7))], [5, 3], some (9, false)⟩,
    ⟨some 13, .pick, [(.t 9), (.c (D.bool true)), (.t 12)], [3, 6], none⟩,
    ⟨some 14, .mv, [(.t 13)], [7, 3], none⟩,
    ⟨some 15, .load ⟨true, [.int .u8, .int .u8, .int .u8]⟩, [(.t 3)], [8], some (14, false)⟩,
    ⟨some 16, .call [4], [(.c (D.fn 21 [])), (.t 15)], [9, 8, 8], some (14, false)⟩,
    ⟨some 17, .not, [(.t 16)], [10, 8], some (14, false)⟩,
    ⟨some 18, .pick, [(.t 14), (.c (D.bool true)), (.t 17)], [8, 11], none⟩])
  (.cond (.t 18) (.seq (.region false [
    ⟨some 4, .mv, [(.c (D.bool false))], [], none⟩,
    ⟨some 5, .mv, [(.c (D.int .i64 8))], [0, 0], none⟩])
  (.ret)) (.skip)))
  (.seq (.region false [
    ⟨some 19, .load ⟨true, [.int .u8, .int .u8]⟩, [(.t 2)], [], none⟩,
    ⟨some 20, .load ⟨true, [.int .u8, .int .u8, .int .u8]⟩, [(.t 3)], [], none⟩,
    ⟨some 21, .call [5], [(.c (D.fn 22 [])), (.t 19), (.t 20)], [0, 1], none⟩,
    ⟨some 4, .mv, [(.t 21)], [2, 2, 0, 1, 2], none⟩,
    ⟨some 5, .mv, [(.c (D.int .i64 0))], [3, 0, 1, 2, 3], none⟩])
  (.ret)))⟩

/- 46: gatepath/policy.ranks -/
def c_policy_ranks : DFun := ⟨2, 1, [], [.o 5], [.t 0],
  .seq (.region false [
    ⟨some 0, .mv, [(.c (D.zs 5 true))], [], none⟩])
  (.seq (.region false [
    ⟨some 1, .buildSl 0 5, [(.c (D.int .u8 1)), (.c (D.int .u8 5)), (.c (D.int .u8 3)), (.c (D.int .u8 4)), (.c (D.int .u8 2))], [], none⟩,
    ⟨some 0, .mv, [(.t 1)], [0, 0], none⟩])
  (.ret))⟩

/- 67: gatepath/number.width -/
def c_number_width : DFun := ⟨8, 1, [.p], [.p ⟨false, [.int .i64]⟩], [.t 2],
  .seq (.region false [
    ⟨some 2, .mv, [(.c (D.int .i64 0))], [], none⟩])
  (.seq (.seq (.region false [
    ⟨some 3, .mv, [(.t 0)], [], none⟩])
  (.block 0 (.seq (.region false [
    ⟨some 5, .bin .eql, [(.t 3), (.c (D.int .u8 4))], [], none⟩,
    ⟨some 4, .mv, [(.t 5)], [0], none⟩])
  (.cond (.t 4) (.seq (.region false [
    ⟨some 2, .mv, [(.c (D.int .i64 32))], [], none⟩])
  (.ret)) (.seq (.region false [
    ⟨some 7, .bin .eql, [(.t 3), (.c (D.int .u8 6))], [], none⟩,
    ⟨some 6, .mv, [(.t 7)], [0], none⟩])
  (.cond (.t 6) (.seq (.region false [
    ⟨some 2, .mv, [(.c (D.int .i64 128))], [], none⟩])
  (.ret)) (.skip)))))))
  (.seq (.region false [
    ⟨some 2, .mv, [(.c (D.int .i64 0))], [], none⟩])
  (.ret)))⟩

/- 68: gatepath/number.CheckAddr -/
def c_number_CheckAddr : DFun := ⟨21, 3, [.p, .p], [.p ⟨false, [.bool]⟩], [.t 4],
  .seq (.region false [
    ⟨some 3, .box 2, [(.t 1)], [], none⟩,
    ⟨some 4, .mv, [(.c (D.bool false))], [], none⟩])
  (.seq (.region false [
    ⟨some 5, .mv, [(.t 0)], [], none⟩,
    ⟨some 6, .bin .eql, [(.t 5), (.c (D.int .u8 6))], [0], none⟩,
    ⟨some 7, .mv, [(.t 6)], [1], none⟩,
    ⟨some 8, .mv, [(.t 0)], [2], some (7, false)⟩,
    ⟨some 9, .bin .eql, [(.t 8), (.c (D.int .u8 4))], [3, 2], some (7, false)⟩,
    ⟨some 10, .mv, [(.t 9)], [4, 2, 2], some (7, false)⟩,
    ⟨some 11, .fld 0, [(.t 3)], [5], some (10, true)⟩,
    ⟨some 12, .load ⟨false, [.int .u64]⟩, [(.t 11)], [6, 5], some (10, true)⟩,
    ⟨some 13, .bin .eql, [(.t 12), (.c (D.int .u64 0))], [7, 5], some (10, true)⟩,
    ⟨some 14, .pick, [(.t 10), (.t 13), (.c (D.bool false))], [5, 8, 2], some (7, false)⟩,
    ⟨some 15, .mv, [(.t 14)], [9, 5, 2], some (7, false)⟩,
    ⟨some 16, .fld 1, [(.t 3)], [10], some (15, true)⟩,
    ⟨some 17, .load ⟨false, [.int .u64]⟩, [(.t 16)], [11, 10], some (15, true)⟩,
    ⟨some 18, .bin .lss, [(.t 17), (.c (D.int .u64 4294967296))], [12, 10], some (15, true)⟩,
    ⟨some 19, .pick, [(.t 15), (.t 18), (.c (D.bool false))], [10, 13, 2], some (7, false)⟩,
    ⟨some 20, .pick, [(.t 7), (.c (D.bool true)), (.t 19)], [2, 14], none⟩,
    ⟨some 4, .mv, [(.t 20)], [15, 10, 0, 1, 2, 3, 4, 5, 6, 7, 8, 9, 10, 11, 12, 13, 14, 15], none⟩])
  (.ret))⟩

/- 69: gatepath/number.and -/
def c_number_and : DFun := ⟨16, 5, [.p, .p], [.p ⟨true, [.int .u64, .int .u64]⟩], [.c 4],
  .seq (.region false [
    ⟨some 2, .box 2, [(.t 0)], [], none⟩,
    ⟨some 3, .box 3, [(.t 1)], [], none⟩,
    ⟨some 4, .alloc 4 [(D.int .u64 0), (D.int .u64 0)], [], [], none⟩])
  (.seq (.region false [
    ⟨some 5, .fld 0, [(.t 2)], [], none⟩,
    ⟨some 6, .load ⟨false, [.int .u64]⟩, [(.t 5)], [0], none⟩,
    ⟨some 7, .fld 0, [(.t 3)], [], none⟩,
    ⟨some 8, .load ⟨false, [.int .u64]⟩, [(.t 7)], [2], none⟩,
    ⟨some 9, .bin .and, [(.t 6), (.t 8)], [1, 3], none⟩,
    ⟨some 10, .fld 1, [(.t 2)], [], none⟩,
    ⟨some 11, .load ⟨false, [.int .u64]⟩, [(.t 10)], [5], none⟩,
    ⟨some 12, .fld 1, [(.t 3)], [], none⟩,
    ⟨some 13, .load ⟨false, [.int .u64]⟩, [(.t 12)], [7], none⟩,
    ⟨some 14, .bin .and, [(.t 11), (.t 13)], [6, 8], none⟩,
    ⟨some 15, .build [(D.int .u64 0), (D.int .u64 0)] [(0, 1), (1, 1)], [(.t 9), (.t 14)], [4, 9], none⟩,
    ⟨none, .store ⟨true, [.int .u64, .int .u64]⟩, [(.t 4), (.t 15)], [10, 0, 1, 2, 3, 4, 5, 6, 7, 8, 9, 10], none⟩])
  (.ret))⟩

/- 70: gatepath/number.mask -/
def c_number_mask : DFun := ⟨32, 5, [.p, .p], [.p ⟨true, [.int .u64, .int .u64]⟩], [.c 4],
  .seq (.region false [
    ⟨some 4, .alloc 2 [(D.int .u64 0), (D.int .u64 0)], [], [], none⟩])
  (.seq (.region false [
    ⟨some 7, .mv, [(.t 0)], [], none⟩,
    ⟨some 8, .call [4], [(.c (D.fn 67 [])), (.t 7)], [0], none⟩,
    ⟨some 9, .mv, [(.t 1)], [], none⟩,
    ⟨some 10, .bin .sub, [(.t 8), (.t 9)], [1, 2], none⟩,
    ⟨some 5, .mv, [(.t 10)], [3, 1, 0, 1, 2, 3], none⟩])
  (.seq (.region false [
    ⟨some 11, .build [(D.int .u64 0), (D.int .u64 0)] [(0, 1), (1, 1)], [(.c (D.int .u64 18446744073709551615)), (.c (D.int .u64 18446744073709551615))], [], none⟩,
    ⟨some 6, .alloc 3 [(D.int .u64 0), (D.int .u64 0)], [], [], none⟩,
    ⟨none, .store ⟨true, [.int .u64, .int .u64]⟩, [(.t 6), (.t 11)], [1, 0, 0, 1], none⟩])
  (.seq (.seq (.region false [
    ⟨some 12, .mv, [(.t 5)], [], none⟩,
    ⟨some 13, .bin .geq, [(.t 12), (.c (D.int .i64 64))], [0], none⟩])
  (.cond (.t 13) (.region false [
    ⟨some 14, .fld 0, [(.t 6)], [], none⟩,
    ⟨some 15, .load ⟨false, [.int .u64]⟩, [(.t 14)], [0], none⟩,
    ⟨some 16, .mv, [(.t 5)], [], none⟩,
    ⟨some 17, .bin .sub, [(.t 16), (.c (D.int .i64 64))], [2], none⟩,
    ⟨some 18, .bin .shl, [(.t 15), (.t 17)], [1, 3], none⟩,
    ⟨some 19, .build [(D.int .u64 0), (D.int .u64 0)] [(0, 1)], [(.t 18)], [4], none⟩,
    ⟨none, .store ⟨true, [.int .u64, .int .u64]⟩, [(.t 6), (.t 19)], [5, 0, 1, 2, 3, 4, 5], none⟩]) (.region false [
    ⟨some 20, .fld 1, [(.t 6)], [], none⟩,
    ⟨some 21, .load ⟨false, [.int .u64]⟩, [(.t 20)], [0], none⟩,
    ⟨some 22, .mv, [(.t 5)], [], none⟩,
    ⟨some 23, .bin .shl, [(.t 21), (.t 22)], [1, 2], none⟩,
    ⟨some 24, .fld 1, [(.t 6)], [0, 1, 2, 3], none⟩,
    ⟨none, .store ⟨false, [.int .u64]⟩, [(.t 24), (.t 23)], [4, 3, 0, 1, 2, 3], none⟩])))
  (.seq (.seq (.region false [
    ⟨some 25, .mv, [(.t 0)], [], none⟩,
    ⟨some 26, .bin .eql, [(.t 25), (.c (D.int .u8 4))], [0], none⟩])
  (.cond (.t 26) (.region false [
    ⟨some 27, .fld 1, [(.t 6)], [], none⟩,
    ⟨some 28, .load ⟨false, [.int .u64]⟩, [(.t 27)], [0], none⟩,
    ⟨some 29, .bin .and, [(.t 28), (.c (D.int .u64 4294967295))], [1], none⟩,
    ⟨some 30, .build [(D.int .u64 0), (D.int .u64 0)] [(1, 1)], [(.t 29)], [2], none⟩,
    ⟨none, .store ⟨true, [.int .u64, .int .u64]⟩, [(.t 6), (.t 30)], [3, 0, 1, 2, 3], none⟩]) (.skip)))
  (.seq (.region false [
    ⟨some 31, .load ⟨true, [.int .u64, .int .u64]⟩, [(.t 6)], [], none⟩,
    ⟨none, .store ⟨true, [.int .u64, .int .u64]⟩, [(.t 4), (.t 31)], [0, 0], none⟩])
  (.ret))))))⟩

/- 58: gatepath/number.Check -/
def c_number_Check : DFun := ⟨39, 7, [.p], [.p ⟨false, [.int .i64]⟩], [.t 2],
  .seq (.region false [
    ⟨some 1, .box 1, [(.t 0)], [], none⟩,
    ⟨some 2, .mv, [(.c (D.int .i64 0))], [], none⟩])
  (.seq (.seq (.region false [
    ⟨some 3, .fld 0, [(.t 1)], [], none⟩,
    ⟨some 4, .load ⟨false, [.int .u8]⟩, [(.t 3)], [0], none⟩,
    ⟨some 5, .call [2], [(.c (D.fn 67 [])), (.t 4)], [1], none⟩,
    ⟨some 6, .bin .eql, [(.t 5), (.c (D.int .i64 0))], [2], none⟩])
  (.cond (.t 6) (.seq (.region false [
    ⟨some 2, .mv, [(.c (D.int .i64 2))], [], none⟩])
  (.ret)) (.skip)))
  (.seq (.seq (.region true [
    ⟨some 7, .fld 0, [(.t 1)], [], none⟩,
    ⟨some 8, .load ⟨false, [.int .u8]⟩, [(.t 7)], [0], none⟩,
    ⟨some 9, .fld 1, [(.t 1)], [], none⟩,
    ⟨some 10, .load ⟨true, [.int .u64, .int .u64]⟩, [(.t 9)], [2], none⟩,
    ⟨some 11, .call [3], [(.c (D.fn 68 [])), (.t 8), (.t 10)], [1, 3], none⟩,
    ⟨some 12, .not, [(.t 11)], [4], none⟩,
    ⟨some 13, .mv, [(.t 12)], [5, 4], none⟩,
    ⟨some 14, .fld 3, [(.t 1)], [6], some (13, false)⟩,
    ⟨some 15, .load ⟨false, [.int .i64]⟩, [(.t 14)], [7, 6], some (13, false)⟩,
    ⟨some 16, .bin .lss, [(.t 15), (.c (D.int .i64 0))], [8, 6], some (13, false)⟩,
    ⟨some 17, .pick, [(.t 13), (.c (D.bool true)), (.t 16)], [6, 9], none⟩,
    ⟨some 18, .mv, [(.t 17)], [10, 6], none⟩,
    ⟨some 19, .fld 3, [(.t 1)], [11], some (18, false)⟩,
    ⟨some 20, .load ⟨false, [.int .i64]⟩, [(.t 19)], [12, 11], some (18, false)⟩,
    ⟨some 21, .fld 0, [(.t 1)], [11], some (18, false)⟩,
    ⟨some 22, .load ⟨false, [.int .u8]⟩, [(.t 21)], [14, 11], some (18, false)⟩,
    ⟨some 23, .call [4], [(.c (D.fn 67 [])), (.t 22)], [15, 11, 11], some (18, false)⟩,
    ⟨some 24, .bin .gtr, [(.t 20), (.t 23)], [13, 16, 11], some (18, false)⟩,
    ⟨some 25, .pick, [(.t 18), (.c (D.bool true)), (.t 24)], [11, 17], none⟩,
    ⟨some 26, .mv, [(.t 25)], [18, 16], none⟩,
    ⟨some 27, .fld 1, [(.t 1)], [19], some (26, false)⟩,
    ⟨some 28, .load ⟨true, [.int .u64, .int .u64]⟩, [(.t 27)], [20, 19], some (26, false)⟩,
    ⟨some 29, .fld 0, [(.t 1)], [19], some (26, false)⟩,
    ⟨some 30, .load ⟨false, [.int .u8]⟩, [(.t 29)], [22, 19], some (26, false)⟩,
    ⟨some 31, .fld 3, [(.t 1)], [19], some (26, false)⟩,
    ⟨some 32, .load ⟨false, [.int .i64]⟩, [(.t 31)], [24, 19], some (26, false)⟩,
    ⟨some 33, .call [5], [(.c (D.fn 70 [])), (.t 30), (.t 32)], [23, 25, 19, 19], some (26, false)⟩,
    ⟨some 34, .call [6], [(.c (D.fn 69 [])), (.t 28), (.t 33)], [21, 26, 26, 19], some (26, false)⟩,
    ⟨some 35, .fld 1, [(.t 1)], [19], some (26, false)⟩,
    ⟨some 36, .load ⟨true, [.int .u64, .int .u64]⟩, [(.t 35)], [28, 19], some (26, false)⟩,
    ⟨some 37, .eqv true ⟨true, [.int .u64, .int .u64]⟩, [(.t 34), (.t 36)], [27, 29, 19], some (26, false)⟩,
    ⟨some 38, .pick, [(.t 26), (.c (D.bool true)), (.t 37)], [19, 30], none⟩])
  (.cond (.t 38) (.seq (.region false [
    ⟨some 2, .mv, [(.c (D.int .i64 8))], [], none⟩])
  (.ret)) (.skip)))
  (.seq (.region false [
    ⟨some 2, .mv, [(.c (D.int .i64 0))], [], none⟩])
  (.ret))))⟩

/- 45: slices.Index[[]uint8,uint8] -/
def c_slices_Index : DFun := ⟨19, 2, [.p, .p], [.p ⟨false, [.int .i64]⟩], [.t 4],
  .seq (.region false [
    ⟨some 4, .mv, [(.c (D.int .i64 0))], [], none⟩])
  (.seq (.seq (.region false [
    ⟨some 6, .mv, [(.t 0)], [], none⟩,
    ⟨some 7, .len, [(.t 6)], [0], none⟩,
    ⟨some 8, .mv, [(.c (D.int .i64 0))], [], none⟩])
  (.block 0 (.loop ⟨[0, 1, 7], [(8, .p ⟨false, [.int .i64]⟩)], []⟩ (.seq (.region false [
    ⟨some 9, .bin .lss, [(.t 8), (.t 7)], [], none⟩])
  (.seq (.cond (.t 9) (.skip) (.exit 0))
  (.seq (.block 1 (.seq (.region false [
    ⟨some 10, .mv, [(.t 8)], [], none⟩,
    ⟨some 5, .mv, [(.t 10)], [0, 0], none⟩])
  (.seq (.region false [
    ⟨some 11, .mv, [(.t 1)], [], none⟩,
    ⟨some 12, .mv, [(.t 0)], [], none⟩,
    ⟨some 13, .mv, [(.t 5)], [], none⟩,
    ⟨some 14, .idxA 5, [(.t 12), (.t 13)], [1, 2], none⟩,
    ⟨some 15, .load ⟨false, [.int .u8]⟩, [(.t 14)], [3], none⟩,
    ⟨some 16, .bin .eql, [(.t 11), (.t 15)], [0, 4], none⟩])
  (.cond (.t 16) (.seq (.region false [
    ⟨some 17, .mv, [(.t 5)], [], none⟩,
    ⟨some 4, .mv, [(.t 17)], [0, 0], none⟩])
  (.ret)) (.skip)))))
  (.region false [
    ⟨some 18, .bin .add, [(.t 8), (.c (D.int .i64 1))], [], none⟩,
    ⟨some 8, .mv, [(.t 18)], [0], none⟩])))))))
  (.seq (.region false [
    ⟨some 4, .mv, [(.c (D.int .i64 (-1)))], [], none⟩])
  (.ret)))⟩

/- 59: slices.Contains[[]uint8,uint8] -/
def c_slices_Contains : DFun := ⟨9, 3, [.p, .p], [.p ⟨false, [.bool]⟩], [.t 4],
  .seq (.region false [
    ⟨some 4, .mv, [(.c (D.bool false))], [], none⟩])
  (.seq (.region false [
    ⟨some 5, .mv, [(.t 0)], [], none⟩,
    ⟨some 6, .mv, [(.t 1)], [], none⟩,
    ⟨some 7, .call [2], [(.c (D.fn 45 [])), (.t 5), (.t 6)], [0, 1], none⟩,
    ⟨some 8, .bin .geq, [(.t 7), (.c (D.int .i64 0))], [2], none⟩,
    ⟨some 4, .mv, [(.t 8)], [3, 2, 0, 1, 2, 3], none⟩])
  (.ret))⟩

/- 38: gatepath/policy.route -/
def c_policy_route : DFun := ⟨22, 5, [.p], [.p ⟨false, [.int .i64]⟩], [.t 2],
  .seq (.region false [
    ⟨some 1, .box 1, [(.t 0)], [], none⟩,
    ⟨some 2, .mv, [(.c (D.int .i64 0))], [], none⟩])
  (.seq (.region false [
    ⟨some 4, .fld 0, [(.t 1)], [], none⟩,
    ⟨some 5, .load ⟨true, [.int .u8, .int .u64, .int .u64, .int .i64]⟩, [(.t 4)], [0], none⟩,
    ⟨some 6, .call [2], [(.c (D.fn 58 [])), (.t 5)], [1], none⟩,
    ⟨some 3, .mv, [(.t 6)], [2, 2, 0, 1, 2], none⟩])
  (.seq (.block 0 (.seq (.region false [
    ⟨some 8, .mv, [(.t 3)], [], none⟩,
    ⟨some 9, .bin .neq, [(.t 8), (.c (D.int .i64 0))], [0], none⟩,
    ⟨some 7, .mv, [(.t 9)], [1], none⟩])
  (.cond (.t 7) (.seq (.region false [
    ⟨some 10, .mv, [(.t 3)], [], none⟩,
    ⟨some 2, .mv, [(.t 10)], [0, 0], none⟩])
  (.ret)) (.seq (.region false [
    ⟨some 12, .fld 4, [(.t 1)], [], none⟩,
    ⟨some 13, .load ⟨false, [.sl 30]⟩, [(.t 12)], [0], none⟩,
    ⟨some 14, .len, [(.t 13)], [1], none⟩,
    ⟨some 15, .bin .gtr, [(.t 14), (.c (D.int .i64 30))], [2], none⟩,
    ⟨some 11, .mv, [(.t 15)], [3], none⟩])
  (.cond (.t 11) (.seq (.region false [
    ⟨some 2, .mv, [(.c (D.int .i64 4))], [], none⟩])
  (.ret)) (.seq (.region true [
    ⟨some 17, .call [3], [(.c (D.fn 46 []))], [], none⟩,
    ⟨some 18, .fld 5, [(.t 1)], [], none⟩,
    ⟨some 19, .load ⟨false, [.int .u8]⟩, [(.t 18)], [1], none⟩,
    ⟨some 20, .call [4], [(.c (D.fn 59 [])), (.t 17), (.t 19)], [0, 2, 0], none⟩,
    ⟨some 21, .not, [(.t 20)], [3], none⟩,
    ⟨some 16, .mv, [(.t 21)], [4, 3], none⟩])
  (.cond (.t 16) (.seq (.region false [
    ⟨some 2, .mv, [(.c (D.int .i64 2))], [], none⟩])
  (.ret)) (.skip))))))))
  (.seq (.region false [
    ⟨some 2, .mv, [(.c (D.int .i64 0))], [], none⟩])
  (.ret))))⟩

/- 23: gatepath/policy.right -/
def c_policy_right : DFun := ⟨12, 4, [.p], [.p ⟨false, [.bool]⟩], [.t 2],
  .seq (.region false [
    ⟨some 1, .box 1, [(.t 0)], [], none⟩,
    ⟨some 2, .mv, [(.c (D.bool false))], [], none⟩])
  (.seq (.region false [
    ⟨some 3, .fld 0, [(.t 1)], [], none⟩,
    ⟨some 4, .load ⟨true, [.int .u8, .int .u64, .int .u64, .int .i64, .sl 30, .int .u8, .int .u32, .int .u32, .int .u32, .int .u8, .int .u64, .int .u64, .int .i64, .sl 85]⟩, [(.t 3)], [0], none⟩,
    ⟨some 5, .call [2], [(.c (D.fn 38 [])), (.t 4)], [1], none⟩,
    ⟨some 6, .bin .eql, [(.t 5), (.c (D.int .i64 0))], [2], none⟩,
    ⟨some 7, .mv, [(.t 6)], [3, 2], none⟩,
    ⟨some 8, .fld 14, [(.t 1)], [4], some (7, true)⟩,
    ⟨some 9, .load ⟨true, [.int .u8, .int .u8, .int .u8]⟩, [(.t 8)], [5, 4], some (7, true)⟩,
    ⟨some 10, .call [3], [(.c (D.fn 19 [])), (.t 9)], [6, 4, 4], some (7, true)⟩,
    ⟨some 11, .pick, [(.t 7), (.t 10), (.c (D.bool false))], [4, 7], none⟩,
    ⟨some 2, .mv, [(.t 11)], [8, 7, 0, 1, 2, 3, 4, 5, 6, 7, 8], none⟩])
  (.ret))⟩

/- 71: cmp.isNaN[int] -/
def c_cmp_isNaN_71 : DFun := ⟨6, 1, [.p], [.p ⟨false, [.bool]⟩], [.t 2],
  .seq (.region false [
    ⟨some 2, .mv, [(.c (D.bool false))], [], none⟩])
  (.seq (.region false [
    ⟨some 3, .mv, [(.t 0)], [], none⟩,
    ⟨some 4, .mv, [(.t 0)], [], none⟩,
    ⟨some 5, .bin .neq, [(.t 3), (.t 4)], [0, 1], none⟩,
    ⟨some 2, .mv, [(.t 5)], [2, 0, 1, 2], none⟩])
  (.ret))⟩

/- 60: cmp.Compare[int] -/
def c_cmp_Compare_60 : DFun := ⟨20, 4, [.p, .p], [.p ⟨false, [.int .i64]⟩], [.t 4],
  .seq (.region false [
    ⟨some 4, .mv, [(.c (D.int .i64 0))], [], none⟩])
  (.seq (.region false [
    ⟨some 7, .mv, [(.t 0)], [], none⟩,
    ⟨some 8, .call [2], [(.c (D.fn 71 [])), (.t 7)], [0], none⟩,
    ⟨some 5, .mv, [(.t 8)], [1, 1, 0, 1], none⟩])
  (.seq (.region false [
    ⟨some 9, .mv, [(.t 1)], [], none⟩,
    ⟨some 10, .call [3], [(.c (D.fn 71 [])), (.t 9)], [0], none⟩,
    ⟨some 6, .mv, [(.t 10)], [1, 1, 0, 1], none⟩])
  (.seq (.seq (.region false [
    ⟨some 11, .mv, [(.t 5)], [], none⟩])
  (.cond (.t 11) (.seq (.seq (.region false [
    ⟨some 12, .mv, [(.t 6)], [], none⟩])
  (.cond (.t 12) (.seq (.region false [
    ⟨some 4, .mv, [(.c (D.int .i64 0))], [], none⟩])
  (.ret)) (.skip)))
  (.seq (.region false [
    ⟨some 4, .mv, [(.c (D.int .i64 (-1)))], [], none⟩])
  (.ret))) (.skip)))
  (.seq (.seq (.region false [
    ⟨some 13, .mv, [(.t 6)], [], none⟩])
  (.cond (.t 13) (.seq (.region false [
    ⟨some 4, .mv, [(.c (D.int .i64 1))], [], none⟩])
  (.ret)) (.skip)))
  (.seq (.seq (.region false [
    ⟨some 14, .mv, [(.t 0)], [], none⟩,
    ⟨some 15, .mv, [(.t 1)], [], none⟩,
    ⟨some 16, .bin .lss, [(.t 14), (.t 15)], [0, 1], none⟩])
  (.cond (.t 16) (.seq (.region false [
    ⟨some 4, .mv, [(.c (D.int .i64 (-1)))], [], none⟩])
  (.ret)) (.skip)))
  (.seq (.seq (.region false [
    ⟨some 17, .mv, [(.t 0)], [], none⟩,
    ⟨some 18, .mv, [(.t 1)], [], none⟩,
    ⟨some 19, .bin .gtr, [(.t 17), (.t 18)], [0, 1], none⟩])
  (.cond (.t 19) (.seq (.region false [
    ⟨some 4, .mv, [(.c (D.int .i64 1))], [], none⟩])
  (.ret)) (.skip)))
  (.seq (.region false [
    ⟨some 4, .mv, [(.c (D.int .i64 0))], [], none⟩])
  (.ret))))))))⟩

/- 75: cmp.isNaN[uint32] -/
def c_cmp_isNaN_75 : DFun := ⟨6, 1, [.p], [.p ⟨false, [.bool]⟩], [.t 2],
  .seq (.region false [
    ⟨some 2, .mv, [(.c (D.bool false))], [], none⟩])
  (.seq (.region false [
    ⟨some 3, .mv, [(.t 0)], [], none⟩,
    ⟨some 4, .mv, [(.t 0)], [], none⟩,
    ⟨some 5, .bin .neq, [(.t 3), (.t 4)], [0, 1], none⟩,
    ⟨some 2, .mv, [(.t 5)], [2, 0, 1, 2], none⟩])
  (.ret))⟩

/- 72: cmp.Compare[uint32] -/
def c_cmp_Compare_72 : DFun := ⟨20, 4, [.p, .p], [.p ⟨false, [.int .i64]⟩], [.t 4],
  .seq (.region false [
    ⟨some 4, .mv, [(.c (D.int .i64 0))], [], none⟩])
  (.seq (.region false [
    ⟨some 7, .mv, [(.t 0)], [], none⟩,
    ⟨some 8, .call [2], [(.c (D.fn 75 [])), (.t 7)], [0], none⟩,
    ⟨some 5, .mv, [(.t 8)], [1, 1, 0, 1], none⟩])
  (.seq (.region false [
    ⟨some 9, .mv, [(.t 1)], [], none⟩,
    ⟨some 10, .call [3], [(.c (D.fn 75 [])), (.t 9)], [0], none⟩,
    ⟨some 6, .mv, [(.t 10)], [1, 1, 0, 1], none⟩])
  (.seq (.seq (.region false [
    ⟨some 11, .mv, [(.t 5)], [], none⟩])
  (.cond (.t 11) (.seq (.seq (.region false [
    ⟨some 12, .mv, [(.t 6)], [], none⟩])
  (.cond (.t 12) (.seq (.region false [
    ⟨some 4, .mv, [(.c (D.int .i64 0))], [], none⟩])
  (.ret)) (.skip)))
  (.seq (.region false [
    ⟨some 4, .mv, [(.c (D.int .i64 (-1)))], [], none⟩])
  (.ret))) (.skip)))
  (.seq (.seq (.region false [
    ⟨some 13, .mv, [(.t 6)], [], none⟩])
  (.cond (.t 13) (.seq (.region false [
    ⟨some 4, .mv, [(.c (D.int .i64 1))], [], none⟩])
  (.ret)) (.skip)))
  (.seq (.seq (.region false [
    ⟨some 14, .mv, [(.t 0)], [], none⟩,
    ⟨some 15, .mv, [(.t 1)], [], none⟩,
    ⟨some 16, .bin .lss, [(.t 14), (.t 15)], [0, 1], none⟩])
  (.cond (.t 16) (.seq (.region false [
    ⟨some 4, .mv, [(.c (D.int .i64 (-1)))], [], none⟩])
  (.ret)) (.skip)))
  (.seq (.seq (.region false [
    ⟨some 17, .mv, [(.t 0)], [], none⟩,
    ⟨some 18, .mv, [(.t 1)], [], none⟩,
    ⟨some 19, .bin .gtr, [(.t 17), (.t 18)], [0, 1], none⟩])
  (.cond (.t 19) (.seq (.region false [
    ⟨some 4, .mv, [(.c (D.int .i64 1))], [], none⟩])
  (.ret)) (.skip)))
  (.seq (.region false [
    ⟨some 4, .mv, [(.c (D.int .i64 0))], [], none⟩])
  (.ret))))))))⟩

/- 61: slices.Compare[[]uint32,uint32] -/
def c_slices_Compare : DFun := ⟨36, 3, [.p, .p], [.p ⟨false, [.int .i64]⟩], [.t 4],
  .seq (.region false [
    ⟨some 4, .mv, [(.c (D.int .i64 0))], [], none⟩])
  (.seq (.seq (.region false [
    ⟨some 9, .mv, [(.t 0)], [], none⟩,
    ⟨some 10, .len, [(.t 9)], [0], none⟩,
    ⟨some 11, .mv, [(.c (D.int .i64 0))], [], none⟩])
  (.block 0 (.loop ⟨[0, 1, 9, 10], [(11, .p ⟨false, [.int .i64]⟩)], []⟩ (.seq (.region false [
    ⟨some 12, .bin .lss, [(.t 11), (.t 10)], [], none⟩])
  (.seq (.cond (.t 12) (.skip) (.exit 0))
  (.seq (.block 1 (.seq (.region false [
    ⟨some 13, .mv, [(.t 11)], [], none⟩,
    ⟨some 14, .idxA 30, [(.t 9), (.t 11)], [], none⟩,
    ⟨some 15, .load ⟨false, [.int .u32]⟩, [(.t 14)], [1], none⟩,
    ⟨some 5, .mv, [(.t 13)], [0, 0, 1, 2], none⟩,
    ⟨some 6, .mv, [(.t 15)], [2, 3, 0, 1, 2, 3], none⟩])
  (.seq (.seq (.region false [
    ⟨some 16, .mv, [(.t 5)], [], none⟩,
    ⟨some 17, .mv, [(.t 1)], [], none⟩,
    ⟨some 18, .len, [(.t 17)], [1], none⟩,
    ⟨some 19, .bin .geq, [(.t 16), (.t 18)], [0, 2], none⟩])
  (.cond (.t 19) (.seq (.region false [
    ⟨some 4, .mv, [(.c (D.int .i64 1))], [], none⟩])
  (.ret)) (.skip)))
  (.seq (.region false [
    ⟨some 20, .mv, [(.t 1)], [], none⟩,
    ⟨some 21, .mv, [(.t 5)], [], none⟩,
    ⟨some 22, .idxA 30, [(.t 20), (.t 21)], [0, 1], none⟩,
    ⟨some 23, .load ⟨false, [.int .u32]⟩, [(.t 22)], [2], none⟩,
    ⟨some 7, .mv, [(.t 23)], [3, 0, 1, 2, 3], none⟩])
  (.seq (.region false [
    ⟨some 24, .mv, [(.t 6)], [], none⟩,
    ⟨some 25, .mv, [(.t 7)], [], none⟩,
    ⟨some 26, .call [2], [(.c (D.fn 72 [])), (.t 24), (.t 25)], [0, 1], none⟩,
    ⟨some 8, .mv, [(.t 26)], [2, 2, 0, 1, 2], none⟩])
  (.seq (.region false [
    ⟨some 27, .mv, [(.t 8)], [], none⟩,
    ⟨some 28, .bin .neq, [(.t 27), (.c (D.int .i64 0))], [0], none⟩])
  (.cond (.t 28) (.seq (.region false [
    ⟨some 29, .mv, [(.t 8)], [], none⟩,
    ⟨some 4, .mv, [(.t 29)], [0, 0], none⟩])
  (.ret)) (.skip))))))))
  (.region false [
    ⟨some 30, .bin .add, [(.t 11), (.c (D.int .i64 1))], [], none⟩,
    ⟨some 11, .mv, [(.t 30)], [0], none⟩])))))))
  (.seq (.seq (.region false [
    ⟨some 31, .mv, [(.t 0)], [], none⟩,
    ⟨some 32, .len, [(.t 31)], [0], none⟩,
    ⟨some 33, .mv, [(.t 1)], [], none⟩,
    ⟨some 34, .len, [(.t 33)], [2], none⟩,
    ⟨some 35, .bin .lss, [(.t 32), (.t 34)], [1, 3], none⟩])
  (.cond (.t 35) (.seq (.region false [
    ⟨some 4, .mv, [(.c (D.int .i64 (-1)))], [], none⟩])
  (.ret)) (.skip)))
  (.seq (.region false [
    ⟨some 4, .mv, [(.c (D.int .i64 0))], [], none⟩])
  (.ret))))⟩

/- 39: gatepath/policy.by -/
def c_policy_by : DFun := ⟨34, 9, [.p, .p, .p], [.p ⟨false, [.int .i64]⟩], [.t 6],
  .seq (.region false [
    ⟨some 3, .box 3, [(.t 0)], [], none⟩,
    ⟨some 4, .box 4, [(.t 1)], [], none⟩,
    ⟨some 6, .mv, [(.c (D.int .i64 0))], [], none⟩])
  (.seq (.seq (.region false [
    ⟨some 10, .mv, [(.t 2)], [], none⟩,
    ⟨some 11, .len, [(.t 10)], [0], none⟩,
    ⟨some 12, .mv, [(.c (D.int .i64 0))], [], none⟩])
  (.block 0 (.loop ⟨[3, 4, 10, 11], [(12, .p ⟨false, [.int .i64]⟩)], [(3, .v [.p (.int .u8), .p (.int .u64), .p (.int .u64), .p (.int .i64), .p (.sl 30), .p (.int .u8), .p (.int .u32), .p (.int .u32), .p (.int .u32), .p (.int .u8), .p (.int .u64), .p (.int .u64), .p (.int .i64), .p (.sl 85), .p (.int .u8), .p (.int .u8), .p (.int .u8)]), (4, .v [.p (.int .u8), .p (.int .u64), .p (.int .u64), .p (.int .i64), .p (.sl 30), .p (.int .u8), .p (.int .u32), .p (.int .u32), .p (.int .u32), .p (.int .u8), .p (.int .u64), .p (.int .u64), .p (.int .i64), .p (.sl 85), .p (.int .u8), .p (.int .u8), .p (.int .u8)])]⟩ (.seq (.region false [
    ⟨some 13, .bin .lss, [(.t 12), (.t 11)], [], none⟩])
  (.seq (.cond (.t 13) (.skip) (.exit 0))
  (.seq (.block 1 (.seq (.region false [
    ⟨some 14, .idxA 91, [(.t 10), (.t 12)], [], none⟩,
    ⟨some 15, .load ⟨false, [.fn]⟩, [(.t 14)], [0], none⟩,
    ⟨some 8, .mv, [(.t 15)], [1, 0, 1], none⟩])
  (.seq (.region true [
    ⟨some 16, .mv, [(.t 8)], [], none⟩,
    ⟨some 17, .load ⟨true, [.int .u8, .int .u64, .int .u64, .int .i64, .sl 30, .int .u8, .int .u32, .int .u32, .int .u32, .int .u8, .int .u64, .int .u64, .int .i64, .sl 85, .int .u8, .int .u8, .int .u8]⟩, [(.t 3)], [], none⟩,
    ⟨some 18, .call [5], [(.t 16), (.t 17)], [0, 1], none⟩,
    ⟨some 19, .mv, [(.t 8)], [], none⟩,
    ⟨some 20, .load ⟨true, [.int .u8, .int .u64, .int .u64, .int .i64, .sl 30, .int .u8, .int .u32, .int .u32, .int .u32, .int .u8, .int .u64, .int .u64, .int .i64, .sl 85, .int .u8, .int .u8, .int .u8]⟩, [(.t 4)], [], none⟩,
    ⟨some 21, .call [6], [(.t 19), (.t 20)], [3, 4, 2], none⟩,
    ⟨some 22, .call [7], [(.c (D.fn 60 [])), (.t 18), (.t 21)], [2, 5, 5], none⟩,
    ⟨some 9, .mv, [(.t 22)], [6, 6, 0, 1, 2, 3, 4, 5, 6], none⟩])
  (.seq (.region false [
    ⟨some 23, .mv, [(.t 9)], [], none⟩,
    ⟨some 24, .bin .neq, [(.t 23), (.c (D.int .i64 0))], [0], none⟩])
  (.cond (.t 24) (.seq (.region false [
    ⟨some 25, .mv, [(.t 9)], [], none⟩,
    ⟨some 6, .mv, [(.t 25)], [0, 0], none⟩])
  (.ret)) (.skip))))))
  (.region false [
    ⟨some 26, .bin .add, [(.t 12), (.c (D.int .i64 1))], [], none⟩,
    ⟨some 12, .mv, [(.t 26)], [0], none⟩])))))))
  (.seq (.region false [
    ⟨some 27, .fld 0, [(.t 3)], [], none⟩,
    ⟨some 28, .fld 4, [(.t 27)], [0], none⟩,
    ⟨some 29, .load ⟨false, [.sl 30]⟩, [(.t 28)], [1], none⟩,
    ⟨some 30, .fld 0, [(.t 4)], [], none⟩,
    ⟨some 31, .fld 4, [(.t 30)], [3], none⟩,
    ⟨some 32, .load ⟨false, [.sl 30]⟩, [(.t 31)], [4], none⟩,
    ⟨some 33, .call [8], [(.c (D.fn 61 [])), (.t 29), (.t 32)], [2, 5], none⟩,
    ⟨some 6, .mv, [(.t 33)], [6, 6, 0, 1, 2, 3, 4, 5, 6], none⟩])
  (.ret)))⟩

/- 40: gatepath/policy.compare$1 -/
def c_policy_compare_1 : DFun := ⟨6, 3, [.p], [.p ⟨false, [.int .i64]⟩], [.t 2],
  .seq (.region false [
    ⟨some 1, .box 1, [(.t 0)], [], none⟩,
    ⟨some 2, .mv, [(.c (D.int .i64 0))], [], none⟩])
  (.seq (.region false [
    ⟨some 3, .fld 14, [(.t 1)], [], none⟩,
    ⟨some 4, .load ⟨true, [.int .u8, .int .u8, .int .u8]⟩, [(.t 3)], [0], none⟩,
    ⟨some 5, .call [2], [(.c (D.fn 36 [])), (.t 4), (.c (D.int .u8 2))], [1], none⟩,
    ⟨some 2, .mv, [(.t 5)], [2, 2, 0, 1, 2], none⟩])
  (.ret))⟩

/- 41: gatepath/policy.compare$2 -/
def c_policy_compare_2 : DFun := ⟨8, 2, [.p], [.p ⟨false, [.int .i64]⟩], [.t 2],
  .seq (.region false [
    ⟨some 1, .box 1, [(.t 0)], [], none⟩,
    ⟨some 2, .mv, [(.c (D.int .i64 0))], [], none⟩])
  (.seq (.region false [
    ⟨some 3, .fld 0, [(.t 1)], [], none⟩,
    ⟨some 4, .fld 6, [(.t 3)], [0], none⟩,
    ⟨some 5, .load ⟨false, [.int .u32]⟩, [(.t 4)], [1], none⟩,
    ⟨some 6, .conv .i64, [(.t 5)], [2], none⟩,
    ⟨some 7, .neg, [(.t 6)], [3], none⟩,
    ⟨some 2, .mv, [(.t 7)], [4, 0, 1, 2, 3, 4], none⟩])
  (.ret))⟩

/- 42: gatepath/policy.compare$3 -/
def c_policy_compare_3 : DFun := ⟨7, 3, [.p], [.p ⟨false, [.int .i64]⟩], [.t 2],
  .seq (.region false [
    ⟨some 1, .box 1, [(.t 0)], [], none⟩,
    ⟨some 2, .mv, [(.c (D.int .i64 0))], [], none⟩])
  (.seq (.region false [
    ⟨some 3, .fld 14, [(.t 1)], [], none⟩,
    ⟨some 4, .load ⟨true, [.int .u8, .int .u8, .int .u8]⟩, [(.t 3)], [0], none⟩,
    ⟨some 5, .call [2], [(.c (D.fn 36 [])), (.t 4), (.c (D.int .u8 1))], [1], none⟩,
    ⟨some 6, .neg, [(.t 5)], [2], none⟩,
    ⟨some 2, .mv, [(.t 6)], [3, 2, 0, 1, 2, 3], none⟩])
  (.ret))⟩

/- 43: gatepath/policy.compare$4 -/
def c_policy_compare_4 : DFun := ⟨7, 2, [.p], [.p ⟨false, [.int .i64]⟩], [.t 2],
  .seq (.region false [
    ⟨some 1, .box 1, [(.t 0)], [], none⟩,
    ⟨some 2, .mv, [(.c (D.int .i64 0))], [], none⟩])
  (.seq (.region false [
    ⟨some 3, .fld 0, [(.t 1)], [], none⟩,
    ⟨some 4, .fld 4, [(.t 3)], [0], none⟩,
    ⟨some 5, .load ⟨false, [.sl 30]⟩, [(.t 4)], [1], none⟩,
    ⟨some 6, .len, [(.t 5)], [2], none⟩,
    ⟨some 2, .mv, [(.t 6)], [3, 0, 1, 2, 3], none⟩])
  (.ret))⟩

/- 44: gatepath/policy.compare$5 -/
def c_policy_compare_5 : DFun := ⟨8, 4, [.p], [.p ⟨false, [.int .i64]⟩], [.t 2],
  .seq (.region false [
    ⟨some 1, .box 1, [(.t 0)], [], none⟩,
    ⟨some 2, .mv, [(.c (D.int .i64 0))], [], none⟩])
  (.seq (.region true [
    ⟨some 3, .call [2], [(.c (D.fn 46 []))], [], none⟩,
    ⟨some 4, .fld 0, [(.t 1)], [], none⟩,
    ⟨some 5, .fld 5, [(.t 4)], [1], none⟩,
    ⟨some 6, .load ⟨false, [.int .u8]⟩, [(.t 5)], [2], none⟩,
    ⟨some 7, .call [3], [(.c (D.fn 45 [])), (.t 3), (.t 6)], [0, 3, 0], none⟩,
    ⟨some 2, .mv, [(.t 7)], [4, 4, 0, 1, 2, 3, 4], none⟩])
  (.ret))⟩

/- 47: gatepath/policy.compare$6 -/
def c_policy_compare_6 : DFun := ⟨7, 2, [.p], [.p ⟨false, [.int .i64]⟩], [.t 2],
  .seq (.region false [
    ⟨some 1, .box 1, [(.t 0)], [], none⟩,
    ⟨some 2, .mv, [(.c (D.int .i64 0))], [], none⟩])
  (.seq (.region false [
    ⟨some 3, .fld 0, [(.t 1)], [], none⟩,
    ⟨some 4, .fld 7, [(.t 3)], [0], none⟩,
    ⟨some 5, .load ⟨false, [.int .u32]⟩, [(.t 4)], [1], none⟩,
    ⟨some 6, .conv .i64, [(.t 5)], [2], none⟩,
    ⟨some 2, .mv, [(.t 6)], [3, 0, 1, 2, 3], none⟩])
  (.ret))⟩

/- 48: gatepath/policy.compare$7 -/
def c_policy_compare_7 : DFun := ⟨7, 2, [.p], [.p ⟨false, [.int .i64]⟩], [.t 2],
  .seq (.region false [
    ⟨some 1, .box 1, [(.t 0)], [], none⟩,
    ⟨some 2, .mv, [(.c (D.int .i64 0))], [], none⟩])
  (.seq (.region false [
    ⟨some 3, .fld 0, [(.t 1)], [], none⟩,
    ⟨some 4, .fld 8, [(.t 3)], [0], none⟩,
    ⟨some 5, .load ⟨false, [.int .u32]⟩, [(.t 4)], [1], none⟩,
    ⟨some 6, .conv .i64, [(.t 5)], [2], none⟩,
    ⟨some 2, .mv, [(.t 6)], [3, 0, 1, 2, 3], none⟩])
  (.ret))⟩

/- 24: gatepath/policy.compare -/
def c_policy_compare : DFun := ⟨9, 6, [.p, .p], [.p ⟨false, [.int .i64]⟩], [.t 4],
  .seq (.region false [
    ⟨some 2, .box 2, [(.t 0)], [], none⟩,
    ⟨some 3, .box 3, [(.t 1)], [], none⟩,
    ⟨some 4, .mv, [(.c (D.int .i64 0))], [], none⟩])
  (.seq (.region false [
    ⟨some 5, .load ⟨true, [.int .u8, .int .u64, .int .u64, .int .i64, .sl 30, .int .u8, .int .u32, .int .u32, .int .u32, .int .u8, .int .u64, .int .u64, .int .i64, .sl 85, .int .u8, .int .u8, .int .u8]⟩, [(.t 2)], [], none⟩,
    ⟨some 6, .load ⟨true, [.int .u8, .int .u64, .int .u64, .int .i64, .sl 30, .int .u8, .int .u32, .int .u32, .int .u32, .int .u8, .int .u64, .int .u64, .int .i64, .sl 85, .int .u8, .int .u8, .int .u8]⟩, [(.t 3)], [], none⟩,
    ⟨some 7, .buildSl 4 91, [(.c (D.fn 40 [])), (.c (D.fn 41 [])), (.c (D.fn 42 [])), (.c (D.fn 43 [])), (.c (D.fn 44 [])), (.c (D.fn 47 [])), (.c (D.fn 48 []))], [], none⟩,
    ⟨some 8, .call [5], [(.c (D.fn 39 [])), (.t 5), (.t 6), (.t 7)], [0, 1, 2], none⟩,
    ⟨some 4, .mv, [(.t 8)], [3, 3, 0, 1, 2, 3], none⟩])
  (.ret))⟩

/- 10: gatepath/policy.Compare -/
def c_policy_Compare : DFun := ⟨17, 7, [.p, .p], [.p ⟨false, [.int .i64]⟩, .p ⟨false, [.int .i64]⟩], [.t 4, .t 5],
  .seq (.region false [
    ⟨some 2, .box 2, [(.t 0)], [], none⟩,
    ⟨some 3, .box 3, [(.t 1)], [], none⟩,
    ⟨some 4, .mv, [(.c (D.int .i64 0))], [], none⟩,
    ⟨some 5, .mv, [(.c (D.int .i64 0))], [2], none⟩])
  (.seq (.seq (.region false [
    ⟨some 6, .load ⟨true, [.int .u8, .int .u64, .int .u64, .int .i64, .sl 30, .int .u8, .int .u32, .int .u32, .int .u32, .int .u8, .int .u64, .int .u64, .int .i64, .sl 85, .int .u8, .int .u8, .int .u8]⟩, [(.t 2)], [], none⟩,
    ⟨some 7, .call [4], [(.c (D.fn 23 [])), (.t 6)], [0], none⟩,
    ⟨some 8, .not, [(.t 7)], [1], none⟩,
    ⟨some 9, .mv, [(.t 8)], [2, 1], none⟩,
    ⟨some 10, .load ⟨true, [.int .u8, .int .u64, .int .u64, .int .i64, .sl 30, .int .u8, .int .u32, .int .u32, .int .u32, .int .u8, .int .u64, .int .u64, .int .i64, .sl 85, .int .u8, .int .u8, .int .u8]⟩, [(.t 3)], [3], some (9, false)⟩,
    ⟨some 11, .call [5], [(.c (D.fn 23 [])), (.t 10)], [4, 3, 3], some (9, false)⟩,
    ⟨some 12, .not, [(.t 11)], [5, 3], some (9, false)⟩,
    ⟨some 13, .pick, [(.t 9), (.c (D.bool true)), (.t 12)], [3, 6], none⟩])
  (.cond (.t 13) (.seq (.region false [
    ⟨some 4, .mv, [(.c (D.int .i64 0))], [], none⟩,
    ⟨some 5, .mv, [(.c (D.int .i64 8))], [0, 0], none⟩])
  (.ret)) (.skip)))
  (.seq (.region false [
    ⟨some 14, .load ⟨true, [.int .u8, .int .u64, .int .u64, .int .i64, .sl 30, .int .u8, .int .u32, .int .u32, .int .u32, .int .u8, .int .u64, .int .u64, .int .i64, .sl 85, .int .u8, .int .u8, .int .u8]⟩, [(.t 2)], [], none⟩,
    ⟨some 15, .load ⟨true, [.int .u8, .int .u64, .int .u64, .int .i64, .sl 30, .int .u8, .int .u32, .int .u32, .int .u32, .int .u8, .int .u64, .int .u64, .int .i64, .sl 85, .int .u8, .int .u8, .int .u8]⟩, [(.t 3)], [], none⟩,
    ⟨some 16, .call [6], [(.c (D.fn 24 [])), (.t 14), (.t 15)], [0, 1], none⟩,
    ⟨some 4, .mv, [(.t 16)], [2, 2, 0, 1, 2], none⟩,
    ⟨some 5, .mv, [(.c (D.int .i64 0))], [3, 0, 1, 2, 3], none⟩])
  (.ret)))⟩

/- 62: gatepath/gatepathref01.Width -/
def c_gatepathref01_Width : DFun := ⟨7, 1, [.p], [.p ⟨false, [.int .i64]⟩], [.t 2],
  .seq (.region false [
    ⟨some 2, .mv, [(.c (D.int .i64 0))], [], none⟩])
  (.seq (.seq (.region false [
    ⟨some 3, .mv, [(.t 0)], [], none⟩,
    ⟨some 4, .bin .eql, [(.t 3), (.c (D.int .u8 4))], [0], none⟩])
  (.cond (.t 4) (.seq (.region false [
    ⟨some 2, .mv, [(.c (D.int .i64 32))], [], none⟩])
  (.ret)) (.skip)))
  (.seq (.seq (.region false [
    ⟨some 5, .mv, [(.t 0)], [], none⟩,
    ⟨some 6, .bin .eql, [(.t 5), (.c (D.int .u8 6))], [0], none⟩])
  (.cond (.t 6) (.seq (.region false [
    ⟨some 2, .mv, [(.c (D.int .i64 128))], [], none⟩])
  (.ret)) (.skip)))
  (.seq (.region false [
    ⟨some 2, .mv, [(.c (D.int .i64 0))], [], none⟩])
  (.ret))))⟩

/- 63: gatepath/gatepathref01.CheckAddr -/
def c_gatepathref01_CheckAddr : DFun := ⟨17, 3, [.p, .p], [.p ⟨false, [.bool]⟩], [.t 4],
  .seq (.region false [
    ⟨some 3, .box 2, [(.t 1)], [], none⟩,
    ⟨some 4, .mv, [(.c (D.bool false))], [], none⟩])
  (.seq (.seq (.region false [
    ⟨some 5, .mv, [(.t 0)], [], none⟩,
    ⟨some 6, .bin .eql, [(.t 5), (.c (D.int .u8 4))], [0], none⟩])
  (.cond (.t 6) (.seq (.region false [
    ⟨some 7, .fld 0, [(.t 3)], [], none⟩,
    ⟨some 8, .load ⟨false, [.int .u64]⟩, [(.t 7)], [0], none⟩,
    ⟨some 9, .bin .eql, [(.t 8), (.c (D.int .u64 0))], [1], none⟩,
    ⟨some 10, .mv, [(.t 9)], [2], none⟩,
    ⟨some 11, .fld 1, [(.t 3)], [3], some (10, true)⟩,
    ⟨some 12, .load ⟨false, [.int .u64]⟩, [(.t 11)], [4, 3], some (10, true)⟩,
    ⟨some 13, .bin .leq, [(.t 12), (.c (D.int .u64 4294967295))], [5, 3], some (10, true)⟩,
    ⟨some 14, .pick, [(.t 10), (.t 13), (.c (D.bool false))], [3, 6], none⟩,
    ⟨some 4, .mv, [(.t 14)], [7, 3, 0, 1, 2, 3, 4, 5, 6, 7], none⟩])
  (.ret)) (.skip)))
  (.seq (.region false [
    ⟨some 15, .mv, [(.t 0)], [], none⟩,
    ⟨some 16, .bin .eql, [(.t 15), (.c (D.int .u8 6))], [0], none⟩,
    ⟨some 4, .mv, [(.t 16)], [1, 0, 1], none⟩])
  (.ret)))⟩

/- 73: gatepath/gatepathref01.power -/
def c_gatepathref01_power : DFun := ⟨14, 1, [.p], [.p ⟨false, [.int .u64]⟩], [.t 2],
  .seq (.region false [
    ⟨some 2, .mv, [(.c (D.int .u64 0))], [], none⟩])
  (.seq (.region false [
    ⟨some 3, .mv, [(.c (D.int .u64 1))], [], none⟩])
  (.seq (.seq (.region false [
    ⟨some 4, .mv, [(.c (D.int .i64 0))], [], none⟩])
  (.block 0 (.loop ⟨[0], [(3, .p ⟨false, [.int .u64]⟩), (4, .p ⟨false, [.int .i64]⟩)], []⟩ (.seq (.seq (.region false [
    ⟨some 5, .mv, [(.t 4)], [], none⟩,
    ⟨some 6, .mv, [(.t 0)], [], none⟩,
    ⟨some 7, .bin .lss, [(.t 5), (.t 6)], [0, 1], none⟩])
  (.cond (.t 7) (.skip) (.exit 0)))
  (.seq (.block 1 (.region false [
    ⟨some 10, .mv, [(.t 3)], [], none⟩,
    ⟨some 11, .mv, [(.t 3)], [], none⟩,
    ⟨some 12, .bin .add, [(.t 10), (.t 11)], [0, 1], none⟩,
    ⟨some 3, .mv, [(.t 12)], [2, 0, 1, 2], none⟩]))
  (.region false [
    ⟨some 8, .mv, [(.t 4)], [], none⟩,
    ⟨some 9, .bin .add, [(.t 8), (.c (D.int .i64 1))], [0], none⟩,
    ⟨some 4, .mv, [(.t 9)], [1, 0, 1], none⟩]))))))
  (.seq (.region false [
    ⟨some 13, .mv, [(.t 3)], [], none⟩,
    ⟨some 2, .mv, [(.t 13)], [0, 0], none⟩])
  (.ret))))⟩

/- 64: gatepath/gatepathref01.Bits -/
def c_gatepathref01_Bits : DFun := ⟨39, 8, [.p, .p], [.o 3], [.t 4],
  .seq (.region false [
    ⟨some 3, .box 2, [(.t 1)], [], none⟩,
    ⟨some 4, .mv, [(.c (D.zs 3 true))], [], none⟩])
  (.seq (.region false [
    ⟨some 5, .mv, [(.c (D.zs 3 true))], [], none⟩])
  (.seq (.region false [
    ⟨some 10, .mv, [(.t 0)], [], none⟩,
    ⟨some 11, .call [5], [(.c (D.fn 62 [])), (.t 10)], [0], none⟩,
    ⟨some 6, .mv, [(.t 11)], [1, 1, 0, 1], none⟩])
  (.seq (.seq (.region false [
    ⟨some 7, .mv, [(.c (D.int .i64 0))], [], none⟩])
  (.block 0 (.loop ⟨[3, 6], [(5, .o 6 3), (7, .p ⟨false, [.int .i64]⟩)], [(2, .v [.p (.int .u64), .p (.int .u64)])]⟩ (.seq (.seq (.region false [
    ⟨some 12, .mv, [(.t 7)], [], none⟩,
    ⟨some 13, .mv, [(.t 6)], [], none⟩,
    ⟨some 14, .bin .lss, [(.t 12), (.t 13)], [0, 1], none⟩])
  (.cond (.t 14) (.skip) (.exit 0)))
  (.seq (.block 1 (.seq (.region false [
    ⟨some 17, .mv, [(.t 6)], [], none⟩,
    ⟨some 18, .bin .sub, [(.t 17), (.c (D.int .i64 1))], [0], none⟩,
    ⟨some 19, .mv, [(.t 7)], [], none⟩,
    ⟨some 20, .bin .sub, [(.t 18), (.t 19)], [1, 2], none⟩,
    ⟨some 8, .mv, [(.t 20)], [3, 0, 1, 2, 3], none⟩])
  (.seq (.region false [
    ⟨some 21, .fld 1, [(.t 3)], [], none⟩,
    ⟨some 22, .load ⟨false, [.int .u64]⟩, [(.t 21)], [0], none⟩,
    ⟨some 9, .mv, [(.t 22)], [1, 0, 1], none⟩])
  (.seq (.seq (.region false [
    ⟨some 23, .mv, [(.t 8)], [], none⟩,
    ⟨some 24, .bin .gtr, [(.t 23), (.c (D.int .i64 63))], [0], none⟩])
  (.cond (.t 24) (.seq (.region false [
    ⟨some 25, .fld 0, [(.t 3)], [], none⟩,
    ⟨some 26, .load ⟨false, [.int .u64]⟩, [(.t 25)], [0], none⟩,
    ⟨some 9, .mv, [(.t 26)], [1, 0, 1], none⟩])
  (.region false [
    ⟨some 27, .mv, [(.t 8)], [], none⟩,
    ⟨some 28, .bin .sub, [(.t 27), (.c (D.int .i64 64))], [0], none⟩,
    ⟨some 8, .mv, [(.t 28)], [1, 0, 1], none⟩])) (.skip)))
  (.region false [
    ⟨some 29, .mv, [(.t 5)], [], none⟩,
    ⟨some 30, .mv, [(.t 9)], [], none⟩,
    ⟨some 31, .mv, [(.t 8)], [], none⟩,
    ⟨some 32, .call [7], [(.c (D.fn 73 [])), (.t 31)], [2], none⟩,
    ⟨some 33, .bin .quo, [(.t 30), (.t 32)], [1, 3], none⟩,
    ⟨some 34, .bin .rem, [(.t 33), (.c (D.int .u64 2))], [4], none⟩,
    ⟨some 35, .conv .i64, [(.t 34)], [5], none⟩,
    ⟨some 36, .buildSl 3 3, [(.t 35)], [6], none⟩,
    ⟨some 37, .append 4 3 8, [(.t 29), (.t 36)], [0, 7, 3], none⟩,
    ⟨some 5, .mv, [(.t 37)], [8, 8, 0, 1, 2, 3, 4, 5, 6, 7, 8], none⟩])))))
  (.region false [
    ⟨some 15, .mv, [(.t 7)], [], none⟩,
    ⟨some 16, .bin .add, [(.t 15), (.c (D.int .i64 1))], [0], none⟩,
    ⟨some 7, .mv, [(.t 16)], [1, 0, 1], none⟩]))))))
  (.seq (.region false [
    ⟨some 38, .mv, [(.t 5)], [], none⟩,
    ⟨some 4, .mv, [(.t 38)], [0, 0], none⟩])
  (.ret)))))⟩

/- 53: gatepath/gatepathref01.Check -/
def c_gatepathref01_Check : DFun := ⟨45, 5, [.p], [.p ⟨false, [.int .i64]⟩], [.t 2],
  .seq (.region false [
    ⟨some 1, .box 1, [(.t 0)], [], none⟩,
    ⟨some 2, .mv, [(.c (D.int .i64 0))], [], none⟩])
  (.seq (.region false [
    ⟨some 6, .fld 0, [(.t 1)], [], none⟩,
    ⟨some 7, .load ⟨false, [.int .u8]⟩, [(.t 6)], [0], none⟩,
    ⟨some 8, .call [2], [(.c (D.fn 62 [])), (.t 7)], [1], none⟩,
    ⟨some 3, .mv, [(.t 8)], [2, 2, 0, 1, 2], none⟩])
  (.seq (.seq (.region false [
    ⟨some 9, .mv, [(.t 3)], [], none⟩,
    ⟨some 10, .bin .eql, [(.t 9), (.c (D.int .i64 0))], [0], none⟩])
  (.cond (.t 10) (.seq (.region false [
    ⟨some 2, .mv, [(.c (D.int .i64 2))], [], none⟩])
  (.ret)) (.skip)))
  (.seq (.seq (.region false [
    ⟨some 11, .fld 0, [(.t 1)], [], none⟩,
    ⟨some 12, .load ⟨false, [.int .u8]⟩, [(.t 11)], [0], none⟩,
    ⟨some 13, .fld 1, [(.t 1)], [], none⟩,
    ⟨some 14, .load ⟨true, [.int .u64, .int .u64]⟩, [(.t 13)], [2], none⟩,
    ⟨some 15, .call [3], [(.c (D.fn 63 [])), (.t 12), (.t 14)], [1, 3], none⟩,
    ⟨some 16, .not, [(.t 15)], [4], none⟩,
    ⟨some 17, .mv, [(.t 16)], [5, 4], none⟩,
    ⟨some 18, .fld 3, [(.t 1)], [6], some (17, false)⟩,
    ⟨some 19, .load ⟨false, [.int .i64]⟩, [(.t 18)], [7, 6], some (17, false)⟩,
    ⟨some 20, .bin .lss, [(.t 19), (.c (D.int .i64 0))], [8, 6], some (17, false)⟩,
    ⟨some 21, .pick, [(.t 17), (.c (D.bool true)), (.t 20)], [6, 9], none⟩,
    ⟨some 22, .mv, [(.t 21)], [10, 6], none⟩,
    ⟨some 23, .fld 3, [(.t 1)], [11], some (22, false)⟩,
    ⟨some 24, .load ⟨false, [.int .i64]⟩, [(.t 23)], [12, 11], some (22, false)⟩,
    ⟨some 25, .mv, [(.t 3)], [11], some (22, false)⟩,
    ⟨some 26, .bin .gtr, [(.t 24), (.t 25)], [13, 14, 11], some (22, false)⟩,
    ⟨some 27, .pick, [(.t 22), (.c (D.bool true)), (.t 26)], [11, 15], none⟩])
  (.cond (.t 27) (.seq (.region false [
    ⟨some 2, .mv, [(.c (D.int .i64 8))], [], none⟩])
  (.ret)) (.skip)))
  (.seq (.region false [
    ⟨some 28, .fld 0, [(.t 1)], [], none⟩,
    ⟨some 29, .load ⟨false, [.int .u8]⟩, [(.t 28)], [0], none⟩,
    ⟨some 30, .fld 1, [(.t 1)], [], none⟩,
    ⟨some 31, .load ⟨true, [.int .u64, .int .u64]⟩, [(.t 30)], [2], none⟩,
    ⟨some 32, .call [4], [(.c (D.fn 64 [])), (.t 29), (.t 31)], [1, 3], none⟩,
    ⟨some 4, .mv, [(.t 32)], [4, 4, 0, 1, 2, 3, 4], none⟩])
  (.seq (.seq (.region false [
    ⟨some 33, .fld 3, [(.t 1)], [], none⟩,
    ⟨some 34, .load ⟨false, [.int .i64]⟩, [(.t 33)], [0], none⟩,
    ⟨some 5, .mv, [(.t 34)], [1, 0, 1], none⟩])
  (.block 0 (.loop ⟨[3, 4], [(5, .p ⟨false, [.int .i64]⟩)], [(4, .a 3)]⟩ (.seq (.seq (.region false [
    ⟨some 35, .mv, [(.t 5)], [], none⟩,
    ⟨some 36, .mv, [(.t 3)], [], none⟩,
    ⟨some 37, .bin .lss, [(.t 35), (.t 36)], [0, 1], none⟩])
  (.cond (.t 37) (.skip) (.exit 0)))
  (.seq (.block 1 (.seq (.region false [
    ⟨some 40, .mv, [(.t 4)], [], none⟩,
    ⟨some 41, .mv, [(.t 5)], [], none⟩,
    ⟨some 42, .idxA 3, [(.t 40), (.t 41)], [0, 1], none⟩,
    ⟨some 43, .load ⟨false, [.int .i64]⟩, [(.t 42)], [2], none⟩,
    ⟨some 44, .bin .neq, [(.t 43), (.c (D.int .i64 0))], [3], none⟩])
  (.cond (.t 44) (.seq (.region false [
    ⟨some 2, .mv, [(.c (D.int .i64 8))], [], none⟩])
  (.ret)) (.skip))))
  (.region false [
    ⟨some 38, .mv, [(.t 5)], [], none⟩,
    ⟨some 39, .bin .add, [(.t 38), (.c (D.int .i64 1))], [0], none⟩,
    ⟨some 5, .mv, [(.t 39)], [1, 0, 1], none⟩]))))))
  (.seq (.region false [
    ⟨some 2, .mv, [(.c (D.int .i64 0))], [], none⟩])
  (.ret)))))))⟩

/- 54: gatepath/gatepathref44.near -/
def c_gatepathref44_near : DFun := ⟨21, 1, [.p], [.p ⟨false, [.bool]⟩], [.t 2],
  .seq (.region false [
    ⟨some 2, .mv, [(.c (D.bool false))], [], none⟩])
  (.seq (.region false [
    ⟨some 3, .mv, [(.t 0)], [], none⟩,
    ⟨some 4, .bin .eql, [(.t 3), (.c (D.int .u8 1))], [0], none⟩,
    ⟨some 5, .mv, [(.t 4)], [1], none⟩,
    ⟨some 6, .mv, [(.t 0)], [2], some (5, false)⟩,
    ⟨some 7, .bin .eql, [(.t 6), (.c (D.int .u8 2))], [3, 2], some (5, false)⟩,
    ⟨some 8, .pick, [(.t 5), (.c (D.bool true)), (.t 7)], [2, 4], none⟩,
    ⟨some 9, .mv, [(.t 8)], [5, 2], none⟩,
    ⟨some 10, .mv, [(.t 0)], [6], some (9, false)⟩,
    ⟨some 11, .bin .eql, [(.t 10), (.c (D.int .u8 3))], [7, 6], some (9, false)⟩,
    ⟨some 12, .pick, [(.t 9), (.c (D.bool true)), (.t 11)], [6, 8], none⟩,
    ⟨some 13, .mv, [(.t 12)], [9, 6], none⟩,
    ⟨some 14, .mv, [(.t 0)], [10], some (13, false)⟩,
    ⟨some 15, .bin .eql, [(.t 14), (.c (D.int .u8 4))], [11, 10], some (13, false)⟩,
    ⟨some 16, .pick, [(.t 13), (.c (D.bool true)), (.t 15)], [10, 12], none⟩,
    ⟨some 17, .mv, [(.t 16)], [13, 10], none⟩,
    ⟨some 18, .mv, [(.t 0)], [14], some (17, false)⟩,
    ⟨some 19, .bin .eql, [(.t 18), (.c (D.int .u8 5))], [15, 14], some (17, false)⟩,
    ⟨some 20, .pick, [(.t 17), (.c (D.bool true)), (.t 19)], [14, 16], none⟩,
    ⟨some 2, .mv, [(.t 20)], [17, 14, 0, 1, 2, 3, 4, 5, 6, 7, 8, 9, 10, 11, 12, 13, 14, 15, 16, 17], none⟩])
  (.ret))⟩

/- 29: gatepath/gatepathref44.route -/
def c_gatepathref44_route : DFun := ⟨24, 4, [.p], [.p ⟨false, [.int .i64]⟩], [.t 2],
  .seq (.region false [
    ⟨some 1, .box 1, [(.t 0)], [], none⟩,
    ⟨some 2, .mv, [(.c (D.int .i64 0))], [], none⟩])
  (.seq (.region false [
    ⟨some 4, .fld 0, [(.t 1)], [], none⟩,
    ⟨some 5, .load ⟨true, [.int .u8, .int .u64, .int .u64, .int .i64]⟩, [(.t 4)], [0], none⟩,
    ⟨some 6, .call [2], [(.c (D.fn 53 [])), (.t 5)], [1], none⟩,
    ⟨some 3, .mv, [(.t 6)], [2, 2, 0, 1, 2], none⟩])
  (.seq (.seq (.region false [
    ⟨some 7, .mv, [(.t 3)], [], none⟩,
    ⟨some 8, .bin .eql, [(.t 7), (.c (D.int .i64 0))], [0], none⟩,
    ⟨some 9, .mv, [(.t 8)], [1], none⟩,
    ⟨some 10, .fld 4, [(.t 1)], [2], some (9, true)⟩,
    ⟨some 11, .load ⟨false, [.sl 30]⟩, [(.t 10)], [3, 2], some (9, true)⟩,
    ⟨some 12, .len, [(.t 11)], [4, 2], some (9, true)⟩,
    ⟨some 13, .bin .gtr, [(.t 12), (.c (D.int .i64 30))], [5, 2], some (9, true)⟩,
    ⟨some 14, .pick, [(.t 9), (.t 13), (.c (D.bool false))], [2, 6], none⟩])
  (.cond (.t 14) (.region false [
    ⟨some 3, .mv, [(.c (D.int .i64 4))], [], none⟩]) (.skip)))
  (.seq (.seq (.region false [
    ⟨some 15, .mv, [(.t 3)], [], none⟩,
    ⟨some 16, .bin .eql, [(.t 15), (.c (D.int .i64 0))], [0], none⟩,
    ⟨some 17, .mv, [(.t 16)], [1], none⟩,
    ⟨some 18, .fld 5, [(.t 1)], [2], some (17, true)⟩,
    ⟨some 19, .load ⟨false, [.int .u8]⟩, [(.t 18)], [3, 2], some (17, true)⟩,
    ⟨some 20, .call [3], [(.c (D.fn 54 [])), (.t 19)], [4, 2, 2], some (17, true)⟩,
    ⟨some 21, .not, [(.t 20)], [5, 2], some (17, true)⟩,
    ⟨some 22, .pick, [(.t 17), (.t 21), (.c (D.bool false))], [2, 6], none⟩])
  (.cond (.t 22) (.region false [
    ⟨some 3, .mv, [(.c (D.int .i64 2))], [], none⟩]) (.skip)))
  (.seq (.region false [
    ⟨some 23, .mv, [(.t 3)], [], none⟩,
    ⟨some 2, .mv, [(.t 23)], [0, 0], none⟩])
  (.ret)))))⟩

/- 13: gatepath/gatepathref44.Right -/
def c_gatepathref44_Right : DFun := ⟨12, 4, [.p], [.p ⟨false, [.bool]⟩], [.t 2],
  .seq (.region false [
    ⟨some 1, .box 1, [(.t 0)], [], none⟩,
    ⟨some 2, .mv, [(.c (D.bool false))], [], none⟩])
  (.seq (.region false [
    ⟨some 3, .fld 0, [(.t 1)], [], none⟩,
    ⟨some 4, .load ⟨true, [.int .u8, .int .u64, .int .u64, .int .i64, .sl 30, .int .u8, .int .u32, .int .u32, .int .u32, .int .u8, .int .u64, .int .u64, .int .i64, .sl 85]⟩, [(.t 3)], [0], none⟩,
    ⟨some 5, .call [2], [(.c (D.fn 29 [])), (.t 4)], [1], none⟩,
    ⟨some 6, .bin .eql, [(.t 5), (.c (D.int .i64 0))], [2], none⟩,
    ⟨some 7, .mv, [(.t 6)], [3, 2], none⟩,
    ⟨some 8, .fld 14, [(.t 1)], [4], some (7, true)⟩,
    ⟨some 9, .load ⟨true, [.int .u8, .int .u8, .int .u8]⟩, [(.t 8)], [5, 4], some (7, true)⟩,
    ⟨some 10, .call [3], [(.c (D.fn 21 [])), (.t 9)], [6, 4, 4], some (7, true)⟩,
    ⟨some 11, .pick, [(.t 7), (.t 10), (.c (D.bool false))], [4, 7], none⟩,
    ⟨some 2, .mv, [(.t 11)], [8, 7, 0, 1, 2, 3, 4, 5, 6, 7, 8], none⟩])
  (.ret))⟩

/- 49: gatepath/gatepathref44.sign -/
def c_gatepathref44_sign : DFun := ⟨13, 2, [.p, .p], [.p ⟨false, [.int .i64]⟩], [.t 4],
  .seq (.region false [
    ⟨some 4, .mv, [(.c (D.int .i64 0))], [], none⟩])
  (.seq (.block 0 (.seq (.region false [
    ⟨some 6, .mv, [(.t 0)], [], none⟩,
    ⟨some 7, .mv, [(.t 1)], [], none⟩,
    ⟨some 8, .bin .lss, [(.t 6), (.t 7)], [0, 1], none⟩,
    ⟨some 5, .mv, [(.t 8)], [2], none⟩])
  (.cond (.t 5) (.seq (.region false [
    ⟨some 4, .mv, [(.c (D.int .i64 (-1)))], [], none⟩])
  (.ret)) (.seq (.region false [
    ⟨some 10, .mv, [(.t 0)], [], none⟩,
    ⟨some 11, .mv, [(.t 1)], [], none⟩,
    ⟨some 12, .bin .gtr, [(.t 10), (.t 11)], [0, 1], none⟩,
    ⟨some 9, .mv, [(.t 12)], [2], none⟩])
  (.cond (.t 9) (.seq (.region false [
    ⟨some 4, .mv, [(.c (D.int .i64 1))], [], none⟩])
  (.ret)) (.skip))))))
  (.seq (.region false [
    ⟨some 4, .mv, [(.c (D.int .i64 0))], [], none⟩])
  (.ret)))⟩

/- 50: gatepath/gatepathref44.count -/
def c_gatepathref44_count : DFun := ⟨25, 3, [.p, .p], [.p ⟨false, [.int .i64]⟩], [.t 4],
  .seq (.region false [
    ⟨some 2, .box 2, [(.t 0)], [], none⟩,
    ⟨some 4, .mv, [(.c (D.int .i64 0))], [], none⟩])
  (.seq (.region false [
    ⟨some 5, .mv, [(.c (D.int .i64 0))], [], none⟩])
  (.seq (.seq (.region false [
    ⟨some 6, .fld 0, [(.t 2)], [], none⟩,
    ⟨some 7, .load ⟨false, [.int .u8]⟩, [(.t 6)], [0], none⟩,
    ⟨some 8, .mv, [(.t 1)], [], none⟩,
    ⟨some 9, .bin .eql, [(.t 7), (.t 8)], [1, 2], none⟩])
  (.cond (.t 9) (.region false [
    ⟨some 10, .mv, [(.t 5)], [], none⟩,
    ⟨some 11, .bin .add, [(.t 10), (.c (D.int .i64 1))], [0], none⟩,
    ⟨some 5, .mv, [(.t 11)], [1, 0, 1], none⟩]) (.skip)))
  (.seq (.seq (.region false [
    ⟨some 12, .fld 1, [(.t 2)], [], none⟩,
    ⟨some 13, .load ⟨false, [.int .u8]⟩, [(.t 12)], [0], none⟩,
    ⟨some 14, .mv, [(.t 1)], [], none⟩,
    ⟨some 15, .bin .eql, [(.t 13), (.t 14)], [1, 2], none⟩])
  (.cond (.t 15) (.region false [
    ⟨some 16, .mv, [(.t 5)], [], none⟩,
    ⟨some 17, .bin .add, [(.t 16), (.c (D.int .i64 1))], [0], none⟩,
    ⟨some 5, .mv, [(.t 17)], [1, 0, 1], none⟩]) (.skip)))
  (.seq (.seq (.region false [
    ⟨some 18, .fld 2, [(.t 2)], [], none⟩,
    ⟨some 19, .load ⟨false, [.int .u8]⟩, [(.t 18)], [0], none⟩,
    ⟨some 20, .mv, [(.t 1)], [], none⟩,
    ⟨some 21, .bin .eql, [(.t 19), (.t 20)], [1, 2], none⟩])
  (.cond (.t 21) (.region false [
    ⟨some 22, .mv, [(.t 5)], [], none⟩,
    ⟨some 23, .bin .add, [(.t 22), (.c (D.int .i64 1))], [0], none⟩,
    ⟨some 5, .mv, [(.t 23)], [1, 0, 1], none⟩]) (.skip)))
  (.seq (.region false [
    ⟨some 24, .mv, [(.t 5)], [], none⟩,
    ⟨some 4, .mv, [(.t 24)], [0, 0], none⟩])
  (.ret))))))⟩

/- 51: gatepath/gatepathref44.rank -/
def c_gatepathref44_rank : DFun := ⟨21, 2, [.p], [.p ⟨false, [.int .i64]⟩], [.t 2],
  .seq (.region false [
    ⟨some 2, .mv, [(.c (D.int .i64 0))], [], none⟩])
  (.seq (.region false [
    ⟨some 5, .buildSl 1 5, [(.c (D.int .u8 1)), (.c (D.int .u8 5)), (.c (D.int .u8 3)), (.c (D.int .u8 4)), (.c (D.int .u8 2))], [], none⟩,
    ⟨some 3, .mv, [(.t 5)], [0, 0], none⟩])
  (.seq (.seq (.region false [
    ⟨some 4, .mv, [(.c (D.int .i64 0))], [], none⟩])
  (.block 0 (.loop ⟨[0, 3], [(4, .p ⟨false, [.int .i64]⟩)], [(1, .a 5)]⟩ (.seq (.seq (.region false [
    ⟨some 6, .mv, [(.t 4)], [], none⟩,
    ⟨some 7, .mv, [(.t 3)], [], none⟩,
    ⟨some 8, .len, [(.t 7)], [1], none⟩,
    ⟨some 9, .bin .lss, [(.t 6), (.t 8)], [0, 2], none⟩])
  (.cond (.t 9) (.skip) (.exit 0)))
  (.seq (.block 1 (.seq (.region false [
    ⟨some 12, .mv, [(.t 3)], [], none⟩,
    ⟨some 13, .mv, [(.t 4)], [], none⟩,
    ⟨some 14, .idxA 5, [(.t 12), (.t 13)], [0, 1], none⟩,
    ⟨some 15, .load ⟨false, [.int .u8]⟩, [(.t 14)], [2], none⟩,
    ⟨some 16, .mv, [(.t 0)], [], none⟩,
    ⟨some 17, .bin .eql, [(.t 15), (.t 16)], [3, 4], none⟩])
  (.cond (.t 17) (.seq (.region false [
    ⟨some 18, .mv, [(.t 4)], [], none⟩,
    ⟨some 2, .mv, [(.t 18)], [0, 0], none⟩])
  (.ret)) (.skip))))
  (.region false [
    ⟨some 10, .mv, [(.t 4)], [], none⟩,
    ⟨some 11, .bin .add, [(.t 10), (.c (D.int .i64 1))], [0], none⟩,
    ⟨some 4, .mv, [(.t 11)], [1, 0, 1], none⟩]))))))
  (.seq (.region false [
    ⟨some 19, .mv, [(.t 3)], [], none⟩,
    ⟨some 20, .len, [(.t 19)], [0], none⟩,
    ⟨some 2, .mv, [(.t 20)], [1, 0, 1], none⟩])
  (.ret))))⟩

/- 25: gatepath/gatepathref44.compare -/
def c_gatepathref44_compare : DFun := ⟨109, 24, [.p, .p], [.p ⟨false, [.int .i64]⟩], [.t 4],
  .seq (.region false [
    ⟨some 2, .box 2, [(.t 0)], [], none⟩,
    ⟨some 3, .box 3, [(.t 1)], [], none⟩,
    ⟨some 4, .mv, [(.c (D.int .i64 0))], [], none⟩])
  (.seq (.region true [
    ⟨some 10, .fld 0, [(.t 2)], [], none⟩,
    ⟨some 11, .load ⟨true, [.int .u8, .int .u64, .int .u64, .int .i64, .sl 30, .int .u8, .int .u32, .int .u32, .int .u32, .int .u8, .int .u64, .int .u64, .int .i64, .sl 85]⟩, [(.t 10)], [0], none⟩,
    ⟨some 12, .fld 0, [(.t 3)], [], none⟩,
    ⟨some 13, .load ⟨true, [.int .u8, .int .u64, .int .u64, .int .i64, .sl 30, .int .u8, .int .u32, .int .u32, .int .u32, .int .u8, .int .u64, .int .u64, .int .i64, .sl 85]⟩, [(.t 12)], [2], none⟩,
    ⟨some 5, .alloc 4 [(D.int .u8 0), (D.int .u64 0), (D.int .u64 0), (D.int .i64 0), (D.zs 30 true), (D.int .u8 0), (D.int .u32 0), (D.int .u32 0), (D.int .u32 0), (D.int .u8 0), (D.int .u64 0), (D.int .u64 0), (D.int .i64 0), (D.zs 85 true)], [], [], none⟩,
    ⟨some 6, .alloc 5 [(D.int .u8 0), (D.int .u64 0), (D.int .u64 0), (D.int .i64 0), (D.zs 30 true), (D.int .u8 0), (D.int .u32 0), (D.int .u32 0), (D.int .u32 0), (D.int .u8 0), (D.int .u64 0), (D.int .u64 0), (D.int .i64 0), (D.zs 85 true)], [], [], none⟩,
    ⟨none, .store ⟨true, [.int .u8, .int .u64, .int .u64, .int .i64, .sl 30, .int .u8, .int .u32, .int .u32, .int .u32, .int .u8, .int .u64, .int .u64, .int .i64, .sl 85]⟩, [(.t 5), (.t 11)], [4, 1, 0, 1, 4, 5], none⟩,
    ⟨none, .store ⟨true, [.int .u8, .int .u64, .int .u64, .int .i64, .sl 30, .int .u8, .int .u32, .int .u32, .int .u32, .int .u8, .int .u64, .int .u64, .int .i64, .sl 85]⟩, [(.t 6), (.t 13)], [5, 3, 6, 0, 1, 2, 3, 4, 5, 6], none⟩])
  (.seq (.region true [
    ⟨some 14, .fld 14, [(.t 2)], [], none⟩,
    ⟨some 15, .load ⟨true, [.int .u8, .int .u8, .int .u8]⟩, [(.t 14)], [0], none⟩,
    ⟨some 16, .call [9], [(.c (D.fn 50 [])), (.t 15), (.c (D.int .u8 2))], [1], none⟩,
    ⟨some 17, .fld 14, [(.t 3)], [], none⟩,
    ⟨some 18, .load ⟨true, [.int .u8, .int .u8, .int .u8]⟩, [(.t 17)], [3], none⟩,
    ⟨some 19, .call [10], [(.c (D.fn 50 [])), (.t 18), (.c (D.int .u8 2))], [4, 2], none⟩,
    ⟨some 20, .call [11], [(.c (D.fn 49 [])), (.t 16), (.t 19)], [2, 5, 5], none⟩,
    ⟨some 21, .fld 6, [(.t 6)], [], none⟩,
    ⟨some 22, .load ⟨false, [.int .u32]⟩, [(.t 21)], [7], none⟩,
    ⟨some 23, .conv .i64, [(.t 22)], [8], none⟩,
    ⟨some 24, .fld 6, [(.t 5)], [], none⟩,
    ⟨some 25, .load ⟨false, [.int .u32]⟩, [(.t 24)], [10], none⟩,
    ⟨some 26, .conv .i64, [(.t 25)], [11], none⟩,
    ⟨some 27, .call [12], [(.c (D.fn 49 [])), (.t 23), (.t 26)], [9, 12, 6], none⟩,
    ⟨some 28, .fld 14, [(.t 3)], [], none⟩,
    ⟨some 29, .load ⟨true, [.int .u8, .int .u8, .int .u8]⟩, [(.t 28)], [14], none⟩,
    ⟨some 30, .call [13], [(.c (D.fn 50 [])), (.t 29), (.c (D.int .u8 1))], [15, 13], none⟩,
    ⟨some 31, .fld 14, [(.t 2)], [], none⟩,
    ⟨some 32, .load ⟨true, [.int .u8, .int .u8, .int .u8]⟩, [(.t 31)], [17], none⟩,
    ⟨some 33, .call [14], [(.c (D.fn 50 [])), (.t 32), (.c (D.int .u8 1))], [18, 16], none⟩,
    ⟨some 34, .call [15], [(.c (D.fn 49 [])), (.t 30), (.t 33)], [16, 19, 19], none⟩,
    ⟨some 35, .fld 4, [(.t 5)], [], none⟩,
    ⟨some 36, .load ⟨false, [.sl 30]⟩, [(.t 35)], [21], none⟩,
    ⟨some 37, .len, [(.t 36)], [22], none⟩,
    ⟨some 38, .fld 4, [(.t 6)], [], none⟩,
    ⟨some 39, .load ⟨false, [.sl 30]⟩, [(.t 38)], [24], none⟩,
    ⟨some 40, .len, [(.t 39)], [25], none⟩,
    ⟨some 41, .call [16], [(.c (D.fn 49 [])), (.t 37), (.t 40)], [23, 26, 20], none⟩,
    ⟨some 42, .fld 5, [(.t 5)], [], none⟩,
    ⟨some 43, .load ⟨false, [.int .u8]⟩, [(.t 42)], [28], none⟩,
    ⟨some 44, .call [17], [(.c (D.fn 51 [])), (.t 43)], [29, 27], none⟩,
    ⟨some 45, .fld 5, [(.t 6)], [], none⟩,
    ⟨some 46, .load ⟨false, [.int .u8]⟩, [(.t 45)], [31], none⟩,
    ⟨some 47, .call [18], [(.c (D.fn 51 [])), (.t 46)], [32, 30], none⟩,
    ⟨some 48, .call [19], [(.c (D.fn 49 [])), (.t 44), (.t 47)], [30, 33, 33], none⟩,
    ⟨some 49, .fld 7, [(.t 5)], [], none⟩,
    ⟨some 50, .load ⟨false, [.int .u32]⟩, [(.t 49)], [35], none⟩,
    ⟨some 51, .conv .i64, [(.t 50)], [36], none⟩,
    ⟨some 52, .fld 7, [(.t 6)], [], none⟩,
    ⟨some 53, .load ⟨false, [.int .u32]⟩, [(.t 52)], [38], none⟩,
    ⟨some 54, .conv .i64, [(.t 53)], [39], none⟩,
    ⟨some 55, .call [20], [(.c (D.fn 49 [])), (.t 51), (.t 54)], [37, 40, 34], none⟩,
    ⟨some 56, .fld 8, [(.t 5)], [], none⟩,
    ⟨some 57, .load ⟨false, [.int .u32]⟩, [(.t 56)], [42], none⟩,
    ⟨some 58, .conv .i64, [(.t 57)], [43], none⟩,
    ⟨some 59, .fld 8, [(.t 6)], [], none⟩,
    ⟨some 60, .load ⟨false, [.int .u32]⟩, [(.t 59)], [45], none⟩,
    ⟨some 61, .conv .i64, [(.t 60)], [46], none⟩,
    ⟨some 62, .call [21], [(.c (D.fn 49 [])), (.t 58), (.t 61)], [44, 47, 41], none⟩,
    ⟨some 63, .buildSl 6 3, [(.t 20), (.t 27), (.t 34), (.t 41), (.t 48), (.t 55), (.t 62)], [6, 13, 20, 27, 34, 41, 48], none⟩,
    ⟨some 7, .mv, [(.t 63)], [49, 48, 0, 1, 2, 3, 4, 5, 6, 7, 8, 9, 10, 11, 12, 13, 14, 15, 16, 17, 18, 19, 20, 21, 22, 23, 24, 25, 26, 27, 28, 29, 30, 31, 32, 33, 34, 35, 36, 37, 38, 39, 40, 41, 42, 43, 44, 45, 46, 47, 48, 49], none⟩])
  (.seq (.seq (.region false [
    ⟨some 8, .mv, [(.c (D.int .i64 0))], [], none⟩])
  (.block 0 (.loop ⟨[5, 6], [(7, .o 22 3), (8, .p ⟨false, [.int .i64]⟩)], [(4, .v [.p (.int .u8), .p (.int .u64), .p (.int .u64), .p (.int .i64), .p (.sl 30), .p (.int .u8), .p (.int .u32), .p (.int .u32), .p (.int .u32), .p (.int .u8), .p (.int .u64), .p (.int .u64), .p (.int .i64), .p (.sl 85)]), (5, .v [.p (.int .u8), .p (.int .u64), .p (.int .u64), .p (.int .i64), .p (.sl 30), .p (.int .u8), .p (.int .u32), .p (.int .u32), .p (.int .u32), .p (.int .u8), .p (.int .u64), .p (.int .u64), .p (.int .i64), .p (.sl 85)])]⟩ (.seq (.seq (.region false [
    ⟨some 64, .mv, [(.t 8)], [], none⟩,
    ⟨some 65, .fld 4, [(.t 5)], [], none⟩,
    ⟨some 66, .load ⟨false, [.sl 30]⟩, [(.t 65)], [1], none⟩,
    ⟨some 67, .len, [(.t 66)], [2], none⟩,
    ⟨some 68, .bin .lss, [(.t 64), (.t 67)], [0, 3], none⟩,
    ⟨some 69, .mv, [(.t 68)], [4], none⟩,
    ⟨some 70, .mv, [(.t 8)], [5], some (69, true)⟩,
    ⟨some 71, .fld 4, [(.t 6)], [5], some (69, true)⟩,
    ⟨some 72, .load ⟨false, [.sl 30]⟩, [(.t 71)], [7, 5], some (69, true)⟩,
    ⟨some 73, .len, [(.t 72)], [8, 5], some (69, true)⟩,
    ⟨some 74, .bin .lss, [(.t 70), (.t 73)], [6, 9, 5], some (69, true)⟩,
    ⟨some 75, .pick, [(.t 69), (.t 74), (.c (D.bool false))], [5, 10], none⟩])
  (.cond (.t 75) (.skip) (.exit 0)))
  (.seq (.block 1 (.region true [
    ⟨some 78, .mv, [(.t 7)], [], none⟩,
    ⟨some 79, .fld 4, [(.t 5)], [], none⟩,
    ⟨some 80, .load ⟨false, [.sl 30]⟩, [(.t 79)], [1], none⟩,
    ⟨some 81, .mv, [(.t 8)], [], none⟩,
    ⟨some 82, .idxA 30, [(.t 80), (.t 81)], [2, 3], none⟩,
    ⟨some 83, .load ⟨false, [.int .u32]⟩, [(.t 82)], [4], none⟩,
    ⟨some 84, .conv .i64, [(.t 83)], [5], none⟩,
    ⟨some 85, .fld 4, [(.t 6)], [], none⟩,
    ⟨some 86, .load ⟨false, [.sl 30]⟩, [(.t 85)], [7], none⟩,
    ⟨some 87, .mv, [(.t 8)], [], none⟩,
    ⟨some 88, .idxA 30, [(.t 86), (.t 87)], [8, 9], none⟩,
    ⟨some 89, .load ⟨false, [.int .u32]⟩, [(.t 88)], [10], none⟩,
    ⟨some 90, .conv .i64, [(.t 89)], [11], none⟩,
    ⟨some 91, .call [23], [(.c (D.fn 49 [])), (.t 84), (.t 90)], [6, 12], none⟩,
    ⟨some 92, .buildSl 7 3, [(.t 91)], [13], none⟩,
    ⟨some 93, .append 8 3 8, [(.t 78), (.t 92)], [0, 14, 13], none⟩,
    ⟨some 7, .mv, [(.t 93)], [15, 15, 0, 1, 2, 3, 4, 5, 6, 7, 8, 9, 10, 11, 12, 13, 14, 15], none⟩]))
  (.region false [
    ⟨some 76, .mv, [(.t 8)], [], none⟩,
    ⟨some 77, .bin .add, [(.t 76), (.c (D.int .i64 1))], [0], none⟩,
    ⟨some 8, .mv, [(.t 77)], [1, 0, 1], none⟩]))))))
  (.seq (.seq (.region false [
    ⟨some 9, .mv, [(.c (D.int .i64 0))], [], none⟩])
  (.block 2 (.loop ⟨[7], [(9, .p ⟨false, [.int .i64]⟩)], [(22, .a 3)]⟩ (.seq (.seq (.region false [
    ⟨some 94, .mv, [(.t 9)], [], none⟩,
    ⟨some 95, .mv, [(.t 7)], [], none⟩,
    ⟨some 96, .len, [(.t 95)], [1], none⟩,
    ⟨some 97, .bin .lss, [(.t 94), (.t 96)], [0, 2], none⟩])
  (.cond (.t 97) (.skip) (.exit 2)))
  (.seq (.block 3 (.seq (.region false [
    ⟨some 100, .mv, [(.t 7)], [], none⟩,
    ⟨some 101, .mv, [(.t 9)], [], none⟩,
    ⟨some 102, .idxA 3, [(.t 100), (.t 101)], [0, 1], none⟩,
    ⟨some 103, .load ⟨false, [.int .i64]⟩, [(.t 102)], [2], none⟩,
    ⟨some 104, .bin .neq, [(.t 103), (.c (D.int .i64 0))], [3], none⟩])
  (.cond (.t 104) (.seq (.region false [
    ⟨some 105, .mv, [(.t 7)], [], none⟩,
    ⟨some 106, .mv, [(.t 9)], [], none⟩,
    ⟨some 107, .idxA 3, [(.t 105), (.t 106)], [0, 1], none⟩,
    ⟨some 108, .load ⟨false, [.int .i64]⟩, [(.t 107)], [2], none⟩,
    ⟨some 4, .mv, [(.t 108)], [3, 0, 1, 2, 3], none⟩])
  (.ret)) (.skip))))
  (.region false [
    ⟨some 98, .mv, [(.t 9)], [], none⟩,
    ⟨some 99, .bin .add, [(.t 98), (.c (D.int .i64 1))], [0], none⟩,
    ⟨some 9, .mv, [(.t 99)], [1, 0, 1], none⟩]))))))
  (.seq (.region false [
    ⟨some 4, .mv, [(.c (D.int .i64 0))], [], none⟩])
  (.ret))))))⟩

/- 11: gatepath/gatepathref44.Compare -/
def c_gatepathref44_Compare : DFun := ⟨17, 7, [.p, .p], [.p ⟨false, [.int .i64]⟩, .p ⟨false, [.int .i64]⟩], [.t 4, .t 5],
  .seq (.region false [
    ⟨some 2, .box 2, [(.t 0)], [], none⟩,
    ⟨some 3, .box 3, [(.t 1)], [], none⟩,
    ⟨some 4, .mv, [(.c (D.int .i64 0))], [], none⟩,
    ⟨some 5, .mv, [(.c (D.int .i64 0))], [2], none⟩])
  (.seq (.seq (.region false [
    ⟨some 6, .load ⟨true, [.int .u8, .int .u64, .int .u64, .int .i64, .sl 30, .int .u8, .int .u32, .int .u32, .int .u32, .int .u8, .int .u64, .int .u64, .int .i64, .sl 85, .int .u8, .int .u8, .int .u8]⟩, [(.t 2)], [], none⟩,
    ⟨some 7, .call [4], [(.c (D.fn 13 [])), (.t 6)], [0], none⟩,
    ⟨some 8, .not, [(.t 7)], [1], none⟩,
    ⟨some 9, .mv, [(.t 8)], [2, 1], none⟩,
    ⟨some 10, .load ⟨true, [.int .u8, .int .u64, .int .u64, .int .i64, .sl 30, .int .u8, .int .u32, .int .u32, .int .u32, .int .u8, .int .u64, .int .u64, .int .i64, .sl 85, .int .u8, .int .u8, .int .u8]⟩, [(.t 3)], [3], some (9, false)⟩,
    ⟨some 11, .call [5], [(.c (D.fn 13 [])), (.t 10)], [4, 3, 3], some (9, false)⟩,
    ⟨some 12, .not, [(.t 11)], [5, 3], some (9, false)⟩,
    ⟨some 13, .pick, [(.t 9), (.c (D.bool true)), (.t 12)], [3, 6], none⟩])
  (.cond (.t 13) (.seq (.region false [
    ⟨some 4, .mv, [(.c (D.int .i64 0))], [], none⟩,
    ⟨some 5, .mv, [(.c (D.int .i64 8))], [0, 0], none⟩])
  (.ret)) (.skip)))
  (.seq (.region false [
    ⟨some 14, .load ⟨true, [.int .u8, .int .u64, .int .u64, .int .i64, .sl 30, .int .u8, .int .u32, .int .u32, .int .u32, .int .u8, .int .u64, .int .u64, .int .i64, .sl 85, .int .u8, .int .u8, .int .u8]⟩, [(.t 2)], [], none⟩,
    ⟨some 15, .load ⟨true, [.int .u8, .int .u64, .int .u64, .int .i64, .sl 30, .int .u8, .int .u32, .int .u32, .int .u32, .int .u8, .int .u64, .int .u64, .int .i64, .sl 85, .int .u8, .int .u8, .int .u8]⟩, [(.t 3)], [], none⟩,
    ⟨some 16, .call [6], [(.c (D.fn 25 [])), (.t 14), (.t 15)], [0, 1], none⟩,
    ⟨some 4, .mv, [(.t 16)], [2, 2, 0, 1, 2], none⟩,
    ⟨some 5, .mv, [(.c (D.int .i64 0))], [3, 0, 1, 2, 3], none⟩])
  (.ret)))⟩

/- 3: gatepath/gatepathlaw44.PolicyCompares -/
def c_gatepathlaw44_PolicyCompares : DFun := ⟨67, 16, [.p, .p, .p], [.p ⟨false, [.bool]⟩], [.t 6],
  .seq (.region false [
    ⟨some 3, .box 3, [(.t 0)], [], none⟩,
    ⟨some 4, .box 4, [(.t 1)], [], none⟩,
    ⟨some 5, .box 5, [(.t 2)], [], none⟩,
    ⟨some 6, .mv, [(.c (D.bool false))], [], none⟩])
  (.seq (.seq (.region false [
    ⟨some 15, .fld 0, [(.t 4)], [], none⟩,
    ⟨some 16, .load ⟨true, [.int .u8, .int .u64, .int .u64, .int .i64, .sl 30, .int .u8, .int .u32, .int .u32, .int .u32, .int .u8, .int .u64, .int .u64, .int .i64, .sl 85]⟩, [(.t 15)], [0], none⟩,
    ⟨some 17, .call [6], [(.c (D.fn 7 [])), (.t 16)], [1], none⟩,
    ⟨some 18, .mv, [(.t 17)], [2, 2], none⟩,
    ⟨some 19, .fld 0, [(.t 5)], [3], some (18, false)⟩,
    ⟨some 20, .load ⟨true, [.int .u8, .int .u64, .int .u64, .int .i64, .sl 30, .int .u8, .int .u32, .int .u32, .int .u32, .int .u8, .int .u64, .int .u64, .int .i64, .sl 85]⟩, [(.t 19)], [4, 3], some (18, false)⟩,
    ⟨some 21, .call [7], [(.c (D.fn 7 [])), (.t 20)], [5, 3, 3], some (18, false)⟩,
    ⟨some 22, .pick, [(.t 18), (.c (D.bool true)), (.t 21)], [3, 6], none⟩])
  (.cond (.t 22) (.seq (.region false [
    ⟨some 6, .mv, [(.c (D.bool true))], [], none⟩])
  (.ret)) (.skip)))
  (.seq (.region false [
    ⟨some 24, .load ⟨true, [.int .u8, .int .u8]⟩, [(.t 3)], [], none⟩,
    ⟨some 25, .fld 14, [(.t 4)], [], none⟩,
    ⟨some 26, .load ⟨true, [.int .u8, .int .u8, .int .u8]⟩, [(.t 25)], [1], none⟩,
    ⟨some 27, .call [8, 9], [(.c (D.fn 8 [])), (.t 24), (.t 26)], [0, 2], none⟩,
    ⟨some 23, .mv, [(.t 27)], [3], none⟩,
    ⟨some 28, .ext 0, [(.t 23)], [4], none⟩,
    ⟨some 29, .ext 1, [(.t 23)], [4], none⟩,
    ⟨some 7, .mv, [(.t 28)], [5, 3, 0, 1, 2, 3, 4, 5], none⟩,
    ⟨some 8, .mv, [(.t 29)], [6, 7, 0, 1, 2, 3, 4, 5, 6, 7], none⟩])
  (.seq (.region false [
    ⟨some 31, .load ⟨true, [.int .u8, .int .u8]⟩, [(.t 3)], [], none⟩,
    ⟨some 32, .fld 14, [(.t 4)], [], none⟩,
    ⟨some 33, .load ⟨true, [.int .u8, .int .u8, .int .u8]⟩, [(.t 32)], [1], none⟩,
    ⟨some 34, .call [10, 11], [(.c (D.fn 9 [])), (.t 31), (.t 33)], [0, 2], none⟩,
    ⟨some 30, .mv, [(.t 34)], [3], none⟩,
    ⟨some 35, .ext 0, [(.t 30)], [4], none⟩,
    ⟨some 36, .ext 1, [(.t 30)], [4], none⟩,
    ⟨some 9, .mv, [(.t 35)], [5, 3, 0, 1, 2, 3, 4, 5], none⟩,
    ⟨some 10, .mv, [(.t 36)], [6, 7, 0, 1, 2, 3, 4, 5, 6, 7], none⟩])
  (.seq (.region false [
    ⟨some 38, .load ⟨true, [.int .u8, .int .u64, .int .u64, .int .i64, .sl 30, .int .u8, .int .u32, .int .u32, .int .u32, .int .u8, .int .u64, .int .u64, .int .i64, .sl 85, .int .u8, .int .u8, .int .u8]⟩, [(.t 4)], [], none⟩,
    ⟨some 39, .load ⟨true, [.int .u8, .int .u64, .int .u64, .int .i64, .sl 30, .int .u8, .int .u32, .int .u32, .int .u32, .int .u8, .int .u64, .int .u64, .int .i64, .sl 85, .int .u8, .int .u8, .int .u8]⟩, [(.t 5)], [], none⟩,
    ⟨some 40, .call [12, 13], [(.c (D.fn 10 [])), (.t 38), (.t 39)], [0, 1], none⟩,
    ⟨some 37, .mv, [(.t 40)], [2], none⟩,
    ⟨some 41, .ext 0, [(.t 37)], [3], none⟩,
    ⟨some 42, .ext 1, [(.t 37)], [3], none⟩,
    ⟨some 11, .mv, [(.t 41)], [4, 2, 0, 1, 2, 3, 4], none⟩,
    ⟨some 12, .mv, [(.t 42)], [5, 6, 0, 1, 2, 3, 4, 5, 6], none⟩])
  (.seq (.region false [
    ⟨some 44, .load ⟨true, [.int .u8, .int .u64, .int .u64, .int .i64, .sl 30, .int .u8, .int .u32, .int .u32, .int .u32, .int .u8, .int .u64, .int .u64, .int .i64, .sl 85, .int .u8, .int .u8, .int .u8]⟩, [(.t 4)], [], none⟩,
    ⟨some 45, .load ⟨true, [.int .u8, .int .u64, .int .u64, .int .i64, .sl 30, .int .u8, .int .u32, .int .u32, .int .u32, .int .u8, .int .u64, .int .u64, .int .i64, .sl 85, .int .u8, .int .u8, .int .u8]⟩, [(.t 5)], [], none⟩,
    ⟨some 46, .call [14, 15], [(.c (D.fn 11 [])), (.t 44), (.t 45)], [0, 1], none⟩,
    ⟨some 43, .mv, [(.t 46)], [2], none⟩,
    ⟨some 47, .ext 0, [(.t 43)], [3], none⟩,
    ⟨some 48, .ext 1, [(.t 43)], [3], none⟩,
    ⟨some 13, .mv, [(.t 47)], [4, 2, 0, 1, 2, 3, 4], none⟩,
    ⟨some 14, .mv, [(.t 48)], [5, 6, 0, 1, 2, 3, 4, 5, 6], none⟩])
  (.seq (.region false [
    ⟨some 49, .mv, [(.t 7)], [], none⟩,
    ⟨some 50, .mv, [(.t 9)], [], none⟩,
    ⟨some 51, .eqv false ⟨false, [.bool]⟩, [(.t 49), (.t 50)], [0, 1], none⟩,
    ⟨some 52, .mv, [(.t 51)], [2], none⟩,
    ⟨some 53, .mv, [(.t 8)], [3], some (52, true)⟩,
    ⟨some 54, .mv, [(.t 10)], [3], some (52, true)⟩,
    ⟨some 55, .bin .eql, [(.t 53), (.t 54)], [4, 5, 3], some (52, true)⟩,
    ⟨some 56, .pick, [(.t 52), (.t 55), (.c (D.bool false))], [3, 6], none⟩,
    ⟨some 57, .mv, [(.t 56)], [7, 3], none⟩,
    ⟨some 58, .mv, [(.t 11)], [8], some (57, true)⟩,
    ⟨some 59, .mv, [(.t 13)], [8], some (57, true)⟩,
    ⟨some 60, .bin .eql, [(.t 58), (.t 59)], [9, 10, 8], some (57, true)⟩,
    ⟨some 61, .pick, [(.t 57), (.t 60), (.c (D.bool false))], [8, 11], none⟩,
    ⟨some 62, .mv, [(.t 61)], [12, 8], none⟩,
    ⟨some 63, .mv, [(.t 12)], [13], some (62, true)⟩,
    ⟨some 64, .mv, [(.t 14)], [13], some (62, true)⟩,
    ⟨some 65, .bin .eql, [(.t 63), (.t 64)], [14, 15, 13], some (62, true)⟩,
    ⟨some 66, .pick, [(.t 62), (.t 65), (.c (D.bool false))], [13, 16], none⟩,
    ⟨some 6, .mv, [(.t 66)], [17, 13, 0, 1, 2, 3, 4, 5, 6, 7, 8, 9, 10, 11, 12, 13, 14, 15, 16, 17], none⟩])
  (.ret)))))))⟩

/- 52: gatepath/gatepathlaw44.ten -/
def c_gatepathlaw44_ten : DFun := ⟨3, 1, [], [.p ⟨true, [.int .u8, .int .u64, .int .u64, .int .i64]⟩], [.c 0],
  .seq (.region false [
    ⟨some 0, .alloc 0 [(D.int .u8 0), (D.int .u64 0), (D.int .u64 0), (D.int .i64 0)], [], [], none⟩])
  (.seq (.region false [
    ⟨some 1, .build [(D.int .u64 0), (D.int .u64 0)] [(1, 1)], [(.c (D.int .u64 167772160))], [], none⟩,
    ⟨some 2, .build [(D.int .u8 0), (D.int .u64 0), (D.int .u64 0), (D.int .i64 0)] [(0, 1), (1, 2), (3, 1)], [(.c (D.int .u8 4)), (.t 1), (.c (D.int .i64 8))], [0], none⟩,
    ⟨none, .store ⟨true, [.int .u8, .int .u64, .int .u64, .int .i64]⟩, [(.t 0), (.t 2)], [1, 0, 1], none⟩])
  (.ret))⟩

/- 26: gatepath/gatepathlaw44.some -/
def c_gatepathlaw44_some : DFun := ⟨14, 5, [.p, .p, .p], [.p ⟨true, [.int .u8, .int .u64, .int .u64, .int .i64, .sl 30, .int .u8, .int .u32, .int .u32, .int .u32, .int .u8, .int .u64, .int .u64, .int .i64, .sl 85, .int .u8, .int .u8, .int .u8]⟩], [.c 6],
  .seq (.region false [
    ⟨some 6, .alloc 3 [(D.int .u8 0), (D.int .u64 0), (D.int .u64 0), (D.int .i64 0), (D.zs 30 true), (D.int .u8 0), (D.int .u32 0), (D.int .u32 0), (D.int .u32 0), (D.int .u8 0), (D.int .u64 0), (D.int .u64 0), (D.int .i64 0), (D.zs 85 true), (D.int .u8 0), (D.int .u8 0), (D.int .u8 0)], [], [], none⟩])
  (.seq (.region false [
    ⟨some 7, .call [4], [(.c (D.fn 52 []))], [], none⟩,
    ⟨some 8, .mv, [(.t 2)], [], none⟩,
    ⟨some 9, .mv, [(.t 0)], [], none⟩,
    ⟨some 10, .build [(D.int .u8 0), (D.int .u64 0), (D.int .u64 0), (D.int .i64 0), (D.zs 30 true), (D.int .u8 0), (D.int .u32 0), (D.int .u32 0), (D.int .u32 0), (D.int .u8 0), (D.int .u64 0), (D.int .u64 0), (D.int .i64 0), (D.zs 85 true)] [(0, 4), (4, 1), (5, 1), (6, 1)], [(.t 7), (.t 8), (.c (D.int .u8 1)), (.t 9)], [0, 1, 2], none⟩,
    ⟨some 11, .mv, [(.t 1)], [], none⟩,
    ⟨some 12, .build [(D.int .u8 0), (D.int .u8 0), (D.int .u8 0)] [(0, 1)], [(.t 11)], [4], none⟩,
    ⟨some 13, .build [(D.int .u8 0), (D.int .u64 0), (D.int .u64 0), (D.int .i64 0), (D.zs 30 true), (D.int .u8 0), (D.int .u32 0), (D.int .u32 0), (D.int .u32 0), (D.int .u8 0), (D.int .u64 0), (D.int .u64 0), (D.int .i64 0), (D.zs 85 true), (D.int .u8 0), (D.int .u8 0), (D.int .u8 0)] [(0, 14), (14, 3)], [(.t 10), (.t 12)], [3, 5], none⟩,
    ⟨none, .store ⟨true, [.int .u8, .int .u64, .int .u64, .int .i64, .sl 30, .int .u8, .int .u32, .int .u32, .int .u32, .int .u8, .int .u64, .int .u64, .int .i64, .sl 85, .int .u8, .int .u8, .int .u8]⟩, [(.t 6), (.t 13)], [6, 0, 0, 1, 2, 3, 4, 5, 6], none⟩])
  (.ret))⟩

/- 27: gatepath/gatepathlaw44.first -/
def c_gatepathlaw44_first : DFun := ⟨35, 8, [.p, .p], [.p ⟨false, [.bool]⟩], [.t 4],
  .seq (.region false [
    ⟨some 2, .box 2, [(.t 0)], [], none⟩,
    ⟨some 3, .box 3, [(.t 1)], [], none⟩,
    ⟨some 4, .mv, [(.c (D.bool false))], [], none⟩])
  (.seq (.region false [
    ⟨some 10, .load ⟨true, [.int .u8, .int .u64, .int .u64, .int .i64, .sl 30, .int .u8, .int .u32, .int .u32, .int .u32, .int .u8, .int .u64, .int .u64, .int .i64, .sl 85, .int .u8, .int .u8, .int .u8]⟩, [(.t 2)], [], none⟩,
    ⟨some 11, .load ⟨true, [.int .u8, .int .u64, .int .u64, .int .i64, .sl 30, .int .u8, .int .u32, .int .u32, .int .u32, .int .u8, .int .u64, .int .u64, .int .i64, .sl 85, .int .u8, .int .u8, .int .u8]⟩, [(.t 3)], [], none⟩,
    ⟨some 12, .call [4, 5], [(.c (D.fn 10 [])), (.t 10), (.t 11)], [0, 1], none⟩,
    ⟨some 9, .mv, [(.t 12)], [2], none⟩,
    ⟨some 13, .ext 0, [(.t 9)], [3], none⟩,
    ⟨some 14, .ext 1, [(.t 9)], [3], none⟩,
    ⟨some 5, .mv, [(.t 13)], [4, 2, 0, 1, 2, 3, 4], none⟩,
    ⟨some 6, .mv, [(.t 14)], [5, 6, 0, 1, 2, 3, 4, 5, 6], none⟩])
  (.seq (.region false [
    ⟨some 16, .load ⟨true, [.int .u8, .int .u64, .int .u64, .int .i64, .sl 30, .int .u8, .int .u32, .int .u32, .int .u32, .int .u8, .int .u64, .int .u64, .int .i64, .sl 85, .int .u8, .int .u8, .int .u8]⟩, [(.t 3)], [], none⟩,
    ⟨some 17, .load ⟨true, [.int .u8, .int .u64, .int .u64, .int .i64, .sl 30, .int .u8, .int .u32, .int .u32, .int .u32, .int .u8, .int .u64, .int .u64, .int .i64, .sl 85, .int .u8, .int .u8, .int .u8]⟩, [(.t 2)], [], none⟩,
    ⟨some 18, .call [6, 7], [(.c (D.fn 10 [])), (.t 16), (.t 17)], [0, 1], none⟩,
    ⟨some 15, .mv, [(.t 18)], [2], none⟩,
    ⟨some 19, .ext 0, [(.t 15)], [3], none⟩,
    ⟨some 20, .ext 1, [(.t 15)], [3], none⟩,
    ⟨some 7, .mv, [(.t 19)], [4, 2, 0, 1, 2, 3, 4], none⟩,
    ⟨some 8, .mv, [(.t 20)], [5, 6, 0, 1, 2, 3, 4, 5, 6], none⟩])
  (.seq (.region false [
    ⟨some 21, .mv, [(.t 6)], [], none⟩,
    ⟨some 22, .bin .eql, [(.t 21), (.c (D.int .i64 0))], [0], none⟩,
    ⟨some 23, .mv, [(.t 22)], [1], none⟩,
    ⟨some 24, .mv, [(.t 5)], [2], some (23, true)⟩,
    ⟨some 25, .bin .eql, [(.t 24), (.c (D.int .i64 (-1)))], [3, 2], some (23, true)⟩,
    ⟨some 26, .pick, [(.t 23), (.t 25), (.c (D.bool false))], [2, 4], none⟩,
    ⟨some 27, .mv, [(.t 26)], [5, 2], none⟩,
    ⟨some 28, .mv, [(.t 8)], [6], some (27, true)⟩,
    ⟨some 29, .bin .eql, [(.t 28), (.c (D.int .i64 0))], [7, 6], some (27, true)⟩,
    ⟨some 30, .pick, [(.t 27), (.t 29), (.c (D.bool false))], [6, 8], none⟩,
    ⟨some 31, .mv, [(.t 30)], [9, 6], none⟩,
    ⟨some 32, .mv, [(.t 7)], [10], some (31, true)⟩,
    ⟨some 33, .bin .eql, [(.t 32), (.c (D.int .i64 1))], [11, 10], some (31, true)⟩,
    ⟨some 34, .pick, [(.t 31), (.t 33), (.c (D.bool false))], [10, 12], none⟩,
    ⟨some 4, .mv, [(.t 34)], [13, 10, 0, 1, 2, 3, 4, 5, 6, 7, 8, 9, 10, 11, 12, 13], none⟩])
  (.ret))))⟩

/- 55: slices.IndexFunc[[]gatepath/api.Judged,gatepath/api.Judged] -/
def c_slices_IndexFunc : DFun := ⟨19, 3, [.p, .p], [.p ⟨false, [.int .i64]⟩], [.t 4],
  .seq (.region false [
    ⟨some 4, .mv, [(.c (D.int .i64 0))], [], none⟩])
  (.seq (.seq (.region false [
    ⟨some 6, .mv, [(.t 0)], [], none⟩,
    ⟨some 7, .len, [(.t 6)], [0], none⟩,
    ⟨some 8, .mv, [(.c (D.int .i64 0))], [], none⟩])
  (.block 0 (.loop ⟨[0, 1, 7], [(8, .p ⟨false, [.int .i64]⟩)], []⟩ (.seq (.region false [
    ⟨some 9, .bin .lss, [(.t 8), (.t 7)], [], none⟩])
  (.seq (.cond (.t 9) (.skip) (.exit 0))
  (.seq (.block 1 (.seq (.region false [
    ⟨some 10, .mv, [(.t 8)], [], none⟩,
    ⟨some 5, .mv, [(.t 10)], [0, 0], none⟩])
  (.seq (.region false [
    ⟨some 11, .mv, [(.t 1)], [], none⟩,
    ⟨some 12, .mv, [(.t 0)], [], none⟩,
    ⟨some 13, .mv, [(.t 5)], [], none⟩,
    ⟨some 14, .idxA 39, [(.t 12), (.t 13)], [1, 2], none⟩,
    ⟨some 15, .load ⟨true, [.int .u8, .int .u64, .int .u64, .int .i64, .sl 30, .int .u8, .int .u32, .int .u32, .int .u32, .int .u8, .int .u64, .int .u64, .int .i64, .sl 85, .int .u8, .int .u8, .int .u8]⟩, [(.t 14)], [3], none⟩,
    ⟨some 16, .call [2], [(.t 11), (.t 15)], [0, 4], none⟩])
  (.cond (.t 16) (.seq (.region false [
    ⟨some 17, .mv, [(.t 5)], [], none⟩,
    ⟨some 4, .mv, [(.t 17)], [0, 0], none⟩])
  (.ret)) (.skip)))))
  (.region false [
    ⟨some 18, .bin .add, [(.t 8), (.c (D.int .i64 1))], [], none⟩,
    ⟨some 8, .mv, [(.t 18)], [0], none⟩])))))))
  (.seq (.region false [
    ⟨some 4, .mv, [(.c (D.int .i64 (-1)))], [], none⟩])
  (.ret)))⟩

/- 30: slices.ContainsFunc[[]gatepath/api.Judged,gatepath/api.Judged] -/
def c_slices_ContainsFunc : DFun := ⟨9, 3, [.p, .p], [.p ⟨false, [.bool]⟩], [.t 4],
  .seq (.region false [
    ⟨some 4, .mv, [(.c (D.bool false))], [], none⟩])
  (.seq (.region false [
    ⟨some 5, .mv, [(.t 0)], [], none⟩,
    ⟨some 6, .mv, [(.t 1)], [], none⟩,
    ⟨some 7, .call [2], [(.c (D.fn 55 [])), (.t 5), (.t 6)], [0, 1], none⟩,
    ⟨some 8, .bin .geq, [(.t 7), (.c (D.int .i64 0))], [2], none⟩,
    ⟨some 4, .mv, [(.t 8)], [3, 2, 0, 1, 2, 3], none⟩])
  (.ret))⟩

/- 56: gatepath/policy.check$1 -/
def c_policy_check_1 : DFun := ⟨6, 3, [.p], [.p ⟨false, [.bool]⟩], [.t 2],
  .seq (.region false [
    ⟨some 1, .box 1, [(.t 0)], [], none⟩,
    ⟨some 2, .mv, [(.c (D.bool false))], [], none⟩])
  (.seq (.region false [
    ⟨some 3, .load ⟨true, [.int .u8, .int .u64, .int .u64, .int .i64, .sl 30, .int .u8, .int .u32, .int .u32, .int .u32, .int .u8, .int .u64, .int .u64, .int .i64, .sl 85, .int .u8, .int .u8, .int .u8]⟩, [(.t 1)], [], none⟩,
    ⟨some 4, .call [2], [(.c (D.fn 23 [])), (.t 3)], [0], none⟩,
    ⟨some 5, .not, [(.t 4)], [1], none⟩,
    ⟨some 2, .mv, [(.t 5)], [2, 1, 0, 1, 2], none⟩])
  (.ret))⟩

/- 32: gatepath/policy.check -/
def c_policy_check : DFun := ⟨21, 4, [.p, .p], [.p ⟨false, [.int .i64]⟩], [.t 4],
  .seq (.region false [
    ⟨some 2, .box 2, [(.t 0)], [], none⟩,
    ⟨some 4, .mv, [(.c (D.int .i64 0))], [], none⟩])
  (.seq (.block 0 (.seq (.region false [
    ⟨some 6, .fld 0, [(.t 2)], [], none⟩,
    ⟨some 7, .load ⟨false, [.int .u8]⟩, [(.t 6)], [0], none⟩,
    ⟨some 8, .bin .gtr, [(.t 7), (.c (D.int .u8 7))], [1], none⟩,
    ⟨some 9, .mv, [(.t 8)], [2], none⟩,
    ⟨some 10, .fld 1, [(.t 2)], [3], some (9, false)⟩,
    ⟨some 11, .load ⟨false, [.int .u8]⟩, [(.t 10)], [4, 3], some (9, false)⟩,
    ⟨some 12, .bin .gtr, [(.t 11), (.c (D.int .u8 7))], [5, 3], some (9, false)⟩,
    ⟨some 13, .pick, [(.t 9), (.c (D.bool true)), (.t 12)], [3, 6], none⟩,
    ⟨some 5, .mv, [(.t 13)], [7, 3], none⟩])
  (.cond (.t 5) (.seq (.region false [
    ⟨some 4, .mv, [(.c (D.int .i64 8))], [], none⟩])
  (.ret)) (.seq (.region false [
    ⟨some 15, .mv, [(.t 1)], [], none⟩,
    ⟨some 16, .len, [(.t 15)], [0], none⟩,
    ⟨some 17, .bin .gtr, [(.t 16), (.c (D.int .i64 500))], [1], none⟩,
    ⟨some 14, .mv, [(.t 17)], [2], none⟩])
  (.cond (.t 14) (.seq (.region false [
    ⟨some 4, .mv, [(.c (D.int .i64 4))], [], none⟩])
  (.ret)) (.seq (.region false [
    ⟨some 19, .mv, [(.t 1)], [], none⟩,
    ⟨some 20, .call [3], [(.c (D.fn 30 [])), (.t 19), (.c (D.fn 56 []))], [0], none⟩,
    ⟨some 18, .mv, [(.t 20)], [1, 1], none⟩])
  (.cond (.t 18) (.seq (.region false [
    ⟨some 4, .mv, [(.c (D.int .i64 8))], [], none⟩])
  (.ret)) (.skip))))))))
  (.seq (.region false [
    ⟨some 4, .mv, [(.c (D.int .i64 0))], [], none⟩])
  (.ret)))⟩

/- 65: slices.insertionSortCmpFunc[int] -/
def c_slices_insertionSortCmpFunc : DFun := ⟨53, 5, [.m 3, .p, .p, .p], [], [],
  .seq (.region false [
    ⟨some 10, .mv, [(.t 1)], [], none⟩,
    ⟨some 11, .bin .add, [(.t 10), (.c (D.int .i64 1))], [0], none⟩,
    ⟨some 8, .mv, [(.t 11)], [1, 0, 1], none⟩])
  (.block 0 (.loop ⟨[0, 1, 2, 3], [(8, .p ⟨false, [.int .i64]⟩)], [(0, .a 3)]⟩ (.seq (.seq (.region false [
    ⟨some 12, .mv, [(.t 8)], [], none⟩,
    ⟨some 13, .mv, [(.t 2)], [], none⟩,
    ⟨some 14, .bin .lss, [(.t 12), (.t 13)], [0, 1], none⟩])
  (.cond (.t 14) (.skip) (.exit 0)))
  (.seq (.block 1 (.seq (.region false [
    ⟨some 17, .mv, [(.t 8)], [], none⟩,
    ⟨some 9, .mv, [(.t 17)], [0, 0], none⟩])
  (.block 2 (.loop ⟨[0, 1, 2, 3, 8], [(9, .p ⟨false, [.int .i64]⟩)], [(0, .a 3)]⟩ (.seq (.seq (.region true [
    ⟨some 18, .mv, [(.t 9)], [], none⟩,
    ⟨some 19, .mv, [(.t 1)], [], none⟩,
    ⟨some 20, .bin .gtr, [(.t 18), (.t 19)], [0, 1], none⟩,
    ⟨some 21, .mv, [(.t 20)], [2], none⟩,
    ⟨some 22, .mv, [(.t 3)], [3], some (21, true)⟩,
    ⟨some 23, .mv, [(.t 0)], [3], some (21, true)⟩,
    ⟨some 24, .mv, [(.t 9)], [3], some (21, true)⟩,
    ⟨some 25, .idxA 3, [(.t 23), (.t 24)], [5, 6, 3], some (21, true)⟩,
    ⟨some 26, .load ⟨false, [.int .i64]⟩, [(.t 25)], [7, 3], some (21, true)⟩,
    ⟨some 27, .mv, [(.t 0)], [3], some (21, true)⟩,
    ⟨some 28, .mv, [(.t 9)], [3], some (21, true)⟩,
    ⟨some 29, .bin .sub, [(.t 28), (.c (D.int .i64 1))], [10, 3], some (21, true)⟩,
    ⟨some 30, .idxA 3, [(.t 27), (.t 29)], [9, 11, 3], some (21, true)⟩,
    ⟨some 31, .load ⟨false, [.int .i64]⟩, [(.t 30)], [12, 3], some (21, true)⟩,
    ⟨some 32, .call [4], [(.t 22), (.t 26), (.t 31)], [4, 8, 13, 3, 3], some (21, true)⟩,
    ⟨some 33, .bin .lss, [(.t 32), (.c (D.int .i64 0))], [14, 3], some (21, true)⟩,
    ⟨some 34, .pick, [(.t 21), (.t 33), (.c (D.bool false))], [3, 15], none⟩])
  (.cond (.t 34) (.skip) (.exit 2)))
  (.seq (.block 3 (.region true [
    ⟨some 37, .mv, [(.t 0)], [], none⟩,
    ⟨some 38, .mv, [(.t 9)], [], none⟩,
    ⟨some 39, .mv, [(.t 0)], [], none⟩,
    ⟨some 40, .mv, [(.t 9)], [], none⟩,
    ⟨some 41, .bin .sub, [(.t 40), (.c (D.int .i64 1))], [3], none⟩,
    ⟨some 42, .mv, [(.t 0)], [], none⟩,
    ⟨some 43, .mv, [(.t 9)], [], none⟩,
    ⟨some 44, .bin .sub, [(.t 43), (.c (D.int .i64 1))], [6], none⟩,
    ⟨some 45, .idxA 3, [(.t 42), (.t 44)], [5, 7], none⟩,
    ⟨some 46, .load ⟨false, [.int .i64]⟩, [(.t 45)], [8], none⟩,
    ⟨some 47, .mv, [(.t 0)], [], none⟩,
    ⟨some 48, .mv, [(.t 9)], [], none⟩,
    ⟨some 49, .idxA 3, [(.t 47), (.t 48)], [10, 11], none⟩,
    ⟨some 50, .load ⟨false, [.int .i64]⟩, [(.t 49)], [12], none⟩,
    ⟨some 51, .idxA 3, [(.t 37), (.t 38)], [0, 1, 0, 1, 5, 6, 7, 8, 9, 13], none⟩,
    ⟨none, .store ⟨false, [.int .i64]⟩, [(.t 51), (.t 46)], [14, 9, 0, 1, 5, 6, 7, 8, 9, 13], none⟩,
    ⟨some 52, .idxA 3, [(.t 39), (.t 41)], [2, 4, 0, 1, 2, 3, 4, 5, 6, 7, 8, 9, 10, 11, 12, 13, 14, 15], none⟩,
    ⟨none, .store ⟨false, [.int .i64]⟩, [(.t 52), (.t 50)], [16, 13, 15, 0, 1, 2, 3, 4, 5, 6, 7, 8, 9, 10, 11, 12, 13, 14, 15], none⟩]))
  (.region false [
    ⟨some 35, .mv, [(.t 9)], [], none⟩,
    ⟨some 36, .bin .sub, [(.t 35), (.c (D.int .i64 1))], [0], none⟩,
    ⟨some 9, .mv, [(.t 36)], [1, 0, 1], none⟩])))))))
  (.region false [
    ⟨some 15, .mv, [(.t 8)], [], none⟩,
    ⟨some 16, .bin .add, [(.t 15), (.c (D.int .i64 1))], [0], none⟩,
    ⟨some 8, .mv, [(.t 16)], [1, 0, 1], none⟩])))))⟩

/- 76: slices.swapRangeCmpFunc[int] -/
def c_slices_swapRangeCmpFunc : DFun := ⟨38, 5, [.m 3, .p, .p, .p, .p], [], [],
  .seq (.region false [
    ⟨some 10, .mv, [(.c (D.int .i64 0))], [], none⟩])
  (.block 0 (.loop ⟨[0, 1, 2, 3], [(10, .p ⟨false, [.int .i64]⟩)], [(0, .a 3)]⟩ (.seq (.seq (.region false [
    ⟨some 11, .mv, [(.t 10)], [], none⟩,
    ⟨some 12, .mv, [(.t 3)], [], none⟩,
    ⟨some 13, .bin .lss, [(.t 11), (.t 12)], [0, 1], none⟩])
  (.cond (.t 13) (.skip) (.exit 0)))
  (.seq (.block 1 (.region true [
    ⟨some 16, .mv, [(.t 0)], [], none⟩,
    ⟨some 17, .mv, [(.t 1)], [], none⟩,
    ⟨some 18, .mv, [(.t 10)], [], none⟩,
    ⟨some 19, .bin .add, [(.t 17), (.t 18)], [1, 2], none⟩,
    ⟨some 20, .mv, [(.t 0)], [], none⟩,
    ⟨some 21, .mv, [(.t 2)], [], none⟩,
    ⟨some 22, .mv, [(.t 10)], [], none⟩,
    ⟨some 23, .bin .add, [(.t 21), (.t 22)], [5, 6], none⟩,
    ⟨some 24, .mv, [(.t 0)], [], none⟩,
    ⟨some 25, .mv, [(.t 2)], [], none⟩,
    ⟨some 26, .mv, [(.t 10)], [], none⟩,
    ⟨some 27, .bin .add, [(.t 25), (.t 26)], [9, 10], none⟩,
    ⟨some 28, .idxA 3, [(.t 24), (.t 27)], [8, 11], none⟩,
    ⟨some 29, .load ⟨false, [.int .i64]⟩, [(.t 28)], [12], none⟩,
    ⟨some 30, .mv, [(.t 0)], [], none⟩,
    ⟨some 31, .mv, [(.t 1)], [], none⟩,
    ⟨some 32, .mv, [(.t 10)], [], none⟩,
    ⟨some 33, .bin .add, [(.t 31), (.t 32)], [15, 16], none⟩,
    ⟨some 34, .idxA 3, [(.t 30), (.t 33)], [14, 17], none⟩,
    ⟨some 35, .load ⟨false, [.int .i64]⟩, [(.t 34)], [18], none⟩,
    ⟨some 36, .idxA 3, [(.t 16), (.t 19)], [0, 3, 0, 1, 2, 3, 8, 9, 10, 11, 12, 13, 19], none⟩,
    ⟨none, .store ⟨false, [.int .i64]⟩, [(.t 36), (.t 29)], [20, 13, 0, 1, 2, 3, 8, 9, 10, 11, 12, 13, 19], none⟩,
    ⟨some 37, .idxA 3, [(.t 20), (.t 23)], [4, 7, 0, 1, 2, 3, 4, 5, 6, 7, 8, 9, 10, 11, 12, 13, 14, 15, 16, 17, 18, 19, 20, 21], none⟩,
    ⟨none, .store ⟨false, [.int .i64]⟩, [(.t 37), (.t 35)], [22, 19, 21, 0, 1, 2, 3, 4, 5, 6, 7, 8, 9, 10, 11, 12, 13, 14, 15, 16, 17, 18, 19, 20, 21], none⟩]))
  (.region false [
    ⟨some 14, .mv, [(.t 10)], [], none⟩,
    ⟨some 15, .bin .add, [(.t 14), (.c (D.int .i64 1))], [0], none⟩,
    ⟨some 10, .mv, [(.t 15)], [1, 0, 1], none⟩])))))⟩

/- 74: slices.rotateCmpFunc[int] -/
def c_slices_rotateCmpFunc : DFun := ⟨58, 5, [.m 3, .p, .p, .p, .p], [], [],
  .seq (.region false [
    ⟨some 12, .mv, [(.t 2)], [], none⟩,
    ⟨some 13, .mv, [(.t 1)], [], none⟩,
    ⟨some 14, .bin .sub, [(.t 12), (.t 13)], [0, 1], none⟩,
    ⟨some 10, .mv, [(.t 14)], [2, 0, 1, 2], none⟩])
  (.seq (.region false [
    ⟨some 15, .mv, [(.t 3)], [], none⟩,
    ⟨some 16, .mv, [(.t 2)], [], none⟩,
    ⟨some 17, .bin .sub, [(.t 15), (.t 16)], [0, 1], none⟩,
    ⟨some 11, .mv, [(.t 17)], [2, 0, 1, 2], none⟩])
  (.seq (.block 0 (.loop ⟨[0, 2, 4], [(10, .p ⟨false, [.int .i64]⟩), (11, .p ⟨false, [.int .i64]⟩)], [(0, .a 3)]⟩ (.seq (.seq (.region false [
    ⟨some 18, .mv, [(.t 10)], [], none⟩,
    ⟨some 19, .mv, [(.t 11)], [], none⟩,
    ⟨some 20, .bin .neq, [(.t 18), (.t 19)], [0, 1], none⟩])
  (.cond (.t 20) (.skip) (.exit 0)))
  (.block 1 (.seq (.region false [
    ⟨some 21, .mv, [(.t 10)], [], none⟩,
    ⟨some 22, .mv, [(.t 11)], [], none⟩,
    ⟨some 23, .bin .gtr, [(.t 21), (.t 22)], [0, 1], none⟩])
  (.cond (.t 23) (.seq (.region false [
    ⟨some 24, .mv, [(.t 0)], [], none⟩,
    ⟨some 25, .mv, [(.t 2)], [], none⟩,
    ⟨some 26, .mv, [(.t 10)], [], none⟩,
    ⟨some 27, .bin .sub, [(.t 25), (.t 26)], [1, 2], none⟩,
    ⟨some 28, .mv, [(.t 2)], [], none⟩,
    ⟨some 29, .mv, [(.t 11)], [], none⟩,
    ⟨some 30, .mv, [(.t 4)], [], none⟩,
    ⟨some 31, .call [], [(.c (D.fn 76 [])), (.t 24), (.t 27), (.t 28), (.t 29), (.t 30)], [0, 3, 4, 5, 6], none⟩])
  (.region false [
    ⟨some 32, .mv, [(.t 10)], [], none⟩,
    ⟨some 33, .mv, [(.t 11)], [], none⟩,
    ⟨some 34, .bin .sub, [(.t 32), (.t 33)], [0, 1], none⟩,
    ⟨some 10, .mv, [(.t 34)], [2, 0, 1, 2], none⟩])) (.seq (.region false [
    ⟨some 35, .mv, [(.t 0)], [], none⟩,
    ⟨some 36, .mv, [(.t 2)], [], none⟩,
    ⟨some 37, .mv, [(.t 10)], [], none⟩,
    ⟨some 38, .bin .sub, [(.t 36), (.t 37)], [1, 2], none⟩,
    ⟨some 39, .mv, [(.t 2)], [], none⟩,
    ⟨some 40, .mv, [(.t 11)], [], none⟩,
    ⟨some 41, .bin .add, [(.t 39), (.t 40)], [4, 5], none⟩,
    ⟨some 42, .mv, [(.t 10)], [], none⟩,
    ⟨some 43, .bin .sub, [(.t 41), (.t 42)], [6, 7], none⟩,
    ⟨some 44, .mv, [(.t 10)], [], none⟩,
    ⟨some 45, .mv, [(.t 4)], [], none⟩,
    ⟨some 46, .call [], [(.c (D.fn 76 [])), (.t 35), (.t 38), (.t 43), (.t 44), (.t 45)], [0, 3, 8, 9, 10], none⟩])
  (.region false [
    ⟨some 47, .mv, [(.t 11)], [], none⟩,
    ⟨some 48, .mv, [(.t 10)], [], none⟩,
    ⟨some 49, .bin .sub, [(.t 47), (.t 48)], [0, 1], none⟩,
    ⟨some 11, .mv, [(.t 49)], [2, 0, 1, 2], none⟩]))))))))
  (.region false [
    ⟨some 50, .mv, [(.t 0)], [], none⟩,
    ⟨some 51, .mv, [(.t 2)], [], none⟩,
    ⟨some 52, .mv, [(.t 10)], [], none⟩,
    ⟨some 53, .bin .sub, [(.t 51), (.t 52)], [1, 2], none⟩,
    ⟨some 54, .mv, [(.t 2)], [], none⟩,
    ⟨some 55, .mv, [(.t 10)], [], none⟩,
    ⟨some 56, .mv, [(.t 4)], [], none⟩,
    ⟨some 57, .call [], [(.c (D.fn 76 [])), (.t 50), (.t 53), (.t 54), (.t 55), (.t 56)], [0, 3, 4, 5, 6], none⟩])))⟩

/- 66: slices.symMergeCmpFunc[int] -/
def c_slices_symMergeCmpFunc : DFun := ⟨220, 8, [.m 3, .p, .p, .p, .p], [], [],
  .seq (.seq (.region false [
    ⟨some 25, .mv, [(.t 2)], [], none⟩,
    ⟨some 26, .mv, [(.t 1)], [], none⟩,
    ⟨some 27, .bin .sub, [(.t 25), (.t 26)], [0, 1], none⟩,
    ⟨some 28, .bin .eql, [(.t 27), (.c (D.int .i64 1))], [2], none⟩])
  (.cond (.t 28) (.seq (.region false [
    ⟨some 29, .mv, [(.t 2)], [], none⟩,
    ⟨some 10, .mv, [(.t 29)], [0, 0], none⟩])
  (.seq (.region false [
    ⟨some 30, .mv, [(.t 3)], [], none⟩,
    ⟨some 11, .mv, [(.t 30)], [0, 0], none⟩])
  (.seq (.block 0 (.loop ⟨[0, 1, 4], [(10, .p ⟨false, [.int .i64]⟩), (11, .p ⟨false, [.int .i64]⟩)], [(0, .a 3)]⟩ (.seq (.seq (.region false [
    ⟨some 31, .mv, [(.t 10)], [], none⟩,
    ⟨some 32, .mv, [(.t 11)], [], none⟩,
    ⟨some 33, .bin .lss, [(.t 31), (.t 32)], [0, 1], none⟩])
  (.cond (.t 33) (.skip) (.exit 0)))
  (.block 1 (.seq (.region false [
    ⟨some 34, .mv, [(.t 10)], [], none⟩,
    ⟨some 35, .mv, [(.t 11)], [], none⟩,
    ⟨some 36, .bin .add, [(.t 34), (.t 35)], [0, 1], none⟩,
    ⟨some 37, .conv .u64, [(.t 36)], [2], none⟩,
    ⟨some 38, .bin .shr, [(.t 37), (.c (D.int .u64 1))], [3], none⟩,
    ⟨some 39, .conv .i64, [(.t 38)], [4], none⟩,
    ⟨some 12, .mv, [(.t 39)], [5, 0, 1, 2, 3, 4, 5], none⟩])
  (.seq (.region true [
    ⟨some 40, .mv, [(.t 4)], [], none⟩,
    ⟨some 41, .mv, [(.t 0)], [], none⟩,
    ⟨some 42, .mv, [(.t 12)], [], none⟩,
    ⟨some 43, .idxA 3, [(.t 41), (.t 42)], [1, 2], none⟩,
    ⟨some 44, .load ⟨false, [.int .i64]⟩, [(.t 43)], [3], none⟩,
    ⟨some 45, .mv, [(.t 0)], [], none⟩,
    ⟨some 46, .mv, [(.t 1)], [], none⟩,
    ⟨some 47, .idxA 3, [(.t 45), (.t 46)], [5, 6], none⟩,
    ⟨some 48, .load ⟨false, [.int .i64]⟩, [(.t 47)], [7], none⟩,
    ⟨some 49, .call [5], [(.t 40), (.t 44), (.t 48)], [0, 4, 8], none⟩,
    ⟨some 50, .bin .lss, [(.t 49), (.c (D.int .i64 0))], [9], none⟩])
  (.cond (.t 50) (.region false [
    ⟨some 51, .mv, [(.t 12)], [], none⟩,
    ⟨some 52, .bin .add, [(.t 51), (.c (D.int .i64 1))], [0], none⟩,
    ⟨some 10, .mv, [(.t 52)], [1, 0, 1], none⟩]) (.region false [
    ⟨some 53, .mv, [(.t 12)], [], none⟩,
    ⟨some 11, .mv, [(.t 53)], [0, 0], none⟩]))))))))
  (.seq (.seq (.region false [
    ⟨some 54, .mv, [(.t 1)], [], none⟩,
    ⟨some 13, .mv, [(.t 54)], [0, 0], none⟩])
  (.block 2 (.loop ⟨[0, 10], [(13, .p ⟨false, [.int .i64]⟩)], [(0, .a 3)]⟩ (.seq (.seq (.region false [
    ⟨some 55, .mv, [(.t 13)], [], none⟩,
    ⟨some 56, .mv, [(.t 10)], [], none⟩,
    ⟨some 57, .bin .sub, [(.t 56), (.c (D.int .i64 1))], [1], none⟩,
    ⟨some 58, .bin .lss, [(.t 55), (.t 57)], [0, 2], none⟩])
  (.cond (.t 58) (.skip) (.exit 2)))
  (.seq (.block 3 (.region true [
    ⟨some 61, .mv, [(.t 0)], [], none⟩,
    ⟨some 62, .mv, [(.t 13)], [], none⟩,
    ⟨some 63, .mv, [(.t 0)], [], none⟩,
    ⟨some 64, .mv, [(.t 13)], [], none⟩,
    ⟨some 65, .bin .add, [(.t 64), (.c (D.int .i64 1))], [3], none⟩,
    ⟨some 66, .mv, [(.t 0)], [], none⟩,
    ⟨some 67, .mv, [(.t 13)], [], none⟩,
    ⟨some 68, .bin .add, [(.t 67), (.c (D.int .i64 1))], [6], none⟩,
    ⟨some 69, .idxA 3, [(.t 66), (.t 68)], [5, 7], none⟩,
    ⟨some 70, .load ⟨false, [.int .i64]⟩, [(.t 69)], [8], none⟩,
    ⟨some 71, .mv, [(.t 0)], [], none⟩,
    ⟨some 72, .mv, [(.t 13)], [], none⟩,
    ⟨some 73, .idxA 3, [(.t 71), (.t 72)], [10, 11], none⟩,
    ⟨some 74, .load ⟨false, [.int .i64]⟩, [(.t 73)], [12], none⟩,
    ⟨some 75, .idxA 3, [(.t 61), (.t 62)], [0, 1, 0, 1, 5, 6, 7, 8, 9, 13], none⟩,
    ⟨none, .store ⟨false, [.int .i64]⟩, [(.t 75), (.t 70)], [14, 9, 0, 1, 5, 6, 7, 8, 9, 13], none⟩,
    ⟨some 76, .idxA 3, [(.t 63), (.t 65)], [2, 4, 0, 1, 2, 3, 4, 5, 6, 7, 8, 9, 10, 11, 12, 13, 14, 15], none⟩,
    ⟨none, .store ⟨false, [.int .i64]⟩, [(.t 76), (.t 74)], [16, 13, 15, 0, 1, 2, 3, 4, 5, 6, 7, 8, 9, 10, 11, 12, 13, 14, 15], none⟩]))
  (.region false [
    ⟨some 59, .mv, [(.t 13)], [], none⟩,
    ⟨some 60, .bin .add, [(.t 59), (.c (D.int .i64 1))], [0], none⟩,
    ⟨some 13, .mv, [(.t 60)], [1, 0, 1], none⟩]))))))
  (.ret))))) (.skip)))
  (.seq (.seq (.region false [
    ⟨some 77, .mv, [(.t 3)], [], none⟩,
    ⟨some 78, .mv, [(.t 2)], [], none⟩,
    ⟨some 79, .bin .sub, [(.t 77), (.t 78)], [0, 1], none⟩,
    ⟨some 80, .bin .eql, [(.t 79), (.c (D.int .i64 1))], [2], none⟩])
  (.cond (.t 80) (.seq (.region false [
    ⟨some 81, .mv, [(.t 1)], [], none⟩,
    ⟨some 14, .mv, [(.t 81)], [0, 0], none⟩])
  (.seq (.region false [
    ⟨some 82, .mv, [(.t 2)], [], none⟩,
    ⟨some 15, .mv, [(.t 82)], [0, 0], none⟩])
  (.seq (.block 4 (.loop ⟨[0, 2, 4], [(14, .p ⟨false, [.int .i64]⟩), (15, .p ⟨false, [.int .i64]⟩)], [(0, .a 3)]⟩ (.seq (.seq (.region false [
    ⟨some 83, .mv, [(.t 14)], [], none⟩,
    ⟨some 84, .mv, [(.t 15)], [], none⟩,
    ⟨some 85, .bin .lss, [(.t 83), (.t 84)], [0, 1], none⟩])
  (.cond (.t 85) (.skip) (.exit 4)))
  (.block 5 (.seq (.region false [
    ⟨some 86, .mv, [(.t 14)], [], none⟩,
    ⟨some 87, .mv, [(.t 15)], [], none⟩,
    ⟨some 88, .bin .add, [(.t 86), (.t 87)], [0, 1], none⟩,
    ⟨some 89, .conv .u64, [(.t 88)], [2], none⟩,
    ⟨some 90, .bin .shr, [(.t 89), (.c (D.int .u64 1))], [3], none⟩,
    ⟨some 91, .conv .i64, [(.t 90)], [4], none⟩,
    ⟨some 16, .mv, [(.t 91)], [5, 0, 1, 2, 3, 4, 5], none⟩])
  (.seq (.region true [
    ⟨some 92, .mv, [(.t 4)], [], none⟩,
    ⟨some 93, .mv, [(.t 0)], [], none⟩,
    ⟨some 94, .mv, [(.t 2)], [], none⟩,
    ⟨some 95, .idxA 3, [(.t 93), (.t 94)], [1, 2], none⟩,
    ⟨some 96, .load ⟨false, [.int .i64]⟩, [(.t 95)], [3], none⟩,
    ⟨some 97, .mv, [(.t 0)], [], none⟩,
    ⟨some 98, .mv, [(.t 16)], [], none⟩,
    ⟨some 99, .idxA 3, [(.t 97), (.t 98)], [5, 6], none⟩,
    ⟨some 100, .load ⟨false, [.int .i64]⟩, [(.t 99)], [7], none⟩,
    ⟨some 101, .call [6], [(.t 92), (.t 96), (.t 100)], [0, 4, 8], none⟩,
    ⟨some 102, .bin .lss, [(.t 101), (.c (D.int .i64 0))], [9], none⟩,
    ⟨some 103, .not, [(.t 102)], [10], none⟩])
  (.cond (.t 103) (.region false [
    ⟨some 104, .mv, [(.t 16)], [], none⟩,
    ⟨some 105, .bin .add, [(.t 104), (.c (D.int .i64 1))], [0], none⟩,
    ⟨some 14, .mv, [(.t 105)], [1, 0, 1], none⟩]) (.region false [
    ⟨some 106, .mv, [(.t 16)], [], none⟩,
    ⟨some 15, .mv, [(.t 106)], [0, 0], none⟩]))))))))
  (.seq (.seq (.region false [
    ⟨some 107, .mv, [(.t 2)], [], none⟩,
    ⟨some 17, .mv, [(.t 107)], [0, 0], none⟩])
  (.block 6 (.loop ⟨[0, 14], [(17, .p ⟨false, [.int .i64]⟩)], [(0, .a 3)]⟩ (.seq (.seq (.region false [
    ⟨some 108, .mv, [(.t 17)], [], none⟩,
    ⟨some 109, .mv, [(.t 14)], [], none⟩,
    ⟨some 110, .bin .gtr, [(.t 108), (.t 109)], [0, 1], none⟩])
  (.cond (.t 110) (.skip) (.exit 6)))
  (.seq (.block 7 (.region true [
    ⟨some 113, .mv, [(.t 0)], [], none⟩,
    ⟨some 114, .mv, [(.t 17)], [], none⟩,
    ⟨some 115, .mv, [(.t 0)], [], none⟩,
    ⟨some 116, .mv, [(.t 17)], [], none⟩,
    ⟨some 117, .bin .sub, [(.t 116), (.c (D.int .i64 1))], [3], none⟩,
    ⟨some 118, .mv, [(.t 0)], [], none⟩,
    ⟨some 119, .mv, [(.t 17)], [], none⟩,
    ⟨some 120, .bin .sub, [(.t 119), (.c (D.int .i64 1))], [6], none⟩,
    ⟨some 121, .idxA 3, [(.t 118), (.t 120)], [5, 7], none⟩,
    ⟨some 122, .load ⟨false, [.int .i64]⟩, [(.t 121)], [8], none⟩,
    ⟨some 123, .mv, [(.t 0)], [], none⟩,
    ⟨some 124, .mv, [(.t 17)], [], none⟩,
    ⟨some 125, .idxA 3, [(.t 123), (.t 124)], [10, 11], none⟩,
    ⟨some 126, .load ⟨false, [.int .i64]⟩, [(.t 125)], [12], none⟩,
    ⟨some 127, .idxA 3, [(.t 113), (.t 114)], [0, 1, 0, 1, 5, 6, 7, 8, 9, 13], none⟩,
    ⟨none, .store ⟨false, [.int .i64]⟩, [(.t 127), (.t 122)], [14, 9, 0, 1, 5, 6, 7, 8, 9, 13], none⟩,
    ⟨some 128, .idxA 3, [(.t 115), (.t 117)], [2, 4, 0, 1, 2, 3, 4, 5, 6, 7, 8, 9, 10, 11, 12, 13, 14, 15], none⟩,
    ⟨none, .store ⟨false, [.int .i64]⟩, [(.t 128), (.t 126)], [16, 13, 15, 0, 1, 2, 3, 4, 5, 6, 7, 8, 9, 10, 11, 12, 13, 14, 15], none⟩]))
  (.region false [
    ⟨some 111, .mv, [(.t 17)], [], none⟩,
    ⟨some 112, .bin .sub, [(.t 111), (.c (D.int .i64 1))], [0], none⟩,
    ⟨some 17, .mv, [(.t 112)], [1, 0, 1], none⟩]))))))
  (.ret))))) (.skip)))
  (.seq (.region false [
    ⟨some 129, .mv, [(.t 1)], [], none⟩,
    ⟨some 130, .mv, [(.t 3)], [], none⟩,
    ⟨some 131, .bin .add, [(.t 129), (.t 130)], [0, 1], none⟩,
    ⟨some 132, .conv .u64, [(.t 131)], [2], none⟩,
    ⟨some 133, .bin .shr, [(.t 132), (.c (D.int .u64 1))], [3], none⟩,
    ⟨some 134, .conv .i64, [(.t 133)], [4], none⟩,
    ⟨some 18, .mv, [(.t 134)], [5, 0, 1, 2, 3, 4, 5], none⟩])
  (.seq (.region false [
    ⟨some 135, .mv, [(.t 18)], [], none⟩,
    ⟨some 136, .mv, [(.t 2)], [], none⟩,
    ⟨some 137, .bin .add, [(.t 135), (.t 136)], [0, 1], none⟩,
    ⟨some 19, .mv, [(.t 137)], [2, 0, 1, 2], none⟩])
  (.seq (.region false [
    ⟨some 20, .mv, [(.c (D.int .i64 0))], [], none⟩,
    ⟨some 21, .mv, [(.c (D.int .i64 0))], [0], none⟩])
  (.seq (.seq (.region false [
    ⟨some 138, .mv, [(.t 2)], [], none⟩,
    ⟨some 139, .mv, [(.t 18)], [], none⟩,
    ⟨some 140, .bin .gtr, [(.t 138), (.t 139)], [0, 1], none⟩])
  (.cond (.t 140) (.seq (.region false [
    ⟨some 141, .mv, [(.t 19)], [], none⟩,
    ⟨some 142, .mv, [(.t 3)], [], none⟩,
    ⟨some 143, .bin .sub, [(.t 141), (.t 142)], [0, 1], none⟩,
    ⟨some 20, .mv, [(.t 143)], [2, 0, 1, 2], none⟩])
  (.region false [
    ⟨some 144, .mv, [(.t 18)], [], none⟩,
    ⟨some 21, .mv, [(.t 144)], [0, 0], none⟩])) (.seq (.region false [
    ⟨some 145, .mv, [(.t 1)], [], none⟩,
    ⟨some 20, .mv, [(.t 145)], [0, 0], none⟩])
  (.region false [
    ⟨some 146, .mv, [(.t 2)], [], none⟩,
    ⟨some 21, .mv, [(.t 146)], [0, 0], none⟩]))))
  (.seq (.region false [
    ⟨some 147, .mv, [(.t 19)], [], none⟩,
    ⟨some 148, .bin .sub, [(.t 147), (.c (D.int .i64 1))], [0], none⟩,
    ⟨some 22, .mv, [(.t 148)], [1, 0, 1], none⟩])
  (.seq (.block 8 (.loop ⟨[0, 1, 2, 3, 4, 18, 19, 22], [(20, .p ⟨false, [.int .i64]⟩), (21, .p ⟨false, [.int .i64]⟩)], [(0, .a 3)]⟩ (.seq (.seq (.region false [
    ⟨some 149, .mv, [(.t 20)], [], none⟩,
    ⟨some 150, .mv, [(.t 21)], [], none⟩,
    ⟨some 151, .bin .lss, [(.t 149), (.t 150)], [0, 1], none⟩])
  (.cond (.t 151) (.skip) (.exit 8)))
  (.block 9 (.seq (.region false [
    ⟨some 152, .mv, [(.t 20)], [], none⟩,
    ⟨some 153, .mv, [(.t 21)], [], none⟩,
    ⟨some 154, .bin .add, [(.t 152), (.t 153)], [0, 1], none⟩,
    ⟨some 155, .conv .u64, [(.t 154)], [2], none⟩,
    ⟨some 156, .bin .shr, [(.t 155), (.c (D.int .u64 1))], [3], none⟩,
    ⟨some 157, .conv .i64, [(.t 156)], [4], none⟩,
    ⟨some 23, .mv, [(.t 157)], [5, 0, 1, 2, 3, 4, 5], none⟩])
  (.seq (.region true [
    ⟨some 158, .mv, [(.t 4)], [], none⟩,
    ⟨some 159, .mv, [(.t 0)], [], none⟩,
    ⟨some 160, .mv, [(.t 22)], [], none⟩,
    ⟨some 161, .mv, [(.t 23)], [], none⟩,
    ⟨some 162, .bin .sub, [(.t 160), (.t 161)], [2, 3], none⟩,
    ⟨some 163, .idxA 3, [(.t 159), (.t 162)], [1, 4], none⟩,
    ⟨some 164, .load ⟨false, [.int .i64]⟩, [(.t 163)], [5], none⟩,
    ⟨some 165, .mv, [(.t 0)], [], none⟩,
    ⟨some 166, .mv, [(.t 23)], [], none⟩,
    ⟨some 167, .idxA 3, [(.t 165), (.t 166)], [7, 8], none⟩,
    ⟨some 168, .load ⟨false, [.int .i64]⟩, [(.t 167)], [9], none⟩,
    ⟨some 169, .call [7], [(.t 158), (.t 164), (.t 168)], [0, 6, 10], none⟩,
    ⟨some 170, .bin .lss, [(.t 169), (.c (D.int .i64 0))], [11], none⟩,
    ⟨some 171, .not, [(.t 170)], [12], none⟩])
  (.cond (.t 171) (.region false [
    ⟨some 172, .mv, [(.t 23)], [], none⟩,
    ⟨some 173, .bin .add, [(.t 172), (.c (D.int .i64 1))], [0], none⟩,
    ⟨some 20, .mv, [(.t 173)], [1, 0, 1], none⟩]) (.region false [
    ⟨some 174, .mv, [(.t 23)], [], none⟩,
    ⟨some 21, .mv, [(.t 174)], [0, 0], none⟩]))))))))
  (.seq (.region false [
    ⟨some 175, .mv, [(.t 19)], [], none⟩,
    ⟨some 176, .mv, [(.t 20)], [], none⟩,
    ⟨some 177, .bin .sub, [(.t 175), (.t 176)], [0, 1], none⟩,
    ⟨some 24, .mv, [(.t 177)], [2, 0, 1, 2], none⟩])
  (.seq (.seq (.region false [
    ⟨some 178, .mv, [(.t 20)], [], none⟩,
    ⟨some 179, .mv, [(.t 2)], [], none⟩,
    ⟨some 180, .bin .lss, [(.t 178), (.t 179)], [0, 1], none⟩,
    ⟨some 181, .mv, [(.t 180)], [2], none⟩,
    ⟨some 182, .mv, [(.t 2)], [3], some (181, true)⟩,
    ⟨some 183, .mv, [(.t 24)], [3], some (181, true)⟩,
    ⟨some 184, .bin .lss, [(.t 182), (.t 183)], [4, 5, 3], some (181, true)⟩,
    ⟨some 185, .pick, [(.t 181), (.t 184), (.c (D.bool false))], [3, 6], none⟩])
  (.cond (.t 185) (.region false [
    ⟨some 186, .mv, [(.t 0)], [], none⟩,
    ⟨some 187, .mv, [(.t 20)], [], none⟩,
    ⟨some 188, .mv, [(.t 2)], [], none⟩,
    ⟨some 189, .mv, [(.t 24)], [], none⟩,
    ⟨some 190, .mv, [(.t 4)], [], none⟩,
    ⟨some 191, .call [], [(.c (D.fn 74 [])), (.t 186), (.t 187), (.t 188), (.t 189), (.t 190)], [0, 1, 2, 3, 4], none⟩]) (.skip)))
  (.seq (.seq (.region false [
    ⟨some 192, .mv, [(.t 1)], [], none⟩,
    ⟨some 193, .mv, [(.t 20)], [], none⟩,
    ⟨some 194, .bin .lss, [(.t 192), (.t 193)], [0, 1], none⟩,
    ⟨some 195, .mv, [(.t 194)], [2], none⟩,
    ⟨some 196, .mv, [(.t 20)], [3], some (195, true)⟩,
    ⟨some 197, .mv, [(.t 18)], [3], some (195, true)⟩,
    ⟨some 198, .bin .lss, [(.t 196), (.t 197)], [4, 5, 3], some (195, true)⟩,
    ⟨some 199, .pick, [(.t 195), (.t 198), (.c (D.bool false))], [3, 6], none⟩])
  (.cond (.t 199) (.region false [
    ⟨some 200, .mv, [(.t 0)], [], none⟩,
    ⟨some 201, .mv, [(.t 1)], [], none⟩,
    ⟨some 202, .mv, [(.t 20)], [], none⟩,
    ⟨some 203, .mv, [(.t 18)], [], none⟩,
    ⟨some 204, .mv, [(.t 4)], [], none⟩,
    ⟨some 205, .call [], [(.c (D.fn 66 [])), (.t 200), (.t 201), (.t 202), (.t 203), (.t 204)], [0, 1, 2, 3, 4], none⟩]) (.skip)))
  (.seq (.region false [
    ⟨some 206, .mv, [(.t 18)], [], none⟩,
    ⟨some 207, .mv, [(.t 24)], [], none⟩,
    ⟨some 208, .bin .lss, [(.t 206), (.t 207)], [0, 1], none⟩,
    ⟨some 209, .mv, [(.t 208)], [2], none⟩,
    ⟨some 210, .mv, [(.t 24)], [3], some (209, true)⟩,
    ⟨some 211, .mv, [(.t 3)], [3], some (209, true)⟩,
    ⟨some 212, .bin .lss, [(.t 210), (.t 211)], [4, 5, 3], some (209, true)⟩,
    ⟨some 213, .pick, [(.t 209), (.t 212), (.c (D.bool false))], [3, 6], none⟩])
  (.cond (.t 213) (.region false [
    ⟨some 214, .mv, [(.t 0)], [], none⟩,
    ⟨some 215, .mv, [(.t 18)], [], none⟩,
    ⟨some 216, .mv, [(.t 24)], [], none⟩,
    ⟨some 217, .mv, [(.t 3)], [], none⟩,
    ⟨some 218, .mv, [(.t 4)], [], none⟩,
    ⟨some 219, .call [], [(.c (D.fn 66 [])), (.t 214), (.t 215), (.t 216), (.t 217), (.t 218)], [0, 1, 2, 3, 4], none⟩]) (.skip)))))))))))))⟩

/- 57: slices.stableCmpFunc[int] -/
def c_slices_stableCmpFunc : DFun := ⟨63, 3, [.m 3, .p, .p], [], [],
  .seq (.region false [
    ⟨some 6, .mv, [(.c (D.int .i64 20))], [], none⟩])
  (.seq (.region false [
    ⟨some 10, .mv, [(.t 6)], [], none⟩,
    ⟨some 7, .mv, [(.c (D.int .i64 0))], [], none⟩,
    ⟨some 8, .mv, [(.t 10)], [0, 1, 0, 1], none⟩])
  (.seq (.block 0 (.loop ⟨[0, 1, 2, 6], [(7, .p ⟨false, [.int .i64]⟩), (8, .p ⟨false, [.int .i64]⟩)], [(0, .a 3)]⟩ (.seq (.seq (.region false [
    ⟨some 11, .mv, [(.t 8)], [], none⟩,
    ⟨some 12, .mv, [(.t 1)], [], none⟩,
    ⟨some 13, .bin .leq, [(.t 11), (.t 12)], [0, 1], none⟩])
  (.cond (.t 13) (.skip) (.exit 0)))
  (.block 1 (.seq (.region false [
    ⟨some 14, .mv, [(.t 0)], [], none⟩,
    ⟨some 15, .mv, [(.t 7)], [], none⟩,
    ⟨some 16, .mv, [(.t 8)], [], none⟩,
    ⟨some 17, .mv, [(.t 2)], [], none⟩,
    ⟨some 18, .call [], [(.c (D.fn 65 [])), (.t 14), (.t 15), (.t 16), (.t 17)], [0, 1, 2, 3], none⟩])
  (.seq (.region false [
    ⟨some 19, .mv, [(.t 8)], [], none⟩,
    ⟨some 7, .mv, [(.t 19)], [0, 0], none⟩])
  (.region false [
    ⟨some 20, .mv, [(.t 8)], [], none⟩,
    ⟨some 21, .mv, [(.t 6)], [], none⟩,
    ⟨some 22, .bin .add, [(.t 20), (.t 21)], [0, 1], none⟩,
    ⟨some 8, .mv, [(.t 22)], [2, 0, 1, 2], none⟩])))))))
  (.seq (.region false [
    ⟨some 23, .mv, [(.t 0)], [], none⟩,
    ⟨some 24, .mv, [(.t 7)], [], none⟩,
    ⟨some 25, .mv, [(.t 1)], [], none⟩,
    ⟨some 26, .mv, [(.t 2)], [], none⟩,
    ⟨some 27, .call [], [(.c (D.fn 65 [])), (.t 23), (.t 24), (.t 25), (.t 26)], [0, 1, 2, 3], none⟩])
  (.block 2 (.loop ⟨[0, 1, 2], [(6, .p ⟨false, [.int .i64]⟩)], [(0, .a 3)]⟩ (.seq (.seq (.region false [
    ⟨some 28, .mv, [(.t 6)], [], none⟩,
    ⟨some 29, .mv, [(.t 1)], [], none⟩,
    ⟨some 30, .bin .lss, [(.t 28), (.t 29)], [0, 1], none⟩])
  (.cond (.t 30) (.skip) (.exit 2)))
  (.block 3 (.seq (.region false [
    ⟨some 31, .mv, [(.t 6)], [], none⟩,
    ⟨some 32, .bin .mul, [(.c (D.int .i64 2)), (.t 31)], [0], none⟩,
    ⟨some 7, .mv, [(.c (D.int .i64 0))], [], none⟩,
    ⟨some 8, .mv, [(.t 32)], [1, 2, 0, 1, 2], none⟩])
  (.seq (.block 4 (.loop ⟨[0, 1, 2, 6], [(7, .p ⟨false, [.int .i64]⟩), (8, .p ⟨false, [.int .i64]⟩)], [(0, .a 3)]⟩ (.seq (.seq (.region false [
    ⟨some 33, .mv, [(.t 8)], [], none⟩,
    ⟨some 34, .mv, [(.t 1)], [], none⟩,
    ⟨some 35, .bin .leq, [(.t 33), (.t 34)], [0, 1], none⟩])
  (.cond (.t 35) (.skip) (.exit 4)))
  (.block 5 (.seq (.region false [
    ⟨some 36, .mv, [(.t 0)], [], none⟩,
    ⟨some 37, .mv, [(.t 7)], [], none⟩,
    ⟨some 38, .mv, [(.t 7)], [], none⟩,
    ⟨some 39, .mv, [(.t 6)], [], none⟩,
    ⟨some 40, .bin .add, [(.t 38), (.t 39)], [2, 3], none⟩,
    ⟨some 41, .mv, [(.t 8)], [], none⟩,
    ⟨some 42, .mv, [(.t 2)], [], none⟩,
    ⟨some 43, .call [], [(.c (D.fn 66 [])), (.t 36), (.t 37), (.t 40), (.t 41), (.t 42)], [0, 1, 4, 5, 6], none⟩])
  (.seq (.region false [
    ⟨some 44, .mv, [(.t 8)], [], none⟩,
    ⟨some 7, .mv, [(.t 44)], [0, 0], none⟩])
  (.region false [
    ⟨some 45, .mv, [(.t 8)], [], none⟩,
    ⟨some 46, .mv, [(.t 6)], [], none⟩,
    ⟨some 47, .bin .mul, [(.c (D.int .i64 2)), (.t 46)], [1], none⟩,
    ⟨some 48, .bin .add, [(.t 45), (.t 47)], [0, 2], none⟩,
    ⟨some 8, .mv, [(.t 48)], [3, 0, 1, 2, 3], none⟩])))))))
  (.seq (.seq (.region false [
    ⟨some 49, .mv, [(.t 7)], [], none⟩,
    ⟨some 50, .mv, [(.t 6)], [], none⟩,
    ⟨some 51, .bin .add, [(.t 49), (.t 50)], [0, 1], none⟩,
    ⟨some 9, .mv, [(.t 51)], [2, 0, 1, 2], none⟩])
  (.seq (.region false [
    ⟨some 52, .mv, [(.t 9)], [], none⟩,
    ⟨some 53, .mv, [(.t 1)], [], none⟩,
    ⟨some 54, .bin .lss, [(.t 52), (.t 53)], [0, 1], none⟩])
  (.cond (.t 54) (.region false [
    ⟨some 55, .mv, [(.t 0)], [], none⟩,
    ⟨some 56, .mv, [(.t 7)], [], none⟩,
    ⟨some 57, .mv, [(.t 9)], [], none⟩,
    ⟨some 58, .mv, [(.t 1)], [], none⟩,
    ⟨some 59, .mv, [(.t 2)], [], none⟩,
    ⟨some 60, .call [], [(.c (D.fn 66 [])), (.t 55), (.t 56), (.t 57), (.t 58), (.t 59)], [0, 1, 2, 3, 4], none⟩]) (.skip))))
  (.region false [
    ⟨some 61, .mv, [(.t 6)], [], none⟩,
    ⟨some 62, .bin .mul, [(.t 61), (.c (D.int .i64 2))], [0], none⟩,
    ⟨some 6, .mv, [(.t 62)], [1, 0, 1], none⟩])))))))))))⟩

/- 33: slices.SortStableFunc[[]int,int] -/
def c_slices_SortStableFunc : DFun := ⟨9, 2, [.m 3, .p], [], [],
  .region false [
    ⟨some 4, .mv, [(.t 0)], [], none⟩,
    ⟨some 5, .mv, [(.t 0)], [], none⟩,
    ⟨some 6, .len, [(.t 5)], [1], none⟩,
    ⟨some 7, .mv, [(.t 1)], [], none⟩,
    ⟨some 8, .call [], [(.c (D.fn 57 [])), (.t 4), (.t 6), (.t 7)], [0, 2, 3], none⟩]⟩

/- 34: gatepath/policy.Order$1 -/
def c_policy_Order_1 : DFun := ⟨15, 4, [.p, .p, .p], [.p ⟨false, [.int .i64]⟩], [.t 5],
  .seq (.region false [
    ⟨some 5, .mv, [(.c (D.int .i64 0))], [], none⟩])
  (.seq (.region true [
    ⟨some 6, .load ⟨false, [.sl 39]⟩, [(.t 2)], [], none⟩,
    ⟨some 7, .mv, [(.t 0)], [], none⟩,
    ⟨some 8, .idxA 39, [(.t 6), (.t 7)], [0, 1], none⟩,
    ⟨some 9, .load ⟨true, [.int .u8, .int .u64, .int .u64, .int .i64, .sl 30, .int .u8, .int .u32, .int .u32, .int .u32, .int .u8, .int .u64, .int .u64, .int .i64, .sl 85, .int .u8, .int .u8, .int .u8]⟩, [(.t 8)], [2], none⟩,
    ⟨some 10, .load ⟨false, [.sl 39]⟩, [(.t 2)], [], none⟩,
    ⟨some 11, .mv, [(.t 1)], [], none⟩,
    ⟨some 12, .idxA 39, [(.t 10), (.t 11)], [4, 5], none⟩,
    ⟨some 13, .load ⟨true, [.int .u8, .int .u64, .int .u64, .int .i64, .sl 30, .int .u8, .int .u32, .int .u32, .int .u32, .int .u8, .int .u64, .int .u64, .int .i64, .sl 85, .int .u8, .int .u8, .int .u8]⟩, [(.t 12)], [6], none⟩,
    ⟨some 14, .call [3], [(.c (D.fn 24 [])), (.t 9), (.t 13)], [3, 7], none⟩,
    ⟨some 5, .mv, [(.t 14)], [8, 8, 0, 1, 2, 3, 4, 5, 6, 7, 8], none⟩])
  (.ret))⟩

/- 17: gatepath/policy.Order -/
def c_policy_Order : DFun := ⟨36, 10, [.p, .p], [.o 3, .p ⟨false, [.int .i64]⟩], [.t 4, .t 5],
  .seq (.region false [
    ⟨some 2, .box 2, [(.t 0)], [], none⟩,
    ⟨some 3, .box 3, [(.t 1)], [], none⟩,
    ⟨some 4, .mv, [(.c (D.zs 3 true))], [], none⟩,
    ⟨some 5, .mv, [(.c (D.int .i64 0))], [2], none⟩])
  (.seq (.region false [
    ⟨some 10, .load ⟨true, [.int .u8, .int .u8]⟩, [(.t 2)], [], none⟩,
    ⟨some 11, .load ⟨false, [.sl 39]⟩, [(.t 3)], [], none⟩,
    ⟨some 12, .call [7], [(.c (D.fn 32 [])), (.t 10), (.t 11)], [0, 1], none⟩,
    ⟨some 6, .mv, [(.t 12)], [2, 2, 0, 1, 2], none⟩])
  (.seq (.seq (.region false [
    ⟨some 13, .mv, [(.t 6)], [], none⟩,
    ⟨some 14, .bin .neq, [(.t 13), (.c (D.int .i64 0))], [0], none⟩])
  (.cond (.t 14) (.seq (.region false [
    ⟨some 15, .mv, [(.t 6)], [], none⟩,
    ⟨some 4, .mv, [(.c (D.zs 3 true))], [], none⟩,
    ⟨some 5, .mv, [(.t 15)], [0, 1, 0, 1], none⟩])
  (.ret)) (.skip)))
  (.seq (.region false [
    ⟨some 7, .mv, [(.c (D.zs 3 true))], [], none⟩])
  (.seq (.seq (.region false [
    ⟨some 16, .load ⟨false, [.sl 39]⟩, [(.t 3)], [], none⟩,
    ⟨some 17, .len, [(.t 16)], [0], none⟩,
    ⟨some 18, .mv, [(.c (D.int .i64 0))], [], none⟩])
  (.block 0 (.loop ⟨[2, 3, 16, 17], [(7, .o 8 3), (18, .p ⟨false, [.int .i64]⟩)], [(2, .v [.p (.int .u8), .p (.int .u8)]), (3, .v [.p (.sl 39)])]⟩ (.seq (.region false [
    ⟨some 19, .bin .lss, [(.t 18), (.t 17)], [], none⟩])
  (.seq (.cond (.t 19) (.skip) (.exit 0))
  (.seq (.block 1 (.seq (.region false [
    ⟨some 20, .mv, [(.t 18)], [], none⟩,
    ⟨some 21, .idxA 39, [(.t 16), (.t 18)], [], none⟩,
    ⟨some 22, .load ⟨true, [.int .u8, .int .u64, .int .u64, .int .i64, .sl 30, .int .u8, .int .u32, .int .u32, .int .u32, .int .u8, .int .u64, .int .u64, .int .i64, .sl 85, .int .u8, .int .u8, .int .u8]⟩, [(.t 21)], [1], none⟩,
    ⟨some 9, .alloc 4 [(D.int .u8 0), (D.int .u64 0), (D.int .u64 0), (D.int .i64 0), (D.zs 30 true), (D.int .u8 0), (D.int .u32 0), (D.int .u32 0), (D.int .u32 0), (D.int .u8 0), (D.int .u64 0), (D.int .u64 0), (D.int .i64 0), (D.zs 85 true), (D.int .u8 0), (D.int .u8 0), (D.int .u8 0)], [], [], none⟩,
    ⟨some 8, .mv, [(.t 20)], [0, 0, 1, 2, 3], none⟩,
    ⟨none, .store ⟨true, [.int .u8, .int .u64, .int .u64, .int .i64, .sl 30, .int .u8, .int .u32, .int .u32, .int .u32, .int .u8, .int .u64, .int .u64, .int .i64, .sl 85, .int .u8, .int .u8, .int .u8]⟩, [(.t 9), (.t 22)], [3, 2, 4, 0, 1, 2, 3, 4], none⟩])
  (.seq (.region false [
    ⟨some 23, .load ⟨true, [.int .u8, .int .u8]⟩, [(.t 2)], [], none⟩,
    ⟨some 24, .fld 14, [(.t 9)], [], none⟩,
    ⟨some 25, .load ⟨true, [.int .u8, .int .u8, .int .u8]⟩, [(.t 24)], [1], none⟩,
    ⟨some 26, .call [9], [(.c (D.fn 20 [])), (.t 23), (.t 25)], [0, 2], none⟩])
  (.cond (.t 26) (.region false [
    ⟨some 27, .mv, [(.t 7)], [], none⟩,
    ⟨some 28, .mv, [(.t 8)], [], none⟩,
    ⟨some 29, .buildSl 5 3, [(.t 28)], [1], none⟩,
    ⟨some 30, .append 6 3 8, [(.t 27), (.t 29)], [0, 2], none⟩,
    ⟨some 7, .mv, [(.t 30)], [3, 3, 0, 1, 2, 3], none⟩]) (.skip)))))
  (.region false [
    ⟨some 31, .bin .add, [(.t 18), (.c (D.int .i64 1))], [], none⟩,
    ⟨some 18, .mv, [(.t 31)], [0], none⟩])))))))
  (.seq (.region false [
    ⟨some 32, .mv, [(.t 7)], [], none⟩,
    ⟨some 33, .mkfn 34, [(.t 3)], [], none⟩,
    ⟨some 34, .call [], [(.c (D.fn 33 [])), (.t 32), (.t 33)], [0, 1], none⟩])
  (.seq (.region false [
    ⟨some 35, .mv, [(.t 7)], [], none⟩,
    ⟨some 4, .mv, [(.t 35)], [0, 0], none⟩,
    ⟨some 5, .mv, [(.c (D.int .i64 0))], [1, 0, 1], none⟩])
  (.ret)))))))⟩

/- 31: gatepath/policy.Best$1 -/
def c_policy_Best_1 : DFun := ⟨13, 3, [.p, .p], [.p ⟨false, [.bool]⟩], [.t 3],
  .seq (.region false [
    ⟨some 2, .box 2, [(.t 0)], [], none⟩,
    ⟨some 3, .mv, [(.c (D.bool false))], [], none⟩])
  (.seq (.region true [
    ⟨some 4, .fld 0, [(.t 2)], [], none⟩,
    ⟨some 5, .fld 0, [(.t 4)], [0], none⟩,
    ⟨some 6, .load ⟨true, [.int .u8, .int .u64, .int .u64, .int .i64]⟩, [(.t 5)], [1], none⟩,
    ⟨some 7, .load ⟨false, [.sl 39]⟩, [(.t 1)], [], none⟩,
    ⟨some 8, .idxA 39, [(.t 7), (.c (D.int .i64 0))], [3], none⟩,
    ⟨some 9, .fld 0, [(.t 8)], [4], none⟩,
    ⟨some 10, .fld 0, [(.t 9)], [5], none⟩,
    ⟨some 11, .load ⟨true, [.int .u8, .int .u64, .int .u64, .int .i64]⟩, [(.t 10)], [6], none⟩,
    ⟨some 12, .eqv true ⟨true, [.int .u8, .int .u64, .int .u64, .int .i64]⟩, [(.t 6), (.t 11)], [2, 7], none⟩,
    ⟨some 3, .mv, [(.t 12)], [8, 0, 1, 2, 3, 4, 5, 6, 7, 8], none⟩])
  (.ret))⟩

/- 15: gatepath/policy.Best -/
def c_policy_Best : DFun := ⟨26, 7, [.p, .p], [.p ⟨false, [.int .i64]⟩, .p ⟨false, [.int .i64]⟩], [.t 4, .t 5],
  .seq (.region false [
    ⟨some 2, .box 2, [(.t 0)], [], none⟩,
    ⟨some 3, .box 3, [(.t 1)], [], none⟩,
    ⟨some 4, .mv, [(.c (D.int .i64 0))], [], none⟩,
    ⟨some 5, .mv, [(.c (D.int .i64 0))], [2], none⟩])
  (.seq (.region false [
    ⟨some 9, .load ⟨true, [.int .u8, .int .u8]⟩, [(.t 2)], [], none⟩,
    ⟨some 10, .load ⟨false, [.sl 39]⟩, [(.t 3)], [], none⟩,
    ⟨some 11, .call [4, 5], [(.c (D.fn 17 [])), (.t 9), (.t 10)], [0, 1], none⟩,
    ⟨some 8, .mv, [(.t 11)], [2], none⟩,
    ⟨some 12, .ext 0, [(.t 8)], [3], none⟩,
    ⟨some 13, .ext 1, [(.t 8)], [3], none⟩,
    ⟨some 6, .mv, [(.t 12)], [4, 2, 0, 1, 2, 3, 4], none⟩,
    ⟨some 7, .mv, [(.t 13)], [5, 6, 0, 1, 2, 3, 4, 5, 6], none⟩])
  (.seq (.seq (.region false [
    ⟨some 14, .mv, [(.t 7)], [], none⟩,
    ⟨some 15, .bin .neq, [(.t 14), (.c (D.int .i64 0))], [0], none⟩])
  (.cond (.t 15) (.seq (.region false [
    ⟨some 16, .mv, [(.t 7)], [], none⟩,
    ⟨some 4, .mv, [(.c (D.int .i64 0))], [], none⟩,
    ⟨some 5, .mv, [(.t 16)], [0, 1, 0, 1], none⟩])
  (.ret)) (.skip)))
  (.seq (.seq (.region false [
    ⟨some 17, .load ⟨false, [.sl 39]⟩, [(.t 3)], [], none⟩,
    ⟨some 18, .mkfn 31, [(.t 3)], [], none⟩,
    ⟨some 19, .call [6], [(.c (D.fn 30 [])), (.t 17), (.t 18)], [0, 1], none⟩])
  (.cond (.t 19) (.seq (.region false [
    ⟨some 4, .mv, [(.c (D.int .i64 0))], [], none⟩,
    ⟨some 5, .mv, [(.c (D.int .i64 2))], [0, 0], none⟩])
  (.ret)) (.skip)))
  (.seq (.seq (.region false [
    ⟨some 20, .mv, [(.t 6)], [], none⟩,
    ⟨some 21, .len, [(.t 20)], [0], none⟩,
    ⟨some 22, .bin .eql, [(.t 21), (.c (D.int .i64 0))], [1], none⟩])
  (.cond (.t 22) (.seq (.region false [
    ⟨some 4, .mv, [(.c (D.int .i64 (-1)))], [], none⟩,
    ⟨some 5, .mv, [(.c (D.int .i64 0))], [0, 0], none⟩])
  (.ret)) (.skip)))
  (.seq (.region false [
    ⟨some 23, .mv, [(.t 6)], [], none⟩,
    ⟨some 24, .idxA 3, [(.t 23), (.c (D.int .i64 0))], [0], none⟩,
    ⟨some 25, .load ⟨false, [.int .i64]⟩, [(.t 24)], [1], none⟩,
    ⟨some 4, .mv, [(.t 25)], [2, 0, 1, 2], none⟩,
    ⟨some 5, .mv, [(.c (D.int .i64 0))], [3, 0, 1, 2, 3], none⟩])
  (.ret))))))⟩

/- 28: gatepath/gatepathlaw44.best -/
def c_gatepathlaw44_best : DFun := ⟨22, 6, [.p, .p, .p], [.p ⟨false, [.bool]⟩], [.t 6],
  .seq (.region false [
    ⟨some 3, .box 3, [(.t 0)], [], none⟩,
    ⟨some 6, .mv, [(.c (D.bool false))], [], none⟩])
  (.seq (.region false [
    ⟨some 10, .load ⟨true, [.int .u8, .int .u8]⟩, [(.t 3)], [], none⟩,
    ⟨some 11, .mv, [(.t 2)], [], none⟩,
    ⟨some 12, .call [4, 5], [(.c (D.fn 15 [])), (.t 10), (.t 11)], [0, 1], none⟩,
    ⟨some 9, .mv, [(.t 12)], [2], none⟩,
    ⟨some 13, .ext 0, [(.t 9)], [3], none⟩,
    ⟨some 14, .ext 1, [(.t 9)], [3], none⟩,
    ⟨some 7, .mv, [(.t 13)], [4, 2, 0, 1, 2, 3, 4], none⟩,
    ⟨some 8, .mv, [(.t 14)], [5, 6, 0, 1, 2, 3, 4, 5, 6], none⟩])
  (.seq (.region false [
    ⟨some 15, .mv, [(.t 8)], [], none⟩,
    ⟨some 16, .bin .eql, [(.t 15), (.c (D.int .i64 0))], [0], none⟩,
    ⟨some 17, .mv, [(.t 16)], [1], none⟩,
    ⟨some 18, .mv, [(.t 7)], [2], some (17, true)⟩,
    ⟨some 19, .mv, [(.t 1)], [2], some (17, true)⟩,
    ⟨some 20, .bin .eql, [(.t 18), (.t 19)], [3, 4, 2], some (17, true)⟩,
    ⟨some 21, .pick, [(.t 17), (.t 20), (.c (D.bool false))], [2, 5], none⟩,
    ⟨some 6, .mv, [(.t 21)], [6, 2, 0, 1, 2, 3, 4, 5, 6], none⟩])
  (.ret)))⟩

/- 12: gatepath/gatepathlaw44.alive -/
def c_gatepathlaw44_alive : DFun := ⟨51, 21, [], [.p ⟨false, [.bool]⟩], [.t 0],
  .seq (.region false [
    ⟨some 0, .mv, [(.c (D.bool false))], [], none⟩])
  (.seq (.region false [
    ⟨some 4, .buildSl 0 30, [(.c (D.int .u32 1))], [], none⟩,
    ⟨some 5, .call [11], [(.c (D.fn 26 [])), (.c (D.int .u32 100)), (.c (D.int .u8 1)), (.t 4)], [0], none⟩,
    ⟨some 6, .buildSl 1 30, [(.c (D.int .u32 1))], [], none⟩,
    ⟨some 7, .call [12], [(.c (D.fn 26 [])), (.c (D.int .u32 200)), (.c (D.int .u8 2)), (.t 6)], [2, 1], none⟩,
    ⟨some 8, .buildSl 2 30, [(.c (D.int .u32 1))], [], none⟩,
    ⟨some 9, .call [13], [(.c (D.fn 26 [])), (.c (D.int .u32 200)), (.c (D.int .u8 0)), (.t 8)], [4, 3], none⟩,
    ⟨some 1, .alloc 3 [(D.int .u8 0), (D.int .u64 0), (D.int .u64 0), (D.int .i64 0), (D.zs 30 true), (D.int .u8 0), (D.int .u32 0), (D.int .u32 0), (D.int .u32 0), (D.int .u8 0), (D.int .u64 0), (D.int .u64 0), (D.int .i64 0), (D.zs 85 true), (D.int .u8 0), (D.int .u8 0), (D.int .u8 0)], [], [], none⟩,
    ⟨some 2, .alloc 4 [(D.int .u8 0), (D.int .u64 0), (D.int .u64 0), (D.int .i64 0), (D.zs 30 true), (D.int .u8 0), (D.int .u32 0), (D.int .u32 0), (D.int .u32 0), (D.int .u8 0), (D.int .u64 0), (D.int .u64 0), (D.int .i64 0), (D.zs 85 true), (D.int .u8 0), (D.int .u8 0), (D.int .u8 0)], [], [], none⟩,
    ⟨some 3, .alloc 5 [(D.int .u8 0), (D.int .u64 0), (D.int .u64 0), (D.int .i64 0), (D.zs 30 true), (D.int .u8 0), (D.int .u32 0), (D.int .u32 0), (D.int .u32 0), (D.int .u8 0), (D.int .u64 0), (D.int .u64 0), (D.int .i64 0), (D.zs 85 true), (D.int .u8 0), (D.int .u8 0), (D.int .u8 0)], [], [], none⟩,
    ⟨none, .store ⟨true, [.int .u8, .int .u64, .int .u64, .int .i64, .sl 30, .int .u8, .int .u32, .int .u32, .int .u32, .int .u8, .int .u64, .int .u64, .int .i64, .sl 85, .int .u8, .int .u8, .int .u8]⟩, [(.t 1), (.t 5)], [6, 1, 5, 0, 1, 6, 7, 8], none⟩,
    ⟨none, .store ⟨true, [.int .u8, .int .u64, .int .u64, .int .i64, .sl 30, .int .u8, .int .u32, .int .u32, .int .u32, .int .u8, .int .u64, .int .u64, .int .i64, .sl 85, .int .u8, .int .u8, .int .u8]⟩, [(.t 2), (.t 7)], [7, 3, 9, 0, 1, 2, 3, 6, 7, 8, 9], none⟩,
    ⟨none, .store ⟨true, [.int .u8, .int .u64, .int .u64, .int .i64, .sl 30, .int .u8, .int .u32, .int .u32, .int .u32, .int .u8, .int .u64, .int .u64, .int .i64, .sl 85, .int .u8, .int .u8, .int .u8]⟩, [(.t 3), (.t 9)], [8, 5, 10, 0, 1, 2, 3, 4, 5, 6, 7, 8, 9, 10], none⟩])
  (.seq (.region false [
    ⟨some 10, .load ⟨true, [.int .u8, .int .u64, .int .u64, .int .i64, .sl 30, .int .u8, .int .u32, .int .u32, .int .u32, .int .u8, .int .u64, .int .u64, .int .i64, .sl 85, .int .u8, .int .u8, .int .u8]⟩, [(.t 1)], [], none⟩,
    ⟨some 11, .load ⟨true, [.int .u8, .int .u64, .int .u64, .int .i64, .sl 30, .int .u8, .int .u32, .int .u32, .int .u32, .int .u8, .int .u64, .int .u64, .int .i64, .sl 85, .int .u8, .int .u8, .int .u8]⟩, [(.t 2)], [], none⟩,
    ⟨some 12, .call [14], [(.c (D.fn 27 [])), (.t 10), (.t 11)], [0, 1], none⟩,
    ⟨some 13, .mv, [(.t 12)], [2, 2], none⟩,
    ⟨some 14, .load ⟨true, [.int .u8, .int .u64, .int .u64, .int .i64, .sl 30, .int .u8, .int .u32, .int .u32, .int .u32, .int .u8, .int .u64, .int .u64, .int .i64, .sl 85, .int .u8, .int .u8, .int .u8]⟩, [(.t 3)], [3], some (13, true)⟩,
    ⟨some 15, .load ⟨true, [.int .u8, .int .u64, .int .u64, .int .i64, .sl 30, .int .u8, .int .u32, .int .u32, .int .u32, .int .u8, .int .u64, .int .u64, .int .i64, .sl 85, .int .u8, .int .u8, .int .u8]⟩, [(.t 1)], [3], some (13, true)⟩,
    ⟨some 16, .call [15], [(.c (D.fn 27 [])), (.t 14), (.t 15)], [4, 5, 3, 3], some (13, true)⟩,
    ⟨some 17, .pick, [(.t 13), (.t 16), (.c (D.bool false))], [3, 6], none⟩,
    ⟨some 18, .mv, [(.t 17)], [7, 6], none⟩,
    ⟨some 19, .build [(D.int .u8 0), (D.int .u8 0)] [], [], [8], some (18, true)⟩,
    ⟨some 20, .load ⟨true, [.int .u8, .int .u64, .int .u64, .int .i64, .sl 30, .int .u8, .int .u32, .int .u32, .int .u32, .int .u8, .int .u64, .int .u64, .int .i64, .sl 85, .int .u8, .int .u8, .int .u8]⟩, [(.t 2)], [8], some (18, true)⟩,
    ⟨some 21, .load ⟨true, [.int .u8, .int .u64, .int .u64, .int .i64, .sl 30, .int .u8, .int .u32, .int .u32, .int .u32, .int .u8, .int .u64, .int .u64, .int .i64, .sl 85, .int .u8, .int .u8, .int .u8]⟩, [(.t 1)], [8], some (18, true)⟩,
    ⟨some 22, .buildSl 6 39, [(.t 20), (.t 21)], [10, 11, 8], some (18, true)⟩,
    ⟨some 23, .call [16], [(.c (D.fn 28 [])), (.t 19), (.c (D.int .i64 1)), (.t 22)], [9, 12, 8, 8], some (18, true)⟩,
    ⟨some 24, .pick, [(.t 18), (.t 23), (.c (D.bool false))], [8, 13], none⟩,
    ⟨some 25, .mv, [(.t 24)], [14, 13], none⟩,
    ⟨some 26, .build [(D.int .u8 0), (D.int .u8 0)] [(0, 1)], [(.c (D.int .u8 1))], [15], some (25, true)⟩,
    ⟨some 27, .load ⟨true, [.int .u8, .int .u64, .int .u64, .int .i64, .sl 30, .int .u8, .int .u32, .int .u32, .int .u32, .int .u8, .int .u64, .int .u64, .int .i64, .sl 85, .int .u8, .int .u8, .int .u8]⟩, [(.t 2)], [15], some (25, true)⟩,
    ⟨some 28, .buildSl 7 39, [(.t 27)], [17, 15], some (25, true)⟩,
    ⟨some 29, .call [17], [(.c (D.fn 28 [])), (.t 26), (.c (D.int .i64 (-1))), (.t 28)], [16, 18, 15, 15], some (25, true)⟩,
    ⟨some 30, .pick, [(.t 25), (.t 29), (.c (D.bool false))], [15, 19], none⟩,
    ⟨some 31, .mv, [(.t 30)], [20, 19], none⟩,
    ⟨some 32, .build [(D.int .u8 0), (D.int .u8 0)] [], [], [21], some (31, true)⟩,
    ⟨some 33, .load ⟨true, [.int .u8, .int .u64, .int .u64, .int .i64, .sl 30, .int .u8, .int .u32, .int .u32, .int .u32, .int .u8, .int .u64, .int .u64, .int .i64, .sl 85, .int .u8, .int .u8, .int .u8]⟩, [(.t 2)], [21], some (31, true)⟩,
    ⟨some 34, .buildSl 8 39, [(.t 33)], [23, 21], some (31, true)⟩,
    ⟨some 35, .call [18], [(.c (D.fn 28 [])), (.t 32), (.c (D.int .i64 0)), (.t 34)], [22, 24, 21, 21], some (31, true)⟩,
    ⟨some 36, .pick, [(.t 31), (.t 35), (.c (D.bool false))], [21, 25], none⟩,
    ⟨some 37, .mv, [(.t 36)], [26, 25], none⟩,
    ⟨some 38, .build [(D.int .u8 0), (D.int .u8 0)] [(1, 1)], [(.c (D.int .u8 1))], [27], some (37, true)⟩,
    ⟨some 39, .load ⟨true, [.int .u8, .int .u64, .int .u64, .int .i64, .sl 30, .int .u8, .int .u32, .int .u32, .int .u32, .int .u8, .int .u64, .int .u64, .int .i64, .sl 85, .int .u8, .int .u8, .int .u8]⟩, [(.t 3)], [27], some (37, true)⟩,
    ⟨some 40, .load ⟨true, [.int .u8, .int .u64, .int .u64, .int .i64, .sl 30, .int .u8, .int .u32, .int .u32, .int .u32, .int .u8, .int .u64, .int .u64, .int .i64, .sl 85, .int .u8, .int .u8, .int .u8]⟩, [(.t 1)], [27], some (37, true)⟩,
    ⟨some 41, .buildSl 9 39, [(.t 39), (.t 40)], [29, 30, 27], some (37, true)⟩,
    ⟨some 42, .call [19], [(.c (D.fn 28 [])), (.t 38), (.c (D.int .i64 1)), (.t 41)], [28, 31, 27, 27], some (37, true)⟩,
    ⟨some 43, .pick, [(.t 37), (.t 42), (.c (D.bool false))], [27, 32], none⟩,
    ⟨some 44, .mv, [(.t 43)], [33, 32], none⟩,
    ⟨some 45, .build [(D.int .u8 0), (D.int .u8 0)] [(1, 1)], [(.c (D.int .u8 1))], [34], some (44, true)⟩,
    ⟨some 46, .load ⟨true, [.int .u8, .int .u64, .int .u64, .int .i64, .sl 30, .int .u8, .int .u32, .int .u32, .int .u32, .int .u8, .int .u64, .int .u64, .int .i64, .sl 85, .int .u8, .int .u8, .int .u8]⟩, [(.t 3)], [34], some (44, true)⟩,
    ⟨some 47, .load ⟨true, [.int .u8, .int .u64, .int .u64, .int .i64, .sl 30, .int .u8, .int .u32, .int .u32, .int .u32, .int .u8, .int .u64, .int .u64, .int .i64, .sl 85, .int .u8, .int .u8, .int .u8]⟩, [(.t 2)], [34], some (44, true)⟩,
    ⟨some 48, .buildSl 10 39, [(.t 46), (.t 47)], [36, 37, 34], some (44, true)⟩,
    ⟨some 49, .call [20], [(.c (D.fn 28 [])), (.t 45), (.c (D.int .i64 (-1))), (.t 48)], [35, 38, 34, 34], some (44, true)⟩,
    ⟨some 50, .pick, [(.t 44), (.t 49), (.c (D.bool false))], [34, 39], none⟩,
    ⟨some 0, .mv, [(.t 50)], [40, 39, 0, 1, 2, 3, 4, 5, 6, 7, 8, 9, 10, 11, 12, 13, 14, 15, 16, 17, 18, 19, 20, 21, 22, 23, 24, 25, 26, 27, 28, 29, 30, 31, 32, 33, 34, 35, 36, 37, 38, 39, 40], none⟩])
  (.ret)))⟩

/- 4: gatepath/gatepathlaw44.PolicyTotal -/
def c_gatepathlaw44_PolicyTotal : DFun := ⟨206, 23, [.p, .p, .p], [.p ⟨false, [.bool]⟩], [.t 6],
  .seq (.region false [
    ⟨some 3, .box 3, [(.t 0)], [], none⟩,
    ⟨some 4, .box 4, [(.t 1)], [], none⟩,
    ⟨some 5, .box 5, [(.t 2)], [], none⟩,
    ⟨some 6, .mv, [(.c (D.bool false))], [], none⟩])
  (.seq (.region false [
    ⟨some 19, .call [6], [(.c (D.fn 12 []))], [], none⟩,
    ⟨some 7, .mv, [(.t 19)], [0, 0, 0], none⟩])
  (.seq (.seq (.region false [
    ⟨some 20, .fld 0, [(.t 3)], [], none⟩,
    ⟨some 21, .load ⟨true, [.int .u8, .int .u64, .int .u64, .int .i64, .sl 30, .int .u8, .int .u32, .int .u32, .int .u32, .int .u8, .int .u64, .int .u64, .int .i64, .sl 85]⟩, [(.t 20)], [0], none⟩,
    ⟨some 22, .call [7], [(.c (D.fn 7 [])), (.t 21)], [1], none⟩,
    ⟨some 23, .mv, [(.t 22)], [2, 2], none⟩,
    ⟨some 24, .fld 0, [(.t 4)], [3], some (23, false)⟩,
    ⟨some 25, .load ⟨true, [.int .u8, .int .u64, .int .u64, .int .i64, .sl 30, .int .u8, .int .u32, .int .u32, .int .u32, .int .u8, .int .u64, .int .u64, .int .i64, .sl 85]⟩, [(.t 24)], [4, 3], some (23, false)⟩,
    ⟨some 26, .call [8], [(.c (D.fn 7 [])), (.t 25)], [5, 3, 3], some (23, false)⟩,
    ⟨some 27, .pick, [(.t 23), (.c (D.bool true)), (.t 26)], [3, 6], none⟩,
    ⟨some 28, .mv, [(.t 27)], [7, 6], none⟩,
    ⟨some 29, .fld 0, [(.t 5)], [8], some (28, false)⟩,
    ⟨some 30, .load ⟨true, [.int .u8, .int .u64, .int .u64, .int .i64, .sl 30, .int .u8, .int .u32, .int .u32, .int .u32, .int .u8, .int .u64, .int .u64, .int .i64, .sl 85]⟩, [(.t 29)], [9, 8], some (28, false)⟩,
    ⟨some 31, .call [9], [(.c (D.fn 7 [])), (.t 30)], [10, 8, 8], some (28, false)⟩,
    ⟨some 32, .pick, [(.t 28), (.c (D.bool true)), (.t 31)], [8, 11], none⟩,
    ⟨some 33, .mv, [(.t 32)], [12, 11], none⟩,
    ⟨some 34, .mv, [(.t 7)], [13], some (33, false)⟩,
    ⟨some 35, .not, [(.t 34)], [14, 13], some (33, false)⟩,
    ⟨some 36, .pick, [(.t 33), (.c (D.bool true)), (.t 35)], [13, 15], none⟩])
  (.cond (.t 36) (.seq (.region false [
    ⟨some 37, .mv, [(.t 7)], [], none⟩,
    ⟨some 6, .mv, [(.t 37)], [0, 0], none⟩])
  (.ret)) (.skip)))
  (.seq (.region false [
    ⟨some 39, .load ⟨true, [.int .u8, .int .u64, .int .u64, .int .i64, .sl 30, .int .u8, .int .u32, .int .u32, .int .u32, .int .u8, .int .u64, .int .u64, .int .i64, .sl 85, .int .u8, .int .u8, .int .u8]⟩, [(.t 3)], [], none⟩,
    ⟨some 40, .load ⟨true, [.int .u8, .int .u64, .int .u64, .int .i64, .sl 30, .int .u8, .int .u32, .int .u32, .int .u32, .int .u8, .int .u64, .int .u64, .int .i64, .sl 85, .int .u8, .int .u8, .int .u8]⟩, [(.t 4)], [], none⟩,
    ⟨some 41, .call [10, 11], [(.c (D.fn 10 [])), (.t 39), (.t 40)], [0, 1], none⟩,
    ⟨some 38, .mv, [(.t 41)], [2], none⟩,
    ⟨some 42, .ext 0, [(.t 38)], [3], none⟩,
    ⟨some 43, .ext 1, [(.t 38)], [3], none⟩,
    ⟨some 8, .mv, [(.t 42)], [4, 2, 0, 1, 2, 3, 4], none⟩,
    ⟨some 9, .mv, [(.t 43)], [5, 6, 0, 1, 2, 3, 4, 5, 6], none⟩])
  (.seq (.region false [
    ⟨some 45, .load ⟨true, [.int .u8, .int .u64, .int .u64, .int .i64, .sl 30, .int .u8, .int .u32, .int .u32, .int .u32, .int .u8, .int .u64, .int .u64, .int .i64, .sl 85, .int .u8, .int .u8, .int .u8]⟩, [(.t 4)], [], none⟩,
    ⟨some 46, .load ⟨true, [.int .u8, .int .u64, .int .u64, .int .i64, .sl 30, .int .u8, .int .u32, .int .u32, .int .u32, .int .u8, .int .u64, .int .u64, .int .i64, .sl 85, .int .u8, .int .u8, .int .u8]⟩, [(.t 3)], [], none⟩,
    ⟨some 47, .call [12, 13], [(.c (D.fn 10 [])), (.t 45), (.t 46)], [0, 1], none⟩,
    ⟨some 44, .mv, [(.t 47)], [2], none⟩,
    ⟨some 48, .ext 0, [(.t 44)], [3], none⟩,
    ⟨some 49, .ext 1, [(.t 44)], [3], none⟩,
    ⟨some 10, .mv, [(.t 48)], [4, 2, 0, 1, 2, 3, 4], none⟩,
    ⟨some 11, .mv, [(.t 49)], [5, 6, 0, 1, 2, 3, 4, 5, 6], none⟩])
  (.seq (.seq (.region false [
    ⟨some 50, .load ⟨true, [.int .u8, .int .u64, .int .u64, .int .i64, .sl 30, .int .u8, .int .u32, .int .u32, .int .u32, .int .u8, .int .u64, .int .u64, .int .i64, .sl 85, .int .u8, .int .u8, .int .u8]⟩, [(.t 3)], [], none⟩,
    ⟨some 51, .call [14], [(.c (D.fn 13 [])), (.t 50)], [0], none⟩,
    ⟨some 52, .not, [(.t 51)], [1], none⟩,
    ⟨some 53, .mv, [(.t 52)], [2, 1], none⟩,
    ⟨some 54, .load ⟨true, [.int .u8, .int .u64, .int .u64, .int .i64, .sl 30, .int .u8, .int .u32, .int .u32, .int .u32, .int .u8, .int .u64, .int .u64, .int .i64, .sl 85, .int .u8, .int .u8, .int .u8]⟩, [(.t 4)], [3], some (53, false)⟩,
    ⟨some 55, .call [15], [(.c (D.fn 13 [])), (.t 54)], [4, 3, 3], some (53, false)⟩,
    ⟨some 56, .not, [(.t 55)], [5, 3], some (53, false)⟩,
    ⟨some 57, .pick, [(.t 53), (.c (D.bool true)), (.t 56)], [3, 6], none⟩])
  (.cond (.t 57) (.seq (.region false [
    ⟨some 58, .mv, [(.t 7)], [], none⟩,
    ⟨some 59, .mv, [(.t 58)], [0], none⟩,
    ⟨some 60, .mv, [(.t 9)], [1], some (59, true)⟩,
    ⟨some 61, .bin .eql, [(.t 60), (.c (D.int .i64 8))], [2, 1], some (59, true)⟩,
    ⟨some 62, .pick, [(.t 59), (.t 61), (.c (D.bool false))], [1, 3], none⟩,
    ⟨some 63, .mv, [(.t 62)], [4, 1], none⟩,
    ⟨some 64, .mv, [(.t 11)], [5], some (63, true)⟩,
    ⟨some 65, .bin .eql, [(.t 64), (.c (D.int .i64 8))], [6, 5], some (63, true)⟩,
    ⟨some 66, .pick, [(.t 63), (.t 65), (.c (D.bool false))], [5, 7], none⟩,
    ⟨some 67, .mv, [(.t 66)], [8, 5], none⟩,
    ⟨some 68, .mv, [(.t 8)], [9], some (67, true)⟩,
    ⟨some 69, .bin .eql, [(.t 68), (.c (D.int .i64 0))], [10, 9], some (67, true)⟩,
    ⟨some 70, .pick, [(.t 67), (.t 69), (.c (D.bool false))], [9, 11], none⟩,
    ⟨some 71, .mv, [(.t 70)], [12, 9], none⟩,
    ⟨some 72, .mv, [(.t 10)], [13], some (71, true)⟩,
    ⟨some 73, .bin .eql, [(.t 72), (.c (D.int .i64 0))], [14, 13], some (71, true)⟩,
    ⟨some 74, .pick, [(.t 71), (.t 73), (.c (D.bool false))], [13, 15], none⟩,
    ⟨some 6, .mv, [(.t 74)], [16, 13, 0, 1, 2, 3, 4, 5, 6, 7, 8, 9, 10, 11, 12, 13, 14, 15, 16], none⟩])
  (.ret)) (.skip)))
  (.seq (.seq (.region false [
    ⟨some 75, .mv, [(.t 9)], [], none⟩,
    ⟨some 76, .bin .neq, [(.t 75), (.c (D.int .i64 0))], [0], none⟩,
    ⟨some 77, .mv, [(.t 76)], [1], none⟩,
    ⟨some 78, .mv, [(.t 11)], [2], some (77, false)⟩,
    ⟨some 79, .bin .neq, [(.t 78), (.c (D.int .i64 0))], [3, 2], some (77, false)⟩,
    ⟨some 80, .pick, [(.t 77), (.c (D.bool true)), (.t 79)], [2, 4], none⟩,
    ⟨some 81, .mv, [(.t 80)], [5, 2], none⟩,
    ⟨some 82, .mv, [(.t 8)], [6], some (81, false)⟩,
    ⟨some 83, .mv, [(.t 10)], [6], some (81, false)⟩,
    ⟨some 84, .neg, [(.t 83)], [8, 6], some (81, false)⟩,
    ⟨some 85, .bin .neq, [(.t 82), (.t 84)], [7, 9, 6], some (81, false)⟩,
    ⟨some 86, .pick, [(.t 81), (.c (D.bool true)), (.t 85)], [6, 10], none⟩,
    ⟨some 87, .mv, [(.t 86)], [11, 6], none⟩,
    ⟨some 88, .mv, [(.t 8)], [12], some (87, false)⟩,
    ⟨some 89, .bin .lss, [(.t 88), (.c (D.int .i64 (-1)))], [13, 12], some (87, false)⟩,
    ⟨some 90, .pick, [(.t 87), (.c (D.bool true)), (.t 89)], [12, 14], none⟩,
    ⟨some 91, .mv, [(.t 90)], [15, 12], none⟩,
    ⟨some 92, .mv, [(.t 8)], [16], some (91, false)⟩,
    ⟨some 93, .bin .gtr, [(.t 92), (.c (D.int .i64 1))], [17, 16], some (91, false)⟩,
    ⟨some 94, .pick, [(.t 91), (.c (D.bool true)), (.t 93)], [16, 18], none⟩])
  (.cond (.t 94) (.seq (.region false [
    ⟨some 6, .mv, [(.c (D.bool false))], [], none⟩])
  (.ret)) (.skip)))
  (.seq (.seq (.region false [
    ⟨some 95, .mv, [(.t 8)], [], none⟩,
    ⟨some 96, .bin .eql, [(.t 95), (.c (D.int .i64 0))], [0], none⟩,
    ⟨some 97, .mv, [(.t 96)], [1], none⟩,
    ⟨some 98, .fld 0, [(.t 3)], [2], some (97, true)⟩,
    ⟨some 99, .fld 6, [(.t 98)], [3, 2], some (97, true)⟩,
    ⟨some 100, .load ⟨false, [.int .u32]⟩, [(.t 99)], [4, 2], some (97, true)⟩,
    ⟨some 101, .fld 0, [(.t 4)], [2], some (97, true)⟩,
    ⟨some 102, .fld 6, [(.t 101)], [6, 2], some (97, true)⟩,
    ⟨some 103, .load ⟨false, [.int .u32]⟩, [(.t 102)], [7, 2], some (97, true)⟩,
    ⟨some 104, .bin .neq, [(.t 100), (.t 103)], [5, 8, 2], some (97, true)⟩,
    ⟨some 105, .mv, [(.t 104)], [9, 2, 2], some (97, true)⟩,
    ⟨some 106, .fld 0, [(.t 3)], [10], some (105, false)⟩,
    ⟨some 107, .fld 5, [(.t 106)], [11, 10], some (105, false)⟩,
    ⟨some 108, .load ⟨false, [.int .u8]⟩, [(.t 107)], [12, 10], some (105, false)⟩,
    ⟨some 109, .fld 0, [(.t 4)], [10], some (105, false)⟩,
    ⟨some 110, .fld 5, [(.t 109)], [14, 10], some (105, false)⟩,
    ⟨some 111, .load ⟨false, [.int .u8]⟩, [(.t 110)], [15, 10], some (105, false)⟩,
    ⟨some 112, .bin .neq, [(.t 108), (.t 111)], [13, 16, 10], some (105, false)⟩,
    ⟨some 113, .pick, [(.t 105), (.c (D.bool true)), (.t 112)], [10, 17, 2], some (97, true)⟩,
    ⟨some 114, .mv, [(.t 113)], [18, 10, 2], some (97, true)⟩,
    ⟨some 115, .fld 0, [(.t 3)], [19], some (114, false)⟩,
    ⟨some 116, .fld 7, [(.t 115)], [20, 19], some (114, false)⟩,
    ⟨some 117, .load ⟨false, [.int .u32]⟩, [(.t 116)], [21, 19], some (114, false)⟩,
    ⟨some 118, .fld 0, [(.t 4)], [19], some (114, false)⟩,
    ⟨some 119, .fld 7, [(.t 118)], [23, 19], some (114, false)⟩,
    ⟨some 120, .load ⟨false, [.int .u32]⟩, [(.t 119)], [24, 19], some (114, false)⟩,
    ⟨some 121, .bin .neq, [(.t 117), (.t 120)], [22, 25, 19], some (114, false)⟩,
    ⟨some 122, .pick, [(.t 114), (.c (D.bool true)), (.t 121)], [19, 26, 2], some (97, true)⟩,
    ⟨some 123, .mv, [(.t 122)], [27, 19, 2], some (97, true)⟩,
    ⟨some 124, .fld 0, [(.t 3)], [28], some (123, false)⟩,
    ⟨some 125, .fld 8, [(.t 124)], [29, 28], some (123, false)⟩,
    ⟨some 126, .load ⟨false, [.int .u32]⟩, [(.t 125)], [30, 28], some (123, false)⟩,
    ⟨some 127, .fld 0, [(.t 4)], [28], some (123, false)⟩,
    ⟨some 128, .fld 8, [(.t 127)], [32, 28], some (123, false)⟩,
    ⟨some 129, .load ⟨false, [.int .u32]⟩, [(.t 128)], [33, 28], some (123, false)⟩,
    ⟨some 130, .bin .neq, [(.t 126), (.t 129)], [31, 34, 28], some (123, false)⟩,
    ⟨some 131, .pick, [(.t 123), (.c (D.bool true)), (.t 130)], [28, 35, 2], some (97, true)⟩,
    ⟨some 132, .mv, [(.t 131)], [36, 28, 2], some (97, true)⟩,
    ⟨some 133, .fld 0, [(.t 3)], [37], some (132, false)⟩,
    ⟨some 134, .fld 4, [(.t 133)], [38, 37], some (132, false)⟩,
    ⟨some 135, .load ⟨false, [.sl 30]⟩, [(.t 134)], [39, 37], some (132, false)⟩,
    ⟨some 136, .len, [(.t 135)], [40, 37], some (132, false)⟩,
    ⟨some 137, .fld 0, [(.t 4)], [37], some (132, false)⟩,
    ⟨some 138, .fld 4, [(.t 137)], [42, 37], some (132, false)⟩,
    ⟨some 139, .load ⟨false, [.sl 30]⟩, [(.t 138)], [43, 37], some (132, false)⟩,
    ⟨some 140, .len, [(.t 139)], [44, 37], some (132, false)⟩,
    ⟨some 141, .bin .neq, [(.t 136), (.t 140)], [41, 45, 37], some (132, false)⟩,
    ⟨some 142, .pick, [(.t 132), (.c (D.bool true)), (.t 141)], [37, 46, 2], some (97, true)⟩,
    ⟨some 143, .pick, [(.t 97), (.t 142), (.c (D.bool false))], [2, 47], none⟩])
  (.cond (.t 143) (.seq (.region false [
    ⟨some 6, .mv, [(.c (D.bool false))], [], none⟩])
  (.ret)) (.skip)))
  (.seq (.region false [
    ⟨some 145, .load ⟨true, [.int .u8, .int .u64, .int .u64, .int .i64, .sl 30, .int .u8, .int .u32, .int .u32, .int .u32, .int .u8, .int .u64, .int .u64, .int .i64, .sl 85, .int .u8, .int .u8, .int .u8]⟩, [(.t 3)], [], none⟩,
    ⟨some 146, .load ⟨true, [.int .u8, .int .u64, .int .u64, .int .i64, .sl 30, .int .u8, .int .u32, .int .u32, .int .u32, .int .u8, .int .u64, .int .u64, .int .i64, .sl 85, .int .u8, .int .u8, .int .u8]⟩, [(.t 3)], [], none⟩,
    ⟨some 147, .call [16, 17], [(.c (D.fn 10 [])), (.t 145), (.t 146)], [0, 1], none⟩,
    ⟨some 144, .mv, [(.t 147)], [2], none⟩,
    ⟨some 148, .ext 0, [(.t 144)], [3], none⟩,
    ⟨some 149, .ext 1, [(.t 144)], [3], none⟩,
    ⟨some 12, .mv, [(.t 148)], [4, 2, 0, 1, 2, 3, 4], none⟩,
    ⟨some 13, .mv, [(.t 149)], [5, 6, 0, 1, 2, 3, 4, 5, 6], none⟩])
  (.seq (.seq (.region false [
    ⟨some 150, .mv, [(.t 13)], [], none⟩,
    ⟨some 151, .bin .neq, [(.t 150), (.c (D.int .i64 0))], [0], none⟩,
    ⟨some 152, .mv, [(.t 151)], [1], none⟩,
    ⟨some 153, .mv, [(.t 12)], [2], some (152, false)⟩,
    ⟨some 154, .bin .neq, [(.t 153), (.c (D.int .i64 0))], [3, 2], some (152, false)⟩,
    ⟨some 155, .pick, [(.t 152), (.c (D.bool true)), (.t 154)], [2, 4], none⟩])
  (.cond (.t 155) (.seq (.region false [
    ⟨some 6, .mv, [(.c (D.bool false))], [], none⟩])
  (.ret)) (.skip)))
  (.seq (.seq (.region false [
    ⟨some 156, .load ⟨true, [.int .u8, .int .u64, .int .u64, .int .i64, .sl 30, .int .u8, .int .u32, .int .u32, .int .u32, .int .u8, .int .u64, .int .u64, .int .i64, .sl 85, .int .u8, .int .u8, .int .u8]⟩, [(.t 5)], [], none⟩,
    ⟨some 157, .call [18], [(.c (D.fn 13 [])), (.t 156)], [0], none⟩,
    ⟨some 158, .not, [(.t 157)], [1], none⟩])
  (.cond (.t 158) (.seq (.region false [
    ⟨some 159, .mv, [(.t 7)], [], none⟩,
    ⟨some 6, .mv, [(.t 159)], [0, 0], none⟩])
  (.ret)) (.skip)))
  (.seq (.region false [
    ⟨some 161, .load ⟨true, [.int .u8, .int .u64, .int .u64, .int .i64, .sl 30, .int .u8, .int .u32, .int .u32, .int .u32, .int .u8, .int .u64, .int .u64, .int .i64, .sl 85, .int .u8, .int .u8, .int .u8]⟩, [(.t 4)], [], none⟩,
    ⟨some 162, .load ⟨true, [.int .u8, .int .u64, .int .u64, .int .i64, .sl 30, .int .u8, .int .u32, .int .u32, .int .u32, .int .u8, .int .u64, .int .u64, .int .i64, .sl 85, .int .u8, .int .u8, .int .u8]⟩, [(.t 5)], [], none⟩,
    ⟨some 163, .call [19, 20], [(.c (D.fn 10 [])), (.t 161), (.t 162)], [0, 1], none⟩,
    ⟨some 160, .mv, [(.t 163)], [2], none⟩,
    ⟨some 164, .ext 0, [(.t 160)], [3], none⟩,
    ⟨some 165, .ext 1, [(.t 160)], [3], none⟩,
    ⟨some 14, .mv, [(.t 164)], [4, 2, 0, 1, 2, 3, 4], none⟩,
    ⟨some 15, .mv, [(.t 165)], [5, 6, 0, 1, 2, 3, 4, 5, 6], none⟩])
  (.seq (.region false [
    ⟨some 167, .load ⟨true, [.int .u8, .int .u64, .int .u64, .int .i64, .sl 30, .int .u8, .int .u32, .int .u32, .int .u32, .int .u8, .int .u64, .int .u64, .int .i64, .sl 85, .int .u8, .int .u8, .int .u8]⟩, [(.t 3)], [], none⟩,
    ⟨some 168, .load ⟨true, [.int .u8, .int .u64, .int .u64, .int .i64, .sl 30, .int .u8, .int .u32, .int .u32, .int .u32, .int .u8, .int .u64, .int .u64, .int .i64, .sl 85, .int .u8, .int .u8, .int .u8]⟩, [(.t 5)], [], none⟩,
    ⟨some 169, .call [21, 22], [(.c (D.fn 10 [])), (.t 167), (.t 168)], [0, 1], none⟩,
    ⟨some 166, .mv, [(.t 169)], [2], none⟩,
    ⟨some 170, .ext 0, [(.t 166)], [3], none⟩,
    ⟨some 171, .ext 1, [(.t 166)], [3], none⟩,
    ⟨some 16, .mv, [(.t 170)], [4, 2, 0, 1, 2, 3, 4], none⟩,
    ⟨some 17, .mv, [(.t 171)], [5, 6, 0, 1, 2, 3, 4, 5, 6], none⟩])
  (.seq (.seq (.region false [
    ⟨some 172, .mv, [(.t 15)], [], none⟩,
    ⟨some 173, .bin .neq, [(.t 172), (.c (D.int .i64 0))], [0], none⟩,
    ⟨some 174, .mv, [(.t 173)], [1], none⟩,
    ⟨some 175, .mv, [(.t 17)], [2], some (174, false)⟩,
    ⟨some 176, .bin .neq, [(.t 175), (.c (D.int .i64 0))], [3, 2], some (174, false)⟩,
    ⟨some 177, .pick, [(.t 174), (.c (D.bool true)), (.t 176)], [2, 4], none⟩])
  (.cond (.t 177) (.seq (.region false [
    ⟨some 6, .mv, [(.c (D.bool false))], [], none⟩])
  (.ret)) (.skip)))
  (.seq (.seq (.region false [
    ⟨some 178, .mv, [(.t 8)], [], none⟩,
    ⟨some 179, .bin .leq, [(.t 178), (.c (D.int .i64 0))], [0], none⟩,
    ⟨some 180, .mv, [(.t 179)], [1], none⟩,
    ⟨some 181, .mv, [(.t 14)], [2], some (180, true)⟩,
    ⟨some 182, .bin .leq, [(.t 181), (.c (D.int .i64 0))], [3, 2], some (180, true)⟩,
    ⟨some 183, .pick, [(.t 180), (.t 182), (.c (D.bool false))], [2, 4], none⟩])
  (.cond (.t 183) (.seq (.region false [
    ⟨some 184, .mv, [(.t 8)], [], none⟩,
    ⟨some 185, .mv, [(.t 14)], [], none⟩,
    ⟨some 186, .mn, [(.t 184), (.t 185)], [0, 1], none⟩,
    ⟨some 18, .mv, [(.t 186)], [2, 0, 1, 2], none⟩])
  (.seq (.region false [
    ⟨some 187, .mv, [(.t 7)], [], none⟩,
    ⟨some 188, .mv, [(.t 187)], [0], none⟩,
    ⟨some 189, .mv, [(.t 16)], [1], some (188, true)⟩,
    ⟨some 190, .mv, [(.t 18)], [1], some (188, true)⟩,
    ⟨some 191, .bin .eql, [(.t 189), (.t 190)], [2, 3, 1], some (188, true)⟩,
    ⟨some 192, .pick, [(.t 188), (.t 191), (.c (D.bool false))], [1, 4], none⟩,
    ⟨some 6, .mv, [(.t 192)], [5, 1, 0, 1, 2, 3, 4, 5], none⟩])
  (.ret))) (.skip)))
  (.seq (.region false [
    ⟨some 193, .mv, [(.t 7)], [], none⟩,
    ⟨some 194, .mv, [(.t 193)], [0], none⟩,
    ⟨some 195, .mv, [(.t 8)], [1], some (194, true)⟩,
    ⟨some 196, .bin .lss, [(.t 195), (.c (D.int .i64 0))], [2, 1], some (194, true)⟩,
    ⟨some 197, .mv, [(.t 196)], [3, 1, 1], some (194, true)⟩,
    ⟨some 198, .mv, [(.t 14)], [4], some (197, false)⟩,
    ⟨some 199, .bin .lss, [(.t 198), (.c (D.int .i64 0))], [5, 4], some (197, false)⟩,
    ⟨some 200, .pick, [(.t 197), (.c (D.bool true)), (.t 199)], [4, 6, 1], some (194, true)⟩,
    ⟨some 201, .mv, [(.t 200)], [7, 4, 1], some (194, true)⟩,
    ⟨some 202, .mv, [(.t 16)], [8], some (201, false)⟩,
    ⟨some 203, .bin .geq, [(.t 202), (.c (D.int .i64 0))], [9, 8], some (201, false)⟩,
    ⟨some 204, .pick, [(.t 201), (.c (D.bool true)), (.t 203)], [8, 10, 1], some (194, true)⟩,
    ⟨some 205, .pick, [(.t 194), (.t 204), (.c (D.bool false))], [1, 11], none⟩,
    ⟨some 6, .mv, [(.t 205)], [12, 8, 0, 1, 2, 3, 4, 5, 6, 7, 8, 9, 10, 11, 12], none⟩])
  (.ret))))))))))))))))⟩

/- 14: gatepath/gatepathref44.Great -/
def c_gatepathref44_Great : DFun := ⟨29, 2, [.p], [.p ⟨false, [.bool]⟩], [.t 2],
  .seq (.region false [
    ⟨some 2, .mv, [(.c (D.bool false))], [], none⟩])
  (.seq (.seq (.region false [
    ⟨some 4, .mv, [(.t 0)], [], none⟩,
    ⟨some 5, .len, [(.t 4)], [0], none⟩,
    ⟨some 6, .bin .gtr, [(.t 5), (.c (D.int .i64 40))], [1], none⟩,
    ⟨some 7, .mv, [(.t 6)], [2], none⟩,
    ⟨some 8, .mv, [(.t 0)], [3], some (7, true)⟩,
    ⟨some 9, .len, [(.t 8)], [4, 3], some (7, true)⟩,
    ⟨some 10, .bin .leq, [(.t 9), (.c (D.int .i64 500))], [5, 3], some (7, true)⟩,
    ⟨some 11, .pick, [(.t 7), (.t 10), (.c (D.bool false))], [3, 6], none⟩,
    ⟨some 12, .mv, [(.t 11)], [7, 3], none⟩,
    ⟨some 13, .mv, [(.t 0)], [8], some (12, false)⟩,
    ⟨some 14, .len, [(.t 13)], [9, 8], some (12, false)⟩,
    ⟨some 15, .bin .gtr, [(.t 14), (.c (D.int .i64 510))], [10, 8], some (12, false)⟩,
    ⟨some 16, .pick, [(.t 12), (.c (D.bool true)), (.t 15)], [8, 11], none⟩])
  (.cond (.t 16) (.seq (.region false [
    ⟨some 2, .mv, [(.c (D.bool true))], [], none⟩])
  (.ret)) (.skip)))
  (.seq (.seq (.region false [
    ⟨some 3, .mv, [(.c (D.int .i64 0))], [], none⟩])
  (.block 0 (.loop ⟨[0], [(3, .p ⟨false, [.int .i64]⟩)], []⟩ (.seq (.seq (.region false [
    ⟨some 17, .mv, [(.t 3)], [], none⟩,
    ⟨some 18, .mv, [(.t 0)], [], none⟩,
    ⟨some 19, .len, [(.t 18)], [1], none⟩,
    ⟨some 20, .bin .lss, [(.t 17), (.t 19)], [0, 2], none⟩])
  (.cond (.t 20) (.skip) (.exit 0)))
  (.seq (.block 1 (.seq (.region false [
    ⟨some 23, .mv, [(.t 0)], [], none⟩,
    ⟨some 24, .mv, [(.t 3)], [], none⟩,
    ⟨some 25, .idxA 39, [(.t 23), (.t 24)], [0, 1], none⟩,
    ⟨some 26, .fld 0, [(.t 25)], [2], none⟩,
    ⟨some 27, .load ⟨true, [.int .u8, .int .u64, .int .u64, .int .i64, .sl 30, .int .u8, .int .u32, .int .u32, .int .u32, .int .u8, .int .u64, .int .u64, .int .i64, .sl 85]⟩, [(.t 26)], [3], none⟩,
    ⟨some 28, .call [1], [(.c (D.fn 7 [])), (.t 27)], [4], none⟩])
  (.cond (.t 28) (.seq (.region false [
    ⟨some 2, .mv, [(.c (D.bool true))], [], none⟩])
  (.ret)) (.skip))))
  (.region false [
    ⟨some 21, .mv, [(.t 3)], [], none⟩,
    ⟨some 22, .bin .add, [(.t 21), (.c (D.int .i64 1))], [0], none⟩,
    ⟨some 3, .mv, [(.t 22)], [1, 0, 1], none⟩]))))))
  (.seq (.region false [
    ⟨some 2, .mv, [(.c (D.bool false))], [], none⟩])
  (.ret))))⟩

/- 16: gatepath/gatepathlaw44.wrong -/
def c_gatepathlaw44_wrong : DFun := ⟨22, 2, [.p], [.p ⟨false, [.int .i64]⟩], [.t 2],
  .seq (.region false [
    ⟨some 1, .box 1, [(.t 0)], [], none⟩,
    ⟨some 2, .mv, [(.c (D.int .i64 0))], [], none⟩])
  (.seq (.region false [
    ⟨some 3, .mv, [(.c (D.int .i64 0))], [], none⟩])
  (.seq (.seq (.region false [
    ⟨some 6, .fld 0, [(.t 1)], [], none⟩,
    ⟨some 7, .load ⟨false, [.int .u8]⟩, [(.t 6)], [0], none⟩,
    ⟨some 8, .fld 1, [(.t 1)], [], none⟩,
    ⟨some 9, .load ⟨false, [.int .u8]⟩, [(.t 8)], [2], none⟩,
    ⟨some 10, .fld 2, [(.t 1)], [], none⟩,
    ⟨some 11, .load ⟨false, [.int .u8]⟩, [(.t 10)], [4], none⟩,
    ⟨some 12, .build [(D.int .u8 0), (D.int .u8 0), (D.int .u8 0)] [(0, 1), (1, 1), (2, 1)], [(.t 7), (.t 9), (.t 11)], [1, 3, 5], none⟩,
    ⟨some 13, .mv, [(.c (D.int .i64 0))], [], none⟩])
  (.block 0 (.loop ⟨[12], [(3, .p ⟨false, [.int .i64]⟩), (13, .p ⟨false, [.int .i64]⟩)], []⟩ (.seq (.region false [
    ⟨some 14, .bin .lss, [(.t 13), (.c (D.int .i64 3))], [], none⟩])
  (.seq (.cond (.t 14) (.skip) (.exit 0))
  (.seq (.block 1 (.seq (.region false [
    ⟨some 15, .idxV ⟨false, [.int .u8]⟩ 3, [(.t 12), (.t 13)], [], none⟩,
    ⟨some 5, .mv, [(.t 15)], [0, 0], none⟩])
  (.seq (.region false [
    ⟨some 16, .mv, [(.t 5)], [], none⟩,
    ⟨some 17, .bin .eql, [(.t 16), (.c (D.int .u8 2))], [0], none⟩])
  (.cond (.t 17) (.region false [
    ⟨some 18, .mv, [(.t 3)], [], none⟩,
    ⟨some 19, .bin .add, [(.t 18), (.c (D.int .i64 1))], [0], none⟩,
    ⟨some 3, .mv, [(.t 19)], [1, 0, 1], none⟩]) (.skip)))))
  (.region false [
    ⟨some 20, .bin .add, [(.t 13), (.c (D.int .i64 1))], [], none⟩,
    ⟨some 13, .mv, [(.t 20)], [0], none⟩])))))))
  (.seq (.region false [
    ⟨some 21, .mv, [(.t 3)], [], none⟩,
    ⟨some 2, .mv, [(.t 21)], [0, 0], none⟩])
  (.ret))))⟩

/- 5: gatepath/gatepathlaw44.PolicyLast -/
def c_gatepathlaw44_PolicyLast : DFun := ⟨105, 12, [.p, .p], [.p ⟨false, [.bool]⟩], [.t 4],
  .seq (.region false [
    ⟨some 2, .box 2, [(.t 0)], [], none⟩,
    ⟨some 4, .mv, [(.c (D.bool false))], [], none⟩])
  (.seq (.region false [
    ⟨some 11, .call [3], [(.c (D.fn 12 []))], [], none⟩,
    ⟨some 5, .mv, [(.t 11)], [0, 0, 0], none⟩])
  (.seq (.seq (.region false [
    ⟨some 12, .mv, [(.t 1)], [], none⟩,
    ⟨some 13, .call [4], [(.c (D.fn 14 [])), (.t 12)], [0], none⟩,
    ⟨some 14, .mv, [(.t 13)], [1, 1], none⟩,
    ⟨some 15, .mv, [(.t 5)], [2], some (14, false)⟩,
    ⟨some 16, .not, [(.t 15)], [3, 2], some (14, false)⟩,
    ⟨some 17, .pick, [(.t 14), (.c (D.bool true)), (.t 16)], [2, 4], none⟩])
  (.cond (.t 17) (.seq (.region false [
    ⟨some 18, .mv, [(.t 5)], [], none⟩,
    ⟨some 4, .mv, [(.t 18)], [0, 0], none⟩])
  (.ret)) (.skip)))
  (.seq (.region false [
    ⟨some 20, .load ⟨true, [.int .u8, .int .u8]⟩, [(.t 2)], [], none⟩,
    ⟨some 21, .mv, [(.t 1)], [], none⟩,
    ⟨some 22, .call [5, 6], [(.c (D.fn 15 [])), (.t 20), (.t 21)], [0, 1], none⟩,
    ⟨some 19, .mv, [(.t 22)], [2], none⟩,
    ⟨some 23, .ext 0, [(.t 19)], [3], none⟩,
    ⟨some 24, .ext 1, [(.t 19)], [3], none⟩,
    ⟨some 6, .mv, [(.t 23)], [4, 2, 0, 1, 2, 3, 4], none⟩,
    ⟨some 7, .mv, [(.t 24)], [5, 6, 0, 1, 2, 3, 4, 5, 6], none⟩])
  (.seq (.seq (.region false [
    ⟨some 25, .mv, [(.t 7)], [], none⟩,
    ⟨some 26, .bin .neq, [(.t 25), (.c (D.int .i64 0))], [0], none⟩])
  (.cond (.t 26) (.seq (.region false [
    ⟨some 27, .mv, [(.t 5)], [], none⟩,
    ⟨some 28, .mv, [(.t 27)], [0], none⟩,
    ⟨some 29, .mv, [(.t 6)], [1], some (28, true)⟩,
    ⟨some 30, .bin .eql, [(.t 29), (.c (D.int .i64 0))], [2, 1], some (28, true)⟩,
    ⟨some 31, .pick, [(.t 28), (.t 30), (.c (D.bool false))], [1, 3], none⟩,
    ⟨some 4, .mv, [(.t 31)], [4, 1, 0, 1, 2, 3, 4], none⟩])
  (.ret)) (.skip)))
  (.seq (.seq (.region false [
    ⟨some 32, .mv, [(.t 6)], [], none⟩,
    ⟨some 33, .bin .lss, [(.t 32), (.c (D.int .i64 (-1)))], [0], none⟩,
    ⟨some 34, .mv, [(.t 33)], [1], none⟩,
    ⟨some 35, .mv, [(.t 6)], [2], some (34, false)⟩,
    ⟨some 36, .mv, [(.t 1)], [2], some (34, false)⟩,
    ⟨some 37, .len, [(.t 36)], [4, 2], some (34, false)⟩,
    ⟨some 38, .bin .geq, [(.t 35), (.t 37)], [3, 5, 2], some (34, false)⟩,
    ⟨some 39, .pick, [(.t 34), (.c (D.bool true)), (.t 38)], [2, 6], none⟩])
  (.cond (.t 39) (.seq (.region false [
    ⟨some 4, .mv, [(.c (D.bool false))], [], none⟩])
  (.ret)) (.skip)))
  (.seq (.seq (.region false [
    ⟨some 8, .mv, [(.c (D.int .i64 0))], [], none⟩])
  (.block 0 (.loop ⟨[1, 2, 5, 6], [(8, .p ⟨false, [.int .i64]⟩)], [(2, .v [.p (.int .u8), .p (.int .u8)])]⟩ (.seq (.seq (.region false [
    ⟨some 40, .mv, [(.t 8)], [], none⟩,
    ⟨some 41, .mv, [(.t 1)], [], none⟩,
    ⟨some 42, .len, [(.t 41)], [1], none⟩,
    ⟨some 43, .bin .lss, [(.t 40), (.t 42)], [0, 2], none⟩])
  (.cond (.t 43) (.skip) (.exit 0)))
  (.seq (.block 1 (.seq (.region true [
    ⟨some 47, .load ⟨true, [.int .u8, .int .u8]⟩, [(.t 2)], [], none⟩,
    ⟨some 48, .mv, [(.t 1)], [], none⟩,
    ⟨some 49, .mv, [(.t 8)], [], none⟩,
    ⟨some 50, .idxA 39, [(.t 48), (.t 49)], [1, 2], none⟩,
    ⟨some 51, .fld 14, [(.t 50)], [3], none⟩,
    ⟨some 52, .load ⟨true, [.int .u8, .int .u8, .int .u8]⟩, [(.t 51)], [4], none⟩,
    ⟨some 53, .call [7, 8], [(.c (D.fn 8 [])), (.t 47), (.t 52)], [0, 5], none⟩,
    ⟨some 46, .mv, [(.t 53)], [6], none⟩,
    ⟨some 54, .ext 0, [(.t 46)], [7], none⟩,
    ⟨some 55, .ext 1, [(.t 46)], [7], none⟩,
    ⟨some 9, .mv, [(.t 54)], [8, 6, 0, 1, 2, 3, 4, 5, 6, 7, 8], none⟩,
    ⟨some 10, .mv, [(.t 55)], [9, 10, 0, 1, 2, 3, 4, 5, 6, 7, 8, 9, 10], none⟩])
  (.seq (.seq (.region false [
    ⟨some 56, .mv, [(.t 10)], [], none⟩,
    ⟨some 57, .bin .neq, [(.t 56), (.c (D.int .i64 0))], [0], none⟩,
    ⟨some 58, .mv, [(.t 57)], [1], none⟩,
    ⟨some 59, .mv, [(.t 9)], [2], some (58, false)⟩,
    ⟨some 60, .mv, [(.t 59)], [3, 2, 2], some (58, false)⟩,
    ⟨some 61, .mv, [(.t 6)], [4], some (60, true)⟩,
    ⟨some 62, .bin .lss, [(.t 61), (.c (D.int .i64 0))], [5, 4], some (60, true)⟩,
    ⟨some 63, .pick, [(.t 60), (.t 62), (.c (D.bool false))], [4, 6, 2], some (58, false)⟩,
    ⟨some 64, .pick, [(.t 58), (.c (D.bool true)), (.t 63)], [2, 7], none⟩,
    ⟨some 65, .mv, [(.t 64)], [8, 4], none⟩,
    ⟨some 66, .mv, [(.t 8)], [9], some (65, false)⟩,
    ⟨some 67, .mv, [(.t 6)], [9], some (65, false)⟩,
    ⟨some 68, .bin .eql, [(.t 66), (.t 67)], [10, 11, 9], some (65, false)⟩,
    ⟨some 69, .mv, [(.t 68)], [12, 9, 9], some (65, false)⟩,
    ⟨some 70, .mv, [(.t 9)], [13], some (69, true)⟩,
    ⟨some 71, .not, [(.t 70)], [14, 13], some (69, true)⟩,
    ⟨some 72, .pick, [(.t 69), (.t 71), (.c (D.bool false))], [13, 15, 9], some (65, false)⟩,
    ⟨some 73, .pick, [(.t 65), (.c (D.bool true)), (.t 72)], [9, 16], none⟩])
  (.cond (.t 73) (.seq (.region false [
    ⟨some 4, .mv, [(.c (D.bool false))], [], none⟩])
  (.ret)) (.skip)))
  (.seq (.region true [
    ⟨some 74, .mv, [(.t 9)], [], none⟩,
    ⟨some 75, .mv, [(.t 74)], [0], none⟩,
    ⟨some 76, .mv, [(.t 1)], [1], some (75, true)⟩,
    ⟨some 77, .mv, [(.t 6)], [1], some (75, true)⟩,
    ⟨some 78, .idxA 39, [(.t 76), (.t 77)], [2, 3, 1], some (75, true)⟩,
    ⟨some 79, .fld 14, [(.t 78)], [4, 1], some (75, true)⟩,
    ⟨some 80, .load ⟨true, [.int .u8, .int .u8, .int .u8]⟩, [(.t 79)], [5, 1], some (75, true)⟩,
    ⟨some 81, .call [9], [(.c (D.fn 16 [])), (.t 80)], [6, 1, 1], some (75, true)⟩,
    ⟨some 82, .mv, [(.t 1)], [1], some (75, true)⟩,
    ⟨some 83, .mv, [(.t 8)], [1], some (75, true)⟩,
    ⟨some 84, .idxA 39, [(.t 82), (.t 83)], [8, 9, 1], some (75, true)⟩,
    ⟨some 85, .fld 14, [(.t 84)], [10, 1], some (75, true)⟩,
    ⟨some 86, .load ⟨true, [.int .u8, .int .u8, .int .u8]⟩, [(.t 85)], [11, 1], some (75, true)⟩,
    ⟨some 87, .call [10], [(.c (D.fn 16 [])), (.t 86)], [12, 7, 1], some (75, true)⟩,
    ⟨some 88, .bin .gtr, [(.t 81), (.t 87)], [7, 13, 1], some (75, true)⟩,
    ⟨some 89, .mv, [(.t 88)], [14, 13, 1], some (75, true)⟩,
    ⟨some 90, .fld 0, [(.t 2)], [15], some (89, false)⟩,
    ⟨some 91, .load ⟨false, [.int .u8]⟩, [(.t 90)], [16, 15], some (89, false)⟩,
    ⟨some 92, .bin .eql, [(.t 91), (.c (D.int .u8 7))], [17, 15], some (89, false)⟩,
    ⟨some 93, .mv, [(.t 92)], [18, 15, 15], some (89, false)⟩,
    ⟨some 94, .mv, [(.t 1)], [19], some (93, true)⟩,
    ⟨some 95, .mv, [(.t 8)], [19], some (93, true)⟩,
    ⟨some 96, .idxA 39, [(.t 94), (.t 95)], [20, 21, 19], some (93, true)⟩,
    ⟨some 97, .fld 14, [(.t 96)], [22, 19], some (93, true)⟩,
    ⟨some 98, .load ⟨true, [.int .u8, .int .u8, .int .u8]⟩, [(.t 97)], [23, 19], some (93, true)⟩,
    ⟨some 99, .call [11], [(.c (D.fn 16 [])), (.t 98)], [24, 19, 19], some (93, true)⟩,
    ⟨some 100, .bin .gtr, [(.t 99), (.c (D.int .i64 0))], [25, 19], some (93, true)⟩,
    ⟨some 101, .pick, [(.t 93), (.t 100), (.c (D.bool false))], [19, 26, 15], some (89, false)⟩,
    ⟨some 102, .pick, [(.t 89), (.c (D.bool true)), (.t 101)], [15, 27, 1], some (75, true)⟩,
    ⟨some 103, .pick, [(.t 75), (.t 102), (.c (D.bool false))], [1, 28], none⟩])
  (.cond (.t 103) (.seq (.region false [
    ⟨some 4, .mv, [(.c (D.bool false))], [], none⟩])
  (.ret)) (.skip))))))
  (.region false [
    ⟨some 44, .mv, [(.t 8)], [], none⟩,
    ⟨some 45, .bin .add, [(.t 44), (.c (D.int .i64 1))], [0], none⟩,
    ⟨some 8, .mv, [(.t 45)], [1, 0, 1], none⟩]))))))
  (.seq (.region false [
    ⟨some 104, .mv, [(.t 5)], [], none⟩,
    ⟨some 4, .mv, [(.t 104)], [0, 0], none⟩])
  (.ret))))))))⟩

/- 6: gatepath/gatepathlaw44.PolicyOthers -/
def c_gatepathlaw44_PolicyOthers : DFun := ⟨208, 19, [.p, .p, .p], [.p ⟨false, [.bool]⟩], [.t 6],
  .seq (.region false [
    ⟨some 3, .box 3, [(.t 0)], [], none⟩,
    ⟨some 6, .mv, [(.c (D.bool false))], [], none⟩])
  (.seq (.region false [
    ⟨some 20, .call [7], [(.c (D.fn 12 []))], [], none⟩,
    ⟨some 7, .mv, [(.t 20)], [0, 0, 0], none⟩])
  (.seq (.seq (.region false [
    ⟨some 21, .mv, [(.t 1)], [], none⟩,
    ⟨some 22, .call [8], [(.c (D.fn 14 [])), (.t 21)], [0], none⟩,
    ⟨some 23, .mv, [(.t 22)], [1, 1], none⟩,
    ⟨some 24, .mv, [(.t 7)], [2], some (23, false)⟩,
    ⟨some 25, .not, [(.t 24)], [3, 2], some (23, false)⟩,
    ⟨some 26, .pick, [(.t 23), (.c (D.bool true)), (.t 25)], [2, 4], none⟩])
  (.cond (.t 26) (.seq (.region false [
    ⟨some 27, .mv, [(.t 7)], [], none⟩,
    ⟨some 6, .mv, [(.t 27)], [0, 0], none⟩])
  (.ret)) (.skip)))
  (.seq (.region false [
    ⟨some 29, .load ⟨true, [.int .u8, .int .u8]⟩, [(.t 3)], [], none⟩,
    ⟨some 30, .mv, [(.t 1)], [], none⟩,
    ⟨some 31, .call [9, 10], [(.c (D.fn 17 [])), (.t 29), (.t 30)], [0, 1], none⟩,
    ⟨some 28, .mv, [(.t 31)], [2], none⟩,
    ⟨some 32, .ext 0, [(.t 28)], [3], none⟩,
    ⟨some 33, .ext 1, [(.t 28)], [3], none⟩,
    ⟨some 8, .mv, [(.t 32)], [4, 2, 0, 1, 2, 3, 4], none⟩,
    ⟨some 9, .mv, [(.t 33)], [5, 6, 0, 1, 2, 3, 4, 5, 6], none⟩])
  (.seq (.seq (.region false [
    ⟨some 34, .mv, [(.t 9)], [], none⟩,
    ⟨some 35, .bin .neq, [(.t 34), (.c (D.int .i64 0))], [0], none⟩])
  (.cond (.t 35) (.seq (.region false [
    ⟨some 36, .mv, [(.t 7)], [], none⟩,
    ⟨some 37, .mv, [(.t 36)], [0], none⟩,
    ⟨some 38, .mv, [(.t 8)], [1], some (37, true)⟩,
    ⟨some 39, .len, [(.t 38)], [2, 1], some (37, true)⟩,
    ⟨some 40, .bin .eql, [(.t 39), (.c (D.int .i64 0))], [3, 1], some (37, true)⟩,
    ⟨some 41, .pick, [(.t 37), (.t 40), (.c (D.bool false))], [1, 4], none⟩,
    ⟨some 6, .mv, [(.t 41)], [5, 1, 0, 1, 2, 3, 4, 5], none⟩])
  (.ret)) (.skip)))
  (.seq (.seq (.region false [
    ⟨some 42, .mv, [(.t 8)], [], none⟩,
    ⟨some 43, .len, [(.t 42)], [0], none⟩,
    ⟨some 44, .mv, [(.t 1)], [], none⟩,
    ⟨some 45, .len, [(.t 44)], [2], none⟩,
    ⟨some 46, .bin .gtr, [(.t 43), (.t 45)], [1, 3], none⟩])
  (.cond (.t 46) (.seq (.region false [
    ⟨some 6, .mv, [(.c (D.bool false))], [], none⟩])
  (.ret)) (.skip)))
  (.seq (.seq (.region false [
    ⟨some 10, .mv, [(.c (D.int .i64 0))], [], none⟩])
  (.block 0 (.loop ⟨[1, 2, 3, 7, 8], [(10, .p ⟨false, [.int .i64]⟩)], [(3, .v [.p (.int .u8), .p (.int .u8)]), (9, .a 3)]⟩ (.seq (.seq (.region false [
    ⟨some 47, .mv, [(.t 10)], [], none⟩,
    ⟨some 48, .mv, [(.t 8)], [], none⟩,
    ⟨some 49, .len, [(.t 48)], [1], none⟩,
    ⟨some 50, .bin .lss, [(.t 47), (.t 49)], [0, 2], none⟩])
  (.cond (.t 50) (.skip) (.exit 0)))
  (.seq (.block 1 (.seq (.seq (.region false [
    ⟨some 53, .mv, [(.t 8)], [], none⟩,
    ⟨some 54, .mv, [(.t 10)], [], none⟩,
    ⟨some 55, .idxA 3, [(.t 53), (.t 54)], [0, 1], none⟩,
    ⟨some 56, .load ⟨false, [.int .i64]⟩, [(.t 55)], [2], none⟩,
    ⟨some 57, .bin .lss, [(.t 56), (.c (D.int .i64 0))], [3], none⟩,
    ⟨some 58, .mv, [(.t 57)], [4], none⟩,
    ⟨some 59, .mv, [(.t 8)], [5], some (58, false)⟩,
    ⟨some 60, .mv, [(.t 10)], [5], some (58, false)⟩,
    ⟨some 61, .idxA 3, [(.t 59), (.t 60)], [6, 7, 5], some (58, false)⟩,
    ⟨some 62, .load ⟨false, [.int .i64]⟩, [(.t 61)], [8, 5], some (58, false)⟩,
    ⟨some 63, .mv, [(.t 1)], [5], some (58, false)⟩,
    ⟨some 64, .len, [(.t 63)], [10, 5], some (58, false)⟩,
    ⟨some 65, .bin .geq, [(.t 62), (.t 64)], [9, 11, 5], some (58, false)⟩,
    ⟨some 66, .pick, [(.t 58), (.c (D.bool true)), (.t 65)], [5, 12], none⟩])
  (.cond (.t 66) (.seq (.region false [
    ⟨some 6, .mv, [(.c (D.bool false))], [], none⟩])
  (.ret)) (.skip)))
  (.seq (.region true [
    ⟨some 68, .load ⟨true, [.int .u8, .int .u8]⟩, [(.t 3)], [], none⟩,
    ⟨some 69, .mv, [(.t 1)], [], none⟩,
    ⟨some 70, .mv, [(.t 8)], [], none⟩,
    ⟨some 71, .mv, [(.t 10)], [], none⟩,
    ⟨some 72, .idxA 3, [(.t 70), (.t 71)], [2, 3], none⟩,
    ⟨some 73, .load ⟨false, [.int .i64]⟩, [(.t 72)], [4], none⟩,
    ⟨some 74, .idxA 39, [(.t 69), (.t 73)], [1, 5], none⟩,
    ⟨some 75, .fld 14, [(.t 74)], [6], none⟩,
    ⟨some 76, .load ⟨true, [.int .u8, .int .u8, .int .u8]⟩, [(.t 75)], [7], none⟩,
    ⟨some 77, .call [11, 12], [(.c (D.fn 8 [])), (.t 68), (.t 76)], [0, 8], none⟩,
    ⟨some 67, .mv, [(.t 77)], [9], none⟩,
    ⟨some 78, .ext 0, [(.t 67)], [10], none⟩,
    ⟨some 79, .ext 1, [(.t 67)], [10], none⟩,
    ⟨some 11, .mv, [(.t 78)], [11, 9, 0, 1, 2, 3, 4, 5, 6, 7, 8, 9, 10, 11], none⟩,
    ⟨some 12, .mv, [(.t 79)], [12, 13, 0, 1, 2, 3, 4, 5, 6, 7, 8, 9, 10, 11, 12, 13], none⟩])
  (.seq (.seq (.region false [
    ⟨some 80, .mv, [(.t 12)], [], none⟩,
    ⟨some 81, .bin .neq, [(.t 80), (.c (D.int .i64 0))], [0], none⟩,
    ⟨some 82, .mv, [(.t 81)], [1], none⟩,
    ⟨some 83, .mv, [(.t 11)], [2], some (82, false)⟩,
    ⟨some 84, .not, [(.t 83)], [3, 2], some (82, false)⟩,
    ⟨some 85, .pick, [(.t 82), (.c (D.bool true)), (.t 84)], [2, 4], none⟩])
  (.cond (.t 85) (.seq (.region false [
    ⟨some 6, .mv, [(.c (D.bool false))], [], none⟩])
  (.ret)) (.skip)))
  (.seq (.region false [
    ⟨some 86, .mv, [(.t 10)], [], none⟩,
    ⟨some 87, .bin .gtr, [(.t 86), (.c (D.int .i64 0))], [0], none⟩])
  (.cond (.t 87) (.seq (.region true [
    ⟨some 89, .mv, [(.t 1)], [], none⟩,
    ⟨some 90, .mv, [(.t 8)], [], none⟩,
    ⟨some 91, .mv, [(.t 10)], [], none⟩,
    ⟨some 92, .bin .sub, [(.t 91), (.c (D.int .i64 1))], [2], none⟩,
    ⟨some 93, .idxA 3, [(.t 90), (.t 92)], [1, 3], none⟩,
    ⟨some 94, .load ⟨false, [.int .i64]⟩, [(.t 93)], [4], none⟩,
    ⟨some 95, .idxA 39, [(.t 89), (.t 94)], [0, 5], none⟩,
    ⟨some 96, .load ⟨true, [.int .u8, .int .u64, .int .u64, .int .i64, .sl 30, .int .u8, .int .u32, .int .u32, .int .u32, .int .u8, .int .u64, .int .u64, .int .i64, .sl 85, .int .u8, .int .u8, .int .u8]⟩, [(.t 95)], [6], none⟩,
    ⟨some 97, .mv, [(.t 1)], [], none⟩,
    ⟨some 98, .mv, [(.t 8)], [], none⟩,
    ⟨some 99, .mv, [(.t 10)], [], none⟩,
    ⟨some 100, .idxA 3, [(.t 98), (.t 99)], [9, 10], none⟩,
    ⟨some 101, .load ⟨false, [.int .i64]⟩, [(.t 100)], [11], none⟩,
    ⟨some 102, .idxA 39, [(.t 97), (.t 101)], [8, 12], none⟩,
    ⟨some 103, .load ⟨true, [.int .u8, .int .u64, .int .u64, .int .i64, .sl 30, .int .u8, .int .u32, .int .u32, .int .u32, .int .u8, .int .u64, .int .u64, .int .i64, .sl 85, .int .u8, .int .u8, .int .u8]⟩, [(.t 102)], [13], none⟩,
    ⟨some 104, .call [13, 14], [(.c (D.fn 10 [])), (.t 96), (.t 103)], [7, 14], none⟩,
    ⟨some 88, .mv, [(.t 104)], [15], none⟩,
    ⟨some 105, .ext 0, [(.t 88)], [16], none⟩,
    ⟨some 106, .ext 1, [(.t 88)], [16], none⟩,
    ⟨some 13, .mv, [(.t 105)], [17, 15, 0, 1, 2, 3, 4, 5, 6, 7, 8, 9, 10, 11, 12, 13, 14, 15, 16, 17], none⟩,
    ⟨some 14, .mv, [(.t 106)], [18, 19, 0, 1, 2, 3, 4, 5, 6, 7, 8, 9, 10, 11, 12, 13, 14, 15, 16, 17, 18, 19], none⟩])
  (.seq (.region true [
    ⟨some 107, .mv, [(.t 14)], [], none⟩,
    ⟨some 108, .bin .neq, [(.t 107), (.c (D.int .i64 0))], [0], none⟩,
    ⟨some 109, .mv, [(.t 108)], [1], none⟩,
    ⟨some 110, .mv, [(.t 13)], [2], some (109, false)⟩,
    ⟨some 111, .bin .gtr, [(.t 110), (.c (D.int .i64 0))], [3, 2], some (109, false)⟩,
    ⟨some 112, .pick, [(.t 109), (.c (D.bool true)), (.t 111)], [2, 4], none⟩,
    ⟨some 113, .mv, [(.t 112)], [5, 2], none⟩,
    ⟨some 114, .mv, [(.t 13)], [6], some (113, false)⟩,
    ⟨some 115, .bin .eql, [(.t 114), (.c (D.int .i64 0))], [7, 6], some (113, false)⟩,
    ⟨some 116, .mv, [(.t 115)], [8, 6, 6], some (113, false)⟩,
    ⟨some 117, .mv, [(.t 8)], [9], some (116, true)⟩,
    ⟨some 118, .mv, [(.t 10)], [9], some (116, true)⟩,
    ⟨some 119, .bin .sub, [(.t 118), (.c (D.int .i64 1))], [11, 9], some (116, true)⟩,
    ⟨some 120, .idxA 3, [(.t 117), (.t 119)], [10, 12, 9], some (116, true)⟩,
    ⟨some 121, .load ⟨false, [.int .i64]⟩, [(.t 120)], [13, 9], some (116, true)⟩,
    ⟨some 122, .mv, [(.t 8)], [9], some (116, true)⟩,
    ⟨some 123, .mv, [(.t 10)], [9], some (116, true)⟩,
    ⟨some 124, .idxA 3, [(.t 122), (.t 123)], [15, 16, 9], some (116, true)⟩,
    ⟨some 125, .load ⟨false, [.int .i64]⟩, [(.t 124)], [17, 9], some (116, true)⟩,
    ⟨some 126, .bin .geq, [(.t 121), (.t 125)], [14, 18, 9], some (116, true)⟩,
    ⟨some 127, .pick, [(.t 116), (.t 126), (.c (D.bool false))], [9, 19, 6], some (113, false)⟩,
    ⟨some 128, .pick, [(.t 113), (.c (D.bool true)), (.t 127)], [6, 20], none⟩])
  (.cond (.t 128) (.seq (.region false [
    ⟨some 6, .mv, [(.c (D.bool false))], [], none⟩])
  (.ret)) (.skip)))) (.skip)))))))
  (.region false [
    ⟨some 51, .mv, [(.t 10)], [], none⟩,
    ⟨some 52, .bin .add, [(.t 51), (.c (D.int .i64 1))], [0], none⟩,
    ⟨some 10, .mv, [(.t 52)], [1, 0, 1], none⟩]))))))
  (.seq (.region false [
    ⟨some 130, .load ⟨true, [.int .u8, .int .u8]⟩, [(.t 3)], [], none⟩,
    ⟨some 131, .mv, [(.t 1)], [], none⟩,
    ⟨some 132, .call [15, 16], [(.c (D.fn 15 [])), (.t 130), (.t 131)], [0, 1], none⟩,
    ⟨some 129, .mv, [(.t 132)], [2], none⟩,
    ⟨some 133, .ext 0, [(.t 129)], [3], none⟩,
    ⟨some 134, .ext 1, [(.t 129)], [3], none⟩,
    ⟨some 15, .mv, [(.t 133)], [4, 2, 0, 1, 2, 3, 4], none⟩,
    ⟨some 16, .mv, [(.t 134)], [5, 6, 0, 1, 2, 3, 4, 5, 6], none⟩])
  (.seq (.seq (.region false [
    ⟨some 135, .mv, [(.t 16)], [], none⟩,
    ⟨some 136, .bin .neq, [(.t 135), (.c (D.int .i64 0))], [0], none⟩])
  (.cond (.t 136) (.seq (.region false [
    ⟨some 137, .mv, [(.t 7)], [], none⟩,
    ⟨some 138, .mv, [(.t 137)], [0], none⟩,
    ⟨some 139, .mv, [(.t 16)], [1], some (138, true)⟩,
    ⟨some 140, .bin .eql, [(.t 139), (.c (D.int .i64 2))], [2, 1], some (138, true)⟩,
    ⟨some 141, .pick, [(.t 138), (.t 140), (.c (D.bool false))], [1, 3], none⟩,
    ⟨some 6, .mv, [(.t 141)], [4, 1, 0, 1, 2, 3, 4], none⟩])
  (.ret)) (.skip)))
  (.seq (.seq (.region false [
    ⟨some 142, .mv, [(.t 8)], [], none⟩,
    ⟨some 143, .len, [(.t 142)], [0], none⟩,
    ⟨some 144, .bin .eql, [(.t 143), (.c (D.int .i64 0))], [1], none⟩,
    ⟨some 145, .mv, [(.t 144)], [2], none⟩,
    ⟨some 146, .mv, [(.t 2)], [3], some (145, false)⟩,
    ⟨some 147, .bin .lss, [(.t 146), (.c (D.int .i64 0))], [4, 3], some (145, false)⟩,
    ⟨some 148, .pick, [(.t 145), (.c (D.bool true)), (.t 147)], [3, 5], none⟩,
    ⟨some 149, .mv, [(.t 148)], [6, 3], none⟩,
    ⟨some 150, .mv, [(.t 2)], [7], some (149, false)⟩,
    ⟨some 151, .mv, [(.t 1)], [7], some (149, false)⟩,
    ⟨some 152, .len, [(.t 151)], [9, 7], some (149, false)⟩,
    ⟨some 153, .bin .geq, [(.t 150), (.t 152)], [8, 10, 7], some (149, false)⟩,
    ⟨some 154, .pick, [(.t 149), (.c (D.bool true)), (.t 153)], [7, 11], none⟩,
    ⟨some 155, .mv, [(.t 154)], [12, 7], none⟩,
    ⟨some 156, .mv, [(.t 2)], [13], some (155, false)⟩,
    ⟨some 157, .mv, [(.t 15)], [13], some (155, false)⟩,
    ⟨some 158, .bin .eql, [(.t 156), (.t 157)], [14, 15, 13], some (155, false)⟩,
    ⟨some 159, .pick, [(.t 155), (.c (D.bool true)), (.t 158)], [13, 16], none⟩])
  (.cond (.t 159) (.seq (.region false [
    ⟨some 160, .mv, [(.t 7)], [], none⟩,
    ⟨some 161, .mv, [(.t 160)], [0], none⟩,
    ⟨some 162, .mv, [(.t 8)], [1], some (161, true)⟩,
    ⟨some 163, .len, [(.t 162)], [2, 1], some (161, true)⟩,
    ⟨some 164, .bin .gtr, [(.t 163), (.c (D.int .i64 0))], [3, 1], some (161, true)⟩,
    ⟨some 165, .mv, [(.t 164)], [4, 1, 1], some (161, true)⟩,
    ⟨some 166, .mv, [(.t 15)], [5], some (165, false)⟩,
    ⟨some 167, .bin .eql, [(.t 166), (.c (D.int .i64 (-1)))], [6, 5], some (165, false)⟩,
    ⟨some 168, .pick, [(.t 165), (.c (D.bool true)), (.t 167)], [5, 7, 1], some (161, true)⟩,
    ⟨some 169, .pick, [(.t 161), (.t 168), (.c (D.bool false))], [1, 8], none⟩,
    ⟨some 6, .mv, [(.t 169)], [9, 5, 0, 1, 2, 3, 4, 5, 6, 7, 8, 9], none⟩])
  (.ret)) (.skip)))
  (.seq (.region true [
    ⟨some 170, .buildSl 4 39, [], [], none⟩,
    ⟨some 171, .mv, [(.t 1)], [], none⟩,
    ⟨some 172, .mv, [(.t 2)], [], none⟩,
    ⟨some 173, .slice (some 39) false true false, [(.t 171), (.t 172)], [1, 2], none⟩,
    ⟨some 174, .append 5 39 136, [(.t 170), (.t 173)], [0, 3], none⟩,
    ⟨some 175, .mv, [(.t 1)], [], none⟩,
    ⟨some 176, .mv, [(.t 2)], [], none⟩,
    ⟨some 177, .bin .add, [(.t 176), (.c (D.int .i64 1))], [6], none⟩,
    ⟨some 178, .slice (some 39) true false false, [(.t 175), (.t 177)], [5, 7], none⟩,
    ⟨some 179, .append 6 39 136, [(.t 174), (.t 178)], [4, 8, 4], none⟩,
    ⟨some 17, .mv, [(.t 179)], [9, 9, 0, 1, 2, 3, 4, 5, 6, 7, 8, 9], none⟩])
  (.seq (.region false [
    ⟨some 181, .load ⟨true, [.int .u8, .int .u8]⟩, [(.t 3)], [], none⟩,
    ⟨some 182, .mv, [(.t 17)], [], none⟩,
    ⟨some 183, .call [17, 18], [(.c (D.fn 15 [])), (.t 181), (.t 182)], [0, 1], none⟩,
    ⟨some 180, .mv, [(.t 183)], [2], none⟩,
    ⟨some 184, .ext 0, [(.t 180)], [3], none⟩,
    ⟨some 185, .ext 1, [(.t 180)], [3], none⟩,
    ⟨some 18, .mv, [(.t 184)], [4, 2, 0, 1, 2, 3, 4], none⟩,
    ⟨some 19, .mv, [(.t 185)], [5, 6, 0, 1, 2, 3, 4, 5, 6], none⟩])
  (.seq (.seq (.region false [
    ⟨some 186, .mv, [(.t 18)], [], none⟩,
    ⟨some 187, .mv, [(.t 2)], [], none⟩,
    ⟨some 188, .bin .geq, [(.t 186), (.t 187)], [0, 1], none⟩])
  (.cond (.t 188) (.region false [
    ⟨some 189, .mv, [(.t 18)], [], none⟩,
    ⟨some 190, .bin .add, [(.t 189), (.c (D.int .i64 1))], [0], none⟩,
    ⟨some 18, .mv, [(.t 190)], [1, 0, 1], none⟩]) (.skip)))
  (.seq (.region false [
    ⟨some 191, .mv, [(.t 7)], [], none⟩,
    ⟨some 192, .mv, [(.t 191)], [0], none⟩,
    ⟨some 193, .mv, [(.t 15)], [1], some (192, true)⟩,
    ⟨some 194, .mv, [(.t 8)], [1], some (192, true)⟩,
    ⟨some 195, .idxA 3, [(.t 194), (.c (D.int .i64 0))], [3, 1], some (192, true)⟩,
    ⟨some 196, .load ⟨false, [.int .i64]⟩, [(.t 195)], [4, 1], some (192, true)⟩,
    ⟨some 197, .bin .eql, [(.t 193), (.t 196)], [2, 5, 1], some (192, true)⟩,
    ⟨some 198, .pick, [(.t 192), (.t 197), (.c (D.bool false))], [1, 6], none⟩,
    ⟨some 199, .mv, [(.t 198)], [7, 1], none⟩,
    ⟨some 200, .mv, [(.t 19)], [8], some (199, true)⟩,
    ⟨some 201, .bin .eql, [(.t 200), (.c (D.int .i64 0))], [9, 8], some (199, true)⟩,
    ⟨some 202, .pick, [(.t 199), (.t 201), (.c (D.bool false))], [8, 10], none⟩,
    ⟨some 203, .mv, [(.t 202)], [11, 8], none⟩,
    ⟨some 204, .mv, [(.t 18)], [12], some (203, true)⟩,
    ⟨some 205, .mv, [(.t 15)], [12], some (203, true)⟩,
    ⟨some 206, .bin .eql, [(.t 204), (.t 205)], [13, 14, 12], some (203, true)⟩,
    ⟨some 207, .pick, [(.t 203), (.t 206), (.c (D.bool false))], [12, 15], none⟩,
    ⟨some 6, .mv, [(.t 207)], [16, 12, 0, 1, 2, 3, 4, 5, 6, 7, 8, 9, 10, 11, 12, 13, 14, 15, 16], none⟩])
  (.ret))))))))))))))⟩

def tabL : List (Nat × Entry) := [(35, .code c_gatepathref07_Great),
  (18, .code c_gatepathref42_Great),
  (7, .code c_gatepathref44_GreatRoute),
  (37, .code c_policy_parts),
  (36, .code c_policy_count),
  (19, .code c_policy_known),
  (20, .code c_policy_takes),
  (8, .code c_policy_Accepts),
  (21, .code c_gatepathref44_verdict),
  (22, .code c_gatepathref44_takes),
  (9, .code c_gatepathref44_Accepts),
  (46, .code c_policy_ranks),
  (67, .code c_number_width),
  (68, .code c_number_CheckAddr),
  (69, .code c_number_and),
  (70, .code c_number_mask),
  (58, .code c_number_Check),
  (45, .code c_slices_Index),
  (59, .code c_slices_Contains),
  (38, .code c_policy_route),
  (23, .code c_policy_right),
  (71, .code c_cmp_isNaN_71),
  (60, .code c_cmp_Compare_60),
  (75, .code c_cmp_isNaN_75),
  (72, .code c_cmp_Compare_72),
  (61, .code c_slices_Compare),
  (39, .code c_policy_by),
  (40, .code c_policy_compare_1),
  (41, .code c_policy_compare_2),
  (42, .code c_policy_compare_3),
  (43, .code c_policy_compare_4),
  (44, .code c_policy_compare_5),
  (47, .code c_policy_compare_6),
  (48, .code c_policy_compare_7),
  (24, .code c_policy_compare),
  (10, .code c_policy_Compare),
  (62, .code c_gatepathref01_Width),
  (63, .code c_gatepathref01_CheckAddr),
  (73, .code c_gatepathref01_power),
  (64, .code c_gatepathref01_Bits),
  (53, .code c_gatepathref01_Check),
  (54, .code c_gatepathref44_near),
  (29, .code c_gatepathref44_route),
  (13, .code c_gatepathref44_Right),
  (49, .code c_gatepathref44_sign),
  (50, .code c_gatepathref44_count),
  (51, .code c_gatepathref44_rank),
  (25, .code c_gatepathref44_compare),
  (11, .code c_gatepathref44_Compare),
  (3, .code c_gatepathlaw44_PolicyCompares),
  (52, .code c_gatepathlaw44_ten),
  (26, .code c_gatepathlaw44_some),
  (27, .code c_gatepathlaw44_first),
  (55, .code c_slices_IndexFunc),
  (30, .code c_slices_ContainsFunc),
  (56, .code c_policy_check_1),
  (32, .code c_policy_check),
  (65, .code c_slices_insertionSortCmpFunc),
  (76, .code c_slices_swapRangeCmpFunc),
  (74, .code c_slices_rotateCmpFunc),
  (66, .code c_slices_symMergeCmpFunc),
  (57, .code c_slices_stableCmpFunc),
  (33, .code c_slices_SortStableFunc),
  (34, .code c_policy_Order_1),
  (17, .code c_policy_Order),
  (31, .code c_policy_Best_1),
  (15, .code c_policy_Best),
  (28, .code c_gatepathlaw44_best),
  (12, .code c_gatepathlaw44_alive),
  (4, .code c_gatepathlaw44_PolicyTotal),
  (14, .code c_gatepathref44_Great),
  (16, .code c_gatepathlaw44_wrong),
  (5, .code c_gatepathlaw44_PolicyLast),
  (6, .code c_gatepathlaw44_PolicyOthers)]
def tab (g : Nat) : Option Entry := tabL.lookup g

end Go.Proofs.Ytekkbhmlocageaa.Own
