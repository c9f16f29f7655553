import Derived.Test.YtmfhhbiaghejjaaG4
namespace Go.Proofs.Ytmfhhbiaghejjaa.Own
open Go Go.Proofs.Ytmfhhbiaghejjaa.GD

def tyL : List (Nat × Vk) := [(5, ⟨false, [.int .u8]⟩), (9, ⟨false, [.str]⟩), (47, ⟨true, [.str, .int .u64, .int .u8, .int .u8, .int .u8, .int .u8, .int .u8, .int .u8, .int .u8, .int .u8, .int .u8, .int .u8, .int .u8, .int .u8, .int .u8, .int .u8, .int .u8, .int .u8, .int .u8, .int .u8, .int .u8, .int .u8, .int .u8, .int .u8, .int .u8, .int .u8, .int .u8, .int .u8, .int .u8, .int .u8, .int .u8, .int .u8, .int .u8, .int .u8, .int .i64, .int .i64, .int .i64]⟩)]
def ty (e : Nat) : Option Vk := tyL.lookup e

/- 11: gatepath/gatepathref29.Great -/
def c_gatepathref29_Great : DFun := ⟨20, 1, [.p], [.p ⟨false, [.bool]⟩], [.t 2],
  .seq (.region false [
    ⟨some 2, .mv, [(.c (D.bool false))], [], none⟩])
  (.seq (.seq (.region false [
    ⟨some 4, .mv, [(.t 0)], [], none⟩,
    ⟨some 5, .len, [(.t 4)], [0], none⟩,
    ⟨some 6, .bin .gtr, [(.t 5), (.c (D.int .i64 210))], [1], none⟩])
  (.cond (.t 6) (.seq (.region false [
    ⟨some 2, .mv, [(.c (D.bool true))], [], none⟩])
  (.ret)) (.skip)))
  (.seq (.seq (.region false [
    ⟨some 3, .mv, [(.c (D.int .i64 0))], [], none⟩])
  (.block 0 (.loop ⟨[0], [(3, .p ⟨false, [.int .i64]⟩)], []⟩ (.seq (.seq (.region false [
    ⟨some 7, .mv, [(.t 3)], [], none⟩,
    ⟨some 8, .mv, [(.t 0)], [], none⟩,
    ⟨some 9, .len, [(.t 8)], [1], none⟩,
    ⟨some 10, .bin .lss, [(.t 7), (.t 9)], [0, 2], none⟩])
  (.cond (.t 10) (.skip) (.exit 0)))
  (.seq (.block 1 (.seq (.region false [
    ⟨some 13, .mv, [(.t 0)], [], none⟩,
    ⟨some 14, .mv, [(.t 3)], [], none⟩,
    ⟨some 15, .idxA 47, [(.t 13), (.t 14)], [0, 1], none⟩,
    ⟨some 16, .fld 0, [(.t 15)], [2], none⟩,
    ⟨some 17, .load ⟨false, [.str]⟩, [(.t 16)], [3], none⟩,
    ⟨some 18, .lenS, [(.t 17)], [4], none⟩,
    ⟨some 19, .bin .gtr, [(.t 18), (.c (D.int .i64 300))], [5], none⟩])
  (.cond (.t 19) (.seq (.region false [
    ⟨some 2, .mv, [(.c (D.bool true))], [], none⟩])
  (.ret)) (.skip))))
  (.region false [
    ⟨some 11, .mv, [(.t 3)], [], none⟩,
    ⟨some 12, .bin .add, [(.t 11), (.c (D.int .i64 1))], [0], none⟩,
    ⟨some 3, .mv, [(.t 12)], [1, 0, 1], none⟩]))))))
  (.seq (.region false [
    ⟨some 2, .mv, [(.c (D.bool false))], [], none⟩])
  (.ret))))⟩

/- 35: gatepath/fresh.moment -/
def c_fresh_moment : DFun := ⟨9, 1, [.p], [.p ⟨false, [.bool]⟩], [.t 2],
  .seq (.region false [
    ⟨some 2, .mv, [(.c (D.bool false))], [], none⟩])
  (.seq (.region false [
    ⟨some 3, .mv, [(.t 0)], [], none⟩,
    ⟨some 4, .bin .geq, [(.t 3), (.c (D.int .i64 0))], [0], none⟩,
    ⟨some 5, .mv, [(.t 4)], [1], none⟩,
    ⟨some 6, .mv, [(.t 0)], [2], some (5, true)⟩,
    ⟨some 7, .bin .leq, [(.t 6), (.c (D.int .i64 1099511627776))], [3, 2], some (5, true)⟩,
    ⟨some 8, .pick, [(.t 5), (.t 7), (.c (D.bool false))], [2, 4], none⟩,
    ⟨some 2, .mv, [(.t 8)], [5, 2, 0, 1, 2, 3, 4, 5], none⟩])
  (.ret))⟩

/- 40: gatepath/fresh.right -/
def c_fresh_right : DFun := ⟨54, 5, [.p], [.p ⟨false, [.bool]⟩], [.t 2],
  .seq (.region false [
    ⟨some 1, .box 1, [(.t 0)], [], none⟩,
    ⟨some 2, .mv, [(.c (D.bool false))], [], none⟩])
  (.seq (.seq (.region false [
    ⟨some 5, .fld 0, [(.t 1)], [], none⟩,
    ⟨some 6, .load ⟨false, [.str]⟩, [(.t 5)], [0], none⟩,
    ⟨some 7, .lenS, [(.t 6)], [1], none⟩,
    ⟨some 8, .bin .eql, [(.t 7), (.c (D.int .i64 0))], [2], none⟩,
    ⟨some 9, .mv, [(.t 8)], [3], none⟩,
    ⟨some 10, .fld 0, [(.t 1)], [4], some (9, false)⟩,
    ⟨some 11, .load ⟨false, [.str]⟩, [(.t 10)], [5, 4], some (9, false)⟩,
    ⟨some 12, .lenS, [(.t 11)], [6, 4], some (9, false)⟩,
    ⟨some 13, .bin .gtr, [(.t 12), (.c (D.int .i64 200))], [7, 4], some (9, false)⟩,
    ⟨some 14, .pick, [(.t 9), (.c (D.bool true)), (.t 13)], [4, 8], none⟩])
  (.cond (.t 14) (.seq (.region false [
    ⟨some 2, .mv, [(.c (D.bool false))], [], none⟩])
  (.ret)) (.skip)))
  (.seq (.seq (.region false [
    ⟨some 15, .fld 0, [(.t 1)], [], none⟩,
    ⟨some 16, .load ⟨false, [.str]⟩, [(.t 15)], [0], none⟩,
    ⟨some 17, .bytes 5, [(.t 16)], [1], none⟩,
    ⟨some 18, .len, [(.t 17)], [2], none⟩,
    ⟨some 19, .mv, [(.c (D.int .i64 0))], [], none⟩])
  (.block 0 (.loop ⟨[1, 17, 18], [(19, .p ⟨false, [.int .i64]⟩)], [(1, .v [.p (.str), .p (.int .u64), .p (.int .u8), .p (.int .u8), .p (.int .u8), .p (.int .u8), .p (.int .u8), .p (.int .u8), .p (.int .u8), .p (.int .u8), .p (.int .u8), .p (.int .u8), .p (.int .u8), .p (.int .u8), .p (.int .u8), .p (.int .u8), .p (.int .u8), .p (.int .u8), .p (.int .u8), .p (.int .u8), .p (.int .u8), .p (.int .u8), .p (.int .u8), .p (.int .u8), .p (.int .u8), .p (.int .u8), .p (.int .u8), .p (.int .u8), .p (.int .u8), .p (.int .u8), .p (.int .u8), .p (.int .u8), .p (.int .u8), .p (.int .u8), .p (.int .i64), .p (.int .i64), .p (.int .i64)])]⟩ (.seq (.region false [
    ⟨some 20, .bin .lss, [(.t 19), (.t 18)], [], none⟩])
  (.seq (.cond (.t 20) (.skip) (.exit 0))
  (.seq (.block 1 (.seq (.region false [
    ⟨some 21, .idxA 5, [(.t 17), (.t 19)], [], none⟩,
    ⟨some 22, .load ⟨false, [.int .u8]⟩, [(.t 21)], [0], none⟩,
    ⟨some 4, .mv, [(.t 22)], [1, 0, 1], none⟩])
  (.seq (.region false [
    ⟨some 23, .mv, [(.t 4)], [], none⟩,
    ⟨some 24, .bin .lss, [(.t 23), (.c (D.int .u8 33))], [0], none⟩,
    ⟨some 25, .mv, [(.t 24)], [1], none⟩,
    ⟨some 26, .mv, [(.t 4)], [2], some (25, false)⟩,
    ⟨some 27, .bin .gtr, [(.t 26), (.c (D.int .u8 126))], [3, 2], some (25, false)⟩,
    ⟨some 28, .pick, [(.t 25), (.c (D.bool true)), (.t 27)], [2, 4], none⟩])
  (.cond (.t 28) (.seq (.region false [
    ⟨some 2, .mv, [(.c (D.bool false))], [], none⟩])
  (.ret)) (.skip)))))
  (.region false [
    ⟨some 29, .bin .add, [(.t 19), (.c (D.int .i64 1))], [], none⟩,
    ⟨some 19, .mv, [(.t 29)], [0], none⟩])))))))
  (.seq (.region false [
    ⟨some 30, .fld 34, [(.t 1)], [], none⟩,
    ⟨some 31, .fld 0, [(.t 30)], [0], none⟩,
    ⟨some 32, .load ⟨false, [.int .i64]⟩, [(.t 31)], [1], none⟩,
    ⟨some 33, .call [2], [(.c (D.fn 35 [])), (.t 32)], [2], none⟩,
    ⟨some 34, .mv, [(.t 33)], [3, 3], none⟩,
    ⟨some 35, .fld 34, [(.t 1)], [4], some (34, true)⟩,
    ⟨some 36, .fld 1, [(.t 35)], [5, 4], some (34, true)⟩,
    ⟨some 37, .load ⟨false, [.int .i64]⟩, [(.t 36)], [6, 4], some (34, true)⟩,
    ⟨some 38, .call [3], [(.c (D.fn 35 [])), (.t 37)], [7, 4, 4], some (34, true)⟩,
    ⟨some 39, .pick, [(.t 34), (.t 38), (.c (D.bool false))], [4, 8], none⟩,
    ⟨some 40, .mv, [(.t 39)], [9, 8], none⟩,
    ⟨some 41, .fld 34, [(.t 1)], [10], some (40, true)⟩,
    ⟨some 42, .fld 0, [(.t 41)], [11, 10], some (40, true)⟩,
    ⟨some 43, .load ⟨false, [.int .i64]⟩, [(.t 42)], [12, 10], some (40, true)⟩,
    ⟨some 44, .fld 34, [(.t 1)], [10], some (40, true)⟩,
    ⟨some 45, .fld 1, [(.t 44)], [14, 10], some (40, true)⟩,
    ⟨some 46, .load ⟨false, [.int .i64]⟩, [(.t 45)], [15, 10], some (40, true)⟩,
    ⟨some 47, .bin .leq, [(.t 43), (.t 46)], [13, 16, 10], some (40, true)⟩,
    ⟨some 48, .pick, [(.t 40), (.t 47), (.c (D.bool false))], [10, 17], none⟩,
    ⟨some 49, .mv, [(.t 48)], [18, 10], none⟩,
    ⟨some 50, .fld 36, [(.t 1)], [19], some (49, true)⟩,
    ⟨some 51, .load ⟨false, [.int .i64]⟩, [(.t 50)], [20, 19], some (49, true)⟩,
    ⟨some 52, .call [4], [(.c (D.fn 35 [])), (.t 51)], [21, 19, 19], some (49, true)⟩,
    ⟨some 53, .pick, [(.t 49), (.t 52), (.c (D.bool false))], [19, 22], none⟩,
    ⟨some 2, .mv, [(.t 53)], [23, 22, 0, 1, 2, 3, 4, 5, 6, 7, 8, 9, 10, 11, 12, 13, 14, 15, 16, 17, 18, 19, 20, 21, 22, 23], none⟩])
  (.ret))))⟩

/- 19: gatepath/fresh.Check -/
def c_fresh_Check : DFun := ⟨34, 3, [.p], [.p ⟨false, [.int .i64]⟩], [.t 2],
  .seq (.region false [
    ⟨some 2, .mv, [(.c (D.int .i64 0))], [], none⟩])
  (.seq (.seq (.region false [
    ⟨some 5, .mv, [(.t 0)], [], none⟩,
    ⟨some 6, .len, [(.t 5)], [0], none⟩,
    ⟨some 7, .bin .gtr, [(.t 6), (.c (D.int .i64 200))], [1], none⟩])
  (.cond (.t 7) (.seq (.region false [
    ⟨some 2, .mv, [(.c (D.int .i64 4))], [], none⟩])
  (.ret)) (.skip)))
  (.seq (.seq (.region false [
    ⟨some 8, .mv, [(.t 0)], [], none⟩,
    ⟨some 9, .len, [(.t 8)], [0], none⟩,
    ⟨some 10, .mv, [(.c (D.int .i64 0))], [], none⟩])
  (.block 0 (.loop ⟨[0, 8, 9], [(10, .p ⟨false, [.int .i64]⟩)], []⟩ (.seq (.region false [
    ⟨some 11, .bin .lss, [(.t 10), (.t 9)], [], none⟩])
  (.seq (.cond (.t 11) (.skip) (.exit 0))
  (.seq (.block 1 (.seq (.region false [
    ⟨some 12, .mv, [(.t 10)], [], none⟩,
    ⟨some 13, .idxA 47, [(.t 8), (.t 10)], [], none⟩,
    ⟨some 14, .load ⟨true, [.str, .int .u64, .int .u8, .int .u8, .int .u8, .int .u8, .int .u8, .int .u8, .int .u8, .int .u8, .int .u8, .int .u8, .int .u8, .int .u8, .int .u8, .int .u8, .int .u8, .int .u8, .int .u8, .int .u8, .int .u8, .int .u8, .int .u8, .int .u8, .int .u8, .int .u8, .int .u8, .int .u8, .int .u8, .int .u8, .int .u8, .int .u8, .int .u8, .int .u8, .int .i64, .int .i64, .int .i64]⟩, [(.t 13)], [1], none⟩,
    ⟨some 4, .alloc 1 [(D.str ⟨#[]⟩), (D.int .u64 0), (D.int .u8 0), (D.int .u8 0), (D.int .u8 0), (D.int .u8 0), (D.int .u8 0), (D.int .u8 0), (D.int .u8 0), (D.int .u8 0), (D.int .u8 0), (D.int .u8 0), (D.int .u8 0), (D.int .u8 0), (D.int .u8 0), (D.int .u8 0), (D.int .u8 0), (D.int .u8 0), (D.int .u8 0), (D.int .u8 0), (D.int .u8 0), (D.int .u8 0), (D.int .u8 0), (D.int .u8 0), (D.int .u8 0), (D.int .u8 0), (D.int .u8 0), (D.int .u8 0), (D.int .u8 0), (D.int .u8 0), (D.int .u8 0), (D.int .u8 0), (D.int .u8 0), (D.int .u8 0), (D.int .i64 0), (D.int .i64 0), (D.int .i64 0)], [], [], none⟩,
    ⟨some 3, .mv, [(.t 12)], [0, 0, 1, 2, 3], none⟩,
    ⟨none, .store ⟨true, [.str, .int .u64, .int .u8, .int .u8, .int .u8, .int .u8, .int .u8, .int .u8, .int .u8, .int .u8, .int .u8, .int .u8, .int .u8, .int .u8, .int .u8, .int .u8, .int .u8, .int .u8, .int .u8, .int .u8, .int .u8, .int .u8, .int .u8, .int .u8, .int .u8, .int .u8, .int .u8, .int .u8, .int .u8, .int .u8, .int .u8, .int .u8, .int .u8, .int .u8, .int .i64, .int .i64, .int .i64]⟩, [(.t 4), (.t 14)], [3, 2, 4, 0, 1, 2, 3, 4], none⟩])
  (.seq (.region true [
    ⟨some 15, .load ⟨true, [.str, .int .u64, .int .u8, .int .u8, .int .u8, .int .u8, .int .u8, .int .u8, .int .u8, .int .u8, .int .u8, .int .u8, .int .u8, .int .u8, .int .u8, .int .u8, .int .u8, .int .u8, .int .u8, .int .u8, .int .u8, .int .u8, .int .u8, .int .u8, .int .u8, .int .u8, .int .u8, .int .u8, .int .u8, .int .u8, .int .u8, .int .u8, .int .u8, .int .u8, .int .i64, .int .i64, .int .i64]⟩, [(.t 4)], [], none⟩,
    ⟨some 16, .call [2], [(.c (D.fn 40 [])), (.t 15)], [0], none⟩,
    ⟨some 17, .not, [(.t 16)], [1], none⟩,
    ⟨some 18, .mv, [(.t 17)], [2, 1], none⟩,
    ⟨some 19, .mv, [(.t 3)], [3], some (18, false)⟩,
    ⟨some 20, .bin .gtr, [(.t 19), (.c (D.int .i64 0))], [4, 3], some (18, false)⟩,
    ⟨some 21, .mv, [(.t 20)], [5, 3, 3], some (18, false)⟩,
    ⟨some 22, .fld 0, [(.t 4)], [6], some (21, true)⟩,
    ⟨some 23, .load ⟨false, [.str]⟩, [(.t 22)], [7, 6], some (21, true)⟩,
    ⟨some 24, .mv, [(.t 0)], [6], some (21, true)⟩,
    ⟨some 25, .mv, [(.t 3)], [6], some (21, true)⟩,
    ⟨some 26, .bin .sub, [(.t 25), (.c (D.int .i64 1))], [10, 6], some (21, true)⟩,
    ⟨some 27, .idxA 47, [(.t 24), (.t 26)], [9, 11, 6], some (21, true)⟩,
    ⟨some 28, .fld 0, [(.t 27)], [12, 6], some (21, true)⟩,
    ⟨some 29, .load ⟨false, [.str]⟩, [(.t 28)], [13, 6], some (21, true)⟩,
    ⟨some 30, .bin .leq, [(.t 23), (.t 29)], [8, 14, 6], some (21, true)⟩,
    ⟨some 31, .pick, [(.t 21), (.t 30), (.c (D.bool false))], [6, 15, 3], some (18, false)⟩,
    ⟨some 32, .pick, [(.t 18), (.c (D.bool true)), (.t 31)], [3, 16], none⟩])
  (.cond (.t 32) (.seq (.region false [
    ⟨some 2, .mv, [(.c (D.int .i64 8))], [], none⟩])
  (.ret)) (.skip)))))
  (.region false [
    ⟨some 33, .bin .add, [(.t 10), (.c (D.int .i64 1))], [], none⟩,
    ⟨some 10, .mv, [(.t 33)], [0], none⟩])))))))
  (.seq (.region false [
    ⟨some 2, .mv, [(.c (D.int .i64 0))], [], none⟩])
  (.ret))))⟩

/- 29: gatepath/fresh.Merge$1 -/
def c_fresh_Merge_1 : DFun := ⟨41, 5, [.p, .p], [.p ⟨true, [.str, .int .u64, .int .u8, .int .u8, .int .u8, .int .u8, .int .u8, .int .u8, .int .u8, .int .u8, .int .u8, .int .u8, .int .u8, .int .u8, .int .u8, .int .u8, .int .u8, .int .u8, .int .u8, .int .u8, .int .u8, .int .u8, .int .u8, .int .u8, .int .u8, .int .u8, .int .u8, .int .u8, .int .u8, .int .u8, .int .u8, .int .u8, .int .u8, .int .u8, .int .i64, .int .i64, .int .i64]⟩, .p ⟨false, [.bool]⟩], [.c 4, .t 5],
  .seq (.region false [
    ⟨some 2, .box 2, [(.t 0)], [], none⟩,
    ⟨some 3, .box 3, [(.t 1)], [], none⟩,
    ⟨some 4, .alloc 4 [(D.str ⟨#[]⟩), (D.int .u64 0), (D.int .u8 0), (D.int .u8 0), (D.int .u8 0), (D.int .u8 0), (D.int .u8 0), (D.int .u8 0), (D.int .u8 0), (D.int .u8 0), (D.int .u8 0), (D.int .u8 0), (D.int .u8 0), (D.int .u8 0), (D.int .u8 0), (D.int .u8 0), (D.int .u8 0), (D.int .u8 0), (D.int .u8 0), (D.int .u8 0), (D.int .u8 0), (D.int .u8 0), (D.int .u8 0), (D.int .u8 0), (D.int .u8 0), (D.int .u8 0), (D.int .u8 0), (D.int .u8 0), (D.int .u8 0), (D.int .u8 0), (D.int .u8 0), (D.int .u8 0), (D.int .u8 0), (D.int .u8 0), (D.int .i64 0), (D.int .i64 0), (D.int .i64 0)], [], [], none⟩,
    ⟨some 5, .mv, [(.c (D.bool false))], [], none⟩])
  (.seq (.block 0 (.seq (.region false [
    ⟨some 7, .fld 1, [(.t 2)], [], none⟩,
    ⟨some 8, .load ⟨false, [.int .u64]⟩, [(.t 7)], [0], none⟩,
    ⟨some 9, .fld 1, [(.t 3)], [], none⟩,
    ⟨some 10, .load ⟨false, [.int .u64]⟩, [(.t 9)], [2], none⟩,
    ⟨some 11, .bin .gtr, [(.t 8), (.t 10)], [1, 3], none⟩,
    ⟨some 6, .mv, [(.t 11)], [4], none⟩])
  (.cond (.t 6) (.seq (.region false [
    ⟨some 12, .load ⟨true, [.str, .int .u64, .int .u8, .int .u8, .int .u8, .int .u8, .int .u8, .int .u8, .int .u8, .int .u8, .int .u8, .int .u8, .int .u8, .int .u8, .int .u8, .int .u8, .int .u8, .int .u8, .int .u8, .int .u8, .int .u8, .int .u8, .int .u8, .int .u8, .int .u8, .int .u8, .int .u8, .int .u8, .int .u8, .int .u8, .int .u8, .int .u8, .int .u8, .int .u8, .int .i64, .int .i64, .int .i64]⟩, [(.t 2)], [], none⟩,
    ⟨none, .store ⟨true, [.str, .int .u64, .int .u8, .int .u8, .int .u8, .int .u8, .int .u8, .int .u8, .int .u8, .int .u8, .int .u8, .int .u8, .int .u8, .int .u8, .int .u8, .int .u8, .int .u8, .int .u8, .int .u8, .int .u8, .int .u8, .int .u8, .int .u8, .int .u8, .int .u8, .int .u8, .int .u8, .int .u8, .int .u8, .int .u8, .int .u8, .int .u8, .int .u8, .int .u8, .int .i64, .int .i64, .int .i64]⟩, [(.t 4), (.t 12)], [0, 0], none⟩,
    ⟨some 5, .mv, [(.c (D.bool true))], [1, 0, 1], none⟩])
  (.ret)) (.seq (.region false [
    ⟨some 14, .fld 1, [(.t 2)], [], none⟩,
    ⟨some 15, .load ⟨false, [.int .u64]⟩, [(.t 14)], [0], none⟩,
    ⟨some 16, .fld 1, [(.t 3)], [], none⟩,
    ⟨some 17, .load ⟨false, [.int .u64]⟩, [(.t 16)], [2], none⟩,
    ⟨some 18, .bin .lss, [(.t 15), (.t 17)], [1, 3], none⟩,
    ⟨some 13, .mv, [(.t 18)], [4], none⟩])
  (.cond (.t 13) (.seq (.region false [
    ⟨some 19, .load ⟨true, [.str, .int .u64, .int .u8, .int .u8, .int .u8, .int .u8, .int .u8, .int .u8, .int .u8, .int .u8, .int .u8, .int .u8, .int .u8, .int .u8, .int .u8, .int .u8, .int .u8, .int .u8, .int .u8, .int .u8, .int .u8, .int .u8, .int .u8, .int .u8, .int .u8, .int .u8, .int .u8, .int .u8, .int .u8, .int .u8, .int .u8, .int .u8, .int .u8, .int .u8, .int .i64, .int .i64, .int .i64]⟩, [(.t 3)], [], none⟩,
    ⟨none, .store ⟨true, [.str, .int .u64, .int .u8, .int .u8, .int .u8, .int .u8, .int .u8, .int .u8, .int .u8, .int .u8, .int .u8, .int .u8, .int .u8, .int .u8, .int .u8, .int .u8, .int .u8, .int .u8, .int .u8, .int .u8, .int .u8, .int .u8, .int .u8, .int .u8, .int .u8, .int .u8, .int .u8, .int .u8, .int .u8, .int .u8, .int .u8, .int .u8, .int .u8, .int .u8, .int .i64, .int .i64, .int .i64]⟩, [(.t 4), (.t 19)], [0, 0], none⟩,
    ⟨some 5, .mv, [(.c (D.bool true))], [1, 0, 1], none⟩])
  (.ret)) (.seq (.region false [
    ⟨some 21, .fld 2, [(.t 2)], [], none⟩,
    ⟨some 22, .load ⟨true, [.int .u8, .int .u8, .int .u8, .int .u8, .int .u8, .int .u8, .int .u8, .int .u8, .int .u8, .int .u8, .int .u8, .int .u8, .int .u8, .int .u8, .int .u8, .int .u8, .int .u8, .int .u8, .int .u8, .int .u8, .int .u8, .int .u8, .int .u8, .int .u8, .int .u8, .int .u8, .int .u8, .int .u8, .int .u8, .int .u8, .int .u8, .int .u8]⟩, [(.t 21)], [0], none⟩,
    ⟨some 23, .fld 2, [(.t 3)], [], none⟩,
    ⟨some 24, .load ⟨true, [.int .u8, .int .u8, .int .u8, .int .u8, .int .u8, .int .u8, .int .u8, .int .u8, .int .u8, .int .u8, .int .u8, .int .u8, .int .u8, .int .u8, .int .u8, .int .u8, .int .u8, .int .u8, .int .u8, .int .u8, .int .u8, .int .u8, .int .u8, .int .u8, .int .u8, .int .u8, .int .u8, .int .u8, .int .u8, .int .u8, .int .u8, .int .u8]⟩, [(.t 23)], [2], none⟩,
    ⟨some 25, .eqv true ⟨true, [.int .u8, .int .u8, .int .u8, .int .u8, .int .u8, .int .u8, .int .u8, .int .u8, .int .u8, .int .u8, .int .u8, .int .u8, .int .u8, .int .u8, .int .u8, .int .u8, .int .u8, .int .u8, .int .u8, .int .u8, .int .u8, .int .u8, .int .u8, .int .u8, .int .u8, .int .u8, .int .u8, .int .u8, .int .u8, .int .u8, .int .u8, .int .u8]⟩, [(.t 22), (.t 24)], [1, 3], none⟩,
    ⟨some 26, .mv, [(.t 25)], [4], none⟩,
    ⟨some 27, .fld 34, [(.t 2)], [5], some (26, false)⟩,
    ⟨some 28, .load ⟨true, [.int .i64, .int .i64]⟩, [(.t 27)], [6, 5], some (26, false)⟩,
    ⟨some 29, .fld 34, [(.t 3)], [5], some (26, false)⟩,
    ⟨some 30, .load ⟨true, [.int .i64, .int .i64]⟩, [(.t 29)], [8, 5], some (26, false)⟩,
    ⟨some 31, .eqv true ⟨true, [.int .i64, .int .i64]⟩, [(.t 28), (.t 30)], [7, 9, 5], some (26, false)⟩,
    ⟨some 32, .pick, [(.t 26), (.c (D.bool true)), (.t 31)], [5, 10], none⟩,
    ⟨some 20, .mv, [(.t 32)], [11, 5], none⟩])
  (.cond (.t 20) (.seq (.region false [
    ⟨some 33, .load ⟨true, [.str, .int .u64, .int .u8, .int .u8, .int .u8, .int .u8, .int .u8, .int .u8, .int .u8, .int .u8, .int .u8, .int .u8, .int .u8, .int .u8, .int .u8, .int .u8, .int .u8, .int .u8, .int .u8, .int .u8, .int .u8, .int .u8, .int .u8, .int .u8, .int .u8, .int .u8, .int .u8, .int .u8, .int .u8, .int .u8, .int .u8, .int .u8, .int .u8, .int .u8, .int .i64, .int .i64, .int .i64]⟩, [(.t 2)], [], none⟩,
    ⟨none, .store ⟨true, [.str, .int .u64, .int .u8, .int .u8, .int .u8, .int .u8, .int .u8, .int .u8, .int .u8, .int .u8, .int .u8, .int .u8, .int .u8, .int .u8, .int .u8, .int .u8, .int .u8, .int .u8, .int .u8, .int .u8, .int .u8, .int .u8, .int .u8, .int .u8, .int .u8, .int .u8, .int .u8, .int .u8, .int .u8, .int .u8, .int .u8, .int .u8, .int .u8, .int .u8, .int .i64, .int .i64, .int .i64]⟩, [(.t 4), (.t 33)], [0, 0], none⟩,
    ⟨some 5, .mv, [(.c (D.bool false))], [1, 0, 1], none⟩])
  (.ret)) (.skip))))))))
  (.seq (.region false [
    ⟨some 34, .fld 36, [(.t 2)], [], none⟩,
    ⟨some 35, .load ⟨false, [.int .i64]⟩, [(.t 34)], [0], none⟩,
    ⟨some 36, .fld 36, [(.t 3)], [], none⟩,
    ⟨some 37, .load ⟨false, [.int .i64]⟩, [(.t 36)], [2], none⟩,
    ⟨some 38, .mx, [(.t 35), (.t 37)], [1, 3], none⟩,
    ⟨some 39, .fld 36, [(.t 2)], [0, 1, 2, 3, 4], none⟩,
    ⟨none, .store ⟨false, [.int .i64]⟩, [(.t 39), (.t 38)], [5, 4, 0, 1, 2, 3, 4], none⟩])
  (.seq (.region false [
    ⟨some 40, .load ⟨true, [.str, .int .u64, .int .u8, .int .u8, .int .u8, .int .u8, .int .u8, .int .u8, .int .u8, .int .u8, .int .u8, .int .u8, .int .u8, .int .u8, .int .u8, .int .u8, .int .u8, .int .u8, .int .u8, .int .u8, .int .u8, .int .u8, .int .u8, .int .u8, .int .u8, .int .u8, .int .u8, .int .u8, .int .u8, .int .u8, .int .u8, .int .u8, .int .u8, .int .u8, .int .i64, .int .i64, .int .i64]⟩, [(.t 2)], [], none⟩,
    ⟨none, .store ⟨true, [.str, .int .u64, .int .u8, .int .u8, .int .u8, .int .u8, .int .u8, .int .u8, .int .u8, .int .u8, .int .u8, .int .u8, .int .u8, .int .u8, .int .u8, .int .u8, .int .u8, .int .u8, .int .u8, .int .u8, .int .u8, .int .u8, .int .u8, .int .u8, .int .u8, .int .u8, .int .u8, .int .u8, .int .u8, .int .u8, .int .u8, .int .u8, .int .u8, .int .u8, .int .i64, .int .i64, .int .i64]⟩, [(.t 4), (.t 40)], [0, 0], none⟩,
    ⟨some 5, .mv, [(.c (D.bool true))], [1, 0, 1], none⟩])
  (.ret))))⟩

/- 30: gatepath/fresh.zip[gatepath/api.FreshPoint] -/
def c_fresh_zip : DFun := ⟨76, 17, [.p, .p, .p, .p], [.o 47, .p ⟨false, [.bool]⟩], [.t 8, .t 9],
  .seq (.region false [
    ⟨some 8, .mv, [(.c (D.zs 47 true))], [], none⟩,
    ⟨some 9, .mv, [(.c (D.bool false))], [0], none⟩])
  (.seq (.region false [
    ⟨some 10, .mv, [(.c (D.zs 47 true))], [], none⟩])
  (.seq (.block 0 (.loop ⟨[2, 3], [(0, .p ⟨false, [.sl 47]⟩), (1, .p ⟨false, [.sl 47]⟩), (10, .o 13 47)], []⟩ (.seq (.seq (.region false [
    ⟨some 14, .mv, [(.t 0)], [], none⟩,
    ⟨some 15, .len, [(.t 14)], [0], none⟩,
    ⟨some 16, .bin .gtr, [(.t 15), (.c (D.int .i64 0))], [1], none⟩,
    ⟨some 17, .mv, [(.t 16)], [2], none⟩,
    ⟨some 18, .mv, [(.t 1)], [3], some (17, true)⟩,
    ⟨some 19, .len, [(.t 18)], [4, 3], some (17, true)⟩,
    ⟨some 20, .bin .gtr, [(.t 19), (.c (D.int .i64 0))], [5, 3], some (17, true)⟩,
    ⟨some 21, .pick, [(.t 17), (.t 20), (.c (D.bool false))], [3, 6], none⟩])
  (.cond (.t 21) (.skip) (.exit 0)))
  (.block 1 (.seq (.region true [
    ⟨some 22, .mv, [(.t 2)], [], none⟩,
    ⟨some 23, .mv, [(.t 0)], [], none⟩,
    ⟨some 24, .idxA 47, [(.t 23), (.c (D.int .i64 0))], [1], none⟩,
    ⟨some 25, .load ⟨true, [.str, .int .u64, .int .u8, .int .u8, .int .u8, .int .u8, .int .u8, .int .u8, .int .u8, .int .u8, .int .u8, .int .u8, .int .u8, .int .u8, .int .u8, .int .u8, .int .u8, .int .u8, .int .u8, .int .u8, .int .u8, .int .u8, .int .u8, .int .u8, .int .u8, .int .u8, .int .u8, .int .u8, .int .u8, .int .u8, .int .u8, .int .u8, .int .u8, .int .u8, .int .i64, .int .i64, .int .i64]⟩, [(.t 24)], [2], none⟩,
    ⟨some 26, .mv, [(.t 1)], [], none⟩,
    ⟨some 27, .idxA 47, [(.t 26), (.c (D.int .i64 0))], [4], none⟩,
    ⟨some 28, .load ⟨true, [.str, .int .u64, .int .u8, .int .u8, .int .u8, .int .u8, .int .u8, .int .u8, .int .u8, .int .u8, .int .u8, .int .u8, .int .u8, .int .u8, .int .u8, .int .u8, .int .u8, .int .u8, .int .u8, .int .u8, .int .u8, .int .u8, .int .u8, .int .u8, .int .u8, .int .u8, .int .u8, .int .u8, .int .u8, .int .u8, .int .u8, .int .u8, .int .u8, .int .u8, .int .i64, .int .i64, .int .i64]⟩, [(.t 27)], [5], none⟩,
    ⟨some 29, .call [14], [(.t 22), (.t 25), (.t 28)], [0, 3, 6], none⟩,
    ⟨some 11, .mv, [(.t 29)], [7, 7, 0, 1, 2, 3, 4, 5, 6, 7], none⟩])
  (.seq (.seq (.region false [
    ⟨some 30, .mv, [(.t 11)], [], none⟩,
    ⟨some 31, .bin .lss, [(.t 30), (.c (D.int .i64 0))], [0], none⟩])
  (.cond (.t 31) (.seq (.region true [
    ⟨some 32, .mv, [(.t 10)], [], none⟩,
    ⟨some 33, .mv, [(.t 0)], [], none⟩,
    ⟨some 34, .idxA 47, [(.t 33), (.c (D.int .i64 0))], [1], none⟩,
    ⟨some 35, .load ⟨true, [.str, .int .u64, .int .u8, .int .u8, .int .u8, .int .u8, .int .u8, .int .u8, .int .u8, .int .u8, .int .u8, .int .u8, .int .u8, .int .u8, .int .u8, .int .u8, .int .u8, .int .u8, .int .u8, .int .u8, .int .u8, .int .u8, .int .u8, .int .u8, .int .u8, .int .u8, .int .u8, .int .u8, .int .u8, .int .u8, .int .u8, .int .u8, .int .u8, .int .u8, .int .i64, .int .i64, .int .i64]⟩, [(.t 34)], [2], none⟩,
    ⟨some 36, .buildSl 4 47, [(.t 35)], [3], none⟩,
    ⟨some 37, .append 5 47 80, [(.t 32), (.t 36)], [0, 4], none⟩,
    ⟨some 38, .mv, [(.t 0)], [], none⟩,
    ⟨some 39, .slice (some 47) true false false, [(.t 38), (.c (D.int .i64 1))], [6], none⟩,
    ⟨some 10, .mv, [(.t 37)], [5, 5, 0, 1, 2, 3, 4, 5], none⟩,
    ⟨some 0, .mv, [(.t 39)], [7, 8, 0, 1, 2, 3, 4, 5, 6, 7, 8], none⟩])
  (.exit 1)) (.skip)))
  (.seq (.seq (.region false [
    ⟨some 40, .mv, [(.t 11)], [], none⟩,
    ⟨some 41, .bin .gtr, [(.t 40), (.c (D.int .i64 0))], [0], none⟩])
  (.cond (.t 41) (.seq (.region true [
    ⟨some 42, .mv, [(.t 10)], [], none⟩,
    ⟨some 43, .mv, [(.t 1)], [], none⟩,
    ⟨some 44, .idxA 47, [(.t 43), (.c (D.int .i64 0))], [1], none⟩,
    ⟨some 45, .load ⟨true, [.str, .int .u64, .int .u8, .int .u8, .int .u8, .int .u8, .int .u8, .int .u8, .int .u8, .int .u8, .int .u8, .int .u8, .int .u8, .int .u8, .int .u8, .int .u8, .int .u8, .int .u8, .int .u8, .int .u8, .int .u8, .int .u8, .int .u8, .int .u8, .int .u8, .int .u8, .int .u8, .int .u8, .int .u8, .int .u8, .int .u8, .int .u8, .int .u8, .int .u8, .int .i64, .int .i64, .int .i64]⟩, [(.t 44)], [2], none⟩,
    ⟨some 46, .buildSl 6 47, [(.t 45)], [3], none⟩,
    ⟨some 47, .append 7 47 80, [(.t 42), (.t 46)], [0, 4], none⟩,
    ⟨some 48, .mv, [(.t 1)], [], none⟩,
    ⟨some 49, .slice (some 47) true false false, [(.t 48), (.c (D.int .i64 1))], [6], none⟩,
    ⟨some 10, .mv, [(.t 47)], [5, 5, 0, 1, 2, 3, 4, 5], none⟩,
    ⟨some 1, .mv, [(.t 49)], [7, 8, 0, 1, 2, 3, 4, 5, 6, 7, 8], none⟩])
  (.exit 1)) (.skip)))
  (.seq (.region true [
    ⟨some 51, .mv, [(.t 3)], [], none⟩,
    ⟨some 52, .mv, [(.t 0)], [], none⟩,
    ⟨some 53, .idxA 47, [(.t 52), (.c (D.int .i64 0))], [1], none⟩,
    ⟨some 54, .load ⟨true, [.str, .int .u64, .int .u8, .int .u8, .int .u8, .int .u8, .int .u8, .int .u8, .int .u8, .int .u8, .int .u8, .int .u8, .int .u8, .int .u8, .int .u8, .int .u8, .int .u8, .int .u8, .int .u8, .int .u8, .int .u8, .int .u8, .int .u8, .int .u8, .int .u8, .int .u8, .int .u8, .int .u8, .int .u8, .int .u8, .int .u8, .int .u8, .int .u8, .int .u8, .int .i64, .int .i64, .int .i64]⟩, [(.t 53)], [2], none⟩,
    ⟨some 55, .mv, [(.t 1)], [], none⟩,
    ⟨some 56, .idxA 47, [(.t 55), (.c (D.int .i64 0))], [4], none⟩,
    ⟨some 57, .load ⟨true, [.str, .int .u64, .int .u8, .int .u8, .int .u8, .int .u8, .int .u8, .int .u8, .int .u8, .int .u8, .int .u8, .int .u8, .int .u8, .int .u8, .int .u8, .int .u8, .int .u8, .int .u8, .int .u8, .int .u8, .int .u8, .int .u8, .int .u8, .int .u8, .int .u8, .int .u8, .int .u8, .int .u8, .int .u8, .int .u8, .int .u8, .int .u8, .int .u8, .int .u8, .int .i64, .int .i64, .int .i64]⟩, [(.t 56)], [5], none⟩,
    ⟨some 58, .call [15, 16], [(.t 51), (.t 54), (.t 57)], [0, 3, 6], none⟩,
    ⟨some 50, .mv, [(.t 58)], [7], none⟩,
    ⟨some 59, .ext 0, [(.t 50)], [8], none⟩,
    ⟨some 60, .ext 1, [(.t 50)], [8], none⟩,
    ⟨some 12, .alloc 8 [(D.str ⟨#[]⟩), (D.int .u64 0), (D.int .u8 0), (D.int .u8 0), (D.int .u8 0), (D.int .u8 0), (D.int .u8 0), (D.int .u8 0), (D.int .u8 0), (D.int .u8 0), (D.int .u8 0), (D.int .u8 0), (D.int .u8 0), (D.int .u8 0), (D.int .u8 0), (D.int .u8 0), (D.int .u8 0), (D.int .u8 0), (D.int .u8 0), (D.int .u8 0), (D.int .u8 0), (D.int .u8 0), (D.int .u8 0), (D.int .u8 0), (D.int .u8 0), (D.int .u8 0), (D.int .u8 0), (D.int .u8 0), (D.int .u8 0), (D.int .u8 0), (D.int .u8 0), (D.int .u8 0), (D.int .u8 0), (D.int .u8 0), (D.int .i64 0), (D.int .i64 0), (D.int .i64 0)], [], [], none⟩,
    ⟨none, .store ⟨true, [.str, .int .u64, .int .u8, .int .u8, .int .u8, .int .u8, .int .u8, .int .u8, .int .u8, .int .u8, .int .u8, .int .u8, .int .u8, .int .u8, .int .u8, .int .u8, .int .u8, .int .u8, .int .u8, .int .u8, .int .u8, .int .u8, .int .u8, .int .u8, .int .u8, .int .u8, .int .u8, .int .u8, .int .u8, .int .u8, .int .u8, .int .u8, .int .u8, .int .u8, .int .i64, .int .i64, .int .i64]⟩, [(.t 12), (.t 59)], [11, 9, 7, 0, 1, 2, 3, 4, 5, 6, 7, 8, 9, 11], none⟩,
    ⟨some 13, .mv, [(.t 60)], [10, 12, 0, 1, 2, 3, 4, 5, 6, 7, 8, 9, 10, 11, 12], none⟩])
  (.seq (.seq (.region false [
    ⟨some 61, .mv, [(.t 13)], [], none⟩,
    ⟨some 62, .not, [(.t 61)], [0], none⟩])
  (.cond (.t 62) (.seq (.region false [
    ⟨some 8, .mv, [(.c (D.zs 47 true))], [], none⟩,
    ⟨some 9, .mv, [(.c (D.bool false))], [0, 0], none⟩])
  (.ret)) (.skip)))
  (.region true [
    ⟨some 63, .mv, [(.t 10)], [], none⟩,
    ⟨some 64, .load ⟨true, [.str, .int .u64, .int .u8, .int .u8, .int .u8, .int .u8, .int .u8, .int .u8, .int .u8, .int .u8, .int .u8, .int .u8, .int .u8, .int .u8, .int .u8, .int .u8, .int .u8, .int .u8, .int .u8, .int .u8, .int .u8, .int .u8, .int .u8, .int .u8, .int .u8, .int .u8, .int .u8, .int .u8, .int .u8, .int .u8, .int .u8, .int .u8, .int .u8, .int .u8, .int .i64, .int .i64, .int .i64]⟩, [(.t 12)], [], none⟩,
    ⟨some 65, .buildSl 9 47, [(.t 64)], [1], none⟩,
    ⟨some 66, .append 10 47 80, [(.t 63), (.t 65)], [0, 2], none⟩,
    ⟨some 67, .mv, [(.t 0)], [], none⟩,
    ⟨some 68, .slice (some 47) true false false, [(.t 67), (.c (D.int .i64 1))], [4], none⟩,
    ⟨some 69, .mv, [(.t 1)], [], none⟩,
    ⟨some 70, .slice (some 47) true false false, [(.t 69), (.c (D.int .i64 1))], [6], none⟩,
    ⟨some 10, .mv, [(.t 66)], [3, 3, 0, 1, 2, 3], none⟩,
    ⟨some 0, .mv, [(.t 68)], [5, 8, 0, 1, 2, 3, 4, 5, 8], none⟩,
    ⟨some 1, .mv, [(.t 70)], [7, 9, 0, 1, 2, 3, 4, 5, 6, 7, 8, 9], none⟩]))))))))))
  (.seq (.region false [
    ⟨some 71, .mv, [(.t 10)], [], none⟩,
    ⟨some 72, .mv, [(.t 0)], [], none⟩,
    ⟨some 73, .append 11 47 80, [(.t 71), (.t 72)], [0, 1], none⟩,
    ⟨some 74, .mv, [(.t 1)], [], none⟩,
    ⟨some 75, .append 12 47 80, [(.t 73), (.t 74)], [2, 3, 2], none⟩,
    ⟨some 8, .mv, [(.t 75)], [4, 4, 0, 1, 2, 3, 4], none⟩,
    ⟨some 9, .mv, [(.c (D.bool true))], [5, 0, 1, 2, 3, 4, 5], none⟩])
  (.ret))))⟩

/- 45: cmp.isNaN[string] -/
def c_cmp_isNaN : DFun := ⟨6, 1, [.p], [.p ⟨false, [.bool]⟩], [.t 2],
  .seq (.region false [
    ⟨some 2, .mv, [(.c (D.bool false))], [], none⟩])
  (.seq (.region false [
    ⟨some 3, .mv, [(.t 0)], [], none⟩,
    ⟨some 4, .mv, [(.t 0)], [], none⟩,
    ⟨some 5, .bin .neq, [(.t 3), (.t 4)], [0, 1], none⟩,
    ⟨some 2, .mv, [(.t 5)], [2, 0, 1, 2], none⟩])
  (.ret))⟩

/- 32: cmp.Compare[string] -/
def c_cmp_Compare : DFun := ⟨20, 4, [.p, .p], [.p ⟨false, [.int .i64]⟩], [.t 4],
  .seq (.region false [
    ⟨some 4, .mv, [(.c (D.int .i64 0))], [], none⟩])
  (.seq (.region false [
    ⟨some 7, .mv, [(.t 0)], [], none⟩,
    ⟨some 8, .call [2], [(.c (D.fn 45 [])), (.t 7)], [0], none⟩,
    ⟨some 5, .mv, [(.t 8)], [1, 1, 0, 1], none⟩])
  (.seq (.region false [
    ⟨some 9, .mv, [(.t 1)], [], none⟩,
    ⟨some 10, .call [3], [(.c (D.fn 45 [])), (.t 9)], [0], none⟩,
    ⟨some 6, .mv, [(.t 10)], [1, 1, 0, 1], none⟩])
  (.seq (.seq (.region false [
    ⟨some 11, .mv, [(.t 5)], [], none⟩])
  (.cond (.t 11) (.seq (.seq (.region false [
    ⟨some 12, .mv, [(.t 6)], [], none⟩])
  (.cond (.t 12) (.seq (.region false [
    ⟨some 4, .mv, [(.c (D.int .i64 0))], [], none⟩])
  (.ret)) (.skip)))
  (.seq (.region false [
    ⟨some 4, .mv, [(.c (D.int .i64 (-1)))], [], none⟩])
  (.ret))) (.skip)))
  (.seq (.seq (.region false [
    ⟨some 13, .mv, [(.t 6)], [], none⟩])
  (.cond (.t 13) (.seq (.region false [
    ⟨some 4, .mv, [(.c (D.int .i64 1))], [], none⟩])
  (.ret)) (.skip)))
  (.seq (.seq (.region false [
    ⟨some 14, .mv, [(.t 0)], [], none⟩,
    ⟨some 15, .mv, [(.t 1)], [], none⟩,
    ⟨some 16, .bin .lss, [(.t 14), (.t 15)], [0, 1], none⟩])
  (.cond (.t 16) (.seq (.region false [
    ⟨some 4, .mv, [(.c (D.int .i64 (-1)))], [], none⟩])
  (.ret)) (.skip)))
  (.seq (.seq (.region false [
    ⟨some 17, .mv, [(.t 0)], [], none⟩,
    ⟨some 18, .mv, [(.t 1)], [], none⟩,
    ⟨some 19, .bin .gtr, [(.t 17), (.t 18)], [0, 1], none⟩])
  (.cond (.t 19) (.seq (.region false [
    ⟨some 4, .mv, [(.c (D.int .i64 1))], [], none⟩])
  (.ret)) (.skip)))
  (.seq (.region false [
    ⟨some 4, .mv, [(.c (D.int .i64 0))], [], none⟩])
  (.ret))))))))⟩

/- 31: gatepath/fresh.Merge$2 -/
def c_fresh_Merge_2 : DFun := ⟨10, 5, [.p, .p], [.p ⟨false, [.int .i64]⟩], [.t 4],
  .seq (.region false [
    ⟨some 2, .box 2, [(.t 0)], [], none⟩,
    ⟨some 3, .box 3, [(.t 1)], [], none⟩,
    ⟨some 4, .mv, [(.c (D.int .i64 0))], [], none⟩])
  (.seq (.region false [
    ⟨some 5, .fld 0, [(.t 2)], [], none⟩,
    ⟨some 6, .load ⟨false, [.str]⟩, [(.t 5)], [0], none⟩,
    ⟨some 7, .fld 0, [(.t 3)], [], none⟩,
    ⟨some 8, .load ⟨false, [.str]⟩, [(.t 7)], [2], none⟩,
    ⟨some 9, .call [4], [(.c (D.fn 32 [])), (.t 6), (.t 8)], [1, 3], none⟩,
    ⟨some 4, .mv, [(.t 9)], [4, 4, 0, 1, 2, 3, 4], none⟩])
  (.ret))⟩

/- 12: gatepath/fresh.Merge -/
def c_fresh_Merge : DFun := ⟨34, 6, [.p, .p], [.o 47, .p ⟨false, [.int .i64]⟩], [.t 4, .t 5],
  .seq (.region false [
    ⟨some 4, .mv, [(.c (D.zs 47 true))], [], none⟩,
    ⟨some 5, .mv, [(.c (D.int .i64 0))], [0], none⟩])
  (.seq (.region false [
    ⟨some 10, .mv, [(.t 0)], [], none⟩,
    ⟨some 11, .call [2], [(.c (D.fn 19 [])), (.t 10)], [0], none⟩,
    ⟨some 6, .mv, [(.t 11)], [1, 1, 0, 1], none⟩])
  (.seq (.seq (.region false [
    ⟨some 12, .mv, [(.t 6)], [], none⟩,
    ⟨some 13, .bin .eql, [(.t 12), (.c (D.int .i64 0))], [0], none⟩])
  (.cond (.t 13) (.region false [
    ⟨some 14, .mv, [(.t 1)], [], none⟩,
    ⟨some 15, .call [3], [(.c (D.fn 19 [])), (.t 14)], [0], none⟩,
    ⟨some 6, .mv, [(.t 15)], [1, 1, 0, 1], none⟩]) (.skip)))
  (.seq (.seq (.region false [
    ⟨some 16, .mv, [(.t 6)], [], none⟩,
    ⟨some 17, .bin .neq, [(.t 16), (.c (D.int .i64 0))], [0], none⟩])
  (.cond (.t 17) (.seq (.region false [
    ⟨some 18, .mv, [(.t 6)], [], none⟩,
    ⟨some 4, .mv, [(.c (D.zs 47 true))], [], none⟩,
    ⟨some 5, .mv, [(.t 18)], [0, 1, 0, 1], none⟩])
  (.ret)) (.skip)))
  (.seq (.region false [
    ⟨some 7, .mv, [(.c (D.fn 29 []))], [], none⟩])
  (.seq (.region false [
    ⟨some 20, .mv, [(.t 0)], [], none⟩,
    ⟨some 21, .mv, [(.t 1)], [], none⟩,
    ⟨some 22, .mv, [(.t 7)], [], none⟩,
    ⟨some 23, .call [4, 5], [(.c (D.fn 30 [])), (.t 20), (.t 21), (.c (D.fn 31 [])), (.t 22)], [0, 1, 2], none⟩,
    ⟨some 19, .mv, [(.t 23)], [3], none⟩,
    ⟨some 24, .ext 0, [(.t 19)], [4], none⟩,
    ⟨some 25, .ext 1, [(.t 19)], [4], none⟩,
    ⟨some 8, .mv, [(.t 24)], [5, 3, 0, 1, 2, 3, 4, 5], none⟩,
    ⟨some 9, .mv, [(.t 25)], [6, 7, 0, 1, 2, 3, 4, 5, 6, 7], none⟩])
  (.seq (.block 0 (.seq (.region false [
    ⟨some 27, .mv, [(.t 9)], [], none⟩,
    ⟨some 28, .not, [(.t 27)], [0], none⟩,
    ⟨some 26, .mv, [(.t 28)], [1], none⟩])
  (.cond (.t 26) (.seq (.region false [
    ⟨some 4, .mv, [(.c (D.zs 47 true))], [], none⟩,
    ⟨some 5, .mv, [(.c (D.int .i64 14))], [0, 0], none⟩])
  (.ret)) (.seq (.region false [
    ⟨some 30, .mv, [(.t 8)], [], none⟩,
    ⟨some 31, .len, [(.t 30)], [0], none⟩,
    ⟨some 32, .bin .gtr, [(.t 31), (.c (D.int .i64 200))], [1], none⟩,
    ⟨some 29, .mv, [(.t 32)], [2], none⟩])
  (.cond (.t 29) (.seq (.region false [
    ⟨some 4, .mv, [(.c (D.zs 47 true))], [], none⟩,
    ⟨some 5, .mv, [(.c (D.int .i64 16))], [0, 0], none⟩])
  (.ret)) (.skip))))))
  (.seq (.region false [
    ⟨some 33, .mv, [(.t 8)], [], none⟩,
    ⟨some 4, .mv, [(.t 33)], [0, 0], none⟩,
    ⟨some 5, .mv, [(.c (D.int .i64 0))], [1, 0, 1], none⟩])
  (.ret))))))))⟩

/- 26: gatepath/gatepathref29.Moment -/
def c_gatepathref29_Moment : DFun := ⟨9, 1, [.p], [.p ⟨false, [.bool]⟩], [.t 2],
  .seq (.region false [
    ⟨some 2, .mv, [(.c (D.bool false))], [], none⟩])
  (.seq (.region false [
    ⟨some 3, .mv, [(.t 0)], [], none⟩,
    ⟨some 4, .bin .geq, [(.t 3), (.c (D.int .i64 0))], [0], none⟩,
    ⟨some 5, .mv, [(.t 4)], [1], none⟩,
    ⟨some 6, .mv, [(.t 0)], [2], some (5, true)⟩,
    ⟨some 7, .bin .leq, [(.t 6), (.c (D.int .i64 1099511627776))], [3, 2], some (5, true)⟩,
    ⟨some 8, .pick, [(.t 5), (.t 7), (.c (D.bool false))], [2, 4], none⟩,
    ⟨some 2, .mv, [(.t 8)], [5, 2, 0, 1, 2, 3, 4, 5], none⟩])
  (.ret))⟩

/- 41: gatepath/gatepathref29.Right -/
def c_gatepathref29_Right : DFun := ⟨57, 3, [.p], [.p ⟨false, [.bool]⟩], [.t 2],
  .seq (.region false [
    ⟨some 1, .box 1, [(.t 0)], [], none⟩,
    ⟨some 2, .mv, [(.c (D.bool false))], [], none⟩])
  (.seq (.seq (.region false [
    ⟨some 4, .fld 0, [(.t 1)], [], none⟩,
    ⟨some 5, .load ⟨false, [.str]⟩, [(.t 4)], [0], none⟩,
    ⟨some 6, .lenS, [(.t 5)], [1], none⟩,
    ⟨some 7, .bin .lss, [(.t 6), (.c (D.int .i64 1))], [2], none⟩,
    ⟨some 8, .mv, [(.t 7)], [3], none⟩,
    ⟨some 9, .fld 0, [(.t 1)], [4], some (8, false)⟩,
    ⟨some 10, .load ⟨false, [.str]⟩, [(.t 9)], [5, 4], some (8, false)⟩,
    ⟨some 11, .lenS, [(.t 10)], [6, 4], some (8, false)⟩,
    ⟨some 12, .bin .gtr, [(.t 11), (.c (D.int .i64 200))], [7, 4], some (8, false)⟩,
    ⟨some 13, .pick, [(.t 8), (.c (D.bool true)), (.t 12)], [4, 8], none⟩])
  (.cond (.t 13) (.seq (.region false [
    ⟨some 2, .mv, [(.c (D.bool false))], [], none⟩])
  (.ret)) (.skip)))
  (.seq (.seq (.region false [
    ⟨some 3, .mv, [(.c (D.int .i64 0))], [], none⟩])
  (.block 0 (.loop ⟨[1], [(3, .p ⟨false, [.int .i64]⟩)], [(1, .v [.p (.str), .p (.int .u64), .p (.int .u8), .p (.int .u8), .p (.int .u8), .p (.int .u8), .p (.int .u8), .p (.int .u8), .p (.int .u8), .p (.int .u8), .p (.int .u8), .p (.int .u8), .p (.int .u8), .p (.int .u8), .p (.int .u8), .p (.int .u8), .p (.int .u8), .p (.int .u8), .p (.int .u8), .p (.int .u8), .p (.int .u8), .p (.int .u8), .p (.int .u8), .p (.int .u8), .p (.int .u8), .p (.int .u8), .p (.int .u8), .p (.int .u8), .p (.int .u8), .p (.int .u8), .p (.int .u8), .p (.int .u8), .p (.int .u8), .p (.int .u8), .p (.int .i64), .p (.int .i64), .p (.int .i64)])]⟩ (.seq (.seq (.region false [
    ⟨some 14, .mv, [(.t 3)], [], none⟩,
    ⟨some 15, .fld 0, [(.t 1)], [], none⟩,
    ⟨some 16, .load ⟨false, [.str]⟩, [(.t 15)], [1], none⟩,
    ⟨some 17, .lenS, [(.t 16)], [2], none⟩,
    ⟨some 18, .bin .lss, [(.t 14), (.t 17)], [0, 3], none⟩])
  (.cond (.t 18) (.skip) (.exit 0)))
  (.seq (.block 1 (.seq (.region false [
    ⟨some 21, .fld 0, [(.t 1)], [], none⟩,
    ⟨some 22, .load ⟨false, [.str]⟩, [(.t 21)], [0], none⟩,
    ⟨some 23, .mv, [(.t 3)], [], none⟩,
    ⟨some 24, .idxS, [(.t 22), (.t 23)], [1, 2], none⟩,
    ⟨some 25, .bin .lss, [(.t 24), (.c (D.int .u8 33))], [3], none⟩,
    ⟨some 26, .mv, [(.t 25)], [4], none⟩,
    ⟨some 27, .fld 0, [(.t 1)], [5], some (26, false)⟩,
    ⟨some 28, .load ⟨false, [.str]⟩, [(.t 27)], [6, 5], some (26, false)⟩,
    ⟨some 29, .mv, [(.t 3)], [5], some (26, false)⟩,
    ⟨some 30, .idxS, [(.t 28), (.t 29)], [7, 8, 5], some (26, false)⟩,
    ⟨some 31, .bin .gtr, [(.t 30), (.c (D.int .u8 126))], [9, 5], some (26, false)⟩,
    ⟨some 32, .pick, [(.t 26), (.c (D.bool true)), (.t 31)], [5, 10], none⟩])
  (.cond (.t 32) (.seq (.region false [
    ⟨some 2, .mv, [(.c (D.bool false))], [], none⟩])
  (.ret)) (.skip))))
  (.region false [
    ⟨some 19, .mv, [(.t 3)], [], none⟩,
    ⟨some 20, .bin .add, [(.t 19), (.c (D.int .i64 1))], [0], none⟩,
    ⟨some 3, .mv, [(.t 20)], [1, 0, 1], none⟩]))))))
  (.seq (.region false [
    ⟨some 33, .fld 34, [(.t 1)], [], none⟩,
    ⟨some 34, .fld 0, [(.t 33)], [0], none⟩,
    ⟨some 35, .load ⟨false, [.int .i64]⟩, [(.t 34)], [1], none⟩,
    ⟨some 36, .bin .geq, [(.t 35), (.c (D.int .i64 0))], [2], none⟩,
    ⟨some 37, .mv, [(.t 36)], [3], none⟩,
    ⟨some 38, .fld 34, [(.t 1)], [4], some (37, true)⟩,
    ⟨some 39, .fld 0, [(.t 38)], [5, 4], some (37, true)⟩,
    ⟨some 40, .load ⟨false, [.int .i64]⟩, [(.t 39)], [6, 4], some (37, true)⟩,
    ⟨some 41, .fld 34, [(.t 1)], [4], some (37, true)⟩,
    ⟨some 42, .fld 1, [(.t 41)], [8, 4], some (37, true)⟩,
    ⟨some 43, .load ⟨false, [.int .i64]⟩, [(.t 42)], [9, 4], some (37, true)⟩,
    ⟨some 44, .bin .leq, [(.t 40), (.t 43)], [7, 10, 4], some (37, true)⟩,
    ⟨some 45, .pick, [(.t 37), (.t 44), (.c (D.bool false))], [4, 11], none⟩,
    ⟨some 46, .mv, [(.t 45)], [12, 4], none⟩,
    ⟨some 47, .fld 34, [(.t 1)], [13], some (46, true)⟩,
    ⟨some 48, .fld 1, [(.t 47)], [14, 13], some (46, true)⟩,
    ⟨some 49, .load ⟨false, [.int .i64]⟩, [(.t 48)], [15, 13], some (46, true)⟩,
    ⟨some 50, .bin .leq, [(.t 49), (.c (D.int .i64 1099511627776))], [16, 13], some (46, true)⟩,
    ⟨some 51, .pick, [(.t 46), (.t 50), (.c (D.bool false))], [13, 17], none⟩,
    ⟨some 52, .mv, [(.t 51)], [18, 13], none⟩,
    ⟨some 53, .fld 36, [(.t 1)], [19], some (52, true)⟩,
    ⟨some 54, .load ⟨false, [.int .i64]⟩, [(.t 53)], [20, 19], some (52, true)⟩,
    ⟨some 55, .call [2], [(.c (D.fn 26 [])), (.t 54)], [21, 19, 19], some (52, true)⟩,
    ⟨some 56, .pick, [(.t 52), (.t 55), (.c (D.bool false))], [19, 22], none⟩,
    ⟨some 2, .mv, [(.t 56)], [23, 22, 0, 1, 2, 3, 4, 5, 6, 7, 8, 9, 10, 11, 12, 13, 14, 15, 16, 17, 18, 19, 20, 21, 22, 23], none⟩])
  (.ret))))⟩

/- 20: gatepath/gatepathref29.Check -/
def c_gatepathref29_Check : DFun := ⟨37, 2, [.p], [.p ⟨false, [.int .i64]⟩], [.t 2],
  .seq (.region false [
    ⟨some 2, .mv, [(.c (D.int .i64 0))], [], none⟩])
  (.seq (.seq (.region false [
    ⟨some 4, .mv, [(.t 0)], [], none⟩,
    ⟨some 5, .len, [(.t 4)], [0], none⟩,
    ⟨some 6, .bin .gtr, [(.t 5), (.c (D.int .i64 200))], [1], none⟩])
  (.cond (.t 6) (.seq (.region false [
    ⟨some 2, .mv, [(.c (D.int .i64 4))], [], none⟩])
  (.ret)) (.skip)))
  (.seq (.seq (.region false [
    ⟨some 3, .mv, [(.c (D.int .i64 0))], [], none⟩])
  (.block 0 (.loop ⟨[0], [(3, .p ⟨false, [.int .i64]⟩)], []⟩ (.seq (.seq (.region false [
    ⟨some 7, .mv, [(.t 3)], [], none⟩,
    ⟨some 8, .mv, [(.t 0)], [], none⟩,
    ⟨some 9, .len, [(.t 8)], [1], none⟩,
    ⟨some 10, .bin .lss, [(.t 7), (.t 9)], [0, 2], none⟩])
  (.cond (.t 10) (.skip) (.exit 0)))
  (.seq (.block 1 (.seq (.region true [
    ⟨some 13, .mv, [(.t 0)], [], none⟩,
    ⟨some 14, .mv, [(.t 3)], [], none⟩,
    ⟨some 15, .idxA 47, [(.t 13), (.t 14)], [0, 1], none⟩,
    ⟨some 16, .load ⟨true, [.str, .int .u64, .int .u8, .int .u8, .int .u8, .int .u8, .int .u8, .int .u8, .int .u8, .int .u8, .int .u8, .int .u8, .int .u8, .int .u8, .int .u8, .int .u8, .int .u8, .int .u8, .int .u8, .int .u8, .int .u8, .int .u8, .int .u8, .int .u8, .int .u8, .int .u8, .int .u8, .int .u8, .int .u8, .int .u8, .int .u8, .int .u8, .int .u8, .int .u8, .int .i64, .int .i64, .int .i64]⟩, [(.t 15)], [2], none⟩,
    ⟨some 17, .call [1], [(.c (D.fn 41 [])), (.t 16)], [3], none⟩,
    ⟨some 18, .not, [(.t 17)], [4], none⟩,
    ⟨some 19, .mv, [(.t 18)], [5, 4], none⟩,
    ⟨some 20, .mv, [(.t 3)], [6], some (19, false)⟩,
    ⟨some 21, .bin .gtr, [(.t 20), (.c (D.int .i64 0))], [7, 6], some (19, false)⟩,
    ⟨some 22, .mv, [(.t 21)], [8, 6, 6], some (19, false)⟩,
    ⟨some 23, .mv, [(.t 0)], [9], some (22, true)⟩,
    ⟨some 24, .mv, [(.t 3)], [9], some (22, true)⟩,
    ⟨some 25, .idxA 47, [(.t 23), (.t 24)], [10, 11, 9], some (22, true)⟩,
    ⟨some 26, .fld 0, [(.t 25)], [12, 9], some (22, true)⟩,
    ⟨some 27, .load ⟨false, [.str]⟩, [(.t 26)], [13, 9], some (22, true)⟩,
    ⟨some 28, .mv, [(.t 0)], [9], some (22, true)⟩,
    ⟨some 29, .mv, [(.t 3)], [9], some (22, true)⟩,
    ⟨some 30, .bin .sub, [(.t 29), (.c (D.int .i64 1))], [16, 9], some (22, true)⟩,
    ⟨some 31, .idxA 47, [(.t 28), (.t 30)], [15, 17, 9], some (22, true)⟩,
    ⟨some 32, .fld 0, [(.t 31)], [18, 9], some (22, true)⟩,
    ⟨some 33, .load ⟨false, [.str]⟩, [(.t 32)], [19, 9], some (22, true)⟩,
    ⟨some 34, .bin .leq, [(.t 27), (.t 33)], [14, 20, 9], some (22, true)⟩,
    ⟨some 35, .pick, [(.t 22), (.t 34), (.c (D.bool false))], [9, 21, 6], some (19, false)⟩,
    ⟨some 36, .pick, [(.t 19), (.c (D.bool true)), (.t 35)], [6, 22], none⟩])
  (.cond (.t 36) (.seq (.region false [
    ⟨some 2, .mv, [(.c (D.int .i64 8))], [], none⟩])
  (.ret)) (.skip))))
  (.region false [
    ⟨some 11, .mv, [(.t 3)], [], none⟩,
    ⟨some 12, .bin .add, [(.t 11), (.c (D.int .i64 1))], [0], none⟩,
    ⟨some 3, .mv, [(.t 12)], [1, 0, 1], none⟩]))))))
  (.seq (.region false [
    ⟨some 2, .mv, [(.c (D.int .i64 0))], [], none⟩])
  (.ret))))⟩

/- 33: gatepath/gatepathref29.find -/
def c_gatepathref29_find : DFun := ⟨20, 2, [.p, .p], [.p ⟨false, [.int .i64]⟩], [.t 4],
  .seq (.region false [
    ⟨some 4, .mv, [(.c (D.int .i64 0))], [], none⟩])
  (.seq (.seq (.region false [
    ⟨some 5, .mv, [(.c (D.int .i64 0))], [], none⟩])
  (.block 0 (.loop ⟨[0, 1], [(5, .p ⟨false, [.int .i64]⟩)], []⟩ (.seq (.seq (.region false [
    ⟨some 6, .mv, [(.t 5)], [], none⟩,
    ⟨some 7, .mv, [(.t 0)], [], none⟩,
    ⟨some 8, .len, [(.t 7)], [1], none⟩,
    ⟨some 9, .bin .lss, [(.t 6), (.t 8)], [0, 2], none⟩])
  (.cond (.t 9) (.skip) (.exit 0)))
  (.seq (.block 1 (.seq (.region false [
    ⟨some 12, .mv, [(.t 0)], [], none⟩,
    ⟨some 13, .mv, [(.t 5)], [], none⟩,
    ⟨some 14, .idxA 47, [(.t 12), (.t 13)], [0, 1], none⟩,
    ⟨some 15, .fld 0, [(.t 14)], [2], none⟩,
    ⟨some 16, .load ⟨false, [.str]⟩, [(.t 15)], [3], none⟩,
    ⟨some 17, .mv, [(.t 1)], [], none⟩,
    ⟨some 18, .bin .eql, [(.t 16), (.t 17)], [4, 5], none⟩])
  (.cond (.t 18) (.seq (.region false [
    ⟨some 19, .mv, [(.t 5)], [], none⟩,
    ⟨some 4, .mv, [(.t 19)], [0, 0], none⟩])
  (.ret)) (.skip))))
  (.region false [
    ⟨some 10, .mv, [(.t 5)], [], none⟩,
    ⟨some 11, .bin .add, [(.t 10), (.c (D.int .i64 1))], [0], none⟩,
    ⟨some 5, .mv, [(.t 11)], [1, 0, 1], none⟩]))))))
  (.seq (.region false [
    ⟨some 4, .mv, [(.c (D.int .i64 (-1)))], [], none⟩])
  (.ret)))⟩

/- 34: gatepath/gatepathref29.put -/
def c_gatepathref29_put : DFun := ⟨52, 10, [.p, .p], [.o 47], [.t 4],
  .seq (.region false [
    ⟨some 3, .box 2, [(.t 1)], [], none⟩,
    ⟨some 4, .mv, [(.c (D.zs 47 true))], [], none⟩])
  (.seq (.region false [
    ⟨some 5, .mv, [(.c (D.zs 47 true))], [], none⟩])
  (.seq (.region false [
    ⟨some 6, .mv, [(.c (D.bool false))], [], none⟩])
  (.seq (.seq (.region false [
    ⟨some 7, .mv, [(.c (D.int .i64 0))], [], none⟩])
  (.block 0 (.loop ⟨[0, 3], [(5, .o 9 47), (6, .p ⟨false, [.bool]⟩), (7, .p ⟨false, [.int .i64]⟩)], [(2, .v [.p (.str), .p (.int .u64), .p (.int .u8), .p (.int .u8), .p (.int .u8), .p (.int .u8), .p (.int .u8), .p (.int .u8), .p (.int .u8), .p (.int .u8), .p (.int .u8), .p (.int .u8), .p (.int .u8), .p (.int .u8), .p (.int .u8), .p (.int .u8), .p (.int .u8), .p (.int .u8), .p (.int .u8), .p (.int .u8), .p (.int .u8), .p (.int .u8), .p (.int .u8), .p (.int .u8), .p (.int .u8), .p (.int .u8), .p (.int .u8), .p (.int .u8), .p (.int .u8), .p (.int .u8), .p (.int .u8), .p (.int .u8), .p (.int .u8), .p (.int .u8), .p (.int .i64), .p (.int .i64), .p (.int .i64)])]⟩ (.seq (.seq (.region false [
    ⟨some 8, .mv, [(.t 7)], [], none⟩,
    ⟨some 9, .mv, [(.t 0)], [], none⟩,
    ⟨some 10, .len, [(.t 9)], [1], none⟩,
    ⟨some 11, .bin .lss, [(.t 8), (.t 10)], [0, 2], none⟩])
  (.cond (.t 11) (.skip) (.exit 0)))
  (.seq (.block 1 (.seq (.seq (.region true [
    ⟨some 14, .mv, [(.t 6)], [], none⟩,
    ⟨some 15, .not, [(.t 14)], [0], none⟩,
    ⟨some 16, .mv, [(.t 15)], [1], none⟩,
    ⟨some 17, .fld 0, [(.t 3)], [2], some (16, true)⟩,
    ⟨some 18, .load ⟨false, [.str]⟩, [(.t 17)], [3, 2], some (16, true)⟩,
    ⟨some 19, .mv, [(.t 0)], [2], some (16, true)⟩,
    ⟨some 20, .mv, [(.t 7)], [2], some (16, true)⟩,
    ⟨some 21, .idxA 47, [(.t 19), (.t 20)], [5, 6, 2], some (16, true)⟩,
    ⟨some 22, .fld 0, [(.t 21)], [7, 2], some (16, true)⟩,
    ⟨some 23, .load ⟨false, [.str]⟩, [(.t 22)], [8, 2], some (16, true)⟩,
    ⟨some 24, .bin .leq, [(.t 18), (.t 23)], [4, 9, 2], some (16, true)⟩,
    ⟨some 25, .pick, [(.t 16), (.t 24), (.c (D.bool false))], [2, 10], none⟩])
  (.cond (.t 25) (.seq (.region false [
    ⟨some 26, .mv, [(.t 5)], [], none⟩,
    ⟨some 27, .load ⟨true, [.str, .int .u64, .int .u8, .int .u8, .int .u8, .int .u8, .int .u8, .int .u8, .int .u8, .int .u8, .int .u8, .int .u8, .int .u8, .int .u8, .int .u8, .int .u8, .int .u8, .int .u8, .int .u8, .int .u8, .int .u8, .int .u8, .int .u8, .int .u8, .int .u8, .int .u8, .int .u8, .int .u8, .int .u8, .int .u8, .int .u8, .int .u8, .int .u8, .int .u8, .int .i64, .int .i64, .int .i64]⟩, [(.t 3)], [], none⟩,
    ⟨some 28, .buildSl 3 47, [(.t 27)], [1], none⟩,
    ⟨some 29, .append 4 47 80, [(.t 26), (.t 28)], [0, 2], none⟩,
    ⟨some 5, .mv, [(.t 29)], [3, 3, 0, 1, 2, 3], none⟩])
  (.region false [
    ⟨some 6, .mv, [(.c (D.bool true))], [], none⟩])) (.skip)))
  (.seq (.region true [
    ⟨some 30, .mv, [(.t 0)], [], none⟩,
    ⟨some 31, .mv, [(.t 7)], [], none⟩,
    ⟨some 32, .idxA 47, [(.t 30), (.t 31)], [0, 1], none⟩,
    ⟨some 33, .fld 0, [(.t 32)], [2], none⟩,
    ⟨some 34, .load ⟨false, [.str]⟩, [(.t 33)], [3], none⟩,
    ⟨some 35, .fld 0, [(.t 3)], [], none⟩,
    ⟨some 36, .load ⟨false, [.str]⟩, [(.t 35)], [5], none⟩,
    ⟨some 37, .bin .neq, [(.t 34), (.t 36)], [4, 6], none⟩])
  (.cond (.t 37) (.region false [
    ⟨some 38, .mv, [(.t 5)], [], none⟩,
    ⟨some 39, .mv, [(.t 0)], [], none⟩,
    ⟨some 40, .mv, [(.t 7)], [], none⟩,
    ⟨some 41, .idxA 47, [(.t 39), (.t 40)], [1, 2], none⟩,
    ⟨some 42, .load ⟨true, [.str, .int .u64, .int .u8, .int .u8, .int .u8, .int .u8, .int .u8, .int .u8, .int .u8, .int .u8, .int .u8, .int .u8, .int .u8, .int .u8, .int .u8, .int .u8, .int .u8, .int .u8, .int .u8, .int .u8, .int .u8, .int .u8, .int .u8, .int .u8, .int .u8, .int .u8, .int .u8, .int .u8, .int .u8, .int .u8, .int .u8, .int .u8, .int .u8, .int .u8, .int .i64, .int .i64, .int .i64]⟩, [(.t 41)], [3], none⟩,
    ⟨some 43, .buildSl 5 47, [(.t 42)], [4], none⟩,
    ⟨some 44, .append 6 47 80, [(.t 38), (.t 43)], [0, 5], none⟩,
    ⟨some 5, .mv, [(.t 44)], [6, 6, 0, 1, 2, 3, 4, 5, 6], none⟩]) (.skip)))))
  (.region false [
    ⟨some 12, .mv, [(.t 7)], [], none⟩,
    ⟨some 13, .bin .add, [(.t 12), (.c (D.int .i64 1))], [0], none⟩,
    ⟨some 7, .mv, [(.t 13)], [1, 0, 1], none⟩]))))))
  (.seq (.seq (.region false [
    ⟨some 45, .mv, [(.t 6)], [], none⟩,
    ⟨some 46, .not, [(.t 45)], [0], none⟩])
  (.cond (.t 46) (.region false [
    ⟨some 47, .mv, [(.t 5)], [], none⟩,
    ⟨some 48, .load ⟨true, [.str, .int .u64, .int .u8, .int .u8, .int .u8, .int .u8, .int .u8, .int .u8, .int .u8, .int .u8, .int .u8, .int .u8, .int .u8, .int .u8, .int .u8, .int .u8, .int .u8, .int .u8, .int .u8, .int .u8, .int .u8, .int .u8, .int .u8, .int .u8, .int .u8, .int .u8, .int .u8, .int .u8, .int .u8, .int .u8, .int .u8, .int .u8, .int .u8, .int .u8, .int .i64, .int .i64, .int .i64]⟩, [(.t 3)], [], none⟩,
    ⟨some 49, .buildSl 7 47, [(.t 48)], [1], none⟩,
    ⟨some 50, .append 8 47 80, [(.t 47), (.t 49)], [0, 2], none⟩,
    ⟨some 5, .mv, [(.t 50)], [3, 3, 0, 1, 2, 3], none⟩]) (.skip)))
  (.seq (.region false [
    ⟨some 51, .mv, [(.t 5)], [], none⟩,
    ⟨some 4, .mv, [(.t 51)], [0, 0], none⟩])
  (.ret))))))⟩

/- 13: gatepath/gatepathref29.Merge -/
def c_gatepathref29_Merge : DFun := ⟨127, 10, [.p, .p], [.o 47, .p ⟨false, [.int .i64]⟩], [.t 4, .t 5],
  .seq (.region false [
    ⟨some 4, .mv, [(.c (D.zs 47 true))], [], none⟩,
    ⟨some 5, .mv, [(.c (D.int .i64 0))], [0], none⟩])
  (.seq (.region false [
    ⟨some 10, .mv, [(.t 0)], [], none⟩,
    ⟨some 11, .call [4], [(.c (D.fn 20 [])), (.t 10)], [0], none⟩,
    ⟨some 6, .mv, [(.t 11)], [1, 1, 0, 1], none⟩])
  (.seq (.seq (.region false [
    ⟨some 12, .mv, [(.t 6)], [], none⟩,
    ⟨some 13, .bin .eql, [(.t 12), (.c (D.int .i64 0))], [0], none⟩])
  (.cond (.t 13) (.region false [
    ⟨some 14, .mv, [(.t 1)], [], none⟩,
    ⟨some 15, .call [5], [(.c (D.fn 20 [])), (.t 14)], [0], none⟩,
    ⟨some 6, .mv, [(.t 15)], [1, 1, 0, 1], none⟩]) (.skip)))
  (.seq (.seq (.region false [
    ⟨some 16, .mv, [(.t 6)], [], none⟩,
    ⟨some 17, .bin .neq, [(.t 16), (.c (D.int .i64 0))], [0], none⟩])
  (.cond (.t 17) (.seq (.region false [
    ⟨some 18, .mv, [(.t 6)], [], none⟩,
    ⟨some 4, .mv, [(.c (D.zs 47 true))], [], none⟩,
    ⟨some 5, .mv, [(.t 18)], [0, 1, 0, 1], none⟩])
  (.ret)) (.skip)))
  (.seq (.region false [
    ⟨some 19, .buildSl 2 47, [], [], none⟩,
    ⟨some 20, .mv, [(.t 0)], [], none⟩,
    ⟨some 21, .append 3 47 80, [(.t 19), (.t 20)], [0, 1], none⟩,
    ⟨some 7, .mv, [(.t 21)], [2, 2, 0, 1, 2], none⟩])
  (.seq (.seq (.region false [
    ⟨some 8, .mv, [(.c (D.int .i64 0))], [], none⟩])
  (.block 0 (.loop ⟨[0, 1], [(7, .o 6 47), (8, .p ⟨false, [.int .i64]⟩)], []⟩ (.seq (.seq (.region false [
    ⟨some 22, .mv, [(.t 8)], [], none⟩,
    ⟨some 23, .mv, [(.t 1)], [], none⟩,
    ⟨some 24, .len, [(.t 23)], [1], none⟩,
    ⟨some 25, .bin .lss, [(.t 22), (.t 24)], [0, 2], none⟩])
  (.cond (.t 25) (.skip) (.exit 0)))
  (.seq (.block 1 (.seq (.region false [
    ⟨some 28, .mv, [(.t 0)], [], none⟩,
    ⟨some 29, .mv, [(.t 1)], [], none⟩,
    ⟨some 30, .mv, [(.t 8)], [], none⟩,
    ⟨some 31, .idxA 47, [(.t 29), (.t 30)], [1, 2], none⟩,
    ⟨some 32, .fld 0, [(.t 31)], [3], none⟩,
    ⟨some 33, .load ⟨false, [.str]⟩, [(.t 32)], [4], none⟩,
    ⟨some 34, .call [7], [(.c (D.fn 33 [])), (.t 28), (.t 33)], [0, 5], none⟩,
    ⟨some 9, .mv, [(.t 34)], [6, 6, 0, 1, 2, 3, 4, 5, 6], none⟩])
  (.seq (.seq (.region false [
    ⟨some 35, .mv, [(.t 9)], [], none⟩,
    ⟨some 36, .bin .lss, [(.t 35), (.c (D.int .i64 0))], [0], none⟩])
  (.cond (.t 36) (.seq (.region false [
    ⟨some 37, .mv, [(.t 7)], [], none⟩,
    ⟨some 38, .mv, [(.t 1)], [], none⟩,
    ⟨some 39, .mv, [(.t 8)], [], none⟩,
    ⟨some 40, .idxA 47, [(.t 38), (.t 39)], [1, 2], none⟩,
    ⟨some 41, .load ⟨true, [.str, .int .u64, .int .u8, .int .u8, .int .u8, .int .u8, .int .u8, .int .u8, .int .u8, .int .u8, .int .u8, .int .u8, .int .u8, .int .u8, .int .u8, .int .u8, .int .u8, .int .u8, .int .u8, .int .u8, .int .u8, .int .u8, .int .u8, .int .u8, .int .u8, .int .u8, .int .u8, .int .u8, .int .u8, .int .u8, .int .u8, .int .u8, .int .u8, .int .u8, .int .i64, .int .i64, .int .i64]⟩, [(.t 40)], [3], none⟩,
    ⟨some 42, .call [8], [(.c (D.fn 34 [])), (.t 37), (.t 41)], [0, 4], none⟩,
    ⟨some 7, .mv, [(.t 42)], [5, 5, 0, 1, 2, 3, 4, 5], none⟩])
  (.exit 1)) (.skip)))
  (.seq (.seq (.region true [
    ⟨some 43, .mv, [(.t 0)], [], none⟩,
    ⟨some 44, .mv, [(.t 9)], [], none⟩,
    ⟨some 45, .idxA 47, [(.t 43), (.t 44)], [0, 1], none⟩,
    ⟨some 46, .fld 1, [(.t 45)], [2], none⟩,
    ⟨some 47, .load ⟨false, [.int .u64]⟩, [(.t 46)], [3], none⟩,
    ⟨some 48, .mv, [(.t 1)], [], none⟩,
    ⟨some 49, .mv, [(.t 8)], [], none⟩,
    ⟨some 50, .idxA 47, [(.t 48), (.t 49)], [5, 6], none⟩,
    ⟨some 51, .fld 1, [(.t 50)], [7], none⟩,
    ⟨some 52, .load ⟨false, [.int .u64]⟩, [(.t 51)], [8], none⟩,
    ⟨some 53, .bin .eql, [(.t 47), (.t 52)], [4, 9], none⟩,
    ⟨some 54, .mv, [(.t 53)], [10], none⟩,
    ⟨some 55, .mv, [(.t 0)], [11], some (54, true)⟩,
    ⟨some 56, .mv, [(.t 9)], [11], some (54, true)⟩,
    ⟨some 57, .idxA 47, [(.t 55), (.t 56)], [12, 13, 11], some (54, true)⟩,
    ⟨some 58, .fld 2, [(.t 57)], [14, 11], some (54, true)⟩,
    ⟨some 59, .load ⟨true, [.int .u8, .int .u8, .int .u8, .int .u8, .int .u8, .int .u8, .int .u8, .int .u8, .int .u8, .int .u8, .int .u8, .int .u8, .int .u8, .int .u8, .int .u8, .int .u8, .int .u8, .int .u8, .int .u8, .int .u8, .int .u8, .int .u8, .int .u8, .int .u8, .int .u8, .int .u8, .int .u8, .int .u8, .int .u8, .int .u8, .int .u8, .int .u8]⟩, [(.t 58)], [15, 11], some (54, true)⟩,
    ⟨some 60, .mv, [(.t 1)], [11], some (54, true)⟩,
    ⟨some 61, .mv, [(.t 8)], [11], some (54, true)⟩,
    ⟨some 62, .idxA 47, [(.t 60), (.t 61)], [17, 18, 11], some (54, true)⟩,
    ⟨some 63, .fld 2, [(.t 62)], [19, 11], some (54, true)⟩,
    ⟨some 64, .load ⟨true, [.int .u8, .int .u8, .int .u8, .int .u8, .int .u8, .int .u8, .int .u8, .int .u8, .int .u8, .int .u8, .int .u8, .int .u8, .int .u8, .int .u8, .int .u8, .int .u8, .int .u8, .int .u8, .int .u8, .int .u8, .int .u8, .int .u8, .int .u8, .int .u8, .int .u8, .int .u8, .int .u8, .int .u8, .int .u8, .int .u8, .int .u8, .int .u8]⟩, [(.t 63)], [20, 11], some (54, true)⟩,
    ⟨some 65, .eqv true ⟨true, [.int .u8, .int .u8, .int .u8, .int .u8, .int .u8, .int .u8, .int .u8, .int .u8, .int .u8, .int .u8, .int .u8, .int .u8, .int .u8, .int .u8, .int .u8, .int .u8, .int .u8, .int .u8, .int .u8, .int .u8, .int .u8, .int .u8, .int .u8, .int .u8, .int .u8, .int .u8, .int .u8, .int .u8, .int .u8, .int .u8, .int .u8, .int .u8]⟩, [(.t 59), (.t 64)], [16, 21, 11], some (54, true)⟩,
    ⟨some 66, .mv, [(.t 65)], [22, 11, 11], some (54, true)⟩,
    ⟨some 67, .mv, [(.t 0)], [23], some (66, false)⟩,
    ⟨some 68, .mv, [(.t 9)], [23], some (66, false)⟩,
    ⟨some 69, .idxA 47, [(.t 67), (.t 68)], [24, 25, 23], some (66, false)⟩,
    ⟨some 70, .fld 34, [(.t 69)], [26, 23], some (66, false)⟩,
    ⟨some 71, .load ⟨true, [.int .i64, .int .i64]⟩, [(.t 70)], [27, 23], some (66, false)⟩,
    ⟨some 72, .mv, [(.t 1)], [23], some (66, false)⟩,
    ⟨some 73, .mv, [(.t 8)], [23], some (66, false)⟩,
    ⟨some 74, .idxA 47, [(.t 72), (.t 73)], [29, 30, 23], some (66, false)⟩,
    ⟨some 75, .fld 34, [(.t 74)], [31, 23], some (66, false)⟩,
    ⟨some 76, .load ⟨true, [.int .i64, .int .i64]⟩, [(.t 75)], [32, 23], some (66, false)⟩,
    ⟨some 77, .eqv true ⟨true, [.int .i64, .int .i64]⟩, [(.t 71), (.t 76)], [28, 33, 23], some (66, false)⟩,
    ⟨some 78, .pick, [(.t 66), (.c (D.bool true)), (.t 77)], [23, 34, 11], some (54, true)⟩,
    ⟨some 79, .pick, [(.t 54), (.t 78), (.c (D.bool false))], [11, 35], none⟩])
  (.cond (.t 79) (.seq (.region false [
    ⟨some 4, .mv, [(.c (D.zs 47 true))], [], none⟩,
    ⟨some 5, .mv, [(.c (D.int .i64 14))], [0, 0], none⟩])
  (.ret)) (.skip)))
  (.seq (.region true [
    ⟨some 80, .mv, [(.t 1)], [], none⟩,
    ⟨some 81, .mv, [(.t 8)], [], none⟩,
    ⟨some 82, .idxA 47, [(.t 80), (.t 81)], [0, 1], none⟩,
    ⟨some 83, .fld 1, [(.t 82)], [2], none⟩,
    ⟨some 84, .load ⟨false, [.int .u64]⟩, [(.t 83)], [3], none⟩,
    ⟨some 85, .mv, [(.t 0)], [], none⟩,
    ⟨some 86, .mv, [(.t 9)], [], none⟩,
    ⟨some 87, .idxA 47, [(.t 85), (.t 86)], [5, 6], none⟩,
    ⟨some 88, .fld 1, [(.t 87)], [7], none⟩,
    ⟨some 89, .load ⟨false, [.int .u64]⟩, [(.t 88)], [8], none⟩,
    ⟨some 90, .bin .gtr, [(.t 84), (.t 89)], [4, 9], none⟩,
    ⟨some 91, .mv, [(.t 90)], [10], none⟩,
    ⟨some 92, .mv, [(.t 1)], [11], some (91, false)⟩,
    ⟨some 93, .mv, [(.t 8)], [11], some (91, false)⟩,
    ⟨some 94, .idxA 47, [(.t 92), (.t 93)], [12, 13, 11], some (91, false)⟩,
    ⟨some 95, .fld 1, [(.t 94)], [14, 11], some (91, false)⟩,
    ⟨some 96, .load ⟨false, [.int .u64]⟩, [(.t 95)], [15, 11], some (91, false)⟩,
    ⟨some 97, .mv, [(.t 0)], [11], some (91, false)⟩,
    ⟨some 98, .mv, [(.t 9)], [11], some (91, false)⟩,
    ⟨some 99, .idxA 47, [(.t 97), (.t 98)], [17, 18, 11], some (91, false)⟩,
    ⟨some 100, .fld 1, [(.t 99)], [19, 11], some (91, false)⟩,
    ⟨some 101, .load ⟨false, [.int .u64]⟩, [(.t 100)], [20, 11], some (91, false)⟩,
    ⟨some 102, .bin .eql, [(.t 96), (.t 101)], [16, 21, 11], some (91, false)⟩,
    ⟨some 103, .mv, [(.t 102)], [22, 11, 11], some (91, false)⟩,
    ⟨some 104, .mv, [(.t 1)], [23], some (103, true)⟩,
    ⟨some 105, .mv, [(.t 8)], [23], some (103, true)⟩,
    ⟨some 106, .idxA 47, [(.t 104), (.t 105)], [24, 25, 23], some (103, true)⟩,
    ⟨some 107, .fld 36, [(.t 106)], [26, 23], some (103, true)⟩,
    ⟨some 108, .load ⟨false, [.int .i64]⟩, [(.t 107)], [27, 23], some (103, true)⟩,
    ⟨some 109, .mv, [(.t 0)], [23], some (103, true)⟩,
    ⟨some 110, .mv, [(.t 9)], [23], some (103, true)⟩,
    ⟨some 111, .idxA 47, [(.t 109), (.t 110)], [29, 30, 23], some (103, true)⟩,
    ⟨some 112, .fld 36, [(.t 111)], [31, 23], some (103, true)⟩,
    ⟨some 113, .load ⟨false, [.int .i64]⟩, [(.t 112)], [32, 23], some (103, true)⟩,
    ⟨some 114, .bin .gtr, [(.t 108), (.t 113)], [28, 33, 23], some (103, true)⟩,
    ⟨some 115, .pick, [(.t 103), (.t 114), (.c (D.bool false))], [23, 34, 11], some (91, false)⟩,
    ⟨some 116, .pick, [(.t 91), (.c (D.bool true)), (.t 115)], [11, 35], none⟩])
  (.cond (.t 116) (.region false [
    ⟨some 117, .mv, [(.t 7)], [], none⟩,
    ⟨some 118, .mv, [(.t 1)], [], none⟩,
    ⟨some 119, .mv, [(.t 8)], [], none⟩,
    ⟨some 120, .idxA 47, [(.t 118), (.t 119)], [1, 2], none⟩,
    ⟨some 121, .load ⟨true, [.str, .int .u64, .int .u8, .int .u8, .int .u8, .int .u8, .int .u8, .int .u8, .int .u8, .int .u8, .int .u8, .int .u8, .int .u8, .int .u8, .int .u8, .int .u8, .int .u8, .int .u8, .int .u8, .int .u8, .int .u8, .int .u8, .int .u8, .int .u8, .int .u8, .int .u8, .int .u8, .int .u8, .int .u8, .int .u8, .int .u8, .int .u8, .int .u8, .int .u8, .int .i64, .int .i64, .int .i64]⟩, [(.t 120)], [3], none⟩,
    ⟨some 122, .call [9], [(.c (D.fn 34 [])), (.t 117), (.t 121)], [0, 4], none⟩,
    ⟨some 7, .mv, [(.t 122)], [5, 5, 0, 1, 2, 3, 4, 5], none⟩]) (.skip)))))))
  (.region false [
    ⟨some 26, .mv, [(.t 8)], [], none⟩,
    ⟨some 27, .bin .add, [(.t 26), (.c (D.int .i64 1))], [0], none⟩,
    ⟨some 8, .mv, [(.t 27)], [1, 0, 1], none⟩]))))))
  (.seq (.seq (.region false [
    ⟨some 123, .mv, [(.t 7)], [], none⟩,
    ⟨some 124, .len, [(.t 123)], [0], none⟩,
    ⟨some 125, .bin .gtr, [(.t 124), (.c (D.int .i64 200))], [1], none⟩])
  (.cond (.t 125) (.seq (.region false [
    ⟨some 4, .mv, [(.c (D.zs 47 true))], [], none⟩,
    ⟨some 5, .mv, [(.c (D.int .i64 16))], [0, 0], none⟩])
  (.ret)) (.skip)))
  (.seq (.region false [
    ⟨some 126, .mv, [(.t 7)], [], none⟩,
    ⟨some 4, .mv, [(.t 126)], [0, 0], none⟩,
    ⟨some 5, .mv, [(.c (D.int .i64 0))], [1, 0, 1], none⟩])
  (.ret))))))))⟩

/- 14: gatepath/gatepathref29.Same -/
def c_gatepathref29_Same : DFun := ⟨26, 2, [.p, .p], [.p ⟨false, [.bool]⟩], [.t 4],
  .seq (.region false [
    ⟨some 4, .mv, [(.c (D.bool false))], [], none⟩])
  (.seq (.seq (.region false [
    ⟨some 6, .mv, [(.t 0)], [], none⟩,
    ⟨some 7, .len, [(.t 6)], [0], none⟩,
    ⟨some 8, .mv, [(.t 1)], [], none⟩,
    ⟨some 9, .len, [(.t 8)], [2], none⟩,
    ⟨some 10, .bin .neq, [(.t 7), (.t 9)], [1, 3], none⟩])
  (.cond (.t 10) (.seq (.region false [
    ⟨some 4, .mv, [(.c (D.bool false))], [], none⟩])
  (.ret)) (.skip)))
  (.seq (.seq (.region false [
    ⟨some 5, .mv, [(.c (D.int .i64 0))], [], none⟩])
  (.block 0 (.loop ⟨[0, 1], [(5, .p ⟨false, [.int .i64]⟩)], []⟩ (.seq (.seq (.region false [
    ⟨some 11, .mv, [(.t 5)], [], none⟩,
    ⟨some 12, .mv, [(.t 0)], [], none⟩,
    ⟨some 13, .len, [(.t 12)], [1], none⟩,
    ⟨some 14, .bin .lss, [(.t 11), (.t 13)], [0, 2], none⟩])
  (.cond (.t 14) (.skip) (.exit 0)))
  (.seq (.block 1 (.seq (.region true [
    ⟨some 17, .mv, [(.t 0)], [], none⟩,
    ⟨some 18, .mv, [(.t 5)], [], none⟩,
    ⟨some 19, .idxA 47, [(.t 17), (.t 18)], [0, 1], none⟩,
    ⟨some 20, .load ⟨true, [.str, .int .u64, .int .u8, .int .u8, .int .u8, .int .u8, .int .u8, .int .u8, .int .u8, .int .u8, .int .u8, .int .u8, .int .u8, .int .u8, .int .u8, .int .u8, .int .u8, .int .u8, .int .u8, .int .u8, .int .u8, .int .u8, .int .u8, .int .u8, .int .u8, .int .u8, .int .u8, .int .u8, .int .u8, .int .u8, .int .u8, .int .u8, .int .u8, .int .u8, .int .i64, .int .i64, .int .i64]⟩, [(.t 19)], [2], none⟩,
    ⟨some 21, .mv, [(.t 1)], [], none⟩,
    ⟨some 22, .mv, [(.t 5)], [], none⟩,
    ⟨some 23, .idxA 47, [(.t 21), (.t 22)], [4, 5], none⟩,
    ⟨some 24, .load ⟨true, [.str, .int .u64, .int .u8, .int .u8, .int .u8, .int .u8, .int .u8, .int .u8, .int .u8, .int .u8, .int .u8, .int .u8, .int .u8, .int .u8, .int .u8, .int .u8, .int .u8, .int .u8, .int .u8, .int .u8, .int .u8, .int .u8, .int .u8, .int .u8, .int .u8, .int .u8, .int .u8, .int .u8, .int .u8, .int .u8, .int .u8, .int .u8, .int .u8, .int .u8, .int .i64, .int .i64, .int .i64]⟩, [(.t 23)], [6], none⟩,
    ⟨some 25, .eqv true ⟨true, [.str, .int .u64, .int .u8, .int .u8, .int .u8, .int .u8, .int .u8, .int .u8, .int .u8, .int .u8, .int .u8, .int .u8, .int .u8, .int .u8, .int .u8, .int .u8, .int .u8, .int .u8, .int .u8, .int .u8, .int .u8, .int .u8, .int .u8, .int .u8, .int .u8, .int .u8, .int .u8, .int .u8, .int .u8, .int .u8, .int .u8, .int .u8, .int .u8, .int .u8, .int .i64, .int .i64, .int .i64]⟩, [(.t 20), (.t 24)], [3, 7], none⟩])
  (.cond (.t 25) (.seq (.region false [
    ⟨some 4, .mv, [(.c (D.bool false))], [], none⟩])
  (.ret)) (.skip))))
  (.region false [
    ⟨some 15, .mv, [(.t 5)], [], none⟩,
    ⟨some 16, .bin .add, [(.t 15), (.c (D.int .i64 1))], [0], none⟩,
    ⟨some 5, .mv, [(.t 16)], [1, 0, 1], none⟩]))))))
  (.seq (.region false [
    ⟨some 4, .mv, [(.c (D.bool true))], [], none⟩])
  (.ret))))⟩

/- 3: gatepath/gatepathlaw29.FreshMerges -/
def c_gatepathlaw29_FreshMerges : DFun := ⟨53, 15, [.p, .p], [.p ⟨false, [.bool]⟩], [.t 4],
  .seq (.region false [
    ⟨some 4, .mv, [(.c (D.bool false))], [], none⟩])
  (.seq (.seq (.region false [
    ⟨some 11, .mv, [(.t 0)], [], none⟩,
    ⟨some 12, .call [6], [(.c (D.fn 11 [])), (.t 11)], [0], none⟩,
    ⟨some 13, .mv, [(.t 12)], [1, 1], none⟩,
    ⟨some 14, .mv, [(.t 1)], [2], some (13, false)⟩,
    ⟨some 15, .call [7], [(.c (D.fn 11 [])), (.t 14)], [3, 2, 2], some (13, false)⟩,
    ⟨some 16, .pick, [(.t 13), (.c (D.bool true)), (.t 15)], [2, 4], none⟩])
  (.cond (.t 16) (.seq (.region false [
    ⟨some 4, .mv, [(.c (D.bool true))], [], none⟩])
  (.ret)) (.skip)))
  (.seq (.region false [
    ⟨some 17, .buildSl 2 47, [], [], none⟩,
    ⟨some 18, .mv, [(.t 0)], [], none⟩,
    ⟨some 19, .append 3 47 80, [(.t 17), (.t 18)], [0, 1], none⟩,
    ⟨some 20, .buildSl 4 47, [], [], none⟩,
    ⟨some 21, .mv, [(.t 1)], [], none⟩,
    ⟨some 22, .append 5 47 80, [(.t 20), (.t 21)], [3, 4, 2], none⟩,
    ⟨some 5, .mv, [(.t 19)], [2, 5, 0, 1, 2], none⟩,
    ⟨some 6, .mv, [(.t 22)], [5, 6, 0, 1, 2, 3, 4, 5, 6], none⟩])
  (.seq (.region false [
    ⟨some 24, .mv, [(.t 0)], [], none⟩,
    ⟨some 25, .mv, [(.t 1)], [], none⟩,
    ⟨some 26, .call [8, 9], [(.c (D.fn 12 [])), (.t 24), (.t 25)], [0, 1], none⟩,
    ⟨some 23, .mv, [(.t 26)], [2], none⟩,
    ⟨some 27, .ext 0, [(.t 23)], [3], none⟩,
    ⟨some 28, .ext 1, [(.t 23)], [3], none⟩,
    ⟨some 7, .mv, [(.t 27)], [4, 2, 0, 1, 2, 3, 4], none⟩,
    ⟨some 8, .mv, [(.t 28)], [5, 6, 0, 1, 2, 3, 4, 5, 6], none⟩])
  (.seq (.region false [
    ⟨some 30, .mv, [(.t 0)], [], none⟩,
    ⟨some 31, .mv, [(.t 1)], [], none⟩,
    ⟨some 32, .call [10, 11], [(.c (D.fn 13 [])), (.t 30), (.t 31)], [0, 1], none⟩,
    ⟨some 29, .mv, [(.t 32)], [2], none⟩,
    ⟨some 33, .ext 0, [(.t 29)], [3], none⟩,
    ⟨some 34, .ext 1, [(.t 29)], [3], none⟩,
    ⟨some 9, .mv, [(.t 33)], [4, 2, 0, 1, 2, 3, 4], none⟩,
    ⟨some 10, .mv, [(.t 34)], [5, 6, 0, 1, 2, 3, 4, 5, 6], none⟩])
  (.seq (.region false [
    ⟨some 35, .mv, [(.t 7)], [], none⟩,
    ⟨some 36, .mv, [(.t 9)], [], none⟩,
    ⟨some 37, .call [12], [(.c (D.fn 14 [])), (.t 35), (.t 36)], [0, 1], none⟩,
    ⟨some 38, .mv, [(.t 37)], [2, 2], none⟩,
    ⟨some 39, .mv, [(.t 8)], [3], some (38, true)⟩,
    ⟨some 40, .mv, [(.t 10)], [3], some (38, true)⟩,
    ⟨some 41, .bin .eql, [(.t 39), (.t 40)], [4, 5, 3], some (38, true)⟩,
    ⟨some 42, .pick, [(.t 38), (.t 41), (.c (D.bool false))], [3, 6], none⟩,
    ⟨some 43, .mv, [(.t 42)], [7, 3], none⟩,
    ⟨some 44, .mv, [(.t 0)], [8], some (43, true)⟩,
    ⟨some 45, .mv, [(.t 5)], [8], some (43, true)⟩,
    ⟨some 46, .call [13], [(.c (D.fn 14 [])), (.t 44), (.t 45)], [9, 10, 8, 8], some (43, true)⟩,
    ⟨some 47, .pick, [(.t 43), (.t 46), (.c (D.bool false))], [8, 11], none⟩,
    ⟨some 48, .mv, [(.t 47)], [12, 11], none⟩,
    ⟨some 49, .mv, [(.t 1)], [13], some (48, true)⟩,
    ⟨some 50, .mv, [(.t 6)], [13], some (48, true)⟩,
    ⟨some 51, .call [14], [(.c (D.fn 14 [])), (.t 49), (.t 50)], [14, 15, 13, 13], some (48, true)⟩,
    ⟨some 52, .pick, [(.t 48), (.t 51), (.c (D.bool false))], [13, 16], none⟩,
    ⟨some 4, .mv, [(.t 52)], [17, 16, 0, 1, 2, 3, 4, 5, 6, 7, 8, 9, 10, 11, 12, 13, 14, 15, 16, 17], none⟩])
  (.ret))))))⟩

/- 36: gatepath/fresh.Late$1 -/
def c_fresh_Late_1 : DFun := ⟨18, 4, [.p, .p, .p], [.p ⟨false, [.bool]⟩], [.t 4],
  .seq (.region false [
    ⟨some 3, .box 3, [(.t 0)], [], none⟩,
    ⟨some 4, .mv, [(.c (D.bool false))], [], none⟩])
  (.seq (.region false [
    ⟨some 5, .load ⟨false, [.int .i64]⟩, [(.t 1)], [], none⟩,
    ⟨some 6, .fld 34, [(.t 3)], [], none⟩,
    ⟨some 7, .fld 1, [(.t 6)], [1], none⟩,
    ⟨some 8, .load ⟨false, [.int .i64]⟩, [(.t 7)], [2], none⟩,
    ⟨some 9, .bin .gtr, [(.t 5), (.t 8)], [0, 3], none⟩,
    ⟨some 10, .mv, [(.t 9)], [4], none⟩,
    ⟨some 11, .load ⟨false, [.int .i64]⟩, [(.t 1)], [5], some (10, false)⟩,
    ⟨some 12, .fld 36, [(.t 3)], [5], some (10, false)⟩,
    ⟨some 13, .load ⟨false, [.int .i64]⟩, [(.t 12)], [7, 5], some (10, false)⟩,
    ⟨some 14, .bin .sub, [(.t 11), (.t 13)], [6, 8, 5], some (10, false)⟩,
    ⟨some 15, .load ⟨false, [.int .i64]⟩, [(.t 2)], [5], some (10, false)⟩,
    ⟨some 16, .bin .gtr, [(.t 14), (.t 15)], [9, 10, 5], some (10, false)⟩,
    ⟨some 17, .pick, [(.t 10), (.c (D.bool true)), (.t 16)], [5, 11], none⟩,
    ⟨some 4, .mv, [(.t 17)], [12, 5, 0, 1, 2, 3, 4, 5, 6, 7, 8, 9, 10, 11, 12], none⟩])
  (.ret))⟩

/- 15: gatepath/fresh.Late -/
def c_fresh_Late : DFun := ⟨43, 13, [.p, .p, .p], [.o 9, .p ⟨false, [.int .i64]⟩], [.t 6, .t 7],
  .seq (.region false [
    ⟨some 4, .box 3, [(.t 1)], [], none⟩,
    ⟨some 5, .box 4, [(.t 2)], [], none⟩,
    ⟨some 6, .mv, [(.c (D.zs 9 true))], [], none⟩,
    ⟨some 7, .mv, [(.c (D.int .i64 0))], [2], none⟩])
  (.seq (.region false [
    ⟨some 13, .mv, [(.t 0)], [], none⟩,
    ⟨some 14, .call [8], [(.c (D.fn 19 [])), (.t 13)], [0], none⟩,
    ⟨some 8, .mv, [(.t 14)], [1, 1, 0, 1], none⟩])
  (.seq (.seq (.region false [
    ⟨some 15, .mv, [(.t 8)], [], none⟩,
    ⟨some 16, .bin .neq, [(.t 15), (.c (D.int .i64 0))], [0], none⟩])
  (.cond (.t 16) (.seq (.region false [
    ⟨some 17, .mv, [(.t 8)], [], none⟩,
    ⟨some 6, .mv, [(.c (D.zs 9 true))], [], none⟩,
    ⟨some 7, .mv, [(.t 17)], [0, 1, 0, 1], none⟩])
  (.ret)) (.skip)))
  (.seq (.seq (.region false [
    ⟨some 18, .load ⟨false, [.int .i64]⟩, [(.t 4)], [], none⟩,
    ⟨some 19, .call [9], [(.c (D.fn 35 [])), (.t 18)], [0], none⟩,
    ⟨some 20, .not, [(.t 19)], [1], none⟩,
    ⟨some 21, .mv, [(.t 20)], [2, 1], none⟩,
    ⟨some 22, .load ⟨false, [.int .i64]⟩, [(.t 5)], [3], some (21, false)⟩,
    ⟨some 23, .call [10], [(.c (D.fn 35 [])), (.t 22)], [4, 3, 3], some (21, false)⟩,
    ⟨some 24, .not, [(.t 23)], [5, 3], some (21, false)⟩,
    ⟨some 25, .pick, [(.t 21), (.c (D.bool true)), (.t 24)], [3, 6], none⟩])
  (.cond (.t 25) (.seq (.region false [
    ⟨some 6, .mv, [(.c (D.zs 9 true))], [], none⟩,
    ⟨some 7, .mv, [(.c (D.int .i64 2))], [0, 0], none⟩])
  (.ret)) (.skip)))
  (.seq (.region false [
    ⟨some 26, .mkfn 36, [(.t 4), (.t 5)], [], none⟩,
    ⟨some 9, .mv, [(.t 26)], [0, 0], none⟩])
  (.seq (.region false [
    ⟨some 10, .mv, [(.c (D.zs 9 true))], [], none⟩])
  (.seq (.seq (.region false [
    ⟨some 27, .mv, [(.t 0)], [], none⟩,
    ⟨some 28, .len, [(.t 27)], [0], none⟩,
    ⟨some 29, .mv, [(.c (D.int .i64 0))], [], none⟩])
  (.block 0 (.loop ⟨[9, 27, 28], [(10, .o 11 9), (29, .p ⟨false, [.int .i64]⟩)], []⟩ (.seq (.region false [
    ⟨some 30, .bin .lss, [(.t 29), (.t 28)], [], none⟩])
  (.seq (.cond (.t 30) (.skip) (.exit 0))
  (.seq (.block 1 (.seq (.region false [
    ⟨some 31, .idxA 47, [(.t 27), (.t 29)], [], none⟩,
    ⟨some 32, .load ⟨true, [.str, .int .u64, .int .u8, .int .u8, .int .u8, .int .u8, .int .u8, .int .u8, .int .u8, .int .u8, .int .u8, .int .u8, .int .u8, .int .u8, .int .u8, .int .u8, .int .u8, .int .u8, .int .u8, .int .u8, .int .u8, .int .u8, .int .u8, .int .u8, .int .u8, .int .u8, .int .u8, .int .u8, .int .u8, .int .u8, .int .u8, .int .u8, .int .u8, .int .u8, .int .i64, .int .i64, .int .i64]⟩, [(.t 31)], [0], none⟩,
    ⟨some 12, .alloc 5 [(D.str ⟨#[]⟩), (D.int .u64 0), (D.int .u8 0), (D.int .u8 0), (D.int .u8 0), (D.int .u8 0), (D.int .u8 0), (D.int .u8 0), (D.int .u8 0), (D.int .u8 0), (D.int .u8 0), (D.int .u8 0), (D.int .u8 0), (D.int .u8 0), (D.int .u8 0), (D.int .u8 0), (D.int .u8 0), (D.int .u8 0), (D.int .u8 0), (D.int .u8 0), (D.int .u8 0), (D.int .u8 0), (D.int .u8 0), (D.int .u8 0), (D.int .u8 0), (D.int .u8 0), (D.int .u8 0), (D.int .u8 0), (D.int .u8 0), (D.int .u8 0), (D.int .u8 0), (D.int .u8 0), (D.int .u8 0), (D.int .u8 0), (D.int .i64 0), (D.int .i64 0), (D.int .i64 0)], [], [], none⟩,
    ⟨none, .store ⟨true, [.str, .int .u64, .int .u8, .int .u8, .int .u8, .int .u8, .int .u8, .int .u8, .int .u8, .int .u8, .int .u8, .int .u8, .int .u8, .int .u8, .int .u8, .int .u8, .int .u8, .int .u8, .int .u8, .int .u8, .int .u8, .int .u8, .int .u8, .int .u8, .int .u8, .int .u8, .int .u8, .int .u8, .int .u8, .int .u8, .int .u8, .int .u8, .int .u8, .int .u8, .int .i64, .int .i64, .int .i64]⟩, [(.t 12), (.t 32)], [2, 1, 0, 1, 2], none⟩])
  (.seq (.region false [
    ⟨some 33, .mv, [(.t 9)], [], none⟩,
    ⟨some 34, .load ⟨true, [.str, .int .u64, .int .u8, .int .u8, .int .u8, .int .u8, .int .u8, .int .u8, .int .u8, .int .u8, .int .u8, .int .u8, .int .u8, .int .u8, .int .u8, .int .u8, .int .u8, .int .u8, .int .u8, .int .u8, .int .u8, .int .u8, .int .u8, .int .u8, .int .u8, .int .u8, .int .u8, .int .u8, .int .u8, .int .u8, .int .u8, .int .u8, .int .u8, .int .u8, .int .i64, .int .i64, .int .i64]⟩, [(.t 12)], [], none⟩,
    ⟨some 35, .call [12], [(.t 33), (.t 34)], [0, 1], none⟩])
  (.cond (.t 35) (.region false [
    ⟨some 36, .mv, [(.t 10)], [], none⟩,
    ⟨some 37, .fld 0, [(.t 12)], [], none⟩,
    ⟨some 38, .load ⟨false, [.str]⟩, [(.t 37)], [1], none⟩,
    ⟨some 39, .buildSl 6 9, [(.t 38)], [2], none⟩,
    ⟨some 40, .append 7 9 16, [(.t 36), (.t 39)], [0, 3], none⟩,
    ⟨some 10, .mv, [(.t 40)], [4, 4, 0, 1, 2, 3, 4], none⟩]) (.skip)))))
  (.region false [
    ⟨some 41, .bin .add, [(.t 29), (.c (D.int .i64 1))], [], none⟩,
    ⟨some 29, .mv, [(.t 41)], [0], none⟩])))))))
  (.seq (.region false [
    ⟨some 42, .mv, [(.t 10)], [], none⟩,
    ⟨some 6, .mv, [(.t 42)], [0, 0], none⟩,
    ⟨some 7, .mv, [(.c (D.int .i64 0))], [1, 0, 1], none⟩])
  (.ret))))))))⟩

/- 16: gatepath/gatepathref29.Late -/
def c_gatepathref29_Late : DFun := ⟨62, 9, [.p, .p, .p], [.o 9, .p ⟨false, [.int .i64]⟩], [.t 6, .t 7],
  .seq (.region false [
    ⟨some 6, .mv, [(.c (D.zs 9 true))], [], none⟩,
    ⟨some 7, .mv, [(.c (D.int .i64 0))], [0], none⟩])
  (.seq (.region false [
    ⟨some 11, .mv, [(.t 0)], [], none⟩,
    ⟨some 12, .call [5], [(.c (D.fn 20 [])), (.t 11)], [0], none⟩,
    ⟨some 8, .mv, [(.t 12)], [1, 1, 0, 1], none⟩])
  (.seq (.seq (.region false [
    ⟨some 13, .mv, [(.t 8)], [], none⟩,
    ⟨some 14, .bin .eql, [(.t 13), (.c (D.int .i64 0))], [0], none⟩,
    ⟨some 15, .mv, [(.t 14)], [1], none⟩,
    ⟨some 16, .mv, [(.t 1)], [2], some (15, true)⟩,
    ⟨some 17, .call [6], [(.c (D.fn 26 [])), (.t 16)], [3, 2, 2], some (15, true)⟩,
    ⟨some 18, .not, [(.t 17)], [4, 2], some (15, true)⟩,
    ⟨some 19, .mv, [(.t 18)], [5, 4, 2], some (15, true)⟩,
    ⟨some 20, .mv, [(.t 2)], [6], some (19, false)⟩,
    ⟨some 21, .call [7], [(.c (D.fn 26 [])), (.t 20)], [7, 6, 6], some (19, false)⟩,
    ⟨some 22, .not, [(.t 21)], [8, 6], some (19, false)⟩,
    ⟨some 23, .pick, [(.t 19), (.c (D.bool true)), (.t 22)], [6, 9, 2], some (15, true)⟩,
    ⟨some 24, .pick, [(.t 15), (.t 23), (.c (D.bool false))], [2, 10], none⟩])
  (.cond (.t 24) (.region false [
    ⟨some 8, .mv, [(.c (D.int .i64 2))], [], none⟩]) (.skip)))
  (.seq (.seq (.region false [
    ⟨some 25, .mv, [(.t 8)], [], none⟩,
    ⟨some 26, .bin .neq, [(.t 25), (.c (D.int .i64 0))], [0], none⟩])
  (.cond (.t 26) (.seq (.region false [
    ⟨some 27, .mv, [(.t 8)], [], none⟩,
    ⟨some 6, .mv, [(.c (D.zs 9 true))], [], none⟩,
    ⟨some 7, .mv, [(.t 27)], [0, 1, 0, 1], none⟩])
  (.ret)) (.skip)))
  (.seq (.region false [
    ⟨some 9, .mv, [(.c (D.zs 9 true))], [], none⟩])
  (.seq (.seq (.region false [
    ⟨some 10, .mv, [(.c (D.int .i64 0))], [], none⟩])
  (.block 0 (.loop ⟨[0, 1, 2], [(9, .o 8 9), (10, .p ⟨false, [.int .i64]⟩)], []⟩ (.seq (.seq (.region false [
    ⟨some 28, .mv, [(.t 10)], [], none⟩,
    ⟨some 29, .mv, [(.t 0)], [], none⟩,
    ⟨some 30, .len, [(.t 29)], [1], none⟩,
    ⟨some 31, .bin .lss, [(.t 28), (.t 30)], [0, 2], none⟩])
  (.cond (.t 31) (.skip) (.exit 0)))
  (.seq (.block 1 (.seq (.region false [
    ⟨some 34, .mv, [(.t 1)], [], none⟩,
    ⟨some 35, .mv, [(.t 0)], [], none⟩,
    ⟨some 36, .mv, [(.t 10)], [], none⟩,
    ⟨some 37, .idxA 47, [(.t 35), (.t 36)], [1, 2], none⟩,
    ⟨some 38, .fld 34, [(.t 37)], [3], none⟩,
    ⟨some 39, .fld 1, [(.t 38)], [4], none⟩,
    ⟨some 40, .load ⟨false, [.int .i64]⟩, [(.t 39)], [5], none⟩,
    ⟨some 41, .bin .gtr, [(.t 34), (.t 40)], [0, 6], none⟩,
    ⟨some 42, .mv, [(.t 41)], [7], none⟩,
    ⟨some 43, .mv, [(.t 1)], [8], some (42, false)⟩,
    ⟨some 44, .mv, [(.t 0)], [8], some (42, false)⟩,
    ⟨some 45, .mv, [(.t 10)], [8], some (42, false)⟩,
    ⟨some 46, .idxA 47, [(.t 44), (.t 45)], [10, 11, 8], some (42, false)⟩,
    ⟨some 47, .fld 36, [(.t 46)], [12, 8], some (42, false)⟩,
    ⟨some 48, .load ⟨false, [.int .i64]⟩, [(.t 47)], [13, 8], some (42, false)⟩,
    ⟨some 49, .mv, [(.t 2)], [8], some (42, false)⟩,
    ⟨some 50, .bin .add, [(.t 48), (.t 49)], [14, 15, 8], some (42, false)⟩,
    ⟨some 51, .bin .gtr, [(.t 43), (.t 50)], [9, 16, 8], some (42, false)⟩,
    ⟨some 52, .pick, [(.t 42), (.c (D.bool true)), (.t 51)], [8, 17], none⟩])
  (.cond (.t 52) (.region false [
    ⟨some 53, .mv, [(.t 9)], [], none⟩,
    ⟨some 54, .mv, [(.t 0)], [], none⟩,
    ⟨some 55, .mv, [(.t 10)], [], none⟩,
    ⟨some 56, .idxA 47, [(.t 54), (.t 55)], [1, 2], none⟩,
    ⟨some 57, .fld 0, [(.t 56)], [3], none⟩,
    ⟨some 58, .load ⟨false, [.str]⟩, [(.t 57)], [4], none⟩,
    ⟨some 59, .buildSl 3 9, [(.t 58)], [5], none⟩,
    ⟨some 60, .append 4 9 16, [(.t 53), (.t 59)], [0, 6], none⟩,
    ⟨some 9, .mv, [(.t 60)], [7, 7, 0, 1, 2, 3, 4, 5, 6, 7], none⟩]) (.skip))))
  (.region false [
    ⟨some 32, .mv, [(.t 10)], [], none⟩,
    ⟨some 33, .bin .add, [(.t 32), (.c (D.int .i64 1))], [0], none⟩,
    ⟨some 10, .mv, [(.t 33)], [1, 0, 1], none⟩]))))))
  (.seq (.region false [
    ⟨some 61, .mv, [(.t 9)], [], none⟩,
    ⟨some 6, .mv, [(.t 61)], [0, 0], none⟩,
    ⟨some 7, .mv, [(.c (D.int .i64 0))], [1, 0, 1], none⟩])
  (.ret)))))))⟩

/- 46: slices.BinarySearchFunc[[]gatepath/api.FreshPoint,gatepath/api.FreshPoint,string] -/
def c_slices_BinarySearchFunc : DFun := ⟨49, 5, [.p, .p, .p], [.p ⟨false, [.int .i64]⟩, .p ⟨false, [.bool]⟩], [.t 6, .t 7],
  .seq (.region false [
    ⟨some 6, .mv, [(.c (D.int .i64 0))], [], none⟩,
    ⟨some 7, .mv, [(.c (D.bool false))], [0], none⟩])
  (.seq (.region false [
    ⟨some 12, .mv, [(.t 0)], [], none⟩,
    ⟨some 13, .len, [(.t 12)], [0], none⟩,
    ⟨some 8, .mv, [(.t 13)], [1, 0, 1], none⟩])
  (.seq (.region false [
    ⟨some 14, .mv, [(.t 8)], [], none⟩,
    ⟨some 9, .mv, [(.c (D.int .i64 0))], [], none⟩,
    ⟨some 10, .mv, [(.t 14)], [0, 1, 0, 1], none⟩])
  (.seq (.block 0 (.loop ⟨[0, 1, 2, 8], [(9, .p ⟨false, [.int .i64]⟩), (10, .p ⟨false, [.int .i64]⟩)], []⟩ (.seq (.seq (.region false [
    ⟨some 15, .mv, [(.t 9)], [], none⟩,
    ⟨some 16, .mv, [(.t 10)], [], none⟩,
    ⟨some 17, .bin .lss, [(.t 15), (.t 16)], [0, 1], none⟩])
  (.cond (.t 17) (.skip) (.exit 0)))
  (.block 1 (.seq (.region false [
    ⟨some 18, .mv, [(.t 9)], [], none⟩,
    ⟨some 19, .mv, [(.t 10)], [], none⟩,
    ⟨some 20, .bin .add, [(.t 18), (.t 19)], [0, 1], none⟩,
    ⟨some 21, .conv .u64, [(.t 20)], [2], none⟩,
    ⟨some 22, .bin .shr, [(.t 21), (.c (D.int .u64 1))], [3], none⟩,
    ⟨some 23, .conv .i64, [(.t 22)], [4], none⟩,
    ⟨some 11, .mv, [(.t 23)], [5, 0, 1, 2, 3, 4, 5], none⟩])
  (.seq (.region false [
    ⟨some 24, .mv, [(.t 2)], [], none⟩,
    ⟨some 25, .mv, [(.t 0)], [], none⟩,
    ⟨some 26, .mv, [(.t 11)], [], none⟩,
    ⟨some 27, .idxA 47, [(.t 25), (.t 26)], [1, 2], none⟩,
    ⟨some 28, .load ⟨true, [.str, .int .u64, .int .u8, .int .u8, .int .u8, .int .u8, .int .u8, .int .u8, .int .u8, .int .u8, .int .u8, .int .u8, .int .u8, .int .u8, .int .u8, .int .u8, .int .u8, .int .u8, .int .u8, .int .u8, .int .u8, .int .u8, .int .u8, .int .u8, .int .u8, .int .u8, .int .u8, .int .u8, .int .u8, .int .u8, .int .u8, .int .u8, .int .u8, .int .u8, .int .i64, .int .i64, .int .i64]⟩, [(.t 27)], [3], none⟩,
    ⟨some 29, .mv, [(.t 1)], [], none⟩,
    ⟨some 30, .call [3], [(.t 24), (.t 28), (.t 29)], [0, 4, 5], none⟩,
    ⟨some 31, .bin .lss, [(.t 30), (.c (D.int .i64 0))], [6], none⟩])
  (.cond (.t 31) (.region false [
    ⟨some 32, .mv, [(.t 11)], [], none⟩,
    ⟨some 33, .bin .add, [(.t 32), (.c (D.int .i64 1))], [0], none⟩,
    ⟨some 9, .mv, [(.t 33)], [1, 0, 1], none⟩]) (.region false [
    ⟨some 34, .mv, [(.t 11)], [], none⟩,
    ⟨some 10, .mv, [(.t 34)], [0, 0], none⟩]))))))))
  (.seq (.region false [
    ⟨some 35, .mv, [(.t 9)], [], none⟩,
    ⟨some 36, .mv, [(.t 9)], [], none⟩,
    ⟨some 37, .mv, [(.t 8)], [], none⟩,
    ⟨some 38, .bin .lss, [(.t 36), (.t 37)], [1, 2], none⟩,
    ⟨some 39, .mv, [(.t 38)], [3], none⟩,
    ⟨some 40, .mv, [(.t 2)], [4], some (39, true)⟩,
    ⟨some 41, .mv, [(.t 0)], [4], some (39, true)⟩,
    ⟨some 42, .mv, [(.t 9)], [4], some (39, true)⟩,
    ⟨some 43, .idxA 47, [(.t 41), (.t 42)], [6, 7, 4], some (39, true)⟩,
    ⟨some 44, .load ⟨true, [.str, .int .u64, .int .u8, .int .u8, .int .u8, .int .u8, .int .u8, .int .u8, .int .u8, .int .u8, .int .u8, .int .u8, .int .u8, .int .u8, .int .u8, .int .u8, .int .u8, .int .u8, .int .u8, .int .u8, .int .u8, .int .u8, .int .u8, .int .u8, .int .u8, .int .u8, .int .u8, .int .u8, .int .u8, .int .u8, .int .u8, .int .u8, .int .u8, .int .u8, .int .i64, .int .i64, .int .i64]⟩, [(.t 43)], [8, 4], some (39, true)⟩,
    ⟨some 45, .mv, [(.t 1)], [4], some (39, true)⟩,
    ⟨some 46, .call [4], [(.t 40), (.t 44), (.t 45)], [5, 9, 10, 4, 4], some (39, true)⟩,
    ⟨some 47, .bin .eql, [(.t 46), (.c (D.int .i64 0))], [11, 4], some (39, true)⟩,
    ⟨some 48, .pick, [(.t 39), (.t 47), (.c (D.bool false))], [4, 12], none⟩,
    ⟨some 6, .mv, [(.t 35)], [0, 11, 0], none⟩,
    ⟨some 7, .mv, [(.t 48)], [13, 14, 0, 1, 2, 3, 4, 5, 6, 7, 8, 9, 10, 11, 12, 13, 14], none⟩])
  (.ret)))))⟩

/- 47: gatepath/fresh.find$1 -/
def c_fresh_find_1 : DFun := ⟨9, 4, [.p, .p], [.p ⟨false, [.int .i64]⟩], [.t 4],
  .seq (.region false [
    ⟨some 2, .box 2, [(.t 0)], [], none⟩,
    ⟨some 4, .mv, [(.c (D.int .i64 0))], [], none⟩])
  (.seq (.region false [
    ⟨some 5, .fld 0, [(.t 2)], [], none⟩,
    ⟨some 6, .load ⟨false, [.str]⟩, [(.t 5)], [0], none⟩,
    ⟨some 7, .mv, [(.t 1)], [], none⟩,
    ⟨some 8, .call [3], [(.c (D.fn 32 [])), (.t 6), (.t 7)], [1, 2], none⟩,
    ⟨some 4, .mv, [(.t 8)], [3, 3, 0, 1, 2, 3], none⟩])
  (.ret))⟩

/- 37: gatepath/fresh.find -/
def c_fresh_find : DFun := ⟨11, 4, [.p, .p], [.p ⟨false, [.int .i64]⟩, .p ⟨false, [.bool]⟩], [.t 4, .t 5],
  .seq (.region false [
    ⟨some 4, .mv, [(.c (D.int .i64 0))], [], none⟩,
    ⟨some 5, .mv, [(.c (D.bool false))], [0], none⟩])
  (.seq (.region false [
    ⟨some 6, .mv, [(.t 0)], [], none⟩,
    ⟨some 7, .mv, [(.t 1)], [], none⟩,
    ⟨some 8, .call [2, 3], [(.c (D.fn 46 [])), (.t 6), (.t 7), (.c (D.fn 47 []))], [0, 1], none⟩,
    ⟨some 9, .ext 0, [(.t 8)], [2], none⟩,
    ⟨some 10, .ext 1, [(.t 8)], [2], none⟩,
    ⟨some 4, .mv, [(.t 9)], [3, 2, 0, 1, 2, 3, 4], none⟩,
    ⟨some 5, .mv, [(.t 10)], [4, 5, 0, 1, 2, 3, 4, 5], none⟩])
  (.ret))⟩

/- 38: slices.Delete[[]gatepath/api.FreshPoint,gatepath/api.FreshPoint] -/
def c_slices_Delete : DFun := ⟨33, 4, [.g 47, .p, .p], [.o 47], [.t 6],
  .seq (.region false [
    ⟨some 6, .mv, [(.c (D.zs 47 true))], [], none⟩])
  (.seq (.region false [
    ⟨some 8, .mv, [(.t 0)], [], none⟩,
    ⟨some 9, .mv, [(.t 1)], [], none⟩,
    ⟨some 10, .mv, [(.t 2)], [], none⟩,
    ⟨some 11, .mv, [(.t 0)], [], none⟩,
    ⟨some 12, .len, [(.t 11)], [3], none⟩,
    ⟨some 13, .slice (some 47) true true true, [(.t 8), (.t 9), (.t 10), (.t 12)], [0, 1, 2, 4], none⟩])
  (.seq (.seq (.region false [
    ⟨some 14, .mv, [(.t 1)], [], none⟩,
    ⟨some 15, .mv, [(.t 2)], [], none⟩,
    ⟨some 16, .bin .eql, [(.t 14), (.t 15)], [0, 1], none⟩])
  (.cond (.t 16) (.seq (.region false [
    ⟨some 17, .mv, [(.t 0)], [], none⟩,
    ⟨some 6, .mv, [(.t 17)], [0, 0], none⟩])
  (.ret)) (.skip)))
  (.seq (.region false [
    ⟨some 18, .mv, [(.t 0)], [], none⟩,
    ⟨some 19, .len, [(.t 18)], [0], none⟩,
    ⟨some 7, .mv, [(.t 19)], [1, 0, 1], none⟩])
  (.seq (.region true [
    ⟨some 20, .mv, [(.t 0)], [], none⟩,
    ⟨some 21, .mv, [(.t 1)], [], none⟩,
    ⟨some 22, .slice (some 47) false true false, [(.t 20), (.t 21)], [0, 1], none⟩,
    ⟨some 23, .mv, [(.t 0)], [], none⟩,
    ⟨some 24, .mv, [(.t 2)], [], none⟩,
    ⟨some 25, .slice (some 47) true false false, [(.t 23), (.t 24)], [3, 4], none⟩,
    ⟨some 26, .append 3 47 80, [(.t 22), (.t 25)], [2, 5], none⟩,
    ⟨some 0, .mv, [(.t 26)], [6, 6, 0, 1, 2, 3, 4, 5, 6], none⟩])
  (.seq (.region false [
    ⟨some 27, .mv, [(.t 0)], [], none⟩,
    ⟨some 28, .mv, [(.t 0)], [], none⟩,
    ⟨some 29, .len, [(.t 28)], [1], none⟩,
    ⟨some 30, .mv, [(.t 7)], [], none⟩,
    ⟨some 31, .slice (some 47) true true false, [(.t 27), (.t 29), (.t 30)], [0, 2, 3], none⟩,
    ⟨none, .clear 47 (D.agg [(D.str ⟨#[]⟩), (D.int .u64 0), (D.int .u8 0), (D.int .u8 0), (D.int .u8 0), (D.int .u8 0), (D.int .u8 0), (D.int .u8 0), (D.int .u8 0), (D.int .u8 0), (D.int .u8 0), (D.int .u8 0), (D.int .u8 0), (D.int .u8 0), (D.int .u8 0), (D.int .u8 0), (D.int .u8 0), (D.int .u8 0), (D.int .u8 0), (D.int .u8 0), (D.int .u8 0), (D.int .u8 0), (D.int .u8 0), (D.int .u8 0), (D.int .u8 0), (D.int .u8 0), (D.int .u8 0), (D.int .u8 0), (D.int .u8 0), (D.int .u8 0), (D.int .u8 0), (D.int .u8 0), (D.int .u8 0), (D.int .u8 0), (D.int .i64 0), (D.int .i64 0), (D.int .i64 0)]), [(.t 31)], [4], none⟩])
  (.seq (.region false [
    ⟨some 32, .mv, [(.t 0)], [], none⟩,
    ⟨some 6, .mv, [(.t 32)], [0, 0], none⟩])
  (.ret)))))))⟩

/- 39: slices.Clone[[]gatepath/api.FreshPoint,gatepath/api.FreshPoint] -/
def c_slices_Clone : DFun := ⟨8, 3, [.p], [.o 47], [.t 2],
  .seq (.region false [
    ⟨some 2, .mv, [(.c (D.zs 47 true))], [], none⟩])
  (.seq (.seq (.region false [
    ⟨some 3, .mv, [(.t 0)], [], none⟩,
    ⟨some 4, .eqnil false, [(.t 3)], [0], none⟩])
  (.cond (.t 4) (.seq (.region false [
    ⟨some 2, .mv, [(.c (D.zs 47 true))], [], none⟩])
  (.ret)) (.skip)))
  (.seq (.region false [
    ⟨some 5, .buildSl 1 47, [], [], none⟩,
    ⟨some 6, .mv, [(.t 0)], [], none⟩,
    ⟨some 7, .append 2 47 80, [(.t 5), (.t 6)], [0, 1], none⟩,
    ⟨some 2, .mv, [(.t 7)], [2, 2, 0, 1, 2], none⟩])
  (.ret)))⟩

/- 17: gatepath/fresh.Forget -/
def c_fresh_Forget : DFun := ⟨28, 7, [.p, .p], [.o 47, .p ⟨false, [.int .i64]⟩], [.t 4, .t 5],
  .seq (.region false [
    ⟨some 4, .mv, [(.c (D.zs 47 true))], [], none⟩,
    ⟨some 5, .mv, [(.c (D.int .i64 0))], [0], none⟩])
  (.seq (.region false [
    ⟨some 9, .mv, [(.t 0)], [], none⟩,
    ⟨some 10, .call [2], [(.c (D.fn 19 [])), (.t 9)], [0], none⟩,
    ⟨some 6, .mv, [(.t 10)], [1, 1, 0, 1], none⟩])
  (.seq (.seq (.region false [
    ⟨some 11, .mv, [(.t 6)], [], none⟩,
    ⟨some 12, .bin .neq, [(.t 11), (.c (D.int .i64 0))], [0], none⟩])
  (.cond (.t 12) (.seq (.region false [
    ⟨some 13, .mv, [(.t 6)], [], none⟩,
    ⟨some 4, .mv, [(.c (D.zs 47 true))], [], none⟩,
    ⟨some 5, .mv, [(.t 13)], [0, 1, 0, 1], none⟩])
  (.ret)) (.skip)))
  (.seq (.region false [
    ⟨some 15, .mv, [(.t 0)], [], none⟩,
    ⟨some 16, .mv, [(.t 1)], [], none⟩,
    ⟨some 17, .call [3, 4], [(.c (D.fn 37 [])), (.t 15), (.t 16)], [0, 1], none⟩,
    ⟨some 14, .mv, [(.t 17)], [2], none⟩,
    ⟨some 18, .ext 0, [(.t 14)], [3], none⟩,
    ⟨some 19, .ext 1, [(.t 14)], [3], none⟩,
    ⟨some 7, .mv, [(.t 18)], [4, 2, 0, 1, 2, 3, 4], none⟩,
    ⟨some 8, .mv, [(.t 19)], [5, 6, 0, 1, 2, 3, 4, 5, 6], none⟩])
  (.seq (.seq (.region false [
    ⟨some 20, .mv, [(.t 8)], [], none⟩,
    ⟨some 21, .not, [(.t 20)], [0], none⟩])
  (.cond (.t 21) (.seq (.region false [
    ⟨some 4, .mv, [(.c (D.zs 47 true))], [], none⟩,
    ⟨some 5, .mv, [(.c (D.int .i64 6))], [0, 0], none⟩])
  (.ret)) (.skip)))
  (.seq (.region false [
    ⟨some 22, .mv, [(.t 0)], [], none⟩,
    ⟨some 23, .call [5], [(.c (D.fn 39 [])), (.t 22)], [0], none⟩,
    ⟨some 24, .mv, [(.t 7)], [], none⟩,
    ⟨some 25, .mv, [(.t 7)], [], none⟩,
    ⟨some 26, .bin .add, [(.t 25), (.c (D.int .i64 1))], [3], none⟩,
    ⟨some 27, .call [6], [(.c (D.fn 38 [])), (.t 23), (.t 24), (.t 26)], [1, 2, 4, 1], none⟩,
    ⟨some 4, .mv, [(.t 27)], [5, 5, 0, 1, 2, 3, 4, 5], none⟩,
    ⟨some 5, .mv, [(.c (D.int .i64 0))], [6, 0, 1, 2, 3, 4, 5, 6], none⟩])
  (.ret))))))⟩

/- 18: gatepath/gatepathref29.Forget -/
def c_gatepathref29_Forget : DFun := ⟨43, 7, [.p, .p], [.o 47, .p ⟨false, [.int .i64]⟩], [.t 4, .t 5],
  .seq (.region false [
    ⟨some 4, .mv, [(.c (D.zs 47 true))], [], none⟩,
    ⟨some 5, .mv, [(.c (D.int .i64 0))], [0], none⟩])
  (.seq (.region false [
    ⟨some 9, .mv, [(.t 0)], [], none⟩,
    ⟨some 10, .call [4], [(.c (D.fn 20 [])), (.t 9)], [0], none⟩,
    ⟨some 6, .mv, [(.t 10)], [1, 1, 0, 1], none⟩])
  (.seq (.seq (.region false [
    ⟨some 11, .mv, [(.t 6)], [], none⟩,
    ⟨some 12, .bin .eql, [(.t 11), (.c (D.int .i64 0))], [0], none⟩,
    ⟨some 13, .mv, [(.t 12)], [1], none⟩,
    ⟨some 14, .mv, [(.t 0)], [2], some (13, true)⟩,
    ⟨some 15, .mv, [(.t 1)], [2], some (13, true)⟩,
    ⟨some 16, .call [5], [(.c (D.fn 33 [])), (.t 14), (.t 15)], [3, 4, 2, 2], some (13, true)⟩,
    ⟨some 17, .bin .lss, [(.t 16), (.c (D.int .i64 0))], [5, 2], some (13, true)⟩,
    ⟨some 18, .pick, [(.t 13), (.t 17), (.c (D.bool false))], [2, 6], none⟩])
  (.cond (.t 18) (.region false [
    ⟨some 6, .mv, [(.c (D.int .i64 6))], [], none⟩]) (.skip)))
  (.seq (.seq (.region false [
    ⟨some 19, .mv, [(.t 6)], [], none⟩,
    ⟨some 20, .bin .neq, [(.t 19), (.c (D.int .i64 0))], [0], none⟩])
  (.cond (.t 20) (.seq (.region false [
    ⟨some 21, .mv, [(.t 6)], [], none⟩,
    ⟨some 4, .mv, [(.c (D.zs 47 true))], [], none⟩,
    ⟨some 5, .mv, [(.t 21)], [0, 1, 0, 1], none⟩])
  (.ret)) (.skip)))
  (.seq (.region false [
    ⟨some 7, .mv, [(.c (D.zs 47 true))], [], none⟩])
  (.seq (.seq (.region false [
    ⟨some 8, .mv, [(.c (D.int .i64 0))], [], none⟩])
  (.block 0 (.loop ⟨[0, 1], [(7, .o 6 47), (8, .p ⟨false, [.int .i64]⟩)], []⟩ (.seq (.seq (.region false [
    ⟨some 22, .mv, [(.t 8)], [], none⟩,
    ⟨some 23, .mv, [(.t 0)], [], none⟩,
    ⟨some 24, .len, [(.t 23)], [1], none⟩,
    ⟨some 25, .bin .lss, [(.t 22), (.t 24)], [0, 2], none⟩])
  (.cond (.t 25) (.skip) (.exit 0)))
  (.seq (.block 1 (.seq (.region false [
    ⟨some 28, .mv, [(.t 0)], [], none⟩,
    ⟨some 29, .mv, [(.t 8)], [], none⟩,
    ⟨some 30, .idxA 47, [(.t 28), (.t 29)], [0, 1], none⟩,
    ⟨some 31, .fld 0, [(.t 30)], [2], none⟩,
    ⟨some 32, .load ⟨false, [.str]⟩, [(.t 31)], [3], none⟩,
    ⟨some 33, .mv, [(.t 1)], [], none⟩,
    ⟨some 34, .bin .neq, [(.t 32), (.t 33)], [4, 5], none⟩])
  (.cond (.t 34) (.region false [
    ⟨some 35, .mv, [(.t 7)], [], none⟩,
    ⟨some 36, .mv, [(.t 0)], [], none⟩,
    ⟨some 37, .mv, [(.t 8)], [], none⟩,
    ⟨some 38, .idxA 47, [(.t 36), (.t 37)], [1, 2], none⟩,
    ⟨some 39, .load ⟨true, [.str, .int .u64, .int .u8, .int .u8, .int .u8, .int .u8, .int .u8, .int .u8, .int .u8, .int .u8, .int .u8, .int .u8, .int .u8, .int .u8, .int .u8, .int .u8, .int .u8, .int .u8, .int .u8, .int .u8, .int .u8, .int .u8, .int .u8, .int .u8, .int .u8, .int .u8, .int .u8, .int .u8, .int .u8, .int .u8, .int .u8, .int .u8, .int .u8, .int .u8, .int .i64, .int .i64, .int .i64]⟩, [(.t 38)], [3], none⟩,
    ⟨some 40, .buildSl 2 47, [(.t 39)], [4], none⟩,
    ⟨some 41, .append 3 47 80, [(.t 35), (.t 40)], [0, 5], none⟩,
    ⟨some 7, .mv, [(.t 41)], [6, 6, 0, 1, 2, 3, 4, 5, 6], none⟩]) (.skip))))
  (.region false [
    ⟨some 26, .mv, [(.t 8)], [], none⟩,
    ⟨some 27, .bin .add, [(.t 26), (.c (D.int .i64 1))], [0], none⟩,
    ⟨some 8, .mv, [(.t 27)], [1, 0, 1], none⟩]))))))
  (.seq (.region false [
    ⟨some 42, .mv, [(.t 7)], [], none⟩,
    ⟨some 4, .mv, [(.t 42)], [0, 0], none⟩,
    ⟨some 5, .mv, [(.c (D.int .i64 0))], [1, 0, 1], none⟩])
  (.ret)))))))⟩

/- 21: gatepath/gatepathref29.SameStrings -/
def c_gatepathref29_SameStrings : DFun := ⟨26, 2, [.p, .p], [.p ⟨false, [.bool]⟩], [.t 4],
  .seq (.region false [
    ⟨some 4, .mv, [(.c (D.bool false))], [], none⟩])
  (.seq (.seq (.region false [
    ⟨some 6, .mv, [(.t 0)], [], none⟩,
    ⟨some 7, .len, [(.t 6)], [0], none⟩,
    ⟨some 8, .mv, [(.t 1)], [], none⟩,
    ⟨some 9, .len, [(.t 8)], [2], none⟩,
    ⟨some 10, .bin .neq, [(.t 7), (.t 9)], [1, 3], none⟩])
  (.cond (.t 10) (.seq (.region false [
    ⟨some 4, .mv, [(.c (D.bool false))], [], none⟩])
  (.ret)) (.skip)))
  (.seq (.seq (.region false [
    ⟨some 5, .mv, [(.c (D.int .i64 0))], [], none⟩])
  (.block 0 (.loop ⟨[0, 1], [(5, .p ⟨false, [.int .i64]⟩)], []⟩ (.seq (.seq (.region false [
    ⟨some 11, .mv, [(.t 5)], [], none⟩,
    ⟨some 12, .mv, [(.t 0)], [], none⟩,
    ⟨some 13, .len, [(.t 12)], [1], none⟩,
    ⟨some 14, .bin .lss, [(.t 11), (.t 13)], [0, 2], none⟩])
  (.cond (.t 14) (.skip) (.exit 0)))
  (.seq (.block 1 (.seq (.region true [
    ⟨some 17, .mv, [(.t 0)], [], none⟩,
    ⟨some 18, .mv, [(.t 5)], [], none⟩,
    ⟨some 19, .idxA 9, [(.t 17), (.t 18)], [0, 1], none⟩,
    ⟨some 20, .load ⟨false, [.str]⟩, [(.t 19)], [2], none⟩,
    ⟨some 21, .mv, [(.t 1)], [], none⟩,
    ⟨some 22, .mv, [(.t 5)], [], none⟩,
    ⟨some 23, .idxA 9, [(.t 21), (.t 22)], [4, 5], none⟩,
    ⟨some 24, .load ⟨false, [.str]⟩, [(.t 23)], [6], none⟩,
    ⟨some 25, .bin .neq, [(.t 20), (.t 24)], [3, 7], none⟩])
  (.cond (.t 25) (.seq (.region false [
    ⟨some 4, .mv, [(.c (D.bool false))], [], none⟩])
  (.ret)) (.skip))))
  (.region false [
    ⟨some 15, .mv, [(.t 5)], [], none⟩,
    ⟨some 16, .bin .add, [(.t 15), (.c (D.int .i64 1))], [0], none⟩,
    ⟨some 5, .mv, [(.t 16)], [1, 0, 1], none⟩]))))))
  (.seq (.region false [
    ⟨some 4, .mv, [(.c (D.bool true))], [], none⟩])
  (.ret))))⟩

/- 4: gatepath/gatepathlaw29.FreshLists -/
def c_gatepathlaw29_FreshLists : DFun := ⟨75, 17, [.p, .p, .p, .p], [.p ⟨false, [.bool]⟩], [.t 8],
  .seq (.region false [
    ⟨some 8, .mv, [(.c (D.bool false))], [], none⟩])
  (.seq (.seq (.region false [
    ⟨some 17, .mv, [(.t 0)], [], none⟩,
    ⟨some 18, .call [4], [(.c (D.fn 11 [])), (.t 17)], [0], none⟩,
    ⟨some 19, .mv, [(.t 18)], [1, 1], none⟩,
    ⟨some 20, .mv, [(.t 3)], [2], some (19, false)⟩,
    ⟨some 21, .lenS, [(.t 20)], [3, 2], some (19, false)⟩,
    ⟨some 22, .bin .gtr, [(.t 21), (.c (D.int .i64 300))], [4, 2], some (19, false)⟩,
    ⟨some 23, .pick, [(.t 19), (.c (D.bool true)), (.t 22)], [2, 5], none⟩])
  (.cond (.t 23) (.seq (.region false [
    ⟨some 8, .mv, [(.c (D.bool true))], [], none⟩])
  (.ret)) (.skip)))
  (.seq (.region false [
    ⟨some 25, .mv, [(.t 0)], [], none⟩,
    ⟨some 26, .mv, [(.t 1)], [], none⟩,
    ⟨some 27, .mv, [(.t 2)], [], none⟩,
    ⟨some 28, .call [5, 6], [(.c (D.fn 15 [])), (.t 25), (.t 26), (.t 27)], [0, 1, 2], none⟩,
    ⟨some 24, .mv, [(.t 28)], [3], none⟩,
    ⟨some 29, .ext 0, [(.t 24)], [4], none⟩,
    ⟨some 30, .ext 1, [(.t 24)], [4], none⟩,
    ⟨some 9, .mv, [(.t 29)], [5, 3, 0, 1, 2, 3, 4, 5], none⟩,
    ⟨some 10, .mv, [(.t 30)], [6, 7, 0, 1, 2, 3, 4, 5, 6, 7], none⟩])
  (.seq (.region false [
    ⟨some 32, .mv, [(.t 0)], [], none⟩,
    ⟨some 33, .mv, [(.t 1)], [], none⟩,
    ⟨some 34, .mv, [(.t 2)], [], none⟩,
    ⟨some 35, .call [7, 8], [(.c (D.fn 16 [])), (.t 32), (.t 33), (.t 34)], [0, 1, 2], none⟩,
    ⟨some 31, .mv, [(.t 35)], [3], none⟩,
    ⟨some 36, .ext 0, [(.t 31)], [4], none⟩,
    ⟨some 37, .ext 1, [(.t 31)], [4], none⟩,
    ⟨some 11, .mv, [(.t 36)], [5, 3, 0, 1, 2, 3, 4, 5], none⟩,
    ⟨some 12, .mv, [(.t 37)], [6, 7, 0, 1, 2, 3, 4, 5, 6, 7], none⟩])
  (.seq (.region false [
    ⟨some 39, .mv, [(.t 0)], [], none⟩,
    ⟨some 40, .mv, [(.t 3)], [], none⟩,
    ⟨some 41, .call [9, 10], [(.c (D.fn 17 [])), (.t 39), (.t 40)], [0, 1], none⟩,
    ⟨some 38, .mv, [(.t 41)], [2], none⟩,
    ⟨some 42, .ext 0, [(.t 38)], [3], none⟩,
    ⟨some 43, .ext 1, [(.t 38)], [3], none⟩,
    ⟨some 13, .mv, [(.t 42)], [4, 2, 0, 1, 2, 3, 4], none⟩,
    ⟨some 14, .mv, [(.t 43)], [5, 6, 0, 1, 2, 3, 4, 5, 6], none⟩])
  (.seq (.region false [
    ⟨some 45, .mv, [(.t 0)], [], none⟩,
    ⟨some 46, .mv, [(.t 3)], [], none⟩,
    ⟨some 47, .call [11, 12], [(.c (D.fn 18 [])), (.t 45), (.t 46)], [0, 1], none⟩,
    ⟨some 44, .mv, [(.t 47)], [2], none⟩,
    ⟨some 48, .ext 0, [(.t 44)], [3], none⟩,
    ⟨some 49, .ext 1, [(.t 44)], [3], none⟩,
    ⟨some 15, .mv, [(.t 48)], [4, 2, 0, 1, 2, 3, 4], none⟩,
    ⟨some 16, .mv, [(.t 49)], [5, 6, 0, 1, 2, 3, 4, 5, 6], none⟩])
  (.seq (.region false [
    ⟨some 50, .mv, [(.t 0)], [], none⟩,
    ⟨some 51, .call [13], [(.c (D.fn 19 [])), (.t 50)], [0], none⟩,
    ⟨some 52, .mv, [(.t 0)], [], none⟩,
    ⟨some 53, .call [14], [(.c (D.fn 20 [])), (.t 52)], [2, 1], none⟩,
    ⟨some 54, .bin .eql, [(.t 51), (.t 53)], [1, 3], none⟩,
    ⟨some 55, .mv, [(.t 54)], [4, 3], none⟩,
    ⟨some 56, .mv, [(.t 9)], [5], some (55, true)⟩,
    ⟨some 57, .mv, [(.t 11)], [5], some (55, true)⟩,
    ⟨some 58, .call [15], [(.c (D.fn 21 [])), (.t 56), (.t 57)], [6, 7, 5, 5], some (55, true)⟩,
    ⟨some 59, .pick, [(.t 55), (.t 58), (.c (D.bool false))], [5, 8], none⟩,
    ⟨some 60, .mv, [(.t 59)], [9, 8], none⟩,
    ⟨some 61, .mv, [(.t 10)], [10], some (60, true)⟩,
    ⟨some 62, .mv, [(.t 12)], [10], some (60, true)⟩,
    ⟨some 63, .bin .eql, [(.t 61), (.t 62)], [11, 12, 10], some (60, true)⟩,
    ⟨some 64, .pick, [(.t 60), (.t 63), (.c (D.bool false))], [10, 13], none⟩,
    ⟨some 65, .mv, [(.t 64)], [14, 10], none⟩,
    ⟨some 66, .mv, [(.t 13)], [15], some (65, true)⟩,
    ⟨some 67, .mv, [(.t 15)], [15], some (65, true)⟩,
    ⟨some 68, .call [16], [(.c (D.fn 14 [])), (.t 66), (.t 67)], [16, 17, 15, 15], some (65, true)⟩,
    ⟨some 69, .pick, [(.t 65), (.t 68), (.c (D.bool false))], [15, 18], none⟩,
    ⟨some 70, .mv, [(.t 69)], [19, 18], none⟩,
    ⟨some 71, .mv, [(.t 14)], [20], some (70, true)⟩,
    ⟨some 72, .mv, [(.t 16)], [20], some (70, true)⟩,
    ⟨some 73, .bin .eql, [(.t 71), (.t 72)], [21, 22, 20], some (70, true)⟩,
    ⟨some 74, .pick, [(.t 70), (.t 73), (.c (D.bool false))], [20, 23], none⟩,
    ⟨some 8, .mv, [(.t 74)], [24, 20, 0, 1, 2, 3, 4, 5, 6, 7, 8, 9, 10, 11, 12, 13, 14, 15, 16, 17, 18, 19, 20, 21, 22, 23, 24], none⟩])
  (.ret)))))))⟩

/- 43: gatepath/fresh.judge -/
def c_fresh_judge : DFun := ⟨54, 4, [.p, .p], [.p ⟨false, [.int .u8]⟩], [.t 4],
  .seq (.region false [
    ⟨some 2, .box 2, [(.t 0)], [], none⟩,
    ⟨some 3, .box 3, [(.t 1)], [], none⟩,
    ⟨some 4, .mv, [(.c (D.int .u8 0))], [], none⟩])
  (.seq (.region false [
    ⟨some 6, .fld 2, [(.t 2)], [], none⟩,
    ⟨some 7, .load ⟨true, [.int .u8, .int .u8, .int .u8, .int .u8, .int .u8, .int .u8, .int .u8, .int .u8, .int .u8, .int .u8, .int .u8, .int .u8, .int .u8, .int .u8, .int .u8, .int .u8, .int .u8, .int .u8, .int .u8, .int .u8, .int .u8, .int .u8, .int .u8, .int .u8, .int .u8, .int .u8, .int .u8, .int .u8, .int .u8, .int .u8, .int .u8, .int .u8]⟩, [(.t 6)], [0], none⟩,
    ⟨some 8, .fld 2, [(.t 3)], [], none⟩,
    ⟨some 9, .load ⟨true, [.int .u8, .int .u8, .int .u8, .int .u8, .int .u8, .int .u8, .int .u8, .int .u8, .int .u8, .int .u8, .int .u8, .int .u8, .int .u8, .int .u8, .int .u8, .int .u8, .int .u8, .int .u8, .int .u8, .int .u8, .int .u8, .int .u8, .int .u8, .int .u8, .int .u8, .int .u8, .int .u8, .int .u8, .int .u8, .int .u8, .int .u8, .int .u8]⟩, [(.t 8)], [2], none⟩,
    ⟨some 10, .eqv false ⟨true, [.int .u8, .int .u8, .int .u8, .int .u8, .int .u8, .int .u8, .int .u8, .int .u8, .int .u8, .int .u8, .int .u8, .int .u8, .int .u8, .int .u8, .int .u8, .int .u8, .int .u8, .int .u8, .int .u8, .int .u8, .int .u8, .int .u8, .int .u8, .int .u8, .int .u8, .int .u8, .int .u8, .int .u8, .int .u8, .int .u8, .int .u8, .int .u8]⟩, [(.t 7), (.t 9)], [1, 3], none⟩,
    ⟨some 11, .mv, [(.t 10)], [4], none⟩,
    ⟨some 12, .fld 34, [(.t 2)], [5], some (11, true)⟩,
    ⟨some 13, .load ⟨true, [.int .i64, .int .i64]⟩, [(.t 12)], [6, 5], some (11, true)⟩,
    ⟨some 14, .fld 34, [(.t 3)], [5], some (11, true)⟩,
    ⟨some 15, .load ⟨true, [.int .i64, .int .i64]⟩, [(.t 14)], [8, 5], some (11, true)⟩,
    ⟨some 16, .eqv false ⟨true, [.int .i64, .int .i64]⟩, [(.t 13), (.t 15)], [7, 9, 5], some (11, true)⟩,
    ⟨some 17, .pick, [(.t 11), (.t 16), (.c (D.bool false))], [5, 10], none⟩,
    ⟨some 5, .mv, [(.t 17)], [11, 5, 0, 1, 2, 3, 4, 5, 6, 7, 8, 9, 10, 11], none⟩])
  (.seq (.block 0 (.seq (.region false [
    ⟨some 19, .fld 1, [(.t 2)], [], none⟩,
    ⟨some 20, .load ⟨false, [.int .u64]⟩, [(.t 19)], [0], none⟩,
    ⟨some 21, .fld 1, [(.t 3)], [], none⟩,
    ⟨some 22, .load ⟨false, [.int .u64]⟩, [(.t 21)], [2], none⟩,
    ⟨some 23, .bin .lss, [(.t 20), (.t 22)], [1, 3], none⟩,
    ⟨some 18, .mv, [(.t 23)], [4], none⟩])
  (.cond (.t 18) (.seq (.region false [
    ⟨some 4, .mv, [(.c (D.int .u8 4))], [], none⟩])
  (.ret)) (.seq (.region false [
    ⟨some 25, .fld 1, [(.t 2)], [], none⟩,
    ⟨some 26, .load ⟨false, [.int .u64]⟩, [(.t 25)], [0], none⟩,
    ⟨some 27, .fld 1, [(.t 3)], [], none⟩,
    ⟨some 28, .load ⟨false, [.int .u64]⟩, [(.t 27)], [2], none⟩,
    ⟨some 29, .bin .eql, [(.t 26), (.t 28)], [1, 3], none⟩,
    ⟨some 30, .mv, [(.t 29)], [4], none⟩,
    ⟨some 31, .mv, [(.t 5)], [5], some (30, true)⟩,
    ⟨some 32, .pick, [(.t 30), (.t 31), (.c (D.bool false))], [5, 6], none⟩,
    ⟨some 24, .mv, [(.t 32)], [7, 5], none⟩])
  (.cond (.t 24) (.seq (.region false [
    ⟨some 4, .mv, [(.c (D.int .u8 2))], [], none⟩])
  (.ret)) (.seq (.region false [
    ⟨some 34, .fld 1, [(.t 2)], [], none⟩,
    ⟨some 35, .load ⟨false, [.int .u64]⟩, [(.t 34)], [0], none⟩,
    ⟨some 36, .fld 1, [(.t 3)], [], none⟩,
    ⟨some 37, .load ⟨false, [.int .u64]⟩, [(.t 36)], [2], none⟩,
    ⟨some 38, .bin .eql, [(.t 35), (.t 37)], [1, 3], none⟩,
    ⟨some 39, .mv, [(.t 38)], [4], none⟩,
    ⟨some 40, .fld 2, [(.t 2)], [5], some (39, false)⟩,
    ⟨some 41, .load ⟨true, [.int .u8, .int .u8, .int .u8, .int .u8, .int .u8, .int .u8, .int .u8, .int .u8, .int .u8, .int .u8, .int .u8, .int .u8, .int .u8, .int .u8, .int .u8, .int .u8, .int .u8, .int .u8, .int .u8, .int .u8, .int .u8, .int .u8, .int .u8, .int .u8, .int .u8, .int .u8, .int .u8, .int .u8, .int .u8, .int .u8, .int .u8, .int .u8]⟩, [(.t 40)], [6, 5], some (39, false)⟩,
    ⟨some 42, .fld 2, [(.t 3)], [5], some (39, false)⟩,
    ⟨some 43, .load ⟨true, [.int .u8, .int .u8, .int .u8, .int .u8, .int .u8, .int .u8, .int .u8, .int .u8, .int .u8, .int .u8, .int .u8, .int .u8, .int .u8, .int .u8, .int .u8, .int .u8, .int .u8, .int .u8, .int .u8, .int .u8, .int .u8, .int .u8, .int .u8, .int .u8, .int .u8, .int .u8, .int .u8, .int .u8, .int .u8, .int .u8, .int .u8, .int .u8]⟩, [(.t 42)], [8, 5], some (39, false)⟩,
    ⟨some 44, .eqv false ⟨true, [.int .u8, .int .u8, .int .u8, .int .u8, .int .u8, .int .u8, .int .u8, .int .u8, .int .u8, .int .u8, .int .u8, .int .u8, .int .u8, .int .u8, .int .u8, .int .u8, .int .u8, .int .u8, .int .u8, .int .u8, .int .u8, .int .u8, .int .u8, .int .u8, .int .u8, .int .u8, .int .u8, .int .u8, .int .u8, .int .u8, .int .u8, .int .u8]⟩, [(.t 41), (.t 43)], [7, 9, 5], some (39, false)⟩,
    ⟨some 45, .pick, [(.t 39), (.c (D.bool true)), (.t 44)], [5, 10], none⟩,
    ⟨some 33, .mv, [(.t 45)], [11, 5], none⟩])
  (.cond (.t 33) (.seq (.region false [
    ⟨some 4, .mv, [(.c (D.int .u8 5))], [], none⟩])
  (.ret)) (.seq (.region false [
    ⟨some 47, .fld 34, [(.t 2)], [], none⟩,
    ⟨some 48, .fld 0, [(.t 47)], [0], none⟩,
    ⟨some 49, .load ⟨false, [.int .i64]⟩, [(.t 48)], [1], none⟩,
    ⟨some 50, .fld 34, [(.t 3)], [], none⟩,
    ⟨some 51, .fld 0, [(.t 50)], [3], none⟩,
    ⟨some 52, .load ⟨false, [.int .i64]⟩, [(.t 51)], [4], none⟩,
    ⟨some 53, .bin .lss, [(.t 49), (.t 52)], [2, 5], none⟩,
    ⟨some 46, .mv, [(.t 53)], [6], none⟩])
  (.cond (.t 46) (.seq (.region false [
    ⟨some 4, .mv, [(.c (D.int .u8 8))], [], none⟩])
  (.ret)) (.skip))))))))))
  (.seq (.region false [
    ⟨some 4, .mv, [(.c (D.int .u8 3))], [], none⟩])
  (.ret))))⟩

/- 22: gatepath/fresh.Look -/
def c_fresh_Look : DFun := ⟨100, 13, [.p, .p, .p], [.o 47, .p ⟨false, [.int .u8]⟩, .p ⟨false, [.int .i64]⟩], [.t 6, .t 7, .t 8],
  .seq (.region false [
    ⟨some 4, .box 3, [(.t 1)], [], none⟩,
    ⟨some 6, .mv, [(.c (D.zs 47 true))], [], none⟩,
    ⟨some 7, .mv, [(.c (D.int .u8 0))], [1], none⟩,
    ⟨some 8, .mv, [(.c (D.int .i64 0))], [2], none⟩])
  (.seq (.region false [
    ⟨some 14, .mv, [(.t 0)], [], none⟩,
    ⟨some 15, .call [5], [(.c (D.fn 19 [])), (.t 14)], [0], none⟩,
    ⟨some 9, .mv, [(.t 15)], [1, 1, 0, 1], none⟩])
  (.seq (.seq (.region false [
    ⟨some 16, .mv, [(.t 9)], [], none⟩,
    ⟨some 17, .bin .neq, [(.t 16), (.c (D.int .i64 0))], [0], none⟩])
  (.cond (.t 17) (.seq (.region false [
    ⟨some 18, .mv, [(.t 9)], [], none⟩,
    ⟨some 6, .mv, [(.c (D.zs 47 true))], [], none⟩,
    ⟨some 7, .mv, [(.c (D.int .u8 0))], [1, 1], none⟩,
    ⟨some 8, .mv, [(.t 18)], [0, 2, 0, 1, 2], none⟩])
  (.ret)) (.skip)))
  (.seq (.seq (.region false [
    ⟨some 19, .mv, [(.t 2)], [], none⟩,
    ⟨some 20, .call [6], [(.c (D.fn 35 [])), (.t 19)], [0], none⟩,
    ⟨some 21, .not, [(.t 20)], [1], none⟩,
    ⟨some 22, .mv, [(.t 21)], [2, 1], none⟩,
    ⟨some 23, .load ⟨true, [.str, .int .u64, .int .u8, .int .u8, .int .u8, .int .u8, .int .u8, .int .u8, .int .u8, .int .u8, .int .u8, .int .u8, .int .u8, .int .u8, .int .u8, .int .u8, .int .u8, .int .u8, .int .u8, .int .u8, .int .u8, .int .u8, .int .u8, .int .u8, .int .u8, .int .u8, .int .u8, .int .u8, .int .u8, .int .u8, .int .u8, .int .u8, .int .u8, .int .u8, .int .i64, .int .i64, .int .i64]⟩, [(.t 4)], [3], some (22, false)⟩,
    ⟨some 24, .call [7], [(.c (D.fn 40 [])), (.t 23)], [4, 3, 3], some (22, false)⟩,
    ⟨some 25, .not, [(.t 24)], [5, 3], some (22, false)⟩,
    ⟨some 26, .pick, [(.t 22), (.c (D.bool true)), (.t 25)], [3, 6], none⟩,
    ⟨some 27, .mv, [(.t 26)], [7, 5], none⟩,
    ⟨some 28, .fld 36, [(.t 4)], [8], some (27, false)⟩,
    ⟨some 29, .load ⟨false, [.int .i64]⟩, [(.t 28)], [9, 8], some (27, false)⟩,
    ⟨some 30, .mv, [(.t 2)], [8], some (27, false)⟩,
    ⟨some 31, .bin .neq, [(.t 29), (.t 30)], [10, 11, 8], some (27, false)⟩,
    ⟨some 32, .pick, [(.t 27), (.c (D.bool true)), (.t 31)], [8, 12], none⟩])
  (.cond (.t 32) (.seq (.region false [
    ⟨some 6, .mv, [(.c (D.zs 47 true))], [], none⟩,
    ⟨some 7, .mv, [(.c (D.int .u8 0))], [0, 0], none⟩,
    ⟨some 8, .mv, [(.c (D.int .i64 2))], [1, 0, 1], none⟩])
  (.ret)) (.skip)))
  (.seq (.region false [
    ⟨some 34, .mv, [(.t 0)], [], none⟩,
    ⟨some 35, .fld 0, [(.t 4)], [], none⟩,
    ⟨some 36, .load ⟨false, [.str]⟩, [(.t 35)], [1], none⟩,
    ⟨some 37, .call [8, 9], [(.c (D.fn 37 [])), (.t 34), (.t 36)], [0, 2], none⟩,
    ⟨some 33, .mv, [(.t 37)], [3], none⟩,
    ⟨some 38, .ext 0, [(.t 33)], [4], none⟩,
    ⟨some 39, .ext 1, [(.t 33)], [4], none⟩,
    ⟨some 10, .mv, [(.t 38)], [5, 3, 0, 1, 2, 3, 4, 5], none⟩,
    ⟨some 11, .mv, [(.t 39)], [6, 7, 0, 1, 2, 3, 4, 5, 6, 7], none⟩])
  (.seq (.seq (.region false [
    ⟨some 40, .mv, [(.t 11)], [], none⟩,
    ⟨some 41, .mv, [(.t 40)], [0], none⟩,
    ⟨some 42, .mv, [(.t 0)], [1], some (41, true)⟩,
    ⟨some 43, .mv, [(.t 10)], [1], some (41, true)⟩,
    ⟨some 44, .idxA 47, [(.t 42), (.t 43)], [2, 3, 1], some (41, true)⟩,
    ⟨some 45, .fld 36, [(.t 44)], [4, 1], some (41, true)⟩,
    ⟨some 46, .load ⟨false, [.int .i64]⟩, [(.t 45)], [5, 1], some (41, true)⟩,
    ⟨some 47, .mv, [(.t 2)], [1], some (41, true)⟩,
    ⟨some 48, .bin .gtr, [(.t 46), (.t 47)], [6, 7, 1], some (41, true)⟩,
    ⟨some 49, .pick, [(.t 41), (.t 48), (.c (D.bool false))], [1, 8], none⟩])
  (.cond (.t 49) (.seq (.region false [
    ⟨some 6, .mv, [(.c (D.zs 47 true))], [], none⟩,
    ⟨some 7, .mv, [(.c (D.int .u8 0))], [0, 0], none⟩,
    ⟨some 8, .mv, [(.c (D.int .i64 30))], [1, 0, 1], none⟩])
  (.ret)) (.skip)))
  (.seq (.region false [
    ⟨some 50, .mv, [(.t 0)], [], none⟩,
    ⟨some 51, .call [10], [(.c (D.fn 39 [])), (.t 50)], [0], none⟩,
    ⟨some 12, .mv, [(.t 51)], [1, 1, 0, 1], none⟩])
  (.seq (.block 0 (.seq (.region false [
    ⟨some 53, .mv, [(.t 2)], [], none⟩,
    ⟨some 54, .fld 34, [(.t 4)], [], none⟩,
    ⟨some 55, .fld 1, [(.t 54)], [1], none⟩,
    ⟨some 56, .load ⟨false, [.int .i64]⟩, [(.t 55)], [2], none⟩,
    ⟨some 57, .bin .gtr, [(.t 53), (.t 56)], [0, 3], none⟩,
    ⟨some 52, .mv, [(.t 57)], [4], none⟩])
  (.cond (.t 52) (.seq (.region false [
    ⟨some 58, .mv, [(.t 12)], [], none⟩,
    ⟨some 6, .mv, [(.t 58)], [0, 0], none⟩,
    ⟨some 7, .mv, [(.c (D.int .u8 6))], [1, 0, 1], none⟩,
    ⟨some 8, .mv, [(.c (D.int .i64 0))], [2, 0, 1, 2], none⟩])
  (.ret)) (.seq (.region false [
    ⟨some 60, .mv, [(.t 2)], [], none⟩,
    ⟨some 61, .fld 34, [(.t 4)], [], none⟩,
    ⟨some 62, .fld 0, [(.t 61)], [1], none⟩,
    ⟨some 63, .load ⟨false, [.int .i64]⟩, [(.t 62)], [2], none⟩,
    ⟨some 64, .bin .lss, [(.t 60), (.t 63)], [0, 3], none⟩,
    ⟨some 59, .mv, [(.t 64)], [4], none⟩])
  (.cond (.t 59) (.seq (.region false [
    ⟨some 65, .mv, [(.t 12)], [], none⟩,
    ⟨some 6, .mv, [(.t 65)], [0, 0], none⟩,
    ⟨some 7, .mv, [(.c (D.int .u8 7))], [1, 0, 1], none⟩,
    ⟨some 8, .mv, [(.c (D.int .i64 0))], [2, 0, 1, 2], none⟩])
  (.ret)) (.seq (.region false [
    ⟨some 67, .mv, [(.t 11)], [], none⟩,
    ⟨some 68, .not, [(.t 67)], [0], none⟩,
    ⟨some 69, .mv, [(.t 68)], [1], none⟩,
    ⟨some 70, .mv, [(.t 0)], [2], some (69, true)⟩,
    ⟨some 71, .len, [(.t 70)], [3, 2], some (69, true)⟩,
    ⟨some 72, .bin .eql, [(.t 71), (.c (D.int .i64 200))], [4, 2], some (69, true)⟩,
    ⟨some 73, .pick, [(.t 69), (.t 72), (.c (D.bool false))], [2, 5], none⟩,
    ⟨some 66, .mv, [(.t 73)], [6, 2], none⟩])
  (.cond (.t 66) (.seq (.region false [
    ⟨some 6, .mv, [(.c (D.zs 47 true))], [], none⟩,
    ⟨some 7, .mv, [(.c (D.int .u8 0))], [0, 0], none⟩,
    ⟨some 8, .mv, [(.c (D.int .i64 16))], [1, 0, 1], none⟩])
  (.ret)) (.seq (.region false [
    ⟨some 75, .mv, [(.t 11)], [], none⟩,
    ⟨some 76, .not, [(.t 75)], [0], none⟩,
    ⟨some 74, .mv, [(.t 76)], [1], none⟩])
  (.cond (.t 74) (.seq (.region false [
    ⟨some 77, .mv, [(.t 12)], [], none⟩,
    ⟨some 78, .mv, [(.t 10)], [], none⟩,
    ⟨some 79, .load ⟨true, [.str, .int .u64, .int .u8, .int .u8, .int .u8, .int .u8, .int .u8, .int .u8, .int .u8, .int .u8, .int .u8, .int .u8, .int .u8, .int .u8, .int .u8, .int .u8, .int .u8, .int .u8, .int .u8, .int .u8, .int .u8, .int .u8, .int .u8, .int .u8, .int .u8, .int .u8, .int .u8, .int .u8, .int .u8, .int .u8, .int .u8, .int .u8, .int .u8, .int .u8, .int .i64, .int .i64, .int .i64]⟩, [(.t 4)], [], none⟩,
    ⟨some 80, .buildSl 4 47, [(.t 79)], [2], none⟩,
    ⟨some 81, .call [11], [(.c (D.fn 42 [])), (.t 77), (.t 78), (.t 80)], [0, 1, 3], none⟩,
    ⟨some 6, .mv, [(.t 81)], [4, 4, 0, 1, 2, 3, 4], none⟩,
    ⟨some 7, .mv, [(.c (D.int .u8 1))], [5, 0, 1, 2, 3, 4, 5], none⟩,
    ⟨some 8, .mv, [(.c (D.int .i64 0))], [6, 0, 1, 2, 3, 4, 5, 6], none⟩])
  (.ret)) (.skip))))))))))
  (.seq (.region true [
    ⟨some 82, .load ⟨true, [.str, .int .u64, .int .u8, .int .u8, .int .u8, .int .u8, .int .u8, .int .u8, .int .u8, .int .u8, .int .u8, .int .u8, .int .u8, .int .u8, .int .u8, .int .u8, .int .u8, .int .u8, .int .u8, .int .u8, .int .u8, .int .u8, .int .u8, .int .u8, .int .u8, .int .u8, .int .u8, .int .u8, .int .u8, .int .u8, .int .u8, .int .u8, .int .u8, .int .u8, .int .i64, .int .i64, .int .i64]⟩, [(.t 4)], [], none⟩,
    ⟨some 83, .mv, [(.t 0)], [], none⟩,
    ⟨some 84, .mv, [(.t 10)], [], none⟩,
    ⟨some 85, .idxA 47, [(.t 83), (.t 84)], [1, 2], none⟩,
    ⟨some 86, .load ⟨true, [.str, .int .u64, .int .u8, .int .u8, .int .u8, .int .u8, .int .u8, .int .u8, .int .u8, .int .u8, .int .u8, .int .u8, .int .u8, .int .u8, .int .u8, .int .u8, .int .u8, .int .u8, .int .u8, .int .u8, .int .u8, .int .u8, .int .u8, .int .u8, .int .u8, .int .u8, .int .u8, .int .u8, .int .u8, .int .u8, .int .u8, .int .u8, .int .u8, .int .u8, .int .i64, .int .i64, .int .i64]⟩, [(.t 85)], [3], none⟩,
    ⟨some 87, .call [12], [(.c (D.fn 43 [])), (.t 82), (.t 86)], [0, 4], none⟩,
    ⟨some 13, .mv, [(.t 87)], [5, 5, 0, 1, 2, 3, 4, 5], none⟩])
  (.seq (.seq (.region false [
    ⟨some 88, .mv, [(.t 13)], [], none⟩,
    ⟨some 89, .bin .eql, [(.t 88), (.c (D.int .u8 2))], [0], none⟩,
    ⟨some 90, .mv, [(.t 89)], [1], none⟩,
    ⟨some 91, .mv, [(.t 13)], [2], some (90, false)⟩,
    ⟨some 92, .bin .eql, [(.t 91), (.c (D.int .u8 3))], [3, 2], some (90, false)⟩,
    ⟨some 93, .pick, [(.t 90), (.c (D.bool true)), (.t 92)], [2, 4], none⟩])
  (.cond (.t 93) (.region false [
    ⟨some 94, .mv, [(.t 12)], [], none⟩,
    ⟨some 95, .mv, [(.t 10)], [], none⟩,
    ⟨some 96, .load ⟨true, [.str, .int .u64, .int .u8, .int .u8, .int .u8, .int .u8, .int .u8, .int .u8, .int .u8, .int .u8, .int .u8, .int .u8, .int .u8, .int .u8, .int .u8, .int .u8, .int .u8, .int .u8, .int .u8, .int .u8, .int .u8, .int .u8, .int .u8, .int .u8, .int .u8, .int .u8, .int .u8, .int .u8, .int .u8, .int .u8, .int .u8, .int .u8, .int .u8, .int .u8, .int .i64, .int .i64, .int .i64]⟩, [(.t 4)], [], none⟩,
    ⟨some 97, .idxA 47, [(.t 94), (.t 95)], [0, 1, 0, 1, 2], none⟩,
    ⟨none, .store ⟨true, [.str, .int .u64, .int .u8, .int .u8, .int .u8, .int .u8, .int .u8, .int .u8, .int .u8, .int .u8, .int .u8, .int .u8, .int .u8, .int .u8, .int .u8, .int .u8, .int .u8, .int .u8, .int .u8, .int .u8, .int .u8, .int .u8, .int .u8, .int .u8, .int .u8, .int .u8, .int .u8, .int .u8, .int .u8, .int .u8, .int .u8, .int .u8, .int .u8, .int .u8, .int .i64, .int .i64, .int .i64]⟩, [(.t 97), (.t 96)], [3, 2, 0, 1, 2], none⟩]) (.skip)))
  (.seq (.region false [
    ⟨some 98, .mv, [(.t 12)], [], none⟩,
    ⟨some 99, .mv, [(.t 13)], [], none⟩,
    ⟨some 6, .mv, [(.t 98)], [0, 0], none⟩,
    ⟨some 7, .mv, [(.t 99)], [1, 2, 0, 1, 2], none⟩,
    ⟨some 8, .mv, [(.c (D.int .i64 0))], [3, 0, 1, 2, 3], none⟩])
  (.ret)))))))))))⟩

/- 44: gatepath/gatepathref29.judge -/
def c_gatepathref29_judge : DFun := ⟨95, 5, [.p, .p, .p], [.p ⟨false, [.int .u8]⟩], [.t 6],
  .seq (.region false [
    ⟨some 4, .box 3, [(.t 1)], [], none⟩,
    ⟨some 6, .mv, [(.c (D.int .u8 0))], [], none⟩])
  (.seq (.region false [
    ⟨some 8, .mv, [(.t 0)], [], none⟩,
    ⟨some 9, .fld 0, [(.t 4)], [], none⟩,
    ⟨some 10, .load ⟨false, [.str]⟩, [(.t 9)], [1], none⟩,
    ⟨some 11, .call [4], [(.c (D.fn 33 [])), (.t 8), (.t 10)], [0, 2], none⟩,
    ⟨some 7, .mv, [(.t 11)], [3, 3, 0, 1, 2, 3], none⟩])
  (.seq (.block 0 (.seq (.region false [
    ⟨some 13, .mv, [(.t 2)], [], none⟩,
    ⟨some 14, .fld 34, [(.t 4)], [], none⟩,
    ⟨some 15, .fld 1, [(.t 14)], [1], none⟩,
    ⟨some 16, .load ⟨false, [.int .i64]⟩, [(.t 15)], [2], none⟩,
    ⟨some 17, .bin .gtr, [(.t 13), (.t 16)], [0, 3], none⟩,
    ⟨some 12, .mv, [(.t 17)], [4], none⟩])
  (.cond (.t 12) (.seq (.region false [
    ⟨some 6, .mv, [(.c (D.int .u8 6))], [], none⟩])
  (.ret)) (.seq (.region false [
    ⟨some 19, .mv, [(.t 2)], [], none⟩,
    ⟨some 20, .fld 34, [(.t 4)], [], none⟩,
    ⟨some 21, .fld 0, [(.t 20)], [1], none⟩,
    ⟨some 22, .load ⟨false, [.int .i64]⟩, [(.t 21)], [2], none⟩,
    ⟨some 23, .bin .lss, [(.t 19), (.t 22)], [0, 3], none⟩,
    ⟨some 18, .mv, [(.t 23)], [4], none⟩])
  (.cond (.t 18) (.seq (.region false [
    ⟨some 6, .mv, [(.c (D.int .u8 7))], [], none⟩])
  (.ret)) (.seq (.region false [
    ⟨some 25, .mv, [(.t 7)], [], none⟩,
    ⟨some 26, .bin .lss, [(.t 25), (.c (D.int .i64 0))], [0], none⟩,
    ⟨some 24, .mv, [(.t 26)], [1], none⟩])
  (.cond (.t 24) (.seq (.region false [
    ⟨some 6, .mv, [(.c (D.int .u8 1))], [], none⟩])
  (.ret)) (.seq (.region true [
    ⟨some 28, .fld 1, [(.t 4)], [], none⟩,
    ⟨some 29, .load ⟨false, [.int .u64]⟩, [(.t 28)], [0], none⟩,
    ⟨some 30, .mv, [(.t 0)], [], none⟩,
    ⟨some 31, .mv, [(.t 7)], [], none⟩,
    ⟨some 32, .idxA 47, [(.t 30), (.t 31)], [2, 3], none⟩,
    ⟨some 33, .fld 1, [(.t 32)], [4], none⟩,
    ⟨some 34, .load ⟨false, [.int .u64]⟩, [(.t 33)], [5], none⟩,
    ⟨some 35, .bin .lss, [(.t 29), (.t 34)], [1, 6], none⟩,
    ⟨some 27, .mv, [(.t 35)], [7], none⟩])
  (.cond (.t 27) (.seq (.region false [
    ⟨some 6, .mv, [(.c (D.int .u8 4))], [], none⟩])
  (.ret)) (.seq (.region true [
    ⟨some 37, .fld 1, [(.t 4)], [], none⟩,
    ⟨some 38, .load ⟨false, [.int .u64]⟩, [(.t 37)], [0], none⟩,
    ⟨some 39, .mv, [(.t 0)], [], none⟩,
    ⟨some 40, .mv, [(.t 7)], [], none⟩,
    ⟨some 41, .idxA 47, [(.t 39), (.t 40)], [2, 3], none⟩,
    ⟨some 42, .fld 1, [(.t 41)], [4], none⟩,
    ⟨some 43, .load ⟨false, [.int .u64]⟩, [(.t 42)], [5], none⟩,
    ⟨some 44, .bin .eql, [(.t 38), (.t 43)], [1, 6], none⟩,
    ⟨some 45, .mv, [(.t 44)], [7], none⟩,
    ⟨some 46, .fld 2, [(.t 4)], [8], some (45, true)⟩,
    ⟨some 47, .load ⟨true, [.int .u8, .int .u8, .int .u8, .int .u8, .int .u8, .int .u8, .int .u8, .int .u8, .int .u8, .int .u8, .int .u8, .int .u8, .int .u8, .int .u8, .int .u8, .int .u8, .int .u8, .int .u8, .int .u8, .int .u8, .int .u8, .int .u8, .int .u8, .int .u8, .int .u8, .int .u8, .int .u8, .int .u8, .int .u8, .int .u8, .int .u8, .int .u8]⟩, [(.t 46)], [9, 8], some (45, true)⟩,
    ⟨some 48, .mv, [(.t 0)], [8], some (45, true)⟩,
    ⟨some 49, .mv, [(.t 7)], [8], some (45, true)⟩,
    ⟨some 50, .idxA 47, [(.t 48), (.t 49)], [11, 12, 8], some (45, true)⟩,
    ⟨some 51, .fld 2, [(.t 50)], [13, 8], some (45, true)⟩,
    ⟨some 52, .load ⟨true, [.int .u8, .int .u8, .int .u8, .int .u8, .int .u8, .int .u8, .int .u8, .int .u8, .int .u8, .int .u8, .int .u8, .int .u8, .int .u8, .int .u8, .int .u8, .int .u8, .int .u8, .int .u8, .int .u8, .int .u8, .int .u8, .int .u8, .int .u8, .int .u8, .int .u8, .int .u8, .int .u8, .int .u8, .int .u8, .int .u8, .int .u8, .int .u8]⟩, [(.t 51)], [14, 8], some (45, true)⟩,
    ⟨some 53, .eqv false ⟨true, [.int .u8, .int .u8, .int .u8, .int .u8, .int .u8, .int .u8, .int .u8, .int .u8, .int .u8, .int .u8, .int .u8, .int .u8, .int .u8, .int .u8, .int .u8, .int .u8, .int .u8, .int .u8, .int .u8, .int .u8, .int .u8, .int .u8, .int .u8, .int .u8, .int .u8, .int .u8, .int .u8, .int .u8, .int .u8, .int .u8, .int .u8, .int .u8]⟩, [(.t 47), (.t 52)], [10, 15, 8], some (45, true)⟩,
    ⟨some 54, .pick, [(.t 45), (.t 53), (.c (D.bool false))], [8, 16], none⟩,
    ⟨some 55, .mv, [(.t 54)], [17, 8], none⟩,
    ⟨some 56, .fld 34, [(.t 4)], [18], some (55, true)⟩,
    ⟨some 57, .load ⟨true, [.int .i64, .int .i64]⟩, [(.t 56)], [19, 18], some (55, true)⟩,
    ⟨some 58, .mv, [(.t 0)], [18], some (55, true)⟩,
    ⟨some 59, .mv, [(.t 7)], [18], some (55, true)⟩,
    ⟨some 60, .idxA 47, [(.t 58), (.t 59)], [21, 22, 18], some (55, true)⟩,
    ⟨some 61, .fld 34, [(.t 60)], [23, 18], some (55, true)⟩,
    ⟨some 62, .load ⟨true, [.int .i64, .int .i64]⟩, [(.t 61)], [24, 18], some (55, true)⟩,
    ⟨some 63, .eqv false ⟨true, [.int .i64, .int .i64]⟩, [(.t 57), (.t 62)], [20, 25, 18], some (55, true)⟩,
    ⟨some 64, .pick, [(.t 55), (.t 63), (.c (D.bool false))], [18, 26], none⟩,
    ⟨some 36, .mv, [(.t 64)], [27, 18], none⟩])
  (.cond (.t 36) (.seq (.region false [
    ⟨some 6, .mv, [(.c (D.int .u8 2))], [], none⟩])
  (.ret)) (.seq (.region true [
    ⟨some 66, .fld 1, [(.t 4)], [], none⟩,
    ⟨some 67, .load ⟨false, [.int .u64]⟩, [(.t 66)], [0], none⟩,
    ⟨some 68, .mv, [(.t 0)], [], none⟩,
    ⟨some 69, .mv, [(.t 7)], [], none⟩,
    ⟨some 70, .idxA 47, [(.t 68), (.t 69)], [2, 3], none⟩,
    ⟨some 71, .fld 1, [(.t 70)], [4], none⟩,
    ⟨some 72, .load ⟨false, [.int .u64]⟩, [(.t 71)], [5], none⟩,
    ⟨some 73, .bin .eql, [(.t 67), (.t 72)], [1, 6], none⟩,
    ⟨some 74, .mv, [(.t 73)], [7], none⟩,
    ⟨some 75, .fld 2, [(.t 4)], [8], some (74, false)⟩,
    ⟨some 76, .load ⟨true, [.int .u8, .int .u8, .int .u8, .int .u8, .int .u8, .int .u8, .int .u8, .int .u8, .int .u8, .int .u8, .int .u8, .int .u8, .int .u8, .int .u8, .int .u8, .int .u8, .int .u8, .int .u8, .int .u8, .int .u8, .int .u8, .int .u8, .int .u8, .int .u8, .int .u8, .int .u8, .int .u8, .int .u8, .int .u8, .int .u8, .int .u8, .int .u8]⟩, [(.t 75)], [9, 8], some (74, false)⟩,
    ⟨some 77, .mv, [(.t 0)], [8], some (74, false)⟩,
    ⟨some 78, .mv, [(.t 7)], [8], some (74, false)⟩,
    ⟨some 79, .idxA 47, [(.t 77), (.t 78)], [11, 12, 8], some (74, false)⟩,
    ⟨some 80, .fld 2, [(.t 79)], [13, 8], some (74, false)⟩,
    ⟨some 81, .load ⟨true, [.int .u8, .int .u8, .int .u8, .int .u8, .int .u8, .int .u8, .int .u8, .int .u8, .int .u8, .int .u8, .int .u8, .int .u8, .int .u8, .int .u8, .int .u8, .int .u8, .int .u8, .int .u8, .int .u8, .int .u8, .int .u8, .int .u8, .int .u8, .int .u8, .int .u8, .int .u8, .int .u8, .int .u8, .int .u8, .int .u8, .int .u8, .int .u8]⟩, [(.t 80)], [14, 8], some (74, false)⟩,
    ⟨some 82, .eqv false ⟨true, [.int .u8, .int .u8, .int .u8, .int .u8, .int .u8, .int .u8, .int .u8, .int .u8, .int .u8, .int .u8, .int .u8, .int .u8, .int .u8, .int .u8, .int .u8, .int .u8, .int .u8, .int .u8, .int .u8, .int .u8, .int .u8, .int .u8, .int .u8, .int .u8, .int .u8, .int .u8, .int .u8, .int .u8, .int .u8, .int .u8, .int .u8, .int .u8]⟩, [(.t 76), (.t 81)], [10, 15, 8], some (74, false)⟩,
    ⟨some 83, .pick, [(.t 74), (.c (D.bool true)), (.t 82)], [8, 16], none⟩,
    ⟨some 65, .mv, [(.t 83)], [17, 8], none⟩])
  (.cond (.t 65) (.seq (.region false [
    ⟨some 6, .mv, [(.c (D.int .u8 5))], [], none⟩])
  (.ret)) (.seq (.region true [
    ⟨some 85, .fld 34, [(.t 4)], [], none⟩,
    ⟨some 86, .fld 0, [(.t 85)], [0], none⟩,
    ⟨some 87, .load ⟨false, [.int .i64]⟩, [(.t 86)], [1], none⟩,
    ⟨some 88, .mv, [(.t 0)], [], none⟩,
    ⟨some 89, .mv, [(.t 7)], [], none⟩,
    ⟨some 90, .idxA 47, [(.t 88), (.t 89)], [3, 4], none⟩,
    ⟨some 91, .fld 34, [(.t 90)], [5], none⟩,
    ⟨some 92, .fld 0, [(.t 91)], [6], none⟩,
    ⟨some 93, .load ⟨false, [.int .i64]⟩, [(.t 92)], [7], none⟩,
    ⟨some 94, .bin .lss, [(.t 87), (.t 93)], [2, 8], none⟩,
    ⟨some 84, .mv, [(.t 94)], [9], none⟩])
  (.cond (.t 84) (.seq (.region false [
    ⟨some 6, .mv, [(.c (D.int .u8 8))], [], none⟩])
  (.ret)) (.skip))))))))))))))))
  (.seq (.region false [
    ⟨some 6, .mv, [(.c (D.int .u8 3))], [], none⟩])
  (.ret))))⟩

/- 23: gatepath/gatepathref29.Look -/
def c_gatepathref29_Look : DFun := ⟨80, 14, [.p, .p, .p], [.o 47, .p ⟨false, [.int .u8]⟩, .p ⟨false, [.int .i64]⟩], [.t 6, .t 7, .t 8],
  .seq (.region false [
    ⟨some 4, .box 3, [(.t 1)], [], none⟩,
    ⟨some 6, .mv, [(.c (D.zs 47 true))], [], none⟩,
    ⟨some 7, .mv, [(.c (D.int .u8 0))], [1], none⟩,
    ⟨some 8, .mv, [(.c (D.int .i64 0))], [2], none⟩])
  (.seq (.region false [
    ⟨some 11, .mv, [(.t 0)], [], none⟩,
    ⟨some 12, .call [6], [(.c (D.fn 20 [])), (.t 11)], [0], none⟩,
    ⟨some 9, .mv, [(.t 12)], [1, 1, 0, 1], none⟩])
  (.seq (.seq (.region false [
    ⟨some 13, .mv, [(.t 9)], [], none⟩,
    ⟨some 14, .bin .eql, [(.t 13), (.c (D.int .i64 0))], [0], none⟩,
    ⟨some 15, .mv, [(.t 14)], [1], none⟩,
    ⟨some 16, .mv, [(.t 2)], [2], some (15, true)⟩,
    ⟨some 17, .call [7], [(.c (D.fn 26 [])), (.t 16)], [3, 2, 2], some (15, true)⟩,
    ⟨some 18, .not, [(.t 17)], [4, 2], some (15, true)⟩,
    ⟨some 19, .mv, [(.t 18)], [5, 4, 2], some (15, true)⟩,
    ⟨some 20, .load ⟨true, [.str, .int .u64, .int .u8, .int .u8, .int .u8, .int .u8, .int .u8, .int .u8, .int .u8, .int .u8, .int .u8, .int .u8, .int .u8, .int .u8, .int .u8, .int .u8, .int .u8, .int .u8, .int .u8, .int .u8, .int .u8, .int .u8, .int .u8, .int .u8, .int .u8, .int .u8, .int .u8, .int .u8, .int .u8, .int .u8, .int .u8, .int .u8, .int .u8, .int .u8, .int .i64, .int .i64, .int .i64]⟩, [(.t 4)], [6], some (19, false)⟩,
    ⟨some 21, .call [8], [(.c (D.fn 41 [])), (.t 20)], [7, 6, 6], some (19, false)⟩,
    ⟨some 22, .not, [(.t 21)], [8, 6], some (19, false)⟩,
    ⟨some 23, .pick, [(.t 19), (.c (D.bool true)), (.t 22)], [6, 9, 2], some (15, true)⟩,
    ⟨some 24, .mv, [(.t 23)], [10, 8, 2], some (15, true)⟩,
    ⟨some 25, .fld 36, [(.t 4)], [11], some (24, false)⟩,
    ⟨some 26, .load ⟨false, [.int .i64]⟩, [(.t 25)], [12, 11], some (24, false)⟩,
    ⟨some 27, .mv, [(.t 2)], [11], some (24, false)⟩,
    ⟨some 28, .bin .neq, [(.t 26), (.t 27)], [13, 14, 11], some (24, false)⟩,
    ⟨some 29, .pick, [(.t 24), (.c (D.bool true)), (.t 28)], [11, 15, 2], some (15, true)⟩,
    ⟨some 30, .pick, [(.t 15), (.t 29), (.c (D.bool false))], [2, 16], none⟩])
  (.cond (.t 30) (.region false [
    ⟨some 9, .mv, [(.c (D.int .i64 2))], [], none⟩]) (.skip)))
  (.seq (.seq (.region false [
    ⟨some 31, .mv, [(.t 9)], [], none⟩,
    ⟨some 32, .bin .eql, [(.t 31), (.c (D.int .i64 0))], [0], none⟩,
    ⟨some 33, .mv, [(.t 32)], [1], none⟩,
    ⟨some 34, .mv, [(.t 0)], [2], some (33, true)⟩,
    ⟨some 35, .fld 0, [(.t 4)], [2], some (33, true)⟩,
    ⟨some 36, .load ⟨false, [.str]⟩, [(.t 35)], [4, 2], some (33, true)⟩,
    ⟨some 37, .call [9], [(.c (D.fn 33 [])), (.t 34), (.t 36)], [3, 5, 2, 2], some (33, true)⟩,
    ⟨some 38, .bin .geq, [(.t 37), (.c (D.int .i64 0))], [6, 2], some (33, true)⟩,
    ⟨some 39, .pick, [(.t 33), (.t 38), (.c (D.bool false))], [2, 7], none⟩,
    ⟨some 40, .mv, [(.t 39)], [8, 6], none⟩,
    ⟨some 41, .mv, [(.t 0)], [9], some (40, true)⟩,
    ⟨some 42, .mv, [(.t 0)], [9], some (40, true)⟩,
    ⟨some 43, .fld 0, [(.t 4)], [9], some (40, true)⟩,
    ⟨some 44, .load ⟨false, [.str]⟩, [(.t 43)], [12, 9], some (40, true)⟩,
    ⟨some 45, .call [10], [(.c (D.fn 33 [])), (.t 42), (.t 44)], [11, 13, 9, 9], some (40, true)⟩,
    ⟨some 46, .idxA 47, [(.t 41), (.t 45)], [10, 14, 9], some (40, true)⟩,
    ⟨some 47, .fld 36, [(.t 46)], [15, 9], some (40, true)⟩,
    ⟨some 48, .load ⟨false, [.int .i64]⟩, [(.t 47)], [16, 9], some (40, true)⟩,
    ⟨some 49, .mv, [(.t 2)], [9], some (40, true)⟩,
    ⟨some 50, .bin .gtr, [(.t 48), (.t 49)], [17, 18, 9], some (40, true)⟩,
    ⟨some 51, .pick, [(.t 40), (.t 50), (.c (D.bool false))], [9, 19], none⟩])
  (.cond (.t 51) (.region false [
    ⟨some 9, .mv, [(.c (D.int .i64 30))], [], none⟩]) (.skip)))
  (.seq (.seq (.region false [
    ⟨some 52, .mv, [(.t 9)], [], none⟩,
    ⟨some 53, .bin .neq, [(.t 52), (.c (D.int .i64 0))], [0], none⟩])
  (.cond (.t 53) (.seq (.region false [
    ⟨some 54, .mv, [(.t 9)], [], none⟩,
    ⟨some 6, .mv, [(.c (D.zs 47 true))], [], none⟩,
    ⟨some 7, .mv, [(.c (D.int .u8 0))], [1, 1], none⟩,
    ⟨some 8, .mv, [(.t 54)], [0, 2, 0, 1, 2], none⟩])
  (.ret)) (.skip)))
  (.seq (.region false [
    ⟨some 55, .mv, [(.t 0)], [], none⟩,
    ⟨some 56, .load ⟨true, [.str, .int .u64, .int .u8, .int .u8, .int .u8, .int .u8, .int .u8, .int .u8, .int .u8, .int .u8, .int .u8, .int .u8, .int .u8, .int .u8, .int .u8, .int .u8, .int .u8, .int .u8, .int .u8, .int .u8, .int .u8, .int .u8, .int .u8, .int .u8, .int .u8, .int .u8, .int .u8, .int .u8, .int .u8, .int .u8, .int .u8, .int .u8, .int .u8, .int .u8, .int .i64, .int .i64, .int .i64]⟩, [(.t 4)], [], none⟩,
    ⟨some 57, .mv, [(.t 2)], [], none⟩,
    ⟨some 58, .call [11], [(.c (D.fn 44 [])), (.t 55), (.t 56), (.t 57)], [0, 1, 2], none⟩,
    ⟨some 10, .mv, [(.t 58)], [3, 3, 0, 1, 2, 3], none⟩])
  (.seq (.seq (.region false [
    ⟨some 59, .mv, [(.t 10)], [], none⟩])
  (.block 0 (.seq (.region false [
    ⟨some 61, .bin .eql, [(.t 59), (.c (D.int .u8 1))], [], none⟩,
    ⟨some 60, .mv, [(.t 61)], [0], none⟩])
  (.cond (.t 60) (.seq (.seq (.region false [
    ⟨some 62, .mv, [(.t 0)], [], none⟩,
    ⟨some 63, .len, [(.t 62)], [0], none⟩,
    ⟨some 64, .bin .eql, [(.t 63), (.c (D.int .i64 200))], [1], none⟩])
  (.cond (.t 64) (.seq (.region false [
    ⟨some 6, .mv, [(.c (D.zs 47 true))], [], none⟩,
    ⟨some 7, .mv, [(.c (D.int .u8 0))], [0, 0], none⟩,
    ⟨some 8, .mv, [(.c (D.int .i64 16))], [1, 0, 1], none⟩])
  (.ret)) (.skip)))
  (.seq (.region false [
    ⟨some 65, .mv, [(.t 0)], [], none⟩,
    ⟨some 66, .load ⟨true, [.str, .int .u64, .int .u8, .int .u8, .int .u8, .int .u8, .int .u8, .int .u8, .int .u8, .int .u8, .int .u8, .int .u8, .int .u8, .int .u8, .int .u8, .int .u8, .int .u8, .int .u8, .int .u8, .int .u8, .int .u8, .int .u8, .int .u8, .int .u8, .int .u8, .int .u8, .int .u8, .int .u8, .int .u8, .int .u8, .int .u8, .int .u8, .int .u8, .int .u8, .int .i64, .int .i64, .int .i64]⟩, [(.t 4)], [], none⟩,
    ⟨some 67, .call [12], [(.c (D.fn 34 [])), (.t 65), (.t 66)], [0, 1], none⟩,
    ⟨some 68, .mv, [(.t 10)], [], none⟩,
    ⟨some 6, .mv, [(.t 67)], [2, 2, 0, 1, 2], none⟩,
    ⟨some 7, .mv, [(.t 68)], [3, 4, 0, 1, 2, 3, 4], none⟩,
    ⟨some 8, .mv, [(.c (D.int .i64 0))], [5, 0, 1, 2, 3, 4, 5], none⟩])
  (.ret))) (.seq (.seq (.region false [
    ⟨some 70, .bin .eql, [(.t 59), (.c (D.int .u8 2))], [], none⟩,
    ⟨some 69, .mv, [(.t 70)], [0], none⟩])
  (.cond (.t 69) (.skip) (.region false [
    ⟨some 71, .bin .eql, [(.t 59), (.c (D.int .u8 3))], [], none⟩,
    ⟨some 69, .mv, [(.t 71)], [0], none⟩])))
  (.cond (.t 69) (.seq (.region false [
    ⟨some 72, .mv, [(.t 0)], [], none⟩,
    ⟨some 73, .load ⟨true, [.str, .int .u64, .int .u8, .int .u8, .int .u8, .int .u8, .int .u8, .int .u8, .int .u8, .int .u8, .int .u8, .int .u8, .int .u8, .int .u8, .int .u8, .int .u8, .int .u8, .int .u8, .int .u8, .int .u8, .int .u8, .int .u8, .int .u8, .int .u8, .int .u8, .int .u8, .int .u8, .int .u8, .int .u8, .int .u8, .int .u8, .int .u8, .int .u8, .int .u8, .int .i64, .int .i64, .int .i64]⟩, [(.t 4)], [], none⟩,
    ⟨some 74, .call [13], [(.c (D.fn 34 [])), (.t 72), (.t 73)], [0, 1], none⟩,
    ⟨some 75, .mv, [(.t 10)], [], none⟩,
    ⟨some 6, .mv, [(.t 74)], [2, 2, 0, 1, 2], none⟩,
    ⟨some 7, .mv, [(.t 75)], [3, 4, 0, 1, 2, 3, 4], none⟩,
    ⟨some 8, .mv, [(.c (D.int .i64 0))], [5, 0, 1, 2, 3, 4, 5], none⟩])
  (.ret)) (.skip)))))))
  (.seq (.region false [
    ⟨some 76, .buildSl 4 47, [], [], none⟩,
    ⟨some 77, .mv, [(.t 0)], [], none⟩,
    ⟨some 78, .append 5 47 80, [(.t 76), (.t 77)], [0, 1], none⟩,
    ⟨some 79, .mv, [(.t 10)], [], none⟩,
    ⟨some 6, .mv, [(.t 78)], [2, 2, 0, 1, 2], none⟩,
    ⟨some 7, .mv, [(.t 79)], [3, 4, 0, 1, 2, 3, 4], none⟩,
    ⟨some 8, .mv, [(.c (D.int .i64 0))], [5, 0, 1, 2, 3, 4, 5], none⟩])
  (.ret))))))))⟩

/- 5: gatepath/gatepathlaw29.FreshLooks -/
def c_gatepathlaw29_FreshLooks : DFun := ⟨76, 15, [.p, .p, .p], [.p ⟨false, [.bool]⟩], [.t 6],
  .seq (.region false [
    ⟨some 4, .box 3, [(.t 1)], [], none⟩,
    ⟨some 6, .mv, [(.c (D.bool false))], [], none⟩])
  (.seq (.seq (.region false [
    ⟨some 16, .mv, [(.t 0)], [], none⟩,
    ⟨some 17, .call [6], [(.c (D.fn 11 [])), (.t 16)], [0], none⟩,
    ⟨some 18, .mv, [(.t 17)], [1, 1], none⟩,
    ⟨some 19, .fld 0, [(.t 4)], [2], some (18, false)⟩,
    ⟨some 20, .load ⟨false, [.str]⟩, [(.t 19)], [3, 2], some (18, false)⟩,
    ⟨some 21, .lenS, [(.t 20)], [4, 2], some (18, false)⟩,
    ⟨some 22, .bin .gtr, [(.t 21), (.c (D.int .i64 300))], [5, 2], some (18, false)⟩,
    ⟨some 23, .pick, [(.t 18), (.c (D.bool true)), (.t 22)], [2, 6], none⟩])
  (.cond (.t 23) (.seq (.region false [
    ⟨some 6, .mv, [(.c (D.bool true))], [], none⟩])
  (.ret)) (.skip)))
  (.seq (.region false [
    ⟨some 24, .buildSl 4 47, [], [], none⟩,
    ⟨some 25, .mv, [(.t 0)], [], none⟩,
    ⟨some 26, .append 5 47 80, [(.t 24), (.t 25)], [0, 1], none⟩,
    ⟨some 7, .mv, [(.t 26)], [2, 2, 0, 1, 2], none⟩])
  (.seq (.region false [
    ⟨some 28, .mv, [(.t 0)], [], none⟩,
    ⟨some 29, .load ⟨true, [.str, .int .u64, .int .u8, .int .u8, .int .u8, .int .u8, .int .u8, .int .u8, .int .u8, .int .u8, .int .u8, .int .u8, .int .u8, .int .u8, .int .u8, .int .u8, .int .u8, .int .u8, .int .u8, .int .u8, .int .u8, .int .u8, .int .u8, .int .u8, .int .u8, .int .u8, .int .u8, .int .u8, .int .u8, .int .u8, .int .u8, .int .u8, .int .u8, .int .u8, .int .i64, .int .i64, .int .i64]⟩, [(.t 4)], [], none⟩,
    ⟨some 30, .mv, [(.t 2)], [], none⟩,
    ⟨some 31, .call [7, 8, 9], [(.c (D.fn 22 [])), (.t 28), (.t 29), (.t 30)], [0, 1, 2], none⟩,
    ⟨some 27, .mv, [(.t 31)], [3], none⟩,
    ⟨some 32, .ext 0, [(.t 27)], [4], none⟩,
    ⟨some 33, .ext 1, [(.t 27)], [4], none⟩,
    ⟨some 34, .ext 2, [(.t 27)], [4], none⟩,
    ⟨some 8, .mv, [(.t 32)], [5, 3, 0, 1, 2, 3, 4, 5], none⟩,
    ⟨some 9, .mv, [(.t 33)], [6, 8, 0, 1, 2, 3, 4, 5, 6, 8], none⟩,
    ⟨some 10, .mv, [(.t 34)], [7, 9, 0, 1, 2, 3, 4, 5, 6, 7, 8, 9], none⟩])
  (.seq (.region false [
    ⟨some 36, .mv, [(.t 0)], [], none⟩,
    ⟨some 37, .load ⟨true, [.str, .int .u64, .int .u8, .int .u8, .int .u8, .int .u8, .int .u8, .int .u8, .int .u8, .int .u8, .int .u8, .int .u8, .int .u8, .int .u8, .int .u8, .int .u8, .int .u8, .int .u8, .int .u8, .int .u8, .int .u8, .int .u8, .int .u8, .int .u8, .int .u8, .int .u8, .int .u8, .int .u8, .int .u8, .int .u8, .int .u8, .int .u8, .int .u8, .int .u8, .int .i64, .int .i64, .int .i64]⟩, [(.t 4)], [], none⟩,
    ⟨some 38, .mv, [(.t 2)], [], none⟩,
    ⟨some 39, .call [10, 11, 12], [(.c (D.fn 23 [])), (.t 36), (.t 37), (.t 38)], [0, 1, 2], none⟩,
    ⟨some 35, .mv, [(.t 39)], [3], none⟩,
    ⟨some 40, .ext 0, [(.t 35)], [4], none⟩,
    ⟨some 41, .ext 1, [(.t 35)], [4], none⟩,
    ⟨some 42, .ext 2, [(.t 35)], [4], none⟩,
    ⟨some 11, .mv, [(.t 40)], [5, 3, 0, 1, 2, 3, 4, 5], none⟩,
    ⟨some 12, .mv, [(.t 41)], [6, 8, 0, 1, 2, 3, 4, 5, 6, 8], none⟩,
    ⟨some 13, .mv, [(.t 42)], [7, 9, 0, 1, 2, 3, 4, 5, 6, 7, 8, 9], none⟩])
  (.seq (.region false [
    ⟨some 43, .mv, [(.t 8)], [], none⟩,
    ⟨some 44, .mv, [(.t 11)], [], none⟩,
    ⟨some 45, .call [13], [(.c (D.fn 14 [])), (.t 43), (.t 44)], [0, 1], none⟩,
    ⟨some 46, .mv, [(.t 45)], [2, 2], none⟩,
    ⟨some 47, .mv, [(.t 9)], [3], some (46, true)⟩,
    ⟨some 48, .mv, [(.t 12)], [3], some (46, true)⟩,
    ⟨some 49, .bin .eql, [(.t 47), (.t 48)], [4, 5, 3], some (46, true)⟩,
    ⟨some 50, .pick, [(.t 46), (.t 49), (.c (D.bool false))], [3, 6], none⟩,
    ⟨some 51, .mv, [(.t 50)], [7, 3], none⟩,
    ⟨some 52, .mv, [(.t 10)], [8], some (51, true)⟩,
    ⟨some 53, .mv, [(.t 13)], [8], some (51, true)⟩,
    ⟨some 54, .bin .eql, [(.t 52), (.t 53)], [9, 10, 8], some (51, true)⟩,
    ⟨some 55, .pick, [(.t 51), (.t 54), (.c (D.bool false))], [8, 11], none⟩,
    ⟨some 14, .mv, [(.t 55)], [12, 8, 0, 1, 2, 3, 4, 5, 6, 7, 8, 9, 10, 11, 12], none⟩])
  (.seq (.seq (.region false [
    ⟨some 15, .mv, [(.c (D.int .i64 0))], [], none⟩])
  (.block 0 (.loop ⟨[0, 7, 8, 14], [(15, .p ⟨false, [.int .i64]⟩)], [(5, .a 47), (7, .a 47)]⟩ (.seq (.seq (.region false [
    ⟨some 56, .mv, [(.t 15)], [], none⟩,
    ⟨some 57, .mv, [(.t 8)], [], none⟩,
    ⟨some 58, .len, [(.t 57)], [1], none⟩,
    ⟨some 59, .bin .lss, [(.t 56), (.t 58)], [0, 2], none⟩])
  (.cond (.t 59) (.skip) (.exit 0)))
  (.seq (.block 1 (.region false [
    ⟨some 62, .mv, [(.t 8)], [], none⟩,
    ⟨some 63, .mv, [(.t 15)], [], none⟩,
    ⟨some 64, .idxA 47, [(.t 62), (.t 63)], [0, 1], none⟩,
    ⟨some 65, .fld 1, [(.t 64)], [2], none⟩,
    ⟨some 66, .load ⟨false, [.int .u64]⟩, [(.t 65)], [3], none⟩,
    ⟨some 67, .bin .add, [(.t 66), (.c (D.int .u64 1))], [4], none⟩,
    ⟨some 68, .idxA 47, [(.t 62), (.t 63)], [0, 1, 0, 1, 2, 3, 4, 5], none⟩,
    ⟨some 69, .fld 1, [(.t 68)], [6, 0, 1, 2, 3, 4, 5], none⟩,
    ⟨none, .store ⟨false, [.int .u64]⟩, [(.t 69), (.t 67)], [7, 5, 0, 1, 2, 3, 4, 5], none⟩]))
  (.region false [
    ⟨some 60, .mv, [(.t 15)], [], none⟩,
    ⟨some 61, .bin .add, [(.t 60), (.c (D.int .i64 1))], [0], none⟩,
    ⟨some 15, .mv, [(.t 61)], [1, 0, 1], none⟩]))))))
  (.seq (.region false [
    ⟨some 70, .mv, [(.t 14)], [], none⟩,
    ⟨some 71, .mv, [(.t 70)], [0], none⟩,
    ⟨some 72, .mv, [(.t 0)], [1], some (71, true)⟩,
    ⟨some 73, .mv, [(.t 7)], [1], some (71, true)⟩,
    ⟨some 74, .call [14], [(.c (D.fn 14 [])), (.t 72), (.t 73)], [2, 3, 1, 1], some (71, true)⟩,
    ⟨some 75, .pick, [(.t 71), (.t 74), (.c (D.bool false))], [1, 4], none⟩,
    ⟨some 6, .mv, [(.t 75)], [5, 4, 0, 1, 2, 3, 4, 5], none⟩])
  (.ret))))))))⟩

/- 27: gatepath/gatepathlaw29.look -/
def c_gatepathlaw29_look : DFun := ⟨28, 7, [.p, .p, .p], [.o 47, .p ⟨false, [.bool]⟩], [.t 6, .t 7],
  .seq (.region false [
    ⟨some 4, .box 3, [(.t 1)], [], none⟩,
    ⟨some 6, .mv, [(.c (D.zs 47 true))], [], none⟩,
    ⟨some 7, .mv, [(.c (D.bool false))], [1], none⟩])
  (.seq (.region false [
    ⟨some 12, .mv, [(.t 0)], [], none⟩,
    ⟨some 13, .load ⟨true, [.str, .int .u64, .int .u8, .int .u8, .int .u8, .int .u8, .int .u8, .int .u8, .int .u8, .int .u8, .int .u8, .int .u8, .int .u8, .int .u8, .int .u8, .int .u8, .int .u8, .int .u8, .int .u8, .int .u8, .int .u8, .int .u8, .int .u8, .int .u8, .int .u8, .int .u8, .int .u8, .int .u8, .int .u8, .int .u8, .int .u8, .int .u8, .int .u8, .int .u8, .int .i64, .int .i64, .int .i64]⟩, [(.t 4)], [], none⟩,
    ⟨some 14, .fld 36, [(.t 4)], [], none⟩,
    ⟨some 15, .load ⟨false, [.int .i64]⟩, [(.t 14)], [2], none⟩,
    ⟨some 16, .call [4, 5, 6], [(.c (D.fn 22 [])), (.t 12), (.t 13), (.t 15)], [0, 1, 3], none⟩,
    ⟨some 11, .mv, [(.t 16)], [4], none⟩,
    ⟨some 17, .ext 0, [(.t 11)], [5], none⟩,
    ⟨some 18, .ext 1, [(.t 11)], [5], none⟩,
    ⟨some 19, .ext 2, [(.t 11)], [5], none⟩,
    ⟨some 8, .mv, [(.t 17)], [6, 4, 0, 1, 2, 3, 4, 5, 6], none⟩,
    ⟨some 9, .mv, [(.t 18)], [7, 9, 0, 1, 2, 3, 4, 5, 6, 7, 9], none⟩,
    ⟨some 10, .mv, [(.t 19)], [8, 10, 0, 1, 2, 3, 4, 5, 6, 7, 8, 9, 10], none⟩])
  (.seq (.region false [
    ⟨some 20, .mv, [(.t 8)], [], none⟩,
    ⟨some 21, .mv, [(.t 10)], [], none⟩,
    ⟨some 22, .bin .eql, [(.t 21), (.c (D.int .i64 0))], [1], none⟩,
    ⟨some 23, .mv, [(.t 22)], [2], none⟩,
    ⟨some 24, .mv, [(.t 9)], [3], some (23, true)⟩,
    ⟨some 25, .mv, [(.t 2)], [3], some (23, true)⟩,
    ⟨some 26, .bin .eql, [(.t 24), (.t 25)], [4, 5, 3], some (23, true)⟩,
    ⟨some 27, .pick, [(.t 23), (.t 26), (.c (D.bool false))], [3, 6], none⟩,
    ⟨some 6, .mv, [(.t 20)], [0, 3, 0], none⟩,
    ⟨some 7, .mv, [(.t 27)], [7, 8, 0, 1, 2, 3, 4, 5, 6, 7, 8], none⟩])
  (.ret)))⟩

/- 28: gatepath/gatepathlaw29.manifest -/
def c_gatepathlaw29_manifest : DFun := ⟨22, 7, [.p, .p, .p, .p, .p, .p], [.p ⟨true, [.str, .int .u64, .int .u8, .int .u8, .int .u8, .int .u8, .int .u8, .int .u8, .int .u8, .int .u8, .int .u8, .int .u8, .int .u8, .int .u8, .int .u8, .int .u8, .int .u8, .int .u8, .int .u8, .int .u8, .int .u8, .int .u8, .int .u8, .int .u8, .int .u8, .int .u8, .int .u8, .int .u8, .int .u8, .int .u8, .int .u8, .int .u8, .int .u8, .int .u8, .int .i64, .int .i64, .int .i64]⟩], [.c 12],
  .seq (.region false [
    ⟨some 12, .alloc 6 [(D.str ⟨#[]⟩), (D.int .u64 0), (D.int .u8 0), (D.int .u8 0), (D.int .u8 0), (D.int .u8 0), (D.int .u8 0), (D.int .u8 0), (D.int .u8 0), (D.int .u8 0), (D.int .u8 0), (D.int .u8 0), (D.int .u8 0), (D.int .u8 0), (D.int .u8 0), (D.int .u8 0), (D.int .u8 0), (D.int .u8 0), (D.int .u8 0), (D.int .u8 0), (D.int .u8 0), (D.int .u8 0), (D.int .u8 0), (D.int .u8 0), (D.int .u8 0), (D.int .u8 0), (D.int .u8 0), (D.int .u8 0), (D.int .u8 0), (D.int .u8 0), (D.int .u8 0), (D.int .u8 0), (D.int .u8 0), (D.int .u8 0), (D.int .i64 0), (D.int .i64 0), (D.int .i64 0)], [], [], none⟩])
  (.seq (.region false [
    ⟨some 13, .mv, [(.t 0)], [], none⟩,
    ⟨some 14, .mv, [(.t 1)], [], none⟩,
    ⟨some 15, .mv, [(.t 2)], [], none⟩,
    ⟨some 16, .build [(D.int .u8 0), (D.int .u8 0), (D.int .u8 0), (D.int .u8 0), (D.int .u8 0), (D.int .u8 0), (D.int .u8 0), (D.int .u8 0), (D.int .u8 0), (D.int .u8 0), (D.int .u8 0), (D.int .u8 0), (D.int .u8 0), (D.int .u8 0), (D.int .u8 0), (D.int .u8 0), (D.int .u8 0), (D.int .u8 0), (D.int .u8 0), (D.int .u8 0), (D.int .u8 0), (D.int .u8 0), (D.int .u8 0), (D.int .u8 0), (D.int .u8 0), (D.int .u8 0), (D.int .u8 0), (D.int .u8 0), (D.int .u8 0), (D.int .u8 0), (D.int .u8 0), (D.int .u8 0)] [(0, 1)], [(.t 15)], [2], none⟩,
    ⟨some 17, .mv, [(.t 3)], [], none⟩,
    ⟨some 18, .mv, [(.t 4)], [], none⟩,
    ⟨some 19, .build [(D.int .i64 0), (D.int .i64 0)] [(0, 1), (1, 1)], [(.t 17), (.t 18)], [4, 5], none⟩,
    ⟨some 20, .mv, [(.t 5)], [], none⟩,
    ⟨some 21, .build [(D.str ⟨#[]⟩), (D.int .u64 0), (D.int .u8 0), (D.int .u8 0), (D.int .u8 0), (D.int .u8 0), (D.int .u8 0), (D.int .u8 0), (D.int .u8 0), (D.int .u8 0), (D.int .u8 0), (D.int .u8 0), (D.int .u8 0), (D.int .u8 0), (D.int .u8 0), (D.int .u8 0), (D.int .u8 0), (D.int .u8 0), (D.int .u8 0), (D.int .u8 0), (D.int .u8 0), (D.int .u8 0), (D.int .u8 0), (D.int .u8 0), (D.int .u8 0), (D.int .u8 0), (D.int .u8 0), (D.int .u8 0), (D.int .u8 0), (D.int .u8 0), (D.int .u8 0), (D.int .u8 0), (D.int .u8 0), (D.int .u8 0), (D.int .i64 0), (D.int .i64 0), (D.int .i64 0)] [(0, 1), (1, 1), (2, 32), (34, 2), (36, 1)], [(.t 13), (.t 14), (.t 16), (.t 19), (.t 20)], [0, 1, 3, 6, 7], none⟩,
    ⟨none, .store ⟨true, [.str, .int .u64, .int .u8, .int .u8, .int .u8, .int .u8, .int .u8, .int .u8, .int .u8, .int .u8, .int .u8, .int .u8, .int .u8, .int .u8, .int .u8, .int .u8, .int .u8, .int .u8, .int .u8, .int .u8, .int .u8, .int .u8, .int .u8, .int .u8, .int .u8, .int .u8, .int .u8, .int .u8, .int .u8, .int .u8, .int .u8, .int .u8, .int .u8, .int .u8, .int .i64, .int .i64, .int .i64]⟩, [(.t 12), (.t 21)], [8, 0, 1, 2, 3, 4, 5, 6, 7, 8], none⟩])
  (.ret))⟩

/- 24: gatepath/gatepathlaw29.alive -/
def c_gatepathlaw29_alive : DFun := ⟨113, 22, [], [.p ⟨false, [.bool]⟩], [.t 0],
  .seq (.region false [
    ⟨some 0, .mv, [(.c (D.bool false))], [], none⟩])
  (.seq (.region false [
    ⟨some 16, .call [0], [(.c (D.fn 28 [])), (.c (D.str (⟨#[114, 115, 121, 110, 99, 58, 47, 47, 97, 47]⟩ : ByteArray))), (.c (D.int .u64 5)), (.c (D.int .u8 1)), (.c (D.int .i64 100)), (.c (D.int .i64 200)), (.c (D.int .i64 150))], [], none⟩,
    ⟨some 17, .call [1, 2], [(.c (D.fn 27 [])), (.c (D.zs 47 true)), (.t 16), (.c (D.int .u8 1))], [0, 0], none⟩,
    ⟨some 15, .mv, [(.t 17)], [1], none⟩,
    ⟨some 18, .ext 0, [(.t 15)], [2], none⟩,
    ⟨some 19, .ext 1, [(.t 15)], [2], none⟩,
    ⟨some 1, .mv, [(.t 18)], [3, 1, 0, 1, 2, 3], none⟩,
    ⟨some 2, .mv, [(.t 19)], [4, 5, 0, 1, 2, 3, 4, 5], none⟩])
  (.seq (.region false [
    ⟨some 21, .mv, [(.t 1)], [], none⟩,
    ⟨some 22, .call [3], [(.c (D.fn 28 [])), (.c (D.str (⟨#[114, 115, 121, 110, 99, 58, 47, 47, 97, 47]⟩ : ByteArray))), (.c (D.int .u64 4)), (.c (D.int .u8 2)), (.c (D.int .i64 100)), (.c (D.int .i64 200)), (.c (D.int .i64 160))], [], none⟩,
    ⟨some 23, .call [4, 5], [(.c (D.fn 27 [])), (.t 21), (.t 22), (.c (D.int .u8 4))], [0, 1, 1], none⟩,
    ⟨some 20, .mv, [(.t 23)], [2], none⟩,
    ⟨some 24, .ext 0, [(.t 20)], [3], none⟩,
    ⟨some 25, .ext 1, [(.t 20)], [3], none⟩,
    ⟨some 3, .mv, [(.t 24)], [4, 2, 0, 1, 2, 3, 4], none⟩,
    ⟨some 4, .mv, [(.t 25)], [5, 6, 0, 1, 2, 3, 4, 5, 6], none⟩])
  (.seq (.region false [
    ⟨some 27, .mv, [(.t 3)], [], none⟩,
    ⟨some 28, .call [6], [(.c (D.fn 28 [])), (.c (D.str (⟨#[114, 115, 121, 110, 99, 58, 47, 47, 97, 47]⟩ : ByteArray))), (.c (D.int .u64 6)), (.c (D.int .u8 3)), (.c (D.int .i64 140)), (.c (D.int .i64 240)), (.c (D.int .i64 170))], [], none⟩,
    ⟨some 29, .call [7, 8], [(.c (D.fn 27 [])), (.t 27), (.t 28), (.c (D.int .u8 3))], [0, 1, 1], none⟩,
    ⟨some 26, .mv, [(.t 29)], [2], none⟩,
    ⟨some 30, .ext 0, [(.t 26)], [3], none⟩,
    ⟨some 31, .ext 1, [(.t 26)], [3], none⟩,
    ⟨some 5, .mv, [(.t 30)], [4, 2, 0, 1, 2, 3, 4], none⟩,
    ⟨some 6, .mv, [(.t 31)], [5, 6, 0, 1, 2, 3, 4, 5, 6], none⟩])
  (.seq (.region false [
    ⟨some 33, .mv, [(.t 5)], [], none⟩,
    ⟨some 34, .call [9], [(.c (D.fn 28 [])), (.c (D.str (⟨#[114, 115, 121, 110, 99, 58, 47, 47, 97, 47]⟩ : ByteArray))), (.c (D.int .u64 6)), (.c (D.int .u8 4)), (.c (D.int .i64 140)), (.c (D.int .i64 240)), (.c (D.int .i64 180))], [], none⟩,
    ⟨some 35, .call [10, 11], [(.c (D.fn 27 [])), (.t 33), (.t 34), (.c (D.int .u8 5))], [0, 1, 1], none⟩,
    ⟨some 32, .mv, [(.t 35)], [2], none⟩,
    ⟨some 36, .ext 0, [(.t 32)], [3], none⟩,
    ⟨some 37, .ext 1, [(.t 32)], [3], none⟩,
    ⟨some 7, .mv, [(.t 36)], [4, 2, 0, 1, 2, 3, 4], none⟩,
    ⟨some 8, .mv, [(.t 37)], [5, 6, 0, 1, 2, 3, 4, 5, 6], none⟩])
  (.seq (.region false [
    ⟨some 39, .mv, [(.t 7)], [], none⟩,
    ⟨some 40, .call [12], [(.c (D.fn 28 [])), (.c (D.str (⟨#[114, 115, 121, 110, 99, 58, 47, 47, 97, 47]⟩ : ByteArray))), (.c (D.int .u64 6)), (.c (D.int .u8 3)), (.c (D.int .i64 140)), (.c (D.int .i64 240)), (.c (D.int .i64 250))], [], none⟩,
    ⟨some 41, .call [13, 14], [(.c (D.fn 27 [])), (.t 39), (.t 40), (.c (D.int .u8 6))], [0, 1, 1], none⟩,
    ⟨some 38, .mv, [(.t 41)], [2], none⟩,
    ⟨some 42, .ext 0, [(.t 38)], [3], none⟩,
    ⟨some 43, .ext 1, [(.t 38)], [3], none⟩,
    ⟨some 9, .mv, [(.t 42)], [4, 2, 0, 1, 2, 3, 4], none⟩,
    ⟨some 10, .mv, [(.t 43)], [5, 6, 0, 1, 2, 3, 4, 5, 6], none⟩])
  (.seq (.region false [
    ⟨some 45, .mv, [(.t 9)], [], none⟩,
    ⟨some 46, .call [15, 16], [(.c (D.fn 15 [])), (.t 45), (.c (D.int .i64 250)), (.c (D.int .i64 1000))], [0], none⟩,
    ⟨some 44, .mv, [(.t 46)], [1], none⟩,
    ⟨some 47, .ext 0, [(.t 44)], [2], none⟩,
    ⟨some 48, .ext 1, [(.t 44)], [2], none⟩,
    ⟨some 11, .mv, [(.t 47)], [3, 1, 0, 1, 2, 3], none⟩,
    ⟨some 12, .mv, [(.t 48)], [4, 5, 0, 1, 2, 3, 4, 5], none⟩])
  (.seq (.region false [
    ⟨some 50, .mv, [(.t 9)], [], none⟩,
    ⟨some 51, .call [17, 18], [(.c (D.fn 15 [])), (.t 50), (.c (D.int .i64 240)), (.c (D.int .i64 1000))], [0], none⟩,
    ⟨some 49, .mv, [(.t 51)], [1], none⟩,
    ⟨some 52, .ext 0, [(.t 49)], [2], none⟩,
    ⟨some 53, .ext 1, [(.t 49)], [2], none⟩,
    ⟨some 13, .mv, [(.t 52)], [3, 1, 0, 1, 2, 3], none⟩,
    ⟨some 14, .mv, [(.t 53)], [4, 5, 0, 1, 2, 3, 4, 5], none⟩])
  (.seq (.region true [
    ⟨some 54, .mv, [(.t 2)], [], none⟩,
    ⟨some 55, .mv, [(.t 54)], [0], none⟩,
    ⟨some 56, .mv, [(.t 4)], [1], some (55, true)⟩,
    ⟨some 57, .pick, [(.t 55), (.t 56), (.c (D.bool false))], [1, 2], none⟩,
    ⟨some 58, .mv, [(.t 57)], [3, 1], none⟩,
    ⟨some 59, .mv, [(.t 6)], [4], some (58, true)⟩,
    ⟨some 60, .pick, [(.t 58), (.t 59), (.c (D.bool false))], [4, 5], none⟩,
    ⟨some 61, .mv, [(.t 60)], [6, 4], none⟩,
    ⟨some 62, .mv, [(.t 8)], [7], some (61, true)⟩,
    ⟨some 63, .pick, [(.t 61), (.t 62), (.c (D.bool false))], [7, 8], none⟩,
    ⟨some 64, .mv, [(.t 63)], [9, 7], none⟩,
    ⟨some 65, .mv, [(.t 10)], [10], some (64, true)⟩,
    ⟨some 66, .pick, [(.t 64), (.t 65), (.c (D.bool false))], [10, 11], none⟩,
    ⟨some 67, .mv, [(.t 66)], [12, 10], none⟩,
    ⟨some 68, .mv, [(.t 3)], [13], some (67, true)⟩,
    ⟨some 69, .mv, [(.t 1)], [13], some (67, true)⟩,
    ⟨some 70, .call [19], [(.c (D.fn 14 [])), (.t 68), (.t 69)], [14, 15, 13, 13], some (67, true)⟩,
    ⟨some 71, .pick, [(.t 67), (.t 70), (.c (D.bool false))], [13, 16], none⟩,
    ⟨some 72, .mv, [(.t 71)], [17, 16], none⟩,
    ⟨some 73, .mv, [(.t 5)], [18], some (72, true)⟩,
    ⟨some 74, .len, [(.t 73)], [19, 18], some (72, true)⟩,
    ⟨some 75, .bin .eql, [(.t 74), (.c (D.int .i64 1))], [20, 18], some (72, true)⟩,
    ⟨some 76, .pick, [(.t 72), (.t 75), (.c (D.bool false))], [18, 21], none⟩,
    ⟨some 77, .mv, [(.t 76)], [22, 18], none⟩,
    ⟨some 78, .mv, [(.t 5)], [23], some (77, true)⟩,
    ⟨some 79, .idxA 47, [(.t 78), (.c (D.int .i64 0))], [24, 23], some (77, true)⟩,
    ⟨some 80, .load ⟨true, [.str, .int .u64, .int .u8, .int .u8, .int .u8, .int .u8, .int .u8, .int .u8, .int .u8, .int .u8, .int .u8, .int .u8, .int .u8, .int .u8, .int .u8, .int .u8, .int .u8, .int .u8, .int .u8, .int .u8, .int .u8, .int .u8, .int .u8, .int .u8, .int .u8, .int .u8, .int .u8, .int .u8, .int .u8, .int .u8, .int .u8, .int .u8, .int .u8, .int .u8, .int .i64, .int .i64, .int .i64]⟩, [(.t 79)], [25, 23], some (77, true)⟩,
    ⟨some 81, .call [20], [(.c (D.fn 28 [])), (.c (D.str (⟨#[114, 115, 121, 110, 99, 58, 47, 47, 97, 47]⟩ : ByteArray))), (.c (D.int .u64 6)), (.c (D.int .u8 3)), (.c (D.int .i64 140)), (.c (D.int .i64 240)), (.c (D.int .i64 170))], [23, 23], some (77, true)⟩,
    ⟨some 82, .eqv false ⟨true, [.str, .int .u64, .int .u8, .int .u8, .int .u8, .int .u8, .int .u8, .int .u8, .int .u8, .int .u8, .int .u8, .int .u8, .int .u8, .int .u8, .int .u8, .int .u8, .int .u8, .int .u8, .int .u8, .int .u8, .int .u8, .int .u8, .int .u8, .int .u8, .int .u8, .int .u8, .int .u8, .int .u8, .int .u8, .int .u8, .int .u8, .int .u8, .int .u8, .int .u8, .int .i64, .int .i64, .int .i64]⟩, [(.t 80), (.t 81)], [26, 27, 23], some (77, true)⟩,
    ⟨some 83, .pick, [(.t 77), (.t 82), (.c (D.bool false))], [23, 28], none⟩,
    ⟨some 84, .mv, [(.t 83)], [29, 27], none⟩,
    ⟨some 85, .mv, [(.t 9)], [30], some (84, true)⟩,
    ⟨some 86, .mv, [(.t 5)], [30], some (84, true)⟩,
    ⟨some 87, .call [21], [(.c (D.fn 14 [])), (.t 85), (.t 86)], [31, 32, 30, 30], some (84, true)⟩,
    ⟨some 88, .pick, [(.t 84), (.t 87), (.c (D.bool false))], [30, 33], none⟩,
    ⟨some 89, .mv, [(.t 88)], [34, 33], none⟩,
    ⟨some 90, .mv, [(.t 12)], [35], some (89, true)⟩,
    ⟨some 91, .bin .eql, [(.t 90), (.c (D.int .i64 0))], [36, 35], some (89, true)⟩,
    ⟨some 92, .pick, [(.t 89), (.t 91), (.c (D.bool false))], [35, 37], none⟩,
    ⟨some 93, .mv, [(.t 92)], [38, 35], none⟩,
    ⟨some 94, .mv, [(.t 11)], [39], some (93, true)⟩,
    ⟨some 95, .len, [(.t 94)], [40, 39], some (93, true)⟩,
    ⟨some 96, .bin .eql, [(.t 95), (.c (D.int .i64 1))], [41, 39], some (93, true)⟩,
    ⟨some 97, .pick, [(.t 93), (.t 96), (.c (D.bool false))], [39, 42], none⟩,
    ⟨some 98, .mv, [(.t 97)], [43, 39], none⟩,
    ⟨some 99, .mv, [(.t 11)], [44], some (98, true)⟩,
    ⟨some 100, .idxA 9, [(.t 99), (.c (D.int .i64 0))], [45, 44], some (98, true)⟩,
    ⟨some 101, .load ⟨false, [.str]⟩, [(.t 100)], [46, 44], some (98, true)⟩,
    ⟨some 102, .bin .eql, [(.t 101), (.c (D.str (⟨#[114, 115, 121, 110, 99, 58, 47, 47, 97, 47]⟩ : ByteArray)))], [47, 44], some (98, true)⟩,
    ⟨some 103, .pick, [(.t 98), (.t 102), (.c (D.bool false))], [44, 48], none⟩,
    ⟨some 104, .mv, [(.t 103)], [49, 44], none⟩,
    ⟨some 105, .mv, [(.t 14)], [50], some (104, true)⟩,
    ⟨some 106, .bin .eql, [(.t 105), (.c (D.int .i64 0))], [51, 50], some (104, true)⟩,
    ⟨some 107, .pick, [(.t 104), (.t 106), (.c (D.bool false))], [50, 52], none⟩,
    ⟨some 108, .mv, [(.t 107)], [53, 50], none⟩,
    ⟨some 109, .mv, [(.t 13)], [54], some (108, true)⟩,
    ⟨some 110, .len, [(.t 109)], [55, 54], some (108, true)⟩,
    ⟨some 111, .bin .eql, [(.t 110), (.c (D.int .i64 0))], [56, 54], some (108, true)⟩,
    ⟨some 112, .pick, [(.t 108), (.t 111), (.c (D.bool false))], [54, 57], none⟩,
    ⟨some 0, .mv, [(.t 112)], [58, 54, 0, 1, 2, 3, 4, 5, 6, 7, 8, 9, 10, 11, 12, 13, 14, 15, 16, 17, 18, 19, 20, 21, 22, 23, 24, 25, 26, 27, 28, 29, 30, 31, 32, 33, 34, 35, 36, 37, 38, 39, 40, 41, 42, 43, 44, 45, 46, 47, 48, 49, 50, 51, 52, 53, 54, 55, 56, 57, 58], none⟩])
  (.ret)))))))))⟩

/- 25: gatepath/gatepathlaw29.record -/
def c_gatepathlaw29_record : DFun := ⟨29, 3, [.p, .p], [.p ⟨true, [.str, .int .u64, .int .u8, .int .u8, .int .u8, .int .u8, .int .u8, .int .u8, .int .u8, .int .u8, .int .u8, .int .u8, .int .u8, .int .u8, .int .u8, .int .u8, .int .u8, .int .u8, .int .u8, .int .u8, .int .u8, .int .u8, .int .u8, .int .u8, .int .u8, .int .u8, .int .u8, .int .u8, .int .u8, .int .u8, .int .u8, .int .u8, .int .u8, .int .u8, .int .i64, .int .i64, .int .i64]⟩, .p ⟨false, [.bool]⟩], [.c 4, .t 5],
  .seq (.region false [
    ⟨some 4, .alloc 2 [(D.str ⟨#[]⟩), (D.int .u64 0), (D.int .u8 0), (D.int .u8 0), (D.int .u8 0), (D.int .u8 0), (D.int .u8 0), (D.int .u8 0), (D.int .u8 0), (D.int .u8 0), (D.int .u8 0), (D.int .u8 0), (D.int .u8 0), (D.int .u8 0), (D.int .u8 0), (D.int .u8 0), (D.int .u8 0), (D.int .u8 0), (D.int .u8 0), (D.int .u8 0), (D.int .u8 0), (D.int .u8 0), (D.int .u8 0), (D.int .u8 0), (D.int .u8 0), (D.int .u8 0), (D.int .u8 0), (D.int .u8 0), (D.int .u8 0), (D.int .u8 0), (D.int .u8 0), (D.int .u8 0), (D.int .u8 0), (D.int .u8 0), (D.int .i64 0), (D.int .i64 0), (D.int .i64 0)], [], [], none⟩,
    ⟨some 5, .mv, [(.c (D.bool false))], [], none⟩])
  (.seq (.seq (.region false [
    ⟨some 6, .mv, [(.c (D.int .i64 0))], [], none⟩])
  (.block 0 (.loop ⟨[0, 1, 4], [(6, .p ⟨false, [.int .i64]⟩)], [(2, .v [.p (.str), .p (.int .u64), .p (.int .u8), .p (.int .u8), .p (.int .u8), .p (.int .u8), .p (.int .u8), .p (.int .u8), .p (.int .u8), .p (.int .u8), .p (.int .u8), .p (.int .u8), .p (.int .u8), .p (.int .u8), .p (.int .u8), .p (.int .u8), .p (.int .u8), .p (.int .u8), .p (.int .u8), .p (.int .u8), .p (.int .u8), .p (.int .u8), .p (.int .u8), .p (.int .u8), .p (.int .u8), .p (.int .u8), .p (.int .u8), .p (.int .u8), .p (.int .u8), .p (.int .u8), .p (.int .u8), .p (.int .u8), .p (.int .u8), .p (.int .u8), .p (.int .i64), .p (.int .i64), .p (.int .i64)])]⟩ (.seq (.seq (.region false [
    ⟨some 7, .mv, [(.t 6)], [], none⟩,
    ⟨some 8, .mv, [(.t 0)], [], none⟩,
    ⟨some 9, .len, [(.t 8)], [1], none⟩,
    ⟨some 10, .bin .lss, [(.t 7), (.t 9)], [0, 2], none⟩,
    ⟨some 11, .mv, [(.t 10)], [3], none⟩,
    ⟨some 12, .mv, [(.t 6)], [4], some (11, true)⟩,
    ⟨some 13, .bin .lss, [(.t 12), (.c (D.int .i64 300))], [5, 4], some (11, true)⟩,
    ⟨some 14, .pick, [(.t 11), (.t 13), (.c (D.bool false))], [4, 6], none⟩])
  (.cond (.t 14) (.skip) (.exit 0)))
  (.seq (.block 1 (.seq (.region false [
    ⟨some 17, .mv, [(.t 0)], [], none⟩,
    ⟨some 18, .mv, [(.t 6)], [], none⟩,
    ⟨some 19, .idxA 47, [(.t 17), (.t 18)], [0, 1], none⟩,
    ⟨some 20, .fld 0, [(.t 19)], [2], none⟩,
    ⟨some 21, .load ⟨false, [.str]⟩, [(.t 20)], [3], none⟩,
    ⟨some 22, .mv, [(.t 1)], [], none⟩,
    ⟨some 23, .bin .eql, [(.t 21), (.t 22)], [4, 5], none⟩])
  (.cond (.t 23) (.seq (.region false [
    ⟨some 24, .mv, [(.t 0)], [], none⟩,
    ⟨some 25, .mv, [(.t 6)], [], none⟩,
    ⟨some 26, .idxA 47, [(.t 24), (.t 25)], [0, 1], none⟩,
    ⟨some 27, .load ⟨true, [.str, .int .u64, .int .u8, .int .u8, .int .u8, .int .u8, .int .u8, .int .u8, .int .u8, .int .u8, .int .u8, .int .u8, .int .u8, .int .u8, .int .u8, .int .u8, .int .u8, .int .u8, .int .u8, .int .u8, .int .u8, .int .u8, .int .u8, .int .u8, .int .u8, .int .u8, .int .u8, .int .u8, .int .u8, .int .u8, .int .u8, .int .u8, .int .u8, .int .u8, .int .i64, .int .i64, .int .i64]⟩, [(.t 26)], [2], none⟩,
    ⟨none, .store ⟨true, [.str, .int .u64, .int .u8, .int .u8, .int .u8, .int .u8, .int .u8, .int .u8, .int .u8, .int .u8, .int .u8, .int .u8, .int .u8, .int .u8, .int .u8, .int .u8, .int .u8, .int .u8, .int .u8, .int .u8, .int .u8, .int .u8, .int .u8, .int .u8, .int .u8, .int .u8, .int .u8, .int .u8, .int .u8, .int .u8, .int .u8, .int .u8, .int .u8, .int .u8, .int .i64, .int .i64, .int .i64]⟩, [(.t 4), (.t 27)], [3, 0, 1, 2, 3], none⟩,
    ⟨some 5, .mv, [(.c (D.bool true))], [4, 0, 1, 2, 3, 4], none⟩])
  (.ret)) (.skip))))
  (.region false [
    ⟨some 15, .mv, [(.t 6)], [], none⟩,
    ⟨some 16, .bin .add, [(.t 15), (.c (D.int .i64 1))], [0], none⟩,
    ⟨some 6, .mv, [(.t 16)], [1, 0, 1], none⟩]))))))
  (.seq (.region false [
    ⟨some 28, .build [(D.str ⟨#[]⟩), (D.int .u64 0), (D.int .u8 0), (D.int .u8 0), (D.int .u8 0), (D.int .u8 0), (D.int .u8 0), (D.int .u8 0), (D.int .u8 0), (D.int .u8 0), (D.int .u8 0), (D.int .u8 0), (D.int .u8 0), (D.int .u8 0), (D.int .u8 0), (D.int .u8 0), (D.int .u8 0), (D.int .u8 0), (D.int .u8 0), (D.int .u8 0), (D.int .u8 0), (D.int .u8 0), (D.int .u8 0), (D.int .u8 0), (D.int .u8 0), (D.int .u8 0), (D.int .u8 0), (D.int .u8 0), (D.int .u8 0), (D.int .u8 0), (D.int .u8 0), (D.int .u8 0), (D.int .u8 0), (D.int .u8 0), (D.int .i64 0), (D.int .i64 0), (D.int .i64 0)] [], [], [], none⟩,
    ⟨none, .store ⟨true, [.str, .int .u64, .int .u8, .int .u8, .int .u8, .int .u8, .int .u8, .int .u8, .int .u8, .int .u8, .int .u8, .int .u8, .int .u8, .int .u8, .int .u8, .int .u8, .int .u8, .int .u8, .int .u8, .int .u8, .int .u8, .int .u8, .int .u8, .int .u8, .int .u8, .int .u8, .int .u8, .int .u8, .int .u8, .int .u8, .int .u8, .int .u8, .int .u8, .int .u8, .int .i64, .int .i64, .int .i64]⟩, [(.t 4), (.t 28)], [0, 0], none⟩,
    ⟨some 5, .mv, [(.c (D.bool false))], [1, 0, 1], none⟩])
  (.ret)))⟩

/- 6: gatepath/gatepathlaw29.FreshNever -/
def c_gatepathlaw29_FreshNever : DFun := ⟨176, 16, [.p, .p], [.p ⟨false, [.bool]⟩], [.t 4],
  .seq (.region false [
    ⟨some 4, .mv, [(.c (D.bool false))], [], none⟩])
  (.seq (.region false [
    ⟨some 14, .call [5], [(.c (D.fn 24 []))], [], none⟩,
    ⟨some 5, .mv, [(.t 14)], [0, 0, 0], none⟩])
  (.seq (.seq (.region false [
    ⟨some 15, .mv, [(.t 0)], [], none⟩,
    ⟨some 16, .call [6], [(.c (D.fn 11 [])), (.t 15)], [0], none⟩,
    ⟨some 17, .mv, [(.t 16)], [1, 1], none⟩,
    ⟨some 18, .mv, [(.t 1)], [2], some (17, false)⟩,
    ⟨some 19, .call [7], [(.c (D.fn 11 [])), (.t 18)], [3, 2, 2], some (17, false)⟩,
    ⟨some 20, .pick, [(.t 17), (.c (D.bool true)), (.t 19)], [2, 4], none⟩,
    ⟨some 21, .mv, [(.t 20)], [5, 4], none⟩,
    ⟨some 22, .mv, [(.t 0)], [6], some (21, false)⟩,
    ⟨some 23, .call [8], [(.c (D.fn 20 [])), (.t 22)], [7, 6, 6], some (21, false)⟩,
    ⟨some 24, .bin .neq, [(.t 23), (.c (D.int .i64 0))], [8, 6], some (21, false)⟩,
    ⟨some 25, .pick, [(.t 21), (.c (D.bool true)), (.t 24)], [6, 9], none⟩,
    ⟨some 26, .mv, [(.t 25)], [10, 8], none⟩,
    ⟨some 27, .mv, [(.t 1)], [11], some (26, false)⟩,
    ⟨some 28, .len, [(.t 27)], [12, 11], some (26, false)⟩,
    ⟨some 29, .bin .gtr, [(.t 28), (.c (D.int .i64 50))], [13, 11], some (26, false)⟩,
    ⟨some 30, .pick, [(.t 26), (.c (D.bool true)), (.t 29)], [11, 14], none⟩,
    ⟨some 31, .mv, [(.t 30)], [15, 11], none⟩,
    ⟨some 32, .mv, [(.t 5)], [16], some (31, false)⟩,
    ⟨some 33, .not, [(.t 32)], [17, 16], some (31, false)⟩,
    ⟨some 34, .pick, [(.t 31), (.c (D.bool true)), (.t 33)], [16, 18], none⟩])
  (.cond (.t 34) (.seq (.region false [
    ⟨some 35, .mv, [(.t 5)], [], none⟩,
    ⟨some 4, .mv, [(.t 35)], [0, 0], none⟩])
  (.ret)) (.skip)))
  (.seq (.region false [
    ⟨some 36, .buildSl 2 47, [], [], none⟩,
    ⟨some 37, .mv, [(.t 0)], [], none⟩,
    ⟨some 38, .append 3 47 80, [(.t 36), (.t 37)], [0, 1], none⟩,
    ⟨some 6, .mv, [(.t 38)], [2, 2, 0, 1, 2], none⟩])
  (.seq (.seq (.region false [
    ⟨some 7, .mv, [(.c (D.int .i64 0))], [], none⟩])
  (.block 0 (.loop ⟨[1, 5], [(6, .o 9 47), (7, .p ⟨false, [.int .i64]⟩)], []⟩ (.seq (.seq (.region false [
    ⟨some 39, .mv, [(.t 7)], [], none⟩,
    ⟨some 40, .mv, [(.t 1)], [], none⟩,
    ⟨some 41, .len, [(.t 40)], [1], none⟩,
    ⟨some 42, .bin .lss, [(.t 39), (.t 41)], [0, 2], none⟩])
  (.cond (.t 42) (.skip) (.exit 0)))
  (.seq (.block 1 (.seq (.region true [
    ⟨some 46, .mv, [(.t 6)], [], none⟩,
    ⟨some 47, .mv, [(.t 1)], [], none⟩,
    ⟨some 48, .mv, [(.t 7)], [], none⟩,
    ⟨some 49, .idxA 47, [(.t 47), (.t 48)], [1, 2], none⟩,
    ⟨some 50, .load ⟨true, [.str, .int .u64, .int .u8, .int .u8, .int .u8, .int .u8, .int .u8, .int .u8, .int .u8, .int .u8, .int .u8, .int .u8, .int .u8, .int .u8, .int .u8, .int .u8, .int .u8, .int .u8, .int .u8, .int .u8, .int .u8, .int .u8, .int .u8, .int .u8, .int .u8, .int .u8, .int .u8, .int .u8, .int .u8, .int .u8, .int .u8, .int .u8, .int .u8, .int .u8, .int .i64, .int .i64, .int .i64]⟩, [(.t 49)], [3], none⟩,
    ⟨some 51, .mv, [(.t 1)], [], none⟩,
    ⟨some 52, .mv, [(.t 7)], [], none⟩,
    ⟨some 53, .idxA 47, [(.t 51), (.t 52)], [5, 6], none⟩,
    ⟨some 54, .fld 36, [(.t 53)], [7], none⟩,
    ⟨some 55, .load ⟨false, [.int .i64]⟩, [(.t 54)], [8], none⟩,
    ⟨some 56, .call [10, 11, 12], [(.c (D.fn 22 [])), (.t 46), (.t 50), (.t 55)], [0, 4, 9], none⟩,
    ⟨some 45, .mv, [(.t 56)], [10], none⟩,
    ⟨some 57, .ext 0, [(.t 45)], [11], none⟩,
    ⟨some 58, .ext 1, [(.t 45)], [11], none⟩,
    ⟨some 59, .ext 2, [(.t 45)], [11], none⟩,
    ⟨some 8, .mv, [(.t 57)], [12, 10, 0, 1, 2, 3, 4, 5, 6, 7, 8, 9, 10, 11, 12], none⟩,
    ⟨some 9, .mv, [(.t 58)], [13, 15, 0, 1, 2, 3, 4, 5, 6, 7, 8, 9, 10, 11, 12, 13, 15], none⟩,
    ⟨some 10, .mv, [(.t 59)], [14, 16, 0, 1, 2, 3, 4, 5, 6, 7, 8, 9, 10, 11, 12, 13, 14, 15, 16], none⟩])
  (.seq (.seq (.region false [
    ⟨some 60, .mv, [(.t 10)], [], none⟩,
    ⟨some 61, .bin .neq, [(.t 60), (.c (D.int .i64 0))], [0], none⟩])
  (.cond (.t 61) (.seq (.seq (.region false [
    ⟨some 62, .mv, [(.t 8)], [], none⟩,
    ⟨some 63, .len, [(.t 62)], [0], none⟩,
    ⟨some 64, .bin .neq, [(.t 63), (.c (D.int .i64 0))], [1], none⟩,
    ⟨some 65, .mv, [(.t 64)], [2], none⟩,
    ⟨some 66, .mv, [(.t 9)], [3], some (65, false)⟩,
    ⟨some 67, .bin .neq, [(.t 66), (.c (D.int .u8 0))], [4, 3], some (65, false)⟩,
    ⟨some 68, .pick, [(.t 65), (.c (D.bool true)), (.t 67)], [3, 5], none⟩])
  (.cond (.t 68) (.seq (.region false [
    ⟨some 4, .mv, [(.c (D.bool false))], [], none⟩])
  (.ret)) (.skip)))
  (.exit 1)) (.skip)))
  (.seq (.seq (.region false [
    ⟨some 69, .mv, [(.t 8)], [], none⟩,
    ⟨some 70, .call [13], [(.c (D.fn 20 [])), (.t 69)], [0], none⟩,
    ⟨some 71, .bin .neq, [(.t 70), (.c (D.int .i64 0))], [1], none⟩,
    ⟨some 72, .mv, [(.t 71)], [2, 1], none⟩,
    ⟨some 73, .mv, [(.t 8)], [3], some (72, false)⟩,
    ⟨some 74, .len, [(.t 73)], [4, 3], some (72, false)⟩,
    ⟨some 75, .mv, [(.t 6)], [3], some (72, false)⟩,
    ⟨some 76, .len, [(.t 75)], [6, 3], some (72, false)⟩,
    ⟨some 77, .bin .lss, [(.t 74), (.t 76)], [5, 7, 3], some (72, false)⟩,
    ⟨some 78, .pick, [(.t 72), (.c (D.bool true)), (.t 77)], [3, 8], none⟩,
    ⟨some 79, .mv, [(.t 78)], [9, 3], none⟩,
    ⟨some 80, .mv, [(.t 8)], [10], some (79, false)⟩,
    ⟨some 81, .len, [(.t 80)], [11, 10], some (79, false)⟩,
    ⟨some 82, .mv, [(.t 6)], [10], some (79, false)⟩,
    ⟨some 83, .len, [(.t 82)], [13, 10], some (79, false)⟩,
    ⟨some 84, .bin .add, [(.t 83), (.c (D.int .i64 1))], [14, 10], some (79, false)⟩,
    ⟨some 85, .bin .gtr, [(.t 81), (.t 84)], [12, 15, 10], some (79, false)⟩,
    ⟨some 86, .pick, [(.t 79), (.c (D.bool true)), (.t 85)], [10, 16], none⟩])
  (.cond (.t 86) (.seq (.region false [
    ⟨some 4, .mv, [(.c (D.bool false))], [], none⟩])
  (.ret)) (.skip)))
  (.seq (.seq (.region false [
    ⟨some 11, .mv, [(.c (D.int .i64 0))], [], none⟩])
  (.block 2 (.loop ⟨[1, 5, 6, 7, 8], [(11, .p ⟨false, [.int .i64]⟩)], [(9, .a 47), (10, .a 47)]⟩ (.seq (.seq (.region false [
    ⟨some 87, .mv, [(.t 11)], [], none⟩,
    ⟨some 88, .mv, [(.t 6)], [], none⟩,
    ⟨some 89, .len, [(.t 88)], [1], none⟩,
    ⟨some 90, .bin .lss, [(.t 87), (.t 89)], [0, 2], none⟩])
  (.cond (.t 90) (.skip) (.exit 2)))
  (.seq (.block 3 (.seq (.region false [
    ⟨some 94, .mv, [(.t 8)], [], none⟩,
    ⟨some 95, .mv, [(.t 6)], [], none⟩,
    ⟨some 96, .mv, [(.t 11)], [], none⟩,
    ⟨some 97, .idxA 47, [(.t 95), (.t 96)], [1, 2], none⟩,
    ⟨some 98, .fld 0, [(.t 97)], [3], none⟩,
    ⟨some 99, .load ⟨false, [.str]⟩, [(.t 98)], [4], none⟩,
    ⟨some 100, .call [14, 15], [(.c (D.fn 25 [])), (.t 94), (.t 99)], [0, 5], none⟩,
    ⟨some 93, .mv, [(.t 100)], [6], none⟩,
    ⟨some 101, .ext 0, [(.t 93)], [7], none⟩,
    ⟨some 102, .ext 1, [(.t 93)], [7], none⟩,
    ⟨some 12, .alloc 4 [(D.str ⟨#[]⟩), (D.int .u64 0), (D.int .u8 0), (D.int .u8 0), (D.int .u8 0), (D.int .u8 0), (D.int .u8 0), (D.int .u8 0), (D.int .u8 0), (D.int .u8 0), (D.int .u8 0), (D.int .u8 0), (D.int .u8 0), (D.int .u8 0), (D.int .u8 0), (D.int .u8 0), (D.int .u8 0), (D.int .u8 0), (D.int .u8 0), (D.int .u8 0), (D.int .u8 0), (D.int .u8 0), (D.int .u8 0), (D.int .u8 0), (D.int .u8 0), (D.int .u8 0), (D.int .u8 0), (D.int .u8 0), (D.int .u8 0), (D.int .u8 0), (D.int .u8 0), (D.int .u8 0), (D.int .u8 0), (D.int .u8 0), (D.int .i64 0), (D.int .i64 0), (D.int .i64 0)], [], [], none⟩,
    ⟨none, .store ⟨true, [.str, .int .u64, .int .u8, .int .u8, .int .u8, .int .u8, .int .u8, .int .u8, .int .u8, .int .u8, .int .u8, .int .u8, .int .u8, .int .u8, .int .u8, .int .u8, .int .u8, .int .u8, .int .u8, .int .u8, .int .u8, .int .u8, .int .u8, .int .u8, .int .u8, .int .u8, .int .u8, .int .u8, .int .u8, .int .u8, .int .u8, .int .u8, .int .u8, .int .u8, .int .i64, .int .i64, .int .i64]⟩, [(.t 12), (.t 101)], [10, 8, 6, 0, 1, 2, 3, 4, 5, 6, 7, 8, 10], none⟩,
    ⟨some 13, .mv, [(.t 102)], [9, 11, 0, 1, 2, 3, 4, 5, 6, 7, 8, 9, 10, 11], none⟩])
  (.seq (.seq (.region true [
    ⟨some 103, .mv, [(.t 13)], [], none⟩,
    ⟨some 104, .not, [(.t 103)], [0], none⟩,
    ⟨some 105, .mv, [(.t 104)], [1], none⟩,
    ⟨some 106, .fld 1, [(.t 12)], [2], some (105, false)⟩,
    ⟨some 107, .load ⟨false, [.int .u64]⟩, [(.t 106)], [3, 2], some (105, false)⟩,
    ⟨some 108, .mv, [(.t 6)], [2], some (105, false)⟩,
    ⟨some 109, .mv, [(.t 11)], [2], some (105, false)⟩,
    ⟨some 110, .idxA 47, [(.t 108), (.t 109)], [5, 6, 2], some (105, false)⟩,
    ⟨some 111, .fld 1, [(.t 110)], [7, 2], some (105, false)⟩,
    ⟨some 112, .load ⟨false, [.int .u64]⟩, [(.t 111)], [8, 2], some (105, false)⟩,
    ⟨some 113, .bin .lss, [(.t 107), (.t 112)], [4, 9, 2], some (105, false)⟩,
    ⟨some 114, .pick, [(.t 105), (.c (D.bool true)), (.t 113)], [2, 10], none⟩,
    ⟨some 115, .mv, [(.t 114)], [11, 2], none⟩,
    ⟨some 116, .fld 1, [(.t 12)], [12], some (115, false)⟩,
    ⟨some 117, .load ⟨false, [.int .u64]⟩, [(.t 116)], [13, 12], some (115, false)⟩,
    ⟨some 118, .mv, [(.t 6)], [12], some (115, false)⟩,
    ⟨some 119, .mv, [(.t 11)], [12], some (115, false)⟩,
    ⟨some 120, .idxA 47, [(.t 118), (.t 119)], [15, 16, 12], some (115, false)⟩,
    ⟨some 121, .fld 1, [(.t 120)], [17, 12], some (115, false)⟩,
    ⟨some 122, .load ⟨false, [.int .u64]⟩, [(.t 121)], [18, 12], some (115, false)⟩,
    ⟨some 123, .bin .eql, [(.t 117), (.t 122)], [14, 19, 12], some (115, false)⟩,
    ⟨some 124, .mv, [(.t 123)], [20, 12, 12], some (115, false)⟩,
    ⟨some 125, .fld 2, [(.t 12)], [21], some (124, true)⟩,
    ⟨some 126, .load ⟨true, [.int .u8, .int .u8, .int .u8, .int .u8, .int .u8, .int .u8, .int .u8, .int .u8, .int .u8, .int .u8, .int .u8, .int .u8, .int .u8, .int .u8, .int .u8, .int .u8, .int .u8, .int .u8, .int .u8, .int .u8, .int .u8, .int .u8, .int .u8, .int .u8, .int .u8, .int .u8, .int .u8, .int .u8, .int .u8, .int .u8, .int .u8, .int .u8]⟩, [(.t 125)], [22, 21], some (124, true)⟩,
    ⟨some 127, .mv, [(.t 6)], [21], some (124, true)⟩,
    ⟨some 128, .mv, [(.t 11)], [21], some (124, true)⟩,
    ⟨some 129, .idxA 47, [(.t 127), (.t 128)], [24, 25, 21], some (124, true)⟩,
    ⟨some 130, .fld 2, [(.t 129)], [26, 21], some (124, true)⟩,
    ⟨some 131, .load ⟨true, [.int .u8, .int .u8, .int .u8, .int .u8, .int .u8, .int .u8, .int .u8, .int .u8, .int .u8, .int .u8, .int .u8, .int .u8, .int .u8, .int .u8, .int .u8, .int .u8, .int .u8, .int .u8, .int .u8, .int .u8, .int .u8, .int .u8, .int .u8, .int .u8, .int .u8, .int .u8, .int .u8, .int .u8, .int .u8, .int .u8, .int .u8, .int .u8]⟩, [(.t 130)], [27, 21], some (124, true)⟩,
    ⟨some 132, .eqv true ⟨true, [.int .u8, .int .u8, .int .u8, .int .u8, .int .u8, .int .u8, .int .u8, .int .u8, .int .u8, .int .u8, .int .u8, .int .u8, .int .u8, .int .u8, .int .u8, .int .u8, .int .u8, .int .u8, .int .u8, .int .u8, .int .u8, .int .u8, .int .u8, .int .u8, .int .u8, .int .u8, .int .u8, .int .u8, .int .u8, .int .u8, .int .u8, .int .u8]⟩, [(.t 126), (.t 131)], [23, 28, 21], some (124, true)⟩,
    ⟨some 133, .mv, [(.t 132)], [29, 21, 21], some (124, true)⟩,
    ⟨some 134, .fld 34, [(.t 12)], [30], some (133, false)⟩,
    ⟨some 135, .load ⟨true, [.int .i64, .int .i64]⟩, [(.t 134)], [31, 30], some (133, false)⟩,
    ⟨some 136, .mv, [(.t 6)], [30], some (133, false)⟩,
    ⟨some 137, .mv, [(.t 11)], [30], some (133, false)⟩,
    ⟨some 138, .idxA 47, [(.t 136), (.t 137)], [33, 34, 30], some (133, false)⟩,
    ⟨some 139, .fld 34, [(.t 138)], [35, 30], some (133, false)⟩,
    ⟨some 140, .load ⟨true, [.int .i64, .int .i64]⟩, [(.t 139)], [36, 30], some (133, false)⟩,
    ⟨some 141, .eqv true ⟨true, [.int .i64, .int .i64]⟩, [(.t 135), (.t 140)], [32, 37, 30], some (133, false)⟩,
    ⟨some 142, .pick, [(.t 133), (.c (D.bool true)), (.t 141)], [30, 38, 21], some (124, true)⟩,
    ⟨some 143, .pick, [(.t 124), (.t 142), (.c (D.bool false))], [21, 39, 12], some (115, false)⟩,
    ⟨some 144, .pick, [(.t 115), (.c (D.bool true)), (.t 143)], [12, 40], none⟩,
    ⟨some 145, .mv, [(.t 144)], [41, 30], none⟩,
    ⟨some 146, .fld 36, [(.t 12)], [42], some (145, false)⟩,
    ⟨some 147, .load ⟨false, [.int .i64]⟩, [(.t 146)], [43, 42], some (145, false)⟩,
    ⟨some 148, .mv, [(.t 6)], [42], some (145, false)⟩,
    ⟨some 149, .mv, [(.t 11)], [42], some (145, false)⟩,
    ⟨some 150, .idxA 47, [(.t 148), (.t 149)], [45, 46, 42], some (145, false)⟩,
    ⟨some 151, .fld 36, [(.t 150)], [47, 42], some (145, false)⟩,
    ⟨some 152, .load ⟨false, [.int .i64]⟩, [(.t 151)], [48, 42], some (145, false)⟩,
    ⟨some 153, .bin .lss, [(.t 147), (.t 152)], [44, 49, 42], some (145, false)⟩,
    ⟨some 154, .pick, [(.t 145), (.c (D.bool true)), (.t 153)], [42, 50], none⟩])
  (.cond (.t 154) (.seq (.region false [
    ⟨some 4, .mv, [(.c (D.bool false))], [], none⟩])
  (.ret)) (.skip)))
  (.seq (.region true [
    ⟨some 155, .mv, [(.t 6)], [], none⟩,
    ⟨some 156, .mv, [(.t 11)], [], none⟩,
    ⟨some 157, .idxA 47, [(.t 155), (.t 156)], [0, 1], none⟩,
    ⟨some 158, .fld 0, [(.t 157)], [2], none⟩,
    ⟨some 159, .load ⟨false, [.str]⟩, [(.t 158)], [3], none⟩,
    ⟨some 160, .mv, [(.t 1)], [], none⟩,
    ⟨some 161, .mv, [(.t 7)], [], none⟩,
    ⟨some 162, .idxA 47, [(.t 160), (.t 161)], [5, 6], none⟩,
    ⟨some 163, .fld 0, [(.t 162)], [7], none⟩,
    ⟨some 164, .load ⟨false, [.str]⟩, [(.t 163)], [8], none⟩,
    ⟨some 165, .bin .neq, [(.t 159), (.t 164)], [4, 9], none⟩,
    ⟨some 166, .mv, [(.t 165)], [10], none⟩,
    ⟨some 167, .load ⟨true, [.str, .int .u64, .int .u8, .int .u8, .int .u8, .int .u8, .int .u8, .int .u8, .int .u8, .int .u8, .int .u8, .int .u8, .int .u8, .int .u8, .int .u8, .int .u8, .int .u8, .int .u8, .int .u8, .int .u8, .int .u8, .int .u8, .int .u8, .int .u8, .int .u8, .int .u8, .int .u8, .int .u8, .int .u8, .int .u8, .int .u8, .int .u8, .int .u8, .int .u8, .int .i64, .int .i64, .int .i64]⟩, [(.t 12)], [11], some (166, true)⟩,
    ⟨some 168, .mv, [(.t 6)], [11], some (166, true)⟩,
    ⟨some 169, .mv, [(.t 11)], [11], some (166, true)⟩,
    ⟨some 170, .idxA 47, [(.t 168), (.t 169)], [13, 14, 11], some (166, true)⟩,
    ⟨some 171, .load ⟨true, [.str, .int .u64, .int .u8, .int .u8, .int .u8, .int .u8, .int .u8, .int .u8, .int .u8, .int .u8, .int .u8, .int .u8, .int .u8, .int .u8, .int .u8, .int .u8, .int .u8, .int .u8, .int .u8, .int .u8, .int .u8, .int .u8, .int .u8, .int .u8, .int .u8, .int .u8, .int .u8, .int .u8, .int .u8, .int .u8, .int .u8, .int .u8, .int .u8, .int .u8, .int .i64, .int .i64, .int .i64]⟩, [(.t 170)], [15, 11], some (166, true)⟩,
    ⟨some 172, .eqv true ⟨true, [.str, .int .u64, .int .u8, .int .u8, .int .u8, .int .u8, .int .u8, .int .u8, .int .u8, .int .u8, .int .u8, .int .u8, .int .u8, .int .u8, .int .u8, .int .u8, .int .u8, .int .u8, .int .u8, .int .u8, .int .u8, .int .u8, .int .u8, .int .u8, .int .u8, .int .u8, .int .u8, .int .u8, .int .u8, .int .u8, .int .u8, .int .u8, .int .u8, .int .u8, .int .i64, .int .i64, .int .i64]⟩, [(.t 167), (.t 171)], [12, 16, 11], some (166, true)⟩,
    ⟨some 173, .pick, [(.t 166), (.t 172), (.c (D.bool false))], [11, 17], none⟩])
  (.cond (.t 173) (.seq (.region false [
    ⟨some 4, .mv, [(.c (D.bool false))], [], none⟩])
  (.ret)) (.skip))))))
  (.region false [
    ⟨some 91, .mv, [(.t 11)], [], none⟩,
    ⟨some 92, .bin .add, [(.t 91), (.c (D.int .i64 1))], [0], none⟩,
    ⟨some 11, .mv, [(.t 92)], [1, 0, 1], none⟩]))))))
  (.region false [
    ⟨some 174, .mv, [(.t 8)], [], none⟩,
    ⟨some 6, .mv, [(.t 174)], [0, 0], none⟩]))))))
  (.region false [
    ⟨some 43, .mv, [(.t 7)], [], none⟩,
    ⟨some 44, .bin .add, [(.t 43), (.c (D.int .i64 1))], [0], none⟩,
    ⟨some 7, .mv, [(.t 44)], [1, 0, 1], none⟩]))))))
  (.seq (.region false [
    ⟨some 175, .mv, [(.t 5)], [], none⟩,
    ⟨some 4, .mv, [(.t 175)], [0, 0], none⟩])
  (.ret))))))⟩

/- 7: gatepath/gatepathlaw29.FreshAgain -/
def c_gatepathlaw29_FreshAgain : DFun := ⟨145, 21, [.p, .p, .p, .p], [.p ⟨false, [.bool]⟩], [.t 8],
  .seq (.region false [
    ⟨some 5, .box 4, [(.t 1)], [], none⟩,
    ⟨some 8, .mv, [(.c (D.bool false))], [], none⟩])
  (.seq (.region false [
    ⟨some 19, .call [7], [(.c (D.fn 24 []))], [], none⟩,
    ⟨some 9, .mv, [(.t 19)], [0, 0, 0], none⟩])
  (.seq (.seq (.region false [
    ⟨some 20, .mv, [(.t 0)], [], none⟩,
    ⟨some 21, .call [8], [(.c (D.fn 11 [])), (.t 20)], [0], none⟩,
    ⟨some 22, .mv, [(.t 21)], [1, 1], none⟩,
    ⟨some 23, .fld 0, [(.t 5)], [2], some (22, false)⟩,
    ⟨some 24, .load ⟨false, [.str]⟩, [(.t 23)], [3, 2], some (22, false)⟩,
    ⟨some 25, .lenS, [(.t 24)], [4, 2], some (22, false)⟩,
    ⟨some 26, .bin .gtr, [(.t 25), (.c (D.int .i64 300))], [5, 2], some (22, false)⟩,
    ⟨some 27, .pick, [(.t 22), (.c (D.bool true)), (.t 26)], [2, 6], none⟩,
    ⟨some 28, .mv, [(.t 27)], [7, 2], none⟩,
    ⟨some 29, .mv, [(.t 9)], [8], some (28, false)⟩,
    ⟨some 30, .not, [(.t 29)], [9, 8], some (28, false)⟩,
    ⟨some 31, .pick, [(.t 28), (.c (D.bool true)), (.t 30)], [8, 10], none⟩])
  (.cond (.t 31) (.seq (.region false [
    ⟨some 32, .mv, [(.t 9)], [], none⟩,
    ⟨some 8, .mv, [(.t 32)], [0, 0], none⟩])
  (.ret)) (.skip)))
  (.seq (.region false [
    ⟨some 34, .mv, [(.t 0)], [], none⟩,
    ⟨some 35, .load ⟨true, [.str, .int .u64, .int .u8, .int .u8, .int .u8, .int .u8, .int .u8, .int .u8, .int .u8, .int .u8, .int .u8, .int .u8, .int .u8, .int .u8, .int .u8, .int .u8, .int .u8, .int .u8, .int .u8, .int .u8, .int .u8, .int .u8, .int .u8, .int .u8, .int .u8, .int .u8, .int .u8, .int .u8, .int .u8, .int .u8, .int .u8, .int .u8, .int .u8, .int .u8, .int .i64, .int .i64, .int .i64]⟩, [(.t 5)], [], none⟩,
    ⟨some 36, .fld 36, [(.t 5)], [], none⟩,
    ⟨some 37, .load ⟨false, [.int .i64]⟩, [(.t 36)], [2], none⟩,
    ⟨some 38, .call [9, 10, 11], [(.c (D.fn 22 [])), (.t 34), (.t 35), (.t 37)], [0, 1, 3], none⟩,
    ⟨some 33, .mv, [(.t 38)], [4], none⟩,
    ⟨some 39, .ext 0, [(.t 33)], [5], none⟩,
    ⟨some 40, .ext 1, [(.t 33)], [5], none⟩,
    ⟨some 41, .ext 2, [(.t 33)], [5], none⟩,
    ⟨some 10, .mv, [(.t 39)], [6, 4, 0, 1, 2, 3, 4, 5, 6], none⟩,
    ⟨some 11, .mv, [(.t 40)], [7, 9, 0, 1, 2, 3, 4, 5, 6, 7, 9], none⟩,
    ⟨some 12, .mv, [(.t 41)], [8, 10, 0, 1, 2, 3, 4, 5, 6, 7, 8, 9, 10], none⟩])
  (.seq (.seq (.region false [
    ⟨some 42, .mv, [(.t 12)], [], none⟩,
    ⟨some 43, .bin .neq, [(.t 42), (.c (D.int .i64 0))], [0], none⟩])
  (.cond (.t 43) (.seq (.region false [
    ⟨some 44, .mv, [(.t 9)], [], none⟩,
    ⟨some 45, .mv, [(.t 44)], [0], none⟩,
    ⟨some 46, .mv, [(.t 11)], [1], some (45, true)⟩,
    ⟨some 47, .bin .eql, [(.t 46), (.c (D.int .u8 0))], [2, 1], some (45, true)⟩,
    ⟨some 48, .pick, [(.t 45), (.t 47), (.c (D.bool false))], [1, 3], none⟩,
    ⟨some 49, .mv, [(.t 48)], [4, 1], none⟩,
    ⟨some 50, .mv, [(.t 10)], [5], some (49, true)⟩,
    ⟨some 51, .len, [(.t 50)], [6, 5], some (49, true)⟩,
    ⟨some 52, .bin .eql, [(.t 51), (.c (D.int .i64 0))], [7, 5], some (49, true)⟩,
    ⟨some 53, .pick, [(.t 49), (.t 52), (.c (D.bool false))], [5, 8], none⟩,
    ⟨some 8, .mv, [(.t 53)], [9, 5, 0, 1, 2, 3, 4, 5, 6, 7, 8, 9], none⟩])
  (.ret)) (.skip)))
  (.seq (.seq (.region false [
    ⟨some 54, .mv, [(.t 11)], [], none⟩,
    ⟨some 55, .bin .neq, [(.t 54), (.c (D.int .u8 1))], [0], none⟩,
    ⟨some 56, .mv, [(.t 55)], [1], none⟩,
    ⟨some 57, .mv, [(.t 11)], [2], some (56, true)⟩,
    ⟨some 58, .bin .neq, [(.t 57), (.c (D.int .u8 2))], [3, 2], some (56, true)⟩,
    ⟨some 59, .pick, [(.t 56), (.t 58), (.c (D.bool false))], [2, 4], none⟩,
    ⟨some 60, .mv, [(.t 59)], [5, 2], none⟩,
    ⟨some 61, .mv, [(.t 11)], [6], some (60, true)⟩,
    ⟨some 62, .bin .neq, [(.t 61), (.c (D.int .u8 3))], [7, 6], some (60, true)⟩,
    ⟨some 63, .pick, [(.t 60), (.t 62), (.c (D.bool false))], [6, 8], none⟩])
  (.cond (.t 63) (.seq (.region false [
    ⟨some 64, .mv, [(.t 9)], [], none⟩,
    ⟨some 65, .mv, [(.t 64)], [0], none⟩,
    ⟨some 66, .mv, [(.t 0)], [1], some (65, true)⟩,
    ⟨some 67, .mv, [(.t 10)], [1], some (65, true)⟩,
    ⟨some 68, .call [12], [(.c (D.fn 14 [])), (.t 66), (.t 67)], [2, 3, 1, 1], some (65, true)⟩,
    ⟨some 69, .pick, [(.t 65), (.t 68), (.c (D.bool false))], [1, 4], none⟩,
    ⟨some 70, .mv, [(.t 69)], [5, 4], none⟩,
    ⟨some 71, .mv, [(.t 11)], [6], some (70, true)⟩,
    ⟨some 72, .bin .geq, [(.t 71), (.c (D.int .u8 1))], [7, 6], some (70, true)⟩,
    ⟨some 73, .pick, [(.t 70), (.t 72), (.c (D.bool false))], [6, 8], none⟩,
    ⟨some 74, .mv, [(.t 73)], [9, 6], none⟩,
    ⟨some 75, .mv, [(.t 11)], [10], some (74, true)⟩,
    ⟨some 76, .bin .leq, [(.t 75), (.c (D.int .u8 8))], [11, 10], some (74, true)⟩,
    ⟨some 77, .pick, [(.t 74), (.t 76), (.c (D.bool false))], [10, 12], none⟩,
    ⟨some 8, .mv, [(.t 77)], [13, 10, 0, 1, 2, 3, 4, 5, 6, 7, 8, 9, 10, 11, 12, 13], none⟩])
  (.ret)) (.skip)))
  (.seq (.region false [
    ⟨some 79, .mv, [(.t 10)], [], none⟩,
    ⟨some 80, .fld 0, [(.t 5)], [], none⟩,
    ⟨some 81, .load ⟨false, [.str]⟩, [(.t 80)], [1], none⟩,
    ⟨some 82, .call [13, 14], [(.c (D.fn 25 [])), (.t 79), (.t 81)], [0, 2], none⟩,
    ⟨some 78, .mv, [(.t 82)], [3], none⟩,
    ⟨some 83, .ext 0, [(.t 78)], [4], none⟩,
    ⟨some 84, .ext 1, [(.t 78)], [4], none⟩,
    ⟨some 13, .alloc 5 [(D.str ⟨#[]⟩), (D.int .u64 0), (D.int .u8 0), (D.int .u8 0), (D.int .u8 0), (D.int .u8 0), (D.int .u8 0), (D.int .u8 0), (D.int .u8 0), (D.int .u8 0), (D.int .u8 0), (D.int .u8 0), (D.int .u8 0), (D.int .u8 0), (D.int .u8 0), (D.int .u8 0), (D.int .u8 0), (D.int .u8 0), (D.int .u8 0), (D.int .u8 0), (D.int .u8 0), (D.int .u8 0), (D.int .u8 0), (D.int .u8 0), (D.int .u8 0), (D.int .u8 0), (D.int .u8 0), (D.int .u8 0), (D.int .u8 0), (D.int .u8 0), (D.int .u8 0), (D.int .u8 0), (D.int .u8 0), (D.int .u8 0), (D.int .i64 0), (D.int .i64 0), (D.int .i64 0)], [], [], none⟩,
    ⟨none, .store ⟨true, [.str, .int .u64, .int .u8, .int .u8, .int .u8, .int .u8, .int .u8, .int .u8, .int .u8, .int .u8, .int .u8, .int .u8, .int .u8, .int .u8, .int .u8, .int .u8, .int .u8, .int .u8, .int .u8, .int .u8, .int .u8, .int .u8, .int .u8, .int .u8, .int .u8, .int .u8, .int .u8, .int .u8, .int .u8, .int .u8, .int .u8, .int .u8, .int .u8, .int .u8, .int .i64, .int .i64, .int .i64]⟩, [(.t 13), (.t 83)], [7, 5, 3, 0, 1, 2, 3, 4, 5, 7], none⟩,
    ⟨some 14, .mv, [(.t 84)], [6, 8, 0, 1, 2, 3, 4, 5, 6, 7, 8], none⟩])
  (.seq (.seq (.region false [
    ⟨some 85, .mv, [(.t 14)], [], none⟩,
    ⟨some 86, .not, [(.t 85)], [0], none⟩,
    ⟨some 87, .mv, [(.t 86)], [1], none⟩,
    ⟨some 88, .load ⟨true, [.str, .int .u64, .int .u8, .int .u8, .int .u8, .int .u8, .int .u8, .int .u8, .int .u8, .int .u8, .int .u8, .int .u8, .int .u8, .int .u8, .int .u8, .int .u8, .int .u8, .int .u8, .int .u8, .int .u8, .int .u8, .int .u8, .int .u8, .int .u8, .int .u8, .int .u8, .int .u8, .int .u8, .int .u8, .int .u8, .int .u8, .int .u8, .int .u8, .int .u8, .int .i64, .int .i64, .int .i64]⟩, [(.t 13)], [2], some (87, false)⟩,
    ⟨some 89, .load ⟨true, [.str, .int .u64, .int .u8, .int .u8, .int .u8, .int .u8, .int .u8, .int .u8, .int .u8, .int .u8, .int .u8, .int .u8, .int .u8, .int .u8, .int .u8, .int .u8, .int .u8, .int .u8, .int .u8, .int .u8, .int .u8, .int .u8, .int .u8, .int .u8, .int .u8, .int .u8, .int .u8, .int .u8, .int .u8, .int .u8, .int .u8, .int .u8, .int .u8, .int .u8, .int .i64, .int .i64, .int .i64]⟩, [(.t 5)], [2], some (87, false)⟩,
    ⟨some 90, .eqv true ⟨true, [.str, .int .u64, .int .u8, .int .u8, .int .u8, .int .u8, .int .u8, .int .u8, .int .u8, .int .u8, .int .u8, .int .u8, .int .u8, .int .u8, .int .u8, .int .u8, .int .u8, .int .u8, .int .u8, .int .u8, .int .u8, .int .u8, .int .u8, .int .u8, .int .u8, .int .u8, .int .u8, .int .u8, .int .u8, .int .u8, .int .u8, .int .u8, .int .u8, .int .u8, .int .i64, .int .i64, .int .i64]⟩, [(.t 88), (.t 89)], [3, 4, 2], some (87, false)⟩,
    ⟨some 91, .pick, [(.t 87), (.c (D.bool true)), (.t 90)], [2, 5], none⟩])
  (.cond (.t 91) (.seq (.region false [
    ⟨some 8, .mv, [(.c (D.bool false))], [], none⟩])
  (.ret)) (.skip)))
  (.seq (.seq (.region false [
    ⟨some 92, .mv, [(.t 2)], [], none⟩,
    ⟨some 93, .fld 36, [(.t 5)], [], none⟩,
    ⟨some 94, .load ⟨false, [.int .i64]⟩, [(.t 93)], [1], none⟩,
    ⟨some 95, .bin .lss, [(.t 92), (.t 94)], [0, 2], none⟩,
    ⟨some 96, .mv, [(.t 95)], [3], none⟩,
    ⟨some 97, .mv, [(.t 2)], [4], some (96, false)⟩,
    ⟨some 98, .fld 34, [(.t 5)], [4], some (96, false)⟩,
    ⟨some 99, .fld 1, [(.t 98)], [6, 4], some (96, false)⟩,
    ⟨some 100, .load ⟨false, [.int .i64]⟩, [(.t 99)], [7, 4], some (96, false)⟩,
    ⟨some 101, .bin .gtr, [(.t 97), (.t 100)], [5, 8, 4], some (96, false)⟩,
    ⟨some 102, .pick, [(.t 96), (.c (D.bool true)), (.t 101)], [4, 9], none⟩])
  (.cond (.t 102) (.seq (.region false [
    ⟨some 103, .mv, [(.t 9)], [], none⟩,
    ⟨some 8, .mv, [(.t 103)], [0, 0], none⟩])
  (.ret)) (.skip)))
  (.seq (.region false [
    ⟨some 104, .load ⟨true, [.str, .int .u64, .int .u8, .int .u8, .int .u8, .int .u8, .int .u8, .int .u8, .int .u8, .int .u8, .int .u8, .int .u8, .int .u8, .int .u8, .int .u8, .int .u8, .int .u8, .int .u8, .int .u8, .int .u8, .int .u8, .int .u8, .int .u8, .int .u8, .int .u8, .int .u8, .int .u8, .int .u8, .int .u8, .int .u8, .int .u8, .int .u8, .int .u8, .int .u8, .int .i64, .int .i64, .int .i64]⟩, [(.t 5)], [], none⟩,
    ⟨some 15, .alloc 6 [(D.str ⟨#[]⟩), (D.int .u64 0), (D.int .u8 0), (D.int .u8 0), (D.int .u8 0), (D.int .u8 0), (D.int .u8 0), (D.int .u8 0), (D.int .u8 0), (D.int .u8 0), (D.int .u8 0), (D.int .u8 0), (D.int .u8 0), (D.int .u8 0), (D.int .u8 0), (D.int .u8 0), (D.int .u8 0), (D.int .u8 0), (D.int .u8 0), (D.int .u8 0), (D.int .u8 0), (D.int .u8 0), (D.int .u8 0), (D.int .u8 0), (D.int .u8 0), (D.int .u8 0), (D.int .u8 0), (D.int .u8 0), (D.int .u8 0), (D.int .u8 0), (D.int .u8 0), (D.int .u8 0), (D.int .u8 0), (D.int .u8 0), (D.int .i64 0), (D.int .i64 0), (D.int .i64 0)], [], [], none⟩,
    ⟨none, .store ⟨true, [.str, .int .u64, .int .u8, .int .u8, .int .u8, .int .u8, .int .u8, .int .u8, .int .u8, .int .u8, .int .u8, .int .u8, .int .u8, .int .u8, .int .u8, .int .u8, .int .u8, .int .u8, .int .u8, .int .u8, .int .u8, .int .u8, .int .u8, .int .u8, .int .u8, .int .u8, .int .u8, .int .u8, .int .u8, .int .u8, .int .u8, .int .u8, .int .u8, .int .u8, .int .i64, .int .i64, .int .i64]⟩, [(.t 15), (.t 104)], [1, 0, 0, 1], none⟩])
  (.seq (.region false [
    ⟨some 105, .mv, [(.t 2)], [], none⟩,
    ⟨some 106, .fld 36, [(.t 15)], [0], none⟩,
    ⟨none, .store ⟨false, [.int .i64]⟩, [(.t 106), (.t 105)], [1, 0, 0], none⟩])
  (.seq (.region false [
    ⟨some 108, .mv, [(.t 10)], [], none⟩,
    ⟨some 109, .load ⟨true, [.str, .int .u64, .int .u8, .int .u8, .int .u8, .int .u8, .int .u8, .int .u8, .int .u8, .int .u8, .int .u8, .int .u8, .int .u8, .int .u8, .int .u8, .int .u8, .int .u8, .int .u8, .int .u8, .int .u8, .int .u8, .int .u8, .int .u8, .int .u8, .int .u8, .int .u8, .int .u8, .int .u8, .int .u8, .int .u8, .int .u8, .int .u8, .int .u8, .int .u8, .int .i64, .int .i64, .int .i64]⟩, [(.t 15)], [], none⟩,
    ⟨some 110, .mv, [(.t 2)], [], none⟩,
    ⟨some 111, .call [15, 16, 17], [(.c (D.fn 22 [])), (.t 108), (.t 109), (.t 110)], [0, 1, 2], none⟩,
    ⟨some 107, .mv, [(.t 111)], [3], none⟩,
    ⟨some 112, .ext 0, [(.t 107)], [4], none⟩,
    ⟨some 113, .ext 1, [(.t 107)], [4], none⟩,
    ⟨some 114, .ext 2, [(.t 107)], [4], none⟩,
    ⟨some 16, .mv, [(.t 112)], [5, 3, 0, 1, 2, 3, 4, 5], none⟩,
    ⟨some 17, .mv, [(.t 113)], [6, 8, 0, 1, 2, 3, 4, 5, 6, 8], none⟩,
    ⟨some 18, .mv, [(.t 114)], [7, 9, 0, 1, 2, 3, 4, 5, 6, 7, 8, 9], none⟩])
  (.seq (.seq (.region false [
    ⟨some 115, .mv, [(.t 18)], [], none⟩,
    ⟨some 116, .bin .neq, [(.t 115), (.c (D.int .i64 0))], [0], none⟩,
    ⟨some 117, .mv, [(.t 116)], [1], none⟩,
    ⟨some 118, .mv, [(.t 17)], [2], some (117, false)⟩,
    ⟨some 119, .bin .neq, [(.t 118), (.c (D.int .u8 2))], [3, 2], some (117, false)⟩,
    ⟨some 120, .pick, [(.t 117), (.c (D.bool true)), (.t 119)], [2, 4], none⟩])
  (.cond (.t 120) (.seq (.region false [
    ⟨some 8, .mv, [(.c (D.bool false))], [], none⟩])
  (.ret)) (.skip)))
  (.seq (.seq (.region false [
    ⟨some 121, .mv, [(.t 3)], [], none⟩,
    ⟨some 122, .fld 1, [(.t 5)], [], none⟩,
    ⟨some 123, .load ⟨false, [.int .u64]⟩, [(.t 122)], [1], none⟩,
    ⟨some 124, .bin .geq, [(.t 121), (.t 123)], [0, 2], none⟩])
  (.cond (.t 124) (.seq (.region false [
    ⟨some 125, .mv, [(.t 9)], [], none⟩,
    ⟨some 8, .mv, [(.t 125)], [0, 0], none⟩])
  (.ret)) (.skip)))
  (.seq (.region false [
    ⟨some 126, .mv, [(.t 3)], [], none⟩,
    ⟨some 127, .fld 1, [(.t 15)], [0], none⟩,
    ⟨none, .store ⟨false, [.int .u64]⟩, [(.t 127), (.t 126)], [1, 0, 0], none⟩])
  (.seq (.region false [
    ⟨some 129, .mv, [(.t 10)], [], none⟩,
    ⟨some 130, .load ⟨true, [.str, .int .u64, .int .u8, .int .u8, .int .u8, .int .u8, .int .u8, .int .u8, .int .u8, .int .u8, .int .u8, .int .u8, .int .u8, .int .u8, .int .u8, .int .u8, .int .u8, .int .u8, .int .u8, .int .u8, .int .u8, .int .u8, .int .u8, .int .u8, .int .u8, .int .u8, .int .u8, .int .u8, .int .u8, .int .u8, .int .u8, .int .u8, .int .u8, .int .u8, .int .i64, .int .i64, .int .i64]⟩, [(.t 15)], [], none⟩,
    ⟨some 131, .mv, [(.t 2)], [], none⟩,
    ⟨some 132, .call [18, 19, 20], [(.c (D.fn 22 [])), (.t 129), (.t 130), (.t 131)], [0, 1, 2], none⟩,
    ⟨some 128, .mv, [(.t 132)], [3], none⟩,
    ⟨some 133, .ext 0, [(.t 128)], [4], none⟩,
    ⟨some 134, .ext 1, [(.t 128)], [4], none⟩,
    ⟨some 135, .ext 2, [(.t 128)], [4], none⟩,
    ⟨some 17, .mv, [(.t 134)], [6, 3, 0, 1, 2, 3, 4, 5, 6], none⟩,
    ⟨some 18, .mv, [(.t 135)], [7, 8, 0, 1, 2, 3, 4, 5, 6, 7, 8], none⟩])
  (.seq (.region false [
    ⟨some 136, .mv, [(.t 9)], [], none⟩,
    ⟨some 137, .mv, [(.t 136)], [0], none⟩,
    ⟨some 138, .mv, [(.t 18)], [1], some (137, true)⟩,
    ⟨some 139, .bin .eql, [(.t 138), (.c (D.int .i64 0))], [2, 1], some (137, true)⟩,
    ⟨some 140, .pick, [(.t 137), (.t 139), (.c (D.bool false))], [1, 3], none⟩,
    ⟨some 141, .mv, [(.t 140)], [4, 1], none⟩,
    ⟨some 142, .mv, [(.t 17)], [5], some (141, true)⟩,
    ⟨some 143, .bin .eql, [(.t 142), (.c (D.int .u8 4))], [6, 5], some (141, true)⟩,
    ⟨some 144, .pick, [(.t 141), (.t 143), (.c (D.bool false))], [5, 7], none⟩,
    ⟨some 8, .mv, [(.t 144)], [8, 5, 0, 1, 2, 3, 4, 5, 6, 7, 8], none⟩])
  (.ret)))))))))))))))))⟩

/- 8: gatepath/gatepathlaw29.FreshLate -/
def c_gatepathlaw29_FreshLate : DFun := ⟨172, 14, [.p, .p, .p, .p], [.p ⟨false, [.bool]⟩], [.t 8],
  .seq (.region false [
    ⟨some 8, .mv, [(.c (D.bool false))], [], none⟩])
  (.seq (.region false [
    ⟨some 18, .call [4], [(.c (D.fn 24 []))], [], none⟩,
    ⟨some 9, .mv, [(.t 18)], [0, 0, 0], none⟩])
  (.seq (.seq (.region false [
    ⟨some 19, .mv, [(.t 0)], [], none⟩,
    ⟨some 20, .call [5], [(.c (D.fn 11 [])), (.t 19)], [0], none⟩,
    ⟨some 21, .mv, [(.t 20)], [1, 1], none⟩,
    ⟨some 22, .mv, [(.t 0)], [2], some (21, false)⟩,
    ⟨some 23, .call [6], [(.c (D.fn 20 [])), (.t 22)], [3, 2, 2], some (21, false)⟩,
    ⟨some 24, .bin .neq, [(.t 23), (.c (D.int .i64 0))], [4, 2], some (21, false)⟩,
    ⟨some 25, .pick, [(.t 21), (.c (D.bool true)), (.t 24)], [2, 5], none⟩,
    ⟨some 26, .mv, [(.t 25)], [6, 4], none⟩,
    ⟨some 27, .mv, [(.t 1)], [7], some (26, false)⟩,
    ⟨some 28, .call [7], [(.c (D.fn 26 [])), (.t 27)], [8, 7, 7], some (26, false)⟩,
    ⟨some 29, .not, [(.t 28)], [9, 7], some (26, false)⟩,
    ⟨some 30, .pick, [(.t 26), (.c (D.bool true)), (.t 29)], [7, 10], none⟩,
    ⟨some 31, .mv, [(.t 30)], [11, 9], none⟩,
    ⟨some 32, .mv, [(.t 2)], [12], some (31, false)⟩,
    ⟨some 33, .call [8], [(.c (D.fn 26 [])), (.t 32)], [13, 12, 12], some (31, false)⟩,
    ⟨some 34, .not, [(.t 33)], [14, 12], some (31, false)⟩,
    ⟨some 35, .pick, [(.t 31), (.c (D.bool true)), (.t 34)], [12, 15], none⟩,
    ⟨some 36, .mv, [(.t 35)], [16, 14], none⟩,
    ⟨some 37, .mv, [(.t 3)], [17], some (36, false)⟩,
    ⟨some 38, .call [9], [(.c (D.fn 26 [])), (.t 37)], [18, 17, 17], some (36, false)⟩,
    ⟨some 39, .not, [(.t 38)], [19, 17], some (36, false)⟩,
    ⟨some 40, .pick, [(.t 36), (.c (D.bool true)), (.t 39)], [17, 20], none⟩,
    ⟨some 41, .mv, [(.t 40)], [21, 19], none⟩,
    ⟨some 42, .mv, [(.t 3)], [22], some (41, false)⟩,
    ⟨some 43, .mv, [(.t 2)], [22], some (41, false)⟩,
    ⟨some 44, .bin .lss, [(.t 42), (.t 43)], [23, 24, 22], some (41, false)⟩,
    ⟨some 45, .pick, [(.t 41), (.c (D.bool true)), (.t 44)], [22, 25], none⟩,
    ⟨some 46, .mv, [(.t 45)], [26, 22], none⟩,
    ⟨some 47, .mv, [(.t 9)], [27], some (46, false)⟩,
    ⟨some 48, .not, [(.t 47)], [28, 27], some (46, false)⟩,
    ⟨some 49, .pick, [(.t 46), (.c (D.bool true)), (.t 48)], [27, 29], none⟩])
  (.cond (.t 49) (.seq (.region false [
    ⟨some 50, .mv, [(.t 9)], [], none⟩,
    ⟨some 8, .mv, [(.t 50)], [0, 0], none⟩])
  (.ret)) (.skip)))
  (.seq (.region false [
    ⟨some 52, .mv, [(.t 0)], [], none⟩,
    ⟨some 53, .mv, [(.t 1)], [], none⟩,
    ⟨some 54, .mv, [(.t 2)], [], none⟩,
    ⟨some 55, .call [10, 11], [(.c (D.fn 15 [])), (.t 52), (.t 53), (.t 54)], [0, 1, 2], none⟩,
    ⟨some 51, .mv, [(.t 55)], [3], none⟩,
    ⟨some 56, .ext 0, [(.t 51)], [4], none⟩,
    ⟨some 57, .ext 1, [(.t 51)], [4], none⟩,
    ⟨some 10, .mv, [(.t 56)], [5, 3, 0, 1, 2, 3, 4, 5], none⟩,
    ⟨some 11, .mv, [(.t 57)], [6, 7, 0, 1, 2, 3, 4, 5, 6, 7], none⟩])
  (.seq (.region false [
    ⟨some 59, .mv, [(.t 0)], [], none⟩,
    ⟨some 60, .mv, [(.t 1)], [], none⟩,
    ⟨some 61, .mv, [(.t 3)], [], none⟩,
    ⟨some 62, .call [12, 13], [(.c (D.fn 15 [])), (.t 59), (.t 60), (.t 61)], [0, 1, 2], none⟩,
    ⟨some 58, .mv, [(.t 62)], [3], none⟩,
    ⟨some 63, .ext 0, [(.t 58)], [4], none⟩,
    ⟨some 64, .ext 1, [(.t 58)], [4], none⟩,
    ⟨some 12, .mv, [(.t 63)], [5, 3, 0, 1, 2, 3, 4, 5], none⟩,
    ⟨some 13, .mv, [(.t 64)], [6, 7, 0, 1, 2, 3, 4, 5, 6, 7], none⟩])
  (.seq (.seq (.region false [
    ⟨some 65, .mv, [(.t 11)], [], none⟩,
    ⟨some 66, .bin .neq, [(.t 65), (.c (D.int .i64 0))], [0], none⟩,
    ⟨some 67, .mv, [(.t 66)], [1], none⟩,
    ⟨some 68, .mv, [(.t 13)], [2], some (67, false)⟩,
    ⟨some 69, .bin .neq, [(.t 68), (.c (D.int .i64 0))], [3, 2], some (67, false)⟩,
    ⟨some 70, .pick, [(.t 67), (.c (D.bool true)), (.t 69)], [2, 4], none⟩,
    ⟨some 71, .mv, [(.t 70)], [5, 2], none⟩,
    ⟨some 72, .mv, [(.t 10)], [6], some (71, false)⟩,
    ⟨some 73, .len, [(.t 72)], [7, 6], some (71, false)⟩,
    ⟨some 74, .mv, [(.t 0)], [6], some (71, false)⟩,
    ⟨some 75, .len, [(.t 74)], [9, 6], some (71, false)⟩,
    ⟨some 76, .bin .gtr, [(.t 73), (.t 75)], [8, 10, 6], some (71, false)⟩,
    ⟨some 77, .pick, [(.t 71), (.c (D.bool true)), (.t 76)], [6, 11], none⟩,
    ⟨some 78, .mv, [(.t 77)], [12, 6], none⟩,
    ⟨some 79, .mv, [(.t 12)], [13], some (78, false)⟩,
    ⟨some 80, .len, [(.t 79)], [14, 13], some (78, false)⟩,
    ⟨some 81, .mv, [(.t 10)], [13], some (78, false)⟩,
    ⟨some 82, .len, [(.t 81)], [16, 13], some (78, false)⟩,
    ⟨some 83, .bin .gtr, [(.t 80), (.t 82)], [15, 17, 13], some (78, false)⟩,
    ⟨some 84, .pick, [(.t 78), (.c (D.bool true)), (.t 83)], [13, 18], none⟩])
  (.cond (.t 84) (.seq (.region false [
    ⟨some 8, .mv, [(.c (D.bool false))], [], none⟩])
  (.ret)) (.skip)))
  (.seq (.region false [
    ⟨some 14, .mv, [(.c (D.int .i64 0))], [], none⟩,
    ⟨some 15, .mv, [(.c (D.int .i64 0))], [0, 0], none⟩])
  (.seq (.seq (.region false [
    ⟨some 16, .mv, [(.c (D.int .i64 0))], [], none⟩])
  (.block 0 (.loop ⟨[0, 1, 2, 3, 9, 10, 12], [(14, .p ⟨false, [.int .i64]⟩), (15, .p ⟨false, [.int .i64]⟩), (16, .p ⟨false, [.int .i64]⟩)], [(10, .a 9), (12, .a 9)]⟩ (.seq (.seq (.region false [
    ⟨some 85, .mv, [(.t 16)], [], none⟩,
    ⟨some 86, .mv, [(.t 0)], [], none⟩,
    ⟨some 87, .len, [(.t 86)], [1], none⟩,
    ⟨some 88, .bin .lss, [(.t 85), (.t 87)], [0, 2], none⟩])
  (.cond (.t 88) (.skip) (.exit 0)))
  (.seq (.block 1 (.seq (.region false [
    ⟨some 91, .mv, [(.t 1)], [], none⟩,
    ⟨some 92, .mv, [(.t 0)], [], none⟩,
    ⟨some 93, .mv, [(.t 16)], [], none⟩,
    ⟨some 94, .idxA 47, [(.t 92), (.t 93)], [1, 2], none⟩,
    ⟨some 95, .fld 34, [(.t 94)], [3], none⟩,
    ⟨some 96, .fld 1, [(.t 95)], [4], none⟩,
    ⟨some 97, .load ⟨false, [.int .i64]⟩, [(.t 96)], [5], none⟩,
    ⟨some 98, .bin .gtr, [(.t 91), (.t 97)], [0, 6], none⟩,
    ⟨some 17, .mv, [(.t 98)], [7, 0, 1, 2, 3, 4, 5, 6, 7], none⟩])
  (.seq (.seq (.region false [
    ⟨some 99, .mv, [(.t 17)], [], none⟩,
    ⟨some 100, .mv, [(.t 99)], [0], none⟩,
    ⟨some 101, .mv, [(.t 1)], [1], some (100, false)⟩,
    ⟨some 102, .mv, [(.t 0)], [1], some (100, false)⟩,
    ⟨some 103, .mv, [(.t 16)], [1], some (100, false)⟩,
    ⟨some 104, .idxA 47, [(.t 102), (.t 103)], [3, 4, 1], some (100, false)⟩,
    ⟨some 105, .fld 36, [(.t 104)], [5, 1], some (100, false)⟩,
    ⟨some 106, .load ⟨false, [.int .i64]⟩, [(.t 105)], [6, 1], some (100, false)⟩,
    ⟨some 107, .bin .sub, [(.t 101), (.t 106)], [2, 7, 1], some (100, false)⟩,
    ⟨some 108, .mv, [(.t 2)], [1], some (100, false)⟩,
    ⟨some 109, .bin .gtr, [(.t 107), (.t 108)], [8, 9, 1], some (100, false)⟩,
    ⟨some 110, .pick, [(.t 100), (.c (D.bool true)), (.t 109)], [1, 10], none⟩])
  (.cond (.t 110) (.seq (.seq (.region true [
    ⟨some 111, .mv, [(.t 14)], [], none⟩,
    ⟨some 112, .mv, [(.t 10)], [], none⟩,
    ⟨some 113, .len, [(.t 112)], [1], none⟩,
    ⟨some 114, .bin .geq, [(.t 111), (.t 113)], [0, 2], none⟩,
    ⟨some 115, .mv, [(.t 114)], [3], none⟩,
    ⟨some 116, .mv, [(.t 10)], [4], some (115, false)⟩,
    ⟨some 117, .mv, [(.t 14)], [4], some (115, false)⟩,
    ⟨some 118, .idxA 9, [(.t 116), (.t 117)], [5, 6, 4], some (115, false)⟩,
    ⟨some 119, .load ⟨false, [.str]⟩, [(.t 118)], [7, 4], some (115, false)⟩,
    ⟨some 120, .mv, [(.t 0)], [4], some (115, false)⟩,
    ⟨some 121, .mv, [(.t 16)], [4], some (115, false)⟩,
    ⟨some 122, .idxA 47, [(.t 120), (.t 121)], [9, 10, 4], some (115, false)⟩,
    ⟨some 123, .fld 0, [(.t 122)], [11, 4], some (115, false)⟩,
    ⟨some 124, .load ⟨false, [.str]⟩, [(.t 123)], [12, 4], some (115, false)⟩,
    ⟨some 125, .bin .neq, [(.t 119), (.t 124)], [8, 13, 4], some (115, false)⟩,
    ⟨some 126, .pick, [(.t 115), (.c (D.bool true)), (.t 125)], [4, 14], none⟩])
  (.cond (.t 126) (.seq (.region false [
    ⟨some 8, .mv, [(.c (D.bool false))], [], none⟩])
  (.ret)) (.skip)))
  (.region false [
    ⟨some 127, .mv, [(.t 14)], [], none⟩,
    ⟨some 128, .bin .add, [(.t 127), (.c (D.int .i64 1))], [0], none⟩,
    ⟨some 14, .mv, [(.t 128)], [1, 0, 1], none⟩])) (.skip)))
  (.seq (.region false [
    ⟨some 129, .mv, [(.t 17)], [], none⟩,
    ⟨some 130, .mv, [(.t 129)], [0], none⟩,
    ⟨some 131, .mv, [(.t 1)], [1], some (130, false)⟩,
    ⟨some 132, .mv, [(.t 0)], [1], some (130, false)⟩,
    ⟨some 133, .mv, [(.t 16)], [1], some (130, false)⟩,
    ⟨some 134, .idxA 47, [(.t 132), (.t 133)], [3, 4, 1], some (130, false)⟩,
    ⟨some 135, .fld 36, [(.t 134)], [5, 1], some (130, false)⟩,
    ⟨some 136, .load ⟨false, [.int .i64]⟩, [(.t 135)], [6, 1], some (130, false)⟩,
    ⟨some 137, .bin .sub, [(.t 131), (.t 136)], [2, 7, 1], some (130, false)⟩,
    ⟨some 138, .mv, [(.t 3)], [1], some (130, false)⟩,
    ⟨some 139, .bin .gtr, [(.t 137), (.t 138)], [8, 9, 1], some (130, false)⟩,
    ⟨some 140, .pick, [(.t 130), (.c (D.bool true)), (.t 139)], [1, 10], none⟩])
  (.cond (.t 140) (.seq (.seq (.region true [
    ⟨some 141, .mv, [(.t 15)], [], none⟩,
    ⟨some 142, .mv, [(.t 12)], [], none⟩,
    ⟨some 143, .len, [(.t 142)], [1], none⟩,
    ⟨some 144, .bin .geq, [(.t 141), (.t 143)], [0, 2], none⟩,
    ⟨some 145, .mv, [(.t 144)], [3], none⟩,
    ⟨some 146, .mv, [(.t 12)], [4], some (145, false)⟩,
    ⟨some 147, .mv, [(.t 15)], [4], some (145, false)⟩,
    ⟨some 148, .idxA 9, [(.t 146), (.t 147)], [5, 6, 4], some (145, false)⟩,
    ⟨some 149, .load ⟨false, [.str]⟩, [(.t 148)], [7, 4], some (145, false)⟩,
    ⟨some 150, .mv, [(.t 0)], [4], some (145, false)⟩,
    ⟨some 151, .mv, [(.t 16)], [4], some (145, false)⟩,
    ⟨some 152, .idxA 47, [(.t 150), (.t 151)], [9, 10, 4], some (145, false)⟩,
    ⟨some 153, .fld 0, [(.t 152)], [11, 4], some (145, false)⟩,
    ⟨some 154, .load ⟨false, [.str]⟩, [(.t 153)], [12, 4], some (145, false)⟩,
    ⟨some 155, .bin .neq, [(.t 149), (.t 154)], [8, 13, 4], some (145, false)⟩,
    ⟨some 156, .pick, [(.t 145), (.c (D.bool true)), (.t 155)], [4, 14], none⟩])
  (.cond (.t 156) (.seq (.region false [
    ⟨some 8, .mv, [(.c (D.bool false))], [], none⟩])
  (.ret)) (.skip)))
  (.region false [
    ⟨some 157, .mv, [(.t 15)], [], none⟩,
    ⟨some 158, .bin .add, [(.t 157), (.c (D.int .i64 1))], [0], none⟩,
    ⟨some 15, .mv, [(.t 158)], [1, 0, 1], none⟩])) (.skip))))))
  (.region false [
    ⟨some 89, .mv, [(.t 16)], [], none⟩,
    ⟨some 90, .bin .add, [(.t 89), (.c (D.int .i64 1))], [0], none⟩,
    ⟨some 16, .mv, [(.t 90)], [1, 0, 1], none⟩]))))))
  (.seq (.region false [
    ⟨some 159, .mv, [(.t 9)], [], none⟩,
    ⟨some 160, .mv, [(.t 159)], [0], none⟩,
    ⟨some 161, .mv, [(.t 14)], [1], some (160, true)⟩,
    ⟨some 162, .mv, [(.t 10)], [1], some (160, true)⟩,
    ⟨some 163, .len, [(.t 162)], [3, 1], some (160, true)⟩,
    ⟨some 164, .bin .eql, [(.t 161), (.t 163)], [2, 4, 1], some (160, true)⟩,
    ⟨some 165, .pick, [(.t 160), (.t 164), (.c (D.bool false))], [1, 5], none⟩,
    ⟨some 166, .mv, [(.t 165)], [6, 1], none⟩,
    ⟨some 167, .mv, [(.t 15)], [7], some (166, true)⟩,
    ⟨some 168, .mv, [(.t 12)], [7], some (166, true)⟩,
    ⟨some 169, .len, [(.t 168)], [9, 7], some (166, true)⟩,
    ⟨some 170, .bin .eql, [(.t 167), (.t 169)], [8, 10, 7], some (166, true)⟩,
    ⟨some 171, .pick, [(.t 166), (.t 170), (.c (D.bool false))], [7, 11], none⟩,
    ⟨some 8, .mv, [(.t 171)], [12, 7, 0, 1, 2, 3, 4, 5, 6, 7, 8, 9, 10, 11, 12], none⟩])
  (.ret)))))))))⟩

/- 9: gatepath/gatepathlaw29.FreshOrder -/
def c_gatepathlaw29_FreshOrder : DFun := ⟨148, 25, [.p, .p, .p], [.p ⟨false, [.bool]⟩], [.t 6],
  .seq (.region false [
    ⟨some 6, .mv, [(.c (D.bool false))], [], none⟩])
  (.seq (.region false [
    ⟨some 20, .call [3], [(.c (D.fn 24 []))], [], none⟩,
    ⟨some 7, .mv, [(.t 20)], [0, 0, 0], none⟩])
  (.seq (.seq (.region false [
    ⟨some 21, .mv, [(.t 0)], [], none⟩,
    ⟨some 22, .len, [(.t 21)], [0], none⟩,
    ⟨some 23, .bin .gtr, [(.t 22), (.c (D.int .i64 60))], [1], none⟩,
    ⟨some 24, .mv, [(.t 23)], [2], none⟩,
    ⟨some 25, .mv, [(.t 1)], [3], some (24, false)⟩,
    ⟨some 26, .len, [(.t 25)], [4, 3], some (24, false)⟩,
    ⟨some 27, .bin .gtr, [(.t 26), (.c (D.int .i64 60))], [5, 3], some (24, false)⟩,
    ⟨some 28, .pick, [(.t 24), (.c (D.bool true)), (.t 27)], [3, 6], none⟩,
    ⟨some 29, .mv, [(.t 28)], [7, 3], none⟩,
    ⟨some 30, .mv, [(.t 2)], [8], some (29, false)⟩,
    ⟨some 31, .len, [(.t 30)], [9, 8], some (29, false)⟩,
    ⟨some 32, .bin .gtr, [(.t 31), (.c (D.int .i64 60))], [10, 8], some (29, false)⟩,
    ⟨some 33, .pick, [(.t 29), (.c (D.bool true)), (.t 32)], [8, 11], none⟩,
    ⟨some 34, .mv, [(.t 33)], [12, 8], none⟩,
    ⟨some 35, .mv, [(.t 0)], [13], some (34, false)⟩,
    ⟨some 36, .call [4], [(.c (D.fn 11 [])), (.t 35)], [14, 13, 13], some (34, false)⟩,
    ⟨some 37, .pick, [(.t 34), (.c (D.bool true)), (.t 36)], [13, 15], none⟩,
    ⟨some 38, .mv, [(.t 37)], [16, 15], none⟩,
    ⟨some 39, .mv, [(.t 1)], [17], some (38, false)⟩,
    ⟨some 40, .call [5], [(.c (D.fn 11 [])), (.t 39)], [18, 17, 17], some (38, false)⟩,
    ⟨some 41, .pick, [(.t 38), (.c (D.bool true)), (.t 40)], [17, 19], none⟩,
    ⟨some 42, .mv, [(.t 41)], [20, 19], none⟩,
    ⟨some 43, .mv, [(.t 2)], [21], some (42, false)⟩,
    ⟨some 44, .call [6], [(.c (D.fn 11 [])), (.t 43)], [22, 21, 21], some (42, false)⟩,
    ⟨some 45, .pick, [(.t 42), (.c (D.bool true)), (.t 44)], [21, 23], none⟩,
    ⟨some 46, .mv, [(.t 45)], [24, 23], none⟩,
    ⟨some 47, .mv, [(.t 7)], [25], some (46, false)⟩,
    ⟨some 48, .not, [(.t 47)], [26, 25], some (46, false)⟩,
    ⟨some 49, .pick, [(.t 46), (.c (D.bool true)), (.t 48)], [25, 27], none⟩])
  (.cond (.t 49) (.seq (.region false [
    ⟨some 50, .mv, [(.t 7)], [], none⟩,
    ⟨some 6, .mv, [(.t 50)], [0, 0], none⟩])
  (.ret)) (.skip)))
  (.seq (.region false [
    ⟨some 52, .mv, [(.t 0)], [], none⟩,
    ⟨some 53, .mv, [(.t 1)], [], none⟩,
    ⟨some 54, .call [7, 8], [(.c (D.fn 12 [])), (.t 52), (.t 53)], [0, 1], none⟩,
    ⟨some 51, .mv, [(.t 54)], [2], none⟩,
    ⟨some 55, .ext 0, [(.t 51)], [3], none⟩,
    ⟨some 56, .ext 1, [(.t 51)], [3], none⟩,
    ⟨some 8, .mv, [(.t 55)], [4, 2, 0, 1, 2, 3, 4], none⟩,
    ⟨some 9, .mv, [(.t 56)], [5, 6, 0, 1, 2, 3, 4, 5, 6], none⟩])
  (.seq (.region false [
    ⟨some 58, .mv, [(.t 1)], [], none⟩,
    ⟨some 59, .mv, [(.t 0)], [], none⟩,
    ⟨some 60, .call [9, 10], [(.c (D.fn 12 [])), (.t 58), (.t 59)], [0, 1], none⟩,
    ⟨some 57, .mv, [(.t 60)], [2], none⟩,
    ⟨some 61, .ext 0, [(.t 57)], [3], none⟩,
    ⟨some 62, .ext 1, [(.t 57)], [3], none⟩,
    ⟨some 10, .mv, [(.t 61)], [4, 2, 0, 1, 2, 3, 4], none⟩,
    ⟨some 11, .mv, [(.t 62)], [5, 6, 0, 1, 2, 3, 4, 5, 6], none⟩])
  (.seq (.seq (.region false [
    ⟨some 63, .mv, [(.t 0)], [], none⟩,
    ⟨some 64, .call [11], [(.c (D.fn 20 [])), (.t 63)], [0], none⟩,
    ⟨some 65, .bin .neq, [(.t 64), (.c (D.int .i64 0))], [1], none⟩,
    ⟨some 66, .mv, [(.t 65)], [2, 1], none⟩,
    ⟨some 67, .mv, [(.t 1)], [3], some (66, false)⟩,
    ⟨some 68, .call [12], [(.c (D.fn 20 [])), (.t 67)], [4, 3, 3], some (66, false)⟩,
    ⟨some 69, .bin .neq, [(.t 68), (.c (D.int .i64 0))], [5, 3], some (66, false)⟩,
    ⟨some 70, .pick, [(.t 66), (.c (D.bool true)), (.t 69)], [3, 6], none⟩,
    ⟨some 71, .mv, [(.t 70)], [7, 5], none⟩,
    ⟨some 72, .mv, [(.t 2)], [8], some (71, false)⟩,
    ⟨some 73, .call [13], [(.c (D.fn 20 [])), (.t 72)], [9, 8, 8], some (71, false)⟩,
    ⟨some 74, .bin .neq, [(.t 73), (.c (D.int .i64 0))], [10, 8], some (71, false)⟩,
    ⟨some 75, .pick, [(.t 71), (.c (D.bool true)), (.t 74)], [8, 11], none⟩])
  (.cond (.t 75) (.seq (.region false [
    ⟨some 76, .mv, [(.t 7)], [], none⟩,
    ⟨some 77, .mv, [(.t 76)], [0], none⟩,
    ⟨some 78, .mv, [(.t 9)], [1], some (77, true)⟩,
    ⟨some 79, .bin .eql, [(.t 78), (.c (D.int .i64 0))], [2, 1], some (77, true)⟩,
    ⟨some 80, .mv, [(.t 11)], [1], some (77, true)⟩,
    ⟨some 81, .bin .eql, [(.t 80), (.c (D.int .i64 0))], [4, 1], some (77, true)⟩,
    ⟨some 82, .eqv false ⟨false, [.bool]⟩, [(.t 79), (.t 81)], [3, 5, 1], some (77, true)⟩,
    ⟨some 83, .pick, [(.t 77), (.t 82), (.c (D.bool false))], [1, 6], none⟩,
    ⟨some 6, .mv, [(.t 83)], [7, 1, 0, 1, 2, 3, 4, 5, 6, 7], none⟩])
  (.ret)) (.skip)))
  (.seq (.region false [
    ⟨some 85, .mv, [(.t 0)], [], none⟩,
    ⟨some 86, .mv, [(.t 0)], [], none⟩,
    ⟨some 87, .call [14, 15], [(.c (D.fn 12 [])), (.t 85), (.t 86)], [0, 1], none⟩,
    ⟨some 84, .mv, [(.t 87)], [2], none⟩,
    ⟨some 88, .ext 0, [(.t 84)], [3], none⟩,
    ⟨some 89, .ext 1, [(.t 84)], [3], none⟩,
    ⟨some 12, .mv, [(.t 88)], [4, 2, 0, 1, 2, 3, 4], none⟩,
    ⟨some 13, .mv, [(.t 89)], [5, 6, 0, 1, 2, 3, 4, 5, 6], none⟩])
  (.seq (.seq (.region false [
    ⟨some 90, .mv, [(.t 9)], [], none⟩,
    ⟨some 91, .mv, [(.t 11)], [], none⟩,
    ⟨some 92, .bin .neq, [(.t 90), (.t 91)], [0, 1], none⟩,
    ⟨some 93, .mv, [(.t 92)], [2], none⟩,
    ⟨some 94, .mv, [(.t 8)], [3], some (93, false)⟩,
    ⟨some 95, .mv, [(.t 10)], [3], some (93, false)⟩,
    ⟨some 96, .call [16], [(.c (D.fn 14 [])), (.t 94), (.t 95)], [4, 5, 3, 3], some (93, false)⟩,
    ⟨some 97, .not, [(.t 96)], [6, 3], some (93, false)⟩,
    ⟨some 98, .pick, [(.t 93), (.c (D.bool true)), (.t 97)], [3, 7], none⟩,
    ⟨some 99, .mv, [(.t 98)], [8, 6], none⟩,
    ⟨some 100, .mv, [(.t 13)], [9], some (99, false)⟩,
    ⟨some 101, .bin .neq, [(.t 100), (.c (D.int .i64 0))], [10, 9], some (99, false)⟩,
    ⟨some 102, .pick, [(.t 99), (.c (D.bool true)), (.t 101)], [9, 11], none⟩,
    ⟨some 103, .mv, [(.t 102)], [12, 9], none⟩,
    ⟨some 104, .mv, [(.t 12)], [13], some (103, false)⟩,
    ⟨some 105, .mv, [(.t 0)], [13], some (103, false)⟩,
    ⟨some 106, .call [17], [(.c (D.fn 14 [])), (.t 104), (.t 105)], [14, 15, 13, 13], some (103, false)⟩,
    ⟨some 107, .not, [(.t 106)], [16, 13], some (103, false)⟩,
    ⟨some 108, .pick, [(.t 103), (.c (D.bool true)), (.t 107)], [13, 17], none⟩])
  (.cond (.t 108) (.seq (.region false [
    ⟨some 6, .mv, [(.c (D.bool false))], [], none⟩])
  (.ret)) (.skip)))
  (.seq (.region false [
    ⟨some 110, .mv, [(.t 1)], [], none⟩,
    ⟨some 111, .mv, [(.t 2)], [], none⟩,
    ⟨some 112, .call [18, 19], [(.c (D.fn 12 [])), (.t 110), (.t 111)], [0, 1], none⟩,
    ⟨some 109, .mv, [(.t 112)], [2], none⟩,
    ⟨some 113, .ext 0, [(.t 109)], [3], none⟩,
    ⟨some 114, .ext 1, [(.t 109)], [3], none⟩,
    ⟨some 14, .mv, [(.t 113)], [4, 2, 0, 1, 2, 3, 4], none⟩,
    ⟨some 15, .mv, [(.t 114)], [5, 6, 0, 1, 2, 3, 4, 5, 6], none⟩])
  (.seq (.seq (.region false [
    ⟨some 115, .mv, [(.t 9)], [], none⟩,
    ⟨some 116, .bin .neq, [(.t 115), (.c (D.int .i64 0))], [0], none⟩,
    ⟨some 117, .mv, [(.t 116)], [1], none⟩,
    ⟨some 118, .mv, [(.t 15)], [2], some (117, false)⟩,
    ⟨some 119, .bin .neq, [(.t 118), (.c (D.int .i64 0))], [3, 2], some (117, false)⟩,
    ⟨some 120, .pick, [(.t 117), (.c (D.bool true)), (.t 119)], [2, 4], none⟩])
  (.cond (.t 120) (.seq (.region false [
    ⟨some 121, .mv, [(.t 7)], [], none⟩,
    ⟨some 6, .mv, [(.t 121)], [0, 0], none⟩])
  (.ret)) (.skip)))
  (.seq (.region false [
    ⟨some 123, .mv, [(.t 8)], [], none⟩,
    ⟨some 124, .mv, [(.t 2)], [], none⟩,
    ⟨some 125, .call [20, 21], [(.c (D.fn 12 [])), (.t 123), (.t 124)], [0, 1], none⟩,
    ⟨some 122, .mv, [(.t 125)], [2], none⟩,
    ⟨some 126, .ext 0, [(.t 122)], [3], none⟩,
    ⟨some 127, .ext 1, [(.t 122)], [3], none⟩,
    ⟨some 16, .mv, [(.t 126)], [4, 2, 0, 1, 2, 3, 4], none⟩,
    ⟨some 17, .mv, [(.t 127)], [5, 6, 0, 1, 2, 3, 4, 5, 6], none⟩])
  (.seq (.region false [
    ⟨some 129, .mv, [(.t 0)], [], none⟩,
    ⟨some 130, .mv, [(.t 14)], [], none⟩,
    ⟨some 131, .call [22, 23], [(.c (D.fn 12 [])), (.t 129), (.t 130)], [0, 1], none⟩,
    ⟨some 128, .mv, [(.t 131)], [2], none⟩,
    ⟨some 132, .ext 0, [(.t 128)], [3], none⟩,
    ⟨some 133, .ext 1, [(.t 128)], [3], none⟩,
    ⟨some 18, .mv, [(.t 132)], [4, 2, 0, 1, 2, 3, 4], none⟩,
    ⟨some 19, .mv, [(.t 133)], [5, 6, 0, 1, 2, 3, 4, 5, 6], none⟩])
  (.seq (.region false [
    ⟨some 134, .mv, [(.t 7)], [], none⟩,
    ⟨some 135, .mv, [(.t 134)], [0], none⟩,
    ⟨some 136, .mv, [(.t 17)], [1], some (135, true)⟩,
    ⟨some 137, .bin .neq, [(.t 136), (.c (D.int .i64 0))], [2, 1], some (135, true)⟩,
    ⟨some 138, .mv, [(.t 137)], [3, 1, 1], some (135, true)⟩,
    ⟨some 139, .mv, [(.t 19)], [4], some (138, false)⟩,
    ⟨some 140, .bin .neq, [(.t 139), (.c (D.int .i64 0))], [5, 4], some (138, false)⟩,
    ⟨some 141, .pick, [(.t 138), (.c (D.bool true)), (.t 140)], [4, 6, 1], some (135, true)⟩,
    ⟨some 142, .mv, [(.t 141)], [7, 4, 1], some (135, true)⟩,
    ⟨some 143, .mv, [(.t 16)], [8], some (142, false)⟩,
    ⟨some 144, .mv, [(.t 18)], [8], some (142, false)⟩,
    ⟨some 145, .call [24], [(.c (D.fn 14 [])), (.t 143), (.t 144)], [9, 10, 8, 8], some (142, false)⟩,
    ⟨some 146, .pick, [(.t 142), (.c (D.bool true)), (.t 145)], [8, 11, 1], some (135, true)⟩,
    ⟨some 147, .pick, [(.t 135), (.t 146), (.c (D.bool false))], [1, 12], none⟩,
    ⟨some 6, .mv, [(.t 147)], [13, 11, 0, 1, 2, 3, 4, 5, 6, 7, 8, 9, 10, 11, 12, 13], none⟩])
  (.ret)))))))))))))⟩

/- 10: gatepath/gatepathlaw29.FreshNames -/
def c_gatepathlaw29_FreshNames : DFun := ⟨385, 91, [], [.p ⟨false, [.bool]⟩], [.t 0],
  .seq (.region false [
    ⟨some 0, .mv, [(.c (D.bool false))], [], none⟩])
  (.seq (.region false [
    ⟨some 55, .call [11], [(.c (D.fn 28 [])), (.c (D.str (⟨#[98]⟩ : ByteArray))), (.c (D.int .u64 5)), (.c (D.int .u8 1)), (.c (D.int .i64 100)), (.c (D.int .i64 200)), (.c (D.int .i64 150))], [], none⟩,
    ⟨some 56, .call [12, 13], [(.c (D.fn 27 [])), (.c (D.zs 47 true)), (.t 55), (.c (D.int .u8 1))], [0, 0], none⟩,
    ⟨some 54, .mv, [(.t 56)], [1], none⟩,
    ⟨some 57, .ext 0, [(.t 54)], [2], none⟩,
    ⟨some 58, .ext 1, [(.t 54)], [2], none⟩,
    ⟨some 1, .mv, [(.t 57)], [3, 1, 0, 1, 2, 3], none⟩,
    ⟨some 2, .mv, [(.t 58)], [4, 5, 0, 1, 2, 3, 4, 5], none⟩])
  (.seq (.region false [
    ⟨some 60, .mv, [(.t 1)], [], none⟩,
    ⟨some 61, .call [14], [(.c (D.fn 28 [])), (.c (D.str (⟨#[97]⟩ : ByteArray))), (.c (D.int .u64 0)), (.c (D.int .u8 1)), (.c (D.int .i64 0)), (.c (D.int .i64 1099511627776)), (.c (D.int .i64 160))], [], none⟩,
    ⟨some 62, .call [15, 16], [(.c (D.fn 27 [])), (.t 60), (.t 61), (.c (D.int .u8 1))], [0, 1, 1], none⟩,
    ⟨some 59, .mv, [(.t 62)], [2], none⟩,
    ⟨some 63, .ext 0, [(.t 59)], [3], none⟩,
    ⟨some 64, .ext 1, [(.t 59)], [3], none⟩,
    ⟨some 1, .mv, [(.t 63)], [4, 2, 0, 1, 2, 3, 4], none⟩,
    ⟨some 3, .mv, [(.t 64)], [5, 6, 0, 1, 2, 3, 4, 5, 6], none⟩])
  (.seq (.region false [
    ⟨some 66, .mv, [(.t 1)], [], none⟩,
    ⟨some 67, .call [17], [(.c (D.fn 28 [])), (.c (D.str (⟨#[98]⟩ : ByteArray))), (.c (D.int .u64 5)), (.c (D.int .u8 1)), (.c (D.int .i64 100)), (.c (D.int .i64 200)), (.c (D.int .i64 150))], [], none⟩,
    ⟨some 68, .call [18, 19], [(.c (D.fn 27 [])), (.t 66), (.t 67), (.c (D.int .u8 2))], [0, 1, 1], none⟩,
    ⟨some 65, .mv, [(.t 68)], [2], none⟩,
    ⟨some 69, .ext 0, [(.t 65)], [3], none⟩,
    ⟨some 70, .ext 1, [(.t 65)], [3], none⟩,
    ⟨some 4, .mv, [(.t 69)], [4, 2, 0, 1, 2, 3, 4], none⟩,
    ⟨some 5, .mv, [(.t 70)], [5, 6, 0, 1, 2, 3, 4, 5, 6], none⟩])
  (.seq (.region false [
    ⟨some 72, .mv, [(.t 1)], [], none⟩,
    ⟨some 73, .call [20], [(.c (D.fn 28 [])), (.c (D.str (⟨#[98]⟩ : ByteArray))), (.c (D.int .u64 5)), (.c (D.int .u8 1)), (.c (D.int .i64 100)), (.c (D.int .i64 201)), (.c (D.int .i64 150))], [], none⟩,
    ⟨some 74, .call [21, 22], [(.c (D.fn 27 [])), (.t 72), (.t 73), (.c (D.int .u8 5))], [0, 1, 1], none⟩,
    ⟨some 71, .mv, [(.t 74)], [2], none⟩,
    ⟨some 75, .ext 0, [(.t 71)], [3], none⟩,
    ⟨some 76, .ext 1, [(.t 71)], [3], none⟩,
    ⟨some 6, .mv, [(.t 75)], [4, 2, 0, 1, 2, 3, 4], none⟩,
    ⟨some 7, .mv, [(.t 76)], [5, 6, 0, 1, 2, 3, 4, 5, 6], none⟩])
  (.seq (.region false [
    ⟨some 78, .mv, [(.t 1)], [], none⟩,
    ⟨some 79, .call [23], [(.c (D.fn 28 [])), (.c (D.str (⟨#[98]⟩ : ByteArray))), (.c (D.int .u64 6)), (.c (D.int .u8 1)), (.c (D.int .i64 100)), (.c (D.int .i64 200)), (.c (D.int .i64 150))], [], none⟩,
    ⟨some 80, .call [24, 25], [(.c (D.fn 27 [])), (.t 78), (.t 79), (.c (D.int .u8 5))], [0, 1, 1], none⟩,
    ⟨some 77, .mv, [(.t 80)], [2], none⟩,
    ⟨some 81, .ext 0, [(.t 77)], [3], none⟩,
    ⟨some 82, .ext 1, [(.t 77)], [3], none⟩,
    ⟨some 8, .mv, [(.t 81)], [4, 2, 0, 1, 2, 3, 4], none⟩,
    ⟨some 9, .mv, [(.t 82)], [5, 6, 0, 1, 2, 3, 4, 5, 6], none⟩])
  (.seq (.region false [
    ⟨some 84, .mv, [(.t 1)], [], none⟩,
    ⟨some 85, .call [26], [(.c (D.fn 28 [])), (.c (D.str (⟨#[98]⟩ : ByteArray))), (.c (D.int .u64 6)), (.c (D.int .u8 2)), (.c (D.int .i64 99)), (.c (D.int .i64 200)), (.c (D.int .i64 150))], [], none⟩,
    ⟨some 86, .call [27, 28], [(.c (D.fn 27 [])), (.t 84), (.t 85), (.c (D.int .u8 8))], [0, 1, 1], none⟩,
    ⟨some 83, .mv, [(.t 86)], [2], none⟩,
    ⟨some 87, .ext 0, [(.t 83)], [3], none⟩,
    ⟨some 88, .ext 1, [(.t 83)], [3], none⟩,
    ⟨some 10, .mv, [(.t 87)], [4, 2, 0, 1, 2, 3, 4], none⟩,
    ⟨some 11, .mv, [(.t 88)], [5, 6, 0, 1, 2, 3, 4, 5, 6], none⟩])
  (.seq (.region false [
    ⟨some 90, .mv, [(.t 1)], [], none⟩,
    ⟨some 91, .call [29], [(.c (D.fn 28 [])), (.c (D.str (⟨#[98]⟩ : ByteArray))), (.c (D.int .u64 6)), (.c (D.int .u8 2)), (.c (D.int .i64 180)), (.c (D.int .i64 200)), (.c (D.int .i64 179))], [], none⟩,
    ⟨some 92, .call [30, 31], [(.c (D.fn 27 [])), (.t 90), (.t 91), (.c (D.int .u8 7))], [0, 1, 1], none⟩,
    ⟨some 89, .mv, [(.t 92)], [2], none⟩,
    ⟨some 93, .ext 0, [(.t 89)], [3], none⟩,
    ⟨some 94, .ext 1, [(.t 89)], [3], none⟩,
    ⟨some 12, .mv, [(.t 93)], [4, 2, 0, 1, 2, 3, 4], none⟩,
    ⟨some 13, .mv, [(.t 94)], [5, 6, 0, 1, 2, 3, 4, 5, 6], none⟩])
  (.seq (.region false [
    ⟨some 96, .mv, [(.t 1)], [], none⟩,
    ⟨some 97, .call [32], [(.c (D.fn 28 [])), (.c (D.str (⟨#[99]⟩ : ByteArray))), (.c (D.int .u64 6)), (.c (D.int .u8 2)), (.c (D.int .i64 180)), (.c (D.int .i64 200)), (.c (D.int .i64 201))], [], none⟩,
    ⟨some 98, .call [33, 34], [(.c (D.fn 27 [])), (.t 96), (.t 97), (.c (D.int .u8 6))], [0, 1, 1], none⟩,
    ⟨some 95, .mv, [(.t 98)], [2], none⟩,
    ⟨some 99, .ext 0, [(.t 95)], [3], none⟩,
    ⟨some 100, .ext 1, [(.t 95)], [3], none⟩,
    ⟨some 14, .mv, [(.t 99)], [4, 2, 0, 1, 2, 3, 4], none⟩,
    ⟨some 15, .mv, [(.t 100)], [5, 6, 0, 1, 2, 3, 4, 5, 6], none⟩])
  (.seq (.region false [
    ⟨some 102, .mv, [(.t 1)], [], none⟩,
    ⟨some 103, .call [35], [(.c (D.fn 28 [])), (.c (D.str (⟨#[98]⟩ : ByteArray))), (.c (D.int .u64 6)), (.c (D.int .u8 2)), (.c (D.int .i64 100)), (.c (D.int .i64 200)), (.c (D.int .i64 149))], [], none⟩,
    ⟨some 104, .call [36, 37, 38], [(.c (D.fn 22 [])), (.t 102), (.t 103), (.c (D.int .i64 149))], [0, 1, 1], none⟩,
    ⟨some 101, .mv, [(.t 104)], [2], none⟩,
    ⟨some 105, .ext 0, [(.t 101)], [3], none⟩,
    ⟨some 106, .ext 1, [(.t 101)], [3], none⟩,
    ⟨some 107, .ext 2, [(.t 101)], [3], none⟩,
    ⟨some 16, .mv, [(.t 105)], [4, 2, 0, 1, 2, 3, 4], none⟩,
    ⟨some 17, .mv, [(.t 106)], [5, 7, 0, 1, 2, 3, 4, 5, 7], none⟩,
    ⟨some 18, .mv, [(.t 107)], [6, 8, 0, 1, 2, 3, 4, 5, 6, 7, 8], none⟩])
  (.seq (.region false [
    ⟨some 109, .mv, [(.t 1)], [], none⟩,
    ⟨some 110, .call [39], [(.c (D.fn 28 [])), (.c (D.str (⟨#[98]⟩ : ByteArray))), (.c (D.int .u64 6)), (.c (D.int .u8 2)), (.c (D.int .i64 100)), (.c (D.int .i64 200)), (.c (D.int .i64 150))], [], none⟩,
    ⟨some 111, .call [40, 41, 42], [(.c (D.fn 22 [])), (.t 109), (.t 110), (.c (D.int .i64 151))], [0, 1, 1], none⟩,
    ⟨some 108, .mv, [(.t 111)], [2], none⟩,
    ⟨some 112, .ext 0, [(.t 108)], [3], none⟩,
    ⟨some 113, .ext 1, [(.t 108)], [3], none⟩,
    ⟨some 114, .ext 2, [(.t 108)], [3], none⟩,
    ⟨some 19, .mv, [(.t 112)], [4, 2, 0, 1, 2, 3, 4], none⟩,
    ⟨some 20, .mv, [(.t 113)], [5, 7, 0, 1, 2, 3, 4, 5, 7], none⟩,
    ⟨some 21, .mv, [(.t 114)], [6, 8, 0, 1, 2, 3, 4, 5, 6, 7, 8], none⟩])
  (.seq (.region false [
    ⟨some 116, .mv, [(.t 1)], [], none⟩,
    ⟨some 117, .call [43], [(.c (D.fn 28 [])), (.c (D.str (⟨#[]⟩ : ByteArray))), (.c (D.int .u64 6)), (.c (D.int .u8 2)), (.c (D.int .i64 100)), (.c (D.int .i64 200)), (.c (D.int .i64 150))], [], none⟩,
    ⟨some 118, .call [44, 45, 46], [(.c (D.fn 22 [])), (.t 116), (.t 117), (.c (D.int .i64 150))], [0, 1, 1], none⟩,
    ⟨some 115, .mv, [(.t 118)], [2], none⟩,
    ⟨some 119, .ext 0, [(.t 115)], [3], none⟩,
    ⟨some 120, .ext 1, [(.t 115)], [3], none⟩,
    ⟨some 121, .ext 2, [(.t 115)], [3], none⟩,
    ⟨some 22, .mv, [(.t 119)], [4, 2, 0, 1, 2, 3, 4], none⟩,
    ⟨some 23, .mv, [(.t 120)], [5, 7, 0, 1, 2, 3, 4, 5, 7], none⟩,
    ⟨some 24, .mv, [(.t 121)], [6, 8, 0, 1, 2, 3, 4, 5, 6, 7, 8], none⟩])
  (.seq (.region false [
    ⟨some 123, .mv, [(.t 1)], [], none⟩,
    ⟨some 124, .call [47], [(.c (D.fn 28 [])), (.c (D.str (⟨#[98]⟩ : ByteArray))), (.c (D.int .u64 6)), (.c (D.int .u8 2)), (.c (D.int .i64 201)), (.c (D.int .i64 200)), (.c (D.int .i64 150))], [], none⟩,
    ⟨some 125, .call [48, 49, 50], [(.c (D.fn 22 [])), (.t 123), (.t 124), (.c (D.int .i64 150))], [0, 1, 1], none⟩,
    ⟨some 122, .mv, [(.t 125)], [2], none⟩,
    ⟨some 126, .ext 0, [(.t 122)], [3], none⟩,
    ⟨some 127, .ext 1, [(.t 122)], [3], none⟩,
    ⟨some 128, .ext 2, [(.t 122)], [3], none⟩,
    ⟨some 25, .mv, [(.t 126)], [4, 2, 0, 1, 2, 3, 4], none⟩,
    ⟨some 26, .mv, [(.t 127)], [5, 7, 0, 1, 2, 3, 4, 5, 7], none⟩,
    ⟨some 27, .mv, [(.t 128)], [6, 8, 0, 1, 2, 3, 4, 5, 6, 7, 8], none⟩])
  (.seq (.region false [
    ⟨some 130, .mv, [(.t 1)], [], none⟩,
    ⟨some 131, .call [51], [(.c (D.fn 28 [])), (.c (D.str (⟨#[98]⟩ : ByteArray))), (.c (D.int .u64 6)), (.c (D.int .u8 2)), (.c (D.int .i64 0)), (.c (D.int .i64 200)), (.c (D.int .i64 (-1)))], [], none⟩,
    ⟨some 132, .call [52, 53, 54], [(.c (D.fn 22 [])), (.t 130), (.t 131), (.c (D.int .i64 (-1)))], [0, 1, 1], none⟩,
    ⟨some 129, .mv, [(.t 132)], [2], none⟩,
    ⟨some 133, .ext 0, [(.t 129)], [3], none⟩,
    ⟨some 134, .ext 1, [(.t 129)], [3], none⟩,
    ⟨some 135, .ext 2, [(.t 129)], [3], none⟩,
    ⟨some 28, .mv, [(.t 133)], [4, 2, 0, 1, 2, 3, 4], none⟩,
    ⟨some 29, .mv, [(.t 134)], [5, 7, 0, 1, 2, 3, 4, 5, 7], none⟩,
    ⟨some 30, .mv, [(.t 135)], [6, 8, 0, 1, 2, 3, 4, 5, 6, 7, 8], none⟩])
  (.seq (.region false [
    ⟨some 136, .mkSl 0 47 (D.agg [(D.str ⟨#[]⟩), (D.int .u64 0), (D.int .u8 0), (D.int .u8 0), (D.int .u8 0), (D.int .u8 0), (D.int .u8 0), (D.int .u8 0), (D.int .u8 0), (D.int .u8 0), (D.int .u8 0), (D.int .u8 0), (D.int .u8 0), (D.int .u8 0), (D.int .u8 0), (D.int .u8 0), (D.int .u8 0), (D.int .u8 0), (D.int .u8 0), (D.int .u8 0), (D.int .u8 0), (D.int .u8 0), (D.int .u8 0), (D.int .u8 0), (D.int .u8 0), (D.int .u8 0), (D.int .u8 0), (D.int .u8 0), (D.int .u8 0), (D.int .u8 0), (D.int .u8 0), (D.int .u8 0), (D.int .u8 0), (D.int .u8 0), (D.int .i64 0), (D.int .i64 0), (D.int .i64 0)]) 80, [(.c (D.int .i64 200)), (.c (D.int .i64 200))], [], none⟩,
    ⟨some 31, .mv, [(.t 136)], [0, 0], none⟩])
  (.seq (.seq (.region false [
    ⟨some 32, .mv, [(.c (D.int .i64 0))], [], none⟩])
  (.block 0 (.loop ⟨[1, 2, 3, 5, 7, 9, 11, 13, 15, 18, 21, 24, 27, 30, 31], [(32, .p ⟨false, [.int .i64]⟩)], [(0, .a 47), (15, .a 47)]⟩ (.seq (.seq (.region false [
    ⟨some 137, .mv, [(.t 32)], [], none⟩,
    ⟨some 138, .mv, [(.t 31)], [], none⟩,
    ⟨some 139, .len, [(.t 138)], [1], none⟩,
    ⟨some 140, .bin .lss, [(.t 137), (.t 139)], [0, 2], none⟩])
  (.cond (.t 140) (.skip) (.exit 0)))
  (.seq (.block 1 (.region false [
    ⟨some 143, .mv, [(.t 31)], [], none⟩,
    ⟨some 144, .mv, [(.t 32)], [], none⟩,
    ⟨some 145, .mv, [(.t 32)], [], none⟩,
    ⟨some 146, .bin .quo, [(.t 145), (.c (D.int .i64 20))], [2], none⟩,
    ⟨some 147, .conv .u8, [(.t 146)], [3], none⟩,
    ⟨some 148, .bin .add, [(.c (D.int .u8 97)), (.t 147)], [4], none⟩,
    ⟨some 149, .mv, [(.t 32)], [], none⟩,
    ⟨some 150, .bin .rem, [(.t 149), (.c (D.int .i64 20))], [6], none⟩,
    ⟨some 151, .conv .u8, [(.t 150)], [7], none⟩,
    ⟨some 152, .bin .add, [(.c (D.int .u8 97)), (.t 151)], [8], none⟩,
    ⟨some 153, .buildSl 1 5, [(.t 148), (.t 152)], [5, 9], none⟩,
    ⟨some 154, .bad, [], [10], none⟩,
    ⟨some 155, .call [], [(.c (D.fn 28 [])), (.t 154), (.c (D.int .u64 1)), (.c (D.int .u8 1)), (.c (D.int .i64 0)), (.c (D.int .i64 10)), (.c (D.int .i64 5))], [11], none⟩,
    ⟨some 156, .idxA 47, [(.t 143), (.t 144)], [0, 1, 0, 1, 2, 3, 4, 5, 6, 7, 8, 9, 10, 11, 12], none⟩,
    ⟨none, .store ⟨true, [.str, .int .u64, .int .u8, .int .u8, .int .u8, .int .u8, .int .u8, .int .u8, .int .u8, .int .u8, .int .u8, .int .u8, .int .u8, .int .u8, .int .u8, .int .u8, .int .u8, .int .u8, .int .u8, .int .u8, .int .u8, .int .u8, .int .u8, .int .u8, .int .u8, .int .u8, .int .u8, .int .u8, .int .u8, .int .u8, .int .u8, .int .u8, .int .u8, .int .u8, .int .i64, .int .i64, .int .i64]⟩, [(.t 156), (.t 155)], [13, 12, 12, 0, 1, 2, 3, 4, 5, 6, 7, 8, 9, 10, 11, 12], none⟩]))
  (.region false [
    ⟨some 141, .mv, [(.t 32)], [], none⟩,
    ⟨some 142, .bin .add, [(.t 141), (.c (D.int .i64 1))], [0], none⟩,
    ⟨some 32, .mv, [(.t 142)], [1, 0, 1], none⟩]))))))
  (.seq (.region false [
    ⟨some 158, .mv, [(.t 31)], [], none⟩,
    ⟨some 159, .call [55], [(.c (D.fn 28 [])), (.c (D.str (⟨#[122, 122]⟩ : ByteArray))), (.c (D.int .u64 1)), (.c (D.int .u8 1)), (.c (D.int .i64 0)), (.c (D.int .i64 10)), (.c (D.int .i64 5))], [], none⟩,
    ⟨some 160, .call [56, 57, 58], [(.c (D.fn 22 [])), (.t 158), (.t 159), (.c (D.int .i64 5))], [0, 1, 1], none⟩,
    ⟨some 157, .mv, [(.t 160)], [2], none⟩,
    ⟨some 161, .ext 0, [(.t 157)], [3], none⟩,
    ⟨some 162, .ext 1, [(.t 157)], [3], none⟩,
    ⟨some 163, .ext 2, [(.t 157)], [3], none⟩,
    ⟨some 33, .mv, [(.t 161)], [4, 2, 0, 1, 2, 3, 4], none⟩,
    ⟨some 34, .mv, [(.t 162)], [5, 7, 0, 1, 2, 3, 4, 5, 7], none⟩,
    ⟨some 35, .mv, [(.t 163)], [6, 8, 0, 1, 2, 3, 4, 5, 6, 7, 8], none⟩])
  (.seq (.region false [
    ⟨some 165, .mv, [(.t 31)], [], none⟩,
    ⟨some 166, .call [59], [(.c (D.fn 28 [])), (.c (D.str (⟨#[122, 122]⟩ : ByteArray))), (.c (D.int .u64 1)), (.c (D.int .u8 1)), (.c (D.int .i64 6)), (.c (D.int .i64 10)), (.c (D.int .i64 5))], [], none⟩,
    ⟨some 167, .call [60, 61], [(.c (D.fn 27 [])), (.t 165), (.t 166), (.c (D.int .u8 7))], [0, 1, 1], none⟩,
    ⟨some 164, .mv, [(.t 167)], [2], none⟩,
    ⟨some 168, .ext 0, [(.t 164)], [3], none⟩,
    ⟨some 169, .ext 1, [(.t 164)], [3], none⟩,
    ⟨some 36, .mv, [(.t 168)], [4, 2, 0, 1, 2, 3, 4], none⟩,
    ⟨some 37, .mv, [(.t 169)], [5, 6, 0, 1, 2, 3, 4, 5, 6], none⟩])
  (.seq (.region false [
    ⟨some 171, .mv, [(.t 1)], [], none⟩,
    ⟨some 172, .call [62, 63], [(.c (D.fn 17 [])), (.t 171), (.c (D.str (⟨#[99]⟩ : ByteArray)))], [0], none⟩,
    ⟨some 170, .mv, [(.t 172)], [1], none⟩,
    ⟨some 173, .ext 0, [(.t 170)], [2], none⟩,
    ⟨some 174, .ext 1, [(.t 170)], [2], none⟩,
    ⟨some 38, .mv, [(.t 173)], [3, 1, 0, 1, 2, 3], none⟩,
    ⟨some 39, .mv, [(.t 174)], [4, 5, 0, 1, 2, 3, 4, 5], none⟩])
  (.seq (.region false [
    ⟨some 176, .mv, [(.t 1)], [], none⟩,
    ⟨some 177, .call [64, 65], [(.c (D.fn 17 [])), (.t 176), (.c (D.str (⟨#[97]⟩ : ByteArray)))], [0], none⟩,
    ⟨some 175, .mv, [(.t 177)], [1], none⟩,
    ⟨some 178, .ext 0, [(.t 175)], [2], none⟩,
    ⟨some 179, .ext 1, [(.t 175)], [2], none⟩,
    ⟨some 40, .mv, [(.t 178)], [3, 1, 0, 1, 2, 3], none⟩,
    ⟨some 41, .mv, [(.t 179)], [4, 5, 0, 1, 2, 3, 4, 5], none⟩])
  (.seq (.region false [
    ⟨some 181, .mv, [(.t 1)], [], none⟩,
    ⟨some 182, .call [66, 67], [(.c (D.fn 15 [])), (.t 181), (.c (D.int .i64 (-1))), (.c (D.int .i64 0))], [0], none⟩,
    ⟨some 180, .mv, [(.t 182)], [1], none⟩,
    ⟨some 183, .ext 0, [(.t 180)], [2], none⟩,
    ⟨some 184, .ext 1, [(.t 180)], [2], none⟩,
    ⟨some 42, .mv, [(.t 183)], [3, 1, 0, 1, 2, 3], none⟩,
    ⟨some 43, .mv, [(.t 184)], [4, 5, 0, 1, 2, 3, 4, 5], none⟩])
  (.seq (.region false [
    ⟨some 186, .mv, [(.t 1)], [], none⟩,
    ⟨some 187, .call [68, 69], [(.c (D.fn 15 [])), (.t 186), (.c (D.int .i64 160)), (.c (D.int .i64 0))], [0], none⟩,
    ⟨some 185, .mv, [(.t 187)], [1], none⟩,
    ⟨some 188, .ext 0, [(.t 185)], [2], none⟩,
    ⟨some 189, .ext 1, [(.t 185)], [2], none⟩,
    ⟨some 44, .mv, [(.t 188)], [3, 1, 0, 1, 2, 3], none⟩,
    ⟨some 45, .mv, [(.t 189)], [4, 5, 0, 1, 2, 3, 4, 5], none⟩])
  (.seq (.region false [
    ⟨some 191, .mv, [(.t 1)], [], none⟩,
    ⟨some 192, .call [70], [(.c (D.fn 28 [])), (.c (D.str (⟨#[98]⟩ : ByteArray))), (.c (D.int .u64 5)), (.c (D.int .u8 2)), (.c (D.int .i64 100)), (.c (D.int .i64 200)), (.c (D.int .i64 150))], [], none⟩,
    ⟨some 193, .buildSl 2 47, [(.t 192)], [1], none⟩,
    ⟨some 194, .call [71, 72], [(.c (D.fn 12 [])), (.t 191), (.t 193)], [0, 2, 1], none⟩,
    ⟨some 190, .mv, [(.t 194)], [3], none⟩,
    ⟨some 195, .ext 0, [(.t 190)], [4], none⟩,
    ⟨some 196, .ext 1, [(.t 190)], [4], none⟩,
    ⟨some 46, .mv, [(.t 195)], [5, 3, 0, 1, 2, 3, 4, 5], none⟩,
    ⟨some 47, .mv, [(.t 196)], [6, 7, 0, 1, 2, 3, 4, 5, 6, 7], none⟩])
  (.seq (.region false [
    ⟨some 198, .mv, [(.t 1)], [], none⟩,
    ⟨some 199, .call [73], [(.c (D.fn 28 [])), (.c (D.str (⟨#[97]⟩ : ByteArray))), (.c (D.int .u64 1)), (.c (D.int .u8 2)), (.c (D.int .i64 0)), (.c (D.int .i64 1)), (.c (D.int .i64 1))], [], none⟩,
    ⟨some 200, .call [74], [(.c (D.fn 28 [])), (.c (D.str (⟨#[98]⟩ : ByteArray))), (.c (D.int .u64 5)), (.c (D.int .u8 1)), (.c (D.int .i64 100)), (.c (D.int .i64 200)), (.c (D.int .i64 151))], [1], none⟩,
    ⟨some 201, .call [75], [(.c (D.fn 28 [])), (.c (D.str (⟨#[99]⟩ : ByteArray))), (.c (D.int .u64 1)), (.c (D.int .u8 1)), (.c (D.int .i64 0)), (.c (D.int .i64 0)), (.c (D.int .i64 0))], [2], none⟩,
    ⟨some 202, .buildSl 3 47, [(.t 199), (.t 200), (.t 201)], [1, 2, 3], none⟩,
    ⟨some 203, .call [76, 77], [(.c (D.fn 12 [])), (.t 198), (.t 202)], [0, 4, 3], none⟩,
    ⟨some 197, .mv, [(.t 203)], [5], none⟩,
    ⟨some 204, .ext 0, [(.t 197)], [6], none⟩,
    ⟨some 205, .ext 1, [(.t 197)], [6], none⟩,
    ⟨some 48, .mv, [(.t 204)], [7, 5, 0, 1, 2, 3, 4, 5, 6, 7], none⟩,
    ⟨some 49, .mv, [(.t 205)], [8, 9, 0, 1, 2, 3, 4, 5, 6, 7, 8, 9], none⟩])
  (.seq (.region false [
    ⟨some 207, .mv, [(.t 31)], [], none⟩,
    ⟨some 208, .call [78], [(.c (D.fn 28 [])), (.c (D.str (⟨#[122, 122]⟩ : ByteArray))), (.c (D.int .u64 1)), (.c (D.int .u8 1)), (.c (D.int .i64 0)), (.c (D.int .i64 10)), (.c (D.int .i64 5))], [], none⟩,
    ⟨some 209, .buildSl 4 47, [(.t 208)], [1], none⟩,
    ⟨some 210, .call [79, 80], [(.c (D.fn 12 [])), (.t 207), (.t 209)], [0, 2, 1], none⟩,
    ⟨some 206, .mv, [(.t 210)], [3], none⟩,
    ⟨some 211, .ext 0, [(.t 206)], [4], none⟩,
    ⟨some 212, .ext 1, [(.t 206)], [4], none⟩,
    ⟨some 50, .mv, [(.t 211)], [5, 3, 0, 1, 2, 3, 4, 5], none⟩,
    ⟨some 51, .mv, [(.t 212)], [6, 7, 0, 1, 2, 3, 4, 5, 6, 7], none⟩])
  (.seq (.seq (.region false [
    ⟨some 213, .mv, [(.t 1)], [], none⟩,
    ⟨some 214, .len, [(.t 213)], [0], none⟩,
    ⟨some 215, .bin .neq, [(.t 214), (.c (D.int .i64 2))], [1], none⟩])
  (.cond (.t 215) (.seq (.region false [
    ⟨some 0, .mv, [(.c (D.bool false))], [], none⟩])
  (.ret)) (.skip)))
  (.seq (.region true [
    ⟨some 216, .mv, [(.t 1)], [], none⟩,
    ⟨some 217, .idxA 47, [(.t 216), (.c (D.int .i64 1))], [0], none⟩,
    ⟨some 218, .load ⟨true, [.str, .int .u64, .int .u8, .int .u8, .int .u8, .int .u8, .int .u8, .int .u8, .int .u8, .int .u8, .int .u8, .int .u8, .int .u8, .int .u8, .int .u8, .int .u8, .int .u8, .int .u8, .int .u8, .int .u8, .int .u8, .int .u8, .int .u8, .int .u8, .int .u8, .int .u8, .int .u8, .int .u8, .int .u8, .int .u8, .int .u8, .int .u8, .int .u8, .int .u8, .int .i64, .int .i64, .int .i64]⟩, [(.t 217)], [1], none⟩,
    ⟨some 219, .mv, [(.t 1)], [], none⟩,
    ⟨some 220, .idxA 47, [(.t 219), (.c (D.int .i64 0))], [3], none⟩,
    ⟨some 221, .load ⟨true, [.str, .int .u64, .int .u8, .int .u8, .int .u8, .int .u8, .int .u8, .int .u8, .int .u8, .int .u8, .int .u8, .int .u8, .int .u8, .int .u8, .int .u8, .int .u8, .int .u8, .int .u8, .int .u8, .int .u8, .int .u8, .int .u8, .int .u8, .int .u8, .int .u8, .int .u8, .int .u8, .int .u8, .int .u8, .int .u8, .int .u8, .int .u8, .int .u8, .int .u8, .int .i64, .int .i64, .int .i64]⟩, [(.t 220)], [4], none⟩,
    ⟨some 222, .buildSl 5 47, [(.t 218), (.t 221)], [2, 5], none⟩,
    ⟨some 223, .call [81], [(.c (D.fn 19 [])), (.t 222)], [6], none⟩,
    ⟨some 224, .bin .eql, [(.t 223), (.c (D.int .i64 8))], [7], none⟩,
    ⟨some 225, .mv, [(.t 224)], [8, 7], none⟩,
    ⟨some 226, .mv, [(.t 1)], [9], some (225, true)⟩,
    ⟨some 227, .idxA 47, [(.t 226), (.c (D.int .i64 0))], [10, 9], some (225, true)⟩,
    ⟨some 228, .load ⟨true, [.str, .int .u64, .int .u8, .int .u8, .int .u8, .int .u8, .int .u8, .int .u8, .int .u8, .int .u8, .int .u8, .int .u8, .int .u8, .int .u8, .int .u8, .int .u8, .int .u8, .int .u8, .int .u8, .int .u8, .int .u8, .int .u8, .int .u8, .int .u8, .int .u8, .int .u8, .int .u8, .int .u8, .int .u8, .int .u8, .int .u8, .int .u8, .int .u8, .int .u8, .int .i64, .int .i64, .int .i64]⟩, [(.t 227)], [11, 9], some (225, true)⟩,
    ⟨some 229, .mv, [(.t 1)], [9], some (225, true)⟩,
    ⟨some 230, .idxA 47, [(.t 229), (.c (D.int .i64 0))], [13, 9], some (225, true)⟩,
    ⟨some 231, .load ⟨true, [.str, .int .u64, .int .u8, .int .u8, .int .u8, .int .u8, .int .u8, .int .u8, .int .u8, .int .u8, .int .u8, .int .u8, .int .u8, .int .u8, .int .u8, .int .u8, .int .u8, .int .u8, .int .u8, .int .u8, .int .u8, .int .u8, .int .u8, .int .u8, .int .u8, .int .u8, .int .u8, .int .u8, .int .u8, .int .u8, .int .u8, .int .u8, .int .u8, .int .u8, .int .i64, .int .i64, .int .i64]⟩, [(.t 230)], [14, 9], some (225, true)⟩,
    ⟨some 232, .buildSl 6 47, [(.t 228), (.t 231)], [12, 15, 9], some (225, true)⟩,
    ⟨some 233, .call [82], [(.c (D.fn 19 [])), (.t 232)], [16, 9, 9], some (225, true)⟩,
    ⟨some 234, .bin .eql, [(.t 233), (.c (D.int .i64 8))], [17, 9], some (225, true)⟩,
    ⟨some 235, .pick, [(.t 225), (.t 234), (.c (D.bool false))], [9, 18], none⟩,
    ⟨some 236, .mv, [(.t 235)], [19, 17], none⟩,
    ⟨some 237, .call [83], [(.c (D.fn 28 [])), (.c (D.str (⟨#[97, 32, 98]⟩ : ByteArray))), (.c (D.int .u64 1)), (.c (D.int .u8 1)), (.c (D.int .i64 0)), (.c (D.int .i64 0)), (.c (D.int .i64 0))], [20, 20], some (236, true)⟩,
    ⟨some 238, .buildSl 7 47, [(.t 237)], [21, 20], some (236, true)⟩,
    ⟨some 239, .call [84], [(.c (D.fn 19 [])), (.t 238)], [22, 21, 20], some (236, true)⟩,
    ⟨some 240, .bin .eql, [(.t 239), (.c (D.int .i64 8))], [23, 20], some (236, true)⟩,
    ⟨some 241, .pick, [(.t 236), (.t 240), (.c (D.bool false))], [20, 24], none⟩,
    ⟨some 242, .mv, [(.t 241)], [25, 23], none⟩,
    ⟨some 243, .mkSl 8 47 (D.agg [(D.str ⟨#[]⟩), (D.int .u64 0), (D.int .u8 0), (D.int .u8 0), (D.int .u8 0), (D.int .u8 0), (D.int .u8 0), (D.int .u8 0), (D.int .u8 0), (D.int .u8 0), (D.int .u8 0), (D.int .u8 0), (D.int .u8 0), (D.int .u8 0), (D.int .u8 0), (D.int .u8 0), (D.int .u8 0), (D.int .u8 0), (D.int .u8 0), (D.int .u8 0), (D.int .u8 0), (D.int .u8 0), (D.int .u8 0), (D.int .u8 0), (D.int .u8 0), (D.int .u8 0), (D.int .u8 0), (D.int .u8 0), (D.int .u8 0), (D.int .u8 0), (D.int .u8 0), (D.int .u8 0), (D.int .u8 0), (D.int .u8 0), (D.int .i64 0), (D.int .i64 0), (D.int .i64 0)]) 80, [(.c (D.int .i64 201)), (.c (D.int .i64 201))], [26], some (242, true)⟩,
    ⟨some 244, .call [85], [(.c (D.fn 19 [])), (.t 243)], [27, 26, 26], some (242, true)⟩,
    ⟨some 245, .bin .eql, [(.t 244), (.c (D.int .i64 4))], [28, 26], some (242, true)⟩,
    ⟨some 246, .pick, [(.t 242), (.t 245), (.c (D.bool false))], [26, 29], none⟩,
    ⟨some 247, .mv, [(.t 246)], [30, 28], none⟩,
    ⟨some 248, .mv, [(.t 31)], [31], some (247, true)⟩,
    ⟨some 249, .call [86], [(.c (D.fn 19 [])), (.t 248)], [32, 31, 31], some (247, true)⟩,
    ⟨some 250, .bin .eql, [(.t 249), (.c (D.int .i64 0))], [33, 31], some (247, true)⟩,
    ⟨some 251, .pick, [(.t 247), (.t 250), (.c (D.bool false))], [31, 34], none⟩,
    ⟨some 252, .mv, [(.t 251)], [35, 33], none⟩,
    ⟨some 253, .call [87], [(.c (D.fn 28 [])), (.c (D.str (⟨#[97]⟩ : ByteArray))), (.c (D.int .u64 1)), (.c (D.int .u8 1)), (.c (D.int .i64 0)), (.c (D.int .i64 1099511627777)), (.c (D.int .i64 0))], [36, 36], some (252, true)⟩,
    ⟨some 254, .buildSl 9 47, [(.t 253)], [37, 36], some (252, true)⟩,
    ⟨some 255, .call [88], [(.c (D.fn 19 [])), (.t 254)], [38, 37, 36], some (252, true)⟩,
    ⟨some 256, .bin .eql, [(.t 255), (.c (D.int .i64 8))], [39, 36], some (252, true)⟩,
    ⟨some 257, .pick, [(.t 252), (.t 256), (.c (D.bool false))], [36, 40], none⟩,
    ⟨some 52, .mv, [(.t 257)], [41, 39, 0, 1, 2, 3, 4, 5, 6, 7, 8, 9, 10, 11, 12, 13, 14, 15, 16, 17, 18, 19, 20, 21, 22, 23, 24, 25, 26, 27, 28, 29, 30, 31, 32, 33, 34, 35, 36, 37, 38, 39, 40, 41], none⟩])
  (.seq (.region false [
    ⟨some 258, .mv, [(.t 2)], [], none⟩,
    ⟨some 259, .mv, [(.t 258)], [0], none⟩,
    ⟨some 260, .mv, [(.t 3)], [1], some (259, true)⟩,
    ⟨some 261, .pick, [(.t 259), (.t 260), (.c (D.bool false))], [1, 2], none⟩,
    ⟨some 262, .mv, [(.t 261)], [3, 1], none⟩,
    ⟨some 263, .mv, [(.t 5)], [4], some (262, true)⟩,
    ⟨some 264, .pick, [(.t 262), (.t 263), (.c (D.bool false))], [4, 5], none⟩,
    ⟨some 265, .mv, [(.t 264)], [6, 4], none⟩,
    ⟨some 266, .mv, [(.t 7)], [7], some (265, true)⟩,
    ⟨some 267, .pick, [(.t 265), (.t 266), (.c (D.bool false))], [7, 8], none⟩,
    ⟨some 268, .mv, [(.t 267)], [9, 7], none⟩,
    ⟨some 269, .mv, [(.t 9)], [10], some (268, true)⟩,
    ⟨some 270, .pick, [(.t 268), (.t 269), (.c (D.bool false))], [10, 11], none⟩,
    ⟨some 271, .mv, [(.t 270)], [12, 10], none⟩,
    ⟨some 272, .mv, [(.t 11)], [13], some (271, true)⟩,
    ⟨some 273, .pick, [(.t 271), (.t 272), (.c (D.bool false))], [13, 14], none⟩,
    ⟨some 274, .mv, [(.t 273)], [15, 13], none⟩,
    ⟨some 275, .mv, [(.t 13)], [16], some (274, true)⟩,
    ⟨some 276, .pick, [(.t 274), (.t 275), (.c (D.bool false))], [16, 17], none⟩,
    ⟨some 277, .mv, [(.t 276)], [18, 16], none⟩,
    ⟨some 278, .mv, [(.t 15)], [19], some (277, true)⟩,
    ⟨some 279, .pick, [(.t 277), (.t 278), (.c (D.bool false))], [19, 20], none⟩,
    ⟨some 280, .mv, [(.t 279)], [21, 19], none⟩,
    ⟨some 281, .mv, [(.t 37)], [22], some (280, true)⟩,
    ⟨some 282, .pick, [(.t 280), (.t 281), (.c (D.bool false))], [22, 23], none⟩,
    ⟨some 53, .mv, [(.t 282)], [24, 22, 0, 1, 2, 3, 4, 5, 6, 7, 8, 9, 10, 11, 12, 13, 14, 15, 16, 17, 18, 19, 20, 21, 22, 23, 24], none⟩])
  (.seq (.seq (.region false [
    ⟨some 283, .mv, [(.t 49)], [], none⟩,
    ⟨some 284, .bin .neq, [(.t 283), (.c (D.int .i64 0))], [0], none⟩,
    ⟨some 285, .mv, [(.t 284)], [1], none⟩,
    ⟨some 286, .mv, [(.t 48)], [2], some (285, false)⟩,
    ⟨some 287, .len, [(.t 286)], [3, 2], some (285, false)⟩,
    ⟨some 288, .bin .neq, [(.t 287), (.c (D.int .i64 3))], [4, 2], some (285, false)⟩,
    ⟨some 289, .pick, [(.t 285), (.c (D.bool true)), (.t 288)], [2, 5], none⟩,
    ⟨some 290, .mv, [(.t 289)], [6, 2], none⟩,
    ⟨some 291, .mv, [(.t 41)], [7], some (290, false)⟩,
    ⟨some 292, .bin .neq, [(.t 291), (.c (D.int .i64 0))], [8, 7], some (290, false)⟩,
    ⟨some 293, .pick, [(.t 290), (.c (D.bool true)), (.t 292)], [7, 9], none⟩,
    ⟨some 294, .mv, [(.t 293)], [10, 7], none⟩,
    ⟨some 295, .mv, [(.t 40)], [11], some (294, false)⟩,
    ⟨some 296, .len, [(.t 295)], [12, 11], some (294, false)⟩,
    ⟨some 297, .bin .neq, [(.t 296), (.c (D.int .i64 1))], [13, 11], some (294, false)⟩,
    ⟨some 298, .pick, [(.t 294), (.c (D.bool true)), (.t 297)], [11, 14], none⟩])
  (.cond (.t 298) (.seq (.region false [
    ⟨some 0, .mv, [(.c (D.bool false))], [], none⟩])
  (.ret)) (.skip)))
  (.seq (.region false [
    ⟨some 299, .call [89], [(.c (D.fn 24 []))], [], none⟩,
    ⟨some 300, .mv, [(.t 299)], [0, 0], none⟩,
    ⟨some 301, .mv, [(.t 53)], [1], some (300, true)⟩,
    ⟨some 302, .pick, [(.t 300), (.t 301), (.c (D.bool false))], [1, 2], none⟩,
    ⟨some 303, .mv, [(.t 302)], [3, 1], none⟩,
    ⟨some 304, .mv, [(.t 52)], [4], some (303, true)⟩,
    ⟨some 305, .pick, [(.t 303), (.t 304), (.c (D.bool false))], [4, 5], none⟩,
    ⟨some 306, .mv, [(.t 305)], [6, 4], none⟩,
    ⟨some 307, .mv, [(.t 18)], [7], some (306, true)⟩,
    ⟨some 308, .bin .eql, [(.t 307), (.c (D.int .i64 30))], [8, 7], some (306, true)⟩,
    ⟨some 309, .pick, [(.t 306), (.t 308), (.c (D.bool false))], [7, 9], none⟩,
    ⟨some 310, .mv, [(.t 309)], [10, 7], none⟩,
    ⟨some 311, .mv, [(.t 21)], [11], some (310, true)⟩,
    ⟨some 312, .bin .eql, [(.t 311), (.c (D.int .i64 2))], [12, 11], some (310, true)⟩,
    ⟨some 313, .pick, [(.t 310), (.t 312), (.c (D.bool false))], [11, 13], none⟩,
    ⟨some 314, .mv, [(.t 313)], [14, 11], none⟩,
    ⟨some 315, .mv, [(.t 24)], [15], some (314, true)⟩,
    ⟨some 316, .bin .eql, [(.t 315), (.c (D.int .i64 2))], [16, 15], some (314, true)⟩,
    ⟨some 317, .pick, [(.t 314), (.t 316), (.c (D.bool false))], [15, 17], none⟩,
    ⟨some 318, .mv, [(.t 317)], [18, 15], none⟩,
    ⟨some 319, .mv, [(.t 27)], [19], some (318, true)⟩,
    ⟨some 320, .bin .eql, [(.t 319), (.c (D.int .i64 2))], [20, 19], some (318, true)⟩,
    ⟨some 321, .pick, [(.t 318), (.t 320), (.c (D.bool false))], [19, 21], none⟩,
    ⟨some 322, .mv, [(.t 321)], [22, 19], none⟩,
    ⟨some 323, .mv, [(.t 30)], [23], some (322, true)⟩,
    ⟨some 324, .bin .eql, [(.t 323), (.c (D.int .i64 2))], [24, 23], some (322, true)⟩,
    ⟨some 325, .pick, [(.t 322), (.t 324), (.c (D.bool false))], [23, 25], none⟩,
    ⟨some 326, .mv, [(.t 325)], [26, 23], none⟩,
    ⟨some 327, .mv, [(.t 35)], [27], some (326, true)⟩,
    ⟨some 328, .bin .eql, [(.t 327), (.c (D.int .i64 16))], [28, 27], some (326, true)⟩,
    ⟨some 329, .pick, [(.t 326), (.t 328), (.c (D.bool false))], [27, 29], none⟩,
    ⟨some 330, .mv, [(.t 329)], [30, 27], none⟩,
    ⟨some 331, .mv, [(.t 39)], [31], some (330, true)⟩,
    ⟨some 332, .bin .eql, [(.t 331), (.c (D.int .i64 6))], [32, 31], some (330, true)⟩,
    ⟨some 333, .pick, [(.t 330), (.t 332), (.c (D.bool false))], [31, 33], none⟩,
    ⟨some 334, .mv, [(.t 333)], [34, 31], none⟩,
    ⟨some 335, .mv, [(.t 40)], [35], some (334, true)⟩,
    ⟨some 336, .idxA 47, [(.t 335), (.c (D.int .i64 0))], [36, 35], some (334, true)⟩,
    ⟨some 337, .fld 0, [(.t 336)], [37, 35], some (334, true)⟩,
    ⟨some 338, .load ⟨false, [.str]⟩, [(.t 337)], [38, 35], some (334, true)⟩,
    ⟨some 339, .bin .eql, [(.t 338), (.c (D.str (⟨#[98]⟩ : ByteArray)))], [39, 35], some (334, true)⟩,
    ⟨some 340, .pick, [(.t 334), (.t 339), (.c (D.bool false))], [35, 40], none⟩,
    ⟨some 341, .mv, [(.t 340)], [41, 35], none⟩,
    ⟨some 342, .mv, [(.t 43)], [42], some (341, true)⟩,
    ⟨some 343, .bin .eql, [(.t 342), (.c (D.int .i64 2))], [43, 42], some (341, true)⟩,
    ⟨some 344, .pick, [(.t 341), (.t 343), (.c (D.bool false))], [42, 44], none⟩,
    ⟨some 345, .mv, [(.t 344)], [45, 42], none⟩,
    ⟨some 346, .mv, [(.t 45)], [46], some (345, true)⟩,
    ⟨some 347, .bin .eql, [(.t 346), (.c (D.int .i64 0))], [47, 46], some (345, true)⟩,
    ⟨some 348, .pick, [(.t 345), (.t 347), (.c (D.bool false))], [46, 48], none⟩,
    ⟨some 349, .mv, [(.t 348)], [49, 46], none⟩,
    ⟨some 350, .mv, [(.t 44)], [50], some (349, true)⟩,
    ⟨some 351, .buildSl 10 9, [(.c (D.str (⟨#[98]⟩ : ByteArray)))], [50], some (349, true)⟩,
    ⟨some 352, .call [90], [(.c (D.fn 21 [])), (.t 350), (.t 351)], [51, 52, 50, 50], some (349, true)⟩,
    ⟨some 353, .pick, [(.t 349), (.t 352), (.c (D.bool false))], [50, 53], none⟩,
    ⟨some 354, .mv, [(.t 353)], [54, 53], none⟩,
    ⟨some 355, .mv, [(.t 47)], [55], some (354, true)⟩,
    ⟨some 356, .bin .eql, [(.t 355), (.c (D.int .i64 14))], [56, 55], some (354, true)⟩,
    ⟨some 357, .pick, [(.t 354), (.t 356), (.c (D.bool false))], [55, 57], none⟩,
    ⟨some 358, .mv, [(.t 357)], [58, 55], none⟩,
    ⟨some 359, .mv, [(.t 48)], [59], some (358, true)⟩,
    ⟨some 360, .idxA 47, [(.t 359), (.c (D.int .i64 0))], [60, 59], some (358, true)⟩,
    ⟨some 361, .fld 1, [(.t 360)], [61, 59], some (358, true)⟩,
    ⟨some 362, .load ⟨false, [.int .u64]⟩, [(.t 361)], [62, 59], some (358, true)⟩,
    ⟨some 363, .bin .eql, [(.t 362), (.c (D.int .u64 1))], [63, 59], some (358, true)⟩,
    ⟨some 364, .pick, [(.t 358), (.t 363), (.c (D.bool false))], [59, 64], none⟩,
    ⟨some 365, .mv, [(.t 364)], [65, 59], none⟩,
    ⟨some 366, .mv, [(.t 48)], [66], some (365, true)⟩,
    ⟨some 367, .idxA 47, [(.t 366), (.c (D.int .i64 1))], [67, 66], some (365, true)⟩,
    ⟨some 368, .fld 36, [(.t 367)], [68, 66], some (365, true)⟩,
    ⟨some 369, .load ⟨false, [.int .i64]⟩, [(.t 368)], [69, 66], some (365, true)⟩,
    ⟨some 370, .bin .eql, [(.t 369), (.c (D.int .i64 151))], [70, 66], some (365, true)⟩,
    ⟨some 371, .pick, [(.t 365), (.t 370), (.c (D.bool false))], [66, 71], none⟩,
    ⟨some 372, .mv, [(.t 371)], [72, 66], none⟩,
    ⟨some 373, .mv, [(.t 48)], [73], some (372, true)⟩,
    ⟨some 374, .idxA 47, [(.t 373), (.c (D.int .i64 2))], [74, 73], some (372, true)⟩,
    ⟨some 375, .fld 0, [(.t 374)], [75, 73], some (372, true)⟩,
    ⟨some 376, .load ⟨false, [.str]⟩, [(.t 375)], [76, 73], some (372, true)⟩,
    ⟨some 377, .bin .eql, [(.t 376), (.c (D.str (⟨#[99]⟩ : ByteArray)))], [77, 73], some (372, true)⟩,
    ⟨some 378, .pick, [(.t 372), (.t 377), (.c (D.bool false))], [73, 78], none⟩,
    ⟨some 379, .mv, [(.t 378)], [79, 73], none⟩,
    ⟨some 380, .mv, [(.t 51)], [80], some (379, true)⟩,
    ⟨some 381, .bin .eql, [(.t 380), (.c (D.int .i64 16))], [81, 80], some (379, true)⟩,
    ⟨some 382, .pick, [(.t 379), (.t 381), (.c (D.bool false))], [80, 82], none⟩,
    ⟨some 383, .mv, [(.t 382)], [83, 80], none⟩,
    ⟨some 384, .pick, [(.t 383), (.c (D.bool true)), (.c (D.bool false))], [84], none⟩,
    ⟨some 0, .mv, [(.t 384)], [85, 84, 0, 1, 2, 3, 4, 5, 6, 7, 8, 9, 10, 11, 12, 13, 14, 15, 16, 17, 18, 19, 20, 21, 22, 23, 24, 25, 26, 27, 28, 29, 30, 31, 32, 33, 34, 35, 36, 37, 38, 39, 40, 41, 42, 43, 44, 45, 46, 47, 48, 49, 50, 51, 52, 53, 54, 55, 56, 57, 58, 59, 60, 61, 62, 63, 64, 65, 66, 67, 68, 69, 70, 71, 72, 73, 74, 75, 76, 77, 78, 79, 80, 81, 82, 83, 84, 85], none⟩])
  (.ret))))))))))))))))))))))))))))))⟩

def tabL : List (Nat × Entry) := [(42, .spec ⟨[.g 47, .p, .g 47], [.o 47]⟩ (insSpec 47 80)),
  (11, .code c_gatepathref29_Great),
  (35, .code c_fresh_moment),
  (40, .code c_fresh_right),
  (19, .code c_fresh_Check),
  (29, .code c_fresh_Merge_1),
  (30, .code c_fresh_zip),
  (45, .code c_cmp_isNaN),
  (32, .code c_cmp_Compare),
  (31, .code c_fresh_Merge_2),
  (12, .code c_fresh_Merge),
  (26, .code c_gatepathref29_Moment),
  (41, .code c_gatepathref29_Right),
  (20, .code c_gatepathref29_Check),
  (33, .code c_gatepathref29_find),
  (34, .code c_gatepathref29_put),
  (13, .code c_gatepathref29_Merge),
  (14, .code c_gatepathref29_Same),
  (3, .code c_gatepathlaw29_FreshMerges),
  (36, .code c_fresh_Late_1),
  (15, .code c_fresh_Late),
  (16, .code c_gatepathref29_Late),
  (46, .code c_slices_BinarySearchFunc),
  (47, .code c_fresh_find_1),
  (37, .code c_fresh_find),
  (38, .code c_slices_Delete),
  (39, .code c_slices_Clone),
  (17, .code c_fresh_Forget),
  (18, .code c_gatepathref29_Forget),
  (21, .code c_gatepathref29_SameStrings),
  (4, .code c_gatepathlaw29_FreshLists),
  (43, .code c_fresh_judge),
  (22, .code c_fresh_Look),
  (44, .code c_gatepathref29_judge),
  (23, .code c_gatepathref29_Look),
  (5, .code c_gatepathlaw29_FreshLooks),
  (27, .code c_gatepathlaw29_look),
  (28, .code c_gatepathlaw29_manifest),
  (24, .code c_gatepathlaw29_alive),
  (25, .code c_gatepathlaw29_record),
  (6, .code c_gatepathlaw29_FreshNever),
  (7, .code c_gatepathlaw29_FreshAgain),
  (8, .code c_gatepathlaw29_FreshLate),
  (9, .code c_gatepathlaw29_FreshOrder),
  (10, .code c_gatepathlaw29_FreshNames)]
def tab (g : Nat) : Option Entry := tabL.lookup g

end Go.Proofs.Ytmfhhbiaghejjaa.Own
