import Derived.Test.YtmfhhbiaghejjaaG4
namespace Go.Proofs.Ytmfhhbiaghejjaa.Own
open Go Go.Proofs.Ytmfhhbiaghejjaa.GD

def tyL : List (Nat × Vk) := [(5, ⟨false, [.int .u8]⟩), (9, ⟨false, [.str]⟩), (47, ⟨true, [.str, .int .u64, .int .u8, .int .u8, .int .u8, .int .u8, .int .u8, .int .u8, .int .u8, .int .u8, .int .u8, .int .u8, .int .u8, .int .u8, .int .u8, .int .u8, .int .u8, .int .u8, .int .u8, .int .u8, .int .u8, .int .u8, .int .u8, .int .u8, .int .u8, .int .u8, .int .u8, .int .u8, .int .u8, .int .u8, .int .u8, .int .u8, .int .u8, .int .u8, .int .i64, .int .i64, .int .i64]⟩)]
def ty (e : Nat) : Option Vk := tyL.lookup e

/- 35: gatepath/fresh.moment -/
def c_fresh_moment : DFun := ⟨9, 1, [.p], [.p ⟨false, [.bool]⟩], [.t 2],
  .seq (.region false [
    ⟨some 2, .mv, [(.c (D.bool false))], [], none⟩])
  (.seq (.region false [
    ⟨some 3, .mv, [(.t 0)], [], none⟩,
    ⟨some 4, .bin .geq, [(.t 3), (.c (D.int .i64 0))], [0], none⟩,
    ⟨some 5, .mv, [(.t 4)], [1], none⟩,
    ⟨some 6, .mv, [(.t 0)], [2], some (5, true)⟩,
    ⟨some 7, .bin .leq, [(.t 6), (.c (D.int .i64 1099511627776))], [3, 2], some (5, true)⟩,
    ⟨some 8, .pick, [(.t 5), (.t 7), (.c (D.bool false))], [2, 4], none⟩,
    ⟨some 2, .mv, [(.t 8)], [5, 2, 0, 1, 2, 3, 4, 5], none⟩])
  (.ret))⟩

/- 40: gatepath/fresh.right -/
def c_fresh_right : DFun := ⟨54, 5, [.p], [.p ⟨false, [.bool]⟩], [.t 2],
  .seq (.region false [
    ⟨some 1, .box 1, [(.t 0)], [], none⟩,
    ⟨some 2, .mv, [(.c (D.bool false))], [], none⟩])
  (.seq (.seq (.region false [
    ⟨some 5, .fld 0, [(.t 1)], [], none⟩,
    ⟨some 6, .load ⟨false, [.str]⟩, [(.t 5)], [0], none⟩,
    ⟨some 7, .lenS, [(.t 6)], [1], none⟩,
    ⟨some 8, .bin .eql, [(.t 7), (.c (D.int .i64 0))], [2], none⟩,
    ⟨some 9, .mv, [(.t 8)], [3], none⟩,
    ⟨some 10, .fld 0, [(.t 1)], [4], some (9, false)⟩,
    ⟨some 11, .load ⟨false, [.str]⟩, [(.t 10)], [5, 4], some (9, false)⟩,
    ⟨some 12, .lenS, [(.t 11)], [6, 4], some (9, false)⟩,
    ⟨some 13, .bin .gtr, [(.t 12), (.c (D.int .i64 200))], [7, 4], some (9, false)⟩,
    ⟨some 14, .pick, [(.t 9), (.c (D.bool true)), (.t 13)], [4, 8], none⟩])
  (.cond (.t 14) (.seq (.region false [
    ⟨some 2, .mv, [(.c (D.bool false))], [], none⟩])
  (.ret)) (.skip)))
  (.seq (.seq (.region false [
    ⟨some 15, .fld 0, [(.t 1)], [], none⟩,
    ⟨some 16, .load ⟨false, [.str]⟩, [(.t 15)], [0], none⟩,
    ⟨some 17, .bytes 5, [(.t 16)], [1], none⟩,
    ⟨some 18, .len, [(.t 17)], [2], none⟩,
    ⟨some 19, .mv, [(.c (D.int .i64 0))], [], none⟩])
  (.block 0 (.loop ⟨[1, 17, 18], [(19, .p ⟨false, [.int .i64]⟩)], [(1, .v [.p (.str), .p (.int .u64), .p (.int .u8), .p (.int .u8), .p (.int .u8), .p (.int .u8), .p (.int .u8), .p (.int .u8), .p (.int .u8), .p (.int .u8), .p (.int .u8), .p (.int .u8), .p (.int .u8), .p (.int .u8), .p (.int .u8), .p (.int .u8), .p (.int .u8), .p (.int .u8), .p (.int .u8), .p (.int .u8), .p (.int .u8), .p (.int .u8), .p (.int .u8), .p (.int .u8), .p (.int .u8), .p (.int .u8), .p (.int .u8), .p (.int .u8), .p (.int .u8), .p (.int .u8), .p (.int .u8), .p (.int .u8), .p (.int .u8), .p (.int .u8), .p (.int .i64), .p (.int .i64), .p (.int .i64)])]⟩ (.seq (.region false [
    ⟨some 20, .bin .lss, [(.t 19), (.t 18)], [], none⟩])
  (.seq (.cond (.t 20) (.skip) (.exit 0))
  (.seq (.block 1 (.seq (.region false [
    ⟨some 21, .idxA 5, [(.t 17), (.t 19)], [], none⟩,
    ⟨some 22, .load ⟨false, [.int .u8]⟩, [(.t 21)], [0], none⟩,
    ⟨some 4, .mv, [(.t 22)], [1, 0, 1], none⟩])
  (.seq (.region false [
    ⟨some 23, .mv, [(.t 4)], [], none⟩,
    ⟨some 24, .bin .lss, [(.t 23), (.c (D.int .u8 33))], [0], none⟩,
    ⟨some 25, .mv, [(.t 24)], [1], none⟩,
    ⟨some 26, .mv, [(.t 4)], [2], some (25, false)⟩,
    ⟨some 27, .bin .gtr, [(.t 26), (.c (D.int .u8 126))], [3, 2], some (25, false)⟩,
    ⟨some 28, .pick, [(.t 25), (.c (D.bool true)), (.t 27)], [2, 4], none⟩])
  (.cond (.t 28) (.seq (.region false [
    ⟨some 2, .mv, [(.c (D.bool false))], [], none⟩])
  (.ret)) (.skip)))))
  (.region false [
    ⟨some 29, .bin .add, [(.t 19), (.c (D.int .i64 1))], [], none⟩,
    ⟨some 19, .mv, [(.t 29)], [0], none⟩])))))))
  (.seq (.region false [
    ⟨some 30, .fld 34, [(.t 1)], [], none⟩,
    ⟨some 31, .fld 0, [(.t 30)], [0], none⟩,
    ⟨some 32, .load ⟨false, [.int .i64]⟩, [(.t 31)], [1], none⟩,
    ⟨some 33, .call [2], [(.c (D.fn 35 [])), (.t 32)], [2], none⟩,
    ⟨some 34, .mv, [(.t 33)], [3, 3], none⟩,
    ⟨some 35, .fld 34, [(.t 1)], [4], some (34, true)⟩,
    ⟨some 36, .fld 1, [(.t 35)], [5, 4], some (34, true)⟩,
    ⟨some 37, .load ⟨false, [.int .i64]⟩, [(.t 36)], [6, 4], some (34, true)⟩,
    ⟨some 38, .call [3], [(.c (D.fn 35 [])), (.t 37)], [7, 4, 4], some (34, true)⟩,
    ⟨some 39, .pick, [(.t 34), (.t 38), (.c (D.bool false))], [4, 8], none⟩,
    ⟨some 40, .mv, [(.t 39)], [9, 8], none⟩,
    ⟨some 41, .fld 34, [(.t 1)], [10], some (40, true)⟩,
    ⟨some 42, .fld 0, [(.t 41)], [11, 10], some (40, true)⟩,
    ⟨some 43, .load ⟨false, [.int .i64]⟩, [(.t 42)], [12, 10], some (40, true)⟩,
    ⟨some 44, .fld 34, [(.t 1)], [10], some (40, true)⟩,
    ⟨some 45, .fld 1, [(.t 44)], [14, 10], some (40, true)⟩,
    ⟨some 46, .load ⟨false, [.int .i64]⟩, [(.t 45)], [15, 10], some (40, true)⟩,
    ⟨some 47, .bin .leq, [(.t 43), (.t 46)], [13, 16, 10], some (40, true)⟩,
    ⟨some 48, .pick, [(.t 40), (.t 47), (.c (D.bool false))], [10, 17], none⟩,
    ⟨some 49, .mv, [(.t 48)], [18, 10], none⟩,
    ⟨some 50, .fld 36, [(.t 1)], [19], some (49, true)⟩,
    ⟨some 51, .load ⟨false, [.int .i64]⟩, [(.t 50)], [20, 19], some (49, true)⟩,
    ⟨some 52, .call [4], [(.c (D.fn 35 [])), (.t 51)], [21, 19, 19], some (49, true)⟩,
    ⟨some 53, .pick, [(.t 49), (.t 52), (.c (D.bool false))], [19, 22], none⟩,
    ⟨some 2, .mv, [(.t 53)], [23, 22, 0, 1, 2, 3, 4, 5, 6, 7, 8, 9, 10, 11, 12, 13, 14, 15, 16, 17, 18, 19, 20, 21, 22, 23], none⟩])
  (.ret))))⟩

/- 19: gatepath/fresh.Check -/
def c_fresh_Check : DFun := ⟨34, 3, [.p], [.p ⟨false, [.int .i64]⟩], [.t 2],
  .seq (.region false [
    ⟨some 2, .mv, [(.c (D.int .i64 0))], [], none⟩])
  (.seq (.seq (.region false [
    ⟨some 5, .mv, [(.t 0)], [], none⟩,
    ⟨some 6, .len, [(.t 5)], [0], none⟩,
    ⟨some 7, .bin .gtr, [(.t 6), (.c (D.int .i64 200))], [1], none⟩])
  (.cond (.t 7) (.seq (.region false [
    ⟨some 2, .mv, [(.c (D.int .i64 4))], [], none⟩])
  (.ret)) (.skip)))
  (.seq (.seq (.region false [
    ⟨some 8, .mv, [(.t 0)], [], none⟩,
    ⟨some 9, .len, [(.t 8)], [0], none⟩,
    ⟨some 10, .mv, [(.c (D.int .i64 0))], [], none⟩])
  (.block 0 (.loop ⟨[0, 8, 9], [(10, .p ⟨false, [.int .i64]⟩)], []⟩ (.seq (.region false [
    ⟨some 11, .bin .lss, [(.t 10), (.t 9)], [], none⟩])
  (.seq (.cond (.t 11) (.skip) (.exit 0))
  (.seq (.block 1 (.seq (.region false [
    ⟨some 12, .mv, [(.t 10)], [], none⟩,
    ⟨some 13, .idxA 47, [(.t 8), (.t 10)], [], none⟩,
    ⟨some 14, .load ⟨true, [.str, .int .u64, .int .u8, .int .u8, .int .u8, .int .u8, .int .u8, .int .u8, .int .u8, .int .u8, .int .u8, .int .u8, .int .u8, .int .u8, .int .u8, .int .u8, .int .u8, .int .u8, .int .u8, .int .u8, .int .u8, .int .u8, .int .u8, .int .u8, .int .u8, .int .u8, .int .u8, .int .u8, .int .u8, .int .u8, .int .u8, .int .u8, .int .u8, .int .u8, .int .i64, .int .i64, .int .i64]⟩, [(.t 13)], [1], none⟩,
    ⟨some 4, .alloc 1 [(D.str ⟨#[]⟩), (D.int .u64 0), (D.int .u8 0), (D.int .u8 0), (D.int .u8 0), (D.int .u8 0), (D.int .u8 0), (D.int .u8 0), (D.int .u8 0), (D.int .u8 0), (D.int .u8 0), (D.int .u8 0), (D.int .u8 0), (D.int .u8 0), (D.int .u8 0), (D.int .u8 0), (D.int .u8 0), (D.int .u8 0), (D.int .u8 0), (D.int .u8 0), (D.int .u8 0), (D.int .u8 0), (D.int .u8 0), (D.int .u8 0), (D.int .u8 0), (D.int .u8 0), (D.int .u8 0), (D.int .u8 0), (D.int .u8 0), (D.int .u8 0), (D.int .u8 0), (D.int .u8 0), (D.int .u8 0), (D.int .u8 0), (D.int .i64 0), (D.int .i64 0), (D.int .i64 0)], [], [], none⟩,
    ⟨some 3, .mv, [(.t 12)], [0, 0, 1, 2, 3], none⟩,
    ⟨none, .store ⟨true, [.str, .int .u64, .int .u8, .int .u8, .int .u8, .int .u8, .int .u8, .int .u8, .int .u8, .int .u8, .int .u8, .int .u8, .int .u8, .int .u8, .int .u8, .int .u8, .int .u8, .int .u8, .int .u8, .int .u8, .int .u8, .int .u8, .int .u8, .int .u8, .int .u8, .int .u8, .int .u8, .int .u8, .int .u8, .int .u8, .int .u8, .int .u8, .int .u8, .int .u8, .int .i64, .int .i64, .int .i64]⟩, [(.t 4), (.t 14)], [3, 2, 4, 0, 1, 2, 3, 4], none⟩])
  (.seq (.region true [
    ⟨some 15, .load ⟨true, [.str, .int .u64, .int .u8, .int .u8, .int .u8, .int .u8, .int .u8, .int .u8, .int .u8, .int .u8, .int .u8, .int .u8, .int .u8, .int .u8, .int .u8, .int .u8, .int .u8, .int .u8, .int .u8, .int .u8, .int .u8, .int .u8, .int .u8, .int .u8, .int .u8, .int .u8, .int .u8, .int .u8, .int .u8, .int .u8, .int .u8, .int .u8, .int .u8, .int .u8, .int .i64, .int .i64, .int .i64]⟩, [(.t 4)], [], none⟩,
    ⟨some 16, .call [2], [(.c (D.fn 40 [])), (.t 15)], [0], none⟩,
    ⟨some 17, .not, [(.t 16)], [1], none⟩,
    ⟨some 18, .mv, [(.t 17)], [2, 1], none⟩,
    ⟨some 19, .mv, [(.t 3)], [3], some (18, false)⟩,
    ⟨some 20, .bin .gtr, [(.t 19), (.c (D.int .i64 0))], [4, 3], some (18, false)⟩,
    ⟨some 21, .mv, [(.t 20)], [5, 3, 3], some (18, false)⟩,
    ⟨some 22, .fld 0, [(.t 4)], [6], some (21, true)⟩,
    ⟨some 23, .load ⟨false, [.str]⟩, [(.t 22)], [7, 6], some (21, true)⟩,
    ⟨some 24, .mv, [(.t 0)], [6], some (21, true)⟩,
    ⟨some 25, .mv, [(.t 3)], [6], some (21, true)⟩,
    ⟨some 26, .bin .sub, [(.t 25), (.c (D.int .i64 1))], [10, 6], some (21, true)⟩,
    ⟨some 27, .idxA 47, [(.t 24), (.t 26)], [9, 11, 6], some (21, true)⟩,
    ⟨some 28, .fld 0, [(.t 27)], [12, 6], some (21, true)⟩,
    ⟨some 29, .load ⟨false, [.str]⟩, [(.t 28)], [13, 6], some (21, true)⟩,
    ⟨some 30, .bin .leq, [(.t 23), (.t 29)], [8, 14, 6], some (21, true)⟩,
    ⟨some 31, .pick, [(.t 21), (.t 30), (.c (D.bool false))], [6, 15, 3], some (18, false)⟩,
    ⟨some 32, .pick, [(.t 18), (.c (D.bool true)), (.t 31)], [3, 16], none⟩])
  (.cond (.t 32) (.seq (.region false [
    ⟨some 2, .mv, [(.c (D.int .i64 8))], [], none⟩])
  (.ret)) (.skip)))))
  (.region false [
    ⟨some 33, .bin .add, [(.t 10), (.c (D.int .i64 1))], [], none⟩,
    ⟨some 10, .mv, [(.t 33)], [0], none⟩])))))))
  (.seq (.region false [
    ⟨some 2, .mv, [(.c (D.int .i64 0))], [], none⟩])
  (.ret))))⟩

/- 29: gatepath/fresh.Merge$1 -/
def c_fresh_Merge_1 : DFun := ⟨41, 5, [.p, .p], [.p ⟨true, [.str, .int .u64, .int .u8, .int .u8, .int .u8, .int .u8, .int .u8, .int .u8, .int .u8, .int .u8, .int .u8, .int .u8, .int .u8, .int .u8, .int .u8, .int .u8, .int .u8, .int .u8, .int .u8, .int .u8, .int .u8, .int .u8, .int .u8, .int .u8, .int .u8, .int .u8, .int .u8, .int .u8, .int .u8, .int .u8, .int .u8, .int .u8, .int .u8, .int .u8, .int .i64, .int .i64, .int .i64]⟩, .p ⟨false, [.bool]⟩], [.c 4, .t 5],
  .seq (.region false [
    ⟨some 2, .box 2, [(.t 0)], [], none⟩,
    ⟨some 3, .box 3, [(.t 1)], [], none⟩,
    ⟨some 4, .alloc 4 [(D.str ⟨#[]⟩), (D.int .u64 0), (D.int .u8 0), (D.int .u8 0), (D.int .u8 0), (D.int .u8 0), (D.int .u8 0), (D.int .u8 0), (D.int .u8 0), (D.int .u8 0), (D.int .u8 0), (D.int .u8 0), (D.int .u8 0), (D.int .u8 0), (D.int .u8 0), (D.int .u8 0), (D.int .u8 0), (D.int .u8 0), (D.int .u8 0), (D.int .u8 0), (D.int .u8 0), (D.int .u8 0), (D.int .u8 0), (D.int .u8 0), (D.int .u8 0), (D.int .u8 0), (D.int .u8 0), (D.int .u8 0), (D.int .u8 0), (D.int .u8 0), (D.int .u8 0), (D.int .u8 0), (D.int .u8 0), (D.int .u8 0), (D.int .i64 0), (D.int .i64 0), (D.int .i64 0)], [], [], none⟩,
    ⟨some 5, .mv, [(.c (D.bool false))], [], none⟩])
  (.seq (.block 0 (.seq (.region false [
    ⟨some 7, .fld 1, [(.t 2)], [], none⟩,
    ⟨some 8, .load ⟨false, [.int .u64]⟩, [(.t 7)], [0], none⟩,
    ⟨some 9, .fld 1, [(.t 3)], [], none⟩,
    ⟨some 10, .load ⟨false, [.int .u64]⟩, [(.t 9)], [2], none⟩,
    ⟨some 11, .bin .gtr, [(.t 8), (.t 10)], [1, 3], none⟩,
    ⟨some 6, .mv, [(.t 11)], [4], none⟩])
  (.cond (.t 6) (.seq (.region false [
    ⟨some 12, .load ⟨true, [.str, .int .u64, .int .u8, .int .u8, .int .u8, .int .u8, .int .u8, .int .u8, .int .u8, .int .u8, .int .u8, .int .u8, .int .u8, .int .u8, .int .u8, .int .u8, .int .u8, .int .u8, .int .u8, .int .u8, .int .u8, .int .u8, .int .u8, .int .u8, .int .u8, .int .u8, .int .u8, .int .u8, .int .u8, .int .u8, .int .u8, .int .u8, .int .u8, .int .u8, .int .i64, .int .i64, .int .i64]⟩, [(.t 2)], [], none⟩,
    ⟨none, .store ⟨true, [.str, .int .u64, .int .u8, .int .u8, .int .u8, .int .u8, .int .u8, .int .u8, .int .u8, .int .u8, .int .u8, .int .u8, .int .u8, .int .u8, .int .u8, .int .u8, .int .u8, .int .u8, .int .u8, .int .u8, .int .u8, .int .u8, .int .u8, .int .u8, .int .u8, .int .u8, .int .u8, .int .u8, .int .u8, .int .u8, .int .u8, .int .u8, .int .u8, .int .u8, .int .i64, .int .i64, .int .i64]⟩, [(.t 4), (.t 12)], [0, 0], none⟩,
    ⟨some 5, .mv, [(.c (D.bool true))], [1, 0, 1], none⟩])
  (.ret)) (.seq (.region false [
    ⟨some 14, .fld 1, [(.t 2)], [], none⟩,
    ⟨some 15, .load ⟨false, [.int .u64]⟩, [(.t 14)], [0], none⟩,
    ⟨some 16, .fld 1, [(.t 3)], [], none⟩,
    ⟨some 17, .load ⟨false, [.int .u64]⟩, [(.t 16)], [2], none⟩,
    ⟨some 18, .bin .lss, [(.t 15), (.t 17)], [1, 3], none⟩,
    ⟨some 13, .mv, [(.t 18)], [4], none⟩])
  (.cond (.t 13) (.seq (.region false [
    ⟨some 19, .load ⟨true, [.str, .int .u64, .int .u8, .int .u8, .int .u8, .int .u8, .int .u8, .int .u8, .int .u8, .int .u8, .int .u8, .int .u8, .int .u8, .int .u8, .int .u8, .int .u8, .int .u8, .int .u8, .int .u8, .int .u8, .int .u8, .int .u8, .int .u8, .int .u8, .int .u8, .int .u8, .int .u8, .int .u8, .int .u8, .int .u8, .int .u8, .int .u8, .int .u8, .int .u8, .int .i64, .int .i64, .int .i64]⟩, [(.t 3)], [], none⟩,
    ⟨none, .store ⟨true, [.str, .int .u64, .int .u8, .int .u8, .int .u8, .int .u8, .int .u8, .int .u8, .int .u8, .int .u8, .int .u8, .int .u8, .int .u8, .int .u8, .int .u8, .int .u8, .int .u8, .int .u8, .int .u8, .int .u8, .int .u8, .int .u8, .int .u8, .int .u8, .int .u8, .int .u8, .int .u8, .int .u8, .int .u8, .int .u8, .int .u8, .int .u8, .int .u8, .int .u8, .int .i64, .int .i64, .int .i64]⟩, [(.t 4), (.t 19)], [0, 0], none⟩,
    ⟨some 5, .mv, [(.c (D.bool true))], [1, 0, 1], none⟩])
  (.ret)) (.seq (.region false [
    ⟨some 21, .fld 2, [(.t 2)], [], none⟩,
    ⟨some 22, .load ⟨true, [.int .u8, .int .u8, .int .u8, .int .u8, .int .u8, .int .u8, .int .u8, .int .u8, .int .u8, .int .u8, .int .u8, .int .u8, .int .u8, .int .u8, .int .u8, .int .u8, .int .u8, .int .u8, .int .u8, .int .u8, .int .u8, .int .u8, .int .u8, .int .u8, .int .u8, .int .u8, .int .u8, .int .u8, .int .u8, .int .u8, .int .u8, .int .u8]⟩, [(.t 21)], [0], none⟩,
    ⟨some 23, .fld 2, [(.t 3)], [], none⟩,
    ⟨some 24, .load ⟨true, [.int .u8, .int .u8, .int .u8, .int .u8, .int .u8, .int .u8, .int .u8, .int .u8, .int .u8, .int .u8, .int .u8, .int .u8, .int .u8, .int .u8, .int .u8, .int .u8, .int .u8, .int .u8, .int .u8, .int .u8, .int .u8, .int .u8, .int .u8, .int .u8, .int .u8, .int .u8, .int .u8, .int .u8, .int .u8, .int .u8, .int .u8, .int .u8]⟩, [(.t 23)], [2], none⟩,
    ⟨some 25, .eqv true ⟨true, [.int .u8, .int .u8, .int .u8, .int .u8, .int .u8, .int .u8, .int .u8, .int .u8, .int .u8, .int .u8, .int .u8, .int .u8, .int .u8, .int .u8, .int .u8, .int .u8, .int .u8, .int .u8, .int .u8, .int .u8, .int .u8, .int .u8, .int .u8, .int .u8, .int .u8, .int .u8, .int .u8, .int .u8, .int .u8, .int .u8, .int .u8, .int .u8]⟩, [(.t 22), (.t 24)], [1, 3], none⟩,
    ⟨some 26, .mv, [(.t 25)], [4], none⟩,
    ⟨some 27, .fld 34, [(.t 2)], [5], some (26, false)⟩,
    ⟨some 28, .load ⟨true, [.int .i64, .int .i64]⟩, [(.t 27)], [6, 5], some (26, false)⟩,
    ⟨some 29, .fld 34, [(.t 3)], [5], some (26, false)⟩,
    ⟨some 30, .load ⟨true, [.int .i64, .int .i64]⟩, [(.t 29)], [8, 5], some (26, false)⟩,
    ⟨some 31, .eqv true ⟨true, [.int .i64, .int .i64]⟩, [(.t 28), (.t 30)], [7, 9, 5], some (26, false)⟩,
    ⟨some 32, .pick, [(.t 26), (.c (D.bool true)), (.t 31)], [5, 10], none⟩,
    ⟨some 20, .mv, [(.t 32)], [11, 5], none⟩])
  (.cond (.t 20) (.seq (.region false [
    ⟨some 33, .load ⟨true, [.str, .int .u64, .int .u8, .int .u8, .int .u8, .int .u8, .int .u8, .int .u8, .int .u8, .int .u8, .int .u8, .int .u8, .int .u8, .int .u8, .int .u8, .int .u8, .int .u8, .int .u8, .int .u8, .int .u8, .int .u8, .int .u8, .int .u8, .int .u8, .int .u8, .int .u8, .int .u8, .int .u8, .int .u8, .int .u8, .int .u8, .int .u8, .int .u8, .int .u8, .int .i64, .int .i64, .int .i64]⟩, [(.t 2)], [], none⟩,
    ⟨none, .store ⟨true, [.str, .int .u64, .int .u8, .int .u8, .int .u8, .int .u8, .int .u8, .int .u8, .int .u8, .int .u8, .int .u8, .int .u8, .int .u8, .int .u8, .int .u8, .int .u8, .int .u8, .int .u8, .int .u8, .int .u8, .int .u8, .int .u8, .int .u8, .int .u8, .int .u8, .int .u8, .int .u8, .int .u8, .int .u8, .int .u8, .int .u8, .int .u8, .int .u8, .int .u8, .int .i64, .int .i64, .int .i64]⟩, [(.t 4), (.t 33)], [0, 0], none⟩,
    ⟨some 5, .mv, [(.c (D.bool false))], [1, 0, 1], none⟩])
  (.ret)) (.skip))))))))
  (.seq (.region false [
    ⟨some 34, .fld 36, [(.t 2)], [], none⟩,
    ⟨some 35, .load ⟨false, [.int .i64]⟩, [(.t 34)], [0], none⟩,
    ⟨some 36, .fld 36, [(.t 3)], [], none⟩,
    ⟨some 37, .load ⟨false, [.int .i64]⟩, [(.t 36)], [2], none⟩,
    ⟨some 38, .mx, [(.t 35), (.t 37)], [1, 3], none⟩,
    ⟨some 39, .fld 36, [(.t 2)], [0, 1, 2, 3, 4], none⟩,
    ⟨none, .store ⟨false, [.int .i64]⟩, [(.t 39), (.t 38)], [5, 4, 0, 1, 2, 3, 4], none⟩])
  (.seq (.region false [
    ⟨some 40, .load ⟨true, [.str, .int .u64, .int .u8, .int .u8, .int .u8, .int .u8, .int .u8, .int .u8, .int .u8, .int .u8, .int .u8, .int .u8, .int .u8, .int .u8, .int .u8, .int .u8, .int .u8, .int .u8, .int .u8, .int .u8, .int .u8, .int .u8, .int .u8, .int .u8, .int .u8, .int .u8, .int .u8, .int .u8, .int .u8, .int .u8, .int .u8, .int .u8, .int .u8, .int .u8, .int .i64, .int .i64, .int .i64]⟩, [(.t 2)], [], none⟩,
    ⟨none, .store ⟨true, [.str, .int .u64, .int .u8, .int .u8, .int .u8, .int .u8, .int .u8, .int .u8, .int .u8, .int .u8, .int .u8, .int .u8, .int .u8, .int .u8, .int .u8, .int .u8, .int .u8, .int .u8, .int .u8, .int .u8, .int .u8, .int .u8, .int .u8, .int .u8, .int .u8, .int .u8, .int .u8, .int .u8, .int .u8, .int .u8, .int .u8, .int .u8, .int .u8, .int .u8, .int .i64, .int .i64, .int .i64]⟩, [(.t 4), (.t 40)], [0, 0], none⟩,
    ⟨some 5, .mv, [(.c (D.bool true))], [1, 0, 1], none⟩])
  (.ret))))⟩

/- 30: gatepath/fresh.zip[gatepath/api.FreshPoint] -/
def c_fresh_zip : DFun := ⟨76, 17, [.p, .p, .p, .p], [.o 47, .p ⟨false, [.bool]⟩], [.t 8, .t 9],
  .seq (.region false [
    ⟨some 8, .mv, [(.c (D.zs 47 true))], [], none⟩,
    ⟨some 9, .mv, [(.c (D.bool false))], [0], none⟩])
  (.seq (.region false [
    ⟨some 10, .mv, [(.c (D.zs 47 true))], [], none⟩])
  (.seq (.block 0 (.loop ⟨[2, 3], [(0, .p ⟨false, [.sl 47]⟩), (1, .p ⟨false, [.sl 47]⟩), (10, .o 13 47)], []⟩ (.seq (.seq (.region false [
    ⟨some 14, .mv, [(.t 0)], [], none⟩,
    ⟨some 15, .len, [(.t 14)], [0], none⟩,
    ⟨some 16, .bin .gtr, [(.t 15), (.c (D.int .i64 0))], [1], none⟩,
    ⟨some 17, .mv, [(.t 16)], [2], none⟩,
    ⟨some 18, .mv, [(.t 1)], [3], some (17, true)⟩,
    ⟨some 19, .len, [(.t 18)], [4, 3], some (17, true)⟩,
    ⟨some 20, .bin .gtr, [(.t 19), (.c (D.int .i64 0))], [5, 3], some (17, true)⟩,
    ⟨some 21, .pick, [(.t 17), (.t 20), (.c (D.bool false))], [3, 6], none⟩])
  (.cond (.t 21) (.skip) (.exit 0)))
  (.block 1 (.seq (.region true [
    ⟨some 22, .mv, [(.t 2)], [], none⟩,
    ⟨some 23, .mv, [(.t 0)], [], none⟩,
    ⟨some 24, .idxA 47, [(.t 23), (.c (D.int .i64 0))], [1], none⟩,
    ⟨some 25, .load ⟨true, [.str, .int .u64, .int .u8, .int .u8, .int .u8, .int .u8, .int .u8, .int .u8, .int .u8, .int .u8, .int .u8, .int .u8, .int .u8, .int .u8, .int .u8, .int .u8, .int .u8, .int .u8, .int .u8, .int .u8, .int .u8, .int .u8, .int .u8, .int .u8, .int .u8, .int .u8, .int .u8, .int .u8, .int .u8, .int .u8, .int .u8, .int .u8, .int .u8, .int .u8, .int .i64, .int .i64, .int .i64]⟩, [(.t 24)], [2], none⟩,
    ⟨some 26, .mv, [(.t 1)], [], none⟩,
    ⟨some 27, .idxA 47, [(.t 26), (.c (D.int .i64 0))], [4], none⟩,
    ⟨some 28, .load ⟨true, [.str, .int .u64, .int .u8, .int .u8, .int .u8, .int .u8, .int .u8, .int .u8, .int .u8, .int .u8, .int .u8, .int .u8, .int .u8, .int .u8, .int .u8, .int .u8, .int .u8, .int .u8, .int .u8, .int .u8, .int .u8, .int .u8, .int .u8, .int .u8, .int .u8, .int .u8, .int .u8, .int .u8, .int .u8, .int .u8, .int .u8, .int .u8, .int .u8, .int .u8, .int .i64, .int .i64, .int .i64]⟩, [(.t 27)], [5], none⟩,
    ⟨some 29, .call [14], [(.t 22), (.t 25), (.t 28)], [0, 3, 6], none⟩,
    ⟨some 11, .mv, [(.t 29)], [7, 7, 0, 1, 2, 3, 4, 5, 6, 7], none⟩])
  (.seq (.seq (.region false [
    ⟨some 30, .mv, [(.t 11)], [], none⟩,
    ⟨some 31, .bin .lss, [(.t 30), (.c (D.int .i64 0))], [0], none⟩])
  (.cond (.t 31) (.seq (.region true [
    ⟨some 32, .mv, [(.t 10)], [], none⟩,
    ⟨some 33, .mv, [(.t 0)], [], none⟩,
    ⟨some 34, .idxA 47, [(.t 33), (.c (D.int .i64 0))], [1], none⟩,
    ⟨some 35, .load ⟨true, [.str, .int .u64, .int .u8, .int .u8, .int .u8, .int .u8, .int .u8, .int .u8, .int .u8, .int .u8, .int .u8, .int .u8, .int .u8, .int .u8, .int .u8, .int .u8, .int .u8, .int .u8, .int .u8, .int .u8, .int .u8, .int .u8, .int .u8, .int .u8, .int .u8, .int .u8, .int .u8, .int .u8, .int .u8, .int .u8, .int .u8, .int .u8, .int .u8, .int .u8, .int .i64, .int .i64, .int .i64]⟩, [(.t 34)], [2], none⟩,
    ⟨some 36, .buildSl 4 47, [(.t 35)], [3], none⟩,
    ⟨some 37, .append 5 47 80, [(.t 32), (.t 36)], [0, 4], none⟩,
    ⟨some 38, .mv, [(.t 0)], [], none⟩,
    ⟨some 39, .slice (some 47) true false false, [(.t 38), (.c (D.int .i64 1))], [6], none⟩,
    ⟨some 10, .mv, [(.t 37)], [5, 5, 0, 1, 2, 3, 4, 5], none⟩,
    ⟨some 0, .mv, [(.t 39)], [7, 8, 0, 1, 2, 3, 4, 5, 6, 7, 8], none⟩])
  (.exit 1)) (.skip)))
  (.seq (.seq (.region false [
    ⟨some 40, .mv, [(.t 11)], [], none⟩,
    ⟨some 41, .bin .gtr, [(.t 40), (.c (D.int .i64 0))], [0], none⟩])
  (.cond (.t 41) (.seq (.region true [
    ⟨some 42, .mv, [(.t 10)], [], none⟩,
    ⟨some 43, .mv, [(.t 1)], [], none⟩,
    ⟨some 44, .idxA 47, [(.t 43), (.c (D.int .i64 0))], [1], none⟩,
    ⟨some 45, .load ⟨true, [.str, .int .u64, .int .u8, .int .u8, .int .u8, .int .u8, .int .u8, .int .u8, .int .u8, .int .u8, .int .u8, .int .u8, .int .u8, .int .u8, .int .u8, .int .u8, .int .u8, .int .u8, .int .u8, .int .u8, .int .u8, .int .u8, .int .u8, .int .u8, .int .u8, .int .u8, .int .u8, .int .u8, .int .u8, .int .u8, .int .u8, .int .u8, .int .u8, .int .u8, .int .i64, .int .i64, .int .i64]⟩, [(.t 44)], [2], none⟩,
    ⟨some 46, .buildSl 6 47, [(.t 45)], [3], none⟩,
    ⟨some 47, .append 7 47 80, [(.t 42), (.t 46)], [0, 4], none⟩,
    ⟨some 48, .mv, [(.t 1)], [], none⟩,
    ⟨some 49, .slice (some 47) true false false, [(.t 48), (.c (D.int .i64 1))], [6], none⟩,
    ⟨some 10, .mv, [(.t 47)], [5, 5, 0, 1, 2, 3, 4, 5], none⟩,
    ⟨some 1, .mv, [(.t 49)], [7, 8, 0, 1, 2, 3, 4, 5, 6, 7, 8], none⟩])
  (.exit 1)) (.skip)))
  (.seq (.region true [
    ⟨some 51, .mv, [(.t 3)], [], none⟩,
    ⟨some 52, .mv, [(.t 0)], [], none⟩,
    ⟨some 53, .idxA 47, [(.t 52), (.c (D.int .i64 0))], [1], none⟩,
    ⟨some 54, .load ⟨true, [.str, .int .u64, .int .u8, .int .u8, .int .u8, .int .u8, .int .u8, .int .u8, .int .u8, .int .u8, .int .u8, .int .u8, .int .u8, .int .u8, .int .u8, .int .u8, .int .u8, .int .u8, .int .u8, .int .u8, .int .u8, .int .u8, .int .u8, .int .u8, .int .u8, .int .u8, .int .u8, .int .u8, .int .u8, .int .u8, .int .u8, .int .u8, .int .u8, .int .u8, .int .i64, .int .i64, .int .i64]⟩, [(.t 53)], [2], none⟩,
    ⟨some 55, .mv, [(.t 1)], [], none⟩,
    ⟨some 56, .idxA 47, [(.t 55), (.c (D.int .i64 0))], [4], none⟩,
    ⟨some 57, .load ⟨true, [.str, .int .u64, .int .u8, .int .u8, .int .u8, .int .u8, .int .u8, .int .u8, .int .u8, .int .u8, .int .u8, .int .u8, .int .u8, .int .u8, .int .u8, .int .u8, .int .u8, .int .u8, .int .u8, .int .u8, .int .u8, .int .u8, .int .u8, .int .u8, .int .u8, .int .u8, .int .u8, .int .u8, .int .u8, .int .u8, .int .u8, .int .u8, .int .u8, .int .u8, .int .i64, .int .i64, .int .i64]⟩, [(.t 56)], [5], none⟩,
    ⟨some 58, .call [15, 16], [(.t 51), (.t 54), (.t 57)], [0, 3, 6], none⟩,
    ⟨some 50, .mv, [(.t 58)], [7], none⟩,
    ⟨some 59, .ext 0, [(.t 50)], [8], none⟩,
    ⟨some 60, .ext 1, [(.t 50)], [8], none⟩,
    ⟨some 12, .alloc 8 [(D.str ⟨#[]⟩), (D.int .u64 0), (D.int .u8 0), (D.int .u8 0), (D.int .u8 0), (D.int .u8 0), (D.int .u8 0), (D.int .u8 0), (D.int .u8 0), (D.int .u8 0), (D.int .u8 0), (D.int .u8 0), (D.int .u8 0), (D.int .u8 0), (D.int .u8 0), (D.int .u8 0), (D.int .u8 0), (D.int .u8 0), (D.int .u8 0), (D.int .u8 0), (D.int .u8 0), (D.int .u8 0), (D.int .u8 0), (D.int .u8 0), (D.int .u8 0), (D.int .u8 0), (D.int .u8 0), (D.int .u8 0), (D.int .u8 0), (D.int .u8 0), (D.int .u8 0), (D.int .u8 0), (D.int .u8 0), (D.int .u8 0), (D.int .i64 0), (D.int .i64 0), (D.int .i64 0)], [], [], none⟩,
    ⟨none, .store ⟨true, [.str, .int .u64, .int .u8, .int .u8, .int .u8, .int .u8, .int .u8, .int .u8, .int .u8, .int .u8, .int .u8, .int .u8, .int .u8, .int .u8, .int .u8, .int .u8, .int .u8, .int .u8, .int .u8, .int .u8, .int .u8, .int .u8, .int .u8, .int .u8, .int .u8, .int .u8, .int .u8, .int .u8, .int .u8, .int .u8, .int .u8, .int .u8, .int .u8, .int .u8, .int .i64, .int .i64, .int .i64]⟩, [(.t 12), (.t 59)], [11, 9, 7, 0, 1, 2, 3, 4, 5, 6, 7, 8, 9, 11], none⟩,
    ⟨some 13, .mv, [(.t 60)], [10, 12, 0, 1, 2, 3, 4, 5, 6, 7, 8, 9, 10, 11, 12], none⟩])
  (.seq (.seq (.region false [
    ⟨some 61, .mv, [(.t 13)], [], none⟩,
    ⟨some 62, .not, [(.t 61)], [0], none⟩])
  (.cond (.t 62) (.seq (.region false [
    ⟨some 8, .mv, [(.c (D.zs 47 true))], [], none⟩,
    ⟨some 9, .mv, [(.c (D.bool false))], [0, 0], none⟩])
  (.ret)) (.skip)))
  (.region true [
    ⟨some 63, .mv, [(.t 10)], [], none⟩,
    ⟨some 64, .load ⟨true, [.str, .int .u64, .int .u8, .int .u8, .int .u8, .int .u8, .int .u8, .int .u8, .int .u8, .int .u8, .int .u8, .int .u8, .int .u8, .int .u8, .int .u8, .int .u8, .int .u8, .int .u8, .int .u8, .int .u8, .int .u8, .int .u8, .int .u8, .int .u8, .int .u8, .int .u8, .int .u8, .int .u8, .int .u8, .int .u8, .int .u8, .int .u8, .int .u8, .int .u8, .int .i64, .int .i64, .int .i64]⟩, [(.t 12)], [], none⟩,
    ⟨some 65, .buildSl 9 47, [(.t 64)], [1], none⟩,
    ⟨some 66, .append 10 47 80, [(.t 63), (.t 65)], [0, 2], none⟩,
    ⟨some 67, .mv, [(.t 0)], [], none⟩,
    ⟨some 68, .slice (some 47) true false false, [(.t 67), (.c (D.int .i64 1))], [4], none⟩,
    ⟨some 69, .mv, [(.t 1)], [], none⟩,
    ⟨some 70, .slice (some 47) true false false, [(.t 69), (.c (D.int .i64 1))], [6], none⟩,
    ⟨some 10, .mv, [(.t 66)], [3, 3, 0, 1, 2, 3], none⟩,
    ⟨some 0, .mv, [(.t 68)], [5, 8, 0, 1, 2, 3, 4, 5, 8], none⟩,
    ⟨some 1, .mv, [(.t 70)], [7, 9, 0, 1, 2, 3, 4, 5, 6, 7, 8, 9], none⟩]))))))))))
  (.seq (.region false [
    ⟨some 71, .mv, [(.t 10)], [], none⟩,
    ⟨some 72, .mv, [(.t 0)], [], none⟩,
    ⟨some 73, .append 11 47 80, [(.t 71), (.t 72)], [0, 1], none⟩,
    ⟨some 74, .mv, [(.t 1)], [], none⟩,
    ⟨some 75, .append 12 47 80, [(.t 73), (.t 74)], [2, 3, 2], none⟩,
    ⟨some 8, .mv, [(.t 75)], [4, 4, 0, 1, 2, 3, 4], none⟩,
    ⟨some 9, .mv, [(.c (D.bool true))], [5, 0, 1, 2, 3, 4, 5], none⟩])
  (.ret))))⟩

/- 45: cmp.isNaN[string] -/
def c_cmp_isNaN : DFun := ⟨6, 1, [.p], [.p ⟨false, [.bool]⟩], [.t 2],
  .seq (.region false [
    ⟨some 2, .mv, [(.c (D.bool false))], [], none⟩])
  (.seq (.region false [
    ⟨some 3, .mv, [(.t 0)], [], none⟩,
    ⟨some 4, .mv, [(.t 0)], [], none⟩,
    ⟨some 5, .bin .neq, [(.t 3), (.t 4)], [0, 1], none⟩,
    ⟨some 2, .mv, [(.t 5)], [2, 0, 1, 2], none⟩])
  (.ret))⟩

/- 32: cmp.Compare[string] -/
def c_cmp_Compare : DFun := ⟨20, 4, [.p, .p], [.p ⟨false, [.int .i64]⟩], [.t 4],
  .seq (.region false [
    ⟨some 4, .mv, [(.c (D.int .i64 0))], [], none⟩])
  (.seq (.region false [
    ⟨some 7, .mv, [(.t 0)], [], none⟩,
    ⟨some 8, .call [2], [(.c (D.fn 45 [])), (.t 7)], [0], none⟩,
    ⟨some 5, .mv, [(.t 8)], [1, 1, 0, 1], none⟩])
  (.seq (.region false [
    ⟨some 9, .mv, [(.t 1)], [], none⟩,
    ⟨some 10, .call [3], [(.c (D.fn 45 [])), (.t 9)], [0], none⟩,
    ⟨some 6, .mv, [(.t 10)], [1, 1, 0, 1], none⟩])
  (.seq (.seq (.region false [
    ⟨some 11, .mv, [(.t 5)], [], none⟩])
  (.cond (.t 11) (.seq (.seq (.region false [
    ⟨some 12, .mv, [(.t 6)], [], none⟩])
  (.cond (.t 12) (.seq (.region false [
    ⟨some 4, .mv, [(.c (D.int .i64 0))], [], none⟩])
  (.ret)) (.skip)))
  (.seq (.region false [
    ⟨some 4, .mv, [(.c (D.int .i64 (-1)))], [], none⟩])
  (.ret))) (.skip)))
  (.seq (.seq (.region false [
    ⟨some 13, .mv, [(.t 6)], [], none⟩])
  (.cond (.t 13) (.seq (.region false [
    ⟨some 4, .mv, [(.c (D.int .i64 1))], [], none⟩])
  (.ret)) (.skip)))
  (.seq (.seq (.region false [
    ⟨some 14, .mv, [(.t 0)], [], none⟩,
    ⟨some 15, .mv, [(.t 1)], [], none⟩,
    ⟨some 16, .bin .lss, [(.t 14), (.t 15)], [0, 1], none⟩])
  (.cond (.t 16) (.seq (.region false [
    ⟨some 4, .mv, [(.c (D.int .i64 (-1)))], [], none⟩])
  (.ret)) (.skip)))
  (.seq (.seq (.region false [
    ⟨some 17, .mv, [(.t 0)], [], none⟩,
    ⟨some 18, .mv, [(.t 1)], [], none⟩,
    ⟨some 19, .bin .gtr, [(.t 17), (.t 18)], [0, 1], none⟩])
  (.cond (.t 19) (.seq (.region false [
    ⟨some 4, .mv, [(.c (D.int .i64 1))], [], none⟩])
  (.ret)) (.skip)))
  (.seq (.region false [
    ⟨some 4, .mv, [(.c (D.int .i64 0))], [], none⟩])
  (.ret))))))))⟩

/- 31: gatepath/fresh.Merge$2 -/
def c_fresh_Merge_2 : DFun := ⟨10, 5, [.p, .p], [.p ⟨false, [.int .i64]⟩], [.t 4],
  .seq (.region false [
    ⟨some 2, .box 2, [(.t 0)], [], none⟩,
    ⟨some 3, .box 3, [(.t 1)], [], none⟩,
    ⟨some 4, .mv, [(.c (D.int .i64 0))], [], none⟩])
  (.seq (.region false [
    ⟨some 5, .fld 0, [(.t 2)], [], none⟩,
    ⟨some 6, .load ⟨false, [.str]⟩, [(.t 5)], [0], none⟩,
    ⟨some 7, .fld 0, [(.t 3)], [], none⟩,
    ⟨some 8, .load ⟨false, [.str]⟩, [(.t 7)], [2], none⟩,
    ⟨some 9, .call [4], [(.c (D.fn 32 [])), (.t 6), (.t 8)], [1, 3], none⟩,
    ⟨some 4, .mv, [(.t 9)], [4, 4, 0, 1, 2, 3, 4], none⟩])
  (.ret))⟩

/- 12: gatepath/fresh.Merge -/
def c_fresh_Merge : DFun := ⟨34, 6, [.p, .p], [.o 47, .p ⟨false, [.int .i64]⟩], [.t 4, .t 5],
  .seq (.region false [
    ⟨some 4, .mv, [(.c (D.zs 47 true))], [], none⟩,
    ⟨some 5, .mv, [(.c (D.int .i64 0))], [0], none⟩])
  (.seq (.region false [
    ⟨some 10, .mv, [(.t 0)], [], none⟩,
    ⟨some 11, .call [2], [(.c (D.fn 19 [])), (.t 10)], [0], none⟩,
    ⟨some 6, .mv, [(.t 11)], [1, 1, 0, 1], none⟩])
  (.seq (.seq (.region false [
    ⟨some 12, .mv, [(.t 6)], [], none⟩,
    ⟨some 13, .bin .eql, [(.t 12), (.c (D.int .i64 0))], [0], none⟩])
  (.cond (.t 13) (.region false [
    ⟨some 14, .mv, [(.t 1)], [], none⟩,
    ⟨some 15, .call [3], [(.c (D.fn 19 [])), (.t 14)], [0], none⟩,
    ⟨some 6, .mv, [(.t 15)], [1, 1, 0, 1], none⟩]) (.skip)))
  (.seq (.seq (.region false [
    ⟨some 16, .mv, [(.t 6)], [], none⟩,
    ⟨some 17, .bin .neq, [(.t 16), (.c (D.int .i64 0))], [0], none⟩])
  (.cond (.t 17) (.seq (.region false [
    ⟨some 18, .mv, [(.t 6)], [], none⟩,
    ⟨some 4, .mv, [(.c (D.zs 47 true))], [], none⟩,
    ⟨some 5, .mv, [(.t 18)], [0, 1, 0, 1], none⟩])
  (.ret)) (.skip)))
  (.seq (.region false [
    ⟨some 7, .mv, [(.c (D.fn 29 []))], [], none⟩])
  (.seq (.region false [
    ⟨some 20, .mv, [(.t 0)], [], none⟩,
    ⟨some 21, .mv, [(.t 1)], [], none⟩,
    ⟨some 22, .mv, [(.t 7)], [], none⟩,
    ⟨some 23, .call [4, 5], [(.c (D.fn 30 [])), (.t 20), (.t 21), (.c (D.fn 31 [])), (.t 22)], [0, 1, 2], none⟩,
    ⟨some 19, .mv, [(.t 23)], [3], none⟩,
    ⟨some 24, .ext 0, [(.t 19)], [4], none⟩,
    ⟨some 25, .ext 1, [(.t 19)], [4], none⟩,
    ⟨some 8, .mv, [(.t 24)], [5, 3, 0, 1, 2, 3, 4, 5], none⟩,
    ⟨some 9, .mv, [(.t 25)], [6, 7, 0, 1, 2, 3, 4, 5, 6, 7], none⟩])
  (.seq (.block 0 (.seq (.region false [
    ⟨some 27, .mv, [(.t 9)], [], none⟩,
    ⟨some 28, .not, [(.t 27)], [0], none⟩,
    ⟨some 26, .mv, [(.t 28)], [1], none⟩])
  (.cond (.t 26) (.seq (.region false [
    ⟨some 4, .mv, [(.c (D.zs 47 true))], [], none⟩,
    ⟨some 5, .mv, [(.c (D.int .i64 14))], [0, 0], none⟩])
  (.ret)) (.seq (.region false [
    ⟨some 30, .mv, [(.t 8)], [], none⟩,
    ⟨some 31, .len, [(.t 30)], [0], none⟩,
    ⟨some 32, .bin .gtr, [(.t 31), (.c (D.int .i64 200))], [1], none⟩,
    ⟨some 29, .mv, [(.t 32)], [2], none⟩])
  (.cond (.t 29) (.seq (.region false [
    ⟨some 4, .mv, [(.c (D.zs 47 true))], [], none⟩,
    ⟨some 5, .mv, [(.c (D.int .i64 16))], [0, 0], none⟩])
  (.ret)) (.skip))))))
  (.seq (.region false [
    ⟨some 33, .mv, [(.t 8)], [], none⟩,
    ⟨some 4, .mv, [(.t 33)], [0, 0], none⟩,
    ⟨some 5, .mv, [(.c (D.int .i64 0))], [1, 0, 1], none⟩])
  (.ret))))))))⟩

/- 36: gatepath/fresh.Late$1 -/
def c_fresh_Late_1 : DFun := ⟨18, 4, [.p, .p, .p], [.p ⟨false, [.bool]⟩], [.t 4],
  .seq (.region false [
    ⟨some 3, .box 3, [(.t 0)], [], none⟩,
    ⟨some 4, .mv, [(.c (D.bool false))], [], none⟩])
  (.seq (.region false [
    ⟨some 5, .load ⟨false, [.int .i64]⟩, [(.t 1)], [], none⟩,
    ⟨some 6, .fld 34, [(.t 3)], [], none⟩,
    ⟨some 7, .fld 1, [(.t 6)], [1], none⟩,
    ⟨some 8, .load ⟨false, [.int .i64]⟩, [(.t 7)], [2], none⟩,
    ⟨some 9, .bin .gtr, [(.t 5), (.t 8)], [0, 3], none⟩,
    ⟨some 10, .mv, [(.t 9)], [4], none⟩,
    ⟨some 11, .load ⟨false, [.int .i64]⟩, [(.t 1)], [5], some (10, false)⟩,
    ⟨some 12, .fld 36, [(.t 3)], [5], some (10, false)⟩,
    ⟨some 13, .load ⟨false, [.int .i64]⟩, [(.t 12)], [7, 5], some (10, false)⟩,
    ⟨some 14, .bin .sub, [(.t 11), (.t 13)], [6, 8, 5], some (10, false)⟩,
    ⟨some 15, .load ⟨false, [.int .i64]⟩, [(.t 2)], [5], some (10, false)⟩,
    ⟨some 16, .bin .gtr, [(.t 14), (.t 15)], [9, 10, 5], some (10, false)⟩,
    ⟨some 17, .pick, [(.t 10), (.c (D.bool true)), (.t 16)], [5, 11], none⟩,
    ⟨some 4, .mv, [(.t 17)], [12, 5, 0, 1, 2, 3, 4, 5, 6, 7, 8, 9, 10, 11, 12], none⟩])
  (.ret))⟩

/- 15: gatepath/fresh.Late -/
def c_fresh_Late : DFun := ⟨43, 13, [.p, .p, .p], [.o 9, .p ⟨false, [.int .i64]⟩], [.t 6, .t 7],
  .seq (.region false [
    ⟨some 4, .box 3, [(.t 1)], [], none⟩,
    ⟨some 5, .box 4, [(.t 2)], [], none⟩,
    ⟨some 6, .mv, [(.c (D.zs 9 true))], [], none⟩,
    ⟨some 7, .mv, [(.c (D.int .i64 0))], [2], none⟩])
  (.seq (.region false [
    ⟨some 13, .mv, [(.t 0)], [], none⟩,
    ⟨some 14, .call [8], [(.c (D.fn 19 [])), (.t 13)], [0], none⟩,
    ⟨some 8, .mv, [(.t 14)], [1, 1, 0, 1], none⟩])
  (.seq (.seq (.region false [
    ⟨some 15, .mv, [(.t 8)], [], none⟩,
    ⟨some 16, .bin .neq, [(.t 15), (.c (D.int .i64 0))], [0], none⟩])
  (.cond (.t 16) (.seq (.region false [
    ⟨some 17, .mv, [(.t 8)], [], none⟩,
    ⟨some 6, .mv, [(.c (D.zs 9 true))], [], none⟩,
    ⟨some 7, .mv, [(.t 17)], [0, 1, 0, 1], none⟩])
  (.ret)) (.skip)))
  (.seq (.seq (.region false [
    ⟨some 18, .load ⟨false, [.int .i64]⟩, [(.t 4)], [], none⟩,
    ⟨some 19, .call [9], [(.c (D.fn 35 [])), (.t 18)], [0], none⟩,
    ⟨some 20, .not, [(.t 19)], [1], none⟩,
    ⟨some 21, .mv, [(.t 20)], [2, 1], none⟩,
    ⟨some 22, .load ⟨false, [.int .i64]⟩, [(.t 5)], [3], some (21, false)⟩,
    ⟨some 23, .call [10], [(.c (D.fn 35 [])), (.t 22)], [4, 3, 3], some (21, false)⟩,
    ⟨some 24, .not, [(.t 23)], [5, 3], some (21, false)⟩,
    ⟨some 25, .pick, [(.t 21), (.c (D.bool true)), (.t 24)], [3, 6], none⟩])
  (.cond (.t 25) (.seq (.region false [
    ⟨some 6, .mv, [(.c (D.zs 9 true))], [], none⟩,
    ⟨some 7, .mv, [(.c (D.int .i64 2))], [0, 0], none⟩])
  (.ret)) (.skip)))
  (.seq (.region false [
    ⟨some 26, .mkfn 36, [(.t 4), (.t 5)], [], none⟩,
    ⟨some 9, .mv, [(.t 26)], [0, 0], none⟩])
  (.seq (.region false [
    ⟨some 10, .mv, [(.c (D.zs 9 true))], [], none⟩])
  (.seq (.seq (.region false [
    ⟨some 27, .mv, [(.t 0)], [], none⟩,
    ⟨some 28, .len, [(.t 27)], [0], none⟩,
    ⟨some 29, .mv, [(.c (D.int .i64 0))], [], none⟩])
  (.block 0 (.loop ⟨[9, 27, 28], [(10, .o 11 9), (29, .p ⟨false, [.int .i64]⟩)], []⟩ (.seq (.region false [
    ⟨some 30, .bin .lss, [(.t 29), (.t 28)], [], none⟩])
  (.seq (.cond (.t 30) (.skip) (.exit 0))
  (.seq (.block 1 (.seq (.region false [
    ⟨some 31, .idxA 47, [(.t 27), (.t 29)], [], none⟩,
    ⟨some 32, .load ⟨true, [.str, .int .u64, .int .u8, .int .u8, .int .u8, .int .u8, .int .u8, .int .u8, .int .u8, .int .u8, .int .u8, .int .u8, .int .u8, .int .u8, .int .u8, .int .u8, .int .u8, .int .u8, .int .u8, .int .u8, .int .u8, .int .u8, .int .u8, .int .u8, .int .u8, .int .u8, .int .u8, .int .u8, .int .u8, .int .u8, .int .u8, .int .u8, .int .u8, .int .u8, .int .i64, .int .i64, .int .i64]⟩, [(.t 31)], [0], none⟩,
    ⟨some 12, .alloc 5 [(D.str ⟨#[]⟩), (D.int .u64 0), (D.int .u8 0), (D.int .u8 0), (D.int .u8 0), (D.int .u8 0), (D.int .u8 0), (D.int .u8 0), (D.int .u8 0), (D.int .u8 0), (D.int .u8 0), (D.int .u8 0), (D.int .u8 0), (D.int .u8 0), (D.int .u8 0), (D.int .u8 0), (D.int .u8 0), (D.int .u8 0), (D.int .u8 0), (D.int .u8 0), (D.int .u8 0), (D.int .u8 0), (D.int .u8 0), (D.int .u8 0), (D.int .u8 0), (D.int .u8 0), (D.int .u8 0), (D.int .u8 0), (D.int .u8 0), (D.int .u8 0), (D.int .u8 0), (D.int .u8 0), (D.int .u8 0), (D.int .u8 0), (D.int .i64 0), (D.int .i64 0), (D.int .i64 0)], [], [], none⟩,
    ⟨none, .store ⟨true, [.str, .int .u64, .int .u8, .int .u8, .int .u8, .int .u8, .int .u8, .int .u8, .int .u8, .int .u8, .int .u8, .int .u8, .int .u8, .int .u8, .int .u8, .int .u8, .int .u8, .int .u8, .int .u8, .int .u8, .int .u8, .int .u8, .int .u8, .int .u8, .int .u8, .int .u8, .int .u8, .int .u8, .int .u8, .int .u8, .int .u8, .int .u8, .int .u8, .int .u8, .int .i64, .int .i64, .int .i64]⟩, [(.t 12), (.t 32)], [2, 1, 0, 1, 2], none⟩])
  (.seq (.region false [
    ⟨some 33, .mv, [(.t 9)], [], none⟩,
    ⟨some 34, .load ⟨true, [.str, .int .u64, .int .u8, .int .u8, .int .u8, .int .u8, .int .u8, .int .u8, .int .u8, .int .u8, .int .u8, .int .u8, .int .u8, .int .u8, .int .u8, .int .u8, .int .u8, .int .u8, .int .u8, .int .u8, .int .u8, .int .u8, .int .u8, .int .u8, .int .u8, .int .u8, .int .u8, .int .u8, .int .u8, .int .u8, .int .u8, .int .u8, .int .u8, .int .u8, .int .i64, .int .i64, .int .i64]⟩, [(.t 12)], [], none⟩,
    ⟨some 35, .call [12], [(.t 33), (.t 34)], [0, 1], none⟩])
  (.cond (.t 35) (.region false [
    ⟨some 36, .mv, [(.t 10)], [], none⟩,
    ⟨some 37, .fld 0, [(.t 12)], [], none⟩,
    ⟨some 38, .load ⟨false, [.str]⟩, [(.t 37)], [1], none⟩,
    ⟨some 39, .buildSl 6 9, [(.t 38)], [2], none⟩,
    ⟨some 40, .append 7 9 16, [(.t 36), (.t 39)], [0, 3], none⟩,
    ⟨some 10, .mv, [(.t 40)], [4, 4, 0, 1, 2, 3, 4], none⟩]) (.skip)))))
  (.region false [
    ⟨some 41, .bin .add, [(.t 29), (.c (D.int .i64 1))], [], none⟩,
    ⟨some 29, .mv, [(.t 41)], [0], none⟩])))))))
  (.seq (.region false [
    ⟨some 42, .mv, [(.t 10)], [], none⟩,
    ⟨some 6, .mv, [(.t 42)], [0, 0], none⟩,
    ⟨some 7, .mv, [(.c (D.int .i64 0))], [1, 0, 1], none⟩])
  (.ret))))))))⟩

/- 46: slices.BinarySearchFunc[[]gatepath/api.FreshPoint,gatepath/api.FreshPoint,string] -/
def c_slices_BinarySearchFunc : DFun := ⟨49, 5, [.p, .p, .p], [.p ⟨false, [.int .i64]⟩, .p ⟨false, [.bool]⟩], [.t 6, .t 7],
  .seq (.region false [
    ⟨some 6, .mv, [(.c (D.int .i64 0))], [], none⟩,
    ⟨some 7, .mv, [(.c (D.bool false))], [0], none⟩])
  (.seq (.region false [
    ⟨some 12, .mv, [(.t 0)], [], none⟩,
    ⟨some 13, .len, [(.t 12)], [0], none⟩,
    ⟨some 8, .mv, [(.t 13)], [1, 0, 1], none⟩])
  (.seq (.region false [
    ⟨some 14, .mv, [(.t 8)], [], none⟩,
    ⟨some 9, .mv, [(.c (D.int .i64 0))], [], none⟩,
    ⟨some 10, .mv, [(.t 14)], [0, 1, 0, 1], none⟩])
  (.seq (.block 0 (.loop ⟨[0, 1, 2, 8], [(9, .p ⟨false, [.int .i64]⟩), (10, .p ⟨false, [.int .i64]⟩)], []⟩ (.seq (.seq (.region false [
    ⟨some 15, .mv, [(.t 9)], [], none⟩,
    ⟨some 16, .mv, [(.t 10)], [], none⟩,
    ⟨some 17, .bin .lss, [(.t 15), (.t 16)], [0, 1], none⟩])
  (.cond (.t 17) (.skip) (.exit 0)))
  (.block 1 (.seq (.region false [
    ⟨some 18, .mv, [(.t 9)], [], none⟩,
    ⟨some 19, .mv, [(.t 10)], [], none⟩,
    ⟨some 20, .bin .add, [(.t 18), (.t 19)], [0, 1], none⟩,
    ⟨some 21, .conv .u64, [(.t 20)], [2], none⟩,
    ⟨some 22, .bin .shr, [(.t 21), (.c (D.int .u64 1))], [3], none⟩,
    ⟨some 23, .conv .i64, [(.t 22)], [4], none⟩,
    ⟨some 11, .mv, [(.t 23)], [5, 0, 1, 2, 3, 4, 5], none⟩])
  (.seq (.region false [
    ⟨some 24, .mv, [(.t 2)], [], none⟩,
    ⟨some 25, .mv, [(.t 0)], [], none⟩,
    ⟨some 26, .mv, [(.t 11)], [], none⟩,
    ⟨some 27, .idxA 47, [(.t 25), (.t 26)], [1, 2], none⟩,
    ⟨some 28, .load ⟨true, [.str, .int .u64, .int .u8, .int .u8, .int .u8, .int .u8, .int .u8, .int .u8, .int .u8, .int .u8, .int .u8, .int .u8, .int .u8, .int .u8, .int .u8, .int .u8, .int .u8, .int .u8, .int .u8, .int .u8, .int .u8, .int .u8, .int .u8, .int .u8, .int .u8, .int .u8, .int .u8, .int .u8, .int .u8, .int .u8, .int .u8, .int .u8, .int .u8, .int .u8, .int .i64, .int .i64, .int .i64]⟩, [(.t 27)], [3], none⟩,
    ⟨some 29, .mv, [(.t 1)], [], none⟩,
    ⟨some 30, .call [3], [(.t 24), (.t 28), (.t 29)], [0, 4, 5], none⟩,
    ⟨some 31, .bin .lss, [(.t 30), (.c (D.int .i64 0))], [6], none⟩])
  (.cond (.t 31) (.region false [
    ⟨some 32, .mv, [(.t 11)], [], none⟩,
    ⟨some 33, .bin .add, [(.t 32), (.c (D.int .i64 1))], [0], none⟩,
    ⟨some 9, .mv, [(.t 33)], [1, 0, 1], none⟩]) (.region false [
    ⟨some 34, .mv, [(.t 11)], [], none⟩,
    ⟨some 10, .mv, [(.t 34)], [0, 0], none⟩]))))))))
  (.seq (.region false [
    ⟨some 35, .mv, [(.t 9)], [], none⟩,
    ⟨some 36, .mv, [(.t 9)], [], none⟩,
    ⟨some 37, .mv, [(.t 8)], [], none⟩,
    ⟨some 38, .bin .lss, [(.t 36), (.t 37)], [1, 2], none⟩,
    ⟨some 39, .mv, [(.t 38)], [3], none⟩,
    ⟨some 40, .mv, [(.t 2)], [4], some (39, true)⟩,
    ⟨some 41, .mv, [(.t 0)], [4], some (39, true)⟩,
    ⟨some 42, .mv, [(.t 9)], [4], some (39, true)⟩,
    ⟨some 43, .idxA 47, [(.t 41), (.t 42)], [6, 7, 4], some (39, true)⟩,
    ⟨some 44, .load ⟨true, [.str, .int .u64, .int .u8, .int .u8, .int .u8, .int .u8, .int .u8, .int .u8, .int .u8, .int .u8, .int .u8, .int .u8, .int .u8, .int .u8, .int .u8, .int .u8, .int .u8, .int .u8, .int .u8, .int .u8, .int .u8, .int .u8, .int .u8, .int .u8, .int .u8, .int .u8, .int .u8, .int .u8, .int .u8, .int .u8, .int .u8, .int .u8, .int .u8, .int .u8, .int .i64, .int .i64, .int .i64]⟩, [(.t 43)], [8, 4], some (39, true)⟩,
    ⟨some 45, .mv, [(.t 1)], [4], some (39, true)⟩,
    ⟨some 46, .call [4], [(.t 40), (.t 44), (.t 45)], [5, 9, 10, 4, 4], some (39, true)⟩,
    ⟨some 47, .bin .eql, [(.t 46), (.c (D.int .i64 0))], [11, 4], some (39, true)⟩,
    ⟨some 48, .pick, [(.t 39), (.t 47), (.c (D.bool false))], [4, 12], none⟩,
    ⟨some 6, .mv, [(.t 35)], [0, 11, 0], none⟩,
    ⟨some 7, .mv, [(.t 48)], [13, 14, 0, 1, 2, 3, 4, 5, 6, 7, 8, 9, 10, 11, 12, 13, 14], none⟩])
  (.ret)))))⟩

/- 47: gatepath/fresh.find$1 -/
def c_fresh_find_1 : DFun := ⟨9, 4, [.p, .p], [.p ⟨false, [.int .i64]⟩], [.t 4],
  .seq (.region false [
    ⟨some 2, .box 2, [(.t 0)], [], none⟩,
    ⟨some 4, .mv, [(.c (D.int .i64 0))], [], none⟩])
  (.seq (.region false [
    ⟨some 5, .fld 0, [(.t 2)], [], none⟩,
    ⟨some 6, .load ⟨false, [.str]⟩, [(.t 5)], [0], none⟩,
    ⟨some 7, .mv, [(.t 1)], [], none⟩,
    ⟨some 8, .call [3], [(.c (D.fn 32 [])), (.t 6), (.t 7)], [1, 2], none⟩,
    ⟨some 4, .mv, [(.t 8)], [3, 3, 0, 1, 2, 3], none⟩])
  (.ret))⟩

/- 37: gatepath/fresh.find -/
def c_fresh_find : DFun := ⟨11, 4, [.p, .p], [.p ⟨false, [.int .i64]⟩, .p ⟨false, [.bool]⟩], [.t 4, .t 5],
  .seq (.region false [
    ⟨some 4, .mv, [(.c (D.int .i64 0))], [], none⟩,
    ⟨some 5, .mv, [(.c (D.bool false))], [0], none⟩])
  (.seq (.region false [
    ⟨some 6, .mv, [(.t 0)], [], none⟩,
    ⟨some 7, .mv, [(.t 1)], [], none⟩,
    ⟨some 8, .call [2, 3], [(.c (D.fn 46 [])), (.t 6), (.t 7), (.c (D.fn 47 []))], [0, 1], none⟩,
    ⟨some 9, .ext 0, [(.t 8)], [2], none⟩,
    ⟨some 10, .ext 1, [(.t 8)], [2], none⟩,
    ⟨some 4, .mv, [(.t 9)], [3, 2, 0, 1, 2, 3, 4], none⟩,
    ⟨some 5, .mv, [(.t 10)], [4, 5, 0, 1, 2, 3, 4, 5], none⟩])
  (.ret))⟩

/- 38: slices.Delete[[]gatepath/api.FreshPoint,gatepath/api.FreshPoint] -/
def c_slices_Delete : DFun := ⟨33, 4, [.g 47, .p, .p], [.o 47], [.t 6],
  .seq (.region false [
    ⟨some 6, .mv, [(.c (D.zs 47 true))], [], none⟩])
  (.seq (.region false [
    ⟨some 8, .mv, [(.t 0)], [], none⟩,
    ⟨some 9, .mv, [(.t 1)], [], none⟩,
    ⟨some 10, .mv, [(.t 2)], [], none⟩,
    ⟨some 11, .mv, [(.t 0)], [], none⟩,
    ⟨some 12, .len, [(.t 11)], [3], none⟩,
    ⟨some 13, .slice (some 47) true true true, [(.t 8), (.t 9), (.t 10), (.t 12)], [0, 1, 2, 4], none⟩])
  (.seq (.seq (.region false [
    ⟨some 14, .mv, [(.t 1)], [], none⟩,
    ⟨some 15, .mv, [(.t 2)], [], none⟩,
    ⟨some 16, .bin .eql, [(.t 14), (.t 15)], [0, 1], none⟩])
  (.cond (.t 16) (.seq (.region false [
    ⟨some 17, .mv, [(.t 0)], [], none⟩,
    ⟨some 6, .mv, [(.t 17)], [0, 0], none⟩])
  (.ret)) (.skip)))
  (.seq (.region false [
    ⟨some 18, .mv, [(.t 0)], [], none⟩,
    ⟨some 19, .len, [(.t 18)], [0], none⟩,
    ⟨some 7, .mv, [(.t 19)], [1, 0, 1], none⟩])
  (.seq (.region true [
    ⟨some 20, .mv, [(.t 0)], [], none⟩,
    ⟨some 21, .mv, [(.t 1)], [], none⟩,
    ⟨some 22, .slice (some 47) false true false, [(.t 20), (.t 21)], [0, 1], none⟩,
    ⟨some 23, .mv, [(.t 0)], [], none⟩,
    ⟨some 24, .mv, [(.t 2)], [], none⟩,
    ⟨some 25, .slice (some 47) true false false, [(.t 23), (.t 24)], [3, 4], none⟩,
    ⟨some 26, .append 3 47 80, [(.t 22), (.t 25)], [2, 5], none⟩,
    ⟨some 0, .mv, [(.t 26)], [6, 6, 0, 1, 2, 3, 4, 5, 6], none⟩])
  (.seq (.region false [
    ⟨some 27, .mv, [(.t 0)], [], none⟩,
    ⟨some 28, .mv, [(.t 0)], [], none⟩,
    ⟨some 29, .len, [(.t 28)], [1], none⟩,
    ⟨some 30, .mv, [(.t 7)], [], none⟩,
    ⟨some 31, .slice (some 47) true true false, [(.t 27), (.t 29), (.t 30)], [0, 2, 3], none⟩,
    ⟨none, .clear 47 (D.agg [(D.str ⟨#[]⟩), (D.int .u64 0), (D.int .u8 0), (D.int .u8 0), (D.int .u8 0), (D.int .u8 0), (D.int .u8 0), (D.int .u8 0), (D.int .u8 0), (D.int .u8 0), (D.int .u8 0), (D.int .u8 0), (D.int .u8 0), (D.int .u8 0), (D.int .u8 0), (D.int .u8 0), (D.int .u8 0), (D.int .u8 0), (D.int .u8 0), (D.int .u8 0), (D.int .u8 0), (D.int .u8 0), (D.int .u8 0), (D.int .u8 0), (D.int .u8 0), (D.int .u8 0), (D.int .u8 0), (D.int .u8 0), (D.int .u8 0), (D.int .u8 0), (D.int .u8 0), (D.int .u8 0), (D.int .u8 0), (D.int .u8 0), (D.int .i64 0), (D.int .i64 0), (D.int .i64 0)]), [(.t 31)], [4], none⟩])
  (.seq (.region false [
    ⟨some 32, .mv, [(.t 0)], [], none⟩,
    ⟨some 6, .mv, [(.t 32)], [0, 0], none⟩])
  (.ret)))))))⟩

/- 39: slices.Clone[[]gatepath/api.FreshPoint,gatepath/api.FreshPoint] -/
def c_slices_Clone : DFun := ⟨8, 3, [.p], [.o 47], [.t 2],
  .seq (.region false [
    ⟨some 2, .mv, [(.c (D.zs 47 true))], [], none⟩])
  (.seq (.seq (.region false [
    ⟨some 3, .mv, [(.t 0)], [], none⟩,
    ⟨some 4, .eqnil false, [(.t 3)], [0], none⟩])
  (.cond (.t 4) (.seq (.region false [
    ⟨some 2, .mv, [(.c (D.zs 47 true))], [], none⟩])
  (.ret)) (.skip)))
  (.seq (.region false [
    ⟨some 5, .buildSl 1 47, [], [], none⟩,
    ⟨some 6, .mv, [(.t 0)], [], none⟩,
    ⟨some 7, .append 2 47 80, [(.t 5), (.t 6)], [0, 1], none⟩,
    ⟨some 2, .mv, [(.t 7)], [2, 2, 0, 1, 2], none⟩])
  (.ret)))⟩

/- 17: gatepath/fresh.Forget -/
def c_fresh_Forget : DFun := ⟨28, 7, [.p, .p], [.o 47, .p ⟨false, [.int .i64]⟩], [.t 4, .t 5],
  .seq (.region false [
    ⟨some 4, .mv, [(.c (D.zs 47 true))], [], none⟩,
    ⟨some 5, .mv, [(.c (D.int .i64 0))], [0], none⟩])
  (.seq (.region false [
    ⟨some 9, .mv, [(.t 0)], [], none⟩,
    ⟨some 10, .call [2], [(.c (D.fn 19 [])), (.t 9)], [0], none⟩,
    ⟨some 6, .mv, [(.t 10)], [1, 1, 0, 1], none⟩])
  (.seq (.seq (.region false [
    ⟨some 11, .mv, [(.t 6)], [], none⟩,
    ⟨some 12, .bin .neq, [(.t 11), (.c (D.int .i64 0))], [0], none⟩])
  (.cond (.t 12) (.seq (.region false [
    ⟨some 13, .mv, [(.t 6)], [], none⟩,
    ⟨some 4, .mv, [(.c (D.zs 47 true))], [], none⟩,
    ⟨some 5, .mv, [(.t 13)], [0, 1, 0, 1], none⟩])
  (.ret)) (.skip)))
  (.seq (.region false [
    ⟨some 15, .mv, [(.t 0)], [], none⟩,
    ⟨some 16, .mv, [(.t 1)], [], none⟩,
    ⟨some 17, .call [3, 4], [(.c (D.fn 37 [])), (.t 15), (.t 16)], [0, 1], none⟩,
    ⟨some 14, .mv, [(.t 17)], [2], none⟩,
    ⟨some 18, .ext 0, [(.t 14)], [3], none⟩,
    ⟨some 19, .ext 1, [(.t 14)], [3], none⟩,
    ⟨some 7, .mv, [(.t 18)], [4, 2, 0, 1, 2, 3, 4], none⟩,
    ⟨some 8, .mv, [(.t 19)], [5, 6, 0, 1, 2, 3, 4, 5, 6], none⟩])
  (.seq (.seq (.region false [
    ⟨some 20, .mv, [(.t 8)], [], none⟩,
    ⟨some 21, .not, [(.t 20)], [0], none⟩])
  (.cond (.t 21) (.seq (.region false [
    ⟨some 4, .mv, [(.c (D.zs 47 true))], [], none⟩,
    ⟨some 5, .mv, [(.c (D.int .i64 6))], [0, 0], none⟩])
  (.ret)) (.skip)))
  (.seq (.region false [
    ⟨some 22, .mv, [(.t 0)], [], none⟩,
    ⟨some 23, .call [5], [(.c (D.fn 39 [])), (.t 22)], [0], none⟩,
    ⟨some 24, .mv, [(.t 7)], [], none⟩,
    ⟨some 25, .mv, [(.t 7)], [], none⟩,
    ⟨some 26, .bin .add, [(.t 25), (.c (D.int .i64 1))], [3], none⟩,
    ⟨some 27, .call [6], [(.c (D.fn 38 [])), (.t 23), (.t 24), (.t 26)], [1, 2, 4, 1], none⟩,
    ⟨some 4, .mv, [(.t 27)], [5, 5, 0, 1, 2, 3, 4, 5], none⟩,
    ⟨some 5, .mv, [(.c (D.int .i64 0))], [6, 0, 1, 2, 3, 4, 5, 6], none⟩])
  (.ret))))))⟩

/- 21: gatepath/gatepathref29.SameStrings -/
def c_gatepathref29_SameStrings : DFun := ⟨26, 2, [.p, .p], [.p ⟨false, [.bool]⟩], [.t 4],
  .seq (.region false [
    ⟨some 4, .mv, [(.c (D.bool false))], [], none⟩])
  (.seq (.seq (.region false [
    ⟨some 6, .mv, [(.t 0)], [], none⟩,
    ⟨some 7, .len, [(.t 6)], [0], none⟩,
    ⟨some 8, .mv, [(.t 1)], [], none⟩,
    ⟨some 9, .len, [(.t 8)], [2], none⟩,
    ⟨some 10, .bin .neq, [(.t 7), (.t 9)], [1, 3], none⟩])
  (.cond (.t 10) (.seq (.region false [
    ⟨some 4, .mv, [(.c (D.bool false))], [], none⟩])
  (.ret)) (.skip)))
  (.seq (.seq (.region false [
    ⟨some 5, .mv, [(.c (D.int .i64 0))], [], none⟩])
  (.block 0 (.loop ⟨[0, 1], [(5, .p ⟨false, [.int .i64]⟩)], []⟩ (.seq (.seq (.region false [
    ⟨some 11, .mv, [(.t 5)], [], none⟩,
    ⟨some 12, .mv, [(.t 0)], [], none⟩,
    ⟨some 13, .len, [(.t 12)], [1], none⟩,
    ⟨some 14, .bin .lss, [(.t 11), (.t 13)], [0, 2], none⟩])
  (.cond (.t 14) (.skip) (.exit 0)))
  (.seq (.block 1 (.seq (.region true [
    ⟨some 17, .mv, [(.t 0)], [], none⟩,
    ⟨some 18, .mv, [(.t 5)], [], none⟩,
    ⟨some 19, .idxA 9, [(.t 17), (.t 18)], [0, 1], none⟩,
    ⟨some 20, .load ⟨false, [.str]⟩, [(.t 19)], [2], none⟩,
    ⟨some 21, .mv, [(.t 1)], [], none⟩,
    ⟨some 22, .mv, [(.t 5)], [], none⟩,
    ⟨some 23, .idxA 9, [(.t 21), (.t 22)], [4, 5], none⟩,
    ⟨some 24, .load ⟨false, [.str]⟩, [(.t 23)], [6], none⟩,
    ⟨some 25, .bin .neq, [(.t 20), (.t 24)], [3, 7], none⟩])
  (.cond (.t 25) (.seq (.region false [
    ⟨some 4, .mv, [(.c (D.bool false))], [], none⟩])
  (.ret)) (.skip))))
  (.region false [
    ⟨some 15, .mv, [(.t 5)], [], none⟩,
    ⟨some 16, .bin .add, [(.t 15), (.c (D.int .i64 1))], [0], none⟩,
    ⟨some 5, .mv, [(.t 16)], [1, 0, 1], none⟩]))))))
  (.seq (.region false [
    ⟨some 4, .mv, [(.c (D.bool true))], [], none⟩])
  (.ret))))⟩

/- 43: gatepath/fresh.judge -/
def c_fresh_judge : DFun := ⟨54, 4, [.p, .p], [.p ⟨false, [.int .u8]⟩], [.t 4],
  .seq (.region false [
    ⟨some 2, .box 2, [(.t 0)], [], none⟩,
    ⟨some 3, .box 3, [(.t 1)], [], none⟩,
    ⟨some 4, .mv, [(.c (D.int .u8 0))], [], none⟩])
  (.seq (.region false [
    ⟨some 6, .fld 2, [(.t 2)], [], none⟩,
    ⟨some 7, .load ⟨true, [.int .u8, .int .u8, .int .u8, .int .u8, .int .u8, .int .u8, .int .u8, .int .u8, .int .u8, .int .u8, .int .u8, .int .u8, .int .u8, .int .u8, .int .u8, .int .u8, .int .u8, .int .u8, .int .u8, .int .u8, .int .u8, .int .u8, .int .u8, .int .u8, .int .u8, .int .u8, .int .u8, .int .u8, .int .u8, .int .u8, .int .u8, .int .u8]⟩, [(.t 6)], [0], none⟩,
    ⟨some 8, .fld 2, [(.t 3)], [], none⟩,
    ⟨some 9, .load ⟨true, [.int .u8, .int .u8, .int .u8, .int .u8, .int .u8, .int .u8, .int .u8, .int .u8, .int .u8, .int .u8, .int .u8, .int .u8, .int .u8, .int .u8, .int .u8, .int .u8, .int .u8, .int .u8, .int .u8, .int .u8, .int .u8, .int .u8, .int .u8, .int .u8, .int .u8, .int .u8, .int .u8, .int .u8, .int .u8, .int .u8, .int .u8, .int .u8]⟩, [(.t 8)], [2], none⟩,
    ⟨some 10, .eqv false ⟨true, [.int .u8, .int .u8, .int .u8, .int .u8, .int .u8, .int .u8, .int .u8, .int .u8, .int .u8, .int .u8, .int .u8, .int .u8, .int .u8, .int .u8, .int .u8, .int .u8, .int .u8, .int .u8, .int .u8, .int .u8, .int .u8, .int .u8, .int .u8, .int .u8, .int .u8, .int .u8, .int .u8, .int .u8, .int .u8, .int .u8, .int .u8, .int .u8]⟩, [(.t 7), (.t 9)], [1, 3], none⟩,
    ⟨some 11, .mv, [(.t 10)], [4], none⟩,
    ⟨some 12, .fld 34, [(.t 2)], [5], some (11, true)⟩,
    ⟨some 13, .load ⟨true, [.int .i64, .int .i64]⟩, [(.t 12)], [6, 5], some (11, true)⟩,
    ⟨some 14, .fld 34, [(.t 3)], [5], some (11, true)⟩,
    ⟨some 15, .load ⟨true, [.int .i64, .int .i64]⟩, [(.t 14)], [8, 5], some (11, true)⟩,
    ⟨some 16, .eqv false ⟨true, [.int .i64, .int .i64]⟩, [(.t 13), (.t 15)], [7, 9, 5], some (11, true)⟩,
    ⟨some 17, .pick, [(.t 11), (.t 16), (.c (D.bool false))], [5, 10], none⟩,
    ⟨some 5, .mv, [(.t 17)], [11, 5, 0, 1, 2, 3, 4, 5, 6, 7, 8, 9, 10, 11], none⟩])
  (.seq (.block 0 (.seq (.region false [
    ⟨some 19, .fld 1, [(.t 2)], [], none⟩,
    ⟨some 20, .load ⟨false, [.int .u64]⟩, [(.t 19)], [0], none⟩,
    ⟨some 21, .fld 1, [(.t 3)], [], none⟩,
    ⟨some 22, .load ⟨false, [.int .u64]⟩, [(.t 21)], [2], none⟩,
    ⟨some 23, .bin .lss, [(.t 20), (.t 22)], [1, 3], none⟩,
    ⟨some 18, .mv, [(.t 23)], [4], none⟩])
  (.cond (.t 18) (.seq (.region false [
    ⟨some 4, .mv, [(.c (D.int .u8 4))], [], none⟩])
  (.ret)) (.seq (.region false [
    ⟨some 25, .fld 1, [(.t 2)], [], none⟩,
    ⟨some 26, .load ⟨false, [.int .u64]⟩, [(.t 25)], [0], none⟩,
    ⟨some 27, .fld 1, [(.t 3)], [], none⟩,
    ⟨some 28, .load ⟨false, [.int .u64]⟩, [(.t 27)], [2], none⟩,
    ⟨some 29, .bin .eql, [(.t 26), (.t 28)], [1, 3], none⟩,
    ⟨some 30, .mv, [(.t 29)], [4], none⟩,
    ⟨some 31, .mv, [(.t 5)], [5], some (30, true)⟩,
    ⟨some 32, .pick, [(.t 30), (.t 31), (.c (D.bool false))], [5, 6], none⟩,
    ⟨some 24, .mv, [(.t 32)], [7, 5], none⟩])
  (.cond (.t 24) (.seq (.region false [
    ⟨some 4, .mv, [(.c (D.int .u8 2))], [], none⟩])
  (.ret)) (.seq (.region false [
    ⟨some 34, .fld 1, [(.t 2)], [], none⟩,
    ⟨some 35, .load ⟨false, [.int .u64]⟩, [(.t 34)], [0], none⟩,
    ⟨some 36, .fld 1, [(.t 3)], [], none⟩,
    ⟨some 37, .load ⟨false, [.int .u64]⟩, [(.t 36)], [2], none⟩,
    ⟨some 38, .bin .eql, [(.t 35), (.t 37)], [1, 3], none⟩,
    ⟨some 39, .mv, [(.t 38)], [4], none⟩,
    ⟨some 40, .fld 2, [(.t 2)], [5], some (39, false)⟩,
    ⟨some 41, .load ⟨true, [.int .u8, .int .u8, .int .u8, .int .u8, .int .u8, .int .u8, .int .u8, .int .u8, .int .u8, .int .u8, .int .u8, .int .u8, .int .u8, .int .u8, .int .u8, .int .u8, .int .u8, .int .u8, .int .u8, .int .u8, .int .u8, .int .u8, .int .u8, .int .u8, .int .u8, .int .u8, .int .u8, .int .u8, .int .u8, .int .u8, .int .u8, .int .u8]⟩, [(.t 40)], [6, 5], some (39, false)⟩,
    ⟨some 42, .fld 2, [(.t 3)], [5], some (39, false)⟩,
    ⟨some 43, .load ⟨true, [.int .u8, .int .u8, .int .u8, .int .u8, .int .u8, .int .u8, .int .u8, .int .u8, .int .u8, .int .u8, .int .u8, .int .u8, .int .u8, .int .u8, .int .u8, .int .u8, .int .u8, .int .u8, .int .u8, .int .u8, .int .u8, .int .u8, .int .u8, .int .u8, .int .u8, .int .u8, .int .u8, .int .u8, .int .u8, .int .u8, .int .u8, .int .u8]⟩, [(.t 42)], [8, 5], some (39, false)⟩,
    ⟨some 44, .eqv false ⟨true, [.int .u8, .int .u8, .int .u8, .int .u8, .int .u8, .int .u8, .int .u8, .int .u8, .int .u8, .int .u8, .int .u8, .int .u8, .int .u8, .int .u8, .int .u8, .int .u8, .int .u8, .int .u8, .int .u8, .int .u8, .int .u8, .int .u8, .int .u8, .int .u8, .int .u8, .int .u8, .int .u8, .int .u8, .int .u8, .int .u8, .int .u8, .int .u8]⟩, [(.t 41), (.t 43)], [7, 9, 5], some (39, false)⟩,
    ⟨some 45, .pick, [(.t 39), (.c (D.bool true)), (.t 44)], [5, 10], none⟩,
    ⟨some 33, .mv, [(.t 45)], [11, 5], none⟩])
  (.cond (.t 33) (.seq (.region false [
    ⟨some 4, .mv, [(.c (D.int .u8 5))], [], none⟩])
  (.ret)) (.seq (.region false [
    ⟨some 47, .fld 34, [(.t 2)], [], none⟩,
    ⟨some 48, .fld 0, [(.t 47)], [0], none⟩,
    ⟨some 49, .load ⟨false, [.int .i64]⟩, [(.t 48)], [1], none⟩,
    ⟨some 50, .fld 34, [(.t 3)], [], none⟩,
    ⟨some 51, .fld 0, [(.t 50)], [3], none⟩,
    ⟨some 52, .load ⟨false, [.int .i64]⟩, [(.t 51)], [4], none⟩,
    ⟨some 53, .bin .lss, [(.t 49), (.t 52)], [2, 5], none⟩,
    ⟨some 46, .mv, [(.t 53)], [6], none⟩])
  (.cond (.t 46) (.seq (.region false [
    ⟨some 4, .mv, [(.c (D.int .u8 8))], [], none⟩])
  (.ret)) (.skip))))))))))
  (.seq (.region false [
    ⟨some 4, .mv, [(.c (D.int .u8 3))], [], none⟩])
  (.ret))))⟩

/- 22: gatepath/fresh.Look -/
def c_fresh_Look : DFun := ⟨100, 13, [.p, .p, .p], [.o 47, .p ⟨false, [.int .u8]⟩, .p ⟨false, [.int .i64]⟩], [.t 6, .t 7, .t 8],
  .seq (.region false [
    ⟨some 4, .box 3, [(.t 1)], [], none⟩,
    ⟨some 6, .mv, [(.c (D.zs 47 true))], [], none⟩,
    ⟨some 7, .mv, [(.c (D.int .u8 0))], [1], none⟩,
    ⟨some 8, .mv, [(.c (D.int .i64 0))], [2], none⟩])
  (.seq (.region false [
    ⟨some 14, .mv, [(.t 0)], [], none⟩,
    ⟨some 15, .call [5], [(.c (D.fn 19 [])), (.t 14)], [0], none⟩,
    ⟨some 9, .mv, [(.t 15)], [1, 1, 0, 1], none⟩])
  (.seq (.seq (.region false [
    ⟨some 16, .mv, [(.t 9)], [], none⟩,
    ⟨some 17, .bin .neq, [(.t 16), (.c (D.int .i64 0))], [0], none⟩])
  (.cond (.t 17) (.seq (.region false [
    ⟨some 18, .mv, [(.t 9)], [], none⟩,
    ⟨some 6, .mv, [(.c (D.zs 47 true))], [], none⟩,
    ⟨some 7, .mv, [(.c (D.int .u8 0))], [1, 1], none⟩,
    ⟨some 8, .mv, [(.t 18)], [0, 2, 0, 1, 2], none⟩])
  (.ret)) (.skip)))
  (.seq (.seq (.region false [
    ⟨some 19, .mv, [(.t 2)], [], none⟩,
    ⟨some 20, .call [6], [(.c (D.fn 35 [])), (.t 19)], [0], none⟩,
    ⟨some 21, .not, [(.t 20)], [1], none⟩,
    ⟨some 22, .mv, [(.t 21)], [2, 1], none⟩,
    ⟨some 23, .load ⟨true, [.str, .int .u64, .int .u8, .int .u8, .int .u8, .int .u8, .int .u8, .int .u8, .int .u8, .int .u8, .int .u8, .int .u8, .int .u8, .int .u8, .int .u8, .int .u8, .int .u8, .int .u8, .int .u8, .int .u8, .int .u8, .int .u8, .int .u8, .int .u8, .int .u8, .int .u8, .int .u8, .int .u8, .int .u8, .int .u8, .int .u8, .int .u8, .int .u8, .int .u8, .int .i64, .int .i64, .int .i64]⟩, [(.t 4)], [3], some (22, false)⟩,
    ⟨some 24, .call [7], [(.c (D.fn 40 [])), (.t 23)], [4, 3, 3], some (22, false)⟩,
    ⟨some 25, .not, [(.t 24)], [5, 3], some (22, false)⟩,
    ⟨some 26, .pick, [(.t 22), (.c (D.bool true)), (.t 25)], [3, 6], none⟩,
    ⟨some 27, .mv, [(.t 26)], [7, 5], none⟩,
    ⟨some 28, .fld 36, [(.t 4)], [8], some (27, false)⟩,
    ⟨some 29, .load ⟨false, [.int .i64]⟩, [(.t 28)], [9, 8], some (27, false)⟩,
    ⟨some 30, .mv, [(.t 2)], [8], some (27, false)⟩,
    ⟨some 31, .bin .neq, [(.t 29), (.t 30)], [10, 11, 8], some (27, false)⟩,
    ⟨some 32, .pick, [(.t 27), (.c (D.bool true)), (.t 31)], [8, 12], none⟩])
  (.cond (.t 32) (.seq (.region false [
    ⟨some 6, .mv, [(.c (D.zs 47 true))], [], none⟩,
    ⟨some 7, .mv, [(.c (D.int .u8 0))], [0, 0], none⟩,
    ⟨some 8, .mv, [(.c (D.int .i64 2))], [1, 0, 1], none⟩])
  (.ret)) (.skip)))
  (.seq (.region false [
    ⟨some 34, .mv, [(.t 0)], [], none⟩,
    ⟨some 35, .fld 0, [(.t 4)], [], none⟩,
    ⟨some 36, .load ⟨false, [.str]⟩, [(.t 35)], [1], none⟩,
    ⟨some 37, .call [8, 9], [(.c (D.fn 37 [])), (.t 34), (.t 36)], [0, 2], none⟩,
    ⟨some 33, .mv, [(.t 37)], [3], none⟩,
    ⟨some 38, .ext 0, [(.t 33)], [4], none⟩,
    ⟨some 39, .ext 1, [(.t 33)], [4], none⟩,
    ⟨some 10, .mv, [(.t 38)], [5, 3, 0, 1, 2, 3, 4, 5], none⟩,
    ⟨some 11, .mv, [(.t 39)], [6, 7, 0, 1, 2, 3, 4, 5, 6, 7], none⟩])
  (.seq (.seq (.region false [
    ⟨some 40, .mv, [(.t 11)], [], none⟩,
    ⟨some 41, .mv, [(.t 40)], [0], none⟩,
    ⟨some 42, .mv, [(.t 0)], [1], some (41, true)⟩,
    ⟨some 43, .mv, [(.t 10)], [1], some (41, true)⟩,
    ⟨some 44, .idxA 47, [(.t 42), (.t 43)], [2, 3, 1], some (41, true)⟩,
    ⟨some 45, .fld 36, [(.t 44)], [4, 1], some (41, true)⟩,
    ⟨some 46, .load ⟨false, [.int .i64]⟩, [(.t 45)], [5, 1], some (41, true)⟩,
    ⟨some 47, .mv, [(.t 2)], [1], some (41, true)⟩,
    ⟨some 48, .bin .gtr, [(.t 46), (.t 47)], [6, 7, 1], some (41, true)⟩,
    ⟨some 49, .pick, [(.t 41), (.t 48), (.c (D.bool false))], [1, 8], none⟩])
  (.cond (.t 49) (.seq (.region false [
    ⟨some 6, .mv, [(.c (D.zs 47 true))], [], none⟩,
    ⟨some 7, .mv, [(.c (D.int .u8 0))], [0, 0], none⟩,
    ⟨some 8, .mv, [(.c (D.int .i64 30))], [1, 0, 1], none⟩])
  (.ret)) (.skip)))
  (.seq (.region false [
    ⟨some 50, .mv, [(.t 0)], [], none⟩,
    ⟨some 51, .call [10], [(.c (D.fn 39 [])), (.t 50)], [0], none⟩,
    ⟨some 12, .mv, [(.t 51)], [1, 1, 0, 1], none⟩])
  (.seq (.block 0 (.seq (.region false [
    ⟨some 53, .mv, [(.t 2)], [], none⟩,
    ⟨some 54, .fld 34, [(.t 4)], [], none⟩,
    ⟨some 55, .fld 1, [(.t 54)], [1], none⟩,
    ⟨some 56, .load ⟨false, [.int .i64]⟩, [(.t 55)], [2], none⟩,
    ⟨some 57, .bin .gtr, [(.t 53), (.t 56)], [0, 3], none⟩,
    ⟨some 52, .mv, [(.t 57)], [4], none⟩])
  (.cond (.t 52) (.seq (.region false [
    ⟨some 58, .mv, [(.t 12)], [], none⟩,
    ⟨some 6, .mv, [(.t 58)], [0, 0], none⟩,
    ⟨some 7, .mv, [(.c (D.int .u8 6))], [1, 0, 1], none⟩,
    ⟨some 8, .mv, [(.c (D.int .i64 0))], [2, 0, 1, 2], none⟩])
  (.ret)) (.seq (.region false [
    ⟨some 60, .mv, [(.t 2)], [], none⟩,
    ⟨some 61, .fld 34, [(.t 4)], [], none⟩,
    ⟨some 62, .fld 0, [(.t 61)], [1], none⟩,
    ⟨some 63, .load ⟨false, [.int .i64]⟩, [(.t 62)], [2], none⟩,
    ⟨some 64, .bin .lss, [(.t 60), (.t 63)], [0, 3], none⟩,
    ⟨some 59, .mv, [(.t 64)], [4], none⟩])
  (.cond (.t 59) (.seq (.region false [
    ⟨some 65, .mv, [(.t 12)], [], none⟩,
    ⟨some 6, .mv, [(.t 65)], [0, 0], none⟩,
    ⟨some 7, .mv, [(.c (D.int .u8 7))], [1, 0, 1], none⟩,
    ⟨some 8, .mv, [(.c (D.int .i64 0))], [2, 0, 1, 2], none⟩])
  (.ret)) (.seq (.region false [
    ⟨some 67, .mv, [(.t 11)], [], none⟩,
    ⟨some 68, .not, [(.t 67)], [0], none⟩,
    ⟨some 69, .mv, [(.t 68)], [1], none⟩,
    ⟨some 70, .mv, [(.t 0)], [2], some (69, true)⟩,
    ⟨some 71, .len, [(.t 70)], [3, 2], some (69, true)⟩,
    ⟨some 72, .bin .eql, [(.t 71), (.c (D.int .i64 200))], [4, 2], some (69, true)⟩,
    ⟨some 73, .pick, [(.t 69), (.t 72), (.c (D.bool false))], [2, 5], none⟩,
    ⟨some 66, .mv, [(.t 73)], [6, 2], none⟩])
  (.cond (.t 66) (.seq (.region false [
    ⟨some 6, .mv, [(.c (D.zs 47 true))], [], none⟩,
    ⟨some 7, .mv, [(.c (D.int .u8 0))], [0, 0], none⟩,
    ⟨some 8, .mv, [(.c (D.int .i64 16))], [1, 0, 1], none⟩])
  (.ret)) (.seq (.region false [
    ⟨some 75, .mv, [(.t 11)], [], none⟩,
    ⟨some 76, .not, [(.t 75)], [0], none⟩,
    ⟨some 74, .mv, [(.t 76)], [1], none⟩])
  (.cond (.t 74) (.seq (.region false [
    ⟨some 77, .mv, [(.t 12)], [], none⟩,
    ⟨some 78, .mv, [(.t 10)], [], none⟩,
    ⟨some 79, .load ⟨true, [.str, .int .u64, .int .u8, .int .u8, .int .u8, .int .u8, .int .u8, .int .u8, .int .u8, .int .u8, .int .u8, .int .u8, .int .u8, .int .u8, .int .u8, .int .u8, .int .u8, .int .u8, .int .u8, .int .u8, .int .u8, .int .u8, .int .u8, .int .u8, .int .u8, .int .u8, .int .u8, .int .u8, .int .u8, .int .u8, .int .u8, .int .u8, .int .u8, .int .u8, .int .i64, .int .i64, .int .i64]⟩, [(.t 4)], [], none⟩,
    ⟨some 80, .buildSl 4 47, [(.t 79)], [2], none⟩,
    ⟨some 81, .call [11], [(.c (D.fn 42 [])), (.t 77), (.t 78), (.t 80)], [0, 1, 3], none⟩,
    ⟨some 6, .mv, [(.t 81)], [4, 4, 0, 1, 2, 3, 4], none⟩,
    ⟨some 7, .mv, [(.c (D.int .u8 1))], [5, 0, 1, 2, 3, 4, 5], none⟩,
    ⟨some 8, .mv, [(.c (D.int .i64 0))], [6, 0, 1, 2, 3, 4, 5, 6], none⟩])
  (.ret)) (.skip))))))))))
  (.seq (.region true [
    ⟨some 82, .load ⟨true, [.str, .int .u64, .int .u8, .int .u8, .int .u8, .int .u8, .int .u8, .int .u8, .int .u8, .int .u8, .int .u8, .int .u8, .int .u8, .int .u8, .int .u8, .int .u8, .int .u8, .int .u8, .int .u8, .int .u8, .int .u8, .int .u8, .int .u8, .int .u8, .int .u8, .int .u8, .int .u8, .int .u8, .int .u8, .int .u8, .int .u8, .int .u8, .int .u8, .int .u8, .int .i64, .int .i64, .int .i64]⟩, [(.t 4)], [], none⟩,
    ⟨some 83, .mv, [(.t 0)], [], none⟩,
    ⟨some 84, .mv, [(.t 10)], [], none⟩,
    ⟨some 85, .idxA 47, [(.t 83), (.t 84)], [1, 2], none⟩,
    ⟨some 86, .load ⟨true, [.str, .int .u64, .int .u8, .int .u8, .int .u8, .int .u8, .int .u8, .int .u8, .int .u8, .int .u8, .int .u8, .int .u8, .int .u8, .int .u8, .int .u8, .int .u8, .int .u8, .int .u8, .int .u8, .int .u8, .int .u8, .int .u8, .int .u8, .int .u8, .int .u8, .int .u8, .int .u8, .int .u8, .int .u8, .int .u8, .int .u8, .int .u8, .int .u8, .int .u8, .int .i64, .int .i64, .int .i64]⟩, [(.t 85)], [3], none⟩,
    ⟨some 87, .call [12], [(.c (D.fn 43 [])), (.t 82), (.t 86)], [0, 4], none⟩,
    ⟨some 13, .mv, [(.t 87)], [5, 5, 0, 1, 2, 3, 4, 5], none⟩])
  (.seq (.seq (.region false [
    ⟨some 88, .mv, [(.t 13)], [], none⟩,
    ⟨some 89, .bin .eql, [(.t 88), (.c (D.int .u8 2))], [0], none⟩,
    ⟨some 90, .mv, [(.t 89)], [1], none⟩,
    ⟨some 91, .mv, [(.t 13)], [2], some (90, false)⟩,
    ⟨some 92, .bin .eql, [(.t 91), (.c (D.int .u8 3))], [3, 2], some (90, false)⟩,
    ⟨some 93, .pick, [(.t 90), (.c (D.bool true)), (.t 92)], [2, 4], none⟩])
  (.cond (.t 93) (.region false [
    ⟨some 94, .mv, [(.t 12)], [], none⟩,
    ⟨some 95, .mv, [(.t 10)], [], none⟩,
    ⟨some 96, .load ⟨true, [.str, .int .u64, .int .u8, .int .u8, .int .u8, .int .u8, .int .u8, .int .u8, .int .u8, .int .u8, .int .u8, .int .u8, .int .u8, .int .u8, .int .u8, .int .u8, .int .u8, .int .u8, .int .u8, .int .u8, .int .u8, .int .u8, .int .u8, .int .u8, .int .u8, .int .u8, .int .u8, .int .u8, .int .u8, .int .u8, .int .u8, .int .u8, .int .u8, .int .u8, .int .i64, .int .i64, .int .i64]⟩, [(.t 4)], [], none⟩,
    ⟨some 97, .idxA 47, [(.t 94), (.t 95)], [0, 1, 0, 1, 2], none⟩,
    ⟨none, .store ⟨true, [.str, .int .u64, .int .u8, .int .u8, .int .u8, .int .u8, .int .u8, .int .u8, .int .u8, .int .u8, .int .u8, .int .u8, .int .u8, .int .u8, .int .u8, .int .u8, .int .u8, .int .u8, .int .u8, .int .u8, .int .u8, .int .u8, .int .u8, .int .u8, .int .u8, .int .u8, .int .u8, .int .u8, .int .u8, .int .u8, .int .u8, .int .u8, .int .u8, .int .u8, .int .i64, .int .i64, .int .i64]⟩, [(.t 97), (.t 96)], [3, 2, 0, 1, 2], none⟩]) (.skip)))
  (.seq (.region false [
    ⟨some 98, .mv, [(.t 12)], [], none⟩,
    ⟨some 99, .mv, [(.t 13)], [], none⟩,
    ⟨some 6, .mv, [(.t 98)], [0, 0], none⟩,
    ⟨some 7, .mv, [(.t 99)], [1, 2, 0, 1, 2], none⟩,
    ⟨some 8, .mv, [(.c (D.int .i64 0))], [3, 0, 1, 2, 3], none⟩])
  (.ret)))))))))))⟩

/- 14: gatepath/gatepathref29.Same -/
def c_gatepathref29_Same : DFun := ⟨26, 2, [.p, .p], [.p ⟨false, [.bool]⟩], [.t 4],
  .seq (.region false [
    ⟨some 4, .mv, [(.c (D.bool false))], [], none⟩])
  (.seq (.seq (.region false [
    ⟨some 6, .mv, [(.t 0)], [], none⟩,
    ⟨some 7, .len, [(.t 6)], [0], none⟩,
    ⟨some 8, .mv, [(.t 1)], [], none⟩,
    ⟨some 9, .len, [(.t 8)], [2], none⟩,
    ⟨some 10, .bin .neq, [(.t 7), (.t 9)], [1, 3], none⟩])
  (.cond (.t 10) (.seq (.region false [
    ⟨some 4, .mv, [(.c (D.bool false))], [], none⟩])
  (.ret)) (.skip)))
  (.seq (.seq (.region false [
    ⟨some 5, .mv, [(.c (D.int .i64 0))], [], none⟩])
  (.block 0 (.loop ⟨[0, 1], [(5, .p ⟨false, [.int .i64]⟩)], []⟩ (.seq (.seq (.region false [
    ⟨some 11, .mv, [(.t 5)], [], none⟩,
    ⟨some 12, .mv, [(.t 0)], [], none⟩,
    ⟨some 13, .len, [(.t 12)], [1], none⟩,
    ⟨some 14, .bin .lss, [(.t 11), (.t 13)], [0, 2], none⟩])
  (.cond (.t 14) (.skip) (.exit 0)))
  (.seq (.block 1 (.seq (.region true [
    ⟨some 17, .mv, [(.t 0)], [], none⟩,
    ⟨some 18, .mv, [(.t 5)], [], none⟩,
    ⟨some 19, .idxA 47, [(.t 17), (.t 18)], [0, 1], none⟩,
    ⟨some 20, .load ⟨true, [.str, .int .u64, .int .u8, .int .u8, .int .u8, .int .u8, .int .u8, .int .u8, .int .u8, .int .u8, .int .u8, .int .u8, .int .u8, .int .u8, .int .u8, .int .u8, .int .u8, .int .u8, .int .u8, .int .u8, .int .u8, .int .u8, .int .u8, .int .u8, .int .u8, .int .u8, .int .u8, .int .u8, .int .u8, .int .u8, .int .u8, .int .u8, .int .u8, .int .u8, .int .i64, .int .i64, .int .i64]⟩, [(.t 19)], [2], none⟩,
    ⟨some 21, .mv, [(.t 1)], [], none⟩,
    ⟨some 22, .mv, [(.t 5)], [], none⟩,
    ⟨some 23, .idxA 47, [(.t 21), (.t 22)], [4, 5], none⟩,
    ⟨some 24, .load ⟨true, [.str, .int .u64, .int .u8, .int .u8, .int .u8, .int .u8, .int .u8, .int .u8, .int .u8, .int .u8, .int .u8, .int .u8, .int .u8, .int .u8, .int .u8, .int .u8, .int .u8, .int .u8, .int .u8, .int .u8, .int .u8, .int .u8, .int .u8, .int .u8, .int .u8, .int .u8, .int .u8, .int .u8, .int .u8, .int .u8, .int .u8, .int .u8, .int .u8, .int .u8, .int .i64, .int .i64, .int .i64]⟩, [(.t 23)], [6], none⟩,
    ⟨some 25, .eqv true ⟨true, [.str, .int .u64, .int .u8, .int .u8, .int .u8, .int .u8, .int .u8, .int .u8, .int .u8, .int .u8, .int .u8, .int .u8, .int .u8, .int .u8, .int .u8, .int .u8, .int .u8, .int .u8, .int .u8, .int .u8, .int .u8, .int .u8, .int .u8, .int .u8, .int .u8, .int .u8, .int .u8, .int .u8, .int .u8, .int .u8, .int .u8, .int .u8, .int .u8, .int .u8, .int .i64, .int .i64, .int .i64]⟩, [(.t 20), (.t 24)], [3, 7], none⟩])
  (.cond (.t 25) (.seq (.region false [
    ⟨some 4, .mv, [(.c (D.bool false))], [], none⟩])
  (.ret)) (.skip))))
  (.region false [
    ⟨some 15, .mv, [(.t 5)], [], none⟩,
    ⟨some 16, .bin .add, [(.t 15), (.c (D.int .i64 1))], [0], none⟩,
    ⟨some 5, .mv, [(.t 16)], [1, 0, 1], none⟩]))))))
  (.seq (.region false [
    ⟨some 4, .mv, [(.c (D.bool true))], [], none⟩])
  (.ret))))⟩

/- 27: gatepath/gatepathlaw29.look -/
def c_gatepathlaw29_look : DFun := ⟨28, 7, [.p, .p, .p], [.o 47, .p ⟨false, [.bool]⟩], [.t 6, .t 7],
  .seq (.region false [
    ⟨some 4, .box 3, [(.t 1)], [], none⟩,
    ⟨some 6, .mv, [(.c (D.zs 47 true))], [], none⟩,
    ⟨some 7, .mv, [(.c (D.bool false))], [1], none⟩])
  (.seq (.region false [
    ⟨some 12, .mv, [(.t 0)], [], none⟩,
    ⟨some 13, .load ⟨true, [.str, .int .u64, .int .u8, .int .u8, .int .u8, .int .u8, .int .u8, .int .u8, .int .u8, .int .u8, .int .u8, .int .u8, .int .u8, .int .u8, .int .u8, .int .u8, .int .u8, .int .u8, .int .u8, .int .u8, .int .u8, .int .u8, .int .u8, .int .u8, .int .u8, .int .u8, .int .u8, .int .u8, .int .u8, .int .u8, .int .u8, .int .u8, .int .u8, .int .u8, .int .i64, .int .i64, .int .i64]⟩, [(.t 4)], [], none⟩,
    ⟨some 14, .fld 36, [(.t 4)], [], none⟩,
    ⟨some 15, .load ⟨false, [.int .i64]⟩, [(.t 14)], [2], none⟩,
    ⟨some 16, .call [4, 5, 6], [(.c (D.fn 22 [])), (.t 12), (.t 13), (.t 15)], [0, 1, 3], none⟩,
    ⟨some 11, .mv, [(.t 16)], [4], none⟩,
    ⟨some 17, .ext 0, [(.t 11)], [5], none⟩,
    ⟨some 18, .ext 1, [(.t 11)], [5], none⟩,
    ⟨some 19, .ext 2, [(.t 11)], [5], none⟩,
    ⟨some 8, .mv, [(.t 17)], [6, 4, 0, 1, 2, 3, 4, 5, 6], none⟩,
    ⟨some 9, .mv, [(.t 18)], [7, 9, 0, 1, 2, 3, 4, 5, 6, 7, 9], none⟩,
    ⟨some 10, .mv, [(.t 19)], [8, 10, 0, 1, 2, 3, 4, 5, 6, 7, 8, 9, 10], none⟩])
  (.seq (.region false [
    ⟨some 20, .mv, [(.t 8)], [], none⟩,
    ⟨some 21, .mv, [(.t 10)], [], none⟩,
    ⟨some 22, .bin .eql, [(.t 21), (.c (D.int .i64 0))], [1], none⟩,
    ⟨some 23, .mv, [(.t 22)], [2], none⟩,
    ⟨some 24, .mv, [(.t 9)], [3], some (23, true)⟩,
    ⟨some 25, .mv, [(.t 2)], [3], some (23, true)⟩,
    ⟨some 26, .bin .eql, [(.t 24), (.t 25)], [4, 5, 3], some (23, true)⟩,
    ⟨some 27, .pick, [(.t 23), (.t 26), (.c (D.bool false))], [3, 6], none⟩,
    ⟨some 6, .mv, [(.t 20)], [0, 3, 0], none⟩,
    ⟨some 7, .mv, [(.t 27)], [7, 8, 0, 1, 2, 3, 4, 5, 6, 7, 8], none⟩])
  (.ret)))⟩

/- 28: gatepath/gatepathlaw29.manifest -/
def c_gatepathlaw29_manifest : DFun := ⟨22, 7, [.p, .p, .p, .p, .p, .p], [.p ⟨true, [.str, .int .u64, .int .u8, .int .u8, .int .u8, .int .u8, .int .u8, .int .u8, .int .u8, .int .u8, .int .u8, .int .u8, .int .u8, .int .u8, .int .u8, .int .u8, .int .u8, .int .u8, .int .u8, .int .u8, .int .u8, .int .u8, .int .u8, .int .u8, .int .u8, .int .u8, .int .u8, .int .u8, .int .u8, .int .u8, .int .u8, .int .u8, .int .u8, .int .u8, .int .i64, .int .i64, .int .i64]⟩], [.c 12],
  .seq (.region false [
    ⟨some 12, .alloc 6 [(D.str ⟨#[]⟩), (D.int .u64 0), (D.int .u8 0), (D.int .u8 0), (D.int .u8 0), (D.int .u8 0), (D.int .u8 0), (D.int .u8 0), (D.int .u8 0), (D.int .u8 0), (D.int .u8 0), (D.int .u8 0), (D.int .u8 0), (D.int .u8 0), (D.int .u8 0), (D.int .u8 0), (D.int .u8 0), (D.int .u8 0), (D.int .u8 0), (D.int .u8 0), (D.int .u8 0), (D.int .u8 0), (D.int .u8 0), (D.int .u8 0), (D.int .u8 0), (D.int .u8 0), (D.int .u8 0), (D.int .u8 0), (D.int .u8 0), (D.int .u8 0), (D.int .u8 0), (D.int .u8 0), (D.int .u8 0), (D.int .u8 0), (D.int .i64 0), (D.int .i64 0), (D.int .i64 0)], [], [], none⟩])
  (.seq (.region false [
    ⟨some 13, .mv, [(.t 0)], [], none⟩,
    ⟨some 14, .mv, [(.t 1)], [], none⟩,
    ⟨some 15, .mv, [(.t 2)], [], none⟩,
    ⟨some 16, .build [(D.int .u8 0), (D.int .u8 0), (D.int .u8 0), (D.int .u8 0), (D.int .u8 0), (D.int .u8 0), (D.int .u8 0), (D.int .u8 0), (D.int .u8 0), (D.int .u8 0), (D.int .u8 0), (D.int .u8 0), (D.int .u8 0), (D.int .u8 0), (D.int .u8 0), (D.int .u8 0), (D.int .u8 0), (D.int .u8 0), (D.int .u8 0), (D.int .u8 0), (D.int .u8 0), (D.int .u8 0), (D.int .u8 0), (D.int .u8 0), (D.int .u8 0), (D.int .u8 0), (D.int .u8 0), (D.int .u8 0), (D.int .u8 0), (D.int .u8 0), (D.int .u8 0), (D.int .u8 0)] [(0, 1)], [(.t 15)], [2], none⟩,
    ⟨some 17, .mv, [(.t 3)], [], none⟩,
    ⟨some 18, .mv, [(.t 4)], [], none⟩,
    ⟨some 19, .build [(D.int .i64 0), (D.int .i64 0)] [(0, 1), (1, 1)], [(.t 17), (.t 18)], [4, 5], none⟩,
    ⟨some 20, .mv, [(.t 5)], [], none⟩,
    ⟨some 21, .build [(D.str ⟨#[]⟩), (D.int .u64 0), (D.int .u8 0), (D.int .u8 0), (D.int .u8 0), (D.int .u8 0), (D.int .u8 0), (D.int .u8 0), (D.int .u8 0), (D.int .u8 0), (D.int .u8 0), (D.int .u8 0), (D.int .u8 0), (D.int .u8 0), (D.int .u8 0), (D.int .u8 0), (D.int .u8 0), (D.int .u8 0), (D.int .u8 0), (D.int .u8 0), (D.int .u8 0), (D.int .u8 0), (D.int .u8 0), (D.int .u8 0), (D.int .u8 0), (D.int .u8 0), (D.int .u8 0), (D.int .u8 0), (D.int .u8 0), (D.int .u8 0), (D.int .u8 0), (D.int .u8 0), (D.int .u8 0), (D.int .u8 0), (D.int .i64 0), (D.int .i64 0), (D.int .i64 0)] [(0, 1), (1, 1), (2, 32), (34, 2), (36, 1)], [(.t 13), (.t 14), (.t 16), (.t 19), (.t 20)], [0, 1, 3, 6, 7], none⟩,
    ⟨none, .store ⟨true, [.str, .int .u64, .int .u8, .int .u8, .int .u8, .int .u8, .int .u8, .int .u8, .int .u8, .int .u8, .int .u8, .int .u8, .int .u8, .int .u8, .int .u8, .int .u8, .int .u8, .int .u8, .int .u8, .int .u8, .int .u8, .int .u8, .int .u8, .int .u8, .int .u8, .int .u8, .int .u8, .int .u8, .int .u8, .int .u8, .int .u8, .int .u8, .int .u8, .int .u8, .int .i64, .int .i64, .int .i64]⟩, [(.t 12), (.t 21)], [8, 0, 1, 2, 3, 4, 5, 6, 7, 8], none⟩])
  (.ret))⟩

/- 24: gatepath/gatepathlaw29.alive -/
def c_gatepathlaw29_alive : DFun := ⟨113, 22, [], [.p ⟨false, [.bool]⟩], [.t 0],
  .seq (.region false [
    ⟨some 0, .mv, [(.c (D.bool false))], [], none⟩])
  (.seq (.region false [
    ⟨some 16, .call [0], [(.c (D.fn 28 [])), (.c (D.str (⟨#[114, 115, 121, 110, 99, 58, 47, 47, 97, 47]⟩ : ByteArray))), (.c (D.int .u64 5)), (.c (D.int .u8 1)), (.c (D.int .i64 100)), (.c (D.int .i64 200)), (.c (D.int .i64 150))], [], none⟩,
    ⟨some 17, .call [1, 2], [(.c (D.fn 27 [])), (.c (D.zs 47 true)), (.t 16), (.c (D.int .u8 1))], [0, 0], none⟩,
    ⟨some 15, .mv, [(.t 17)], [1], none⟩,
    ⟨some 18, .ext 0, [(.t 15)], [2], none⟩,
    ⟨some 19, .ext 1, [(.t 15)], [2], none⟩,
    ⟨some 1, .mv, [(.t 18)], [3, 1, 0, 1, 2, 3], none⟩,
    ⟨some 2, .mv, [(.t 19)], [4, 5, 0, 1, 2, 3, 4, 5], none⟩])
  (.seq (.region false [
    ⟨some 21, .mv, [(.t 1)], [], none⟩,
    ⟨some 22, .call [3], [(.c (D.fn 28 [])), (.c (D.str (⟨#[114, 115, 121, 110, 99, 58, 47, 47, 97, 47]⟩ : ByteArray))), (.c (D.int .u64 4)), (.c (D.int .u8 2)), (.c (D.int .i64 100)), (.c (D.int .i64 200)), (.c (D.int .i64 160))], [], none⟩,
    ⟨some 23, .call [4, 5], [(.c (D.fn 27 [])), (.t 21), (.t 22), (.c (D.int .u8 4))], [0, 1, 1], none⟩,
    ⟨some 20, .mv, [(.t 23)], [2], none⟩,
    ⟨some 24, .ext 0, [(.t 20)], [3], none⟩,
    ⟨some 25, .ext 1, [(.t 20)], [3], none⟩,
    ⟨some 3, .mv, [(.t 24)], [4, 2, 0, 1, 2, 3, 4], none⟩,
    ⟨some 4, .mv, [(.t 25)], [5, 6, 0, 1, 2, 3, 4, 5, 6], none⟩])
  (.seq (.region false [
    ⟨some 27, .mv, [(.t 3)], [], none⟩,
    ⟨some 28, .call [6], [(.c (D.fn 28 [])), (.c (D.str (⟨#[114, 115, 121, 110, 99, 58, 47, 47, 97, 47]⟩ : ByteArray))), (.c (D.int .u64 6)), (.c (D.int .u8 3)), (.c (D.int .i64 140)), (.c (D.int .i64 240)), (.c (D.int .i64 170))], [], none⟩,
    ⟨some 29, .call [7, 8], [(.c (D.fn 27 [])), (.t 27), (.t 28), (.c (D.int .u8 3))], [0, 1, 1], none⟩,
    ⟨some 26, .mv, [(.t 29)], [2], none⟩,
    ⟨some 30, .ext 0, [(.t 26)], [3], none⟩,
    ⟨some 31, .ext 1, [(.t 26)], [3], none⟩,
    ⟨some 5, .mv, [(.t 30)], [4, 2, 0, 1, 2, 3, 4], none⟩,
    ⟨some 6, .mv, [(.t 31)], [5, 6, 0, 1, 2, 3, 4, 5, 6], none⟩])
  (.seq (.region false [
    ⟨some 33, .mv, [(.t 5)], [], none⟩,
    ⟨some 34, .call [9], [(.c (D.fn 28 [])), (.c (D.str (⟨#[114, 115, 121, 110, 99, 58, 47, 47, 97, 47]⟩ : ByteArray))), (.c (D.int .u64 6)), (.c (D.int .u8 4)), (.c (D.int .i64 140)), (.c (D.int .i64 240)), (.c (D.int .i64 180))], [], none⟩,
    ⟨some 35, .call [10, 11], [(.c (D.fn 27 [])), (.t 33), (.t 34), (.c (D.int .u8 5))], [0, 1, 1], none⟩,
    ⟨some 32, .mv, [(.t 35)], [2], none⟩,
    ⟨some 36, .ext 0, [(.t 32)], [3], none⟩,
    ⟨some 37, .ext 1, [(.t 32)], [3], none⟩,
    ⟨some 7, .mv, [(.t 36)], [4, 2, 0, 1, 2, 3, 4], none⟩,
    ⟨some 8, .mv, [(.t 37)], [5, 6, 0, 1, 2, 3, 4, 5, 6], none⟩])
  (.seq (.region false [
    ⟨some 39, .mv, [(.t 7)], [], none⟩,
    ⟨some 40, .call [12], [(.c (D.fn 28 [])), (.c (D.str (⟨#[114, 115, 121, 110, 99, 58, 47, 47, 97, 47]⟩ : ByteArray))), (.c (D.int .u64 6)), (.c (D.int .u8 3)), (.c (D.int .i64 140)), (.c (D.int .i64 240)), (.c (D.int .i64 250))], [], none⟩,
    ⟨some 41, .call [13, 14], [(.c (D.fn 27 [])), (.t 39), (.t 40), (.c (D.int .u8 6))], [0, 1, 1], none⟩,
    ⟨some 38, .mv, [(.t 41)], [2], none⟩,
    ⟨some 42, .ext 0, [(.t 38)], [3], none⟩,
    ⟨some 43, .ext 1, [(.t 38)], [3], none⟩,
    ⟨some 9, .mv, [(.t 42)], [4, 2, 0, 1, 2, 3, 4], none⟩,
    ⟨some 10, .mv, [(.t 43)], [5, 6, 0, 1, 2, 3, 4, 5, 6], none⟩])
  (.seq (.region false [
    ⟨some 45, .mv, [(.t 9)], [], none⟩,
    ⟨some 46, .call [15, 16], [(.c (D.fn 15 [])), (.t 45), (.c (D.int .i64 250)), (.c (D.int .i64 1000))], [0], none⟩,
    ⟨some 44, .mv, [(.t 46)], [1], none⟩,
    ⟨some 47, .ext 0, [(.t 44)], [2], none⟩,
    ⟨some 48, .ext 1, [(.t 44)], [2], none⟩,
    ⟨some 11, .mv, [(.t 47)], [3, 1, 0, 1, 2, 3], none⟩,
    ⟨some 12, .mv, [(.t 48)], [4, 5, 0, 1, 2, 3, 4, 5], none⟩])
  (.seq (.region false [
    ⟨some 50, .mv, [(.t 9)], [], none⟩,
    ⟨some 51, .call [17, 18], [(.c (D.fn 15 [])), (.t 50), (.c (D.int .i64 240)), (.c (D.int .i64 1000))], [0], none⟩,
    ⟨some 49, .mv, [(.t 51)], [1], none⟩,
    ⟨some 52, .ext 0, [(.t 49)], [2], none⟩,
    ⟨some 53, .ext 1, [(.t 49)], [2], none⟩,
    ⟨some 13, .mv, [(.t 52)], [3, 1, 0, 1, 2, 3], none⟩,
    ⟨some 14, .mv, [(.t 53)], [4, 5, 0, 1, 2, 3, 4, 5], none⟩])
  (.seq (.region true [
    ⟨some 54, .mv, [(.t 2)], [], none⟩,
    ⟨some 55, .mv, [(.t 54)], [0], none⟩,
    ⟨some 56, .mv, [(.t 4)], [1], some (55, true)⟩,
    ⟨some 57, .pick, [(.t 55), (.t 56), (.c (D.bool false))], [1, 2], none⟩,
    ⟨some 58, .mv, [(.t 57)], [3, 1], none⟩,
    ⟨some 59, .mv, [(.t 6)], [4], some (58, true)⟩,
    ⟨some 60, .pick, [(.t 58), (.t 59), (.c (D.bool false))], [4, 5], none⟩,
    ⟨some 61, .mv, [(.t 60)], [6, 4], none⟩,
    ⟨some 62, .mv, [(.t 8)], [7], some (61, true)⟩,
    ⟨some 63, .pick, [(.t 61), (.t 62), (.c (D.bool false))], [7, 8], none⟩,
    ⟨some 64, .mv, [(.t 63)], [9, 7], none⟩,
    ⟨some 65, .mv, [(.t 10)], [10], some (64, true)⟩,
    ⟨some 66, .pick, [(.t 64), (.t 65), (.c (D.bool false))], [10, 11], none⟩,
    ⟨some 67, .mv, [(.t 66)], [12, 10], none⟩,
    ⟨some 68, .mv, [(.t 3)], [13], some (67, true)⟩,
    ⟨some 69, .mv, [(.t 1)], [13], some (67, true)⟩,
    ⟨some 70, .call [19], [(.c (D.fn 14 [])), (.t 68), (.t 69)], [14, 15, 13, 13], some (67, true)⟩,
    ⟨some 71, .pick, [(.t 67), (.t 70), (.c (D.bool false))], [13, 16], none⟩,
    ⟨some 72, .mv, [(.t 71)], [17, 16], none⟩,
    ⟨some 73, .mv, [(.t 5)], [18], some (72, true)⟩,
    ⟨some 74, .len, [(.t 73)], [19, 18], some (72, true)⟩,
    ⟨some 75, .bin .eql, [(.t 74), (.c (D.int .i64 1))], [20, 18], some (72, true)⟩,
    ⟨some 76, .pick, [(.t 72), (.t 75), (.c (D.bool false))], [18, 21], none⟩,
    ⟨some 77, .mv, [(.t 76)], [22, 18], none⟩,
    ⟨some 78, .mv, [(.t 5)], [23], some (77, true)⟩,
    ⟨some 79, .idxA 47, [(.t 78), (.c (D.int .i64 0))], [24, 23], some (77, true)⟩,
    ⟨some 80, .load ⟨true, [.str, .int .u64, .int .u8, .int .u8, .int .u8, .int .u8, .int .u8, .int .u8, .int .u8, .int .u8, .int .u8, .int .u8, .int .u8, .int .u8, .int .u8, .int .u8, .int .u8, .int .u8, .int .u8, .int .u8, .int .u8, .int .u8, .int .u8, .int .u8, .int .u8, .int .u8, .int .u8, .int .u8, .int .u8, .int .u8, .int .u8, .int .u8, .int .u8, .int .u8, .int .i64, .int .i64, .int .i64]⟩, [(.t 79)], [25, 23], some (77, true)⟩,
    ⟨some 81, .call [20], [(.c (D.fn 28 [])), (.c (D.str (⟨#[114, 115, 121, 110, 99, 58, 47, 47, 97, 47]⟩ : ByteArray))), (.c (D.int .u64 6)), (.c (D.int .u8 3)), (.c (D.int .i64 140)), (.c (D.int .i64 240)), (.c (D.int .i64 170))], [23, 23], some (77, true)⟩,
    ⟨some 82, .eqv false ⟨true, [.str, .int .u64, .int .u8, .int .u8, .int .u8, .int .u8, .int .u8, .int .u8, .int .u8, .int .u8, .int .u8, .int .u8, .int .u8, .int .u8, .int .u8, .int .u8, .int .u8, .int .u8, .int .u8, .int .u8, .int .u8, .int .u8, .int .u8, .int .u8, .int .u8, .int .u8, .int .u8, .int .u8, .int .u8, .int .u8, .int .u8, .int .u8, .int .u8, .int .u8, .int .i64, .int .i64, .int .i64]⟩, [(.t 80), (.t 81)], [26, 27, 23], some (77, true)⟩,
    ⟨some 83, .pick, [(.t 77), (.t 82), (.c (D.bool false))], [23, 28], none⟩,
    ⟨some 84, .mv, [(.t 83)], [29, 27], none⟩,
    ⟨some 85, .mv, [(.t 9)], [30], some (84, true)⟩,
    ⟨some 86, .mv, [(.t 5)], [30], some (84, true)⟩,
    ⟨some 87, .call [21], [(.c (D.fn 14 [])), (.t 85), (.t 86)], [31, 32, 30, 30], some (84, true)⟩,
    ⟨some 88, .pick, [(.t 84), (.t 87), (.c (D.bool false))], [30, 33], none⟩,
    ⟨some 89, .mv, [(.t 88)], [34, 33], none⟩,
    ⟨some 90, .mv, [(.t 12)], [35], some (89, true)⟩,
    ⟨some 91, .bin .eql, [(.t 90), (.c (D.int .i64 0))], [36, 35], some (89, true)⟩,
    ⟨some 92, .pick, [(.t 89), (.t 91), (.c (D.bool false))], [35, 37], none⟩,
    ⟨some 93, .mv, [(.t 92)], [38, 35], none⟩,
    ⟨some 94, .mv, [(.t 11)], [39], some (93, true)⟩,
    ⟨some 95, .len, [(.t 94)], [40, 39], some (93, true)⟩,
    ⟨some 96, .bin .eql, [(.t 95), (.c (D.int .i64 1))], [41, 39], some (93, true)⟩,
    ⟨some 97, .pick, [(.t 93), (.t 96), (.c (D.bool false))], [39, 42], none⟩,
    ⟨some 98, .mv, [(.t 97)], [43, 39], none⟩,
    ⟨some 99, .mv, [(.t 11)], [44], some (98, true)⟩,
    ⟨some 100, .idxA 9, [(.t 99), (.c (D.int .i64 0))], [45, 44], some (98, true)⟩,
    ⟨some 101, .load ⟨false, [.str]⟩, [(.t 100)], [46, 44], some (98, true)⟩,
    ⟨some 102, .bin .eql, [(.t 101), (.c (D.str (⟨#[114, 115, 121, 110, 99, 58, 47, 47, 97, 47]⟩ : ByteArray)))], [47, 44], some (98, true)⟩,
    ⟨some 103, .pick, [(.t 98), (.t 102), (.c (D.bool false))], [44, 48], none⟩,
    ⟨some 104, .mv, [(.t 103)], [49, 44], none⟩,
    ⟨some 105, .mv, [(.t 14)], [50], some (104, true)⟩,
    ⟨some 106, .bin .eql, [(.t 105), (.c (D.int .i64 0))], [51, 50], some (104, true)⟩,
    ⟨some 107, .pick, [(.t 104), (.t 106), (.c (D.bool false))], [50, 52], none⟩,
    ⟨some 108, .mv, [(.t 107)], [53, 50], none⟩,
    ⟨some 109, .mv, [(.t 13)], [54], some (108, true)⟩,
    ⟨some 110, .len, [(.t 109)], [55, 54], some (108, true)⟩,
    ⟨some 111, .bin .eql, [(.t 110), (.c (D.int .i64 0))], [56, 54], some (108, true)⟩,
    ⟨some 112, .pick, [(.t 108), (.t 111), (.c (D.bool false))], [54, 57], none⟩,
    ⟨some 0, .mv, [(.t 112)], [58, 54, 0, 1, 2, 3, 4, 5, 6, 7, 8, 9, 10, 11, 12, 13, 14, 15, 16, 17, 18, 19, 20, 21, 22, 23, 24, 25, 26, 27, 28, 29, 30, 31, 32, 33, 34, 35, 36, 37, 38, 39, 40, 41, 42, 43, 44, 45, 46, 47, 48, 49, 50, 51, 52, 53, 54, 55, 56, 57, 58], none⟩])
  (.ret)))))))))⟩

/- 10: gatepath/gatepathlaw29.FreshNames -/
def c_gatepathlaw29_FreshNames : DFun := ⟨385, 92, [], [.p ⟨false, [.bool]⟩], [.t 0],
  .seq (.region false [
    ⟨some 0, .mv, [(.c (D.bool false))], [], none⟩])
  (.seq (.region false [
    ⟨some 55, .call [11], [(.c (D.fn 28 [])), (.c (D.str (⟨#[98]⟩ : ByteArray))), (.c (D.int .u64 5)), (.c (D.int .u8 1)), (.c (D.int .i64 100)), (.c (D.int .i64 200)), (.c (D.int .i64 150))], [], none⟩,
    ⟨some 56, .call [12, 13], [(.c (D.fn 27 [])), (.c (D.zs 47 true)), (.t 55), (.c (D.int .u8 1))], [0, 0], none⟩,
    ⟨some 54, .mv, [(.t 56)], [1], none⟩,
    ⟨some 57, .ext 0, [(.t 54)], [2], none⟩,
    ⟨some 58, .ext 1, [(.t 54)], [2], none⟩,
    ⟨some 1, .mv, [(.t 57)], [3, 1, 0, 1, 2, 3], none⟩,
    ⟨some 2, .mv, [(.t 58)], [4, 5, 0, 1, 2, 3, 4, 5], none⟩])
  (.seq (.region false [
    ⟨some 60, .mv, [(.t 1)], [], none⟩,
    ⟨some 61, .call [14], [(.c (D.fn 28 [])), (.c (D.str (⟨#[97]⟩ : ByteArray))), (.c (D.int .u64 0)), (.c (D.int .u8 1)), (.c (D.int .i64 0)), (.c (D.int .i64 1099511627776)), (.c (D.int .i64 160))], [], none⟩,
    ⟨some 62, .call [15, 16], [(.c (D.fn 27 [])), (.t 60), (.t 61), (.c (D.int .u8 1))], [0, 1, 1], none⟩,
    ⟨some 59, .mv, [(.t 62)], [2], none⟩,
    ⟨some 63, .ext 0, [(.t 59)], [3], none⟩,
    ⟨some 64, .ext 1, [(.t 59)], [3], none⟩,
    ⟨some 1, .mv, [(.t 63)], [4, 2, 0, 1, 2, 3, 4], none⟩,
    ⟨some 3, .mv, [(.t 64)], [5, 6, 0, 1, 2, 3, 4, 5, 6], none⟩])
  (.seq (.region false [
    ⟨some 66, .mv, [(.t 1)], [], none⟩,
    ⟨some 67, .call [17], [(.c (D.fn 28 [])), (.c (D.str (⟨#[98]⟩ : ByteArray))), (.c (D.int .u64 5)), (.c (D.int .u8 1)), (.c (D.int .i64 100)), (.c (D.int .i64 200)), (.c (D.int .i64 150))], [], none⟩,
    ⟨some 68, .call [18, 19], [(.c (D.fn 27 [])), (.t 66), (.t 67), (.c (D.int .u8 2))], [0, 1, 1], none⟩,
    ⟨some 65, .mv, [(.t 68)], [2], none⟩,
    ⟨some 69, .ext 0, [(.t 65)], [3], none⟩,
    ⟨some 70, .ext 1, [(.t 65)], [3], none⟩,
    ⟨some 4, .mv, [(.t 69)], [4, 2, 0, 1, 2, 3, 4], none⟩,
    ⟨some 5, .mv, [(.t 70)], [5, 6, 0, 1, 2, 3, 4, 5, 6], none⟩])
  (.seq (.region false [
    ⟨some 72, .mv, [(.t 1)], [], none⟩,
    ⟨some 73, .call [20], [(.c (D.fn 28 [])), (.c (D.str (⟨#[98]⟩ : ByteArray))), (.c (D.int .u64 5)), (.c (D.int .u8 1)), (.c (D.int .i64 100)), (.c (D.int .i64 201)), (.c (D.int .i64 150))], [], none⟩,
    ⟨some 74, .call [21, 22], [(.c (D.fn 27 [])), (.t 72), (.t 73), (.c (D.int .u8 5))], [0, 1, 1], none⟩,
    ⟨some 71, .mv, [(.t 74)], [2], none⟩,
    ⟨some 75, .ext 0, [(.t 71)], [3], none⟩,
    ⟨some 76, .ext 1, [(.t 71)], [3], none⟩,
    ⟨some 6, .mv, [(.t 75)], [4, 2, 0, 1, 2, 3, 4], none⟩,
    ⟨some 7, .mv, [(.t 76)], [5, 6, 0, 1, 2, 3, 4, 5, 6], none⟩])
  (.seq (.region false [
    ⟨some 78, .mv, [(.t 1)], [], none⟩,
    ⟨some 79, .call [23], [(.c (D.fn 28 [])), (.c (D.str (⟨#[98]⟩ : ByteArray))), (.c (D.int .u64 6)), (.c (D.int .u8 1)), (.c (D.int .i64 100)), (.c (D.int .i64 200)), (.c (D.int .i64 150))], [], none⟩,
    ⟨some 80, .call [24, 25], [(.c (D.fn 27 [])), (.t 78), (.t 79), (.c (D.int .u8 5))], [0, 1, 1], none⟩,
    ⟨some 77, .mv, [(.t 80)], [2], none⟩,
    ⟨some 81, .ext 0, [(.t 77)], [3], none⟩,
    ⟨some 82, .ext 1, [(.t 77)], [3], none⟩,
    ⟨some 8, .mv, [(.t 81)], [4, 2, 0, 1, 2, 3, 4], none⟩,
    ⟨some 9, .mv, [(.t 82)], [5, 6, 0, 1, 2, 3, 4, 5, 6], none⟩])
  (.seq (.region false [
    ⟨some 84, .mv, [(.t 1)], [], none⟩,
    ⟨some 85, .call [26], [(.c (D.fn 28 [])), (.c (D.str (⟨#[98]⟩ : ByteArray))), (.c (D.int .u64 6)), (.c (D.int .u8 2)), (.c (D.int .i64 99)), (.c (D.int .i64 200)), (.c (D.int .i64 150))], [], none⟩,
    ⟨some 86, .call [27, 28], [(.c (D.fn 27 [])), (.t 84), (.t 85), (.c (D.int .u8 8))], [0, 1, 1], none⟩,
    ⟨some 83, .mv, [(.t 86)], [2], none⟩,
    ⟨some 87, .ext 0, [(.t 83)], [3], none⟩,
    ⟨some 88, .ext 1, [(.t 83)], [3], none⟩,
    ⟨some 10, .mv, [(.t 87)], [4, 2, 0, 1, 2, 3, 4], none⟩,
    ⟨some 11, .mv, [(.t 88)], [5, 6, 0, 1, 2, 3, 4, 5, 6], none⟩])
  (.seq (.region false [
    ⟨some 90, .mv, [(.t 1)], [], none⟩,
    ⟨some 91, .call [29], [(.c (D.fn 28 [])), (.c (D.str (⟨#[98]⟩ : ByteArray))), (.c (D.int .u64 6)), (.c (D.int .u8 2)), (.c (D.int .i64 180)), (.c (D.int .i64 200)), (.c (D.int .i64 179))], [], none⟩,
    ⟨some 92, .call [30, 31], [(.c (D.fn 27 [])), (.t 90), (.t 91), (.c (D.int .u8 7))], [0, 1, 1], none⟩,
    ⟨some 89, .mv, [(.t 92)], [2], none⟩,
    ⟨some 93, .ext 0, [(.t 89)], [3], none⟩,
    ⟨some 94, .ext 1, [(.t 89)], [3], none⟩,
    ⟨some 12, .mv, [(.t 93)], [4, 2, 0, 1, 2, 3, 4], none⟩,
    ⟨some 13, .mv, [(.t 94)], [5, 6, 0, 1, 2, 3, 4, 5, 6], none⟩])
  (.seq (.region false [
    ⟨some 96, .mv, [(.t 1)], [], none⟩,
    ⟨some 97, .call [32], [(.c (D.fn 28 [])), (.c (D.str (⟨#[99]⟩ : ByteArray))), (.c (D.int .u64 6)), (.c (D.int .u8 2)), (.c (D.int .i64 180)), (.c (D.int .i64 200)), (.c (D.int .i64 201))], [], none⟩,
    ⟨some 98, .call [33, 34], [(.c (D.fn 27 [])), (.t 96), (.t 97), (.c (D.int .u8 6))], [0, 1, 1], none⟩,
    ⟨some 95, .mv, [(.t 98)], [2], none⟩,
    ⟨some 99, .ext 0, [(.t 95)], [3], none⟩,
    ⟨some 100, .ext 1, [(.t 95)], [3], none⟩,
    ⟨some 14, .mv, [(.t 99)], [4, 2, 0, 1, 2, 3, 4], none⟩,
    ⟨some 15, .mv, [(.t 100)], [5, 6, 0, 1, 2, 3, 4, 5, 6], none⟩])
  (.seq (.region false [
    ⟨some 102, .mv, [(.t 1)], [], none⟩,
    ⟨some 103, .call [35], [(.c (D.fn 28 [])), (.c (D.str (⟨#[98]⟩ : ByteArray))), (.c (D.int .u64 6)), (.c (D.int .u8 2)), (.c (D.int .i64 100)), (.c (D.int .i64 200)), (.c (D.int .i64 149))], [], none⟩,
    ⟨some 104, .call [36, 37, 38], [(.c (D.fn 22 [])), (.t 102), (.t 103), (.c (D.int .i64 149))], [0, 1, 1], none⟩,
    ⟨some 101, .mv, [(.t 104)], [2], none⟩,
    ⟨some 105, .ext 0, [(.t 101)], [3], none⟩,
    ⟨some 106, .ext 1, [(.t 101)], [3], none⟩,
    ⟨some 107, .ext 2, [(.t 101)], [3], none⟩,
    ⟨some 16, .mv, [(.t 105)], [4, 2, 0, 1, 2, 3, 4], none⟩,
    ⟨some 17, .mv, [(.t 106)], [5, 7, 0, 1, 2, 3, 4, 5, 7], none⟩,
    ⟨some 18, .mv, [(.t 107)], [6, 8, 0, 1, 2, 3, 4, 5, 6, 7, 8], none⟩])
  (.seq (.region false [
    ⟨some 109, .mv, [(.t 1)], [], none⟩,
    ⟨some 110, .call [39], [(.c (D.fn 28 [])), (.c (D.str (⟨#[98]⟩ : ByteArray))), (.c (D.int .u64 6)), (.c (D.int .u8 2)), (.c (D.int .i64 100)), (.c (D.int .i64 200)), (.c (D.int .i64 150))], [], none⟩,
    ⟨some 111, .call [40, 41, 42], [(.c (D.fn 22 [])), (.t 109), (.t 110), (.c (D.int .i64 151))], [0, 1, 1], none⟩,
    ⟨some 108, .mv, [(.t 111)], [2], none⟩,
    ⟨some 112, .ext 0, [(.t 108)], [3], none⟩,
    ⟨some 113, .ext 1, [(.t 108)], [3], none⟩,
    ⟨some 114, .ext 2, [(.t 108)], [3], none⟩,
    ⟨some 19, .mv, [(.t 112)], [4, 2, 0, 1, 2, 3, 4], none⟩,
    ⟨some 20, .mv, [(.t 113)], [5, 7, 0, 1, 2, 3, 4, 5, 7], none⟩,
    ⟨some 21, .mv, [(.t 114)], [6, 8, 0, 1, 2, 3, 4, 5, 6, 7, 8], none⟩])
  (.seq (.region false [
    ⟨some 116, .mv, [(.t 1)], [], none⟩,
    ⟨some 117, .call [43], [(.c (D.fn 28 [])), (.c (D.str (⟨#[]⟩ : ByteArray))), (.c (D.int .u64 6)), (.c (D.int .u8 2)), (.c (D.int .i64 100)), (.c (D.int .i64 200)), (.c (D.int .i64 150))], [], none⟩,
    ⟨some 118, .call [44, 45, 46], [(.c (D.fn 22 [])), (.t 116), (.t 117), (.c (D.int .i64 150))], [0, 1, 1], none⟩,
    ⟨some 115, .mv, [(.t 118)], [2], none⟩,
    ⟨some 119, .ext 0, [(.t 115)], [3], none⟩,
    ⟨some 120, .ext 1, [(.t 115)], [3], none⟩,
    ⟨some 121, .ext 2, [(.t 115)], [3], none⟩,
    ⟨some 22, .mv, [(.t 119)], [4, 2, 0, 1, 2, 3, 4], none⟩,
    ⟨some 23, .mv, [(.t 120)], [5, 7, 0, 1, 2, 3, 4, 5, 7], none⟩,
    ⟨some 24, .mv, [(.t 121)], [6, 8, 0, 1, 2, 3, 4, 5, 6, 7, 8], none⟩])
  (.seq (.region false [
    ⟨some 123, .mv, [(.t 1)], [], none⟩,
    ⟨some 124, .call [47], [(.c (D.fn 28 [])), (.c (D.str (⟨#[98]⟩ : ByteArray))), (.c (D.int .u64 6)), (.c (D.int .u8 2)), (.c (D.int .i64 201)), (.c (D.int .i64 200)), (.c (D.int .i64 150))], [], none⟩,
    ⟨some 125, .call [48, 49, 50], [(.c (D.fn 22 [])), (.t 123), (.t 124), (.c (D.int .i64 150))], [0, 1, 1], none⟩,
    ⟨some 122, .mv, [(.t 125)], [2], none⟩,
    ⟨some 126, .ext 0, [(.t 122)], [3], none⟩,
    ⟨some 127, .ext 1, [(.t 122)], [3], none⟩,
    ⟨some 128, .ext 2, [(.t 122)], [3], none⟩,
    ⟨some 25, .mv, [(.t 126)], [4, 2, 0, 1, 2, 3, 4], none⟩,
    ⟨some 26, .mv, [(.t 127)], [5, 7, 0, 1, 2, 3, 4, 5, 7], none⟩,
    ⟨some 27, .mv, [(.t 128)], [6, 8, 0, 1, 2, 3, 4, 5, 6, 7, 8], none⟩])
  (.seq (.region false [
    ⟨some 130, .mv, [(.t 1)], [], none⟩,
    ⟨some 131, .call [51], [(.c (D.fn 28 [])), (.c (D.str (⟨#[98]⟩ : ByteArray))), (.c (D.int .u64 6)), (.c (D.int .u8 2)), (.c (D.int .i64 0)), (.c (D.int .i64 200)), (.c (D.int .i64 (-1)))], [], none⟩,
    ⟨some 132, .call [52, 53, 54], [(.c (D.fn 22 [])), (.t 130), (.t 131), (.c (D.int .i64 (-1)))], [0, 1, 1], none⟩,
    ⟨some 129, .mv, [(.t 132)], [2], none⟩,
    ⟨some 133, .ext 0, [(.t 129)], [3], none⟩,
    ⟨some 134, .ext 1, [(.t 129)], [3], none⟩,
    ⟨some 135, .ext 2, [(.t 129)], [3], none⟩,
    ⟨some 28, .mv, [(.t 133)], [4, 2, 0, 1, 2, 3, 4], none⟩,
    ⟨some 29, .mv, [(.t 134)], [5, 7, 0, 1, 2, 3, 4, 5, 7], none⟩,
    ⟨some 30, .mv, [(.t 135)], [6, 8, 0, 1, 2, 3, 4, 5, 6, 7, 8], none⟩])
  (.seq (.region false [
    ⟨some 136, .mkSl 0 47 (D.agg [(D.str ⟨#[]⟩), (D.int .u64 0), (D.int .u8 0), (D.int .u8 0), (D.int .u8 0), (D.int .u8 0), (D.int .u8 0), (D.int .u8 0), (D.int .u8 0), (D.int .u8 0), (D.int .u8 0), (D.int .u8 0), (D.int .u8 0), (D.int .u8 0), (D.int .u8 0), (D.int .u8 0), (D.int .u8 0), (D.int .u8 0), (D.int .u8 0), (D.int .u8 0), (D.int .u8 0), (D.int .u8 0), (D.int .u8 0), (D.int .u8 0), (D.int .u8 0), (D.int .u8 0), (D.int .u8 0), (D.int .u8 0), (D.int .u8 0), (D.int .u8 0), (D.int .u8 0), (D.int .u8 0), (D.int .u8 0), (D.int .u8 0), (D.int .i64 0), (D.int .i64 0), (D.int .i64 0)]) 80, [(.c (D.int .i64 200)), (.c (D.int .i64 200))], [], none⟩,
    ⟨some 31, .mv, [(.t 136)], [0, 0], none⟩])
  (.seq (.seq (.region false [
    ⟨some 32, .mv, [(.c (D.int .i64 0))], [], none⟩])
  (.block 0 (.loop ⟨[1, 2, 3, 5, 7, 9, 11, 13, 15, 18, 21, 24, 27, 30, 31], [(32, .p ⟨false, [.int .i64]⟩)], [(0, .a 47), (15, .a 47)]⟩ (.seq (.seq (.region false [
    ⟨some 137, .mv, [(.t 32)], [], none⟩,
    ⟨some 138, .mv, [(.t 31)], [], none⟩,
    ⟨some 139, .len, [(.t 138)], [1], none⟩,
    ⟨some 140, .bin .lss, [(.t 137), (.t 139)], [0, 2], none⟩])
  (.cond (.t 140) (.skip) (.exit 0)))
  (.seq (.block 1 (.region false [
    ⟨some 143, .mv, [(.t 31)], [], none⟩,
    ⟨some 144, .mv, [(.t 32)], [], none⟩,
    ⟨some 145, .mv, [(.t 32)], [], none⟩,
    ⟨some 146, .bin .quo, [(.t 145), (.c (D.int .i64 20))], [2], none⟩,
    ⟨some 147, .conv .u8, [(.t 146)], [3], none⟩,
    ⟨some 148, .bin .add, [(.c (D.int .u8 97)), (.t 147)], [4], none⟩,
    ⟨some 149, .mv, [(.t 32)], [], none⟩,
    ⟨some 150, .bin .rem, [(.t 149), (.c (D.int .i64 20))], [6], none⟩,
    ⟨some 151, .conv .u8, [(.t 150)], [7], none⟩,
    ⟨some 152, .bin .add, [(.c (D.int .u8 97)), (.t 151)], [8], none⟩,
    ⟨some 153, .buildSl 1 5, [(.t 148), (.t 152)], [5, 9], none⟩,
    ⟨some 154, .strOf 5, [(.t 153)], [10], none⟩,
    ⟨some 155, .call [55], [(.c (D.fn 28 [])), (.t 154), (.c (D.int .u64 1)), (.c (D.int .u8 1)), (.c (D.int .i64 0)), (.c (D.int .i64 10)), (.c (D.int .i64 5))], [11], none⟩,
    ⟨some 156, .idxA 47, [(.t 143), (.t 144)], [0, 1, 0, 1, 2, 3, 4, 5, 6, 7, 8, 9, 10, 11, 12], none⟩,
    ⟨none, .store ⟨true, [.str, .int .u64, .int .u8, .int .u8, .int .u8, .int .u8, .int .u8, .int .u8, .int .u8, .int .u8, .int .u8, .int .u8, .int .u8, .int .u8, .int .u8, .int .u8, .int .u8, .int .u8, .int .u8, .int .u8, .int .u8, .int .u8, .int .u8, .int .u8, .int .u8, .int .u8, .int .u8, .int .u8, .int .u8, .int .u8, .int .u8, .int .u8, .int .u8, .int .u8, .int .i64, .int .i64, .int .i64]⟩, [(.t 156), (.t 155)], [13, 12, 12, 0, 1, 2, 3, 4, 5, 6, 7, 8, 9, 10, 11, 12], none⟩]))
  (.region false [
    ⟨some 141, .mv, [(.t 32)], [], none⟩,
    ⟨some 142, .bin .add, [(.t 141), (.c (D.int .i64 1))], [0], none⟩,
    ⟨some 32, .mv, [(.t 142)], [1, 0, 1], none⟩]))))))
  (.seq (.region false [
    ⟨some 158, .mv, [(.t 31)], [], none⟩,
    ⟨some 159, .call [56], [(.c (D.fn 28 [])), (.c (D.str (⟨#[122, 122]⟩ : ByteArray))), (.c (D.int .u64 1)), (.c (D.int .u8 1)), (.c (D.int .i64 0)), (.c (D.int .i64 10)), (.c (D.int .i64 5))], [], none⟩,
    ⟨some 160, .call [57, 58, 59], [(.c (D.fn 22 [])), (.t 158), (.t 159), (.c (D.int .i64 5))], [0, 1, 1], none⟩,
    ⟨some 157, .mv, [(.t 160)], [2], none⟩,
    ⟨some 161, .ext 0, [(.t 157)], [3], none⟩,
    ⟨some 162, .ext 1, [(.t 157)], [3], none⟩,
    ⟨some 163, .ext 2, [(.t 157)], [3], none⟩,
    ⟨some 33, .mv, [(.t 161)], [4, 2, 0, 1, 2, 3, 4], none⟩,
    ⟨some 34, .mv, [(.t 162)], [5, 7, 0, 1, 2, 3, 4, 5, 7], none⟩,
    ⟨some 35, .mv, [(.t 163)], [6, 8, 0, 1, 2, 3, 4, 5, 6, 7, 8], none⟩])
  (.seq (.region false [
    ⟨some 165, .mv, [(.t 31)], [], none⟩,
    ⟨some 166, .call [60], [(.c (D.fn 28 [])), (.c (D.str (⟨#[122, 122]⟩ : ByteArray))), (.c (D.int .u64 1)), (.c (D.int .u8 1)), (.c (D.int .i64 6)), (.c (D.int .i64 10)), (.c (D.int .i64 5))], [], none⟩,
    ⟨some 167, .call [61, 62], [(.c (D.fn 27 [])), (.t 165), (.t 166), (.c (D.int .u8 7))], [0, 1, 1], none⟩,
    ⟨some 164, .mv, [(.t 167)], [2], none⟩,
    ⟨some 168, .ext 0, [(.t 164)], [3], none⟩,
    ⟨some 169, .ext 1, [(.t 164)], [3], none⟩,
    ⟨some 36, .mv, [(.t 168)], [4, 2, 0, 1, 2, 3, 4], none⟩,
    ⟨some 37, .mv, [(.t 169)], [5, 6, 0, 1, 2, 3, 4, 5, 6], none⟩])
  (.seq (.region false [
    ⟨some 171, .mv, [(.t 1)], [], none⟩,
    ⟨some 172, .call [63, 64], [(.c (D.fn 17 [])), (.t 171), (.c (D.str (⟨#[99]⟩ : ByteArray)))], [0], none⟩,
    ⟨some 170, .mv, [(.t 172)], [1], none⟩,
    ⟨some 173, .ext 0, [(.t 170)], [2], none⟩,
    ⟨some 174, .ext 1, [(.t 170)], [2], none⟩,
    ⟨some 38, .mv, [(.t 173)], [3, 1, 0, 1, 2, 3], none⟩,
    ⟨some 39, .mv, [(.t 174)], [4, 5, 0, 1, 2, 3, 4, 5], none⟩])
  (.seq (.region false [
    ⟨some 176, .mv, [(.t 1)], [], none⟩,
    ⟨some 177, .call [65, 66], [(.c (D.fn 17 [])), (.t 176), (.c (D.str (⟨#[97]⟩ : ByteArray)))], [0], none⟩,
    ⟨some 175, .mv, [(.t 177)], [1], none⟩,
    ⟨some 178, .ext 0, [(.t 175)], [2], none⟩,
    ⟨some 179, .ext 1, [(.t 175)], [2], none⟩,
    ⟨some 40, .mv, [(.t 178)], [3, 1, 0, 1, 2, 3], none⟩,
    ⟨some 41, .mv, [(.t 179)], [4, 5, 0, 1, 2, 3, 4, 5], none⟩])
  (.seq (.region false [
    ⟨some 181, .mv, [(.t 1)], [], none⟩,
    ⟨some 182, .call [67, 68], [(.c (D.fn 15 [])), (.t 181), (.c (D.int .i64 (-1))), (.c (D.int .i64 0))], [0], none⟩,
    ⟨some 180, .mv, [(.t 182)], [1], none⟩,
    ⟨some 183, .ext 0, [(.t 180)], [2], none⟩,
    ⟨some 184, .ext 1, [(.t 180)], [2], none⟩,
    ⟨some 42, .mv, [(.t 183)], [3, 1, 0, 1, 2, 3], none⟩,
    ⟨some 43, .mv, [(.t 184)], [4, 5, 0, 1, 2, 3, 4, 5], none⟩])
  (.seq (.region false [
    ⟨some 186, .mv, [(.t 1)], [], none⟩,
    ⟨some 187, .call [69, 70], [(.c (D.fn 15 [])), (.t 186), (.c (D.int .i64 160)), (.c (D.int .i64 0))], [0], none⟩,
    ⟨some 185, .mv, [(.t 187)], [1], none⟩,
    ⟨some 188, .ext 0, [(.t 185)], [2], none⟩,
    ⟨some 189, .ext 1, [(.t 185)], [2], none⟩,
    ⟨some 44, .mv, [(.t 188)], [3, 1, 0, 1, 2, 3], none⟩,
    ⟨some 45, .mv, [(.t 189)], [4, 5, 0, 1, 2, 3, 4, 5], none⟩])
  (.seq (.region false [
    ⟨some 191, .mv, [(.t 1)], [], none⟩,
    ⟨some 192, .call [71], [(.c (D.fn 28 [])), (.c (D.str (⟨#[98]⟩ : ByteArray))), (.c (D.int .u64 5)), (.c (D.int .u8 2)), (.c (D.int .i64 100)), (.c (D.int .i64 200)), (.c (D.int .i64 150))], [], none⟩,
    ⟨some 193, .buildSl 2 47, [(.t 192)], [1], none⟩,
    ⟨some 194, .call [72, 73], [(.c (D.fn 12 [])), (.t 191), (.t 193)], [0, 2, 1], none⟩,
    ⟨some 190, .mv, [(.t 194)], [3], none⟩,
    ⟨some 195, .ext 0, [(.t 190)], [4], none⟩,
    ⟨some 196, .ext 1, [(.t 190)], [4], none⟩,
    ⟨some 46, .mv, [(.t 195)], [5, 3, 0, 1, 2, 3, 4, 5], none⟩,
    ⟨some 47, .mv, [(.t 196)], [6, 7, 0, 1, 2, 3, 4, 5, 6, 7], none⟩])
  (.seq (.region false [
    ⟨some 198, .mv, [(.t 1)], [], none⟩,
    ⟨some 199, .call [74], [(.c (D.fn 28 [])), (.c (D.str (⟨#[97]⟩ : ByteArray))), (.c (D.int .u64 1)), (.c (D.int .u8 2)), (.c (D.int .i64 0)), (.c (D.int .i64 1)), (.c (D.int .i64 1))], [], none⟩,
    ⟨some 200, .call [75], [(.c (D.fn 28 [])), (.c (D.str (⟨#[98]⟩ : ByteArray))), (.c (D.int .u64 5)), (.c (D.int .u8 1)), (.c (D.int .i64 100)), (.c (D.int .i64 200)), (.c (D.int .i64 151))], [1], none⟩,
    ⟨some 201, .call [76], [(.c (D.fn 28 [])), (.c (D.str (⟨#[99]⟩ : ByteArray))), (.c (D.int .u64 1)), (.c (D.int .u8 1)), (.c (D.int .i64 0)), (.c (D.int .i64 0)), (.c (D.int .i64 0))], [2], none⟩,
    ⟨some 202, .buildSl 3 47, [(.t 199), (.t 200), (.t 201)], [1, 2, 3], none⟩,
    ⟨some 203, .call [77, 78], [(.c (D.fn 12 [])), (.t 198), (.t 202)], [0, 4, 3], none⟩,
    ⟨some 197, .mv, [(.t 203)], [5], none⟩,
    ⟨some 204, .ext 0, [(.t 197)], [6], none⟩,
    ⟨some 205, .ext 1, [(.t 197)], [6], none⟩,
    ⟨some 48, .mv, [(.t 204)], [7, 5, 0, 1, 2, 3, 4, 5, 6, 7], none⟩,
    ⟨some 49, .mv, [(.t 205)], [8, 9, 0, 1, 2, 3, 4, 5, 6, 7, 8, 9], none⟩])
  (.seq (.region false [
    ⟨some 207, .mv, [(.t 31)], [], none⟩,
    ⟨some 208, .call [79], [(.c (D.fn 28 [])), (.c (D.str (⟨#[122, 122]⟩ : ByteArray))), (.c (D.int .u64 1)), (.c (D.int .u8 1)), (.c (D.int .i64 0)), (.c (D.int .i64 10)), (.c (D.int .i64 5))], [], none⟩,
    ⟨some 209, .buildSl 4 47, [(.t 208)], [1], none⟩,
    ⟨some 210, .call [80, 81], [(.c (D.fn 12 [])), (.t 207), (.t 209)], [0, 2, 1], none⟩,
    ⟨some 206, .mv, [(.t 210)], [3], none⟩,
    ⟨some 211, .ext 0, [(.t 206)], [4], none⟩,
    ⟨some 212, .ext 1, [(.t 206)], [4], none⟩,
    ⟨some 50, .mv, [(.t 211)], [5, 3, 0, 1, 2, 3, 4, 5], none⟩,
    ⟨some 51, .mv, [(.t 212)], [6, 7, 0, 1, 2, 3, 4, 5, 6, 7], none⟩])
  (.seq (.seq (.region false [
    ⟨some 213, .mv, [(.t 1)], [], none⟩,
    ⟨some 214, .len, [(.t 213)], [0], none⟩,
    ⟨some 215, .bin .neq, [(.t 214), (.c (D.int .i64 2))], [1], none⟩])
  (.cond (.t 215) (.seq (.region false [
    ⟨some 0, .mv, [(.c (D.bool false))], [], none⟩])
  (.ret)) (.skip)))
  (.seq (.region true [
    ⟨some 216, .mv, [(.t 1)], [], none⟩,
    ⟨some 217, .idxA 47, [(.t 216), (.c (D.int .i64 1))], [0], none⟩,
    ⟨some 218, .load ⟨true, [.str, .int .u64, .int .u8, .int .u8, .int .u8, .int .u8, .int .u8, .int .u8, .int .u8, .int .u8, .int .u8, .int .u8, .int .u8, .int .u8, .int .u8, .int .u8, .int .u8, .int .u8, .int .u8, .int .u8, .int .u8, .int .u8, .int .u8, .int .u8, .int .u8, .int .u8, .int .u8, .int .u8, .int .u8, .int .u8, .int .u8, .int .u8, .int .u8, .int .u8, .int .i64, .int .i64, .int .i64]⟩, [(.t 217)], [1], none⟩,
    ⟨some 219, .mv, [(.t 1)], [], none⟩,
    ⟨some 220, .idxA 47, [(.t 219), (.c (D.int .i64 0))], [3], none⟩,
    ⟨some 221, .load ⟨true, [.str, .int .u64, .int .u8, .int .u8, .int .u8, .int .u8, .int .u8, .int .u8, .int .u8, .int .u8, .int .u8, .int .u8, .int .u8, .int .u8, .int .u8, .int .u8, .int .u8, .int .u8, .int .u8, .int .u8, .int .u8, .int .u8, .int .u8, .int .u8, .int .u8, .int .u8, .int .u8, .int .u8, .int .u8, .int .u8, .int .u8, .int .u8, .int .u8, .int .u8, .int .i64, .int .i64, .int .i64]⟩, [(.t 220)], [4], none⟩,
    ⟨some 222, .buildSl 5 47, [(.t 218), (.t 221)], [2, 5], none⟩,
    ⟨some 223, .call [82], [(.c (D.fn 19 [])), (.t 222)], [6], none⟩,
    ⟨some 224, .bin .eql, [(.t 223), (.c (D.int .i64 8))], [7], none⟩,
    ⟨some 225, .mv, [(.t 224)], [8, 7], none⟩,
    ⟨some 226, .mv, [(.t 1)], [9], some (225, true)⟩,
    ⟨some 227, .idxA 47, [(.t 226), (.c (D.int .i64 0))], [10, 9], some (225, true)⟩,
    ⟨some 228, .load ⟨true, [.str, .int .u64, .int .u8, .int .u8, .int .u8, .int .u8, .int .u8, .int .u8, .int .u8, .int .u8, .int .u8, .int .u8, .int .u8, .int .u8, .int .u8, .int .u8, .int .u8, .int .u8, .int .u8, .int .u8, .int .u8, .int .u8, .int .u8, .int .u8, .int .u8, .int .u8, .int .u8, .int .u8, .int .u8, .int .u8, .int .u8, .int .u8, .int .u8, .int .u8, .int .i64, .int .i64, .int .i64]⟩, [(.t 227)], [11, 9], some (225, true)⟩,
    ⟨some 229, .mv, [(.t 1)], [9], some (225, true)⟩,
    ⟨some 230, .idxA 47, [(.t 229), (.c (D.int .i64 0))], [13, 9], some (225, true)⟩,
    ⟨some 231, .load ⟨true, [.str, .int .u64, .int .u8, .int .u8, .int .u8, .int .u8, .int .u8, .int .u8, .int .u8, .int .u8, .int .u8, .int .u8, .int .u8, .int .u8, .int .u8, .int .u8, .int .u8, .int .u8, .int .u8, .int .u8, .int .u8, .int .u8, .int .u8, .int .u8, .int .u8, .int .u8, .int .u8, .int .u8, .int .u8, .int .u8, .int .u8, .int .u8, .int .u8, .int .u8, .int .i64, .int .i64, .int .i64]⟩, [(.t 230)], [14, 9], some (225, true)⟩,
    ⟨some 232, .buildSl 6 47, [(.t 228), (.t 231)], [12, 15, 9], some (225, true)⟩,
    ⟨some 233, .call [83], [(.c (D.fn 19 [])), (.t 232)], [16, 9, 9], some (225, true)⟩,
    ⟨some 234, .bin .eql, [(.t 233), (.c (D.int .i64 8))], [17, 9], some (225, true)⟩,
    ⟨some 235, .pick, [(.t 225), (.t 234), (.c (D.bool false))], [9, 18], none⟩,
    ⟨some 236, .mv, [(.t 235)], [19, 17], none⟩,
    ⟨some 237, .call [84], [(.c (D.fn 28 [])), (.c (D.str (⟨#[97, 32, 98]⟩ : ByteArray))), (.c (D.int .u64 1)), (.c (D.int .u8 1)), (.c (D.int .i64 0)), (.c (D.int .i64 0)), (.c (D.int .i64 0))], [20, 20], some (236, true)⟩,
    ⟨some 238, .buildSl 7 47, [(.t 237)], [21, 20], some (236, true)⟩,
    ⟨some 239, .call [85], [(.c (D.fn 19 [])), (.t 238)], [22, 21, 20], some (236, true)⟩,
    ⟨some 240, .bin .eql, [(.t 239), (.c (D.int .i64 8))], [23, 20], some (236, true)⟩,
    ⟨some 241, .pick, [(.t 236), (.t 240), (.c (D.bool false))], [20, 24], none⟩,
    ⟨some 242, .mv, [(.t 241)], [25, 23], none⟩,
    ⟨some 243, .mkSl 8 47 (D.agg [(D.str ⟨#[]⟩), (D.int .u64 0), (D.int .u8 0), (D.int .u8 0), (D.int .u8 0), (D.int .u8 0), (D.int .u8 0), (D.int .u8 0), (D.int .u8 0), (D.int .u8 0), (D.int .u8 0), (D.int .u8 0), (D.int .u8 0), (D.int .u8 0), (D.int .u8 0), (D.int .u8 0), (D.int .u8 0), (D.int .u8 0), (D.int .u8 0), (D.int .u8 0), (D.int .u8 0), (D.int .u8 0), (D.int .u8 0), (D.int .u8 0), (D.int .u8 0), (D.int .u8 0), (D.int .u8 0), (D.int .u8 0), (D.int .u8 0), (D.int .u8 0), (D.int .u8 0), (D.int .u8 0), (D.int .u8 0), (D.int .u8 0), (D.int .i64 0), (D.int .i64 0), (D.int .i64 0)]) 80, [(.c (D.int .i64 201)), (.c (D.int .i64 201))], [26], some (242, true)⟩,
    ⟨some 244, .call [86], [(.c (D.fn 19 [])), (.t 243)], [27, 26, 26], some (242, true)⟩,
    ⟨some 245, .bin .eql, [(.t 244), (.c (D.int .i64 4))], [28, 26], some (242, true)⟩,
    ⟨some 246, .pick, [(.t 242), (.t 245), (.c (D.bool false))], [26, 29], none⟩,
    ⟨some 247, .mv, [(.t 246)], [30, 28], none⟩,
    ⟨some 248, .mv, [(.t 31)], [31], some (247, true)⟩,
    ⟨some 249, .call [87], [(.c (D.fn 19 [])), (.t 248)], [32, 31, 31], some (247, true)⟩,
    ⟨some 250, .bin .eql, [(.t 249), (.c (D.int .i64 0))], [33, 31], some (247, true)⟩,
    ⟨some 251, .pick, [(.t 247), (.t 250), (.c (D.bool false))], [31, 34], none⟩,
    ⟨some 252, .mv, [(.t 251)], [35, 33], none⟩,
    ⟨some 253, .call [88], [(.c (D.fn 28 [])), (.c (D.str (⟨#[97]⟩ : ByteArray))), (.c (D.int .u64 1)), (.c (D.int .u8 1)), (.c (D.int .i64 0)), (.c (D.int .i64 1099511627777)), (.c (D.int .i64 0))], [36, 36], some (252, true)⟩,
    ⟨some 254, .buildSl 9 47, [(.t 253)], [37, 36], some (252, true)⟩,
    ⟨some 255, .call [89], [(.c (D.fn 19 [])), (.t 254)], [38, 37, 36], some (252, true)⟩,
    ⟨some 256, .bin .eql, [(.t 255), (.c (D.int .i64 8))], [39, 36], some (252, true)⟩,
    ⟨some 257, .pick, [(.t 252), (.t 256), (.c (D.bool false))], [36, 40], none⟩,
    ⟨some 52, .mv, [(.t 257)], [41, 39, 0, 1, 2, 3, 4, 5, 6, 7, 8, 9, 10, 11, 12, 13, 14, 15, 16, 17, 18, 19, 20, 21, 22, 23, 24, 25, 26, 27, 28, 29, 30, 31, 32, 33, 34, 35, 36, 37, 38, 39, 40, 41], none⟩])
  (.seq (.region false [
    ⟨some 258, .mv, [(.t 2)], [], none⟩,
    ⟨some 259, .mv, [(.t 258)], [0], none⟩,
    ⟨some 260, .mv, [(.t 3)], [1], some (259, true)⟩,
    ⟨some 261, .pick, [(.t 259), (.t 260), (.c (D.bool false))], [1, 2], none⟩,
    ⟨some 262, .mv, [(.t 261)], [3, 1], none⟩,
    ⟨some 263, .mv, [(.t 5)], [4], some (262, true)⟩,
    ⟨some 264, .pick, [(.t 262), (.t 263), (.c (D.bool false))], [4, 5], none⟩,
    ⟨some 265, .mv, [(.t 264)], [6, 4], none⟩,
    ⟨some 266, .mv, [(.t 7)], [7], some (265, true)⟩,
    ⟨some 267, .pick, [(.t 265), (.t 266), (.c (D.bool false))], [7, 8], none⟩,
    ⟨some 268, .mv, [(.t 267)], [9, 7], none⟩,
    ⟨some 269, .mv, [(.t 9)], [10], some (268, true)⟩,
    ⟨some 270, .pick, [(.t 268), (.t 269), (.c (D.bool false))], [10, 11], none⟩,
    ⟨some 271, .mv, [(.t 270)], [12, 10], none⟩,
    ⟨some 272, .mv, [(.t 11)], [13], some (271, true)⟩,
    ⟨some 273, .pick, [(.t 271), (.t 272), (.c (D.bool false))], [13, 14], none⟩,
    ⟨some 274, .mv, [(.t 273)], [15, 13], none⟩,
    ⟨some 275, .mv, [(.t 13)], [16], some (274, true)⟩,
    ⟨some 276, .pick, [(.t 274), (.t 275), (.c (D.bool false))], [16, 17], none⟩,
    ⟨some 277, .mv, [(.t 276)], [18, 16], none⟩,
    ⟨some 278, .mv, [(.t 15)], [19], some (277, true)⟩,
    ⟨some 279, .pick, [(.t 277), (.t 278), (.c (D.bool false))], [19, 20], none⟩,
    ⟨some 280, .mv, [(.t 279)], [21, 19], none⟩,
    ⟨some 281, .mv, [(.t 37)], [22], some (280, true)⟩,
    ⟨some 282, .pick, [(.t 280), (.t 281), (.c (D.bool false))], [22, 23], none⟩,
    ⟨some 53, .mv, [(.t 282)], [24, 22, 0, 1, 2, 3, 4, 5, 6, 7, 8, 9, 10, 11, 12, 13, 14, 15, 16, 17, 18, 19, 20, 21, 22, 23, 24], none⟩])
  (.seq (.seq (.region false [
    ⟨some 283, .mv, [(.t 49)], [], none⟩,
    ⟨some 284, .bin .neq, [(.t 283), (.c (D.int .i64 0))], [0], none⟩,
    ⟨some 285, .mv, [(.t 284)], [1], none⟩,
    ⟨some 286, .mv, [(.t 48)], [2], some (285, false)⟩,
    ⟨some 287, .len, [(.t 286)], [3, 2], some (285, false)⟩,
    ⟨some 288, .bin .neq, [(.t 287), (.c (D.int .i64 3))], [4, 2], some (285, false)⟩,
    ⟨some 289, .pick, [(.t 285), (.c (D.bool true)), (.t 288)], [2, 5], none⟩,
    ⟨some 290, .mv, [(.t 289)], [6, 2], none⟩,
    ⟨some 291, .mv, [(.t 41)], [7], some (290, false)⟩,
    ⟨some 292, .bin .neq, [(.t 291), (.c (D.int .i64 0))], [8, 7], some (290, false)⟩,
    ⟨some 293, .pick, [(.t 290), (.c (D.bool true)), (.t 292)], [7, 9], none⟩,
    ⟨some 294, .mv, [(.t 293)], [10, 7], none⟩,
    ⟨some 295, .mv, [(.t 40)], [11], some (294, false)⟩,
    ⟨some 296, .len, [(.t 295)], [12, 11], some (294, false)⟩,
    ⟨some 297, .bin .neq, [(.t 296), (.c (D.int .i64 1))], [13, 11], some (294, false)⟩,
    ⟨some 298, .pick, [(.t 294), (.c (D.bool true)), (.t 297)], [11, 14], none⟩])
  (.cond (.t 298) (.seq (.region false [
    ⟨some 0, .mv, [(.c (D.bool false))], [], none⟩])
  (.ret)) (.skip)))
  (.seq (.region false [
    ⟨some 299, .call [90], [(.c (D.fn 24 []))], [], none⟩,
    ⟨some 300, .mv, [(.t 299)], [0, 0], none⟩,
    ⟨some 301, .mv, [(.t 53)], [1], some (300, true)⟩,
    ⟨some 302, .pick, [(.t 300), (.t 301), (.c (D.bool false))], [1, 2], none⟩,
    ⟨some 303, .mv, [(.t 302)], [3, 1], none⟩,
    ⟨some 304, .mv, [(.t 52)], [4], some (303, true)⟩,
    ⟨some 305, .pick, [(.t 303), (.t 304), (.c (D.bool false))], [4, 5], none⟩,
    ⟨some 306, .mv, [(.t 305)], [6, 4], none⟩,
    ⟨some 307, .mv, [(.t 18)], [7], some (306, true)⟩,
    ⟨some 308, .bin .eql, [(.t 307), (.c (D.int .i64 30))], [8, 7], some (306, true)⟩,
    ⟨some 309, .pick, [(.t 306), (.t 308), (.c (D.bool false))], [7, 9], none⟩,
    ⟨some 310, .mv, [(.t 309)], [10, 7], none⟩,
    ⟨some 311, .mv, [(.t 21)], [11], some (310, true)⟩,
    ⟨some 312, .bin .eql, [(.t 311), (.c (D.int .i64 2))], [12, 11], some (310, true)⟩,
    ⟨some 313, .pick, [(.t 310), (.t 312), (.c (D.bool false))], [11, 13], none⟩,
    ⟨some 314, .mv, [(.t 313)], [14, 11], none⟩,
    ⟨some 315, .mv, [(.t 24)], [15], some (314, true)⟩,
    ⟨some 316, .bin .eql, [(.t 315), (.c (D.int .i64 2))], [16, 15], some (314, true)⟩,
    ⟨some 317, .pick, [(.t 314), (.t 316), (.c (D.bool false))], [15, 17], none⟩,
    ⟨some 318, .mv, [(.t 317)], [18, 15], none⟩,
    ⟨some 319, .mv, [(.t 27)], [19], some (318, true)⟩,
    ⟨some 320, .bin .eql, [(.t 319), (.c (D.int .i64 2))], [20, 19], some (318, true)⟩,
    ⟨some 321, .pick, [(.t 318), (.t 320), (.c (D.bool false))], [19, 21], none⟩,
    ⟨some 322, .mv, [(.t 321)], [22, 19], none⟩,
    ⟨some 323, .mv, [(.t 30)], [23], some (322, true)⟩,
    ⟨some 324, .bin .eql, [(.t 323), (.c (D.int .i64 2))], [24, 23], some (322, true)⟩,
    ⟨some 325, .pick, [(.t 322), (.t 324), (.c (D.bool false))], [23, 25], none⟩,
    ⟨some 326, .mv, [(.t 325)], [26, 23], none⟩,
    ⟨some 327, .mv, [(.t 35)], [27], some (326, true)⟩,
    ⟨some 328, .bin .eql, [(.t 327), (.c (D.int .i64 16))], [28, 27], some (326, true)⟩,
    ⟨some 329, .pick, [(.t 326), (.t 328), (.c (D.bool false))], [27, 29], none⟩,
    ⟨some 330, .mv, [(.t 329)], [30, 27], none⟩,
    ⟨some 331, .mv, [(.t 39)], [31], some (330, true)⟩,
    ⟨some 332, .bin .eql, [(.t 331), (.c (D.int .i64 6))], [32, 31], some (330, true)⟩,
    ⟨some 333, .pick, [(.t 330), (.t 332), (.c (D.bool false))], [31, 33], none⟩,
    ⟨some 334, .mv, [(.t 333)], [34, 31], none⟩,
    ⟨some 335, .mv, [(.t 40)], [35], some (334, true)⟩,
    ⟨some 336, .idxA 47, [(.t 335), (.c (D.int .i64 0))], [36, 35], some (334, true)⟩,
    ⟨some 337, .fld 0, [(.t 336)], [37, 35], some (334, true)⟩,
    ⟨some 338, .load ⟨false, [.str]⟩, [(.t 337)], [38, 35], some (334, true)⟩,
    ⟨some 339, .bin .eql, [(.t 338), (.c (D.str (⟨#[98]⟩ : ByteArray)))], [39, 35], some (334, true)⟩,
    ⟨some 340, .pick, [(.t 334), (.t 339), (.c (D.bool false))], [35, 40], none⟩,
    ⟨some 341, .mv, [(.t 340)], [41, 35], none⟩,
    ⟨some 342, .mv, [(.t 43)], [42], some (341, true)⟩,
    ⟨some 343, .bin .eql, [(.t 342), (.c (D.int .i64 2))], [43, 42], some (341, true)⟩,
    ⟨some 344, .pick, [(.t 341), (.t 343), (.c (D.bool false))], [42, 44], none⟩,
    ⟨some 345, .mv, [(.t 344)], [45, 42], none⟩,
    ⟨some 346, .mv, [(.t 45)], [46], some (345, true)⟩,
    ⟨some 347, .bin .eql, [(.t 346), (.c (D.int .i64 0))], [47, 46], some (345, true)⟩,
    ⟨some 348, .pick, [(.t 345), (.t 347), (.c (D.bool false))], [46, 48], none⟩,
    ⟨some 349, .mv, [(.t 348)], [49, 46], none⟩,
    ⟨some 350, .mv, [(.t 44)], [50], some (349, true)⟩,
    ⟨some 351, .buildSl 10 9, [(.c (D.str (⟨#[98]⟩ : ByteArray)))], [50], some (349, true)⟩,
    ⟨some 352, .call [91], [(.c (D.fn 21 [])), (.t 350), (.t 351)], [51, 52, 50, 50], some (349, true)⟩,
    ⟨some 353, .pick, [(.t 349), (.t 352), (.c (D.bool false))], [50, 53], none⟩,
    ⟨some 354, .mv, [(.t 353)], [54, 53], none⟩,
    ⟨some 355, .mv, [(.t 47)], [55], some (354, true)⟩,
    ⟨some 356, .bin .eql, [(.t 355), (.c (D.int .i64 14))], [56, 55], some (354, true)⟩,
    ⟨some 357, .pick, [(.t 354), (.t 356), (.c (D.bool false))], [55, 57], none⟩,
    ⟨some 358, .mv, [(.t 357)], [58, 55], none⟩,
    ⟨some 359, .mv, [(.t 48)], [59], some (358, true)⟩,
    ⟨some 360, .idxA 47, [(.t 359), (.c (D.int .i64 0))], [60, 59], some (358, true)⟩,
    ⟨some 361, .fld 1, [(.t 360)], [61, 59], some (358, true)⟩,
    ⟨some 362, .load ⟨false, [.int .u64]⟩, [(.t 361)], [62, 59], some (358, true)⟩,
    ⟨some 363, .bin .eql, [(.t 362), (.c (D.int .u64 1))], [63, 59], some (358, true)⟩,
    ⟨some 364, .pick, [(.t 358), (.t 363), (.c (D.bool false))], [59, 64], none⟩,
    ⟨some 365, .mv, [(.t 364)], [65, 59], none⟩,
    ⟨some 366, .mv, [(.t 48)], [66], some (365, true)⟩,
    ⟨some 367, .idxA 47, [(.t 366), (.c (D.int .i64 1))], [67, 66], some (365, true)⟩,
    ⟨some 368, .fld 36, [(.t 367)], [68, 66], some (365, true)⟩,
    ⟨some 369, .load ⟨false, [.int .i64]⟩, [(.t 368)], [69, 66], some (365, true)⟩,
    ⟨some 370, .bin .eql, [(.t 369), (.c (D.int .i64 151))], [70, 66], some (365, true)⟩,
    ⟨some 371, .pick, [(.t 365), (.t 370), (.c (D.bool false))], [66, 71], none⟩,
    ⟨some 372, .mv, [(.t 371)], [72, 66], none⟩,
    ⟨some 373, .mv, [(.t 48)], [73], some (372, true)⟩,
    ⟨some 374, .idxA 47, [(.t 373), (.c (D.int .i64 2))], [74, 73], some (372, true)⟩,
    ⟨some 375, .fld 0, [(.t 374)], [75, 73], some (372, true)⟩,
    ⟨some 376, .load ⟨false, [.str]⟩, [(.t 375)], [76, 73], some (372, true)⟩,
    ⟨some 377, .bin .eql, [(.t 376), (.c (D.str (⟨#[99]⟩ : ByteArray)))], [77, 73], some (372, true)⟩,
    ⟨some 378, .pick, [(.t 372), (.t 377), (.c (D.bool false))], [73, 78], none⟩,
    ⟨some 379, .mv, [(.t 378)], [79, 73], none⟩,
    ⟨some 380, .mv, [(.t 51)], [80], some (379, true)⟩,
    ⟨some 381, .bin .eql, [(.t 380), (.c (D.int .i64 16))], [81, 80], some (379, true)⟩,
    ⟨some 382, .pick, [(.t 379), (.t 381), (.c (D.bool false))], [80, 82], none⟩,
    ⟨some 383, .mv, [(.t 382)], [83, 80], none⟩,
    ⟨some 384, .pick, [(.t 383), (.c (D.bool true)), (.c (D.bool false))], [84], none⟩,
    ⟨some 0, .mv, [(.t 384)], [85, 84, 0, 1, 2, 3, 4, 5, 6, 7, 8, 9, 10, 11, 12, 13, 14, 15, 16, 17, 18, 19, 20, 21, 22, 23, 24, 25, 26, 27, 28, 29, 30, 31, 32, 33, 34, 35, 36, 37, 38, 39, 40, 41, 42, 43, 44, 45, 46, 47, 48, 49, 50, 51, 52, 53, 54, 55, 56, 57, 58, 59, 60, 61, 62, 63, 64, 65, 66, 67, 68, 69, 70, 71, 72, 73, 74, 75, 76, 77, 78, 79, 80, 81, 82, 83, 84, 85], none⟩])
  (.ret))))))))))))))))))))))))))))))⟩

def tabL : List (Nat × Entry) := [(42, .spec ⟨[.g 47, .p, .g 47], [.o 47]⟩ (insSpec 47 80)),
  (35, .code c_fresh_moment),
  (40, .code c_fresh_right),
  (19, .code c_fresh_Check),
  (29, .code c_fresh_Merge_1),
  (30, .code c_fresh_zip),
  (45, .code c_cmp_isNaN),
  (32, .code c_cmp_Compare),
  (31, .code c_fresh_Merge_2),
  (12, .code c_fresh_Merge),
  (36, .code c_fresh_Late_1),
  (15, .code c_fresh_Late),
  (46, .code c_slices_BinarySearchFunc),
  (47, .code c_fresh_find_1),
  (37, .code c_fresh_find),
  (38, .code c_slices_Delete),
  (39, .code c_slices_Clone),
  (17, .code c_fresh_Forget),
  (21, .code c_gatepathref29_SameStrings),
  (43, .code c_fresh_judge),
  (22, .code c_fresh_Look),
  (14, .code c_gatepathref29_Same),
  (27, .code c_gatepathlaw29_look),
  (28, .code c_gatepathlaw29_manifest),
  (24, .code c_gatepathlaw29_alive),
  (10, .code c_gatepathlaw29_FreshNames)]
def tab (g : Nat) : Option Entry := tabL.lookup g

end Go.Proofs.Ytmfhhbiaghejjaa.Own
