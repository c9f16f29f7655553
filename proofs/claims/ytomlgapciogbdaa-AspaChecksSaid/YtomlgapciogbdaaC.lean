import Derived.Test.YtomlgapciogbdaaG4
namespace Go.Proofs.Ytomlgapciogbdaa.Own
open Go Go.Proofs.Ytomlgapciogbdaa.GD

def tyL : List (Nat × Vk) := [(5, ⟨false, [.int .u8]⟩), (22, ⟨false, [.int .u32]⟩), (28, ⟨false, [.sl 81]⟩), (70, ⟨true, [.int .u32, .int .u32]⟩), (81, ⟨true, [.int .u64, .int .u64, .int .u64, .int .u64]⟩)]
def ty (e : Nat) : Option Vk := tyL.lookup e

/- 11: gatepath/gatepathref15.Great -/
def c_gatepathref15_Great : DFun := ⟨7, 2, [.p], [.p ⟨false, [.bool]⟩], [.t 2],
  .seq (.region false [
    ⟨some 1, .box 1, [(.t 0)], [], none⟩,
    ⟨some 2, .mv, [(.c (D.bool false))], [], none⟩])
  (.seq (.region false [
    ⟨some 3, .fld 1, [(.t 1)], [], none⟩,
    ⟨some 4, .load ⟨false, [.sl 22]⟩, [(.t 3)], [0], none⟩,
    ⟨some 5, .len, [(.t 4)], [1], none⟩,
    ⟨some 6, .bin .gtr, [(.t 5), (.c (D.int .i64 80))], [2], none⟩,
    ⟨some 2, .mv, [(.t 6)], [3, 0, 1, 2, 3], none⟩])
  (.ret))⟩

/- 12: gatepath/gatepathref15.Twin -/
def c_gatepathref15_Twin : DFun := ⟨10, 5, [.p], [.p ⟨true, [.int .u32, .sl 22]⟩], [.c 2],
  .seq (.region false [
    ⟨some 1, .box 1, [(.t 0)], [], none⟩,
    ⟨some 2, .alloc 2 [(D.int .u32 0), (D.zs 22 true)], [], [], none⟩])
  (.seq (.region true [
    ⟨some 3, .fld 0, [(.t 1)], [], none⟩,
    ⟨some 4, .load ⟨false, [.int .u32]⟩, [(.t 3)], [0], none⟩,
    ⟨some 5, .buildSl 3 22, [], [], none⟩,
    ⟨some 6, .fld 1, [(.t 1)], [], none⟩,
    ⟨some 7, .load ⟨false, [.sl 22]⟩, [(.t 6)], [3], none⟩,
    ⟨some 8, .append 4 22 4, [(.t 5), (.t 7)], [2, 4], none⟩,
    ⟨some 9, .build [(D.int .u32 0), (D.zs 22 true)] [(0, 1), (1, 1)], [(.t 4), (.t 8)], [1, 5], none⟩,
    ⟨none, .store ⟨true, [.int .u32, .sl 22]⟩, [(.t 2), (.t 9)], [6, 5, 0, 1, 2, 3, 4, 5, 6], none⟩])
  (.ret))⟩

/- 55: slices.Index[[]uint32,uint32] -/
def c_slices_Index : DFun := ⟨19, 2, [.p, .p], [.p ⟨false, [.int .i64]⟩], [.t 4],
  .seq (.region false [
    ⟨some 4, .mv, [(.c (D.int .i64 0))], [], none⟩])
  (.seq (.seq (.region false [
    ⟨some 6, .mv, [(.t 0)], [], none⟩,
    ⟨some 7, .len, [(.t 6)], [0], none⟩,
    ⟨some 8, .mv, [(.c (D.int .i64 0))], [], none⟩])
  (.block 0 (.loop ⟨[0, 1, 7], [(8, .p ⟨false, [.int .i64]⟩)], []⟩ (.seq (.region false [
    ⟨some 9, .bin .lss, [(.t 8), (.t 7)], [], none⟩])
  (.seq (.cond (.t 9) (.skip) (.exit 0))
  (.seq (.block 1 (.seq (.region false [
    ⟨some 10, .mv, [(.t 8)], [], none⟩,
    ⟨some 5, .mv, [(.t 10)], [0, 0], none⟩])
  (.seq (.region false [
    ⟨some 11, .mv, [(.t 1)], [], none⟩,
    ⟨some 12, .mv, [(.t 0)], [], none⟩,
    ⟨some 13, .mv, [(.t 5)], [], none⟩,
    ⟨some 14, .idxA 22, [(.t 12), (.t 13)], [1, 2], none⟩,
    ⟨some 15, .load ⟨false, [.int .u32]⟩, [(.t 14)], [3], none⟩,
    ⟨some 16, .bin .eql, [(.t 11), (.t 15)], [0, 4], none⟩])
  (.cond (.t 16) (.seq (.region false [
    ⟨some 17, .mv, [(.t 5)], [], none⟩,
    ⟨some 4, .mv, [(.t 17)], [0, 0], none⟩])
  (.ret)) (.skip)))))
  (.region false [
    ⟨some 18, .bin .add, [(.t 8), (.c (D.int .i64 1))], [], none⟩,
    ⟨some 8, .mv, [(.t 18)], [0], none⟩])))))))
  (.seq (.region false [
    ⟨some 4, .mv, [(.c (D.int .i64 (-1)))], [], none⟩])
  (.ret)))⟩

/- 34: slices.Contains[[]uint32,uint32] -/
def c_slices_Contains : DFun := ⟨9, 3, [.p, .p], [.p ⟨false, [.bool]⟩], [.t 4],
  .seq (.region false [
    ⟨some 4, .mv, [(.c (D.bool false))], [], none⟩])
  (.seq (.region false [
    ⟨some 5, .mv, [(.t 0)], [], none⟩,
    ⟨some 6, .mv, [(.t 1)], [], none⟩,
    ⟨some 7, .call [2], [(.c (D.fn 55 [])), (.t 5), (.t 6)], [0, 1], none⟩,
    ⟨some 8, .bin .geq, [(.t 7), (.c (D.int .i64 0))], [2], none⟩,
    ⟨some 4, .mv, [(.t 8)], [3, 2, 0, 1, 2, 3], none⟩])
  (.ret))⟩

/- 15: gatepath/aspa.Check -/
def c_aspa_Check : DFun := ⟨64, 3, [.p], [.p ⟨false, [.int .i64]⟩], [.t 2],
  .seq (.region false [
    ⟨some 1, .box 1, [(.t 0)], [], none⟩,
    ⟨some 2, .mv, [(.c (D.int .i64 0))], [], none⟩])
  (.seq (.seq (.region false [
    ⟨some 5, .fld 1, [(.t 1)], [], none⟩,
    ⟨some 6, .load ⟨false, [.sl 22]⟩, [(.t 5)], [0], none⟩,
    ⟨some 7, .len, [(.t 6)], [1], none⟩,
    ⟨some 8, .bin .gtr, [(.t 7), (.c (D.int .i64 50))], [2], none⟩])
  (.cond (.t 8) (.seq (.region false [
    ⟨some 2, .mv, [(.c (D.int .i64 4))], [], none⟩])
  (.ret)) (.skip)))
  (.seq (.region false [
    ⟨some 9, .fld 0, [(.t 1)], [], none⟩,
    ⟨some 10, .load ⟨false, [.int .u32]⟩, [(.t 9)], [0], none⟩,
    ⟨some 11, .bin .gtr, [(.t 10), (.c (D.int .u32 0))], [1], none⟩,
    ⟨some 12, .mv, [(.t 11)], [2], none⟩,
    ⟨some 13, .fld 1, [(.t 1)], [3], some (12, true)⟩,
    ⟨some 14, .load ⟨false, [.sl 22]⟩, [(.t 13)], [4, 3], some (12, true)⟩,
    ⟨some 15, .len, [(.t 14)], [5, 3], some (12, true)⟩,
    ⟨some 16, .bin .gtr, [(.t 15), (.c (D.int .i64 0))], [6, 3], some (12, true)⟩,
    ⟨some 17, .pick, [(.t 12), (.t 16), (.c (D.bool false))], [3, 7], none⟩,
    ⟨some 18, .mv, [(.t 17)], [8, 3], none⟩,
    ⟨some 19, .fld 1, [(.t 1)], [9], some (18, true)⟩,
    ⟨some 20, .load ⟨false, [.sl 22]⟩, [(.t 19)], [10, 9], some (18, true)⟩,
    ⟨some 21, .fld 0, [(.t 1)], [9], some (18, true)⟩,
    ⟨some 22, .load ⟨false, [.int .u32]⟩, [(.t 21)], [12, 9], some (18, true)⟩,
    ⟨some 23, .call [2], [(.c (D.fn 34 [])), (.t 20), (.t 22)], [11, 13, 9, 9], some (18, true)⟩,
    ⟨some 24, .not, [(.t 23)], [14, 9], some (18, true)⟩,
    ⟨some 25, .pick, [(.t 18), (.t 24), (.c (D.bool false))], [9, 15], none⟩,
    ⟨some 3, .mv, [(.t 25)], [16, 14, 0, 1, 2, 3, 4, 5, 6, 7, 8, 9, 10, 11, 12, 13, 14, 15, 16], none⟩])
  (.seq (.region false [
    ⟨some 26, .mv, [(.t 3)], [], none⟩,
    ⟨some 27, .mv, [(.t 26)], [0], none⟩,
    ⟨some 28, .fld 1, [(.t 1)], [1], some (27, true)⟩,
    ⟨some 29, .load ⟨false, [.sl 22]⟩, [(.t 28)], [2, 1], some (27, true)⟩,
    ⟨some 30, .len, [(.t 29)], [3, 1], some (27, true)⟩,
    ⟨some 31, .bin .eql, [(.t 30), (.c (D.int .i64 1))], [4, 1], some (27, true)⟩,
    ⟨some 32, .mv, [(.t 31)], [5, 1, 1], some (27, true)⟩,
    ⟨some 33, .fld 1, [(.t 1)], [6], some (32, false)⟩,
    ⟨some 34, .load ⟨false, [.sl 22]⟩, [(.t 33)], [7, 6], some (32, false)⟩,
    ⟨some 35, .idxA 22, [(.t 34), (.c (D.int .i64 0))], [8, 6], some (32, false)⟩,
    ⟨some 36, .load ⟨false, [.int .u32]⟩, [(.t 35)], [9, 6], some (32, false)⟩,
    ⟨some 37, .bin .gtr, [(.t 36), (.c (D.int .u32 0))], [10, 6], some (32, false)⟩,
    ⟨some 38, .pick, [(.t 32), (.c (D.bool true)), (.t 37)], [6, 11, 1], some (27, true)⟩,
    ⟨some 39, .pick, [(.t 27), (.t 38), (.c (D.bool false))], [1, 12], none⟩,
    ⟨some 3, .mv, [(.t 39)], [13, 6, 0, 1, 2, 3, 4, 5, 6, 7, 8, 9, 10, 11, 12, 13], none⟩])
  (.seq (.seq (.region false [
    ⟨some 4, .mv, [(.c (D.int .i64 1))], [], none⟩])
  (.block 0 (.loop ⟨[1], [(3, .p ⟨false, [.bool]⟩), (4, .p ⟨false, [.int .i64]⟩)], [(1, .v [.p (.int .u32), .p (.sl 22)])]⟩ (.seq (.seq (.region false [
    ⟨some 40, .mv, [(.t 4)], [], none⟩,
    ⟨some 41, .fld 1, [(.t 1)], [], none⟩,
    ⟨some 42, .load ⟨false, [.sl 22]⟩, [(.t 41)], [1], none⟩,
    ⟨some 43, .len, [(.t 42)], [2], none⟩,
    ⟨some 44, .bin .lss, [(.t 40), (.t 43)], [0, 3], none⟩])
  (.cond (.t 44) (.skip) (.exit 0)))
  (.seq (.block 1 (.region true [
    ⟨some 47, .mv, [(.t 3)], [], none⟩,
    ⟨some 48, .mv, [(.t 47)], [0], none⟩,
    ⟨some 49, .fld 1, [(.t 1)], [1], some (48, true)⟩,
    ⟨some 50, .load ⟨false, [.sl 22]⟩, [(.t 49)], [2, 1], some (48, true)⟩,
    ⟨some 51, .mv, [(.t 4)], [1], some (48, true)⟩,
    ⟨some 52, .bin .sub, [(.t 51), (.c (D.int .i64 1))], [4, 1], some (48, true)⟩,
    ⟨some 53, .idxA 22, [(.t 50), (.t 52)], [3, 5, 1], some (48, true)⟩,
    ⟨some 54, .load ⟨false, [.int .u32]⟩, [(.t 53)], [6, 1], some (48, true)⟩,
    ⟨some 55, .fld 1, [(.t 1)], [1], some (48, true)⟩,
    ⟨some 56, .load ⟨false, [.sl 22]⟩, [(.t 55)], [8, 1], some (48, true)⟩,
    ⟨some 57, .mv, [(.t 4)], [1], some (48, true)⟩,
    ⟨some 58, .idxA 22, [(.t 56), (.t 57)], [9, 10, 1], some (48, true)⟩,
    ⟨some 59, .load ⟨false, [.int .u32]⟩, [(.t 58)], [11, 1], some (48, true)⟩,
    ⟨some 60, .bin .lss, [(.t 54), (.t 59)], [7, 12, 1], some (48, true)⟩,
    ⟨some 61, .pick, [(.t 48), (.t 60), (.c (D.bool false))], [1, 13], none⟩,
    ⟨some 3, .mv, [(.t 61)], [14, 1, 0, 1, 2, 3, 4, 5, 6, 7, 8, 9, 10, 11, 12, 13, 14], none⟩]))
  (.region false [
    ⟨some 45, .mv, [(.t 4)], [], none⟩,
    ⟨some 46, .bin .add, [(.t 45), (.c (D.int .i64 1))], [0], none⟩,
    ⟨some 4, .mv, [(.t 46)], [1, 0, 1], none⟩]))))))
  (.seq (.seq (.region false [
    ⟨some 62, .mv, [(.t 3)], [], none⟩,
    ⟨some 63, .not, [(.t 62)], [0], none⟩])
  (.cond (.t 63) (.seq (.region false [
    ⟨some 2, .mv, [(.c (D.int .i64 8))], [], none⟩])
  (.ret)) (.skip)))
  (.seq (.region false [
    ⟨some 2, .mv, [(.c (D.int .i64 0))], [], none⟩])
  (.ret)))))))⟩

/- 13: gatepath/aspa.Needs -/
def c_aspa_Needs : DFun := ⟨18, 5, [.p], [.p ⟨true, [.sl 81, .sl 81, .sl 70]⟩, .p ⟨false, [.int .i64]⟩], [.c 2, .t 3],
  .seq (.region false [
    ⟨some 1, .box 1, [(.t 0)], [], none⟩,
    ⟨some 2, .alloc 2 [(D.zs 81 true), (D.zs 81 true), (D.zs 70 true)], [], [], none⟩,
    ⟨some 3, .mv, [(.c (D.int .i64 0))], [], none⟩])
  (.seq (.seq (.region false [
    ⟨some 5, .load ⟨true, [.int .u32, .sl 22]⟩, [(.t 1)], [], none⟩,
    ⟨some 6, .call [4], [(.c (D.fn 15 [])), (.t 5)], [0], none⟩,
    ⟨some 4, .mv, [(.t 6)], [1, 1, 0, 1], none⟩])
  (.seq (.region false [
    ⟨some 7, .mv, [(.t 4)], [], none⟩,
    ⟨some 8, .bin .neq, [(.t 7), (.c (D.int .i64 0))], [0], none⟩])
  (.cond (.t 8) (.seq (.region false [
    ⟨some 9, .build [(D.zs 81 true), (D.zs 81 true), (D.zs 70 true)] [], [], [], none⟩,
    ⟨some 10, .mv, [(.t 4)], [], none⟩,
    ⟨none, .store ⟨true, [.sl 81, .sl 81, .sl 70]⟩, [(.t 2), (.t 9)], [0, 0], none⟩,
    ⟨some 3, .mv, [(.t 10)], [1, 2, 0, 1, 2], none⟩])
  (.ret)) (.skip))))
  (.seq (.region false [
    ⟨some 11, .fld 0, [(.t 1)], [], none⟩,
    ⟨some 12, .load ⟨false, [.int .u32]⟩, [(.t 11)], [0], none⟩,
    ⟨some 13, .fld 0, [(.t 1)], [], none⟩,
    ⟨some 14, .load ⟨false, [.int .u32]⟩, [(.t 13)], [2], none⟩,
    ⟨some 15, .build [(D.int .u32 0), (D.int .u32 0)] [(0, 1), (1, 1)], [(.t 12), (.t 14)], [1, 3], none⟩,
    ⟨some 16, .buildSl 3 70, [(.t 15)], [4], none⟩,
    ⟨some 17, .build [(D.zs 81 true), (D.zs 81 true), (D.zs 70 true)] [(2, 1)], [(.t 16)], [5], none⟩,
    ⟨none, .store ⟨true, [.sl 81, .sl 81, .sl 70]⟩, [(.t 2), (.t 17)], [6, 0, 1, 2, 3, 4, 5, 6], none⟩,
    ⟨some 3, .mv, [(.c (D.int .i64 0))], [7, 0, 1, 2, 3, 4, 5, 6, 7], none⟩])
  (.ret)))⟩

/- 16: gatepath/gatepathref15.Check -/
def c_gatepathref15_Check : DFun := ⟨59, 2, [.p], [.p ⟨false, [.int .i64]⟩], [.t 2],
  .seq (.region false [
    ⟨some 1, .box 1, [(.t 0)], [], none⟩,
    ⟨some 2, .mv, [(.c (D.int .i64 0))], [], none⟩])
  (.seq (.region false [
    ⟨some 5, .fld 1, [(.t 1)], [], none⟩,
    ⟨some 6, .load ⟨false, [.sl 22]⟩, [(.t 5)], [0], none⟩,
    ⟨some 7, .len, [(.t 6)], [1], none⟩,
    ⟨some 3, .mv, [(.t 7)], [2, 0, 1, 2], none⟩])
  (.seq (.seq (.region false [
    ⟨some 8, .mv, [(.t 3)], [], none⟩,
    ⟨some 9, .bin .gtr, [(.t 8), (.c (D.int .i64 50))], [0], none⟩])
  (.cond (.t 9) (.seq (.region false [
    ⟨some 2, .mv, [(.c (D.int .i64 4))], [], none⟩])
  (.ret)) (.skip)))
  (.seq (.seq (.region false [
    ⟨some 10, .mv, [(.t 3)], [], none⟩,
    ⟨some 11, .bin .eql, [(.t 10), (.c (D.int .i64 0))], [0], none⟩,
    ⟨some 12, .mv, [(.t 11)], [1], none⟩,
    ⟨some 13, .fld 0, [(.t 1)], [2], some (12, false)⟩,
    ⟨some 14, .load ⟨false, [.int .u32]⟩, [(.t 13)], [3, 2], some (12, false)⟩,
    ⟨some 15, .bin .eql, [(.t 14), (.c (D.int .u32 0))], [4, 2], some (12, false)⟩,
    ⟨some 16, .pick, [(.t 12), (.c (D.bool true)), (.t 15)], [2, 5], none⟩,
    ⟨some 17, .mv, [(.t 16)], [6, 2], none⟩,
    ⟨some 18, .mv, [(.t 3)], [7], some (17, false)⟩,
    ⟨some 19, .bin .gtr, [(.t 18), (.c (D.int .i64 1))], [8, 7], some (17, false)⟩,
    ⟨some 20, .mv, [(.t 19)], [9, 7, 7], some (17, false)⟩,
    ⟨some 21, .fld 1, [(.t 1)], [10], some (20, true)⟩,
    ⟨some 22, .load ⟨false, [.sl 22]⟩, [(.t 21)], [11, 10], some (20, true)⟩,
    ⟨some 23, .idxA 22, [(.t 22), (.c (D.int .i64 0))], [12, 10], some (20, true)⟩,
    ⟨some 24, .load ⟨false, [.int .u32]⟩, [(.t 23)], [13, 10], some (20, true)⟩,
    ⟨some 25, .bin .eql, [(.t 24), (.c (D.int .u32 0))], [14, 10], some (20, true)⟩,
    ⟨some 26, .pick, [(.t 20), (.t 25), (.c (D.bool false))], [10, 15, 7], some (17, false)⟩,
    ⟨some 27, .pick, [(.t 17), (.c (D.bool true)), (.t 26)], [7, 16], none⟩])
  (.cond (.t 27) (.seq (.region false [
    ⟨some 2, .mv, [(.c (D.int .i64 8))], [], none⟩])
  (.ret)) (.skip)))
  (.seq (.seq (.region false [
    ⟨some 4, .mv, [(.c (D.int .i64 0))], [], none⟩])
  (.block 0 (.loop ⟨[1, 3], [(4, .p ⟨false, [.int .i64]⟩)], [(1, .v [.p (.int .u32), .p (.sl 22)])]⟩ (.seq (.seq (.region false [
    ⟨some 28, .mv, [(.t 4)], [], none⟩,
    ⟨some 29, .mv, [(.t 3)], [], none⟩,
    ⟨some 30, .bin .lss, [(.t 28), (.t 29)], [0, 1], none⟩])
  (.cond (.t 30) (.skip) (.exit 0)))
  (.seq (.block 1 (.seq (.region true [
    ⟨some 33, .fld 1, [(.t 1)], [], none⟩,
    ⟨some 34, .load ⟨false, [.sl 22]⟩, [(.t 33)], [0], none⟩,
    ⟨some 35, .mv, [(.t 4)], [], none⟩,
    ⟨some 36, .idxA 22, [(.t 34), (.t 35)], [1, 2], none⟩,
    ⟨some 37, .load ⟨false, [.int .u32]⟩, [(.t 36)], [3], none⟩,
    ⟨some 38, .fld 0, [(.t 1)], [], none⟩,
    ⟨some 39, .load ⟨false, [.int .u32]⟩, [(.t 38)], [5], none⟩,
    ⟨some 40, .bin .eql, [(.t 37), (.t 39)], [4, 6], none⟩,
    ⟨some 41, .mv, [(.t 40)], [7], none⟩,
    ⟨some 42, .mv, [(.t 4)], [8], some (41, false)⟩,
    ⟨some 43, .bin .gtr, [(.t 42), (.c (D.int .i64 0))], [9, 8], some (41, false)⟩,
    ⟨some 44, .mv, [(.t 43)], [10, 8, 8], some (41, false)⟩,
    ⟨some 45, .fld 1, [(.t 1)], [11], some (44, true)⟩,
    ⟨some 46, .load ⟨false, [.sl 22]⟩, [(.t 45)], [12, 11], some (44, true)⟩,
    ⟨some 47, .mv, [(.t 4)], [11], some (44, true)⟩,
    ⟨some 48, .idxA 22, [(.t 46), (.t 47)], [13, 14, 11], some (44, true)⟩,
    ⟨some 49, .load ⟨false, [.int .u32]⟩, [(.t 48)], [15, 11], some (44, true)⟩,
    ⟨some 50, .fld 1, [(.t 1)], [11], some (44, true)⟩,
    ⟨some 51, .load ⟨false, [.sl 22]⟩, [(.t 50)], [17, 11], some (44, true)⟩,
    ⟨some 52, .mv, [(.t 4)], [11], some (44, true)⟩,
    ⟨some 53, .bin .sub, [(.t 52), (.c (D.int .i64 1))], [19, 11], some (44, true)⟩,
    ⟨some 54, .idxA 22, [(.t 51), (.t 53)], [18, 20, 11], some (44, true)⟩,
    ⟨some 55, .load ⟨false, [.int .u32]⟩, [(.t 54)], [21, 11], some (44, true)⟩,
    ⟨some 56, .bin .leq, [(.t 49), (.t 55)], [16, 22, 11], some (44, true)⟩,
    ⟨some 57, .pick, [(.t 44), (.t 56), (.c (D.bool false))], [11, 23, 8], some (41, false)⟩,
    ⟨some 58, .pick, [(.t 41), (.c (D.bool true)), (.t 57)], [8, 24], none⟩])
  (.cond (.t 58) (.seq (.region false [
    ⟨some 2, .mv, [(.c (D.int .i64 8))], [], none⟩])
  (.ret)) (.skip))))
  (.region false [
    ⟨some 31, .mv, [(.t 4)], [], none⟩,
    ⟨some 32, .bin .add, [(.t 31), (.c (D.int .i64 1))], [0], none⟩,
    ⟨some 4, .mv, [(.t 32)], [1, 0, 1], none⟩]))))))
  (.seq (.region false [
    ⟨some 2, .mv, [(.c (D.int .i64 0))], [], none⟩])
  (.ret))))))⟩

/- 14: gatepath/gatepathref15.Needs -/
def c_gatepathref15_Needs : DFun := ⟨18, 5, [.p], [.p ⟨true, [.sl 81, .sl 81, .sl 70]⟩, .p ⟨false, [.int .i64]⟩], [.c 2, .t 3],
  .seq (.region false [
    ⟨some 1, .box 1, [(.t 0)], [], none⟩,
    ⟨some 2, .alloc 2 [(D.zs 81 true), (D.zs 81 true), (D.zs 70 true)], [], [], none⟩,
    ⟨some 3, .mv, [(.c (D.int .i64 0))], [], none⟩])
  (.seq (.region false [
    ⟨some 5, .load ⟨true, [.int .u32, .sl 22]⟩, [(.t 1)], [], none⟩,
    ⟨some 6, .call [4], [(.c (D.fn 16 [])), (.t 5)], [0], none⟩,
    ⟨some 4, .mv, [(.t 6)], [1, 1, 0, 1], none⟩])
  (.seq (.seq (.region false [
    ⟨some 7, .mv, [(.t 4)], [], none⟩,
    ⟨some 8, .bin .neq, [(.t 7), (.c (D.int .i64 0))], [0], none⟩])
  (.cond (.t 8) (.seq (.region false [
    ⟨some 9, .build [(D.zs 81 true), (D.zs 81 true), (D.zs 70 true)] [], [], [], none⟩,
    ⟨some 10, .mv, [(.t 4)], [], none⟩,
    ⟨none, .store ⟨true, [.sl 81, .sl 81, .sl 70]⟩, [(.t 2), (.t 9)], [0, 0], none⟩,
    ⟨some 3, .mv, [(.t 10)], [1, 2, 0, 1, 2], none⟩])
  (.ret)) (.skip)))
  (.seq (.region false [
    ⟨some 11, .fld 0, [(.t 1)], [], none⟩,
    ⟨some 12, .load ⟨false, [.int .u32]⟩, [(.t 11)], [0], none⟩,
    ⟨some 13, .fld 0, [(.t 1)], [], none⟩,
    ⟨some 14, .load ⟨false, [.int .u32]⟩, [(.t 13)], [2], none⟩,
    ⟨some 15, .build [(D.int .u32 0), (D.int .u32 0)] [(0, 1), (1, 1)], [(.t 12), (.t 14)], [1, 3], none⟩,
    ⟨some 16, .buildSl 3 70, [(.t 15)], [4], none⟩,
    ⟨some 17, .build [(D.zs 81 true), (D.zs 81 true), (D.zs 70 true)] [(2, 1)], [(.t 16)], [5], none⟩,
    ⟨none, .store ⟨true, [.sl 81, .sl 81, .sl 70]⟩, [(.t 2), (.t 17)], [6, 0, 1, 2, 3, 4, 5, 6], none⟩,
    ⟨some 3, .mv, [(.c (D.int .i64 0))], [7, 0, 1, 2, 3, 4, 5, 6, 7], none⟩])
  (.ret))))⟩

/- 35: slices.Equal[[]uint32,uint32] -/
def c_slices_Equal : DFun := ⟨26, 2, [.p, .p], [.p ⟨false, [.bool]⟩], [.t 4],
  .seq (.region false [
    ⟨some 4, .mv, [(.c (D.bool false))], [], none⟩])
  (.seq (.seq (.region false [
    ⟨some 6, .mv, [(.t 0)], [], none⟩,
    ⟨some 7, .len, [(.t 6)], [0], none⟩,
    ⟨some 8, .mv, [(.t 1)], [], none⟩,
    ⟨some 9, .len, [(.t 8)], [2], none⟩,
    ⟨some 10, .bin .neq, [(.t 7), (.t 9)], [1, 3], none⟩])
  (.cond (.t 10) (.seq (.region false [
    ⟨some 4, .mv, [(.c (D.bool false))], [], none⟩])
  (.ret)) (.skip)))
  (.seq (.seq (.region false [
    ⟨some 11, .mv, [(.t 0)], [], none⟩,
    ⟨some 12, .len, [(.t 11)], [0], none⟩,
    ⟨some 13, .mv, [(.c (D.int .i64 0))], [], none⟩])
  (.block 0 (.loop ⟨[0, 1, 12], [(13, .p ⟨false, [.int .i64]⟩)], []⟩ (.seq (.region false [
    ⟨some 14, .bin .lss, [(.t 13), (.t 12)], [], none⟩])
  (.seq (.cond (.t 14) (.skip) (.exit 0))
  (.seq (.block 1 (.seq (.region false [
    ⟨some 15, .mv, [(.t 13)], [], none⟩,
    ⟨some 5, .mv, [(.t 15)], [0, 0], none⟩])
  (.seq (.region true [
    ⟨some 16, .mv, [(.t 0)], [], none⟩,
    ⟨some 17, .mv, [(.t 5)], [], none⟩,
    ⟨some 18, .idxA 22, [(.t 16), (.t 17)], [0, 1], none⟩,
    ⟨some 19, .load ⟨false, [.int .u32]⟩, [(.t 18)], [2], none⟩,
    ⟨some 20, .mv, [(.t 1)], [], none⟩,
    ⟨some 21, .mv, [(.t 5)], [], none⟩,
    ⟨some 22, .idxA 22, [(.t 20), (.t 21)], [4, 5], none⟩,
    ⟨some 23, .load ⟨false, [.int .u32]⟩, [(.t 22)], [6], none⟩,
    ⟨some 24, .bin .neq, [(.t 19), (.t 23)], [3, 7], none⟩])
  (.cond (.t 24) (.seq (.region false [
    ⟨some 4, .mv, [(.c (D.bool false))], [], none⟩])
  (.ret)) (.skip)))))
  (.region false [
    ⟨some 25, .bin .add, [(.t 13), (.c (D.int .i64 1))], [], none⟩,
    ⟨some 13, .mv, [(.t 25)], [0], none⟩])))))))
  (.seq (.region false [
    ⟨some 4, .mv, [(.c (D.bool true))], [], none⟩])
  (.ret))))⟩

/- 17: gatepath/aspa.Same -/
def c_aspa_Same : DFun := ⟨17, 5, [.p, .p], [.p ⟨false, [.bool]⟩], [.t 4],
  .seq (.region false [
    ⟨some 2, .box 2, [(.t 0)], [], none⟩,
    ⟨some 3, .box 3, [(.t 1)], [], none⟩,
    ⟨some 4, .mv, [(.c (D.bool false))], [], none⟩])
  (.seq (.region false [
    ⟨some 5, .fld 0, [(.t 2)], [], none⟩,
    ⟨some 6, .load ⟨false, [.int .u32]⟩, [(.t 5)], [0], none⟩,
    ⟨some 7, .fld 0, [(.t 3)], [], none⟩,
    ⟨some 8, .load ⟨false, [.int .u32]⟩, [(.t 7)], [2], none⟩,
    ⟨some 9, .bin .eql, [(.t 6), (.t 8)], [1, 3], none⟩,
    ⟨some 10, .mv, [(.t 9)], [4], none⟩,
    ⟨some 11, .fld 1, [(.t 2)], [5], some (10, true)⟩,
    ⟨some 12, .load ⟨false, [.sl 22]⟩, [(.t 11)], [6, 5], some (10, true)⟩,
    ⟨some 13, .fld 1, [(.t 3)], [5], some (10, true)⟩,
    ⟨some 14, .load ⟨false, [.sl 22]⟩, [(.t 13)], [8, 5], some (10, true)⟩,
    ⟨some 15, .call [4], [(.c (D.fn 35 [])), (.t 12), (.t 14)], [7, 9, 5, 5], some (10, true)⟩,
    ⟨some 16, .pick, [(.t 10), (.t 15), (.c (D.bool false))], [5, 10], none⟩,
    ⟨some 4, .mv, [(.t 16)], [11, 10, 0, 1, 2, 3, 4, 5, 6, 7, 8, 9, 10, 11], none⟩])
  (.ret))⟩

/- 36: gatepath/gatepathref15.SameNumbers -/
def c_gatepathref15_SameNumbers : DFun := ⟨26, 2, [.p, .p], [.p ⟨false, [.bool]⟩], [.t 4],
  .seq (.region false [
    ⟨some 4, .mv, [(.c (D.bool false))], [], none⟩])
  (.seq (.seq (.region false [
    ⟨some 6, .mv, [(.t 0)], [], none⟩,
    ⟨some 7, .len, [(.t 6)], [0], none⟩,
    ⟨some 8, .mv, [(.t 1)], [], none⟩,
    ⟨some 9, .len, [(.t 8)], [2], none⟩,
    ⟨some 10, .bin .neq, [(.t 7), (.t 9)], [1, 3], none⟩])
  (.cond (.t 10) (.seq (.region false [
    ⟨some 4, .mv, [(.c (D.bool false))], [], none⟩])
  (.ret)) (.skip)))
  (.seq (.seq (.region false [
    ⟨some 5, .mv, [(.c (D.int .i64 0))], [], none⟩])
  (.block 0 (.loop ⟨[0, 1], [(5, .p ⟨false, [.int .i64]⟩)], []⟩ (.seq (.seq (.region false [
    ⟨some 11, .mv, [(.t 5)], [], none⟩,
    ⟨some 12, .mv, [(.t 0)], [], none⟩,
    ⟨some 13, .len, [(.t 12)], [1], none⟩,
    ⟨some 14, .bin .lss, [(.t 11), (.t 13)], [0, 2], none⟩])
  (.cond (.t 14) (.skip) (.exit 0)))
  (.seq (.block 1 (.seq (.region true [
    ⟨some 17, .mv, [(.t 0)], [], none⟩,
    ⟨some 18, .mv, [(.t 5)], [], none⟩,
    ⟨some 19, .idxA 22, [(.t 17), (.t 18)], [0, 1], none⟩,
    ⟨some 20, .load ⟨false, [.int .u32]⟩, [(.t 19)], [2], none⟩,
    ⟨some 21, .mv, [(.t 1)], [], none⟩,
    ⟨some 22, .mv, [(.t 5)], [], none⟩,
    ⟨some 23, .idxA 22, [(.t 21), (.t 22)], [4, 5], none⟩,
    ⟨some 24, .load ⟨false, [.int .u32]⟩, [(.t 23)], [6], none⟩,
    ⟨some 25, .bin .neq, [(.t 20), (.t 24)], [3, 7], none⟩])
  (.cond (.t 25) (.seq (.region false [
    ⟨some 4, .mv, [(.c (D.bool false))], [], none⟩])
  (.ret)) (.skip))))
  (.region false [
    ⟨some 15, .mv, [(.t 5)], [], none⟩,
    ⟨some 16, .bin .add, [(.t 15), (.c (D.int .i64 1))], [0], none⟩,
    ⟨some 5, .mv, [(.t 16)], [1, 0, 1], none⟩]))))))
  (.seq (.region false [
    ⟨some 4, .mv, [(.c (D.bool true))], [], none⟩])
  (.ret))))⟩

/- 18: gatepath/gatepathref15.Same -/
def c_gatepathref15_Same : DFun := ⟨17, 5, [.p, .p], [.p ⟨false, [.bool]⟩], [.t 4],
  .seq (.region false [
    ⟨some 2, .box 2, [(.t 0)], [], none⟩,
    ⟨some 3, .box 3, [(.t 1)], [], none⟩,
    ⟨some 4, .mv, [(.c (D.bool false))], [], none⟩])
  (.seq (.region false [
    ⟨some 5, .fld 0, [(.t 2)], [], none⟩,
    ⟨some 6, .load ⟨false, [.int .u32]⟩, [(.t 5)], [0], none⟩,
    ⟨some 7, .fld 0, [(.t 3)], [], none⟩,
    ⟨some 8, .load ⟨false, [.int .u32]⟩, [(.t 7)], [2], none⟩,
    ⟨some 9, .bin .eql, [(.t 6), (.t 8)], [1, 3], none⟩,
    ⟨some 10, .mv, [(.t 9)], [4], none⟩,
    ⟨some 11, .fld 1, [(.t 2)], [5], some (10, true)⟩,
    ⟨some 12, .load ⟨false, [.sl 22]⟩, [(.t 11)], [6, 5], some (10, true)⟩,
    ⟨some 13, .fld 1, [(.t 3)], [5], some (10, true)⟩,
    ⟨some 14, .load ⟨false, [.sl 22]⟩, [(.t 13)], [8, 5], some (10, true)⟩,
    ⟨some 15, .call [4], [(.c (D.fn 36 [])), (.t 12), (.t 14)], [7, 9, 5, 5], some (10, true)⟩,
    ⟨some 16, .pick, [(.t 10), (.t 15), (.c (D.bool false))], [5, 10], none⟩,
    ⟨some 4, .mv, [(.t 16)], [11, 10, 0, 1, 2, 3, 4, 5, 6, 7, 8, 9, 10, 11], none⟩])
  (.ret))⟩

/- 56: gatepath/gatepathref03.wide -/
def c_gatepathref03_wide : DFun := ⟨30, 4, [.p], [.o 81], [.t 2],
  .seq (.region false [
    ⟨some 2, .mv, [(.c (D.zs 81 true))], [], none⟩])
  (.seq (.region false [
    ⟨some 3, .mv, [(.c (D.zs 81 true))], [], none⟩])
  (.seq (.seq (.region false [
    ⟨some 4, .mv, [(.c (D.int .i64 0))], [], none⟩])
  (.block 0 (.loop ⟨[0], [(3, .o 3 81), (4, .p ⟨false, [.int .i64]⟩)], []⟩ (.seq (.seq (.region false [
    ⟨some 5, .mv, [(.t 4)], [], none⟩,
    ⟨some 6, .mv, [(.t 0)], [], none⟩,
    ⟨some 7, .len, [(.t 6)], [1], none⟩,
    ⟨some 8, .bin .lss, [(.t 5), (.t 7)], [0, 2], none⟩])
  (.cond (.t 8) (.skip) (.exit 0)))
  (.seq (.block 1 (.region true [
    ⟨some 11, .mv, [(.t 3)], [], none⟩,
    ⟨some 12, .mv, [(.t 0)], [], none⟩,
    ⟨some 13, .mv, [(.t 4)], [], none⟩,
    ⟨some 14, .idxA 70, [(.t 12), (.t 13)], [1, 2], none⟩,
    ⟨some 15, .fld 0, [(.t 14)], [3], none⟩,
    ⟨some 16, .load ⟨false, [.int .u32]⟩, [(.t 15)], [4], none⟩,
    ⟨some 17, .conv .u64, [(.t 16)], [5], none⟩,
    ⟨some 18, .build [(D.int .u64 0), (D.int .u64 0)] [(1, 1)], [(.t 17)], [6], none⟩,
    ⟨some 19, .mv, [(.t 0)], [], none⟩,
    ⟨some 20, .mv, [(.t 4)], [], none⟩,
    ⟨some 21, .idxA 70, [(.t 19), (.t 20)], [8, 9], none⟩,
    ⟨some 22, .fld 1, [(.t 21)], [10], none⟩,
    ⟨some 23, .load ⟨false, [.int .u32]⟩, [(.t 22)], [11], none⟩,
    ⟨some 24, .conv .u64, [(.t 23)], [12], none⟩,
    ⟨some 25, .build [(D.int .u64 0), (D.int .u64 0)] [(1, 1)], [(.t 24)], [13], none⟩,
    ⟨some 26, .build [(D.int .u64 0), (D.int .u64 0), (D.int .u64 0), (D.int .u64 0)] [(0, 2), (2, 2)], [(.t 18), (.t 25)], [7, 14], none⟩,
    ⟨some 27, .buildSl 1 81, [(.t 26)], [15], none⟩,
    ⟨some 28, .append 2 81 32, [(.t 11), (.t 27)], [0, 16], none⟩,
    ⟨some 3, .mv, [(.t 28)], [17, 17, 0, 1, 2, 3, 4, 5, 6, 7, 8, 9, 10, 11, 12, 13, 14, 15, 16, 17], none⟩]))
  (.region false [
    ⟨some 9, .mv, [(.t 4)], [], none⟩,
    ⟨some 10, .bin .add, [(.t 9), (.c (D.int .i64 1))], [0], none⟩,
    ⟨some 4, .mv, [(.t 10)], [1, 0, 1], none⟩]))))))
  (.seq (.region false [
    ⟨some 29, .mv, [(.t 3)], [], none⟩,
    ⟨some 2, .mv, [(.t 29)], [0, 0], none⟩])
  (.ret))))⟩

/- 37: gatepath/gatepathref03.lists -/
def c_gatepathref03_lists : DFun := ⟨13, 5, [.p], [.o 28, .o 5], [.t 2, .t 3],
  .seq (.region false [
    ⟨some 1, .box 1, [(.t 0)], [], none⟩,
    ⟨some 2, .mv, [(.c (D.zs 28 true))], [], none⟩,
    ⟨some 3, .mv, [(.c (D.zs 5 true))], [1], none⟩])
  (.seq (.region true [
    ⟨some 4, .fld 0, [(.t 1)], [], none⟩,
    ⟨some 5, .load ⟨false, [.sl 81]⟩, [(.t 4)], [0], none⟩,
    ⟨some 6, .fld 1, [(.t 1)], [], none⟩,
    ⟨some 7, .load ⟨false, [.sl 81]⟩, [(.t 6)], [2], none⟩,
    ⟨some 8, .fld 2, [(.t 1)], [], none⟩,
    ⟨some 9, .load ⟨false, [.sl 70]⟩, [(.t 8)], [4], none⟩,
    ⟨some 10, .call [4], [(.c (D.fn 56 [])), (.t 9)], [5], none⟩,
    ⟨some 11, .buildSl 2 28, [(.t 5), (.t 7), (.t 10)], [1, 3, 6], none⟩,
    ⟨some 12, .buildSl 3 5, [(.c (D.int .u8 4)), (.c (D.int .u8 6)), (.c (D.int .u8 4))], [], none⟩,
    ⟨some 2, .mv, [(.t 11)], [7, 6, 0, 1, 2, 3, 4, 5, 6, 7], none⟩,
    ⟨some 3, .mv, [(.t 12)], [8, 9, 0, 1, 2, 3, 4, 5, 6, 7, 8, 9], none⟩])
  (.ret))⟩

/- 19: gatepath/gatepathref03.Same -/
def c_gatepathref03_Same : DFun := ⟨60, 8, [.p, .p], [.p ⟨false, [.bool]⟩], [.t 4],
  .seq (.region false [
    ⟨some 2, .box 2, [(.t 0)], [], none⟩,
    ⟨some 3, .box 3, [(.t 1)], [], none⟩,
    ⟨some 4, .mv, [(.c (D.bool false))], [], none⟩])
  (.seq (.region false [
    ⟨some 12, .load ⟨true, [.sl 81, .sl 81, .sl 70]⟩, [(.t 2)], [], none⟩,
    ⟨some 13, .call [4, 5], [(.c (D.fn 37 [])), (.t 12)], [0], none⟩,
    ⟨some 11, .mv, [(.t 13)], [1], none⟩,
    ⟨some 14, .ext 0, [(.t 11)], [2], none⟩,
    ⟨some 15, .ext 1, [(.t 11)], [2], none⟩,
    ⟨some 5, .mv, [(.t 14)], [3, 1, 0, 1, 2, 3], none⟩,
    ⟨some 6, .mv, [(.t 15)], [4, 5, 0, 1, 2, 3, 4, 5], none⟩])
  (.seq (.region false [
    ⟨some 17, .load ⟨true, [.sl 81, .sl 81, .sl 70]⟩, [(.t 3)], [], none⟩,
    ⟨some 18, .call [6, 7], [(.c (D.fn 37 [])), (.t 17)], [0], none⟩,
    ⟨some 16, .mv, [(.t 18)], [1], none⟩,
    ⟨some 19, .ext 0, [(.t 16)], [2], none⟩,
    ⟨some 20, .ext 1, [(.t 16)], [2], none⟩,
    ⟨some 7, .mv, [(.t 19)], [3, 1, 0, 1, 2, 3], none⟩,
    ⟨some 8, .mv, [(.t 20)], [4, 5, 0, 1, 2, 3, 4, 5], none⟩])
  (.seq (.seq (.region false [
    ⟨some 9, .mv, [(.c (D.int .i64 0))], [], none⟩])
  (.block 0 (.loop ⟨[5, 7], [(9, .p ⟨false, [.int .i64]⟩)], [(4, .a 28), (6, .a 28)]⟩ (.seq (.seq (.region false [
    ⟨some 21, .mv, [(.t 9)], [], none⟩,
    ⟨some 22, .bin .lss, [(.t 21), (.c (D.int .i64 3))], [0], none⟩])
  (.cond (.t 22) (.skip) (.exit 0)))
  (.seq (.block 1 (.seq (.seq (.region true [
    ⟨some 25, .mv, [(.t 5)], [], none⟩,
    ⟨some 26, .mv, [(.t 9)], [], none⟩,
    ⟨some 27, .idxA 28, [(.t 25), (.t 26)], [0, 1], none⟩,
    ⟨some 28, .load ⟨false, [.sl 81]⟩, [(.t 27)], [2], none⟩,
    ⟨some 29, .len, [(.t 28)], [3], none⟩,
    ⟨some 30, .mv, [(.t 7)], [], none⟩,
    ⟨some 31, .mv, [(.t 9)], [], none⟩,
    ⟨some 32, .idxA 28, [(.t 30), (.t 31)], [5, 6], none⟩,
    ⟨some 33, .load ⟨false, [.sl 81]⟩, [(.t 32)], [7], none⟩,
    ⟨some 34, .len, [(.t 33)], [8], none⟩,
    ⟨some 35, .bin .neq, [(.t 29), (.t 34)], [4, 9], none⟩])
  (.cond (.t 35) (.seq (.region false [
    ⟨some 4, .mv, [(.c (D.bool false))], [], none⟩])
  (.ret)) (.skip)))
  (.seq (.region false [
    ⟨some 10, .mv, [(.c (D.int .i64 0))], [], none⟩])
  (.block 2 (.loop ⟨[5, 7, 9], [(10, .p ⟨false, [.int .i64]⟩)], [(4, .a 28), (6, .a 28)]⟩ (.seq (.seq (.region false [
    ⟨some 36, .mv, [(.t 10)], [], none⟩,
    ⟨some 37, .mv, [(.t 5)], [], none⟩,
    ⟨some 38, .mv, [(.t 9)], [], none⟩,
    ⟨some 39, .idxA 28, [(.t 37), (.t 38)], [1, 2], none⟩,
    ⟨some 40, .load ⟨false, [.sl 81]⟩, [(.t 39)], [3], none⟩,
    ⟨some 41, .len, [(.t 40)], [4], none⟩,
    ⟨some 42, .bin .lss, [(.t 36), (.t 41)], [0, 5], none⟩])
  (.cond (.t 42) (.skip) (.exit 2)))
  (.seq (.block 3 (.seq (.region true [
    ⟨some 45, .mv, [(.t 5)], [], none⟩,
    ⟨some 46, .mv, [(.t 9)], [], none⟩,
    ⟨some 47, .idxA 28, [(.t 45), (.t 46)], [0, 1], none⟩,
    ⟨some 48, .load ⟨false, [.sl 81]⟩, [(.t 47)], [2], none⟩,
    ⟨some 49, .mv, [(.t 10)], [], none⟩,
    ⟨some 50, .idxA 81, [(.t 48), (.t 49)], [3, 4], none⟩,
    ⟨some 51, .load ⟨true, [.int .u64, .int .u64, .int .u64, .int .u64]⟩, [(.t 50)], [5], none⟩,
    ⟨some 52, .mv, [(.t 7)], [], none⟩,
    ⟨some 53, .mv, [(.t 9)], [], none⟩,
    ⟨some 54, .idxA 28, [(.t 52), (.t 53)], [7, 8], none⟩,
    ⟨some 55, .load ⟨false, [.sl 81]⟩, [(.t 54)], [9], none⟩,
    ⟨some 56, .mv, [(.t 10)], [], none⟩,
    ⟨some 57, .idxA 81, [(.t 55), (.t 56)], [10, 11], none⟩,
    ⟨some 58, .load ⟨true, [.int .u64, .int .u64, .int .u64, .int .u64]⟩, [(.t 57)], [12], none⟩,
    ⟨some 59, .eqv true ⟨true, [.int .u64, .int .u64, .int .u64, .int .u64]⟩, [(.t 51), (.t 58)], [6, 13], none⟩])
  (.cond (.t 59) (.seq (.region false [
    ⟨some 4, .mv, [(.c (D.bool false))], [], none⟩])
  (.ret)) (.skip))))
  (.region false [
    ⟨some 43, .mv, [(.t 10)], [], none⟩,
    ⟨some 44, .bin .add, [(.t 43), (.c (D.int .i64 1))], [0], none⟩,
    ⟨some 10, .mv, [(.t 44)], [1, 0, 1], none⟩]))))))))
  (.region false [
    ⟨some 23, .mv, [(.t 9)], [], none⟩,
    ⟨some 24, .bin .add, [(.t 23), (.c (D.int .i64 1))], [0], none⟩,
    ⟨some 9, .mv, [(.t 24)], [1, 0, 1], none⟩]))))))
  (.seq (.region false [
    ⟨some 4, .mv, [(.c (D.bool true))], [], none⟩])
  (.ret)))))⟩

/- 3: gatepath/gatepathlaw15.AspaChecks -/
def c_gatepathlaw15_AspaChecks : DFun := ⟨62, 21, [.p, .p], [.p ⟨false, [.bool]⟩], [.t 4],
  .seq (.region false [
    ⟨some 2, .box 2, [(.t 0)], [], none⟩,
    ⟨some 3, .box 3, [(.t 1)], [], none⟩,
    ⟨some 4, .mv, [(.c (D.bool false))], [], none⟩])
  (.seq (.seq (.region false [
    ⟨some 10, .load ⟨true, [.int .u32, .sl 22]⟩, [(.t 2)], [], none⟩,
    ⟨some 11, .call [7], [(.c (D.fn 11 [])), (.t 10)], [0], none⟩,
    ⟨some 12, .mv, [(.t 11)], [1, 1], none⟩,
    ⟨some 13, .load ⟨true, [.int .u32, .sl 22]⟩, [(.t 3)], [2], some (12, false)⟩,
    ⟨some 14, .call [8], [(.c (D.fn 11 [])), (.t 13)], [3, 2, 2], some (12, false)⟩,
    ⟨some 15, .pick, [(.t 12), (.c (D.bool true)), (.t 14)], [2, 4], none⟩])
  (.cond (.t 15) (.seq (.region false [
    ⟨some 4, .mv, [(.c (D.bool true))], [], none⟩])
  (.ret)) (.skip)))
  (.seq (.region false [
    ⟨some 16, .load ⟨true, [.int .u32, .sl 22]⟩, [(.t 2)], [], none⟩,
    ⟨some 17, .call [9], [(.c (D.fn 12 [])), (.t 16)], [0], none⟩,
    ⟨some 5, .alloc 4 [(D.int .u32 0), (D.zs 22 true)], [], [], none⟩,
    ⟨none, .store ⟨true, [.int .u32, .sl 22]⟩, [(.t 5), (.t 17)], [2, 1, 1, 0, 1, 2], none⟩])
  (.seq (.region false [
    ⟨some 19, .load ⟨true, [.int .u32, .sl 22]⟩, [(.t 2)], [], none⟩,
    ⟨some 20, .call [10, 11], [(.c (D.fn 13 [])), (.t 19)], [0], none⟩,
    ⟨some 18, .mv, [(.t 20)], [1], none⟩,
    ⟨some 21, .ext 0, [(.t 18)], [2], none⟩,
    ⟨some 22, .ext 1, [(.t 18)], [2], none⟩,
    ⟨some 6, .alloc 5 [(D.zs 81 true), (D.zs 81 true), (D.zs 70 true)], [], [], none⟩,
    ⟨none, .store ⟨true, [.sl 81, .sl 81, .sl 70]⟩, [(.t 6), (.t 21)], [5, 3, 1, 0, 1, 2, 3, 5], none⟩,
    ⟨some 7, .mv, [(.t 22)], [4, 6, 0, 1, 2, 3, 4, 5, 6], none⟩])
  (.seq (.region false [
    ⟨some 24, .load ⟨true, [.int .u32, .sl 22]⟩, [(.t 2)], [], none⟩,
    ⟨some 25, .call [12, 13], [(.c (D.fn 14 [])), (.t 24)], [0], none⟩,
    ⟨some 23, .mv, [(.t 25)], [1], none⟩,
    ⟨some 26, .ext 0, [(.t 23)], [2], none⟩,
    ⟨some 27, .ext 1, [(.t 23)], [2], none⟩,
    ⟨some 8, .alloc 6 [(D.zs 81 true), (D.zs 81 true), (D.zs 70 true)], [], [], none⟩,
    ⟨none, .store ⟨true, [.sl 81, .sl 81, .sl 70]⟩, [(.t 8), (.t 26)], [5, 3, 1, 0, 1, 2, 3, 5], none⟩,
    ⟨some 9, .mv, [(.t 27)], [4, 6, 0, 1, 2, 3, 4, 5, 6], none⟩])
  (.seq (.region true [
    ⟨some 28, .load ⟨true, [.int .u32, .sl 22]⟩, [(.t 2)], [], none⟩,
    ⟨some 29, .call [14], [(.c (D.fn 15 [])), (.t 28)], [0], none⟩,
    ⟨some 30, .load ⟨true, [.int .u32, .sl 22]⟩, [(.t 2)], [], none⟩,
    ⟨some 31, .call [15], [(.c (D.fn 16 [])), (.t 30)], [2, 1], none⟩,
    ⟨some 32, .bin .eql, [(.t 29), (.t 31)], [1, 3], none⟩,
    ⟨some 33, .mv, [(.t 32)], [4, 3], none⟩,
    ⟨some 34, .load ⟨true, [.int .u32, .sl 22]⟩, [(.t 2)], [5], some (33, true)⟩,
    ⟨some 35, .load ⟨true, [.int .u32, .sl 22]⟩, [(.t 3)], [5], some (33, true)⟩,
    ⟨some 36, .call [16], [(.c (D.fn 17 [])), (.t 34), (.t 35)], [6, 7, 5, 5], some (33, true)⟩,
    ⟨some 37, .load ⟨true, [.int .u32, .sl 22]⟩, [(.t 2)], [5], some (33, true)⟩,
    ⟨some 38, .load ⟨true, [.int .u32, .sl 22]⟩, [(.t 3)], [5], some (33, true)⟩,
    ⟨some 39, .call [17], [(.c (D.fn 18 [])), (.t 37), (.t 38)], [9, 10, 8, 5], some (33, true)⟩,
    ⟨some 40, .eqv false ⟨false, [.bool]⟩, [(.t 36), (.t 39)], [8, 11, 5], some (33, true)⟩,
    ⟨some 41, .pick, [(.t 33), (.t 40), (.c (D.bool false))], [5, 12], none⟩,
    ⟨some 42, .mv, [(.t 41)], [13, 11], none⟩,
    ⟨some 43, .load ⟨true, [.int .u32, .sl 22]⟩, [(.t 2)], [14], some (42, true)⟩,
    ⟨some 44, .load ⟨true, [.int .u32, .sl 22]⟩, [(.t 5)], [14], some (42, true)⟩,
    ⟨some 45, .call [18], [(.c (D.fn 17 [])), (.t 43), (.t 44)], [15, 16, 14, 14], some (42, true)⟩,
    ⟨some 46, .pick, [(.t 42), (.t 45), (.c (D.bool false))], [14, 17], none⟩,
    ⟨some 47, .mv, [(.t 46)], [18, 17], none⟩,
    ⟨some 48, .load ⟨true, [.sl 81, .sl 81, .sl 70]⟩, [(.t 6)], [19], some (47, true)⟩,
    ⟨some 49, .load ⟨true, [.sl 81, .sl 81, .sl 70]⟩, [(.t 8)], [19], some (47, true)⟩,
    ⟨some 50, .call [19], [(.c (D.fn 19 [])), (.t 48), (.t 49)], [20, 21, 19, 19], some (47, true)⟩,
    ⟨some 51, .pick, [(.t 47), (.t 50), (.c (D.bool false))], [19, 22], none⟩,
    ⟨some 52, .mv, [(.t 51)], [23, 22], none⟩,
    ⟨some 53, .mv, [(.t 7)], [24], some (52, true)⟩,
    ⟨some 54, .mv, [(.t 9)], [24], some (52, true)⟩,
    ⟨some 55, .bin .eql, [(.t 53), (.t 54)], [25, 26, 24], some (52, true)⟩,
    ⟨some 56, .pick, [(.t 52), (.t 55), (.c (D.bool false))], [24, 27], none⟩,
    ⟨some 57, .mv, [(.t 56)], [28, 24], none⟩,
    ⟨some 58, .load ⟨true, [.int .u32, .sl 22]⟩, [(.t 2)], [29], some (57, true)⟩,
    ⟨some 59, .load ⟨true, [.int .u32, .sl 22]⟩, [(.t 5)], [29], some (57, true)⟩,
    ⟨some 60, .call [20], [(.c (D.fn 18 [])), (.t 58), (.t 59)], [30, 31, 29, 29], some (57, true)⟩,
    ⟨some 61, .pick, [(.t 57), (.t 60), (.c (D.bool false))], [29, 32], none⟩,
    ⟨some 4, .mv, [(.t 61)], [33, 32, 0, 1, 2, 3, 4, 5, 6, 7, 8, 9, 10, 11, 12, 13, 14, 15, 16, 17, 18, 19, 20, 21, 22, 23, 24, 25, 26, 27, 28, 29, 30, 31, 32, 33], none⟩])
  (.ret))))))⟩

def tabL : List (Nat × Entry) := [(11, .code c_gatepathref15_Great),
  (12, .code c_gatepathref15_Twin),
  (55, .code c_slices_Index),
  (34, .code c_slices_Contains),
  (15, .code c_aspa_Check),
  (13, .code c_aspa_Needs),
  (16, .code c_gatepathref15_Check),
  (14, .code c_gatepathref15_Needs),
  (35, .code c_slices_Equal),
  (17, .code c_aspa_Same),
  (36, .code c_gatepathref15_SameNumbers),
  (18, .code c_gatepathref15_Same),
  (56, .code c_gatepathref03_wide),
  (37, .code c_gatepathref03_lists),
  (19, .code c_gatepathref03_Same),
  (3, .code c_gatepathlaw15_AspaChecks)]
def tab (g : Nat) : Option Entry := tabL.lookup g

end Go.Proofs.Ytomlgapciogbdaa.Own
