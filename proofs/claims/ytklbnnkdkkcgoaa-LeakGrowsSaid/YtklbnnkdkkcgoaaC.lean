import Derived.Test.YtklbnnkdkkcgoaaG4
namespace Go.Proofs.Ytklbnnkdkkcgoaa.Own
open Go Go.Proofs.Ytklbnnkdkkcgoaa.GD

def tyL : List (Nat × Vk) := [(23, ⟨false, [.int .u32]⟩), (46, ⟨true, [.int .u32, .sl 23]⟩)]
def ty (e : Nat) : Option Vk := tyL.lookup e

/- 11: gatepath/gatepathref41.Great -/
def c_gatepathref41_Great : DFun := ⟨20, 1, [.p], [.p ⟨false, [.bool]⟩], [.t 2],
  .seq (.region false [
    ⟨some 2, .mv, [(.c (D.bool false))], [], none⟩])
  (.seq (.seq (.region false [
    ⟨some 4, .mv, [(.t 0)], [], none⟩,
    ⟨some 5, .len, [(.t 4)], [0], none⟩,
    ⟨some 6, .bin .gtr, [(.t 5), (.c (D.int .i64 310))], [1], none⟩])
  (.cond (.t 6) (.seq (.region false [
    ⟨some 2, .mv, [(.c (D.bool true))], [], none⟩])
  (.ret)) (.skip)))
  (.seq (.seq (.region false [
    ⟨some 3, .mv, [(.c (D.int .i64 0))], [], none⟩])
  (.block 0 (.loop ⟨[0], [(3, .p ⟨false, [.int .i64]⟩)], []⟩ (.seq (.seq (.region false [
    ⟨some 7, .mv, [(.t 3)], [], none⟩,
    ⟨some 8, .mv, [(.t 0)], [], none⟩,
    ⟨some 9, .len, [(.t 8)], [1], none⟩,
    ⟨some 10, .bin .lss, [(.t 7), (.t 9)], [0, 2], none⟩])
  (.cond (.t 10) (.skip) (.exit 0)))
  (.seq (.block 1 (.seq (.region false [
    ⟨some 13, .mv, [(.t 0)], [], none⟩,
    ⟨some 14, .mv, [(.t 3)], [], none⟩,
    ⟨some 15, .idxA 46, [(.t 13), (.t 14)], [0, 1], none⟩,
    ⟨some 16, .fld 1, [(.t 15)], [2], none⟩,
    ⟨some 17, .load ⟨false, [.sl 23]⟩, [(.t 16)], [3], none⟩,
    ⟨some 18, .len, [(.t 17)], [4], none⟩,
    ⟨some 19, .bin .gtr, [(.t 18), (.c (D.int .i64 60))], [5], none⟩])
  (.cond (.t 19) (.seq (.region false [
    ⟨some 2, .mv, [(.c (D.bool true))], [], none⟩])
  (.ret)) (.skip))))
  (.region false [
    ⟨some 11, .mv, [(.t 3)], [], none⟩,
    ⟨some 12, .bin .add, [(.t 11), (.c (D.int .i64 1))], [0], none⟩,
    ⟨some 3, .mv, [(.t 12)], [1, 0, 1], none⟩]))))))
  (.seq (.region false [
    ⟨some 2, .mv, [(.c (D.bool false))], [], none⟩])
  (.ret))))⟩

/- 56: slices.IndexFunc[[]gatepath/api.Attest,gatepath/api.Attest] -/
def c_slices_IndexFunc : DFun := ⟨19, 3, [.p, .p], [.p ⟨false, [.int .i64]⟩], [.t 4],
  .seq (.region false [
    ⟨some 4, .mv, [(.c (D.int .i64 0))], [], none⟩])
  (.seq (.seq (.region false [
    ⟨some 6, .mv, [(.t 0)], [], none⟩,
    ⟨some 7, .len, [(.t 6)], [0], none⟩,
    ⟨some 8, .mv, [(.c (D.int .i64 0))], [], none⟩])
  (.block 0 (.loop ⟨[0, 1, 7], [(8, .p ⟨false, [.int .i64]⟩)], []⟩ (.seq (.region false [
    ⟨some 9, .bin .lss, [(.t 8), (.t 7)], [], none⟩])
  (.seq (.cond (.t 9) (.skip) (.exit 0))
  (.seq (.block 1 (.seq (.region false [
    ⟨some 10, .mv, [(.t 8)], [], none⟩,
    ⟨some 5, .mv, [(.t 10)], [0, 0], none⟩])
  (.seq (.region false [
    ⟨some 11, .mv, [(.t 1)], [], none⟩,
    ⟨some 12, .mv, [(.t 0)], [], none⟩,
    ⟨some 13, .mv, [(.t 5)], [], none⟩,
    ⟨some 14, .idxA 46, [(.t 12), (.t 13)], [1, 2], none⟩,
    ⟨some 15, .load ⟨true, [.int .u32, .sl 23]⟩, [(.t 14)], [3], none⟩,
    ⟨some 16, .call [2], [(.t 11), (.t 15)], [0, 4], none⟩])
  (.cond (.t 16) (.seq (.region false [
    ⟨some 17, .mv, [(.t 5)], [], none⟩,
    ⟨some 4, .mv, [(.t 17)], [0, 0], none⟩])
  (.ret)) (.skip)))))
  (.region false [
    ⟨some 18, .bin .add, [(.t 8), (.c (D.int .i64 1))], [], none⟩,
    ⟨some 8, .mv, [(.t 18)], [0], none⟩])))))))
  (.seq (.region false [
    ⟨some 4, .mv, [(.c (D.int .i64 (-1)))], [], none⟩])
  (.ret)))⟩

/- 40: slices.ContainsFunc[[]gatepath/api.Attest,gatepath/api.Attest] -/
def c_slices_ContainsFunc : DFun := ⟨9, 3, [.p, .p], [.p ⟨false, [.bool]⟩], [.t 4],
  .seq (.region false [
    ⟨some 4, .mv, [(.c (D.bool false))], [], none⟩])
  (.seq (.region false [
    ⟨some 5, .mv, [(.t 0)], [], none⟩,
    ⟨some 6, .mv, [(.t 1)], [], none⟩,
    ⟨some 7, .call [2], [(.c (D.fn 56 [])), (.t 5), (.t 6)], [0, 1], none⟩,
    ⟨some 8, .bin .geq, [(.t 7), (.c (D.int .i64 0))], [2], none⟩,
    ⟨some 4, .mv, [(.t 8)], [3, 2, 0, 1, 2, 3], none⟩])
  (.ret))⟩

/- 41: gatepath/leak.Check$1 -/
def c_leak_Check_1 : DFun := ⟨7, 2, [.p], [.p ⟨false, [.bool]⟩], [.t 2],
  .seq (.region false [
    ⟨some 1, .box 1, [(.t 0)], [], none⟩,
    ⟨some 2, .mv, [(.c (D.bool false))], [], none⟩])
  (.seq (.region false [
    ⟨some 3, .fld 1, [(.t 1)], [], none⟩,
    ⟨some 4, .load ⟨false, [.sl 23]⟩, [(.t 3)], [0], none⟩,
    ⟨some 5, .len, [(.t 4)], [1], none⟩,
    ⟨some 6, .bin .gtr, [(.t 5), (.c (D.int .i64 50))], [2], none⟩,
    ⟨some 2, .mv, [(.t 6)], [3, 0, 1, 2, 3], none⟩])
  (.ret))⟩

/- 42: gatepath/leak.rising[gatepath/api.Attest,uint32] -/
def c_leak_rising_42 : DFun := ⟨26, 4, [.p, .p], [.p ⟨false, [.bool]⟩], [.t 4],
  .seq (.region false [
    ⟨some 4, .mv, [(.c (D.bool false))], [], none⟩])
  (.seq (.seq (.region false [
    ⟨some 5, .mv, [(.c (D.int .i64 1))], [], none⟩])
  (.block 0 (.loop ⟨[0, 1], [(5, .p ⟨false, [.int .i64]⟩)], []⟩ (.seq (.seq (.region false [
    ⟨some 6, .mv, [(.t 5)], [], none⟩,
    ⟨some 7, .mv, [(.t 0)], [], none⟩,
    ⟨some 8, .len, [(.t 7)], [1], none⟩,
    ⟨some 9, .bin .lss, [(.t 6), (.t 8)], [0, 2], none⟩])
  (.cond (.t 9) (.skip) (.exit 0)))
  (.seq (.block 1 (.seq (.region true [
    ⟨some 12, .mv, [(.t 1)], [], none⟩,
    ⟨some 13, .mv, [(.t 0)], [], none⟩,
    ⟨some 14, .mv, [(.t 5)], [], none⟩,
    ⟨some 15, .idxA 46, [(.t 13), (.t 14)], [1, 2], none⟩,
    ⟨some 16, .load ⟨true, [.int .u32, .sl 23]⟩, [(.t 15)], [3], none⟩,
    ⟨some 17, .call [2], [(.t 12), (.t 16)], [0, 4], none⟩,
    ⟨some 18, .mv, [(.t 1)], [], none⟩,
    ⟨some 19, .mv, [(.t 0)], [], none⟩,
    ⟨some 20, .mv, [(.t 5)], [], none⟩,
    ⟨some 21, .bin .sub, [(.t 20), (.c (D.int .i64 1))], [8], none⟩,
    ⟨some 22, .idxA 46, [(.t 19), (.t 21)], [7, 9], none⟩,
    ⟨some 23, .load ⟨true, [.int .u32, .sl 23]⟩, [(.t 22)], [10], none⟩,
    ⟨some 24, .call [3], [(.t 18), (.t 23)], [6, 11, 5], none⟩,
    ⟨some 25, .bin .leq, [(.t 17), (.t 24)], [5, 12], none⟩])
  (.cond (.t 25) (.seq (.region false [
    ⟨some 4, .mv, [(.c (D.bool false))], [], none⟩])
  (.ret)) (.skip))))
  (.region false [
    ⟨some 10, .mv, [(.t 5)], [], none⟩,
    ⟨some 11, .bin .add, [(.t 10), (.c (D.int .i64 1))], [0], none⟩,
    ⟨some 5, .mv, [(.t 11)], [1, 0, 1], none⟩]))))))
  (.seq (.region false [
    ⟨some 4, .mv, [(.c (D.bool true))], [], none⟩])
  (.ret)))⟩

/- 43: gatepath/leak.Check$2 -/
def c_leak_Check_2 : DFun := ⟨5, 2, [.p], [.p ⟨false, [.int .u32]⟩], [.t 2],
  .seq (.region false [
    ⟨some 1, .box 1, [(.t 0)], [], none⟩,
    ⟨some 2, .mv, [(.c (D.int .u32 0))], [], none⟩])
  (.seq (.region false [
    ⟨some 3, .fld 0, [(.t 1)], [], none⟩,
    ⟨some 4, .load ⟨false, [.int .u32]⟩, [(.t 3)], [0], none⟩,
    ⟨some 2, .mv, [(.t 4)], [1, 0, 1], none⟩])
  (.ret))⟩

/- 44: gatepath/leak.rising[uint32,uint32] -/
def c_leak_rising_44 : DFun := ⟨26, 4, [.p, .p], [.p ⟨false, [.bool]⟩], [.t 4],
  .seq (.region false [
    ⟨some 4, .mv, [(.c (D.bool false))], [], none⟩])
  (.seq (.seq (.region false [
    ⟨some 5, .mv, [(.c (D.int .i64 1))], [], none⟩])
  (.block 0 (.loop ⟨[0, 1], [(5, .p ⟨false, [.int .i64]⟩)], []⟩ (.seq (.seq (.region false [
    ⟨some 6, .mv, [(.t 5)], [], none⟩,
    ⟨some 7, .mv, [(.t 0)], [], none⟩,
    ⟨some 8, .len, [(.t 7)], [1], none⟩,
    ⟨some 9, .bin .lss, [(.t 6), (.t 8)], [0, 2], none⟩])
  (.cond (.t 9) (.skip) (.exit 0)))
  (.seq (.block 1 (.seq (.region true [
    ⟨some 12, .mv, [(.t 1)], [], none⟩,
    ⟨some 13, .mv, [(.t 0)], [], none⟩,
    ⟨some 14, .mv, [(.t 5)], [], none⟩,
    ⟨some 15, .idxA 23, [(.t 13), (.t 14)], [1, 2], none⟩,
    ⟨some 16, .load ⟨false, [.int .u32]⟩, [(.t 15)], [3], none⟩,
    ⟨some 17, .call [2], [(.t 12), (.t 16)], [0, 4], none⟩,
    ⟨some 18, .mv, [(.t 1)], [], none⟩,
    ⟨some 19, .mv, [(.t 0)], [], none⟩,
    ⟨some 20, .mv, [(.t 5)], [], none⟩,
    ⟨some 21, .bin .sub, [(.t 20), (.c (D.int .i64 1))], [8], none⟩,
    ⟨some 22, .idxA 23, [(.t 19), (.t 21)], [7, 9], none⟩,
    ⟨some 23, .load ⟨false, [.int .u32]⟩, [(.t 22)], [10], none⟩,
    ⟨some 24, .call [3], [(.t 18), (.t 23)], [6, 11, 5], none⟩,
    ⟨some 25, .bin .leq, [(.t 17), (.t 24)], [5, 12], none⟩])
  (.cond (.t 25) (.seq (.region false [
    ⟨some 4, .mv, [(.c (D.bool false))], [], none⟩])
  (.ret)) (.skip))))
  (.region false [
    ⟨some 10, .mv, [(.t 5)], [], none⟩,
    ⟨some 11, .bin .add, [(.t 10), (.c (D.int .i64 1))], [0], none⟩,
    ⟨some 5, .mv, [(.t 11)], [1, 0, 1], none⟩]))))))
  (.seq (.region false [
    ⟨some 4, .mv, [(.c (D.bool true))], [], none⟩])
  (.ret)))⟩

/- 45: gatepath/leak.Check$3 -/
def c_leak_Check_3 : DFun := ⟨4, 1, [.p], [.p ⟨false, [.int .u32]⟩], [.t 2],
  .seq (.region false [
    ⟨some 2, .mv, [(.c (D.int .u32 0))], [], none⟩])
  (.seq (.region false [
    ⟨some 3, .mv, [(.t 0)], [], none⟩,
    ⟨some 2, .mv, [(.t 3)], [0, 0], none⟩])
  (.ret))⟩

/- 15: gatepath/leak.Check -/
def c_leak_Check : DFun := ⟨32, 5, [.p], [.p ⟨false, [.int .i64]⟩], [.t 2],
  .seq (.region false [
    ⟨some 2, .mv, [(.c (D.int .i64 0))], [], none⟩])
  (.seq (.seq (.region false [
    ⟨some 5, .mv, [(.t 0)], [], none⟩,
    ⟨some 6, .len, [(.t 5)], [0], none⟩,
    ⟨some 7, .bin .gtr, [(.t 6), (.c (D.int .i64 300))], [1], none⟩,
    ⟨some 8, .mv, [(.t 7)], [2], none⟩,
    ⟨some 9, .mv, [(.t 0)], [3], some (8, false)⟩,
    ⟨some 10, .call [2], [(.c (D.fn 40 [])), (.t 9), (.c (D.fn 41 []))], [4, 3, 3], some (8, false)⟩,
    ⟨some 11, .pick, [(.t 8), (.c (D.bool true)), (.t 10)], [3, 5], none⟩])
  (.cond (.t 11) (.seq (.region false [
    ⟨some 2, .mv, [(.c (D.int .i64 4))], [], none⟩])
  (.ret)) (.skip)))
  (.seq (.seq (.region false [
    ⟨some 12, .mv, [(.t 0)], [], none⟩,
    ⟨some 13, .call [3], [(.c (D.fn 42 [])), (.t 12), (.c (D.fn 43 []))], [0], none⟩,
    ⟨some 14, .not, [(.t 13)], [1], none⟩])
  (.cond (.t 14) (.seq (.region false [
    ⟨some 2, .mv, [(.c (D.int .i64 8))], [], none⟩])
  (.ret)) (.skip)))
  (.seq (.seq (.region false [
    ⟨some 15, .mv, [(.t 0)], [], none⟩,
    ⟨some 16, .len, [(.t 15)], [0], none⟩,
    ⟨some 17, .mv, [(.c (D.int .i64 0))], [], none⟩])
  (.block 0 (.loop ⟨[15, 16], [(17, .p ⟨false, [.int .i64]⟩)], []⟩ (.seq (.region false [
    ⟨some 18, .bin .lss, [(.t 17), (.t 16)], [], none⟩])
  (.seq (.cond (.t 18) (.skip) (.exit 0))
  (.seq (.block 1 (.seq (.region false [
    ⟨some 19, .idxA 46, [(.t 15), (.t 17)], [], none⟩,
    ⟨some 20, .load ⟨true, [.int .u32, .sl 23]⟩, [(.t 19)], [0], none⟩,
    ⟨some 4, .alloc 1 [(D.int .u32 0), (D.zs 23 true)], [], [], none⟩,
    ⟨none, .store ⟨true, [.int .u32, .sl 23]⟩, [(.t 4), (.t 20)], [2, 1, 0, 1, 2], none⟩])
  (.seq (.region false [
    ⟨some 21, .fld 1, [(.t 4)], [], none⟩,
    ⟨some 22, .load ⟨false, [.sl 23]⟩, [(.t 21)], [0], none⟩,
    ⟨some 23, .len, [(.t 22)], [1], none⟩,
    ⟨some 24, .bin .eql, [(.t 23), (.c (D.int .i64 0))], [2], none⟩,
    ⟨some 25, .mv, [(.t 24)], [3], none⟩,
    ⟨some 26, .fld 1, [(.t 4)], [4], some (25, false)⟩,
    ⟨some 27, .load ⟨false, [.sl 23]⟩, [(.t 26)], [5, 4], some (25, false)⟩,
    ⟨some 28, .call [4], [(.c (D.fn 44 [])), (.t 27), (.c (D.fn 45 []))], [6, 4, 4], some (25, false)⟩,
    ⟨some 29, .not, [(.t 28)], [7, 4], some (25, false)⟩,
    ⟨some 30, .pick, [(.t 25), (.c (D.bool true)), (.t 29)], [4, 8], none⟩])
  (.cond (.t 30) (.seq (.region false [
    ⟨some 2, .mv, [(.c (D.int .i64 8))], [], none⟩])
  (.ret)) (.skip)))))
  (.region false [
    ⟨some 31, .bin .add, [(.t 17), (.c (D.int .i64 1))], [], none⟩,
    ⟨some 17, .mv, [(.t 31)], [0], none⟩])))))))
  (.seq (.region false [
    ⟨some 2, .mv, [(.c (D.int .i64 0))], [], none⟩])
  (.ret)))))⟩

/- 52: slices.BinarySearchFunc[[]gatepath/api.Attest,gatepath/api.Attest,uint32] -/
def c_slices_BinarySearchFunc : DFun := ⟨49, 5, [.p, .p, .p], [.p ⟨false, [.int .i64]⟩, .p ⟨false, [.bool]⟩], [.t 6, .t 7],
  .seq (.region false [
    ⟨some 6, .mv, [(.c (D.int .i64 0))], [], none⟩,
    ⟨some 7, .mv, [(.c (D.bool false))], [0], none⟩])
  (.seq (.region false [
    ⟨some 12, .mv, [(.t 0)], [], none⟩,
    ⟨some 13, .len, [(.t 12)], [0], none⟩,
    ⟨some 8, .mv, [(.t 13)], [1, 0, 1], none⟩])
  (.seq (.region false [
    ⟨some 14, .mv, [(.t 8)], [], none⟩,
    ⟨some 9, .mv, [(.c (D.int .i64 0))], [], none⟩,
    ⟨some 10, .mv, [(.t 14)], [0, 1, 0, 1], none⟩])
  (.seq (.block 0 (.loop ⟨[0, 1, 2, 8], [(9, .p ⟨false, [.int .i64]⟩), (10, .p ⟨false, [.int .i64]⟩)], []⟩ (.seq (.seq (.region false [
    ⟨some 15, .mv, [(.t 9)], [], none⟩,
    ⟨some 16, .mv, [(.t 10)], [], none⟩,
    ⟨some 17, .bin .lss, [(.t 15), (.t 16)], [0, 1], none⟩])
  (.cond (.t 17) (.skip) (.exit 0)))
  (.block 1 (.seq (.region false [
    ⟨some 18, .mv, [(.t 9)], [], none⟩,
    ⟨some 19, .mv, [(.t 10)], [], none⟩,
    ⟨some 20, .bin .add, [(.t 18), (.t 19)], [0, 1], none⟩,
    ⟨some 21, .conv .u64, [(.t 20)], [2], none⟩,
    ⟨some 22, .bin .shr, [(.t 21), (.c (D.int .u64 1))], [3], none⟩,
    ⟨some 23, .conv .i64, [(.t 22)], [4], none⟩,
    ⟨some 11, .mv, [(.t 23)], [5, 0, 1, 2, 3, 4, 5], none⟩])
  (.seq (.region false [
    ⟨some 24, .mv, [(.t 2)], [], none⟩,
    ⟨some 25, .mv, [(.t 0)], [], none⟩,
    ⟨some 26, .mv, [(.t 11)], [], none⟩,
    ⟨some 27, .idxA 46, [(.t 25), (.t 26)], [1, 2], none⟩,
    ⟨some 28, .load ⟨true, [.int .u32, .sl 23]⟩, [(.t 27)], [3], none⟩,
    ⟨some 29, .mv, [(.t 1)], [], none⟩,
    ⟨some 30, .call [3], [(.t 24), (.t 28), (.t 29)], [0, 4, 5], none⟩,
    ⟨some 31, .bin .lss, [(.t 30), (.c (D.int .i64 0))], [6], none⟩])
  (.cond (.t 31) (.region false [
    ⟨some 32, .mv, [(.t 11)], [], none⟩,
    ⟨some 33, .bin .add, [(.t 32), (.c (D.int .i64 1))], [0], none⟩,
    ⟨some 9, .mv, [(.t 33)], [1, 0, 1], none⟩]) (.region false [
    ⟨some 34, .mv, [(.t 11)], [], none⟩,
    ⟨some 10, .mv, [(.t 34)], [0, 0], none⟩]))))))))
  (.seq (.region false [
    ⟨some 35, .mv, [(.t 9)], [], none⟩,
    ⟨some 36, .mv, [(.t 9)], [], none⟩,
    ⟨some 37, .mv, [(.t 8)], [], none⟩,
    ⟨some 38, .bin .lss, [(.t 36), (.t 37)], [1, 2], none⟩,
    ⟨some 39, .mv, [(.t 38)], [3], none⟩,
    ⟨some 40, .mv, [(.t 2)], [4], some (39, true)⟩,
    ⟨some 41, .mv, [(.t 0)], [4], some (39, true)⟩,
    ⟨some 42, .mv, [(.t 9)], [4], some (39, true)⟩,
    ⟨some 43, .idxA 46, [(.t 41), (.t 42)], [6, 7, 4], some (39, true)⟩,
    ⟨some 44, .load ⟨true, [.int .u32, .sl 23]⟩, [(.t 43)], [8, 4], some (39, true)⟩,
    ⟨some 45, .mv, [(.t 1)], [4], some (39, true)⟩,
    ⟨some 46, .call [4], [(.t 40), (.t 44), (.t 45)], [5, 9, 10, 4, 4], some (39, true)⟩,
    ⟨some 47, .bin .eql, [(.t 46), (.c (D.int .i64 0))], [11, 4], some (39, true)⟩,
    ⟨some 48, .pick, [(.t 39), (.t 47), (.c (D.bool false))], [4, 12], none⟩,
    ⟨some 6, .mv, [(.t 35)], [0, 11, 0], none⟩,
    ⟨some 7, .mv, [(.t 48)], [13, 14, 0, 1, 2, 3, 4, 5, 6, 7, 8, 9, 10, 11, 12, 13, 14], none⟩])
  (.ret)))))⟩

/- 57: cmp.isNaN[uint32] -/
def c_cmp_isNaN : DFun := ⟨6, 1, [.p], [.p ⟨false, [.bool]⟩], [.t 2],
  .seq (.region false [
    ⟨some 2, .mv, [(.c (D.bool false))], [], none⟩])
  (.seq (.region false [
    ⟨some 3, .mv, [(.t 0)], [], none⟩,
    ⟨some 4, .mv, [(.t 0)], [], none⟩,
    ⟨some 5, .bin .neq, [(.t 3), (.t 4)], [0, 1], none⟩,
    ⟨some 2, .mv, [(.t 5)], [2, 0, 1, 2], none⟩])
  (.ret))⟩

/- 54: cmp.Compare[uint32] -/
def c_cmp_Compare : DFun := ⟨20, 4, [.p, .p], [.p ⟨false, [.int .i64]⟩], [.t 4],
  .seq (.region false [
    ⟨some 4, .mv, [(.c (D.int .i64 0))], [], none⟩])
  (.seq (.region false [
    ⟨some 7, .mv, [(.t 0)], [], none⟩,
    ⟨some 8, .call [2], [(.c (D.fn 57 [])), (.t 7)], [0], none⟩,
    ⟨some 5, .mv, [(.t 8)], [1, 1, 0, 1], none⟩])
  (.seq (.region false [
    ⟨some 9, .mv, [(.t 1)], [], none⟩,
    ⟨some 10, .call [3], [(.c (D.fn 57 [])), (.t 9)], [0], none⟩,
    ⟨some 6, .mv, [(.t 10)], [1, 1, 0, 1], none⟩])
  (.seq (.seq (.region false [
    ⟨some 11, .mv, [(.t 5)], [], none⟩])
  (.cond (.t 11) (.seq (.seq (.region false [
    ⟨some 12, .mv, [(.t 6)], [], none⟩])
  (.cond (.t 12) (.seq (.region false [
    ⟨some 4, .mv, [(.c (D.int .i64 0))], [], none⟩])
  (.ret)) (.skip)))
  (.seq (.region false [
    ⟨some 4, .mv, [(.c (D.int .i64 (-1)))], [], none⟩])
  (.ret))) (.skip)))
  (.seq (.seq (.region false [
    ⟨some 13, .mv, [(.t 6)], [], none⟩])
  (.cond (.t 13) (.seq (.region false [
    ⟨some 4, .mv, [(.c (D.int .i64 1))], [], none⟩])
  (.ret)) (.skip)))
  (.seq (.seq (.region false [
    ⟨some 14, .mv, [(.t 0)], [], none⟩,
    ⟨some 15, .mv, [(.t 1)], [], none⟩,
    ⟨some 16, .bin .lss, [(.t 14), (.t 15)], [0, 1], none⟩])
  (.cond (.t 16) (.seq (.region false [
    ⟨some 4, .mv, [(.c (D.int .i64 (-1)))], [], none⟩])
  (.ret)) (.skip)))
  (.seq (.seq (.region false [
    ⟨some 17, .mv, [(.t 0)], [], none⟩,
    ⟨some 18, .mv, [(.t 1)], [], none⟩,
    ⟨some 19, .bin .gtr, [(.t 17), (.t 18)], [0, 1], none⟩])
  (.cond (.t 19) (.seq (.region false [
    ⟨some 4, .mv, [(.c (D.int .i64 1))], [], none⟩])
  (.ret)) (.skip)))
  (.seq (.region false [
    ⟨some 4, .mv, [(.c (D.int .i64 0))], [], none⟩])
  (.ret))))))))⟩

/- 53: gatepath/leak.hop$1 -/
def c_leak_hop_1 : DFun := ⟨9, 4, [.p, .p], [.p ⟨false, [.int .i64]⟩], [.t 4],
  .seq (.region false [
    ⟨some 2, .box 2, [(.t 0)], [], none⟩,
    ⟨some 4, .mv, [(.c (D.int .i64 0))], [], none⟩])
  (.seq (.region false [
    ⟨some 5, .fld 0, [(.t 2)], [], none⟩,
    ⟨some 6, .load ⟨false, [.int .u32]⟩, [(.t 5)], [0], none⟩,
    ⟨some 7, .mv, [(.t 1)], [], none⟩,
    ⟨some 8, .call [3], [(.c (D.fn 54 [])), (.t 6), (.t 7)], [1, 2], none⟩,
    ⟨some 4, .mv, [(.t 8)], [3, 3, 0, 1, 2, 3], none⟩])
  (.ret))⟩

/- 58: cmp.Less[uint32] -/
def c_cmp_Less : DFun := ⟨17, 4, [.p, .p], [.p ⟨false, [.bool]⟩], [.t 4],
  .seq (.region false [
    ⟨some 4, .mv, [(.c (D.bool false))], [], none⟩])
  (.seq (.region false [
    ⟨some 5, .mv, [(.t 0)], [], none⟩,
    ⟨some 6, .call [2], [(.c (D.fn 57 [])), (.t 5)], [0], none⟩,
    ⟨some 7, .mv, [(.t 6)], [1, 1], none⟩,
    ⟨some 8, .mv, [(.t 1)], [2], some (7, true)⟩,
    ⟨some 9, .call [3], [(.c (D.fn 57 [])), (.t 8)], [3, 2, 2], some (7, true)⟩,
    ⟨some 10, .not, [(.t 9)], [4, 2], some (7, true)⟩,
    ⟨some 11, .pick, [(.t 7), (.t 10), (.c (D.bool false))], [2, 5], none⟩,
    ⟨some 12, .mv, [(.t 11)], [6, 4], none⟩,
    ⟨some 13, .mv, [(.t 0)], [7], some (12, false)⟩,
    ⟨some 14, .mv, [(.t 1)], [7], some (12, false)⟩,
    ⟨some 15, .bin .lss, [(.t 13), (.t 14)], [8, 9, 7], some (12, false)⟩,
    ⟨some 16, .pick, [(.t 12), (.c (D.bool true)), (.t 15)], [7, 10], none⟩,
    ⟨some 4, .mv, [(.t 16)], [11, 7, 0, 1, 2, 3, 4, 5, 6, 7, 8, 9, 10, 11], none⟩])
  (.ret))⟩

/- 59: slices.isNaN[uint32] -/
def c_slices_isNaN : DFun := ⟨6, 1, [.p], [.p ⟨false, [.bool]⟩], [.t 2],
  .seq (.region false [
    ⟨some 2, .mv, [(.c (D.bool false))], [], none⟩])
  (.seq (.region false [
    ⟨some 3, .mv, [(.t 0)], [], none⟩,
    ⟨some 4, .mv, [(.t 0)], [], none⟩,
    ⟨some 5, .bin .neq, [(.t 3), (.t 4)], [0, 1], none⟩,
    ⟨some 2, .mv, [(.t 5)], [2, 0, 1, 2], none⟩])
  (.ret))⟩

/- 55: slices.BinarySearch[[]uint32,uint32] -/
def c_slices_BinarySearch : DFun := ⟨54, 5, [.p, .p], [.p ⟨false, [.int .i64]⟩, .p ⟨false, [.bool]⟩], [.t 4, .t 5],
  .seq (.region false [
    ⟨some 4, .mv, [(.c (D.int .i64 0))], [], none⟩,
    ⟨some 5, .mv, [(.c (D.bool false))], [0], none⟩])
  (.seq (.region false [
    ⟨some 10, .mv, [(.t 0)], [], none⟩,
    ⟨some 11, .len, [(.t 10)], [0], none⟩,
    ⟨some 6, .mv, [(.t 11)], [1, 0, 1], none⟩])
  (.seq (.region false [
    ⟨some 12, .mv, [(.t 6)], [], none⟩,
    ⟨some 7, .mv, [(.c (D.int .i64 0))], [], none⟩,
    ⟨some 8, .mv, [(.t 12)], [0, 1, 0, 1], none⟩])
  (.seq (.block 0 (.loop ⟨[0, 1, 6], [(7, .p ⟨false, [.int .i64]⟩), (8, .p ⟨false, [.int .i64]⟩)], []⟩ (.seq (.seq (.region false [
    ⟨some 13, .mv, [(.t 7)], [], none⟩,
    ⟨some 14, .mv, [(.t 8)], [], none⟩,
    ⟨some 15, .bin .lss, [(.t 13), (.t 14)], [0, 1], none⟩])
  (.cond (.t 15) (.skip) (.exit 0)))
  (.block 1 (.seq (.region false [
    ⟨some 16, .mv, [(.t 7)], [], none⟩,
    ⟨some 17, .mv, [(.t 8)], [], none⟩,
    ⟨some 18, .bin .add, [(.t 16), (.t 17)], [0, 1], none⟩,
    ⟨some 19, .conv .u64, [(.t 18)], [2], none⟩,
    ⟨some 20, .bin .shr, [(.t 19), (.c (D.int .u64 1))], [3], none⟩,
    ⟨some 21, .conv .i64, [(.t 20)], [4], none⟩,
    ⟨some 9, .mv, [(.t 21)], [5, 0, 1, 2, 3, 4, 5], none⟩])
  (.seq (.region false [
    ⟨some 22, .mv, [(.t 0)], [], none⟩,
    ⟨some 23, .mv, [(.t 9)], [], none⟩,
    ⟨some 24, .idxA 23, [(.t 22), (.t 23)], [0, 1], none⟩,
    ⟨some 25, .load ⟨false, [.int .u32]⟩, [(.t 24)], [2], none⟩,
    ⟨some 26, .mv, [(.t 1)], [], none⟩,
    ⟨some 27, .call [2], [(.c (D.fn 58 [])), (.t 25), (.t 26)], [3, 4], none⟩])
  (.cond (.t 27) (.region false [
    ⟨some 28, .mv, [(.t 9)], [], none⟩,
    ⟨some 29, .bin .add, [(.t 28), (.c (D.int .i64 1))], [0], none⟩,
    ⟨some 7, .mv, [(.t 29)], [1, 0, 1], none⟩]) (.region false [
    ⟨some 30, .mv, [(.t 9)], [], none⟩,
    ⟨some 8, .mv, [(.t 30)], [0, 0], none⟩]))))))))
  (.seq (.region false [
    ⟨some 31, .mv, [(.t 7)], [], none⟩,
    ⟨some 32, .mv, [(.t 7)], [], none⟩,
    ⟨some 33, .mv, [(.t 6)], [], none⟩,
    ⟨some 34, .bin .lss, [(.t 32), (.t 33)], [1, 2], none⟩,
    ⟨some 35, .mv, [(.t 34)], [3], none⟩,
    ⟨some 36, .mv, [(.t 0)], [4], some (35, true)⟩,
    ⟨some 37, .mv, [(.t 7)], [4], some (35, true)⟩,
    ⟨some 38, .idxA 23, [(.t 36), (.t 37)], [5, 6, 4], some (35, true)⟩,
    ⟨some 39, .load ⟨false, [.int .u32]⟩, [(.t 38)], [7, 4], some (35, true)⟩,
    ⟨some 40, .mv, [(.t 1)], [4], some (35, true)⟩,
    ⟨some 41, .bin .eql, [(.t 39), (.t 40)], [8, 9, 4], some (35, true)⟩,
    ⟨some 42, .mv, [(.t 41)], [10, 4, 4], some (35, true)⟩,
    ⟨some 43, .mv, [(.t 0)], [11], some (42, false)⟩,
    ⟨some 44, .mv, [(.t 7)], [11], some (42, false)⟩,
    ⟨some 45, .idxA 23, [(.t 43), (.t 44)], [12, 13, 11], some (42, false)⟩,
    ⟨some 46, .load ⟨false, [.int .u32]⟩, [(.t 45)], [14, 11], some (42, false)⟩,
    ⟨some 47, .call [3], [(.c (D.fn 59 [])), (.t 46)], [15, 11, 11], some (42, false)⟩,
    ⟨some 48, .mv, [(.t 47)], [16, 16, 11], some (42, false)⟩,
    ⟨some 49, .mv, [(.t 1)], [17], some (48, true)⟩,
    ⟨some 50, .call [4], [(.c (D.fn 59 [])), (.t 49)], [18, 17, 17], some (48, true)⟩,
    ⟨some 51, .pick, [(.t 48), (.t 50), (.c (D.bool false))], [17, 19, 11], some (42, false)⟩,
    ⟨some 52, .pick, [(.t 42), (.c (D.bool true)), (.t 51)], [11, 20, 4], some (35, true)⟩,
    ⟨some 53, .pick, [(.t 35), (.t 52), (.c (D.bool false))], [4, 21], none⟩,
    ⟨some 4, .mv, [(.t 31)], [0, 19, 0], none⟩,
    ⟨some 5, .mv, [(.t 53)], [22, 23, 0, 1, 2, 3, 4, 5, 6, 7, 8, 9, 10, 11, 12, 13, 14, 15, 16, 17, 18, 19, 20, 21, 22, 23], none⟩])
  (.ret)))))⟩

/- 36: gatepath/leak.hop -/
def c_leak_hop : DFun := ⟨32, 7, [.p, .p, .p], [.p ⟨false, [.int .u8]⟩], [.t 6],
  .seq (.region false [
    ⟨some 6, .mv, [(.c (D.int .u8 0))], [], none⟩])
  (.seq (.region false [
    ⟨some 10, .mv, [(.t 0)], [], none⟩,
    ⟨some 11, .mv, [(.t 1)], [], none⟩,
    ⟨some 12, .call [3, 4], [(.c (D.fn 52 [])), (.t 10), (.t 11), (.c (D.fn 53 []))], [0, 1], none⟩,
    ⟨some 9, .mv, [(.t 12)], [2], none⟩,
    ⟨some 13, .ext 0, [(.t 9)], [3], none⟩,
    ⟨some 14, .ext 1, [(.t 9)], [3], none⟩,
    ⟨some 7, .mv, [(.t 13)], [4, 2, 0, 1, 2, 3, 4], none⟩,
    ⟨some 8, .mv, [(.t 14)], [5, 6, 0, 1, 2, 3, 4, 5, 6], none⟩])
  (.seq (.seq (.region false [
    ⟨some 15, .mv, [(.t 8)], [], none⟩,
    ⟨some 16, .not, [(.t 15)], [0], none⟩])
  (.cond (.t 16) (.seq (.region false [
    ⟨some 6, .mv, [(.c (D.int .u8 0))], [], none⟩])
  (.ret)) (.skip)))
  (.seq (.region false [
    ⟨some 18, .mv, [(.t 0)], [], none⟩,
    ⟨some 19, .mv, [(.t 7)], [], none⟩,
    ⟨some 20, .idxA 46, [(.t 18), (.t 19)], [0, 1], none⟩,
    ⟨some 21, .fld 1, [(.t 20)], [2], none⟩,
    ⟨some 22, .load ⟨false, [.sl 23]⟩, [(.t 21)], [3], none⟩,
    ⟨some 23, .mv, [(.t 2)], [], none⟩,
    ⟨some 24, .call [5, 6], [(.c (D.fn 55 [])), (.t 22), (.t 23)], [4, 5], none⟩,
    ⟨some 17, .mv, [(.t 24)], [6], none⟩,
    ⟨some 25, .ext 0, [(.t 17)], [7], none⟩,
    ⟨some 26, .ext 1, [(.t 17)], [7], none⟩,
    ⟨some 8, .mv, [(.t 26)], [9, 6, 0, 1, 2, 3, 4, 5, 6, 7, 8, 9], none⟩])
  (.seq (.seq (.region false [
    ⟨some 27, .mv, [(.t 8)], [], none⟩,
    ⟨some 28, .mv, [(.t 27)], [0], none⟩,
    ⟨some 29, .mv, [(.t 2)], [1], some (28, true)⟩,
    ⟨some 30, .bin .neq, [(.t 29), (.c (D.int .u32 0))], [2, 1], some (28, true)⟩,
    ⟨some 31, .pick, [(.t 28), (.t 30), (.c (D.bool false))], [1, 3], none⟩])
  (.cond (.t 31) (.seq (.region false [
    ⟨some 6, .mv, [(.c (D.int .u8 1))], [], none⟩])
  (.ret)) (.skip)))
  (.seq (.region false [
    ⟨some 6, .mv, [(.c (D.int .u8 2))], [], none⟩])
  (.ret))))))⟩

/- 12: gatepath/leak.Hop -/
def c_leak_Hop : DFun := ⟨18, 5, [.p, .p, .p], [.p ⟨false, [.int .u8]⟩, .p ⟨false, [.int .i64]⟩], [.t 6, .t 7],
  .seq (.region false [
    ⟨some 6, .mv, [(.c (D.int .u8 0))], [], none⟩,
    ⟨some 7, .mv, [(.c (D.int .i64 0))], [0], none⟩])
  (.seq (.region false [
    ⟨some 9, .mv, [(.t 0)], [], none⟩,
    ⟨some 10, .call [3], [(.c (D.fn 15 [])), (.t 9)], [0], none⟩,
    ⟨some 8, .mv, [(.t 10)], [1, 1, 0, 1], none⟩])
  (.seq (.seq (.region false [
    ⟨some 11, .mv, [(.t 8)], [], none⟩,
    ⟨some 12, .bin .neq, [(.t 11), (.c (D.int .i64 0))], [0], none⟩])
  (.cond (.t 12) (.seq (.region false [
    ⟨some 13, .mv, [(.t 8)], [], none⟩,
    ⟨some 6, .mv, [(.c (D.int .u8 0))], [], none⟩,
    ⟨some 7, .mv, [(.t 13)], [0, 1, 0, 1], none⟩])
  (.ret)) (.skip)))
  (.seq (.region false [
    ⟨some 14, .mv, [(.t 0)], [], none⟩,
    ⟨some 15, .mv, [(.t 1)], [], none⟩,
    ⟨some 16, .mv, [(.t 2)], [], none⟩,
    ⟨some 17, .call [4], [(.c (D.fn 36 [])), (.t 14), (.t 15), (.t 16)], [0, 1, 2], none⟩,
    ⟨some 6, .mv, [(.t 17)], [3, 3, 0, 1, 2, 3], none⟩,
    ⟨some 7, .mv, [(.c (D.int .i64 0))], [4, 0, 1, 2, 3, 4], none⟩])
  (.ret))))⟩

/- 16: gatepath/gatepathref41.Check -/
def c_gatepathref41_Check : DFun := ⟨71, 1, [.p], [.p ⟨false, [.int .i64]⟩], [.t 2],
  .seq (.region false [
    ⟨some 2, .mv, [(.c (D.int .i64 0))], [], none⟩])
  (.seq (.seq (.region false [
    ⟨some 7, .mv, [(.t 0)], [], none⟩,
    ⟨some 8, .len, [(.t 7)], [0], none⟩,
    ⟨some 9, .bin .gtr, [(.t 8), (.c (D.int .i64 300))], [1], none⟩])
  (.cond (.t 9) (.seq (.region false [
    ⟨some 2, .mv, [(.c (D.int .i64 4))], [], none⟩])
  (.ret)) (.skip)))
  (.seq (.seq (.region false [
    ⟨some 3, .mv, [(.c (D.int .i64 0))], [], none⟩])
  (.block 0 (.loop ⟨[0], [(3, .p ⟨false, [.int .i64]⟩)], []⟩ (.seq (.seq (.region false [
    ⟨some 10, .mv, [(.t 3)], [], none⟩,
    ⟨some 11, .mv, [(.t 0)], [], none⟩,
    ⟨some 12, .len, [(.t 11)], [1], none⟩,
    ⟨some 13, .bin .lss, [(.t 10), (.t 12)], [0, 2], none⟩])
  (.cond (.t 13) (.skip) (.exit 0)))
  (.seq (.block 1 (.seq (.region false [
    ⟨some 16, .mv, [(.t 0)], [], none⟩,
    ⟨some 17, .mv, [(.t 3)], [], none⟩,
    ⟨some 18, .idxA 46, [(.t 16), (.t 17)], [0, 1], none⟩,
    ⟨some 19, .fld 1, [(.t 18)], [2], none⟩,
    ⟨some 20, .load ⟨false, [.sl 23]⟩, [(.t 19)], [3], none⟩,
    ⟨some 21, .len, [(.t 20)], [4], none⟩,
    ⟨some 22, .bin .gtr, [(.t 21), (.c (D.int .i64 50))], [5], none⟩])
  (.cond (.t 22) (.seq (.region false [
    ⟨some 2, .mv, [(.c (D.int .i64 4))], [], none⟩])
  (.ret)) (.skip))))
  (.region false [
    ⟨some 14, .mv, [(.t 3)], [], none⟩,
    ⟨some 15, .bin .add, [(.t 14), (.c (D.int .i64 1))], [0], none⟩,
    ⟨some 3, .mv, [(.t 15)], [1, 0, 1], none⟩]))))))
  (.seq (.seq (.region false [
    ⟨some 4, .mv, [(.c (D.int .i64 0))], [], none⟩])
  (.block 2 (.loop ⟨[0], [(4, .p ⟨false, [.int .i64]⟩)], []⟩ (.seq (.seq (.region false [
    ⟨some 23, .mv, [(.t 4)], [], none⟩,
    ⟨some 24, .mv, [(.t 0)], [], none⟩,
    ⟨some 25, .len, [(.t 24)], [1], none⟩,
    ⟨some 26, .bin .lss, [(.t 23), (.t 25)], [0, 2], none⟩])
  (.cond (.t 26) (.skip) (.exit 2)))
  (.seq (.block 3 (.seq (.region false [
    ⟨some 29, .mv, [(.t 0)], [], none⟩,
    ⟨some 30, .mv, [(.t 4)], [], none⟩,
    ⟨some 31, .idxA 46, [(.t 29), (.t 30)], [0, 1], none⟩,
    ⟨some 32, .fld 1, [(.t 31)], [2], none⟩,
    ⟨some 33, .load ⟨false, [.sl 23]⟩, [(.t 32)], [3], none⟩,
    ⟨some 5, .mv, [(.t 33)], [4, 0, 1, 2, 3, 4], none⟩])
  (.seq (.seq (.region true [
    ⟨some 34, .mv, [(.t 5)], [], none⟩,
    ⟨some 35, .len, [(.t 34)], [0], none⟩,
    ⟨some 36, .bin .lss, [(.t 35), (.c (D.int .i64 1))], [1], none⟩,
    ⟨some 37, .mv, [(.t 36)], [2], none⟩,
    ⟨some 38, .mv, [(.t 4)], [3], some (37, false)⟩,
    ⟨some 39, .bin .gtr, [(.t 38), (.c (D.int .i64 0))], [4, 3], some (37, false)⟩,
    ⟨some 40, .mv, [(.t 39)], [5, 3, 3], some (37, false)⟩,
    ⟨some 41, .mv, [(.t 0)], [6], some (40, true)⟩,
    ⟨some 42, .mv, [(.t 4)], [6], some (40, true)⟩,
    ⟨some 43, .idxA 46, [(.t 41), (.t 42)], [7, 8, 6], some (40, true)⟩,
    ⟨some 44, .fld 0, [(.t 43)], [9, 6], some (40, true)⟩,
    ⟨some 45, .load ⟨false, [.int .u32]⟩, [(.t 44)], [10, 6], some (40, true)⟩,
    ⟨some 46, .mv, [(.t 0)], [6], some (40, true)⟩,
    ⟨some 47, .mv, [(.t 4)], [6], some (40, true)⟩,
    ⟨some 48, .bin .sub, [(.t 47), (.c (D.int .i64 1))], [13, 6], some (40, true)⟩,
    ⟨some 49, .idxA 46, [(.t 46), (.t 48)], [12, 14, 6], some (40, true)⟩,
    ⟨some 50, .fld 0, [(.t 49)], [15, 6], some (40, true)⟩,
    ⟨some 51, .load ⟨false, [.int .u32]⟩, [(.t 50)], [16, 6], some (40, true)⟩,
    ⟨some 52, .bin .leq, [(.t 45), (.t 51)], [11, 17, 6], some (40, true)⟩,
    ⟨some 53, .pick, [(.t 40), (.t 52), (.c (D.bool false))], [6, 18, 3], some (37, false)⟩,
    ⟨some 54, .pick, [(.t 37), (.c (D.bool true)), (.t 53)], [3, 19], none⟩])
  (.cond (.t 54) (.seq (.region false [
    ⟨some 2, .mv, [(.c (D.int .i64 8))], [], none⟩])
  (.ret)) (.skip)))
  (.seq (.region false [
    ⟨some 6, .mv, [(.c (D.int .i64 1))], [], none⟩])
  (.block 4 (.loop ⟨[0, 4, 5], [(6, .p ⟨false, [.int .i64]⟩)], []⟩ (.seq (.seq (.region false [
    ⟨some 55, .mv, [(.t 6)], [], none⟩,
    ⟨some 56, .mv, [(.t 5)], [], none⟩,
    ⟨some 57, .len, [(.t 56)], [1], none⟩,
    ⟨some 58, .bin .lss, [(.t 55), (.t 57)], [0, 2], none⟩])
  (.cond (.t 58) (.skip) (.exit 4)))
  (.seq (.block 5 (.seq (.region true [
    ⟨some 61, .mv, [(.t 5)], [], none⟩,
    ⟨some 62, .mv, [(.t 6)], [], none⟩,
    ⟨some 63, .idxA 23, [(.t 61), (.t 62)], [0, 1], none⟩,
    ⟨some 64, .load ⟨false, [.int .u32]⟩, [(.t 63)], [2], none⟩,
    ⟨some 65, .mv, [(.t 5)], [], none⟩,
    ⟨some 66, .mv, [(.t 6)], [], none⟩,
    ⟨some 67, .bin .sub, [(.t 66), (.c (D.int .i64 1))], [5], none⟩,
    ⟨some 68, .idxA 23, [(.t 65), (.t 67)], [4, 6], none⟩,
    ⟨some 69, .load ⟨false, [.int .u32]⟩, [(.t 68)], [7], none⟩,
    ⟨some 70, .bin .leq, [(.t 64), (.t 69)], [3, 8], none⟩])
  (.cond (.t 70) (.seq (.region false [
    ⟨some 2, .mv, [(.c (D.int .i64 8))], [], none⟩])
  (.ret)) (.skip))))
  (.region false [
    ⟨some 59, .mv, [(.t 6)], [], none⟩,
    ⟨some 60, .bin .add, [(.t 59), (.c (D.int .i64 1))], [0], none⟩,
    ⟨some 6, .mv, [(.t 60)], [1, 0, 1], none⟩])))))))))
  (.region false [
    ⟨some 27, .mv, [(.t 4)], [], none⟩,
    ⟨some 28, .bin .add, [(.t 27), (.c (D.int .i64 1))], [0], none⟩,
    ⟨some 4, .mv, [(.t 28)], [1, 0, 1], none⟩]))))))
  (.seq (.region false [
    ⟨some 2, .mv, [(.c (D.int .i64 0))], [], none⟩])
  (.ret)))))⟩

/- 37: gatepath/gatepathref41.Known -/
def c_gatepathref41_Known : DFun := ⟨46, 3, [.p, .p, .p], [.p ⟨false, [.int .u8]⟩], [.t 6],
  .seq (.region false [
    ⟨some 6, .mv, [(.c (D.int .u8 0))], [], none⟩])
  (.seq (.seq (.region false [
    ⟨some 7, .mv, [(.c (D.int .i64 0))], [], none⟩])
  (.block 0 (.loop ⟨[0, 1, 2], [(7, .p ⟨false, [.int .i64]⟩)], []⟩ (.seq (.seq (.region false [
    ⟨some 9, .mv, [(.t 7)], [], none⟩,
    ⟨some 10, .mv, [(.t 0)], [], none⟩,
    ⟨some 11, .len, [(.t 10)], [1], none⟩,
    ⟨some 12, .bin .lss, [(.t 9), (.t 11)], [0, 2], none⟩])
  (.cond (.t 12) (.skip) (.exit 0)))
  (.seq (.block 1 (.seq (.seq (.region false [
    ⟨some 15, .mv, [(.t 0)], [], none⟩,
    ⟨some 16, .mv, [(.t 7)], [], none⟩,
    ⟨some 17, .idxA 46, [(.t 15), (.t 16)], [0, 1], none⟩,
    ⟨some 18, .fld 0, [(.t 17)], [2], none⟩,
    ⟨some 19, .load ⟨false, [.int .u32]⟩, [(.t 18)], [3], none⟩,
    ⟨some 20, .mv, [(.t 1)], [], none⟩,
    ⟨some 21, .bin .neq, [(.t 19), (.t 20)], [4, 5], none⟩])
  (.cond (.t 21) (.exit 1) (.skip)))
  (.seq (.seq (.region false [
    ⟨some 8, .mv, [(.c (D.int .i64 0))], [], none⟩])
  (.block 2 (.loop ⟨[0, 2, 7], [(8, .p ⟨false, [.int .i64]⟩)], []⟩ (.seq (.seq (.region false [
    ⟨some 22, .mv, [(.t 8)], [], none⟩,
    ⟨some 23, .mv, [(.t 0)], [], none⟩,
    ⟨some 24, .mv, [(.t 7)], [], none⟩,
    ⟨some 25, .idxA 46, [(.t 23), (.t 24)], [1, 2], none⟩,
    ⟨some 26, .fld 1, [(.t 25)], [3], none⟩,
    ⟨some 27, .load ⟨false, [.sl 23]⟩, [(.t 26)], [4], none⟩,
    ⟨some 28, .len, [(.t 27)], [5], none⟩,
    ⟨some 29, .bin .lss, [(.t 22), (.t 28)], [0, 6], none⟩])
  (.cond (.t 29) (.skip) (.exit 2)))
  (.seq (.block 3 (.seq (.region false [
    ⟨some 32, .mv, [(.t 0)], [], none⟩,
    ⟨some 33, .mv, [(.t 7)], [], none⟩,
    ⟨some 34, .idxA 46, [(.t 32), (.t 33)], [0, 1], none⟩,
    ⟨some 35, .fld 1, [(.t 34)], [2], none⟩,
    ⟨some 36, .load ⟨false, [.sl 23]⟩, [(.t 35)], [3], none⟩,
    ⟨some 37, .mv, [(.t 8)], [], none⟩,
    ⟨some 38, .idxA 23, [(.t 36), (.t 37)], [4, 5], none⟩,
    ⟨some 39, .load ⟨false, [.int .u32]⟩, [(.t 38)], [6], none⟩,
    ⟨some 40, .mv, [(.t 2)], [], none⟩,
    ⟨some 41, .bin .eql, [(.t 39), (.t 40)], [7, 8], none⟩,
    ⟨some 42, .mv, [(.t 41)], [9], none⟩,
    ⟨some 43, .mv, [(.t 2)], [10], some (42, true)⟩,
    ⟨some 44, .bin .neq, [(.t 43), (.c (D.int .u32 0))], [11, 10], some (42, true)⟩,
    ⟨some 45, .pick, [(.t 42), (.t 44), (.c (D.bool false))], [10, 12], none⟩])
  (.cond (.t 45) (.seq (.region false [
    ⟨some 6, .mv, [(.c (D.int .u8 1))], [], none⟩])
  (.ret)) (.skip))))
  (.region false [
    ⟨some 30, .mv, [(.t 8)], [], none⟩,
    ⟨some 31, .bin .add, [(.t 30), (.c (D.int .i64 1))], [0], none⟩,
    ⟨some 8, .mv, [(.t 31)], [1, 0, 1], none⟩]))))))
  (.seq (.region false [
    ⟨some 6, .mv, [(.c (D.int .u8 2))], [], none⟩])
  (.ret)))))
  (.region false [
    ⟨some 13, .mv, [(.t 7)], [], none⟩,
    ⟨some 14, .bin .add, [(.t 13), (.c (D.int .i64 1))], [0], none⟩,
    ⟨some 7, .mv, [(.t 14)], [1, 0, 1], none⟩]))))))
  (.seq (.region false [
    ⟨some 6, .mv, [(.c (D.int .u8 0))], [], none⟩])
  (.ret)))⟩

/- 13: gatepath/gatepathref41.Hop -/
def c_gatepathref41_Hop : DFun := ⟨18, 5, [.p, .p, .p], [.p ⟨false, [.int .u8]⟩, .p ⟨false, [.int .i64]⟩], [.t 6, .t 7],
  .seq (.region false [
    ⟨some 6, .mv, [(.c (D.int .u8 0))], [], none⟩,
    ⟨some 7, .mv, [(.c (D.int .i64 0))], [0], none⟩])
  (.seq (.region false [
    ⟨some 9, .mv, [(.t 0)], [], none⟩,
    ⟨some 10, .call [3], [(.c (D.fn 16 [])), (.t 9)], [0], none⟩,
    ⟨some 8, .mv, [(.t 10)], [1, 1, 0, 1], none⟩])
  (.seq (.seq (.region false [
    ⟨some 11, .mv, [(.t 8)], [], none⟩,
    ⟨some 12, .bin .neq, [(.t 11), (.c (D.int .i64 0))], [0], none⟩])
  (.cond (.t 12) (.seq (.region false [
    ⟨some 13, .mv, [(.t 8)], [], none⟩,
    ⟨some 6, .mv, [(.c (D.int .u8 0))], [], none⟩,
    ⟨some 7, .mv, [(.t 13)], [0, 1, 0, 1], none⟩])
  (.ret)) (.skip)))
  (.seq (.region false [
    ⟨some 14, .mv, [(.t 0)], [], none⟩,
    ⟨some 15, .mv, [(.t 1)], [], none⟩,
    ⟨some 16, .mv, [(.t 2)], [], none⟩,
    ⟨some 17, .call [4], [(.c (D.fn 37 [])), (.t 14), (.t 15), (.t 16)], [0, 1, 2], none⟩,
    ⟨some 6, .mv, [(.t 17)], [3, 3, 0, 1, 2, 3], none⟩,
    ⟨some 7, .mv, [(.c (D.int .i64 0))], [4, 0, 1, 2, 3, 4], none⟩])
  (.ret))))⟩

/- 38: slices.Compact[[]uint32,uint32] -/
def c_slices_Compact : DFun := ⟨61, 1, [.g 23], [.o 23], [.t 2],
  .seq (.region false [
    ⟨some 2, .mv, [(.c (D.zs 23 true))], [], none⟩])
  (.seq (.seq (.region false [
    ⟨some 6, .mv, [(.t 0)], [], none⟩,
    ⟨some 7, .len, [(.t 6)], [0], none⟩,
    ⟨some 8, .bin .lss, [(.t 7), (.c (D.int .i64 2))], [1], none⟩])
  (.cond (.t 8) (.seq (.region false [
    ⟨some 9, .mv, [(.t 0)], [], none⟩,
    ⟨some 2, .mv, [(.t 9)], [0, 0], none⟩])
  (.ret)) (.skip)))
  (.seq (.seq (.region false [
    ⟨some 3, .mv, [(.c (D.int .i64 1))], [], none⟩])
  (.block 0 (.loop ⟨[0], [(3, .p ⟨false, [.int .i64]⟩)], [(0, .a 23)]⟩ (.seq (.seq (.region false [
    ⟨some 10, .mv, [(.t 3)], [], none⟩,
    ⟨some 11, .mv, [(.t 0)], [], none⟩,
    ⟨some 12, .len, [(.t 11)], [1], none⟩,
    ⟨some 13, .bin .lss, [(.t 10), (.t 12)], [0, 2], none⟩])
  (.cond (.t 13) (.skip) (.exit 0)))
  (.seq (.block 1 (.seq (.region true [
    ⟨some 16, .mv, [(.t 0)], [], none⟩,
    ⟨some 17, .mv, [(.t 3)], [], none⟩,
    ⟨some 18, .idxA 23, [(.t 16), (.t 17)], [0, 1], none⟩,
    ⟨some 19, .load ⟨false, [.int .u32]⟩, [(.t 18)], [2], none⟩,
    ⟨some 20, .mv, [(.t 0)], [], none⟩,
    ⟨some 21, .mv, [(.t 3)], [], none⟩,
    ⟨some 22, .bin .sub, [(.t 21), (.c (D.int .i64 1))], [5], none⟩,
    ⟨some 23, .idxA 23, [(.t 20), (.t 22)], [4, 6], none⟩,
    ⟨some 24, .load ⟨false, [.int .u32]⟩, [(.t 23)], [7], none⟩,
    ⟨some 25, .bin .eql, [(.t 19), (.t 24)], [3, 8], none⟩])
  (.cond (.t 25) (.seq (.region false [
    ⟨some 26, .mv, [(.t 0)], [], none⟩,
    ⟨some 27, .mv, [(.t 3)], [], none⟩,
    ⟨some 28, .slice (some 23) true false false, [(.t 26), (.t 27)], [0, 1], none⟩,
    ⟨some 4, .mv, [(.t 28)], [2, 0, 1, 2], none⟩])
  (.seq (.seq (.region false [
    ⟨some 5, .mv, [(.c (D.int .i64 1))], [], none⟩])
  (.block 2 (.loop ⟨[0, 4], [(3, .p ⟨false, [.int .i64]⟩), (5, .p ⟨false, [.int .i64]⟩)], [(0, .a 23)]⟩ (.seq (.seq (.region false [
    ⟨some 29, .mv, [(.t 5)], [], none⟩,
    ⟨some 30, .mv, [(.t 4)], [], none⟩,
    ⟨some 31, .len, [(.t 30)], [1], none⟩,
    ⟨some 32, .bin .lss, [(.t 29), (.t 31)], [0, 2], none⟩])
  (.cond (.t 32) (.skip) (.exit 2)))
  (.seq (.block 3 (.seq (.region true [
    ⟨some 35, .mv, [(.t 4)], [], none⟩,
    ⟨some 36, .mv, [(.t 5)], [], none⟩,
    ⟨some 37, .idxA 23, [(.t 35), (.t 36)], [0, 1], none⟩,
    ⟨some 38, .load ⟨false, [.int .u32]⟩, [(.t 37)], [2], none⟩,
    ⟨some 39, .mv, [(.t 4)], [], none⟩,
    ⟨some 40, .mv, [(.t 5)], [], none⟩,
    ⟨some 41, .bin .sub, [(.t 40), (.c (D.int .i64 1))], [5], none⟩,
    ⟨some 42, .idxA 23, [(.t 39), (.t 41)], [4, 6], none⟩,
    ⟨some 43, .load ⟨false, [.int .u32]⟩, [(.t 42)], [7], none⟩,
    ⟨some 44, .bin .neq, [(.t 38), (.t 43)], [3, 8], none⟩])
  (.cond (.t 44) (.seq (.region false [
    ⟨some 45, .mv, [(.t 0)], [], none⟩,
    ⟨some 46, .mv, [(.t 3)], [], none⟩,
    ⟨some 47, .mv, [(.t 4)], [], none⟩,
    ⟨some 48, .mv, [(.t 5)], [], none⟩,
    ⟨some 49, .idxA 23, [(.t 47), (.t 48)], [2, 3], none⟩,
    ⟨some 50, .load ⟨false, [.int .u32]⟩, [(.t 49)], [4], none⟩,
    ⟨some 51, .idxA 23, [(.t 45), (.t 46)], [0, 1, 0, 1, 2, 3, 4, 5], none⟩,
    ⟨none, .store ⟨false, [.int .u32]⟩, [(.t 51), (.t 50)], [6, 5, 0, 1, 2, 3, 4, 5], none⟩])
  (.region false [
    ⟨some 52, .mv, [(.t 3)], [], none⟩,
    ⟨some 53, .bin .add, [(.t 52), (.c (D.int .i64 1))], [0], none⟩,
    ⟨some 3, .mv, [(.t 53)], [1, 0, 1], none⟩])) (.skip))))
  (.region false [
    ⟨some 33, .mv, [(.t 5)], [], none⟩,
    ⟨some 34, .bin .add, [(.t 33), (.c (D.int .i64 1))], [0], none⟩,
    ⟨some 5, .mv, [(.t 34)], [1, 0, 1], none⟩]))))))
  (.seq (.region false [
    ⟨some 54, .mv, [(.t 0)], [], none⟩,
    ⟨some 55, .mv, [(.t 3)], [], none⟩,
    ⟨some 56, .slice (some 23) true false false, [(.t 54), (.t 55)], [0, 1], none⟩,
    ⟨none, .clear 23 (D.int .u32 0), [(.t 56)], [2], none⟩])
  (.seq (.region false [
    ⟨some 57, .mv, [(.t 0)], [], none⟩,
    ⟨some 58, .mv, [(.t 3)], [], none⟩,
    ⟨some 59, .slice (some 23) false true false, [(.t 57), (.t 58)], [0, 1], none⟩,
    ⟨some 2, .mv, [(.t 59)], [2, 0, 1, 2], none⟩])
  (.ret))))) (.skip))))
  (.region false [
    ⟨some 14, .mv, [(.t 3)], [], none⟩,
    ⟨some 15, .bin .add, [(.t 14), (.c (D.int .i64 1))], [0], none⟩,
    ⟨some 3, .mv, [(.t 15)], [1, 0, 1], none⟩]))))))
  (.seq (.region false [
    ⟨some 60, .mv, [(.t 0)], [], none⟩,
    ⟨some 2, .mv, [(.t 60)], [0, 0], none⟩])
  (.ret))))⟩

/- 39: slices.Clone[[]uint32,uint32] -/
def c_slices_Clone : DFun := ⟨8, 3, [.p], [.o 23], [.t 2],
  .seq (.region false [
    ⟨some 2, .mv, [(.c (D.zs 23 true))], [], none⟩])
  (.seq (.seq (.region false [
    ⟨some 3, .mv, [(.t 0)], [], none⟩,
    ⟨some 4, .eqnil false, [(.t 3)], [0], none⟩])
  (.cond (.t 4) (.seq (.region false [
    ⟨some 2, .mv, [(.c (D.zs 23 true))], [], none⟩])
  (.ret)) (.skip)))
  (.seq (.region false [
    ⟨some 5, .buildSl 1 23, [], [], none⟩,
    ⟨some 6, .mv, [(.t 0)], [], none⟩,
    ⟨some 7, .append 2 23 4, [(.t 5), (.t 6)], [0, 1], none⟩,
    ⟨some 2, .mv, [(.t 7)], [2, 2, 0, 1, 2], none⟩])
  (.ret)))⟩

/- 14: gatepath/leak.Squeeze -/
def c_leak_Squeeze : DFun := ⟨6, 3, [.p], [.o 23], [.t 2],
  .seq (.region false [
    ⟨some 2, .mv, [(.c (D.zs 23 true))], [], none⟩])
  (.seq (.region false [
    ⟨some 3, .mv, [(.t 0)], [], none⟩,
    ⟨some 4, .call [1], [(.c (D.fn 39 [])), (.t 3)], [0], none⟩,
    ⟨some 5, .call [2], [(.c (D.fn 38 [])), (.t 4)], [1, 1], none⟩,
    ⟨some 2, .mv, [(.t 5)], [2, 2, 0, 1, 2], none⟩])
  (.ret))⟩

/- 17: gatepath/gatepathref41.SameSystems -/
def c_gatepathref41_SameSystems : DFun := ⟨26, 2, [.p, .p], [.p ⟨false, [.bool]⟩], [.t 4],
  .seq (.region false [
    ⟨some 4, .mv, [(.c (D.bool false))], [], none⟩])
  (.seq (.seq (.region false [
    ⟨some 6, .mv, [(.t 0)], [], none⟩,
    ⟨some 7, .len, [(.t 6)], [0], none⟩,
    ⟨some 8, .mv, [(.t 1)], [], none⟩,
    ⟨some 9, .len, [(.t 8)], [2], none⟩,
    ⟨some 10, .bin .neq, [(.t 7), (.t 9)], [1, 3], none⟩])
  (.cond (.t 10) (.seq (.region false [
    ⟨some 4, .mv, [(.c (D.bool false))], [], none⟩])
  (.ret)) (.skip)))
  (.seq (.seq (.region false [
    ⟨some 5, .mv, [(.c (D.int .i64 0))], [], none⟩])
  (.block 0 (.loop ⟨[0, 1], [(5, .p ⟨false, [.int .i64]⟩)], []⟩ (.seq (.seq (.region false [
    ⟨some 11, .mv, [(.t 5)], [], none⟩,
    ⟨some 12, .mv, [(.t 0)], [], none⟩,
    ⟨some 13, .len, [(.t 12)], [1], none⟩,
    ⟨some 14, .bin .lss, [(.t 11), (.t 13)], [0, 2], none⟩])
  (.cond (.t 14) (.skip) (.exit 0)))
  (.seq (.block 1 (.seq (.region true [
    ⟨some 17, .mv, [(.t 0)], [], none⟩,
    ⟨some 18, .mv, [(.t 5)], [], none⟩,
    ⟨some 19, .idxA 23, [(.t 17), (.t 18)], [0, 1], none⟩,
    ⟨some 20, .load ⟨false, [.int .u32]⟩, [(.t 19)], [2], none⟩,
    ⟨some 21, .mv, [(.t 1)], [], none⟩,
    ⟨some 22, .mv, [(.t 5)], [], none⟩,
    ⟨some 23, .idxA 23, [(.t 21), (.t 22)], [4, 5], none⟩,
    ⟨some 24, .load ⟨false, [.int .u32]⟩, [(.t 23)], [6], none⟩,
    ⟨some 25, .bin .neq, [(.t 20), (.t 24)], [3, 7], none⟩])
  (.cond (.t 25) (.seq (.region false [
    ⟨some 4, .mv, [(.c (D.bool false))], [], none⟩])
  (.ret)) (.skip))))
  (.region false [
    ⟨some 15, .mv, [(.t 5)], [], none⟩,
    ⟨some 16, .bin .add, [(.t 15), (.c (D.int .i64 1))], [0], none⟩,
    ⟨some 5, .mv, [(.t 16)], [1, 0, 1], none⟩]))))))
  (.seq (.region false [
    ⟨some 4, .mv, [(.c (D.bool true))], [], none⟩])
  (.ret))))⟩

/- 18: gatepath/gatepathref41.Squeeze -/
def c_gatepathref41_Squeeze : DFun := ⟨33, 4, [.p], [.o 23], [.t 2],
  .seq (.region false [
    ⟨some 2, .mv, [(.c (D.zs 23 true))], [], none⟩])
  (.seq (.region false [
    ⟨some 3, .mv, [(.c (D.zs 23 true))], [], none⟩])
  (.seq (.seq (.region false [
    ⟨some 4, .mv, [(.c (D.int .i64 0))], [], none⟩])
  (.block 0 (.loop ⟨[0], [(3, .o 3 23), (4, .p ⟨false, [.int .i64]⟩)], []⟩ (.seq (.seq (.region false [
    ⟨some 5, .mv, [(.t 4)], [], none⟩,
    ⟨some 6, .mv, [(.t 0)], [], none⟩,
    ⟨some 7, .len, [(.t 6)], [1], none⟩,
    ⟨some 8, .bin .lss, [(.t 5), (.t 7)], [0, 2], none⟩])
  (.cond (.t 8) (.skip) (.exit 0)))
  (.seq (.block 1 (.seq (.region true [
    ⟨some 11, .mv, [(.t 4)], [], none⟩,
    ⟨some 12, .bin .eql, [(.t 11), (.c (D.int .i64 0))], [0], none⟩,
    ⟨some 13, .mv, [(.t 12)], [1], none⟩,
    ⟨some 14, .mv, [(.t 0)], [2], some (13, false)⟩,
    ⟨some 15, .mv, [(.t 4)], [2], some (13, false)⟩,
    ⟨some 16, .idxA 23, [(.t 14), (.t 15)], [3, 4, 2], some (13, false)⟩,
    ⟨some 17, .load ⟨false, [.int .u32]⟩, [(.t 16)], [5, 2], some (13, false)⟩,
    ⟨some 18, .mv, [(.t 0)], [2], some (13, false)⟩,
    ⟨some 19, .mv, [(.t 4)], [2], some (13, false)⟩,
    ⟨some 20, .bin .sub, [(.t 19), (.c (D.int .i64 1))], [8, 2], some (13, false)⟩,
    ⟨some 21, .idxA 23, [(.t 18), (.t 20)], [7, 9, 2], some (13, false)⟩,
    ⟨some 22, .load ⟨false, [.int .u32]⟩, [(.t 21)], [10, 2], some (13, false)⟩,
    ⟨some 23, .bin .neq, [(.t 17), (.t 22)], [6, 11, 2], some (13, false)⟩,
    ⟨some 24, .pick, [(.t 13), (.c (D.bool true)), (.t 23)], [2, 12], none⟩])
  (.cond (.t 24) (.region false [
    ⟨some 25, .mv, [(.t 3)], [], none⟩,
    ⟨some 26, .mv, [(.t 0)], [], none⟩,
    ⟨some 27, .mv, [(.t 4)], [], none⟩,
    ⟨some 28, .idxA 23, [(.t 26), (.t 27)], [1, 2], none⟩,
    ⟨some 29, .load ⟨false, [.int .u32]⟩, [(.t 28)], [3], none⟩,
    ⟨some 30, .buildSl 1 23, [(.t 29)], [4], none⟩,
    ⟨some 31, .append 2 23 4, [(.t 25), (.t 30)], [0, 5], none⟩,
    ⟨some 3, .mv, [(.t 31)], [6, 6, 0, 1, 2, 3, 4, 5, 6], none⟩]) (.skip))))
  (.region false [
    ⟨some 9, .mv, [(.t 4)], [], none⟩,
    ⟨some 10, .bin .add, [(.t 9), (.c (D.int .i64 1))], [0], none⟩,
    ⟨some 4, .mv, [(.t 10)], [1, 0, 1], none⟩]))))))
  (.seq (.region false [
    ⟨some 32, .mv, [(.t 3)], [], none⟩,
    ⟨some 2, .mv, [(.t 32)], [0, 0], none⟩])
  (.ret))))⟩

/- 3: gatepath/gatepathlaw41.LeakHops -/
def c_gatepathlaw41_LeakHops : DFun := ⟨82, 17, [.p, .p, .p, .p], [.p ⟨false, [.bool]⟩], [.t 8],
  .seq (.region false [
    ⟨some 8, .mv, [(.c (D.bool false))], [], none⟩])
  (.seq (.seq (.region false [
    ⟨some 17, .mv, [(.t 0)], [], none⟩,
    ⟨some 18, .call [6], [(.c (D.fn 11 [])), (.t 17)], [0], none⟩,
    ⟨some 19, .mv, [(.t 18)], [1, 1], none⟩,
    ⟨some 20, .mv, [(.t 3)], [2], some (19, false)⟩,
    ⟨some 21, .len, [(.t 20)], [3, 2], some (19, false)⟩,
    ⟨some 22, .bin .gtr, [(.t 21), (.c (D.int .i64 100))], [4, 2], some (19, false)⟩,
    ⟨some 23, .pick, [(.t 19), (.c (D.bool true)), (.t 22)], [2, 5], none⟩])
  (.cond (.t 23) (.seq (.region false [
    ⟨some 8, .mv, [(.c (D.bool true))], [], none⟩])
  (.ret)) (.skip)))
  (.seq (.region false [
    ⟨some 24, .buildSl 4 23, [], [], none⟩,
    ⟨some 25, .mv, [(.t 3)], [], none⟩,
    ⟨some 26, .append 5 23 4, [(.t 24), (.t 25)], [0, 1], none⟩,
    ⟨some 9, .mv, [(.t 26)], [2, 2, 0, 1, 2], none⟩])
  (.seq (.region false [
    ⟨some 28, .mv, [(.t 0)], [], none⟩,
    ⟨some 29, .mv, [(.t 1)], [], none⟩,
    ⟨some 30, .mv, [(.t 2)], [], none⟩,
    ⟨some 31, .call [7, 8], [(.c (D.fn 12 [])), (.t 28), (.t 29), (.t 30)], [0, 1, 2], none⟩,
    ⟨some 27, .mv, [(.t 31)], [3], none⟩,
    ⟨some 32, .ext 0, [(.t 27)], [4], none⟩,
    ⟨some 33, .ext 1, [(.t 27)], [4], none⟩,
    ⟨some 10, .mv, [(.t 32)], [5, 3, 0, 1, 2, 3, 4, 5], none⟩,
    ⟨some 11, .mv, [(.t 33)], [6, 7, 0, 1, 2, 3, 4, 5, 6, 7], none⟩])
  (.seq (.region false [
    ⟨some 35, .mv, [(.t 0)], [], none⟩,
    ⟨some 36, .mv, [(.t 1)], [], none⟩,
    ⟨some 37, .mv, [(.t 2)], [], none⟩,
    ⟨some 38, .call [9, 10], [(.c (D.fn 13 [])), (.t 35), (.t 36), (.t 37)], [0, 1, 2], none⟩,
    ⟨some 34, .mv, [(.t 38)], [3], none⟩,
    ⟨some 39, .ext 0, [(.t 34)], [4], none⟩,
    ⟨some 40, .ext 1, [(.t 34)], [4], none⟩,
    ⟨some 12, .mv, [(.t 39)], [5, 3, 0, 1, 2, 3, 4, 5], none⟩,
    ⟨some 13, .mv, [(.t 40)], [6, 7, 0, 1, 2, 3, 4, 5, 6, 7], none⟩])
  (.seq (.region false [
    ⟨some 41, .mv, [(.t 3)], [], none⟩,
    ⟨some 42, .call [11], [(.c (D.fn 14 [])), (.t 41)], [0], none⟩,
    ⟨some 14, .mv, [(.t 42)], [1, 1, 0, 1], none⟩])
  (.seq (.region false [
    ⟨some 43, .mv, [(.t 10)], [], none⟩,
    ⟨some 44, .mv, [(.t 12)], [], none⟩,
    ⟨some 45, .bin .eql, [(.t 43), (.t 44)], [0, 1], none⟩,
    ⟨some 46, .mv, [(.t 45)], [2], none⟩,
    ⟨some 47, .mv, [(.t 11)], [3], some (46, true)⟩,
    ⟨some 48, .mv, [(.t 13)], [3], some (46, true)⟩,
    ⟨some 49, .bin .eql, [(.t 47), (.t 48)], [4, 5, 3], some (46, true)⟩,
    ⟨some 50, .pick, [(.t 46), (.t 49), (.c (D.bool false))], [3, 6], none⟩,
    ⟨some 51, .mv, [(.t 50)], [7, 3], none⟩,
    ⟨some 52, .mv, [(.t 0)], [8], some (51, true)⟩,
    ⟨some 53, .call [12], [(.c (D.fn 15 [])), (.t 52)], [9, 8, 8], some (51, true)⟩,
    ⟨some 54, .mv, [(.t 0)], [8], some (51, true)⟩,
    ⟨some 55, .call [13], [(.c (D.fn 16 [])), (.t 54)], [11, 10, 8], some (51, true)⟩,
    ⟨some 56, .bin .eql, [(.t 53), (.t 55)], [10, 12, 8], some (51, true)⟩,
    ⟨some 57, .pick, [(.t 51), (.t 56), (.c (D.bool false))], [8, 13], none⟩,
    ⟨some 58, .mv, [(.t 57)], [14, 12], none⟩,
    ⟨some 59, .mv, [(.t 14)], [15], some (58, true)⟩,
    ⟨some 60, .mv, [(.t 3)], [15], some (58, true)⟩,
    ⟨some 61, .call [14], [(.c (D.fn 18 [])), (.t 60)], [17, 15, 15], some (58, true)⟩,
    ⟨some 62, .call [15], [(.c (D.fn 17 [])), (.t 59), (.t 61)], [16, 18, 18, 15], some (58, true)⟩,
    ⟨some 63, .pick, [(.t 58), (.t 62), (.c (D.bool false))], [15, 19], none⟩,
    ⟨some 15, .mv, [(.t 63)], [20, 19, 0, 1, 2, 3, 4, 5, 6, 7, 8, 9, 10, 11, 12, 13, 14, 15, 16, 17, 18, 19, 20], none⟩])
  (.seq (.seq (.region false [
    ⟨some 16, .mv, [(.c (D.int .i64 0))], [], none⟩])
  (.block 0 (.loop ⟨[3, 9, 14, 15], [(16, .p ⟨false, [.int .i64]⟩)], [(5, .a 23), (11, .a 23)]⟩ (.seq (.seq (.region false [
    ⟨some 64, .mv, [(.t 16)], [], none⟩,
    ⟨some 65, .mv, [(.t 14)], [], none⟩,
    ⟨some 66, .len, [(.t 65)], [1], none⟩,
    ⟨some 67, .bin .lss, [(.t 64), (.t 66)], [0, 2], none⟩])
  (.cond (.t 67) (.skip) (.exit 0)))
  (.seq (.block 1 (.region false [
    ⟨some 70, .mv, [(.t 14)], [], none⟩,
    ⟨some 71, .mv, [(.t 16)], [], none⟩,
    ⟨some 72, .idxA 23, [(.t 70), (.t 71)], [0, 1], none⟩,
    ⟨some 73, .load ⟨false, [.int .u32]⟩, [(.t 72)], [2], none⟩,
    ⟨some 74, .bin .add, [(.t 73), (.c (D.int .u32 1))], [3], none⟩,
    ⟨some 75, .idxA 23, [(.t 70), (.t 71)], [0, 1, 0, 1, 2, 3, 4], none⟩,
    ⟨none, .store ⟨false, [.int .u32]⟩, [(.t 75), (.t 74)], [5, 4, 0, 1, 2, 3, 4], none⟩]))
  (.region false [
    ⟨some 68, .mv, [(.t 16)], [], none⟩,
    ⟨some 69, .bin .add, [(.t 68), (.c (D.int .i64 1))], [0], none⟩,
    ⟨some 16, .mv, [(.t 69)], [1, 0, 1], none⟩]))))))
  (.seq (.region false [
    ⟨some 76, .mv, [(.t 15)], [], none⟩,
    ⟨some 77, .mv, [(.t 76)], [0], none⟩,
    ⟨some 78, .mv, [(.t 3)], [1], some (77, true)⟩,
    ⟨some 79, .mv, [(.t 9)], [1], some (77, true)⟩,
    ⟨some 80, .call [16], [(.c (D.fn 17 [])), (.t 78), (.t 79)], [2, 3, 1, 1], some (77, true)⟩,
    ⟨some 81, .pick, [(.t 77), (.t 80), (.c (D.bool false))], [1, 4], none⟩,
    ⟨some 8, .mv, [(.t 81)], [5, 4, 0, 1, 2, 3, 4, 5], none⟩])
  (.ret)))))))))⟩

/- 19: gatepath/gatepathref41.Twin -/
def c_gatepathref41_Twin : DFun := ⟨28, 6, [.p], [.o 46], [.t 2],
  .seq (.region false [
    ⟨some 2, .mv, [(.c (D.zs 46 true))], [], none⟩])
  (.seq (.region false [
    ⟨some 3, .mv, [(.c (D.zs 46 true))], [], none⟩])
  (.seq (.seq (.region false [
    ⟨some 4, .mv, [(.c (D.int .i64 0))], [], none⟩])
  (.block 0 (.loop ⟨[0], [(3, .o 5 46), (4, .p ⟨false, [.int .i64]⟩)], []⟩ (.seq (.seq (.region false [
    ⟨some 5, .mv, [(.t 4)], [], none⟩,
    ⟨some 6, .mv, [(.t 0)], [], none⟩,
    ⟨some 7, .len, [(.t 6)], [1], none⟩,
    ⟨some 8, .bin .lss, [(.t 5), (.t 7)], [0, 2], none⟩])
  (.cond (.t 8) (.skip) (.exit 0)))
  (.seq (.block 1 (.region true [
    ⟨some 11, .mv, [(.t 3)], [], none⟩,
    ⟨some 12, .mv, [(.t 0)], [], none⟩,
    ⟨some 13, .mv, [(.t 4)], [], none⟩,
    ⟨some 14, .idxA 46, [(.t 12), (.t 13)], [1, 2], none⟩,
    ⟨some 15, .fld 0, [(.t 14)], [3], none⟩,
    ⟨some 16, .load ⟨false, [.int .u32]⟩, [(.t 15)], [4], none⟩,
    ⟨some 17, .buildSl 1 23, [], [], none⟩,
    ⟨some 18, .mv, [(.t 0)], [], none⟩,
    ⟨some 19, .mv, [(.t 4)], [], none⟩,
    ⟨some 20, .idxA 46, [(.t 18), (.t 19)], [7, 8], none⟩,
    ⟨some 21, .fld 1, [(.t 20)], [9], none⟩,
    ⟨some 22, .load ⟨false, [.sl 23]⟩, [(.t 21)], [10], none⟩,
    ⟨some 23, .append 2 23 4, [(.t 17), (.t 22)], [6, 11], none⟩,
    ⟨some 24, .build [(D.int .u32 0), (D.zs 23 true)] [(0, 1), (1, 1)], [(.t 16), (.t 23)], [5, 12], none⟩,
    ⟨some 25, .buildSl 3 46, [(.t 24)], [13], none⟩,
    ⟨some 26, .append 4 46 32, [(.t 11), (.t 25)], [0, 14, 12], none⟩,
    ⟨some 3, .mv, [(.t 26)], [15, 15, 0, 1, 2, 3, 4, 5, 6, 7, 8, 9, 10, 11, 12, 13, 14, 15], none⟩]))
  (.region false [
    ⟨some 9, .mv, [(.t 4)], [], none⟩,
    ⟨some 10, .bin .add, [(.t 9), (.c (D.int .i64 1))], [0], none⟩,
    ⟨some 4, .mv, [(.t 10)], [1, 0, 1], none⟩]))))))
  (.seq (.region false [
    ⟨some 27, .mv, [(.t 3)], [], none⟩,
    ⟨some 2, .mv, [(.t 27)], [0, 0], none⟩])
  (.ret))))⟩

/- 46: gatepath/leak.Ramps$1 -/
def c_leak_Ramps_1 : DFun := ⟨33, 5, [.p, .p, .p], [.p ⟨false, [.int .i64]⟩], [.t 5],
  .seq (.region false [
    ⟨some 5, .mv, [(.c (D.int .i64 0))], [], none⟩])
  (.seq (.region false [
    ⟨some 6, .mv, [(.c (D.int .i64 0))], [], none⟩])
  (.seq (.skip)
  (.seq (.block 0 (.loop ⟨[0, 1, 2], [(6, .p ⟨false, [.int .i64]⟩)], []⟩ (.seq (.seq (.region false [
    ⟨some 7, .mv, [(.t 6)], [], none⟩,
    ⟨some 8, .mv, [(.t 0)], [], none⟩,
    ⟨some 9, .len, [(.t 8)], [1], none⟩,
    ⟨some 10, .bin .lss, [(.t 7), (.t 9)], [0, 2], none⟩])
  (.cond (.t 10) (.skip) (.exit 0)))
  (.block 1 (.seq (.region false [
    ⟨some 11, .mv, [(.t 6)], [], none⟩,
    ⟨some 12, .bin .add, [(.t 11), (.c (D.int .i64 1))], [0], none⟩,
    ⟨some 6, .mv, [(.t 12)], [1, 0, 1], none⟩])
  (.seq (.region true [
    ⟨some 13, .mv, [(.t 6)], [], none⟩,
    ⟨some 14, .mv, [(.t 0)], [], none⟩,
    ⟨some 15, .len, [(.t 14)], [1], none⟩,
    ⟨some 16, .bin .lss, [(.t 13), (.t 15)], [0, 2], none⟩,
    ⟨some 17, .mv, [(.t 16)], [3], none⟩,
    ⟨some 18, .mv, [(.t 1)], [4], some (17, true)⟩,
    ⟨some 19, .load ⟨false, [.sl 46]⟩, [(.t 2)], [4], some (17, true)⟩,
    ⟨some 20, .mv, [(.t 0)], [4], some (17, true)⟩,
    ⟨some 21, .mv, [(.t 6)], [4], some (17, true)⟩,
    ⟨some 22, .bin .sub, [(.t 21), (.c (D.int .i64 1))], [8, 4], some (17, true)⟩,
    ⟨some 23, .idxA 23, [(.t 20), (.t 22)], [7, 9, 4], some (17, true)⟩,
    ⟨some 24, .load ⟨false, [.int .u32]⟩, [(.t 23)], [10, 4], some (17, true)⟩,
    ⟨some 25, .mv, [(.t 0)], [4], some (17, true)⟩,
    ⟨some 26, .mv, [(.t 6)], [4], some (17, true)⟩,
    ⟨some 27, .idxA 23, [(.t 25), (.t 26)], [12, 13, 4], some (17, true)⟩,
    ⟨some 28, .load ⟨false, [.int .u32]⟩, [(.t 27)], [14, 4], some (17, true)⟩,
    ⟨some 29, .call [3], [(.c (D.fn 36 [])), (.t 19), (.t 24), (.t 28)], [6, 11, 15, 4, 4], some (17, true)⟩,
    ⟨some 30, .call [4], [(.t 18), (.t 29)], [5, 16, 16, 4], some (17, true)⟩,
    ⟨some 31, .pick, [(.t 17), (.t 30), (.c (D.bool false))], [4, 17], none⟩])
  (.cond (.t 31) (.exit 0) (.skip))))))))
  (.seq (.region false [
    ⟨some 32, .mv, [(.t 6)], [], none⟩,
    ⟨some 5, .mv, [(.t 32)], [0, 0], none⟩])
  (.ret)))))⟩

/- 47: gatepath/leak.Ramps$2 -/
def c_leak_Ramps_2 : DFun := ⟨5, 1, [.p], [.p ⟨false, [.bool]⟩], [.t 2],
  .seq (.region false [
    ⟨some 2, .mv, [(.c (D.bool false))], [], none⟩])
  (.seq (.region false [
    ⟨some 3, .mv, [(.t 0)], [], none⟩,
    ⟨some 4, .bin .eql, [(.t 3), (.c (D.int .u8 2))], [0], none⟩,
    ⟨some 2, .mv, [(.t 4)], [1, 0, 1], none⟩])
  (.ret))⟩

/- 48: gatepath/leak.Ramps$3 -/
def c_leak_Ramps_3 : DFun := ⟨5, 1, [.p], [.p ⟨false, [.bool]⟩], [.t 2],
  .seq (.region false [
    ⟨some 2, .mv, [(.c (D.bool false))], [], none⟩])
  (.seq (.region false [
    ⟨some 3, .mv, [(.t 0)], [], none⟩,
    ⟨some 4, .bin .neq, [(.t 3), (.c (D.int .u8 1))], [0], none⟩,
    ⟨some 2, .mv, [(.t 4)], [1, 0, 1], none⟩])
  (.ret))⟩

/- 49: slices.Reverse[[]uint32,uint32] -/
def c_slices_Reverse : DFun := ⟨28, 1, [.m 23], [], [],
  .seq (.region false [
    ⟨some 4, .mv, [(.t 0)], [], none⟩,
    ⟨some 5, .len, [(.t 4)], [0], none⟩,
    ⟨some 6, .bin .sub, [(.t 5), (.c (D.int .i64 1))], [1], none⟩,
    ⟨some 2, .mv, [(.c (D.int .i64 0))], [], none⟩,
    ⟨some 3, .mv, [(.t 6)], [2, 3, 0, 1, 2, 3], none⟩])
  (.block 0 (.loop ⟨[0], [(2, .p ⟨false, [.int .i64]⟩), (3, .p ⟨false, [.int .i64]⟩)], [(0, .a 23)]⟩ (.seq (.seq (.region false [
    ⟨some 7, .mv, [(.t 2)], [], none⟩,
    ⟨some 8, .mv, [(.t 3)], [], none⟩,
    ⟨some 9, .bin .lss, [(.t 7), (.t 8)], [0, 1], none⟩])
  (.cond (.t 9) (.skip) (.exit 0)))
  (.seq (.block 1 (.region true [
    ⟨some 14, .mv, [(.t 0)], [], none⟩,
    ⟨some 15, .mv, [(.t 2)], [], none⟩,
    ⟨some 16, .mv, [(.t 0)], [], none⟩,
    ⟨some 17, .mv, [(.t 3)], [], none⟩,
    ⟨some 18, .mv, [(.t 0)], [], none⟩,
    ⟨some 19, .mv, [(.t 3)], [], none⟩,
    ⟨some 20, .idxA 23, [(.t 18), (.t 19)], [4, 5], none⟩,
    ⟨some 21, .load ⟨false, [.int .u32]⟩, [(.t 20)], [6], none⟩,
    ⟨some 22, .mv, [(.t 0)], [], none⟩,
    ⟨some 23, .mv, [(.t 2)], [], none⟩,
    ⟨some 24, .idxA 23, [(.t 22), (.t 23)], [8, 9], none⟩,
    ⟨some 25, .load ⟨false, [.int .u32]⟩, [(.t 24)], [10], none⟩,
    ⟨some 26, .idxA 23, [(.t 14), (.t 15)], [0, 1, 0, 1, 4, 5, 6, 7, 11], none⟩,
    ⟨none, .store ⟨false, [.int .u32]⟩, [(.t 26), (.t 21)], [12, 7, 0, 1, 4, 5, 6, 7, 11], none⟩,
    ⟨some 27, .idxA 23, [(.t 16), (.t 17)], [2, 3, 0, 1, 2, 3, 4, 5, 6, 7, 8, 9, 10, 11, 12, 13], none⟩,
    ⟨none, .store ⟨false, [.int .u32]⟩, [(.t 27), (.t 25)], [14, 11, 13, 0, 1, 2, 3, 4, 5, 6, 7, 8, 9, 10, 11, 12, 13], none⟩]))
  (.region false [
    ⟨some 10, .mv, [(.t 2)], [], none⟩,
    ⟨some 11, .bin .add, [(.t 10), (.c (D.int .i64 1))], [0], none⟩,
    ⟨some 12, .mv, [(.t 3)], [], none⟩,
    ⟨some 13, .bin .sub, [(.t 12), (.c (D.int .i64 1))], [2], none⟩,
    ⟨some 2, .mv, [(.t 11)], [1, 0, 1], none⟩,
    ⟨some 3, .mv, [(.t 13)], [3, 4, 0, 1, 2, 3, 4], none⟩])))))⟩

/- 20: gatepath/leak.Ramps -/
def c_leak_Ramps : DFun := ⟨50, 11, [.p, .p], [.p ⟨true, [.int .i64, .int .i64, .int .i64, .int .i64]⟩, .p ⟨false, [.int .i64]⟩], [.c 4, .t 5],
  .seq (.region false [
    ⟨some 2, .box 2, [(.t 0)], [], none⟩,
    ⟨some 4, .alloc 3 [(D.int .i64 0), (D.int .i64 0), (D.int .i64 0), (D.int .i64 0)], [], [], none⟩,
    ⟨some 5, .mv, [(.c (D.int .i64 0))], [], none⟩])
  (.seq (.region false [
    ⟨some 12, .load ⟨false, [.sl 46]⟩, [(.t 2)], [], none⟩,
    ⟨some 13, .call [5], [(.c (D.fn 15 [])), (.t 12)], [0], none⟩,
    ⟨some 6, .mv, [(.t 13)], [1, 1, 0, 1], none⟩])
  (.seq (.seq (.region false [
    ⟨some 14, .mv, [(.t 6)], [], none⟩,
    ⟨some 15, .bin .eql, [(.t 14), (.c (D.int .i64 0))], [0], none⟩,
    ⟨some 16, .mv, [(.t 15)], [1], none⟩,
    ⟨some 17, .mv, [(.t 1)], [2], some (16, true)⟩,
    ⟨some 18, .len, [(.t 17)], [3, 2], some (16, true)⟩,
    ⟨some 19, .bin .gtr, [(.t 18), (.c (D.int .i64 30))], [4, 2], some (16, true)⟩,
    ⟨some 20, .pick, [(.t 16), (.t 19), (.c (D.bool false))], [2, 5], none⟩])
  (.cond (.t 20) (.region false [
    ⟨some 6, .mv, [(.c (D.int .i64 4))], [], none⟩]) (.skip)))
  (.seq (.seq (.region false [
    ⟨some 21, .mv, [(.t 6)], [], none⟩,
    ⟨some 22, .bin .neq, [(.t 21), (.c (D.int .i64 0))], [0], none⟩])
  (.cond (.t 22) (.seq (.region false [
    ⟨some 23, .build [(D.int .i64 0), (D.int .i64 0), (D.int .i64 0), (D.int .i64 0)] [], [], [], none⟩,
    ⟨some 24, .mv, [(.t 6)], [], none⟩,
    ⟨none, .store ⟨true, [.int .i64, .int .i64, .int .i64, .int .i64]⟩, [(.t 4), (.t 23)], [0, 0], none⟩,
    ⟨some 5, .mv, [(.t 24)], [1, 2, 0, 1, 2], none⟩])
  (.ret)) (.skip)))
  (.seq (.region false [
    ⟨some 25, .mv, [(.t 1)], [], none⟩,
    ⟨some 26, .call [6], [(.c (D.fn 14 [])), (.t 25)], [0], none⟩,
    ⟨some 7, .mv, [(.t 26)], [1, 1, 0, 1], none⟩])
  (.seq (.region false [
    ⟨some 27, .mkfn 46, [(.t 2)], [], none⟩,
    ⟨some 8, .mv, [(.t 27)], [0, 0], none⟩])
  (.seq (.region false [
    ⟨some 9, .mv, [(.c (D.fn 47 []))], [], none⟩])
  (.seq (.region false [
    ⟨some 10, .mv, [(.c (D.fn 48 []))], [], none⟩])
  (.seq (.region false [
    ⟨some 28, .mv, [(.t 8)], [], none⟩,
    ⟨some 29, .mv, [(.t 7)], [], none⟩,
    ⟨some 30, .mv, [(.t 10)], [], none⟩,
    ⟨some 31, .call [7], [(.t 28), (.t 29), (.t 30)], [0, 1, 2], none⟩,
    ⟨some 32, .mv, [(.t 8)], [], none⟩,
    ⟨some 33, .mv, [(.t 7)], [], none⟩,
    ⟨some 34, .mv, [(.t 9)], [], none⟩,
    ⟨some 35, .call [8], [(.t 32), (.t 33), (.t 34)], [4, 5, 6, 3], none⟩,
    ⟨some 36, .build [(D.int .i64 0), (D.int .i64 0), (D.int .i64 0), (D.int .i64 0)] [(2, 1), (3, 1)], [(.t 31), (.t 35)], [3, 7], none⟩,
    ⟨some 11, .alloc 4 [(D.int .i64 0), (D.int .i64 0), (D.int .i64 0), (D.int .i64 0)], [], [], none⟩,
    ⟨none, .store ⟨true, [.int .i64, .int .i64, .int .i64, .int .i64]⟩, [(.t 11), (.t 36)], [9, 8, 7, 0, 1, 2, 3, 4, 5, 6, 7, 8, 9], none⟩])
  (.seq (.region false [
    ⟨some 37, .mv, [(.t 7)], [], none⟩,
    ⟨some 38, .call [], [(.c (D.fn 49 [])), (.t 37)], [0], none⟩])
  (.seq (.region false [
    ⟨some 39, .mv, [(.t 8)], [], none⟩,
    ⟨some 40, .mv, [(.t 7)], [], none⟩,
    ⟨some 41, .mv, [(.t 10)], [], none⟩,
    ⟨some 42, .call [9], [(.t 39), (.t 40), (.t 41)], [0, 1, 2], none⟩,
    ⟨some 43, .mv, [(.t 8)], [], none⟩,
    ⟨some 44, .mv, [(.t 7)], [], none⟩,
    ⟨some 45, .mv, [(.t 9)], [], none⟩,
    ⟨some 46, .call [10], [(.t 43), (.t 44), (.t 45)], [4, 5, 6, 3], none⟩,
    ⟨some 47, .fld 0, [(.t 11)], [0, 1, 2, 3], none⟩,
    ⟨none, .store ⟨false, [.int .i64]⟩, [(.t 47), (.t 42)], [8, 3, 7, 0, 1, 2, 3], none⟩,
    ⟨some 48, .fld 1, [(.t 11)], [0, 1, 2, 3, 4, 5, 6, 7, 8, 9], none⟩,
    ⟨none, .store ⟨false, [.int .i64]⟩, [(.t 48), (.t 46)], [10, 7, 9, 0, 1, 2, 3, 4, 5, 6, 7, 8, 9], none⟩])
  (.seq (.region false [
    ⟨some 49, .load ⟨true, [.int .i64, .int .i64, .int .i64, .int .i64]⟩, [(.t 11)], [], none⟩,
    ⟨none, .store ⟨true, [.int .i64, .int .i64, .int .i64, .int .i64]⟩, [(.t 4), (.t 49)], [0, 0], none⟩,
    ⟨some 5, .mv, [(.c (D.int .i64 0))], [1, 0, 1], none⟩])
  (.ret))))))))))))⟩

/- 26: gatepath/gatepathref41.Up -/
def c_gatepathref41_Up : DFun := ⟨23, 5, [.p], [.o 23], [.t 2],
  .seq (.region false [
    ⟨some 2, .mv, [(.c (D.zs 23 true))], [], none⟩])
  (.seq (.region false [
    ⟨some 3, .mv, [(.c (D.zs 23 true))], [], none⟩])
  (.seq (.region false [
    ⟨some 6, .mv, [(.t 0)], [], none⟩,
    ⟨some 7, .call [3], [(.c (D.fn 18 [])), (.t 6)], [0], none⟩,
    ⟨some 4, .mv, [(.t 7)], [1, 1, 0, 1], none⟩])
  (.seq (.seq (.region false [
    ⟨some 8, .mv, [(.t 4)], [], none⟩,
    ⟨some 9, .len, [(.t 8)], [0], none⟩,
    ⟨some 10, .bin .sub, [(.t 9), (.c (D.int .i64 1))], [1], none⟩,
    ⟨some 5, .mv, [(.t 10)], [2, 0, 1, 2], none⟩])
  (.block 0 (.loop ⟨[4], [(3, .o 4 23), (5, .p ⟨false, [.int .i64]⟩)], [(3, .a 23)]⟩ (.seq (.seq (.region false [
    ⟨some 11, .mv, [(.t 5)], [], none⟩,
    ⟨some 12, .bin .geq, [(.t 11), (.c (D.int .i64 0))], [0], none⟩])
  (.cond (.t 12) (.skip) (.exit 0)))
  (.seq (.block 1 (.region false [
    ⟨some 15, .mv, [(.t 3)], [], none⟩,
    ⟨some 16, .mv, [(.t 4)], [], none⟩,
    ⟨some 17, .mv, [(.t 5)], [], none⟩,
    ⟨some 18, .idxA 23, [(.t 16), (.t 17)], [1, 2], none⟩,
    ⟨some 19, .load ⟨false, [.int .u32]⟩, [(.t 18)], [3], none⟩,
    ⟨some 20, .buildSl 1 23, [(.t 19)], [4], none⟩,
    ⟨some 21, .append 2 23 4, [(.t 15), (.t 20)], [0, 5], none⟩,
    ⟨some 3, .mv, [(.t 21)], [6, 6, 0, 1, 2, 3, 4, 5, 6], none⟩]))
  (.region false [
    ⟨some 13, .mv, [(.t 5)], [], none⟩,
    ⟨some 14, .bin .sub, [(.t 13), (.c (D.int .i64 1))], [0], none⟩,
    ⟨some 5, .mv, [(.t 14)], [1, 0, 1], none⟩]))))))
  (.seq (.region false [
    ⟨some 22, .mv, [(.t 3)], [], none⟩,
    ⟨some 2, .mv, [(.t 22)], [0, 0], none⟩])
  (.ret)))))⟩

/- 50: gatepath/gatepathref41.climb -/
def c_gatepathref41_climb : DFun := ⟨42, 3, [.p, .p], [.p ⟨false, [.int .i64]⟩, .p ⟨false, [.int .i64]⟩], [.t 4, .t 5],
  .seq (.region false [
    ⟨some 4, .mv, [(.c (D.int .i64 0))], [], none⟩,
    ⟨some 5, .mv, [(.c (D.int .i64 0))], [0], none⟩])
  (.seq (.region false [
    ⟨some 10, .mv, [(.t 1)], [], none⟩,
    ⟨some 11, .len, [(.t 10)], [0], none⟩,
    ⟨some 12, .mv, [(.t 1)], [], none⟩,
    ⟨some 13, .len, [(.t 12)], [2], none⟩,
    ⟨some 6, .mv, [(.t 11)], [1, 0, 1], none⟩,
    ⟨some 7, .mv, [(.t 13)], [3, 4, 0, 1, 2, 3, 4], none⟩])
  (.seq (.seq (.region false [
    ⟨some 14, .mv, [(.t 1)], [], none⟩,
    ⟨some 15, .len, [(.t 14)], [0], none⟩,
    ⟨some 16, .bin .sub, [(.t 15), (.c (D.int .i64 2))], [1], none⟩,
    ⟨some 8, .mv, [(.t 16)], [2, 0, 1, 2], none⟩])
  (.block 0 (.loop ⟨[0, 1], [(6, .p ⟨false, [.int .i64]⟩), (7, .p ⟨false, [.int .i64]⟩), (8, .p ⟨false, [.int .i64]⟩)], []⟩ (.seq (.seq (.region false [
    ⟨some 17, .mv, [(.t 8)], [], none⟩,
    ⟨some 18, .bin .geq, [(.t 17), (.c (D.int .i64 0))], [0], none⟩])
  (.cond (.t 18) (.skip) (.exit 0)))
  (.seq (.block 1 (.seq (.region true [
    ⟨some 21, .mv, [(.t 0)], [], none⟩,
    ⟨some 22, .mv, [(.t 1)], [], none⟩,
    ⟨some 23, .mv, [(.t 8)], [], none⟩,
    ⟨some 24, .idxA 23, [(.t 22), (.t 23)], [1, 2], none⟩,
    ⟨some 25, .load ⟨false, [.int .u32]⟩, [(.t 24)], [3], none⟩,
    ⟨some 26, .mv, [(.t 1)], [], none⟩,
    ⟨some 27, .mv, [(.t 8)], [], none⟩,
    ⟨some 28, .bin .add, [(.t 27), (.c (D.int .i64 1))], [6], none⟩,
    ⟨some 29, .idxA 23, [(.t 26), (.t 28)], [5, 7], none⟩,
    ⟨some 30, .load ⟨false, [.int .u32]⟩, [(.t 29)], [8], none⟩,
    ⟨some 31, .call [2], [(.c (D.fn 37 [])), (.t 21), (.t 25), (.t 30)], [0, 4, 9], none⟩,
    ⟨some 9, .mv, [(.t 31)], [10, 10, 0, 1, 2, 3, 4, 5, 6, 7, 8, 9, 10], none⟩])
  (.seq (.seq (.region false [
    ⟨some 32, .mv, [(.t 9)], [], none⟩,
    ⟨some 33, .bin .eql, [(.t 32), (.c (D.int .u8 2))], [0], none⟩])
  (.cond (.t 33) (.region false [
    ⟨some 34, .mv, [(.t 8)], [], none⟩,
    ⟨some 35, .bin .add, [(.t 34), (.c (D.int .i64 1))], [0], none⟩,
    ⟨some 7, .mv, [(.t 35)], [1, 0, 1], none⟩]) (.skip)))
  (.seq (.region false [
    ⟨some 36, .mv, [(.t 9)], [], none⟩,
    ⟨some 37, .bin .neq, [(.t 36), (.c (D.int .u8 1))], [0], none⟩])
  (.cond (.t 37) (.region false [
    ⟨some 38, .mv, [(.t 8)], [], none⟩,
    ⟨some 39, .bin .add, [(.t 38), (.c (D.int .i64 1))], [0], none⟩,
    ⟨some 6, .mv, [(.t 39)], [1, 0, 1], none⟩]) (.skip))))))
  (.region false [
    ⟨some 19, .mv, [(.t 8)], [], none⟩,
    ⟨some 20, .bin .sub, [(.t 19), (.c (D.int .i64 1))], [0], none⟩,
    ⟨some 8, .mv, [(.t 20)], [1, 0, 1], none⟩]))))))
  (.seq (.region false [
    ⟨some 40, .mv, [(.t 6)], [], none⟩,
    ⟨some 41, .mv, [(.t 7)], [], none⟩,
    ⟨some 4, .mv, [(.t 40)], [0, 0], none⟩,
    ⟨some 5, .mv, [(.t 41)], [1, 2, 0, 1, 2], none⟩])
  (.ret))))⟩

/- 21: gatepath/gatepathref41.Ramps -/
def c_gatepathref41_Ramps : DFun := ⟨40, 11, [.p, .p], [.p ⟨true, [.int .i64, .int .i64, .int .i64, .int .i64]⟩, .p ⟨false, [.int .i64]⟩], [.c 4, .t 5],
  .seq (.region false [
    ⟨some 4, .alloc 2 [(D.int .i64 0), (D.int .i64 0), (D.int .i64 0), (D.int .i64 0)], [], [], none⟩,
    ⟨some 5, .mv, [(.c (D.int .i64 0))], [], none⟩])
  (.seq (.region false [
    ⟨some 8, .mv, [(.t 0)], [], none⟩,
    ⟨some 9, .call [4], [(.c (D.fn 16 [])), (.t 8)], [0], none⟩,
    ⟨some 6, .mv, [(.t 9)], [1, 1, 0, 1], none⟩])
  (.seq (.seq (.region false [
    ⟨some 10, .mv, [(.t 6)], [], none⟩,
    ⟨some 11, .bin .eql, [(.t 10), (.c (D.int .i64 0))], [0], none⟩,
    ⟨some 12, .mv, [(.t 11)], [1], none⟩,
    ⟨some 13, .mv, [(.t 1)], [2], some (12, true)⟩,
    ⟨some 14, .len, [(.t 13)], [3, 2], some (12, true)⟩,
    ⟨some 15, .bin .gtr, [(.t 14), (.c (D.int .i64 30))], [4, 2], some (12, true)⟩,
    ⟨some 16, .pick, [(.t 12), (.t 15), (.c (D.bool false))], [2, 5], none⟩])
  (.cond (.t 16) (.region false [
    ⟨some 6, .mv, [(.c (D.int .i64 4))], [], none⟩]) (.skip)))
  (.seq (.seq (.region false [
    ⟨some 17, .mv, [(.t 6)], [], none⟩,
    ⟨some 18, .bin .neq, [(.t 17), (.c (D.int .i64 0))], [0], none⟩])
  (.cond (.t 18) (.seq (.region false [
    ⟨some 19, .build [(D.int .i64 0), (D.int .i64 0), (D.int .i64 0), (D.int .i64 0)] [], [], [], none⟩,
    ⟨some 20, .mv, [(.t 6)], [], none⟩,
    ⟨none, .store ⟨true, [.int .i64, .int .i64, .int .i64, .int .i64]⟩, [(.t 4), (.t 19)], [0, 0], none⟩,
    ⟨some 5, .mv, [(.t 20)], [1, 2, 0, 1, 2], none⟩])
  (.ret)) (.skip)))
  (.seq (.region false [
    ⟨some 7, .alloc 3 [(D.int .i64 0), (D.int .i64 0), (D.int .i64 0), (D.int .i64 0)], [], [], none⟩])
  (.seq (.region false [
    ⟨some 22, .mv, [(.t 0)], [], none⟩,
    ⟨some 23, .mv, [(.t 1)], [], none⟩,
    ⟨some 24, .call [5], [(.c (D.fn 26 [])), (.t 23)], [1], none⟩,
    ⟨some 25, .call [6, 7], [(.c (D.fn 50 [])), (.t 22), (.t 24)], [0, 2, 2], none⟩,
    ⟨some 21, .mv, [(.t 25)], [3], none⟩,
    ⟨some 26, .ext 0, [(.t 21)], [4], none⟩,
    ⟨some 27, .ext 1, [(.t 21)], [4], none⟩,
    ⟨some 28, .fld 0, [(.t 7)], [0, 1, 2, 3, 4, 5], none⟩,
    ⟨none, .store ⟨false, [.int .i64]⟩, [(.t 28), (.t 26)], [7, 5, 3, 0, 1, 2, 3, 4, 5], none⟩,
    ⟨some 29, .fld 1, [(.t 7)], [0, 1, 2, 3, 4, 5, 6, 7, 8], none⟩,
    ⟨none, .store ⟨false, [.int .i64]⟩, [(.t 29), (.t 27)], [9, 6, 8, 0, 1, 2, 3, 4, 5, 6, 7, 8], none⟩])
  (.seq (.region false [
    ⟨some 31, .mv, [(.t 0)], [], none⟩,
    ⟨some 32, .mv, [(.t 1)], [], none⟩,
    ⟨some 33, .call [8], [(.c (D.fn 18 [])), (.t 32)], [1], none⟩,
    ⟨some 34, .call [9, 10], [(.c (D.fn 50 [])), (.t 31), (.t 33)], [0, 2, 2], none⟩,
    ⟨some 30, .mv, [(.t 34)], [3], none⟩,
    ⟨some 35, .ext 0, [(.t 30)], [4], none⟩,
    ⟨some 36, .ext 1, [(.t 30)], [4], none⟩,
    ⟨some 37, .fld 2, [(.t 7)], [0, 1, 2, 3, 4, 5], none⟩,
    ⟨none, .store ⟨false, [.int .i64]⟩, [(.t 37), (.t 35)], [7, 5, 3, 0, 1, 2, 3, 4, 5], none⟩,
    ⟨some 38, .fld 3, [(.t 7)], [0, 1, 2, 3, 4, 5, 6, 7, 8], none⟩,
    ⟨none, .store ⟨false, [.int .i64]⟩, [(.t 38), (.t 36)], [9, 6, 8, 0, 1, 2, 3, 4, 5, 6, 7, 8], none⟩])
  (.seq (.region false [
    ⟨some 39, .load ⟨true, [.int .i64, .int .i64, .int .i64, .int .i64]⟩, [(.t 7)], [], none⟩,
    ⟨none, .store ⟨true, [.int .i64, .int .i64, .int .i64, .int .i64]⟩, [(.t 4), (.t 39)], [0, 0], none⟩,
    ⟨some 5, .mv, [(.c (D.int .i64 0))], [1, 0, 1], none⟩])
  (.ret))))))))⟩

/- 22: gatepath/gatepathref41.Same -/
def c_gatepathref41_Same : DFun := ⟨42, 3, [.p, .p], [.p ⟨false, [.bool]⟩], [.t 4],
  .seq (.region false [
    ⟨some 4, .mv, [(.c (D.bool false))], [], none⟩])
  (.seq (.seq (.region false [
    ⟨some 6, .mv, [(.t 0)], [], none⟩,
    ⟨some 7, .len, [(.t 6)], [0], none⟩,
    ⟨some 8, .mv, [(.t 1)], [], none⟩,
    ⟨some 9, .len, [(.t 8)], [2], none⟩,
    ⟨some 10, .bin .neq, [(.t 7), (.t 9)], [1, 3], none⟩])
  (.cond (.t 10) (.seq (.region false [
    ⟨some 4, .mv, [(.c (D.bool false))], [], none⟩])
  (.ret)) (.skip)))
  (.seq (.seq (.region false [
    ⟨some 5, .mv, [(.c (D.int .i64 0))], [], none⟩])
  (.block 0 (.loop ⟨[0, 1], [(5, .p ⟨false, [.int .i64]⟩)], []⟩ (.seq (.seq (.region false [
    ⟨some 11, .mv, [(.t 5)], [], none⟩,
    ⟨some 12, .mv, [(.t 0)], [], none⟩,
    ⟨some 13, .len, [(.t 12)], [1], none⟩,
    ⟨some 14, .bin .lss, [(.t 11), (.t 13)], [0, 2], none⟩])
  (.cond (.t 14) (.skip) (.exit 0)))
  (.seq (.block 1 (.seq (.region true [
    ⟨some 17, .mv, [(.t 0)], [], none⟩,
    ⟨some 18, .mv, [(.t 5)], [], none⟩,
    ⟨some 19, .idxA 46, [(.t 17), (.t 18)], [0, 1], none⟩,
    ⟨some 20, .fld 0, [(.t 19)], [2], none⟩,
    ⟨some 21, .load ⟨false, [.int .u32]⟩, [(.t 20)], [3], none⟩,
    ⟨some 22, .mv, [(.t 1)], [], none⟩,
    ⟨some 23, .mv, [(.t 5)], [], none⟩,
    ⟨some 24, .idxA 46, [(.t 22), (.t 23)], [5, 6], none⟩,
    ⟨some 25, .fld 0, [(.t 24)], [7], none⟩,
    ⟨some 26, .load ⟨false, [.int .u32]⟩, [(.t 25)], [8], none⟩,
    ⟨some 27, .bin .neq, [(.t 21), (.t 26)], [4, 9], none⟩,
    ⟨some 28, .mv, [(.t 27)], [10], none⟩,
    ⟨some 29, .mv, [(.t 0)], [11], some (28, false)⟩,
    ⟨some 30, .mv, [(.t 5)], [11], some (28, false)⟩,
    ⟨some 31, .idxA 46, [(.t 29), (.t 30)], [12, 13, 11], some (28, false)⟩,
    ⟨some 32, .fld 1, [(.t 31)], [14, 11], some (28, false)⟩,
    ⟨some 33, .load ⟨false, [.sl 23]⟩, [(.t 32)], [15, 11], some (28, false)⟩,
    ⟨some 34, .mv, [(.t 1)], [11], some (28, false)⟩,
    ⟨some 35, .mv, [(.t 5)], [11], some (28, false)⟩,
    ⟨some 36, .idxA 46, [(.t 34), (.t 35)], [17, 18, 11], some (28, false)⟩,
    ⟨some 37, .fld 1, [(.t 36)], [19, 11], some (28, false)⟩,
    ⟨some 38, .load ⟨false, [.sl 23]⟩, [(.t 37)], [20, 11], some (28, false)⟩,
    ⟨some 39, .call [2], [(.c (D.fn 17 [])), (.t 33), (.t 38)], [16, 21, 11, 11], some (28, false)⟩,
    ⟨some 40, .not, [(.t 39)], [22, 11], some (28, false)⟩,
    ⟨some 41, .pick, [(.t 28), (.c (D.bool true)), (.t 40)], [11, 23], none⟩])
  (.cond (.t 41) (.seq (.region false [
    ⟨some 4, .mv, [(.c (D.bool false))], [], none⟩])
  (.ret)) (.skip))))
  (.region false [
    ⟨some 15, .mv, [(.t 5)], [], none⟩,
    ⟨some 16, .bin .add, [(.t 15), (.c (D.int .i64 1))], [0], none⟩,
    ⟨some 5, .mv, [(.t 16)], [1, 0, 1], none⟩]))))))
  (.seq (.region false [
    ⟨some 4, .mv, [(.c (D.bool true))], [], none⟩])
  (.ret))))⟩

/- 4: gatepath/gatepathlaw41.LeakRamps -/
def c_gatepathlaw41_LeakRamps : DFun := ⟨44, 11, [.p, .p], [.p ⟨false, [.bool]⟩], [.t 4],
  .seq (.region false [
    ⟨some 4, .mv, [(.c (D.bool false))], [], none⟩])
  (.seq (.seq (.region false [
    ⟨some 10, .mv, [(.t 0)], [], none⟩,
    ⟨some 11, .call [4], [(.c (D.fn 11 [])), (.t 10)], [0], none⟩,
    ⟨some 12, .mv, [(.t 11)], [1, 1], none⟩,
    ⟨some 13, .mv, [(.t 1)], [2], some (12, false)⟩,
    ⟨some 14, .len, [(.t 13)], [3, 2], some (12, false)⟩,
    ⟨some 15, .bin .gtr, [(.t 14), (.c (D.int .i64 100))], [4, 2], some (12, false)⟩,
    ⟨some 16, .pick, [(.t 12), (.c (D.bool true)), (.t 15)], [2, 5], none⟩])
  (.cond (.t 16) (.seq (.region false [
    ⟨some 4, .mv, [(.c (D.bool true))], [], none⟩])
  (.ret)) (.skip)))
  (.seq (.region false [
    ⟨some 17, .mv, [(.t 0)], [], none⟩,
    ⟨some 18, .call [5], [(.c (D.fn 19 [])), (.t 17)], [0], none⟩,
    ⟨some 5, .mv, [(.t 18)], [1, 1, 0, 1], none⟩])
  (.seq (.region false [
    ⟨some 20, .mv, [(.t 0)], [], none⟩,
    ⟨some 21, .mv, [(.t 1)], [], none⟩,
    ⟨some 22, .call [6, 7], [(.c (D.fn 20 [])), (.t 20), (.t 21)], [0, 1], none⟩,
    ⟨some 19, .mv, [(.t 22)], [2], none⟩,
    ⟨some 23, .ext 0, [(.t 19)], [3], none⟩,
    ⟨some 24, .ext 1, [(.t 19)], [3], none⟩,
    ⟨some 6, .alloc 2 [(D.int .i64 0), (D.int .i64 0), (D.int .i64 0), (D.int .i64 0)], [], [], none⟩,
    ⟨none, .store ⟨true, [.int .i64, .int .i64, .int .i64, .int .i64]⟩, [(.t 6), (.t 23)], [6, 4, 2, 0, 1, 2, 3, 4, 6], none⟩,
    ⟨some 7, .mv, [(.t 24)], [5, 7, 0, 1, 2, 3, 4, 5, 6, 7], none⟩])
  (.seq (.region false [
    ⟨some 26, .mv, [(.t 0)], [], none⟩,
    ⟨some 27, .mv, [(.t 1)], [], none⟩,
    ⟨some 28, .call [8, 9], [(.c (D.fn 21 [])), (.t 26), (.t 27)], [0, 1], none⟩,
    ⟨some 25, .mv, [(.t 28)], [2], none⟩,
    ⟨some 29, .ext 0, [(.t 25)], [3], none⟩,
    ⟨some 30, .ext 1, [(.t 25)], [3], none⟩,
    ⟨some 8, .alloc 3 [(D.int .i64 0), (D.int .i64 0), (D.int .i64 0), (D.int .i64 0)], [], [], none⟩,
    ⟨none, .store ⟨true, [.int .i64, .int .i64, .int .i64, .int .i64]⟩, [(.t 8), (.t 29)], [6, 4, 2, 0, 1, 2, 3, 4, 6], none⟩,
    ⟨some 9, .mv, [(.t 30)], [5, 7, 0, 1, 2, 3, 4, 5, 6, 7], none⟩])
  (.seq (.region false [
    ⟨some 31, .load ⟨true, [.int .i64, .int .i64, .int .i64, .int .i64]⟩, [(.t 6)], [], none⟩,
    ⟨some 32, .load ⟨true, [.int .i64, .int .i64, .int .i64, .int .i64]⟩, [(.t 8)], [], none⟩,
    ⟨some 33, .eqv false ⟨true, [.int .i64, .int .i64, .int .i64, .int .i64]⟩, [(.t 31), (.t 32)], [0, 1], none⟩,
    ⟨some 34, .mv, [(.t 33)], [2], none⟩,
    ⟨some 35, .mv, [(.t 7)], [3], some (34, true)⟩,
    ⟨some 36, .mv, [(.t 9)], [3], some (34, true)⟩,
    ⟨some 37, .bin .eql, [(.t 35), (.t 36)], [4, 5, 3], some (34, true)⟩,
    ⟨some 38, .pick, [(.t 34), (.t 37), (.c (D.bool false))], [3, 6], none⟩,
    ⟨some 39, .mv, [(.t 38)], [7, 3], none⟩,
    ⟨some 40, .mv, [(.t 0)], [8], some (39, true)⟩,
    ⟨some 41, .mv, [(.t 5)], [8], some (39, true)⟩,
    ⟨some 42, .call [10], [(.c (D.fn 22 [])), (.t 40), (.t 41)], [9, 10, 8, 8], some (39, true)⟩,
    ⟨some 43, .pick, [(.t 39), (.t 42), (.c (D.bool false))], [8, 11], none⟩,
    ⟨some 4, .mv, [(.t 43)], [12, 11, 0, 1, 2, 3, 4, 5, 6, 7, 8, 9, 10, 11, 12], none⟩])
  (.ret))))))⟩

/- 33: gatepath/gatepathlaw41.some -/
def c_gatepathlaw41_some : DFun := ⟨8, 4, [], [.o 46], [.t 0],
  .seq (.region false [
    ⟨some 0, .mv, [(.c (D.zs 46 true))], [], none⟩])
  (.seq (.region false [
    ⟨some 1, .buildSl 0 23, [(.c (D.int .u32 20))], [], none⟩,
    ⟨some 2, .build [(D.int .u32 0), (D.zs 23 true)] [(0, 1), (1, 1)], [(.c (D.int .u32 10)), (.t 1)], [0], none⟩,
    ⟨some 3, .buildSl 1 23, [(.c (D.int .u32 30))], [], none⟩,
    ⟨some 4, .build [(D.int .u32 0), (D.zs 23 true)] [(0, 1), (1, 1)], [(.c (D.int .u32 20)), (.t 3)], [2], none⟩,
    ⟨some 5, .buildSl 2 23, [(.c (D.int .u32 30))], [], none⟩,
    ⟨some 6, .build [(D.int .u32 0), (D.zs 23 true)] [(0, 1), (1, 1)], [(.c (D.int .u32 50)), (.t 5)], [4], none⟩,
    ⟨some 7, .buildSl 3 46, [(.t 2), (.t 4), (.t 6)], [1, 3, 5], none⟩,
    ⟨some 0, .mv, [(.t 7)], [6, 0, 1, 2, 3, 4, 5, 6], none⟩])
  (.ret))⟩

/- 51: gatepath/leak.judge -/
def c_leak_judge : DFun := ⟨9, 2, [.p, .p], [.p ⟨false, [.int .u8]⟩], [.t 4],
  .seq (.region false [
    ⟨some 4, .mv, [(.c (D.int .u8 0))], [], none⟩])
  (.seq (.block 0 (.seq (.region false [
    ⟨some 6, .mv, [(.t 0)], [], none⟩,
    ⟨some 5, .mv, [(.t 6)], [0], none⟩])
  (.cond (.t 5) (.seq (.region false [
    ⟨some 4, .mv, [(.c (D.int .u8 2))], [], none⟩])
  (.ret)) (.seq (.region false [
    ⟨some 8, .mv, [(.t 1)], [], none⟩,
    ⟨some 7, .mv, [(.t 8)], [0], none⟩])
  (.cond (.t 7) (.seq (.region false [
    ⟨some 4, .mv, [(.c (D.int .u8 1))], [], none⟩])
  (.ret)) (.skip))))))
  (.seq (.region false [
    ⟨some 4, .mv, [(.c (D.int .u8 0))], [], none⟩])
  (.ret)))⟩

/- 24: gatepath/leak.Upstream -/
def c_leak_Upstream : DFun := ⟨34, 7, [.p, .p], [.p ⟨false, [.int .u8]⟩, .p ⟨false, [.int .i64]⟩], [.t 4, .t 5],
  .seq (.region false [
    ⟨some 4, .mv, [(.c (D.int .u8 0))], [], none⟩,
    ⟨some 5, .mv, [(.c (D.int .i64 0))], [0], none⟩])
  (.seq (.region false [
    ⟨some 10, .mv, [(.t 0)], [], none⟩,
    ⟨some 11, .mv, [(.t 1)], [], none⟩,
    ⟨some 12, .call [3, 4], [(.c (D.fn 20 [])), (.t 10), (.t 11)], [0, 1], none⟩,
    ⟨some 9, .mv, [(.t 12)], [2], none⟩,
    ⟨some 13, .ext 0, [(.t 9)], [3], none⟩,
    ⟨some 14, .ext 1, [(.t 9)], [3], none⟩,
    ⟨some 6, .alloc 2 [(D.int .i64 0), (D.int .i64 0), (D.int .i64 0), (D.int .i64 0)], [], [], none⟩,
    ⟨none, .store ⟨true, [.int .i64, .int .i64, .int .i64, .int .i64]⟩, [(.t 6), (.t 13)], [6, 4, 2, 0, 1, 2, 3, 4, 6], none⟩,
    ⟨some 7, .mv, [(.t 14)], [5, 7, 0, 1, 2, 3, 4, 5, 6, 7], none⟩])
  (.seq (.seq (.region false [
    ⟨some 15, .mv, [(.t 7)], [], none⟩,
    ⟨some 16, .bin .neq, [(.t 15), (.c (D.int .i64 0))], [0], none⟩])
  (.cond (.t 16) (.seq (.region false [
    ⟨some 17, .mv, [(.t 7)], [], none⟩,
    ⟨some 4, .mv, [(.c (D.int .u8 0))], [], none⟩,
    ⟨some 5, .mv, [(.t 17)], [0, 1, 0, 1], none⟩])
  (.ret)) (.skip)))
  (.seq (.region false [
    ⟨some 18, .mv, [(.t 1)], [], none⟩,
    ⟨some 19, .call [5], [(.c (D.fn 14 [])), (.t 18)], [0], none⟩,
    ⟨some 20, .len, [(.t 19)], [1], none⟩,
    ⟨some 8, .mv, [(.t 20)], [2, 1, 0, 1, 2], none⟩])
  (.seq (.region false [
    ⟨some 21, .mv, [(.t 8)], [], none⟩,
    ⟨some 22, .bin .eql, [(.t 21), (.c (D.int .i64 0))], [0], none⟩,
    ⟨some 23, .mv, [(.t 22)], [1], none⟩,
    ⟨some 24, .fld 1, [(.t 6)], [2], some (23, false)⟩,
    ⟨some 25, .load ⟨false, [.int .i64]⟩, [(.t 24)], [3, 2], some (23, false)⟩,
    ⟨some 26, .mv, [(.t 8)], [2], some (23, false)⟩,
    ⟨some 27, .bin .lss, [(.t 25), (.t 26)], [4, 5, 2], some (23, false)⟩,
    ⟨some 28, .pick, [(.t 23), (.c (D.bool true)), (.t 27)], [2, 6], none⟩,
    ⟨some 29, .fld 0, [(.t 6)], [], none⟩,
    ⟨some 30, .load ⟨false, [.int .i64]⟩, [(.t 29)], [8], none⟩,
    ⟨some 31, .mv, [(.t 8)], [], none⟩,
    ⟨some 32, .bin .eql, [(.t 30), (.t 31)], [9, 10], none⟩,
    ⟨some 33, .call [6], [(.c (D.fn 51 [])), (.t 28), (.t 32)], [7, 11, 2], none⟩,
    ⟨some 4, .mv, [(.t 33)], [12, 12, 0, 1, 2, 3, 4, 5, 6, 7, 8, 9, 10, 11, 12], none⟩,
    ⟨some 5, .mv, [(.c (D.int .i64 0))], [13, 0, 1, 2, 3, 4, 5, 6, 7, 8, 9, 10, 11, 12, 13], none⟩])
  (.ret)))))⟩

/- 34: gatepath/gatepathlaw41.up -/
def c_gatepathlaw41_up : DFun := ⟨22, 5, [.p, .p, .p], [.p ⟨false, [.bool]⟩], [.t 6],
  .seq (.region false [
    ⟨some 6, .mv, [(.c (D.bool false))], [], none⟩])
  (.seq (.region false [
    ⟨some 10, .mv, [(.t 0)], [], none⟩,
    ⟨some 11, .mv, [(.t 2)], [], none⟩,
    ⟨some 12, .call [3, 4], [(.c (D.fn 24 [])), (.t 10), (.t 11)], [0, 1], none⟩,
    ⟨some 9, .mv, [(.t 12)], [2], none⟩,
    ⟨some 13, .ext 0, [(.t 9)], [3], none⟩,
    ⟨some 14, .ext 1, [(.t 9)], [3], none⟩,
    ⟨some 7, .mv, [(.t 13)], [4, 2, 0, 1, 2, 3, 4], none⟩,
    ⟨some 8, .mv, [(.t 14)], [5, 6, 0, 1, 2, 3, 4, 5, 6], none⟩])
  (.seq (.region false [
    ⟨some 15, .mv, [(.t 8)], [], none⟩,
    ⟨some 16, .bin .eql, [(.t 15), (.c (D.int .i64 0))], [0], none⟩,
    ⟨some 17, .mv, [(.t 16)], [1], none⟩,
    ⟨some 18, .mv, [(.t 7)], [2], some (17, true)⟩,
    ⟨some 19, .mv, [(.t 1)], [2], some (17, true)⟩,
    ⟨some 20, .bin .eql, [(.t 18), (.t 19)], [3, 4, 2], some (17, true)⟩,
    ⟨some 21, .pick, [(.t 17), (.t 20), (.c (D.bool false))], [2, 5], none⟩,
    ⟨some 6, .mv, [(.t 21)], [6, 2, 0, 1, 2, 3, 4, 5, 6], none⟩])
  (.ret)))⟩

/- 25: gatepath/leak.Downstream -/
def c_leak_Downstream : DFun := ⟨40, 7, [.p, .p], [.p ⟨false, [.int .u8]⟩, .p ⟨false, [.int .i64]⟩], [.t 4, .t 5],
  .seq (.region false [
    ⟨some 4, .mv, [(.c (D.int .u8 0))], [], none⟩,
    ⟨some 5, .mv, [(.c (D.int .i64 0))], [0], none⟩])
  (.seq (.region false [
    ⟨some 10, .mv, [(.t 0)], [], none⟩,
    ⟨some 11, .mv, [(.t 1)], [], none⟩,
    ⟨some 12, .call [3, 4], [(.c (D.fn 20 [])), (.t 10), (.t 11)], [0, 1], none⟩,
    ⟨some 9, .mv, [(.t 12)], [2], none⟩,
    ⟨some 13, .ext 0, [(.t 9)], [3], none⟩,
    ⟨some 14, .ext 1, [(.t 9)], [3], none⟩,
    ⟨some 6, .alloc 2 [(D.int .i64 0), (D.int .i64 0), (D.int .i64 0), (D.int .i64 0)], [], [], none⟩,
    ⟨none, .store ⟨true, [.int .i64, .int .i64, .int .i64, .int .i64]⟩, [(.t 6), (.t 13)], [6, 4, 2, 0, 1, 2, 3, 4, 6], none⟩,
    ⟨some 7, .mv, [(.t 14)], [5, 7, 0, 1, 2, 3, 4, 5, 6, 7], none⟩])
  (.seq (.seq (.region false [
    ⟨some 15, .mv, [(.t 7)], [], none⟩,
    ⟨some 16, .bin .neq, [(.t 15), (.c (D.int .i64 0))], [0], none⟩])
  (.cond (.t 16) (.seq (.region false [
    ⟨some 17, .mv, [(.t 7)], [], none⟩,
    ⟨some 4, .mv, [(.c (D.int .u8 0))], [], none⟩,
    ⟨some 5, .mv, [(.t 17)], [0, 1, 0, 1], none⟩])
  (.ret)) (.skip)))
  (.seq (.region false [
    ⟨some 18, .mv, [(.t 1)], [], none⟩,
    ⟨some 19, .call [5], [(.c (D.fn 14 [])), (.t 18)], [0], none⟩,
    ⟨some 20, .len, [(.t 19)], [1], none⟩,
    ⟨some 8, .mv, [(.t 20)], [2, 1, 0, 1, 2], none⟩])
  (.seq (.region false [
    ⟨some 21, .mv, [(.t 8)], [], none⟩,
    ⟨some 22, .bin .eql, [(.t 21), (.c (D.int .i64 0))], [0], none⟩,
    ⟨some 23, .mv, [(.t 22)], [1], none⟩,
    ⟨some 24, .fld 1, [(.t 6)], [2], some (23, false)⟩,
    ⟨some 25, .load ⟨false, [.int .i64]⟩, [(.t 24)], [3, 2], some (23, false)⟩,
    ⟨some 26, .fld 3, [(.t 6)], [2], some (23, false)⟩,
    ⟨some 27, .load ⟨false, [.int .i64]⟩, [(.t 26)], [5, 2], some (23, false)⟩,
    ⟨some 28, .bin .add, [(.t 25), (.t 27)], [4, 6, 2], some (23, false)⟩,
    ⟨some 29, .mv, [(.t 8)], [2], some (23, false)⟩,
    ⟨some 30, .bin .lss, [(.t 28), (.t 29)], [7, 8, 2], some (23, false)⟩,
    ⟨some 31, .pick, [(.t 23), (.c (D.bool true)), (.t 30)], [2, 9], none⟩,
    ⟨some 32, .fld 0, [(.t 6)], [], none⟩,
    ⟨some 33, .load ⟨false, [.int .i64]⟩, [(.t 32)], [11], none⟩,
    ⟨some 34, .fld 2, [(.t 6)], [], none⟩,
    ⟨some 35, .load ⟨false, [.int .i64]⟩, [(.t 34)], [13], none⟩,
    ⟨some 36, .bin .add, [(.t 33), (.t 35)], [12, 14], none⟩,
    ⟨some 37, .mv, [(.t 8)], [], none⟩,
    ⟨some 38, .bin .geq, [(.t 36), (.t 37)], [15, 16], none⟩,
    ⟨some 39, .call [6], [(.c (D.fn 51 [])), (.t 31), (.t 38)], [10, 17, 2], none⟩,
    ⟨some 4, .mv, [(.t 39)], [18, 18, 0, 1, 2, 3, 4, 5, 6, 7, 8, 9, 10, 11, 12, 13, 14, 15, 16, 17, 18], none⟩,
    ⟨some 5, .mv, [(.c (D.int .i64 0))], [19, 0, 1, 2, 3, 4, 5, 6, 7, 8, 9, 10, 11, 12, 13, 14, 15, 16, 17, 18, 19], none⟩])
  (.ret)))))⟩

/- 35: gatepath/gatepathlaw41.down -/
def c_gatepathlaw41_down : DFun := ⟨22, 5, [.p, .p, .p], [.p ⟨false, [.bool]⟩], [.t 6],
  .seq (.region false [
    ⟨some 6, .mv, [(.c (D.bool false))], [], none⟩])
  (.seq (.region false [
    ⟨some 10, .mv, [(.t 0)], [], none⟩,
    ⟨some 11, .mv, [(.t 2)], [], none⟩,
    ⟨some 12, .call [3, 4], [(.c (D.fn 25 [])), (.t 10), (.t 11)], [0, 1], none⟩,
    ⟨some 9, .mv, [(.t 12)], [2], none⟩,
    ⟨some 13, .ext 0, [(.t 9)], [3], none⟩,
    ⟨some 14, .ext 1, [(.t 9)], [3], none⟩,
    ⟨some 7, .mv, [(.t 13)], [4, 2, 0, 1, 2, 3, 4], none⟩,
    ⟨some 8, .mv, [(.t 14)], [5, 6, 0, 1, 2, 3, 4, 5, 6], none⟩])
  (.seq (.region false [
    ⟨some 15, .mv, [(.t 8)], [], none⟩,
    ⟨some 16, .bin .eql, [(.t 15), (.c (D.int .i64 0))], [0], none⟩,
    ⟨some 17, .mv, [(.t 16)], [1], none⟩,
    ⟨some 18, .mv, [(.t 7)], [2], some (17, true)⟩,
    ⟨some 19, .mv, [(.t 1)], [2], some (17, true)⟩,
    ⟨some 20, .bin .eql, [(.t 18), (.t 19)], [3, 4, 2], some (17, true)⟩,
    ⟨some 21, .pick, [(.t 17), (.t 20), (.c (D.bool false))], [2, 5], none⟩,
    ⟨some 6, .mv, [(.t 21)], [6, 2, 0, 1, 2, 3, 4, 5, 6], none⟩])
  (.ret)))⟩

/- 23: gatepath/gatepathlaw41.alive -/
def c_gatepathlaw41_alive : DFun := ⟨50, 17, [], [.p ⟨false, [.bool]⟩], [.t 0],
  .seq (.region false [
    ⟨some 0, .mv, [(.c (D.bool false))], [], none⟩])
  (.seq (.region false [
    ⟨some 5, .call [8], [(.c (D.fn 33 []))], [], none⟩,
    ⟨some 1, .mv, [(.t 5)], [0, 0, 0], none⟩])
  (.seq (.region false [
    ⟨some 7, .mv, [(.t 1)], [], none⟩,
    ⟨some 8, .buildSl 0 23, [(.c (D.int .u32 50)), (.c (D.int .u32 30)), (.c (D.int .u32 20)), (.c (D.int .u32 10))], [], none⟩,
    ⟨some 9, .call [9, 10], [(.c (D.fn 20 [])), (.t 7), (.t 8)], [0, 1], none⟩,
    ⟨some 6, .mv, [(.t 9)], [2], none⟩,
    ⟨some 10, .ext 0, [(.t 6)], [3], none⟩,
    ⟨some 11, .ext 1, [(.t 6)], [3], none⟩,
    ⟨some 2, .alloc 1 [(D.int .i64 0), (D.int .i64 0), (D.int .i64 0), (D.int .i64 0)], [], [], none⟩,
    ⟨none, .store ⟨true, [.int .i64, .int .i64, .int .i64, .int .i64]⟩, [(.t 2), (.t 10)], [6, 4, 2, 0, 1, 2, 3, 4, 6], none⟩,
    ⟨some 3, .mv, [(.t 11)], [5, 7, 0, 1, 2, 3, 4, 5, 6, 7], none⟩])
  (.seq (.region false [
    ⟨some 12, .mv, [(.t 1)], [], none⟩,
    ⟨some 13, .buildSl 2 23, [(.c (D.int .u32 20)), (.c (D.int .u32 10))], [], none⟩,
    ⟨some 14, .call [11], [(.c (D.fn 34 [])), (.t 12), (.c (D.int .u8 1)), (.t 13)], [0, 1], none⟩,
    ⟨some 15, .mv, [(.t 14)], [2, 2], none⟩,
    ⟨some 16, .mv, [(.t 1)], [3], some (15, true)⟩,
    ⟨some 17, .buildSl 3 23, [(.c (D.int .u32 30)), (.c (D.int .u32 20)), (.c (D.int .u32 10))], [3], some (15, true)⟩,
    ⟨some 18, .call [12], [(.c (D.fn 34 [])), (.t 16), (.c (D.int .u8 1)), (.t 17)], [4, 5, 3, 3], some (15, true)⟩,
    ⟨some 19, .pick, [(.t 15), (.t 18), (.c (D.bool false))], [3, 6], none⟩,
    ⟨some 20, .mv, [(.t 19)], [7, 6], none⟩,
    ⟨some 21, .mv, [(.t 1)], [8], some (20, true)⟩,
    ⟨some 22, .buildSl 4 23, [(.c (D.int .u32 50)), (.c (D.int .u32 30)), (.c (D.int .u32 20)), (.c (D.int .u32 10))], [8], some (20, true)⟩,
    ⟨some 23, .call [13], [(.c (D.fn 34 [])), (.t 21), (.c (D.int .u8 0)), (.t 22)], [9, 10, 8, 8], some (20, true)⟩,
    ⟨some 24, .pick, [(.t 20), (.t 23), (.c (D.bool false))], [8, 11], none⟩,
    ⟨some 25, .mv, [(.t 24)], [12, 11], none⟩,
    ⟨some 26, .mv, [(.t 1)], [13], some (25, true)⟩,
    ⟨some 27, .buildSl 5 23, [(.c (D.int .u32 50)), (.c (D.int .u32 30)), (.c (D.int .u32 20)), (.c (D.int .u32 10))], [13], some (25, true)⟩,
    ⟨some 28, .call [14], [(.c (D.fn 35 [])), (.t 26), (.c (D.int .u8 1)), (.t 27)], [14, 15, 13, 13], some (25, true)⟩,
    ⟨some 29, .pick, [(.t 25), (.t 28), (.c (D.bool false))], [13, 16], none⟩,
    ⟨some 4, .mv, [(.t 29)], [17, 16, 0, 1, 2, 3, 4, 5, 6, 7, 8, 9, 10, 11, 12, 13, 14, 15, 16, 17], none⟩])
  (.seq (.region false [
    ⟨some 30, .mv, [(.t 4)], [], none⟩,
    ⟨some 31, .mv, [(.t 30)], [0], none⟩,
    ⟨some 32, .mv, [(.t 1)], [1], some (31, true)⟩,
    ⟨some 33, .buildSl 6 23, [(.c (D.int .u32 40)), (.c (D.int .u32 10))], [1], some (31, true)⟩,
    ⟨some 34, .call [15], [(.c (D.fn 34 [])), (.t 32), (.c (D.int .u8 2)), (.t 33)], [2, 3, 1, 1], some (31, true)⟩,
    ⟨some 35, .pick, [(.t 31), (.t 34), (.c (D.bool false))], [1, 4], none⟩,
    ⟨some 36, .mv, [(.t 35)], [5, 4], none⟩,
    ⟨some 37, .mv, [(.t 1)], [6], some (36, true)⟩,
    ⟨some 38, .buildSl 7 23, [(.c (D.int .u32 40)), (.c (D.int .u32 10))], [6], some (36, true)⟩,
    ⟨some 39, .call [16], [(.c (D.fn 35 [])), (.t 37), (.c (D.int .u8 1)), (.t 38)], [7, 8, 6, 6], some (36, true)⟩,
    ⟨some 40, .pick, [(.t 36), (.t 39), (.c (D.bool false))], [6, 9], none⟩,
    ⟨some 41, .mv, [(.t 40)], [10, 9], none⟩,
    ⟨some 42, .mv, [(.t 3)], [11], some (41, true)⟩,
    ⟨some 43, .bin .eql, [(.t 42), (.c (D.int .i64 0))], [12, 11], some (41, true)⟩,
    ⟨some 44, .pick, [(.t 41), (.t 43), (.c (D.bool false))], [11, 13], none⟩,
    ⟨some 45, .mv, [(.t 44)], [14, 11], none⟩,
    ⟨some 46, .load ⟨true, [.int .i64, .int .i64, .int .i64, .int .i64]⟩, [(.t 2)], [15], some (45, true)⟩,
    ⟨some 47, .build [(D.int .i64 0), (D.int .i64 0), (D.int .i64 0), (D.int .i64 0)] [(0, 1), (1, 1), (2, 1), (3, 1)], [(.c (D.int .i64 3)), (.c (D.int .i64 4)), (.c (D.int .i64 2)), (.c (D.int .i64 3))], [15], some (45, true)⟩,
    ⟨some 48, .eqv false ⟨true, [.int .i64, .int .i64, .int .i64, .int .i64]⟩, [(.t 46), (.t 47)], [16, 17, 15], some (45, true)⟩,
    ⟨some 49, .pick, [(.t 45), (.t 48), (.c (D.bool false))], [15, 18], none⟩,
    ⟨some 0, .mv, [(.t 49)], [19, 15, 0, 1, 2, 3, 4, 5, 6, 7, 8, 9, 10, 11, 12, 13, 14, 15, 16, 17, 18, 19], none⟩])
  (.ret)))))⟩

/- 5: gatepath/gatepathlaw41.LeakGrows -/
def c_gatepathlaw41_LeakGrows : DFun := ⟨138, 24, [.p, .p, .p], [.p ⟨false, [.bool]⟩], [.t 6],
  .seq (.region false [
    ⟨some 5, .box 3, [(.t 2)], [], none⟩,
    ⟨some 6, .mv, [(.c (D.bool false))], [], none⟩])
  (.seq (.region false [
    ⟨some 19, .call [10], [(.c (D.fn 23 []))], [], none⟩,
    ⟨some 7, .mv, [(.t 19)], [0, 0, 0], none⟩])
  (.seq (.seq (.region false [
    ⟨some 20, .mv, [(.t 0)], [], none⟩,
    ⟨some 21, .call [11], [(.c (D.fn 11 [])), (.t 20)], [0], none⟩,
    ⟨some 22, .mv, [(.t 21)], [1, 1], none⟩,
    ⟨some 23, .load ⟨true, [.int .u32, .sl 23]⟩, [(.t 5)], [2], some (22, false)⟩,
    ⟨some 24, .buildSl 4 46, [(.t 23)], [3, 2], some (22, false)⟩,
    ⟨some 25, .call [12], [(.c (D.fn 11 [])), (.t 24)], [4, 2, 2], some (22, false)⟩,
    ⟨some 26, .pick, [(.t 22), (.c (D.bool true)), (.t 25)], [2, 5], none⟩,
    ⟨some 27, .mv, [(.t 26)], [6, 5], none⟩,
    ⟨some 28, .mv, [(.t 0)], [7], some (27, false)⟩,
    ⟨some 29, .call [13], [(.c (D.fn 16 [])), (.t 28)], [8, 7, 7], some (27, false)⟩,
    ⟨some 30, .bin .neq, [(.t 29), (.c (D.int .i64 0))], [9, 7], some (27, false)⟩,
    ⟨some 31, .pick, [(.t 27), (.c (D.bool true)), (.t 30)], [7, 10], none⟩,
    ⟨some 32, .mv, [(.t 31)], [11, 9], none⟩,
    ⟨some 33, .mv, [(.t 1)], [12], some (32, false)⟩,
    ⟨some 34, .len, [(.t 33)], [13, 12], some (32, false)⟩,
    ⟨some 35, .bin .gtr, [(.t 34), (.c (D.int .i64 30))], [14, 12], some (32, false)⟩,
    ⟨some 36, .pick, [(.t 32), (.c (D.bool true)), (.t 35)], [12, 15], none⟩,
    ⟨some 37, .mv, [(.t 36)], [16, 12], none⟩,
    ⟨some 38, .mv, [(.t 7)], [17], some (37, false)⟩,
    ⟨some 39, .not, [(.t 38)], [18, 17], some (37, false)⟩,
    ⟨some 40, .pick, [(.t 37), (.c (D.bool true)), (.t 39)], [17, 19], none⟩])
  (.cond (.t 40) (.seq (.region false [
    ⟨some 41, .mv, [(.t 7)], [], none⟩,
    ⟨some 6, .mv, [(.t 41)], [0, 0], none⟩])
  (.ret)) (.skip)))
  (.seq (.region false [
    ⟨some 8, .mv, [(.c (D.zs 46 true))], [], none⟩])
  (.seq (.seq (.region false [
    ⟨some 9, .mv, [(.c (D.int .i64 0))], [], none⟩])
  (.block 0 (.loop ⟨[0, 1, 5, 7], [(8, .o 14 46), (9, .p ⟨false, [.int .i64]⟩)], [(3, .v [.p (.int .u32), .p (.sl 23)])]⟩ (.seq (.seq (.region true [
    ⟨some 42, .mv, [(.t 9)], [], none⟩,
    ⟨some 43, .mv, [(.t 0)], [], none⟩,
    ⟨some 44, .len, [(.t 43)], [1], none⟩,
    ⟨some 45, .bin .lss, [(.t 42), (.t 44)], [0, 2], none⟩,
    ⟨some 46, .mv, [(.t 45)], [3], none⟩,
    ⟨some 47, .mv, [(.t 0)], [4], some (46, true)⟩,
    ⟨some 48, .mv, [(.t 9)], [4], some (46, true)⟩,
    ⟨some 49, .idxA 46, [(.t 47), (.t 48)], [5, 6, 4], some (46, true)⟩,
    ⟨some 50, .fld 0, [(.t 49)], [7, 4], some (46, true)⟩,
    ⟨some 51, .load ⟨false, [.int .u32]⟩, [(.t 50)], [8, 4], some (46, true)⟩,
    ⟨some 52, .fld 0, [(.t 5)], [4], some (46, true)⟩,
    ⟨some 53, .load ⟨false, [.int .u32]⟩, [(.t 52)], [10, 4], some (46, true)⟩,
    ⟨some 54, .bin .lss, [(.t 51), (.t 53)], [9, 11, 4], some (46, true)⟩,
    ⟨some 55, .pick, [(.t 46), (.t 54), (.c (D.bool false))], [4, 12], none⟩])
  (.cond (.t 55) (.skip) (.exit 0)))
  (.seq (.block 1 (.region false [
    ⟨some 58, .mv, [(.t 8)], [], none⟩,
    ⟨some 59, .mv, [(.t 0)], [], none⟩,
    ⟨some 60, .mv, [(.t 9)], [], none⟩,
    ⟨some 61, .idxA 46, [(.t 59), (.t 60)], [1, 2], none⟩,
    ⟨some 62, .load ⟨true, [.int .u32, .sl 23]⟩, [(.t 61)], [3], none⟩,
    ⟨some 63, .buildSl 5 46, [(.t 62)], [4], none⟩,
    ⟨some 64, .append 6 46 32, [(.t 58), (.t 63)], [0, 5], none⟩,
    ⟨some 8, .mv, [(.t 64)], [6, 6, 0, 1, 2, 3, 4, 5, 6], none⟩]))
  (.region false [
    ⟨some 56, .mv, [(.t 9)], [], none⟩,
    ⟨some 57, .bin .add, [(.t 56), (.c (D.int .i64 1))], [0], none⟩,
    ⟨some 9, .mv, [(.t 57)], [1, 0, 1], none⟩]))))))
  (.seq (.region false [
    ⟨some 65, .mv, [(.t 8)], [], none⟩,
    ⟨some 66, .len, [(.t 65)], [0], none⟩,
    ⟨some 10, .mv, [(.t 66)], [1, 0, 1], none⟩])
  (.seq (.region true [
    ⟨some 67, .mv, [(.t 8)], [], none⟩,
    ⟨some 68, .load ⟨true, [.int .u32, .sl 23]⟩, [(.t 5)], [], none⟩,
    ⟨some 69, .buildSl 7 46, [(.t 68)], [1], none⟩,
    ⟨some 70, .append 8 46 32, [(.t 67), (.t 69)], [0, 2], none⟩,
    ⟨some 71, .mv, [(.t 0)], [], none⟩,
    ⟨some 72, .mv, [(.t 10)], [], none⟩,
    ⟨some 73, .slice (some 46) true false false, [(.t 71), (.t 72)], [4, 5], none⟩,
    ⟨some 74, .append 9 46 32, [(.t 70), (.t 73)], [3, 6, 3], none⟩,
    ⟨some 8, .mv, [(.t 74)], [7, 7, 0, 1, 2, 3, 4, 5, 6, 7], none⟩])
  (.seq (.seq (.region false [
    ⟨some 75, .mv, [(.t 8)], [], none⟩,
    ⟨some 76, .call [15], [(.c (D.fn 16 [])), (.t 75)], [0], none⟩,
    ⟨some 77, .bin .neq, [(.t 76), (.c (D.int .i64 0))], [1], none⟩])
  (.cond (.t 77) (.seq (.region false [
    ⟨some 78, .mv, [(.t 7)], [], none⟩,
    ⟨some 6, .mv, [(.t 78)], [0, 0], none⟩])
  (.ret)) (.skip)))
  (.seq (.region false [
    ⟨some 80, .mv, [(.t 0)], [], none⟩,
    ⟨some 81, .mv, [(.t 1)], [], none⟩,
    ⟨some 82, .call [16, 17], [(.c (D.fn 24 [])), (.t 80), (.t 81)], [0, 1], none⟩,
    ⟨some 79, .mv, [(.t 82)], [2], none⟩,
    ⟨some 83, .ext 0, [(.t 79)], [3], none⟩,
    ⟨some 84, .ext 1, [(.t 79)], [3], none⟩,
    ⟨some 11, .mv, [(.t 83)], [4, 2, 0, 1, 2, 3, 4], none⟩,
    ⟨some 12, .mv, [(.t 84)], [5, 6, 0, 1, 2, 3, 4, 5, 6], none⟩])
  (.seq (.region false [
    ⟨some 86, .mv, [(.t 8)], [], none⟩,
    ⟨some 87, .mv, [(.t 1)], [], none⟩,
    ⟨some 88, .call [18, 19], [(.c (D.fn 24 [])), (.t 86), (.t 87)], [0, 1], none⟩,
    ⟨some 85, .mv, [(.t 88)], [2], none⟩,
    ⟨some 89, .ext 0, [(.t 85)], [3], none⟩,
    ⟨some 90, .ext 1, [(.t 85)], [3], none⟩,
    ⟨some 13, .mv, [(.t 89)], [4, 2, 0, 1, 2, 3, 4], none⟩,
    ⟨some 14, .mv, [(.t 90)], [5, 6, 0, 1, 2, 3, 4, 5, 6], none⟩])
  (.seq (.region false [
    ⟨some 92, .mv, [(.t 0)], [], none⟩,
    ⟨some 93, .mv, [(.t 1)], [], none⟩,
    ⟨some 94, .call [20, 21], [(.c (D.fn 25 [])), (.t 92), (.t 93)], [0, 1], none⟩,
    ⟨some 91, .mv, [(.t 94)], [2], none⟩,
    ⟨some 95, .ext 0, [(.t 91)], [3], none⟩,
    ⟨some 96, .ext 1, [(.t 91)], [3], none⟩,
    ⟨some 15, .mv, [(.t 95)], [4, 2, 0, 1, 2, 3, 4], none⟩,
    ⟨some 16, .mv, [(.t 96)], [5, 6, 0, 1, 2, 3, 4, 5, 6], none⟩])
  (.seq (.region false [
    ⟨some 98, .mv, [(.t 8)], [], none⟩,
    ⟨some 99, .mv, [(.t 1)], [], none⟩,
    ⟨some 100, .call [22, 23], [(.c (D.fn 25 [])), (.t 98), (.t 99)], [0, 1], none⟩,
    ⟨some 97, .mv, [(.t 100)], [2], none⟩,
    ⟨some 101, .ext 0, [(.t 97)], [3], none⟩,
    ⟨some 102, .ext 1, [(.t 97)], [3], none⟩,
    ⟨some 17, .mv, [(.t 101)], [4, 2, 0, 1, 2, 3, 4], none⟩,
    ⟨some 18, .mv, [(.t 102)], [5, 6, 0, 1, 2, 3, 4, 5, 6], none⟩])
  (.seq (.region false [
    ⟨some 103, .mv, [(.t 7)], [], none⟩,
    ⟨some 104, .mv, [(.t 103)], [0], none⟩,
    ⟨some 105, .mv, [(.t 12)], [1], some (104, true)⟩,
    ⟨some 106, .bin .eql, [(.t 105), (.c (D.int .i64 0))], [2, 1], some (104, true)⟩,
    ⟨some 107, .pick, [(.t 104), (.t 106), (.c (D.bool false))], [1, 3], none⟩,
    ⟨some 108, .mv, [(.t 107)], [4, 1], none⟩,
    ⟨some 109, .mv, [(.t 14)], [5], some (108, true)⟩,
    ⟨some 110, .bin .eql, [(.t 109), (.c (D.int .i64 0))], [6, 5], some (108, true)⟩,
    ⟨some 111, .pick, [(.t 108), (.t 110), (.c (D.bool false))], [5, 7], none⟩,
    ⟨some 112, .mv, [(.t 111)], [8, 5], none⟩,
    ⟨some 113, .mv, [(.t 16)], [9], some (112, true)⟩,
    ⟨some 114, .bin .eql, [(.t 113), (.c (D.int .i64 0))], [10, 9], some (112, true)⟩,
    ⟨some 115, .pick, [(.t 112), (.t 114), (.c (D.bool false))], [9, 11], none⟩,
    ⟨some 116, .mv, [(.t 115)], [12, 9], none⟩,
    ⟨some 117, .mv, [(.t 18)], [13], some (116, true)⟩,
    ⟨some 118, .bin .eql, [(.t 117), (.c (D.int .i64 0))], [14, 13], some (116, true)⟩,
    ⟨some 119, .pick, [(.t 116), (.t 118), (.c (D.bool false))], [13, 15], none⟩,
    ⟨some 120, .mv, [(.t 119)], [16, 13], none⟩,
    ⟨some 121, .mv, [(.t 11)], [17], some (120, true)⟩,
    ⟨some 122, .bin .eql, [(.t 121), (.c (D.int .u8 0))], [18, 17], some (120, true)⟩,
    ⟨some 123, .mv, [(.t 122)], [19, 17, 17], some (120, true)⟩,
    ⟨some 124, .mv, [(.t 11)], [20], some (123, false)⟩,
    ⟨some 125, .mv, [(.t 13)], [20], some (123, false)⟩,
    ⟨some 126, .bin .eql, [(.t 124), (.t 125)], [21, 22, 20], some (123, false)⟩,
    ⟨some 127, .pick, [(.t 123), (.c (D.bool true)), (.t 126)], [20, 23, 17], some (120, true)⟩,
    ⟨some 128, .pick, [(.t 120), (.t 127), (.c (D.bool false))], [17, 24], none⟩,
    ⟨some 129, .mv, [(.t 128)], [25, 20], none⟩,
    ⟨some 130, .mv, [(.t 15)], [26], some (129, true)⟩,
    ⟨some 131, .bin .eql, [(.t 130), (.c (D.int .u8 0))], [27, 26], some (129, true)⟩,
    ⟨some 132, .mv, [(.t 131)], [28, 26, 26], some (129, true)⟩,
    ⟨some 133, .mv, [(.t 15)], [29], some (132, false)⟩,
    ⟨some 134, .mv, [(.t 17)], [29], some (132, false)⟩,
    ⟨some 135, .bin .eql, [(.t 133), (.t 134)], [30, 31, 29], some (132, false)⟩,
    ⟨some 136, .pick, [(.t 132), (.c (D.bool true)), (.t 135)], [29, 32, 26], some (129, true)⟩,
    ⟨some 137, .pick, [(.t 129), (.t 136), (.c (D.bool false))], [26, 33], none⟩,
    ⟨some 6, .mv, [(.t 137)], [34, 29, 0, 1, 2, 3, 4, 5, 6, 7, 8, 9, 10, 11, 12, 13, 14, 15, 16, 17, 18, 19, 20, 21, 22, 23, 24, 25, 26, 27, 28, 29, 30, 31, 32, 33, 34], none⟩])
  (.ret)))))))))))))⟩

/- 6: gatepath/gatepathlaw41.LeakRepeats -/
def c_gatepathlaw41_LeakRepeats : DFun := ⟨164, 26, [.p, .p, .p, .p], [.p ⟨false, [.bool]⟩], [.t 8],
  .seq (.region false [
    ⟨some 8, .mv, [(.c (D.bool false))], [], none⟩])
  (.seq (.region false [
    ⟨some 22, .call [11], [(.c (D.fn 23 []))], [], none⟩,
    ⟨some 9, .mv, [(.t 22)], [0, 0, 0], none⟩])
  (.seq (.seq (.region false [
    ⟨some 23, .mv, [(.t 0)], [], none⟩,
    ⟨some 24, .call [12], [(.c (D.fn 11 [])), (.t 23)], [0], none⟩,
    ⟨some 25, .mv, [(.t 24)], [1, 1], none⟩,
    ⟨some 26, .mv, [(.t 0)], [2], some (25, false)⟩,
    ⟨some 27, .call [13], [(.c (D.fn 16 [])), (.t 26)], [3, 2, 2], some (25, false)⟩,
    ⟨some 28, .bin .neq, [(.t 27), (.c (D.int .i64 0))], [4, 2], some (25, false)⟩,
    ⟨some 29, .pick, [(.t 25), (.c (D.bool true)), (.t 28)], [2, 5], none⟩,
    ⟨some 30, .mv, [(.t 29)], [6, 4], none⟩,
    ⟨some 31, .mv, [(.t 2)], [7], some (30, false)⟩,
    ⟨some 32, .bin .lss, [(.t 31), (.c (D.int .i64 0))], [8, 7], some (30, false)⟩,
    ⟨some 33, .pick, [(.t 30), (.c (D.bool true)), (.t 32)], [7, 9], none⟩,
    ⟨some 34, .mv, [(.t 33)], [10, 7], none⟩,
    ⟨some 35, .mv, [(.t 2)], [11], some (34, false)⟩,
    ⟨some 36, .mv, [(.t 1)], [11], some (34, false)⟩,
    ⟨some 37, .len, [(.t 36)], [13, 11], some (34, false)⟩,
    ⟨some 38, .bin .geq, [(.t 35), (.t 37)], [12, 14, 11], some (34, false)⟩,
    ⟨some 39, .pick, [(.t 34), (.c (D.bool true)), (.t 38)], [11, 15], none⟩,
    ⟨some 40, .mv, [(.t 39)], [16, 11], none⟩,
    ⟨some 41, .mv, [(.t 3)], [17], some (40, false)⟩,
    ⟨some 42, .bin .lss, [(.t 41), (.c (D.int .i64 0))], [18, 17], some (40, false)⟩,
    ⟨some 43, .pick, [(.t 40), (.c (D.bool true)), (.t 42)], [17, 19], none⟩,
    ⟨some 44, .mv, [(.t 43)], [20, 17], none⟩,
    ⟨some 45, .mv, [(.t 1)], [21], some (44, false)⟩,
    ⟨some 46, .len, [(.t 45)], [22, 21], some (44, false)⟩,
    ⟨some 47, .bin .gtr, [(.t 46), (.c (D.int .i64 30))], [23, 21], some (44, false)⟩,
    ⟨some 48, .pick, [(.t 44), (.c (D.bool true)), (.t 47)], [21, 24], none⟩,
    ⟨some 49, .mv, [(.t 48)], [25, 21], none⟩,
    ⟨some 50, .mv, [(.t 3)], [26], some (49, false)⟩,
    ⟨some 51, .mv, [(.t 1)], [26], some (49, false)⟩,
    ⟨some 52, .len, [(.t 51)], [28, 26], some (49, false)⟩,
    ⟨some 53, .bin .sub, [(.c (D.int .i64 30)), (.t 52)], [29, 26], some (49, false)⟩,
    ⟨some 54, .bin .gtr, [(.t 50), (.t 53)], [27, 30, 26], some (49, false)⟩,
    ⟨some 55, .pick, [(.t 49), (.c (D.bool true)), (.t 54)], [26, 31], none⟩,
    ⟨some 56, .mv, [(.t 55)], [32, 26], none⟩,
    ⟨some 57, .mv, [(.t 9)], [33], some (56, false)⟩,
    ⟨some 58, .not, [(.t 57)], [34, 33], some (56, false)⟩,
    ⟨some 59, .pick, [(.t 56), (.c (D.bool true)), (.t 58)], [33, 35], none⟩])
  (.cond (.t 59) (.seq (.region false [
    ⟨some 60, .mv, [(.t 9)], [], none⟩,
    ⟨some 8, .mv, [(.t 60)], [0, 0], none⟩])
  (.ret)) (.skip)))
  (.seq (.region false [
    ⟨some 61, .buildSl 4 23, [], [], none⟩,
    ⟨some 62, .mv, [(.t 1)], [], none⟩,
    ⟨some 63, .mv, [(.t 2)], [], none⟩,
    ⟨some 64, .slice (some 23) false true false, [(.t 62), (.t 63)], [1, 2], none⟩,
    ⟨some 65, .append 5 23 4, [(.t 61), (.t 64)], [0, 3], none⟩,
    ⟨some 10, .mv, [(.t 65)], [4, 4, 0, 1, 2, 3, 4], none⟩])
  (.seq (.seq (.region false [
    ⟨some 11, .mv, [(.c (D.int .i64 0))], [], none⟩])
  (.block 0 (.loop ⟨[0, 1, 2, 3, 9], [(10, .o 14 23), (11, .p ⟨false, [.int .i64]⟩)], []⟩ (.seq (.seq (.region false [
    ⟨some 66, .mv, [(.t 11)], [], none⟩,
    ⟨some 67, .mv, [(.t 3)], [], none⟩,
    ⟨some 68, .bin .lss, [(.t 66), (.t 67)], [0, 1], none⟩])
  (.cond (.t 68) (.skip) (.exit 0)))
  (.seq (.block 1 (.region false [
    ⟨some 71, .mv, [(.t 10)], [], none⟩,
    ⟨some 72, .mv, [(.t 1)], [], none⟩,
    ⟨some 73, .mv, [(.t 2)], [], none⟩,
    ⟨some 74, .idxA 23, [(.t 72), (.t 73)], [1, 2], none⟩,
    ⟨some 75, .load ⟨false, [.int .u32]⟩, [(.t 74)], [3], none⟩,
    ⟨some 76, .buildSl 6 23, [(.t 75)], [4], none⟩,
    ⟨some 77, .append 7 23 4, [(.t 71), (.t 76)], [0, 5], none⟩,
    ⟨some 10, .mv, [(.t 77)], [6, 6, 0, 1, 2, 3, 4, 5, 6], none⟩]))
  (.region false [
    ⟨some 69, .mv, [(.t 11)], [], none⟩,
    ⟨some 70, .bin .add, [(.t 69), (.c (D.int .i64 1))], [0], none⟩,
    ⟨some 11, .mv, [(.t 70)], [1, 0, 1], none⟩]))))))
  (.seq (.region false [
    ⟨some 78, .mv, [(.t 10)], [], none⟩,
    ⟨some 79, .mv, [(.t 1)], [], none⟩,
    ⟨some 80, .mv, [(.t 2)], [], none⟩,
    ⟨some 81, .slice (some 23) true false false, [(.t 79), (.t 80)], [1, 2], none⟩,
    ⟨some 82, .append 8 23 4, [(.t 78), (.t 81)], [0, 3], none⟩,
    ⟨some 10, .mv, [(.t 82)], [4, 4, 0, 1, 2, 3, 4], none⟩])
  (.seq (.region false [
    ⟨some 83, .mv, [(.t 10)], [], none⟩,
    ⟨some 84, .call [15], [(.c (D.fn 14 [])), (.t 83)], [0], none⟩,
    ⟨some 12, .mv, [(.t 84)], [1, 1, 0, 1], none⟩])
  (.seq (.seq (.region false [
    ⟨some 85, .mv, [(.t 12)], [], none⟩,
    ⟨some 86, .len, [(.t 85)], [0], none⟩,
    ⟨some 87, .mv, [(.t 1)], [], none⟩,
    ⟨some 88, .len, [(.t 87)], [2], none⟩,
    ⟨some 89, .bin .gtr, [(.t 86), (.t 88)], [1, 3], none⟩,
    ⟨some 90, .mv, [(.t 89)], [4], none⟩,
    ⟨some 91, .mv, [(.t 12)], [5], some (90, false)⟩,
    ⟨some 92, .mv, [(.t 1)], [5], some (90, false)⟩,
    ⟨some 93, .call [16], [(.c (D.fn 14 [])), (.t 92)], [7, 5, 5], some (90, false)⟩,
    ⟨some 94, .call [17], [(.c (D.fn 17 [])), (.t 91), (.t 93)], [6, 8, 8, 5], some (90, false)⟩,
    ⟨some 95, .not, [(.t 94)], [9, 5], some (90, false)⟩,
    ⟨some 96, .pick, [(.t 90), (.c (D.bool true)), (.t 95)], [5, 10], none⟩])
  (.cond (.t 96) (.seq (.region false [
    ⟨some 8, .mv, [(.c (D.bool false))], [], none⟩])
  (.ret)) (.skip)))
  (.seq (.seq (.region false [
    ⟨some 13, .mv, [(.c (D.int .i64 1))], [], none⟩])
  (.block 2 (.loop ⟨[0, 1, 9, 10, 12], [(13, .p ⟨false, [.int .i64]⟩)], [(8, .a 23), (15, .a 23)]⟩ (.seq (.seq (.region false [
    ⟨some 97, .mv, [(.t 13)], [], none⟩,
    ⟨some 98, .mv, [(.t 12)], [], none⟩,
    ⟨some 99, .len, [(.t 98)], [1], none⟩,
    ⟨some 100, .bin .lss, [(.t 97), (.t 99)], [0, 2], none⟩])
  (.cond (.t 100) (.skip) (.exit 2)))
  (.seq (.block 3 (.seq (.region true [
    ⟨some 103, .mv, [(.t 12)], [], none⟩,
    ⟨some 104, .mv, [(.t 13)], [], none⟩,
    ⟨some 105, .idxA 23, [(.t 103), (.t 104)], [0, 1], none⟩,
    ⟨some 106, .load ⟨false, [.int .u32]⟩, [(.t 105)], [2], none⟩,
    ⟨some 107, .mv, [(.t 12)], [], none⟩,
    ⟨some 108, .mv, [(.t 13)], [], none⟩,
    ⟨some 109, .bin .sub, [(.t 108), (.c (D.int .i64 1))], [5], none⟩,
    ⟨some 110, .idxA 23, [(.t 107), (.t 109)], [4, 6], none⟩,
    ⟨some 111, .load ⟨false, [.int .u32]⟩, [(.t 110)], [7], none⟩,
    ⟨some 112, .bin .eql, [(.t 106), (.t 111)], [3, 8], none⟩])
  (.cond (.t 112) (.seq (.region false [
    ⟨some 8, .mv, [(.c (D.bool false))], [], none⟩])
  (.ret)) (.skip))))
  (.region false [
    ⟨some 101, .mv, [(.t 13)], [], none⟩,
    ⟨some 102, .bin .add, [(.t 101), (.c (D.int .i64 1))], [0], none⟩,
    ⟨some 13, .mv, [(.t 102)], [1, 0, 1], none⟩]))))))
  (.seq (.region false [
    ⟨some 114, .mv, [(.t 0)], [], none⟩,
    ⟨some 115, .mv, [(.t 1)], [], none⟩,
    ⟨some 116, .call [18, 19], [(.c (D.fn 20 [])), (.t 114), (.t 115)], [0, 1], none⟩,
    ⟨some 113, .mv, [(.t 116)], [2], none⟩,
    ⟨some 117, .ext 0, [(.t 113)], [3], none⟩,
    ⟨some 118, .ext 1, [(.t 113)], [3], none⟩,
    ⟨some 14, .alloc 9 [(D.int .i64 0), (D.int .i64 0), (D.int .i64 0), (D.int .i64 0)], [], [], none⟩,
    ⟨none, .store ⟨true, [.int .i64, .int .i64, .int .i64, .int .i64]⟩, [(.t 14), (.t 117)], [6, 4, 2, 0, 1, 2, 3, 4, 6], none⟩,
    ⟨some 15, .mv, [(.t 118)], [5, 7, 0, 1, 2, 3, 4, 5, 6, 7], none⟩])
  (.seq (.region false [
    ⟨some 120, .mv, [(.t 0)], [], none⟩,
    ⟨some 121, .mv, [(.t 10)], [], none⟩,
    ⟨some 122, .call [20, 21], [(.c (D.fn 20 [])), (.t 120), (.t 121)], [0, 1], none⟩,
    ⟨some 119, .mv, [(.t 122)], [2], none⟩,
    ⟨some 123, .ext 0, [(.t 119)], [3], none⟩,
    ⟨some 124, .ext 1, [(.t 119)], [3], none⟩,
    ⟨some 16, .alloc 10 [(D.int .i64 0), (D.int .i64 0), (D.int .i64 0), (D.int .i64 0)], [], [], none⟩,
    ⟨none, .store ⟨true, [.int .i64, .int .i64, .int .i64, .int .i64]⟩, [(.t 16), (.t 123)], [6, 4, 2, 0, 1, 2, 3, 4, 6], none⟩,
    ⟨some 17, .mv, [(.t 124)], [5, 7, 0, 1, 2, 3, 4, 5, 6, 7], none⟩])
  (.seq (.region false [
    ⟨some 126, .mv, [(.t 0)], [], none⟩,
    ⟨some 127, .mv, [(.t 1)], [], none⟩,
    ⟨some 128, .call [22, 23], [(.c (D.fn 25 [])), (.t 126), (.t 127)], [0, 1], none⟩,
    ⟨some 125, .mv, [(.t 128)], [2], none⟩,
    ⟨some 129, .ext 0, [(.t 125)], [3], none⟩,
    ⟨some 130, .ext 1, [(.t 125)], [3], none⟩,
    ⟨some 18, .mv, [(.t 129)], [4, 2, 0, 1, 2, 3, 4], none⟩,
    ⟨some 19, .mv, [(.t 130)], [5, 6, 0, 1, 2, 3, 4, 5, 6], none⟩])
  (.seq (.region false [
    ⟨some 132, .mv, [(.t 0)], [], none⟩,
    ⟨some 133, .mv, [(.t 10)], [], none⟩,
    ⟨some 134, .call [24, 25], [(.c (D.fn 25 [])), (.t 132), (.t 133)], [0, 1], none⟩,
    ⟨some 131, .mv, [(.t 134)], [2], none⟩,
    ⟨some 135, .ext 0, [(.t 131)], [3], none⟩,
    ⟨some 136, .ext 1, [(.t 131)], [3], none⟩,
    ⟨some 20, .mv, [(.t 135)], [4, 2, 0, 1, 2, 3, 4], none⟩,
    ⟨some 21, .mv, [(.t 136)], [5, 6, 0, 1, 2, 3, 4, 5, 6], none⟩])
  (.seq (.region false [
    ⟨some 137, .mv, [(.t 9)], [], none⟩,
    ⟨some 138, .mv, [(.t 137)], [0], none⟩,
    ⟨some 139, .mv, [(.t 15)], [1], some (138, true)⟩,
    ⟨some 140, .bin .eql, [(.t 139), (.c (D.int .i64 0))], [2, 1], some (138, true)⟩,
    ⟨some 141, .pick, [(.t 138), (.t 140), (.c (D.bool false))], [1, 3], none⟩,
    ⟨some 142, .mv, [(.t 141)], [4, 1], none⟩,
    ⟨some 143, .mv, [(.t 17)], [5], some (142, true)⟩,
    ⟨some 144, .bin .eql, [(.t 143), (.c (D.int .i64 0))], [6, 5], some (142, true)⟩,
    ⟨some 145, .pick, [(.t 142), (.t 144), (.c (D.bool false))], [5, 7], none⟩,
    ⟨some 146, .mv, [(.t 145)], [8, 5], none⟩,
    ⟨some 147, .load ⟨true, [.int .i64, .int .i64, .int .i64, .int .i64]⟩, [(.t 14)], [9], some (146, true)⟩,
    ⟨some 148, .load ⟨true, [.int .i64, .int .i64, .int .i64, .int .i64]⟩, [(.t 16)], [9], some (146, true)⟩,
    ⟨some 149, .eqv false ⟨true, [.int .i64, .int .i64, .int .i64, .int .i64]⟩, [(.t 147), (.t 148)], [10, 11, 9], some (146, true)⟩,
    ⟨some 150, .pick, [(.t 146), (.t 149), (.c (D.bool false))], [9, 12], none⟩,
    ⟨some 151, .mv, [(.t 150)], [13, 9], none⟩,
    ⟨some 152, .mv, [(.t 19)], [14], some (151, true)⟩,
    ⟨some 153, .bin .eql, [(.t 152), (.c (D.int .i64 0))], [15, 14], some (151, true)⟩,
    ⟨some 154, .pick, [(.t 151), (.t 153), (.c (D.bool false))], [14, 16], none⟩,
    ⟨some 155, .mv, [(.t 154)], [17, 14], none⟩,
    ⟨some 156, .mv, [(.t 21)], [18], some (155, true)⟩,
    ⟨some 157, .bin .eql, [(.t 156), (.c (D.int .i64 0))], [19, 18], some (155, true)⟩,
    ⟨some 158, .pick, [(.t 155), (.t 157), (.c (D.bool false))], [18, 20], none⟩,
    ⟨some 159, .mv, [(.t 158)], [21, 18], none⟩,
    ⟨some 160, .mv, [(.t 18)], [22], some (159, true)⟩,
    ⟨some 161, .mv, [(.t 20)], [22], some (159, true)⟩,
    ⟨some 162, .bin .eql, [(.t 160), (.t 161)], [23, 24, 22], some (159, true)⟩,
    ⟨some 163, .pick, [(.t 159), (.t 162), (.c (D.bool false))], [22, 25], none⟩,
    ⟨some 8, .mv, [(.t 163)], [26, 22, 0, 1, 2, 3, 4, 5, 6, 7, 8, 9, 10, 11, 12, 13, 14, 15, 16, 17, 18, 19, 20, 21, 22, 23, 24, 25, 26], none⟩])
  (.ret))))))))))))))⟩

/- 7: gatepath/gatepathlaw41.LeakBoth -/
def c_gatepathlaw41_LeakBoth : DFun := ⟨72, 8, [.p, .p], [.p ⟨false, [.bool]⟩], [.t 4],
  .seq (.region false [
    ⟨some 4, .mv, [(.c (D.bool false))], [], none⟩])
  (.seq (.region false [
    ⟨some 10, .call [2], [(.c (D.fn 23 []))], [], none⟩,
    ⟨some 5, .mv, [(.t 10)], [0, 0, 0], none⟩])
  (.seq (.seq (.region false [
    ⟨some 11, .mv, [(.t 0)], [], none⟩,
    ⟨some 12, .call [3], [(.c (D.fn 11 [])), (.t 11)], [0], none⟩,
    ⟨some 13, .mv, [(.t 12)], [1, 1], none⟩,
    ⟨some 14, .mv, [(.t 1)], [2], some (13, false)⟩,
    ⟨some 15, .len, [(.t 14)], [3, 2], some (13, false)⟩,
    ⟨some 16, .bin .gtr, [(.t 15), (.c (D.int .i64 100))], [4, 2], some (13, false)⟩,
    ⟨some 17, .pick, [(.t 13), (.c (D.bool true)), (.t 16)], [2, 5], none⟩,
    ⟨some 18, .mv, [(.t 17)], [6, 2], none⟩,
    ⟨some 19, .mv, [(.t 5)], [7], some (18, false)⟩,
    ⟨some 20, .not, [(.t 19)], [8, 7], some (18, false)⟩,
    ⟨some 21, .pick, [(.t 18), (.c (D.bool true)), (.t 20)], [7, 9], none⟩])
  (.cond (.t 21) (.seq (.region false [
    ⟨some 22, .mv, [(.t 5)], [], none⟩,
    ⟨some 4, .mv, [(.t 22)], [0, 0], none⟩])
  (.ret)) (.skip)))
  (.seq (.region false [
    ⟨some 24, .mv, [(.t 0)], [], none⟩,
    ⟨some 25, .mv, [(.t 1)], [], none⟩,
    ⟨some 26, .call [4, 5], [(.c (D.fn 24 [])), (.t 24), (.t 25)], [0, 1], none⟩,
    ⟨some 23, .mv, [(.t 26)], [2], none⟩,
    ⟨some 27, .ext 0, [(.t 23)], [3], none⟩,
    ⟨some 28, .ext 1, [(.t 23)], [3], none⟩,
    ⟨some 6, .mv, [(.t 27)], [4, 2, 0, 1, 2, 3, 4], none⟩,
    ⟨some 7, .mv, [(.t 28)], [5, 6, 0, 1, 2, 3, 4, 5, 6], none⟩])
  (.seq (.region false [
    ⟨some 30, .mv, [(.t 0)], [], none⟩,
    ⟨some 31, .mv, [(.t 1)], [], none⟩,
    ⟨some 32, .call [6, 7], [(.c (D.fn 25 [])), (.t 30), (.t 31)], [0, 1], none⟩,
    ⟨some 29, .mv, [(.t 32)], [2], none⟩,
    ⟨some 33, .ext 0, [(.t 29)], [3], none⟩,
    ⟨some 34, .ext 1, [(.t 29)], [3], none⟩,
    ⟨some 8, .mv, [(.t 33)], [4, 2, 0, 1, 2, 3, 4], none⟩,
    ⟨some 9, .mv, [(.t 34)], [5, 6, 0, 1, 2, 3, 4, 5, 6], none⟩])
  (.seq (.seq (.region false [
    ⟨some 35, .mv, [(.t 7)], [], none⟩,
    ⟨some 36, .bin .neq, [(.t 35), (.c (D.int .i64 0))], [0], none⟩])
  (.cond (.t 36) (.seq (.region false [
    ⟨some 37, .mv, [(.t 5)], [], none⟩,
    ⟨some 38, .mv, [(.t 37)], [0], none⟩,
    ⟨some 39, .mv, [(.t 9)], [1], some (38, true)⟩,
    ⟨some 40, .mv, [(.t 7)], [1], some (38, true)⟩,
    ⟨some 41, .bin .eql, [(.t 39), (.t 40)], [2, 3, 1], some (38, true)⟩,
    ⟨some 42, .pick, [(.t 38), (.t 41), (.c (D.bool false))], [1, 4], none⟩,
    ⟨some 43, .mv, [(.t 42)], [5, 1], none⟩,
    ⟨some 44, .mv, [(.t 6)], [6], some (43, true)⟩,
    ⟨some 45, .bin .eql, [(.t 44), (.c (D.int .u8 0))], [7, 6], some (43, true)⟩,
    ⟨some 46, .pick, [(.t 43), (.t 45), (.c (D.bool false))], [6, 8], none⟩,
    ⟨some 47, .mv, [(.t 46)], [9, 6], none⟩,
    ⟨some 48, .mv, [(.t 8)], [10], some (47, true)⟩,
    ⟨some 49, .bin .eql, [(.t 48), (.c (D.int .u8 0))], [11, 10], some (47, true)⟩,
    ⟨some 50, .pick, [(.t 47), (.t 49), (.c (D.bool false))], [10, 12], none⟩,
    ⟨some 4, .mv, [(.t 50)], [13, 10, 0, 1, 2, 3, 4, 5, 6, 7, 8, 9, 10, 11, 12, 13], none⟩])
  (.ret)) (.skip)))
  (.seq (.region false [
    ⟨some 51, .mv, [(.t 5)], [], none⟩,
    ⟨some 52, .mv, [(.t 51)], [0], none⟩,
    ⟨some 53, .mv, [(.t 9)], [1], some (52, true)⟩,
    ⟨some 54, .bin .eql, [(.t 53), (.c (D.int .i64 0))], [2, 1], some (52, true)⟩,
    ⟨some 55, .pick, [(.t 52), (.t 54), (.c (D.bool false))], [1, 3], none⟩,
    ⟨some 56, .mv, [(.t 55)], [4, 1], none⟩,
    ⟨some 57, .mv, [(.t 6)], [5], some (56, true)⟩,
    ⟨some 58, .bin .neq, [(.t 57), (.c (D.int .u8 1))], [6, 5], some (56, true)⟩,
    ⟨some 59, .mv, [(.t 58)], [7, 5, 5], some (56, true)⟩,
    ⟨some 60, .mv, [(.t 8)], [8], some (59, false)⟩,
    ⟨some 61, .bin .eql, [(.t 60), (.c (D.int .u8 1))], [9, 8], some (59, false)⟩,
    ⟨some 62, .pick, [(.t 59), (.c (D.bool true)), (.t 61)], [8, 10, 5], some (56, true)⟩,
    ⟨some 63, .pick, [(.t 56), (.t 62), (.c (D.bool false))], [5, 11], none⟩,
    ⟨some 64, .mv, [(.t 63)], [12, 8], none⟩,
    ⟨some 65, .mv, [(.t 8)], [13], some (64, true)⟩,
    ⟨some 66, .bin .neq, [(.t 65), (.c (D.int .u8 2))], [14, 13], some (64, true)⟩,
    ⟨some 67, .mv, [(.t 66)], [15, 13, 13], some (64, true)⟩,
    ⟨some 68, .mv, [(.t 6)], [16], some (67, false)⟩,
    ⟨some 69, .bin .eql, [(.t 68), (.c (D.int .u8 2))], [17, 16], some (67, false)⟩,
    ⟨some 70, .pick, [(.t 67), (.c (D.bool true)), (.t 69)], [16, 18, 13], some (64, true)⟩,
    ⟨some 71, .pick, [(.t 64), (.t 70), (.c (D.bool false))], [13, 19], none⟩,
    ⟨some 4, .mv, [(.t 71)], [20, 16, 0, 1, 2, 3, 4, 5, 6, 7, 8, 9, 10, 11, 12, 13, 14, 15, 16, 17, 18, 19, 20], none⟩])
  (.ret)))))))⟩

/- 28: gatepath/gatepathlaw41.right -/
def c_gatepathlaw41_right : DFun := ⟨32, 6, [.p, .p, .p, .p], [.p ⟨false, [.bool]⟩], [.t 8],
  .seq (.region false [
    ⟨some 8, .mv, [(.c (D.bool false))], [], none⟩])
  (.seq (.region false [
    ⟨some 12, .mv, [(.t 0)], [], none⟩,
    ⟨some 13, .mv, [(.t 1)], [], none⟩,
    ⟨some 14, .mv, [(.t 2)], [], none⟩,
    ⟨some 15, .call [4, 5], [(.c (D.fn 12 [])), (.t 12), (.t 13), (.t 14)], [0, 1, 2], none⟩,
    ⟨some 11, .mv, [(.t 15)], [3], none⟩,
    ⟨some 16, .ext 0, [(.t 11)], [4], none⟩,
    ⟨some 17, .ext 1, [(.t 11)], [4], none⟩,
    ⟨some 9, .mv, [(.t 16)], [5, 3, 0, 1, 2, 3, 4, 5], none⟩,
    ⟨some 10, .mv, [(.t 17)], [6, 7, 0, 1, 2, 3, 4, 5, 6, 7], none⟩])
  (.seq (.region false [
    ⟨some 18, .mv, [(.t 10)], [], none⟩,
    ⟨some 19, .bin .eql, [(.t 18), (.c (D.int .i64 0))], [0], none⟩,
    ⟨some 20, .mv, [(.t 19)], [1], none⟩,
    ⟨some 21, .mv, [(.t 9)], [2], some (20, true)⟩,
    ⟨some 22, .bin .eql, [(.t 21), (.c (D.int .u8 1))], [3, 2], some (20, true)⟩,
    ⟨some 23, .mv, [(.t 22)], [4, 2, 2], some (20, true)⟩,
    ⟨some 24, .mv, [(.t 3)], [5], some (23, false)⟩,
    ⟨some 25, .not, [(.t 24)], [6, 5], some (23, false)⟩,
    ⟨some 26, .mv, [(.t 25)], [7, 5, 5], some (23, false)⟩,
    ⟨some 27, .mv, [(.t 9)], [8], some (26, true)⟩,
    ⟨some 28, .bin .eql, [(.t 27), (.c (D.int .u8 0))], [9, 8], some (26, true)⟩,
    ⟨some 29, .pick, [(.t 26), (.t 28), (.c (D.bool false))], [8, 10, 5], some (23, false)⟩,
    ⟨some 30, .pick, [(.t 23), (.c (D.bool true)), (.t 29)], [5, 11, 2], some (20, true)⟩,
    ⟨some 31, .pick, [(.t 20), (.t 30), (.c (D.bool false))], [2, 12], none⟩,
    ⟨some 8, .mv, [(.t 31)], [13, 8, 0, 1, 2, 3, 4, 5, 6, 7, 8, 9, 10, 11, 12, 13], none⟩])
  (.ret)))⟩

/- 27: gatepath/gatepathlaw41.shaped -/
def c_gatepathlaw41_shaped : DFun := ⟨78, 5, [.p, .p, .p], [.p ⟨false, [.bool]⟩], [.t 6],
  .seq (.region false [
    ⟨some 6, .mv, [(.c (D.bool false))], [], none⟩])
  (.seq (.seq (.region false [
    ⟨some 7, .mv, [(.c (D.int .i64 0))], [], none⟩])
  (.block 0 (.loop ⟨[0, 1, 2], [(7, .p ⟨false, [.int .i64]⟩)], []⟩ (.seq (.seq (.region false [
    ⟨some 13, .mv, [(.t 7)], [], none⟩,
    ⟨some 14, .mv, [(.t 1)], [], none⟩,
    ⟨some 15, .len, [(.t 14)], [1], none⟩,
    ⟨some 16, .bin .lss, [(.t 13), (.t 15)], [0, 2], none⟩])
  (.cond (.t 16) (.skip) (.exit 0)))
  (.seq (.block 1 (.seq (.region false [
    ⟨some 8, .mv, [(.c (D.bool true))], [], none⟩])
  (.seq (.seq (.region false [
    ⟨some 9, .mv, [(.c (D.int .i64 0))], [], none⟩])
  (.block 2 (.loop ⟨[0, 1, 2, 7], [(8, .p ⟨false, [.bool]⟩), (9, .p ⟨false, [.int .i64]⟩)], []⟩ (.seq (.seq (.region false [
    ⟨some 19, .mv, [(.t 9)], [], none⟩,
    ⟨some 20, .mv, [(.t 7)], [], none⟩,
    ⟨some 21, .bin .lss, [(.t 19), (.t 20)], [0, 1], none⟩])
  (.cond (.t 21) (.skip) (.exit 2)))
  (.seq (.block 3 (.region true [
    ⟨some 24, .mv, [(.t 8)], [], none⟩,
    ⟨some 25, .mv, [(.t 24)], [0], none⟩,
    ⟨some 26, .mv, [(.t 0)], [1], some (25, true)⟩,
    ⟨some 27, .mv, [(.t 1)], [1], some (25, true)⟩,
    ⟨some 28, .mv, [(.t 9)], [1], some (25, true)⟩,
    ⟨some 29, .idxA 23, [(.t 27), (.t 28)], [3, 4, 1], some (25, true)⟩,
    ⟨some 30, .load ⟨false, [.int .u32]⟩, [(.t 29)], [5, 1], some (25, true)⟩,
    ⟨some 31, .mv, [(.t 1)], [1], some (25, true)⟩,
    ⟨some 32, .mv, [(.t 9)], [1], some (25, true)⟩,
    ⟨some 33, .bin .add, [(.t 32), (.c (D.int .i64 1))], [8, 1], some (25, true)⟩,
    ⟨some 34, .idxA 23, [(.t 31), (.t 33)], [7, 9, 1], some (25, true)⟩,
    ⟨some 35, .load ⟨false, [.int .u32]⟩, [(.t 34)], [10, 1], some (25, true)⟩,
    ⟨some 36, .mv, [(.t 2)], [1], some (25, true)⟩,
    ⟨some 37, .call [3], [(.c (D.fn 28 [])), (.t 26), (.t 30), (.t 35), (.t 36)], [2, 6, 11, 12, 1, 1], some (25, true)⟩,
    ⟨some 38, .pick, [(.t 25), (.t 37), (.c (D.bool false))], [1, 13], none⟩,
    ⟨some 8, .mv, [(.t 38)], [14, 13, 0, 1, 2, 3, 4, 5, 6, 7, 8, 9, 10, 11, 12, 13, 14], none⟩]))
  (.region false [
    ⟨some 22, .mv, [(.t 9)], [], none⟩,
    ⟨some 23, .bin .add, [(.t 22), (.c (D.int .i64 1))], [0], none⟩,
    ⟨some 9, .mv, [(.t 23)], [1, 0, 1], none⟩]))))))
  (.seq (.region false [
    ⟨some 10, .mv, [(.c (D.int .i64 0))], [], none⟩])
  (.block 4 (.loop ⟨[0, 1, 2, 7, 8], [(10, .p ⟨false, [.int .i64]⟩)], []⟩ (.seq (.seq (.region false [
    ⟨some 39, .mv, [(.t 10)], [], none⟩,
    ⟨some 40, .mv, [(.t 7)], [], none⟩,
    ⟨some 41, .bin .add, [(.t 40), (.c (D.int .i64 1))], [1], none⟩,
    ⟨some 42, .bin .leq, [(.t 39), (.t 41)], [0, 2], none⟩,
    ⟨some 43, .mv, [(.t 42)], [3], none⟩,
    ⟨some 44, .mv, [(.t 10)], [4], some (43, true)⟩,
    ⟨some 45, .mv, [(.t 1)], [4], some (43, true)⟩,
    ⟨some 46, .len, [(.t 45)], [6, 4], some (43, true)⟩,
    ⟨some 47, .bin .lss, [(.t 44), (.t 46)], [5, 7, 4], some (43, true)⟩,
    ⟨some 48, .pick, [(.t 43), (.t 47), (.c (D.bool false))], [4, 8], none⟩])
  (.cond (.t 48) (.skip) (.exit 4)))
  (.seq (.block 5 (.seq (.region false [
    ⟨some 11, .mv, [(.c (D.bool true))], [], none⟩])
  (.seq (.seq (.region false [
    ⟨some 51, .mv, [(.t 10)], [], none⟩,
    ⟨some 12, .mv, [(.t 51)], [0, 0], none⟩])
  (.block 6 (.loop ⟨[0, 1, 2, 7, 8, 10], [(11, .p ⟨false, [.bool]⟩), (12, .p ⟨false, [.int .i64]⟩)], []⟩ (.seq (.seq (.region false [
    ⟨some 52, .mv, [(.t 12)], [], none⟩,
    ⟨some 53, .bin .add, [(.t 52), (.c (D.int .i64 1))], [0], none⟩,
    ⟨some 54, .mv, [(.t 1)], [], none⟩,
    ⟨some 55, .len, [(.t 54)], [2], none⟩,
    ⟨some 56, .bin .lss, [(.t 53), (.t 55)], [1, 3], none⟩])
  (.cond (.t 56) (.skip) (.exit 6)))
  (.seq (.block 7 (.region true [
    ⟨some 59, .mv, [(.t 11)], [], none⟩,
    ⟨some 60, .mv, [(.t 59)], [0], none⟩,
    ⟨some 61, .mv, [(.t 0)], [1], some (60, true)⟩,
    ⟨some 62, .mv, [(.t 1)], [1], some (60, true)⟩,
    ⟨some 63, .mv, [(.t 12)], [1], some (60, true)⟩,
    ⟨some 64, .bin .add, [(.t 63), (.c (D.int .i64 1))], [4, 1], some (60, true)⟩,
    ⟨some 65, .idxA 23, [(.t 62), (.t 64)], [3, 5, 1], some (60, true)⟩,
    ⟨some 66, .load ⟨false, [.int .u32]⟩, [(.t 65)], [6, 1], some (60, true)⟩,
    ⟨some 67, .mv, [(.t 1)], [1], some (60, true)⟩,
    ⟨some 68, .mv, [(.t 12)], [1], some (60, true)⟩,
    ⟨some 69, .idxA 23, [(.t 67), (.t 68)], [8, 9, 1], some (60, true)⟩,
    ⟨some 70, .load ⟨false, [.int .u32]⟩, [(.t 69)], [10, 1], some (60, true)⟩,
    ⟨some 71, .mv, [(.t 2)], [1], some (60, true)⟩,
    ⟨some 72, .call [4], [(.c (D.fn 28 [])), (.t 61), (.t 66), (.t 70), (.t 71)], [2, 7, 11, 12, 1, 1], some (60, true)⟩,
    ⟨some 73, .pick, [(.t 60), (.t 72), (.c (D.bool false))], [1, 13], none⟩,
    ⟨some 11, .mv, [(.t 73)], [14, 13, 0, 1, 2, 3, 4, 5, 6, 7, 8, 9, 10, 11, 12, 13, 14], none⟩]))
  (.region false [
    ⟨some 57, .mv, [(.t 12)], [], none⟩,
    ⟨some 58, .bin .add, [(.t 57), (.c (D.int .i64 1))], [0], none⟩,
    ⟨some 12, .mv, [(.t 58)], [1, 0, 1], none⟩]))))))
  (.seq (.region false [
    ⟨some 74, .mv, [(.t 8)], [], none⟩,
    ⟨some 75, .mv, [(.t 74)], [0], none⟩,
    ⟨some 76, .mv, [(.t 11)], [1], some (75, true)⟩,
    ⟨some 77, .pick, [(.t 75), (.t 76), (.c (D.bool false))], [1, 2], none⟩])
  (.cond (.t 77) (.seq (.region false [
    ⟨some 6, .mv, [(.c (D.bool true))], [], none⟩])
  (.ret)) (.skip))))))
  (.region false [
    ⟨some 49, .mv, [(.t 10)], [], none⟩,
    ⟨some 50, .bin .add, [(.t 49), (.c (D.int .i64 1))], [0], none⟩,
    ⟨some 10, .mv, [(.t 50)], [1, 0, 1], none⟩])))))))))
  (.region false [
    ⟨some 17, .mv, [(.t 7)], [], none⟩,
    ⟨some 18, .bin .add, [(.t 17), (.c (D.int .i64 1))], [0], none⟩,
    ⟨some 7, .mv, [(.t 18)], [1, 0, 1], none⟩]))))))
  (.seq (.region false [
    ⟨some 6, .mv, [(.c (D.bool false))], [], none⟩])
  (.ret)))⟩

/- 8: gatepath/gatepathlaw41.LeakShapes -/
def c_gatepathlaw41_LeakShapes : DFun := ⟨117, 14, [.p, .p], [.p ⟨false, [.bool]⟩], [.t 4],
  .seq (.region false [
    ⟨some 4, .mv, [(.c (D.bool false))], [], none⟩])
  (.seq (.region false [
    ⟨some 16, .call [2], [(.c (D.fn 23 []))], [], none⟩,
    ⟨some 5, .mv, [(.t 16)], [0, 0, 0], none⟩])
  (.seq (.seq (.region false [
    ⟨some 17, .mv, [(.t 0)], [], none⟩,
    ⟨some 18, .call [3], [(.c (D.fn 11 [])), (.t 17)], [0], none⟩,
    ⟨some 19, .mv, [(.t 18)], [1, 1], none⟩,
    ⟨some 20, .mv, [(.t 0)], [2], some (19, false)⟩,
    ⟨some 21, .call [4], [(.c (D.fn 16 [])), (.t 20)], [3, 2, 2], some (19, false)⟩,
    ⟨some 22, .bin .neq, [(.t 21), (.c (D.int .i64 0))], [4, 2], some (19, false)⟩,
    ⟨some 23, .pick, [(.t 19), (.c (D.bool true)), (.t 22)], [2, 5], none⟩,
    ⟨some 24, .mv, [(.t 23)], [6, 4], none⟩,
    ⟨some 25, .mv, [(.t 1)], [7], some (24, false)⟩,
    ⟨some 26, .len, [(.t 25)], [8, 7], some (24, false)⟩,
    ⟨some 27, .bin .gtr, [(.t 26), (.c (D.int .i64 30))], [9, 7], some (24, false)⟩,
    ⟨some 28, .pick, [(.t 24), (.c (D.bool true)), (.t 27)], [7, 10], none⟩,
    ⟨some 29, .mv, [(.t 28)], [11, 7], none⟩,
    ⟨some 30, .mv, [(.t 5)], [12], some (29, false)⟩,
    ⟨some 31, .not, [(.t 30)], [13, 12], some (29, false)⟩,
    ⟨some 32, .pick, [(.t 29), (.c (D.bool true)), (.t 31)], [12, 14], none⟩])
  (.cond (.t 32) (.seq (.region false [
    ⟨some 33, .mv, [(.t 5)], [], none⟩,
    ⟨some 4, .mv, [(.t 33)], [0, 0], none⟩])
  (.ret)) (.skip)))
  (.seq (.region false [
    ⟨some 34, .mv, [(.t 1)], [], none⟩,
    ⟨some 35, .call [5], [(.c (D.fn 26 [])), (.t 34)], [0], none⟩,
    ⟨some 6, .mv, [(.t 35)], [1, 1, 0, 1], none⟩])
  (.seq (.region false [
    ⟨some 7, .mv, [(.c (D.int .u8 0))], [], none⟩])
  (.seq (.seq (.region false [
    ⟨some 36, .mv, [(.t 0)], [], none⟩,
    ⟨some 37, .mv, [(.t 6)], [], none⟩,
    ⟨some 38, .call [6], [(.c (D.fn 27 [])), (.t 36), (.t 37), (.c (D.bool true))], [0, 1], none⟩])
  (.cond (.t 38) (.region false [
    ⟨some 7, .mv, [(.c (D.int .u8 1))], [], none⟩]) (.skip)))
  (.seq (.seq (.region false [
    ⟨some 39, .mv, [(.t 0)], [], none⟩,
    ⟨some 40, .mv, [(.t 6)], [], none⟩,
    ⟨some 41, .call [7], [(.c (D.fn 27 [])), (.t 39), (.t 40), (.c (D.bool false))], [0, 1], none⟩,
    ⟨some 42, .not, [(.t 41)], [2], none⟩])
  (.cond (.t 42) (.region false [
    ⟨some 7, .mv, [(.c (D.int .u8 2))], [], none⟩]) (.skip)))
  (.seq (.region false [
    ⟨some 8, .mv, [(.c (D.bool true))], [], none⟩,
    ⟨some 9, .mv, [(.c (D.bool true))], [0, 0], none⟩])
  (.seq (.seq (.region false [
    ⟨some 10, .mv, [(.c (D.int .i64 0))], [], none⟩])
  (.block 0 (.loop ⟨[0, 1, 5, 6, 7], [(8, .p ⟨false, [.bool]⟩), (9, .p ⟨false, [.bool]⟩), (10, .p ⟨false, [.int .i64]⟩)], [(5, .a 23)]⟩ (.seq (.seq (.region false [
    ⟨some 43, .mv, [(.t 10)], [], none⟩,
    ⟨some 44, .bin .add, [(.t 43), (.c (D.int .i64 1))], [0], none⟩,
    ⟨some 45, .mv, [(.t 6)], [], none⟩,
    ⟨some 46, .len, [(.t 45)], [2], none⟩,
    ⟨some 47, .bin .lss, [(.t 44), (.t 46)], [1, 3], none⟩])
  (.cond (.t 47) (.skip) (.exit 0)))
  (.seq (.block 1 (.seq (.region true [
    ⟨some 50, .mv, [(.t 8)], [], none⟩,
    ⟨some 51, .mv, [(.t 50)], [0], none⟩,
    ⟨some 52, .mv, [(.t 0)], [1], some (51, true)⟩,
    ⟨some 53, .mv, [(.t 6)], [1], some (51, true)⟩,
    ⟨some 54, .mv, [(.t 10)], [1], some (51, true)⟩,
    ⟨some 55, .idxA 23, [(.t 53), (.t 54)], [3, 4, 1], some (51, true)⟩,
    ⟨some 56, .load ⟨false, [.int .u32]⟩, [(.t 55)], [5, 1], some (51, true)⟩,
    ⟨some 57, .mv, [(.t 6)], [1], some (51, true)⟩,
    ⟨some 58, .mv, [(.t 10)], [1], some (51, true)⟩,
    ⟨some 59, .bin .add, [(.t 58), (.c (D.int .i64 1))], [8, 1], some (51, true)⟩,
    ⟨some 60, .idxA 23, [(.t 57), (.t 59)], [7, 9, 1], some (51, true)⟩,
    ⟨some 61, .load ⟨false, [.int .u32]⟩, [(.t 60)], [10, 1], some (51, true)⟩,
    ⟨some 62, .call [8], [(.c (D.fn 28 [])), (.t 52), (.t 56), (.t 61), (.c (D.bool false))], [2, 6, 11, 1, 1], some (51, true)⟩,
    ⟨some 63, .pick, [(.t 51), (.t 62), (.c (D.bool false))], [1, 12], none⟩,
    ⟨some 8, .mv, [(.t 63)], [13, 12, 0, 1, 2, 3, 4, 5, 6, 7, 8, 9, 10, 11, 12, 13], none⟩])
  (.region true [
    ⟨some 64, .mv, [(.t 9)], [], none⟩,
    ⟨some 65, .mv, [(.t 64)], [0], none⟩,
    ⟨some 66, .mv, [(.t 0)], [1], some (65, true)⟩,
    ⟨some 67, .mv, [(.t 6)], [1], some (65, true)⟩,
    ⟨some 68, .mv, [(.t 10)], [1], some (65, true)⟩,
    ⟨some 69, .idxA 23, [(.t 67), (.t 68)], [3, 4, 1], some (65, true)⟩,
    ⟨some 70, .load ⟨false, [.int .u32]⟩, [(.t 69)], [5, 1], some (65, true)⟩,
    ⟨some 71, .mv, [(.t 6)], [1], some (65, true)⟩,
    ⟨some 72, .mv, [(.t 10)], [1], some (65, true)⟩,
    ⟨some 73, .bin .add, [(.t 72), (.c (D.int .i64 1))], [8, 1], some (65, true)⟩,
    ⟨some 74, .idxA 23, [(.t 71), (.t 73)], [7, 9, 1], some (65, true)⟩,
    ⟨some 75, .load ⟨false, [.int .u32]⟩, [(.t 74)], [10, 1], some (65, true)⟩,
    ⟨some 76, .call [9], [(.c (D.fn 28 [])), (.t 66), (.t 70), (.t 75), (.c (D.bool true))], [2, 6, 11, 1, 1], some (65, true)⟩,
    ⟨some 77, .pick, [(.t 65), (.t 76), (.c (D.bool false))], [1, 12], none⟩,
    ⟨some 9, .mv, [(.t 77)], [13, 12, 0, 1, 2, 3, 4, 5, 6, 7, 8, 9, 10, 11, 12, 13], none⟩])))
  (.region false [
    ⟨some 48, .mv, [(.t 10)], [], none⟩,
    ⟨some 49, .bin .add, [(.t 48), (.c (D.int .i64 1))], [0], none⟩,
    ⟨some 10, .mv, [(.t 49)], [1, 0, 1], none⟩]))))))
  (.seq (.region false [
    ⟨some 11, .mv, [(.c (D.int .u8 0))], [], none⟩])
  (.seq (.seq (.region false [
    ⟨some 78, .mv, [(.t 9)], [], none⟩])
  (.cond (.t 78) (.region false [
    ⟨some 11, .mv, [(.c (D.int .u8 1))], [], none⟩]) (.skip)))
  (.seq (.seq (.region false [
    ⟨some 79, .mv, [(.t 8)], [], none⟩,
    ⟨some 80, .not, [(.t 79)], [0], none⟩,
    ⟨some 81, .mv, [(.t 80)], [1], none⟩,
    ⟨some 82, .mv, [(.t 6)], [2], some (81, false)⟩,
    ⟨some 83, .len, [(.t 82)], [3, 2], some (81, false)⟩,
    ⟨some 84, .bin .eql, [(.t 83), (.c (D.int .i64 0))], [4, 2], some (81, false)⟩,
    ⟨some 85, .pick, [(.t 81), (.c (D.bool true)), (.t 84)], [2, 5], none⟩])
  (.cond (.t 85) (.region false [
    ⟨some 11, .mv, [(.c (D.int .u8 2))], [], none⟩]) (.skip)))
  (.seq (.region false [
    ⟨some 87, .mv, [(.t 0)], [], none⟩,
    ⟨some 88, .mv, [(.t 1)], [], none⟩,
    ⟨some 89, .call [10, 11], [(.c (D.fn 25 [])), (.t 87), (.t 88)], [0, 1], none⟩,
    ⟨some 86, .mv, [(.t 89)], [2], none⟩,
    ⟨some 90, .ext 0, [(.t 86)], [3], none⟩,
    ⟨some 91, .ext 1, [(.t 86)], [3], none⟩,
    ⟨some 12, .mv, [(.t 90)], [4, 2, 0, 1, 2, 3, 4], none⟩,
    ⟨some 13, .mv, [(.t 91)], [5, 6, 0, 1, 2, 3, 4, 5, 6], none⟩])
  (.seq (.region false [
    ⟨some 93, .mv, [(.t 0)], [], none⟩,
    ⟨some 94, .mv, [(.t 1)], [], none⟩,
    ⟨some 95, .call [12, 13], [(.c (D.fn 24 [])), (.t 93), (.t 94)], [0, 1], none⟩,
    ⟨some 92, .mv, [(.t 95)], [2], none⟩,
    ⟨some 96, .ext 0, [(.t 92)], [3], none⟩,
    ⟨some 97, .ext 1, [(.t 92)], [3], none⟩,
    ⟨some 14, .mv, [(.t 96)], [4, 2, 0, 1, 2, 3, 4], none⟩,
    ⟨some 15, .mv, [(.t 97)], [5, 6, 0, 1, 2, 3, 4, 5, 6], none⟩])
  (.seq (.region false [
    ⟨some 98, .mv, [(.t 5)], [], none⟩,
    ⟨some 99, .mv, [(.t 98)], [0], none⟩,
    ⟨some 100, .mv, [(.t 13)], [1], some (99, true)⟩,
    ⟨some 101, .bin .eql, [(.t 100), (.c (D.int .i64 0))], [2, 1], some (99, true)⟩,
    ⟨some 102, .pick, [(.t 99), (.t 101), (.c (D.bool false))], [1, 3], none⟩,
    ⟨some 103, .mv, [(.t 102)], [4, 1], none⟩,
    ⟨some 104, .mv, [(.t 12)], [5], some (103, true)⟩,
    ⟨some 105, .mv, [(.t 7)], [5], some (103, true)⟩,
    ⟨some 106, .bin .eql, [(.t 104), (.t 105)], [6, 7, 5], some (103, true)⟩,
    ⟨some 107, .pick, [(.t 103), (.t 106), (.c (D.bool false))], [5, 8], none⟩,
    ⟨some 108, .mv, [(.t 107)], [9, 5], none⟩,
    ⟨some 109, .mv, [(.t 15)], [10], some (108, true)⟩,
    ⟨some 110, .bin .eql, [(.t 109), (.c (D.int .i64 0))], [11, 10], some (108, true)⟩,
    ⟨some 111, .pick, [(.t 108), (.t 110), (.c (D.bool false))], [10, 12], none⟩,
    ⟨some 112, .mv, [(.t 111)], [13, 10], none⟩,
    ⟨some 113, .mv, [(.t 14)], [14], some (112, true)⟩,
    ⟨some 114, .mv, [(.t 11)], [14], some (112, true)⟩,
    ⟨some 115, .bin .eql, [(.t 113), (.t 114)], [15, 16, 14], some (112, true)⟩,
    ⟨some 116, .pick, [(.t 112), (.t 115), (.c (D.bool false))], [14, 17], none⟩,
    ⟨some 4, .mv, [(.t 116)], [18, 14, 0, 1, 2, 3, 4, 5, 6, 7, 8, 9, 10, 11, 12, 13, 14, 15, 16, 17, 18], none⟩])
  (.ret)))))))))))))))⟩

/- 29: gatepath/gatepathref41.Upstream -/
def c_gatepathref41_Upstream : DFun := ⟨35, 6, [.p, .p], [.p ⟨false, [.int .u8]⟩, .p ⟨false, [.int .i64]⟩], [.t 4, .t 5],
  .seq (.region false [
    ⟨some 4, .mv, [(.c (D.int .u8 0))], [], none⟩,
    ⟨some 5, .mv, [(.c (D.int .i64 0))], [0], none⟩])
  (.seq (.region false [
    ⟨some 10, .mv, [(.t 0)], [], none⟩,
    ⟨some 11, .mv, [(.t 1)], [], none⟩,
    ⟨some 12, .call [3, 4], [(.c (D.fn 21 [])), (.t 10), (.t 11)], [0, 1], none⟩,
    ⟨some 9, .mv, [(.t 12)], [2], none⟩,
    ⟨some 13, .ext 0, [(.t 9)], [3], none⟩,
    ⟨some 14, .ext 1, [(.t 9)], [3], none⟩,
    ⟨some 6, .alloc 2 [(D.int .i64 0), (D.int .i64 0), (D.int .i64 0), (D.int .i64 0)], [], [], none⟩,
    ⟨none, .store ⟨true, [.int .i64, .int .i64, .int .i64, .int .i64]⟩, [(.t 6), (.t 13)], [6, 4, 2, 0, 1, 2, 3, 4, 6], none⟩,
    ⟨some 7, .mv, [(.t 14)], [5, 7, 0, 1, 2, 3, 4, 5, 6, 7], none⟩])
  (.seq (.seq (.region false [
    ⟨some 15, .mv, [(.t 7)], [], none⟩,
    ⟨some 16, .bin .neq, [(.t 15), (.c (D.int .i64 0))], [0], none⟩])
  (.cond (.t 16) (.seq (.region false [
    ⟨some 17, .mv, [(.t 7)], [], none⟩,
    ⟨some 4, .mv, [(.c (D.int .u8 0))], [], none⟩,
    ⟨some 5, .mv, [(.t 17)], [0, 1, 0, 1], none⟩])
  (.ret)) (.skip)))
  (.seq (.region false [
    ⟨some 18, .mv, [(.t 1)], [], none⟩,
    ⟨some 19, .call [5], [(.c (D.fn 18 [])), (.t 18)], [0], none⟩,
    ⟨some 20, .len, [(.t 19)], [1], none⟩,
    ⟨some 8, .mv, [(.t 20)], [2, 1, 0, 1, 2], none⟩])
  (.seq (.block 0 (.seq (.region false [
    ⟨some 22, .mv, [(.t 8)], [], none⟩,
    ⟨some 23, .bin .eql, [(.t 22), (.c (D.int .i64 0))], [0], none⟩,
    ⟨some 24, .mv, [(.t 23)], [1], none⟩,
    ⟨some 25, .fld 1, [(.t 6)], [2], some (24, false)⟩,
    ⟨some 26, .load ⟨false, [.int .i64]⟩, [(.t 25)], [3, 2], some (24, false)⟩,
    ⟨some 27, .mv, [(.t 8)], [2], some (24, false)⟩,
    ⟨some 28, .bin .lss, [(.t 26), (.t 27)], [4, 5, 2], some (24, false)⟩,
    ⟨some 29, .pick, [(.t 24), (.c (D.bool true)), (.t 28)], [2, 6], none⟩,
    ⟨some 21, .mv, [(.t 29)], [7, 2], none⟩])
  (.cond (.t 21) (.seq (.region false [
    ⟨some 4, .mv, [(.c (D.int .u8 2))], [], none⟩,
    ⟨some 5, .mv, [(.c (D.int .i64 0))], [0, 0], none⟩])
  (.ret)) (.seq (.region false [
    ⟨some 31, .fld 0, [(.t 6)], [], none⟩,
    ⟨some 32, .load ⟨false, [.int .i64]⟩, [(.t 31)], [0], none⟩,
    ⟨some 33, .mv, [(.t 8)], [], none⟩,
    ⟨some 34, .bin .eql, [(.t 32), (.t 33)], [1, 2], none⟩,
    ⟨some 30, .mv, [(.t 34)], [3], none⟩])
  (.cond (.t 30) (.seq (.region false [
    ⟨some 4, .mv, [(.c (D.int .u8 1))], [], none⟩,
    ⟨some 5, .mv, [(.c (D.int .i64 0))], [0, 0], none⟩])
  (.ret)) (.skip))))))
  (.seq (.region false [
    ⟨some 4, .mv, [(.c (D.int .u8 0))], [], none⟩,
    ⟨some 5, .mv, [(.c (D.int .i64 0))], [0, 0], none⟩])
  (.ret))))))⟩

/- 30: gatepath/gatepathref41.Downstream -/
def c_gatepathref41_Downstream : DFun := ⟨41, 6, [.p, .p], [.p ⟨false, [.int .u8]⟩, .p ⟨false, [.int .i64]⟩], [.t 4, .t 5],
  .seq (.region false [
    ⟨some 4, .mv, [(.c (D.int .u8 0))], [], none⟩,
    ⟨some 5, .mv, [(.c (D.int .i64 0))], [0], none⟩])
  (.seq (.region false [
    ⟨some 10, .mv, [(.t 0)], [], none⟩,
    ⟨some 11, .mv, [(.t 1)], [], none⟩,
    ⟨some 12, .call [3, 4], [(.c (D.fn 21 [])), (.t 10), (.t 11)], [0, 1], none⟩,
    ⟨some 9, .mv, [(.t 12)], [2], none⟩,
    ⟨some 13, .ext 0, [(.t 9)], [3], none⟩,
    ⟨some 14, .ext 1, [(.t 9)], [3], none⟩,
    ⟨some 6, .alloc 2 [(D.int .i64 0), (D.int .i64 0), (D.int .i64 0), (D.int .i64 0)], [], [], none⟩,
    ⟨none, .store ⟨true, [.int .i64, .int .i64, .int .i64, .int .i64]⟩, [(.t 6), (.t 13)], [6, 4, 2, 0, 1, 2, 3, 4, 6], none⟩,
    ⟨some 7, .mv, [(.t 14)], [5, 7, 0, 1, 2, 3, 4, 5, 6, 7], none⟩])
  (.seq (.seq (.region false [
    ⟨some 15, .mv, [(.t 7)], [], none⟩,
    ⟨some 16, .bin .neq, [(.t 15), (.c (D.int .i64 0))], [0], none⟩])
  (.cond (.t 16) (.seq (.region false [
    ⟨some 17, .mv, [(.t 7)], [], none⟩,
    ⟨some 4, .mv, [(.c (D.int .u8 0))], [], none⟩,
    ⟨some 5, .mv, [(.t 17)], [0, 1, 0, 1], none⟩])
  (.ret)) (.skip)))
  (.seq (.region false [
    ⟨some 18, .mv, [(.t 1)], [], none⟩,
    ⟨some 19, .call [5], [(.c (D.fn 18 [])), (.t 18)], [0], none⟩,
    ⟨some 20, .len, [(.t 19)], [1], none⟩,
    ⟨some 8, .mv, [(.t 20)], [2, 1, 0, 1, 2], none⟩])
  (.seq (.block 0 (.seq (.region false [
    ⟨some 22, .mv, [(.t 8)], [], none⟩,
    ⟨some 23, .bin .eql, [(.t 22), (.c (D.int .i64 0))], [0], none⟩,
    ⟨some 24, .mv, [(.t 23)], [1], none⟩,
    ⟨some 25, .fld 1, [(.t 6)], [2], some (24, false)⟩,
    ⟨some 26, .load ⟨false, [.int .i64]⟩, [(.t 25)], [3, 2], some (24, false)⟩,
    ⟨some 27, .fld 3, [(.t 6)], [2], some (24, false)⟩,
    ⟨some 28, .load ⟨false, [.int .i64]⟩, [(.t 27)], [5, 2], some (24, false)⟩,
    ⟨some 29, .bin .add, [(.t 26), (.t 28)], [4, 6, 2], some (24, false)⟩,
    ⟨some 30, .mv, [(.t 8)], [2], some (24, false)⟩,
    ⟨some 31, .bin .lss, [(.t 29), (.t 30)], [7, 8, 2], some (24, false)⟩,
    ⟨some 32, .pick, [(.t 24), (.c (D.bool true)), (.t 31)], [2, 9], none⟩,
    ⟨some 21, .mv, [(.t 32)], [10, 2], none⟩])
  (.cond (.t 21) (.seq (.region false [
    ⟨some 4, .mv, [(.c (D.int .u8 2))], [], none⟩,
    ⟨some 5, .mv, [(.c (D.int .i64 0))], [0, 0], none⟩])
  (.ret)) (.seq (.region false [
    ⟨some 34, .fld 0, [(.t 6)], [], none⟩,
    ⟨some 35, .load ⟨false, [.int .i64]⟩, [(.t 34)], [0], none⟩,
    ⟨some 36, .fld 2, [(.t 6)], [], none⟩,
    ⟨some 37, .load ⟨false, [.int .i64]⟩, [(.t 36)], [2], none⟩,
    ⟨some 38, .bin .add, [(.t 35), (.t 37)], [1, 3], none⟩,
    ⟨some 39, .mv, [(.t 8)], [], none⟩,
    ⟨some 40, .bin .geq, [(.t 38), (.t 39)], [4, 5], none⟩,
    ⟨some 33, .mv, [(.t 40)], [6], none⟩])
  (.cond (.t 33) (.seq (.region false [
    ⟨some 4, .mv, [(.c (D.int .u8 1))], [], none⟩,
    ⟨some 5, .mv, [(.c (D.int .i64 0))], [0, 0], none⟩])
  (.ret)) (.skip))))))
  (.seq (.region false [
    ⟨some 4, .mv, [(.c (D.int .u8 0))], [], none⟩,
    ⟨some 5, .mv, [(.c (D.int .i64 0))], [0, 0], none⟩])
  (.ret))))))⟩

/- 31: gatepath/leak.Validate -/
def c_leak_Validate : DFun := ⟨38, 7, [.p, .p, .p], [.p ⟨false, [.int .u8]⟩, .p ⟨false, [.int .i64]⟩], [.t 6, .t 7],
  .seq (.region false [
    ⟨some 6, .mv, [(.c (D.int .u8 0))], [], none⟩,
    ⟨some 7, .mv, [(.c (D.int .i64 0))], [0], none⟩])
  (.seq (.region false [
    ⟨some 13, .mv, [(.t 0)], [], none⟩,
    ⟨some 14, .mv, [(.t 2)], [], none⟩,
    ⟨some 15, .call [3, 4], [(.c (D.fn 24 [])), (.t 13), (.t 14)], [0, 1], none⟩,
    ⟨some 12, .mv, [(.t 15)], [2], none⟩,
    ⟨some 16, .ext 0, [(.t 12)], [3], none⟩,
    ⟨some 17, .ext 1, [(.t 12)], [3], none⟩,
    ⟨some 8, .mv, [(.t 16)], [4, 2, 0, 1, 2, 3, 4], none⟩,
    ⟨some 9, .mv, [(.t 17)], [5, 6, 0, 1, 2, 3, 4, 5, 6], none⟩])
  (.seq (.seq (.region false [
    ⟨some 18, .mv, [(.t 9)], [], none⟩,
    ⟨some 19, .bin .neq, [(.t 18), (.c (D.int .i64 0))], [0], none⟩])
  (.cond (.t 19) (.seq (.region false [
    ⟨some 20, .mv, [(.t 9)], [], none⟩,
    ⟨some 6, .mv, [(.c (D.int .u8 0))], [], none⟩,
    ⟨some 7, .mv, [(.t 20)], [0, 1, 0, 1], none⟩])
  (.ret)) (.skip)))
  (.seq (.seq (.region false [
    ⟨some 21, .mv, [(.t 1)], [], none⟩])
  (.block 0 (.seq (.seq (.region false [
    ⟨some 23, .bin .eql, [(.t 21), (.c (D.int .u8 1))], [], none⟩,
    ⟨some 22, .mv, [(.t 23)], [0], none⟩])
  (.cond (.t 22) (.skip) (.seq (.region false [
    ⟨some 24, .bin .eql, [(.t 21), (.c (D.int .u8 3))], [], none⟩,
    ⟨some 22, .mv, [(.t 24)], [0], none⟩])
  (.cond (.t 22) (.skip) (.seq (.region false [
    ⟨some 25, .bin .eql, [(.t 21), (.c (D.int .u8 4))], [], none⟩,
    ⟨some 22, .mv, [(.t 25)], [0], none⟩])
  (.cond (.t 22) (.skip) (.region false [
    ⟨some 26, .bin .eql, [(.t 21), (.c (D.int .u8 5))], [], none⟩,
    ⟨some 22, .mv, [(.t 26)], [0], none⟩])))))))
  (.cond (.t 22) (.seq (.region false [
    ⟨some 27, .mv, [(.t 8)], [], none⟩,
    ⟨some 6, .mv, [(.t 27)], [0, 0], none⟩,
    ⟨some 7, .mv, [(.c (D.int .i64 0))], [1, 0, 1], none⟩])
  (.ret)) (.seq (.region false [
    ⟨some 29, .bin .eql, [(.t 21), (.c (D.int .u8 2))], [], none⟩,
    ⟨some 28, .mv, [(.t 29)], [0], none⟩])
  (.cond (.t 28) (.seq (.region false [
    ⟨some 31, .mv, [(.t 0)], [], none⟩,
    ⟨some 32, .mv, [(.t 2)], [], none⟩,
    ⟨some 33, .call [5, 6], [(.c (D.fn 25 [])), (.t 31), (.t 32)], [0, 1], none⟩,
    ⟨some 30, .mv, [(.t 33)], [2], none⟩,
    ⟨some 34, .ext 0, [(.t 30)], [3], none⟩,
    ⟨some 35, .ext 1, [(.t 30)], [3], none⟩,
    ⟨some 10, .mv, [(.t 34)], [4, 2, 0, 1, 2, 3, 4], none⟩,
    ⟨some 11, .mv, [(.t 35)], [5, 6, 0, 1, 2, 3, 4, 5, 6], none⟩])
  (.seq (.region false [
    ⟨some 36, .mv, [(.t 10)], [], none⟩,
    ⟨some 37, .mv, [(.t 11)], [], none⟩,
    ⟨some 6, .mv, [(.t 36)], [0, 0], none⟩,
    ⟨some 7, .mv, [(.t 37)], [1, 2, 0, 1, 2], none⟩])
  (.ret))) (.skip)))))))
  (.seq (.region false [
    ⟨some 6, .mv, [(.c (D.int .u8 0))], [], none⟩,
    ⟨some 7, .mv, [(.c (D.int .i64 2))], [0, 0], none⟩])
  (.ret)))))⟩

/- 32: gatepath/gatepathref41.Validate -/
def c_gatepathref41_Validate : DFun := ⟨37, 10, [.p, .p, .p], [.p ⟨false, [.int .u8]⟩, .p ⟨false, [.int .i64]⟩], [.t 6, .t 7],
  .seq (.region false [
    ⟨some 6, .mv, [(.c (D.int .u8 0))], [], none⟩,
    ⟨some 7, .mv, [(.c (D.int .i64 0))], [0], none⟩])
  (.seq (.region false [
    ⟨some 11, .mv, [(.t 0)], [], none⟩,
    ⟨some 12, .mv, [(.t 2)], [], none⟩,
    ⟨some 13, .call [4, 5], [(.c (D.fn 21 [])), (.t 11), (.t 12)], [0, 1], none⟩,
    ⟨some 10, .mv, [(.t 13)], [2], none⟩,
    ⟨some 14, .ext 0, [(.t 10)], [3], none⟩,
    ⟨some 15, .ext 1, [(.t 10)], [3], none⟩,
    ⟨some 8, .alloc 3 [(D.int .i64 0), (D.int .i64 0), (D.int .i64 0), (D.int .i64 0)], [], [], none⟩,
    ⟨none, .store ⟨true, [.int .i64, .int .i64, .int .i64, .int .i64]⟩, [(.t 8), (.t 14)], [6, 4, 2, 0, 1, 2, 3, 4, 6], none⟩,
    ⟨some 9, .mv, [(.t 15)], [5, 7, 0, 1, 2, 3, 4, 5, 6, 7], none⟩])
  (.seq (.seq (.region false [
    ⟨some 16, .mv, [(.t 9)], [], none⟩,
    ⟨some 17, .bin .neq, [(.t 16), (.c (D.int .i64 0))], [0], none⟩])
  (.cond (.t 17) (.seq (.region false [
    ⟨some 18, .mv, [(.t 9)], [], none⟩,
    ⟨some 6, .mv, [(.c (D.int .u8 0))], [], none⟩,
    ⟨some 7, .mv, [(.t 18)], [0, 1, 0, 1], none⟩])
  (.ret)) (.skip)))
  (.seq (.seq (.region false [
    ⟨some 19, .mv, [(.t 1)], [], none⟩])
  (.block 0 (.seq (.seq (.region false [
    ⟨some 21, .bin .eql, [(.t 19), (.c (D.int .u8 1))], [], none⟩,
    ⟨some 20, .mv, [(.t 21)], [0], none⟩])
  (.cond (.t 20) (.skip) (.seq (.region false [
    ⟨some 22, .bin .eql, [(.t 19), (.c (D.int .u8 3))], [], none⟩,
    ⟨some 20, .mv, [(.t 22)], [0], none⟩])
  (.cond (.t 20) (.skip) (.seq (.region false [
    ⟨some 23, .bin .eql, [(.t 19), (.c (D.int .u8 4))], [], none⟩,
    ⟨some 20, .mv, [(.t 23)], [0], none⟩])
  (.cond (.t 20) (.skip) (.region false [
    ⟨some 24, .bin .eql, [(.t 19), (.c (D.int .u8 5))], [], none⟩,
    ⟨some 20, .mv, [(.t 24)], [0], none⟩])))))))
  (.cond (.t 20) (.seq (.region false [
    ⟨some 25, .mv, [(.t 0)], [], none⟩,
    ⟨some 26, .mv, [(.t 2)], [], none⟩,
    ⟨some 27, .call [6, 7], [(.c (D.fn 29 [])), (.t 25), (.t 26)], [0, 1], none⟩,
    ⟨some 28, .ext 0, [(.t 27)], [2], none⟩,
    ⟨some 29, .ext 1, [(.t 27)], [2], none⟩,
    ⟨some 6, .mv, [(.t 28)], [3, 2, 0, 1, 2, 3, 4], none⟩,
    ⟨some 7, .mv, [(.t 29)], [4, 5, 0, 1, 2, 3, 4, 5], none⟩])
  (.ret)) (.seq (.region false [
    ⟨some 31, .bin .eql, [(.t 19), (.c (D.int .u8 2))], [], none⟩,
    ⟨some 30, .mv, [(.t 31)], [0], none⟩])
  (.cond (.t 30) (.seq (.region false [
    ⟨some 32, .mv, [(.t 0)], [], none⟩,
    ⟨some 33, .mv, [(.t 2)], [], none⟩,
    ⟨some 34, .call [8, 9], [(.c (D.fn 30 [])), (.t 32), (.t 33)], [0, 1], none⟩,
    ⟨some 35, .ext 0, [(.t 34)], [2], none⟩,
    ⟨some 36, .ext 1, [(.t 34)], [2], none⟩,
    ⟨some 6, .mv, [(.t 35)], [3, 2, 0, 1, 2, 3, 4], none⟩,
    ⟨some 7, .mv, [(.t 36)], [4, 5, 0, 1, 2, 3, 4, 5], none⟩])
  (.ret)) (.skip)))))))
  (.seq (.region false [
    ⟨some 6, .mv, [(.c (D.int .u8 0))], [], none⟩,
    ⟨some 7, .mv, [(.c (D.int .i64 2))], [0, 0], none⟩])
  (.ret)))))⟩

/- 9: gatepath/gatepathlaw41.LeakTells -/
def c_gatepathlaw41_LeakTells : DFun := ⟨92, 16, [.p, .p, .p], [.p ⟨false, [.bool]⟩], [.t 6],
  .seq (.region false [
    ⟨some 6, .mv, [(.c (D.bool false))], [], none⟩])
  (.seq (.seq (.region false [
    ⟨some 19, .mv, [(.t 0)], [], none⟩,
    ⟨some 20, .call [3], [(.c (D.fn 11 [])), (.t 19)], [0], none⟩,
    ⟨some 21, .mv, [(.t 20)], [1, 1], none⟩,
    ⟨some 22, .mv, [(.t 2)], [2], some (21, false)⟩,
    ⟨some 23, .len, [(.t 22)], [3, 2], some (21, false)⟩,
    ⟨some 24, .bin .gtr, [(.t 23), (.c (D.int .i64 100))], [4, 2], some (21, false)⟩,
    ⟨some 25, .pick, [(.t 21), (.c (D.bool true)), (.t 24)], [2, 5], none⟩])
  (.cond (.t 25) (.seq (.region false [
    ⟨some 6, .mv, [(.c (D.bool true))], [], none⟩])
  (.ret)) (.skip)))
  (.seq (.region false [
    ⟨some 27, .mv, [(.t 0)], [], none⟩,
    ⟨some 28, .mv, [(.t 2)], [], none⟩,
    ⟨some 29, .call [4, 5], [(.c (D.fn 24 [])), (.t 27), (.t 28)], [0, 1], none⟩,
    ⟨some 26, .mv, [(.t 29)], [2], none⟩,
    ⟨some 30, .ext 0, [(.t 26)], [3], none⟩,
    ⟨some 31, .ext 1, [(.t 26)], [3], none⟩,
    ⟨some 7, .mv, [(.t 30)], [4, 2, 0, 1, 2, 3, 4], none⟩,
    ⟨some 8, .mv, [(.t 31)], [5, 6, 0, 1, 2, 3, 4, 5, 6], none⟩])
  (.seq (.region false [
    ⟨some 33, .mv, [(.t 0)], [], none⟩,
    ⟨some 34, .mv, [(.t 2)], [], none⟩,
    ⟨some 35, .call [6, 7], [(.c (D.fn 29 [])), (.t 33), (.t 34)], [0, 1], none⟩,
    ⟨some 32, .mv, [(.t 35)], [2], none⟩,
    ⟨some 36, .ext 0, [(.t 32)], [3], none⟩,
    ⟨some 37, .ext 1, [(.t 32)], [3], none⟩,
    ⟨some 9, .mv, [(.t 36)], [4, 2, 0, 1, 2, 3, 4], none⟩,
    ⟨some 10, .mv, [(.t 37)], [5, 6, 0, 1, 2, 3, 4, 5, 6], none⟩])
  (.seq (.region false [
    ⟨some 39, .mv, [(.t 0)], [], none⟩,
    ⟨some 40, .mv, [(.t 2)], [], none⟩,
    ⟨some 41, .call [8, 9], [(.c (D.fn 25 [])), (.t 39), (.t 40)], [0, 1], none⟩,
    ⟨some 38, .mv, [(.t 41)], [2], none⟩,
    ⟨some 42, .ext 0, [(.t 38)], [3], none⟩,
    ⟨some 43, .ext 1, [(.t 38)], [3], none⟩,
    ⟨some 11, .mv, [(.t 42)], [4, 2, 0, 1, 2, 3, 4], none⟩,
    ⟨some 12, .mv, [(.t 43)], [5, 6, 0, 1, 2, 3, 4, 5, 6], none⟩])
  (.seq (.region false [
    ⟨some 45, .mv, [(.t 0)], [], none⟩,
    ⟨some 46, .mv, [(.t 2)], [], none⟩,
    ⟨some 47, .call [10, 11], [(.c (D.fn 30 [])), (.t 45), (.t 46)], [0, 1], none⟩,
    ⟨some 44, .mv, [(.t 47)], [2], none⟩,
    ⟨some 48, .ext 0, [(.t 44)], [3], none⟩,
    ⟨some 49, .ext 1, [(.t 44)], [3], none⟩,
    ⟨some 13, .mv, [(.t 48)], [4, 2, 0, 1, 2, 3, 4], none⟩,
    ⟨some 14, .mv, [(.t 49)], [5, 6, 0, 1, 2, 3, 4, 5, 6], none⟩])
  (.seq (.region false [
    ⟨some 51, .mv, [(.t 0)], [], none⟩,
    ⟨some 52, .mv, [(.t 1)], [], none⟩,
    ⟨some 53, .mv, [(.t 2)], [], none⟩,
    ⟨some 54, .call [12, 13], [(.c (D.fn 31 [])), (.t 51), (.t 52), (.t 53)], [0, 1, 2], none⟩,
    ⟨some 50, .mv, [(.t 54)], [3], none⟩,
    ⟨some 55, .ext 0, [(.t 50)], [4], none⟩,
    ⟨some 56, .ext 1, [(.t 50)], [4], none⟩,
    ⟨some 15, .mv, [(.t 55)], [5, 3, 0, 1, 2, 3, 4, 5], none⟩,
    ⟨some 16, .mv, [(.t 56)], [6, 7, 0, 1, 2, 3, 4, 5, 6, 7], none⟩])
  (.seq (.region false [
    ⟨some 58, .mv, [(.t 0)], [], none⟩,
    ⟨some 59, .mv, [(.t 1)], [], none⟩,
    ⟨some 60, .mv, [(.t 2)], [], none⟩,
    ⟨some 61, .call [14, 15], [(.c (D.fn 32 [])), (.t 58), (.t 59), (.t 60)], [0, 1, 2], none⟩,
    ⟨some 57, .mv, [(.t 61)], [3], none⟩,
    ⟨some 62, .ext 0, [(.t 57)], [4], none⟩,
    ⟨some 63, .ext 1, [(.t 57)], [4], none⟩,
    ⟨some 17, .mv, [(.t 62)], [5, 3, 0, 1, 2, 3, 4, 5], none⟩,
    ⟨some 18, .mv, [(.t 63)], [6, 7, 0, 1, 2, 3, 4, 5, 6, 7], none⟩])
  (.seq (.region false [
    ⟨some 64, .mv, [(.t 7)], [], none⟩,
    ⟨some 65, .mv, [(.t 9)], [], none⟩,
    ⟨some 66, .bin .eql, [(.t 64), (.t 65)], [0, 1], none⟩,
    ⟨some 67, .mv, [(.t 66)], [2], none⟩,
    ⟨some 68, .mv, [(.t 8)], [3], some (67, true)⟩,
    ⟨some 69, .mv, [(.t 10)], [3], some (67, true)⟩,
    ⟨some 70, .bin .eql, [(.t 68), (.t 69)], [4, 5, 3], some (67, true)⟩,
    ⟨some 71, .pick, [(.t 67), (.t 70), (.c (D.bool false))], [3, 6], none⟩,
    ⟨some 72, .mv, [(.t 71)], [7, 3], none⟩,
    ⟨some 73, .mv, [(.t 11)], [8], some (72, true)⟩,
    ⟨some 74, .mv, [(.t 13)], [8], some (72, true)⟩,
    ⟨some 75, .bin .eql, [(.t 73), (.t 74)], [9, 10, 8], some (72, true)⟩,
    ⟨some 76, .pick, [(.t 72), (.t 75), (.c (D.bool false))], [8, 11], none⟩,
    ⟨some 77, .mv, [(.t 76)], [12, 8], none⟩,
    ⟨some 78, .mv, [(.t 12)], [13], some (77, true)⟩,
    ⟨some 79, .mv, [(.t 14)], [13], some (77, true)⟩,
    ⟨some 80, .bin .eql, [(.t 78), (.t 79)], [14, 15, 13], some (77, true)⟩,
    ⟨some 81, .pick, [(.t 77), (.t 80), (.c (D.bool false))], [13, 16], none⟩,
    ⟨some 82, .mv, [(.t 81)], [17, 13], none⟩,
    ⟨some 83, .mv, [(.t 15)], [18], some (82, true)⟩,
    ⟨some 84, .mv, [(.t 17)], [18], some (82, true)⟩,
    ⟨some 85, .bin .eql, [(.t 83), (.t 84)], [19, 20, 18], some (82, true)⟩,
    ⟨some 86, .pick, [(.t 82), (.t 85), (.c (D.bool false))], [18, 21], none⟩,
    ⟨some 87, .mv, [(.t 86)], [22, 18], none⟩,
    ⟨some 88, .mv, [(.t 16)], [23], some (87, true)⟩,
    ⟨some 89, .mv, [(.t 18)], [23], some (87, true)⟩,
    ⟨some 90, .bin .eql, [(.t 88), (.t 89)], [24, 25, 23], some (87, true)⟩,
    ⟨some 91, .pick, [(.t 87), (.t 90), (.c (D.bool false))], [23, 26], none⟩,
    ⟨some 6, .mv, [(.t 91)], [27, 23, 0, 1, 2, 3, 4, 5, 6, 7, 8, 9, 10, 11, 12, 13, 14, 15, 16, 17, 18, 19, 20, 21, 22, 23, 24, 25, 26, 27], none⟩])
  (.ret)))))))))⟩

/- 10: gatepath/gatepathlaw41.LeakNames -/
def c_gatepathlaw41_LeakNames : DFun := ⟨249, 74, [], [.p ⟨false, [.bool]⟩], [.t 0],
  .seq (.region false [
    ⟨some 0, .mv, [(.c (D.bool false))], [], none⟩])
  (.seq (.region false [
    ⟨some 25, .call [34], [(.c (D.fn 33 []))], [], none⟩,
    ⟨some 1, .mv, [(.t 25)], [0, 0, 0], none⟩])
  (.seq (.region false [
    ⟨some 26, .mv, [(.t 1)], [], none⟩,
    ⟨some 27, .slice (some 46) false true false, [(.t 26), (.c (D.int .i64 1))], [0], none⟩,
    ⟨some 28, .call [35], [(.c (D.fn 19 [])), (.t 27)], [1], none⟩,
    ⟨some 29, .buildSl 0 23, [(.c (D.int .u32 30)), (.c (D.int .u32 60))], [], none⟩,
    ⟨some 30, .build [(D.int .u32 0), (D.zs 23 true)] [(0, 1), (1, 1)], [(.c (D.int .u32 20)), (.t 29)], [3], none⟩,
    ⟨some 31, .buildSl 1 23, [(.c (D.int .u32 0))], [], none⟩,
    ⟨some 32, .build [(D.int .u32 0), (D.zs 23 true)] [(0, 1), (1, 1)], [(.c (D.int .u32 30)), (.t 31)], [5], none⟩,
    ⟨some 33, .buildSl 2 23, [(.c (D.int .u32 30))], [], none⟩,
    ⟨some 34, .build [(D.int .u32 0), (D.zs 23 true)] [(0, 1), (1, 1)], [(.c (D.int .u32 50)), (.t 33)], [7], none⟩,
    ⟨some 35, .buildSl 3 23, [(.c (D.int .u32 0))], [], none⟩,
    ⟨some 36, .build [(D.int .u32 0), (D.zs 23 true)] [(0, 1), (1, 1)], [(.c (D.int .u32 60)), (.t 35)], [9], none⟩,
    ⟨some 37, .buildSl 4 46, [(.t 30), (.t 32), (.t 34), (.t 36)], [4, 6, 8, 10], none⟩,
    ⟨some 38, .append 5 46 32, [(.t 28), (.t 37)], [2, 11, 2], none⟩,
    ⟨some 2, .mv, [(.t 38)], [12, 12, 0, 1, 2, 3, 4, 5, 6, 7, 8, 9, 10, 11, 12], none⟩])
  (.seq (.region false [
    ⟨some 39, .mv, [(.t 2)], [], none⟩,
    ⟨some 40, .buildSl 6 23, [(.c (D.int .u32 60)), (.c (D.int .u32 20)), (.c (D.int .u32 30)), (.c (D.int .u32 50))], [], none⟩,
    ⟨some 41, .call [36], [(.c (D.fn 34 [])), (.t 39), (.c (D.int .u8 2)), (.t 40)], [0, 1], none⟩,
    ⟨some 42, .mv, [(.t 41)], [2, 2], none⟩,
    ⟨some 43, .mv, [(.t 2)], [3], some (42, true)⟩,
    ⟨some 44, .buildSl 7 23, [(.c (D.int .u32 70)), (.c (D.int .u32 60)), (.c (D.int .u32 20)), (.c (D.int .u32 30)), (.c (D.int .u32 50))], [3], some (42, true)⟩,
    ⟨some 45, .call [37], [(.c (D.fn 35 [])), (.t 43), (.c (D.int .u8 2)), (.t 44)], [4, 5, 3, 3], some (42, true)⟩,
    ⟨some 46, .pick, [(.t 42), (.t 45), (.c (D.bool false))], [3, 6], none⟩,
    ⟨some 47, .mv, [(.t 46)], [7, 6], none⟩,
    ⟨some 48, .mv, [(.t 2)], [8], some (47, true)⟩,
    ⟨some 49, .buildSl 8 23, [(.c (D.int .u32 20)), (.c (D.int .u32 30)), (.c (D.int .u32 50))], [8], some (47, true)⟩,
    ⟨some 50, .call [38], [(.c (D.fn 35 [])), (.t 48), (.c (D.int .u8 1)), (.t 49)], [9, 10, 8, 8], some (47, true)⟩,
    ⟨some 51, .pick, [(.t 47), (.t 50), (.c (D.bool false))], [8, 11], none⟩,
    ⟨some 52, .mv, [(.t 51)], [12, 11], none⟩,
    ⟨some 53, .mv, [(.t 2)], [13], some (52, true)⟩,
    ⟨some 54, .buildSl 9 23, [(.c (D.int .u32 60)), (.c (D.int .u32 30)), (.c (D.int .u32 50))], [13], some (52, true)⟩,
    ⟨some 55, .call [39], [(.c (D.fn 35 [])), (.t 53), (.c (D.int .u8 1)), (.t 54)], [14, 15, 13, 13], some (52, true)⟩,
    ⟨some 56, .pick, [(.t 52), (.t 55), (.c (D.bool false))], [13, 16], none⟩,
    ⟨some 57, .mv, [(.t 56)], [17, 16], none⟩,
    ⟨some 58, .mv, [(.t 2)], [18], some (57, true)⟩,
    ⟨some 59, .buildSl 10 23, [(.c (D.int .u32 60)), (.c (D.int .u32 30)), (.c (D.int .u32 50))], [18], some (57, true)⟩,
    ⟨some 60, .call [40], [(.c (D.fn 34 [])), (.t 58), (.c (D.int .u8 2)), (.t 59)], [19, 20, 18, 18], some (57, true)⟩,
    ⟨some 61, .pick, [(.t 57), (.t 60), (.c (D.bool false))], [18, 21], none⟩,
    ⟨some 3, .mv, [(.t 61)], [22, 21, 0, 1, 2, 3, 4, 5, 6, 7, 8, 9, 10, 11, 12, 13, 14, 15, 16, 17, 18, 19, 20, 21, 22], none⟩])
  (.seq (.region false [
    ⟨some 63, .mv, [(.t 1)], [], none⟩,
    ⟨some 64, .call [41, 42], [(.c (D.fn 12 [])), (.t 63), (.c (D.int .u32 10)), (.c (D.int .u32 20))], [0], none⟩,
    ⟨some 62, .mv, [(.t 64)], [1], none⟩,
    ⟨some 65, .ext 0, [(.t 62)], [2], none⟩,
    ⟨some 66, .ext 1, [(.t 62)], [2], none⟩,
    ⟨some 4, .mv, [(.t 65)], [3, 1, 0, 1, 2, 3], none⟩,
    ⟨some 5, .mv, [(.t 66)], [4, 5, 0, 1, 2, 3, 4, 5], none⟩])
  (.seq (.region false [
    ⟨some 68, .mv, [(.t 1)], [], none⟩,
    ⟨some 69, .call [43, 44], [(.c (D.fn 12 [])), (.t 68), (.c (D.int .u32 10)), (.c (D.int .u32 30))], [0], none⟩,
    ⟨some 67, .mv, [(.t 69)], [1], none⟩,
    ⟨some 70, .ext 0, [(.t 67)], [2], none⟩,
    ⟨some 71, .ext 1, [(.t 67)], [2], none⟩,
    ⟨some 6, .mv, [(.t 70)], [3, 1, 0, 1, 2, 3], none⟩,
    ⟨some 7, .mv, [(.t 71)], [4, 5, 0, 1, 2, 3, 4, 5], none⟩])
  (.seq (.region false [
    ⟨some 73, .mv, [(.t 1)], [], none⟩,
    ⟨some 74, .call [45, 46], [(.c (D.fn 12 [])), (.t 73), (.c (D.int .u32 30)), (.c (D.int .u32 50))], [0], none⟩,
    ⟨some 72, .mv, [(.t 74)], [1], none⟩,
    ⟨some 75, .ext 0, [(.t 72)], [2], none⟩,
    ⟨some 76, .ext 1, [(.t 72)], [2], none⟩,
    ⟨some 8, .mv, [(.t 75)], [3, 1, 0, 1, 2, 3], none⟩,
    ⟨some 9, .mv, [(.t 76)], [4, 5, 0, 1, 2, 3, 4, 5], none⟩])
  (.seq (.region false [
    ⟨some 78, .mv, [(.t 1)], [], none⟩,
    ⟨some 79, .buildSl 11 23, [(.c (D.int .u32 40)), (.c (D.int .u32 10))], [], none⟩,
    ⟨some 80, .call [47, 48], [(.c (D.fn 31 [])), (.t 78), (.c (D.int .u8 2)), (.t 79)], [0, 1], none⟩,
    ⟨some 77, .mv, [(.t 80)], [2], none⟩,
    ⟨some 81, .ext 0, [(.t 77)], [3], none⟩,
    ⟨some 82, .ext 1, [(.t 77)], [3], none⟩,
    ⟨some 10, .mv, [(.t 81)], [4, 2, 0, 1, 2, 3, 4], none⟩,
    ⟨some 11, .mv, [(.t 82)], [5, 6, 0, 1, 2, 3, 4, 5, 6], none⟩])
  (.seq (.region false [
    ⟨some 84, .mv, [(.t 1)], [], none⟩,
    ⟨some 85, .buildSl 12 23, [(.c (D.int .u32 40)), (.c (D.int .u32 10))], [], none⟩,
    ⟨some 86, .call [49, 50], [(.c (D.fn 31 [])), (.t 84), (.c (D.int .u8 3)), (.t 85)], [0, 1], none⟩,
    ⟨some 83, .mv, [(.t 86)], [2], none⟩,
    ⟨some 87, .ext 0, [(.t 83)], [3], none⟩,
    ⟨some 88, .ext 1, [(.t 83)], [3], none⟩,
    ⟨some 12, .mv, [(.t 87)], [4, 2, 0, 1, 2, 3, 4], none⟩,
    ⟨some 13, .mv, [(.t 88)], [5, 6, 0, 1, 2, 3, 4, 5, 6], none⟩])
  (.seq (.region false [
    ⟨some 90, .mv, [(.t 1)], [], none⟩,
    ⟨some 91, .buildSl 13 23, [(.c (D.int .u32 40)), (.c (D.int .u32 10))], [], none⟩,
    ⟨some 92, .call [51, 52], [(.c (D.fn 31 [])), (.t 90), (.c (D.int .u8 0)), (.t 91)], [0, 1], none⟩,
    ⟨some 89, .mv, [(.t 92)], [2], none⟩,
    ⟨some 93, .ext 0, [(.t 89)], [3], none⟩,
    ⟨some 94, .ext 1, [(.t 89)], [3], none⟩,
    ⟨some 14, .mv, [(.t 93)], [4, 2, 0, 1, 2, 3, 4], none⟩,
    ⟨some 15, .mv, [(.t 94)], [5, 6, 0, 1, 2, 3, 4, 5, 6], none⟩])
  (.seq (.region false [
    ⟨some 96, .mv, [(.t 1)], [], none⟩,
    ⟨some 97, .mkSl 14 23 (D.int .u32 0) 4, [(.c (D.int .i64 31)), (.c (D.int .i64 31))], [], none⟩,
    ⟨some 98, .call [53, 54], [(.c (D.fn 31 [])), (.t 96), (.c (D.int .u8 6)), (.t 97)], [0, 1], none⟩,
    ⟨some 95, .mv, [(.t 98)], [2], none⟩,
    ⟨some 99, .ext 0, [(.t 95)], [3], none⟩,
    ⟨some 100, .ext 1, [(.t 95)], [3], none⟩,
    ⟨some 16, .mv, [(.t 99)], [4, 2, 0, 1, 2, 3, 4], none⟩,
    ⟨some 17, .mv, [(.t 100)], [5, 6, 0, 1, 2, 3, 4, 5, 6], none⟩])
  (.seq (.region false [
    ⟨some 102, .mv, [(.t 1)], [], none⟩,
    ⟨some 103, .mkSl 15 23 (D.int .u32 0) 4, [(.c (D.int .i64 31)), (.c (D.int .i64 31))], [], none⟩,
    ⟨some 104, .call [55, 56], [(.c (D.fn 20 [])), (.t 102), (.t 103)], [0, 1], none⟩,
    ⟨some 101, .mv, [(.t 104)], [2], none⟩,
    ⟨some 105, .ext 0, [(.t 101)], [3], none⟩,
    ⟨some 106, .ext 1, [(.t 101)], [3], none⟩,
    ⟨some 18, .alloc 16 [(D.int .i64 0), (D.int .i64 0), (D.int .i64 0), (D.int .i64 0)], [], [], none⟩,
    ⟨none, .store ⟨true, [.int .i64, .int .i64, .int .i64, .int .i64]⟩, [(.t 18), (.t 105)], [6, 4, 2, 0, 1, 2, 3, 4, 6], none⟩,
    ⟨some 19, .mv, [(.t 106)], [5, 7, 0, 1, 2, 3, 4, 5, 6, 7], none⟩])
  (.seq (.region false [
    ⟨some 108, .mv, [(.t 1)], [], none⟩,
    ⟨some 109, .mkSl 17 23 (D.int .u32 0) 4, [(.c (D.int .i64 30)), (.c (D.int .i64 30))], [], none⟩,
    ⟨some 110, .call [57, 58], [(.c (D.fn 20 [])), (.t 108), (.t 109)], [0, 1], none⟩,
    ⟨some 107, .mv, [(.t 110)], [2], none⟩,
    ⟨some 111, .ext 0, [(.t 107)], [3], none⟩,
    ⟨some 112, .ext 1, [(.t 107)], [3], none⟩,
    ⟨some 20, .alloc 18 [(D.int .i64 0), (D.int .i64 0), (D.int .i64 0), (D.int .i64 0)], [], [], none⟩,
    ⟨none, .store ⟨true, [.int .i64, .int .i64, .int .i64, .int .i64]⟩, [(.t 20), (.t 111)], [6, 4, 2, 0, 1, 2, 3, 4, 6], none⟩,
    ⟨some 21, .mv, [(.t 112)], [5, 7, 0, 1, 2, 3, 4, 5, 6, 7], none⟩])
  (.seq (.region false [
    ⟨some 113, .mv, [(.t 1)], [], none⟩,
    ⟨some 114, .call [59], [(.c (D.fn 34 [])), (.t 113), (.c (D.int .u8 2)), (.c (D.zs 23 true))], [0], none⟩,
    ⟨some 115, .mv, [(.t 114)], [1, 1], none⟩,
    ⟨some 116, .mv, [(.t 1)], [2], some (115, true)⟩,
    ⟨some 117, .call [60], [(.c (D.fn 35 [])), (.t 116), (.c (D.int .u8 2)), (.c (D.zs 23 true))], [3, 2, 2], some (115, true)⟩,
    ⟨some 118, .pick, [(.t 115), (.t 117), (.c (D.bool false))], [2, 4], none⟩,
    ⟨some 119, .mv, [(.t 118)], [5, 4], none⟩,
    ⟨some 120, .buildSl 19 23, [(.c (D.int .u32 1)), (.c (D.int .u32 2))], [6], some (119, true)⟩,
    ⟨some 121, .call [61], [(.c (D.fn 34 [])), (.c (D.zs 46 true)), (.c (D.int .u8 0)), (.t 120)], [7, 6, 6], some (119, true)⟩,
    ⟨some 122, .pick, [(.t 119), (.t 121), (.c (D.bool false))], [6, 8], none⟩,
    ⟨some 123, .mv, [(.t 122)], [9, 8], none⟩,
    ⟨some 124, .buildSl 20 23, [(.c (D.int .u32 7))], [10], some (123, true)⟩,
    ⟨some 125, .call [62], [(.c (D.fn 34 [])), (.c (D.zs 46 true)), (.c (D.int .u8 1)), (.t 124)], [11, 10, 10], some (123, true)⟩,
    ⟨some 126, .pick, [(.t 123), (.t 125), (.c (D.bool false))], [10, 12], none⟩,
    ⟨some 127, .mv, [(.t 126)], [13, 12], none⟩,
    ⟨some 128, .buildSl 21 23, [(.c (D.int .u32 1)), (.c (D.int .u32 2))], [14], some (127, true)⟩,
    ⟨some 129, .call [63], [(.c (D.fn 35 [])), (.c (D.zs 46 true)), (.c (D.int .u8 1)), (.t 128)], [15, 14, 14], some (127, true)⟩,
    ⟨some 130, .pick, [(.t 127), (.t 129), (.c (D.bool false))], [14, 16], none⟩,
    ⟨some 131, .mv, [(.t 130)], [17, 16], none⟩,
    ⟨some 132, .buildSl 22 23, [(.c (D.int .u32 1)), (.c (D.int .u32 2)), (.c (D.int .u32 3))], [18], some (131, true)⟩,
    ⟨some 133, .call [64], [(.c (D.fn 35 [])), (.c (D.zs 46 true)), (.c (D.int .u8 0)), (.t 132)], [19, 18, 18], some (131, true)⟩,
    ⟨some 134, .pick, [(.t 131), (.t 133), (.c (D.bool false))], [18, 20], none⟩,
    ⟨some 22, .mv, [(.t 134)], [21, 20, 0, 1, 2, 3, 4, 5, 6, 7, 8, 9, 10, 11, 12, 13, 14, 15, 16, 17, 18, 19, 20, 21], none⟩])
  (.seq (.region false [
    ⟨some 135, .build [(D.int .u32 0), (D.zs 23 true)] [(0, 1)], [(.c (D.int .u32 1))], [], none⟩,
    ⟨some 136, .buildSl 23 46, [(.t 135)], [0], none⟩,
    ⟨some 137, .call [65], [(.c (D.fn 15 [])), (.t 136)], [1], none⟩,
    ⟨some 138, .bin .eql, [(.t 137), (.c (D.int .i64 8))], [2], none⟩,
    ⟨some 139, .mv, [(.t 138)], [3, 2], none⟩,
    ⟨some 140, .buildSl 24 23, [(.c (D.int .u32 2)), (.c (D.int .u32 2))], [4], some (139, true)⟩,
    ⟨some 141, .build [(D.int .u32 0), (D.zs 23 true)] [(0, 1), (1, 1)], [(.c (D.int .u32 1)), (.t 140)], [5, 4], some (139, true)⟩,
    ⟨some 142, .buildSl 25 46, [(.t 141)], [6, 4], some (139, true)⟩,
    ⟨some 143, .call [66], [(.c (D.fn 15 [])), (.t 142)], [7, 4, 4], some (139, true)⟩,
    ⟨some 144, .bin .eql, [(.t 143), (.c (D.int .i64 8))], [8, 4], some (139, true)⟩,
    ⟨some 145, .pick, [(.t 139), (.t 144), (.c (D.bool false))], [4, 9], none⟩,
    ⟨some 146, .mv, [(.t 145)], [10, 8], none⟩,
    ⟨some 147, .buildSl 26 23, [(.c (D.int .u32 2))], [11], some (146, true)⟩,
    ⟨some 148, .build [(D.int .u32 0), (D.zs 23 true)] [(0, 1), (1, 1)], [(.c (D.int .u32 1)), (.t 147)], [12, 11], some (146, true)⟩,
    ⟨some 149, .buildSl 27 23, [(.c (D.int .u32 3))], [11], some (146, true)⟩,
    ⟨some 150, .build [(D.int .u32 0), (D.zs 23 true)] [(0, 1), (1, 1)], [(.c (D.int .u32 1)), (.t 149)], [14, 11], some (146, true)⟩,
    ⟨some 151, .buildSl 28 46, [(.t 148), (.t 150)], [13, 15, 11], some (146, true)⟩,
    ⟨some 152, .call [67], [(.c (D.fn 15 [])), (.t 151)], [16, 11, 11], some (146, true)⟩,
    ⟨some 153, .bin .eql, [(.t 152), (.c (D.int .i64 8))], [17, 11], some (146, true)⟩,
    ⟨some 154, .pick, [(.t 146), (.t 153), (.c (D.bool false))], [11, 18], none⟩,
    ⟨some 155, .mv, [(.t 154)], [19, 17], none⟩,
    ⟨some 156, .mkSl 29 46 (D.agg [(D.int .u32 0), (D.sl 23 true [])]) 32, [(.c (D.int .i64 301)), (.c (D.int .i64 301))], [20], some (155, true)⟩,
    ⟨some 157, .call [68], [(.c (D.fn 15 [])), (.t 156)], [21, 20, 20], some (155, true)⟩,
    ⟨some 158, .bin .eql, [(.t 157), (.c (D.int .i64 4))], [22, 20], some (155, true)⟩,
    ⟨some 159, .pick, [(.t 155), (.t 158), (.c (D.bool false))], [20, 23], none⟩,
    ⟨some 160, .mv, [(.t 159)], [24, 22], none⟩,
    ⟨some 161, .mkSl 30 23 (D.int .u32 0) 4, [(.c (D.int .i64 51)), (.c (D.int .i64 51))], [25], some (160, true)⟩,
    ⟨some 162, .build [(D.int .u32 0), (D.zs 23 true)] [(1, 1)], [(.t 161)], [26, 25], some (160, true)⟩,
    ⟨some 163, .buildSl 31 46, [(.t 162)], [27, 25], some (160, true)⟩,
    ⟨some 164, .call [69], [(.c (D.fn 15 [])), (.t 163)], [28, 25, 25], some (160, true)⟩,
    ⟨some 165, .bin .eql, [(.t 164), (.c (D.int .i64 4))], [29, 25], some (160, true)⟩,
    ⟨some 166, .pick, [(.t 160), (.t 165), (.c (D.bool false))], [25, 30], none⟩,
    ⟨some 167, .mv, [(.t 166)], [31, 29], none⟩,
    ⟨some 168, .call [70], [(.c (D.fn 15 [])), (.c (D.zs 46 true))], [32, 32], some (167, true)⟩,
    ⟨some 169, .bin .eql, [(.t 168), (.c (D.int .i64 0))], [33, 32], some (167, true)⟩,
    ⟨some 170, .pick, [(.t 167), (.t 169), (.c (D.bool false))], [32, 34], none⟩,
    ⟨some 23, .mv, [(.t 170)], [35, 33, 0, 1, 2, 3, 4, 5, 6, 7, 8, 9, 10, 11, 12, 13, 14, 15, 16, 17, 18, 19, 20, 21, 22, 23, 24, 25, 26, 27, 28, 29, 30, 31, 32, 33, 34, 35], none⟩])
  (.seq (.region false [
    ⟨some 171, .mv, [(.t 5)], [], none⟩,
    ⟨some 172, .bin .eql, [(.t 171), (.c (D.int .i64 0))], [0], none⟩,
    ⟨some 173, .mv, [(.t 172)], [1], none⟩,
    ⟨some 174, .mv, [(.t 4)], [2], some (173, true)⟩,
    ⟨some 175, .bin .eql, [(.t 174), (.c (D.int .u8 1))], [3, 2], some (173, true)⟩,
    ⟨some 176, .pick, [(.t 173), (.t 175), (.c (D.bool false))], [2, 4], none⟩,
    ⟨some 177, .mv, [(.t 176)], [5, 2], none⟩,
    ⟨some 178, .mv, [(.t 7)], [6], some (177, true)⟩,
    ⟨some 179, .bin .eql, [(.t 178), (.c (D.int .i64 0))], [7, 6], some (177, true)⟩,
    ⟨some 180, .pick, [(.t 177), (.t 179), (.c (D.bool false))], [6, 8], none⟩,
    ⟨some 181, .mv, [(.t 180)], [9, 6], none⟩,
    ⟨some 182, .mv, [(.t 6)], [10], some (181, true)⟩,
    ⟨some 183, .bin .eql, [(.t 182), (.c (D.int .u8 2))], [11, 10], some (181, true)⟩,
    ⟨some 184, .pick, [(.t 181), (.t 183), (.c (D.bool false))], [10, 12], none⟩,
    ⟨some 185, .mv, [(.t 184)], [13, 10], none⟩,
    ⟨some 186, .mv, [(.t 9)], [14], some (185, true)⟩,
    ⟨some 187, .bin .eql, [(.t 186), (.c (D.int .i64 0))], [15, 14], some (185, true)⟩,
    ⟨some 188, .pick, [(.t 185), (.t 187), (.c (D.bool false))], [14, 16], none⟩,
    ⟨some 189, .mv, [(.t 188)], [17, 14], none⟩,
    ⟨some 190, .mv, [(.t 8)], [18], some (189, true)⟩,
    ⟨some 191, .bin .eql, [(.t 190), (.c (D.int .u8 0))], [19, 18], some (189, true)⟩,
    ⟨some 192, .pick, [(.t 189), (.t 191), (.c (D.bool false))], [18, 20], none⟩,
    ⟨some 24, .mv, [(.t 192)], [21, 18, 0, 1, 2, 3, 4, 5, 6, 7, 8, 9, 10, 11, 12, 13, 14, 15, 16, 17, 18, 19, 20, 21], none⟩])
  (.seq (.region false [
    ⟨some 193, .call [71], [(.c (D.fn 23 []))], [], none⟩,
    ⟨some 194, .mv, [(.t 193)], [0, 0], none⟩,
    ⟨some 195, .mv, [(.t 3)], [1], some (194, true)⟩,
    ⟨some 196, .pick, [(.t 194), (.t 195), (.c (D.bool false))], [1, 2], none⟩,
    ⟨some 197, .mv, [(.t 196)], [3, 1], none⟩,
    ⟨some 198, .mv, [(.t 24)], [4], some (197, true)⟩,
    ⟨some 199, .pick, [(.t 197), (.t 198), (.c (D.bool false))], [4, 5], none⟩,
    ⟨some 200, .mv, [(.t 199)], [6, 4], none⟩,
    ⟨some 201, .mv, [(.t 22)], [7], some (200, true)⟩,
    ⟨some 202, .pick, [(.t 200), (.t 201), (.c (D.bool false))], [7, 8], none⟩,
    ⟨some 203, .mv, [(.t 202)], [9, 7], none⟩,
    ⟨some 204, .mv, [(.t 23)], [10], some (203, true)⟩,
    ⟨some 205, .pick, [(.t 203), (.t 204), (.c (D.bool false))], [10, 11], none⟩,
    ⟨some 206, .mv, [(.t 205)], [12, 10], none⟩,
    ⟨some 207, .mv, [(.t 11)], [13], some (206, true)⟩,
    ⟨some 208, .bin .eql, [(.t 207), (.c (D.int .i64 0))], [14, 13], some (206, true)⟩,
    ⟨some 209, .pick, [(.t 206), (.t 208), (.c (D.bool false))], [13, 15], none⟩,
    ⟨some 210, .mv, [(.t 209)], [16, 13], none⟩,
    ⟨some 211, .mv, [(.t 10)], [17], some (210, true)⟩,
    ⟨some 212, .bin .eql, [(.t 211), (.c (D.int .u8 1))], [18, 17], some (210, true)⟩,
    ⟨some 213, .pick, [(.t 210), (.t 212), (.c (D.bool false))], [17, 19], none⟩,
    ⟨some 214, .mv, [(.t 213)], [20, 17], none⟩,
    ⟨some 215, .mv, [(.t 13)], [21], some (214, true)⟩,
    ⟨some 216, .bin .eql, [(.t 215), (.c (D.int .i64 0))], [22, 21], some (214, true)⟩,
    ⟨some 217, .pick, [(.t 214), (.t 216), (.c (D.bool false))], [21, 23], none⟩,
    ⟨some 218, .mv, [(.t 217)], [24, 21], none⟩,
    ⟨some 219, .mv, [(.t 12)], [25], some (218, true)⟩,
    ⟨some 220, .bin .eql, [(.t 219), (.c (D.int .u8 2))], [26, 25], some (218, true)⟩,
    ⟨some 221, .pick, [(.t 218), (.t 220), (.c (D.bool false))], [25, 27], none⟩,
    ⟨some 222, .mv, [(.t 221)], [28, 25], none⟩,
    ⟨some 223, .mv, [(.t 15)], [29], some (222, true)⟩,
    ⟨some 224, .bin .eql, [(.t 223), (.c (D.int .i64 2))], [30, 29], some (222, true)⟩,
    ⟨some 225, .pick, [(.t 222), (.t 224), (.c (D.bool false))], [29, 31], none⟩,
    ⟨some 226, .mv, [(.t 225)], [32, 29], none⟩,
    ⟨some 227, .mv, [(.t 17)], [33], some (226, true)⟩,
    ⟨some 228, .bin .eql, [(.t 227), (.c (D.int .i64 4))], [34, 33], some (226, true)⟩,
    ⟨some 229, .pick, [(.t 226), (.t 228), (.c (D.bool false))], [33, 35], none⟩,
    ⟨some 230, .mv, [(.t 229)], [36, 33], none⟩,
    ⟨some 231, .mv, [(.t 19)], [37], some (230, true)⟩,
    ⟨some 232, .bin .eql, [(.t 231), (.c (D.int .i64 4))], [38, 37], some (230, true)⟩,
    ⟨some 233, .pick, [(.t 230), (.t 232), (.c (D.bool false))], [37, 39], none⟩,
    ⟨some 234, .mv, [(.t 233)], [40, 37], none⟩,
    ⟨some 235, .mv, [(.t 21)], [41], some (234, true)⟩,
    ⟨some 236, .bin .eql, [(.t 235), (.c (D.int .i64 0))], [42, 41], some (234, true)⟩,
    ⟨some 237, .pick, [(.t 234), (.t 236), (.c (D.bool false))], [41, 43], none⟩,
    ⟨some 238, .mv, [(.t 237)], [44, 41], none⟩,
    ⟨some 239, .load ⟨true, [.int .i64, .int .i64, .int .i64, .int .i64]⟩, [(.t 20)], [45], some (238, true)⟩,
    ⟨some 240, .build [(D.int .i64 0), (D.int .i64 0), (D.int .i64 0), (D.int .i64 0)] [(0, 1), (1, 1), (2, 1), (3, 1)], [(.c (D.int .i64 1)), (.c (D.int .i64 1)), (.c (D.int .i64 1)), (.c (D.int .i64 1))], [45], some (238, true)⟩,
    ⟨some 241, .eqv false ⟨true, [.int .i64, .int .i64, .int .i64, .int .i64]⟩, [(.t 239), (.t 240)], [46, 47, 45], some (238, true)⟩,
    ⟨some 242, .pick, [(.t 238), (.t 241), (.c (D.bool false))], [45, 48], none⟩,
    ⟨some 243, .mv, [(.t 242)], [49, 45], none⟩,
    ⟨some 244, .buildSl 32 23, [(.c (D.int .u32 1)), (.c (D.int .u32 1)), (.c (D.int .u32 2)), (.c (D.int .u32 1))], [50], some (243, true)⟩,
    ⟨some 245, .call [72], [(.c (D.fn 14 [])), (.t 244)], [51, 50, 50], some (243, true)⟩,
    ⟨some 246, .buildSl 33 23, [(.c (D.int .u32 1)), (.c (D.int .u32 2)), (.c (D.int .u32 1))], [50], some (243, true)⟩,
    ⟨some 247, .call [73], [(.c (D.fn 17 [])), (.t 245), (.t 246)], [52, 53, 52, 50], some (243, true)⟩,
    ⟨some 248, .pick, [(.t 243), (.t 247), (.c (D.bool false))], [50, 54], none⟩,
    ⟨some 0, .mv, [(.t 248)], [55, 54, 0, 1, 2, 3, 4, 5, 6, 7, 8, 9, 10, 11, 12, 13, 14, 15, 16, 17, 18, 19, 20, 21, 22, 23, 24, 25, 26, 27, 28, 29, 30, 31, 32, 33, 34, 35, 36, 37, 38, 39, 40, 41, 42, 43, 44, 45, 46, 47, 48, 49, 50, 51, 52, 53, 54, 55], none⟩])
  (.ret)))))))))))))))))⟩

def tabL : List (Nat × Entry) := [(11, .code c_gatepathref41_Great),
  (56, .code c_slices_IndexFunc),
  (40, .code c_slices_ContainsFunc),
  (41, .code c_leak_Check_1),
  (42, .code c_leak_rising_42),
  (43, .code c_leak_Check_2),
  (44, .code c_leak_rising_44),
  (45, .code c_leak_Check_3),
  (15, .code c_leak_Check),
  (52, .code c_slices_BinarySearchFunc),
  (57, .code c_cmp_isNaN),
  (54, .code c_cmp_Compare),
  (53, .code c_leak_hop_1),
  (58, .code c_cmp_Less),
  (59, .code c_slices_isNaN),
  (55, .code c_slices_BinarySearch),
  (36, .code c_leak_hop),
  (12, .code c_leak_Hop),
  (16, .code c_gatepathref41_Check),
  (37, .code c_gatepathref41_Known),
  (13, .code c_gatepathref41_Hop),
  (38, .code c_slices_Compact),
  (39, .code c_slices_Clone),
  (14, .code c_leak_Squeeze),
  (17, .code c_gatepathref41_SameSystems),
  (18, .code c_gatepathref41_Squeeze),
  (3, .code c_gatepathlaw41_LeakHops),
  (19, .code c_gatepathref41_Twin),
  (46, .code c_leak_Ramps_1),
  (47, .code c_leak_Ramps_2),
  (48, .code c_leak_Ramps_3),
  (49, .code c_slices_Reverse),
  (20, .code c_leak_Ramps),
  (26, .code c_gatepathref41_Up),
  (50, .code c_gatepathref41_climb),
  (21, .code c_gatepathref41_Ramps),
  (22, .code c_gatepathref41_Same),
  (4, .code c_gatepathlaw41_LeakRamps),
  (33, .code c_gatepathlaw41_some),
  (51, .code c_leak_judge),
  (24, .code c_leak_Upstream),
  (34, .code c_gatepathlaw41_up),
  (25, .code c_leak_Downstream),
  (35, .code c_gatepathlaw41_down),
  (23, .code c_gatepathlaw41_alive),
  (5, .code c_gatepathlaw41_LeakGrows),
  (6, .code c_gatepathlaw41_LeakRepeats),
  (7, .code c_gatepathlaw41_LeakBoth),
  (28, .code c_gatepathlaw41_right),
  (27, .code c_gatepathlaw41_shaped),
  (8, .code c_gatepathlaw41_LeakShapes),
  (29, .code c_gatepathref41_Upstream),
  (30, .code c_gatepathref41_Downstream),
  (31, .code c_leak_Validate),
  (32, .code c_gatepathref41_Validate),
  (9, .code c_gatepathlaw41_LeakTells),
  (10, .code c_gatepathlaw41_LeakNames)]
def tab (g : Nat) : Option Entry := tabL.lookup g

end Go.Proofs.Ytklbnnkdkkcgoaa.Own
