import Derived.Test.YtapfhcnigmighaaG4
namespace Go.Proofs.Ytapfhcnigmighaa.Own
open Go Go.Proofs.Ytapfhcnigmighaa.GD

def tyL : List (Nat × Vk) := [(3, ⟨false, [.int .i64]⟩), (5, ⟨false, [.int .u8]⟩), (46, ⟨false, [.int .u64]⟩), (51, ⟨false, [.int .u32]⟩), (53, ⟨true, [.bool, .bool, .int .u8, .int .u64, .int .u64, .int .i64, .int .u32]⟩), (65, ⟨true, [.bool, .bool, .int .u32, .int .u8, .int .u8, .int .u8, .int .u8, .int .u8, .int .u8, .int .u8, .int .u8, .int .u8, .int .u8, .int .u8, .int .u8, .int .u8, .int .u8, .int .u8, .int .u8, .int .i64]⟩), (81, ⟨true, [.int .u32, .sl 51]⟩), (93, ⟨true, [.int .u32, .int .u8, .int .u64, .int .u64, .int .i64, .int .i64]⟩), (100, ⟨true, [.int .u32, .int .u8, .int .u8, .int .u8, .int .u8, .int .u8, .int .u8, .int .u8, .int .u8, .int .u8, .int .u8, .int .u8, .int .u8, .int .u8, .int .u8, .int .u8, .int .u8, .int .i64]⟩)]
def ty (e : Nat) : Option Vk := tyL.lookup e

def vk0 : Vk := ⟨true, [.sl 53, .sl 65, .sl 51, .sl 93, .sl 81, .sl 100]⟩
def vk1 : Vk := ⟨true, [.int .u8, .int .u64, .int .u64, .int .i64]⟩
def vk2 : Vk := ⟨true, [.bool, .bool, .int .u8, .int .u64, .int .u64, .int .i64, .int .u32]⟩
def vk3 : Vk := ⟨true, [.int .u8, .int .u8, .int .u8, .int .u8, .int .u8, .int .u8, .int .u8, .int .u8, .int .u8, .int .u8, .int .u8, .int .u8, .int .u8, .int .u8, .int .u8, .int .u8, .int .i64]⟩
def vk4 : Vk := ⟨true, [.bool, .bool, .int .u32, .int .u8, .int .u8, .int .u8, .int .u8, .int .u8, .int .u8, .int .u8, .int .u8, .int .u8, .int .u8, .int .u8, .int .u8, .int .u8, .int .u8, .int .u8, .int .u8, .int .i64]⟩
def vk5 : Vk := ⟨true, [.int .u32, .int .u8, .int .u64, .int .u64, .int .i64, .int .i64]⟩
def vk6 : Vk := ⟨true, [.int .u32, .int .u8, .int .u8, .int .u8, .int .u8, .int .u8, .int .u8, .int .u8, .int .u8, .int .u8, .int .u8, .int .u8, .int .u8, .int .u8, .int .u8, .int .u8, .int .u8, .int .i64]⟩
def zs0 : List D := [(D.zs 93 true), (D.zs 81 true), (D.zs 100 true)]
def zs1 : List D := [(D.zs 53 true), (D.zs 65 true), (D.zs 51 true), (D.zs 93 true), (D.zs 81 true), (D.zs 100 true)]
def zs2 : List D := [(D.int .u8 0), (D.int .u64 0), (D.int .u64 0), (D.int .i64 0)]
def zs3 : List D := [(D.int .u8 0), (D.int .u8 0), (D.int .u8 0), (D.int .u8 0), (D.int .u8 0), (D.int .u8 0), (D.int .u8 0), (D.int .u8 0), (D.int .u8 0), (D.int .u8 0), (D.int .u8 0), (D.int .u8 0), (D.int .u8 0), (D.int .u8 0), (D.int .u8 0), (D.int .u8 0), (D.int .i64 0)]
def o (d : Nat) (p : DOp) (as : List Opd) (af : List Nat) : DOper := ⟨some d, p, as, af, none⟩

def c_gatepathref34_great : DFun := ⟨18, 2, [.p, .p], [.p ⟨false, [.bool]⟩], [.t 4],
  .seq (.region false [
    o 4 (.mv) [(.c (D.bool false))] []])
  (.seq (.region false [
    o 5 (.mv) [(.t 0)] [],
    o 6 (.bin .gtr) [(.t 5), (.c (D.int .i64 30))] [],
    o 7 (.mv) [(.t 6)] [],
    ⟨some 8, .mv, [(.t 0)], [], some (7, true)⟩,
    ⟨some 9, .mv, [(.t 1)], [], some (7, true)⟩,
    ⟨some 10, .bin .leq, [(.t 8), (.t 9)], [], some (7, true)⟩,
    o 11 (.pick) [(.t 7), (.t 10), (.c (D.bool false))] [],
    o 12 (.mv) [(.t 11)] [],
    ⟨some 13, .mv, [(.t 0)], [], some (12, false)⟩,
    ⟨some 14, .mv, [(.t 1)], [], some (12, false)⟩,
    ⟨some 15, .bin .add, [(.t 14), (.c (D.int .i64 10))], [], some (12, false)⟩,
    ⟨some 16, .bin .gtr, [(.t 13), (.t 15)], [], some (12, false)⟩,
    o 17 (.pick) [(.t 12), (.c (D.bool true)), (.t 16)] [],
    o 4 (.mv) [(.t 17)] []])
  (.ret))⟩

def c_gatepathref34_Great : DFun := ⟨35, 5, [.p], [.p ⟨false, [.bool]⟩], [.t 2],
  .seq (.region false [
    o 1 (.box 1) [(.t 0)] [],
    o 2 (.mv) [(.c (D.bool false))] []])
  (.seq (.seq (.region false [
    o 4 (.fld 0) [(.t 1)] [],
    o 5 (.load ⟨false, [.sl 93]⟩) [(.t 4)] [],
    o 6 (.len) [(.t 5)] [],
    o 7 (.call [2]) [(.c (D.fn 25 [])), (.t 6), (.c (D.int .i64 1000))] [],
    o 8 (.mv) [(.t 7)] [],
    ⟨some 9, .fld 1, [(.t 1)], [], some (8, false)⟩,
    ⟨some 10, .load ⟨false, [.sl 81]⟩, [(.t 9)], [], some (8, false)⟩,
    ⟨some 11, .len, [(.t 10)], [], some (8, false)⟩,
    ⟨some 12, .call [3], [(.c (D.fn 25 [])), (.t 11), (.c (D.int .i64 300))], [], some (8, false)⟩,
    o 13 (.pick) [(.t 8), (.c (D.bool true)), (.t 12)] [],
    o 14 (.mv) [(.t 13)] [],
    ⟨some 15, .fld 2, [(.t 1)], [], some (14, false)⟩,
    ⟨some 16, .load ⟨false, [.sl 100]⟩, [(.t 15)], [], some (14, false)⟩,
    ⟨some 17, .len, [(.t 16)], [], some (14, false)⟩,
    ⟨some 18, .call [4], [(.c (D.fn 25 [])), (.t 17), (.c (D.int .i64 100))], [], some (14, false)⟩,
    o 19 (.pick) [(.t 14), (.c (D.bool true)), (.t 18)] []])
  (.cond (.t 19) (.seq (.region false [
    o 2 (.mv) [(.c (D.bool true))] []])
  (.ret)) (.skip)))
  (.seq (.seq (.region false [
    o 3 (.mv) [(.c (D.int .i64 0))] []])
  (.block 0 (.loop ⟨[1], [(3, .p ⟨false, [.int .i64]⟩)], [(1, .v [.p (.sl 93), .p (.sl 81), .p (.sl 100)])]⟩ (.seq (.seq (.region false [
    o 20 (.mv) [(.t 3)] [],
    o 21 (.fld 1) [(.t 1)] [],
    o 22 (.load ⟨false, [.sl 81]⟩) [(.t 21)] [],
    o 23 (.len) [(.t 22)] [],
    o 24 (.bin .lss) [(.t 20), (.t 23)] []])
  (.cond (.t 24) (.skip) (.exit 0)))
  (.seq (.block 1 (.seq (.region false [
    o 27 (.fld 1) [(.t 1)] [],
    o 28 (.load ⟨false, [.sl 81]⟩) [(.t 27)] [],
    o 29 (.mv) [(.t 3)] [],
    o 30 (.idxA 81) [(.t 28), (.t 29)] [],
    o 31 (.fld 1) [(.t 30)] [],
    o 32 (.load ⟨false, [.sl 51]⟩) [(.t 31)] [],
    o 33 (.len) [(.t 32)] [],
    o 34 (.bin .gtr) [(.t 33), (.c (D.int .i64 60))] []])
  (.cond (.t 34) (.seq (.region false [
    o 2 (.mv) [(.c (D.bool true))] []])
  (.ret)) (.skip))))
  (.region false [
    o 25 (.mv) [(.t 3)] [],
    o 26 (.bin .add) [(.t 25), (.c (D.int .i64 1))] [],
    o 3 (.mv) [(.t 26)] []]))))))
  (.seq (.region false [
    o 2 (.mv) [(.c (D.bool false))] []])
  (.ret))))⟩

def c_gatepathref43_Great : DFun := ⟨24, 3, [.p], [.p ⟨false, [.bool]⟩], [.t 2],
  .seq (.region false [
    o 1 (.box 1) [(.t 0)] [],
    o 2 (.mv) [(.c (D.bool false))] []])
  (.seq (.region false [
    o 3 (.fld 0) [(.t 1)] [],
    o 4 (.load ⟨false, [.sl 53]⟩) [(.t 3)] [],
    o 5 (.len) [(.t 4)] [],
    o 6 (.bin .gtr) [(.t 5), (.c (D.int .i64 120))] [],
    o 7 (.mv) [(.t 6)] [],
    ⟨some 8, .fld 1, [(.t 1)], [], some (7, false)⟩,
    ⟨some 9, .load ⟨false, [.sl 65]⟩, [(.t 8)], [], some (7, false)⟩,
    ⟨some 10, .len, [(.t 9)], [], some (7, false)⟩,
    ⟨some 11, .bin .gtr, [(.t 10), (.c (D.int .i64 120))], [], some (7, false)⟩,
    o 12 (.pick) [(.t 7), (.c (D.bool true)), (.t 11)] [],
    o 13 (.mv) [(.t 12)] [],
    ⟨some 14, .fld 2, [(.t 1)], [], some (13, false)⟩,
    ⟨some 15, .load ⟨false, [.sl 51]⟩, [(.t 14)], [], some (13, false)⟩,
    ⟨some 16, .len, [(.t 15)], [], some (13, false)⟩,
    ⟨some 17, .bin .gtr, [(.t 16), (.c (D.int .i64 120))], [], some (13, false)⟩,
    o 18 (.pick) [(.t 13), (.c (D.bool true)), (.t 17)] [],
    o 19 (.mv) [(.t 18)] [],
    ⟨some 20, .fld 3, [(.t 1)], [], some (19, false)⟩,
    ⟨some 21, .load ⟨true, [.sl 93, .sl 81, .sl 100]⟩, [(.t 20)], [], some (19, false)⟩,
    ⟨some 22, .call [2], [(.c (D.fn 9 [])), (.t 21)], [], some (19, false)⟩,
    o 23 (.pick) [(.t 19), (.c (D.bool true)), (.t 22)] [],
    o 2 (.mv) [(.t 23)] []])
  (.ret))⟩

def c_gatepathref34_Twin : DFun := ⟨42, 18, [.p], [.p ⟨true, [.sl 93, .sl 81, .sl 100]⟩], [.c 2],
  .seq (.region false [
    o 1 (.box 1) [(.t 0)] [],
    o 2 (.alloc 2 zs0) [] []])
  (.seq (.region true [
    o 5 (.buildSl 3 93) [] [],
    o 6 (.fld 0) [(.t 1)] [],
    o 7 (.load ⟨false, [.sl 93]⟩) [(.t 6)] [1],
    o 8 (.append 4 93 48) [(.t 5), (.t 7)] [0, 2],
    o 9 (.buildSl 5 100) [] [],
    o 10 (.fld 2) [(.t 1)] [],
    o 11 (.load ⟨false, [.sl 100]⟩) [(.t 10)] [5],
    o 12 (.append 6 100 32) [(.t 9), (.t 11)] [3, 4, 6],
    o 13 (.build zs0 [(0, 1), (2, 1)]) [(.t 8), (.t 12)] [7],
    o 3 (.alloc 7 zs0) [] [],
    ⟨none, .store ⟨true, [.sl 93, .sl 81, .sl 100]⟩, [(.t 3), (.t 13)], [8, 9], none⟩])
  (.seq (.seq (.region false [
    o 4 (.mv) [(.c (D.int .i64 0))] []])
  (.block 0 (.loop ⟨[1, 2, 3], [(4, .p ⟨false, [.int .i64]⟩)], [(1, .v [.p (.sl 93), .p (.sl 81), .p (.sl 100)]), (2, .v [.o 12 93, .o 13 81, .o 14 100]), (7, .v [.o 15 93, .o 16 81, .o 17 100])]⟩ (.seq (.seq (.region false [
    o 14 (.mv) [(.t 4)] [],
    o 15 (.fld 1) [(.t 1)] [],
    o 16 (.load ⟨false, [.sl 81]⟩) [(.t 15)] [],
    o 17 (.len) [(.t 16)] [],
    o 18 (.bin .lss) [(.t 14), (.t 17)] []])
  (.cond (.t 18) (.skip) (.exit 0)))
  (.seq (.block 1 (.region true [
    o 21 (.fld 1) [(.t 3)] [],
    o 22 (.load ⟨false, [.sl 81]⟩) [(.t 21)] [0],
    o 23 (.fld 1) [(.t 1)] [],
    o 24 (.load ⟨false, [.sl 81]⟩) [(.t 23)] [2],
    o 25 (.mv) [(.t 4)] [],
    o 26 (.idxA 81) [(.t 24), (.t 25)] [3, 4],
    o 27 (.fld 0) [(.t 26)] [5],
    o 28 (.load ⟨false, [.int .u32]⟩) [(.t 27)] [6],
    o 29 (.buildSl 8 51) [] [],
    o 30 (.fld 1) [(.t 1)] [],
    o 31 (.load ⟨false, [.sl 81]⟩) [(.t 30)] [9],
    o 32 (.mv) [(.t 4)] [],
    o 33 (.idxA 81) [(.t 31), (.t 32)] [10, 11],
    o 34 (.fld 1) [(.t 33)] [12],
    o 35 (.load ⟨false, [.sl 51]⟩) [(.t 34)] [13],
    o 36 (.append 9 51 4) [(.t 29), (.t 35)] [8, 14],
    o 37 (.build [(D.int .u32 0), (D.zs 51 true)] [(0, 1), (1, 1)]) [(.t 28), (.t 36)] [7, 15],
    o 38 (.buildSl 10 81) [(.t 37)] [16],
    o 39 (.append 11 81 32) [(.t 22), (.t 38)] [1, 17],
    o 40 (.fld 1) [(.t 3)] [18],
    ⟨none, .store ⟨false, [.sl 81]⟩, [(.t 40), (.t 39)], [19], none⟩]))
  (.region false [
    o 19 (.mv) [(.t 4)] [],
    o 20 (.bin .add) [(.t 19), (.c (D.int .i64 1))] [],
    o 4 (.mv) [(.t 20)] []]))))))
  (.seq (.region false [
    o 41 (.load ⟨true, [.sl 93, .sl 81, .sl 100]⟩) [(.t 3)] [],
    ⟨none, .store ⟨true, [.sl 93, .sl 81, .sl 100]⟩, [(.t 2), (.t 41)], [], none⟩])
  (.ret))))⟩

def c_gatepathref43_Twin : DFun := ⟨19, 10, [.p], [.p vk0], [.c 2],
  .seq (.region false [
    o 1 (.box 1) [(.t 0)] [],
    o 2 (.alloc 2 zs1) [] []])
  (.seq (.region true [
    o 3 (.buildSl 3 53) [] [],
    o 4 (.fld 0) [(.t 1)] [],
    o 5 (.load ⟨false, [.sl 53]⟩) [(.t 4)] [1],
    o 6 (.append 4 53 48) [(.t 3), (.t 5)] [0, 2],
    o 7 (.buildSl 5 65) [] [],
    o 8 (.fld 1) [(.t 1)] [],
    o 9 (.load ⟨false, [.sl 65]⟩) [(.t 8)] [5],
    o 10 (.append 6 65 32) [(.t 7), (.t 9)] [3, 4, 6],
    o 11 (.buildSl 7 51) [] [],
    o 12 (.fld 2) [(.t 1)] [],
    o 13 (.load ⟨false, [.sl 51]⟩) [(.t 12)] [9],
    o 14 (.append 8 51 4) [(.t 11), (.t 13)] [7, 8, 10],
    o 15 (.fld 3) [(.t 1)] [],
    o 16 (.load ⟨true, [.sl 93, .sl 81, .sl 100]⟩) [(.t 15)] [12],
    o 17 (.call [9]) [(.c (D.fn 10 [])), (.t 16)] [11, 13],
    o 18 (.build zs1 [(0, 1), (1, 1), (2, 1), (3, 3)]) [(.t 6), (.t 10), (.t 14), (.t 17)] [14],
    ⟨none, .store vk0, [(.t 2), (.t 18)], [15], none⟩])
  (.ret))⟩

def c_cmp_Or : DFun := ⟨18, 1, [.p], [.p ⟨false, [.int .i64]⟩], [.t 2],
  .seq (.region false [
    o 2 (.mv) [(.c (D.int .i64 0))] []])
  (.seq (.region false [
    o 3 (.mv) [(.c (D.int .i64 0))] []])
  (.seq (.seq (.region false [
    o 6 (.mv) [(.t 0)] [],
    o 7 (.len) [(.t 6)] [],
    o 8 (.mv) [(.c (D.int .i64 0))] []])
  (.block 0 (.loop ⟨[3, 6, 7], [(8, .p ⟨false, [.int .i64]⟩)], []⟩ (.seq (.region false [
    o 9 (.bin .lss) [(.t 8), (.t 7)] []])
  (.seq (.cond (.t 9) (.skip) (.exit 0))
  (.seq (.block 1 (.seq (.region false [
    o 10 (.idxA 3) [(.t 6), (.t 8)] [],
    o 11 (.load ⟨false, [.int .i64]⟩) [(.t 10)] [],
    o 5 (.mv) [(.t 11)] []])
  (.seq (.region false [
    o 12 (.mv) [(.t 5)] [],
    o 13 (.mv) [(.t 3)] [],
    o 14 (.bin .neq) [(.t 12), (.t 13)] []])
  (.cond (.t 14) (.seq (.region false [
    o 15 (.mv) [(.t 5)] [],
    o 2 (.mv) [(.t 15)] []])
  (.ret)) (.skip)))))
  (.region false [
    o 16 (.bin .add) [(.t 8), (.c (D.int .i64 1))] [],
    o 8 (.mv) [(.t 16)] []])))))))
  (.seq (.region false [
    o 17 (.mv) [(.t 3)] [],
    o 2 (.mv) [(.t 17)] []])
  (.ret))))⟩

def c_local_truth : DFun := ⟨11, 2, [.p, .p], [.p ⟨false, [.int .i64]⟩], [.t 4],
  .seq (.region false [
    o 4 (.mv) [(.c (D.int .i64 0))] []])
  (.seq (.block 0 (.seq (.region false [
    o 6 (.mv) [(.t 0)] [],
    o 7 (.mv) [(.t 1)] [],
    o 8 (.eqv false ⟨false, [.bool]⟩) [(.t 6), (.t 7)] [],
    o 5 (.mv) [(.t 8)] []])
  (.cond (.t 5) (.seq (.region false [
    o 4 (.mv) [(.c (D.int .i64 0))] []])
  (.ret)) (.seq (.region false [
    o 10 (.mv) [(.t 1)] [],
    o 9 (.mv) [(.t 10)] []])
  (.cond (.t 9) (.seq (.region false [
    o 4 (.mv) [(.c (D.int .i64 (-1)))] []])
  (.ret)) (.skip))))))
  (.seq (.region false [
    o 4 (.mv) [(.c (D.int .i64 1))] []])
  (.ret)))⟩

def c_cmp_isNaN_65 : DFun := ⟨6, 1, [.p], [.p ⟨false, [.bool]⟩], [.t 2],
  .seq (.region false [
    o 2 (.mv) [(.c (D.bool false))] []])
  (.seq (.region false [
    o 3 (.mv) [(.t 0)] [],
    o 4 (.mv) [(.t 0)] [],
    o 5 (.bin .neq) [(.t 3), (.t 4)] [],
    o 2 (.mv) [(.t 5)] []])
  (.ret))⟩

def c_cmp_Compare_35 : DFun := ⟨20, 4, [.p, .p], [.p ⟨false, [.int .i64]⟩], [.t 4],
  .seq (.region false [
    o 4 (.mv) [(.c (D.int .i64 0))] []])
  (.seq (.region false [
    o 7 (.mv) [(.t 0)] [],
    o 8 (.call [2]) [(.c (D.fn 65 [])), (.t 7)] [],
    o 5 (.mv) [(.t 8)] []])
  (.seq (.region false [
    o 9 (.mv) [(.t 1)] [],
    o 10 (.call [3]) [(.c (D.fn 65 [])), (.t 9)] [],
    o 6 (.mv) [(.t 10)] []])
  (.seq (.seq (.region false [
    o 11 (.mv) [(.t 5)] []])
  (.cond (.t 11) (.seq (.seq (.region false [
    o 12 (.mv) [(.t 6)] []])
  (.cond (.t 12) (.seq (.region false [
    o 4 (.mv) [(.c (D.int .i64 0))] []])
  (.ret)) (.skip)))
  (.seq (.region false [
    o 4 (.mv) [(.c (D.int .i64 (-1)))] []])
  (.ret))) (.skip)))
  (.seq (.seq (.region false [
    o 13 (.mv) [(.t 6)] []])
  (.cond (.t 13) (.seq (.region false [
    o 4 (.mv) [(.c (D.int .i64 1))] []])
  (.ret)) (.skip)))
  (.seq (.seq (.region false [
    o 14 (.mv) [(.t 0)] [],
    o 15 (.mv) [(.t 1)] [],
    o 16 (.bin .lss) [(.t 14), (.t 15)] []])
  (.cond (.t 16) (.seq (.region false [
    o 4 (.mv) [(.c (D.int .i64 (-1)))] []])
  (.ret)) (.skip)))
  (.seq (.seq (.region false [
    o 17 (.mv) [(.t 0)] [],
    o 18 (.mv) [(.t 1)] [],
    o 19 (.bin .gtr) [(.t 17), (.t 18)] []])
  (.cond (.t 19) (.seq (.region false [
    o 4 (.mv) [(.c (D.int .i64 1))] []])
  (.ret)) (.skip)))
  (.seq (.region false [
    o 4 (.mv) [(.c (D.int .i64 0))] []])
  (.ret))))))))⟩

def c_cmp_isNaN_73 : DFun := ⟨6, 1, [.p], [.p ⟨false, [.bool]⟩], [.t 2],
  .seq (.region false [
    o 2 (.mv) [(.c (D.bool false))] []])
  (.seq (.region false [
    o 3 (.mv) [(.t 0)] [],
    o 4 (.mv) [(.t 0)] [],
    o 5 (.bin .neq) [(.t 3), (.t 4)] [],
    o 2 (.mv) [(.t 5)] []])
  (.ret))⟩

def c_cmp_Compare_57 : DFun := ⟨20, 4, [.p, .p], [.p ⟨false, [.int .i64]⟩], [.t 4],
  .seq (.region false [
    o 4 (.mv) [(.c (D.int .i64 0))] []])
  (.seq (.region false [
    o 7 (.mv) [(.t 0)] [],
    o 8 (.call [2]) [(.c (D.fn 73 [])), (.t 7)] [],
    o 5 (.mv) [(.t 8)] []])
  (.seq (.region false [
    o 9 (.mv) [(.t 1)] [],
    o 10 (.call [3]) [(.c (D.fn 73 [])), (.t 9)] [],
    o 6 (.mv) [(.t 10)] []])
  (.seq (.seq (.region false [
    o 11 (.mv) [(.t 5)] []])
  (.cond (.t 11) (.seq (.seq (.region false [
    o 12 (.mv) [(.t 6)] []])
  (.cond (.t 12) (.seq (.region false [
    o 4 (.mv) [(.c (D.int .i64 0))] []])
  (.ret)) (.skip)))
  (.seq (.region false [
    o 4 (.mv) [(.c (D.int .i64 (-1)))] []])
  (.ret))) (.skip)))
  (.seq (.seq (.region false [
    o 13 (.mv) [(.t 6)] []])
  (.cond (.t 13) (.seq (.region false [
    o 4 (.mv) [(.c (D.int .i64 1))] []])
  (.ret)) (.skip)))
  (.seq (.seq (.region false [
    o 14 (.mv) [(.t 0)] [],
    o 15 (.mv) [(.t 1)] [],
    o 16 (.bin .lss) [(.t 14), (.t 15)] []])
  (.cond (.t 16) (.seq (.region false [
    o 4 (.mv) [(.c (D.int .i64 (-1)))] []])
  (.ret)) (.skip)))
  (.seq (.seq (.region false [
    o 17 (.mv) [(.t 0)] [],
    o 18 (.mv) [(.t 1)] [],
    o 19 (.bin .gtr) [(.t 17), (.t 18)] []])
  (.cond (.t 19) (.seq (.region false [
    o 4 (.mv) [(.c (D.int .i64 1))] []])
  (.ret)) (.skip)))
  (.seq (.region false [
    o 4 (.mv) [(.c (D.int .i64 0))] []])
  (.ret))))))))⟩

def c_cmp_isNaN_77 : DFun := ⟨6, 1, [.p], [.p ⟨false, [.bool]⟩], [.t 2],
  .seq (.region false [
    o 2 (.mv) [(.c (D.bool false))] []])
  (.seq (.region false [
    o 3 (.mv) [(.t 0)] [],
    o 4 (.mv) [(.t 0)] [],
    o 5 (.bin .neq) [(.t 3), (.t 4)] [],
    o 2 (.mv) [(.t 5)] []])
  (.ret))⟩

def c_cmp_Compare_74 : DFun := ⟨20, 4, [.p, .p], [.p ⟨false, [.int .i64]⟩], [.t 4],
  .seq (.region false [
    o 4 (.mv) [(.c (D.int .i64 0))] []])
  (.seq (.region false [
    o 7 (.mv) [(.t 0)] [],
    o 8 (.call [2]) [(.c (D.fn 77 [])), (.t 7)] [],
    o 5 (.mv) [(.t 8)] []])
  (.seq (.region false [
    o 9 (.mv) [(.t 1)] [],
    o 10 (.call [3]) [(.c (D.fn 77 [])), (.t 9)] [],
    o 6 (.mv) [(.t 10)] []])
  (.seq (.seq (.region false [
    o 11 (.mv) [(.t 5)] []])
  (.cond (.t 11) (.seq (.seq (.region false [
    o 12 (.mv) [(.t 6)] []])
  (.cond (.t 12) (.seq (.region false [
    o 4 (.mv) [(.c (D.int .i64 0))] []])
  (.ret)) (.skip)))
  (.seq (.region false [
    o 4 (.mv) [(.c (D.int .i64 (-1)))] []])
  (.ret))) (.skip)))
  (.seq (.seq (.region false [
    o 13 (.mv) [(.t 6)] []])
  (.cond (.t 13) (.seq (.region false [
    o 4 (.mv) [(.c (D.int .i64 1))] []])
  (.ret)) (.skip)))
  (.seq (.seq (.region false [
    o 14 (.mv) [(.t 0)] [],
    o 15 (.mv) [(.t 1)] [],
    o 16 (.bin .lss) [(.t 14), (.t 15)] []])
  (.cond (.t 16) (.seq (.region false [
    o 4 (.mv) [(.c (D.int .i64 (-1)))] []])
  (.ret)) (.skip)))
  (.seq (.seq (.region false [
    o 17 (.mv) [(.t 0)] [],
    o 18 (.mv) [(.t 1)] [],
    o 19 (.bin .gtr) [(.t 17), (.t 18)] []])
  (.cond (.t 19) (.seq (.region false [
    o 4 (.mv) [(.c (D.int .i64 1))] []])
  (.ret)) (.skip)))
  (.seq (.region false [
    o 4 (.mv) [(.c (D.int .i64 0))] []])
  (.ret))))))))⟩

def c_number_Compare : DFun := ⟨19, 6, [.p, .p], [.p ⟨false, [.int .i64]⟩], [.t 4],
  .seq (.region false [
    o 2 (.box 2) [(.t 0)] [],
    o 3 (.box 3) [(.t 1)] [],
    o 4 (.mv) [(.c (D.int .i64 0))] []])
  (.seq (.seq (.region false [
    o 6 (.fld 0) [(.t 2)] [],
    o 7 (.load ⟨false, [.int .u64]⟩) [(.t 6)] [],
    o 8 (.fld 0) [(.t 3)] [],
    o 9 (.load ⟨false, [.int .u64]⟩) [(.t 8)] [],
    o 10 (.call [4]) [(.c (D.fn 74 [])), (.t 7), (.t 9)] [],
    o 5 (.mv) [(.t 10)] []])
  (.seq (.region false [
    o 11 (.mv) [(.t 5)] [],
    o 12 (.bin .neq) [(.t 11), (.c (D.int .i64 0))] []])
  (.cond (.t 12) (.seq (.region false [
    o 13 (.mv) [(.t 5)] [],
    o 4 (.mv) [(.t 13)] []])
  (.ret)) (.skip))))
  (.seq (.region false [
    o 14 (.fld 1) [(.t 2)] [],
    o 15 (.load ⟨false, [.int .u64]⟩) [(.t 14)] [],
    o 16 (.fld 1) [(.t 3)] [],
    o 17 (.load ⟨false, [.int .u64]⟩) [(.t 16)] [],
    o 18 (.call [5]) [(.c (D.fn 74 [])), (.t 15), (.t 17)] [],
    o 4 (.mv) [(.t 18)] []])
  (.ret)))⟩

def c_local_prefixes : DFun := ⟨22, 9, [.p, .p], [.p ⟨false, [.int .i64]⟩], [.t 4],
  .seq (.region false [
    o 2 (.box 2) [(.t 0)] [],
    o 3 (.box 3) [(.t 1)] [],
    o 4 (.mv) [(.c (D.int .i64 0))] []])
  (.seq (.region true [
    o 5 (.fld 0) [(.t 2)] [],
    o 6 (.load ⟨false, [.int .u8]⟩) [(.t 5)] [0],
    o 7 (.fld 0) [(.t 3)] [],
    o 8 (.load ⟨false, [.int .u8]⟩) [(.t 7)] [2],
    o 9 (.call [5]) [(.c (D.fn 57 [])), (.t 6), (.t 8)] [1, 3],
    o 10 (.fld 1) [(.t 2)] [],
    o 11 (.load ⟨true, [.int .u64, .int .u64]⟩) [(.t 10)] [5],
    o 12 (.fld 1) [(.t 3)] [],
    o 13 (.load ⟨true, [.int .u64, .int .u64]⟩) [(.t 12)] [7],
    o 14 (.call [6]) [(.c (D.fn 58 [])), (.t 11), (.t 13)] [4, 6, 8],
    o 15 (.fld 3) [(.t 2)] [],
    o 16 (.load ⟨false, [.int .i64]⟩) [(.t 15)] [10],
    o 17 (.fld 3) [(.t 3)] [],
    o 18 (.load ⟨false, [.int .i64]⟩) [(.t 17)] [12],
    o 19 (.call [7]) [(.c (D.fn 35 [])), (.t 16), (.t 18)] [9, 11, 13],
    o 20 (.buildSl 4 3) [(.t 9), (.t 14), (.t 19)] [14],
    o 21 (.call [8]) [(.c (D.fn 27 [])), (.t 20)] [15],
    o 4 (.mv) [(.t 21)] [16]])
  (.ret))⟩

def c_cmp_isNaN_59 : DFun := ⟨6, 1, [.p], [.p ⟨false, [.bool]⟩], [.t 2],
  .seq (.region false [
    o 2 (.mv) [(.c (D.bool false))] []])
  (.seq (.region false [
    o 3 (.mv) [(.t 0)] [],
    o 4 (.mv) [(.t 0)] [],
    o 5 (.bin .neq) [(.t 3), (.t 4)] [],
    o 2 (.mv) [(.t 5)] []])
  (.ret))⟩

def c_cmp_Compare_30 : DFun := ⟨20, 4, [.p, .p], [.p ⟨false, [.int .i64]⟩], [.t 4],
  .seq (.region false [
    o 4 (.mv) [(.c (D.int .i64 0))] []])
  (.seq (.region false [
    o 7 (.mv) [(.t 0)] [],
    o 8 (.call [2]) [(.c (D.fn 59 [])), (.t 7)] [],
    o 5 (.mv) [(.t 8)] []])
  (.seq (.region false [
    o 9 (.mv) [(.t 1)] [],
    o 10 (.call [3]) [(.c (D.fn 59 [])), (.t 9)] [],
    o 6 (.mv) [(.t 10)] []])
  (.seq (.seq (.region false [
    o 11 (.mv) [(.t 5)] []])
  (.cond (.t 11) (.seq (.seq (.region false [
    o 12 (.mv) [(.t 6)] []])
  (.cond (.t 12) (.seq (.region false [
    o 4 (.mv) [(.c (D.int .i64 0))] []])
  (.ret)) (.skip)))
  (.seq (.region false [
    o 4 (.mv) [(.c (D.int .i64 (-1)))] []])
  (.ret))) (.skip)))
  (.seq (.seq (.region false [
    o 13 (.mv) [(.t 6)] []])
  (.cond (.t 13) (.seq (.region false [
    o 4 (.mv) [(.c (D.int .i64 1))] []])
  (.ret)) (.skip)))
  (.seq (.seq (.region false [
    o 14 (.mv) [(.t 0)] [],
    o 15 (.mv) [(.t 1)] [],
    o 16 (.bin .lss) [(.t 14), (.t 15)] []])
  (.cond (.t 16) (.seq (.region false [
    o 4 (.mv) [(.c (D.int .i64 (-1)))] []])
  (.ret)) (.skip)))
  (.seq (.seq (.region false [
    o 17 (.mv) [(.t 0)] [],
    o 18 (.mv) [(.t 1)] [],
    o 19 (.bin .gtr) [(.t 17), (.t 18)] []])
  (.cond (.t 19) (.seq (.region false [
    o 4 (.mv) [(.c (D.int .i64 1))] []])
  (.ret)) (.skip)))
  (.seq (.region false [
    o 4 (.mv) [(.c (D.int .i64 0))] []])
  (.ret))))))))⟩

def c_local_byPrefix_1 : DFun := ⟨27, 10, [.p, .p], [.p ⟨false, [.int .i64]⟩], [.t 4],
  .seq (.region false [
    o 2 (.box 2) [(.t 0)] [],
    o 3 (.box 3) [(.t 1)] [],
    o 4 (.mv) [(.c (D.int .i64 0))] []])
  (.seq (.region true [
    o 5 (.fld 0) [(.t 2)] [],
    o 6 (.load ⟨false, [.bool]⟩) [(.t 5)] [0],
    o 7 (.fld 0) [(.t 3)] [],
    o 8 (.load ⟨false, [.bool]⟩) [(.t 7)] [2],
    o 9 (.call [5]) [(.c (D.fn 28 [])), (.t 6), (.t 8)] [1, 3],
    o 10 (.fld 2) [(.t 2)] [],
    o 11 (.load vk1) [(.t 10)] [5],
    o 12 (.fld 2) [(.t 3)] [],
    o 13 (.load vk1) [(.t 12)] [7],
    o 14 (.call [6]) [(.c (D.fn 29 [])), (.t 11), (.t 13)] [4, 6, 8],
    o 15 (.fld 1) [(.t 2)] [],
    o 16 (.load ⟨false, [.bool]⟩) [(.t 15)] [10],
    o 17 (.fld 1) [(.t 3)] [],
    o 18 (.load ⟨false, [.bool]⟩) [(.t 17)] [12],
    o 19 (.call [7]) [(.c (D.fn 28 [])), (.t 16), (.t 18)] [9, 11, 13],
    o 20 (.fld 6) [(.t 2)] [],
    o 21 (.load ⟨false, [.int .u32]⟩) [(.t 20)] [15],
    o 22 (.fld 6) [(.t 3)] [],
    o 23 (.load ⟨false, [.int .u32]⟩) [(.t 22)] [17],
    o 24 (.call [8]) [(.c (D.fn 30 [])), (.t 21), (.t 23)] [14, 16, 18],
    o 25 (.buildSl 4 3) [(.t 9), (.t 14), (.t 19), (.t 24)] [19],
    o 26 (.call [9]) [(.c (D.fn 27 [])), (.t 25)] [20],
    o 4 (.mv) [(.t 26)] [21]])
  (.ret))⟩

def c_number_width : DFun := ⟨8, 1, [.p], [.p ⟨false, [.int .i64]⟩], [.t 2],
  .seq (.region false [
    o 2 (.mv) [(.c (D.int .i64 0))] []])
  (.seq (.seq (.region false [
    o 3 (.mv) [(.t 0)] []])
  (.block 0 (.seq (.region false [
    o 5 (.bin .eql) [(.t 3), (.c (D.int .u8 4))] [],
    o 4 (.mv) [(.t 5)] []])
  (.cond (.t 4) (.seq (.region false [
    o 2 (.mv) [(.c (D.int .i64 32))] []])
  (.ret)) (.seq (.region false [
    o 7 (.bin .eql) [(.t 3), (.c (D.int .u8 6))] [],
    o 6 (.mv) [(.t 7)] []])
  (.cond (.t 6) (.seq (.region false [
    o 2 (.mv) [(.c (D.int .i64 128))] []])
  (.ret)) (.skip)))))))
  (.seq (.region false [
    o 2 (.mv) [(.c (D.int .i64 0))] []])
  (.ret)))⟩

def c_number_CheckAddr : DFun := ⟨21, 3, [.p, .p], [.p ⟨false, [.bool]⟩], [.t 4],
  .seq (.region false [
    o 3 (.box 2) [(.t 1)] [],
    o 4 (.mv) [(.c (D.bool false))] []])
  (.seq (.region false [
    o 5 (.mv) [(.t 0)] [],
    o 6 (.bin .eql) [(.t 5), (.c (D.int .u8 6))] [],
    o 7 (.mv) [(.t 6)] [],
    ⟨some 8, .mv, [(.t 0)], [], some (7, false)⟩,
    ⟨some 9, .bin .eql, [(.t 8), (.c (D.int .u8 4))], [], some (7, false)⟩,
    ⟨some 10, .mv, [(.t 9)], [], some (7, false)⟩,
    ⟨some 11, .fld 0, [(.t 3)], [], some (10, true)⟩,
    ⟨some 12, .load ⟨false, [.int .u64]⟩, [(.t 11)], [], some (10, true)⟩,
    ⟨some 13, .bin .eql, [(.t 12), (.c (D.int .u64 0))], [], some (10, true)⟩,
    ⟨some 14, .pick, [(.t 10), (.t 13), (.c (D.bool false))], [], some (7, false)⟩,
    ⟨some 15, .mv, [(.t 14)], [], some (7, false)⟩,
    ⟨some 16, .fld 1, [(.t 3)], [], some (15, true)⟩,
    ⟨some 17, .load ⟨false, [.int .u64]⟩, [(.t 16)], [], some (15, true)⟩,
    ⟨some 18, .bin .lss, [(.t 17), (.c (D.int .u64 4294967296))], [], some (15, true)⟩,
    ⟨some 19, .pick, [(.t 15), (.t 18), (.c (D.bool false))], [], some (7, false)⟩,
    o 20 (.pick) [(.t 7), (.c (D.bool true)), (.t 19)] [],
    o 4 (.mv) [(.t 20)] []])
  (.ret))⟩

def c_number_and : DFun := ⟨16, 5, [.p, .p], [.p ⟨true, [.int .u64, .int .u64]⟩], [.c 4],
  .seq (.region false [
    o 2 (.box 2) [(.t 0)] [],
    o 3 (.box 3) [(.t 1)] [],
    o 4 (.alloc 4 [(D.int .u64 0), (D.int .u64 0)]) [] []])
  (.seq (.region false [
    o 5 (.fld 0) [(.t 2)] [],
    o 6 (.load ⟨false, [.int .u64]⟩) [(.t 5)] [],
    o 7 (.fld 0) [(.t 3)] [],
    o 8 (.load ⟨false, [.int .u64]⟩) [(.t 7)] [],
    o 9 (.bin .and) [(.t 6), (.t 8)] [],
    o 10 (.fld 1) [(.t 2)] [],
    o 11 (.load ⟨false, [.int .u64]⟩) [(.t 10)] [],
    o 12 (.fld 1) [(.t 3)] [],
    o 13 (.load ⟨false, [.int .u64]⟩) [(.t 12)] [],
    o 14 (.bin .and) [(.t 11), (.t 13)] [],
    o 15 (.build [(D.int .u64 0), (D.int .u64 0)] [(0, 1), (1, 1)]) [(.t 9), (.t 14)] [],
    ⟨none, .store ⟨true, [.int .u64, .int .u64]⟩, [(.t 4), (.t 15)], [], none⟩])
  (.ret))⟩

def c_number_mask : DFun := ⟨32, 5, [.p, .p], [.p ⟨true, [.int .u64, .int .u64]⟩], [.c 4],
  .seq (.region false [
    o 4 (.alloc 2 [(D.int .u64 0), (D.int .u64 0)]) [] []])
  (.seq (.region false [
    o 7 (.mv) [(.t 0)] [],
    o 8 (.call [4]) [(.c (D.fn 60 [])), (.t 7)] [],
    o 9 (.mv) [(.t 1)] [],
    o 10 (.bin .sub) [(.t 8), (.t 9)] [],
    o 5 (.mv) [(.t 10)] []])
  (.seq (.region false [
    o 11 (.build [(D.int .u64 0), (D.int .u64 0)] [(0, 1), (1, 1)]) [(.c (D.int .u64 18446744073709551615)), (.c (D.int .u64 18446744073709551615))] [],
    o 6 (.alloc 3 [(D.int .u64 0), (D.int .u64 0)]) [] [],
    ⟨none, .store ⟨true, [.int .u64, .int .u64]⟩, [(.t 6), (.t 11)], [], none⟩])
  (.seq (.seq (.region false [
    o 12 (.mv) [(.t 5)] [],
    o 13 (.bin .geq) [(.t 12), (.c (D.int .i64 64))] []])
  (.cond (.t 13) (.region false [
    o 14 (.fld 0) [(.t 6)] [],
    o 15 (.load ⟨false, [.int .u64]⟩) [(.t 14)] [],
    o 16 (.mv) [(.t 5)] [],
    o 17 (.bin .sub) [(.t 16), (.c (D.int .i64 64))] [],
    o 18 (.bin .shl) [(.t 15), (.t 17)] [],
    o 19 (.build [(D.int .u64 0), (D.int .u64 0)] [(0, 1)]) [(.t 18)] [],
    ⟨none, .store ⟨true, [.int .u64, .int .u64]⟩, [(.t 6), (.t 19)], [], none⟩]) (.region false [
    o 20 (.fld 1) [(.t 6)] [],
    o 21 (.load ⟨false, [.int .u64]⟩) [(.t 20)] [],
    o 22 (.mv) [(.t 5)] [],
    o 23 (.bin .shl) [(.t 21), (.t 22)] [],
    o 24 (.fld 1) [(.t 6)] [],
    ⟨none, .store ⟨false, [.int .u64]⟩, [(.t 24), (.t 23)], [], none⟩])))
  (.seq (.seq (.region false [
    o 25 (.mv) [(.t 0)] [],
    o 26 (.bin .eql) [(.t 25), (.c (D.int .u8 4))] []])
  (.cond (.t 26) (.region false [
    o 27 (.fld 1) [(.t 6)] [],
    o 28 (.load ⟨false, [.int .u64]⟩) [(.t 27)] [],
    o 29 (.bin .and) [(.t 28), (.c (D.int .u64 4294967295))] [],
    o 30 (.build [(D.int .u64 0), (D.int .u64 0)] [(1, 1)]) [(.t 29)] [],
    ⟨none, .store ⟨true, [.int .u64, .int .u64]⟩, [(.t 6), (.t 30)], [], none⟩]) (.skip)))
  (.seq (.region false [
    o 31 (.load ⟨true, [.int .u64, .int .u64]⟩) [(.t 6)] [],
    ⟨none, .store ⟨true, [.int .u64, .int .u64]⟩, [(.t 4), (.t 31)], [], none⟩])
  (.ret))))))⟩

def c_number_Check : DFun := ⟨39, 7, [.p], [.p ⟨false, [.int .i64]⟩], [.t 2],
  .seq (.region false [
    o 1 (.box 1) [(.t 0)] [],
    o 2 (.mv) [(.c (D.int .i64 0))] []])
  (.seq (.seq (.region false [
    o 3 (.fld 0) [(.t 1)] [],
    o 4 (.load ⟨false, [.int .u8]⟩) [(.t 3)] [],
    o 5 (.call [2]) [(.c (D.fn 60 [])), (.t 4)] [],
    o 6 (.bin .eql) [(.t 5), (.c (D.int .i64 0))] []])
  (.cond (.t 6) (.seq (.region false [
    o 2 (.mv) [(.c (D.int .i64 2))] []])
  (.ret)) (.skip)))
  (.seq (.seq (.region true [
    o 7 (.fld 0) [(.t 1)] [],
    o 8 (.load ⟨false, [.int .u8]⟩) [(.t 7)] [0],
    o 9 (.fld 1) [(.t 1)] [],
    o 10 (.load ⟨true, [.int .u64, .int .u64]⟩) [(.t 9)] [2],
    o 11 (.call [3]) [(.c (D.fn 61 [])), (.t 8), (.t 10)] [1, 3],
    o 12 (.not) [(.t 11)] [4],
    o 13 (.mv) [(.t 12)] [5],
    ⟨some 14, .fld 3, [(.t 1)], [6], some (13, false)⟩,
    ⟨some 15, .load ⟨false, [.int .i64]⟩, [(.t 14)], [7], some (13, false)⟩,
    ⟨some 16, .bin .lss, [(.t 15), (.c (D.int .i64 0))], [8], some (13, false)⟩,
    o 17 (.pick) [(.t 13), (.c (D.bool true)), (.t 16)] [9],
    o 18 (.mv) [(.t 17)] [10],
    ⟨some 19, .fld 3, [(.t 1)], [11], some (18, false)⟩,
    ⟨some 20, .load ⟨false, [.int .i64]⟩, [(.t 19)], [12], some (18, false)⟩,
    ⟨some 21, .fld 0, [(.t 1)], [11], some (18, false)⟩,
    ⟨some 22, .load ⟨false, [.int .u8]⟩, [(.t 21)], [14], some (18, false)⟩,
    ⟨some 23, .call [4], [(.c (D.fn 60 [])), (.t 22)], [15], some (18, false)⟩,
    ⟨some 24, .bin .gtr, [(.t 20), (.t 23)], [13, 16], some (18, false)⟩,
    o 25 (.pick) [(.t 18), (.c (D.bool true)), (.t 24)] [17],
    o 26 (.mv) [(.t 25)] [18],
    ⟨some 27, .fld 1, [(.t 1)], [19], some (26, false)⟩,
    ⟨some 28, .load ⟨true, [.int .u64, .int .u64]⟩, [(.t 27)], [20], some (26, false)⟩,
    ⟨some 29, .fld 0, [(.t 1)], [19], some (26, false)⟩,
    ⟨some 30, .load ⟨false, [.int .u8]⟩, [(.t 29)], [22], some (26, false)⟩,
    ⟨some 31, .fld 3, [(.t 1)], [19], some (26, false)⟩,
    ⟨some 32, .load ⟨false, [.int .i64]⟩, [(.t 31)], [24], some (26, false)⟩,
    ⟨some 33, .call [5], [(.c (D.fn 63 [])), (.t 30), (.t 32)], [23, 25], some (26, false)⟩,
    ⟨some 34, .call [6], [(.c (D.fn 62 [])), (.t 28), (.t 33)], [21, 26], some (26, false)⟩,
    ⟨some 35, .fld 1, [(.t 1)], [19], some (26, false)⟩,
    ⟨some 36, .load ⟨true, [.int .u64, .int .u64]⟩, [(.t 35)], [28], some (26, false)⟩,
    ⟨some 37, .eqv true ⟨true, [.int .u64, .int .u64]⟩, [(.t 34), (.t 36)], [27, 29], some (26, false)⟩,
    o 38 (.pick) [(.t 26), (.c (D.bool true)), (.t 37)] [30]])
  (.cond (.t 38) (.seq (.region false [
    o 2 (.mv) [(.c (D.int .i64 8))] []])
  (.ret)) (.skip)))
  (.seq (.region false [
    o 2 (.mv) [(.c (D.int .i64 0))] []])
  (.ret))))⟩

def c_local_byPrefix_2 : DFun := ⟨32, 3, [.p], [.p ⟨false, [.bool]⟩], [.t 2],
  .seq (.region false [
    o 1 (.box 1) [(.t 0)] [],
    o 2 (.mv) [(.c (D.bool false))] []])
  (.seq (.region false [
    o 4 (.fld 2) [(.t 1)] [],
    o 5 (.load vk1) [(.t 4)] [],
    o 6 (.build zs2 []) [] [],
    o 7 (.eqv false vk1) [(.t 5), (.t 6)] [],
    o 3 (.mv) [(.t 7)] []])
  (.seq (.seq (.region false [
    o 8 (.fld 0) [(.t 1)] [],
    o 9 (.load ⟨false, [.bool]⟩) [(.t 8)] []])
  (.cond (.t 9) (.region false [
    o 10 (.fld 2) [(.t 1)] [],
    o 11 (.load vk1) [(.t 10)] [],
    o 12 (.call [2]) [(.c (D.fn 32 [])), (.t 11)] [],
    o 13 (.bin .eql) [(.t 12), (.c (D.int .i64 0))] [],
    o 3 (.mv) [(.t 13)] []]) (.skip)))
  (.seq (.region false [
    o 14 (.fld 0) [(.t 1)] [],
    o 15 (.load ⟨false, [.bool]⟩) [(.t 14)] [],
    o 16 (.mv) [(.t 15)] [],
    ⟨some 17, .fld 1, [(.t 1)], [], some (16, false)⟩,
    ⟨some 18, .load ⟨false, [.bool]⟩, [(.t 17)], [], some (16, false)⟩,
    o 19 (.pick) [(.t 16), (.c (D.bool true)), (.t 18)] [],
    o 20 (.mv) [(.t 19)] [],
    ⟨some 21, .mv, [(.t 3)], [], some (20, true)⟩,
    o 22 (.pick) [(.t 20), (.t 21), (.c (D.bool false))] [],
    o 23 (.mv) [(.t 22)] [],
    ⟨some 24, .fld 1, [(.t 1)], [], some (23, true)⟩,
    ⟨some 25, .load ⟨false, [.bool]⟩, [(.t 24)], [], some (23, true)⟩,
    ⟨some 26, .mv, [(.t 25)], [], some (23, true)⟩,
    ⟨some 27, .fld 6, [(.t 1)], [], some (26, false)⟩,
    ⟨some 28, .load ⟨false, [.int .u32]⟩, [(.t 27)], [], some (26, false)⟩,
    ⟨some 29, .bin .eql, [(.t 28), (.c (D.int .u32 0))], [], some (26, false)⟩,
    ⟨some 30, .pick, [(.t 26), (.c (D.bool true)), (.t 29)], [], some (23, true)⟩,
    o 31 (.pick) [(.t 23), (.t 30), (.c (D.bool false))] [],
    o 2 (.mv) [(.t 31)] []])
  (.ret))))⟩

def c_local_byPrefix : DFun := ⟨2, 1, [], [.p ⟨true, [.fnk 26, .fnk 31]⟩], [.c 0],
  .seq (.region false [
    o 0 (.alloc 0 [D.nilfn, D.nilfn]) [] []])
  (.seq (.region false [
    o 1 (.build [D.nilfn, D.nilfn] [(0, 1), (1, 1)]) [(.c (D.fn 26 [])), (.c (D.fn 31 []))] [],
    ⟨none, .store ⟨true, [.fn, .fn]⟩, [(.t 0), (.t 1)], [], none⟩])
  (.ret))⟩

def c_api_LocalPrefix_check : DFun := ⟨36, 5, [.p, .p], [.p ⟨false, [.bool]⟩], [.t 4],
  .seq (.region false [
    o 2 (.boxF) [(.t 0)] [],
    o 4 (.mv) [(.c (D.bool false))] []])
  (.seq (.seq (.region false [
    o 7 (.mv) [(.t 1)] [],
    o 8 (.len) [(.t 7)] [],
    o 9 (.mv) [(.c (D.int .i64 0))] []])
  (.block 0 (.loop ⟨[1, 2, 7, 8], [(9, .p ⟨false, [.int .i64]⟩)], []⟩ (.seq (.region false [
    o 10 (.bin .lss) [(.t 9), (.t 8)] []])
  (.seq (.cond (.t 10) (.skip) (.exit 0))
  (.seq (.block 1 (.seq (.region false [
    o 11 (.mv) [(.t 9)] [],
    o 12 (.idxA 53) [(.t 7), (.t 9)] [],
    o 13 (.load vk2) [(.t 12)] [],
    o 6 (.alloc 2 [(D.bool false), (D.bool false), (D.int .u8 0), (D.int .u64 0), (D.int .u64 0), (D.int .i64 0), (D.int .u32 0)]) [] [],
    o 5 (.mv) [(.t 11)] [],
    ⟨none, .store vk2, [(.t 6), (.t 13)], [], none⟩])
  (.seq (.region true [
    o 14 (.fld 1) [(.t 2)] [],
    o 15 (.load ⟨false, [.fn]⟩) [(.t 14)] [0],
    o 16 (.load vk2) [(.t 6)] [],
    o 17 (.call [3]) [(.t 15), (.t 16)] [1, 2],
    o 18 (.not) [(.t 17)] [3],
    o 19 (.mv) [(.t 18)] [4],
    ⟨some 20, .mv, [(.t 5)], [5], some (19, false)⟩,
    ⟨some 21, .bin .gtr, [(.t 20), (.c (D.int .i64 0))], [6], some (19, false)⟩,
    ⟨some 22, .mv, [(.t 21)], [7], some (19, false)⟩,
    ⟨some 23, .fld 0, [(.t 2)], [8], some (22, true)⟩,
    ⟨some 24, .load ⟨false, [.fn]⟩, [(.t 23)], [9], some (22, true)⟩,
    ⟨some 25, .mv, [(.t 1)], [8], some (22, true)⟩,
    ⟨some 26, .mv, [(.t 5)], [8], some (22, true)⟩,
    ⟨some 27, .bin .sub, [(.t 26), (.c (D.int .i64 1))], [12], some (22, true)⟩,
    ⟨some 28, .idxA 53, [(.t 25), (.t 27)], [11, 13], some (22, true)⟩,
    ⟨some 29, .load vk2, [(.t 28)], [14], some (22, true)⟩,
    ⟨some 30, .load vk2, [(.t 6)], [8], some (22, true)⟩,
    ⟨some 31, .call [4], [(.t 24), (.t 29), (.t 30)], [10, 15, 16], some (22, true)⟩,
    ⟨some 32, .bin .geq, [(.t 31), (.c (D.int .i64 0))], [17], some (22, true)⟩,
    ⟨some 33, .pick, [(.t 22), (.t 32), (.c (D.bool false))], [18], some (19, false)⟩,
    o 34 (.pick) [(.t 19), (.c (D.bool true)), (.t 33)] [19]])
  (.cond (.t 34) (.seq (.region false [
    o 4 (.mv) [(.c (D.bool false))] []])
  (.ret)) (.skip)))))
  (.region false [
    o 35 (.bin .add) [(.t 9), (.c (D.int .i64 1))] [],
    o 9 (.mv) [(.t 35)] []])))))))
  (.seq (.region false [
    o 4 (.mv) [(.c (D.bool true))] []])
  (.ret)))⟩

def c_local_byKey_1 : DFun := ⟨36, 9, [.p, .p], [.p ⟨false, [.int .i64]⟩], [.t 4],
  .seq (.region false [
    o 2 (.boxF) [(.t 0)] [],
    o 3 (.boxF) [(.t 1)] [],
    o 4 (.mv) [(.c (D.int .i64 0))] []])
  (.seq (.region true [
    o 5 (.fld 0) [(.t 2)] [],
    o 6 (.load ⟨false, [.bool]⟩) [(.t 5)] [0],
    o 7 (.fld 0) [(.t 3)] [],
    o 8 (.load ⟨false, [.bool]⟩) [(.t 7)] [2],
    o 9 (.call [3]) [(.c (D.fn 28 [])), (.t 6), (.t 8)] [1, 3],
    o 10 (.fld 2) [(.t 2)] [],
    o 11 (.load ⟨false, [.int .u32]⟩) [(.t 10)] [5],
    o 12 (.fld 2) [(.t 3)] [],
    o 13 (.load ⟨false, [.int .u32]⟩) [(.t 12)] [7],
    o 14 (.call [4]) [(.c (D.fn 30 [])), (.t 11), (.t 13)] [4, 6, 8],
    o 15 (.fld 1) [(.t 2)] [],
    o 16 (.load ⟨false, [.bool]⟩) [(.t 15)] [10],
    o 17 (.fld 1) [(.t 3)] [],
    o 18 (.load ⟨false, [.bool]⟩) [(.t 17)] [12],
    o 19 (.call [5]) [(.c (D.fn 28 [])), (.t 16), (.t 18)] [9, 11, 13],
    o 20 (.fld 3) [(.t 2)] [],
    o 21 (.fld 0) [(.t 20)] [15],
    o 22 (.sliceA 5 16) [(.t 21)] [16],
    o 23 (.fld 3) [(.t 3)] [],
    o 24 (.fld 0) [(.t 23)] [18],
    o 25 (.sliceA 5 16) [(.t 24)] [19],
    o 26 (.call [6]) [(.c (D.fn 34 [])), (.t 22), (.t 25)] [14, 17, 20],
    o 27 (.fld 3) [(.t 2)] [],
    o 28 (.fld 16) [(.t 27)] [22],
    o 29 (.load ⟨false, [.int .i64]⟩) [(.t 28)] [23],
    o 30 (.fld 3) [(.t 3)] [],
    o 31 (.fld 16) [(.t 30)] [25],
    o 32 (.load ⟨false, [.int .i64]⟩) [(.t 31)] [26],
    o 33 (.call [7]) [(.c (D.fn 35 [])), (.t 29), (.t 32)] [21, 24, 27],
    o 34 (.buildSl 2 3) [(.t 9), (.t 14), (.t 19), (.t 26), (.t 33)] [28],
    o 35 (.call [8]) [(.c (D.fn 27 [])), (.t 34)] [29],
    o 4 (.mv) [(.t 35)] [30]])
  (.ret))⟩

def c_local_byKey_2 : DFun := ⟨38, 2, [.p], [.p ⟨false, [.bool]⟩], [.t 2],
  .seq (.region false [
    o 1 (.box 1) [(.t 0)] [],
    o 2 (.mv) [(.c (D.bool false))] []])
  (.seq (.region false [
    o 4 (.fld 3) [(.t 1)] [],
    o 5 (.load vk3) [(.t 4)] [],
    o 6 (.build zs3 []) [] [],
    o 7 (.eqv false vk3) [(.t 5), (.t 6)] [],
    o 3 (.mv) [(.t 7)] []])
  (.seq (.seq (.region false [
    o 8 (.fld 1) [(.t 1)] [],
    o 9 (.load ⟨false, [.bool]⟩) [(.t 8)] []])
  (.cond (.t 9) (.region false [
    o 10 (.fld 3) [(.t 1)] [],
    o 11 (.fld 16) [(.t 10)] [],
    o 12 (.load ⟨false, [.int .i64]⟩) [(.t 11)] [],
    o 13 (.bin .geq) [(.t 12), (.c (D.int .i64 0))] [],
    o 14 (.mv) [(.t 13)] [],
    ⟨some 15, .fld 3, [(.t 1)], [], some (14, true)⟩,
    ⟨some 16, .fld 16, [(.t 15)], [], some (14, true)⟩,
    ⟨some 17, .load ⟨false, [.int .i64]⟩, [(.t 16)], [], some (14, true)⟩,
    ⟨some 18, .bin .leq, [(.t 17), (.c (D.int .i64 4))], [], some (14, true)⟩,
    o 19 (.pick) [(.t 14), (.t 18), (.c (D.bool false))] [],
    o 3 (.mv) [(.t 19)] []]) (.skip)))
  (.seq (.region false [
    o 20 (.fld 1) [(.t 1)] [],
    o 21 (.load ⟨false, [.bool]⟩) [(.t 20)] [],
    o 22 (.mv) [(.t 21)] [],
    ⟨some 23, .fld 0, [(.t 1)], [], some (22, false)⟩,
    ⟨some 24, .load ⟨false, [.bool]⟩, [(.t 23)], [], some (22, false)⟩,
    o 25 (.pick) [(.t 22), (.c (D.bool true)), (.t 24)] [],
    o 26 (.mv) [(.t 25)] [],
    ⟨some 27, .mv, [(.t 3)], [], some (26, true)⟩,
    o 28 (.pick) [(.t 26), (.t 27), (.c (D.bool false))] [],
    o 29 (.mv) [(.t 28)] [],
    ⟨some 30, .fld 0, [(.t 1)], [], some (29, true)⟩,
    ⟨some 31, .load ⟨false, [.bool]⟩, [(.t 30)], [], some (29, true)⟩,
    ⟨some 32, .mv, [(.t 31)], [], some (29, true)⟩,
    ⟨some 33, .fld 2, [(.t 1)], [], some (32, false)⟩,
    ⟨some 34, .load ⟨false, [.int .u32]⟩, [(.t 33)], [], some (32, false)⟩,
    ⟨some 35, .bin .eql, [(.t 34), (.c (D.int .u32 0))], [], some (32, false)⟩,
    ⟨some 36, .pick, [(.t 32), (.c (D.bool true)), (.t 35)], [], some (29, true)⟩,
    o 37 (.pick) [(.t 29), (.t 36), (.c (D.bool false))] [],
    o 2 (.mv) [(.t 37)] []])
  (.ret))))⟩

def c_local_byKey : DFun := ⟨2, 1, [], [.p ⟨true, [.fnk 33, .fnk 36]⟩], [.c 0],
  .seq (.region false [
    o 0 (.alloc 0 [D.nilfn, D.nilfn]) [] []])
  (.seq (.region false [
    o 1 (.build [D.nilfn, D.nilfn] [(0, 1), (1, 1)]) [(.c (D.fn 33 [])), (.c (D.fn 36 []))] [],
    ⟨none, .store ⟨true, [.fn, .fn]⟩, [(.t 0), (.t 1)], [], none⟩])
  (.ret))⟩

def c_api_LocalKey_check : DFun := ⟨36, 5, [.p, .p], [.p ⟨false, [.bool]⟩], [.t 4],
  .seq (.region false [
    o 2 (.boxF) [(.t 0)] [],
    o 4 (.mv) [(.c (D.bool false))] []])
  (.seq (.seq (.region false [
    o 7 (.mv) [(.t 1)] [],
    o 8 (.len) [(.t 7)] [],
    o 9 (.mv) [(.c (D.int .i64 0))] []])
  (.block 0 (.loop ⟨[1, 2, 7, 8], [(9, .p ⟨false, [.int .i64]⟩)], []⟩ (.seq (.region false [
    o 10 (.bin .lss) [(.t 9), (.t 8)] []])
  (.seq (.cond (.t 10) (.skip) (.exit 0))
  (.seq (.block 1 (.seq (.region false [
    o 11 (.mv) [(.t 9)] [],
    o 12 (.idxA 65) [(.t 7), (.t 9)] [],
    o 13 (.load vk4) [(.t 12)] [],
    o 6 (.alloc 2 [(D.bool false), (D.bool false), (D.int .u32 0), (D.int .u8 0), (D.int .u8 0), (D.int .u8 0), (D.int .u8 0), (D.int .u8 0), (D.int .u8 0), (D.int .u8 0), (D.int .u8 0), (D.int .u8 0), (D.int .u8 0), (D.int .u8 0), (D.int .u8 0), (D.int .u8 0), (D.int .u8 0), (D.int .u8 0), (D.int .u8 0), (D.int .i64 0)]) [] [],
    o 5 (.mv) [(.t 11)] [],
    ⟨none, .store vk4, [(.t 6), (.t 13)], [], none⟩])
  (.seq (.region true [
    o 14 (.fld 1) [(.t 2)] [],
    o 15 (.load ⟨false, [.fn]⟩) [(.t 14)] [0],
    o 16 (.load vk4) [(.t 6)] [],
    o 17 (.call [3]) [(.t 15), (.t 16)] [1, 2],
    o 18 (.not) [(.t 17)] [3],
    o 19 (.mv) [(.t 18)] [4],
    ⟨some 20, .mv, [(.t 5)], [5], some (19, false)⟩,
    ⟨some 21, .bin .gtr, [(.t 20), (.c (D.int .i64 0))], [6], some (19, false)⟩,
    ⟨some 22, .mv, [(.t 21)], [7], some (19, false)⟩,
    ⟨some 23, .fld 0, [(.t 2)], [8], some (22, true)⟩,
    ⟨some 24, .load ⟨false, [.fn]⟩, [(.t 23)], [9], some (22, true)⟩,
    ⟨some 25, .mv, [(.t 1)], [8], some (22, true)⟩,
    ⟨some 26, .mv, [(.t 5)], [8], some (22, true)⟩,
    ⟨some 27, .bin .sub, [(.t 26), (.c (D.int .i64 1))], [12], some (22, true)⟩,
    ⟨some 28, .idxA 65, [(.t 25), (.t 27)], [11, 13], some (22, true)⟩,
    ⟨some 29, .load vk4, [(.t 28)], [14], some (22, true)⟩,
    ⟨some 30, .load vk4, [(.t 6)], [8], some (22, true)⟩,
    ⟨some 31, .call [4], [(.t 24), (.t 29), (.t 30)], [10, 15, 16], some (22, true)⟩,
    ⟨some 32, .bin .geq, [(.t 31), (.c (D.int .i64 0))], [17], some (22, true)⟩,
    ⟨some 33, .pick, [(.t 22), (.t 32), (.c (D.bool false))], [18], some (19, false)⟩,
    o 34 (.pick) [(.t 19), (.c (D.bool true)), (.t 33)] [19]])
  (.cond (.t 34) (.seq (.region false [
    o 4 (.mv) [(.c (D.bool false))] []])
  (.ret)) (.skip)))))
  (.region false [
    o 35 (.bin .add) [(.t 9), (.c (D.int .i64 1))] [],
    o 9 (.mv) [(.t 35)] []])))))))
  (.seq (.region false [
    o 4 (.mv) [(.c (D.bool true))] []])
  (.ret)))⟩

def c_local_byCustomer_1 : DFun := ⟨3, 1, [.p], [.p ⟨false, [.bool]⟩], [.t 2],
  .seq (.region false [
    o 2 (.mv) [(.c (D.bool false))] []])
  (.seq (.region false [
    o 2 (.mv) [(.c (D.bool true))] []])
  (.ret))⟩

def c_local_byCustomer : DFun := ⟨2, 1, [], [.p ⟨true, [.fnk 30, .fnk 37]⟩], [.c 0],
  .seq (.region false [
    o 0 (.alloc 0 [D.nilfn, D.nilfn]) [] []])
  (.seq (.region false [
    o 1 (.build [D.nilfn, D.nilfn] [(0, 1), (1, 1)]) [(.c (D.fn 30 [])), (.c (D.fn 37 []))] [],
    ⟨none, .store ⟨true, [.fn, .fn]⟩, [(.t 0), (.t 1)], [], none⟩])
  (.ret))⟩

def c_local_order_uint32_check : DFun := ⟨36, 4, [.p, .p], [.p ⟨false, [.bool]⟩], [.t 4],
  .seq (.region false [
    o 2 (.boxF) [(.t 0)] [],
    o 4 (.mv) [(.c (D.bool false))] []])
  (.seq (.seq (.region false [
    o 7 (.mv) [(.t 1)] [],
    o 8 (.len) [(.t 7)] [],
    o 9 (.mv) [(.c (D.int .i64 0))] []])
  (.block 0 (.loop ⟨[1, 2, 7, 8], [(9, .p ⟨false, [.int .i64]⟩)], []⟩ (.seq (.region false [
    o 10 (.bin .lss) [(.t 9), (.t 8)] []])
  (.seq (.cond (.t 10) (.skip) (.exit 0))
  (.seq (.block 1 (.seq (.region false [
    o 11 (.mv) [(.t 9)] [],
    o 12 (.idxA 51) [(.t 7), (.t 9)] [],
    o 13 (.load ⟨false, [.int .u32]⟩) [(.t 12)] [],
    o 5 (.mv) [(.t 11)] [],
    o 6 (.mv) [(.t 13)] []])
  (.seq (.region true [
    o 14 (.fld 1) [(.t 2)] [],
    o 15 (.load ⟨false, [.fn]⟩) [(.t 14)] [0],
    o 16 (.mv) [(.t 6)] [],
    o 17 (.call [2]) [(.t 15), (.t 16)] [1, 2],
    o 18 (.not) [(.t 17)] [3],
    o 19 (.mv) [(.t 18)] [4],
    ⟨some 20, .mv, [(.t 5)], [5], some (19, false)⟩,
    ⟨some 21, .bin .gtr, [(.t 20), (.c (D.int .i64 0))], [6], some (19, false)⟩,
    ⟨some 22, .mv, [(.t 21)], [7], some (19, false)⟩,
    ⟨some 23, .fld 0, [(.t 2)], [8], some (22, true)⟩,
    ⟨some 24, .load ⟨false, [.fn]⟩, [(.t 23)], [9], some (22, true)⟩,
    ⟨some 25, .mv, [(.t 1)], [8], some (22, true)⟩,
    ⟨some 26, .mv, [(.t 5)], [8], some (22, true)⟩,
    ⟨some 27, .bin .sub, [(.t 26), (.c (D.int .i64 1))], [12], some (22, true)⟩,
    ⟨some 28, .idxA 51, [(.t 25), (.t 27)], [11, 13], some (22, true)⟩,
    ⟨some 29, .load ⟨false, [.int .u32]⟩, [(.t 28)], [14], some (22, true)⟩,
    ⟨some 30, .mv, [(.t 6)], [8], some (22, true)⟩,
    ⟨some 31, .call [3], [(.t 24), (.t 29), (.t 30)], [10, 15, 16], some (22, true)⟩,
    ⟨some 32, .bin .geq, [(.t 31), (.c (D.int .i64 0))], [17], some (22, true)⟩,
    ⟨some 33, .pick, [(.t 22), (.t 32), (.c (D.bool false))], [18], some (19, false)⟩,
    o 34 (.pick) [(.t 19), (.c (D.bool true)), (.t 33)] [19]])
  (.cond (.t 34) (.seq (.region false [
    o 4 (.mv) [(.c (D.bool false))] []])
  (.ret)) (.skip)))))
  (.region false [
    o 35 (.bin .add) [(.t 9), (.c (D.int .i64 1))] [],
    o 9 (.mv) [(.t 35)] []])))))))
  (.seq (.region false [
    o 4 (.mv) [(.c (D.bool true))] []])
  (.ret)))⟩

def c_slices_IndexFunc : DFun := ⟨19, 3, [.p, .p], [.p ⟨false, [.int .i64]⟩], [.t 4],
  .seq (.region false [
    o 4 (.mv) [(.c (D.int .i64 0))] []])
  (.seq (.seq (.region false [
    o 6 (.mv) [(.t 0)] [],
    o 7 (.len) [(.t 6)] [],
    o 8 (.mv) [(.c (D.int .i64 0))] []])
  (.block 0 (.loop ⟨[0, 1, 7], [(8, .p ⟨false, [.int .i64]⟩)], []⟩ (.seq (.region false [
    o 9 (.bin .lss) [(.t 8), (.t 7)] []])
  (.seq (.cond (.t 9) (.skip) (.exit 0))
  (.seq (.block 1 (.seq (.region false [
    o 10 (.mv) [(.t 8)] [],
    o 5 (.mv) [(.t 10)] []])
  (.seq (.region false [
    o 11 (.mv) [(.t 1)] [],
    o 12 (.mv) [(.t 0)] [],
    o 13 (.mv) [(.t 5)] [],
    o 14 (.idxA 81) [(.t 12), (.t 13)] [],
    o 15 (.load ⟨true, [.int .u32, .sl 51]⟩) [(.t 14)] [],
    o 16 (.call [2]) [(.t 11), (.t 15)] []])
  (.cond (.t 16) (.seq (.region false [
    o 17 (.mv) [(.t 5)] [],
    o 4 (.mv) [(.t 17)] []])
  (.ret)) (.skip)))))
  (.region false [
    o 18 (.bin .add) [(.t 8), (.c (D.int .i64 1))] [],
    o 8 (.mv) [(.t 18)] []])))))))
  (.seq (.region false [
    o 4 (.mv) [(.c (D.int .i64 (-1)))] []])
  (.ret)))⟩

def c_slices_ContainsFunc : DFun := ⟨9, 3, [.p, .p], [.p ⟨false, [.bool]⟩], [.t 4],
  .seq (.region false [
    o 4 (.mv) [(.c (D.bool false))] []])
  (.seq (.region false [
    o 5 (.mv) [(.t 0)] [],
    o 6 (.mv) [(.t 1)] [],
    o 7 (.call [2]) [(.c (D.fn 66 [])), (.t 5), (.t 6)] [],
    o 8 (.bin .geq) [(.t 7), (.c (D.int .i64 0))] [],
    o 4 (.mv) [(.t 8)] []])
  (.ret))⟩

def c_diff_Check_1 : DFun := ⟨7, 2, [.p], [.p ⟨false, [.bool]⟩], [.t 2],
  .seq (.region false [
    o 1 (.box 1) [(.t 0)] [],
    o 2 (.mv) [(.c (D.bool false))] []])
  (.seq (.region false [
    o 3 (.fld 1) [(.t 1)] [],
    o 4 (.load ⟨false, [.sl 51]⟩) [(.t 3)] [],
    o 5 (.len) [(.t 4)] [],
    o 6 (.bin .gtr) [(.t 5), (.c (D.int .i64 50))] [],
    o 2 (.mv) [(.t 6)] []])
  (.ret))⟩

def c_diff_rising_40 : DFun := ⟨36, 6, [.p, .p, .p], [.p ⟨false, [.bool]⟩], [.t 6],
  .seq (.region false [
    o 6 (.mv) [(.c (D.bool false))] []])
  (.seq (.seq (.region false [
    o 9 (.mv) [(.t 0)] [],
    o 10 (.len) [(.t 9)] [],
    o 11 (.mv) [(.c (D.int .i64 0))] []])
  (.block 0 (.loop ⟨[0, 1, 2, 9, 10], [(11, .p ⟨false, [.int .i64]⟩)], []⟩ (.seq (.region false [
    o 12 (.bin .lss) [(.t 11), (.t 10)] []])
  (.seq (.cond (.t 12) (.skip) (.exit 0))
  (.seq (.block 1 (.seq (.region false [
    o 13 (.mv) [(.t 11)] [],
    o 14 (.idxA 93) [(.t 9), (.t 11)] [],
    o 15 (.load vk5) [(.t 14)] [],
    o 8 (.alloc 3 [(D.int .u32 0), (D.int .u8 0), (D.int .u64 0), (D.int .u64 0), (D.int .i64 0), (D.int .i64 0)]) [] [],
    o 7 (.mv) [(.t 13)] [],
    ⟨none, .store vk5, [(.t 8), (.t 15)], [], none⟩])
  (.seq (.region true [
    o 16 (.mv) [(.t 2)] [],
    o 17 (.load vk5) [(.t 8)] [],
    o 18 (.call [4]) [(.t 16), (.t 17)] [0, 1],
    o 19 (.not) [(.t 18)] [2],
    o 20 (.mv) [(.t 19)] [3],
    ⟨some 21, .mv, [(.t 7)], [4], some (20, false)⟩,
    ⟨some 22, .bin .gtr, [(.t 21), (.c (D.int .i64 0))], [5], some (20, false)⟩,
    ⟨some 23, .mv, [(.t 22)], [6], some (20, false)⟩,
    ⟨some 24, .mv, [(.t 1)], [7], some (23, true)⟩,
    ⟨some 25, .mv, [(.t 0)], [7], some (23, true)⟩,
    ⟨some 26, .mv, [(.t 7)], [7], some (23, true)⟩,
    ⟨some 27, .bin .sub, [(.t 26), (.c (D.int .i64 1))], [10], some (23, true)⟩,
    ⟨some 28, .idxA 93, [(.t 25), (.t 27)], [9, 11], some (23, true)⟩,
    ⟨some 29, .load vk5, [(.t 28)], [12], some (23, true)⟩,
    ⟨some 30, .load vk5, [(.t 8)], [7], some (23, true)⟩,
    ⟨some 31, .call [5], [(.t 24), (.t 29), (.t 30)], [8, 13, 14], some (23, true)⟩,
    ⟨some 32, .bin .geq, [(.t 31), (.c (D.int .i64 0))], [15], some (23, true)⟩,
    ⟨some 33, .pick, [(.t 23), (.t 32), (.c (D.bool false))], [16], some (20, false)⟩,
    o 34 (.pick) [(.t 20), (.c (D.bool true)), (.t 33)] [17]])
  (.cond (.t 34) (.seq (.region false [
    o 6 (.mv) [(.c (D.bool false))] []])
  (.ret)) (.skip)))))
  (.region false [
    o 35 (.bin .add) [(.t 11), (.c (D.int .i64 1))] [],
    o 11 (.mv) [(.t 35)] []])))))))
  (.seq (.region false [
    o 6 (.mv) [(.c (D.bool true))] []])
  (.ret)))⟩

def c_diff_byOrigin : DFun := ⟨38, 11, [.p, .p], [.p ⟨false, [.int .i64]⟩], [.t 4],
  .seq (.region false [
    o 2 (.box 2) [(.t 0)] [],
    o 3 (.box 3) [(.t 1)] [],
    o 4 (.mv) [(.c (D.int .i64 0))] []])
  (.seq (.region true [
    o 5 (.fld 0) [(.t 2)] [],
    o 6 (.load ⟨false, [.int .u32]⟩) [(.t 5)] [0],
    o 7 (.fld 0) [(.t 3)] [],
    o 8 (.load ⟨false, [.int .u32]⟩) [(.t 7)] [2],
    o 9 (.call [5]) [(.c (D.fn 30 [])), (.t 6), (.t 8)] [1, 3],
    o 10 (.fld 1) [(.t 2)] [],
    o 11 (.fld 0) [(.t 10)] [5],
    o 12 (.load ⟨false, [.int .u8]⟩) [(.t 11)] [6],
    o 13 (.fld 1) [(.t 3)] [],
    o 14 (.fld 0) [(.t 13)] [8],
    o 15 (.load ⟨false, [.int .u8]⟩) [(.t 14)] [9],
    o 16 (.call [6]) [(.c (D.fn 57 [])), (.t 12), (.t 15)] [4, 7, 10],
    o 17 (.fld 1) [(.t 2)] [],
    o 18 (.fld 1) [(.t 17)] [12],
    o 19 (.load ⟨true, [.int .u64, .int .u64]⟩) [(.t 18)] [13],
    o 20 (.fld 1) [(.t 3)] [],
    o 21 (.fld 1) [(.t 20)] [15],
    o 22 (.load ⟨true, [.int .u64, .int .u64]⟩) [(.t 21)] [16],
    o 23 (.call [7]) [(.c (D.fn 58 [])), (.t 19), (.t 22)] [11, 14, 17],
    o 24 (.fld 1) [(.t 2)] [],
    o 25 (.fld 3) [(.t 24)] [19],
    o 26 (.load ⟨false, [.int .i64]⟩) [(.t 25)] [20],
    o 27 (.fld 1) [(.t 3)] [],
    o 28 (.fld 3) [(.t 27)] [22],
    o 29 (.load ⟨false, [.int .i64]⟩) [(.t 28)] [23],
    o 30 (.call [8]) [(.c (D.fn 35 [])), (.t 26), (.t 29)] [18, 21, 24],
    o 31 (.fld 5) [(.t 2)] [],
    o 32 (.load ⟨false, [.int .i64]⟩) [(.t 31)] [26],
    o 33 (.fld 5) [(.t 3)] [],
    o 34 (.load ⟨false, [.int .i64]⟩) [(.t 33)] [28],
    o 35 (.call [9]) [(.c (D.fn 35 [])), (.t 32), (.t 34)] [25, 27, 29],
    o 36 (.buildSl 4 3) [(.t 9), (.t 16), (.t 23), (.t 30), (.t 35)] [30],
    o 37 (.call [10]) [(.c (D.fn 27 [])), (.t 36)] [31],
    o 4 (.mv) [(.t 37)] [32]])
  (.ret))⟩

def c_diff_goodOrigin : DFun := ⟨26, 3, [.p], [.p ⟨false, [.bool]⟩], [.t 2],
  .seq (.region false [
    o 1 (.box 1) [(.t 0)] [],
    o 2 (.mv) [(.c (D.bool false))] []])
  (.seq (.region false [
    o 3 (.mv) [(.c (D.int .i64 32))] []])
  (.seq (.seq (.region false [
    o 4 (.fld 1) [(.t 1)] [],
    o 5 (.fld 0) [(.t 4)] [],
    o 6 (.load ⟨false, [.int .u8]⟩) [(.t 5)] [],
    o 7 (.bin .eql) [(.t 6), (.c (D.int .u8 6))] []])
  (.cond (.t 7) (.region false [
    o 3 (.mv) [(.c (D.int .i64 128))] []]) (.skip)))
  (.seq (.region false [
    o 8 (.fld 1) [(.t 1)] [],
    o 9 (.load vk1) [(.t 8)] [],
    o 10 (.call [2]) [(.c (D.fn 32 [])), (.t 9)] [],
    o 11 (.bin .eql) [(.t 10), (.c (D.int .i64 0))] [],
    o 12 (.mv) [(.t 11)] [],
    ⟨some 13, .fld 5, [(.t 1)], [], some (12, true)⟩,
    ⟨some 14, .load ⟨false, [.int .i64]⟩, [(.t 13)], [], some (12, true)⟩,
    ⟨some 15, .fld 1, [(.t 1)], [], some (12, true)⟩,
    ⟨some 16, .fld 3, [(.t 15)], [], some (12, true)⟩,
    ⟨some 17, .load ⟨false, [.int .i64]⟩, [(.t 16)], [], some (12, true)⟩,
    ⟨some 18, .bin .geq, [(.t 14), (.t 17)], [], some (12, true)⟩,
    o 19 (.pick) [(.t 12), (.t 18), (.c (D.bool false))] [],
    o 20 (.mv) [(.t 19)] [],
    ⟨some 21, .fld 5, [(.t 1)], [], some (20, true)⟩,
    ⟨some 22, .load ⟨false, [.int .i64]⟩, [(.t 21)], [], some (20, true)⟩,
    ⟨some 23, .mv, [(.t 3)], [], some (20, true)⟩,
    ⟨some 24, .bin .leq, [(.t 22), (.t 23)], [], some (20, true)⟩,
    o 25 (.pick) [(.t 20), (.t 24), (.c (D.bool false))] [],
    o 2 (.mv) [(.t 25)] []])
  (.ret))))⟩

def c_diff_rising_43 : DFun := ⟨36, 6, [.p, .p, .p], [.p ⟨false, [.bool]⟩], [.t 6],
  .seq (.region false [
    o 6 (.mv) [(.c (D.bool false))] []])
  (.seq (.seq (.region false [
    o 9 (.mv) [(.t 0)] [],
    o 10 (.len) [(.t 9)] [],
    o 11 (.mv) [(.c (D.int .i64 0))] []])
  (.block 0 (.loop ⟨[0, 1, 2, 9, 10], [(11, .p ⟨false, [.int .i64]⟩)], []⟩ (.seq (.region false [
    o 12 (.bin .lss) [(.t 11), (.t 10)] []])
  (.seq (.cond (.t 12) (.skip) (.exit 0))
  (.seq (.block 1 (.seq (.region false [
    o 13 (.mv) [(.t 11)] [],
    o 14 (.idxA 81) [(.t 9), (.t 11)] [],
    o 15 (.load ⟨true, [.int .u32, .sl 51]⟩) [(.t 14)] [],
    o 8 (.alloc 3 [(D.int .u32 0), (D.zs 51 true)]) [] [],
    o 7 (.mv) [(.t 13)] [],
    ⟨none, .store ⟨true, [.int .u32, .sl 51]⟩, [(.t 8), (.t 15)], [], none⟩])
  (.seq (.region true [
    o 16 (.mv) [(.t 2)] [],
    o 17 (.load ⟨true, [.int .u32, .sl 51]⟩) [(.t 8)] [],
    o 18 (.call [4]) [(.t 16), (.t 17)] [0, 1],
    o 19 (.not) [(.t 18)] [2],
    o 20 (.mv) [(.t 19)] [3],
    ⟨some 21, .mv, [(.t 7)], [4], some (20, false)⟩,
    ⟨some 22, .bin .gtr, [(.t 21), (.c (D.int .i64 0))], [5], some (20, false)⟩,
    ⟨some 23, .mv, [(.t 22)], [6], some (20, false)⟩,
    ⟨some 24, .mv, [(.t 1)], [7], some (23, true)⟩,
    ⟨some 25, .mv, [(.t 0)], [7], some (23, true)⟩,
    ⟨some 26, .mv, [(.t 7)], [7], some (23, true)⟩,
    ⟨some 27, .bin .sub, [(.t 26), (.c (D.int .i64 1))], [10], some (23, true)⟩,
    ⟨some 28, .idxA 81, [(.t 25), (.t 27)], [9, 11], some (23, true)⟩,
    ⟨some 29, .load ⟨true, [.int .u32, .sl 51]⟩, [(.t 28)], [12], some (23, true)⟩,
    ⟨some 30, .load ⟨true, [.int .u32, .sl 51]⟩, [(.t 8)], [7], some (23, true)⟩,
    ⟨some 31, .call [5], [(.t 24), (.t 29), (.t 30)], [8, 13, 14], some (23, true)⟩,
    ⟨some 32, .bin .geq, [(.t 31), (.c (D.int .i64 0))], [15], some (23, true)⟩,
    ⟨some 33, .pick, [(.t 23), (.t 32), (.c (D.bool false))], [16], some (20, false)⟩,
    o 34 (.pick) [(.t 20), (.c (D.bool true)), (.t 33)] [17]])
  (.cond (.t 34) (.seq (.region false [
    o 6 (.mv) [(.c (D.bool false))] []])
  (.ret)) (.skip)))))
  (.region false [
    o 35 (.bin .add) [(.t 11), (.c (D.int .i64 1))] [],
    o 11 (.mv) [(.t 35)] []])))))))
  (.seq (.region false [
    o 6 (.mv) [(.c (D.bool true))] []])
  (.ret)))⟩

def c_diff_byPath : DFun := ⟨10, 5, [.p, .p], [.p ⟨false, [.int .i64]⟩], [.t 4],
  .seq (.region false [
    o 2 (.box 2) [(.t 0)] [],
    o 3 (.box 3) [(.t 1)] [],
    o 4 (.mv) [(.c (D.int .i64 0))] []])
  (.seq (.region false [
    o 5 (.fld 0) [(.t 2)] [],
    o 6 (.load ⟨false, [.int .u32]⟩) [(.t 5)] [],
    o 7 (.fld 0) [(.t 3)] [],
    o 8 (.load ⟨false, [.int .u32]⟩) [(.t 7)] [],
    o 9 (.call [4]) [(.c (D.fn 30 [])), (.t 6), (.t 8)] [],
    o 4 (.mv) [(.t 9)] []])
  (.ret))⟩

def c_slices_Index : DFun := ⟨19, 2, [.p, .p], [.p ⟨false, [.int .i64]⟩], [.t 4],
  .seq (.region false [
    o 4 (.mv) [(.c (D.int .i64 0))] []])
  (.seq (.seq (.region false [
    o 6 (.mv) [(.t 0)] [],
    o 7 (.len) [(.t 6)] [],
    o 8 (.mv) [(.c (D.int .i64 0))] []])
  (.block 0 (.loop ⟨[0, 1, 7], [(8, .p ⟨false, [.int .i64]⟩)], []⟩ (.seq (.region false [
    o 9 (.bin .lss) [(.t 8), (.t 7)] []])
  (.seq (.cond (.t 9) (.skip) (.exit 0))
  (.seq (.block 1 (.seq (.region false [
    o 10 (.mv) [(.t 8)] [],
    o 5 (.mv) [(.t 10)] []])
  (.seq (.region false [
    o 11 (.mv) [(.t 1)] [],
    o 12 (.mv) [(.t 0)] [],
    o 13 (.mv) [(.t 5)] [],
    o 14 (.idxA 51) [(.t 12), (.t 13)] [],
    o 15 (.load ⟨false, [.int .u32]⟩) [(.t 14)] [],
    o 16 (.bin .eql) [(.t 11), (.t 15)] []])
  (.cond (.t 16) (.seq (.region false [
    o 17 (.mv) [(.t 5)] [],
    o 4 (.mv) [(.t 17)] []])
  (.ret)) (.skip)))))
  (.region false [
    o 18 (.bin .add) [(.t 8), (.c (D.int .i64 1))] [],
    o 8 (.mv) [(.t 18)] []])))))))
  (.seq (.region false [
    o 4 (.mv) [(.c (D.int .i64 (-1)))] []])
  (.ret)))⟩

def c_slices_Contains : DFun := ⟨9, 3, [.p, .p], [.p ⟨false, [.bool]⟩], [.t 4],
  .seq (.region false [
    o 4 (.mv) [(.c (D.bool false))] []])
  (.seq (.region false [
    o 5 (.mv) [(.t 0)] [],
    o 6 (.mv) [(.t 1)] [],
    o 7 (.call [2]) [(.c (D.fn 78 [])), (.t 5), (.t 6)] [],
    o 8 (.bin .geq) [(.t 7), (.c (D.int .i64 0))] [],
    o 4 (.mv) [(.t 8)] []])
  (.ret))⟩

def c_aspa_Check : DFun := ⟨64, 3, [.p], [.p ⟨false, [.int .i64]⟩], [.t 2],
  .seq (.region false [
    o 1 (.box 1) [(.t 0)] [],
    o 2 (.mv) [(.c (D.int .i64 0))] []])
  (.seq (.seq (.region false [
    o 5 (.fld 1) [(.t 1)] [],
    o 6 (.load ⟨false, [.sl 51]⟩) [(.t 5)] [],
    o 7 (.len) [(.t 6)] [],
    o 8 (.bin .gtr) [(.t 7), (.c (D.int .i64 50))] []])
  (.cond (.t 8) (.seq (.region false [
    o 2 (.mv) [(.c (D.int .i64 4))] []])
  (.ret)) (.skip)))
  (.seq (.region false [
    o 9 (.fld 0) [(.t 1)] [],
    o 10 (.load ⟨false, [.int .u32]⟩) [(.t 9)] [],
    o 11 (.bin .gtr) [(.t 10), (.c (D.int .u32 0))] [],
    o 12 (.mv) [(.t 11)] [],
    ⟨some 13, .fld 1, [(.t 1)], [], some (12, true)⟩,
    ⟨some 14, .load ⟨false, [.sl 51]⟩, [(.t 13)], [], some (12, true)⟩,
    ⟨some 15, .len, [(.t 14)], [], some (12, true)⟩,
    ⟨some 16, .bin .gtr, [(.t 15), (.c (D.int .i64 0))], [], some (12, true)⟩,
    o 17 (.pick) [(.t 12), (.t 16), (.c (D.bool false))] [],
    o 18 (.mv) [(.t 17)] [],
    ⟨some 19, .fld 1, [(.t 1)], [], some (18, true)⟩,
    ⟨some 20, .load ⟨false, [.sl 51]⟩, [(.t 19)], [], some (18, true)⟩,
    ⟨some 21, .fld 0, [(.t 1)], [], some (18, true)⟩,
    ⟨some 22, .load ⟨false, [.int .u32]⟩, [(.t 21)], [], some (18, true)⟩,
    ⟨some 23, .call [2], [(.c (D.fn 75 [])), (.t 20), (.t 22)], [], some (18, true)⟩,
    ⟨some 24, .not, [(.t 23)], [], some (18, true)⟩,
    o 25 (.pick) [(.t 18), (.t 24), (.c (D.bool false))] [],
    o 3 (.mv) [(.t 25)] []])
  (.seq (.region false [
    o 26 (.mv) [(.t 3)] [],
    o 27 (.mv) [(.t 26)] [],
    ⟨some 28, .fld 1, [(.t 1)], [], some (27, true)⟩,
    ⟨some 29, .load ⟨false, [.sl 51]⟩, [(.t 28)], [], some (27, true)⟩,
    ⟨some 30, .len, [(.t 29)], [], some (27, true)⟩,
    ⟨some 31, .bin .eql, [(.t 30), (.c (D.int .i64 1))], [], some (27, true)⟩,
    ⟨some 32, .mv, [(.t 31)], [], some (27, true)⟩,
    ⟨some 33, .fld 1, [(.t 1)], [], some (32, false)⟩,
    ⟨some 34, .load ⟨false, [.sl 51]⟩, [(.t 33)], [], some (32, false)⟩,
    ⟨some 35, .idxA 51, [(.t 34), (.c (D.int .i64 0))], [], some (32, false)⟩,
    ⟨some 36, .load ⟨false, [.int .u32]⟩, [(.t 35)], [], some (32, false)⟩,
    ⟨some 37, .bin .gtr, [(.t 36), (.c (D.int .u32 0))], [], some (32, false)⟩,
    ⟨some 38, .pick, [(.t 32), (.c (D.bool true)), (.t 37)], [], some (27, true)⟩,
    o 39 (.pick) [(.t 27), (.t 38), (.c (D.bool false))] [],
    o 3 (.mv) [(.t 39)] []])
  (.seq (.seq (.region false [
    o 4 (.mv) [(.c (D.int .i64 1))] []])
  (.block 0 (.loop ⟨[1], [(3, .p ⟨false, [.bool]⟩), (4, .p ⟨false, [.int .i64]⟩)], [(1, .v [.p (.int .u32), .p (.sl 51)])]⟩ (.seq (.seq (.region false [
    o 40 (.mv) [(.t 4)] [],
    o 41 (.fld 1) [(.t 1)] [],
    o 42 (.load ⟨false, [.sl 51]⟩) [(.t 41)] [],
    o 43 (.len) [(.t 42)] [],
    o 44 (.bin .lss) [(.t 40), (.t 43)] []])
  (.cond (.t 44) (.skip) (.exit 0)))
  (.seq (.block 1 (.region true [
    o 47 (.mv) [(.t 3)] [],
    o 48 (.mv) [(.t 47)] [0],
    ⟨some 49, .fld 1, [(.t 1)], [1], some (48, true)⟩,
    ⟨some 50, .load ⟨false, [.sl 51]⟩, [(.t 49)], [2], some (48, true)⟩,
    ⟨some 51, .mv, [(.t 4)], [1], some (48, true)⟩,
    ⟨some 52, .bin .sub, [(.t 51), (.c (D.int .i64 1))], [4], some (48, true)⟩,
    ⟨some 53, .idxA 51, [(.t 50), (.t 52)], [3, 5], some (48, true)⟩,
    ⟨some 54, .load ⟨false, [.int .u32]⟩, [(.t 53)], [6], some (48, true)⟩,
    ⟨some 55, .fld 1, [(.t 1)], [1], some (48, true)⟩,
    ⟨some 56, .load ⟨false, [.sl 51]⟩, [(.t 55)], [8], some (48, true)⟩,
    ⟨some 57, .mv, [(.t 4)], [1], some (48, true)⟩,
    ⟨some 58, .idxA 51, [(.t 56), (.t 57)], [9, 10], some (48, true)⟩,
    ⟨some 59, .load ⟨false, [.int .u32]⟩, [(.t 58)], [11], some (48, true)⟩,
    ⟨some 60, .bin .lss, [(.t 54), (.t 59)], [7, 12], some (48, true)⟩,
    o 61 (.pick) [(.t 48), (.t 60), (.c (D.bool false))] [13],
    o 3 (.mv) [(.t 61)] [14]]))
  (.region false [
    o 45 (.mv) [(.t 4)] [],
    o 46 (.bin .add) [(.t 45), (.c (D.int .i64 1))] [],
    o 4 (.mv) [(.t 46)] []]))))))
  (.seq (.seq (.region false [
    o 62 (.mv) [(.t 3)] [],
    o 63 (.not) [(.t 62)] []])
  (.cond (.t 63) (.seq (.region false [
    o 2 (.mv) [(.c (D.int .i64 8))] []])
  (.ret)) (.skip)))
  (.seq (.region false [
    o 2 (.mv) [(.c (D.int .i64 0))] []])
  (.ret)))))))⟩

def c_diff_goodPath : DFun := ⟨10, 3, [.p], [.p ⟨false, [.bool]⟩], [.t 2],
  .seq (.region false [
    o 1 (.box 1) [(.t 0)] [],
    o 2 (.mv) [(.c (D.bool false))] []])
  (.seq (.region false [
    o 3 (.fld 0) [(.t 1)] [],
    o 4 (.load ⟨false, [.int .u32]⟩) [(.t 3)] [],
    o 5 (.fld 1) [(.t 1)] [],
    o 6 (.load ⟨false, [.sl 51]⟩) [(.t 5)] [],
    o 7 (.build [(D.int .u32 0), (D.zs 51 true)] [(0, 1), (1, 1)]) [(.t 4), (.t 6)] [],
    o 8 (.call [2]) [(.c (D.fn 67 [])), (.t 7)] [],
    o 9 (.bin .eql) [(.t 8), (.c (D.int .i64 0))] [],
    o 2 (.mv) [(.t 9)] []])
  (.ret))⟩

def c_diff_rising_46 : DFun := ⟨36, 6, [.p, .p, .p], [.p ⟨false, [.bool]⟩], [.t 6],
  .seq (.region false [
    o 6 (.mv) [(.c (D.bool false))] []])
  (.seq (.seq (.region false [
    o 9 (.mv) [(.t 0)] [],
    o 10 (.len) [(.t 9)] [],
    o 11 (.mv) [(.c (D.int .i64 0))] []])
  (.block 0 (.loop ⟨[0, 1, 2, 9, 10], [(11, .p ⟨false, [.int .i64]⟩)], []⟩ (.seq (.region false [
    o 12 (.bin .lss) [(.t 11), (.t 10)] []])
  (.seq (.cond (.t 12) (.skip) (.exit 0))
  (.seq (.block 1 (.seq (.region false [
    o 13 (.mv) [(.t 11)] [],
    o 14 (.idxA 100) [(.t 9), (.t 11)] [],
    o 15 (.load vk6) [(.t 14)] [],
    o 8 (.alloc 3 [(D.int .u32 0), (D.int .u8 0), (D.int .u8 0), (D.int .u8 0), (D.int .u8 0), (D.int .u8 0), (D.int .u8 0), (D.int .u8 0), (D.int .u8 0), (D.int .u8 0), (D.int .u8 0), (D.int .u8 0), (D.int .u8 0), (D.int .u8 0), (D.int .u8 0), (D.int .u8 0), (D.int .u8 0), (D.int .i64 0)]) [] [],
    o 7 (.mv) [(.t 13)] [],
    ⟨none, .store vk6, [(.t 8), (.t 15)], [], none⟩])
  (.seq (.region true [
    o 16 (.mv) [(.t 2)] [],
    o 17 (.load vk6) [(.t 8)] [],
    o 18 (.call [4]) [(.t 16), (.t 17)] [0, 1],
    o 19 (.not) [(.t 18)] [2],
    o 20 (.mv) [(.t 19)] [3],
    ⟨some 21, .mv, [(.t 7)], [4], some (20, false)⟩,
    ⟨some 22, .bin .gtr, [(.t 21), (.c (D.int .i64 0))], [5], some (20, false)⟩,
    ⟨some 23, .mv, [(.t 22)], [6], some (20, false)⟩,
    ⟨some 24, .mv, [(.t 1)], [7], some (23, true)⟩,
    ⟨some 25, .mv, [(.t 0)], [7], some (23, true)⟩,
    ⟨some 26, .mv, [(.t 7)], [7], some (23, true)⟩,
    ⟨some 27, .bin .sub, [(.t 26), (.c (D.int .i64 1))], [10], some (23, true)⟩,
    ⟨some 28, .idxA 100, [(.t 25), (.t 27)], [9, 11], some (23, true)⟩,
    ⟨some 29, .load vk6, [(.t 28)], [12], some (23, true)⟩,
    ⟨some 30, .load vk6, [(.t 8)], [7], some (23, true)⟩,
    ⟨some 31, .call [5], [(.t 24), (.t 29), (.t 30)], [8, 13, 14], some (23, true)⟩,
    ⟨some 32, .bin .geq, [(.t 31), (.c (D.int .i64 0))], [15], some (23, true)⟩,
    ⟨some 33, .pick, [(.t 23), (.t 32), (.c (D.bool false))], [16], some (20, false)⟩,
    o 34 (.pick) [(.t 20), (.c (D.bool true)), (.t 33)] [17]])
  (.cond (.t 34) (.seq (.region false [
    o 6 (.mv) [(.c (D.bool false))] []])
  (.ret)) (.skip)))))
  (.region false [
    o 35 (.bin .add) [(.t 11), (.c (D.int .i64 1))] [],
    o 11 (.mv) [(.t 35)] []])))))))
  (.seq (.region false [
    o 6 (.mv) [(.c (D.bool true))] []])
  (.ret)))⟩

def c_diff_byKey : DFun := ⟨26, 7, [.p, .p], [.p ⟨false, [.int .i64]⟩], [.t 4],
  .seq (.region false [
    o 2 (.boxF) [(.t 0)] [],
    o 3 (.boxF) [(.t 1)] [],
    o 4 (.mv) [(.c (D.int .i64 0))] []])
  (.seq (.region true [
    o 5 (.fld 0) [(.t 2)] [],
    o 6 (.load ⟨false, [.int .u32]⟩) [(.t 5)] [0],
    o 7 (.fld 0) [(.t 3)] [],
    o 8 (.load ⟨false, [.int .u32]⟩) [(.t 7)] [2],
    o 9 (.call [3]) [(.c (D.fn 30 [])), (.t 6), (.t 8)] [1, 3],
    o 10 (.fld 1) [(.t 2)] [],
    o 11 (.fld 0) [(.t 10)] [5],
    o 12 (.sliceA 5 16) [(.t 11)] [6],
    o 13 (.fld 1) [(.t 3)] [],
    o 14 (.fld 0) [(.t 13)] [8],
    o 15 (.sliceA 5 16) [(.t 14)] [9],
    o 16 (.call [4]) [(.c (D.fn 34 [])), (.t 12), (.t 15)] [4, 7, 10],
    o 17 (.fld 1) [(.t 2)] [],
    o 18 (.fld 16) [(.t 17)] [12],
    o 19 (.load ⟨false, [.int .i64]⟩) [(.t 18)] [13],
    o 20 (.fld 1) [(.t 3)] [],
    o 21 (.fld 16) [(.t 20)] [15],
    o 22 (.load ⟨false, [.int .i64]⟩) [(.t 21)] [16],
    o 23 (.call [5]) [(.c (D.fn 35 [])), (.t 19), (.t 22)] [11, 14, 17],
    o 24 (.buildSl 2 3) [(.t 9), (.t 16), (.t 23)] [18],
    o 25 (.call [6]) [(.c (D.fn 27 [])), (.t 24)] [19],
    o 4 (.mv) [(.t 25)] [20]])
  (.ret))⟩

def c_diff_goodKey : DFun := ⟨13, 2, [.p], [.p ⟨false, [.bool]⟩], [.t 2],
  .seq (.region false [
    o 1 (.box 1) [(.t 0)] [],
    o 2 (.mv) [(.c (D.bool false))] []])
  (.seq (.region false [
    o 3 (.fld 1) [(.t 1)] [],
    o 4 (.fld 16) [(.t 3)] [],
    o 5 (.load ⟨false, [.int .i64]⟩) [(.t 4)] [],
    o 6 (.bin .geq) [(.t 5), (.c (D.int .i64 0))] [],
    o 7 (.mv) [(.t 6)] [],
    ⟨some 8, .fld 1, [(.t 1)], [], some (7, true)⟩,
    ⟨some 9, .fld 16, [(.t 8)], [], some (7, true)⟩,
    ⟨some 10, .load ⟨false, [.int .i64]⟩, [(.t 9)], [], some (7, true)⟩,
    ⟨some 11, .bin .leq, [(.t 10), (.c (D.int .i64 4))], [], some (7, true)⟩,
    o 12 (.pick) [(.t 7), (.t 11), (.c (D.bool false))] [],
    o 2 (.mv) [(.t 12)] []])
  (.ret))⟩

def c_diff_Check : DFun := ⟨38, 6, [.p], [.p ⟨false, [.int .i64]⟩], [.t 2],
  .seq (.region false [
    o 1 (.box 1) [(.t 0)] [],
    o 2 (.mv) [(.c (D.int .i64 0))] []])
  (.seq (.seq (.region false [
    o 3 (.fld 0) [(.t 1)] [],
    o 4 (.load ⟨false, [.sl 93]⟩) [(.t 3)] [],
    o 5 (.len) [(.t 4)] [],
    o 6 (.bin .gtr) [(.t 5), (.c (D.int .i64 1000))] [],
    o 7 (.mv) [(.t 6)] [],
    ⟨some 8, .fld 1, [(.t 1)], [], some (7, false)⟩,
    ⟨some 9, .load ⟨false, [.sl 81]⟩, [(.t 8)], [], some (7, false)⟩,
    ⟨some 10, .len, [(.t 9)], [], some (7, false)⟩,
    ⟨some 11, .bin .gtr, [(.t 10), (.c (D.int .i64 300))], [], some (7, false)⟩,
    o 12 (.pick) [(.t 7), (.c (D.bool true)), (.t 11)] [],
    o 13 (.mv) [(.t 12)] [],
    ⟨some 14, .fld 2, [(.t 1)], [], some (13, false)⟩,
    ⟨some 15, .load ⟨false, [.sl 100]⟩, [(.t 14)], [], some (13, false)⟩,
    ⟨some 16, .len, [(.t 15)], [], some (13, false)⟩,
    ⟨some 17, .bin .gtr, [(.t 16), (.c (D.int .i64 100))], [], some (13, false)⟩,
    o 18 (.pick) [(.t 13), (.c (D.bool true)), (.t 17)] []])
  (.cond (.t 18) (.seq (.region false [
    o 2 (.mv) [(.c (D.int .i64 4))] []])
  (.ret)) (.skip)))
  (.seq (.seq (.region false [
    o 19 (.fld 1) [(.t 1)] [],
    o 20 (.load ⟨false, [.sl 81]⟩) [(.t 19)] [],
    o 21 (.call [2]) [(.c (D.fn 38 [])), (.t 20), (.c (D.fn 39 []))] []])
  (.cond (.t 21) (.seq (.region false [
    o 2 (.mv) [(.c (D.int .i64 4))] []])
  (.ret)) (.skip)))
  (.seq (.seq (.region false [
    o 22 (.fld 0) [(.t 1)] [],
    o 23 (.load ⟨false, [.sl 93]⟩) [(.t 22)] [],
    o 24 (.call [3]) [(.c (D.fn 40 [])), (.t 23), (.c (D.fn 41 [])), (.c (D.fn 42 []))] [],
    o 25 (.not) [(.t 24)] [],
    o 26 (.mv) [(.t 25)] [],
    ⟨some 27, .fld 1, [(.t 1)], [], some (26, false)⟩,
    ⟨some 28, .load ⟨false, [.sl 81]⟩, [(.t 27)], [], some (26, false)⟩,
    ⟨some 29, .call [4], [(.c (D.fn 43 [])), (.t 28), (.c (D.fn 44 [])), (.c (D.fn 45 []))], [], some (26, false)⟩,
    ⟨some 30, .not, [(.t 29)], [], some (26, false)⟩,
    o 31 (.pick) [(.t 26), (.c (D.bool true)), (.t 30)] [],
    o 32 (.mv) [(.t 31)] [],
    ⟨some 33, .fld 2, [(.t 1)], [], some (32, false)⟩,
    ⟨some 34, .load ⟨false, [.sl 100]⟩, [(.t 33)], [], some (32, false)⟩,
    ⟨some 35, .call [5], [(.c (D.fn 46 [])), (.t 34), (.c (D.fn 47 [])), (.c (D.fn 48 []))], [], some (32, false)⟩,
    ⟨some 36, .not, [(.t 35)], [], some (32, false)⟩,
    o 37 (.pick) [(.t 32), (.c (D.bool true)), (.t 36)] []])
  (.cond (.t 37) (.seq (.region false [
    o 2 (.mv) [(.c (D.int .i64 8))] []])
  (.ret)) (.skip)))
  (.seq (.region false [
    o 2 (.mv) [(.c (D.int .i64 0))] []])
  (.ret)))))⟩

def c_local_Check : DFun := ⟨36, 9, [.p], [.p ⟨false, [.int .i64]⟩], [.t 2],
  .seq (.region false [
    o 1 (.box 1) [(.t 0)] [],
    o 2 (.mv) [(.c (D.int .i64 0))] []])
  (.seq (.seq (.region false [
    o 3 (.fld 0) [(.t 1)] [],
    o 4 (.load ⟨false, [.sl 53]⟩) [(.t 3)] [],
    o 5 (.len) [(.t 4)] [],
    o 6 (.fld 1) [(.t 1)] [],
    o 7 (.load ⟨false, [.sl 65]⟩) [(.t 6)] [],
    o 8 (.len) [(.t 7)] [],
    o 9 (.fld 2) [(.t 1)] [],
    o 10 (.load ⟨false, [.sl 51]⟩) [(.t 9)] [],
    o 11 (.len) [(.t 10)] [],
    o 12 (.mx) [(.t 5), (.t 8), (.t 11)] [],
    o 13 (.bin .gtr) [(.t 12), (.c (D.int .i64 100))] []])
  (.cond (.t 13) (.seq (.region false [
    o 2 (.mv) [(.c (D.int .i64 4))] []])
  (.ret)) (.skip)))
  (.seq (.seq (.region true [
    o 14 (.call [2]) [(.c (D.fn 11 []))] [],
    o 15 (.fld 0) [(.t 1)] [],
    o 16 (.load ⟨false, [.sl 53]⟩) [(.t 15)] [1],
    o 17 (.call [3]) [(.c (D.fn 12 [])), (.t 14), (.t 16)] [0, 2],
    o 18 (.not) [(.t 17)] [3],
    o 19 (.mv) [(.t 18)] [4],
    ⟨some 20, .call [4], [(.c (D.fn 13 []))], [5], some (19, false)⟩,
    ⟨some 21, .fld 1, [(.t 1)], [5], some (19, false)⟩,
    ⟨some 22, .load ⟨false, [.sl 65]⟩, [(.t 21)], [7], some (19, false)⟩,
    ⟨some 23, .call [5], [(.c (D.fn 14 [])), (.t 20), (.t 22)], [6, 8], some (19, false)⟩,
    ⟨some 24, .not, [(.t 23)], [9], some (19, false)⟩,
    o 25 (.pick) [(.t 19), (.c (D.bool true)), (.t 24)] [10],
    o 26 (.mv) [(.t 25)] [11],
    ⟨some 27, .call [6], [(.c (D.fn 15 []))], [12], some (26, false)⟩,
    ⟨some 28, .fld 2, [(.t 1)], [12], some (26, false)⟩,
    ⟨some 29, .load ⟨false, [.sl 51]⟩, [(.t 28)], [14], some (26, false)⟩,
    ⟨some 30, .call [7], [(.c (D.fn 16 [])), (.t 27), (.t 29)], [13, 15], some (26, false)⟩,
    ⟨some 31, .not, [(.t 30)], [16], some (26, false)⟩,
    o 32 (.pick) [(.t 26), (.c (D.bool true)), (.t 31)] [17]])
  (.cond (.t 32) (.seq (.region false [
    o 2 (.mv) [(.c (D.int .i64 8))] []])
  (.ret)) (.skip)))
  (.seq (.region false [
    o 33 (.fld 3) [(.t 1)] [],
    o 34 (.load ⟨true, [.sl 93, .sl 81, .sl 100]⟩) [(.t 33)] [],
    o 35 (.call [8]) [(.c (D.fn 17 [])), (.t 34)] [],
    o 2 (.mv) [(.t 35)] []])
  (.ret))))⟩

def c_gatepathref01_Width : DFun := ⟨7, 1, [.p], [.p ⟨false, [.int .i64]⟩], [.t 2],
  .seq (.region false [
    o 2 (.mv) [(.c (D.int .i64 0))] []])
  (.seq (.seq (.region false [
    o 3 (.mv) [(.t 0)] [],
    o 4 (.bin .eql) [(.t 3), (.c (D.int .u8 4))] []])
  (.cond (.t 4) (.seq (.region false [
    o 2 (.mv) [(.c (D.int .i64 32))] []])
  (.ret)) (.skip)))
  (.seq (.seq (.region false [
    o 5 (.mv) [(.t 0)] [],
    o 6 (.bin .eql) [(.t 5), (.c (D.int .u8 6))] []])
  (.cond (.t 6) (.seq (.region false [
    o 2 (.mv) [(.c (D.int .i64 128))] []])
  (.ret)) (.skip)))
  (.seq (.region false [
    o 2 (.mv) [(.c (D.int .i64 0))] []])
  (.ret))))⟩

def c_gatepathref01_CheckAddr : DFun := ⟨17, 3, [.p, .p], [.p ⟨false, [.bool]⟩], [.t 4],
  .seq (.region false [
    o 3 (.box 2) [(.t 1)] [],
    o 4 (.mv) [(.c (D.bool false))] []])
  (.seq (.seq (.region false [
    o 5 (.mv) [(.t 0)] [],
    o 6 (.bin .eql) [(.t 5), (.c (D.int .u8 4))] []])
  (.cond (.t 6) (.seq (.region false [
    o 7 (.fld 0) [(.t 3)] [],
    o 8 (.load ⟨false, [.int .u64]⟩) [(.t 7)] [],
    o 9 (.bin .eql) [(.t 8), (.c (D.int .u64 0))] [],
    o 10 (.mv) [(.t 9)] [],
    ⟨some 11, .fld 1, [(.t 3)], [], some (10, true)⟩,
    ⟨some 12, .load ⟨false, [.int .u64]⟩, [(.t 11)], [], some (10, true)⟩,
    ⟨some 13, .bin .leq, [(.t 12), (.c (D.int .u64 4294967295))], [], some (10, true)⟩,
    o 14 (.pick) [(.t 10), (.t 13), (.c (D.bool false))] [],
    o 4 (.mv) [(.t 14)] []])
  (.ret)) (.skip)))
  (.seq (.region false [
    o 15 (.mv) [(.t 0)] [],
    o 16 (.bin .eql) [(.t 15), (.c (D.int .u8 6))] [],
    o 4 (.mv) [(.t 16)] []])
  (.ret)))⟩

def c_gatepathref01_power : DFun := ⟨14, 1, [.p], [.p ⟨false, [.int .u64]⟩], [.t 2],
  .seq (.region false [
    o 2 (.mv) [(.c (D.int .u64 0))] []])
  (.seq (.region false [
    o 3 (.mv) [(.c (D.int .u64 1))] []])
  (.seq (.seq (.region false [
    o 4 (.mv) [(.c (D.int .i64 0))] []])
  (.block 0 (.loop ⟨[0], [(3, .p ⟨false, [.int .u64]⟩), (4, .p ⟨false, [.int .i64]⟩)], []⟩ (.seq (.seq (.region false [
    o 5 (.mv) [(.t 4)] [],
    o 6 (.mv) [(.t 0)] [],
    o 7 (.bin .lss) [(.t 5), (.t 6)] []])
  (.cond (.t 7) (.skip) (.exit 0)))
  (.seq (.block 1 (.region false [
    o 10 (.mv) [(.t 3)] [],
    o 11 (.mv) [(.t 3)] [],
    o 12 (.bin .add) [(.t 10), (.t 11)] [],
    o 3 (.mv) [(.t 12)] []]))
  (.region false [
    o 8 (.mv) [(.t 4)] [],
    o 9 (.bin .add) [(.t 8), (.c (D.int .i64 1))] [],
    o 4 (.mv) [(.t 9)] []]))))))
  (.seq (.region false [
    o 13 (.mv) [(.t 3)] [],
    o 2 (.mv) [(.t 13)] []])
  (.ret))))⟩

def c_gatepathref01_Bits : DFun := ⟨39, 8, [.p, .p], [.o 3], [.t 4],
  .seq (.region false [
    o 3 (.box 2) [(.t 1)] [],
    o 4 (.mv) [(.c (D.zs 3 true))] []])
  (.seq (.region false [
    o 5 (.mv) [(.c (D.zs 3 true))] []])
  (.seq (.region false [
    o 10 (.mv) [(.t 0)] [],
    o 11 (.call [5]) [(.c (D.fn 68 [])), (.t 10)] [],
    o 6 (.mv) [(.t 11)] []])
  (.seq (.seq (.region false [
    o 7 (.mv) [(.c (D.int .i64 0))] []])
  (.block 0 (.loop ⟨[3, 6], [(5, .o 6 3), (7, .p ⟨false, [.int .i64]⟩)], [(2, .v [.p (.int .u64), .p (.int .u64)])]⟩ (.seq (.seq (.region false [
    o 12 (.mv) [(.t 7)] [],
    o 13 (.mv) [(.t 6)] [],
    o 14 (.bin .lss) [(.t 12), (.t 13)] []])
  (.cond (.t 14) (.skip) (.exit 0)))
  (.seq (.block 1 (.seq (.region false [
    o 17 (.mv) [(.t 6)] [],
    o 18 (.bin .sub) [(.t 17), (.c (D.int .i64 1))] [],
    o 19 (.mv) [(.t 7)] [],
    o 20 (.bin .sub) [(.t 18), (.t 19)] [],
    o 8 (.mv) [(.t 20)] []])
  (.seq (.region false [
    o 21 (.fld 1) [(.t 3)] [],
    o 22 (.load ⟨false, [.int .u64]⟩) [(.t 21)] [],
    o 9 (.mv) [(.t 22)] []])
  (.seq (.seq (.region false [
    o 23 (.mv) [(.t 8)] [],
    o 24 (.bin .gtr) [(.t 23), (.c (D.int .i64 63))] []])
  (.cond (.t 24) (.seq (.region false [
    o 25 (.fld 0) [(.t 3)] [],
    o 26 (.load ⟨false, [.int .u64]⟩) [(.t 25)] [],
    o 9 (.mv) [(.t 26)] []])
  (.region false [
    o 27 (.mv) [(.t 8)] [],
    o 28 (.bin .sub) [(.t 27), (.c (D.int .i64 64))] [],
    o 8 (.mv) [(.t 28)] []])) (.skip)))
  (.region false [
    o 29 (.mv) [(.t 5)] [],
    o 30 (.mv) [(.t 9)] [],
    o 31 (.mv) [(.t 8)] [],
    o 32 (.call [7]) [(.c (D.fn 76 [])), (.t 31)] [],
    o 33 (.bin .quo) [(.t 30), (.t 32)] [],
    o 34 (.bin .rem) [(.t 33), (.c (D.int .u64 2))] [],
    o 35 (.conv .i64) [(.t 34)] [],
    o 36 (.buildSl 3 3) [(.t 35)] [],
    o 37 (.append 4 3 8) [(.t 29), (.t 36)] [],
    o 5 (.mv) [(.t 37)] []])))))
  (.region false [
    o 15 (.mv) [(.t 7)] [],
    o 16 (.bin .add) [(.t 15), (.c (D.int .i64 1))] [],
    o 7 (.mv) [(.t 16)] []]))))))
  (.seq (.region false [
    o 38 (.mv) [(.t 5)] [],
    o 4 (.mv) [(.t 38)] []])
  (.ret)))))⟩

def c_gatepathref01_Check : DFun := ⟨45, 5, [.p], [.p ⟨false, [.int .i64]⟩], [.t 2],
  .seq (.region false [
    o 1 (.box 1) [(.t 0)] [],
    o 2 (.mv) [(.c (D.int .i64 0))] []])
  (.seq (.region false [
    o 6 (.fld 0) [(.t 1)] [],
    o 7 (.load ⟨false, [.int .u8]⟩) [(.t 6)] [],
    o 8 (.call [2]) [(.c (D.fn 68 [])), (.t 7)] [],
    o 3 (.mv) [(.t 8)] []])
  (.seq (.seq (.region false [
    o 9 (.mv) [(.t 3)] [],
    o 10 (.bin .eql) [(.t 9), (.c (D.int .i64 0))] []])
  (.cond (.t 10) (.seq (.region false [
    o 2 (.mv) [(.c (D.int .i64 2))] []])
  (.ret)) (.skip)))
  (.seq (.seq (.region false [
    o 11 (.fld 0) [(.t 1)] [],
    o 12 (.load ⟨false, [.int .u8]⟩) [(.t 11)] [],
    o 13 (.fld 1) [(.t 1)] [],
    o 14 (.load ⟨true, [.int .u64, .int .u64]⟩) [(.t 13)] [],
    o 15 (.call [3]) [(.c (D.fn 69 [])), (.t 12), (.t 14)] [],
    o 16 (.not) [(.t 15)] [],
    o 17 (.mv) [(.t 16)] [],
    ⟨some 18, .fld 3, [(.t 1)], [], some (17, false)⟩,
    ⟨some 19, .load ⟨false, [.int .i64]⟩, [(.t 18)], [], some (17, false)⟩,
    ⟨some 20, .bin .lss, [(.t 19), (.c (D.int .i64 0))], [], some (17, false)⟩,
    o 21 (.pick) [(.t 17), (.c (D.bool true)), (.t 20)] [],
    o 22 (.mv) [(.t 21)] [],
    ⟨some 23, .fld 3, [(.t 1)], [], some (22, false)⟩,
    ⟨some 24, .load ⟨false, [.int .i64]⟩, [(.t 23)], [], some (22, false)⟩,
    ⟨some 25, .mv, [(.t 3)], [], some (22, false)⟩,
    ⟨some 26, .bin .gtr, [(.t 24), (.t 25)], [], some (22, false)⟩,
    o 27 (.pick) [(.t 22), (.c (D.bool true)), (.t 26)] []])
  (.cond (.t 27) (.seq (.region false [
    o 2 (.mv) [(.c (D.int .i64 8))] []])
  (.ret)) (.skip)))
  (.seq (.region false [
    o 28 (.fld 0) [(.t 1)] [],
    o 29 (.load ⟨false, [.int .u8]⟩) [(.t 28)] [],
    o 30 (.fld 1) [(.t 1)] [],
    o 31 (.load ⟨true, [.int .u64, .int .u64]⟩) [(.t 30)] [],
    o 32 (.call [4]) [(.c (D.fn 70 [])), (.t 29), (.t 31)] [],
    o 4 (.mv) [(.t 32)] []])
  (.seq (.seq (.region false [
    o 33 (.fld 3) [(.t 1)] [],
    o 34 (.load ⟨false, [.int .i64]⟩) [(.t 33)] [],
    o 5 (.mv) [(.t 34)] []])
  (.block 0 (.loop ⟨[3, 4], [(5, .p ⟨false, [.int .i64]⟩)], [(4, .a 3)]⟩ (.seq (.seq (.region false [
    o 35 (.mv) [(.t 5)] [],
    o 36 (.mv) [(.t 3)] [],
    o 37 (.bin .lss) [(.t 35), (.t 36)] []])
  (.cond (.t 37) (.skip) (.exit 0)))
  (.seq (.block 1 (.seq (.region false [
    o 40 (.mv) [(.t 4)] [],
    o 41 (.mv) [(.t 5)] [],
    o 42 (.idxA 3) [(.t 40), (.t 41)] [],
    o 43 (.load ⟨false, [.int .i64]⟩) [(.t 42)] [],
    o 44 (.bin .neq) [(.t 43), (.c (D.int .i64 0))] []])
  (.cond (.t 44) (.seq (.region false [
    o 2 (.mv) [(.c (D.int .i64 8))] []])
  (.ret)) (.skip))))
  (.region false [
    o 38 (.mv) [(.t 5)] [],
    o 39 (.bin .add) [(.t 38), (.c (D.int .i64 1))] [],
    o 5 (.mv) [(.t 39)] []]))))))
  (.seq (.region false [
    o 2 (.mv) [(.c (D.int .i64 0))] []])
  (.ret)))))))⟩

def c_gatepathref43_goodPrefix : DFun := ⟨31, 3, [.p], [.p ⟨false, [.bool]⟩], [.t 2],
  .seq (.region false [
    o 1 (.box 1) [(.t 0)] [],
    o 2 (.mv) [(.c (D.bool false))] []])
  (.seq (.seq (.region false [
    o 3 (.fld 0) [(.t 1)] [],
    o 4 (.load ⟨false, [.bool]⟩) [(.t 3)] [],
    o 5 (.not) [(.t 4)] [],
    o 6 (.mv) [(.t 5)] [],
    ⟨some 7, .fld 1, [(.t 1)], [], some (6, true)⟩,
    ⟨some 8, .load ⟨false, [.bool]⟩, [(.t 7)], [], some (6, true)⟩,
    ⟨some 9, .not, [(.t 8)], [], some (6, true)⟩,
    o 10 (.pick) [(.t 6), (.t 9), (.c (D.bool false))] [],
    o 11 (.mv) [(.t 10)] [],
    ⟨some 12, .fld 1, [(.t 1)], [], some (11, false)⟩,
    ⟨some 13, .load ⟨false, [.bool]⟩, [(.t 12)], [], some (11, false)⟩,
    ⟨some 14, .not, [(.t 13)], [], some (11, false)⟩,
    ⟨some 15, .mv, [(.t 14)], [], some (11, false)⟩,
    ⟨some 16, .fld 6, [(.t 1)], [], some (15, true)⟩,
    ⟨some 17, .load ⟨false, [.int .u32]⟩, [(.t 16)], [], some (15, true)⟩,
    ⟨some 18, .bin .neq, [(.t 17), (.c (D.int .u32 0))], [], some (15, true)⟩,
    ⟨some 19, .pick, [(.t 15), (.t 18), (.c (D.bool false))], [], some (11, false)⟩,
    o 20 (.pick) [(.t 11), (.c (D.bool true)), (.t 19)] []])
  (.cond (.t 20) (.seq (.region false [
    o 2 (.mv) [(.c (D.bool false))] []])
  (.ret)) (.skip)))
  (.seq (.seq (.region false [
    o 21 (.fld 0) [(.t 1)] [],
    o 22 (.load ⟨false, [.bool]⟩) [(.t 21)] []])
  (.cond (.t 22) (.seq (.region false [
    o 23 (.fld 2) [(.t 1)] [],
    o 24 (.load vk1) [(.t 23)] [],
    o 25 (.call [2]) [(.c (D.fn 49 [])), (.t 24)] [],
    o 26 (.bin .eql) [(.t 25), (.c (D.int .i64 0))] [],
    o 2 (.mv) [(.t 26)] []])
  (.ret)) (.skip)))
  (.seq (.region false [
    o 27 (.fld 2) [(.t 1)] [],
    o 28 (.load vk1) [(.t 27)] [],
    o 29 (.build zs2 []) [] [],
    o 30 (.eqv false vk1) [(.t 28), (.t 29)] [],
    o 2 (.mv) [(.t 30)] []])
  (.ret))))⟩

def c_gatepathref43_less : DFun := ⟨30, 2, [.p, .p], [.p ⟨false, [.bool]⟩], [.t 4],
  .seq (.region false [
    o 4 (.mv) [(.c (D.bool false))] []])
  (.seq (.seq (.region false [
    o 5 (.mv) [(.c (D.int .i64 0))] []])
  (.block 0 (.loop ⟨[0, 1], [(5, .p ⟨false, [.int .i64]⟩)], []⟩ (.seq (.seq (.region false [
    o 6 (.mv) [(.t 5)] [],
    o 7 (.mv) [(.t 0)] [],
    o 8 (.len) [(.t 7)] [],
    o 9 (.bin .lss) [(.t 6), (.t 8)] []])
  (.cond (.t 9) (.skip) (.exit 0)))
  (.seq (.block 1 (.seq (.region true [
    o 12 (.mv) [(.t 0)] [],
    o 13 (.mv) [(.t 5)] [],
    o 14 (.idxA 46) [(.t 12), (.t 13)] [0, 1],
    o 15 (.load ⟨false, [.int .u64]⟩) [(.t 14)] [2],
    o 16 (.mv) [(.t 1)] [],
    o 17 (.mv) [(.t 5)] [],
    o 18 (.idxA 46) [(.t 16), (.t 17)] [4, 5],
    o 19 (.load ⟨false, [.int .u64]⟩) [(.t 18)] [6],
    o 20 (.bin .neq) [(.t 15), (.t 19)] [3, 7]])
  (.cond (.t 20) (.seq (.region true [
    o 21 (.mv) [(.t 0)] [],
    o 22 (.mv) [(.t 5)] [],
    o 23 (.idxA 46) [(.t 21), (.t 22)] [0, 1],
    o 24 (.load ⟨false, [.int .u64]⟩) [(.t 23)] [2],
    o 25 (.mv) [(.t 1)] [],
    o 26 (.mv) [(.t 5)] [],
    o 27 (.idxA 46) [(.t 25), (.t 26)] [4, 5],
    o 28 (.load ⟨false, [.int .u64]⟩) [(.t 27)] [6],
    o 29 (.bin .lss) [(.t 24), (.t 28)] [3, 7],
    o 4 (.mv) [(.t 29)] [8]])
  (.ret)) (.skip))))
  (.region false [
    o 10 (.mv) [(.t 5)] [],
    o 11 (.bin .add) [(.t 10), (.c (D.int .i64 1))] [],
    o 5 (.mv) [(.t 11)] []]))))))
  (.seq (.region false [
    o 4 (.mv) [(.c (D.bool false))] []])
  (.ret)))⟩

def c_gatepathref43_one : DFun := ⟨4, 1, [.p], [.p ⟨false, [.int .u64]⟩], [.t 2],
  .seq (.region false [
    o 2 (.mv) [(.c (D.int .u64 0))] []])
  (.seq (.seq (.region false [
    o 3 (.mv) [(.t 0)] []])
  (.cond (.t 3) (.seq (.region false [
    o 2 (.mv) [(.c (D.int .u64 1))] []])
  (.ret)) (.skip)))
  (.seq (.region false [
    o 2 (.mv) [(.c (D.int .u64 0))] []])
  (.ret)))⟩

def c_gatepathref43_prefixKey : DFun := ⟨29, 5, [.p], [.o 46], [.t 2],
  .seq (.region false [
    o 1 (.box 1) [(.t 0)] [],
    o 2 (.mv) [(.c (D.zs 46 true))] []])
  (.seq (.region true [
    o 3 (.fld 0) [(.t 1)] [],
    o 4 (.load ⟨false, [.bool]⟩) [(.t 3)] [0],
    o 5 (.call [3]) [(.c (D.fn 50 [])), (.t 4)] [1],
    o 6 (.fld 2) [(.t 1)] [],
    o 7 (.fld 0) [(.t 6)] [3],
    o 8 (.load ⟨false, [.int .u8]⟩) [(.t 7)] [4],
    o 9 (.conv .u64) [(.t 8)] [5],
    o 10 (.fld 2) [(.t 1)] [],
    o 11 (.fld 1) [(.t 10)] [7],
    o 12 (.fld 0) [(.t 11)] [8],
    o 13 (.load ⟨false, [.int .u64]⟩) [(.t 12)] [9],
    o 14 (.fld 2) [(.t 1)] [],
    o 15 (.fld 1) [(.t 14)] [11],
    o 16 (.fld 1) [(.t 15)] [12],
    o 17 (.load ⟨false, [.int .u64]⟩) [(.t 16)] [13],
    o 18 (.fld 2) [(.t 1)] [],
    o 19 (.fld 3) [(.t 18)] [15],
    o 20 (.load ⟨false, [.int .i64]⟩) [(.t 19)] [16],
    o 21 (.conv .u64) [(.t 20)] [17],
    o 22 (.fld 1) [(.t 1)] [],
    o 23 (.load ⟨false, [.bool]⟩) [(.t 22)] [19],
    o 24 (.call [4]) [(.c (D.fn 50 [])), (.t 23)] [2, 20],
    o 25 (.fld 6) [(.t 1)] [],
    o 26 (.load ⟨false, [.int .u32]⟩) [(.t 25)] [22],
    o 27 (.conv .u64) [(.t 26)] [23],
    o 28 (.buildSl 2 46) [(.t 5), (.t 9), (.t 13), (.t 17), (.t 21), (.t 24), (.t 27)] [6, 10, 14, 18, 21, 24],
    o 2 (.mv) [(.t 28)] [25]])
  (.ret))⟩

def c_gatepathref43_goodKey : DFun := ⟨37, 2, [.p], [.p ⟨false, [.bool]⟩], [.t 2],
  .seq (.region false [
    o 1 (.box 1) [(.t 0)] [],
    o 2 (.mv) [(.c (D.bool false))] []])
  (.seq (.seq (.region false [
    o 3 (.fld 1) [(.t 1)] [],
    o 4 (.load ⟨false, [.bool]⟩) [(.t 3)] [],
    o 5 (.not) [(.t 4)] [],
    o 6 (.mv) [(.t 5)] [],
    ⟨some 7, .fld 0, [(.t 1)], [], some (6, true)⟩,
    ⟨some 8, .load ⟨false, [.bool]⟩, [(.t 7)], [], some (6, true)⟩,
    ⟨some 9, .not, [(.t 8)], [], some (6, true)⟩,
    o 10 (.pick) [(.t 6), (.t 9), (.c (D.bool false))] [],
    o 11 (.mv) [(.t 10)] [],
    ⟨some 12, .fld 0, [(.t 1)], [], some (11, false)⟩,
    ⟨some 13, .load ⟨false, [.bool]⟩, [(.t 12)], [], some (11, false)⟩,
    ⟨some 14, .not, [(.t 13)], [], some (11, false)⟩,
    ⟨some 15, .mv, [(.t 14)], [], some (11, false)⟩,
    ⟨some 16, .fld 2, [(.t 1)], [], some (15, true)⟩,
    ⟨some 17, .load ⟨false, [.int .u32]⟩, [(.t 16)], [], some (15, true)⟩,
    ⟨some 18, .bin .neq, [(.t 17), (.c (D.int .u32 0))], [], some (15, true)⟩,
    ⟨some 19, .pick, [(.t 15), (.t 18), (.c (D.bool false))], [], some (11, false)⟩,
    o 20 (.pick) [(.t 11), (.c (D.bool true)), (.t 19)] []])
  (.cond (.t 20) (.seq (.region false [
    o 2 (.mv) [(.c (D.bool false))] []])
  (.ret)) (.skip)))
  (.seq (.seq (.region false [
    o 21 (.fld 1) [(.t 1)] [],
    o 22 (.load ⟨false, [.bool]⟩) [(.t 21)] []])
  (.cond (.t 22) (.seq (.region false [
    o 23 (.fld 3) [(.t 1)] [],
    o 24 (.fld 16) [(.t 23)] [],
    o 25 (.load ⟨false, [.int .i64]⟩) [(.t 24)] [],
    o 26 (.bin .geq) [(.t 25), (.c (D.int .i64 0))] [],
    o 27 (.mv) [(.t 26)] [],
    ⟨some 28, .fld 3, [(.t 1)], [], some (27, true)⟩,
    ⟨some 29, .fld 16, [(.t 28)], [], some (27, true)⟩,
    ⟨some 30, .load ⟨false, [.int .i64]⟩, [(.t 29)], [], some (27, true)⟩,
    ⟨some 31, .bin .leq, [(.t 30), (.c (D.int .i64 4))], [], some (27, true)⟩,
    o 32 (.pick) [(.t 27), (.t 31), (.c (D.bool false))] [],
    o 2 (.mv) [(.t 32)] []])
  (.ret)) (.skip)))
  (.seq (.region false [
    o 33 (.fld 3) [(.t 1)] [],
    o 34 (.load vk3) [(.t 33)] [],
    o 35 (.build zs3 []) [] [],
    o 36 (.eqv false vk3) [(.t 34), (.t 35)] [],
    o 2 (.mv) [(.t 36)] []])
  (.ret))))⟩

def c_gatepathref43_keyKey : DFun := ⟨35, 10, [.p], [.o 46], [.t 2],
  .seq (.region false [
    o 1 (.box 1) [(.t 0)] [],
    o 2 (.mv) [(.c (D.zs 46 true))] []])
  (.seq (.region true [
    o 5 (.fld 0) [(.t 1)] [],
    o 6 (.load ⟨false, [.bool]⟩) [(.t 5)] [0],
    o 7 (.call [7]) [(.c (D.fn 50 [])), (.t 6)] [1],
    o 8 (.fld 2) [(.t 1)] [],
    o 9 (.load ⟨false, [.int .u32]⟩) [(.t 8)] [3],
    o 10 (.conv .u64) [(.t 9)] [4],
    o 11 (.fld 1) [(.t 1)] [],
    o 12 (.load ⟨false, [.bool]⟩) [(.t 11)] [6],
    o 13 (.call [8]) [(.c (D.fn 50 [])), (.t 12)] [2, 7],
    o 14 (.buildSl 2 46) [(.t 7), (.t 10), (.t 13)] [5, 8],
    o 3 (.mv) [(.t 14)] [9]])
  (.seq (.seq (.region false [
    o 4 (.mv) [(.c (D.int .i64 0))] []])
  (.block 0 (.loop ⟨[1], [(3, .o 9 46), (4, .p ⟨false, [.int .i64]⟩)], [(1, .v [.p (.bool), .p (.bool), .p (.int .u32), .p (.int .u8), .p (.int .u8), .p (.int .u8), .p (.int .u8), .p (.int .u8), .p (.int .u8), .p (.int .u8), .p (.int .u8), .p (.int .u8), .p (.int .u8), .p (.int .u8), .p (.int .u8), .p (.int .u8), .p (.int .u8), .p (.int .u8), .p (.int .u8), .p (.int .i64)])]⟩ (.seq (.seq (.region false [
    o 15 (.mv) [(.t 4)] [],
    o 16 (.bin .lss) [(.t 15), (.c (D.int .i64 16))] []])
  (.cond (.t 16) (.skip) (.exit 0)))
  (.seq (.block 1 (.region false [
    o 19 (.mv) [(.t 3)] [],
    o 20 (.mv) [(.t 4)] [],
    o 21 (.fld 3) [(.t 1)] [],
    o 22 (.fld 0) [(.t 21)] [],
    o 23 (.idxP 16) [(.t 22), (.t 20)] [],
    o 24 (.load ⟨false, [.int .u8]⟩) [(.t 23)] [],
    o 25 (.conv .u64) [(.t 24)] [],
    o 26 (.buildSl 3 46) [(.t 25)] [],
    o 27 (.append 4 46 8) [(.t 19), (.t 26)] [],
    o 3 (.mv) [(.t 27)] []]))
  (.region false [
    o 17 (.mv) [(.t 4)] [],
    o 18 (.bin .add) [(.t 17), (.c (D.int .i64 1))] [],
    o 4 (.mv) [(.t 18)] []]))))))
  (.seq (.region false [
    o 28 (.mv) [(.t 3)] [],
    o 29 (.fld 3) [(.t 1)] [],
    o 30 (.fld 16) [(.t 29)] [],
    o 31 (.load ⟨false, [.int .i64]⟩) [(.t 30)] [],
    o 32 (.conv .u64) [(.t 31)] [],
    o 33 (.buildSl 5 46) [(.t 32)] [],
    o 34 (.append 6 46 8) [(.t 28), (.t 33)] [],
    o 2 (.mv) [(.t 34)] []])
  (.ret))))⟩

def c_gatepathref34_GoodOrigin : DFun := ⟨24, 4, [.p], [.p ⟨false, [.bool]⟩], [.t 2],
  .seq (.region false [
    o 1 (.box 1) [(.t 0)] [],
    o 2 (.mv) [(.c (D.bool false))] []])
  (.seq (.region true [
    o 3 (.fld 1) [(.t 1)] [],
    o 4 (.load vk1) [(.t 3)] [0],
    o 5 (.call [2]) [(.c (D.fn 49 [])), (.t 4)] [1],
    o 6 (.bin .eql) [(.t 5), (.c (D.int .i64 0))] [2],
    o 7 (.mv) [(.t 6)] [3],
    ⟨some 8, .fld 5, [(.t 1)], [4], some (7, true)⟩,
    ⟨some 9, .load ⟨false, [.int .i64]⟩, [(.t 8)], [5], some (7, true)⟩,
    ⟨some 10, .fld 1, [(.t 1)], [4], some (7, true)⟩,
    ⟨some 11, .fld 3, [(.t 10)], [7], some (7, true)⟩,
    ⟨some 12, .load ⟨false, [.int .i64]⟩, [(.t 11)], [8], some (7, true)⟩,
    ⟨some 13, .bin .geq, [(.t 9), (.t 12)], [6, 9], some (7, true)⟩,
    o 14 (.pick) [(.t 7), (.t 13), (.c (D.bool false))] [10],
    o 15 (.mv) [(.t 14)] [11],
    ⟨some 16, .fld 5, [(.t 1)], [12], some (15, true)⟩,
    ⟨some 17, .load ⟨false, [.int .i64]⟩, [(.t 16)], [13], some (15, true)⟩,
    ⟨some 18, .fld 1, [(.t 1)], [12], some (15, true)⟩,
    ⟨some 19, .fld 0, [(.t 18)], [15], some (15, true)⟩,
    ⟨some 20, .load ⟨false, [.int .u8]⟩, [(.t 19)], [16], some (15, true)⟩,
    ⟨some 21, .call [3], [(.c (D.fn 68 [])), (.t 20)], [17], some (15, true)⟩,
    ⟨some 22, .bin .leq, [(.t 17), (.t 21)], [14, 18], some (15, true)⟩,
    o 23 (.pick) [(.t 15), (.t 22), (.c (D.bool false))] [19],
    o 2 (.mv) [(.t 23)] [20]])
  (.ret))⟩

def c_gatepathref01_Compare : DFun := ⟨29, 4, [.p, .p], [.p ⟨false, [.int .i64]⟩], [.t 4],
  .seq (.region false [
    o 2 (.box 2) [(.t 0)] [],
    o 3 (.box 3) [(.t 1)] [],
    o 4 (.mv) [(.c (D.int .i64 0))] []])
  (.seq (.block 0 (.seq (.region false [
    o 6 (.load ⟨true, [.int .u64, .int .u64]⟩) [(.t 2)] [],
    o 7 (.load ⟨true, [.int .u64, .int .u64]⟩) [(.t 3)] [],
    o 8 (.eqv false ⟨true, [.int .u64, .int .u64]⟩) [(.t 6), (.t 7)] [],
    o 5 (.mv) [(.t 8)] []])
  (.cond (.t 5) (.seq (.region false [
    o 4 (.mv) [(.c (D.int .i64 0))] []])
  (.ret)) (.seq (.region false [
    o 10 (.fld 0) [(.t 2)] [],
    o 11 (.load ⟨false, [.int .u64]⟩) [(.t 10)] [],
    o 12 (.fld 0) [(.t 3)] [],
    o 13 (.load ⟨false, [.int .u64]⟩) [(.t 12)] [],
    o 14 (.bin .lss) [(.t 11), (.t 13)] [],
    o 15 (.mv) [(.t 14)] [],
    ⟨some 16, .fld 0, [(.t 2)], [], some (15, false)⟩,
    ⟨some 17, .load ⟨false, [.int .u64]⟩, [(.t 16)], [], some (15, false)⟩,
    ⟨some 18, .fld 0, [(.t 3)], [], some (15, false)⟩,
    ⟨some 19, .load ⟨false, [.int .u64]⟩, [(.t 18)], [], some (15, false)⟩,
    ⟨some 20, .bin .eql, [(.t 17), (.t 19)], [], some (15, false)⟩,
    ⟨some 21, .mv, [(.t 20)], [], some (15, false)⟩,
    ⟨some 22, .fld 1, [(.t 2)], [], some (21, true)⟩,
    ⟨some 23, .load ⟨false, [.int .u64]⟩, [(.t 22)], [], some (21, true)⟩,
    ⟨some 24, .fld 1, [(.t 3)], [], some (21, true)⟩,
    ⟨some 25, .load ⟨false, [.int .u64]⟩, [(.t 24)], [], some (21, true)⟩,
    ⟨some 26, .bin .lss, [(.t 23), (.t 25)], [], some (21, true)⟩,
    ⟨some 27, .pick, [(.t 21), (.t 26), (.c (D.bool false))], [], some (15, false)⟩,
    o 28 (.pick) [(.t 15), (.c (D.bool true)), (.t 27)] [],
    o 9 (.mv) [(.t 28)] []])
  (.cond (.t 9) (.seq (.region false [
    o 4 (.mv) [(.c (D.int .i64 (-1)))] []])
  (.ret)) (.skip))))))
  (.seq (.region false [
    o 4 (.mv) [(.c (D.int .i64 1))] []])
  (.ret)))⟩

def c_gatepathref34_BeforeOrigin : DFun := ⟨61, 7, [.p, .p], [.p ⟨false, [.bool]⟩], [.t 4],
  .seq (.region false [
    o 2 (.box 2) [(.t 0)] [],
    o 3 (.box 3) [(.t 1)] [],
    o 4 (.mv) [(.c (D.bool false))] []])
  (.seq (.region true [
    o 7 (.fld 1) [(.t 2)] [],
    o 8 (.load vk1) [(.t 7)] [0],
    o 9 (.fld 1) [(.t 3)] [],
    o 10 (.load vk1) [(.t 9)] [2],
    o 5 (.alloc 4 zs2) [] [],
    o 6 (.alloc 5 zs2) [] [],
    ⟨none, .store vk1, [(.t 5), (.t 8)], [1, 4, 5], none⟩,
    ⟨none, .store vk1, [(.t 6), (.t 10)], [3, 6], none⟩])
  (.seq (.block 0 (.seq (.region false [
    o 12 (.fld 0) [(.t 2)] [],
    o 13 (.load ⟨false, [.int .u32]⟩) [(.t 12)] [],
    o 14 (.fld 0) [(.t 3)] [],
    o 15 (.load ⟨false, [.int .u32]⟩) [(.t 14)] [],
    o 16 (.bin .neq) [(.t 13), (.t 15)] [],
    o 11 (.mv) [(.t 16)] []])
  (.cond (.t 11) (.seq (.region false [
    o 17 (.fld 0) [(.t 2)] [],
    o 18 (.load ⟨false, [.int .u32]⟩) [(.t 17)] [],
    o 19 (.fld 0) [(.t 3)] [],
    o 20 (.load ⟨false, [.int .u32]⟩) [(.t 19)] [],
    o 21 (.bin .lss) [(.t 18), (.t 20)] [],
    o 4 (.mv) [(.t 21)] []])
  (.ret)) (.seq (.region false [
    o 23 (.fld 0) [(.t 5)] [],
    o 24 (.load ⟨false, [.int .u8]⟩) [(.t 23)] [],
    o 25 (.fld 0) [(.t 6)] [],
    o 26 (.load ⟨false, [.int .u8]⟩) [(.t 25)] [],
    o 27 (.bin .neq) [(.t 24), (.t 26)] [],
    o 22 (.mv) [(.t 27)] []])
  (.cond (.t 22) (.seq (.region false [
    o 28 (.fld 0) [(.t 5)] [],
    o 29 (.load ⟨false, [.int .u8]⟩) [(.t 28)] [],
    o 30 (.fld 0) [(.t 6)] [],
    o 31 (.load ⟨false, [.int .u8]⟩) [(.t 30)] [],
    o 32 (.bin .lss) [(.t 29), (.t 31)] [],
    o 4 (.mv) [(.t 32)] []])
  (.ret)) (.seq (.region false [
    o 34 (.fld 1) [(.t 5)] [],
    o 35 (.load ⟨true, [.int .u64, .int .u64]⟩) [(.t 34)] [],
    o 36 (.fld 1) [(.t 6)] [],
    o 37 (.load ⟨true, [.int .u64, .int .u64]⟩) [(.t 36)] [],
    o 38 (.eqv true ⟨true, [.int .u64, .int .u64]⟩) [(.t 35), (.t 37)] [],
    o 33 (.mv) [(.t 38)] []])
  (.cond (.t 33) (.seq (.region false [
    o 39 (.fld 1) [(.t 5)] [],
    o 40 (.load ⟨true, [.int .u64, .int .u64]⟩) [(.t 39)] [],
    o 41 (.fld 1) [(.t 6)] [],
    o 42 (.load ⟨true, [.int .u64, .int .u64]⟩) [(.t 41)] [],
    o 43 (.call [6]) [(.c (D.fn 71 [])), (.t 40), (.t 42)] [],
    o 44 (.bin .lss) [(.t 43), (.c (D.int .i64 0))] [],
    o 4 (.mv) [(.t 44)] []])
  (.ret)) (.seq (.region false [
    o 46 (.fld 3) [(.t 5)] [],
    o 47 (.load ⟨false, [.int .i64]⟩) [(.t 46)] [],
    o 48 (.fld 3) [(.t 6)] [],
    o 49 (.load ⟨false, [.int .i64]⟩) [(.t 48)] [],
    o 50 (.bin .neq) [(.t 47), (.t 49)] [],
    o 45 (.mv) [(.t 50)] []])
  (.cond (.t 45) (.seq (.region false [
    o 51 (.fld 3) [(.t 5)] [],
    o 52 (.load ⟨false, [.int .i64]⟩) [(.t 51)] [],
    o 53 (.fld 3) [(.t 6)] [],
    o 54 (.load ⟨false, [.int .i64]⟩) [(.t 53)] [],
    o 55 (.bin .lss) [(.t 52), (.t 54)] [],
    o 4 (.mv) [(.t 55)] []])
  (.ret)) (.skip))))))))))
  (.seq (.region false [
    o 56 (.fld 5) [(.t 2)] [],
    o 57 (.load ⟨false, [.int .i64]⟩) [(.t 56)] [],
    o 58 (.fld 5) [(.t 3)] [],
    o 59 (.load ⟨false, [.int .i64]⟩) [(.t 58)] [],
    o 60 (.bin .lss) [(.t 57), (.t 59)] [],
    o 4 (.mv) [(.t 60)] []])
  (.ret))))⟩

def c_gatepathref15_Check : DFun := ⟨59, 2, [.p], [.p ⟨false, [.int .i64]⟩], [.t 2],
  .seq (.region false [
    o 1 (.box 1) [(.t 0)] [],
    o 2 (.mv) [(.c (D.int .i64 0))] []])
  (.seq (.region false [
    o 5 (.fld 1) [(.t 1)] [],
    o 6 (.load ⟨false, [.sl 51]⟩) [(.t 5)] [],
    o 7 (.len) [(.t 6)] [],
    o 3 (.mv) [(.t 7)] []])
  (.seq (.seq (.region false [
    o 8 (.mv) [(.t 3)] [],
    o 9 (.bin .gtr) [(.t 8), (.c (D.int .i64 50))] []])
  (.cond (.t 9) (.seq (.region false [
    o 2 (.mv) [(.c (D.int .i64 4))] []])
  (.ret)) (.skip)))
  (.seq (.seq (.region false [
    o 10 (.mv) [(.t 3)] [],
    o 11 (.bin .eql) [(.t 10), (.c (D.int .i64 0))] [],
    o 12 (.mv) [(.t 11)] [],
    ⟨some 13, .fld 0, [(.t 1)], [], some (12, false)⟩,
    ⟨some 14, .load ⟨false, [.int .u32]⟩, [(.t 13)], [], some (12, false)⟩,
    ⟨some 15, .bin .eql, [(.t 14), (.c (D.int .u32 0))], [], some (12, false)⟩,
    o 16 (.pick) [(.t 12), (.c (D.bool true)), (.t 15)] [],
    o 17 (.mv) [(.t 16)] [],
    ⟨some 18, .mv, [(.t 3)], [], some (17, false)⟩,
    ⟨some 19, .bin .gtr, [(.t 18), (.c (D.int .i64 1))], [], some (17, false)⟩,
    ⟨some 20, .mv, [(.t 19)], [], some (17, false)⟩,
    ⟨some 21, .fld 1, [(.t 1)], [], some (20, true)⟩,
    ⟨some 22, .load ⟨false, [.sl 51]⟩, [(.t 21)], [], some (20, true)⟩,
    ⟨some 23, .idxA 51, [(.t 22), (.c (D.int .i64 0))], [], some (20, true)⟩,
    ⟨some 24, .load ⟨false, [.int .u32]⟩, [(.t 23)], [], some (20, true)⟩,
    ⟨some 25, .bin .eql, [(.t 24), (.c (D.int .u32 0))], [], some (20, true)⟩,
    ⟨some 26, .pick, [(.t 20), (.t 25), (.c (D.bool false))], [], some (17, false)⟩,
    o 27 (.pick) [(.t 17), (.c (D.bool true)), (.t 26)] []])
  (.cond (.t 27) (.seq (.region false [
    o 2 (.mv) [(.c (D.int .i64 8))] []])
  (.ret)) (.skip)))
  (.seq (.seq (.region false [
    o 4 (.mv) [(.c (D.int .i64 0))] []])
  (.block 0 (.loop ⟨[1, 3], [(4, .p ⟨false, [.int .i64]⟩)], [(1, .v [.p (.int .u32), .p (.sl 51)])]⟩ (.seq (.seq (.region false [
    o 28 (.mv) [(.t 4)] [],
    o 29 (.mv) [(.t 3)] [],
    o 30 (.bin .lss) [(.t 28), (.t 29)] []])
  (.cond (.t 30) (.skip) (.exit 0)))
  (.seq (.block 1 (.seq (.region true [
    o 33 (.fld 1) [(.t 1)] [],
    o 34 (.load ⟨false, [.sl 51]⟩) [(.t 33)] [0],
    o 35 (.mv) [(.t 4)] [],
    o 36 (.idxA 51) [(.t 34), (.t 35)] [1, 2],
    o 37 (.load ⟨false, [.int .u32]⟩) [(.t 36)] [3],
    o 38 (.fld 0) [(.t 1)] [],
    o 39 (.load ⟨false, [.int .u32]⟩) [(.t 38)] [5],
    o 40 (.bin .eql) [(.t 37), (.t 39)] [4, 6],
    o 41 (.mv) [(.t 40)] [7],
    ⟨some 42, .mv, [(.t 4)], [8], some (41, false)⟩,
    ⟨some 43, .bin .gtr, [(.t 42), (.c (D.int .i64 0))], [9], some (41, false)⟩,
    ⟨some 44, .mv, [(.t 43)], [10], some (41, false)⟩,
    ⟨some 45, .fld 1, [(.t 1)], [11], some (44, true)⟩,
    ⟨some 46, .load ⟨false, [.sl 51]⟩, [(.t 45)], [12], some (44, true)⟩,
    ⟨some 47, .mv, [(.t 4)], [11], some (44, true)⟩,
    ⟨some 48, .idxA 51, [(.t 46), (.t 47)], [13, 14], some (44, true)⟩,
    ⟨some 49, .load ⟨false, [.int .u32]⟩, [(.t 48)], [15], some (44, true)⟩,
    ⟨some 50, .fld 1, [(.t 1)], [11], some (44, true)⟩,
    ⟨some 51, .load ⟨false, [.sl 51]⟩, [(.t 50)], [17], some (44, true)⟩,
    ⟨some 52, .mv, [(.t 4)], [11], some (44, true)⟩,
    ⟨some 53, .bin .sub, [(.t 52), (.c (D.int .i64 1))], [19], some (44, true)⟩,
    ⟨some 54, .idxA 51, [(.t 51), (.t 53)], [18, 20], some (44, true)⟩,
    ⟨some 55, .load ⟨false, [.int .u32]⟩, [(.t 54)], [21], some (44, true)⟩,
    ⟨some 56, .bin .leq, [(.t 49), (.t 55)], [16, 22], some (44, true)⟩,
    ⟨some 57, .pick, [(.t 44), (.t 56), (.c (D.bool false))], [23], some (41, false)⟩,
    o 58 (.pick) [(.t 41), (.c (D.bool true)), (.t 57)] [24]])
  (.cond (.t 58) (.seq (.region false [
    o 2 (.mv) [(.c (D.int .i64 8))] []])
  (.ret)) (.skip))))
  (.region false [
    o 31 (.mv) [(.t 4)] [],
    o 32 (.bin .add) [(.t 31), (.c (D.int .i64 1))] [],
    o 4 (.mv) [(.t 32)] []]))))))
  (.seq (.region false [
    o 2 (.mv) [(.c (D.int .i64 0))] []])
  (.ret))))))⟩

def c_gatepathref34_GoodPath : DFun := ⟨10, 3, [.p], [.p ⟨false, [.bool]⟩], [.t 2],
  .seq (.region false [
    o 1 (.box 1) [(.t 0)] [],
    o 2 (.mv) [(.c (D.bool false))] []])
  (.seq (.region false [
    o 3 (.fld 0) [(.t 1)] [],
    o 4 (.load ⟨false, [.int .u32]⟩) [(.t 3)] [],
    o 5 (.fld 1) [(.t 1)] [],
    o 6 (.load ⟨false, [.sl 51]⟩) [(.t 5)] [],
    o 7 (.build [(D.int .u32 0), (D.zs 51 true)] [(0, 1), (1, 1)]) [(.t 4), (.t 6)] [],
    o 8 (.call [2]) [(.c (D.fn 72 [])), (.t 7)] [],
    o 9 (.bin .eql) [(.t 8), (.c (D.int .i64 0))] [],
    o 2 (.mv) [(.t 9)] []])
  (.ret))⟩

def c_gatepathref34_BeforePath : DFun := ⟨10, 4, [.p, .p], [.p ⟨false, [.bool]⟩], [.t 4],
  .seq (.region false [
    o 2 (.box 2) [(.t 0)] [],
    o 3 (.box 3) [(.t 1)] [],
    o 4 (.mv) [(.c (D.bool false))] []])
  (.seq (.region false [
    o 5 (.fld 0) [(.t 2)] [],
    o 6 (.load ⟨false, [.int .u32]⟩) [(.t 5)] [],
    o 7 (.fld 0) [(.t 3)] [],
    o 8 (.load ⟨false, [.int .u32]⟩) [(.t 7)] [],
    o 9 (.bin .lss) [(.t 6), (.t 8)] [],
    o 4 (.mv) [(.t 9)] []])
  (.ret))⟩

def c_gatepathref34_BeforeKey : DFun := ⟨49, 4, [.p, .p], [.p ⟨false, [.bool]⟩], [.t 4],
  .seq (.region false [
    o 2 (.box 2) [(.t 0)] [],
    o 3 (.box 3) [(.t 1)] [],
    o 4 (.mv) [(.c (D.bool false))] []])
  (.seq (.seq (.region false [
    o 6 (.fld 0) [(.t 2)] [],
    o 7 (.load ⟨false, [.int .u32]⟩) [(.t 6)] [],
    o 8 (.fld 0) [(.t 3)] [],
    o 9 (.load ⟨false, [.int .u32]⟩) [(.t 8)] [],
    o 10 (.bin .neq) [(.t 7), (.t 9)] []])
  (.cond (.t 10) (.seq (.region false [
    o 11 (.fld 0) [(.t 2)] [],
    o 12 (.load ⟨false, [.int .u32]⟩) [(.t 11)] [],
    o 13 (.fld 0) [(.t 3)] [],
    o 14 (.load ⟨false, [.int .u32]⟩) [(.t 13)] [],
    o 15 (.bin .lss) [(.t 12), (.t 14)] [],
    o 4 (.mv) [(.t 15)] []])
  (.ret)) (.skip)))
  (.seq (.seq (.region false [
    o 5 (.mv) [(.c (D.int .i64 0))] []])
  (.block 0 (.loop ⟨[2, 3], [(5, .p ⟨false, [.int .i64]⟩)], [(2, .v [.p (.int .u32), .p (.int .u8), .p (.int .u8), .p (.int .u8), .p (.int .u8), .p (.int .u8), .p (.int .u8), .p (.int .u8), .p (.int .u8), .p (.int .u8), .p (.int .u8), .p (.int .u8), .p (.int .u8), .p (.int .u8), .p (.int .u8), .p (.int .u8), .p (.int .u8), .p (.int .i64)]), (3, .v [.p (.int .u32), .p (.int .u8), .p (.int .u8), .p (.int .u8), .p (.int .u8), .p (.int .u8), .p (.int .u8), .p (.int .u8), .p (.int .u8), .p (.int .u8), .p (.int .u8), .p (.int .u8), .p (.int .u8), .p (.int .u8), .p (.int .u8), .p (.int .u8), .p (.int .u8), .p (.int .i64)])]⟩ (.seq (.seq (.region false [
    o 16 (.mv) [(.t 5)] [],
    o 17 (.bin .lss) [(.t 16), (.c (D.int .i64 16))] []])
  (.cond (.t 17) (.skip) (.exit 0)))
  (.seq (.block 1 (.seq (.region true [
    o 20 (.mv) [(.t 5)] [],
    o 21 (.fld 1) [(.t 2)] [],
    o 22 (.fld 0) [(.t 21)] [1],
    o 23 (.idxP 16) [(.t 22), (.t 20)] [0, 2],
    o 24 (.load ⟨false, [.int .u8]⟩) [(.t 23)] [3],
    o 25 (.mv) [(.t 5)] [],
    o 26 (.fld 1) [(.t 3)] [],
    o 27 (.fld 0) [(.t 26)] [6],
    o 28 (.idxP 16) [(.t 27), (.t 25)] [5, 7],
    o 29 (.load ⟨false, [.int .u8]⟩) [(.t 28)] [8],
    o 30 (.bin .neq) [(.t 24), (.t 29)] [4, 9]])
  (.cond (.t 30) (.seq (.region true [
    o 31 (.mv) [(.t 5)] [],
    o 32 (.fld 1) [(.t 2)] [],
    o 33 (.fld 0) [(.t 32)] [1],
    o 34 (.idxP 16) [(.t 33), (.t 31)] [0, 2],
    o 35 (.load ⟨false, [.int .u8]⟩) [(.t 34)] [3],
    o 36 (.mv) [(.t 5)] [],
    o 37 (.fld 1) [(.t 3)] [],
    o 38 (.fld 0) [(.t 37)] [6],
    o 39 (.idxP 16) [(.t 38), (.t 36)] [5, 7],
    o 40 (.load ⟨false, [.int .u8]⟩) [(.t 39)] [8],
    o 41 (.bin .lss) [(.t 35), (.t 40)] [4, 9],
    o 4 (.mv) [(.t 41)] [10]])
  (.ret)) (.skip))))
  (.region false [
    o 18 (.mv) [(.t 5)] [],
    o 19 (.bin .add) [(.t 18), (.c (D.int .i64 1))] [],
    o 5 (.mv) [(.t 19)] []]))))))
  (.seq (.region false [
    o 42 (.fld 1) [(.t 2)] [],
    o 43 (.fld 16) [(.t 42)] [],
    o 44 (.load ⟨false, [.int .i64]⟩) [(.t 43)] [],
    o 45 (.fld 1) [(.t 3)] [],
    o 46 (.fld 16) [(.t 45)] [],
    o 47 (.load ⟨false, [.int .i64]⟩) [(.t 46)] [],
    o 48 (.bin .lss) [(.t 44), (.t 47)] [],
    o 4 (.mv) [(.t 48)] []])
  (.ret))))⟩

def c_gatepathref34_Check : DFun := ⟨144, 7, [.p], [.p ⟨false, [.int .i64]⟩], [.t 2],
  .seq (.region false [
    o 1 (.box 1) [(.t 0)] [],
    o 2 (.mv) [(.c (D.int .i64 0))] []])
  (.seq (.seq (.region false [
    o 8 (.fld 0) [(.t 1)] [],
    o 9 (.load ⟨false, [.sl 93]⟩) [(.t 8)] [],
    o 10 (.len) [(.t 9)] [],
    o 11 (.bin .gtr) [(.t 10), (.c (D.int .i64 1000))] [],
    o 12 (.mv) [(.t 11)] [],
    ⟨some 13, .fld 1, [(.t 1)], [], some (12, false)⟩,
    ⟨some 14, .load ⟨false, [.sl 81]⟩, [(.t 13)], [], some (12, false)⟩,
    ⟨some 15, .len, [(.t 14)], [], some (12, false)⟩,
    ⟨some 16, .bin .gtr, [(.t 15), (.c (D.int .i64 300))], [], some (12, false)⟩,
    o 17 (.pick) [(.t 12), (.c (D.bool true)), (.t 16)] [],
    o 18 (.mv) [(.t 17)] [],
    ⟨some 19, .fld 2, [(.t 1)], [], some (18, false)⟩,
    ⟨some 20, .load ⟨false, [.sl 100]⟩, [(.t 19)], [], some (18, false)⟩,
    ⟨some 21, .len, [(.t 20)], [], some (18, false)⟩,
    ⟨some 22, .bin .gtr, [(.t 21), (.c (D.int .i64 100))], [], some (18, false)⟩,
    o 23 (.pick) [(.t 18), (.c (D.bool true)), (.t 22)] []])
  (.cond (.t 23) (.seq (.region false [
    o 2 (.mv) [(.c (D.int .i64 4))] []])
  (.ret)) (.skip)))
  (.seq (.seq (.region false [
    o 3 (.mv) [(.c (D.int .i64 0))] []])
  (.block 0 (.loop ⟨[1], [(3, .p ⟨false, [.int .i64]⟩)], [(1, .v [.p (.sl 93), .p (.sl 81), .p (.sl 100)])]⟩ (.seq (.seq (.region false [
    o 24 (.mv) [(.t 3)] [],
    o 25 (.fld 1) [(.t 1)] [],
    o 26 (.load ⟨false, [.sl 81]⟩) [(.t 25)] [],
    o 27 (.len) [(.t 26)] [],
    o 28 (.bin .lss) [(.t 24), (.t 27)] []])
  (.cond (.t 28) (.skip) (.exit 0)))
  (.seq (.block 1 (.seq (.region false [
    o 31 (.fld 1) [(.t 1)] [],
    o 32 (.load ⟨false, [.sl 81]⟩) [(.t 31)] [],
    o 33 (.mv) [(.t 3)] [],
    o 34 (.idxA 81) [(.t 32), (.t 33)] [],
    o 35 (.fld 1) [(.t 34)] [],
    o 36 (.load ⟨false, [.sl 51]⟩) [(.t 35)] [],
    o 37 (.len) [(.t 36)] [],
    o 38 (.bin .gtr) [(.t 37), (.c (D.int .i64 50))] []])
  (.cond (.t 38) (.seq (.region false [
    o 2 (.mv) [(.c (D.int .i64 4))] []])
  (.ret)) (.skip))))
  (.region false [
    o 29 (.mv) [(.t 3)] [],
    o 30 (.bin .add) [(.t 29), (.c (D.int .i64 1))] [],
    o 3 (.mv) [(.t 30)] []]))))))
  (.seq (.seq (.region false [
    o 4 (.mv) [(.c (D.int .i64 0))] []])
  (.block 2 (.loop ⟨[1], [(4, .p ⟨false, [.int .i64]⟩)], [(1, .v [.p (.sl 93), .p (.sl 81), .p (.sl 100)])]⟩ (.seq (.seq (.region false [
    o 39 (.mv) [(.t 4)] [],
    o 40 (.fld 0) [(.t 1)] [],
    o 41 (.load ⟨false, [.sl 93]⟩) [(.t 40)] [],
    o 42 (.len) [(.t 41)] [],
    o 43 (.bin .lss) [(.t 39), (.t 42)] []])
  (.cond (.t 43) (.skip) (.exit 2)))
  (.seq (.block 3 (.seq (.region true [
    o 46 (.fld 0) [(.t 1)] [],
    o 47 (.load ⟨false, [.sl 93]⟩) [(.t 46)] [0],
    o 48 (.mv) [(.t 4)] [],
    o 49 (.idxA 93) [(.t 47), (.t 48)] [1, 2],
    o 50 (.load vk5) [(.t 49)] [3],
    o 51 (.call [2]) [(.c (D.fn 51 [])), (.t 50)] [4],
    o 52 (.not) [(.t 51)] [5],
    o 53 (.mv) [(.t 52)] [6],
    ⟨some 54, .mv, [(.t 4)], [7], some (53, false)⟩,
    ⟨some 55, .bin .gtr, [(.t 54), (.c (D.int .i64 0))], [8], some (53, false)⟩,
    ⟨some 56, .mv, [(.t 55)], [9], some (53, false)⟩,
    ⟨some 57, .fld 0, [(.t 1)], [10], some (56, true)⟩,
    ⟨some 58, .load ⟨false, [.sl 93]⟩, [(.t 57)], [11], some (56, true)⟩,
    ⟨some 59, .mv, [(.t 4)], [10], some (56, true)⟩,
    ⟨some 60, .bin .sub, [(.t 59), (.c (D.int .i64 1))], [13], some (56, true)⟩,
    ⟨some 61, .idxA 93, [(.t 58), (.t 60)], [12, 14], some (56, true)⟩,
    ⟨some 62, .load vk5, [(.t 61)], [15], some (56, true)⟩,
    ⟨some 63, .fld 0, [(.t 1)], [10], some (56, true)⟩,
    ⟨some 64, .load ⟨false, [.sl 93]⟩, [(.t 63)], [17], some (56, true)⟩,
    ⟨some 65, .mv, [(.t 4)], [10], some (56, true)⟩,
    ⟨some 66, .idxA 93, [(.t 64), (.t 65)], [18, 19], some (56, true)⟩,
    ⟨some 67, .load vk5, [(.t 66)], [20], some (56, true)⟩,
    ⟨some 68, .call [3], [(.c (D.fn 52 [])), (.t 62), (.t 67)], [16, 21], some (56, true)⟩,
    ⟨some 69, .not, [(.t 68)], [22], some (56, true)⟩,
    ⟨some 70, .pick, [(.t 56), (.t 69), (.c (D.bool false))], [23], some (53, false)⟩,
    o 71 (.pick) [(.t 53), (.c (D.bool true)), (.t 70)] [24]])
  (.cond (.t 71) (.seq (.region false [
    o 2 (.mv) [(.c (D.int .i64 8))] []])
  (.ret)) (.skip))))
  (.region false [
    o 44 (.mv) [(.t 4)] [],
    o 45 (.bin .add) [(.t 44), (.c (D.int .i64 1))] [],
    o 4 (.mv) [(.t 45)] []]))))))
  (.seq (.seq (.region false [
    o 5 (.mv) [(.c (D.int .i64 0))] []])
  (.block 4 (.loop ⟨[1], [(5, .p ⟨false, [.int .i64]⟩)], [(1, .v [.p (.sl 93), .p (.sl 81), .p (.sl 100)])]⟩ (.seq (.seq (.region false [
    o 72 (.mv) [(.t 5)] [],
    o 73 (.fld 1) [(.t 1)] [],
    o 74 (.load ⟨false, [.sl 81]⟩) [(.t 73)] [],
    o 75 (.len) [(.t 74)] [],
    o 76 (.bin .lss) [(.t 72), (.t 75)] []])
  (.cond (.t 76) (.skip) (.exit 4)))
  (.seq (.block 5 (.seq (.region true [
    o 79 (.fld 1) [(.t 1)] [],
    o 80 (.load ⟨false, [.sl 81]⟩) [(.t 79)] [0],
    o 81 (.mv) [(.t 5)] [],
    o 82 (.idxA 81) [(.t 80), (.t 81)] [1, 2],
    o 83 (.load ⟨true, [.int .u32, .sl 51]⟩) [(.t 82)] [3],
    o 84 (.call [4]) [(.c (D.fn 53 [])), (.t 83)] [4],
    o 85 (.not) [(.t 84)] [5],
    o 86 (.mv) [(.t 85)] [6],
    ⟨some 87, .mv, [(.t 5)], [7], some (86, false)⟩,
    ⟨some 88, .bin .gtr, [(.t 87), (.c (D.int .i64 0))], [8], some (86, false)⟩,
    ⟨some 89, .mv, [(.t 88)], [9], some (86, false)⟩,
    ⟨some 90, .fld 1, [(.t 1)], [10], some (89, true)⟩,
    ⟨some 91, .load ⟨false, [.sl 81]⟩, [(.t 90)], [11], some (89, true)⟩,
    ⟨some 92, .mv, [(.t 5)], [10], some (89, true)⟩,
    ⟨some 93, .bin .sub, [(.t 92), (.c (D.int .i64 1))], [13], some (89, true)⟩,
    ⟨some 94, .idxA 81, [(.t 91), (.t 93)], [12, 14], some (89, true)⟩,
    ⟨some 95, .load ⟨true, [.int .u32, .sl 51]⟩, [(.t 94)], [15], some (89, true)⟩,
    ⟨some 96, .fld 1, [(.t 1)], [10], some (89, true)⟩,
    ⟨some 97, .load ⟨false, [.sl 81]⟩, [(.t 96)], [17], some (89, true)⟩,
    ⟨some 98, .mv, [(.t 5)], [10], some (89, true)⟩,
    ⟨some 99, .idxA 81, [(.t 97), (.t 98)], [18, 19], some (89, true)⟩,
    ⟨some 100, .load ⟨true, [.int .u32, .sl 51]⟩, [(.t 99)], [20], some (89, true)⟩,
    ⟨some 101, .call [5], [(.c (D.fn 54 [])), (.t 95), (.t 100)], [16, 21], some (89, true)⟩,
    ⟨some 102, .not, [(.t 101)], [22], some (89, true)⟩,
    ⟨some 103, .pick, [(.t 89), (.t 102), (.c (D.bool false))], [23], some (86, false)⟩,
    o 104 (.pick) [(.t 86), (.c (D.bool true)), (.t 103)] [24]])
  (.cond (.t 104) (.seq (.region false [
    o 2 (.mv) [(.c (D.int .i64 8))] []])
  (.ret)) (.skip))))
  (.region false [
    o 77 (.mv) [(.t 5)] [],
    o 78 (.bin .add) [(.t 77), (.c (D.int .i64 1))] [],
    o 5 (.mv) [(.t 78)] []]))))))
  (.seq (.seq (.region false [
    o 6 (.mv) [(.c (D.int .i64 0))] []])
  (.block 6 (.loop ⟨[1], [(6, .p ⟨false, [.int .i64]⟩)], [(1, .v [.p (.sl 93), .p (.sl 81), .p (.sl 100)])]⟩ (.seq (.seq (.region false [
    o 105 (.mv) [(.t 6)] [],
    o 106 (.fld 2) [(.t 1)] [],
    o 107 (.load ⟨false, [.sl 100]⟩) [(.t 106)] [],
    o 108 (.len) [(.t 107)] [],
    o 109 (.bin .lss) [(.t 105), (.t 108)] []])
  (.cond (.t 109) (.skip) (.exit 6)))
  (.seq (.block 7 (.seq (.region false [
    o 112 (.fld 2) [(.t 1)] [],
    o 113 (.load ⟨false, [.sl 100]⟩) [(.t 112)] [],
    o 114 (.mv) [(.t 6)] [],
    o 115 (.idxA 100) [(.t 113), (.t 114)] [],
    o 116 (.fld 1) [(.t 115)] [],
    o 117 (.fld 16) [(.t 116)] [],
    o 118 (.load ⟨false, [.int .i64]⟩) [(.t 117)] [],
    o 7 (.mv) [(.t 118)] []])
  (.seq (.region true [
    o 119 (.mv) [(.t 7)] [],
    o 120 (.bin .lss) [(.t 119), (.c (D.int .i64 0))] [0],
    o 121 (.mv) [(.t 120)] [1],
    ⟨some 122, .mv, [(.t 7)], [2], some (121, false)⟩,
    ⟨some 123, .bin .gtr, [(.t 122), (.c (D.int .i64 4))], [3], some (121, false)⟩,
    o 124 (.pick) [(.t 121), (.c (D.bool true)), (.t 123)] [4],
    o 125 (.mv) [(.t 124)] [5],
    ⟨some 126, .mv, [(.t 6)], [6], some (125, false)⟩,
    ⟨some 127, .bin .gtr, [(.t 126), (.c (D.int .i64 0))], [7], some (125, false)⟩,
    ⟨some 128, .mv, [(.t 127)], [8], some (125, false)⟩,
    ⟨some 129, .fld 2, [(.t 1)], [9], some (128, true)⟩,
    ⟨some 130, .load ⟨false, [.sl 100]⟩, [(.t 129)], [10], some (128, true)⟩,
    ⟨some 131, .mv, [(.t 6)], [9], some (128, true)⟩,
    ⟨some 132, .bin .sub, [(.t 131), (.c (D.int .i64 1))], [12], some (128, true)⟩,
    ⟨some 133, .idxA 100, [(.t 130), (.t 132)], [11, 13], some (128, true)⟩,
    ⟨some 134, .load vk6, [(.t 133)], [14], some (128, true)⟩,
    ⟨some 135, .fld 2, [(.t 1)], [9], some (128, true)⟩,
    ⟨some 136, .load ⟨false, [.sl 100]⟩, [(.t 135)], [16], some (128, true)⟩,
    ⟨some 137, .mv, [(.t 6)], [9], some (128, true)⟩,
    ⟨some 138, .idxA 100, [(.t 136), (.t 137)], [17, 18], some (128, true)⟩,
    ⟨some 139, .load vk6, [(.t 138)], [19], some (128, true)⟩,
    ⟨some 140, .call [6], [(.c (D.fn 55 [])), (.t 134), (.t 139)], [15, 20], some (128, true)⟩,
    ⟨some 141, .not, [(.t 140)], [21], some (128, true)⟩,
    ⟨some 142, .pick, [(.t 128), (.t 141), (.c (D.bool false))], [22], some (125, false)⟩,
    o 143 (.pick) [(.t 125), (.c (D.bool true)), (.t 142)] [23]])
  (.cond (.t 143) (.seq (.region false [
    o 2 (.mv) [(.c (D.int .i64 8))] []])
  (.ret)) (.skip)))))
  (.region false [
    o 110 (.mv) [(.t 6)] [],
    o 111 (.bin .add) [(.t 110), (.c (D.int .i64 1))] [],
    o 6 (.mv) [(.t 111)] []]))))))
  (.seq (.region false [
    o 2 (.mv) [(.c (D.int .i64 0))] []])
  (.ret)))))))⟩

def c_gatepathref43_Check : DFun := ⟨114, 11, [.p], [.p ⟨false, [.int .i64]⟩], [.t 2],
  .seq (.region false [
    o 1 (.box 1) [(.t 0)] [],
    o 2 (.mv) [(.c (D.int .i64 0))] []])
  (.seq (.seq (.region false [
    o 6 (.fld 0) [(.t 1)] [],
    o 7 (.load ⟨false, [.sl 53]⟩) [(.t 6)] [],
    o 8 (.len) [(.t 7)] [],
    o 9 (.bin .gtr) [(.t 8), (.c (D.int .i64 100))] [],
    o 10 (.mv) [(.t 9)] [],
    ⟨some 11, .fld 1, [(.t 1)], [], some (10, false)⟩,
    ⟨some 12, .load ⟨false, [.sl 65]⟩, [(.t 11)], [], some (10, false)⟩,
    ⟨some 13, .len, [(.t 12)], [], some (10, false)⟩,
    ⟨some 14, .bin .gtr, [(.t 13), (.c (D.int .i64 100))], [], some (10, false)⟩,
    o 15 (.pick) [(.t 10), (.c (D.bool true)), (.t 14)] [],
    o 16 (.mv) [(.t 15)] [],
    ⟨some 17, .fld 2, [(.t 1)], [], some (16, false)⟩,
    ⟨some 18, .load ⟨false, [.sl 51]⟩, [(.t 17)], [], some (16, false)⟩,
    ⟨some 19, .len, [(.t 18)], [], some (16, false)⟩,
    ⟨some 20, .bin .gtr, [(.t 19), (.c (D.int .i64 100))], [], some (16, false)⟩,
    o 21 (.pick) [(.t 16), (.c (D.bool true)), (.t 20)] []])
  (.cond (.t 21) (.seq (.region false [
    o 2 (.mv) [(.c (D.int .i64 4))] []])
  (.ret)) (.skip)))
  (.seq (.seq (.region false [
    o 3 (.mv) [(.c (D.int .i64 0))] []])
  (.block 0 (.loop ⟨[1], [(3, .p ⟨false, [.int .i64]⟩)], [(1, .v [.p (.sl 53), .p (.sl 65), .p (.sl 51), .p (.sl 93), .p (.sl 81), .p (.sl 100)])]⟩ (.seq (.seq (.region false [
    o 22 (.mv) [(.t 3)] [],
    o 23 (.fld 0) [(.t 1)] [],
    o 24 (.load ⟨false, [.sl 53]⟩) [(.t 23)] [],
    o 25 (.len) [(.t 24)] [],
    o 26 (.bin .lss) [(.t 22), (.t 25)] []])
  (.cond (.t 26) (.skip) (.exit 0)))
  (.seq (.block 1 (.seq (.region true [
    o 29 (.fld 0) [(.t 1)] [],
    o 30 (.load ⟨false, [.sl 53]⟩) [(.t 29)] [0],
    o 31 (.mv) [(.t 3)] [],
    o 32 (.idxA 53) [(.t 30), (.t 31)] [1, 2],
    o 33 (.load vk2) [(.t 32)] [3],
    o 34 (.call [2]) [(.c (D.fn 18 [])), (.t 33)] [4],
    o 35 (.not) [(.t 34)] [5],
    o 36 (.mv) [(.t 35)] [6],
    ⟨some 37, .mv, [(.t 3)], [7], some (36, false)⟩,
    ⟨some 38, .bin .gtr, [(.t 37), (.c (D.int .i64 0))], [8], some (36, false)⟩,
    ⟨some 39, .mv, [(.t 38)], [9], some (36, false)⟩,
    ⟨some 40, .fld 0, [(.t 1)], [10], some (39, true)⟩,
    ⟨some 41, .load ⟨false, [.sl 53]⟩, [(.t 40)], [11], some (39, true)⟩,
    ⟨some 42, .mv, [(.t 3)], [10], some (39, true)⟩,
    ⟨some 43, .bin .sub, [(.t 42), (.c (D.int .i64 1))], [13], some (39, true)⟩,
    ⟨some 44, .idxA 53, [(.t 41), (.t 43)], [12, 14], some (39, true)⟩,
    ⟨some 45, .load vk2, [(.t 44)], [15], some (39, true)⟩,
    ⟨some 46, .call [3], [(.c (D.fn 20 [])), (.t 45)], [16], some (39, true)⟩,
    ⟨some 47, .fld 0, [(.t 1)], [10], some (39, true)⟩,
    ⟨some 48, .load ⟨false, [.sl 53]⟩, [(.t 47)], [18], some (39, true)⟩,
    ⟨some 49, .mv, [(.t 3)], [10], some (39, true)⟩,
    ⟨some 50, .idxA 53, [(.t 48), (.t 49)], [19, 20], some (39, true)⟩,
    ⟨some 51, .load vk2, [(.t 50)], [21], some (39, true)⟩,
    ⟨some 52, .call [4], [(.c (D.fn 20 [])), (.t 51)], [17, 22], some (39, true)⟩,
    ⟨some 53, .call [5], [(.c (D.fn 19 [])), (.t 46), (.t 52)], [23], some (39, true)⟩,
    ⟨some 54, .not, [(.t 53)], [24], some (39, true)⟩,
    ⟨some 55, .pick, [(.t 39), (.t 54), (.c (D.bool false))], [25], some (36, false)⟩,
    o 56 (.pick) [(.t 36), (.c (D.bool true)), (.t 55)] [26]])
  (.cond (.t 56) (.seq (.region false [
    o 2 (.mv) [(.c (D.int .i64 8))] []])
  (.ret)) (.skip))))
  (.region false [
    o 27 (.mv) [(.t 3)] [],
    o 28 (.bin .add) [(.t 27), (.c (D.int .i64 1))] [],
    o 3 (.mv) [(.t 28)] []]))))))
  (.seq (.seq (.region false [
    o 4 (.mv) [(.c (D.int .i64 0))] []])
  (.block 2 (.loop ⟨[1], [(4, .p ⟨false, [.int .i64]⟩)], [(1, .v [.p (.sl 53), .p (.sl 65), .p (.sl 51), .p (.sl 93), .p (.sl 81), .p (.sl 100)])]⟩ (.seq (.seq (.region false [
    o 57 (.mv) [(.t 4)] [],
    o 58 (.fld 1) [(.t 1)] [],
    o 59 (.load ⟨false, [.sl 65]⟩) [(.t 58)] [],
    o 60 (.len) [(.t 59)] [],
    o 61 (.bin .lss) [(.t 57), (.t 60)] []])
  (.cond (.t 61) (.skip) (.exit 2)))
  (.seq (.block 3 (.seq (.region true [
    o 64 (.fld 1) [(.t 1)] [],
    o 65 (.load ⟨false, [.sl 65]⟩) [(.t 64)] [0],
    o 66 (.mv) [(.t 4)] [],
    o 67 (.idxA 65) [(.t 65), (.t 66)] [1, 2],
    o 68 (.load vk4) [(.t 67)] [3],
    o 69 (.call [6]) [(.c (D.fn 21 [])), (.t 68)] [4],
    o 70 (.not) [(.t 69)] [5],
    o 71 (.mv) [(.t 70)] [6],
    ⟨some 72, .mv, [(.t 4)], [7], some (71, false)⟩,
    ⟨some 73, .bin .gtr, [(.t 72), (.c (D.int .i64 0))], [8], some (71, false)⟩,
    ⟨some 74, .mv, [(.t 73)], [9], some (71, false)⟩,
    ⟨some 75, .fld 1, [(.t 1)], [10], some (74, true)⟩,
    ⟨some 76, .load ⟨false, [.sl 65]⟩, [(.t 75)], [11], some (74, true)⟩,
    ⟨some 77, .mv, [(.t 4)], [10], some (74, true)⟩,
    ⟨some 78, .bin .sub, [(.t 77), (.c (D.int .i64 1))], [13], some (74, true)⟩,
    ⟨some 79, .idxA 65, [(.t 76), (.t 78)], [12, 14], some (74, true)⟩,
    ⟨some 80, .load vk4, [(.t 79)], [15], some (74, true)⟩,
    ⟨some 81, .call [7], [(.c (D.fn 22 [])), (.t 80)], [16], some (74, true)⟩,
    ⟨some 82, .fld 1, [(.t 1)], [10], some (74, true)⟩,
    ⟨some 83, .load ⟨false, [.sl 65]⟩, [(.t 82)], [18], some (74, true)⟩,
    ⟨some 84, .mv, [(.t 4)], [10], some (74, true)⟩,
    ⟨some 85, .idxA 65, [(.t 83), (.t 84)], [19, 20], some (74, true)⟩,
    ⟨some 86, .load vk4, [(.t 85)], [21], some (74, true)⟩,
    ⟨some 87, .call [8], [(.c (D.fn 22 [])), (.t 86)], [17, 22], some (74, true)⟩,
    ⟨some 88, .call [9], [(.c (D.fn 19 [])), (.t 81), (.t 87)], [23], some (74, true)⟩,
    ⟨some 89, .not, [(.t 88)], [24], some (74, true)⟩,
    ⟨some 90, .pick, [(.t 74), (.t 89), (.c (D.bool false))], [25], some (71, false)⟩,
    o 91 (.pick) [(.t 71), (.c (D.bool true)), (.t 90)] [26]])
  (.cond (.t 91) (.seq (.region false [
    o 2 (.mv) [(.c (D.int .i64 8))] []])
  (.ret)) (.skip))))
  (.region false [
    o 62 (.mv) [(.t 4)] [],
    o 63 (.bin .add) [(.t 62), (.c (D.int .i64 1))] [],
    o 4 (.mv) [(.t 63)] []]))))))
  (.seq (.seq (.region false [
    o 5 (.mv) [(.c (D.int .i64 1))] []])
  (.block 4 (.loop ⟨[1], [(5, .p ⟨false, [.int .i64]⟩)], [(1, .v [.p (.sl 53), .p (.sl 65), .p (.sl 51), .p (.sl 93), .p (.sl 81), .p (.sl 100)])]⟩ (.seq (.seq (.region false [
    o 92 (.mv) [(.t 5)] [],
    o 93 (.fld 2) [(.t 1)] [],
    o 94 (.load ⟨false, [.sl 51]⟩) [(.t 93)] [],
    o 95 (.len) [(.t 94)] [],
    o 96 (.bin .lss) [(.t 92), (.t 95)] []])
  (.cond (.t 96) (.skip) (.exit 4)))
  (.seq (.block 5 (.seq (.region true [
    o 99 (.fld 2) [(.t 1)] [],
    o 100 (.load ⟨false, [.sl 51]⟩) [(.t 99)] [0],
    o 101 (.mv) [(.t 5)] [],
    o 102 (.bin .sub) [(.t 101), (.c (D.int .i64 1))] [2],
    o 103 (.idxA 51) [(.t 100), (.t 102)] [1, 3],
    o 104 (.load ⟨false, [.int .u32]⟩) [(.t 103)] [4],
    o 105 (.fld 2) [(.t 1)] [],
    o 106 (.load ⟨false, [.sl 51]⟩) [(.t 105)] [6],
    o 107 (.mv) [(.t 5)] [],
    o 108 (.idxA 51) [(.t 106), (.t 107)] [7, 8],
    o 109 (.load ⟨false, [.int .u32]⟩) [(.t 108)] [9],
    o 110 (.bin .geq) [(.t 104), (.t 109)] [5, 10]])
  (.cond (.t 110) (.seq (.region false [
    o 2 (.mv) [(.c (D.int .i64 8))] []])
  (.ret)) (.skip))))
  (.region false [
    o 97 (.mv) [(.t 5)] [],
    o 98 (.bin .add) [(.t 97), (.c (D.int .i64 1))] [],
    o 5 (.mv) [(.t 98)] []]))))))
  (.seq (.region false [
    o 111 (.fld 3) [(.t 1)] [],
    o 112 (.load ⟨true, [.sl 93, .sl 81, .sl 100]⟩) [(.t 111)] [],
    o 113 (.call [10]) [(.c (D.fn 23 [])), (.t 112)] [],
    o 2 (.mv) [(.t 113)] []])
  (.ret))))))⟩

def c_gatepathref34_SamePath : DFun := ⟨38, 4, [.p, .p], [.p ⟨false, [.bool]⟩], [.t 4],
  .seq (.region false [
    o 2 (.box 2) [(.t 0)] [],
    o 3 (.box 3) [(.t 1)] [],
    o 4 (.mv) [(.c (D.bool false))] []])
  (.seq (.seq (.region false [
    o 6 (.fld 0) [(.t 2)] [],
    o 7 (.load ⟨false, [.int .u32]⟩) [(.t 6)] [],
    o 8 (.fld 0) [(.t 3)] [],
    o 9 (.load ⟨false, [.int .u32]⟩) [(.t 8)] [],
    o 10 (.bin .neq) [(.t 7), (.t 9)] [],
    o 11 (.mv) [(.t 10)] [],
    ⟨some 12, .fld 1, [(.t 2)], [], some (11, false)⟩,
    ⟨some 13, .load ⟨false, [.sl 51]⟩, [(.t 12)], [], some (11, false)⟩,
    ⟨some 14, .len, [(.t 13)], [], some (11, false)⟩,
    ⟨some 15, .fld 1, [(.t 3)], [], some (11, false)⟩,
    ⟨some 16, .load ⟨false, [.sl 51]⟩, [(.t 15)], [], some (11, false)⟩,
    ⟨some 17, .len, [(.t 16)], [], some (11, false)⟩,
    ⟨some 18, .bin .neq, [(.t 14), (.t 17)], [], some (11, false)⟩,
    o 19 (.pick) [(.t 11), (.c (D.bool true)), (.t 18)] []])
  (.cond (.t 19) (.seq (.region false [
    o 4 (.mv) [(.c (D.bool false))] []])
  (.ret)) (.skip)))
  (.seq (.seq (.region false [
    o 5 (.mv) [(.c (D.int .i64 0))] []])
  (.block 0 (.loop ⟨[2, 3], [(5, .p ⟨false, [.int .i64]⟩)], [(2, .v [.p (.int .u32), .p (.sl 51)]), (3, .v [.p (.int .u32), .p (.sl 51)])]⟩ (.seq (.seq (.region false [
    o 20 (.mv) [(.t 5)] [],
    o 21 (.fld 1) [(.t 2)] [],
    o 22 (.load ⟨false, [.sl 51]⟩) [(.t 21)] [],
    o 23 (.len) [(.t 22)] [],
    o 24 (.bin .lss) [(.t 20), (.t 23)] []])
  (.cond (.t 24) (.skip) (.exit 0)))
  (.seq (.block 1 (.seq (.region true [
    o 27 (.fld 1) [(.t 2)] [],
    o 28 (.load ⟨false, [.sl 51]⟩) [(.t 27)] [0],
    o 29 (.mv) [(.t 5)] [],
    o 30 (.idxA 51) [(.t 28), (.t 29)] [1, 2],
    o 31 (.load ⟨false, [.int .u32]⟩) [(.t 30)] [3],
    o 32 (.fld 1) [(.t 3)] [],
    o 33 (.load ⟨false, [.sl 51]⟩) [(.t 32)] [5],
    o 34 (.mv) [(.t 5)] [],
    o 35 (.idxA 51) [(.t 33), (.t 34)] [6, 7],
    o 36 (.load ⟨false, [.int .u32]⟩) [(.t 35)] [8],
    o 37 (.bin .neq) [(.t 31), (.t 36)] [4, 9]])
  (.cond (.t 37) (.seq (.region false [
    o 4 (.mv) [(.c (D.bool false))] []])
  (.ret)) (.skip))))
  (.region false [
    o 25 (.mv) [(.t 5)] [],
    o 26 (.bin .add) [(.t 25), (.c (D.int .i64 1))] [],
    o 5 (.mv) [(.t 26)] []]))))))
  (.seq (.region false [
    o 4 (.mv) [(.c (D.bool true))] []])
  (.ret))))⟩

def c_gatepathref34_Same : DFun := ⟨88, 5, [.p, .p], [.p ⟨false, [.bool]⟩], [.t 4],
  .seq (.region false [
    o 2 (.box 2) [(.t 0)] [],
    o 3 (.box 3) [(.t 1)] [],
    o 4 (.mv) [(.c (D.bool false))] []])
  (.seq (.seq (.region false [
    o 8 (.fld 0) [(.t 2)] [],
    o 9 (.load ⟨false, [.sl 93]⟩) [(.t 8)] [],
    o 10 (.len) [(.t 9)] [],
    o 11 (.fld 0) [(.t 3)] [],
    o 12 (.load ⟨false, [.sl 93]⟩) [(.t 11)] [],
    o 13 (.len) [(.t 12)] [],
    o 14 (.bin .neq) [(.t 10), (.t 13)] [],
    o 15 (.mv) [(.t 14)] [],
    ⟨some 16, .fld 1, [(.t 2)], [], some (15, false)⟩,
    ⟨some 17, .load ⟨false, [.sl 81]⟩, [(.t 16)], [], some (15, false)⟩,
    ⟨some 18, .len, [(.t 17)], [], some (15, false)⟩,
    ⟨some 19, .fld 1, [(.t 3)], [], some (15, false)⟩,
    ⟨some 20, .load ⟨false, [.sl 81]⟩, [(.t 19)], [], some (15, false)⟩,
    ⟨some 21, .len, [(.t 20)], [], some (15, false)⟩,
    ⟨some 22, .bin .neq, [(.t 18), (.t 21)], [], some (15, false)⟩,
    o 23 (.pick) [(.t 15), (.c (D.bool true)), (.t 22)] [],
    o 24 (.mv) [(.t 23)] [],
    ⟨some 25, .fld 2, [(.t 2)], [], some (24, false)⟩,
    ⟨some 26, .load ⟨false, [.sl 100]⟩, [(.t 25)], [], some (24, false)⟩,
    ⟨some 27, .len, [(.t 26)], [], some (24, false)⟩,
    ⟨some 28, .fld 2, [(.t 3)], [], some (24, false)⟩,
    ⟨some 29, .load ⟨false, [.sl 100]⟩, [(.t 28)], [], some (24, false)⟩,
    ⟨some 30, .len, [(.t 29)], [], some (24, false)⟩,
    ⟨some 31, .bin .neq, [(.t 27), (.t 30)], [], some (24, false)⟩,
    o 32 (.pick) [(.t 24), (.c (D.bool true)), (.t 31)] []])
  (.cond (.t 32) (.seq (.region false [
    o 4 (.mv) [(.c (D.bool false))] []])
  (.ret)) (.skip)))
  (.seq (.seq (.region false [
    o 5 (.mv) [(.c (D.int .i64 0))] []])
  (.block 0 (.loop ⟨[2, 3], [(5, .p ⟨false, [.int .i64]⟩)], [(2, .v [.p (.sl 93), .p (.sl 81), .p (.sl 100)]), (3, .v [.p (.sl 93), .p (.sl 81), .p (.sl 100)])]⟩ (.seq (.seq (.region false [
    o 33 (.mv) [(.t 5)] [],
    o 34 (.fld 0) [(.t 2)] [],
    o 35 (.load ⟨false, [.sl 93]⟩) [(.t 34)] [],
    o 36 (.len) [(.t 35)] [],
    o 37 (.bin .lss) [(.t 33), (.t 36)] []])
  (.cond (.t 37) (.skip) (.exit 0)))
  (.seq (.block 1 (.seq (.region true [
    o 40 (.fld 0) [(.t 2)] [],
    o 41 (.load ⟨false, [.sl 93]⟩) [(.t 40)] [0],
    o 42 (.mv) [(.t 5)] [],
    o 43 (.idxA 93) [(.t 41), (.t 42)] [1, 2],
    o 44 (.load vk5) [(.t 43)] [3],
    o 45 (.fld 0) [(.t 3)] [],
    o 46 (.load ⟨false, [.sl 93]⟩) [(.t 45)] [5],
    o 47 (.mv) [(.t 5)] [],
    o 48 (.idxA 93) [(.t 46), (.t 47)] [6, 7],
    o 49 (.load vk5) [(.t 48)] [8],
    o 50 (.eqv true vk5) [(.t 44), (.t 49)] [4, 9]])
  (.cond (.t 50) (.seq (.region false [
    o 4 (.mv) [(.c (D.bool false))] []])
  (.ret)) (.skip))))
  (.region false [
    o 38 (.mv) [(.t 5)] [],
    o 39 (.bin .add) [(.t 38), (.c (D.int .i64 1))] [],
    o 5 (.mv) [(.t 39)] []]))))))
  (.seq (.seq (.region false [
    o 6 (.mv) [(.c (D.int .i64 0))] []])
  (.block 2 (.loop ⟨[2, 3], [(6, .p ⟨false, [.int .i64]⟩)], [(2, .v [.p (.sl 93), .p (.sl 81), .p (.sl 100)]), (3, .v [.p (.sl 93), .p (.sl 81), .p (.sl 100)])]⟩ (.seq (.seq (.region false [
    o 51 (.mv) [(.t 6)] [],
    o 52 (.fld 1) [(.t 2)] [],
    o 53 (.load ⟨false, [.sl 81]⟩) [(.t 52)] [],
    o 54 (.len) [(.t 53)] [],
    o 55 (.bin .lss) [(.t 51), (.t 54)] []])
  (.cond (.t 55) (.skip) (.exit 2)))
  (.seq (.block 3 (.seq (.region true [
    o 58 (.fld 1) [(.t 2)] [],
    o 59 (.load ⟨false, [.sl 81]⟩) [(.t 58)] [0],
    o 60 (.mv) [(.t 6)] [],
    o 61 (.idxA 81) [(.t 59), (.t 60)] [1, 2],
    o 62 (.load ⟨true, [.int .u32, .sl 51]⟩) [(.t 61)] [3],
    o 63 (.fld 1) [(.t 3)] [],
    o 64 (.load ⟨false, [.sl 81]⟩) [(.t 63)] [5],
    o 65 (.mv) [(.t 6)] [],
    o 66 (.idxA 81) [(.t 64), (.t 65)] [6, 7],
    o 67 (.load ⟨true, [.int .u32, .sl 51]⟩) [(.t 66)] [8],
    o 68 (.call [4]) [(.c (D.fn 56 [])), (.t 62), (.t 67)] [4, 9],
    o 69 (.not) [(.t 68)] [10]])
  (.cond (.t 69) (.seq (.region false [
    o 4 (.mv) [(.c (D.bool false))] []])
  (.ret)) (.skip))))
  (.region false [
    o 56 (.mv) [(.t 6)] [],
    o 57 (.bin .add) [(.t 56), (.c (D.int .i64 1))] [],
    o 6 (.mv) [(.t 57)] []]))))))
  (.seq (.seq (.region false [
    o 7 (.mv) [(.c (D.int .i64 0))] []])
  (.block 4 (.loop ⟨[2, 3], [(7, .p ⟨false, [.int .i64]⟩)], [(2, .v [.p (.sl 93), .p (.sl 81), .p (.sl 100)]), (3, .v [.p (.sl 93), .p (.sl 81), .p (.sl 100)])]⟩ (.seq (.seq (.region false [
    o 70 (.mv) [(.t 7)] [],
    o 71 (.fld 2) [(.t 2)] [],
    o 72 (.load ⟨false, [.sl 100]⟩) [(.t 71)] [],
    o 73 (.len) [(.t 72)] [],
    o 74 (.bin .lss) [(.t 70), (.t 73)] []])
  (.cond (.t 74) (.skip) (.exit 4)))
  (.seq (.block 5 (.seq (.region true [
    o 77 (.fld 2) [(.t 2)] [],
    o 78 (.load ⟨false, [.sl 100]⟩) [(.t 77)] [0],
    o 79 (.mv) [(.t 7)] [],
    o 80 (.idxA 100) [(.t 78), (.t 79)] [1, 2],
    o 81 (.load vk6) [(.t 80)] [3],
    o 82 (.fld 2) [(.t 3)] [],
    o 83 (.load ⟨false, [.sl 100]⟩) [(.t 82)] [5],
    o 84 (.mv) [(.t 7)] [],
    o 85 (.idxA 100) [(.t 83), (.t 84)] [6, 7],
    o 86 (.load vk6) [(.t 85)] [8],
    o 87 (.eqv true vk6) [(.t 81), (.t 86)] [4, 9]])
  (.cond (.t 87) (.seq (.region false [
    o 4 (.mv) [(.c (D.bool false))] []])
  (.ret)) (.skip))))
  (.region false [
    o 75 (.mv) [(.t 7)] [],
    o 76 (.bin .add) [(.t 75), (.c (D.int .i64 1))] [],
    o 7 (.mv) [(.t 76)] []]))))))
  (.seq (.region false [
    o 4 (.mv) [(.c (D.bool true))] []])
  (.ret))))))⟩

def c_gatepathref43_Same : DFun := ⟨92, 5, [.p, .p], [.p ⟨false, [.bool]⟩], [.t 4],
  .seq (.region false [
    o 2 (.box 2) [(.t 0)] [],
    o 3 (.box 3) [(.t 1)] [],
    o 4 (.mv) [(.c (D.bool false))] []])
  (.seq (.seq (.region false [
    o 8 (.fld 0) [(.t 2)] [],
    o 9 (.load ⟨false, [.sl 53]⟩) [(.t 8)] [],
    o 10 (.len) [(.t 9)] [],
    o 11 (.fld 0) [(.t 3)] [],
    o 12 (.load ⟨false, [.sl 53]⟩) [(.t 11)] [],
    o 13 (.len) [(.t 12)] [],
    o 14 (.bin .neq) [(.t 10), (.t 13)] [],
    o 15 (.mv) [(.t 14)] [],
    ⟨some 16, .fld 1, [(.t 2)], [], some (15, false)⟩,
    ⟨some 17, .load ⟨false, [.sl 65]⟩, [(.t 16)], [], some (15, false)⟩,
    ⟨some 18, .len, [(.t 17)], [], some (15, false)⟩,
    ⟨some 19, .fld 1, [(.t 3)], [], some (15, false)⟩,
    ⟨some 20, .load ⟨false, [.sl 65]⟩, [(.t 19)], [], some (15, false)⟩,
    ⟨some 21, .len, [(.t 20)], [], some (15, false)⟩,
    ⟨some 22, .bin .neq, [(.t 18), (.t 21)], [], some (15, false)⟩,
    o 23 (.pick) [(.t 15), (.c (D.bool true)), (.t 22)] [],
    o 24 (.mv) [(.t 23)] [],
    ⟨some 25, .fld 2, [(.t 2)], [], some (24, false)⟩,
    ⟨some 26, .load ⟨false, [.sl 51]⟩, [(.t 25)], [], some (24, false)⟩,
    ⟨some 27, .len, [(.t 26)], [], some (24, false)⟩,
    ⟨some 28, .fld 2, [(.t 3)], [], some (24, false)⟩,
    ⟨some 29, .load ⟨false, [.sl 51]⟩, [(.t 28)], [], some (24, false)⟩,
    ⟨some 30, .len, [(.t 29)], [], some (24, false)⟩,
    ⟨some 31, .bin .neq, [(.t 27), (.t 30)], [], some (24, false)⟩,
    o 32 (.pick) [(.t 24), (.c (D.bool true)), (.t 31)] []])
  (.cond (.t 32) (.seq (.region false [
    o 4 (.mv) [(.c (D.bool false))] []])
  (.ret)) (.skip)))
  (.seq (.seq (.region false [
    o 5 (.mv) [(.c (D.int .i64 0))] []])
  (.block 0 (.loop ⟨[2, 3], [(5, .p ⟨false, [.int .i64]⟩)], [(2, .v [.p (.sl 53), .p (.sl 65), .p (.sl 51), .p (.sl 93), .p (.sl 81), .p (.sl 100)]), (3, .v [.p (.sl 53), .p (.sl 65), .p (.sl 51), .p (.sl 93), .p (.sl 81), .p (.sl 100)])]⟩ (.seq (.seq (.region false [
    o 33 (.mv) [(.t 5)] [],
    o 34 (.fld 0) [(.t 2)] [],
    o 35 (.load ⟨false, [.sl 53]⟩) [(.t 34)] [],
    o 36 (.len) [(.t 35)] [],
    o 37 (.bin .lss) [(.t 33), (.t 36)] []])
  (.cond (.t 37) (.skip) (.exit 0)))
  (.seq (.block 1 (.seq (.region true [
    o 40 (.fld 0) [(.t 2)] [],
    o 41 (.load ⟨false, [.sl 53]⟩) [(.t 40)] [0],
    o 42 (.mv) [(.t 5)] [],
    o 43 (.idxA 53) [(.t 41), (.t 42)] [1, 2],
    o 44 (.load vk2) [(.t 43)] [3],
    o 45 (.fld 0) [(.t 3)] [],
    o 46 (.load ⟨false, [.sl 53]⟩) [(.t 45)] [5],
    o 47 (.mv) [(.t 5)] [],
    o 48 (.idxA 53) [(.t 46), (.t 47)] [6, 7],
    o 49 (.load vk2) [(.t 48)] [8],
    o 50 (.eqv true vk2) [(.t 44), (.t 49)] [4, 9]])
  (.cond (.t 50) (.seq (.region false [
    o 4 (.mv) [(.c (D.bool false))] []])
  (.ret)) (.skip))))
  (.region false [
    o 38 (.mv) [(.t 5)] [],
    o 39 (.bin .add) [(.t 38), (.c (D.int .i64 1))] [],
    o 5 (.mv) [(.t 39)] []]))))))
  (.seq (.seq (.region false [
    o 6 (.mv) [(.c (D.int .i64 0))] []])
  (.block 2 (.loop ⟨[2, 3], [(6, .p ⟨false, [.int .i64]⟩)], [(2, .v [.p (.sl 53), .p (.sl 65), .p (.sl 51), .p (.sl 93), .p (.sl 81), .p (.sl 100)]), (3, .v [.p (.sl 53), .p (.sl 65), .p (.sl 51), .p (.sl 93), .p (.sl 81), .p (.sl 100)])]⟩ (.seq (.seq (.region false [
    o 51 (.mv) [(.t 6)] [],
    o 52 (.fld 1) [(.t 2)] [],
    o 53 (.load ⟨false, [.sl 65]⟩) [(.t 52)] [],
    o 54 (.len) [(.t 53)] [],
    o 55 (.bin .lss) [(.t 51), (.t 54)] []])
  (.cond (.t 55) (.skip) (.exit 2)))
  (.seq (.block 3 (.seq (.region true [
    o 58 (.fld 1) [(.t 2)] [],
    o 59 (.load ⟨false, [.sl 65]⟩) [(.t 58)] [0],
    o 60 (.mv) [(.t 6)] [],
    o 61 (.idxA 65) [(.t 59), (.t 60)] [1, 2],
    o 62 (.load vk4) [(.t 61)] [3],
    o 63 (.fld 1) [(.t 3)] [],
    o 64 (.load ⟨false, [.sl 65]⟩) [(.t 63)] [5],
    o 65 (.mv) [(.t 6)] [],
    o 66 (.idxA 65) [(.t 64), (.t 65)] [6, 7],
    o 67 (.load vk4) [(.t 66)] [8],
    o 68 (.eqv true vk4) [(.t 62), (.t 67)] [4, 9]])
  (.cond (.t 68) (.seq (.region false [
    o 4 (.mv) [(.c (D.bool false))] []])
  (.ret)) (.skip))))
  (.region false [
    o 56 (.mv) [(.t 6)] [],
    o 57 (.bin .add) [(.t 56), (.c (D.int .i64 1))] [],
    o 6 (.mv) [(.t 57)] []]))))))
  (.seq (.seq (.region false [
    o 7 (.mv) [(.c (D.int .i64 0))] []])
  (.block 4 (.loop ⟨[2, 3], [(7, .p ⟨false, [.int .i64]⟩)], [(2, .v [.p (.sl 53), .p (.sl 65), .p (.sl 51), .p (.sl 93), .p (.sl 81), .p (.sl 100)]), (3, .v [.p (.sl 53), .p (.sl 65), .p (.sl 51), .p (.sl 93), .p (.sl 81), .p (.sl 100)])]⟩ (.seq (.seq (.region false [
    o 69 (.mv) [(.t 7)] [],
    o 70 (.fld 2) [(.t 2)] [],
    o 71 (.load ⟨false, [.sl 51]⟩) [(.t 70)] [],
    o 72 (.len) [(.t 71)] [],
    o 73 (.bin .lss) [(.t 69), (.t 72)] []])
  (.cond (.t 73) (.skip) (.exit 4)))
  (.seq (.block 5 (.seq (.region true [
    o 76 (.fld 2) [(.t 2)] [],
    o 77 (.load ⟨false, [.sl 51]⟩) [(.t 76)] [0],
    o 78 (.mv) [(.t 7)] [],
    o 79 (.idxA 51) [(.t 77), (.t 78)] [1, 2],
    o 80 (.load ⟨false, [.int .u32]⟩) [(.t 79)] [3],
    o 81 (.fld 2) [(.t 3)] [],
    o 82 (.load ⟨false, [.sl 51]⟩) [(.t 81)] [5],
    o 83 (.mv) [(.t 7)] [],
    o 84 (.idxA 51) [(.t 82), (.t 83)] [6, 7],
    o 85 (.load ⟨false, [.int .u32]⟩) [(.t 84)] [8],
    o 86 (.bin .neq) [(.t 80), (.t 85)] [4, 9]])
  (.cond (.t 86) (.seq (.region false [
    o 4 (.mv) [(.c (D.bool false))] []])
  (.ret)) (.skip))))
  (.region false [
    o 74 (.mv) [(.t 7)] [],
    o 75 (.bin .add) [(.t 74), (.c (D.int .i64 1))] [],
    o 7 (.mv) [(.t 75)] []]))))))
  (.seq (.region false [
    o 87 (.fld 3) [(.t 2)] [],
    o 88 (.load ⟨true, [.sl 93, .sl 81, .sl 100]⟩) [(.t 87)] [],
    o 89 (.fld 3) [(.t 3)] [],
    o 90 (.load ⟨true, [.sl 93, .sl 81, .sl 100]⟩) [(.t 89)] [],
    o 91 (.call [4]) [(.c (D.fn 24 [])), (.t 88), (.t 90)] [],
    o 4 (.mv) [(.t 91)] []])
  (.ret))))))⟩

def c_gatepathlaw43_LocalChecks : DFun := ⟨18, 8, [.p], [.p ⟨false, [.bool]⟩], [.t 2],
  .seq (.region false [
    o 1 (.box 1) [(.t 0)] [],
    o 2 (.mv) [(.c (D.bool false))] []])
  (.seq (.seq (.region false [
    o 4 (.load vk0) [(.t 1)] [],
    o 5 (.call [3]) [(.c (D.fn 4 [])), (.t 4)] []])
  (.cond (.t 5) (.seq (.region false [
    o 2 (.mv) [(.c (D.bool true))] []])
  (.ret)) (.skip)))
  (.seq (.region false [
    o 6 (.load vk0) [(.t 1)] [],
    o 7 (.call [4]) [(.c (D.fn 5 [])), (.t 6)] [],
    o 3 (.alloc 2 zs1) [] [],
    ⟨none, .store vk0, [(.t 3), (.t 7)], [], none⟩])
  (.seq (.region true [
    o 8 (.load vk0) [(.t 1)] [],
    o 9 (.call [5]) [(.c (D.fn 6 [])), (.t 8)] [0],
    o 10 (.load vk0) [(.t 1)] [],
    o 11 (.call [6]) [(.c (D.fn 7 [])), (.t 10)] [1, 2],
    o 12 (.bin .eql) [(.t 9), (.t 11)] [3],
    o 13 (.mv) [(.t 12)] [4],
    ⟨some 14, .load vk0, [(.t 1)], [5], some (13, true)⟩,
    ⟨some 15, .load vk0, [(.t 3)], [5], some (13, true)⟩,
    ⟨some 16, .call [7], [(.c (D.fn 8 [])), (.t 14), (.t 15)], [6, 7], some (13, true)⟩,
    o 17 (.pick) [(.t 13), (.t 16), (.c (D.bool false))] [8],
    o 2 (.mv) [(.t 17)] [9]])
  (.ret))))⟩

def tabL : List (Nat × Entry) := [(34, .spec ⟨[.p, .p], [.p ⟨false, [.int .i64]⟩]⟩ (bcmpSpec 5)),
  (25, .code c_gatepathref34_great),
  (9, .code c_gatepathref34_Great),
  (4, .code c_gatepathref43_Great),
  (10, .code c_gatepathref34_Twin),
  (5, .code c_gatepathref43_Twin),
  (27, .code c_cmp_Or),
  (28, .code c_local_truth),
  (65, .code c_cmp_isNaN_65),
  (35, .code c_cmp_Compare_35),
  (73, .code c_cmp_isNaN_73),
  (57, .code c_cmp_Compare_57),
  (77, .code c_cmp_isNaN_77),
  (74, .code c_cmp_Compare_74),
  (58, .code c_number_Compare),
  (29, .code c_local_prefixes),
  (59, .code c_cmp_isNaN_59),
  (30, .code c_cmp_Compare_30),
  (26, .code c_local_byPrefix_1),
  (60, .code c_number_width),
  (61, .code c_number_CheckAddr),
  (62, .code c_number_and),
  (63, .code c_number_mask),
  (32, .code c_number_Check),
  (31, .code c_local_byPrefix_2),
  (11, .code c_local_byPrefix),
  (12, .code c_api_LocalPrefix_check),
  (33, .code c_local_byKey_1),
  (36, .code c_local_byKey_2),
  (13, .code c_local_byKey),
  (14, .code c_api_LocalKey_check),
  (37, .code c_local_byCustomer_1),
  (15, .code c_local_byCustomer),
  (16, .code c_local_order_uint32_check),
  (66, .code c_slices_IndexFunc),
  (38, .code c_slices_ContainsFunc),
  (39, .code c_diff_Check_1),
  (40, .code c_diff_rising_40),
  (41, .code c_diff_byOrigin),
  (42, .code c_diff_goodOrigin),
  (43, .code c_diff_rising_43),
  (44, .code c_diff_byPath),
  (78, .code c_slices_Index),
  (75, .code c_slices_Contains),
  (67, .code c_aspa_Check),
  (45, .code c_diff_goodPath),
  (46, .code c_diff_rising_46),
  (47, .code c_diff_byKey),
  (48, .code c_diff_goodKey),
  (17, .code c_diff_Check),
  (6, .code c_local_Check),
  (68, .code c_gatepathref01_Width),
  (69, .code c_gatepathref01_CheckAddr),
  (76, .code c_gatepathref01_power),
  (70, .code c_gatepathref01_Bits),
  (49, .code c_gatepathref01_Check),
  (18, .code c_gatepathref43_goodPrefix),
  (19, .code c_gatepathref43_less),
  (50, .code c_gatepathref43_one),
  (20, .code c_gatepathref43_prefixKey),
  (21, .code c_gatepathref43_goodKey),
  (22, .code c_gatepathref43_keyKey),
  (51, .code c_gatepathref34_GoodOrigin),
  (71, .code c_gatepathref01_Compare),
  (52, .code c_gatepathref34_BeforeOrigin),
  (72, .code c_gatepathref15_Check),
  (53, .code c_gatepathref34_GoodPath),
  (54, .code c_gatepathref34_BeforePath),
  (55, .code c_gatepathref34_BeforeKey),
  (23, .code c_gatepathref34_Check),
  (7, .code c_gatepathref43_Check),
  (56, .code c_gatepathref34_SamePath),
  (24, .code c_gatepathref34_Same),
  (8, .code c_gatepathref43_Same),
  (3, .code c_gatepathlaw43_LocalChecks)]
def tab (g : Nat) : Option Entry := tabL.lookup g

end Go.Proofs.Ytapfhcnigmighaa.Own
