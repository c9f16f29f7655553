import Derived.Test.YtapfhcnigmighaaGreatG5
namespace Go.Proofs.YtapfhcnigmighaaGreat.Own
open Go Go.Proofs.YtapfhcnigmighaaGreat.GD
def tyL : List (Nat × Vk) := [(3, ⟨false, [.int .i64]⟩), (5, ⟨false, [.int .u8]⟩), (24, ⟨false, [.sl 70]⟩), (25, ⟨false, [.sl 73]⟩), (26, ⟨false, [.sl 51]⟩), (33, ⟨true, [.sl 70, .sl 73, .sl 51, .sl 58, .sl 84, .sl 64]⟩), (35, ⟨false, [.int .i64]⟩), (51, ⟨false, [.int .u32]⟩), (58, ⟨true, [.int .u32, .int .u8, .int .u64, .int .u64, .int .i64, .int .i64]⟩), (64, ⟨true, [.int .u32, .int .u8, .int .u8, .int .u8, .int .u8, .int .u8, .int .u8, .int .u8, .int .u8, .int .u8, .int .u8, .int .u8, .int .u8, .int .u8, .int .u8, .int .u8, .int .u8, .int .i64]⟩), (70, ⟨true, [.bool, .bool, .int .u8, .int .u64, .int .u64, .int .i64, .int .u32]⟩), (73, ⟨true, [.bool, .bool, .int .u32, .int .u8, .int .u8, .int .u8, .int .u8, .int .u8, .int .u8, .int .u8, .int .u8, .int .u8, .int .u8, .int .u8, .int .u8, .int .u8, .int .u8, .int .u8, .int .u8, .int .i64]⟩), (84, ⟨true, [.int .u32, .sl 51]⟩)]
def ty (e : Nat) : Option Vk := tyL.lookup e
def vk0 : Vk := ⟨true, [.int .u32, .int .u8, .int .u64, .int .u64, .int .i64, .int .i64]⟩
def vk1 : Vk := ⟨true, [.int .u8, .int .u64, .int .u64, .int .i64]⟩
def vk2 : Vk := ⟨true, [.int .u32, .int .u8, .int .u8, .int .u8, .int .u8, .int .u8, .int .u8, .int .u8, .int .u8, .int .u8, .int .u8, .int .u8, .int .u8, .int .u8, .int .u8, .int .u8, .int .u8, .int .i64]⟩
def vk3 : Vk := ⟨true, [.int .u8, .int .u8, .int .u8, .int .u8, .int .u8, .int .u8, .int .u8, .int .u8, .int .u8, .int .u8, .int .u8, .int .u8, .int .u8, .int .u8, .int .u8, .int .u8, .int .i64]⟩
def vk4 : Vk := ⟨true, [.bool, .bool, .int .u8, .int .u64, .int .u64, .int .i64, .int .u32]⟩
def vk5 : Vk := ⟨true, [.bool, .bool, .int .u32, .int .u8, .int .u8, .int .u8, .int .u8, .int .u8, .int .u8, .int .u8, .int .u8, .int .u8, .int .u8, .int .u8, .int .u8, .int .u8, .int .u8, .int .u8, .int .u8, .int .i64]⟩
def vk6 : Vk := ⟨true, [.sl 70, .sl 73, .sl 51, .sl 58, .sl 84, .sl 64]⟩
def zs0 : List D := [(D.int .u32 0), (D.int .u8 0), (D.int .u64 0), (D.int .u64 0), (D.int .i64 0), (D.int .i64 0)]
def zs1 : List D := [(D.int .u32 0), (D.int .u8 0), (D.int .u8 0), (D.int .u8 0), (D.int .u8 0), (D.int .u8 0), (D.int .u8 0), (D.int .u8 0), (D.int .u8 0), (D.int .u8 0), (D.int .u8 0), (D.int .u8 0), (D.int .u8 0), (D.int .u8 0), (D.int .u8 0), (D.int .u8 0), (D.int .u8 0), (D.int .i64 0)]
def zs2 : List D := [(D.int .u8 0), (D.int .u64 0), (D.int .u64 0), (D.int .i64 0)]
def zs3 : List D := [(D.int .u8 0), (D.int .u8 0), (D.int .u8 0), (D.int .u8 0), (D.int .u8 0), (D.int .u8 0), (D.int .u8 0), (D.int .u8 0), (D.int .u8 0), (D.int .u8 0), (D.int .u8 0), (D.int .u8 0), (D.int .u8 0), (D.int .u8 0), (D.int .u8 0), (D.int .u8 0), (D.int .i64 0)]
def zs4 : List D := [(D.bool false), (D.bool false), (D.int .u8 0), (D.int .u64 0), (D.int .u64 0), (D.int .i64 0), (D.int .u32 0)]
def zs5 : List D := [(D.bool false), (D.bool false), (D.int .u32 0), (D.int .u8 0), (D.int .u8 0), (D.int .u8 0), (D.int .u8 0), (D.int .u8 0), (D.int .u8 0), (D.int .u8 0), (D.int .u8 0), (D.int .u8 0), (D.int .u8 0), (D.int .u8 0), (D.int .u8 0), (D.int .u8 0), (D.int .u8 0), (D.int .u8 0), (D.int .u8 0), (D.int .i64 0)]
def zs6 : List D := [(D.zs 58 true), (D.zs 84 true), (D.zs 64 true)]
def zs7 : List D := [(D.zs 70 true), (D.zs 73 true), (D.zs 51 true), (D.zs 58 true), (D.zs 84 true), (D.zs 64 true)]
abbrev CF := FuncId → List D → Option (List D)
abbrev LF := List D → Option (List D)
abbrev L := List D
abbrev OO := Option (List D)
def o (d : Nat) (p : DOp) (as : List Opd) (af : List Nat) : DOper := ⟨some d, p, as, af, none⟩
def m (d n : Nat) : DOper := ⟨some d, .mv, [.t n], [], none⟩
def t (d : Nat) (p : DOp) (as af : List Nat) : DOper := ⟨some d, p, as.map .t, af, none⟩
def g (d : Nat) (p : DOp) (as af : List Nat) (c : Nat) (b : Bool) : DOper := ⟨some d, p, as.map .t, af, some (c, b)⟩
def q (a b : DCode) : DCode := .seq a b
def y (d f : Nat) (s as af : List Nat) : DOper := ⟨some d, .call s, .c (.fn f []) :: as.map .t, af, none⟩
def i (d : Nat) (n : Int) : DOper := ⟨some d, .mv, [.c (.int .i64 n)], [], none⟩
def u (d : Nat) (p : DOp) (as : List Nat) : DOper := ⟨some d, p, as.map .t, [], none⟩
def F (l : List DOper) : DCode := .region false l
def T (l : List DOper) : DCode := .region true l
def v0 : Vk := ⟨false, [.int .i64]⟩
def v1 : Vk := ⟨true, [.int .u32, .sl 51]⟩
def v2 : Vk := ⟨false, [.bool]⟩
def v3 : Vk := ⟨false, [.sl 51]⟩
def v4 : Vk := ⟨false, [.int .u64]⟩
def v5 : Vk := ⟨false, [.int .u32]⟩
def v6 : Vk := ⟨false, [.int .u8]⟩
def v7 : Vk := ⟨true, [.int .u64, .int .u64]⟩
def v8 : Vk := ⟨false, [.sl 58]⟩
def v9 : Vk := ⟨false, [.sl 84]⟩
def v10 : Vk := ⟨false, [.sl 64]⟩
def v11 : Vk := ⟨true, [.fn, .fn]⟩
def v12 : Vk := ⟨false, [.fn]⟩
def v13 : Vk := ⟨false, [.sl 70]⟩
def v14 : Vk := ⟨false, [.sl 73]⟩
def v15 : Vk := ⟨true, [.sl 58, .sl 84, .sl 64]⟩
def c_slices_IndexFunc_132 : DFun := ⟨19,3,[.p,.p],[.p v0],[.t 4],
 q (F [
 i 4 0])
 (q (q (F [
 m 6 0,
 u 7 .len [6],
 i 8 0])
 (.block 0 (.loop ⟨[0,1,7],[(8,.p v0)],[]⟩ (q (F [
 u 9 (.bin .lss) [8,7]])
 (q (.cond (.t 9) .skip (.exit 0))
 (q (.block 1 (q (F [
 m 10 8,
 m 5 10])
 (q (F [
 m 11 1,
 m 12 0,
 m 13 5,
 u 14 (.idxA 84) [12,13],
 u 15 (.load v1) [14],
 u 16 (.call [2]) [11,15]])
 (.cond (.t 16) (q (F [
 m 17 5,
 m 4 17])
 .ret) .skip))))
 (F [
 o 18 (.bin .add) [(.t 8),(.c (.int .i64 1))] [],
 m 8 18])))))))
 (q (F [
 i 4 (-1)])
 .ret))⟩
def c_slices_ContainsFunc_72 : DFun := ⟨9,3,[.p,.p],[.p v2],[.t 4],
 q (F [
 o 4 (.mv) [(.c (.bool false))] []])
 (q (F [
 m 5 0,
 m 6 1,
 y 7 132 [2] [5,6] [],
 o 8 (.bin .geq) [(.t 7),(.c (.int .i64 0))] [],
 m 4 8])
 .ret)⟩
def c_diff_Check_1 : DFun := ⟨7,2,[.p],[.p v2],[.t 2],
 q (F [
 u 1 (.box 1) [0],
 o 2 (.mv) [(.c (.bool false))] []])
 (q (F [
 u 3 (.fld 1) [1],
 u 4 (.load v3) [3],
 u 5 .len [4],
 o 6 (.bin .gtr) [(.t 5),(.c (.int .i64 50))] [],
 m 2 6])
 .ret)⟩
def c_diff_rising_74 : DFun := ⟨36,6,[.p,.p,.p],[.p v2],[.t 6],
 q (F [
 o 6 (.mv) [(.c (.bool false))] []])
 (q (q (F [
 m 9 0,
 u 10 .len [9],
 i 11 0])
 (.block 0 (.loop ⟨[0,1,2,9,10],[(11,.p v0)],[]⟩ (q (F [
 u 12 (.bin .lss) [11,10]])
 (q (.cond (.t 12) .skip (.exit 0))
 (q (.block 1 (q (F [
 m 13 11,
 u 14 (.idxA 58) [9,11],
 u 15 (.load vk0) [14],
 u 8 (.alloc 3 zs0) [],
 m 7 13,
 ⟨none,.store vk0,[(.t 8),(.t 15)],[],none⟩])
 (q (T [
 m 16 2,
 u 17 (.load vk0) [8],
 t 18 (.call [4]) [16,17] [0,1],
 t 19 .not [18] [2],
 t 20 .mv [19] [3],
 g 21 (.mv) [7] [4] 20 false,
 ⟨some 22,.bin .gtr,[(.t 21),(.c (.int .i64 0))],[5],some (20,false)⟩,
 g 23 (.mv) [22] [6] 20 false,
 g 24 (.mv) [1] [7] 23 true,
 g 25 (.mv) [0] [7] 23 true,
 g 26 (.mv) [7] [7] 23 true,
 ⟨some 27,.bin .sub,[(.t 26),(.c (.int .i64 1))],[10],some (23,true)⟩,
 g 28 (.idxA 58) [25,27] [9,11] 23 true,
 g 29 (.load vk0) [28] [12] 23 true,
 g 30 (.load vk0) [8] [7] 23 true,
 g 31 (.call [5]) [24,29,30] [8,13,14] 23 true,
 ⟨some 32,.bin .geq,[(.t 31),(.c (.int .i64 0))],[15],some (23,true)⟩,
 ⟨some 33,.pick,[(.t 23),(.t 32),(.c (.bool false))],[16],some (20,false)⟩,
 o 34 (.pick) [(.t 20),(.c (.bool true)),(.t 33)] [17]])
 (.cond (.t 34) (q (F [
 o 6 (.mv) [(.c (.bool false))] []])
 .ret) .skip))))
 (F [
 o 35 (.bin .add) [(.t 11),(.c (.int .i64 1))] [],
 m 11 35])))))))
 (q (F [
 o 6 (.mv) [(.c (.bool true))] []])
 .ret))⟩
def c_cmp_Or_87 : DFun := ⟨18,1,[.p],[.p v0],[.t 2],
 q (F [
 i 2 0])
 (q (F [
 i 3 0])
 (q (q (F [
 m 6 0,
 u 7 .len [6],
 i 8 0])
 (.block 0 (.loop ⟨[3,6,7],[(8,.p v0)],[]⟩ (q (F [
 u 9 (.bin .lss) [8,7]])
 (q (.cond (.t 9) .skip (.exit 0))
 (q (.block 1 (q (F [
 u 10 (.idxA 3) [6,8],
 u 11 (.load v0) [10],
 m 5 11])
 (q (F [
 m 12 5,
 m 13 3,
 u 14 (.bin .neq) [12,13]])
 (.cond (.t 14) (q (F [
 m 15 5,
 m 2 15])
 .ret) .skip))))
 (F [
 o 16 (.bin .add) [(.t 8),(.c (.int .i64 1))] [],
 m 8 16])))))))
 (q (F [
 m 17 3,
 m 2 17])
 .ret)))⟩
def c_cmp_isNaN_136 : DFun := ⟨6,1,[.p],[.p v2],[.t 2],
 q (F [
 o 2 (.mv) [(.c (.bool false))] []])
 (q (F [
 m 3 0,
 m 4 0,
 u 5 (.bin .neq) [3,4],
 m 2 5])
 .ret)⟩
def c_cmp_Compare_90 : DFun := ⟨20,4,[.p,.p],[.p v0],[.t 4],
 q (F [
 i 4 0])
 (q (F [
 m 7 0,
 y 8 136 [2] [7] [],
 m 5 8])
 (q (F [
 m 9 1,
 y 10 136 [3] [9] [],
 m 6 10])
 (q (q (F [
 m 11 5])
 (.cond (.t 11) (q (q (F [
 m 12 6])
 (.cond (.t 12) (q (F [
 i 4 0])
 .ret) .skip))
 (q (F [
 i 4 (-1)])
 .ret)) .skip))
 (q (q (F [
 m 13 6])
 (.cond (.t 13) (q (F [
 i 4 1])
 .ret) .skip))
 (q (q (F [
 m 14 0,
 m 15 1,
 u 16 (.bin .lss) [14,15]])
 (.cond (.t 16) (q (F [
 i 4 (-1)])
 .ret) .skip))
 (q (q (F [
 m 17 0,
 m 18 1,
 u 19 (.bin .gtr) [17,18]])
 (.cond (.t 19) (q (F [
 i 4 1])
 .ret) .skip))
 (q (F [
 i 4 0])
 .ret)))))))⟩
def c_cmp_isNaN_138 : DFun := ⟨6,1,[.p],[.p v2],[.t 2],
 q (F [
 o 2 (.mv) [(.c (.bool false))] []])
 (q (F [
 m 3 0,
 m 4 0,
 u 5 (.bin .neq) [3,4],
 m 2 5])
 .ret)⟩
def c_cmp_Compare_94 : DFun := ⟨20,4,[.p,.p],[.p v0],[.t 4],
 q (F [
 i 4 0])
 (q (F [
 m 7 0,
 y 8 138 [2] [7] [],
 m 5 8])
 (q (F [
 m 9 1,
 y 10 138 [3] [9] [],
 m 6 10])
 (q (q (F [
 m 11 5])
 (.cond (.t 11) (q (q (F [
 m 12 6])
 (.cond (.t 12) (q (F [
 i 4 0])
 .ret) .skip))
 (q (F [
 i 4 (-1)])
 .ret)) .skip))
 (q (q (F [
 m 13 6])
 (.cond (.t 13) (q (F [
 i 4 1])
 .ret) .skip))
 (q (q (F [
 m 14 0,
 m 15 1,
 u 16 (.bin .lss) [14,15]])
 (.cond (.t 16) (q (F [
 i 4 (-1)])
 .ret) .skip))
 (q (q (F [
 m 17 0,
 m 18 1,
 u 19 (.bin .gtr) [17,18]])
 (.cond (.t 19) (q (F [
 i 4 1])
 .ret) .skip))
 (q (F [
 i 4 0])
 .ret)))))))⟩
def c_cmp_isNaN_151 : DFun := ⟨6,1,[.p],[.p v2],[.t 2],
 q (F [
 o 2 (.mv) [(.c (.bool false))] []])
 (q (F [
 m 3 0,
 m 4 0,
 u 5 (.bin .neq) [3,4],
 m 2 5])
 .ret)⟩
def c_cmp_Compare_133 : DFun := ⟨20,4,[.p,.p],[.p v0],[.t 4],
 q (F [
 i 4 0])
 (q (F [
 m 7 0,
 y 8 151 [2] [7] [],
 m 5 8])
 (q (F [
 m 9 1,
 y 10 151 [3] [9] [],
 m 6 10])
 (q (q (F [
 m 11 5])
 (.cond (.t 11) (q (q (F [
 m 12 6])
 (.cond (.t 12) (q (F [
 i 4 0])
 .ret) .skip))
 (q (F [
 i 4 (-1)])
 .ret)) .skip))
 (q (q (F [
 m 13 6])
 (.cond (.t 13) (q (F [
 i 4 1])
 .ret) .skip))
 (q (q (F [
 m 14 0,
 m 15 1,
 u 16 (.bin .lss) [14,15]])
 (.cond (.t 16) (q (F [
 i 4 (-1)])
 .ret) .skip))
 (q (q (F [
 m 17 0,
 m 18 1,
 u 19 (.bin .gtr) [17,18]])
 (.cond (.t 19) (q (F [
 i 4 1])
 .ret) .skip))
 (q (F [
 i 4 0])
 .ret)))))))⟩
def c_cmp_isNaN_159 : DFun := ⟨6,1,[.p],[.p v2],[.t 2],
 q (F [
 o 2 (.mv) [(.c (.bool false))] []])
 (q (F [
 m 3 0,
 m 4 0,
 u 5 (.bin .neq) [3,4],
 m 2 5])
 .ret)⟩
def c_cmp_Compare_152 : DFun := ⟨20,4,[.p,.p],[.p v0],[.t 4],
 q (F [
 i 4 0])
 (q (F [
 m 7 0,
 y 8 159 [2] [7] [],
 m 5 8])
 (q (F [
 m 9 1,
 y 10 159 [3] [9] [],
 m 6 10])
 (q (q (F [
 m 11 5])
 (.cond (.t 11) (q (q (F [
 m 12 6])
 (.cond (.t 12) (q (F [
 i 4 0])
 .ret) .skip))
 (q (F [
 i 4 (-1)])
 .ret)) .skip))
 (q (q (F [
 m 13 6])
 (.cond (.t 13) (q (F [
 i 4 1])
 .ret) .skip))
 (q (q (F [
 m 14 0,
 m 15 1,
 u 16 (.bin .lss) [14,15]])
 (.cond (.t 16) (q (F [
 i 4 (-1)])
 .ret) .skip))
 (q (q (F [
 m 17 0,
 m 18 1,
 u 19 (.bin .gtr) [17,18]])
 (.cond (.t 19) (q (F [
 i 4 1])
 .ret) .skip))
 (q (F [
 i 4 0])
 .ret)))))))⟩
def c_number_Compare : DFun := ⟨19,6,[.p,.p],[.p v0],[.t 4],
 q (F [
 u 2 (.box 2) [0],
 u 3 (.box 3) [1],
 i 4 0])
 (q (q (F [
 u 6 (.fld 0) [2],
 u 7 (.load v4) [6],
 u 8 (.fld 0) [3],
 u 9 (.load v4) [8],
 y 10 152 [4] [7,9] [],
 m 5 10])
 (q (F [
 m 11 5,
 o 12 (.bin .neq) [(.t 11),(.c (.int .i64 0))] []])
 (.cond (.t 12) (q (F [
 m 13 5,
 m 4 13])
 .ret) .skip)))
 (q (F [
 u 14 (.fld 1) [2],
 u 15 (.load v4) [14],
 u 16 (.fld 1) [3],
 u 17 (.load v4) [16],
 y 18 152 [5] [15,17] [],
 m 4 18])
 .ret))⟩
def c_diff_byOrigin : DFun := ⟨38,11,[.p,.p],[.p v0],[.t 4],
 q (F [
 u 2 (.box 2) [0],
 u 3 (.box 3) [1],
 i 4 0])
 (q (T [
 u 5 (.fld 0) [2],
 t 6 (.load v5) [5] [0],
 u 7 (.fld 0) [3],
 t 8 (.load v5) [7] [2],
 y 9 90 [5] [6,8] [1,3],
 u 10 (.fld 1) [2],
 t 11 (.fld 0) [10] [5],
 t 12 (.load v6) [11] [6],
 u 13 (.fld 1) [3],
 t 14 (.fld 0) [13] [8],
 t 15 (.load v6) [14] [9],
 y 16 133 [6] [12,15] [4,7,10],
 u 17 (.fld 1) [2],
 t 18 (.fld 1) [17] [12],
 t 19 (.load v7) [18] [13],
 u 20 (.fld 1) [3],
 t 21 (.fld 1) [20] [15],
 t 22 (.load v7) [21] [16],
 y 23 134 [7] [19,22] [11,14,17],
 u 24 (.fld 1) [2],
 t 25 (.fld 3) [24] [19],
 t 26 (.load v0) [25] [20],
 u 27 (.fld 1) [3],
 t 28 (.fld 3) [27] [22],
 t 29 (.load v0) [28] [23],
 y 30 94 [8] [26,29] [18,21,24],
 u 31 (.fld 5) [2],
 t 32 (.load v0) [31] [26],
 u 33 (.fld 5) [3],
 t 34 (.load v0) [33] [28],
 y 35 94 [9] [32,34] [25,27,29],
 t 36 (.buildSl 4 3) [9,16,23,30,35] [30],
 y 37 87 [10] [36] [31],
 t 4 .mv [37] [32]])
 .ret)⟩
def c_number_and : DFun := ⟨16,5,[.p,.p],[.p v7],[.c 4],
 q (F [
 u 2 (.box 2) [0],
 u 3 (.box 3) [1],
 u 4 (.alloc 4 [(D.int .u64 0),(D.int .u64 0)]) []])
 (q (F [
 u 5 (.fld 0) [2],
 u 6 (.load v4) [5],
 u 7 (.fld 0) [3],
 u 8 (.load v4) [7],
 u 9 (.bin .and) [6,8],
 u 10 (.fld 1) [2],
 u 11 (.load v4) [10],
 u 12 (.fld 1) [3],
 u 13 (.load v4) [12],
 u 14 (.bin .and) [11,13],
 u 15 (.build [(D.int .u64 0),(D.int .u64 0)] [(0,1),(1,1)]) [9,14],
 ⟨none,.store v7,[(.t 4),(.t 15)],[],none⟩])
 .ret)⟩
def c_number_width : DFun := ⟨8,1,[.p],[.p v0],[.t 2],
 q (F [
 i 2 0])
 (q (q (F [
 m 3 0])
 (.block 0 (q (F [
 o 5 (.bin .eql) [(.t 3),(.c (.int .u8 4))] [],
 m 4 5])
 (.cond (.t 4) (q (F [
 i 2 32])
 .ret) (q (F [
 o 7 (.bin .eql) [(.t 3),(.c (.int .u8 6))] [],
 m 6 7])
 (.cond (.t 6) (q (F [
 i 2 128])
 .ret) .skip))))))
 (q (F [
 i 2 0])
 .ret))⟩
def c_number_mask : DFun := ⟨32,5,[.p,.p],[.p v7],[.c 4],
 q (F [
 u 4 (.alloc 2 [(D.int .u64 0),(D.int .u64 0)]) []])
 (q (F [
 m 7 0,
 y 8 130 [4] [7] [],
 m 9 1,
 u 10 (.bin .sub) [8,9],
 m 5 10])
 (q (F [
 o 11 (.build [(D.int .u64 0),(D.int .u64 0)] [(0,1),(1,1)]) [(.c (.int .u64 18446744073709551615)),(.c (.int .u64 18446744073709551615))] [],
 u 6 (.alloc 3 [(D.int .u64 0),(D.int .u64 0)]) [],
 ⟨none,.store v7,[(.t 6),(.t 11)],[],none⟩])
 (q (q (F [
 m 12 5,
 o 13 (.bin .geq) [(.t 12),(.c (.int .i64 64))] []])
 (.cond (.t 13) (F [
 u 14 (.fld 0) [6],
 u 15 (.load v4) [14],
 m 16 5,
 o 17 (.bin .sub) [(.t 16),(.c (.int .i64 64))] [],
 u 18 (.bin .shl) [15,17],
 u 19 (.build [(D.int .u64 0),(D.int .u64 0)] [(0,1)]) [18],
 ⟨none,.store v7,[(.t 6),(.t 19)],[],none⟩]) (F [
 u 20 (.fld 1) [6],
 u 21 (.load v4) [20],
 m 22 5,
 u 23 (.bin .shl) [21,22],
 u 24 (.fld 1) [6],
 ⟨none,.store v4,[(.t 24),(.t 23)],[],none⟩])))
 (q (q (F [
 m 25 0,
 o 26 (.bin .eql) [(.t 25),(.c (.int .u8 4))] []])
 (.cond (.t 26) (F [
 u 27 (.fld 1) [6],
 u 28 (.load v4) [27],
 o 29 (.bin .and) [(.t 28),(.c (.int .u64 4294967295))] [],
 u 30 (.build [(D.int .u64 0),(D.int .u64 0)] [(1,1)]) [29],
 ⟨none,.store v7,[(.t 6),(.t 30)],[],none⟩]) .skip))
 (q (F [
 u 31 (.load v7) [6],
 ⟨none,.store v7,[(.t 4),(.t 31)],[],none⟩])
 .ret)))))⟩
def c_number_CheckAddr : DFun := ⟨21,3,[.p,.p],[.p v2],[.t 4],
 q (F [
 u 3 (.box 2) [1],
 o 4 (.mv) [(.c (.bool false))] []])
 (q (F [
 m 5 0,
 o 6 (.bin .eql) [(.t 5),(.c (.int .u8 6))] [],
 m 7 6,
 g 8 (.mv) [0] [] 7 false,
 ⟨some 9,.bin .eql,[(.t 8),(.c (.int .u8 4))],[],some (7,false)⟩,
 g 10 (.mv) [9] [] 7 false,
 g 11 (.fld 0) [3] [] 10 true,
 g 12 (.load v4) [11] [] 10 true,
 ⟨some 13,.bin .eql,[(.t 12),(.c (.int .u64 0))],[],some (10,true)⟩,
 ⟨some 14,.pick,[(.t 10),(.t 13),(.c (.bool false))],[],some (7,false)⟩,
 g 15 (.mv) [14] [] 7 false,
 g 16 (.fld 1) [3] [] 15 true,
 g 17 (.load v4) [16] [] 15 true,
 ⟨some 18,.bin .lss,[(.t 17),(.c (.int .u64 4294967296))],[],some (15,true)⟩,
 ⟨some 19,.pick,[(.t 15),(.t 18),(.c (.bool false))],[],some (7,false)⟩,
 o 20 (.pick) [(.t 7),(.c (.bool true)),(.t 19)] [],
 m 4 20])
 .ret)⟩
def c_number_Check : DFun := ⟨39,7,[.p],[.p v0],[.t 2],
 q (F [
 u 1 (.box 1) [0],
 i 2 0])
 (q (q (F [
 u 3 (.fld 0) [1],
 u 4 (.load v6) [3],
 y 5 130 [2] [4] [],
 o 6 (.bin .eql) [(.t 5),(.c (.int .i64 0))] []])
 (.cond (.t 6) (q (F [
 i 2 2])
 .ret) .skip))
 (q (q (T [
 u 7 (.fld 0) [1],
 t 8 (.load v6) [7] [0],
 u 9 (.fld 1) [1],
 t 10 (.load v7) [9] [2],
 y 11 131 [3] [8,10] [1,3],
 t 12 .not [11] [4],
 t 13 .mv [12] [5],
 g 14 (.fld 3) [1] [6] 13 false,
 g 15 (.load v0) [14] [7] 13 false,
 ⟨some 16,.bin .lss,[(.t 15),(.c (.int .i64 0))],[8],some (13,false)⟩,
 o 17 (.pick) [(.t 13),(.c (.bool true)),(.t 16)] [9],
 t 18 .mv [17] [10],
 g 19 (.fld 3) [1] [11] 18 false,
 g 20 (.load v0) [19] [12] 18 false,
 g 21 (.fld 0) [1] [11] 18 false,
 g 22 (.load v6) [21] [14] 18 false,
 ⟨some 23,.call [4],[(.c (.fn 130 [])),(.t 22)],[15],some (18,false)⟩,
 g 24 (.bin .gtr) [20,23] [13,16] 18 false,
 o 25 (.pick) [(.t 18),(.c (.bool true)),(.t 24)] [17],
 t 26 .mv [25] [18],
 g 27 (.fld 1) [1] [19] 26 false,
 g 28 (.load v7) [27] [20] 26 false,
 g 29 (.fld 0) [1] [19] 26 false,
 g 30 (.load v6) [29] [22] 26 false,
 g 31 (.fld 3) [1] [19] 26 false,
 g 32 (.load v0) [31] [24] 26 false,
 ⟨some 33,.call [5],[(.c (.fn 71 [])),(.t 30),(.t 32)],[23,25],some (26,false)⟩,
 ⟨some 34,.call [6],[(.c (.fn 70 [])),(.t 28),(.t 33)],[21,26],some (26,false)⟩,
 g 35 (.fld 1) [1] [19] 26 false,
 g 36 (.load v7) [35] [28] 26 false,
 g 37 (.eqv true v7) [34,36] [27,29] 26 false,
 o 38 (.pick) [(.t 26),(.c (.bool true)),(.t 37)] [30]])
 (.cond (.t 38) (q (F [
 i 2 8])
 .ret) .skip))
 (q (F [
 i 2 0])
 .ret)))⟩
def c_diff_goodOrigin : DFun := ⟨26,3,[.p],[.p v2],[.t 2],
 q (F [
 u 1 (.box 1) [0],
 o 2 (.mv) [(.c (.bool false))] []])
 (q (F [
 i 3 32])
 (q (q (F [
 u 4 (.fld 1) [1],
 u 5 (.fld 0) [4],
 u 6 (.load v6) [5],
 o 7 (.bin .eql) [(.t 6),(.c (.int .u8 6))] []])
 (.cond (.t 7) (F [
 i 3 128]) .skip))
 (q (F [
 u 8 (.fld 1) [1],
 u 9 (.load vk1) [8],
 y 10 69 [2] [9] [],
 o 11 (.bin .eql) [(.t 10),(.c (.int .i64 0))] [],
 m 12 11,
 g 13 (.fld 5) [1] [] 12 true,
 g 14 (.load v0) [13] [] 12 true,
 g 15 (.fld 1) [1] [] 12 true,
 g 16 (.fld 3) [15] [] 12 true,
 g 17 (.load v0) [16] [] 12 true,
 g 18 (.bin .geq) [14,17] [] 12 true,
 o 19 (.pick) [(.t 12),(.t 18),(.c (.bool false))] [],
 m 20 19,
 g 21 (.fld 5) [1] [] 20 true,
 g 22 (.load v0) [21] [] 20 true,
 g 23 (.mv) [3] [] 20 true,
 g 24 (.bin .leq) [22,23] [] 20 true,
 o 25 (.pick) [(.t 20),(.t 24),(.c (.bool false))] [],
 m 2 25])
 .ret)))⟩
def c_diff_rising_77 : DFun := ⟨36,6,[.p,.p,.p],[.p v2],[.t 6],
 q (F [
 o 6 (.mv) [(.c (.bool false))] []])
 (q (q (F [
 m 9 0,
 u 10 .len [9],
 i 11 0])
 (.block 0 (.loop ⟨[0,1,2,9,10],[(11,.p v0)],[]⟩ (q (F [
 u 12 (.bin .lss) [11,10]])
 (q (.cond (.t 12) .skip (.exit 0))
 (q (.block 1 (q (F [
 m 13 11,
 u 14 (.idxA 84) [9,11],
 u 15 (.load v1) [14],
 u 8 (.alloc 3 [(D.int .u32 0),(D.zs 51 true)]) [],
 m 7 13,
 ⟨none,.store v1,[(.t 8),(.t 15)],[],none⟩])
 (q (T [
 m 16 2,
 u 17 (.load v1) [8],
 t 18 (.call [4]) [16,17] [0,1],
 t 19 .not [18] [2],
 t 20 .mv [19] [3],
 g 21 (.mv) [7] [4] 20 false,
 ⟨some 22,.bin .gtr,[(.t 21),(.c (.int .i64 0))],[5],some (20,false)⟩,
 g 23 (.mv) [22] [6] 20 false,
 g 24 (.mv) [1] [7] 23 true,
 g 25 (.mv) [0] [7] 23 true,
 g 26 (.mv) [7] [7] 23 true,
 ⟨some 27,.bin .sub,[(.t 26),(.c (.int .i64 1))],[10],some (23,true)⟩,
 g 28 (.idxA 84) [25,27] [9,11] 23 true,
 g 29 (.load v1) [28] [12] 23 true,
 g 30 (.load v1) [8] [7] 23 true,
 g 31 (.call [5]) [24,29,30] [8,13,14] 23 true,
 ⟨some 32,.bin .geq,[(.t 31),(.c (.int .i64 0))],[15],some (23,true)⟩,
 ⟨some 33,.pick,[(.t 23),(.t 32),(.c (.bool false))],[16],some (20,false)⟩,
 o 34 (.pick) [(.t 20),(.c (.bool true)),(.t 33)] [17]])
 (.cond (.t 34) (q (F [
 o 6 (.mv) [(.c (.bool false))] []])
 .ret) .skip))))
 (F [
 o 35 (.bin .add) [(.t 11),(.c (.int .i64 1))] [],
 m 11 35])))))))
 (q (F [
 o 6 (.mv) [(.c (.bool true))] []])
 .ret))⟩
def c_diff_byPath : DFun := ⟨10,5,[.p,.p],[.p v0],[.t 4],
 q (F [
 u 2 (.box 2) [0],
 u 3 (.box 3) [1],
 i 4 0])
 (q (F [
 u 5 (.fld 0) [2],
 u 6 (.load v5) [5],
 u 7 (.fld 0) [3],
 u 8 (.load v5) [7],
 y 9 90 [4] [6,8] [],
 m 4 9])
 .ret)⟩
def c_slices_Index : DFun := ⟨19,2,[.p,.p],[.p v0],[.t 4],
 q (F [
 i 4 0])
 (q (q (F [
 m 6 0,
 u 7 .len [6],
 i 8 0])
 (.block 0 (.loop ⟨[0,1,7],[(8,.p v0)],[]⟩ (q (F [
 u 9 (.bin .lss) [8,7]])
 (q (.cond (.t 9) .skip (.exit 0))
 (q (.block 1 (q (F [
 m 10 8,
 m 5 10])
 (q (F [
 m 11 1,
 m 12 0,
 m 13 5,
 u 14 (.idxA 51) [12,13],
 u 15 (.load v5) [14],
 u 16 (.bin .eql) [11,15]])
 (.cond (.t 16) (q (F [
 m 17 5,
 m 4 17])
 .ret) .skip))))
 (F [
 o 18 (.bin .add) [(.t 8),(.c (.int .i64 1))] [],
 m 8 18])))))))
 (q (F [
 i 4 (-1)])
 .ret))⟩
def c_slices_Contains : DFun := ⟨9,3,[.p,.p],[.p v2],[.t 4],
 q (F [
 o 4 (.mv) [(.c (.bool false))] []])
 (q (F [
 m 5 0,
 m 6 1,
 y 7 123 [2] [5,6] [],
 o 8 (.bin .geq) [(.t 7),(.c (.int .i64 0))] [],
 m 4 8])
 .ret)⟩
def c_aspa_Check : DFun := ⟨64,3,[.p],[.p v0],[.t 2],
 q (F [
 u 1 (.box 1) [0],
 i 2 0])
 (q (q (F [
 u 5 (.fld 1) [1],
 u 6 (.load v3) [5],
 u 7 .len [6],
 o 8 (.bin .gtr) [(.t 7),(.c (.int .i64 50))] []])
 (.cond (.t 8) (q (F [
 i 2 4])
 .ret) .skip))
 (q (F [
 u 9 (.fld 0) [1],
 u 10 (.load v5) [9],
 o 11 (.bin .gtr) [(.t 10),(.c (.int .u32 0))] [],
 m 12 11,
 g 13 (.fld 1) [1] [] 12 true,
 g 14 (.load v3) [13] [] 12 true,
 g 15 (.len) [14] [] 12 true,
 ⟨some 16,.bin .gtr,[(.t 15),(.c (.int .i64 0))],[],some (12,true)⟩,
 o 17 (.pick) [(.t 12),(.t 16),(.c (.bool false))] [],
 m 18 17,
 g 19 (.fld 1) [1] [] 18 true,
 g 20 (.load v3) [19] [] 18 true,
 g 21 (.fld 0) [1] [] 18 true,
 g 22 (.load v5) [21] [] 18 true,
 ⟨some 23,.call [2],[(.c (.fn 64 [])),(.t 20),(.t 22)],[],some (18,true)⟩,
 g 24 (.not) [23] [] 18 true,
 o 25 (.pick) [(.t 18),(.t 24),(.c (.bool false))] [],
 m 3 25])
 (q (F [
 m 26 3,
 m 27 26,
 g 28 (.fld 1) [1] [] 27 true,
 g 29 (.load v3) [28] [] 27 true,
 g 30 (.len) [29] [] 27 true,
 ⟨some 31,.bin .eql,[(.t 30),(.c (.int .i64 1))],[],some (27,true)⟩,
 g 32 (.mv) [31] [] 27 true,
 g 33 (.fld 1) [1] [] 32 false,
 g 34 (.load v3) [33] [] 32 false,
 ⟨some 35,.idxA 51,[(.t 34),(.c (.int .i64 0))],[],some (32,false)⟩,
 g 36 (.load v5) [35] [] 32 false,
 ⟨some 37,.bin .gtr,[(.t 36),(.c (.int .u32 0))],[],some (32,false)⟩,
 ⟨some 38,.pick,[(.t 32),(.c (.bool true)),(.t 37)],[],some (27,true)⟩,
 o 39 (.pick) [(.t 27),(.t 38),(.c (.bool false))] [],
 m 3 39])
 (q (q (F [
 i 4 1])
 (.block 0 (.loop ⟨[1],[(3,.p v2),(4,.p v0)],[(1,.v [.p (.int .u32),.p (.sl 51)])]⟩ (q (q (F [
 m 40 4,
 u 41 (.fld 1) [1],
 u 42 (.load v3) [41],
 u 43 .len [42],
 u 44 (.bin .lss) [40,43]])
 (.cond (.t 44) .skip (.exit 0)))
 (q (.block 1 (T [
 m 47 3,
 t 48 .mv [47] [0],
 g 49 (.fld 1) [1] [1] 48 true,
 g 50 (.load v3) [49] [2] 48 true,
 g 51 (.mv) [4] [1] 48 true,
 ⟨some 52,.bin .sub,[(.t 51),(.c (.int .i64 1))],[4],some (48,true)⟩,
 g 53 (.idxA 51) [50,52] [3,5] 48 true,
 g 54 (.load v5) [53] [6] 48 true,
 g 55 (.fld 1) [1] [1] 48 true,
 g 56 (.load v3) [55] [8] 48 true,
 g 57 (.mv) [4] [1] 48 true,
 g 58 (.idxA 51) [56,57] [9,10] 48 true,
 g 59 (.load v5) [58] [11] 48 true,
 g 60 (.bin .lss) [54,59] [7,12] 48 true,
 o 61 (.pick) [(.t 48),(.t 60),(.c (.bool false))] [13],
 t 3 .mv [61] [14]]))
 (F [
 m 45 4,
 o 46 (.bin .add) [(.t 45),(.c (.int .i64 1))] [],
 m 4 46]))))))
 (q (q (F [
 m 62 3,
 u 63 .not [62]])
 (.cond (.t 63) (q (F [
 i 2 8])
 .ret) .skip))
 (q (F [
 i 2 0])
 .ret))))))⟩
def c_diff_goodPath : DFun := ⟨10,3,[.p],[.p v2],[.t 2],
 q (F [
 u 1 (.box 1) [0],
 o 2 (.mv) [(.c (.bool false))] []])
 (q (F [
 u 3 (.fld 0) [1],
 u 4 (.load v5) [3],
 u 5 (.fld 1) [1],
 u 6 (.load v3) [5],
 u 7 (.build [(D.int .u32 0),(D.zs 51 true)] [(0,1),(1,1)]) [4,6],
 y 8 135 [2] [7] [],
 o 9 (.bin .eql) [(.t 8),(.c (.int .i64 0))] [],
 m 2 9])
 .ret)⟩
def c_diff_rising_80 : DFun := ⟨36,6,[.p,.p,.p],[.p v2],[.t 6],
 q (F [
 o 6 (.mv) [(.c (.bool false))] []])
 (q (q (F [
 m 9 0,
 u 10 .len [9],
 i 11 0])
 (.block 0 (.loop ⟨[0,1,2,9,10],[(11,.p v0)],[]⟩ (q (F [
 u 12 (.bin .lss) [11,10]])
 (q (.cond (.t 12) .skip (.exit 0))
 (q (.block 1 (q (F [
 m 13 11,
 u 14 (.idxA 64) [9,11],
 u 15 (.load vk2) [14],
 u 8 (.alloc 3 zs1) [],
 m 7 13,
 ⟨none,.store vk2,[(.t 8),(.t 15)],[],none⟩])
 (q (T [
 m 16 2,
 u 17 (.load vk2) [8],
 t 18 (.call [4]) [16,17] [0,1],
 t 19 .not [18] [2],
 t 20 .mv [19] [3],
 g 21 (.mv) [7] [4] 20 false,
 ⟨some 22,.bin .gtr,[(.t 21),(.c (.int .i64 0))],[5],some (20,false)⟩,
 g 23 (.mv) [22] [6] 20 false,
 g 24 (.mv) [1] [7] 23 true,
 g 25 (.mv) [0] [7] 23 true,
 g 26 (.mv) [7] [7] 23 true,
 ⟨some 27,.bin .sub,[(.t 26),(.c (.int .i64 1))],[10],some (23,true)⟩,
 g 28 (.idxA 64) [25,27] [9,11] 23 true,
 g 29 (.load vk2) [28] [12] 23 true,
 g 30 (.load vk2) [8] [7] 23 true,
 g 31 (.call [5]) [24,29,30] [8,13,14] 23 true,
 ⟨some 32,.bin .geq,[(.t 31),(.c (.int .i64 0))],[15],some (23,true)⟩,
 ⟨some 33,.pick,[(.t 23),(.t 32),(.c (.bool false))],[16],some (20,false)⟩,
 o 34 (.pick) [(.t 20),(.c (.bool true)),(.t 33)] [17]])
 (.cond (.t 34) (q (F [
 o 6 (.mv) [(.c (.bool false))] []])
 .ret) .skip))))
 (F [
 o 35 (.bin .add) [(.t 11),(.c (.int .i64 1))] [],
 m 11 35])))))))
 (q (F [
 o 6 (.mv) [(.c (.bool true))] []])
 .ret))⟩
def c_diff_byKey : DFun := ⟨26,7,[.p,.p],[.p v0],[.t 4],
 q (F [
 u 2 .boxF [0],
 u 3 .boxF [1],
 i 4 0])
 (q (T [
 u 5 (.fld 0) [2],
 t 6 (.load v5) [5] [0],
 u 7 (.fld 0) [3],
 t 8 (.load v5) [7] [2],
 y 9 90 [3] [6,8] [1,3],
 u 10 (.fld 1) [2],
 t 11 (.fld 0) [10] [5],
 t 12 (.sliceA 5 16) [11] [6],
 u 13 (.fld 1) [3],
 t 14 (.fld 0) [13] [8],
 t 15 (.sliceA 5 16) [14] [9],
 y 16 93 [4] [12,15] [4,7,10],
 u 17 (.fld 1) [2],
 t 18 (.fld 16) [17] [12],
 t 19 (.load v0) [18] [13],
 u 20 (.fld 1) [3],
 t 21 (.fld 16) [20] [15],
 t 22 (.load v0) [21] [16],
 y 23 94 [5] [19,22] [11,14,17],
 t 24 (.buildSl 2 3) [9,16,23] [18],
 y 25 87 [6] [24] [19],
 t 4 .mv [25] [20]])
 .ret)⟩
def c_diff_goodKey : DFun := ⟨13,2,[.p],[.p v2],[.t 2],
 q (F [
 u 1 (.box 1) [0],
 o 2 (.mv) [(.c (.bool false))] []])
 (q (F [
 u 3 (.fld 1) [1],
 u 4 (.fld 16) [3],
 u 5 (.load v0) [4],
 o 6 (.bin .geq) [(.t 5),(.c (.int .i64 0))] [],
 m 7 6,
 g 8 (.fld 1) [1] [] 7 true,
 g 9 (.fld 16) [8] [] 7 true,
 g 10 (.load v0) [9] [] 7 true,
 ⟨some 11,.bin .leq,[(.t 10),(.c (.int .i64 4))],[],some (7,true)⟩,
 o 12 (.pick) [(.t 7),(.t 11),(.c (.bool false))] [],
 m 2 12])
 .ret)⟩
def c_diff_Check : DFun := ⟨38,6,[.p],[.p v0],[.t 2],
 q (F [
 u 1 (.box 1) [0],
 i 2 0])
 (q (q (F [
 u 3 (.fld 0) [1],
 u 4 (.load v8) [3],
 u 5 .len [4],
 o 6 (.bin .gtr) [(.t 5),(.c (.int .i64 1000))] [],
 m 7 6,
 g 8 (.fld 1) [1] [] 7 false,
 g 9 (.load v9) [8] [] 7 false,
 g 10 (.len) [9] [] 7 false,
 ⟨some 11,.bin .gtr,[(.t 10),(.c (.int .i64 300))],[],some (7,false)⟩,
 o 12 (.pick) [(.t 7),(.c (.bool true)),(.t 11)] [],
 m 13 12,
 g 14 (.fld 2) [1] [] 13 false,
 g 15 (.load v10) [14] [] 13 false,
 g 16 (.len) [15] [] 13 false,
 ⟨some 17,.bin .gtr,[(.t 16),(.c (.int .i64 100))],[],some (13,false)⟩,
 o 18 (.pick) [(.t 13),(.c (.bool true)),(.t 17)] []])
 (.cond (.t 18) (q (F [
 i 2 4])
 .ret) .skip))
 (q (q (F [
 u 19 (.fld 1) [1],
 u 20 (.load v9) [19],
 o 21 (.call [2]) [(.c (.fn 72 [])),(.t 20),(.c (.fn 73 []))] []])
 (.cond (.t 21) (q (F [
 i 2 4])
 .ret) .skip))
 (q (q (F [
 u 22 (.fld 0) [1],
 u 23 (.load v8) [22],
 o 24 (.call [3]) [(.c (.fn 74 [])),(.t 23),(.c (.fn 75 [])),(.c (.fn 76 []))] [],
 u 25 .not [24],
 m 26 25,
 g 27 (.fld 1) [1] [] 26 false,
 g 28 (.load v9) [27] [] 26 false,
 ⟨some 29,.call [4],[(.c (.fn 77 [])),(.t 28),(.c (.fn 78 [])),(.c (.fn 79 []))],[],some (26,false)⟩,
 g 30 (.not) [29] [] 26 false,
 o 31 (.pick) [(.t 26),(.c (.bool true)),(.t 30)] [],
 m 32 31,
 g 33 (.fld 2) [1] [] 32 false,
 g 34 (.load v10) [33] [] 32 false,
 ⟨some 35,.call [5],[(.c (.fn 80 [])),(.t 34),(.c (.fn 81 [])),(.c (.fn 82 []))],[],some (32,false)⟩,
 g 36 (.not) [35] [] 32 false,
 o 37 (.pick) [(.t 32),(.c (.bool true)),(.t 36)] []])
 (.cond (.t 37) (q (F [
 i 2 8])
 .ret) .skip))
 (q (F [
 i 2 0])
 .ret))))⟩
def c_local_truth : DFun := ⟨11,2,[.p,.p],[.p v0],[.t 4],
 q (F [
 i 4 0])
 (q (.block 0 (q (F [
 m 6 0,
 m 7 1,
 u 8 (.eqv false v2) [6,7],
 m 5 8])
 (.cond (.t 5) (q (F [
 i 4 0])
 .ret) (q (F [
 m 10 1,
 m 9 10])
 (.cond (.t 9) (q (F [
 i 4 (-1)])
 .ret) .skip)))))
 (q (F [
 i 4 1])
 .ret))⟩
def c_local_prefixes : DFun := ⟨22,9,[.p,.p],[.p v0],[.t 4],
 q (F [
 u 2 (.box 2) [0],
 u 3 (.box 3) [1],
 i 4 0])
 (q (T [
 u 5 (.fld 0) [2],
 t 6 (.load v6) [5] [0],
 u 7 (.fld 0) [3],
 t 8 (.load v6) [7] [2],
 y 9 133 [5] [6,8] [1,3],
 u 10 (.fld 1) [2],
 t 11 (.load v7) [10] [5],
 u 12 (.fld 1) [3],
 t 13 (.load v7) [12] [7],
 y 14 134 [6] [11,13] [4,6,8],
 u 15 (.fld 3) [2],
 t 16 (.load v0) [15] [10],
 u 17 (.fld 3) [3],
 t 18 (.load v0) [17] [12],
 y 19 94 [7] [16,18] [9,11,13],
 t 20 (.buildSl 4 3) [9,14,19] [14],
 y 21 87 [8] [20] [15],
 t 4 .mv [21] [16]])
 .ret)⟩
def c_local_byPrefix_1 : DFun := ⟨27,10,[.p,.p],[.p v0],[.t 4],
 q (F [
 u 2 (.box 2) [0],
 u 3 (.box 3) [1],
 i 4 0])
 (q (T [
 u 5 (.fld 0) [2],
 t 6 (.load v2) [5] [0],
 u 7 (.fld 0) [3],
 t 8 (.load v2) [7] [2],
 y 9 88 [5] [6,8] [1,3],
 u 10 (.fld 2) [2],
 t 11 (.load vk1) [10] [5],
 u 12 (.fld 2) [3],
 t 13 (.load vk1) [12] [7],
 y 14 89 [6] [11,13] [4,6,8],
 u 15 (.fld 1) [2],
 t 16 (.load v2) [15] [10],
 u 17 (.fld 1) [3],
 t 18 (.load v2) [17] [12],
 y 19 88 [7] [16,18] [9,11,13],
 u 20 (.fld 6) [2],
 t 21 (.load v5) [20] [15],
 u 22 (.fld 6) [3],
 t 23 (.load v5) [22] [17],
 y 24 90 [8] [21,23] [14,16,18],
 t 25 (.buildSl 4 3) [9,14,19,24] [19],
 y 26 87 [9] [25] [20],
 t 4 .mv [26] [21]])
 .ret)⟩
def c_local_byPrefix_2 : DFun := ⟨32,3,[.p],[.p v2],[.t 2],
 q (F [
 u 1 (.box 1) [0],
 o 2 (.mv) [(.c (.bool false))] []])
 (q (F [
 u 4 (.fld 2) [1],
 u 5 (.load vk1) [4],
 u 6 (.build zs2 []) [],
 u 7 (.eqv false vk1) [5,6],
 m 3 7])
 (q (q (F [
 u 8 (.fld 0) [1],
 u 9 (.load v2) [8]])
 (.cond (.t 9) (F [
 u 10 (.fld 2) [1],
 u 11 (.load vk1) [10],
 y 12 69 [2] [11] [],
 o 13 (.bin .eql) [(.t 12),(.c (.int .i64 0))] [],
 m 3 13]) .skip))
 (q (F [
 u 14 (.fld 0) [1],
 u 15 (.load v2) [14],
 m 16 15,
 g 17 (.fld 1) [1] [] 16 false,
 g 18 (.load v2) [17] [] 16 false,
 o 19 (.pick) [(.t 16),(.c (.bool true)),(.t 18)] [],
 m 20 19,
 g 21 (.mv) [3] [] 20 true,
 o 22 (.pick) [(.t 20),(.t 21),(.c (.bool false))] [],
 m 23 22,
 g 24 (.fld 1) [1] [] 23 true,
 g 25 (.load v2) [24] [] 23 true,
 g 26 (.mv) [25] [] 23 true,
 g 27 (.fld 6) [1] [] 26 false,
 g 28 (.load v5) [27] [] 26 false,
 ⟨some 29,.bin .eql,[(.t 28),(.c (.int .u32 0))],[],some (26,false)⟩,
 ⟨some 30,.pick,[(.t 26),(.c (.bool true)),(.t 29)],[],some (23,true)⟩,
 o 31 (.pick) [(.t 23),(.t 30),(.c (.bool false))] [],
 m 2 31])
 .ret)))⟩
def c_local_byPrefix : DFun := ⟨2,1,[],[.p ⟨true,[.fnk 86,.fnk 91]⟩],[.c 0],
 q (F [
 u 0 (.alloc 0 [D.nilfn,D.nilfn]) []])
 (q (F [
 o 1 (.build [D.nilfn,D.nilfn] [(0,1),(1,1)]) [(.c (.fn 86 [])),(.c (.fn 91 []))] [],
 ⟨none,.store v11,[(.t 0),(.t 1)],[],none⟩])
 .ret)⟩
def c_local_byKey_1 : DFun := ⟨36,9,[.p,.p],[.p v0],[.t 4],
 q (F [
 u 2 .boxF [0],
 u 3 .boxF [1],
 i 4 0])
 (q (T [
 u 5 (.fld 0) [2],
 t 6 (.load v2) [5] [0],
 u 7 (.fld 0) [3],
 t 8 (.load v2) [7] [2],
 y 9 88 [3] [6,8] [1,3],
 u 10 (.fld 2) [2],
 t 11 (.load v5) [10] [5],
 u 12 (.fld 2) [3],
 t 13 (.load v5) [12] [7],
 y 14 90 [4] [11,13] [4,6,8],
 u 15 (.fld 1) [2],
 t 16 (.load v2) [15] [10],
 u 17 (.fld 1) [3],
 t 18 (.load v2) [17] [12],
 y 19 88 [5] [16,18] [9,11,13],
 u 20 (.fld 3) [2],
 t 21 (.fld 0) [20] [15],
 t 22 (.sliceA 5 16) [21] [16],
 u 23 (.fld 3) [3],
 t 24 (.fld 0) [23] [18],
 t 25 (.sliceA 5 16) [24] [19],
 y 26 93 [6] [22,25] [14,17,20],
 u 27 (.fld 3) [2],
 t 28 (.fld 16) [27] [22],
 t 29 (.load v0) [28] [23],
 u 30 (.fld 3) [3],
 t 31 (.fld 16) [30] [25],
 t 32 (.load v0) [31] [26],
 y 33 94 [7] [29,32] [21,24,27],
 t 34 (.buildSl 2 3) [9,14,19,26,33] [28],
 y 35 87 [8] [34] [29],
 t 4 .mv [35] [30]])
 .ret)⟩
def c_local_byKey_2 : DFun := ⟨38,2,[.p],[.p v2],[.t 2],
 q (F [
 u 1 (.box 1) [0],
 o 2 (.mv) [(.c (.bool false))] []])
 (q (F [
 u 4 (.fld 3) [1],
 u 5 (.load vk3) [4],
 u 6 (.build zs3 []) [],
 u 7 (.eqv false vk3) [5,6],
 m 3 7])
 (q (q (F [
 u 8 (.fld 1) [1],
 u 9 (.load v2) [8]])
 (.cond (.t 9) (F [
 u 10 (.fld 3) [1],
 u 11 (.fld 16) [10],
 u 12 (.load v0) [11],
 o 13 (.bin .geq) [(.t 12),(.c (.int .i64 0))] [],
 m 14 13,
 g 15 (.fld 3) [1] [] 14 true,
 g 16 (.fld 16) [15] [] 14 true,
 g 17 (.load v0) [16] [] 14 true,
 ⟨some 18,.bin .leq,[(.t 17),(.c (.int .i64 4))],[],some (14,true)⟩,
 o 19 (.pick) [(.t 14),(.t 18),(.c (.bool false))] [],
 m 3 19]) .skip))
 (q (F [
 u 20 (.fld 1) [1],
 u 21 (.load v2) [20],
 m 22 21,
 g 23 (.fld 0) [1] [] 22 false,
 g 24 (.load v2) [23] [] 22 false,
 o 25 (.pick) [(.t 22),(.c (.bool true)),(.t 24)] [],
 m 26 25,
 g 27 (.mv) [3] [] 26 true,
 o 28 (.pick) [(.t 26),(.t 27),(.c (.bool false))] [],
 m 29 28,
 g 30 (.fld 0) [1] [] 29 true,
 g 31 (.load v2) [30] [] 29 true,
 g 32 (.mv) [31] [] 29 true,
 g 33 (.fld 2) [1] [] 32 false,
 g 34 (.load v5) [33] [] 32 false,
 ⟨some 35,.bin .eql,[(.t 34),(.c (.int .u32 0))],[],some (32,false)⟩,
 ⟨some 36,.pick,[(.t 32),(.c (.bool true)),(.t 35)],[],some (29,true)⟩,
 o 37 (.pick) [(.t 29),(.t 36),(.c (.bool false))] [],
 m 2 37])
 .ret)))⟩
def c_local_byKey : DFun := ⟨2,1,[],[.p ⟨true,[.fnk 92,.fnk 95]⟩],[.c 0],
 q (F [
 u 0 (.alloc 0 [D.nilfn,D.nilfn]) []])
 (q (F [
 o 1 (.build [D.nilfn,D.nilfn] [(0,1),(1,1)]) [(.c (.fn 92 [])),(.c (.fn 95 []))] [],
 ⟨none,.store v11,[(.t 0),(.t 1)],[],none⟩])
 .ret)⟩
def c_local_byCustomer_1 : DFun := ⟨3,1,[.p],[.p v2],[.t 2],
 q (F [
 o 2 (.mv) [(.c (.bool false))] []])
 (q (F [
 o 2 (.mv) [(.c (.bool true))] []])
 .ret)⟩
def c_local_byCustomer : DFun := ⟨2,1,[],[.p ⟨true,[.fnk 90,.fnk 96]⟩],[.c 0],
 q (F [
 u 0 (.alloc 0 [D.nilfn,D.nilfn]) []])
 (q (F [
 o 1 (.build [D.nilfn,D.nilfn] [(0,1),(1,1)]) [(.c (.fn 90 [])),(.c (.fn 96 []))] [],
 ⟨none,.store v11,[(.t 0),(.t 1)],[],none⟩])
 .ret)⟩
def c_api_LocalPrefix_check : DFun := ⟨36,5,[.p,.p],[.p v2],[.t 4],
 q (F [
 u 2 .boxF [0],
 o 4 (.mv) [(.c (.bool false))] []])
 (q (q (F [
 m 7 1,
 u 8 .len [7],
 i 9 0])
 (.block 0 (.loop ⟨[1,2,7,8],[(9,.p v0)],[]⟩ (q (F [
 u 10 (.bin .lss) [9,8]])
 (q (.cond (.t 10) .skip (.exit 0))
 (q (.block 1 (q (F [
 m 11 9,
 u 12 (.idxA 70) [7,9],
 u 13 (.load vk4) [12],
 u 6 (.alloc 2 zs4) [],
 m 5 11,
 ⟨none,.store vk4,[(.t 6),(.t 13)],[],none⟩])
 (q (T [
 u 14 (.fld 1) [2],
 t 15 (.load v12) [14] [0],
 u 16 (.load vk4) [6],
 t 17 (.call [3]) [15,16] [1,2],
 t 18 .not [17] [3],
 t 19 .mv [18] [4],
 g 20 (.mv) [5] [5] 19 false,
 ⟨some 21,.bin .gtr,[(.t 20),(.c (.int .i64 0))],[6],some (19,false)⟩,
 g 22 (.mv) [21] [7] 19 false,
 g 23 (.fld 0) [2] [8] 22 true,
 g 24 (.load v12) [23] [9] 22 true,
 g 25 (.mv) [1] [8] 22 true,
 g 26 (.mv) [5] [8] 22 true,
 ⟨some 27,.bin .sub,[(.t 26),(.c (.int .i64 1))],[12],some (22,true)⟩,
 g 28 (.idxA 70) [25,27] [11,13] 22 true,
 g 29 (.load vk4) [28] [14] 22 true,
 g 30 (.load vk4) [6] [8] 22 true,
 g 31 (.call [4]) [24,29,30] [10,15,16] 22 true,
 ⟨some 32,.bin .geq,[(.t 31),(.c (.int .i64 0))],[17],some (22,true)⟩,
 ⟨some 33,.pick,[(.t 22),(.t 32),(.c (.bool false))],[18],some (19,false)⟩,
 o 34 (.pick) [(.t 19),(.c (.bool true)),(.t 33)] [19]])
 (.cond (.t 34) (q (F [
 o 4 (.mv) [(.c (.bool false))] []])
 .ret) .skip))))
 (F [
 o 35 (.bin .add) [(.t 9),(.c (.int .i64 1))] [],
 m 9 35])))))))
 (q (F [
 o 4 (.mv) [(.c (.bool true))] []])
 .ret))⟩
def c_api_LocalKey_check : DFun := ⟨36,5,[.p,.p],[.p v2],[.t 4],
 q (F [
 u 2 .boxF [0],
 o 4 (.mv) [(.c (.bool false))] []])
 (q (q (F [
 m 7 1,
 u 8 .len [7],
 i 9 0])
 (.block 0 (.loop ⟨[1,2,7,8],[(9,.p v0)],[]⟩ (q (F [
 u 10 (.bin .lss) [9,8]])
 (q (.cond (.t 10) .skip (.exit 0))
 (q (.block 1 (q (F [
 m 11 9,
 u 12 (.idxA 73) [7,9],
 u 13 (.load vk5) [12],
 u 6 (.alloc 2 zs5) [],
 m 5 11,
 ⟨none,.store vk5,[(.t 6),(.t 13)],[],none⟩])
 (q (T [
 u 14 (.fld 1) [2],
 t 15 (.load v12) [14] [0],
 u 16 (.load vk5) [6],
 t 17 (.call [3]) [15,16] [1,2],
 t 18 .not [17] [3],
 t 19 .mv [18] [4],
 g 20 (.mv) [5] [5] 19 false,
 ⟨some 21,.bin .gtr,[(.t 20),(.c (.int .i64 0))],[6],some (19,false)⟩,
 g 22 (.mv) [21] [7] 19 false,
 g 23 (.fld 0) [2] [8] 22 true,
 g 24 (.load v12) [23] [9] 22 true,
 g 25 (.mv) [1] [8] 22 true,
 g 26 (.mv) [5] [8] 22 true,
 ⟨some 27,.bin .sub,[(.t 26),(.c (.int .i64 1))],[12],some (22,true)⟩,
 g 28 (.idxA 73) [25,27] [11,13] 22 true,
 g 29 (.load vk5) [28] [14] 22 true,
 g 30 (.load vk5) [6] [8] 22 true,
 g 31 (.call [4]) [24,29,30] [10,15,16] 22 true,
 ⟨some 32,.bin .geq,[(.t 31),(.c (.int .i64 0))],[17],some (22,true)⟩,
 ⟨some 33,.pick,[(.t 22),(.t 32),(.c (.bool false))],[18],some (19,false)⟩,
 o 34 (.pick) [(.t 19),(.c (.bool true)),(.t 33)] [19]])
 (.cond (.t 34) (q (F [
 o 4 (.mv) [(.c (.bool false))] []])
 .ret) .skip))))
 (F [
 o 35 (.bin .add) [(.t 9),(.c (.int .i64 1))] [],
 m 9 35])))))))
 (q (F [
 o 4 (.mv) [(.c (.bool true))] []])
 .ret))⟩
def c_local_order_uint32_check : DFun := ⟨36,4,[.p,.p],[.p v2],[.t 4],
 q (F [
 u 2 .boxF [0],
 o 4 (.mv) [(.c (.bool false))] []])
 (q (q (F [
 m 7 1,
 u 8 .len [7],
 i 9 0])
 (.block 0 (.loop ⟨[1,2,7,8],[(9,.p v0)],[]⟩ (q (F [
 u 10 (.bin .lss) [9,8]])
 (q (.cond (.t 10) .skip (.exit 0))
 (q (.block 1 (q (F [
 m 11 9,
 u 12 (.idxA 51) [7,9],
 u 13 (.load v5) [12],
 m 5 11,
 m 6 13])
 (q (T [
 u 14 (.fld 1) [2],
 t 15 (.load v12) [14] [0],
 m 16 6,
 t 17 (.call [2]) [15,16] [1,2],
 t 18 .not [17] [3],
 t 19 .mv [18] [4],
 g 20 (.mv) [5] [5] 19 false,
 ⟨some 21,.bin .gtr,[(.t 20),(.c (.int .i64 0))],[6],some (19,false)⟩,
 g 22 (.mv) [21] [7] 19 false,
 g 23 (.fld 0) [2] [8] 22 true,
 g 24 (.load v12) [23] [9] 22 true,
 g 25 (.mv) [1] [8] 22 true,
 g 26 (.mv) [5] [8] 22 true,
 ⟨some 27,.bin .sub,[(.t 26),(.c (.int .i64 1))],[12],some (22,true)⟩,
 g 28 (.idxA 51) [25,27] [11,13] 22 true,
 g 29 (.load v5) [28] [14] 22 true,
 g 30 (.mv) [6] [8] 22 true,
 g 31 (.call [3]) [24,29,30] [10,15,16] 22 true,
 ⟨some 32,.bin .geq,[(.t 31),(.c (.int .i64 0))],[17],some (22,true)⟩,
 ⟨some 33,.pick,[(.t 22),(.t 32),(.c (.bool false))],[18],some (19,false)⟩,
 o 34 (.pick) [(.t 19),(.c (.bool true)),(.t 33)] [19]])
 (.cond (.t 34) (q (F [
 o 4 (.mv) [(.c (.bool false))] []])
 .ret) .skip))))
 (F [
 o 35 (.bin .add) [(.t 9),(.c (.int .i64 1))] [],
 m 9 35])))))))
 (q (F [
 o 4 (.mv) [(.c (.bool true))] []])
 .ret))⟩
def c_local_Check : DFun := ⟨36,9,[.p],[.p v0],[.t 2],
 q (F [
 u 1 (.box 1) [0],
 i 2 0])
 (q (q (F [
 u 3 (.fld 0) [1],
 u 4 (.load v13) [3],
 u 5 .len [4],
 u 6 (.fld 1) [1],
 u 7 (.load v14) [6],
 u 8 .len [7],
 u 9 (.fld 2) [1],
 u 10 (.load v3) [9],
 u 11 .len [10],
 u 12 .mx [5,8,11],
 o 13 (.bin .gtr) [(.t 12),(.c (.int .i64 100))] []])
 (.cond (.t 13) (q (F [
 i 2 4])
 .ret) .skip))
 (q (q (T [
 y 14 36 [2] [] [],
 u 15 (.fld 0) [1],
 t 16 (.load v13) [15] [1],
 y 17 83 [3] [14,16] [0,2],
 t 18 .not [17] [3],
 t 19 .mv [18] [4],
 ⟨some 20,.call [4],[(.c (.fn 39 []))],[5],some (19,false)⟩,
 g 21 (.fld 1) [1] [5] 19 false,
 g 22 (.load v14) [21] [7] 19 false,
 ⟨some 23,.call [5],[(.c (.fn 84 [])),(.t 20),(.t 22)],[6,8],some (19,false)⟩,
 g 24 (.not) [23] [9] 19 false,
 o 25 (.pick) [(.t 19),(.c (.bool true)),(.t 24)] [10],
 t 26 .mv [25] [11],
 ⟨some 27,.call [6],[(.c (.fn 42 []))],[12],some (26,false)⟩,
 g 28 (.fld 2) [1] [12] 26 false,
 g 29 (.load v3) [28] [14] 26 false,
 ⟨some 30,.call [7],[(.c (.fn 85 [])),(.t 27),(.t 29)],[13,15],some (26,false)⟩,
 g 31 (.not) [30] [16] 26 false,
 o 32 (.pick) [(.t 26),(.c (.bool true)),(.t 31)] [17]])
 (.cond (.t 32) (q (F [
 i 2 8])
 .ret) .skip))
 (q (F [
 u 33 (.fld 3) [1],
 u 34 (.load v15) [33],
 y 35 29 [8] [34] [],
 m 2 35])
 .ret)))⟩
def c_api_LocalPrefix_merge : DFun := ⟨76,16,[.p,.p,.p,.p],[.o 70],[.t 8],
 q (F [
 u 4 .boxF [0],
 o 8 (.mv) [(.c (.zs 70 true))] []])
 (q (F [
 m 11 1,
 u 12 .len [11],
 m 13 2,
 u 14 .len [13],
 u 15 (.bin .add) [12,14],
 o 16 (.mkSl 4 70 (D.agg zs4) 48) [(.c (.int .i64 0)),(.t 15)] [],
 m 9 16])
 (q (.block 0 (.loop ⟨[3,4],[(1,.p v13),(2,.p v13),(9,.o 13 70)],[]⟩ (q (q (F [
 m 17 1,
 u 18 .len [17],
 o 19 (.bin .gtr) [(.t 18),(.c (.int .i64 0))] [],
 m 20 19,
 g 21 (.mv) [2] [] 20 true,
 g 22 (.len) [21] [] 20 true,
 ⟨some 23,.bin .gtr,[(.t 22),(.c (.int .i64 0))],[],some (20,true)⟩,
 o 24 (.pick) [(.t 20),(.t 23),(.c (.bool false))] []])
 (.cond (.t 24) .skip (.exit 0)))
 (.block 1 (q (T [
 u 25 (.fld 0) [4],
 t 26 (.load v12) [25] [0],
 m 27 1,
 o 28 (.idxA 70) [(.t 27),(.c (.int .i64 0))] [2],
 t 29 (.load vk4) [28] [3],
 m 30 2,
 o 31 (.idxA 70) [(.t 30),(.c (.int .i64 0))] [5],
 t 32 (.load vk4) [31] [6],
 t 33 (.call [14]) [26,29,32] [1,4,7],
 t 10 .mv [33] [8]])
 (.block 2 (q (F [
 m 50 10,
 o 51 (.bin .lss) [(.t 50),(.c (.int .i64 0))] [],
 m 49 51])
 (.cond (.t 49) (T [
 m 52 9,
 m 53 1,
 o 54 (.idxA 70) [(.t 53),(.c (.int .i64 0))] [1],
 t 55 (.load vk4) [54] [2],
 t 56 (.buildSl 5 70) [55] [3],
 t 57 (.append 6 70 48) [52,56] [0,4],
 m 58 1,
 o 59 (.slice (some 70) true false false) [(.t 58),(.c (.int .i64 1))] [6],
 t 9 .mv [57] [5],
 t 1 .mv [59] [7,8]]) (q (F [
 m 61 10,
 o 62 (.bin .gtr) [(.t 61),(.c (.int .i64 0))] [],
 m 60 62])
 (.cond (.t 60) (T [
 m 63 9,
 m 64 2,
 o 65 (.idxA 70) [(.t 64),(.c (.int .i64 0))] [1],
 t 66 (.load vk4) [65] [2],
 t 67 (.buildSl 7 70) [66] [3],
 t 68 (.append 8 70 48) [63,67] [0,4],
 m 69 2,
 o 70 (.slice (some 70) true false false) [(.t 69),(.c (.int .i64 1))] [6],
 t 9 .mv [68] [5],
 t 2 .mv [70] [7,8]]) (T [
 m 34 9,
 m 35 3,
 m 36 1,
 o 37 (.idxA 70) [(.t 36),(.c (.int .i64 0))] [2],
 t 38 (.load vk4) [37] [3],
 m 39 2,
 o 40 (.idxA 70) [(.t 39),(.c (.int .i64 0))] [5],
 t 41 (.load vk4) [40] [6],
 t 42 (.call [15]) [35,38,41] [1,4,7],
 t 43 (.buildSl 9 70) [42] [8],
 t 44 (.append 10 70 48) [34,43] [0,9],
 m 45 1,
 o 46 (.slice (some 70) true false false) [(.t 45),(.c (.int .i64 1))] [11],
 m 47 2,
 o 48 (.slice (some 70) true false false) [(.t 47),(.c (.int .i64 1))] [13],
 t 9 .mv [44] [10],
 t 1 .mv [46] [12,15],
 t 2 .mv [48] [14,16]])))))))))))
 (q (F [
 m 71 9,
 m 72 1,
 u 73 (.append 11 70 48) [71,72],
 m 74 2,
 u 75 (.append 12 70 48) [73,74],
 m 8 75])
 .ret)))⟩
def c_local_first_38 : DFun := ⟨6,5,[.p,.p],[.p vk4],[.c 4],
 q (F [
 u 2 (.box 2) [0],
 u 3 (.box 3) [1],
 u 4 (.alloc 4 zs4) []])
 (q (F [
 u 5 (.load vk4) [2],
 ⟨none,.store vk4,[(.t 4),(.t 5)],[],none⟩])
 .ret)⟩
def c_api_LocalKey_merge : DFun := ⟨76,16,[.p,.p,.p,.p],[.o 73],[.t 8],
 q (F [
 u 4 .boxF [0],
 o 8 (.mv) [(.c (.zs 73 true))] []])
 (q (F [
 m 11 1,
 u 12 .len [11],
 m 13 2,
 u 14 .len [13],
 u 15 (.bin .add) [12,14],
 o 16 (.mkSl 4 73 (D.agg zs5) 32) [(.c (.int .i64 0)),(.t 15)] [],
 m 9 16])
 (q (.block 0 (.loop ⟨[3,4],[(1,.p v14),(2,.p v14),(9,.o 13 73)],[]⟩ (q (q (F [
 m 17 1,
 u 18 .len [17],
 o 19 (.bin .gtr) [(.t 18),(.c (.int .i64 0))] [],
 m 20 19,
 g 21 (.mv) [2] [] 20 true,
 g 22 (.len) [21] [] 20 true,
 ⟨some 23,.bin .gtr,[(.t 22),(.c (.int .i64 0))],[],some (20,true)⟩,
 o 24 (.pick) [(.t 20),(.t 23),(.c (.bool false))] []])
 (.cond (.t 24) .skip (.exit 0)))
 (.block 1 (q (T [
 u 25 (.fld 0) [4],
 t 26 (.load v12) [25] [0],
 m 27 1,
 o 28 (.idxA 73) [(.t 27),(.c (.int .i64 0))] [2],
 t 29 (.load vk5) [28] [3],
 m 30 2,
 o 31 (.idxA 73) [(.t 30),(.c (.int .i64 0))] [5],
 t 32 (.load vk5) [31] [6],
 t 33 (.call [14]) [26,29,32] [1,4,7],
 t 10 .mv [33] [8]])
 (.block 2 (q (F [
 m 50 10,
 o 51 (.bin .lss) [(.t 50),(.c (.int .i64 0))] [],
 m 49 51])
 (.cond (.t 49) (T [
 m 52 9,
 m 53 1,
 o 54 (.idxA 73) [(.t 53),(.c (.int .i64 0))] [1],
 t 55 (.load vk5) [54] [2],
 t 56 (.buildSl 5 73) [55] [3],
 t 57 (.append 6 73 32) [52,56] [0,4],
 m 58 1,
 o 59 (.slice (some 73) true false false) [(.t 58),(.c (.int .i64 1))] [6],
 t 9 .mv [57] [5],
 t 1 .mv [59] [7,8]]) (q (F [
 m 61 10,
 o 62 (.bin .gtr) [(.t 61),(.c (.int .i64 0))] [],
 m 60 62])
 (.cond (.t 60) (T [
 m 63 9,
 m 64 2,
 o 65 (.idxA 73) [(.t 64),(.c (.int .i64 0))] [1],
 t 66 (.load vk5) [65] [2],
 t 67 (.buildSl 7 73) [66] [3],
 t 68 (.append 8 73 32) [63,67] [0,4],
 m 69 2,
 o 70 (.slice (some 73) true false false) [(.t 69),(.c (.int .i64 1))] [6],
 t 9 .mv [68] [5],
 t 2 .mv [70] [7,8]]) (T [
 m 34 9,
 m 35 3,
 m 36 1,
 o 37 (.idxA 73) [(.t 36),(.c (.int .i64 0))] [2],
 t 38 (.load vk5) [37] [3],
 m 39 2,
 o 40 (.idxA 73) [(.t 39),(.c (.int .i64 0))] [5],
 t 41 (.load vk5) [40] [6],
 t 42 (.call [15]) [35,38,41] [1,4,7],
 t 43 (.buildSl 9 73) [42] [8],
 t 44 (.append 10 73 32) [34,43] [0,9],
 m 45 1,
 o 46 (.slice (some 73) true false false) [(.t 45),(.c (.int .i64 1))] [11],
 m 47 2,
 o 48 (.slice (some 73) true false false) [(.t 47),(.c (.int .i64 1))] [13],
 t 9 .mv [44] [10],
 t 1 .mv [46] [12,15],
 t 2 .mv [48] [14,16]])))))))))))
 (q (F [
 m 71 9,
 m 72 1,
 u 73 (.append 11 73 32) [71,72],
 m 74 2,
 u 75 (.append 12 73 32) [73,74],
 m 8 75])
 .ret)))⟩
def c_local_first_41 : DFun := ⟨6,5,[.p,.p],[.p vk5],[.c 4],
 q (F [
 u 2 (.box 2) [0],
 u 3 (.box 3) [1],
 u 4 (.alloc 4 zs5) []])
 (q (F [
 u 5 (.load vk5) [2],
 ⟨none,.store vk5,[(.t 4),(.t 5)],[],none⟩])
 .ret)⟩
def c_local_order_uint32_merge : DFun := ⟨76,16,[.p,.p,.p,.p],[.o 51],[.t 8],
 q (F [
 u 4 .boxF [0],
 o 8 (.mv) [(.c (.zs 51 true))] []])
 (q (F [
 m 11 1,
 u 12 .len [11],
 m 13 2,
 u 14 .len [13],
 u 15 (.bin .add) [12,14],
 o 16 (.mkSl 4 51 (D.int .u32 0) 4) [(.c (.int .i64 0)),(.t 15)] [],
 m 9 16])
 (q (.block 0 (.loop ⟨[3,4],[(1,.p v3),(2,.p v3),(9,.o 13 51)],[]⟩ (q (q (F [
 m 17 1,
 u 18 .len [17],
 o 19 (.bin .gtr) [(.t 18),(.c (.int .i64 0))] [],
 m 20 19,
 g 21 (.mv) [2] [] 20 true,
 g 22 (.len) [21] [] 20 true,
 ⟨some 23,.bin .gtr,[(.t 22),(.c (.int .i64 0))],[],some (20,true)⟩,
 o 24 (.pick) [(.t 20),(.t 23),(.c (.bool false))] []])
 (.cond (.t 24) .skip (.exit 0)))
 (.block 1 (q (T [
 u 25 (.fld 0) [4],
 t 26 (.load v12) [25] [0],
 m 27 1,
 o 28 (.idxA 51) [(.t 27),(.c (.int .i64 0))] [2],
 t 29 (.load v5) [28] [3],
 m 30 2,
 o 31 (.idxA 51) [(.t 30),(.c (.int .i64 0))] [5],
 t 32 (.load v5) [31] [6],
 t 33 (.call [14]) [26,29,32] [1,4,7],
 t 10 .mv [33] [8]])
 (.block 2 (q (F [
 m 50 10,
 o 51 (.bin .lss) [(.t 50),(.c (.int .i64 0))] [],
 m 49 51])
 (.cond (.t 49) (T [
 m 52 9,
 m 53 1,
 o 54 (.idxA 51) [(.t 53),(.c (.int .i64 0))] [1],
 t 55 (.load v5) [54] [2],
 t 56 (.buildSl 5 51) [55] [3],
 t 57 (.append 6 51 4) [52,56] [0,4],
 m 58 1,
 o 59 (.slice (some 51) true false false) [(.t 58),(.c (.int .i64 1))] [6],
 t 9 .mv [57] [5],
 t 1 .mv [59] [7,8]]) (q (F [
 m 61 10,
 o 62 (.bin .gtr) [(.t 61),(.c (.int .i64 0))] [],
 m 60 62])
 (.cond (.t 60) (T [
 m 63 9,
 m 64 2,
 o 65 (.idxA 51) [(.t 64),(.c (.int .i64 0))] [1],
 t 66 (.load v5) [65] [2],
 t 67 (.buildSl 7 51) [66] [3],
 t 68 (.append 8 51 4) [63,67] [0,4],
 m 69 2,
 o 70 (.slice (some 51) true false false) [(.t 69),(.c (.int .i64 1))] [6],
 t 9 .mv [68] [5],
 t 2 .mv [70] [7,8]]) (T [
 m 34 9,
 m 35 3,
 m 36 1,
 o 37 (.idxA 51) [(.t 36),(.c (.int .i64 0))] [2],
 t 38 (.load v5) [37] [3],
 m 39 2,
 o 40 (.idxA 51) [(.t 39),(.c (.int .i64 0))] [5],
 t 41 (.load v5) [40] [6],
 t 42 (.call [15]) [35,38,41] [1,4,7],
 t 43 (.buildSl 9 51) [42] [8],
 t 44 (.append 10 51 4) [34,43] [0,9],
 m 45 1,
 o 46 (.slice (some 51) true false false) [(.t 45),(.c (.int .i64 1))] [11],
 m 47 2,
 o 48 (.slice (some 51) true false false) [(.t 47),(.c (.int .i64 1))] [13],
 t 9 .mv [44] [10],
 t 1 .mv [46] [12,15],
 t 2 .mv [48] [14,16]])))))))))))
 (q (F [
 m 71 9,
 m 72 1,
 u 73 (.append 11 51 4) [71,72],
 m 74 2,
 u 75 (.append 12 51 4) [73,74],
 m 8 75])
 .ret)))⟩
def c_local_first_44 : DFun := ⟨6,2,[.p,.p],[.p v5],[.t 4],
 q (F [
 o 4 (.mv) [(.c (.int .u32 0))] []])
 (q (F [
 m 5 0,
 m 4 5])
 .ret)⟩
def c_slices_Clone_114 : DFun := ⟨8,3,[.p],[.o 58],[.t 2],
 q (F [
 o 2 (.mv) [(.c (.zs 58 true))] []])
 (q (q (F [
 m 3 0,
 u 4 (.eqnil false) [3]])
 (.cond (.t 4) (q (F [
 o 2 (.mv) [(.c (.zs 58 true))] []])
 .ret) .skip))
 (q (F [
 u 5 (.buildSl 1 58) [],
 m 6 0,
 u 7 (.append 2 58 48) [5,6],
 m 2 7])
 .ret))⟩
def c_slices_Clone_115 : DFun := ⟨8,3,[.p],[.o 64],[.t 2],
 q (F [
 o 2 (.mv) [(.c (.zs 64 true))] []])
 (q (q (F [
 m 3 0,
 u 4 (.eqnil false) [3]])
 (.cond (.t 4) (q (F [
 o 2 (.mv) [(.c (.zs 64 true))] []])
 .ret) .skip))
 (q (F [
 u 5 (.buildSl 1 64) [],
 m 6 0,
 u 7 (.append 2 64 32) [5,6],
 m 2 7])
 .ret))⟩
def c_slices_Clone_145 : DFun := ⟨8,3,[.p],[.o 51],[.t 2],
 q (F [
 o 2 (.mv) [(.c (.zs 51 true))] []])
 (q (q (F [
 m 3 0,
 u 4 (.eqnil false) [3]])
 (.cond (.t 4) (q (F [
 o 2 (.mv) [(.c (.zs 51 true))] []])
 .ret) .skip))
 (q (F [
 u 5 (.buildSl 1 51) [],
 m 6 0,
 u 7 (.append 2 51 4) [5,6],
 m 2 7])
 .ret))⟩
def c_diff_twinPath : DFun := ⟨8,4,[.p],[.p v1],[.c 2],
 q (F [
 u 1 (.box 1) [0],
 u 2 (.alloc 2 [(D.int .u32 0),(D.zs 51 true)]) []])
 (q (F [
 u 3 (.fld 1) [1],
 u 4 (.load v3) [3],
 y 5 145 [3] [4] [],
 u 6 (.fld 1) [1],
 ⟨none,.store v3,[(.t 6),(.t 5)],[],none⟩])
 (q (F [
 u 7 (.load v1) [1],
 ⟨none,.store v1,[(.t 2),(.t 7)],[],none⟩])
 .ret))⟩
def c_diff_Twin : DFun := ⟨29,16,[.p],[.p v15],[.c 2],
 q (F [
 u 1 (.box 1) [0],
 u 2 (.alloc 2 zs6) []])
 (q (T [
 u 6 (.fld 0) [1],
 t 7 (.load v8) [6] [0],
 y 8 114 [7] [7] [1],
 u 9 (.fld 2) [1],
 t 10 (.load v10) [9] [3],
 y 11 115 [8] [10] [2,4],
 t 12 (.build zs6 [(0,1),(2,1)]) [8,11] [5],
 u 3 (.alloc 3 zs6) [],
 ⟨none,.store v15,[(.t 3),(.t 12)],[6,7],none⟩])
 (q (q (F [
 u 13 (.fld 1) [1],
 u 14 (.load v9) [13],
 u 15 .len [14],
 i 16 0])
 (.block 0 (.loop ⟨[2,3,14,15],[(16,.p v0)],[(2,.v [.o 9 58,.o 10 84,.o 11 64]),(3,.v [.o 12 58,.o 13 84,.o 14 64])]⟩ (q (F [
 u 17 (.bin .lss) [16,15]])
 (q (.cond (.t 17) .skip (.exit 0))
 (q (.block 1 (q (F [
 u 18 (.idxA 84) [14,16],
 u 19 (.load v1) [18],
 u 5 (.alloc 4 [(D.int .u32 0),(D.zs 51 true)]) [],
 ⟨none,.store v1,[(.t 5),(.t 19)],[],none⟩])
 (T [
 u 20 (.fld 1) [3],
 t 21 (.load v9) [20] [0],
 u 22 (.load v1) [5],
 y 23 116 [15] [22] [2],
 t 24 (.buildSl 5 84) [23] [3],
 t 25 (.append 6 84 32) [21,24] [1,4],
 t 26 (.fld 1) [3] [5],
 ⟨none,.store v9,[(.t 26),(.t 25)],[6],none⟩])))
 (F [
 o 27 (.bin .add) [(.t 16),(.c (.int .i64 1))] [],
 m 16 27])))))))
 (q (F [
 u 28 (.load v15) [3],
 ⟨none,.store v15,[(.t 2),(.t 28)],[],none⟩])
 .ret)))⟩
def c_local_add_1 : DFun := ⟨22,9,[.p,.p],[.p v0],[.t 4],
 q (F [
 u 2 (.box 2) [0],
 u 3 (.box 3) [1],
 i 4 0])
 (q (T [
 u 5 (.fld 0) [2],
 t 6 (.load v5) [5] [0],
 u 7 (.fld 0) [3],
 t 8 (.load v5) [7] [2],
 y 9 90 [5] [6,8] [1,3],
 u 10 (.fld 1) [2],
 t 11 (.load vk1) [10] [5],
 u 12 (.fld 1) [3],
 t 13 (.load vk1) [12] [7],
 y 14 89 [6] [11,13] [4,6,8],
 u 15 (.fld 5) [2],
 t 16 (.load v0) [15] [10],
 u 17 (.fld 5) [3],
 t 18 (.load v0) [17] [12],
 y 19 94 [7] [16,18] [9,11,13],
 t 20 (.buildSl 4 3) [9,14,19] [14],
 y 21 87 [8] [20] [15],
 t 4 .mv [21] [16]])
 .ret)⟩
def c_local_add_2 : DFun := ⟨10,5,[.p,.p],[.p v0],[.t 4],
 q (F [
 u 2 (.box 2) [0],
 u 3 (.box 3) [1],
 i 4 0])
 (q (F [
 u 5 (.fld 0) [2],
 u 6 (.load v5) [5],
 u 7 (.fld 0) [3],
 u 8 (.load v5) [7],
 y 9 90 [4] [6,8] [],
 m 4 9])
 .ret)⟩
def c_local_add_3 : DFun := ⟨26,7,[.p,.p],[.p v0],[.t 4],
 q (F [
 u 2 .boxF [0],
 u 3 .boxF [1],
 i 4 0])
 (q (T [
 u 5 (.fld 0) [2],
 t 6 (.load v5) [5] [0],
 u 7 (.fld 0) [3],
 t 8 (.load v5) [7] [2],
 y 9 90 [3] [6,8] [1,3],
 u 10 (.fld 1) [2],
 t 11 (.fld 0) [10] [5],
 t 12 (.sliceA 5 16) [11] [6],
 u 13 (.fld 1) [3],
 t 14 (.fld 0) [13] [8],
 t 15 (.sliceA 5 16) [14] [9],
 y 16 93 [4] [12,15] [4,7,10],
 u 17 (.fld 1) [2],
 t 18 (.fld 16) [17] [12],
 t 19 (.load v0) [18] [13],
 u 20 (.fld 1) [3],
 t 21 (.fld 16) [20] [15],
 t 22 (.load v0) [21] [16],
 y 23 94 [5] [19,22] [11,14,17],
 t 24 (.buildSl 2 3) [9,16,23] [18],
 y 25 87 [6] [24] [19],
 t 4 .mv [25] [20]])
 .ret)⟩
def c_api_Origin_merge : DFun := ⟨76,16,[.p,.p,.p,.p],[.o 58],[.t 8],
 q (F [
 u 4 .boxF [0],
 o 8 (.mv) [(.c (.zs 58 true))] []])
 (q (F [
 m 11 1,
 u 12 .len [11],
 m 13 2,
 u 14 .len [13],
 u 15 (.bin .add) [12,14],
 o 16 (.mkSl 4 58 (D.agg zs0) 48) [(.c (.int .i64 0)),(.t 15)] [],
 m 9 16])
 (q (.block 0 (.loop ⟨[3,4],[(1,.p v8),(2,.p v8),(9,.o 13 58)],[]⟩ (q (q (F [
 m 17 1,
 u 18 .len [17],
 o 19 (.bin .gtr) [(.t 18),(.c (.int .i64 0))] [],
 m 20 19,
 g 21 (.mv) [2] [] 20 true,
 g 22 (.len) [21] [] 20 true,
 ⟨some 23,.bin .gtr,[(.t 22),(.c (.int .i64 0))],[],some (20,true)⟩,
 o 24 (.pick) [(.t 20),(.t 23),(.c (.bool false))] []])
 (.cond (.t 24) .skip (.exit 0)))
 (.block 1 (q (T [
 u 25 (.fld 0) [4],
 t 26 (.load v12) [25] [0],
 m 27 1,
 o 28 (.idxA 58) [(.t 27),(.c (.int .i64 0))] [2],
 t 29 (.load vk0) [28] [3],
 m 30 2,
 o 31 (.idxA 58) [(.t 30),(.c (.int .i64 0))] [5],
 t 32 (.load vk0) [31] [6],
 t 33 (.call [14]) [26,29,32] [1,4,7],
 t 10 .mv [33] [8]])
 (.block 2 (q (F [
 m 50 10,
 o 51 (.bin .lss) [(.t 50),(.c (.int .i64 0))] [],
 m 49 51])
 (.cond (.t 49) (T [
 m 52 9,
 m 53 1,
 o 54 (.idxA 58) [(.t 53),(.c (.int .i64 0))] [1],
 t 55 (.load vk0) [54] [2],
 t 56 (.buildSl 5 58) [55] [3],
 t 57 (.append 6 58 48) [52,56] [0,4],
 m 58 1,
 o 59 (.slice (some 58) true false false) [(.t 58),(.c (.int .i64 1))] [6],
 t 9 .mv [57] [5],
 t 1 .mv [59] [7,8]]) (q (F [
 m 61 10,
 o 62 (.bin .gtr) [(.t 61),(.c (.int .i64 0))] [],
 m 60 62])
 (.cond (.t 60) (T [
 m 63 9,
 m 64 2,
 o 65 (.idxA 58) [(.t 64),(.c (.int .i64 0))] [1],
 t 66 (.load vk0) [65] [2],
 t 67 (.buildSl 7 58) [66] [3],
 t 68 (.append 8 58 48) [63,67] [0,4],
 m 69 2,
 o 70 (.slice (some 58) true false false) [(.t 69),(.c (.int .i64 1))] [6],
 t 9 .mv [68] [5],
 t 2 .mv [70] [7,8]]) (T [
 m 34 9,
 m 35 3,
 m 36 1,
 o 37 (.idxA 58) [(.t 36),(.c (.int .i64 0))] [2],
 t 38 (.load vk0) [37] [3],
 m 39 2,
 o 40 (.idxA 58) [(.t 39),(.c (.int .i64 0))] [5],
 t 41 (.load vk0) [40] [6],
 t 42 (.call [15]) [35,38,41] [1,4,7],
 t 43 (.buildSl 9 58) [42] [8],
 t 44 (.append 10 58 48) [34,43] [0,9],
 m 45 1,
 o 46 (.slice (some 58) true false false) [(.t 45),(.c (.int .i64 1))] [11],
 m 47 2,
 o 48 (.slice (some 58) true false false) [(.t 47),(.c (.int .i64 1))] [13],
 t 9 .mv [44] [10],
 t 1 .mv [46] [12,15],
 t 2 .mv [48] [14,16]])))))))))))
 (q (F [
 m 71 9,
 m 72 1,
 u 73 (.append 11 58 48) [71,72],
 m 74 2,
 u 75 (.append 12 58 48) [73,74],
 m 8 75])
 .ret)))⟩
def c_local_first_101 : DFun := ⟨6,5,[.p,.p],[.p vk0],[.c 4],
 q (F [
 u 2 (.box 2) [0],
 u 3 (.box 3) [1],
 u 4 (.alloc 4 zs0) []])
 (q (F [
 u 5 (.load vk0) [2],
 ⟨none,.store vk0,[(.t 4),(.t 5)],[],none⟩])
 .ret)⟩
def c_api_Attest_merge : DFun := ⟨76,16,[.p,.p,.p,.p],[.o 84],[.t 8],
 q (F [
 u 4 .boxF [0],
 o 8 (.mv) [(.c (.zs 84 true))] []])
 (q (F [
 m 11 1,
 u 12 .len [11],
 m 13 2,
 u 14 .len [13],
 u 15 (.bin .add) [12,14],
 o 16 (.mkSl 4 84 (D.agg [(D.int .u32 0),(D.sl 51 true [])]) 32) [(.c (.int .i64 0)),(.t 15)] [],
 m 9 16])
 (q (.block 0 (.loop ⟨[3,4],[(1,.p v9),(2,.p v9),(9,.o 13 84)],[]⟩ (q (q (F [
 m 17 1,
 u 18 .len [17],
 o 19 (.bin .gtr) [(.t 18),(.c (.int .i64 0))] [],
 m 20 19,
 g 21 (.mv) [2] [] 20 true,
 g 22 (.len) [21] [] 20 true,
 ⟨some 23,.bin .gtr,[(.t 22),(.c (.int .i64 0))],[],some (20,true)⟩,
 o 24 (.pick) [(.t 20),(.t 23),(.c (.bool false))] []])
 (.cond (.t 24) .skip (.exit 0)))
 (.block 1 (q (T [
 u 25 (.fld 0) [4],
 t 26 (.load v12) [25] [0],
 m 27 1,
 o 28 (.idxA 84) [(.t 27),(.c (.int .i64 0))] [2],
 t 29 (.load v1) [28] [3],
 m 30 2,
 o 31 (.idxA 84) [(.t 30),(.c (.int .i64 0))] [5],
 t 32 (.load v1) [31] [6],
 t 33 (.call [14]) [26,29,32] [1,4,7],
 t 10 .mv [33] [8]])
 (.block 2 (q (F [
 m 50 10,
 o 51 (.bin .lss) [(.t 50),(.c (.int .i64 0))] [],
 m 49 51])
 (.cond (.t 49) (T [
 m 52 9,
 m 53 1,
 o 54 (.idxA 84) [(.t 53),(.c (.int .i64 0))] [1],
 t 55 (.load v1) [54] [2],
 t 56 (.buildSl 5 84) [55] [3],
 t 57 (.append 6 84 32) [52,56] [0,4],
 m 58 1,
 o 59 (.slice (some 84) true false false) [(.t 58),(.c (.int .i64 1))] [6],
 t 9 .mv [57] [5],
 t 1 .mv [59] [7,8]]) (q (F [
 m 61 10,
 o 62 (.bin .gtr) [(.t 61),(.c (.int .i64 0))] [],
 m 60 62])
 (.cond (.t 60) (T [
 m 63 9,
 m 64 2,
 o 65 (.idxA 84) [(.t 64),(.c (.int .i64 0))] [1],
 t 66 (.load v1) [65] [2],
 t 67 (.buildSl 7 84) [66] [3],
 t 68 (.append 8 84 32) [63,67] [0,4],
 m 69 2,
 o 70 (.slice (some 84) true false false) [(.t 69),(.c (.int .i64 1))] [6],
 t 9 .mv [68] [5],
 t 2 .mv [70] [7,8]]) (T [
 m 34 9,
 m 35 3,
 m 36 1,
 o 37 (.idxA 84) [(.t 36),(.c (.int .i64 0))] [2],
 t 38 (.load v1) [37] [3],
 m 39 2,
 o 40 (.idxA 84) [(.t 39),(.c (.int .i64 0))] [5],
 t 41 (.load v1) [40] [6],
 t 42 (.call [15]) [35,38,41] [1,4,7],
 t 43 (.buildSl 9 84) [42] [8],
 t 44 (.append 10 84 32) [34,43] [0,9],
 m 45 1,
 o 46 (.slice (some 84) true false false) [(.t 45),(.c (.int .i64 1))] [11],
 m 47 2,
 o 48 (.slice (some 84) true false false) [(.t 47),(.c (.int .i64 1))] [13],
 t 9 .mv [44] [10],
 t 1 .mv [46] [12,15],
 t 2 .mv [48] [14,16]])))))))))))
 (q (F [
 m 71 9,
 m 72 1,
 u 73 (.append 11 84 32) [71,72],
 m 74 2,
 u 75 (.append 12 84 32) [73,74],
 m 8 75])
 .ret)))⟩
def c_slices_Concat : DFun := ⟨36,4,[.p],[.o 51],[.t 2],
 q (F [
 o 2 (.mv) [(.c (.zs 51 true))] []])
 (q (F [
 i 3 0])
 (q (q (F [
 m 9 0,
 u 10 .len [9],
 i 11 0])
 (.block 0 (.loop ⟨[0,9,10],[(3,.p v0),(11,.p v0)],[]⟩ (q (F [
 u 12 (.bin .lss) [11,10]])
 (q (.cond (.t 12) .skip (.exit 0))
 (q (.block 1 (q (F [
 u 13 (.idxA 26) [9,11],
 u 14 (.load v3) [13],
 m 5 14])
 (q (F [
 m 15 3,
 m 16 5,
 u 17 .len [16],
 u 18 (.bin .add) [15,17],
 m 3 18])
 (q (F [
 m 19 3,
 o 20 (.bin .lss) [(.t 19),(.c (.int .i64 0))] []])
 (.cond (.t 20) (F [
 u 21 .bad [],
 ⟨none,.bad,[],[],none⟩]) .skip)))))
 (F [
 o 22 (.bin .add) [(.t 11),(.c (.int .i64 1))] [],
 m 11 22])))))))
 (q (F [
 m 23 3,
 o 24 (.call [2]) [(.c (.fn 153 [])),(.c (.zs 51 true)),(.t 23)] [],
 m 6 24])
 (q (q (F [
 m 25 0,
 u 26 .len [25],
 i 27 0])
 (.block 2 (.loop ⟨[25,26],[(6,.o 3 51),(27,.p v0)],[]⟩ (q (F [
 u 28 (.bin .lss) [27,26]])
 (q (.cond (.t 28) .skip (.exit 2))
 (q (.block 3 (q (F [
 u 29 (.idxA 26) [25,27],
 u 30 (.load v3) [29],
 m 8 30])
 (F [
 m 31 6,
 m 32 8,
 u 33 (.append 1 51 4) [31,32],
 m 6 33])))
 (F [
 o 34 (.bin .add) [(.t 27),(.c (.int .i64 1))] [],
 m 27 34])))))))
 (q (F [
 m 35 6,
 m 2 35])
 .ret)))))⟩
def c_local_union : DFun := ⟨33,11,[.p,.p],[.p v1],[.c 4],
 q (F [
 u 2 (.box 2) [0],
 u 3 (.box 3) [1],
 u 4 (.alloc 4 [(D.int .u32 0),(D.zs 51 true)]) []])
 (q (F [
 u 8 (.mkMap 5 v5 v2) [],
 m 5 8])
 (q (q (F [
 u 9 (.fld 1) [2],
 u 10 (.load v3) [9],
 u 11 (.fld 1) [3],
 u 12 (.load v3) [11],
 u 13 (.buildSl 6 26) [10,12],
 y 14 139 [7] [13] [],
 u 15 .len [14],
 i 16 0])
 (.block 0 (.loop ⟨[2,4,5,14,15],[(16,.p v0)],[(2,.v [.p (.int .u32),.p (.sl 51)]),(4,.v [.p (.int .u32),.o 8 51]),(5,.m v5 v2),(7,.a 51)]⟩ (q (F [
 u 17 (.bin .lss) [16,15]])
 (q (.cond (.t 17) .skip (.exit 0))
 (q (.block 1 (q (F [
 u 18 (.idxA 51) [14,16],
 u 19 (.load v5) [18],
 m 7 19])
 (F [
 m 20 5,
 m 21 7,
 ⟨none,.mset v5 v2,[(.t 20),(.t 21),(.c (.bool true))],[],none⟩])))
 (F [
 o 22 (.bin .add) [(.t 16),(.c (.int .i64 1))] [],
 m 16 22])))))))
 (q (q (F [
 m 23 5,
 u 24 .lenM [23],
 o 25 (.bin .gtr) [(.t 24),(.c (.int .i64 1))] []])
 (.cond (.t 25) (F [
 m 26 5,
 ⟨none,.mdel v5,[(.t 26),(.c (.int .u32 0))],[],none⟩]) .skip))
 (q (T [
 u 27 (.fld 0) [2],
 t 28 (.load v5) [27] [0],
 u 29 .frzM [5],
 y 30 141 [9] [29] [2],
 y 31 140 [10] [30] [3],
 t 32 (.build [(D.int .u32 0),(D.zs 51 true)] [(0,1),(1,1)]) [28,31] [1,4],
 ⟨none,.store v1,[(.t 4),(.t 32)],[5],none⟩])
 .ret))))⟩
def c_api_RouterKey_merge : DFun := ⟨76,16,[.p,.p,.p,.p],[.o 64],[.t 8],
 q (F [
 u 4 .boxF [0],
 o 8 (.mv) [(.c (.zs 64 true))] []])
 (q (F [
 m 11 1,
 u 12 .len [11],
 m 13 2,
 u 14 .len [13],
 u 15 (.bin .add) [12,14],
 o 16 (.mkSl 4 64 (D.agg zs1) 32) [(.c (.int .i64 0)),(.t 15)] [],
 m 9 16])
 (q (.block 0 (.loop ⟨[3,4],[(1,.p v10),(2,.p v10),(9,.o 13 64)],[]⟩ (q (q (F [
 m 17 1,
 u 18 .len [17],
 o 19 (.bin .gtr) [(.t 18),(.c (.int .i64 0))] [],
 m 20 19,
 g 21 (.mv) [2] [] 20 true,
 g 22 (.len) [21] [] 20 true,
 ⟨some 23,.bin .gtr,[(.t 22),(.c (.int .i64 0))],[],some (20,true)⟩,
 o 24 (.pick) [(.t 20),(.t 23),(.c (.bool false))] []])
 (.cond (.t 24) .skip (.exit 0)))
 (.block 1 (q (T [
 u 25 (.fld 0) [4],
 t 26 (.load v12) [25] [0],
 m 27 1,
 o 28 (.idxA 64) [(.t 27),(.c (.int .i64 0))] [2],
 t 29 (.load vk2) [28] [3],
 m 30 2,
 o 31 (.idxA 64) [(.t 30),(.c (.int .i64 0))] [5],
 t 32 (.load vk2) [31] [6],
 t 33 (.call [14]) [26,29,32] [1,4,7],
 t 10 .mv [33] [8]])
 (.block 2 (q (F [
 m 50 10,
 o 51 (.bin .lss) [(.t 50),(.c (.int .i64 0))] [],
 m 49 51])
 (.cond (.t 49) (T [
 m 52 9,
 m 53 1,
 o 54 (.idxA 64) [(.t 53),(.c (.int .i64 0))] [1],
 t 55 (.load vk2) [54] [2],
 t 56 (.buildSl 5 64) [55] [3],
 t 57 (.append 6 64 32) [52,56] [0,4],
 m 58 1,
 o 59 (.slice (some 64) true false false) [(.t 58),(.c (.int .i64 1))] [6],
 t 9 .mv [57] [5],
 t 1 .mv [59] [7,8]]) (q (F [
 m 61 10,
 o 62 (.bin .gtr) [(.t 61),(.c (.int .i64 0))] [],
 m 60 62])
 (.cond (.t 60) (T [
 m 63 9,
 m 64 2,
 o 65 (.idxA 64) [(.t 64),(.c (.int .i64 0))] [1],
 t 66 (.load vk2) [65] [2],
 t 67 (.buildSl 7 64) [66] [3],
 t 68 (.append 8 64 32) [63,67] [0,4],
 m 69 2,
 o 70 (.slice (some 64) true false false) [(.t 69),(.c (.int .i64 1))] [6],
 t 9 .mv [68] [5],
 t 2 .mv [70] [7,8]]) (T [
 m 34 9,
 m 35 3,
 m 36 1,
 o 37 (.idxA 64) [(.t 36),(.c (.int .i64 0))] [2],
 t 38 (.load vk2) [37] [3],
 m 39 2,
 o 40 (.idxA 64) [(.t 39),(.c (.int .i64 0))] [5],
 t 41 (.load vk2) [40] [6],
 t 42 (.call [15]) [35,38,41] [1,4,7],
 t 43 (.buildSl 9 64) [42] [8],
 t 44 (.append 10 64 32) [34,43] [0,9],
 m 45 1,
 o 46 (.slice (some 64) true false false) [(.t 45),(.c (.int .i64 1))] [11],
 m 47 2,
 o 48 (.slice (some 64) true false false) [(.t 47),(.c (.int .i64 1))] [13],
 t 9 .mv [44] [10],
 t 1 .mv [46] [12,15],
 t 2 .mv [48] [14,16]])))))))))))
 (q (F [
 m 71 9,
 m 72 1,
 u 73 (.append 11 64 32) [71,72],
 m 74 2,
 u 75 (.append 12 64 32) [73,74],
 m 8 75])
 .ret)))⟩
def c_local_first_105 : DFun := ⟨6,5,[.p,.p],[.p vk2],[.c 4],
 q (F [
 u 2 (.box 2) [0],
 u 3 (.box 3) [1],
 u 4 (.alloc 4 zs1) []])
 (q (F [
 u 5 (.load vk2) [2],
 ⟨none,.store vk2,[(.t 4),(.t 5)],[],none⟩])
 .ret)⟩
def c_local_add : DFun := ⟨31,12,[.p,.p],[.p v15],[.c 4],
 q (F [
 u 2 (.box 2) [0],
 u 3 (.box 3) [1],
 u 4 (.alloc 4 zs6) []])
 (q (F [
 o 8 (.build [D.nilfn,D.nilfn] [(0,1)]) [(.c (.fn 97 []))] [],
 u 5 (.alloc 5 [D.nilfn,D.nilfn]) [],
 ⟨none,.store v11,[(.t 5),(.t 8)],[],none⟩])
 (q (F [
 o 9 (.build [D.nilfn,D.nilfn] [(0,1)]) [(.c (.fn 98 []))] [],
 u 6 (.alloc 6 [D.nilfn,D.nilfn]) [],
 ⟨none,.store v11,[(.t 6),(.t 9)],[],none⟩])
 (q (F [
 o 10 (.build [D.nilfn,D.nilfn] [(0,1)]) [(.c (.fn 99 []))] [],
 u 7 (.alloc 7 [D.nilfn,D.nilfn]) [],
 ⟨none,.store v11,[(.t 7),(.t 10)],[],none⟩])
 (q (T [
 u 11 (.load v11) [5],
 u 12 (.fld 0) [2],
 t 13 (.load v8) [12] [1],
 u 14 (.fld 0) [3],
 t 15 (.load v8) [14] [3],
 o 16 (.call [8]) [(.c (.fn 100 [])),(.t 11),(.t 13),(.t 15),(.c (.fn 101 []))] [0,2,4],
 u 17 (.load v11) [6],
 u 18 (.fld 1) [2],
 t 19 (.load v9) [18] [7],
 u 20 (.fld 1) [3],
 t 21 (.load v9) [20] [9],
 o 22 (.call [9]) [(.c (.fn 102 [])),(.t 17),(.t 19),(.t 21),(.c (.fn 103 []))] [5,6,8,10],
 u 23 (.load v11) [7],
 u 24 (.fld 2) [2],
 t 25 (.load v10) [24] [13],
 u 26 (.fld 2) [3],
 t 27 (.load v10) [26] [15],
 o 28 (.call [10]) [(.c (.fn 104 [])),(.t 23),(.t 25),(.t 27),(.c (.fn 105 []))] [11,12,14,16],
 t 29 (.build zs6 [(0,1),(1,1),(2,1)]) [16,22,28] [17],
 y 30 53 [11] [29] [18],
 ⟨none,.store v15,[(.t 4),(.t 30)],[19],none⟩])
 .ret))))⟩
def c_local_Join : DFun := ⟨57,22,[.p],[.p vk6,.p v0],[.c 2,.t 3],
 q (F [
 u 2 (.alloc 1 zs7) [],
 i 3 0])
 (q (q (F [
 m 8 0,
 u 9 .len [8],
 o 10 (.bin .gtr) [(.t 9),(.c (.int .i64 20))] []])
 (.cond (.t 10) (q (F [
 u 11 (.build zs7 []) [],
 ⟨none,.store vk6,[(.t 2),(.t 11)],[],none⟩,
 i 3 4])
 .ret) .skip))
 (q (F [
 u 4 (.alloc 2 zs7) []])
 (q (q (F [
 m 12 0,
 u 13 .len [12],
 i 14 0])
 (.block 0 (.loop ⟨[2,4,12,13],[(14,.p v0)],[(1,.v [.o 4 70,.o 5 73,.o 6 51,.o 7 58,.o 8 84,.o 9 64]),(2,.v [.o 10 70,.o 11 73,.o 12 51,.p (.sl 58),.p (.sl 84),.p (.sl 64)])]⟩ (q (F [
 u 15 (.bin .lss) [14,13]])
 (q (.cond (.t 15) .skip (.exit 0))
 (q (.block 1 (q (F [
 u 16 (.idxA 33) [12,14],
 u 17 (.load vk6) [16],
 u 6 (.alloc 3 zs7) [],
 ⟨none,.store vk6,[(.t 6),(.t 17)],[],none⟩])
 (q (q (F [
 u 18 (.load vk6) [6],
 y 19 33 [13] [18] [],
 m 7 19])
 (q (F [
 m 20 7,
 o 21 (.bin .neq) [(.t 20),(.c (.int .i64 0))] []])
 (.cond (.t 21) (q (F [
 u 22 (.build zs7 []) [],
 m 23 7,
 ⟨none,.store vk6,[(.t 2),(.t 22)],[],none⟩,
 m 3 23])
 .ret) .skip)))
 (q (T [
 y 24 36 [14] [] [],
 u 25 (.fld 0) [4],
 t 26 (.load v13) [25] [1],
 u 27 (.fld 0) [6],
 t 28 (.load v13) [27] [3],
 o 29 (.call [15]) [(.c (.fn 37 [])),(.t 24),(.t 26),(.t 28),(.c (.fn 38 []))] [0,2,4],
 t 30 (.fld 0) [4] [5],
 ⟨none,.store v13,[(.t 30),(.t 29)],[6],none⟩])
 (q (T [
 y 31 39 [16] [] [],
 u 32 (.fld 1) [4],
 t 33 (.load v14) [32] [1],
 u 34 (.fld 1) [6],
 t 35 (.load v14) [34] [3],
 o 36 (.call [17]) [(.c (.fn 40 [])),(.t 31),(.t 33),(.t 35),(.c (.fn 41 []))] [0,2,4],
 t 37 (.fld 1) [4] [5],
 ⟨none,.store v14,[(.t 37),(.t 36)],[6],none⟩])
 (q (T [
 y 38 42 [18] [] [],
 u 39 (.fld 2) [4],
 t 40 (.load v3) [39] [1],
 u 41 (.fld 2) [6],
 t 42 (.load v3) [41] [3],
 o 43 (.call [19]) [(.c (.fn 43 [])),(.t 38),(.t 40),(.t 42),(.c (.fn 44 []))] [0,2,4],
 t 44 (.fld 2) [4] [5],
 ⟨none,.store v3,[(.t 44),(.t 43)],[6],none⟩])
 (F [
 u 45 (.fld 3) [4],
 u 46 (.load v15) [45],
 u 47 (.fld 3) [6],
 u 48 (.load v15) [47],
 y 49 45 [20] [46,48] [],
 u 50 (.fld 3) [4],
 ⟨none,.store v15,[(.t 50),(.t 49)],[],none⟩])))))))
 (F [
 o 51 (.bin .add) [(.t 14),(.c (.int .i64 1))] [],
 m 14 51])))))))
 (q (q (F [
 u 52 (.load vk6) [4],
 y 53 33 [21] [52] [],
 o 54 (.bin .neq) [(.t 53),(.c (.int .i64 0))] []])
 (.cond (.t 54) (q (F [
 u 55 (.build zs7 []) [],
 ⟨none,.store vk6,[(.t 2),(.t 55)],[],none⟩,
 i 3 4])
 .ret) .skip))
 (q (F [
 u 56 (.load vk6) [4],
 ⟨none,.store vk6,[(.t 2),(.t 56)],[],none⟩,
 i 3 0])
 .ret)))))⟩
def c_gatepathref34_SamePath : DFun := ⟨38,4,[.p,.p],[.p v2],[.t 4],
 q (F [
 u 2 (.box 2) [0],
 u 3 (.box 3) [1],
 o 4 (.mv) [(.c (.bool false))] []])
 (q (q (F [
 u 6 (.fld 0) [2],
 u 7 (.load v5) [6],
 u 8 (.fld 0) [3],
 u 9 (.load v5) [8],
 u 10 (.bin .neq) [7,9],
 m 11 10,
 g 12 (.fld 1) [2] [] 11 false,
 g 13 (.load v3) [12] [] 11 false,
 g 14 (.len) [13] [] 11 false,
 g 15 (.fld 1) [3] [] 11 false,
 g 16 (.load v3) [15] [] 11 false,
 g 17 (.len) [16] [] 11 false,
 g 18 (.bin .neq) [14,17] [] 11 false,
 o 19 (.pick) [(.t 11),(.c (.bool true)),(.t 18)] []])
 (.cond (.t 19) (q (F [
 o 4 (.mv) [(.c (.bool false))] []])
 .ret) .skip))
 (q (q (F [
 i 5 0])
 (.block 0 (.loop ⟨[2,3],[(5,.p v0)],[(2,.v [.p (.int .u32),.p (.sl 51)]),(3,.v [.p (.int .u32),.p (.sl 51)])]⟩ (q (q (F [
 m 20 5,
 u 21 (.fld 1) [2],
 u 22 (.load v3) [21],
 u 23 .len [22],
 u 24 (.bin .lss) [20,23]])
 (.cond (.t 24) .skip (.exit 0)))
 (q (.block 1 (q (T [
 u 27 (.fld 1) [2],
 t 28 (.load v3) [27] [0],
 m 29 5,
 t 30 (.idxA 51) [28,29] [1,2],
 t 31 (.load v5) [30] [3],
 u 32 (.fld 1) [3],
 t 33 (.load v3) [32] [5],
 m 34 5,
 t 35 (.idxA 51) [33,34] [6,7],
 t 36 (.load v5) [35] [8],
 t 37 (.bin .neq) [31,36] [4,9]])
 (.cond (.t 37) (q (F [
 o 4 (.mv) [(.c (.bool false))] []])
 .ret) .skip)))
 (F [
 m 25 5,
 o 26 (.bin .add) [(.t 25),(.c (.int .i64 1))] [],
 m 5 26]))))))
 (q (F [
 o 4 (.mv) [(.c (.bool true))] []])
 .ret)))⟩
def c_gatepathref34_Same : DFun := ⟨88,5,[.p,.p],[.p v2],[.t 4],
 q (F [
 u 2 (.box 2) [0],
 u 3 (.box 3) [1],
 o 4 (.mv) [(.c (.bool false))] []])
 (q (q (F [
 u 8 (.fld 0) [2],
 u 9 (.load v8) [8],
 u 10 .len [9],
 u 11 (.fld 0) [3],
 u 12 (.load v8) [11],
 u 13 .len [12],
 u 14 (.bin .neq) [10,13],
 m 15 14,
 g 16 (.fld 1) [2] [] 15 false,
 g 17 (.load v9) [16] [] 15 false,
 g 18 (.len) [17] [] 15 false,
 g 19 (.fld 1) [3] [] 15 false,
 g 20 (.load v9) [19] [] 15 false,
 g 21 (.len) [20] [] 15 false,
 g 22 (.bin .neq) [18,21] [] 15 false,
 o 23 (.pick) [(.t 15),(.c (.bool true)),(.t 22)] [],
 m 24 23,
 g 25 (.fld 2) [2] [] 24 false,
 g 26 (.load v10) [25] [] 24 false,
 g 27 (.len) [26] [] 24 false,
 g 28 (.fld 2) [3] [] 24 false,
 g 29 (.load v10) [28] [] 24 false,
 g 30 (.len) [29] [] 24 false,
 g 31 (.bin .neq) [27,30] [] 24 false,
 o 32 (.pick) [(.t 24),(.c (.bool true)),(.t 31)] []])
 (.cond (.t 32) (q (F [
 o 4 (.mv) [(.c (.bool false))] []])
 .ret) .skip))
 (q (q (F [
 i 5 0])
 (.block 0 (.loop ⟨[2,3],[(5,.p v0)],[(2,.v [.p (.sl 58),.p (.sl 84),.p (.sl 64)]),(3,.v [.p (.sl 58),.p (.sl 84),.p (.sl 64)])]⟩ (q (q (F [
 m 33 5,
 u 34 (.fld 0) [2],
 u 35 (.load v8) [34],
 u 36 .len [35],
 u 37 (.bin .lss) [33,36]])
 (.cond (.t 37) .skip (.exit 0)))
 (q (.block 1 (q (T [
 u 40 (.fld 0) [2],
 t 41 (.load v8) [40] [0],
 m 42 5,
 t 43 (.idxA 58) [41,42] [1,2],
 t 44 (.load vk0) [43] [3],
 u 45 (.fld 0) [3],
 t 46 (.load v8) [45] [5],
 m 47 5,
 t 48 (.idxA 58) [46,47] [6,7],
 t 49 (.load vk0) [48] [8],
 t 50 (.eqv true vk0) [44,49] [4,9]])
 (.cond (.t 50) (q (F [
 o 4 (.mv) [(.c (.bool false))] []])
 .ret) .skip)))
 (F [
 m 38 5,
 o 39 (.bin .add) [(.t 38),(.c (.int .i64 1))] [],
 m 5 39]))))))
 (q (q (F [
 i 6 0])
 (.block 2 (.loop ⟨[2,3],[(6,.p v0)],[(2,.v [.p (.sl 58),.p (.sl 84),.p (.sl 64)]),(3,.v [.p (.sl 58),.p (.sl 84),.p (.sl 64)])]⟩ (q (q (F [
 m 51 6,
 u 52 (.fld 1) [2],
 u 53 (.load v9) [52],
 u 54 .len [53],
 u 55 (.bin .lss) [51,54]])
 (.cond (.t 55) .skip (.exit 2)))
 (q (.block 3 (q (T [
 u 58 (.fld 1) [2],
 t 59 (.load v9) [58] [0],
 m 60 6,
 t 61 (.idxA 84) [59,60] [1,2],
 t 62 (.load v1) [61] [3],
 u 63 (.fld 1) [3],
 t 64 (.load v9) [63] [5],
 m 65 6,
 t 66 (.idxA 84) [64,65] [6,7],
 t 67 (.load v1) [66] [8],
 y 68 67 [4] [62,67] [4,9],
 t 69 .not [68] [10]])
 (.cond (.t 69) (q (F [
 o 4 (.mv) [(.c (.bool false))] []])
 .ret) .skip)))
 (F [
 m 56 6,
 o 57 (.bin .add) [(.t 56),(.c (.int .i64 1))] [],
 m 6 57]))))))
 (q (q (F [
 i 7 0])
 (.block 4 (.loop ⟨[2,3],[(7,.p v0)],[(2,.v [.p (.sl 58),.p (.sl 84),.p (.sl 64)]),(3,.v [.p (.sl 58),.p (.sl 84),.p (.sl 64)])]⟩ (q (q (F [
 m 70 7,
 u 71 (.fld 2) [2],
 u 72 (.load v10) [71],
 u 73 .len [72],
 u 74 (.bin .lss) [70,73]])
 (.cond (.t 74) .skip (.exit 4)))
 (q (.block 5 (q (T [
 u 77 (.fld 2) [2],
 t 78 (.load v10) [77] [0],
 m 79 7,
 t 80 (.idxA 64) [78,79] [1,2],
 t 81 (.load vk2) [80] [3],
 u 82 (.fld 2) [3],
 t 83 (.load v10) [82] [5],
 m 84 7,
 t 85 (.idxA 64) [83,84] [6,7],
 t 86 (.load vk2) [85] [8],
 t 87 (.eqv true vk2) [81,86] [4,9]])
 (.cond (.t 87) (q (F [
 o 4 (.mv) [(.c (.bool false))] []])
 .ret) .skip)))
 (F [
 m 75 7,
 o 76 (.bin .add) [(.t 75),(.c (.int .i64 1))] [],
 m 7 76]))))))
 (q (F [
 o 4 (.mv) [(.c (.bool true))] []])
 .ret)))))⟩
def c_gatepathref43_Same : DFun := ⟨92,5,[.p,.p],[.p v2],[.t 4],
 q (F [
 u 2 (.box 2) [0],
 u 3 (.box 3) [1],
 o 4 (.mv) [(.c (.bool false))] []])
 (q (q (F [
 u 8 (.fld 0) [2],
 u 9 (.load v13) [8],
 u 10 .len [9],
 u 11 (.fld 0) [3],
 u 12 (.load v13) [11],
 u 13 .len [12],
 u 14 (.bin .neq) [10,13],
 m 15 14,
 g 16 (.fld 1) [2] [] 15 false,
 g 17 (.load v14) [16] [] 15 false,
 g 18 (.len) [17] [] 15 false,
 g 19 (.fld 1) [3] [] 15 false,
 g 20 (.load v14) [19] [] 15 false,
 g 21 (.len) [20] [] 15 false,
 g 22 (.bin .neq) [18,21] [] 15 false,
 o 23 (.pick) [(.t 15),(.c (.bool true)),(.t 22)] [],
 m 24 23,
 g 25 (.fld 2) [2] [] 24 false,
 g 26 (.load v3) [25] [] 24 false,
 g 27 (.len) [26] [] 24 false,
 g 28 (.fld 2) [3] [] 24 false,
 g 29 (.load v3) [28] [] 24 false,
 g 30 (.len) [29] [] 24 false,
 g 31 (.bin .neq) [27,30] [] 24 false,
 o 32 (.pick) [(.t 24),(.c (.bool true)),(.t 31)] []])
 (.cond (.t 32) (q (F [
 o 4 (.mv) [(.c (.bool false))] []])
 .ret) .skip))
 (q (q (F [
 i 5 0])
 (.block 0 (.loop ⟨[2,3],[(5,.p v0)],[(2,.v [.p (.sl 70),.p (.sl 73),.p (.sl 51),.p (.sl 58),.p (.sl 84),.p (.sl 64)]),(3,.v [.p (.sl 70),.p (.sl 73),.p (.sl 51),.p (.sl 58),.p (.sl 84),.p (.sl 64)])]⟩ (q (q (F [
 m 33 5,
 u 34 (.fld 0) [2],
 u 35 (.load v13) [34],
 u 36 .len [35],
 u 37 (.bin .lss) [33,36]])
 (.cond (.t 37) .skip (.exit 0)))
 (q (.block 1 (q (T [
 u 40 (.fld 0) [2],
 t 41 (.load v13) [40] [0],
 m 42 5,
 t 43 (.idxA 70) [41,42] [1,2],
 t 44 (.load vk4) [43] [3],
 u 45 (.fld 0) [3],
 t 46 (.load v13) [45] [5],
 m 47 5,
 t 48 (.idxA 70) [46,47] [6,7],
 t 49 (.load vk4) [48] [8],
 t 50 (.eqv true vk4) [44,49] [4,9]])
 (.cond (.t 50) (q (F [
 o 4 (.mv) [(.c (.bool false))] []])
 .ret) .skip)))
 (F [
 m 38 5,
 o 39 (.bin .add) [(.t 38),(.c (.int .i64 1))] [],
 m 5 39]))))))
 (q (q (F [
 i 6 0])
 (.block 2 (.loop ⟨[2,3],[(6,.p v0)],[(2,.v [.p (.sl 70),.p (.sl 73),.p (.sl 51),.p (.sl 58),.p (.sl 84),.p (.sl 64)]),(3,.v [.p (.sl 70),.p (.sl 73),.p (.sl 51),.p (.sl 58),.p (.sl 84),.p (.sl 64)])]⟩ (q (q (F [
 m 51 6,
 u 52 (.fld 1) [2],
 u 53 (.load v14) [52],
 u 54 .len [53],
 u 55 (.bin .lss) [51,54]])
 (.cond (.t 55) .skip (.exit 2)))
 (q (.block 3 (q (T [
 u 58 (.fld 1) [2],
 t 59 (.load v14) [58] [0],
 m 60 6,
 t 61 (.idxA 73) [59,60] [1,2],
 t 62 (.load vk5) [61] [3],
 u 63 (.fld 1) [3],
 t 64 (.load v14) [63] [5],
 m 65 6,
 t 66 (.idxA 73) [64,65] [6,7],
 t 67 (.load vk5) [66] [8],
 t 68 (.eqv true vk5) [62,67] [4,9]])
 (.cond (.t 68) (q (F [
 o 4 (.mv) [(.c (.bool false))] []])
 .ret) .skip)))
 (F [
 m 56 6,
 o 57 (.bin .add) [(.t 56),(.c (.int .i64 1))] [],
 m 6 57]))))))
 (q (q (F [
 i 7 0])
 (.block 4 (.loop ⟨[2,3],[(7,.p v0)],[(2,.v [.p (.sl 70),.p (.sl 73),.p (.sl 51),.p (.sl 58),.p (.sl 84),.p (.sl 64)]),(3,.v [.p (.sl 70),.p (.sl 73),.p (.sl 51),.p (.sl 58),.p (.sl 84),.p (.sl 64)])]⟩ (q (q (F [
 m 69 7,
 u 70 (.fld 2) [2],
 u 71 (.load v3) [70],
 u 72 .len [71],
 u 73 (.bin .lss) [69,72]])
 (.cond (.t 73) .skip (.exit 4)))
 (q (.block 5 (q (T [
 u 76 (.fld 2) [2],
 t 77 (.load v3) [76] [0],
 m 78 7,
 t 79 (.idxA 51) [77,78] [1,2],
 t 80 (.load v5) [79] [3],
 u 81 (.fld 2) [3],
 t 82 (.load v3) [81] [5],
 m 83 7,
 t 84 (.idxA 51) [82,83] [6,7],
 t 85 (.load v5) [84] [8],
 t 86 (.bin .neq) [80,85] [4,9]])
 (.cond (.t 86) (q (F [
 o 4 (.mv) [(.c (.bool false))] []])
 .ret) .skip)))
 (F [
 m 74 7,
 o 75 (.bin .add) [(.t 74),(.c (.int .i64 1))] [],
 m 7 75]))))))
 (q (F [
 u 87 (.fld 3) [2],
 u 88 (.load v15) [87],
 u 89 (.fld 3) [3],
 u 90 (.load v15) [89],
 y 91 23 [4] [88,90] [],
 m 4 91])
 .ret)))))⟩
def c_cmp_Or_52 : DFun := ⟨18,1,[.p],[.p v0],[.t 2],
 q (F [
 i 2 0])
 (q (F [
 i 3 0])
 (q (q (F [
 m 6 0,
 u 7 .len [6],
 i 8 0])
 (.block 0 (.loop ⟨[3,6,7],[(8,.p v0)],[]⟩ (q (F [
 u 9 (.bin .lss) [8,7]])
 (q (.cond (.t 9) .skip (.exit 0))
 (q (.block 1 (q (F [
 u 10 (.idxA 35) [6,8],
 u 11 (.load v0) [10],
 m 5 11])
 (q (F [
 m 12 5,
 m 13 3,
 u 14 (.bin .neq) [12,13]])
 (.cond (.t 14) (q (F [
 m 15 5,
 m 2 15])
 .ret) .skip))))
 (F [
 o 16 (.bin .add) [(.t 8),(.c (.int .i64 1))] [],
 m 8 16])))))))
 (q (F [
 m 17 3,
 m 2 17])
 .ret)))⟩
def c_slices_IndexFunc_146 : DFun := ⟨19,3,[.p,.p],[.p v0],[.t 4],
 q (F [
 i 4 0])
 (q (q (F [
 m 6 0,
 u 7 .len [6],
 i 8 0])
 (.block 0 (.loop ⟨[0,1,7],[(8,.p v0)],[]⟩ (q (F [
 u 9 (.bin .lss) [8,7]])
 (q (.cond (.t 9) .skip (.exit 0))
 (q (.block 1 (q (F [
 m 10 8,
 m 5 10])
 (q (F [
 m 11 1,
 m 12 0,
 m 13 5,
 u 14 (.idxA 58) [12,13],
 u 15 (.load vk0) [14],
 u 16 (.call [2]) [11,15]])
 (.cond (.t 16) (q (F [
 m 17 5,
 m 4 17])
 .ret) .skip))))
 (F [
 o 18 (.bin .add) [(.t 8),(.c (.int .i64 1))] [],
 m 8 18])))))))
 (q (F [
 i 4 (-1)])
 .ret))⟩
def c_slices_DeleteFunc_117 : DFun := ⟨42,5,[.g 58,.p],[.o 58],[.t 4],
 q (F [
 o 4 (.mv) [(.c (.zs 58 true))] []])
 (q (F [
 m 8 0,
 m 9 1,
 y 10 146 [3] [8,9] [],
 m 5 10])
 (q (q (F [
 m 11 5,
 o 12 (.bin .eql) [(.t 11),(.c (.int .i64 (-1)))] []])
 (.cond (.t 12) (q (F [
 m 13 0,
 m 4 13])
 .ret) .skip))
 (q (q (F [
 m 14 5,
 o 15 (.bin .add) [(.t 14),(.c (.int .i64 1))] [],
 m 6 15])
 (.block 0 (.loop ⟨[0,1],[(5,.p v0),(6,.p v0)],[(0,.a 58)]⟩ (q (q (F [
 m 16 6,
 m 17 0,
 u 18 .len [17],
 u 19 (.bin .lss) [16,18]])
 (.cond (.t 19) .skip (.exit 0)))
 (q (.block 1 (q (F [
 m 22 0,
 m 23 6,
 u 24 (.idxA 58) [22,23],
 u 25 (.load vk0) [24],
 u 7 (.alloc 2 zs0) [],
 ⟨none,.store vk0,[(.t 7),(.t 25)],[],none⟩])
 (q (F [
 m 26 1,
 u 27 (.load vk0) [7],
 u 28 (.call [4]) [26,27],
 u 29 .not [28]])
 (.cond (.t 29) (q (F [
 m 30 0,
 m 31 5,
 u 32 (.load vk0) [7],
 u 33 (.idxA 58) [30,31],
 ⟨none,.store vk0,[(.t 33),(.t 32)],[],none⟩])
 (F [
 m 34 5,
 o 35 (.bin .add) [(.t 34),(.c (.int .i64 1))] [],
 m 5 35])) .skip))))
 (F [
 m 20 6,
 o 21 (.bin .add) [(.t 20),(.c (.int .i64 1))] [],
 m 6 21]))))))
 (q (F [
 m 36 0,
 m 37 5,
 u 38 (.slice (some 58) true false false) [36,37],
 ⟨none,.clear 58 (D.agg zs0),[(.t 38)],[],none⟩])
 (q (F [
 m 39 0,
 m 40 5,
 u 41 (.slice (some 58) false true false) [39,40],
 m 4 41])
 .ret)))))⟩
def c_local_keep_54 : DFun := ⟨9,4,[.p,.p],[.o 58],[.t 4],
 q (F [
 o 4 (.mv) [(.c (.zs 58 true))] []])
 (q (F [
 m 5 0,
 y 6 114 [2] [5] [],
 m 7 1,
 y 8 117 [3] [6,7] [],
 m 4 8])
 .ret)⟩
def c_slices_IndexFunc_118 : DFun := ⟨19,3,[.p,.p],[.p v0],[.t 4],
 q (F [
 i 4 0])
 (q (q (F [
 m 6 0,
 u 7 .len [6],
 i 8 0])
 (.block 0 (.loop ⟨[0,1,7],[(8,.p v0)],[]⟩ (q (F [
 u 9 (.bin .lss) [8,7]])
 (q (.cond (.t 9) .skip (.exit 0))
 (q (.block 1 (q (F [
 m 10 8,
 m 5 10])
 (q (F [
 m 11 1,
 m 12 0,
 m 13 5,
 u 14 (.idxA 70) [12,13],
 u 15 (.load vk4) [14],
 u 16 (.call [2]) [11,15]])
 (.cond (.t 16) (q (F [
 m 17 5,
 m 4 17])
 .ret) .skip))))
 (F [
 o 18 (.bin .add) [(.t 8),(.c (.int .i64 1))] [],
 m 8 18])))))))
 (q (F [
 i 4 (-1)])
 .ret))⟩
def c_slices_ContainsFunc_56 : DFun := ⟨9,3,[.p,.p],[.p v2],[.t 4],
 q (F [
 o 4 (.mv) [(.c (.bool false))] []])
 (q (F [
 m 5 0,
 m 6 1,
 y 7 118 [2] [5,6] [],
 o 8 (.bin .geq) [(.t 7),(.c (.int .i64 0))] [],
 m 4 8])
 .ret)⟩
def c_number_Covers : DFun := ⟨38,8,[.p,.p],[.p v2],[.t 4],
 q (F [
 u 2 (.box 2) [0],
 u 3 (.box 3) [1],
 o 4 (.mv) [(.c (.bool false))] []])
 (q (q (F [
 u 5 (.load vk1) [2],
 y 6 69 [4] [5] [],
 o 7 (.bin .neq) [(.t 6),(.c (.int .i64 0))] [],
 m 8 7,
 g 9 (.load vk1) [3] [] 8 false,
 ⟨some 10,.call [5],[(.c (.fn 69 [])),(.t 9)],[],some (8,false)⟩,
 ⟨some 11,.bin .neq,[(.t 10),(.c (.int .i64 0))],[],some (8,false)⟩,
 o 12 (.pick) [(.t 8),(.c (.bool true)),(.t 11)] [],
 m 13 12,
 g 14 (.fld 0) [2] [] 13 false,
 g 15 (.load v6) [14] [] 13 false,
 g 16 (.fld 0) [3] [] 13 false,
 g 17 (.load v6) [16] [] 13 false,
 g 18 (.bin .neq) [15,17] [] 13 false,
 o 19 (.pick) [(.t 13),(.c (.bool true)),(.t 18)] [],
 m 20 19,
 g 21 (.fld 3) [2] [] 20 false,
 g 22 (.load v0) [21] [] 20 false,
 g 23 (.fld 3) [3] [] 20 false,
 g 24 (.load v0) [23] [] 20 false,
 g 25 (.bin .gtr) [22,24] [] 20 false,
 o 26 (.pick) [(.t 20),(.c (.bool true)),(.t 25)] []])
 (.cond (.t 26) (q (F [
 o 4 (.mv) [(.c (.bool false))] []])
 .ret) .skip))
 (q (T [
 u 27 (.fld 1) [3],
 t 28 (.load v7) [27] [0],
 u 29 (.fld 0) [2],
 t 30 (.load v6) [29] [2],
 u 31 (.fld 3) [2],
 t 32 (.load v0) [31] [4],
 y 33 71 [6] [30,32] [3,5],
 y 34 70 [7] [28,33] [1,6],
 u 35 (.fld 1) [2],
 t 36 (.load v7) [35] [8],
 t 37 (.eqv false v7) [34,36] [7,9],
 t 4 .mv [37] [10]])
 .ret))⟩
def c_local_Filter_1_1 : DFun := ⟨26,4,[.p,.p],[.p v2],[.t 3],
 q (F [
 u 2 (.box 2) [0],
 o 3 (.mv) [(.c (.bool false))] []])
 (q (F [
 u 4 (.fld 0) [2],
 u 5 (.load v2) [4],
 u 6 .not [5],
 m 7 6,
 g 8 (.fld 2) [2] [] 7 false,
 g 9 (.load vk1) [8] [] 7 false,
 g 10 (.fld 1) [1] [] 7 false,
 g 11 (.load vk1) [10] [] 7 false,
 ⟨some 12,.call [3],[(.c (.fn 28 [])),(.t 9),(.t 11)],[],some (7,false)⟩,
 o 13 (.pick) [(.t 7),(.c (.bool true)),(.t 12)] [],
 m 14 13,
 g 15 (.fld 1) [2] [] 14 true,
 g 16 (.load v2) [15] [] 14 true,
 g 17 (.not) [16] [] 14 true,
 g 18 (.mv) [17] [] 14 true,
 g 19 (.fld 6) [2] [] 18 false,
 g 20 (.load v5) [19] [] 18 false,
 g 21 (.fld 0) [1] [] 18 false,
 g 22 (.load v5) [21] [] 18 false,
 g 23 (.bin .eql) [20,22] [] 18 false,
 ⟨some 24,.pick,[(.t 18),(.c (.bool true)),(.t 23)],[],some (14,true)⟩,
 o 25 (.pick) [(.t 14),(.t 24),(.c (.bool false))] [],
 m 3 25])
 .ret)⟩
def c_local_Filter_1 : DFun := ⟨8,4,[.p,.p],[.p v2],[.t 3],
 q (F [
 u 2 (.box 2) [0],
 o 3 (.mv) [(.c (.bool false))] []])
 (q (F [
 u 4 (.fld 0) [1],
 u 5 (.load v13) [4],
 u 6 (.mkfn 57) [2],
 y 7 56 [3] [5,6] [],
 m 3 7])
 .ret)⟩
def c_slices_IndexFunc_147 : DFun := ⟨19,3,[.p,.p],[.p v0],[.t 4],
 q (F [
 i 4 0])
 (q (q (F [
 m 6 0,
 u 7 .len [6],
 i 8 0])
 (.block 0 (.loop ⟨[0,1,7],[(8,.p v0)],[]⟩ (q (F [
 u 9 (.bin .lss) [8,7]])
 (q (.cond (.t 9) .skip (.exit 0))
 (q (.block 1 (q (F [
 m 10 8,
 m 5 10])
 (q (F [
 m 11 1,
 m 12 0,
 m 13 5,
 u 14 (.idxA 64) [12,13],
 u 15 (.load vk2) [14],
 u 16 (.call [2]) [11,15]])
 (.cond (.t 16) (q (F [
 m 17 5,
 m 4 17])
 .ret) .skip))))
 (F [
 o 18 (.bin .add) [(.t 8),(.c (.int .i64 1))] [],
 m 8 18])))))))
 (q (F [
 i 4 (-1)])
 .ret))⟩
def c_slices_DeleteFunc_119 : DFun := ⟨42,5,[.g 64,.p],[.o 64],[.t 4],
 q (F [
 o 4 (.mv) [(.c (.zs 64 true))] []])
 (q (F [
 m 8 0,
 m 9 1,
 y 10 147 [3] [8,9] [],
 m 5 10])
 (q (q (F [
 m 11 5,
 o 12 (.bin .eql) [(.t 11),(.c (.int .i64 (-1)))] []])
 (.cond (.t 12) (q (F [
 m 13 0,
 m 4 13])
 .ret) .skip))
 (q (q (F [
 m 14 5,
 o 15 (.bin .add) [(.t 14),(.c (.int .i64 1))] [],
 m 6 15])
 (.block 0 (.loop ⟨[0,1],[(5,.p v0),(6,.p v0)],[(0,.a 64)]⟩ (q (q (F [
 m 16 6,
 m 17 0,
 u 18 .len [17],
 u 19 (.bin .lss) [16,18]])
 (.cond (.t 19) .skip (.exit 0)))
 (q (.block 1 (q (F [
 m 22 0,
 m 23 6,
 u 24 (.idxA 64) [22,23],
 u 25 (.load vk2) [24],
 u 7 (.alloc 2 zs1) [],
 ⟨none,.store vk2,[(.t 7),(.t 25)],[],none⟩])
 (q (F [
 m 26 1,
 u 27 (.load vk2) [7],
 u 28 (.call [4]) [26,27],
 u 29 .not [28]])
 (.cond (.t 29) (q (F [
 m 30 0,
 m 31 5,
 u 32 (.load vk2) [7],
 u 33 (.idxA 64) [30,31],
 ⟨none,.store vk2,[(.t 33),(.t 32)],[],none⟩])
 (F [
 m 34 5,
 o 35 (.bin .add) [(.t 34),(.c (.int .i64 1))] [],
 m 5 35])) .skip))))
 (F [
 m 20 6,
 o 21 (.bin .add) [(.t 20),(.c (.int .i64 1))] [],
 m 6 21]))))))
 (q (F [
 m 36 0,
 m 37 5,
 u 38 (.slice (some 64) true false false) [36,37],
 ⟨none,.clear 64 (D.agg zs1),[(.t 38)],[],none⟩])
 (q (F [
 m 39 0,
 m 40 5,
 u 41 (.slice (some 64) false true false) [39,40],
 m 4 41])
 .ret)))))⟩
def c_local_keep_58 : DFun := ⟨9,4,[.p,.p],[.o 64],[.t 4],
 q (F [
 o 4 (.mv) [(.c (.zs 64 true))] []])
 (q (F [
 m 5 0,
 y 6 115 [2] [5] [],
 m 7 1,
 y 8 119 [3] [6,7] [],
 m 4 8])
 .ret)⟩
def c_slices_IndexFunc_120 : DFun := ⟨19,3,[.p,.p],[.p v0],[.t 4],
 q (F [
 i 4 0])
 (q (q (F [
 m 6 0,
 u 7 .len [6],
 i 8 0])
 (.block 0 (.loop ⟨[0,1,7],[(8,.p v0)],[]⟩ (q (F [
 u 9 (.bin .lss) [8,7]])
 (q (.cond (.t 9) .skip (.exit 0))
 (q (.block 1 (q (F [
 m 10 8,
 m 5 10])
 (q (F [
 m 11 1,
 m 12 0,
 m 13 5,
 u 14 (.idxA 73) [12,13],
 u 15 (.load vk5) [14],
 u 16 (.call [2]) [11,15]])
 (.cond (.t 16) (q (F [
 m 17 5,
 m 4 17])
 .ret) .skip))))
 (F [
 o 18 (.bin .add) [(.t 8),(.c (.int .i64 1))] [],
 m 8 18])))))))
 (q (F [
 i 4 (-1)])
 .ret))⟩
def c_slices_ContainsFunc_60 : DFun := ⟨9,3,[.p,.p],[.p v2],[.t 4],
 q (F [
 o 4 (.mv) [(.c (.bool false))] []])
 (q (F [
 m 5 0,
 m 6 1,
 y 7 120 [2] [5,6] [],
 o 8 (.bin .geq) [(.t 7),(.c (.int .i64 0))] [],
 m 4 8])
 .ret)⟩
def c_local_Filter_2_1 : DFun := ⟨26,3,[.p,.p],[.p v2],[.t 3],
 q (F [
 u 2 (.box 2) [0],
 o 3 (.mv) [(.c (.bool false))] []])
 (q (F [
 u 4 (.fld 1) [2],
 u 5 (.load v2) [4],
 u 6 .not [5],
 m 7 6,
 g 8 (.fld 3) [2] [] 7 false,
 g 9 (.load vk3) [8] [] 7 false,
 g 10 (.fld 1) [1] [] 7 false,
 g 11 (.load vk3) [10] [] 7 false,
 g 12 (.eqv false vk3) [9,11] [] 7 false,
 o 13 (.pick) [(.t 7),(.c (.bool true)),(.t 12)] [],
 m 14 13,
 g 15 (.fld 0) [2] [] 14 true,
 g 16 (.load v2) [15] [] 14 true,
 g 17 (.not) [16] [] 14 true,
 g 18 (.mv) [17] [] 14 true,
 g 19 (.fld 2) [2] [] 18 false,
 g 20 (.load v5) [19] [] 18 false,
 g 21 (.fld 0) [1] [] 18 false,
 g 22 (.load v5) [21] [] 18 false,
 g 23 (.bin .eql) [20,22] [] 18 false,
 ⟨some 24,.pick,[(.t 18),(.c (.bool true)),(.t 23)],[],some (14,true)⟩,
 o 25 (.pick) [(.t 14),(.t 24),(.c (.bool false))] [],
 m 3 25])
 .ret)⟩
def c_local_Filter_2 : DFun := ⟨8,4,[.p,.p],[.p v2],[.t 3],
 q (F [
 u 2 (.box 2) [0],
 o 3 (.mv) [(.c (.bool false))] []])
 (q (F [
 u 4 (.fld 1) [1],
 u 5 (.load v14) [4],
 u 6 (.mkfn 61) [2],
 y 7 60 [3] [5,6] [],
 m 3 7])
 .ret)⟩
def c_slices_DeleteFunc_121 : DFun := ⟨42,5,[.g 84,.p],[.o 84],[.t 4],
 q (F [
 o 4 (.mv) [(.c (.zs 84 true))] []])
 (q (F [
 m 8 0,
 m 9 1,
 y 10 132 [3] [8,9] [],
 m 5 10])
 (q (q (F [
 m 11 5,
 o 12 (.bin .eql) [(.t 11),(.c (.int .i64 (-1)))] []])
 (.cond (.t 12) (q (F [
 m 13 0,
 m 4 13])
 .ret) .skip))
 (q (q (F [
 m 14 5,
 o 15 (.bin .add) [(.t 14),(.c (.int .i64 1))] [],
 m 6 15])
 (.block 0 (.loop ⟨[0,1],[(5,.p v0),(6,.p v0)],[(0,.a 84)]⟩ (q (q (F [
 m 16 6,
 m 17 0,
 u 18 .len [17],
 u 19 (.bin .lss) [16,18]])
 (.cond (.t 19) .skip (.exit 0)))
 (q (.block 1 (q (F [
 m 22 0,
 m 23 6,
 u 24 (.idxA 84) [22,23],
 u 25 (.load v1) [24],
 u 7 (.alloc 2 [(D.int .u32 0),(D.zs 51 true)]) [],
 ⟨none,.store v1,[(.t 7),(.t 25)],[],none⟩])
 (q (F [
 m 26 1,
 u 27 (.load v1) [7],
 u 28 (.call [4]) [26,27],
 u 29 .not [28]])
 (.cond (.t 29) (q (F [
 m 30 0,
 m 31 5,
 u 32 (.load v1) [7],
 u 33 (.idxA 84) [30,31],
 ⟨none,.store v1,[(.t 33),(.t 32)],[],none⟩])
 (F [
 m 34 5,
 o 35 (.bin .add) [(.t 34),(.c (.int .i64 1))] [],
 m 5 35])) .skip))))
 (F [
 m 20 6,
 o 21 (.bin .add) [(.t 20),(.c (.int .i64 1))] [],
 m 6 21]))))))
 (q (F [
 m 36 0,
 m 37 5,
 u 38 (.slice (some 84) true false false) [36,37],
 ⟨none,.clear 84 (D.agg [(D.int .u32 0),(D.sl 51 true [])]),[(.t 38)],[],none⟩])
 (q (F [
 m 39 0,
 m 40 5,
 u 41 (.slice (some 84) false true false) [39,40],
 m 4 41])
 .ret)))))⟩
def c_slices_Clone_122 : DFun := ⟨8,3,[.p],[.o 84],[.t 2],
 q (F [
 o 2 (.mv) [(.c (.zs 84 true))] []])
 (q (q (F [
 m 3 0,
 u 4 (.eqnil false) [3]])
 (.cond (.t 4) (q (F [
 o 2 (.mv) [(.c (.zs 84 true))] []])
 .ret) .skip))
 (q (F [
 u 5 (.buildSl 1 84) [],
 m 6 0,
 u 7 (.append 2 84 32) [5,6],
 m 2 7])
 .ret))⟩
def c_local_keep_62 : DFun := ⟨9,4,[.p,.p],[.o 84],[.t 4],
 q (F [
 o 4 (.mv) [(.c (.zs 84 true))] []])
 (q (F [
 m 5 0,
 y 6 122 [2] [5] [],
 m 7 1,
 y 8 121 [3] [6,7] [],
 m 4 8])
 .ret)⟩
def c_local_Filter_3 : DFun := ⟨9,4,[.p,.p],[.p v2],[.t 3],
 q (F [
 u 2 (.box 2) [0],
 o 3 (.mv) [(.c (.bool false))] []])
 (q (F [
 u 4 (.fld 2) [1],
 u 5 (.load v3) [4],
 u 6 (.fld 0) [2],
 u 7 (.load v5) [6],
 y 8 64 [3] [5,7] [],
 m 3 8])
 .ret)⟩
def c_local_Filter : DFun := ⟨35,13,[.p,.p],[.p v15,.p v0],[.c 4,.t 5],
 q (F [
 u 2 (.box 2) [0],
 u 3 (.box 3) [1],
 u 4 (.alloc 4 zs6) [],
 i 5 0])
 (q (q (T [
 u 7 (.load v15) [2],
 y 8 29 [6] [7] [0],
 u 9 (.load vk6) [3],
 y 10 33 [7] [9] [1,2],
 t 11 (.buildSl 5 35) [8,10] [3],
 y 12 52 [8] [11] [4],
 t 6 .mv [12] [5]])
 (q (F [
 m 13 6,
 o 14 (.bin .neq) [(.t 13),(.c (.int .i64 0))] []])
 (.cond (.t 14) (q (F [
 u 15 (.build zs6 []) [],
 m 16 6,
 ⟨none,.store v15,[(.t 4),(.t 15)],[],none⟩,
 m 5 16])
 .ret) .skip)))
 (q (F [
 u 17 (.load v15) [2],
 y 18 53 [9] [17] [],
 ⟨none,.store v15,[(.t 2),(.t 18)],[],none⟩])
 (q (F [
 u 19 (.fld 0) [2],
 u 20 (.load v8) [19],
 u 21 (.mkfn 55) [3],
 y 22 54 [10] [20,21] [],
 u 23 (.fld 0) [2],
 ⟨none,.store v8,[(.t 23),(.t 22)],[],none⟩])
 (q (F [
 u 24 (.fld 2) [2],
 u 25 (.load v10) [24],
 u 26 (.mkfn 59) [3],
 y 27 58 [11] [25,26] [],
 u 28 (.fld 2) [2],
 ⟨none,.store v10,[(.t 28),(.t 27)],[],none⟩])
 (q (F [
 u 29 (.fld 1) [2],
 u 30 (.load v9) [29],
 u 31 (.mkfn 63) [3],
 y 32 62 [12] [30,31] [],
 u 33 (.fld 1) [2],
 ⟨none,.store v9,[(.t 33),(.t 32)],[],none⟩])
 (q (F [
 u 34 (.load v15) [2],
 ⟨none,.store v15,[(.t 4),(.t 34)],[],none⟩,
 i 5 0])
 .ret))))))⟩
def c_local_Apply : DFun := ⟨28,11,[.p,.p],[.p v15,.p v0],[.c 4,.t 5],
 q (F [
 u 2 (.box 2) [0],
 u 3 (.box 3) [1],
 u 4 (.alloc 4 zs6) [],
 i 5 0])
 (q (F [
 u 10 (.load v15) [2],
 u 11 (.load vk6) [3],
 y 12 19 [7,8] [10,11] [],
 m 9 12,
 u 13 (.ext 0) [9],
 u 14 (.ext 1) [9],
 u 6 (.alloc 5 zs6) [],
 ⟨none,.store v15,[(.t 6),(.t 13)],[],none⟩,
 m 7 14])
 (q (q (F [
 m 15 7,
 o 16 (.bin .neq) [(.t 15),(.c (.int .i64 0))] []])
 (.cond (.t 16) (q (F [
 u 17 (.build zs6 []) [],
 m 18 7,
 ⟨none,.store v15,[(.t 4),(.t 17)],[],none⟩,
 m 5 18])
 .ret) .skip))
 (q (F [
 u 19 (.load v15) [6],
 u 20 (.fld 3) [3],
 u 21 (.load v15) [20],
 y 22 45 [9] [19,21] [],
 u 8 (.alloc 6 zs6) [],
 ⟨none,.store v15,[(.t 8),(.t 22)],[],none⟩])
 (q (q (F [
 u 23 (.load v15) [8],
 y 24 29 [10] [23] [],
 o 25 (.bin .neq) [(.t 24),(.c (.int .i64 0))] []])
 (.cond (.t 25) (q (F [
 u 26 (.build zs6 []) [],
 ⟨none,.store v15,[(.t 4),(.t 26)],[],none⟩,
 i 5 4])
 .ret) .skip))
 (q (F [
 u 27 (.load v15) [8],
 ⟨none,.store v15,[(.t 4),(.t 27)],[],none⟩,
 i 5 0])
 .ret)))))⟩
def c_gatepathlaw43_net : DFun := ⟨22,6,[.p,.p,.p,.p,.p],[.p vk0],[.c 10],
 q (F [
 u 10 (.alloc 5 zs0) []])
 (q (F [
 m 11 0,
 m 12 1,
 o 13 (.bin .shl) [(.t 12),(.c (.int .u64 24))] [],
 m 14 2,
 o 15 (.bin .shl) [(.t 14),(.c (.int .u64 16))] [],
 u 16 (.bin .add) [13,15],
 u 17 (.build [(D.int .u64 0),(D.int .u64 0)] [(1,1)]) [16],
 m 18 3,
 o 19 (.build zs2 [(0,1),(1,2),(3,1)]) [(.c (.int .u8 4)),(.t 17),(.t 18)] [],
 m 20 4,
 u 21 (.build zs0 [(0,1),(1,4),(5,1)]) [11,19,20],
 ⟨none,.store vk0,[(.t 10),(.t 21)],[],none⟩])
 .ret)⟩
def c_gatepathlaw43_at : DFun := ⟨8,3,[.p,.p],[.p v1],[.c 4],
 q (F [
 u 4 (.alloc 2 [(D.int .u32 0),(D.zs 51 true)]) []])
 (q (F [
 m 5 0,
 m 6 1,
 u 7 (.build [(D.int .u32 0),(D.zs 51 true)] [(0,1),(1,1)]) [5,6],
 ⟨none,.store v1,[(.t 4),(.t 7)],[],none⟩])
 .ret)⟩
def c_gatepathlaw43_gives : DFun := ⟨22,10,[.p,.p,.p],[.p v2],[.t 6],
 q (F [
 u 3 (.box 3) [0],
 u 4 (.box 4) [1],
 u 5 (.box 5) [2],
 o 6 (.mv) [(.c (.bool false))] []])
 (q (F [
 u 10 (.load v15) [3],
 u 11 (.load vk6) [4],
 y 12 21 [7,8] [10,11] [],
 m 9 12,
 u 13 (.ext 0) [9],
 u 14 (.ext 1) [9],
 u 7 (.alloc 6 zs6) [],
 ⟨none,.store v15,[(.t 7),(.t 13)],[],none⟩,
 m 8 14])
 (q (F [
 m 15 8,
 o 16 (.bin .eql) [(.t 15),(.c (.int .i64 0))] [],
 m 17 16,
 g 18 (.load v15) [7] [] 17 true,
 g 19 (.load v15) [5] [] 17 true,
 ⟨some 20,.call [9],[(.c (.fn 23 [])),(.t 18),(.t 19)],[],some (17,true)⟩,
 o 21 (.pick) [(.t 17),(.t 20),(.c (.bool false))] [],
 m 6 21])
 .ret))⟩
def c_gatepathlaw43_example : DFun := ⟨9,5,[],[.p vk6],[.c 0],
 q (F [
 u 0 (.alloc 0 zs7) []])
 (q (F [
 o 1 (.call [3]) [(.c (.fn 32 [])),(.c (.int .u32 7)),(.c (.int .u64 10)),(.c (.int .u64 0)),(.c (.int .i64 8)),(.c (.int .i64 8))] [],
 u 2 (.part vk1 1) [1],
 o 3 (.build zs4 [(0,1),(1,1),(2,4),(6,1)]) [(.c (.bool true)),(.c (.bool true)),(.t 2),(.c (.int .u32 7))] [],
 u 4 (.buildSl 1 70) [3],
 o 5 (.call [4]) [(.c (.fn 32 [])),(.c (.int .u32 7)),(.c (.int .u64 10)),(.c (.int .u64 1)),(.c (.int .i64 16)),(.c (.int .i64 16))] [],
 u 6 (.buildSl 2 58) [5],
 u 7 (.build zs6 [(0,1)]) [6],
 u 8 (.build zs7 [(0,1),(3,3)]) [4,7],
 ⟨none,.store vk6,[(.t 0),(.t 8)],[],none⟩])
 .ret)⟩
def c_gatepathlaw43_alive : DFun := ⟨53,32,[],[.p v2],[.t 0],
 q (F [
 o 0 (.mv) [(.c (.bool false))] []])
 (q (F [
 o 5 (.call [16]) [(.c (.fn 32 [])),(.c (.int .u32 7)),(.c (.int .u64 9)),(.c (.int .u64 0)),(.c (.int .i64 8)),(.c (.int .i64 8))] [],
 o 6 (.call [17]) [(.c (.fn 32 [])),(.c (.int .u32 7)),(.c (.int .u64 10)),(.c (.int .u64 0)),(.c (.int .i64 8)),(.c (.int .i64 8))] [],
 o 7 (.call [18]) [(.c (.fn 32 [])),(.c (.int .u32 8)),(.c (.int .u64 10)),(.c (.int .u64 0)),(.c (.int .i64 8)),(.c (.int .i64 8))] [],
 u 8 (.buildSl 0 58) [5,6,7],
 u 9 (.build zs6 [(0,1)]) [8],
 u 1 (.alloc 1 zs6) [],
 ⟨none,.store v15,[(.t 1),(.t 9)],[],none⟩])
 (q (F [
 o 10 (.call [19]) [(.c (.fn 32 [])),(.c (.int .u32 7)),(.c (.int .u64 9)),(.c (.int .u64 0)),(.c (.int .i64 8)),(.c (.int .i64 8))] [],
 o 11 (.call [20]) [(.c (.fn 32 [])),(.c (.int .u32 7)),(.c (.int .u64 10)),(.c (.int .u64 1)),(.c (.int .i64 16)),(.c (.int .i64 16))] [],
 o 12 (.call [21]) [(.c (.fn 32 [])),(.c (.int .u32 8)),(.c (.int .u64 10)),(.c (.int .u64 0)),(.c (.int .i64 8)),(.c (.int .i64 8))] [],
 u 13 (.buildSl 2 58) [10,11,12],
 u 14 (.build zs6 [(0,1)]) [13],
 u 2 (.alloc 3 zs6) [],
 ⟨none,.store v15,[(.t 2),(.t 14)],[],none⟩])
 (q (F [
 o 15 (.buildSl 4 51) [(.c (.int .u32 1)),(.c (.int .u32 2))] [],
 o 16 (.call [22]) [(.c (.fn 34 [])),(.c (.int .u32 5)),(.t 15)] [],
 u 17 (.buildSl 5 84) [16],
 u 18 (.build zs6 [(1,1)]) [17],
 o 19 (.buildSl 6 51) [(.c (.int .u32 2)),(.c (.int .u32 3))] [],
 o 20 (.call [23]) [(.c (.fn 34 [])),(.c (.int .u32 5)),(.t 19)] [],
 u 21 (.buildSl 7 84) [20],
 u 22 (.build zs6 [(1,1)]) [21],
 u 23 (.build zs7 [(3,3)]) [22],
 o 24 (.buildSl 8 51) [(.c (.int .u32 1)),(.c (.int .u32 2)),(.c (.int .u32 3))] [],
 o 25 (.call [24]) [(.c (.fn 34 [])),(.c (.int .u32 5)),(.t 24)] [],
 u 26 (.buildSl 9 84) [25],
 u 27 (.build zs6 [(1,1)]) [26],
 y 28 35 [25] [18,23,27] [],
 m 3 28])
 (q (F [
 o 29 (.buildSl 10 51) [(.c (.int .u32 0))] [],
 o 30 (.call [26]) [(.c (.fn 34 [])),(.c (.int .u32 5)),(.t 29)] [],
 u 31 (.buildSl 11 84) [30],
 u 32 (.build zs6 [(1,1)]) [31],
 o 33 (.buildSl 12 51) [(.c (.int .u32 2))] [],
 o 34 (.call [27]) [(.c (.fn 34 [])),(.c (.int .u32 5)),(.t 33)] [],
 u 35 (.buildSl 13 84) [34],
 u 36 (.build zs6 [(1,1)]) [35],
 u 37 (.build zs7 [(3,3)]) [36],
 o 38 (.buildSl 14 51) [(.c (.int .u32 2))] [],
 o 39 (.call [28]) [(.c (.fn 34 [])),(.c (.int .u32 5)),(.t 38)] [],
 u 40 (.buildSl 15 84) [39],
 u 41 (.build zs6 [(1,1)]) [40],
 y 42 35 [29] [32,37,41] [],
 m 4 42])
 (q (T [
 u 43 (.load v15) [1],
 y 44 68 [30] [] [],
 u 45 (.load v15) [2],
 y 46 35 [31] [43,44,45] [0,1,2],
 t 47 .mv [46] [3],
 g 48 (.mv) [3] [4] 47 true,
 o 49 (.pick) [(.t 47),(.t 48),(.c (.bool false))] [5],
 t 50 .mv [49] [6],
 g 51 (.mv) [4] [7] 50 true,
 o 52 (.pick) [(.t 50),(.t 51),(.c (.bool false))] [8],
 t 0 .mv [52] [9]])
 .ret)))))⟩
def c_gatepathlaw43_LocalNames : DFun := ⟨394,130,[],[.p v2],[.t 0],
 q (F [
 o 0 (.mv) [(.c (.bool false))] []])
 (q (F [
 o 39 (.call [85]) [(.c (.fn 32 [])),(.c (.int .u32 0)),(.c (.int .u64 10)),(.c (.int .u64 0)),(.c (.int .i64 8)),(.c (.int .i64 8))] [],
 u 40 (.part vk1 1) [39],
 o 41 (.call [86]) [(.c (.fn 32 [])),(.c (.int .u32 0)),(.c (.int .u64 11)),(.c (.int .u64 0)),(.c (.int .i64 8)),(.c (.int .i64 8))] [],
 u 42 (.part vk1 1) [41],
 u 1 (.alloc 0 zs2) [],
 u 2 (.alloc 1 zs2) [],
 ⟨none,.store vk1,[(.t 1),(.t 40)],[],none⟩,
 ⟨none,.store vk1,[(.t 2),(.t 42)],[],none⟩])
 (q (T [
 o 43 (.build zs4 [(1,1)]) [(.c (.bool true))] [],
 u 44 (.load vk1) [1],
 o 45 (.build zs4 [(0,1),(2,4)]) [(.c (.bool true)),(.t 44)] [1],
 u 46 (.load vk1) [1],
 o 47 (.build zs4 [(0,1),(2,4),(1,1),(6,1)]) [(.c (.bool true)),(.t 46),(.c (.bool true)),(.c (.int .u32 3))] [3],
 u 3 (.alloc 2 zs4) [],
 u 4 (.alloc 3 zs4) [],
 u 5 (.alloc 4 zs4) [],
 ⟨none,.store vk4,[(.t 3),(.t 43)],[0,5,6,7],none⟩,
 ⟨none,.store vk4,[(.t 4),(.t 45)],[2,8],none⟩,
 ⟨none,.store vk4,[(.t 5),(.t 47)],[4,9],none⟩])
 (q (F [
 u 48 (.load vk4) [3],
 u 49 (.load vk4) [4],
 u 50 (.load vk4) [5],
 u 51 (.buildSl 5 70) [48,49,50],
 u 52 (.load vk4) [3],
 o 53 (.build zs4 [(1,1),(6,1)]) [(.c (.bool true)),(.c (.int .u32 1))] [],
 u 54 (.buildSl 6 70) [52,53],
 u 55 (.load vk4) [4],
 u 56 (.load vk1) [2],
 o 57 (.build zs4 [(0,1),(2,4)]) [(.c (.bool true)),(.t 56)] [],
 u 58 (.buildSl 7 70) [55,57],
 u 59 (.load vk4) [4],
 u 60 (.load vk4) [3],
 u 61 (.buildSl 8 70) [59,60],
 u 62 (.load vk4) [5],
 u 63 (.load vk4) [4],
 u 64 (.buildSl 9 70) [62,63],
 u 65 (.load vk4) [4],
 u 66 (.load vk4) [4],
 u 67 (.buildSl 10 70) [65,66],
 u 68 (.build zs4 []) [],
 u 69 (.buildSl 11 70) [68],
 o 70 (.build zs4 [(0,1)]) [(.c (.bool true))] [],
 u 71 (.buildSl 12 70) [70],
 u 72 (.load vk1) [1],
 o 73 (.build zs4 [(1,1),(2,4)]) [(.c (.bool true)),(.t 72)] [],
 u 74 (.buildSl 13 70) [73],
 u 75 (.load vk1) [1],
 o 76 (.build zs4 [(0,1),(2,4),(6,1)]) [(.c (.bool true)),(.t 75),(.c (.int .u32 1))] [],
 u 77 (.buildSl 14 70) [76],
 u 78 (.buildSl 15 24) [51,54,58,61,64,67,69,71,74,77],
 m 6 78])
 (q (q (F [
 i 7 0])
 (.block 0 (.loop ⟨[6],[(7,.p v0)],[(15,.a 24)]⟩ (q (q (F [
 m 79 7,
 m 80 6,
 u 81 .len [80],
 u 82 (.bin .lss) [79,81]])
 (.cond (.t 82) .skip (.exit 0)))
 (q (.block 1 (q (F [
 m 85 6,
 m 86 7,
 u 87 (.idxA 24) [85,86],
 u 88 (.load v13) [87],
 u 89 (.build zs7 [(0,1)]) [88],
 y 90 33 [87] [89] [],
 o 91 (.bin .eql) [(.t 90),(.c (.int .i64 0))] [],
 m 92 7,
 o 93 (.bin .lss) [(.t 92),(.c (.int .i64 3))] [],
 u 94 (.eqv true v2) [91,93]])
 (.cond (.t 94) (q (F [
 o 0 (.mv) [(.c (.bool false))] []])
 .ret) .skip)))
 (F [
 m 83 7,
 o 84 (.bin .add) [(.t 83),(.c (.int .i64 1))] [],
 m 7 84]))))))
 (q (F [
 o 95 (.build zs5 [(1,1)]) [(.c (.bool true))] [],
 o 96 (.build zs5 [(0,1),(2,1)]) [(.c (.bool true)),(.c (.int .u32 2))] [],
 u 8 (.alloc 16 zs5) [],
 u 9 (.alloc 17 zs5) [],
 ⟨none,.store vk5,[(.t 8),(.t 95)],[],none⟩,
 ⟨none,.store vk5,[(.t 9),(.t 96)],[],none⟩])
 (q (F [
 u 97 (.load vk5) [8],
 u 98 (.load vk5) [9],
 u 99 (.buildSl 18 73) [97,98],
 u 100 (.load vk5) [9],
 o 101 (.build zs5 [(0,1),(2,1),(1,1)]) [(.c (.bool true)),(.c (.int .u32 2)),(.c (.bool true))] [],
 u 102 (.buildSl 19 73) [100,101],
 o 103 (.build zs3 [(16,1)]) [(.c (.int .i64 4))] [],
 o 104 (.build zs5 [(1,1),(3,17)]) [(.c (.bool true)),(.t 103)] [],
 u 105 (.buildSl 20 73) [104],
 u 106 (.load vk5) [9],
 u 107 (.load vk5) [8],
 u 108 (.buildSl 21 73) [106,107],
 u 109 (.load vk5) [8],
 u 110 (.load vk5) [8],
 u 111 (.buildSl 22 73) [109,110],
 u 112 (.build zs5 []) [],
 u 113 (.buildSl 23 73) [112],
 o 114 (.build zs3 [(16,1)]) [(.c (.int .i64 5))] [],
 o 115 (.build zs5 [(1,1),(3,17)]) [(.c (.bool true)),(.t 114)] [],
 u 116 (.buildSl 24 73) [115],
 o 117 (.build zs3 [(16,1)]) [(.c (.int .i64 1))] [],
 o 118 (.build zs5 [(0,1),(3,17)]) [(.c (.bool true)),(.t 117)] [],
 u 119 (.buildSl 25 73) [118],
 o 120 (.build zs5 [(1,1),(2,1)]) [(.c (.bool true)),(.c (.int .u32 1))] [],
 u 121 (.buildSl 26 73) [120],
 u 122 (.buildSl 27 25) [99,102,105,108,111,113,116,119,121],
 m 10 122])
 (q (q (F [
 i 11 0])
 (.block 2 (.loop ⟨[10],[(11,.p v0)],[(27,.a 25)]⟩ (q (q (F [
 m 123 11,
 m 124 10,
 u 125 .len [124],
 u 126 (.bin .lss) [123,125]])
 (.cond (.t 126) .skip (.exit 2)))
 (q (.block 3 (q (F [
 m 129 10,
 m 130 11,
 u 131 (.idxA 25) [129,130],
 u 132 (.load v14) [131],
 u 133 (.build zs7 [(1,1)]) [132],
 y 134 33 [88] [133] [],
 o 135 (.bin .eql) [(.t 134),(.c (.int .i64 0))] [],
 m 136 11,
 o 137 (.bin .lss) [(.t 136),(.c (.int .i64 3))] [],
 u 138 (.eqv true v2) [135,137]])
 (.cond (.t 138) (q (F [
 o 0 (.mv) [(.c (.bool false))] []])
 .ret) .skip)))
 (F [
 m 127 11,
 o 128 (.bin .add) [(.t 127),(.c (.int .i64 1))] [],
 m 11 128]))))))
 (q (F [
 u 139 (.build zs0 []) [],
 u 140 (.buildSl 28 58) [139],
 u 141 (.build zs6 [(0,1)]) [140],
 u 12 (.alloc 29 zs6) [],
 ⟨none,.store v15,[(.t 12),(.t 141)],[],none⟩])
 (q (F [
 o 142 (.buildSl 30 51) [(.c (.int .u32 0)),(.c (.int .u32 5))] [],
 u 143 (.build zs7 [(2,1)]) [142],
 y 144 33 [89] [143] [],
 o 145 (.bin .eql) [(.t 144),(.c (.int .i64 0))] [],
 m 146 145,
 ⟨some 147,.buildSl 31 51,[(.c (.int .u32 5)),(.c (.int .u32 5))],[],some (146,true)⟩,
 g 148 (.build zs7 [(2,1)]) [147] [] 146 true,
 ⟨some 149,.call [90],[(.c (.fn 33 [])),(.t 148)],[],some (146,true)⟩,
 ⟨some 150,.bin .eql,[(.t 149),(.c (.int .i64 8))],[],some (146,true)⟩,
 o 151 (.pick) [(.t 146),(.t 150),(.c (.bool false))] [],
 m 152 151,
 ⟨some 153,.mkSl 32 51 (D.int .u32 0) 4,[(.c (.int .i64 101)),(.c (.int .i64 101))],[],some (152,true)⟩,
 g 154 (.build zs7 [(2,1)]) [153] [] 152 true,
 ⟨some 155,.call [91],[(.c (.fn 33 [])),(.t 154)],[],some (152,true)⟩,
 ⟨some 156,.bin .eql,[(.t 155),(.c (.int .i64 4))],[],some (152,true)⟩,
 o 157 (.pick) [(.t 152),(.t 156),(.c (.bool false))] [],
 m 158 157,
 ⟨some 159,.mkSl 33 73 (D.agg zs5) 32,[(.c (.int .i64 101)),(.c (.int .i64 101))],[],some (158,true)⟩,
 ⟨some 160,.buildSl 34 51,[(.c (.int .u32 2)),(.c (.int .u32 1))],[],some (158,true)⟩,
 g 161 (.build zs7 [(1,1),(2,1)]) [159,160] [] 158 true,
 ⟨some 162,.call [92],[(.c (.fn 33 [])),(.t 161)],[],some (158,true)⟩,
 ⟨some 163,.bin .eql,[(.t 162),(.c (.int .i64 4))],[],some (158,true)⟩,
 o 164 (.pick) [(.t 158),(.t 163),(.c (.bool false))] [],
 m 165 164,
 g 166 (.load v15) [12] [] 165 true,
 g 167 (.build zs7 [(3,3)]) [166] [] 165 true,
 ⟨some 168,.call [93],[(.c (.fn 33 [])),(.t 167)],[],some (165,true)⟩,
 ⟨some 169,.bin .eql,[(.t 168),(.c (.int .i64 8))],[],some (165,true)⟩,
 o 170 (.pick) [(.t 165),(.t 169),(.c (.bool false))] [],
 m 171 170,
 ⟨some 172,.buildSl 35 51,[(.c (.int .u32 2)),(.c (.int .u32 1))],[],some (171,true)⟩,
 ⟨some 173,.mkSl 36 64 (D.agg zs1) 32,[(.c (.int .i64 101)),(.c (.int .i64 101))],[],some (171,true)⟩,
 g 174 (.build zs6 [(2,1)]) [173] [] 171 true,
 g 175 (.build zs7 [(2,1),(3,3)]) [172,174] [] 171 true,
 ⟨some 176,.call [94],[(.c (.fn 33 [])),(.t 175)],[],some (171,true)⟩,
 ⟨some 177,.bin .eql,[(.t 176),(.c (.int .i64 8))],[],some (171,true)⟩,
 o 178 (.pick) [(.t 171),(.t 177),(.c (.bool false))] [],
 m 179 178,
 ⟨some 180,.mkSl 37 64 (D.agg zs1) 32,[(.c (.int .i64 101)),(.c (.int .i64 101))],[],some (179,true)⟩,
 g 181 (.build zs6 [(2,1)]) [180] [] 179 true,
 g 182 (.build zs7 [(3,3)]) [181] [] 179 true,
 ⟨some 183,.call [95],[(.c (.fn 33 [])),(.t 182)],[],some (179,true)⟩,
 ⟨some 184,.bin .eql,[(.t 183),(.c (.int .i64 4))],[],some (179,true)⟩,
 o 185 (.pick) [(.t 179),(.t 184),(.c (.bool false))] [],
 m 13 185])
 (q (T [
 u 187 (.load v15) [12],
 o 188 (.mkSl 38 51 (D.int .u32 0) 4) [(.c (.int .i64 101)),(.c (.int .i64 101))] [],
 t 189 (.build zs7 [(2,1)]) [188] [1],
 y 190 21 [96,97] [187,189] [0,2],
 t 186 .mv [190] [3],
 t 191 (.ext 0) [186] [4],
 t 192 (.ext 1) [186] [4],
 u 14 (.alloc 39 zs6) [],
 ⟨none,.store v15,[(.t 14),(.t 191)],[5,7],none⟩,
 t 15 .mv [192] [6,8]])
 (q (F [
 u 194 (.build zs6 []) [],
 o 195 (.mkSl 40 51 (D.int .u32 0) 4) [(.c (.int .i64 101)),(.c (.int .i64 101))] [],
 u 196 (.build zs7 [(2,1)]) [195],
 y 197 19 [98,99] [194,196] [],
 m 193 197,
 u 198 (.ext 0) [193],
 u 199 (.ext 1) [193],
 u 16 (.alloc 41 zs6) [],
 ⟨none,.store v15,[(.t 16),(.t 198)],[],none⟩,
 m 17 199])
 (q (F [
 o 201 (.mkSl 42 33 (D.agg [(D.sl 70 true []),(D.sl 73 true []),(D.sl 51 true []),(D.sl 58 true []),(D.sl 84 true []),(D.sl 64 true [])]) 144) [(.c (.int .i64 21)),(.c (.int .i64 21))] [],
 y 202 12 [100,101] [201] [],
 m 200 202,
 u 203 (.ext 0) [200],
 u 204 (.ext 1) [200],
 u 18 (.alloc 43 zs7) [],
 ⟨none,.store vk6,[(.t 18),(.t 203)],[],none⟩,
 m 19 204])
 (q (F [
 o 206 (.call [102,103]) [(.c (.fn 12 [])),(.c (.zs 33 true))] [],
 m 205 206,
 u 207 (.ext 0) [205],
 u 208 (.ext 1) [205],
 u 20 (.alloc 44 zs7) [],
 ⟨none,.store vk6,[(.t 20),(.t 207)],[],none⟩,
 m 21 208])
 (q (F [
 o 210 (.buildSl 45 51) [(.c (.int .u32 1))] [],
 u 211 (.build zs7 [(2,1)]) [210],
 o 212 (.buildSl 46 51) [(.c (.int .u32 2)),(.c (.int .u32 1))] [],
 u 213 (.build zs7 [(2,1)]) [212],
 o 214 (.mkSl 47 51 (D.int .u32 0) 4) [(.c (.int .i64 101)),(.c (.int .i64 101))] [],
 u 215 (.build zs7 [(2,1)]) [214],
 u 216 (.buildSl 48 33) [211,213,215],
 y 217 12 [104,105] [216] [],
 m 209 217,
 u 218 (.ext 0) [209],
 u 219 (.ext 1) [209],
 u 22 (.alloc 49 zs7) [],
 ⟨none,.store vk6,[(.t 22),(.t 218)],[],none⟩,
 m 23 219])
 (q (F [
 o 24 (.mv) [(.c (.zs 51 true))] [],
 o 25 (.mv) [(.c (.zs 51 true))] []])
 (q (q (F [
 o 26 (.mv) [(.c (.int .u32 0))] []])
 (.block 4 (.loop ⟨[13,15,17,19,20,21,23],[(24,.o 106 51),(25,.o 107 51),(26,.p v5)],[(44,.v [.p (.sl 70),.p (.sl 73),.p (.sl 51),.p (.sl 58),.p (.sl 84),.p (.sl 64)])]⟩ (q (q (F [
 m 220 26,
 o 221 (.bin .lss) [(.t 220),(.c (.int .u32 100))] []])
 (.cond (.t 221) .skip (.exit 4)))
 (q (.block 5 (F [
 m 224 24,
 m 225 26,
 u 226 (.buildSl 50 51) [225],
 u 227 (.append 51 51 4) [224,226],
 m 228 25,
 m 229 26,
 o 230 (.bin .add) [(.t 229),(.c (.int .u32 1))] [],
 u 231 (.buildSl 52 51) [230],
 u 232 (.append 53 51 4) [228,231],
 m 24 227,
 m 25 232]))
 (F [
 m 222 26,
 o 223 (.bin .add) [(.t 222),(.c (.int .u32 1))] [],
 m 26 223]))))))
 (q (F [
 m 234 24,
 u 235 (.build zs7 [(2,1)]) [234],
 m 236 25,
 u 237 (.build zs7 [(2,1)]) [236],
 u 238 (.buildSl 54 33) [235,237],
 y 239 12 [108,109] [238] [],
 m 233 239,
 u 240 (.ext 0) [233],
 u 241 (.ext 1) [233],
 u 27 (.alloc 55 zs7) [],
 ⟨none,.store vk6,[(.t 27),(.t 240)],[],none⟩,
 m 28 241])
 (q (F [
 m 243 24,
 u 244 (.build zs7 [(2,1)]) [243],
 m 245 24,
 o 246 (.sliceF (some 51) false true) [(.t 245),(.c (.int .i64 50))] [],
 u 247 (.build zs7 [(2,1)]) [246],
 u 248 (.buildSl 56 33) [244,247],
 y 249 12 [110,111] [248] [],
 m 242 249,
 u 250 (.ext 0) [242],
 u 251 (.ext 1) [242],
 u 29 (.alloc 57 zs7) [],
 ⟨none,.store vk6,[(.t 29),(.t 250)],[],none⟩,
 m 30 251])
 (q (F [
 m 253 24,
 o 254 (.slice (some 51) true true false) [(.t 253),(.c (.int .i64 1)),(.c (.int .i64 51))] [],
 o 255 (.call [112]) [(.c (.fn 34 [])),(.c (.int .u32 500)),(.t 254)] [],
 u 256 (.buildSl 58 84) [255],
 u 257 (.build zs6 [(1,1)]) [256],
 u 258 (.build zs7 []) [],
 y 259 21 [113,114] [257,258] [],
 m 252 259,
 u 260 (.ext 0) [252],
 u 261 (.ext 1) [252],
 u 31 (.alloc 59 zs6) [],
 ⟨none,.store v15,[(.t 31),(.t 260)],[],none⟩,
 m 32 261])
 (q (F [
 m 263 24,
 o 264 (.slice (some 51) true true false) [(.t 263),(.c (.int .i64 1)),(.c (.int .i64 51))] [],
 o 265 (.call [115]) [(.c (.fn 34 [])),(.c (.int .u32 500)),(.t 264)] [],
 u 266 (.buildSl 60 84) [265],
 u 267 (.build zs6 [(1,1)]) [266],
 o 268 (.buildSl 61 51) [(.c (.int .u32 60))] [],
 o 269 (.call [116]) [(.c (.fn 34 [])),(.c (.int .u32 500)),(.t 268)] [],
 u 270 (.buildSl 62 84) [269],
 u 271 (.build zs6 [(1,1)]) [270],
 u 272 (.build zs7 [(3,3)]) [271],
 y 273 21 [117,118] [267,272] [],
 m 262 273,
 u 274 (.ext 0) [262],
 u 275 (.ext 1) [262],
 u 33 (.alloc 63 zs6) [],
 ⟨none,.store v15,[(.t 33),(.t 274)],[],none⟩,
 m 34 275])
 (q (F [
 m 276 15,
 o 277 (.bin .eql) [(.t 276),(.c (.int .i64 8))] [],
 m 278 277,
 g 279 (.mv) [17] [] 278 true,
 ⟨some 280,.bin .eql,[(.t 279),(.c (.int .i64 4))],[],some (278,true)⟩,
 o 281 (.pick) [(.t 278),(.t 280),(.c (.bool false))] [],
 m 282 281,
 g 283 (.mv) [19] [] 282 true,
 ⟨some 284,.bin .eql,[(.t 283),(.c (.int .i64 4))],[],some (282,true)⟩,
 o 285 (.pick) [(.t 282),(.t 284),(.c (.bool false))] [],
 m 286 285,
 g 287 (.mv) [21] [] 286 true,
 ⟨some 288,.bin .eql,[(.t 287),(.c (.int .i64 0))],[],some (286,true)⟩,
 o 289 (.pick) [(.t 286),(.t 288),(.c (.bool false))] [],
 m 290 289,
 g 291 (.load vk6) [20] [] 290 true,
 g 292 (.build zs7 []) [] [] 290 true,
 ⟨some 293,.call [119],[(.c (.fn 14 [])),(.t 291),(.t 292)],[],some (290,true)⟩,
 o 294 (.pick) [(.t 290),(.t 293),(.c (.bool false))] [],
 m 295 294,
 g 296 (.mv) [23] [] 295 true,
 ⟨some 297,.bin .eql,[(.t 296),(.c (.int .i64 8))],[],some (295,true)⟩,
 o 298 (.pick) [(.t 295),(.t 297),(.c (.bool false))] [],
 m 299 298,
 g 300 (.mv) [28] [] 299 true,
 ⟨some 301,.bin .eql,[(.t 300),(.c (.int .i64 4))],[],some (299,true)⟩,
 o 302 (.pick) [(.t 299),(.t 301),(.c (.bool false))] [],
 m 303 302,
 g 304 (.mv) [30] [] 303 true,
 ⟨some 305,.bin .eql,[(.t 304),(.c (.int .i64 0))],[],some (303,true)⟩,
 o 306 (.pick) [(.t 303),(.t 305),(.c (.bool false))] [],
 m 307 306,
 g 308 (.fld 2) [29] [] 307 true,
 g 309 (.load v3) [308] [] 307 true,
 g 310 (.len) [309] [] 307 true,
 ⟨some 311,.bin .eql,[(.t 310),(.c (.int .i64 100))],[],some (307,true)⟩,
 o 312 (.pick) [(.t 307),(.t 311),(.c (.bool false))] [],
 m 313 312,
 g 314 (.fld 1) [31] [] 313 true,
 g 315 (.load v9) [314] [] 313 true,
 g 316 (.len) [315] [] 313 true,
 ⟨some 317,.bin .eql,[(.t 316),(.c (.int .i64 1))],[],some (313,true)⟩,
 o 318 (.pick) [(.t 313),(.t 317),(.c (.bool false))] [],
 m 319 318,
 g 320 (.mv) [34] [] 319 true,
 ⟨some 321,.bin .eql,[(.t 320),(.c (.int .i64 4))],[],some (319,true)⟩,
 o 322 (.pick) [(.t 319),(.t 321),(.c (.bool false))] [],
 m 35 322])
 (q (F [
 o 323 (.build [(D.int .u8 0),(D.int .u8 0),(D.int .u8 0),(D.int .u8 0),(D.int .u8 0),(D.int .u8 0),(D.int .u8 0),(D.int .u8 0),(D.int .u8 0),(D.int .u8 0),(D.int .u8 0),(D.int .u8 0),(D.int .u8 0),(D.int .u8 0),(D.int .u8 0),(D.int .u8 0)] [(0,1)]) [(.c (.int .u8 1))] [],
 o 324 (.build zs3 [(0,16),(16,1)]) [(.t 323),(.c (.int .i64 2))] [],
 o 325 (.build zs1 [(0,1),(1,17)]) [(.c (.int .u32 4)),(.t 324)] [],
 u 36 (.alloc 64 zs1) [],
 ⟨none,.store vk2,[(.t 36),(.t 325)],[],none⟩])
 (q (T [
 o 326 (.buildSl 65 51) [(.c (.int .u32 2))] [],
 o 327 (.call [120]) [(.c (.fn 34 [])),(.c (.int .u32 1)),(.t 326)] [0],
 o 328 (.buildSl 66 51) [(.c (.int .u32 4))] [],
 o 329 (.call [121]) [(.c (.fn 34 [])),(.c (.int .u32 3)),(.t 328)] [1,2],
 t 330 (.buildSl 67 84) [327,329] [3],
 o 331 (.build zs1 [(0,1)]) [(.c (.int .u32 3))] [],
 u 332 (.load vk2) [36],
 t 333 (.buildSl 68 64) [331,332] [5,6],
 t 334 (.build zs6 [(1,1),(2,1)]) [330,333] [4,7],
 u 37 (.alloc 69 zs6) [],
 ⟨none,.store v15,[(.t 37),(.t 334)],[8,9],none⟩])
 (q (T [
 u 335 (.load v15) [37],
 u 336 (.fld 1) [36],
 t 337 (.load vk3) [336] [1],
 o 338 (.build zs5 [(1,1),(3,17)]) [(.c (.bool true)),(.t 337)] [2],
 t 339 (.buildSl 70 73) [338] [3],
 o 340 (.buildSl 71 51) [(.c (.int .u32 1))] [],
 t 341 (.build zs7 [(1,1),(2,1)]) [339,340] [4,5],
 o 342 (.buildSl 72 51) [(.c (.int .u32 4))] [],
 o 343 (.call [122]) [(.c (.fn 34 [])),(.c (.int .u32 3)),(.t 342)] [7],
 t 344 (.buildSl 73 84) [343] [8],
 o 345 (.build zs1 [(0,1)]) [(.c (.int .u32 3))] [],
 t 346 (.buildSl 74 64) [345] [10],
 t 347 (.build zs6 [(1,1),(2,1)]) [344,346] [9,11],
 y 348 35 [123] [335,341,347] [0,6,12],
 t 349 .mv [348] [13],
 g 350 (.load v15) [37] [14] 349 true,
 g 351 (.fld 1) [36] [14] 349 true,
 g 352 (.load vk3) [351] [16] 349 true,
 ⟨some 353,.build zs5 [(0,1),(2,1),(1,1),(3,17)],[(.c (.bool true)),(.c (.int .u32 3)),(.c (.bool true)),(.t 352)],[17],some (349,true)⟩,
 g 354 (.buildSl 75 73) [353] [18] 349 true,
 g 355 (.build zs7 [(1,1)]) [354] [19] 349 true,
 g 356 (.load v15) [37] [14] 349 true,
 ⟨some 357,.call [124],[(.c (.fn 35 [])),(.t 350),(.t 355),(.t 356)],[15,20,21],some (349,true)⟩,
 o 358 (.pick) [(.t 349),(.t 357),(.c (.bool false))] [22],
 t 359 .mv [358] [23],
 g 360 (.load v15) [37] [24] 359 true,
 ⟨some 361,.build zs5 [(0,1),(2,1)],[(.c (.bool true)),(.c (.int .u32 3))],[24],some (359,true)⟩,
 g 362 (.buildSl 76 73) [361] [26] 359 true,
 ⟨some 363,.buildSl 77 51,[(.c (.int .u32 3))],[24],some (359,true)⟩,
 ⟨some 364,.buildSl 78 51,[(.c (.int .u32 9))],[24],some (359,true)⟩,
 ⟨some 365,.call [125],[(.c (.fn 34 [])),(.c (.int .u32 3)),(.t 364)],[29],some (359,true)⟩,
 g 366 (.buildSl 79 84) [365] [30] 359 true,
 ⟨some 367,.build zs1 [(0,1)],[(.c (.int .u32 3))],[24],some (359,true)⟩,
 g 368 (.buildSl 80 64) [367] [32] 359 true,
 g 369 (.build zs6 [(1,1),(2,1)]) [366,368] [31,33] 359 true,
 g 370 (.build zs7 [(1,1),(2,1),(3,3)]) [362,363,369] [27,28,34] 359 true,
 ⟨some 371,.buildSl 81 51,[(.c (.int .u32 2))],[24],some (359,true)⟩,
 ⟨some 372,.call [126],[(.c (.fn 34 [])),(.c (.int .u32 1)),(.t 371)],[30,36],some (359,true)⟩,
 ⟨some 373,.buildSl 82 51,[(.c (.int .u32 9))],[24],some (359,true)⟩,
 ⟨some 374,.call [127],[(.c (.fn 34 [])),(.c (.int .u32 3)),(.t 373)],[37,38],some (359,true)⟩,
 g 375 (.buildSl 83 84) [372,374] [39] 359 true,
 ⟨some 376,.build zs1 [(0,1)],[(.c (.int .u32 3))],[24],some (359,true)⟩,
 g 377 (.load vk2) [36] [24] 359 true,
 g 378 (.buildSl 84 64) [376,377] [41,42] 359 true,
 g 379 (.build zs6 [(1,1),(2,1)]) [375,378] [40,43] 359 true,
 ⟨some 380,.call [128],[(.c (.fn 35 [])),(.t 360),(.t 370),(.t 379)],[25,35,44],some (359,true)⟩,
 o 381 (.pick) [(.t 359),(.t 380),(.c (.bool false))] [45],
 t 38 .mv [381] [46]])
 (q (F [
 o 382 (.mv) [(.c (.bool true))] [],
 ⟨some 383,.call [129],[(.c (.fn 24 []))],[],some (382,true)⟩,
 o 384 (.pick) [(.t 382),(.t 383),(.c (.bool false))] [],
 m 385 384,
 g 386 (.mv) [13] [] 385 true,
 o 387 (.pick) [(.t 385),(.t 386),(.c (.bool false))] [],
 m 388 387,
 g 389 (.mv) [35] [] 388 true,
 o 390 (.pick) [(.t 388),(.t 389),(.c (.bool false))] [],
 m 391 390,
 g 392 (.mv) [38] [] 391 true,
 o 393 (.pick) [(.t 391),(.t 392),(.c (.bool false))] [],
 m 0 393])
 .ret)))))))))))))))))))))))))⟩
def tabL : List (Nat × Entry) := [(93, .spec ⟨[.p, .p], [.p ⟨false, [.int .i64]⟩]⟩ (bcmpSpec 5)),
 (153, .spec ⟨[.g 51, .p], [.o 51]⟩ (growSpec 51 4)),
 (140, .spec ⟨[.p], [.o 51]⟩ (sortedSpec 156 51)),
 (141, .spec ⟨[.p], [.p ⟨false, [.fnc 156]⟩]⟩ (keysSpec 156)),
 (132, .code c_slices_IndexFunc_132),
 (72, .code c_slices_ContainsFunc_72),
 (73, .code c_diff_Check_1),
 (74, .code c_diff_rising_74),
 (87, .code c_cmp_Or_87),
 (136, .code c_cmp_isNaN_136),
 (90, .code c_cmp_Compare_90),
 (138, .code c_cmp_isNaN_138),
 (94, .code c_cmp_Compare_94),
 (151, .code c_cmp_isNaN_151),
 (133, .code c_cmp_Compare_133),
 (159, .code c_cmp_isNaN_159),
 (152, .code c_cmp_Compare_152),
 (134, .code c_number_Compare),
 (75, .code c_diff_byOrigin),
 (70, .code c_number_and),
 (130, .code c_number_width),
 (71, .code c_number_mask),
 (131, .code c_number_CheckAddr),
 (69, .code c_number_Check),
 (76, .code c_diff_goodOrigin),
 (77, .code c_diff_rising_77),
 (78, .code c_diff_byPath),
 (123, .code c_slices_Index),
 (64, .code c_slices_Contains),
 (135, .code c_aspa_Check),
 (79, .code c_diff_goodPath),
 (80, .code c_diff_rising_80),
 (81, .code c_diff_byKey),
 (82, .code c_diff_goodKey),
 (29, .code c_diff_Check),
 (88, .code c_local_truth),
 (89, .code c_local_prefixes),
 (86, .code c_local_byPrefix_1),
 (91, .code c_local_byPrefix_2),
 (36, .code c_local_byPrefix),
 (92, .code c_local_byKey_1),
 (95, .code c_local_byKey_2),
 (39, .code c_local_byKey),
 (96, .code c_local_byCustomer_1),
 (42, .code c_local_byCustomer),
 (83, .code c_api_LocalPrefix_check),
 (84, .code c_api_LocalKey_check),
 (85, .code c_local_order_uint32_check),
 (33, .code c_local_Check),
 (37, .code c_api_LocalPrefix_merge),
 (38, .code c_local_first_38),
 (40, .code c_api_LocalKey_merge),
 (41, .code c_local_first_41),
 (43, .code c_local_order_uint32_merge),
 (44, .code c_local_first_44),
 (114, .code c_slices_Clone_114),
 (115, .code c_slices_Clone_115),
 (145, .code c_slices_Clone_145),
 (116, .code c_diff_twinPath),
 (53, .code c_diff_Twin),
 (97, .code c_local_add_1),
 (98, .code c_local_add_2),
 (99, .code c_local_add_3),
 (100, .code c_api_Origin_merge),
 (101, .code c_local_first_101),
 (102, .code c_api_Attest_merge),
 (139, .code c_slices_Concat),
 (103, .code c_local_union),
 (104, .code c_api_RouterKey_merge),
 (105, .code c_local_first_105),
 (45, .code c_local_add),
 (12, .code c_local_Join),
 (67, .code c_gatepathref34_SamePath),
 (23, .code c_gatepathref34_Same),
 (14, .code c_gatepathref43_Same),
 (52, .code c_cmp_Or_52),
 (146, .code c_slices_IndexFunc_146),
 (117, .code c_slices_DeleteFunc_117),
 (54, .code c_local_keep_54),
 (118, .code c_slices_IndexFunc_118),
 (56, .code c_slices_ContainsFunc_56),
 (28, .code c_number_Covers),
 (57, .code c_local_Filter_1_1),
 (55, .code c_local_Filter_1),
 (147, .code c_slices_IndexFunc_147),
 (119, .code c_slices_DeleteFunc_119),
 (58, .code c_local_keep_58),
 (120, .code c_slices_IndexFunc_120),
 (60, .code c_slices_ContainsFunc_60),
 (61, .code c_local_Filter_2_1),
 (59, .code c_local_Filter_2),
 (121, .code c_slices_DeleteFunc_121),
 (122, .code c_slices_Clone_122),
 (62, .code c_local_keep_62),
 (63, .code c_local_Filter_3),
 (19, .code c_local_Filter),
 (21, .code c_local_Apply),
 (32, .code c_gatepathlaw43_net),
 (34, .code c_gatepathlaw43_at),
 (35, .code c_gatepathlaw43_gives),
 (68, .code c_gatepathlaw43_example),
 (24, .code c_gatepathlaw43_alive),
 (7, .code c_gatepathlaw43_LocalNames)]
def tab (g : Nat) : Option Entry := tabL.lookup g
end Go.Proofs.YtapfhcnigmighaaGreat.Own
