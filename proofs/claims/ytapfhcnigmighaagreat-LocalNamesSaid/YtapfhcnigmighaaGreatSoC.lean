/- The sort of the library, and the keys of a map. -/
import Derived.Test.YtapfhcnigmighaaGreatG5
namespace Go.Proofs.YtapfhcnigmighaaGreat.So
open Go Go.Proofs.YtapfhcnigmighaaGreat.GD
def tyL : List (Nat × Vk) := [(51, ⟨false, [.int .u32]⟩)]
def ty (e : Nat) : Option Vk := tyL.lookup e
abbrev CF := FuncId → List D → Option (List D)
abbrev LF := List D → Option (List D)
abbrev L := List D
abbrev OO := Option (List D)
def o (d : Nat) (p : DOp) (as : List Opd) (af : List Nat) : DOper := ⟨some d, p, as, af, none⟩
def m (d n : Nat) : DOper := ⟨some d, .mv, [.t n], [], none⟩
def t (d : Nat) (p : DOp) (as af : List Nat) : DOper := ⟨some d, p, as.map .t, af, none⟩
def g (d : Nat) (p : DOp) (as af : List Nat) (c : Nat) (b : Bool) : DOper := ⟨some d, p, as.map .t, af, some (c, b)⟩
def q (a b : DCode) : DCode := .seq a b
def y (d f : Nat) (s as af : List Nat) : DOper := ⟨some d, .call s, .c (.fn f []) :: as.map .t, af, none⟩
def i (d : Nat) (n : Int) : DOper := ⟨some d, .mv, [.c (.int .i64 n)], [], none⟩
def u (d : Nat) (p : DOp) (as : List Nat) : DOper := ⟨some d, p, as.map .t, [], none⟩
def F (l : List DOper) : DCode := .region false l
def T (l : List DOper) : DCode := .region true l
def v0 : Vk := ⟨false, [.bool]⟩
def v1 : Vk := ⟨false, [.int .i64]⟩
def v2 : Vk := ⟨false, [.int .u32]⟩
def v3 : Vk := ⟨false, [.int .u64]⟩
def c_cmp_isNaN_136 : DFun := ⟨6,1,[.p],[.p v0],[.t 2],
 q (F [
 o 2 (.mv) [(.c (.bool false))] []])
 (q (F [
 m 3 0,
 m 4 0,
 u 5 (.bin .neq) [3,4],
 m 2 5])
 .ret)⟩
def c_cmp_Less : DFun := ⟨17,4,[.p,.p],[.p v0],[.t 4],
 q (F [
 o 4 (.mv) [(.c (.bool false))] []])
 (q (F [
 m 5 0,
 y 6 136 [2] [5] [],
 m 7 6,
 g 8 (.mv) [1] [] 7 true,
 ⟨some 9,.call [3],[(.c (.fn 136 [])),(.t 8)],[],some (7,true)⟩,
 g 10 (.not) [9] [] 7 true,
 o 11 (.pick) [(.t 7),(.t 10),(.c (.bool false))] [],
 m 12 11,
 g 13 (.mv) [0] [] 12 false,
 g 14 (.mv) [1] [] 12 false,
 g 15 (.bin .lss) [13,14] [] 12 false,
 o 16 (.pick) [(.t 12),(.c (.bool true)),(.t 15)] [],
 m 4 16])
 .ret)⟩
def c_slices_insertionSortOrdered : DFun := ⟨49,4,[.m 51,.p,.p],[],[],
 q (F [
 m 8 1,
 o 9 (.bin .add) [(.t 8),(.c (.int .i64 1))] [],
 m 6 9])
 (.block 0 (.loop ⟨[0,1,2],[(6,.p v1)],[(0,.a 51)]⟩ (q (q (F [
 m 10 6,
 m 11 2,
 u 12 (.bin .lss) [10,11]])
 (.cond (.t 12) .skip (.exit 0)))
 (q (.block 1 (q (F [
 m 15 6,
 m 7 15])
 (.block 2 (.loop ⟨[0,1,2,6],[(7,.p v1)],[(0,.a 51)]⟩ (q (q (T [
 m 16 7,
 m 17 1,
 t 18 (.bin .gtr) [16,17] [0,1],
 t 19 .mv [18] [2],
 g 20 (.mv) [0] [3] 19 true,
 g 21 (.mv) [7] [3] 19 true,
 g 22 (.idxA 51) [20,21] [4,5] 19 true,
 g 23 (.load v2) [22] [6] 19 true,
 g 24 (.mv) [0] [3] 19 true,
 g 25 (.mv) [7] [3] 19 true,
 ⟨some 26,.bin .sub,[(.t 25),(.c (.int .i64 1))],[9],some (19,true)⟩,
 g 27 (.idxA 51) [24,26] [8,10] 19 true,
 g 28 (.load v2) [27] [11] 19 true,
 ⟨some 29,.call [3],[(.c (.fn 170 [])),(.t 23),(.t 28)],[7,12],some (19,true)⟩,
 o 30 (.pick) [(.t 19),(.t 29),(.c (.bool false))] [13]])
 (.cond (.t 30) .skip (.exit 2)))
 (q (.block 3 (T [
 m 33 0,
 m 34 7,
 m 35 0,
 m 36 7,
 o 37 (.bin .sub) [(.t 36),(.c (.int .i64 1))] [3],
 m 38 0,
 m 39 7,
 o 40 (.bin .sub) [(.t 39),(.c (.int .i64 1))] [6],
 t 41 (.idxA 51) [38,40] [5,7],
 t 42 (.load v2) [41] [8],
 m 43 0,
 m 44 7,
 t 45 (.idxA 51) [43,44] [10,11],
 t 46 (.load v2) [45] [12],
 t 47 (.idxA 51) [33,34] [0,1,9,13],
 ⟨none,.store v2,[(.t 47),(.t 42)],[14],none⟩,
 t 48 (.idxA 51) [35,37] [2,4,15],
 ⟨none,.store v2,[(.t 48),(.t 46)],[16],none⟩]))
 (F [
 m 31 7,
 o 32 (.bin .sub) [(.t 31),(.c (.int .i64 1))] [],
 m 7 32])))))))
 (F [
 m 13 6,
 o 14 (.bin .add) [(.t 13),(.c (.int .i64 1))] [],
 m 6 14])))))⟩
def c_slices_siftDownOrdered : DFun := ⟨76,6,[.m 51,.p,.p,.p],[],[],
 q (F [
 m 10 1,
 m 8 10])
 (.block 0 (.loop ⟨[0,2,3],[(8,.p v1)],[(0,.a 51)]⟩ (.block 1 (q (F [
 m 11 8,
 o 12 (.bin .mul) [(.c (.int .i64 2)),(.t 11)] [],
 o 13 (.bin .add) [(.t 12),(.c (.int .i64 1))] [],
 m 9 13])
 (q (q (F [
 m 14 9,
 m 15 2,
 u 16 (.bin .geq) [14,15]])
 (.cond (.t 16) (.exit 0) .skip))
 (q (q (T [
 m 17 9,
 o 18 (.bin .add) [(.t 17),(.c (.int .i64 1))] [0],
 m 19 2,
 t 20 (.bin .lss) [18,19] [1,2],
 t 21 .mv [20] [3],
 g 22 (.mv) [0] [4] 21 true,
 g 23 (.mv) [3] [4] 21 true,
 g 24 (.mv) [9] [4] 21 true,
 g 25 (.bin .add) [23,24] [6,7] 21 true,
 g 26 (.idxA 51) [22,25] [5,8] 21 true,
 g 27 (.load v2) [26] [9] 21 true,
 g 28 (.mv) [0] [4] 21 true,
 g 29 (.mv) [3] [4] 21 true,
 g 30 (.mv) [9] [4] 21 true,
 g 31 (.bin .add) [29,30] [12,13] 21 true,
 ⟨some 32,.bin .add,[(.t 31),(.c (.int .i64 1))],[14],some (21,true)⟩,
 g 33 (.idxA 51) [28,32] [11,15] 21 true,
 g 34 (.load v2) [33] [16] 21 true,
 ⟨some 35,.call [4],[(.c (.fn 170 [])),(.t 27),(.t 34)],[10,17],some (21,true)⟩,
 o 36 (.pick) [(.t 21),(.t 35),(.c (.bool false))] [18]])
 (.cond (.t 36) (F [
 m 37 9,
 o 38 (.bin .add) [(.t 37),(.c (.int .i64 1))] [],
 m 9 38]) .skip))
 (q (q (T [
 m 39 0,
 m 40 3,
 m 41 8,
 t 42 (.bin .add) [40,41] [1,2],
 t 43 (.idxA 51) [39,42] [0,3],
 t 44 (.load v2) [43] [4],
 m 45 0,
 m 46 3,
 m 47 9,
 t 48 (.bin .add) [46,47] [7,8],
 t 49 (.idxA 51) [45,48] [6,9],
 t 50 (.load v2) [49] [10],
 y 51 170 [5] [44,50] [5,11],
 t 52 .not [51] [12]])
 (.cond (.t 52) .ret .skip))
 (q (T [
 m 53 0,
 m 54 3,
 m 55 8,
 t 56 (.bin .add) [54,55] [1,2],
 m 57 0,
 m 58 3,
 m 59 9,
 t 60 (.bin .add) [58,59] [5,6],
 m 61 0,
 m 62 3,
 m 63 9,
 t 64 (.bin .add) [62,63] [9,10],
 t 65 (.idxA 51) [61,64] [8,11],
 t 66 (.load v2) [65] [12],
 m 67 0,
 m 68 3,
 m 69 8,
 t 70 (.bin .add) [68,69] [15,16],
 t 71 (.idxA 51) [67,70] [14,17],
 t 72 (.load v2) [71] [18],
 t 73 (.idxA 51) [53,56] [0,3,13,19],
 ⟨none,.store v2,[(.t 73),(.t 66)],[20],none⟩,
 t 74 (.idxA 51) [57,60] [4,7,21],
 ⟨none,.store v2,[(.t 74),(.t 72)],[22],none⟩])
 (F [
 m 75 9,
 m 8 75])))))))))⟩
def c_slices_heapSortOrdered : DFun := ⟨56,3,[.m 51,.p,.p],[],[],
 q (F [
 m 11 1,
 m 6 11])
 (q (F [
 i 7 0])
 (q (F [
 m 12 2,
 m 13 1,
 u 14 (.bin .sub) [12,13],
 m 8 14])
 (q (q (F [
 m 15 8,
 o 16 (.bin .sub) [(.t 15),(.c (.int .i64 1))] [],
 o 17 (.bin .quo) [(.t 16),(.c (.int .i64 2))] [],
 m 9 17])
 (.block 0 (.loop ⟨[0,6,7,8],[(9,.p v1)],[(0,.a 51)]⟩ (q (q (F [
 m 18 9,
 o 19 (.bin .geq) [(.t 18),(.c (.int .i64 0))] []])
 (.cond (.t 19) .skip (.exit 0)))
 (q (.block 1 (F [
 m 22 0,
 m 23 9,
 m 24 8,
 m 25 6,
 y 26 175 [] [22,23,24,25] []]))
 (F [
 m 20 9,
 o 21 (.bin .sub) [(.t 20),(.c (.int .i64 1))] [],
 m 9 21]))))))
 (q (F [
 m 27 8,
 o 28 (.bin .sub) [(.t 27),(.c (.int .i64 1))] [],
 m 10 28])
 (.block 2 (.loop ⟨[0,6,7],[(10,.p v1)],[(0,.a 51)]⟩ (q (q (F [
 m 29 10,
 o 30 (.bin .geq) [(.t 29),(.c (.int .i64 0))] []])
 (.cond (.t 30) .skip (.exit 2)))
 (q (.block 3 (q (T [
 m 33 0,
 m 34 6,
 m 35 0,
 m 36 6,
 m 37 10,
 t 38 (.bin .add) [36,37] [3,4],
 m 39 0,
 m 40 6,
 m 41 10,
 t 42 (.bin .add) [40,41] [7,8],
 t 43 (.idxA 51) [39,42] [6,9],
 t 44 (.load v2) [43] [10],
 m 45 0,
 m 46 6,
 t 47 (.idxA 51) [45,46] [12,13],
 t 48 (.load v2) [47] [14],
 t 49 (.idxA 51) [33,34] [0,1,11,15],
 ⟨none,.store v2,[(.t 49),(.t 44)],[16],none⟩,
 t 50 (.idxA 51) [35,38] [2,5,17],
 ⟨none,.store v2,[(.t 50),(.t 48)],[18],none⟩])
 (F [
 m 51 0,
 m 52 7,
 m 53 10,
 m 54 6,
 y 55 175 [] [51,52,53,54] []])))
 (F [
 m 31 10,
 o 32 (.bin .sub) [(.t 31),(.c (.int .i64 1))] [],
 m 10 32])))))))))⟩
def c_bits_Len32 : DFun := ⟨19,1,[.p],[.p v1],[.t 2],
 q (F [
 i 2 0])
 (q (q (F [
 m 3 0,
 o 4 (.bin .geq) [(.t 3),(.c (.int .u32 65536))] []])
 (.cond (.t 4) (q (F [
 m 5 0,
 o 6 (.bin .shr) [(.t 5),(.c (.int .u64 16))] [],
 m 0 6])
 (F [
 i 2 16])) .skip))
 (q (q (F [
 m 7 0,
 o 8 (.bin .geq) [(.t 7),(.c (.int .u32 256))] []])
 (.cond (.t 8) (q (F [
 m 9 0,
 o 10 (.bin .shr) [(.t 9),(.c (.int .u64 8))] [],
 m 0 10])
 (F [
 m 11 2,
 o 12 (.bin .add) [(.t 11),(.c (.int .i64 8))] [],
 m 2 12])) .skip))
 (q (F [
 m 13 2,
 m 14 0,
 u 15 (.conv .u8) [14],
 o 16 (.idxS) [(.c (.str (⟨#[0,1,2,2,3,3,3,3,4,4,4,4,4,4,4,4,5,5,5,5,5,5,5,5,5,5,5,5,5,5,5,5,6,6,6,6,6,6,6,6,6,6,6,6,6,6,6,6,6,6,6,6,6,6,6,6,6,6,6,6,6,6,6,6,7,7,7,7,7,7,7,7,7,7,7,7,7,7,7,7,7,7,7,7,7,7,7,7,7,7,7,7,7,7,7,7,7,7,7,7,7,7,7,7,7,7,7,7,7,7,7,7,7,7,7,7,7,7,7,7,7,7,7,7,7,7,7,7,8,8,8,8,8,8,8,8,8,8,8,8,8,8,8,8,8,8,8,8,8,8,8,8,8,8,8,8,8,8,8,8,8,8,8,8,8,8,8,8,8,8,8,8,8,8,8,8,8,8,8,8,8,8,8,8,8,8,8,8,8,8,8,8,8,8,8,8,8,8,8,8,8,8,8,8,8,8,8,8,8,8,8,8,8,8,8,8,8,8,8,8,8,8,8,8,8,8,8,8,8,8,8,8,8,8,8,8,8,8,8,8,8,8,8,8,8,8,8,8,8,8,8,8,8,8,8,8]⟩ : ByteArray))),(.t 15)] [],
 u 17 (.conv .i64) [16],
 u 18 (.bin .add) [13,17],
 m 2 18])
 .ret)))⟩
def c_bits_Len64 : DFun := ⟨25,1,[.p],[.p v1],[.t 2],
 q (F [
 i 2 0])
 (q (q (F [
 m 3 0,
 o 4 (.bin .geq) [(.t 3),(.c (.int .u64 4294967296))] []])
 (.cond (.t 4) (q (F [
 m 5 0,
 o 6 (.bin .shr) [(.t 5),(.c (.int .u64 32))] [],
 m 0 6])
 (F [
 i 2 32])) .skip))
 (q (q (F [
 m 7 0,
 o 8 (.bin .geq) [(.t 7),(.c (.int .u64 65536))] []])
 (.cond (.t 8) (q (F [
 m 9 0,
 o 10 (.bin .shr) [(.t 9),(.c (.int .u64 16))] [],
 m 0 10])
 (F [
 m 11 2,
 o 12 (.bin .add) [(.t 11),(.c (.int .i64 16))] [],
 m 2 12])) .skip))
 (q (q (F [
 m 13 0,
 o 14 (.bin .geq) [(.t 13),(.c (.int .u64 256))] []])
 (.cond (.t 14) (q (F [
 m 15 0,
 o 16 (.bin .shr) [(.t 15),(.c (.int .u64 8))] [],
 m 0 16])
 (F [
 m 17 2,
 o 18 (.bin .add) [(.t 17),(.c (.int .i64 8))] [],
 m 2 18])) .skip))
 (q (F [
 m 19 2,
 m 20 0,
 u 21 (.conv .u8) [20],
 o 22 (.idxS) [(.c (.str (⟨#[0,1,2,2,3,3,3,3,4,4,4,4,4,4,4,4,5,5,5,5,5,5,5,5,5,5,5,5,5,5,5,5,6,6,6,6,6,6,6,6,6,6,6,6,6,6,6,6,6,6,6,6,6,6,6,6,6,6,6,6,6,6,6,6,7,7,7,7,7,7,7,7,7,7,7,7,7,7,7,7,7,7,7,7,7,7,7,7,7,7,7,7,7,7,7,7,7,7,7,7,7,7,7,7,7,7,7,7,7,7,7,7,7,7,7,7,7,7,7,7,7,7,7,7,7,7,7,7,8,8,8,8,8,8,8,8,8,8,8,8,8,8,8,8,8,8,8,8,8,8,8,8,8,8,8,8,8,8,8,8,8,8,8,8,8,8,8,8,8,8,8,8,8,8,8,8,8,8,8,8,8,8,8,8,8,8,8,8,8,8,8,8,8,8,8,8,8,8,8,8,8,8,8,8,8,8,8,8,8,8,8,8,8,8,8,8,8,8,8,8,8,8,8,8,8,8,8,8,8,8,8,8,8,8,8,8,8,8,8,8,8,8,8,8,8,8,8,8,8,8,8,8,8,8,8,8]⟩ : ByteArray))),(.t 21)] [],
 u 23 (.conv .i64) [22],
 u 24 (.bin .add) [19,23],
 m 2 24])
 .ret))))⟩
def c_bits_Len : DFun := ⟨8,2,[.p],[.p v1],[.t 2],
 q (F [
 i 2 0])
 (q (.cond (.c (.bool false)) (q (F [
 m 3 0,
 u 4 (.conv .u32) [3],
 y 5 173 [] [4] [],
 m 2 5])
 .ret) .skip)
 (q (F [
 m 6 0,
 y 7 174 [1] [6] [],
 m 2 7])
 .ret))⟩
def c_slices_nextPowerOfTwo : DFun := ⟨7,2,[.p],[.p v3],[.t 2],
 q (F [
 o 2 (.mv) [(.c (.int .u64 0))] []])
 (q (F [
 m 3 0,
 u 4 (.conv .u64) [3],
 y 5 162 [1] [4] [],
 o 6 (.bin .shl) [(.c (.int .u64 1)),(.t 5)] [],
 m 2 6])
 .ret)⟩
def c_slices_xorshift_Next : DFun := ⟨33,1,[.v [.int .u64]],[.p v3],[.t 2],
 q (F [
 o 2 (.mv) [(.c (.int .u64 0))] []])
 (q (T [
 m 3 0,
 t 4 .nilck [3] [0],
 t 5 (.load v3) [4] [1],
 m 6 0,
 t 7 .nilck [6] [3],
 t 8 (.load v3) [7] [4],
 o 9 (.bin .shl) [(.t 8),(.c (.int .u64 13))] [5],
 t 10 (.bin .xor) [5,9] [2,6],
 t 11 .nilck [3] [7],
 ⟨none,.store v3,[(.t 11),(.t 10)],[8],none⟩])
 (q (T [
 m 12 0,
 t 13 .nilck [12] [0],
 t 14 (.load v3) [13] [1],
 m 15 0,
 t 16 .nilck [15] [3],
 t 17 (.load v3) [16] [4],
 o 18 (.bin .shr) [(.t 17),(.c (.int .u64 7))] [5],
 t 19 (.bin .xor) [14,18] [2,6],
 t 20 .nilck [12] [7],
 ⟨none,.store v3,[(.t 20),(.t 19)],[8],none⟩])
 (q (T [
 m 21 0,
 t 22 .nilck [21] [0],
 t 23 (.load v3) [22] [1],
 m 24 0,
 t 25 .nilck [24] [3],
 t 26 (.load v3) [25] [4],
 o 27 (.bin .shl) [(.t 26),(.c (.int .u64 17))] [5],
 t 28 (.bin .xor) [23,27] [2,6],
 t 29 .nilck [21] [7],
 ⟨none,.store v3,[(.t 29),(.t 28)],[8],none⟩])
 (q (F [
 m 30 0,
 u 31 .nilck [30],
 u 32 (.load v3) [31],
 m 2 32])
 .ret))))⟩
def c_slices_breakPatternsOrdered : DFun := ⟨65,6,[.m 51,.p,.p],[],[],
 q (F [
 m 11 2,
 m 12 1,
 u 13 (.bin .sub) [11,12],
 m 6 13])
 (q (F [
 m 14 6,
 o 15 (.bin .geq) [(.t 14),(.c (.int .i64 8))] []])
 (.cond (.t 15) (q (F [
 m 16 6,
 u 17 (.conv .u64) [16],
 u 7 (.alloc 3 [(D.int .u64 0)]) [],
 ⟨none,.store v3,[(.t 7),(.t 17)],[],none⟩])
 (q (F [
 m 18 6,
 y 19 176 [4] [18] [],
 m 8 19])
 (q (F [
 m 20 1,
 m 21 6,
 o 22 (.bin .quo) [(.t 21),(.c (.int .i64 4))] [],
 o 23 (.bin .mul) [(.t 22),(.c (.int .i64 2))] [],
 u 24 (.bin .add) [20,23],
 o 25 (.bin .sub) [(.t 24),(.c (.int .i64 1))] [],
 m 9 25])
 (.block 0 (.loop ⟨[0,1,6,7,8],[(9,.p v1)],[(0,.a 51),(3,.v [.p (.int .u64)])]⟩ (q (q (F [
 m 26 9,
 m 27 1,
 m 28 6,
 o 29 (.bin .quo) [(.t 28),(.c (.int .i64 4))] [],
 o 30 (.bin .mul) [(.t 29),(.c (.int .i64 2))] [],
 u 31 (.bin .add) [27,30],
 o 32 (.bin .add) [(.t 31),(.c (.int .i64 1))] [],
 u 33 (.bin .leq) [26,32]])
 (.cond (.t 33) .skip (.exit 0)))
 (q (.block 1 (q (F [
 y 36 177 [5] [7] [],
 m 37 8,
 o 38 (.bin .sub) [(.t 37),(.c (.int .u64 1))] [],
 u 39 (.bin .and) [36,38],
 u 40 (.conv .i64) [39],
 m 10 40])
 (q (q (F [
 m 41 10,
 m 42 6,
 u 43 (.bin .geq) [41,42]])
 (.cond (.t 43) (F [
 m 44 10,
 m 45 6,
 u 46 (.bin .sub) [44,45],
 m 10 46]) .skip))
 (T [
 m 47 0,
 m 48 9,
 m 49 0,
 m 50 1,
 m 51 10,
 t 52 (.bin .add) [50,51] [3,4],
 m 53 0,
 m 54 1,
 m 55 10,
 t 56 (.bin .add) [54,55] [7,8],
 t 57 (.idxA 51) [53,56] [6,9],
 t 58 (.load v2) [57] [10],
 m 59 0,
 m 60 9,
 t 61 (.idxA 51) [59,60] [12,13],
 t 62 (.load v2) [61] [14],
 t 63 (.idxA 51) [47,48] [0,1,11,15],
 ⟨none,.store v2,[(.t 63),(.t 58)],[16],none⟩,
 t 64 (.idxA 51) [49,52] [2,5,17],
 ⟨none,.store v2,[(.t 64),(.t 62)],[18],none⟩]))))
 (F [
 m 34 9,
 o 35 (.bin .add) [(.t 34),(.c (.int .i64 1))] [],
 m 9 35])))))))) .skip))⟩
def c_slices_order2Ordered : DFun := ⟨28,5,[.m 51,.p,.p,.v [.int .i64]],[.p v1,.p v1],[.t 8,.t 9],
 q (F [
 i 8 0,
 i 9 0])
 (q (q (T [
 m 10 0,
 m 11 2,
 t 12 (.idxA 51) [10,11] [0,1],
 t 13 (.load v2) [12] [2],
 m 14 0,
 m 15 1,
 t 16 (.idxA 51) [14,15] [4,5],
 t 17 (.load v2) [16] [6],
 y 18 170 [4] [13,17] [3,7]])
 (.cond (.t 18) (q (F [
 m 19 3,
 u 20 .nilck [19],
 u 21 (.load v1) [20],
 o 22 (.bin .add) [(.t 21),(.c (.int .i64 1))] [],
 u 23 .nilck [19],
 ⟨none,.store v1,[(.t 23),(.t 22)],[],none⟩])
 (q (F [
 m 24 2,
 m 25 1,
 m 8 24,
 m 9 25])
 .ret)) .skip))
 (q (F [
 m 26 1,
 m 27 2,
 m 8 26,
 m 9 27])
 .ret))⟩
def c_slices_medianOrdered : DFun := ⟨36,11,[.m 51,.p,.p,.p,.v [.int .i64]],[.p v1],[.t 10],
 q (F [
 i 10 0])
 (q (F [
 m 12 0,
 m 13 1,
 m 14 2,
 m 15 4,
 y 16 180 [5,6] [12,13,14,15] [],
 m 11 16,
 u 17 (.ext 0) [11],
 u 18 (.ext 1) [11],
 m 1 17,
 m 2 18])
 (q (F [
 m 20 0,
 m 21 2,
 m 22 3,
 m 23 4,
 y 24 180 [7,8] [20,21,22,23] [],
 m 19 24,
 u 25 (.ext 0) [19],
 u 26 (.ext 1) [19],
 m 2 25,
 m 3 26])
 (q (F [
 m 28 0,
 m 29 1,
 m 30 2,
 m 31 4,
 y 32 180 [9,10] [28,29,30,31] [],
 m 27 32,
 u 33 (.ext 0) [27],
 u 34 (.ext 1) [27],
 m 1 33,
 m 2 34])
 (q (F [
 m 35 2,
 m 10 35])
 .ret))))⟩
def c_slices_medianAdjacentOrdered : DFun := ⟨15,4,[.m 51,.p,.v [.int .i64]],[.p v1],[.t 6],
 q (F [
 i 6 0])
 (q (F [
 m 7 0,
 m 8 1,
 o 9 (.bin .sub) [(.t 8),(.c (.int .i64 1))] [],
 m 10 1,
 m 11 1,
 o 12 (.bin .add) [(.t 11),(.c (.int .i64 1))] [],
 m 13 2,
 y 14 179 [3] [7,9,10,12,13] [],
 m 6 14])
 .ret)⟩
def c_slices_choosePivotOrdered : DFun := ⟨57,8,[.m 51,.p,.p],[.p v1,.p v1],[.t 6,.t 7],
 q (F [
 i 6 0,
 i 7 0])
 (q (F [
 m 13 2,
 m 14 1,
 u 15 (.bin .sub) [13,14],
 m 8 15])
 (q (F [
 u 9 (.alloc 3 [(D.int .i64 0)]) []])
 (q (F [
 m 16 1,
 m 17 8,
 o 18 (.bin .quo) [(.t 17),(.c (.int .i64 4))] [],
 o 19 (.bin .mul) [(.t 18),(.c (.int .i64 1))] [],
 u 20 (.bin .add) [16,19],
 m 10 20])
 (q (F [
 m 21 1,
 m 22 8,
 o 23 (.bin .quo) [(.t 22),(.c (.int .i64 4))] [],
 o 24 (.bin .mul) [(.t 23),(.c (.int .i64 2))] [],
 u 25 (.bin .add) [21,24],
 m 11 25])
 (q (F [
 m 26 1,
 m 27 8,
 o 28 (.bin .quo) [(.t 27),(.c (.int .i64 4))] [],
 o 29 (.bin .mul) [(.t 28),(.c (.int .i64 3))] [],
 u 30 (.bin .add) [26,29],
 m 12 30])
 (q (q (F [
 m 31 8,
 o 32 (.bin .geq) [(.t 31),(.c (.int .i64 8))] []])
 (.cond (.t 32) (q (q (F [
 m 33 8,
 o 34 (.bin .geq) [(.t 33),(.c (.int .i64 50))] []])
 (.cond (.t 34) (q (F [
 m 35 0,
 m 36 10,
 y 37 178 [4] [35,36,9] [],
 m 10 37])
 (q (F [
 m 38 0,
 m 39 11,
 y 40 178 [5] [38,39,9] [],
 m 11 40])
 (F [
 m 41 0,
 m 42 12,
 y 43 178 [6] [41,42,9] [],
 m 12 43]))) .skip))
 (F [
 m 44 0,
 m 45 10,
 m 46 11,
 m 47 12,
 y 48 179 [7] [44,45,46,47,9] [],
 m 11 48])) .skip))
 (q (F [
 u 49 (.load v1) [9]])
 (.block 0 (q (F [
 o 52 (.bin .eql) [(.t 49),(.c (.int .i64 0))] [],
 m 51 52])
 (.cond (.t 51) (q (F [
 m 53 11,
 m 6 53,
 i 7 1])
 .ret) (q (F [
 o 55 (.bin .eql) [(.t 49),(.c (.int .i64 12))] [],
 m 54 55])
 (.cond (.t 54) (q (F [
 m 56 11,
 m 6 56,
 i 7 2])
 .ret) (q (F [
 m 50 11,
 m 6 50,
 i 7 0])
 .ret)))))))))))))⟩
def c_slices_reverseRangeOrdered : DFun := ⟨32,3,[.m 51,.p,.p],[],[],
 q (F [
 m 8 1,
 m 6 8])
 (q (F [
 m 9 2,
 o 10 (.bin .sub) [(.t 9),(.c (.int .i64 1))] [],
 m 7 10])
 (.block 0 (.loop ⟨[0],[(6,.p v1),(7,.p v1)],[(0,.a 51)]⟩ (q (q (F [
 m 11 6,
 m 12 7,
 u 13 (.bin .lss) [11,12]])
 (.cond (.t 13) .skip (.exit 0)))
 (.block 1 (q (T [
 m 14 0,
 m 15 6,
 m 16 0,
 m 17 7,
 m 18 0,
 m 19 7,
 t 20 (.idxA 51) [18,19] [4,5],
 t 21 (.load v2) [20] [6],
 m 22 0,
 m 23 6,
 t 24 (.idxA 51) [22,23] [8,9],
 t 25 (.load v2) [24] [10],
 t 26 (.idxA 51) [14,15] [0,1,7,11],
 ⟨none,.store v2,[(.t 26),(.t 21)],[12],none⟩,
 t 27 (.idxA 51) [16,17] [2,3,13],
 ⟨none,.store v2,[(.t 27),(.t 25)],[14],none⟩])
 (q (F [
 m 28 6,
 o 29 (.bin .add) [(.t 28),(.c (.int .i64 1))] [],
 m 6 29])
 (F [
 m 30 7,
 o 31 (.bin .sub) [(.t 30),(.c (.int .i64 1))] [],
 m 7 31]))))))))⟩
def c_slices_partialInsertionSortOrdered : DFun := ⟨133,6,[.m 51,.p,.p],[.p v0],[.t 6],
 q (F [
 o 6 (.mv) [(.c (.bool false))] []])
 (q (F [
 m 11 1,
 o 12 (.bin .add) [(.t 11),(.c (.int .i64 1))] [],
 m 7 12])
 (q (q (F [
 i 8 0])
 (.block 0 (.loop ⟨[0,1,2],[(7,.p v1),(8,.p v1)],[(0,.a 51)]⟩ (q (q (F [
 m 13 8,
 o 14 (.bin .lss) [(.t 13),(.c (.int .i64 5))] []])
 (.cond (.t 14) .skip (.exit 0)))
 (q (.block 1 (q (.block 2 (.loop ⟨[0,1,2,8],[(7,.p v1)],[(0,.a 51)]⟩ (q (q (T [
 m 17 7,
 m 18 2,
 t 19 (.bin .lss) [17,18] [0,1],
 t 20 .mv [19] [2],
 g 21 (.mv) [0] [3] 20 true,
 g 22 (.mv) [7] [3] 20 true,
 g 23 (.idxA 51) [21,22] [4,5] 20 true,
 g 24 (.load v2) [23] [6] 20 true,
 g 25 (.mv) [0] [3] 20 true,
 g 26 (.mv) [7] [3] 20 true,
 ⟨some 27,.bin .sub,[(.t 26),(.c (.int .i64 1))],[9],some (20,true)⟩,
 g 28 (.idxA 51) [25,27] [8,10] 20 true,
 g 29 (.load v2) [28] [11] 20 true,
 ⟨some 30,.call [3],[(.c (.fn 170 [])),(.t 24),(.t 29)],[7,12],some (20,true)⟩,
 g 31 (.not) [30] [13] 20 true,
 o 32 (.pick) [(.t 20),(.t 31),(.c (.bool false))] [14]])
 (.cond (.t 32) .skip (.exit 2)))
 (.block 3 (F [
 m 33 7,
 o 34 (.bin .add) [(.t 33),(.c (.int .i64 1))] [],
 m 7 34])))))
 (q (q (F [
 m 35 7,
 m 36 2,
 u 37 (.bin .eql) [35,36]])
 (.cond (.t 37) (q (F [
 o 6 (.mv) [(.c (.bool true))] []])
 .ret) .skip))
 (q (q (F [
 m 38 2,
 m 39 1,
 u 40 (.bin .sub) [38,39],
 o 41 (.bin .lss) [(.t 40),(.c (.int .i64 50))] []])
 (.cond (.t 41) (q (F [
 o 6 (.mv) [(.c (.bool false))] []])
 .ret) .skip))
 (q (T [
 m 42 0,
 m 43 7,
 m 44 0,
 m 45 7,
 o 46 (.bin .sub) [(.t 45),(.c (.int .i64 1))] [3],
 m 47 0,
 m 48 7,
 o 49 (.bin .sub) [(.t 48),(.c (.int .i64 1))] [6],
 t 50 (.idxA 51) [47,49] [5,7],
 t 51 (.load v2) [50] [8],
 m 52 0,
 m 53 7,
 t 54 (.idxA 51) [52,53] [10,11],
 t 55 (.load v2) [54] [12],
 t 56 (.idxA 51) [42,43] [0,1,9,13],
 ⟨none,.store v2,[(.t 56),(.t 51)],[14],none⟩,
 t 57 (.idxA 51) [44,46] [2,4,15],
 ⟨none,.store v2,[(.t 57),(.t 55)],[16],none⟩])
 (q (q (F [
 m 58 7,
 m 59 1,
 u 60 (.bin .sub) [58,59],
 o 61 (.bin .geq) [(.t 60),(.c (.int .i64 2))] []])
 (.cond (.t 61) (q (F [
 m 62 7,
 o 63 (.bin .sub) [(.t 62),(.c (.int .i64 1))] [],
 m 9 63])
 (.block 4 (.loop ⟨[0,1,2,7,8],[(9,.p v1)],[(0,.a 51)]⟩ (q (q (F [
 m 64 9,
 o 65 (.bin .geq) [(.t 64),(.c (.int .i64 1))] []])
 (.cond (.t 65) .skip (.exit 4)))
 (q (.block 5 (q (q (T [
 m 68 0,
 m 69 9,
 t 70 (.idxA 51) [68,69] [0,1],
 t 71 (.load v2) [70] [2],
 m 72 0,
 m 73 9,
 o 74 (.bin .sub) [(.t 73),(.c (.int .i64 1))] [5],
 t 75 (.idxA 51) [72,74] [4,6],
 t 76 (.load v2) [75] [7],
 y 77 170 [4] [71,76] [3,8],
 t 78 .not [77] [9]])
 (.cond (.t 78) (.exit 4) .skip))
 (T [
 m 79 0,
 m 80 9,
 m 81 0,
 m 82 9,
 o 83 (.bin .sub) [(.t 82),(.c (.int .i64 1))] [3],
 m 84 0,
 m 85 9,
 o 86 (.bin .sub) [(.t 85),(.c (.int .i64 1))] [6],
 t 87 (.idxA 51) [84,86] [5,7],
 t 88 (.load v2) [87] [8],
 m 89 0,
 m 90 9,
 t 91 (.idxA 51) [89,90] [10,11],
 t 92 (.load v2) [91] [12],
 t 93 (.idxA 51) [79,80] [0,1,9,13],
 ⟨none,.store v2,[(.t 93),(.t 88)],[14],none⟩,
 t 94 (.idxA 51) [81,83] [2,4,15],
 ⟨none,.store v2,[(.t 94),(.t 92)],[16],none⟩])))
 (F [
 m 66 9,
 o 67 (.bin .sub) [(.t 66),(.c (.int .i64 1))] [],
 m 9 67])))))) .skip))
 (q (F [
 m 95 2,
 m 96 7,
 u 97 (.bin .sub) [95,96],
 o 98 (.bin .geq) [(.t 97),(.c (.int .i64 2))] []])
 (.cond (.t 98) (q (F [
 m 99 7,
 o 100 (.bin .add) [(.t 99),(.c (.int .i64 1))] [],
 m 10 100])
 (.block 6 (.loop ⟨[0,1,2,7,8],[(10,.p v1)],[(0,.a 51)]⟩ (q (q (F [
 m 101 10,
 m 102 2,
 u 103 (.bin .lss) [101,102]])
 (.cond (.t 103) .skip (.exit 6)))
 (q (.block 7 (q (q (T [
 m 106 0,
 m 107 10,
 t 108 (.idxA 51) [106,107] [0,1],
 t 109 (.load v2) [108] [2],
 m 110 0,
 m 111 10,
 o 112 (.bin .sub) [(.t 111),(.c (.int .i64 1))] [5],
 t 113 (.idxA 51) [110,112] [4,6],
 t 114 (.load v2) [113] [7],
 y 115 170 [5] [109,114] [3,8],
 t 116 .not [115] [9]])
 (.cond (.t 116) (.exit 6) .skip))
 (T [
 m 117 0,
 m 118 10,
 m 119 0,
 m 120 10,
 o 121 (.bin .sub) [(.t 120),(.c (.int .i64 1))] [3],
 m 122 0,
 m 123 10,
 o 124 (.bin .sub) [(.t 123),(.c (.int .i64 1))] [6],
 t 125 (.idxA 51) [122,124] [5,7],
 t 126 (.load v2) [125] [8],
 m 127 0,
 m 128 10,
 t 129 (.idxA 51) [127,128] [10,11],
 t 130 (.load v2) [129] [12],
 t 131 (.idxA 51) [117,118] [0,1,9,13],
 ⟨none,.store v2,[(.t 131),(.t 126)],[14],none⟩,
 t 132 (.idxA 51) [119,121] [2,4,15],
 ⟨none,.store v2,[(.t 132),(.t 130)],[16],none⟩])))
 (F [
 m 104 10,
 o 105 (.bin .add) [(.t 104),(.c (.int .i64 1))] [],
 m 10 105])))))) .skip))))))))
 (F [
 m 15 8,
 o 16 (.bin .add) [(.t 15),(.c (.int .i64 1))] [],
 m 8 16]))))))
 (q (F [
 o 6 (.mv) [(.c (.bool false))] []])
 .ret)))⟩
def c_slices_partitionEqualOrdered : DFun := ⟨84,6,[.m 51,.p,.p,.p],[.p v1],[.t 8],
 q (F [
 i 8 0])
 (q (T [
 m 11 0,
 m 12 1,
 m 13 0,
 m 14 3,
 m 15 0,
 m 16 3,
 t 17 (.idxA 51) [15,16] [4,5],
 t 18 (.load v2) [17] [6],
 m 19 0,
 m 20 1,
 t 21 (.idxA 51) [19,20] [8,9],
 t 22 (.load v2) [21] [10],
 t 23 (.idxA 51) [11,12] [0,1,7,11],
 ⟨none,.store v2,[(.t 23),(.t 18)],[12],none⟩,
 t 24 (.idxA 51) [13,14] [2,3,13],
 ⟨none,.store v2,[(.t 24),(.t 22)],[14],none⟩])
 (q (F [
 m 25 1,
 o 26 (.bin .add) [(.t 25),(.c (.int .i64 1))] [],
 m 27 2,
 o 28 (.bin .sub) [(.t 27),(.c (.int .i64 1))] [],
 m 9 26,
 m 10 28])
 (q (.block 0 (.loop ⟨[0,1],[(9,.p v1),(10,.p v1)],[(0,.a 51)]⟩ (.block 1 (q (.block 2 (.loop ⟨[0,1,10],[(9,.p v1)],[(0,.a 51)]⟩ (q (q (T [
 m 29 9,
 m 30 10,
 t 31 (.bin .leq) [29,30] [0,1],
 t 32 .mv [31] [2],
 g 33 (.mv) [0] [3] 32 true,
 g 34 (.mv) [1] [3] 32 true,
 g 35 (.idxA 51) [33,34] [4,5] 32 true,
 g 36 (.load v2) [35] [6] 32 true,
 g 37 (.mv) [0] [3] 32 true,
 g 38 (.mv) [9] [3] 32 true,
 g 39 (.idxA 51) [37,38] [8,9] 32 true,
 g 40 (.load v2) [39] [10] 32 true,
 ⟨some 41,.call [4],[(.c (.fn 170 [])),(.t 36),(.t 40)],[7,11],some (32,true)⟩,
 g 42 (.not) [41] [12] 32 true,
 o 43 (.pick) [(.t 32),(.t 42),(.c (.bool false))] [13]])
 (.cond (.t 43) .skip (.exit 2)))
 (.block 3 (F [
 m 44 9,
 o 45 (.bin .add) [(.t 44),(.c (.int .i64 1))] [],
 m 9 45])))))
 (q (.block 4 (.loop ⟨[0,1,9],[(10,.p v1)],[(0,.a 51)]⟩ (q (q (T [
 m 46 9,
 m 47 10,
 t 48 (.bin .leq) [46,47] [0,1],
 t 49 .mv [48] [2],
 g 50 (.mv) [0] [3] 49 true,
 g 51 (.mv) [1] [3] 49 true,
 g 52 (.idxA 51) [50,51] [4,5] 49 true,
 g 53 (.load v2) [52] [6] 49 true,
 g 54 (.mv) [0] [3] 49 true,
 g 55 (.mv) [10] [3] 49 true,
 g 56 (.idxA 51) [54,55] [8,9] 49 true,
 g 57 (.load v2) [56] [10] 49 true,
 ⟨some 58,.call [5],[(.c (.fn 170 [])),(.t 53),(.t 57)],[7,11],some (49,true)⟩,
 o 59 (.pick) [(.t 49),(.t 58),(.c (.bool false))] [12]])
 (.cond (.t 59) .skip (.exit 4)))
 (.block 5 (F [
 m 60 10,
 o 61 (.bin .sub) [(.t 60),(.c (.int .i64 1))] [],
 m 10 61])))))
 (q (q (F [
 m 62 9,
 m 63 10,
 u 64 (.bin .gtr) [62,63]])
 (.cond (.t 64) (.exit 0) .skip))
 (q (T [
 m 65 0,
 m 66 9,
 m 67 0,
 m 68 10,
 m 69 0,
 m 70 10,
 t 71 (.idxA 51) [69,70] [4,5],
 t 72 (.load v2) [71] [6],
 m 73 0,
 m 74 9,
 t 75 (.idxA 51) [73,74] [8,9],
 t 76 (.load v2) [75] [10],
 t 77 (.idxA 51) [65,66] [0,1,7,11],
 ⟨none,.store v2,[(.t 77),(.t 72)],[12],none⟩,
 t 78 (.idxA 51) [67,68] [2,3,13],
 ⟨none,.store v2,[(.t 78),(.t 76)],[14],none⟩])
 (q (F [
 m 79 9,
 o 80 (.bin .add) [(.t 79),(.c (.int .i64 1))] [],
 m 9 80])
 (F [
 m 81 10,
 o 82 (.bin .sub) [(.t 81),(.c (.int .i64 1))] [],
 m 10 82])))))))))
 (q (F [
 m 83 9,
 m 8 83])
 .ret))))⟩
def c_slices_partitionOrdered : DFun := ⟨168,8,[.m 51,.p,.p,.p],[.p v1,.p v0],[.t 8,.t 9],
 q (F [
 i 8 0,
 o 9 (.mv) [(.c (.bool false))] []])
 (q (T [
 m 12 0,
 m 13 1,
 m 14 0,
 m 15 3,
 m 16 0,
 m 17 3,
 t 18 (.idxA 51) [16,17] [4,5],
 t 19 (.load v2) [18] [6],
 m 20 0,
 m 21 1,
 t 22 (.idxA 51) [20,21] [8,9],
 t 23 (.load v2) [22] [10],
 t 24 (.idxA 51) [12,13] [0,1,7,11],
 ⟨none,.store v2,[(.t 24),(.t 19)],[12],none⟩,
 t 25 (.idxA 51) [14,15] [2,3,13],
 ⟨none,.store v2,[(.t 25),(.t 23)],[14],none⟩])
 (q (F [
 m 26 1,
 o 27 (.bin .add) [(.t 26),(.c (.int .i64 1))] [],
 m 28 2,
 o 29 (.bin .sub) [(.t 28),(.c (.int .i64 1))] [],
 m 10 27,
 m 11 29])
 (q (.block 0 (.loop ⟨[0,1,11],[(10,.p v1)],[(0,.a 51)]⟩ (q (q (T [
 m 30 10,
 m 31 11,
 t 32 (.bin .leq) [30,31] [0,1],
 t 33 .mv [32] [2],
 g 34 (.mv) [0] [3] 33 true,
 g 35 (.mv) [10] [3] 33 true,
 g 36 (.idxA 51) [34,35] [4,5] 33 true,
 g 37 (.load v2) [36] [6] 33 true,
 g 38 (.mv) [0] [3] 33 true,
 g 39 (.mv) [1] [3] 33 true,
 g 40 (.idxA 51) [38,39] [8,9] 33 true,
 g 41 (.load v2) [40] [10] 33 true,
 ⟨some 42,.call [4],[(.c (.fn 170 [])),(.t 37),(.t 41)],[7,11],some (33,true)⟩,
 o 43 (.pick) [(.t 33),(.t 42),(.c (.bool false))] [12]])
 (.cond (.t 43) .skip (.exit 0)))
 (.block 1 (F [
 m 44 10,
 o 45 (.bin .add) [(.t 44),(.c (.int .i64 1))] [],
 m 10 45])))))
 (q (.block 2 (.loop ⟨[0,1,10],[(11,.p v1)],[(0,.a 51)]⟩ (q (q (T [
 m 46 10,
 m 47 11,
 t 48 (.bin .leq) [46,47] [0,1],
 t 49 .mv [48] [2],
 g 50 (.mv) [0] [3] 49 true,
 g 51 (.mv) [11] [3] 49 true,
 g 52 (.idxA 51) [50,51] [4,5] 49 true,
 g 53 (.load v2) [52] [6] 49 true,
 g 54 (.mv) [0] [3] 49 true,
 g 55 (.mv) [1] [3] 49 true,
 g 56 (.idxA 51) [54,55] [8,9] 49 true,
 g 57 (.load v2) [56] [10] 49 true,
 ⟨some 58,.call [5],[(.c (.fn 170 [])),(.t 53),(.t 57)],[7,11],some (49,true)⟩,
 g 59 (.not) [58] [12] 49 true,
 o 60 (.pick) [(.t 49),(.t 59),(.c (.bool false))] [13]])
 (.cond (.t 60) .skip (.exit 2)))
 (.block 3 (F [
 m 61 11,
 o 62 (.bin .sub) [(.t 61),(.c (.int .i64 1))] [],
 m 11 62])))))
 (q (q (F [
 m 63 10,
 m 64 11,
 u 65 (.bin .gtr) [63,64]])
 (.cond (.t 65) (q (T [
 m 66 0,
 m 67 11,
 m 68 0,
 m 69 1,
 m 70 0,
 m 71 1,
 t 72 (.idxA 51) [70,71] [4,5],
 t 73 (.load v2) [72] [6],
 m 74 0,
 m 75 11,
 t 76 (.idxA 51) [74,75] [8,9],
 t 77 (.load v2) [76] [10],
 t 78 (.idxA 51) [66,67] [0,1,7,11],
 ⟨none,.store v2,[(.t 78),(.t 73)],[12],none⟩,
 t 79 (.idxA 51) [68,69] [2,3,13],
 ⟨none,.store v2,[(.t 79),(.t 77)],[14],none⟩])
 (q (F [
 m 80 11,
 m 8 80,
 o 9 (.mv) [(.c (.bool true))] []])
 .ret)) .skip))
 (q (T [
 m 81 0,
 m 82 10,
 m 83 0,
 m 84 11,
 m 85 0,
 m 86 11,
 t 87 (.idxA 51) [85,86] [4,5],
 t 88 (.load v2) [87] [6],
 m 89 0,
 m 90 10,
 t 91 (.idxA 51) [89,90] [8,9],
 t 92 (.load v2) [91] [10],
 t 93 (.idxA 51) [81,82] [0,1,7,11],
 ⟨none,.store v2,[(.t 93),(.t 88)],[12],none⟩,
 t 94 (.idxA 51) [83,84] [2,3,13],
 ⟨none,.store v2,[(.t 94),(.t 92)],[14],none⟩])
 (q (F [
 m 95 10,
 o 96 (.bin .add) [(.t 95),(.c (.int .i64 1))] [],
 m 10 96])
 (q (F [
 m 97 11,
 o 98 (.bin .sub) [(.t 97),(.c (.int .i64 1))] [],
 m 11 98])
 (q (.block 4 (.loop ⟨[0,1],[(10,.p v1),(11,.p v1)],[(0,.a 51)]⟩ (.block 5 (q (.block 6 (.loop ⟨[0,1,11],[(10,.p v1)],[(0,.a 51)]⟩ (q (q (T [
 m 99 10,
 m 100 11,
 t 101 (.bin .leq) [99,100] [0,1],
 t 102 .mv [101] [2],
 g 103 (.mv) [0] [3] 102 true,
 g 104 (.mv) [10] [3] 102 true,
 g 105 (.idxA 51) [103,104] [4,5] 102 true,
 g 106 (.load v2) [105] [6] 102 true,
 g 107 (.mv) [0] [3] 102 true,
 g 108 (.mv) [1] [3] 102 true,
 g 109 (.idxA 51) [107,108] [8,9] 102 true,
 g 110 (.load v2) [109] [10] 102 true,
 ⟨some 111,.call [6],[(.c (.fn 170 [])),(.t 106),(.t 110)],[7,11],some (102,true)⟩,
 o 112 (.pick) [(.t 102),(.t 111),(.c (.bool false))] [12]])
 (.cond (.t 112) .skip (.exit 6)))
 (.block 7 (F [
 m 113 10,
 o 114 (.bin .add) [(.t 113),(.c (.int .i64 1))] [],
 m 10 114])))))
 (q (.block 8 (.loop ⟨[0,1,10],[(11,.p v1)],[(0,.a 51)]⟩ (q (q (T [
 m 115 10,
 m 116 11,
 t 117 (.bin .leq) [115,116] [0,1],
 t 118 .mv [117] [2],
 g 119 (.mv) [0] [3] 118 true,
 g 120 (.mv) [11] [3] 118 true,
 g 121 (.idxA 51) [119,120] [4,5] 118 true,
 g 122 (.load v2) [121] [6] 118 true,
 g 123 (.mv) [0] [3] 118 true,
 g 124 (.mv) [1] [3] 118 true,
 g 125 (.idxA 51) [123,124] [8,9] 118 true,
 g 126 (.load v2) [125] [10] 118 true,
 ⟨some 127,.call [7],[(.c (.fn 170 [])),(.t 122),(.t 126)],[7,11],some (118,true)⟩,
 g 128 (.not) [127] [12] 118 true,
 o 129 (.pick) [(.t 118),(.t 128),(.c (.bool false))] [13]])
 (.cond (.t 129) .skip (.exit 8)))
 (.block 9 (F [
 m 130 11,
 o 131 (.bin .sub) [(.t 130),(.c (.int .i64 1))] [],
 m 11 131])))))
 (q (q (F [
 m 132 10,
 m 133 11,
 u 134 (.bin .gtr) [132,133]])
 (.cond (.t 134) (.exit 4) .skip))
 (q (T [
 m 135 0,
 m 136 10,
 m 137 0,
 m 138 11,
 m 139 0,
 m 140 11,
 t 141 (.idxA 51) [139,140] [4,5],
 t 142 (.load v2) [141] [6],
 m 143 0,
 m 144 10,
 t 145 (.idxA 51) [143,144] [8,9],
 t 146 (.load v2) [145] [10],
 t 147 (.idxA 51) [135,136] [0,1,7,11],
 ⟨none,.store v2,[(.t 147),(.t 142)],[12],none⟩,
 t 148 (.idxA 51) [137,138] [2,3,13],
 ⟨none,.store v2,[(.t 148),(.t 146)],[14],none⟩])
 (q (F [
 m 149 10,
 o 150 (.bin .add) [(.t 149),(.c (.int .i64 1))] [],
 m 10 150])
 (F [
 m 151 11,
 o 152 (.bin .sub) [(.t 151),(.c (.int .i64 1))] [],
 m 11 152])))))))))
 (q (T [
 m 153 0,
 m 154 11,
 m 155 0,
 m 156 1,
 m 157 0,
 m 158 1,
 t 159 (.idxA 51) [157,158] [4,5],
 t 160 (.load v2) [159] [6],
 m 161 0,
 m 162 11,
 t 163 (.idxA 51) [161,162] [8,9],
 t 164 (.load v2) [163] [10],
 t 165 (.idxA 51) [153,154] [0,1,7,11],
 ⟨none,.store v2,[(.t 165),(.t 160)],[12],none⟩,
 t 166 (.idxA 51) [155,156] [2,3,13],
 ⟨none,.store v2,[(.t 166),(.t 164)],[14],none⟩])
 (q (F [
 m 167 11,
 m 8 167,
 o 9 (.mv) [(.c (.bool false))] []])
 .ret)))))))))))⟩
def c_slices_pdqsortOrdered : DFun := ⟨134,11,[.m 51,.p,.p,.p],[],[],
 q (F [
 o 8 (.mv) [(.c (.bool true))] []])
 (q (F [
 o 9 (.mv) [(.c (.bool true))] []])
 (.block 0 (.loop ⟨[0],[(1,.p v1),(2,.p v1),(3,.p v1),(8,.p v0),(9,.p v0)],[(0,.a 51)]⟩ (.block 1 (q (F [
 m 19 2,
 m 20 1,
 u 21 (.bin .sub) [19,20],
 m 10 21])
 (q (q (F [
 m 22 10,
 o 23 (.bin .leq) [(.t 22),(.c (.int .i64 12))] []])
 (.cond (.t 23) (q (F [
 m 24 0,
 m 25 1,
 m 26 2,
 y 27 164 [] [24,25,26] []])
 .ret) .skip))
 (q (q (F [
 m 28 3,
 o 29 (.bin .eql) [(.t 28),(.c (.int .i64 0))] []])
 (.cond (.t 29) (q (F [
 m 30 0,
 m 31 1,
 m 32 2,
 y 33 165 [] [30,31,32] []])
 .ret) .skip))
 (q (q (F [
 m 34 8,
 u 35 .not [34]])
 (.cond (.t 35) (q (F [
 m 36 0,
 m 37 1,
 m 38 2,
 y 39 166 [] [36,37,38] []])
 (F [
 m 40 3,
 o 41 (.bin .sub) [(.t 40),(.c (.int .i64 1))] [],
 m 3 41])) .skip))
 (q (F [
 m 43 0,
 m 44 1,
 m 45 2,
 y 46 167 [4,5] [43,44,45] [],
 m 42 46,
 u 47 (.ext 0) [42],
 u 48 (.ext 1) [42],
 m 11 47,
 m 12 48])
 (q (q (F [
 m 49 12,
 o 50 (.bin .eql) [(.t 49),(.c (.int .i64 2))] []])
 (.cond (.t 50) (q (F [
 m 51 0,
 m 52 1,
 m 53 2,
 y 54 168 [] [51,52,53] []])
 (q (F [
 m 55 2,
 o 56 (.bin .sub) [(.t 55),(.c (.int .i64 1))] [],
 m 57 11,
 m 58 1,
 u 59 (.bin .sub) [57,58],
 u 60 (.bin .sub) [56,59],
 m 11 60])
 (F [
 i 12 1]))) .skip))
 (q (q (F [
 m 61 8,
 m 62 61,
 g 63 (.mv) [9] [] 62 true,
 o 64 (.pick) [(.t 62),(.t 63),(.c (.bool false))] [],
 m 65 64,
 g 66 (.mv) [12] [] 65 true,
 ⟨some 67,.bin .eql,[(.t 66),(.c (.int .i64 1))],[],some (65,true)⟩,
 o 68 (.pick) [(.t 65),(.t 67),(.c (.bool false))] []])
 (.cond (.t 68) (q (F [
 m 69 0,
 m 70 1,
 m 71 2,
 y 72 169 [6] [69,70,71] []])
 (.cond (.t 72) .ret .skip)) .skip))
 (q (q (T [
 m 73 1,
 o 74 (.bin .gtr) [(.t 73),(.c (.int .i64 0))] [0],
 t 75 .mv [74] [1],
 g 76 (.mv) [0] [2] 75 true,
 g 77 (.mv) [1] [2] 75 true,
 ⟨some 78,.bin .sub,[(.t 77),(.c (.int .i64 1))],[4],some (75,true)⟩,
 g 79 (.idxA 51) [76,78] [3,5] 75 true,
 g 80 (.load v2) [79] [6] 75 true,
 g 81 (.mv) [0] [2] 75 true,
 g 82 (.mv) [11] [2] 75 true,
 g 83 (.idxA 51) [81,82] [8,9] 75 true,
 g 84 (.load v2) [83] [10] 75 true,
 ⟨some 85,.call [7],[(.c (.fn 170 [])),(.t 80),(.t 84)],[7,11],some (75,true)⟩,
 g 86 (.not) [85] [12] 75 true,
 o 87 (.pick) [(.t 75),(.t 86),(.c (.bool false))] [13]])
 (.cond (.t 87) (q (F [
 m 88 0,
 m 89 1,
 m 90 2,
 m 91 11,
 y 92 171 [8] [88,89,90,91] [],
 m 13 92])
 (q (F [
 m 93 13,
 m 1 93])
 (.exit 1))) .skip))
 (q (F [
 m 95 0,
 m 96 1,
 m 97 2,
 m 98 11,
 y 99 172 [9,10] [95,96,97,98] [],
 m 94 99,
 u 100 (.ext 0) [94],
 u 101 (.ext 1) [94],
 m 14 100,
 m 15 101])
 (q (F [
 m 102 15,
 m 9 102])
 (q (F [
 m 103 14,
 m 104 1,
 u 105 (.bin .sub) [103,104],
 m 106 2,
 m 107 14,
 u 108 (.bin .sub) [106,107],
 m 16 105,
 m 17 108])
 (q (F [
 m 109 10,
 o 110 (.bin .quo) [(.t 109),(.c (.int .i64 8))] [],
 m 18 110])
 (q (F [
 m 111 16,
 m 112 17,
 u 113 (.bin .lss) [111,112]])
 (.cond (.t 113) (q (F [
 m 114 16,
 m 115 18,
 u 116 (.bin .geq) [114,115],
 m 8 116])
 (q (F [
 m 117 0,
 m 118 1,
 m 119 14,
 m 120 3,
 y 121 161 [] [117,118,119,120] []])
 (F [
 m 122 14,
 o 123 (.bin .add) [(.t 122),(.c (.int .i64 1))] [],
 m 1 123]))) (q (F [
 m 124 17,
 m 125 18,
 u 126 (.bin .geq) [124,125],
 m 8 126])
 (q (F [
 m 127 0,
 m 128 14,
 o 129 (.bin .add) [(.t 128),(.c (.int .i64 1))] [],
 m 130 2,
 m 131 3,
 y 132 161 [] [127,129,130,131] []])
 (F [
 m 133 14,
 m 2 133])))))))))))))))))))))⟩
def c_slices_Sort : DFun := ⟨11,2,[.m 51],[],[],
 q (F [
 m 3 0,
 u 4 .len [3],
 m 2 4])
 (F [
 m 5 0,
 m 6 2,
 m 7 2,
 u 8 (.conv .u64) [7],
 y 9 162 [1] [8] [],
 o 10 (.call []) [(.c (.fn 161 [])),(.t 5),(.c (.int .i64 0)),(.t 6),(.t 9)] []])⟩
def tabL : List (Nat × Entry) := [(136, .code c_cmp_isNaN_136),
 (170, .code c_cmp_Less),
 (164, .code c_slices_insertionSortOrdered),
 (175, .code c_slices_siftDownOrdered),
 (165, .code c_slices_heapSortOrdered),
 (173, .code c_bits_Len32),
 (174, .code c_bits_Len64),
 (162, .code c_bits_Len),
 (176, .code c_slices_nextPowerOfTwo),
 (177, .code c_slices_xorshift_Next),
 (166, .code c_slices_breakPatternsOrdered),
 (180, .code c_slices_order2Ordered),
 (179, .code c_slices_medianOrdered),
 (178, .code c_slices_medianAdjacentOrdered),
 (167, .code c_slices_choosePivotOrdered),
 (168, .code c_slices_reverseRangeOrdered),
 (169, .code c_slices_partialInsertionSortOrdered),
 (171, .code c_slices_partitionEqualOrdered),
 (172, .code c_slices_partitionOrdered),
 (161, .code c_slices_pdqsortOrdered),
 (155, .code c_slices_Sort)]
def tab (g : Nat) : Option Entry := tabL.lookup g
end Go.Proofs.YtapfhcnigmighaaGreat.So
