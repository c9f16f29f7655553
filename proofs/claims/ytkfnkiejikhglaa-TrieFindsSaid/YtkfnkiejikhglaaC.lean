import Derived.Test.YtkfnkiejikhglaaG5
namespace Go.Proofs.Ytkfnkiejikhglaa.Own
open Go Go.Proofs.Ytkfnkiejikhglaa.GD
def tyL:List (Nat×Vk):=[(3,⟨false,[.int .i64]⟩),(22,⟨false,[.sl 69]⟩),(46,⟨true,[.int .u8,.int .u64,.int .u64,.int .i64]⟩),(49,⟨true,[.int .u8,.int .u64,.int .u64,.int .i64,.sl 3]⟩),(69,⟨true,[.int .u8,.int .u64,.int .u64,.int .i64,.sl 3,.int .i64,.int .i64]⟩)]
def ty (e:Nat):Option Vk:=tyL.lookup e
def cC:Vk:=⟨true,[.int .u8,.int .u64,.int .u64,.int .i64]⟩
def b6:Vk:=⟨true,[.int .u8,.int .u64,.int .u64,.int .i64,.sl 3]⟩
def zU:Vk:=⟨true,[.int .u8,.int .u64,.int .u64,.int .i64,.sl 3,.int .i64,.int .i64]⟩
def xO:List D:=[(D.int .u8 0),(D.int .u64 0),(D.int .u64 0),(D.int .i64 0),(D.zs 3 true)]
def Fo:List D:=[(D.int .u8 0),(D.int .u64 0),(D.int .u64 0),(D.int .i64 0),(D.zs 3 true),(D.int .i64 0),(D.int .i64 0)]
def yM:List D:=[(D.int .u8 0),(D.int .u64 0),(D.int .u64 0),(D.int .i64 0)]
abbrev CF:=FuncId→List D→Option (List D)
abbrev LF:=List D→Option (List D)
abbrev L:=List D
abbrev OO:=Option (List D)
def o (d:Nat) (p:vN) (as:List Opd) (af:List Nat):DOper:=⟨some d,p,as,af,none⟩
def m (d n:Nat):DOper:=⟨some d,.mv,[.t n],[],none⟩
def t (d:Nat) (p:vN) (as af:List Nat):DOper:=⟨some d,p,as.map .t,af,none⟩
def g (d:Nat) (p:vN) (as af:List Nat) (c:Nat) (b:Bool):DOper:=⟨some d,p,as.map .t,af,some (c,b)⟩
def q (a b:DCode):DCode:= .seq a b
def y (d f:Nat) (s as af:List Nat):DOper:=⟨some d,.call s,.c (.fn f [])::as.map .t,af,none⟩
def i (d:Nat) (n:Int):DOper:=⟨some d,.mv,[.c (.int .i64 n)],[],none⟩
def u (d:Nat) (p:vN) (as:List Nat):DOper:=⟨some d,p,as.map .t,[],none⟩
def F (l:List DOper):DCode:= .region false l
def T (l:List DOper):DCode:= .region true l
def v0:Vk:=⟨false,[.bool]⟩
def v1:Vk:=⟨false,[.int .i64]⟩
def v2:Vk:=⟨false,[.sl 3]⟩
def v3:Vk:=⟨false,[.sl 69]⟩
def v4:Vk:=⟨false,[.int .u64]⟩
def v5:Vk:=⟨true,[.int .u64,.int .u64]⟩
def v6:Vk:=⟨false,[.int .u8]⟩
def v7:Vk:=⟨false,[.fn]⟩
def v8:Vk:=⟨true,[.int .i64,.int .i64]⟩
def v9:Vk:=⟨true,[.sl 69,.sl 69]⟩
def JZ:Vk:=⟨false,[.sl 49]⟩
def J0:Vk:=⟨false,[.sl 46]⟩
def dO:DFun:=⟨30,1,[.p],[.p v0],[.t 2],
 q (F [
 o 2 (.mv) [(.c (.bool false))] []])
 (q (q (F [
 m 4 0,
 u 5 .len [4],
 o 6 (.bin .gtr) [(.t 5),(.c (.int .i64 60))] [],
 m 7 6,
 g 8 (.mv) [0] [] 7 true,
 g 9 (.len) [8] [] 7 true,
 ⟨some 10,.bin .leq,[(.t 9),(.c (.int .i64 4000))],[],some (7,true)⟩,
 o 11 (.pick) [(.t 7),(.t 10),(.c (.bool false))] [],
 m 12 11,
 g 13 (.mv) [0] [] 12 false,
 g 14 (.len) [13] [] 12 false,
 ⟨some 15,.bin .gtr,[(.t 14),(.c (.int .i64 4010))],[],some (12,false)⟩,
 o 16 (.pick) [(.t 12),(.c (.bool true)),(.t 15)] []])
 (.cond (.t 16) (q (F [
 o 2 (.mv) [(.c (.bool true))] []])
 .ret) .skip))
 (q (q (F [
 i 3 0])
 (.block 0 (.loop ⟨[0],[(3,.p v1)],[]⟩ (q (q (F [
 m 17 3,
 m 18 0,
 u 19 .len [18],
 u 20 (.bin .lss) [17,19]])
 (.cond (.t 20) .skip (.exit 0)))
 (q (.block 1 (q (F [
 m 23 0,
 m 24 3,
 u 25 (.aA 69) [23,24],
 u 26 (.aR 4) [25],
 u 27 (.load v2) [26],
 u 28 .len [27],
 o 29 (.bin .gtr) [(.t 28),(.c (.int .i64 100))] []])
 (.cond (.t 29) (q (F [
 o 2 (.mv) [(.c (.bool true))] []])
 .ret) .skip)))
 (F [
 m 21 3,
 o 22 (.bin .add) [(.t 21),(.c (.int .i64 1))] [],
 m 3 22]))))))
 (q (F [
 o 2 (.mv) [(.c (.bool false))] []])
 .ret)))⟩
def fE:DFun:=⟨11,4,[.p],[.p v0],[.t 2],
 q (F [
 u 1 (.box 1) [0],
 o 2 (.mv) [(.c (.bool false))] []])
 (q (F [
 u 3 (.aR 0) [1],
 u 4 (.load v3) [3],
 y 5 35 [2] [4] [],
 m 6 5,
 g 7 (.aR 1) [1] [] 6 false,
 g 8 (.load v3) [7] [] 6 false,
 ⟨some 9,.call [3],[(.c (.fn 35 [])),(.t 8)],[],some (6,false)⟩,
 o 10 (.pick) [(.t 6),(.c (.bool true)),(.t 9)] [],
 m 2 10])
 .ret)⟩
def eC:DFun:=⟨26,2,[.p,.p],[.p v0],[.t 4],
 q (F [
 o 4 (.mv) [(.c (.bool false))] []])
 (q (q (F [
 m 6 0,
 u 7 .len [6],
 m 8 1,
 u 9 .len [8],
 u 10 (.bin .neq) [7,9]])
 (.cond (.t 10) (q (F [
 o 4 (.mv) [(.c (.bool false))] []])
 .ret) .skip))
 (q (q (F [
 i 5 0])
 (.block 0 (.loop ⟨[0,1],[(5,.p v1)],[]⟩ (q (q (F [
 m 11 5,
 m 12 0,
 u 13 .len [12],
 u 14 (.bin .lss) [11,13]])
 (.cond (.t 14) .skip (.exit 0)))
 (q (.block 1 (q (T [
 m 17 0,
 m 18 5,
 t 19 (.aA 3) [17,18] [0,1],
 t 20 (.load v1) [19] [2],
 m 21 1,
 m 22 5,
 t 23 (.aA 3) [21,22] [4,5],
 t 24 (.load v1) [23] [6],
 t 25 (.bin .neq) [20,24] [3,7]])
 (.cond (.t 25) (q (F [
 o 4 (.mv) [(.c (.bool false))] []])
 .ret) .skip)))
 (F [
 m 15 5,
 o 16 (.bin .add) [(.t 15),(.c (.int .i64 1))] [],
 m 5 16]))))))
 (q (F [
 o 4 (.mv) [(.c (.bool true))] []])
 .ret)))⟩
def dF:DFun:=⟨42,3,[.p,.p],[.p v0],[.t 4],
 q (F [
 o 4 (.mv) [(.c (.bool false))] []])
 (q (q (F [
 m 6 0,
 u 7 .len [6],
 m 8 1,
 u 9 .len [8],
 u 10 (.bin .neq) [7,9]])
 (.cond (.t 10) (q (F [
 o 4 (.mv) [(.c (.bool false))] []])
 .ret) .skip))
 (q (q (F [
 i 5 0])
 (.block 0 (.loop ⟨[0,1],[(5,.p v1)],[]⟩ (q (q (F [
 m 11 5,
 m 12 0,
 u 13 .len [12],
 u 14 (.bin .lss) [11,13]])
 (.cond (.t 14) .skip (.exit 0)))
 (q (.block 1 (q (T [
 m 17 0,
 m 18 5,
 t 19 (.aA 49) [17,18] [0,1],
 t 20 (.aR 0) [19] [2],
 t 21 (.load cC) [20] [3],
 m 22 1,
 m 23 5,
 t 24 (.aA 49) [22,23] [5,6],
 t 25 (.aR 0) [24] [7],
 t 26 (.load cC) [25] [8],
 t 27 (.eqv true cC) [21,26] [4,9],
 t 28 .mv [27] [10],
 g 29 (.mv) [0] [11] 28 false,
 g 30 (.mv) [5] [11] 28 false,
 g 31 (.aA 49) [29,30] [12,13] 28 false,
 g 32 (.aR 4) [31] [14] 28 false,
 g 33 (.load v2) [32] [15] 28 false,
 g 34 (.mv) [1] [11] 28 false,
 g 35 (.mv) [5] [11] 28 false,
 g 36 (.aA 49) [34,35] [17,18] 28 false,
 g 37 (.aR 4) [36] [19] 28 false,
 g 38 (.load v2) [37] [20] 28 false,
 ⟨some 39,.call [2],[(.c (.fn 45 [])),(.t 33),(.t 38)],[16,21],some (28,false)⟩,
 g 40 (.not) [39] [22] 28 false,
 o 41 (.pick) [(.t 28),(.c (.bool true)),(.t 40)] [23]])
 (.cond (.t 41) (q (F [
 o 4 (.mv) [(.c (.bool false))] []])
 .ret) .skip)))
 (F [
 m 15 5,
 o 16 (.bin .add) [(.t 15),(.c (.int .i64 1))] [],
 m 5 16]))))))
 (q (F [
 o 4 (.mv) [(.c (.bool true))] []])
 .ret)))⟩
def iE:DFun:=⟨21,3,[.p,.p],[.p v0],[.t 4],
 q (F [
 u 3 (.box 2) [1],
 o 4 (.mv) [(.c (.bool false))] []])
 (q (F [
 m 5 0,
 o 6 (.bin .eql) [(.t 5),(.c (.int .u8 6))] [],
 m 7 6,
 g 8 (.mv) [0] [] 7 false,
 ⟨some 9,.bin .eql,[(.t 8),(.c (.int .u8 4))],[],some (7,false)⟩,
 g 10 (.mv) [9] [] 7 false,
 g 11 (.aR 0) [3] [] 10 true,
 g 12 (.load v4) [11] [] 10 true,
 ⟨some 13,.bin .eql,[(.t 12),(.c (.int .u64 0))],[],some (10,true)⟩,
 ⟨some 14,.pick,[(.t 10),(.t 13),(.c (.bool false))],[],some (7,false)⟩,
 g 15 (.mv) [14] [] 7 false,
 g 16 (.aR 1) [3] [] 15 true,
 g 17 (.load v4) [16] [] 15 true,
 ⟨some 18,.bin .lss,[(.t 17),(.c (.int .u64 4294967296))],[],some (15,true)⟩,
 ⟨some 19,.pick,[(.t 15),(.t 18),(.c (.bool false))],[],some (7,false)⟩,
 o 20 (.pick) [(.t 7),(.c (.bool true)),(.t 19)] [],
 m 4 20])
 .ret)⟩
def nP:DFun:=⟨16,5,[.p,.p],[.p v5],[.c 4],
 q (F [
 u 2 (.box 2) [0],
 u 3 (.box 3) [1],
 u 4 (.alloc 4 [(D.int .u64 0),(D.int .u64 0)]) []])
 (q (F [
 u 5 (.aR 0) [2],
 u 6 (.load v4) [5],
 u 7 (.aR 0) [3],
 u 8 (.load v4) [7],
 u 9 (.bin .and) [6,8],
 u 10 (.aR 1) [2],
 u 11 (.load v4) [10],
 u 12 (.aR 1) [3],
 u 13 (.load v4) [12],
 u 14 (.bin .and) [11,13],
 u 15 (.build [(D.int .u64 0),(D.int .u64 0)] [(0,1),(1,1)]) [9,14],
 ⟨none,.store v5,[(.t 4),(.t 15)],[],none⟩])
 .ret)⟩
def lr:DFun:=⟨8,1,[.p],[.p v1],[.t 2],
 q (F [
 i 2 0])
 (q (q (F [
 m 3 0])
 (.block 0 (q (F [
 o 5 (.bin .eql) [(.t 3),(.c (.int .u8 4))] [],
 m 4 5])
 (.cond (.t 4) (q (F [
 i 2 32])
 .ret) (q (F [
 o 7 (.bin .eql) [(.t 3),(.c (.int .u8 6))] [],
 m 6 7])
 (.cond (.t 6) (q (F [
 i 2 128])
 .ret) .skip))))))
 (q (F [
 i 2 0])
 .ret))⟩
def mJ:DFun:=⟨32,5,[.p,.p],[.p v5],[.c 4],
 q (F [
 u 4 (.alloc 2 [(D.int .u64 0),(D.int .u64 0)]) []])
 (q (F [
 m 7 0,
 y 8 88 [4] [7] [],
 m 9 1,
 u 10 (.bin .sub) [8,9],
 m 5 10])
 (q (F [
 o 11 (.build [(D.int .u64 0),(D.int .u64 0)] [(0,1),(1,1)]) [(.c (.int .u64 18446744073709551615)),(.c (.int .u64 18446744073709551615))] [],
 u 6 (.alloc 3 [(D.int .u64 0),(D.int .u64 0)]) [],
 ⟨none,.store v5,[(.t 6),(.t 11)],[],none⟩])
 (q (q (F [
 m 12 5,
 o 13 (.bin .geq) [(.t 12),(.c (.int .i64 64))] []])
 (.cond (.t 13) (F [
 u 14 (.aR 0) [6],
 u 15 (.load v4) [14],
 m 16 5,
 o 17 (.bin .sub) [(.t 16),(.c (.int .i64 64))] [],
 u 18 (.bin .shl) [15,17],
 u 19 (.build [(D.int .u64 0),(D.int .u64 0)] [(0,1)]) [18],
 ⟨none,.store v5,[(.t 6),(.t 19)],[],none⟩]) (F [
 u 20 (.aR 1) [6],
 u 21 (.load v4) [20],
 m 22 5,
 u 23 (.bin .shl) [21,22],
 u 24 (.aR 1) [6],
 ⟨none,.store v4,[(.t 24),(.t 23)],[],none⟩])))
 (q (q (F [
 m 25 0,
 o 26 (.bin .eql) [(.t 25),(.c (.int .u8 4))] []])
 (.cond (.t 26) (F [
 u 27 (.aR 1) [6],
 u 28 (.load v4) [27],
 o 29 (.bin .and) [(.t 28),(.c (.int .u64 4294967295))] [],
 u 30 (.build [(D.int .u64 0),(D.int .u64 0)] [(1,1)]) [29],
 ⟨none,.store v5,[(.t 6),(.t 30)],[],none⟩]) .skip))
 (q (F [
 u 31 (.load v5) [6],
 ⟨none,.store v5,[(.t 4),(.t 31)],[],none⟩])
 .ret)))))⟩
def ls:DFun:=⟨39,7,[.p],[.p v1],[.t 2],
 q (F [
 u 1 (.box 1) [0],
 i 2 0])
 (q (q (F [
 u 3 (.aR 0) [1],
 u 4 (.load v6) [3],
 y 5 88 [2] [4] [],
 o 6 (.bin .eql) [(.t 5),(.c (.int .i64 0))] []])
 (.cond (.t 6) (q (F [
 i 2 2])
 .ret) .skip))
 (q (q (T [
 u 7 (.aR 0) [1],
 t 8 (.load v6) [7] [0],
 u 9 (.aR 1) [1],
 t 10 (.load v5) [9] [2],
 y 11 55 [3] [8,10] [1,3],
 t 12 .not [11] [4],
 t 13 .mv [12] [5],
 g 14 (.aR 3) [1] [6] 13 false,
 g 15 (.load v1) [14] [7] 13 false,
 ⟨some 16,.bin .lss,[(.t 15),(.c (.int .i64 0))],[8],some (13,false)⟩,
 o 17 (.pick) [(.t 13),(.c (.bool true)),(.t 16)] [9],
 t 18 .mv [17] [10],
 g 19 (.aR 3) [1] [11] 18 false,
 g 20 (.load v1) [19] [12] 18 false,
 g 21 (.aR 0) [1] [11] 18 false,
 g 22 (.load v6) [21] [14] 18 false,
 ⟨some 23,.call [4],[(.c (.fn 88 [])),(.t 22)],[15],some (18,false)⟩,
 g 24 (.bin .gtr) [20,23] [13,16] 18 false,
 o 25 (.pick) [(.t 18),(.c (.bool true)),(.t 24)] [17],
 t 26 .mv [25] [18],
 g 27 (.aR 1) [1] [19] 26 false,
 g 28 (.load v5) [27] [20] 26 false,
 g 29 (.aR 0) [1] [19] 26 false,
 g 30 (.load v6) [29] [22] 26 false,
 g 31 (.aR 3) [1] [19] 26 false,
 g 32 (.load v1) [31] [24] 26 false,
 ⟨some 33,.call [5],[(.c (.fn 64 [])),(.t 30),(.t 32)],[23,25],some (26,false)⟩,
 ⟨some 34,.call [6],[(.c (.fn 63 [])),(.t 28),(.t 33)],[21,26],some (26,false)⟩,
 g 35 (.aR 1) [1] [19] 26 false,
 g 36 (.load v5) [35] [28] 26 false,
 g 37 (.eqv true v5) [34,36] [27,29] 26 false,
 o 38 (.pick) [(.t 26),(.c (.bool true)),(.t 37)] [30]])
 (.cond (.t 38) (q (F [
 i 2 8])
 .ret) .skip))
 (q (F [
 i 2 0])
 .ret)))⟩
def mK:DFun:=⟨34,1,[.p],[.p v0],[.t 2],
 q (F [
 o 2 (.mv) [(.c (.bool false))] []])
 (q (q (F [
 m 4 0,
 u 5 .len [4],
 o 6 (.bin .eql) [(.t 5),(.c (.int .i64 0))] [],
 m 7 6,
 g 8 (.mv) [0] [] 7 false,
 g 9 (.len) [8] [] 7 false,
 ⟨some 10,.bin .gtr,[(.t 9),(.c (.int .i64 4000))],[],some (7,false)⟩,
 o 11 (.pick) [(.t 7),(.c (.bool true)),(.t 10)] [],
 m 12 11,
 g 13 (.mv) [0] [] 12 false,
 ⟨some 14,.aA 3,[(.t 13),(.c (.int .i64 0))],[],some (12,false)⟩,
 g 15 (.load v1) [14] [] 12 false,
 ⟨some 16,.bin .lss,[(.t 15),(.c (.int .i64 0))],[],some (12,false)⟩,
 o 17 (.pick) [(.t 12),(.c (.bool true)),(.t 16)] []])
 (.cond (.t 17) (q (F [
 o 2 (.mv) [(.c (.bool false))] []])
 .ret) .skip))
 (q (q (F [
 i 3 1])
 (.block 0 (.loop ⟨[0],[(3,.p v1)],[]⟩ (q (q (F [
 m 18 3,
 m 19 0,
 u 20 .len [19],
 u 21 (.bin .lss) [18,20]])
 (.cond (.t 21) .skip (.exit 0)))
 (q (.block 1 (q (T [
 m 24 0,
 m 25 3,
 t 26 (.aA 3) [24,25] [0,1],
 t 27 (.load v1) [26] [2],
 m 28 0,
 m 29 3,
 o 30 (.bin .sub) [(.t 29),(.c (.int .i64 1))] [5],
 t 31 (.aA 3) [28,30] [4,6],
 t 32 (.load v1) [31] [7],
 t 33 (.bin .leq) [27,32] [3,8]])
 (.cond (.t 33) (q (F [
 o 2 (.mv) [(.c (.bool false))] []])
 .ret) .skip)))
 (F [
 m 22 3,
 o 23 (.bin .add) [(.t 22),(.c (.int .i64 1))] [],
 m 3 23]))))))
 (q (F [
 o 2 (.mv) [(.c (.bool true))] []])
 .ret)))⟩
def nQ:DFun:=⟨32,5,[.p],[.p v1],[.t 2],
 q (F [
 i 2 0])
 (q (F [
 u 7 (.mkMap 1 cC v0) [],
 m 3 7])
 (q (q (F [
 m 8 0,
 u 9 .len [8],
 i 10 0])
 (.block 0 (.loop ⟨[3,8,9],[(10,.p v1)],[(1,.m cC v0)]⟩ (q (F [
 u 11 (.bin .lss) [10,9]])
 (q (.cond (.t 11) .skip (.exit 0))
 (q (.block 1 (q (F [
 u 12 (.aA 49) [8,10],
 u 13 (.load b6) [12],
 u 5 (.alloc 2 xO) [],
 ⟨none,.store b6,[(.t 5),(.t 13)],[],none⟩])
 (q (F [
 u 14 (.aR 0) [5],
 u 15 (.load cC) [14],
 y 16 62 [3] [15] [],
 m 6 16])
 (q (q (F [
 m 17 6,
 o 18 (.bin .neq) [(.t 17),(.c (.int .i64 0))] []])
 (.cond (.t 18) (q (F [
 m 19 6,
 m 2 19])
 .ret) .skip))
 (q (q (F [
 u 20 (.aR 4) [5],
 u 21 (.load v2) [20],
 y 22 76 [4] [21] [],
 u 23 .not [22]])
 (.cond (.t 23) (q (F [
 i 2 2])
 .ret) .skip))
 (q (q (F [
 m 24 3,
 u 25 (.aR 0) [5],
 u 26 (.load cC) [25],
 u 27 (.As cC v0 (D.bool false) false) [24,26]])
 (.cond (.t 27) (q (F [
 i 2 14])
 .ret) .skip))
 (F [
 m 28 3,
 u 29 (.aR 0) [5],
 u 30 (.load cC) [29],
 ⟨none,.At cC v0,[(.t 28),(.t 30),(.c (.bool true))],[],none⟩])))))))
 (F [
 o 31 (.bin .add) [(.t 10),(.c (.int .i64 1))] [],
 m 10 31])))))))
 (q (F [
 i 2 0])
 .ret)))⟩
def je:DFun:=⟨8,3,[.p],[.o 3],[.t 2],
 q (F [
 o 2 (.mv) [(.c (.zs 3 true))] []])
 (q (q (F [
 m 3 0,
 u 4 (.qG false) [3]])
 (.cond (.t 4) (q (F [
 o 2 (.mv) [(.c (.zs 3 true))] []])
 .ret) .skip))
 (q (F [
 u 5 (.bn 1 3) [],
 m 6 0,
 u 7 (.append 2 3 8) [5,6],
 m 2 7])
 .ret))⟩
def kw:DFun:=⟨36,4,[.p],[.o 69],[.t 2],
 q (F [
 o 2 (.mv) [(.c (.zs 69 true))] []])
 (q (F [
 i 3 0])
 (q (q (F [
 m 9 0,
 u 10 .len [9],
 i 11 0])
 (.block 0 (.loop ⟨[0,9,10],[(3,.p v1),(11,.p v1)],[]⟩ (q (F [
 u 12 (.bin .lss) [11,10]])
 (q (.cond (.t 12) .skip (.exit 0))
 (q (.block 1 (q (F [
 u 13 (.aA 22) [9,11],
 u 14 (.load v3) [13],
 m 5 14])
 (q (F [
 m 15 3,
 m 16 5,
 u 17 .len [16],
 u 18 (.bin .add) [15,17],
 m 3 18])
 (q (F [
 m 19 3,
 o 20 (.bin .lss) [(.t 19),(.c (.int .i64 0))] []])
 (.cond (.t 20) (F [
 u 21 .bad [],
 ⟨none,.bad,[],[],none⟩]) .skip)))))
 (F [
 o 22 (.bin .add) [(.t 11),(.c (.int .i64 1))] [],
 m 11 22])))))))
 (q (F [
 m 23 3,
 o 24 (.call [2]) [(.c (.fn 99 [])),(.c (.zs 69 true)),(.t 23)] [],
 m 6 24])
 (q (q (F [
 m 25 0,
 u 26 .len [25],
 i 27 0])
 (.block 2 (.loop ⟨[25,26],[(6,.o 3 69),(27,.p v1)],[]⟩ (q (F [
 u 28 (.bin .lss) [27,26]])
 (q (.cond (.t 28) .skip (.exit 2))
 (q (.block 3 (q (F [
 u 29 (.aA 22) [25,27],
 u 30 (.load v3) [29],
 m 8 30])
 (F [
 m 31 6,
 m 32 8,
 u 33 (.append 1 69 72) [31,32],
 m 6 33])))
 (F [
 o 34 (.bin .add) [(.t 27),(.c (.int .i64 1))] [],
 m 27 34])))))))
 (q (F [
 m 35 6,
 m 2 35])
 .ret)))))⟩
def pT:DFun:=⟨32,9,[.p],[.o 49],[.t 2],
 q (F [
 u 1 (.box 1) [0],
 o 2 (.mv) [(.c (.zs 49 true))] []])
 (q (F [
 o 3 (.mv) [(.c (.zs 49 true))] []])
 (q (q (F [
 u 6 (.aR 0) [1],
 u 7 (.load v3) [6],
 u 8 (.aR 1) [1],
 u 9 (.load v3) [8],
 u 10 (.bn 2 22) [7,9],
 y 11 79 [6] [10] [],
 u 12 .len [11],
 i 13 0])
 (.block 0 (.loop ⟨[11,12],[(3,.o 7 49),(13,.p v1)],[(6,.a 69)]⟩ (q (F [
 u 14 (.bin .lss) [13,12]])
 (q (.cond (.t 14) .skip (.exit 0))
 (q (.block 1 (q (F [
 u 15 (.aA 69) [11,13],
 u 16 (.load zU) [15],
 u 5 (.alloc 3 Fo) [],
 ⟨none,.store zU,[(.t 5),(.t 16)],[],none⟩])
 (q (F [
 u 17 (.aR 4) [5],
 u 18 (.load v2) [17],
 u 19 .len [18],
 o 20 (.bin .gtr) [(.t 19),(.c (.int .i64 0))] []])
 (.cond (.t 20) (T [
 m 21 3,
 u 22 (.aR 0) [5],
 t 23 (.load cC) [22] [1],
 u 24 (.aR 4) [5],
 t 25 (.load v2) [24] [3],
 y 26 52 [8] [25] [4],
 t 27 (.build xO [(0,4),(4,1)]) [23,26] [2,5],
 t 28 (.bn 4 49) [27] [6],
 t 29 (.append 5 49 56) [21,28] [0,7],
 t 3 .mv [29] [8]]) .skip))))
 (F [
 o 30 (.bin .add) [(.t 13),(.c (.int .i64 1))] [],
 m 13 30])))))))
 (q (F [
 m 31 3,
 m 2 31])
 .ret)))⟩
def dD:DFun:=⟨19,3,[.p,.p],[.p v1],[.t 4],
 q (F [
 i 4 0])
 (q (q (F [
 m 6 0,
 u 7 .len [6],
 i 8 0])
 (.block 0 (.loop ⟨[0,1,7],[(8,.p v1)],[]⟩ (q (F [
 u 9 (.bin .lss) [8,7]])
 (q (.cond (.t 9) .skip (.exit 0))
 (q (.block 1 (q (F [
 m 10 8,
 m 5 10])
 (q (F [
 m 11 1,
 m 12 0,
 m 13 5,
 u 14 (.aA 49) [12,13],
 u 15 (.load b6) [14],
 u 16 (.call [2]) [11,15]])
 (.cond (.t 16) (q (F [
 m 17 5,
 m 4 17])
 .ret) .skip))))
 (F [
 o 18 (.bin .add) [(.t 8),(.c (.int .i64 1))] [],
 m 8 18])))))))
 (q (F [
 i 4 (-1)])
 .ret))⟩
def iF:DFun:=⟨8,3,[.p],[.o 49],[.t 2],
 q (F [
 o 2 (.mv) [(.c (.zs 49 true))] []])
 (q (q (F [
 m 3 0,
 u 4 (.qG false) [3]])
 (.cond (.t 4) (q (F [
 o 2 (.mv) [(.c (.zs 49 true))] []])
 .ret) .skip))
 (q (F [
 u 5 (.bn 1 49) [],
 m 6 0,
 u 7 (.append 2 49 56) [5,6],
 m 2 7])
 .ret))⟩
def cW:DFun:=⟨53,5,[.m 49,.p,.p,.p],[],[],
 q (F [
 m 10 1,
 o 11 (.bin .add) [(.t 10),(.c (.int .i64 1))] [],
 m 8 11])
 (.block 0 (.loop ⟨[0,1,2,3],[(8,.p v1)],[(0,.a 49)]⟩ (q (q (F [
 m 12 8,
 m 13 2,
 u 14 (.bin .lss) [12,13]])
 (.cond (.t 14) .skip (.exit 0)))
 (q (.block 1 (q (F [
 m 17 8,
 m 9 17])
 (.block 2 (.loop ⟨[0,1,2,3,8],[(9,.p v1)],[(0,.a 49)]⟩ (q (q (T [
 m 18 9,
 m 19 1,
 t 20 (.bin .gtr) [18,19] [0,1],
 t 21 .mv [20] [2],
 g 22 (.mv) [3] [3] 21 true,
 g 23 (.mv) [0] [3] 21 true,
 g 24 (.mv) [9] [3] 21 true,
 g 25 (.aA 49) [23,24] [5,6] 21 true,
 g 26 (.load b6) [25] [7] 21 true,
 g 27 (.mv) [0] [3] 21 true,
 g 28 (.mv) [9] [3] 21 true,
 ⟨some 29,.bin .sub,[(.t 28),(.c (.int .i64 1))],[10],some (21,true)⟩,
 g 30 (.aA 49) [27,29] [9,11] 21 true,
 g 31 (.load b6) [30] [12] 21 true,
 g 32 (.call [4]) [22,26,31] [4,8,13] 21 true,
 ⟨some 33,.bin .lss,[(.t 32),(.c (.int .i64 0))],[14],some (21,true)⟩,
 o 34 (.pick) [(.t 21),(.t 33),(.c (.bool false))] [15]])
 (.cond (.t 34) .skip (.exit 2)))
 (q (.block 3 (T [
 m 37 0,
 m 38 9,
 m 39 0,
 m 40 9,
 o 41 (.bin .sub) [(.t 40),(.c (.int .i64 1))] [3],
 m 42 0,
 m 43 9,
 o 44 (.bin .sub) [(.t 43),(.c (.int .i64 1))] [6],
 t 45 (.aA 49) [42,44] [5,7],
 t 46 (.load b6) [45] [8],
 m 47 0,
 m 48 9,
 t 49 (.aA 49) [47,48] [10,11],
 t 50 (.load b6) [49] [12],
 t 51 (.aA 49) [37,38] [0,1,9,13],
 ⟨none,.store b6,[(.t 51),(.t 46)],[14],none⟩,
 t 52 (.aA 49) [39,41] [2,4,15],
 ⟨none,.store b6,[(.t 52),(.t 50)],[16],none⟩]))
 (F [
 m 35 9,
 o 36 (.bin .sub) [(.t 35),(.c (.int .i64 1))] [],
 m 9 36])))))))
 (F [
 m 15 8,
 o 16 (.bin .add) [(.t 15),(.c (.int .i64 1))] [],
 m 8 16])))))⟩
def eD:DFun:=⟨82,7,[.m 49,.p,.p,.p,.p],[],[],
 q (F [
 m 12 1,
 m 10 12])
 (.block 0 (.loop ⟨[0,2,3,4],[(10,.p v1)],[(0,.a 49)]⟩ (.block 1 (q (F [
 m 13 10,
 o 14 (.bin .mul) [(.c (.int .i64 2)),(.t 13)] [],
 o 15 (.bin .add) [(.t 14),(.c (.int .i64 1))] [],
 m 11 15])
 (q (q (F [
 m 16 11,
 m 17 2,
 u 18 (.bin .geq) [16,17]])
 (.cond (.t 18) (.exit 0) .skip))
 (q (q (T [
 m 19 11,
 o 20 (.bin .add) [(.t 19),(.c (.int .i64 1))] [0],
 m 21 2,
 t 22 (.bin .lss) [20,21] [1,2],
 t 23 .mv [22] [3],
 g 24 (.mv) [4] [4] 23 true,
 g 25 (.mv) [0] [4] 23 true,
 g 26 (.mv) [3] [4] 23 true,
 g 27 (.mv) [11] [4] 23 true,
 g 28 (.bin .add) [26,27] [7,8] 23 true,
 g 29 (.aA 49) [25,28] [6,9] 23 true,
 g 30 (.load b6) [29] [10] 23 true,
 g 31 (.mv) [0] [4] 23 true,
 g 32 (.mv) [3] [4] 23 true,
 g 33 (.mv) [11] [4] 23 true,
 g 34 (.bin .add) [32,33] [13,14] 23 true,
 ⟨some 35,.bin .add,[(.t 34),(.c (.int .i64 1))],[15],some (23,true)⟩,
 g 36 (.aA 49) [31,35] [12,16] 23 true,
 g 37 (.load b6) [36] [17] 23 true,
 g 38 (.call [5]) [24,30,37] [5,11,18] 23 true,
 ⟨some 39,.bin .lss,[(.t 38),(.c (.int .i64 0))],[19],some (23,true)⟩,
 o 40 (.pick) [(.t 23),(.t 39),(.c (.bool false))] [20]])
 (.cond (.t 40) (F [
 m 41 11,
 o 42 (.bin .add) [(.t 41),(.c (.int .i64 1))] [],
 m 11 42]) .skip))
 (q (q (T [
 m 43 4,
 m 44 0,
 m 45 3,
 m 46 10,
 t 47 (.bin .add) [45,46] [2,3],
 t 48 (.aA 49) [44,47] [1,4],
 t 49 (.load b6) [48] [5],
 m 50 0,
 m 51 3,
 m 52 11,
 t 53 (.bin .add) [51,52] [8,9],
 t 54 (.aA 49) [50,53] [7,10],
 t 55 (.load b6) [54] [11],
 t 56 (.call [6]) [43,49,55] [0,6,12],
 o 57 (.bin .lss) [(.t 56),(.c (.int .i64 0))] [13],
 t 58 .not [57] [14]])
 (.cond (.t 58) .ret .skip))
 (q (T [
 m 59 0,
 m 60 3,
 m 61 10,
 t 62 (.bin .add) [60,61] [1,2],
 m 63 0,
 m 64 3,
 m 65 11,
 t 66 (.bin .add) [64,65] [5,6],
 m 67 0,
 m 68 3,
 m 69 11,
 t 70 (.bin .add) [68,69] [9,10],
 t 71 (.aA 49) [67,70] [8,11],
 t 72 (.load b6) [71] [12],
 m 73 0,
 m 74 3,
 m 75 10,
 t 76 (.bin .add) [74,75] [15,16],
 t 77 (.aA 49) [73,76] [14,17],
 t 78 (.load b6) [77] [18],
 t 79 (.aA 49) [59,62] [0,3,13,19],
 ⟨none,.store b6,[(.t 79),(.t 72)],[20],none⟩,
 t 80 (.aA 49) [63,66] [4,7,21],
 ⟨none,.store b6,[(.t 80),(.t 78)],[22],none⟩])
 (F [
 m 81 11,
 m 10 81])))))))))⟩
def eE:DFun:=⟨60,4,[.m 49,.p,.p,.p],[],[],
 q (F [
 m 13 1,
 m 8 13])
 (q (F [
 i 9 0])
 (q (F [
 m 14 2,
 m 15 1,
 u 16 (.bin .sub) [14,15],
 m 10 16])
 (q (q (F [
 m 17 10,
 o 18 (.bin .sub) [(.t 17),(.c (.int .i64 1))] [],
 o 19 (.bin .quo) [(.t 18),(.c (.int .i64 2))] [],
 m 11 19])
 (.block 0 (.loop ⟨[0,3,8,9,10],[(11,.p v1)],[(0,.a 49)]⟩ (q (q (F [
 m 20 11,
 o 21 (.bin .geq) [(.t 20),(.c (.int .i64 0))] []])
 (.cond (.t 21) .skip (.exit 0)))
 (q (.block 1 (F [
 m 24 0,
 m 25 11,
 m 26 10,
 m 27 8,
 m 28 3,
 y 29 129 [] [24,25,26,27,28] []]))
 (F [
 m 22 11,
 o 23 (.bin .sub) [(.t 22),(.c (.int .i64 1))] [],
 m 11 23]))))))
 (q (F [
 m 30 10,
 o 31 (.bin .sub) [(.t 30),(.c (.int .i64 1))] [],
 m 12 31])
 (.block 2 (.loop ⟨[0,3,8,9],[(12,.p v1)],[(0,.a 49)]⟩ (q (q (F [
 m 32 12,
 o 33 (.bin .geq) [(.t 32),(.c (.int .i64 0))] []])
 (.cond (.t 33) .skip (.exit 2)))
 (q (.block 3 (q (T [
 m 36 0,
 m 37 8,
 m 38 0,
 m 39 8,
 m 40 12,
 t 41 (.bin .add) [39,40] [3,4],
 m 42 0,
 m 43 8,
 m 44 12,
 t 45 (.bin .add) [43,44] [7,8],
 t 46 (.aA 49) [42,45] [6,9],
 t 47 (.load b6) [46] [10],
 m 48 0,
 m 49 8,
 t 50 (.aA 49) [48,49] [12,13],
 t 51 (.load b6) [50] [14],
 t 52 (.aA 49) [36,37] [0,1,11,15],
 ⟨none,.store b6,[(.t 52),(.t 47)],[16],none⟩,
 t 53 (.aA 49) [38,41] [2,5,17],
 ⟨none,.store b6,[(.t 53),(.t 51)],[18],none⟩])
 (F [
 m 54 0,
 m 55 9,
 m 56 12,
 m 57 8,
 m 58 3,
 y 59 129 [] [54,55,56,57,58] []])))
 (F [
 m 34 12,
 o 35 (.bin .sub) [(.t 34),(.c (.int .i64 1))] [],
 m 12 35])))))))))⟩
def uR:DFun:=⟨19,1,[.p],[.p v1],[.t 2],
 q (F [
 i 2 0])
 (q (q (F [
 m 3 0,
 o 4 (.bin .geq) [(.t 3),(.c (.int .u32 65536))] []])
 (.cond (.t 4) (q (F [
 m 5 0,
 o 6 (.bin .shr) [(.t 5),(.c (.int .u64 16))] [],
 m 0 6])
 (F [
 i 2 16])) .skip))
 (q (q (F [
 m 7 0,
 o 8 (.bin .geq) [(.t 7),(.c (.int .u32 256))] []])
 (.cond (.t 8) (q (F [
 m 9 0,
 o 10 (.bin .shr) [(.t 9),(.c (.int .u64 8))] [],
 m 0 10])
 (F [
 m 11 2,
 o 12 (.bin .add) [(.t 11),(.c (.int .i64 8))] [],
 m 2 12])) .skip))
 (q (F [
 m 13 2,
 m 14 0,
 u 15 (.conv .u8) [14],
 o 16 (.Aq) [(.c (.str (⟨#[0,1,2,2,3,3,3,3,4,4,4,4,4,4,4,4,5,5,5,5,5,5,5,5,5,5,5,5,5,5,5,5,6,6,6,6,6,6,6,6,6,6,6,6,6,6,6,6,6,6,6,6,6,6,6,6,6,6,6,6,6,6,6,6,7,7,7,7,7,7,7,7,7,7,7,7,7,7,7,7,7,7,7,7,7,7,7,7,7,7,7,7,7,7,7,7,7,7,7,7,7,7,7,7,7,7,7,7,7,7,7,7,7,7,7,7,7,7,7,7,7,7,7,7,7,7,7,7,8,8,8,8,8,8,8,8,8,8,8,8,8,8,8,8,8,8,8,8,8,8,8,8,8,8,8,8,8,8,8,8,8,8,8,8,8,8,8,8,8,8,8,8,8,8,8,8,8,8,8,8,8,8,8,8,8,8,8,8,8,8,8,8,8,8,8,8,8,8,8,8,8,8,8,8,8,8,8,8,8,8,8,8,8,8,8,8,8,8,8,8,8,8,8,8,8,8,8,8,8,8,8,8,8,8,8,8,8,8,8,8,8,8,8,8,8,8,8,8,8,8,8,8,8,8,8,8]⟩:ByteArray))),(.t 15)] [],
 u 17 (.conv .i64) [16],
 u 18 (.bin .add) [13,17],
 m 2 18])
 .ret)))⟩
def nR:DFun:=⟨25,1,[.p],[.p v1],[.t 2],
 q (F [
 i 2 0])
 (q (q (F [
 m 3 0,
 o 4 (.bin .geq) [(.t 3),(.c (.int .u64 4294967296))] []])
 (.cond (.t 4) (q (F [
 m 5 0,
 o 6 (.bin .shr) [(.t 5),(.c (.int .u64 32))] [],
 m 0 6])
 (F [
 i 2 32])) .skip))
 (q (q (F [
 m 7 0,
 o 8 (.bin .geq) [(.t 7),(.c (.int .u64 65536))] []])
 (.cond (.t 8) (q (F [
 m 9 0,
 o 10 (.bin .shr) [(.t 9),(.c (.int .u64 16))] [],
 m 0 10])
 (F [
 m 11 2,
 o 12 (.bin .add) [(.t 11),(.c (.int .i64 16))] [],
 m 2 12])) .skip))
 (q (q (F [
 m 13 0,
 o 14 (.bin .geq) [(.t 13),(.c (.int .u64 256))] []])
 (.cond (.t 14) (q (F [
 m 15 0,
 o 16 (.bin .shr) [(.t 15),(.c (.int .u64 8))] [],
 m 0 16])
 (F [
 m 17 2,
 o 18 (.bin .add) [(.t 17),(.c (.int .i64 8))] [],
 m 2 18])) .skip))
 (q (F [
 m 19 2,
 m 20 0,
 u 21 (.conv .u8) [20],
 o 22 (.Aq) [(.c (.str (⟨#[0,1,2,2,3,3,3,3,4,4,4,4,4,4,4,4,5,5,5,5,5,5,5,5,5,5,5,5,5,5,5,5,6,6,6,6,6,6,6,6,6,6,6,6,6,6,6,6,6,6,6,6,6,6,6,6,6,6,6,6,6,6,6,6,7,7,7,7,7,7,7,7,7,7,7,7,7,7,7,7,7,7,7,7,7,7,7,7,7,7,7,7,7,7,7,7,7,7,7,7,7,7,7,7,7,7,7,7,7,7,7,7,7,7,7,7,7,7,7,7,7,7,7,7,7,7,7,7,8,8,8,8,8,8,8,8,8,8,8,8,8,8,8,8,8,8,8,8,8,8,8,8,8,8,8,8,8,8,8,8,8,8,8,8,8,8,8,8,8,8,8,8,8,8,8,8,8,8,8,8,8,8,8,8,8,8,8,8,8,8,8,8,8,8,8,8,8,8,8,8,8,8,8,8,8,8,8,8,8,8,8,8,8,8,8,8,8,8,8,8,8,8,8,8,8,8,8,8,8,8,8,8,8,8,8,8,8,8,8,8,8,8,8,8,8,8,8,8,8,8,8,8,8,8,8,8]⟩:ByteArray))),(.t 21)] [],
 u 23 (.conv .i64) [22],
 u 24 (.bin .add) [19,23],
 m 2 24])
 .ret))))⟩
def rE:DFun:=⟨8,2,[.p],[.p v1],[.t 2],
 q (F [
 i 2 0])
 (q (.cond (.c (.bool false)) (q (F [
 m 3 0,
 u 4 (.conv .u32) [3],
 y 5 125 [] [4] [],
 m 2 5])
 .ret) .skip)
 (q (F [
 m 6 0,
 y 7 126 [1] [6] [],
 m 2 7])
 .ret))⟩
def eP:DFun:=⟨7,2,[.p],[.p v4],[.t 2],
 q (F [
 o 2 (.mv) [(.c (.int .u64 0))] []])
 (q (F [
 m 3 0,
 u 4 (.conv .u64) [3],
 y 5 110 [1] [4] [],
 o 6 (.bin .shl) [(.c (.int .u64 1)),(.t 5)] [],
 m 2 6])
 .ret)⟩
def fk:DFun:=⟨33,1,[.v [.int .u64]],[.p v4],[.t 2],
 q (F [
 o 2 (.mv) [(.c (.int .u64 0))] []])
 (q (T [
 m 3 0,
 t 4 .gV [3] [0],
 t 5 (.load v4) [4] [1],
 m 6 0,
 t 7 .gV [6] [3],
 t 8 (.load v4) [7] [4],
 o 9 (.bin .shl) [(.t 8),(.c (.int .u64 13))] [5],
 t 10 (.bin .xor) [5,9] [2,6],
 t 11 .gV [3] [7],
 ⟨none,.store v4,[(.t 11),(.t 10)],[8],none⟩])
 (q (T [
 m 12 0,
 t 13 .gV [12] [0],
 t 14 (.load v4) [13] [1],
 m 15 0,
 t 16 .gV [15] [3],
 t 17 (.load v4) [16] [4],
 o 18 (.bin .shr) [(.t 17),(.c (.int .u64 7))] [5],
 t 19 (.bin .xor) [14,18] [2,6],
 t 20 .gV [12] [7],
 ⟨none,.store v4,[(.t 20),(.t 19)],[8],none⟩])
 (q (T [
 m 21 0,
 t 22 .gV [21] [0],
 t 23 (.load v4) [22] [1],
 m 24 0,
 t 25 .gV [24] [3],
 t 26 (.load v4) [25] [4],
 o 27 (.bin .shl) [(.t 26),(.c (.int .u64 17))] [5],
 t 28 (.bin .xor) [23,27] [2,6],
 t 29 .gV [21] [7],
 ⟨none,.store v4,[(.t 29),(.t 28)],[8],none⟩])
 (q (F [
 m 30 0,
 u 31 .gV [30],
 u 32 (.load v4) [31],
 m 2 32])
 .ret))))⟩
def cX:DFun:=⟨67,7,[.m 49,.p,.p,.p],[],[],
 q (F [
 m 13 2,
 m 14 1,
 u 15 (.bin .sub) [13,14],
 m 8 15])
 (q (F [
 m 16 8,
 o 17 (.bin .geq) [(.t 16),(.c (.int .i64 8))] []])
 (.cond (.t 17) (q (F [
 m 18 8,
 u 19 (.conv .u64) [18],
 u 9 (.alloc 4 [(D.int .u64 0)]) [],
 ⟨none,.store v4,[(.t 9),(.t 19)],[],none⟩])
 (q (F [
 m 20 8,
 y 21 130 [5] [20] [],
 m 10 21])
 (q (F [
 m 22 1,
 m 23 8,
 o 24 (.bin .quo) [(.t 23),(.c (.int .i64 4))] [],
 o 25 (.bin .mul) [(.t 24),(.c (.int .i64 2))] [],
 u 26 (.bin .add) [22,25],
 o 27 (.bin .sub) [(.t 26),(.c (.int .i64 1))] [],
 m 11 27])
 (.block 0 (.loop ⟨[0,1,8,9,10],[(11,.p v1)],[(0,.a 49),(4,.v [.p (.int .u64)])]⟩ (q (q (F [
 m 28 11,
 m 29 1,
 m 30 8,
 o 31 (.bin .quo) [(.t 30),(.c (.int .i64 4))] [],
 o 32 (.bin .mul) [(.t 31),(.c (.int .i64 2))] [],
 u 33 (.bin .add) [29,32],
 o 34 (.bin .add) [(.t 33),(.c (.int .i64 1))] [],
 u 35 (.bin .leq) [28,34]])
 (.cond (.t 35) .skip (.exit 0)))
 (q (.block 1 (q (F [
 y 38 131 [6] [9] [],
 m 39 10,
 o 40 (.bin .sub) [(.t 39),(.c (.int .u64 1))] [],
 u 41 (.bin .and) [38,40],
 u 42 (.conv .i64) [41],
 m 12 42])
 (q (q (F [
 m 43 12,
 m 44 8,
 u 45 (.bin .geq) [43,44]])
 (.cond (.t 45) (F [
 m 46 12,
 m 47 8,
 u 48 (.bin .sub) [46,47],
 m 12 48]) .skip))
 (T [
 m 49 0,
 m 50 11,
 m 51 0,
 m 52 1,
 m 53 12,
 t 54 (.bin .add) [52,53] [3,4],
 m 55 0,
 m 56 1,
 m 57 12,
 t 58 (.bin .add) [56,57] [7,8],
 t 59 (.aA 49) [55,58] [6,9],
 t 60 (.load b6) [59] [10],
 m 61 0,
 m 62 11,
 t 63 (.aA 49) [61,62] [12,13],
 t 64 (.load b6) [63] [14],
 t 65 (.aA 49) [49,50] [0,1,11,15],
 ⟨none,.store b6,[(.t 65),(.t 60)],[16],none⟩,
 t 66 (.aA 49) [51,54] [2,5,17],
 ⟨none,.store b6,[(.t 66),(.t 64)],[18],none⟩]))))
 (F [
 m 36 11,
 o 37 (.bin .add) [(.t 36),(.c (.int .i64 1))] [],
 m 11 37])))))))) .skip))⟩
def fl:DFun:=⟨32,6,[.m 49,.p,.p,.v [.int .i64],.p],[.p v1,.p v1],[.t 10,.t 11],
 q (F [
 i 10 0,
 i 11 0])
 (q (q (T [
 m 12 4,
 m 13 0,
 m 14 2,
 t 15 (.aA 49) [13,14] [1,2],
 t 16 (.load b6) [15] [3],
 m 17 0,
 m 18 1,
 t 19 (.aA 49) [17,18] [5,6],
 t 20 (.load b6) [19] [7],
 t 21 (.call [5]) [12,16,20] [0,4,8],
 o 22 (.bin .lss) [(.t 21),(.c (.int .i64 0))] [9]])
 (.cond (.t 22) (q (F [
 m 23 3,
 u 24 .gV [23],
 u 25 (.load v1) [24],
 o 26 (.bin .add) [(.t 25),(.c (.int .i64 1))] [],
 u 27 .gV [23],
 ⟨none,.store v1,[(.t 27),(.t 26)],[],none⟩])
 (q (F [
 m 28 2,
 m 29 1,
 m 10 28,
 m 11 29])
 .ret)) .skip))
 (q (F [
 m 30 1,
 m 31 2,
 m 10 30,
 m 11 31])
 .ret))⟩
def fp:DFun:=⟨41,12,[.m 49,.p,.p,.p,.v [.int .i64],.p],[.p v1],[.t 12],
 q (F [
 i 12 0])
 (q (F [
 m 14 0,
 m 15 1,
 m 16 2,
 m 17 4,
 m 18 5,
 y 19 135 [6,7] [14,15,16,17,18] [],
 m 13 19,
 u 20 (.ext 0) [13],
 u 21 (.ext 1) [13],
 m 1 20,
 m 2 21])
 (q (F [
 m 23 0,
 m 24 2,
 m 25 3,
 m 26 4,
 m 27 5,
 y 28 135 [8,9] [23,24,25,26,27] [],
 m 22 28,
 u 29 (.ext 0) [22],
 u 30 (.ext 1) [22],
 m 2 29,
 m 3 30])
 (q (F [
 m 32 0,
 m 33 1,
 m 34 2,
 m 35 4,
 m 36 5,
 y 37 135 [10,11] [32,33,34,35,36] [],
 m 31 37,
 u 38 (.ext 0) [31],
 u 39 (.ext 1) [31],
 m 1 38,
 m 2 39])
 (q (F [
 m 40 2,
 m 12 40])
 .ret))))⟩
def cO:DFun:=⟨18,5,[.m 49,.p,.v [.int .i64],.p],[.p v1],[.t 8],
 q (F [
 i 8 0])
 (q (F [
 m 9 0,
 m 10 1,
 o 11 (.bin .sub) [(.t 10),(.c (.int .i64 1))] [],
 m 12 1,
 m 13 1,
 o 14 (.bin .add) [(.t 13),(.c (.int .i64 1))] [],
 m 15 2,
 m 16 3,
 y 17 133 [4] [9,11,12,14,15,16] [],
 m 8 17])
 .ret)⟩
def dG:DFun:=⟨63,9,[.m 49,.p,.p,.p],[.p v1,.p v1],[.t 8,.t 9],
 q (F [
 i 8 0,
 i 9 0])
 (q (F [
 m 15 2,
 m 16 1,
 u 17 (.bin .sub) [15,16],
 m 10 17])
 (q (F [
 u 11 (.alloc 4 [(D.int .i64 0)]) []])
 (q (F [
 m 18 1,
 m 19 10,
 o 20 (.bin .quo) [(.t 19),(.c (.int .i64 4))] [],
 o 21 (.bin .mul) [(.t 20),(.c (.int .i64 1))] [],
 u 22 (.bin .add) [18,21],
 m 12 22])
 (q (F [
 m 23 1,
 m 24 10,
 o 25 (.bin .quo) [(.t 24),(.c (.int .i64 4))] [],
 o 26 (.bin .mul) [(.t 25),(.c (.int .i64 2))] [],
 u 27 (.bin .add) [23,26],
 m 13 27])
 (q (F [
 m 28 1,
 m 29 10,
 o 30 (.bin .quo) [(.t 29),(.c (.int .i64 4))] [],
 o 31 (.bin .mul) [(.t 30),(.c (.int .i64 3))] [],
 u 32 (.bin .add) [28,31],
 m 14 32])
 (q (q (F [
 m 33 10,
 o 34 (.bin .geq) [(.t 33),(.c (.int .i64 8))] []])
 (.cond (.t 34) (q (q (F [
 m 35 10,
 o 36 (.bin .geq) [(.t 35),(.c (.int .i64 50))] []])
 (.cond (.t 36) (q (F [
 m 37 0,
 m 38 12,
 m 39 3,
 y 40 132 [5] [37,38,11,39] [],
 m 12 40])
 (q (F [
 m 41 0,
 m 42 13,
 m 43 3,
 y 44 132 [6] [41,42,11,43] [],
 m 13 44])
 (F [
 m 45 0,
 m 46 14,
 m 47 3,
 y 48 132 [7] [45,46,11,47] [],
 m 14 48]))) .skip))
 (F [
 m 49 0,
 m 50 12,
 m 51 13,
 m 52 14,
 m 53 3,
 y 54 133 [8] [49,50,51,52,11,53] [],
 m 13 54])) .skip))
 (q (F [
 u 55 (.load v1) [11]])
 (.block 0 (q (F [
 o 58 (.bin .eql) [(.t 55),(.c (.int .i64 0))] [],
 m 57 58])
 (.cond (.t 57) (q (F [
 m 59 13,
 m 8 59,
 i 9 1])
 .ret) (q (F [
 o 61 (.bin .eql) [(.t 55),(.c (.int .i64 12))] [],
 m 60 61])
 (.cond (.t 60) (q (F [
 m 62 13,
 m 8 62,
 i 9 2])
 .ret) (q (F [
 m 56 13,
 m 8 56,
 i 9 0])
 .ret)))))))))))))⟩
def dg:DFun:=⟨34,4,[.m 49,.p,.p,.p],[],[],
 q (F [
 m 10 1,
 m 8 10])
 (q (F [
 m 11 2,
 o 12 (.bin .sub) [(.t 11),(.c (.int .i64 1))] [],
 m 9 12])
 (.block 0 (.loop ⟨[0],[(8,.p v1),(9,.p v1)],[(0,.a 49)]⟩ (q (q (F [
 m 13 8,
 m 14 9,
 u 15 (.bin .lss) [13,14]])
 (.cond (.t 15) .skip (.exit 0)))
 (.block 1 (q (T [
 m 16 0,
 m 17 8,
 m 18 0,
 m 19 9,
 m 20 0,
 m 21 9,
 t 22 (.aA 49) [20,21] [4,5],
 t 23 (.load b6) [22] [6],
 m 24 0,
 m 25 8,
 t 26 (.aA 49) [24,25] [8,9],
 t 27 (.load b6) [26] [10],
 t 28 (.aA 49) [16,17] [0,1,7,11],
 ⟨none,.store b6,[(.t 28),(.t 23)],[12],none⟩,
 t 29 (.aA 49) [18,19] [2,3,13],
 ⟨none,.store b6,[(.t 29),(.t 27)],[14],none⟩])
 (q (F [
 m 30 8,
 o 31 (.bin .add) [(.t 30),(.c (.int .i64 1))] [],
 m 8 31])
 (F [
 m 32 9,
 o 33 (.bin .sub) [(.t 32),(.c (.int .i64 1))] [],
 m 9 33]))))))))⟩
def cq:DFun:=⟨141,7,[.m 49,.p,.p,.p],[.p v0],[.t 8],
 q (F [
 o 8 (.mv) [(.c (.bool false))] []])
 (q (F [
 m 13 1,
 o 14 (.bin .add) [(.t 13),(.c (.int .i64 1))] [],
 m 9 14])
 (q (q (F [
 i 10 0])
 (.block 0 (.loop ⟨[0,1,2,3],[(9,.p v1),(10,.p v1)],[(0,.a 49)]⟩ (q (q (F [
 m 15 10,
 o 16 (.bin .lss) [(.t 15),(.c (.int .i64 5))] []])
 (.cond (.t 16) .skip (.exit 0)))
 (q (.block 1 (q (.block 2 (.loop ⟨[0,1,2,3,10],[(9,.p v1)],[(0,.a 49)]⟩ (q (q (T [
 m 19 9,
 m 20 2,
 t 21 (.bin .lss) [19,20] [0,1],
 t 22 .mv [21] [2],
 g 23 (.mv) [3] [3] 22 true,
 g 24 (.mv) [0] [3] 22 true,
 g 25 (.mv) [9] [3] 22 true,
 g 26 (.aA 49) [24,25] [5,6] 22 true,
 g 27 (.load b6) [26] [7] 22 true,
 g 28 (.mv) [0] [3] 22 true,
 g 29 (.mv) [9] [3] 22 true,
 ⟨some 30,.bin .sub,[(.t 29),(.c (.int .i64 1))],[10],some (22,true)⟩,
 g 31 (.aA 49) [28,30] [9,11] 22 true,
 g 32 (.load b6) [31] [12] 22 true,
 g 33 (.call [4]) [23,27,32] [4,8,13] 22 true,
 ⟨some 34,.bin .lss,[(.t 33),(.c (.int .i64 0))],[14],some (22,true)⟩,
 g 35 (.not) [34] [15] 22 true,
 o 36 (.pick) [(.t 22),(.t 35),(.c (.bool false))] [16]])
 (.cond (.t 36) .skip (.exit 2)))
 (.block 3 (F [
 m 37 9,
 o 38 (.bin .add) [(.t 37),(.c (.int .i64 1))] [],
 m 9 38])))))
 (q (q (F [
 m 39 9,
 m 40 2,
 u 41 (.bin .eql) [39,40]])
 (.cond (.t 41) (q (F [
 o 8 (.mv) [(.c (.bool true))] []])
 .ret) .skip))
 (q (q (F [
 m 42 2,
 m 43 1,
 u 44 (.bin .sub) [42,43],
 o 45 (.bin .lss) [(.t 44),(.c (.int .i64 50))] []])
 (.cond (.t 45) (q (F [
 o 8 (.mv) [(.c (.bool false))] []])
 .ret) .skip))
 (q (T [
 m 46 0,
 m 47 9,
 m 48 0,
 m 49 9,
 o 50 (.bin .sub) [(.t 49),(.c (.int .i64 1))] [3],
 m 51 0,
 m 52 9,
 o 53 (.bin .sub) [(.t 52),(.c (.int .i64 1))] [6],
 t 54 (.aA 49) [51,53] [5,7],
 t 55 (.load b6) [54] [8],
 m 56 0,
 m 57 9,
 t 58 (.aA 49) [56,57] [10,11],
 t 59 (.load b6) [58] [12],
 t 60 (.aA 49) [46,47] [0,1,9,13],
 ⟨none,.store b6,[(.t 60),(.t 55)],[14],none⟩,
 t 61 (.aA 49) [48,50] [2,4,15],
 ⟨none,.store b6,[(.t 61),(.t 59)],[16],none⟩])
 (q (q (F [
 m 62 9,
 m 63 1,
 u 64 (.bin .sub) [62,63],
 o 65 (.bin .geq) [(.t 64),(.c (.int .i64 2))] []])
 (.cond (.t 65) (q (F [
 m 66 9,
 o 67 (.bin .sub) [(.t 66),(.c (.int .i64 1))] [],
 m 11 67])
 (.block 4 (.loop ⟨[0,1,2,3,9,10],[(11,.p v1)],[(0,.a 49)]⟩ (q (q (F [
 m 68 11,
 o 69 (.bin .geq) [(.t 68),(.c (.int .i64 1))] []])
 (.cond (.t 69) .skip (.exit 4)))
 (q (.block 5 (q (q (T [
 m 72 3,
 m 73 0,
 m 74 11,
 t 75 (.aA 49) [73,74] [1,2],
 t 76 (.load b6) [75] [3],
 m 77 0,
 m 78 11,
 o 79 (.bin .sub) [(.t 78),(.c (.int .i64 1))] [6],
 t 80 (.aA 49) [77,79] [5,7],
 t 81 (.load b6) [80] [8],
 t 82 (.call [5]) [72,76,81] [0,4,9],
 o 83 (.bin .lss) [(.t 82),(.c (.int .i64 0))] [10],
 t 84 .not [83] [11]])
 (.cond (.t 84) (.exit 4) .skip))
 (T [
 m 85 0,
 m 86 11,
 m 87 0,
 m 88 11,
 o 89 (.bin .sub) [(.t 88),(.c (.int .i64 1))] [3],
 m 90 0,
 m 91 11,
 o 92 (.bin .sub) [(.t 91),(.c (.int .i64 1))] [6],
 t 93 (.aA 49) [90,92] [5,7],
 t 94 (.load b6) [93] [8],
 m 95 0,
 m 96 11,
 t 97 (.aA 49) [95,96] [10,11],
 t 98 (.load b6) [97] [12],
 t 99 (.aA 49) [85,86] [0,1,9,13],
 ⟨none,.store b6,[(.t 99),(.t 94)],[14],none⟩,
 t 100 (.aA 49) [87,89] [2,4,15],
 ⟨none,.store b6,[(.t 100),(.t 98)],[16],none⟩])))
 (F [
 m 70 11,
 o 71 (.bin .sub) [(.t 70),(.c (.int .i64 1))] [],
 m 11 71])))))) .skip))
 (q (F [
 m 101 2,
 m 102 9,
 u 103 (.bin .sub) [101,102],
 o 104 (.bin .geq) [(.t 103),(.c (.int .i64 2))] []])
 (.cond (.t 104) (q (F [
 m 105 9,
 o 106 (.bin .add) [(.t 105),(.c (.int .i64 1))] [],
 m 12 106])
 (.block 6 (.loop ⟨[0,1,2,3,9,10],[(12,.p v1)],[(0,.a 49)]⟩ (q (q (F [
 m 107 12,
 m 108 2,
 u 109 (.bin .lss) [107,108]])
 (.cond (.t 109) .skip (.exit 6)))
 (q (.block 7 (q (q (T [
 m 112 3,
 m 113 0,
 m 114 12,
 t 115 (.aA 49) [113,114] [1,2],
 t 116 (.load b6) [115] [3],
 m 117 0,
 m 118 12,
 o 119 (.bin .sub) [(.t 118),(.c (.int .i64 1))] [6],
 t 120 (.aA 49) [117,119] [5,7],
 t 121 (.load b6) [120] [8],
 t 122 (.call [6]) [112,116,121] [0,4,9],
 o 123 (.bin .lss) [(.t 122),(.c (.int .i64 0))] [10],
 t 124 .not [123] [11]])
 (.cond (.t 124) (.exit 6) .skip))
 (T [
 m 125 0,
 m 126 12,
 m 127 0,
 m 128 12,
 o 129 (.bin .sub) [(.t 128),(.c (.int .i64 1))] [3],
 m 130 0,
 m 131 12,
 o 132 (.bin .sub) [(.t 131),(.c (.int .i64 1))] [6],
 t 133 (.aA 49) [130,132] [5,7],
 t 134 (.load b6) [133] [8],
 m 135 0,
 m 136 12,
 t 137 (.aA 49) [135,136] [10,11],
 t 138 (.load b6) [137] [12],
 t 139 (.aA 49) [125,126] [0,1,9,13],
 ⟨none,.store b6,[(.t 139),(.t 134)],[14],none⟩,
 t 140 (.aA 49) [127,129] [2,4,15],
 ⟨none,.store b6,[(.t 140),(.t 138)],[16],none⟩])))
 (F [
 m 110 12,
 o 111 (.bin .add) [(.t 110),(.c (.int .i64 1))] [],
 m 12 111])))))) .skip))))))))
 (F [
 m 17 10,
 o 18 (.bin .add) [(.t 17),(.c (.int .i64 1))] [],
 m 10 18]))))))
 (q (F [
 o 8 (.mv) [(.c (.bool false))] []])
 .ret)))⟩
def cP:DFun:=⟨90,7,[.m 49,.p,.p,.p,.p],[.p v1],[.t 10],
 q (F [
 i 10 0])
 (q (T [
 m 13 0,
 m 14 1,
 m 15 0,
 m 16 3,
 m 17 0,
 m 18 3,
 t 19 (.aA 49) [17,18] [4,5],
 t 20 (.load b6) [19] [6],
 m 21 0,
 m 22 1,
 t 23 (.aA 49) [21,22] [8,9],
 t 24 (.load b6) [23] [10],
 t 25 (.aA 49) [13,14] [0,1,7,11],
 ⟨none,.store b6,[(.t 25),(.t 20)],[12],none⟩,
 t 26 (.aA 49) [15,16] [2,3,13],
 ⟨none,.store b6,[(.t 26),(.t 24)],[14],none⟩])
 (q (F [
 m 27 1,
 o 28 (.bin .add) [(.t 27),(.c (.int .i64 1))] [],
 m 29 2,
 o 30 (.bin .sub) [(.t 29),(.c (.int .i64 1))] [],
 m 11 28,
 m 12 30])
 (q (.block 0 (.loop ⟨[0,1,4],[(11,.p v1),(12,.p v1)],[(0,.a 49)]⟩ (.block 1 (q (.block 2 (.loop ⟨[0,1,4,12],[(11,.p v1)],[(0,.a 49)]⟩ (q (q (T [
 m 31 11,
 m 32 12,
 t 33 (.bin .leq) [31,32] [0,1],
 t 34 .mv [33] [2],
 g 35 (.mv) [4] [3] 34 true,
 g 36 (.mv) [0] [3] 34 true,
 g 37 (.mv) [1] [3] 34 true,
 g 38 (.aA 49) [36,37] [5,6] 34 true,
 g 39 (.load b6) [38] [7] 34 true,
 g 40 (.mv) [0] [3] 34 true,
 g 41 (.mv) [11] [3] 34 true,
 g 42 (.aA 49) [40,41] [9,10] 34 true,
 g 43 (.load b6) [42] [11] 34 true,
 g 44 (.call [5]) [35,39,43] [4,8,12] 34 true,
 ⟨some 45,.bin .lss,[(.t 44),(.c (.int .i64 0))],[13],some (34,true)⟩,
 g 46 (.not) [45] [14] 34 true,
 o 47 (.pick) [(.t 34),(.t 46),(.c (.bool false))] [15]])
 (.cond (.t 47) .skip (.exit 2)))
 (.block 3 (F [
 m 48 11,
 o 49 (.bin .add) [(.t 48),(.c (.int .i64 1))] [],
 m 11 49])))))
 (q (.block 4 (.loop ⟨[0,1,4,11],[(12,.p v1)],[(0,.a 49)]⟩ (q (q (T [
 m 50 11,
 m 51 12,
 t 52 (.bin .leq) [50,51] [0,1],
 t 53 .mv [52] [2],
 g 54 (.mv) [4] [3] 53 true,
 g 55 (.mv) [0] [3] 53 true,
 g 56 (.mv) [1] [3] 53 true,
 g 57 (.aA 49) [55,56] [5,6] 53 true,
 g 58 (.load b6) [57] [7] 53 true,
 g 59 (.mv) [0] [3] 53 true,
 g 60 (.mv) [12] [3] 53 true,
 g 61 (.aA 49) [59,60] [9,10] 53 true,
 g 62 (.load b6) [61] [11] 53 true,
 g 63 (.call [6]) [54,58,62] [4,8,12] 53 true,
 ⟨some 64,.bin .lss,[(.t 63),(.c (.int .i64 0))],[13],some (53,true)⟩,
 o 65 (.pick) [(.t 53),(.t 64),(.c (.bool false))] [14]])
 (.cond (.t 65) .skip (.exit 4)))
 (.block 5 (F [
 m 66 12,
 o 67 (.bin .sub) [(.t 66),(.c (.int .i64 1))] [],
 m 12 67])))))
 (q (q (F [
 m 68 11,
 m 69 12,
 u 70 (.bin .gtr) [68,69]])
 (.cond (.t 70) (.exit 0) .skip))
 (q (T [
 m 71 0,
 m 72 11,
 m 73 0,
 m 74 12,
 m 75 0,
 m 76 12,
 t 77 (.aA 49) [75,76] [4,5],
 t 78 (.load b6) [77] [6],
 m 79 0,
 m 80 11,
 t 81 (.aA 49) [79,80] [8,9],
 t 82 (.load b6) [81] [10],
 t 83 (.aA 49) [71,72] [0,1,7,11],
 ⟨none,.store b6,[(.t 83),(.t 78)],[12],none⟩,
 t 84 (.aA 49) [73,74] [2,3,13],
 ⟨none,.store b6,[(.t 84),(.t 82)],[14],none⟩])
 (q (F [
 m 85 11,
 o 86 (.bin .add) [(.t 85),(.c (.int .i64 1))] [],
 m 11 86])
 (F [
 m 87 12,
 o 88 (.bin .sub) [(.t 87),(.c (.int .i64 1))] [],
 m 12 88])))))))))
 (q (F [
 m 89 11,
 m 10 89])
 .ret))))⟩
def d_:DFun:=⟨178,9,[.m 49,.p,.p,.p,.p],[.p v1,.p v0],[.t 10,.t 11],
 q (F [
 i 10 0,
 o 11 (.mv) [(.c (.bool false))] []])
 (q (T [
 m 14 0,
 m 15 1,
 m 16 0,
 m 17 3,
 m 18 0,
 m 19 3,
 t 20 (.aA 49) [18,19] [4,5],
 t 21 (.load b6) [20] [6],
 m 22 0,
 m 23 1,
 t 24 (.aA 49) [22,23] [8,9],
 t 25 (.load b6) [24] [10],
 t 26 (.aA 49) [14,15] [0,1,7,11],
 ⟨none,.store b6,[(.t 26),(.t 21)],[12],none⟩,
 t 27 (.aA 49) [16,17] [2,3,13],
 ⟨none,.store b6,[(.t 27),(.t 25)],[14],none⟩])
 (q (F [
 m 28 1,
 o 29 (.bin .add) [(.t 28),(.c (.int .i64 1))] [],
 m 30 2,
 o 31 (.bin .sub) [(.t 30),(.c (.int .i64 1))] [],
 m 12 29,
 m 13 31])
 (q (.block 0 (.loop ⟨[0,1,4,13],[(12,.p v1)],[(0,.a 49)]⟩ (q (q (T [
 m 32 12,
 m 33 13,
 t 34 (.bin .leq) [32,33] [0,1],
 t 35 .mv [34] [2],
 g 36 (.mv) [4] [3] 35 true,
 g 37 (.mv) [0] [3] 35 true,
 g 38 (.mv) [12] [3] 35 true,
 g 39 (.aA 49) [37,38] [5,6] 35 true,
 g 40 (.load b6) [39] [7] 35 true,
 g 41 (.mv) [0] [3] 35 true,
 g 42 (.mv) [1] [3] 35 true,
 g 43 (.aA 49) [41,42] [9,10] 35 true,
 g 44 (.load b6) [43] [11] 35 true,
 g 45 (.call [5]) [36,40,44] [4,8,12] 35 true,
 ⟨some 46,.bin .lss,[(.t 45),(.c (.int .i64 0))],[13],some (35,true)⟩,
 o 47 (.pick) [(.t 35),(.t 46),(.c (.bool false))] [14]])
 (.cond (.t 47) .skip (.exit 0)))
 (.block 1 (F [
 m 48 12,
 o 49 (.bin .add) [(.t 48),(.c (.int .i64 1))] [],
 m 12 49])))))
 (q (.block 2 (.loop ⟨[0,1,4,12],[(13,.p v1)],[(0,.a 49)]⟩ (q (q (T [
 m 50 12,
 m 51 13,
 t 52 (.bin .leq) [50,51] [0,1],
 t 53 .mv [52] [2],
 g 54 (.mv) [4] [3] 53 true,
 g 55 (.mv) [0] [3] 53 true,
 g 56 (.mv) [13] [3] 53 true,
 g 57 (.aA 49) [55,56] [5,6] 53 true,
 g 58 (.load b6) [57] [7] 53 true,
 g 59 (.mv) [0] [3] 53 true,
 g 60 (.mv) [1] [3] 53 true,
 g 61 (.aA 49) [59,60] [9,10] 53 true,
 g 62 (.load b6) [61] [11] 53 true,
 g 63 (.call [6]) [54,58,62] [4,8,12] 53 true,
 ⟨some 64,.bin .lss,[(.t 63),(.c (.int .i64 0))],[13],some (53,true)⟩,
 g 65 (.not) [64] [14] 53 true,
 o 66 (.pick) [(.t 53),(.t 65),(.c (.bool false))] [15]])
 (.cond (.t 66) .skip (.exit 2)))
 (.block 3 (F [
 m 67 13,
 o 68 (.bin .sub) [(.t 67),(.c (.int .i64 1))] [],
 m 13 68])))))
 (q (q (F [
 m 69 12,
 m 70 13,
 u 71 (.bin .gtr) [69,70]])
 (.cond (.t 71) (q (T [
 m 72 0,
 m 73 13,
 m 74 0,
 m 75 1,
 m 76 0,
 m 77 1,
 t 78 (.aA 49) [76,77] [4,5],
 t 79 (.load b6) [78] [6],
 m 80 0,
 m 81 13,
 t 82 (.aA 49) [80,81] [8,9],
 t 83 (.load b6) [82] [10],
 t 84 (.aA 49) [72,73] [0,1,7,11],
 ⟨none,.store b6,[(.t 84),(.t 79)],[12],none⟩,
 t 85 (.aA 49) [74,75] [2,3,13],
 ⟨none,.store b6,[(.t 85),(.t 83)],[14],none⟩])
 (q (F [
 m 86 13,
 m 10 86,
 o 11 (.mv) [(.c (.bool true))] []])
 .ret)) .skip))
 (q (T [
 m 87 0,
 m 88 12,
 m 89 0,
 m 90 13,
 m 91 0,
 m 92 13,
 t 93 (.aA 49) [91,92] [4,5],
 t 94 (.load b6) [93] [6],
 m 95 0,
 m 96 12,
 t 97 (.aA 49) [95,96] [8,9],
 t 98 (.load b6) [97] [10],
 t 99 (.aA 49) [87,88] [0,1,7,11],
 ⟨none,.store b6,[(.t 99),(.t 94)],[12],none⟩,
 t 100 (.aA 49) [89,90] [2,3,13],
 ⟨none,.store b6,[(.t 100),(.t 98)],[14],none⟩])
 (q (F [
 m 101 12,
 o 102 (.bin .add) [(.t 101),(.c (.int .i64 1))] [],
 m 12 102])
 (q (F [
 m 103 13,
 o 104 (.bin .sub) [(.t 103),(.c (.int .i64 1))] [],
 m 13 104])
 (q (.block 4 (.loop ⟨[0,1,4],[(12,.p v1),(13,.p v1)],[(0,.a 49)]⟩ (.block 5 (q (.block 6 (.loop ⟨[0,1,4,13],[(12,.p v1)],[(0,.a 49)]⟩ (q (q (T [
 m 105 12,
 m 106 13,
 t 107 (.bin .leq) [105,106] [0,1],
 t 108 .mv [107] [2],
 g 109 (.mv) [4] [3] 108 true,
 g 110 (.mv) [0] [3] 108 true,
 g 111 (.mv) [12] [3] 108 true,
 g 112 (.aA 49) [110,111] [5,6] 108 true,
 g 113 (.load b6) [112] [7] 108 true,
 g 114 (.mv) [0] [3] 108 true,
 g 115 (.mv) [1] [3] 108 true,
 g 116 (.aA 49) [114,115] [9,10] 108 true,
 g 117 (.load b6) [116] [11] 108 true,
 g 118 (.call [7]) [109,113,117] [4,8,12] 108 true,
 ⟨some 119,.bin .lss,[(.t 118),(.c (.int .i64 0))],[13],some (108,true)⟩,
 o 120 (.pick) [(.t 108),(.t 119),(.c (.bool false))] [14]])
 (.cond (.t 120) .skip (.exit 6)))
 (.block 7 (F [
 m 121 12,
 o 122 (.bin .add) [(.t 121),(.c (.int .i64 1))] [],
 m 12 122])))))
 (q (.block 8 (.loop ⟨[0,1,4,12],[(13,.p v1)],[(0,.a 49)]⟩ (q (q (T [
 m 123 12,
 m 124 13,
 t 125 (.bin .leq) [123,124] [0,1],
 t 126 .mv [125] [2],
 g 127 (.mv) [4] [3] 126 true,
 g 128 (.mv) [0] [3] 126 true,
 g 129 (.mv) [13] [3] 126 true,
 g 130 (.aA 49) [128,129] [5,6] 126 true,
 g 131 (.load b6) [130] [7] 126 true,
 g 132 (.mv) [0] [3] 126 true,
 g 133 (.mv) [1] [3] 126 true,
 g 134 (.aA 49) [132,133] [9,10] 126 true,
 g 135 (.load b6) [134] [11] 126 true,
 g 136 (.call [8]) [127,131,135] [4,8,12] 126 true,
 ⟨some 137,.bin .lss,[(.t 136),(.c (.int .i64 0))],[13],some (126,true)⟩,
 g 138 (.not) [137] [14] 126 true,
 o 139 (.pick) [(.t 126),(.t 138),(.c (.bool false))] [15]])
 (.cond (.t 139) .skip (.exit 8)))
 (.block 9 (F [
 m 140 13,
 o 141 (.bin .sub) [(.t 140),(.c (.int .i64 1))] [],
 m 13 141])))))
 (q (q (F [
 m 142 12,
 m 143 13,
 u 144 (.bin .gtr) [142,143]])
 (.cond (.t 144) (.exit 4) .skip))
 (q (T [
 m 145 0,
 m 146 12,
 m 147 0,
 m 148 13,
 m 149 0,
 m 150 13,
 t 151 (.aA 49) [149,150] [4,5],
 t 152 (.load b6) [151] [6],
 m 153 0,
 m 154 12,
 t 155 (.aA 49) [153,154] [8,9],
 t 156 (.load b6) [155] [10],
 t 157 (.aA 49) [145,146] [0,1,7,11],
 ⟨none,.store b6,[(.t 157),(.t 152)],[12],none⟩,
 t 158 (.aA 49) [147,148] [2,3,13],
 ⟨none,.store b6,[(.t 158),(.t 156)],[14],none⟩])
 (q (F [
 m 159 12,
 o 160 (.bin .add) [(.t 159),(.c (.int .i64 1))] [],
 m 12 160])
 (F [
 m 161 13,
 o 162 (.bin .sub) [(.t 161),(.c (.int .i64 1))] [],
 m 13 162])))))))))
 (q (T [
 m 163 0,
 m 164 13,
 m 165 0,
 m 166 1,
 m 167 0,
 m 168 1,
 t 169 (.aA 49) [167,168] [4,5],
 t 170 (.load b6) [169] [6],
 m 171 0,
 m 172 13,
 t 173 (.aA 49) [171,172] [8,9],
 t 174 (.load b6) [173] [10],
 t 175 (.aA 49) [163,164] [0,1,7,11],
 ⟨none,.store b6,[(.t 175),(.t 170)],[12],none⟩,
 t 176 (.aA 49) [165,166] [2,3,13],
 ⟨none,.store b6,[(.t 176),(.t 174)],[14],none⟩])
 (q (F [
 m 177 13,
 m 10 177,
 o 11 (.mv) [(.c (.bool false))] []])
 .ret)))))))))))⟩
def eQ:DFun:=⟨148,12,[.m 49,.p,.p,.p,.p],[],[],
 q (F [
 o 10 (.mv) [(.c (.bool true))] []])
 (q (F [
 o 11 (.mv) [(.c (.bool true))] []])
 (.block 0 (.loop ⟨[0,4],[(1,.p v1),(2,.p v1),(3,.p v1),(10,.p v0),(11,.p v0)],[(0,.a 49)]⟩ (.block 1 (q (F [
 m 21 2,
 m 22 1,
 u 23 (.bin .sub) [21,22],
 m 12 23])
 (q (q (F [
 m 24 12,
 o 25 (.bin .leq) [(.t 24),(.c (.int .i64 12))] []])
 (.cond (.t 25) (q (F [
 m 26 0,
 m 27 1,
 m 28 2,
 m 29 4,
 y 30 117 [] [26,27,28,29] []])
 .ret) .skip))
 (q (q (F [
 m 31 3,
 o 32 (.bin .eql) [(.t 31),(.c (.int .i64 0))] []])
 (.cond (.t 32) (q (F [
 m 33 0,
 m 34 1,
 m 35 2,
 m 36 4,
 y 37 118 [] [33,34,35,36] []])
 .ret) .skip))
 (q (q (F [
 m 38 10,
 u 39 .not [38]])
 (.cond (.t 39) (q (F [
 m 40 0,
 m 41 1,
 m 42 2,
 m 43 4,
 y 44 119 [] [40,41,42,43] []])
 (F [
 m 45 3,
 o 46 (.bin .sub) [(.t 45),(.c (.int .i64 1))] [],
 m 3 46])) .skip))
 (q (F [
 m 48 0,
 m 49 1,
 m 50 2,
 m 51 4,
 y 52 120 [5,6] [48,49,50,51] [],
 m 47 52,
 u 53 (.ext 0) [47],
 u 54 (.ext 1) [47],
 m 13 53,
 m 14 54])
 (q (q (F [
 m 55 14,
 o 56 (.bin .eql) [(.t 55),(.c (.int .i64 2))] []])
 (.cond (.t 56) (q (F [
 m 57 0,
 m 58 1,
 m 59 2,
 m 60 4,
 y 61 121 [] [57,58,59,60] []])
 (q (F [
 m 62 2,
 o 63 (.bin .sub) [(.t 62),(.c (.int .i64 1))] [],
 m 64 13,
 m 65 1,
 u 66 (.bin .sub) [64,65],
 u 67 (.bin .sub) [63,66],
 m 13 67])
 (F [
 i 14 1]))) .skip))
 (q (q (F [
 m 68 10,
 m 69 68,
 g 70 (.mv) [11] [] 69 true,
 o 71 (.pick) [(.t 69),(.t 70),(.c (.bool false))] [],
 m 72 71,
 g 73 (.mv) [14] [] 72 true,
 ⟨some 74,.bin .eql,[(.t 73),(.c (.int .i64 1))],[],some (72,true)⟩,
 o 75 (.pick) [(.t 72),(.t 74),(.c (.bool false))] []])
 (.cond (.t 75) (q (F [
 m 76 0,
 m 77 1,
 m 78 2,
 m 79 4,
 y 80 122 [7] [76,77,78,79] []])
 (.cond (.t 80) .ret .skip)) .skip))
 (q (q (T [
 m 81 1,
 o 82 (.bin .gtr) [(.t 81),(.c (.int .i64 0))] [0],
 t 83 .mv [82] [1],
 g 84 (.mv) [4] [2] 83 true,
 g 85 (.mv) [0] [2] 83 true,
 g 86 (.mv) [1] [2] 83 true,
 ⟨some 87,.bin .sub,[(.t 86),(.c (.int .i64 1))],[5],some (83,true)⟩,
 g 88 (.aA 49) [85,87] [4,6] 83 true,
 g 89 (.load b6) [88] [7] 83 true,
 g 90 (.mv) [0] [2] 83 true,
 g 91 (.mv) [13] [2] 83 true,
 g 92 (.aA 49) [90,91] [9,10] 83 true,
 g 93 (.load b6) [92] [11] 83 true,
 g 94 (.call [8]) [84,89,93] [3,8,12] 83 true,
 ⟨some 95,.bin .lss,[(.t 94),(.c (.int .i64 0))],[13],some (83,true)⟩,
 g 96 (.not) [95] [14] 83 true,
 o 97 (.pick) [(.t 83),(.t 96),(.c (.bool false))] [15]])
 (.cond (.t 97) (q (F [
 m 98 0,
 m 99 1,
 m 100 2,
 m 101 13,
 m 102 4,
 y 103 123 [9] [98,99,100,101,102] [],
 m 15 103])
 (q (F [
 m 104 15,
 m 1 104])
 (.exit 1))) .skip))
 (q (F [
 m 106 0,
 m 107 1,
 m 108 2,
 m 109 13,
 m 110 4,
 y 111 124 [10,11] [106,107,108,109,110] [],
 m 105 111,
 u 112 (.ext 0) [105],
 u 113 (.ext 1) [105],
 m 16 112,
 m 17 113])
 (q (F [
 m 114 17,
 m 11 114])
 (q (F [
 m 115 16,
 m 116 1,
 u 117 (.bin .sub) [115,116],
 m 118 2,
 m 119 16,
 u 120 (.bin .sub) [118,119],
 m 18 117,
 m 19 120])
 (q (F [
 m 121 12,
 o 122 (.bin .quo) [(.t 121),(.c (.int .i64 8))] [],
 m 20 122])
 (q (F [
 m 123 18,
 m 124 19,
 u 125 (.bin .lss) [123,124]])
 (.cond (.t 125) (q (F [
 m 126 18,
 m 127 20,
 u 128 (.bin .geq) [126,127],
 m 10 128])
 (q (F [
 m 129 0,
 m 130 1,
 m 131 16,
 m 132 3,
 m 133 4,
 y 134 109 [] [129,130,131,132,133] []])
 (F [
 m 135 16,
 o 136 (.bin .add) [(.t 135),(.c (.int .i64 1))] [],
 m 1 136]))) (q (F [
 m 137 19,
 m 138 20,
 u 139 (.bin .geq) [137,138],
 m 10 139])
 (q (F [
 m 140 0,
 m 141 16,
 o 142 (.bin .add) [(.t 141),(.c (.int .i64 1))] [],
 m 143 2,
 m 144 3,
 m 145 4,
 y 146 109 [] [140,142,143,144,145] []])
 (F [
 m 147 16,
 m 2 147])))))))))))))))))))))⟩
def jf:DFun:=⟨14,3,[.m 49,.p],[],[],
 q (F [
 m 5 0,
 u 6 .len [5],
 m 4 6])
 (F [
 m 7 0,
 m 8 4,
 m 9 4,
 u 10 (.conv .u64) [9],
 y 11 110 [2] [10] [],
 m 12 1,
 o 13 (.call []) [(.c (.fn 109 [])),(.t 7),(.c (.int .i64 0)),(.t 8),(.t 11),(.t 12)] []])⟩
def wR:DFun:=⟨18,1,[.p],[.p v1],[.t 2],
 q (F [
 i 2 0])
 (q (F [
 i 3 0])
 (q (q (F [
 m 6 0,
 u 7 .len [6],
 i 8 0])
 (.block 0 (.loop ⟨[3,6,7],[(8,.p v1)],[]⟩ (q (F [
 u 9 (.bin .lss) [8,7]])
 (q (.cond (.t 9) .skip (.exit 0))
 (q (.block 1 (q (F [
 u 10 (.aA 3) [6,8],
 u 11 (.load v1) [10],
 m 5 11])
 (q (F [
 m 12 5,
 m 13 3,
 u 14 (.bin .neq) [12,13]])
 (.cond (.t 14) (q (F [
 m 15 5,
 m 2 15])
 .ret) .skip))))
 (F [
 o 16 (.bin .add) [(.t 8),(.c (.int .i64 1))] [],
 m 8 16])))))))
 (q (F [
 m 17 3,
 m 2 17])
 .ret)))⟩
def kz:DFun:=⟨6,1,[.p],[.p v0],[.t 2],
 q (F [
 o 2 (.mv) [(.c (.bool false))] []])
 (q (F [
 m 3 0,
 m 4 0,
 u 5 (.bin .neq) [3,4],
 m 2 5])
 .ret)⟩
def jg:DFun:=⟨20,4,[.p,.p],[.p v1],[.t 4],
 q (F [
 i 4 0])
 (q (F [
 m 7 0,
 y 8 127 [2] [7] [],
 m 5 8])
 (q (F [
 m 9 1,
 y 10 127 [3] [9] [],
 m 6 10])
 (q (q (F [
 m 11 5])
 (.cond (.t 11) (q (q (F [
 m 12 6])
 (.cond (.t 12) (q (F [
 i 4 0])
 .ret) .skip))
 (q (F [
 i 4 (-1)])
 .ret)) .skip))
 (q (q (F [
 m 13 6])
 (.cond (.t 13) (q (F [
 i 4 1])
 .ret) .skip))
 (q (q (F [
 m 14 0,
 m 15 1,
 u 16 (.bin .lss) [14,15]])
 (.cond (.t 16) (q (F [
 i 4 (-1)])
 .ret) .skip))
 (q (q (F [
 m 17 0,
 m 18 1,
 u 19 (.bin .gtr) [17,18]])
 (.cond (.t 19) (q (F [
 i 4 1])
 .ret) .skip))
 (q (F [
 i 4 0])
 .ret)))))))⟩
def kA:DFun:=⟨6,1,[.p],[.p v0],[.t 2],
 q (F [
 o 2 (.mv) [(.c (.bool false))] []])
 (q (F [
 m 3 0,
 m 4 0,
 u 5 (.bin .neq) [3,4],
 m 2 5])
 .ret)⟩
def jh:DFun:=⟨20,4,[.p,.p],[.p v1],[.t 4],
 q (F [
 i 4 0])
 (q (F [
 m 7 0,
 y 8 134 [2] [7] [],
 m 5 8])
 (q (F [
 m 9 1,
 y 10 134 [3] [9] [],
 m 6 10])
 (q (q (F [
 m 11 5])
 (.cond (.t 11) (q (q (F [
 m 12 6])
 (.cond (.t 12) (q (F [
 i 4 0])
 .ret) .skip))
 (q (F [
 i 4 (-1)])
 .ret)) .skip))
 (q (q (F [
 m 13 6])
 (.cond (.t 13) (q (F [
 i 4 1])
 .ret) .skip))
 (q (q (F [
 m 14 0,
 m 15 1,
 u 16 (.bin .lss) [14,15]])
 (.cond (.t 16) (q (F [
 i 4 (-1)])
 .ret) .skip))
 (q (q (F [
 m 17 0,
 m 18 1,
 u 19 (.bin .gtr) [17,18]])
 (.cond (.t 19) (q (F [
 i 4 1])
 .ret) .skip))
 (q (F [
 i 4 0])
 .ret)))))))⟩
def jK:DFun:=⟨19,6,[.p,.p],[.p v1],[.t 4],
 q (F [
 u 2 (.box 2) [0],
 u 3 (.box 3) [1],
 i 4 0])
 (q (q (F [
 u 6 (.aR 0) [2],
 u 7 (.load v4) [6],
 u 8 (.aR 0) [3],
 u 9 (.load v4) [8],
 y 10 128 [4] [7,9] [],
 m 5 10])
 (q (F [
 m 11 5,
 o 12 (.bin .neq) [(.t 11),(.c (.int .i64 0))] []])
 (.cond (.t 12) (q (F [
 m 13 5,
 m 4 13])
 .ret) .skip)))
 (q (F [
 u 14 (.aR 1) [2],
 u 15 (.load v4) [14],
 u 16 (.aR 1) [3],
 u 17 (.load v4) [16],
 y 18 128 [5] [15,17] [],
 m 4 18])
 .ret))⟩
def kB:DFun:=⟨6,1,[.p],[.p v0],[.t 2],
 q (F [
 o 2 (.mv) [(.c (.bool false))] []])
 (q (F [
 m 3 0,
 m 4 0,
 u 5 (.bin .neq) [3,4],
 m 2 5])
 .ret)⟩
def ji:DFun:=⟨20,4,[.p,.p],[.p v1],[.t 4],
 q (F [
 i 4 0])
 (q (F [
 m 7 0,
 y 8 107 [2] [7] [],
 m 5 8])
 (q (F [
 m 9 1,
 y 10 107 [3] [9] [],
 m 6 10])
 (q (q (F [
 m 11 5])
 (.cond (.t 11) (q (q (F [
 m 12 6])
 (.cond (.t 12) (q (F [
 i 4 0])
 .ret) .skip))
 (q (F [
 i 4 (-1)])
 .ret)) .skip))
 (q (q (F [
 m 13 6])
 (.cond (.t 13) (q (F [
 i 4 1])
 .ret) .skip))
 (q (q (F [
 m 14 0,
 m 15 1,
 u 16 (.bin .lss) [14,15]])
 (.cond (.t 16) (q (F [
 i 4 (-1)])
 .ret) .skip))
 (q (q (F [
 m 17 0,
 m 18 1,
 u 19 (.bin .gtr) [17,18]])
 (.cond (.t 19) (q (F [
 i 4 1])
 .ret) .skip))
 (q (F [
 i 4 0])
 .ret)))))))⟩
def nS:DFun:=⟨22,9,[.p,.p],[.p v1],[.t 4],
 q (F [
 u 2 (.box 2) [0],
 u 3 (.box 3) [1],
 i 4 0])
 (q (T [
 u 5 (.aR 0) [2],
 t 6 (.load v6) [5] [0],
 u 7 (.aR 0) [3],
 t 8 (.load v6) [7] [2],
 y 9 112 [5] [6,8] [1,3],
 u 10 (.aR 1) [2],
 t 11 (.load v5) [10] [5],
 u 12 (.aR 1) [3],
 t 13 (.load v5) [12] [7],
 y 14 113 [6] [11,13] [4,6,8],
 u 15 (.aR 3) [2],
 t 16 (.load v1) [15] [10],
 u 17 (.aR 3) [3],
 t 18 (.load v1) [17] [12],
 y 19 114 [7] [16,18] [9,11,13],
 t 20 (.bn 4 3) [9,14,19] [14],
 y 21 111 [8] [20] [15],
 t 4 .mv [21] [16]])
 .ret)⟩
def jk:DFun:=⟨13,8,[.p,.p,.p],[.p v1],[.t 5],
 q (F [
 u 3 (.box 3) [0],
 u 4 (.box 4) [1],
 i 5 0])
 (q (T [
 u 6 (.load v7) [2],
 u 7 (.load b6) [3],
 t 8 (.call [5]) [6,7] [0,1],
 u 9 (.load v7) [2],
 u 10 (.load b6) [4],
 t 11 (.call [6]) [9,10] [2,3,4],
 y 12 103 [7] [8,11] [5],
 t 5 .mv [12] [6]])
 .ret)⟩
def mL:DFun:=⟨12,4,[.p,.p],[.o 49],[.t 4],
 q (F [
 u 3 (.box 2) [1],
 o 4 (.mv) [(.c (.zs 49 true))] []])
 (q (F [
 m 6 0,
 y 7 100 [3] [6] [],
 m 5 7])
 (q (F [
 m 8 5,
 u 9 (.xR 102) [3],
 y 10 101 [] [8,9] []])
 (q (F [
 m 11 5,
 m 4 11])
 .ret)))⟩
def lu:DFun:=⟨5,3,[.p],[.p cC],[.c 2],
 q (F [
 u 1 (.box 1) [0],
 u 2 (.alloc 2 yM) []])
 (q (F [
 u 3 (.aR 0) [1],
 u 4 (.load cC) [3],
 ⟨none,.store cC,[(.t 2),(.t 4)],[],none⟩])
 .ret)⟩
def lv:DFun:=⟨7,2,[.p],[.p v0],[.t 2],
 q (F [
 u 1 (.box 1) [0],
 o 2 (.mv) [(.c (.bool false))] []])
 (q (F [
 u 3 (.aR 0) [1],
 u 4 (.aR 0) [3],
 u 5 (.load v6) [4],
 o 6 (.bin .eql) [(.t 5),(.c (.int .u8 6))] [],
 m 2 6])
 .ret)⟩
def nT:DFun:=⟨43,7,[.p,.p,.p],[.p v1,.p v1],[.t 6,.t 7],
 q (F [
 u 4 (.box 3) [1],
 i 6 0,
 i 7 0])
 (q (q (F [
 m 9 0,
 u 10 (.load v5) [4],
 y 11 55 [4] [9,10] [],
 u 12 .not [11],
 m 13 12,
 g 14 (.mv) [2] [] 13 false,
 ⟨some 15,.bin .lss,[(.t 14),(.c (.int .i64 0))],[],some (13,false)⟩,
 o 16 (.pick) [(.t 13),(.c (.bool true)),(.t 15)] [],
 m 17 16,
 g 18 (.mv) [2] [] 17 false,
 g 19 (.mv) [0] [] 17 false,
 ⟨some 20,.call [5],[(.c (.fn 88 [])),(.t 19)],[],some (17,false)⟩,
 g 21 (.bin .geq) [18,20] [] 17 false,
 o 22 (.pick) [(.t 17),(.c (.bool true)),(.t 21)] []])
 (.cond (.t 22) (q (F [
 i 6 0,
 i 7 2])
 .ret) .skip))
 (q (F [
 m 23 0,
 y 24 88 [6] [23] [],
 o 25 (.bin .sub) [(.t 24),(.c (.int .i64 1))] [],
 m 26 2,
 u 27 (.bin .sub) [25,26],
 m 8 27])
 (q (q (F [
 m 28 8,
 o 29 (.bin .geq) [(.t 28),(.c (.int .i64 64))] []])
 (.cond (.t 29) (q (F [
 u 30 (.aR 0) [4],
 u 31 (.load v4) [30],
 m 32 8,
 o 33 (.bin .sub) [(.t 32),(.c (.int .i64 64))] [],
 u 34 (.bin .shr) [31,33],
 o 35 (.bin .and) [(.t 34),(.c (.int .u64 1))] [],
 u 36 (.conv .i64) [35],
 m 6 36,
 i 7 0])
 .ret) .skip))
 (q (F [
 u 37 (.aR 1) [4],
 u 38 (.load v4) [37],
 m 39 8,
 u 40 (.bin .shr) [38,39],
 o 41 (.bin .and) [(.t 40),(.c (.int .u64 1))] [],
 u 42 (.conv .i64) [41],
 m 6 42,
 i 7 0])
 .ret))))⟩
def rF:DFun:=⟨19,5,[.p,.p],[.p v1],[.t 4],
 q (F [
 u 2 (.box 2) [0],
 i 4 0])
 (q (F [
 u 8 (.aR 0) [2],
 u 9 (.load v6) [8],
 u 10 (.aR 1) [2],
 u 11 (.load v5) [10],
 m 12 1,
 y 13 60 [3,4] [9,11,12] [],
 m 7 13,
 u 14 (.ext 0) [7],
 u 15 (.ext 1) [7],
 m 5 14,
 m 6 15])
 (q (q (F [
 m 16 6,
 o 17 (.bin .neq) [(.t 16),(.c (.int .i64 0))] []])
 (.cond (.t 17) (q (F [
 i 4 0])
 .ret) .skip))
 (q (F [
 m 18 5,
 m 4 18])
 .ret)))⟩
def nU:DFun:=⟨31,9,[.p,.p,.p],[.p cC,.p v1],[.c 6,.t 7],
 q (F [
 u 4 (.box 3) [1],
 u 6 (.alloc 4 yM) [],
 i 7 0])
 (q (q (F [
 m 8 0,
 u 9 (.load v5) [4],
 y 10 55 [5] [8,9] [],
 u 11 .not [10],
 m 12 11,
 g 13 (.mv) [2] [] 12 false,
 ⟨some 14,.bin .lss,[(.t 13),(.c (.int .i64 0))],[],some (12,false)⟩,
 o 15 (.pick) [(.t 12),(.c (.bool true)),(.t 14)] [],
 m 16 15,
 g 17 (.mv) [2] [] 16 false,
 g 18 (.mv) [0] [] 16 false,
 ⟨some 19,.call [6],[(.c (.fn 88 [])),(.t 18)],[],some (16,false)⟩,
 g 20 (.bin .gtr) [17,19] [] 16 false,
 o 21 (.pick) [(.t 16),(.c (.bool true)),(.t 20)] []])
 (.cond (.t 21) (q (F [
 u 22 (.build yM []) [],
 ⟨none,.store cC,[(.t 6),(.t 22)],[],none⟩,
 i 7 2])
 .ret) .skip))
 (q (T [
 m 23 0,
 u 24 (.load v5) [4],
 m 25 0,
 m 26 2,
 y 27 64 [7] [25,26] [2,3],
 y 28 63 [8] [24,27] [1,4],
 m 29 2,
 t 30 (.build yM [(0,1),(1,2),(3,1)]) [23,28,29] [0,5,6],
 ⟨none,.store cC,[(.t 6),(.t 30)],[7],none⟩,
 o 7 (.mv) [(.c (.int .i64 0))] [8]])
 .ret))⟩
def nV:DFun:=⟨36,10,[.p,.p],[.p cC],[.c 4],
 q (F [
 u 2 (.box 2) [0],
 u 3 (.box 3) [1],
 u 4 (.alloc 4 yM) []])
 (q (F [
 i 5 0])
 (q (.block 0 (.loop ⟨[2,3,4],[(5,.p v1)],[(2,.v [.p (.int .u8),.p (.int .u64),.p (.int .u64),.p (.int .i64)]),(3,.v [.p (.int .u8),.p (.int .u64),.p (.int .u64),.p (.int .i64)]),(4,.v [.p (.int .u8),.p (.int .u64),.p (.int .u64),.p (.int .i64)])]⟩ (q (q (T [
 m 8 5,
 u 9 (.aR 3) [2],
 t 10 (.load v1) [9] [1],
 u 11 (.aR 3) [3],
 t 12 (.load v1) [11] [3],
 t 13 .mn [10,12] [2,4],
 t 14 (.bin .lss) [8,13] [0,5],
 t 15 .mv [14] [6],
 g 16 (.load cC) [2] [7] 15 true,
 g 17 (.mv) [5] [7] 15 true,
 ⟨some 18,.call [6],[(.c (.fn 86 [])),(.t 16),(.t 17)],[8,9],some (15,true)⟩,
 g 19 (.load cC) [3] [7] 15 true,
 g 20 (.mv) [5] [7] 15 true,
 ⟨some 21,.call [7],[(.c (.fn 86 [])),(.t 19),(.t 20)],[10,11,12],some (15,true)⟩,
 g 22 (.bin .eql) [18,21] [13] 15 true,
 o 23 (.pick) [(.t 15),(.t 22),(.c (.bool false))] [14]])
 (.cond (.t 23) .skip (.exit 0)))
 (.block 1 (F [
 m 24 5,
 o 25 (.bin .add) [(.t 24),(.c (.int .i64 1))] [],
 m 5 25])))))
 (q (F [
 u 27 (.aR 0) [2],
 u 28 (.load v6) [27],
 u 29 (.aR 1) [2],
 u 30 (.load v5) [29],
 m 31 5,
 y 32 115 [8,9] [28,30,31] [],
 m 26 32,
 u 33 (.ext 0) [26],
 u 34 (.ext 1) [26],
 u 6 (.alloc 5 yM) [],
 ⟨none,.store cC,[(.t 6),(.t 33)],[],none⟩,
 m 7 34])
 (q (F [
 u 35 (.load cC) [6],
 ⟨none,.store cC,[(.t 4),(.t 35)],[],none⟩])
 .ret))))⟩
def kC:DFun:=⟨10,4,[.p,.p],[.p v0],[.t 3],
 q (F [
 u 2 (.box 2) [0],
 o 3 (.mv) [(.c (.bool false))] []])
 (q (F [
 u 4 (.aR 0) [2],
 u 5 (.load cC) [4],
 u 6 (.aR 3) [1],
 u 7 (.load v1) [6],
 y 8 86 [3] [5,7] [],
 o 9 (.bin .eql) [(.t 8),(.c (.int .i64 1))] [],
 m 3 9])
 .ret)⟩
def mM:DFun:=⟨74,12,[.p,.p,.p],[.p v1],[.t 4],
 q (F [
 i 4 0])
 (q (q (F [
 m 10 0,
 u 11 .len [10],
 o 12 (.bin .eql) [(.t 11),(.c (.int .i64 0))] []])
 (.cond (.t 12) (q (F [
 i 4 (-1)])
 .ret) .skip))
 (q (T [
 m 13 0,
 o 14 (.aA 49) [(.t 13),(.c (.int .i64 0))] [0],
 t 15 (.aR 0) [14] [1],
 t 16 (.load cC) [15] [2],
 m 17 0,
 m 18 0,
 t 19 .len [18] [5],
 o 20 (.bin .sub) [(.t 19),(.c (.int .i64 1))] [6],
 t 21 (.aA 49) [17,20] [4,7],
 t 22 (.aR 0) [21] [8],
 t 23 (.load cC) [22] [9],
 y 24 105 [7] [16,23] [3,10],
 u 5 (.alloc 4 yM) [],
 ⟨none,.store cC,[(.t 5),(.t 24)],[11,12],none⟩])
 (q (F [
 u 25 (.load v3) [1],
 u 26 .len [25],
 m 6 26])
 (q (F [
 u 27 (.load v3) [1],
 u 28 (.load cC) [5],
 u 29 (.build Fo [(0,4)]) [28],
 u 30 (.bn 5 69) [29],
 u 31 (.append 6 69 72) [27,30],
 ⟨none,.store v3,[(.t 1),(.t 31)],[],none⟩])
 (q (q (T [
 m 32 0,
 o 33 (.aA 49) [(.t 32),(.c (.int .i64 0))] [0],
 t 34 (.aR 0) [33] [1],
 t 35 (.load cC) [34] [2],
 u 36 (.load cC) [5],
 t 37 (.eqv false cC) [35,36] [3,4]])
 (.cond (.t 37) (q (T [
 u 38 (.load v3) [1],
 m 39 6,
 m 40 0,
 o 41 (.aA 49) [(.t 40),(.c (.int .i64 0))] [2],
 t 42 (.aR 4) [41] [3],
 t 43 (.load v2) [42] [4],
 y 44 52 [8] [43] [5],
 t 45 (.aA 69) [38,39] [0,1,6],
 t 46 (.aR 4) [45] [7],
 ⟨none,.store v2,[(.t 46),(.t 44)],[8],none⟩])
 (F [
 m 47 0,
 o 48 (.slice (some 49) true false false) [(.t 47),(.c (.int .i64 1))] [],
 m 0 48])) .skip))
 (q (F [
 m 49 0,
 u 50 (.xR 106) [5],
 y 51 66 [9] [49,50] [],
 m 7 51])
 (q (q (F [
 m 52 7,
 o 53 (.bin .lss) [(.t 52),(.c (.int .i64 0))] []])
 (.cond (.t 53) (F [
 m 54 0,
 u 55 .len [54],
 m 7 55]) .skip))
 (q (T [
 u 56 (.load v7) [2],
 m 57 0,
 m 58 7,
 t 59 (.slice (some 49) false true false) [57,58] [1,2],
 t 60 (.ku 10 6) [56,59] [0,3],
 t 8 .mv [60] [4]])
 (q (T [
 u 61 (.load v7) [2],
 m 62 0,
 m 63 7,
 t 64 (.slice (some 49) true false false) [62,63] [1,2],
 t 65 (.ku 11 10) [61,64] [0,3],
 t 9 .mv [65] [4]])
 (q (F [
 u 66 (.load v3) [1],
 m 67 6,
 m 68 8,
 m 69 9,
 u 70 (.build [(D.int .i64 0),(D.int .i64 0)] [(0,1),(1,1)]) [68,69],
 u 71 (.aA 69) [66,67],
 u 72 (.aR 5) [71],
 ⟨none,.store v8,[(.t 72),(.t 70)],[],none⟩])
 (q (F [
 m 73 6,
 m 4 73])
 .ret)))))))))))⟩
def pU:DFun:=⟨10,4,[.p],[.o 69],[.t 2],
 q (F [
 o 2 (.mv) [(.c (.zs 69 true))] []])
 (q (F [
 u 3 (.alloc 1 [(D.zs 69 true)]) []])
 (q (F [
 u 4 (.alloc 2 [D.nilfn]) []])
 (q (F [
 u 5 (.BV 104) [3,4],
 ⟨none,.store v7,[(.t 4),(.t 5)],[],none⟩])
 (q (F [
 u 6 (.load v7) [4],
 m 7 0,
 u 8 (.ku 3 1000000) [6,7]])
 (q (F [
 u 9 (.load v3) [3],
 m 2 9])
 .ret)))))⟩
def nW:DFun:=⟨21,6,[.p],[.p v9],[.c 2],
 q (F [
 u 2 (.alloc 1 [(D.zs 69 true),(D.zs 69 true)]) []])
 (q (F [
 m 4 0,
 o 5 (.call [2]) [(.c (.fn 80 [])),(.t 4),(.c (.fn 81 []))] [],
 m 0 5])
 (q (F [
 m 6 0,
 o 7 (.call [3]) [(.c (.fn 66 [])),(.t 6),(.c (.fn 82 []))] [],
 m 3 7])
 (q (q (F [
 m 8 3,
 o 9 (.bin .lss) [(.t 8),(.c (.int .i64 0))] []])
 (.cond (.t 9) (F [
 m 10 0,
 u 11 .len [10],
 m 3 11]) .skip))
 (q (T [
 m 12 0,
 m 13 3,
 t 14 (.slice (some 49) false true false) [12,13] [0,1],
 y 15 83 [4] [14] [2],
 m 16 0,
 m 17 3,
 t 18 (.slice (some 49) true false false) [16,17] [4,5],
 y 19 83 [5] [18] [3,6],
 t 20 (.build [(D.zs 69 true),(D.zs 69 true)] [(0,1),(1,1)]) [15,19] [7],
 ⟨none,.store v9,[(.t 2),(.t 20)],[8],none⟩])
 .ret))))⟩
def iG:DFun:=⟨32,6,[.p,.p,.p],[.p v0],[.t 6],
 q (F [
 o 6 (.mv) [(.c (.bool false))] []])
 (q (q (F [
 m 10 0,
 u 11 .len [10],
 m 12 1,
 u 13 .len [12],
 u 14 (.bin .neq) [11,13]])
 (.cond (.t 14) (q (F [
 o 6 (.mv) [(.c (.bool false))] []])
 .ret) .skip))
 (q (q (F [
 m 15 0,
 u 16 .len [15],
 i 17 0])
 (.block 0 (.loop ⟨[1,2,15,16],[(17,.p v1)],[]⟩ (q (F [
 u 18 (.bin .lss) [17,16]])
 (q (.cond (.t 18) .skip (.exit 0))
 (q (.block 1 (q (F [
 m 19 17,
 u 20 (.aA 69) [15,17],
 u 21 (.load zU) [20],
 u 8 (.alloc 3 Fo) [],
 m 7 19,
 ⟨none,.store zU,[(.t 8),(.t 21)],[],none⟩])
 (q (F [
 m 22 1,
 m 23 7,
 u 24 (.aA 69) [22,23],
 u 25 (.load zU) [24],
 u 9 (.alloc 4 Fo) [],
 ⟨none,.store zU,[(.t 9),(.t 25)],[],none⟩])
 (q (F [
 m 26 2,
 u 27 (.load zU) [8],
 u 28 (.load zU) [9],
 u 29 (.call [5]) [26,27,28],
 u 30 .not [29]])
 (.cond (.t 30) (q (F [
 o 6 (.mv) [(.c (.bool false))] []])
 .ret) .skip)))))
 (F [
 o 31 (.bin .add) [(.t 17),(.c (.int .i64 1))] [],
 m 17 31])))))))
 (q (F [
 o 6 (.mv) [(.c (.bool true))] []])
 .ret)))⟩
def lz:DFun:=⟨26,2,[.p,.p],[.p v0],[.t 4],
 q (F [
 o 4 (.mv) [(.c (.bool false))] []])
 (q (q (F [
 m 6 0,
 u 7 .len [6],
 m 8 1,
 u 9 .len [8],
 u 10 (.bin .neq) [7,9]])
 (.cond (.t 10) (q (F [
 o 4 (.mv) [(.c (.bool false))] []])
 .ret) .skip))
 (q (q (F [
 m 11 0,
 u 12 .len [11],
 i 13 0])
 (.block 0 (.loop ⟨[0,1,12],[(13,.p v1)],[]⟩ (q (F [
 u 14 (.bin .lss) [13,12]])
 (q (.cond (.t 14) .skip (.exit 0))
 (q (.block 1 (q (F [
 m 15 13,
 m 5 15])
 (q (T [
 m 16 0,
 m 17 5,
 t 18 (.aA 3) [16,17] [0,1],
 t 19 (.load v1) [18] [2],
 m 20 1,
 m 21 5,
 t 22 (.aA 3) [20,21] [4,5],
 t 23 (.load v1) [22] [6],
 t 24 (.bin .neq) [19,23] [3,7]])
 (.cond (.t 24) (q (F [
 o 4 (.mv) [(.c (.bool false))] []])
 .ret) .skip))))
 (F [
 o 25 (.bin .add) [(.t 13),(.c (.int .i64 1))] [],
 m 13 25])))))))
 (q (F [
 o 4 (.mv) [(.c (.bool true))] []])
 .ret)))⟩
def kD:DFun:=⟨24,5,[.p,.p],[.p v0],[.t 4],
 q (F [
 u 2 (.box 2) [0],
 u 3 (.box 3) [1],
 o 4 (.mv) [(.c (.bool false))] []])
 (q (F [
 u 5 (.aR 0) [2],
 u 6 (.load cC) [5],
 u 7 (.aR 0) [3],
 u 8 (.load cC) [7],
 u 9 (.eqv false cC) [6,8],
 m 10 9,
 g 11 (.aR 5) [2] [] 10 true,
 g 12 (.load v8) [11] [] 10 true,
 g 13 (.aR 5) [3] [] 10 true,
 g 14 (.load v8) [13] [] 10 true,
 g 15 (.eqv false v8) [12,14] [] 10 true,
 o 16 (.pick) [(.t 10),(.t 15),(.c (.bool false))] [],
 m 17 16,
 g 18 (.aR 4) [2] [] 17 true,
 g 19 (.load v2) [18] [] 17 true,
 g 20 (.aR 4) [3] [] 17 true,
 g 21 (.load v2) [20] [] 17 true,
 ⟨some 22,.call [4],[(.c (.fn 84 [])),(.t 19),(.t 21)],[],some (17,true)⟩,
 o 23 (.pick) [(.t 17),(.t 22),(.c (.bool false))] [],
 m 4 23])
 .ret)⟩
def nX:DFun:=⟨36,8,[.p],[.p v1],[.t 2],
 q (F [
 u 1 (.box 1) [0],
 i 2 0])
 (q (q (F [
 u 5 (.aR 0) [1],
 u 6 (.load v3) [5],
 u 7 .len [6],
 o 8 (.bin .gtr) [(.t 7),(.c (.int .i64 4000))] [],
 m 9 8,
 g 10 (.aR 1) [1] [] 9 false,
 g 11 (.load v3) [10] [] 9 false,
 g 12 (.len) [11] [] 9 false,
 ⟨some 13,.bin .gtr,[(.t 12),(.c (.int .i64 4000))],[],some (9,false)⟩,
 o 14 (.pick) [(.t 9),(.c (.bool true)),(.t 13)] []])
 (.cond (.t 14) (q (F [
 i 2 4])
 .ret) .skip))
 (q (F [
 u 15 (.load v9) [1],
 y 16 42 [3] [15] [],
 m 3 16])
 (q (q (F [
 m 17 3,
 y 18 37 [4] [17] [],
 o 19 (.bin .neq) [(.t 18),(.c (.int .i64 0))] []])
 (.cond (.t 19) (q (F [
 i 2 8])
 .ret) .skip))
 (q (F [
 m 20 3,
 y 21 46 [5] [20] [],
 u 4 (.alloc 2 [(D.zs 69 true),(D.zs 69 true)]) [],
 ⟨none,.store v9,[(.t 4),(.t 21)],[],none⟩])
 (q (q (F [
 u 22 (.aR 0) [1],
 u 23 (.load v3) [22],
 u 24 (.aR 0) [4],
 u 25 (.load v3) [24],
 o 26 (.call [6]) [(.c (.fn 47 [])),(.t 23),(.t 25),(.c (.fn 48 []))] [],
 u 27 .not [26],
 m 28 27,
 g 29 (.aR 1) [1] [] 28 false,
 g 30 (.load v3) [29] [] 28 false,
 g 31 (.aR 1) [4] [] 28 false,
 g 32 (.load v3) [31] [] 28 false,
 ⟨some 33,.call [7],[(.c (.fn 47 [])),(.t 30),(.t 32),(.c (.fn 48 []))],[],some (28,false)⟩,
 g 34 (.not) [33] [] 28 false,
 o 35 (.pick) [(.t 28),(.c (.bool true)),(.t 34)] []])
 (.cond (.t 35) (q (F [
 i 2 8])
 .ret) .skip))
 (q (F [
 i 2 0])
 .ret))))))⟩
def pV:DFun:=⟨13,6,[.p,.p],[.p v1],[.t 4],
 q (F [
 u 2 (.box 2) [0],
 u 3 (.box 3) [1],
 i 4 0])
 (q (F [
 u 6 (.load v9) [2],
 y 7 18 [4] [6] [],
 m 5 7])
 (q (q (F [
 m 8 5,
 o 9 (.bin .eql) [(.t 8),(.c (.int .i64 0))] []])
 (.cond (.t 9) (F [
 u 10 (.load cC) [3],
 y 11 62 [5] [10] [],
 m 5 11]) .skip))
 (q (F [
 m 12 5,
 m 4 12])
 .ret)))⟩
def kE:DFun:=⟨38,8,[.p,.p],[.p v0],[.t 4],
 q (F [
 u 2 (.box 2) [0],
 u 3 (.box 3) [1],
 o 4 (.mv) [(.c (.bool false))] []])
 (q (q (F [
 u 5 (.load cC) [2],
 y 6 62 [4] [5] [],
 o 7 (.bin .neq) [(.t 6),(.c (.int .i64 0))] [],
 m 8 7,
 g 9 (.load cC) [3] [] 8 false,
 ⟨some 10,.call [5],[(.c (.fn 62 [])),(.t 9)],[],some (8,false)⟩,
 ⟨some 11,.bin .neq,[(.t 10),(.c (.int .i64 0))],[],some (8,false)⟩,
 o 12 (.pick) [(.t 8),(.c (.bool true)),(.t 11)] [],
 m 13 12,
 g 14 (.aR 0) [2] [] 13 false,
 g 15 (.load v6) [14] [] 13 false,
 g 16 (.aR 0) [3] [] 13 false,
 g 17 (.load v6) [16] [] 13 false,
 g 18 (.bin .neq) [15,17] [] 13 false,
 o 19 (.pick) [(.t 13),(.c (.bool true)),(.t 18)] [],
 m 20 19,
 g 21 (.aR 3) [2] [] 20 false,
 g 22 (.load v1) [21] [] 20 false,
 g 23 (.aR 3) [3] [] 20 false,
 g 24 (.load v1) [23] [] 20 false,
 g 25 (.bin .gtr) [22,24] [] 20 false,
 o 26 (.pick) [(.t 20),(.c (.bool true)),(.t 25)] []])
 (.cond (.t 26) (q (F [
 o 4 (.mv) [(.c (.bool false))] []])
 .ret) .skip))
 (q (T [
 u 27 (.aR 1) [3],
 t 28 (.load v5) [27] [0],
 u 29 (.aR 0) [2],
 t 30 (.load v6) [29] [2],
 u 31 (.aR 3) [2],
 t 32 (.load v1) [31] [4],
 y 33 64 [6] [30,32] [3,5],
 y 34 63 [7] [28,33] [1,6],
 u 35 (.aR 1) [2],
 t 36 (.load v5) [35] [8],
 t 37 (.eqv false v5) [34,36] [7,9],
 t 4 .mv [37] [10]])
 .ret))⟩
def rG:DFun:=⟨6,4,[.p,.p],[.p ⟨false,[.GJ 85]⟩],[.t 4],
 q (F [
 u 2 (.box 2) [0],
 u 3 (.box 3) [1],
 o 4 (.mv) [(.c D.nilfn)] []])
 (q (F [
 u 5 (.xR 85) [2,3],
 m 4 5])
 .ret)⟩
def nY:DFun:=⟨11,3,[.p,.p],[.p v3],[.t 4],
 q (F [
 u 2 (.box 2) [0],
 o 4 (.mv) [(.c (.zs 69 true))] []])
 (q (q (F [
 m 5 1,
 o 6 (.bin .eql) [(.t 5),(.c (.int .u8 4))] []])
 (.cond (.t 6) (q (F [
 u 7 (.aR 0) [2],
 u 8 (.load v3) [7],
 m 4 8])
 .ret) .skip))
 (q (F [
 u 9 (.aR 1) [2],
 u 10 (.load v3) [9],
 m 4 10])
 .ret))⟩
def h_:DFun:=⟨51,8,[.p,.p,.p],[],[],
 q (F [
 i 4 0])
 (q (q (F [
 u 5 (.load v3) [1],
 u 6 .len [5],
 o 7 (.bin .eql) [(.t 6),(.c (.int .i64 0))] []])
 (.cond (.t 7) (F [
 i 4 (-1)]) .skip))
 (.block 0 (.loop ⟨[0,1,2],[(4,.p v1)],[(1,.v [.o 4 49])]⟩ (q (q (T [
 m 8 4,
 o 9 (.bin .geq) [(.t 8),(.c (.int .i64 0))] [0],
 t 10 .mv [9] [1],
 g 11 (.load v3) [1] [2] 10 true,
 g 12 (.mv) [4] [2] 10 true,
 g 13 (.aA 69) [11,12] [3,4] 10 true,
 g 14 (.aR 0) [13] [5] 10 true,
 g 15 (.load cC) [14] [6] 10 true,
 g 16 (.load cC) [2] [2] 10 true,
 ⟨some 17,.call [5],[(.c (.fn 29 [])),(.t 15),(.t 16)],[7,8],some (10,true)⟩,
 o 18 (.pick) [(.t 10),(.t 17),(.c (.bool false))] [9]])
 (.cond (.t 18) .skip (.exit 0)))
 (.block 1 (q (q (T [
 m 19 0,
 u 20 (.load v3) [1],
 m 21 4,
 t 22 (.aA 69) [20,21] [1,2],
 t 23 (.load zU) [22] [3],
 t 24 (.yld 6 4) [19,23] [0,4],
 t 25 .not [24] [5],
 t 26 .mv [25] [6],
 g 27 (.load v3) [1] [7] 26 false,
 g 28 (.mv) [4] [7] 26 false,
 g 29 (.aA 69) [27,28] [8,9] 26 false,
 g 30 (.aR 0) [29] [10] 26 false,
 g 31 (.aR 3) [30] [11] 26 false,
 g 32 (.load v1) [31] [12] 26 false,
 g 33 (.aR 3) [2] [7] 26 false,
 g 34 (.load v1) [33] [14] 26 false,
 g 35 (.bin .geq) [32,34] [13,15] 26 false,
 o 36 (.pick) [(.t 26),(.c (.bool true)),(.t 35)] [16]])
 (.cond (.t 36) .ret .skip))
 (T [
 u 37 (.load v3) [1],
 m 38 4,
 u 39 (.load cC) [2],
 u 40 (.load v3) [1],
 m 41 4,
 t 42 (.aA 69) [40,41] [3,4],
 t 43 (.aR 0) [42] [5],
 t 44 (.aR 3) [43] [6],
 t 45 (.load v1) [44] [7],
 y 46 86 [7] [39,45] [2,8],
 t 47 (.aA 69) [37,38] [0,1],
 t 48 (.aR 5) [47] [10],
 t 49 (.Ar 2) [48,46] [9,11],
 t 50 (.load v1) [49] [12],
 t 4 .mv [50] [13]])))))))⟩
def cQ:RBody:=⟨36,15,21,7,
 F [
 u 8 (.alloc 7 Fo) [],
 ⟨none,.store zU,[(.t 8),(.t 21)],[],none⟩],
 .block 1 (q (F [
 u 22 (.aR 4) [8],
 u 23 (.load v2) [22],
 u 24 .len [23],
 o 25 (.bin .gtr) [(.t 24),(.c (.int .i64 0))] []])
 (.cond (.t 25) (T [
 u 26 (.load JZ) [7],
 u 27 (.aR 0) [8],
 t 28 (.load cC) [27] [1],
 u 29 (.aR 4) [8],
 t 30 (.load v2) [29] [3],
 y 31 52 [14] [30] [4],
 t 32 (.build xO [(0,4),(4,1)]) [28,31] [2,5],
 t 33 (.bn 8 49) [32] [6],
 t 34 (.append 9 49 56) [26,33] [0,7],
 ⟨none,.store JZ,[(.t 7),(.t 34)],[8],none⟩]) .skip))⟩
def jL:RfFun:=⟨36,15,[.p,.p],[.o 49,.p v1],[.t 4,.t 5],
 [F [
 u 2 (.box 4) [0],
 u 3 (.box 5) [1],
 o 4 (.mv) [(.c (.zs 49 true))] [],
 i 5 0],
 F [
 u 9 (.load v9) [2],
 u 10 (.load cC) [3],
 y 11 49 [10] [9,10] [],
 m 6 11],
 q (F [
 m 12 6,
 o 13 (.bin .neq) [(.t 12),(.c (.int .i64 0))] []])
 (.cond (.t 13) (q (F [
 m 14 6,
 o 4 (.mv) [(.c (.zs 49 true))] [],
 m 5 14])
 .ret) .skip),
 F [
 u 7 (.alloc 6 [(D.zs 49 true)]) []]],
 T [
 u 15 (.load v9) [2],
 u 16 (.aR 0) [3],
 t 17 (.load v6) [16] [1],
 y 18 51 [11] [15,17] [0,2],
 u 19 (.load cC) [3],
 y 20 50 [12] [18,19] [3,4]],
 20,85,h_,49,cQ,13,
 q (F [
 u 35 (.load JZ) [7],
 m 4 35,
 i 5 0])
 .ret⟩
def eb:DFun:=⟨55,3,[.p,.p],[.p v0],[.t 4],
 q (F [
 o 4 (.mv) [(.c (.bool false))] []])
 (q (q (F [
 m 6 0,
 u 7 .len [6],
 m 8 1,
 u 9 .len [8],
 u 10 (.bin .neq) [7,9]])
 (.cond (.t 10) (q (F [
 o 4 (.mv) [(.c (.bool false))] []])
 .ret) .skip))
 (q (q (F [
 i 5 0])
 (.block 0 (.loop ⟨[0,1],[(5,.p v1)],[]⟩ (q (q (F [
 m 11 5,
 m 12 0,
 u 13 .len [12],
 u 14 (.bin .lss) [11,13]])
 (.cond (.t 14) .skip (.exit 0)))
 (q (.block 1 (q (T [
 m 17 0,
 m 18 5,
 t 19 (.aA 69) [17,18] [0,1],
 t 20 (.aR 0) [19] [2],
 t 21 (.load cC) [20] [3],
 m 22 1,
 m 23 5,
 t 24 (.aA 69) [22,23] [5,6],
 t 25 (.aR 0) [24] [7],
 t 26 (.load cC) [25] [8],
 t 27 (.eqv true cC) [21,26] [4,9],
 t 28 .mv [27] [10],
 g 29 (.mv) [0] [11] 28 false,
 g 30 (.mv) [5] [11] 28 false,
 g 31 (.aA 69) [29,30] [12,13] 28 false,
 g 32 (.aR 5) [31] [14] 28 false,
 g 33 (.load v8) [32] [15] 28 false,
 g 34 (.mv) [1] [11] 28 false,
 g 35 (.mv) [5] [11] 28 false,
 g 36 (.aA 69) [34,35] [17,18] 28 false,
 g 37 (.aR 5) [36] [19] 28 false,
 g 38 (.load v8) [37] [20] 28 false,
 g 39 (.eqv true v8) [33,38] [16,21] 28 false,
 o 40 (.pick) [(.t 28),(.c (.bool true)),(.t 39)] [22],
 t 41 .mv [40] [23],
 g 42 (.mv) [0] [24] 41 false,
 g 43 (.mv) [5] [24] 41 false,
 g 44 (.aA 69) [42,43] [25,26] 41 false,
 g 45 (.aR 4) [44] [27] 41 false,
 g 46 (.load v2) [45] [28] 41 false,
 g 47 (.mv) [1] [24] 41 false,
 g 48 (.mv) [5] [24] 41 false,
 g 49 (.aA 69) [47,48] [30,31] 41 false,
 g 50 (.aR 4) [49] [32] 41 false,
 g 51 (.load v2) [50] [33] 41 false,
 ⟨some 52,.call [2],[(.c (.fn 45 [])),(.t 46),(.t 51)],[29,34],some (41,false)⟩,
 g 53 (.not) [52] [35] 41 false,
 o 54 (.pick) [(.t 41),(.c (.bool true)),(.t 53)] [36]])
 (.cond (.t 54) (q (F [
 o 4 (.mv) [(.c (.bool false))] []])
 .ret) .skip)))
 (F [
 m 15 5,
 o 16 (.bin .add) [(.t 15),(.c (.int .i64 1))] [],
 m 5 16]))))))
 (q (F [
 o 4 (.mv) [(.c (.bool true))] []])
 .ret)))⟩
def gg:DFun:=⟨17,6,[.p,.p],[.p v0],[.t 4],
 q (F [
 u 2 (.box 2) [0],
 u 3 (.box 3) [1],
 o 4 (.mv) [(.c (.bool false))] []])
 (q (F [
 u 5 (.aR 0) [2],
 u 6 (.load v3) [5],
 u 7 (.aR 0) [3],
 u 8 (.load v3) [7],
 y 9 44 [4] [6,8] [],
 m 10 9,
 g 11 (.aR 1) [2] [] 10 true,
 g 12 (.load v3) [11] [] 10 true,
 g 13 (.aR 1) [3] [] 10 true,
 g 14 (.load v3) [13] [] 10 true,
 ⟨some 15,.call [5],[(.c (.fn 44 [])),(.t 12),(.t 14)],[],some (10,true)⟩,
 o 16 (.pick) [(.t 10),(.t 15),(.c (.bool false))] [],
 m 4 16])
 .ret)⟩
def ec:DFun:=⟨17,3,[.p,.p],[.p v0],[.t 4],
 q (F [
 u 3 (.box 2) [1],
 o 4 (.mv) [(.c (.bool false))] []])
 (q (q (F [
 m 5 0,
 o 6 (.bin .eql) [(.t 5),(.c (.int .u8 4))] []])
 (.cond (.t 6) (q (F [
 u 7 (.aR 0) [3],
 u 8 (.load v4) [7],
 o 9 (.bin .eql) [(.t 8),(.c (.int .u64 0))] [],
 m 10 9,
 g 11 (.aR 1) [3] [] 10 true,
 g 12 (.load v4) [11] [] 10 true,
 ⟨some 13,.bin .leq,[(.t 12),(.c (.int .u64 4294967295))],[],some (10,true)⟩,
 o 14 (.pick) [(.t 10),(.t 13),(.c (.bool false))] [],
 m 4 14])
 .ret) .skip))
 (q (F [
 m 15 0,
 o 16 (.bin .eql) [(.t 15),(.c (.int .u8 6))] [],
 m 4 16])
 .ret))⟩
def fF:DFun:=⟨7,1,[.p],[.p v1],[.t 2],
 q (F [
 i 2 0])
 (q (q (F [
 m 3 0,
 o 4 (.bin .eql) [(.t 3),(.c (.int .u8 4))] []])
 (.cond (.t 4) (q (F [
 i 2 32])
 .ret) .skip))
 (q (q (F [
 m 5 0,
 o 6 (.bin .eql) [(.t 5),(.c (.int .u8 6))] []])
 (.cond (.t 6) (q (F [
 i 2 128])
 .ret) .skip))
 (q (F [
 i 2 0])
 .ret)))⟩
def fG:DFun:=⟨14,1,[.p],[.p v4],[.t 2],
 q (F [
 o 2 (.mv) [(.c (.int .u64 0))] []])
 (q (F [
 o 3 (.mv) [(.c (.int .u64 1))] []])
 (q (q (F [
 i 4 0])
 (.block 0 (.loop ⟨[0],[(3,.p v4),(4,.p v1)],[]⟩ (q (q (F [
 m 5 4,
 m 6 0,
 u 7 (.bin .lss) [5,6]])
 (.cond (.t 7) .skip (.exit 0)))
 (q (.block 1 (F [
 m 10 3,
 m 11 3,
 u 12 (.bin .add) [10,11],
 m 3 12]))
 (F [
 m 8 4,
 o 9 (.bin .add) [(.t 8),(.c (.int .i64 1))] [],
 m 4 9]))))))
 (q (F [
 m 13 3,
 m 2 13])
 .ret)))⟩
def gk:DFun:=⟨39,8,[.p,.p],[.o 3],[.t 4],
 q (F [
 u 3 (.box 2) [1],
 o 4 (.mv) [(.c (.zs 3 true))] []])
 (q (F [
 o 5 (.mv) [(.c (.zs 3 true))] []])
 (q (F [
 m 10 0,
 y 11 58 [5] [10] [],
 m 6 11])
 (q (q (F [
 i 7 0])
 (.block 0 (.loop ⟨[3,6],[(5,.o 6 3),(7,.p v1)],[(2,.v [.p (.int .u64),.p (.int .u64)])]⟩ (q (q (F [
 m 12 7,
 m 13 6,
 u 14 (.bin .lss) [12,13]])
 (.cond (.t 14) .skip (.exit 0)))
 (q (.block 1 (q (F [
 m 17 6,
 o 18 (.bin .sub) [(.t 17),(.c (.int .i64 1))] [],
 m 19 7,
 u 20 (.bin .sub) [18,19],
 m 8 20])
 (q (F [
 u 21 (.aR 1) [3],
 u 22 (.load v4) [21],
 m 9 22])
 (q (q (F [
 m 23 8,
 o 24 (.bin .gtr) [(.t 23),(.c (.int .i64 63))] []])
 (.cond (.t 24) (q (F [
 u 25 (.aR 0) [3],
 u 26 (.load v4) [25],
 m 9 26])
 (F [
 m 27 8,
 o 28 (.bin .sub) [(.t 27),(.c (.int .i64 64))] [],
 m 8 28])) .skip))
 (F [
 m 29 5,
 m 30 9,
 m 31 8,
 y 32 89 [7] [31] [],
 u 33 (.bin .quo) [30,32],
 o 34 (.bin .rem) [(.t 33),(.c (.int .u64 2))] [],
 u 35 (.conv .i64) [34],
 u 36 (.bn 3 3) [35],
 u 37 (.append 4 3 8) [29,36],
 m 5 37])))))
 (F [
 m 15 7,
 o 16 (.bin .add) [(.t 15),(.c (.int .i64 1))] [],
 m 7 16]))))))
 (q (F [
 m 38 5,
 m 4 38])
 .ret))))⟩
def fH:DFun:=⟨45,5,[.p],[.p v1],[.t 2],
 q (F [
 u 1 (.box 1) [0],
 i 2 0])
 (q (F [
 u 6 (.aR 0) [1],
 u 7 (.load v6) [6],
 y 8 58 [2] [7] [],
 m 3 8])
 (q (q (F [
 m 9 3,
 o 10 (.bin .eql) [(.t 9),(.c (.int .i64 0))] []])
 (.cond (.t 10) (q (F [
 i 2 2])
 .ret) .skip))
 (q (q (F [
 u 11 (.aR 0) [1],
 u 12 (.load v6) [11],
 u 13 (.aR 1) [1],
 u 14 (.load v5) [13],
 y 15 56 [3] [12,14] [],
 u 16 .not [15],
 m 17 16,
 g 18 (.aR 3) [1] [] 17 false,
 g 19 (.load v1) [18] [] 17 false,
 ⟨some 20,.bin .lss,[(.t 19),(.c (.int .i64 0))],[],some (17,false)⟩,
 o 21 (.pick) [(.t 17),(.c (.bool true)),(.t 20)] [],
 m 22 21,
 g 23 (.aR 3) [1] [] 22 false,
 g 24 (.load v1) [23] [] 22 false,
 g 25 (.mv) [3] [] 22 false,
 g 26 (.bin .gtr) [24,25] [] 22 false,
 o 27 (.pick) [(.t 22),(.c (.bool true)),(.t 26)] []])
 (.cond (.t 27) (q (F [
 i 2 8])
 .ret) .skip))
 (q (F [
 u 28 (.aR 0) [1],
 u 29 (.load v6) [28],
 u 30 (.aR 1) [1],
 u 31 (.load v5) [30],
 y 32 61 [4] [29,31] [],
 m 4 32])
 (q (q (F [
 u 33 (.aR 3) [1],
 u 34 (.load v1) [33],
 m 5 34])
 (.block 0 (.loop ⟨[3,4],[(5,.p v1)],[(4,.a 3)]⟩ (q (q (F [
 m 35 5,
 m 36 3,
 u 37 (.bin .lss) [35,36]])
 (.cond (.t 37) .skip (.exit 0)))
 (q (.block 1 (q (F [
 m 40 4,
 m 41 5,
 u 42 (.aA 3) [40,41],
 u 43 (.load v1) [42],
 o 44 (.bin .neq) [(.t 43),(.c (.int .i64 0))] []])
 (.cond (.t 44) (q (F [
 i 2 8])
 .ret) .skip)))
 (F [
 m 38 5,
 o 39 (.bin .add) [(.t 38),(.c (.int .i64 1))] [],
 m 5 39]))))))
 (q (F [
 i 2 0])
 .ret))))))⟩
def fq:DFun:=⟨39,1,[.p],[.p v0],[.t 2],
 q (F [
 o 2 (.mv) [(.c (.bool false))] []])
 (q (q (F [
 m 4 0,
 u 5 .len [4],
 o 6 (.bin .lss) [(.t 5),(.c (.int .i64 1))] [],
 m 7 6,
 g 8 (.mv) [0] [] 7 false,
 g 9 (.len) [8] [] 7 false,
 ⟨some 10,.bin .gtr,[(.t 9),(.c (.int .i64 4000))],[],some (7,false)⟩,
 o 11 (.pick) [(.t 7),(.c (.bool true)),(.t 10)] []])
 (.cond (.t 11) (q (F [
 o 2 (.mv) [(.c (.bool false))] []])
 .ret) .skip))
 (q (q (F [
 i 3 0])
 (.block 0 (.loop ⟨[0],[(3,.p v1)],[]⟩ (q (q (F [
 m 12 3,
 m 13 0,
 u 14 .len [13],
 u 15 (.bin .lss) [12,14]])
 (.cond (.t 15) .skip (.exit 0)))
 (q (.block 1 (q (T [
 m 18 0,
 m 19 3,
 t 20 (.aA 3) [18,19] [0,1],
 t 21 (.load v1) [20] [2],
 o 22 (.bin .lss) [(.t 21),(.c (.int .i64 0))] [3],
 t 23 .mv [22] [4],
 g 24 (.mv) [3] [5] 23 false,
 ⟨some 25,.bin .gtr,[(.t 24),(.c (.int .i64 0))],[6],some (23,false)⟩,
 g 26 (.mv) [25] [7] 23 false,
 g 27 (.mv) [0] [8] 26 true,
 g 28 (.mv) [3] [8] 26 true,
 g 29 (.aA 3) [27,28] [9,10] 26 true,
 g 30 (.load v1) [29] [11] 26 true,
 g 31 (.mv) [0] [8] 26 true,
 g 32 (.mv) [3] [8] 26 true,
 ⟨some 33,.bin .sub,[(.t 32),(.c (.int .i64 1))],[14],some (26,true)⟩,
 g 34 (.aA 3) [31,33] [13,15] 26 true,
 g 35 (.load v1) [34] [16] 26 true,
 g 36 (.bin .leq) [30,35] [12,17] 26 true,
 ⟨some 37,.pick,[(.t 26),(.t 36),(.c (.bool false))],[18],some (23,false)⟩,
 o 38 (.pick) [(.t 23),(.c (.bool true)),(.t 37)] [19]])
 (.cond (.t 38) (q (F [
 o 2 (.mv) [(.c (.bool false))] []])
 .ret) .skip)))
 (F [
 m 16 3,
 o 17 (.bin .add) [(.t 16),(.c (.int .i64 1))] [],
 m 3 17]))))))
 (q (F [
 o 2 (.mv) [(.c (.bool true))] []])
 .ret)))⟩
def eR:DFun:=⟨44,3,[.p],[.p v1],[.t 2],
 q (F [
 i 2 0])
 (q (q (F [
 i 3 0])
 (.block 0 (.loop ⟨[0],[(3,.p v1)],[]⟩ (q (q (F [
 m 6 3,
 m 7 0,
 u 8 .len [7],
 u 9 (.bin .lss) [6,8]])
 (.cond (.t 9) .skip (.exit 0)))
 (q (.block 1 (q (F [
 m 12 0,
 m 13 3,
 u 14 (.aA 49) [12,13],
 u 15 (.aR 0) [14],
 u 16 (.load cC) [15],
 y 17 28 [1] [16] [],
 m 4 17])
 (q (q (F [
 m 18 4,
 o 19 (.bin .neq) [(.t 18),(.c (.int .i64 0))] []])
 (.cond (.t 19) (q (F [
 m 20 4,
 m 2 20])
 .ret) .skip))
 (q (q (F [
 m 21 0,
 m 22 3,
 u 23 (.aA 49) [21,22],
 u 24 (.aR 4) [23],
 u 25 (.load v2) [24],
 y 26 77 [2] [25] [],
 u 27 .not [26]])
 (.cond (.t 27) (q (F [
 i 2 2])
 .ret) .skip))
 (q (F [
 i 5 0])
 (.block 2 (.loop ⟨[0,3],[(5,.p v1)],[]⟩ (q (q (F [
 m 28 5,
 m 29 3,
 u 30 (.bin .lss) [28,29]])
 (.cond (.t 30) .skip (.exit 2)))
 (q (.block 3 (q (T [
 m 33 0,
 m 34 5,
 t 35 (.aA 49) [33,34] [0,1],
 t 36 (.aR 0) [35] [2],
 t 37 (.load cC) [36] [3],
 m 38 0,
 m 39 3,
 t 40 (.aA 49) [38,39] [5,6],
 t 41 (.aR 0) [40] [7],
 t 42 (.load cC) [41] [8],
 t 43 (.eqv false cC) [37,42] [4,9]])
 (.cond (.t 43) (q (F [
 i 2 14])
 .ret) .skip)))
 (F [
 m 31 5,
 o 32 (.bin .add) [(.t 31),(.c (.int .i64 1))] [],
 m 5 32]))))))))))
 (F [
 m 10 3,
 o 11 (.bin .add) [(.t 10),(.c (.int .i64 1))] [],
 m 3 11]))))))
 (q (F [
 i 2 0])
 .ret))⟩
def fr:DFun:=⟨55,8,[.p,.p],[.p v0],[.t 4],
 q (F [
 u 2 (.box 2) [0],
 u 3 (.box 3) [1],
 o 4 (.mv) [(.c (.bool false))] []])
 (q (q (F [
 u 8 (.load cC) [2],
 y 9 28 [4] [8] [],
 o 10 (.bin .neq) [(.t 9),(.c (.int .i64 0))] [],
 m 11 10,
 g 12 (.load cC) [3] [] 11 false,
 ⟨some 13,.call [5],[(.c (.fn 28 [])),(.t 12)],[],some (11,false)⟩,
 ⟨some 14,.bin .neq,[(.t 13),(.c (.int .i64 0))],[],some (11,false)⟩,
 o 15 (.pick) [(.t 11),(.c (.bool true)),(.t 14)] [],
 m 16 15,
 g 17 (.aR 0) [2] [] 16 false,
 g 18 (.load v6) [17] [] 16 false,
 g 19 (.aR 0) [3] [] 16 false,
 g 20 (.load v6) [19] [] 16 false,
 g 21 (.bin .neq) [18,20] [] 16 false,
 o 22 (.pick) [(.t 16),(.c (.bool true)),(.t 21)] [],
 m 23 22,
 g 24 (.aR 3) [2] [] 23 false,
 g 25 (.load v1) [24] [] 23 false,
 g 26 (.aR 3) [3] [] 23 false,
 g 27 (.load v1) [26] [] 23 false,
 g 28 (.bin .gtr) [25,27] [] 23 false,
 o 29 (.pick) [(.t 23),(.c (.bool true)),(.t 28)] []])
 (.cond (.t 29) (q (F [
 o 4 (.mv) [(.c (.bool false))] []])
 .ret) .skip))
 (q (T [
 u 30 (.aR 0) [2],
 t 31 (.load v6) [30] [0],
 u 32 (.aR 1) [2],
 t 33 (.load v5) [32] [2],
 y 34 61 [6] [31,33] [1,3],
 u 35 (.aR 0) [3],
 t 36 (.load v6) [35] [5],
 u 37 (.aR 1) [3],
 t 38 (.load v5) [37] [7],
 y 39 61 [7] [36,38] [4,6,8],
 t 5 .mv [34] [9],
 t 6 .mv [39] [10]])
 (q (q (F [
 i 7 0])
 (.block 0 (.loop ⟨[2,5,6],[(7,.p v1)],[(2,.v [.p (.int .u8),.p (.int .u64),.p (.int .u64),.p (.int .i64)]),(6,.a 3),(7,.a 3)]⟩ (q (q (F [
 m 40 7,
 u 41 (.aR 3) [2],
 u 42 (.load v1) [41],
 u 43 (.bin .lss) [40,42]])
 (.cond (.t 43) .skip (.exit 0)))
 (q (.block 1 (q (T [
 m 46 5,
 m 47 7,
 t 48 (.aA 3) [46,47] [0,1],
 t 49 (.load v1) [48] [2],
 m 50 6,
 m 51 7,
 t 52 (.aA 3) [50,51] [4,5],
 t 53 (.load v1) [52] [6],
 t 54 (.bin .neq) [49,53] [3,7]])
 (.cond (.t 54) (q (F [
 o 4 (.mv) [(.c (.bool false))] []])
 .ret) .skip)))
 (F [
 m 44 7,
 o 45 (.bin .add) [(.t 44),(.c (.int .i64 1))] [],
 m 7 45]))))))
 (q (F [
 o 4 (.mv) [(.c (.bool true))] []])
 .ret))))⟩
def eS:DFun:=⟨29,4,[.p,.p],[.p v1],[.t 4],
 q (F [
 u 2 (.box 2) [0],
 u 3 (.box 3) [1],
 i 4 0])
 (q (.block 0 (q (F [
 u 6 (.load v5) [2],
 u 7 (.load v5) [3],
 u 8 (.eqv false v5) [6,7],
 m 5 8])
 (.cond (.t 5) (q (F [
 i 4 0])
 .ret) (q (F [
 u 10 (.aR 0) [2],
 u 11 (.load v4) [10],
 u 12 (.aR 0) [3],
 u 13 (.load v4) [12],
 u 14 (.bin .lss) [11,13],
 m 15 14,
 g 16 (.aR 0) [2] [] 15 false,
 g 17 (.load v4) [16] [] 15 false,
 g 18 (.aR 0) [3] [] 15 false,
 g 19 (.load v4) [18] [] 15 false,
 g 20 (.bin .eql) [17,19] [] 15 false,
 g 21 (.mv) [20] [] 15 false,
 g 22 (.aR 1) [2] [] 21 true,
 g 23 (.load v4) [22] [] 21 true,
 g 24 (.aR 1) [3] [] 21 true,
 g 25 (.load v4) [24] [] 21 true,
 g 26 (.bin .lss) [23,25] [] 21 true,
 ⟨some 27,.pick,[(.t 21),(.t 26),(.c (.bool false))],[],some (15,false)⟩,
 o 28 (.pick) [(.t 15),(.c (.bool true)),(.t 27)] [],
 m 9 28])
 (.cond (.t 9) (q (F [
 i 4 (-1)])
 .ret) .skip)))))
 (q (F [
 i 4 1])
 .ret))⟩
def ft:DFun:=⟨34,5,[.p,.p],[.p v0],[.t 4],
 q (F [
 u 2 (.box 2) [0],
 u 3 (.box 3) [1],
 o 4 (.mv) [(.c (.bool false))] []])
 (q (q (F [
 u 6 (.aR 0) [2],
 u 7 (.load v6) [6],
 u 8 (.aR 0) [3],
 u 9 (.load v6) [8],
 u 10 (.bin .neq) [7,9]])
 (.cond (.t 10) (q (F [
 u 11 (.aR 0) [2],
 u 12 (.load v6) [11],
 u 13 (.aR 0) [3],
 u 14 (.load v6) [13],
 u 15 (.bin .lss) [12,14],
 m 4 15])
 .ret) .skip))
 (q (F [
 u 16 (.aR 1) [2],
 u 17 (.load v5) [16],
 u 18 (.aR 1) [3],
 u 19 (.load v5) [18],
 y 20 65 [4] [17,19] [],
 m 5 20])
 (q (F [
 m 21 5,
 o 22 (.bin .lss) [(.t 21),(.c (.int .i64 0))] [],
 m 23 22,
 g 24 (.mv) [5] [] 23 false,
 ⟨some 25,.bin .eql,[(.t 24),(.c (.int .i64 0))],[],some (23,false)⟩,
 g 26 (.mv) [25] [] 23 false,
 g 27 (.aR 3) [2] [] 26 true,
 g 28 (.load v1) [27] [] 26 true,
 g 29 (.aR 3) [3] [] 26 true,
 g 30 (.load v1) [29] [] 26 true,
 g 31 (.bin .lss) [28,30] [] 26 true,
 ⟨some 32,.pick,[(.t 26),(.t 31),(.c (.bool false))],[],some (23,false)⟩,
 o 33 (.pick) [(.t 23),(.c (.bool true)),(.t 32)] [],
 m 4 33])
 .ret)))⟩
def fI:DFun:=⟨49,11,[.p,.p],[.p J0],[.t 4],
 q (F [
 u 3 (.box 2) [1],
 o 4 (.mv) [(.c (.zs 46 true))] []])
 (q (F [
 o 5 (.mv) [(.c (.zs 46 true))] []])
 (q (F [
 o 6 (.mv) [(.c (.bool false))] []])
 (q (q (F [
 i 7 0])
 (.block 0 (.loop ⟨[0,3],[(5,.o 9 46),(6,.p v0),(7,.p v1)],[(2,.v [.p (.int .u8),.p (.int .u64),.p (.int .u64),.p (.int .i64)])]⟩ (q (q (F [
 m 8 7,
 m 9 0,
 u 10 .len [9],
 u 11 (.bin .lss) [8,10]])
 (.cond (.t 11) .skip (.exit 0)))
 (q (.block 1 (q (q (T [
 m 14 0,
 m 15 7,
 t 16 (.aA 46) [14,15] [0,1],
 t 17 (.load cC) [16] [2],
 u 18 (.load cC) [3],
 t 19 (.eqv false cC) [17,18] [3,4]])
 (.cond (.t 19) (q (F [
 m 20 0,
 m 4 20])
 .ret) .skip))
 (q (q (T [
 m 21 6,
 t 22 .not [21] [0],
 t 23 .mv [22] [1],
 g 24 (.load cC) [3] [2] 23 true,
 g 25 (.mv) [0] [2] 23 true,
 g 26 (.mv) [7] [2] 23 true,
 g 27 (.aA 46) [25,26] [4,5] 23 true,
 g 28 (.load cC) [27] [6] 23 true,
 ⟨some 29,.call [10],[(.c (.fn 31 [])),(.t 24),(.t 28)],[3,7],some (23,true)⟩,
 o 30 (.pick) [(.t 23),(.t 29),(.c (.bool false))] [8]])
 (.cond (.t 30) (q (F [
 m 31 5,
 u 32 (.load cC) [3],
 u 33 (.bn 3 46) [32],
 u 34 (.append 4 46 32) [31,33],
 m 5 34])
 (F [
 o 6 (.mv) [(.c (.bool true))] []])) .skip))
 (F [
 m 35 5,
 m 36 0,
 m 37 7,
 u 38 (.aA 46) [36,37],
 u 39 (.load cC) [38],
 u 40 (.bn 5 46) [39],
 u 41 (.append 6 46 32) [35,40],
 m 5 41]))))
 (F [
 m 12 7,
 o 13 (.bin .add) [(.t 12),(.c (.int .i64 1))] [],
 m 7 13]))))))
 (q (q (F [
 m 42 6,
 u 43 .not [42]])
 (.cond (.t 43) (F [
 m 44 5,
 u 45 (.load cC) [3],
 u 46 (.bn 7 46) [45],
 u 47 (.append 8 46 32) [44,46],
 m 5 47]) .skip))
 (q (F [
 m 48 5,
 m 4 48])
 .ret)))))⟩
def gl:DFun:=⟨35,4,[.p],[.p v5],[.c 2],
 q (F [
 u 2 (.alloc 1 [(D.int .u64 0),(D.int .u64 0)]) []])
 (q (F [
 u 3 (.alloc 2 [(D.int .u64 0),(D.int .u64 0)]) []])
 (q (q (F [
 i 4 0])
 (.block 0 (.loop ⟨[0,2,3],[(4,.p v1)],[(1,.v [.p (.int .u64),.p (.int .u64)]),(2,.v [.p (.int .u64),.p (.int .u64)])]⟩ (q (q (F [
 m 5 4,
 m 6 0,
 u 7 .len [6],
 u 8 (.bin .lss) [5,7]])
 (.cond (.t 8) .skip (.exit 0)))
 (q (.block 1 (q (T [
 u 11 (.aR 0) [3],
 t 12 (.load v4) [11] [0],
 u 13 (.aR 0) [3],
 t 14 (.load v4) [13] [2],
 t 15 (.bin .add) [12,14] [1,3],
 u 16 (.aR 1) [3],
 t 17 (.load v4) [16] [5],
 o 18 (.call [3]) [(.c (.fn 89 [])),(.c (.int .i64 63))] [],
 t 19 (.bin .quo) [17,18] [6,7],
 t 20 (.bin .add) [15,19] [4,8],
 t 21 (.aR 0) [3] [9],
 ⟨none,.store v4,[(.t 21),(.t 20)],[10],none⟩])
 (T [
 u 22 (.aR 1) [3],
 t 23 (.load v4) [22] [0],
 u 24 (.aR 1) [3],
 t 25 (.load v4) [24] [2],
 t 26 (.bin .add) [23,25] [1,3],
 m 27 0,
 m 28 4,
 t 29 (.aA 3) [27,28] [5,6],
 t 30 (.load v1) [29] [7],
 t 31 (.conv .u64) [30] [8],
 t 32 (.bin .add) [26,31] [4,9],
 t 33 (.aR 1) [3] [10],
 ⟨none,.store v4,[(.t 33),(.t 32)],[11],none⟩])))
 (F [
 m 9 4,
 o 10 (.bin .add) [(.t 9),(.c (.int .i64 1))] [],
 m 4 10]))))))
 (q (F [
 u 34 (.load v5) [3],
 ⟨none,.store v5,[(.t 2),(.t 34)],[],none⟩])
 .ret)))⟩
def gY:DFun:=⟨43,9,[.p,.p,.p],[.p cC,.p v1],[.c 6,.t 7],
 q (F [
 u 4 (.box 3) [1],
 u 6 (.alloc 4 yM) [],
 i 7 0])
 (q (q (F [
 m 10 0,
 u 11 (.load v5) [4],
 y 12 56 [5] [10,11] [],
 u 13 .not [12],
 m 14 13,
 g 15 (.mv) [2] [] 14 false,
 ⟨some 16,.bin .lss,[(.t 15),(.c (.int .i64 0))],[],some (14,false)⟩,
 o 17 (.pick) [(.t 14),(.c (.bool true)),(.t 16)] [],
 m 18 17,
 g 19 (.mv) [2] [] 18 false,
 g 20 (.mv) [0] [] 18 false,
 ⟨some 21,.call [6],[(.c (.fn 58 [])),(.t 20)],[],some (18,false)⟩,
 g 22 (.bin .gtr) [19,21] [] 18 false,
 o 23 (.pick) [(.t 18),(.c (.bool true)),(.t 22)] []])
 (.cond (.t 23) (q (F [
 u 24 (.build yM []) [],
 ⟨none,.store cC,[(.t 6),(.t 24)],[],none⟩,
 i 7 2])
 .ret) .skip))
 (q (F [
 m 25 0,
 u 26 (.load v5) [4],
 y 27 61 [7] [25,26] [],
 m 8 27])
 (q (q (F [
 m 28 2,
 m 9 28])
 (.block 0 (.loop ⟨[0,2,6,8],[(9,.p v1)],[(4,.v [.p (.int .u8),.p (.int .u64),.p (.int .u64),.p (.int .i64)]),(7,.a 3)]⟩ (q (q (F [
 m 29 9,
 m 30 8,
 u 31 .len [30],
 u 32 (.bin .lss) [29,31]])
 (.cond (.t 32) .skip (.exit 0)))
 (q (.block 1 (F [
 m 35 8,
 m 36 9,
 u 37 (.aA 3) [35,36],
 ⟨none,.store v1,[(.t 37),(.c (.int .i64 0))],[],none⟩]))
 (F [
 m 33 9,
 o 34 (.bin .add) [(.t 33),(.c (.int .i64 1))] [],
 m 9 34]))))))
 (q (F [
 m 38 0,
 m 39 8,
 y 40 87 [8] [39] [],
 m 41 2,
 u 42 (.build yM [(0,1),(1,2),(3,1)]) [38,40,41],
 ⟨none,.store cC,[(.t 6),(.t 42)],[],none⟩,
 i 7 0])
 .ret))))⟩
def fJ:DFun:=⟨53,10,[.p,.p],[.p cC],[.c 4],
 q (F [
 u 2 (.box 2) [0],
 u 3 (.box 3) [1],
 u 4 (.alloc 4 yM) []])
 (q (T [
 u 10 (.aR 0) [2],
 t 11 (.load v6) [10] [0],
 u 12 (.aR 1) [2],
 t 13 (.load v5) [12] [2],
 y 14 61 [6] [11,13] [1,3],
 u 15 (.aR 0) [3],
 t 16 (.load v6) [15] [5],
 u 17 (.aR 1) [3],
 t 18 (.load v5) [17] [7],
 y 19 61 [7] [16,18] [4,6,8],
 t 5 .mv [14] [9],
 t 6 .mv [19] [10]])
 (q (F [
 i 7 0])
 (q (.block 0 (.loop ⟨[2,3,4,5,6],[(7,.p v1)],[(2,.v [.p (.int .u8),.p (.int .u64),.p (.int .u64),.p (.int .i64)]),(3,.v [.p (.int .u8),.p (.int .u64),.p (.int .u64),.p (.int .i64)]),(4,.v [.p (.int .u8),.p (.int .u64),.p (.int .u64),.p (.int .i64)]),(6,.a 3),(7,.a 3)]⟩ (q (q (T [
 m 20 7,
 u 21 (.aR 3) [2],
 t 22 (.load v1) [21] [1],
 t 23 (.bin .lss) [20,22] [0,2],
 t 24 .mv [23] [3],
 g 25 (.mv) [7] [4] 24 true,
 g 26 (.aR 3) [3] [4] 24 true,
 g 27 (.load v1) [26] [6] 24 true,
 g 28 (.bin .lss) [25,27] [5,7] 24 true,
 o 29 (.pick) [(.t 24),(.t 28),(.c (.bool false))] [8],
 t 30 .mv [29] [9],
 g 31 (.mv) [5] [10] 30 true,
 g 32 (.mv) [7] [10] 30 true,
 g 33 (.aA 3) [31,32] [11,12] 30 true,
 g 34 (.load v1) [33] [13] 30 true,
 g 35 (.mv) [6] [10] 30 true,
 g 36 (.mv) [7] [10] 30 true,
 g 37 (.aA 3) [35,36] [15,16] 30 true,
 g 38 (.load v1) [37] [17] 30 true,
 g 39 (.bin .eql) [34,38] [14,18] 30 true,
 o 40 (.pick) [(.t 30),(.t 39),(.c (.bool false))] [19]])
 (.cond (.t 40) .skip (.exit 0)))
 (.block 1 (F [
 m 41 7,
 o 42 (.bin .add) [(.t 41),(.c (.int .i64 1))] [],
 m 7 42])))))
 (q (F [
 u 44 (.aR 0) [2],
 u 45 (.load v6) [44],
 u 46 (.aR 1) [2],
 u 47 (.load v5) [46],
 m 48 7,
 y 49 57 [8,9] [45,47,48] [],
 m 43 49,
 u 50 (.ext 0) [43],
 u 51 (.ext 1) [43],
 u 8 (.alloc 5 yM) [],
 ⟨none,.store cC,[(.t 8),(.t 50)],[],none⟩,
 m 9 51])
 (q (F [
 u 52 (.load cC) [8],
 ⟨none,.store cC,[(.t 4),(.t 52)],[],none⟩])
 .ret)))))⟩
def gZ:DFun:=⟨28,7,[.p,.p,.p],[.p v1,.p v1],[.t 6,.t 7],
 q (F [
 u 4 (.box 3) [1],
 i 6 0,
 i 7 0])
 (q (q (F [
 m 8 0,
 u 9 (.load v5) [4],
 y 10 56 [4] [8,9] [],
 u 11 .not [10],
 m 12 11,
 g 13 (.mv) [2] [] 12 false,
 ⟨some 14,.bin .lss,[(.t 13),(.c (.int .i64 0))],[],some (12,false)⟩,
 o 15 (.pick) [(.t 12),(.c (.bool true)),(.t 14)] [],
 m 16 15,
 g 17 (.mv) [2] [] 16 false,
 g 18 (.mv) [0] [] 16 false,
 ⟨some 19,.call [5],[(.c (.fn 58 [])),(.t 18)],[],some (16,false)⟩,
 g 20 (.bin .geq) [17,19] [] 16 false,
 o 21 (.pick) [(.t 16),(.c (.bool true)),(.t 20)] []])
 (.cond (.t 21) (q (F [
 i 6 0,
 i 7 2])
 .ret) .skip))
 (q (F [
 m 22 0,
 u 23 (.load v5) [4],
 y 24 61 [6] [22,23] [],
 m 25 2,
 u 26 (.aA 3) [24,25],
 u 27 (.load v1) [26],
 m 6 27,
 i 7 0])
 .ret))⟩
def gm:DFun:=⟨139,16,[.p,.p],[.o 69],[.t 4],
 q (F [
 o 4 (.mv) [(.c (.zs 69 true))] []])
 (q (F [
 o 5 (.mv) [(.c (.zs 46 true))] []])
 (q (q (F [
 i 6 0])
 (.block 0 (.loop ⟨[0,1],[(5,.p J0),(6,.p v1)],[]⟩ (q (q (F [
 m 15 6,
 m 16 0,
 u 17 .len [16],
 u 18 (.bin .lss) [15,17]])
 (.cond (.t 18) .skip (.exit 0)))
 (q (.block 1 (q (q (F [
 m 21 0,
 m 22 6,
 u 23 (.aA 49) [21,22],
 u 24 (.aR 0) [23],
 u 25 (.aR 0) [24],
 u 26 (.load v6) [25],
 m 27 1,
 u 28 (.bin .neq) [26,27]])
 (.cond (.t 28) (.exit 1) .skip))
 (q (F [
 m 29 5,
 m 30 0,
 m 31 6,
 u 32 (.aA 49) [30,31],
 u 33 (.aR 0) [32],
 u 34 (.load cC) [33],
 y 35 96 [7] [29,34] [],
 m 5 35])
 (q (F [
 i 7 0])
 (.block 2 (.loop ⟨[0,1,6],[(5,.p J0),(7,.p v1)],[]⟩ (q (q (F [
 m 36 7,
 m 37 6,
 u 38 (.bin .lss) [36,37]])
 (.cond (.t 38) .skip (.exit 2)))
 (q (.block 3 (q (F [
 m 41 0,
 m 42 7,
 u 43 (.aA 49) [41,42],
 u 44 (.aR 0) [43],
 u 45 (.aR 0) [44],
 u 46 (.load v6) [45],
 m 47 1,
 u 48 (.bin .eql) [46,47]])
 (.cond (.t 48) (T [
 m 49 5,
 m 50 0,
 m 51 6,
 t 52 (.aA 49) [50,51] [1,2],
 t 53 (.aR 0) [52] [3],
 t 54 (.load cC) [53] [4],
 m 55 0,
 m 56 7,
 t 57 (.aA 49) [55,56] [6,7],
 t 58 (.aR 0) [57] [8],
 t 59 (.load cC) [58] [9],
 y 60 97 [8] [54,59] [5,10],
 y 61 96 [9] [49,60] [0,11],
 t 5 .mv [61] [12]]) .skip)))
 (F [
 m 39 7,
 o 40 (.bin .add) [(.t 39),(.c (.int .i64 1))] [],
 m 7 40])))))))))
 (F [
 m 19 6,
 o 20 (.bin .add) [(.t 19),(.c (.int .i64 1))] [],
 m 6 20]))))))
 (q (F [
 o 8 (.mv) [(.c (.zs 69 true))] []])
 (q (q (F [
 i 9 0])
 (.block 4 (.loop ⟨[0,1,5],[(8,.o 10 69),(9,.p v1)],[]⟩ (q (q (F [
 m 62 9,
 m 63 5,
 u 64 .len [63],
 u 65 (.bin .lss) [62,64]])
 (.cond (.t 65) .skip (.exit 4)))
 (q (.block 5 (q (F [
 m 68 5,
 m 69 9,
 u 70 (.aA 46) [68,69],
 u 71 (.load cC) [70],
 o 72 (.build [(D.int .i64 0),(D.int .i64 0)] [(0,1),(1,1)]) [(.c (.int .i64 (-1))),(.c (.int .i64 (-1)))] [],
 u 73 (.build Fo [(0,4),(5,2)]) [71,72],
 u 10 (.alloc 2 Fo) [],
 ⟨none,.store zU,[(.t 10),(.t 73)],[],none⟩])
 (q (q (F [
 i 11 0])
 (.block 6 (.loop ⟨[0,1,5,8,9,10],[(11,.p v1)],[(2,.v [.p (.int .u8),.p (.int .u64),.p (.int .u64),.p (.int .i64),.o 11 3,.p (.int .i64),.p (.int .i64)]),(10,.a 69)]⟩ (q (q (F [
 m 74 11,
 m 75 0,
 u 76 .len [75],
 u 77 (.bin .lss) [74,76]])
 (.cond (.t 77) .skip (.exit 6)))
 (q (.block 7 (q (T [
 m 80 0,
 m 81 11,
 t 82 (.aA 49) [80,81] [0,1],
 t 83 (.aR 0) [82] [2],
 t 84 (.load cC) [83] [3],
 m 85 5,
 m 86 9,
 t 87 (.aA 46) [85,86] [5,6],
 t 88 (.load cC) [87] [7],
 t 89 (.eqv false cC) [84,88] [4,8]])
 (.cond (.t 89) (F [
 u 90 (.bn 3 3) [],
 m 91 0,
 m 92 11,
 u 93 (.aA 49) [91,92],
 u 94 (.aR 4) [93],
 u 95 (.load v2) [94],
 u 96 (.append 4 3 8) [90,95],
 u 97 (.aR 4) [10],
 ⟨none,.store v2,[(.t 97),(.t 96)],[],none⟩]) .skip)))
 (F [
 m 78 11,
 o 79 (.bin .add) [(.t 78),(.c (.int .i64 1))] [],
 m 11 79]))))))
 (q (q (F [
 m 98 5,
 u 99 .len [98],
 o 100 (.bin .sub) [(.t 99),(.c (.int .i64 1))] [],
 m 12 100])
 (.block 8 (.loop ⟨[0,1,5,8,9,10],[(12,.p v1)],[(2,.v [.p (.int .u8),.p (.int .u64),.p (.int .u64),.p (.int .i64),.o 12 3,.p (.int .i64),.p (.int .i64)]),(10,.a 69)]⟩ (q (q (F [
 m 101 12,
 m 102 9,
 u 103 (.bin .gtr) [101,102]])
 (.cond (.t 103) .skip (.exit 8)))
 (q (.block 9 (q (T [
 m 106 5,
 m 107 9,
 t 108 (.aA 46) [106,107] [0,1],
 t 109 (.load cC) [108] [2],
 m 110 5,
 m 111 12,
 t 112 (.aA 46) [110,111] [4,5],
 t 113 (.load cC) [112] [6],
 y 114 54 [13] [109,113] [3,7]])
 (.cond (.t 114) (q (T [
 m 116 1,
 m 117 5,
 m 118 12,
 t 119 (.aA 46) [117,118] [1,2],
 t 120 (.aR 1) [119] [3],
 t 121 (.load v5) [120] [4],
 m 122 5,
 m 123 9,
 t 124 (.aA 46) [122,123] [6,7],
 t 125 (.aR 3) [124] [8],
 t 126 (.load v1) [125] [9],
 y 127 98 [14,15] [116,121,126] [0,5,10],
 t 115 .mv [127] [11],
 t 128 (.ext 0) [115] [12],
 t 129 (.ext 1) [115] [12],
 t 13 .mv [128] [13],
 t 14 .mv [129] [14,15]])
 (F [
 m 130 13,
 m 131 12,
 u 132 (.aR 5) [10],
 u 133 (.Ar 2) [132,130],
 ⟨none,.store v1,[(.t 133),(.t 131)],[],none⟩])) .skip)))
 (F [
 m 104 12,
 o 105 (.bin .sub) [(.t 104),(.c (.int .i64 1))] [],
 m 12 105]))))))
 (F [
 m 134 8,
 u 135 (.load zU) [10],
 u 136 (.bn 5 69) [135],
 u 137 (.append 6 69 72) [134,136],
 m 8 137])))))
 (F [
 m 66 9,
 o 67 (.bin .add) [(.t 66),(.c (.int .i64 1))] [],
 m 9 67]))))))
 (q (F [
 m 138 8,
 m 4 138])
 .ret)))))⟩
def gn:DFun:=⟨8,4,[.p],[.p v9],[.c 2],
 q (F [
 u 2 (.alloc 1 [(D.zs 69 true),(D.zs 69 true)]) []])
 (q (F [
 m 3 0,
 o 4 (.call [2]) [(.c (.fn 78 [])),(.t 3),(.c (.int .u8 4))] [],
 m 5 0,
 o 6 (.call [3]) [(.c (.fn 78 [])),(.t 5),(.c (.int .u8 6))] [],
 u 7 (.build [(D.zs 69 true),(D.zs 69 true)] [(0,1),(1,1)]) [4,6],
 ⟨none,.store v9,[(.t 2),(.t 7)],[],none⟩])
 .ret)⟩
def gr:DFun:=⟨73,12,[.p],[.o 49],[.t 2],
 q (F [
 u 1 (.box 1) [0],
 o 2 (.mv) [(.c (.zs 49 true))] []])
 (q (F [
 o 3 (.mv) [(.c (.zs 49 true))] []])
 (q (q (F [
 i 4 0])
 (.block 0 (.loop ⟨[1],[(3,.o 10 49),(4,.p v1)],[(1,.v [.p (.sl 69),.p (.sl 69)])]⟩ (q (q (F [
 m 6 4,
 u 7 (.aR 0) [1],
 u 8 (.load v3) [7],
 u 9 .len [8],
 u 10 (.bin .lss) [6,9]])
 (.cond (.t 10) .skip (.exit 0)))
 (q (.block 1 (q (F [
 u 13 (.aR 0) [1],
 u 14 (.load v3) [13],
 m 15 4,
 u 16 (.aA 69) [14,15],
 u 17 (.aR 4) [16],
 u 18 (.load v2) [17],
 u 19 .len [18],
 o 20 (.bin .gtr) [(.t 19),(.c (.int .i64 0))] []])
 (.cond (.t 20) (T [
 m 21 3,
 u 22 (.aR 0) [1],
 t 23 (.load v3) [22] [1],
 m 24 4,
 t 25 (.aA 69) [23,24] [2,3],
 t 26 (.aR 0) [25] [4],
 t 27 (.load cC) [26] [5],
 u 28 (.bn 2 3) [],
 u 29 (.aR 0) [1],
 t 30 (.load v3) [29] [8],
 m 31 4,
 t 32 (.aA 69) [30,31] [9,10],
 t 33 (.aR 4) [32] [11],
 t 34 (.load v2) [33] [12],
 t 35 (.append 3 3 8) [28,34] [7,13],
 t 36 (.build xO [(0,4),(4,1)]) [27,35] [6,14],
 t 37 (.bn 4 49) [36] [15],
 t 38 (.append 5 49 56) [21,37] [0,16],
 t 3 .mv [38] [17]]) .skip)))
 (F [
 m 11 4,
 o 12 (.bin .add) [(.t 11),(.c (.int .i64 1))] [],
 m 4 12]))))))
 (q (q (F [
 i 5 0])
 (.block 2 (.loop ⟨[1],[(3,.o 11 49),(5,.p v1)],[(1,.v [.p (.sl 69),.p (.sl 69)])]⟩ (q (q (F [
 m 39 5,
 u 40 (.aR 1) [1],
 u 41 (.load v3) [40],
 u 42 .len [41],
 u 43 (.bin .lss) [39,42]])
 (.cond (.t 43) .skip (.exit 2)))
 (q (.block 3 (q (F [
 u 46 (.aR 1) [1],
 u 47 (.load v3) [46],
 m 48 5,
 u 49 (.aA 69) [47,48],
 u 50 (.aR 4) [49],
 u 51 (.load v2) [50],
 u 52 .len [51],
 o 53 (.bin .gtr) [(.t 52),(.c (.int .i64 0))] []])
 (.cond (.t 53) (T [
 m 54 3,
 u 55 (.aR 1) [1],
 t 56 (.load v3) [55] [1],
 m 57 5,
 t 58 (.aA 69) [56,57] [2,3],
 t 59 (.aR 0) [58] [4],
 t 60 (.load cC) [59] [5],
 u 61 (.bn 6 3) [],
 u 62 (.aR 1) [1],
 t 63 (.load v3) [62] [8],
 m 64 5,
 t 65 (.aA 69) [63,64] [9,10],
 t 66 (.aR 4) [65] [11],
 t 67 (.load v2) [66] [12],
 t 68 (.append 7 3 8) [61,67] [7,13],
 t 69 (.build xO [(0,4),(4,1)]) [60,68] [6,14],
 t 70 (.bn 8 49) [69] [15],
 t 71 (.append 9 49 56) [54,70] [0,16],
 t 3 .mv [71] [17]]) .skip)))
 (F [
 m 44 5,
 o 45 (.bin .add) [(.t 44),(.c (.int .i64 1))] [],
 m 5 45]))))))
 (q (F [
 m 72 3,
 m 2 72])
 .ret))))⟩
def fK:DFun:=⟨26,6,[.p],[.p v1],[.t 2],
 q (F [
 u 1 (.box 1) [0],
 i 2 0])
 (q (q (F [
 u 4 (.aR 0) [1],
 u 5 (.load v3) [4],
 u 6 .len [5],
 o 7 (.bin .gtr) [(.t 6),(.c (.int .i64 4000))] [],
 m 8 7,
 g 9 (.aR 1) [1] [] 8 false,
 g 10 (.load v3) [9] [] 8 false,
 g 11 (.len) [10] [] 8 false,
 ⟨some 12,.bin .gtr,[(.t 11),(.c (.int .i64 4000))],[],some (8,false)⟩,
 o 13 (.pick) [(.t 8),(.c (.bool true)),(.t 12)] []])
 (.cond (.t 13) (q (F [
 i 2 4])
 .ret) .skip))
 (q (F [
 u 14 (.load v9) [1],
 y 15 43 [2] [14] [],
 m 3 15])
 (q (q (T [
 m 16 3,
 y 17 39 [3] [16] [0],
 o 18 (.bin .neq) [(.t 17),(.c (.int .i64 0))] [1],
 t 19 .mv [18] [2],
 g 20 (.load v9) [1] [3] 19 false,
 g 21 (.mv) [3] [3] 19 false,
 ⟨some 22,.call [4],[(.c (.fn 41 [])),(.t 21)],[5],some (19,false)⟩,
 ⟨some 23,.call [5],[(.c (.fn 16 [])),(.t 20),(.t 22)],[4,6],some (19,false)⟩,
 g 24 (.not) [23] [7] 19 false,
 o 25 (.pick) [(.t 19),(.c (.bool true)),(.t 24)] [8]])
 (.cond (.t 25) (q (F [
 i 2 8])
 .ret) .skip))
 (q (F [
 i 2 0])
 .ret))))⟩
def fu:DFun:=⟨18,7,[.p,.p],[.o 49,.p v1],[.t 4,.t 5],
 q (F [
 u 2 (.box 2) [0],
 u 3 (.box 3) [1],
 o 4 (.mv) [(.c (.zs 49 true))] [],
 i 5 0])
 (q (F [
 u 7 (.load v9) [2],
 y 8 19 [4] [7] [],
 m 6 8])
 (q (q (F [
 m 9 6,
 o 10 (.bin .eql) [(.t 9),(.c (.int .i64 0))] []])
 (.cond (.t 10) (F [
 u 11 (.load cC) [3],
 y 12 28 [5] [11] [],
 m 6 12]) .skip))
 (q (q (F [
 m 13 6,
 o 14 (.bin .neq) [(.t 13),(.c (.int .i64 0))] []])
 (.cond (.t 14) (q (F [
 m 15 6,
 o 4 (.mv) [(.c (.zs 49 true))] [],
 m 5 15])
 .ret) .skip))
 (q (F [
 u 16 (.load v9) [2],
 y 17 43 [6] [16] [],
 m 4 17,
 i 5 0])
 .ret))))⟩
def eF:DFun:=⟨40,10,[.p,.p],[.o 49,.p v1],[.t 4,.t 5],
 q (F [
 u 2 (.box 2) [0],
 u 3 (.box 3) [1],
 o 4 (.mv) [(.c (.zs 49 true))] [],
 i 5 0])
 (q (F [
 u 11 (.load v9) [2],
 u 12 (.load cC) [3],
 y 13 53 [6,7] [11,12] [],
 m 10 13,
 u 14 (.ext 0) [10],
 u 15 (.ext 1) [10],
 m 6 14,
 m 7 15])
 (q (q (F [
 m 16 7,
 o 17 (.bin .neq) [(.t 16),(.c (.int .i64 0))] []])
 (.cond (.t 17) (q (F [
 m 18 7,
 o 4 (.mv) [(.c (.zs 49 true))] [],
 m 5 18])
 .ret) .skip))
 (q (F [
 o 8 (.mv) [(.c (.zs 49 true))] []])
 (q (q (F [
 i 9 0])
 (.block 0 (.loop ⟨[3,6],[(8,.o 8 49),(9,.p v1)],[(3,.v [.p (.int .u8),.p (.int .u64),.p (.int .u64),.p (.int .i64)]),(6,.a 49)]⟩ (q (q (F [
 m 19 9,
 m 20 6,
 u 21 .len [20],
 u 22 (.bin .lss) [19,21]])
 (.cond (.t 22) .skip (.exit 0)))
 (q (.block 1 (q (T [
 m 25 6,
 m 26 9,
 t 27 (.aA 49) [25,26] [0,1],
 t 28 (.aR 0) [27] [2],
 t 29 (.load cC) [28] [3],
 u 30 (.load cC) [3],
 y 31 54 [9] [29,30] [4,5]])
 (.cond (.t 31) (F [
 m 32 8,
 m 33 6,
 m 34 9,
 u 35 (.aA 49) [33,34],
 u 36 (.load b6) [35],
 u 37 (.bn 4 49) [36],
 u 38 (.append 5 49 56) [32,37],
 m 8 38]) .skip)))
 (F [
 m 23 9,
 o 24 (.bin .add) [(.t 23),(.c (.int .i64 1))] [],
 m 9 24]))))))
 (q (F [
 m 39 8,
 m 4 39,
 i 5 0])
 .ret)))))⟩
def lC:DFun:=⟨46,12,[.p,.p],[.o 49,.p v1],[.t 4,.t 5],
 q (F [
 u 2 (.box 2) [0],
 u 3 (.box 3) [1],
 o 4 (.mv) [(.c (.zs 49 true))] [],
 i 5 0])
 (q (F [
 u 10 (.load v9) [2],
 u 11 (.load cC) [3],
 y 12 49 [7] [10,11] [],
 m 6 12])
 (q (q (F [
 m 13 6,
 o 14 (.bin .neq) [(.t 13),(.c (.int .i64 0))] []])
 (.cond (.t 14) (q (F [
 m 15 6,
 o 4 (.mv) [(.c (.zs 49 true))] [],
 m 5 15])
 .ret) .skip))
 (q (F [
 o 7 (.mv) [(.c (.zs 49 true))] []])
 (q (q (F [
 u 16 (.load v9) [2],
 u 17 (.aR 0) [3],
 u 18 (.load v6) [17],
 y 19 51 [8] [16,18] [],
 u 20 .len [19],
 i 21 0])
 (.block 0 (.loop ⟨[3,19,20],[(7,.o 9 49),(21,.p v1)],[(3,.v [.p (.int .u8),.p (.int .u64),.p (.int .u64),.p (.int .i64)])]⟩ (q (F [
 u 22 (.bin .lss) [21,20]])
 (q (.cond (.t 22) .skip (.exit 0))
 (q (.block 1 (q (F [
 u 23 (.aA 69) [19,21],
 u 24 (.load zU) [23],
 u 9 (.alloc 4 Fo) [],
 ⟨none,.store zU,[(.t 9),(.t 24)],[],none⟩])
 (q (F [
 u 25 (.aR 4) [9],
 u 26 (.load v2) [25],
 u 27 .len [26],
 o 28 (.bin .gtr) [(.t 27),(.c (.int .i64 0))] [],
 m 29 28,
 g 30 (.load cC) [3] [] 29 true,
 g 31 (.aR 0) [9] [] 29 true,
 g 32 (.load cC) [31] [] 29 true,
 ⟨some 33,.call [10],[(.c (.fn 29 [])),(.t 30),(.t 32)],[],some (29,true)⟩,
 o 34 (.pick) [(.t 29),(.t 33),(.c (.bool false))] []])
 (.cond (.t 34) (T [
 m 35 7,
 u 36 (.aR 0) [9],
 t 37 (.load cC) [36] [1],
 u 38 (.aR 4) [9],
 t 39 (.load v2) [38] [3],
 y 40 52 [11] [39] [4],
 t 41 (.build xO [(0,4),(4,1)]) [37,40] [2,5],
 t 42 (.bn 5 49) [41] [6],
 t 43 (.append 6 49 56) [35,42] [0,7],
 t 7 .mv [43] [8]]) .skip))))
 (F [
 o 44 (.bin .add) [(.t 21),(.c (.int .i64 1))] [],
 m 21 44])))))))
 (q (F [
 m 45 7,
 m 4 45,
 i 5 0])
 .ret)))))⟩
def eT:DFun:=⟨40,10,[.p,.p],[.o 49,.p v1],[.t 4,.t 5],
 q (F [
 u 2 (.box 2) [0],
 u 3 (.box 3) [1],
 o 4 (.mv) [(.c (.zs 49 true))] [],
 i 5 0])
 (q (F [
 u 11 (.load v9) [2],
 u 12 (.load cC) [3],
 y 13 53 [6,7] [11,12] [],
 m 10 13,
 u 14 (.ext 0) [10],
 u 15 (.ext 1) [10],
 m 6 14,
 m 7 15])
 (q (q (F [
 m 16 7,
 o 17 (.bin .neq) [(.t 16),(.c (.int .i64 0))] []])
 (.cond (.t 17) (q (F [
 m 18 7,
 o 4 (.mv) [(.c (.zs 49 true))] [],
 m 5 18])
 .ret) .skip))
 (q (F [
 o 8 (.mv) [(.c (.zs 49 true))] []])
 (q (q (F [
 i 9 0])
 (.block 0 (.loop ⟨[3,6],[(8,.o 8 49),(9,.p v1)],[(3,.v [.p (.int .u8),.p (.int .u64),.p (.int .u64),.p (.int .i64)]),(6,.a 49)]⟩ (q (q (F [
 m 19 9,
 m 20 6,
 u 21 .len [20],
 u 22 (.bin .lss) [19,21]])
 (.cond (.t 22) .skip (.exit 0)))
 (q (.block 1 (q (T [
 u 25 (.load cC) [3],
 m 26 6,
 m 27 9,
 t 28 (.aA 49) [26,27] [1,2],
 t 29 (.aR 0) [28] [3],
 t 30 (.load cC) [29] [4],
 y 31 54 [9] [25,30] [0,5]])
 (.cond (.t 31) (F [
 m 32 8,
 m 33 6,
 m 34 9,
 u 35 (.aA 49) [33,34],
 u 36 (.load b6) [35],
 u 37 (.bn 4 49) [36],
 u 38 (.append 5 49 56) [32,37],
 m 8 38]) .skip)))
 (F [
 m 23 9,
 o 24 (.bin .add) [(.t 23),(.c (.int .i64 1))] [],
 m 9 24]))))))
 (q (F [
 m 39 8,
 m 4 39,
 i 5 0])
 .ret)))))⟩
def lD:DFun:=⟨56,11,[.p,.p,.p],[.p b6,.p v1],[.c 6,.t 7],
 q (F [
 u 3 (.box 3) [0],
 u 5 (.box 4) [2],
 u 6 (.alloc 5 xO) [],
 i 7 0])
 (q (F [
 u 11 (.load v9) [3],
 y 12 18 [7] [11] [],
 m 8 12])
 (q (q (F [
 m 13 8,
 o 14 (.bin .neq) [(.t 13),(.c (.int .i64 0))] []])
 (.cond (.t 14) (q (F [
 u 15 (.build xO []) [],
 m 16 8,
 ⟨none,.store b6,[(.t 6),(.t 15)],[],none⟩,
 m 7 16])
 .ret) .skip))
 (q (q (F [
 m 17 1,
 o 18 (.bin .neq) [(.t 17),(.c (.int .u8 4))] [],
 m 19 18,
 g 20 (.mv) [1] [] 19 true,
 ⟨some 21,.bin .neq,[(.t 20),(.c (.int .u8 6))],[],some (19,true)⟩,
 o 22 (.pick) [(.t 19),(.t 21),(.c (.bool false))] [],
 m 23 22,
 g 24 (.mv) [1] [] 23 false,
 g 25 (.load v5) [5] [] 23 false,
 ⟨some 26,.call [8],[(.c (.fn 55 [])),(.t 24),(.t 25)],[],some (23,false)⟩,
 g 27 (.not) [26] [] 23 false,
 o 28 (.pick) [(.t 23),(.c (.bool true)),(.t 27)] []])
 (.cond (.t 28) (q (F [
 u 29 (.build xO []) [],
 ⟨none,.store b6,[(.t 6),(.t 29)],[],none⟩,
 i 7 2])
 .ret) .skip))
 (q (F [
 m 30 1,
 u 31 (.load v5) [5],
 o 32 (.build yM [(0,1),(1,2),(3,1)]) [(.t 30),(.t 31),(.c (.int .i64 32))] [],
 u 9 (.alloc 6 yM) [],
 ⟨none,.store cC,[(.t 9),(.t 32)],[],none⟩])
 (q (q (F [
 m 33 1,
 o 34 (.bin .eql) [(.t 33),(.c (.int .u8 6))] []])
 (.cond (.t 34) (F [
 u 35 (.aR 3) [9],
 ⟨none,.store v1,[(.t 35),(.c (.int .i64 128))],[],none⟩]) .skip))
 (q (F [
 u 37 (.load v9) [3],
 u 38 (.load cC) [9],
 y 39 20 [9,10] [37,38] [],
 m 36 39,
 u 40 (.ext 0) [36],
 u 41 (.ext 1) [36],
 m 10 40,
 m 8 41])
 (q (q (F [
 m 42 8,
 o 43 (.bin .neq) [(.t 42),(.c (.int .i64 0))] []])
 (.cond (.t 43) (q (F [
 u 44 (.build xO []) [],
 m 45 8,
 ⟨none,.store b6,[(.t 6),(.t 44)],[],none⟩,
 m 7 45])
 .ret) .skip))
 (q (q (F [
 m 46 10,
 u 47 .len [46],
 o 48 (.bin .eql) [(.t 47),(.c (.int .i64 0))] []])
 (.cond (.t 48) (q (F [
 u 49 (.build xO []) [],
 ⟨none,.store b6,[(.t 6),(.t 49)],[],none⟩,
 i 7 6])
 .ret) .skip))
 (q (F [
 m 50 10,
 m 51 10,
 u 52 .len [51],
 o 53 (.bin .sub) [(.t 52),(.c (.int .i64 1))] [],
 u 54 (.aA 49) [50,53],
 u 55 (.load b6) [54],
 ⟨none,.store b6,[(.t 6),(.t 55)],[],none⟩,
 i 7 0])
 .ret)))))))))⟩
def eU:DFun:=⟨51,14,[.p,.p,.p],[.p b6,.p v1],[.c 6,.t 7],
 q (F [
 u 3 (.box 3) [0],
 u 5 (.box 4) [2],
 u 6 (.alloc 5 xO) [],
 i 7 0])
 (q (F [
 u 13 (.load v9) [3],
 y 14 19 [7] [13] [],
 m 8 14])
 (q (q (F [
 m 15 8,
 o 16 (.bin .eql) [(.t 15),(.c (.int .i64 0))] [],
 m 17 16,
 g 18 (.mv) [1] [] 17 true,
 g 19 (.load v5) [5] [] 17 true,
 ⟨some 20,.call [8],[(.c (.fn 56 [])),(.t 18),(.t 19)],[],some (17,true)⟩,
 g 21 (.not) [20] [] 17 true,
 o 22 (.pick) [(.t 17),(.t 21),(.c (.bool false))] []])
 (.cond (.t 22) (F [
 i 8 2]) .skip))
 (q (q (F [
 m 23 8,
 o 24 (.bin .neq) [(.t 23),(.c (.int .i64 0))] []])
 (.cond (.t 24) (q (F [
 u 25 (.build xO []) [],
 m 26 8,
 ⟨none,.store b6,[(.t 6),(.t 25)],[],none⟩,
 m 7 26])
 .ret) .skip))
 (q (T [
 m 28 1,
 u 29 (.load v5) [5],
 m 30 1,
 y 31 58 [9] [30] [2],
 y 32 57 [10,11] [28,29,31] [0,1,3],
 t 27 .mv [32] [4],
 t 33 (.ext 0) [27] [5],
 t 34 (.ext 1) [27] [5],
 u 9 (.alloc 6 yM) [],
 ⟨none,.store cC,[(.t 9),(.t 33)],[6,8],none⟩,
 t 10 .mv [34] [7,9]])
 (q (F [
 u 36 (.load v9) [3],
 u 37 (.load cC) [9],
 y 38 21 [12,13] [36,37] [],
 m 35 38,
 u 39 (.ext 0) [35],
 u 40 (.ext 1) [35],
 m 11 39,
 m 12 40])
 (q (q (F [
 m 41 11,
 u 42 .len [41],
 o 43 (.bin .eql) [(.t 42),(.c (.int .i64 0))] []])
 (.cond (.t 43) (q (F [
 u 44 (.build xO []) [],
 ⟨none,.store b6,[(.t 6),(.t 44)],[],none⟩,
 i 7 6])
 .ret) .skip))
 (q (F [
 m 45 11,
 m 46 11,
 u 47 .len [46],
 o 48 (.bin .sub) [(.t 47),(.c (.int .i64 1))] [],
 u 49 (.aA 49) [45,48],
 u 50 (.load b6) [49],
 ⟨none,.store b6,[(.t 6),(.t 50)],[],none⟩,
 i 7 0])
 .ret)))))))⟩
def cF:DFun:=⟨95,27,[.p,.p,.p,.p],[.p v0],[.t 8],
 q (F [
 u 4 (.box 4) [0],
 u 5 (.box 5) [1],
 u 7 (.box 6) [3],
 o 8 (.mv) [(.c (.bool false))] []])
 (q (q (F [
 u 23 (.load v9) [4],
 y 24 9 [11] [23] []])
 (.cond (.t 24) (q (F [
 o 8 (.mv) [(.c (.bool true))] []])
 .ret) .skip))
 (q (F [
 u 26 (.load v9) [4],
 u 27 (.load cC) [5],
 y 28 20 [12,13] [26,27] [],
 m 25 28,
 u 29 (.ext 0) [25],
 u 30 (.ext 1) [25],
 m 9 29,
 m 10 30])
 (q (F [
 u 32 (.load v9) [4],
 u 33 (.load cC) [5],
 y 34 21 [14,15] [32,33] [],
 m 31 34,
 u 35 (.ext 0) [31],
 u 36 (.ext 1) [31],
 m 11 35,
 m 12 36])
 (q (F [
 u 38 (.load v9) [4],
 u 39 (.load cC) [5],
 y 40 22 [16,17] [38,39] [],
 m 37 40,
 u 41 (.ext 0) [37],
 u 42 (.ext 1) [37],
 m 13 41,
 m 14 42])
 (q (F [
 u 44 (.load v9) [4],
 u 45 (.load cC) [5],
 y 46 23 [18,19] [44,45] [],
 m 43 46,
 u 47 (.ext 0) [43],
 u 48 (.ext 1) [43],
 m 15 47,
 m 16 48])
 (q (F [
 u 50 (.load v9) [4],
 m 51 2,
 u 52 (.load v5) [7],
 y 53 24 [20,21] [50,51,52] [],
 m 49 53,
 u 54 (.ext 0) [49],
 u 55 (.ext 1) [49],
 u 17 (.alloc 7 xO) [],
 ⟨none,.store b6,[(.t 17),(.t 54)],[],none⟩,
 m 18 55])
 (q (F [
 u 57 (.load v9) [4],
 m 58 2,
 u 59 (.load v5) [7],
 y 60 25 [22,23] [57,58,59] [],
 m 56 60,
 u 61 (.ext 0) [56],
 u 62 (.ext 1) [56],
 u 19 (.alloc 8 xO) [],
 ⟨none,.store b6,[(.t 19),(.t 61)],[],none⟩,
 m 20 62])
 (q (T [
 u 63 (.load b6) [17],
 t 64 (.bn 9 49) [63] [0],
 u 65 (.load b6) [19],
 t 66 (.bn 10 49) [65] [2],
 t 21 .mv [64] [1],
 t 22 .mv [66] [3,4]])
 (q (F [
 m 67 9,
 m 68 11,
 y 69 17 [24] [67,68] [],
 m 70 69,
 g 71 (.mv) [10] [] 70 true,
 g 72 (.mv) [12] [] 70 true,
 g 73 (.bin .eql) [71,72] [] 70 true,
 o 74 (.pick) [(.t 70),(.t 73),(.c (.bool false))] [],
 m 75 74,
 g 76 (.mv) [13] [] 75 true,
 g 77 (.mv) [15] [] 75 true,
 ⟨some 78,.call [25],[(.c (.fn 17 [])),(.t 76),(.t 77)],[],some (75,true)⟩,
 o 79 (.pick) [(.t 75),(.t 78),(.c (.bool false))] [],
 m 80 79,
 g 81 (.mv) [14] [] 80 true,
 g 82 (.mv) [16] [] 80 true,
 g 83 (.bin .eql) [81,82] [] 80 true,
 o 84 (.pick) [(.t 80),(.t 83),(.c (.bool false))] [],
 m 85 84,
 g 86 (.mv) [21] [] 85 true,
 g 87 (.mv) [22] [] 85 true,
 ⟨some 88,.call [26],[(.c (.fn 17 [])),(.t 86),(.t 87)],[],some (85,true)⟩,
 o 89 (.pick) [(.t 85),(.t 88),(.c (.bool false))] [],
 m 90 89,
 g 91 (.mv) [18] [] 90 true,
 g 92 (.mv) [20] [] 90 true,
 g 93 (.bin .eql) [91,92] [] 90 true,
 o 94 (.pick) [(.t 90),(.t 93),(.c (.bool false))] [],
 m 8 94])
 .ret)))))))))⟩
def tabL:List (Nat×Entry):=[(99,.spec ⟨[.g 69,.p],[.o 69]⟩ (growSpec 69 72)),
 (35,.code dO),
 (9,.code fE),
 (45,.code eC),
 (17,.code dF),
 (55,.code iE),
 (63,.code nP),
 (88,.code lr),
 (64,.code mJ),
 (62,.code ls),
 (76,.code mK),
 (37,.code nQ),
 (52,.code je),
 (79,.code kw),
 (42,.code pT),
 (66,.code dD),
 (100,.code iF),
 (117,.code cW),
 (129,.code eD),
 (118,.code eE),
 (125,.code uR),
 (126,.code nR),
 (110,.code rE),
 (130,.code eP),
 (131,.code fk),
 (119,.code cX),
 (135,.code fl),
 (133,.code fp),
 (132,.code cO),
 (120,.code dG),
 (121,.code dg),
 (122,.code cq),
 (123,.code cP),
 (124,.code d_),
 (109,.code eQ),
 (101,.code jf),
 (111,.code wR),
 (127,.code kz),
 (112,.code jg),
 (134,.code kA),
 (128,.code jh),
 (113,.code jK),
 (107,.code kB),
 (114,.code ji),
 (103,.code nS),
 (102,.code jk),
 (80,.code mL),
 (81,.code lu),
 (82,.code lv),
 (60,.code nT),
 (86,.code rF),
 (115,.code nU),
 (105,.code nV),
 (106,.code kC),
 (104,.wr mM 69 4),
 (83,.code pU),
 (46,.code nW),
 (47,.code iG),
 (84,.code lz),
 (48,.code kD),
 (18,.code nX),
 (49,.code pV),
 (29,.code kE),
 (50,.code rG),
 (51,.code nY),
 (20,.rf jL),
 (44,.code eb),
 (16,.code gg),
 (56,.code ec),
 (58,.code fF),
 (89,.code fG),
 (61,.code gk),
 (28,.code fH),
 (77,.code fq),
 (39,.code eR),
 (54,.code fr),
 (65,.code eS),
 (31,.code ft),
 (96,.code fI),
 (87,.code gl),
 (57,.code gY),
 (97,.code fJ),
 (98,.code gZ),
 (78,.code gm),
 (41,.code gn),
 (43,.code gr),
 (19,.code fK),
 (53,.code fu),
 (21,.code eF),
 (22,.code lC),
 (23,.code eT),
 (24,.code lD),
 (25,.code eU),
 (4,.code cF)]
def tab (g:Nat):Option Entry:=tabL.lookup g
end Go.Proofs.Ytkfnkiejikhglaa.Own
