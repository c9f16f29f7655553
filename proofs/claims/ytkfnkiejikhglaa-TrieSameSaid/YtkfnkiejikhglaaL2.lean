import Derived.Test.YtkfnkiejikhglaaL1
import Derived.Test.YtkfnkiejikhglaaC
import Derived.Test.YtkfnkiejikhglaaG5
import Derived.KernelRfl
import Derived.Test.YtkfnkiejikhglaaRTrieSame
set_option linter.unusedVariables false
set_option linter.unusedSimpArgs false
set_option linter.unusedSectionVars false
namespace Go.Proofs.Ytkfnkiejikhglaa.Own
open Go Go.Proofs.Ytkfnkiejikhglaa.GD
abbrev V (g:Nat) (l r:List D):Prop:=Ev ty tab g l r
theorem rc {g:Nat} {l r:List D} {t:List Row} (h:Ev ty tab g l r) (hs:nz ty tab t):nz ty tab ((g,l,r)::t):=⟨h,hs⟩
theorem rn:nz ty tab []:=trivial
theorem er {g:Nat} {l r:List D} {t:List Row} (ht:nz ty tab t) (he:DM ty tab t 400 g l=some r:=by kernel_rfl):Ev ty tab g l r:=Ev.any ht 400 he
def x0:List D:=[(D.int .u64 10),(D.int .u64 0),(D.int .u64 0),(D.int .u64 0),(D.int .i64 8)]
def x1:List D:=[(D.agg [(D.int .u8 4),(D.int .u64 0),(D.int .u64 167772160),(D.int .i64 8)])]
theorem w0:V 34 x0 x1:=er rn
def x2:List D:=[(D.int .u64 10),(D.int .u64 1),(D.int .u64 0),(D.int .u64 0),(D.int .i64 16)]
def x3:List D:=[(D.agg [(D.int .u8 4),(D.int .u64 0),(D.int .u64 167837696),(D.int .i64 16)])]
theorem w1:V 34 x2 x3:=er rn
def x4:List D:=[(D.int .u64 10),(D.int .u64 2),(D.int .u64 0),(D.int .u64 0),(D.int .i64 16)]
def x5:List D:=[(D.agg [(D.int .u8 4),(D.int .u64 0),(D.int .u64 167903232),(D.int .i64 16)])]
theorem w2:V 34 x4 x5:=er rn
def x6:List D:=[(D.ov 49 false [(D.agg [(D.int .u8 4),(D.int .u64 0),(D.int .u64 167772160),(D.int .i64 8),(D.sl 3 false [(D.int .i64 1)])]),(D.agg [(D.int .u8 4),(D.int .u64 0),(D.int .u64 167837696),(D.int .i64 16),(D.sl 3 false [(D.int .i64 2)])]),(D.agg [(D.int .u8 4),(D.int .u64 0),(D.int .u64 167903232),(D.int .i64 16),(D.sl 3 false [(D.int .i64 3)])])])]
theorem w3:V 59 [] x6:=er (rc w0 (rc w1 (rc w2 rn)))
theorem w4:V 88 [(D.int .u8 4)] [(D.int .i64 32)]:=er rn
def x7:List D:=[(D.int .u8 4),(D.agg [(D.int .u64 0),(D.int .u64 167772160)])]
theorem w5:V 55 x7 [(D.bool true)]:=er rn
theorem w6:V 64 [(D.int .u8 4),(D.int .i64 8)] [(D.agg [(D.int .u64 0),(D.int .u64 4278190080)])]:=er (rc w4 rn)
def x8:List D:=[(D.agg [(D.int .u64 0),(D.int .u64 167772160)]),(D.agg [(D.int .u64 0),(D.int .u64 4278190080)])]
theorem w7:V 63 x8 [(D.agg [(D.int .u64 0),(D.int .u64 167772160)])]:=er rn
theorem w8:V 62 x1 [(D.int .i64 0)]:=er (rc w4 (rc w5 (rc w6 (rc w7 rn))))
theorem w9:V 76 [(D.sl 3 false [(D.int .i64 1)])] [(D.bool true)]:=er rn
def x9:List D:=[(D.int .u8 4),(D.agg [(D.int .u64 0),(D.int .u64 167837696)])]
theorem tx:V 55 x9 [(D.bool true)]:=er rn
theorem EJ:V 64 [(D.int .u8 4),(D.int .i64 16)] [(D.agg [(D.int .u64 0),(D.int .u64 4294901760)])]:=er (rc w4 rn)
def x10:List D:=[(D.agg [(D.int .u64 0),(D.int .u64 167837696)]),(D.agg [(D.int .u64 0),(D.int .u64 4294901760)])]
theorem Ld:V 63 x10 [(D.agg [(D.int .u64 0),(D.int .u64 167837696)])]:=er rn
theorem Le:V 62 x3 [(D.int .i64 0)]:=er (rc w4 (rc tx (rc EJ (rc Ld rn))))
theorem MO:V 76 [(D.sl 3 false [(D.int .i64 2)])] [(D.bool true)]:=er rn
def x11:List D:=[(D.int .u8 4),(D.agg [(D.int .u64 0),(D.int .u64 167903232)])]
theorem tC:V 55 x11 [(D.bool true)]:=er rn
def x12:List D:=[(D.agg [(D.int .u64 0),(D.int .u64 167903232)]),(D.agg [(D.int .u64 0),(D.int .u64 4294901760)])]
theorem Lf:V 63 x12 [(D.agg [(D.int .u64 0),(D.int .u64 167903232)])]:=er rn
theorem Lh:V 62 x5 [(D.int .i64 0)]:=er (rc w4 (rc tC (rc EJ (rc Lf rn))))
theorem MP:V 76 [(D.sl 3 false [(D.int .i64 3)])] [(D.bool true)]:=er rn
def x13:List D:=[(D.sl 49 false [(D.agg [(D.int .u8 4),(D.int .u64 0),(D.int .u64 167772160),(D.int .i64 8),(D.sl 3 false [(D.int .i64 1)])]),(D.agg [(D.int .u8 4),(D.int .u64 0),(D.int .u64 167837696),(D.int .i64 16),(D.sl 3 false [(D.int .i64 2)])]),(D.agg [(D.int .u8 4),(D.int .u64 0),(D.int .u64 167903232),(D.int .i64 16),(D.sl 3 false [(D.int .i64 3)])])])]
theorem Li:V 37 x13 [(D.int .i64 0)]:=er (rc w8 (rc w9 (rc Le (rc MO (rc Lh (rc MP rn))))))
theorem MQ:V 100 x13 x6:=er rn
theorem MR:V 126 [(D.int .u64 3)] [(D.int .i64 2)]:=er rn
theorem MS:V 110 [(D.int .u64 3)] [(D.int .i64 2)]:=er (rc MR rn)
def x14:List D:=[(D.agg [(D.int .u8 4),(D.int .u64 0),(D.int .u64 167837696),(D.int .i64 16),(D.sl 3 false [(D.int .i64 2)])])]
theorem Lj:V 81 x14 x3:=er rn
def x15:List D:=[(D.agg [(D.int .u8 4),(D.int .u64 0),(D.int .u64 167772160),(D.int .i64 8),(D.sl 3 false [(D.int .i64 1)])])]
theorem MT:V 81 x15 x1:=er rn
theorem MU:V 127 [(D.int .u8 4)] [(D.bool false)]:=er rn
theorem Ll:V 112 [(D.int .u8 4),(D.int .u8 4)] [(D.int .i64 0)]:=er (rc MU rn)
theorem MV:V 134 [(D.int .u64 0)] [(D.bool false)]:=er rn
theorem Lm:V 128 [(D.int .u64 0),(D.int .u64 0)] [(D.int .i64 0)]:=er (rc MV rn)
theorem Ln:V 134 [(D.int .u64 167837696)] [(D.bool false)]:=er rn
theorem MW:V 134 [(D.int .u64 167772160)] [(D.bool false)]:=er rn
theorem MX:V 128 [(D.int .u64 167837696),(D.int .u64 167772160)] [(D.int .i64 1)]:=er (rc Ln (rc MW rn))
def x16:List D:=[(D.agg [(D.int .u64 0),(D.int .u64 167837696)]),(D.agg [(D.int .u64 0),(D.int .u64 167772160)])]
theorem MY:V 113 x16 [(D.int .i64 1)]:=er (rc Lm (rc MX rn))
theorem Lo:V 107 [(D.int .i64 16)] [(D.bool false)]:=er rn
theorem MZ:V 107 [(D.int .i64 8)] [(D.bool false)]:=er rn
theorem M1:V 114 [(D.int .i64 16),(D.int .i64 8)] [(D.int .i64 1)]:=er (rc Lo (rc MZ rn))
def x17:List D:=[(D.sl 3 false [(D.int .i64 0),(D.int .i64 1),(D.int .i64 1)])]
theorem M2:V 111 x17 [(D.int .i64 1)]:=er rn
def x18:List D:=[(D.agg [(D.int .u8 4),(D.int .u64 0),(D.int .u64 167837696),(D.int .i64 16)]),(D.agg [(D.int .u8 4),(D.int .u64 0),(D.int .u64 167772160),(D.int .i64 8)])]
theorem M3:V 103 x18 [(D.int .i64 1)]:=er (rc Ll (rc MY (rc M1 (rc M2 rn))))
def x19:List D:=[(D.agg [(D.int .u8 4),(D.int .u64 0),(D.int .u64 167837696),(D.int .i64 16),(D.sl 3 false [(D.int .i64 2)])]),(D.agg [(D.int .u8 4),(D.int .u64 0),(D.int .u64 167772160),(D.int .i64 8),(D.sl 3 false [(D.int .i64 1)])]),(D.rp [(D.fn 81 [])] 0)]
theorem M4:V 102 x19 [(D.int .i64 1)]:=er (rc Lj (rc MT (rc M3 rn)))
def x20:List D:=[(D.agg [(D.int .u8 4),(D.int .u64 0),(D.int .u64 167903232),(D.int .i64 16),(D.sl 3 false [(D.int .i64 3)])])]
theorem M5:V 81 x20 x5:=er rn
theorem M6:V 134 [(D.int .u64 167903232)] [(D.bool false)]:=er rn
theorem M7:V 128 [(D.int .u64 167903232),(D.int .u64 167837696)] [(D.int .i64 1)]:=er (rc M6 (rc Ln rn))
def x21:List D:=[(D.agg [(D.int .u64 0),(D.int .u64 167903232)]),(D.agg [(D.int .u64 0),(D.int .u64 167837696)])]
theorem M8:V 113 x21 [(D.int .i64 1)]:=er (rc Lm (rc M7 rn))
theorem M9:V 114 [(D.int .i64 16),(D.int .i64 16)] [(D.int .i64 0)]:=er (rc Lo rn)
def x22:List D:=[(D.sl 3 false [(D.int .i64 0),(D.int .i64 1),(D.int .i64 0)])]
theorem M_:V 111 x22 [(D.int .i64 1)]:=er rn
def x23:List D:=[(D.agg [(D.int .u8 4),(D.int .u64 0),(D.int .u64 167903232),(D.int .i64 16)]),(D.agg [(D.int .u8 4),(D.int .u64 0),(D.int .u64 167837696),(D.int .i64 16)])]
theorem Na:V 103 x23 [(D.int .i64 1)]:=er (rc Ll (rc M8 (rc M9 (rc M_ rn))))
def x24:List D:=[(D.agg [(D.int .u8 4),(D.int .u64 0),(D.int .u64 167903232),(D.int .i64 16),(D.sl 3 false [(D.int .i64 3)])]),(D.agg [(D.int .u8 4),(D.int .u64 0),(D.int .u64 167837696),(D.int .i64 16),(D.sl 3 false [(D.int .i64 2)])]),(D.rp [(D.fn 81 [])] 0)]
theorem Nb:V 102 x24 [(D.int .i64 1)]:=er (rc M5 (rc Lj (rc Na rn)))
def x25:List D:=[(D.ov 49 false [(D.agg [(D.int .u8 4),(D.int .u64 0),(D.int .u64 167772160),(D.int .i64 8),(D.sl 3 false [(D.int .i64 1)])]),(D.agg [(D.int .u8 4),(D.int .u64 0),(D.int .u64 167837696),(D.int .i64 16),(D.sl 3 false [(D.int .i64 2)])]),(D.agg [(D.int .u8 4),(D.int .u64 0),(D.int .u64 167903232),(D.int .i64 16),(D.sl 3 false [(D.int .i64 3)])])]),(D.int .i64 0),(D.int .i64 3),(D.fn 102 [(D.rp [(D.fn 81 [])] 0)])]
theorem Nc:V 117 x25 x6:=er (rc M4 (rc Nb rn))
def x26:List D:=[(D.ov 49 false [(D.agg [(D.int .u8 4),(D.int .u64 0),(D.int .u64 167772160),(D.int .i64 8),(D.sl 3 false [(D.int .i64 1)])]),(D.agg [(D.int .u8 4),(D.int .u64 0),(D.int .u64 167837696),(D.int .i64 16),(D.sl 3 false [(D.int .i64 2)])]),(D.agg [(D.int .u8 4),(D.int .u64 0),(D.int .u64 167903232),(D.int .i64 16),(D.sl 3 false [(D.int .i64 3)])])]),(D.int .i64 0),(D.int .i64 3),(D.int .i64 2),(D.fn 102 [(D.rp [(D.fn 81 [])] 0)])]
theorem Nf:V 109 x26 x6:=er (rc Nc rn)
def x27:List D:=[(D.ov 49 false [(D.agg [(D.int .u8 4),(D.int .u64 0),(D.int .u64 167772160),(D.int .i64 8),(D.sl 3 false [(D.int .i64 1)])]),(D.agg [(D.int .u8 4),(D.int .u64 0),(D.int .u64 167837696),(D.int .i64 16),(D.sl 3 false [(D.int .i64 2)])]),(D.agg [(D.int .u8 4),(D.int .u64 0),(D.int .u64 167903232),(D.int .i64 16),(D.sl 3 false [(D.int .i64 3)])])]),(D.fn 102 [(D.rp [(D.fn 81 [])] 0)])]
theorem Ng:V 101 x27 x6:=er (rc MS (rc Nf rn))
def x28:List D:=[(D.sl 49 false [(D.agg [(D.int .u8 4),(D.int .u64 0),(D.int .u64 167772160),(D.int .i64 8),(D.sl 3 false [(D.int .i64 1)])]),(D.agg [(D.int .u8 4),(D.int .u64 0),(D.int .u64 167837696),(D.int .i64 16),(D.sl 3 false [(D.int .i64 2)])]),(D.agg [(D.int .u8 4),(D.int .u64 0),(D.int .u64 167903232),(D.int .i64 16),(D.sl 3 false [(D.int .i64 3)])])]),(D.fn 81 [])]
theorem Nh:V 80 x28 x6:=er (rc MQ (rc Ng rn))
theorem Ni:V 82 x15 [(D.bool false)]:=er rn
theorem Nj:V 82 x14 [(D.bool false)]:=er rn
theorem Nk:V 82 x20 [(D.bool false)]:=er rn
def x29:List D:=[(D.sl 49 false [(D.agg [(D.int .u8 4),(D.int .u64 0),(D.int .u64 167772160),(D.int .i64 8),(D.sl 3 false [(D.int .i64 1)])]),(D.agg [(D.int .u8 4),(D.int .u64 0),(D.int .u64 167837696),(D.int .i64 16),(D.sl 3 false [(D.int .i64 2)])]),(D.agg [(D.int .u8 4),(D.int .u64 0),(D.int .u64 167903232),(D.int .i64 16),(D.sl 3 false [(D.int .i64 3)])])]),(D.fn 82 [])]
theorem Nl:V 66 x29 [(D.int .i64 (-1))]:=er (rc Ni (rc Nj (rc Nk rn)))
def x30:List D:=[(D.int .u8 4),(D.agg [(D.int .u64 0),(D.int .u64 167772160)]),(D.int .i64 0)]
theorem Nm:V 60 x30 [(D.int .i64 0),(D.int .i64 0)]:=er (rc w5 (rc w4 rn))
def x31:List D:=[(D.agg [(D.int .u8 4),(D.int .u64 0),(D.int .u64 167772160),(D.int .i64 8)]),(D.int .i64 0)]
theorem Nn:V 86 x31 [(D.int .i64 0)]:=er (rc Nm rn)
def x32:List D:=[(D.int .u8 4),(D.agg [(D.int .u64 0),(D.int .u64 167903232)]),(D.int .i64 0)]
theorem Np:V 60 x32 [(D.int .i64 0),(D.int .i64 0)]:=er (rc tC (rc w4 rn))
def x33:List D:=[(D.agg [(D.int .u8 4),(D.int .u64 0),(D.int .u64 167903232),(D.int .i64 16)]),(D.int .i64 0)]
theorem Iy:V 86 x33 [(D.int .i64 0)]:=er (rc Np rn)
def x34:List D:=[(D.int .u8 4),(D.agg [(D.int .u64 0),(D.int .u64 167772160)]),(D.int .i64 1)]
theorem Nq:V 60 x34 [(D.int .i64 0),(D.int .i64 0)]:=er (rc w5 (rc w4 rn))
def x35:List D:=[(D.agg [(D.int .u8 4),(D.int .u64 0),(D.int .u64 167772160),(D.int .i64 8)]),(D.int .i64 1)]
theorem Ns:V 86 x35 [(D.int .i64 0)]:=er (rc Nq rn)
def x36:List D:=[(D.int .u8 4),(D.agg [(D.int .u64 0),(D.int .u64 167903232)]),(D.int .i64 1)]
theorem Nt:V 60 x36 [(D.int .i64 0),(D.int .i64 0)]:=er (rc tC (rc w4 rn))
def x37:List D:=[(D.agg [(D.int .u8 4),(D.int .u64 0),(D.int .u64 167903232),(D.int .i64 16)]),(D.int .i64 1)]
theorem Iz:V 86 x37 [(D.int .i64 0)]:=er (rc Nt rn)
def x38:List D:=[(D.int .u8 4),(D.agg [(D.int .u64 0),(D.int .u64 167772160)]),(D.int .i64 2)]
theorem Nu:V 60 x38 [(D.int .i64 0),(D.int .i64 0)]:=er (rc w5 (rc w4 rn))
def x39:List D:=[(D.agg [(D.int .u8 4),(D.int .u64 0),(D.int .u64 167772160),(D.int .i64 8)]),(D.int .i64 2)]
theorem Nv:V 86 x39 [(D.int .i64 0)]:=er (rc Nu rn)
def x40:List D:=[(D.int .u8 4),(D.agg [(D.int .u64 0),(D.int .u64 167903232)]),(D.int .i64 2)]
theorem Nw:V 60 x40 [(D.int .i64 0),(D.int .i64 0)]:=er (rc tC (rc w4 rn))
def x41:List D:=[(D.agg [(D.int .u8 4),(D.int .u64 0),(D.int .u64 167903232),(D.int .i64 16)]),(D.int .i64 2)]
theorem IA:V 86 x41 [(D.int .i64 0)]:=er (rc Nw rn)
def x42:List D:=[(D.int .u8 4),(D.agg [(D.int .u64 0),(D.int .u64 167772160)]),(D.int .i64 3)]
theorem Nx:V 60 x42 [(D.int .i64 0),(D.int .i64 0)]:=er (rc w5 (rc w4 rn))
def x43:List D:=[(D.agg [(D.int .u8 4),(D.int .u64 0),(D.int .u64 167772160),(D.int .i64 8)]),(D.int .i64 3)]
theorem Ny:V 86 x43 [(D.int .i64 0)]:=er (rc Nx rn)
def x44:List D:=[(D.int .u8 4),(D.agg [(D.int .u64 0),(D.int .u64 167903232)]),(D.int .i64 3)]
theorem Nz:V 60 x44 [(D.int .i64 0),(D.int .i64 0)]:=er (rc tC (rc w4 rn))
def x45:List D:=[(D.agg [(D.int .u8 4),(D.int .u64 0),(D.int .u64 167903232),(D.int .i64 16)]),(D.int .i64 3)]
theorem IB:V 86 x45 [(D.int .i64 0)]:=er (rc Nz rn)
def x46:List D:=[(D.int .u8 4),(D.agg [(D.int .u64 0),(D.int .u64 167772160)]),(D.int .i64 4)]
theorem NA:V 60 x46 [(D.int .i64 1),(D.int .i64 0)]:=er (rc w5 (rc w4 rn))
def x47:List D:=[(D.agg [(D.int .u8 4),(D.int .u64 0),(D.int .u64 167772160),(D.int .i64 8)]),(D.int .i64 4)]
theorem NB:V 86 x47 [(D.int .i64 1)]:=er (rc NA rn)
def x48:List D:=[(D.int .u8 4),(D.agg [(D.int .u64 0),(D.int .u64 167903232)]),(D.int .i64 4)]
theorem NC:V 60 x48 [(D.int .i64 1),(D.int .i64 0)]:=er (rc tC (rc w4 rn))
def x49:List D:=[(D.agg [(D.int .u8 4),(D.int .u64 0),(D.int .u64 167903232),(D.int .i64 16)]),(D.int .i64 4)]
theorem IC:V 86 x49 [(D.int .i64 1)]:=er (rc NC rn)
def x50:List D:=[(D.int .u8 4),(D.agg [(D.int .u64 0),(D.int .u64 167772160)]),(D.int .i64 5)]
theorem ND:V 60 x50 [(D.int .i64 0),(D.int .i64 0)]:=er (rc w5 (rc w4 rn))
def x51:List D:=[(D.agg [(D.int .u8 4),(D.int .u64 0),(D.int .u64 167772160),(D.int .i64 8)]),(D.int .i64 5)]
theorem NE:V 86 x51 [(D.int .i64 0)]:=er (rc ND rn)
def x52:List D:=[(D.int .u8 4),(D.agg [(D.int .u64 0),(D.int .u64 167903232)]),(D.int .i64 5)]
theorem NF:V 60 x52 [(D.int .i64 0),(D.int .i64 0)]:=er (rc tC (rc w4 rn))
def x53:List D:=[(D.agg [(D.int .u8 4),(D.int .u64 0),(D.int .u64 167903232),(D.int .i64 16)]),(D.int .i64 5)]
theorem ID:V 86 x53 [(D.int .i64 0)]:=er (rc NF rn)
def x54:List D:=[(D.int .u8 4),(D.agg [(D.int .u64 0),(D.int .u64 167772160)]),(D.int .i64 6)]
theorem NG:V 60 x54 [(D.int .i64 1),(D.int .i64 0)]:=er (rc w5 (rc w4 rn))
def x55:List D:=[(D.agg [(D.int .u8 4),(D.int .u64 0),(D.int .u64 167772160),(D.int .i64 8)]),(D.int .i64 6)]
theorem NH:V 86 x55 [(D.int .i64 1)]:=er (rc NG rn)
def x56:List D:=[(D.int .u8 4),(D.agg [(D.int .u64 0),(D.int .u64 167903232)]),(D.int .i64 6)]
theorem NI:V 60 x56 [(D.int .i64 1),(D.int .i64 0)]:=er (rc tC (rc w4 rn))
def x57:List D:=[(D.agg [(D.int .u8 4),(D.int .u64 0),(D.int .u64 167903232),(D.int .i64 16)]),(D.int .i64 6)]
theorem IE:V 86 x57 [(D.int .i64 1)]:=er (rc NI rn)
def x58:List D:=[(D.int .u8 4),(D.agg [(D.int .u64 0),(D.int .u64 167772160)]),(D.int .i64 7)]
theorem NJ:V 60 x58 [(D.int .i64 0),(D.int .i64 0)]:=er (rc w5 (rc w4 rn))
def x59:List D:=[(D.agg [(D.int .u8 4),(D.int .u64 0),(D.int .u64 167772160),(D.int .i64 8)]),(D.int .i64 7)]
theorem NK:V 86 x59 [(D.int .i64 0)]:=er (rc NJ rn)
def x60:List D:=[(D.int .u8 4),(D.agg [(D.int .u64 0),(D.int .u64 167903232)]),(D.int .i64 7)]
theorem NL:V 60 x60 [(D.int .i64 0),(D.int .i64 0)]:=er (rc tC (rc w4 rn))
def x61:List D:=[(D.agg [(D.int .u8 4),(D.int .u64 0),(D.int .u64 167903232),(D.int .i64 16)]),(D.int .i64 7)]
theorem IF:V 86 x61 [(D.int .i64 0)]:=er (rc NL rn)
def x62:List D:=[(D.int .u8 4),(D.agg [(D.int .u64 0),(D.int .u64 167772160)]),(D.int .i64 8)]
theorem NM:V 115 x62 x31:=er (rc w5 (rc w4 (rc w6 (rc w7 rn))))
def x63:List D:=[(D.agg [(D.int .u8 4),(D.int .u64 0),(D.int .u64 167772160),(D.int .i64 8)]),(D.agg [(D.int .u8 4),(D.int .u64 0),(D.int .u64 167903232),(D.int .i64 16)])]
theorem NN:V 105 x63 x1:=er (rc Nn (rc Iy (rc Ns (rc Iz (rc Nv (rc IA (rc Ny (rc IB (rc NB (rc IC (rc NE (rc ID (rc NH (rc IE (rc NK (rc IF (rc NM rn)))))))))))))))))
theorem G5:V 52 [(D.sl 3 false [(D.int .i64 1)])] [(D.ov 3 false [(D.int .i64 1)])]:=er rn
def x64:List D:=[(D.int .u8 4),(D.agg [(D.int .u64 0),(D.int .u64 167837696)]),(D.int .i64 8)]
theorem NO:V 60 x64 [(D.int .i64 0),(D.int .i64 0)]:=er (rc tx (rc w4 rn))
def x65:List D:=[(D.agg [(D.int .u8 4),(D.int .u64 0),(D.int .u64 167837696),(D.int .i64 16)]),(D.int .i64 8)]
theorem IG:V 86 x65 [(D.int .i64 0)]:=er (rc NO rn)
def x66:List D:=[(D.agg [(D.int .u8 4),(D.int .u64 0),(D.int .u64 167837696),(D.int .i64 16),(D.sl 3 false [(D.int .i64 2)])]),(D.rp [(D.int .u8 4),(D.int .u64 0),(D.int .u64 167772160),(D.int .i64 8)] 0)]
theorem NP:V 106 x66 [(D.bool false)]:=er (rc IG rn)
def x67:List D:=[(D.int .u8 4),(D.agg [(D.int .u64 0),(D.int .u64 167903232)]),(D.int .i64 8)]
theorem NQ:V 60 x67 [(D.int .i64 0),(D.int .i64 0)]:=er (rc tC (rc w4 rn))
def x68:List D:=[(D.agg [(D.int .u8 4),(D.int .u64 0),(D.int .u64 167903232),(D.int .i64 16)]),(D.int .i64 8)]
theorem II:V 86 x68 [(D.int .i64 0)]:=er (rc NQ rn)
def x69:List D:=[(D.agg [(D.int .u8 4),(D.int .u64 0),(D.int .u64 167903232),(D.int .i64 16),(D.sl 3 false [(D.int .i64 3)])]),(D.rp [(D.int .u8 4),(D.int .u64 0),(D.int .u64 167772160),(D.int .i64 8)] 0)]
theorem NR:V 106 x69 [(D.bool false)]:=er (rc II rn)
def x70:List D:=[(D.sl 49 false [(D.agg [(D.int .u8 4),(D.int .u64 0),(D.int .u64 167837696),(D.int .i64 16),(D.sl 3 false [(D.int .i64 2)])]),(D.agg [(D.int .u8 4),(D.int .u64 0),(D.int .u64 167903232),(D.int .i64 16),(D.sl 3 false [(D.int .i64 3)])])]),(D.fn 106 [(D.rp [(D.int .u8 4),(D.int .u64 0),(D.int .u64 167772160),(D.int .i64 8)] 0)])]
theorem NS:V 66 x70 [(D.int .i64 (-1))]:=er (rc NP (rc NR rn))
def x71:List D:=[(D.int .u8 4),(D.agg [(D.int .u64 0),(D.int .u64 167837696)]),(D.int .i64 0)]
theorem NT:V 60 x71 [(D.int .i64 0),(D.int .i64 0)]:=er (rc tx (rc w4 rn))
def x72:List D:=[(D.agg [(D.int .u8 4),(D.int .u64 0),(D.int .u64 167837696),(D.int .i64 16)]),(D.int .i64 0)]
theorem Lp:V 86 x72 [(D.int .i64 0)]:=er (rc NT rn)
def x73:List D:=[(D.int .u8 4),(D.agg [(D.int .u64 0),(D.int .u64 167837696)]),(D.int .i64 1)]
theorem NU:V 60 x73 [(D.int .i64 0),(D.int .i64 0)]:=er (rc tx (rc w4 rn))
def x74:List D:=[(D.agg [(D.int .u8 4),(D.int .u64 0),(D.int .u64 167837696),(D.int .i64 16)]),(D.int .i64 1)]
theorem FY:V 86 x74 [(D.int .i64 0)]:=er (rc NU rn)
def x75:List D:=[(D.int .u8 4),(D.agg [(D.int .u64 0),(D.int .u64 167837696)]),(D.int .i64 2)]
theorem IJ:V 60 x75 [(D.int .i64 0),(D.int .i64 0)]:=er (rc tx (rc w4 rn))
def x76:List D:=[(D.agg [(D.int .u8 4),(D.int .u64 0),(D.int .u64 167837696),(D.int .i64 16)]),(D.int .i64 2)]
theorem FZ:V 86 x76 [(D.int .i64 0)]:=er (rc IJ rn)
def x77:List D:=[(D.int .u8 4),(D.agg [(D.int .u64 0),(D.int .u64 167837696)]),(D.int .i64 3)]
theorem IK:V 60 x77 [(D.int .i64 0),(D.int .i64 0)]:=er (rc tx (rc w4 rn))
def x78:List D:=[(D.agg [(D.int .u8 4),(D.int .u64 0),(D.int .u64 167837696),(D.int .i64 16)]),(D.int .i64 3)]
theorem F0:V 86 x78 [(D.int .i64 0)]:=er (rc IK rn)
def x79:List D:=[(D.int .u8 4),(D.agg [(D.int .u64 0),(D.int .u64 167837696)]),(D.int .i64 4)]
theorem IL:V 60 x79 [(D.int .i64 1),(D.int .i64 0)]:=er (rc tx (rc w4 rn))
def x80:List D:=[(D.agg [(D.int .u8 4),(D.int .u64 0),(D.int .u64 167837696),(D.int .i64 16)]),(D.int .i64 4)]
theorem F1:V 86 x80 [(D.int .i64 1)]:=er (rc IL rn)
def x81:List D:=[(D.int .u8 4),(D.agg [(D.int .u64 0),(D.int .u64 167837696)]),(D.int .i64 5)]
theorem IM:V 60 x81 [(D.int .i64 0),(D.int .i64 0)]:=er (rc tx (rc w4 rn))
def x82:List D:=[(D.agg [(D.int .u8 4),(D.int .u64 0),(D.int .u64 167837696),(D.int .i64 16)]),(D.int .i64 5)]
theorem F2:V 86 x82 [(D.int .i64 0)]:=er (rc IM rn)
def x83:List D:=[(D.int .u8 4),(D.agg [(D.int .u64 0),(D.int .u64 167837696)]),(D.int .i64 6)]
theorem IP:V 60 x83 [(D.int .i64 1),(D.int .i64 0)]:=er (rc tx (rc w4 rn))
def x84:List D:=[(D.agg [(D.int .u8 4),(D.int .u64 0),(D.int .u64 167837696),(D.int .i64 16)]),(D.int .i64 6)]
theorem F3:V 86 x84 [(D.int .i64 1)]:=er (rc IP rn)
def x85:List D:=[(D.int .u8 4),(D.agg [(D.int .u64 0),(D.int .u64 167837696)]),(D.int .i64 7)]
theorem IQ:V 60 x85 [(D.int .i64 0),(D.int .i64 0)]:=er (rc tx (rc w4 rn))
def x86:List D:=[(D.agg [(D.int .u8 4),(D.int .u64 0),(D.int .u64 167837696),(D.int .i64 16)]),(D.int .i64 7)]
theorem F4:V 86 x86 [(D.int .i64 0)]:=er (rc IQ rn)
def x87:List D:=[(D.int .u8 4),(D.agg [(D.int .u64 0),(D.int .u64 167837696)]),(D.int .i64 9)]
theorem IR:V 60 x87 [(D.int .i64 0),(D.int .i64 0)]:=er (rc tx (rc w4 rn))
def x88:List D:=[(D.agg [(D.int .u8 4),(D.int .u64 0),(D.int .u64 167837696),(D.int .i64 16)]),(D.int .i64 9)]
theorem F5:V 86 x88 [(D.int .i64 0)]:=er (rc IR rn)
def x89:List D:=[(D.int .u8 4),(D.agg [(D.int .u64 0),(D.int .u64 167903232)]),(D.int .i64 9)]
theorem IU:V 60 x89 [(D.int .i64 0),(D.int .i64 0)]:=er (rc tC (rc w4 rn))
def x90:List D:=[(D.agg [(D.int .u8 4),(D.int .u64 0),(D.int .u64 167903232),(D.int .i64 16)]),(D.int .i64 9)]
theorem F6:V 86 x90 [(D.int .i64 0)]:=er (rc IU rn)
def x91:List D:=[(D.int .u8 4),(D.agg [(D.int .u64 0),(D.int .u64 167837696)]),(D.int .i64 10)]
theorem IV:V 60 x91 [(D.int .i64 0),(D.int .i64 0)]:=er (rc tx (rc w4 rn))
def x92:List D:=[(D.agg [(D.int .u8 4),(D.int .u64 0),(D.int .u64 167837696),(D.int .i64 16)]),(D.int .i64 10)]
theorem F7:V 86 x92 [(D.int .i64 0)]:=er (rc IV rn)
def x93:List D:=[(D.int .u8 4),(D.agg [(D.int .u64 0),(D.int .u64 167903232)]),(D.int .i64 10)]
theorem IW:V 60 x93 [(D.int .i64 0),(D.int .i64 0)]:=er (rc tC (rc w4 rn))
def x94:List D:=[(D.agg [(D.int .u8 4),(D.int .u64 0),(D.int .u64 167903232),(D.int .i64 16)]),(D.int .i64 10)]
theorem F8:V 86 x94 [(D.int .i64 0)]:=er (rc IW rn)
def x95:List D:=[(D.int .u8 4),(D.agg [(D.int .u64 0),(D.int .u64 167837696)]),(D.int .i64 11)]
theorem IX:V 60 x95 [(D.int .i64 0),(D.int .i64 0)]:=er (rc tx (rc w4 rn))
def x96:List D:=[(D.agg [(D.int .u8 4),(D.int .u64 0),(D.int .u64 167837696),(D.int .i64 16)]),(D.int .i64 11)]
theorem F9:V 86 x96 [(D.int .i64 0)]:=er (rc IX rn)
def x97:List D:=[(D.int .u8 4),(D.agg [(D.int .u64 0),(D.int .u64 167903232)]),(D.int .i64 11)]
theorem IY:V 60 x97 [(D.int .i64 0),(D.int .i64 0)]:=er (rc tC (rc w4 rn))
def x98:List D:=[(D.agg [(D.int .u8 4),(D.int .u64 0),(D.int .u64 167903232),(D.int .i64 16)]),(D.int .i64 11)]
theorem F_:V 86 x98 [(D.int .i64 0)]:=er (rc IY rn)
def x99:List D:=[(D.int .u8 4),(D.agg [(D.int .u64 0),(D.int .u64 167837696)]),(D.int .i64 12)]
theorem IZ:V 60 x99 [(D.int .i64 0),(D.int .i64 0)]:=er (rc tx (rc w4 rn))
def x100:List D:=[(D.agg [(D.int .u8 4),(D.int .u64 0),(D.int .u64 167837696),(D.int .i64 16)]),(D.int .i64 12)]
theorem Ga:V 86 x100 [(D.int .i64 0)]:=er (rc IZ rn)
def x101:List D:=[(D.int .u8 4),(D.agg [(D.int .u64 0),(D.int .u64 167903232)]),(D.int .i64 12)]
theorem I0:V 60 x101 [(D.int .i64 0),(D.int .i64 0)]:=er (rc tC (rc w4 rn))
def x102:List D:=[(D.agg [(D.int .u8 4),(D.int .u64 0),(D.int .u64 167903232),(D.int .i64 16)]),(D.int .i64 12)]
theorem Gb:V 86 x102 [(D.int .i64 0)]:=er (rc I0 rn)
def x103:List D:=[(D.int .u8 4),(D.agg [(D.int .u64 0),(D.int .u64 167837696)]),(D.int .i64 13)]
theorem I1:V 60 x103 [(D.int .i64 0),(D.int .i64 0)]:=er (rc tx (rc w4 rn))
def x104:List D:=[(D.agg [(D.int .u8 4),(D.int .u64 0),(D.int .u64 167837696),(D.int .i64 16)]),(D.int .i64 13)]
theorem Gd:V 86 x104 [(D.int .i64 0)]:=er (rc I1 rn)
def x105:List D:=[(D.int .u8 4),(D.agg [(D.int .u64 0),(D.int .u64 167903232)]),(D.int .i64 13)]
theorem I2:V 60 x105 [(D.int .i64 0),(D.int .i64 0)]:=er (rc tC (rc w4 rn))
def x106:List D:=[(D.agg [(D.int .u8 4),(D.int .u64 0),(D.int .u64 167903232),(D.int .i64 16)]),(D.int .i64 13)]
theorem Ge:V 86 x106 [(D.int .i64 0)]:=er (rc I2 rn)
def x107:List D:=[(D.int .u8 4),(D.agg [(D.int .u64 0),(D.int .u64 167837696)]),(D.int .i64 14)]
theorem I3:V 60 x107 [(D.int .i64 0),(D.int .i64 0)]:=er (rc tx (rc w4 rn))
def x108:List D:=[(D.agg [(D.int .u8 4),(D.int .u64 0),(D.int .u64 167837696),(D.int .i64 16)]),(D.int .i64 14)]
theorem Eh:V 86 x108 [(D.int .i64 0)]:=er (rc I3 rn)
def x109:List D:=[(D.int .u8 4),(D.agg [(D.int .u64 0),(D.int .u64 167903232)]),(D.int .i64 14)]
theorem I4:V 60 x109 [(D.int .i64 1),(D.int .i64 0)]:=er (rc tC (rc w4 rn))
def x110:List D:=[(D.agg [(D.int .u8 4),(D.int .u64 0),(D.int .u64 167903232),(D.int .i64 16)]),(D.int .i64 14)]
theorem Ei:V 86 x110 [(D.int .i64 1)]:=er (rc I4 rn)
theorem Cz:V 64 [(D.int .u8 4),(D.int .i64 14)] [(D.agg [(D.int .u64 0),(D.int .u64 4294705152)])]:=er (rc w4 rn)
def x111:List D:=[(D.agg [(D.int .u64 0),(D.int .u64 167837696)]),(D.agg [(D.int .u64 0),(D.int .u64 4294705152)])]
theorem I5:V 63 x111 [(D.agg [(D.int .u64 0),(D.int .u64 167772160)])]:=er rn
def x112:List D:=[(D.agg [(D.int .u8 4),(D.int .u64 0),(D.int .u64 167772160),(D.int .i64 14)]),(D.int .i64 0)]
theorem I6:V 115 x107 x112:=er (rc tx (rc w4 (rc Cz (rc I5 rn))))
def x113:List D:=[(D.agg [(D.int .u8 4),(D.int .u64 0),(D.int .u64 167837696),(D.int .i64 16)]),(D.agg [(D.int .u8 4),(D.int .u64 0),(D.int .u64 167903232),(D.int .i64 16)])]
def x114:List D:=[(D.agg [(D.int .u8 4),(D.int .u64 0),(D.int .u64 167772160),(D.int .i64 14)])]
theorem I7:V 105 x113 x114:=er (rc Lp (rc Iy (rc FY (rc Iz (rc FZ (rc IA (rc F0 (rc IB (rc F1 (rc IC (rc F2 (rc ID (rc F3 (rc IE (rc F4 (rc IF (rc IG (rc II (rc F5 (rc F6 (rc F7 (rc F8 (rc F9 (rc F_ (rc Ga (rc Gb (rc Gd (rc Ge (rc Eh (rc Ei (rc I6 rn)))))))))))))))))))))))))))))))
def x115:List D:=[(D.agg [(D.int .u8 4),(D.int .u64 0),(D.int .u64 167837696),(D.int .i64 16),(D.sl 3 false [(D.int .i64 2)])]),(D.rp [(D.int .u8 4),(D.int .u64 0),(D.int .u64 167772160),(D.int .i64 14)] 0)]
theorem I8:V 106 x115 [(D.bool false)]:=er (rc Eh rn)
def x116:List D:=[(D.agg [(D.int .u8 4),(D.int .u64 0),(D.int .u64 167903232),(D.int .i64 16),(D.sl 3 false [(D.int .i64 3)])]),(D.rp [(D.int .u8 4),(D.int .u64 0),(D.int .u64 167772160),(D.int .i64 14)] 0)]
theorem I9:V 106 x116 [(D.bool true)]:=er (rc Ei rn)
def x117:List D:=[(D.sl 49 false [(D.agg [(D.int .u8 4),(D.int .u64 0),(D.int .u64 167837696),(D.int .i64 16),(D.sl 3 false [(D.int .i64 2)])]),(D.agg [(D.int .u8 4),(D.int .u64 0),(D.int .u64 167903232),(D.int .i64 16),(D.sl 3 false [(D.int .i64 3)])])]),(D.fn 106 [(D.rp [(D.int .u8 4),(D.int .u64 0),(D.int .u64 167772160),(D.int .i64 14)] 0)])]
theorem I_:V 66 x117 [(D.int .i64 1)]:=er (rc I8 (rc I9 rn))
def x118:List D:=[(D.int .u8 4),(D.agg [(D.int .u64 0),(D.int .u64 167837696)]),(D.int .i64 15)]
theorem Ja:V 60 x118 [(D.int .i64 1),(D.int .i64 0)]:=er (rc tx (rc w4 rn))
def x119:List D:=[(D.agg [(D.int .u8 4),(D.int .u64 0),(D.int .u64 167837696),(D.int .i64 16)]),(D.int .i64 15)]
theorem Jb:V 86 x119 [(D.int .i64 1)]:=er (rc Ja rn)
def x120:List D:=[(D.int .u8 4),(D.agg [(D.int .u64 0),(D.int .u64 167837696)]),(D.int .i64 16)]
theorem Jc:V 115 x120 x72:=er (rc tx (rc w4 (rc EJ (rc Ld rn))))
def x121:List D:=[(D.agg [(D.int .u8 4),(D.int .u64 0),(D.int .u64 167837696),(D.int .i64 16)]),(D.agg [(D.int .u8 4),(D.int .u64 0),(D.int .u64 167837696),(D.int .i64 16)])]
theorem Jd:V 105 x121 x3:=er (rc Lp (rc FY (rc FZ (rc F0 (rc F1 (rc F2 (rc F3 (rc F4 (rc IG (rc F5 (rc F7 (rc F9 (rc Ga (rc Gd (rc Eh (rc Jb (rc Jc rn)))))))))))))))))
theorem Ej:V 52 [(D.sl 3 false [(D.int .i64 2)])] [(D.ov 3 false [(D.int .i64 2)])]:=er rn
def x122:List D:=[(D.sl 49 false []),(D.fn 106 [(D.rp [(D.int .u8 4),(D.int .u64 0),(D.int .u64 167837696),(D.int .i64 16)] 0)])]
theorem Je:V 66 x122 [(D.int .i64 (-1))]:=er rn
def x123:List D:=[(D.sl 49 false []),(D.ov 69 false [(D.agg [(D.int .u8 4),(D.int .u64 0),(D.int .u64 167772160),(D.int .i64 8),(D.sl 3 false [(D.int .i64 1)]),(D.int .i64 0),(D.int .i64 0)]),(D.agg [(D.int .u8 4),(D.int .u64 0),(D.int .u64 167772160),(D.int .i64 14),(D.sl 3 true []),(D.int .i64 0),(D.int .i64 0)]),(D.agg [(D.int .u8 4),(D.int .u64 0),(D.int .u64 167837696),(D.int .i64 16),(D.sl 3 false [(D.int .i64 2)]),(D.int .i64 0),(D.int .i64 0)])])]
def x124:List D:=[(D.int .i64 (-1)),(D.ov 69 false [(D.agg [(D.int .u8 4),(D.int .u64 0),(D.int .u64 167772160),(D.int .i64 8),(D.sl 3 false [(D.int .i64 1)]),(D.int .i64 0),(D.int .i64 0)]),(D.agg [(D.int .u8 4),(D.int .u64 0),(D.int .u64 167772160),(D.int .i64 14),(D.sl 3 true []),(D.int .i64 0),(D.int .i64 0)]),(D.agg [(D.int .u8 4),(D.int .u64 0),(D.int .u64 167837696),(D.int .i64 16),(D.sl 3 false [(D.int .i64 2)]),(D.int .i64 0),(D.int .i64 0)])])]
theorem Jf:V 104 x123 x124:=er rn
def x125:List D:=[(D.sl 49 false [(D.agg [(D.int .u8 4),(D.int .u64 0),(D.int .u64 167837696),(D.int .i64 16),(D.sl 3 false [(D.int .i64 2)])])]),(D.ov 69 false [(D.agg [(D.int .u8 4),(D.int .u64 0),(D.int .u64 167772160),(D.int .i64 8),(D.sl 3 false [(D.int .i64 1)]),(D.int .i64 0),(D.int .i64 0)]),(D.agg [(D.int .u8 4),(D.int .u64 0),(D.int .u64 167772160),(D.int .i64 14),(D.sl 3 true []),(D.int .i64 0),(D.int .i64 0)])])]
def x126:List D:=[(D.int .i64 2),(D.ov 69 false [(D.agg [(D.int .u8 4),(D.int .u64 0),(D.int .u64 167772160),(D.int .i64 8),(D.sl 3 false [(D.int .i64 1)]),(D.int .i64 0),(D.int .i64 0)]),(D.agg [(D.int .u8 4),(D.int .u64 0),(D.int .u64 167772160),(D.int .i64 14),(D.sl 3 true []),(D.int .i64 0),(D.int .i64 0)]),(D.agg [(D.int .u8 4),(D.int .u64 0),(D.int .u64 167837696),(D.int .i64 16),(D.sl 3 false [(D.int .i64 2)]),(D.int .i64 (-1)),(D.int .i64 (-1))])])]
theorem Jg:V 104 x125 x126:=er (rc Jd (rc Ej (rc Je (rc Jf rn))))
def x127:List D:=[(D.int .u8 4),(D.agg [(D.int .u64 0),(D.int .u64 167903232)]),(D.int .i64 15)]
theorem Jh:V 60 x127 [(D.int .i64 0),(D.int .i64 0)]:=er (rc tC (rc w4 rn))
def x128:List D:=[(D.agg [(D.int .u8 4),(D.int .u64 0),(D.int .u64 167903232),(D.int .i64 16)]),(D.int .i64 15)]
theorem Ji:V 86 x128 [(D.int .i64 0)]:=er (rc Jh rn)
def x129:List D:=[(D.int .u8 4),(D.agg [(D.int .u64 0),(D.int .u64 167903232)]),(D.int .i64 16)]
theorem Jj:V 115 x129 x33:=er (rc tC (rc w4 (rc EJ (rc Lf rn))))
def x130:List D:=[(D.agg [(D.int .u8 4),(D.int .u64 0),(D.int .u64 167903232),(D.int .i64 16)]),(D.agg [(D.int .u8 4),(D.int .u64 0),(D.int .u64 167903232),(D.int .i64 16)])]
theorem Jk:V 105 x130 x5:=er (rc Iy (rc Iz (rc IA (rc IB (rc IC (rc ID (rc IE (rc IF (rc II (rc F6 (rc F8 (rc F_ (rc Gb (rc Ge (rc Ei (rc Ji (rc Jj rn)))))))))))))))))
theorem Gf:V 52 [(D.sl 3 false [(D.int .i64 3)])] [(D.ov 3 false [(D.int .i64 3)])]:=er rn
def x131:List D:=[(D.sl 49 false []),(D.fn 106 [(D.rp [(D.int .u8 4),(D.int .u64 0),(D.int .u64 167903232),(D.int .i64 16)] 0)])]
theorem Jl:V 66 x131 [(D.int .i64 (-1))]:=er rn
def x132:List D:=[(D.sl 49 false []),(D.ov 69 false [(D.agg [(D.int .u8 4),(D.int .u64 0),(D.int .u64 167772160),(D.int .i64 8),(D.sl 3 false [(D.int .i64 1)]),(D.int .i64 0),(D.int .i64 0)]),(D.agg [(D.int .u8 4),(D.int .u64 0),(D.int .u64 167772160),(D.int .i64 14),(D.sl 3 true []),(D.int .i64 0),(D.int .i64 0)]),(D.agg [(D.int .u8 4),(D.int .u64 0),(D.int .u64 167837696),(D.int .i64 16),(D.sl 3 false [(D.int .i64 2)]),(D.int .i64 (-1)),(D.int .i64 (-1))]),(D.agg [(D.int .u8 4),(D.int .u64 0),(D.int .u64 167903232),(D.int .i64 16),(D.sl 3 false [(D.int .i64 3)]),(D.int .i64 0),(D.int .i64 0)])])]
def x133:List D:=[(D.int .i64 (-1)),(D.ov 69 false [(D.agg [(D.int .u8 4),(D.int .u64 0),(D.int .u64 167772160),(D.int .i64 8),(D.sl 3 false [(D.int .i64 1)]),(D.int .i64 0),(D.int .i64 0)]),(D.agg [(D.int .u8 4),(D.int .u64 0),(D.int .u64 167772160),(D.int .i64 14),(D.sl 3 true []),(D.int .i64 0),(D.int .i64 0)]),(D.agg [(D.int .u8 4),(D.int .u64 0),(D.int .u64 167837696),(D.int .i64 16),(D.sl 3 false [(D.int .i64 2)]),(D.int .i64 (-1)),(D.int .i64 (-1))]),(D.agg [(D.int .u8 4),(D.int .u64 0),(D.int .u64 167903232),(D.int .i64 16),(D.sl 3 false [(D.int .i64 3)]),(D.int .i64 0),(D.int .i64 0)])])]
theorem Jm:V 104 x132 x133:=er rn
def x134:List D:=[(D.sl 49 false [(D.agg [(D.int .u8 4),(D.int .u64 0),(D.int .u64 167903232),(D.int .i64 16),(D.sl 3 false [(D.int .i64 3)])])]),(D.ov 69 false [(D.agg [(D.int .u8 4),(D.int .u64 0),(D.int .u64 167772160),(D.int .i64 8),(D.sl 3 false [(D.int .i64 1)]),(D.int .i64 0),(D.int .i64 0)]),(D.agg [(D.int .u8 4),(D.int .u64 0),(D.int .u64 167772160),(D.int .i64 14),(D.sl 3 true []),(D.int .i64 0),(D.int .i64 0)]),(D.agg [(D.int .u8 4),(D.int .u64 0),(D.int .u64 167837696),(D.int .i64 16),(D.sl 3 false [(D.int .i64 2)]),(D.int .i64 (-1)),(D.int .i64 (-1))])])]
def x135:List D:=[(D.int .i64 3),(D.ov 69 false [(D.agg [(D.int .u8 4),(D.int .u64 0),(D.int .u64 167772160),(D.int .i64 8),(D.sl 3 false [(D.int .i64 1)]),(D.int .i64 0),(D.int .i64 0)]),(D.agg [(D.int .u8 4),(D.int .u64 0),(D.int .u64 167772160),(D.int .i64 14),(D.sl 3 true []),(D.int .i64 0),(D.int .i64 0)]),(D.agg [(D.int .u8 4),(D.int .u64 0),(D.int .u64 167837696),(D.int .i64 16),(D.sl 3 false [(D.int .i64 2)]),(D.int .i64 (-1)),(D.int .i64 (-1))]),(D.agg [(D.int .u8 4),(D.int .u64 0),(D.int .u64 167903232),(D.int .i64 16),(D.sl 3 false [(D.int .i64 3)]),(D.int .i64 (-1)),(D.int .i64 (-1))])])]
theorem Jn:V 104 x134 x135:=er (rc Jk (rc Gf (rc Jl (rc Jm rn))))
def x136:List D:=[(D.sl 49 false [(D.agg [(D.int .u8 4),(D.int .u64 0),(D.int .u64 167837696),(D.int .i64 16),(D.sl 3 false [(D.int .i64 2)])]),(D.agg [(D.int .u8 4),(D.int .u64 0),(D.int .u64 167903232),(D.int .i64 16),(D.sl 3 false [(D.int .i64 3)])])]),(D.ov 69 false [(D.agg [(D.int .u8 4),(D.int .u64 0),(D.int .u64 167772160),(D.int .i64 8),(D.sl 3 false [(D.int .i64 1)]),(D.int .i64 0),(D.int .i64 0)])])]
def x137:List D:=[(D.int .i64 1),(D.ov 69 false [(D.agg [(D.int .u8 4),(D.int .u64 0),(D.int .u64 167772160),(D.int .i64 8),(D.sl 3 false [(D.int .i64 1)]),(D.int .i64 0),(D.int .i64 0)]),(D.agg [(D.int .u8 4),(D.int .u64 0),(D.int .u64 167772160),(D.int .i64 14),(D.sl 3 true []),(D.int .i64 2),(D.int .i64 3)]),(D.agg [(D.int .u8 4),(D.int .u64 0),(D.int .u64 167837696),(D.int .i64 16),(D.sl 3 false [(D.int .i64 2)]),(D.int .i64 (-1)),(D.int .i64 (-1))]),(D.agg [(D.int .u8 4),(D.int .u64 0),(D.int .u64 167903232),(D.int .i64 16),(D.sl 3 false [(D.int .i64 3)]),(D.int .i64 (-1)),(D.int .i64 (-1))])])]
theorem Jo:V 104 x136 x137:=er (rc I7 (rc I_ (rc Jg (rc Jn rn))))
def x138:List D:=[(D.sl 49 false []),(D.ov 69 false [(D.agg [(D.int .u8 4),(D.int .u64 0),(D.int .u64 167772160),(D.int .i64 8),(D.sl 3 false [(D.int .i64 1)]),(D.int .i64 0),(D.int .i64 0)]),(D.agg [(D.int .u8 4),(D.int .u64 0),(D.int .u64 167772160),(D.int .i64 14),(D.sl 3 true []),(D.int .i64 2),(D.int .i64 3)]),(D.agg [(D.int .u8 4),(D.int .u64 0),(D.int .u64 167837696),(D.int .i64 16),(D.sl 3 false [(D.int .i64 2)]),(D.int .i64 (-1)),(D.int .i64 (-1))]),(D.agg [(D.int .u8 4),(D.int .u64 0),(D.int .u64 167903232),(D.int .i64 16),(D.sl 3 false [(D.int .i64 3)]),(D.int .i64 (-1)),(D.int .i64 (-1))])])]
def x139:List D:=[(D.int .i64 (-1)),(D.ov 69 false [(D.agg [(D.int .u8 4),(D.int .u64 0),(D.int .u64 167772160),(D.int .i64 8),(D.sl 3 false [(D.int .i64 1)]),(D.int .i64 0),(D.int .i64 0)]),(D.agg [(D.int .u8 4),(D.int .u64 0),(D.int .u64 167772160),(D.int .i64 14),(D.sl 3 true []),(D.int .i64 2),(D.int .i64 3)]),(D.agg [(D.int .u8 4),(D.int .u64 0),(D.int .u64 167837696),(D.int .i64 16),(D.sl 3 false [(D.int .i64 2)]),(D.int .i64 (-1)),(D.int .i64 (-1))]),(D.agg [(D.int .u8 4),(D.int .u64 0),(D.int .u64 167903232),(D.int .i64 16),(D.sl 3 false [(D.int .i64 3)]),(D.int .i64 (-1)),(D.int .i64 (-1))])])]
theorem Jp:V 104 x138 x139:=er rn
def x140:List D:=[(D.sl 49 false [(D.agg [(D.int .u8 4),(D.int .u64 0),(D.int .u64 167772160),(D.int .i64 8),(D.sl 3 false [(D.int .i64 1)])]),(D.agg [(D.int .u8 4),(D.int .u64 0),(D.int .u64 167837696),(D.int .i64 16),(D.sl 3 false [(D.int .i64 2)])]),(D.agg [(D.int .u8 4),(D.int .u64 0),(D.int .u64 167903232),(D.int .i64 16),(D.sl 3 false [(D.int .i64 3)])])]),(D.ov 69 true [])]
def x141:List D:=[(D.int .i64 0),(D.ov 69 false [(D.agg [(D.int .u8 4),(D.int .u64 0),(D.int .u64 167772160),(D.int .i64 8),(D.sl 3 false [(D.int .i64 1)]),(D.int .i64 1),(D.int .i64 (-1))]),(D.agg [(D.int .u8 4),(D.int .u64 0),(D.int .u64 167772160),(D.int .i64 14),(D.sl 3 true []),(D.int .i64 2),(D.int .i64 3)]),(D.agg [(D.int .u8 4),(D.int .u64 0),(D.int .u64 167837696),(D.int .i64 16),(D.sl 3 false [(D.int .i64 2)]),(D.int .i64 (-1)),(D.int .i64 (-1))]),(D.agg [(D.int .u8 4),(D.int .u64 0),(D.int .u64 167903232),(D.int .i64 16),(D.sl 3 false [(D.int .i64 3)]),(D.int .i64 (-1)),(D.int .i64 (-1))])])]
theorem Jq:V 104 x140 x141:=er (rc NN (rc G5 (rc NS (rc Jo (rc Jp rn)))))
def x142:List D:=[(D.ov 69 false [(D.agg [(D.int .u8 4),(D.int .u64 0),(D.int .u64 167772160),(D.int .i64 8),(D.sl 3 false [(D.int .i64 1)]),(D.int .i64 1),(D.int .i64 (-1))]),(D.agg [(D.int .u8 4),(D.int .u64 0),(D.int .u64 167772160),(D.int .i64 14),(D.sl 3 true []),(D.int .i64 2),(D.int .i64 3)]),(D.agg [(D.int .u8 4),(D.int .u64 0),(D.int .u64 167837696),(D.int .i64 16),(D.sl 3 false [(D.int .i64 2)]),(D.int .i64 (-1)),(D.int .i64 (-1))]),(D.agg [(D.int .u8 4),(D.int .u64 0),(D.int .u64 167903232),(D.int .i64 16),(D.sl 3 false [(D.int .i64 3)]),(D.int .i64 (-1)),(D.int .i64 (-1))])])]
theorem Jr:V 83 x13 x142:=er (rc Jq rn)
theorem Js:V 104 [(D.sl 49 false []),(D.ov 69 true [])] [(D.int .i64 (-1)),(D.ov 69 true [])]:=er rn
theorem Jt:V 83 [(D.sl 49 false [])] [(D.ov 69 true [])]:=er (rc Js rn)
def x143:List D:=[(D.agg [(D.sl 69 false [(D.agg [(D.int .u8 4),(D.int .u64 0),(D.int .u64 167772160),(D.int .i64 8),(D.sl 3 false [(D.int .i64 1)]),(D.int .i64 1),(D.int .i64 (-1))]),(D.agg [(D.int .u8 4),(D.int .u64 0),(D.int .u64 167772160),(D.int .i64 14),(D.sl 3 true []),(D.int .i64 2),(D.int .i64 3)]),(D.agg [(D.int .u8 4),(D.int .u64 0),(D.int .u64 167837696),(D.int .i64 16),(D.sl 3 false [(D.int .i64 2)]),(D.int .i64 (-1)),(D.int .i64 (-1))]),(D.agg [(D.int .u8 4),(D.int .u64 0),(D.int .u64 167903232),(D.int .i64 16),(D.sl 3 false [(D.int .i64 3)]),(D.int .i64 (-1)),(D.int .i64 (-1))])]),(D.sl 69 true [])])]
theorem Gg:V 46 x13 x143:=er (rc Nh (rc Nl (rc Jr (rc Jt rn))))
def x144:List D:=[(D.agg [(D.sl 69 false [(D.agg [(D.int .u8 4),(D.int .u64 0),(D.int .u64 167772160),(D.int .i64 8),(D.sl 3 false [(D.int .i64 1)]),(D.int .i64 1),(D.int .i64 (-1))]),(D.agg [(D.int .u8 4),(D.int .u64 0),(D.int .u64 167772160),(D.int .i64 14),(D.sl 3 true []),(D.int .i64 2),(D.int .i64 3)]),(D.agg [(D.int .u8 4),(D.int .u64 0),(D.int .u64 167837696),(D.int .i64 16),(D.sl 3 false [(D.int .i64 2)]),(D.int .i64 (-1)),(D.int .i64 (-1))]),(D.agg [(D.int .u8 4),(D.int .u64 0),(D.int .u64 167903232),(D.int .i64 16),(D.sl 3 false [(D.int .i64 3)]),(D.int .i64 (-1)),(D.int .i64 (-1))])]),(D.sl 69 true [])]),(D.int .i64 0)]
theorem Ju:V 38 x13 x144:=er (rc Gg rn)
theorem Jv:V 12 x13 x144:=er (rc Li (rc Ju rn))
def x145:List D:=[(D.int .u64 10),(D.int .u64 0),(D.int .u64 0),(D.int .u64 0),(D.int .i64 14)]
theorem Jw:V 34 x145 x114:=er rn
def x146:List D:=[(D.int .u64 10),(D.int .u64 1),(D.int .u64 2),(D.int .u64 0),(D.int .i64 24)]
def x147:List D:=[(D.agg [(D.int .u8 4),(D.int .u64 0),(D.int .u64 167838208),(D.int .i64 24)])]
theorem Jx:V 34 x146 x147:=er rn
theorem Jy:Ev ty tab 99 [(D.ov 69 true []),(D.int .i64 4)] [(D.ov 69 false [])]:=Ev.told (s:=⟨[.g 69,.p],[.o 69]⟩) (f:=growSpec 69 72) (by kernel_rfl) (by kernel_rfl)
def x148:List D:=[(D.sl 22 false [(D.sl 69 false [(D.agg [(D.int .u8 4),(D.int .u64 0),(D.int .u64 167772160),(D.int .i64 8),(D.sl 3 false [(D.int .i64 1)]),(D.int .i64 1),(D.int .i64 (-1))]),(D.agg [(D.int .u8 4),(D.int .u64 0),(D.int .u64 167772160),(D.int .i64 14),(D.sl 3 true []),(D.int .i64 2),(D.int .i64 3)]),(D.agg [(D.int .u8 4),(D.int .u64 0),(D.int .u64 167837696),(D.int .i64 16),(D.sl 3 false [(D.int .i64 2)]),(D.int .i64 (-1)),(D.int .i64 (-1))]),(D.agg [(D.int .u8 4),(D.int .u64 0),(D.int .u64 167903232),(D.int .i64 16),(D.sl 3 false [(D.int .i64 3)]),(D.int .i64 (-1)),(D.int .i64 (-1))])]),(D.sl 69 true [])])]
theorem Jz:V 79 x148 x142:=er (rc Jy rn)
theorem JA:V 42 x143 x6:=er (rc Jz (rc G5 (rc Ej (rc Gf rn))))
def x149:List D:=[(D.sl 3 false [(D.int .i64 1)]),(D.sl 3 false [(D.int .i64 1)])]
theorem JB:V 84 x149 [(D.bool true)]:=er rn
def x150:List D:=[(D.agg [(D.int .u8 4),(D.int .u64 0),(D.int .u64 167772160),(D.int .i64 8),(D.sl 3 false [(D.int .i64 1)]),(D.int .i64 1),(D.int .i64 (-1))]),(D.agg [(D.int .u8 4),(D.int .u64 0),(D.int .u64 167772160),(D.int .i64 8),(D.sl 3 false [(D.int .i64 1)]),(D.int .i64 1),(D.int .i64 (-1))])]
theorem JC:V 48 x150 [(D.bool true)]:=er (rc JB rn)
theorem JD:V 84 [(D.sl 3 true []),(D.sl 3 true [])] [(D.bool true)]:=er rn
def x151:List D:=[(D.agg [(D.int .u8 4),(D.int .u64 0),(D.int .u64 167772160),(D.int .i64 14),(D.sl 3 true []),(D.int .i64 2),(D.int .i64 3)]),(D.agg [(D.int .u8 4),(D.int .u64 0),(D.int .u64 167772160),(D.int .i64 14),(D.sl 3 true []),(D.int .i64 2),(D.int .i64 3)])]
theorem JE:V 48 x151 [(D.bool true)]:=er (rc JD rn)
def x152:List D:=[(D.sl 3 false [(D.int .i64 2)]),(D.sl 3 false [(D.int .i64 2)])]
theorem JF:V 84 x152 [(D.bool true)]:=er rn
def x153:List D:=[(D.agg [(D.int .u8 4),(D.int .u64 0),(D.int .u64 167837696),(D.int .i64 16),(D.sl 3 false [(D.int .i64 2)]),(D.int .i64 (-1)),(D.int .i64 (-1))]),(D.agg [(D.int .u8 4),(D.int .u64 0),(D.int .u64 167837696),(D.int .i64 16),(D.sl 3 false [(D.int .i64 2)]),(D.int .i64 (-1)),(D.int .i64 (-1))])]
theorem JG:V 48 x153 [(D.bool true)]:=er (rc JF rn)
def x154:List D:=[(D.sl 3 false [(D.int .i64 3)]),(D.sl 3 false [(D.int .i64 3)])]
theorem JH:V 84 x154 [(D.bool true)]:=er rn
def x155:List D:=[(D.agg [(D.int .u8 4),(D.int .u64 0),(D.int .u64 167903232),(D.int .i64 16),(D.sl 3 false [(D.int .i64 3)]),(D.int .i64 (-1)),(D.int .i64 (-1))]),(D.agg [(D.int .u8 4),(D.int .u64 0),(D.int .u64 167903232),(D.int .i64 16),(D.sl 3 false [(D.int .i64 3)]),(D.int .i64 (-1)),(D.int .i64 (-1))])]
theorem JI:V 48 x155 [(D.bool true)]:=er (rc JH rn)
def x156:List D:=[(D.sl 69 false [(D.agg [(D.int .u8 4),(D.int .u64 0),(D.int .u64 167772160),(D.int .i64 8),(D.sl 3 false [(D.int .i64 1)]),(D.int .i64 1),(D.int .i64 (-1))]),(D.agg [(D.int .u8 4),(D.int .u64 0),(D.int .u64 167772160),(D.int .i64 14),(D.sl 3 true []),(D.int .i64 2),(D.int .i64 3)]),(D.agg [(D.int .u8 4),(D.int .u64 0),(D.int .u64 167837696),(D.int .i64 16),(D.sl 3 false [(D.int .i64 2)]),(D.int .i64 (-1)),(D.int .i64 (-1))]),(D.agg [(D.int .u8 4),(D.int .u64 0),(D.int .u64 167903232),(D.int .i64 16),(D.sl 3 false [(D.int .i64 3)]),(D.int .i64 (-1)),(D.int .i64 (-1))])]),(D.sl 69 false [(D.agg [(D.int .u8 4),(D.int .u64 0),(D.int .u64 167772160),(D.int .i64 8),(D.sl 3 false [(D.int .i64 1)]),(D.int .i64 1),(D.int .i64 (-1))]),(D.agg [(D.int .u8 4),(D.int .u64 0),(D.int .u64 167772160),(D.int .i64 14),(D.sl 3 true []),(D.int .i64 2),(D.int .i64 3)]),(D.agg [(D.int .u8 4),(D.int .u64 0),(D.int .u64 167837696),(D.int .i64 16),(D.sl 3 false [(D.int .i64 2)]),(D.int .i64 (-1)),(D.int .i64 (-1))]),(D.agg [(D.int .u8 4),(D.int .u64 0),(D.int .u64 167903232),(D.int .i64 16),(D.sl 3 false [(D.int .i64 3)]),(D.int .i64 (-1)),(D.int .i64 (-1))])]),(D.fn 48 [])]
theorem JJ:V 47 x156 [(D.bool true)]:=er (rc JC (rc JE (rc JG (rc JI rn))))
theorem JK:V 47 [(D.sl 69 true []),(D.sl 69 true []),(D.fn 48 [])] [(D.bool true)]:=er rn
theorem Ek:V 18 x143 [(D.int .i64 0)]:=er (rc JA (rc Li (rc Gg (rc JJ (rc JK rn)))))
def x157:List D:=[(D.int .u8 4),(D.agg [(D.int .u64 0),(D.int .u64 167838208)])]
theorem CA:V 55 x157 [(D.bool true)]:=er rn
theorem JL:V 64 [(D.int .u8 4),(D.int .i64 24)] [(D.agg [(D.int .u64 0),(D.int .u64 4294967040)])]:=er (rc w4 rn)
def x158:List D:=[(D.agg [(D.int .u64 0),(D.int .u64 167838208)]),(D.agg [(D.int .u64 0),(D.int .u64 4294967040)])]
theorem JM:V 63 x158 [(D.agg [(D.int .u64 0),(D.int .u64 167838208)])]:=er rn
theorem CB:V 62 x147 [(D.int .i64 0)]:=er (rc w4 (rc CA (rc JL (rc JM rn))))
def x159:List D:=[(D.agg [(D.sl 69 false [(D.agg [(D.int .u8 4),(D.int .u64 0),(D.int .u64 167772160),(D.int .i64 8),(D.sl 3 false [(D.int .i64 1)]),(D.int .i64 1),(D.int .i64 (-1))]),(D.agg [(D.int .u8 4),(D.int .u64 0),(D.int .u64 167772160),(D.int .i64 14),(D.sl 3 true []),(D.int .i64 2),(D.int .i64 3)]),(D.agg [(D.int .u8 4),(D.int .u64 0),(D.int .u64 167837696),(D.int .i64 16),(D.sl 3 false [(D.int .i64 2)]),(D.int .i64 (-1)),(D.int .i64 (-1))]),(D.agg [(D.int .u8 4),(D.int .u64 0),(D.int .u64 167903232),(D.int .i64 16),(D.sl 3 false [(D.int .i64 3)]),(D.int .i64 (-1)),(D.int .i64 (-1))])]),(D.sl 69 true [])]),(D.agg [(D.int .u8 4),(D.int .u64 0),(D.int .u64 167838208),(D.int .i64 24)])]
theorem JN:V 49 x159 [(D.int .i64 0)]:=er (rc Ek (rc CB rn))
def x160:List D:=[(D.agg [(D.sl 69 false [(D.agg [(D.int .u8 4),(D.int .u64 0),(D.int .u64 167772160),(D.int .i64 8),(D.sl 3 false [(D.int .i64 1)]),(D.int .i64 1),(D.int .i64 (-1))]),(D.agg [(D.int .u8 4),(D.int .u64 0),(D.int .u64 167772160),(D.int .i64 14),(D.sl 3 true []),(D.int .i64 2),(D.int .i64 3)]),(D.agg [(D.int .u8 4),(D.int .u64 0),(D.int .u64 167837696),(D.int .i64 16),(D.sl 3 false [(D.int .i64 2)]),(D.int .i64 (-1)),(D.int .i64 (-1))]),(D.agg [(D.int .u8 4),(D.int .u64 0),(D.int .u64 167903232),(D.int .i64 16),(D.sl 3 false [(D.int .i64 3)]),(D.int .i64 (-1)),(D.int .i64 (-1))])]),(D.sl 69 true [])]),(D.int .u8 4)]
def x161:List D:=[(D.sl 69 false [(D.agg [(D.int .u8 4),(D.int .u64 0),(D.int .u64 167772160),(D.int .i64 8),(D.sl 3 false [(D.int .i64 1)]),(D.int .i64 1),(D.int .i64 (-1))]),(D.agg [(D.int .u8 4),(D.int .u64 0),(D.int .u64 167772160),(D.int .i64 14),(D.sl 3 true []),(D.int .i64 2),(D.int .i64 3)]),(D.agg [(D.int .u8 4),(D.int .u64 0),(D.int .u64 167837696),(D.int .i64 16),(D.sl 3 false [(D.int .i64 2)]),(D.int .i64 (-1)),(D.int .i64 (-1))]),(D.agg [(D.int .u8 4),(D.int .u64 0),(D.int .u64 167903232),(D.int .i64 16),(D.sl 3 false [(D.int .i64 3)]),(D.int .i64 (-1)),(D.int .i64 (-1))])])]
theorem Gi:V 51 x160 x161:=er rn
def x162:List D:=[(D.sl 69 false [(D.agg [(D.int .u8 4),(D.int .u64 0),(D.int .u64 167772160),(D.int .i64 8),(D.sl 3 false [(D.int .i64 1)]),(D.int .i64 1),(D.int .i64 (-1))]),(D.agg [(D.int .u8 4),(D.int .u64 0),(D.int .u64 167772160),(D.int .i64 14),(D.sl 3 true []),(D.int .i64 2),(D.int .i64 3)]),(D.agg [(D.int .u8 4),(D.int .u64 0),(D.int .u64 167837696),(D.int .i64 16),(D.sl 3 false [(D.int .i64 2)]),(D.int .i64 (-1)),(D.int .i64 (-1))]),(D.agg [(D.int .u8 4),(D.int .u64 0),(D.int .u64 167903232),(D.int .i64 16),(D.sl 3 false [(D.int .i64 3)]),(D.int .i64 (-1)),(D.int .i64 (-1))])]),(D.agg [(D.int .u8 4),(D.int .u64 0),(D.int .u64 167838208),(D.int .i64 24)])]
def x163:List D:=[(D.fn 85 [(D.rp [(D.sl 69 false [(D.agg [(D.int .u8 4),(D.int .u64 0),(D.int .u64 167772160),(D.int .i64 8),(D.sl 3 false [(D.int .i64 1)]),(D.int .i64 1),(D.int .i64 (-1))]),(D.agg [(D.int .u8 4),(D.int .u64 0),(D.int .u64 167772160),(D.int .i64 14),(D.sl 3 true []),(D.int .i64 2),(D.int .i64 3)]),(D.agg [(D.int .u8 4),(D.int .u64 0),(D.int .u64 167837696),(D.int .i64 16),(D.sl 3 false [(D.int .i64 2)]),(D.int .i64 (-1)),(D.int .i64 (-1))]),(D.agg [(D.int .u8 4),(D.int .u64 0),(D.int .u64 167903232),(D.int .i64 16),(D.sl 3 false [(D.int .i64 3)]),(D.int .i64 (-1)),(D.int .i64 (-1))])])] 0),(D.rp [(D.int .u8 4),(D.int .u64 0),(D.int .u64 167838208),(D.int .i64 24)] 0)])]
theorem JO:V 50 x162 x163:=er rn
def x164:List D:=[(D.agg [(D.int .u64 0),(D.int .u64 167838208)]),(D.agg [(D.int .u64 0),(D.int .u64 4278190080)])]
theorem JP:V 63 x164 [(D.agg [(D.int .u64 0),(D.int .u64 167772160)])]:=er rn
def x165:List D:=[(D.agg [(D.int .u8 4),(D.int .u64 0),(D.int .u64 167772160),(D.int .i64 8)]),(D.agg [(D.int .u8 4),(D.int .u64 0),(D.int .u64 167838208),(D.int .i64 24)])]
theorem JQ:V 29 x165 [(D.bool true)]:=er (rc w8 (rc CB (rc w6 (rc JP rn))))
def x166:List D:=[(D.int .u8 4),(D.agg [(D.int .u64 0),(D.int .u64 167838208)]),(D.int .i64 8)]
theorem JR:V 60 x166 [(D.int .i64 0),(D.int .i64 0)]:=er (rc CA (rc w4 rn))
def x167:List D:=[(D.agg [(D.int .u8 4),(D.int .u64 0),(D.int .u64 167838208),(D.int .i64 24)]),(D.int .i64 8)]
theorem JS:V 86 x167 [(D.int .i64 0)]:=er (rc JR rn)
def x168:List D:=[(D.agg [(D.int .u64 0),(D.int .u64 167772160)]),(D.agg [(D.int .u64 0),(D.int .u64 4294705152)])]
theorem JT:V 63 x168 [(D.agg [(D.int .u64 0),(D.int .u64 167772160)])]:=er rn
theorem Gj:V 62 x114 [(D.int .i64 0)]:=er (rc w4 (rc w5 (rc Cz (rc JT rn))))
def x169:List D:=[(D.agg [(D.int .u64 0),(D.int .u64 167838208)]),(D.agg [(D.int .u64 0),(D.int .u64 4294705152)])]
theorem JU:V 63 x169 [(D.agg [(D.int .u64 0),(D.int .u64 167772160)])]:=er rn
def x170:List D:=[(D.agg [(D.int .u8 4),(D.int .u64 0),(D.int .u64 167772160),(D.int .i64 14)]),(D.agg [(D.int .u8 4),(D.int .u64 0),(D.int .u64 167838208),(D.int .i64 24)])]
theorem JV:V 29 x170 [(D.bool true)]:=er (rc Gj (rc CB (rc Cz (rc JU rn))))
def x171:List D:=[(D.int .u8 4),(D.agg [(D.int .u64 0),(D.int .u64 167838208)]),(D.int .i64 14)]
theorem JW:V 60 x171 [(D.int .i64 0),(D.int .i64 0)]:=er (rc CA (rc w4 rn))
def x172:List D:=[(D.agg [(D.int .u8 4),(D.int .u64 0),(D.int .u64 167838208),(D.int .i64 24)]),(D.int .i64 14)]
theorem JX:V 86 x172 [(D.int .i64 0)]:=er (rc JW rn)
def x173:List D:=[(D.agg [(D.int .u64 0),(D.int .u64 167838208)]),(D.agg [(D.int .u64 0),(D.int .u64 4294901760)])]
theorem JY:V 63 x173 [(D.agg [(D.int .u64 0),(D.int .u64 167837696)])]:=er rn
def x174:List D:=[(D.agg [(D.int .u8 4),(D.int .u64 0),(D.int .u64 167837696),(D.int .i64 16)]),(D.agg [(D.int .u8 4),(D.int .u64 0),(D.int .u64 167838208),(D.int .i64 24)])]
theorem JZ:V 29 x174 [(D.bool true)]:=er (rc Le (rc CB (rc EJ (rc JY rn))))
def x175:List D:=[(D.int .u8 4),(D.agg [(D.int .u64 0),(D.int .u64 167838208)]),(D.int .i64 16)]
theorem J0:V 60 x175 [(D.int .i64 0),(D.int .i64 0)]:=er (rc CA (rc w4 rn))
def x176:List D:=[(D.agg [(D.int .u8 4),(D.int .u64 0),(D.int .u64 167838208),(D.int .i64 24)]),(D.int .i64 16)]
theorem J1:V 86 x176 [(D.int .i64 0)]:=er (rc J0 rn)
def x177:List D:=[(D.ov 49 false [(D.agg [(D.int .u8 4),(D.int .u64 0),(D.int .u64 167772160),(D.int .i64 8),(D.sl 3 false [(D.int .i64 1)])]),(D.agg [(D.int .u8 4),(D.int .u64 0),(D.int .u64 167837696),(D.int .i64 16),(D.sl 3 false [(D.int .i64 2)])])]),(D.int .i64 0)]
theorem J2:V 20 x159 x177:=er (rc JN (rc Gi (rc JO (rc JQ (rc G5 (rc JS (rc JV (rc JX (rc JZ (rc Ej (rc J1 rn)))))))))))
def x178:List D:=[(D.int .u8 4),(D.agg [(D.int .u64 0),(D.int .u64 167968769)])]
theorem CC:V 55 x178 [(D.bool true)]:=er rn
theorem J3:V 64 [(D.int .u8 4),(D.int .i64 32)] [(D.agg [(D.int .u64 0),(D.int .u64 4294967295)])]:=er (rc w4 rn)
def x179:List D:=[(D.agg [(D.int .u64 0),(D.int .u64 167968769)]),(D.agg [(D.int .u64 0),(D.int .u64 4294967295)])]
theorem J4:V 63 x179 [(D.agg [(D.int .u64 0),(D.int .u64 167968769)])]:=er rn
def x180:List D:=[(D.agg [(D.int .u8 4),(D.int .u64 0),(D.int .u64 167968769),(D.int .i64 32)])]
theorem CD:V 62 x180 [(D.int .i64 0)]:=er (rc w4 (rc CC (rc J3 (rc J4 rn))))
def x181:List D:=[(D.agg [(D.sl 69 false [(D.agg [(D.int .u8 4),(D.int .u64 0),(D.int .u64 167772160),(D.int .i64 8),(D.sl 3 false [(D.int .i64 1)]),(D.int .i64 1),(D.int .i64 (-1))]),(D.agg [(D.int .u8 4),(D.int .u64 0),(D.int .u64 167772160),(D.int .i64 14),(D.sl 3 true []),(D.int .i64 2),(D.int .i64 3)]),(D.agg [(D.int .u8 4),(D.int .u64 0),(D.int .u64 167837696),(D.int .i64 16),(D.sl 3 false [(D.int .i64 2)]),(D.int .i64 (-1)),(D.int .i64 (-1))]),(D.agg [(D.int .u8 4),(D.int .u64 0),(D.int .u64 167903232),(D.int .i64 16),(D.sl 3 false [(D.int .i64 3)]),(D.int .i64 (-1)),(D.int .i64 (-1))])]),(D.sl 69 true [])]),(D.agg [(D.int .u8 4),(D.int .u64 0),(D.int .u64 167968769),(D.int .i64 32)])]
theorem J5:V 49 x181 [(D.int .i64 0)]:=er (rc Ek (rc CD rn))
def x182:List D:=[(D.sl 69 false [(D.agg [(D.int .u8 4),(D.int .u64 0),(D.int .u64 167772160),(D.int .i64 8),(D.sl 3 false [(D.int .i64 1)]),(D.int .i64 1),(D.int .i64 (-1))]),(D.agg [(D.int .u8 4),(D.int .u64 0),(D.int .u64 167772160),(D.int .i64 14),(D.sl 3 true []),(D.int .i64 2),(D.int .i64 3)]),(D.agg [(D.int .u8 4),(D.int .u64 0),(D.int .u64 167837696),(D.int .i64 16),(D.sl 3 false [(D.int .i64 2)]),(D.int .i64 (-1)),(D.int .i64 (-1))]),(D.agg [(D.int .u8 4),(D.int .u64 0),(D.int .u64 167903232),(D.int .i64 16),(D.sl 3 false [(D.int .i64 3)]),(D.int .i64 (-1)),(D.int .i64 (-1))])]),(D.agg [(D.int .u8 4),(D.int .u64 0),(D.int .u64 167968769),(D.int .i64 32)])]
def x183:List D:=[(D.fn 85 [(D.rp [(D.sl 69 false [(D.agg [(D.int .u8 4),(D.int .u64 0),(D.int .u64 167772160),(D.int .i64 8),(D.sl 3 false [(D.int .i64 1)]),(D.int .i64 1),(D.int .i64 (-1))]),(D.agg [(D.int .u8 4),(D.int .u64 0),(D.int .u64 167772160),(D.int .i64 14),(D.sl 3 true []),(D.int .i64 2),(D.int .i64 3)]),(D.agg [(D.int .u8 4),(D.int .u64 0),(D.int .u64 167837696),(D.int .i64 16),(D.sl 3 false [(D.int .i64 2)]),(D.int .i64 (-1)),(D.int .i64 (-1))]),(D.agg [(D.int .u8 4),(D.int .u64 0),(D.int .u64 167903232),(D.int .i64 16),(D.sl 3 false [(D.int .i64 3)]),(D.int .i64 (-1)),(D.int .i64 (-1))])])] 0),(D.rp [(D.int .u8 4),(D.int .u64 0),(D.int .u64 167968769),(D.int .i64 32)] 0)])]
theorem J6:V 50 x182 x183:=er rn
def x184:List D:=[(D.agg [(D.int .u64 0),(D.int .u64 167968769)]),(D.agg [(D.int .u64 0),(D.int .u64 4278190080)])]
theorem J7:V 63 x184 [(D.agg [(D.int .u64 0),(D.int .u64 167772160)])]:=er rn
def x185:List D:=[(D.agg [(D.int .u8 4),(D.int .u64 0),(D.int .u64 167772160),(D.int .i64 8)]),(D.agg [(D.int .u8 4),(D.int .u64 0),(D.int .u64 167968769),(D.int .i64 32)])]
theorem J8:V 29 x185 [(D.bool true)]:=er (rc w8 (rc CD (rc w6 (rc J7 rn))))
def x186:List D:=[(D.int .u8 4),(D.agg [(D.int .u64 0),(D.int .u64 167968769)]),(D.int .i64 8)]
theorem J9:V 60 x186 [(D.int .i64 0),(D.int .i64 0)]:=er (rc CC (rc w4 rn))
def x187:List D:=[(D.agg [(D.int .u8 4),(D.int .u64 0),(D.int .u64 167968769),(D.int .i64 32)]),(D.int .i64 8)]
theorem J_:V 86 x187 [(D.int .i64 0)]:=er (rc J9 rn)
def x188:List D:=[(D.agg [(D.int .u64 0),(D.int .u64 167968769)]),(D.agg [(D.int .u64 0),(D.int .u64 4294705152)])]
theorem Ka:V 63 x188 [(D.agg [(D.int .u64 0),(D.int .u64 167772160)])]:=er rn
def x189:List D:=[(D.agg [(D.int .u8 4),(D.int .u64 0),(D.int .u64 167772160),(D.int .i64 14)]),(D.agg [(D.int .u8 4),(D.int .u64 0),(D.int .u64 167968769),(D.int .i64 32)])]
theorem Kb:V 29 x189 [(D.bool true)]:=er (rc Gj (rc CD (rc Cz (rc Ka rn))))
def x190:List D:=[(D.int .u8 4),(D.agg [(D.int .u64 0),(D.int .u64 167968769)]),(D.int .i64 14)]
theorem Kc:V 60 x190 [(D.int .i64 1),(D.int .i64 0)]:=er (rc CC (rc w4 rn))
def x191:List D:=[(D.agg [(D.int .u8 4),(D.int .u64 0),(D.int .u64 167968769),(D.int .i64 32)]),(D.int .i64 14)]
theorem Kd:V 86 x191 [(D.int .i64 1)]:=er (rc Kc rn)
def x192:List D:=[(D.agg [(D.int .u64 0),(D.int .u64 167968769)]),(D.agg [(D.int .u64 0),(D.int .u64 4294901760)])]
theorem Ke:V 63 x192 [(D.agg [(D.int .u64 0),(D.int .u64 167968768)])]:=er rn
def x193:List D:=[(D.agg [(D.int .u8 4),(D.int .u64 0),(D.int .u64 167903232),(D.int .i64 16)]),(D.agg [(D.int .u8 4),(D.int .u64 0),(D.int .u64 167968769),(D.int .i64 32)])]
theorem Kf:V 29 x193 [(D.bool false)]:=er (rc Lh (rc CD (rc EJ (rc Ke rn))))
def x194:List D:=[(D.ov 49 false [(D.agg [(D.int .u8 4),(D.int .u64 0),(D.int .u64 167772160),(D.int .i64 8),(D.sl 3 false [(D.int .i64 1)])])]),(D.int .i64 0)]
theorem Kg:V 20 x181 x194:=er (rc J5 (rc Gi (rc J6 (rc J8 (rc G5 (rc J_ (rc Kb (rc Kd (rc Kf rn)))))))))
def x195:List D:=[(D.agg [(D.sl 69 false [(D.agg [(D.int .u8 4),(D.int .u64 0),(D.int .u64 167772160),(D.int .i64 8),(D.sl 3 false [(D.int .i64 1)]),(D.int .i64 1),(D.int .i64 (-1))]),(D.agg [(D.int .u8 4),(D.int .u64 0),(D.int .u64 167772160),(D.int .i64 14),(D.sl 3 true []),(D.int .i64 2),(D.int .i64 3)]),(D.agg [(D.int .u8 4),(D.int .u64 0),(D.int .u64 167837696),(D.int .i64 16),(D.sl 3 false [(D.int .i64 2)]),(D.int .i64 (-1)),(D.int .i64 (-1))]),(D.agg [(D.int .u8 4),(D.int .u64 0),(D.int .u64 167903232),(D.int .i64 16),(D.sl 3 false [(D.int .i64 3)]),(D.int .i64 (-1)),(D.int .i64 (-1))])]),(D.sl 69 true [])]),(D.int .u8 4),(D.agg [(D.int .u64 0),(D.int .u64 167968769)])]
def x196:List D:=[(D.agg [(D.int .u8 4),(D.int .u64 0),(D.int .u64 167772160),(D.int .i64 8),(D.sl 3 false [(D.int .i64 1)])]),(D.int .i64 0)]
theorem Kh:V 24 x195 x196:=er (rc Ek (rc CC (rc Kg rn)))
theorem Gk:V 45 x149 [(D.bool true)]:=er rn
theorem Ki:V 45 [(D.sl 3 true []),(D.sl 3 true [])] [(D.bool true)]:=er rn
theorem Gl:V 45 x152 [(D.bool true)]:=er rn
theorem Kj:V 45 x154 [(D.bool true)]:=er rn
def x197:List D:=[(D.sl 69 false [(D.agg [(D.int .u8 4),(D.int .u64 0),(D.int .u64 167772160),(D.int .i64 8),(D.sl 3 false [(D.int .i64 1)]),(D.int .i64 1),(D.int .i64 (-1))]),(D.agg [(D.int .u8 4),(D.int .u64 0),(D.int .u64 167772160),(D.int .i64 14),(D.sl 3 true []),(D.int .i64 2),(D.int .i64 3)]),(D.agg [(D.int .u8 4),(D.int .u64 0),(D.int .u64 167837696),(D.int .i64 16),(D.sl 3 false [(D.int .i64 2)]),(D.int .i64 (-1)),(D.int .i64 (-1))]),(D.agg [(D.int .u8 4),(D.int .u64 0),(D.int .u64 167903232),(D.int .i64 16),(D.sl 3 false [(D.int .i64 3)]),(D.int .i64 (-1)),(D.int .i64 (-1))])]),(D.sl 69 false [(D.agg [(D.int .u8 4),(D.int .u64 0),(D.int .u64 167772160),(D.int .i64 8),(D.sl 3 false [(D.int .i64 1)]),(D.int .i64 1),(D.int .i64 (-1))]),(D.agg [(D.int .u8 4),(D.int .u64 0),(D.int .u64 167772160),(D.int .i64 14),(D.sl 3 true []),(D.int .i64 2),(D.int .i64 3)]),(D.agg [(D.int .u8 4),(D.int .u64 0),(D.int .u64 167837696),(D.int .i64 16),(D.sl 3 false [(D.int .i64 2)]),(D.int .i64 (-1)),(D.int .i64 (-1))]),(D.agg [(D.int .u8 4),(D.int .u64 0),(D.int .u64 167903232),(D.int .i64 16),(D.sl 3 false [(D.int .i64 3)]),(D.int .i64 (-1)),(D.int .i64 (-1))])])]
theorem Kk:V 44 x197 [(D.bool true)]:=er (rc Gk (rc Ki (rc Gl (rc Kj rn))))
theorem Kl:V 44 [(D.sl 69 true []),(D.sl 69 true [])] [(D.bool true)]:=er rn
def x198:List D:=[(D.agg [(D.sl 69 false [(D.agg [(D.int .u8 4),(D.int .u64 0),(D.int .u64 167772160),(D.int .i64 8),(D.sl 3 false [(D.int .i64 1)]),(D.int .i64 1),(D.int .i64 (-1))]),(D.agg [(D.int .u8 4),(D.int .u64 0),(D.int .u64 167772160),(D.int .i64 14),(D.sl 3 true []),(D.int .i64 2),(D.int .i64 3)]),(D.agg [(D.int .u8 4),(D.int .u64 0),(D.int .u64 167837696),(D.int .i64 16),(D.sl 3 false [(D.int .i64 2)]),(D.int .i64 (-1)),(D.int .i64 (-1))]),(D.agg [(D.int .u8 4),(D.int .u64 0),(D.int .u64 167903232),(D.int .i64 16),(D.sl 3 false [(D.int .i64 3)]),(D.int .i64 (-1)),(D.int .i64 (-1))])]),(D.sl 69 true [])]),(D.agg [(D.sl 69 false [(D.agg [(D.int .u8 4),(D.int .u64 0),(D.int .u64 167772160),(D.int .i64 8),(D.sl 3 false [(D.int .i64 1)]),(D.int .i64 1),(D.int .i64 (-1))]),(D.agg [(D.int .u8 4),(D.int .u64 0),(D.int .u64 167772160),(D.int .i64 14),(D.sl 3 true []),(D.int .i64 2),(D.int .i64 3)]),(D.agg [(D.int .u8 4),(D.int .u64 0),(D.int .u64 167837696),(D.int .i64 16),(D.sl 3 false [(D.int .i64 2)]),(D.int .i64 (-1)),(D.int .i64 (-1))]),(D.agg [(D.int .u8 4),(D.int .u64 0),(D.int .u64 167903232),(D.int .i64 16),(D.sl 3 false [(D.int .i64 3)]),(D.int .i64 (-1)),(D.int .i64 (-1))])]),(D.sl 69 true [])])]
theorem Km:V 16 x198 [(D.bool true)]:=er (rc Kk (rc Kl rn))
def x199:List D:=[(D.sl 49 false [(D.agg [(D.int .u8 4),(D.int .u64 0),(D.int .u64 167772160),(D.int .i64 8),(D.sl 3 false [(D.int .i64 1)])]),(D.agg [(D.int .u8 4),(D.int .u64 0),(D.int .u64 167837696),(D.int .i64 16),(D.sl 3 false [(D.int .i64 2)])])]),(D.sl 49 false [(D.agg [(D.int .u8 4),(D.int .u64 0),(D.int .u64 167772160),(D.int .i64 8),(D.sl 3 false [(D.int .i64 1)])]),(D.agg [(D.int .u8 4),(D.int .u64 0),(D.int .u64 167837696),(D.int .i64 16),(D.sl 3 false [(D.int .i64 2)])])])]
theorem Kn:V 17 x199 [(D.bool true)]:=er (rc Gk (rc Gl rn))
theorem Ko:Ev ty tab 26 [] [(D.bool true)]:=Ev.row (f:=eD) (by kernel_rfl) [(59,[],x6),(12,x13,x144),(34,x0,x1),(34,x145,x114),(34,x2,x3),(34,x4,x5),(34,x146,x147),(20,x159,x177),(24,x195,x196),(16,x198,[(D.bool true)]),(17,x199,[(D.bool true)])] ⟨w3,Jv,w0,Jw,w1,w2,Jx,J2,Kh,Km,Kn,trivial⟩ 400 (by kernel_rfl)
theorem Bj:Ev ty tab 26 [] [(D.bool true)]:=Ko
end Go.Proofs.Ytkfnkiejikhglaa.Own
namespace Go.Proofs.Ytkfnkiejikhglaa.Own
open Go Go.Proofs.Ytkfnkiejikhglaa.GD Go.Proofs.Ytkfnkiejikhglaa.GD.Trie Go.Sort
theorem j9:Cl ty tab 26 []=some [.bool true]:=iZ.2 Bj
theorem zu (nb:Bool) (A:List Er) (hl:A.length≤40):Cl ty tab 10 [.sl 49 nb (A.map aw)]=some [.bool (A.any fun x=>decide (100<x.vs.length))]:=by
 obtain⟨k,hk⟩:=cP
 refine fk k _ _ ?_
 unfold aE
 have h1:(A.map aw).length=A.length:=by simp
 have b1: ¬(40:Int)<((A.length:Nat):Int):=by omega
 have b3: ¬(4010:Int)<((A.length:Nat):Int):=by omega
 simp (disch:=omega) only[aA,h1,b1,b3]
 refine y8 (F:=aE.zb (Cl ty tab) k (A.map aw)) A (fun i=>[.int .i64 i]) (fun l=>some [.bool (l.any fun x=>decide (100<x.vs.length))]) (fun i hi again ha=> ?_) (fun again=> ?_) k (by omega)
 ·unfold aE.zb
  have g:(A.map aw).getD i .undef=aw A[i]:=bo hi
  rw[List.any_cons]
  generalize A[i]=x at*
  by_cases hx:100<x.vs.length
  ·have:(100:Int)<((x.vs.length:Nat):Int):=by omega
   simp (disch:=omega) only[aA,h1,g,enc,hx,this]
  ·have: ¬(100:Int)<((x.vs.length:Nat):Int):=by omega
   simp (disch:=omega) only[aA,h1,g,enc,hx,this,Int.natCast_add,Int.natCast_one]at ha⊢
   exact ha
 ·unfold aE.zb
  simp (disch:=omega) only[aA,h1,List.any_nil]
theorem Df (n:Bool) (U:List Er) (x y:Er) (hl:U.length≤100000) (hv:∀ z,z∈U→z.vs.length≤5000) (hy:y∈U) (hc:y.core=x.core):Cl ty tab 30 [.sl 49 n (U.map aw),aw x]=some [.bool true]:=by
 obtain⟨k,hk⟩:=cP
 unfold aw
 refine ll k _ _ _ _ _ _ _ _ ?_
 unfold ba
 have hlen:(U.map aw).length=U.length:=by simp
 have key:∀ i,i≤U.length→(∃ z,z∈U.drop i∧z.core=x.core)→iter (k - i) (ba.b0 (Cl ty tab) k n (U.map aw)) [.int .i64 i,.pv [.int .u8 x.f,.int .u64 (x.h:Int),.int .u64 (x.l:Int),.int .i64 x.n,.sl 3 x.nb (iv x.vs)]]=some [.bool true]:=by
  intro i hi
  generalize hm:U.length - i=m
  induction m generalizing i with
  |zero=>
   rintro⟨z,hz,_⟩
   rw[List.drop_eq_nil_of_le (by omega)]at hz
   cases hz
  |succ m ih=>
   rintro⟨z,hz,hzc⟩
   have hlt:i<U.length:=by omega
   obtain⟨k',hk'⟩:∃ k',k - i=k'+1:=⟨k - i - 1,by omega⟩
   rw[hk']
   show ba.b0 (Cl ty tab) k n (U.map aw) _ (iter k' _)=_
   have e1:((U.map aw).drop i).take (((i:Int)+1).toNat - i)=[U[i]].map aw:=by
    rw[show ((i:Int)+1).toNat - i=1 by omega,←List.map_drop,List.drop_eq_getElem_cons hlt]
    rfl
   have hs:=qh n false [U[i]] [x] (by simp) (fun q hq=>by simp at hq;subst hq;have:=hv _ (List.getElem_mem hlt);omega)
   have e2:[U[i]].map Er.core=[U[i].core]:=rfl
   have e3:[x].map Er.core=[x.core]:=rfl
   rw[e2,e3,←e1,show[x].map aw=[aw x]from rfl]at hs
   have hle:(i:Int)+1≤((U.length:Nat):Int):=by omega
   have Gm:(i:Int)≤(i:Int)+1:=by omega
   have Gn:(0:Int)≤(i:Int):=by omega
   rw[wq]at hs
   by_cases hc:U[i].core=x.core
   ·rw[decide_eq_true (by rw[hc])]at hs
    unfold ba.b0
    simp (disch:=omega) only[aA,hlen,hle,Gm,Gn,and_self,enc,hs,true_and]
   ·rw[decide_eq_false (by simpa using hc)]at hs
    have b6:=ih (i+1) (by omega) (by omega) ⟨z,by
     rw[List.drop_eq_getElem_cons hlt]at hz
     rcases List.mem_cons.1 hz with rfl |hz
     ·exact absurd hzc hc
     ·exact hz,hzc⟩
    rw[show k - (i+1)=k' by omega]at b6
    generalize iter k' (ba.b0 (Cl ty tab) k n (U.map aw))=ag at b6⊢
    unfold ba.b0
    simp (disch:=omega) only[aA,hlen,hle,Gm,Gn,and_self,enc,hs,true_and,Int.natCast_add,Int.natCast_one]at b6⊢
    exact b6
 exact key 0 (Nat.zero_le _) ⟨y,by rw[List.drop_zero];exact hy,hc⟩
theorem CE (h l h' l':Nat):∃ c:Int,Cl ty tab 65 [ze h l,ze h' l']=some [.int .i64 c]∧(c<0↔(h<h'∨(h=h'∧l<l')))∧(c=0↔(h=h'∧l=l')):=by
 by_cases h1:h=h'
 ·by_cases h2:l=l'
  ·refine⟨0,bv 0 _ _ _ _ ?_,by omega,by simp[h1,h2]⟩
   unfold bk
   simp (disch:=omega) only[aA,h1,h2]
  ·have e1: ¬(l:Int)=l':=by omega
   have e2: ¬((h':Int)<h'):=by omega
   by_cases h3:l<l'
   ·refine⟨-1,bv 0 _ _ _ _ ?_,by omega,by omega⟩
    unfold bk
    have:(l:Int)<l':=by omega
    simp (disch:=omega) only[aA,h1,e1,e2,this]
   ·refine⟨1,bv 0 _ _ _ _ ?_,by omega,by omega⟩
    unfold bk
    have: ¬(l:Int)<l':=by omega
    simp (disch:=omega) only[aA,h1,e1,e2,this]
 ·have e0: ¬(h:Int)=h':=by omega
  by_cases h3:h<h'
  ·refine⟨-1,bv 0 _ _ _ _ ?_,by omega,by omega⟩
   unfold bk
   have:(h:Int)<h':=by omega
   simp (disch:=omega) only[aA,e0,this]
  ·refine⟨1,bv 0 _ _ _ _ ?_,by omega,by omega⟩
   unfold bk
   have: ¬(h:Int)<h':=by omega
   simp (disch:=omega) only[aA,e0,this]
theorem zw {x y:Er} (h:ax x y=true):Cl ty tab 31 [P4 x.f x.h x.l x.n,P4 y.f y.h y.l y.n]=some [.bool true]:=by
 refine iQ 0 _ _ _ _ _ _ _ _ ?_
 unfold fg
 obtain⟨c,hc,h1,h2⟩:=CE x.h x.l y.h y.l
 unfold ax tf at h
 rw[decide_eq_true_eq,og]at h
 by_cases hf:x.f=y.f
 ·rcases h with h |⟨_,h⟩
  ·omega
  ·by_cases c0:c<0
   ·simp (disch:=omega) only[aA,hf,hc,c0,ne_eq,not_true_eq_false]
   ·have c1:c=0:=by
     rw[h2]
     have:=mt h1.2 c0
     omega
    have hlt:x.n<y.n:=by
     have:=h2.1 c1
     omega
    simp (disch:=omega) only[aA,hf,hc,c1,hlt,ne_eq,not_true_eq_false,Int.lt_irrefl]
 ·have:x.f<y.f:=by omega
  simp (disch:=omega) only[aA,hf,this,ne_eq,not_false_eq_true]
theorem zx {x:Er} (hx:x.vd) {p:Pf} (hp:p.ok):Cl ty tab 29 [.agg [.int .u8 x.f,.int .u64 (x.h:Int),.int .u64 (x.l:Int),.int .i64 x.n],.agg [.int .u8 p.f,.int .u64 (p.h:Int),.int .u64 (p.l:Int),.int .i64 (p.n:Int)]]=some [.bool (gq p x)]∧
  Cl ty tab 29 [.agg [.int .u8 p.f,.int .u64 (p.h:Int),.int .u64 (p.l:Int),.int .i64 (p.n:Int)],.agg [.int .u8 x.f,.int .u64 (x.h:Int),.int .u64 (x.l:Int),.int .i64 x.n]]=some [.bool (dN p x)]:=by
 have h1:=km hx.ok hp
 have h2:=km hp hx.ok
 have e:x.pf.d= .agg [.int .u8 x.f,.int .u64 (x.h:Int),.int .u64 (x.l:Int),.int .i64 x.n]:=by
  show P4 x.f x.h x.l (x.pf.n:Nat)=_
  rw[←hx.n0]
 rw[e]at h1 h2
 refine⟨h1, ?_⟩
 rw[h2]
 unfold dN
 have:decide (p.f=x.pf.f)=decide (x.f=p.f):=decide_eq_decide.2 ⟨Eq.symm,Eq.symm⟩
 rw[this]
 rfl
theorem CG (n:Bool) (L:List Er) (p:Px) (hn:n=true→L=[]) (hl:L.length≤9223372036854775807) (hg:∀ x,x∈L→x.eC) (hp:fE p.h p.l):Cl ty tab 6 [.sl 49 n (L.map aw),p.d]=some [.bool true]:=by
 obtain⟨k,hk⟩:=cP
 refine g_ k _ _ _ _ _ _ ?_
 unfold aq
 have hlen:(L.map aw).length=L.length:=by simp
 by_cases NV:40<L.length
 ·have:(40:Int)<((L.length:Nat):Int):=by omega
  simp (disch:=omega) only[aA,j9,hlen,this]
 have Gp: ¬(40:Int)<((L.length:Nat):Int):=by omega
 have hge:=zu n L (by omega)
 cases Kp:L.any fun x=>decide (100<x.vs.length)
 case true=>
  rw[Kp]at hge
  simp (disch:=omega) only[aA,j9,hlen,Gp,hge]
 rw[Kp]at hge
 have hrc:=m8 p.f p.h p.l p.n hp
 by_cases G6:co p.f p.h p.l p.n=0
 case neg=>simp (disch:=omega) only[aA,j9,hlen,Gp,hge,hrc,G6,ne_eq,not_false_eq_true]
 rw[G6]at hrc
 have hb:=Bd n L hn (by omega) hg
 rw[if_neg (by omega)]at hb
 by_cases hz:dh [] L=0
 case neg=>
  rw[if_pos hz]at hb
  simp (disch:=omega) only[aA,j9,hlen,Gp,hge,hrc,hb,hz,ne_eq,not_true_eq_false,not_false_eq_true,Int.natCast_zero]
 rw[if_neg (by simp[hz])]at hb
 obtain⟨v1,v2⟩:=xV hg hz
 have NW:=rI (f:=4) v1 v2
 have NX:=rI (f:=6) v1 v2
 rw[if_neg (by omega),d7,d7]at hb
 have Lq:∀ x,x∈L→gd x.vs=true:=fun x hx=>((j7 hz).1 x hx).2.1
 have xW:=wQ v1 Lq v2 (by omega) (by omega)
 have g4:=qg (f:=4) v1 v2
 have g6:=qg (f:=6) v1 v2
 obtain⟨q,hq,EK⟩:∃ q:Pf,q.ok∧q.d=p.d:=by
  have h:=G6
  have:p.n=((p.n.toNat:Nat):Int):=by
   unfold co at h
   split at h
   ·cases h
   ·split at h
    ·omega
    ·cases h
  refine⟨⟨p.f,p.h,p.l,p.n.toNat⟩,⟨hp, ?_⟩, ?_⟩
  ·show co p.f p.h p.l (p.n.toNat:Nat)=0
   rw[←this];exact h
  ·show P4 p.f p.h p.l (p.n.toNat:Nat)=_
   rw[←this]
 have Kq:=qx (bF 4 L).isEmpty (bF 6 L).isEmpty _ _ xW g4 g6 q hq
 have D3:=tv (bF 4 L).isEmpty (bF 6 L).isEmpty _ _ xW g4 g6 q hq
 rw[ls v1 v2]at Kq D3
 have xx:q.f=p.f∧q.h=p.h∧q.l=p.l∧(q.n:Int)=p.n:=by
  simp only[Pf.d,Px.d,P4,D.agg.injEq,List.cons.injEq,D.int.injEq,true_and,and_true]at EK
  exact⟨EK.1,Int.ofNat_inj.1 EK.2.1,Int.ofNat_inj.1 EK.2.2.1,EK.2.2.2⟩
 rw[←xx.1,←xx.2.1,←xx.2.2.1,←xx.2.2.2]at hrc⊢
 have hperm:=b9 L
 have vs:=j8 v1
 have hlt:=gg v1 v2
 have pu:=hperm.filter (gq q)
 have pd:=hperm.filter (dN q)
 have lu:=List.length_filter_le (gq q) L
 have ld:=List.length_filter_le (dN q) L
 rw[←pu.length_eq]at lu
 rw[←pd.length_eq]at ld
 have hU:∀ z,z∈(bh L).filter (gq q)→z∈bh L∧gq q z=true:=fun z hz=>List.mem_filter.1 hz
 have hW:∀ z,z∈(bh L).filter (dN q)→z∈bh L∧dN q z=true:=fun z hz=>List.mem_filter.1 hz
 have sU:=hlt.filter (gq q)
 have sW:=hlt.filter (dN q)
 have mU:∀ z,z∈L→gq q z=true→z∈(bh L).filter (gq q):=fun z hz hc=>List.mem_filter.2 ⟨hperm.mem_iff.2 hz,hc⟩
 have mW:∀ z,z∈L→dN q z=true→z∈(bh L).filter (dN q):=fun z hz hc=>List.mem_filter.2 ⟨hperm.mem_iff.2 hz,hc⟩
 have cU:(L.filter (gq q)).length=((bh L).filter (gq q)).length:=pu.length_eq.symm
 have cW:(L.filter (dN q)).length=((bh L).filter (dN q)).length:=pd.length_eq.symm
 generalize (bh L).filter (gq q)=U at*
 generalize (bh L).filter (dN q)=W at*
 have CH:(U.map aw).length=U.length:=by simp
 have CI:(W.map aw).length=W.length:=by simp
 have Lr: ¬((L.length:Nat):Int)<((U.length:Nat):Int):=by omega
 have nl2: ¬((L.length:Nat):Int)<((W.length:Nat):Int):=by omega
 have Gq:Cl ty tab 20 [.agg [.sl 69 (bF 4 L).isEmpty ((aK 4 L).map dk),.sl 69 (bF 6 L).isEmpty ((aK 6 L).map dk)],.agg [.int .u8 q.f,.int .u64 (q.h:Int),.int .u64 (q.l:Int),.int .i64 (q.n:Int)]]=some [.ov 49 U.isEmpty (U.map aw),.int .i64 0]:=Kq
 have Gr:Cl ty tab 22 [.agg [.sl 69 (bF 4 L).isEmpty ((aK 4 L).map dk),.sl 69 (bF 6 L).isEmpty ((aK 6 L).map dk)],.agg [.int .u8 q.f,.int .u64 (q.h:Int),.int .u64 (q.l:Int),.int .i64 (q.n:Int)]]=some [.ov 49 W.isEmpty (W.map aw),.int .i64 0]:=D3
 simp (disch:=omega) only[aA,j9,hlen,Gp,hge,hrc,hb,Gq,Gr,CH,CI,Lr,nl2,ne_eq,not_true_eq_false]
 have hl4:L.length≤40:=by omega
 clear Kq D3 Gq Gr hb hge Kp hrc xW g4 g6 NW NX Gp NV Lr nl2 EK xx G6 pu pd Lq hz
 have Ls:∀ (c d:Nat),c=U.length→d=W.length→∀ bb,bb=[D.int .i64 (c:Int),D.int .i64 (d:Int),D.int .i64 (L.length:Nat),.pv [.int .u8 q.f,.int .u64 (q.h:Int),.int .u64 (q.l:Int),.int .i64 (q.n:Int)],.ov 49 U.isEmpty (U.map aw),.ov 49 W.isEmpty (W.map aw)]→
   iter k (aq.b2 (Cl ty tab) k [.bool true] [.ov 49 U.isEmpty (U.map aw),.int .i64 0] [.ov 49 W.isEmpty (W.map aw),.int .i64 0] bb) [.int .i64 1,.ov 49 U.isEmpty (U.map aw),.ov 49 W.isEmpty (W.map aw)]=some [.bool true]:=by
  rintro c d rfl rfl bb rfl
  have:=br (R:=List D) (σ:=Nat) (F:=aq.b2 (Cl ty tab) k [.bool true] [.ov 49 U.isEmpty (U.map aw),.int .i64 0] [.ov 49 W.isEmpty (W.map aw),.int .i64 0] [D.int .i64 (U.length:Nat),D.int .i64 (W.length:Nat),D.int .i64 (L.length:Nat),.pv [.int .u8 q.f,.int .u64 (q.h:Int),.int .u64 (q.l:Int),.int .i64 (q.n:Int)],.ov 49 U.isEmpty (U.map aw),.ov 49 W.isEmpty (W.map aw)])
   (fun i=>[.int .i64 i,.ov 49 U.isEmpty (U.map aw),.ov 49 W.isEmpty (W.map aw)]) (fun _=>some [.bool true]) (fun i=>1000 - i) (fun i=>1≤i∧i≤900) (fun i hi again ih=> ?_) k 1 (by omega) (by omega)
  ·exact this
  ·unfold aq.b2
   rcases Nat.lt_or_ge i W.length with iE |Kr
   ·have g1:(W.map aw).getD i .undef=aw W[i]:=bo iE
    have g2:(W.map aw).getD (i - 1) .undef=aw W[i - 1]:=bo (by omega)
    have hb:=zw ((List.pairwise_iff_getElem.1 sW) (i - 1) i (by omega) iE (by omega))
    have b6:=ih (i+1) (by omega) (by omega)
    generalize W[i]=y at*
    generalize W[i - 1]=x at*
    clear ih
    simp (disch:=omega) only[aA,CI,g1,g2,enc,hb,Int.natCast_add,Int.natCast_one]at b6⊢
    exact b6
   ·have e1: ¬(i:Int)<((W.length:Nat):Int):=by omega
    simp (disch:=omega) only[aA,CH,CI,e1]
 have Lt:∀ (c d:Nat),c=U.length→d=W.length→∀ bb,bb=[D.int .i64 (c:Int),D.int .i64 (d:Int),D.int .i64 (L.length:Nat),.pv [.int .u8 q.f,.int .u64 (q.h:Int),.int .u64 (q.l:Int),.int .i64 (q.n:Int)],.ov 49 U.isEmpty (U.map aw),.ov 49 W.isEmpty (W.map aw)]→
   iter k (aq.b1 (Cl ty tab) k [.bool true] [.ov 49 U.isEmpty (U.map aw),.int .i64 0] [.ov 49 W.isEmpty (W.map aw),.int .i64 0] bb) [.int .i64 1,.ov 49 U.isEmpty (U.map aw),.ov 49 W.isEmpty (W.map aw)]=some [.bool true]:=by
  intro c d hc hd bb h7
  have:=br (R:=List D) (σ:=Nat) (F:=aq.b1 (Cl ty tab) k [.bool true] [.ov 49 U.isEmpty (U.map aw),.int .i64 0] [.ov 49 W.isEmpty (W.map aw),.int .i64 0] bb)
   (fun i=>[.int .i64 i,.ov 49 U.isEmpty (U.map aw),.ov 49 W.isEmpty (W.map aw)]) (fun _=>some [.bool true]) (fun i=>1000 - i) (fun i=>1≤i∧i≤900) (fun i hi again ih=> ?_) k 1 (by omega) (by omega)
  ·exact this
  ·unfold aq.b1
   rcases Nat.lt_or_ge i U.length with iE |Kr
   ·have g1:(U.map aw).getD i .undef=aw U[i]:=bo iE
    have g2:(U.map aw).getD (i - 1) .undef=aw U[i - 1]:=bo (by omega)
    have hb:=(List.pairwise_iff_getElem.1 sU) (i - 1) i (by omega) iE (by omega)
    have h1:=hU _ (List.getElem_mem iE)
    have h2:=hU _ (List.getElem_mem (show i - 1<U.length by omega))
    have b6:=ih (i+1) (by omega) (by omega)
    generalize U[i]=y at*
    generalize U[i - 1]=x at*
    have vy:=vs y h1.1
    have vx:=vs x h2.1
    have iY:x.n<y.n:=by
     have c1:=h1.2;have c2:=h2.2
     unfold gq at c1 c2
     rw[zq3,decide_eq_true_eq]at c1 c2
     rcases (qd vx vy).1 hb with g |⟨_,g⟩
     ·omega
     ·have:=B6 (eU.1 c2.2) (eU.1 c1.2) g
      rw[vx.n0,vy.n0]
      have e1:x.en.k.length=x.pf.n:=x.pf.len
      have e2:y.en.k.length=y.pf.n:=y.pf.len
      omega
    have Ks: ¬y.n≤x.n:=by omega
    clear ih
    simp (disch:=omega) only[aA,CH,g1,g2,enc,Ks,Int.natCast_add,Int.natCast_one]at b6⊢
    exact b6
   ·have e1: ¬(i:Int)<((U.length:Nat):Int):=by omega
    simp (disch:=omega) only[aA,CH,CI,e1]
    exact Ls c d hc hd bb h7
 have:=cS (F:=aq.b0 (Cl ty tab) k (L.map aw) [.bool true] [.ov 49 U.isEmpty (U.map aw),.int .i64 0] [.ov 49 W.isEmpty (W.map aw),.int .i64 0]) L.length
  (fun i=>[.int .i64 (((L.take i).filter (gq q)).length:Nat),.int .i64 (((L.take i).filter (dN q)).length:Nat),.int .i64 i,.pv [.int .u8 q.f,.int .u64 (q.h:Int),.int .u64 (q.l:Int),.int .i64 (q.n:Int)],.ov 49 U.isEmpty (U.map aw),.ov 49 W.isEmpty (W.map aw)]) (fun _=>some [.bool true]) (fun i hi again ha=> ?_) (fun again=> ?_) k (by omega) 0 (by omega)
 ·exact this
 ·unfold aq.b0
  have hx:L[i]? =some L[i]:=zq4 _
  have g1:(L.map aw).getD i .undef=aw L[i]:=bo hi
  have hm:=List.getElem_mem hi
  rw[List.take_add_one,hx,Option.toList_some,List.filter_append,List.filter_append,List.length_append,List.length_append,List.filter_cons,List.filter_cons,List.filter_nil]at ha
  have b1:=List.length_filter_le (gq q) (L.take i)
  have b2:=List.length_filter_le (dN q) (L.take i)
  rw[List.length_take]at b1 b2
  generalize ((L.take i).filter (gq q)).length=c at*
  generalize ((L.take i).filter (dN q)).length=d at*
  generalize L[i]=x at*
  have vx:=v1 x hm
  obtain⟨k1,k2⟩:=zx vx hq
  have i1:=fun h=>Df U.isEmpty U x x (by omega) (fun z hz=>by have:=(vs z (hU z hz).1).vs.2;omega) (mU x hm h) rfl
  have i2:=fun h=>Df W.isEmpty W x x (by omega) (fun z hz=>by have:=(vs z (hW z hz).1).vs.2;omega) (mW x hm h) rfl
  clear Lt Ls hU hW mU mW sU sW hlt vs v1 v2 hg
  cases h1:gq q x
  ·rw[h1]at k1 ha
   cases h2:dN q x
   ·rw[h2]at k2 ha
    simp (disch:=omega) only[aA,hlen,g1,enc,k1,k2,List.length_nil,Nat.add_zero,Int.natCast_add,Int.natCast_one]at ha⊢
    exact ha
   ·rw[h2]at k2 ha
    have i2:=i2 h2
    simp (disch:=omega) only[aA,hlen,g1,enc,k1,k2,i2,List.length_nil,List.length_cons,Nat.add_zero,Nat.zero_add,Int.natCast_add,Int.natCast_one]at ha⊢
    exact ha
  ·rw[h1]at k1 ha
   have i1:=i1 h1
   cases h2:dN q x
   ·rw[h2]at k2 ha
    simp (disch:=omega) only[aA,hlen,g1,enc,k1,k2,i1,List.length_nil,List.length_cons,Nat.add_zero,Nat.zero_add,Int.natCast_add,Int.natCast_one]at ha⊢
    exact ha
   ·rw[h2]at k2 ha
    have i2:=i2 h2
    simp (disch:=omega) only[aA,hlen,g1,enc,k1,k2,i1,i2,List.length_nil,List.length_cons,Nat.add_zero,Nat.zero_add,Int.natCast_add,Int.natCast_one]at ha⊢
    exact ha
 ·unfold aq.b0
  rw[List.take_length]
  have e1: ¬((L.length:Nat):Int)<((L.length:Nat):Int):=by omega
  simp (disch:=omega) only[aA,hlen,e1]
  exact Lt _ _ cU cW _ rfl
theorem Gs {d:D} (h:Vk.fits ⟨true,[.int .u8,.int .u64,.int .u64,.int .i64,.sl 3]⟩ d=true) (hw:WT ty d):∃ x:Er,d=aw x∧x.eC:=by
 obtain⟨cs,rfl,h⟩:=uB h
 obtain⟨d1,cs,rfl,h1,h⟩:=cA h
 obtain⟨d2,cs,rfl,h2,h⟩:=cA h
 obtain⟨d3,cs,rfl,h3,h⟩:=cA h
 obtain⟨d4,cs,rfl,h4,h⟩:=cA h
 obtain⟨d5,cs,rfl,h5,h⟩:=cA h
 obtain rfl:=re h
 obtain⟨f,rfl⟩:=eh h1
 obtain⟨hh,rfl⟩:=eh h2
 obtain⟨l,rfl⟩:=eh h3
 obtain⟨n,rfl⟩:=eh h4
 obtain⟨hh,rfl,b1⟩:=tw (hw.cells _ (by simp:D.int .u64 hh∈_))
 obtain⟨l,rfl,b2⟩:=tw (hw.cells _ (by simp:D.int .u64 l∈_))
 obtain⟨nb,v,rfl,e1,e2,e3⟩:=FW h5 (hw.cells _ (by simp))
 exact⟨⟨f,hh,l,n,nb,v⟩,rfl,⟨b1,b2⟩,e1⟩
theorem CJ {d:D} (h:fits (.sl 49) d=true) (hw:WT ty d):∃ (nb:Bool) (A:List Er),d= .sl 49 nb (A.map aw)∧(nb=true→A=[])∧A.length≤9223372036854775807∧∀ x,x∈A→x.eC:=by
 obtain⟨nb,els,rfl⟩:=xB h
 obtain⟨h1,h2,h3,h4⟩:=hw.els
 obtain⟨A,rfl,hA⟩:=jL (f:=aw) (Q:=Er.eC) (els:=els) fun d hd=>Gs (h3 _ rfl d hd) (h4 _ hd)
 exact⟨nb,A,rfl,fun h=>by simpa using h2 h,by simpa using h1,hA⟩
theorem tz:sw ty tab 6 [⟨false,[.sl 49]⟩,⟨true,[.int .u8,.int .u64,.int .u64,.int .i64]⟩]:=by
 refine wo fun dd hf hw=> ?_
 obtain⟨d1,dd,rfl,h1,hf⟩:=pp hf
 obtain⟨d2,dd,rfl,h2,hf⟩:=pp hf
 obtain rfl:=y_ hf
 obtain⟨nb,A,rfl,a1,a2,a3⟩:=CJ (uA h1) (hw _ (by simp))
 obtain⟨p,rfl,hp⟩:=FX h2 (hw _ (by simp))
 exact CG nb A p a1 a2 a3 hp
end Go.Proofs.Ytkfnkiejikhglaa.Own
